import Derived.Test.YtlabjopijpkiaaaGreatQAK
import Derived.Test.YtlabjopijpkiaaaGreatQAN
import Derived.Test.YtlabjopijpkiaaaGreatQAP
import Derived.Test.YtlabjopijpkiaaaGreatQAQ
set_option maxHeartbeats 16000000
set_option maxRecDepth 20000
set_option linter.unusedSectionVars false
set_option linter.unusedSimpArgs false
set_option linter.unusedVariables false
namespace Go.TL
open Go.Conc
variable [bh]
structure Base where
 S:al
 B:aH
 H:υ
 σ:List Row
 m:Nat
def V (P:Program) (Q:Value->Prop) (mn:Bool) (x:fZ) (b:Frame) (cs:List Frame) (nt:Nat) (o:Base) (k:List Item) (env:Φ) (σ:List Row):Prop:=
 ∀(S:al) (B:aH) (H:υ) (t:Array Value),eD o.m o.S o.B o.H o.σ S B H σ->e5 o.m nt S B H σ env t->aB P Q mn x (ai b t k) cs H
def Tl (P:Program) (Q:Value->Prop) (mn:Bool) (x:fZ) (b:Frame) (cs:List Frame) (o:Base) (a:ζ) (env:Φ) (σ:List Row):Prop:=
 ∀(S:al) (B:aH) (H:υ) (t:Array Value) (k:List Item) (v:Value),eD o.m o.S o.B o.H o.σ S B H σ->Holds S B σ H->cY S B σ env t->ah S B σ a v->aB P Q mn x {ai b t k with mode:=.panicking [{v,recovered:=false}]} cs H
structure tS (P:Program) (d:Deferred) (g:FuncId) (vs:Array Value):Prop where
 t1:∀r,d.target≠.collected r
 t2:d.target≠.nil
 run:∀w,(invoke d.target d.args).runT P w #[]=(.ok (.enter g vs) w,#[])
section
variable {P:Program} {T:aZ} {A:List Nat} {Q:Value->Prop} {mn:Bool} {x:fZ} {b:Frame} {cs:List Frame} {m nt:Nat} {o:Base} {k:List Item} {env:Φ} {σ:List Row} {S aj:al} {B B':aH} {H H':υ} {σ':List Row} {t:Array Value} {Z:List Item->Φ->List Row->Prop} {E:ζ->Φ->List Row->Prop}
theorem V.a0 (U:Seq x) (hb:b.mode=.run) (h:W P o.m nt k env σ (V P Q mn x b cs nt o) (Tl P Q mn x b cs o)):V P Q mn x b cs nt o k env σ:=
 λS B H t κ χ=>h Q mn x cs b S B H t U hb χ (λj env' σ' aj B' H' t' Χ Ν eo hl Β=>by
  have e:Χ=j:=Β;subst e;exact Ν aj B' H' t' (κ.trans eo) hl) (λa env' σ' aj B' H' t' Χ v he eo ψ ν ι=>he aj B' H' t' Χ v (κ.trans eo) ψ ν ι)
theorem V.here (h:V P Q mn x b cs nt ⟨S,B,H,σ,m⟩ k env σ) (χ:e5 m nt S B H σ env t):aB P Q mn x (ai b t k) cs H:=h S B H t .refl χ
theorem W.b0 {id:Nat} {ops:Array Oper} (h:W P m nt (.inRegion ops (idx ops.size [])::k) env σ Z E):W P m nt (.code (.region id ops false)::k) env σ Z E:=
 λQ mn x cs b S B H t U hb χ Ν he=>.region U hb (by rw[<-idx_eq];exact h Q mn x cs b S B H t U hb χ Ν he)
theorem W.part (Ζ:bE P T) (is mJ:List Nat) {ops:Array Oper} {l:List Nat} (Β:l=is++mJ) (h:∀θ:Φ->List Row->Prop,(∀env σ,W P m nt (.inRegion ops mJ::k) env σ Z E->θ env σ)->run P T A nt ops is env σ θ E):W P m nt (.inRegion ops l::k) env σ Z E:=
 Β▸E7 Ζ mJ is env σ (h _ λ_ _ h=>h)
theorem FH (ν:cY S B σ env t) (args:Array Operand):e6 S B σ (args.toList.map (aG env)) (args.map (a8 t)):=by
 refine⟨by simp,λi a v J R=>?_⟩;rw[List.getElem?_map,Array.getElem?_toList] at J;rw[Array.getElem?_map] at R;cases U:args[i]? with
 | none=>rw[U] at J;cases J
 | some y=>rw[U] at J R;cases J;cases R;exact kv ν y
theorem Plain.enter {g:FuncId} (h:Plain P g) (vs:Array Value) (w:World):(callFunc g vs).runT P w #[]=(.ok (.enter g vs) w,#[]):=by
 obtain⟨fn,J,R,ς⟩:=h;unfold callFunc;show Sem.runT P (Sem.bind program λp=>_) w #[]=_;simp only[program,Sem.bind];show Sem.runT P (match P.funcs[g]? with|none=>_|some fn=>_) w #[]=_;rw[J];simp only[R,ς,Bool.false_eq_true,if_false];rfl
theorem e5.put {op:Oper} {a:ζ} {v:Value} (χ:e5 m nt S B H σ env t) (hd:g4 nt op=true) (κ:ah S B σ a v):e5 m nt S B H σ (bX op env a) (put op t v):=
 ⟨χ.holds,(pA χ.b7 hd χ.size κ).1,(pA χ.b7 hd χ.size κ).2,χ.rows⟩
theorem eD.all (h:eD m S B H σ aj B' H' σ') (ψ:Holds S B σ H) (hm:σ.length<=m):bQ S aj B B' σ σ':=by
 have:=h.later
 rwa [List.take_of_length_le (by rw[ψ.len];exact hm),List.take_of_length_le hm] at this
theorem V.defer (U:Seq x) (hb:b.mode=.run) (bZ:b.roundOf=none) {ops:Array Oper} {i:Nat} {rest:List Nat} {op:Oper} (ω:ops[i]?=some op) (hw:e7 env ops op=some true) (pB:op.dst=none) {f:Operand} {args:Array Operand} {dI:Array TypeId} (Θ:op.op=.defer ⟨.value f,args,dI⟩)
  {g:FuncId} {first captured:List ζ} (ab:aG env f=.fn (.func g) first captured) (Ο:Plain P g)
  (h:∀(S:al) (B:aH) (H:υ) (t:Array Value) (d:Deferred) (vs:Array Value),eD o.m o.S o.B o.H o.σ S B H σ->e5 o.m nt S B H σ env t->e6 S B σ (first++args.toList.map (aG env)++captured) vs->tS P d g vs->
   aB P Q mn x (ai {b with defers:=d::b.defers} t (.inRegion ops rest::k)) cs H):V P Q mn x b cs nt o (.inRegion ops (i::rest)::k) env σ:=by
 intro S B H t κ χ;refine .op U hb ω (iY χ.b7 hw) (.inl bZ) ?_;have c6:=kv χ.b7 f;rw[ab] at c6;have lh:=FH χ.b7 args;have e:execOp (a8 t) op=(do pure (.defer (<-Deferred.ofValue (a8 t f) (args.map (a8 t))))):=by unfold execOp;rw[Θ];rfl
 rw[e];generalize a8 t f=bj at c6;cases c6 with
 | fn v1 v2 J R ς Κ=>
  refine π.bind' (π.pure' (π.pure' ?_));have Kv:put op t undef=t:=by unfold put;rw[pB]
  simp only[I7,Kv];have r1:e6 S B σ first v1:=⟨J,ς⟩
  have r2:e6 S B σ captured v2:=⟨R,Κ⟩;exact h S B H t ⟨.fn (.func g) v2,v1++args.map (a8 t)⟩ (v1++args.map (a8 t)++v2) κ χ ((r1.append lh).append r2) ⟨λ_ h=>(by cases h),λh=>(by cases h),λw=>Ο.enter _ w⟩
theorem aB.recovered (U:Seq x) (hb:b.mode=.run) (bZ:b.roundOf=none) {ops:Array Oper} {i:Nat} {rest:List Nat} {op:Oper} (ω:ops[i]?=some op) (Ο:op.guard=none) {dI:Array TypeId} (Θ:op.op=.call ⟨.builtin .recover,#[],dI⟩) {v:Value} {cs':List Frame}
  (ι:(tryRecover (ai b t (.inRegion ops (i::rest)::k)) cs=some (v,cs'))\/(tryRecover (ai b t (.inRegion ops (i::rest)::k)) cs=none/\v=.nilIface/\cs'=cs))
  (h:aB P Q mn x (ai b (put op t v) (.inRegion ops rest::k)) cs' H):aB P Q mn x (ai b t (.inRegion ops (i::rest)::k)) cs H:=by
 refine .op U hb ω (by unfold Region.wanted;rw[Ο]) (.inl bZ) ?_;have e:execOp (a8 t) op=pure .recover:=by unfold execOp;rw[Θ];rfl
 rw[e];refine π.pure' ⟨bZ,?_⟩;rcases ι with ι|⟨ι,rfl,rfl⟩
 ·rw[ι];exact h
 ·rw[ι];exact h
end
theorem results_none {fn:Func} (h:fn.results=#[]) (t:Array Value):results fn t=pure (.tuple #[]):=by
 unfold results;rw[h];simp
theorem oz {P:Program} {g:FuncId} {fn:Func} {body:Code} (cA:P.funcs[g]?=some fn) (l7:fn.body=some body) (vs:Array Value) (kd:CallKind):Frame.enter P g vs kd=ai (Frame.enter P g vs kd) (vs++Array.replicate (fn.ntmps-vs.size) undef) [.code body]:=by
 simp[Frame.enter,ai,cA,l7]
theorem e5.enter {S:al} {B:aH} {H:υ} {σ:List Row} {FI:List ζ} {vs:Array Value} {nt m:Nat} (ψ:Holds S B σ H) (hv:e6 S B σ FI vs) (hm:m<=σ.length) (Ι:FI.length<=nt):e5 m nt S B H σ (entry 0 FI) (vs++Array.replicate (nt-vs.size) undef):=
 ⟨ψ,J0 hv _,by have:=hv.1;simp;omega,hm⟩
end Go.TL
namespace Go.TL
open Go.Proofs
variable [bh]
def hA (s:a9) (before:List eS) (p:eS):Int:=
 if p.cK<0\/(s.ak.length:Int)<=p.cK then 3 else if before.any (λx=>x.cK==p.cK) then 4 else if valid p.seen=false\/valid p.bare=false then 1 else if pJ p.seen p.bare=0 then 0 else 9
theorem Tm (p x:eS):an Tryz.prog 195 [eT x,.Ω [δ p.cK,δ p.seen,δ p.bare]] (bJ (x.cK==p.cK)):=by
 refine aC.body Μ Tryz.func195 rfl rfl Tryz.ntmps195 rfl rfl (by simp) ?_;(repeat (first|apply μ|(refine ξ λθ I=>?_;simp;(repeat (rw[ε];simp));apply I)));refine W.ret ⟨_,rfl,?_,rfl⟩;exact .of (by simp[])
theorem Tn (s:a9) (before:List eS) (Β:before.length<2 ^ 62) (p:eS):aC Tryz.prog 153 [e8 s,ou before,eT p] [] (λa σ=>hA s before p=0/\a=.bn []/\σ=[]) (λa σ=>hA s before p≠0/\a=.fc 38 (δ (hA s before p))/\σ=[]):=by
 refine aC.body Μ Tryz.func153 rfl rfl Tryz.ntmps153 rfl rfl (by simp) ?_;(repeat (first|apply μ|(refine ξ λθ I=>?_;simp;(repeat (rw[ε];simp));apply I)));refine W.Kd (A:=[]) Μ mixed [(6,δ p.seen),(7,δ p.bare),(1,ou before),(3,.Ω [aJ s.Τ,aL s.ak,bx s.cells]),(5,.Ω [δ p.cK,δ p.seen,δ p.bare])] ?_ (by simp[cz,cy];exact cZ (by kernel_rfl))
 repeat apply μ
 refine W.tD (A:=[]) Μ [(12,bJ (decide (p.cK<0)||decide ((s.ak.length:Int)<=p.cK))),(6,δ p.seen),(7,δ p.bare),(1,ou before),(3,.Ω [aJ s.Τ,aL s.ak,bx s.cells]),(5,.Ω [δ p.cK,δ p.seen,δ p.bare])] ?_ (by by_cases q:p.cK<0<;>simp[ε,qP,q]);by_cases bs:p.cK<0\/(s.ak.length:Int)<=p.cK
 case pos=>
  have e:hA s before p=3:=by unfold hA;rw[if_pos bs]
  rw[e];refine ax (by simpa using bs) ?_;(repeat apply μ);refine ξ λθ I=>?_;simp;(repeat (rw[ε];simp))
 refine au (by simpa using bs) ?_;(repeat apply μ);refine ξ λθ I=>?_;simp;(repeat (rw[ε];simp));refine an.c (Tf before (.fn (.func 195) [] [.Ω [δ p.cK,δ p.seen,δ p.bare]]) (λx=>x.cK==p.cK) Β (by simp[iH]) (λx _=>λ_=>(Tm p x).cc (by simp;exact aE.refl _) (by simp) (by simp) ⟨rfl,rfl⟩)) (aE.refl _) (by simp[iH]) (by simp) ?_;simp;(repeat (rw[ε];simp));apply I;cases cF:before.any (λx=>x.cK==p.cK)
 case true=>
  have e:hA s before p=4:=by unfold hA;rw[if_neg bs,if_pos cF]
  rw[e];refine ax (by simp) ?_;(repeat apply μ);refine ξ λθ I=>?_;simp;(repeat (rw[ε];simp))
 refine au (by simp) ?_
 repeat apply μ
 have Kw:(valid p.seen=false\/valid p.bare=false)->hA s before p=1:=λh=>by unfold hA;rw[if_neg bs,cF];simp[h]
 cases fD:valid p.seen
 case false=>
  rw[Kw (.inl fD)];(repeat apply μ);refine ξ λθ I=>?_;simp;(repeat (rw[ε];simp));refine an.c (vB p.seen) (aE.refl _) (by simp) (by simp) ?_;simp[fD];(repeat (rw[ε];simp[fD]));apply I;refine ax rfl ?_;(repeat apply μ);refine ξ λθ I=>?_;simp;(repeat (rw[ε];simp))
 cases k2:valid p.bare
 case false=>
  rw[Kw (.inr k2)];(repeat apply μ);refine ξ λθ I=>?_;simp;(repeat (rw[ε];simp));refine an.c (vB p.seen) (aE.refl _) (by simp) (by simp) ?_;simp[fD];(repeat (rw[ε];simp[fD]));refine an.c (vB p.bare) (aE.refl _) (by simp) (by simp) ?_;simp[k2];(repeat (rw[ε];simp[k2]));apply I;refine ax rfl ?_;(repeat apply μ);refine ξ λθ I=>?_;simp;(repeat (rw[ε];simp))
 (repeat apply μ);refine ξ λθ I=>?_;simp;(repeat (rw[ε];simp));refine an.c (vB p.seen) (aE.refl _) (by simp) (by simp) ?_;simp[fD];(repeat (rw[ε];simp[fD]));refine an.c (vB p.bare) (aE.refl _) (by simp) (by simp) ?_;simp[k2];(repeat (rw[ε];simp[k2]));apply I;refine au rfl ?_;(repeat apply μ);refine ξ λθ I=>?_;simp;(repeat (rw[ε];simp));refine an.c (Ko p.seen p.bare) (aE.refl _) (by simp) (by simp) ?_;simp;(repeat (rw[ε];simp));apply I;by_cases r9:pJ p.seen p.bare=0
 ·have e:hA s before p=0:=by unfold hA;rw[if_neg bs,cF];simp[fD,k2,r9]
  refine au (by simp[r9]) ?_;(repeat (first|apply μ|(refine ξ λθ I=>?_;simp;(repeat (rw[ε];simp));apply I)));exact W.nil ⟨_,rfl,e,rfl,rfl⟩
 ·have e:hA s before p=9:=by unfold hA;rw[if_neg bs,cF];simp[fD,k2,r9]
  rw[e];refine ax (by simp[r9]) ?_;(repeat apply μ);refine ξ λθ I=>?_;simp;(repeat (rw[ε];simp))
end Go.TL
namespace Go.TL
open Go.Proofs Go.Conc
variable [bh]
theorem e6.later {S aj:al} {B B':aH} {σ σ':List Row} {l:List ζ} {vs:Array Value} (h:e6 S B σ l vs) (Β:bQ S aj B B' σ σ'):e6 aj B' σ' l vs:=⟨h.1,λi a v J R=>(h.2 i a v J R).later Β⟩
theorem tB.fin {P:Program} {Q:Value->Prop} {mn:Bool} {x:fZ} {c:Frame} {rest:List Frame} {S aj:al} {H H':υ} {B':aH} {σ':List Row} {v:Value} {r:ζ} (hb:tB P Q mn x c rest S [] H [] (λa s=>dr a r/\s=[]) (λ_ _=>False))
  (he:Ext S [] H aj B' H') (ψ:Holds aj B' σ' H') (ι:∀S B σ,ah S B σ r v):aB P Q mn x (c.finish v) rest H':=by
 obtain⟨J,R⟩:=ψ.close (h:=0) (λid r bS=>by omega);simp only[List.take_zero] at J R;exact hb.ret r [] _ [] H' v ⟨.refl _,rfl⟩ (he.trans R) ⟨λb o v hv=>R.cX _ _ _ (he.cX _ _ _ hv),λid r h=>by simp at h⟩ J (ι _ _ _)
abbrev qY (e:Int):List Row:=[.cells 38 1 [δ e]]
section
variable {Q:Value->Prop} {mn:Bool} {x:fZ} {c f:Frame} {rest:List Frame} {S br:al} {bB:aH} {H H1:υ} {cw e:Int} {nE:Array Value} {t:Array Value} {env:Φ} {err:Int}
theorem Kx (U:Seq x) (hb:tB Tryz.prog Q mn x c rest S [] H [] (λa s=>dr a (δ err)/\s=[]) (λ_ _=>False)) {d:Deferred} (hd:tS Tryz.prog d 152 nE)
  (cA:f.fn=122) (eh:f.defers=[d]) (Α:f.kind=.normal) (bZ:f.roundOf=none) (hm:(f.mode=.returning/\cw=err)\/∃v,f.mode=.panicking [{v,recovered:=false}]/\ah br bB (qY cw) (.fc 38 (δ err)) v)
  (qZ:Ext S [] H br bB H1) (ψ:Holds br bB (qY cw) H1) (hv:e6 br bB (qY cw) [.ae 0 1 0 0] nE) (ν:cY br bB (qY cw) env f.tmps) (aV:aW env 6=.ae 0 1 0 0):aB Tryz.prog Q mn x f (c::rest) H1:=by
 have To:f.mode≠.run:=by rcases hm with⟨h,_⟩|⟨v,h,_⟩<;>rw[h]<;>simp
 refine aB.deferred U To eh hd.t1 hd.t2 hd.run ?_;rw[oz Tryz.func152 rfl];have fin:∀(f':Frame) (iK:al) (nF:aH) (iL:υ),f'.mode=.returning->f'.defers=[]->f'.kind=.normal->f'.fn=f.fn->f'.tmps=f.tmps->Ext br bB H1 iK nF iL->bQ br iK bB nF (qY cw) (qY err)->Holds iK nF (qY err) iL->aB Tryz.prog Q mn x f' (c::rest) iL:=λf' iK nF iL fR fq BR BS Tp c7 aS jJ=>by
  refine aB.back U fR fq (.inl BR) (fn:=Tryz.f122) (by rw[BS,cA];exact Tryz.func122) ?_;rw[Tp];refine π.mono (λv gU ⟨hB,iM,eF,sR,aF,wT⟩=>?_) (λ_ _ h=>h) _ (Bp Μ (a:=δ err) (show pD a4 [.cell 6 38] env (qY err)=some (δ err) by simp[pD,qQ,vu,aV,tE,hq.agg]) jJ (ν.later aS));cases wT;exact hb.fin (qZ.trans (c7.trans eF)) aF λ_ _ _=>.z _
 refine V.here (m:=1) (nt:=10) (env:=entry 0 [.ae 0 1 0 0]) ?_ (e5.enter ψ hv (by simp) (by simp));refine V.a0 U rfl ?_
 repeat apply μ
 refine W.b0 ?_;refine W.stop ?_;intro jy jz ic t3 gI eY;rcases hm with⟨hm,rfl⟩|⟨v,hm,vG⟩
 ·refine aB.recovered U rfl rfl rfl rfl rfl (v:=.nilIface) (.inr ⟨?_,rfl,rfl⟩) ?_
  ·simp[tryRecover,ai,Frame.enter,hm]
  ·refine V.here (m:=1) ?_ (eY.put rfl (.z .nilIface));refine V.a0 U rfl ?_;refine W.part (A:=[]) Μ [1,2,3,4,5,6] [] rfl λθ I=>?_;simp[th];(repeat (rw[ε];simp[th]));apply I;refine W.bm ?_;(repeat (first|apply μ|(refine ξ λθ I=>?_;simp;(repeat (rw[ε];simp));apply I)));refine au rfl ?_;(repeat (first|apply μ|(refine ξ λθ I=>?_;simp;(repeat (rw[ε];simp));apply I)));refine W.stop ?_;intro iK nF iL t4 q0 oA;refine .qy U rfl rfl ?_;refine aB.Ei U rfl rfl rfl Tryz.func152 ?_;rw[results_none rfl];refine π.pure' ?_;simp only[hm];exact fin _ iK nF iL rfl rfl Α rfl rfl (gI.ext.trans q0.ext) ((gI.trans q0).all ψ (by simp)) oA.holds
 ·have q1:ah jy jz (qY cw) (.fc 38 (δ err)) v:=vG.later (gI.all ψ (by simp));refine aB.recovered U rfl rfl rfl rfl rfl (v:=v) (cs':={f with defers:=[],mode:=.panicking [{v,recovered:=true}]}::c::rest) (.inl ?_) ?_
  ·simp[tryRecover,ai,Frame.enter,hm]
  ·refine V.here (m:=1) ?_ (eY.put rfl q1);refine V.a0 U rfl ?_;refine W.part (A:=[]) Μ [1,2,3,4,5,6] [] rfl λθ I=>?_;simp[th];(repeat (rw[ε];simp[th]));apply I;refine W.bm ?_;(repeat (first|apply μ|(refine ξ λθ I=>?_;simp;(repeat (rw[ε];simp));apply I)));refine ax rfl ?_;(repeat (first|apply μ|(refine ξ λθ I=>?_;simp;(repeat (rw[ε];simp));apply I)));refine W.stop ?_;intro iK nF iL t4 q0 oA;refine .qy U rfl rfl ?_;refine aB.Ei U rfl rfl rfl Tryz.func152 ?_;rw[results_none rfl];refine π.pure' ?_;exact fin _ iK nF iL rfl rfl Α rfl rfl (gI.ext.trans q0.ext) ((gI.trans q0).all ψ (by simp)) oA.holds
end
theorem Tq (s:a9) (before:List eS) (Β:before.length<2 ^ 62) (p:eS):an Tryz.prog 122 [e8 s,ou before,eT p] (δ (hA s before p)):=by
 refine⟨⟨_,Tryz.func122,rfl,rfl⟩,λQ mn x c rest S B H vs U ψ hv hb=>?_⟩;have gY:B=[]:=dk.1 (by have:=ψ.len;simpa using this);subst gY;rw[oz Tryz.func122 rfl];refine V.here (m:=0) (nt:=12) (env:=entry 0 [e8 s,ou before,eT p]) ?_ (e5.enter ψ hv (by simp) (by simp));refine V.a0 U rfl ?_
 repeat apply μ
 refine dy (A:=[6]) Μ λθ I=>?_;simp;(repeat (rw[ε];simp));apply I
 repeat apply μ
 refine W.b0 ?_;refine W.part (A:=[]) Μ [0] [1] rfl λθ I=>?_;(try simp);(repeat (rw[ε];simp));apply I;refine W.stop ?_;refine V.defer U rfl rfl rfl rfl rfl rfl rfl ⟨_,Tryz.func152,rfl,rfl⟩ λbr bB H1 t1 d nE oB hV tF hd=>?_;refine V.here (m:=1) ?_ ⟨hV.holds,hV.b7,hV.size,by simp⟩;refine V.a0 U rfl ?_;refine W.bm ?_;(repeat apply μ);refine ξ λθ I=>?_;simp;(repeat (rw[ε];simp));refine ht.mono (aC.call (first:=[]) (captured:=[]) ((Tn s before Β p).mono (K':=λa a7=>hA s before p=0/\az 0 a/\a7=[]) (E':=λa a7=>(hA s before p≠0/\a=.fc 38 (δ (hA s before p)))/\az 0 a/\a7=[]) (λa a7 ⟨J,R,ς⟩=>⟨J,by subst R;simp,ς⟩) (λa a7 ⟨J,R,ς⟩=>⟨⟨J,R⟩,by subst R;simp,ς⟩) |>.frame (by simp))) (λa a7 ⟨af,ν⟩=>?_) (λa a7 ⟨⟨af,κ⟩,ν⟩=>?_)
 ·subst ν;(try simp);(repeat (rw[ε];simp));apply I;(repeat (first|apply μ|(refine ξ λθ I=>?_;simp;(repeat (rw[ε];simp));apply I)));refine W.stop ?_;intro cV fe bH t2 pL jA;refine aB.ret (b:={Frame.enter Tryz.prog 122 vs .normal with defers:=[d]}) U rfl rfl ?_;exact Kx U hb hd rfl rfl rfl rfl (.inl ⟨rfl,af.symm⟩) (oB.ext.trans pL.ext) jA.holds (tF.later (pL.all hV.holds (by simp))) jA.b7 rfl
 ·subst ν;subst κ;intro cV fe bH t2 cB v pL h6 dG sa;have tT:=pL.all hV.holds (by simp);refine Kx U hb hd rfl rfl rfl rfl (.inr ⟨v,rfl,sa⟩) (oB.ext.trans pL.ext) h6 (tF.later tT) dG ?_;rfl
end Go.TL
namespace Go.TL
open Go.Proofs
variable [bh]
theorem Tr:IntKind.i64.wrap 3=3:=by decide
def tU (l:List Int) (i:Nat):Int:=match l[i]? with
 | none=>0
 | some n=>if l' n=false then 3 else if 0<i/\n<=(l[i-1]?).getD 0 then 5 else 0
def vH (l:List Int):Int:=hU ((List.range l.length).map (tU l))
def mR (ls:List (List Int)):Int:=if ls.length=0 then 7 else if 4<ls.length then 6 else hU ((List.range ls.length).map λi=>vH ((ls[i]?).getD []))
theorem Ts (s:a9) (ν:s.small):an Tryz.prog 104 [e8 s] (δ (mR s.ak)):=by
 refine aC.body Μ Tryz.func104 rfl rfl Tryz.ntmps104 rfl rfl (by simp) ?_;have Β:=ν.2.1;by_cases gR:s.ak.length=0
 ·(repeat (first|apply μ|(refine ξ λθ I=>?_;simp;(repeat (rw[ε];simp[gR]));apply I)));refine ax (by simp) ?_;(repeat (first|apply μ|(refine ξ λθ I=>?_;simp;(repeat (rw[ε];simp));apply I)));refine W.ret ⟨_,rfl,?_,rfl⟩;exact .of (by rw[show mR s.ak=7 by simp[mR,gR]];rfl)
 by_cases nD:(4:Int)<s.ak.length
 ·(repeat (first|apply μ|(refine ξ λθ I=>?_;simp;(repeat (rw[ε];simp[gR,nD]));apply I)));refine au (by simp[gR]) ?_;(repeat (first|apply μ|(refine ξ λθ I=>?_;simp;(repeat (rw[ε];simp[gR,nD]));apply I)));refine ax (by simp) ?_;(repeat (first|apply μ|(refine ξ λθ I=>?_;simp;(repeat (rw[ε];simp));apply I)));refine W.ret ⟨_,rfl,?_,rfl⟩;exact .of (by rw[show mR s.ak=6 by simp[mR,gR];omega];rfl)
 have yq:mR s.ak=hU ((List.range s.ak.length).map λi=>vH ((s.ak[i]?).getD [])):=by
  unfold mR;rw[if_neg gR,if_neg (by omega)]
 rw[yq];(repeat (first|apply μ|(refine ξ λθ I=>?_;simp;(repeat (rw[ε];simp[gR,nD]));apply I)));refine au (by simp[gR]) ?_;(repeat (first|apply μ|(refine ξ λθ I=>?_;simp;(repeat (rw[ε];simp[gR,nD]));apply I)));refine au (by simp) ?_;(repeat (first|apply μ|(refine ξ λθ I=>?_;simp;(repeat (rw[ε];simp));apply I)));refine W.iter (λi:Nat=>i<=s.ak.length/\∀j,j<i->vH ((s.ak[j]?).getD [])=0) (λi=>[(1,.Ω [aJ s.Τ,aL s.ak,bx s.cells]),(18,aL s.ak),(19,δ s.ak.length),(20,δ i)]) (λ_=>[]) (λi=>s.ak.length-i) 0 ⟨by omega,λj γ=>by omega⟩ rfl (by simp) (λi hi Γ=>?_);(repeat (first|apply μ|(refine ξ λθ I=>?_;simp;(repeat (rw[ε];simp));apply I)));refine W.dR rfl (λη=>?_) (λη=>?_)
 ·have η:i<s.ak.length:=by simpa using η
  have oy:(s.ak[i]?).getD []=s.ak[i]:=by simp[η]
  have χ:s.ak[i].length<2 ^ 30:=ν.2.2.2.1 _ (List.getElem_mem η);(repeat (first|apply μ|(refine ξ λθ I=>?_;simp;(repeat (rw[ε];simp[η]));apply I)));refine W.iter (λn:Nat=>n<=s.ak[i].length/\∀j,j<n->tU s.ak[i] j=0) (λn=>[(1,.Ω [aJ s.Τ,aL s.ak,bx s.cells]),(18,aL s.ak),(19,δ s.ak.length),(20,δ i),(4,bC δ 1 s.ak[i]),(24,bC δ 1 s.ak[i]),(25,δ s.ak[i].length),(26,δ n)]) (λ_=>[]) (λn=>s.ak[i].length-n) 0 ⟨by omega,λj γ=>by omega⟩ rfl (by simp) (λn Ι FJ=>?_);(repeat (first|apply μ|(refine ξ λθ I=>?_;simp;(repeat (rw[ε];simp));apply I)));refine W.dR rfl (λa6=>?_) (λa6=>?_)
  ·have hd:n<s.ak[i].length:=by simpa using a6
   have vI:s.ak[i][n]?=some s.ak[i][n]:=aX hd
   have fin:∀e:Int,tU s.ak[i] n=e->e≠0->hU ((List.range s.ak.length).map λi=>vH ((s.ak[i]?).getD []))=e:=λe he af=>
    yo (i:=i) η (by rw[oy];exact yo hd he af Ι.2) af hi.2
   repeat apply μ
   refine ξ λθ I=>?_;simp;(repeat (rw[ε];simp[hd]));apply I;(repeat apply μ);refine ξ λθ I=>?_;simp;(repeat (rw[ε];simp));refine an.c (nA s.ak[i][n]) (aE.refl _) (by simp) (by simp) ?_;simp;(repeat (rw[ε];simp));apply I;cases bs:l' s.ak[i][n]
   ·refine ax (by simp) ?_;(repeat (first|apply μ|(refine ξ λθ I=>?_;simp;(repeat (rw[ε];simp));apply I)));refine W.ret ⟨_,rfl,?_,rfl⟩;exact .of (by rw[fin 3 (by simp[tU,vI,bs]) (by decide)];rfl)
   refine au (by simp) ?_
   repeat apply μ
   refine W.tD (A:=[]) Μ [(35,bJ (decide (0<n/\s.ak[i][n]<=(s.ak[i][n-1]?).getD 0))),(1,.Ω [aJ s.Τ,aL s.ak,bx s.cells]),(18,aL s.ak),(19,δ s.ak.length),(20,δ i),(4,bC δ 1 s.ak[i]),(24,bC δ 1 s.ak[i]),(25,δ s.ak[i].length),(26,δ n)] ?_ (by
    cases n with
    | zero=>simp[ε,qP]
    | succ n=>
     have jc:n<s.ak[i].length:=by omega
     have Δ:=fI (show n<2 ^ 62 by omega)
     have af:(0:Int)<(n:Int)+1:=by omega
     simp[ε,qP,af,jc,Δ])
   by_cases cF:0<n/\s.ak[i][n]<=(s.ak[i][n-1]?).getD 0
   ·refine ax (by simp only[cF];rfl) ?_;(repeat (first|apply μ|(refine ξ λθ I=>?_;simp;(repeat (rw[ε];simp));apply I)));refine W.ret ⟨_,rfl,?_,rfl⟩;exact .of (by rw[fin 5 (by simp only[tU,vI,bs];rw[if_neg (by simp),if_pos cF]) (by decide)];rfl)
   ·refine au (by simp only[cF];rfl) ?_;(repeat (first|apply μ|(refine ξ λθ I=>?_;simp;(repeat (rw[ε];simp));apply I)));refine W.forget _ ?_ (FJ (n+1) ⟨hd,λj γ=>?_⟩ (by omega))
    ·simp[eK hd (show s.ak[i].length<2 ^ 62 by omega)]
    ·by_cases e:j=n
     ·subst e;simp only[tU,vI,bs];rw[if_neg (by simp),if_neg cF]
     ·exact Ι.2 j (by omega)
  ·have hd:s.ak[i].length<=n:=by simpa using a6
   refine W.exit rfl ?_;(repeat (first|apply μ|(refine ξ λθ I=>?_;simp;(repeat (rw[ε];simp));apply I)));refine W.forget _ ?_ (Γ (i+1) ⟨η,λj γ=>?_⟩ (by omega))
   ·simp[eK η (show s.ak.length<2 ^ 62 by omega)]
   ·by_cases e:j=i
    ·subst e;rw[oy];exact yp λj γ=>Ι.2 j (by omega)
    ·exact hi.2 j (by omega)
 ·have η:s.ak.length<=i:=by simpa using η
  refine W.exit rfl ?_;(repeat (first|apply μ|(refine ξ λθ I=>?_;simp;(repeat (rw[ε];simp));apply I)));refine W.ret ⟨_,rfl,?_,rfl⟩;exact .of (by rw[yp (f:=λi=>vH ((s.ak[i]?).getD [])) λj γ=>hi.2 j (by omega)];rfl)
def oC (s:a9) (c:List eS):Int:=if 4<c.length then 6 else hU ((List.range c.length).map λi=>match c[i]? with|none=>0|some p=>hA s (c.take i) p)
def q2 (s:a9):Int:=if 4<s.cells.length then 6 else hU ((List.range s.cells.length).map λi=>oC s ((s.cells[i]?).getD []))
theorem Tt (s:a9) (ν:s.small):an Tryz.prog 105 [e8 s] (δ (q2 s)):=by
 refine aC.body Μ Tryz.func105 rfl rfl Tryz.ntmps105 rfl rfl (by simp) ?_;have Β:=ν.2.2.1;by_cases nD:(4:Int)<s.cells.length
 ·(repeat (first|apply μ|(refine ξ λθ I=>?_;simp;(repeat (rw[ε];simp[nD]));apply I)));refine ax (by simp) ?_;(repeat (first|apply μ|(refine ξ λθ I=>?_;simp;(repeat (rw[ε];simp));apply I)));refine W.ret ⟨_,rfl,?_,rfl⟩;exact .of (by rw[show q2 s=6 by simp[q2];omega];rfl)
 have yq:q2 s=hU ((List.range s.cells.length).map λi=>oC s ((s.cells[i]?).getD [])):=by
  unfold q2;rw[if_neg (by omega)]
 rw[yq];(repeat (first|apply μ|(refine ξ λθ I=>?_;simp;(repeat (rw[ε];simp[nD]));apply I)));refine au (by simp) ?_;(repeat (first|apply μ|(refine ξ λθ I=>?_;simp;(repeat (rw[ε];simp));apply I)));refine W.iter (λi:Nat=>i<=s.cells.length/\∀j,j<i->oC s ((s.cells[j]?).getD [])=0) (λi=>[(1,.Ω [aJ s.Τ,aL s.ak,bx s.cells]),(13,bx s.cells),(14,δ s.cells.length),(15,δ i)]) (λ_=>[]) (λi=>s.cells.length-i) 0 ⟨by omega,λj γ=>by omega⟩ rfl (by simp) (λi hi Γ=>?_);(repeat (first|apply μ|(refine ξ λθ I=>?_;simp;(repeat (rw[ε];simp));apply I)));refine W.dR rfl (λη=>?_) (λη=>?_)
 ·have η:i<s.cells.length:=by simpa using η
  have oy:(s.cells[i]?).getD []=s.cells[i]:=by simp[η]
  have χ:s.cells[i].length<2 ^ 30:=ν.2.2.2.2 _ (List.getElem_mem η)
  have Ky:∀e:Int,oC s s.cells[i]=e->e≠0->hU ((List.range s.cells.length).map λi=>oC s ((s.cells[i]?).getD []))=e:=λe he af=>
   yo (i:=i) η (by rw[oy];exact he) af hi.2
  by_cases Kz:(4:Int)<s.cells[i].length
  ·(repeat (first|apply μ|(refine ξ λθ I=>?_;simp;(repeat (rw[ε];simp[η,Kz]));apply I)));refine ax (by simp) ?_;(repeat (first|apply μ|(refine ξ λθ I=>?_;simp;(repeat (rw[ε];simp));apply I)));refine W.ret ⟨_,rfl,?_,rfl⟩;exact .of (by rw[Ky 6 (by unfold oC;rw[if_pos (by omega)]) (by decide)];rfl)
  (repeat (first|apply μ|(refine ξ λθ I=>?_;simp;(repeat (rw[ε];simp[η,Kz]));apply I)));refine au (by simp) ?_;(repeat (first|apply μ|(refine ξ λθ I=>?_;simp;(repeat (rw[ε];simp));apply I)));have KA:oC s s.cells[i]=hU ((List.range s.cells[i].length).map λn=>match s.cells[i][n]? with|none=>0|some p=>hA s (s.cells[i].take n) p):=by unfold oC;rw[if_neg (by omega)]
  refine W.iter (λn:Nat=>n<=s.cells[i].length/\∀j,j<n->(match s.cells[i][j]? with|none=>0|some p=>hA s (s.cells[i].take j) p)=0) (λn=>[(1,.Ω [aJ s.Τ,aL s.ak,bx s.cells]),(13,bx s.cells),(14,δ s.cells.length),(15,δ i),(4,ou s.cells[i]),(22,ou s.cells[i]),(23,δ s.cells[i].length),(24,δ n)]) (λ_=>[]) (λn=>s.cells[i].length-n) 0 ⟨by omega,λj γ=>by omega⟩ rfl (by simp) (λn Ι FJ=>?_);(repeat (first|apply μ|(refine ξ λθ I=>?_;simp;(repeat (rw[ε];simp));apply I)));refine W.dR rfl (λa6=>?_) (λa6=>?_)
  ·have hd:n<s.cells[i].length:=by simpa using a6
   have vI:s.cells[i][n]?=some s.cells[i][n]:=aX hd
   repeat apply μ
   refine dy (A:=[6]) Μ λθ I=>?_;simp;(repeat (rw[ε];simp[hd]));apply I;refine W.fix (id:=0) (σ':=[]) (Nat.zero_le _) rfl (by simp) (by simp) rfl [(5,δ n),(6,.Ω [δ s.cells[i][n].cK,δ s.cells[i][n].seen,δ s.cells[i][n].bare]),(1,.Ω [aJ s.Τ,aL s.ak,bx s.cells]),(13,bx s.cells),(14,δ s.cells.length),(15,δ i),(4,ou s.cells[i]),(22,ou s.cells[i]),(23,δ s.cells[i].length),(24,δ n)] (by simp) ?_
   repeat apply μ
   refine W.draw (A:=[]) Μ mixed λθ I=>?_;simp;(repeat (rw[cz];simp[hd,Nat.le_of_lt hd]));try rw[cy]
   (try simp only[<-List.map_take]);refine iI (an.p (Tq s (s.cells[i].take n) (by simp;omega) s.cells[i][n]) (aE.refl _) (by simp) (by simp)) ?_;simp;(repeat (rw[cz];simp));try rw[cy]
   refine⟨cZ (by kernel_rfl),I _ _ ?_⟩
   repeat apply μ
   (repeat (first|apply μ|(refine ξ λθ I=>?_;simp;(repeat (rw[ε];simp));apply I)));by_cases b:hA s (s.cells[i].take n) s.cells[i][n]=0
   ·refine au (by simp[b]) ?_;(repeat (first|apply μ|(refine ξ λθ I=>?_;simp;(repeat (rw[ε];simp));apply I)));refine W.forget _ ?_ (FJ (n+1) ⟨hd,λj γ=>?_⟩ (by omega))
    ·simp[eK hd (show s.cells[i].length<2 ^ 62 by omega)]
    ·by_cases e:j=n
     ·subst e;rw[vI];exact b
     ·exact Ι.2 j (by omega)
   ·refine ax (by simp[b]) ?_;(repeat (first|apply μ|(refine ξ λθ I=>?_;simp;(repeat (rw[ε];simp));apply I)));refine W.ret ⟨_,rfl,?_,rfl⟩;exact .of (by rw[Ky (hA s (s.cells[i].take n) s.cells[i][n]) (by rw[KA];exact yo hd (by rw[vI]) b Ι.2) b];rfl)
  ·have hd:s.cells[i].length<=n:=by simpa using a6
   refine W.exit rfl ?_;(repeat (first|apply μ|(refine ξ λθ I=>?_;simp;(repeat (rw[ε];simp));apply I)));refine W.forget _ ?_ (Γ (i+1) ⟨η,λj γ=>?_⟩ (by omega))
   ·simp[eK η (show s.cells.length<2 ^ 62 by omega)]
   ·by_cases e:j=i
    ·subst e;rw[oy,KA];exact yp λj γ=>Ι.2 j (by omega)
    ·exact hi.2 j (by omega)
 ·have η:s.cells.length<=i:=by simpa using η
  refine W.exit rfl ?_;(repeat (first|apply μ|(refine ξ λθ I=>?_;simp;(repeat (rw[ε];simp));apply I)));refine W.ret ⟨_,rfl,?_,rfl⟩;exact .of (by rw[yp (f:=λi=>oC s ((s.cells[i]?).getD [])) λj γ=>hi.2 j (by omega)];rfl)
def a9.err (s:a9):Int:=if mQ s.Τ≠0 then mQ s.Τ else if mR s.ak≠0 then mR s.ak else q2 s
theorem BT (s:a9) (ν:s.small):an Tryz.prog 48 [e8 s] (δ s.err):=by
 refine aC.body Μ Tryz.func48 rfl rfl Tryz.ntmps48 rfl rfl (by simp) ?_;(repeat (first|apply μ|(refine ξ λθ I=>?_;simp;(repeat (rw[ε];simp));apply I)));refine .loop ?_;(repeat (first|apply μ|(refine ξ λθ I=>?_;simp;(repeat (rw[ε];simp));apply I)));refine ax rfl ?_;(repeat (first|apply μ|(refine ξ λθ I=>?_;simp;(repeat (rw[ε];simp));apply I)));(repeat apply μ);refine ξ λθ I=>?_;simp;(repeat (rw[ε];simp));refine an.c (Tk s ν) (aE.refl _) (by simp) (by simp) ?_;simp;(repeat (rw[ε];simp));apply I;(repeat (first|apply μ|(refine ξ λθ I=>?_;simp;(repeat (rw[ε];simp));apply I)));by_cases bs:mQ s.Τ=0
 case neg=>
  refine ax (by simp[bs]) ?_;(repeat (first|apply μ|(refine ξ λθ I=>?_;simp;(repeat (rw[ε];simp));apply I)));refine W.ret ⟨_,rfl,?_,rfl⟩;exact .of (by rw[show s.err=mQ s.Τ by unfold a9.err;rw[if_pos bs]];rfl)
 refine au (by simp[bs]) ?_;(repeat (first|apply μ|(refine ξ λθ I=>?_;simp;(repeat (rw[ε];simp[FA]));apply I)));refine .inLoop ?_;(repeat (first|apply μ|(refine ξ λθ I=>?_;simp;(repeat (rw[ε];simp));apply I)));refine ax rfl ?_;(repeat (first|apply μ|(refine ξ λθ I=>?_;simp;(repeat (rw[ε];simp));apply I)));(repeat apply μ);refine ξ λθ I=>?_;simp;(repeat (rw[ε];simp));refine an.c (Ts s ν) (aE.refl _) (by simp) (by simp) ?_;simp;(repeat (rw[ε];simp));apply I;(repeat (first|apply μ|(refine ξ λθ I=>?_;simp;(repeat (rw[ε];simp));apply I)));by_cases cF:mR s.ak=0
 case neg=>
  refine ax (by simp[cF]) ?_;(repeat (first|apply μ|(refine ξ λθ I=>?_;simp;(repeat (rw[ε];simp));apply I)));refine W.ret ⟨_,rfl,?_,rfl⟩;exact .of (by rw[show s.err=mR s.ak by unfold a9.err;rw[if_neg (by simp[bs]),if_pos cF]];rfl)
 refine au (by simp[cF]) ?_;(repeat (first|apply μ|(refine ξ λθ I=>?_;simp;(repeat (rw[ε];simp[FB]));apply I)));refine .inLoop ?_;(repeat (first|apply μ|(refine ξ λθ I=>?_;simp;(repeat (rw[ε];simp));apply I)));refine ax rfl ?_;(repeat (first|apply μ|(refine ξ λθ I=>?_;simp;(repeat (rw[ε];simp));apply I)));(repeat apply μ);refine ξ λθ I=>?_;simp;(repeat (rw[ε];simp));refine an.c (Tt s ν) (aE.refl _) (by simp) (by simp) ?_;simp;(repeat (rw[ε];simp));apply I;(repeat (first|apply μ|(refine ξ λθ I=>?_;simp;(repeat (rw[ε];simp));apply I)));have e:s.err=q2 s:=by unfold a9.err;rw[if_neg (by simp[bs]),if_neg (by simp[cF])]
 rw[e];by_cases fD:q2 s=0
 case neg=>
  refine ax (by simp[fD]) ?_;(repeat (first|apply μ|(refine ξ λθ I=>?_;simp;(repeat (rw[ε];simp));apply I)));refine W.ret ⟨_,rfl,?_,rfl⟩;exact .of rfl
 refine au (by simp[fD]) ?_;(repeat (first|apply μ|(refine ξ λθ I=>?_;simp;(repeat (rw[ε];simp[Tr]));apply I)));refine .inLoop ?_;(repeat (first|apply μ|(refine ξ λθ I=>?_;simp;(repeat (rw[ε];simp));apply I)));refine au rfl ?_;refine W.exit rfl ?_;(repeat (first|apply μ|(refine ξ λθ I=>?_;simp;(repeat (rw[ε];simp));apply I)));refine W.ret ⟨_,rfl,?_,rfl⟩;exact .of (by rw[fD];rfl)
section
variable {P:Program} {T:aZ} {A:List Nat} {m nt:Nat} {k:List Item} {env:Φ} {σ:List Row} {Z:List Item->Φ->List Row->Prop} {E:ζ->Φ->List Row->Prop}
theorem W.hD (Ζ:bE P T) (env':Φ) (σ':List Row) {id:Nat} {ops:Array Oper} (h:W P m nt k env' σ' Z E) (ι:run P T A nt ops (idx ops.size []) env σ (λe s=>s=σ'/\∀p∈env',aW e p.1=p.2) E):W P m nt (.code (.region id ops false)::k) env σ Z E:=
 dy Ζ λθ I=>Bn (λe s ⟨J,R⟩=>I e s (J▸W.forget env' R h)) _ _ _ ι
end
def eU (l:List ζ):ζ:=if l.isEmpty then .sl true 0 [] else .ms 0 l.length 0 l.length
def bz (t:TypeId) (k:Nat) (l:List ζ):List Row:=if l.isEmpty then [] else [.cells t k l]
def fJ (k:Nat) (l:List ζ):ζ:=if l.isEmpty then .sl true 0 [] else .sl false k l
theorem mS:eU []=.sl true 0 []:=rfl
theorem iN {t k:Nat}:bz t k []=[]:=rfl
theorem oD {l:List ζ} (h:l≠[]):eU l=.ms 0 l.length 0 l.length:=by unfold eU;rw[if_neg (by simpa using h)]
theorem ei {t k:Nat} {l:List ζ} (h:l≠[]):bz t k l=[.cells t k l]:=by unfold bz;rw[if_neg (by simpa using h)]
theorem sb {l:List ζ} {x:ζ}:eU (l++[x])=.ms 0 (l.length+1) 0 (l.length+1):=by rw[oD (by simp)];simp
theorem oE {t k:Nat} {l:List ζ} {x:ζ}:bz t k (l++[x])=[.cells t k (l++[x])]:=ei (by simp)
theorem et.acc {t k:Nat} {l:List ζ} (hb:∀e∈l,∀a∈e.cells,az 0 a):et 0 (bz t k l) (eU l) (fJ k l):=by
 unfold bz eU fJ;cases h:l.isEmpty with
 | true=>exact .low (by simp)
 | false=>exact .own (Nat.zero_le _) rfl rfl hb
theorem dr.acc {k:Nat} {l:List ζ}:dr (fJ k l) (.sl false k l):=by
 unfold fJ;cases h:l.isEmpty with
 | true=>rw[List.isEmpty_iff.1 h];exact .nil
 | false=>exact .refl _
@[simp] theorem cΔ {α:Type} {l:List α} {a b:α}:(l++[a]).set l.length b=l++[b]:=by rw[List.set_append_right _ _ (Nat.le_refl _),Nat.sub_self];rfl
@[simp] theorem cΕ {t k:Nat} {l:List ζ}:az (bz t k l).length (eU l):=by
 unfold eU bz;cases l.isEmpty<;>simp[ot]
theorem az.mono {h c0:Nat} {a:ζ} (hb:az h a) (aN:h<=c0):az c0 a:=by
 induction hb with
 | z v=>exact .z v
 | ca=>exact .ca
 | Ω _ Γ=>exact .Ω Γ
 | sl _ Γ=>exact .sl Γ
 | aR _ Γ=>exact .aR Γ
 | bn _ Γ=>exact .bn Γ
 | fn _ _ qA k8=>exact .fn qA k8
 | fc _ Γ=>exact .fc Γ
 | ae h=>exact .ae (by omega)
 | ms h=>exact .ms (by omega)
 | mp h=>exact .mp (by omega)
 | it h=>exact .it (by omega)
theorem vJ {t k h:Nat} {l:List ζ} (hb:∀e∈l,∀a∈e.cells,az 0 a):∀r∈bz t k l,eJ h r:=by
 intro r ι;unfold bz at ι;cases Β:l.isEmpty with
 | true=>rw[Β] at ι;simp at ι
 | false=>
  rw[Β] at ι;simp at ι;subst ι;exact λe he a κ=>(hb e he a κ).mono (Nat.zero_le _)
section
variable {P:Program} {m nt:Nat} {k:List Item} {env:Φ} {Z:List Item->Φ->List Row->Prop} {E:ζ->Φ->List Row->Prop}
theorem W.lu {σ0:List Row} {t:TypeId} {e:ζ} {kk:Nat} (hm:m<=σ0.length) (mI:∀r∈σ0,eJ σ0.length r) (he:∀a∈e.cells,az σ0.length a) (env':Φ)
  (cq:∀p∈env',(aW env p.1=p.2/\az σ0.length p.2)\/(aW env p.1=.ae σ0.length 1 0 0/\p.2=.Ω e.cells)) (hW:W P m nt k env' σ0 Z E):W P m nt k env (σ0++[.cells t kk [e]]) Z E:=
 W.fix (t:=t) (kk:=kk) (e:=e) hm (by simp) he (λid r bS ι=>mI r (by
  rw[dW bS] at ι;exact cf ι)) (by simp) env' cq hW
theorem W.KB {t kk:Nat} {l:List ζ} {d:Nat} (hb:∀e∈l,∀a∈e.cells,az 0 a) (env':Φ) (hd:aW env d=eU l) (cq:∀p∈env',aW env p.1=p.2/\az 0 p.2) (hW:W P 0 nt k ((d,fJ kk l)::env') [] Z E):W P 0 nt k env (bz t kk l) Z E:=
 W.cut 0 (Nat.zero_le _) ((d,fJ kk l)::env') (Nat.zero_le _) (λid r bS=>by omega) (λp χ=>by
  rcases List.mem_cons.1 χ with rfl|χ
  ·show et 0 _ (aW env d) _;rw[hd];exact .acc hb
  ·rw[(cq p χ).1];exact .low (cq p χ).2) (by simpa using hW)
end
abbrev iO (l:List Int):ζ:=.sl true 1 (l.map δ)
theorem dr.KC {L:List (List Int)}:dr (fJ 1 (L.map iO)) (aL L):=.trans .acc (.map λx _=>.one .ex rfl rfl)
theorem BU {L:List (List Int)}:∀e∈L.map iO,∀a∈e.cells,az 0 a:=by
 intro e he a κ;obtain⟨x,_,rfl⟩:=List.mem_map.1 he;simp[ζ.cells] at κ;subst κ;simp
theorem yr (n:Int):an Tryz.prog 51 [δ n] (.bn [δ (if valid n then fA n else 0),δ (if valid n then 0 else 1)]):=by
 refine aC.body Μ Tryz.func51 rfl rfl Tryz.ntmps51 rfl rfl (by simp) ?_;(repeat (first|apply μ|(refine ξ λθ I=>?_;simp;(repeat (rw[ε];simp));apply I)));(repeat apply μ);refine ξ λθ I=>?_;simp;(repeat (rw[ε];simp));refine an.c (vB n) (aE.refl _) (by simp) (by simp) ?_;simp;(repeat (rw[ε];simp));apply I;cases b:valid n
 ·refine ax rfl ?_;(repeat (first|apply μ|(refine ξ λθ I=>?_;simp;(repeat (rw[ε];simp));apply I)));refine W.ret ⟨_,rfl,?_,rfl⟩;exact .of rfl
 ·refine au rfl ?_;(repeat apply μ);refine ξ λθ I=>?_;simp;(repeat (rw[ε];simp));refine an.c (Kq n) (aE.refl _) (by simp) (by simp) ?_;simp;(repeat (rw[ε];simp));apply I;(repeat (first|apply μ|(refine ξ λθ I=>?_;simp;(repeat (rw[ε];simp));apply I)));refine W.ret ⟨_,rfl,?_,rfl⟩;exact .of rfl
def ma (l:List gb) (g:gb):Int:=idxOf (λx=>decide (x.bR=fA g.bR)) l
def lx (l:List gb) (i:Nat):List (List Int):=match l[i]? with
 | none=>[]
 | some g=>if 0<=ma l g then [[(i:Int),ma l g]] else []
def twins (l:List gb):List (List Int):=(List.range l.length).flatMap (lx l)
theorem Tu (g x:gb):an Tryz.prog 101 [eb x,.Ω [.fn (.func 99) [δ g.bR] []]] (bJ (x.bR==fA g.bR)):=by
 refine aC.body Μ Tryz.func101 rfl rfl Tryz.ntmps101 rfl rfl (by simp) ?_;(repeat (first|apply μ|(refine ξ λθ I=>?_;simp;(repeat (rw[ε];simp));apply I)));refine W.draw (A:=[]) Μ mixed λθ I=>?_;simp;(repeat (rw[cz];simp));try rw[cy]
 refine iI (r:=δ (fA g.bR)) (λσ=>(Kq g.bR).cc (by simp;exact aE.refl _) (by simp) (by simp) ⟨rfl,rfl⟩) ?_;simp;(repeat (rw[cz];simp));try rw[cy]
 refine⟨cZ (by kernel_rfl),I _ _ ?_⟩;(repeat (first|apply μ|(refine ξ λθ I=>?_;simp;(repeat (rw[ε];simp));apply I)));refine W.ret ⟨_,rfl,?_,rfl⟩;exact .of (by simp[])
theorem Tv (s:a9) (ν:s.small):an Tryz.prog 46 [e8 s] (.bn [aL (if s.err=0 then twins s.Τ else []),δ s.err]):=by
 refine aC.body Μ Tryz.func46 rfl rfl Tryz.ntmps46 rfl rfl (by simp) ?_;have Β:=ν.1;(repeat (first|apply μ|(refine ξ λθ I=>?_;simp;(repeat (rw[ε];simp));apply I)));(repeat apply μ);refine ξ λθ I=>?_;simp;(repeat (rw[ε];simp));refine an.c (BT s ν) (aE.refl _) (by simp) (by simp) ?_;simp;(repeat (rw[ε];simp));apply I;(repeat (first|apply μ|(refine ξ λθ I=>?_;simp;(repeat (rw[ε];simp));apply I)));by_cases cx:s.err=0
 case neg=>
  refine ax (by simp[cx]) ?_;(repeat (first|apply μ|(refine ξ λθ I=>?_;simp;(repeat (rw[ε];simp));apply I)));refine W.ret ⟨_,rfl,?_,rfl⟩;rw[if_neg cx];exact .bn (.cons .nil (.cons (.refl _) .nil))
 refine au (by simp[cx]) ?_;(repeat (first|apply μ|(refine ξ λθ I=>?_;simp;(repeat (rw[ε];simp));apply I)));rw[if_pos cx,cx];refine W.iter (λi:Nat=>i<=s.Τ.length) (λi=>[(1,.Ω [aJ s.Τ,aL s.ak,bx s.cells]),(5,eU (((List.range i).flatMap (lx s.Τ)).map iO)),(16,aJ s.Τ),(17,δ s.Τ.length),(18,δ i)])
  (λi=>bz 29 1 (((List.range i).flatMap (lx s.Τ)).map iO)) (λi=>s.Τ.length-i) 0 (Nat.zero_le _) rfl (by simp[mS]) (λi hi Γ=>?_)
 (repeat (first|apply μ|(refine ξ λθ I=>?_;simp;(repeat (rw[ε];simp));apply I)));refine W.dR rfl (λη=>?_) (λη=>?_)
 ·have η:i<s.Τ.length:=by simpa using η
  have dJ:(List.range (i+1)).flatMap (lx s.Τ)=(List.range i).flatMap (lx s.Τ)++lx s.Τ i:=by rw[List.range_succ,List.flatMap_append];simp
  have Η:lx s.Τ i=if 0<=ma s.Τ s.Τ[i] then [[(i:Int),ma s.Τ s.Τ[i]]] else []:=by simp[lx,η]
  have vK:=λh=>vJ (t:=29) (k:=1) (h:=h) (BU (L:=(List.range i).flatMap (lx s.Τ)));obtain⟨L,aS⟩:∃L,L=((List.range i).flatMap (lx s.Τ)).map iO:=⟨_,rfl⟩;rw[<-aS] at vK;refine W.to (σ':=bz 29 1 L) (env':=[(1,.Ω [aJ s.Τ,aL s.ak,bx s.cells]),(5,eU L),(16,aJ s.Τ),(17,δ s.Τ.length),(18,δ i)]) ?_ (by rw[aS]) (by rw[aS];simp)
  repeat apply μ
  refine dy (A:=[7]) Μ λθ I=>?_;simp;(repeat (rw[ε];simp[η]));apply I;refine W.lu (Nat.zero_le _) (vK _) (by simp) [(6,δ i),(7,.Ω [ln s.Τ[i].name,δ s.Τ[i].bR]),(1,.Ω [aJ s.Τ,aL s.ak,bx s.cells]),(5,eU L),(16,aJ s.Τ),(17,δ s.Τ.length),(18,δ i)] (by simp) ?_
  repeat apply μ
  refine dy (A:=[8]) Μ λθ I=>?_;simp;(repeat (rw[ε];simp));apply I;refine W.lu (Nat.zero_le _) (vK _) (by simp[iH]) [(8,.Ω [.fn (.func 99) [δ s.Τ[i].bR] []]),(6,δ i),(1,.Ω [aJ s.Τ,aL s.ak,bx s.cells]),(5,eU L),(16,aJ s.Τ),(17,δ s.Τ.length),(18,δ i)] (by simp[iH]) ?_;(repeat apply μ);refine ξ λθ I=>?_;simp;(repeat (rw[ε];simp));refine an.c (Ku s.Τ (.fn (.func 101) [] [.Ω [.fn (.func 99) [δ s.Τ[i].bR] []]]) (λx=>x.bR==fA s.Τ[i].bR) (by omega) (by simp[iH]) (λx _=>λ_=>(Tu s.Τ[i] x).cc (by simp;exact aE.refl _) (by simp[iH]) (by simp) ⟨rfl,rfl⟩)) (aE.refl _) (by simp[iH]) (by simp) ?_;simp;(repeat (rw[ε];simp));apply I;have Tw:idxOf (λx=>decide (x.bR=fA s.Τ[i].bR)) s.Τ=ma s.Τ s.Τ[i]:=rfl;rw[Tw];generalize cΖ:ma s.Τ s.Τ[i]=v at Η;(repeat (first|apply μ|(refine ξ λθ I=>?_;simp;(repeat (rw[ε];simp));apply I)));have KD:L.length<=i:=by
   rw[aS,List.length_map];have:∀n,((List.range n).flatMap (lx s.Τ)).length<=n:=λn=>by
    induction n with
    | zero=>simp
    | succ n Γ=>
     rw[List.range_succ,List.flatMap_append,List.length_append];have:(lx s.Τ n).length<=1:=by unfold lx;split;simp;split<;>simp
     simp only[List.flatMap_cons,List.flatMap_nil,List.append_nil];omega
   exact this i
  by_cases hv:0<=v
  ·refine ax (by simp[hv]) ?_
   repeat apply μ
   refine W.hD (A:=[37]) Μ [(5,eU (L++[iO [(i:Int),v]])),(1,.Ω [aJ s.Τ,aL s.ak,bx s.cells]),(16,aJ s.Τ),(17,δ s.Τ.length),(18,δ i)] (bz 29 1 (L++[iO [(i:Int),v]])) ?_ (by
    by_cases Ν:L=[]
    ·subst Ν;(try simp);(repeat (rw[ε];simp[mS,iN]));(try simp[mS,iN]);exact⟨rfl,rfl⟩
    ·have jY:L.length<=4294967295:=by omega
     (try simp);(repeat (rw[ε];simp[oD Ν,ei Ν,sb,oE]));(try simp[oD Ν,ei Ν,sb,oE]);exact jY)
   (repeat (first|apply μ|(refine ξ λθ I=>?_;simp;(repeat (rw[ε];simp));apply I)));refine W.to (Γ (i+1) η (by omega)) ?_ ?_
   ·rw[dJ,Η,if_pos hv,aS];simp
   ·rw[dJ,Η,if_pos hv,aS];simp[eK η (show s.Τ.length<2 ^ 62 by omega)]
  ·refine au (by simp[hv]) ?_;(repeat (first|apply μ|(refine ξ λθ I=>?_;simp;(repeat (rw[ε];simp));apply I)));refine W.to (Γ (i+1) η (by omega)) ?_ ?_
   ·rw[dJ,Η,if_neg hv,aS];simp
   ·rw[dJ,Η,if_neg hv,aS];simp[eK η (show s.Τ.length<2 ^ 62 by omega)]
 ·have η:i=s.Τ.length:=by simp at η;omega
  subst η;refine W.exit rfl ?_;(repeat (first|apply μ|(refine ξ λθ I=>?_;simp;(repeat (rw[ε];simp));apply I)));refine W.KB (d:=2) BU [(3,δ 0)] (by simp) (by simp) ?_;refine W.ret ⟨_,rfl,?_,rfl⟩;exact .bn (.cons .KC (.cons (.refl _) .nil))
def sc:Int->List Int->List Int
 | _,[]=>[]
 | a,b::l=>if b=a then sc a l else b::sc b l
def hE:List Int->List Int
 | []=>[]
 | a::l=>a::sc a l
theorem KE (l:List Int) {p:Nat} (χ:0<p) (h:p<l.length) (c0:p-1<l.length):hE (l.take (p+1))=hE (l.take p)++if l[p]=l[p-1] then [] else [l[p]]:=by
 have gen:∀(l:List Int) (a:Int) (p:Nat) (h:p<l.length),sc a (l.take (p+1))=sc a (l.take p)++if l[p]=(a::l)[p]'(by simp;omega) then [] else [l[p]]:=by
  intro l
  induction l with
  | nil=>intro a p h;cases h
  | cons b l Γ=>
   intro a p h;cases p with
   | zero=>by_cases e:b=a<;>simp[sc,e]
   | succ p=>
    have R:p<l.length:=by simpa using h
    by_cases e:b=a
    ·subst e;have:=Γ b p R;simp only[List.take_succ_cons,sc,if_true,List.getElem_cons_succ] at this ⊢;exact this
    ·have:=Γ b p R;simp only[List.take_succ_cons,sc,e,if_false,List.getElem_cons_succ,List.cons_append] at this ⊢;rw[this]
 cases l with
 | nil=>cases h
 | cons a l=>
  obtain⟨q,rfl⟩:∃q,p=q+1:=⟨p-1,by omega⟩;have R:q<l.length:=by simpa using h
  have:=gen l a q R;simp only[List.take_succ_cons,hE,List.getElem_cons_succ,Nat.add_sub_cancel] at this ⊢;rw[this];rfl
theorem BV {f:List Int} {L:List ζ} (aS:L=f.map δ) {j:Nat} {x:Int} (h:f[j]?=some x):L[j]?=some (δ x)/\∀h:j<L.length,L[j]=δ x:=by
 have e:L[j]?=some (δ x):=by rw[aS,List.getElem?_map,h];rfl
 exact⟨e,λγ=>by rw[aX γ] at e;exact Option.some.inj e⟩
theorem Tx (l:List Int) (n:Nat) (Ι:l.length=n) (ν:n<2 ^ 40):aC Tryz.prog 133 [.ms 0 n 0 n] [.cells 3 1 (l.map δ)]
  (λr s=>∃tail:List Int,(hE l++tail).length=n/\r=.ms 0 n 0 (hE l).length/\s=[.cells 3 1 ((hE l++tail).map δ)]) (λ_ _=>False):=by
 refine aC.body Μ Tryz.func133 rfl rfl Tryz.ntmps133 rfl rfl (by simp) ?_;by_cases R:(n:Int)<2
 ·(repeat (first|apply μ|(refine ξ λθ I=>?_;simp;(repeat (rw[ε];simp[Ι,R]));apply I)));refine ax rfl ?_;(repeat (first|apply μ|(refine ξ λθ I=>?_;simp;(repeat (rw[ε];simp[Ι]));apply I)));refine W.ret ⟨_,rfl,[],?_⟩;have e:hE l=l:=by
   match l,Ι with
   | [],_=>rfl
   | [a],_=>rfl
   | a::b::l,Ι=>simp at Ι;omega
  rw[e,List.append_nil,Ι];exact⟨rfl,rfl,rfl⟩
 (repeat (first|apply μ|(refine ξ λθ I=>?_;simp;(repeat (rw[ε];simp[Ι,R]));apply I)));refine au rfl ?_;(repeat (first|apply μ|(refine ξ λθ I=>?_;simp;(repeat (rw[ε];simp));apply I)));refine W.iter (λk:Nat=>1<=k/\k<=n/\hE (l.take k)=l.take k) (λk=>[(0,.ms 0 n 0 n),(3,δ k)]) (λ_=>[.cells 3 1 (l.map δ)]) (λk=>n-k) 1 ⟨Nat.le_refl _,by omega,by
  match l,Ι with
  | [],Ι=>rfl
  | a::l,Ι=>rfl⟩ rfl (by simp) (λk Α Γ=>?_)
 obtain⟨k1,cB,pI⟩:=Α;(repeat (first|apply μ|(refine ξ λθ I=>?_;simp;(repeat (rw[ε];simp[Ι]));apply I)));by_cases η:k<n
 ·refine ax (by simp[η]) ?_
  repeat apply μ
  obtain⟨p,χ⟩:∃p,k=p+1:=⟨k-1,by omega⟩;have mP:IntKind.i64.wrap ((k:Int)-1)=(p:Int):=by have:=fI (show p<2 ^ 62 by omega);rw[χ];simpa using this
  have pK:p<n:=by omega
  have h5:k<l.length:=by omega
  have g2:p<l.length:=by omega
  obtain⟨L,aS⟩:∃L,L=l.map δ:=⟨_,rfl⟩;have kD:L.length=n:=by rw[aS];simpa using Ι
  obtain⟨a1,bg⟩:=BV aS (aX h5);obtain⟨bs,cF⟩:=BV aS (aX g2);refine W.to (σ':=[.cells 3 1 L]) (env':=[(0,.ms 0 n 0 n),(3,δ k)]) ?_ (by rw[aS]) (by simp);generalize U:l[k]=x at a1 bg;generalize ad:l[p]=y at bs cF;refine W.draw (A:=[]) Μ mixed λθ I=>?_;simp;(repeat (rw[cz];simp[η,mP,kD,pK,a1,bg,bs,cF]));try rw[cy]
  refine⟨cZ (by kernel_rfl),I _ _ ?_⟩;have dJ:hE (l.take (k+1))=hE (l.take k)++if x=y then [] else [x]:=by
   rw[KE l (by omega) h5 (by omega)];simp only[χ,Nat.add_sub_cancel] at U ⊢;rw[U,ad]
  by_cases vm:x=y
  ·refine ax (by simp[vm]) ?_
   repeat apply μ
   refine W.hD (A:=[]) Μ [(0,.ms 0 n 0 n),(3,δ k),(4,.ms 0 n k (n-k))] [.cells 3 1 L] ?_ (by
    (try simp);(repeat (rw[ε];simp[kD,Nat.le_of_lt η]));(try simp[kD,Nat.le_of_lt η]))
   (repeat (first|apply μ|(refine ξ λθ I=>?_;simp;(repeat (rw[ε];simp));apply I)));have cj:hE (l.take (k+1))=l.take k:=by rw[dJ,if_pos vm,List.append_nil,pI]
   refine W.iter (λq:Nat×Nat×List Int=>1<=q.2.1/\k+q.2.1<=n/\q.2.2.length=n/\q.1<k+q.2.1/\q.1=(hE (l.take (k+q.2.1))).length/\q.2.2.take q.1=hE (l.take (k+q.2.1))/\∀j,k+q.2.1-1<=j->j<n->q.2.2[j]?=l[j]?)
    (λq=>[(0,.ms 0 n 0 n),(3,δ q.1),(4,.ms 0 n k (n-k)),(5,δ q.2.1)]) (λq=>[.cells 3 1 (q.2.2.map δ)]) (λq=>n-q.2.1) (k,1,l) ⟨Nat.le_refl _,by simp;omega,Ι,by simp,by simp only[cj];simp;omega,by simp only[cj],λj _ _=>rfl⟩ (by rw[aS]) (by simp) (λq Ψ hz=>?_)
   obtain⟨m,cB,f⟩:=q;obtain⟨c1,c2,c3,c4,l5,qK,py⟩:=Ψ;simp only at c1 c2 c3 c4 l5 qK py;clear aS kD a1 bg bs cF;(repeat (first|apply μ|(refine ξ λθ I=>?_;simp;(repeat (rw[ε];simp[c3]));apply I)));by_cases hd:cB<n-k
   ·have rX:(cB:Int)<((n-k:Nat):Int):=by omega
    refine ax (by simp[hd]) ?_
    repeat apply μ
    obtain⟨tV,jk⟩:∃r,cB=r+1:=⟨cB-1,by omega⟩;have fr:IntKind.i64.wrap ((cB:Int)-1)=(tV:Int):=by have:=fI (show tV<2 ^ 62 by omega);rw[jk];simpa using this
    have ι:tV<n-k:=by omega
    obtain⟨M,dM⟩:∃M,M=f.map δ:=⟨_,rfl⟩;have FK:M.length=n:=by rw[dM];simpa using c3
    have hu:f[k+cB]?=some (l[k+cB]'(by omega)):=by rw[py _ (by omega) (by omega),aX]
    have hv:f[k+tV]?=some (l[k+tV]'(by omega)):=by rw[py _ (by omega) (by omega),aX]
    have dG:=KE l (p:=k+cB) (by omega) (by omega) (by omega)
    have Ty:l[k+cB-1]'(by omega)=l[k+tV]'(by omega):=by congr 1;omega
    rw[Ty] at dG;generalize l[k+cB]'(by omega)=u at hu dG;generalize l[k+tV]'(by omega)=v at hv dG;obtain⟨FL,xY⟩:=BV dM hu;obtain⟨v1,v2⟩:=BV dM hv;refine W.to (σ':=[.cells 3 1 M]) (env':=[(0,.ms 0 n 0 n),(3,δ m),(4,.ms 0 n k (n-k)),(5,δ cB)]) ?_ (by rw[dM]) (by simp);have nj:m<n:=by omega
    refine W.draw (A:=[]) Μ mixed λθ I=>?_;simp;(repeat (rw[cz];simp[hd,fr,ι,FK,FL,xY,v1,v2]));try rw[cy]
    refine⟨cZ (by kernel_rfl),I _ _ ?_⟩;by_cases BW:u=v
    ·refine au (by simp[BW]) ?_;(repeat (first|apply μ|(refine ξ λθ I=>?_;simp;(repeat (rw[ε];simp));apply I)));rw[if_pos BW,List.append_nil] at dG;refine W.to (hz (m,cB+1,f) ⟨by simp,by simp;omega,c3,by simp;omega,by simp only[<-Nat.add_assoc,dG];exact l5,by simp only[<-Nat.add_assoc,dG];exact qK,λj J R=>py j (by simp at J;omega) R⟩ (by simp;omega)) (by rw[dM]) ?_;have:=fI (show cB+1<2 ^ 62 by omega);simpa using this
    ·refine ax (by simp[BW]) ?_;rw[if_neg BW] at dG
     repeat apply μ
     refine W.hD (A:=[]) Μ [(0,.ms 0 n 0 n),(3,δ m),(4,.ms 0 n k (n-k)),(5,δ cB)] [.cells 3 1 ((f.set m u).map δ)] ?_ (by
      (try simp);(repeat (rw[ε];simp[hd,FK,nj,FL,xY]));(try simp[hd,FK,nj,FL,xY]);subst dM;simp)
     (repeat (first|apply μ|(refine ξ λθ I=>?_;simp;(repeat (rw[ε];simp));apply I)));refine W.to (hz (m+1,cB+1,f.set m u) ⟨by simp,by simp;omega,by simpa using c3,by simp;omega,by simp only[<-Nat.add_assoc,dG];simp;exact l5,?_,λj J R=>?_⟩ (by simp;omega)) (by simp) ?_
     ·simp only[<-Nat.add_assoc,dG];rw[<-qK,List.take_succ_eq_append_getElem (by simp;omega),List.take_set_of_le (Nat.le_refl _)];simp
     ·simp at J;rw[List.getElem?_set_ne (by omega)];exact py j (by omega) R
     ·have Δ:=fI (show cB+1<2 ^ 62 by omega)
      have Ε:=fI (show m+1<2 ^ 62 by omega);simp at Δ Ε ⊢;exact⟨Ε,Δ⟩
   ·refine au (by simp[hd]) ?_;refine W.exit rfl ?_;have he:k+cB=n:=by omega
    have Tz:l.take n=l:=List.take_of_length_le (by omega);rw[he,Tz] at l5 qK
    repeat apply μ
    have nj:m<=n:=by omega
    refine W.hD (A:=[]) Μ [(0,.ms 0 n 0 n),(3,δ m)] [.cells 3 1 ((hE l++List.replicate (n-m) 0).map δ)] ?_ (by
     (try simp);(repeat (rw[ε];simp[c3,nj]));(try simp[c3,nj]);rw[<-List.map_take,qK,List.drop_eq_nil_of_le (by simp;omega),List.append_nil])
    have TA:(hE l).length+(n-m)=n:=by omega
    (repeat (first|apply μ|(refine ξ λθ I=>?_;simp;(repeat (rw[ε];simp[TA,nj]));apply I)));refine W.ret ⟨_,rfl,List.replicate (n-m) 0,by simp;omega,?_,by simp⟩;rw[<-l5];rfl
  ·refine au (by simp[vm]) ?_;(repeat (first|apply μ|(refine ξ λθ I=>?_;simp;(repeat (rw[ε];simp));apply I)));refine W.to (Γ (k+1) ⟨by omega,by omega,?_⟩ (by omega)) (by rw[aS]) ?_
   ·rw[dJ,if_neg vm,pI,<-U,<-List.take_succ_eq_append_getElem h5]
   ·have:=fI (show k+1<2 ^ 62 by omega);simpa using this
 ·refine au (by simp[η]) ?_;refine W.exit rfl ?_;(repeat (first|apply μ|(refine ξ λθ I=>?_;simp;(repeat (rw[ε];simp));apply I)));refine W.ret ⟨_,rfl,[],?_⟩;have e:hE l=l:=by rw[List.take_of_length_le (by omega)] at pI;exact pI
  rw[e,List.append_nil,Ι];exact⟨rfl,rfl,rfl⟩
def sd:a9:=⟨[],[],[]⟩
theorem FM {e f g:Bool} {a b c:Nat}:dr (.aR [.sl e a [],.sl f b [],.sl g c []]) (e8 sd):=.aR (.cons .nil (.cons .nil (.cons .nil .nil)))
abbrev KF (r:a9×List Found×Int):ζ:=.bn [e8 r.1,cD r.2.1,δ r.2.2]
def ft (s:a9) (bT:Bool) (F:List Found):a9×List Found×Int:=
 if s.err≠0 then(sd,[],s.err) else if bT=true/\F=[] then(s,[],9) else(s,F,0)
def mT (s:a9) (cell:Int) (F:List Found):a9×List Found×Int:=
 if s.err≠0 then(sd,[],s.err) else if cell<0\/(s.cells.length:Int)<=cell then(sd,[],3) else ft s true F
def se (s:a9) (F:List Found):Prop:=s.err=0->an Tryz.prog 116 [e8 s] (cD F)
theorem BX (s:a9) (ν:s.small) (bT:Bool) (F:List Found) (gC:se s F):an Tryz.prog 75 [e8 s,bJ bT] (KF (ft s bT F)):=by
 refine aC.body Μ Tryz.func75 rfl rfl Tryz.ntmps75 rfl rfl (by simp) ?_
 repeat apply μ
 refine dy (A:=[4]) Μ λθ I=>?_;simp;(repeat (rw[ε];simp));apply I;(repeat apply μ);refine ξ λθ I=>?_;simp;(repeat (rw[ε];simp));refine an.c (BT s ν) (aE.refl _) (by simp) (by simp) ?_;simp;(repeat (rw[ε];simp));apply I;(repeat (first|apply μ|(refine ξ λθ I=>?_;simp;(repeat (rw[ε];simp));apply I)));by_cases cx:s.err=0
 case neg=>
  have e:ft s bT F=(sd,[],s.err):=by unfold ft;rw[if_pos cx]
  rw[e];refine ax (by simp[cx]) ?_;(repeat (first|apply μ|(refine ξ λθ I=>?_;simp;(repeat (rw[ε];simp));apply I)));refine W.fix (id:=0) (σ':=[]) (Nat.zero_le _) rfl (by simp) (by simp) rfl [(4,.Ω [.sl true 0 [],.sl true 0 [],.sl true 0 []]),(5,.sl true 0 []),(6,δ s.err)] (by simp) ?_;refine W.ret ⟨_,rfl,?_,rfl⟩;exact .bn (.cons FM (.cons .nil (.cons (.refl _) .nil)))
 refine au (by simp[cx]) ?_
 repeat apply μ
 refine dy (A:=[8]) Μ λθ I=>?_;simp;(repeat (rw[ε];simp));apply I;(repeat apply μ);refine ξ λθ I=>?_;simp;(repeat (rw[ε];simp));refine an.c (gC cx) (aE.refl _) (by simp) (by simp) ?_;simp;(repeat (rw[ε];simp));apply I
 repeat apply μ
 cases bT
 case false=>
  have e:ft s false F=(s,F,0):=by unfold ft;rw[if_neg (by simpa using cx),if_neg (by simp)]
  rw[e];(repeat (first|apply μ|(refine ξ λθ I=>?_;simp;(repeat (rw[ε];simp));apply I)));refine au rfl ?_;(repeat (first|apply μ|(refine ξ λθ I=>?_;simp;(repeat (rw[ε];simp));apply I)));refine W.fix (id:=0) (σ':=[]) (Nat.zero_le _) rfl (by simp) (by simp) rfl [(4,.Ω [aJ s.Τ,aL s.ak,bx s.cells]),(5,cD F),(6,δ 0)] (by simp) ?_;refine W.ret ⟨_,rfl,?_,rfl⟩;exact .refl _
 case true=>
  (repeat (first|apply μ|(refine ξ λθ I=>?_;simp;(repeat (rw[ε];simp));apply I)));by_cases z:F=[]
  ·have e:ft s true F=(s,[],9):=by unfold ft;rw[if_neg (by simpa using cx),if_pos ⟨rfl,z⟩]
   rw[e];refine ax (by simp[z]) ?_;(repeat (first|apply μ|(refine ξ λθ I=>?_;simp;(repeat (rw[ε];simp));apply I)));refine W.fix (id:=0) (σ':=[]) (Nat.zero_le _) rfl (by simp) (by simp) rfl [(4,.Ω [aJ s.Τ,aL s.ak,bx s.cells]),(5,.sl true 0 []),(6,δ 9)] (by simp) ?_;refine W.ret ⟨_,rfl,?_,rfl⟩;exact .bn (.cons (.refl _) (.cons .nil (.cons (.refl _) .nil)))
  ·have e:ft s true F=(s,F,0):=by unfold ft;rw[if_neg (by simpa using cx),if_neg (by simp[z])]
   rw[e];refine au (by simp[z]) ?_;(repeat (first|apply μ|(refine ξ λθ I=>?_;simp;(repeat (rw[ε];simp));apply I)));refine W.fix (id:=0) (σ':=[]) (Nat.zero_le _) rfl (by simp) (by simp) rfl [(4,.Ω [aJ s.Τ,aL s.ak,bx s.cells]),(5,cD F),(6,δ 0)] (by simp) ?_;refine W.ret ⟨_,rfl,?_,rfl⟩;exact .refl _
theorem TB (s:a9) (ν:s.small) (cell:Int) (F:List Found) (gC:se s F):an Tryz.prog 82 [e8 s,δ cell] (KF (mT s cell F)):=by
 refine aC.body Μ Tryz.func82 rfl rfl Tryz.ntmps82 rfl rfl (by simp) ?_
 repeat apply μ
 refine dy (A:=[4]) Μ λθ I=>?_;simp;(repeat (rw[ε];simp));apply I;(repeat apply μ);refine ξ λθ I=>?_;simp;(repeat (rw[ε];simp));refine an.c (BT s ν) (aE.refl _) (by simp) (by simp) ?_;simp;(repeat (rw[ε];simp));apply I;(repeat (first|apply μ|(refine ξ λθ I=>?_;simp;(repeat (rw[ε];simp));apply I)));by_cases cx:s.err=0
 case neg=>
  have e:mT s cell F=(sd,[],s.err):=by unfold mT;rw[if_pos cx]
  rw[e];refine ax (by simp[cx]) ?_;(repeat (first|apply μ|(refine ξ λθ I=>?_;simp;(repeat (rw[ε];simp));apply I)));refine W.fix (id:=0) (σ':=[]) (Nat.zero_le _) rfl (by simp) (by simp) rfl [(4,.Ω [.sl true 0 [],.sl true 0 [],.sl true 0 []]),(5,.sl true 0 []),(6,δ s.err)] (by simp) ?_;refine W.ret ⟨_,rfl,?_,rfl⟩;exact .bn (.cons FM (.cons .nil (.cons (.refl _) .nil)))
 refine au (by simp[cx]) ?_;have cw:mT s cell F=if cell<0\/(s.cells.length:Int)<=cell then(sd,[],3) else ft s true F:=by unfold mT;rw[if_neg (by simpa using cx)]
 repeat apply μ
 refine W.tD (A:=[]) Μ [(22,bJ (decide (cell<0)||decide ((s.cells.length:Int)<=cell))),(2,.Ω [aJ s.Τ,aL s.ak,bx s.cells]),(4,.ae 0 1 0 0),(1,δ cell)] ?_ (by
  by_cases q:cell<0
  ·(try simp);(repeat (rw[ε];simp[q]));(try simp[q])
  ·(try simp);(repeat (rw[ε];simp[q]));(try simp[q]))
 by_cases bs:cell<0\/(s.cells.length:Int)<=cell
 ·rw[cw,if_pos bs];refine ax (by simpa using bs) ?_;(repeat (first|apply μ|(refine ξ λθ I=>?_;simp;(repeat (rw[ε];simp));apply I)));refine W.fix (id:=0) (σ':=[]) (Nat.zero_le _) rfl (by simp) (by simp) rfl [(4,.Ω [.sl true 0 [],.sl true 0 [],.sl true 0 []]),(5,.sl true 0 []),(6,δ 3)] (by simp) ?_;refine W.ret ⟨_,rfl,?_,rfl⟩;exact .bn (.cons FM (.cons .nil (.cons (.refl _) .nil)))
 ·rw[cw,if_neg bs];refine au (by simpa using bs) ?_;(repeat apply μ);refine ξ λθ I=>?_;simp;(repeat (rw[ε];simp));refine an.c (BX s ν true F gC) (aE.refl _) (by simp) (by simp) ?_;simp;(repeat (rw[ε];simp));apply I;(repeat (first|apply μ|(refine ξ λθ I=>?_;simp;(repeat (rw[ε];simp));apply I)));generalize ft s true F=r;refine W.fix (id:=0) (σ':=[]) (Nat.zero_le _) rfl (by simp) (by simp) rfl [(4,.Ω [aJ r.1.Τ,aL r.1.ak,bx r.1.cells]),(5,cD r.2.1),(6,δ r.2.2)] (by simp) ?_;refine W.ret ⟨_,rfl,?_,rfl⟩;exact .refl _
def jZ (F:List Found):List (List Int):=F.map λf=>[f.u,f.v]
theorem KG {α β:Type} (f:α->β) (l:List α) {i:Nat} (h:i<l.length):(l.take (i+1)).map f=(l.take i).map f++[f l[i]]:=by
 rw[List.take_succ_eq_append_getElem h,List.map_append];rfl
theorem TC (s:a9) (ν:s.small) (F:List Found) (gC:se s F) (ab:F.length<2 ^ 20):an Tryz.prog 42 [e8 s] (.bn [aL (if s.err=0 then jZ F else []),δ s.err]):=by
 refine aC.body Μ Tryz.func42 rfl rfl Tryz.ntmps42 rfl rfl (by simp) ?_;(repeat (first|apply μ|(refine ξ λθ I=>?_;simp;(repeat (rw[ε];simp));apply I)));(repeat apply μ);refine dy (A:=[4]) Μ λθ I=>?_;simp;(repeat (rw[ε];simp));refine an.c (BX s ν false F gC) (aE.refl _) (by simp) (by simp) ?_;simp;(repeat (rw[ε];simp));apply I;have e:ft s false F=if s.err=0 then(s,F,0) else(sd,[],s.err):=by
  unfold ft;by_cases b:s.err=0
  ·rw[if_neg (by simpa using b),if_neg (by simp),if_pos b]
  ·rw[if_pos b,if_neg b]
 have Δ:(ft s false F).2.1=if s.err=0 then F else []:=by rw[e];split<;>rfl
 have Ε:(ft s false F).2.2=s.err:=by rw[e];split<;>simp[*]
 obtain⟨G,cS⟩:∃G,G=if s.err=0 then F else []:=⟨_,rfl⟩
 have gr:G.length<2 ^ 20:=by rw[cS];split;exact ab;simp
 have kZ:(if s.err=0 then jZ F else [])=jZ G:=by rw[cS];split<;>rfl
 rw[Δ,Ε,kZ,<-cS];clear cS kZ e Δ Ε;generalize s.err=fr;refine W.drop (h:=0) (σ':=[]) (Nat.zero_le _) (Nat.zero_le _) (by simp) rfl [(5,cD G),(6,δ fr)] (by simp) ?_;(repeat (first|apply μ|(refine ξ λθ I=>?_;simp;(repeat (rw[ε];simp));apply I)));have cΗ:∀i,(jZ G).take i=jZ (G.take i):=λi=>by simp[jZ]
 refine W.iter (λi:Nat=>i<=G.length) (λi=>[(6,δ fr),(7,eU ((jZ (G.take i)).map iO)),(16,cD G),(17,δ G.length),(18,δ i)])
  (λi=>bz 29 1 ((jZ (G.take i)).map iO)) (λi=>G.length-i) 0 (Nat.zero_le _) rfl (by simp[mS,jZ]) (λi hi Γ=>?_)
 (repeat (first|apply μ|(refine ξ λθ I=>?_;simp;(repeat (rw[ε];simp));apply I)));refine W.dR rfl (λη=>?_) (λη=>?_)
 ·have η:i<G.length:=by simpa using η
  have dJ:(jZ (G.take (i+1))).map iO=(jZ (G.take i)).map iO++[iO [G[i].u,G[i].v]]:=by
   unfold jZ;rw[List.map_map,List.map_map,KG _ _ η];rfl
  have vK:=λh=>vJ (t:=29) (k:=1) (h:=h) (BU (L:=jZ (G.take i)))
  have KD:((jZ (G.take i)).map iO).length<=i:=by simp[jZ];omega
  obtain⟨L,aS⟩:∃L,L=(jZ (G.take i)).map iO:=⟨_,rfl⟩;rw[<-aS] at vK KD dJ;refine W.to (σ':=bz 29 1 L) (env':=[(6,δ fr),(7,eU L),(16,cD G),(17,δ G.length),(18,δ i)]) ?_ (by rw[aS]) (by rw[aS];simp)
  repeat apply μ
  refine dy (A:=[9]) Μ λθ I=>?_;simp;(repeat (rw[ε];simp[η]));apply I;refine W.lu (Nat.zero_le _) (vK _) (by simp) [(9,.Ω [δ G[i].u,δ G[i].v,lq G[i].cells]),(6,δ fr),(7,eU L),(16,cD G),(17,δ G.length),(18,δ i)] (by simp) ?_
  repeat apply μ
  refine W.hD (A:=[26]) Μ [(6,δ fr),(7,eU (L++[iO [G[i].u,G[i].v]])),(16,cD G),(17,δ G.length),(18,δ i)] (bz 29 1 (L++[iO [G[i].u,G[i].v]])) ?_ (by
   by_cases Ν:L=[]
   ·subst Ν;(try simp);(repeat (rw[ε];simp[mS,iN]));(try simp[mS,iN]);exact⟨rfl,rfl⟩
   ·have jY:L.length<=4294967295:=by omega
    (try simp);(repeat (rw[ε];simp[oD Ν,ei Ν,sb,oE]));(try simp[oD Ν,ei Ν,sb,oE]);exact jY)
  (repeat (first|apply μ|(refine ξ λθ I=>?_;simp;(repeat (rw[ε];simp));apply I)));refine W.to (Γ (i+1) η (by omega)) ?_ ?_
  ·rw[dJ]
  ·rw[dJ];simp[eK η (show G.length<2 ^ 62 by omega)]
 ·have η:i=G.length:=by simp at η;omega
  subst η;refine W.exit rfl ?_;(repeat (first|apply μ|(refine ξ λθ I=>?_;simp;(repeat (rw[ε];simp));apply I)));refine W.KB (d:=2) BU [(3,δ fr)] (by simp) (by simp) ?_;refine W.ret ⟨_,rfl,?_,rfl⟩;exact .bn (.cons .KC (.cons (.refl _) .nil))
end Go.TL
