import Derived.Sort.LotA
import Derived.Test.YtlabjopijpkiaaaGreatCAL
import Derived.Test.YtlabjopijpkiaaaGreatCAN
import Derived.Test.YtlabjopijpkiaaaGreatCAP
import Derived.Test.YtlabjopijpkiaaaGreatCAQ
set_option maxHeartbeats 16000000
set_option maxRecDepth 20000
set_option linter.unusedSectionVars false
set_option linter.unusedSimpArgs false
set_option linter.unusedVariables false
namespace Go.TL
open Go.Conc
variable [bp]
structure Base where
 S:aL
 B:aW
 H:Α
 σ:List Row
 m:Nat
def V (P:Program) (Q:Value->Prop) (mn:Bool) (x:g9) (b:Frame) (cs:List Frame) (nt:Nat) (o:Base) (k:List Item) (env:Χ) (σ:List Row):Prop:=
 ∀(S:aL) (B:aW) (H:Α) (t:Array Value),e4 o.m o.S o.B o.H o.σ S B H σ->fO o.m nt S B H σ env t->aU P Q mn x (ax b t k) cs H
def NK (P:Program) (Q:Value->Prop) (mn:Bool) (x:g9) (b:Frame) (cs:List Frame) (o:Base) (a:η) (env:Χ) (σ:List Row):Prop:=
 ∀(S:aL) (B:aW) (H:Α) (t:Array Value) (k:List Item) (v:Value),e4 o.m o.S o.B o.H o.σ S B H σ->Holds S B σ H->dv S B σ env t->av S B σ a v->aU P Q mn x {ax b t k with mode:=.panicking [{v,recovered:=false}]} cs H
structure wK (P:Program) (d:Deferred) (g:FuncId) (vs:Array Value):Prop where
 t1:∀r,d.target≠.collected r
 t2:d.target≠.nil
 run:∀w,(invoke d.target d.args).runT P w #[]=(.ok (.enter g vs) w,#[])
section
variable {P:Program} {T:bb} {A:List Nat} {Q:Value->Prop} {mn:Bool} {x:g9} {b:Frame} {cs:List Frame} {m nt:Nat} {o:Base} {k:List Item} {env:Χ} {σ:List Row} {S aF:aL} {B B':aW} {H H':Α} {σ':List Row} {t:Array Value} {Z:List Item->Χ->List Row->Prop} {E:η->Χ->List Row->Prop}
theorem V.fT (γ:Seq x) (hb:b.mode=.run) (h:W P o.m nt k env σ (V P Q mn x b cs nt o) (NK P Q mn x b cs o)):V P Q mn x b cs nt o k env σ:=
 λS B H t κ π=>h Q mn x cs b S B H t γ hb π (λj env' σ' aF B' H' t' af Φ eo iw ξ=>by
  have e:af=j:=ξ;subst e;exact Φ aF B' H' t' (κ.trans eo) iw) (λa env' σ' aF B' H' t' af v he eo Β ν ι=>he aF B' H' t' af v (κ.trans eo) Β ν ι)
theorem V.cd (γ:Seq x) (h:W P o.m nt k env σ (V P Q mn x b cs nt o) (NK P Q mn x b cs o)) (hb:b.mode=.run:=by rfl):V P Q mn x b cs nt o k env σ:=.fT γ hb h
theorem V.here (h:V P Q mn x b cs nt ⟨S,B,H,σ,m⟩ k env σ) (π:fO m nt S B H σ env t):aU P Q mn x (ax b t k) cs H:=h S B H t .refl π
theorem W.cy {id:Nat} {ops:Array Oper} (h:W P m nt (.inRegion ops (idx ops.size [])::k) env σ Z E):W P m nt (.code (.region id ops false)::k) env σ Z E:=
 λQ mn x cs b S B H t γ hb π Φ he=>.region γ hb (by rw[<-idx_eq];exact h Q mn x cs b S B H t γ hb π Φ he)
theorem W.part (Ι:bN P T) (is kG:List Nat) {ops:Array Oper} {l:List Nat} (ξ:l=is++kG) (h:∀Θ:Χ->List Row->Prop,(∀env σ,W P m nt (.inRegion ops kG::k) env σ Z E->Θ env σ)->run P T A nt ops is env σ Θ E):W P m nt (.inRegion ops l::k) env σ Z E:=
 ξ▸HP Ι kG is env σ (h _ λ_ _ h=>h)
theorem Ii (ν:dv S B σ env t) (args:Array Operand):fQ S B σ (args.toList.map (aR env)) (args.map (bl t)):=by
 refine⟨ζ,λi a v J U=>?_⟩;rw[List.getElem?_map,Array.getElem?_toList] at J;rw[Array.getElem?_map] at U;cases γ:args[i]? with
 | none=>rw[γ] at J;cases J
 | some y=>rw[γ] at J U;cases J;cases U;exact l' ν y
theorem Plain.enter {g:FuncId} (h:Plain P g) (vs:Array Value) (w:World):(callFunc g vs).runT P w #[]=(.ok (.enter g vs) w,#[]):=by
 obtain⟨fn,J,U,μ⟩:=h;unfold callFunc;show Sem.runT P (Sem.bind program λp=>_) w #[]=_;simp only[program,Sem.bind];show Sem.runT P (match P.funcs[g]? with|none=>_|some fn=>_) w #[]=_;rw[J];simp only[U,μ,Bool.false_eq_true,if_false];rfl
theorem fO.put {op:Oper} {a:η} {v:Value} (π:fO m nt S B H σ env t) (hd:hc nt op=true) (κ:av S B σ a v):fO m nt S B H σ (b0 op env a) (put op t v):=
 ⟨π.holds,(rI π.cx hd π.size κ).1,(rI π.cx hd π.size κ).2,π.rows⟩
theorem e4.all (h:e4 m S B H σ aF B' H' σ') (Β:Holds S B σ H) (hm:σ.length<=m):b3 S aF B B' σ σ':=by
 have:=h.later
 rwa [List.take_of_length_le (by rw[Β.len];exact hm),List.take_of_length_le hm] at this
theorem V.defer (γ:Seq x) (hb:b.mode=.run) (cu:b.roundOf=none) {ops:Array Oper} {i:Nat} {rest:List Nat} {op:Oper} (ψ:ops[i]?=some op) (hw:fe env ops op=some true) (rJ:op.dst=none) {f:Operand} {args:Array Operand} {ej:Array TypeId} (Μ:op.op=.defer ⟨.value f,args,ej⟩)
  {g:FuncId} {first captured:List η} (Τ:aR env f=.fn (.func g) first captured) (Ο:Plain P g)
  (h:∀(S:aL) (B:aW) (H:Α) (t:Array Value) (d:Deferred) (vs:Array Value),e4 o.m o.S o.B o.H o.σ S B H σ->fO o.m nt S B H σ env t->fQ S B σ (first++args.toList.map (aR env)++captured) vs->wK P d g vs->
   aU P Q mn x (ax {b with defers:=d::b.defers} t (.inRegion ops rest::k)) cs H):V P Q mn x b cs nt o (.inRegion ops (i::rest)::k) env σ:=by
 intro S B H t κ π;refine .op γ hb ψ (kF π.cx hw) (.inl cu) ?_;have b8:=l' π.cx f;rw[Τ] at b8;have m4:=Ii π.cx args;have e:execOp (bl t) op=(do pure (.defer (<-Deferred.ofValue (bl t f) (args.map (bl t))))):=by unfold execOp;rw[Μ];rfl
 rw[e];generalize bl t f=ay at b8;cases b8 with
 | fn v1 v2 J U μ Ε=>
  refine ς.bind' (ς.pure' (ς.pure' ?_));have NL:put op t undef=t:=by unfold put;rw[rJ]
  simp only[Mi,NL];have r1:fQ S B σ first v1:=⟨J,μ⟩
  have r2:fQ S B σ captured v2:=⟨U,Ε⟩;exact h S B H t ⟨.fn (.func g) v2,v1++args.map (bl t)⟩ (v1++args.map (bl t)++v2) κ π ((r1.append m4).append r2) ⟨λ_ h=>(by cases h),λh=>(by cases h),λw=>Ο.enter _ w⟩
theorem aU.recovered (γ:Seq x) (hb:b.mode=.run) (cu:b.roundOf=none) {ops:Array Oper} {i:Nat} {rest:List Nat} {op:Oper} (ψ:ops[i]?=some op) (Ο:op.guard=none) {ej:Array TypeId} (Μ:op.op=.call ⟨.builtin .recover,#[],ej⟩) {v:Value} {cs':List Frame}
  (ι:(tryRecover (ax b t (.inRegion ops (i::rest)::k)) cs=some (v,cs'))\/(tryRecover (ax b t (.inRegion ops (i::rest)::k)) cs=none/\v=.nilIface/\cs'=cs))
  (h:aU P Q mn x (ax b (put op t v) (.inRegion ops rest::k)) cs' H):aU P Q mn x (ax b t (.inRegion ops (i::rest)::k)) cs H:=by
 refine .op γ hb ψ (by unfold Region.wanted;rw[Ο]) (.inl cu) ?_;have e:execOp (bl t) op=pure .recover:=by unfold execOp;rw[Μ];rfl
 rw[e];refine ς.pure' ⟨cu,?_⟩;rcases ι with ι|⟨ι,rfl,rfl⟩
 ·rw[ι];exact h
 ·rw[ι];exact h
end
theorem results_none {fn:Func} (h:fn.results=#[]) (t:Array Value):results fn t=pure (.tuple #[]):=by
 unfold results;rw[h];simp
theorem qB {P:Program} {g:FuncId} {fn:Func} {body:Code} (bL:P.funcs[g]?=some fn) (nR:fn.body=some body) (vs:Array Value) (kd:CallKind):Frame.enter P g vs kd=ax (Frame.enter P g vs kd) (vs++Array.replicate (fn.ntmps-vs.size) undef) [.code body]:=by
 simp[Frame.enter,ax,bL,nR]
theorem fO.enter {S:aL} {B:aW} {H:Α} {σ:List Row} {kK:List η} {vs:Array Value} {nt m:Nat} (Β:Holds S B σ H) (hv:fQ S B σ kK vs) (hm:m<=σ.length) (Ζ:kK.length<=nt):fO m nt S B H σ (entry 0 kK) (vs++Array.replicate (nt-vs.size) undef):=
 ⟨Β,Nb hv _,by have:=hv.1;simp;omega,hm⟩
end Go.TL
namespace Go.TL
open Go.Proofs
variable [bp]
def jf (s:aS) (before:List c8) (p:c8):Int:=
 if p.light<0\/(s.aj.length:Int)<=p.light then 3 else if before.any (λx=>x.light==p.light) then 4 else if valid p.seen=false\/valid p.bare=false then 1 else if rN p.seen p.bare=0 then 0 else 9
theorem W6 (p x:c8):az Tryz.prog 195 [eB x,.ao [I p.light,I p.seen,I p.bare]] (a' (x.light==p.light)):=by
 refine ab.body Υ Tryz.func195 rfl rfl Tryz.ntmps195 rfl rfl ζ ?_;(repeat (first|apply Ω|(refine dx λΘ θ=>?_;simp;(repeat (rw[al];simp[]));apply θ)));refine W.ret ⟨_,rfl,?_,rfl⟩;exact .of (by simp[])
theorem W7 (s:aS) (before:List c8) (ξ:before.length<2 ^ 62) (p:c8):ab Tryz.prog 153 [fS s,oG before,eB p] [] (λa σ=>jf s before p=0/\a=.bq []/\σ=[]) (λa σ=>jf s before p≠0/\a=.fY 38 (I (jf s before p))/\σ=[]):=by
 refine ab.body Υ Tryz.func153 rfl rfl Tryz.ntmps153 rfl rfl ζ ?_;(repeat (first|apply Ω|(refine dx λΘ θ=>?_;simp;(repeat (rw[al];simp[]));apply θ)));refine W.yn (A:=[]) Υ mixed [(6,I p.seen),(7,I p.bare),(1,oG before),(3,.ao [aT s.ae,a6 s.aj,bx s.cells]),(5,.ao [I p.light,I p.seen,I p.bare])] ?_ (by simp[dq,dp];exact hg (by kernel_rfl))
 repeat apply Ω
 refine W.s6 (A:=[]) Υ [(12,a' (decide (p.light<0)||decide ((s.aj.length:Int)<=p.light))),(6,I p.seen),(7,I p.bare),(1,oG before),(3,.ao [aT s.ae,a6 s.aj,bx s.cells]),(5,.ao [I p.light,I p.seen,I p.bare])] ?_ (by by_cases q:p.light<0<;>simp[al,pv,q]);by_cases bC:p.light<0\/(s.aj.length:Int)<=p.light
 case pos=>
  have e:jf s before p=3:=by unfold jf;rw[if_pos bC]
  rw[e];refine aD (by simpa using bC) ?_;(repeat apply Ω);refine dx λΘ θ=>?_;simp;(repeat (rw[al];simp[]))
 refine aA (by simpa using bC) ?_;(repeat apply Ω);refine dx λΘ θ=>?_;simp;(repeat (rw[al];simp[]));refine az.c (W1 before (.fn (.func 195) [] [.ao [I p.light,I p.seen,I p.bare]]) (λx=>x.light==p.light) ξ (by simp[mg]) (λx _=>λ_=>(W6 p x).cc (by simp;exact bI.refl _) ζ ζ ⟨rfl,rfl⟩)) (bI.refl _) (by simp[mg]) ζ ?_;simp;(repeat (rw[al];simp[]));apply θ;cases dt:before.any (λx=>x.light==p.light)
 case true=>
  have e:jf s before p=4:=by unfold jf;rw[if_neg bC,if_pos dt]
  rw[e];refine aD ζ ?_;(repeat apply Ω);refine dx λΘ θ=>?_;simp;(repeat (rw[al];simp[]))
 refine aA ζ ?_
 repeat apply Ω
 have NM:(valid p.seen=false\/valid p.bare=false)->jf s before p=1:=λh=>by unfold jf;rw[if_neg bC,dt];simp[h]
 cases fK:valid p.seen
 case false=>
  rw[NM (.inl fK)];(repeat apply Ω);refine dx λΘ θ=>?_;simp;(repeat (rw[al];simp[]));refine az.c (yq p.seen) (bI.refl _) ζ ζ ?_;simp[fK];(repeat (rw[al];simp[fK]));apply θ;refine aD rfl ?_;(repeat apply Ω);refine dx λΘ θ=>?_;simp;(repeat (rw[al];simp[]))
 cases mU:valid p.bare
 case false=>
  rw[NM (.inr mU)];(repeat apply Ω);refine dx λΘ θ=>?_;simp;(repeat (rw[al];simp[]));refine az.c (yq p.seen) (bI.refl _) ζ ζ ?_;simp[fK];(repeat (rw[al];simp[fK]));refine az.c (yq p.bare) (bI.refl _) ζ ζ ?_;simp[mU];(repeat (rw[al];simp[mU]));apply θ;refine aD rfl ?_;(repeat apply Ω);refine dx λΘ θ=>?_;simp;(repeat (rw[al];simp[]))
 (repeat apply Ω);refine dx λΘ θ=>?_;simp;(repeat (rw[al];simp[]));refine az.c (yq p.seen) (bI.refl _) ζ ζ ?_;simp[fK];(repeat (rw[al];simp[fK]));refine az.c (yq p.bare) (bI.refl _) ζ ζ ?_;simp[mU];(repeat (rw[al];simp[mU]));apply θ;refine aA rfl ?_;(repeat apply Ω);refine dx λΘ θ=>?_;simp;(repeat (rw[al];simp[]));refine az.c (NB p.seen p.bare) (bI.refl _) ζ ζ ?_;simp[];(repeat (rw[al];simp[]));apply θ;by_cases u1:rN p.seen p.bare=0
 ·have e:jf s before p=0:=by unfold jf;rw[if_neg bC,dt];simp[fK,mU,u1]
  refine aA (by simp[u1]) ?_;(repeat (first|apply Ω|(refine dx λΘ θ=>?_;simp;(repeat (rw[al];simp[]));apply θ)));exact W.nil ⟨_,rfl,e,rfl,rfl⟩
 ·have e:jf s before p=9:=by unfold jf;rw[if_neg bC,dt];simp[fK,mU,u1]
  rw[e];refine aD (by simp[u1]) ?_;(repeat apply Ω);refine dx λΘ θ=>?_;simp;(repeat (rw[al];simp[]))
end Go.TL
namespace Go.TL
open Go.Proofs Go.Conc
variable [bp]
theorem fQ.later {S aF:aL} {B B':aW} {σ σ':List Row} {l:List η} {vs:Array Value} (h:fQ S B σ l vs) (ξ:b3 S aF B B' σ σ'):fQ aF B' σ' l vs:=⟨h.1,λi a v J U=>(h.2 i a v J U).later ξ⟩
theorem wy.fin {P:Program} {Q:Value->Prop} {mn:Bool} {x:g9} {c:Frame} {rest:List Frame} {S aF:aL} {H H':Α} {B':aW} {σ':List Row} {v:Value} {r:η} (hb:wy P Q mn x c rest S [] H [] (λa s=>c6 a r/\s=[]) (λ_ _=>False))
  (he:Ext S [] H aF B' H') (Β:Holds aF B' σ' H') (ι:∀S B σ,av S B σ r v):aU P Q mn x (c.finish v) rest H':=by
 obtain⟨J,U⟩:=Β.close (h:=0) (λid r b5=>R);simp only[List.take_zero] at J U;exact hb.ret r [] _ [] H' v ⟨.refl _,rfl⟩ (he.trans U) ⟨λb o v hv=>U.dm _ _ _ (he.dm _ _ _ hv),λid r h=>by simp at h⟩ J (ι _ _ _)
abbrev tl (e:Int):List Row:=[.cells 38 1 [I e]]
section
variable {Q:Value->Prop} {mn:Bool} {x:g9} {c f:Frame} {rest:List Frame} {S bM:aL} {bS:aW} {H H1:Α} {cF e:Int} {pB:Array Value} {t:Array Value} {env:Χ} {err:Int}
theorem NN (γ:Seq x) (hb:wy Tryz.prog Q mn x c rest S [] H [] (λa s=>c6 a (I err)/\s=[]) (λ_ _=>False)) {d:Deferred} (hd:wK Tryz.prog d 152 pB)
  (bL:f.fn=122) (eV:f.defers=[d]) (χ:f.kind=.normal) (cu:f.roundOf=none) (hm:(f.mode=.returning/\cF=err)\/∃v,f.mode=.panicking [{v,recovered:=false}]/\av bM bS (tl cF) (.fY 38 (I err)) v)
  (tm:Ext S [] H bM bS H1) (Β:Holds bM bS (tl cF) H1) (hv:fQ bM bS (tl cF) [.ah 0 1 0 0] pB) (ν:dv bM bS (tl cF) env f.tmps) (bd:a5 env 6=.ah 0 1 0 0):aU Tryz.prog Q mn x f (c::rest) H1:=by
 have W8:f.mode≠.run:=by rcases hm with⟨h,_⟩|⟨v,h,_⟩<;>rw[h]<;>simp
 refine aU.deferred γ W8 eV hd.t1 hd.t2 hd.run ?_;rw[qB Tryz.func152 rfl];have fin:∀(f':Frame) (km:aL) (pC:aW) (kn:Α),f'.mode=.returning->f'.defers=[]->f'.kind=.normal->f'.fn=f.fn->f'.tmps=f.tmps->Ext bM bS H1 km pC kn->b3 bM km bS pC (tl cF) (tl err)->Holds km pC (tl err) kn->aU Tryz.prog Q mn x f' (c::rest) kn:=λf' km pC kn dU dA mo qC tn dz ai ln=>by
  refine aU.back γ dU dA (.inl mo) (fn:=Tryz.f122) (by rw[qC,bL];exact Tryz.func122) ?_;rw[tn];refine ς.mono (λv ie ⟨jg,ko,fh,vF,au,zp⟩=>?_) (λ_ _ h=>h) _ (D' Υ (a:=I err) (show qq bg [.cell 6 38] env (tl err)=some (I err) by simp[qq,s8,yi,bd,s7,iC.agg]) ln (ν.later ai));cases zp;exact hb.fin (tm.trans (dz.trans fh)) au λ_ _ _=>.z _
 refine V.here (m:=1) (nt:=10) (env:=entry 0 [.ah 0 1 0 0]) ?_ (fO.enter Β hv ζ ζ);refine V.fT γ rfl ?_
 repeat apply Ω
 refine W.cy ?_;refine W.stop ?_;intro k3 k4 jR t3 hX fC;rcases hm with⟨hm,rfl⟩|⟨v,hm,ys⟩
 ·refine aU.recovered γ rfl rfl rfl rfl rfl (v:=.nilIface) (.inr ⟨?_,rfl,rfl⟩) ?_
  ·simp[tryRecover,ax,Frame.enter,hm]
  ·refine V.here (m:=1) ?_ (fC.put rfl (.z .nilIface));refine V.fT γ rfl ?_;refine W.part (A:=[]) Υ [1,2,3,4,5,6] [] rfl λΘ θ=>?_;simp[v'];(repeat (rw[al];simp[v']));apply θ;refine W.bF ?_;refine Η ?_;refine aA rfl ?_;refine Η ?_;refine W.stop ?_;intro km pC kn t4 tp qD;refine .sM γ rfl rfl ?_;refine aU.G1 γ rfl rfl rfl Tryz.func152 ?_;rw[results_none rfl];refine ς.pure' ?_;simp only[hm];exact fin _ km pC kn rfl rfl χ rfl rfl (hX.ext.trans tp.ext) ((hX.trans tp).all Β ζ) qD.holds
 ·have tq:av k3 k4 (tl cF) (.fY 38 (I err)) v:=ys.later (hX.all Β ζ);refine aU.recovered γ rfl rfl rfl rfl rfl (v:=v) (cs':={f with defers:=[],mode:=.panicking [{v,recovered:=true}]}::c::rest) (.inl ?_) ?_
  ·simp[tryRecover,ax,Frame.enter,hm]
  ·refine V.here (m:=1) ?_ (fC.put rfl tq);refine V.fT γ rfl ?_;refine W.part (A:=[]) Υ [1,2,3,4,5,6] [] rfl λΘ θ=>?_;simp[v'];(repeat (rw[al];simp[v']));apply θ;refine W.bF ?_;refine Η ?_;refine aD rfl ?_;refine Η ?_;refine W.stop ?_;intro km pC kn t4 tp qD;refine .sM γ rfl rfl ?_;refine aU.G1 γ rfl rfl rfl Tryz.func152 ?_;rw[results_none rfl];refine ς.pure' ?_;exact fin _ km pC kn rfl rfl χ rfl rfl (hX.ext.trans tp.ext) ((hX.trans tp).all Β ζ) qD.holds
end
theorem W9 (s:aS) (before:List c8) (ξ:before.length<2 ^ 62) (p:c8):az Tryz.prog 122 [fS s,oG before,eB p] (I (jf s before p)):=by
 refine⟨⟨_,Tryz.func122,rfl,rfl⟩,λQ mn x c rest S B H vs γ Β hv hb=>?_⟩;have dX:B=[]:=dO.1 (by have:=Β.len;simpa using this);subst dX;rw[qB Tryz.func122 rfl];refine V.here (m:=0) (nt:=12) (env:=entry 0 [fS s,oG before,eB p]) ?_ (fO.enter Β hv ζ ζ);refine V.fT γ rfl ?_
 repeat apply Ω
 refine dB (A:=[6]) Υ λΘ θ=>bD ?_;apply θ
 repeat apply Ω
 refine W.cy ?_;refine W.part (A:=[]) Υ [0] [1] rfl λΘ θ=>?_;(try simp);(repeat (rw[al];simp[]));apply θ;refine W.stop ?_;refine V.defer γ rfl rfl rfl rfl rfl rfl rfl ⟨_,Tryz.func152,rfl,rfl⟩ λbM bS H1 t1 d pB qE na wA hd=>?_;refine V.here (m:=1) ?_ ⟨na.holds,na.cx,na.size,ζ⟩;refine V.fT γ rfl ?_;refine W.bF ?_;refine bh λΘ θ=>?_;refine ha.mono (ab.call (first:=[]) (captured:=[]) ((W7 s before ξ p).mono (K':=λa bk=>jf s before p=0/\aJ 0 a/\bk=[]) (E':=λa bk=>(jf s before p≠0/\a=.fY 38 (I (jf s before p)))/\aJ 0 a/\bk=[]) (λa bk ⟨J,U,μ⟩=>⟨J,by subst U;simp,μ⟩) (λa bk ⟨J,U,μ⟩=>⟨⟨J,U⟩,by subst U;simp,μ⟩) |>.frame ζ)) (λa bk ⟨an,ν⟩=>?_) (λa bk ⟨⟨an,κ⟩,ν⟩=>?_)
 ·subst ν;(try simp);(repeat (rw[al];simp[]));apply θ;refine Η ?_;refine W.stop ?_;intro cU eQ bH t2 rR nb;refine aU.ret (b:={Frame.enter Tryz.prog 122 vs .normal with defers:=[d]}) γ rfl rfl ?_;exact NN γ hb hd rfl rfl rfl rfl (.inl ⟨rfl,an.symm⟩) (qE.ext.trans rR.ext) nb.holds (wA.later (rR.all na.holds ζ)) nb.cx rfl
 ·subst ν;subst κ;intro cU eQ bH t2 cp v rR jL eg u2;have nY:=rR.all na.holds ζ;refine NN γ hb hd rfl rfl rfl rfl (.inr ⟨v,rfl,u2⟩) (qE.ext.trans rR.ext) jL (wA.later nY) eg ?_;rfl
end Go.TL
namespace Go.TL
open Go.Proofs
variable [bp]
theorem W':IntKind.i64.wrap 3=3:=br
def wL (l:List Int) (i:Nat):Int:=match l[i]? with
 | none=>0
 | some n=>if k2 n=false then 3 else if 0<i/\n<=(l[i-1]?).getD 0 then 5 else 0
def yt (l:List Int):Int:=jz ((List.range l.length).map (wL l))
def oL (ls:List (List Int)):Int:=if ls.length=0 then 7 else if 4<ls.length then 6 else jz ((List.range ls.length).map λi=>yt ((ls[i]?).getD []))
theorem Xa (s:aS) (ν:s.small):az Tryz.prog 104 [fS s] (I (oL s.aj)):=by
 refine ab.body Υ Tryz.func104 rfl rfl Tryz.ntmps104 rfl rfl ζ ?_;have ξ:=ν.2.1;by_cases h':s.aj.length=0
 ·refine aE h' ?_;refine aD ζ ?_;refine Η ?_;refine W.rt ?_;exact .of (by rw[show oL s.aj=7 by simp[oL,h']];rfl)
 by_cases pA:(4:Int)<s.aj.length
 ·refine aE (υ h' pA) ?_;refine aA (by simp[h']) ?_;refine aE (υ h' pA) ?_;refine aD ζ ?_;refine Η ?_;refine W.rt ?_;exact .of (by rw[show oL s.aj=6 by simp[oL,h'];omega];rfl)
 have AX:oL s.aj=jz ((List.range s.aj.length).map λi=>yt ((s.aj[i]?).getD [])):=by
  unfold oL;rw[if_neg h',if_neg R]
 rw[AX];refine aE (υ h' pA) ?_;refine aA (by simp[h']) ?_;refine aE (υ h' pA) ?_;refine aA ζ ?_;refine Η ?_;refine W.iter (λi:Nat=>i<=s.aj.length/\∀j,j<i->yt ((s.aj[j]?).getD [])=0) (λi=>[(1,.ao [aT s.ae,a6 s.aj,bx s.cells]),(18,a6 s.aj),(19,I s.aj.length),(20,I i)]) (λ_=>[]) (λi=>s.aj.length-i) 0 ⟨R,λj δ=>R⟩ rfl ζ (λi hi ω=>?_);refine Η ?_;refine W.eS rfl (λε=>?_) (λε=>?_)
 ·have ε:i<s.aj.length:=by simpa using ε
  have qA:(s.aj[i]?).getD []=s.aj[i]:=by simp[ε]
  have π:s.aj[i].length<2 ^ 30:=ν.2.2.2.1 _ (List.getElem_mem ε);refine aE ε ?_;refine W.iter (λn:Nat=>n<=s.aj[i].length/\∀j,j<n->wL s.aj[i] j=0) (λn=>[(1,.ao [aT s.ae,a6 s.aj,bx s.cells]),(18,a6 s.aj),(19,I s.aj.length),(20,I i),(4,bt I 1 s.aj[i]),(24,bt I 1 s.aj[i]),(25,I s.aj[i].length),(26,I n)]) (λ_=>[]) (λn=>s.aj[i].length-n) 0 ⟨R,λj δ=>R⟩ rfl ζ (λn Ζ Ij=>?_);refine Η ?_;refine W.eS rfl (λa3=>?_) (λa3=>?_)
  ·have hd:n<s.aj[i].length:=by simpa using a3
   have yu:s.aj[i][n]?=some s.aj[i][n]:=a8 hd
   have fin:∀e:Int,wL s.aj[i] n=e->e≠0->jz ((List.range s.aj.length).map λi=>yt ((s.aj[i]?).getD []))=e:=λe he an=>
    AV (i:=i) ε (by rw[qA];exact AV hd he an Ζ.2) an hi.2
   repeat apply Ω
   refine nU hd ?_;refine bh λΘ θ=>?_;refine az.d (pw s.aj[i][n]) (bD ?_);apply θ;cases bC:k2 s.aj[i][n]
   ·refine aD ζ ?_;refine Η ?_;refine W.rt ?_;exact .of (by rw[fin 3 (by simp[wL,yu,bC]) br];rfl)
   refine aA ζ ?_
   repeat apply Ω
   refine W.s6 (A:=[]) Υ [(35,a' (decide (0<n/\s.aj[i][n]<=(s.aj[i][n-1]?).getD 0))),(1,.ao [aT s.ae,a6 s.aj,bx s.cells]),(18,a6 s.aj),(19,I s.aj.length),(20,I i),(4,bt I 1 s.aj[i]),(24,bt I 1 s.aj[i]),(25,I s.aj[i].length),(26,I n)] ?_ (by
    cases n with
    | zero=>simp[al,pv]
    | succ n=>
     have kL:n<s.aj[i].length:=R
     have Γ:=gq (show n<2 ^ 62 by omega)
     have an:(0:Int)<(n:Int)+1:=R;simp[al,pv,an,kL,Γ])
   by_cases dt:0<n/\s.aj[i][n]<=(s.aj[i][n-1]?).getD 0
   ·refine aD (by simp only[dt];rfl) ?_;refine Η ?_;refine W.rt ?_;exact .of (by rw[fin 5 (by simp only[wL,yu,bC];rw[if_neg ζ,if_pos dt]) br];rfl)
   ·refine aA (by simp only[dt];rfl) ?_;refine Η ?_;refine W.forget _ ?_ (Ij (n+1) ⟨hd,λj δ=>?_⟩ R)
    ·simp[fl hd (show s.aj[i].length<2 ^ 62 by omega)]
    ·by_cases e:j=n
     ·subst e;simp only[wL,yu,bC];rw[if_neg ζ,if_neg dt]
     ·exact Ζ.2 j R
  ·have hd:s.aj[i].length<=n:=by simpa using a3
   refine W.exit rfl ?_;refine Η ?_;refine W.forget _ ?_ (ω (i+1) ⟨ε,λj δ=>?_⟩ R)
   ·simp[fl ε (show s.aj.length<2 ^ 62 by omega)]
   ·by_cases e:j=i
    ·subst e;rw[qA];exact AW λj δ=>Ζ.2 j R
    ·exact hi.2 j R
 ·have ε:s.aj.length<=i:=by simpa using ε
  refine W.exit rfl ?_;refine Η ?_;refine W.rt ?_;exact .of (by rw[AW (f:=λi=>yt ((s.aj[i]?).getD [])) λj δ=>hi.2 j R];rfl)
def qF (s:aS) (c:List c8):Int:=if 4<c.length then 6 else jz ((List.range c.length).map λi=>match c[i]? with|none=>0|some p=>jf s (c.take i) p)
def tr (s:aS):Int:=if 4<s.cells.length then 6 else jz ((List.range s.cells.length).map λi=>qF s ((s.cells[i]?).getD []))
theorem Xb (s:aS) (ν:s.small):az Tryz.prog 105 [fS s] (I (tr s)):=by
 refine ab.body Υ Tryz.func105 rfl rfl Tryz.ntmps105 rfl rfl ζ ?_;have ξ:=ν.2.2.1;by_cases pA:(4:Int)<s.cells.length
 ·refine aE pA ?_;refine aD ζ ?_;refine Η ?_;refine W.rt ?_;exact .of (by rw[show tr s=6 by simp[tr];omega];rfl)
 have AX:tr s=jz ((List.range s.cells.length).map λi=>qF s ((s.cells[i]?).getD [])):=by
  unfold tr;rw[if_neg R]
 rw[AX];refine aE pA ?_;refine aA ζ ?_;refine Η ?_;refine W.iter (λi:Nat=>i<=s.cells.length/\∀j,j<i->qF s ((s.cells[j]?).getD [])=0) (λi=>[(1,.ao [aT s.ae,a6 s.aj,bx s.cells]),(13,bx s.cells),(14,I s.cells.length),(15,I i)]) (λ_=>[]) (λi=>s.cells.length-i) 0 ⟨R,λj δ=>R⟩ rfl ζ (λi hi ω=>?_);refine Η ?_;refine W.eS rfl (λε=>?_) (λε=>?_)
 ·have ε:i<s.cells.length:=by simpa using ε
  have qA:(s.cells[i]?).getD []=s.cells[i]:=by simp[ε]
  have π:s.cells[i].length<2 ^ 30:=ν.2.2.2.2 _ (List.getElem_mem ε)
  have NO:∀e:Int,qF s s.cells[i]=e->e≠0->jz ((List.range s.cells.length).map λi=>qF s ((s.cells[i]?).getD []))=e:=λe he an=>
   AV (i:=i) ε (by rw[qA];exact he) an hi.2
  by_cases DT:(4:Int)<s.cells[i].length
  ·refine aE (υ ε DT) ?_;refine aD ζ ?_;refine Η ?_;refine W.rt ?_;exact .of (by rw[NO 6 (by unfold qF;rw[if_pos R]) br];rfl)
  refine aE (υ ε DT) ?_;refine aA ζ ?_;refine Η ?_;have NP:qF s s.cells[i]=jz ((List.range s.cells[i].length).map λn=>match s.cells[i][n]? with|none=>0|some p=>jf s (s.cells[i].take n) p):=by unfold qF;rw[if_neg R]
  refine W.iter (λn:Nat=>n<=s.cells[i].length/\∀j,j<n->(match s.cells[i][j]? with|none=>0|some p=>jf s (s.cells[i].take j) p)=0) (λn=>[(1,.ao [aT s.ae,a6 s.aj,bx s.cells]),(13,bx s.cells),(14,I s.cells.length),(15,I i),(4,oG s.cells[i]),(22,oG s.cells[i]),(23,I s.cells[i].length),(24,I n)]) (λ_=>[]) (λn=>s.cells[i].length-n) 0 ⟨R,λj δ=>R⟩ rfl ζ (λn Ζ Ij=>?_);refine Η ?_;refine W.eS rfl (λa3=>?_) (λa3=>?_)
  ·have hd:n<s.cells[i].length:=by simpa using a3
   have yu:s.cells[i][n]?=some s.cells[i][n]:=a8 hd
   repeat apply Ω
   refine dB (A:=[6]) Υ λΘ θ=>gS hd ?_;apply θ;refine W.fix (id:=0) (σ':=[]) (Nat.zero_le _) rfl ζ ζ rfl [(5,I n),(6,.ao [I s.cells[i][n].light,I s.cells[i][n].seen,I s.cells[i][n].bare]),(1,.ao [aT s.ae,a6 s.aj,bx s.cells]),(13,bx s.cells),(14,I s.cells.length),(15,I i),(4,oG s.cells[i]),(22,oG s.cells[i]),(23,I s.cells[i].length),(24,I n)] ζ ?_
   repeat apply Ω
   refine W.draw (A:=[]) Υ mixed λΘ θ=>?_;simp;(repeat (rw[dq];simp[hd,Nat.le_of_lt hd]));try rw[dp]
   (try simp only[<-List.map_take]);refine eZ (az.q (W9 s (s.cells[i].take n) (by simp;omega) s.cells[i][n])) (rM ?_);refine e5 (θ _ _ ?_)
   repeat apply Ω
   refine Η ?_;by_cases b:jf s (s.cells[i].take n) s.cells[i][n]=0
   ·refine aA (by simp[b]) ?_;refine Η ?_;refine W.forget _ ?_ (Ij (n+1) ⟨hd,λj δ=>?_⟩ R)
    ·simp[fl hd (show s.cells[i].length<2 ^ 62 by omega)]
    ·by_cases e:j=n
     ·subst e;rw[yu];exact b
     ·exact Ζ.2 j R
   ·refine aD (by simp[b]) ?_;refine Η ?_;refine W.rt ?_;exact .of (by rw[NO (jf s (s.cells[i].take n) s.cells[i][n]) (by rw[NP];exact AV hd (by rw[yu]) b Ζ.2) b];rfl)
  ·have hd:s.cells[i].length<=n:=by simpa using a3
   refine W.exit rfl ?_;refine Η ?_;refine W.forget _ ?_ (ω (i+1) ⟨ε,λj δ=>?_⟩ R)
   ·simp[fl ε (show s.cells.length<2 ^ 62 by omega)]
   ·by_cases e:j=i
    ·subst e;rw[qA,NP];exact AW λj δ=>Ζ.2 j R
    ·exact hi.2 j R
 ·have ε:s.cells.length<=i:=by simpa using ε
  refine W.exit rfl ?_;refine Η ?_;refine W.rt ?_;exact .of (by rw[AW (f:=λi=>qF s ((s.cells[i]?).getD [])) λj δ=>hi.2 j R];rfl)
def aS.err (s:aS):Int:=if oK s.ae≠0 then oK s.ae else if oL s.aj≠0 then oL s.aj else tr s
theorem Ik (s:aS) (ν:s.small):az Tryz.prog 48 [fS s] (I s.err):=by
 refine ab.body Υ Tryz.func48 rfl rfl Tryz.ntmps48 rfl rfl ζ ?_;refine Η ?_;refine .loop ?_;refine Η ?_;refine aD rfl ?_;refine Η ?_;refine bh λΘ θ=>?_;refine az.d (W5 s ν) (bD ?_);apply θ;refine Η ?_;by_cases bC:oK s.ae=0
 case neg=>
  refine aD (by simp[bC]) ?_;refine Η ?_;refine W.rt ?_;exact .of (by rw[show s.err=oK s.ae by unfold aS.err;rw[if_pos bC]];rfl)
 refine aA (by simp[bC]) ?_;refine aE @Ia ?_;refine .inLoop ?_;refine Η ?_;refine aD rfl ?_;refine Η ?_;refine bh λΘ θ=>?_;refine az.d (Xa s ν) (bD ?_);apply θ;refine Η ?_;by_cases dt:oL s.aj=0
 case neg=>
  refine aD (by simp[dt]) ?_;refine Η ?_;refine W.rt ?_;exact .of (by rw[show s.err=oL s.aj by unfold aS.err;rw[if_neg (by simp[bC]),if_pos dt]];rfl)
 refine aA (by simp[dt]) ?_;refine aE @Ib ?_;refine .inLoop ?_;refine Η ?_;refine aD rfl ?_;refine Η ?_;refine bh λΘ θ=>?_;refine az.d (Xb s ν) (bD ?_);apply θ;refine Η ?_;have e:s.err=tr s:=by unfold aS.err;rw[if_neg (by simp[bC]),if_neg (by simp[dt])]
 rw[e];by_cases fK:tr s=0
 case neg=>
  refine aD (by simp[fK]) ?_;refine Η ?_;refine W.rt ?_;exact .of rfl
 refine aA (by simp[fK]) ?_;refine aE @W' ?_;refine .inLoop ?_;refine Η ?_;refine aA rfl ?_;refine W.exit rfl ?_;refine Η ?_;refine W.rt ?_;exact .of (by rw[fK];rfl)
section
variable {P:Program} {T:bb} {A:List Nat} {m nt:Nat} {k:List Item} {env:Χ} {σ:List Row} {Z:List Item->Χ->List Row->Prop} {E:η->Χ->List Row->Prop}
theorem W.iN (Ι:bN P T) (env':Χ) (σ':List Row) {id:Nat} {ops:Array Oper} (h:W P m nt k env' σ' Z E) (ι:run P T A nt ops (idx ops.size []) env σ (λe s=>s=σ'/\∀p∈env',a5 e p.1=p.2) E):W P m nt (.code (.region id ops false)::k) env σ Z E:=
 dB Ι λΘ θ=>D8 (λe s ⟨J,U⟩=>θ e s (J▸W.forget env' U h)) _ _ _ ι
end
def gH (l:List η):η:=if l.isEmpty then .sl true 0 [] else .ms 0 l.length 0 l.length
def bW (t:TypeId) (k:Nat) (l:List η):List Row:=if l.isEmpty then [] else [.cells t k l]
def gV (k:Nat) (l:List η):η:=if l.isEmpty then .sl true 0 [] else .sl false k l
theorem rS:gH []=.sl true 0 []:=rfl
theorem k5 {t k:Nat}:bW t k []=[]:=rfl
theorem ts {l:List η} (h:l≠[]):gH l=.ms 0 l.length 0 l.length:=by unfold gH;rw[if_neg (by simpa using h)]
theorem e6 {t k:Nat} {l:List η} (h:l≠[]):bW t k l=[.cells t k l]:=by unfold bW;rw[if_neg (by simpa using h)]
theorem yv {l:List η} {x:η}:gH (l++[x])=.ms 0 (l.length+1) 0 (l.length+1):=by rw[ts ζ];simp
theorem tt {t k:Nat} {l:List η} {x:η}:bW t k (l++[x])=[.cells t k (l++[x])]:=e6 ζ
theorem eJ.acc {t k:Nat} {l:List η} (hb:∀e∈l,∀a∈e.cells,aJ 0 a):eJ 0 (bW t k l) (gH l) (gV k l):=by
 unfold bW gH gV;cases h:l.isEmpty with
 | true=>exact .low ζ
 | false=>exact .own (Nat.zero_le _) rfl rfl hb
theorem c6.acc {k:Nat} {l:List η}:c6 (gV k l) (.sl false k l):=by
 unfold gV;cases h:l.isEmpty with
 | true=>rw[List.isEmpty_iff.1 h];exact .nil
 | false=>exact .refl _
@[simp] theorem jς {α:Type} {l:List α} {a b:α}:(l++[a]).set l.length b=l++[b]:=by rw[List.set_append_right _ _ (Nat.le_refl _),Nat.sub_self];rfl
@[simp] theorem jτ {t k:Nat} {l:List η}:aJ (bW t k l).length (gH l):=by
 unfold gH bW;cases l.isEmpty<;>simp[m5]
theorem aJ.mono {h c9:Nat} {a:η} (hb:aJ h a) (aY:h<=c9):aJ c9 a:=by
 induction hb with
 | z v=>exact .z v
 | cg=>exact .cg
 | ao _ ω=>exact .ao ω
 | sl _ ω=>exact .sl ω
 | a0 _ ω=>exact .a0 ω
 | bq _ ω=>exact .bq ω
 | fn _ _ sP mZ=>exact .fn sP mZ
 | fY _ ω=>exact .fY ω
 | ah h=>exact .ah R
 | ms h=>exact .ms R
 | mp h=>exact .mp R
 | it h=>exact .it R
theorem AY {t k h:Nat} {l:List η} (hb:∀e∈l,∀a∈e.cells,aJ 0 a):∀r∈bW t k l,e3 h r:=by
 intro r ι;unfold bW at ι;cases ξ:l.isEmpty with
 | true=>rw[ξ] at ι;simp at ι
 | false=>
  rw[ξ] at ι;simp at ι;subst ι;exact λe he a κ=>(hb e he a κ).mono (Nat.zero_le _)
section
variable {P:Program} {m nt:Nat} {k:List Item} {env:Χ} {Z:List Item->Χ->List Row->Prop} {E:η->Χ->List Row->Prop}
theorem W.pD {σ0:List Row} {t:TypeId} {e:η} {kk:Nat} (hm:m<=σ0.length) (kE:∀r∈σ0,e3 σ0.length r) (he:∀a∈e.cells,aJ σ0.length a) (env':Χ)
  (cE:∀p∈env',(a5 env p.1=p.2/\aJ σ0.length p.2)\/(a5 env p.1=.ah σ0.length 1 0 0/\p.2=.ao e.cells)) (hW:W P m nt k env' σ0 Z E):W P m nt k env (σ0++[.cells t kk [e]]) Z E:=
 W.fix (t:=t) (kk:=kk) (e:=e) hm ζ he (λid r b5 ι=>kE r (by
  rw[dI b5] at ι;exact cG ι)) ζ env' cE hW
theorem W.Xc {t kk:Nat} {l:List η} {d:Nat} (hb:∀e∈l,∀a∈e.cells,aJ 0 a) (env':Χ) (hd:a5 env d=gH l) (cE:∀p∈env',a5 env p.1=p.2/\aJ 0 p.2) (hW:W P 0 nt k ((d,gV kk l)::env') [] Z E):W P 0 nt k env (bW t kk l) Z E:=
 W.cut 0 (Nat.zero_le _) ((d,gV kk l)::env') (Nat.zero_le _) (λid r b5=>R) (λp π=>by
  rcases List.mem_cons.1 π with rfl|π
  ·show eJ 0 _ (a5 env d) _;rw[hd];exact .acc hb
  ·rw[(cE p π).1];exact .low (cE p π).2) (by simpa using hW)
end
abbrev mq (l:List Int):η:=.sl true 1 (l.map I)
theorem c6.Xd {L:List (List Int)}:c6 (gV 1 (L.map mq)) (a6 L):=.trans .acc (.map λx _=>.one .ex rfl rfl)
theorem NQ {L:List (List Int)}:∀e∈L.map mq,∀a∈e.cells,aJ 0 a:=by
 intro e he a κ;obtain⟨x,_,rfl⟩:=List.mem_map.1 he;simp[η.cells] at κ;subst κ;simp
theorem Xe (n:Int):az Tryz.prog 51 [I n] (.bq [I (if valid n then Et n else 0),I (if valid n then 0 else 1)]):=by
 refine ab.body Υ Tryz.func51 rfl rfl Tryz.ntmps51 rfl rfl ζ ?_;refine Η ?_;refine bh λΘ θ=>?_;refine az.d (yq n) (bD ?_);apply θ;cases b:valid n
 ·refine aD rfl ?_;refine Η ?_;refine W.rt ?_;exact .of rfl
 ·refine aA rfl ?_;refine bh λΘ θ=>?_;refine az.d (WH n) (bD ?_);apply θ;refine Η ?_;refine W.rt ?_;exact .of rfl
def nd {α:Type} [DecidableEq α]:α->List α->List α
 | _,[]=>[]
 | a,b::l=>if b=a then nd a l else b::nd b l
def ig {α:Type} [DecidableEq α]:List α->List α
 | []=>[]
 | a::l=>a::nd a l
theorem NR {α:Type} [DecidableEq α] (l:List α) {p:Nat} (π:0<p) (h:p<l.length) (c9:p-1<l.length):ig (l.take (p+1))=ig (l.take p)++if l[p]=l[p-1] then [] else [l[p]]:=by
 have gen:∀(l:List α) (a:α) (p:Nat) (h:p<l.length),nd a (l.take (p+1))=nd a (l.take p)++if l[p]=(a::l)[p]'(by simp;omega) then [] else [l[p]]:=by
  intro l
  induction l with
  | nil=>intro a p h;cases h
  | cons b l ω=>
   intro a p h;cases p with
   | zero=>by_cases e:b=a<;>simp[nd,e]
   | succ p=>
    have U:p<l.length:=by simpa using h
    by_cases e:b=a
    ·subst e;have:=ω b p U;simp only[List.take_succ_cons,nd,if_true,List.getElem_cons_succ] at this ⊢;exact this
    ·have:=ω b p U;simp only[List.take_succ_cons,nd,e,if_false,List.getElem_cons_succ,List.cons_append] at this ⊢;rw[this]
 cases l with
 | nil=>cases h
 | cons a l=>
  obtain⟨q,rfl⟩:∃q,p=q+1:=⟨p-1,R⟩;have U:q<l.length:=by simpa using h
  have:=gen l a q U;simp only[List.take_succ_cons,ig,List.getElem_cons_succ,Nat.add_sub_cancel] at this ⊢;rw[this];rfl
theorem EA {f:List Int} {L:List η} (ai:L=f.map I) {j:Nat} {x:Int} (h:f[j]?=some x):L[j]?=some (I x)/\∀h:j<L.length,L[j]=I x:=by
 have e:L[j]?=some (I x):=by rw[ai,List.getElem?_map,h];rfl
 exact⟨e,λδ=>by rw[a8 δ] at e;exact Option.some.inj e⟩
theorem Xf (l:List Int) (n:Nat) (Ζ:l.length=n) (ν:n<2 ^ 40):ab Tryz.prog 133 [.ms 0 n 0 n] [.cells 3 1 (l.map I)]
  (λr s=>∃tail:List Int,(ig l++tail).length=n/\r=.ms 0 n 0 (ig l).length/\s=[.cells 3 1 ((ig l++tail).map I)]) (λ_ _=>False):=by
 refine ab.body Υ Tryz.func133 rfl rfl Tryz.ntmps133 rfl rfl ζ ?_;by_cases U:(n:Int)<2
 ·refine aE (υ Ζ U) ?_;refine aD rfl ?_;refine aE Ζ ?_;refine W.ret ⟨_,rfl,[],?_⟩;have e:ig l=l:=by
   match l,Ζ with
   | [],_=>rfl
   | [a],_=>rfl
   | a::b::l,Ζ=>simp at Ζ;omega
  rw[e,List.append_nil,Ζ];exact⟨rfl,rfl,rfl⟩
 refine aE (υ Ζ U) ?_;refine aA rfl ?_;refine Η ?_;refine W.iter (λk:Nat=>1<=k/\k<=n/\ig (l.take k)=l.take k) (λk=>[(0,.ms 0 n 0 n),(3,I k)]) (λ_=>[.cells 3 1 (l.map I)]) (λk=>n-k) 1 ⟨Nat.le_refl _,R,by
  match l,Ζ with
  | [],Ζ=>rfl
  | a::l,Ζ=>rfl⟩ rfl ζ (λk χ ω=>?_)
 obtain⟨k1,cp,rL⟩:=χ;refine aE Ζ ?_;by_cases ε:k<n
 ·refine aD (by simp[ε]) ?_
  repeat apply Ω
  obtain⟨p,π⟩:∃p,k=p+1:=⟨k-1,R⟩;have oJ:IntKind.i64.wrap ((k:Int)-1)=(p:Int):=by have:=gq (show p<2 ^ 62 by omega);rw[π];simpa using this
  have rP:p<n:=R
  have jK:k<l.length:=R
  have iE:p<l.length:=R;obtain⟨L,ai⟩:=aK (l.map I);have kl:L.length=n:=by rw[ai];simpa using Ζ
  obtain⟨a1,a9⟩:=EA ai (a8 jK);obtain⟨bC,dt⟩:=EA ai (a8 iE);refine W.to (σ':=[.cells 3 1 L]) (env':=[(0,.ms 0 n 0 n),(3,I k)]) ?_ (by rw[ai]) ζ;generalize γ:l[k]=x at a1 a9;generalize Κ:l[p]=y at bC dt;refine dR (υ ε (υ oJ (υ kl (υ rP (υ a1 (υ a9 (υ bC dt))))))) ?_;have eW:ig (l.take (k+1))=ig (l.take k)++if x=y then [] else [x]:=by
   rw[NR l R jK R];simp only[π,Nat.add_sub_cancel] at γ ⊢;rw[γ,Κ]
  by_cases yb:x=y
  ·refine aD (by simp[yb]) ?_
   repeat apply Ω
   refine W.iN (A:=[]) Υ [(0,.ms 0 n 0 n),(3,I k),(4,.ms 0 n k (n-k))] [.cells 3 1 L] ?_ (by
    (try simp);(repeat (rw[al];simp[kl,Nat.le_of_lt ε]));(try simp[kl,Nat.le_of_lt ε]))
   refine Η ?_;have cH:ig (l.take (k+1))=l.take k:=by rw[eW,if_pos yb,List.append_nil,rL]
   refine W.iter (λq:Nat×Nat×List Int=>1<=q.2.1/\k+q.2.1<=n/\q.2.2.length=n/\q.1<k+q.2.1/\q.1=(ig (l.take (k+q.2.1))).length/\q.2.2.take q.1=ig (l.take (k+q.2.1))/\∀j,k+q.2.1-1<=j->j<n->q.2.2[j]?=l[j]?)
    (λq=>[(0,.ms 0 n 0 n),(3,I q.1),(4,.ms 0 n k (n-k)),(5,I q.2.1)]) (λq=>[.cells 3 1 (q.2.2.map I)]) (λq=>n-q.2.1) (k,1,l) ⟨Nat.le_refl _,by simp;omega,Ζ,ζ,by simp only[cH];simp;omega,by simp only[cH],λj _ _=>rfl⟩ (by rw[ai]) ζ (λq Ξ g4=>?_)
   obtain⟨m,cp,f⟩:=q;obtain⟨c1,c2,c3,c4,nO,sY,rG⟩:=Ξ;simp only at c1 c2 c3 c4 nO sY rG;clear ai kl a1 a9 bC dt;refine aE c3 ?_;by_cases hd:cp<n-k
   ·have qs:(cp:Int)<((n-k:Nat):Int):=by omega
    refine aD (by simp[hd]) ?_
    repeat apply Ω
    obtain⟨wM,jq⟩:∃r,cp=r+1:=⟨cp-1,R⟩;have fZ:IntKind.i64.wrap ((cp:Int)-1)=(wM:Int):=by have:=gq (show wM<2 ^ 62 by omega);rw[jq];simpa using this
    have ι:wM<n-k:=R;obtain⟨M,dG⟩:=aK (f.map I);have Il:M.length=n:=by rw[dG];simpa using c3
    have hu:f[k+cp]?=some (l[k+cp]'R):=by rw[rG _ R R,a8]
    have hv:f[k+wM]?=some (l[k+wM]'R):=by rw[rG _ R R,a8]
    have eg:=NR l (p:=k+cp) R R R
    have Xg:l[k+cp-1]'R=l[k+wM]'R:=by congr 1;omega
    rw[Xg] at eg;generalize l[k+cp]'R=u at hu eg;generalize l[k+wM]'R=v at hv eg;obtain⟨b9,bZ⟩:=EA dG hu;obtain⟨v1,v2⟩:=EA dG hv;refine W.to (σ':=[.cells 3 1 M]) (env':=[(0,.ms 0 n 0 n),(3,I m),(4,.ms 0 n k (n-k)),(5,I cp)]) ?_ (by rw[dG]) ζ;have pd:m<n:=R;refine W.draw (A:=[]) Υ mixed λΘ θ=>?_;simp;(repeat (rw[dq];simp[hd,fZ,ι,Il,b9,bZ,v1,v2]));try rw[dp];refine e5 (θ _ _ ?_)
    by_cases EB:u=v
    ·refine aA (by simp[EB]) ?_;refine Η ?_;rw[if_pos EB,List.append_nil] at eg;refine W.to (g4 (m,cp+1,f) ⟨ζ,by simp;omega,c3,by simp;omega,by simp only[<-Nat.add_assoc,eg];exact nO,by simp only[<-Nat.add_assoc,eg];exact sY,λj J U=>rG j (by simp at J;omega) U⟩ (by simp;omega)) (by rw[dG]) ?_;have:=gq (show cp+1<2 ^ 62 by omega);simpa using this
    ·refine aD (by simp[EB]) ?_;rw[if_neg EB] at eg
     repeat apply Ω
     refine W.iN (A:=[]) Υ [(0,.ms 0 n 0 n),(3,I m),(4,.ms 0 n k (n-k)),(5,I cp)] [.cells 3 1 ((f.set m u).map I)] ?_ (by
      (try simp);(repeat (rw[al];simp[hd,Il,pd,b9,bZ]));(try simp[hd,Il,pd,b9,bZ]);subst dG;simp)
     refine Η ?_;refine W.to (g4 (m+1,cp+1,f.set m u) ⟨ζ,by simp;omega,by simpa using c3,by simp;omega,by simp only[<-Nat.add_assoc,eg];simp;exact nO,?_,λj J U=>?_⟩ (by simp;omega)) ζ ?_
     ·simp only[<-Nat.add_assoc,eg];rw[<-sY,List.take_succ_eq_append_getElem (by simp;omega),List.take_set_of_le (Nat.le_refl _)];simp
     ·simp at J;rw[List.getElem?_set_ne R];exact rG j R U
     ·have Γ:=gq (show cp+1<2 ^ 62 by omega)
      have Δ:=gq (show m+1<2 ^ 62 by omega);simp at Γ Δ ⊢;exact⟨Δ,Γ⟩
   ·refine aA (by simp[hd]) ?_;refine W.exit rfl ?_;have he:k+cp=n:=R;have Xh:l.take n=l:=List.take_of_length_le R;rw[he,Xh] at nO sY
    repeat apply Ω
    have pd:m<=n:=R;refine W.iN (A:=[]) Υ [(0,.ms 0 n 0 n),(3,I m)] [.cells 3 1 ((ig l++List.replicate (n-m) 0).map I)] ?_ (by
     (try simp);(repeat (rw[al];simp[c3,pd]));(try simp[c3,pd]);rw[<-List.map_take,sY,List.drop_eq_nil_of_le (by simp;omega),List.append_nil])
    have Xi:(ig l).length+(n-m)=n:=R;refine aE (υ Xi pd) ?_;refine W.ret ⟨_,rfl,List.replicate (n-m) 0,by simp;omega,?_,ζ⟩;rw[<-nO];rfl
  ·refine aA (by simp[yb]) ?_;refine Η ?_;refine W.to (ω (k+1) ⟨R,R,?_⟩ R) (by rw[ai]) ?_
   ·rw[eW,if_neg yb,rL,<-γ,<-List.take_succ_eq_append_getElem jK]
   ·have:=gq (show k+1<2 ^ 62 by omega);simpa using this
 ·refine aA (by simp[ε]) ?_;refine W.exit rfl ?_;refine Η ?_;refine W.ret ⟨_,rfl,[],?_⟩;have e:ig l=l:=by rw[List.take_of_length_le R] at rL;exact rL
  rw[e,List.append_nil,Ζ];exact⟨rfl,rfl,rfl⟩
def tu:aS:=⟨[],[],[]⟩
theorem Im {e f g:Bool} {a b c:Nat}:c6 (.a0 [.sl e a [],.sl f b [],.sl g c []]) (fS tu):=.a0 (.cons .nil (.cons .nil (.cons .nil .nil)))
abbrev NS (r:aS×List Found×Int):η:=.bq [fS r.1,cW r.2.1,I r.2.2]
def eK (s:aS) (b6:Bool) (F:List Found):aS×List Found×Int:=
 if s.err≠0 then(tu,[],s.err) else if b6=true/\F=[] then(s,[],9) else(s,F,0)
def oM (s:aS) (cell:Int) (F:List Found):aS×List Found×Int:=
 if s.err≠0 then(tu,[],s.err) else if cell<0\/(s.cells.length:Int)<=cell then(tu,[],3) else eK s true F
def rT (s:aS) (F:List Found):Prop:=s.err=0->az Tryz.prog 116 [fS s] (cW F)
theorem AZ (s:aS) (ν:s.small) (b6:Bool) (F:List Found) (ev:rT s F):az Tryz.prog 75 [fS s,a' b6] (NS (eK s b6 F)):=by
 refine ab.body Υ Tryz.func75 rfl rfl Tryz.ntmps75 rfl rfl ζ ?_
 repeat apply Ω
 refine dB (A:=[4]) Υ λΘ θ=>bD ?_;apply θ;refine bh λΘ θ=>?_;refine az.d (Ik s ν) (bD ?_);apply θ;refine Η ?_;by_cases dd:s.err=0
 case neg=>
  have e:eK s b6 F=(tu,[],s.err):=by unfold eK;rw[if_pos dd]
  rw[e];refine aD (by simp[dd]) ?_;refine Η ?_;refine W.fix (id:=0) (σ':=[]) (Nat.zero_le _) rfl ζ ζ rfl [(4,.ao [.sl true 0 [],.sl true 0 [],.sl true 0 []]),(5,.sl true 0 []),(6,I s.err)] ζ ?_;refine W.rt ?_;exact .bq (.cons Im (.cons .nil (.cons (.refl _) .nil)))
 refine aA (by simp[dd]) ?_
 repeat apply Ω
 refine dB (A:=[8]) Υ λΘ θ=>bD ?_;apply θ;refine bh λΘ θ=>?_;refine az.d (ev dd) (bD ?_);apply θ
 repeat apply Ω
 cases b6
 case false=>
  have e:eK s false F=(s,F,0):=by unfold eK;rw[if_neg (by simpa using dd),if_neg ζ]
  rw[e];refine Η ?_;refine aA rfl ?_;refine Η ?_;refine W.fix (id:=0) (σ':=[]) (Nat.zero_le _) rfl ζ ζ rfl [(4,.ao [aT s.ae,a6 s.aj,bx s.cells]),(5,cW F),(6,I 0)] ζ ?_;refine W.rt ?_;exact .refl _
 case true=>
  refine Η ?_;by_cases z:F=[]
  ·have e:eK s true F=(s,[],9):=by unfold eK;rw[if_neg (by simpa using dd),if_pos ⟨rfl,z⟩]
   rw[e];refine aD (by simp[z]) ?_;refine Η ?_;refine W.fix (id:=0) (σ':=[]) (Nat.zero_le _) rfl ζ ζ rfl [(4,.ao [aT s.ae,a6 s.aj,bx s.cells]),(5,.sl true 0 []),(6,I 9)] ζ ?_;refine W.rt ?_;exact .bq (.cons (.refl _) (.cons .nil (.cons (.refl _) .nil)))
  ·have e:eK s true F=(s,F,0):=by unfold eK;rw[if_neg (by simpa using dd),if_neg (by simp[z])]
   rw[e];refine aA (by simp[z]) ?_;refine Η ?_;refine W.fix (id:=0) (σ':=[]) (Nat.zero_le _) rfl ζ ζ rfl [(4,.ao [aT s.ae,a6 s.aj,bx s.cells]),(5,cW F),(6,I 0)] ζ ?_;refine W.rt ?_;exact .refl _
theorem Xj (s:aS) (ν:s.small) (cell:Int) (F:List Found) (ev:rT s F):az Tryz.prog 82 [fS s,I cell] (NS (oM s cell F)):=by
 refine ab.body Υ Tryz.func82 rfl rfl Tryz.ntmps82 rfl rfl ζ ?_
 repeat apply Ω
 refine dB (A:=[4]) Υ λΘ θ=>bD ?_;apply θ;refine bh λΘ θ=>?_;refine az.d (Ik s ν) (bD ?_);apply θ;refine Η ?_;by_cases dd:s.err=0
 case neg=>
  have e:oM s cell F=(tu,[],s.err):=by unfold oM;rw[if_pos dd]
  rw[e];refine aD (by simp[dd]) ?_;refine Η ?_;refine W.fix (id:=0) (σ':=[]) (Nat.zero_le _) rfl ζ ζ rfl [(4,.ao [.sl true 0 [],.sl true 0 [],.sl true 0 []]),(5,.sl true 0 []),(6,I s.err)] ζ ?_;refine W.rt ?_;exact .bq (.cons Im (.cons .nil (.cons (.refl _) .nil)))
 refine aA (by simp[dd]) ?_;have cF:oM s cell F=if cell<0\/(s.cells.length:Int)<=cell then(tu,[],3) else eK s true F:=by unfold oM;rw[if_neg (by simpa using dd)]
 repeat apply Ω
 refine W.s6 (A:=[]) Υ [(22,a' (decide (cell<0)||decide ((s.cells.length:Int)<=cell))),(2,.ao [aT s.ae,a6 s.aj,bx s.cells]),(4,.ah 0 1 0 0),(1,I cell)] ?_ (by
  by_cases q:cell<0
  ·(try simp);(repeat (rw[al];simp[q]));(try simp[q])
  ·(try simp);(repeat (rw[al];simp[q]));(try simp[q]))
 by_cases bC:cell<0\/(s.cells.length:Int)<=cell
 ·rw[cF,if_pos bC];refine aD (by simpa using bC) ?_;refine Η ?_;refine W.fix (id:=0) (σ':=[]) (Nat.zero_le _) rfl ζ ζ rfl [(4,.ao [.sl true 0 [],.sl true 0 [],.sl true 0 []]),(5,.sl true 0 []),(6,I 3)] ζ ?_;refine W.rt ?_;exact .bq (.cons Im (.cons .nil (.cons (.refl _) .nil)))
 ·rw[cF,if_neg bC];refine aA (by simpa using bC) ?_;refine bh λΘ θ=>?_;refine az.d (AZ s ν true F ev) (bD ?_);apply θ;refine Η ?_;generalize eK s true F=r;refine W.fix (id:=0) (σ':=[]) (Nat.zero_le _) rfl ζ ζ rfl [(4,.ao [aT r.1.ae,a6 r.1.aj,bx r.1.cells]),(5,cW r.2.1),(6,I r.2.2)] ζ ?_;refine W.rt ?_;exact .refl _
def Small (F:List Found):Prop:=F.length<2 ^ 20/\(∀f∈F,f.cells.length<2 ^ 20/\(∀i,i<=f.cells.length->∀gT,je f.cells gT i<2 ^ 40)/\∀c∈f.cells,c.length<2 ^ 20)
theorem NT (s:aS) (ν:s.small) (F:List Found) (ev:rT s F) (Τ:Small F) (ε:g3 F<2 ^ 62):az Tryz.prog 39 [fS s] (.bq [I (if s.err=0 then g3 F else 0),I s.err]):=by
 refine ab.body Υ Tryz.func39 rfl rfl Tryz.ntmps39 rfl rfl ζ ?_;refine Η ?_;refine c7 ?_;refine dB (A:=[4]) Υ λΘ θ=>bD ?_;refine az.d (AZ s ν false F ev) (bD ?_);apply θ;have e:eK s false F=if s.err=0 then(s,F,0) else(tu,[],s.err):=by
  unfold eK;by_cases b:s.err=0
  ·rw[if_neg (by simpa using b),if_neg ζ,if_pos b]
  ·rw[if_pos b,if_neg b]
 have Γ:(eK s false F).2.1=if s.err=0 then F else []:=by rw[e];split<;>rfl
 have Δ:(eK s false F).2.2=s.err:=by rw[e];split<;>simp[*]
 have fin:∀l:List Found,(∀f∈l,f∈F)->l.length<=F.length->g3 l<2 ^ 62->az Tryz.prog 79 [cW l] (I (g3 l)):=λl ξ J U=>
  NH l (by have:=Τ.1;omega) (λf γ=>⟨by have:=(Τ.2 f (ξ f γ)).1;omega,λi hi=>by have:=(Τ.2 f (ξ f γ)).2.1 i hi (-1);omega⟩) U
 rw[Γ,Δ];by_cases b:s.err=0
 ·rw[if_pos b];refine bh λΘ θ=>?_;refine az.d (fin F (λf h=>h) (Nat.le_refl _) ε) (bD ?_);apply θ;refine W.drop (h:=0) (Nat.zero_le _) (Nat.zero_le _) ζ rfl [(2,I (g3 F)),(3,I s.err)] ζ ?_;refine W.rt ?_;rw[if_pos b];exact .refl _
 ·rw[if_neg b];refine bh λΘ θ=>?_;refine az.d (fin [] ζ ζ (by simp[g3])) (bD ?_);apply θ;refine W.drop (h:=0) (Nat.zero_le _) (Nat.zero_le _) ζ rfl [(2,I (g3 [])),(3,I s.err)] ζ ?_;refine W.rt ?_;rw[if_neg b];exact .refl _
def lG (F:List Found):List (List Int):=F.map λf=>[f.u,f.v]
theorem NU {α β:Type} (f:α->β) (l:List α) {i:Nat} (h:i<l.length):(l.take (i+1)).map f=(l.take i).map f++[f l[i]]:=by
 rw[List.take_succ_eq_append_getElem h,List.map_append];rfl
theorem Xk (s:aS) (ν:s.small) (F:List Found) (ev:rT s F) (Τ:F.length<2 ^ 20):az Tryz.prog 42 [fS s] (.bq [a6 (if s.err=0 then lG F else []),I s.err]):=by
 refine ab.body Υ Tryz.func42 rfl rfl Tryz.ntmps42 rfl rfl ζ ?_;refine Η ?_;refine c7 ?_;refine dB (A:=[4]) Υ λΘ θ=>bD ?_;refine az.d (AZ s ν false F ev) (bD ?_);apply θ;have e:eK s false F=if s.err=0 then(s,F,0) else(tu,[],s.err):=by
  unfold eK;by_cases b:s.err=0
  ·rw[if_neg (by simpa using b),if_neg ζ,if_pos b]
  ·rw[if_pos b,if_neg b]
 have Γ:(eK s false F).2.1=if s.err=0 then F else []:=by rw[e];split<;>rfl
 have Δ:(eK s false F).2.2=s.err:=by rw[e];split<;>simp[*]
 obtain⟨G,di⟩:∃G,G=if s.err=0 then F else []:=⟨_,rfl⟩
 have hY:G.length<2 ^ 20:=by rw[di];split;exact Τ;simp
 have mR:(if s.err=0 then lG F else [])=lG G:=by rw[di];split<;>rfl
 rw[Γ,Δ,mR,<-di];clear di mR e Γ Δ;generalize s.err=fZ;refine W.drop (h:=0) (σ':=[]) (Nat.zero_le _) (Nat.zero_le _) ζ rfl [(5,cW G),(6,I fZ)] ζ ?_;refine Η ?_;have jυ:∀i,(lG G).take i=lG (G.take i):=λi=>by simp[lG]
 refine W.iter (λi:Nat=>i<=G.length) (λi=>[(6,I fZ),(7,gH ((lG (G.take i)).map mq)),(16,cW G),(17,I G.length),(18,I i)])
  (λi=>bW 29 1 ((lG (G.take i)).map mq)) (λi=>G.length-i) 0 (Nat.zero_le _) rfl (by simp[rS,lG]) (λi hi ω=>?_)
 refine Η ?_;refine W.eS rfl (λε=>?_) (λε=>?_)
 ·have ε:i<G.length:=by simpa using ε
  have eW:(lG (G.take (i+1))).map mq=(lG (G.take i)).map mq++[mq [G[i].u,G[i].v]]:=by
   unfold lG;rw[List.map_map,List.map_map,NU _ _ ε];rfl
  have NV:=λh=>AY (t:=29) (k:=1) (h:=h) (NQ (L:=lG (G.take i)))
  have Xl:((lG (G.take i)).map mq).length<=i:=by simp[lG];omega
  obtain⟨L,ai⟩:=aK ((lG (G.take i)).map mq);rw[<-ai] at NV Xl eW;refine W.to (σ':=bW 29 1 L) (env':=[(6,I fZ),(7,gH L),(16,cW G),(17,I G.length),(18,I i)]) ?_ (by rw[ai]) (by rw[ai];simp)
  repeat apply Ω
  refine dB (A:=[9]) Υ λΘ θ=>gS ε ?_;apply θ;refine W.pD (Nat.zero_le _) (NV _) ζ [(9,.ao [I G[i].u,I G[i].v,m' G[i].cells]),(6,I fZ),(7,gH L),(16,cW G),(17,I G.length),(18,I i)] ζ ?_
  repeat apply Ω
  refine W.iN (A:=[26]) Υ [(6,I fZ),(7,gH (L++[mq [G[i].u,G[i].v]])),(16,cW G),(17,I G.length),(18,I i)] (bW 29 1 (L++[mq [G[i].u,G[i].v]])) ?_ (by
   by_cases Φ:L=[]
   ·subst Φ;(try simp);(repeat (rw[al];simp[rS,k5]));(try simp[rS,k5]);exact⟨rfl,rfl⟩
   ·have nf:L.length<=4294967295:=by omega
    (try simp);(repeat (rw[al];simp[ts Φ,e6 Φ,yv,tt]));(try simp[ts Φ,e6 Φ,yv,tt]);exact nf)
  refine Η ?_;refine W.to (ω (i+1) ε R) ?_ ?_
  ·rw[eW]
  ·rw[eW];simp[fl ε (show G.length<2 ^ 62 by omega)]
 ·have ε:i=G.length:=by simp at ε;omega
  subst ε;refine W.exit rfl ?_;refine Η ?_;refine W.Xc (d:=2) NQ [(3,I fZ)] ζ ζ ?_;refine W.rt ?_;exact .bq (.cons .Xd (.cons (.refl _) .nil))
abbrev nZ (l:List Int):List Int:=l.mergeSort (λx y=>decide (x<=y))
def EC (N:Nat):Prop:=∀(l:List Int),l.length<=N->ab Tryz.prog 132 [.ms 0 l.length 0 l.length] [.cells 3 1 (l.map I)] (λr s=>r=.bq []/\s=[.cells 3 1 ((nZ l).map I)]) (λ_ _=>False)
def k6 (lower:Bool) (r:Int×Int):Int:=if lower then r.2 else r.1
def oN (lower:Bool) (A:List Int) (C:List (Int×Int)) (j:Nat):List Int:=A++(C.take j).map (k6 lower)
theorem NW {lower:Bool} {A:List Int} {C:List (Int×Int)}:oN lower A C 0=A:=by simp[oN]
theorem Xm {lower:Bool} {A:List Int} {C:List (Int×Int)} {j:Nat} (h:j<C.length):oN lower A C (j+1)=oN lower A C j++[k6 lower C[j]]:=by
 unfold oN;rw[NU _ _ h,List.append_assoc]
theorem NX {lower:Bool} {A:List Int} {C:List (Int×Int)} {j:Nat} (h:C.length<=j):oN lower A C j=A++C.map (k6 lower):=by
 unfold oN;rw[List.take_of_length_le h]
theorem Xn {lower:Bool} {A:List Int} {C:List (Int×Int)} {j:Nat}:(oN lower A C j).length<=A.length+j:=by
 unfold oN;simp;omega
def yw (f:Found) (cell:Nat) (lower:Bool):List Int:=((f.cells[cell]?).getD []).map (k6 lower)
def gr (F:List Found) (cell:Nat) (lower:Bool):List Int:=F.flatMap λf=>yw f cell lower
def lH (F:List Found) (cell:Nat) (lower:Bool):List Int:=ig (nZ (gr F cell lower))
theorem Io {l:List Int}:∀e∈l.map I,∀a∈e.cells,aJ 0 a:=by
 intro e he a κ;obtain⟨x,_,rfl⟩:=List.mem_map.1 he;simp[η.cells] at κ;subst κ;simp
theorem Xo (F:List Found) (cell:Nat) (lower:Bool) (ev:F.length<2 ^ 20) (iZ:∀f∈F,cell<f.cells.length/\∀c∈f.cells,c.length<2 ^ 20) (N:Nat) (ck:N<2 ^ 20) (gh:EC N) (bA:gr F cell lower≠[]) (hle:(gr F cell lower).length<=N) :
  az Tryz.prog 95 [cW F,I cell,a' lower] (bt I 1 (lH F cell lower)):=by
 refine ab.body Υ Tryz.func95 rfl rfl Tryz.ntmps95 rfl rfl ζ ?_;refine Η ?_;refine W.iter (λi:Nat=>i<=F.length) (λi=>[(1,I cell),(2,a' lower),(7,gH ((gr (F.take i) cell lower).map I)),(12,cW F),(13,I F.length),(14,I i)])
  (λi=>bW 3 1 ((gr (F.take i) cell lower).map I)) (λi=>F.length-i) 0 (Nat.zero_le _) rfl (by simp[gr,rS]) (λi hi ω=>?_)
 refine Η ?_;have Xp:∀i,(gr (F.take i) cell lower).length<=N:=λi=>by
  have e:gr F cell lower=gr (F.take i) cell lower++gr (F.drop i) cell lower:=by
   conv=>lhs;rw[<-List.take_append_drop i F]
   simp only[gr,List.flatMap_append]
  rw[e,List.length_append] at hle;omega
 refine W.eS rfl (λε=>?_) (λε=>?_)
 ·have aC:i<F.length:=by simpa using ε
  obtain⟨cm,mc⟩:=iZ _ (List.getElem_mem aC);have hC:F[i].cells[cell].length<2 ^ 20:=mc _ (List.getElem_mem cm);obtain⟨A,bY⟩:=aK (gr (F.take i) cell lower);have eW:gr (F.take (i+1)) cell lower=A++F[i].cells[cell].map (k6 lower):=by
   rw[bY];unfold gr;rw[List.take_succ_eq_append_getElem aC,List.flatMap_append];simp[yw,cm]
  have NY:(A++F[i].cells[cell].map (k6 lower)).length<=N:=by rw[<-eW];exact Xp _
  rw[List.length_append,List.length_map] at NY;refine W.to (σ':=bW 3 1 (A.map I)) (env':=[(1,I cell),(2,a' lower),(7,gH (A.map I)),(12,cW F),(13,I F.length),(14,I i)]) ?_ (by rw[bY]) (by rw[bY];simp)
  repeat apply Ω
  refine dB (A:=[9]) Υ λΘ θ=>gS aC ?_;apply θ;refine W.pD (Nat.zero_le _) (AY Io) ζ [(9,.ao [I F[i].u,I F[i].v,m' F[i].cells]),(1,I cell),(2,a' lower),(7,gH (A.map I)),(12,cW F),(13,I F.length),(14,I i)] ζ ?_;refine aE cm ?_;generalize jφ:F[i].cells[cell]=C at hC eW NY;refine W.iter (λj:Nat=>j<=C.length) (λj=>[(1,I cell),(2,a' lower),(7,gH ((oN lower A C j).map I)),(12,cW F),(13,I F.length),(14,I i),(22,m9 C),(23,I C.length),(24,I j)])
   (λj=>bW 3 1 ((oN lower A C j).map I)) (λj=>C.length-j) 0 (Nat.zero_le _) (by rw[NW]) (by simp[NW]) (λj δ g4=>?_)
  refine Η ?_;refine W.eS rfl (λa3=>?_) (λa3=>?_)
  ·have aH:j<C.length:=by simpa using a3
   obtain⟨L,ai⟩:=aK (oN lower A C j);have jh:L.length<=A.length+j:=by rw[ai];exact Xn
   have A0:oN lower A C (j+1)=L++[k6 lower C[j]]:=by rw[ai];exact Xm aH
   refine W.to (σ':=bW 3 1 (L.map I)) (env':=[(1,I cell),(2,a' lower),(7,gH (L.map I)),(12,cW F),(13,I F.length),(14,I i),(22,m9 C),(23,I C.length),(24,I j)]) ?_ (by rw[ai]) (by rw[ai];simp)
   repeat apply Ω
   refine dB (A:=[11]) Υ λΘ θ=>gS aH ?_;apply θ;refine W.pD (Nat.zero_le _) (AY Io) ζ [(11,.ao [I C[j].1,I C[j].2]),(1,I cell),(2,a' lower),(7,gH (L.map I)),(12,cW F),(13,I F.length),(14,I i),(22,m9 C),(23,I C.length),(24,I j)] ζ ?_
   repeat apply Ω
   generalize C[j]=r at A0;refine W.iN (A:=[34]) Υ [(1,I cell),(2,a' lower),(7,gH ((L++[k6 lower r]).map I)),(12,cW F),(13,I F.length),(14,I i),(22,m9 C),(23,I C.length),(24,I j)] (bW 3 1 ((L++[k6 lower r]).map I)) ?_ (by
    have nf:L.length<=4294967295:=R;rw[List.map_append];cases lower
    all_goals
     by_cases Φ:L.map I=[]
     ·rw[Φ,rS,k5];(try simp);(repeat (rw[al];simp[]));(try simp[]);refine az.d (Ic _) (bD ?_);simp[bW,gH,k6]
     ·rw[ts Φ,e6 Φ];(try simp);(repeat (rw[al];simp[]));(try simp[]);refine az.d (Ic _) (bD ?_);simp[tt,yv,k6,nf])
   refine Η ?_;refine W.to (g4 (j+1) aH R) ?_ ?_
   ·rw[A0,List.map_append];rfl
   ·rw[A0];simp[fl aH (show C.length<2 ^ 62 by omega)]
  ·have aH:C.length<=j:=by simpa using a3
   refine W.exit rfl ?_;refine Η ?_;refine W.to (ω (i+1) aC R) ?_ ?_
   ·rw[eW,NX aH]
   ·rw[eW,NX aH];simp[fl aC (show F.length<2 ^ 62 by omega)]
 ·have aC:i=F.length:=by simp at ε;omega
  refine W.exit rfl ?_;rw[aC,List.take_length];obtain⟨M,dG⟩:=aK (gr F cell lower);rw[<-dG] at bA hle ⊢;have ED:M.map I≠[]:=by simpa using bA
  have hP:lH F cell lower=ig (nZ M):=by rw[dG];rfl
  have rU:(nZ M).length=M.length:=by simp[nZ]
  refine W.to (σ':=[.cells 3 1 (M.map I)]) (env':=[(7,.ms 0 M.length 0 M.length)]) ?_ (e6 ED) (by simp[ts ED]);refine bh λΘ θ=>?_;refine ab.one (gh M hle) 0 rfl (wJ rQ) (wJ rQ) (by simp[oH]) (by simp[fR]) (by simp[oI]) ?_;simp[ed,hS];(repeat (rw[al];simp[]));apply θ;refine bh λΘ θ=>?_;have Xq:=Xf (nZ M) M.length rU R;refine ab.Ig Xq 0 rfl (wJ rQ) (by simp[oH]) (by simp[oI]) (λa s ⟨tail,J,U,μ⟩=>⟨_,μ,wJ rQ,by subst U;simp[oH],?_⟩);subst U;simp[oI];(repeat (rw[al];simp[]));apply θ;refine W.cut 0 (Nat.zero_le _) [(6,bt I 1 (ig (nZ M)))] ζ ζ ?_ ?_
  ·intro p π;simp at π;subst π;have π:=eJ.part (σ:=[.cells 3 1 ((ig (nZ M)).map I++tail.map I)]) (id:=0) (t:=3) (k:=1) (l:=(ig (nZ M)).map I) (l2:=tail.map I) (m:=(ig (nZ M)).length) rfl ζ Io;have e:((ig (nZ M)).map I++tail.map I).length=M.length:=by rw[<-List.map_append,List.length_map];exact J
   rw[e] at π;exact π
  ·rw[hP];refine W.rt ?_;exact .refl _
abbrev kp (n:Int):η:=.z (.int .i32 n)
theorem Xr (l:List Int):s0 (l.map kp)=some l:=by
 induction l with
 | nil=>rfl
 | cons a l ω=>simp[s0,ω]
def u3 (s:aS) (F:List Found) (lower:Bool) (fa:ByteArray->Int) (c:Nat):Int:=
 let l:=lH F c lower
 if 1<l.length then 63 else if l.headD 0<0 then 45 else match s.ae[(l.headD 0).toNat]? with|some g=>fa g.name|none=>0
def n0 (s:aS) (F:List Found) (lower:Bool) (fa:ByteArray->Int) (c:Nat):List Int:=(List.range c).map (u3 s F lower fa)
def pE (s:aS) (F:List Found) (lower:Bool) (fa:ByteArray->Int):ByteArray×Int:=
 if(eK s true F).2.2=0 then(spell (n0 s F lower fa s.cells.length),0) else(⟨#[]⟩,(eK s true F).2.2)
structure Ip (s:aS) (F:List Found) (lower:Bool) (fa:ByteArray->Int) (N:Nat):Prop where
 n1:F.length<2 ^ 20
 cells:∀f∈F,f.cells.length=s.cells.length/\∀c∈f.cells,c.length<2 ^ 20
 some:∀c,c<s.cells.length->gr F c lower≠[]/\(gr F c lower).length<=N/\lH F c lower≠[]/\(lH F c lower).length<2 ^ 30/\∀x∈lH F c lower,x<s.ae.length
 name:∀g∈s.ae,(Conv.runesFrom g.name g.name.size 0 #[])[0]?=Option.some (.int .i32 (fa g.name))
theorem Iq (s:aS) (ν:s.small) (F:List Found) (ev:rT s F) (lower:Bool) (fa:ByteArray->Int) (N:Nat) (ck:N<2 ^ 20) (gh:EC N) (ai:(eK s true F).2.2=0->Ip s F lower fa N) :
  az Tryz.prog 40 [fS s,a' lower] (.bq [nT (pE s F lower fa).1,I (pE s F lower fa).2]):=by
 refine ab.body Υ Tryz.func40 rfl rfl Tryz.ntmps40 rfl rfl ζ ?_;refine Η ?_;refine c7 ?_;refine dB (A:=[6]) Υ λΘ θ=>bD ?_;refine az.d (AZ s ν true F ev) (bD ?_);apply θ;by_cases b:(eK s true F).2.2=0
 case neg=>
  have e:pE s F lower fa=(⟨#[]⟩,(eK s true F).2.2):=by unfold pE;rw[if_neg b]
  rw[e];generalize (eK s true F).2.2=fZ at b;refine Η ?_;refine aD (by simp[b]) ?_;refine Η ?_;refine W.drop (h:=0) (σ':=[]) (Nat.zero_le _) (Nat.zero_le _) ζ rfl [(4,nT ⟨#[]⟩),(5,I fZ)] ζ ?_;refine W.rt ?_;exact .refl _
 have ai:=ai b
 have e:eK s true F=(s,F,0):=by
  unfold eK at b ⊢;split at b
  ·rename_i h;simp at b;exact absurd b h
  ·split at b
   ·simp at b
   ·rename_i J U;rw[if_neg J,if_neg U]
 have Δ:pE s F lower fa=(spell (n0 s F lower fa s.cells.length),0):=by unfold pE;rw[if_pos b]
 rw[Δ,e];refine W.fix (id:=0) (σ':=[]) (Nat.zero_le _) rfl ζ ζ rfl [(1,a' lower),(6,.ao [aT s.ae,a6 s.aj,bx s.cells]),(7,cW F),(8,I 0)] ζ ?_;refine Η ?_;refine aA rfl ?_;refine Η ?_;have iZ:s.cells.length<2 ^ 30:=ν.2.2.1;refine W.iter (λc:Nat=>c<=s.cells.length) (λc=>[(1,a' lower),(6,.ao [aT s.ae,a6 s.aj,bx s.cells]),(7,cW F),(9,gH ((n0 s F lower fa c).map kp)),(25,I s.cells.length),(26,I c)])
  (λc=>bW 21 1 ((n0 s F lower fa c).map kp)) (λc=>s.cells.length-c) 0 (Nat.zero_le _) rfl (by simp[n0,rS]) (λc jM ω=>?_)
 refine Η ?_;refine W.eS rfl (λε=>?_) (λε=>?_)
 ·have a3:c<s.cells.length:=by simpa using ε
  obtain⟨J,U,μ,Ε,au⟩:=ai.some c a3;obtain⟨ak,aI⟩:=aK (n0 s F lower fa c);have mr:ak.length=c:=by rw[aI];simp[n0]
  have eW:n0 s F lower fa (c+1)=ak++[u3 s F lower fa c]:=by rw[aI];unfold n0;rw[List.range_succ,List.map_append];rfl
  refine W.to (σ':=bW 21 1 (ak.map kp)) (env':=[(1,a' lower),(6,.ao [aT s.ae,a6 s.aj,bx s.cells]),(7,cW F),(9,gH (ak.map kp)),(25,I s.cells.length),(26,I c)]) ?_ (by rw[aI]) (by rw[aI];simp);refine Η ?_;refine bh λΘ θ=>?_;refine az.d (Xo F c lower ai.n1 (λf Τ=>⟨by rw[(ai.cells f Τ).1];exact a3,(ai.cells f Τ).2⟩) N ck gh J U) (bD ?_);apply θ;have nf:ak.length<=4294967295:=R;obtain⟨l,ξ⟩:=aK (lH F c lower);have tv:u3 s F lower fa c=if 1<l.length then 63 else if l.headD 0<0 then 45 else match s.ae[(l.headD 0).toNat]? with|some g=>fa g.name|none=>0:=by rw[ξ];rfl
  rw[<-ξ] at μ Ε au ⊢;clear ξ aI;refine Η ?_;by_cases q:1<l.length
  ·have ι:u3 s F lower fa c=63:=by rw[tv,if_pos q]
   refine aD (by simp;omega) ?_
   repeat apply Ω
   refine W.iN (A:=[57]) Υ [(1,a' lower),(6,.ao [aT s.ae,a6 s.aj,bx s.cells]),(7,cW F),(9,gH ((ak++[63]).map kp)),(25,I s.cells.length),(26,I c)] (bW 21 1 ((ak++[63]).map kp)) ?_ (by
    rw[List.map_append];by_cases Φ:ak.map kp=[]
    ·rw[Φ,rS,k5];(try simp);(repeat (rw[al];simp[]));(try simp[]);simp[bW,gH]
    ·rw[ts Φ,e6 Φ];(try simp);(repeat (rw[al];simp[]));(try simp[]);simp[tt,yv,nf])
   refine Η ?_;refine W.to (ω (c+1) a3 R) ?_ ?_
   ·simp only[eW,ι,List.map_append,List.map_cons,List.map_nil]
   ·rw[eW,ι];simp[fl a3 (show s.cells.length<2 ^ 62 by omega)]
  ·obtain⟨x,γ⟩:∃x,l=[x]:=by
    match l,μ,q with
    | [x],_,_=>exact⟨x,rfl⟩
    | x::y::z,_,q=>simp at q
   subst γ;refine aA ζ ?_;refine Η ?_;by_cases g:x<0
   ·have ι:u3 s F lower fa c=45:=by rw[tv];simp[g]
    refine aD (by simp[g]) ?_;refine Η ?_;refine W.iN (A:=[57]) Υ [(1,a' lower),(6,.ao [aT s.ae,a6 s.aj,bx s.cells]),(7,cW F),(9,gH ((ak++[45]).map kp)),(25,I s.cells.length),(26,I c)] (bW 21 1 ((ak++[45]).map kp)) ?_ (by
     rw[List.map_append];by_cases Φ:ak.map kp=[]
     ·rw[Φ,rS,k5];(try simp);(repeat (rw[al];simp[]));(try simp[]);simp[bW,gH]
     ·rw[ts Φ,e6 Φ];(try simp);(repeat (rw[al];simp[]));(try simp[]);simp[tt,yv,nf])
    refine Η ?_;refine W.to (ω (c+1) a3 R) ?_ ?_
    ·simp only[eW,ι,List.map_append,List.map_cons,List.map_nil]
    ·rw[eW,ι];simp[fl a3 (show s.cells.length<2 ^ 62 by omega)]
   ·obtain⟨k,rfl⟩:∃k:Nat,x=k:=⟨x.toNat,R⟩;have χ:k<s.ae.length:=by have:=au (k:Int) ζ;omega
    have ι:u3 s F lower fa c=fa s.ae[k].name:=by rw[tv];simp[g,χ]
    have lB:=ai.name _ (List.getElem_mem χ)
    have A1:∀h:0<(Conv.runesFrom s.ae[k].name s.ae[k].name.size 0 #[]).size,(Conv.runesFrom s.ae[k].name s.ae[k].name.size 0 #[])[0]'h=.int .i32 (fa s.ae[k].name):=λh=>by
     rw[ff h] at lB;exact Option.some.inj lB
    have EE:0<(Conv.runesFrom s.ae[k].name s.ae[k].name.size 0 #[]).size:=(Array.getElem?_eq_some_iff.1 lB).1;refine aA ζ ?_;refine dR (υ χ (υ lB EE)) ?_
    repeat apply Ω
    refine W.forget [(1,a' lower),(6,.ao [aT s.ae,a6 s.aj,bx s.cells]),(7,cW F),(9,gH (ak.map kp)),(11,kp (fa s.ae[k].name)),(25,I s.cells.length),(26,I c)] (by simp[A1 EE]) ?_;refine W.iN (A:=[57]) Υ [(1,a' lower),(6,.ao [aT s.ae,a6 s.aj,bx s.cells]),(7,cW F),(9,gH ((ak++[(fa s.ae[k].name)]).map kp)),(25,I s.cells.length),(26,I c)] (bW 21 1 ((ak++[(fa s.ae[k].name)]).map kp)) ?_ (by
     rw[List.map_append];by_cases Φ:ak.map kp=[]
     ·rw[Φ,rS,k5];(try simp);(repeat (rw[al];simp[]));(try simp[]);simp[bW,gH]
     ·rw[ts Φ,e6 Φ];(try simp);(repeat (rw[al];simp[]));(try simp[]);simp[tt,yv,nf])
    refine Η ?_;refine W.to (ω (c+1) a3 R) ?_ ?_
    ·simp only[eW,ι,List.map_append,List.map_cons,List.map_nil]
    ·rw[eW,ι];simp[fl a3 (show s.cells.length<2 ^ 62 by omega)]
 ·have ε:c=s.cells.length:=by simp at ε;omega
  subst ε;refine W.exit rfl ?_;refine Η ?_;obtain⟨ak,aI⟩:=aK (n0 s F lower fa s.cells.length);rw[<-aI];refine W.to (σ':=bW 21 1 (ak.map kp)) (env':=[(9,gH (ak.map kp))]) ?_ rfl ζ;by_cases Φ:ak.map kp=[]
  ·have p5:ak=[]:=by simpa using Φ
   rw[Φ,rS,k5,p5];have hm:s0 []=some []:=rfl;refine hz hm λΘ θ=>?_;apply θ;refine W.rt ?_;exact .refl _
  ·have hm:s0 (List.take ak.length (ak.map kp))=some ak:=by
    rw[List.take_of_length_le ζ];exact Xr ak
   rw[ts Φ,e6 Φ];refine hz hm λΘ θ=>?_;apply θ;refine W.drop (h:=0) (σ':=[]) (Nat.zero_le _) (Nat.zero_le _) ζ rfl [(4,nT (spell ak)),(5,I 0)] ζ ?_;refine W.rt ?_;exact .refl _
theorem NZ {α:Type} [Inhabited α] {lt:α->α->Bool} (ν:Go.Sort.SWO lt) (κ:∀x y,lt x y=false->lt y x=false->x=y) (l:List α):(Go.Sort.insertionSort lt l.toArray 0 l.length).toList=l.mergeSort (λx y=>!lt y x):=by
 obtain⟨J,U⟩:=Go.Sort.insertionSort_holds (lt:=lt) ν l.toArray 0 l.length (Nat.zero_le _) ζ;exact Go.Sort.sorted_unique_holds (lt:=lt) ν κ l.toArray _ (by simpa using J) (by simpa using U)
theorem Xs (x y:Int) (h:Go.Sort.ltInt x y=false) (k:Go.Sort.ltInt y x=false):x=y:=by
 simp[Go.Sort.ltInt] at h k;omega
theorem Xt:EC 12:=λl ξ=>by
 have h:=WV l.toArray l.length ζ ξ;rw[NZ Go.Sort.swo_ltInt Xs l] at h;have e:(λx y:Int=>!Go.Sort.ltInt y x)=λx y=>decide (x<=y):=by
  funext x y;rw[Bool.eq_iff_iff];simp[Go.Sort.ltInt]
 rw[e] at h;exact h
theorem tw (x y:Int×Int):aB nW x y=decide (x.1<y.1\/(x.1=y.1/\x.2<y.2)):=by
 unfold aB nW;simp only[pz,py];by_cases J:x.1<y.1
 ·simp[J]
 ·by_cases U:y.1<x.1
  ·have:¬x.1=y.1:=by omega
   simp[J,U,this]
  ·have μ:x.1=y.1:=by omega
   by_cases Ε:x.2<y.2
   ·simp[μ,Ε]
   ·by_cases au:y.2<x.2
    ·simp[μ,Ε,au]
    ·simp[μ,Ε,au]
theorem yx:Go.Sort.SWO (aB nW) where
 irrefl x:=by rw[tw];simp
 trans x y z h k:=by
  rw[tw] at *;simp at *;omega
 ntrans x y z h k:=by
  rw[tw] at *;simp at *;omega
theorem N0 (x y:Int×Int) (h:aB nW x y=false) (k:aB nW y x=false):x=y:=by
 rw[tw] at *;simp at h k;apply Prod.ext<;>omega
abbrev lI (x y:Int×Int):Bool:=!aB nW y x
theorem Xu {l m:List (Int×Int)} (π:l.Perm m) (hm:m.Pairwise λx y=>x.1<y.1\/(x.1=y.1/\x.2<y.2)):l.mergeSort lI=m:=by
 have Ir:∀a b c:Int×Int,lI a b=true->lI b c=true->lI a c=true:=λa b c h k=>by
  simp only[lI,tw] at *;simp at *;omega
 have Is:∀a b:Int×Int,(lI a b||lI b a)=true:=λa b=>by
  simp only[lI,tw];simp;omega
 have s1:=List.pairwise_mergeSort (le:=lI) Ir Is l
 have dn:(l.mergeSort lI).Perm m:=(List.mergeSort_perm l lI).trans π;refine List.Perm.eq_of_pairwise (le:=λa b=>lI a b=true) (λa b _ _ h k=>?_) s1 (hm.imp λ{a b} h=>?_) dn
 ·simp only[lI,tw] at h k;simp at h k;apply Prod.ext<;>omega
 ·simp only[lI,tw];simp;omega
end Go.TL
