import Derived.Sort.LotA
import Derived.Test.YtlabjopijpkiaaaGreatVAK
import Derived.Test.YtlabjopijpkiaaaGreatVAN
import Derived.Test.YtlabjopijpkiaaaGreatVAP
import Derived.Test.YtlabjopijpkiaaaGreatVAQ
set_option maxHeartbeats 16000000
set_option maxRecDepth 20000
set_option linter.unusedSectionVars false
set_option linter.unusedSimpArgs false
set_option linter.unusedVariables false
namespace Go.TL
open Go.Conc
variable [bn]
structure Base where
 S:aJ
 B:aV
 H:χ
 σ:List Row
 m:Nat
def V (P:Program) (Q:Value->Prop) (mn:Bool) (x:g1) (b:Frame) (cs:List Frame) (nt:Nat) (o:Base) (k:List Item) (env:Ω) (σ:List Row):Prop:=
 ∀(S:aJ) (B:aV) (H:χ) (t:Array Value),e8 o.m o.S o.B o.H o.σ S B H σ->fN o.m nt S B H σ env t->aR P Q mn x (aA b t k) cs H
def Nh (P:Program) (Q:Value->Prop) (mn:Bool) (x:g1) (b:Frame) (cs:List Frame) (o:Base) (a:θ) (env:Ω) (σ:List Row):Prop:=
 ∀(S:aJ) (B:aV) (H:χ) (t:Array Value) (k:List Item) (v:Value),e8 o.m o.S o.B o.H o.σ S B H σ->Holds S B σ H->du S B σ env t->ay S B σ a v->aR P Q mn x {aA b t k with mode:=.panicking [{v,recovered:=false}]} cs H
structure vZ (P:Program) (d:Deferred) (g:FuncId) (vs:Array Value):Prop where
 t1:∀r,d.target≠.collected r
 t2:d.target≠.nil
 run:∀w,(invoke d.target d.args).runT P w #[]=(.ok (.enter g vs) w,#[])
section
variable {P:Program} {T:bb} {A:List Nat} {Q:Value->Prop} {mn:Bool} {x:g1} {b:Frame} {cs:List Frame} {m nt:Nat} {o:Base} {k:List Item} {env:Ω} {σ:List Row} {S aE:aJ} {B B':aV} {H H':χ} {σ':List Row} {t:Array Value} {Z:List Item->Ω->List Row->Prop} {E:θ->Ω->List Row->Prop}
theorem V.fR (γ:Seq x) (hb:b.mode=.run) (h:W P o.m nt k env σ (V P Q mn x b cs nt o) (Nh P Q mn x b cs o)):V P Q mn x b cs nt o k env σ:=
 λS B H t κ ψ=>h Q mn x cs b S B H t γ hb ψ (λj env' σ' aE B' H' t' ag Τ ee h9 ο=>by
  have e:ag=j:=ο;subst e;exact Τ aE B' H' t' (κ.trans ee) h9) (λa env' σ' aE B' H' t' ag v he ee Α ν ι=>he aE B' H' t' ag v (κ.trans ee) Α ν ι)
theorem V.b6 (γ:Seq x) (h:W P o.m nt k env σ (V P Q mn x b cs nt o) (Nh P Q mn x b cs o)) (hb:b.mode=.run:=by rfl):V P Q mn x b cs nt o k env σ:=.fR γ hb h
theorem V.here (h:V P Q mn x b cs nt ⟨S,B,H,σ,m⟩ k env σ) (ψ:fN m nt S B H σ env t):aR P Q mn x (aA b t k) cs H:=h S B H t .refl ψ
theorem W.cr {id:Nat} {ops:Array Oper} (h:W P m nt (.inRegion ops (idx ops.size [])::k) env σ Z E):W P m nt (.code (.region id ops false)::k) env σ Z E:=
 λQ mn x cs b S B H t γ hb ψ Τ he=>.region γ hb (by rw[<-idx_eq];exact h Q mn x cs b S B H t γ hb ψ Τ he)
theorem W.part (Κ:bV P T) (is kp:List Nat) {ops:Array Oper} {l:List Nat} (ο:l=is++kp) (h:∀Ε:Ω->List Row->Prop,(∀env σ,W P m nt (.inRegion ops kp::k) env σ Z E->Ε env σ)->run P T A nt ops is env σ Ε E):W P m nt (.inRegion ops l::k) env σ Z E:=
 ο▸Ho Κ kp is env σ (h _ λ_ _ h=>h)
theorem HQ (ν:du S B σ env t) (args:Array Operand):fO S B σ (args.toList.map (aU env)) (args.map (bp t)):=by
 refine⟨η,λi a v J U=>?_⟩;rw[List.getElem?_map,Array.getElem?_toList] at J;rw[Array.getElem?_map] at U;cases γ:args[i]? with
 | none=>rw[γ] at J;cases J
 | some y=>rw[γ] at J U;cases J;cases U;exact lX ν y
theorem Plain.enter {g:FuncId} (h:Plain P g) (vs:Array Value) (w:World):(callFunc g vs).runT P w #[]=(.ok (.enter g vs) w,#[]):=by
 obtain⟨fn,J,U,μ⟩:=h;unfold callFunc;show Sem.runT P (Sem.bind program λp=>_) w #[]=_;simp only[program,Sem.bind];show Sem.runT P (match P.funcs[g]? with|none=>_|some fn=>_) w #[]=_;rw[J];simp only[U,μ,Bool.false_eq_true,if_false];rfl
theorem fN.put {op:Oper} {a:θ} {v:Value} (ψ:fN m nt S B H σ env t) (hd:ik nt op=true) (κ:ay S B σ a v):fN m nt S B H σ (cj op env a) (put op t v):=
 ⟨ψ.holds,(ra ψ.cA hd ψ.size κ).1,(ra ψ.cA hd ψ.size κ).2,ψ.rows⟩
theorem e8.all (h:e8 m S B H σ aE B' H' σ') (Α:Holds S B σ H) (hm:σ.length<=m):b8 S aE B B' σ σ':=by
 have:=h.later
 rwa [List.take_of_length_le (by rw[Α.len];exact hm),List.take_of_length_le hm] at this
theorem V.defer (γ:Seq x) (hb:b.mode=.run) (cn:b.roundOf=none) {ops:Array Oper} {i:Nat} {rest:List Nat} {op:Oper} (ω:ops[i]?=some op) (hw:fP env ops op=some true) (rb:op.dst=none) {f:Operand} {args:Array Operand} {eh:Array TypeId} (Μ:op.op=.defer ⟨.value f,args,eh⟩)
  {g:FuncId} {first captured:List θ} (Υ:aU env f=.fn (.func g) first captured) (Ξ:Plain P g)
  (h:∀(S:aJ) (B:aV) (H:χ) (t:Array Value) (d:Deferred) (vs:Array Value),e8 o.m o.S o.B o.H o.σ S B H σ->fN o.m nt S B H σ env t->fO S B σ (first++args.toList.map (aU env)++captured) vs->vZ P d g vs->
   aR P Q mn x (aA {b with defers:=d::b.defers} t (.inRegion ops rest::k)) cs H):V P Q mn x b cs nt o (.inRegion ops (i::rest)::k) env σ:=by
 intro S B H t κ ψ;refine .op γ hb ω (ko ψ.cA hw) (.inl cn) ?_;have b1:=lX ψ.cA f;rw[Υ] at b1;have mM:=HQ ψ.cA args;have e:execOp (bp t) op=(do pure (.defer (<-Deferred.ofValue (bp t f) (args.map (bp t))))):=by unfold execOp;rw[Μ];rfl
 rw[e];generalize bp t f=ax at b1;cases b1 with
 | fn v1 v2 J U μ Θ=>
  refine π.bind' (π.pure' (π.pure' ?_));have Ni:put op t undef=t:=by unfold put;rw[rb]
  simp only[LU,Ni];have r1:fO S B σ first v1:=⟨J,μ⟩
  have r2:fO S B σ captured v2:=⟨U,Θ⟩;exact h S B H t ⟨.fn (.func g) v2,v1++args.map (bp t)⟩ (v1++args.map (bp t)++v2) κ ψ ((r1.append mM).append r2) ⟨λ_ h=>(by cases h),λh=>(by cases h),λw=>Ξ.enter _ w⟩
theorem aR.recovered (γ:Seq x) (hb:b.mode=.run) (cn:b.roundOf=none) {ops:Array Oper} {i:Nat} {rest:List Nat} {op:Oper} (ω:ops[i]?=some op) (Ξ:op.guard=none) {eh:Array TypeId} (Μ:op.op=.call ⟨.builtin .recover,#[],eh⟩) {v:Value} {cs':List Frame}
  (ι:(tryRecover (aA b t (.inRegion ops (i::rest)::k)) cs=some (v,cs'))\/(tryRecover (aA b t (.inRegion ops (i::rest)::k)) cs=none/\v=.nilIface/\cs'=cs))
  (h:aR P Q mn x (aA b (put op t v) (.inRegion ops rest::k)) cs' H):aR P Q mn x (aA b t (.inRegion ops (i::rest)::k)) cs H:=by
 refine .op γ hb ω (by unfold Region.wanted;rw[Ξ]) (.inl cn) ?_;have e:execOp (bp t) op=pure .recover:=by unfold execOp;rw[Μ];rfl
 rw[e];refine π.pure' ⟨cn,?_⟩;rcases ι with ι|⟨ι,rfl,rfl⟩
 ·rw[ι];exact h
 ·rw[ι];exact h
end
theorem results_none {fn:Func} (h:fn.results=#[]) (t:Array Value):results fn t=pure (.tuple #[]):=by
 unfold results;rw[h];simp
theorem qc {P:Program} {g:FuncId} {fn:Func} {body:Code} (bM:P.funcs[g]?=some fn) (nB:fn.body=some body) (vs:Array Value) (kd:CallKind):Frame.enter P g vs kd=aA (Frame.enter P g vs kd) (vs++Array.replicate (fn.ntmps-vs.size) undef) [.code body]:=by
 simp[Frame.enter,aA,bM,nB]
theorem fN.enter {S:aJ} {B:aV} {H:χ} {σ:List Row} {ku:List θ} {vs:Array Value} {nt m:Nat} (Α:Holds S B σ H) (hv:fO S B σ ku vs) (hm:m<=σ.length) (Ζ:ku.length<=nt):fN m nt S B H σ (entry 0 ku) (vs++Array.replicate (nt-vs.size) undef):=
 ⟨Α,MM hv _,by have:=hv.1;simp;omega,hm⟩
end Go.TL
namespace Go.TL
open Go.Proofs
variable [bn]
def iO (s:aT) (before:List fi) (p:fi):Int:=
 if p.db<0\/(s.aI.length:Int)<=p.db then 3 else if before.any (λx=>x.db==p.db) then 4 else if valid p.seen=false\/valid p.bare=false then 1 else if o0 p.seen p.bare=0 then 0 else 9
theorem Wo (p x:fi):az Tryz.prog 195 [eQ x,.ao [I p.db,I p.seen,I p.bare]] (a6 (x.db==p.db)):=by
 refine ae.body Ρ Tryz.func195 rfl rfl Tryz.ntmps195 rfl rfl η ?_;(repeat (first|apply ad|(refine bs λΕ ζ=>?_;simp;(repeat (rw[Ο];simp[]));apply ζ)));refine W.ret ⟨_,rfl,?_,rfl⟩;exact .of (by simp[])
theorem Wp (s:aT) (before:List fi) (ο:before.length<2 ^ 62) (p:fi):ae Tryz.prog 153 [fD s,p8 before,eQ p] [] (λa σ=>iO s before p=0/\a=.bj []/\σ=[]) (λa σ=>iO s before p≠0/\a=.fY 38 (I (iO s before p))/\σ=[]):=by
 refine ae.body Ρ Tryz.func153 rfl rfl Tryz.ntmps153 rfl rfl η ?_;(repeat (first|apply ad|(refine bs λΕ ζ=>?_;simp;(repeat (rw[Ο];simp[]));apply ζ)));refine W.xO (A:=[]) Ρ mixed [(6,I p.seen),(7,I p.bare),(1,p8 before),(3,.ao [a7 s.au,bc s.aI,ca s.cells]),(5,.ao [I p.db,I p.seen,I p.bare])] ?_ (by simp[c7,c6];exact iN (by kernel_rfl))
 repeat apply ad
 refine W.rf (A:=[]) Ρ [(12,a6 (decide (p.db<0)||decide ((s.aI.length:Int)<=p.db))),(6,I p.seen),(7,I p.bare),(1,p8 before),(3,.ao [a7 s.au,bc s.aI,ca s.cells]),(5,.ao [I p.db,I p.seen,I p.bare])] ?_ (by by_cases q:p.db<0<;>simp[Ο,p5,q]);by_cases bw:p.db<0\/(s.aI.length:Int)<=p.db
 case pos=>
  have e:iO s before p=3:=by unfold iO;rw[if_pos bw]
  rw[e];refine ai (by simpa using bw) ?_;(repeat apply ad);refine bs λΕ ζ=>?_;simp;(repeat (rw[Ο];simp[]))
 refine aa (by simpa using bw) ?_;(repeat apply ad);refine bs λΕ ζ=>?_;simp;(repeat (rw[Ο];simp[]));refine az.c (Wj before (.fn (.func 195) [] [.ao [I p.db,I p.seen,I p.bare]]) (λx=>x.db==p.db) ο (by simp[l6]) (λx _=>λ_=>(Wo p x).cc (by simp;exact bF.refl _) η η ⟨rfl,rfl⟩)) (bF.refl _) (by simp[l6]) η ?_;simp;(repeat (rw[Ο];simp[]));apply ζ;cases dm:before.any (λx=>x.db==p.db)
 case true=>
  have e:iO s before p=4:=by unfold iO;rw[if_neg bw,if_pos dm]
  rw[e];refine ai η ?_;(repeat apply ad);refine bs λΕ ζ=>?_;simp;(repeat (rw[Ο];simp[]))
 refine aa η ?_
 repeat apply ad
 have Nj:(valid p.seen=false\/valid p.bare=false)->iO s before p=1:=λh=>by unfold iO;rw[if_neg bw,dm];simp[h]
 cases fJ:valid p.seen
 case false=>
  rw[Nj (.inl fJ)];(repeat apply ad);refine bs λΕ ζ=>?_;simp;(repeat (rw[Ο];simp[]));refine az.c (xR p.seen) (bF.refl _) η η ?_;simp[fJ];(repeat (rw[Ο];simp[fJ]));apply ζ;refine ai rfl ?_;(repeat apply ad);refine bs λΕ ζ=>?_;simp;(repeat (rw[Ο];simp[]))
 cases mB:valid p.bare
 case false=>
  rw[Nj (.inr mB)];(repeat apply ad);refine bs λΕ ζ=>?_;simp;(repeat (rw[Ο];simp[]));refine az.c (xR p.seen) (bF.refl _) η η ?_;simp[fJ];(repeat (rw[Ο];simp[fJ]));refine az.c (xR p.bare) (bF.refl _) η η ?_;simp[mB];(repeat (rw[Ο];simp[mB]));apply ζ;refine ai rfl ?_;(repeat apply ad);refine bs λΕ ζ=>?_;simp;(repeat (rw[Ο];simp[]))
 (repeat apply ad);refine bs λΕ ζ=>?_;simp;(repeat (rw[Ο];simp[]));refine az.c (xR p.seen) (bF.refl _) η η ?_;simp[fJ];(repeat (rw[Ο];simp[fJ]));refine az.c (xR p.bare) (bF.refl _) η η ?_;simp[mB];(repeat (rw[Ο];simp[mB]));apply ζ;refine aa rfl ?_;(repeat apply ad);refine bs λΕ ζ=>?_;simp;(repeat (rw[Ο];simp[]));refine az.c (Na p.seen p.bare) (bF.refl _) η η ?_;simp[];(repeat (rw[Ο];simp[]));apply ζ;by_cases uf:o0 p.seen p.bare=0
 ·have e:iO s before p=0:=by unfold iO;rw[if_neg bw,dm];simp[fJ,mB,uf]
  refine aa (by simp[uf]) ?_;(repeat (first|apply ad|(refine bs λΕ ζ=>?_;simp;(repeat (rw[Ο];simp[]));apply ζ)));exact W.nil ⟨_,rfl,e,rfl,rfl⟩
 ·have e:iO s before p=9:=by unfold iO;rw[if_neg bw,dm];simp[fJ,mB,uf]
  rw[e];refine ai (by simp[uf]) ?_;(repeat apply ad);refine bs λΕ ζ=>?_;simp;(repeat (rw[Ο];simp[]))
end Go.TL
namespace Go.TL
open Go.Proofs Go.Conc
variable [bn]
theorem fO.later {S aE:aJ} {B B':aV} {σ σ':List Row} {l:List θ} {vs:Array Value} (h:fO S B σ l vs) (ο:b8 S aE B B' σ σ'):fO aE B' σ' l vs:=⟨h.1,λi a v J U=>(h.2 i a v J U).later ο⟩
theorem vK.fin {P:Program} {Q:Value->Prop} {mn:Bool} {x:g1} {c:Frame} {rest:List Frame} {S aE:aJ} {H H':χ} {B':aV} {σ':List Row} {v:Value} {r:θ} (hb:vK P Q mn x c rest S [] H [] (λa s=>dP a r/\s=[]) (λ_ _=>False))
  (he:Ext S [] H aE B' H') (Α:Holds aE B' σ' H') (ι:∀S B σ,ay S B σ r v):aR P Q mn x (c.finish v) rest H':=by
 obtain⟨J,U⟩:=Α.close (h:=0) (λid r b9=>R);simp only[List.take_zero] at J U;exact hb.ret r [] _ [] H' v ⟨.refl _,rfl⟩ (he.trans U) ⟨λb o v hv=>U.dt _ _ _ (he.dt _ _ _ hv),λid r h=>by simp at h⟩ J (ι _ _ _)
abbrev sL (e:Int):List Row:=[.cells 38 1 [I e]]
section
variable {Q:Value->Prop} {mn:Bool} {x:g1} {c f:Frame} {rest:List Frame} {S bN:aJ} {bT:aV} {H H1:χ} {cl e:Int} {o7:Array Value} {t:Array Value} {env:Ω} {err:Int}
theorem Nk (γ:Seq x) (hb:vK Tryz.prog Q mn x c rest S [] H [] (λa s=>dP a (I err)/\s=[]) (λ_ _=>False)) {d:Deferred} (hd:vZ Tryz.prog d 152 o7)
  (bM:f.fn=122) (eR:f.defers=[d]) (ς:f.kind=.normal) (cn:f.roundOf=none) (hm:(f.mode=.returning/\cl=err)\/∃v,f.mode=.panicking [{v,recovered:=false}]/\ay bN bT (sL cl) (.fY 38 (I err)) v)
  (sM:Ext S [] H bN bT H1) (Α:Holds bN bT (sL cl) H1) (hv:fO bN bT (sL cl) [.ar 0 1 0 0] o7) (ν:du bN bT (sL cl) env f.tmps) (ba:a9 env 6=.ar 0 1 0 0):aR Tryz.prog Q mn x f (c::rest) H1:=by
 have Wq:f.mode≠.run:=by rcases hm with⟨h,_⟩|⟨v,h,_⟩<;>rw[h]<;>simp
 refine aR.deferred γ Wq eR hd.t1 hd.t2 hd.run ?_;rw[qc Tryz.func152 rfl];have fin:∀(f':Frame) (j2:aJ) (o8:aV) (j3:χ),f'.mode=.returning->f'.defers=[]->f'.kind=.normal->f'.fn=f.fn->f'.tmps=f.tmps->Ext bN bT H1 j2 o8 j3->b8 bN j2 bT o8 (sL cl) (sL err)->Holds j2 o8 (sL err) j3->aR Tryz.prog Q mn x f' (c::rest) j3:=λf' j2 o8 j3 dS dx l9 qd sN dw ab k4=>by
  refine aR.back γ dS dx (.inl l9) (fn:=Tryz.f122) (by rw[qd,bM];exact Tryz.func122) ?_;rw[sN];refine π.mono (λv hZ ⟨iP,j4,fa,u2,av,yV⟩=>?_) (λ_ _ h=>h) _ (Du Ρ (a:=I err) (show p6 bk [.cell 6 38] env (sL err)=some (I err) by simp[p6,sB,xJ,ba,vM,iH.agg]) k4 (ν.later ab));cases yV;exact hb.fin (sM.trans (dw.trans fa)) av λ_ _ _=>.z _
 refine V.here (m:=1) (nt:=10) (env:=entry 0 [.ar 0 1 0 0]) ?_ (fN.enter Α hv η η);refine V.fR γ rfl ?_
 repeat apply ad
 refine W.cr ?_;refine W.stop ?_;intro kQ kR jC t3 hK e9;rcases hm with⟨hm,rfl⟩|⟨v,hm,xT⟩
 ·refine aR.recovered γ rfl rfl rfl rfl rfl (v:=.nilIface) (.inr ⟨?_,rfl,rfl⟩) ?_
  ·simp[tryRecover,aA,Frame.enter,hm]
  ·refine V.here (m:=1) ?_ (e9.put rfl (.z .nilIface));refine V.fR γ rfl ?_;refine W.part (A:=[]) Ρ [1,2,3,4,5,6] [] rfl λΕ ζ=>?_;simp[vu];(repeat (rw[Ο];simp[vu]));apply ζ;refine W.bJ ?_;refine Η ?_;refine aa rfl ?_;refine Η ?_;refine W.stop ?_;intro j2 o8 j3 t4 sO qe;refine .sf γ rfl rfl ?_;refine aR.Gx γ rfl rfl rfl Tryz.func152 ?_;rw[results_none rfl];refine π.pure' ?_;simp only[hm];exact fin _ j2 o8 j3 rfl rfl ς rfl rfl (hK.ext.trans sO.ext) ((hK.trans sO).all Α η) qe.holds
 ·have sP:ay kQ kR (sL cl) (.fY 38 (I err)) v:=xT.later (hK.all Α η);refine aR.recovered γ rfl rfl rfl rfl rfl (v:=v) (cs':={f with defers:=[],mode:=.panicking [{v,recovered:=true}]}::c::rest) (.inl ?_) ?_
  ·simp[tryRecover,aA,Frame.enter,hm]
  ·refine V.here (m:=1) ?_ (e9.put rfl sP);refine V.fR γ rfl ?_;refine W.part (A:=[]) Ρ [1,2,3,4,5,6] [] rfl λΕ ζ=>?_;simp[vu];(repeat (rw[Ο];simp[vu]));apply ζ;refine W.bJ ?_;refine Η ?_;refine ai rfl ?_;refine Η ?_;refine W.stop ?_;intro j2 o8 j3 t4 sO qe;refine .sf γ rfl rfl ?_;refine aR.Gx γ rfl rfl rfl Tryz.func152 ?_;rw[results_none rfl];refine π.pure' ?_;exact fin _ j2 o8 j3 rfl rfl ς rfl rfl (hK.ext.trans sO.ext) ((hK.trans sO).all Α η) qe.holds
end
theorem Wr (s:aT) (before:List fi) (ο:before.length<2 ^ 62) (p:fi):az Tryz.prog 122 [fD s,p8 before,eQ p] (I (iO s before p)):=by
 refine⟨⟨_,Tryz.func122,rfl,rfl⟩,λQ mn x c rest S B H vs γ Α hv hb=>?_⟩;have dU:B=[]:=dG.1 (by have:=Α.len;simpa using this);subst dU;rw[qc Tryz.func122 rfl];refine V.here (m:=0) (nt:=12) (env:=entry 0 [fD s,p8 before,eQ p]) ?_ (fN.enter Α hv η η);refine V.fR γ rfl ?_
 repeat apply ad
 refine dM (A:=[6]) Ρ λΕ ζ=>bD ?_;apply ζ
 repeat apply ad
 refine W.cr ?_;refine W.part (A:=[]) Ρ [0] [1] rfl λΕ ζ=>?_;(try simp);(repeat (rw[Ο];simp[]));apply ζ;refine W.stop ?_;refine V.defer γ rfl rfl rfl rfl rfl rfl rfl ⟨_,Tryz.func152,rfl,rfl⟩ λbN bT H1 t1 d o7 qf mT vN hd=>?_;refine V.here (m:=1) ?_ ⟨mT.holds,mT.cA,mT.size,η⟩;refine V.fR γ rfl ?_;refine W.bJ ?_;refine bl λΕ ζ=>?_;refine hG.mono (ae.call (first:=[]) (captured:=[]) ((Wp s before ο p).mono (K':=λa bm=>iO s before p=0/\aG 0 a/\bm=[]) (E':=λa bm=>(iO s before p≠0/\a=.fY 38 (I (iO s before p)))/\aG 0 a/\bm=[]) (λa bm ⟨J,U,μ⟩=>⟨J,by subst U;simp,μ⟩) (λa bm ⟨J,U,μ⟩=>⟨⟨J,U⟩,by subst U;simp,μ⟩) |>.frame η)) (λa bm ⟨aj,ν⟩=>?_) (λa bm ⟨⟨aj,κ⟩,ν⟩=>?_)
 ·subst ν;(try simp);(repeat (rw[Ο];simp[]));apply ζ;refine Η ?_;refine W.stop ?_;intro c9 ff bR t2 rp mU;refine aR.ret (b:={Frame.enter Tryz.prog 122 vs .normal with defers:=[d]}) γ rfl rfl ?_;exact Nk γ hb hd rfl rfl rfl rfl (.inl ⟨rfl,aj.symm⟩) (qf.ext.trans rp.ext) mU.holds (vN.later (rp.all mT.holds η)) mU.cA rfl
 ·subst ν;subst κ;intro c9 ff bR t2 cN v rp jx ea rq;have qg:=rp.all mT.holds η;refine Nk γ hb hd rfl rfl rfl rfl (.inr ⟨v,rfl,rq⟩) (qf.ext.trans rp.ext) jx (vN.later qg) ea ?_;rfl
end Go.TL
namespace Go.TL
open Go.Proofs
variable [bn]
theorem Ws:IntKind.i64.wrap 3=3:=bu
def v3 (l:List Int) (i:Nat):Int:=match l[i]? with
 | none=>0
 | some n=>if nH n=false then 3 else if 0<i/\n<=(l[i-1]?).getD 0 then 5 else 0
def xU (l:List Int):Int:=ji ((List.range l.length).map (v3 l))
def om (ls:List (List Int)):Int:=if ls.length=0 then 7 else if 4<ls.length then 6 else ji ((List.range ls.length).map λi=>xU ((ls[i]?).getD []))
theorem Wt (s:aT) (ν:s.small):az Tryz.prog 104 [fD s] (I (om s.aI)):=by
 refine ae.body Ρ Tryz.func104 rfl rfl Tryz.ntmps104 rfl rfl η ?_;have ο:=ν.2.1;by_cases hV:s.aI.length=0
 ·refine aB hV ?_;refine ai η ?_;refine Η ?_;refine W.rt ?_;exact .of (by rw[show om s.aI=7 by simp[om,hV]];rfl)
 by_cases o6:(4:Int)<s.aI.length
 ·refine aB (υ hV o6) ?_;refine aa (by simp[hV]) ?_;refine aB (υ hV o6) ?_;refine ai η ?_;refine Η ?_;refine W.rt ?_;exact .of (by rw[show om s.aI=6 by simp[om,hV];omega];rfl)
 have Af:om s.aI=ji ((List.range s.aI.length).map λi=>xU ((s.aI[i]?).getD [])):=by
  unfold om;rw[if_neg hV,if_neg R]
 rw[Af];refine aB (υ hV o6) ?_;refine aa (by simp[hV]) ?_;refine aB (υ hV o6) ?_;refine aa η ?_;refine Η ?_;refine W.iter (λi:Nat=>i<=s.aI.length/\∀j,j<i->xU ((s.aI[j]?).getD [])=0) (λi=>[(1,.ao [a7 s.au,bc s.aI,ca s.cells]),(18,bc s.aI),(19,I s.aI.length),(20,I i)]) (λ_=>[]) (λi=>s.aI.length-i) 0 ⟨R,λj ε=>R⟩ rfl η (λi hi Β=>?_);refine Η ?_;refine W.eU rfl (λδ=>?_) (λδ=>?_)
 ·have δ:i<s.aI.length:=by simpa using δ
  have qb:(s.aI[i]?).getD []=s.aI[i]:=by simp[δ]
  have ψ:s.aI[i].length<2 ^ 30:=ν.2.2.2.1 _ (List.getElem_mem δ);refine aB δ ?_;refine W.iter (λn:Nat=>n<=s.aI[i].length/\∀j,j<n->v3 s.aI[i] j=0) (λn=>[(1,.ao [a7 s.au,bc s.aI,ca s.cells]),(18,bc s.aI),(19,I s.aI.length),(20,I i),(4,bO I 1 s.aI[i]),(24,bO I 1 s.aI[i]),(25,I s.aI[i].length),(26,I n)]) (λ_=>[]) (λn=>s.aI[i].length-n) 0 ⟨R,λj ε=>R⟩ rfl η (λn Ζ HR=>?_);refine Η ?_;refine W.eU rfl (λaX=>?_) (λaX=>?_)
  ·have hd:n<s.aI[i].length:=by simpa using aX
   have xV:s.aI[i][n]?=some s.aI[i][n]:=bg hd
   have fin:∀e:Int,v3 s.aI[i] n=e->e≠0->ji ((List.range s.aI.length).map λi=>xU ((s.aI[i]?).getD []))=e:=λe he aj=>
    Ad (i:=i) δ (by rw[qb];exact Ad hd he aj Ζ.2) aj hi.2
   repeat apply ad
   refine nG hd ?_;refine bl λΕ ζ=>?_;refine az.d (o2 s.aI[i][n]) (bD ?_);apply ζ;cases bw:nH s.aI[i][n]
   ·refine ai η ?_;refine Η ?_;refine W.rt ?_;exact .of (by rw[fin 3 (by simp[v3,xV,bw]) bu];rfl)
   refine aa η ?_
   repeat apply ad
   refine W.rf (A:=[]) Ρ [(35,a6 (decide (0<n/\s.aI[i][n]<=(s.aI[i][n-1]?).getD 0))),(1,.ao [a7 s.au,bc s.aI,ca s.cells]),(18,bc s.aI),(19,I s.aI.length),(20,I i),(4,bO I 1 s.aI[i]),(24,bO I 1 s.aI[i]),(25,I s.aI[i].length),(26,I n)] ?_ (by
    cases n with
    | zero=>simp[Ο,p5]
    | succ n=>
     have kv:n<s.aI[i].length:=R
     have Δ:=gr (show n<2 ^ 62 by omega)
     have aj:(0:Int)<(n:Int)+1:=R;simp[Ο,p5,aj,kv,Δ])
   by_cases dm:0<n/\s.aI[i][n]<=(s.aI[i][n-1]?).getD 0
   ·refine ai (by simp only[dm];rfl) ?_;refine Η ?_;refine W.rt ?_;exact .of (by rw[fin 5 (by simp only[v3,xV,bw];rw[if_neg η,if_pos dm]) bu];rfl)
   ·refine aa (by simp only[dm];rfl) ?_;refine Η ?_;refine W.forget _ ?_ (HR (n+1) ⟨hd,λj ε=>?_⟩ R)
    ·simp[fC hd (show s.aI[i].length<2 ^ 62 by omega)]
    ·by_cases e:j=n
     ·subst e;simp only[v3,xV,bw];rw[if_neg η,if_neg dm]
     ·exact Ζ.2 j R
  ·have hd:s.aI[i].length<=n:=by simpa using aX
   refine W.exit rfl ?_;refine Η ?_;refine W.forget _ ?_ (Β (i+1) ⟨δ,λj ε=>?_⟩ R)
   ·simp[fC δ (show s.aI.length<2 ^ 62 by omega)]
   ·by_cases e:j=i
    ·subst e;rw[qb];exact Ae λj ε=>Ζ.2 j R
    ·exact hi.2 j R
 ·have δ:s.aI.length<=i:=by simpa using δ
  refine W.exit rfl ?_;refine Η ?_;refine W.rt ?_;exact .of (by rw[Ae (f:=λi=>xU ((s.aI[i]?).getD [])) λj ε=>hi.2 j R];rfl)
def qh (s:aT) (c:List fi):Int:=if 4<c.length then 6 else ji ((List.range c.length).map λi=>match c[i]? with|none=>0|some p=>iO s (c.take i) p)
def sQ (s:aT):Int:=if 4<s.cells.length then 6 else ji ((List.range s.cells.length).map λi=>qh s ((s.cells[i]?).getD []))
theorem Wu (s:aT) (ν:s.small):az Tryz.prog 105 [fD s] (I (sQ s)):=by
 refine ae.body Ρ Tryz.func105 rfl rfl Tryz.ntmps105 rfl rfl η ?_;have ο:=ν.2.2.1;by_cases o6:(4:Int)<s.cells.length
 ·refine aB o6 ?_;refine ai η ?_;refine Η ?_;refine W.rt ?_;exact .of (by rw[show sQ s=6 by simp[sQ];omega];rfl)
 have Af:sQ s=ji ((List.range s.cells.length).map λi=>qh s ((s.cells[i]?).getD [])):=by
  unfold sQ;rw[if_neg R]
 rw[Af];refine aB o6 ?_;refine aa η ?_;refine Η ?_;refine W.iter (λi:Nat=>i<=s.cells.length/\∀j,j<i->qh s ((s.cells[j]?).getD [])=0) (λi=>[(1,.ao [a7 s.au,bc s.aI,ca s.cells]),(13,ca s.cells),(14,I s.cells.length),(15,I i)]) (λ_=>[]) (λi=>s.cells.length-i) 0 ⟨R,λj ε=>R⟩ rfl η (λi hi Β=>?_);refine Η ?_;refine W.eU rfl (λδ=>?_) (λδ=>?_)
 ·have δ:i<s.cells.length:=by simpa using δ
  have qb:(s.cells[i]?).getD []=s.cells[i]:=by simp[δ]
  have ψ:s.cells[i].length<2 ^ 30:=ν.2.2.2.2 _ (List.getElem_mem δ)
  have Nl:∀e:Int,qh s s.cells[i]=e->e≠0->ji ((List.range s.cells.length).map λi=>qh s ((s.cells[i]?).getD []))=e:=λe he aj=>
   Ad (i:=i) δ (by rw[qb];exact he) aj hi.2
  by_cases Nm:(4:Int)<s.cells[i].length
  ·refine aB (υ δ Nm) ?_;refine ai η ?_;refine Η ?_;refine W.rt ?_;exact .of (by rw[Nl 6 (by unfold qh;rw[if_pos R]) bu];rfl)
  refine aB (υ δ Nm) ?_;refine aa η ?_;refine Η ?_;have Nn:qh s s.cells[i]=ji ((List.range s.cells[i].length).map λn=>match s.cells[i][n]? with|none=>0|some p=>iO s (s.cells[i].take n) p):=by unfold qh;rw[if_neg R]
  refine W.iter (λn:Nat=>n<=s.cells[i].length/\∀j,j<n->(match s.cells[i][j]? with|none=>0|some p=>iO s (s.cells[i].take j) p)=0) (λn=>[(1,.ao [a7 s.au,bc s.aI,ca s.cells]),(13,ca s.cells),(14,I s.cells.length),(15,I i),(4,p8 s.cells[i]),(22,p8 s.cells[i]),(23,I s.cells[i].length),(24,I n)]) (λ_=>[]) (λn=>s.cells[i].length-n) 0 ⟨R,λj ε=>R⟩ rfl η (λn Ζ HR=>?_);refine Η ?_;refine W.eU rfl (λaX=>?_) (λaX=>?_)
  ·have hd:n<s.cells[i].length:=by simpa using aX
   have xV:s.cells[i][n]?=some s.cells[i][n]:=bg hd
   repeat apply ad
   refine dM (A:=[6]) Ρ λΕ ζ=>gW hd ?_;apply ζ;refine W.fix (id:=0) (σ':=[]) (Nat.zero_le _) rfl η η rfl [(5,I n),(6,.ao [I s.cells[i][n].db,I s.cells[i][n].seen,I s.cells[i][n].bare]),(1,.ao [a7 s.au,bc s.aI,ca s.cells]),(13,ca s.cells),(14,I s.cells.length),(15,I i),(4,p8 s.cells[i]),(22,p8 s.cells[i]),(23,I s.cells[i].length),(24,I n)] η ?_
   repeat apply ad
   refine W.draw (A:=[]) Ρ mixed λΕ ζ=>?_;simp;(repeat (rw[c7];simp[hd,Nat.le_of_lt hd]));try rw[c6]
   (try simp only[<-List.map_take]);refine eA (az.q (Wr s (s.cells[i].take n) (by simp;omega) s.cells[i][n])) (p7 ?_);refine er (ζ _ _ ?_)
   repeat apply ad
   refine Η ?_;by_cases b:iO s (s.cells[i].take n) s.cells[i][n]=0
   ·refine aa (by simp[b]) ?_;refine Η ?_;refine W.forget _ ?_ (HR (n+1) ⟨hd,λj ε=>?_⟩ R)
    ·simp[fC hd (show s.cells[i].length<2 ^ 62 by omega)]
    ·by_cases e:j=n
     ·subst e;rw[xV];exact b
     ·exact Ζ.2 j R
   ·refine ai (by simp[b]) ?_;refine Η ?_;refine W.rt ?_;exact .of (by rw[Nl (iO s (s.cells[i].take n) s.cells[i][n]) (by rw[Nn];exact Ad hd (by rw[xV]) b Ζ.2) b];rfl)
  ·have hd:s.cells[i].length<=n:=by simpa using aX
   refine W.exit rfl ?_;refine Η ?_;refine W.forget _ ?_ (Β (i+1) ⟨δ,λj ε=>?_⟩ R)
   ·simp[fC δ (show s.cells.length<2 ^ 62 by omega)]
   ·by_cases e:j=i
    ·subst e;rw[qb,Nn];exact Ae λj ε=>Ζ.2 j R
    ·exact hi.2 j R
 ·have δ:s.cells.length<=i:=by simpa using δ
  refine W.exit rfl ?_;refine Η ?_;refine W.rt ?_;exact .of (by rw[Ae (f:=λi=>qh s ((s.cells[i]?).getD [])) λj ε=>hi.2 j R];rfl)
def aT.err (s:aT):Int:=if oj s.au≠0 then oj s.au else if om s.aI≠0 then om s.aI else sQ s
theorem D6 (s:aT) (ν:s.small):az Tryz.prog 48 [fD s] (I s.err):=by
 refine ae.body Ρ Tryz.func48 rfl rfl Tryz.ntmps48 rfl rfl η ?_;refine Η ?_;refine .loop ?_;refine Η ?_;refine ai rfl ?_;refine Η ?_;refine bl λΕ ζ=>?_;refine az.d (Wn s ν) (bD ?_);apply ζ;refine Η ?_;by_cases bw:oj s.au=0
 case neg=>
  refine ai (by simp[bw]) ?_;refine Η ?_;refine W.rt ?_;exact .of (by rw[show s.err=oj s.au by unfold aT.err;rw[if_pos bw]];rfl)
 refine aa (by simp[bw]) ?_;refine aB @HI ?_;refine .inLoop ?_;refine Η ?_;refine ai rfl ?_;refine Η ?_;refine bl λΕ ζ=>?_;refine az.d (Wt s ν) (bD ?_);apply ζ;refine Η ?_;by_cases dm:om s.aI=0
 case neg=>
  refine ai (by simp[dm]) ?_;refine Η ?_;refine W.rt ?_;exact .of (by rw[show s.err=om s.aI by unfold aT.err;rw[if_neg (by simp[bw]),if_pos dm]];rfl)
 refine aa (by simp[dm]) ?_;refine aB @HJ ?_;refine .inLoop ?_;refine Η ?_;refine ai rfl ?_;refine Η ?_;refine bl λΕ ζ=>?_;refine az.d (Wu s ν) (bD ?_);apply ζ;refine Η ?_;have e:s.err=sQ s:=by unfold aT.err;rw[if_neg (by simp[bw]),if_neg (by simp[dm])]
 rw[e];by_cases fJ:sQ s=0
 case neg=>
  refine ai (by simp[fJ]) ?_;refine Η ?_;refine W.rt ?_;exact .of rfl
 refine aa (by simp[fJ]) ?_;refine aB @Ws ?_;refine .inLoop ?_;refine Η ?_;refine aa rfl ?_;refine W.exit rfl ?_;refine Η ?_;refine W.rt ?_;exact .of (by rw[fJ];rfl)
section
variable {P:Program} {T:bb} {A:List Nat} {m nt:Nat} {k:List Item} {env:Ω} {σ:List Row} {Z:List Item->Ω->List Row->Prop} {E:θ->Ω->List Row->Prop}
theorem W.iu (Κ:bV P T) (env':Ω) (σ':List Row) {id:Nat} {ops:Array Oper} (h:W P m nt k env' σ' Z E) (ι:run P T A nt ops (idx ops.size []) env σ (λe s=>s=σ'/\∀p∈env',a9 e p.1=p.2) E):W P m nt (.code (.region id ops false)::k) env σ Z E:=
 dM Κ λΕ ζ=>Ds (λe s ⟨J,U⟩=>ζ e s (J▸W.forget env' U h)) _ _ _ ι
end
def gD (l:List θ):θ:=if l.isEmpty then .sl true 0 [] else .ms 0 l.length 0 l.length
def bG (t:TypeId) (k:Nat) (l:List θ):List Row:=if l.isEmpty then [] else [.cells t k l]
def gM (k:Nat) (l:List θ):θ:=if l.isEmpty then .sl true 0 [] else .sl false k l
theorem rr:gD []=.sl true 0 []:=rfl
theorem kx {t k:Nat}:bG t k []=[]:=rfl
theorem sR {l:List θ} (h:l≠[]):gD l=.ms 0 l.length 0 l.length:=by unfold gD;rw[if_neg (by simpa using h)]
theorem eJ {t k:Nat} {l:List θ} (h:l≠[]):bG t k l=[.cells t k l]:=by unfold bG;rw[if_neg (by simpa using h)]
theorem xW {l:List θ} {x:θ}:gD (l++[x])=.ms 0 (l.length+1) 0 (l.length+1):=by rw[sR η];simp
theorem sS {t k:Nat} {l:List θ} {x:θ}:bG t k (l++[x])=[.cells t k (l++[x])]:=eJ η
theorem eT.acc {t k:Nat} {l:List θ} (hb:∀e∈l,∀a∈e.cells,aG 0 a):eT 0 (bG t k l) (gD l) (gM k l):=by
 unfold bG gD gM;cases h:l.isEmpty with
 | true=>exact .low η
 | false=>exact .own (Nat.zero_le _) rfl rfl hb
theorem dP.acc {k:Nat} {l:List θ}:dP (gM k l) (.sl false k l):=by
 unfold gM;cases h:l.isEmpty with
 | true=>rw[List.isEmpty_iff.1 h];exact .nil
 | false=>exact .refl _
@[simp] theorem iψ {α:Type} {l:List α} {a b:α}:(l++[a]).set l.length b=l++[b]:=by rw[List.set_append_right _ _ (Nat.le_refl _),Nat.sub_self];rfl
@[simp] theorem iω {t k:Nat} {l:List θ}:aG (bG t k l).length (gD l):=by
 unfold gD bG;cases l.isEmpty<;>simp[rh]
theorem aG.mono {h dg:Nat} {a:θ} (hb:aG h a) (a0:h<=dg):aG dg a:=by
 induction hb with
 | z v=>exact .z v
 | cH=>exact .cH
 | ao _ Β=>exact .ao Β
 | sl _ Β=>exact .sl Β
 | a5 _ Β=>exact .a5 Β
 | bj _ Β=>exact .bj Β
 | fn _ _ sh mF=>exact .fn sh mF
 | fY _ Β=>exact .fY Β
 | ar h=>exact .ar R
 | ms h=>exact .ms R
 | mp h=>exact .mp R
 | it h=>exact .it R
theorem D7 {t k h:Nat} {l:List θ} (hb:∀e∈l,∀a∈e.cells,aG 0 a):∀r∈bG t k l,fg h r:=by
 intro r ι;unfold bG at ι;cases ο:l.isEmpty with
 | true=>rw[ο] at ι;simp at ι
 | false=>
  rw[ο] at ι;simp at ι;subst ι;exact λe he a κ=>(hb e he a κ).mono (Nat.zero_le _)
section
variable {P:Program} {m nt:Nat} {k:List Item} {env:Ω} {Z:List Item->Ω->List Row->Prop} {E:θ->Ω->List Row->Prop}
theorem W.o9 {σ0:List Row} {t:TypeId} {e:θ} {kk:Nat} (hm:m<=σ0.length) (oc:∀r∈σ0,fg σ0.length r) (he:∀a∈e.cells,aG σ0.length a) (env':Ω)
  (cT:∀p∈env',(a9 env p.1=p.2/\aG σ0.length p.2)\/(a9 env p.1=.ar σ0.length 1 0 0/\p.2=.ao e.cells)) (hW:W P m nt k env' σ0 Z E):W P m nt k env (σ0++[.cells t kk [e]]) Z E:=
 W.fix (t:=t) (kk:=kk) (e:=e) hm η he (λid r b9 ι=>oc r (by
  rw[ev b9] at ι;exact cE ι)) η env' cT hW
theorem W.Wv {t kk:Nat} {l:List θ} {d:Nat} (hb:∀e∈l,∀a∈e.cells,aG 0 a) (env':Ω) (hd:a9 env d=gD l) (cT:∀p∈env',a9 env p.1=p.2/\aG 0 p.2) (hW:W P 0 nt k ((d,gM kk l)::env') [] Z E):W P 0 nt k env (bG t kk l) Z E:=
 W.cut 0 (Nat.zero_le _) ((d,gM kk l)::env') (Nat.zero_le _) (λid r b9=>R) (λp ψ=>by
  rcases List.mem_cons.1 ψ with rfl|ψ
  ·show eT 0 _ (a9 env d) _;rw[hd];exact .acc hb
  ·rw[(cT p ψ).1];exact .low (cT p ψ).2) (by simpa using hW)
end
abbrev gf (l:List Int):θ:=.sl true 1 (l.map I)
theorem dP.Ww {L:List (List Int)}:dP (gM 1 (L.map gf)) (bc L):=.trans .acc (.map λx _=>.one .ex rfl rfl)
theorem Np {L:List (List Int)}:∀e∈L.map gf,∀a∈e.cells,aG 0 a:=by
 intro e he a κ;obtain⟨x,_,rfl⟩:=List.mem_map.1 he;simp[θ.cells] at κ;subst κ;simp
theorem Wx (n:Int):az Tryz.prog 51 [I n] (.bj [I (if valid n then DY n else 0),I (if valid n then 0 else 1)]):=by
 refine ae.body Ρ Tryz.func51 rfl rfl Tryz.ntmps51 rfl rfl η ?_;refine Η ?_;refine bl λΕ ζ=>?_;refine az.d (xR n) (bD ?_);apply ζ;cases b:valid n
 ·refine ai rfl ?_;refine Η ?_;refine W.rt ?_;exact .of rfl
 ·refine aa rfl ?_;refine bl λΕ ζ=>?_;refine az.d (VZ n) (bD ?_);apply ζ;refine Η ?_;refine W.rt ?_;exact .of rfl
def mV:Int->List Int->List Int
 | _,[]=>[]
 | a,b::l=>if b=a then mV a l else b::mV b l
def hL:List Int->List Int
 | []=>[]
 | a::l=>a::mV a l
theorem Nq (l:List Int) {p:Nat} (ψ:0<p) (h:p<l.length) (dg:p-1<l.length):hL (l.take (p+1))=hL (l.take p)++if l[p]=l[p-1] then [] else [l[p]]:=by
 have gen:∀(l:List Int) (a:Int) (p:Nat) (h:p<l.length),mV a (l.take (p+1))=mV a (l.take p)++if l[p]=(a::l)[p]'(by simp;omega) then [] else [l[p]]:=by
  intro l
  induction l with
  | nil=>intro a p h;cases h
  | cons b l Β=>
   intro a p h;cases p with
   | zero=>by_cases e:b=a<;>simp[mV,e]
   | succ p=>
    have U:p<l.length:=by simpa using h
    by_cases e:b=a
    ·subst e;have:=Β b p U;simp only[List.take_succ_cons,mV,if_true,List.getElem_cons_succ] at this ⊢;exact this
    ·have:=Β b p U;simp only[List.take_succ_cons,mV,e,if_false,List.getElem_cons_succ,List.cons_append] at this ⊢;rw[this]
 cases l with
 | nil=>cases h
 | cons a l=>
  obtain⟨q,rfl⟩:∃q,p=q+1:=⟨p-1,R⟩;have U:q<l.length:=by simpa using h
  have:=gen l a q U;simp only[List.take_succ_cons,hL,List.getElem_cons_succ,Nat.add_sub_cancel] at this ⊢;rw[this];rfl
theorem D8 {f:List Int} {L:List θ} (ab:L=f.map I) {j:Nat} {x:Int} (h:f[j]?=some x):L[j]?=some (I x)/\∀h:j<L.length,L[j]=I x:=by
 have e:L[j]?=some (I x):=by rw[ab,List.getElem?_map,h];rfl
 exact⟨e,λε=>by rw[bg ε] at e;exact Option.some.inj e⟩
theorem Wy (l:List Int) (n:Nat) (Ζ:l.length=n) (ν:n<2 ^ 40):ae Tryz.prog 133 [.ms 0 n 0 n] [.cells 3 1 (l.map I)]
  (λr s=>∃tail:List Int,(hL l++tail).length=n/\r=.ms 0 n 0 (hL l).length/\s=[.cells 3 1 ((hL l++tail).map I)]) (λ_ _=>False):=by
 refine ae.body Ρ Tryz.func133 rfl rfl Tryz.ntmps133 rfl rfl η ?_;by_cases U:(n:Int)<2
 ·refine aB (υ Ζ U) ?_;refine ai rfl ?_;refine aB Ζ ?_;refine W.ret ⟨_,rfl,[],?_⟩;have e:hL l=l:=by
   match l,Ζ with
   | [],_=>rfl
   | [a],_=>rfl
   | a::b::l,Ζ=>simp at Ζ;omega
  rw[e,List.append_nil,Ζ];exact⟨rfl,rfl,rfl⟩
 refine aB (υ Ζ U) ?_;refine aa rfl ?_;refine Η ?_;refine W.iter (λk:Nat=>1<=k/\k<=n/\hL (l.take k)=l.take k) (λk=>[(0,.ms 0 n 0 n),(3,I k)]) (λ_=>[.cells 3 1 (l.map I)]) (λk=>n-k) 1 ⟨Nat.le_refl _,R,by
  match l,Ζ with
  | [],Ζ=>rfl
  | a::l,Ζ=>rfl⟩ rfl η (λk ς Β=>?_)
 obtain⟨k1,cN,rl⟩:=ς;refine aB Ζ ?_;by_cases δ:k<n
 ·refine ai (by simp[δ]) ?_
  repeat apply ad
  obtain⟨p,ψ⟩:∃p,k=p+1:=⟨k-1,R⟩;have oi:IntKind.i64.wrap ((k:Int)-1)=(p:Int):=by have:=gr (show p<2 ^ 62 by omega);rw[ψ];simpa using this
  have rm:p<n:=R
  have jw:k<l.length:=R
  have ih:p<l.length:=R;obtain⟨L,ab⟩:=aK (l.map I);have jh:L.length=n:=by rw[ab];simpa using Ζ
  obtain⟨a1,bd⟩:=D8 ab (bg jw);obtain⟨bw,dm⟩:=D8 ab (bg ih);refine W.to (σ':=[.cells 3 1 L]) (env':=[(0,.ms 0 n 0 n),(3,I k)]) ?_ (by rw[ab]) η;generalize γ:l[k]=x at a1 bd;generalize Ι:l[p]=y at bw dm;refine dF (υ δ (υ oi (υ jh (υ rm (υ a1 (υ bd (υ bw dm))))))) ?_;have eV:hL (l.take (k+1))=hL (l.take k)++if x=y then [] else [x]:=by
   rw[Nq l R jw R];simp only[ψ,Nat.add_sub_cancel] at γ ⊢;rw[γ,Ι]
  by_cases xB:x=y
  ·refine ai (by simp[xB]) ?_
   repeat apply ad
   refine W.iu (A:=[]) Ρ [(0,.ms 0 n 0 n),(3,I k),(4,.ms 0 n k (n-k))] [.cells 3 1 L] ?_ (by
    (try simp);(repeat (rw[Ο];simp[jh,Nat.le_of_lt δ]));(try simp[jh,Nat.le_of_lt δ]))
   refine Η ?_;have cF:hL (l.take (k+1))=l.take k:=by rw[eV,if_pos xB,List.append_nil,rl]
   refine W.iter (λq:Nat×Nat×List Int=>1<=q.2.1/\k+q.2.1<=n/\q.2.2.length=n/\q.1<k+q.2.1/\q.1=(hL (l.take (k+q.2.1))).length/\q.2.2.take q.1=hL (l.take (k+q.2.1))/\∀j,k+q.2.1-1<=j->j<n->q.2.2[j]?=l[j]?)
    (λq=>[(0,.ms 0 n 0 n),(3,I q.1),(4,.ms 0 n k (n-k)),(5,I q.2.1)]) (λq=>[.cells 3 1 (q.2.2.map I)]) (λq=>n-q.2.1) (k,1,l) ⟨Nat.le_refl _,by simp;omega,Ζ,η,by simp only[cF];simp;omega,by simp only[cF],λj _ _=>rfl⟩ (by rw[ab]) η (λq Φ gd=>?_)
   obtain⟨m,cN,f⟩:=q;obtain⟨c1,c2,c3,c4,nz,sw,q9⟩:=Φ;simp only at c1 c2 c3 c4 nz sw q9;clear ab jh a1 bd bw dm;refine aB c3 ?_;by_cases hd:cN<n-k
   ·have tU:(cN:Int)<((n-k:Nat):Int):=by omega
    refine ai (by simp[hd]) ?_
    repeat apply ad
    obtain⟨v5,iX⟩:∃r,cN=r+1:=⟨cN-1,R⟩;have fB:IntKind.i64.wrap ((cN:Int)-1)=(v5:Int):=by have:=gr (show v5<2 ^ 62 by omega);rw[iX];simpa using this
    have ι:v5<n-k:=R;obtain⟨M,eo⟩:=aK (f.map I);have HS:M.length=n:=by rw[eo];simpa using c3
    have hu:f[k+cN]?=some (l[k+cN]'R):=by rw[q9 _ R R,bg]
    have hv:f[k+v5]?=some (l[k+v5]'R):=by rw[q9 _ R R,bg]
    have ea:=Nq l (p:=k+cN) R R R
    have Wz:l[k+cN-1]'R=l[k+v5]'R:=by congr 1;omega
    rw[Wz] at ea;generalize l[k+cN]'R=u at hu ea;generalize l[k+v5]'R=v at hv ea;obtain⟨b3,bX⟩:=D8 eo hu;obtain⟨v1,v2⟩:=D8 eo hv;refine W.to (σ':=[.cells 3 1 M]) (env':=[(0,.ms 0 n 0 n),(3,I m),(4,.ms 0 n k (n-k)),(5,I cN)]) ?_ (by rw[eo]) η;have oP:m<n:=R;refine W.draw (A:=[]) Ρ mixed λΕ ζ=>?_;simp;(repeat (rw[c7];simp[hd,fB,ι,HS,b3,bX,v1,v2]));try rw[c6];refine er (ζ _ _ ?_)
    by_cases D9:u=v
    ·refine aa (by simp[D9]) ?_;refine Η ?_;rw[if_pos D9,List.append_nil] at ea;refine W.to (gd (m,cN+1,f) ⟨η,by simp;omega,c3,by simp;omega,by simp only[<-Nat.add_assoc,ea];exact nz,by simp only[<-Nat.add_assoc,ea];exact sw,λj J U=>q9 j (by simp at J;omega) U⟩ (by simp;omega)) (by rw[eo]) ?_;have:=gr (show cN+1<2 ^ 62 by omega);simpa using this
    ·refine ai (by simp[D9]) ?_;rw[if_neg D9] at ea
     repeat apply ad
     refine W.iu (A:=[]) Ρ [(0,.ms 0 n 0 n),(3,I m),(4,.ms 0 n k (n-k)),(5,I cN)] [.cells 3 1 ((f.set m u).map I)] ?_ (by
      (try simp);(repeat (rw[Ο];simp[hd,HS,oP,b3,bX]));(try simp[hd,HS,oP,b3,bX]);subst eo;simp)
     refine Η ?_;refine W.to (gd (m+1,cN+1,f.set m u) ⟨η,by simp;omega,by simpa using c3,by simp;omega,by simp only[<-Nat.add_assoc,ea];simp;exact nz,?_,λj J U=>?_⟩ (by simp;omega)) η ?_
     ·simp only[<-Nat.add_assoc,ea];rw[<-sw,List.take_succ_eq_append_getElem (by simp;omega),List.take_set_of_le (Nat.le_refl _)];simp
     ·simp at J;rw[List.getElem?_set_ne R];exact q9 j R U
     ·have Δ:=gr (show cN+1<2 ^ 62 by omega)
      have Γ:=gr (show m+1<2 ^ 62 by omega);simp at Δ Γ ⊢;exact⟨Γ,Δ⟩
   ·refine aa (by simp[hd]) ?_;refine W.exit rfl ?_;have he:k+cN=n:=R;have WA:l.take n=l:=List.take_of_length_le R;rw[he,WA] at nz sw
    repeat apply ad
    have oP:m<=n:=R;refine W.iu (A:=[]) Ρ [(0,.ms 0 n 0 n),(3,I m)] [.cells 3 1 ((hL l++List.replicate (n-m) 0).map I)] ?_ (by
     (try simp);(repeat (rw[Ο];simp[c3,oP]));(try simp[c3,oP]);rw[<-List.map_take,sw,List.drop_eq_nil_of_le (by simp;omega),List.append_nil])
    have WB:(hL l).length+(n-m)=n:=R;refine aB (υ WB oP) ?_;refine W.ret ⟨_,rfl,List.replicate (n-m) 0,by simp;omega,?_,η⟩;rw[<-nz];rfl
  ·refine aa (by simp[xB]) ?_;refine Η ?_;refine W.to (Β (k+1) ⟨R,R,?_⟩ R) (by rw[ab]) ?_
   ·rw[eV,if_neg xB,rl,<-γ,<-List.take_succ_eq_append_getElem jw]
   ·have:=gr (show k+1<2 ^ 62 by omega);simpa using this
 ·refine aa (by simp[δ]) ?_;refine W.exit rfl ?_;refine Η ?_;refine W.ret ⟨_,rfl,[],?_⟩;have e:hL l=l:=by rw[List.take_of_length_le R] at rl;exact rl
  rw[e,List.append_nil,Ζ];exact⟨rfl,rfl,rfl⟩
def ug:aT:=⟨[],[],[]⟩
theorem HT {e f g:Bool} {a b c:Nat}:dP (.a5 [.sl e a [],.sl f b [],.sl g c []]) (fD ug):=.a5 (.cons .nil (.cons .nil (.cons .nil .nil)))
abbrev Nr (r:aT×List Found×Int):θ:=.bj [fD r.1,cZ r.2.1,I r.2.2]
def eZ (s:aT) (b':Bool) (F:List Found):aT×List Found×Int:=
 if s.err≠0 then(ug,[],s.err) else if b'=true/\F=[] then(s,[],9) else(s,F,0)
def jD (s:aT) (cell:Int) (F:List Found):aT×List Found×Int:=
 if s.err≠0 then(ug,[],s.err) else if cell<0\/(s.cells.length:Int)<=cell then(ug,[],3) else eZ s true F
def qi (s:aT) (F:List Found):Prop:=s.err=0->az Tryz.prog 116 [fD s] (cZ F)
theorem Ag (s:aT) (ν:s.small) (b':Bool) (F:List Found) (c0:qi s F):az Tryz.prog 75 [fD s,a6 b'] (Nr (eZ s b' F)):=by
 refine ae.body Ρ Tryz.func75 rfl rfl Tryz.ntmps75 rfl rfl η ?_
 repeat apply ad
 refine dM (A:=[4]) Ρ λΕ ζ=>bD ?_;apply ζ;refine bl λΕ ζ=>?_;refine az.d (D6 s ν) (bD ?_);apply ζ;refine Η ?_;by_cases cU:s.err=0
 case neg=>
  have e:eZ s b' F=(ug,[],s.err):=by unfold eZ;rw[if_pos cU]
  rw[e];refine ai (by simp[cU]) ?_;refine Η ?_;refine W.fix (id:=0) (σ':=[]) (Nat.zero_le _) rfl η η rfl [(4,.ao [.sl true 0 [],.sl true 0 [],.sl true 0 []]),(5,.sl true 0 []),(6,I s.err)] η ?_;refine W.rt ?_;exact .bj (.cons HT (.cons .nil (.cons (.refl _) .nil)))
 refine aa (by simp[cU]) ?_
 repeat apply ad
 refine dM (A:=[8]) Ρ λΕ ζ=>bD ?_;apply ζ;refine bl λΕ ζ=>?_;refine az.d (c0 cU) (bD ?_);apply ζ
 repeat apply ad
 cases b'
 case false=>
  have e:eZ s false F=(s,F,0):=by unfold eZ;rw[if_neg (by simpa using cU),if_neg η]
  rw[e];refine Η ?_;refine aa rfl ?_;refine Η ?_;refine W.fix (id:=0) (σ':=[]) (Nat.zero_le _) rfl η η rfl [(4,.ao [a7 s.au,bc s.aI,ca s.cells]),(5,cZ F),(6,I 0)] η ?_;refine W.rt ?_;exact .refl _
 case true=>
  refine Η ?_;by_cases z:F=[]
  ·have e:eZ s true F=(s,[],9):=by unfold eZ;rw[if_neg (by simpa using cU),if_pos ⟨rfl,z⟩]
   rw[e];refine ai (by simp[z]) ?_;refine Η ?_;refine W.fix (id:=0) (σ':=[]) (Nat.zero_le _) rfl η η rfl [(4,.ao [a7 s.au,bc s.aI,ca s.cells]),(5,.sl true 0 []),(6,I 9)] η ?_;refine W.rt ?_;exact .bj (.cons (.refl _) (.cons .nil (.cons (.refl _) .nil)))
  ·have e:eZ s true F=(s,F,0):=by unfold eZ;rw[if_neg (by simpa using cU),if_neg (by simp[z])]
   rw[e];refine aa (by simp[z]) ?_;refine Η ?_;refine W.fix (id:=0) (σ':=[]) (Nat.zero_le _) rfl η η rfl [(4,.ao [a7 s.au,bc s.aI,ca s.cells]),(5,cZ F),(6,I 0)] η ?_;refine W.rt ?_;exact .refl _
theorem Ns (s:aT) (ν:s.small) (cell:Int) (F:List Found) (c0:qi s F):az Tryz.prog 82 [fD s,I cell] (Nr (jD s cell F)):=by
 refine ae.body Ρ Tryz.func82 rfl rfl Tryz.ntmps82 rfl rfl η ?_
 repeat apply ad
 refine dM (A:=[4]) Ρ λΕ ζ=>bD ?_;apply ζ;refine bl λΕ ζ=>?_;refine az.d (D6 s ν) (bD ?_);apply ζ;refine Η ?_;by_cases cU:s.err=0
 case neg=>
  have e:jD s cell F=(ug,[],s.err):=by unfold jD;rw[if_pos cU]
  rw[e];refine ai (by simp[cU]) ?_;refine Η ?_;refine W.fix (id:=0) (σ':=[]) (Nat.zero_le _) rfl η η rfl [(4,.ao [.sl true 0 [],.sl true 0 [],.sl true 0 []]),(5,.sl true 0 []),(6,I s.err)] η ?_;refine W.rt ?_;exact .bj (.cons HT (.cons .nil (.cons (.refl _) .nil)))
 refine aa (by simp[cU]) ?_;have cl:jD s cell F=if cell<0\/(s.cells.length:Int)<=cell then(ug,[],3) else eZ s true F:=by unfold jD;rw[if_neg (by simpa using cU)]
 repeat apply ad
 refine W.rf (A:=[]) Ρ [(22,a6 (decide (cell<0)||decide ((s.cells.length:Int)<=cell))),(2,.ao [a7 s.au,bc s.aI,ca s.cells]),(4,.ar 0 1 0 0),(1,I cell)] ?_ (by
  by_cases q:cell<0
  ·(try simp);(repeat (rw[Ο];simp[q]));(try simp[q])
  ·(try simp);(repeat (rw[Ο];simp[q]));(try simp[q]))
 by_cases bw:cell<0\/(s.cells.length:Int)<=cell
 ·rw[cl,if_pos bw];refine ai (by simpa using bw) ?_;refine Η ?_;refine W.fix (id:=0) (σ':=[]) (Nat.zero_le _) rfl η η rfl [(4,.ao [.sl true 0 [],.sl true 0 [],.sl true 0 []]),(5,.sl true 0 []),(6,I 3)] η ?_;refine W.rt ?_;exact .bj (.cons HT (.cons .nil (.cons (.refl _) .nil)))
 ·rw[cl,if_neg bw];refine aa (by simpa using bw) ?_;refine bl λΕ ζ=>?_;refine az.d (Ag s ν true F c0) (bD ?_);apply ζ;refine Η ?_;generalize eZ s true F=r;refine W.fix (id:=0) (σ':=[]) (Nat.zero_le _) rfl η η rfl [(4,.ao [a7 r.1.au,bc r.1.aI,ca r.1.cells]),(5,cZ r.2.1),(6,I r.2.2)] η ?_;refine W.rt ?_;exact .refl _
def ll (F:List Found):List (List Int):=F.map λf=>[f.u,f.v]
theorem Nt {α β:Type} (f:α->β) (l:List α) {i:Nat} (h:i<l.length):(l.take (i+1)).map f=(l.take i).map f++[f l[i]]:=by
 rw[List.take_succ_eq_append_getElem h,List.map_append];rfl
theorem WC (s:aT) (ν:s.small) (F:List Found) (c0:qi s F) (Υ:F.length<2 ^ 20):az Tryz.prog 42 [fD s] (.bj [bc (if s.err=0 then ll F else []),I s.err]):=by
 refine ae.body Ρ Tryz.func42 rfl rfl Tryz.ntmps42 rfl rfl η ?_;refine Η ?_;refine tW ?_;refine dM (A:=[4]) Ρ λΕ ζ=>bD ?_;refine az.d (Ag s ν false F c0) (bD ?_);apply ζ;have e:eZ s false F=if s.err=0 then(s,F,0) else(ug,[],s.err):=by
  unfold eZ;by_cases b:s.err=0
  ·rw[if_neg (by simpa using b),if_neg η,if_pos b]
  ·rw[if_pos b,if_neg b]
 have Δ:(eZ s false F).2.1=if s.err=0 then F else []:=by rw[e];split<;>rfl
 have Γ:(eZ s false F).2.2=s.err:=by rw[e];split<;>simp[*]
 obtain⟨G,da⟩:∃G,G=if s.err=0 then F else []:=⟨_,rfl⟩
 have hM:G.length<2 ^ 20:=by rw[da];split;exact Υ;simp
 have mz:(if s.err=0 then ll F else [])=ll G:=by rw[da];split<;>rfl
 rw[Δ,Γ,mz,<-da];clear da mz e Δ Γ;generalize s.err=fB;refine W.drop (h:=0) (σ':=[]) (Nat.zero_le _) (Nat.zero_le _) η rfl [(5,cZ G),(6,I fB)] η ?_;refine Η ?_;have iΑ:∀i,(ll G).take i=ll (G.take i):=λi=>by simp[ll]
 refine W.iter (λi:Nat=>i<=G.length) (λi=>[(6,I fB),(7,gD ((ll (G.take i)).map gf)),(16,cZ G),(17,I G.length),(18,I i)])
  (λi=>bG 29 1 ((ll (G.take i)).map gf)) (λi=>G.length-i) 0 (Nat.zero_le _) rfl (by simp[rr,ll]) (λi hi Β=>?_)
 refine Η ?_;refine W.eU rfl (λδ=>?_) (λδ=>?_)
 ·have δ:i<G.length:=by simpa using δ
  have eV:(ll (G.take (i+1))).map gf=(ll (G.take i)).map gf++[gf [G[i].u,G[i].v]]:=by
   unfold ll;rw[List.map_map,List.map_map,Nt _ _ δ];rfl
  have Ah:=λh=>D7 (t:=29) (k:=1) (h:=h) (Np (L:=ll (G.take i)))
  have WE:((ll (G.take i)).map gf).length<=i:=by simp[ll];omega
  obtain⟨L,ab⟩:=aK ((ll (G.take i)).map gf);rw[<-ab] at Ah WE eV;refine W.to (σ':=bG 29 1 L) (env':=[(6,I fB),(7,gD L),(16,cZ G),(17,I G.length),(18,I i)]) ?_ (by rw[ab]) (by rw[ab];simp)
  repeat apply ad
  refine dM (A:=[9]) Ρ λΕ ζ=>gW δ ?_;apply ζ;refine W.o9 (Nat.zero_le _) (Ah _) η [(9,.ao [I G[i].u,I G[i].v,mS G[i].cells]),(6,I fB),(7,gD L),(16,cZ G),(17,I G.length),(18,I i)] η ?_
  repeat apply ad
  refine W.iu (A:=[26]) Ρ [(6,I fB),(7,gD (L++[gf [G[i].u,G[i].v]])),(16,cZ G),(17,I G.length),(18,I i)] (bG 29 1 (L++[gf [G[i].u,G[i].v]])) ?_ (by
   by_cases Τ:L=[]
   ·subst Τ;(try simp);(repeat (rw[Ο];simp[rr,kx]));(try simp[rr,kx]);exact⟨rfl,rfl⟩
   ·have ky:L.length<=4294967295:=by omega
    (try simp);(repeat (rw[Ο];simp[sR Τ,eJ Τ,xW,sS]));(try simp[sR Τ,eJ Τ,xW,sS]);exact ky)
  refine Η ?_;refine W.to (Β (i+1) δ R) ?_ ?_
  ·rw[eV]
  ·rw[eV];simp[fC δ (show G.length<2 ^ 62 by omega)]
 ·have δ:i=G.length:=by simp at δ;omega
  subst δ;refine W.exit rfl ?_;refine Η ?_;refine W.Wv (d:=2) Np [(3,I fB)] η η ?_;refine W.rt ?_;exact .bj (.cons .Ww (.cons (.refl _) .nil))
abbrev mW (l:List Int):List Int:=l.mergeSort (λx y=>decide (x<=y))
def v7 (N:Nat):Prop:=∀(l:List Int),l.length<=N->ae Tryz.prog 132 [.ms 0 l.length 0 l.length] [.cells 3 1 (l.map I)] (λr s=>r=.bj []/\s=[.cells 3 1 ((mW l).map I)]) (λ_ _=>False)
def kS (lower:Bool) (r:Int×Int):Int:=if lower then r.2 else r.1
def oo (lower:Bool) (A:List Int) (C:List (Int×Int)) (j:Nat):List Int:=A++(C.take j).map (kS lower)
theorem Nu {lower:Bool} {A:List Int} {C:List (Int×Int)}:oo lower A C 0=A:=by simp[oo]
theorem WG {lower:Bool} {A:List Int} {C:List (Int×Int)} {j:Nat} (h:j<C.length):oo lower A C (j+1)=oo lower A C j++[kS lower C[j]]:=by
 unfold oo;rw[Nt _ _ h,List.append_assoc]
theorem Nv {lower:Bool} {A:List Int} {C:List (Int×Int)} {j:Nat} (h:C.length<=j):oo lower A C j=A++C.map (kS lower):=by
 unfold oo;rw[List.take_of_length_le h]
theorem WH {lower:Bool} {A:List Int} {C:List (Int×Int)} {j:Nat}:(oo lower A C j).length<=A.length+j:=by
 unfold oo;simp;omega
def v8 (f:Found) (cell:Nat) (lower:Bool):List Int:=((f.cells[cell]?).getD []).map (kS lower)
def gg (F:List Found) (cell:Nat) (lower:Bool):List Int:=F.flatMap λf=>v8 f cell lower
def fS (F:List Found) (cell:Nat) (lower:Bool):List Int:=hL (mW (gg F cell lower))
theorem HU {l:List Int}:∀e∈l.map I,∀a∈e.cells,aG 0 a:=by
 intro e he a κ;obtain⟨x,_,rfl⟩:=List.mem_map.1 he;simp[θ.cells] at κ;subst κ;simp
theorem Nw (F:List Found) (cell:Nat) (lower:Bool) (c0:F.length<2 ^ 20) (iI:∀f∈F,cell<f.cells.length/\∀c∈f.cells,c.length<2 ^ 20) (N:Nat) (cm:N<2 ^ 20) (fh:v7 N) (bA:gg F cell lower≠[]) (hle:(gg F cell lower).length<=N) :
  az Tryz.prog 95 [cZ F,I cell,a6 lower] (bO I 1 (fS F cell lower)):=by
 refine ae.body Ρ Tryz.func95 rfl rfl Tryz.ntmps95 rfl rfl η ?_;refine Η ?_;refine W.iter (λi:Nat=>i<=F.length) (λi=>[(1,I cell),(2,a6 lower),(7,gD ((gg (F.take i) cell lower).map I)),(12,cZ F),(13,I F.length),(14,I i)])
  (λi=>bG 3 1 ((gg (F.take i) cell lower).map I)) (λi=>F.length-i) 0 (Nat.zero_le _) rfl (by simp[gg,rr]) (λi hi Β=>?_)
 refine Η ?_;have WI:∀i,(gg (F.take i) cell lower).length<=N:=λi=>by
  have e:gg F cell lower=gg (F.take i) cell lower++gg (F.drop i) cell lower:=by
   conv=>lhs;rw[<-List.take_append_drop i F]
   simp only[gg,List.flatMap_append]
  rw[e,List.length_append] at hle;omega
 refine W.eU rfl (λδ=>?_) (λδ=>?_)
 ·have aD:i<F.length:=by simpa using δ
  obtain⟨cw,mI⟩:=iI _ (List.getElem_mem aD);have hC:F[i].cells[cell].length<2 ^ 20:=mI _ (List.getElem_mem cw);obtain⟨A,bW⟩:=aK (gg (F.take i) cell lower);have eV:gg (F.take (i+1)) cell lower=A++F[i].cells[cell].map (kS lower):=by
   rw[bW];unfold gg;rw[List.take_succ_eq_append_getElem aD,List.flatMap_append];simp[v8,cw]
  have Nx:(A++F[i].cells[cell].map (kS lower)).length<=N:=by rw[<-eV];exact WI _
  rw[List.length_append,List.length_map] at Nx;refine W.to (σ':=bG 3 1 (A.map I)) (env':=[(1,I cell),(2,a6 lower),(7,gD (A.map I)),(12,cZ F),(13,I F.length),(14,I i)]) ?_ (by rw[bW]) (by rw[bW];simp)
  repeat apply ad
  refine dM (A:=[9]) Ρ λΕ ζ=>gW aD ?_;apply ζ;refine W.o9 (Nat.zero_le _) (D7 HU) η [(9,.ao [I F[i].u,I F[i].v,mS F[i].cells]),(1,I cell),(2,a6 lower),(7,gD (A.map I)),(12,cZ F),(13,I F.length),(14,I i)] η ?_;refine aB cw ?_;generalize iΒ:F[i].cells[cell]=C at hC eV Nx;refine W.iter (λj:Nat=>j<=C.length) (λj=>[(1,I cell),(2,a6 lower),(7,gD ((oo lower A C j).map I)),(12,cZ F),(13,I F.length),(14,I i),(22,mR C),(23,I C.length),(24,I j)])
   (λj=>bG 3 1 ((oo lower A C j).map I)) (λj=>C.length-j) 0 (Nat.zero_le _) (by rw[Nu]) (by simp[Nu]) (λj ε gd=>?_)
  refine Η ?_;refine W.eU rfl (λaX=>?_) (λaX=>?_)
  ·have aH:j<C.length:=by simpa using aX
   obtain⟨L,ab⟩:=aK (oo lower A C j);have mX:L.length<=A.length+j:=by rw[ab];exact WH
   have Ai:oo lower A C (j+1)=L++[kS lower C[j]]:=by rw[ab];exact WG aH
   refine W.to (σ':=bG 3 1 (L.map I)) (env':=[(1,I cell),(2,a6 lower),(7,gD (L.map I)),(12,cZ F),(13,I F.length),(14,I i),(22,mR C),(23,I C.length),(24,I j)]) ?_ (by rw[ab]) (by rw[ab];simp)
   repeat apply ad
   refine dM (A:=[11]) Ρ λΕ ζ=>gW aH ?_;apply ζ;refine W.o9 (Nat.zero_le _) (D7 HU) η [(11,.ao [I C[j].1,I C[j].2]),(1,I cell),(2,a6 lower),(7,gD (L.map I)),(12,cZ F),(13,I F.length),(14,I i),(22,mR C),(23,I C.length),(24,I j)] η ?_
   repeat apply ad
   generalize C[j]=r at Ai;refine W.iu (A:=[34]) Ρ [(1,I cell),(2,a6 lower),(7,gD ((L++[kS lower r]).map I)),(12,cZ F),(13,I F.length),(14,I i),(22,mR C),(23,I C.length),(24,I j)] (bG 3 1 ((L++[kS lower r]).map I)) ?_ (by
    have ky:L.length<=4294967295:=R;rw[List.map_append];cases lower
    all_goals
     by_cases Τ:L.map I=[]
     ·rw[Τ,rr,kx];(try simp);(repeat (rw[Ο];simp[]));(try simp[]);refine az.d (HL _) (bD ?_);simp[bG,gD,kS]
     ·rw[sR Τ,eJ Τ];(try simp);(repeat (rw[Ο];simp[]));(try simp[]);refine az.d (HL _) (bD ?_);simp[sS,xW,kS,ky])
   refine Η ?_;refine W.to (gd (j+1) aH R) ?_ ?_
   ·rw[Ai,List.map_append];rfl
   ·rw[Ai];simp[fC aH (show C.length<2 ^ 62 by omega)]
  ·have aH:C.length<=j:=by simpa using aX
   refine W.exit rfl ?_;refine Η ?_;refine W.to (Β (i+1) aD R) ?_ ?_
   ·rw[eV,Nv aH]
   ·rw[eV,Nv aH];simp[fC aD (show F.length<2 ^ 62 by omega)]
 ·have aD:i=F.length:=by simp at δ;omega
  refine W.exit rfl ?_;rw[aD,List.take_length];obtain⟨M,eo⟩:=aK (gg F cell lower);rw[<-eo] at bA hle ⊢;have D':M.map I≠[]:=by simpa using bA
  have iJ:fS F cell lower=hL (mW M):=by rw[eo];rfl
  have ru:(mW M).length=M.length:=by simp[mW]
  refine W.to (σ':=[.cells 3 1 (M.map I)]) (env':=[(7,.ms 0 M.length 0 M.length)]) ?_ (eJ D') (by simp[sR D']);refine bl λΕ ζ=>?_;refine ae.one (fh M hle) 0 rfl (vY rn) (vY rn) (by simp[oe]) (by simp[fQ]) (by simp[og]) ?_;simp[ei,hY];(repeat (rw[Ο];simp[]));apply ζ;refine bl λΕ ζ=>?_;have WJ:=Wy (mW M) M.length ru R;refine ae.HO WJ 0 rfl (vY rn) (by simp[oe]) (by simp[og]) (λa s ⟨tail,J,U,μ⟩=>⟨_,μ,vY rn,by subst U;simp[oe],?_⟩);subst U;simp[og];(repeat (rw[Ο];simp[]));apply ζ;refine W.cut 0 (Nat.zero_le _) [(6,bO I 1 (hL (mW M)))] η η ?_ ?_
  ·intro p ψ;simp at ψ;subst ψ;have ψ:=eT.part (σ:=[.cells 3 1 ((hL (mW M)).map I++tail.map I)]) (id:=0) (t:=3) (k:=1) (l:=(hL (mW M)).map I) (l2:=tail.map I) (m:=(hL (mW M)).length) rfl η HU;have e:((hL (mW M)).map I++tail.map I).length=M.length:=by rw[<-List.map_append,List.length_map];exact J
   rw[e] at ψ;exact ψ
  ·rw[iJ];refine W.rt ?_;exact .refl _
abbrev j5 (n:Int):θ:=.z (.int .i32 n)
theorem WK (l:List Int):sy (l.map j5)=some l:=by
 induction l with
 | nil=>rfl
 | cons a l Β=>simp[sy,Β]
def oq (s:aT) (F:List Found) (lower:Bool) (e5:ByteArray->Int) (c:Nat):Int:=
 let l:=fS F c lower
 if 1<l.length then 63 else if l.headD 0<0 then 45 else match s.au[(l.headD 0).toNat]? with|some g=>e5 g.name|none=>0
def kT (s:aT) (F:List Found) (lower:Bool) (e5:ByteArray->Int) (c:Nat):List Int:=(List.range c).map (oq s F lower e5)
def rv (s:aT) (F:List Found) (lower:Bool) (e5:ByteArray->Int):ByteArray×Int:=
 if(eZ s true F).2.2=0 then(spell (kT s F lower e5 s.cells.length),0) else(⟨#[]⟩,(eZ s true F).2.2)
structure HV (s:aT) (F:List Found) (lower:Bool) (e5:ByteArray->Int) (N:Nat):Prop where
 nK:F.length<2 ^ 20
 cells:∀f∈F,f.cells.length=s.cells.length/\∀c∈f.cells,c.length<2 ^ 20
 some:∀c,c<s.cells.length->gg F c lower≠[]/\(gg F c lower).length<=N/\fS F c lower≠[]/\(fS F c lower).length<2 ^ 30/\∀x∈fS F c lower,x<s.au.length
 name:∀g∈s.au,(Conv.runesFrom g.name g.name.size 0 #[])[0]?=Option.some (.int .i32 (e5 g.name))
theorem Ny (s:aT) (ν:s.small) (F:List Found) (c0:qi s F) (lower:Bool) (e5:ByteArray->Int) (N:Nat) (cm:N<2 ^ 20) (fh:v7 N) (ab:HV s F lower e5 N) :
  az Tryz.prog 40 [fD s,a6 lower] (.bj [mP (rv s F lower e5).1,I (rv s F lower e5).2]):=by
 refine ae.body Ρ Tryz.func40 rfl rfl Tryz.ntmps40 rfl rfl η ?_;refine Η ?_;refine tW ?_;refine dM (A:=[6]) Ρ λΕ ζ=>bD ?_;refine az.d (Ag s ν true F c0) (bD ?_);apply ζ;by_cases b:(eZ s true F).2.2=0
 case neg=>
  have e:rv s F lower e5=(⟨#[]⟩,(eZ s true F).2.2):=by unfold rv;rw[if_neg b]
  rw[e];generalize (eZ s true F).2.2=fB at b;refine Η ?_;refine ai (by simp[b]) ?_;refine Η ?_;refine W.drop (h:=0) (σ':=[]) (Nat.zero_le _) (Nat.zero_le _) η rfl [(4,mP ⟨#[]⟩),(5,I fB)] η ?_;refine W.rt ?_;exact .refl _
 have e:eZ s true F=(s,F,0):=by
  unfold eZ at b ⊢;split at b
  ·rename_i h;simp at b;exact absurd b h
  ·split at b
   ·simp at b
   ·rename_i J U;rw[if_neg J,if_neg U]
 have Γ:rv s F lower e5=(spell (kT s F lower e5 s.cells.length),0):=by unfold rv;rw[if_pos b]
 rw[Γ,e];refine W.fix (id:=0) (σ':=[]) (Nat.zero_le _) rfl η η rfl [(1,a6 lower),(6,.ao [a7 s.au,bc s.aI,ca s.cells]),(7,cZ F),(8,I 0)] η ?_;refine Η ?_;refine aa rfl ?_;refine Η ?_;have iI:s.cells.length<2 ^ 30:=ν.2.2.1;refine W.iter (λc:Nat=>c<=s.cells.length) (λc=>[(1,a6 lower),(6,.ao [a7 s.au,bc s.aI,ca s.cells]),(7,cZ F),(9,gD ((kT s F lower e5 c).map j5)),(25,I s.cells.length),(26,I c)])
  (λc=>bG 21 1 ((kT s F lower e5 c).map j5)) (λc=>s.cells.length-c) 0 (Nat.zero_le _) rfl (by simp[kT,rr]) (λc ic Β=>?_)
 refine Η ?_;refine W.eU rfl (λδ=>?_) (λδ=>?_)
 ·have aX:c<s.cells.length:=by simpa using δ
  obtain⟨J,U,μ,Θ,av⟩:=ab.some c aX;obtain⟨al,aN⟩:=aK (kT s F lower e5 c);have xX:al.length=c:=by rw[aN];simp[kT]
  have eV:kT s F lower e5 (c+1)=al++[oq s F lower e5 c]:=by rw[aN];unfold kT;rw[List.range_succ,List.map_append];rfl
  refine W.to (σ':=bG 21 1 (al.map j5)) (env':=[(1,a6 lower),(6,.ao [a7 s.au,bc s.aI,ca s.cells]),(7,cZ F),(9,gD (al.map j5)),(25,I s.cells.length),(26,I c)]) ?_ (by rw[aN]) (by rw[aN];simp);refine Η ?_;refine bl λΕ ζ=>?_;refine az.d (Nw F c lower ab.nK (λf Υ=>⟨by rw[(ab.cells f Υ).1];exact aX,(ab.cells f Υ).2⟩) N cm fh J U) (bD ?_);apply ζ;have ky:al.length<=4294967295:=R;obtain⟨l,ο⟩:=aK (fS F c lower);have pa:oq s F lower e5 c=if 1<l.length then 63 else if l.headD 0<0 then 45 else match s.au[(l.headD 0).toNat]? with|some g=>e5 g.name|none=>0:=by rw[ο];rfl
  rw[<-ο] at μ Θ av ⊢;clear ο aN;refine Η ?_;by_cases q:1<l.length
  ·have ι:oq s F lower e5 c=63:=by rw[pa,if_pos q]
   refine ai (by simp;omega) ?_
   repeat apply ad
   refine W.iu (A:=[57]) Ρ [(1,a6 lower),(6,.ao [a7 s.au,bc s.aI,ca s.cells]),(7,cZ F),(9,gD ((al++[63]).map j5)),(25,I s.cells.length),(26,I c)] (bG 21 1 ((al++[63]).map j5)) ?_ (by
    rw[List.map_append];by_cases Τ:al.map j5=[]
    ·rw[Τ,rr,kx];(try simp);(repeat (rw[Ο];simp[]));(try simp[]);simp[bG,gD]
    ·rw[sR Τ,eJ Τ];(try simp);(repeat (rw[Ο];simp[]));(try simp[]);simp[sS,xW,ky])
   refine Η ?_;refine W.to (Β (c+1) aX R) ?_ ?_
   ·simp only[eV,ι,List.map_append,List.map_cons,List.map_nil]
   ·rw[eV,ι];simp[fC aX (show s.cells.length<2 ^ 62 by omega)]
  ·obtain⟨x,γ⟩:∃x,l=[x]:=by
    match l,μ,q with
    | [x],_,_=>exact⟨x,rfl⟩
    | x::y::z,_,q=>simp at q
   subst γ;refine aa η ?_;refine Η ?_;by_cases g:x<0
   ·have ι:oq s F lower e5 c=45:=by rw[pa];simp[g]
    refine ai (by simp[g]) ?_;refine Η ?_;refine W.iu (A:=[57]) Ρ [(1,a6 lower),(6,.ao [a7 s.au,bc s.aI,ca s.cells]),(7,cZ F),(9,gD ((al++[45]).map j5)),(25,I s.cells.length),(26,I c)] (bG 21 1 ((al++[45]).map j5)) ?_ (by
     rw[List.map_append];by_cases Τ:al.map j5=[]
     ·rw[Τ,rr,kx];(try simp);(repeat (rw[Ο];simp[]));(try simp[]);simp[bG,gD]
     ·rw[sR Τ,eJ Τ];(try simp);(repeat (rw[Ο];simp[]));(try simp[]);simp[sS,xW,ky])
    refine Η ?_;refine W.to (Β (c+1) aX R) ?_ ?_
    ·simp only[eV,ι,List.map_append,List.map_cons,List.map_nil]
    ·rw[eV,ι];simp[fC aX (show s.cells.length<2 ^ 62 by omega)]
   ·obtain⟨k,rfl⟩:∃k:Nat,x=k:=⟨x.toNat,R⟩;have ς:k<s.au.length:=by have:=av (k:Int) η;omega
    have ι:oq s F lower e5 c=e5 s.au[k].name:=by rw[pa];simp[g,ς]
    have lb:=ab.name _ (List.getElem_mem ς)
    have Aj:∀h:0<(Conv.runesFrom s.au[k].name s.au[k].name.size 0 #[]).size,(Conv.runesFrom s.au[k].name s.au[k].name.size 0 #[])[0]'h=.int .i32 (e5 s.au[k].name):=λh=>by
     rw[fq h] at lb;exact Option.some.inj lb
    have Ea:0<(Conv.runesFrom s.au[k].name s.au[k].name.size 0 #[]).size:=(Array.getElem?_eq_some_iff.1 lb).1;refine aa η ?_;refine dF (υ ς (υ lb Ea)) ?_
    repeat apply ad
    refine W.forget [(1,a6 lower),(6,.ao [a7 s.au,bc s.aI,ca s.cells]),(7,cZ F),(9,gD (al.map j5)),(11,j5 (e5 s.au[k].name)),(25,I s.cells.length),(26,I c)] (by simp[Aj Ea]) ?_;refine W.iu (A:=[57]) Ρ [(1,a6 lower),(6,.ao [a7 s.au,bc s.aI,ca s.cells]),(7,cZ F),(9,gD ((al++[(e5 s.au[k].name)]).map j5)),(25,I s.cells.length),(26,I c)] (bG 21 1 ((al++[(e5 s.au[k].name)]).map j5)) ?_ (by
     rw[List.map_append];by_cases Τ:al.map j5=[]
     ·rw[Τ,rr,kx];(try simp);(repeat (rw[Ο];simp[]));(try simp[]);simp[bG,gD]
     ·rw[sR Τ,eJ Τ];(try simp);(repeat (rw[Ο];simp[]));(try simp[]);simp[sS,xW,ky])
    refine Η ?_;refine W.to (Β (c+1) aX R) ?_ ?_
    ·simp only[eV,ι,List.map_append,List.map_cons,List.map_nil]
    ·rw[eV,ι];simp[fC aX (show s.cells.length<2 ^ 62 by omega)]
 ·have δ:c=s.cells.length:=by simp at δ;omega
  subst δ;refine W.exit rfl ?_;refine Η ?_;obtain⟨al,aN⟩:=aK (kT s F lower e5 s.cells.length);rw[<-aN];refine W.to (σ':=bG 21 1 (al.map j5)) (env':=[(9,gD (al.map j5))]) ?_ rfl η;by_cases Τ:al.map j5=[]
  ·have nn:al=[]:=by simpa using Τ
   rw[Τ,rr,kx,nn];have hm:sy []=some []:=rfl;refine hI hm λΕ ζ=>?_;apply ζ;refine W.rt ?_;exact .refl _
  ·have hm:sy (List.take al.length (al.map j5))=some al:=by
    rw[List.take_of_length_le η];exact WK al
   rw[sR Τ,eJ Τ];refine hI hm λΕ ζ=>?_;apply ζ;refine W.drop (h:=0) (σ':=[]) (Nat.zero_le _) (Nat.zero_le _) η rfl [(4,mP (spell al)),(5,I 0)] η ?_;refine W.rt ?_;exact .refl _
theorem Nz {α:Type} [Inhabited α] {lt:α->α->Bool} (ν:Go.Sort.SWO lt) (κ:∀x y,lt x y=false->lt y x=false->x=y) (l:List α):(Go.Sort.insertionSort lt l.toArray 0 l.length).toList=l.mergeSort (λx y=>!lt y x):=by
 obtain⟨J,U⟩:=Go.Sort.insertionSort_holds (lt:=lt) ν l.toArray 0 l.length (Nat.zero_le _) η;exact Go.Sort.sorted_unique_holds (lt:=lt) ν κ l.toArray _ (by simpa using J) (by simpa using U)
theorem WL (x y:Int) (h:Go.Sort.ltInt x y=false) (k:Go.Sort.ltInt y x=false):x=y:=by
 simp[Go.Sort.ltInt] at h k;omega
theorem WM:v7 12:=λl ο=>by
 have h:=Wd l.toArray l.length η ο;rw[Nz Go.Sort.swo_ltInt WL l] at h;have e:(λx y:Int=>!Go.Sort.ltInt y x)=λx y=>decide (x<=y):=by
  funext x y;rw[Bool.eq_iff_iff];simp[Go.Sort.ltInt]
 rw[e] at h;exact h
theorem sT (x y:Int×Int):aC nJ x y=decide (x.1<y.1\/(x.1=y.1/\x.2<y.2)):=by
 unfold aC nJ;simp only[o5,o4];by_cases J:x.1<y.1
 ·simp[J]
 ·by_cases U:y.1<x.1
  ·have:¬x.1=y.1:=by omega
   simp[J,U,this]
  ·have μ:x.1=y.1:=by omega
   by_cases Θ:x.2<y.2
   ·simp[μ,Θ]
   ·by_cases av:y.2<x.2
    ·simp[μ,Θ,av]
    ·simp[μ,Θ,av]
theorem xY:Go.Sort.SWO (aC nJ) where
 irrefl x:=by rw[sT];simp
 trans x y z h k:=by
  rw[sT] at *;simp at *;omega
 ntrans x y z h k:=by
  rw[sT] at *;simp at *;omega
theorem NA (x y:Int×Int) (h:aC nJ x y=false) (k:aC nJ y x=false):x=y:=by
 rw[sT] at *;simp at h k;apply Prod.ext<;>omega
abbrev ln (x y:Int×Int):Bool:=!aC nJ y x
theorem WN {l m:List (Int×Int)} (ψ:l.Perm m) (hm:m.Pairwise λx y=>x.1<y.1\/(x.1=y.1/\x.2<y.2)):l.mergeSort ln=m:=by
 have HW:∀a b c:Int×Int,ln a b=true->ln b c=true->ln a c=true:=λa b c h k=>by
  simp only[ln,sT] at *;simp at *;omega
 have HX:∀a b:Int×Int,(ln a b||ln b a)=true:=λa b=>by
  simp only[ln,sT];simp;omega
 have s1:=List.pairwise_mergeSort (le:=ln) HW HX l
 have dy:(l.mergeSort ln).Perm m:=(List.mergeSort_perm l ln).trans ψ;refine List.Perm.eq_of_pairwise (le:=λa b=>ln a b=true) (λa b _ _ h k=>?_) s1 (hm.imp λ{a b} h=>?_) dy
 ·simp only[ln,sT] at h k;simp at h k;apply Prod.ext<;>omega
 ·simp only[ln,sT];simp;omega
theorem WO (ax:θ) (b1:aG 0 ax):az Tryz.prog 234 [.sl true 0 [],I 0,I 0,ax] (.bj []):=by
 refine ae.body Ρ Tryz.func234 rfl rfl Tryz.ntmps234 rfl rfl η ?_;refine Η ?_;refine .loop ?_;refine Η ?_;refine aa rfl ?_;refine W.exit rfl ?_;exact W.nil ⟨_,rfl,dP.refl _,rfl⟩
theorem WQ (lim:Nat) (ax:θ) (b1:aG 0 ax):az Tryz.prog 211 [.sl true 0 [],I 0,I 0,I lim,ax] (.bj []):=by
 refine ae.body Ρ Tryz.func211 rfl rfl Tryz.ntmps211 rfl rfl η ?_;refine Η ?_;refine .loop ?_;refine Η ?_;refine ai rfl ?_;refine bl λΕ ζ=>?_;refine az.c (WO ax b1) (bF.refl _) (by simp[b1]) η ?_;simp;(repeat (rw[Ο];simp[]));apply ζ;exact W.ret ⟨_,rfl,dP.refl _,rfl⟩
theorem WR (ax:θ) (b1:aG 0 ax):az Tryz.prog 173 [.sl true 0 [],ax] (.bj []):=by
 refine ae.body Ρ Tryz.func173 rfl rfl Tryz.ntmps173 rfl rfl η ?_;have Γ:IntKind.u64.wrap (0:Int)=0:=bu;refine Η ?_;(repeat apply ad);refine bs λΕ ζ=>?_;simp;(repeat (rw[Ο];simp[Γ]));refine az.d (ua 0 R) (bD ?_);refine az.c (WQ (Go.Sort.bitsLen 0) ax b1) (bF.refl _) (by simp[b1]) η ?_;simp;(repeat (rw[Ο];simp[]));apply ζ;exact W.nil ⟨_,rfl,dP.refl _,rfl⟩
theorem WS (ax:θ) (b1:aG 0 ax):az Tryz.prog 217 [.sl true 0 [],I 0,I 0,ax] (.bj []):=by
 refine ae.body Ρ Tryz.func217 rfl rfl Tryz.ntmps217 rfl rfl η ?_;refine Η ?_;refine .loop ?_;refine Η ?_;refine aa rfl ?_;refine W.exit rfl ?_;exact W.nil ⟨_,rfl,dP.refl _,rfl⟩
theorem WT (lim:Nat) (ax:θ) (b1:aG 0 ax):az Tryz.prog 182 [.sl true 0 [],I 0,I 0,I lim,ax] (.bj []):=by
 refine ae.body Ρ Tryz.func182 rfl rfl Tryz.ntmps182 rfl rfl η ?_;refine Η ?_;refine .loop ?_;refine Η ?_;refine ai rfl ?_;refine bl λΕ ζ=>?_;refine az.c (WS ax b1) (bF.refl _) (by simp[b1]) η ?_;simp;(repeat (rw[Ο];simp[]));apply ζ;exact W.ret ⟨_,rfl,dP.refl _,rfl⟩
theorem WU (ax:θ) (b1:aG 0 ax):az Tryz.prog 147 [.sl true 0 [],ax] (.bj []):=by
 refine ae.body Ρ Tryz.func147 rfl rfl Tryz.ntmps147 rfl rfl η ?_;have Γ:IntKind.u64.wrap (0:Int)=0:=bu;refine Η ?_;(repeat apply ad);refine bs λΕ ζ=>?_;simp;(repeat (rw[Ο];simp[Γ]));refine az.d (ua 0 R) (bD ?_);refine az.c (WT (Go.Sort.bitsLen 0) ax b1) (bF.refl _) (by simp[b1]) η ?_;simp;(repeat (rw[Ο];simp[]));apply ζ;exact W.nil ⟨_,rfl,dP.refl _,rfl⟩
end Go.TL
