import Derived.Sort.LotA
import Derived.Test.YtlabjopijpkiaaaGreatUAK
import Derived.Test.YtlabjopijpkiaaaGreatUAN
import Derived.Test.YtlabjopijpkiaaaGreatUAP
import Derived.Test.YtlabjopijpkiaaaGreatUAQ
set_option maxHeartbeats 16000000
set_option maxRecDepth 20000
set_option linter.unusedSectionVars false
set_option linter.unusedSimpArgs false
set_option linter.unusedVariables false
namespace Go.TL
open Go.Conc
variable [bt]
structure Base where
 S:aH
 B:aU
 H:χ
 σ:List Row
 m:Nat
def V (P:Program) (Q:Value->Prop) (mn:Bool) (x:gV) (b:Frame) (cs:List Frame) (nt:Nat) (o:Base) (k:List Item) (env:aa) (σ:List Row):Prop:=
 ∀(S:aH) (B:aU) (H:χ) (t:Array Value),e7 o.m o.S o.B o.H o.σ S B H σ->fI o.m nt S B H σ env t->aO P Q mn x (ax b t k) cs H
def OB (P:Program) (Q:Value->Prop) (mn:Bool) (x:gV) (b:Frame) (cs:List Frame) (o:Base) (a:η) (env:aa) (σ:List Row):Prop:=
 ∀(S:aH) (B:aU) (H:χ) (t:Array Value) (k:List Item) (v:Value),e7 o.m o.S o.B o.H o.σ S B H σ->Holds S B σ H->dj S B σ env t->av S B σ a v->aO P Q mn x {ax b t k with mode:=.panicking [{v,recovered:=false}]} cs H
structure wy (P:Program) (d:Deferred) (g:FuncId) (vs:Array Value):Prop where
 t1:∀r,d.target≠.collected r
 t2:d.target≠.nil
 run:∀w,(invoke d.target d.args).runT P w #[]=(.ok (.enter g vs) w,#[])
section
variable {P:Program} {T:bf} {A:List Nat} {Q:Value->Prop} {mn:Bool} {x:gV} {b:Frame} {cs:List Frame} {m nt:Nat} {o:Base} {k:List Item} {env:aa} {σ:List Row} {S aA:aH} {B B':aU} {H H':χ} {σ':List Row} {t:Array Value} {Z:List Item->aa->List Row->Prop} {E:η->aa->List Row->Prop}
theorem V.fL (γ:Seq x) (hb:b.mode=.run) (h:W P o.m nt k env σ (V P Q mn x b cs nt o) (OB P Q mn x b cs o)):V P Q mn x b cs nt o k env σ:=
 λS B H t μ ψ=>h Q mn x cs b S B H t γ hb ψ (λj env' σ' aA B' H' t' ae Θ eo gf υ=>by
  have e:ae=j:=υ;subst e;exact Θ aA B' H' t' (μ.trans eo) gf) (λa env' σ' aA B' H' t' ae v he eo ω ν κ=>he aA B' H' t' ae v (μ.trans eo) ω ν κ)
theorem V.b8 (γ:Seq x) (h:W P o.m nt k env σ (V P Q mn x b cs nt o) (OB P Q mn x b cs o)) (hb:b.mode=.run:=by rfl):V P Q mn x b cs nt o k env σ:=.fL γ hb h
theorem V.here (h:V P Q mn x b cs nt ⟨S,B,H,σ,m⟩ k env σ) (ψ:fI m nt S B H σ env t):aO P Q mn x (ax b t k) cs H:=h S B H t .refl ψ
theorem W.cq {id:Nat} {ops:Array Oper} (h:W P m nt (.inRegion ops (idx ops.size [])::k) env σ Z E):W P m nt (.code (.region id ops false)::k) env σ Z E:=
 λQ mn x cs b S B H t γ hb ψ Θ he=>.region γ hb (by rw[<-idx_eq];exact h Q mn x cs b S B H t γ hb ψ Θ he)
theorem W.part (Ι:bV P T) (is kg:List Nat) {ops:Array Oper} {l:List Nat} (υ:l=is++kg) (h:∀Ε:aa->List Row->Prop,(∀env σ,W P m nt (.inRegion ops kg::k) env σ Z E->Ε env σ)->run P T A nt ops is env σ Ε E):W P m nt (.inRegion ops l::k) env σ Z E:=
 υ▸Ia Ι kg is env σ (h _ λ_ _ h=>h)
theorem IF (ν:dj S B σ env t) (args:Array Operand):fJ S B σ (args.toList.map (aT env)) (args.map (br t)):=by
 refine⟨θ,λi a v I U=>?_⟩;rw[List.getElem?_map,Array.getElem?_toList] at I;rw[Array.getElem?_map] at U;cases γ:args[i]? with
 | none=>rw[γ] at I;cases I
 | some y=>rw[γ] at I U;cases I;cases U;exact lV ν y
theorem Plain.enter {g:FuncId} (h:Plain P g) (vs:Array Value) (w:World):(callFunc g vs).runT P w #[]=(.ok (.enter g vs) w,#[]):=by
 obtain⟨fn,I,U,ξ⟩:=h;unfold callFunc;show Sem.runT P (Sem.bind program λp=>_) w #[]=_;simp only[program,Sem.bind];show Sem.runT P (match P.funcs[g]? with|none=>_|some fn=>_) w #[]=_;rw[I];simp only[U,ξ,Bool.false_eq_true,if_false];rfl
theorem fI.put {op:Oper} {a:η} {v:Value} (ψ:fI m nt S B H σ env t) (hd:h3 nt op=true) (μ:av S B σ a v):fI m nt S B H σ (cj op env a) (put op t v):=
 ⟨ψ.holds,(rz ψ.cx hd ψ.size μ).1,(rz ψ.cx hd ψ.size μ).2,ψ.rows⟩
theorem e7.all (h:e7 m S B H σ aA B' H' σ') (ω:Holds S B σ H) (hm:σ.length<=m):b' S aA B B' σ σ':=by
 have:=h.later
 rwa [List.take_of_length_le (by rw[ω.len];exact hm),List.take_of_length_le hm] at this
theorem V.defer (γ:Seq x) (hb:b.mode=.run) (cm:b.roundOf=none) {ops:Array Oper} {i:Nat} {rest:List Nat} {op:Oper} (Α:ops[i]?=some op) (hw:fK env ops op=some true) (rA:op.dst=none) {f:Operand} {args:Array Operand} {ea:Array TypeId} (Ξ:op.op=.defer ⟨.value f,args,ea⟩)
  {g:FuncId} {first captured:List η} (Χ:aT env f=.fn (.func g) first captured) (Ρ:Plain P g)
  (h:∀(S:aH) (B:aU) (H:χ) (t:Array Value) (d:Deferred) (vs:Array Value),e7 o.m o.S o.B o.H o.σ S B H σ->fI o.m nt S B H σ env t->fJ S B σ (first++args.toList.map (aT env)++captured) vs->wy P d g vs->
   aO P Q mn x (ax {b with defers:=d::b.defers} t (.inRegion ops rest::k)) cs H):V P Q mn x b cs nt o (.inRegion ops (i::rest)::k) env σ:=by
 intro S B H t μ ψ;refine .op γ hb Α (j' ψ.cx hw) (.inl cm) ?_;have b3:=lV ψ.cx f;rw[Χ] at b3;have mO:=IF ψ.cx args;have e:execOp (br t) op=(do pure (.defer (<-Deferred.ofValue (br t f) (args.map (br t))))):=by unfold execOp;rw[Ξ];rfl
 rw[e];generalize br t f=au at b3;cases b3 with
 | fn v1 v2 I U ξ Κ=>
  refine π.bind' (π.pure' (π.pure' ?_));have OC:put op t undef=t:=by unfold put;rw[rA]
  simp only[M8,OC];have r1:fJ S B σ first v1:=⟨I,ξ⟩
  have r2:fJ S B σ captured v2:=⟨U,Κ⟩;exact h S B H t ⟨.fn (.func g) v2,v1++args.map (br t)⟩ (v1++args.map (br t)++v2) μ ψ ((r1.append mO).append r2) ⟨λ_ h=>(by cases h),λh=>(by cases h),λw=>Ρ.enter _ w⟩
theorem aO.recovered (γ:Seq x) (hb:b.mode=.run) (cm:b.roundOf=none) {ops:Array Oper} {i:Nat} {rest:List Nat} {op:Oper} (Α:ops[i]?=some op) (Ρ:op.guard=none) {ea:Array TypeId} (Ξ:op.op=.call ⟨.builtin .recover,#[],ea⟩) {v:Value} {cs':List Frame}
  (κ:(tryRecover (ax b t (.inRegion ops (i::rest)::k)) cs=some (v,cs'))\/(tryRecover (ax b t (.inRegion ops (i::rest)::k)) cs=none/\v=.nilIface/\cs'=cs))
  (h:aO P Q mn x (ax b (put op t v) (.inRegion ops rest::k)) cs' H):aO P Q mn x (ax b t (.inRegion ops (i::rest)::k)) cs H:=by
 refine .op γ hb Α (by unfold Region.wanted;rw[Ρ]) (.inl cm) ?_;have e:execOp (br t) op=pure .recover:=by unfold execOp;rw[Ξ];rfl
 rw[e];refine π.pure' ⟨cm,?_⟩;rcases κ with κ|⟨κ,rfl,rfl⟩
 ·rw[κ];exact h
 ·rw[κ];exact h
end
theorem results_none {fn:Func} (h:fn.results=#[]) (t:Array Value):results fn t=pure (.tuple #[]):=by
 unfold results;rw[h];simp
theorem qp {P:Program} {g:FuncId} {fn:Func} {body:Code} (bY:P.funcs[g]?=some fn) (nz:fn.body=some body) (vs:Array Value) (kd:CallKind):Frame.enter P g vs kd=ax (Frame.enter P g vs kd) (vs++Array.replicate (fn.ntmps-vs.size) undef) [.code body]:=by
 simp[Frame.enter,ax,bY,nz]
theorem fI.enter {S:aH} {B:aU} {H:χ} {σ:List Row} {qq:List η} {vs:Array Value} {nt m:Nat} (ω:Holds S B σ H) (hv:fJ S B σ qq vs) (hm:m<=σ.length) (Η:qq.length<=nt):fI m nt S B H σ (entry 0 qq) (vs++Array.replicate (nt-vs.size) undef):=
 ⟨ω,N3 hv _,by have:=hv.1;simp;omega,hm⟩
end Go.TL
namespace Go.TL
open Go.Proofs
variable [bt]
def iv (s:aI) (before:List eR) (p:eR):Int:=
 if p.cQ<0\/(s.ak.length:Int)<=p.cQ then 3 else if before.any (λx=>x.cQ==p.cQ) then 4 else if valid p.seen=false\/valid p.bare=false then 1 else if l7 p.seen p.bare=0 then 0 else 9
theorem Yb (p x:eR):aD Tryz.prog 195 [eO x,.ab [J p.cQ,J p.seen,J p.bare]] (bm (x.cQ==p.cQ)):=by
 refine ao.body Φ Tryz.func195 rfl rfl Tryz.ntmps195 rfl rfl θ ?_;(repeat (first|apply ar|(refine bC λΕ ζ=>?_;simp;(repeat (rw[Υ];simp[]));apply ζ)));refine W.ret ⟨_,rfl,?_,rfl⟩;exact .of (by simp[])
theorem Yc (s:aI) (before:List eR) (υ:before.length<2 ^ 62) (p:eR):ao Tryz.prog 153 [fs s,qk before,eO p] [] (λa σ=>iv s before p=0/\a=.bw []/\σ=[]) (λa σ=>iv s before p≠0/\a=.fS 38 (J (iv s before p))/\σ=[]):=by
 refine ao.body Φ Tryz.func153 rfl rfl Tryz.ntmps153 rfl rfl θ ?_;(repeat (first|apply ar|(refine bC λΕ ζ=>?_;simp;(repeat (rw[Υ];simp[]));apply ζ)));refine W.El (A:=[]) Φ mixed [(6,J p.seen),(7,J p.bare),(1,qk before),(3,.ab [aS s.ag,aQ s.ak,bl s.cells]),(5,.ab [J p.cQ,J p.seen,J p.bare])] ?_ (by simp[dN,dM];exact jk (by kernel_rfl))
 repeat apply ar
 refine W.sQ (A:=[]) Φ [(12,bm (decide (p.cQ<0)||decide ((s.ak.length:Int)<=p.cQ))),(6,J p.seen),(7,J p.bare),(1,qk before),(3,.ab [aS s.ag,aQ s.ak,bl s.cells]),(5,.ab [J p.cQ,J p.seen,J p.bare])] ?_ (by by_cases q:p.cQ<0<;>simp[Υ,qi,q]);by_cases bJ:p.cQ<0\/(s.ak.length:Int)<=p.cQ
 case pos=>
  have e:iv s before p=3:=by unfold iv;rw[if_pos bJ]
  rw[e];refine al (by simpa using bJ) ?_;(repeat apply ar);refine bC λΕ ζ=>?_;simp;(repeat (rw[Υ];simp[]))
 refine aj (by simpa using bJ) ?_;(repeat apply ar);refine bC λΕ ζ=>?_;simp;(repeat (rw[Υ];simp[]));refine aD.c (X7 before (.fn (.func 195) [] [.ab [J p.cQ,J p.seen,J p.bare]]) (λx=>x.cQ==p.cQ) υ (by simp[l4]) (λx _=>λ_=>(Yb p x).cc (by simp;exact bS.refl _) θ θ ⟨rfl,rfl⟩)) (bS.refl _) (by simp[l4]) θ ?_;simp;(repeat (rw[Υ];simp[]));apply ζ;cases c8:before.any (λx=>x.cQ==p.cQ)
 case true=>
  have e:iv s before p=4:=by unfold iv;rw[if_neg bJ,if_pos c8]
  rw[e];refine al θ ?_;(repeat apply ar);refine bC λΕ ζ=>?_;simp;(repeat (rw[Υ];simp[]))
 refine aj θ ?_
 repeat apply ar
 have OD:(valid p.seen=false\/valid p.bare=false)->iv s before p=1:=λh=>by unfold iv;rw[if_neg bJ,c8];simp[h]
 cases fY:valid p.seen
 case false=>
  rw[OD (.inl fY)];(repeat apply ar);refine bC λΕ ζ=>?_;simp;(repeat (rw[Υ];simp[]));refine aD.c (x6 p.seen) (bS.refl _) θ θ ?_;simp[fY];(repeat (rw[Υ];simp[fY]));apply ζ;refine al rfl ?_;(repeat apply ar);refine bC λΕ ζ=>?_;simp;(repeat (rw[Υ];simp[]))
 cases mD:valid p.bare
 case false=>
  rw[OD (.inr mD)];(repeat apply ar);refine bC λΕ ζ=>?_;simp;(repeat (rw[Υ];simp[]));refine aD.c (x6 p.seen) (bS.refl _) θ θ ?_;simp[fY];(repeat (rw[Υ];simp[fY]));refine aD.c (x6 p.bare) (bS.refl _) θ θ ?_;simp[mD];(repeat (rw[Υ];simp[mD]));apply ζ;refine al rfl ?_;(repeat apply ar);refine bC λΕ ζ=>?_;simp;(repeat (rw[Υ];simp[]))
 (repeat apply ar);refine bC λΕ ζ=>?_;simp;(repeat (rw[Υ];simp[]));refine aD.c (x6 p.seen) (bS.refl _) θ θ ?_;simp[fY];(repeat (rw[Υ];simp[fY]));refine aD.c (x6 p.bare) (bS.refl _) θ θ ?_;simp[mD];(repeat (rw[Υ];simp[mD]));apply ζ;refine aj rfl ?_;(repeat apply ar);refine bC λΕ ζ=>?_;simp;(repeat (rw[Υ];simp[]));refine aD.c (Ov p.seen p.bare) (bS.refl _) θ θ ?_;simp[];(repeat (rw[Υ];simp[]));apply ζ;by_cases uA:l7 p.seen p.bare=0
 ·have e:iv s before p=0:=by unfold iv;rw[if_neg bJ,c8];simp[fY,mD,uA]
  refine aj (by simp[uA]) ?_;(repeat (first|apply ar|(refine bC λΕ ζ=>?_;simp;(repeat (rw[Υ];simp[]));apply ζ)));exact W.nil ⟨_,rfl,e,rfl,rfl⟩
 ·have e:iv s before p=9:=by unfold iv;rw[if_neg bJ,c8];simp[fY,mD,uA]
  rw[e];refine al (by simp[uA]) ?_;(repeat apply ar);refine bC λΕ ζ=>?_;simp;(repeat (rw[Υ];simp[]))
end Go.TL
namespace Go.TL
open Go.Proofs Go.Conc
variable [bt]
theorem fJ.later {S aA:aH} {B B':aU} {σ σ':List Row} {l:List η} {vs:Array Value} (h:fJ S B σ l vs) (υ:b' S aA B B' σ σ'):fJ aA B' σ' l vs:=⟨h.1,λi a v I U=>(h.2 i a v I U).later υ⟩
theorem v5.fin {P:Program} {Q:Value->Prop} {mn:Bool} {x:gV} {c:Frame} {rest:List Frame} {S aA:aH} {H H':χ} {B':aU} {σ':List Row} {v:Value} {r:η} (hb:v5 P Q mn x c rest S [] H [] (λa s=>cW a r/\s=[]) (λ_ _=>False))
  (he:Ext S [] H aA B' H') (ω:Holds aA B' σ' H') (κ:∀S B σ,av S B σ r v):aO P Q mn x (c.finish v) rest H':=by
 obtain⟨I,U⟩:=ω.close (h:=0) (λid r b0=>R);simp only[List.take_zero] at I U;exact hb.ret r [] _ [] H' v ⟨.refl _,rfl⟩ (he.trans U) ⟨λb o v hv=>U.di _ _ _ (he.di _ _ _ hv),λid r h=>by simp at h⟩ I (κ _ _ _)
abbrev sZ (e:Int):List Row:=[.cells 38 1 [J e]]
section
variable {Q:Value->Prop} {mn:Bool} {x:gV} {c f:Frame} {rest:List Frame} {S bM:aH} {bR:aU} {H H1:χ} {cD e:Int} {po:Array Value} {t:Array Value} {env:aa} {err:Int}
theorem OE (γ:Seq x) (hb:v5 Tryz.prog Q mn x c rest S [] H [] (λa s=>cW a (J err)/\s=[]) (λ_ _=>False)) {d:Deferred} (hd:wy Tryz.prog d 152 po)
  (bY:f.fn=122) (eP:f.defers=[d]) (ς:f.kind=.normal) (cm:f.roundOf=none) (hm:(f.mode=.returning/\cD=err)\/∃v,f.mode=.panicking [{v,recovered:=false}]/\av bM bR (sZ cD) (.fS 38 (J err)) v)
  (qs:Ext S [] H bM bR H1) (ω:Holds bM bR (sZ cD) H1) (hv:fJ bM bR (sZ cD) [.an 0 1 0 0] po) (ν:dj bM bR (sZ cD) env f.tmps) (bd:a6 env 6=.an 0 1 0 0):aO Tryz.prog Q mn x f (c::rest) H1:=by
 have Yd:f.mode≠.run:=by rcases hm with⟨h,_⟩|⟨v,h,_⟩<;>rw[h]<;>simp
 refine aO.deferred γ Yd eP hd.t1 hd.t2 hd.run ?_;rw[qp Tryz.func152 rfl];have fin:∀(f':Frame) (jT:aH) (pq:aU) (jU:χ),f'.mode=.returning->f'.defers=[]->f'.kind=.normal->f'.fn=f.fn->f'.tmps=f.tmps->Ext bM bR H1 jT pq jU->b' bM jT bR pq (sZ cD) (sZ err)->Holds jT pq (sZ err) jU->aO Tryz.prog Q mn x f' (c::rest) jU:=λf' jT pq jU eZ eB uB x9 Az dn aG kY=>by
  refine aO.back γ eZ eB (.inl uB) (fn:=Tryz.f122) (by rw[x9,bY];exact Tryz.func122) ?_;rw[Az];refine π.mono (λv hS ⟨iw,jV,e',vh,aE,ze⟩=>?_) (λ_ _ h=>h) _ (D7 Φ (a:=J err) (show qj a7 [.cell 6 38] env (sZ err)=some (J err) by simp[qj,sR,xZ,bd,v8,im.agg]) kY (ν.later aG));cases ze;exact hb.fin (qs.trans (dn.trans e')) aE λ_ _ _=>.z _
 refine V.here (m:=1) (nt:=10) (env:=entry 0 [.an 0 1 0 0]) ?_ (fI.enter ω hv θ θ);refine V.fL γ rfl ?_
 repeat apply ar
 refine W.cq ?_;refine W.stop ?_;intro kN kO jm t3 hG e8;rcases hm with⟨hm,rfl⟩|⟨v,hm,x'⟩
 ·refine aO.recovered γ rfl rfl rfl rfl rfl (v:=.nilIface) (.inr ⟨?_,rfl,rfl⟩) ?_
  ·simp[tryRecover,ax,Frame.enter,hm]
  ·refine V.here (m:=1) ?_ (e8.put rfl (.z .nilIface));refine V.fL γ rfl ?_;refine W.part (A:=[]) Φ [1,2,3,4,5,6] [] rfl λΕ ζ=>?_;simp[vK];(repeat (rw[Υ];simp[vK]));apply ζ;refine W.bI ?_;refine Ζ ?_;refine aj rfl ?_;refine Ζ ?_;refine W.stop ?_;intro jT pq jU t4 s0 qt;refine .sy γ rfl rfl ?_;refine aO.Hm γ rfl rfl rfl Tryz.func152 ?_;rw[results_none rfl];refine π.pure' ?_;simp only[hm];exact fin _ jT pq jU rfl rfl ς rfl rfl (hG.ext.trans s0.ext) ((hG.trans s0).all ω θ) qt.holds
 ·have s3:av kN kO (sZ cD) (.fS 38 (J err)) v:=x'.later (hG.all ω θ);refine aO.recovered γ rfl rfl rfl rfl rfl (v:=v) (cs':={f with defers:=[],mode:=.panicking [{v,recovered:=true}]}::c::rest) (.inl ?_) ?_
  ·simp[tryRecover,ax,Frame.enter,hm]
  ·refine V.here (m:=1) ?_ (e8.put rfl s3);refine V.fL γ rfl ?_;refine W.part (A:=[]) Φ [1,2,3,4,5,6] [] rfl λΕ ζ=>?_;simp[vK];(repeat (rw[Υ];simp[vK]));apply ζ;refine W.bI ?_;refine Ζ ?_;refine al rfl ?_;refine Ζ ?_;refine W.stop ?_;intro jT pq jU t4 s0 qt;refine .sy γ rfl rfl ?_;refine aO.Hm γ rfl rfl rfl Tryz.func152 ?_;rw[results_none rfl];refine π.pure' ?_;exact fin _ jT pq jU rfl rfl ς rfl rfl (hG.ext.trans s0.ext) ((hG.trans s0).all ω θ) qt.holds
end
theorem Ye (s:aI) (before:List eR) (υ:before.length<2 ^ 62) (p:eR):aD Tryz.prog 122 [fs s,qk before,eO p] (J (iv s before p)):=by
 refine⟨⟨_,Tryz.func122,rfl,rfl⟩,λQ mn x c rest S B H vs γ ω hv hb=>?_⟩;have fl:B=[]:=dw.1 (by have:=ω.len;simpa using this);subst fl;rw[qp Tryz.func122 rfl];refine V.here (m:=0) (nt:=12) (env:=entry 0 [fs s,qk before,eO p]) ?_ (fI.enter ω hv θ θ);refine V.fL γ rfl ?_
 repeat apply ar
 refine dG (A:=[6]) Φ λΕ ζ=>bT ?_;apply ζ
 repeat apply ar
 refine W.cq ?_;refine W.part (A:=[]) Φ [0] [1] rfl λΕ ζ=>?_;(try simp);(repeat (rw[Υ];simp[]));apply ζ;refine W.stop ?_;refine V.defer γ rfl rfl rfl rfl rfl rfl rfl ⟨_,Tryz.func152,rfl,rfl⟩ λbM bR H1 t1 d po qu mS v9 hd=>?_;refine V.here (m:=1) ?_ ⟨mS.holds,mS.cx,mS.size,θ⟩;refine V.fL γ rfl ?_;refine W.bI ?_;refine bN λΕ ζ=>?_;refine hE.mono (ao.call (first:=[]) (captured:=[]) ((Yc s before υ p).mono (K':=λa bp=>iv s before p=0/\ay 0 a/\bp=[]) (E':=λa bp=>(iv s before p≠0/\a=.fS 38 (J (iv s before p)))/\ay 0 a/\bp=[]) (λa bp ⟨I,U,ξ⟩=>⟨I,by subst U;simp,ξ⟩) (λa bp ⟨I,U,ξ⟩=>⟨⟨I,U⟩,by subst U;simp,ξ⟩) |>.frame θ)) (λa bp ⟨ai,ν⟩=>?_) (λa bp ⟨⟨ai,μ⟩,ν⟩=>?_)
 ·subst ν;(try simp);(repeat (rw[Υ];simp[]));apply ζ;refine Ζ ?_;refine W.stop ?_;intro c0 fc bQ t2 rI mT;refine aO.ret (b:={Frame.enter Tryz.prog 122 vs .normal with defers:=[d]}) γ rfl rfl ?_;exact OE γ hb hd rfl rfl rfl rfl (.inl ⟨rfl,ai.symm⟩) (qu.ext.trans rI.ext) mT.holds (v9.later (rI.all mS.holds θ)) mT.cx rfl
 ·subst ν;subst μ;intro c0 fc bQ t2 cJ v rI je dX mU;have s4:=rI.all mS.holds θ;refine OE γ hb hd rfl rfl rfl rfl (.inr ⟨v,rfl,mU⟩) (qu.ext.trans rI.ext) je (v9.later s4) dX ?_;rfl
end Go.TL
namespace Go.TL
open Go.Proofs
variable [bt]
theorem Yf:IntKind.i64.wrap 3=3:=bD
def wz (l:List Int) (i:Nat):Int:=match l[i]? with
 | none=>0
 | some n=>if kl n=false then 3 else if 0<i/\n<=(l[i-1]?).getD 0 then 5 else 0
def ya (l:List Int):Int:=iV ((List.range l.length).map (wz l))
def oq (ls:List (List Int)):Int:=if ls.length=0 then 7 else if 4<ls.length then 6 else iV ((List.range ls.length).map λi=>ya ((ls[i]?).getD []))
theorem Yg (s:aI) (ν:s.small):aD Tryz.prog 104 [fs s] (J (oq s.ak)):=by
 refine ao.body Φ Tryz.func104 rfl rfl Tryz.ntmps104 rfl rfl θ ?_;have υ:=ν.2.1;by_cases hQ:s.ak.length=0
 ·refine aR hQ ?_;refine al θ ?_;refine Ζ ?_;refine W.rt ?_;exact .of (by rw[show oq s.ak=7 by simp[oq,hQ]];rfl)
 by_cases pn:(4:Int)<s.ak.length
 ·refine aR (Μ hQ pn) ?_;refine aj (by simp[hQ]) ?_;refine aR (Μ hQ pn) ?_;refine al θ ?_;refine Ζ ?_;refine W.rt ?_;exact .of (by rw[show oq s.ak=6 by simp[oq,hQ];omega];rfl)
 have Ay:oq s.ak=iV ((List.range s.ak.length).map λi=>ya ((s.ak[i]?).getD [])):=by
  unfold oq;rw[if_neg hQ,if_neg R]
 rw[Ay];refine aR (Μ hQ pn) ?_;refine aj (by simp[hQ]) ?_;refine aR (Μ hQ pn) ?_;refine aj θ ?_;refine Ζ ?_;refine W.iter (λi:Nat=>i<=s.ak.length/\∀j,j<i->ya ((s.ak[j]?).getD [])=0) (λi=>[(1,.ab [aS s.ag,aQ s.ak,bl s.cells]),(18,aQ s.ak),(19,J s.ak.length),(20,J i)]) (λ_=>[]) (λi=>s.ak.length-i) 0 ⟨R,λj δ=>R⟩ rfl θ (λi hi Β=>?_);refine Ζ ?_;refine W.eM rfl (λε=>?_) (λε=>?_)
 ·have ε:i<s.ak.length:=by simpa using ε
  have qo:(s.ak[i]?).getD []=s.ak[i]:=by simp[ε]
  have ψ:s.ak[i].length<2 ^ 30:=ν.2.2.2.1 _ (List.getElem_mem ε);refine aR ε ?_;refine W.iter (λn:Nat=>n<=s.ak[i].length/\∀j,j<n->wz s.ak[i] j=0) (λn=>[(1,.ab [aS s.ag,aQ s.ak,bl s.cells]),(18,aQ s.ak),(19,J s.ak.length),(20,J i),(4,a2 J 1 s.ak[i]),(24,a2 J 1 s.ak[i]),(25,J s.ak[i].length),(26,J n)]) (λ_=>[]) (λn=>s.ak[i].length-n) 0 ⟨R,λj δ=>R⟩ rfl θ (λn Η IG=>?_);refine Ζ ?_;refine W.eM rfl (λa8=>?_) (λa8=>?_)
  ·have hd:n<s.ak[i].length:=by simpa using a8
   have yb:s.ak[i][n]?=some s.ak[i][n]:=a5 hd
   have fin:∀e:Int,wz s.ak[i] n=e->e≠0->iV ((List.range s.ak.length).map λi=>ya ((s.ak[i]?).getD []))=e:=λe he ai=>
    Aw (i:=i) ε (by rw[qo];exact Aw hd he ai Η.2) ai hi.2
   repeat apply ar
   refine uo hd ?_;refine bN λΕ ζ=>?_;refine aD.d (pg s.ak[i][n]) (bT ?_);apply ζ;cases bJ:kl s.ak[i][n]
   ·refine al θ ?_;refine Ζ ?_;refine W.rt ?_;exact .of (by rw[fin 3 (by simp[wz,yb,bJ]) bD];rfl)
   refine aj θ ?_
   repeat apply ar
   refine W.sQ (A:=[]) Φ [(35,bm (decide (0<n/\s.ak[i][n]<=(s.ak[i][n-1]?).getD 0))),(1,.ab [aS s.ag,aQ s.ak,bl s.cells]),(18,aQ s.ak),(19,J s.ak.length),(20,J i),(4,a2 J 1 s.ak[i]),(24,a2 J 1 s.ak[i]),(25,J s.ak[i].length),(26,J n)] ?_ (by
    cases n with
    | zero=>simp[Υ,qi]
    | succ n=>
     have ko:n<s.ak[i].length:=R
     have Δ:=fV (show n<2 ^ 62 by omega)
     have ai:(0:Int)<(n:Int)+1:=R;simp[Υ,qi,ai,ko,Δ])
   by_cases c8:0<n/\s.ak[i][n]<=(s.ak[i][n-1]?).getD 0
   ·refine al (by simp only[c8];rfl) ?_;refine Ζ ?_;refine W.rt ?_;exact .of (by rw[fin 5 (by simp only[wz,yb,bJ];rw[if_neg θ,if_pos c8]) bD];rfl)
   ·refine aj (by simp only[c8];rfl) ?_;refine Ζ ?_;refine W.forget _ ?_ (IG (n+1) ⟨hd,λj δ=>?_⟩ R)
    ·simp[fz hd (show s.ak[i].length<2 ^ 62 by omega)]
    ·by_cases e:j=n
     ·subst e;simp only[wz,yb,bJ];rw[if_neg θ,if_neg c8]
     ·exact Η.2 j R
  ·have hd:s.ak[i].length<=n:=by simpa using a8
   refine W.exit rfl ?_;refine Ζ ?_;refine W.forget _ ?_ (Β (i+1) ⟨ε,λj δ=>?_⟩ R)
   ·simp[fz ε (show s.ak.length<2 ^ 62 by omega)]
   ·by_cases e:j=i
    ·subst e;rw[qo];exact Ax λj δ=>Η.2 j R
    ·exact hi.2 j R
 ·have ε:s.ak.length<=i:=by simpa using ε
  refine W.exit rfl ?_;refine Ζ ?_;refine W.rt ?_;exact .of (by rw[Ax (f:=λi=>ya ((s.ak[i]?).getD [])) λj δ=>hi.2 j R];rfl)
def qv (s:aI) (c:List eR):Int:=if 4<c.length then 6 else iV ((List.range c.length).map λi=>match c[i]? with|none=>0|some p=>iv s (c.take i) p)
def s5 (s:aI):Int:=if 4<s.cells.length then 6 else iV ((List.range s.cells.length).map λi=>qv s ((s.cells[i]?).getD []))
theorem Yh (s:aI) (ν:s.small):aD Tryz.prog 105 [fs s] (J (s5 s)):=by
 refine ao.body Φ Tryz.func105 rfl rfl Tryz.ntmps105 rfl rfl θ ?_;have υ:=ν.2.2.1;by_cases pn:(4:Int)<s.cells.length
 ·refine aR pn ?_;refine al θ ?_;refine Ζ ?_;refine W.rt ?_;exact .of (by rw[show s5 s=6 by simp[s5];omega];rfl)
 have Ay:s5 s=iV ((List.range s.cells.length).map λi=>qv s ((s.cells[i]?).getD [])):=by
  unfold s5;rw[if_neg R]
 rw[Ay];refine aR pn ?_;refine aj θ ?_;refine Ζ ?_;refine W.iter (λi:Nat=>i<=s.cells.length/\∀j,j<i->qv s ((s.cells[j]?).getD [])=0) (λi=>[(1,.ab [aS s.ag,aQ s.ak,bl s.cells]),(13,bl s.cells),(14,J s.cells.length),(15,J i)]) (λ_=>[]) (λi=>s.cells.length-i) 0 ⟨R,λj δ=>R⟩ rfl θ (λi hi Β=>?_);refine Ζ ?_;refine W.eM rfl (λε=>?_) (λε=>?_)
 ·have ε:i<s.cells.length:=by simpa using ε
  have qo:(s.cells[i]?).getD []=s.cells[i]:=by simp[ε]
  have ψ:s.cells[i].length<2 ^ 30:=ν.2.2.2.2 _ (List.getElem_mem ε)
  have OF:∀e:Int,qv s s.cells[i]=e->e≠0->iV ((List.range s.cells.length).map λi=>qv s ((s.cells[i]?).getD []))=e:=λe he ai=>
   Aw (i:=i) ε (by rw[qo];exact he) ai hi.2
  by_cases OG:(4:Int)<s.cells[i].length
  ·refine aR (Μ ε OG) ?_;refine al θ ?_;refine Ζ ?_;refine W.rt ?_;exact .of (by rw[OF 6 (by unfold qv;rw[if_pos R]) bD];rfl)
  refine aR (Μ ε OG) ?_;refine aj θ ?_;refine Ζ ?_;have OH:qv s s.cells[i]=iV ((List.range s.cells[i].length).map λn=>match s.cells[i][n]? with|none=>0|some p=>iv s (s.cells[i].take n) p):=by unfold qv;rw[if_neg R]
  refine W.iter (λn:Nat=>n<=s.cells[i].length/\∀j,j<n->(match s.cells[i][j]? with|none=>0|some p=>iv s (s.cells[i].take j) p)=0) (λn=>[(1,.ab [aS s.ag,aQ s.ak,bl s.cells]),(13,bl s.cells),(14,J s.cells.length),(15,J i),(4,qk s.cells[i]),(22,qk s.cells[i]),(23,J s.cells[i].length),(24,J n)]) (λ_=>[]) (λn=>s.cells[i].length-n) 0 ⟨R,λj δ=>R⟩ rfl θ (λn Η IG=>?_);refine Ζ ?_;refine W.eM rfl (λa8=>?_) (λa8=>?_)
  ·have hd:n<s.cells[i].length:=by simpa using a8
   have yb:s.cells[i][n]?=some s.cells[i][n]:=a5 hd
   repeat apply ar
   refine dG (A:=[6]) Φ λΕ ζ=>gQ hd ?_;apply ζ;refine W.fix (id:=0) (σ':=[]) (Nat.zero_le _) rfl θ θ rfl [(5,J n),(6,.ab [J s.cells[i][n].cQ,J s.cells[i][n].seen,J s.cells[i][n].bare]),(1,.ab [aS s.ag,aQ s.ak,bl s.cells]),(13,bl s.cells),(14,J s.cells.length),(15,J i),(4,qk s.cells[i]),(22,qk s.cells[i]),(23,J s.cells[i].length),(24,J n)] θ ?_
   repeat apply ar
   refine W.draw (A:=[]) Φ mixed λΕ ζ=>?_;simp;(repeat (rw[dN];simp[hd,Nat.le_of_lt hd]));try rw[dM]
   (try simp only[<-List.map_take]);refine gv (aD.q (Ye s (s.cells[i].take n) (by simp;omega) s.cells[i][n])) (rG ?_);refine fy (ζ _ _ ?_)
   repeat apply ar
   refine Ζ ?_;by_cases b:iv s (s.cells[i].take n) s.cells[i][n]=0
   ·refine aj (by simp[b]) ?_;refine Ζ ?_;refine W.forget _ ?_ (IG (n+1) ⟨hd,λj δ=>?_⟩ R)
    ·simp[fz hd (show s.cells[i].length<2 ^ 62 by omega)]
    ·by_cases e:j=n
     ·subst e;rw[yb];exact b
     ·exact Η.2 j R
   ·refine al (by simp[b]) ?_;refine Ζ ?_;refine W.rt ?_;exact .of (by rw[OF (iv s (s.cells[i].take n) s.cells[i][n]) (by rw[OH];exact Aw hd (by rw[yb]) b Η.2) b];rfl)
  ·have hd:s.cells[i].length<=n:=by simpa using a8
   refine W.exit rfl ?_;refine Ζ ?_;refine W.forget _ ?_ (Β (i+1) ⟨ε,λj δ=>?_⟩ R)
   ·simp[fz ε (show s.cells.length<2 ^ 62 by omega)]
   ·by_cases e:j=i
    ·subst e;rw[qo,OH];exact Ax λj δ=>Η.2 j R
    ·exact hi.2 j R
 ·have ε:s.cells.length<=i:=by simpa using ε
  refine W.exit rfl ?_;refine Ζ ?_;refine W.rt ?_;exact .of (by rw[Ax (f:=λi=>qv s ((s.cells[i]?).getD [])) λj δ=>hi.2 j R];rfl)
def aI.err (s:aI):Int:=if oo s.ag≠0 then oo s.ag else if oq s.ak≠0 then oq s.ak else s5 s
theorem IH (s:aI) (ν:s.small):aD Tryz.prog 48 [fs s] (J s.err):=by
 refine ao.body Φ Tryz.func48 rfl rfl Tryz.ntmps48 rfl rfl θ ?_;refine Ζ ?_;refine .loop ?_;refine Ζ ?_;refine al rfl ?_;refine Ζ ?_;refine bN λΕ ζ=>?_;refine aD.d (Ya s ν) (bT ?_);apply ζ;refine Ζ ?_;by_cases bJ:oo s.ag=0
 case neg=>
  refine al (by simp[bJ]) ?_;refine Ζ ?_;refine W.rt ?_;exact .of (by rw[show s.err=oo s.ag by unfold aI.err;rw[if_pos bJ]];rfl)
 refine aj (by simp[bJ]) ?_;refine aR @Iy ?_;refine .inLoop ?_;refine Ζ ?_;refine al rfl ?_;refine Ζ ?_;refine bN λΕ ζ=>?_;refine aD.d (Yg s ν) (bT ?_);apply ζ;refine Ζ ?_;by_cases c8:oq s.ak=0
 case neg=>
  refine al (by simp[c8]) ?_;refine Ζ ?_;refine W.rt ?_;exact .of (by rw[show s.err=oq s.ak by unfold aI.err;rw[if_neg (by simp[bJ]),if_pos c8]];rfl)
 refine aj (by simp[c8]) ?_;refine aR @Iz ?_;refine .inLoop ?_;refine Ζ ?_;refine al rfl ?_;refine Ζ ?_;refine bN λΕ ζ=>?_;refine aD.d (Yh s ν) (bT ?_);apply ζ;refine Ζ ?_;have e:s.err=s5 s:=by unfold aI.err;rw[if_neg (by simp[bJ]),if_neg (by simp[c8])]
 rw[e];by_cases fY:s5 s=0
 case neg=>
  refine al (by simp[fY]) ?_;refine Ζ ?_;refine W.rt ?_;exact .of rfl
 refine aj (by simp[fY]) ?_;refine aR @Yf ?_;refine .inLoop ?_;refine Ζ ?_;refine aj rfl ?_;refine W.exit rfl ?_;refine Ζ ?_;refine W.rt ?_;exact .of (by rw[fY];rfl)
section
variable {P:Program} {T:bf} {A:List Nat} {m nt:Nat} {k:List Item} {env:aa} {σ:List Row} {Z:List Item->aa->List Row->Prop} {E:η->aa->List Row->Prop}
theorem W.fA (Ι:bV P T) (env':aa) (σ':List Row) {id:Nat} {ops:Array Oper} (h:W P m nt k env' σ' Z E) (κ:run P T A nt ops (idx ops.size []) env σ (λe s=>s=σ'/\∀p∈env',a6 e p.1=p.2) E):W P m nt (.code (.region id ops false)::k) env σ Z E:=
 dG Ι λΕ ζ=>D5 (λe s ⟨I,U⟩=>ζ e s (I▸W.forget env' U h)) _ _ _ κ
end
def eu (l:List η):η:=if l.isEmpty then .sl true 0 [] else .ms 0 l.length 0 l.length
def bh (t:TypeId) (k:Nat) (l:List η):List Row:=if l.isEmpty then [] else [.cells t k l]
def fM (k:Nat) (l:List η):η:=if l.isEmpty then .sl true 0 [] else .sl false k l
theorem ps:eu []=.sl true 0 []:=rfl
theorem iW {t k:Nat}:bh t k []=[]:=rfl
theorem rJ {l:List η} (h:l≠[]):eu l=.ms 0 l.length 0 l.length:=by unfold eu;rw[if_neg (by simpa using h)]
theorem ee {t k:Nat} {l:List η} (h:l≠[]):bh t k l=[.cells t k l]:=by unfold bh;rw[if_neg (by simpa using h)]
theorem yc {l:List η} {x:η}:eu (l++[x])=.ms 0 (l.length+1) 0 (l.length+1):=by rw[rJ θ];simp
theorem s6 {t k:Nat} {l:List η} {x:η}:bh t k (l++[x])=[.cells t k (l++[x])]:=ee θ
theorem eD.acc {t k:Nat} {l:List η} (hb:∀e∈l,∀a∈e.cells,ay 0 a):eD 0 (bh t k l) (eu l) (fM k l):=by
 unfold bh eu fM;cases h:l.isEmpty with
 | true=>exact .low θ
 | false=>exact .own (Nat.zero_le _) rfl rfl hb
theorem cW.acc {k:Nat} {l:List η}:cW (fM k l) (.sl false k l):=by
 unfold fM;cases h:l.isEmpty with
 | true=>rw[List.isEmpty_iff.1 h];exact .nil
 | false=>exact .refl _
@[simp] theorem lι {α:Type} {l:List α} {a b:α}:(l++[a]).set l.length b=l++[b]:=by rw[List.set_append_right _ _ (Nat.le_refl _),Nat.sub_self];rfl
@[simp] theorem lκ {t k:Nat} {l:List η}:ay (bh t k l).length (eu l):=by
 unfold eu bh;cases l.isEmpty<;>simp[oc]
theorem ay.mono {h cU:Nat} {a:η} (hb:ay h a) (aY:h<=cU):ay cU a:=by
 induction hb with
 | z v=>exact .z v
 | cp=>exact .cp
 | ab _ Β=>exact .ab Β
 | sl _ Β=>exact .sl Β
 | aV _ Β=>exact .aV Β
 | bw _ Β=>exact .bw Β
 | fn _ _ sA mJ=>exact .fn sA mJ
 | fS _ Β=>exact .fS Β
 | an h=>exact .an R
 | ms h=>exact .ms R
 | mp h=>exact .mp R
 | it h=>exact .it R
theorem AA {t k h:Nat} {l:List η} (hb:∀e∈l,∀a∈e.cells,ay 0 a):∀r∈bh t k l,eW h r:=by
 intro r κ;unfold bh at κ;cases υ:l.isEmpty with
 | true=>rw[υ] at κ;simp at κ
 | false=>
  rw[υ] at κ;simp at κ;subst κ;exact λe he a μ=>(hb e he a μ).mono (Nat.zero_le _)
section
variable {P:Program} {m nt:Nat} {k:List Item} {env:aa} {Z:List Item->aa->List Row->Prop} {E:η->aa->List Row->Prop}
theorem W.pt {σ0:List Row} {t:TypeId} {e:η} {kk:Nat} (hm:m<=σ0.length) (ob:∀r∈σ0,eW σ0.length r) (he:∀a∈e.cells,ay σ0.length a) (env':aa)
  (cK:∀p∈env',(a6 env p.1=p.2/\ay σ0.length p.2)\/(a6 env p.1=.an σ0.length 1 0 0/\p.2=.ab e.cells)) (hW:W P m nt k env' σ0 Z E):W P m nt k env (σ0++[.cells t kk [e]]) Z E:=
 W.fix (t:=t) (kk:=kk) (e:=e) hm θ he (λid r b0 κ=>ob r (by
  rw[dE b0] at κ;exact cr κ)) θ env' cK hW
theorem W.OI {t kk:Nat} {l:List η} {d:Nat} (hb:∀e∈l,∀a∈e.cells,ay 0 a) (env':aa) (hd:a6 env d=eu l) (cK:∀p∈env',a6 env p.1=p.2/\ay 0 p.2) (hW:W P 0 nt k ((d,fM kk l)::env') [] Z E):W P 0 nt k env (bh t kk l) Z E:=
 W.cut 0 (Nat.zero_le _) ((d,fM kk l)::env') (Nat.zero_le _) (λid r b0=>R) (λp ψ=>by
  rcases List.mem_cons.1 ψ with rfl|ψ
  ·show eD 0 _ (a6 env d) _;rw[hd];exact .acc hb
  ·rw[(cK p ψ).1];exact .low (cK p ψ).2) (by simpa using hW)
end
abbrev eS (l:List Int):η:=.sl true 1 (l.map J)
theorem cW.Yi {L:List (List Int)}:cW (fM 1 (L.map eS)) (aQ L):=.trans .acc (.map λx _=>.one .ex rfl rfl)
theorem OJ {L:List (List Int)}:∀e∈L.map eS,∀a∈e.cells,ay 0 a:=by
 intro e he a μ;obtain⟨x,_,rfl⟩:=List.mem_map.1 he;simp[η.cells] at μ;subst μ;simp
theorem Yj (n:Int):aD Tryz.prog 51 [J n] (.bw [J (if valid n then Ew n else 0),J (if valid n then 0 else 1)]):=by
 refine ao.body Φ Tryz.func51 rfl rfl Tryz.ntmps51 rfl rfl θ ?_;refine Ζ ?_;refine bN λΕ ζ=>?_;refine aD.d (x6 n) (bT ?_);apply ζ;cases b:valid n
 ·refine al rfl ?_;refine Ζ ?_;refine W.rt ?_;exact .of rfl
 ·refine aj rfl ?_;refine bN λΕ ζ=>?_;refine aD.d (XL n) (bT ?_);apply ζ;refine Ζ ?_;refine W.rt ?_;exact .of rfl
def uC:Int->List Int->List Int
 | _,[]=>[]
 | a,b::l=>if b=a then uC a l else b::uC b l
def ix:List Int->List Int
 | []=>[]
 | a::l=>a::uC a l
theorem OK (l:List Int) {p:Nat} (ψ:0<p) (h:p<l.length) (cU:p-1<l.length):ix (l.take (p+1))=ix (l.take p)++if l[p]=l[p-1] then [] else [l[p]]:=by
 have gen:∀(l:List Int) (a:Int) (p:Nat) (h:p<l.length),uC a (l.take (p+1))=uC a (l.take p)++if l[p]=(a::l)[p]'(by simp;omega) then [] else [l[p]]:=by
  intro l
  induction l with
  | nil=>intro a p h;cases h
  | cons b l Β=>
   intro a p h;cases p with
   | zero=>by_cases e:b=a<;>simp[uC,e]
   | succ p=>
    have U:p<l.length:=by simpa using h
    by_cases e:b=a
    ·subst e;have:=Β b p U;simp only[List.take_succ_cons,uC,if_true,List.getElem_cons_succ] at this ⊢;exact this
    ·have:=Β b p U;simp only[List.take_succ_cons,uC,e,if_false,List.getElem_cons_succ,List.cons_append] at this ⊢;rw[this]
 cases l with
 | nil=>cases h
 | cons a l=>
  obtain⟨q,rfl⟩:∃q,p=q+1:=⟨p-1,R⟩;have U:q<l.length:=by simpa using h
  have:=gen l a q U;simp only[List.take_succ_cons,ix,List.getElem_cons_succ,Nat.add_sub_cancel] at this ⊢;rw[this];rfl
theorem EC {f:List Int} {L:List η} (aG:L=f.map J) {j:Nat} {x:Int} (h:f[j]?=some x):L[j]?=some (J x)/\∀h:j<L.length,L[j]=J x:=by
 have e:L[j]?=some (J x):=by rw[aG,List.getElem?_map,h];rfl
 exact⟨e,λδ=>by rw[a5 δ] at e;exact Option.some.inj e⟩
theorem Yk (l:List Int) (n:Nat) (Η:l.length=n) (ν:n<2 ^ 40):ao Tryz.prog 133 [.ms 0 n 0 n] [.cells 3 1 (l.map J)]
  (λr s=>∃tail:List Int,(ix l++tail).length=n/\r=.ms 0 n 0 (ix l).length/\s=[.cells 3 1 ((ix l++tail).map J)]) (λ_ _=>False):=by
 refine ao.body Φ Tryz.func133 rfl rfl Tryz.ntmps133 rfl rfl θ ?_;by_cases U:(n:Int)<2
 ·refine aR (Μ Η U) ?_;refine al rfl ?_;refine aR Η ?_;refine W.ret ⟨_,rfl,[],?_⟩;have e:ix l=l:=by
   match l,Η with
   | [],_=>rfl
   | [a],_=>rfl
   | a::b::l,Η=>simp at Η;omega
  rw[e,List.append_nil,Η];exact⟨rfl,rfl,rfl⟩
 refine aR (Μ Η U) ?_;refine aj rfl ?_;refine Ζ ?_;refine W.iter (λk:Nat=>1<=k/\k<=n/\ix (l.take k)=l.take k) (λk=>[(0,.ms 0 n 0 n),(3,J k)]) (λ_=>[.cells 3 1 (l.map J)]) (λk=>n-k) 1 ⟨Nat.le_refl _,R,by
  match l,Η with
  | [],Η=>rfl
  | a::l,Η=>rfl⟩ rfl θ (λk ς Β=>?_)
 obtain⟨k1,cJ,rF⟩:=ς;refine aR Η ?_;by_cases ε:k<n
 ·refine al (by simp[ε]) ?_
  repeat apply ar
  obtain⟨p,ψ⟩:∃p,k=p+1:=⟨k-1,R⟩;have oj:IntKind.i64.wrap ((k:Int)-1)=(p:Int):=by have:=fV (show p<2 ^ 62 by omega);rw[ψ];simpa using this
  have rH:p<n:=R
  have jd:k<l.length:=R
  have gX:p<l.length:=R;obtain⟨L,aG⟩:=aF (l.map J);have km:L.length=n:=by rw[aG];simpa using Η
  obtain⟨a1,bk⟩:=EC aG (a5 jd);obtain⟨bJ,c8⟩:=EC aG (a5 gX);refine W.to (σ':=[.cells 3 1 L]) (env':=[(0,.ms 0 n 0 n),(3,J k)]) ?_ (by rw[aG]) θ;generalize γ:l[k]=x at a1 bk;generalize Ο:l[p]=y at bJ c8;refine gx (Μ ε (Μ oj (Μ km (Μ rH (Μ a1 (Μ bk (Μ bJ c8))))))) ?_;have dO:ix (l.take (k+1))=ix (l.take k)++if x=y then [] else [x]:=by
   rw[OK l R jd R];simp only[ψ,Nat.add_sub_cancel] at γ ⊢;rw[γ,Ο]
  by_cases xS:x=y
  ·refine al (by simp[xS]) ?_
   repeat apply ar
   refine W.fA (A:=[]) Φ [(0,.ms 0 n 0 n),(3,J k),(4,.ms 0 n k (n-k))] [.cells 3 1 L] ?_ (by
    (try simp);(repeat (rw[Υ];simp[km,Nat.le_of_lt ε]));(try simp[km,Nat.le_of_lt ε]))
   refine Ζ ?_;have cH:ix (l.take (k+1))=l.take k:=by rw[dO,if_pos xS,List.append_nil,rF]
   refine W.iter (λq:Nat×Nat×List Int=>1<=q.2.1/\k+q.2.1<=n/\q.2.2.length=n/\q.1<k+q.2.1/\q.1=(ix (l.take (k+q.2.1))).length/\q.2.2.take q.1=ix (l.take (k+q.2.1))/\∀j,k+q.2.1-1<=j->j<n->q.2.2[j]?=l[j]?)
    (λq=>[(0,.ms 0 n 0 n),(3,J q.1),(4,.ms 0 n k (n-k)),(5,J q.2.1)]) (λq=>[.cells 3 1 (q.2.2.map J)]) (λq=>n-q.2.1) (k,1,l) ⟨Nat.le_refl _,by simp;omega,Η,θ,by simp only[cH];simp;omega,by simp only[cH],λj _ _=>rfl⟩ (by rw[aG]) θ (λq Ψ gk=>?_)
   obtain⟨m,cJ,f⟩:=q;obtain⟨c1,c2,c3,c4,nx,sL,rv⟩:=Ψ;simp only at c1 c2 c3 c4 nx sL rv;clear aG km a1 bk bJ c8;refine aR c3 ?_;by_cases hd:cJ<n-k
   ·have ui:(cJ:Int)<((n-k:Nat):Int):=by omega
    refine al (by simp[hd]) ?_
    repeat apply ar
    obtain⟨wA,jH⟩:∃r,cJ=r+1:=⟨cJ-1,R⟩;have gg:IntKind.i64.wrap ((cJ:Int)-1)=(wA:Int):=by have:=fV (show wA<2 ^ 62 by omega);rw[jH];simpa using this
    have κ:wA<n-k:=R;obtain⟨M,dm⟩:=aF (f.map J);have II:M.length=n:=by rw[dm];simpa using c3
    have hu:f[k+cJ]?=some (l[k+cJ]'R):=by rw[rv _ R R,a5]
    have hv:f[k+wA]?=some (l[k+wA]'R):=by rw[rv _ R R,a5]
    have dX:=OK l (p:=k+cJ) R R R
    have Yl:l[k+cJ-1]'R=l[k+wA]'R:=by congr 1;omega
    rw[Yl] at dX;generalize l[k+cJ]'R=u at hu dX;generalize l[k+wA]'R=v at hv dX;obtain⟨eF,ei⟩:=EC dm hu;obtain⟨v1,v2⟩:=EC dm hv;refine W.to (σ':=[.cells 3 1 M]) (env':=[(0,.ms 0 n 0 n),(3,J m),(4,.ms 0 n k (n-k)),(5,J cJ)]) ?_ (by rw[dm]) θ;have jK:m<n:=R;refine W.draw (A:=[]) Φ mixed λΕ ζ=>?_;simp;(repeat (rw[dN];simp[hd,gg,κ,II,eF,ei,v1,v2]));try rw[dM];refine fy (ζ _ _ ?_)
    by_cases ED:u=v
    ·refine aj (by simp[ED]) ?_;refine Ζ ?_;rw[if_pos ED,List.append_nil] at dX;refine W.to (gk (m,cJ+1,f) ⟨θ,by simp;omega,c3,by simp;omega,by simp only[<-Nat.add_assoc,dX];exact nx,by simp only[<-Nat.add_assoc,dX];exact sL,λj I U=>rv j (by simp at I;omega) U⟩ (by simp;omega)) (by rw[dm]) ?_;have:=fV (show cJ+1<2 ^ 62 by omega);simpa using this
    ·refine al (by simp[ED]) ?_;rw[if_neg ED] at dX
     repeat apply ar
     refine W.fA (A:=[]) Φ [(0,.ms 0 n 0 n),(3,J m),(4,.ms 0 n k (n-k)),(5,J cJ)] [.cells 3 1 ((f.set m u).map J)] ?_ (by
      (try simp);(repeat (rw[Υ];simp[hd,II,jK,eF,ei]));(try simp[hd,II,jK,eF,ei]);subst dm;simp)
     refine Ζ ?_;refine W.to (gk (m+1,cJ+1,f.set m u) ⟨θ,by simp;omega,by simpa using c3,by simp;omega,by simp only[<-Nat.add_assoc,dX];simp;exact nx,?_,λj I U=>?_⟩ (by simp;omega)) θ ?_
     ·simp only[<-Nat.add_assoc,dX];rw[<-sL,List.take_succ_eq_append_getElem (by simp;omega),List.take_set_of_le (Nat.le_refl _)];simp
     ·simp at I;rw[List.getElem?_set_ne R];exact rv j R U
     ·have Δ:=fV (show cJ+1<2 ^ 62 by omega)
      have Γ:=fV (show m+1<2 ^ 62 by omega);simp at Δ Γ ⊢;exact⟨Γ,Δ⟩
   ·refine aj (by simp[hd]) ?_;refine W.exit rfl ?_;have he:k+cJ=n:=R;have Ym:l.take n=l:=List.take_of_length_le R;rw[he,Ym] at nx sL
    repeat apply ar
    have jK:m<=n:=R;refine W.fA (A:=[]) Φ [(0,.ms 0 n 0 n),(3,J m)] [.cells 3 1 ((ix l++List.replicate (n-m) 0).map J)] ?_ (by
     (try simp);(repeat (rw[Υ];simp[c3,jK]));(try simp[c3,jK]);rw[<-List.map_take,sL,List.drop_eq_nil_of_le (by simp;omega),List.append_nil])
    have OL:(ix l).length+(n-m)=n:=R;refine aR (Μ OL jK) ?_;refine W.ret ⟨_,rfl,List.replicate (n-m) 0,by simp;omega,?_,θ⟩;rw[<-nx];rfl
  ·refine aj (by simp[xS]) ?_;refine Ζ ?_;refine W.to (Β (k+1) ⟨R,R,?_⟩ R) (by rw[aG]) ?_
   ·rw[dO,if_neg xS,rF,<-γ,<-List.take_succ_eq_append_getElem jd]
   ·have:=fV (show k+1<2 ^ 62 by omega);simpa using this
 ·refine aj (by simp[ε]) ?_;refine W.exit rfl ?_;refine Ζ ?_;refine W.ret ⟨_,rfl,[],?_⟩;have e:ix l=l:=by rw[List.take_of_length_le R] at rF;exact rF
  rw[e,List.append_nil,Η];exact⟨rfl,rfl,rfl⟩
def uD:aI:=⟨[],[],[]⟩
theorem IJ {e f g:Bool} {a b c:Nat}:cW (.aV [.sl e a [],.sl f b [],.sl g c []]) (fs uD):=.aV (.cons .nil (.cons .nil (.cons .nil .nil)))
abbrev OM (r:aI×List Found×Int):η:=.bw [fs r.1,cX r.2.1,J r.2.2]
def fN (s:aI) (ca:Bool) (F:List Found):aI×List Found×Int:=
 if s.err≠0 then(uD,[],s.err) else if ca=true/\F=[] then(s,[],9) else(s,F,0)
def ot (s:aI) (cell:Int) (F:List Found):aI×List Found×Int:=
 if s.err≠0 then(uD,[],s.err) else if cell<0\/(s.cells.length:Int)<=cell then(uD,[],3) else fN s true F
def s7 (s:aI) (F:List Found):Prop:=s.err=0->aD Tryz.prog 116 [fs s] (cX F)
theorem EE (s:aI) (ν:s.small) (ca:Bool) (F:List Found) (gB:s7 s F):aD Tryz.prog 75 [fs s,bm ca] (OM (fN s ca F)):=by
 refine ao.body Φ Tryz.func75 rfl rfl Tryz.ntmps75 rfl rfl θ ?_
 repeat apply ar
 refine dG (A:=[4]) Φ λΕ ζ=>bT ?_;apply ζ;refine bN λΕ ζ=>?_;refine aD.d (IH s ν) (bT ?_);apply ζ;refine Ζ ?_;by_cases db:s.err=0
 case neg=>
  have e:fN s ca F=(uD,[],s.err):=by unfold fN;rw[if_pos db]
  rw[e];refine al (by simp[db]) ?_;refine Ζ ?_;refine W.fix (id:=0) (σ':=[]) (Nat.zero_le _) rfl θ θ rfl [(4,.ab [.sl true 0 [],.sl true 0 [],.sl true 0 []]),(5,.sl true 0 []),(6,J s.err)] θ ?_;refine W.rt ?_;exact .bw (.cons IJ (.cons .nil (.cons (.refl _) .nil)))
 refine aj (by simp[db]) ?_
 repeat apply ar
 refine dG (A:=[8]) Φ λΕ ζ=>bT ?_;apply ζ;refine bN λΕ ζ=>?_;refine aD.d (gB db) (bT ?_);apply ζ
 repeat apply ar
 cases ca
 case false=>
  have e:fN s false F=(s,F,0):=by unfold fN;rw[if_neg (by simpa using db),if_neg θ]
  rw[e];refine Ζ ?_;refine aj rfl ?_;refine Ζ ?_;refine W.fix (id:=0) (σ':=[]) (Nat.zero_le _) rfl θ θ rfl [(4,.ab [aS s.ag,aQ s.ak,bl s.cells]),(5,cX F),(6,J 0)] θ ?_;refine W.rt ?_;exact .refl _
 case true=>
  refine Ζ ?_;by_cases z:F=[]
  ·have e:fN s true F=(s,[],9):=by unfold fN;rw[if_neg (by simpa using db),if_pos ⟨rfl,z⟩]
   rw[e];refine al (by simp[z]) ?_;refine Ζ ?_;refine W.fix (id:=0) (σ':=[]) (Nat.zero_le _) rfl θ θ rfl [(4,.ab [aS s.ag,aQ s.ak,bl s.cells]),(5,.sl true 0 []),(6,J 9)] θ ?_;refine W.rt ?_;exact .bw (.cons (.refl _) (.cons .nil (.cons (.refl _) .nil)))
  ·have e:fN s true F=(s,F,0):=by unfold fN;rw[if_neg (by simpa using db),if_neg (by simp[z])]
   rw[e];refine aj (by simp[z]) ?_;refine Ζ ?_;refine W.fix (id:=0) (σ':=[]) (Nat.zero_le _) rfl θ θ rfl [(4,.ab [aS s.ag,aQ s.ak,bl s.cells]),(5,cX F),(6,J 0)] θ ?_;refine W.rt ?_;exact .refl _
theorem Yn (s:aI) (ν:s.small) (cell:Int) (F:List Found) (gB:s7 s F):aD Tryz.prog 82 [fs s,J cell] (OM (ot s cell F)):=by
 refine ao.body Φ Tryz.func82 rfl rfl Tryz.ntmps82 rfl rfl θ ?_
 repeat apply ar
 refine dG (A:=[4]) Φ λΕ ζ=>bT ?_;apply ζ;refine bN λΕ ζ=>?_;refine aD.d (IH s ν) (bT ?_);apply ζ;refine Ζ ?_;by_cases db:s.err=0
 case neg=>
  have e:ot s cell F=(uD,[],s.err):=by unfold ot;rw[if_pos db]
  rw[e];refine al (by simp[db]) ?_;refine Ζ ?_;refine W.fix (id:=0) (σ':=[]) (Nat.zero_le _) rfl θ θ rfl [(4,.ab [.sl true 0 [],.sl true 0 [],.sl true 0 []]),(5,.sl true 0 []),(6,J s.err)] θ ?_;refine W.rt ?_;exact .bw (.cons IJ (.cons .nil (.cons (.refl _) .nil)))
 refine aj (by simp[db]) ?_;have cD:ot s cell F=if cell<0\/(s.cells.length:Int)<=cell then(uD,[],3) else fN s true F:=by unfold ot;rw[if_neg (by simpa using db)]
 repeat apply ar
 refine W.sQ (A:=[]) Φ [(22,bm (decide (cell<0)||decide ((s.cells.length:Int)<=cell))),(2,.ab [aS s.ag,aQ s.ak,bl s.cells]),(4,.an 0 1 0 0),(1,J cell)] ?_ (by
  by_cases q:cell<0
  ·(try simp);(repeat (rw[Υ];simp[q]));(try simp[q])
  ·(try simp);(repeat (rw[Υ];simp[q]));(try simp[q]))
 by_cases bJ:cell<0\/(s.cells.length:Int)<=cell
 ·rw[cD,if_pos bJ];refine al (by simpa using bJ) ?_;refine Ζ ?_;refine W.fix (id:=0) (σ':=[]) (Nat.zero_le _) rfl θ θ rfl [(4,.ab [.sl true 0 [],.sl true 0 [],.sl true 0 []]),(5,.sl true 0 []),(6,J 3)] θ ?_;refine W.rt ?_;exact .bw (.cons IJ (.cons .nil (.cons (.refl _) .nil)))
 ·rw[cD,if_neg bJ];refine aj (by simpa using bJ) ?_;refine bN λΕ ζ=>?_;refine aD.d (EE s ν true F gB) (bT ?_);apply ζ;refine Ζ ?_;generalize fN s true F=r;refine W.fix (id:=0) (σ':=[]) (Nat.zero_le _) rfl θ θ rfl [(4,.ab [aS r.1.ag,aQ r.1.ak,bl r.1.cells]),(5,cX r.2.1),(6,J r.2.2)] θ ?_;refine W.rt ?_;exact .refl _
def lj (F:List Found):List (List Int):=F.map λf=>[f.u,f.v]
theorem ON {α β:Type} (f:α->β) (l:List α) {i:Nat} (h:i<l.length):(l.take (i+1)).map f=(l.take i).map f++[f l[i]]:=by
 rw[List.take_succ_eq_append_getElem h,List.map_append];rfl
theorem Yo (s:aI) (ν:s.small) (F:List Found) (gB:s7 s F) (Χ:F.length<2 ^ 20):aD Tryz.prog 42 [fs s] (.bw [aQ (if s.err=0 then lj F else []),J s.err]):=by
 refine ao.body Φ Tryz.func42 rfl rfl Tryz.ntmps42 rfl rfl θ ?_;refine Ζ ?_;refine x5 ?_;refine dG (A:=[4]) Φ λΕ ζ=>bT ?_;refine aD.d (EE s ν false F gB) (bT ?_);apply ζ;have e:fN s false F=if s.err=0 then(s,F,0) else(uD,[],s.err):=by
  unfold fN;by_cases b:s.err=0
  ·rw[if_neg (by simpa using b),if_neg θ,if_pos b]
  ·rw[if_pos b,if_neg b]
 have Δ:(fN s false F).2.1=if s.err=0 then F else []:=by rw[e];split<;>rfl
 have Γ:(fN s false F).2.2=s.err:=by rw[e];split<;>simp[*]
 obtain⟨G,c5⟩:∃G,G=if s.err=0 then F else []:=⟨_,rfl⟩
 have hH:G.length<2 ^ 20:=by rw[c5];split;exact Χ;simp
 have mB:(if s.err=0 then lj F else [])=lj G:=by rw[c5];split<;>rfl
 rw[Δ,Γ,mB,<-c5];clear c5 mB e Δ Γ;generalize s.err=gg;refine W.drop (h:=0) (σ':=[]) (Nat.zero_le _) (Nat.zero_le _) θ rfl [(5,cX G),(6,J gg)] θ ?_;refine Ζ ?_;have lμ:∀i,(lj G).take i=lj (G.take i):=λi=>by simp[lj]
 refine W.iter (λi:Nat=>i<=G.length) (λi=>[(6,J gg),(7,eu ((lj (G.take i)).map eS)),(16,cX G),(17,J G.length),(18,J i)])
  (λi=>bh 29 1 ((lj (G.take i)).map eS)) (λi=>G.length-i) 0 (Nat.zero_le _) rfl (by simp[ps,lj]) (λi hi Β=>?_)
 refine Ζ ?_;refine W.eM rfl (λε=>?_) (λε=>?_)
 ·have ε:i<G.length:=by simpa using ε
  have dO:(lj (G.take (i+1))).map eS=(lj (G.take i)).map eS++[eS [G[i].u,G[i].v]]:=by
   unfold lj;rw[List.map_map,List.map_map,ON _ _ ε];rfl
  have AB:=λh=>AA (t:=29) (k:=1) (h:=h) (OJ (L:=lj (G.take i)))
  have s8:((lj (G.take i)).map eS).length<=i:=by simp[lj];omega
  obtain⟨L,aG⟩:=aF ((lj (G.take i)).map eS);rw[<-aG] at AB s8 dO;refine W.to (σ':=bh 29 1 L) (env':=[(6,J gg),(7,eu L),(16,cX G),(17,J G.length),(18,J i)]) ?_ (by rw[aG]) (by rw[aG];simp)
  repeat apply ar
  refine dG (A:=[9]) Φ λΕ ζ=>gQ ε ?_;apply ζ;refine W.pt (Nat.zero_le _) (AB _) θ [(9,.ab [J G[i].u,J G[i].v,mR G[i].cells]),(6,J gg),(7,eu L),(16,cX G),(17,J G.length),(18,J i)] θ ?_
  repeat apply ar
  refine W.fA (A:=[26]) Φ [(6,J gg),(7,eu (L++[eS [G[i].u,G[i].v]])),(16,cX G),(17,J G.length),(18,J i)] (bh 29 1 (L++[eS [G[i].u,G[i].v]])) ?_ (by
   by_cases Θ:L=[]
   ·subst Θ;(try simp);(repeat (rw[Υ];simp[ps,iW]));(try simp[ps,iW]);exact⟨rfl,rfl⟩
   ·have kp:L.length<=4294967295:=by omega
    (try simp);(repeat (rw[Υ];simp[rJ Θ,ee Θ,yc,s6]));(try simp[rJ Θ,ee Θ,yc,s6]);exact kp)
  refine Ζ ?_;refine W.to (Β (i+1) ε R) ?_ ?_
  ·rw[dO]
  ·rw[dO];simp[fz ε (show G.length<2 ^ 62 by omega)]
 ·have ε:i=G.length:=by simp at ε;omega
  subst ε;refine W.exit rfl ?_;refine Ζ ?_;refine W.OI (d:=2) OJ [(3,J gg)] θ θ ?_;refine W.rt ?_;exact .bw (.cons .Yi (.cons (.refl _) .nil))
abbrev pv (l:List Int):List Int:=l.mergeSort (λx y=>decide (x<=y))
def IK (N:Nat):Prop:=∀(l:List Int),l.length<=N->ao Tryz.prog 132 [.ms 0 l.length 0 l.length] [.cells 3 1 (l.map J)] (λr s=>r=.bw []/\s=[.cells 3 1 ((pv l).map J)]) (λ_ _=>False)
def mV (lower:Bool) (r:Int×Int):Int:=if lower then r.2 else r.1
def ou (lower:Bool) (A:List Int) (C:List (Int×Int)) (j:Nat):List Int:=A++(C.take j).map (mV lower)
theorem OO {lower:Bool} {A:List Int} {C:List (Int×Int)}:ou lower A C 0=A:=by simp[ou]
theorem Yp {lower:Bool} {A:List Int} {C:List (Int×Int)} {j:Nat} (h:j<C.length):ou lower A C (j+1)=ou lower A C j++[mV lower C[j]]:=by
 unfold ou;rw[ON _ _ h,List.append_assoc]
theorem OP {lower:Bool} {A:List Int} {C:List (Int×Int)} {j:Nat} (h:C.length<=j):ou lower A C j=A++C.map (mV lower):=by
 unfold ou;rw[List.take_of_length_le h]
theorem Yq {lower:Bool} {A:List Int} {C:List (Int×Int)} {j:Nat}:(ou lower A C j).length<=A.length+j:=by
 unfold ou;simp;omega
def OQ (f:Found) (cell:Nat) (lower:Bool):List Int:=((f.cells[cell]?).getD []).map (mV lower)
def kq (F:List Found) (cell:Nat) (lower:Bool):List Int:=F.flatMap λf=>OQ f cell lower
def qw (F:List Found) (cell:Nat) (lower:Bool):List Int:=ix (pv (kq F cell lower))
theorem IL {l:List Int}:∀e∈l.map J,∀a∈e.cells,ay 0 a:=by
 intro e he a μ;obtain⟨x,_,rfl⟩:=List.mem_map.1 he;simp[η.cells] at μ;subst μ;simp
theorem Yr (F:List Found) (cell:Nat) (lower:Bool) (gB:F.length<2 ^ 20) (gW:∀f∈F,cell<f.cells.length/\∀c∈f.cells,c.length<2 ^ 20) (N:Nat) (cl:N<2 ^ 20) (ff:IK N) (bA:kq F cell lower≠[]) (hle:(kq F cell lower).length<=N) :
  aD Tryz.prog 95 [cX F,J cell,bm lower] (a2 J 1 (qw F cell lower)):=by
 refine ao.body Φ Tryz.func95 rfl rfl Tryz.ntmps95 rfl rfl θ ?_;refine Ζ ?_;refine W.iter (λi:Nat=>i<=F.length) (λi=>[(1,J cell),(2,bm lower),(7,eu ((kq (F.take i) cell lower).map J)),(12,cX F),(13,J F.length),(14,J i)])
  (λi=>bh 3 1 ((kq (F.take i) cell lower).map J)) (λi=>F.length-i) 0 (Nat.zero_le _) rfl (by simp[kq,ps]) (λi hi Β=>?_)
 refine Ζ ?_;have Ys:∀i,(kq (F.take i) cell lower).length<=N:=λi=>by
  have e:kq F cell lower=kq (F.take i) cell lower++kq (F.drop i) cell lower:=by
   conv=>lhs;rw[<-List.take_append_drop i F]
   simp only[kq,List.flatMap_append]
  rw[e,List.length_append] at hle;omega
 refine W.eM rfl (λε=>?_) (λε=>?_)
 ·have ba:i<F.length:=by simpa using ε
  obtain⟨bX,ji⟩:=gW _ (List.getElem_mem ba);have hC:F[i].cells[cell].length<2 ^ 20:=ji _ (List.getElem_mem bX);obtain⟨A,bW⟩:=aF (kq (F.take i) cell lower);have dO:kq (F.take (i+1)) cell lower=A++F[i].cells[cell].map (mV lower):=by
   rw[bW];unfold kq;rw[List.take_succ_eq_append_getElem ba,List.flatMap_append];simp[OQ,bX]
  have OR:(A++F[i].cells[cell].map (mV lower)).length<=N:=by rw[<-dO];exact Ys _
  rw[List.length_append,List.length_map] at OR;refine W.to (σ':=bh 3 1 (A.map J)) (env':=[(1,J cell),(2,bm lower),(7,eu (A.map J)),(12,cX F),(13,J F.length),(14,J i)]) ?_ (by rw[bW]) (by rw[bW];simp)
  repeat apply ar
  refine dG (A:=[9]) Φ λΕ ζ=>gQ ba ?_;apply ζ;refine W.pt (Nat.zero_le _) (AA IL) θ [(9,.ab [J F[i].u,J F[i].v,mR F[i].cells]),(1,J cell),(2,bm lower),(7,eu (A.map J)),(12,cX F),(13,J F.length),(14,J i)] θ ?_;refine aR bX ?_;generalize lν:F[i].cells[cell]=C at hC dO OR;refine W.iter (λj:Nat=>j<=C.length) (λj=>[(1,J cell),(2,bm lower),(7,eu ((ou lower A C j).map J)),(12,cX F),(13,J F.length),(14,J i),(22,mQ C),(23,J C.length),(24,J j)])
   (λj=>bh 3 1 ((ou lower A C j).map J)) (λj=>C.length-j) 0 (Nat.zero_le _) (by rw[OO]) (by simp[OO]) (λj δ gk=>?_)
  refine Ζ ?_;refine W.eM rfl (λa8=>?_) (λa8=>?_)
  ·have bn:j<C.length:=by simpa using a8
   obtain⟨L,aG⟩:=aF (ou lower A C j);have mW:L.length<=A.length+j:=by rw[aG];exact Yq
   have AD:ou lower A C (j+1)=L++[mV lower C[j]]:=by rw[aG];exact Yp bn
   refine W.to (σ':=bh 3 1 (L.map J)) (env':=[(1,J cell),(2,bm lower),(7,eu (L.map J)),(12,cX F),(13,J F.length),(14,J i),(22,mQ C),(23,J C.length),(24,J j)]) ?_ (by rw[aG]) (by rw[aG];simp)
   repeat apply ar
   refine dG (A:=[11]) Φ λΕ ζ=>gQ bn ?_;apply ζ;refine W.pt (Nat.zero_le _) (AA IL) θ [(11,.ab [J C[j].1,J C[j].2]),(1,J cell),(2,bm lower),(7,eu (L.map J)),(12,cX F),(13,J F.length),(14,J i),(22,mQ C),(23,J C.length),(24,J j)] θ ?_
   repeat apply ar
   generalize C[j]=r at AD;refine W.fA (A:=[34]) Φ [(1,J cell),(2,bm lower),(7,eu ((L++[mV lower r]).map J)),(12,cX F),(13,J F.length),(14,J i),(22,mQ C),(23,J C.length),(24,J j)] (bh 3 1 ((L++[mV lower r]).map J)) ?_ (by
    have kp:L.length<=4294967295:=R;rw[List.map_append];cases lower
    all_goals
     by_cases Θ:L.map J=[]
     ·rw[Θ,ps,iW];(try simp);(repeat (rw[Υ];simp[]));(try simp[]);refine aD.d (IB _) (bT ?_);simp[bh,eu,mV]
     ·rw[rJ Θ,ee Θ];(try simp);(repeat (rw[Υ];simp[]));(try simp[]);refine aD.d (IB _) (bT ?_);simp[s6,yc,mV,kp])
   refine Ζ ?_;refine W.to (gk (j+1) bn R) ?_ ?_
   ·rw[AD,List.map_append];rfl
   ·rw[AD];simp[fz bn (show C.length<2 ^ 62 by omega)]
  ·have bn:C.length<=j:=by simpa using a8
   refine W.exit rfl ?_;refine Ζ ?_;refine W.to (Β (i+1) ba R) ?_ ?_
   ·rw[dO,OP bn]
   ·rw[dO,OP bn];simp[fz ba (show F.length<2 ^ 62 by omega)]
 ·have ba:i=F.length:=by simp at ε;omega
  refine W.exit rfl ?_;rw[ba,List.take_length];obtain⟨M,dm⟩:=aF (kq F cell lower);rw[<-dm] at bA hle ⊢;have EF:M.map J≠[]:=by simpa using bA
  have k8:qw F cell lower=ix (pv M):=by rw[dm];rfl
  have rK:(pv M).length=M.length:=by simp[pv]
  refine W.to (σ':=[.cells 3 1 (M.map J)]) (env':=[(7,.ms 0 M.length 0 M.length)]) ?_ (ee EF) (by simp[rJ EF]);refine bN λΕ ζ=>?_;refine ao.one (ff M hle) 0 rfl (wv uy) (wv uy) (by simp[og]) (by simp[gj]) (by simp[oh]) ?_;simp[ed,h4];(repeat (rw[Υ];simp[]));apply ζ;refine bN λΕ ζ=>?_;have Yt:=Yk (pv M) M.length rK R;refine ao.ID Yt 0 rfl (wv uy) (by simp[og]) (by simp[oh]) (λa s ⟨tail,I,U,ξ⟩=>⟨_,ξ,wv uy,by subst U;simp[og],?_⟩);subst U;simp[oh];(repeat (rw[Υ];simp[]));apply ζ;refine W.cut 0 (Nat.zero_le _) [(6,a2 J 1 (ix (pv M)))] θ θ ?_ ?_
  ·intro p ψ;simp at ψ;subst ψ;have ψ:=eD.part (σ:=[.cells 3 1 ((ix (pv M)).map J++tail.map J)]) (id:=0) (t:=3) (k:=1) (l:=(ix (pv M)).map J) (l2:=tail.map J) (m:=(ix (pv M)).length) rfl θ IL;have e:((ix (pv M)).map J++tail.map J).length=M.length:=by rw[<-List.map_append,List.length_map];exact I
   rw[e] at ψ;exact ψ
  ·rw[k8];refine W.rt ?_;exact .refl _
abbrev jW (n:Int):η:=.z (.int .i32 n)
theorem Yu (l:List Int):sN (l.map jW)=some l:=by
 induction l with
 | nil=>rfl
 | cons a l Β=>simp[sN,Β]
def uE (s:aI) (F:List Found) (lower:Bool) (e2:ByteArray->Int) (c:Nat):Int:=
 let l:=qw F c lower
 if 1<l.length then 63 else if l.headD 0<0 then 45 else match s.ag[(l.headD 0).toNat]? with|some g=>e2 g.name|none=>0
def pw (s:aI) (F:List Found) (lower:Bool) (e2:ByteArray->Int) (c:Nat):List Int:=(List.range c).map (uE s F lower e2)
def uF (s:aI) (F:List Found) (lower:Bool) (e2:ByteArray->Int):ByteArray×Int:=
 if(fN s true F).2.2=0 then(spell (pw s F lower e2 s.cells.length),0) else(⟨#[]⟩,(fN s true F).2.2)
structure OS (s:aI) (F:List Found) (lower:Bool) (e2:ByteArray->Int) (N:Nat):Prop where
 qx:F.length<2 ^ 20
 cells:∀f∈F,f.cells.length=s.cells.length/\∀c∈f.cells,c.length<2 ^ 20
 some:∀c,c<s.cells.length->kq F c lower≠[]/\(kq F c lower).length<=N/\qw F c lower≠[]/\(qw F c lower).length<2 ^ 30/\∀x∈qw F c lower,x<s.ag.length
 name:∀g∈s.ag,(Conv.runesFrom g.name g.name.size 0 #[])[0]?=Option.some (.int .i32 (e2 g.name))
theorem Yv (s:aI) (ν:s.small) (F:List Found) (gB:s7 s F) (lower:Bool) (e2:ByteArray->Int) (N:Nat) (cl:N<2 ^ 20) (ff:IK N) (aG:OS s F lower e2 N) :
  aD Tryz.prog 40 [fs s,bm lower] (.bw [nE (uF s F lower e2).1,J (uF s F lower e2).2]):=by
 refine ao.body Φ Tryz.func40 rfl rfl Tryz.ntmps40 rfl rfl θ ?_;refine Ζ ?_;refine x5 ?_;refine dG (A:=[6]) Φ λΕ ζ=>bT ?_;refine aD.d (EE s ν true F gB) (bT ?_);apply ζ;by_cases b:(fN s true F).2.2=0
 case neg=>
  have e:uF s F lower e2=(⟨#[]⟩,(fN s true F).2.2):=by unfold uF;rw[if_neg b]
  rw[e];generalize (fN s true F).2.2=gg at b;refine Ζ ?_;refine al (by simp[b]) ?_;refine Ζ ?_;refine W.drop (h:=0) (σ':=[]) (Nat.zero_le _) (Nat.zero_le _) θ rfl [(4,nE ⟨#[]⟩),(5,J gg)] θ ?_;refine W.rt ?_;exact .refl _
 have e:fN s true F=(s,F,0):=by
  unfold fN at b ⊢;split at b
  ·rename_i h;simp at b;exact absurd b h
  ·split at b
   ·simp at b
   ·rename_i I U;rw[if_neg I,if_neg U]
 have Γ:uF s F lower e2=(spell (pw s F lower e2 s.cells.length),0):=by unfold uF;rw[if_pos b]
 rw[Γ,e];refine W.fix (id:=0) (σ':=[]) (Nat.zero_le _) rfl θ θ rfl [(1,bm lower),(6,.ab [aS s.ag,aQ s.ak,bl s.cells]),(7,cX F),(8,J 0)] θ ?_;refine Ζ ?_;refine aj rfl ?_;refine Ζ ?_;have gW:s.cells.length<2 ^ 30:=ν.2.2.1;refine W.iter (λc:Nat=>c<=s.cells.length) (λc=>[(1,bm lower),(6,.ab [aS s.ag,aQ s.ak,bl s.cells]),(7,cX F),(9,eu ((pw s F lower e2 c).map jW)),(25,J s.cells.length),(26,J c)])
  (λc=>bh 21 1 ((pw s F lower e2 c).map jW)) (λc=>s.cells.length-c) 0 (Nat.zero_le _) rfl (by simp[pw,ps]) (λc jM Β=>?_)
 refine Ζ ?_;refine W.eM rfl (λε=>?_) (λε=>?_)
 ·have a8:c<s.cells.length:=by simpa using ε
  obtain⟨I,U,ξ,Κ,aE⟩:=aG.some c a8;obtain⟨ah,bc⟩:=aF (pw s F lower e2 c);have uG:ah.length=c:=by rw[bc];simp[pw]
  have dO:pw s F lower e2 (c+1)=ah++[uE s F lower e2 c]:=by rw[bc];unfold pw;rw[List.range_succ,List.map_append];rfl
  refine W.to (σ':=bh 21 1 (ah.map jW)) (env':=[(1,bm lower),(6,.ab [aS s.ag,aQ s.ak,bl s.cells]),(7,cX F),(9,eu (ah.map jW)),(25,J s.cells.length),(26,J c)]) ?_ (by rw[bc]) (by rw[bc];simp);refine Ζ ?_;refine bN λΕ ζ=>?_;refine aD.d (Yr F c lower aG.qx (λf Χ=>⟨by rw[(aG.cells f Χ).1];exact a8,(aG.cells f Χ).2⟩) N cl ff I U) (bT ?_);apply ζ;have kp:ah.length<=4294967295:=R;obtain⟨l,υ⟩:=aF (qw F c lower);have ov:uE s F lower e2 c=if 1<l.length then 63 else if l.headD 0<0 then 45 else match s.ag[(l.headD 0).toNat]? with|some g=>e2 g.name|none=>0:=by rw[υ];rfl
  rw[<-υ] at ξ Κ aE ⊢;clear υ bc;refine Ζ ?_;by_cases q:1<l.length
  ·have κ:uE s F lower e2 c=63:=by rw[ov,if_pos q]
   refine al (by simp;omega) ?_
   repeat apply ar
   refine W.fA (A:=[57]) Φ [(1,bm lower),(6,.ab [aS s.ag,aQ s.ak,bl s.cells]),(7,cX F),(9,eu ((ah++[63]).map jW)),(25,J s.cells.length),(26,J c)] (bh 21 1 ((ah++[63]).map jW)) ?_ (by
    rw[List.map_append];by_cases Θ:ah.map jW=[]
    ·rw[Θ,ps,iW];(try simp);(repeat (rw[Υ];simp[]));(try simp[]);simp[bh,eu]
    ·rw[rJ Θ,ee Θ];(try simp);(repeat (rw[Υ];simp[]));(try simp[]);simp[s6,yc,kp])
   refine Ζ ?_;refine W.to (Β (c+1) a8 R) ?_ ?_
   ·simp only[dO,κ,List.map_append,List.map_cons,List.map_nil]
   ·rw[dO,κ];simp[fz a8 (show s.cells.length<2 ^ 62 by omega)]
  ·obtain⟨x,γ⟩:∃x,l=[x]:=by
    match l,ξ,q with
    | [x],_,_=>exact⟨x,rfl⟩
    | x::y::z,_,q=>simp at q
   subst γ;refine aj θ ?_;refine Ζ ?_;by_cases g:x<0
   ·have κ:uE s F lower e2 c=45:=by rw[ov];simp[g]
    refine al (by simp[g]) ?_;refine Ζ ?_;refine W.fA (A:=[57]) Φ [(1,bm lower),(6,.ab [aS s.ag,aQ s.ak,bl s.cells]),(7,cX F),(9,eu ((ah++[45]).map jW)),(25,J s.cells.length),(26,J c)] (bh 21 1 ((ah++[45]).map jW)) ?_ (by
     rw[List.map_append];by_cases Θ:ah.map jW=[]
     ·rw[Θ,ps,iW];(try simp);(repeat (rw[Υ];simp[]));(try simp[]);simp[bh,eu]
     ·rw[rJ Θ,ee Θ];(try simp);(repeat (rw[Υ];simp[]));(try simp[]);simp[s6,yc,kp])
    refine Ζ ?_;refine W.to (Β (c+1) a8 R) ?_ ?_
    ·simp only[dO,κ,List.map_append,List.map_cons,List.map_nil]
    ·rw[dO,κ];simp[fz a8 (show s.cells.length<2 ^ 62 by omega)]
   ·obtain⟨k,rfl⟩:∃k:Nat,x=k:=⟨x.toNat,R⟩;have ς:k<s.ag.length:=by have:=aE (k:Int) θ;omega
    have κ:uE s F lower e2 c=e2 s.ag[k].name:=by rw[ov];simp[g,ς]
    have k9:=aG.name _ (List.getElem_mem ς)
    have AE:∀h:0<(Conv.runesFrom s.ag[k].name s.ag[k].name.size 0 #[]).size,(Conv.runesFrom s.ag[k].name s.ag[k].name.size 0 #[])[0]'h=.int .i32 (e2 s.ag[k].name):=λh=>by
     rw[fh h] at k9;exact Option.some.inj k9
    have EG:0<(Conv.runesFrom s.ag[k].name s.ag[k].name.size 0 #[]).size:=(Array.getElem?_eq_some_iff.1 k9).1;refine aj θ ?_;refine gx (Μ ς (Μ k9 EG)) ?_
    repeat apply ar
    refine W.forget [(1,bm lower),(6,.ab [aS s.ag,aQ s.ak,bl s.cells]),(7,cX F),(9,eu (ah.map jW)),(11,jW (e2 s.ag[k].name)),(25,J s.cells.length),(26,J c)] (by simp[AE EG]) ?_;refine W.fA (A:=[57]) Φ [(1,bm lower),(6,.ab [aS s.ag,aQ s.ak,bl s.cells]),(7,cX F),(9,eu ((ah++[(e2 s.ag[k].name)]).map jW)),(25,J s.cells.length),(26,J c)] (bh 21 1 ((ah++[(e2 s.ag[k].name)]).map jW)) ?_ (by
     rw[List.map_append];by_cases Θ:ah.map jW=[]
     ·rw[Θ,ps,iW];(try simp);(repeat (rw[Υ];simp[]));(try simp[]);simp[bh,eu]
     ·rw[rJ Θ,ee Θ];(try simp);(repeat (rw[Υ];simp[]));(try simp[]);simp[s6,yc,kp])
    refine Ζ ?_;refine W.to (Β (c+1) a8 R) ?_ ?_
    ·simp only[dO,κ,List.map_append,List.map_cons,List.map_nil]
    ·rw[dO,κ];simp[fz a8 (show s.cells.length<2 ^ 62 by omega)]
 ·have ε:c=s.cells.length:=by simp at ε;omega
  subst ε;refine W.exit rfl ?_;refine Ζ ?_;obtain⟨ah,bc⟩:=aF (pw s F lower e2 s.cells.length);rw[<-bc];refine W.to (σ':=bh 21 1 (ah.map jW)) (env':=[(9,eu (ah.map jW))]) ?_ rfl θ;by_cases Θ:ah.map jW=[]
  ·have kW:ah=[]:=by simpa using Θ
   rw[Θ,ps,iW,kW];have hm:sN []=some []:=rfl;refine h5 hm λΕ ζ=>?_;apply ζ;refine W.rt ?_;exact .refl _
  ·have hm:sN (List.take ah.length (ah.map jW))=some ah:=by
    rw[List.take_of_length_le θ];exact Yu ah
   rw[rJ Θ,ee Θ];refine h5 hm λΕ ζ=>?_;apply ζ;refine W.drop (h:=0) (σ':=[]) (Nat.zero_le _) (Nat.zero_le _) θ rfl [(4,nE (spell ah)),(5,J 0)] θ ?_;refine W.rt ?_;exact .refl _
theorem OT {α:Type} [Inhabited α] {lt:α->α->Bool} (ν:Go.Sort.SWO lt) (μ:∀x y,lt x y=false->lt y x=false->x=y) (l:List α):(Go.Sort.insertionSort lt l.toArray 0 l.length).toList=l.mergeSort (λx y=>!lt y x):=by
 obtain⟨I,U⟩:=Go.Sort.insertionSort_holds (lt:=lt) ν l.toArray 0 l.length (Nat.zero_le _) θ;exact Go.Sort.sorted_unique_holds (lt:=lt) ν μ l.toArray _ (by simpa using I) (by simpa using U)
theorem Yw (x y:Int) (h:Go.Sort.ltInt x y=false) (k:Go.Sort.ltInt y x=false):x=y:=by
 simp[Go.Sort.ltInt] at h k;omega
theorem Yx:IK 12:=λl υ=>by
 have h:=X1 l.toArray l.length θ υ;rw[OT Go.Sort.swo_ltInt Yw l] at h;have e:(λx y:Int=>!Go.Sort.ltInt y x)=λx y=>decide (x<=y):=by
  funext x y;rw[Bool.eq_iff_iff];simp[Go.Sort.ltInt]
 rw[e] at h;exact h
theorem s9 (x y:Int×Int):az nG x y=decide (x.1<y.1\/(x.1=y.1/\x.2<y.2)):=by
 unfold az nG;simp only[pk,pj];by_cases I:x.1<y.1
 ·simp[I]
 ·by_cases U:y.1<x.1
  ·have:¬x.1=y.1:=by omega
   simp[I,U,this]
  ·have ξ:x.1=y.1:=by omega
   by_cases Κ:x.2<y.2
   ·simp[ξ,Κ]
   ·by_cases aE:y.2<x.2
    ·simp[ξ,Κ,aE]
    ·simp[ξ,Κ,aE]
theorem yd:Go.Sort.SWO (az nG) where
 irrefl x:=by rw[s9];simp
 trans x y z h k:=by
  rw[s9] at *;simp at *;omega
 ntrans x y z h k:=by
  rw[s9] at *;simp at *;omega
theorem OU (x y:Int×Int) (h:az nG x y=false) (k:az nG y x=false):x=y:=by
 rw[s9] at *;simp at h k;apply Prod.ext<;>omega
abbrev lk (x y:Int×Int):Bool:=!az nG y x
theorem Yy {l m:List (Int×Int)} (ψ:l.Perm m) (hm:m.Pairwise λx y=>x.1<y.1\/(x.1=y.1/\x.2<y.2)):l.mergeSort lk=m:=by
 have IM:∀a b c:Int×Int,lk a b=true->lk b c=true->lk a c=true:=λa b c h k=>by
  simp only[lk,s9] at *;simp at *;omega
 have IN:∀a b:Int×Int,(lk a b||lk b a)=true:=λa b=>by
  simp only[lk,s9];simp;omega
 have s1:=List.pairwise_mergeSort (le:=lk) IM IN l
 have dL:(l.mergeSort lk).Perm m:=(List.mergeSort_perm l lk).trans ψ;refine List.Perm.eq_of_pairwise (le:=λa b=>lk a b=true) (λa b _ _ h k=>?_) s1 (hm.imp λ{a b} h=>?_) dL
 ·simp only[lk,s9] at h k;simp at h k;apply Prod.ext<;>omega
 ·simp only[lk,s9];simp;omega
theorem Yz (au:η) (b3:ay 0 au):aD Tryz.prog 234 [.sl true 0 [],J 0,J 0,au] (.bw []):=by
 refine ao.body Φ Tryz.func234 rfl rfl Tryz.ntmps234 rfl rfl θ ?_;refine Ζ ?_;refine .loop ?_;refine Ζ ?_;refine aj rfl ?_;refine W.exit rfl ?_;exact W.nil ⟨_,rfl,cW.refl _,rfl⟩
theorem YA (lim:Nat) (au:η) (b3:ay 0 au):aD Tryz.prog 211 [.sl true 0 [],J 0,J 0,J lim,au] (.bw []):=by
 refine ao.body Φ Tryz.func211 rfl rfl Tryz.ntmps211 rfl rfl θ ?_;refine Ζ ?_;refine .loop ?_;refine Ζ ?_;refine al rfl ?_;refine bN λΕ ζ=>?_;refine aD.c (Yz au b3) (bS.refl _) (by simp[b3]) θ ?_;simp;(repeat (rw[Υ];simp[]));apply ζ;exact W.ret ⟨_,rfl,cW.refl _,rfl⟩
theorem YB (au:η) (b3:ay 0 au):aD Tryz.prog 173 [.sl true 0 [],au] (.bw []):=by
 refine ao.body Φ Tryz.func173 rfl rfl Tryz.ntmps173 rfl rfl θ ?_;have Γ:IntKind.u64.wrap (0:Int)=0:=bD;refine Ζ ?_;(repeat apply ar);refine bC λΕ ζ=>?_;simp;(repeat (rw[Υ];simp[Γ]));refine aD.d (wx 0 R) (bT ?_);refine aD.c (YA (Go.Sort.bitsLen 0) au b3) (bS.refl _) (by simp[b3]) θ ?_;simp;(repeat (rw[Υ];simp[]));apply ζ;exact W.nil ⟨_,rfl,cW.refl _,rfl⟩
theorem YC (au:η) (b3:ay 0 au):aD Tryz.prog 217 [.sl true 0 [],J 0,J 0,au] (.bw []):=by
 refine ao.body Φ Tryz.func217 rfl rfl Tryz.ntmps217 rfl rfl θ ?_;refine Ζ ?_;refine .loop ?_;refine Ζ ?_;refine aj rfl ?_;refine W.exit rfl ?_;exact W.nil ⟨_,rfl,cW.refl _,rfl⟩
theorem YD (lim:Nat) (au:η) (b3:ay 0 au):aD Tryz.prog 182 [.sl true 0 [],J 0,J 0,J lim,au] (.bw []):=by
 refine ao.body Φ Tryz.func182 rfl rfl Tryz.ntmps182 rfl rfl θ ?_;refine Ζ ?_;refine .loop ?_;refine Ζ ?_;refine al rfl ?_;refine bN λΕ ζ=>?_;refine aD.c (YC au b3) (bS.refl _) (by simp[b3]) θ ?_;simp;(repeat (rw[Υ];simp[]));apply ζ;exact W.ret ⟨_,rfl,cW.refl _,rfl⟩
theorem YE (au:η) (b3:ay 0 au):aD Tryz.prog 147 [.sl true 0 [],au] (.bw []):=by
 refine ao.body Φ Tryz.func147 rfl rfl Tryz.ntmps147 rfl rfl θ ?_;have Γ:IntKind.u64.wrap (0:Int)=0:=bD;refine Ζ ?_;(repeat apply ar);refine bC λΕ ζ=>?_;simp;(repeat (rw[Υ];simp[Γ]));refine aD.d (wx 0 R) (bT ?_);refine aD.c (YD (Go.Sort.bitsLen 0) au b3) (bS.refl _) (by simp[b3]) θ ?_;simp;(repeat (rw[Υ];simp[]));apply ζ;exact W.nil ⟨_,rfl,cW.refl _,rfl⟩
end Go.TL
