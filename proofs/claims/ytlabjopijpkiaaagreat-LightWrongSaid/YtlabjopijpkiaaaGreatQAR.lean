import Derived.Test.YtlabjopijpkiaaaGreatQAL
import Derived.Test.YtlabjopijpkiaaaGreatQAN
import Derived.Test.YtlabjopijpkiaaaGreatQAP
import Derived.Test.YtlabjopijpkiaaaGreatQAQ
set_option maxHeartbeats 16000000
set_option maxRecDepth 20000
set_option linter.unusedSectionVars false
set_option linter.unusedSimpArgs false
set_option linter.unusedVariables false
namespace Go.TL
open Go.Conc
variable [bn]
structure Base where
 S:aC
 B:aP
 H:ψ
 σ:List Row
 m:Nat
def V (P:Program) (Q:Value->Prop) (mn:Bool) (x:gL) (b:Frame) (cs:List Frame) (nt:Nat) (o:Base) (k:List Item) (env:Ω) (σ:List Row):Prop:=
 ∀(S:aC) (B:aP) (H:ψ) (t:Array Value),eJ o.m o.S o.B o.H o.σ S B H σ->ff o.m nt S B H σ env t->aE P Q mn x (au b t k) cs H
def WR (P:Program) (Q:Value->Prop) (mn:Bool) (x:gL) (b:Frame) (cs:List Frame) (o:Base) (a:θ) (env:Ω) (σ:List Row):Prop:=
 ∀(S:aC) (B:aP) (H:ψ) (t:Array Value) (k:List Item) (v:Value),eJ o.m o.S o.B o.H o.σ S B H σ->Holds S B σ H->cY S B σ env t->ar S B σ a v->aE P Q mn x {au b t k with mode:=.panicking [{v,recovered:=false}]} cs H
structure v5 (P:Program) (d:Deferred) (g:FuncId) (vs:Array Value):Prop where
 t1:∀r,d.target≠.collected r
 t2:d.target≠.nil
 run:∀w,(invoke d.target d.args).runT P w #[]=(.ok (.enter g vs) w,#[])
section
variable {P:Program} {T:bd} {A:List Nat} {Q:Value->Prop} {mn:Bool} {x:gL} {b:Frame} {cs:List Frame} {m nt:Nat} {o:Base} {k:List Item} {env:Ω} {σ:List Row} {S ay:aC} {B B':aP} {H H':ψ} {σ':List Row} {t:Array Value} {Z:List Item->Ω->List Row->Prop} {E:θ->Ω->List Row->Prop}
theorem V.a' (U:Seq x) (hb:b.mode=.run) (h:W P o.m nt k env σ (V P Q mn x b cs nt o) (WR P Q mn x b cs o)):V P Q mn x b cs nt o k env σ:=
 λS B H t ν ω=>h Q mn x cs b S B H t U hb ω (λj env' σ' ay B' H' t' ab Η eh hU Α=>by
  have e:ab=j:=Α;subst e;exact Η ay B' H' t' (ν.trans eh) hU) (λa env' σ' ay B' H' t' ab v he eh Β ο μ=>he ay B' H' t' ab v (ν.trans eh) Β ο μ)
theorem V.here (h:V P Q mn x b cs nt ⟨S,B,H,σ,m⟩ k env σ) (ω:ff m nt S B H σ env t):aE P Q mn x (au b t k) cs H:=h S B H t .refl ω
theorem W.cl {id:Nat} {ops:Array Oper} (h:W P m nt (.inRegion ops (idx ops.size [])::k) env σ Z E):W P m nt (.code (.region id ops false)::k) env σ Z E:=
 λQ mn x cs b S B H t U hb ω Η he=>.region U hb (by rw[<-idx_eq];exact h Q mn x cs b S B H t U hb ω Η he)
theorem W.part (Θ:bT P T) (is nY:List Nat) {ops:Array Oper} {l:List Nat} (Α:l=is++nY) (h:∀η:Ω->List Row->Prop,(∀env σ,W P m nt (.inRegion ops nY::k) env σ Z E->η env σ)->run P T A nt ops is env σ η E):W P m nt (.inRegion ops l::k) env σ Z E:=
 Α▸HG Θ nY is env σ (h _ λ_ _ h=>h)
theorem Ib (ο:cY S B σ env t) (args:Array Operand):fg S B σ (args.toList.map (aO env)) (args.map (br t)):=by
 refine⟨by simp,λi a v J γ=>?_⟩;rw[List.getElem?_map,Array.getElem?_toList] at J;rw[Array.getElem?_map] at γ;cases U:args[i]? with
 | none=>rw[U] at J;cases J
 | some y=>rw[U] at J γ;cases J;cases γ;exact lz ο y
theorem Plain.enter {g:FuncId} (h:Plain P g) (vs:Array Value) (w:World):(callFunc g vs).runT P w #[]=(.ok (.enter g vs) w,#[]):=by
 obtain⟨fn,J,γ,π⟩:=h;unfold callFunc;show Sem.runT P (Sem.bind program λp=>_) w #[]=_;simp only[program,Sem.bind];show Sem.runT P (match P.funcs[g]? with|none=>_|some fn=>_) w #[]=_;rw[J];simp only[γ,π,Bool.false_eq_true,if_false];rfl
theorem ff.put {op:Oper} {a:θ} {v:Value} (ω:ff m nt S B H σ env t) (hd:h2 nt op=true) (ν:ar S B σ a v):ff m nt S B H σ (ca op env a) (put op t v):=
 ⟨ω.holds,(q3 ω.b6 hd ω.size ν).1,(q3 ω.b6 hd ω.size ν).2,ω.rows⟩
theorem eJ.all (h:eJ m S B H σ ay B' H' σ') (Β:Holds S B σ H) (hm:σ.length<=m):bZ S ay B B' σ σ':=by
 have:=h.later
 rwa [List.take_of_length_le (by rw[Β.len];exact hm),List.take_of_length_le hm] at this
theorem V.defer (U:Seq x) (hb:b.mode=.run) (cf:b.roundOf=none) {ops:Array Oper} {i:Nat} {rest:List Nat} {op:Oper} (Γ:ops[i]?=some op) (hw:fA env ops op=some true) (q4:op.dst=none) {f:Operand} {args:Array Operand} {dW:Array TypeId} (Ν:op.op=.defer ⟨.value f,args,dW⟩)
  {g:FuncId} {first captured:List θ} (Τ:aO env f=.fn (.func g) first captured) (Υ:Plain P g)
  (h:∀(S:aC) (B:aP) (H:ψ) (t:Array Value) (d:Deferred) (vs:Array Value),eJ o.m o.S o.B o.H o.σ S B H σ->ff o.m nt S B H σ env t->fg S B σ (first++args.toList.map (aO env)++captured) vs->v5 P d g vs->
   aE P Q mn x (au {b with defers:=d::b.defers} t (.inRegion ops rest::k)) cs H):V P Q mn x b cs nt o (.inRegion ops (i::rest)::k) env σ:=by
 intro S B H t ν ω;refine .op U hb Γ (jX ω.b6 hw) (.inl cf) ?_;have bR:=lz ω.b6 f;rw[Τ] at bR;have mq:=Ib ω.b6 args;have e:execOp (br t) op=(do pure (.defer (<-Deferred.ofValue (br t f) (args.map (br t))))):=by unfold execOp;rw[Ν];rfl
 rw[e];generalize br t f=an at bR;cases bR with
 | fn v1 v2 J γ π Μ=>
  refine υ.bind' (υ.pure' (υ.pure' ?_));have NH:put op t undef=t:=by unfold put;rw[q4]
  simp only[Mh,NH];have r1:fg S B σ first v1:=⟨J,π⟩
  have r2:fg S B σ captured v2:=⟨γ,Μ⟩;exact h S B H t ⟨.fn (.func g) v2,v1++args.map (br t)⟩ (v1++args.map (br t)++v2) ν ω ((r1.append mq).append r2) ⟨λ_ h=>(by cases h),λh=>(by cases h),λw=>Υ.enter _ w⟩
theorem aE.recovered (U:Seq x) (hb:b.mode=.run) (cf:b.roundOf=none) {ops:Array Oper} {i:Nat} {rest:List Nat} {op:Oper} (Γ:ops[i]?=some op) (Υ:op.guard=none) {dW:Array TypeId} (Ν:op.op=.call ⟨.builtin .recover,#[],dW⟩) {v:Value} {cs':List Frame}
  (μ:(tryRecover (au b t (.inRegion ops (i::rest)::k)) cs=some (v,cs'))\/(tryRecover (au b t (.inRegion ops (i::rest)::k)) cs=none/\v=.nilIface/\cs'=cs))
  (h:aE P Q mn x (au b (put op t v) (.inRegion ops rest::k)) cs' H):aE P Q mn x (au b t (.inRegion ops (i::rest)::k)) cs H:=by
 refine .op U hb Γ (by unfold Region.wanted;rw[Υ]) (.inl cf) ?_;have e:execOp (br t) op=pure .recover:=by unfold execOp;rw[Ν];rfl
 rw[e];refine υ.pure' ⟨cf,?_⟩;rcases μ with μ|⟨μ,rfl,rfl⟩
 ·rw[μ];exact h
 ·rw[μ];exact h
end
theorem results_none {fn:Func} (h:fn.results=#[]) (t:Array Value):results fn t=pure (.tuple #[]):=by
 unfold results;rw[h];simp
theorem n4 {P:Program} {g:FuncId} {fn:Func} {body:Code} (bY:P.funcs[g]?=some fn) (nf:fn.body=some body) (vs:Array Value) (kd:CallKind):Frame.enter P g vs kd=au (Frame.enter P g vs kd) (vs++Array.replicate (fn.ntmps-vs.size) undef) [.code body]:=by
 simp[Frame.enter,au,bY,nf]
theorem ff.enter {S:aC} {B:aP} {H:ψ} {σ:List Row} {pY:List θ} {vs:Array Value} {nt m:Nat} (Β:Holds S B σ H) (hv:fg S B σ pY vs) (hm:m<=σ.length) (Ι:pY.length<=nt):ff m nt S B H σ (entry 0 pY) (vs++Array.replicate (nt-vs.size) undef):=
 ⟨Β,Na hv _,by have:=hv.1;simp;omega,hm⟩
end Go.TL
namespace Go.TL
open Go.Proofs
variable [bn]
def iw (s:aR) (before:List di) (p:di):Int:=
 if p.cV<0\/(s.ao.length:Int)<=p.cV then 3 else if before.any (λx=>x.cV==p.cV) then 4 else if valid p.seen=false\/valid p.bare=false then 1 else if rb p.seen p.bare=0 then 0 else 9
theorem WS (p x:di):az Tryz.prog 195 [cw x,.ad [R p.cV,R p.seen,R p.bare]] (bA (x.cV==p.cV)):=by
 refine ak.body Κ Tryz.func195 rfl rfl Tryz.ntmps195 rfl rfl (by simp) ?_;(repeat (first|apply κ|(refine ξ λη I=>?_;simp;(repeat (rw[δ];simp));apply I)));refine W.ret ⟨_,rfl,?_,rfl⟩;exact .of (by simp[])
theorem WT (s:aR) (before:List di) (Α:before.length<2 ^ 62) (p:di):ak Tryz.prog 153 [d' s,je before,cw p] [] (λa σ=>iw s before p=0/\a=.bu []/\σ=[]) (λa σ=>iw s before p≠0/\a=.fH 38 (R (iw s before p))/\σ=[]):=by
 refine ak.body Κ Tryz.func153 rfl rfl Tryz.ntmps153 rfl rfl (by simp) ?_;(repeat (first|apply κ|(refine ξ λη I=>?_;simp;(repeat (rw[δ];simp));apply I)));refine W.D2 (A:=[]) Κ mixed [(6,R p.seen),(7,R p.bare),(1,je before),(3,.ad [aQ s.ai,aN s.ao,bl s.cells]),(5,.ad [R p.cV,R p.seen,R p.bare])] ?_ (by simp[bD,bC];exact bW (by kernel_rfl))
 repeat apply κ
 refine W.tU (A:=[]) Κ [(12,bA (decide (p.cV<0)||decide ((s.ao.length:Int)<=p.cV))),(6,R p.seen),(7,R p.bare),(1,je before),(3,.ad [aQ s.ai,aN s.ao,bl s.cells]),(5,.ad [R p.cV,R p.seen,R p.bare])] ?_ (by by_cases q:p.cV<0<;>simp[δ,q6,q]);by_cases bP:p.cV<0\/(s.ao.length:Int)<=p.cV
 case pos=>
  have e:iw s before p=3:=by unfold iw;rw[if_pos bP]
  rw[e];refine al (by simpa using bP) ?_;(repeat apply κ);refine ξ λη I=>?_;simp;(repeat (rw[δ];simp))
 refine aj (by simpa using bP) ?_;(repeat apply κ);refine ξ λη I=>?_;simp;(repeat (rw[δ];simp));refine az.c (WL before (.fn (.func 195) [] [.ad [R p.cV,R p.seen,R p.bare]]) (λx=>x.cV==p.cV) Α (by simp[lE]) (λx _=>λ_=>(WS p x).cc (by simp;exact aK.refl _) (by simp) (by simp) ⟨rfl,rfl⟩)) (aK.refl _) (by simp[lE]) (by simp) ?_;simp;(repeat (rw[δ];simp));apply I;cases dw:before.any (λx=>x.cV==p.cV)
 case true=>
  have e:iw s before p=4:=by unfold iw;rw[if_neg bP,if_pos dw]
  rw[e];refine al (by simp) ?_;(repeat apply κ);refine ξ λη I=>?_;simp;(repeat (rw[δ];simp))
 refine aj (by simp) ?_
 repeat apply κ
 have NI:(valid p.seen=false\/valid p.bare=false)->iw s before p=1:=λh=>by unfold iw;rw[if_neg bP,dw];simp[h]
 cases fN:valid p.seen
 case false=>
  rw[NI (.inl fN)];(repeat apply κ);refine ξ λη I=>?_;simp;(repeat (rw[δ];simp));refine az.c (x7 p.seen) (aK.refl _) (by simp) (by simp) ?_;simp[fN];(repeat (rw[δ];simp[fN]));apply I;refine al rfl ?_;(repeat apply κ);refine ξ λη I=>?_;simp;(repeat (rw[δ];simp))
 cases mc:valid p.bare
 case false=>
  rw[NI (.inr mc)];(repeat apply κ);refine ξ λη I=>?_;simp;(repeat (rw[δ];simp));refine az.c (x7 p.seen) (aK.refl _) (by simp) (by simp) ?_;simp[fN];(repeat (rw[δ];simp[fN]));refine az.c (x7 p.bare) (aK.refl _) (by simp) (by simp) ?_;simp[mc];(repeat (rw[δ];simp[mc]));apply I;refine al rfl ?_;(repeat apply κ);refine ξ λη I=>?_;simp;(repeat (rw[δ];simp))
 (repeat apply κ);refine ξ λη I=>?_;simp;(repeat (rw[δ];simp));refine az.c (x7 p.seen) (aK.refl _) (by simp) (by simp) ?_;simp[fN];(repeat (rw[δ];simp[fN]));refine az.c (x7 p.bare) (aK.refl _) (by simp) (by simp) ?_;simp[mc];(repeat (rw[δ];simp[mc]));apply I;refine aj rfl ?_;(repeat apply κ);refine ξ λη I=>?_;simp;(repeat (rw[δ];simp));refine az.c (Nz p.seen p.bare) (aK.refl _) (by simp) (by simp) ?_;simp;(repeat (rw[δ];simp));apply I;by_cases ug:rb p.seen p.bare=0
 ·have e:iw s before p=0:=by unfold iw;rw[if_neg bP,dw];simp[fN,mc,ug]
  refine aj (by simp[ug]) ?_;(repeat (first|apply κ|(refine ξ λη I=>?_;simp;(repeat (rw[δ];simp));apply I)));exact W.nil ⟨_,rfl,e,rfl,rfl⟩
 ·have e:iw s before p=9:=by unfold iw;rw[if_neg bP,dw];simp[fN,mc,ug]
  rw[e];refine al (by simp[ug]) ?_;(repeat apply κ);refine ξ λη I=>?_;simp;(repeat (rw[δ];simp))
end Go.TL
namespace Go.TL
open Go.Proofs Go.Conc
variable [bn]
theorem fg.later {S ay:aC} {B B':aP} {σ σ':List Row} {l:List θ} {vs:Array Value} (h:fg S B σ l vs) (Α:bZ S ay B B' σ σ'):fg ay B' σ' l vs:=⟨h.1,λi a v J γ=>(h.2 i a v J γ).later Α⟩
theorem tT.fin {P:Program} {Q:Value->Prop} {mn:Bool} {x:gL} {c:Frame} {rest:List Frame} {S ay:aC} {H H':ψ} {B':aP} {σ':List Row} {v:Value} {r:θ} (hb:tT P Q mn x c rest S [] H [] (λa s=>cC a r/\s=[]) (λ_ _=>False))
  (he:Ext S [] H ay B' H') (Β:Holds ay B' σ' H') (μ:∀S B σ,ar S B σ r v):aE P Q mn x (c.finish v) rest H':=by
 obtain⟨J,γ⟩:=Β.close (h:=0) (λid r bS=>by omega);simp only[List.take_zero] at J γ;exact hb.ret r [] _ [] H' v ⟨.refl _,rfl⟩ (he.trans γ) ⟨λb o v hv=>γ.dg _ _ _ (he.dg _ _ _ hv),λid r h=>by simp at h⟩ J (μ _ _ _)
abbrev sB (e:Int):List Row:=[.cells 38 1 [R e]]
section
variable {Q:Value->Prop} {mn:Bool} {x:gL} {c f:Frame} {rest:List Frame} {S bB:aC} {bG:aP} {H H1:ψ} {cI e:Int} {oW:Array Value} {t:Array Value} {env:Ω} {err:Int}
theorem NJ (U:Seq x) (hb:tT Tryz.prog Q mn x c rest S [] H [] (λa s=>cC a (R err)/\s=[]) (λ_ _=>False)) {d:Deferred} (hd:v5 Tryz.prog d 152 oW)
  (bY:f.fn=122) (eo:f.defers=[d]) (χ:f.kind=.normal) (cf:f.roundOf=none) (hm:(f.mode=.returning/\cI=err)\/∃v,f.mode=.panicking [{v,recovered:=false}]/\ar bB bG (sB cI) (.fH 38 (R err)) v)
  (sC:Ext S [] H bB bG H1) (Β:Holds bB bG (sB cI) H1) (hv:fg bB bG (sB cI) [.Ψ 0 1 0 0] oW) (ο:cY bB bG (sB cI) env f.tmps) (bc:a5 env 6=.Ψ 0 1 0 0):aE Tryz.prog Q mn x f (c::rest) H1:=by
 have WU:f.mode≠.run:=by rcases hm with⟨h,_⟩|⟨v,h,_⟩<;>rw[h]<;>simp
 refine aE.deferred U WU eo hd.t1 hd.t2 hd.run ?_;rw[n4 Tryz.func152 rfl];have fin:∀(f':Frame) (jF:aC) (oX:aP) (jG:ψ),f'.mode=.returning->f'.defers=[]->f'.kind=.normal->f'.fn=f.fn->f'.tmps=f.tmps->Ext bB bG H1 jF oX jG->bZ bB jF bG oX (sB cI) (sB err)->Holds jF oX (sB err) jG->aE Tryz.prog Q mn x f' (c::rest) jG:=λf' jF oX jG eU ew uh x' AD de aD kC=>by
  refine aE.back U eU ew (.inl uh) (fn:=Tryz.f122) (by rw[x',bY];exact Tryz.func122) ?_;rw[AD];refine υ.mono (λv fB ⟨gn,gP,eN,tm,aB,u9⟩=>?_) (λ_ _ h=>h) _ (Aa Κ (a:=R err) (show oO bk [.cell 6 38] env (sB err)=some (R err) by simp[oO,q7,x1,bc,vP,il.agg]) kC (ο.later aD));cases u9;exact hb.fin (sC.trans (de.trans eN)) aB λ_ _ _=>.z _
 refine V.here (m:=1) (nt:=10) (env:=entry 0 [.Ψ 0 1 0 0]) ?_ (ff.enter Β hv (by simp) (by simp));refine V.a' U rfl ?_
 repeat apply κ
 refine W.cl ?_;refine W.stop ?_;intro jH jI hO t3 fT ey;rcases hm with⟨hm,rfl⟩|⟨v,hm,v7⟩
 ·refine aE.recovered U rfl rfl rfl rfl rfl (v:=.nilIface) (.inr ⟨?_,rfl,rfl⟩) ?_
  ·simp[tryRecover,au,Frame.enter,hm]
  ·refine V.here (m:=1) ?_ (ey.put rfl (.z .nilIface));refine V.a' U rfl ?_;refine W.part (A:=[]) Κ [1,2,3,4,5,6] [] rfl λη I=>?_;simp[vy];(repeat (rw[δ];simp[vy]));apply I;refine W.bJ ?_;(repeat (first|apply κ|(refine ξ λη I=>?_;simp;(repeat (rw[δ];simp));apply I)));refine aj rfl ?_;(repeat (first|apply κ|(refine ξ λη I=>?_;simp;(repeat (rw[δ];simp));apply I)));refine W.stop ?_;intro jF oX jG t4 sD pZ;refine .sa U rfl rfl ?_;refine aE.GU U rfl rfl rfl Tryz.func152 ?_;rw[results_none rfl];refine υ.pure' ?_;simp only[hm];exact fin _ jF oX jG rfl rfl χ rfl rfl (fT.ext.trans sD.ext) ((fT.trans sD).all Β (by simp)) pZ.holds
 ·have sE:ar jH jI (sB cI) (.fH 38 (R err)) v:=v7.later (fT.all Β (by simp));refine aE.recovered U rfl rfl rfl rfl rfl (v:=v) (cs':={f with defers:=[],mode:=.panicking [{v,recovered:=true}]}::c::rest) (.inl ?_) ?_
  ·simp[tryRecover,au,Frame.enter,hm]
  ·refine V.here (m:=1) ?_ (ey.put rfl sE);refine V.a' U rfl ?_;refine W.part (A:=[]) Κ [1,2,3,4,5,6] [] rfl λη I=>?_;simp[vy];(repeat (rw[δ];simp[vy]));apply I;refine W.bJ ?_;(repeat (first|apply κ|(refine ξ λη I=>?_;simp;(repeat (rw[δ];simp));apply I)));refine al rfl ?_;(repeat (first|apply κ|(refine ξ λη I=>?_;simp;(repeat (rw[δ];simp));apply I)));refine W.stop ?_;intro jF oX jG t4 sD pZ;refine .sa U rfl rfl ?_;refine aE.GU U rfl rfl rfl Tryz.func152 ?_;rw[results_none rfl];refine υ.pure' ?_;exact fin _ jF oX jG rfl rfl χ rfl rfl (fT.ext.trans sD.ext) ((fT.trans sD).all Β (by simp)) pZ.holds
end
theorem WV (s:aR) (before:List di) (Α:before.length<2 ^ 62) (p:di):az Tryz.prog 122 [d' s,je before,cw p] (R (iw s before p)):=by
 refine⟨⟨_,Tryz.func122,rfl,rfl⟩,λQ mn x c rest S B H vs U Β hv hb=>?_⟩;have fb:B=[]:=dp.1 (by have:=Β.len;simpa using this);subst fb;rw[n4 Tryz.func122 rfl];refine V.here (m:=0) (nt:=12) (env:=entry 0 [d' s,je before,cw p]) ?_ (ff.enter Β hv (by simp) (by simp));refine V.a' U rfl ?_
 repeat apply κ
 refine c7 (A:=[6]) Κ λη I=>?_;simp;(repeat (rw[δ];simp));apply I
 repeat apply κ
 refine W.cl ?_;refine W.part (A:=[]) Κ [0] [1] rfl λη I=>?_;(try simp);(repeat (rw[δ];simp));apply I;refine W.stop ?_;refine V.defer U rfl rfl rfl rfl rfl rfl rfl ⟨_,Tryz.func152,rfl,rfl⟩ λbB bG H1 t1 d oW lK hP tV hd=>?_;refine V.here (m:=1) ?_ ⟨hP.holds,hP.b6,hP.size,by simp⟩;refine V.a' U rfl ?_;refine W.bJ ?_;(repeat apply κ);refine ξ λη I=>?_;simp;(repeat (rw[δ];simp));refine h1.mono (ak.call (first:=[]) (captured:=[]) ((WT s before Α p).mono (K':=λa bq=>iw s before p=0/\av 0 a/\bq=[]) (E':=λa bq=>(iw s before p≠0/\a=.fH 38 (R (iw s before p)))/\av 0 a/\bq=[]) (λa bq ⟨J,γ,π⟩=>⟨J,by subst γ;simp,π⟩) (λa bq ⟨J,γ,π⟩=>⟨⟨J,γ⟩,by subst γ;simp,π⟩) |>.frame (by simp))) (λa bq ⟨ah,ο⟩=>?_) (λa bq ⟨⟨ah,ν⟩,ο⟩=>?_)
 ·subst ο;(try simp);(repeat (rw[δ];simp));apply I;(repeat (first|apply κ|(refine ξ λη I=>?_;simp;(repeat (rw[δ];simp));apply I)));refine W.stop ?_;intro cU e5 bO t2 rh mA;refine aE.ret (b:={Frame.enter Tryz.prog 122 vs .normal with defers:=[d]}) U rfl rfl ?_;exact NJ U hb hd rfl rfl rfl rfl (.inl ⟨rfl,ah.symm⟩) (lK.ext.trans rh.ext) mA.holds (tV.later (rh.all hP.holds (by simp))) mA.b6 rfl
 ·subst ο;subst ν;intro cU e5 bO t2 cy v rh iZ dU ui;have sF:=rh.all hP.holds (by simp);refine NJ U hb hd rfl rfl rfl rfl (.inr ⟨v,rfl,ui⟩) (lK.ext.trans rh.ext) iZ (tV.later sF) dU ?_;rfl
end Go.TL
namespace Go.TL
open Go.Proofs
variable [bn]
theorem WW:IntKind.i64.wrap 3=3:=by decide
def v8 (l:List Int) (i:Nat):Int:=match l[i]? with
 | none=>0
 | some n=>if nk n=false then 3 else if 0<i/\n<=(l[i-1]?).getD 0 then 5 else 0
def ya (l:List Int):Int:=iO ((List.range l.length).map (v8 l))
def n5 (ls:List (List Int)):Int:=if ls.length=0 then 7 else if 4<ls.length then 6 else iO ((List.range ls.length).map λi=>ya ((ls[i]?).getD []))
theorem WX (s:aR) (ο:s.small):az Tryz.prog 104 [d' s] (R (n5 s.ao)):=by
 refine ak.body Κ Tryz.func104 rfl rfl Tryz.ntmps104 rfl rfl (by simp) ?_;have Α:=ο.2.1;by_cases hK:s.ao.length=0
 ·(repeat (first|apply κ|(refine ξ λη I=>?_;simp;(repeat (rw[δ];simp[hK]));apply I)));refine al (by simp) ?_;(repeat (first|apply κ|(refine ξ λη I=>?_;simp;(repeat (rw[δ];simp));apply I)));refine W.ret ⟨_,rfl,?_,rfl⟩;exact .of (by rw[show n5 s.ao=7 by simp[n5,hK]];rfl)
 by_cases oV:(4:Int)<s.ao.length
 ·(repeat (first|apply κ|(refine ξ λη I=>?_;simp;(repeat (rw[δ];simp[hK,oV]));apply I)));refine aj (by simp[hK]) ?_;(repeat (first|apply κ|(refine ξ λη I=>?_;simp;(repeat (rw[δ];simp[hK,oV]));apply I)));refine al (by simp) ?_;(repeat (first|apply κ|(refine ξ λη I=>?_;simp;(repeat (rw[δ];simp));apply I)));refine W.ret ⟨_,rfl,?_,rfl⟩;exact .of (by rw[show n5 s.ao=6 by simp[n5,hK];omega];rfl)
 have AB:n5 s.ao=iO ((List.range s.ao.length).map λi=>ya ((s.ao[i]?).getD [])):=by
  unfold n5;rw[if_neg hK,if_neg (by omega)]
 rw[AB];(repeat (first|apply κ|(refine ξ λη I=>?_;simp;(repeat (rw[δ];simp[hK,oV]));apply I)));refine aj (by simp[hK]) ?_;(repeat (first|apply κ|(refine ξ λη I=>?_;simp;(repeat (rw[δ];simp[hK,oV]));apply I)));refine aj (by simp) ?_;(repeat (first|apply κ|(refine ξ λη I=>?_;simp;(repeat (rw[δ];simp));apply I)));refine W.iter (λi:Nat=>i<=s.ao.length/\∀j,j<i->ya ((s.ao[j]?).getD [])=0) (λi=>[(1,.ad [aQ s.ai,aN s.ao,bl s.cells]),(18,aN s.ao),(19,R s.ao.length),(20,R i)]) (λ_=>[]) (λi=>s.ao.length-i) 0 ⟨by omega,λj ε=>by omega⟩ rfl (by simp) (λi hi Δ=>?_);(repeat (first|apply κ|(refine ξ λη I=>?_;simp;(repeat (rw[δ];simp));apply I)));refine W.en rfl (λζ=>?_) (λζ=>?_)
 ·have ζ:i<s.ao.length:=by simpa using ζ
  have pX:(s.ao[i]?).getD []=s.ao[i]:=by simp[ζ]
  have ω:s.ao[i].length<2 ^ 30:=ο.2.2.2.1 _ (List.getElem_mem ζ);(repeat (first|apply κ|(refine ξ λη I=>?_;simp;(repeat (rw[δ];simp[ζ]));apply I)));refine W.iter (λn:Nat=>n<=s.ao[i].length/\∀j,j<n->v8 s.ao[i] j=0) (λn=>[(1,.ad [aQ s.ai,aN s.ao,bl s.cells]),(18,aN s.ao),(19,R s.ao.length),(20,R i),(4,bf R 1 s.ao[i]),(24,bf R 1 s.ao[i]),(25,R s.ao[i].length),(26,R n)]) (λ_=>[]) (λn=>s.ao[i].length-n) 0 ⟨by omega,λj ε=>by omega⟩ rfl (by simp) (λn Ι Ic=>?_);(repeat (first|apply κ|(refine ξ λη I=>?_;simp;(repeat (rw[δ];simp));apply I)));refine W.en rfl (λa4=>?_) (λa4=>?_)
  ·have hd:n<s.ao[i].length:=by simpa using a4
   have yb:s.ao[i][n]?=some s.ao[i][n]:=a2 hd
   have fin:∀e:Int,v8 s.ao[i] n=e->e≠0->iO ((List.range s.ao.length).map λi=>ya ((s.ao[i]?).getD []))=e:=λe he ah=>
    Az (i:=i) ζ (by rw[pX];exact Az hd he ah Ι.2) ah hi.2
   repeat apply κ
   refine ξ λη I=>?_;simp;(repeat (rw[δ];simp[hd]));apply I;(repeat apply κ);refine ξ λη I=>?_;simp;(repeat (rw[δ];simp));refine az.c (oS s.ao[i][n]) (aK.refl _) (by simp) (by simp) ?_;simp;(repeat (rw[δ];simp));apply I;cases bP:nk s.ao[i][n]
   ·refine al (by simp) ?_;(repeat (first|apply κ|(refine ξ λη I=>?_;simp;(repeat (rw[δ];simp));apply I)));refine W.ret ⟨_,rfl,?_,rfl⟩;exact .of (by rw[fin 3 (by simp[v8,yb,bP]) (by decide)];rfl)
   refine aj (by simp) ?_
   repeat apply κ
   refine W.tU (A:=[]) Κ [(35,bA (decide (0<n/\s.ao[i][n]<=(s.ao[i][n-1]?).getD 0))),(1,.ad [aQ s.ai,aN s.ao,bl s.cells]),(18,aN s.ao),(19,R s.ao.length),(20,R i),(4,bf R 1 s.ao[i]),(24,bf R 1 s.ao[i]),(25,R s.ao[i].length),(26,R n)] ?_ (by
    cases n with
    | zero=>simp[δ,q6]
    | succ n=>
     have j2:n<s.ao[i].length:=by omega
     have Ε:=gl (show n<2 ^ 62 by omega)
     have ah:(0:Int)<(n:Int)+1:=by omega
     simp[δ,q6,ah,j2,Ε])
   by_cases dw:0<n/\s.ao[i][n]<=(s.ao[i][n-1]?).getD 0
   ·refine al (by simp only[dw];rfl) ?_;(repeat (first|apply κ|(refine ξ λη I=>?_;simp;(repeat (rw[δ];simp));apply I)));refine W.ret ⟨_,rfl,?_,rfl⟩;exact .of (by rw[fin 5 (by simp only[v8,yb,bP];rw[if_neg (by simp),if_pos dw]) (by decide)];rfl)
   ·refine aj (by simp only[dw];rfl) ?_;(repeat (first|apply κ|(refine ξ λη I=>?_;simp;(repeat (rw[δ];simp));apply I)));refine W.forget _ ?_ (Ic (n+1) ⟨hd,λj ε=>?_⟩ (by omega))
    ·simp[e6 hd (show s.ao[i].length<2 ^ 62 by omega)]
    ·by_cases e:j=n
     ·subst e;simp only[v8,yb,bP];rw[if_neg (by simp),if_neg dw]
     ·exact Ι.2 j (by omega)
  ·have hd:s.ao[i].length<=n:=by simpa using a4
   refine W.exit rfl ?_;(repeat (first|apply κ|(refine ξ λη I=>?_;simp;(repeat (rw[δ];simp));apply I)));refine W.forget _ ?_ (Δ (i+1) ⟨ζ,λj ε=>?_⟩ (by omega))
   ·simp[e6 ζ (show s.ao.length<2 ^ 62 by omega)]
   ·by_cases e:j=i
    ·subst e;rw[pX];exact AA λj ε=>Ι.2 j (by omega)
    ·exact hi.2 j (by omega)
 ·have ζ:s.ao.length<=i:=by simpa using ζ
  refine W.exit rfl ?_;(repeat (first|apply κ|(refine ξ λη I=>?_;simp;(repeat (rw[δ];simp));apply I)));refine W.ret ⟨_,rfl,?_,rfl⟩;exact .of (by rw[AA (f:=λi=>ya ((s.ao[i]?).getD [])) λj ε=>hi.2 j (by omega)];rfl)
def p0 (s:aR) (c:List di):Int:=if 4<c.length then 6 else iO ((List.range c.length).map λi=>match c[i]? with|none=>0|some p=>iw s (c.take i) p)
def sG (s:aR):Int:=if 4<s.cells.length then 6 else iO ((List.range s.cells.length).map λi=>p0 s ((s.cells[i]?).getD []))
theorem WY (s:aR) (ο:s.small):az Tryz.prog 105 [d' s] (R (sG s)):=by
 refine ak.body Κ Tryz.func105 rfl rfl Tryz.ntmps105 rfl rfl (by simp) ?_;have Α:=ο.2.2.1;by_cases oV:(4:Int)<s.cells.length
 ·(repeat (first|apply κ|(refine ξ λη I=>?_;simp;(repeat (rw[δ];simp[oV]));apply I)));refine al (by simp) ?_;(repeat (first|apply κ|(refine ξ λη I=>?_;simp;(repeat (rw[δ];simp));apply I)));refine W.ret ⟨_,rfl,?_,rfl⟩;exact .of (by rw[show sG s=6 by simp[sG];omega];rfl)
 have AB:sG s=iO ((List.range s.cells.length).map λi=>p0 s ((s.cells[i]?).getD [])):=by
  unfold sG;rw[if_neg (by omega)]
 rw[AB];(repeat (first|apply κ|(refine ξ λη I=>?_;simp;(repeat (rw[δ];simp[oV]));apply I)));refine aj (by simp) ?_;(repeat (first|apply κ|(refine ξ λη I=>?_;simp;(repeat (rw[δ];simp));apply I)));refine W.iter (λi:Nat=>i<=s.cells.length/\∀j,j<i->p0 s ((s.cells[j]?).getD [])=0) (λi=>[(1,.ad [aQ s.ai,aN s.ao,bl s.cells]),(13,bl s.cells),(14,R s.cells.length),(15,R i)]) (λ_=>[]) (λi=>s.cells.length-i) 0 ⟨by omega,λj ε=>by omega⟩ rfl (by simp) (λi hi Δ=>?_);(repeat (first|apply κ|(refine ξ λη I=>?_;simp;(repeat (rw[δ];simp));apply I)));refine W.en rfl (λζ=>?_) (λζ=>?_)
 ·have ζ:i<s.cells.length:=by simpa using ζ
  have pX:(s.cells[i]?).getD []=s.cells[i]:=by simp[ζ]
  have ω:s.cells[i].length<2 ^ 30:=ο.2.2.2.2 _ (List.getElem_mem ζ)
  have NK:∀e:Int,p0 s s.cells[i]=e->e≠0->iO ((List.range s.cells.length).map λi=>p0 s ((s.cells[i]?).getD []))=e:=λe he ah=>
   Az (i:=i) ζ (by rw[pX];exact he) ah hi.2
  by_cases NL:(4:Int)<s.cells[i].length
  ·(repeat (first|apply κ|(refine ξ λη I=>?_;simp;(repeat (rw[δ];simp[ζ,NL]));apply I)));refine al (by simp) ?_;(repeat (first|apply κ|(refine ξ λη I=>?_;simp;(repeat (rw[δ];simp));apply I)));refine W.ret ⟨_,rfl,?_,rfl⟩;exact .of (by rw[NK 6 (by unfold p0;rw[if_pos (by omega)]) (by decide)];rfl)
  (repeat (first|apply κ|(refine ξ λη I=>?_;simp;(repeat (rw[δ];simp[ζ,NL]));apply I)));refine aj (by simp) ?_;(repeat (first|apply κ|(refine ξ λη I=>?_;simp;(repeat (rw[δ];simp));apply I)));have NM:p0 s s.cells[i]=iO ((List.range s.cells[i].length).map λn=>match s.cells[i][n]? with|none=>0|some p=>iw s (s.cells[i].take n) p):=by unfold p0;rw[if_neg (by omega)]
  refine W.iter (λn:Nat=>n<=s.cells[i].length/\∀j,j<n->(match s.cells[i][j]? with|none=>0|some p=>iw s (s.cells[i].take j) p)=0) (λn=>[(1,.ad [aQ s.ai,aN s.ao,bl s.cells]),(13,bl s.cells),(14,R s.cells.length),(15,R i),(4,je s.cells[i]),(22,je s.cells[i]),(23,R s.cells[i].length),(24,R n)]) (λ_=>[]) (λn=>s.cells[i].length-n) 0 ⟨by omega,λj ε=>by omega⟩ rfl (by simp) (λn Ι Ic=>?_);(repeat (first|apply κ|(refine ξ λη I=>?_;simp;(repeat (rw[δ];simp));apply I)));refine W.en rfl (λa4=>?_) (λa4=>?_)
  ·have hd:n<s.cells[i].length:=by simpa using a4
   have yb:s.cells[i][n]?=some s.cells[i][n]:=a2 hd
   repeat apply κ
   refine c7 (A:=[6]) Κ λη I=>?_;simp;(repeat (rw[δ];simp[hd]));apply I;refine W.fix (id:=0) (σ':=[]) (Nat.zero_le _) rfl (by simp) (by simp) rfl [(5,R n),(6,.ad [R s.cells[i][n].cV,R s.cells[i][n].seen,R s.cells[i][n].bare]),(1,.ad [aQ s.ai,aN s.ao,bl s.cells]),(13,bl s.cells),(14,R s.cells.length),(15,R i),(4,je s.cells[i]),(22,je s.cells[i]),(23,R s.cells[i].length),(24,R n)] (by simp) ?_
   repeat apply κ
   refine W.draw (A:=[]) Κ mixed λη I=>?_;simp;(repeat (rw[bD];simp[hd,Nat.le_of_lt hd]));try rw[bC]
   (try simp only[<-List.map_take]);refine gU (az.p (WV s (s.cells[i].take n) (by simp;omega) s.cells[i][n]) (aK.refl _) (by simp) (by simp)) ?_;simp;(repeat (rw[bD];simp));try rw[bC]
   refine⟨bW (by kernel_rfl),I _ _ ?_⟩
   repeat apply κ
   (repeat (first|apply κ|(refine ξ λη I=>?_;simp;(repeat (rw[δ];simp));apply I)));by_cases b:iw s (s.cells[i].take n) s.cells[i][n]=0
   ·refine aj (by simp[b]) ?_;(repeat (first|apply κ|(refine ξ λη I=>?_;simp;(repeat (rw[δ];simp));apply I)));refine W.forget _ ?_ (Ic (n+1) ⟨hd,λj ε=>?_⟩ (by omega))
    ·simp[e6 hd (show s.cells[i].length<2 ^ 62 by omega)]
    ·by_cases e:j=n
     ·subst e;rw[yb];exact b
     ·exact Ι.2 j (by omega)
   ·refine al (by simp[b]) ?_;(repeat (first|apply κ|(refine ξ λη I=>?_;simp;(repeat (rw[δ];simp));apply I)));refine W.ret ⟨_,rfl,?_,rfl⟩;exact .of (by rw[NK (iw s (s.cells[i].take n) s.cells[i][n]) (by rw[NM];exact Az hd (by rw[yb]) b Ι.2) b];rfl)
  ·have hd:s.cells[i].length<=n:=by simpa using a4
   refine W.exit rfl ?_;(repeat (first|apply κ|(refine ξ λη I=>?_;simp;(repeat (rw[δ];simp));apply I)));refine W.forget _ ?_ (Δ (i+1) ⟨ζ,λj ε=>?_⟩ (by omega))
   ·simp[e6 ζ (show s.cells.length<2 ^ 62 by omega)]
   ·by_cases e:j=i
    ·subst e;rw[pX,NM];exact AA λj ε=>Ι.2 j (by omega)
    ·exact hi.2 j (by omega)
 ·have ζ:s.cells.length<=i:=by simpa using ζ
  refine W.exit rfl ?_;(repeat (first|apply κ|(refine ξ λη I=>?_;simp;(repeat (rw[δ];simp));apply I)));refine W.ret ⟨_,rfl,?_,rfl⟩;exact .of (by rw[AA (f:=λi=>p0 s ((s.cells[i]?).getD [])) λj ε=>hi.2 j (by omega)];rfl)
def aR.err (s:aR):Int:=if n3 s.ai≠0 then n3 s.ai else if n5 s.ao≠0 then n5 s.ao else sG s
theorem Ef (s:aR) (ο:s.small):az Tryz.prog 48 [d' s] (R s.err):=by
 refine ak.body Κ Tryz.func48 rfl rfl Tryz.ntmps48 rfl rfl (by simp) ?_;(repeat (first|apply κ|(refine ξ λη I=>?_;simp;(repeat (rw[δ];simp));apply I)));refine .loop ?_;(repeat (first|apply κ|(refine ξ λη I=>?_;simp;(repeat (rw[δ];simp));apply I)));refine al rfl ?_;(repeat (first|apply κ|(refine ξ λη I=>?_;simp;(repeat (rw[δ];simp));apply I)));(repeat apply κ);refine ξ λη I=>?_;simp;(repeat (rw[δ];simp));refine az.c (WQ s ο) (aK.refl _) (by simp) (by simp) ?_;simp;(repeat (rw[δ];simp));apply I;(repeat (first|apply κ|(refine ξ λη I=>?_;simp;(repeat (rw[δ];simp));apply I)));by_cases bP:n3 s.ai=0
 case neg=>
  refine al (by simp[bP]) ?_;(repeat (first|apply κ|(refine ξ λη I=>?_;simp;(repeat (rw[δ];simp));apply I)));refine W.ret ⟨_,rfl,?_,rfl⟩;exact .of (by rw[show s.err=n3 s.ai by unfold aR.err;rw[if_pos bP]];rfl)
 refine aj (by simp[bP]) ?_;(repeat (first|apply κ|(refine ξ λη I=>?_;simp;(repeat (rw[δ];simp[H5]));apply I)));refine .inLoop ?_;(repeat (first|apply κ|(refine ξ λη I=>?_;simp;(repeat (rw[δ];simp));apply I)));refine al rfl ?_;(repeat (first|apply κ|(refine ξ λη I=>?_;simp;(repeat (rw[δ];simp));apply I)));(repeat apply κ);refine ξ λη I=>?_;simp;(repeat (rw[δ];simp));refine az.c (WX s ο) (aK.refl _) (by simp) (by simp) ?_;simp;(repeat (rw[δ];simp));apply I;(repeat (first|apply κ|(refine ξ λη I=>?_;simp;(repeat (rw[δ];simp));apply I)));by_cases dw:n5 s.ao=0
 case neg=>
  refine al (by simp[dw]) ?_;(repeat (first|apply κ|(refine ξ λη I=>?_;simp;(repeat (rw[δ];simp));apply I)));refine W.ret ⟨_,rfl,?_,rfl⟩;exact .of (by rw[show s.err=n5 s.ao by unfold aR.err;rw[if_neg (by simp[bP]),if_pos dw]];rfl)
 refine aj (by simp[dw]) ?_;(repeat (first|apply κ|(refine ξ λη I=>?_;simp;(repeat (rw[δ];simp[H6]));apply I)));refine .inLoop ?_;(repeat (first|apply κ|(refine ξ λη I=>?_;simp;(repeat (rw[δ];simp));apply I)));refine al rfl ?_;(repeat (first|apply κ|(refine ξ λη I=>?_;simp;(repeat (rw[δ];simp));apply I)));(repeat apply κ);refine ξ λη I=>?_;simp;(repeat (rw[δ];simp));refine az.c (WY s ο) (aK.refl _) (by simp) (by simp) ?_;simp;(repeat (rw[δ];simp));apply I;(repeat (first|apply κ|(refine ξ λη I=>?_;simp;(repeat (rw[δ];simp));apply I)));have e:s.err=sG s:=by unfold aR.err;rw[if_neg (by simp[bP]),if_neg (by simp[dw])]
 rw[e];by_cases fN:sG s=0
 case neg=>
  refine al (by simp[fN]) ?_;(repeat (first|apply κ|(refine ξ λη I=>?_;simp;(repeat (rw[δ];simp));apply I)));refine W.ret ⟨_,rfl,?_,rfl⟩;exact .of rfl
 refine aj (by simp[fN]) ?_;(repeat (first|apply κ|(refine ξ λη I=>?_;simp;(repeat (rw[δ];simp[WW]));apply I)));refine .inLoop ?_;(repeat (first|apply κ|(refine ξ λη I=>?_;simp;(repeat (rw[δ];simp));apply I)));refine aj rfl ?_;refine W.exit rfl ?_;(repeat (first|apply κ|(refine ξ λη I=>?_;simp;(repeat (rw[δ];simp));apply I)));refine W.ret ⟨_,rfl,?_,rfl⟩;exact .of (by rw[fN];rfl)
section
variable {P:Program} {T:bd} {A:List Nat} {m nt:Nat} {k:List Item} {env:Ω} {σ:List Row} {Z:List Item->Ω->List Row->Prop} {E:θ->Ω->List Row->Prop}
theorem W.fC (Θ:bT P T) (env':Ω) (σ':List Row) {id:Nat} {ops:Array Oper} (h:W P m nt k env' σ' Z E) (μ:run P T A nt ops (idx ops.size []) env σ (λe s=>s=σ'/\∀p∈env',a5 e p.1=p.2) E):W P m nt (.code (.region id ops false)::k) env σ Z E:=
 c7 Θ λη I=>DL (λe s ⟨J,γ⟩=>I e s (J▸W.forget env' γ h)) _ _ _ μ
end
def eQ (l:List θ):θ:=if l.isEmpty then .sl true 0 [] else .ms 0 l.length 0 l.length
def aL (t:TypeId) (k:Nat) (l:List θ):List Row:=if l.isEmpty then [] else [.cells t k l]
def dk (k:Nat) (l:List θ):θ:=if l.isEmpty then .sl true 0 [] else .sl false k l
theorem p1:eQ []=.sl true 0 []:=rfl
theorem h6 {t k:Nat}:aL t k []=[]:=rfl
theorem ri {l:List θ} (h:l≠[]):eQ l=.ms 0 l.length 0 l.length:=by unfold eQ;rw[if_neg (by simpa using h)]
theorem c8 {t k:Nat} {l:List θ} (h:l≠[]):aL t k l=[.cells t k l]:=by unfold aL;rw[if_neg (by simpa using h)]
theorem yc {l:List θ} {x:θ}:eQ (l++[x])=.ms 0 (l.length+1) 0 (l.length+1):=by rw[ri (by simp)];simp
theorem sH {t k:Nat} {l:List θ} {x:θ}:aL t k (l++[x])=[.cells t k (l++[x])]:=c8 (by simp)
theorem eE.acc {t k:Nat} {l:List θ} (hb:∀e∈l,∀a∈e.cells,av 0 a):eE 0 (aL t k l) (eQ l) (dk k l):=by
 unfold aL eQ dk;cases h:l.isEmpty with
 | true=>exact .low (by simp)
 | false=>exact .own (Nat.zero_le _) rfl rfl hb
theorem cC.acc {k:Nat} {l:List θ}:cC (dk k l) (.sl false k l):=by
 unfold dk;cases h:l.isEmpty with
 | true=>rw[List.isEmpty_iff.1 h];exact .nil
 | false=>exact .refl _
@[simp] theorem iΘ {α:Type} {l:List α} {a b:α}:(l++[a]).set l.length b=l++[b]:=by rw[List.set_append_right _ _ (Nat.le_refl _),Nat.sub_self];rfl
@[simp] theorem iΙ {t k:Nat} {l:List θ}:av (aL t k l).length (eQ l):=by
 unfold eQ aL;cases l.isEmpty<;>simp[ng]
theorem av.mono {h cW:Nat} {a:θ} (hb:av h a) (aS:h<=cW):av cW a:=by
 induction hb with
 | z v=>exact .z v
 | cz=>exact .cz
 | ad _ Δ=>exact .ad Δ
 | sl _ Δ=>exact .sl Δ
 | aW _ Δ=>exact .aW Δ
 | bu _ Δ=>exact .bu Δ
 | fn _ _ sc mi=>exact .fn sc mi
 | fH _ Δ=>exact .fH Δ
 | Ψ h=>exact .Ψ (by omega)
 | ms h=>exact .ms (by omega)
 | mp h=>exact .mp (by omega)
 | it h=>exact .it (by omega)
theorem sI {t k h:Nat} {l:List θ} (hb:∀e∈l,∀a∈e.cells,av 0 a):∀r∈aL t k l,ek h r:=by
 intro r μ;unfold aL at μ;cases Α:l.isEmpty with
 | true=>rw[Α] at μ;simp at μ
 | false=>
  rw[Α] at μ;simp at μ;subst μ;exact λe he a ν=>(hb e he a ν).mono (Nat.zero_le _)
section
variable {P:Program} {m nt:Nat} {k:List Item} {env:Ω} {Z:List Item->Ω->List Row->Prop} {E:θ->Ω->List Row->Prop}
theorem W.nn {σ0:List Row} {t:TypeId} {e:θ} {kk:Nat} (hm:m<=σ0.length) (nX:∀r∈σ0,ek σ0.length r) (he:∀a∈e.cells,av σ0.length a) (env':Ω)
  (cL:∀p∈env',(a5 env p.1=p.2/\av σ0.length p.2)\/(a5 env p.1=.Ψ σ0.length 1 0 0/\p.2=.ad e.cells)) (hW:W P m nt k env' σ0 Z E):W P m nt k env (σ0++[.cells t kk [e]]) Z E:=
 W.fix (t:=t) (kk:=kk) (e:=e) hm (by simp) he (λid r bS μ=>nX r (by
  rw[ea bS] at μ;exact cv μ)) (by simp) env' cL hW
theorem W.NN {t kk:Nat} {l:List θ} {d:Nat} (hb:∀e∈l,∀a∈e.cells,av 0 a) (env':Ω) (hd:a5 env d=eQ l) (cL:∀p∈env',a5 env p.1=p.2/\av 0 p.2) (hW:W P 0 nt k ((d,dk kk l)::env') [] Z E):W P 0 nt k env (aL t kk l) Z E:=
 W.cut 0 (Nat.zero_le _) ((d,dk kk l)::env') (Nat.zero_le _) (λid r bS=>by omega) (λp ω=>by
  rcases List.mem_cons.1 ω with rfl|ω
  ·show eE 0 _ (a5 env d) _;rw[hd];exact .acc hb
  ·rw[(cL p ω).1];exact .low (cL p ω).2) (by simpa using hW)
end
abbrev cu (l:List Int):θ:=.sl true 1 (l.map R)
theorem cC.Ie {L:List (List Int)}:cC (dk 1 (L.map cu)) (aN L):=.trans .acc (.map λx _=>.one .ex rfl rfl)
theorem AE {L:List (List Int)}:∀e∈L.map cu,∀a∈e.cells,av 0 a:=by
 intro e he a ν;obtain⟨x,_,rfl⟩:=List.mem_map.1 he;simp[θ.cells] at ν;subst ν;simp
theorem WZ (n:Int):az Tryz.prog 51 [R n] (.bu [R (if valid n then Eb n else 0),R (if valid n then 0 else 1)]):=by
 refine ak.body Κ Tryz.func51 rfl rfl Tryz.ntmps51 rfl rfl (by simp) ?_;(repeat (first|apply κ|(refine ξ λη I=>?_;simp;(repeat (rw[δ];simp));apply I)));(repeat apply κ);refine ξ λη I=>?_;simp;(repeat (rw[δ];simp));refine az.c (x7 n) (aK.refl _) (by simp) (by simp) ?_;simp;(repeat (rw[δ];simp));apply I;cases b:valid n
 ·refine al rfl ?_;(repeat (first|apply κ|(refine ξ λη I=>?_;simp;(repeat (rw[δ];simp));apply I)));refine W.ret ⟨_,rfl,?_,rfl⟩;exact .of rfl
 ·refine aj rfl ?_;(repeat apply κ);refine ξ λη I=>?_;simp;(repeat (rw[δ];simp));refine az.c (Wo n) (aK.refl _) (by simp) (by simp) ?_;simp;(repeat (rw[δ];simp));apply I;(repeat (first|apply κ|(refine ξ λη I=>?_;simp;(repeat (rw[δ];simp));apply I)));refine W.ret ⟨_,rfl,?_,rfl⟩;exact .of rfl
def uj:Int->List Int->List Int
 | _,[]=>[]
 | a,b::l=>if b=a then uj a l else b::uj b l
def ix:List Int->List Int
 | []=>[]
 | a::l=>a::uj a l
theorem NO (l:List Int) {p:Nat} (ω:0<p) (h:p<l.length) (cW:p-1<l.length):ix (l.take (p+1))=ix (l.take p)++if l[p]=l[p-1] then [] else [l[p]]:=by
 have gen:∀(l:List Int) (a:Int) (p:Nat) (h:p<l.length),uj a (l.take (p+1))=uj a (l.take p)++if l[p]=(a::l)[p]'(by simp;omega) then [] else [l[p]]:=by
  intro l
  induction l with
  | nil=>intro a p h;cases h
  | cons b l Δ=>
   intro a p h;cases p with
   | zero=>by_cases e:b=a<;>simp[uj,e]
   | succ p=>
    have γ:p<l.length:=by simpa using h
    by_cases e:b=a
    ·subst e;have:=Δ b p γ;simp only[List.take_succ_cons,uj,if_true,List.getElem_cons_succ] at this ⊢;exact this
    ·have:=Δ b p γ;simp only[List.take_succ_cons,uj,e,if_false,List.getElem_cons_succ,List.cons_append] at this ⊢;rw[this]
 cases l with
 | nil=>cases h
 | cons a l=>
  obtain⟨q,rfl⟩:∃q,p=q+1:=⟨p-1,by omega⟩;have γ:q<l.length:=by simpa using h
  have:=gen l a q γ;simp only[List.take_succ_cons,ix,List.getElem_cons_succ,Nat.add_sub_cancel] at this ⊢;rw[this];rfl
theorem Eg {f:List Int} {L:List θ} (aD:L=f.map R) {j:Nat} {x:Int} (h:f[j]?=some x):L[j]?=some (R x)/\∀h:j<L.length,L[j]=R x:=by
 have e:L[j]?=some (R x):=by rw[aD,List.getElem?_map,h];rfl
 exact⟨e,λε=>by rw[a2 ε] at e;exact Option.some.inj e⟩
theorem W0 (l:List Int) (n:Nat) (Ι:l.length=n) (ο:n<2 ^ 40):ak Tryz.prog 133 [.ms 0 n 0 n] [.cells 3 1 (l.map R)]
  (λr s=>∃tail:List Int,(ix l++tail).length=n/\r=.ms 0 n 0 (ix l).length/\s=[.cells 3 1 ((ix l++tail).map R)]) (λ_ _=>False):=by
 refine ak.body Κ Tryz.func133 rfl rfl Tryz.ntmps133 rfl rfl (by simp) ?_;by_cases γ:(n:Int)<2
 ·(repeat (first|apply κ|(refine ξ λη I=>?_;simp;(repeat (rw[δ];simp[Ι,γ]));apply I)));refine al rfl ?_;(repeat (first|apply κ|(refine ξ λη I=>?_;simp;(repeat (rw[δ];simp[Ι]));apply I)));refine W.ret ⟨_,rfl,[],?_⟩;have e:ix l=l:=by
   match l,Ι with
   | [],_=>rfl
   | [a],_=>rfl
   | a::b::l,Ι=>simp at Ι;omega
  rw[e,List.append_nil,Ι];exact⟨rfl,rfl,rfl⟩
 (repeat (first|apply κ|(refine ξ λη I=>?_;simp;(repeat (rw[δ];simp[Ι,γ]));apply I)));refine aj rfl ?_;(repeat (first|apply κ|(refine ξ λη I=>?_;simp;(repeat (rw[δ];simp));apply I)));refine W.iter (λk:Nat=>1<=k/\k<=n/\ix (l.take k)=l.take k) (λk=>[(0,.ms 0 n 0 n),(3,R k)]) (λ_=>[.cells 3 1 (l.map R)]) (λk=>n-k) 1 ⟨Nat.le_refl _,by omega,by
  match l,Ι with
  | [],Ι=>rfl
  | a::l,Ι=>rfl⟩ rfl (by simp) (λk χ Δ=>?_)
 obtain⟨k1,cy,ra⟩:=χ;(repeat (first|apply κ|(refine ξ λη I=>?_;simp;(repeat (rw[δ];simp[Ι]));apply I)));by_cases ζ:k<n
 ·refine al (by simp[ζ]) ?_
  repeat apply κ
  obtain⟨p,ω⟩:∃p,k=p+1:=⟨k-1,by omega⟩;have n1:IntKind.i64.wrap ((k:Int)-1)=(p:Int):=by have:=gl (show p<2 ^ 62 by omega);rw[ω];simpa using this
  have rf:p<n:=by omega
  have e4:k<l.length:=by omega
  have eX:p<l.length:=by omega
  obtain⟨L,aD⟩:∃L,L=l.map R:=⟨_,rfl⟩;have j0:L.length=n:=by rw[aD];simpa using Ι
  obtain⟨a1,ba⟩:=Eg aD (a2 e4);obtain⟨bP,dw⟩:=Eg aD (a2 eX);refine W.to (σ':=[.cells 3 1 L]) (env':=[(0,.ms 0 n 0 n),(3,R k)]) ?_ (by rw[aD]) (by simp);generalize U:l[k]=x at a1 ba;generalize Ο:l[p]=y at bP dw;refine W.draw (A:=[]) Κ mixed λη I=>?_;simp;(repeat (rw[bD];simp[ζ,n1,j0,rf,a1,ba,bP,dw]));try rw[bC]
  refine⟨bW (by kernel_rfl),I _ _ ?_⟩;have dc:ix (l.take (k+1))=ix (l.take k)++if x=y then [] else [x]:=by
   rw[NO l (by omega) e4 (by omega)];simp only[ω,Nat.add_sub_cancel] at U ⊢;rw[U,Ο]
  by_cases xU:x=y
  ·refine al (by simp[xU]) ?_
   repeat apply κ
   refine W.fC (A:=[]) Κ [(0,.ms 0 n 0 n),(3,R k),(4,.ms 0 n k (n-k))] [.cells 3 1 L] ?_ (by
    (try simp);(repeat (rw[δ];simp[j0,Nat.le_of_lt ζ]));(try simp[j0,Nat.le_of_lt ζ]))
   (repeat (first|apply κ|(refine ξ λη I=>?_;simp;(repeat (rw[δ];simp));apply I)));have cE:ix (l.take (k+1))=l.take k:=by rw[dc,if_pos xU,List.append_nil,ra]
   refine W.iter (λq:Nat×Nat×List Int=>1<=q.2.1/\k+q.2.1<=n/\q.2.2.length=n/\q.1<k+q.2.1/\q.1=(ix (l.take (k+q.2.1))).length/\q.2.2.take q.1=ix (l.take (k+q.2.1))/\∀j,k+q.2.1-1<=j->j<n->q.2.2[j]?=l[j]?)
    (λq=>[(0,.ms 0 n 0 n),(3,R q.1),(4,.ms 0 n k (n-k)),(5,R q.2.1)]) (λq=>[.cells 3 1 (q.2.2.map R)]) (λq=>n-q.2.1) (k,1,l) ⟨Nat.le_refl _,by simp;omega,Ι,by simp,by simp only[cE];simp;omega,by simp only[cE],λj _ _=>rfl⟩ (by rw[aD]) (by simp) (λq Χ eg=>?_)
   obtain⟨m,cy,f⟩:=q;obtain⟨c1,c2,c3,c4,na,sk,q1⟩:=Χ;simp only at c1 c2 c3 c4 na sk q1;clear aD j0 a1 ba bP dw;(repeat (first|apply κ|(refine ξ λη I=>?_;simp;(repeat (rw[δ];simp[c3]));apply I)));by_cases hd:cy<n-k
   ·have tW:(cy:Int)<((n-k:Nat):Int):=by omega
    refine al (by simp[hd]) ?_
    repeat apply κ
    obtain⟨v9,kg⟩:∃r,cy=r+1:=⟨cy-1,by omega⟩;have fz:IntKind.i64.wrap ((cy:Int)-1)=(v9:Int):=by have:=gl (show v9<2 ^ 62 by omega);rw[kg];simpa using this
    have μ:v9<n-k:=by omega
    obtain⟨M,cd⟩:∃M,M=f.map R:=⟨_,rfl⟩;have Ig:M.length=n:=by rw[cd];simpa using c3
    have hu:f[k+cy]?=some (l[k+cy]'(by omega)):=by rw[q1 _ (by omega) (by omega),a2]
    have hv:f[k+v9]?=some (l[k+v9]'(by omega)):=by rw[q1 _ (by omega) (by omega),a2]
    have dU:=NO l (p:=k+cy) (by omega) (by omega) (by omega)
    have W1:l[k+cy-1]'(by omega)=l[k+v9]'(by omega):=by congr 1;omega
    rw[W1] at dU;generalize l[k+cy]'(by omega)=u at hu dU;generalize l[k+v9]'(by omega)=v at hv dU;obtain⟨ez,ed⟩:=Eg cd hu;obtain⟨v1,v2⟩:=Eg cd hv;refine W.to (σ':=[.cells 3 1 M]) (env':=[(0,.ms 0 n 0 n),(3,R m),(4,.ms 0 n k (n-k)),(5,R cy)]) ?_ (by rw[cd]) (by simp);have mf:m<n:=by omega
    refine W.draw (A:=[]) Κ mixed λη I=>?_;simp;(repeat (rw[bD];simp[hd,fz,μ,Ig,ez,ed,v1,v2]));try rw[bC]
    refine⟨bW (by kernel_rfl),I _ _ ?_⟩;by_cases Eh:u=v
    ·refine aj (by simp[Eh]) ?_;(repeat (first|apply κ|(refine ξ λη I=>?_;simp;(repeat (rw[δ];simp));apply I)));rw[if_pos Eh,List.append_nil] at dU;refine W.to (eg (m,cy+1,f) ⟨by simp,by simp;omega,c3,by simp;omega,by simp only[<-Nat.add_assoc,dU];exact na,by simp only[<-Nat.add_assoc,dU];exact sk,λj J γ=>q1 j (by simp at J;omega) γ⟩ (by simp;omega)) (by rw[cd]) ?_;have:=gl (show cy+1<2 ^ 62 by omega);simpa using this
    ·refine al (by simp[Eh]) ?_;rw[if_neg Eh] at dU
     repeat apply κ
     refine W.fC (A:=[]) Κ [(0,.ms 0 n 0 n),(3,R m),(4,.ms 0 n k (n-k)),(5,R cy)] [.cells 3 1 ((f.set m u).map R)] ?_ (by
      (try simp);(repeat (rw[δ];simp[hd,Ig,mf,ez,ed]));(try simp[hd,Ig,mf,ez,ed]);subst cd;simp)
     (repeat (first|apply κ|(refine ξ λη I=>?_;simp;(repeat (rw[δ];simp));apply I)));refine W.to (eg (m+1,cy+1,f.set m u) ⟨by simp,by simp;omega,by simpa using c3,by simp;omega,by simp only[<-Nat.add_assoc,dU];simp;exact na,?_,λj J γ=>?_⟩ (by simp;omega)) (by simp) ?_
     ·simp only[<-Nat.add_assoc,dU];rw[<-sk,List.take_succ_eq_append_getElem (by simp;omega),List.take_set_of_le (Nat.le_refl _)];simp
     ·simp at J;rw[List.getElem?_set_ne (by omega)];exact q1 j (by omega) γ
     ·have Ε:=gl (show cy+1<2 ^ 62 by omega)
      have Ζ:=gl (show m+1<2 ^ 62 by omega);simp at Ε Ζ ⊢;exact⟨Ζ,Ε⟩
   ·refine aj (by simp[hd]) ?_;refine W.exit rfl ?_;have he:k+cy=n:=by omega
    have W2:l.take n=l:=List.take_of_length_le (by omega);rw[he,W2] at na sk
    repeat apply κ
    have mf:m<=n:=by omega
    refine W.fC (A:=[]) Κ [(0,.ms 0 n 0 n),(3,R m)] [.cells 3 1 ((ix l++List.replicate (n-m) 0).map R)] ?_ (by
     (try simp);(repeat (rw[δ];simp[c3,mf]));(try simp[c3,mf]);rw[<-List.map_take,sk,List.drop_eq_nil_of_le (by simp;omega),List.append_nil])
    have W3:(ix l).length+(n-m)=n:=by omega
    (repeat (first|apply κ|(refine ξ λη I=>?_;simp;(repeat (rw[δ];simp[W3,mf]));apply I)));refine W.ret ⟨_,rfl,List.replicate (n-m) 0,by simp;omega,?_,by simp⟩;rw[<-na];rfl
  ·refine aj (by simp[xU]) ?_;(repeat (first|apply κ|(refine ξ λη I=>?_;simp;(repeat (rw[δ];simp));apply I)));refine W.to (Δ (k+1) ⟨by omega,by omega,?_⟩ (by omega)) (by rw[aD]) ?_
   ·rw[dc,if_neg xU,ra,<-U,<-List.take_succ_eq_append_getElem e4]
   ·have:=gl (show k+1<2 ^ 62 by omega);simpa using this
 ·refine aj (by simp[ζ]) ?_;refine W.exit rfl ?_;(repeat (first|apply κ|(refine ξ λη I=>?_;simp;(repeat (rw[δ];simp));apply I)));refine W.ret ⟨_,rfl,[],?_⟩;have e:ix l=l:=by rw[List.take_of_length_le (by omega)] at ra;exact ra
  rw[e,List.append_nil,Ι];exact⟨rfl,rfl,rfl⟩
def sJ:aR:=⟨[],[],[]⟩
theorem Ih {e f g:Bool} {a b c:Nat}:cC (.aW [.sl e a [],.sl f b [],.sl g c []]) (d' sJ):=.aW (.cons .nil (.cons .nil (.cons .nil .nil)))
abbrev NP (r:aR×List Found×Int):θ:=.bu [d' r.1,cR r.2.1,R r.2.2]
def fh (s:aR) (b5:Bool) (F:List Found):aR×List Found×Int:=
 if s.err≠0 then(sJ,[],s.err) else if b5=true/\F=[] then(s,[],9) else(s,F,0)
def n6 (s:aR) (cell:Int) (F:List Found):aR×List Found×Int:=
 if s.err≠0 then(sJ,[],s.err) else if cell<0\/(s.cells.length:Int)<=cell then(sJ,[],3) else fh s true F
def rj (s:aR) (F:List Found):Prop:=s.err=0->az Tryz.prog 116 [d' s] (cR F)
theorem AF (s:aR) (ο:s.small) (b5:Bool) (F:List Found) (gf:rj s F):az Tryz.prog 75 [d' s,bA b5] (NP (fh s b5 F)):=by
 refine ak.body Κ Tryz.func75 rfl rfl Tryz.ntmps75 rfl rfl (by simp) ?_
 repeat apply κ
 refine c7 (A:=[4]) Κ λη I=>?_;simp;(repeat (rw[δ];simp));apply I;(repeat apply κ);refine ξ λη I=>?_;simp;(repeat (rw[δ];simp));refine az.c (Ef s ο) (aK.refl _) (by simp) (by simp) ?_;simp;(repeat (rw[δ];simp));apply I;(repeat (first|apply κ|(refine ξ λη I=>?_;simp;(repeat (rw[δ];simp));apply I)));by_cases cK:s.err=0
 case neg=>
  have e:fh s b5 F=(sJ,[],s.err):=by unfold fh;rw[if_pos cK]
  rw[e];refine al (by simp[cK]) ?_;(repeat (first|apply κ|(refine ξ λη I=>?_;simp;(repeat (rw[δ];simp));apply I)));refine W.fix (id:=0) (σ':=[]) (Nat.zero_le _) rfl (by simp) (by simp) rfl [(4,.ad [.sl true 0 [],.sl true 0 [],.sl true 0 []]),(5,.sl true 0 []),(6,R s.err)] (by simp) ?_;refine W.ret ⟨_,rfl,?_,rfl⟩;exact .bu (.cons Ih (.cons .nil (.cons (.refl _) .nil)))
 refine aj (by simp[cK]) ?_
 repeat apply κ
 refine c7 (A:=[8]) Κ λη I=>?_;simp;(repeat (rw[δ];simp));apply I;(repeat apply κ);refine ξ λη I=>?_;simp;(repeat (rw[δ];simp));refine az.c (gf cK) (aK.refl _) (by simp) (by simp) ?_;simp;(repeat (rw[δ];simp));apply I
 repeat apply κ
 cases b5
 case false=>
  have e:fh s false F=(s,F,0):=by unfold fh;rw[if_neg (by simpa using cK),if_neg (by simp)]
  rw[e];(repeat (first|apply κ|(refine ξ λη I=>?_;simp;(repeat (rw[δ];simp));apply I)));refine aj rfl ?_;(repeat (first|apply κ|(refine ξ λη I=>?_;simp;(repeat (rw[δ];simp));apply I)));refine W.fix (id:=0) (σ':=[]) (Nat.zero_le _) rfl (by simp) (by simp) rfl [(4,.ad [aQ s.ai,aN s.ao,bl s.cells]),(5,cR F),(6,R 0)] (by simp) ?_;refine W.ret ⟨_,rfl,?_,rfl⟩;exact .refl _
 case true=>
  (repeat (first|apply κ|(refine ξ λη I=>?_;simp;(repeat (rw[δ];simp));apply I)));by_cases z:F=[]
  ·have e:fh s true F=(s,[],9):=by unfold fh;rw[if_neg (by simpa using cK),if_pos ⟨rfl,z⟩]
   rw[e];refine al (by simp[z]) ?_;(repeat (first|apply κ|(refine ξ λη I=>?_;simp;(repeat (rw[δ];simp));apply I)));refine W.fix (id:=0) (σ':=[]) (Nat.zero_le _) rfl (by simp) (by simp) rfl [(4,.ad [aQ s.ai,aN s.ao,bl s.cells]),(5,.sl true 0 []),(6,R 9)] (by simp) ?_;refine W.ret ⟨_,rfl,?_,rfl⟩;exact .bu (.cons (.refl _) (.cons .nil (.cons (.refl _) .nil)))
  ·have e:fh s true F=(s,F,0):=by unfold fh;rw[if_neg (by simpa using cK),if_neg (by simp[z])]
   rw[e];refine aj (by simp[z]) ?_;(repeat (first|apply κ|(refine ξ λη I=>?_;simp;(repeat (rw[δ];simp));apply I)));refine W.fix (id:=0) (σ':=[]) (Nat.zero_le _) rfl (by simp) (by simp) rfl [(4,.ad [aQ s.ai,aN s.ao,bl s.cells]),(5,cR F),(6,R 0)] (by simp) ?_;refine W.ret ⟨_,rfl,?_,rfl⟩;exact .refl _
theorem W4 (s:aR) (ο:s.small) (cell:Int) (F:List Found) (gf:rj s F):az Tryz.prog 82 [d' s,R cell] (NP (n6 s cell F)):=by
 refine ak.body Κ Tryz.func82 rfl rfl Tryz.ntmps82 rfl rfl (by simp) ?_
 repeat apply κ
 refine c7 (A:=[4]) Κ λη I=>?_;simp;(repeat (rw[δ];simp));apply I;(repeat apply κ);refine ξ λη I=>?_;simp;(repeat (rw[δ];simp));refine az.c (Ef s ο) (aK.refl _) (by simp) (by simp) ?_;simp;(repeat (rw[δ];simp));apply I;(repeat (first|apply κ|(refine ξ λη I=>?_;simp;(repeat (rw[δ];simp));apply I)));by_cases cK:s.err=0
 case neg=>
  have e:n6 s cell F=(sJ,[],s.err):=by unfold n6;rw[if_pos cK]
  rw[e];refine al (by simp[cK]) ?_;(repeat (first|apply κ|(refine ξ λη I=>?_;simp;(repeat (rw[δ];simp));apply I)));refine W.fix (id:=0) (σ':=[]) (Nat.zero_le _) rfl (by simp) (by simp) rfl [(4,.ad [.sl true 0 [],.sl true 0 [],.sl true 0 []]),(5,.sl true 0 []),(6,R s.err)] (by simp) ?_;refine W.ret ⟨_,rfl,?_,rfl⟩;exact .bu (.cons Ih (.cons .nil (.cons (.refl _) .nil)))
 refine aj (by simp[cK]) ?_;have cI:n6 s cell F=if cell<0\/(s.cells.length:Int)<=cell then(sJ,[],3) else fh s true F:=by unfold n6;rw[if_neg (by simpa using cK)]
 repeat apply κ
 refine W.tU (A:=[]) Κ [(22,bA (decide (cell<0)||decide ((s.cells.length:Int)<=cell))),(2,.ad [aQ s.ai,aN s.ao,bl s.cells]),(4,.Ψ 0 1 0 0),(1,R cell)] ?_ (by
  by_cases q:cell<0
  ·(try simp);(repeat (rw[δ];simp[q]));(try simp[q])
  ·(try simp);(repeat (rw[δ];simp[q]));(try simp[q]))
 by_cases bP:cell<0\/(s.cells.length:Int)<=cell
 ·rw[cI,if_pos bP];refine al (by simpa using bP) ?_;(repeat (first|apply κ|(refine ξ λη I=>?_;simp;(repeat (rw[δ];simp));apply I)));refine W.fix (id:=0) (σ':=[]) (Nat.zero_le _) rfl (by simp) (by simp) rfl [(4,.ad [.sl true 0 [],.sl true 0 [],.sl true 0 []]),(5,.sl true 0 []),(6,R 3)] (by simp) ?_;refine W.ret ⟨_,rfl,?_,rfl⟩;exact .bu (.cons Ih (.cons .nil (.cons (.refl _) .nil)))
 ·rw[cI,if_neg bP];refine aj (by simpa using bP) ?_;(repeat apply κ);refine ξ λη I=>?_;simp;(repeat (rw[δ];simp));refine az.c (AF s ο true F gf) (aK.refl _) (by simp) (by simp) ?_;simp;(repeat (rw[δ];simp));apply I;(repeat (first|apply κ|(refine ξ λη I=>?_;simp;(repeat (rw[δ];simp));apply I)));generalize fh s true F=r;refine W.fix (id:=0) (σ':=[]) (Nat.zero_le _) rfl (by simp) (by simp) rfl [(4,.ad [aQ r.1.ai,aN r.1.ao,bl r.1.cells]),(5,cR r.2.1),(6,R r.2.2)] (by simp) ?_;refine W.ret ⟨_,rfl,?_,rfl⟩;exact .refl _
def Small (F:List Found):Prop:=F.length<2 ^ 20/\(∀f∈F,f.cells.length<2 ^ 20/\(∀i,i<=f.cells.length->∀gB,h5 f.cells gB i<2 ^ 40)/\∀c∈f.cells,c.length<2 ^ 20)
theorem W5 (s:aR) (ο:s.small) (F:List Found) (gf:rj s F) (Τ:Small F) (ζ:gm F<2 ^ 62):az Tryz.prog 39 [d' s] (.bu [R (if s.err=0 then gm F else 0),R s.err]):=by
 refine ak.body Κ Tryz.func39 rfl rfl Tryz.ntmps39 rfl rfl (by simp) ?_;(repeat (first|apply κ|(refine ξ λη I=>?_;simp;(repeat (rw[δ];simp));apply I)));(repeat apply κ);refine c7 (A:=[4]) Κ λη I=>?_;simp;(repeat (rw[δ];simp));refine az.c (AF s ο false F gf) (aK.refl _) (by simp) (by simp) ?_;simp;(repeat (rw[δ];simp));apply I;have e:fh s false F=if s.err=0 then(s,F,0) else(sJ,[],s.err):=by
  unfold fh;by_cases b:s.err=0
  ·rw[if_neg (by simpa using b),if_neg (by simp),if_pos b]
  ·rw[if_pos b,if_neg b]
 have Ε:(fh s false F).2.1=if s.err=0 then F else []:=by rw[e];split<;>rfl
 have Ζ:(fh s false F).2.2=s.err:=by rw[e];split<;>simp[*]
 have fin:∀l:List Found,(∀f∈l,f∈F)->l.length<=F.length->gm l<2 ^ 62->az Tryz.prog 79 [cR l] (R (gm l)):=λl Α J γ=>
  NF l (by have:=Τ.1;omega) (λf U=>⟨by have:=(Τ.2 f (Α f U)).1;omega,λi hi=>by have:=(Τ.2 f (Α f U)).2.1 i hi (-1);omega⟩) γ
 rw[Ε,Ζ];by_cases b:s.err=0
 ·rw[if_pos b];(repeat apply κ);refine ξ λη I=>?_;simp;(repeat (rw[δ];simp));refine az.c (fin F (λf h=>h) (Nat.le_refl _) ζ) (aK.refl _) (by simp) (by simp) ?_;simp;(repeat (rw[δ];simp));apply I;refine W.drop (h:=0) (Nat.zero_le _) (Nat.zero_le _) (by simp) rfl [(2,R (gm F)),(3,R s.err)] (by simp) ?_;refine W.ret ⟨_,rfl,?_,rfl⟩;rw[if_pos b];exact .refl _
 ·rw[if_neg b];(repeat apply κ);refine ξ λη I=>?_;simp;(repeat (rw[δ];simp));refine az.c (fin [] (by simp) (by simp) (by simp[gm])) (aK.refl _) (by simp) (by simp) ?_;simp;(repeat (rw[δ];simp));apply I;refine W.drop (h:=0) (Nat.zero_le _) (Nat.zero_le _) (by simp) rfl [(2,R (gm [])),(3,R s.err)] (by simp) ?_;refine W.ret ⟨_,rfl,?_,rfl⟩;rw[if_neg b];exact .refl _
def kS (F:List Found):List (List Int):=F.map λf=>[f.u,f.v]
theorem NQ {α β:Type} (f:α->β) (l:List α) {i:Nat} (h:i<l.length):(l.take (i+1)).map f=(l.take i).map f++[f l[i]]:=by
 rw[List.take_succ_eq_append_getElem h,List.map_append];rfl
theorem W6 (s:aR) (ο:s.small) (F:List Found) (gf:rj s F) (Τ:F.length<2 ^ 20):az Tryz.prog 42 [d' s] (.bu [aN (if s.err=0 then kS F else []),R s.err]):=by
 refine ak.body Κ Tryz.func42 rfl rfl Tryz.ntmps42 rfl rfl (by simp) ?_;(repeat (first|apply κ|(refine ξ λη I=>?_;simp;(repeat (rw[δ];simp));apply I)));(repeat apply κ);refine c7 (A:=[4]) Κ λη I=>?_;simp;(repeat (rw[δ];simp));refine az.c (AF s ο false F gf) (aK.refl _) (by simp) (by simp) ?_;simp;(repeat (rw[δ];simp));apply I;have e:fh s false F=if s.err=0 then(s,F,0) else(sJ,[],s.err):=by
  unfold fh;by_cases b:s.err=0
  ·rw[if_neg (by simpa using b),if_neg (by simp),if_pos b]
  ·rw[if_pos b,if_neg b]
 have Ε:(fh s false F).2.1=if s.err=0 then F else []:=by rw[e];split<;>rfl
 have Ζ:(fh s false F).2.2=s.err:=by rw[e];split<;>simp[*]
 obtain⟨G,cX⟩:∃G,G=if s.err=0 then F else []:=⟨_,rfl⟩
 have gQ:G.length<2 ^ 20:=by rw[cX];split;exact Τ;simp
 have l':(if s.err=0 then kS F else [])=kS G:=by rw[cX];split<;>rfl
 rw[Ε,Ζ,l',<-cX];clear cX l' e Ε Ζ;generalize s.err=fz;refine W.drop (h:=0) (σ':=[]) (Nat.zero_le _) (Nat.zero_le _) (by simp) rfl [(5,cR G),(6,R fz)] (by simp) ?_;(repeat (first|apply κ|(refine ξ λη I=>?_;simp;(repeat (rw[δ];simp));apply I)));have iΚ:∀i,(kS G).take i=kS (G.take i):=λi=>by simp[kS]
 refine W.iter (λi:Nat=>i<=G.length) (λi=>[(6,R fz),(7,eQ ((kS (G.take i)).map cu)),(16,cR G),(17,R G.length),(18,R i)])
  (λi=>aL 29 1 ((kS (G.take i)).map cu)) (λi=>G.length-i) 0 (Nat.zero_le _) rfl (by simp[p1,kS]) (λi hi Δ=>?_)
 (repeat (first|apply κ|(refine ξ λη I=>?_;simp;(repeat (rw[δ];simp));apply I)));refine W.en rfl (λζ=>?_) (λζ=>?_)
 ·have ζ:i<G.length:=by simpa using ζ
  have dc:(kS (G.take (i+1))).map cu=(kS (G.take i)).map cu++[cu [G[i].u,G[i].v]]:=by
   unfold kS;rw[List.map_map,List.map_map,NQ _ _ ζ];rfl
  have NR:=λh=>sI (t:=29) (k:=1) (h:=h) (AE (L:=kS (G.take i)))
  have W7:((kS (G.take i)).map cu).length<=i:=by simp[kS];omega
  obtain⟨L,aD⟩:∃L,L=(kS (G.take i)).map cu:=⟨_,rfl⟩;rw[<-aD] at NR W7 dc;refine W.to (σ':=aL 29 1 L) (env':=[(6,R fz),(7,eQ L),(16,cR G),(17,R G.length),(18,R i)]) ?_ (by rw[aD]) (by rw[aD];simp)
  repeat apply κ
  refine c7 (A:=[9]) Κ λη I=>?_;simp;(repeat (rw[δ];simp[ζ]));apply I;refine W.nn (Nat.zero_le _) (NR _) (by simp) [(9,.ad [R G[i].u,R G[i].v,my G[i].cells]),(6,R fz),(7,eQ L),(16,cR G),(17,R G.length),(18,R i)] (by simp) ?_
  repeat apply κ
  refine W.fC (A:=[26]) Κ [(6,R fz),(7,eQ (L++[cu [G[i].u,G[i].v]])),(16,cR G),(17,R G.length),(18,R i)] (aL 29 1 (L++[cu [G[i].u,G[i].v]])) ?_ (by
   by_cases Η:L=[]
   ·subst Η;(try simp);(repeat (rw[δ];simp[p1,h6]));(try simp[p1,h6]);exact⟨rfl,rfl⟩
   ·have mB:L.length<=4294967295:=by omega
    (try simp);(repeat (rw[δ];simp[ri Η,c8 Η,yc,sH]));(try simp[ri Η,c8 Η,yc,sH]);exact mB)
  (repeat (first|apply κ|(refine ξ λη I=>?_;simp;(repeat (rw[δ];simp));apply I)));refine W.to (Δ (i+1) ζ (by omega)) ?_ ?_
  ·rw[dc]
  ·rw[dc];simp[e6 ζ (show G.length<2 ^ 62 by omega)]
 ·have ζ:i=G.length:=by simp at ζ;omega
  subst ζ;refine W.exit rfl ?_;(repeat (first|apply κ|(refine ξ λη I=>?_;simp;(repeat (rw[δ];simp));apply I)));refine W.NN (d:=2) AE [(3,R fz)] (by simp) (by simp) ?_;refine W.ret ⟨_,rfl,?_,rfl⟩;exact .bu (.cons .Ie (.cons (.refl _) .nil))
abbrev oY (l:List Int):List Int:=l.mergeSort (λx y=>decide (x<=y))
def Ii (N:Nat):Prop:=∀(l:List Int),l.length<=N->ak Tryz.prog 132 [.ms 0 l.length 0 l.length] [.cells 3 1 (l.map R)] (λr s=>r=.bu []/\s=[.cells 3 1 ((oY l).map R)]) (λ_ _=>False)
def mC (lower:Bool) (r:Int×Int):Int:=if lower then r.2 else r.1
def n7 (lower:Bool) (A:List Int) (C:List (Int×Int)) (j:Nat):List Int:=A++(C.take j).map (mC lower)
theorem NS {lower:Bool} {A:List Int} {C:List (Int×Int)}:n7 lower A C 0=A:=by simp[n7]
theorem W8 {lower:Bool} {A:List Int} {C:List (Int×Int)} {j:Nat} (h:j<C.length):n7 lower A C (j+1)=n7 lower A C j++[mC lower C[j]]:=by
 unfold n7;rw[NQ _ _ h,List.append_assoc]
theorem NT {lower:Bool} {A:List Int} {C:List (Int×Int)} {j:Nat} (h:C.length<=j):n7 lower A C j=A++C.map (mC lower):=by
 unfold n7;rw[List.take_of_length_le h]
theorem W9 {lower:Bool} {A:List Int} {C:List (Int×Int)} {j:Nat}:(n7 lower A C j).length<=A.length+j:=by
 unfold n7;simp;omega
def NU (f:Found) (cell:Nat) (lower:Bool):List Int:=((f.cells[cell]?).getD []).map (mC lower)
def j3 (F:List Found) (cell:Nat) (lower:Bool):List Int:=F.flatMap λf=>NU f cell lower
def p5 (F:List Found) (cell:Nat) (lower:Bool):List Int:=ix (oY (j3 F cell lower))
theorem Ij {l:List Int}:∀e∈l.map R,∀a∈e.cells,av 0 a:=by
 intro e he a ν;obtain⟨x,_,rfl⟩:=List.mem_map.1 he;simp[θ.cells] at ν;subst ν;simp
theorem W' (F:List Found) (cell:Nat) (lower:Bool) (gf:F.length<2 ^ 20) (im:∀f∈F,cell<f.cells.length/\∀c∈f.cells,c.length<2 ^ 20) (N:Nat) (ck:N<2 ^ 20) (gi:Ii N) (bw:j3 F cell lower≠[]) (hle:(j3 F cell lower).length<=N) :
  az Tryz.prog 95 [cR F,R cell,bA lower] (bf R 1 (p5 F cell lower)):=by
 refine ak.body Κ Tryz.func95 rfl rfl Tryz.ntmps95 rfl rfl (by simp) ?_;(repeat (first|apply κ|(refine ξ λη I=>?_;simp;(repeat (rw[δ];simp));apply I)));refine W.iter (λi:Nat=>i<=F.length) (λi=>[(1,R cell),(2,bA lower),(7,eQ ((j3 (F.take i) cell lower).map R)),(12,cR F),(13,R F.length),(14,R i)])
  (λi=>aL 3 1 ((j3 (F.take i) cell lower).map R)) (λi=>F.length-i) 0 (Nat.zero_le _) rfl (by simp[j3,p1]) (λi hi Δ=>?_)
 (repeat (first|apply κ|(refine ξ λη I=>?_;simp;(repeat (rw[δ];simp));apply I)));have Xa:∀i,(j3 (F.take i) cell lower).length<=N:=λi=>by
  have e:j3 F cell lower=j3 (F.take i) cell lower++j3 (F.drop i) cell lower:=by
   conv=>lhs;rw[<-List.take_append_drop i F]
   simp only[j3,List.flatMap_append]
  rw[e,List.length_append] at hle;omega
 refine W.en rfl (λζ=>?_) (λζ=>?_)
 ·have a9:i<F.length:=by simpa using ζ
  obtain⟨bj,ml⟩:=im _ (List.getElem_mem a9);have hC:F[i].cells[cell].length<2 ^ 20:=ml _ (List.getElem_mem bj);obtain⟨A,bU⟩:∃A,A=j3 (F.take i) cell lower:=⟨_,rfl⟩;have dc:j3 (F.take (i+1)) cell lower=A++F[i].cells[cell].map (mC lower):=by
   rw[bU];unfold j3;rw[List.take_succ_eq_append_getElem a9,List.flatMap_append];simp[NU,bj]
  have NV:(A++F[i].cells[cell].map (mC lower)).length<=N:=by rw[<-dc];exact Xa _
  rw[List.length_append,List.length_map] at NV;refine W.to (σ':=aL 3 1 (A.map R)) (env':=[(1,R cell),(2,bA lower),(7,eQ (A.map R)),(12,cR F),(13,R F.length),(14,R i)]) ?_ (by rw[bU]) (by rw[bU];simp)
  repeat apply κ
  refine c7 (A:=[9]) Κ λη I=>?_;simp;(repeat (rw[δ];simp[a9]));apply I;refine W.nn (Nat.zero_le _) (sI Ij) (by simp) [(9,.ad [R F[i].u,R F[i].v,my F[i].cells]),(1,R cell),(2,bA lower),(7,eQ (A.map R)),(12,cR F),(13,R F.length),(14,R i)] (by simp) ?_;(repeat (first|apply κ|(refine ξ λη I=>?_;simp;(repeat (rw[δ];simp[bj]));apply I)));generalize iΜ:F[i].cells[cell]=C at hC dc NV;refine W.iter (λj:Nat=>j<=C.length) (λj=>[(1,R cell),(2,bA lower),(7,eQ ((n7 lower A C j).map R)),(12,cR F),(13,R F.length),(14,R i),(22,mx C),(23,R C.length),(24,R j)])
   (λj=>aL 3 1 ((n7 lower A C j).map R)) (λj=>C.length-j) 0 (Nat.zero_le _) (by rw[NS]) (by simp[NS]) (λj ε eg=>?_)
  (repeat (first|apply κ|(refine ξ λη I=>?_;simp;(repeat (rw[δ];simp));apply I)));refine W.en rfl (λa4=>?_) (λa4=>?_)
  ·have bp:j<C.length:=by simpa using a4
   obtain⟨L,aD⟩:∃L,L=n7 lower A C j:=⟨_,rfl⟩;have mD:L.length<=A.length+j:=by rw[aD];exact W9
   have AG:n7 lower A C (j+1)=L++[mC lower C[j]]:=by rw[aD];exact W8 bp
   refine W.to (σ':=aL 3 1 (L.map R)) (env':=[(1,R cell),(2,bA lower),(7,eQ (L.map R)),(12,cR F),(13,R F.length),(14,R i),(22,mx C),(23,R C.length),(24,R j)]) ?_ (by rw[aD]) (by rw[aD];simp)
   repeat apply κ
   refine c7 (A:=[11]) Κ λη I=>?_;simp;(repeat (rw[δ];simp[bp]));apply I;refine W.nn (Nat.zero_le _) (sI Ij) (by simp) [(11,.ad [R C[j].1,R C[j].2]),(1,R cell),(2,bA lower),(7,eQ (L.map R)),(12,cR F),(13,R F.length),(14,R i),(22,mx C),(23,R C.length),(24,R j)] (by simp) ?_
   repeat apply κ
   generalize C[j]=r at AG;refine W.fC (A:=[34]) Κ [(1,R cell),(2,bA lower),(7,eQ ((L++[mC lower r]).map R)),(12,cR F),(13,R F.length),(14,R i),(22,mx C),(23,R C.length),(24,R j)] (aL 3 1 ((L++[mC lower r]).map R)) ?_ (by
    have mB:L.length<=4294967295:=by omega
    rw[List.map_append];cases lower
    all_goals
     by_cases Η:L.map R=[]
     ·rw[Η,p1,h6];(try simp);(repeat (rw[δ];simp));(try simp[]);refine az.c (H7 _) (aK.refl _) (by simp) (by simp) ?_;simp;(repeat (rw[δ];simp));(try simp[aL,eQ,mC])
     ·rw[ri Η,c8 Η];(try simp);(repeat (rw[δ];simp));(try simp[]);refine az.c (H7 _) (aK.refl _) (by simp) (by simp) ?_;simp;(repeat (rw[δ];simp));(try simp[sH,yc,mC,mB]))
   (repeat (first|apply κ|(refine ξ λη I=>?_;simp;(repeat (rw[δ];simp));apply I)));refine W.to (eg (j+1) bp (by omega)) ?_ ?_
   ·rw[AG,List.map_append];rfl
   ·rw[AG];simp[e6 bp (show C.length<2 ^ 62 by omega)]
  ·have bp:C.length<=j:=by simpa using a4
   refine W.exit rfl ?_;(repeat (first|apply κ|(refine ξ λη I=>?_;simp;(repeat (rw[δ];simp));apply I)));refine W.to (Δ (i+1) a9 (by omega)) ?_ ?_
   ·rw[dc,NT bp]
   ·rw[dc,NT bp];simp[e6 a9 (show F.length<2 ^ 62 by omega)]
 ·have a9:i=F.length:=by simp at ζ;omega
  refine W.exit rfl ?_;rw[a9,List.take_length];obtain⟨M,cd⟩:∃M,M=j3 F cell lower:=⟨_,rfl⟩;rw[<-cd] at bw hle ⊢;have Ei:M.map R≠[]:=by simpa using bw
  have kJ:p5 F cell lower=ix (oY M):=by rw[cd];rfl
  have mE:(oY M).length=M.length:=by simp[oY]
  refine W.to (σ':=[.cells 3 1 (M.map R)]) (env':=[(7,.ms 0 M.length 0 M.length)]) ?_ (c8 Ei) (by simp[ri Ei]);(repeat apply κ);refine ξ λη I=>?_;simp;(repeat (rw[δ];simp));refine ak.one (gi M hle) 0 rfl (pU ub) (pU ub) (by simp[lI]) (by simp[fS]) (by simp[lJ]) ?_;simp[dI,hN];(repeat (rw[δ];simp));apply I;(repeat apply κ);refine ξ λη I=>?_;simp;(repeat (rw[δ];simp));have sK:=W0 (oY M) M.length mE (by omega);refine ak.H9 sK 0 rfl (pU ub) (by simp[lI]) (by simp[lJ]) (λa s ⟨tail,J,γ,π⟩=>⟨_,π,pU ub,by subst γ;simp[lI],?_⟩);subst γ;simp[lJ];(repeat (rw[δ];simp));apply I;refine W.cut 0 (Nat.zero_le _) [(6,bf R 1 (ix (oY M)))] (by simp) (by simp) ?_ ?_
  ·intro p ω;simp at ω;subst ω;have ω:=eE.part (σ:=[.cells 3 1 ((ix (oY M)).map R++tail.map R)]) (id:=0) (t:=3) (k:=1) (l:=(ix (oY M)).map R) (l2:=tail.map R) (m:=(ix (oY M)).length) rfl (by simp) Ij;have e:((ix (oY M)).map R++tail.map R).length=M.length:=by rw[<-List.map_append,List.length_map];exact J
   rw[e] at ω;exact ω
  ·rw[kJ];refine W.ret ⟨_,rfl,?_,rfl⟩;exact .refl _
end Go.TL
