import Derived.Test.YtlabjopijpkiaaaGreatSAL
import Derived.Test.YtlabjopijpkiaaaGreatSAN
import Derived.Test.YtlabjopijpkiaaaGreatSAP
import Derived.Test.YtlabjopijpkiaaaGreatSAQ
set_option maxHeartbeats 16000000
set_option maxRecDepth 20000
set_option linter.unusedSectionVars false
set_option linter.unusedSimpArgs false
set_option linter.unusedVariables false
namespace Go.TL
open Go.Conc
variable [bm]
structure Base where
 S:aB
 B:aR
 H:Α
 σ:List Row
 m:Nat
def V (P:Program) (Q:Value->Prop) (mn:Bool) (x:gN) (b:Frame) (cs:List Frame) (nt:Nat) (o:Base) (k:List Item) (env:aa) (σ:List Row):Prop:=
 ∀(S:aB) (B:aR) (H:Α) (t:Array Value),eU o.m o.S o.B o.H o.σ S B H σ->fx o.m nt S B H σ env t->aM P Q mn x (ar b t k) cs H
def X9 (P:Program) (Q:Value->Prop) (mn:Bool) (x:gN) (b:Frame) (cs:List Frame) (o:Base) (a:θ) (env:aa) (σ:List Row):Prop:=
 ∀(S:aB) (B:aR) (H:Α) (t:Array Value) (k:List Item) (v:Value),eU o.m o.S o.B o.H o.σ S B H σ->Holds S B σ H->de S B σ env t->ao S B σ a v->aM P Q mn x {ar b t k with mode:=.panicking [{v,recovered:=false}]} cs H
structure wc (P:Program) (d:Deferred) (g:FuncId) (vs:Array Value):Prop where
 t1:∀r,d.target≠.collected r
 t2:d.target≠.nil
 run:∀w,(invoke d.target d.args).runT P w #[]=(.ok (.enter g vs) w,#[])
section
variable {P:Program} {T:bd} {A:List Nat} {Q:Value->Prop} {mn:Bool} {x:gN} {b:Frame} {cs:List Frame} {m nt:Nat} {o:Base} {k:List Item} {env:aa} {σ:List Row} {S ax:aB} {B B':aR} {H H':Α} {σ':List Row} {t:Array Value} {Z:List Item->aa->List Row->Prop} {E:θ->aa->List Row->Prop}
theorem V.bh (U:Seq x) (hb:b.mode=.run) (h:W P o.m nt k env σ (V P Q mn x b cs nt o) (X9 P Q mn x b cs o)):V P Q mn x b cs nt o k env σ:=
 λS B H t ξ ψ=>h Q mn x cs b S B H t U hb ψ (λj env' σ' ax B' H' t' ab Θ dO fX ω=>by
  have e:ab=j:=ω;subst e;exact Θ ax B' H' t' (ξ.trans dO) fX) (λa env' σ' ax B' H' t' ab v he dO Β ο μ=>he ax B' H' t' ab v (ξ.trans dO) Β ο μ)
theorem V.here (h:V P Q mn x b cs nt ⟨S,B,H,σ,m⟩ k env σ) (ψ:fx m nt S B H σ env t):aM P Q mn x (ar b t k) cs H:=h S B H t .refl ψ
theorem W.cj {id:Nat} {ops:Array Oper} (h:W P m nt (.inRegion ops (idx ops.size [])::k) env σ Z E):W P m nt (.code (.region id ops false)::k) env σ Z E:=
 λQ mn x cs b S B H t U hb ψ Θ he=>.region U hb (by rw[<-idx_eq];exact h Q mn x cs b S B H t U hb ψ Θ he)
theorem W.part (Κ:bR P T) (is oa:List Nat) {ops:Array Oper} {l:List Nat} (ω:l=is++oa) (h:∀η:aa->List Row->Prop,(∀env σ,W P m nt (.inRegion ops oa::k) env σ Z E->η env σ)->run P T A nt ops is env σ η E):W P m nt (.inRegion ops l::k) env σ Z E:=
 ω▸HR Κ oa is env σ (h _ λ_ _ h=>h)
theorem Iq (ο:de S B σ env t) (args:Array Operand):fy S B σ (args.toList.map (aQ env)) (args.map (bs t)):=by
 refine⟨by simp,λi a v J γ=>?_⟩;rw[List.getElem?_map,Array.getElem?_toList] at J;rw[Array.getElem?_map] at γ;cases U:args[i]? with
 | none=>rw[U] at J;cases J
 | some y=>rw[U] at J γ;cases J;cases γ;exact lJ ο y
theorem Plain.enter {g:FuncId} (h:Plain P g) (vs:Array Value) (w:World):(callFunc g vs).runT P w #[]=(.ok (.enter g vs) w,#[]):=by
 obtain⟨fn,J,γ,π⟩:=h;unfold callFunc;show Sem.runT P (Sem.bind program λp=>_) w #[]=_;simp only[program,Sem.bind];show Sem.runT P (match P.funcs[g]? with|none=>_|some fn=>_) w #[]=_;rw[J];simp only[γ,π,Bool.false_eq_true,if_false];rfl
theorem fx.put {op:Oper} {a:θ} {v:Value} (ψ:fx m nt S B H σ env t) (hd:hT nt op=true) (ξ:ao S B σ a v):fx m nt S B H σ (ca op env a) (put op t v):=
 ⟨ψ.holds,(re ψ.cp hd ψ.size ξ).1,(re ψ.cp hd ψ.size ξ).2,ψ.rows⟩
theorem eU.all (h:eU m S B H σ ax B' H' σ') (Β:Holds S B σ H) (hm:σ.length<=m):b3 S ax B B' σ σ':=by
 have:=h.later
 rwa [List.take_of_length_le (by rw[Β.len];exact hm),List.take_of_length_le hm] at this
theorem V.defer (U:Seq x) (hb:b.mode=.run) (cd:b.roundOf=none) {ops:Array Oper} {i:Nat} {rest:List Nat} {op:Oper} (Γ:ops[i]?=some op) (hw:fz env ops op=some true) (rf:op.dst=none) {f:Operand} {args:Array Operand} {dS:Array TypeId} (Ν:op.op=.defer ⟨.value f,args,dS⟩)
  {g:FuncId} {first captured:List θ} (Φ:aQ env f=.fn (.func g) first captured) (Υ:Plain P g)
  (h:∀(S:aB) (B:aR) (H:Α) (t:Array Value) (d:Deferred) (vs:Array Value),eU o.m o.S o.B o.H o.σ S B H σ->fx o.m nt S B H σ env t->fy S B σ (first++args.toList.map (aQ env)++captured) vs->wc P d g vs->
   aM P Q mn x (ar {b with defers:=d::b.defers} t (.inRegion ops rest::k)) cs H):V P Q mn x b cs nt o (.inRegion ops (i::rest)::k) env σ:=by
 intro S B H t ξ ψ;refine .op U hb Γ (j3 ψ.cp hw) (.inl cd) ?_;have bV:=lJ ψ.cp f;rw[Φ] at bV;have mG:=Iq ψ.cp args;have e:execOp (bs t) op=(do pure (.defer (<-Deferred.ofValue (bs t f) (args.map (bs t))))):=by unfold execOp;rw[Ν];rfl
 rw[e];generalize bs t f=an at bV;cases bV with
 | fn v1 v2 J γ π Μ=>
  refine υ.bind' (υ.pure' (υ.pure' ?_));have Oj:put op t undef=t:=by unfold put;rw[rf]
  simp only[MW,Oj];have r1:fy S B σ first v1:=⟨J,π⟩
  have r2:fy S B σ captured v2:=⟨γ,Μ⟩;exact h S B H t ⟨.fn (.func g) v2,v1++args.map (bs t)⟩ (v1++args.map (bs t)++v2) ξ ψ ((r1.append mG).append r2) ⟨λ_ h=>(by cases h),λh=>(by cases h),λw=>Υ.enter _ w⟩
theorem aM.recovered (U:Seq x) (hb:b.mode=.run) (cd:b.roundOf=none) {ops:Array Oper} {i:Nat} {rest:List Nat} {op:Oper} (Γ:ops[i]?=some op) (Υ:op.guard=none) {dS:Array TypeId} (Ν:op.op=.call ⟨.builtin .recover,#[],dS⟩) {v:Value} {cs':List Frame}
  (μ:(tryRecover (ar b t (.inRegion ops (i::rest)::k)) cs=some (v,cs'))\/(tryRecover (ar b t (.inRegion ops (i::rest)::k)) cs=none/\v=.nilIface/\cs'=cs))
  (h:aM P Q mn x (ar b (put op t v) (.inRegion ops rest::k)) cs' H):aM P Q mn x (ar b t (.inRegion ops (i::rest)::k)) cs H:=by
 refine .op U hb Γ (by unfold Region.wanted;rw[Υ]) (.inl cd) ?_;have e:execOp (bs t) op=pure .recover:=by unfold execOp;rw[Ν];rfl
 rw[e];refine υ.pure' ⟨cd,?_⟩;rcases μ with μ|⟨μ,rfl,rfl⟩
 ·rw[μ];exact h
 ·rw[μ];exact h
end
theorem results_none {fn:Func} (h:fn.results=#[]) (t:Array Value):results fn t=pure (.tuple #[]):=by
 unfold results;rw[h];simp
theorem qj {P:Program} {g:FuncId} {fn:Func} {body:Code} (cf:P.funcs[g]?=some fn) (nv:fn.body=some body) (vs:Array Value) (kd:CallKind):Frame.enter P g vs kd=ar (Frame.enter P g vs kd) (vs++Array.replicate (fn.ntmps-vs.size) undef) [.code body]:=by
 simp[Frame.enter,ar,cf,nv]
theorem fx.enter {S:aB} {B:aR} {H:Α} {σ:List Row} {qk:List θ} {vs:Array Value} {nt m:Nat} (Β:Holds S B σ H) (hv:fy S B σ qk vs) (hm:m<=σ.length) (Η:qk.length<=nt):fx m nt S B H σ (entry 0 qk) (vs++Array.replicate (nt-vs.size) undef):=
 ⟨Β,NS hv _,by have:=hv.1;simp;omega,hm⟩
end Go.TL
namespace Go.TL
open Go.Proofs
variable [bm]
def ij (s:aL) (before:List eF) (p:eF):Int:=
 if p.cL<0\/(s.ai.length:Int)<=p.cL then 3 else if before.any (λx=>x.cL==p.cL) then 4 else if valid p.seen=false\/valid p.bare=false then 1 else if lT p.seen p.bare=0 then 0 else 9
theorem X' (p x:eF):ay Tryz.prog 195 [eB x,.Ψ [R p.cL,R p.seen,R p.bare]] (a4 (x.cL==p.cL)):=by
 refine ak.body Ι Tryz.func195 rfl rfl Tryz.ntmps195 rfl rfl (by simp) ?_;(repeat (first|apply κ|(refine ν λη I=>?_;simp;(repeat (rw[δ];simp));apply I)));refine W.ret ⟨_,rfl,?_,rfl⟩;exact .of (by simp[])
theorem Ya (s:aL) (before:List eF) (ω:before.length<2 ^ 62) (p:eF):ak Tryz.prog 153 [eV s,qe before,eB p] [] (λa σ=>ij s before p=0/\a=.bn []/\σ=[]) (λa σ=>ij s before p≠0/\a=.fF 38 (R (ij s before p))/\σ=[]):=by
 refine ak.body Ι Tryz.func153 rfl rfl Tryz.ntmps153 rfl rfl (by simp) ?_;(repeat (first|apply κ|(refine ν λη I=>?_;simp;(repeat (rw[δ];simp));apply I)));refine W.DU (A:=[]) Ι mixed [(6,R p.seen),(7,R p.bare),(1,qe before),(3,.Ψ [aO s.ae,aI s.ai,bf s.cells]),(5,.Ψ [R p.cL,R p.seen,R p.bare])] ?_ (by simp[ba,a'];exact bK (by kernel_rfl))
 repeat apply κ
 refine W.sJ (A:=[]) Ι [(12,a4 (decide (p.cL<0)||decide ((s.ai.length:Int)<=p.cL))),(6,R p.seen),(7,R p.bare),(1,qe before),(3,.Ψ [aO s.ae,aI s.ai,bf s.cells]),(5,.Ψ [R p.cL,R p.seen,R p.bare])] ?_ (by by_cases q:p.cL<0<;>simp[δ,qc,q]);by_cases bG:p.cL<0\/(s.ai.length:Int)<=p.cL
 case pos=>
  have e:ij s before p=3:=by unfold ij;rw[if_pos bG]
  rw[e];refine aj (by simpa using bG) ?_;(repeat apply κ);refine ν λη I=>?_;simp;(repeat (rw[δ];simp))
 refine ah (by simpa using bG) ?_;(repeat apply κ);refine ν λη I=>?_;simp;(repeat (rw[δ];simp));refine ay.c (X4 before (.fn (.func 195) [] [.Ψ [R p.cL,R p.seen,R p.bare]]) (λx=>x.cL==p.cL) ω (by simp[lP]) (λx _=>λ_=>(X' p x).cc (by simp;exact aK.refl _) (by simp) (by simp) ⟨rfl,rfl⟩)) (aK.refl _) (by simp[lP]) (by simp) ?_;simp;(repeat (rw[δ];simp));apply I;cases dj:before.any (λx=>x.cL==p.cL)
 case true=>
  have e:ij s before p=4:=by unfold ij;rw[if_neg bG,if_pos dj]
  rw[e];refine aj (by simp) ?_;(repeat apply κ);refine ν λη I=>?_;simp;(repeat (rw[δ];simp))
 refine ah (by simp) ?_
 repeat apply κ
 have Ol:(valid p.seen=false\/valid p.bare=false)->ij s before p=1:=λh=>by unfold ij;rw[if_neg bG,dj];simp[h]
 cases fT:valid p.seen
 case false=>
  rw[Ol (.inl fT)];(repeat apply κ);refine ν λη I=>?_;simp;(repeat (rw[δ];simp));refine ay.c (xZ p.seen) (aK.refl _) (by simp) (by simp) ?_;simp[fT];(repeat (rw[δ];simp[fT]));apply I;refine aj rfl ?_;(repeat apply κ);refine ν λη I=>?_;simp;(repeat (rw[δ];simp))
 cases mm:valid p.bare
 case false=>
  rw[Ol (.inr mm)];(repeat apply κ);refine ν λη I=>?_;simp;(repeat (rw[δ];simp));refine ay.c (xZ p.seen) (aK.refl _) (by simp) (by simp) ?_;simp[fT];(repeat (rw[δ];simp[fT]));refine ay.c (xZ p.bare) (aK.refl _) (by simp) (by simp) ?_;simp[mm];(repeat (rw[δ];simp[mm]));apply I;refine aj rfl ?_;(repeat apply κ);refine ν λη I=>?_;simp;(repeat (rw[δ];simp))
 (repeat apply κ);refine ν λη I=>?_;simp;(repeat (rw[δ];simp));refine ay.c (xZ p.seen) (aK.refl _) (by simp) (by simp) ?_;simp[fT];(repeat (rw[δ];simp[fT]));refine ay.c (xZ p.bare) (aK.refl _) (by simp) (by simp) ?_;simp[mm];(repeat (rw[δ];simp[mm]));apply I;refine ah rfl ?_;(repeat apply κ);refine ν λη I=>?_;simp;(repeat (rw[δ];simp));refine ay.c (Od p.seen p.bare) (aK.refl _) (by simp) (by simp) ?_;simp;(repeat (rw[δ];simp));apply I;by_cases uk:lT p.seen p.bare=0
 ·have e:ij s before p=0:=by unfold ij;rw[if_neg bG,dj];simp[fT,mm,uk]
  refine ah (by simp[uk]) ?_;(repeat (first|apply κ|(refine ν λη I=>?_;simp;(repeat (rw[δ];simp));apply I)));exact W.nil ⟨_,rfl,e,rfl,rfl⟩
 ·have e:ij s before p=9:=by unfold ij;rw[if_neg bG,dj];simp[fT,mm,uk]
  rw[e];refine aj (by simp[uk]) ?_;(repeat apply κ);refine ν λη I=>?_;simp;(repeat (rw[δ];simp))
end Go.TL
namespace Go.TL
open Go.Proofs Go.Conc
variable [bm]
theorem fy.later {S ax:aB} {B B':aR} {σ σ':List Row} {l:List θ} {vs:Array Value} (h:fy S B σ l vs) (ω:b3 S ax B B' σ σ'):fy ax B' σ' l vs:=⟨h.1,λi a v J γ=>(h.2 i a v J γ).later ω⟩
theorem vU.fin {P:Program} {Q:Value->Prop} {mn:Bool} {x:gN} {c:Frame} {rest:List Frame} {S ax:aB} {H H':Α} {B':aR} {σ':List Row} {v:Value} {r:θ} (hb:vU P Q mn x c rest S [] H [] (λa s=>cG a r/\s=[]) (λ_ _=>False))
  (he:Ext S [] H ax B' H') (Β:Holds ax B' σ' H') (μ:∀S B σ,ao S B σ r v):aM P Q mn x (c.finish v) rest H':=by
 obtain⟨J,γ⟩:=Β.close (h:=0) (λid r bW=>by omega);simp only[List.take_zero] at J γ;exact hb.ret r [] _ [] H' v ⟨.refl _,rfl⟩ (he.trans γ) ⟨λb o v hv=>γ.dd _ _ _ (he.dd _ _ _ hv),λid r h=>by simp at h⟩ J (μ _ _ _)
abbrev sS (e:Int):List Row:=[.cells 38 1 [R e]]
section
variable {Q:Value->Prop} {mn:Bool} {x:gN} {c f:Frame} {rest:List Frame} {S bJ:aB} {bO:aR} {H H1:Α} {cv e:Int} {pf:Array Value} {t:Array Value} {env:aa} {err:Int}
theorem Om (U:Seq x) (hb:vU Tryz.prog Q mn x c rest S [] H [] (λa s=>cG a (R err)/\s=[]) (λ_ _=>False)) {d:Deferred} (hd:wc Tryz.prog d 152 pf)
  (cf:f.fn=122) (eC:f.defers=[d]) (χ:f.kind=.normal) (cd:f.roundOf=none) (hm:(f.mode=.returning/\cv=err)\/∃v,f.mode=.panicking [{v,recovered:=false}]/\ao bJ bO (sS cv) (.fF 38 (R err)) v)
  (ql:Ext S [] H bJ bO H1) (Β:Holds bJ bO (sS cv) H1) (hv:fy bJ bO (sS cv) [.al 0 1 0 0] pf) (ο:de bJ bO (sS cv) env f.tmps) (bc:a3 env 6=.al 0 1 0 0):aM Tryz.prog Q mn x f (c::rest) H1:=by
 have Yb:f.mode≠.run:=by rcases hm with⟨h,_⟩|⟨v,h,_⟩<;>rw[h]<;>simp
 refine aM.deferred U Yb eC hd.t1 hd.t2 hd.run ?_;rw[qj Tryz.func152 rfl];have fin:∀(f':Frame) (jI:aB) (pg:aR) (jJ:Α),f'.mode=.returning->f'.defers=[]->f'.kind=.normal->f'.fn=f.fn->f'.tmps=f.tmps->Ext bJ bO H1 jI pg jJ->b3 bJ jI bO pg (sS cv) (sS err)->Holds jI pg (sS err) jJ->aM Tryz.prog Q mn x f' (c::rest) jJ:=λf' jI pg jJ eN ej um x2 Ak c9 aC kJ=>by
  refine aM.back U eN ej (.inl um) (fn:=Tryz.f122) (by rw[x2,cf];exact Tryz.func122) ?_;rw[Ak];refine υ.mono (λv hI ⟨ik,jK,eZ,vb,aA,y2⟩=>?_) (λ_ _ h=>h) _ (DC Ι (a:=R err) (show ri a6 [.cell 6 38] env (sS err)=some (R err) by simp[ri,sK,xT,bc,vW,ia.agg]) kJ (ο.later aC));cases y2;exact hb.fin (ql.trans (c9.trans eZ)) aA λ_ _ _=>.z _
 refine V.here (m:=1) (nt:=10) (env:=entry 0 [.al 0 1 0 0]) ?_ (fx.enter Β hv (by simp) (by simp));refine V.bh U rfl ?_
 repeat apply κ
 refine W.cj ?_;refine W.stop ?_;intro kA kB jb t3 gI eW;rcases hm with⟨hm,rfl⟩|⟨v,hm,nE⟩
 ·refine aM.recovered U rfl rfl rfl rfl rfl (v:=.nilIface) (.inr ⟨?_,rfl,rfl⟩) ?_
  ·simp[tryRecover,ar,Frame.enter,hm]
  ·refine V.here (m:=1) ?_ (eW.put rfl (.z .nilIface));refine V.bh U rfl ?_;refine W.part (A:=[]) Ι [1,2,3,4,5,6] [] rfl λη I=>?_;simp[vE];(repeat (rw[δ];simp[vE]));apply I;refine W.bF ?_;(repeat (first|apply κ|(refine ν λη I=>?_;simp;(repeat (rw[δ];simp));apply I)));refine ah rfl ?_;(repeat (first|apply κ|(refine ν λη I=>?_;simp;(repeat (rw[δ];simp));apply I)));refine W.stop ?_;intro jI pg jJ t4 sT qm;refine .sm U rfl rfl ?_;refine aM.G5 U rfl rfl rfl Tryz.func152 ?_;rw[results_none rfl];refine υ.pure' ?_;simp only[hm];exact fin _ jI pg jJ rfl rfl χ rfl rfl (gI.ext.trans sT.ext) ((gI.trans sT).all Β (by simp)) qm.holds
 ·have sU:ao kA kB (sS cv) (.fF 38 (R err)) v:=nE.later (gI.all Β (by simp));refine aM.recovered U rfl rfl rfl rfl rfl (v:=v) (cs':={f with defers:=[],mode:=.panicking [{v,recovered:=true}]}::c::rest) (.inl ?_) ?_
  ·simp[tryRecover,ar,Frame.enter,hm]
  ·refine V.here (m:=1) ?_ (eW.put rfl sU);refine V.bh U rfl ?_;refine W.part (A:=[]) Ι [1,2,3,4,5,6] [] rfl λη I=>?_;simp[vE];(repeat (rw[δ];simp[vE]));apply I;refine W.bF ?_;(repeat (first|apply κ|(refine ν λη I=>?_;simp;(repeat (rw[δ];simp));apply I)));refine aj rfl ?_;(repeat (first|apply κ|(refine ν λη I=>?_;simp;(repeat (rw[δ];simp));apply I)));refine W.stop ?_;intro jI pg jJ t4 sT qm;refine .sm U rfl rfl ?_;refine aM.G5 U rfl rfl rfl Tryz.func152 ?_;rw[results_none rfl];refine υ.pure' ?_;exact fin _ jI pg jJ rfl rfl χ rfl rfl (gI.ext.trans sT.ext) ((gI.trans sT).all Β (by simp)) qm.holds
end
theorem Yc (s:aL) (before:List eF) (ω:before.length<2 ^ 62) (p:eF):ay Tryz.prog 122 [eV s,qe before,eB p] (R (ij s before p)):=by
 refine⟨⟨_,Tryz.func122,rfl,rfl⟩,λQ mn x c rest S B H vs U Β hv hb=>?_⟩;have e':B=[]:=dp.1 (by have:=Β.len;simpa using this);subst e';rw[qj Tryz.func122 rfl];refine V.here (m:=0) (nt:=12) (env:=entry 0 [eV s,qe before,eB p]) ?_ (fx.enter Β hv (by simp) (by simp));refine V.bh U rfl ?_
 repeat apply κ
 refine dw (A:=[6]) Ι λη I=>?_;simp;(repeat (rw[δ];simp));apply I
 repeat apply κ
 refine W.cj ?_;refine W.part (A:=[]) Ι [0] [1] rfl λη I=>?_;(try simp);(repeat (rw[δ];simp));apply I;refine W.stop ?_;refine V.defer U rfl rfl rfl rfl rfl rfl rfl ⟨_,Tryz.func152,rfl,rfl⟩ λbJ bO H1 t1 d pf oi mN mH hd=>?_;refine V.here (m:=1) ?_ ⟨mN.holds,mN.cp,mN.size,by simp⟩;refine V.bh U rfl ?_;refine W.bF ?_;(repeat apply κ);refine ν λη I=>?_;simp;(repeat (rw[δ];simp));refine hG.mono (ak.call (first:=[]) (captured:=[]) ((Ya s before ω p).mono (K':=λa bq=>ij s before p=0/\au 0 a/\bq=[]) (E':=λa bq=>(ij s before p≠0/\a=.fF 38 (R (ij s before p)))/\au 0 a/\bq=[]) (λa bq ⟨J,γ,π⟩=>⟨J,by subst γ;simp,π⟩) (λa bq ⟨J,γ,π⟩=>⟨⟨J,γ⟩,by subst γ;simp,π⟩) |>.frame (by simp))) (λa bq ⟨ag,ο⟩=>?_) (λa bq ⟨⟨ag,ξ⟩,ο⟩=>?_)
 ·subst ο;(try simp);(repeat (rw[δ];simp));apply I;(repeat (first|apply κ|(refine ν λη I=>?_;simp;(repeat (rw[δ];simp));apply I)));refine W.stop ?_;intro cT e3 bN t2 nF mO;refine aM.ret (b:={Frame.enter Tryz.prog 122 vs .normal with defers:=[d]}) U rfl rfl ?_;exact Om U hb hd rfl rfl rfl rfl (.inl ⟨rfl,ag.symm⟩) (oi.ext.trans nF.ext) mO.holds (mH.later (nF.all mN.holds (by simp))) mO.cp rfl
 ·subst ο;subst ξ;intro cT e3 bN t2 cC v nF iU dP rq;have sV:=nF.all mN.holds (by simp);refine Om U hb hd rfl rfl rfl rfl (.inr ⟨v,rfl,rq⟩) (oi.ext.trans nF.ext) iU (mH.later sV) dP ?_;rfl
end Go.TL
namespace Go.TL
open Go.Proofs
variable [bm]
theorem Yd:IntKind.i64.wrap 3=3:=by decide
def we (l:List Int) (i:Nat):Int:=match l[i]? with
 | none=>0
 | some n=>if j6 n=false then 3 else if 0<i/\n<=(l[i-1]?).getD 0 then 5 else 0
def x3 (l:List Int):Int:=iI ((List.range l.length).map (we l))
def oj (ls:List (List Int)):Int:=if ls.length=0 then 7 else if 4<ls.length then 6 else iI ((List.range ls.length).map λi=>x3 ((ls[i]?).getD []))
theorem Ye (s:aL) (ο:s.small):ay Tryz.prog 104 [eV s] (R (oj s.ai)):=by
 refine ak.body Ι Tryz.func104 rfl rfl Tryz.ntmps104 rfl rfl (by simp) ?_;have ω:=ο.2.1;by_cases hE:s.ai.length=0
 ·(repeat (first|apply κ|(refine ν λη I=>?_;simp;(repeat (rw[δ];simp[hE]));apply I)));refine aj (by simp) ?_;(repeat (first|apply κ|(refine ν λη I=>?_;simp;(repeat (rw[δ];simp));apply I)));refine W.ret ⟨_,rfl,?_,rfl⟩;exact .of (by rw[show oj s.ai=7 by simp[oj,hE]];rfl)
 by_cases pe:(4:Int)<s.ai.length
 ·(repeat (first|apply κ|(refine ν λη I=>?_;simp;(repeat (rw[δ];simp[hE,pe]));apply I)));refine ah (by simp[hE]) ?_;(repeat (first|apply κ|(refine ν λη I=>?_;simp;(repeat (rw[δ];simp[hE,pe]));apply I)));refine aj (by simp) ?_;(repeat (first|apply κ|(refine ν λη I=>?_;simp;(repeat (rw[δ];simp));apply I)));refine W.ret ⟨_,rfl,?_,rfl⟩;exact .of (by rw[show oj s.ai=6 by simp[oj,hE];omega];rfl)
 have Aj:oj s.ai=iI ((List.range s.ai.length).map λi=>x3 ((s.ai[i]?).getD [])):=by
  unfold oj;rw[if_neg hE,if_neg (by omega)]
 rw[Aj];(repeat (first|apply κ|(refine ν λη I=>?_;simp;(repeat (rw[δ];simp[hE,pe]));apply I)));refine ah (by simp[hE]) ?_;(repeat (first|apply κ|(refine ν λη I=>?_;simp;(repeat (rw[δ];simp[hE,pe]));apply I)));refine ah (by simp) ?_;(repeat (first|apply κ|(refine ν λη I=>?_;simp;(repeat (rw[δ];simp));apply I)));refine W.iter (λi:Nat=>i<=s.ai.length/\∀j,j<i->x3 ((s.ai[j]?).getD [])=0) (λi=>[(1,.Ψ [aO s.ae,aI s.ai,bf s.cells]),(18,aI s.ai),(19,R s.ai.length),(20,R i)]) (λ_=>[]) (λi=>s.ai.length-i) 0 ⟨by omega,λj ε=>by omega⟩ rfl (by simp) (λi hi Δ=>?_);(repeat (first|apply κ|(refine ν λη I=>?_;simp;(repeat (rw[δ];simp));apply I)));refine W.en rfl (λζ=>?_) (λζ=>?_)
 ·have ζ:i<s.ai.length:=by simpa using ζ
  have qi:(s.ai[i]?).getD []=s.ai[i]:=by simp[ζ]
  have ψ:s.ai[i].length<2 ^ 30:=ο.2.2.2.1 _ (List.getElem_mem ζ);(repeat (first|apply κ|(refine ν λη I=>?_;simp;(repeat (rw[δ];simp[ζ]));apply I)));refine W.iter (λn:Nat=>n<=s.ai[i].length/\∀j,j<n->we s.ai[i] j=0) (λn=>[(1,.Ψ [aO s.ae,aI s.ai,bf s.cells]),(18,aI s.ai),(19,R s.ai.length),(20,R i),(4,aP R 1 s.ai[i]),(24,aP R 1 s.ai[i]),(25,R s.ai[i].length),(26,R n)]) (λ_=>[]) (λn=>s.ai[i].length-n) 0 ⟨by omega,λj ε=>by omega⟩ rfl (by simp) (λn Η Ir=>?_);(repeat (first|apply κ|(refine ν λη I=>?_;simp;(repeat (rw[δ];simp));apply I)));refine W.en rfl (λa5=>?_) (λa5=>?_)
  ·have hd:n<s.ai[i].length:=by simpa using a5
   have ph:s.ai[i][n]?=some s.ai[i][n]:=aW hd
   have fin:∀e:Int,we s.ai[i] n=e->e≠0->iI ((List.range s.ai.length).map λi=>x3 ((s.ai[i]?).getD []))=e:=λe he ag=>
    Ah (i:=i) ζ (by rw[qi];exact Ah hd he ag Η.2) ag hi.2
   repeat apply κ
   refine ν λη I=>?_;simp;(repeat (rw[δ];simp[hd]));apply I;(repeat apply κ);refine ν λη I=>?_;simp;(repeat (rw[δ];simp));refine ay.c (pa s.ai[i][n]) (aK.refl _) (by simp) (by simp) ?_;simp;(repeat (rw[δ];simp));apply I;cases bG:j6 s.ai[i][n]
   ·refine aj (by simp) ?_;(repeat (first|apply κ|(refine ν λη I=>?_;simp;(repeat (rw[δ];simp));apply I)));refine W.ret ⟨_,rfl,?_,rfl⟩;exact .of (by rw[fin 3 (by simp[we,ph,bG]) (by decide)];rfl)
   refine ah (by simp) ?_
   repeat apply κ
   refine W.sJ (A:=[]) Ι [(35,a4 (decide (0<n/\s.ai[i][n]<=(s.ai[i][n-1]?).getD 0))),(1,.Ψ [aO s.ae,aI s.ai,bf s.cells]),(18,aI s.ai),(19,R s.ai.length),(20,R i),(4,aP R 1 s.ai[i]),(24,aP R 1 s.ai[i]),(25,R s.ai[i].length),(26,R n)] ?_ (by
    cases n with
    | zero=>simp[δ,qc]
    | succ n=>
     have j8:n<s.ai[i].length:=by omega
     have Ζ:=fJ (show n<2 ^ 62 by omega)
     have ag:(0:Int)<(n:Int)+1:=by omega
     simp[δ,qc,ag,j8,Ζ])
   by_cases dj:0<n/\s.ai[i][n]<=(s.ai[i][n-1]?).getD 0
   ·refine aj (by simp only[dj];rfl) ?_;(repeat (first|apply κ|(refine ν λη I=>?_;simp;(repeat (rw[δ];simp));apply I)));refine W.ret ⟨_,rfl,?_,rfl⟩;exact .of (by rw[fin 5 (by simp only[we,ph,bG];rw[if_neg (by simp),if_pos dj]) (by decide)];rfl)
   ·refine ah (by simp only[dj];rfl) ?_;(repeat (first|apply κ|(refine ν λη I=>?_;simp;(repeat (rw[δ];simp));apply I)));refine W.forget _ ?_ (Ir (n+1) ⟨hd,λj ε=>?_⟩ (by omega))
    ·simp[fe hd (show s.ai[i].length<2 ^ 62 by omega)]
    ·by_cases e:j=n
     ·subst e;simp only[we,ph,bG];rw[if_neg (by simp),if_neg dj]
     ·exact Η.2 j (by omega)
  ·have hd:s.ai[i].length<=n:=by simpa using a5
   refine W.exit rfl ?_;(repeat (first|apply κ|(refine ν λη I=>?_;simp;(repeat (rw[δ];simp));apply I)));refine W.forget _ ?_ (Δ (i+1) ⟨ζ,λj ε=>?_⟩ (by omega))
   ·simp[fe ζ (show s.ai.length<2 ^ 62 by omega)]
   ·by_cases e:j=i
    ·subst e;rw[qi];exact Ai λj ε=>Η.2 j (by omega)
    ·exact hi.2 j (by omega)
 ·have ζ:s.ai.length<=i:=by simpa using ζ
  refine W.exit rfl ?_;(repeat (first|apply κ|(refine ν λη I=>?_;simp;(repeat (rw[δ];simp));apply I)));refine W.ret ⟨_,rfl,?_,rfl⟩;exact .of (by rw[Ai (f:=λi=>x3 ((s.ai[i]?).getD [])) λj ε=>hi.2 j (by omega)];rfl)
def qn (s:aL) (c:List eF):Int:=if 4<c.length then 6 else iI ((List.range c.length).map λi=>match c[i]? with|none=>0|some p=>ij s (c.take i) p)
def sW (s:aL):Int:=if 4<s.cells.length then 6 else iI ((List.range s.cells.length).map λi=>qn s ((s.cells[i]?).getD []))
theorem Yf (s:aL) (ο:s.small):ay Tryz.prog 105 [eV s] (R (sW s)):=by
 refine ak.body Ι Tryz.func105 rfl rfl Tryz.ntmps105 rfl rfl (by simp) ?_;have ω:=ο.2.2.1;by_cases pe:(4:Int)<s.cells.length
 ·(repeat (first|apply κ|(refine ν λη I=>?_;simp;(repeat (rw[δ];simp[pe]));apply I)));refine aj (by simp) ?_;(repeat (first|apply κ|(refine ν λη I=>?_;simp;(repeat (rw[δ];simp));apply I)));refine W.ret ⟨_,rfl,?_,rfl⟩;exact .of (by rw[show sW s=6 by simp[sW];omega];rfl)
 have Aj:sW s=iI ((List.range s.cells.length).map λi=>qn s ((s.cells[i]?).getD [])):=by
  unfold sW;rw[if_neg (by omega)]
 rw[Aj];(repeat (first|apply κ|(refine ν λη I=>?_;simp;(repeat (rw[δ];simp[pe]));apply I)));refine ah (by simp) ?_;(repeat (first|apply κ|(refine ν λη I=>?_;simp;(repeat (rw[δ];simp));apply I)));refine W.iter (λi:Nat=>i<=s.cells.length/\∀j,j<i->qn s ((s.cells[j]?).getD [])=0) (λi=>[(1,.Ψ [aO s.ae,aI s.ai,bf s.cells]),(13,bf s.cells),(14,R s.cells.length),(15,R i)]) (λ_=>[]) (λi=>s.cells.length-i) 0 ⟨by omega,λj ε=>by omega⟩ rfl (by simp) (λi hi Δ=>?_);(repeat (first|apply κ|(refine ν λη I=>?_;simp;(repeat (rw[δ];simp));apply I)));refine W.en rfl (λζ=>?_) (λζ=>?_)
 ·have ζ:i<s.cells.length:=by simpa using ζ
  have qi:(s.cells[i]?).getD []=s.cells[i]:=by simp[ζ]
  have ψ:s.cells[i].length<2 ^ 30:=ο.2.2.2.2 _ (List.getElem_mem ζ)
  have On:∀e:Int,qn s s.cells[i]=e->e≠0->iI ((List.range s.cells.length).map λi=>qn s ((s.cells[i]?).getD []))=e:=λe he ag=>
   Ah (i:=i) ζ (by rw[qi];exact he) ag hi.2
  by_cases Oo:(4:Int)<s.cells[i].length
  ·(repeat (first|apply κ|(refine ν λη I=>?_;simp;(repeat (rw[δ];simp[ζ,Oo]));apply I)));refine aj (by simp) ?_;(repeat (first|apply κ|(refine ν λη I=>?_;simp;(repeat (rw[δ];simp));apply I)));refine W.ret ⟨_,rfl,?_,rfl⟩;exact .of (by rw[On 6 (by unfold qn;rw[if_pos (by omega)]) (by decide)];rfl)
  (repeat (first|apply κ|(refine ν λη I=>?_;simp;(repeat (rw[δ];simp[ζ,Oo]));apply I)));refine ah (by simp) ?_;(repeat (first|apply κ|(refine ν λη I=>?_;simp;(repeat (rw[δ];simp));apply I)));have Oq:qn s s.cells[i]=iI ((List.range s.cells[i].length).map λn=>match s.cells[i][n]? with|none=>0|some p=>ij s (s.cells[i].take n) p):=by unfold qn;rw[if_neg (by omega)]
  refine W.iter (λn:Nat=>n<=s.cells[i].length/\∀j,j<n->(match s.cells[i][j]? with|none=>0|some p=>ij s (s.cells[i].take j) p)=0) (λn=>[(1,.Ψ [aO s.ae,aI s.ai,bf s.cells]),(13,bf s.cells),(14,R s.cells.length),(15,R i),(4,qe s.cells[i]),(22,qe s.cells[i]),(23,R s.cells[i].length),(24,R n)]) (λ_=>[]) (λn=>s.cells[i].length-n) 0 ⟨by omega,λj ε=>by omega⟩ rfl (by simp) (λn Η Ir=>?_);(repeat (first|apply κ|(refine ν λη I=>?_;simp;(repeat (rw[δ];simp));apply I)));refine W.en rfl (λa5=>?_) (λa5=>?_)
  ·have hd:n<s.cells[i].length:=by simpa using a5
   have ph:s.cells[i][n]?=some s.cells[i][n]:=aW hd
   repeat apply κ
   refine dw (A:=[6]) Ι λη I=>?_;simp;(repeat (rw[δ];simp[hd]));apply I;refine W.fix (id:=0) (σ':=[]) (Nat.zero_le _) rfl (by simp) (by simp) rfl [(5,R n),(6,.Ψ [R s.cells[i][n].cL,R s.cells[i][n].seen,R s.cells[i][n].bare]),(1,.Ψ [aO s.ae,aI s.ai,bf s.cells]),(13,bf s.cells),(14,R s.cells.length),(15,R i),(4,qe s.cells[i]),(22,qe s.cells[i]),(23,R s.cells[i].length),(24,R n)] (by simp) ?_
   repeat apply κ
   refine W.draw (A:=[]) Ι mixed λη I=>?_;simp;(repeat (rw[ba];simp[hd,Nat.le_of_lt hd]));try rw[a']
   (try simp only[<-List.map_take]);refine fI (ay.p (Yc s (s.cells[i].take n) (by simp;omega) s.cells[i][n]) (aK.refl _) (by simp) (by simp)) ?_;simp;(repeat (rw[ba];simp));try rw[a']
   refine⟨bK (by kernel_rfl),I _ _ ?_⟩
   repeat apply κ
   (repeat (first|apply κ|(refine ν λη I=>?_;simp;(repeat (rw[δ];simp));apply I)));by_cases b:ij s (s.cells[i].take n) s.cells[i][n]=0
   ·refine ah (by simp[b]) ?_;(repeat (first|apply κ|(refine ν λη I=>?_;simp;(repeat (rw[δ];simp));apply I)));refine W.forget _ ?_ (Ir (n+1) ⟨hd,λj ε=>?_⟩ (by omega))
    ·simp[fe hd (show s.cells[i].length<2 ^ 62 by omega)]
    ·by_cases e:j=n
     ·subst e;rw[ph];exact b
     ·exact Η.2 j (by omega)
   ·refine aj (by simp[b]) ?_;(repeat (first|apply κ|(refine ν λη I=>?_;simp;(repeat (rw[δ];simp));apply I)));refine W.ret ⟨_,rfl,?_,rfl⟩;exact .of (by rw[On (ij s (s.cells[i].take n) s.cells[i][n]) (by rw[Oq];exact Ah hd (by rw[ph]) b Η.2) b];rfl)
  ·have hd:s.cells[i].length<=n:=by simpa using a5
   refine W.exit rfl ?_;(repeat (first|apply κ|(refine ν λη I=>?_;simp;(repeat (rw[δ];simp));apply I)));refine W.forget _ ?_ (Δ (i+1) ⟨ζ,λj ε=>?_⟩ (by omega))
   ·simp[fe ζ (show s.cells.length<2 ^ 62 by omega)]
   ·by_cases e:j=i
    ·subst e;rw[qi,Oq];exact Ai λj ε=>Η.2 j (by omega)
    ·exact hi.2 j (by omega)
 ·have ζ:s.cells.length<=i:=by simpa using ζ
  refine W.exit rfl ?_;(repeat (first|apply κ|(refine ν λη I=>?_;simp;(repeat (rw[δ];simp));apply I)));refine W.ret ⟨_,rfl,?_,rfl⟩;exact .of (by rw[Ai (f:=λi=>qn s ((s.cells[i]?).getD [])) λj ε=>hi.2 j (by omega)];rfl)
def aL.err (s:aL):Int:=if oh s.ae≠0 then oh s.ae else if oj s.ai≠0 then oj s.ai else sW s
theorem Is (s:aL) (ο:s.small):ay Tryz.prog 48 [eV s] (R s.err):=by
 refine ak.body Ι Tryz.func48 rfl rfl Tryz.ntmps48 rfl rfl (by simp) ?_;(repeat (first|apply κ|(refine ν λη I=>?_;simp;(repeat (rw[δ];simp));apply I)));refine .loop ?_;(repeat (first|apply κ|(refine ν λη I=>?_;simp;(repeat (rw[δ];simp));apply I)));refine aj rfl ?_;(repeat (first|apply κ|(refine ν λη I=>?_;simp;(repeat (rw[δ];simp));apply I)));(repeat apply κ);refine ν λη I=>?_;simp;(repeat (rw[δ];simp));refine ay.c (X8 s ο) (aK.refl _) (by simp) (by simp) ?_;simp;(repeat (rw[δ];simp));apply I;(repeat (first|apply κ|(refine ν λη I=>?_;simp;(repeat (rw[δ];simp));apply I)));by_cases bG:oh s.ae=0
 case neg=>
  refine aj (by simp[bG]) ?_;(repeat (first|apply κ|(refine ν λη I=>?_;simp;(repeat (rw[δ];simp));apply I)));refine W.ret ⟨_,rfl,?_,rfl⟩;exact .of (by rw[show s.err=oh s.ae by unfold aL.err;rw[if_pos bG]];rfl)
 refine ah (by simp[bG]) ?_;(repeat (first|apply κ|(refine ν λη I=>?_;simp;(repeat (rw[δ];simp[Ih]));apply I)));refine .inLoop ?_;(repeat (first|apply κ|(refine ν λη I=>?_;simp;(repeat (rw[δ];simp));apply I)));refine aj rfl ?_;(repeat (first|apply κ|(refine ν λη I=>?_;simp;(repeat (rw[δ];simp));apply I)));(repeat apply κ);refine ν λη I=>?_;simp;(repeat (rw[δ];simp));refine ay.c (Ye s ο) (aK.refl _) (by simp) (by simp) ?_;simp;(repeat (rw[δ];simp));apply I;(repeat (first|apply κ|(refine ν λη I=>?_;simp;(repeat (rw[δ];simp));apply I)));by_cases dj:oj s.ai=0
 case neg=>
  refine aj (by simp[dj]) ?_;(repeat (first|apply κ|(refine ν λη I=>?_;simp;(repeat (rw[δ];simp));apply I)));refine W.ret ⟨_,rfl,?_,rfl⟩;exact .of (by rw[show s.err=oj s.ai by unfold aL.err;rw[if_neg (by simp[bG]),if_pos dj]];rfl)
 refine ah (by simp[dj]) ?_;(repeat (first|apply κ|(refine ν λη I=>?_;simp;(repeat (rw[δ];simp[Ii]));apply I)));refine .inLoop ?_;(repeat (first|apply κ|(refine ν λη I=>?_;simp;(repeat (rw[δ];simp));apply I)));refine aj rfl ?_;(repeat (first|apply κ|(refine ν λη I=>?_;simp;(repeat (rw[δ];simp));apply I)));(repeat apply κ);refine ν λη I=>?_;simp;(repeat (rw[δ];simp));refine ay.c (Yf s ο) (aK.refl _) (by simp) (by simp) ?_;simp;(repeat (rw[δ];simp));apply I;(repeat (first|apply κ|(refine ν λη I=>?_;simp;(repeat (rw[δ];simp));apply I)));have e:s.err=sW s:=by unfold aL.err;rw[if_neg (by simp[bG]),if_neg (by simp[dj])]
 rw[e];by_cases fT:sW s=0
 case neg=>
  refine aj (by simp[fT]) ?_;(repeat (first|apply κ|(refine ν λη I=>?_;simp;(repeat (rw[δ];simp));apply I)));refine W.ret ⟨_,rfl,?_,rfl⟩;exact .of rfl
 refine ah (by simp[fT]) ?_;(repeat (first|apply κ|(refine ν λη I=>?_;simp;(repeat (rw[δ];simp[Yd]));apply I)));refine .inLoop ?_;(repeat (first|apply κ|(refine ν λη I=>?_;simp;(repeat (rw[δ];simp));apply I)));refine ah rfl ?_;refine W.exit rfl ?_;(repeat (first|apply κ|(refine ν λη I=>?_;simp;(repeat (rw[δ];simp));apply I)));refine W.ret ⟨_,rfl,?_,rfl⟩;exact .of (by rw[fT];rfl)
section
variable {P:Program} {T:bd} {A:List Nat} {m nt:Nat} {k:List Item} {env:aa} {σ:List Row} {Z:List Item->aa->List Row->Prop} {E:θ->aa->List Row->Prop}
theorem W.fL (Κ:bR P T) (env':aa) (σ':List Row) {id:Nat} {ops:Array Oper} (h:W P m nt k env' σ' Z E) (μ:run P T A nt ops (idx ops.size []) env σ (λe s=>s=σ'/\∀p∈env',a3 e p.1=p.2) E):W P m nt (.code (.region id ops false)::k) env σ Z E:=
 dw Κ λη I=>Dy (λe s ⟨J,γ⟩=>I e s (J▸W.forget env' γ h)) _ _ _ μ
end
def ee (l:List θ):θ:=if l.isEmpty then .sl true 0 [] else .ms 0 l.length 0 l.length
def bj (t:TypeId) (k:Nat) (l:List θ):List Row:=if l.isEmpty then [] else [.cells t k l]
def fA (k:Nat) (l:List θ):θ:=if l.isEmpty then .sl true 0 [] else .sl false k l
theorem pj:ee []=.sl true 0 []:=rfl
theorem iJ {t k:Nat}:bj t k []=[]:=rfl
theorem rr {l:List θ} (h:l≠[]):ee l=.ms 0 l.length 0 l.length:=by unfold ee;rw[if_neg (by simpa using h)]
theorem dY {t k:Nat} {l:List θ} (h:l≠[]):bj t k l=[.cells t k l]:=by unfold bj;rw[if_neg (by simpa using h)]
theorem x4 {l:List θ} {x:θ}:ee (l++[x])=.ms 0 (l.length+1) 0 (l.length+1):=by rw[rr (by simp)];simp
theorem sX {t k:Nat} {l:List θ} {x:θ}:bj t k (l++[x])=[.cells t k (l++[x])]:=dY (by simp)
theorem ed.acc {t k:Nat} {l:List θ} (hb:∀e∈l,∀a∈e.cells,au 0 a):ed 0 (bj t k l) (ee l) (fA k l):=by
 unfold bj ee fA;cases h:l.isEmpty with
 | true=>exact .low (by simp)
 | false=>exact .own (Nat.zero_le _) rfl rfl hb
theorem cG.acc {k:Nat} {l:List θ}:cG (fA k l) (.sl false k l):=by
 unfold fA;cases h:l.isEmpty with
 | true=>rw[List.isEmpty_iff.1 h];exact .nil
 | false=>exact .refl _
@[simp] theorem lυ {α:Type} {l:List α} {a b:α}:(l++[a]).set l.length b=l++[b]:=by rw[List.set_append_right _ _ (Nat.le_refl _),Nat.sub_self];rfl
@[simp] theorem lφ {t k:Nat} {l:List θ}:au (bj t k l).length (ee l):=by
 unfold ee bj;cases l.isEmpty<;>simp[nx]
theorem au.mono {h cJ:Nat} {a:θ} (hb:au h a) (aU:h<=cJ):au cJ a:=by
 induction hb with
 | z v=>exact .z v
 | cg=>exact .cg
 | Ψ _ Δ=>exact .Ψ Δ
 | sl _ Δ=>exact .sl Δ
 | aS _ Δ=>exact .aS Δ
 | bn _ Δ=>exact .bn Δ
 | fn _ _ so mz=>exact .fn so mz
 | fF _ Δ=>exact .fF Δ
 | al h=>exact .al (by omega)
 | ms h=>exact .ms (by omega)
 | mp h=>exact .mp (by omega)
 | it h=>exact .it (by omega)
theorem Al {t k h:Nat} {l:List θ} (hb:∀e∈l,∀a∈e.cells,au 0 a):∀r∈bj t k l,eK h r:=by
 intro r μ;unfold bj at μ;cases ω:l.isEmpty with
 | true=>rw[ω] at μ;simp at μ
 | false=>
  rw[ω] at μ;simp at μ;subst μ;exact λe he a ξ=>(hb e he a ξ).mono (Nat.zero_le _)
section
variable {P:Program} {m nt:Nat} {k:List Item} {env:aa} {Z:List Item->aa->List Row->Prop} {E:θ->aa->List Row->Prop}
theorem W.pk {σ0:List Row} {t:TypeId} {e:θ} {kk:Nat} (hm:m<=σ0.length) (n':∀r∈σ0,eK σ0.length r) (he:∀a∈e.cells,au σ0.length a) (env':aa)
  (cD:∀p∈env',(a3 env p.1=p.2/\au σ0.length p.2)\/(a3 env p.1=.al σ0.length 1 0 0/\p.2=.Ψ e.cells)) (hW:W P m nt k env' σ0 Z E):W P m nt k env (σ0++[.cells t kk [e]]) Z E:=
 W.fix (t:=t) (kk:=kk) (e:=e) hm (by simp) he (λid r bW μ=>n' r (by
  rw[dB bW] at μ;exact ck μ)) (by simp) env' cD hW
theorem W.Ot {t kk:Nat} {l:List θ} {d:Nat} (hb:∀e∈l,∀a∈e.cells,au 0 a) (env':aa) (hd:a3 env d=ee l) (cD:∀p∈env',a3 env p.1=p.2/\au 0 p.2) (hW:W P 0 nt k ((d,fA kk l)::env') [] Z E):W P 0 nt k env (bj t kk l) Z E:=
 W.cut 0 (Nat.zero_le _) ((d,fA kk l)::env') (Nat.zero_le _) (λid r bW=>by omega) (λp ψ=>by
  rcases List.mem_cons.1 ψ with rfl|ψ
  ·show ed 0 _ (a3 env d) _;rw[hd];exact .acc hb
  ·rw[(cD p ψ).1];exact .low (cD p ψ).2) (by simpa using hW)
end
abbrev eG (l:List Int):θ:=.sl true 1 (l.map R)
theorem cG.Yg {L:List (List Int)}:cG (fA 1 (L.map eG)) (aI L):=.trans .acc (.map λx _=>.one .ex rfl rfl)
theorem Ou {L:List (List Int)}:∀e∈L.map eG,∀a∈e.cells,au 0 a:=by
 intro e he a ξ;obtain⟨x,_,rfl⟩:=List.mem_map.1 he;simp[θ.cells] at ξ;subst ξ;simp
theorem Yh (n:Int):ay Tryz.prog 51 [R n] (.bn [R (if valid n then D5 n else 0),R (if valid n then 0 else 1)]):=by
 refine ak.body Ι Tryz.func51 rfl rfl Tryz.ntmps51 rfl rfl (by simp) ?_;(repeat (first|apply κ|(refine ν λη I=>?_;simp;(repeat (rw[δ];simp));apply I)));(repeat apply κ);refine ν λη I=>?_;simp;(repeat (rw[δ];simp));refine ay.c (xZ n) (aK.refl _) (by simp) (by simp) ?_;simp;(repeat (rw[δ];simp));apply I;cases b:valid n
 ·refine aj rfl ?_;(repeat (first|apply κ|(refine ν λη I=>?_;simp;(repeat (rw[δ];simp));apply I)));refine W.ret ⟨_,rfl,?_,rfl⟩;exact .of rfl
 ·refine ah rfl ?_;(repeat apply κ);refine ν λη I=>?_;simp;(repeat (rw[δ];simp));refine ay.c (XI n) (aK.refl _) (by simp) (by simp) ?_;simp;(repeat (rw[δ];simp));apply I;(repeat (first|apply κ|(refine ν λη I=>?_;simp;(repeat (rw[δ];simp));apply I)));refine W.ret ⟨_,rfl,?_,rfl⟩;exact .of rfl
def uo:Int->List Int->List Int
 | _,[]=>[]
 | a,b::l=>if b=a then uo a l else b::uo b l
def il:List Int->List Int
 | []=>[]
 | a::l=>a::uo a l
theorem Ov (l:List Int) {p:Nat} (ψ:0<p) (h:p<l.length) (cJ:p-1<l.length):il (l.take (p+1))=il (l.take p)++if l[p]=l[p-1] then [] else [l[p]]:=by
 have gen:∀(l:List Int) (a:Int) (p:Nat) (h:p<l.length),uo a (l.take (p+1))=uo a (l.take p)++if l[p]=(a::l)[p]'(by simp;omega) then [] else [l[p]]:=by
  intro l
  induction l with
  | nil=>intro a p h;cases h
  | cons b l Δ=>
   intro a p h;cases p with
   | zero=>by_cases e:b=a<;>simp[uo,e]
   | succ p=>
    have γ:p<l.length:=by simpa using h
    by_cases e:b=a
    ·subst e;have:=Δ b p γ;simp only[List.take_succ_cons,uo,if_true,List.getElem_cons_succ] at this ⊢;exact this
    ·have:=Δ b p γ;simp only[List.take_succ_cons,uo,e,if_false,List.getElem_cons_succ,List.cons_append] at this ⊢;rw[this]
 cases l with
 | nil=>cases h
 | cons a l=>
  obtain⟨q,rfl⟩:∃q,p=q+1:=⟨p-1,by omega⟩;have γ:q<l.length:=by simpa using h
  have:=gen l a q γ;simp only[List.take_succ_cons,il,List.getElem_cons_succ,Nat.add_sub_cancel] at this ⊢;rw[this];rfl
theorem Eb {f:List Int} {L:List θ} (aC:L=f.map R) {j:Nat} {x:Int} (h:f[j]?=some x):L[j]?=some (R x)/\∀h:j<L.length,L[j]=R x:=by
 have e:L[j]?=some (R x):=by rw[aC,List.getElem?_map,h];rfl
 exact⟨e,λε=>by rw[aW ε] at e;exact Option.some.inj e⟩
theorem Yi (l:List Int) (n:Nat) (Η:l.length=n) (ο:n<2 ^ 40):ak Tryz.prog 133 [.ms 0 n 0 n] [.cells 3 1 (l.map R)]
  (λr s=>∃tail:List Int,(il l++tail).length=n/\r=.ms 0 n 0 (il l).length/\s=[.cells 3 1 ((il l++tail).map R)]) (λ_ _=>False):=by
 refine ak.body Ι Tryz.func133 rfl rfl Tryz.ntmps133 rfl rfl (by simp) ?_;by_cases γ:(n:Int)<2
 ·(repeat (first|apply κ|(refine ν λη I=>?_;simp;(repeat (rw[δ];simp[Η,γ]));apply I)));refine aj rfl ?_;(repeat (first|apply κ|(refine ν λη I=>?_;simp;(repeat (rw[δ];simp[Η]));apply I)));refine W.ret ⟨_,rfl,[],?_⟩;have e:il l=l:=by
   match l,Η with
   | [],_=>rfl
   | [a],_=>rfl
   | a::b::l,Η=>simp at Η;omega
  rw[e,List.append_nil,Η];exact⟨rfl,rfl,rfl⟩
 (repeat (first|apply κ|(refine ν λη I=>?_;simp;(repeat (rw[δ];simp[Η,γ]));apply I)));refine ah rfl ?_;(repeat (first|apply κ|(refine ν λη I=>?_;simp;(repeat (rw[δ];simp));apply I)));refine W.iter (λk:Nat=>1<=k/\k<=n/\il (l.take k)=l.take k) (λk=>[(0,.ms 0 n 0 n),(3,R k)]) (λ_=>[.cells 3 1 (l.map R)]) (λk=>n-k) 1 ⟨Nat.le_refl _,by omega,by
  match l,Η with
  | [],Η=>rfl
  | a::l,Η=>rfl⟩ rfl (by simp) (λk χ Δ=>?_)
 obtain⟨k1,cC,rn⟩:=χ;(repeat (first|apply κ|(refine ν λη I=>?_;simp;(repeat (rw[δ];simp[Η]));apply I)));by_cases ζ:k<n
 ·refine aj (by simp[ζ]) ?_
  repeat apply κ
  obtain⟨p,ψ⟩:∃p,k=p+1:=⟨k-1,by omega⟩;have oe:IntKind.i64.wrap ((k:Int)-1)=(p:Int):=by have:=fJ (show p<2 ^ 62 by omega);rw[ψ];simpa using this
  have rp:p<n:=by omega
  have iT:k<l.length:=by omega
  have gO:p<l.length:=by omega
  obtain⟨L,aC⟩:∃L,L=l.map R:=⟨_,rfl⟩;have jH:L.length=n:=by rw[aC];simpa using Η
  obtain⟨a1,bl⟩:=Eb aC (aW iT);obtain⟨bG,dj⟩:=Eb aC (aW gO);refine W.to (σ':=[.cells 3 1 L]) (env':=[(0,.ms 0 n 0 n),(3,R k)]) ?_ (by rw[aC]) (by simp);generalize U:l[k]=x at a1 bl;generalize Ξ:l[p]=y at bG dj;refine W.draw (A:=[]) Ι mixed λη I=>?_;simp;(repeat (rw[ba];simp[ζ,oe,jH,rp,a1,bl,bG,dj]));try rw[a']
  refine⟨bK (by kernel_rfl),I _ _ ?_⟩;have dU:il (l.take (k+1))=il (l.take k)++if x=y then [] else [x]:=by
   rw[Ov l (by omega) iT (by omega)];simp only[ψ,Nat.add_sub_cancel] at U ⊢;rw[U,Ξ]
  by_cases xN:x=y
  ·refine aj (by simp[xN]) ?_
   repeat apply κ
   refine W.fL (A:=[]) Ι [(0,.ms 0 n 0 n),(3,R k),(4,.ms 0 n k (n-k))] [.cells 3 1 L] ?_ (by
    (try simp);(repeat (rw[δ];simp[jH,Nat.le_of_lt ζ]));(try simp[jH,Nat.le_of_lt ζ]))
   (repeat (first|apply κ|(refine ν λη I=>?_;simp;(repeat (rw[δ];simp));apply I)));have cA:il (l.take (k+1))=l.take k:=by rw[dU,if_pos xN,List.append_nil,rn]
   refine W.iter (λq:Nat×Nat×List Int=>1<=q.2.1/\k+q.2.1<=n/\q.2.2.length=n/\q.1<k+q.2.1/\q.1=(il (l.take (k+q.2.1))).length/\q.2.2.take q.1=il (l.take (k+q.2.1))/\∀j,k+q.2.1-1<=j->j<n->q.2.2[j]?=l[j]?)
    (λq=>[(0,.ms 0 n 0 n),(3,R q.1),(4,.ms 0 n k (n-k)),(5,R q.2.1)]) (λq=>[.cells 3 1 (q.2.2.map R)]) (λq=>n-q.2.1) (k,1,l) ⟨Nat.le_refl _,by simp;omega,Η,by simp,by simp only[cA];simp;omega,by simp only[cA],λj _ _=>rfl⟩ (by rw[aC]) (by simp) (λq Ρ fK=>?_)
   obtain⟨m,cC,f⟩:=q;obtain⟨c1,c2,c3,c4,nq,sD,rb⟩:=Ρ;simp only at c1 c2 c3 c4 nq sD rb;clear aC jH a1 bl bG dj;(repeat (first|apply κ|(refine ν λη I=>?_;simp;(repeat (rw[δ];simp[c3]));apply I)));by_cases hd:cC<n-k
   ·have tZ:(cC:Int)<((n-k:Nat):Int):=by omega
    refine aj (by simp[hd]) ?_
    repeat apply κ
    obtain⟨wh,jv⟩:∃r,cC=r+1:=⟨cC-1,by omega⟩;have eE:IntKind.i64.wrap ((cC:Int)-1)=(wh:Int):=by have:=fJ (show wh<2 ^ 62 by omega);rw[jv];simpa using this
    have μ:wh<n-k:=by omega
    obtain⟨M,c0⟩:∃M,M=f.map R:=⟨_,rfl⟩;have It:M.length=n:=by rw[c0];simpa using c3
    have hu:f[k+cC]?=some (l[k+cC]'(by omega)):=by rw[rb _ (by omega) (by omega),aW]
    have hv:f[k+wh]?=some (l[k+wh]'(by omega)):=by rw[rb _ (by omega) (by omega),aW]
    have dP:=Ov l (p:=k+cC) (by omega) (by omega) (by omega)
    have Yj:l[k+cC-1]'(by omega)=l[k+wh]'(by omega):=by congr 1;omega
    rw[Yj] at dP;generalize l[k+cC]'(by omega)=u at hu dP;generalize l[k+wh]'(by omega)=v at hv dP;obtain⟨ea,dT⟩:=Eb c0 hu;obtain⟨v1,v2⟩:=Eb c0 hv;refine W.to (σ':=[.cells 3 1 M]) (env':=[(0,.ms 0 n 0 n),(3,R m),(4,.ms 0 n k (n-k)),(5,R cC)]) ?_ (by rw[c0]) (by simp);have mr:m<n:=by omega
    refine W.draw (A:=[]) Ι mixed λη I=>?_;simp;(repeat (rw[ba];simp[hd,eE,μ,It,ea,dT,v1,v2]));try rw[a']
    refine⟨bK (by kernel_rfl),I _ _ ?_⟩;by_cases Ec:u=v
    ·refine ah (by simp[Ec]) ?_;(repeat (first|apply κ|(refine ν λη I=>?_;simp;(repeat (rw[δ];simp));apply I)));rw[if_pos Ec,List.append_nil] at dP;refine W.to (fK (m,cC+1,f) ⟨by simp,by simp;omega,c3,by simp;omega,by simp only[<-Nat.add_assoc,dP];exact nq,by simp only[<-Nat.add_assoc,dP];exact sD,λj J γ=>rb j (by simp at J;omega) γ⟩ (by simp;omega)) (by rw[c0]) ?_;have:=fJ (show cC+1<2 ^ 62 by omega);simpa using this
    ·refine aj (by simp[Ec]) ?_;rw[if_neg Ec] at dP
     repeat apply κ
     refine W.fL (A:=[]) Ι [(0,.ms 0 n 0 n),(3,R m),(4,.ms 0 n k (n-k)),(5,R cC)] [.cells 3 1 ((f.set m u).map R)] ?_ (by
      (try simp);(repeat (rw[δ];simp[hd,It,mr,ea,dT]));(try simp[hd,It,mr,ea,dT]);subst c0;simp)
     (repeat (first|apply κ|(refine ν λη I=>?_;simp;(repeat (rw[δ];simp));apply I)));refine W.to (fK (m+1,cC+1,f.set m u) ⟨by simp,by simp;omega,by simpa using c3,by simp;omega,by simp only[<-Nat.add_assoc,dP];simp;exact nq,?_,λj J γ=>?_⟩ (by simp;omega)) (by simp) ?_
     ·simp only[<-Nat.add_assoc,dP];rw[<-sD,List.take_succ_eq_append_getElem (by simp;omega),List.take_set_of_le (Nat.le_refl _)];simp
     ·simp at J;rw[List.getElem?_set_ne (by omega)];exact rb j (by omega) γ
     ·have Ζ:=fJ (show cC+1<2 ^ 62 by omega)
      have Ε:=fJ (show m+1<2 ^ 62 by omega);simp at Ζ Ε ⊢;exact⟨Ε,Ζ⟩
   ·refine ah (by simp[hd]) ?_;refine W.exit rfl ?_;have he:k+cC=n:=by omega
    have Yk:l.take n=l:=List.take_of_length_le (by omega);rw[he,Yk] at nq sD
    repeat apply κ
    have mr:m<=n:=by omega
    refine W.fL (A:=[]) Ι [(0,.ms 0 n 0 n),(3,R m)] [.cells 3 1 ((il l++List.replicate (n-m) 0).map R)] ?_ (by
     (try simp);(repeat (rw[δ];simp[c3,mr]));(try simp[c3,mr]);rw[<-List.map_take,sD,List.drop_eq_nil_of_le (by simp;omega),List.append_nil])
    have Ow:(il l).length+(n-m)=n:=by omega
    (repeat (first|apply κ|(refine ν λη I=>?_;simp;(repeat (rw[δ];simp[Ow,mr]));apply I)));refine W.ret ⟨_,rfl,List.replicate (n-m) 0,by simp;omega,?_,by simp⟩;rw[<-nq];rfl
  ·refine ah (by simp[xN]) ?_;(repeat (first|apply κ|(refine ν λη I=>?_;simp;(repeat (rw[δ];simp));apply I)));refine W.to (Δ (k+1) ⟨by omega,by omega,?_⟩ (by omega)) (by rw[aC]) ?_
   ·rw[dU,if_neg xN,rn,<-U,<-List.take_succ_eq_append_getElem iT]
   ·have:=fJ (show k+1<2 ^ 62 by omega);simpa using this
 ·refine ah (by simp[ζ]) ?_;refine W.exit rfl ?_;(repeat (first|apply κ|(refine ν λη I=>?_;simp;(repeat (rw[δ];simp));apply I)));refine W.ret ⟨_,rfl,[],?_⟩;have e:il l=l:=by rw[List.take_of_length_le (by omega)] at rn;exact rn
  rw[e,List.append_nil,Η];exact⟨rfl,rfl,rfl⟩
def uq:aL:=⟨[],[],[]⟩
theorem Iu {e f g:Bool} {a b c:Nat}:cG (.aS [.sl e a [],.sl f b [],.sl g c []]) (eV uq):=.aS (.cons .nil (.cons .nil (.cons .nil .nil)))
abbrev Ox (r:aL×List Found×Int):θ:=.bn [eV r.1,cQ r.2.1,R r.2.2]
def fM (s:aL) (b4:Bool) (F:List Found):aL×List Found×Int:=
 if s.err≠0 then(uq,[],s.err) else if b4=true/\F=[] then(s,[],9) else(s,F,0)
def mP (s:aL) (cell:Int) (F:List Found):aL×List Found×Int:=
 if s.err≠0 then(uq,[],s.err) else if cell<0\/(s.cells.length:Int)<=cell then(uq,[],3) else fM s true F
def sY (s:aL) (F:List Found):Prop:=s.err=0->ay Tryz.prog 116 [eV s] (cQ F)
theorem Ed (s:aL) (ο:s.small) (b4:Bool) (F:List Found) (gu:sY s F):ay Tryz.prog 75 [eV s,a4 b4] (Ox (fM s b4 F)):=by
 refine ak.body Ι Tryz.func75 rfl rfl Tryz.ntmps75 rfl rfl (by simp) ?_
 repeat apply κ
 refine dw (A:=[4]) Ι λη I=>?_;simp;(repeat (rw[δ];simp));apply I;(repeat apply κ);refine ν λη I=>?_;simp;(repeat (rw[δ];simp));refine ay.c (Is s ο) (aK.refl _) (by simp) (by simp) ?_;simp;(repeat (rw[δ];simp));apply I;(repeat (first|apply κ|(refine ν λη I=>?_;simp;(repeat (rw[δ];simp));apply I)));by_cases cV:s.err=0
 case neg=>
  have e:fM s b4 F=(uq,[],s.err):=by unfold fM;rw[if_pos cV]
  rw[e];refine aj (by simp[cV]) ?_;(repeat (first|apply κ|(refine ν λη I=>?_;simp;(repeat (rw[δ];simp));apply I)));refine W.fix (id:=0) (σ':=[]) (Nat.zero_le _) rfl (by simp) (by simp) rfl [(4,.Ψ [.sl true 0 [],.sl true 0 [],.sl true 0 []]),(5,.sl true 0 []),(6,R s.err)] (by simp) ?_;refine W.ret ⟨_,rfl,?_,rfl⟩;exact .bn (.cons Iu (.cons .nil (.cons (.refl _) .nil)))
 refine ah (by simp[cV]) ?_
 repeat apply κ
 refine dw (A:=[8]) Ι λη I=>?_;simp;(repeat (rw[δ];simp));apply I;(repeat apply κ);refine ν λη I=>?_;simp;(repeat (rw[δ];simp));refine ay.c (gu cV) (aK.refl _) (by simp) (by simp) ?_;simp;(repeat (rw[δ];simp));apply I
 repeat apply κ
 cases b4
 case false=>
  have e:fM s false F=(s,F,0):=by unfold fM;rw[if_neg (by simpa using cV),if_neg (by simp)]
  rw[e];(repeat (first|apply κ|(refine ν λη I=>?_;simp;(repeat (rw[δ];simp));apply I)));refine ah rfl ?_;(repeat (first|apply κ|(refine ν λη I=>?_;simp;(repeat (rw[δ];simp));apply I)));refine W.fix (id:=0) (σ':=[]) (Nat.zero_le _) rfl (by simp) (by simp) rfl [(4,.Ψ [aO s.ae,aI s.ai,bf s.cells]),(5,cQ F),(6,R 0)] (by simp) ?_;refine W.ret ⟨_,rfl,?_,rfl⟩;exact .refl _
 case true=>
  (repeat (first|apply κ|(refine ν λη I=>?_;simp;(repeat (rw[δ];simp));apply I)));by_cases z:F=[]
  ·have e:fM s true F=(s,[],9):=by unfold fM;rw[if_neg (by simpa using cV),if_pos ⟨rfl,z⟩]
   rw[e];refine aj (by simp[z]) ?_;(repeat (first|apply κ|(refine ν λη I=>?_;simp;(repeat (rw[δ];simp));apply I)));refine W.fix (id:=0) (σ':=[]) (Nat.zero_le _) rfl (by simp) (by simp) rfl [(4,.Ψ [aO s.ae,aI s.ai,bf s.cells]),(5,.sl true 0 []),(6,R 9)] (by simp) ?_;refine W.ret ⟨_,rfl,?_,rfl⟩;exact .bn (.cons (.refl _) (.cons .nil (.cons (.refl _) .nil)))
  ·have e:fM s true F=(s,F,0):=by unfold fM;rw[if_neg (by simpa using cV),if_neg (by simp[z])]
   rw[e];refine ah (by simp[z]) ?_;(repeat (first|apply κ|(refine ν λη I=>?_;simp;(repeat (rw[δ];simp));apply I)));refine W.fix (id:=0) (σ':=[]) (Nat.zero_le _) rfl (by simp) (by simp) rfl [(4,.Ψ [aO s.ae,aI s.ai,bf s.cells]),(5,cQ F),(6,R 0)] (by simp) ?_;refine W.ret ⟨_,rfl,?_,rfl⟩;exact .refl _
theorem Yl (s:aL) (ο:s.small) (cell:Int) (F:List Found) (gu:sY s F):ay Tryz.prog 82 [eV s,R cell] (Ox (mP s cell F)):=by
 refine ak.body Ι Tryz.func82 rfl rfl Tryz.ntmps82 rfl rfl (by simp) ?_
 repeat apply κ
 refine dw (A:=[4]) Ι λη I=>?_;simp;(repeat (rw[δ];simp));apply I;(repeat apply κ);refine ν λη I=>?_;simp;(repeat (rw[δ];simp));refine ay.c (Is s ο) (aK.refl _) (by simp) (by simp) ?_;simp;(repeat (rw[δ];simp));apply I;(repeat (first|apply κ|(refine ν λη I=>?_;simp;(repeat (rw[δ];simp));apply I)));by_cases cV:s.err=0
 case neg=>
  have e:mP s cell F=(uq,[],s.err):=by unfold mP;rw[if_pos cV]
  rw[e];refine aj (by simp[cV]) ?_;(repeat (first|apply κ|(refine ν λη I=>?_;simp;(repeat (rw[δ];simp));apply I)));refine W.fix (id:=0) (σ':=[]) (Nat.zero_le _) rfl (by simp) (by simp) rfl [(4,.Ψ [.sl true 0 [],.sl true 0 [],.sl true 0 []]),(5,.sl true 0 []),(6,R s.err)] (by simp) ?_;refine W.ret ⟨_,rfl,?_,rfl⟩;exact .bn (.cons Iu (.cons .nil (.cons (.refl _) .nil)))
 refine ah (by simp[cV]) ?_;have cv:mP s cell F=if cell<0\/(s.cells.length:Int)<=cell then(uq,[],3) else fM s true F:=by unfold mP;rw[if_neg (by simpa using cV)]
 repeat apply κ
 refine W.sJ (A:=[]) Ι [(22,a4 (decide (cell<0)||decide ((s.cells.length:Int)<=cell))),(2,.Ψ [aO s.ae,aI s.ai,bf s.cells]),(4,.al 0 1 0 0),(1,R cell)] ?_ (by
  by_cases q:cell<0
  ·(try simp);(repeat (rw[δ];simp[q]));(try simp[q])
  ·(try simp);(repeat (rw[δ];simp[q]));(try simp[q]))
 by_cases bG:cell<0\/(s.cells.length:Int)<=cell
 ·rw[cv,if_pos bG];refine aj (by simpa using bG) ?_;(repeat (first|apply κ|(refine ν λη I=>?_;simp;(repeat (rw[δ];simp));apply I)));refine W.fix (id:=0) (σ':=[]) (Nat.zero_le _) rfl (by simp) (by simp) rfl [(4,.Ψ [.sl true 0 [],.sl true 0 [],.sl true 0 []]),(5,.sl true 0 []),(6,R 3)] (by simp) ?_;refine W.ret ⟨_,rfl,?_,rfl⟩;exact .bn (.cons Iu (.cons .nil (.cons (.refl _) .nil)))
 ·rw[cv,if_neg bG];refine ah (by simpa using bG) ?_;(repeat apply κ);refine ν λη I=>?_;simp;(repeat (rw[δ];simp));refine ay.c (Ed s ο true F gu) (aK.refl _) (by simp) (by simp) ?_;simp;(repeat (rw[δ];simp));apply I;(repeat (first|apply κ|(refine ν λη I=>?_;simp;(repeat (rw[δ];simp));apply I)));generalize fM s true F=r;refine W.fix (id:=0) (σ':=[]) (Nat.zero_le _) rfl (by simp) (by simp) rfl [(4,.Ψ [aO r.1.ae,aI r.1.ai,bf r.1.cells]),(5,cQ r.2.1),(6,R r.2.2)] (by simp) ?_;refine W.ret ⟨_,rfl,?_,rfl⟩;exact .refl _
def kY (F:List Found):List (List Int):=F.map λf=>[f.u,f.v]
theorem Oy {α β:Type} (f:α->β) (l:List α) {i:Nat} (h:i<l.length):(l.take (i+1)).map f=(l.take i).map f++[f l[i]]:=by
 rw[List.take_succ_eq_append_getElem h,List.map_append];rfl
theorem Ym (s:aL) (ο:s.small) (F:List Found) (gu:sY s F) (Φ:F.length<2 ^ 20):ay Tryz.prog 42 [eV s] (.bn [aI (if s.err=0 then kY F else []),R s.err]):=by
 refine ak.body Ι Tryz.func42 rfl rfl Tryz.ntmps42 rfl rfl (by simp) ?_;(repeat (first|apply κ|(refine ν λη I=>?_;simp;(repeat (rw[δ];simp));apply I)));(repeat apply κ);refine dw (A:=[4]) Ι λη I=>?_;simp;(repeat (rw[δ];simp));refine ay.c (Ed s ο false F gu) (aK.refl _) (by simp) (by simp) ?_;simp;(repeat (rw[δ];simp));apply I;have e:fM s false F=if s.err=0 then(s,F,0) else(uq,[],s.err):=by
  unfold fM;by_cases b:s.err=0
  ·rw[if_neg (by simpa using b),if_neg (by simp),if_pos b]
  ·rw[if_pos b,if_neg b]
 have Ζ:(fM s false F).2.1=if s.err=0 then F else []:=by rw[e];split<;>rfl
 have Ε:(fM s false F).2.2=s.err:=by rw[e];split<;>simp[*]
 obtain⟨G,cU⟩:∃G,G=if s.err=0 then F else []:=⟨_,rfl⟩
 have g7:G.length<2 ^ 20:=by rw[cU];split;exact Φ;simp
 have mi:(if s.err=0 then kY F else [])=kY G:=by rw[cU];split<;>rfl
 rw[Ζ,Ε,mi,<-cU];clear cU mi e Ζ Ε;generalize s.err=eE;refine W.drop (h:=0) (σ':=[]) (Nat.zero_le _) (Nat.zero_le _) (by simp) rfl [(5,cQ G),(6,R eE)] (by simp) ?_;(repeat (first|apply κ|(refine ν λη I=>?_;simp;(repeat (rw[δ];simp));apply I)));have lχ:∀i,(kY G).take i=kY (G.take i):=λi=>by simp[kY]
 refine W.iter (λi:Nat=>i<=G.length) (λi=>[(6,R eE),(7,ee ((kY (G.take i)).map eG)),(16,cQ G),(17,R G.length),(18,R i)])
  (λi=>bj 29 1 ((kY (G.take i)).map eG)) (λi=>G.length-i) 0 (Nat.zero_le _) rfl (by simp[pj,kY]) (λi hi Δ=>?_)
 (repeat (first|apply κ|(refine ν λη I=>?_;simp;(repeat (rw[δ];simp));apply I)));refine W.en rfl (λζ=>?_) (λζ=>?_)
 ·have ζ:i<G.length:=by simpa using ζ
  have dU:(kY (G.take (i+1))).map eG=(kY (G.take i)).map eG++[eG [G[i].u,G[i].v]]:=by
   unfold kY;rw[List.map_map,List.map_map,Oy _ _ ζ];rfl
  have Am:=λh=>Al (t:=29) (k:=1) (h:=h) (Ou (L:=kY (G.take i)))
  have sZ:((kY (G.take i)).map eG).length<=i:=by simp[kY];omega
  obtain⟨L,aC⟩:∃L,L=(kY (G.take i)).map eG:=⟨_,rfl⟩;rw[<-aC] at Am sZ dU;refine W.to (σ':=bj 29 1 L) (env':=[(6,R eE),(7,ee L),(16,cQ G),(17,R G.length),(18,R i)]) ?_ (by rw[aC]) (by rw[aC];simp)
  repeat apply κ
  refine dw (A:=[9]) Ι λη I=>?_;simp;(repeat (rw[δ];simp[ζ]));apply I;refine W.pk (Nat.zero_le _) (Am _) (by simp) [(9,.Ψ [R G[i].u,R G[i].v,mL G[i].cells]),(6,R eE),(7,ee L),(16,cQ G),(17,R G.length),(18,R i)] (by simp) ?_
  repeat apply κ
  refine W.fL (A:=[26]) Ι [(6,R eE),(7,ee (L++[eG [G[i].u,G[i].v]])),(16,cQ G),(17,R G.length),(18,R i)] (bj 29 1 (L++[eG [G[i].u,G[i].v]])) ?_ (by
   by_cases Θ:L=[]
   ·subst Θ;(try simp);(repeat (rw[δ];simp[pj,iJ]));(try simp[pj,iJ]);exact⟨rfl,rfl⟩
   ·have j9:L.length<=4294967295:=by omega
    (try simp);(repeat (rw[δ];simp[rr Θ,dY Θ,x4,sX]));(try simp[rr Θ,dY Θ,x4,sX]);exact j9)
  (repeat (first|apply κ|(refine ν λη I=>?_;simp;(repeat (rw[δ];simp));apply I)));refine W.to (Δ (i+1) ζ (by omega)) ?_ ?_
  ·rw[dU]
  ·rw[dU];simp[fe ζ (show G.length<2 ^ 62 by omega)]
 ·have ζ:i=G.length:=by simp at ζ;omega
  subst ζ;refine W.exit rfl ?_;(repeat (first|apply κ|(refine ν λη I=>?_;simp;(repeat (rw[δ];simp));apply I)));refine W.Ot (d:=2) Ou [(3,R eE)] (by simp) (by simp) ?_;refine W.ret ⟨_,rfl,?_,rfl⟩;exact .bn (.cons .Yg (.cons (.refl _) .nil))
abbrev pn (l:List Int):List Int:=l.mergeSort (λx y=>decide (x<=y))
def Iv (N:Nat):Prop:=∀(l:List Int),l.length<=N->ak Tryz.prog 132 [.ms 0 l.length 0 l.length] [.cells 3 1 (l.map R)] (λr s=>r=.bn []/\s=[.cells 3 1 ((pn l).map R)]) (λ_ _=>False)
def mQ (lower:Bool) (r:Int×Int):Int:=if lower then r.2 else r.1
def om (lower:Bool) (A:List Int) (C:List (Int×Int)) (j:Nat):List Int:=A++(C.take j).map (mQ lower)
theorem Oz {lower:Bool} {A:List Int} {C:List (Int×Int)}:om lower A C 0=A:=by simp[om]
theorem Yn {lower:Bool} {A:List Int} {C:List (Int×Int)} {j:Nat} (h:j<C.length):om lower A C (j+1)=om lower A C j++[mQ lower C[j]]:=by
 unfold om;rw[Oy _ _ h,List.append_assoc]
theorem OA {lower:Bool} {A:List Int} {C:List (Int×Int)} {j:Nat} (h:C.length<=j):om lower A C j=A++C.map (mQ lower):=by
 unfold om;rw[List.take_of_length_le h]
theorem Yo {lower:Bool} {A:List Int} {C:List (Int×Int)} {j:Nat}:(om lower A C j).length<=A.length+j:=by
 unfold om;simp;omega
def OB (f:Found) (cell:Nat) (lower:Bool):List Int:=((f.cells[cell]?).getD []).map (mQ lower)
def j' (F:List Found) (cell:Nat) (lower:Bool):List Int:=F.flatMap λf=>OB f cell lower
def qo (F:List Found) (cell:Nat) (lower:Bool):List Int:=il (pn (j' F cell lower))
theorem Iw {l:List Int}:∀e∈l.map R,∀a∈e.cells,au 0 a:=by
 intro e he a ξ;obtain⟨x,_,rfl⟩:=List.mem_map.1 he;simp[θ.cells] at ξ;subst ξ;simp
theorem Yp (F:List Found) (cell:Nat) (lower:Bool) (gu:F.length<2 ^ 20) (hR:∀f∈F,cell<f.cells.length/\∀c∈f.cells,c.length<2 ^ 20) (N:Nat) (b8:N<2 ^ 20) (e5:Iv N) (bz:j' F cell lower≠[]) (hle:(j' F cell lower).length<=N) :
  ay Tryz.prog 95 [cQ F,R cell,a4 lower] (aP R 1 (qo F cell lower)):=by
 refine ak.body Ι Tryz.func95 rfl rfl Tryz.ntmps95 rfl rfl (by simp) ?_;(repeat (first|apply κ|(refine ν λη I=>?_;simp;(repeat (rw[δ];simp));apply I)));refine W.iter (λi:Nat=>i<=F.length) (λi=>[(1,R cell),(2,a4 lower),(7,ee ((j' (F.take i) cell lower).map R)),(12,cQ F),(13,R F.length),(14,R i)])
  (λi=>bj 3 1 ((j' (F.take i) cell lower).map R)) (λi=>F.length-i) 0 (Nat.zero_le _) rfl (by simp[j',pj]) (λi hi Δ=>?_)
 (repeat (first|apply κ|(refine ν λη I=>?_;simp;(repeat (rw[δ];simp));apply I)));have Yq:∀i,(j' (F.take i) cell lower).length<=N:=λi=>by
  have e:j' F cell lower=j' (F.take i) cell lower++j' (F.drop i) cell lower:=by
   conv=>lhs;rw[<-List.take_append_drop i F]
   simp only[j',List.flatMap_append]
  rw[e,List.length_append] at hle;omega
 refine W.en rfl (λζ=>?_) (λζ=>?_)
 ·have a9:i<F.length:=by simpa using ζ
  obtain⟨bP,mC⟩:=hR _ (List.getElem_mem a9);have hC:F[i].cells[cell].length<2 ^ 20:=mC _ (List.getElem_mem bP);obtain⟨A,bS⟩:∃A,A=j' (F.take i) cell lower:=⟨_,rfl⟩;have dU:j' (F.take (i+1)) cell lower=A++F[i].cells[cell].map (mQ lower):=by
   rw[bS];unfold j';rw[List.take_succ_eq_append_getElem a9,List.flatMap_append];simp[OB,bP]
  have OC:(A++F[i].cells[cell].map (mQ lower)).length<=N:=by rw[<-dU];exact Yq _
  rw[List.length_append,List.length_map] at OC;refine W.to (σ':=bj 3 1 (A.map R)) (env':=[(1,R cell),(2,a4 lower),(7,ee (A.map R)),(12,cQ F),(13,R F.length),(14,R i)]) ?_ (by rw[bS]) (by rw[bS];simp)
  repeat apply κ
  refine dw (A:=[9]) Ι λη I=>?_;simp;(repeat (rw[δ];simp[a9]));apply I;refine W.pk (Nat.zero_le _) (Al Iw) (by simp) [(9,.Ψ [R F[i].u,R F[i].v,mL F[i].cells]),(1,R cell),(2,a4 lower),(7,ee (A.map R)),(12,cQ F),(13,R F.length),(14,R i)] (by simp) ?_;(repeat (first|apply κ|(refine ν λη I=>?_;simp;(repeat (rw[δ];simp[bP]));apply I)));generalize lψ:F[i].cells[cell]=C at hC dU OC;refine W.iter (λj:Nat=>j<=C.length) (λj=>[(1,R cell),(2,a4 lower),(7,ee ((om lower A C j).map R)),(12,cQ F),(13,R F.length),(14,R i),(22,mK C),(23,R C.length),(24,R j)])
   (λj=>bj 3 1 ((om lower A C j).map R)) (λj=>C.length-j) 0 (Nat.zero_le _) (by rw[Oz]) (by simp[Oz]) (λj ε fK=>?_)
  (repeat (first|apply κ|(refine ν λη I=>?_;simp;(repeat (rw[δ];simp));apply I)));refine W.en rfl (λa5=>?_) (λa5=>?_)
  ·have bp:j<C.length:=by simpa using a5
   obtain⟨L,aC⟩:∃L,L=om lower A C j:=⟨_,rfl⟩;have mR:L.length<=A.length+j:=by rw[aC];exact Yo
   have An:om lower A C (j+1)=L++[mQ lower C[j]]:=by rw[aC];exact Yn bp
   refine W.to (σ':=bj 3 1 (L.map R)) (env':=[(1,R cell),(2,a4 lower),(7,ee (L.map R)),(12,cQ F),(13,R F.length),(14,R i),(22,mK C),(23,R C.length),(24,R j)]) ?_ (by rw[aC]) (by rw[aC];simp)
   repeat apply κ
   refine dw (A:=[11]) Ι λη I=>?_;simp;(repeat (rw[δ];simp[bp]));apply I;refine W.pk (Nat.zero_le _) (Al Iw) (by simp) [(11,.Ψ [R C[j].1,R C[j].2]),(1,R cell),(2,a4 lower),(7,ee (L.map R)),(12,cQ F),(13,R F.length),(14,R i),(22,mK C),(23,R C.length),(24,R j)] (by simp) ?_
   repeat apply κ
   generalize C[j]=r at An;refine W.fL (A:=[34]) Ι [(1,R cell),(2,a4 lower),(7,ee ((L++[mQ lower r]).map R)),(12,cQ F),(13,R F.length),(14,R i),(22,mK C),(23,R C.length),(24,R j)] (bj 3 1 ((L++[mQ lower r]).map R)) ?_ (by
    have j9:L.length<=4294967295:=by omega
    rw[List.map_append];cases lower
    all_goals
     by_cases Θ:L.map R=[]
     ·rw[Θ,pj,iJ];(try simp);(repeat (rw[δ];simp));(try simp[]);refine ay.c (Il _) (aK.refl _) (by simp) (by simp) ?_;simp;(repeat (rw[δ];simp));(try simp[bj,ee,mQ])
     ·rw[rr Θ,dY Θ];(try simp);(repeat (rw[δ];simp));(try simp[]);refine ay.c (Il _) (aK.refl _) (by simp) (by simp) ?_;simp;(repeat (rw[δ];simp));(try simp[sX,x4,mQ,j9]))
   (repeat (first|apply κ|(refine ν λη I=>?_;simp;(repeat (rw[δ];simp));apply I)));refine W.to (fK (j+1) bp (by omega)) ?_ ?_
   ·rw[An,List.map_append];rfl
   ·rw[An];simp[fe bp (show C.length<2 ^ 62 by omega)]
  ·have bp:C.length<=j:=by simpa using a5
   refine W.exit rfl ?_;(repeat (first|apply κ|(refine ν λη I=>?_;simp;(repeat (rw[δ];simp));apply I)));refine W.to (Δ (i+1) a9 (by omega)) ?_ ?_
   ·rw[dU,OA bp]
   ·rw[dU,OA bp];simp[fe a9 (show F.length<2 ^ 62 by omega)]
 ·have a9:i=F.length:=by simp at ζ;omega
  refine W.exit rfl ?_;rw[a9,List.take_length];obtain⟨M,c0⟩:∃M,M=j' F cell lower:=⟨_,rfl⟩;rw[<-c0] at bz hle ⊢;have Ee:M.map R≠[]:=by simpa using bz
  have kR:qo F cell lower=il (pn M):=by rw[c0];rfl
  have ru:(pn M).length=M.length:=by simp[pn]
  refine W.to (σ':=[.cells 3 1 (M.map R)]) (env':=[(7,.ms 0 M.length 0 M.length)]) ?_ (dY Ee) (by simp[rr Ee]);(repeat apply κ);refine ν λη I=>?_;simp;(repeat (rw[δ];simp));refine ak.one (e5 M hle) 0 rfl (uf ui) (uf ui) (by simp[nC]) (by simp[ga]) (by simp[nD]) ?_;simp[dM,hH];(repeat (rw[δ];simp));apply I;(repeat apply κ);refine ν λη I=>?_;simp;(repeat (rw[δ];simp));have Ao:=Yi (pn M) M.length ru (by omega);refine ak.Io Ao 0 rfl (uf ui) (by simp[nC]) (by simp[nD]) (λa s ⟨tail,J,γ,π⟩=>⟨_,π,uf ui,by subst γ;simp[nC],?_⟩);subst γ;simp[nD];(repeat (rw[δ];simp));apply I;refine W.cut 0 (Nat.zero_le _) [(6,aP R 1 (il (pn M)))] (by simp) (by simp) ?_ ?_
  ·intro p ψ;simp at ψ;subst ψ;have ψ:=ed.part (σ:=[.cells 3 1 ((il (pn M)).map R++tail.map R)]) (id:=0) (t:=3) (k:=1) (l:=(il (pn M)).map R) (l2:=tail.map R) (m:=(il (pn M)).length) rfl (by simp) Iw;have e:((il (pn M)).map R++tail.map R).length=M.length:=by rw[<-List.map_append,List.length_map];exact J
   rw[e] at ψ;exact ψ
  ·rw[kR];refine W.ret ⟨_,rfl,?_,rfl⟩;exact .refl _
end Go.TL
