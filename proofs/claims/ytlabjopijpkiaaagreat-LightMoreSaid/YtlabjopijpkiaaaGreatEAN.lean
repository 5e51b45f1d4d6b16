import Derived.Sort.LotA
import Derived.Test.YtlabjopijpkiaaaGreatEAH
import Derived.Test.YtlabjopijpkiaaaGreatEAJ
import Derived.Test.YtlabjopijpkiaaaGreatEAL
import Derived.Test.YtlabjopijpkiaaaGreatEAM
set_option maxHeartbeats 16000000
set_option maxRecDepth 20000
set_option linter.unusedSectionVars false
set_option linter.unusedSimpArgs false
set_option linter.unusedVariables false
namespace Go.TL
open Go.Conc
variable [bq]
structure Base where
 S:aO
 B:a0
 H:Γ
 σ:ac
 m:Nat
def V (P:Program) (Q:Value->Prop) (mn:Bool) (x:hz) (b:Frame) (cs:List Frame) (nt:Nat) (o:Base) (k:List Item) (env:ab) (σ:ac):Prop:=
 ∀(S:aO) (B:a0) (H:Γ) (t:Array Value),ff o.m o.S o.B o.H o.σ S B H σ->gd o.m nt S B H σ env t->aV P Q mn x (aD b t k) cs H
def OE (P:Program) (Q:Value->Prop) (mn:Bool) (x:hz) (b:Frame) (cs:List Frame) (o:Base) (a:θ) (env:ab) (σ:ac):Prop:=
 ∀(S:aO) (B:a0) (H:Γ) (t:Array Value) (k:List Item) (v:Value),ff o.m o.S o.B o.H o.σ S B H σ->Holds S B σ H->dB S B σ env t->aA S B σ a v->aV P Q mn x {aD b t k with mode:=.panicking [{v,recovered:=false}]} cs H
structure xi (P:Program) (d:Deferred) (g:FuncId) (vs:Array Value):Prop where
 t1:∀r,d.target≠.collected r
 t2:d.target≠.nil
 run:∀w,(invoke d.target d.args).runT P w #[]=(.ok (.enter g vs) w,#[])
section
variable {P:Program} {T:bk} {A:List Nat} {Q:Value->Prop} {mn:Bool} {x:hz} {b:Frame} {cs:List Frame} {m nt:Nat} {o:Base} {k:List Item} {env:ab} {σ:ac} {S aJ:aO} {B B':a0} {H H':Γ} {σ':ac} {t:Array Value} {Z:be} {E:aq}
theorem V.gj (δ:Seq x) (hb:b.mode=.run) (h:W P o.m nt k env σ (V P Q mn x b cs nt o) (OE P Q mn x b cs o)):V P Q mn x b cs nt o k env σ:=
 λS B H t ν ω=>h Q mn x cs b S B H t δ hb ω (λj env' σ' aJ B' H' t' al Ψ ew iP π=>by
  have e:al=j:=π;subst e;exact Ψ aJ B' H' t' (ν.trans ew) iP) (λa env' σ' aJ B' H' t' al v he ew Δ ξ μ=>he aJ B' H' t' al v (ν.trans ew) Δ ξ μ)
theorem V.cl (δ:Seq x) (h:W P o.m nt k env σ (V P Q mn x b cs nt o) (OE P Q mn x b cs o)) (hb:b.mode=.run:=by rfl):V P Q mn x b cs nt o k env σ:=.gj δ hb h
theorem V.here (h:V P Q mn x b cs nt ⟨S,B,H,σ,m⟩ k env σ) (ω:gd m nt S B H σ env t):aV P Q mn x (aD b t k) cs H:=h S B H t .refl ω
theorem W.cC {id:Nat} {ops:Array Oper} (h:W P m nt (.inRegion ops (idx ops.size [])::k) env σ Z E):W P m nt (.code (.region id ops false)::k) env σ Z E:=
 λQ mn x cs b S B H t δ hb ω Ψ he=>.region δ hb (by rw[<-idx_eq];exact h Q mn x cs b S B H t δ hb ω Ψ he)
theorem W.part (Ν:bU P T) (is k6:List Nat) {ops:Array Oper} {l:List Nat} (π:l=is++k6) (h:∀Κ:ab->ac->Prop,(∀env σ,W P m nt (.inRegion ops k6::k) env σ Z E->Κ env σ)->run P T A nt ops is env σ Κ E):W P m nt (.inRegion ops l::k) env σ Z E:=
 π▸IA Ν k6 is env σ (h _ λ_ _ h=>h)
theorem I2 (ξ:dB S B σ env t) (args:Array Operand):gg S B σ (args.toList.map (aT env)) (args.map (bt t)):=by
 refine⟨η,λi a v U γ=>?_⟩;rw[List.getElem?_map,Array.getElem?_toList] at U;rw[Array.getElem?_map] at γ;cases δ:args[i]? with
 | none=>rw[δ] at U;cases U
 | some y=>rw[δ] at U γ;cases U;cases γ;exact mI ξ y
theorem Plain.enter {g:FuncId} (h:Plain P g) (vs:Array Value) (w:World):(callFunc g vs).runT P w #[]=(.ok (.enter g vs) w,#[]):=by
 obtain⟨fn,U,γ,ο⟩:=h;unfold callFunc;show Sem.runT P (Sem.bind program λp=>_) w #[]=_;simp only[program,Sem.bind];show Sem.runT P (match P.funcs[g]? with|none=>_|some fn=>_) w #[]=_;rw[U];simp only[γ,ο,Bool.false_eq_true,if_false];rfl
theorem gd.put {op:Oper} {a:θ} {v:Value} (ω:gd m nt S B H σ env t) (hd:hD nt op=true) (ν:aA S B σ a v):gd m nt S B H σ (b7 op env a) (put op t v):=
 ⟨ω.holds,(sh ω.cH hd ω.size ν).1,(sh ω.cH hd ω.size ν).2,ω.rows⟩
theorem ff.all (h:ff m S B H σ aJ B' H' σ') (Δ:Holds S B σ H) (hm:σ.length<=m):b8 S aJ B B' σ σ':=by
 have:=h.later
 rwa [List.take_of_length_le (by rw[Δ.len];exact hm),List.take_of_length_le hm] at this
theorem V.defer (δ:Seq x) (hb:b.mode=.run) (cv:b.roundOf=none) {ops:Array Oper} {i:Nat} {rest:List Nat} {op:Oper} (Β:ops[i]?=some op) (hw:ft env ops op=some true) (si:op.dst=none) {f:Operand} {args:Array Operand} {eu:Array TypeId} (Τ:op.op=.defer ⟨.value f,args,eu⟩)
  {g:FuncId} {first captured:am} (Ρ:aT env f=.fn (.func g) first captured) (Ω:Plain P g)
  (h:∀(S:aO) (B:a0) (H:Γ) (t:Array Value) (d:Deferred) (vs:Array Value),ff o.m o.S o.B o.H o.σ S B H σ->gd o.m nt S B H σ env t->gg S B σ (first++args.toList.map (aT env)++captured) vs->xi P d g vs->
   aV P Q mn x (aD {b with defers:=d::b.defers} t (.inRegion ops rest::k)) cs H):V P Q mn x b cs nt o (.inRegion ops (i::rest)::k) env σ:=by
 intro S B H t ν ω;refine .op δ hb Β (k5 ω.cH hw) (.inl cv) ?_;have a9:=mI ω.cH f;rw[Ρ] at a9;have nD:=I2 ω.cH args;have e:execOp (bt t) op=(do pure (.defer (<-Deferred.ofValue (bt t f) (args.map (bt t))))):=by unfold execOp;rw[Τ];rfl
 rw[e];generalize bt t f=Ο at a9;cases a9 with
 | fn v1 v2 U γ ο Ι=>
  refine χ.bind' (χ.pure' (χ.pure' ?_));have OF:put op t undef=t:=by unfold put;rw[si]
  simp only[Nc,OF];have r1:gg S B σ first v1:=⟨U,ο⟩
  have r2:gg S B σ captured v2:=⟨γ,Ι⟩;exact h S B H t ⟨.fn (.func g) v2,v1++args.map (bt t)⟩ (v1++args.map (bt t)++v2) ν ω ((r1.append nD).append r2) ⟨λ_ h=>(by cases h),λh=>(by cases h),λw=>Ω.enter _ w⟩
theorem aV.recovered (δ:Seq x) (hb:b.mode=.run) (cv:b.roundOf=none) {ops:Array Oper} {i:Nat} {rest:List Nat} {op:Oper} (Β:ops[i]?=some op) (Ω:op.guard=none) {eu:Array TypeId} (Τ:op.op=.call ⟨.builtin .recover,#[],eu⟩) {v:Value} {cs':List Frame}
  (μ:(tryRecover (aD b t (.inRegion ops (i::rest)::k)) cs=some (v,cs'))\/(tryRecover (aD b t (.inRegion ops (i::rest)::k)) cs=none/\v=.nilIface/\cs'=cs))
  (h:aV P Q mn x (aD b (put op t v) (.inRegion ops rest::k)) cs' H):aV P Q mn x (aD b t (.inRegion ops (i::rest)::k)) cs H:=by
 refine .op δ hb Β (by unfold Region.wanted;rw[Ω]) (.inl cv) ?_;have e:execOp (bt t) op=pure .recover:=by unfold execOp;rw[Τ];rfl
 rw[e];refine χ.pure' ⟨cv,?_⟩;rcases μ with μ|⟨μ,rfl,rfl⟩
 ·rw[μ];exact h
 ·rw[μ];exact h
end
theorem results_none {fn:Func} (h:fn.results=#[]) (t:Array Value):results fn t=pure (.tuple #[]):=by
 unfold results;rw[h];simp
theorem q5 {P:Program} {g:FuncId} {fn:Func} {body:Code} (bR:P.funcs[g]?=some fn) (oq:fn.body=some body) (vs:Array Value) (kd:CallKind):Frame.enter P g vs kd=aD (Frame.enter P g vs kd) (vs++Array.replicate (fn.ntmps-vs.size) undef) [.code body]:=by
 simp[Frame.enter,aD,bR,oq]
theorem gd.enter {S:aO} {B:a0} {H:Γ} {σ:ac} {lj:am} {vs:Array Value} {nt m:Nat} (Δ:Holds S B σ H) (hv:gg S B σ lj vs) (hm:m<=σ.length) (Θ:lj.length<=nt):gd m nt S B H σ (entry 0 lj) (vs++Array.replicate (nt-vs.size) undef):=
 ⟨Δ,N6 hv _,by have:=hv.1;simp;omega,hm⟩
end Go.TL
namespace Go.TL
open Go.Proofs
variable [bq]
def js (s:aU) (before:List cZ) (p:cZ):Int:=
 if p.cd<0\/(s.az.length:Int)<=p.cd then 3 else if before.any (λx=>x.cd==p.cd) then 4 else if valid p.seen=false\/valid p.bare=false then 1 else if ow p.seen p.bare=0 then 0 else 9
theorem Yj (p x:cZ):aB Tryz.prog 195 [dX x,.au [I p.cd,I p.seen,I p.bare]] (ba (x.cd==p.cd)):=by
 refine af.body Φ Tryz.func195 rfl rfl Tryz.ntmps195 rfl rfl η ?_;(repeat (first|apply ae|(refine dt λΚ κ=>?_;simp;(repeat (rw[ah];simp));apply κ)));refine W.ret ⟨_,rfl,?_,rfl⟩;exact .of (by simp)
theorem Yk (s:aU) (before:List cZ) (π:before.length<2 ^ 62) (p:cZ):af Tryz.prog 153 [fu s,pd before,dX p] [] (λa σ=>js s before p=0/\a=.bj []/\σ=[]) (λa σ=>js s before p≠0/\a=.gp 38 (I (js s before p))/\σ=[]):=by
 refine af.body Φ Tryz.func153 rfl rfl Tryz.ntmps153 rfl rfl η ?_;(repeat (first|apply ae|(refine dt λΚ κ=>?_;simp;(repeat (rw[ah];simp));apply κ)));refine W.yP (A:=[]) Φ mixed [(6,I p.seen),(7,I p.bare),(1,pd before),(3,.au [aY s.ar,aX s.az,bO s.cells]),(5,.au [I p.cd,I p.seen,I p.bare])] ?_ (by simp[cY,cX];exact hX (by kernel_rfl))
 repeat apply ae
 refine W.ts (A:=[]) Φ [(12,ba (decide (p.cd<0)||decide ((s.az.length:Int)<=p.cd))),(6,I p.seen),(7,I p.bare),(1,pd before),(3,.au [aY s.ar,aX s.az,bO s.cells]),(5,.au [I p.cd,I p.seen,I p.bare])] ?_ (by by_cases q:p.cd<0<;>simp[ah,pY,q]);by_cases bE:p.cd<0\/(s.az.length:Int)<=p.cd
 case pos=>
  have e:js s before p=3:=by unfold js;rw[if_pos bE]
  rw[e];refine aC (by simpa using bE) ?_;(repeat apply ae);refine dt λΚ κ=>?_;simp;(repeat (rw[ah];simp))
 refine ay (by simpa using bE) ?_;(repeat apply ae);refine dt λΚ κ=>?_;simp;(repeat (rw[ah];simp));refine aB.c (Ye before (.fn (.func 195) [] [.au [I p.cd,I p.seen,I p.bare]]) (λx=>x.cd==p.cd) π (by simp[kG]) (λx _=>λ_=>(Yj p x).cc (by simp;exact b2.refl _) η η ⟨rfl,rfl⟩)) (b2.refl _) (by simp[kG]) η ?_;simp;(repeat (rw[ah];simp));apply κ;cases c6:before.any (λx=>x.cd==p.cd)
 case true=>
  have e:js s before p=4:=by unfold js;rw[if_neg bE,if_pos c6]
  rw[e];refine aC η ?_;(repeat apply ae);refine dt λΚ κ=>?_;simp;(repeat (rw[ah];simp))
 refine ay η ?_
 repeat apply ae
 have OG:(valid p.seen=false\/valid p.bare=false)->js s before p=1:=λh=>by unfold js;rw[if_neg bE,c6];simp[h]
 cases fX:valid p.seen
 case false=>
  rw[OG (.inl fX)];(repeat apply ae);refine dt λΚ κ=>?_;simp;(repeat (rw[ah];simp));refine aB.c (yR p.seen) (b2.refl _) η η ?_;simp[fX];(repeat (rw[ah];simp[fX]));apply κ;refine aC rfl ?_;(repeat apply ae);refine dt λΚ κ=>?_;simp;(repeat (rw[ah];simp))
 cases nq:valid p.bare
 case false=>
  rw[OG (.inr nq)];(repeat apply ae);refine dt λΚ κ=>?_;simp;(repeat (rw[ah];simp));refine aB.c (yR p.seen) (b2.refl _) η η ?_;simp[fX];(repeat (rw[ah];simp[fX]));refine aB.c (yR p.bare) (b2.refl _) η η ?_;simp[nq];(repeat (rw[ah];simp[nq]));apply κ;refine aC rfl ?_;(repeat apply ae);refine dt λΚ κ=>?_;simp;(repeat (rw[ah];simp))
 (repeat apply ae);refine dt λΚ κ=>?_;simp;(repeat (rw[ah];simp));refine aB.c (yR p.seen) (b2.refl _) η η ?_;simp[fX];(repeat (rw[ah];simp[fX]));refine aB.c (yR p.bare) (b2.refl _) η η ?_;simp[nq];(repeat (rw[ah];simp[nq]));apply κ;refine ay rfl ?_;(repeat apply ae);refine dt λΚ κ=>?_;simp;(repeat (rw[ah];simp));refine aB.c (Oy p.seen p.bare) (b2.refl _) η η ?_;simp;(repeat (rw[ah];simp));apply κ;by_cases vi:ow p.seen p.bare=0
 ·have e:js s before p=0:=by unfold js;rw[if_neg bE,c6];simp[fX,nq,vi]
  refine ay (by simp[vi]) ?_;(repeat (first|apply ae|(refine dt λΚ κ=>?_;simp;(repeat (rw[ah];simp));apply κ)));exact W.nil ⟨_,rfl,e,rfl,rfl⟩
 ·have e:js s before p=9:=by unfold js;rw[if_neg bE,c6];simp[fX,nq,vi]
  rw[e];refine aC (by simp[vi]) ?_;(repeat apply ae);refine dt λΚ κ=>?_;simp;(repeat (rw[ah];simp))
end Go.TL
namespace Go.TL
open Go.Proofs Go.Conc
variable [bq]
theorem gg.later {S aJ:aO} {B B':a0} {σ σ':ac} {l:am} {vs:Array Value} (h:gg S B σ l vs) (π:b8 S aJ B B' σ σ'):gg aJ B' σ' l vs:=⟨h.1,λi a v U γ=>(h.2 i a v U γ).later π⟩
theorem wZ.fin {P:Program} {Q:Value->Prop} {mn:Bool} {x:hz} {c:Frame} {rest:List Frame} {S aJ:aO} {H H':Γ} {B':a0} {σ':ac} {v:Value} {r:θ} (hb:wZ P Q mn x c rest S [] H [] (λa s=>dD a r/\s=[]) (λ_ _=>False))
  (he:Ext S [] H aJ B' H') (Δ:Holds aJ B' σ' H') (μ:∀S B σ,aA S B σ r v):aV P Q mn x (c.finish v) rest H':=by
 obtain⟨U,γ⟩:=Δ.close (h:=0) (λid r cb=>J);simp only[List.take_zero] at U γ;exact hb.ret r [] _ [] H' v ⟨.refl _,rfl⟩ (he.trans γ) ⟨λb o v hv=>γ.dy _ _ _ (he.dy _ _ _ hv),λid r h=>by simp at h⟩ U (μ _ _ _)
abbrev tI (e:Int):ac:=[.cells 38 1 [I e]]
section
variable {Q:Value->Prop} {mn:Bool} {x:hz} {c f:Frame} {rest:List Frame} {S bS:aO} {b1:a0} {H H1:Γ} {cu e:Int} {p8:Array Value} {t:Array Value} {env:ab} {err:Int}
theorem OH (δ:Seq x) (hb:wZ Tryz.prog Q mn x c rest S [] H [] (λa s=>dD a (I err)/\s=[]) (λ_ _=>False)) {d:Deferred} (hd:xi Tryz.prog d 152 p8)
  (bR:f.fn=122) (e6:f.defers=[d]) (ψ:f.kind=.normal) (cv:f.roundOf=none) (hm:(f.mode=.returning/\cu=err)\/∃v,f.mode=.panicking [{v,recovered:=false}]/\aA bS b1 (tI cu) (.gp 38 (I err)) v)
  (ph:Ext S [] H bS b1 H1) (Δ:Holds bS b1 (tI cu) H1) (hv:gg bS b1 (tI cu) [.ak 0 1 0 0] p8) (ξ:dB bS b1 (tI cu) env f.tmps) (bf:a' env 6=.ak 0 1 0 0):aV Tryz.prog Q mn x f (c::rest) H1:=by
 have Yl:f.mode≠.run:=by rcases hm with⟨h,_⟩|⟨v,h,_⟩<;>rw[h]<;>simp
 refine aV.deferred δ Yl e6 hd.t1 hd.t2 hd.run ?_;rw[q5 Tryz.func152 rfl];have fin:∀(f':Frame) (kI:aO) (p9:a0) (kJ:Γ),f'.mode=.returning->f'.defers=[]->f'.kind=.normal->f'.fn=f.fn->f'.tmps=f.tmps->Ext bS b1 H1 kI p9 kJ->b8 bS kI b1 p9 (tI cu) (tI err)->Holds kI p9 (tI err) kJ->aV Tryz.prog Q mn x f' (c::rest) kJ:=λf' kI p9 kJ d' dG mY q6 tJ dF ad lU=>by
  refine aV.back δ d' dG (.inl mY) (fn:=Tryz.f122) (by rw[q6,bR];exact Tryz.func122) ?_;rw[tJ];refine χ.mono (λv iF ⟨ju,kK,fy,v',ax,uE⟩=>?_) (λ_ _ h=>h) _ (EC Φ (a:=I err) (show qZ bm [.cell 6 38] env (tI err)=some (I err) by simp[qZ,tu,yJ,bf,tt,iU.agg]) lU (ξ.later ad));cases uE;exact hb.fin (ph.trans (dF.trans fy)) ax λ_ _ _=>.z _
 refine V.here (m:=1) (nt:=10) (env:=entry 0 [.ak 0 1 0 0]) ?_ (gd.enter Δ hv η η);refine V.gj δ rfl ?_
 repeat apply ae
 refine W.cC ?_;refine W.stop ?_;intro lI lJ j4 t3 ik fv;rcases hm with⟨hm,rfl⟩|⟨v,hm,yU⟩
 ·refine aV.recovered δ rfl rfl rfl rfl rfl (v:=.nilIface) (.inr ⟨?_,rfl,rfl⟩) ?_
  ·simp[tryRecover,aD,Frame.enter,hm]
  ·refine V.here (m:=1) ?_ (fv.put rfl (.z .nilIface));refine V.gj δ rfl ?_;refine W.part (A:=[]) Φ [1,2,3,4,5,6] [] rfl λΚ κ=>?_;simp[wL];(repeat (rw[ah];simp[wL]));apply κ;refine W.bL ?_;refine Η ?_;refine ay rfl ?_;refine Η ?_;refine W.stop ?_;intro kI p9 kJ t4 tK q7;refine .s' δ rfl rfl ?_;refine aV.HJ δ rfl rfl rfl Tryz.func152 ?_;rw[results_none rfl];refine χ.pure' ?_;simp only[hm];exact fin _ kI p9 kJ rfl rfl ψ rfl rfl (ik.ext.trans tK.ext) ((ik.trans tK).all Δ η) q7.holds
 ·have tL:aA lI lJ (tI cu) (.gp 38 (I err)) v:=yU.later (ik.all Δ η);refine aV.recovered δ rfl rfl rfl rfl rfl (v:=v) (cs':={f with defers:=[],mode:=.panicking [{v,recovered:=true}]}::c::rest) (.inl ?_) ?_
  ·simp[tryRecover,aD,Frame.enter,hm]
  ·refine V.here (m:=1) ?_ (fv.put rfl tL);refine V.gj δ rfl ?_;refine W.part (A:=[]) Φ [1,2,3,4,5,6] [] rfl λΚ κ=>?_;simp[wL];(repeat (rw[ah];simp[wL]));apply κ;refine W.bL ?_;refine Η ?_;refine aC rfl ?_;refine Η ?_;refine W.stop ?_;intro kI p9 kJ t4 tK q7;refine .s' δ rfl rfl ?_;refine aV.HJ δ rfl rfl rfl Tryz.func152 ?_;rw[results_none rfl];refine χ.pure' ?_;exact fin _ kI p9 kJ rfl rfl ψ rfl rfl (ik.ext.trans tK.ext) ((ik.trans tK).all Δ η) q7.holds
end
theorem Ym (s:aU) (before:List cZ) (π:before.length<2 ^ 62) (p:cZ):aB Tryz.prog 122 [fu s,pd before,dX p] (I (js s before p)):=by
 refine⟨⟨_,Tryz.func122,rfl,rfl⟩,λQ mn x c rest S B H vs δ Δ hv hb=>?_⟩;have dV:B=[]:=dO.1 (by have:=Δ.len;simpa using this);subst dV;rw[q5 Tryz.func122 rfl];refine V.here (m:=0) (nt:=12) (env:=entry 0 [fu s,pd before,dX p]) ?_ (gd.enter Δ hv η η);refine V.gj δ rfl ?_
 repeat apply ae
 refine dj (A:=[6]) Φ λΚ κ=>bp ?_;apply κ
 repeat apply ae
 refine W.cC ?_;refine W.part (A:=[]) Φ [0] [1] rfl λΚ κ=>?_;(try simp);(repeat (rw[ah];simp));apply κ;refine W.stop ?_;refine V.defer δ rfl rfl rfl rfl rfl rfl rfl ⟨_,Tryz.func152,rfl,rfl⟩ λbS b1 H1 t1 d p8 q8 nI w6 hd=>?_;refine V.here (m:=1) ?_ ⟨nI.holds,nI.cH,nI.size,η⟩;refine V.gj δ rfl ?_;refine W.bL ?_;refine bc λΚ κ=>?_;refine hV.mono (af.call (first:=[]) (captured:=[]) ((Yk s before π p).mono (K':=λa bs=>js s before p=0/\aG 0 a/\bs=[]) (E':=λa bs=>(js s before p≠0/\a=.gp 38 (I (js s before p)))/\aG 0 a/\bs=[]) (λa bs ⟨U,γ,ο⟩=>⟨U,by subst γ;simp,ο⟩) (λa bs ⟨U,γ,ο⟩=>⟨⟨U,γ⟩,by subst γ;simp,ο⟩) |>.frame η)) (λa bs ⟨ao,ξ⟩=>?_) (λa bs ⟨⟨ao,ν⟩,ξ⟩=>?_)
 ·subst ξ;(try simp);(repeat (rw[ah];simp));apply κ;refine Η ?_;refine W.stop ?_;intro c8 e3 bN t2 so nJ;refine aV.ret (b:={Frame.enter Tryz.prog 122 vs .normal with defers:=[d]}) δ rfl rfl ?_;exact OH δ hb hd rfl rfl rfl rfl (.inl ⟨rfl,ao.symm⟩) (q8.ext.trans so.ext) nJ.holds (w6.later (so.all nI.holds η)) nJ.cH rfl
 ·subst ξ;subst ν;intro c8 e3 bN t2 bT v so jX de oy;have oz:=so.all nI.holds η;refine OH δ hb hd rfl rfl rfl rfl (.inr ⟨v,rfl,oy⟩) (q8.ext.trans so.ext) jX (w6.later oz) de ?_;rfl
end Go.TL
namespace Go.TL
open Go.Proofs
variable [bq]
theorem Yn:IntKind.i64.wrap 3=3:=br
def xj (l:List Int) (i:Nat):Int:=match l[i]? with
 | none=>0
 | some n=>if ox n=false then 3 else if 0<i/\n<=(l[i-1]?).getD 0 then 5 else 0
def yV (l:List Int):Int:=jO ((List.range l.length).map (xj l))
def pj (ls:List (List Int)):Int:=if ls.length=0 then 7 else if 4<ls.length then 6 else jO ((List.range ls.length).map λi=>yV ((ls[i]?).getD []))
theorem Yo (s:aU) (ξ:s.small):aB Tryz.prog 104 [fu s] (I (pj s.az)):=by
 refine af.body Φ Tryz.func104 rfl rfl Tryz.ntmps104 rfl rfl η ?_;have π:=ξ.2.1;by_cases iB:s.az.length=0
 ·refine aE iB ?_;refine aC η ?_;refine Η ?_;refine W.rt ?_;exact .of (by rw[show pj s.az=7 by simp[pj,iB]];rfl)
 by_cases p7:(4:Int)<s.az.length
 ·refine aE (ς iB p7) ?_;refine ay (by simp[iB]) ?_;refine aE (ς iB p7) ?_;refine aC η ?_;refine Η ?_;refine W.rt ?_;exact .of (by rw[show pj s.az=6 by simp[pj,iB];omega];rfl)
 have Bh:pj s.az=jO ((List.range s.az.length).map λi=>yV ((s.az[i]?).getD [])):=by
  unfold pj;rw[if_neg iB,if_neg J]
 rw[Bh];refine aE (ς iB p7) ?_;refine ay (by simp[iB]) ?_;refine aE (ς iB p7) ?_;refine ay η ?_;refine Η ?_;refine W.iter (λi:Nat=>i<=s.az.length/\∀j,j<i->yV ((s.az[j]?).getD [])=0) (λi=>[(1,.au [aY s.ar,aX s.az,bO s.cells]),(18,aX s.az),(19,I s.az.length),(20,I i)]) (λ_=>[]) (λi=>s.az.length-i) 0 ⟨J,λj ζ=>J⟩ rfl η (λi hi Α=>?_);refine Η ?_;refine W.ey rfl (λε=>?_) (λε=>?_)
 ·have ε:i<s.az.length:=by simpa using ε
  have lh:(s.az[i]?).getD []=s.az[i]:=by simp[ε]
  have ω:s.az[i].length<2 ^ 30:=ξ.2.2.2.1 _ (List.getElem_mem ε);refine aE ε ?_;refine W.iter (λn:Nat=>n<=s.az[i].length/\∀j,j<n->xj s.az[i] j=0) (λn=>[(1,.au [aY s.ar,aX s.az,bO s.cells]),(18,aX s.az),(19,I s.az.length),(20,I i),(4,bD I 1 s.az[i]),(24,bD I 1 s.az[i]),(25,I s.az[i].length),(26,I n)]) (λ_=>[]) (λn=>s.az[i].length-n) 0 ⟨J,λj ζ=>J⟩ rfl η (λn Θ I3=>?_);refine Η ?_;refine W.ey rfl (λa2=>?_) (λa2=>?_)
  ·have hd:n<s.az[i].length:=by simpa using a2
   have yW:s.az[i][n]?=some s.az[i][n]:=a6 hd
   have fin:∀e:Int,xj s.az[i] n=e->e≠0->jO ((List.range s.az.length).map λi=>yV ((s.az[i]?).getD []))=e:=λe he ao=>
    Bf (i:=i) ε (by rw[lh];exact Bf hd he ao Θ.2) ao hi.2
   repeat apply ae
   refine ov hd ?_;refine bc λΚ κ=>?_;refine aB.d (p0 s.az[i][n]) (bp ?_);apply κ;cases bE:ox s.az[i][n]
   ·refine aC η ?_;refine Η ?_;refine W.rt ?_;exact .of (by rw[fin 3 (by simp[xj,yW,bE]) br];rfl)
   refine ay η ?_
   repeat apply ae
   refine W.ts (A:=[]) Φ [(35,ba (decide (0<n/\s.az[i][n]<=(s.az[i][n-1]?).getD 0))),(1,.au [aY s.ar,aX s.az,bO s.cells]),(18,aX s.az),(19,I s.az.length),(20,I i),(4,bD I 1 s.az[i]),(24,bD I 1 s.az[i]),(25,I s.az[i].length),(26,I n)] ?_ (by
    cases n with
    | zero=>simp[ah,pY]
    | succ n=>
     have lk:n<s.az[i].length:=J
     have Ζ:=eY (show n<2 ^ 62 by omega)
     have ao:(0:Int)<(n:Int)+1:=J;simp[ah,pY,ao,lk,Ζ])
   by_cases c6:0<n/\s.az[i][n]<=(s.az[i][n-1]?).getD 0
   ·refine aC (by simp only[c6];rfl) ?_;refine Η ?_;refine W.rt ?_;exact .of (by rw[fin 5 (by simp only[xj,yW,bE];rw[if_neg η,if_pos c6]) br];rfl)
   ·refine ay (by simp only[c6];rfl) ?_;refine Η ?_;refine W.forget _ ?_ (I3 (n+1) ⟨hd,λj ζ=>?_⟩ J)
    ·simp[eX hd (show s.az[i].length<2 ^ 62 by omega)]
    ·by_cases e:j=n
     ·subst e;simp only[xj,yW,bE];rw[if_neg η,if_neg c6]
     ·exact Θ.2 j J
  ·have hd:s.az[i].length<=n:=by simpa using a2
   refine W.exit rfl ?_;refine Η ?_;refine W.forget _ ?_ (Α (i+1) ⟨ε,λj ζ=>?_⟩ J)
   ·simp[eX ε (show s.az.length<2 ^ 62 by omega)]
   ·by_cases e:j=i
    ·subst e;rw[lh];exact Bg λj ζ=>Θ.2 j J
    ·exact hi.2 j J
 ·have ε:s.az.length<=i:=by simpa using ε
  refine W.exit rfl ?_;refine Η ?_;refine W.rt ?_;exact .of (by rw[Bg (f:=λi=>yV ((s.az[i]?).getD [])) λj ζ=>hi.2 j J];rfl)
def q9 (s:aU) (c:List cZ):Int:=if 4<c.length then 6 else jO ((List.range c.length).map λi=>match c[i]? with|none=>0|some p=>js s (c.take i) p)
def tM (s:aU):Int:=if 4<s.cells.length then 6 else jO ((List.range s.cells.length).map λi=>q9 s ((s.cells[i]?).getD []))
theorem Yp (s:aU) (ξ:s.small):aB Tryz.prog 105 [fu s] (I (tM s)):=by
 refine af.body Φ Tryz.func105 rfl rfl Tryz.ntmps105 rfl rfl η ?_;have π:=ξ.2.2.1;by_cases p7:(4:Int)<s.cells.length
 ·refine aE p7 ?_;refine aC η ?_;refine Η ?_;refine W.rt ?_;exact .of (by rw[show tM s=6 by simp[tM];omega];rfl)
 have Bh:tM s=jO ((List.range s.cells.length).map λi=>q9 s ((s.cells[i]?).getD [])):=by
  unfold tM;rw[if_neg J]
 rw[Bh];refine aE p7 ?_;refine ay η ?_;refine Η ?_;refine W.iter (λi:Nat=>i<=s.cells.length/\∀j,j<i->q9 s ((s.cells[j]?).getD [])=0) (λi=>[(1,.au [aY s.ar,aX s.az,bO s.cells]),(13,bO s.cells),(14,I s.cells.length),(15,I i)]) (λ_=>[]) (λi=>s.cells.length-i) 0 ⟨J,λj ζ=>J⟩ rfl η (λi hi Α=>?_);refine Η ?_;refine W.ey rfl (λε=>?_) (λε=>?_)
 ·have ε:i<s.cells.length:=by simpa using ε
  have lh:(s.cells[i]?).getD []=s.cells[i]:=by simp[ε]
  have ω:s.cells[i].length<2 ^ 30:=ξ.2.2.2.2 _ (List.getElem_mem ε)
  have OI:∀e:Int,q9 s s.cells[i]=e->e≠0->jO ((List.range s.cells.length).map λi=>q9 s ((s.cells[i]?).getD []))=e:=λe he ao=>
   Bf (i:=i) ε (by rw[lh];exact he) ao hi.2
  by_cases yG:(4:Int)<s.cells[i].length
  ·refine aE (ς ε yG) ?_;refine aC η ?_;refine Η ?_;refine W.rt ?_;exact .of (by rw[OI 6 (by unfold q9;rw[if_pos J]) br];rfl)
  refine aE (ς ε yG) ?_;refine ay η ?_;refine Η ?_;have OJ:q9 s s.cells[i]=jO ((List.range s.cells[i].length).map λn=>match s.cells[i][n]? with|none=>0|some p=>js s (s.cells[i].take n) p):=by unfold q9;rw[if_neg J]
  refine W.iter (λn:Nat=>n<=s.cells[i].length/\∀j,j<n->(match s.cells[i][j]? with|none=>0|some p=>js s (s.cells[i].take j) p)=0) (λn=>[(1,.au [aY s.ar,aX s.az,bO s.cells]),(13,bO s.cells),(14,I s.cells.length),(15,I i),(4,pd s.cells[i]),(22,pd s.cells[i]),(23,I s.cells[i].length),(24,I n)]) (λ_=>[]) (λn=>s.cells[i].length-n) 0 ⟨J,λj ζ=>J⟩ rfl η (λn Θ I3=>?_);refine Η ?_;refine W.ey rfl (λa2=>?_) (λa2=>?_)
  ·have hd:n<s.cells[i].length:=by simpa using a2
   have yW:s.cells[i][n]?=some s.cells[i][n]:=a6 hd
   repeat apply ae
   refine dj (A:=[6]) Φ λΚ κ=>gh hd ?_;apply κ;refine W.fix (id:=0) (σ':=[]) (Nat.zero_le _) rfl η η rfl [(5,I n),(6,.au [I s.cells[i][n].cd,I s.cells[i][n].seen,I s.cells[i][n].bare]),(1,.au [aY s.ar,aX s.az,bO s.cells]),(13,bO s.cells),(14,I s.cells.length),(15,I i),(4,pd s.cells[i]),(22,pd s.cells[i]),(23,I s.cells[i].length),(24,I n)] η ?_
   repeat apply ae
   refine W.draw (A:=[]) Φ mixed λΚ κ=>?_;simp;(repeat (rw[cY];simp[hd,Nat.le_of_lt hd]));try rw[cX]
   (try simp only[<-List.map_take]);refine eD (aB.q (Ym s (s.cells[i].take n) (by simp;omega) s.cells[i][n])) (sm ?_);refine en (κ _ _ ?_)
   repeat apply ae
   refine Η ?_;by_cases b:js s (s.cells[i].take n) s.cells[i][n]=0
   ·refine ay (by simp[b]) ?_;refine Η ?_;refine W.forget _ ?_ (I3 (n+1) ⟨hd,λj ζ=>?_⟩ J)
    ·simp[eX hd (show s.cells[i].length<2 ^ 62 by omega)]
    ·by_cases e:j=n
     ·subst e;rw[yW];exact b
     ·exact Θ.2 j J
   ·refine aC (by simp[b]) ?_;refine Η ?_;refine W.rt ?_;exact .of (by rw[OI (js s (s.cells[i].take n) s.cells[i][n]) (by rw[OJ];exact Bf hd (by rw[yW]) b Θ.2) b];rfl)
  ·have hd:s.cells[i].length<=n:=by simpa using a2
   refine W.exit rfl ?_;refine Η ?_;refine W.forget _ ?_ (Α (i+1) ⟨ε,λj ζ=>?_⟩ J)
   ·simp[eX ε (show s.cells.length<2 ^ 62 by omega)]
   ·by_cases e:j=i
    ·subst e;rw[lh,OJ];exact Bg λj ζ=>Θ.2 j J
    ·exact hi.2 j J
 ·have ε:s.cells.length<=i:=by simpa using ε
  refine W.exit rfl ?_;refine Η ?_;refine W.rt ?_;exact .of (by rw[Bg (f:=λi=>q9 s ((s.cells[i]?).getD [])) λj ζ=>hi.2 j J];rfl)
def aU.err (s:aU):Int:=if pg s.ar≠0 then pg s.ar else if pj s.az≠0 then pj s.az else tM s
theorem I4 (s:aU) (ξ:s.small):aB Tryz.prog 48 [fu s] (I s.err):=by
 refine af.body Φ Tryz.func48 rfl rfl Tryz.ntmps48 rfl rfl η ?_;refine Η ?_;refine .loop ?_;refine Η ?_;refine aC rfl ?_;refine Η ?_;refine bc λΚ κ=>?_;refine aB.d (Yi s ξ) (bp ?_);apply κ;refine Η ?_;by_cases bE:pg s.ar=0
 case neg=>
  refine aC (by simp[bE]) ?_;refine Η ?_;refine W.rt ?_;exact .of (by rw[show s.err=pg s.ar by unfold aU.err;rw[if_pos bE]];rfl)
 refine ay (by simp[bE]) ?_;refine aE @IU ?_;refine .inLoop ?_;refine Η ?_;refine aC rfl ?_;refine Η ?_;refine bc λΚ κ=>?_;refine aB.d (Yo s ξ) (bp ?_);apply κ;refine Η ?_;by_cases c6:pj s.az=0
 case neg=>
  refine aC (by simp[c6]) ?_;refine Η ?_;refine W.rt ?_;exact .of (by rw[show s.err=pj s.az by unfold aU.err;rw[if_neg (by simp[bE]),if_pos c6]];rfl)
 refine ay (by simp[c6]) ?_;refine aE @IV ?_;refine .inLoop ?_;refine Η ?_;refine aC rfl ?_;refine Η ?_;refine bc λΚ κ=>?_;refine aB.d (Yp s ξ) (bp ?_);apply κ;refine Η ?_;have e:s.err=tM s:=by unfold aU.err;rw[if_neg (by simp[bE]),if_neg (by simp[c6])]
 rw[e];by_cases fX:tM s=0
 case neg=>
  refine aC (by simp[fX]) ?_;refine Η ?_;refine W.rt ?_;exact .of rfl
 refine ay (by simp[fX]) ?_;refine aE @Yn ?_;refine .inLoop ?_;refine Η ?_;refine ay rfl ?_;refine W.exit rfl ?_;refine Η ?_;refine W.rt ?_;exact .of (by rw[fX];rfl)
section
variable {P:Program} {T:bk} {A:List Nat} {m nt:Nat} {k:List Item} {env:ab} {σ:ac} {Z:be} {E:aq}
theorem W.gX (Ν:bU P T) (env':ab) (σ':ac) {id:Nat} {ops:Array Oper} (h:W P m nt k env' σ' Z E) (μ:run P T A nt ops (idx ops.size []) env σ (λe s=>s=σ'/\∀p∈env',a' e p.1=p.2) E):W P m nt (.code (.region id ops false)::k) env σ Z E:=
 dj Ν λΚ κ=>EA (λe s ⟨U,γ⟩=>κ e s (U▸W.forget env' γ h)) _ _ _ μ
end
def fg (l:am):θ:=if l.isEmpty then .sl true 0 [] else .ms 0 l.length 0 l.length
def bF (t:TypeId) (k:Nat) (l:am):ac:=if l.isEmpty then [] else [.cells t k l]
def hg (k:Nat) (l:am):θ:=if l.isEmpty then .sl true 0 [] else .sl false k l
theorem p':fg []=.sl true 0 []:=rfl
theorem kL {t k:Nat}:bF t k []=[]:=rfl
theorem q' {l:am} (h:l≠[]):fg l=.ms 0 l.length 0 l.length:=by unfold fg;rw[if_neg (by simpa using h)]
theorem eL {t k:Nat} {l:am} (h:l≠[]):bF t k l=[.cells t k l]:=by unfold bF;rw[if_neg (by simpa using h)]
theorem xk {l:am} {x:θ}:fg (l++[x])=.ms 0 (l.length+1) 0 (l.length+1):=by rw[q' η];simp
theorem sr {t k:Nat} {l:am} {x:θ}:bF t k (l++[x])=[.cells t k (l++[x])]:=eL η
theorem eK.acc {t k:Nat} {l:am} (hb:∀e∈l,∀a∈e.cells,aG 0 a):eK 0 (bF t k l) (fg l) (hg k l):=by
 unfold bF fg hg;cases h:l.isEmpty with
 | true=>exact .low η
 | false=>exact .own (Nat.zero_le _) rfl rfl hb
theorem dD.acc {k:Nat} {l:am}:dD (hg k l) (.sl false k l):=by
 unfold hg;cases h:l.isEmpty with
 | true=>rw[List.isEmpty_iff.1 h];exact .nil
 | false=>exact .refl _
@[simp] theorem lΧ {α:Type} {l:List α} {a b:α}:(l++[a]).set l.length b=l++[b]:=by rw[List.set_append_right _ _ (Nat.le_refl _),Nat.sub_self];rfl
@[simp] theorem lΨ {t k:Nat} {l:am}:aG (bF t k l).length (fg l):=by
 unfold fg bF;cases l.isEmpty<;>simp[sj]
theorem aG.mono {h dh:Nat} {a:θ} (hb:aG h a) (a5:h<=dh):aG dh a:=by
 induction hb with
 | z v=>exact .z v
 | cz=>exact .cz
 | au _ Α=>exact .au Α
 | sl _ Α=>exact .sl Α
 | a3 _ Α=>exact .a3 Α
 | bj _ Α=>exact .bj Α
 | fn _ _ te nz=>exact .fn te nz
 | gp _ Α=>exact .gp Α
 | ak h=>exact .ak J
 | ms h=>exact .ms J
 | mp h=>exact .mp J
 | it h=>exact .it J
theorem yX {t k h:Nat} {l:am} (hb:∀e∈l,∀a∈e.cells,aG 0 a):∀r∈bF t k l,fC h r:=by
 intro r μ;unfold bF at μ;cases π:l.isEmpty with
 | true=>rw[π] at μ;simp at μ
 | false=>
  rw[π] at μ;simp at μ;subst μ;exact λe he a ν=>(hb e he a ν).mono (Nat.zero_le _)
section
variable {P:Program} {m nt:Nat} {k:List Item} {env:ab} {Z:be} {E:aq}
theorem W.oA {σ0:ac} {t:TypeId} {e:θ} {kk:Nat} (hm:m<=σ0.length) (k4:∀r∈σ0,fC σ0.length r) (he:∀a∈e.cells,aG σ0.length a) (env':ab)
  (cO:∀p∈env',(a' env p.1=p.2/\aG σ0.length p.2)\/(a' env p.1=.ak σ0.length 1 0 0/\p.2=.au e.cells)) (hW:W P m nt k env' σ0 Z E):W P m nt k env (σ0++[.cells t kk [e]]) Z E:=
 W.fix (t:=t) (kk:=kk) (e:=e) hm η he (λid r cb μ=>k4 r (by
  rw[dM cb] at μ;exact cy μ)) η env' cO hW
theorem W.Yq {t kk:Nat} {l:am} {d:Nat} (hb:∀e∈l,∀a∈e.cells,aG 0 a) (env':ab) (hd:a' env d=fg l) (cO:∀p∈env',a' env p.1=p.2/\aG 0 p.2) (hW:W P 0 nt k ((d,hg kk l)::env') [] Z E):W P 0 nt k env (bF t kk l) Z E:=
 W.cut 0 (Nat.zero_le _) ((d,hg kk l)::env') (Nat.zero_le _) (λid r cb=>J) (λp ω=>by
  rcases List.mem_cons.1 ω with rfl|ω
  ·show eK 0 _ (a' env d) _;rw[hd];exact .acc hb
  ·rw[(cO p ω).1];exact .low (cO p ω).2) (by simpa using hW)
end
abbrev gw (l:List Int):θ:=.sl true 1 (l.map I)
theorem dD.Yr {L:List (List Int)}:dD (hg 1 (L.map gw)) (aX L):=.trans .acc (.map λx _=>.one .ex rfl rfl)
theorem OK {L:List (List Int)}:∀e∈L.map gw,∀a∈e.cells,aG 0 a:=by
 intro e he a ν;obtain⟨x,_,rfl⟩:=List.mem_map.1 he;simp[θ.cells] at ν;subst ν;simp
theorem Ys (n:Int):aB Tryz.prog 51 [I n] (.bj [I (if valid n then EX n else 0),I (if valid n then 0 else 1)]):=by
 refine af.body Φ Tryz.func51 rfl rfl Tryz.ntmps51 rfl rfl η ?_;refine Η ?_;refine bc λΚ κ=>?_;refine aB.d (yR n) (bp ?_);apply κ;cases b:valid n
 ·refine aC rfl ?_;refine Η ?_;refine W.rt ?_;exact .of rfl
 ·refine ay rfl ?_;refine bc λΚ κ=>?_;refine aB.d (XT n) (bp ?_);apply κ;refine Η ?_;refine W.rt ?_;exact .of rfl
def nK {α:Type} [DecidableEq α]:α->List α->List α
 | _,[]=>[]
 | a,b::l=>if b=a then nK a l else b::nK b l
def eM {α:Type} [DecidableEq α]:List α->List α
 | []=>[]
 | a::l=>a::nK a l
theorem E5 {α:Type} [DecidableEq α] (l:List α) {p:Nat} (ω:0<p) (h:p<l.length) (dh:p-1<l.length):eM (l.take (p+1))=eM (l.take p)++if l[p]=l[p-1] then [] else [l[p]]:=by
 have gen:∀(l:List α) (a:α) (p:Nat) (h:p<l.length),nK a (l.take (p+1))=nK a (l.take p)++if l[p]=(a::l)[p]'(by simp;omega) then [] else [l[p]]:=by
  intro l
  induction l with
  | nil=>intro a p h;cases h
  | cons b l Α=>
   intro a p h;cases p with
   | zero=>by_cases e:b=a<;>simp[nK,e]
   | succ p=>
    have γ:p<l.length:=by simpa using h
    by_cases e:b=a
    ·subst e;have:=Α b p γ;simp only[List.take_succ_cons,nK,if_true,List.getElem_cons_succ] at this ⊢;exact this
    ·have:=Α b p γ;simp only[List.take_succ_cons,nK,e,if_false,List.getElem_cons_succ,List.cons_append] at this ⊢;rw[this]
 cases l with
 | nil=>cases h
 | cons a l=>
  obtain⟨q,rfl⟩:∃q,p=q+1:=⟨p-1,J⟩;have γ:q<l.length:=by simpa using h
  have:=gen l a q γ;simp only[List.take_succ_cons,eM,List.getElem_cons_succ,Nat.add_sub_cancel] at this ⊢;rw[this];rfl
theorem E6 {f:List Int} {L:am} (ad:L=f.map I) {j:Nat} {x:Int} (h:f[j]?=some x):L[j]?=some (I x)/\∀h:j<L.length,L[j]=I x:=by
 have e:L[j]?=some (I x):=by rw[ad,List.getElem?_map,h];rfl
 exact⟨e,λζ=>by rw[a6 ζ] at e;exact Option.some.inj e⟩
theorem Yt (l:List Int) (n:Nat) (Θ:l.length=n) (ξ:n<2 ^ 40):af Tryz.prog 133 [.ms 0 n 0 n] [.cells 3 1 (l.map I)]
  (λr s=>∃tail:List Int,(eM l++tail).length=n/\r=.ms 0 n 0 (eM l).length/\s=[.cells 3 1 ((eM l++tail).map I)]) (λ_ _=>False):=by
 refine af.body Φ Tryz.func133 rfl rfl Tryz.ntmps133 rfl rfl η ?_;by_cases γ:(n:Int)<2
 ·refine aE (ς Θ γ) ?_;refine aC rfl ?_;refine aE Θ ?_;refine W.ret ⟨_,rfl,[],?_⟩;have e:eM l=l:=by
   match l,Θ with
   | [],_=>rfl
   | [a],_=>rfl
   | a::b::l,Θ=>simp at Θ;omega
  rw[e,List.append_nil,Θ];exact⟨rfl,rfl,rfl⟩
 refine aE (ς Θ γ) ?_;refine ay rfl ?_;refine Η ?_;refine W.iter (λk:Nat=>1<=k/\k<=n/\eM (l.take k)=l.take k) (λk=>[(0,.ms 0 n 0 n),(3,I k)]) (λ_=>[.cells 3 1 (l.map I)]) (λk=>n-k) 1 ⟨Nat.le_refl _,J,by
  match l,Θ with
  | [],Θ=>rfl
  | a::l,Θ=>rfl⟩ rfl η (λk ψ Α=>?_)
 obtain⟨k1,bT,k9⟩:=ψ;refine aE Θ ?_;by_cases ε:k<n
 ·refine aC (by simp[ε]) ?_
  repeat apply ae
  obtain⟨p,ω⟩:∃p,k=p+1:=⟨k-1,J⟩;have lf:IntKind.i64.wrap ((k:Int)-1)=(p:Int):=by have:=eY (show p<2 ^ 62 by omega);rw[ω];simpa using this
  have lg:p<n:=J
  have iA:k<l.length:=J
  have ib:p<l.length:=J;obtain⟨L,ad⟩:=aF (l.map I);have hc:L.length=n:=by rw[ad];simpa using Θ
  obtain⟨a1,bb⟩:=E6 ad (a6 iA);obtain⟨bE,c6⟩:=E6 ad (a6 ib);refine W.to (σ':=[.cells 3 1 L]) (env':=[(0,.ms 0 n 0 n),(3,I k)]) ?_ (by rw[ad]) η;generalize δ:l[k]=x at a1 bb;generalize Μ:l[p]=y at bE c6;refine dH (ς ε (ς lf (ς hc (ς lg (ς a1 (ς bb (ς bE c6))))))) ?_;have dI:eM (l.take (k+1))=eM (l.take k)++if x=y then [] else [x]:=by
   rw[E5 l J iA J];simp only[ω,Nat.add_sub_cancel] at δ ⊢;rw[δ,Μ]
  by_cases qV:x=y
  ·refine aC (by simp[qV]) ?_
   repeat apply ae
   refine W.gX (A:=[]) Φ [(0,.ms 0 n 0 n),(3,I k),(4,.ms 0 n k (n-k))] [.cells 3 1 L] ?_ (by
    (try simp);(repeat (rw[ah];simp[hc,Nat.le_of_lt ε]));(try simp[hc,Nat.le_of_lt ε]))
   refine Η ?_;have cD:eM (l.take (k+1))=l.take k:=by rw[dI,if_pos qV,List.append_nil,k9]
   refine W.iter (λq:Nat×Nat×List Int=>1<=q.2.1/\k+q.2.1<=n/\q.2.2.length=n/\q.1<k+q.2.1/\q.1=(eM (l.take (k+q.2.1))).length/\q.2.2.take q.1=eM (l.take (k+q.2.1))/\∀j,k+q.2.1-1<=j->j<n->q.2.2[j]?=l[j]?)
    (λq=>[(0,.ms 0 n 0 n),(3,I q.1),(4,.ms 0 n k (n-k)),(5,I q.2.1)]) (λq=>[.cells 3 1 (q.2.2.map I)]) (λq=>n-q.2.1) (k,1,l) ⟨Nat.le_refl _,by simp;omega,Θ,η,by simp only[cD];simp;omega,by simp only[cD],λj _ _=>rfl⟩ (by rw[ad]) η (λq Χ fL=>?_)
   obtain⟨m,bT,f⟩:=q;obtain⟨c1,c2,c3,c4,kE,nA,mL⟩:=Χ;simp only at c1 c2 c3 c4 kE nA mL;clear ad hc a1 bb bE c6;refine aE c3 ?_;by_cases hd:bT<n-k
   ·have tA:(bT:Int)<((n-k:Nat):Int):=J
    refine aC (by simp[hd]) ?_
    repeat apply ae
    obtain⟨nL,iN⟩:∃r,bT=r+1:=⟨bT-1,J⟩;have fK:IntKind.i64.wrap ((bT:Int)-1)=(nL:Int):=by have:=eY (show nL<2 ^ 62 by omega);rw[iN];simpa using this
    have μ:nL<n-k:=J;obtain⟨M,db⟩:=aF (f.map I);have xl:M.length=n:=by rw[db];simpa using c3
    have hu:f[k+bT]?=some (l[k+bT]'J):=by rw[mL _ J J,a6]
    have hv:f[k+nL]?=some (l[k+nL]'J):=by rw[mL _ J J,a6]
    have de:=E5 l (p:=k+bT) J J J
    have I5:l[k+bT-1]'J=l[k+nL]'J:=by congr 1;omega
    rw[I5] at de;generalize l[k+bT]'J=u at hu de;generalize l[k+nL]'J=v at hv de;obtain⟨bI,bw⟩:=E6 db hu;obtain⟨v1,v2⟩:=E6 db hv;refine W.to (σ':=[.cells 3 1 M]) (env':=[(0,.ms 0 n 0 n),(3,I m),(4,.ms 0 n k (n-k)),(5,I bT)]) ?_ (by rw[db]) η;have kY:m<n:=J;refine W.draw (A:=[]) Φ mixed λΚ κ=>?_;simp;(repeat (rw[cY];simp[hd,fK,μ,xl,bI,bw,v1,v2]));try rw[cX];refine en (κ _ _ ?_)
    by_cases tN:u=v
    ·refine ay (by simp[tN]) ?_;refine Η ?_;rw[if_pos tN,List.append_nil] at de;refine W.to (fL (m,bT+1,f) ⟨η,by simp;omega,c3,by simp;omega,by simp only[<-Nat.add_assoc,de];exact kE,by simp only[<-Nat.add_assoc,de];exact nA,λj U γ=>mL j (by simp at U;omega) γ⟩ (by simp;omega)) (by rw[db]) ?_;have:=eY (show bT+1<2 ^ 62 by omega);simpa using this
    ·refine aC (by simp[tN]) ?_;rw[if_neg tN] at de
     repeat apply ae
     refine W.gX (A:=[]) Φ [(0,.ms 0 n 0 n),(3,I m),(4,.ms 0 n k (n-k)),(5,I bT)] [.cells 3 1 ((f.set m u).map I)] ?_ (by
      (try simp);(repeat (rw[ah];simp[hd,xl,kY,bI,bw]));(try simp[hd,xl,kY,bI,bw]);subst db;simp)
     refine Η ?_;refine W.to (fL (m+1,bT+1,f.set m u) ⟨η,by simp;omega,by simpa using c3,by simp;omega,by simp only[<-Nat.add_assoc,de];simp;exact kE,?_,λj U γ=>?_⟩ (by simp;omega)) η ?_
     ·simp only[<-Nat.add_assoc,de];rw[<-nA,List.take_succ_eq_append_getElem (by simp;omega),List.take_set_of_le (Nat.le_refl _)];simp
     ·simp at U;rw[List.getElem?_set_ne J];exact mL j J γ
     ·have Ζ:=eY (show bT+1<2 ^ 62 by omega)
      have Ε:=eY (show m+1<2 ^ 62 by omega);simp at Ζ Ε ⊢;exact⟨Ε,Ζ⟩
   ·refine ay (by simp[hd]) ?_;refine W.exit rfl ?_;have he:k+bT=n:=J;have I6:l.take n=l:=List.take_of_length_le J;rw[he,I6] at kE nA
    repeat apply ae
    have kY:m<=n:=J;refine W.gX (A:=[]) Φ [(0,.ms 0 n 0 n),(3,I m)] [.cells 3 1 ((eM l++List.replicate (n-m) 0).map I)] ?_ (by
     (try simp);(repeat (rw[ah];simp[c3,kY]));(try simp[c3,kY]);rw[<-List.map_take,nA,List.drop_eq_nil_of_le (by simp;omega),List.append_nil])
    have I7:(eM l).length+(n-m)=n:=J;refine aE (ς I7 kY) ?_;refine W.ret ⟨_,rfl,List.replicate (n-m) 0,by simp;omega,?_,η⟩;rw[<-kE];rfl
  ·refine ay (by simp[qV]) ?_;refine Η ?_;refine W.to (Α (k+1) ⟨J,J,?_⟩ J) (by rw[ad]) ?_
   ·rw[dI,if_neg qV,k9,<-δ,<-List.take_succ_eq_append_getElem iA]
   ·have:=eY (show k+1<2 ^ 62 by omega);simpa using this
 ·refine ay (by simp[ε]) ?_;refine W.exit rfl ?_;refine Η ?_;refine W.ret ⟨_,rfl,[],?_⟩;have e:eM l=l:=by rw[List.take_of_length_le J] at k9;exact k9
  rw[e,List.append_nil,Θ];exact⟨rfl,rfl,rfl⟩
def tO:aU:=⟨[],[],[]⟩
theorem I8 {e f g:Bool} {a b c:Nat}:dD (.a3 [.sl e a [],.sl f b [],.sl g c []]) (fu tO):=.a3 (.cons .nil (.cons .nil (.cons .nil .nil)))
abbrev OL (r:aU×List Found×Int):θ:=.bj [fu r.1,cL r.2.1,I r.2.2]
def fa (s:aU) (b':Bool) (F:List Found):aU×List Found×Int:=
 if s.err≠0 then(tO,[],s.err) else if b'=true/\F=[] then(s,[],9) else(s,F,0)
def ja (s:aU) (cell:Int) (F:List Found):aU×List Found×Int:=
 if s.err≠0 then(tO,[],s.err) else if cell<0\/(s.cells.length:Int)<=cell then(tO,[],3) else fa s true F
def qa (s:aU) (F:List Found):Prop:=s.err=0->aB Tryz.prog 116 [fu s] (cL F)
theorem Bi (s:aU) (ξ:s.small) (b':Bool) (F:List Found) (eI:qa s F):aB Tryz.prog 75 [fu s,ba b'] (OL (fa s b' F)):=by
 refine af.body Φ Tryz.func75 rfl rfl Tryz.ntmps75 rfl rfl η ?_
 repeat apply ae
 refine dj (A:=[4]) Φ λΚ κ=>bp ?_;apply κ;refine bc λΚ κ=>?_;refine aB.d (I4 s ξ) (bp ?_);apply κ;refine Η ?_;by_cases df:s.err=0
 case neg=>
  have e:fa s b' F=(tO,[],s.err):=by unfold fa;rw[if_pos df]
  rw[e];refine aC (by simp[df]) ?_;refine Η ?_;refine W.fix (id:=0) (σ':=[]) (Nat.zero_le _) rfl η η rfl [(4,.au [.sl true 0 [],.sl true 0 [],.sl true 0 []]),(5,.sl true 0 []),(6,I s.err)] η ?_;refine W.rt ?_;exact .bj (.cons I8 (.cons .nil (.cons (.refl _) .nil)))
 refine ay (by simp[df]) ?_
 repeat apply ae
 refine dj (A:=[8]) Φ λΚ κ=>bp ?_;apply κ;refine bc λΚ κ=>?_;refine aB.d (eI df) (bp ?_);apply κ
 repeat apply ae
 cases b'
 case false=>
  have e:fa s false F=(s,F,0):=by unfold fa;rw[if_neg (by simpa using df),if_neg η]
  rw[e];refine Η ?_;refine ay rfl ?_;refine Η ?_;refine W.fix (id:=0) (σ':=[]) (Nat.zero_le _) rfl η η rfl [(4,.au [aY s.ar,aX s.az,bO s.cells]),(5,cL F),(6,I 0)] η ?_;refine W.rt ?_;exact .refl _
 case true=>
  refine Η ?_;by_cases z:F=[]
  ·have e:fa s true F=(s,[],9):=by unfold fa;rw[if_neg (by simpa using df),if_pos ⟨rfl,z⟩]
   rw[e];refine aC (by simp[z]) ?_;refine Η ?_;refine W.fix (id:=0) (σ':=[]) (Nat.zero_le _) rfl η η rfl [(4,.au [aY s.ar,aX s.az,bO s.cells]),(5,.sl true 0 []),(6,I 9)] η ?_;refine W.rt ?_;exact .bj (.cons (.refl _) (.cons .nil (.cons (.refl _) .nil)))
  ·have e:fa s true F=(s,F,0):=by unfold fa;rw[if_neg (by simpa using df),if_neg (by simp[z])]
   rw[e];refine ay (by simp[z]) ?_;refine Η ?_;refine W.fix (id:=0) (σ':=[]) (Nat.zero_le _) rfl η η rfl [(4,.au [aY s.ar,aX s.az,bO s.cells]),(5,cL F),(6,I 0)] η ?_;refine W.rt ?_;exact .refl _
theorem OM (s:aU) (ξ:s.small) (cell:Int) (F:List Found) (eI:qa s F):aB Tryz.prog 82 [fu s,I cell] (OL (ja s cell F)):=by
 refine af.body Φ Tryz.func82 rfl rfl Tryz.ntmps82 rfl rfl η ?_
 repeat apply ae
 refine dj (A:=[4]) Φ λΚ κ=>bp ?_;apply κ;refine bc λΚ κ=>?_;refine aB.d (I4 s ξ) (bp ?_);apply κ;refine Η ?_;by_cases df:s.err=0
 case neg=>
  have e:ja s cell F=(tO,[],s.err):=by unfold ja;rw[if_pos df]
  rw[e];refine aC (by simp[df]) ?_;refine Η ?_;refine W.fix (id:=0) (σ':=[]) (Nat.zero_le _) rfl η η rfl [(4,.au [.sl true 0 [],.sl true 0 [],.sl true 0 []]),(5,.sl true 0 []),(6,I s.err)] η ?_;refine W.rt ?_;exact .bj (.cons I8 (.cons .nil (.cons (.refl _) .nil)))
 refine ay (by simp[df]) ?_;have cu:ja s cell F=if cell<0\/(s.cells.length:Int)<=cell then(tO,[],3) else fa s true F:=by unfold ja;rw[if_neg (by simpa using df)]
 repeat apply ae
 refine W.ts (A:=[]) Φ [(22,ba (decide (cell<0)||decide ((s.cells.length:Int)<=cell))),(2,.au [aY s.ar,aX s.az,bO s.cells]),(4,.ak 0 1 0 0),(1,I cell)] ?_ (by
  by_cases q:cell<0
  ·(try simp);(repeat (rw[ah];simp[q]));(try simp[q])
  ·(try simp);(repeat (rw[ah];simp[q]));(try simp[q]))
 by_cases bE:cell<0\/(s.cells.length:Int)<=cell
 ·rw[cu,if_pos bE];refine aC (by simpa using bE) ?_;refine Η ?_;refine W.fix (id:=0) (σ':=[]) (Nat.zero_le _) rfl η η rfl [(4,.au [.sl true 0 [],.sl true 0 [],.sl true 0 []]),(5,.sl true 0 []),(6,I 3)] η ?_;refine W.rt ?_;exact .bj (.cons I8 (.cons .nil (.cons (.refl _) .nil)))
 ·rw[cu,if_neg bE];refine ay (by simpa using bE) ?_;refine bc λΚ κ=>?_;refine aB.d (Bi s ξ true F eI) (bp ?_);apply κ;refine Η ?_;generalize fa s true F=r;refine W.fix (id:=0) (σ':=[]) (Nat.zero_le _) rfl η η rfl [(4,.au [aY r.1.ar,aX r.1.az,bO r.1.cells]),(5,cL r.2.1),(6,I r.2.2)] η ?_;refine W.rt ?_;exact .refl _
def Small (F:List Found):Prop:=F.length<2 ^ 20/\(∀f∈F,f.cells.length<2 ^ 20/\(∀i,i<=f.cells.length->∀ha,hG f.cells ha i<2 ^ 40)/\∀c∈f.cells,c.length<2 ^ 20)
theorem ON (s:aU) (ξ:s.small) (F:List Found) (eI:qa s F) (Ρ:Small F) (ε:fR F<2 ^ 62):aB Tryz.prog 39 [fu s] (.bj [I (if s.err=0 then fR F else 0),I s.err]):=by
 refine af.body Φ Tryz.func39 rfl rfl Tryz.ntmps39 rfl rfl η ?_;refine Η ?_;refine da ?_;refine dj (A:=[4]) Φ λΚ κ=>bp ?_;refine aB.d (Bi s ξ false F eI) (bp ?_);apply κ;have e:fa s false F=if s.err=0 then(s,F,0) else(tO,[],s.err):=by
  unfold fa;by_cases b:s.err=0
  ·rw[if_neg (by simpa using b),if_neg η,if_pos b]
  ·rw[if_pos b,if_neg b]
 have Ζ:(fa s false F).2.1=if s.err=0 then F else []:=by rw[e];split<;>rfl
 have Ε:(fa s false F).2.2=s.err:=by rw[e];split<;>simp[*]
 have fin:∀l:List Found,(∀f∈l,f∈F)->l.length<=F.length->fR l<2 ^ 62->aB Tryz.prog 79 [cL l] (I (fR l)):=λl π U γ=>
  OC l (by have:=Ρ.1;omega) (λf δ=>⟨by have:=(Ρ.2 f (π f δ)).1;omega,λi hi=>by have:=(Ρ.2 f (π f δ)).2.1 i hi (-1);omega⟩) γ
 rw[Ζ,Ε];by_cases b:s.err=0
 ·rw[if_pos b];refine bc λΚ κ=>?_;refine aB.d (fin F (λf h=>h) (Nat.le_refl _) ε) (bp ?_);apply κ;refine W.drop (h:=0) (Nat.zero_le _) (Nat.zero_le _) η rfl [(2,I (fR F)),(3,I s.err)] η ?_;refine W.rt ?_;rw[if_pos b];exact .refl _
 ·rw[if_neg b];refine bc λΚ κ=>?_;refine aB.d (fin [] η η (by simp[fR])) (bp ?_);apply κ;refine W.drop (h:=0) (Nat.zero_le _) (Nat.zero_le _) η rfl [(2,I (fR [])),(3,I s.err)] η ?_;refine W.rt ?_;rw[if_neg b];exact .refl _
def hr (F:List Found):List (List Int):=F.map λf=>[f.u,f.v]
theorem OO {α β:Type} (f:α->β) (l:List α) {i:Nat} (h:i<l.length):(l.take (i+1)).map f=(l.take i).map f++[f l[i]]:=by
 rw[List.take_succ_eq_append_getElem h,List.map_append];rfl
theorem I9 (s:aU) (ξ:s.small) (F:List Found) (eI:qa s F) (Ρ:F.length<2 ^ 20):aB Tryz.prog 42 [fu s] (.bj [aX (if s.err=0 then hr F else []),I s.err]):=by
 refine af.body Φ Tryz.func42 rfl rfl Tryz.ntmps42 rfl rfl η ?_;refine Η ?_;refine da ?_;refine dj (A:=[4]) Φ λΚ κ=>bp ?_;refine aB.d (Bi s ξ false F eI) (bp ?_);apply κ;have e:fa s false F=if s.err=0 then(s,F,0) else(tO,[],s.err):=by
  unfold fa;by_cases b:s.err=0
  ·rw[if_neg (by simpa using b),if_neg η,if_pos b]
  ·rw[if_pos b,if_neg b]
 have Ζ:(fa s false F).2.1=if s.err=0 then F else []:=by rw[e];split<;>rfl
 have Ε:(fa s false F).2.2=s.err:=by rw[e];split<;>simp[*]
 obtain⟨G,di⟩:∃G,G=if s.err=0 then F else []:=⟨_,rfl⟩
 have il:G.length<2 ^ 20:=by rw[di];split;exact Ρ;simp
 have nn:(if s.err=0 then hr F else [])=hr G:=by rw[di];split<;>rfl
 rw[Ζ,Ε,nn,<-di];clear di nn e Ζ Ε;generalize s.err=fK;refine W.drop (h:=0) (σ':=[]) (Nat.zero_le _) (Nat.zero_le _) η rfl [(5,cL G),(6,I fK)] η ?_;refine Η ?_;have lΩ:∀i,(hr G).take i=hr (G.take i):=λi=>by simp[hr]
 refine W.iter (λi:Nat=>i<=G.length) (λi=>[(6,I fK),(7,fg ((hr (G.take i)).map gw)),(16,cL G),(17,I G.length),(18,I i)])
  (λi=>bF 29 1 ((hr (G.take i)).map gw)) (λi=>G.length-i) 0 (Nat.zero_le _) rfl (by simp[p',hr]) (λi hi Α=>?_)
 refine Η ?_;refine W.ey rfl (λε=>?_) (λε=>?_)
 ·have ε:i<G.length:=by simpa using ε
  have dI:(hr (G.take (i+1))).map gw=(hr (G.take i)).map gw++[gw [G[i].u,G[i].v]]:=by
   unfold hr;rw[List.map_map,List.map_map,OO _ _ ε];rfl
  have Bj:=λh=>yX (t:=29) (k:=1) (h:=h) (OK (L:=hr (G.take i)))
  have Yu:((hr (G.take i)).map gw).length<=i:=by simp[hr];omega
  obtain⟨L,ad⟩:=aF ((hr (G.take i)).map gw);rw[<-ad] at Bj Yu dI;refine W.to (σ':=bF 29 1 L) (env':=[(6,I fK),(7,fg L),(16,cL G),(17,I G.length),(18,I i)]) ?_ (by rw[ad]) (by rw[ad];simp)
  repeat apply ae
  refine dj (A:=[9]) Φ λΚ κ=>gh ε ?_;apply κ;refine W.oA (Nat.zero_le _) (Bj _) η [(9,.au [I G[i].u,I G[i].v,mV G[i].cells]),(6,I fK),(7,fg L),(16,cL G),(17,I G.length),(18,I i)] η ?_
  repeat apply ae
  refine W.gX (A:=[26]) Φ [(6,I fK),(7,fg (L++[gw [G[i].u,G[i].v]])),(16,cL G),(17,I G.length),(18,I i)] (bF 29 1 (L++[gw [G[i].u,G[i].v]])) ?_ (by
   by_cases Ψ:L=[]
   ·subst Ψ;(try simp);(repeat (rw[ah];simp[p',kL]));(try simp[p',kL]);exact⟨rfl,rfl⟩
   ·have j5:L.length<=4294967295:=J
    (try simp);(repeat (rw[ah];simp[q' Ψ,eL Ψ,xk,sr]));(try simp[q' Ψ,eL Ψ,xk,sr]);exact j5)
  refine Η ?_;refine W.to (Α (i+1) ε J) ?_ ?_
  ·rw[dI]
  ·rw[dI];simp[eX ε (show G.length<2 ^ 62 by omega)]
 ·have ε:i=G.length:=by simp at ε;omega
  subst ε;refine W.exit rfl ?_;refine Η ?_;refine W.Yq (d:=2) OK [(3,I fK)] η η ?_;refine W.rt ?_;exact .bj (.cons .Yr (.cons (.refl _) .nil))
abbrev qb (l:List Int):List Int:=l.mergeSort (λx y=>decide (x<=y))
def I' (N:Nat):Prop:=∀(l:List Int),l.length<=N->af Tryz.prog 132 [.ms 0 l.length 0 l.length] [.cells 3 1 (l.map I)] (λr s=>r=.bj []/\s=[.cells 3 1 ((qb l).map I)]) (λ_ _=>False)
def lK (lower:Bool) (r:Int×Int):Int:=if lower then r.2 else r.1
def pk (lower:Bool) (A:List Int) (C:List (Int×Int)) (j:Nat):List Int:=A++(C.take j).map (lK lower)
theorem OP {lower:Bool} {A:List Int} {C:List (Int×Int)}:pk lower A C 0=A:=by simp[pk]
theorem Yv {lower:Bool} {A:List Int} {C:List (Int×Int)} {j:Nat} (h:j<C.length):pk lower A C (j+1)=pk lower A C j++[lK lower C[j]]:=by
 unfold pk;rw[OO _ _ h,List.append_assoc]
theorem OQ {lower:Bool} {A:List Int} {C:List (Int×Int)} {j:Nat} (h:C.length<=j):pk lower A C j=A++C.map (lK lower):=by
 unfold pk;rw[List.take_of_length_le h]
theorem Yw {lower:Bool} {A:List Int} {C:List (Int×Int)} {j:Nat}:(pk lower A C j).length<=A.length+j:=by
 unfold pk;simp;omega
def yY (f:Found) (cell:Nat) (lower:Bool):List Int:=((f.cells[cell]?).getD []).map (lK lower)
def gH (F:List Found) (cell:Nat) (lower:Bool):List Int:=F.flatMap λf=>yY f cell lower
def ra (F:List Found) (cell:Nat) (lower:Bool):List Int:=eM (qb (gH F cell lower))
theorem Ja {l:List Int}:∀e∈l.map I,∀a∈e.cells,aG 0 a:=by
 intro e he a ν;obtain⟨x,_,rfl⟩:=List.mem_map.1 he;simp[θ.cells] at ν;subst ν;simp
theorem Yx (F:List Found) (cell:Nat) (lower:Bool) (eI:F.length<2 ^ 20) (gR:∀f∈F,cell<f.cells.length/\∀c∈f.cells,c.length<2 ^ 20) (N:Nat) (cK:N<2 ^ 20) (eC:I' N) (bx:gH F cell lower≠[]) (hle:(gH F cell lower).length<=N) :
  aB Tryz.prog 95 [cL F,I cell,ba lower] (bD I 1 (ra F cell lower)):=by
 refine af.body Φ Tryz.func95 rfl rfl Tryz.ntmps95 rfl rfl η ?_;refine Η ?_;refine W.iter (λi:Nat=>i<=F.length) (λi=>[(1,I cell),(2,ba lower),(7,fg ((gH (F.take i) cell lower).map I)),(12,cL F),(13,I F.length),(14,I i)])
  (λi=>bF 3 1 ((gH (F.take i) cell lower).map I)) (λi=>F.length-i) 0 (Nat.zero_le _) rfl (by simp[gH,p']) (λi hi Α=>?_)
 refine Η ?_;have Jb:∀i,(gH (F.take i) cell lower).length<=N:=λi=>by
  have e:gH F cell lower=gH (F.take i) cell lower++gH (F.drop i) cell lower:=by
   conv=>lhs;rw[<-List.take_append_drop i F]
   simp only[gH,List.flatMap_append]
  rw[e,List.length_append] at hle;omega
 refine W.ey rfl (λε=>?_) (λε=>?_)
 ·have aH:i<F.length:=by simpa using ε
  obtain⟨b3,lZ⟩:=gR _ (List.getElem_mem aH);have hC:F[i].cells[cell].length<2 ^ 20:=lZ _ (List.getElem_mem b3);obtain⟨A,bY⟩:=aF (gH (F.take i) cell lower);have dI:gH (F.take (i+1)) cell lower=A++F[i].cells[cell].map (lK lower):=by
   rw[bY];unfold gH;rw[List.take_succ_eq_append_getElem aH,List.flatMap_append];simp[yY,b3]
  have Bl:(A++F[i].cells[cell].map (lK lower)).length<=N:=by rw[<-dI];exact Jb _
  rw[List.length_append,List.length_map] at Bl;refine W.to (σ':=bF 3 1 (A.map I)) (env':=[(1,I cell),(2,ba lower),(7,fg (A.map I)),(12,cL F),(13,I F.length),(14,I i)]) ?_ (by rw[bY]) (by rw[bY];simp)
  repeat apply ae
  refine dj (A:=[9]) Φ λΚ κ=>gh aH ?_;apply κ;refine W.oA (Nat.zero_le _) (yX Ja) η [(9,.au [I F[i].u,I F[i].v,mV F[i].cells]),(1,I cell),(2,ba lower),(7,fg (A.map I)),(12,cL F),(13,I F.length),(14,I i)] η ?_;refine aE b3 ?_;generalize Yy:F[i].cells[cell]=C at hC dI Bl;refine W.iter (λj:Nat=>j<=C.length) (λj=>[(1,I cell),(2,ba lower),(7,fg ((pk lower A C j).map I)),(12,cL F),(13,I F.length),(14,I i),(22,k' C),(23,I C.length),(24,I j)])
   (λj=>bF 3 1 ((pk lower A C j).map I)) (λj=>C.length-j) 0 (Nat.zero_le _) (by rw[OP]) (by simp[OP]) (λj ζ fL=>?_)
  refine Η ?_;refine W.ey rfl (λa2=>?_) (λa2=>?_)
  ·have aI:j<C.length:=by simpa using a2
   obtain⟨L,ad⟩:=aF (pk lower A C j);have kM:L.length<=A.length+j:=by rw[ad];exact Yw
   have tP:pk lower A C (j+1)=L++[lK lower C[j]]:=by rw[ad];exact Yv aI
   refine W.to (σ':=bF 3 1 (L.map I)) (env':=[(1,I cell),(2,ba lower),(7,fg (L.map I)),(12,cL F),(13,I F.length),(14,I i),(22,k' C),(23,I C.length),(24,I j)]) ?_ (by rw[ad]) (by rw[ad];simp)
   repeat apply ae
   refine dj (A:=[11]) Φ λΚ κ=>gh aI ?_;apply κ;refine W.oA (Nat.zero_le _) (yX Ja) η [(11,.au [I C[j].1,I C[j].2]),(1,I cell),(2,ba lower),(7,fg (L.map I)),(12,cL F),(13,I F.length),(14,I i),(22,k' C),(23,I C.length),(24,I j)] η ?_
   repeat apply ae
   generalize C[j]=r at tP;refine W.gX (A:=[34]) Φ [(1,I cell),(2,ba lower),(7,fg ((L++[lK lower r]).map I)),(12,cL F),(13,I F.length),(14,I i),(22,k' C),(23,I C.length),(24,I j)] (bF 3 1 ((L++[lK lower r]).map I)) ?_ (by
    have j5:L.length<=4294967295:=J;rw[List.map_append];cases lower
    all_goals
     by_cases Ψ:L.map I=[]
     ·rw[Ψ,p',kL];(try simp);(repeat (rw[ah];simp));(try simp);refine aB.d (IY _) (bp ?_);simp[bF,fg,lK]
     ·rw[q' Ψ,eL Ψ];(try simp);(repeat (rw[ah];simp));(try simp);refine aB.d (IY _) (bp ?_);simp[sr,xk,lK,j5])
   refine Η ?_;refine W.to (fL (j+1) aI J) ?_ ?_
   ·rw[tP,List.map_append];rfl
   ·rw[tP];simp[eX aI (show C.length<2 ^ 62 by omega)]
  ·have aI:C.length<=j:=by simpa using a2
   refine W.exit rfl ?_;refine Η ?_;refine W.to (Α (i+1) aH J) ?_ ?_
   ·rw[dI,OQ aI]
   ·rw[dI,OQ aI];simp[eX aH (show F.length<2 ^ 62 by omega)]
 ·have aH:i=F.length:=by simp at ε;omega
  refine W.exit rfl ?_;rw[aH,List.take_length];obtain⟨M,db⟩:=aF (gH F cell lower);rw[<-db] at bx hle ⊢;have xm:M.map I≠[]:=by simpa using bx
  have hB:ra F cell lower=eM (qb M):=by rw[db];rfl
  have qc:(qb M).length=M.length:=by simp[qb]
  refine W.to (σ':=[.cells 3 1 (M.map I)]) (env':=[(7,.ms 0 M.length 0 M.length)]) ?_ (eL xm) (by simp[q' xm]);refine bc λΚ κ=>?_;refine af.one (eC M hle) 0 rfl (sn vg) (sn vg) (by simp[mW]) (by simp[fD]) (by simp[mX]) ?_;simp[eg,hF];(repeat (rw[ah];simp));apply κ;refine bc λΚ κ=>?_;have Jc:=Yt (qb M) M.length qc J;refine af.E4 Jc 0 rfl (sn vg) (by simp[mW]) (by simp[mX]) (λa s ⟨tail,U,γ,ο⟩=>⟨_,ο,sn vg,by subst γ;simp[mW],?_⟩);subst γ;simp[mX];(repeat (rw[ah];simp));apply κ;refine W.cut 0 (Nat.zero_le _) [(6,bD I 1 (eM (qb M)))] η η ?_ ?_
  ·intro p ω;simp at ω;subst ω;have ω:=eK.part (σ:=[.cells 3 1 ((eM (qb M)).map I++tail.map I)]) (id:=0) (t:=3) (k:=1) (l:=(eM (qb M)).map I) (l2:=tail.map I) (m:=(eM (qb M)).length) rfl η Ja;have e:((eM (qb M)).map I++tail.map I).length=M.length:=by rw[<-List.map_append,List.length_map];exact U
   rw[e] at ω;exact ω
  ·rw[hB];refine W.rt ?_;exact .refl _
abbrev kN (n:Int):θ:=.z (.int .i32 n)
theorem Yz (l:List Int):tp (l.map kN)=some l:=by
 induction l with
 | nil=>rfl
 | cons a l Α=>simp[tp,Α]
def vj (s:aU) (F:List Found) (lower:Bool) (fq:ByteArray->Int) (c:Nat):Int:=
 let l:=ra F c lower
 if 1<l.length then 63 else if l.headD 0<0 then 45 else match s.ar[(l.headD 0).toNat]? with|some g=>fq g.name|none=>0
def qd (s:aU) (F:List Found) (lower:Bool) (fq:ByteArray->Int) (c:Nat):List Int:=(List.range c).map (vj s F lower fq)
def vk (s:aU) (F:List Found) (lower:Bool) (fq:ByteArray->Int):ByteArray×Int:=
 if(fa s true F).2.2=0 then(spell (qd s F lower fq s.cells.length),0) else(⟨#[]⟩,(fa s true F).2.2)
structure OR (s:aU) (F:List Found) (lower:Bool) (fq:ByteArray->Int) (N:Nat):Prop where
 nM:F.length<2 ^ 20
 cells:∀f∈F,f.cells.length=s.cells.length/\∀c∈f.cells,c.length<2 ^ 20
 some:∀c,c<s.cells.length->gH F c lower≠[]/\(gH F c lower).length<=N/\ra F c lower≠[]/\(ra F c lower).length<2 ^ 30/\∀x∈ra F c lower,x<s.ar.length
 name:∀g∈s.ar,(Conv.runesFrom g.name g.name.size 0 #[])[0]?=Option.some (.int .i32 (fq g.name))
theorem YA (s:aU) (ξ:s.small) (F:List Found) (eI:qa s F) (lower:Bool) (fq:ByteArray->Int) (N:Nat) (cK:N<2 ^ 20) (eC:I' N) (ad:(fa s true F).2.2=0->OR s F lower fq N) :
  aB Tryz.prog 40 [fu s,ba lower] (.bj [ou (vk s F lower fq).1,I (vk s F lower fq).2]):=by
 refine af.body Φ Tryz.func40 rfl rfl Tryz.ntmps40 rfl rfl η ?_;refine Η ?_;refine da ?_;refine dj (A:=[6]) Φ λΚ κ=>bp ?_;refine aB.d (Bi s ξ true F eI) (bp ?_);apply κ;by_cases b:(fa s true F).2.2=0
 case neg=>
  have e:vk s F lower fq=(⟨#[]⟩,(fa s true F).2.2):=by unfold vk;rw[if_neg b]
  rw[e];generalize (fa s true F).2.2=fK at b;refine Η ?_;refine aC (by simp[b]) ?_;refine Η ?_;refine W.drop (h:=0) (σ':=[]) (Nat.zero_le _) (Nat.zero_le _) η rfl [(4,ou ⟨#[]⟩),(5,I fK)] η ?_;refine W.rt ?_;exact .refl _
 have ad:=ad b
 have e:fa s true F=(s,F,0):=by
  unfold fa at b ⊢;split at b
  ·rename_i h;simp at b;exact absurd b h
  ·split at b
   ·simp at b
   ·rename_i U γ;rw[if_neg U,if_neg γ]
 have Ε:vk s F lower fq=(spell (qd s F lower fq s.cells.length),0):=by unfold vk;rw[if_pos b]
 rw[Ε,e];refine W.fix (id:=0) (σ':=[]) (Nat.zero_le _) rfl η η rfl [(1,ba lower),(6,.au [aY s.ar,aX s.az,bO s.cells]),(7,cL F),(8,I 0)] η ?_;refine Η ?_;refine ay rfl ?_;refine Η ?_;have gR:s.cells.length<2 ^ 30:=ξ.2.2.1;refine W.iter (λc:Nat=>c<=s.cells.length) (λc=>[(1,ba lower),(6,.au [aY s.ar,aX s.az,bO s.cells]),(7,cL F),(9,fg ((qd s F lower fq c).map kN)),(25,I s.cells.length),(26,I c)])
  (λc=>bF 21 1 ((qd s F lower fq c).map kN)) (λc=>s.cells.length-c) 0 (Nat.zero_le _) rfl (by simp[qd,p']) (λc iS Α=>?_)
 refine Η ?_;refine W.ey rfl (λε=>?_) (λε=>?_)
 ·have a2:c<s.cells.length:=by simpa using ε
  obtain⟨U,γ,ο,Ι,ax⟩:=ad.some c a2;obtain⟨R,aM⟩:=aF (qd s F lower fq c);have j6:R.length=c:=by rw[aM];simp[qd]
  have dI:qd s F lower fq (c+1)=R++[vj s F lower fq c]:=by rw[aM];unfold qd;rw[List.range_succ,List.map_append];rfl
  refine W.to (σ':=bF 21 1 (R.map kN)) (env':=[(1,ba lower),(6,.au [aY s.ar,aX s.az,bO s.cells]),(7,cL F),(9,fg (R.map kN)),(25,I s.cells.length),(26,I c)]) ?_ (by rw[aM]) (by rw[aM];simp);refine Η ?_;refine bc λΚ κ=>?_;refine aB.d (Yx F c lower ad.nM (λf Ρ=>⟨by rw[(ad.cells f Ρ).1];exact a2,(ad.cells f Ρ).2⟩) N cK eC U γ) (bp ?_);apply κ;have j5:R.length<=4294967295:=J;obtain⟨l,π⟩:=aF (ra F c lower);have qe:vj s F lower fq c=if 1<l.length then 63 else if l.headD 0<0 then 45 else match s.ar[(l.headD 0).toNat]? with|some g=>fq g.name|none=>0:=by rw[π];rfl
  rw[<-π] at ο Ι ax ⊢;clear π aM;refine Η ?_;by_cases q:1<l.length
  ·have μ:vj s F lower fq c=63:=by rw[qe,if_pos q]
   refine aC (by simp;omega) ?_
   repeat apply ae
   refine W.gX (A:=[57]) Φ [(1,ba lower),(6,.au [aY s.ar,aX s.az,bO s.cells]),(7,cL F),(9,fg ((R++[63]).map kN)),(25,I s.cells.length),(26,I c)] (bF 21 1 ((R++[63]).map kN)) ?_ (by
    rw[List.map_append];by_cases Ψ:R.map kN=[]
    ·rw[Ψ,p',kL];(try simp);(repeat (rw[ah];simp));(try simp);simp[bF,fg]
    ·rw[q' Ψ,eL Ψ];(try simp);(repeat (rw[ah];simp));(try simp);simp[sr,xk,j5])
   refine Η ?_;refine W.to (Α (c+1) a2 J) ?_ ?_
   ·simp only[dI,μ,List.map_append,List.map_cons,List.map_nil]
   ·rw[dI,μ];simp[eX a2 (show s.cells.length<2 ^ 62 by omega)]
  ·obtain⟨x,δ⟩:∃x,l=[x]:=by
    match l,ο,q with
    | [x],_,_=>exact⟨x,rfl⟩
    | x::y::z,_,q=>simp at q
   subst δ;refine ay η ?_;refine Η ?_;by_cases g:x<0
   ·have μ:vj s F lower fq c=45:=by rw[qe];simp[g]
    refine aC (by simp[g]) ?_;refine Η ?_;refine W.gX (A:=[57]) Φ [(1,ba lower),(6,.au [aY s.ar,aX s.az,bO s.cells]),(7,cL F),(9,fg ((R++[45]).map kN)),(25,I s.cells.length),(26,I c)] (bF 21 1 ((R++[45]).map kN)) ?_ (by
     rw[List.map_append];by_cases Ψ:R.map kN=[]
     ·rw[Ψ,p',kL];(try simp);(repeat (rw[ah];simp));(try simp);simp[bF,fg]
     ·rw[q' Ψ,eL Ψ];(try simp);(repeat (rw[ah];simp));(try simp);simp[sr,xk,j5])
    refine Η ?_;refine W.to (Α (c+1) a2 J) ?_ ?_
    ·simp only[dI,μ,List.map_append,List.map_cons,List.map_nil]
    ·rw[dI,μ];simp[eX a2 (show s.cells.length<2 ^ 62 by omega)]
   ·obtain⟨k,rfl⟩:∃k:Nat,x=k:=⟨x.toNat,J⟩;have ψ:k<s.ar.length:=by have:=ax (k:Int) η;omega
    have μ:vj s F lower fq c=fq s.ar[k].name:=by rw[qe];simp[g,ψ]
    have l5:=ad.name _ (List.getElem_mem ψ)
    have Bm:∀h:0<(Conv.runesFrom s.ar[k].name s.ar[k].name.size 0 #[]).size,(Conv.runesFrom s.ar[k].name s.ar[k].name.size 0 #[])[0]'h=.int .i32 (fq s.ar[k].name):=λh=>by
     rw[fw h] at l5;exact Option.some.inj l5
    have E7:0<(Conv.runesFrom s.ar[k].name s.ar[k].name.size 0 #[]).size:=(Array.getElem?_eq_some_iff.1 l5).1;refine ay η ?_;refine dH (ς ψ (ς l5 E7)) ?_
    repeat apply ae
    refine W.forget [(1,ba lower),(6,.au [aY s.ar,aX s.az,bO s.cells]),(7,cL F),(9,fg (R.map kN)),(11,kN (fq s.ar[k].name)),(25,I s.cells.length),(26,I c)] (by simp[Bm E7]) ?_;refine W.gX (A:=[57]) Φ [(1,ba lower),(6,.au [aY s.ar,aX s.az,bO s.cells]),(7,cL F),(9,fg ((R++[(fq s.ar[k].name)]).map kN)),(25,I s.cells.length),(26,I c)] (bF 21 1 ((R++[(fq s.ar[k].name)]).map kN)) ?_ (by
     rw[List.map_append];by_cases Ψ:R.map kN=[]
     ·rw[Ψ,p',kL];(try simp);(repeat (rw[ah];simp));(try simp);simp[bF,fg]
     ·rw[q' Ψ,eL Ψ];(try simp);(repeat (rw[ah];simp));(try simp);simp[sr,xk,j5])
    refine Η ?_;refine W.to (Α (c+1) a2 J) ?_ ?_
    ·simp only[dI,μ,List.map_append,List.map_cons,List.map_nil]
    ·rw[dI,μ];simp[eX a2 (show s.cells.length<2 ^ 62 by omega)]
 ·have ε:c=s.cells.length:=by simp at ε;omega
  subst ε;refine W.exit rfl ?_;refine Η ?_;obtain⟨R,aM⟩:=aF (qd s F lower fq s.cells.length);rw[<-aM];refine W.to (σ':=bF 21 1 (R.map kN)) (env':=[(9,fg (R.map kN))]) ?_ rfl η;by_cases Ψ:R.map kN=[]
  ·have ob:R=[]:=by simpa using Ψ
   rw[Ψ,p',kL,ob];have hm:tp []=some []:=rfl;refine g9 hm λΚ κ=>?_;apply κ;refine W.rt ?_;exact .refl _
  ·have hm:tp (List.take R.length (R.map kN))=some R:=by
    rw[List.take_of_length_le η];exact Yz R
   rw[q' Ψ,eL Ψ];refine g9 hm λΚ κ=>?_;apply κ;refine W.drop (h:=0) (σ':=[]) (Nat.zero_le _) (Nat.zero_le _) η rfl [(4,ou (spell R)),(5,I 0)] η ?_;refine W.rt ?_;exact .refl _
theorem OS {α:Type} [Inhabited α] {lt:α->α->Bool} (ξ:Go.Sort.SWO lt) (ν:∀x y,lt x y=false->lt y x=false->x=y) (l:List α):(Go.Sort.insertionSort lt l.toArray 0 l.length).toList=l.mergeSort (λx y=>!lt y x):=by
 obtain⟨U,γ⟩:=Go.Sort.insertionSort_holds (lt:=lt) ξ l.toArray 0 l.length (Nat.zero_le _) η;exact Go.Sort.sorted_unique_holds (lt:=lt) ξ ν l.toArray _ (by simpa using U) (by simpa using γ)
theorem YB (x y:Int) (h:Go.Sort.ltInt x y=false) (k:Go.Sort.ltInt y x=false):x=y:=by
 simp[Go.Sort.ltInt] at h k;omega
theorem YC:I' 12:=λl π=>by
 have h:=X9 l.toArray l.length η π;rw[OS Go.Sort.swo_ltInt YB l] at h;have e:(λx y:Int=>!Go.Sort.ltInt y x)=λx y=>decide (x<=y):=by
  funext x y;rw[Bool.eq_iff_iff];simp[Go.Sort.ltInt]
 rw[e] at h;exact h
theorem qf (x y:Int×Int):Ξ lH x y=decide (x.1<y.1\/(x.1=y.1/\x.2<y.2)):=by
 unfold Ξ lH;simp only[p6,p5];by_cases U:x.1<y.1
 ·simp[U]
 ·by_cases γ:y.1<x.1
  ·have:¬x.1=y.1:=J
   simp[U,γ,this]
  ·have ο:x.1=y.1:=J
   by_cases Ι:x.2<y.2
   ·simp[ο,Ι]
   ·by_cases ax:y.2<x.2
    ·simp[ο,Ι,ax]
    ·simp[ο,Ι,ax]
theorem vl:Go.Sort.SWO (Ξ lH) where
 irrefl x:=by rw[qf];simp
 trans x y z h k:=by
  rw[qf] at *;simp at *;omega
 ntrans x y z h k:=by
  rw[qf] at *;simp at *;omega
theorem E8 (x y:Int×Int) (h:Ξ lH x y=false) (k:Ξ lH y x=false):x=y:=by
 rw[qf] at *;simp at h k;apply Prod.ext<;>omega
abbrev e7 (x y:Int×Int):Bool:=!Ξ lH y x
theorem YD {l m:List (Int×Int)} (ω:l.Perm m) (hm:m.Pairwise λx y=>x.1<y.1\/(x.1=y.1/\x.2<y.2)):l.mergeSort e7=m:=by
 have Bn:∀a b c:Int×Int,e7 a b=true->e7 b c=true->e7 a c=true:=λa b c h k=>by
  simp only[e7,qf] at *;simp at *;omega
 have Bo:∀a b:Int×Int,(e7 a b||e7 b a)=true:=λa b=>by
  simp only[e7,qf];simp;omega
 have s1:=List.pairwise_mergeSort (le:=e7) Bn Bo l
 have dz:(l.mergeSort e7).Perm m:=(List.mergeSort_perm l e7).trans ω;refine List.Perm.eq_of_pairwise (le:=λa b=>e7 a b=true) (λa b _ _ h k=>?_) s1 (hm.imp λ{a b} h=>?_) dz
 ·simp only[e7,qf] at h k;simp at h k;apply Prod.ext<;>omega
 ·simp only[e7,qf];simp;omega
theorem YE (Ο:θ) (a9:aG 0 Ο):aB Tryz.prog 234 [.sl true 0 [],I 0,I 0,Ο] (.bj []):=by
 refine af.body Φ Tryz.func234 rfl rfl Tryz.ntmps234 rfl rfl η ?_;refine Η ?_;refine .loop ?_;refine Η ?_;refine ay rfl ?_;refine W.exit rfl ?_;exact W.nil ⟨_,rfl,dD.refl _,rfl⟩
theorem YF (lim:Nat) (Ο:θ) (a9:aG 0 Ο):aB Tryz.prog 211 [.sl true 0 [],I 0,I 0,I lim,Ο] (.bj []):=by
 refine af.body Φ Tryz.func211 rfl rfl Tryz.ntmps211 rfl rfl η ?_;refine Η ?_;refine .loop ?_;refine Η ?_;refine aC rfl ?_;refine bc λΚ κ=>?_;refine aB.c (YE Ο a9) (b2.refl _) (by simp[a9]) η ?_;simp;(repeat (rw[ah];simp));apply κ;exact W.ret ⟨_,rfl,dD.refl _,rfl⟩
theorem YG (Ο:θ) (a9:aG 0 Ο):aB Tryz.prog 173 [.sl true 0 [],Ο] (.bj []):=by
 refine af.body Φ Tryz.func173 rfl rfl Tryz.ntmps173 rfl rfl η ?_;have Ε:IntKind.u64.wrap (0:Int)=0:=br;refine Η ?_;(repeat apply ae);refine dt λΚ κ=>?_;simp;(repeat (rw[ah];simp[Ε]));refine aB.d (tG 0 J) (bp ?_);refine aB.c (YF (Go.Sort.bitsLen 0) Ο a9) (b2.refl _) (by simp[a9]) η ?_;simp;(repeat (rw[ah];simp));apply κ;exact W.nil ⟨_,rfl,dD.refl _,rfl⟩
theorem YH (Ο:θ) (a9:aG 0 Ο):aB Tryz.prog 217 [.sl true 0 [],I 0,I 0,Ο] (.bj []):=by
 refine af.body Φ Tryz.func217 rfl rfl Tryz.ntmps217 rfl rfl η ?_;refine Η ?_;refine .loop ?_;refine Η ?_;refine ay rfl ?_;refine W.exit rfl ?_;exact W.nil ⟨_,rfl,dD.refl _,rfl⟩
theorem YI (lim:Nat) (Ο:θ) (a9:aG 0 Ο):aB Tryz.prog 182 [.sl true 0 [],I 0,I 0,I lim,Ο] (.bj []):=by
 refine af.body Φ Tryz.func182 rfl rfl Tryz.ntmps182 rfl rfl η ?_;refine Η ?_;refine .loop ?_;refine Η ?_;refine aC rfl ?_;refine bc λΚ κ=>?_;refine aB.c (YH Ο a9) (b2.refl _) (by simp[a9]) η ?_;simp;(repeat (rw[ah];simp));apply κ;exact W.ret ⟨_,rfl,dD.refl _,rfl⟩
theorem YJ (Ο:θ) (a9:aG 0 Ο):aB Tryz.prog 147 [.sl true 0 [],Ο] (.bj []):=by
 refine af.body Φ Tryz.func147 rfl rfl Tryz.ntmps147 rfl rfl η ?_;have Ε:IntKind.u64.wrap (0:Int)=0:=br;refine Η ?_;(repeat apply ae);refine dt λΚ κ=>?_;simp;(repeat (rw[ah];simp[Ε]));refine aB.d (tG 0 J) (bp ?_);refine aB.c (YI (Go.Sort.bitsLen 0) Ο a9) (b2.refl _) (by simp[a9]) η ?_;simp;(repeat (rw[ah];simp));apply κ;exact W.nil ⟨_,rfl,dD.refl _,rfl⟩
theorem YK (Ο:θ) (a9:aG 0 Ο):aB Tryz.prog 183 [.sl true 0 [],I 0,I 0,Ο] (.bj []):=by
 refine af.body Φ Tryz.func183 rfl rfl Tryz.ntmps183 rfl rfl η ?_;refine Η ?_;refine .loop ?_;refine Η ?_;refine ay rfl ?_;refine W.exit rfl ?_;exact W.nil ⟨_,rfl,dD.refl _,rfl⟩
theorem YL (lim:Nat) (Ο:θ) (a9:aG 0 Ο):aB Tryz.prog 149 [.sl true 0 [],I 0,I 0,I lim,Ο] (.bj []):=by
 refine af.body Φ Tryz.func149 rfl rfl Tryz.ntmps149 rfl rfl η ?_;refine Η ?_;refine .loop ?_;refine Η ?_;refine aC rfl ?_;refine bc λΚ κ=>?_;refine aB.c (YK Ο a9) (b2.refl _) (by simp[a9]) η ?_;simp;(repeat (rw[ah];simp));apply κ;exact W.ret ⟨_,rfl,dD.refl _,rfl⟩
theorem YM (Ο:θ) (a9:aG 0 Ο):aB Tryz.prog 117 [.sl true 0 [],Ο] (.bj []):=by
 refine af.body Φ Tryz.func117 rfl rfl Tryz.ntmps117 rfl rfl η ?_;have Ε:IntKind.u64.wrap (0:Int)=0:=br;refine Η ?_;(repeat apply ae);refine dt λΚ κ=>?_;simp;(repeat (rw[ah];simp[Ε]));refine aB.d (tG 0 J) (bp ?_);refine aB.c (YL (Go.Sort.bitsLen 0) Ο a9) (b2.refl _) (by simp[a9]) η ?_;simp;(repeat (rw[ah];simp));apply κ;exact W.nil ⟨_,rfl,dD.refl _,rfl⟩
theorem eK.struct {h id k:Nat} {σ:ac} {t:TypeId} {l cs:am} (cb:h<=id) (bX:σ[id]?=some (.cells t k [.a3 l])) (hlen:cs.length=l.length) (H:∀(x:Nat) (a cj:θ),l[x]?=some a->cs[x]?=some cj->eK h σ a cj):eK h σ (.ak id 1 0 0) (.au cs):=
 .ak cb bX rfl rfl (by simp[θ.cells,hlen]) λx a cj U γ=>H x a cj (by simpa[θ.cells] using U) γ
abbrev ez (a b c:θ):Row:=.cells 26 3 [.a3 [a,b,c]]
abbrev dT (r:Int×Int):θ×θ:=(aK r,ba true)
theorem YN (x y:Int×Int):aeqv bm 112 (aK x) (aK y)=some (decide (x=y)):=by
 simp[aeqv,kF,nB];rw[Bool.eq_iff_iff];simp[Prod.ext_iff]
theorem YO (r:Int×Int):∀(l:List (Int×Int)) (n:Nat),r∉l->iC bm 112 (aK r) (l.map dT) n=some none:=by
 intro l
 induction l with
 | nil=>intro n _;rfl
 | cons x l Α=>
  intro n h;simp only[List.map_cons,iC];have U:¬r=x:=λe=>h (by simp[e]);have:=YN r x;rw[this,decide_eq_false U];exact Α (n+1) λhm=>h (by simp[hm])
def mZ (i j:Nat):List (Int×Int):=(List.range j).map λy:Nat=>((i:Int)-1,(y:Int)-1)
def pn (n i:Nat):List (Int×Int):=(List.range i).flatMap λx=>mZ x (n+1)
def Bp (n:Nat):List (Int×Int):=pn n (n+1)
theorem OT (i j:Nat):mZ i (j+1)=mZ i j++[((i:Int)-1,(j:Int)-1)]:=by simp[mZ,List.range_succ]
theorem Jd (n i:Nat):pn n (i+1)=pn n i++mZ i (n+1):=by simp[pn,List.range_succ]
theorem E9 {i j:Nat} {r:Int×Int} (h:r∈mZ i j):r.1=(i:Int)-1/\r.2<(j:Int)-1:=by
 unfold mZ at h;obtain⟨y,Μ,rfl⟩:=List.mem_map.1 h;have:=List.mem_range.1 Μ;exact⟨rfl,by simp;omega⟩
theorem OU {n i:Nat} {r:Int×Int} (h:r∈pn n i):r.1<(i:Int)-1:=by
 unfold pn at h;obtain⟨x,δ,γ⟩:=List.mem_flatMap.1 h;have:=List.mem_range.1 δ;have:=(E9 γ).1;omega
def hH (s:aU) (p:Int×Int) (c:Nat):List (Int×Int):=(Bp s.ar.length).filter λr=>s.p1 p r c
theorem YP (i j:Nat):(mZ i j).Pairwise λx y=>x.1<y.1\/(x.1=y.1/\x.2<y.2):=by
 induction j with
 | zero=>simp[mZ]
 | succ j Α=>
  rw[OT,List.pairwise_append];refine⟨Α,η,λa ν b hb=>?_⟩;simp at hb;subst hb;have:=E9 ν;exact .inr ⟨this.1,by simpa using this.2⟩
theorem YQ (n i:Nat):(pn n i).Pairwise λx y=>x.1<y.1\/(x.1=y.1/\x.2<y.2):=by
 induction i with
 | zero=>simp[pn]
 | succ i Α=>
  rw[Jd,List.pairwise_append];refine⟨Α,YP _ _,λa ν b hb=>.inl ?_⟩;have:=OU ν;have:=(E9 hb).1;omega
theorem YR (s:aU) (p:Int×Int) (c:Nat):(hH s p c).Pairwise λx y=>x.1<y.1\/(x.1=y.1/\x.2<y.2):=(YQ _ _).filter _
def Fa (N:Nat):Prop:=∀(l:List (Int×Int)),l.length<=N->af Tryz.prog 173 [.ms 0 l.length 0 l.length,.fn (.func 174) [] []] [.cells 112 2 (l.map aK)] (λr s=>r=.bj []/\s=[.cells 112 2 ((l.mergeSort e7).map aK)]) (λ_ _=>False)
theorem YS:Fa 12:=λl π=>by
 have h:=X5 l.toArray l.length η π (.fn (.func 174) [] []) lH (by simp[kG]) (λx y=>aB.p (OB x y) (b2.refl _) η η);rw[OS vl E8 l] at h;exact h
def lL (q:Int×Int->Bool) (n i j:Nat):List (Int×Int):=(pn n i++mZ i j).filter q
theorem YT {q:Int×Int->Bool} {n:Nat}:lL q n 0 0=[]:=by simp[lL,pn,mZ]
theorem YU {q:Int×Int->Bool} {n i:Nat}:lL q n i (n+1)=lL q n (i+1) 0:=by simp[lL,Jd,mZ]
theorem YV {q:Int×Int->Bool} {n i j:Nat}:lL q n i (j+1)=lL q n i j++if q ((i:Int)-1,(j:Int)-1) then [((i:Int)-1,(j:Int)-1)] else []:=by
 unfold lL;rw[OT,<-List.append_assoc,List.filter_append];simp[List.filter_cons]
theorem OV {q:Int×Int->Bool} {n:Nat}:lL q n (n+1) 0=(Bp n).filter q:=by simp[lL,mZ,Bp]
theorem YW {q:Int×Int->Bool} {n i j:Nat}:((i:Int)-1,(j:Int)-1)∉lL q n i j:=by
 unfold lL;rw[List.mem_filter,List.mem_append];rintro⟨h|h,_⟩
 ·have:=OU h;simp at this
 ·have:=(E9 h).2;simp at this
def oB (l:am):θ:=if l.isEmpty then .sl true 0 [] else .ms 3 l.length 0 l.length
def dk (l:am):ac:=if l.isEmpty then [] else [.cells 111 1 l]
abbrev im:Row:=.cells 110 3 [.a3 [I 0,I 0,.sl true 0 []]]
abbrev hh (p:Int×Int) (L:am):Row:=.cells 110 3 [.a3 [I p.1,I p.2,oB L]]
def c9 (id:Nat) (l:am):θ:=if l.isEmpty then .sl true 0 [] else .ms id l.length 0 l.length
theorem hs {id:Nat} {l:am} (h:l≠[]):c9 id l=.ms id l.length 0 l.length:=by unfold c9;rw[if_neg (by simpa using h)]
theorem YX {l:am}:aG ((dk l).length+3) (oB l):=by
 unfold oB dk;cases l.isEmpty<;>simp[sj]
theorem YY {h:Nat} {l:am} (hb:∀e∈l,∀a∈e.cells,aG 0 a):∀r∈dk l,fC h r:=by
 intro r μ;unfold dk at μ;cases π:l.isEmpty with
 | true=>rw[π] at μ;simp at μ
 | false=>
  rw[π] at μ;simp at μ;subst μ;exact λe he a ν=>(hb e he a ν).mono (Nat.zero_le _)
theorem fC.mono {h dh:Nat} {r:Row} (hb:fC h r) (a5:h<=dh):fC dh r:=by
 cases r with
 | cells t k l=>exact λe he a ν=>(hb e he a ν).mono a5
 | map es=>exact λe he=>⟨(hb e he).1.mono a5,(hb e he).2.mono a5⟩
 | iter m left cur=>exact⟨Nat.lt_of_lt_of_le hb.1 a5,λe he=>⟨(hb.2.1 e he).1.mono a5,(hb.2.1 e he).2.mono a5⟩,λe he=>⟨(hb.2.2 e he).1.mono a5,(hb.2.2 e he).2.mono a5⟩⟩
 | dead=>trivial
theorem YZ {h id:Nat} {l:am} (a5:l≠[]->id<h):aG h (c9 id l):=by
 by_cases π:l=[]
 ·subst π;unfold c9;simp
 ·rw[hs π];exact sj.2 (a5 π)
theorem OW {α:Type} (l:List α) (i:Nat) (h:i<l.length):(l[i]::l.eraseIdx i).Perm l:=by
 induction l generalizing i with
 | nil=>simp at h
 | cons a l Α=>
  cases i with
  | zero=>exact .refl _
  | succ i=>
   simp only[List.getElem_cons_succ,List.eraseIdx_cons_succ];exact(List.Perm.swap _ _ _).trans (.cons a (Α i (by simpa using h)))
theorem Fb {h id k:Nat} {t:TypeId} {l:am} {σ:ac} (cb:h<=id) (μ:l≠[]->σ[id]?=some (.cells t k l)) (hb:∀e∈l,∀a∈e.cells,aG h a):eK h σ (c9 id l) (hg k l):=by
 by_cases π:l=[]
 ·subst π;exact .low (by unfold c9;simp)
 ·have e:hg k l=.sl false k l:=by unfold hg;rw[if_neg (by simpa using π)]
  rw[hs π,e];exact .own cb (μ π) rfl hb
theorem OX (k:Nat) (m:am):∃b kk l,hg k m=.sl b kk l:=by
 unfold hg;split
 ·exact⟨_,_,_,rfl⟩
 ·exact⟨_,_,_,rfl⟩
theorem OY {α β:Type} (f:α->β) (l:List α) (i:Nat):(l.map f).eraseIdx i=(l.eraseIdx i).map f:=by
 induction l generalizing i with
 | nil=>rfl
 | cons a l Α=>cases i<;>simp[Α]
theorem Y0 (s:aU) (ξ:s.small) (Ω:s.ar.length<2 ^ 20) (p:Int×Int) (hv:∀c∈s.cells,∀x∈c,0<=x.cd/\x.cd<s.az.length) (N:Nat) (cK:N<2 ^ 20) (eC:Fa N) (hle:∀c,c<s.cells.length->(hH s p c).length<=N) :
  aB Tryz.prog 143 [fu s,aK p] (du ⟨p.1,p.2,(List.range s.cells.length).map (hH s p)⟩):=by
 refine af.body Φ Tryz.func143 rfl rfl Tryz.ntmps143 rfl rfl η ?_
 repeat apply ae
 refine dj (A:=[4]) Φ λΚ κ=>bp ?_;apply κ
 repeat apply ae
 refine dj (A:=[5]) Φ λΚ κ=>bp ?_;apply κ
 repeat apply ae
 refine bc λΚ κ=>?_;apply κ;refine Η ?_;have gR:s.cells.length<2 ^ 30:=ξ.2.2.1;refine W.iter (λc:Nat=>c<=s.cells.length) (λc=>[(2,.au [aY s.ar,aX s.az,bO s.cells]),(3,.au [I p.1,I p.2]),(4,.ak 0 1 0 0),(5,.ak 1 1 0 0),(6,.mp 2),(19,I s.cells.length),(20,I c)])
  (λc=>im::hh p ((List.range c).map λc=>hg 2 ((hH s p c).map aK))::.map []::dk ((List.range c).map λc=>hg 2 ((hH s p c).map aK))) (λc=>s.cells.length-c) 0 (Nat.zero_le _) (by simp[oB,dk]) η (λc ε Α=>?_)
 obtain⟨L,ad⟩:=aF ((List.range c).map λc=>hg 2 ((hH s p c).map aK));refine W.to (σ':=im::hh p L::.map []::dk L) (env':=[(2,.au [aY s.ar,aX s.az,bO s.cells]),(3,.au [I p.1,I p.2]),(4,.ak 0 1 0 0),(5,.ak 1 1 0 0),(6,.mp 2),(19,I s.cells.length),(20,I c)]) ?_ (by rw[ad]) η;refine Η ?_;refine W.ey rfl (λε=>?_) (λε=>?_)
 ·have a2:c<s.cells.length:=by simpa using ε
  refine Η ?_;obtain⟨n,Θ⟩:=aF s.ar.length;have r9:n<2 ^ 20:=J;obtain⟨q,Χ⟩:=aF (λr=>s.p1 p r c:Int×Int->Bool);have qg:∀e∈L,∀a∈e.cells,aG 0 a:=by
   rw[ad];intro e he a ν;obtain⟨x,_,rfl⟩:=List.mem_map.1 he;unfold hg at ν;split at ν<;>simp[θ.cells] at ν<;>subst ν<;>simp
  have gC:∀(M:List (Int×Int)) (h:Nat),fC h (.map (M.map dT)):=λM h e he=>by
   obtain⟨x,_,rfl⟩:=List.mem_map.1 he;simp
  have kX:∀M:List (Int×Int),∀r∈im::hh p L::.map (M.map dT)::dk L,fC (im::hh p L::.map (M.map dT)::dk L).length r:=λM r μ=>by
   simp only[List.mem_cons] at μ;rcases μ with rfl|rfl|rfl|μ
   ·simp[fC,θ.cells]
   ·simp[fC,θ.cells];exact YX
   ·exact gC M _
   ·exact YY qg r μ
  refine W.iter (λi:Nat=>i<=n+1) (λi=>[(2,.au [aY s.ar,aX s.az,bO s.cells]),(3,.au [I p.1,I p.2]),(4,.ak 0 1 0 0),(5,.ak 1 1 0 0),(6,.mp 2),(19,I s.cells.length),(20,I c),(7,I c),(8,I ((i:Int)-1))])
   (λi=>im::hh p L::.map ((lL q n i 0).map dT)::dk L) (λi=>n+1-i) 0 (Nat.zero_le _) (by rw[YT];rfl) η (λi hi fL=>?_)
  refine Η ?_;by_cases bd:i<n+1
  ·refine aC (by simp[<-Θ];omega) ?_;refine Η ?_;refine W.iter (λj:Nat=>j<=n+1) (λj=>[(2,.au [aY s.ar,aX s.az,bO s.cells]),(3,.au [I p.1,I p.2]),(4,.ak 0 1 0 0),(5,.ak 1 1 0 0),(6,.mp 2),(19,I s.cells.length),(20,I c),(7,I c),(8,I ((i:Int)-1)),(9,I ((j:Int)-1))])
    (λj=>im::hh p L::.map ((lL q n i j).map dT)::dk L) (λj=>n+1-j) 0 (Nat.zero_le _) rfl η (λj ζ ss=>?_)
   refine Η ?_;by_cases fe:j<n+1
   ·refine aC (by simp[<-Θ];omega) ?_
    repeat apply ae
    obtain⟨M,db⟩:=aF (lL q n i j);refine W.to (σ':=im::hh p L::.map (M.map dT)::dk L) (env':=[(2,.au [aY s.ar,aX s.az,bO s.cells]),(3,.au [I p.1,I p.2]),(4,.ak 0 1 0 0),(5,.ak 1 1 0 0),(6,.mp 2),(19,I s.cells.length),(20,I c),(7,I c),(8,I ((i:Int)-1)),(9,I ((j:Int)-1))]) ?_ (by rw[db]) η;have Y1:iC bm 112 (.a3 [I ((i:Int)-1),I ((j:Int)-1)]) (M.map dT) 0=some none:=YO _ M 0 (by rw[db];exact YW);have lV:∀es,o9 (im::hh p L::.map es::dk L) 2=true:=λes=>by unfold dk;cases L.isEmpty<;>simp[o9]
    refine dj (A:=[10]) Φ λΚ κ=>bp ?_;apply κ;refine W.oA (σ0:=im::hh p L::.map (M.map dT)::dk L) (Nat.zero_le _) (kX M) η [(10,.au [I ((i:Int)-1),I ((j:Int)-1)]),(2,.au [aY s.ar,aX s.az,bO s.cells]),(3,.au [I p.1,I p.2]),(4,.ak 0 1 0 0),(5,.ak 1 1 0 0),(6,.mp 2),(19,I s.cells.length),(20,I c),(7,I c),(8,I ((i:Int)-1)),(9,I ((j:Int)-1))] (by simp[l7,tv]) ?_;have su:=eY (show j<2 ^ 62 by omega);refine bc λΚ κ=>?_;refine aB.c (XW s ξ p ((i:Int)-1,(j:Int)-1) c a2 (hv _ (List.getElem_mem a2)) (by simp;omega) (by simp;omega)) (b2.refl _) η η ?_;simp;(repeat (rw[ah];simp));apply κ;have Y2:s.p1 p ((i:Int)-1,(j:Int)-1) c=q ((i:Int)-1,(j:Int)-1):=by rw[Χ]
    rw[Y2];have dI:=YV (q:=q) (n:=n) (i:=i) (j:=j);cases OZ:q ((i:Int)-1,(j:Int)-1)
    ·refine ay rfl ?_;refine aE su ?_;rw[OZ] at dI;refine W.to (ss (j+1) J J) ?_ ?_
     ·rw[dI,db];simp
     ·simp
    ·refine aC rfl ?_
     repeat apply ae
     refine dt λΚ κ=>?_;simp;(repeat (rw[ah];simp[Y1,lV,-o9]));apply κ;refine aE su ?_;rw[OZ] at dI;refine W.to (ss (j+1) J J) ?_ ?_
     ·rw[dI,db];simp
     ·simp
   ·refine ay (by simp[<-Θ];omega) ?_;refine W.exit rfl ?_;have Bq:j=n+1:=J;subst Bq;refine Η ?_;refine W.to (fL (i+1) J J) ?_ ?_
    ·rw[YU]
    ·have:=eY (show i<2 ^ 62 by omega);simp[this]
  ·refine ay (by simp[<-Θ];omega) ?_;refine W.exit rfl ?_;have eW:i=n+1:=J;subst eW;obtain⟨D,eH⟩:=aF (hH s p c);have Y3:lL q n (n+1) 0=D:=by rw[OV,eH,Χ,Θ];rfl
   rw[Y3];have xn:D.length<=N:=by rw[eH];exact hle c a2
   refine W.to (σ':=im::hh p L::.map (D.map dT)::dk L) (env':=[(2,.au [aY s.ar,aX s.az,bO s.cells]),(3,.au [I p.1,I p.2]),(4,.ak 0 1 0 0),(5,.ak 1 1 0 0),(6,.mp 2),(19,I s.cells.length),(20,I c),(7,I c)]) ?_ rfl η;refine Η ?_;refine W.iter (λx:List (Int×Int)×List (Int×Int)×Option (θ×θ)=>(x.1++x.2.1).Perm D/\(x.2.2=none\/∃y,x.2.2=some (dT y)))
    (λx=>[(2,.au [aY s.ar,aX s.az,bO s.cells]),(3,.au [I p.1,I p.2]),(4,.ak 0 1 0 0),(5,.ak 1 1 0 0),(6,.mp 2),(19,I s.cells.length),(20,I c),(7,I c),(11,c9 ((dk L).length+1+1+1+1) (x.1.map aK)),(50,.it ((dk L).length+1+1+1))])
    (λx=>im::hh p L::.map (D.map dT)::(dk L++(.iter 2 (x.2.1.map dT) x.2.2::bF 112 2 (x.1.map aK)))) (λx=>x.2.1.length) ([],D,none) ⟨η,.inl rfl⟩ (by simp[bF]) (by simp[c9]) (λx δ xo=>?_)
   obtain⟨K,R,cur⟩:=x;obtain⟨ω,Ei⟩:=δ;simp only at ω Ei
   repeat apply ae
   cases R with
   | nil=>
    refine bc λΚ κ=>?_;apply κ
    repeat apply ae
    refine ay rfl ?_;refine W.exit rfl ?_;have xp:K.Perm D:=by simpa using ω
    repeat apply ae
    have O0:K.length<=N:=by rw[xp.length_eq];exact xn
    have Y4:K.mergeSort e7=D:=by
     rw[eH] at xp ⊢;exact YD xp (YR s p c)
    refine W.gX (A:=[]) Φ [(2,.au [aY s.ar,aX s.az,bO s.cells]),(3,.au [I p.1,I p.2]),(4,.ak 0 1 0 0),(5,.ak 1 1 0 0),(6,.mp 2),(19,I s.cells.length),(20,I c),(11,c9 ((dk L).length+1+1+1+1) (D.map aK))]
     (im::hh p L::.map (D.map dT)::(dk L++(.iter 2 [] cur::bF 112 2 (D.map aK)))) ?_ (by
     clear xo fL Α kX gC hle hv qg;by_cases Ψ:K=[]
     ·subst Ψ;have Y5:D=[]:=xp.symm.eq_nil;rw[Y5];simp only[List.map_nil,kL,show c9 ((dk L).length+1+1+1+1) []=.sl true 0 [] from rfl];simp;(repeat (rw[ah];simp));refine aB.c (YG _ (by simp[kG])) (b2.refl _) (by simp[kG]) η ?_;simp;(repeat (rw[ah];simp));(try simp)
     ·have gI:K.map aK≠[]:=by simpa using Ψ
      have Y6:D≠[]:=λe=>Ψ (by rw[e] at xp;exact xp.eq_nil)
      have O1:D.map aK≠[]:=by simpa using Y6
      rw[hs gI,eL gI,hs O1,eL O1];simp;(repeat (rw[ah];simp));have pS:aG 0 (.fn (.func 174) [] []):=by simp[kG]
      refine af.one (eC K O0) ((dk L).length+1+1+1+1) η (sn tH) (sn tH) (by simp[mW,pS.jN 1]) (by simp[fD]) (by simp[mX,pS.eg [(dk L).length+1+1+1+1]]) ?_;simp[eg,hF];(repeat (rw[ah];simp));(try simp[Y4,xp.length_eq]))
    refine W.cut ((dk L).length+1+1+1) (Nat.zero_le _) [(2,.au [aY s.ar,aX s.az,bO s.cells]),(3,.au [I p.1,I p.2]),(4,.ak 0 1 0 0),(5,.ak 1 1 0 0),(6,.mp 2),(19,I s.cells.length),(20,I c),(11,hg 2 (D.map aK))] η (λid r cb μ=>?_) ?_ ?_
    ·refine kX D r ?_;have e:im::hh p L::.map (D.map dT)::(dk L++(.iter 2 [] cur::bF 112 2 (D.map aK)))=(im::hh p L::.map (D.map dT)::dk L)++(.iter 2 [] cur::bF 112 2 (D.map aK)):=η;rw[e,dM (by simpa using cb)] at μ;exact cy μ
    ·have Y7:eK ((dk L).length+1+1+1) (im::hh p L::.map (D.map dT)::(dk L++(.iter 2 [] cur::bF 112 2 (D.map aK)))) (c9 ((dk L).length+1+1+1+1) (D.map aK)) (hg 2 (D.map aK)):=Fb (t:=112) J (λπ=>by rw[eL π];simp) (λe he a ν=>by
      obtain⟨z,_,rfl⟩:=List.mem_map.1 he;exact(tH z a ν).mono (Nat.zero_le _))
     intro z Ψ;simp only[List.mem_cons,List.not_mem_nil,or_false] at Ψ;rcases Ψ with rfl|rfl|rfl|rfl|rfl|rfl|rfl|rfl
     all_goals first|exact Y7|exact .low (by simp[l7,tv])
    ·obtain⟨ly,rb⟩:=aF (L++[hg 2 (D.map aK)]);have kM:L.length<2 ^ 30:=by rw[ad];simp;omega
     refine W.to (σ':=im::hh p L::.map (D.map dT)::dk L) (env':=[(2,.au [aY s.ar,aX s.az,bO s.cells]),(3,.au [I p.1,I p.2]),(4,.ak 0 1 0 0),(5,.ak 1 1 0 0),(6,.mp 2),(19,I s.cells.length),(20,I c),(11,hg 2 (D.map aK))]) ?_ η η
     repeat apply ae
     refine W.gX (A:=[65]) Φ [(2,.au [aY s.ar,aX s.az,bO s.cells]),(3,.au [I p.1,I p.2]),(4,.ak 0 1 0 0),(5,.ak 1 1 0 0),(6,.mp 2),(19,I s.cells.length),(20,I c)] (im::hh p ly::.map (D.map dT)::dk ly) ?_ (by
      clear xo fL Α kX gC hle hv;obtain⟨Fc,O2,sl,qc⟩:=OX 2 (D.map aK);rw[qc] at rb ⊢;by_cases Ψ:L=[]
      ·have Fe:ly=[.sl Fc O2 sl]:=by rw[rb,Ψ];rfl
       rw[Fe];subst Ψ;simp only[hh,dk,oB,List.isEmpty_nil,List.isEmpty_cons,if_true,if_false];(try simp);(repeat (rw[ah];simp));(try simp)
      ·have j5:L.length<=4294967295:=J
       have c1:oB L=.ms 3 L.length 0 L.length:=by unfold oB;rw[if_neg (by simpa using Ψ)]
       have c2:dk L=[.cells 111 1 L]:=by unfold dk;rw[if_neg (by simpa using Ψ)]
       have c3:oB ly=.ms 3 (L.length+1) 0 (L.length+1):=by rw[rb];unfold oB;rw[if_neg η];simp
       have c4:dk ly=[.cells 111 1 (L++[.sl Fc O2 sl])]:=by rw[rb];unfold dk;rw[if_neg η]
       simp only[hh];rw[c1,c2,c3,c4];(try simp);(repeat (rw[ah];simp[j5]));(try simp[j5]))
     have lV:∀es,o9 (im::hh p ly::.map es::dk ly) 2=true:=λes=>by unfold dk;cases ly.isEmpty<;>simp[o9]
     repeat apply ae
     refine dt λΚ κ=>?_;simp;(repeat (rw[ah];simp[lV,-o9]));apply κ;refine Η ?_;have tP:ly=(List.range (c+1)).map λc=>hg 2 ((hH s p c).map aK):=by rw[rb,ad,eH,List.range_succ];simp
     refine W.to (Α (c+1) J J) ?_ ?_
     ·rw[<-tP]
     ·simp[eX a2 (show s.cells.length<2 ^ 62 by omega)]
   | cons y R=>
    refine bc λΚ κ=>?_;intro i hi;obtain⟨x,δ⟩:=aF ((y::R)[i]'(by simpa using hi));have Je:(dT y::List.map dT R)[i]?=some (dT x):=by
     have:(List.map dT (y::R))[i]?=some (dT x):=by
      rw[List.getElem?_map,a6 (by simpa using hi),δ];rfl
     simpa using this
    have Jf:(dT y::List.map dT R).eraseIdx i=((y::R).eraseIdx i).map dT:=by
     exact OY dT (y::R) i
    rw[Je,Jf];simp;(repeat (rw[ah];simp));apply κ
    repeat apply ae
    refine aC rfl ?_
    repeat apply ae
    refine dj (A:=[12]) Φ λΚ κ=>bp ?_;apply κ;have dW:∀r∈im::hh p L::.map (D.map dT)::(dk L++(.iter 2 (((y::R).eraseIdx i).map dT) (some (dT x))::bF 112 2 (K.map aK))),fC (im::hh p L::.map (D.map dT)::(dk L++(.iter 2 (((y::R).eraseIdx i).map dT) (some (dT x))::bF 112 2 (K.map aK)))).length r:=by
     intro r μ;have fI:r∈im::hh p L::.map (D.map dT)::dk L\/r∈(.iter 2 (((y::R).eraseIdx i).map dT) (some (dT x))::bF 112 2 (K.map aK)):=by
      have:r∈(im::hh p L::.map (D.map dT)::dk L)++(.iter 2 (((y::R).eraseIdx i).map dT) (some (dT x))::bF 112 2 (K.map aK)):=by simpa using μ
      exact List.mem_append.1 this
     rcases fI with fI|fI
     ·exact fC.mono (kX D r fI) η
     ·rcases List.mem_cons.1 fI with rfl|fI
      ·refine⟨η,λe he=>?_,λe he=>?_⟩
       ·obtain⟨z,_,rfl⟩:=List.mem_map.1 he;simp
       ·cases he;simp
      ·unfold bF at fI;split at fI
       ·simp at fI
       ·simp at fI;subst fI;intro e he a ν;obtain⟨z,_,rfl⟩:=List.mem_map.1 he;simp[θ.cells] at ν;rcases ν with rfl|rfl<;>simp
    refine W.to (σ':=(im::hh p L::.map (D.map dT)::(dk L++(.iter 2 (((y::R).eraseIdx i).map dT) (some (dT x))::bF 112 2 (K.map aK))))++[.cells 112 2 [aK x]]) (env':=[(12,.ak (im::hh p L::.map (D.map dT)::(dk L++(.iter 2 (((y::R).eraseIdx i).map dT) (some (dT x))::bF 112 2 (K.map aK)))).length 1 0 0),(2,.au [aY s.ar,aX s.az,bO s.cells]),(3,.au [I p.1,I p.2]),(4,.ak 0 1 0 0),(5,.ak 1 1 0 0),(6,.mp 2),(19,I s.cells.length),(20,I c),(7,I c),(11,c9 ((dk L).length+1+1+1+1) (K.map aK)),(50,.it ((dk L).length+1+1+1))]) ?_ η η;refine W.oA (σ0:=im::hh p L::.map (D.map dT)::(dk L++(.iter 2 (((y::R).eraseIdx i).map dT) (some (dT x))::bF 112 2 (K.map aK)))) (Nat.zero_le _) dW η [(12,.au [I x.1,I x.2]),(2,.au [aY s.ar,aX s.az,bO s.cells]),(3,.au [I p.1,I p.2]),(4,.ak 0 1 0 0),(5,.ak 1 1 0 0),(6,.mp 2),(19,I s.cells.length),(20,I c),(7,I c),(11,c9 ((dk L).length+1+1+1+1) (K.map aK)),(50,.it ((dk L).length+1+1+1))] (by
     have hb:=YZ (h:=(dk L).length+((bF 112 2 (K.map aK)).length+1)+1+1+1) (id:=(dk L).length+1+1+1+1) (l:=K.map aK) (λπ=>by rw[eL π];simp);clear xo fL Α kX dW gC hle hv qg;simp[l7,tv,Xi,hb]
     ) ?_
    repeat apply ae
    have O0:K.length<2 ^ 20:=by
     have:=ω.length_eq;simp at this;omega
    refine W.gX (A:=[58]) Φ [(2,.au [aY s.ar,aX s.az,bO s.cells]),(3,.au [I p.1,I p.2]),(4,.ak 0 1 0 0),(5,.ak 1 1 0 0),(6,.mp 2),(19,I s.cells.length),(20,I c),(7,I c),(11,c9 ((dk L).length+1+1+1+1) ((K++[x]).map aK)),(50,.it ((dk L).length+1+1+1))]
     (im::hh p L::.map (D.map dT)::(dk L++(.iter 2 (((y::R).eraseIdx i).map dT) (some (dT x))::bF 112 2 ((K++[x]).map aK)))) ?_ (by
     clear xo fL Α kX dW gC hle hv qg;by_cases Ψ:K=[]
     ·subst Ψ;simp only[List.map_nil,kL,show c9 ((dk L).length+1+1+1+1) []=.sl true 0 [] from rfl];(try simp);(repeat (rw[ah];simp[kL]));(try simp[kL]);exact⟨rfl,rfl⟩
     ·have j5:K.length<=4294967295:=J
      have gI:K.map aK≠[]:=by simpa using Ψ
      rw[hs gI,eL gI];(try simp);(repeat (rw[ah];simp[j5]));(try simp[j5]);rw[eL η,hs η];simp)
    refine Η ?_;have O3:(x::(y::R).eraseIdx i).Perm (y::R):=by
     rw[δ];exact OW _ _ _
    refine W.to (xo (K++[x],(y::R).eraseIdx i,some (dT x)) ⟨?_,.inr ⟨x,rfl⟩⟩ ?_) η η
    ·simp only[List.append_assoc,List.singleton_append];exact(O3.append_left K).trans ω
    ·have:=O3.length_eq;simp at this;simp only[List.length_cons];omega
 ·have Jg:c=s.cells.length:=by simp at ε;omega
  subst Jg;refine W.exit rfl ?_
  repeat apply ae
  clear Α;have qg:∀e∈L,∀a∈e.cells,aG 0 a:=by
   rw[ad];intro e he a ν;obtain⟨x,_,rfl⟩:=List.mem_map.1 he;unfold hg at ν;split at ν<;>simp[θ.cells] at ν<;>subst ν<;>simp
  refine W.gX (A:=[]) Φ [(4,.ak 0 1 0 0)] (.cells 110 3 [.a3 [I p.1,I p.2,oB L]]::hh p L::.map []::dk L) ?_ (by
   simp only[hh];by_cases Ψ:L=[]
   ·rw[show oB L=.sl true 0 [] by rw[Ψ];rfl];(try simp);(repeat (rw[ah];simp));(try simp)
   ·rw[show oB L=.ms 3 L.length 0 L.length by unfold oB;rw[if_neg (by simpa using Ψ)],show dk L=[.cells 111 1 L] by unfold dk;rw[if_neg (by simpa using Ψ)]];(try simp);(repeat (rw[ah];simp));(try simp))
  refine W.cut 0 (Nat.zero_le _) [(4,.au [I p.1,I p.2,hg 1 L])] (Nat.zero_le _) (λid r cb=>J) (λz Ψ=>by
   simp at Ψ;subst Ψ;exact eK.struct (k:=3) (t:=110) (l:=[I p.1,I p.2,oB L]) (Nat.zero_le _) rfl rfl (λx a cj U γ=>by
    match x with
    | 0=>simp at U γ;subst U;subst γ;exact .low η
    | 1=>simp at U γ;subst U;subst γ;exact .low η
    | 2=>
     simp at U γ;subst U;subst γ;exact Fb (id:=3) (t:=111) (l:=L) (Nat.zero_le _) (λπ=>by
      have:dk L=[.cells 111 1 L]:=by unfold dk;rw[if_neg (by simpa using π)]
      simp[this]) qg
    | x+3=>simp at U)) ?_
  refine Η ?_;refine W.rt ?_;refine dD.a3 (b2.cons (.refl _) (b2.cons (.refl _) (b2.cons (.trans dD.acc ?_) .nil)));rw[ad];show dD _ (.sl false 1 (((List.range s.cells.length).map (hH s p)).map k'));rw[List.map_map];refine dD.map λx _=>.one dD.acc ?_ rfl;obtain⟨b,k,l,he⟩:=OX 2 ((hH s p x).map aK);rw[he];rfl
structure m0 where
 c:Int
 n:Int
 least:Int
 some:Bool
def m0.take (b:m0) (c n m:Int):m0:=if b.some=false\/m<b.least then⟨c,n,m,true⟩ else b
abbrev m1 (b:m0):θ:=.a3 [I b.c,I b.n,I b.least,ba b.some]
theorem Y8 (b:m0) (c n m:Int):af Tryz.prog 76 [.ak 0 1 0 0,.a3 [I c,I n],I m] [.cells 104 4 [m1 b]] (λr s=>r=.bj []/\s=[.cells 104 4 [m1 (b.take c n m)]]) (λ_ _=>False):=by
 obtain⟨ed,qI,l0,oS⟩:=b;refine af.body Φ Tryz.func76 rfl rfl Tryz.ntmps76 rfl rfl η ?_;refine Η ?_;cases oS
 ·have e:m0.take ⟨ed,qI,l0,false⟩ c n m=⟨c,n,m,true⟩:=by simp[m0.take]
  rw[e];refine Η ?_;refine aC rfl ?_;refine Η ?_;exact W.nil ⟨_,rfl,rfl,rfl⟩
 ·refine Η ?_;by_cases h:m<l0
  ·have e:m0.take ⟨ed,qI,l0,true⟩ c n m=⟨c,n,m,true⟩:=by simp[m0.take,h]
   rw[e];refine aC (by simp[h]) ?_;refine Η ?_;exact W.nil ⟨_,rfl,rfl,rfl⟩
  ·have e:m0.take ⟨ed,qI,l0,true⟩ c n m=⟨ed,qI,l0,true⟩:=by simp[m0.take,h]
   rw[e];refine ay (by simp[h]) ?_;refine Η ?_;exact W.nil ⟨_,rfl,rfl,rfl⟩
abbrev jv (e:Int×Int):θ×θ:=(I e.1,I e.2)
def vm:List (Int×Int)->Int->Int->List (Int×Int)
 | [],k,n=>[(k,IntKind.i64.wrap (0+n))]
 | e::r,k,n=>if k=e.1 then(k,IntKind.i64.wrap (e.2+n))::r else e::vm r k n
theorem Y9 (k n:Int):∀(m:List (Int×Int)) (d:Nat),(iC bm 113 (I k) (m.map jv) d=some none/\vm m k n=m++[(k,IntKind.i64.wrap (0+n))])\/∃i v,i<m.length/\iC bm 113 (I k) (m.map jv) d=some (some (d+i,I v))/\vm m k n=m.set i (k,IntKind.i64.wrap (v+n)):=by
 intro m
 induction m with
 | nil=>intro d;exact .inl ⟨rfl,rfl⟩
 | cons e r Α=>
  intro d;have Χ:aeqv bm 113 (I k) (I e.1)=some (k==e.1):=by simp[aeqv,kF,nB,jG]
  by_cases h:k=e.1
  ·refine .inr ⟨0,e.2,η,?_,by simp[vm,h]⟩;simp only[List.map_cons,iC,Χ];simp[h]
  ·have hb:(k==e.1)=false:=by simpa using h
   rcases Α (d+1) with⟨U,γ⟩|⟨i,v,U,γ,ο⟩
   ·refine .inl ⟨?_,by simp[vm,h,γ]⟩;simp only[List.map_cons,iC,Χ,hb,cond_false];exact U
   ·refine .inr ⟨i+1,v,by simp;omega,?_,by simp[vm,h,ο]⟩;simp only[List.map_cons,iC,Χ,hb,cond_false];rw[γ];have:d+1+i=d+(i+1):=J;rw[this]
theorem af.Y' {P:Program} {σ:ac} {g:FuncId} {as0 first:am} {row row':Row} {r:θ} {K E:θ->ac->Prop} (h:af P g as0 [row] (λa s=>a=r/\s=[row']) (λ_ _=>False)) (id:Nat) (cb:σ[id]?=some row) (ω:iY row) (iP:iY row') (ν:∀a∈as0,fD 1 a) (μ:fD 1 r)
  {args:am} (nD:first++args=as0.map (eg [id])) (κ:K (eg [id] r) (σ.set id row')):hV P (.fn (.func g) first []) args σ K E:=by
 have a5:=af.rows (σ:=σ) h [id] η rfl (λj i ζ=>by
  cases j with
  | zero=>simp at ζ;subst ζ;exact cb
  | succ j=>simp at ζ) (λr μ=>by simp at μ;subst μ;exact ω) (by simpa using ν) (K':=K) (E':=E) (λa s ⟨U,γ⟩=>by
   subst U;subst γ;refine⟨λx δ=>by simp at δ;subst δ;exact iP,μ,?_⟩;simpa[names,tE,jL] using κ) (λa s h=>h.elim)
 exact af.call (first:=first) (captured:=[]) (by rw[List.append_nil,nD];exact a5)
def vn (s:aU) (f:Found) (c n:Nat) (m:List (Int×Int)) (j:Nat):List (Int×Int):=(((f.cells[c]?).getD []).take j).foldl (λm r=>vm m (s.gv (f.u,f.v) r n) (f.many c)) m
def xq (s:aU) (F:List Found) (c n i:Nat):List (Int×Int):=(F.take i).foldl (λm f=>vn s f c n m ((f.cells[c]?).getD []).length) []
def vo (a:Int) (l:List (Int×Int)):Int:=l.foldl (λa e=>max a e.2) a
def Ff (s:aU) (F:List Found) (c n:Nat):Int:=vo 0 (xq s F c n F.length)
def xr (s:aU) (F:List Found) (c:Nat) (b:m0) (n:Nat):m0:=(List.range n).foldl (λb (n:Nat)=>b.take c n (Ff s F c n)) b
def vp (s:aU) (F:List Found) (c:Nat):m0:=(List.range c).foldl (λb (c:Nat)=>xr s F c b s.az.length) ⟨0,0,0,false⟩
theorem Za (s:aU) (F:List Found) (c:Nat) (b:m0) (n:Nat):xr s F c b (n+1)=(xr s F c b n).take c n (Ff s F c n):=by simp[xr,List.range_succ,List.foldl_append]
theorem Zb (s:aU) (F:List Found) (c:Nat):vp s F (c+1)=xr s F c (vp s F c) s.az.length:=by simp[vp,List.range_succ,List.foldl_append]
theorem Zc (s:aU) (f:Found) (c n:Nat) (m:List (Int×Int)) (j:Nat) (h:j<((f.cells[c]?).getD []).length):vn s f c n m (j+1)=vm (vn s f c n m j) (s.gv (f.u,f.v) ((f.cells[c]?).getD [])[j] n) (f.many c):=by
 unfold vn;rw[List.take_succ_eq_append_getElem h,List.foldl_append];rfl
theorem Zd (s:aU) (F:List Found) (c n i:Nat) (h:i<F.length):xq s F c n (i+1)=vn s F[i] c n (xq s F c n i) ((F[i].cells[c]?).getD []).length:=by
 unfold xq;rw[List.take_succ_eq_append_getElem h,List.foldl_append];rfl
theorem Ze {a:Int} {l m:List (Int×Int)} (h:l.Perm m):vo a l=vo a m:=h.foldl_eq' (λx _ y _ z=>J) a
def tQ (s:aU) (F:List Found):Int×Int×Int×Int:=
 if(fa s true F).2.2≠0 then(0,0,0,(fa s true F).2.2)
 else let b:=vp s F s.cells.length;if b.some=false\/b.least=fR F then(0,0,0,11) else(b.c,b.n,b.least,0)
structure Fg (s:aU) (F:List Found):Prop where
 nM:F.length<2 ^ 20
 cells:∀f∈F,f.cells.length=s.cells.length/\(∀c∈f.cells,c.length<2 ^ 20/\∀r∈c,r.1<s.ar.length/\r.2<s.ar.length)
 many:∀f∈F,f.cells.length<2 ^ 62/\∀(ha:Int) i,i<=f.cells.length->hG f.cells ha i<2 ^ 62
 count:fR F<2 ^ 62
theorem Zf (s:aU) (ξ:s.small) (F:List Found) (eI:qa s F) (cK:Fg s F) :
  aB Tryz.prog 26 [fu s] (.bj [I (tQ s F).1,I (tQ s F).2.1,I (tQ s F).2.2.1,I (tQ s F).2.2.2]):=by
 refine af.body Φ Tryz.func26 rfl rfl Tryz.ntmps26 rfl rfl η ?_;refine Η ?_;refine da ?_;refine dj (A:=[6]) Φ λΚ κ=>bp ?_;refine aB.d (Bi s ξ true F eI) (bp ?_);apply κ;by_cases b:(fa s true F).2.2=0
 case neg=>
  have e:tQ s F=(0,0,0,(fa s true F).2.2):=by unfold tQ;rw[if_pos b]
  rw[e];generalize (fa s true F).2.2=fK at b;refine Η ?_;refine aC (by simp[b]) ?_;refine Η ?_;refine W.drop (h:=0) (σ':=[]) (Nat.zero_le _) (Nat.zero_le _) η rfl [(2,I 0),(3,I 0),(4,I 0),(5,I fK)] η ?_;refine W.rt ?_;exact .refl _
 have e:fa s true F=(s,F,0):=by
  unfold fa at b ⊢;split at b
  ·rename_i h;simp at b;exact absurd b h
  ·split at b
   ·simp at b
   ·rename_i U γ;rw[if_neg U,if_neg γ]
 have Ε:tQ s F=let b:=vp s F s.cells.length;if b.some=false\/b.least=fR F then(0,0,0,11) else(b.c,b.n,b.least,0):=by unfold tQ;rw[if_neg (by simpa using b)]
 rw[Ε,e];clear Ε;refine W.fix (id:=0) (σ':=[]) (Nat.zero_le _) rfl η η rfl [(5,I 0),(6,.au [aY s.ar,aX s.az,bO s.cells]),(7,cL F)] η ?_;refine Η ?_;refine ay rfl ?_
 repeat apply ae
 refine dj (A:=[8]) Φ λΚ κ=>bp ?_;apply κ;refine Η ?_;have gR:s.cells.length<2 ^ 30:=ξ.2.2.1;have mα:s.az.length<2 ^ 30:=ξ.2.1;have sw:∀{b:m0} (M:List (Int×Int)),∀r∈[Row.cells 104 4 [m1 b],.map (M.map jv)],fC [Row.cells 104 4 [m1 b],.map (M.map jv)].length r:=λ{b} M r μ=>by
  simp only[List.mem_cons,List.not_mem_nil,or_false] at μ;rcases μ with rfl|rfl
  ·simp[fC,θ.cells]
  ·intro e he;obtain⟨x,_,rfl⟩:=List.mem_map.1 he;simp
 refine W.iter (λc:Nat=>c<=s.cells.length) (λc=>[(6,.au [aY s.ar,aX s.az,bO s.cells]),(7,cL F),(8,.ak 0 1 0 0),(9,.fn (.func 76) [.ak 0 1 0 0] []),(33,I s.cells.length),(34,I c)])
  (λc=>[.cells 104 4 [m1 (vp s F c)]]) (λc=>s.cells.length-c) 0 (Nat.zero_le _) rfl η (λc iS Α=>?_)
 refine Η ?_;refine W.ey rfl (λε=>?_) (λε=>?_)
 ·have lZ:c<s.cells.length:=by simpa using ε
  refine Η ?_;obtain⟨df,kA⟩:=aF (vp s F c);refine W.iter (λn:Nat=>n<=s.az.length) (λn=>[(6,.au [aY s.ar,aX s.az,bO s.cells]),(7,cL F),(8,.ak 0 1 0 0),(9,.fn (.func 76) [.ak 0 1 0 0] []),(10,I c),(33,I s.cells.length),(34,I c),(40,I s.az.length),(41,I n)])
   (λn=>[.cells 104 4 [m1 (xr s F c df n)]]) (λn=>s.az.length-n) 0 (Nat.zero_le _) (by rw[kA];rfl) η (λn se fL=>?_)
  refine Η ?_;refine W.ey rfl (λa2=>?_) (λa2=>?_)
  ·have r9:n<s.az.length:=by simpa using a2
   obtain⟨bE,lY⟩:=aF (xr s F c df n);refine W.to (σ':=[.cells 104 4 [m1 bE]]) (env':=[(6,.au [aY s.ar,aX s.az,bO s.cells]),(7,cL F),(8,.ak 0 1 0 0),(9,.fn (.func 76) [.ak 0 1 0 0] []),(10,I c),(33,I s.cells.length),(34,I c),(40,I s.az.length),(41,I n)]) ?_ (by rw[lY]) η;refine Η ?_;refine W.iter (λi:Nat=>i<=F.length) (λi=>[(6,.au [aY s.ar,aX s.az,bO s.cells]),(7,cL F),(8,.ak 0 1 0 0),(9,.fn (.func 76) [.ak 0 1 0 0] []),(10,I c),(33,I s.cells.length),(34,I c),(40,I s.az.length),(41,I n),(11,I n),(12,.mp 1),(45,cL F),(46,I F.length),(47,I i)])
    (λi=>[.cells 104 4 [m1 bE],.map ((xq s F c n i).map jv)]) (λi=>F.length-i) 0 (Nat.zero_le _) rfl η (λi hi xo=>?_)
   refine Η ?_;by_cases l':i<F.length
   ·refine aC (by simp[l']) ?_;obtain⟨M,db⟩:=aF (xq s F c n i);have re:=Zd s F c n i l';rw[<-db] at re;obtain⟨oC,jk⟩:=cK.cells _ (List.getElem_mem l');obtain⟨hZ,jw⟩:=cK.many _ (List.getElem_mem l');generalize Ρ:F[i]=f at re oC jk hZ jw;have b3:c<f.cells.length:=by rw[oC];exact lZ
    refine W.to (σ':=[.cells 104 4 [m1 bE],.map (M.map jv)]) (env':=[(6,.au [aY s.ar,aX s.az,bO s.cells]),(7,cL F),(8,.ak 0 1 0 0),(9,.fn (.func 76) [.ak 0 1 0 0] []),(10,I c),(33,I s.cells.length),(34,I c),(40,I s.az.length),(41,I n),(11,I n),(12,.mp 1),(45,cL F),(46,I F.length),(47,I i)]) ?_ (by rw[db]) η
    repeat apply ae
    refine dj (A:=[14]) Φ λΚ κ=>gh (ς l' Ρ) ?_;apply κ;refine W.oA (σ0:=[.cells 104 4 [m1 bE],.map (M.map jv)]) (Nat.zero_le _) (sw _) η [(14,.au [I f.u,I f.v,mV f.cells]),(6,.au [aY s.ar,aX s.az,bO s.cells]),(7,cL F),(8,.ak 0 1 0 0),(9,.fn (.func 76) [.ak 0 1 0 0] []),(10,I c),(33,I s.cells.length),(34,I c),(40,I s.az.length),(41,I n),(11,I n),(12,.mp 1),(45,cL F),(46,I F.length),(47,I i)] (by simp[l7,tv]) ?_;refine aE b3 ?_;have Br:(f.cells[c]?).getD []=f.cells[c]:=by simp[b3]
    rw[Br] at re;have Bs:=jk _ (List.getElem_mem b3);have rf:=Zc s f c n M;rw[Br] at rf;generalize f.cells[c]=C at re Bs rf;obtain⟨Zg,Jh⟩:=Bs;refine W.iter (λj:Nat=>j<=C.length) (λj=>[(14,.au [I f.u,I f.v,mV f.cells]),(6,.au [aY s.ar,aX s.az,bO s.cells]),(7,cL F),(8,.ak 0 1 0 0),(9,.fn (.func 76) [.ak 0 1 0 0] []),(10,I c),(33,I s.cells.length),(34,I c),(40,I s.az.length),(41,I n),(11,I n),(12,.mp 1),(45,cL F),(46,I F.length),(47,I i),(55,k' C),(56,I C.length),(57,I j)])
     (λj=>[.cells 104 4 [m1 bE],.map ((vn s f c n M j).map jv)]) (λj=>C.length-j) 0 (Nat.zero_le _) (by simp[vn]) η (λj ζ ss=>?_)
    refine Η ?_;by_cases m2:j<C.length
    ·refine aC (by simp[m2]) ?_;obtain⟨M2,yZ⟩:=aF (vn s f c n M j);have rh:=rf j m2;rw[<-yZ] at rh;refine W.to (σ':=[.cells 104 4 [m1 bE],.map (M2.map jv)]) (env':=[(14,.au [I f.u,I f.v,mV f.cells]),(6,.au [aY s.ar,aX s.az,bO s.cells]),(7,cL F),(8,.ak 0 1 0 0),(9,.fn (.func 76) [.ak 0 1 0 0] []),(10,I c),(33,I s.cells.length),(34,I c),(40,I s.az.length),(41,I n),(11,I n),(12,.mp 1),(45,cL F),(46,I F.length),(47,I i),(55,k' C),(56,I C.length),(57,I j)]) ?_ (by rw[yZ]) η;obtain⟨ny,oy⟩:=Jh _ (List.getElem_mem m2);generalize μ:C[j]=r at rh ny oy
     repeat apply ae
     refine dj (A:=[16]) Φ λΚ κ=>gh (ς m2 μ) ?_;apply κ;refine W.oA (σ0:=[.cells 104 4 [m1 bE],.map (M2.map jv)]) (Nat.zero_le _) (sw _) η [(16,.au [I r.1,I r.2]),(14,.au [I f.u,I f.v,mV f.cells]),(6,.au [aY s.ar,aX s.az,bO s.cells]),(7,cL F),(8,.ak 0 1 0 0),(9,.fn (.func 76) [.ak 0 1 0 0] []),(10,I c),(33,I s.cells.length),(34,I c),(40,I s.az.length),(41,I n),(11,I n),(12,.mp 1),(45,cL F),(46,I F.length),(47,I i),(55,k' C),(56,I C.length),(57,I j)] (by simp[l7,tv]) ?_
     repeat apply ae
     have su:=eX m2 (show C.length<2 ^ 62 by omega);rcases Y9 (s.gv (f.u,f.v) r n) (f.many c) M2 0 with⟨aa,ai⟩|⟨bz,v,cN,aa,ai⟩
     ·refine W.draw (A:=[]) Φ mixed λΚ κ=>?_;simp;(repeat (rw[cY];simp[aa,jG]));try rw[cX]
      refine eD (aB.p (Bd s ξ (f.u,f.v) r n r9 ny oy) (b2.refl _) η η) ?_;simp[aa,jG];(repeat (rw[cY];simp[aa,jG]));try rw[cX]
      refine eD (aB.p (E2 f c hZ (jw c)) (b2.refl _) η η) ?_;simp[aa,jG];(repeat (rw[cY];simp[aa,jG]));try rw[cX]
      refine en (κ _ _ ?_);refine aE su ?_;refine W.to (ss (j+1) m2 J) ?_ ?_
      ·rw[rh,ai];simp
      ·simp[su]
     ·refine W.draw (A:=[]) Φ mixed λΚ κ=>?_;simp;(repeat (rw[cY];simp[aa,jG]));try rw[cX]
      refine eD (aB.p (Bd s ξ (f.u,f.v) r n r9 ny oy) (b2.refl _) η η) ?_;simp[aa,jG];(repeat (rw[cY];simp[aa,jG]));try rw[cX]
      refine eD (aB.p (E2 f c hZ (jw c)) (b2.refl _) η η) ?_;simp[aa,jG];(repeat (rw[cY];simp[aa,jG]));try rw[cX]
      refine en (κ _ _ ?_);refine aE su ?_;refine W.to (ss (j+1) m2 J) ?_ ?_
      ·rw[rh,ai];simp
      ·simp[su]
    ·have Bq:j=C.length:=J
     subst Bq;have gT:=eX l' (show F.length<2 ^ 62 by have:=cK.nM;omega);refine ay η ?_;refine W.exit rfl ?_;refine aE gT ?_;refine W.to (xo (i+1) l' J) ?_ ?_
     ·rw[re]
     ·simp[gT]
   ·have eW:i=F.length:=J
    subst eW;refine ay η ?_;refine W.exit rfl ?_;obtain⟨M,db⟩:=aF (xq s F c n F.length);have Zh:Ff s F c n=vo 0 M:=by rw[db];rfl
    refine W.to (σ':=[.cells 104 4 [m1 bE],.map (M.map jv)]) (env':=[(6,.au [aY s.ar,aX s.az,bO s.cells]),(7,cL F),(8,.ak 0 1 0 0),(9,.fn (.func 76) [.ak 0 1 0 0] []),(10,I c),(33,I s.cells.length),(34,I c),(40,I s.az.length),(41,I n),(11,I n),(12,.mp 1)]) ?_ (by rw[db]) η;refine Η ?_;refine W.iter (λx:Int×List (Int×Int)×Option (θ×θ)=>vo x.1 x.2.1=vo 0 M) (λx=>[(6,.au [aY s.ar,aX s.az,bO s.cells]),(7,cL F),(8,.ak 0 1 0 0),(9,.fn (.func 76) [.ak 0 1 0 0] []),(10,I c),(33,I s.cells.length),(34,I c),(40,I s.az.length),(41,I n),(11,I n),(12,.mp 1),(17,I x.1),(76,.it 2)])
     (λx=>[.cells 104 4 [m1 bE],.map (M.map jv),.iter 1 (x.2.1.map jv) x.2.2]) (λx=>x.2.1.length) (0,M,none) rfl rfl η (λx δ Zi=>?_)
    obtain⟨pb,R,cur⟩:=x;simp only at δ
    repeat apply ae
    cases R with
    | nil=>
     refine bc λΚ κ=>?_;apply κ
     repeat apply ae
     refine ay rfl ?_;refine W.exit rfl ?_;have Ji:pb=Ff s F c n:=by rw[Zh,<-δ];rfl
     have Bt:=eX r9 (show s.az.length<2 ^ 62 by omega);refine bc λΚ κ=>?_;refine af.Y' (as0:=[.ak 0 1 0 0,.a3 [I c,I n],I pb]) (Y8 bE c n pb) 0 rfl (by simp[iY,θ.cells]) (by simp[iY,θ.cells]) (by simp[fD,mS]) (by simp[fD]) rfl ?_;simp[eg,hF];(repeat (rw[ah];simp));apply κ;refine W.drop (h:=1) (σ':=[.cells 104 4 [m1 (bE.take c n pb)]]) (Nat.zero_le _) η (λid r cb μ=>?_) rfl [(6,.au [aY s.ar,aX s.az,bO s.cells]),(7,cL F),(8,.ak 0 1 0 0),(9,.fn (.func 76) [.ak 0 1 0 0] []),(10,I c),(33,I s.cells.length),(34,I c),(40,I s.az.length),(41,I n)] (by simp[l7]) ?_
     ·obtain rfl:id=0:=J
      simp at μ;subst μ;simp[fC,θ.cells]
     refine aE Bt ?_;refine W.to (fL (n+1) r9 J) ?_ ?_
     ·rw[Za,<-lY,Ji]
     ·simp[Bt]
    | cons y R=>
     refine bc λΚ κ=>?_;intro bz k2;obtain⟨x,jF⟩:=aF ((y::R)[bz]'(by simpa using k2));have Je:(jv y::List.map jv R)[bz]?=some (jv x):=by
      have:(List.map jv (y::R))[bz]?=some (jv x):=by
       rw[List.getElem?_map,a6 (by simpa using k2),jF];rfl
      simpa using this
     have Jf:(jv y::List.map jv R).eraseIdx bz=((y::R).eraseIdx bz).map jv:=OY jv (y::R) bz;rw[Je,Jf];simp;(repeat (rw[ah];simp));apply κ
     repeat apply ae
     refine aC rfl ?_;refine Η ?_;have O4:bz<(y::R).length:=by simpa using k2
     have hinv:vo (max pb x.2) ((y::R).eraseIdx bz)=vo 0 M:=by
      rw[<-δ,<-Ze (OW (y::R) bz O4),<-jF];rfl
     have Ji:max pb x.2=if pb<x.2 then x.2 else pb:=by split<;>omega
     refine W.to (Zi (max pb x.2,(y::R).eraseIdx bz,some (jv x)) hinv (by simp only[List.length_eraseIdx,O4,if_true];omega)) ?_ ?_
     ·simp
     ·simp[Ji]
  ·have bx:n=s.az.length:=by simp at a2;omega
   subst bx;have Bu:=eX lZ (show s.cells.length<2 ^ 62 by omega);refine W.exit rfl ?_;refine aE Bu ?_;refine W.to (Α (c+1) lZ J) ?_ ?_
   ·rw[Zb,<-kA]
   ·simp[Bu]
 ·have ε:c=s.cells.length:=by simp at ε;omega
  subst ε;refine W.exit rfl ?_;refine Η ?_;obtain⟨⟨O5,vh,nm,nC⟩,dV⟩:∃B,B=vp s F s.cells.length:=⟨_,rfl⟩;rw[<-dV];refine W.fix (id:=0) (σ':=[]) (Nat.zero_le _) rfl η η rfl [(7,cL F),(8,.au [I O5,I vh,I nm,ba nC])] η ?_;have U:∀f∈F,f.cells.length<2 ^ 62/\∀i,i<=f.cells.length->hG f.cells (-1) i<2 ^ 62:=λf Ρ=>⟨(cK.many f Ρ).1,(cK.many f Ρ).2 (-1)⟩;cases nC
  ·refine vf ?_;refine aC rfl ?_;refine Η ?_;refine W.drop (h:=0) (σ':=[]) (Nat.zero_le _) (Nat.zero_le _) η rfl [(2,I 0),(3,I 0),(4,I 0),(5,I 11)] η ?_;refine W.rt ?_;exact .of η
  ·refine W.draw (A:=[]) Φ mixed λΚ κ=>sm ?_;refine eD (aB.p (OC F (by have:=cK.nM;omega) U cK.count) (b2.refl _) η η) ?_;simp;(repeat (rw[cY];simp));try rw[cX]
   refine en (κ _ _ ?_);by_cases q:nm=fR F
   ·refine aC (by simp[q]) ?_;refine Η ?_;refine W.drop (h:=0) (σ':=[]) (Nat.zero_le _) (Nat.zero_le _) η rfl [(2,I 0),(3,I 0),(4,I 0),(5,I 11)] η ?_;refine W.rt ?_;exact .of (by simp[q])
   ·refine ay (by simp[q]) ?_;refine Η ?_;refine vf ?_;refine W.drop (h:=0) (σ':=[]) (Nat.zero_le _) (Nat.zero_le _) η rfl [(2,I O5),(3,I vh),(4,I nm),(5,I 0)] η ?_;refine W.rt ?_;exact .of (by simp[q])
end Go.TL
