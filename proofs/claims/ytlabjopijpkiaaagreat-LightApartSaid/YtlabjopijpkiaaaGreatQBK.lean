import Derived.Test.YtlabjopijpkiaaaGreatQBJ
set_option maxHeartbeats 16000000
set_option maxRecDepth 20000
set_option linter.unusedSectionVars false
set_option linter.unusedSimpArgs false
set_option linter.unusedVariables false
namespace Go.TL
open Go.Conc Go.Proofs
open Go.ConcN (sumTo upd sumTo_upd upd_ne upd_same sumTo_congr le_sumTo)
variable [bd]
def jG (P:Program) (Q:Value→Prop) (mn:Bool) (y:aR) (g:Goroutine):Prop:=h1 g∧Goes P Q mn g {y with G:=ψ.empty}
def ky (P:Program) (d:Nat) (g:Goroutine):Prop:=∃n,QuitsD P n d g
theorem bn {P:Program} {Q:Value→Prop} {mn:Bool} {y:aR} (δ:eE y):HG P mn (jG P Q mn y):=fun g g' R γ ο=>⟨R,Quiet.goes (.cons R γ (.nil _)) δ ο.1 ο.2⟩
theorem dG {P:Program} {d:Nat}:HG P false (ky P d):=fun g g' R γ ⟨n,ο⟩=>⟨n+1,.ctl R.1 γ ο⟩
section
variable {P:Program} {Q:Value→Prop} {mn:Bool} {y:aR} {b:Frame} {cs:List Frame} {nt:Nat} {k:List Item} {env:Χ}
variable {ops:Array Oper} {i:Nat} {rest:List Nat} {op:Oper} {f:FuncId} {e:Array Value→Sem Value} {args:Array Operand} {vs:List Value}
theorem Ψ.leaves {d:Nat} (κ:y.rel=true) (Τ:∀s,Gone (y.tok s)) (hd:y.deaf=d) (h:Ψ (ky P d) b cs nt k env):Ψ (jG P Q false y) b cs nt k env:=fun t R γ=>by
 obtain⟨n,Η⟩:=h t R γ;subst hd;exact⟨⟨rfl,rfl⟩,Goes.quits n κ Τ Η⟩
theorem Ψ.disable (δ:eE y) (h:gC P b ops i op f (fun _=>do mark .disable;pure Extern.Race.none_) args env [] nt) (υ:Ψ (jG P Q mn {y with deaf:=y.deaf+1}) b cs nt (.inRegion ops rest::k) (b5 op env nB)):Ψ (jG P Q mn y) b cs nt (.inRegion ops (i::rest)::k) env:=fun t R γ=>by
 obtain⟨s2,s1⟩:=qm γ h.dst R (a:=nB) (v:=.tuple #[]) (.z _);exact⟨⟨rfl,rfl⟩,Goes.step δ.ok (.inr ⟨⟨rfl,rfl⟩,.inr (.inl ⟨Go.Conc.G (ao b (put op t (.tuple #[])) (.inRegion ops rest::k)) cs,⟨rfl,rfl⟩,.inl fun w _=>
  ⟨h.step γ (C5 .disable) (C6 .disable _) (qB (by simp)),(υ _ s1 s2).2⟩⟩)⟩)⟩
def HI (P:Program) (Q:Value→Prop) (mn:Bool) (y:aR) (b:Frame) (cs:List Frame) (nt:Nat) (ops:Array Oper) (rest:List Nat) (k:List Item) (op:Oper) (env:Χ) (s φ:Nat) (π:aK) (v:Value):Prop:=
 Ψ (jG P Q mn {y with view:=upd y.view s (some (φ,π))}) b cs nt (.inRegion ops rest::k) (b5 op env (.z v))
def Ds (P:Program) (Q:Value→Prop) (mn:Bool) (y:aR) (b:Frame) (cs:List Frame) (nt:Nat) (ops:Array Oper) (rest:List Nat) (k:List Item) (op:Oper) (env:Χ) (s φ:Nat) (π:aK) (v:Value) (o':aK) (t':Tok):Prop:=
 Act π (y.tok s) o' t'∧∀cb,cb<φ→Ψ (jG P Q mn {y with tok:=upd y.tok s t',view:=upd y.view s (some (cb,o'))}) b cs nt (.inRegion ops rest::k) (b5 op env (.z v))
theorem Ψ.ext (δ:eE y) {s:Nat} {sp:Spec} (bQ:y.spec s=some sp) (cM:¬fC (y.tok s)) (h:gC P b ops i op f e args env vs nt)
  (aS:∀(w:World) (φ:Nat) (π:aK),Seen y s sp φ π→At s π w→
   (∃v w' fQ,(e vs.toArray).run P w=.ok v w'∧(e vs.toArray).events P w #[⟨.mark (Mark.extern f),false,true⟩]=#[⟨.mark (Mark.extern f),false,true⟩]++fQ∧(∀y∈fQ,y.sync=true∧∀g,y.loc≠.mark (Mark.extern g))∧
    fe (fun Φ _=>dW s sp Φ) (fun _=>False) w w'∧nR s sp y.deaf fQ∧
    ((At s π w'∧HI P Q mn y b cs nt ops rest k op env s φ π v)∨∃o' t',At s o' w'∧Ds P Q mn y b cs nt ops rest k op env s φ π v o' t'))) :
  Ψ (jG P Q mn y) b cs nt (.inRegion ops (i::rest)::k) env:=by
 obtain⟨dL,Κ⟩:=h.call;intro t R γ;refine⟨⟨rfl,rfl⟩,Goes.step δ.ok (.inr ⟨⟨rfl,rfl⟩,.inr (.inr (.inr (.inl ⟨s,sp,bQ,cM,fun w φ π Ρ hv Β bx x1 He=>?_⟩)))⟩)⟩;obtain⟨v,w',fQ,a1,bg,cv,fK,ha,lx⟩:=aS w φ π ⟨Β,x1,He⟩ bx;have cg:=C3 (mn:=mn) (cs:=cs) (rest:=rest) (k:=k) h.nm h.at_ (jx γ h.want) Κ (h.zw.bk γ) a1 bg cv;refine .inl ?_;rw[cg];obtain⟨s2,s1⟩:=qm γ h.dst R (a:=.z v) (v:=v) (.z _);refine⟨⟨rfl,rfl⟩,fK,ha,?_⟩;rcases lx with⟨ay,a6⟩|⟨o',t',ay,a6,gv⟩
 ·exact .inl ⟨ay,(a6 _ s1 s2).2⟩
 ·exact .inr ⟨o',t',a6,ay,.inl (MF h.nm h.at_ Κ),fun cb ec=>(gv cb ec _ s1 s2).2⟩
section
variable {s:Nat} {sp:Spec} (δ:eE y) (hd:0<y.deaf) (bQ:y.spec s=some sp) (cM:¬fC (y.tok s))
include δ hd bQ cM
theorem Ψ.Hf (h:gC P b ops i op f (Extern.Atomic.loadT (.int .u64)) args env [.pointer (some ⟨s,0,none⟩)] nt)
  (dd:∀φ π,Seen y s sp φ π→HI P Q mn y b cs nt ops rest k op env s φ π (.int .u64 (cF π))):Ψ (jG P Q mn y) b cs nt (.inRegion ops (i::rest)::k) env:=by
 refine .ext δ bQ cM h fun w φ π ξ bx=>?_;have η:=bx.cH;refine⟨.int .u64 (cF π),w,#[⟨.cell ⟨s,0,none⟩,false,true⟩],?_,?_,qF (qE _ false),fe.refl _ _ _,qC (.inl rfl) hd (qE _ false),.inl ⟨bx,dd φ π ξ⟩⟩
 ·change Sem.run P (do Extern.Atomic.read (.int .u64) (←asAddr (.pointer (some _)))) w=_;simp[Extern.Atomic.read,asAddr,η]
 ·change Sem.events P (do Extern.Atomic.read (.int .u64) (←asAddr (.pointer (some _)))) w _=_;simp[Extern.Atomic.read,asAddr,η,events_load]
theorem Ψ.Hg {d:Int} (h:gC P b ops i op f (Extern.Atomic.update (Op.intArith .add) .u64 true) args env [.pointer (some ⟨s,0,none⟩),.int .u64 d] nt)
  (dd:∀φ π,Seen y s sp φ π→∃o' t',cF o'=IntKind.u64.wrap (cF π+d)∧o'.cz=π.cz∧qG π o'∧Ds P Q mn y b cs nt ops rest k op env s φ π (.int .u64 (cF o')) o' t') :
  Ψ (jG P Q mn y) b cs nt (.inRegion ops (i::rest)::k) env:=by
 refine .ext δ bQ cM h fun w φ π ξ bx=>?_;have η:=bx.cH;have Ν:=bx.tg 0;obtain⟨o',t',R,γ,ο,Ι⟩:=dd φ π ξ;rw[R] at Ι;refine⟨_,_,_,run_add_entry η Ν,(events_add_entry η Ν _).trans rfl,qF (qD ⟨s,0,none⟩),bx.wZ _,qC (.inl rfl) hd (qD ⟨s,0,none⟩),.inr ⟨o',t',bx.wY ο.aQ ο.g ο.w ?_,Ι⟩⟩;rw[R,γ];rfl
theorem Ψ.Xy {d:Int} (h:gC P b ops i op f Extern.Atomic.storeT args env [.pointer (some ⟨s,0,none⟩),.int .u64 d] nt)
  (dd:∀φ π,Seen y s sp φ π→∃o' t',cF o'=d∧o'.cz=π.cz∧qG π o'∧Ds P Q mn y b cs nt ops rest k op env s φ π (.tuple #[]) o' t') :
  Ψ (jG P Q mn y) b cs nt (.inRegion ops (i::rest)::k) env:=by
 refine .ext δ bQ cM h fun w φ π ξ bx=>?_;have η:=bx.cH;have Ν:=bx.tg 0;obtain⟨o',t',R,γ,ο,Ι⟩:=dd φ π ξ;refine⟨.tuple #[],w.setCell ⟨s,0,none⟩ (.int .u64 d),#[⟨.cell ⟨s,0,none⟩,true,true⟩],?_,?_,qF (qE _ true),bx.wZ _,qC (.inl rfl) hd (qE _ true),.inr ⟨o',t',bx.wY ο.aQ ο.g ο.w (by rw[R,γ];rfl),Ι⟩⟩
 ·change Sem.run P (do
   store (←asAddr (.pointer (some _))) (.int .u64 d) .atomic
   pure Extern.Atomic.none_) w=_
  simp[asAddr,η,Ν,run_store P w _ (.int .u64 d) .atomic rfl,Result.andThen,Extern.Atomic.none_]
 ·change Sem.events P (do
   store (←asAddr (.pointer (some _))) (.int .u64 d) .atomic
   pure Extern.Atomic.none_) w _=_
  simp[asAddr,η,Ν,events_store P w _ _ (.int .u64 d) .atomic rfl]
end
section
variable {s:Nat} {sp:Spec} (δ:eE y) (bQ:y.spec s=some sp) (cM:¬fC (y.tok s))
include δ bQ cM
theorem Ψ.Xz (ae:vs[0]?=some (.pointer (some ⟨s,1,none⟩))) (h:gC P b ops i op f Extern.Sync.semrelease args env vs nt)
  (dd:∀φ π,Seen y s sp φ π→π.cz<1000∧∃o' t',cF o'=cF π∧o'.cz=π.cz+1∧qG π o'∧Ds P Q mn y b cs nt ops rest k op env s φ π (.tuple #[]) o' t') :
  Ψ (jG P Q mn y) b cs nt (.inRegion ops (i::rest)::k) env:=by
 refine .ext δ bQ cM h fun w φ π ξ bx=>?_;have η:=bx.Ξ;obtain⟨aE,o',t',R,γ,ο,Ι⟩:=dd φ π ξ;refine⟨_,_,_,MO ae η (bx.tg 1),MP ae η (bx.tg 1) _,semEvents_sync _,bx.wZ _,C' (.inl rfl),.inr ⟨o',t',bx.wY ο.aQ ο.g ο.w ?_,Ι⟩⟩;rw[R,γ,show IntKind.u32.wrap (((π.cz:Nat):Int)+1)=((π.cz+1:Nat):Int) by simp only[IntKind.wrap_u32];omega];rfl
end
theorem Nu {t:Array Value} (hb:b.mode=.run) (b7:b.roundOf=none) (et:b.defers=[Go.Conc.dcall f #[]]) (gu:b.kind=.normal) {fn:Func} (b':P.funcs[b.fn]?=some fn) (eL:fn.results=#[]) (he:Entry P f (fun _=>do mark .enable;pure Extern.Race.none_)) {c:Frame}
  (h:ky P 0 (Go.Conc.G (c.finish (.tuple #[])) cs)):ky P 1 (Go.Conc.G {ao b t k with mode:=.returning} (c::cs)):=by
 obtain⟨gξ,Ε,Δ,a4,cu,eR⟩:=he;obtain⟨n,Η⟩:=h;rw[gf hb b7];refine⟨n+1+1,QuitsD.unwind_mark (a:=⟨t,b.defers⟩) (ds:=[]) .enable rfl (by simp) et Ε Δ a4 cu eR ?_⟩;exact .ctl rfl (fun w=>stepG_leave (a:=⟨t,[]⟩) gu rfl b' (Go.results_none eL _ P w) (Go.Conc.events_results_none eL _ _)) Η
theorem Ψ.HB (hb:b.mode=.run) (b7:b.roundOf=none) (et:b.defers=[Go.Conc.dcall f #[]]) (gu:b.kind=.normal) {fn:Func} (b':P.funcs[b.fn]?=some fn) (eL:fn.results=#[]) (he:Entry P f (fun _=>do mark .enable;pure Extern.Race.none_)) {c:Frame}
  (h:ky P 0 (Go.Conc.G (c.finish (.tuple #[])) cs)):Ψ (ky P 1) b (c::cs) nt (.code .ret::k) env:=fun t _ _=>by
 refine dG _ (Go.Conc.G {ao b t (.code .ret::k) with mode:=.returning} (c::cs)) ⟨rfl,rfl⟩ (fun w=>?_) (Nu hb b7 et gu b' eL he h);rw[iB hb];unfold stepG.exec;simp only[ao,b7];rfl
theorem Ψ.XA (hb:b.mode=.run) (b7:b.roundOf=none) (et:b.defers=[Go.Conc.dcall f #[]]) (gu:b.kind=.normal) {fn:Func} (b':P.funcs[b.fn]?=some fn) (eL:fn.results=#[]) (he:Entry P f (fun _=>do mark .enable;pure Extern.Race.none_)) {c:Frame}
  (h:ky P 0 (Go.Conc.G (c.finish (.tuple #[])) cs)):Ψ (ky P 1) b (c::cs) nt [] env:=fun t _ _=>by
 refine dG _ (Go.Conc.G {ao b t [] with mode:=.returning} (c::cs)) ⟨rfl,rfl⟩ (fun w=>?_) (Nu hb b7 et gu b' eL he h);rw[iB hb];unfold stepG.exec;simp only[ao,b7];rfl
end
def xg (x:aR):aR:={x with aC:=fun _=>none,rel:=true}
theorem V.E4 {P:Program} {Q:Value→Prop} {x:aR} {b:Frame} {cs:List Frame} {nt:Nat} {o:Base} {k:List Item} {env:Χ} {ops:Array Oper} {i:Nat} {rest:List Nat} {op:Oper} {f:FuncId} {args:Array Operand} (δ:x.rel=false) {s n:Nat} {sp:Spec} {mu:kF} {v:Option (Nat×aK)} (bQ:x.spec s=some sp) (sr:mu=.done∨(mu=.idle∧sp.aQ=none)) (cM:∀bj,bj≠s→fC (x.tok bj)) (dJ:sp.D n ψ.empty)
  (h:gC P b ops i op f (Extern.Race.marked .releaseMerge) args env [.pointer (some ⟨s,0,none⟩)] nt) (he:∀p∈b5 op env nB,∃v,p.2=θ.z v)
  (υ:Ψ (jG P Q false (br (xg x) s (.ch n mu .rel) none 0)) b cs nt (.inRegion ops rest::k) (b5 op env nB)):V P Q false (one (br x s (.ch n mu .work) v 0)) b cs nt o (.inRegion ops (i::rest)::k) env []:=by
 intro S B H t μ χ y Ο;cases Ο;have lT:=χ.put h.dst (a:=nB) (v:=.tuple #[]) (.z _);have Τ:=(υ _ lT.size (zJ he lT.cj)).2;refine Goes.step (eE.ok (.inl δ)) (.inr ⟨⟨rfl,rfl⟩,.inr (.inr (.inr (.inr (.inr (.inr (.inl ⟨s,sp,n,mu,Go.Conc.G (ao b (put op t (.tuple #[])) (.inRegion ops rest::k)) cs,ψ.empty,bQ,bZ (v:=v) (d:=0),sr,fun bj im=>by
  rw[show({br x s (.ch n mu .work) v 0 with G:=H}:aR).tok bj=(br x s (.ch n mu .work) v 0).tok bj from rfl,zA im];exact cM bj im,rfl,⟨rfl,rfl⟩,δ,fun w _=>
  h.step χ.cj (wV .releaseMerge _) (wW .releaseMerge _ _) (qB (by simp)),⟨fun b o v p η=>(by cases η),fun b y η=>(by cases η),fun b y η=>(by cases η)⟩,dJ,?_⟩))))))⟩)
 have e:({({br x s (.ch n mu .work) v 0 with G:=H}:aR) with G:=ψ.empty,aC:=fun _=>none,tok:=upd ({br x s (.ch n mu .work) v 0 with G:=H}:aR).tok s (.ch n mu .rel),view:=upd ({br x s (.ch n mu .work) v 0 with G:=H}:aR).view s none,rel:=true}:aR)={br (xg x) s (.ch n mu .rel) none 0 with G:=ψ.empty}:=by
  unfold br xg;simp only[Hj]
 exact e▸Τ
end Go.TL
namespace Go.TL
open Go.Conc Go.Proofs
open Go.ConcN (sumTo upd sumTo_upd upd_ne upd_same sumTo_congr le_sumTo)
noncomputable def Dt:Code:=Tryz.f140.body.getD .skip
noncomputable abbrev HJ (s:Nat):Frame:={Frame.enter Tryz.prog 140 #[ptr s 0,.int .i64 (-1)] .normal with defers:=[Go.Conc.dcall 161 #[]]}
theorem XB:IntKind.u64.wrap (IntKind.u64.wrap (-1)*2 ^ min 32 IntKind.u64.bits)=18446744069414584320:=by decide
theorem XC:IntKind.u64.wrap (18446744073709551615*2 ^ min 32 IntKind.u64.bits)=18446744069414584320:=by decide
theorem XD:IntKind.u64.wrap (-1)=18446744073709551615:=by decide
theorem Du:IntKind.i32.wrap (-1)=-1:=by decide
section
variable {Q:Value→Prop} {c:Frame} {rest:List Frame} {s k:Nat} {sp:Spec} {v:Option (Nat×aK)}
theorem XE [bd] (Ζ:ky Tryz.prog 0 (Go.Conc.G (c.finish (.tuple #[])) rest)) {cc w0:Nat} (R:cc<8) (γ:w0<2) (ο:0<cc∨w0=0) {env:Χ} (cA:a5 env 0=.z (ptr s 0)) (Ε:a5 env 1=.z (.int .i64 (-1))) (cu:a5 env 4=.z (.bool false)) (kK:a5 env 6=.z (.int .u64 (hA cc w0))) :
  Ψ (ky Tryz.prog 1) (HJ s) (c::rest) 117 [.code (dx [1,1,1,1] Dt)] env:=by
 have fin:∀(K:List Item) (env:Χ),Ψ (ky Tryz.prog 1) (HJ s) (c::rest) 117 (.code .ret::K) env:=fun K env=>Ψ.HB rfl rfl rfl rfl Tryz.func140 rfl th Ζ
 have Nv:¬(cc:Int)<0:=Int.not_lt.2 (Int.natCast_nonneg _)
 have hw:w0=0∨w0=1:=by omega
 have f1:=Dm cc R w0 γ
 have f2:=Dn cc R w0 γ
 have f3:=Dp cc R w0 γ;generalize hA cc w0=w at f1 f2 f3 kK;unfold Dt;by_cases χ:0<cc
 ·have fP:(0:Int)<cc:=by exact_mod_cast χ
  rcases hw with rfl|rfl
  ·(repeat (first|refine Ψ.seq dG rfl ?_|refine Ψ.block dG rfl ?_|refine Ψ.inBlock dG rfl ?_|refine Ψ.skip dG rfl ?_|refine Ψ.l9 dG rfl rfl ?_|refine Ψ.l' dG rfl rfl ?_|(refine Ψ.region dG rfl Θ rfl (by simp[Frame.enter]) fun J I=>?_;(try simp);(repeat (refine gG ?_;simp[cA,Ε,cu,kK,f1,f2,f3,Du,Nv,χ,fP]));refine I _ ?_;clear I J)));exact fin _ _
  ·(repeat (first|refine Ψ.seq dG rfl ?_|refine Ψ.block dG rfl ?_|refine Ψ.inBlock dG rfl ?_|refine Ψ.skip dG rfl ?_|refine Ψ.l9 dG rfl rfl ?_|refine Ψ.l' dG rfl rfl ?_|(refine Ψ.region dG rfl Θ rfl (by simp[Frame.enter]) fun J I=>?_;(try simp);(repeat (refine gG ?_;simp[cA,Ε,cu,kK,f1,f2,f3,Du,Nv,χ,fP]));refine I _ ?_;clear I J)));exact fin _ _
 ·have ae:w0=0:=ο.resolve_left χ
  have jP:cc=0:=Nat.eq_zero_of_not_pos χ;subst ae;subst jP;(repeat (first|refine Ψ.seq dG rfl ?_|refine Ψ.block dG rfl ?_|refine Ψ.inBlock dG rfl ?_|refine Ψ.skip dG rfl ?_|refine Ψ.l9 dG rfl rfl ?_|refine Ψ.l' dG rfl rfl ?_|(refine Ψ.region dG rfl Θ rfl (by simp[Frame.enter]) fun J I=>?_;(try simp);(repeat (refine gG ?_;simp[cA,Ε,cu,kK,f1,f2,f3,Du]));refine I _ ?_;clear I J)));exact fin _ _
structure pH (x:aR) (s:Nat) (sp:Spec):Prop where
 rel:x.rel=true
 spec:x.spec s=some sp
 top:sp.top<7
 shut:∀bj,bj≠s→fC (x.tok bj)
theorem pH.here {x:aR} (h:pH x s sp) {g:sg} {d:Nat} (Τ:g≠.gone):eE (br x s (.ch k .done g) v d):=.inr ⟨s,by rw[bZ];cases g<;>simp_all [Gone]⟩
theorem pH.gone {x:aR} (h:pH x s sp) {d:Nat}:∀bj,Gone ((br x s (.ch k .done .gone) v d).tok bj):=fun bj=>by
 by_cases e:bj=s
 ·subst e;rw[bZ];trivial
 ·rw[zA e];have:=h.shut bj e;revert this;cases x.tok bj with
  | nil=>exact fun _=>trivial
  | par n p aB=>cases aB<;>exact fun h=>h
  | ch k m g=>exact fun h=>h.elim
theorem pH.Dq {x:aR} (η:pH x s sp) {π:aK} (h:π.toSpec=sp):π.top<7:=by have:=η.top;rw[show π.top=sp.top by rw[←h]];exact this
theorem Ψ.back [bd] {dg:Goroutine→Prop} {b:Frame} {cs:List Frame} {nt:Nat} {k:List Item} {env:Χ} {ops:Array Oper} {i:Nat} {rest:List Nat} {op:Oper} {t:Array Value} {v:Value} (Β:ops[i]?=some op) (hd:hB nt op=true) (Μ:t.size=nt) (ξ:c7 eX [] [] env t)
  (h:Ψ dg b cs nt (.inRegion ops rest::k) (b5 op env (.z v))):dg (Go.Conc.G ((ao b t (.inRegion ops (i::rest)::k)).finish v) cs):=by
 rw[hO Β];obtain⟨s2,s1⟩:=qm ξ hd Μ (a:=.z v) (v:=v) (.z _);exact h _ s1 s2
theorem Ψ.Nw [bd] {P:Program} {b:Frame} {cs:List Frame} {nt:Nat} {env:Χ} (hb:b.mode=.run) (b7:b.roundOf=none) (et:b.defers=[]) (gu:b.kind=.deferred) {fn:Func} (b':P.funcs[b.fn]?=some fn) (eL:fn.results=#[]) {c:Frame} (pG:c.mode=.returning)
  (h:ky P 0 (Go.Conc.G c cs)):Ψ (ky P 0) b (c::cs) nt [] env:=fun t _ _=>by
 obtain⟨n,Η⟩:=h;refine dG _ (Go.Conc.G {ao b t [] with mode:=.returning} (c::cs)) ⟨rfl,rfl⟩ (fun w=>?_) ⟨n+1,?_⟩
 ·rw[iB hb];unfold stepG.exec;simp only[ao,b7];rfl
 ·rw[gf hb b7];exact QuitsD.leaveD (a:=⟨t,b.defers⟩) gu et b' eL pG Η
theorem XF [bd] {x:aR} (η:pH x s sp) {t:Tok} (aS:∀v,eE (br x s t v 1)) (cM:¬fC t) {cs:List Frame} (dd:∀φ π,Seen (br x s t v 1) s sp φ π→jG Tryz.prog Q false (br x s t (some (φ,π)) 1) (Go.Conc.G (c.finish (.int .u64 (cF π))) cs)) :
  Ψ (jG Tryz.prog Q false (br x s t v 1)) (Frame.enter Tryz.prog 168 #[ptr s 0] .normal) (c::cs) 7 [.code (Tryz.f168.body.getD .skip)] (entry 0 [.z (ptr s 0)]):=by
 simp only[Tryz.f168,Option.getD_some];(repeat (first|refine Ψ.seq (bn (aS _)) rfl ?_|refine Ψ.block (bn (aS _)) rfl ?_|refine Ψ.inBlock (bn (aS _)) rfl ?_|refine Ψ.skip (bn (aS _)) rfl ?_|refine Ψ.l9 (bn (aS _)) rfl rfl ?_|refine Ψ.l' (bn (aS _)) rfl rfl ?_|(refine Ψ.region (bn (aS _)) rfl Θ rfl (by simp[Frame.enter]) fun J I=>?_;(try simp);(repeat (refine gG ?_;simp[cM]));refine I _ ?_;clear I J)));refine Ψ.ca (bn (aS _)) rfl ?_;refine Ψ.part (bn (aS _)) rfl Θ rfl (by simp[Frame.enter]) [0,1,2] [3,4] rfl fun J I=>?_;(try simp[-vd]);(repeat (refine gG ?_;simp));refine I _ ?_;clear I J;refine Ψ.Hf (aS _) (Nat.succ_pos _) (sp:=sp) η.spec (by rw[bZ];exact cM) ⟨⟨rfl,rfl,by simp[Frame.enter],rfl⟩,MZ,⟨_,rfl⟩,rfl,rfl,rfl⟩ fun φ π ξ=>?_;unfold HI;rw[jF];refine Ψ.part (bn (aS _)) rfl Θ rfl (by simp[Frame.enter]) [4] [] rfl fun J I=>?_;(try simp[-vd]);(repeat (refine gG ?_;simp));refine I _ ?_;clear I J;refine Ψ.bB (bn (aS _)) rfl ?_;exact Ψ.rX (bn (aS _)) rfl rfl rfl rfl Tryz.func168 rfl rfl (dd φ π ξ)
theorem XG [bd] {x:aR} (η:pH x s sp) {t t':Tok} {d:Int} (aS:∀v,eE (br x s t v 1)) (Nx:∀v,eE (br x s t' v 1)) (cM:¬fC t) {cs:List Frame} (dd:∀φ π,Seen (br x s t v 1) s sp φ π→∃o',cF o'=d∧o'.cz=π.cz∧qG π o'∧Act π t o' t'∧∀cb,cb<φ→jG Tryz.prog Q false (br x s t' (some (cb,o')) 1) (Go.Conc.G (c.finish (.tuple #[])) cs)) :
  Ψ (jG Tryz.prog Q false (br x s t v 1)) (Frame.enter Tryz.prog 169 #[ptr s 0,.int .u64 d] .normal) (c::cs) 9 [.code (Tryz.f169.body.getD .skip)] (entry 0 [.z (ptr s 0),.z (.int .u64 d)]):=by
 simp only[Tryz.f169,Option.getD_some];(repeat (first|refine Ψ.seq (bn (aS _)) rfl ?_|refine Ψ.block (bn (aS _)) rfl ?_|refine Ψ.inBlock (bn (aS _)) rfl ?_|refine Ψ.skip (bn (aS _)) rfl ?_|refine Ψ.l9 (bn (aS _)) rfl rfl ?_|refine Ψ.l' (bn (aS _)) rfl rfl ?_|(refine Ψ.region (bn (aS _)) rfl Θ rfl (by simp[Frame.enter]) fun J I=>?_;(try simp);(repeat (refine gG ?_;simp[cM]));refine I _ ?_;clear I J)));refine Ψ.ca (bn (aS _)) rfl ?_;refine Ψ.part (bn (aS _)) rfl Θ rfl (by simp[Frame.enter]) [0,1,2,3] [4] rfl fun J I=>?_;(try simp[-vd]);(repeat (refine gG ?_;simp));refine I _ ?_;clear I J;refine Ψ.Xy (aS _) (Nat.succ_pos _) (sp:=sp) η.spec (by rw[bZ];exact cM) ⟨⟨rfl,rfl,by simp[Frame.enter],rfl⟩,WN,⟨_,rfl⟩,rfl,rfl,rfl⟩ fun φ π ξ=>?_;obtain⟨o',a1,bg,cv,fK,ha⟩:=dd φ π ξ;refine⟨o',t',a1,bg,cv,by rw[bZ];exact fK,fun cb ec=>?_⟩;rw[gD];refine Ψ.bB (bn (Nx _)) rfl ?_;exact Ψ.Da (bn (Nx _)) rfl rfl rfl rfl Tryz.func169 rfl (ha cb ec)
theorem XH [bd] {x:aR} (η:pH x s sp) {t:Tok} {d:Int} (aS:∀v,eE (br x s t v 1)) (cM:¬fC t) {cs:List Frame}
  (dd:∀φ π,Seen (br x s t v 1) s sp φ π→∃o' t',cF o'=IntKind.u64.wrap (cF π+d)∧o'.cz=π.cz∧qG π o'∧Act π t o' t'∧∀cb,cb<φ→(((∀v,eE (br x s t' v 1))∧jG Tryz.prog Q false (br x s t' (some (cb,o')) 1) (Go.Conc.G (c.finish (.int .u64 (cF o'))) cs))∨((∀bj,Gone ((br x s t' (some (cb,o')) 1).tok bj))∧ky Tryz.prog 1 (Go.Conc.G (c.finish (.int .u64 (cF o'))) cs)))) :
  Ψ (jG Tryz.prog Q false (br x s t v 1)) (Frame.enter Tryz.prog 166 #[ptr s 0,.int .u64 d] .normal) (c::cs) 10 [.code (Tryz.f166.body.getD .skip)] (entry 0 [.z (ptr s 0),.z (.int .u64 d)]):=by
 simp only[Tryz.f166,Option.getD_some];(repeat (first|refine Ψ.seq (bn (aS _)) rfl ?_|refine Ψ.block (bn (aS _)) rfl ?_|refine Ψ.inBlock (bn (aS _)) rfl ?_|refine Ψ.skip (bn (aS _)) rfl ?_|refine Ψ.l9 (bn (aS _)) rfl rfl ?_|refine Ψ.l' (bn (aS _)) rfl rfl ?_|(refine Ψ.region (bn (aS _)) rfl Θ rfl (by simp[Frame.enter]) fun J I=>?_;(try simp);(repeat (refine gG ?_;simp[cM]));refine I _ ?_;clear I J)));refine Ψ.ca (bn (aS _)) rfl ?_;refine Ψ.part (bn (aS _)) rfl Θ rfl (by simp[Frame.enter]) [0,1,2,3] [4,5] rfl fun J I=>?_;(try simp[-vd]);(repeat (refine gG ?_;simp));refine I _ ?_;clear I J;refine Ψ.Hg (aS _) (Nat.succ_pos _) (sp:=sp) η.spec (by rw[bZ];exact cM) ⟨⟨rfl,rfl,by simp[Frame.enter],rfl⟩,MY,⟨_,rfl⟩,rfl,rfl,rfl⟩ fun φ π ξ=>?_;obtain⟨o',t',a1,bg,cv,fK,ha⟩:=dd φ π ξ;refine⟨o',t',a1,bg,cv,by rw[bZ];exact fK,fun cb ec=>?_⟩;rw[gD];rcases ha cb ec with⟨bI,dc⟩|⟨bI,dc⟩
 ·refine Ψ.part (bn (bI _)) rfl Θ rfl (by simp[Frame.enter]) [5] [] rfl fun J I=>?_;(try simp[-vd]);(repeat (refine gG ?_;simp));refine I _ ?_;clear I J;refine Ψ.bB (bn (bI _)) rfl ?_;exact Ψ.rX (bn (bI _)) rfl rfl rfl rfl Tryz.func166 rfl rfl dc
 ·refine Ψ.leaves (d:=1) η.rel bI rfl ?_;refine Ψ.part dG rfl Θ rfl (by simp[Frame.enter]) [5] [] rfl fun J I=>?_;(try simp[-vd]);(repeat (refine gG ?_;simp));refine I _ ?_;clear I J;refine Ψ.bB dG rfl ?_;exact Ψ.rX dG rfl rfl rfl rfl Tryz.func166 rfl rfl dc
theorem XI [bd] {x:aR} (η:pH x s sp) (Ζ:ky Tryz.prog 0 (Go.Conc.G (c.finish (.tuple #[])) rest)) {env:Χ} (cA:a5 env 0=.z (ptr s 0)) (Ε:a5 env 1=.z (.int .i64 (-1))) (cu:a5 env 4=.z (.bool false)) (kK:a5 env 6=.z (.int .u64 (hA 0 1))) :
  Ψ (jG Tryz.prog Q false (br x s (.ch k .done .l2) v 1)) (HJ s) (c::rest) 117 [.code (dx [1,1,1,1] Dt)] env:=by
 have f1:=Dm 0 (by decide) 1 (by decide)
 have f2:=Dn 0 (by decide) 1 (by decide)
 have f3:=Dp 0 (by decide) 1 (by decide)
 have iL:hA 0 1=1:=by decide
 generalize hw:hA 0 1=w at f1 f2 f3 kK;have γ:=η.here (k:=k) (v:=v) (d:=1) (g:=.l2) (by simp);unfold Dt;(repeat (first|refine Ψ.seq (bn γ) rfl ?_|refine Ψ.block (bn γ) rfl ?_|refine Ψ.inBlock (bn γ) rfl ?_|refine Ψ.skip (bn γ) rfl ?_|refine Ψ.l9 (bn γ) rfl rfl ?_|refine Ψ.l' (bn γ) rfl rfl ?_|(refine Ψ.region (bn γ) rfl Θ rfl (by simp[Frame.enter]) fun J I=>?_;(try simp);(repeat (refine gG ?_;simp[cA,Ε,cu,kK,f1,f2,f3,Du]));refine I _ ?_;clear I J)));refine Ψ.ca (bn γ) rfl ?_;refine Ψ.part (bn γ) rfl Θ rfl (by simp[Frame.enter]) [0,1,2] [3,4,5] rfl fun J I=>?_;(repeat (refine gG ?_;simp[cA]));refine I _ ?_;clear I J;refine Ψ.call (bn γ) rfl ⟨rfl,rfl,by simp[Frame.enter],rfl⟩ rfl rfl (vs:=[ptr s 0]) rfl Tryz.func168 rfl rfl (by simp[Tryz.ntmps168]) fun t Μ ξ=>?_;have gV:∀v,eE (br x s (.ch k .done .l2) v 1):=fun v=>η.here (by simp);have jl:∀v,eE (br x s (.ch k .done .g9) v 1):=fun v=>η.here (by simp);refine XF η gV id fun φ π qJ=>?_;have υ:=qJ.iJ.r5;rw[bZ] at υ;obtain⟨Ξ,ad⟩:=υ.l2 k _ rfl;have p5:cF π=w:=by rw[←hw];simp only[cF,Ξ,ad]
 rw[p5];refine Ψ.back rfl rfl Μ ξ ?_;refine Ψ.part (bn (gV _)) rfl Θ rfl (by simp[Frame.enter]) [4,5] [] rfl fun J I=>?_;(repeat (refine gG ?_;simp[kK]));refine I _ ?_;clear I J;refine Ψ.bB (bn (gV _)) rfl ?_;(repeat (first|refine Ψ.seq (bn (gV _)) rfl ?_|refine Ψ.block (bn (gV _)) rfl ?_|refine Ψ.inBlock (bn (gV _)) rfl ?_|refine Ψ.skip (bn (gV _)) rfl ?_|refine Ψ.l9 (bn (gV _)) rfl rfl ?_|refine Ψ.l' (bn (gV _)) rfl rfl ?_|(refine Ψ.region (bn (gV _)) rfl Θ rfl (by simp[Frame.enter]) fun J I=>?_;(try simp);(repeat (refine gG ?_;simp[cA]));refine I _ ?_;clear I J)));refine Ψ.ca (bn (gV _)) rfl ?_;refine Ψ.part (bn (gV _)) rfl Θ rfl (by simp[Frame.enter]) [0,1,2] [3] rfl fun J I=>?_;(repeat (refine gG ?_;simp[cA]));refine I _ ?_;clear I J;refine Ψ.call (bn (gV _)) rfl ⟨rfl,rfl,by simp[Frame.enter],rfl⟩ rfl rfl (vs:=[ptr s 0,.int .u64 0]) rfl Tryz.func169 rfl rfl (by simp[Tryz.ntmps169]) fun t3 XJ qI=>?_;refine XG η (t':=.ch k .done .g9) gV jl id fun zL XK XL=>?_;have u':=XL.iJ.r5;rw[bZ] at u';obtain⟨aT,ck⟩:=u'.l2 k _ rfl;refine⟨{XK with wt:=0},by simp only[cF,ck];rfl,rfl,⟨rfl,rfl,rfl⟩,.Qb,fun gο gπ=>?_⟩;refine Ψ.back rfl rfl XJ qI ?_;refine Ψ.bB (bn (jl _)) rfl ?_;(repeat (first|refine Ψ.seq (bn (jl _)) rfl ?_|refine Ψ.block (bn (jl _)) rfl ?_|refine Ψ.inBlock (bn (jl _)) rfl ?_|refine Ψ.skip (bn (jl _)) rfl ?_|refine Ψ.l9 (bn (jl _)) rfl rfl ?_|refine Ψ.l' (bn (jl _)) rfl rfl ?_|(refine Ψ.region (bn (jl _)) rfl Θ rfl (by simp[Frame.enter]) fun J I=>?_;(try simp);(repeat (refine gG ?_;simp[cA,cu]));refine I _ ?_;clear I J)));refine Ψ.loop (bn (jl _)) rfl ?_;(repeat (first|refine Ψ.seq (bn (jl _)) rfl ?_|refine Ψ.block (bn (jl _)) rfl ?_|refine Ψ.inBlock (bn (jl _)) rfl ?_|refine Ψ.skip (bn (jl _)) rfl ?_|refine Ψ.l9 (bn (jl _)) rfl rfl ?_|refine Ψ.l' (bn (jl _)) rfl rfl ?_|(refine Ψ.region (bn (jl _)) rfl Θ rfl (by simp[Frame.enter]) fun J I=>?_;(try simp);(repeat (refine gG ?_;simp[cA,cu]));refine I _ ?_;clear I J)));refine Ψ.ca (bn (jl _)) rfl ?_;refine Ψ.part (bn (jl _)) rfl Θ rfl (by simp[Frame.enter]) [0,1,2] [3] rfl fun J I=>?_;(repeat (refine gG ?_;simp[cA]));refine I _ ?_;clear I J;refine Ψ.Xz (jl _) (sp:=sp) η.spec (by rw[bZ];exact id) (vs:=[ptr s 1,.bool false,.int .i64 0]) rfl ⟨⟨rfl,rfl,by simp[Frame.enter],rfl⟩,WT,⟨_,rfl⟩,rfl,rfl,rfl⟩ fun gρ Ny XM=>?_;have Nz:=XM.iJ.r5;rw[bZ] at Nz;refine⟨by have:=Nz.cz;omega,{Ny with cz:=Ny.cz+1},.ch k .done .gone,rfl,rfl,⟨rfl,rfl,rfl⟩,by rw[bZ];exact .Qc,fun gς gτ=>?_⟩;rw[gD];refine Ψ.leaves (d:=1) η.rel η.gone rfl ?_;refine Ψ.bB dG rfl ?_;(repeat (first|refine Ψ.seq dG rfl ?_|refine Ψ.block dG rfl ?_|refine Ψ.inBlock dG rfl ?_|refine Ψ.skip dG rfl ?_|refine Ψ.l9 dG rfl rfl ?_|refine Ψ.l' dG rfl rfl ?_|(refine Ψ.region dG rfl Θ rfl (by simp[Frame.enter]) fun J I=>?_;(try simp);(repeat (refine gG ?_;simp[cA,Dr]));refine I _ ?_;clear I J)));refine Ψ.inLoop dG rfl ?_;(repeat (first|refine Ψ.seq dG rfl ?_|refine Ψ.block dG rfl ?_|refine Ψ.inBlock dG rfl ?_|refine Ψ.skip dG rfl ?_|refine Ψ.l9 dG rfl rfl ?_|refine Ψ.l' dG rfl rfl ?_|(refine Ψ.region dG rfl Θ rfl (by simp[Frame.enter]) fun J I=>?_;(try simp);(repeat (refine gG ?_;simp[cA,Dr]));refine I _ ?_;clear I J)));refine Ψ.exit dG rfl rfl ?_;exact Ψ.XA rfl rfl rfl rfl Tryz.func140 rfl th Ζ
structure NA (x:aR) (s:Nat) (sp:Spec):Prop where
 rel:x.rel=false
 aC:x.aC=fun _=>none
 spec:x.spec s=some sp
 top:sp.top<7
 shut:∀bj,bj≠s→fC (x.tok bj)
theorem XN {x:aR} {H:ψ} (η:NA x s sp) (dJ:sp.D k ψ.empty) (pG:c.mode=.returning) (Ζ:ky Tryz.prog 0 (Go.Conc.G c rest)) :
  cf Tryz.prog Q false (br x s (.ch k .done .work) v 0) (Frame.enter Tryz.prog 142 #[ptr s 0] .deferred) (c::rest) H:=by
 letI:bd:=eF;have δ:∀t v d,Seq (one (br x s t v d)):=fun t v d=>Seq.tf trivial η.rel η.aC;have Τ:pH (xg x) s sp:=⟨rfl,η.spec,η.top,η.shut⟩;have κ:∀v d,eE (br (xg x) s (.ch k .done .rel) v d):=fun v d=>Τ.here (by simp);have ω:∀v d,eE (br (xg x) s (.ch k .done .l2) v d):=fun v d=>Τ.here (by simp);rw[pj (body:=Tryz.f142.body.getD .skip) Tryz.func142 rfl];refine V.here (x:=one _) (m:=0) (nt:=4) (S:=eX) (B:=[]) (σ:=[]) (env:=entry 0 [.z (ptr s 0)]) ?_ (fj.enter (xa H) ⟨rfl,fun i a v R γ=>?_⟩ (Nat.le_refl _) (by simp)) _ rfl
 ·refine V.a' (δ _ _ _) rfl ?_;simp only[Tryz.f142,Option.getD_some]
  repeat first|apply aV|apply wb|apply aX|apply wd
  refine W.ca ?_;refine W.part (A:=[]) Θ [0] [1] rfl fun J I=>?_;(try simp);(repeat (rw[ζ];simp));apply I;clear I J;refine W.stop ?_;refine V.call (δ _ _ _) ⟨rfl,rfl,by simp[Frame.enter],rfl⟩ rfl rfl rfl ⟨_,Tryz.func140,rfl,rfl⟩ fun bE bK H1 t1 oq μ χ hv=>?_;obtain rfl:=l4 (l:=[ptr s 0,.int .i64 (-1)]) hv;obtain rfl:bK=[]:=dq.1 χ.holds.len;rintro y rfl;refine V.pz (z:=one _) (vs:=[ptr s 0,.int .i64 (-1)]) Tryz.func140 rfl χ.holds (by simp[Tryz.ntmps140]) ?_ _ rfl;refine V.a' (δ _ _ _) rfl ?_;(repeat (first|apply aV|apply wb|apply aX|apply wd|refine al rfl ?_|refine ah rfl ?_|(refine ν fun J I=>?_;simp;(repeat (rw[ζ];simp));apply I;clear I J)));refine W.ca ?_;refine W.part (A:=[]) Θ [0] [1,2] rfl fun J I=>?_;(try simp);(repeat (rw[ζ];simp));apply I;clear I J;refine W.stop ?_;refine V.conv (δ _ _ _).here (sp:=sp) η.spec (by rw[bZ];exact id) ⟨rfl,rfl,by simp[Frame.enter],rfl⟩ rfl rfl rfl Hr ti Hs rfl (fun π w Β bx=>⟨_,bx.cH⟩) (fun φ π ξ=>?_);unfold hG;rw[jF];refine V.E4 η.rel (sp:=sp) η.spec (.inl rfl) η.shut dJ ⟨⟨rfl,rfl,by simp[Frame.enter],rfl⟩,MV,⟨_,rfl⟩,rfl,rfl,rfl⟩ (by simp) ?_;refine Ψ.bB (bn (κ _ _)) rfl ?_;(repeat (first|refine Ψ.seq (bn (κ _ _)) rfl ?_|refine Ψ.block (bn (κ _ _)) rfl ?_|refine Ψ.inBlock (bn (κ _ _)) rfl ?_|refine Ψ.skip (bn (κ _ _)) rfl ?_|refine Ψ.l9 (bn (κ _ _)) rfl rfl ?_|refine Ψ.l' (bn (κ _ _)) rfl rfl ?_|(refine Ψ.region (bn (κ _ _)) rfl Θ rfl (by simp[Frame.enter]) fun J I=>?_;(try simp);(repeat (refine gG ?_;simp[pG]));refine I _ ?_;clear I J)));refine Ψ.ca (bn (κ _ _)) rfl ?_;refine Ψ.disable (κ _ _) ⟨⟨rfl,rfl,by simp[Frame.enter],rfl⟩,zC,⟨_,rfl⟩,rfl,rfl,rfl⟩ ?_;rw[zy];refine Ψ.bB (bn (κ _ _)) rfl ?_;refine Ψ.ca (bn (κ _ _)) rfl ?_;refine Ψ.Hi (bn (κ _ _)) rfl ⟨rfl,rfl,by simp[Frame.enter],rfl⟩ rfl rfl rfl ?_;refine Ψ.bB (bn (κ _ _)) rfl ?_;(repeat (first|refine Ψ.seq (bn (κ _ _)) rfl ?_|refine Ψ.block (bn (κ _ _)) rfl ?_|refine Ψ.inBlock (bn (κ _ _)) rfl ?_|refine Ψ.skip (bn (κ _ _)) rfl ?_|refine Ψ.l9 (bn (κ _ _)) rfl rfl ?_|refine Ψ.l' (bn (κ _ _)) rfl rfl ?_|(refine Ψ.region (bn (κ _ _)) rfl Θ rfl (by simp[Frame.enter]) fun J I=>?_;(try simp);(repeat (refine gG ?_;simp[pG]));refine I _ ?_;clear I J)));refine Ψ.ca (bn (κ _ _)) rfl ?_;refine Ψ.Db (bn (κ _ _)) rfl ⟨rfl,rfl,by simp[Frame.enter],rfl⟩ rfl rfl rfl MW ?_;refine Ψ.bB (bn (κ _ _)) rfl ?_;(repeat (first|refine Ψ.seq (bn (κ _ _)) rfl ?_|refine Ψ.block (bn (κ _ _)) rfl ?_|refine Ψ.inBlock (bn (κ _ _)) rfl ?_|refine Ψ.skip (bn (κ _ _)) rfl ?_|refine Ψ.l9 (bn (κ _ _)) rfl rfl ?_|refine Ψ.l' (bn (κ _ _)) rfl rfl ?_|(refine Ψ.region (bn (κ _ _)) rfl Θ rfl (by simp[Frame.enter]) fun J I=>?_;(try simp);(repeat (refine gG ?_;simp[pG]));refine I _ ?_;clear I J)));refine Ψ.ca (bn (κ _ _)) rfl ?_;refine Ψ.part (bn (κ _ _)) rfl Θ rfl (by simp[Frame.enter]) [0,1,2,3,4,5] [6,7] rfl fun J I=>?_;(repeat (refine gG ?_;simp[XD,XB,XC]));refine I _ ?_;clear I J;refine Ψ.call (bn (κ _ _)) rfl ⟨rfl,rfl,by simp[Frame.enter],rfl⟩ rfl rfl (vs:=[ptr s 0,.int .u64 18446744069414584320]) rfl Tryz.func166 rfl rfl (by simp[Tryz.ntmps166]) fun t2 vf dI=>?_;refine XH Τ (fun v=>κ v 1) id fun φ π qI=>?_;have υ:=qI.iJ.r5;rw[bZ] at υ;have e4:1≤π.cnt:=υ.live;have gg:=Τ.Dq qI.spec;have xd:=υ.cnt;have p0:=υ.wt;obtain⟨cc,lJ⟩:∃cc,cc=π.cnt-1:=⟨_,rfl⟩;have zP:π.cnt<8∧0<π.cnt∧cc<8∧π.wt<2:=by omega
  have NB:cF {π with cnt:=cc}=IntKind.u64.wrap (cF π+18446744069414584320):=by
   rw[tl,tl,Xf π.cnt zP.1 π.wt zP.2.2.2 zP.2.1,lJ]
  by_cases iW:π.cnt=1∧π.wt=1
  ·have jP:cc=0:=by omega
   refine⟨{π with cnt:=cc},.ch k .done .l2,NB,rfl,⟨rfl,rfl,rfl⟩,by rw[lJ];exact .P' iW.1 iW.2,fun cb ec=>.inl ⟨fun v=>ω v 1,?_⟩⟩;have p5:cF {π with cnt:=cc}=hA 0 1:=by rw[tl,jP];simp only[iW.2]
   rw[p5];refine Ψ.back rfl rfl vf dI ?_;refine Ψ.part (bn (ω _ _)) rfl Θ rfl (by simp[Frame.enter]) [7] [] rfl fun J I=>?_;(repeat (refine gG ?_;simp));refine I _ ?_;clear I J;refine Ψ.bB (bn (ω _ _)) rfl ?_;refine XI Τ ?_ rfl rfl rfl rfl;exact Ψ.back (nt:=4) rfl rfl χ.size (zJ (by simp) χ.cj) (Ψ.bB dG rfl (Ψ.Nw rfl rfl rfl rfl Tryz.func142 rfl pG Ζ))
  ·refine⟨{π with cnt:=cc},.ch k .done .gone,NB,rfl,⟨rfl,rfl,rfl⟩,by rw[lJ];exact .Qa (by omega),fun cb ec=>.inr ⟨Τ.gone,?_⟩⟩;have p5:cF {π with cnt:=cc}=hA cc π.wt:=rfl;rw[p5];refine Ψ.back rfl rfl vf dI ?_;refine Ψ.part dG rfl Θ rfl (by simp[Frame.enter]) [7] [] rfl fun J I=>?_;(repeat (refine gG ?_;simp));refine I _ ?_;clear I J;refine Ψ.bB dG rfl ?_;refine XE ?_ (cc:=cc) (w0:=π.wt) zP.2.2.1 zP.2.2.2 (by omega) rfl rfl rfl rfl;exact Ψ.back (nt:=4) rfl rfl χ.size (zJ (by simp) χ.cj) (Ψ.bB dG rfl (Ψ.Nw rfl rfl rfl rfl Tryz.func142 rfl pG Ζ))
 ·cases i with
  | zero=>simp at R γ;subst R;subst γ;exact .z _
  | succ i=>simp at R
end
end Go.TL
