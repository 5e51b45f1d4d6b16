import Derived.Conc.QuitsD
import Derived.Conc.SmallLaws
import Derived.Test.YtlabjopijpkiaaaGreatQBE
set_option maxHeartbeats 16000000
set_option maxRecDepth 20000
set_option linter.unusedSectionVars false
set_option linter.unusedSimpArgs false
set_option linter.unusedVariables false
namespace Go.TL
open Go.Conc
open Go.ConcM (OsLater)
open Go.ConcN (sumTo upd sumTo_upd upd_ne upd_same sumTo_congr le_sumTo)
variable [bd]
section
variable {P:Program} {Q:Value→Prop} {mn:Bool} {x:aR} {b:Frame} {cs:List Frame} {nt:Nat} {o:Base} {k:List Item} {env:Χ} {σ:List Row}
variable {ops:Array Oper} {i:Nat} {rest:List Nat} {op:Oper} {f:FuncId} {e:Array Value→Sem Value} {args:Array Operand} {vs:List Value}
def hG (P:Program) (Q:Value→Prop) (mn:Bool) (x:aR) (b:Frame) (cs:List Frame) (nt:Nat) (o:Base) (ops:Array Oper) (rest:List Nat) (k:List Item) (op:Oper) (env:Χ) (σ:List Row) (s φ:Nat) (π:aK) (v:Value):Prop:=
 V P Q mn (one {x with view:=upd x.view s (some (φ,π))}) b cs nt o (.inRegion ops rest::k) (b5 op env (.z v)) σ
def py (P:Program) (Q:Value→Prop) (mn:Bool) (x:aR) (b:Frame) (cs:List Frame) (nt:Nat) (o:Base) (ops:Array Oper) (rest:List Nat) (k:List Item) (op:Oper) (env:Χ) (σ:List Row) (s φ:Nat) (π:aK) (v:Value) (o':aK) (t':Tok):Prop:=
 Act π (x.tok s) o' t'∧∀cb,cb<φ→V P Q mn (one {x with tok:=upd x.tok s t',view:=upd x.view s (some (cb,o'))}) b cs nt o (.inRegion ops rest::k) (b5 op env (.z v)) σ
structure Seen (x:aR) (s:Nat) (sp:Spec) (φ:Nat) (π:aK):Prop where
 spec:π.toSpec=sp
 view:EC x s φ π
 iJ:tM π (x.tok s)
theorem V.ext (δ:eE x) {s:Nat} {sp:Spec} (bQ:x.spec s=some sp) (cM:¬fC (x.tok s)) (h:gC P b ops i op f e args env vs nt)
  (aS:∀(w:World) (φ:Nat) (π:aK),Seen x s sp φ π→At s π w→
   (∃v w' fQ,(e vs.toArray).run P w=.ok v w'∧(e vs.toArray).events P w #[⟨.mark (Mark.extern f),false,true⟩]=#[⟨.mark (Mark.extern f),false,true⟩]++fQ∧(∀y∈fQ,y.sync=true∧∀g,y.loc≠.mark (Mark.extern g))∧
    fe (fun Φ _=>dW s sp Φ) (fun _=>False) w w'∧nR s sp x.deaf fQ∧
    ((At s π w'∧hG P Q mn x b cs nt o ops rest k op env σ s φ π v)∨∃o' t',At s o' w'∧py P Q mn x b cs nt o ops rest k op env σ s φ π v o' t'))∨
   (jr π (x.tok s)∧(∀bj,bj≠s→ml (x.tok bj))∧(e vs.toArray).run P w=.halt .blocked w)) :
  V P Q mn (one x) b cs nt o (.inRegion ops (i::rest)::k) env σ:=by
 obtain⟨dL,Κ⟩:=h.call;refine .atomic δ bQ cM h.dst h.want fun t w φ π _ px hw R γ ο Ι=>?_;rcases aS w φ π ⟨R,ο,Ι⟩ γ with⟨v,w',fQ,a1,bg,cv,fK,ha,lx⟩|⟨a1,bg,cv⟩
 ·refine .inl ⟨v,w',fQ,C3 h.nm h.at_ hw Κ (px _ _ h.zw) a1 bg cv,fK,ha,lx.imp id fun⟨o',t',bI,dc,fB⟩=>⟨o',t',dc,bI,.inl (MF h.nm h.at_ Κ),fB⟩⟩
 ·exact .inr ⟨a1,bg,Wd h.nm h.at_ hw Κ (px _ _ h.zw) cv⟩
theorem qD (cn:Addr):∀y∈(#[⟨.cell cn,false,true⟩,⟨.cell cn,true,true⟩]:Array Event),y.loc=.cell cn∧y.sync=true:=by
 intro y Ο;simp at Ο;rcases Ο with rfl|rfl<;>exact⟨rfl,rfl⟩
theorem qE (cn:Addr) (wr:Bool):∀y∈(#[⟨.cell cn,wr,true⟩]:Array Event),y.loc=.cell cn∧y.sync=true:=by
 intro y Ο;simp at Ο;subst Ο;exact⟨rfl,rfl⟩
theorem qF {cn:Addr} {es:Array Event} (h:∀y∈es,y.loc=.cell cn∧y.sync=true):∀y∈es,y.sync=true∧∀g,y.loc≠.mark (Mark.extern g):=fun y Ο=>⟨(h y Ο).2,fun g e=>by rw[(h y Ο).1] at e;cases e⟩
structure w5 (π o':aK):Prop where
 aQ:o'.aQ=π.aQ
 g:cF o'=cF π
 w:o'.cz=π.cz
structure qG (π o':aK):Prop where
 aQ:o'.aQ=π.aQ
 g:mwd o'=mwd π
 w:o'.cR=π.cR
section
variable {s m:Nat} {sp:Spec} (δ:eE x) (hd:0<x.deaf) (bQ:x.spec s=some sp) (cM:¬fC (x.tok s))
include δ hd bQ cM
theorem V.C9 (hm:sp.aQ=some m) {old new:Int} (h:gC P b ops i op f (Extern.Atomic.casT (.int .i32)) args env [.pointer (some ⟨m,0,none⟩),.int .i32 old,.int .i32 new] nt)
  (zx:∀φ π,Seen x s sp φ π→¬mwd π=old→hG P Q mn x b cs nt o ops rest k op env σ s φ π (.bool false)∨∃t',py P Q mn x b cs nt o ops rest k op env σ s φ π (.bool false) π t')
  (dd:∀φ π,Seen x s sp φ π→mwd π=old→∃o' t',mwd o'=new∧o'.cR=π.cR∧w5 π o'∧py P Q mn x b cs nt o ops rest k op env σ s φ π (.bool true) o' t') :
  V P Q mn (one x) b cs nt o (.inRegion ops (i::rest)::k) env σ:=by
 refine .ext δ bQ cM h fun w φ π ξ bx=>.inl ?_;have c0:π.aQ=some m:=by rw[ξ.spec];exact hm
 have η:=bx.du c0
 have Ν:=bx.wX c0 0;by_cases hv:mwd π=old
 ·obtain⟨o',t',R,γ,ο,Ι⟩:=dd φ π ξ hv;subst hv;refine⟨.bool true,_,_,(congrArg (Sem.run P · w) (casT_eq _ _)).trans (run_cas_hit_entry η Ν),?_,qF (qD ⟨m,0,none⟩),bx.C8 c0 hm _,qC (.inr hm) hd (qD ⟨m,0,none⟩),.inr ⟨o',t',bx.C7 c0 ο.aQ ο.g ο.w ?_,Ι⟩⟩
  ·exact(congrArg (Sem.events P · w _) (casT_eq _ _)).trans ((events_cas_hit_entry η Ν _).trans rfl)
  ·rw[R,γ];rfl
 ·refine⟨.bool false,w,_,(congrArg (Sem.run P · w) (casT_eq _ _)).trans (run_cas_miss_entry η Ν hv),?_,qF (qE ⟨m,0,none⟩ false),fe.refl _ _ _,qC (.inr hm) hd (qE ⟨m,0,none⟩ false),?_⟩
  ·exact(congrArg (Sem.events P · w _) (casT_eq _ _)).trans ((events_cas_miss_entry η Ν hv _).trans rfl)
  ·exact(zx φ π ξ hv).imp (fun h=>⟨bx,h⟩) fun⟨t',h⟩=>⟨π,t',bx,h⟩
theorem V.MK (hm:sp.aQ=some m) {d:Int} (h:gC P b ops i op f (Extern.Atomic.update (Op.intArith .add) .i32 true) args env [.pointer (some ⟨m,0,none⟩),.int .i32 d] nt)
  (dd:∀φ π,Seen x s sp φ π→∃o' t',mwd o'=IntKind.i32.wrap (mwd π+d)∧o'.cR=π.cR∧w5 π o'∧py P Q mn x b cs nt o ops rest k op env σ s φ π (.int .i32 (mwd o')) o' t') :
  V P Q mn (one x) b cs nt o (.inRegion ops (i::rest)::k) env σ:=by
 refine .ext δ bQ cM h fun w φ π ξ bx=>.inl ?_;have c0:π.aQ=some m:=by rw[ξ.spec];exact hm
 have η:=bx.du c0
 have Ν:=bx.wX c0 0;obtain⟨o',t',R,γ,ο,Ι⟩:=dd φ π ξ;rw[R] at Ι;refine⟨_,_,_,run_add_entry η Ν,(events_add_entry η Ν _).trans rfl,qF (qD ⟨m,0,none⟩),bx.C8 c0 hm _,qC (.inr hm) hd (qD ⟨m,0,none⟩),.inr ⟨o',t',bx.C7 c0 ο.aQ ο.g ο.w ?_,Ι⟩⟩;rw[R,γ];rfl
theorem V.Hf (h:gC P b ops i op f (Extern.Atomic.loadT (.int .u64)) args env [.pointer (some ⟨s,0,none⟩)] nt)
  (dd:∀φ π,Seen x s sp φ π→hG P Q mn x b cs nt o ops rest k op env σ s φ π (.int .u64 (cF π))∨∃t',py P Q mn x b cs nt o ops rest k op env σ s φ π (.int .u64 (cF π)) π t') :
  V P Q mn (one x) b cs nt o (.inRegion ops (i::rest)::k) env σ:=by
 refine .ext δ bQ cM h fun w φ π ξ bx=>.inl ?_;have η:=bx.cH;refine⟨.int .u64 (cF π),w,#[⟨.cell ⟨s,0,none⟩,false,true⟩],?_,?_,qF (qE _ false),fe.refl _ _ _,qC (.inl rfl) hd (qE _ false),(dd φ π ξ).imp (fun h=>⟨bx,h⟩) fun⟨t',h⟩=>⟨π,t',bx,h⟩⟩
 ·change Sem.run P (do Extern.Atomic.read (.int .u64) (←asAddr (.pointer (some _)))) w=_;simp[Extern.Atomic.read,asAddr,η]
 ·change Sem.events P (do Extern.Atomic.read (.int .u64) (←asAddr (.pointer (some _)))) w _=_;simp[Extern.Atomic.read,asAddr,η,events_load]
theorem V.Wh {old new:Int} (h:gC P b ops i op f (Extern.Atomic.casT (.int .u64)) args env [.pointer (some ⟨s,0,none⟩),.int .u64 old,.int .u64 new] nt)
  (zx:∀φ π,Seen x s sp φ π→¬cF π=old→hG P Q mn x b cs nt o ops rest k op env σ s φ π (.bool false))
  (dd:∀φ π,Seen x s sp φ π→cF π=old→∃o' t',cF o'=new∧o'.cz=π.cz∧qG π o'∧py P Q mn x b cs nt o ops rest k op env σ s φ π (.bool true) o' t') :
  V P Q mn (one x) b cs nt o (.inRegion ops (i::rest)::k) env σ:=by
 refine .ext δ bQ cM h fun w φ π ξ bx=>.inl ?_;have η:=bx.cH;have Ν:=bx.tg 0;by_cases hv:cF π=old
 ·obtain⟨o',t',R,γ,ο,Ι⟩:=dd φ π ξ hv;subst hv;refine⟨.bool true,_,_,(congrArg (Sem.run P · w) (casT_eq _ _)).trans (run_cas_hit_entry η Ν),?_,qF (qD ⟨s,0,none⟩),bx.wZ _,qC (.inl rfl) hd (qD ⟨s,0,none⟩),.inr ⟨o',t',bx.wY ο.aQ ο.g ο.w ?_,Ι⟩⟩
  ·exact(congrArg (Sem.events P · w _) (casT_eq _ _)).trans ((events_cas_hit_entry η Ν _).trans rfl)
  ·rw[R,γ];rfl
 ·refine⟨.bool false,w,_,(congrArg (Sem.run P · w) (casT_eq _ _)).trans (run_cas_miss_entry η Ν hv),?_,qF (qE ⟨s,0,none⟩ false),fe.refl _ _ _,qC (.inl rfl) hd (qE ⟨s,0,none⟩ false),.inl ⟨bx,zx φ π ξ hv⟩⟩;exact(congrArg (Sem.events P · w _) (casT_eq _ _)).trans ((events_cas_miss_entry η Ν hv _).trans rfl)
theorem V.Hg {d:Int} (h:gC P b ops i op f (Extern.Atomic.update (Op.intArith .add) .u64 true) args env [.pointer (some ⟨s,0,none⟩),.int .u64 d] nt)
  (dd:∀φ π,Seen x s sp φ π→∃o' t',cF o'=IntKind.u64.wrap (cF π+d)∧o'.cz=π.cz∧qG π o'∧py P Q mn x b cs nt o ops rest k op env σ s φ π (.int .u64 (cF o')) o' t') :
  V P Q mn (one x) b cs nt o (.inRegion ops (i::rest)::k) env σ:=by
 refine .ext δ bQ cM h fun w φ π ξ bx=>.inl ?_;have η:=bx.cH;have Ν:=bx.tg 0;obtain⟨o',t',R,γ,ο,Ι⟩:=dd φ π ξ;rw[R] at Ι;refine⟨_,_,_,run_add_entry η Ν,(events_add_entry η Ν _).trans rfl,qF (qD ⟨s,0,none⟩),bx.wZ _,qC (.inl rfl) hd (qD ⟨s,0,none⟩),.inr ⟨o',t',bx.wY ο.aQ ο.g ο.w ?_,Ι⟩⟩;rw[R,γ];rfl
end
theorem ML {w:World} {cn:Addr} {n:Int} {vs:List Value} (δ:vs[0]?=some (.pointer (some cn))) (η:w.cell? cn=some (.int .u32 n)) (qh:n≠0) (Ν:w.frozen? cn=false):(Extern.Sync.semacquire vs.toArray).run P w=.ok (.tuple #[]) (w.setCell cn (.int .u32 (n-1))):=by
 simp[Extern.Sync.semacquire,Extern.Sync.count,δ,η,qh,Ν,Extern.Sync.none_,run_store P w cn (.int .u32 (n-1)) .atomic rfl,Result.andThen]
theorem MM {w:World} {cn:Addr} {n:Int} {vs:List Value} (δ:vs[0]?=some (.pointer (some cn))) (η:w.cell? cn=some (.int .u32 n)) (qh:n≠0) (Ν:w.frozen? cn=false) (es:Array Event):(Extern.Sync.semacquire vs.toArray).events P w es=es++semEvents cn:=by
 simp[Extern.Sync.semacquire,Extern.Sync.count,δ,η,qh,Ν,semEvents,events_load,events_store P w _ cn (.int .u32 (n-1)) .atomic rfl,run_store P w cn (.int .u32 (n-1)) .atomic rfl,Result.evThen];apply Array.ext';simp
theorem MN {w:World} {cn:Addr} {vs:List Value} (δ:vs[0]?=some (.pointer (some cn))) (η:w.cell? cn=some (.int .u32 0)):(Extern.Sync.semacquire vs.toArray).run P w=.halt .blocked w:=by
 simp[Extern.Sync.semacquire,Extern.Sync.count,δ,η]
theorem MO {w:World} {cn:Addr} {n:Int} {vs:List Value} (δ:vs[0]?=some (.pointer (some cn))) (η:w.cell? cn=some (.int .u32 n)) (Ν:w.frozen? cn=false):(Extern.Sync.semrelease vs.toArray).run P w=.ok (.tuple #[]) (w.setCell cn (.int .u32 (IntKind.u32.wrap (n+1)))):=by
 simp[Extern.Sync.semrelease,Extern.Sync.count,δ,η,Ν,Extern.Sync.none_,Op.intArith,run_store P w cn (.int .u32 (IntKind.u32.wrap (n+1))) .atomic rfl,Result.andThen]
theorem MP {w:World} {cn:Addr} {n:Int} {vs:List Value} (δ:vs[0]?=some (.pointer (some cn))) (η:w.cell? cn=some (.int .u32 n)) (Ν:w.frozen? cn=false) (es:Array Event):(Extern.Sync.semrelease vs.toArray).events P w es=es++semEvents cn:=by
 simp[Extern.Sync.semrelease,Extern.Sync.count,δ,η,Ν,semEvents,Op.intArith,events_load,events_store P w _ cn (.int .u32 (IntKind.u32.wrap (n+1))) .atomic rfl,run_store P w cn (.int .u32 (IntKind.u32.wrap (n+1))) .atomic rfl,Result.evThen];apply Array.ext';simp
theorem C' {s cU off d:Nat} {sp:Spec} (hb:dW s sp cU):nR s sp d (semEvents ⟨cU,off,none⟩):=by
 refine⟨by simp[deafBehind,semEvents],fun j y Ο=>?_⟩
 match j,Ο with
 | 0,Ο=>simp[semEvents] at Ο;subst Ο;exact .inl rfl
 | 1,Ο=>simp[semEvents] at Ο;subst Ο;exact .inr (.inr ⟨cU,off,false,rfl,hb,by simp[semEvents,deafBehind]⟩)
 | 2,Ο=>simp[semEvents] at Ο;subst Ο;exact .inr (.inr ⟨cU,off,true,rfl,hb,by simp[semEvents,deafBehind]⟩)
 | 3,Ο=>simp[semEvents] at Ο;subst Ο;exact .inr (.inl rfl)
 | j+4,Ο=>simp[semEvents] at Ο
section
variable {s m:Nat} {sp:Spec} (δ:eE x) (bQ:x.spec s=some sp) (cM:¬fC (x.tok s))
include δ bQ cM
theorem V.Wi (hm:sp.aQ=some m) (ae:vs[0]?=some (.pointer (some ⟨m,1,none⟩))) (cg:∀bj,bj≠s→ml (x.tok bj)) (h:gC P b ops i op f Extern.Sync.semacquire args env vs nt)
  (wait:∀φ π,Seen x s sp φ π→π.cR=0→jr π (x.tok s))
  (dd:∀φ π,Seen x s sp φ π→0<π.cR→∃o' t',mwd o'=mwd π∧o'.cR=π.cR-1∧w5 π o'∧py P Q mn x b cs nt o ops rest k op env σ s φ π (.tuple #[]) o' t') :
  V P Q mn (one x) b cs nt o (.inRegion ops (i::rest)::k) env σ:=by
 refine .ext δ bQ cM h fun w φ π ξ bx=>?_;have c0:π.aQ=some m:=by rw[ξ.spec];exact hm
 have η:=bx.eH c0;by_cases hv:π.cR=0
 ·exact .inr ⟨wait φ π ξ hv,cg,MN ae (by rw[η,hv];rfl)⟩
 ·obtain⟨o',t',R,γ,ο,Ι⟩:=dd φ π ξ (by omega);have Η:((π.cR:Nat):Int)≠0:=by omega
  refine .inl ⟨_,_,_,ML ae η Η (bx.wX c0 1),MM ae η Η (bx.wX c0 1) _,semEvents_sync _,bx.C8 c0 hm _,C' (.inr hm),.inr ⟨o',t',bx.C7 c0 ο.aQ ο.g ο.w ?_,Ι⟩⟩;rw[R,γ,show((π.cR:Nat):Int)-1=((π.cR-1:Nat):Int) by omega];rfl
theorem V.Wj (ae:vs[0]?=some (.pointer (some ⟨s,1,none⟩))) (cg:∀bj,bj≠s→ml (x.tok bj)) (h:gC P b ops i op f Extern.Sync.semacquire args env vs nt)
  (wait:∀φ π,Seen x s sp φ π→π.cz=0→jr π (x.tok s))
  (dd:∀φ π,Seen x s sp φ π→0<π.cz→∃o' t',cF o'=cF π∧o'.cz=π.cz-1∧qG π o'∧py P Q mn x b cs nt o ops rest k op env σ s φ π (.tuple #[]) o' t') :
  V P Q mn (one x) b cs nt o (.inRegion ops (i::rest)::k) env σ:=by
 refine .ext δ bQ cM h fun w φ π ξ bx=>?_;have η:=bx.Ξ;by_cases hv:π.cz=0
 ·exact .inr ⟨wait φ π ξ hv,cg,MN ae (by rw[η,hv];rfl)⟩
 ·obtain⟨o',t',R,γ,ο,Ι⟩:=dd φ π ξ (by omega);have Η:((π.cz:Nat):Int)≠0:=by omega
  refine .inl ⟨_,_,_,ML ae η Η (bx.tg 1),MM ae η Η (bx.tg 1) _,semEvents_sync _,bx.wZ _,C' (.inl rfl),.inr ⟨o',t',bx.wY ο.aQ ο.g ο.w ?_,Ι⟩⟩;rw[R,γ,show((π.cz:Nat):Int)-1=((π.cz-1:Nat):Int) by omega];rfl
theorem V.MQ (hm:sp.aQ=some m) (ae:vs[0]?=some (.pointer (some ⟨m,1,none⟩))) (h:gC P b ops i op f Extern.Sync.semrelease args env vs nt)
  (dd:∀φ π,Seen x s sp φ π→π.cR<1000∧∃o' t',mwd o'=mwd π∧o'.cR=π.cR+1∧w5 π o'∧py P Q mn x b cs nt o ops rest k op env σ s φ π (.tuple #[]) o' t') :
  V P Q mn (one x) b cs nt o (.inRegion ops (i::rest)::k) env σ:=by
 refine .ext δ bQ cM h fun w φ π ξ bx=>.inl ?_;have c0:π.aQ=some m:=by rw[ξ.spec];exact hm
 have η:=bx.eH c0;obtain⟨aE,o',t',R,γ,ο,Ι⟩:=dd φ π ξ;refine⟨_,_,_,MO ae η (bx.wX c0 1),MP ae η (bx.wX c0 1) _,semEvents_sync _,bx.C8 c0 hm _,C' (.inr hm),.inr ⟨o',t',bx.C7 c0 ο.aQ ο.g ο.w ?_,Ι⟩⟩;rw[R,γ,show IntKind.u32.wrap (((π.cR:Nat):Int)+1)=((π.cR+1:Nat):Int) by simp only[IntKind.wrap_u32];omega];rfl
end
end
end Go.TL
namespace Go.TL
open Go.Conc
open Go.ConcM (OsLater)
open Go.ConcN (sumTo upd sumTo_upd upd_ne upd_same sumTo_congr le_sumTo)
open Go.ConcR (mk)
variable [bd]
section
variable {P:Program} {T:a7} {Q:Value→Prop} {mn:Bool} {x:aR} {z:gy} {b:Frame} {cs:List Frame} {nt:Nat} {o:Base} {k:List Item} {env:Χ} {σ:List Row}
variable {ops:Array Oper} {i:Nat} {rest:List Nat} {op:Oper} {f:FuncId} {e:Array Value→Sem Value} {args:Array Operand} {vs:List Value} {fn:Func}
theorem l4 {S:aA} {B:aN} {l:List Value} {vs:Array Value} (h:fl S B σ (l.map θ.z) vs):vs=l.toArray:=by
 apply Array.ext';apply List.ext_getElem?;intro i;have R:=h.1;rw[List.length_map] at R;by_cases hi:i<l.length
 ·have Ε:(l.map θ.z)[i]?=some (.z l[i]):=by rw[List.getElem?_map,bc hi];rfl
  have Δ:vs[i]?=some vs[i]:=eY (by omega)
  have:=h.2 i _ _ Ε Δ
  have:vs[i]=l[i]:=by generalize vs[i]=u at this;cases this;rfl
  rw[Array.getElem?_toList,Δ,this];simp[hi]
 ·rw[Array.getElem?_toList,Array.getElem?_eq_none (by omega)];simp;omega
theorem V.call (δ:Seq z) (bO:l3 b ops i op) (hw:fp env ops op=some true) {y:Operand} {dL:Array TypeId} (Κ:op.op=.call ⟨.value y,args,dL⟩) {g:FuncId} {first captured:List θ} (Ρ:aL env y=.fn (.func g) first captured) (Τ:Plain P g)
  (h:∀(S:aA) (B:aN) (H:ψ) (t:Array Value) (vs:Array Value),eO o.m o.S o.B o.H o.σ S B H σ→fj o.m nt S B H σ env t→fl S B σ (first++args.toList.map (aL env)++captured) vs→
   aJ P Q mn z (Frame.enter P g vs .normal) (ao b t (.inRegion ops (i::rest)::k)::cs) H):V P Q mn z b cs nt o (.inRegion ops (i::rest)::k) env σ:=by
 intro S B H t μ χ;refine .op δ bO.run bO.op (jx χ.cj hw) (.inr fun c=>by rw[Κ];simp) ?_;have e:execOp (bk t) op=(do let d ←Deferred.ofValue (bk t y) (args.map (bk t));invoke d.target d.args):=by unfold execOp;rw[Κ];rfl
 rw[e];have bR:=kW χ.cj y;have lM:=GM χ.cj args;rw[Ρ] at bR;generalize bk t y=ai at bR;cases bR with
 | fn v1 v2 R γ ο Ι=>
  refine ς.bind' (ς.pure' ?_);obtain⟨fn,b',kj,Ci⟩:=Τ;unfold invoke;simp only;unfold callFunc;refine ς.bind' ?_;show ς P (match P.funcs[g]? with|none=>_|some fn=>_) H _ _;rw[b'];simp only[kj,Ci,Bool.false_eq_true,if_false];refine ς.pure' ?_;have r1:fl S B σ first v1:=⟨R,ο⟩
  have r2:fl S B σ captured v2:=⟨γ,Ι⟩;exact h S B H t _ μ χ ((r1.append lM).append r2)
theorem V.pz {g:FuncId} {body:Code} (b':P.funcs[g]?=some fn) (mC:fn.body=some body) {c:Frame} {S:aA} {B:aN} {H:ψ} (Α:Holds S B σ H) (Η:vs.length≤fn.ntmps)
  (h:V P Q mn z (Frame.enter P g vs.toArray .normal) (c::cs) fn.ntmps ⟨S,[],H,[],0⟩ [.code body] (entry 0 (vs.map θ.z)) []):aJ P Q mn z (Frame.enter P g vs.toArray .normal) (c::cs) H:=by
 rw[pj b' mC];refine h.here (fj.enter Α.bare ⟨by simp,fun i a v R γ=>?_⟩ (Nat.le_refl _) (by simpa using Η));simp only[List.getElem?_map,List.getElem?_toArray] at R γ;rw[γ] at R;cases R;exact .z v
theorem V.Hh (δ:Seq z) (hb:b.mode=.run) (b7:b.roundOf=none) (et:b.defers=[]) (gu:b.kind=.normal) (b':P.funcs[b.fn]?=some fn) (eL:fn.results=#[]) {c:Frame}
  (h:∀(S:aA) (B:aN) (H:ψ),eO o.m o.S o.B o.H o.σ S B H σ→Holds S B σ H→aJ P Q mn z (c.finish (.tuple #[])) cs H):V P Q mn z b (c::cs) nt o (.code .ret::k) env σ:=by
 intro S B H t μ χ;refine .ret δ hb b7 (.back δ rfl et (.inl gu) b' ?_);rw[results_none eL];exact ς.pure' (h S B H μ χ.holds)
theorem V.Da (δ:Seq z) (hb:b.mode=.run) (b7:b.roundOf=none) (et:b.defers=[]) (gu:b.kind=.normal) (b':P.funcs[b.fn]?=some fn) (eL:fn.results=#[]) {c:Frame}
  (h:∀(S:aA) (B:aN) (H:ψ),eO o.m o.S o.B o.H o.σ S B H σ→Holds S B σ H→aJ P Q mn z (c.finish (.tuple #[])) cs H):V P Q mn z b (c::cs) nt o [] env σ:=by
 intro S B H t μ χ;refine .rb δ hb b7 (.back δ rfl et (.inl gu) b' ?_);rw[results_none eL];exact ς.pure' (h S B H μ χ.holds)
theorem V.rX (δ:Seq z) (hb:b.mode=.run) (b7:b.roundOf=none) (et:b.defers=[]) (gu:b.kind=.normal) (b':P.funcs[b.fn]?=some fn) {d:Nat} (eL:fn.results=#[.tmp d]) {v:Value} (hv:a5 env d=.z v) {c:Frame}
  (h:∀(S:aA) (B:aN) (H:ψ),eO o.m o.S o.B o.H o.σ S B H σ→Holds S B σ H→aJ P Q mn z (c.finish v) cs H):V P Q mn z b (c::cs) nt o (.code .ret::k) env σ:=by
 intro S B H t μ χ;refine .ret δ hb b7 (.back δ rfl et (.inl gu) b' ?_);have e:results fn t=pure (t.getD d undef):=by unfold results;rw[eL];simp
 have kP:t.getD d undef=v:=by
  have:=χ.cj d;rw[hv] at this;generalize t.getD d undef=u at this;cases this;rfl
 show ς P (results fn t) H _ _;rw[e,kP];exact ς.pure' (h S B H μ χ.holds)
theorem Wk {w:World} {ty:TypeId} {kd:IntKind} (hu:P.underlying ty=some (.int kd)) {cn:Addr} {v:Value} (η:w.cell? cn=some v):(Instr.loadAt ty (.pointer (some cn))).run P w=.ok v w∧(Instr.loadAt ty (.pointer (some cn))).events P w #[]=#[⟨.cell cn,false,false⟩]:=by
 constructor
 ·simp[Instr.loadAt,Instr.sureAddr,loadVar,isAgg,run_underlying hu,η,Result.andThen]
 ·simp[Instr.loadAt,Instr.sureAddr,loadVar,isAgg,run_underlying hu,η,events_load,Result.evThen]
theorem Wl {t:Array Value} {w:World} (bO:l3 b ops i op) (hw:Region.wanted op (yielded ops t)=true) {ty:TypeId} {y:Operand} (Κ:op.op=.load ty y) {kd:IntKind} (hu:P.underlying ty=some (.int kd)) {cn:Addr} (Ο:bk t y=.pointer (some cn)) {v:Value} (η:w.cell? cn=some v) (Υ:(P.funcs[b.fn]?).any (·.norace)=true) :
  stepG P mn (Go.Conc.G (ao b t (.inRegion ops (i::rest)::k)) cs) w=.go (Go.Conc.G (ao b (put op t v) (.inRegion ops rest::k)) cs) w #[]:=by
 obtain⟨r1,r2⟩:=Wk (P:=P) hu η;have e:execOp (bk t) op=(do pure (.value (←Instr.loadAt ty (.pointer (some cn))))):=by unfold execOp;rw[Κ,←Ο]
 rw[gf bO.run bO.ro,gf bO.run bO.ro,←te];have κ:(execOp (⟨t,b.defers⟩:_root_.Go.Act).eval op).run P w=.ok (.value v) w:=by rw[k',e];simp[r1,Result.andThen]
 have he:(execOp (⟨t,b.defers⟩:_root_.Go.Act).eval op).events P w #[]=#[⟨.cell cn,false,false⟩]:=by rw[k',e];simp[r1,r2,Result.evThen]
 rw[stepG_value bO.op hw bO.kd κ];unfold listed;rw[he,seen_def,Υ];simp[seenStep]
section
variable {s:Nat} {sp:Spec} (δ:eE x) (bQ:x.spec s=some sp) (cM:¬fC (x.tok s))
include δ bQ cM
theorem V.w6 (bO:l3 b ops i op) (hd:hB nt op=true) (hw:fp env ops op=some true) {ty:TypeId} {y:Operand} (Κ:op.op=.load ty y) {kd:IntKind} (hu:P.underlying ty=some (.int kd)) {cn:Addr} (Ο:aL env y=.z (.pointer (some cn))) (Υ:(P.funcs[b.fn]?).any (·.norace)=true)
  (val:aK→Int) (η:∀(π:aK) (w:World),π.toSpec=sp→At s π w→w.cell? cn=some (.int kd (val π)))
  (dd:∀φ π,Seen x s sp φ π→hG P Q mn x b cs nt o ops rest k op env σ s φ π (.int kd (val π))∨∃t',py P Q mn x b cs nt o ops rest k op env σ s φ π (.int kd (val π)) π t') :
  V P Q mn (one x) b cs nt o (.inRegion ops (i::rest)::k) env σ:=by
 refine .atomic δ bQ cM hd hw fun t w φ π dm _ p0 R γ ο Ι=>.inl ?_;refine⟨.int kd (val π),w,#[],Wl bO p0 Κ hu (dm _ _ Ο) (η π w R γ) Υ,fe.refl _ _ _,MJ,?_⟩;exact(dd φ π ⟨R,ο,Ι⟩).imp (fun h=>⟨γ,h⟩) fun⟨t',ay,a6⟩=>⟨π,t',ay,γ,.inr rfl,a6⟩
theorem V.conv (bO:l3 b ops i op) (hd:hB nt op=true) (hw:fp env ops op=some true) {src dst t0:TypeId} {y:Operand} (Κ:op.op=.convert src dst y) (ξ:P.underlying src=some (.pointer t0)) (uf:P.underlying dst=some .unsafePointer) (cd:(P.info? t0).map (fun i=>decide (i.size=0))=some false) {cn:Addr} (Ο:aL env y=.z (.pointer (some cn)))
  (η:∀(π:aK) (w:World),π.toSpec=sp→At s π w→∃v,w.cell? cn=some v)
  (dd:∀φ π,Seen x s sp φ π→hG P Q mn x b cs nt o ops rest k op env σ s φ π (.pointer (some cn))) :
  V P Q mn (one x) b cs nt o (.inRegion ops (i::rest)::k) env σ:=by
 refine .atomic δ bQ cM hd hw fun t w φ π dm _ p0 R γ ο Ι=>.inl ?_;obtain⟨v,hv⟩:=η π w R γ;refine⟨.pointer (some cn),w,#[],?_,fe.refl _ _ _,MJ,.inl ⟨γ,dd φ π ⟨R,ο,Ι⟩⟩⟩;have r1:=run_convert_to_unsafe (P:=P) ξ uf cd hv;have r2:=events_convert_to_unsafe (P:=P) ξ uf cd hv #[];have e:execOp (bk t) op=(do pure (.value (←convert src dst (.pointer (some cn))))):=by unfold execOp;rw[Κ,←dm _ _ Ο]
 rw[gf bO.run bO.ro,gf bO.run bO.ro,←te];have κ:(execOp (⟨t,b.defers⟩:_root_.Go.Act).eval op).run P w=.ok (.value (.pointer (some cn))) w:=by rw[k',e];simp[r1,Result.andThen]
 have he:(execOp (⟨t,b.defers⟩:_root_.Go.Act).eval op).events P w #[]=#[]:=by rw[k',e];simp[r1,r2,Result.evThen]
 rw[stepG_value bO.op p0 bO.kd κ];unfold listed;rw[he,seen_none]
end
theorem Wm (w:World):OsLater w.os w.later.os:=⟨w.tick,rfl⟩
theorem dz.later {H:ψ} {w:World} (h:Fits H w):dz H w H w.later #[]:=
 ⟨⟨h.aF,h.row,h.obj⟩,⟨Nat.le_refl _,fun b c t dC hb=>⟨c,hb,rfl,fun _ _=>rfl⟩,fun b x hb _ _=>hb,Wm w,rfl,rfl⟩,⟨fun b o v p h=>.inr ⟨v,p,h,id⟩,fun b h=>.inr h⟩,fun e he=>by simp at he⟩
theorem V.nano (δ:Seq z) (h:gC P b ops i op f Extern.OsHooks.nano args env vs nt) (Υ:(P.funcs[f]?).any (·.norace)=true) (υ:∀τ:Int,V P Q mn z b cs nt o (.inRegion ops rest::k) (b5 op env (.z (.int .i64 τ))) σ):V P Q mn z b cs nt o (.inRegion ops (i::rest)::k) env σ:=by
 intro S B H t μ χ;obtain⟨fn,R,γ,ο,Ι,ay⟩:=h.nm;obtain⟨dL,Κ⟩:=h.call;rw[R] at Υ;refine aJ.own δ fun w Ρ=>⟨_,_,_,_,H,?_,dz.later Ρ,υ ((w.os.mono+w.tick:Nat):Int) S B H _ μ (χ.put h.dst (.z _))⟩;rw[gf h.at_.run h.at_.ro,stepG_nanotime (a:=⟨t,b.defers⟩) h.at_.op (jx χ.cj h.want) h.at_.kd Κ R γ ο Ι ay (by simpa using Υ),te,←gf h.at_.run h.at_.ro]
theorem V.canSpin (δ:Seq z) {n:Int} (h:gC P b ops i op f Extern.Sync.canSpin args env [.int .i64 n] nt) (υ:∀y:Bool,(y=true→n<4)→V P Q mn z b cs nt o (.inRegion ops rest::k) (b5 op env (.z (.bool y))) σ):V P Q mn z b cs nt o (.inRegion ops (i::rest)::k) env σ:=by
 intro S B H t μ χ;obtain⟨fn,R,γ,ο,Ι,ay⟩:=h.nm;obtain⟨dL,Κ⟩:=h.call;have g8:args.map (⟨t,b.defers⟩:_root_.Go.Act).eval=#[.int .i64 n]:=by rw[k'];exact h.zw.bk χ.cj
 by_cases a6:n<4
 ·refine aJ.own δ fun w Ρ=>⟨_,_,_,_,H,?_,(dz.start Ρ).draw (w.drawn+1),υ w.spins (fun _=>a6) S B H _ μ (χ.put h.dst (.z _))⟩;rw[gf h.at_.run h.at_.ro,stepG_canSpin_ask (a:=⟨t,b.defers⟩) h.at_.op (jx χ.cj h.want) h.at_.kd Κ R γ ο Ι ay g8 a6,te,←gf h.at_.run h.at_.ro];rfl
 ·refine aJ.own δ fun w Ρ=>⟨_,_,w,#[],H,?_,dz.start Ρ,υ false (fun h=>by cases h) S B H _ μ (χ.put h.dst (.z _))⟩;rw[gf h.at_.run h.at_.ro,stepG_canSpin_no (a:=⟨t,b.defers⟩) h.at_.op (jx χ.cj h.want) h.at_.kd Κ R γ ο Ι ay g8 (by omega),te,←gf h.at_.run h.at_.ro]
theorem V.Db (δ:Seq z) {v:Value} (h:gC P b ops i op f (fun _=>pure v) args env vs nt) (υ:V P Q mn z b cs nt o (.inRegion ops rest::k) (b5 op env (.z v)) σ):V P Q mn z b cs nt o (.inRegion ops (i::rest)::k) env σ:=
 fun S B H t μ χ=>aJ.own δ fun w Ρ=>⟨_,_,w,#[],H,h.step χ.cj (by simp) (by simp) (by simp),dz.start Ρ,υ S B H _ μ (χ.put h.dst (.z v))⟩
theorem V.Hi (δ:Seq z) (bO:l3 b ops i op) (hw:fp env ops op=some true) (qn:op.dst=none) {dL:Array TypeId} (Κ:op.op=.defer ⟨.value (.func f),#[],dL⟩)
  (h:V P Q mn z {b with defers:=Go.Conc.dcall f #[]::b.defers} cs nt o (.inRegion ops rest::k) env σ):V P Q mn z b cs nt o (.inRegion ops (i::rest)::k) env σ:=by
 intro S B H t μ χ;have L5:put op t undef=t:=by unfold put;rw[qn]
 refine aJ.still δ (f':=ao {b with defers:=Go.Conc.dcall f #[]::b.defers} t (.inRegion ops rest::k)) (cs':=cs) (fun w=>?_) (h S B H t μ χ);rw[gf bO.run bO.ro,stepG_defer (a:=⟨t,b.defers⟩) bO.op (jx χ.cj hw) bO.kd Κ];have:(⟨t,Go.Conc.dcall f #[]::b.defers⟩:_root_.Go.Act).put op.dst undef=⟨t,Go.Conc.dcall f #[]::b.defers⟩:=by rw[qn];rfl
 simp only[Array.map_empty,List.map_toArray,List.map_nil];rw[this,gf (b:={b with defers:=Go.Conc.dcall f #[]::b.defers}) bO.run bO.ro];rfl
theorem cf.Wn (δ:eE x) (hd:0<x.deaf) (hb:b.mode=.run) (b7:b.roundOf=none) {ds:List Deferred} (et:b.defers=Go.Conc.dcall f #[]::ds) (he:Entry P f (fun _=>do mark .enable;pure Extern.Race.none_)) {H:ψ} {t:Array Value}
  (h:cf P Q mn {x with deaf:=x.deaf-1} {ao {b with defers:=ds} t k with mode:=.returning} cs H):cf P Q mn x {ao b t k with mode:=.returning} cs H:=by
 obtain⟨fn,R,γ,ο,Ι,ay⟩:=he;refine Goes.step δ.ok (.inr ⟨⟨rfl,rfl⟩,.inr (.inl ⟨Go.Conc.G {ao {b with defers:=ds} t k with mode:=.returning} cs,⟨rfl,rfl⟩,.inr ⟨hd,fun w _=>⟨?_,h⟩⟩⟩)⟩);rw[gf hb b7,gf (b:={b with defers:=ds}) hb b7];exact stepG_unwind_entry (a:=⟨t,b.defers⟩) (v:=.tuple #[]) et R γ ο Ι ay (C5 .enable) (C6 .enable _) (qB (by simp))
end
inductive Quiet (P:Program) (mn:Bool):Goroutine→Goroutine→Prop where
 | nil (g:Goroutine):Quiet P mn g g
 | cons {g g' MR:Goroutine}:h1 g→(∀w,stepG P mn g w=.go g' w #[])→Quiet P mn g' MR→Quiet P mn g MR
section
variable {P:Program} {Q:Value→Prop} {mn:Bool} {x:aR} {g g':Goroutine}
theorem Quiet.runs (h:Quiet P mn g g') (κ:h1 g'):h1 g:=by
 cases h with
 | nil=>exact κ
 | cons R=>exact R
theorem Quiet.goes (h:Quiet P mn g g') (δ:eE x) (κ:h1 g') (Τ:Goes P Q mn g' x):Goes P Q mn g x:=by
 induction h with
 | nil=>exact Τ
 | cons R γ ο Γ=>
  refine Goes.step δ.ok (.inr ⟨R,.inl fun w Ρ hv=>?_⟩);rw[γ w];refine⟨x.G,x.aC,ο.runs κ,fe.refl _ _ _,Ρ,hv,⟨fun b o v p h=>.inr ⟨v,p,h,id⟩,fun b h=>.inr h⟩,fun b c h=>.inl h,fun e he=>by simp at he,fun b c _ _ e he=>by simp at he,Γ κ Τ⟩
end
end Go.TL
namespace Go.TL
open Go.Conc Go.Proofs
variable [bd]
def rY (P:Program) (Q:Value→Prop) (mn:Bool) (x:gy) (b:Frame) (cs:List Frame) (nt:Nat) (o:Base) (L:Nat) (r:Loop) (k:List Item) (env:Χ) (σ:List Row):Prop:=
 ∀(S:aA) (B:aN) (H:ψ) (t:Array Value),eO o.m o.S o.B o.H o.σ S B H σ→fj o.m nt S B H σ env t→¬B.has L→H.obj L=some (.loop r)→aJ P Q mn x (ao b t k) cs H
theorem pA {S au:aA} {B B':aN} {H H':ψ} (he:Ext S B H au B' H') {L:Nat} {y:Obj} (Η:¬B.has L) (aD:H.obj L=some y):¬B'.has L∧H'.obj L=some y:=by
 have Ρ:¬H.fresh L:=fun h=>by rw[h.2.2.1] at aD;cases aD
 exact⟨fun h=>(he.blocks L h).elim Η Ρ,by rw[(he.ft L Η Ρ).2.2];exact aD⟩
theorem Wo {H:ψ} {L:Nat} {y:Obj} (aD:H.eQ L):∀b,(H.bD L y).fresh b↔H.fresh b:=by
 obtain⟨z,Ν⟩:=aD;have key:∀b,((H.bD L y).obj b=none↔H.obj b=none):=fun b=>by
  by_cases e:b=L
  ·subst e;simp[ψ.bD,Ν]
  ·simp[ψ.bD,e]
 exact fun b=>⟨fun h=>⟨h.1,h.2.1,(key b).1 h.2.2.1,fun Φ hb=>⟨(h.2.2.2 Φ hb).1,(h.2.2.2 Φ hb).2.1,(key Φ).1 (h.2.2.2 Φ hb).2.2⟩⟩,
  fun h=>⟨h.1,h.2.1,(key b).2 h.2.2.1,fun Φ hb=>⟨(h.2.2.2 Φ hb).1,(h.2.2.2 Φ hb).2.1,(key Φ).2 (h.2.2.2 Φ hb).2.2⟩⟩⟩
theorem Holds.bD {S:aA} {B:aN} {σ:List Row} {H:ψ} {L:Nat} {y:Obj} (Α:Holds S B σ H) (Η:¬B.has L):Holds S B σ (H.bD L y):=by
 have aU:∀b,b≠L→jR H (H.bD L y) b:=fun b hb=>⟨fun _=>rfl,rfl,by simp[ψ.bD,hb]⟩
 have ne:∀(id b N:Nat),B[id]?=some (some (b,N))→b≠L:=fun id b N h e=>Η (e▸n3 h);refine⟨Α.c6,Α.len,fun id r bo κ eM=>?_,Α.inj,Α.sep⟩;by_cases e4:r.live
 ·refine(Α.row id r bo κ eM).later (b0.refl S B σ) (fun b N e=>aU b (ne id b N (by rw[eM,e]))) fun m left cur e=>⟨rfl,rfl,fun b N hb=>aU b (ne m b N hb)⟩
 ·cases r<;>first|exact absurd trivial e4|trivial
theorem Ext.bD {e3 S:aA} {eg B:aN} {dE H:ψ} {L:Nat} {y:Obj} (he:Ext e3 eg dE S B H) (Ρ:dE.fresh L) (aD:H.eQ L):Ext e3 eg dE S B (H.bD L y):=by
 refine⟨he.c6,fun b hb n5=>?_,he.blocks,he.qa,fun b hb=>he.grow b ((Wo aD b).1 hb)⟩;have:b≠L:=fun e=>n5 (e▸Ρ);obtain⟨R,γ,ο⟩:=he.ft b hb n5;exact⟨R,γ,by simp[ψ.bD,this,ο]⟩
section
variable {P:Program} {T:a7} {Q:Value→Prop} {mn:Bool} {x:gy} {b:Frame} {cs:List Frame} {nt:Nat} {o:Base} {L:Nat} {r:Loop} {k:List Item} {env:Χ} {σ:List Row}
theorem rY.a' (δ:Seq x) (hb:b.mode=.run) (h:W P o.m nt k env σ (rY P Q mn x b cs nt o L r) (fun _ _ _=>False)):rY P Q mn x b cs nt o L r k env σ:=
 fun S B H t μ χ ks aD=>h Q mn x cs b S B H t δ hb χ (fun j env' σ' au B' H' t' Ω Ν dV fP ω=>by
  have e:Ω=j:=ω;subst e;obtain⟨R,γ⟩:=pA dV.ext ks aD;exact Ν au B' H' t' (μ.trans dV) fP R γ) (fun a env' σ' au B' H' t' Ω v he=>he.elim)
theorem rY.yield (δ:Seq x) {ops:Array Oper} {i:Nat} {rest:List Nat} {op:Oper} (bO:l3 b ops i op) (hw:fp env ops op=some true) {y:Operand} {args:Array Operand} {dL:Array TypeId} (Κ:op.op=.call ⟨.value y,args,dL⟩) (Ρ:aL env y=.fn (.yield L) [] []) (cd:args.size=r.params.size)
  (h:∀(S:aA) (B:aN) (H:ψ) (t:Array Value) (vs:Array Value),eO o.m o.S o.B o.H o.σ S B H σ→fj o.m nt S B H σ env t→¬B.has L→H.obj L=some (.loop r)→fl S B σ (args.toList.map (aL env)) vs→
   aJ P Q mn x (Frame.round L r.fn ((r.params.zip vs).foldl (fun tmps (t,a)=>tmps.setIfInBounds t a) r.tmps) r.assign r.body .normal) (ao b t (.inRegion ops (i::rest)::k)::cs) H):rY P Q mn x b cs nt o L r (.inRegion ops (i::rest)::k) env σ:=by
 intro S B H t μ χ ks aD;refine aJ.op δ bO.run bO.op (jx χ.cj hw) (.inr fun c=>by rw[Κ];simp) ?_;have e:execOp (bk t) op=(do let d ←Deferred.ofValue (bk t y) (args.map (bk t));invoke d.target d.args):=by unfold execOp;rw[Κ];rfl
 rw[e];have bR:=kW χ.cj y;have lM:=GM χ.cj args;rw[Ρ] at bR;generalize bk t y=ai at bR;cases bR with
 | fn v1 v2 R γ ο Ι=>
  have Ε:v1=#[]:=Array.eq_empty_of_size_eq_zero (by rw[←R];rfl)
  have Δ:v2=#[]:=Array.eq_empty_of_size_eq_zero (by rw[←γ];rfl);subst Ε;subst Δ;refine ς.bind' (ς.pure' ?_);have vM:invoke (Target.fn (Fn.yield L) #[]) (#[]++args.map (bk t))=Instr.yield L (args.map (bk t)):=by simp[invoke]
  show ς P (invoke (Target.fn (Fn.yield L) #[]) (#[]++args.map (bk t))) H _ _;rw[vM];unfold Instr.yield;refine ς.bind' (ς.getLoop aD ?_);rw[if_neg (by simp[cd])];refine ς.bind' (ς.pure' (ς.pure' ?_));exact h S B H t _ μ χ ks aD lM
end
end Go.TL
namespace Go.TL
open Go.Conc Go.Proofs
def pB (n:Nat) (l:List Nat):Nat→Option Nat
 | 0=>none
 | e+1=>if l.getD e 0+l.length=n+e then pB n l e else some e
def l5 (l:List Nat) (i:Nat) (k:Nat):List Nat:=l.take i++((List.range k).map fun j=>l.getD i 0+1+j)++l.drop (i+k)
def pC (n:Nat) (l:List Nat):Option (List Nat):=(pB n l l.length).map fun i=>l5 l i (l.length-i)
def nC (n:Nat):Nat→List Nat→List (List Nat)
 | 0,l=>[l]
 | f+1,l=>l::match pC n l with|none=>[]|some m=>nC n f m
def pD (n:Nat):Nat→List Nat→Bool
 | 0,l=>l.all (· < n)&&(pC n l).isNone
 | f+1,l=>l.all (· < n)&&match pC n l with|none=>true|some m=>pD n f m
def jY (n c:Nat):List (List Nat):=(List.range' c (n+1-c)).flatMap fun m=>nC n 300 (List.range m)
theorem Wp:∀n<11,∀m<n+1,pD n 300 (List.range m)=true:=by decide +kernel
theorem Wq {n c:Nat} (h:c<n+1):jY n c=nC n 300 (List.range c)++jY n (c+1):=by
 unfold jY;have:n+1-c=(n+1-(c+1))+1:=by omega
 rw[this,List.range'_succ,List.flatMap_cons]
theorem Wr {n:Nat}:jY n (n+1)=[]:=by simp[jY]
theorem Ws {n f:Nat} {l:List Nat} (h:pD n f l=true):∀x∈l,x<n:=by
 cases f<;>simp only[pD,Bool.and_eq_true,List.all_eq_true,decide_eq_true_eq] at h<;>exact h.1
theorem Wt {n f:Nat} {l:List Nat} (h:pC n l=none):nC n f l=[l]:=by
 cases f<;>simp[nC,h]
theorem Wu {n f:Nat} {l m:List Nat} (Β:pD n f l=true) (h:pC n l=some m):∃g,f=g+1∧nC n f l=l::nC n g m∧pD n g m=true:=by
 cases f with
 | zero=>simp[pD,h] at Β
 | succ g=>exact⟨g,rfl,by simp[nC,h],by simp[pD,h] at Β;exact Β.2⟩
theorem MS {l:List Nat} {i k:Nat} (h:i+k≤l.length):(l5 l i k).length=l.length:=by simp[l5];omega
theorem Wv {l:List Nat} {i:Nat} (h:i<l.length):l5 l i 1=l.set i (l[i]+1):=by
 unfold l5;rw[List.set_eq_take_append_cons_drop,if_pos h];simp[h]
theorem Ww {l:List Nat} {i k:Nat} (υ:0<k) (h:i+k≤l.length):(l5 l i k).getD (i+k-1) 0=l.getD i 0+k:=by
 unfold l5;have Ε:(l.take i).length=i:=by simp;omega
 rw[List.getD_eq_getElem?_getD,List.append_assoc,hr (by omega),Ε,dU (by simp;omega)];have:i+k-1-i=k-1:=by omega
 rw[this,List.getElem?_map,List.getElem?_range (by omega)];simp;omega
theorem Wx {l:List Nat} {i k:Nat} (h:i+k<l.length):(l5 l i k).set (i+k) (l.getD i 0+k+1)=l5 l i (k+1):=by
 unfold l5;have Ε:(l.take i++(List.range k).map fun j=>l.getD i 0+1+j).length=i+k:=by simp;omega
 rw[List.set_append_right _ _ (by omega),Ε,Nat.sub_self,List.range_succ,List.map_append];have Δ:l.drop (i+k)=l[i+k]::l.drop (i+k+1):=List.drop_eq_getElem_cons h;rw[Δ,List.set_cons_zero];simp;constructor<;>omega
end Go.TL
