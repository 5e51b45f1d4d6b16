import Derived.Conc.QuitsD
import Derived.Conc.SmallLaws
import Derived.Test.YtlabjopijpkiaaaGreatQAT
set_option maxHeartbeats 16000000
set_option maxRecDepth 20000
set_option linter.unusedSectionVars false
set_option linter.unusedSimpArgs false
set_option linter.unusedVariables false
namespace Go.TL
open Go.Conc
open Go.ConcM (OsLater)
open Go.ConcN (sumTo upd sumTo_upd upd_ne upd_same sumTo_congr le_sumTo)
variable [bh]
section
variable {P:Program} {Q:Value->Prop} {mn:Bool} {x:aK} {b:Frame} {cs:List Frame} {nt:Nat} {o:Base} {k:List Item} {env:Φ} {σ:List Row}
variable {ops:Array Oper} {i:Nat} {rest:List Nat} {op:Oper} {f:FuncId} {e:Array Value->Sem Value} {args:Array Operand} {vs:List Value}
def g8 (P:Program) (Q:Value->Prop) (mn:Bool) (x:aK) (b:Frame) (cs:List Frame) (nt:Nat) (o:Base) (ops:Array Oper) (rest:List Nat) (k:List Item) (op:Oper) (env:Φ) (σ:List Row) (s φ:Nat) (ο:aD) (v:Value):Prop:=
 V P Q mn (one {x with view:=upd x.view s (some (φ,ο))}) b cs nt o (.inRegion ops rest::k) (bX op env (.z v)) σ
def oK (P:Program) (Q:Value->Prop) (mn:Bool) (x:aK) (b:Frame) (cs:List Frame) (nt:Nat) (o:Base) (ops:Array Oper) (rest:List Nat) (k:List Item) (op:Oper) (env:Φ) (σ:List Row) (s φ:Nat) (ο:aD) (v:Value) (o':aD) (t':Tok):Prop:=
 Act ο (x.tok s) o' t'/\∀b1,b1<φ->V P Q mn (one {x with tok:=upd x.tok s t',view:=upd x.view s (some (b1,o'))}) b cs nt o (.inRegion ops rest::k) (bX op env (.z v)) σ
structure Seen (x:aK) (s:Nat) (sp:Spec) (φ:Nat) (ο:aD):Prop where
 spec:ο.toSpec=sp
 view:Dr x s φ ο
 ie:sV ο (x.tok s)
theorem V.ext (U:eu x) {s:Nat} {sp:Spec} (bF:x.spec s=some sp) (cG:¬fi (x.tok s)) (h:gd P b ops i op f e args env vs nt)
  (aN:∀(w:World) (φ:Nat) (ο:aD),Seen x s sp φ ο->dF s ο w->
   (∃v w' fx,(e vs.toArray).run P w=.ok v w'/\(e vs.toArray).events P w #[⟨.mark (Mark.extern f),false,true⟩]=#[⟨.mark (Mark.extern f),false,true⟩]++fx/\(∀y∈fx,y.sync=true/\∀g,y.loc≠.mark (Mark.extern g))/\
    e0 (λΡ _=>dS s sp Ρ) (λ_=>False) w w'/\m9 s sp x.deaf fx/\
    ((dF s ο w'/\g8 P Q mn x b cs nt o ops rest k op env σ s φ ο v)\/∃o' t',dF s o' w'/\oK P Q mn x b cs nt o ops rest k op env σ s φ ο v o' t'))\/
   (iU ο (x.tok s)/\(∀a7,a7≠s->lU (x.tok a7))/\(e vs.toArray).run P w=.halt .blocked w)) :
  V P Q mn (one x) b cs nt o (.inRegion ops (i::rest)::k) env σ:=by
 obtain⟨dI,Θ⟩:=h.call;refine .atomic U bF cG h.dst h.want λt w φ ο _ oJ hw J R ς Κ=>?_;rcases aN w φ ο ⟨J,ς,Κ⟩ R with⟨v,w',fx,a1,bg,cr,fX,hI,m7⟩|⟨a1,bg,cr⟩
 ·refine .inl ⟨v,w',fx,B7 h.mL h.at_ hw Θ (oJ _ _ h.yD) a1 bg cr,fX,hI,m7.imp id λ⟨o',t',bs,cF,fD⟩=>⟨o',t',cF,bs,.inl (K8 h.mL h.at_ Θ),fD⟩⟩
 ·exact .inr ⟨a1,bg,UF h.mL h.at_ hw Θ (oJ _ _ h.yD) cr⟩
theorem pT (b':Addr):∀y∈(#[⟨.cell b',false,true⟩,⟨.cell b',true,true⟩]:Array Event),y.loc=.cell b'/\y.sync=true:=by
 intro y ad;simp at ad;rcases ad with rfl|rfl<;>exact⟨rfl,rfl⟩
theorem pU (b':Addr) (wr:Bool):∀y∈(#[⟨.cell b',wr,true⟩]:Array Event),y.loc=.cell b'/\y.sync=true:=by
 intro y ad;simp at ad;subst ad;exact⟨rfl,rfl⟩
theorem pV {b':Addr} {es:Array Event} (h:∀y∈es,y.loc=.cell b'/\y.sync=true):∀y∈es,y.sync=true/\∀g,y.loc≠.mark (Mark.extern g):=λy ad=>⟨(h y ad).2,λg e=>by rw[(h y ad).1] at e;cases e⟩
structure vW (ο o':aD):Prop where
 aI:o'.aI=ο.aI
 g:cu o'=cu ο
 w:o'.cn=ο.cn
structure pW (ο o':aD):Prop where
 aI:o'.aI=ο.aI
 g:mwd o'=mwd ο
 w:o'.cM=ο.cM
section
variable {s m:Nat} {sp:Spec} (U:eu x) (hd:0<x.deaf) (bF:x.spec s=some sp) (cG:¬fi (x.tok s))
include U hd bF cG
theorem V.Cd (hm:sp.aI=some m) {old new:Int} (h:gd P b ops i op f (Extern.Atomic.casT (.int .i32)) args env [.pointer (some ⟨m,0,none⟩),.int .i32 old,.int .i32 new] nt)
  (yE:∀φ ο,Seen x s sp φ ο->¬mwd ο=old->g8 P Q mn x b cs nt o ops rest k op env σ s φ ο (.bool false)\/∃t',oK P Q mn x b cs nt o ops rest k op env σ s φ ο (.bool false) ο t')
  (c9:∀φ ο,Seen x s sp φ ο->mwd ο=old->∃o' t',mwd o'=new/\o'.cM=ο.cM/\vW ο o'/\oK P Q mn x b cs nt o ops rest k op env σ s φ ο (.bool true) o' t') :
  V P Q mn (one x) b cs nt o (.inRegion ops (i::rest)::k) env σ:=by
 refine .ext U bF cG h λw φ ο ν bk=>.inl ?_;have cU:ο.aI=some m:=by rw[ν.spec];exact hm
 have η:=bk.dn cU
 have Ν:=bk.vT cU 0;by_cases hv:mwd ο=old
 ·obtain⟨o',t',J,R,ς,Κ⟩:=c9 φ ο ν hv;subst hv;refine⟨.bool true,_,_,(congrArg (Sem.run P · w) (casT_eq _ _)).trans (run_cas_hit_entry η Ν),?_,pV (pT ⟨m,0,none⟩),bk.Cc cU hm _,pS (.inr hm) hd (pT ⟨m,0,none⟩),.inr ⟨o',t',bk.Cb cU ς.aI ς.g ς.w ?_,Κ⟩⟩
  ·exact(congrArg (Sem.events P · w _) (casT_eq _ _)).trans ((events_cas_hit_entry η Ν _).trans rfl)
  ·rw[J,R];rfl
 ·refine⟨.bool false,w,_,(congrArg (Sem.run P · w) (casT_eq _ _)).trans (run_cas_miss_entry η Ν hv),?_,pV (pU ⟨m,0,none⟩ false),e0.refl _ _ _,pS (.inr hm) hd (pU ⟨m,0,none⟩ false),?_⟩
  ·exact(congrArg (Sem.events P · w _) (casT_eq _ _)).trans ((events_cas_miss_entry η Ν hv _).trans rfl)
  ·exact(yE φ ο ν hv).imp (λh=>⟨bk,h⟩) λ⟨t',h⟩=>⟨ο,t',bk,h⟩
theorem V.Ld (hm:sp.aI=some m) {d:Int} (h:gd P b ops i op f (Extern.Atomic.update (Op.intArith .add) .i32 true) args env [.pointer (some ⟨m,0,none⟩),.int .i32 d] nt)
  (c9:∀φ ο,Seen x s sp φ ο->∃o' t',mwd o'=IntKind.i32.wrap (mwd ο+d)/\o'.cM=ο.cM/\vW ο o'/\oK P Q mn x b cs nt o ops rest k op env σ s φ ο (.int .i32 (mwd o')) o' t') :
  V P Q mn (one x) b cs nt o (.inRegion ops (i::rest)::k) env σ:=by
 refine .ext U bF cG h λw φ ο ν bk=>.inl ?_;have cU:ο.aI=some m:=by rw[ν.spec];exact hm
 have η:=bk.dn cU
 have Ν:=bk.vT cU 0;obtain⟨o',t',J,R,ς,Κ⟩:=c9 φ ο ν;rw[J] at Κ;refine⟨_,_,_,run_add_entry η Ν,(events_add_entry η Ν _).trans rfl,pV (pT ⟨m,0,none⟩),bk.Cc cU hm _,pS (.inr hm) hd (pT ⟨m,0,none⟩),.inr ⟨o',t',bk.Cb cU ς.aI ς.g ς.w ?_,Κ⟩⟩;rw[J,R];rfl
theorem V.F4 (h:gd P b ops i op f (Extern.Atomic.loadT (.int .u64)) args env [.pointer (some ⟨s,0,none⟩)] nt)
  (c9:∀φ ο,Seen x s sp φ ο->g8 P Q mn x b cs nt o ops rest k op env σ s φ ο (.int .u64 (cu ο))\/∃t',oK P Q mn x b cs nt o ops rest k op env σ s φ ο (.int .u64 (cu ο)) ο t') :
  V P Q mn (one x) b cs nt o (.inRegion ops (i::rest)::k) env σ:=by
 refine .ext U bF cG h λw φ ο ν bk=>.inl ?_;have η:=bk.cI;refine⟨.int .u64 (cu ο),w,#[⟨.cell ⟨s,0,none⟩,false,true⟩],?_,?_,pV (pU _ false),e0.refl _ _ _,pS (.inl rfl) hd (pU _ false),(c9 φ ο ν).imp (λh=>⟨bk,h⟩) λ⟨t',h⟩=>⟨ο,t',bk,h⟩⟩
 ·change Sem.run P (do Extern.Atomic.read (.int .u64) (<-asAddr (.pointer (some _)))) w=_;simp[Extern.Atomic.read,asAddr,η]
 ·change Sem.events P (do Extern.Atomic.read (.int .u64) (<-asAddr (.pointer (some _)))) w _=_;simp[Extern.Atomic.read,asAddr,η,events_load]
theorem V.UJ {old new:Int} (h:gd P b ops i op f (Extern.Atomic.casT (.int .u64)) args env [.pointer (some ⟨s,0,none⟩),.int .u64 old,.int .u64 new] nt)
  (yE:∀φ ο,Seen x s sp φ ο->¬cu ο=old->g8 P Q mn x b cs nt o ops rest k op env σ s φ ο (.bool false))
  (c9:∀φ ο,Seen x s sp φ ο->cu ο=old->∃o' t',cu o'=new/\o'.cn=ο.cn/\pW ο o'/\oK P Q mn x b cs nt o ops rest k op env σ s φ ο (.bool true) o' t') :
  V P Q mn (one x) b cs nt o (.inRegion ops (i::rest)::k) env σ:=by
 refine .ext U bF cG h λw φ ο ν bk=>.inl ?_;have η:=bk.cI;have Ν:=bk.su 0;by_cases hv:cu ο=old
 ·obtain⟨o',t',J,R,ς,Κ⟩:=c9 φ ο ν hv;subst hv;refine⟨.bool true,_,_,(congrArg (Sem.run P · w) (casT_eq _ _)).trans (run_cas_hit_entry η Ν),?_,pV (pT ⟨s,0,none⟩),bk.vV _,pS (.inl rfl) hd (pT ⟨s,0,none⟩),.inr ⟨o',t',bk.vU ς.aI ς.g ς.w ?_,Κ⟩⟩
  ·exact(congrArg (Sem.events P · w _) (casT_eq _ _)).trans ((events_cas_hit_entry η Ν _).trans rfl)
  ·rw[J,R];rfl
 ·refine⟨.bool false,w,_,(congrArg (Sem.run P · w) (casT_eq _ _)).trans (run_cas_miss_entry η Ν hv),?_,pV (pU ⟨s,0,none⟩ false),e0.refl _ _ _,pS (.inl rfl) hd (pU ⟨s,0,none⟩ false),.inl ⟨bk,yE φ ο ν hv⟩⟩;exact(congrArg (Sem.events P · w _) (casT_eq _ _)).trans ((events_cas_miss_entry η Ν hv _).trans rfl)
theorem V.F5 {d:Int} (h:gd P b ops i op f (Extern.Atomic.update (Op.intArith .add) .u64 true) args env [.pointer (some ⟨s,0,none⟩),.int .u64 d] nt)
  (c9:∀φ ο,Seen x s sp φ ο->∃o' t',cu o'=IntKind.u64.wrap (cu ο+d)/\o'.cn=ο.cn/\pW ο o'/\oK P Q mn x b cs nt o ops rest k op env σ s φ ο (.int .u64 (cu o')) o' t') :
  V P Q mn (one x) b cs nt o (.inRegion ops (i::rest)::k) env σ:=by
 refine .ext U bF cG h λw φ ο ν bk=>.inl ?_;have η:=bk.cI;have Ν:=bk.su 0;obtain⟨o',t',J,R,ς,Κ⟩:=c9 φ ο ν;rw[J] at Κ;refine⟨_,_,_,run_add_entry η Ν,(events_add_entry η Ν _).trans rfl,pV (pT ⟨s,0,none⟩),bk.vV _,pS (.inl rfl) hd (pT ⟨s,0,none⟩),.inr ⟨o',t',bk.vU ς.aI ς.g ς.w ?_,Κ⟩⟩;rw[J,R];rfl
end
theorem Le {w:World} {b':Addr} {n:Int} {vs:List Value} (U:vs[0]?=some (.pointer (some b'))) (η:w.cell? b'=some (.int .u32 n)) (pv:n≠0) (Ν:w.frozen? b'=false):(Extern.Sync.semacquire vs.toArray).run P w=.ok (.tuple #[]) (w.setCell b' (.int .u32 (n-1))):=by
 simp[Extern.Sync.semacquire,Extern.Sync.count,U,η,pv,Ν,Extern.Sync.none_,run_store P w b' (.int .u32 (n-1)) .atomic rfl,Result.andThen]
theorem Lf {w:World} {b':Addr} {n:Int} {vs:List Value} (U:vs[0]?=some (.pointer (some b'))) (η:w.cell? b'=some (.int .u32 n)) (pv:n≠0) (Ν:w.frozen? b'=false) (es:Array Event):(Extern.Sync.semacquire vs.toArray).events P w es=es++semEvents b':=by
 simp[Extern.Sync.semacquire,Extern.Sync.count,U,η,pv,Ν,semEvents,events_load,events_store P w _ b' (.int .u32 (n-1)) .atomic rfl,run_store P w b' (.int .u32 (n-1)) .atomic rfl,Result.evThen];apply Array.ext';simp
theorem Lg {w:World} {b':Addr} {vs:List Value} (U:vs[0]?=some (.pointer (some b'))) (η:w.cell? b'=some (.int .u32 0)):(Extern.Sync.semacquire vs.toArray).run P w=.halt .blocked w:=by
 simp[Extern.Sync.semacquire,Extern.Sync.count,U,η]
theorem Lh {w:World} {b':Addr} {n:Int} {vs:List Value} (U:vs[0]?=some (.pointer (some b'))) (η:w.cell? b'=some (.int .u32 n)) (Ν:w.frozen? b'=false):(Extern.Sync.semrelease vs.toArray).run P w=.ok (.tuple #[]) (w.setCell b' (.int .u32 (IntKind.u32.wrap (n+1)))):=by
 simp[Extern.Sync.semrelease,Extern.Sync.count,U,η,Ν,Extern.Sync.none_,Op.intArith,run_store P w b' (.int .u32 (IntKind.u32.wrap (n+1))) .atomic rfl,Result.andThen]
theorem Li {w:World} {b':Addr} {n:Int} {vs:List Value} (U:vs[0]?=some (.pointer (some b'))) (η:w.cell? b'=some (.int .u32 n)) (Ν:w.frozen? b'=false) (es:Array Event):(Extern.Sync.semrelease vs.toArray).events P w es=es++semEvents b':=by
 simp[Extern.Sync.semrelease,Extern.Sync.count,U,η,Ν,semEvents,Op.intArith,events_load,events_store P w _ b' (.int .u32 (IntKind.u32.wrap (n+1))) .atomic rfl,run_store P w b' (.int .u32 (IntKind.u32.wrap (n+1))) .atomic rfl,Result.evThen];apply Array.ext';simp
theorem Ce {s cx off d:Nat} {sp:Spec} (hb:dS s sp cx):m9 s sp d (semEvents ⟨cx,off,none⟩):=by
 refine⟨by simp[deafBehind,semEvents],λj y ad=>?_⟩
 match j,ad with
 | 0,ad=>simp[semEvents] at ad;subst ad;exact .inl rfl
 | 1,ad=>simp[semEvents] at ad;subst ad;exact .inr (.inr ⟨cx,off,false,rfl,hb,by simp[semEvents,deafBehind]⟩)
 | 2,ad=>simp[semEvents] at ad;subst ad;exact .inr (.inr ⟨cx,off,true,rfl,hb,by simp[semEvents,deafBehind]⟩)
 | 3,ad=>simp[semEvents] at ad;subst ad;exact .inr (.inl rfl)
 | j+4,ad=>simp[semEvents] at ad
section
variable {s m:Nat} {sp:Spec} (U:eu x) (bF:x.spec s=some sp) (cG:¬fi (x.tok s))
include U bF cG
theorem V.UK (hm:sp.aI=some m) (af:vs[0]?=some (.pointer (some ⟨m,1,none⟩))) (cj:∀a7,a7≠s->lU (x.tok a7)) (h:gd P b ops i op f Extern.Sync.semacquire args env vs nt)
  (wait:∀φ ο,Seen x s sp φ ο->ο.cM=0->iU ο (x.tok s))
  (c9:∀φ ο,Seen x s sp φ ο->0<ο.cM->∃o' t',mwd o'=mwd ο/\o'.cM=ο.cM-1/\vW ο o'/\oK P Q mn x b cs nt o ops rest k op env σ s φ ο (.tuple #[]) o' t') :
  V P Q mn (one x) b cs nt o (.inRegion ops (i::rest)::k) env σ:=by
 refine .ext U bF cG h λw φ ο ν bk=>?_;have cU:ο.aI=some m:=by rw[ν.spec];exact hm
 have η:=bk.fR cU;by_cases hv:ο.cM=0
 ·exact .inr ⟨wait φ ο ν hv,cj,Lg af (by rw[η,hv];rfl)⟩
 ·obtain⟨o',t',J,R,ς,Κ⟩:=c9 φ ο ν (by omega);have Ι:((ο.cM:Nat):Int)≠0:=by omega
  refine .inl ⟨_,_,_,Le af η Ι (bk.vT cU 1),Lf af η Ι (bk.vT cU 1) _,semEvents_sync _,bk.Cc cU hm _,Ce (.inr hm),.inr ⟨o',t',bk.Cb cU ς.aI ς.g ς.w ?_,Κ⟩⟩;rw[J,R,show((ο.cM:Nat):Int)-1=((ο.cM-1:Nat):Int) by omega];rfl
theorem V.UL (af:vs[0]?=some (.pointer (some ⟨s,1,none⟩))) (cj:∀a7,a7≠s->lU (x.tok a7)) (h:gd P b ops i op f Extern.Sync.semacquire args env vs nt)
  (wait:∀φ ο,Seen x s sp φ ο->ο.cn=0->iU ο (x.tok s))
  (c9:∀φ ο,Seen x s sp φ ο->0<ο.cn->∃o' t',cu o'=cu ο/\o'.cn=ο.cn-1/\pW ο o'/\oK P Q mn x b cs nt o ops rest k op env σ s φ ο (.tuple #[]) o' t') :
  V P Q mn (one x) b cs nt o (.inRegion ops (i::rest)::k) env σ:=by
 refine .ext U bF cG h λw φ ο ν bk=>?_;have η:=bk.Ξ;by_cases hv:ο.cn=0
 ·exact .inr ⟨wait φ ο ν hv,cj,Lg af (by rw[η,hv];rfl)⟩
 ·obtain⟨o',t',J,R,ς,Κ⟩:=c9 φ ο ν (by omega);have Ι:((ο.cn:Nat):Int)≠0:=by omega
  refine .inl ⟨_,_,_,Le af η Ι (bk.su 1),Lf af η Ι (bk.su 1) _,semEvents_sync _,bk.vV _,Ce (.inl rfl),.inr ⟨o',t',bk.vU ς.aI ς.g ς.w ?_,Κ⟩⟩;rw[J,R,show((ο.cn:Nat):Int)-1=((ο.cn-1:Nat):Int) by omega];rfl
theorem V.Lj (hm:sp.aI=some m) (af:vs[0]?=some (.pointer (some ⟨m,1,none⟩))) (h:gd P b ops i op f Extern.Sync.semrelease args env vs nt)
  (c9:∀φ ο,Seen x s sp φ ο->ο.cM<1000/\∃o' t',mwd o'=mwd ο/\o'.cM=ο.cM+1/\vW ο o'/\oK P Q mn x b cs nt o ops rest k op env σ s φ ο (.tuple #[]) o' t') :
  V P Q mn (one x) b cs nt o (.inRegion ops (i::rest)::k) env σ:=by
 refine .ext U bF cG h λw φ ο ν bk=>.inl ?_;have cU:ο.aI=some m:=by rw[ν.spec];exact hm
 have η:=bk.fR cU;obtain⟨ar,o',t',J,R,ς,Κ⟩:=c9 φ ο ν;refine⟨_,_,_,Lh af η (bk.vT cU 1),Li af η (bk.vT cU 1) _,semEvents_sync _,bk.Cc cU hm _,Ce (.inr hm),.inr ⟨o',t',bk.Cb cU ς.aI ς.g ς.w ?_,Κ⟩⟩;rw[J,R,show IntKind.u32.wrap (((ο.cM:Nat):Int)+1)=((ο.cM+1:Nat):Int) by simp only[IntKind.wrap_u32];omega];rfl
end
end
end Go.TL
namespace Go.TL
open Go.Conc
open Go.ConcM (OsLater)
open Go.ConcN (sumTo upd sumTo_upd upd_ne upd_same sumTo_congr le_sumTo)
open Go.ConcR (mk)
variable [bh]
section
variable {P:Program} {T:aZ} {Q:Value->Prop} {mn:Bool} {x:aK} {z:fZ} {b:Frame} {cs:List Frame} {nt:Nat} {o:Base} {k:List Item} {env:Φ} {σ:List Row}
variable {ops:Array Oper} {i:Nat} {rest:List Nat} {op:Oper} {f:FuncId} {e:Array Value->Sem Value} {args:Array Operand} {vs:List Value} {fn:Func}
theorem lE {S:al} {B:aH} {l:List Value} {vs:Array Value} (h:e6 S B σ (l.map ζ.z) vs):vs=l.toArray:=by
 apply Array.ext';apply List.ext_getElem?;intro i;have J:=h.1;rw[List.length_map] at J;by_cases hi:i<l.length
 ·have Δ:(l.map ζ.z)[i]?=some (.z l[i]):=by rw[List.getElem?_map,aX hi];rfl
  have Ε:vs[i]?=some vs[i]:=eM (by omega)
  have:=h.2 i _ _ Δ Ε
  have:vs[i]=l[i]:=by generalize vs[i]=u at this;cases this;rfl
  rw[Array.getElem?_toList,Ε,this];simp[hi]
 ·rw[Array.getElem?_toList,Array.getElem?_eq_none (by omega)];simp;omega
theorem V.call (U:Seq z) (bG:lD b ops i op) (hw:e7 env ops op=some true) {y:Operand} {dI:Array TypeId} (Θ:op.op=.call ⟨.value y,args,dI⟩) {g:FuncId} {first captured:List ζ} (ab:aG env y=.fn (.func g) first captured) (Ο:Plain P g)
  (h:∀(S:al) (B:aH) (H:υ) (t:Array Value) (vs:Array Value),eD o.m o.S o.B o.H o.σ S B H σ->e5 o.m nt S B H σ env t->e6 S B σ (first++args.toList.map (aG env)++captured) vs->
   aB P Q mn z (Frame.enter P g vs .normal) (ai b t (.inRegion ops (i::rest)::k)::cs) H):V P Q mn z b cs nt o (.inRegion ops (i::rest)::k) env σ:=by
 intro S B H t κ χ;refine .op U bG.run bG.op (iY χ.b7 hw) (.inr λc=>by rw[Θ];simp) ?_;have e:execOp (a8 t) op=(do let d <-Deferred.ofValue (a8 t y) (args.map (a8 t));invoke d.target d.args):=by unfold execOp;rw[Θ];rfl
 rw[e];have c6:=kv χ.b7 y;have lh:=FH χ.b7 args;rw[ab] at c6;generalize a8 t y=bj at c6;cases c6 with
 | fn v1 v2 J R ς Κ=>
  refine π.bind' (π.pure' ?_);obtain⟨fn,cA,jS,Bm⟩:=Ο;unfold invoke;simp only;unfold callFunc;refine π.bind' ?_;show π P (match P.funcs[g]? with|none=>_|some fn=>_) H _ _;rw[cA];simp only[jS,Bm,Bool.false_eq_true,if_false];refine π.pure' ?_;have r1:e6 S B σ first v1:=⟨J,ς⟩
  have r2:e6 S B σ captured v2:=⟨R,Κ⟩;exact h S B H t _ κ χ ((r1.append lh).append r2)
theorem V.oL {g:FuncId} {body:Code} (cA:P.funcs[g]?=some fn) (l7:fn.body=some body) {c:Frame} {S:al} {B:aH} {H:υ} (ψ:Holds S B σ H) (Ι:vs.length<=fn.ntmps)
  (h:V P Q mn z (Frame.enter P g vs.toArray .normal) (c::cs) fn.ntmps ⟨S,[],H,[],0⟩ [.code body] (entry 0 (vs.map ζ.z)) []):aB P Q mn z (Frame.enter P g vs.toArray .normal) (c::cs) H:=by
 rw[oz cA l7];refine h.here (e5.enter ψ.bare ⟨by simp,λi a v J R=>?_⟩ (Nat.le_refl _) (by simpa using Ι));simp only[List.getElem?_map,List.getElem?_toArray] at J R;rw[R] at J;cases J;exact .z v
theorem V.F6 (U:Seq z) (hb:b.mode=.run) (bZ:b.roundOf=none) (eh:b.defers=[]) (fW:b.kind=.normal) (cA:P.funcs[b.fn]?=some fn) (eB:fn.results=#[]) {c:Frame}
  (h:∀(S:al) (B:aH) (H:υ),eD o.m o.S o.B o.H o.σ S B H σ->Holds S B σ H->aB P Q mn z (c.finish (.tuple #[])) cs H):V P Q mn z b (c::cs) nt o (.code .ret::k) env σ:=by
 intro S B H t κ χ;refine .ret U hb bZ (.back U rfl eh (.inl fW) cA ?_);rw[results_none eB];exact π.pure' (h S B H κ χ.holds)
theorem V.Cf (U:Seq z) (hb:b.mode=.run) (bZ:b.roundOf=none) (eh:b.defers=[]) (fW:b.kind=.normal) (cA:P.funcs[b.fn]?=some fn) (eB:fn.results=#[]) {c:Frame}
  (h:∀(S:al) (B:aH) (H:υ),eD o.m o.S o.B o.H o.σ S B H σ->Holds S B σ H->aB P Q mn z (c.finish (.tuple #[])) cs H):V P Q mn z b (c::cs) nt o [] env σ:=by
 intro S B H t κ χ;refine .qy U hb bZ (.back U rfl eh (.inl fW) cA ?_);rw[results_none eB];exact π.pure' (h S B H κ χ.holds)
theorem V.q6 (U:Seq z) (hb:b.mode=.run) (bZ:b.roundOf=none) (eh:b.defers=[]) (fW:b.kind=.normal) (cA:P.funcs[b.fn]?=some fn) {d:Nat} (eB:fn.results=#[.tmp d]) {v:Value} (hv:aW env d=.z v) {c:Frame}
  (h:∀(S:al) (B:aH) (H:υ),eD o.m o.S o.B o.H o.σ S B H σ->Holds S B σ H->aB P Q mn z (c.finish v) cs H):V P Q mn z b (c::cs) nt o (.code .ret::k) env σ:=by
 intro S B H t κ χ;refine .ret U hb bZ (.back U rfl eh (.inl fW) cA ?_);have e:results fn t=pure (t.getD d undef):=by unfold results;rw[eB];simp
 have kp:t.getD d undef=v:=by
  have:=χ.b7 d;rw[hv] at this;generalize t.getD d undef=u at this;cases this;rfl
 show π P (results fn t) H _ _;rw[e,kp];exact π.pure' (h S B H κ χ.holds)
theorem UM {w:World} {ty:TypeId} {kd:IntKind} (hu:P.underlying ty=some (.int kd)) {b':Addr} {v:Value} (η:w.cell? b'=some v):(Instr.loadAt ty (.pointer (some b'))).run P w=.ok v w/\(Instr.loadAt ty (.pointer (some b'))).events P w #[]=#[⟨.cell b',false,false⟩]:=by
 constructor
 ·simp[Instr.loadAt,Instr.sureAddr,loadVar,isAgg,run_underlying hu,η,Result.andThen]
 ·simp[Instr.loadAt,Instr.sureAddr,loadVar,isAgg,run_underlying hu,η,events_load,Result.evThen]
theorem UN {t:Array Value} {w:World} (bG:lD b ops i op) (hw:Region.wanted op (yielded ops t)=true) {ty:TypeId} {y:Operand} (Θ:op.op=.load ty y) {kd:IntKind} (hu:P.underlying ty=some (.int kd)) {b':Addr} (ad:a8 t y=.pointer (some b')) {v:Value} (η:w.cell? b'=some v) (Ψ:(P.funcs[b.fn]?).any (·.norace)=true) :
  stepG P mn (Go.Conc.G (ai b t (.inRegion ops (i::rest)::k)) cs) w=.go (Go.Conc.G (ai b (put op t v) (.inRegion ops rest::k)) cs) w #[]:=by
 obtain⟨r1,r2⟩:=UM (P:=P) hu η;have e:execOp (a8 t) op=(do pure (.value (<-Instr.loadAt ty (.pointer (some b'))))):=by unfold execOp;rw[Θ,<-ad]
 rw[fM bG.run bG.ro,fM bG.run bG.ro,<-sr];have ι:(execOp (⟨t,b.defers⟩:_root_.Go.Act).eval op).run P w=.ok (.value v) w:=by rw[kJ,e];simp[r1,Result.andThen]
 have he:(execOp (⟨t,b.defers⟩:_root_.Go.Act).eval op).events P w #[]=#[⟨.cell b',false,false⟩]:=by rw[kJ,e];simp[r1,r2,Result.evThen]
 rw[stepG_value bG.op hw bG.kd ι];unfold listed;rw[he,seen_def,Ψ];simp[seenStep]
section
variable {s:Nat} {sp:Spec} (U:eu x) (bF:x.spec s=some sp) (cG:¬fi (x.tok s))
include U bF cG
theorem V.vX (bG:lD b ops i op) (hd:g4 nt op=true) (hw:e7 env ops op=some true) {ty:TypeId} {y:Operand} (Θ:op.op=.load ty y) {kd:IntKind} (hu:P.underlying ty=some (.int kd)) {b':Addr} (ad:aG env y=.z (.pointer (some b'))) (Ψ:(P.funcs[b.fn]?).any (·.norace)=true)
  (val:aD->Int) (η:∀(ο:aD) (w:World),ο.toSpec=sp->dF s ο w->w.cell? b'=some (.int kd (val ο)))
  (c9:∀φ ο,Seen x s sp φ ο->g8 P Q mn x b cs nt o ops rest k op env σ s φ ο (.int kd (val ο))\/∃t',oK P Q mn x b cs nt o ops rest k op env σ s φ ο (.int kd (val ο)) ο t') :
  V P Q mn (one x) b cs nt o (.inRegion ops (i::rest)::k) env σ:=by
 refine .atomic U bF cG hd hw λt w φ ο dg _ pa J R ς Κ=>.inl ?_;refine⟨.int kd (val ο),w,#[],UN bG pa Θ hu (dg _ _ ad) (η ο w J R) Ψ,e0.refl _ _ _,Lc,?_⟩;exact(c9 φ ο ⟨J,ς,Κ⟩).imp (λh=>⟨R,h⟩) λ⟨t',aF,aV⟩=>⟨ο,t',aF,R,.inr rfl,aV⟩
theorem V.conv (bG:lD b ops i op) (hd:g4 nt op=true) (hw:e7 env ops op=some true) {src dst t0:TypeId} {y:Operand} (Θ:op.op=.convert src dst y) (ν:P.underlying src=some (.pointer t0)) (te:P.underlying dst=some .unsafePointer) (b2:(P.info? t0).map (λi=>decide (i.size=0))=some false) {b':Addr} (ad:aG env y=.z (.pointer (some b')))
  (η:∀(ο:aD) (w:World),ο.toSpec=sp->dF s ο w->∃v,w.cell? b'=some v)
  (c9:∀φ ο,Seen x s sp φ ο->g8 P Q mn x b cs nt o ops rest k op env σ s φ ο (.pointer (some b'))) :
  V P Q mn (one x) b cs nt o (.inRegion ops (i::rest)::k) env σ:=by
 refine .atomic U bF cG hd hw λt w φ ο dg _ pa J R ς Κ=>.inl ?_;obtain⟨v,hv⟩:=η ο w J R;refine⟨.pointer (some b'),w,#[],?_,e0.refl _ _ _,Lc,.inl ⟨R,c9 φ ο ⟨J,ς,Κ⟩⟩⟩;have r1:=run_convert_to_unsafe (P:=P) ν te b2 hv;have r2:=events_convert_to_unsafe (P:=P) ν te b2 hv #[];have e:execOp (a8 t) op=(do pure (.value (<-convert src dst (.pointer (some b'))))):=by unfold execOp;rw[Θ,<-dg _ _ ad]
 rw[fM bG.run bG.ro,fM bG.run bG.ro,<-sr];have ι:(execOp (⟨t,b.defers⟩:_root_.Go.Act).eval op).run P w=.ok (.value (.pointer (some b'))) w:=by rw[kJ,e];simp[r1,Result.andThen]
 have he:(execOp (⟨t,b.defers⟩:_root_.Go.Act).eval op).events P w #[]=#[]:=by rw[kJ,e];simp[r1,r2,Result.evThen]
 rw[stepG_value bG.op pa bG.kd ι];unfold listed;rw[he,seen_none]
end
theorem UO (w:World):OsLater w.os w.later.os:=⟨w.tick,rfl⟩
theorem dw.later {H:υ} {w:World} (h:Fits H w):dw H w H w.later #[]:=
 ⟨⟨h.av,h.row,h.obj⟩,⟨Nat.le_refl _,λb c t dz hb=>⟨c,hb,rfl,λ_ _=>rfl⟩,λb x hb _ _=>hb,UO w,rfl,rfl⟩,⟨λb o v p h=>.inr ⟨v,p,h,id⟩,λb h=>.inr h⟩,λe he=>by simp at he⟩
theorem V.nano (U:Seq z) (h:gd P b ops i op f Extern.OsHooks.nano args env vs nt) (Ψ:(P.funcs[f]?).any (·.norace)=true) (Α:∀τ:Int,V P Q mn z b cs nt o (.inRegion ops rest::k) (bX op env (.z (.int .i64 τ))) σ):V P Q mn z b cs nt o (.inRegion ops (i::rest)::k) env σ:=by
 intro S B H t κ χ;obtain⟨fn,J,R,ς,Κ,aF⟩:=h.mL;obtain⟨dI,Θ⟩:=h.call;rw[J] at Ψ;refine aB.own U λw ab=>⟨_,_,_,_,H,?_,dw.later ab,Α ((w.os.mono+w.tick:Nat):Int) S B H _ κ (χ.put h.dst (.z _))⟩;rw[fM h.at_.run h.at_.ro,stepG_nanotime (a:=⟨t,b.defers⟩) h.at_.op (iY χ.b7 h.want) h.at_.kd Θ J R ς Κ aF (by simpa using Ψ),sr,<-fM h.at_.run h.at_.ro]
theorem V.canSpin (U:Seq z) {n:Int} (h:gd P b ops i op f Extern.Sync.canSpin args env [.int .i64 n] nt) (Α:∀y:Bool,(y=true->n<4)->V P Q mn z b cs nt o (.inRegion ops rest::k) (bX op env (.z (.bool y))) σ):V P Q mn z b cs nt o (.inRegion ops (i::rest)::k) env σ:=by
 intro S B H t κ χ;obtain⟨fn,J,R,ς,Κ,aF⟩:=h.mL;obtain⟨dI,Θ⟩:=h.call;have gN:args.map (⟨t,b.defers⟩:_root_.Go.Act).eval=#[.int .i64 n]:=by rw[kJ];exact h.yD.a8 χ.b7
 by_cases aV:n<4
 ·refine aB.own U λw ab=>⟨_,_,_,_,H,?_,(dw.start ab).draw (w.drawn+1),Α w.spins (λ_=>aV) S B H _ κ (χ.put h.dst (.z _))⟩;rw[fM h.at_.run h.at_.ro,stepG_canSpin_ask (a:=⟨t,b.defers⟩) h.at_.op (iY χ.b7 h.want) h.at_.kd Θ J R ς Κ aF gN aV,sr,<-fM h.at_.run h.at_.ro];rfl
 ·refine aB.own U λw ab=>⟨_,_,w,#[],H,?_,dw.start ab,Α false (λh=>by cases h) S B H _ κ (χ.put h.dst (.z _))⟩;rw[fM h.at_.run h.at_.ro,stepG_canSpin_no (a:=⟨t,b.defers⟩) h.at_.op (iY χ.b7 h.want) h.at_.kd Θ J R ς Κ aF gN (by omega),sr,<-fM h.at_.run h.at_.ro]
theorem V.Cg (U:Seq z) {v:Value} (h:gd P b ops i op f (λ_=>pure v) args env vs nt) (Α:V P Q mn z b cs nt o (.inRegion ops rest::k) (bX op env (.z v)) σ):V P Q mn z b cs nt o (.inRegion ops (i::rest)::k) env σ:=
 λS B H t κ χ=>aB.own U λw ab=>⟨_,_,w,#[],H,h.step χ.b7 (by simp) (by simp) (by simp),dw.start ab,Α S B H _ κ (χ.put h.dst (.z v))⟩
theorem V.F7 (U:Seq z) (bG:lD b ops i op) (hw:e7 env ops op=some true) (pB:op.dst=none) {dI:Array TypeId} (Θ:op.op=.defer ⟨.value (.func f),#[],dI⟩)
  (h:V P Q mn z {b with defers:=Go.Conc.dcall f #[]::b.defers} cs nt o (.inRegion ops rest::k) env σ):V P Q mn z b cs nt o (.inRegion ops (i::rest)::k) env σ:=by
 intro S B H t κ χ;have Kv:put op t undef=t:=by unfold put;rw[pB]
 refine aB.still U (f':=ai {b with defers:=Go.Conc.dcall f #[]::b.defers} t (.inRegion ops rest::k)) (cs':=cs) (λw=>?_) (h S B H t κ χ);rw[fM bG.run bG.ro,stepG_defer (a:=⟨t,b.defers⟩) bG.op (iY χ.b7 hw) bG.kd Θ];have:(⟨t,Go.Conc.dcall f #[]::b.defers⟩:_root_.Go.Act).put op.dst undef=⟨t,Go.Conc.dcall f #[]::b.defers⟩:=by rw[pB];rfl
 simp only[Array.map_empty,List.map_toArray,List.map_nil];rw[this,fM (b:={b with defers:=Go.Conc.dcall f #[]::b.defers}) bG.run bG.ro];rfl
theorem b4.UP (U:eu x) (hd:0<x.deaf) (hb:b.mode=.run) (bZ:b.roundOf=none) {ds:List Deferred} (eh:b.defers=Go.Conc.dcall f #[]::ds) (he:Entry P f (λ_=>do mark .enable;pure Extern.Race.none_)) {H:υ} {t:Array Value}
  (h:b4 P Q mn {x with deaf:=x.deaf-1} {ai {b with defers:=ds} t k with mode:=.returning} cs H):b4 P Q mn x {ai b t k with mode:=.returning} cs H:=by
 obtain⟨fn,J,R,ς,Κ,aF⟩:=he;refine Goes.step U.ok (.inr ⟨⟨rfl,rfl⟩,.inr (.inl ⟨Go.Conc.G {ai {b with defers:=ds} t k with mode:=.returning} cs,⟨rfl,rfl⟩,.inr ⟨hd,λw _=>⟨?_,h⟩⟩⟩)⟩);rw[fM hb bZ,fM (b:={b with defers:=ds}) hb bZ];exact stepG_unwind_entry (a:=⟨t,b.defers⟩) (v:=.tuple #[]) eh J R ς Κ aF (B9 .enable) (Ca .enable _) (pR (by simp))
end
inductive Quiet (P:Program) (mn:Bool):Goroutine->Goroutine->Prop where
 | nil (g:Goroutine):Quiet P mn g g
 | cons {g g' Lk:Goroutine}:hJ g->(∀w,stepG P mn g w=.go g' w #[])->Quiet P mn g' Lk->Quiet P mn g Lk
section
variable {P:Program} {Q:Value->Prop} {mn:Bool} {x:aK} {g g':Goroutine}
theorem Quiet.runs (h:Quiet P mn g g') (ι:hJ g'):hJ g:=by
 cases h with
 | nil=>exact ι
 | cons J=>exact J
theorem Quiet.goes (h:Quiet P mn g g') (U:eu x) (ι:hJ g') (Ο:Goes P Q mn g' x):Goes P Q mn g x:=by
 induction h with
 | nil=>exact Ο
 | cons J R ς Γ=>
  refine Goes.step U.ok (.inr ⟨J,.inl λw ab hv=>?_⟩);rw[R w];refine⟨x.G,x.ao,ς.runs ι,e0.refl _ _ _,ab,hv,⟨λb o v p h=>.inr ⟨v,p,h,id⟩,λb h=>.inr h⟩,λb c h=>.inl h,λe he=>by simp at he,λb c _ _ e he=>by simp at he,Γ ι Ο⟩
end
end Go.TL
namespace Go.TL
open Go.Conc Go.Proofs
variable [bh]
def q7 (P:Program) (Q:Value->Prop) (mn:Bool) (x:fZ) (b:Frame) (cs:List Frame) (nt:Nat) (o:Base) (L:Nat) (r:Loop) (k:List Item) (env:Φ) (σ:List Row):Prop:=
 ∀(S:al) (B:aH) (H:υ) (t:Array Value),eD o.m o.S o.B o.H o.σ S B H σ->e5 o.m nt S B H σ env t->¬B.has L->H.obj L=some (.loop r)->aB P Q mn x (ai b t k) cs H
theorem oM {S aj:al} {B B':aH} {H H':υ} (he:Ext S B H aj B' H') {L:Nat} {y:Obj} (Ι:¬B.has L) (aS:H.obj L=some y):¬B'.has L/\H'.obj L=some y:=by
 have ab:¬H.fresh L:=λh=>by rw[h.2.2.1] at aS;cases aS
 exact⟨λh=>(he.blocks L h).elim Ι ab,by rw[(he.e' L Ι ab).2.2];exact aS⟩
theorem UQ {H:υ} {L:Nat} {y:Obj} (aS:H.eE L):∀b,(H.bq L y).fresh b↔H.fresh b:=by
 obtain⟨z,Ν⟩:=aS;have key:∀b,((H.bq L y).obj b=none↔H.obj b=none):=λb=>by
  by_cases e:b=L
  ·subst e;simp[υ.bq,Ν]
  ·simp[υ.bq,e]
 exact λb=>⟨λh=>⟨h.1,h.2.1,(key b).1 h.2.2.1,λΡ hb=>⟨(h.2.2.2 Ρ hb).1,(h.2.2.2 Ρ hb).2.1,(key Ρ).1 (h.2.2.2 Ρ hb).2.2⟩⟩,
  λh=>⟨h.1,h.2.1,(key b).2 h.2.2.1,λΡ hb=>⟨(h.2.2.2 Ρ hb).1,(h.2.2.2 Ρ hb).2.1,(key Ρ).2 (h.2.2.2 Ρ hb).2.2⟩⟩⟩
theorem Holds.bq {S:al} {B:aH} {σ:List Row} {H:υ} {L:Nat} {y:Obj} (ψ:Holds S B σ H) (Ι:¬B.has L):Holds S B σ (H.bq L y):=by
 have aR:∀b,b≠L->js H (H.bq L y) b:=λb hb=>⟨λ_=>rfl,rfl,by simp[υ.bq,hb]⟩
 have ne:∀(id b N:Nat),B[id]?=some (some (b,N))->b≠L:=λid b N h e=>Ι (e▸nn h);refine⟨ψ.cX,ψ.len,λid r bo ι eC=>?_,ψ.inj,ψ.sep⟩;by_cases eR:r.live
 ·refine(ψ.row id r bo ι eC).later (bQ.refl S B σ) (λb N e=>aR b (ne id b N (by rw[eC,e]))) λm left cur e=>⟨rfl,rfl,λb N hb=>aR b (ne m b N hb)⟩
 ·cases r<;>first|exact absurd trivial eR|trivial
theorem Ext.bq {eQ S:al} {d' B:aH} {dC H:υ} {L:Nat} {y:Obj} (he:Ext eQ d' dC S B H) (ab:dC.fresh L) (aS:H.eE L):Ext eQ d' dC S B (H.bq L y):=by
 refine⟨he.cX,λb hb nq=>?_,he.blocks,he.pj,λb hb=>he.grow b ((UQ aS b).1 hb)⟩;have:b≠L:=λe=>nq (e▸ab);obtain⟨J,R,ς⟩:=he.e' b hb nq;exact⟨J,R,by simp[υ.bq,this,ς]⟩
section
variable {P:Program} {T:aZ} {Q:Value->Prop} {mn:Bool} {x:fZ} {b:Frame} {cs:List Frame} {nt:Nat} {o:Base} {L:Nat} {r:Loop} {k:List Item} {env:Φ} {σ:List Row}
theorem q7.a0 (U:Seq x) (hb:b.mode=.run) (h:W P o.m nt k env σ (q7 P Q mn x b cs nt o L r) (λ_ _ _=>False)):q7 P Q mn x b cs nt o L r k env σ:=
 λS B H t κ χ j1 aS=>h Q mn x cs b S B H t U hb χ (λj env' σ' aj B' H' t' Χ Ν eo hl Β=>by
  have e:Χ=j:=Β;subst e;obtain⟨J,R⟩:=oM eo.ext j1 aS;exact Ν aj B' H' t' (κ.trans eo) hl J R) (λa env' σ' aj B' H' t' Χ v he=>he.elim)
theorem q7.yield (U:Seq x) {ops:Array Oper} {i:Nat} {rest:List Nat} {op:Oper} (bG:lD b ops i op) (hw:e7 env ops op=some true) {y:Operand} {args:Array Operand} {dI:Array TypeId} (Θ:op.op=.call ⟨.value y,args,dI⟩) (ab:aG env y=.fn (.yield L) [] []) (b2:args.size=r.params.size)
  (h:∀(S:al) (B:aH) (H:υ) (t:Array Value) (vs:Array Value),eD o.m o.S o.B o.H o.σ S B H σ->e5 o.m nt S B H σ env t->¬B.has L->H.obj L=some (.loop r)->e6 S B σ (args.toList.map (aG env)) vs->
   aB P Q mn x (Frame.round L r.fn ((r.params.zip vs).foldl (λtmps (t,a)=>tmps.setIfInBounds t a) r.tmps) r.assign r.body .normal) (ai b t (.inRegion ops (i::rest)::k)::cs) H):q7 P Q mn x b cs nt o L r (.inRegion ops (i::rest)::k) env σ:=by
 intro S B H t κ χ j1 aS;refine aB.op U bG.run bG.op (iY χ.b7 hw) (.inr λc=>by rw[Θ];simp) ?_;have e:execOp (a8 t) op=(do let d <-Deferred.ofValue (a8 t y) (args.map (a8 t));invoke d.target d.args):=by unfold execOp;rw[Θ];rfl
 rw[e];have c6:=kv χ.b7 y;have lh:=FH χ.b7 args;rw[ab] at c6;generalize a8 t y=bj at c6;cases c6 with
 | fn v1 v2 J R ς Κ=>
  have Δ:v1=#[]:=Array.eq_empty_of_size_eq_zero (by rw[<-J];rfl)
  have Ε:v2=#[]:=Array.eq_empty_of_size_eq_zero (by rw[<-R];rfl);subst Δ;subst Ε;refine π.bind' (π.pure' ?_);have uT:invoke (Target.fn (Fn.yield L) #[]) (#[]++args.map (a8 t))=Instr.yield L (args.map (a8 t)):=by simp[invoke]
  show π P (invoke (Target.fn (Fn.yield L) #[]) (#[]++args.map (a8 t))) H _ _;rw[uT];unfold Instr.yield;refine π.bind' (π.getLoop aS ?_);rw[if_neg (by simp[b2])];refine π.bind' (π.pure' (π.pure' ?_));exact h S B H t _ κ χ j1 aS lh
end
end Go.TL
namespace Go.TL
open Go.Conc Go.Proofs
def oN (n:Nat) (l:List Nat):Nat->Option Nat
 | 0=>none
 | e+1=>if l.getD e 0+l.length=n+e then oN n l e else some e
def lF (l:List Nat) (i:Nat) (k:Nat):List Nat:=l.take i++((List.range k).map λj=>l.getD i 0+1+j)++l.drop (i+k)
def oO (n:Nat) (l:List Nat):Option (List Nat):=(oN n l l.length).map λi=>lF l i (l.length-i)
def m0 (n:Nat):Nat->List Nat->List (List Nat)
 | 0,l=>[l]
 | f+1,l=>l::match oO n l with|none=>[]|some m=>m0 n f m
def oP (n:Nat):Nat->List Nat->Bool
 | 0,l=>l.all (· < n)&&(oO n l).isNone
 | f+1,l=>l.all (· < n)&&match oO n l with|none=>true|some m=>oP n f m
def jB (n c:Nat):List (List Nat):=(List.range' c (n+1-c)).flatMap λm=>m0 n 300 (List.range m)
theorem UR:∀n<11,∀m<n+1,oP n 300 (List.range m)=true:=by decide +kernel
theorem US {n c:Nat} (h:c<n+1):jB n c=m0 n 300 (List.range c)++jB n (c+1):=by
 unfold jB;have:n+1-c=(n+1-(c+1))+1:=by omega
 rw[this,List.range'_succ,List.flatMap_cons]
theorem UT {n:Nat}:jB n (n+1)=[]:=by simp[jB]
theorem UU {n f:Nat} {l:List Nat} (h:oP n f l=true):∀x∈l,x<n:=by
 cases f<;>simp only[oP,Bool.and_eq_true,List.all_eq_true,decide_eq_true_eq] at h<;>exact h.1
theorem UW {n f:Nat} {l:List Nat} (h:oO n l=none):m0 n f l=[l]:=by
 cases f<;>simp[m0,h]
theorem UX {n f:Nat} {l m:List Nat} (ω:oP n f l=true) (h:oO n l=some m):∃g,f=g+1/\m0 n f l=l::m0 n g m/\oP n g m=true:=by
 cases f with
 | zero=>simp[oP,h] at ω
 | succ g=>exact⟨g,rfl,by simp[m0,h],by simp[oP,h] at ω;exact ω.2⟩
theorem Ll {l:List Nat} {i k:Nat} (h:i+k<=l.length):(lF l i k).length=l.length:=by simp[lF];omega
theorem UY {l:List Nat} {i:Nat} (h:i<l.length):lF l i 1=l.set i (l[i]+1):=by
 unfold lF;rw[List.set_eq_take_append_cons_drop,if_pos h];simp[h]
theorem UZ {l:List Nat} {i k:Nat} (Α:0<k) (h:i+k<=l.length):(lF l i k).getD (i+k-1) 0=l.getD i 0+k:=by
 unfold lF;have Δ:(l.take i).length=i:=by simp;omega
 rw[List.getD_eq_getElem?_getD,List.append_assoc,ha (by omega),Δ,dW (by simp;omega)];have:i+k-1-i=k-1:=by omega
 rw[this,List.getElem?_map,List.getElem?_range (by omega)];simp;omega
theorem U0 {l:List Nat} {i k:Nat} (h:i+k<l.length):(lF l i k).set (i+k) (l.getD i 0+k+1)=lF l i (k+1):=by
 unfold lF;have Δ:(l.take i++(List.range k).map λj=>l.getD i 0+1+j).length=i+k:=by simp;omega
 rw[List.set_append_right _ _ (by omega),Δ,Nat.sub_self,List.range_succ,List.map_append];have Ε:l.drop (i+k)=l[i+k]::l.drop (i+k+1):=List.drop_eq_getElem_cons h;rw[Ε,List.set_cons_zero];simp;constructor<;>omega
end Go.TL
