import Derived.Conc.QuitsD
import Derived.Conc.SmallLaws
import Derived.Test.YtlabjopijpkiaaaGreatJAN
set_option maxHeartbeats 16000000
set_option maxRecDepth 20000
set_option linter.unusedSectionVars false
set_option linter.unusedSimpArgs false
set_option linter.unusedVariables false
namespace Go.TL
open Go.Proofs.Tryz
open Go.Conc
open Go.ConcM (OsLater)
open Go.ConcN (sumTo upd sumTo_upd upd_ne upd_same sumTo_congr le_sumTo)
variable [ZX]
section
variable {P:Program} {Q:Value->Prop} {mn:Bool} {x:ZZ} {b:Frame} {cs:List Frame} {nt:Nat} {o:Base} {k:List Item} {env:ω} {σ:Ο}
variable {ops:Array Oper} {i:Nat} {rest:List Nat} {op:Oper} {f:FuncId} {e:Array Value->Sem Value} {args:Array Operand} {vs:List Value}
def V3 (P:Program) (Q:Value->Prop) (mn:Bool) (x:ZZ) (b:Frame) (cs:List Frame) (nt:Nat) (o:Base) (ops:Array Oper) (rest:List Nat) (k:List Item) (op:Oper) (env:ω) (σ:Ο) (s φ:Nat) (a:ε) (v:Value):Prop:=
 V P Q mn (one {x with view:=upd x.view s (some (φ,a))}) b cs nt o (.inRegion ops rest::k) (Zt op env (.z v)) σ
def Rs (P:Program) (Q:Value->Prop) (mn:Bool) (x:ZZ) (b:Frame) (cs:List Frame) (nt:Nat) (o:Base) (ops:Array Oper) (rest:List Nat) (k:List Item) (op:Oper) (env:ω) (σ:Ο) (s φ:Nat) (c:ε) (v:Value) (o':ε) (t':Tok):Prop:=
 Act c (x.tok s) o' t'/\∀a,a<φ->V P Q mn (one {x with tok:=upd x.tok s t',view:=upd x.view s (some (a,o'))}) b cs nt o (.inRegion ops rest::k) (Zt op env (.z v)) σ
structure Seen (x:ZZ) (s:Nat) (sp:Spec) (φ:Nat) (a:ε):Prop where
 spec:a.toSpec=sp
 view:HD x s φ a
 Vp:Oy a (x.tok s)
theorem V.ext (u:XN x) {s:Nat} {sp:Spec} (A:x.spec s=some sp) (B:¬W9 (x.tok s)) (h:WL P b ops i op f e args env vs nt)
  (C:∀(w:World) (φ:Nat) (a:ε),Seen x s sp φ a->At s a w->
   (∃v w' c,(e vs.toArray).run P w=.ok v w'/\(e vs.toArray).events P w #[⟨.mark (Mark.extern f),false,true⟩]=#[⟨.mark (Mark.extern f),false,true⟩]++c/\(∀y∈c,y.sync=true/\∀g,y.loc≠.mark (Mark.extern g))/\
    Xj (λD _=>X9 s sp D) (λ_=>False) w w'/\Sm s sp x.deaf c/\
    ((At s a w'/\V3 P Q mn x b cs nt o ops rest k op env σ s φ a v)\/∃o' t',At s o' w'/\Rs P Q mn x b cs nt o ops rest k op env σ s φ a v o' t'))\/
   (U1 a (x.tok s)/\(∀n,n≠s->Tl (x.tok n))/\(e vs.toArray).run P w=.halt .blocked w)) :
  V P Q mn (one x) b cs nt o (.inRegion ops (i::rest)::k) env σ:=by
 obtain⟨R,d⟩:=h.call;refine .atomic u A B h.dst h.want λt w φ a _ p r E F H I=>?_;rcases C w φ a ⟨E,H,I⟩ F with⟨v,w',c,j,l,m,J,K,L⟩|⟨j,l,m⟩
 .refine .inl ⟨v,w',c,IM h.T' h.at_ r d (p _ _ h.Ln) j l m,J,K,L.imp id λ⟨o',t',M,N,O⟩=>⟨o',t',N,M,.inl (C8 h.T' h.at_ d),O⟩⟩
 .exact .inr ⟨j,l,wc h.T' h.at_ r d (p _ _ h.Ln) m⟩
theorem QF (a:Addr):∀y∈(#[⟨.cell a,false,true⟩,⟨.cell a,true,true⟩]:Array Event),y.loc=.cell a/\y.sync=true:=by
 intro y b;simp at b;rcases b with rfl|rfl<;>exact⟨rfl,rfl⟩
theorem QE (a:Addr) (wr:Bool):∀y∈(#[⟨.cell a,wr,true⟩]:Array Event),y.loc=.cell a/\y.sync=true:=by
 intro y b;simp at b;subst b;exact⟨rfl,rfl⟩
theorem QD {b:Addr} {es:Array Event} (h:∀y∈es,y.loc=.cell b/\y.sync=true):∀y∈es,y.sync=true/\∀g,y.loc≠.mark (Mark.extern g):=λy a=>⟨(h y a).2,λg e=>by rw[(h y a).1] at e;cases e⟩
structure MW (a o':ε):Prop where
 ZO:o'.ZO=a.ZO
 g:Y0 o'=Y0 a
 w:o'.YV=a.YV
structure QC (a o':ε):Prop where
 ZO:o'.ZO=a.ZO
 g:mwd o'=mwd a
 w:o'.YE=a.YE
section
variable {s m:Nat} {sp:Spec} (X8:XN x) (hd:0<x.deaf) (VQ:x.spec s=some sp) (VP:¬W9 (x.tok s))
include X8 hd VQ VP
theorem V.IF (d:sp.ZO=some m) {e t:Int} (h:WL P b ops i op f (Extern.Atomic.casT (.int .i32)) args env [.pointer (some ⟨m,0,none⟩),.int .i32 e,.int .i32 t] nt)
  (u:∀φ a,Seen x s sp φ a->¬mwd a=e->V3 P Q mn x b cs nt o ops rest k op env σ s φ a (.bool false)\/∃t',Rs P Q mn x b cs nt o ops rest k op env σ s φ a (.bool false) a t')
  (v:∀φ a,Seen x s sp φ a->mwd a=e->∃o' t',mwd o'=t/\o'.YE=a.YE/\MW a o'/\Rs P Q mn x b cs nt o ops rest k op env σ s φ a (.bool true) o' t') :
  V P Q mn (one x) b cs nt o (.inRegion ops (i::rest)::k) env σ:=by
 refine .ext X8 VQ VP h λw φ a p c=>.inl ?_;have j:a.ZO=some m:=by rw[p.spec];exact d
 have l:=c.Rt j
 have n:=c.MZ j 0;by_cases hv:mwd a=e
 .obtain⟨o',t',y,A,r,B⟩:=v φ a p hv;subst hv;refine⟨.bool true,_,_,(congrArg (Sem.run P · w) (casT_eq _ _)).trans (run_cas_hit_entry l n),?_,QD (QF ⟨m,0,none⟩),c.IG j d _,QG (.inr d) hd (QF ⟨m,0,none⟩),.inr ⟨o',t',c.IH j r.ZO r.g r.w ?_,B⟩⟩
  .exact(congrArg (Sem.events P · w _) (casT_eq _ _)).trans ((events_cas_hit_entry l n _).trans rfl)
  .rw[y,A];rfl
 .refine⟨.bool false,w,_,(congrArg (Sem.run P · w) (casT_eq _ _)).trans (run_cas_miss_entry l n hv),?_,QD (QE ⟨m,0,none⟩ false),Xj.refl _ _ _,QG (.inr d) hd (QE ⟨m,0,none⟩ false),?_⟩
  .exact(congrArg (Sem.events P · w _) (casT_eq _ _)).trans ((events_cas_miss_entry l n hv _).trans rfl)
  .exact(u φ a p hv).imp (λh=>⟨c,h⟩) λ⟨t',h⟩=>⟨a,t',c,h⟩
theorem V.C3 (j:sp.ZO=some m) {d:Int} (h:WL P b ops i op f (Extern.Atomic.update (Op.intArith .add) .i32 true) args env [.pointer (some ⟨m,0,none⟩),.int .i32 d] nt)
  (v:∀φ a,Seen x s sp φ a->∃o' t',mwd o'=IntKind.i32.wrap (mwd a+d)/\o'.YE=a.YE/\MW a o'/\Rs P Q mn x b cs nt o ops rest k op env σ s φ a (.int .i32 (mwd o')) o' t') :
  V P Q mn (one x) b cs nt o (.inRegion ops (i::rest)::k) env σ:=by
 refine .ext X8 VQ VP h λw φ a n c=>.inl ?_;have e:a.ZO=some m:=by rw[n.spec];exact j
 have p:=c.Rt e
 have r:=c.MZ e 0;obtain⟨o',t',t,y,l,u⟩:=v φ a n;rw[t] at u;refine⟨_,_,_,run_add_entry p r,(events_add_entry p r _).trans rfl,QD (QF ⟨m,0,none⟩),c.IG e j _,QG (.inr j) hd (QF ⟨m,0,none⟩),.inr ⟨o',t',c.IH e l.ZO l.g l.w ?_,u⟩⟩;rw[t,y];rfl
theorem V.GB (h:WL P b ops i op f (Extern.Atomic.loadT (.int .u64)) args env [.pointer (some ⟨s,0,none⟩)] nt)
  (e:∀φ a,Seen x s sp φ a->V3 P Q mn x b cs nt o ops rest k op env σ s φ a (.int .u64 (Y0 a))\/∃t',Rs P Q mn x b cs nt o ops rest k op env σ s φ a (.int .u64 (Y0 a)) a t') :
  V P Q mn (one x) b cs nt o (.inRegion ops (i::rest)::k) env σ:=by
 refine .ext X8 VQ VP h λw φ a g c=>.inl ?_;have d:=c.Tk;refine⟨.int .u64 (Y0 a),w,#[⟨.cell ⟨s,0,none⟩,false,true⟩],?_,?_,QD (QE _ false),Xj.refl _ _ _,QG (.inl rfl) hd (QE _ false),(e φ a g).imp (λh=>⟨c,h⟩) λ⟨t',h⟩=>⟨a,t',c,h⟩⟩
 .change Sem.run P (do Extern.Atomic.read (.int .u64) (<-asAddr (.pointer (some _)))) w=_;simp[Extern.Atomic.read,asAddr,d]
 .change Sem.events P (do Extern.Atomic.read (.int .u64) (<-asAddr (.pointer (some _)))) w _=_;simp[Extern.Atomic.read,asAddr,d,events_load]
theorem V.v9 {d m:Int} (h:WL P b ops i op f (Extern.Atomic.casT (.int .u64)) args env [.pointer (some ⟨s,0,none⟩),.int .u64 d,.int .u64 m] nt)
  (p:∀φ a,Seen x s sp φ a->¬Y0 a=d->V3 P Q mn x b cs nt o ops rest k op env σ s φ a (.bool false))
  (r:∀φ a,Seen x s sp φ a->Y0 a=d->∃o' t',Y0 o'=m/\o'.YV=a.YV/\QC a o'/\Rs P Q mn x b cs nt o ops rest k op env σ s φ a (.bool true) o' t') :
  V P Q mn (one x) b cs nt o (.inRegion ops (i::rest)::k) env σ:=by
 refine .ext X8 VQ VP h λw φ a n c=>.inl ?_;have e:=c.Tk;have j:=c.O7 0;by_cases hv:Y0 a=d
 .obtain⟨o',t',t,u,l,v⟩:=r φ a n hv;subst hv;refine⟨.bool true,_,_,(congrArg (Sem.run P · w) (casT_eq _ _)).trans (run_cas_hit_entry e j),?_,QD (QF ⟨s,0,none⟩),c.MX _,QG (.inl rfl) hd (QF ⟨s,0,none⟩),.inr ⟨o',t',c.MY l.ZO l.g l.w ?_,v⟩⟩
  .exact(congrArg (Sem.events P · w _) (casT_eq _ _)).trans ((events_cas_hit_entry e j _).trans rfl)
  .rw[t,u];rfl
 .refine⟨.bool false,w,_,(congrArg (Sem.run P · w) (casT_eq _ _)).trans (run_cas_miss_entry e j hv),?_,QD (QE ⟨s,0,none⟩ false),Xj.refl _ _ _,QG (.inl rfl) hd (QE ⟨s,0,none⟩ false),.inl ⟨c,p φ a n hv⟩⟩;exact(congrArg (Sem.events P · w _) (casT_eq _ _)).trans ((events_cas_miss_entry e j hv _).trans rfl)
theorem V.GA {d:Int} (h:WL P b ops i op f (Extern.Atomic.update (Op.intArith .add) .u64 true) args env [.pointer (some ⟨s,0,none⟩),.int .u64 d] nt)
  (p:∀φ a,Seen x s sp φ a->∃o' t',Y0 o'=IntKind.u64.wrap (Y0 a+d)/\o'.YV=a.YV/\QC a o'/\Rs P Q mn x b cs nt o ops rest k op env σ s φ a (.int .u64 (Y0 o')) o' t') :
  V P Q mn (one x) b cs nt o (.inRegion ops (i::rest)::k) env σ:=by
 refine .ext X8 VQ VP h λw φ a r c=>.inl ?_;have j:=c.Tk;have l:=c.O7 0;obtain⟨o',t',m,t,e,n⟩:=p φ a r;rw[m] at n;refine⟨_,_,_,run_add_entry j l,(events_add_entry j l _).trans rfl,QD (QF ⟨s,0,none⟩),c.MX _,QG (.inl rfl) hd (QF ⟨s,0,none⟩),.inr ⟨o',t',c.MY e.ZO e.g e.w ?_,n⟩⟩;rw[m,t];rfl
end
theorem C2 {w:World} {a:Addr} {n:Int} {vs:List Value} (b:vs[0]?=some (.pointer (some a))) (c:w.cell? a=some (.int .u32 n)) (d:n≠0) (e:w.frozen? a=false):(Extern.Sync.semacquire vs.toArray).run P w=.ok (.tuple #[]) (w.setCell a (.int .u32 (n-1))):=by
 simp[Extern.Sync.semacquire,Extern.Sync.count,b,c,d,e,Extern.Sync.none_,run_store P w a (.int .u32 (n-1)) .atomic rfl,Result.andThen]
theorem C1 {w:World} {a:Addr} {n:Int} {vs:List Value} (b:vs[0]?=some (.pointer (some a))) (c:w.cell? a=some (.int .u32 n)) (d:n≠0) (e:w.frozen? a=false) (es:Array Event):(Extern.Sync.semacquire vs.toArray).events P w es=es++semEvents a:=by
 simp[Extern.Sync.semacquire,Extern.Sync.count,b,c,d,e,semEvents,events_load,events_store P w _ a (.int .u32 (n-1)) .atomic rfl,run_store P w a (.int .u32 (n-1)) .atomic rfl,Result.evThen];apply NC;simp
theorem C0 {w:World} {a:Addr} {vs:List Value} (b:vs[0]?=some (.pointer (some a))) (c:w.cell? a=some (.int .u32 0)):(Extern.Sync.semacquire vs.toArray).run P w=.halt .blocked w:=by
 simp[Extern.Sync.semacquire,Extern.Sync.count,b,c]
theorem CZ {w:World} {a:Addr} {n:Int} {vs:List Value} (b:vs[0]?=some (.pointer (some a))) (c:w.cell? a=some (.int .u32 n)) (d:w.frozen? a=false):(Extern.Sync.semrelease vs.toArray).run P w=.ok (.tuple #[]) (w.setCell a (.int .u32 (IntKind.u32.wrap (n+1)))):=by
 simp[Extern.Sync.semrelease,Extern.Sync.count,b,c,d,Extern.Sync.none_,Op.intArith,run_store P w a (.int .u32 (IntKind.u32.wrap (n+1))) .atomic rfl,Result.andThen]
theorem CY {w:World} {a:Addr} {n:Int} {vs:List Value} (b:vs[0]?=some (.pointer (some a))) (c:w.cell? a=some (.int .u32 n)) (d:w.frozen? a=false) (es:Array Event):(Extern.Sync.semrelease vs.toArray).events P w es=es++semEvents a:=by
 simp[Extern.Sync.semrelease,Extern.Sync.count,b,c,d,semEvents,Op.intArith,events_load,events_store P w _ a (.int .u32 (IntKind.u32.wrap (n+1))) .atomic rfl,run_store P w a (.int .u32 (IntKind.u32.wrap (n+1))) .atomic rfl,Result.evThen];apply NC;simp
theorem IE {s b c d:Nat} {sp:Spec} (e:X9 s sp b):Sm s sp d (semEvents ⟨b,c,none⟩):=by
 refine⟨by simp[deafBehind,semEvents],λj y a=>?_⟩
 match j,a with
 | 0,a=>simp[semEvents] at a;subst a;exact .inl rfl
 | 1,a=>simp[semEvents] at a;subst a;exact .inr (.inr ⟨b,c,false,rfl,e,by simp[semEvents,deafBehind]⟩)
 | 2,a=>simp[semEvents] at a;subst a;exact .inr (.inr ⟨b,c,true,rfl,e,by simp[semEvents,deafBehind]⟩)
 | 3,a=>simp[semEvents] at a;subst a;exact .inr (.inl rfl)
 | j+4,a=>simp[semEvents] at a
section
variable {s m:Nat} {sp:Spec} (X8:XN x) (VQ:x.spec s=some sp) (VP:¬W9 (x.tok s))
include X8 VQ VP
theorem V.v8 (e:sp.ZO=some m) (j:vs[0]?=some (.pointer (some ⟨m,1,none⟩))) (u:∀r,r≠s->Tl (x.tok r)) (h:WL P b ops i op f Extern.Sync.semacquire args env vs nt)
  (v:∀φ a,Seen x s sp φ a->a.YE=0->U1 a (x.tok s))
  (y:∀φ a,Seen x s sp φ a->0<a.YE->∃o' t',mwd o'=mwd a/\o'.YE=a.YE-1/\MW a o'/\Rs P Q mn x b cs nt o ops rest k op env σ s φ a (.tuple #[]) o' t') :
  V P Q mn (one x) b cs nt o (.inRegion ops (i::rest)::k) env σ:=by
 refine .ext X8 VQ VP h λw φ a l c=>?_;have d:a.ZO=some m:=by rw[l.spec];exact e
 have n:=c.C6 d;by_cases hv:a.YE=0
 .exact .inr ⟨v φ a l hv,u,C0 j (by rw[n,hv];rfl)⟩
 .obtain⟨o',t',A,B,p,C⟩:=y φ a l U;have t:((a.YE:Nat):Int)≠0:=U;refine .inl ⟨_,_,_,C2 j n t (c.MZ d 1),C1 j n t (c.MZ d 1) _,semEvents_sync _,c.IG d e _,IE (.inr e),.inr ⟨o',t',c.IH d p.ZO p.g p.w ?_,C⟩⟩;rw[A,B,show((a.YE:Nat):Int)-1=((a.YE-1:Nat):Int) by omega];rfl
theorem V.v7 (d:vs[0]?=some (.pointer (some ⟨s,1,none⟩))) (p:∀l,l≠s->Tl (x.tok l)) (h:WL P b ops i op f Extern.Sync.semacquire args env vs nt)
  (r:∀φ a,Seen x s sp φ a->a.YV=0->U1 a (x.tok s))
  (t:∀φ a,Seen x s sp φ a->0<a.YV->∃o' t',Y0 o'=Y0 a/\o'.YV=a.YV-1/\QC a o'/\Rs P Q mn x b cs nt o ops rest k op env σ s φ a (.tuple #[]) o' t') :
  V P Q mn (one x) b cs nt o (.inRegion ops (i::rest)::k) env σ:=by
 refine .ext X8 VQ VP h λw φ a m c=>?_;have e:=c.II;by_cases hv:a.YV=0
 .exact .inr ⟨r φ a m hv,p,C0 d (by rw[e,hv];rfl)⟩
 .obtain⟨o',t',u,v,j,y⟩:=t φ a m U;have n:((a.YV:Nat):Int)≠0:=U;refine .inl ⟨_,_,_,C2 d e n (c.O7 1),C1 d e n (c.O7 1) _,semEvents_sync _,c.MX _,IE (.inl rfl),.inr ⟨o',t',c.MY j.ZO j.g j.w ?_,y⟩⟩;rw[u,v,show((a.YV:Nat):Int)-1=((a.YV-1:Nat):Int) by omega];rfl
theorem V.CX (e:sp.ZO=some m) (l:vs[0]?=some (.pointer (some ⟨m,1,none⟩))) (h:WL P b ops i op f Extern.Sync.semrelease args env vs nt)
  (r:∀φ a,Seen x s sp φ a->a.YE<1000/\∃o' t',mwd o'=mwd a/\o'.YE=a.YE+1/\MW a o'/\Rs P Q mn x b cs nt o ops rest k op env σ s φ a (.tuple #[]) o' t') :
  V P Q mn (one x) b cs nt o (.inRegion ops (i::rest)::k) env σ:=by
 refine .ext X8 VQ VP h λw φ a n c=>.inl ?_;have d:a.ZO=some m:=by rw[n.spec];exact e
 have p:=c.C6 d;obtain⟨y,o',t',t,u,j,v⟩:=r φ a n;refine⟨_,_,_,CZ l p (c.MZ d 1),CY l p (c.MZ d 1) _,semEvents_sync _,c.IG d e _,IE (.inr e),.inr ⟨o',t',c.IH d j.ZO j.g j.w ?_,v⟩⟩;rw[t,u,show IntKind.u32.wrap (((a.YE:Nat):Int)+1)=((a.YE+1:Nat):Int) by simp only[IntKind.wrap_u32];omega];rfl
end
end
end Go.TL
namespace Go.TL
open Go.Proofs.Tryz
open Go.Conc
open Go.ConcM (OsLater)
open Go.ConcN (sumTo upd sumTo_upd upd_ne upd_same sumTo_congr le_sumTo)
open Go.ConcR (mk)
variable [ZX]
section
variable {P:Program} {T:ZR} {Q:Value->Prop} {mn:Bool} {x:ZZ} {z:W2} {b:Frame} {cs:List Frame} {nt:Nat} {o:Base} {k:List Item} {env:ω} {σ:Ο}
variable {ops:Array Oper} {i:Nat} {rest:List Nat} {op:Oper} {f:FuncId} {e:Array Value->Sem Value} {args:Array Operand} {vs:List Value} {fn:Func}
theorem TI {S:μ} {B:Z8} {l:List Value} {vs:Array Value} (h:Xv S B σ (l.map Ω.z) vs):vs=l.toArray:=by
 apply NC;apply VJ;intro i;have a:=h.1;rw[Yp] at a;by_cases hi:i<l.length
 .have b:(l.map Ω.z)[i]?=some (.z l[i]):=by rw[YU,δ hi];rfl
  have Φ:vs[i]?=some vs[i]:=XG U
  have:=h.2 i _ _ b Φ
  have:vs[i]=l[i]:=by generalize vs[i]=u at this;cases this;rfl
  rw[Wv,Φ,this];simp[hi]
 .rw[Wv,NL U];simp;omega
theorem V.call (n:Seq z) (j:TJ b ops i op) (p:XK env ops op=some true) {y:Operand} {r:Array TypeId} (l:op.op=.call ⟨.value y,args,r⟩) {g:FuncId} {first captured:κ} (s:ζ env y=.fn (.func g) first captured) (u:Plain P g)
  (h:∀(S:μ) (B:Z8) (H:Χ) (t:Array Value) (vs:Array Value),XX o.m o.S o.B o.H o.σ S B H σ->Xw o.m nt S B H σ env t->Xv S B σ (first++args.toList.map (ζ env)++captured) vs->
   ι P Q mn z (Frame.enter P g vs .normal) (ο b t (.inRegion ops (i::rest)::k)::cs) H):V P Q mn z b cs nt o (.inRegion ops (i::rest)::k) env σ:=by
 intro S B H t v a;refine .op n j.run j.op (U0 a.Zm p) (.inr λc=>by rw[l];simp) ?_;have e:execOp (ZN t) op=(do let d <-Deferred.ofValue (ZN t y) (args.map (ZN t));invoke d.target d.args):=by unfold execOp;rw[l];rfl
 rw[e];have f:=Ud a.Zm y;have w:=GL a.Zm args;rw[s] at f;generalize ZN t y=N at f;cases f with
 | fn x A C D E F=>
  refine Ψ.bind' (Ψ.pure' ?_);obtain⟨fn,I,J,K⟩:=u;unfold invoke;simp only;unfold callFunc;refine Ψ.bind' ?_;show Ψ P (match P.funcs[g]? with|none=>_|some fn=>_) H _ _;rw[I];simp only[J,K,W',if_false];refine Ψ.pure' ?_;have L:Xv S B σ first x:=⟨C,E⟩
  have M:Xv S B σ captured A:=⟨D,F⟩;exact h S B H t _ v a ((L.append w).append M)
theorem V.Rr {g:FuncId} {body:Code} (e:P.funcs[g]?=some fn) (f:fn.body=some body) {c:Frame} {S:μ} {B:Z8} {H:Χ} (j:Holds S B σ H) (k:vs.length<=fn.ntmps)
  (h:V P Q mn z (Frame.enter P g vs.toArray .normal) (c::cs) fn.ntmps ⟨S,[],H,[],0⟩ [.code body] (entry 0 (vs.map Ω.z)) []):ι P Q mn z (Frame.enter P g vs.toArray .normal) (c::cs) H:=by
 rw[SF e f];refine h.here (Xw.enter j.bare ⟨I,λi a v b d=>?_⟩ (γ _) (by simpa using k));simp only[YU,List.getElem?_toArray] at b d;rw[d] at b;cases b;exact .z v
theorem V.Gz (a:Seq z) (d:b.mode=.run) (e:b.roundOf=none) (f:b.defers=[]) (g:b.kind=.normal) (i:P.funcs[b.fn]?=some fn) (j:fn.results=#[]) {c:Frame}
  (h:∀(S:μ) (B:Z8) (H:Χ),XX o.m o.S o.B o.H o.σ S B H σ->Holds S B σ H->ι P Q mn z (c.finish (.tuple #[])) cs H):V P Q mn z b (c::cs) nt o (.code .ret::k) env σ:=by
 intro S B H t l n;refine .ret a d e (.back a rfl f (.inl g) i ?_);rw[results_none j];exact Ψ.pure' (h S B H l n.holds)
theorem V.ID (a:Seq z) (d:b.mode=.run) (e:b.roundOf=none) (f:b.defers=[]) (g:b.kind=.normal) (i:P.funcs[b.fn]?=some fn) (j:fn.results=#[]) {c:Frame}
  (h:∀(S:μ) (B:Z8) (H:Χ),XX o.m o.S o.B o.H o.σ S B H σ->Holds S B σ H->ι P Q mn z (c.finish (.tuple #[])) cs H):V P Q mn z b (c::cs) nt o [] env σ:=by
 intro S B H t k l;refine .P9 a d e (.back a rfl f (.inl g) i ?_);rw[results_none j];exact Ψ.pure' (h S B H k l.holds)
theorem V.PK (a:Seq z) (g:b.mode=.run) (i:b.roundOf=none) (j:b.defers=[]) (l:b.kind=.normal) (n:P.funcs[b.fn]?=some fn) {d:Nat} (p:fn.results=#[.tmp d]) {v:Value} (hv:Z7 env d=.z v) {c:Frame}
  (h:∀(S:μ) (B:Z8) (H:Χ),XX o.m o.S o.B o.H o.σ S B H σ->Holds S B σ H->ι P Q mn z (c.finish v) cs H):V P Q mn z b (c::cs) nt o (.code .ret::k) env σ:=by
 intro S B H t r f;refine .ret a g i (.back a rfl j (.inl l) n ?_);have e:results fn t=pure (t.getD d undef):=by unfold results;rw[p];simp
 have s:t.getD d undef=v:=by
  have:=f.Zm d;rw[hv] at this;generalize t.getD d undef=u at this;cases this;rfl
 show Ψ P (results fn t) H _ _;rw[e,s];exact Ψ.pure' (h S B H r f.holds)
theorem v5 {w:World} {b:TypeId} {e:IntKind} (c:P.underlying b=some (.int e)) {a:Addr} {v:Value} (d:w.cell? a=some v):(Instr.loadAt b (.pointer (some a))).run P w=.ok v w/\(Instr.loadAt b (.pointer (some a))).events P w #[]=#[⟨.cell a,false,false⟩]:=by
 constructor
 .simp[Instr.loadAt,Instr.sureAddr,loadVar,isAgg,run_underlying c,d,Result.andThen]
 .simp[Instr.loadAt,Instr.sureAddr,loadVar,isAgg,run_underlying c,d,events_load,Result.evThen]
theorem v3 {t:Array Value} {w:World} (a:TJ b ops i op) (g:Region.wanted op (yielded ops t)=true) {d:TypeId} {y:Operand} (h:op.op=.load d y) {j:IntKind} (l:P.underlying d=some (.int j)) {c:Addr} (m:ZN t y=.pointer (some c)) {v:Value} (n:w.cell? c=some v) (o:(P.funcs[b.fn]?).any (·.norace)=true) :
  stepG P mn (Go.Conc.G (ο b t (.inRegion ops (i::rest)::k)) cs) w=.go (Go.Conc.G (ο b (put op t v) (.inRegion ops rest::k)) cs) w #[]:=by
 obtain⟨f,p⟩:=v5 (P:=P) l n;have e:execOp (ZN t) op=(do pure (.value (<-Instr.loadAt d (.pointer (some c))))):=by unfold execOp;rw[h,<-m]
 rw[WY a.run a.ro,WY a.run a.ro,<-O9];have r:(execOp (⟨t,b.defers⟩:_root_.Go.Act).eval op).run P w=.ok (.value v) w:=by rw[T5,e];simp[f,Result.andThen]
 have s:(execOp (⟨t,b.defers⟩:_root_.Go.Act).eval op).events P w #[]=#[⟨.cell c,false,false⟩]:=by rw[T5,e];simp[f,p,Result.evThen]
 rw[stepG_value a.op g a.kd r];unfold listed;rw[s,seen_def,o];simp[seenStep]
section
variable {s:Nat} {sp:Spec} (X8:XN x) (VQ:x.spec s=some sp) (VP:¬W9 (x.tok s))
include X8 VQ VP
theorem V.MV (l:TJ b ops i op) (hd:WO nt op=true) (m:XK env ops op=some true) {f:TypeId} {y:Operand} (n:op.op=.load f y) {c:IntKind} (p:P.underlying f=some (.int c)) {g:Addr} (r:ζ env y=.z (.pointer (some g))) (u:(P.funcs[b.fn]?).any (·.norace)=true)
  (d:ε->Int) (v:∀(a:ε) (w:World),a.toSpec=sp->At s a w->w.cell? g=some (.int c (d a)))
  (A:∀φ a,Seen x s sp φ a->V3 P Q mn x b cs nt o ops rest k op env σ s φ a (.int c (d a))\/∃t',Rs P Q mn x b cs nt o ops rest k op env σ s φ a (.int c (d a)) a t') :
  V P Q mn (one x) b cs nt o (.inRegion ops (i::rest)::k) env σ:=by
 refine .atomic X8 VQ VP hd m λt w φ a B _ C j e D E=>.inl ?_;refine⟨.int c (d a),w,#[],v3 l C n p (B _ _ r) (v a w j e) u,Xj.refl _ _ _,C4,?_⟩;exact(A φ a ⟨j,D,E⟩).imp (λh=>⟨e,h⟩) λ⟨t',F,H⟩=>⟨a,t',F,e,.inr rfl,H⟩
theorem V.conv (c:TJ b ops i op) (hd:WO nt op=true) (n:XK env ops op=some true) {src dst t0:TypeId} {y:Operand} (p:op.op=.convert src dst y) (f:P.underlying src=some (.pointer t0)) (g:P.underlying dst=some .unsafePointer) (h:(P.info? t0).map (λi=>decide (i.size=0))=some false) {d:Addr} (r:ζ env y=.z (.pointer (some d)))
  (u:∀(a:ε) (w:World),a.toSpec=sp->At s a w->∃v,w.cell? d=some v)
  (A:∀φ a,Seen x s sp φ a->V3 P Q mn x b cs nt o ops rest k op env σ s φ a (.pointer (some d))) :
  V P Q mn (one x) b cs nt o (.inRegion ops (i::rest)::k) env σ:=by
 refine .atomic X8 VQ VP hd n λt w φ a B _ C j l D E=>.inl ?_;obtain⟨v,hv⟩:=u a w j l;refine⟨.pointer (some d),w,#[],?_,Xj.refl _ _ _,C4,.inl ⟨l,A φ a ⟨j,D,E⟩⟩⟩;have m:=run_convert_to_unsafe (P:=P) f g h hv;have F:=events_convert_to_unsafe (P:=P) f g h hv #[];have e:execOp (ZN t) op=(do pure (.value (<-convert src dst (.pointer (some d))))):=by unfold execOp;rw[p,<-B _ _ r]
 rw[WY c.run c.ro,WY c.run c.ro,<-O9];have H:(execOp (⟨t,b.defers⟩:_root_.Go.Act).eval op).run P w=.ok (.value (.pointer (some d))) w:=by rw[T5,e];simp[m,Result.andThen]
 have I:(execOp (⟨t,b.defers⟩:_root_.Go.Act).eval op).events P w #[]=#[]:=by rw[T5,e];simp[m,F,Result.evThen]
 rw[stepG_value c.op C c.kd H];unfold listed;rw[I,seen_none]
end
theorem vZ (w:World):OsLater w.os w.later.os:=⟨w.tick,rfl⟩
theorem Yo.later {H:Χ} {w:World} (h:Fits H w):Yo H w H w.later #[]:=
 ⟨⟨h.θ,h.row,h.obj⟩,⟨γ _,λb c t f a=>⟨c,a,rfl,λ_ _=>rfl⟩,λb x a _ _=>a,vZ w,rfl,rfl⟩,⟨λb o v p h=>.inr ⟨v,p,h,id⟩,λb h=>.inr h⟩,λe d=>by simp at d⟩
theorem V.nano (g:Seq z) (h:WL P b ops i op f Extern.OsHooks.nano args env vs nt) (c:(P.funcs[f]?).any (·.norace)=true) (j:∀τ:Int,V P Q mn z b cs nt o (.inRegion ops rest::k) (Zt op env (.z (.int .i64 τ))) σ):V P Q mn z b cs nt o (.inRegion ops (i::rest)::k) env σ:=by
 intro S B H t l d;obtain⟨fn,e,m,n,p,r⟩:=h.T';obtain⟨v,s⟩:=h.call;rw[e] at c;refine ι.own g λw u=>⟨_,_,_,_,H,?_,Yo.later u,j ((w.os.mono+w.tick:Nat):Int) S B H _ l (d.put h.dst (.z _))⟩;rw[WY h.at_.run h.at_.ro,stepG_nanotime (a:=⟨t,b.defers⟩) h.at_.op (U0 d.Zm h.want) h.at_.kd s e m n p r (by simpa using c),O9,<-WY h.at_.run h.at_.ro]
theorem V.canSpin (e:Seq z) {n:Int} (h:WL P b ops i op f Extern.Sync.canSpin args env [.int .i64 n] nt) (g:∀y:Bool,(y=true->n<4)->V P Q mn z b cs nt o (.inRegion ops rest::k) (Zt op env (.z (.bool y))) σ):V P Q mn z b cs nt o (.inRegion ops (i::rest)::k) env σ:=by
 intro S B H t j c;obtain⟨fn,l,m,p,r,s⟩:=h.T';obtain⟨A,u⟩:=h.call;have v:args.map (⟨t,b.defers⟩:_root_.Go.Act).eval=#[.int .i64 n]:=by rw[T5];exact h.Ln.ZN c.Zm
 by_cases x:n<4
 .refine ι.own e λw d=>⟨_,_,_,_,H,?_,(Yo.start d).draw (w.drawn+1),g w.spins (λ_=>x) S B H _ j (c.put h.dst (.z _))⟩;rw[WY h.at_.run h.at_.ro,stepG_canSpin_ask (a:=⟨t,b.defers⟩) h.at_.op (U0 c.Zm h.want) h.at_.kd u l m p r s v x,O9,<-WY h.at_.run h.at_.ro];rfl
 .refine ι.own e λw d=>⟨_,_,w,#[],H,?_,Yo.start d,g false (λh=>by cases h) S B H _ j (c.put h.dst (.z _))⟩;rw[WY h.at_.run h.at_.ro,stepG_canSpin_no (a:=⟨t,b.defers⟩) h.at_.op (U0 c.Zm h.want) h.at_.kd u l m p r s v U,O9,<-WY h.at_.run h.at_.ro]
theorem V.IC (c:Seq z) {v:Value} (h:WL P b ops i op f (λ_=>pure v) args env vs nt) (d:V P Q mn z b cs nt o (.inRegion ops rest::k) (Zt op env (.z v)) σ):V P Q mn z b cs nt o (.inRegion ops (i::rest)::k) env σ:=
 λS B H t e a=>ι.own c λw g=>⟨_,_,w,#[],H,h.step a.Zm I I I,Yo.start g,d S B H _ e (a.put h.dst (.z v))⟩
theorem V.Gy (g:Seq z) (c:TJ b ops i op) (j:XK env ops op=some true) (d:op.dst=none) {l:Array TypeId} (m:op.op=.defer ⟨.value (.func f),#[],l⟩)
  (h:V P Q mn z {b with defers:=Go.Conc.dcall f #[]::b.defers} cs nt o (.inRegion ops rest::k) env σ):V P Q mn z b cs nt o (.inRegion ops (i::rest)::k) env σ:=by
 intro S B H t n e;have p:put op t undef=t:=by unfold put;rw[d]
 refine ι.still g (f':=ο {b with defers:=Go.Conc.dcall f #[]::b.defers} t (.inRegion ops rest::k)) (cs':=cs) (λw=>?_) (h S B H t n e);rw[WY c.run c.ro,stepG_defer (a:=⟨t,b.defers⟩) c.op (U0 e.Zm j) c.kd m];have:(⟨t,Go.Conc.dcall f #[]::b.defers⟩:_root_.Go.Act).put op.dst undef=⟨t,Go.Conc.dcall f #[]::b.defers⟩:=by rw[d];rfl
 simp only[Array.map_empty,List.map_toArray,UA];rw[this,WY (b:={b with defers:=Go.Conc.dcall f #[]::b.defers}) c.run c.ro];rfl
theorem Zd.vY (e:XN x) (hd:0<x.deaf) (c:b.mode=.run) (d:b.roundOf=none) {ds:List Deferred} (g:b.defers=Go.Conc.dcall f #[]::ds) (i:Entry P f (λ_=>do mark .enable;pure Extern.Race.none_)) {H:Χ} {t:Array Value}
  (h:Zd P Q mn {x with deaf:=x.deaf-1} {ο {b with defers:=ds} t k with mode:=.returning} cs H):Zd P Q mn x {ο b t k with mode:=.returning} cs H:=by
 obtain⟨fn,j,l,m,n,o⟩:=i;refine Goes.step e.ok (.inr ⟨⟨rfl,rfl⟩,.inr (.inl ⟨Go.Conc.G {ο {b with defers:=ds} t k with mode:=.returning} cs,⟨rfl,rfl⟩,.inr ⟨hd,λw _=>⟨?_,h⟩⟩⟩)⟩);rw[WY c d,WY (b:={b with defers:=ds}) c d];exact stepG_unwind_entry (a:=⟨t,b.defers⟩) (v:=.tuple #[]) g j l m n o (IK .enable) (IJ .enable _) (QH I)
end
inductive Quiet (P:Program) (mn:Bool):Goroutine->Goroutine->Prop where
 | nil (g:Goroutine):Quiet P mn g g
 | cons {g g' a:Goroutine}:VI g->(∀w,stepG P mn g w=.go g' w #[])->Quiet P mn g' a->Quiet P mn g a
section
variable {P:Program} {Q:Value->Prop} {mn:Bool} {x:ZZ} {g g':Goroutine}
theorem Quiet.runs (h:Quiet P mn g g') (a:VI g'):VI g:=by
 cases h with
 | nil=>exact a
 | cons b=>exact b
theorem Quiet.goes (h:Quiet P mn g g') (i:XN x) (d:VI g') (f:Goes P Q mn g' x):Goes P Q mn g x:=by
 induction h with
 | nil=>exact f
 | cons j k l m=>
  refine Goes.step i.ok (.inr ⟨j,.inl λw n hv=>?_⟩);rw[k w];refine⟨x.G,x.Z3,l.runs d,Xj.refl _ _ _,n,hv,⟨λb o v p h=>.inr ⟨v,p,h,id⟩,λb h=>.inr h⟩,λb c h=>.inl h,λe a=>by simp at a,λb c _ _ e a=>by simp at a,m d f⟩
end
end Go.TL
namespace Go.TL
open Go.Proofs.Tryz
open Go.Conc Go.Proofs
variable [ZX]
def PJ (P:Program) (a:Value->Prop) (mn:Bool) (x:W2) (b:Frame) (cs:List Frame) (nt:Nat) (o:Base) (L:Nat) (r:Loop) (k:List Item) (env:ω) (σ:Ο):Prop:=
 ∀(S:μ) (B:Z8) (H:Χ) (t:Array Value),XX o.m o.S o.B o.H o.σ S B H σ->Xw o.m nt S B H σ env t->¬B.has L->H.obj L=some (.loop r)->ι P a mn x (ο b t k) cs H
theorem Vy {S e:μ} {B B':Z8} {H H':Χ} (b:Ext S B H e B' H') {L:Nat} {y:Obj} (c:¬B.has L) (a:H.obj L=some y):¬B'.has L/\H'.obj L=some y:=by
 have d:¬H.fresh L:=λh=>by rw[h.2.2.1] at a;cases a
 exact⟨λh=>(b.blocks L h).elim c d,by rw[(b.Xf L c d).2.2];exact a⟩
theorem vX {H:Χ} {L:Nat} {y:Obj} (f:H.XF L):∀b,(H.ZU L y).fresh b↔H.fresh b:=by
 obtain⟨z,g⟩:=f;have d:∀b,((H.ZU L y).obj b=none↔H.obj b=none):=λb=>by
  by_cases e:b=L
  .subst e;simp[Χ.ZU,g]
  .simp[Χ.ZU,e]
 exact λb=>⟨λh=>⟨h.1,h.2.1,(d b).1 h.2.2.1,λa c=>⟨(h.2.2.2 a c).1,(h.2.2.2 a c).2.1,(d a).1 (h.2.2.2 a c).2.2⟩⟩,
  λh=>⟨h.1,h.2.1,(d b).2 h.2.2.1,λa c=>⟨(h.2.2.2 a c).1,(h.2.2.2 a c).2.1,(d a).2 (h.2.2.2 a c).2.2⟩⟩⟩
theorem Holds.ZU {S:μ} {B:Z8} {σ:Ο} {H:Χ} {L:Nat} {y:Obj} (a:Holds S B σ H) (i:¬B.has L):Holds S B σ (H.ZU L y):=by
 have d:∀b,b≠L->UL H (H.ZU L y) b:=λb c=>⟨λ_=>rfl,rfl,by simp[Χ.ZU,c]⟩
 have f:∀(id b N:Nat),B[id]?=some (some (b,N))->b≠L:=λid b N h e=>i (e▸Sd h);refine⟨a.YO,a.len,λid r bo j g=>?_,a.inj,a.sep⟩;by_cases k:r.live
 .refine(a.row id r bo j g).later (Zx.refl S B σ) (λb N e=>d b (f id b N (by rw[g,e]))) λm left l e=>⟨rfl,rfl,λb N c=>d b (f m b N c)⟩
 .cases r<;>first|exact absurd trivial k|trivial
theorem Ext.ZU {f S:μ} {g B:Z8} {c H:Χ} {L:Nat} {y:Obj} (a:Ext f g c S B H) (i:c.fresh L) (j:H.XF L):Ext f g c S B (H.ZU L y):=by
 refine⟨a.YO,λb d h=>?_,a.blocks,a.QT,λb d=>a.grow b ((vX j b).1 d)⟩;have:b≠L:=λe=>h (e▸i);obtain⟨k,l,m⟩:=a.Xf b d h;exact⟨k,l,by simp[Χ.ZU,this,m]⟩
section
variable {P:Program} {T:ZR} {Q:Value->Prop} {mn:Bool} {x:W2} {b:Frame} {cs:List Frame} {nt:Nat} {o:Base} {L:Nat} {r:Loop} {k:List Item} {env:ω} {σ:Ο}
theorem PJ.XO (g:Seq x) (i:b.mode=.run) (h:W P o.m nt k env σ (PJ P Q mn x b cs nt o L r) (λ_ _ _=>False)):PJ P Q mn x b cs nt o L r k env σ:=
 λS B H t l n p s=>h Q mn x cs b S B H t g i n (λj env' σ' c B' H' t' d u f w y=>by
  have e:d=j:=y;subst e;obtain⟨A,C⟩:=Vy f.ext p s;exact u c B' H' t' (l.trans f) w A C) (λa env' σ' c B' H' t' d v D=>D.elim)
theorem PJ.yield (s:Seq x) {ops:Array Oper} {i:Nat} {rest:List Nat} {f:Oper} (l:TJ b ops i f) (u:XK env ops f=some true) {y:Operand} {args:Array Operand} {v:Array TypeId} (n:f.op=.call ⟨.value y,args,v⟩) (w:ζ env y=.fn (.yield L) [] []) (A:args.size=r.params.size)
  (h:∀(S:μ) (B:Z8) (H:Χ) (t:Array Value) (vs:Array Value),XX o.m o.S o.B o.H o.σ S B H σ->Xw o.m nt S B H σ env t->¬B.has L->H.obj L=some (.loop r)->Xv S B σ (args.toList.map (ζ env)) vs->
   ι P Q mn x (Frame.round L r.fn ((r.params.zip vs).foldl (λC (t,a)=>C.setIfInBounds t a) r.tmps) r.assign r.body .normal) (ο b t (.inRegion ops (i::rest)::k)::cs) H):PJ P Q mn x b cs nt o L r (.inRegion ops (i::rest)::k) env σ:=by
 intro S B H t D g E p;refine ι.op s l.run l.op (U0 g.Zm u) (.inr λc=>by rw[n];simp) ?_;have e:execOp (ZN t) f=(do let d <-Deferred.ofValue (ZN t y) (args.map (ZN t));invoke d.target d.args):=by unfold execOp;rw[n];rfl
 rw[e];have j:=Ud g.Zm y;have F:=GL g.Zm args;rw[w] at j;generalize ZN t y=R at j;cases j with
 | fn I J K M T U=>
  have N:I=#[]:=Mo (by rw[<-K];rfl)
  have Φ:J=#[]:=Mo (by rw[<-M];rfl);subst N;subst Φ;refine Ψ.bind' (Ψ.pure' ?_);have O:invoke (Target.fn (Fn.yield L) #[]) (#[]++args.map (ZN t))=Instr.yield L (args.map (ZN t)):=by simp[invoke]
  show Ψ P (invoke (Target.fn (Fn.yield L) #[]) (#[]++args.map (ZN t))) H _ _;rw[O];unfold Instr.yield;refine Ψ.bind' (Ψ.getLoop p ?_);rw[if_neg (by simp[A])];refine Ψ.bind' (Ψ.pure' (Ψ.pure' ?_));exact h S B H t _ D g E p F
end
end Go.TL
namespace Go.TL
open Go.Proofs.Tryz
open Go.Conc Go.Proofs
def Rq (n:Nat) (l:List Nat):Nat->Option Nat
 | 0=>none
 | e+1=>if l.getD e 0+l.length=n+e then Rq n l e else some e
def TH (l:List Nat) (i:Nat) (k:Nat):List Nat:=l.take i++((List.range k).map λj=>l.getD i 0+1+j)++l.drop (i+k)
def Rp (n:Nat) (l:List Nat):Option (List Nat):=(Rq n l l.length).map λi=>TH l i (l.length-i)
def S6 (n:Nat):Nat->List Nat->List (List Nat)
 | 0,l=>[l]
 | f+1,l=>l::match Rp n l with|none=>[]|some m=>S6 n f m
def Ro (n:Nat):Nat->List Nat->Bool
 | 0,l=>l.all (· < n)&&(Rp n l).isNone
 | f+1,l=>l.all (· < n)&&match Rp n l with|none=>true|some m=>Ro n f m
def V2 (n c:Nat):List (List Nat):=(List.range' c (n+1-c)).flatMap λm=>S6 n 1000 (List.range m)
theorem vW:∀n<13,∀m<n+1,Ro n 1000 (List.range m)=true:=by decide +kernel
theorem CW {n c:Nat} (h:c<n+1):V2 n c=S6 n 1000 (List.range c)++V2 n (c+1):=by
 unfold V2;have:n+1-c=(n+1-(c+1))+1:=U;rw[this,Kq,List.flatMap_cons]
theorem vV {n:Nat}:V2 n (n+1)=[]:=by simp[V2]
theorem vU {n f:Nat} {l:List Nat} (h:Ro n f l=true):∀x∈l,x<n:=by
 cases f<;>simp only[Ro,Wt,WQ,decide_eq_true_eq] at h<;>exact h.1
theorem vT {n f:Nat} {l:List Nat} (h:Rp n l=none):S6 n f l=[l]:=by
 cases f<;>simp[S6,h]
theorem vS {n f:Nat} {l m:List Nat} (a:Ro n f l=true) (h:Rp n l=some m):∃g,f=g+1/\S6 n f l=l::S6 n g m/\Ro n g m=true:=by
 cases f with
 | zero=>simp[Ro,h] at a
 | succ g=>exact⟨g,rfl,by simp[S6,h],by simp[Ro,h] at a;exact a.2⟩
theorem CV {l:List Nat} {i k:Nat} (h:i+k<=l.length):(TH l i k).length=l.length:=by simp[TH];omega
theorem vR {l:List Nat} {i:Nat} (h:i<l.length):TH l i 1=l.set i (l[i]+1):=by
 unfold TH;rw[List.set_eq_take_append_cons_drop,if_pos h];simp[h]
theorem vQ {l:List Nat} {i k:Nat} (b:0<k) (h:i+k<=l.length):(TH l i k).getD (i+k-1) 0=l.getD i 0+k:=by
 unfold TH;have a:(l.take i).length=i:=by simp;omega
 rw[Xr,Vi,W8 U,a,YK (by simp;omega)];have:i+k-1-i=k-1:=U;rw[this,YU,Q8 U];simp;omega
theorem vP {l:List Nat} {i k:Nat} (h:i+k<l.length):(TH l i k).set (i+k) (l.getD i 0+k+1)=TH l i (k+1):=by
 unfold TH;have a:(l.take i++(List.range k).map λj=>l.getD i 0+1+j).length=i+k:=by simp;omega
 rw[Pz _ _ U,a,Q5,V0,Yc];have Φ:l.drop (i+k)=l[i+k]::l.drop (i+k+1):=OS h;rw[Φ,List.set_cons_zero];simp;constructor<;>omega
end Go.TL
namespace Go.TL
open Go.Proofs.Tryz
open Go.Proofs
theorem W.vO [ZX] {nt:Nat} {E:Yn} {m:Nat} {k:List Item} {env:ω} {σ:Ο} {Z:X7} {is a:List Nat} (_:is=is) (_:a=a) {ops:Array Oper} {l:List Nat} (c:l=is++a) (h:∀b:ω->Ο->Prop,(∀env σ,W prog m nt (.inRegion ops a::k) env σ Z E->b env σ)->run prog ZS [] nt ops is env σ b E):W prog m nt (.inRegion ops l::k) env σ Z E:=W.part Ρ is a c h
theorem Xu (a b:List Nat) {p q:Prop} (k:q) (h:a=a->b=b->q->p:=by intro c d k;refine W.vO c d rfl λf e=>?_;(try simp);(repeat (rw[Ν];simp));apply e;exact k):p:=h rfl rfl k
end Go.TL
namespace Go.TL
open Go.Proofs.Tryz
open Go.Conc Go.Proofs
open Go.ConcN (sumTo upd sumTo_upd upd_ne upd_same sumTo_congr le_sumTo)
theorem Gx {B:Type} (f:Nat->B) (s:Nat) (a b:B):upd (upd f s a) s b=upd f s b:=by
 funext i;unfold upd;split<;>rfl
def ZI (x:ZZ) (s:Nat) (t:Tok) (v:Option (Nat×ε)) (d:Nat):ZZ:={x with tok:=upd x.tok s t,view:=upd x.view s v,deaf:=d}
section
variable {x:ZZ} {s:Nat} {t t':Tok} {v IB:Option (Nat×ε)} {d mY:Nat}
theorem WK:({ZI x s t v d with tok:=upd (ZI x s t v d).tok s t',view:=upd (ZI x s t v d).view s IB}:ZZ)=ZI x s t' IB d:=by unfold ZI;simp only[Gx]
theorem UX:({ZI x s t v d with view:=upd (ZI x s t v d).view s IB}:ZZ)=ZI x s t IB d:=by unfold ZI;simp only[Gx]
theorem Lm:({ZI x s t v d with deaf:=(ZI x s t v d).deaf+1}:ZZ)=ZI x s t v (d+1):=rfl
theorem Ll:({ZI x s t v d with deaf:=(ZI x s t v d).deaf-1}:ZZ)=ZI x s t v (d-1):=rfl
theorem Zn:(ZI x s t v d).tok s=t:=by unfold ZI;simp only[upd_same]
theorem R2:(ZI x s t v d).view s=v:=by unfold ZI;simp only[upd_same]
theorem Lk {r:Nat} (h:r≠s):(ZI x s t v d).tok r=x.tok r:=by unfold ZI;exact upd_ne _ _ h
end
theorem Gw {N:Nat} {τ:Nat->Tok} {φ a:Tok->Nat} (h:∀t,φ t<=a t):ZQ N τ φ<=ZQ N τ a:=by
 induction N with
 | zero=>exact γ _
 | succ N b=>rw[Oz,Oz];have:=h (τ N);omega
theorem vN {N:Nat} {τ:Nat->Tok} {φ a:Tok->Nat}:ZQ N τ (λt=>φ t+a t)=ZQ N τ φ+ZQ N τ a:=by
 induction N with
 | zero=>rfl
 | succ N b=>simp only[Oz,b];omega
structure PI (a:ε) (t:Tok):Prop where
 Y7:a.Y7<=1
 wk:a.wk<=1
 sv:a.sv<=1
 YE:a.YE<=1
 nw:a.nw<=a.top
 vM:TW t=1->a.sv=0/\a.wk=1
 hw:Tn t=1->a.sv=1/\a.wk=0/\a.Y7=0/\1<=a.nw
 hold:VZ t=1->a.Y7=1
 vL:Ul t=1->(a.sv=0->a.wk=1)/\(a.sv=1->a.wk=0/\a.Y7=0/\1<=a.nw)
theorem Oy.Tj {c:ε} {t:Tok} (h:Oy c t):PI c t:=by
 obtain⟨N,τ,i,⟨g,j⟩,hi,k,_⟩:=h;have l:=Xq τ VZ hi;have l2:=Xq τ TW hi;have n:=Xq τ Tn hi;have o:=Xq τ Ul hi;rw[k] at l l2 n o;have p:ZQ N τ Um+ZQ N τ Ul<=ZQ N τ Uk:=by
  rw[<-vN];refine Gw λt=>?_;cases t<;>simp[Um,Ul,Uk];rename_i m _;cases m<;>simp[Mi,Mh]
 have r:ZQ N τ Tn<=ZQ N τ Ul:=Gw λt=>by
  cases t<;>simp[Tn,Ul];rename_i m _;cases m<;>simp[Kn,Mh]
 obtain⟨f1,f2,f3,s,a,b,u,v,w⟩:=g;obtain⟨x,y,A,B,C,D,E,F,H⟩:=j;have d:c.sv=0\/c.sv=1:=U;refine⟨f1,f2,f3,?_,?_,λf=>?_,λf=>?_,λf=>?_,λf=>⟨λe=>?_,λe=>?_⟩⟩
 .rcases d with e|e
  .have:=a e;omega
  .have:=b e;omega
 .rcases d with e|e
  .have:=a e;omega
  .have:=b e;omega
 .rcases d with e|e
  .have:=a e;omega
  .have:=b e;omega
 .rcases d with e|e
  .have:=a e;omega
  .have:=b e;omega
 .omega
 .have:=a e;omega
 .have:=b e;omega
structure vK (a:ε) (t:Tok):Prop where
 wt:a.wt<=1
 cnt:a.cnt<=a.top
 YV:a.YV<=1
 live:Vv t<=a.cnt
 add:∀n p,t=.par n p .add->a.wt=0/\a.YV=0/\n<=a.top/\p<=a.cnt/\a.cnt<=n
 fin:∀n p,t=.par n p .SV\/t=.par n p .w4\/t=.par n p .ZP->a.wt=0/\a.YV=0/\a.cnt=0
 l2:∀k m,t=.ch k m .l2->a.wt=1/\a.cnt=0
 RO:∀k m,t=.ch k m .RO->a.wt=0/\a.cnt=0/\a.YV=0
theorem Oy.PH {r:ε} {t:Tok} (h:Oy r t):vK r t:=by
 obtain⟨N,τ,i,⟨D,d⟩,hi,a,_⟩:=h;have y:=Xq τ Vv hi;have l2:=Xq τ U3 hi;have s:=Xq τ U2 hi;rw[a] at y l2 s;have E:ZQ N τ Vv<=ZQ N τ Uk:=Gw λt=>by
  cases t<;>simp[Vv,Uk];rename_i g;cases g<;>simp[Qc]
 unfold So at d;have u:XP t=1->ZQ N τ Wp=Wp t/\ZQ N τ VY=VY t/\ZQ N τ TV=TV t/\ZQ N τ Uj=Uj t/\ZQ N τ VX=VX t:=λf=>by
  have A:XP (τ i)=1:=by rw[a];exact f
  refine⟨?_,?_,?_,?_,?_⟩<;>(rw[RK (λt a=>by cases t<;>simp_all [XP,Wp,VY,TV,Uj,VX]) d.SR hi A,a])
 obtain⟨B,F,H,I,J,b,j,c,K⟩:=d;have l:ZQ N τ TV=1\/ZQ N τ Uj=1\/ZQ N τ VX=1:=U;refine⟨B,U,?_,U,λn p e=>?_,λn p e=>?_,λk m e=>?_,λk m e=>?_⟩
 .rcases l with e|e|e
  .have:=b e;omega
  .have:=j e;omega
  .have:=c e;omega
 .subst e;obtain⟨v,w,o,C,x⟩:=u rfl;simp only[Wp,VY,TV] at v w o;have:=b o;omega
 .have f:XP t=1:=by rcases e with rfl|rfl|rfl<;>rfl
  obtain⟨v,w,o,C,x⟩:=u f;have:ZQ N τ VX=1:=by rw[x];rcases e with rfl|rfl|rfl<;>rfl
  have:=c this;omega
 .subst e;simp only[U3,OC] at l2;rcases l with e|e|e
  .have:=b e;omega
  .have:=j e;omega
  .have:=c e;omega
 .subst e;simp only[U2,OB] at s;rcases l with e|e|e
  .have:=b e;omega
  .have:=j e;omega
  .have:=c e;omega
abbrev WJ (a b c n:Nat):Int:=(a:Int)+2*b+4*c+8*n
theorem Gv:∀a<2,∀b<2,∀c<2,∀n<8,XY .i32 (WJ a b c n) 5=a+4*c:=by decide +kernel
theorem Gu:∀a<2,∀b<2,∀c<2,∀n<8,XY .i32 (WJ a b c n) 4=4*c:=by decide +kernel
theorem vJ:∀a<2,∀b<2,∀c<2,∀n<8,XY .i32 (WJ a b c n) 3=a+2*b:=by decide +kernel
theorem vI:∀a<2,∀b<2,∀c<2,∀n<8,XY .i32 (WJ a b c n) 7=a+2*b+4*c:=by decide +kernel
theorem IA:∀a<2,∀b<2,∀c<2,∀n<8,XY .i32 (WJ a b c n) 2=2*b:=by decide +kernel
theorem vH:∀a<2,∀b<2,∀c<2,∀n<8,XY .i32 (WJ a b c n) 1=a:=by decide +kernel
theorem vG:∀a<2,∀b<2,∀c<2,∀n<8,QS .i32 (WJ a b c n) 1=WJ 1 b c n:=by decide +kernel
theorem vF:∀a<2,∀b<2,∀c<2,∀n<8,QS .i32 (WJ a b c n) 2=WJ a 1 c n:=by decide +kernel
theorem vE:∀a<2,∀b<2,∀c<2,∀n<8,QS .i32 (WJ a b c n) 4=WJ a b 1 n:=by decide +kernel
theorem Gt:∀a<2,∀b<2,∀c<2,∀n<8,UK .i32 (WJ a b c n) 2=WJ a 0 c n:=by decide +kernel
theorem Gs:∀a<2,∀b<2,∀c<2,∀n<8,(WJ a b c n).fdiv (2 ^ min 3 IntKind.i32.bits)=n:=by decide +kernel
theorem vD:∀a<2,∀b<2,∀c<2,∀n<7,IntKind.i32.wrap (WJ a b c n+8)=WJ a b c (n+1):=by decide +kernel
theorem R1 (a:ε):mwd a=WJ a.Y7 a.wk a.sv a.nw:=rfl
theorem Lj:Entry prog 160 (λ_=>do mark .disable;pure Extern.Race.none_):=⟨_,func160,by kernel_rfl,by kernel_rfl,by kernel_rfl,by kernel_rfl⟩
theorem O6:Entry prog 161 (λ_=>do mark .enable;pure Extern.Race.none_):=⟨_,func161,by kernel_rfl,by kernel_rfl,by kernel_rfl,by kernel_rfl⟩
theorem CU:Entry prog 159 (Extern.Race.marked .releaseMerge):=⟨_,func159,by kernel_rfl,by kernel_rfl,by kernel_rfl,by kernel_rfl⟩
theorem Iz:Entry prog 177 (Extern.Race.marked .acquire):=⟨_,func177,by kernel_rfl,by kernel_rfl,by kernel_rfl,by kernel_rfl⟩
theorem vC:Entry prog 167 (Extern.Race.marked .read):=⟨_,func167,by kernel_rfl,by kernel_rfl,by kernel_rfl,by kernel_rfl⟩
theorem vB:Entry prog 180 (Extern.Race.marked .write):=⟨_,func180,by kernel_rfl,by kernel_rfl,by kernel_rfl,by kernel_rfl⟩
theorem CS:Entry prog 162 (λ_=>pure (.bool false)):=⟨_,func162,by kernel_rfl,by kernel_rfl,by kernel_rfl,by kernel_rfl⟩
theorem Iy:Entry prog 212 (Extern.Atomic.casT (.int .i32)):=⟨_,func212,by kernel_rfl,by kernel_rfl,by kernel_rfl,by kernel_rfl⟩
theorem CR:Entry prog 214 (Extern.Atomic.update (Op.intArith .add) .i32 true):=⟨_,func214,by kernel_rfl,by kernel_rfl,by kernel_rfl,by kernel_rfl⟩
theorem vA:Entry prog 216 (Extern.Atomic.casT (.int .u64)):=⟨_,func216,by kernel_rfl,by kernel_rfl,by kernel_rfl,by kernel_rfl⟩
theorem CQ:Entry prog 207 (Extern.Atomic.update (Op.intArith .add) .u64 true):=⟨_,func207,by kernel_rfl,by kernel_rfl,by kernel_rfl,by kernel_rfl⟩
theorem CP:Entry prog 208 (Extern.Atomic.loadT (.int .u64)):=⟨_,func208,by kernel_rfl,by kernel_rfl,by kernel_rfl,by kernel_rfl⟩
theorem vz:Entry prog 209 Extern.Atomic.storeT:=⟨_,func209,by kernel_rfl,by kernel_rfl,by kernel_rfl,by kernel_rfl⟩
theorem vy:Entry prog 242 Extern.Sync.canSpin:=⟨_,func242,by kernel_rfl,by kernel_rfl,by kernel_rfl,by kernel_rfl⟩
theorem vx:Entry prog 243 (λ_=>pure (.tuple #[])):=⟨_,func243,by kernel_rfl,by kernel_rfl,by kernel_rfl,by kernel_rfl⟩
theorem CO:Entry prog 245 Extern.OsHooks.nano:=⟨_,func245,by kernel_rfl,by kernel_rfl,by kernel_rfl,by kernel_rfl⟩
theorem vw:Entry prog 246 Extern.Sync.semacquire:=⟨_,func246,by kernel_rfl,by kernel_rfl,by kernel_rfl,by kernel_rfl⟩
theorem vv:Entry prog 181 Extern.Sync.semacquire:=⟨_,func181,by kernel_rfl,by kernel_rfl,by kernel_rfl,by kernel_rfl⟩
theorem CN:Entry prog 248 Extern.Sync.semrelease:=⟨_,func248,by kernel_rfl,by kernel_rfl,by kernel_rfl,by kernel_rfl⟩
theorem vu:Entry prog 171 Extern.Sync.semrelease:=⟨_,func171,by kernel_rfl,by kernel_rfl,by kernel_rfl,by kernel_rfl⟩
theorem O5:prog.underlying 195=some .unsafePointer:=by kernel_rfl
theorem Gr:prog.underlying 237=some (.pointer 171):=by kernel_rfl
theorem Gq:(prog.info? 171).map (λi=>decide (i.size=0))=some false:=by kernel_rfl
theorem Gp:prog.underlying 193=some (.pointer 179):=by kernel_rfl
theorem Gn:(prog.info? 179).map (λi=>decide (i.size=0))=some false:=by kernel_rfl
theorem CM:prog.underlying 200=some (.pointer 169):=by kernel_rfl
theorem CL:(prog.info? 169).map (λi=>decide (i.size=0))=some false:=by kernel_rfl
theorem MU:prog.underlying 21=some (.int .i32):=by kernel_rfl
theorem ι.leave0 [ZX] {P:Program} {d:Value->Prop} {mn:Bool} {z:W2} {c b:Frame} {rest:List Frame} {H:Χ} {t:Array Value} {ops:Array Oper} {fn:Func} (a:Seq z) (e:b.mode=.run) (f:b.roundOf=none) (g:b.defers=[]) (i:b.kind=.normal) (j:P.funcs[b.fn]?=some fn) (k:fn.results=#[])
  (h:ι P d mn z (c.finish (.tuple #[])) rest H):ι P d mn z (ο b t [.inRegion ops []]) (c::rest) H:=by
 refine .ZF a e (.P9 a e f (.back a rfl g (.inl i) j ?_));rw[results_none k];exact Ψ.pure' h
theorem Zd.leave0 [ZX] {P:Program} {a:Value->Prop} {mn:Bool} {x:ZZ} {c b:Frame} {rest:List Frame} {H:Χ} {t:Array Value} {ops:Array Oper} {fn:Func} (d:Seq (one x)) (e:b.mode=.run) (f:b.roundOf=none) (g:b.defers=[]) (i:b.kind=.normal) (j:P.funcs[b.fn]?=some fn) (k:fn.results=#[])
  (h:Zd P a mn x (c.finish (.tuple #[])) rest H):Zd P a mn x (ο b t [.inRegion ops []]) (c::rest) H:=
 ι.leave0 (z:=one x) d e f g i j k (λy l=>by cases l;exact h) x rfl
structure Vo (x:ZZ) (s m:Nat) (sp:Spec):Prop where
 rel:x.rel=false
 Z3:x.Z3=λ_=>none
 spec:x.spec s=some sp
 ZO:sp.ZO=some m
 top:sp.top<7
 still:∀a,a≠s->Tl (x.tok a)
theorem Vo.seq {x:ZZ} {s m:Nat} {sp:Spec} (h:Vo x s m sp):∀t v d,@Seq XU (one (ZI x s t v d)):=λt v d=>@Seq.O8 XU _ trivial h.rel h.Z3
theorem Zd.vr [ZX] {P:Program} {d:Value->Prop} {mn:Bool} {x:ZZ} {c b:Frame} {rest:List Frame} {H:Χ} {t:Array Value} {ops:Array Oper} {k:List Item} {fn:Func} (a:Seq (one x)) (e:b.mode=.run) (f:b.roundOf=none) (g:b.defers=[]) (i:b.kind=.normal) (j:P.funcs[b.fn]?=some fn) (l:fn.results=#[])
  (h:Zd P d mn x (c.finish (.tuple #[])) rest H):Zd P d mn x (ο b t (.inRegion ops []::.code .ret::k)) (c::rest) H:=by
 refine ι.ZF (x:=one x) a e (.ret a e f (.back a rfl g (.inl i) j ?_)) x rfl;rw[results_none l];exact Ψ.pure' (λy m=>by cases m;exact h)
abbrev ptr (b o:Nat):Value:=.pointer (some ⟨b,o,none⟩)
section
variable {Q:Value->Prop} {mn:Bool} {x:ZZ} {c:Frame} {rest:List Frame} {S:μ} {B:Z8} {σ:Ο} {H:Χ} {s m k:Nat} {sp:Spec} {v:Option (Nat×ε)}
def PG (Q:Value->Prop) (mn:Bool) (x:ZZ) (c:Frame) (rest:List Frame) (S:μ) (H:Χ) (s k:Nat) (sp:Spec):Prop:=
 ∀(a:μ) (H':Χ) (L:List Nat) (E:Χ),Ext S [] H a [] H'->Holds a [] [] H'->sp.XQ L E->Apart H' E->(L.Nodup/\k∉L/\∃w,Fits H' w/\Fits E w)->Zd prog Q mn (ZI x s (.ch k (.YJ L) .work) none 0) (c.finish (.tuple #[])) rest (join H' E)
def CK (Q:Value->Prop) (mn:Bool) (x:ZZ) (s m k:Nat) (sp:Spec):Prop:=∀(c:Frame) (rest:List Frame) (S:μ) (B:Z8) (σ:Ο) (H:Χ) (v:Option (Nat×ε)),Holds S B σ H->PG Q mn x c rest S H s k sp->
 Zd prog Q mn (ZI x s (.ch k (.act false) .work) v 1) (Frame.enter prog 213 #[ptr m 0] .normal) (c::rest) H
theorem vq (b:Vo x s m sp) (u:Holds S B σ H) (A:CK Q mn x s m k sp)
  (r:PG Q mn x c rest S H s k sp):Zd prog Q mn (ZI x s (.ch k .idle .work) v 0) (Frame.enter prog 175 #[ptr m 0] .normal) (c::rest) H:=by
 letI:ZX:=XU;have a:=b.seq;refine V.Rr (z:=one _) (vs:=[ptr m 0]) func175 rfl u (by simp[ntmps175]) ?_ _ rfl;refine V.Zo (a _ _ _) ?_;refine Y1 ?_;refine W.Zg (.stop ?_);refine V.disable (a _ _ _).here ⟨⟨rfl,rfl,by simp[Frame.enter],rfl⟩,Lj,⟨_,rfl⟩,rfl,rfl,rfl⟩ ?_;rw[Lm];refine V.Zo (a _ _ _) ?_;refine W.ZF ?_;refine Y1 ?_;refine W.Zg ?_;refine Xu [0,1,2] [3] ?_;refine W.stop ?_;refine V.IF (a _ _ _).here (UP _) (sp:=sp) b.spec (by rw[Zn];exact id) b.ZO ⟨⟨rfl,rfl,by simp[Frame.enter],rfl⟩,Iy,⟨_,rfl⟩,rfl,rfl,rfl⟩ (λφ d t hv=>?_) (λφ d t hv=>?_)
 .refine .inr ⟨.ch k (.act false) .work,by rw[Zn];exact .Al,λC _=>?_⟩;rw[WK];refine V.Zo (a _ _ _) ?_;refine W.ZF ?_;refine Y1 ?_;refine Ζ rfl ?_;refine Y1 ?_;refine W.Zg ?_;refine Xu [0] [1] ?_;refine W.stop ?_;refine V.call (a _ _ _) ⟨rfl,rfl,by simp[Frame.enter],rfl⟩ rfl rfl rfl ⟨_,func213,rfl,rfl⟩ λh f i t1 N j e hv=>?_;obtain rfl:=TI (l:=[ptr m 0]) hv;rintro y rfl;refine A _ _ h f _ i _ e.holds λD F L E I J n o p=>?_;rw[VV rfl];refine Zd.leave0 (a _ _ _) rfl rfl rfl rfl func175 rfl ?_;obtain rfl:f=[]:=YL.1 e.holds.len;exact r D F L E (j.ext.trans I) J n o p
 .have g:d.Y7=0/\d.sv=0/\d.wk=0/\d.nw=0:=by simp only[mwd] at hv;omega
  refine⟨{d with Y7:=1},.ch k .own .work,by simp[mwd];omega,rfl,⟨rfl,rfl,rfl⟩,by rw[Zn];exact .Am g.1 g.2.1 g.2.2.1 g.2.2.2,λC _=>?_⟩;rw[WK];refine V.Zo (a _ _ _) ?_;refine W.ZF ?_;refine Y1 ?_;refine Α rfl ?_;refine Y1 ?_;refine Α rfl ?_;refine Y1 ?_;refine W.Zg (.stop ?_);refine V.enable (a _ _ _).here (UP _) ⟨⟨rfl,rfl,by simp[Frame.enter],rfl⟩,O6,⟨_,rfl⟩,rfl,rfl,rfl⟩ ?_;rw[Ll];refine V.Zo (a _ _ _) ?_;refine W.ZF ?_;refine Y1 ?_;refine W.Zg ?_;refine Xu [0] [1,2] ?_;refine W.stop ?_;refine V.conv (a _ _ _).here (sp:=sp) b.spec (by rw[Zn];exact id) ⟨rfl,rfl,by simp[Frame.enter],rfl⟩ rfl rfl rfl Gr O5 Gq rfl (λd w K M=>⟨_,M.Rt (by rw[K];exact b.ZO)⟩) (λφ d t=>?_);unfold V3;rw[UX];refine V.J6 b.rel rfl (sp:=sp) b.spec b.ZO Zn ⟨⟨rfl,rfl,by simp[Frame.enter],rfl⟩,Iz,⟨_,rfl⟩,rfl,rfl,rfl⟩ λh f i t1 L E j e n o p=>?_;rw[WK];obtain rfl:f=[]:=YL.1 e.holds.len;refine Zd.vr (a _ _ _) rfl rfl rfl rfl func175 rfl ?_;exact r h i L E j.ext e.holds n o p
end
def Yq:List Nat->Code->Code
 | [],c=>c
 | 0::l,.seq a _=>Yq l a
 | _::l,.seq _ b=>Yq l b
 | 0::l,.cond _ a _=>Yq l a
 | _::l,.cond _ _ b=>Yq l b
 | _::l,.block _ c=>Yq l c
 | _::l,.loop c=>Yq l c
 | _,c=>c
noncomputable def Rn:Code:=f213.body.getD .skip
noncomputable def TG:Code:=Yq [1,1,1,1,1,0,0,0] Rn
noncomputable def Rm:Code:=Yq [0,1] TG
noncomputable def QB:Code:=Yq [1,1,1,1,1] Rm
noncomputable def TF:Code:=Yq [1,0] QB
noncomputable def Li:Code:=Yq [1,1,1,1,1,1] Rn
noncomputable def Us:List Item:=[.inLoop TG,.inBlock 0,.code Li]
abbrev U7 (a:Value->Prop) (mn:Bool) (x:ZZ) (c:Frame) (rest:List Frame) (S:μ) (H:Χ) (s m:Nat) (t:Tok) (v:Option (Nat×ε)) (d:Nat) (K:List Item) (env:ω):Prop:=
 V prog a mn (one (ZI x s t v d)) (Frame.enter prog 213 #[ptr m 0] .normal) (c::rest) 139 ⟨S,[],H,[],0⟩ K env []
def YW (m:Nat) (w:Int) (a st:Bool) (b τ:Int):ω:=[(0,.z (ptr m 0)),(2,.z (.int .i64 τ)),(3,.z (.bool st)),(4,.z (.bool a)),(5,.z (.int .i64 b)),(6,.z (.int .i32 w))]
def R0 (a b c n:Nat) (d st:Bool):Int:=
 if a=0/\c=0 then WJ 1 (if d then 0 else b) 0 n else WJ a (if d then 0 else b) (if st=true/\a=1 then 1 else c) (n+1)
section
variable {Q:Value->Prop} {mn:Bool} {x:ZZ} {c:Frame} {rest:List Frame} {S:μ} {B:Z8} {σ:Ο} {H:Χ} {s m k:Nat} {sp:Spec} {v:Option (Nat×ε)} {t:Tok}
theorem vp (C:Vo x s m sp) {a b e n:Nat} {j st:Bool} {y τ:Int} (p:a<2) (r:b<2) (u:e<2) (D:n<7) (E:j=true->e=0/\b=1) (K:st=true->j=true)
  (f:U7 Q mn x c rest S H s m t v 1 (.code (Yq [0] QB)::.code (Yq [1] QB)::.inBlock 1::Us) (YW m (WJ a b e n) j st y τ++[(7,.z (.int .i32 (R0 a b e n j st)))])) :
  U7 Q mn x c rest S H s m t v 1 (.code Rm::.inBlock 1::Us) (YW m (WJ a b e n) j st y τ):=by
 letI:ZX:=XU;have F:=C.seq;have A:(a=0\/a=1)/\(e=0\/e=1):=U;have g:=Gu a p b r e u n U;have h:=Gv a p b r e u n U;have B:=vH a p b r e u n U;have k:=vG a p b r e u n U;have w:=vD a p b r e u n D;refine V.Zo (F _ _ _) ?_;unfold Rm TG Rn;cases j with
 | false=>
  have I:st=false:=by cases st<;>simp_all
  subst I;rcases A with⟨rfl|rfl,rfl|rfl⟩
  ·(repeat (first|apply W5|apply wb|apply Wz|apply wd|refine Α rfl ?_|refine Ζ rfl ?_|(refine Y9 λi d=>?_;simp;(repeat (rw[Ν];simp[YW,g,h,k]));apply d)));exact W.forget _ (by simp[YW,R0]) (.stop f)
  ·(repeat (first|apply W5|apply wb|apply Wz|apply wd|refine Α rfl ?_|refine Ζ rfl ?_|(refine Y9 λi d=>?_;simp;(repeat (rw[Ν];simp[YW,g,h,w]));apply d)));exact W.forget _ (by simp[YW,R0]) (.stop f)
  ·(repeat (first|apply W5|apply wb|apply Wz|apply wd|refine Α rfl ?_|refine Ζ rfl ?_|(refine Y9 λi d=>?_;simp;(repeat (rw[Ν];simp[YW,g,h,k,w]));apply d)));exact W.forget _ (by simp[YW,R0]) (.stop f)
  ·(repeat (first|apply W5|apply wb|apply Wz|apply wd|refine Α rfl ?_|refine Ζ rfl ?_|(refine Y9 λi d=>?_;simp;(repeat (rw[Ν];simp[YW,g,h,w]));apply d)));exact W.forget _ (by simp[YW,R0]) (.stop f)
 | true=>
  obtain⟨rfl,rfl⟩:=E rfl;rcases A with⟨rfl|rfl,-⟩
  .have l:=IA 1 U 1 U 0 U n U
   have o:=Gt 1 U 1 U 0 U n U;cases st
   ·(repeat (first|apply W5|apply wb|apply Wz|apply wd|refine Α rfl ?_|refine Ζ rfl ?_|(refine Y9 λi d=>?_;simp;(repeat (rw[Ν];simp[YW,g,h,k,l,o]));apply d)));exact W.forget _ (by simp[YW,R0]) (.stop f)
   ·(repeat (first|apply W5|apply wb|apply Wz|apply wd|refine Α rfl ?_|refine Ζ rfl ?_|(refine Y9 λi d=>?_;simp;(repeat (rw[Ν];simp[YW,g,h,B,k,l,o]));apply d)));exact W.forget _ (by simp[YW,R0]) (.stop f)
  .cases st
   .have l:=IA 1 U 1 U 0 U (n+1) U
    have o:=Gt 1 U 1 U 0 U (n+1) U;(repeat (first|apply W5|apply wb|apply Wz|apply wd|refine Α rfl ?_|refine Ζ rfl ?_|(refine Y9 λi d=>?_;simp;(repeat (rw[Ν];simp[YW,g,h,k,w,l,o]));apply d)));exact W.forget _ (by simp[YW,R0]) (.stop f)
   .have J:=vE 1 U 1 U 0 U (n+1) U
    have l:=IA 1 U 1 U 1 U (n+1) U
    have o:=Gt 1 U 1 U 1 U (n+1) U;(repeat (first|apply W5|apply wb|apply Wz|apply wd|refine Α rfl ?_|refine Ζ rfl ?_|(refine Y9 λi d=>?_;simp;(repeat (rw[Ν];simp[YW,g,h,B,k,w,J,l,o]));apply d)));exact W.forget _ (by simp[YW,R0]) (.stop f)
theorem CJ (a:Vo x s m sp) (e:PG Q mn x c rest S H s k sp) {env:ω} (f:Z7 env 0=.z (ptr m 0)):U7 Q mn x c rest S H s m (.ch k .own .work) v 1 [.code Li] env:=by
 letI:ZX:=XU;have b:=a.seq;refine V.Zo (b _ _ _) ?_;unfold Li Rn;refine Α rfl ?_;refine Y1 ?_;refine W.Zg (.stop ?_);refine V.enable (b _ _ _).here (UP _) ⟨⟨rfl,rfl,by simp[Frame.enter],rfl⟩,O6,⟨_,rfl⟩,rfl,rfl,rfl⟩ ?_;rw[Ll];refine V.Zo (b _ _ _) ?_;refine W.ZF ?_;refine Y1 ?_;refine W.Zg ?_;refine W.part (A:=[]) Ρ [0] [1,2] rfl λy g=>?_;simp;(repeat (rw[Ν];simp[f]));apply g;refine W.stop ?_;refine V.conv (b _ _ _).here (sp:=sp) a.spec (by rw[Zn];exact id) ⟨rfl,rfl,by simp[Frame.enter],rfl⟩ rfl rfl rfl Gr O5 Gq rfl (λh w i j=>⟨_,j.Rt (by rw[i];exact a.ZO)⟩) (λφ h B=>?_);unfold V3;rw[UX];refine V.J6 a.rel rfl (sp:=sp) a.spec a.ZO Zn ⟨⟨rfl,rfl,by simp[Frame.enter],rfl⟩,Iz,⟨_,rfl⟩,rfl,rfl,rfl⟩ λl n o t1 L E p d r t u=>?_;rw[WK];obtain rfl:n=[]:=YL.1 d.holds.len;refine Zd.leave0 (b _ _ _) rfl rfl rfl rfl func213 rfl ?_;exact e l o L E p.ext d.holds r t u
end
section
variable {Q:Value->Prop} {mn:Bool} {x:ZZ} {c:Frame} {rest:List Frame} {S:μ} {B:Z8} {σ:Ο} {H:Χ} {s m k:Nat} {sp:Spec} {v:Option (Nat×ε)} {t:Tok}
theorem Ix:(prog.funcs[213]?).any (·.norace)=true:=by kernel_rfl
theorem CI:(prog.funcs[245]?).any (·.norace)=true:=by kernel_rfl
def Lh (Q:Value->Prop) (mn:Bool) (x:ZZ) (c:Frame) (rest:List Frame) (S:μ) (H:Χ) (s m k:Nat) (sp:Spec) (φ:Nat):Prop:=
 ∀(e:Nat) (a:ε) (b st:Bool) (d τ:Int),e<φ->a.toSpec=sp->PI a (.ch k (.act b) .work)->(st=true->b=true)->0<=d->d<=4->U7 Q mn x c rest S H s m (.ch k (.act b) .work) (some (e,a)) 1 Us (YW m (mwd a) b st d τ)
theorem CH {a:ε} {b:Bool} (h:PI a (.ch k (.act b) .work)):b=true->a.sv=0/\a.wk=1:=λe=>h.vM (by rw[e];rfl)
theorem vo (e:Vo x s m sp) (L:PG Q mn x c rest S H s k sp) {φ:Nat} (M:Lh Q mn x c rest S H s m k sp φ) {u:Nat} {C:ε} (o:u<φ) {st:Bool} {τ:Int} :
  U7 Q mn x c rest S H s m (.ch k .wk .work) (some (u,C)) 1 (.code (Yq [1,1,1,1,1] TF)::.inBlock 1::Us) [(0,.z (ptr m 0)),(2,.z (.int .i64 τ)),(3,.z (.bool st))]:=by
 letI:ZX:=XU;have g:=e.seq;refine V.Zo (g _ _ _) ?_;unfold TF QB Rm TG Rn;refine Y1 ?_;refine W.Zg ?_;refine Xu [0,1,2] [3,4] ?_;refine W.stop ?_;refine V.MV (g _ _ _).here (sp:=sp) e.spec (by rw[Zn];exact id) ⟨rfl,rfl,by simp[Frame.enter],rfl⟩ rfl rfl rfl MU rfl Ix mwd (λa w N O=>O.Rt (by rw[N];exact e.ZO)) (λZ a p=>.inr ?_);have b:=p.Vp.Tj;rw[Zn] at b;have hv:=p.view u C R2;have D:=b.vL rfl;have aa:a.top<7:=by have:=e.top;rw[show a.top=sp.top by rw[<-p.spec]];exact this
 have ab:=b.nw
 have ad:=b.Y7;have ae:=b.wk;have af:=b.sv
 have i:=Gu a.Y7 U a.wk U a.sv U a.nw U
 have l:=vJ a.Y7 U a.wk U a.sv U a.nw U
 have r:=Gs a.Y7 U a.wk U a.sv U a.nw U;rw[<-R1] at i l r;rcases(show a.sv=0\/a.sv=1 by omega) with f|f
 .refine⟨.ch k (.act true) .work,by rw[Zn];exact .norm f,λv P=>?_⟩;rw[WK];rw[f] at i;refine V.Zo (g _ _ _) ?_;refine W.part (A:=[]) Ρ [4] [] rfl λE n=>?_;(try simp);(repeat (rw[Ν];simp));(try simp);apply n;refine W.ZF ?_;refine Wi i ?_;refine W.forget (YW m (mwd a) true st 0 τ) (by simp[YW]) (.stop ?_);exact M v a true st 0 τ U p.spec ⟨b.Y7,b.wk,b.sv,b.YE,b.nw,λ_=>⟨f,D.1 f⟩,λh=>(by cases h),λh=>(by cases h),λh=>(by cases h)⟩ (λ_=>rfl) U U
 .obtain⟨R,T,ag⟩:=D.2 f;refine⟨.ch k .hw .work,by rw[Zn];exact .hand f,λv P=>?_⟩;rw[WK];rw[f] at i;rw[R,T] at l;have y:¬a.nw=0:=U;have F:IntKind.i32.wrap (-11)=-11:=ZY;have X:∀(w:Option (Nat×ε)) (env:ω),Z7 env 0=.z (ptr m 0)->U7 Q mn x c rest S H s m (.ch k .own .work) w 1 [.code Li] env:=λw env h=>CJ e L h;have add:∀(j:Bool) (env:ω),Z7 env 0=.z (ptr m 0)->Z7 env 9=.z (.int .i32 (if j then -11 else -7))->U7 Q mn x c rest S H s m (.ch k .hw .work) (some (v,a)) 1 (.code (Yq [1,1,1,1,1,1,0,1,0,1,1,1,0] TF)::.code (Yq [1,1,1,1,1,1,0,1,0,1,1,1,1] TF)::.code (Yq [1,1,1,1,1,1,1] TF)::.inBlock 1::Us) env:=λj env o I=>by
   refine V.Zo (g _ _ _) ?_;unfold TF QB Rm TG Rn;refine Y1 ?_;refine W.Zg ?_;refine W.part (A:=[]) Ρ [0,1,2,3] [4] rfl λE n=>?_;(try simp);(repeat (rw[Ν];simp[o,I]));(try simp[o,I]);apply n;refine W.stop ?_;refine V.C3 (g _ _ _).here (UP _) (sp:=sp) e.spec (by rw[Zn];exact id) e.ZO (d:=if j then -11 else -7) ⟨⟨rfl,rfl,by simp[Frame.enter],rfl⟩,CR,⟨_,rfl⟩,rfl,rfl,rfl⟩ (λah t J=>?_);have B:=J.Vp.Tj;rw[Zn] at B;obtain⟨f1,f2,f3,f4⟩:=B.hw rfl;have ai:t.top<7:=by have:=e.top;rw[show t.top=sp.top by rw[<-J.spec]];exact this
   have aj:=B.nw;refine⟨{t with Y7:=1,nw:=t.nw-1,sv:=if j then 0 else 1},.ch k .own .work,?_,rfl,⟨rfl,rfl,rfl⟩,by rw[Zn];exact .hacq j,λak _=>?_⟩
   .cases j<;>simp[mwd,IntKind.wrap_i32,f1,f2,f3]<;>omega
   .rw[WK];refine V.Zo (g _ _ _) ?_;refine W.ZF ?_;refine Y1 ?_;refine W.exit rfl (.stop ?_);refine X _ _ ?_;simp[o]
  refine V.Zo (g _ _ _) ?_;refine W.part (A:=[]) Ρ [4] [] rfl λE n=>?_;(try simp);(repeat (rw[Ν];simp));(try simp);apply n;refine W.ZF ?_;cases st with
  | false=>
   refine Wi (Υ i (Υ l (Υ r (Υ y F)))) ?_;exact .stop (add true _ rfl rfl)
  | true=>
   by_cases K:a.nw=1
   .refine Wi (Υ i (Υ l (Υ r (Υ y (Υ K F))))) ?_;exact .stop (add true _ rfl rfl)
   .have Y:¬(a.nw:Int)=1:=U
    refine Wi (Υ i (Υ l (Υ r (Υ y (Υ K Y))))) ?_;exact .stop (add false _ rfl rfl)
theorem vn (a:Vo x s m sp) (p:PG Q mn x c rest S H s k sp) {φ:Nat} (r:Lh Q mn x c rest S H s m k sp φ) {e:Nat} {i:ε} (B:e<φ) {st y:Bool} {τ:Int} :
  U7 Q mn x c rest S H s m (.ch k .q .work) (some (e,i)) 1 (.code (Yq [1,1,1,0] TF)::.code (Yq [1,1,1,1] TF)::.inBlock 1::Us) [(0,.z (ptr m 0)),(2,.z (.int .i64 τ)),(3,.z (.bool st)),(8,.z (.bool y))]:=by
 letI:ZX:=XU;have b:=a.seq;have next:∀(d:Nat) (j:ε) (st:Bool),d<φ->U7 Q mn x c rest S H s m (.ch k .wk .work) (some (d,j)) 1 (.code (Yq [1,1,1,1,1] TF)::.inBlock 1::Us) [(0,.z (ptr m 0)),(2,.z (.int .i64 τ)),(3,.z (.bool st))]:=λd j st t=>vo a p r t
 refine V.Zo (b _ _ _) ?_;unfold TF QB Rm TG Rn;refine Y1 ?_;refine W.Zg ?_;refine Xu [0,1,2,3] [4] ?_;refine W.stop ?_;refine V.v8 (b _ _ _).here (sp:=sp) a.spec (by rw[Zn];exact id) a.ZO (vs:=[ptr m 1,.bool y,.int .i64 2]) rfl (λu l=>by rw[Lk l];exact a.still u l) ⟨⟨rfl,rfl,by simp[Frame.enter],rfl⟩,vw,⟨_,rfl⟩,rfl,rfl,rfl⟩ (λd f n h=>by rw[Zn];exact h) (λd f n h=>?_);have hv:=n.view e i R2;refine⟨{f with YE:=f.YE-1},.ch k .wk .work,rfl,rfl,⟨rfl,rfl,rfl⟩,by rw[Zn];exact .take h,λo C=>?_⟩;rw[WK];refine V.Zo (b _ _ _) ?_;refine W.ZF ?_;cases st with
 | true=>
  first|apply W5|apply wb|apply Wz|apply wd
  refine Y9 λv g=>?_;(try simp);(repeat (rw[Ν];simp));(try simp);apply g;refine W.forget [(0,.z (ptr m 0)),(2,.z (.int .i64 τ)),(3,.z (.bool true))] I (.stop ?_);exact next o _ true U
 | false=>
  first|apply W5|apply wb|apply Wz|apply wd
  refine W.Zg ?_;refine Xu [0,1] [2,3,4,5,6,7] ?_;refine W.stop ?_;refine V.nano (b _ _ _) (vs:=[]) ⟨⟨rfl,rfl,by simp[Frame.enter],rfl⟩,CO,⟨_,rfl⟩,rfl,rfl,rfl⟩ CI λw=>?_;refine V.Zo (b _ _ _) ?_;refine W.part (A:=[]) Ρ [3,4,5,6,7] [] rfl λv g=>?_;(try simp);(repeat (rw[Ν];simp));(try simp);apply g;refine W.ZF ?_;refine W.forget [(0,.z (ptr m 0)),(2,.z (.int .i64 τ)),(3,.z (.bool (decide (1000000<IntKind.i64.wrap (w-τ)))))] I (.stop ?_);exact next o _ _ U
theorem vm (e:Vo x s m sp) (l:PG Q mn x c rest S H s k sp) {φ:Nat} (n:Lh Q mn x c rest S H s m k sp φ) {b:Nat} {f:ε} (o:b<φ) {w:Int} {p st:Bool} {r τ:Int} (g:¬XY .i32 w 5=0) :
  U7 Q mn x c rest S H s m (.ch k .q .work) (some (b,f)) 1 (.code TF::.inBlock 1::Us) (YW m w p st r τ):=by
 letI:ZX:=XU;have d:=e.seq;have next:∀(τ:Int) (y:Bool),U7 Q mn x c rest S H s m (.ch k .q .work) (some (b,f)) 1 (.code (Yq [1,1,1,0] TF)::.code (Yq [1,1,1,1] TF)::.inBlock 1::Us) [(0,.z (ptr m 0)),(2,.z (.int .i64 τ)),(3,.z (.bool st)),(8,.z (.bool y))]:=λτ y=>vn e l n o
 refine V.Zo (d _ _ _) ?_;unfold TF QB Rm TG Rn;by_cases h:τ=0
 .subst h;(repeat (first|apply W5|apply wb|apply Wz|apply wd|refine Α rfl ?_|refine Ζ rfl ?_|(refine Y9 λi a=>?_;simp;(repeat (rw[Ν];simp[YW,g]));apply a)));refine W.Zg (.stop ?_);refine V.nano (d _ _ _) (vs:=[]) ⟨⟨rfl,rfl,by simp[Frame.enter],rfl⟩,CO,⟨_,rfl⟩,rfl,rfl,rfl⟩ CI λj=>?_;refine V.Zo (d _ _ _) ?_;refine W.part (A:=[]) Ρ [1] [] rfl λi a=>?_;(try simp);(repeat (rw[Ν];simp));(try simp);apply a;refine W.ZF ?_
  first|apply W5|apply wb|apply Wz|apply wd
  refine W.forget [(0,.z (ptr m 0)),(2,.z (.int .i64 j)),(3,.z (.bool st)),(8,.z (.bool false))] I (.stop ?_);exact next j false
 ·(repeat (first|apply W5|apply wb|apply Wz|apply wd|refine Α rfl ?_|refine Ζ rfl ?_|(refine Y9 λi a=>?_;simp;(repeat (rw[Ν];simp[YW,g,h]));apply a)));refine W.forget [(0,.z (ptr m 0)),(2,.z (.int .i64 τ)),(3,.z (.bool st)),(8,.z (.bool true))] (by simp[h]) (.stop ?_);exact next τ true
end
end Go.TL
