import Derived.Test.YtlabjopijpkiaaaGreatQAA
import Derived.Test.YtlabjopijpkiaaaGreatQAB
set_option maxHeartbeats 16000000
set_option maxRecDepth 20000
set_option linter.unusedSectionVars false
set_option linter.unusedSimpArgs false
set_option linter.unusedVariables false
namespace Go.TL
open Go.Conc
open Go.ConcN (sumTo upd sumTo_upd upd_ne upd_same sumTo_congr le_sumTo)
section
variable {N i:Nat} {o o':aD} {τ:Nat->Tok} {t t':Tok}
theorem HK (o':aD) (ω:o'.top=o.top) (hi:i<N) (Η:τ i=t) (h:kU o.top t'+9*o'.cM+2*o'.cn<kU o.top t+9*o.cM+2*o.cn):ec N o' (upd τ i t')<ec N o τ:=by
 have e:=fC τ t' (kU o.top) hi;rw[Η] at e;unfold ec;rw[ω];omega
theorem HL (hi:i<N) (Η:τ i=t) (κ:Act o t o' t'):ec N o' (upd τ i t')<ec N o τ:=by
 cases κ<;>refine HK _ rfl hi Η ?_
 case acq aw _ _=>cases aw<;>simp[kU,sQ]
 case queue aw _ _ _=>cases aw<;>simp[kU,sQ]
 case take=>simp[kU,sQ];omega
 case add=>simp[kU];omega
 case wake=>simp[kU,uJ];omega
 all_goals (simp[kU,sQ,zC,uJ]<;>omega)
theorem zG (hi:i<N) (Η:τ i=t) (κ:nW o t o' t'):ec N o' (upd τ i t')<ec N o τ:=by
 cases κ<;>refine HK _ rfl hi Η ?_
 case gtake ay χ=>rcases χ with rfl|rfl<;>simp[kU,uJ]
 all_goals (simp[kU,sQ,zC,uJ]<;>omega)
theorem Dp {φ:Tok->Nat} (hi:i<N) (h:φ t'=φ (τ i)):aT N (upd τ i t') φ=aT N τ φ:=by
 have:=fC τ t' φ hi;omega
theorem zH (h:nV N o τ) (hi:i<N) (Η:τ i=t) (κ:nW o t o' t'):nV N o' (upd τ i t'):=by
 unfold nV at h ⊢;cases κ<;>
 (repeat rw[Dp hi (by rw[Η];rfl)])<;>exact h
theorem zI (h:m6 N o τ) (hi:i<N) (Η:τ i=t) (κ:nW o t o' t'):m6 N o' (upd τ i t'):=by
 unfold m6 at h ⊢;cases κ
 case gtake ay χ=>rcases χ with rfl|rfl<;>(repeat rw[Dp hi (by rw[Η];rfl)])<;>exact h
 all_goals (repeat rw[Dp hi (by rw[Η];rfl)])<;>exact h
theorem sU (N:Nat) (τ:Nat->Tok) (φ:Tok->Nat):aT (N+1) τ φ=aT N τ φ+φ (τ N):=rfl
theorem HM {φ:Tok->Nat} (dX:φ .nil=0) (h:τ N=.nil):aT (N+1) τ φ=aT N τ φ:=by rw[sU,h,dX];rfl
theorem HN (h:rm N o τ) (Ι:τ N=.nil):rm (N+1) o τ:=by
 unfold rm nV m6 at h ⊢
 repeat rw[HM (by rfl) Ι]
 exact h
theorem HO (Ι:τ N=.nil):ec (N+1) o τ=ec N o τ:=by
 unfold ec;rw[HM (by rfl) Ι]
theorem OH {j n p:Nat} (h:rm N o τ) (hi:i<N) (γ:j<N) (gx:i≠j) (Η:τ i=.par n (p+1) .add) (Ι:τ j=.nil) (k:Nat) :
  rm N o (upd (upd τ i (.par n p .add)) j (.ch k .idle .work)):=by
 have dE:upd τ i (.par n p .add) j=.nil:=by rw[upd_ne _ _ (Ne.symm gx)];exact Ι
 have key:∀φ:Tok->Nat,aT N (upd (upd τ i (.par n p .add)) j (.ch k .idle .work)) φ+φ .nil+φ (.par n (p+1) .add)=aT N τ φ+φ (.par n p .add)+φ (.ch k .idle .work):=λφ=>by
  have Δ:=fC τ (.par n p .add) φ hi
  have Ε:=fC (upd τ i (.par n p .add)) (.ch k .idle .work) φ γ;rw[Η] at Δ;rw[dE] at Ε;omega
 obtain⟨dM,cS⟩:=h;constructor
 ·unfold nV at dM ⊢;have f1:=key hc;have f2:=key mq;have f3:=key kS;have f4:=key kh;have f5:=key lQ;have f6:=key ki;have f7:=key o2;have f8:=key mr;have f9:=key o1;simp only[hc,mq,kS,kh,lQ,ki,o2,mr,o1,wP,zz,sN,wQ,zA,wR,Df,zB,De,Nat.add_zero] at f1 f2 f3 f4 f5 f6 f7 f8 f9;rw[f1,f2,f3,f4,f5,f6,f7,f8,f9];exact dM
 ·unfold m6 at cS ⊢;have f1:=key h0;have f2:=key iS;have f3:=key iT;have f4:=key kj;have f5:=key ep;have f6:=key gw;have f7:=key hf;have f8:=key kT;have f9:=key kl;have f10:=key hg;simp only[h0,iS,iT,kj,ep,gw,hf,kT,kl,hg,qh,sO,sP,Nat.add_zero] at f1 f2 f3 f4 f5 f6 f7 f8 f9 f10;obtain⟨fX,rn,wV,wW,Dn,OD,OE,OF,OG⟩:=cS;constructor<;>omega
theorem OI {j n p:Nat} (hi:i<N) (γ:j<N) (gx:i≠j) (Η:τ i=.par n (p+1) .add) (Ι:τ j=.nil) (k:Nat) :
  ec N o (upd (upd τ i (.par n p .add)) j (.ch k .idle .work))<ec N o τ:=by
 have dE:upd τ i (.par n p .add) j=.nil:=by rw[upd_ne _ _ (Ne.symm gx)];exact Ι
 have Δ:=fC τ (.par n p .add) (kU o.top) hi
 have Ε:=fC (upd τ i (.par n p .add)) (.ch k .idle .work) (kU o.top) γ;rw[Η] at Δ;rw[dE] at Ε;simp only[kU,sQ,zC,uJ] at Δ Ε;unfold ec;omega
theorem zJ {φ:Tok->Nat} (h:0<aT N τ φ):∃i,i<N/\0<φ (τ i):=by
 have gX:∀n,0<aT n τ φ->∃i,i<n/\0<φ (τ i):=λn=>by
  induction n with
  | zero=>intro h;cases h
  | succ n Γ=>
   intro h;rw[sU] at h;by_cases af:0<φ (τ n)
   ·exact⟨n,by omega,af⟩
   ·obtain⟨i,hi,χ⟩:=Γ (by omega);exact⟨i,by omega,χ⟩
 exact gX N h
def m8:Tok->Prop
 | .ch _ .own _|.ch _ (.cW _) _|.ch _ .fin _|.ch _ .us _|.ch _ .wk _|.ch _ .hw _|.ch _ (.act true) _|.ch _ .uc _=>True
 | _=>False
theorem OJ (h:nV N o τ) (Ψ:0<aT N τ kh) (af:o.cM=0):∃i,i<N/\m8 (τ i):=by
 have pick:∀{φ:Tok->Nat},(∀t,0<φ t->m8 t)->0<aT N τ φ->∃i,i<N/\m8 (τ i):=λdX χ=>let ⟨i,hi,U⟩:=zJ χ;⟨i,hi,dX _ U⟩
 have OK:∀t,0<hc t->m8 t:=λt Η=>by cases t<;>simp_all [hc,m8];rename_i m _;cases m<;>simp_all [wP]
 have zK:∀t,0<mq t->m8 t:=λt Η=>by cases t<;>simp_all [mq,m8];rename_i m _;cases m<;>simp_all [zz]
 have wX:∀t,0<kS t->m8 t:=λt Η=>by cases t<;>simp_all [kS,m8];rename_i m _;cases m<;>simp_all [sN];rename_i b;cases b<;>simp_all [sN]
 have OL:∀t,0<mr t->m8 t:=λt Η=>by cases t<;>simp_all [mr,m8];rename_i m _;cases m<;>simp_all [zB]
 obtain⟨f1,f2,f3,hI,m7,sS,rn,wV,wW⟩:=h;by_cases c1:0<aT N τ hc
 ·exact pick OK c1
 by_cases c2:0<aT N τ mq
 ·exact pick zK c2
 by_cases c3:0<aT N τ kS
 ·exact pick wX c3
 by_cases c4:0<aT N τ mr
 ·exact pick OL c4
 exfalso;rcases(show o.sv=0\/o.sv=1 by omega) with ν|ν
 ·have:=m7 ν;have:=rn ν;omega
 ·have:=sS ν;omega
def o5:Tok->Prop
 | .ch _ _ .work|.ch _ _ .rel|.ch _ _ .l2|.ch _ _ .gO=>True
 | _=>False
theorem OM (h:m6 N o τ) {n p:Nat} (hi:i<N) (Η:τ i=.par n p .w3) (af:o.cn=0):∃j,j<N/\o5 (τ j):=by
 have pick:∀{φ:Tok->Nat},(∀t,0<φ t->o5 t)->0<aT N τ φ->∃i,i<N/\o5 (τ i):=λdX χ=>let ⟨i,hi,U⟩:=zJ χ;⟨i,hi,dX _ U⟩
 have bs:∀t,0<h0 t->o5 t:=λt Η=>by cases t<;>simp_all [h0,o5];rename_i m;cases m<;>simp_all [qh]
 have cF:∀t,0<iS t->o5 t:=λt Η=>by cases t<;>simp_all [iS,o5];rename_i m;cases m<;>simp_all [sO]
 have fD:∀t,0<iT t->o5 t:=λt Η=>by cases t<;>simp_all [iT,o5];rename_i m;cases m<;>simp_all [sP]
 have w:=nX (φ:=kl) (λt Η=>by cases t<;>simp_all [ep,kl]) h.mw hi (by rw[Η];rfl);rw[Η] at w;have:=h.Oa w;have:=h.Dg;by_cases c1:0<aT N τ h0
 ·exact pick bs c1
 by_cases c2:0<aT N τ iS
 ·exact pick cF c2
 by_cases c3:0<aT N τ iT
 ·exact pick fD c3
 exfalso;omega
end
end Go.TL
namespace Go.TL
open Go.Conc
open Go.ConcM (OsLater)
open Go.ConcN (sumTo upd sumTo_upd upd_ne upd_same sumTo_congr le_sumTo)
open Go.ConcR (mk)
inductive fu (B:Type):Type where
 | leaf
 | node (f:B->fu B)
inductive lR {B:Type}:List (fu B)->List (fu B)->Prop where
 | one (a b:List (fu B)) (f:B->fu B) (k:B):lR (a++f k::b) (a++fu.node f::b)
 | two (a b:List (fu B)) (f:B->fu B) (k Χ:B):lR (a++f k::f Χ::b) (a++fu.node f::b)
theorem lR.cons_inv {B:Type} {l:List (fu B)} {t:fu B} {m:List (fu B)} (h:lR m (t::l)) :
  (∃bO,lR bO l/\m=t::bO)\/(∃f k,t=.node f/\m=f k::l)\/(∃f k Χ,t=.node f/\m=f k::f Χ::l):=by
 generalize U:t::l=x at h;cases h with
 | one a b f k=>
  cases a with
  | nil=>simp at U;exact .inr (.inl ⟨f,k,U.1,by rw[U.2];rfl⟩)
  | cons y a=>simp at U;exact .inl ⟨a++f k::b,by rw[U.2];exact .one a b f k,by rw[U.1];rfl⟩
 | two a b f k Χ=>
  cases a with
  | nil=>simp at U;exact .inr (.inr ⟨f,k,Χ,U.1,by rw[U.2];rfl⟩)
  | cons y a=>simp at U;exact .inl ⟨a++f k::f Χ::b,by rw[U.2];exact .two a b f k Χ,by rw[U.1];rfl⟩
theorem lR.ON {B:Type} (t:fu B):∀l,Acc lR l->Acc lR (t::l):=by
 induction t with
 | leaf=>
  intro l Β
  induction Β with
  | intro l _ Γ=>
   refine⟨_,λm hm=>?_⟩;rcases hm.cons_inv with⟨bO,J,rfl⟩|⟨f,k,h,_⟩|⟨f,k,Χ,h,_⟩
   ·exact Γ bO J
   ·cases h
   ·cases h
 | node f Dq=>
  intro l Β
  induction Β with
  | intro l qj Γ=>
   refine⟨_,λm hm=>?_⟩;rcases hm.cons_inv with⟨bO,J,rfl⟩|⟨f',k,h,rfl⟩|⟨f',k,Χ,h,rfl⟩
   ·exact Γ bO J
   ·cases h;exact Dq k l ⟨l,qj⟩
   ·cases h;exact Dq k _ (Dq Χ l ⟨l,qj⟩)
theorem lR.wf {B:Type}:WellFounded (lR (B:=B)):=⟨λl=>by
 induction l with
 | nil=>exact⟨_,λm hm=>by
   generalize U:([]:List (fu B))=x at hm;cases hm<;>simp at U⟩
 | cons t l Γ=>exact lR.ON t l Γ⟩
structure aK where
 G:υ
 ao:Nat->Option (Array Value×TypeId)
 tok:Nat->Tok
 spec:Nat->Option Spec
 view:Nat->Option (Nat×aD)
 deaf:Nat
 rel:Bool
def wY (V:Nat->Option (Array Value×TypeId)) (w:World):Prop:=∀b c t,V b=some (c,t)->w.heap[b]?=some (.cells c t (0,0))
def cu (o:aD):Int:=(o.cnt:Int)*4294967296+o.wt
def mwd (o:aD):Int:=(o.bY:Int)+2*o.wk+4*o.sv+8*o.nw
def dF (s:Nat) (o:aD) (w:World):Prop:=
 (∃ty,w.heap[s]?=some (.cells #[.int .u64 (cu o),.int .u32 o.cn] ty (0,0)))/\∀m,o.aI=some m->∃ty,w.heap[m]?=some (.cells #[.int .i32 (mwd o),.int .u32 o.cM] ty (0,0))
def dS (s:Nat) (sp:Spec) (b:Nat):Prop:=b=s\/sp.aI=some b
def sV (o:aD) (t:Tok):Prop:=∃N τ i,rm N o τ/\i<N/\τ i=t/\(∀k L g,t=.ch k (.cW L) g->o.L=L)
def Dr (x:aK) (s φ:Nat) (o:aD):Prop:=∀fP kn,x.view s=some (fP,kn)->φ<=fP/\(φ=fP->o=kn)
structure Sub (G' G:υ):Prop where
 av:∀b o v p,G'.av b o=some (v,p)->∃e2,G.av b o=some (v,e2)/\(p=true->e2=true)
 row:∀b x,G'.row b=some x->G.row b=some x
 obj:∀b x,G'.obj b=some x->G.obj b=some x
structure Split (G lS lT:υ):Prop where
 l:Sub lS G
 r:Sub lT G
 apart:Apart lS lT
def join (G H:υ):υ:=
 ⟨λb o=>match G.av b o with|some x=>some x|none=>H.av b o,λb=>match G.row b with|some x=>some x|none=>H.row b,λb=>match G.obj b with|some x=>some x|none=>H.obj b⟩
def ko (D:Nat->υ->Prop):List Nat->υ->Prop
 | [],E=>E=υ.empty
 | k::HP,E=>∃nY nZ,D k nY/\ko D HP nZ/\Apart nY nZ/\E=join nY nZ
structure zL (G G':υ) (n:Nat):Prop where
 av:∀b o v p,G'.av b o=some (v,p)->n<=b\/∃v0 e2,G.av b o=some (v0,e2)/\(p=true->e2=true)
 obj:∀b,G'.eE b->n<=b\/G.eE b
def Ds (V:Nat->Option (Array Value×TypeId)) (V':Nat->Option (Array Value×TypeId)) (G':υ) (n:Nat):Prop:=
 ∀b c,V' b=some c->V b=some c\/(n<=b/\G'.off b)
def zM (e:Event):Prop:=e.loc=.output\/e.loc=.mark .noRoom
def m9 (s:Nat) (sp:Spec) (d:Nat) (es:Array Event):Prop:=
 deafBehind d es=d/\∀j e,es[j]?=some e->(e.loc=.mark .disable\/e.loc=.mark .enable\/(∃b off wr,e=⟨.cell ⟨b,off,none⟩,wr,true⟩/\dS s sp b/\0<deafBehind d (es.extract 0 j)))
def iU (o:aD):Tok->Prop
 | .ch _ .q _=>o.cM=0
 | .par _ _ .w3=>o.cn=0
 | _=>False
def lU:Tok->Prop
 | .nil=>True
 | .par _ _ .add|.par _ _ .bf=>True
 | .ch _ .idle _|.ch _ .done _=>True
 | _=>False
def fi:Tok->Prop
 | .nil=>True
 | .par _ _ .bf=>True
 | _=>False
def Gone:Tok->Prop
 | .nil=>True
 | .par _ _ .bf=>True
 | .ch _ _ .gone=>True
 | _=>False
abbrev wZ:=Bool->Goroutine->aK->Prop
def hJ (g:Goroutine):Prop:=g.status=.running/\g.offers=none
section
variable (P:Program) (mn:Bool) (ag:wZ) (g:Goroutine) (x:aK)
def HQ:Prop:=∀w,Fits x.G w->wY x.ao w->(stepG P mn g w).goes λg' w' es=>∃G' V',hJ g'/\e0 x.G.owns x.G.eE w w'/\Fits G' w'/\wY V' w'/\
 zL x.G G' w.heap.size/\Ds x.ao V' G' w.heap.size/\(∀e∈es,if x.rel then zM e else gv x.G w.heap.size w'.heap.size e)/\(∀b c,V' b=some c->w.heap.size<=b->∀e∈es,¬mo e.loc b)/\ag mn g' {x with G:=G',ao:=V'}
def HR:Prop:=∃g',hJ g'/\((∀w,Fits x.G w->stepG P mn g w=.go g' w #[mk .disable]/\ag mn g' {x with deaf:=x.deaf+1})\/
 (0<x.deaf/\∀w,Fits x.G w->stepG P mn g w=.go g' w #[mk .enable]/\ag mn g' {x with deaf:=x.deaf-1}))
def HS:Prop:=∃(s n p:Nat) (ay:qg) (g':Goroutine) (off:Nat) (wr:Bool),x.tok s=.par n p ay/\ay≠.bf/\x.rel=false/\hJ g'/\∀w,Fits x.G w->stepG P mn g w=.go g' w #[mk (if wr then .write ⟨s,off,none⟩ else .read ⟨s,off,none⟩)]/\ag mn g' x
def Atom:Prop:=∃s sp,x.spec s=some sp/\¬fi (x.tok s)/\∀w φ o,Fits x.G w->wY x.ao w->o.toSpec=sp->dF s o w->Dr x s φ o->sV o (x.tok s)->
 ((stepG P mn g w).goes λg' w' es=>hJ g'/\e0 (λb _=>dS s sp b) (λ_=>False) w w'/\m9 s sp x.deaf es/\
   ((dF s o w'/\ag mn g' {x with view:=upd x.view s (some (φ,o))})\/
    ∃o' t',Act o (x.tok s) o' t'/\dF s o' w'/\(mayWake P g=true\/o'=o)/\∀b1,b1<φ->ag mn g' {x with tok:=upd x.tok s t',view:=upd x.view s (some (b1,o'))}))\/
 (iU o (x.tok s)/\(∀a7,a7≠s->lU (x.tok a7))/\stepG P mn g w=.go {g with status:=.blocked} w #[])
def HT:Prop:=∃s sp m k g',x.spec s=some sp/\sp.aI=some m/\x.tok s=.ch k .own .work/\x.deaf=0/\hJ g'/\x.rel=false/\
 (∀w,Fits x.G w->stepG P mn g w=.go g' w #[mk (.acquire ⟨m,0,none⟩)])/\
 ∀L E,sp.bw L E->Apart x.G E->(L.Nodup/\k∉L/\∃w,Fits x.G w/\Fits E w)->ag mn g' {x with G:=join x.G E,tok:=upd x.tok s (.ch k (.cW L) .work),view:=upd x.view s none}
def HU:Prop:=∃s sp m k L g' G' E,x.spec s=some sp/\sp.aI=some m/\x.tok s=.ch k (.cW L) .work/\x.deaf=0/\hJ g'/\x.rel=false/\
 (∀w,Fits x.G w->stepG P mn g w=.go g' w #[mk (.releaseMerge ⟨m,0,none⟩)])/\
 Split x.G G' E/\sp.bw (L++[k]) E/\ag mn g' {x with G:=G',tok:=upd x.tok s (.ch k .fin .work),view:=upd x.view s none}
def HV:Prop:=∃s sp k mu g' E,x.spec s=some sp/\x.tok s=.ch k mu .work/\(mu=.done\/(mu=.idle/\sp.aI=none))/\(∀a7,a7≠s->fi (x.tok a7))/\x.deaf=0/\hJ g'/\x.rel=false/\
 (∀w,Fits x.G w->stepG P mn g w=.go g' w #[mk (.releaseMerge ⟨s,0,none⟩)])/\
 Sub E x.G/\sp.D k E/\ag mn g' {x with G:=υ.empty,ao:=λ_=>none,tok:=upd x.tok s (.ch k mu .rel),view:=upd x.view s none,rel:=true}
def HW:Prop:=∃s sp n ay g',x.spec s=some sp/\x.tok s=.par n 0 ay/\(ay=.kR\/ay=.w4)/\x.deaf=0/\hJ g'/\x.rel=false/\
 (∀w,Fits x.G w->stepG P mn g w=.go g' w #[mk (.acquire ⟨s,0,none⟩)])/\
 ∀fv e3 fQ ed,fv.Perm (List.range n)->ko sp.D fv fQ->(sp.aI≠none->e3.Perm (List.range n)/\sp.bw e3 ed)->(sp.aI=none->ed=υ.empty)->Apart x.G fQ->Apart x.G ed->Apart fQ ed->(∃w,Fits x.G w/\Fits fQ w/\Fits ed w)->
  ag mn g' {x with G:=join (join x.G fQ) ed,tok:=upd x.tok s (.par n 0 .bf),view:=upd x.view s none}
def HX:Prop:=∃s sp n p g' c lS lT,x.spec s=some sp/\x.tok s=.par n (p+1) .add/\x.deaf=0/\hJ g'/\hJ c/\x.rel=false/\
 (∀w,Fits x.G w->stepG P mn g w=.spawn g' c w #[])/\Split x.G lS lT/\
 ag mn g' {x with G:=lS,tok:=upd x.tok s (.par n p .add),view:=upd x.view s none}/\
 ag false c ⟨lT,λ_=>none,upd (λ_=>.nil) s (.ch (n-(p+1)) .idle .work),upd (λ_=>none) s (some sp),λ_=>none,0,false⟩
def Dt:Prop:=
 (∃G',Sub G' x.G/\ag mn g {x with G:=G'})\/
 (∃b c t,x.ao b=some (c,t)/\ag mn g {x with ao:=upd x.ao b none,G:=⟨λΡ o=>if Ρ=b then(c[o]?).map (·,true) else x.G.av Ρ o,λΡ=>if Ρ=b then some (t,c.size) else x.G.row Ρ,x.G.obj⟩})\/
 (∃s sp ty G' E,x.ao s=some (#[.int .u64 0,.int .u32 0],ty)/\(∀m,sp.aI=some m->m≠s/\∃ir,x.ao m=some (#[.int .i32 0,.int .u32 0],ir))/\x.rel=false/\
  Split x.G G' E/\(sp.aI≠none->sp.bw [] E)/\
  ag mn g {x with G:=G',ao:=λb=>if b=s\/sp.aI=some b then none else x.ao b,tok:=upd x.tok s (.par 0 0 .add),spec:=upd x.spec s (some sp),view:=upd x.view s none})
def HY:Prop:=mn=false/\g.status=.running/\x.rel=true/\(∀s,Gone (x.tok s))/\∃g' es,(∀e∈es,Event.mute e=true)/\(∀w,stepG P false g w=.go g' w es)/\ag mn g' {x with deaf:=deafBehind x.deaf es}
def w5:Prop:=HY P mn ag g x\/hJ g/\(HQ P mn ag g x\/HR P mn ag g x\/HS P mn ag g x\/Atom P mn ag g x\/HT P mn ag g x\/HU P mn ag g x\/HV P mn ag g x\/HW P mn ag g x\/HX P mn ag g x\/Dt mn ag g x)
def HZ (Q:Value->Prop):Prop:=hJ g/\(∀s,fi (x.tok s))/\x.deaf=0/\∀w,Fits x.G w->∃v es,stepG P true g w=.ended (.done v) w es/\(∀e∈es,gv x.G w.heap.size w.heap.size e)/\Q v
def OO:Prop:=x.rel=true/\(∀s,Gone (x.tok s))/\g.status=.finished/\x.deaf=0
def zN (Q:Value->Prop):Prop:=(mn=true/\HZ P g x Q)\/(mn=false/\OO g x)
def w6:Prop:=x.rel=true->(∀s,Gone (x.tok s))->∃n,QuitsD P n x.deaf g
end
open Classical in
def iu (P:Program) (Q:Value->Prop):fu (Bool×Goroutine×aK)->wZ
 | .leaf=>λmn g x=>w6 P g x/\zN P mn g x Q
 | .node f=>λmn g x=>w6 P g x/\(zN P mn g x Q\/w5 P mn (λsW g' cT=>iu P Q (f (sW,g',cT)) sW g' cT) g x)
def Goes (P:Program) (Q:Value->Prop):wZ:=λmn g x=>∃T,iu P Q T mn g x
theorem w5.mono {P:Program} {mn:Bool} {ag H0:wZ} {g:Goroutine} {x:aK} (ck:∀mn g x,ag mn g x->H0 mn g x) (h:w5 P mn ag g x):w5 P mn H0 g x:=by
 rcases h with⟨Δ,Ε,a3,OP,g',es,eF,km,o4⟩|⟨ι,h⟩
 ·exact .inl ⟨Δ,Ε,a3,OP,g',es,eF,km,ck _ _ _ o4⟩
 refine .inr ⟨ι,?_⟩;rcases h with h|h|h|h|h|h|h|h|h|h
 ·refine .inl λw ab hv=>?_;have:=h w ab hv;revert this;cases stepG P mn g w<;>simp only[GStep.goes,imp_self];rintro⟨G',V',J,R,ς,Κ,aF,aV,fY,Du,qk⟩;exact⟨G',V',J,R,ς,Κ,aF,aV,fY,Du,ck _ _ _ qk⟩
 ·obtain⟨g',J,R⟩:=h;exact .inr (.inl ⟨g',J,R.elim (λh=>.inl λw ab=>⟨(h w ab).1,ck _ _ _ (h w ab).2⟩) (λh=>.inr ⟨h.1,λw ab=>⟨(h.2 w ab).1,ck _ _ _ (h.2 w ab).2⟩⟩)⟩)
 ·obtain⟨s,n,p,ay,g',off,wr,J,R,gy,ς,Κ⟩:=h;exact .inr (.inr (.inl ⟨s,n,p,ay,g',off,wr,J,R,gy,ς,λw ab=>⟨(Κ w ab).1,ck _ _ _ (Κ w ab).2⟩⟩))
 ·obtain⟨s,sp,J,gy,ς⟩:=h;refine .inr (.inr (.inr (.inl ⟨s,sp,J,gy,λw φ o ab hv ν κ w7 χ=>?_⟩)));refine(ς w φ o ab hv ν κ w7 χ).imp (λh=>?_) id;revert h;cases stepG P mn g w<;>simp only[GStep.goes,imp_self];rintro⟨J,R,ς,Κ⟩;exact⟨J,R,ς,Κ.imp (λh=>⟨h.1,ck _ _ _ h.2⟩) λ⟨o',t',a1,bg,cr,fX⟩=>⟨o',t',a1,bg,cr,λb1 dX=>ck _ _ _ (fX b1 dX)⟩⟩
 ·obtain⟨s,sp,m,k,g',J,R,ς,Κ,aF,rp,aV,fY⟩:=h;exact .inr (.inr (.inr (.inr (.inl ⟨s,sp,m,k,g',J,R,ς,Κ,aF,rp,aV,λL E a b c=>ck _ _ _ (fY L E a b c)⟩))))
 ·obtain⟨s,sp,m,k,L,g',G',E,J,R,ς,Κ,aF,rp,aV,fY,qk,rq⟩:=h;exact .inr (.inr (.inr (.inr (.inr (.inl ⟨s,sp,m,k,L,g',G',E,J,R,ς,Κ,aF,rp,aV,fY,qk,ck _ _ _ rq⟩)))))
 ·obtain⟨s,sp,k,mu,g',E,J,R,ς,Κ,aF,aV,OQ,fY,qk,rq,OR⟩:=h;exact .inr (.inr (.inr (.inr (.inr (.inr (.inl ⟨s,sp,k,mu,g',E,J,R,ς,Κ,aF,aV,OQ,fY,qk,rq,ck _ _ _ OR⟩))))))
 ·obtain⟨s,sp,n,ay,g',J,R,ς,Κ,aF,rp,aV,fY⟩:=h;exact .inr (.inr (.inr (.inr (.inr (.inr (.inr (.inl ⟨s,sp,n,ay,g',J,R,ς,Κ,aF,rp,aV,λfv e3 fQ ed a b c d e f g i=>ck _ _ _ (fY fv e3 fQ ed a b c d e f g i)⟩)))))))
 ·obtain⟨s,sp,n,p,g',c,lS,lT,J,R,ς,Κ,aF,rp,aV,fY,qk,rq⟩:=h;exact .inr (.inr (.inr (.inr (.inr (.inr (.inr (.inr (.inl ⟨s,sp,n,p,g',c,lS,lT,J,R,ς,Κ,aF,rp,aV,fY,ck _ _ _ qk,ck _ _ _ rq⟩))))))))
 ·refine .inr (.inr (.inr (.inr (.inr (.inr (.inr (.inr (.inr ?_))))))));rcases h with⟨G',J,R⟩|⟨b,c,t,J,R⟩|⟨s,sp,ty,G',E,J,R,ς,Κ,aF,fY⟩
  ·exact .inl ⟨G',J,ck _ _ _ R⟩
  ·exact .inr (.inl ⟨b,c,t,J,ck _ _ _ R⟩)
  ·exact .inr (.inr ⟨s,sp,ty,G',E,J,R,ς,Κ,aF,ck _ _ _ fY⟩)
theorem Goes.stop {P:Program} {Q:Value->Prop} {mn:Bool} {g:Goroutine} {x:aK} (ω:w6 P g x) (h:zN P mn g x Q):Goes P Q mn g x:=⟨.leaf,ω,h⟩
open Classical in
theorem Goes.step {P:Program} {Q:Value->Prop} {mn:Bool} {g:Goroutine} {x:aK} (ω:w6 P g x) (h:w5 P mn (Goes P Q) g x):Goes P Q mn g x:=by
 refine⟨.node λk=>if Α:∃T,iu P Q T k.1 k.2.1 k.2.2 then Classical.choose Α else .leaf,ω,.inr (h.mono λsW g' cT Ο=>?_)⟩;have Α:∃T,iu P Q T sW g' cT:=Ο;simp only[Α,dif_pos];exact Classical.choose_spec Α
theorem Goes.quits {P:Program} {Q:Value->Prop} (n:Nat):∀{g:Goroutine} {x:aK},x.rel=true->(∀s,Gone (x.tok s))->QuitsD P n x.deaf g->Goes P Q false g x:=by
 induction n with
 | zero=>
  intro g x ι Ο Ψ;exact .stop (λ_ _=>⟨0,Ψ⟩) (.inr ⟨rfl,ι,Ο,Ψ.1,Ψ.2⟩)
 | succ n Γ=>
  intro g x ι Ο Ψ;rcases Ψ with Ψ|⟨ν,g',es,J,R,ς⟩
  ·exact .stop (λ_ _=>⟨0,Ψ⟩) (.inr ⟨rfl,ι,Ο,Ψ.1,Ψ.2⟩)
  ·exact .step (λ_ _=>⟨n+1,.inr ⟨ν,g',es,J,R,ς⟩⟩) (.inl ⟨rfl,ν,ι,Ο,g',es,J,R,Γ (x:={x with deaf:=deafBehind x.deaf es}) ι Ο ς⟩)
abbrev cl:=Nat ⊕ Nat
def bt (H:cl->υ) (h:cl) (G:υ):cl->υ:=λk=>if k=h then G else H k
@[simp] theorem dm (H:cl->υ) (h:cl) (G:υ):bt H h G h=G:=by simp[bt]
theorem bu (H:cl->υ) {h k:cl} (G:υ) (Α:k≠h):bt H h G k=H k:=by simp[bt,Α]
structure cN where
 H:cl->υ
 ao:Nat->Nat->Option (Array Value×TypeId)
 tok:Nat->Nat->Tok
 spec:Nat->Nat->Option Spec
 view:Nat->Nat->Option (Nat×aD)
 deaf:Nat->Nat
 rel:Nat->Bool
 T:Nat->fu (Bool×Goroutine×aK)
 O:Nat->Option aD
 bc:Nat->Nat
 home:Nat->Nat
 df:Nat->Nat
def cN.x (c:cN) (i:Nat):aK:=⟨c.H (.inl i),c.ao i,c.tok i,c.spec i,c.view i,c.deaf i,c.rel i⟩
structure gj (H:cl->υ) (ao:Nat->Nat->Option (Array Value×TypeId)) (O:Nat->Option aD) (a' w:World):Prop where
 fit:∀h,Fits (H h) w
 kV:∀i,wY (ao i) w
 e':∀s o,O s=some o->dF s o w
 keep:e0 (λ_ _=>False) (λ_=>False) a' w
structure hh (H:cl->υ) (ao:Nat->Nat->Option (Array Value×TypeId)) (O:Nat->Option aD) (gz:Nat):Prop where
 apart:∀h k,h≠k->Apart (H h) (H k)
 high:∀h b o,(H h).owns b o->gz<=b
 mx:∀h b,(H h).eE b->gz<=b
 fresh:∀i b v,ao i b=some v->gz<=b/\(∀h,(H h).off b)/\∀j,j≠i->ao j b=none
 jj:∀s o b,O s=some o->dS s o.toSpec b->gz<=b/\(∀h,(H h).off b)/\∀j,ao j b=none
 jF:∀s a7 o o' b,O s=some o->O a7=some o'->dS s o.toSpec b->dS a7 o'.toSpec b->s=a7
 n0:∀s o m,O s=some o->o.aI=some m->m≠s
 dY:∀b,(∀s o,O s=some o->¬dS s o.toSpec b)->H (.inr b)=υ.empty
theorem gj.own {H:cl->υ} {ao:Nat->Nat->Option (Array Value×TypeId)} {O:Nat->Option aD} {a' w w':World} {gz:Nat} (dM:gj H ao O a' w) (ψ:hh H ao O gz) (i:Nat) {G':υ} {V':Nat->Option (Array Value×TypeId)}
  (Α:e0 (H (.inl i)).owns (H (.inl i)).eE w w') (ab:Fits G' w') (hv:wY V' w') (af:a'.heap.size=gz):gj (bt H (.inl i) G') (upd ao i V') O a' w':=by
 have ap:∀h,h≠.inl i->(∀b o,(H (.inl i)).owns b o->¬(H h).has b o)/\∀b,(H (.inl i)).eE b->¬(H h).eE b:=λh aN=>⟨(ψ.apart _ _ (Ne.symm aN)).av,(ψ.apart _ _ (Ne.symm aN)).obj⟩;refine⟨λh=>?_,λj=>?_,λs o ν=>?_,?_⟩
 ·by_cases aN:h=.inl i
  ·subst aN;rw[dm];exact ab
  ·rw[bu _ _ aN];exact(dM.fit h).keeps Α (ap h aN).1 (ap h aN).2
 ·by_cases γ:j=i
  ·subst γ;rw[upd_same];exact hv
  ·rw[upd_ne _ _ γ];intro b c t hb;obtain⟨c',J,R,ς⟩:=Α.cells b c t _ (dM.kV j b c t hb);have off:=(ψ.fresh j b _ hb).2.1 (.inl i);have:c'=c:=by
    apply Array.ext_getElem?;intro o;exact ς o λ⟨v,hv⟩=>off.1 o ⟨_,hv⟩
   rw[J,this]
 ·have off:=λb (hb:dS s o.toSpec b)=>(ψ.jj s o b ν hb).2.1 (.inl i)
  have w8:∀b c t,dS s o.toSpec b->w.heap[b]?=some (.cells c t (0,0))->w'.heap[b]?=some (.cells c t (0,0)):=λb c t hb η=>by
   obtain⟨c',J,R,ς⟩:=Α.cells b c t _ η;have:c'=c:=by
    apply Array.ext_getElem?;intro o';exact ς o' λ⟨v,hv⟩=>(off b hb).1 o' ⟨_,hv⟩
   rw[J,this]
  obtain⟨⟨ty,J⟩,R⟩:=dM.e' s o ν;exact⟨⟨ty,w8 _ _ _ (.inl rfl) J⟩,λm hm=>let ⟨ir,ς⟩:=R m hm;⟨ir,w8 _ _ _ (.inr hm) ς⟩⟩
 ·have ee:=dM.keep;refine⟨Nat.le_trans ee.size Α.size,λb c t dz hb=>?_,λb x hb U _=>?_,ee.os.trans Α.os,Α.output.trans ee.output,Α.tape.trans ee.tape⟩
  ·obtain⟨c1,J,R,ς⟩:=ee.cells b c t dz hb;obtain⟨c2,Κ,aF,aV⟩:=Α.cells b c1 t dz J;refine⟨c2,Κ,by rw[aF,R],λo _=>?_⟩;rw[aV o λU=>?_,ς o id];have:=ψ.high _ _ _ U;have:=e1 hb;omega
  ·refine Α.lO b x (ee.lO b x hb U id) U λgN=>?_;have:=ψ.mx _ _ gN;have:=e1 hb;omega
theorem gj.at {H:cl->υ} {ao:Nat->Nat->Option (Array Value×TypeId)} {O:Nat->Option aD} {a' w:World} (h:gj H ao O a' w) (d:Nat):gj H ao O a' (w.at d):=
 ⟨λk=>(h.fit k).at d,h.kV,h.e',⟨h.keep.size,h.keep.cells,h.keep.lO,h.keep.os,h.keep.output,h.keep.tape⟩⟩
theorem hh.own {H:cl->υ} {ao:Nat->Nat->Option (Array Value×TypeId)} {O:Nat->Option aD} {gz:Nat} {w:World} {a':World} (ψ:hh H ao O gz) (dM:gj H ao O a' w) (b8:gz<=w.heap.size) (i:Nat) {G':υ} {V':Nat->Option (Array Value×TypeId)}
  (Ο:zL (H (.inl i)) G' w.heap.size) (o6:Ds (ao i) V' G' w.heap.size):hh (bt H (.inl i) G') (upd ao i V') O gz:=by
 have H2:∀b o,G'.has b o->w.heap.size<=b\/(H (.inl i)).has b o:=λb o ⟨⟨v,p⟩,h⟩=>(Ο.av b o v p h).imp id λ⟨v0,e2,af,_⟩=>⟨_,af⟩
 have H3:∀b o,G'.owns b o->w.heap.size<=b\/(H (.inl i)).owns b o:=λb o ⟨v,h⟩=>(Ο.av b o v true h).imp id λ⟨v0,e2,af,χ⟩=>⟨v0,by rw[af,χ rfl]⟩
 have sX:∀h b o,(H h).has b o->b<w.heap.size:=λh b o ⟨⟨v,p⟩,U⟩=>by
  obtain⟨c,t,dz,hb,_⟩:=o0 ((dM.fit h).av b o v p U);exact e1 hb
 have w9:∀h b,(H h).eE b->b<w.heap.size:=λh b ⟨x,U⟩=>e1 ((dM.fit h).obj b x U).1
 have H4:∀k,k≠.inl i->Apart G' (H k):=λk Α=>by
  have a:=ψ.apart _ _ (Ne.symm Α);refine⟨λb o ω U=>?_,λb o ω U=>?_,λb ω U=>?_⟩
  ·rcases H3 b o ω with h|h
   ·have:=sX k b o U;omega
   ·exact a.av b o h U
  ·rcases H2 b o U with h|h
   ·have:=sX k b o (let ⟨v,hv⟩:=ω;⟨_,hv⟩);omega
   ·exact a.oZ b o ω h
  ·rcases Ο.obj b ω with h|h
   ·have:=w9 k b U;omega
   ·exact a.obj b h U
 have OS:∀{A B:υ},Apart A B->Apart B A:=λh=>⟨h.oZ,h.av,λb hb κ=>h.obj b κ hb⟩
 have Dv:∀b,b<w.heap.size->(H (.inl i)).off b->G'.off b:=λb hb h=>⟨λo ω=>(H2 b o ω).elim (λx=>by omega) (h.1 o),λω=>(Ο.obj b ω).elim (λx=>by omega) h.2⟩
 have uK:∀j b v,ao j b=some v->b<w.heap.size:=λj b v hv=>e1 (dM.kV j b v.1 v.2 hv)
 have Dw:∀s o b,O s=some o->dS s o.toSpec b->b<w.heap.size:=λs o b ν hb=>by
  obtain⟨⟨ty,J⟩,R⟩:=dM.e' s o ν;rcases hb with rfl|hb
  ·exact e1 J
  ·obtain⟨ir,ς⟩:=R b hb;exact e1 ς
 refine⟨λh k Α=>?_,λh b o ω=>?_,λh b ω=>?_,λj b v hv=>?_,λs o b ν hb=>?_,ψ.jF,ψ.n0,λb hb=>?_⟩
 ·by_cases aN:h=.inl i
  ·subst aN;rw[dm,bu _ _ (Ne.symm Α)];exact H4 k (Ne.symm Α)
  ·by_cases kk:k=.inl i
   ·subst kk;rw[dm,bu _ _ aN];exact OS (H4 h aN)
   ·rw[bu _ _ aN,bu _ _ kk];exact ψ.apart h k Α
 ·by_cases aN:h=.inl i
  ·subst aN;rw[dm] at ω;rcases H3 b o ω with h|h
   ·omega
   ·exact ψ.high _ _ _ h
  ·rw[bu _ _ aN] at ω;exact ψ.high _ _ _ ω
 ·by_cases aN:h=.inl i
  ·subst aN;rw[dm] at ω;rcases Ο.obj b ω with h|h
   ·omega
   ·exact ψ.mx _ _ h
  ·rw[bu _ _ aN] at ω;exact ψ.mx _ _ ω
 ·by_cases γ:j=i
  ·subst γ;rw[upd_same] at hv;rcases o6 b v hv with h|⟨J,R⟩
   ·obtain⟨a1,bg,cr⟩:=ψ.fresh j b v h;refine⟨a1,λc0=>?_,λbp dE=>by rw[upd_ne _ _ dE];exact cr bp dE⟩;by_cases aN:c0=.inl j
    ·subst aN;rw[dm];exact Dv b (uK j b v h) (bg _)
    ·rw[bu _ _ aN];exact bg _
   ·refine⟨by omega,λc0=>?_,λbp dE=>?_⟩
    ·by_cases aN:c0=.inl j
     ·subst aN;rw[dm];exact R
     ·rw[bu _ _ aN];exact⟨λo ω=>by have:=sX c0 b o ω;omega,λω=>by have:=w9 c0 b ω;omega⟩
    ·rw[upd_ne _ _ dE];cases η:ao bp b with
     | none=>rfl
     | some eN=>have:=uK bp b eN η;omega
  ·rw[upd_ne _ _ γ] at hv;obtain⟨a1,bg,cr⟩:=ψ.fresh j b v hv;have hb:=uK j b v hv;refine⟨a1,λc0=>?_,λbp dE=>?_⟩
   ·by_cases aN:c0=.inl i
    ·subst aN;rw[dm];exact Dv b hb (bg _)
    ·rw[bu _ _ aN];exact bg _
   ·by_cases c0:bp=i
    ·subst c0;rw[upd_same];cases η:V' b with
     | none=>rfl
     | some eN=>
      rcases o6 b eN η with h|⟨J,_⟩
      ·rw[cr bp dE] at h;cases h
      ·omega
    ·rw[upd_ne _ _ c0];exact cr bp dE
 ·obtain⟨a1,bg,cr⟩:=ψ.jj s o b ν hb;have rr:=Dw s o b ν hb;refine⟨a1,λc0=>?_,λbp=>?_⟩
  ·by_cases aN:c0=.inl i
   ·subst aN;rw[dm];exact Dv b rr (bg _)
   ·rw[bu _ _ aN];exact bg _
  ·by_cases c0:bp=i
   ·subst c0;rw[upd_same];cases η:V' b with
    | none=>rfl
    | some eN=>
     rcases o6 b eN η with h|⟨J,_⟩
     ·rw[cr bp] at h;cases h
     ·omega
   ·rw[upd_ne _ _ c0];exact cr bp
 ·rw[bu _ _ (by simp)];exact ψ.dY b hb
def iv (tok:Nat->Nat->Tok) (O:Nat->Option aD) (t:Trace):cl->Nat->Prop
 | .inl i,k=>Knows t i k
 | .inr b,k=>(∃p op,t[p]?=some op/\op.act=.mark (.releaseMerge ⟨b,0,none⟩)/\t.heard p/\Before t k p)\/(∀s o,O s=some o->dS s o.toSpec b->∀i,tok i s≠.nil->Knows t i k)
theorem Dx {tok:Nat->Nat->Tok} {O:Nat->Option aD} {t:Trace} (u:Trace) {h:cl} {k:Nat} (Α:iv tok O t h k):iv tok O (t++u) h k:=by
 cases h with
 | inl i=>exact Knows.app u Α
 | inr b=>
  rcases Α with⟨p,op,J,R,ς,Κ⟩|h
  ·have χ:=lt_size_of_getElem? J;exact .inl ⟨p,op,by rw[getElem?_append_old χ];exact J,R,(heard_old χ).2 ς,Κ.app u⟩
  ·exact .inr λs o ν hb i hi=>(h s o ν hb i hi).app u
structure hK (H:cl->υ) (ao:Nat->Nat->Option (Array Value×TypeId)) (tok:Nat->Nat->Tok) (O:Nat->Option aD) (bc:Nat->Nat) (deaf:Nat->Nat) (N:Nat) (t:Trace):Prop where
 race:∀said,¬Race said t
 low:∀op∈t,op.act.low N
 norel:∀op∈t,∀a,op.act≠.mark (.release a)
 perms:∀h,c5 t (iv tok O t h) (H h)
 m':∀i b v,ao i b=some v->∀k a,touchAt t k=some a->¬mo a.loc b
 cont:∀s o b,O s=some o->dS s o.toSpec b->∀k a,touchAt t k=some a->mo a.loc b->a.kind=.atomic\/(a.kind=.said/\t.g? k=some (bc s))
 hears:∀i,Deaf t i=deaf i
theorem xa {t:Trace} {N k:Nat} {a:Touch} (h:∀op∈t,op.act.low N) (κ:touchAt t k=some a) {b:Nat} (hb:mo a.loc b):b<N:=by
 obtain⟨op,ω,hj⟩:=touch_of κ;have Β:=h op (mem_of_getElem? ω);obtain⟨g,fn,pos,act⟩:=op;cases act with
 | access e=>
  simp only[MemAct.touch?,Option.some.injEq] at hj;subst hj;obtain⟨loc,wr,na⟩:=e;cases loc<;>simp only[mo] at hb<;>first|(subst hb;exact Β)|exact hb.elim
 | mark m=>
  cases m<;>simp only[MemAct.touch?,Option.some.injEq,reduceCtorEq] at hj<;>(subst hj;simp only[mo] at hb;subst hb;exact Β)
 | _=>simp[MemAct.touch?] at hj
theorem zM.Dy {G:υ} {n hZ:Nat} {e:Event} (h:zM e):gv G n hZ e:=by
 rcases h with h|h<;>simp[gv,h]
theorem zO {G:υ} {n hZ:Nat} {e:Event} (he:gv G n hZ e) {a:Touch} (κ:(MemAct.ofEvent e).touch?=some a) :
  a.loc=e.loc/\a.write=e.write/\(a.loc.isMemory=true->(∃b',e.loc=.cell b')\/∃r,e.loc=.obj r):=by
 obtain⟨loc,wr,na⟩:=e;cases loc with
 | cell b'=>simp[MemAct.ofEvent,MemAct.touch?] at κ;subst κ;simp
 | obj r=>
  simp only[gv] at he;obtain⟨rfl,_⟩:=he;cases wr<;>simp[MemAct.ofEvent,MemAct.touch?] at κ<;>subst κ<;>simp
 | output=>simp[MemAct.ofEvent,MemAct.touch?] at κ;subst κ;simp[Loc.isMemory]
 | goroutines=>exact he.elim
 | mark m=>simp only[gv] at he;subst he;simp[MemAct.ofEvent,MemAct.touch?] at κ
theorem hK.own {H:cl->υ} {ao:Nat->Nat->Option (Array Value×TypeId)} {tok:Nat->Nat->Tok} {O:Nat->Option aD} {bc:Nat->Nat} {deaf:Nat->Nat} {a' w w':World} {gz:Nat} {t:Trace}
  (Ζ:hK H ao tok O bc deaf w.heap.size t) (dM:gj H ao O a' w) (ψ:hh H ao O gz) (i:Nat) {G':υ} {V':Nat->Option (Array Value×TypeId)} {es:Array Event} {fn:FuncId} {pos:String}
  (b2:w.heap.size<=w'.heap.size) (Ο:zL (H (.inl i)) G' w.heap.size) (o6:Ds (ao i) V' G' w.heap.size)
  (fj:∀e∈es,gv (H (.inl i)) w.heap.size w'.heap.size e) (Dz:∀b c,V' b=some c->w.heap.size<=b->∀e∈es,¬mo e.loc b) :
  hK (bt H (.inl i) G') (upd ao i V') tok O bc deaf w'.heap.size (t++MemOp.ofEvents i fn pos es):=by
 have hu:∀op∈MemOp.ofEvents i fn pos es,op.g=i:=λop Θ=>by obtain⟨e,_,rfl⟩:=Go.Conc.mem_ofEvents Θ;rfl
 have sX:∀h b o,(H h).has b o->b<w.heap.size:=λh b o ⟨⟨v,p⟩,U⟩=>by
  obtain⟨c,t,dz,hb,_⟩:=o0 ((dM.fit h).av b o v p U);exact e1 hb
 have w9:∀h b,(H h).eE b->b<w.heap.size:=λh b ⟨x,U⟩=>e1 ((dM.fit h).obj b x U).1
 have uK:∀j b v,ao j b=some v->b<w.heap.size:=λj b v hv=>e1 (dM.kV j b v.1 v.2 hv)
 have Dw:∀s o b,O s=some o->dS s o.toSpec b->b<w.heap.size:=λs o b ν hb=>by
  obtain⟨⟨ty,J⟩,R⟩:=dM.e' s o ν;rcases hb with rfl|hb
  ·exact e1 J
  ·obtain⟨ir,ς⟩:=R b hb;exact e1 ς
 have DC:∀e∈es,∀b,b<w.heap.size->(H (.inl i)).off b->¬mo e.loc b:=λe he b hb ql eO=>by
  have:=fj e he;obtain⟨loc,wr,na⟩:=e;cases loc with
  | cell b'=>
   simp only[mo] at eO;subst eO;simp only[gv] at this;rcases this with h|⟨_,h⟩
   ·omega
   ·cases wr
    ·exact ql.1 _ h
    ·obtain⟨v,hv⟩:=h;exact ql.1 _ ⟨_,hv⟩
  | obj r=>
   simp only[mo] at eO;subst eO;simp only[gv] at this;rcases this.2 with h|h
   ·omega
   ·exact ql.2 h
  | _=>exact eO
 refine⟨λsaid=>noRace_append (Ζ.race said) hu λk a κ op Θ b hb η=>?_,λop Θ=>?_,λop Θ=>?_,λh=>?_,λj b v hv k a κ eO=>?_,λs o b ν hb k a κ eO=>?_,λj=>?_⟩
 ·obtain⟨e,he,rfl⟩:=Go.Conc.mem_ofEvents Θ;obtain⟨J,R,ς⟩:=zO (fj e he) hb;obtain⟨c1,c2,c3,_⟩:=η;have dg:=fj e he;rcases ς (by rw[<-c1];exact c2) with⟨b',Β⟩|⟨r,Β⟩
  ·simp only[gv,Β] at dg;have jG:a.loc=.cell b':=by rw[c1,J,Β]
   rcases dg with h|⟨bF,h⟩
   ·have:=xa Ζ.low κ (b:=b'.block) (by rw[jG];rfl);omega
   ·obtain⟨nb,aΜ,sp⟩:=b';simp only at bF;subst bF;by_cases hw:e.write=true
    ·rw[if_pos hw] at h;obtain⟨v,hv⟩:=h;exact(Ζ.perms (.inl i)).av _ _ v true hv k a κ jG (.inl rfl)
    ·rw[if_neg hw] at h;obtain⟨⟨v,p⟩,hv⟩:=h;exact(Ζ.perms (.inl i)).av _ _ v p hv k a κ jG (.inr (c3.resolve_right (by rw[R];exact hw)))
  ·simp only[gv,Β] at dg;have jG:a.loc=.obj r:=by rw[c1,J,Β]
   rcases dg.2 with h|h
   ·have:=xa Ζ.low κ (b:=r) (by rw[jG];rfl);omega
   ·exact(Ζ.perms (.inl i)).obj r h k a κ jG
 ·rcases Array.mem_append.1 Θ with h|h
  ·exact MemAct.low_mono b2 (Ζ.low op h)
  ·obtain⟨e,he,rfl⟩:=Go.Conc.mem_ofEvents h;have dg:=fj e he;obtain⟨loc,wr,na⟩:=e;cases loc with
   | cell b'=>
    simp only[gv] at dg;show b'.block<_;rcases dg with h|⟨_,h⟩
    ·exact h.2
    ·cases wr
     ·have:=sX _ _ _ h;omega
     ·obtain⟨v,hv⟩:=h;have:=sX (.inl i) _ _ ⟨_,hv⟩;omega
   | obj r=>
    simp only[gv] at dg;obtain⟨rfl,dg⟩:=dg;have ι:r<w'.heap.size:=dg.elim (λh=>h.2) (λh=>by have:=w9 _ _ h;omega);cases wr<;>exact ι
   | output=>trivial
   | goroutines=>exact dg.elim
   | mark m=>simp only[gv] at dg;subst dg;trivial
 ·rcases Array.mem_append.1 Θ with h|h
  ·exact Ζ.norel op h
  ·obtain⟨e,he,rfl⟩:=Go.Conc.mem_ofEvents h;intro a h;have dg:=fj e he;obtain⟨loc,wr,na⟩:=e;cases loc with
   | mark m=>simp only[gv] at dg;subst dg;simp[MemAct.ofEvent] at h
   | obj r=>cases wr<;>cases na<;>simp[MemAct.ofEvent] at h
   | _=>simp[MemAct.ofEvent] at h
 ·by_cases aN:h=.inl i
  ·subst aN;rw[dm];have H5:c5 (t++MemOp.ofEvents i fn pos es) (Knows (t++MemOp.ofEvents i fn pos es) i) (H (.inl i)):=(Ζ.perms (.inl i)).own hu;refine⟨λb o v p η k a κ Β hw=>?_,λb hb k a κ Β=>?_⟩
   ·rcases Ο.av b o v p η with Ι|⟨v0,e2,af,χ⟩
    ·rcases lP κ with eo|⟨_,op,Θ,Α,_⟩
     ·have:=xa Ζ.low eo (b:=b) (by rw[Β];rfl);omega
     ·have:=knows_own Α;rwa [hu op Θ] at this
    ·exact H5.av b o v0 e2 af k a κ Β (hw.imp χ id)
   ·rcases Ο.obj b hb with Ι|af
    ·rcases lP κ with eo|⟨_,op,Θ,Α,_⟩
     ·have:=xa Ζ.low eo (b:=b) (by rw[Β];rfl);omega
     ·have:=knows_own Α;rwa [hu op Θ] at this
    ·exact H5.obj b af k a κ Β
  ·rw[bu _ _ aN];have ap:=ψ.apart _ _ (Ne.symm aN);refine(Ζ.perms h).others (λk Α=>Dx _ Α) λop Θ a κ=>?_;obtain⟨e,he,rfl⟩:=Go.Conc.mem_ofEvents Θ;obtain⟨J,R,_⟩:=zO (fj e he) κ;have dg:=fj e he;refine⟨λb o v p Β η=>?_,λb Β hb=>?_⟩
   ·simp only[gv,<-J,Β] at dg;rcases dg with U|⟨_,U⟩
    ·have:=sX h b o ⟨_,η⟩;omega
    ·by_cases hw:e.write=true
     ·rw[if_pos hw] at U;exact absurd ⟨_,η⟩ (ap.av b o U)
     ·rw[if_neg hw] at U;refine⟨?_,by rw[R];simpa using hw⟩;cases p with
      | false=>rfl
      | true=>exact absurd U (ap.oZ b o ⟨v,η⟩)
   ·simp only[gv,<-J,Β] at dg;rcases dg.2 with U|U
    ·have:=w9 h b hb;omega
    ·exact ap.obj b U hb
 ·rcases lP κ with eo|⟨_,op,Θ,_,hj⟩
  ·have hb:=xa Ζ.low eo eO;by_cases γ:j=i
   ·subst γ;rw[upd_same] at hv;rcases o6 b v hv with h|h
    ·exact Ζ.m' j b v h k a eo eO
    ·omega
   ·rw[upd_ne _ _ γ] at hv;exact Ζ.m' j b v hv k a eo eO
  ·obtain⟨e,he,rfl⟩:=Go.Conc.mem_ofEvents Θ;obtain⟨J,_,_⟩:=zO (fj e he) hj;rw[J] at eO;by_cases γ:j=i
   ·subst γ;rw[upd_same] at hv;rcases o6 b v hv with h|h
    ·exact DC e he b (uK j b v h) ((ψ.fresh j b v h).2.1 _) eO
    ·exact Dz b v hv h.1 e he eO
   ·rw[upd_ne _ _ γ] at hv;exact DC e he b (uK j b v hv) ((ψ.fresh j b v hv).2.1 _) eO
 ·rcases lP κ with eo|⟨_,op,Θ,_,hj⟩
  ·rcases Ζ.cont s o b ν hb k a eo eO with h|⟨h,Α⟩
   ·exact .inl h
   ·obtain⟨op,ω,_⟩:=touch_of eo;exact .inr ⟨h,by rw[g?_old (lt_size_of_getElem? ω)];exact Α⟩
  ·obtain⟨e,he,rfl⟩:=Go.Conc.mem_ofEvents Θ;obtain⟨J,_,_⟩:=zO (fj e he) hj;rw[J] at eO;exact absurd eO (DC e he b (Dw s o b ν hb) ((ψ.jj s o b ν hb).2.1 _))
 ·by_cases γ:i=j
  ·subst γ;rw[Deaf_own,deafBehind_still (λe he=>?_)]
   ·exact Ζ.hears i
   ·have dg:=fj e he;constructor<;>intro Β<;>simp[gv,Β] at dg
  ·rw[Deaf_other t γ _ hu];exact Ζ.hears j
def nd:kg->Prop
 | .fin|.uc|.us|.done=>True
 | _=>False
def bM (tok:Nat->Nat->Tok) (i s:Nat) (t:Tok):Nat->Nat->Tok:=upd tok i (upd (tok i) s t)
theorem eG (tok:Nat->Nat->Tok) (i s:Nat) (t:Tok):bM tok i s t i s=t:=by simp[bM,upd]
theorem ew {tok:Nat->Nat->Tok} {i s j r:Nat} (t:Tok) (h:¬(j=i/\r=s)):bM tok i s t j r=tok j r:=by
 unfold bM upd;by_cases γ:j=i
 ·subst γ;by_cases ι:r=s
  ·exact absurd ⟨rfl,ι⟩ h
  ·simp[ι]
 ·simp[γ]
theorem H6 (tok:Nat->Nat->Tok) (i s:Nat) (t:Tok):(λj=>bM tok i s t j s)=upd (λj=>tok j s) i t:=by
 funext j
 by_cases γ:j=i
 ·subst γ;rw[eG,upd_same]
 ·rw[ew _ (λh=>γ h.1),upd_ne _ _ γ]
theorem DD (tok:Nat->Nat->Tok) (i s:Nat) (t:Tok) {r:Nat} (ι:r≠s):(λj=>bM tok i s t j r)=λj=>tok j r:=by
 funext j;rw[ew _ (λh=>ι h.2)]
structure ek (n:Nat) (tok:Nat->Nat->Tok) (spec:Nat->Nat->Option Spec) (view:Nat->Nat->Option (Nat×aD)) (rel:Nat->Bool) (O:Nat->Option aD) (bc home:Nat->Nat):Prop where
 a5:∀s o,O s=some o->rm n o (λi=>tok i s)
 bare:∀s,O s=none->∀i,tok i s=.nil
 out:∀i s,n<=i->tok i s=.nil
 o7:∀i s sp,spec i s=some sp->∃o,O s=some o/\o.toSpec=sp
 sY:∀i s φ o,view i s=some (φ,o)->∃dq,O s=some dq/\ec n dq (λj=>tok j s)<=φ/\(ec n dq (λj=>tok j s)=φ->dq=o)
 cW:∀i s k L g o,O s=some o->tok i s=.ch k (.cW L) g->o.L=L
 par:∀i s m p ay,tok i s=.par m p ay->i=bc s
 nf:∀i s k m g,tok i s=.ch k m g->i≠0/\home i=s/\bc s<i
 qm:∀i,i≠0->i<n->∃k m g,tok i (home i)=.ch k m g
 n1:∀i k m g,i≠0->tok i (home i)=.ch k m g->(rel i=true↔g≠.work)
 ru:rel 0=false
 ng:∀i s,rel i=true->s≠home i->fi (tok i s)
 nh:∀i s k m g o,O s=some o->tok i s=.ch k m g->g≠.work->m=.done\/(m=.idle/\o.aI=none)
 sZ:∀s i j k m g bO g',tok i s=.ch k m g->tok j s=.ch k bO g'->i=j
 rv:∀s i k m g q p ay,tok i s=.ch k m g->tok (bc s) s=.par q p ay->k+p<q
 e3:∀s o,O s=some o->o.L.Nodup/\∀k,k∈o.L↔∃i m g,tok i s=.ch k m g/\nd m
 fv:∀s o,O s=some o->o.ag.Nodup/\∀k,k∈o.ag↔∃i m g,tok i s=.ch k m g/\g≠.work
def Alike (t t':Tok):Prop:=(∃m p ay bO ef DF,t=.par m p ay/\t'=.par bO ef DF/\∀k,k+p<m->k+ef<bO)\/(∃k m g bO g',t=.ch k m g/\t'=.ch k bO g')
section
variable {n:Nat} {tok:Nat->Nat->Tok} {spec:Nat->Nat->Option Spec} {view:Nat->Nat->Option (Nat×aD)} {rel:Nat->Bool} {O:Nat->Option aD} {bc home:Nat->Nat}
theorem ek.lt (h:ek n tok spec view rel O bc home) {i s:Nat} (Η:tok i s≠.nil):i<n:=Nat.lt_of_not_le λhle=>Η (h.out i s hle)
theorem ek.change (h:ek n tok spec view rel O bc home) {s i:Nat} {o o':aD} {t t':Tok} {zP:Nat->Bool} {V:Nat->Option (Nat×aD)} (ν:O s=some o) (Η:tok i s=t) (zQ:Alike t t')
  (Ι:rm n o' (upd (λj=>tok j s) i t')) (χ:ec n o' (upd (λj=>tok j s) i t')<ec n o (λj=>tok j s)) (bF:o'.toSpec=o.toSpec)
  (DG:∀r φ q,V r=some (φ,q)->(r=s/\φ=ec n o' (upd (λj=>tok j s) i t')/\q=o')\/(r≠s/\view i r=some (φ,q)))
  (hk:∀j k L g,bM tok i s t' j s=.ch k (.cW L) g->o'.L=L)
  (zR:∀j k m g,j≠0->bM tok i s t' j (home j)=.ch k m g->(zP j=true↔g≠.work)) (DH:zP 0=false)
  (OT:∀j r,zP j=true->r≠home j->fi (bM tok i s t' j r))
  (OU:∀j k m g,bM tok i s t' j s=.ch k m g->g≠.work->m=.done\/(m=.idle/\o'.aI=none))
  (aS:o'.L.Nodup/\∀k,k∈o'.L↔∃j m g,bM tok i s t' j s=.ch k m g/\nd m) (ck:o'.ag.Nodup/\∀k,k∈o'.ag↔∃j m g,bM tok i s t' j s=.ch k m g/\g≠.work) :
  ek n (bM tok i s t') spec (upd view i V) zP (upd O s (some o')) bc home:=by
 have aY:i<n:=h.lt (s:=s) (by rw[Η];rcases zQ with⟨_,_,_,_,_,_,rfl,_⟩|⟨_,_,_,_,_,rfl,_⟩<;>simp)
 have DI:=H6 tok i s t'
 have qn:∀r,r≠s->(λj=>bM tok i s t' j r)=λj=>tok j r:=λr ι=>DD tok i s t' ι
 have xb:∀j r,r≠s->bM tok i s t' j r=tok j r:=λj r ι=>congrFun (qn r ι) j
 have same:∀j,j≠i->∀r,bM tok i s t' j r=tok j r:=λj γ r=>ew _ λx=>γ x.1
 have zS:∀j r k m g,bM tok i s t' j r=.ch k m g->∃dn cI,tok j r=.ch k dn cI:=λj r k m g γ=>by
  by_cases e:j=i/\r=s
  ·obtain⟨rfl,rfl⟩:=e;rw[eG] at γ;rcases zQ with⟨_,_,_,_,_,_,_,R,_⟩|⟨ee,dn,cI,fR,Ξ,J,R⟩
   ·rw[R] at γ;cases γ
   ·rw[R] at γ;cases γ;exact⟨dn,cI,by rw[Η,J]⟩
  ·rw[ew _ e] at γ;exact⟨m,g,γ⟩
 have OV:∀j r k m g,tok j r=.ch k m g->∃dn cI,bM tok i s t' j r=.ch k dn cI:=λj r k m g γ=>by
  by_cases e:j=i/\r=s
  ·obtain⟨rfl,rfl⟩:=e;rw[eG];rw[Η] at γ;rcases zQ with⟨_,_,_,_,_,_,J,_,_⟩|⟨ee,dn,cI,fR,Ξ,J,R⟩
   ·rw[J] at γ;cases γ
   ·rw[J] at γ;cases γ;exact⟨fR,Ξ,R⟩
  ·rw[ew _ e];exact⟨m,g,γ⟩
 have H7:∀j r m p ay,bM tok i s t' j r=.par m p ay->∃dn e2 xc,tok j r=.par dn e2 xc/\∀k,k+e2<dn->k+p<m:=λj r m p ay γ=>by
  by_cases e:j=i/\r=s
  ·obtain⟨rfl,rfl⟩:=e;rw[eG] at γ;rcases zQ with⟨_,_,_,_,_,_,J,R,ς⟩|⟨ee,dn,cI,fR,Ξ,J,R⟩
   ·rw[R] at γ;cases γ;exact⟨_,_,_,by rw[Η,J],ς⟩
   ·rw[R] at γ;cases γ
  ·rw[ew _ e] at γ;exact⟨m,p,ay,γ,λ_ x=>x⟩
 have gk:∀r q,upd O s (some o') r=some q->(r=s/\q=o')\/(r≠s/\O r=some q):=λr q Ψ=>by
  by_cases e:r=s
  ·subst e;rw[upd_same] at Ψ;cases Ψ;exact .inl ⟨rfl,rfl⟩
  ·rw[upd_ne _ _ e] at Ψ;exact .inr ⟨e,Ψ⟩
 refine⟨λr q Ψ=>?_,λr ι j=>?_,λj r γ=>?_,λj r sp γ=>?_,λj r φ q γ=>?_,λj r k L g q Ψ γ=>?_,λj r m p ay γ=>?_,λj r k m g γ=>?_,λj af γ=>?_,zR,DH,OT,λj r k m g q Ψ γ Ο=>?_,λr j bp k m g bO g' J R=>?_,λr j k m g q p ay J R=>?_,λr q Ψ=>?_,λr q Ψ=>?_⟩
 ·rcases gk r q Ψ with⟨rfl,rfl⟩|⟨e,bV⟩
  ·rw[DI];exact Ι
  ·rw[qn r e];exact h.a5 r q bV
 ·by_cases e:r=s
  ·subst e;rw[upd_same] at ι;cases ι
  ·rw[upd_ne _ _ e] at ι;rw[xb j r e];exact h.bare r ι j
 ·rw[same j (by omega) r];exact h.out j r γ
 ·obtain⟨q,J,R⟩:=h.o7 j r sp γ;by_cases e:r=s
  ·subst e;rw[ν] at J;cases J;exact⟨o',upd_same ..,by rw[bF];exact R⟩
  ·exact⟨q,by rw[upd_ne _ _ e];exact J,R⟩
 ·have old:∀φ q,view j r=some (φ,q)->∃dq,upd O s (some o') r=some dq/\ec n dq (λa=>bM tok i s t' a r)<=φ/\(ec n dq (λa=>bM tok i s t' a r)=φ->dq=q):=λφ q hv=>by
   obtain⟨dq,J,R,ς⟩:=h.sY j r φ q hv;by_cases e:r=s
   ·subst e;rw[ν] at J;cases J;rw[upd_same,DI];exact⟨o',rfl,by omega,λx=>by omega⟩
   ·rw[upd_ne _ _ e,qn r e];exact⟨dq,J,R,ς⟩
  by_cases e:j=i
  ·subst e;rw[upd_same] at γ;rcases DG r φ q γ with⟨rfl,rfl,rfl⟩|⟨ι,hv⟩
   ·rw[upd_same,DI];exact⟨_,rfl,Nat.le_refl _,λ_=>rfl⟩
   ·exact old φ q hv
  ·rw[upd_ne _ _ e] at γ;exact old φ q γ
 ·rcases gk r q Ψ with⟨rfl,rfl⟩|⟨e,bV⟩
  ·exact hk j k L g γ
  ·rw[xb j r e] at γ;exact h.cW j r k L g q bV γ
 ·obtain⟨dn,e2,xc,J,_⟩:=H7 j r m p ay γ;exact h.par j r dn e2 xc J
 ·obtain⟨dn,cI,J⟩:=zS j r k m g γ;exact h.nf j r k dn cI J
 ·obtain⟨k,m,g,J⟩:=h.qm j af γ;obtain⟨fR,Ξ,R⟩:=OV j _ k m g J;exact⟨k,fR,Ξ,R⟩
 ·rcases gk r q Ψ with⟨rfl,rfl⟩|⟨e,bV⟩
  ·exact OU j k m g γ Ο
  ·rw[xb j r e] at γ;exact h.nh j r k m g q bV γ Ο
 ·obtain⟨a,b,ς⟩:=zS j r k m g J;obtain⟨b6,Ρ,Κ⟩:=zS bp r k bO g' R;exact h.sZ r j bp k a b b6 Ρ ς Κ
 ·obtain⟨a,b,ς⟩:=zS j r k m g J;obtain⟨dn,e2,xc,Κ,aF⟩:=H7 _ r q p ay R;exact aF k (h.rv r j k a b dn e2 xc ς Κ)
 ·rcases gk r q Ψ with⟨rfl,rfl⟩|⟨e,bV⟩
  ·exact aS
  ·simp only[λj=>xb j r e];exact h.e3 r q bV
 ·rcases gk r q Ψ with⟨rfl,rfl⟩|⟨e,bV⟩
  ·exact ck
  ·simp only[λj=>xb j r e];exact h.fv r q bV
theorem OW {o o':aD} {t t':Tok} (h:Act o t o' t'):Alike t t':=by
 cases h
 case add=>exact .inl ⟨_,_,_,_,_,_,rfl,rfl,λk Α=>by omega⟩
 case thru|HJ|wake=>exact .inl ⟨_,_,_,_,_,_,rfl,rfl,λk Α=>Α⟩
 all_goals exact .inr ⟨_,_,_,_,_,rfl,rfl⟩
theorem H8 {o o':aD} {t t':Tok} (h:Act o t o' t'):o'.toSpec=o.toSpec/\o'.L=o.L/\o'.ag=o.ag:=by
 cases h<;>exact⟨rfl,rfl,rfl⟩
theorem H9 {o o':aD} {t t':Tok} (h:Act o t o' t'):(∀k m g,t'=.ch k m g->∃dn cI,t=.ch k dn cI/\(nd m↔nd dn)/\(g=.work↔cI=.work)/\(cI≠.work->m=dn)/\∀L,m=.cW L->dn=.cW L)/\(∀k m g,t=.ch k m g->∃fR Ξ,t'=.ch k fR Ξ/\(nd fR↔nd m)/\(Ξ=.work↔g=.work))/\¬fi t:=by
 refine⟨λk m g e=>?_,λk m g e=>?_,?_⟩
 ·cases h<;>cases e<;>exact⟨_,_,rfl,by simp[nd],by simp,by simp,by simp⟩
 ·cases h<;>cases e<;>exact⟨_,_,rfl,by simp[nd],by simp⟩
 ·cases h<;>simp[fi]
theorem ek.act (h:ek n tok spec view rel O bc home) {s i:Nat} {o o':aD} {t t':Tok} (ν:O s=some o) (Η:tok i s=t) (κ:Act o t o' t') :
  ek n (bM tok i s t') spec (upd view i (upd (view i) s (some (ec n o' (upd (λj=>tok j s) i t'),o')))) rel (upd O s (some o')) bc home:=by
 obtain⟨hw,s0,Ia⟩:=H9 κ;have aY:i<n:=h.lt (s:=s) (by rw[Η];rintro rfl;exact Ia trivial);obtain⟨uL,zT,DJ⟩:=H8 κ;have xd:∀j r k m g,bM tok i s t' j r=.ch k m g->∃dn cI,tok j r=.ch k dn cI/\(nd m↔nd dn)/\(g=.work↔cI=.work)/\(cI≠.work->m=dn)/\∀L,m=.cW L->dn=.cW L:=λj r k m g γ=>by
  by_cases e:j=i/\r=s
  ·obtain⟨rfl,rfl⟩:=e;rw[eG] at γ;obtain⟨dn,cI,Δ,Ε⟩:=hw k m g γ;exact⟨dn,cI,by rw[Η,Δ],Ε⟩
  ·rw[ew _ e] at γ;exact⟨m,g,γ,.rfl,.rfl,λ_=>rfl,λ_ x=>x⟩
 have is:∀j k m g,tok j s=.ch k m g->∃fR Ξ,bM tok i s t' j s=.ch k fR Ξ/\(nd fR↔nd m)/\(Ξ=.work↔g=.work):=λj k m g γ=>by
  by_cases e:j=i/\s=s
  ·obtain⟨rfl,_⟩:=e;rw[eG];rw[Η] at γ;exact s0 k m g γ
  ·rw[ew _ e];exact⟨m,g,γ,.rfl,.rfl⟩
 refine h.change ν Η (OW κ) (⟨Ot (h.a5 s o ν).1 aY Η κ,OA (h.a5 s o ν).2 aY Η κ⟩) (HL aY Η κ) uL (λr φ q hv=>?_) (λj k L g γ=>?_) (λj k m g af γ=>?_) h.ru (λj r γ ι=>?_) (λj k m g γ Ο=>?_) ?_ ?_
 ·by_cases e:r=s
  ·subst e;rw[upd_same] at hv;cases hv;exact .inl ⟨rfl,rfl,rfl⟩
  ·rw[upd_ne _ _ e] at hv;exact .inr ⟨e,hv⟩
 ·obtain⟨dn,cI,Δ,_,_,_,Ε⟩:=xd j s k _ g γ;rw[zT];exact h.cW j s k L cI o ν (by rw[Δ,Ε L rfl])
 ·obtain⟨dn,cI,Δ,_,Ε,_⟩:=xd j _ k m g γ;rw[h.n1 j k dn cI af Δ];exact not_congr Ε.symm
 ·by_cases e:j=i/\r=s
  ·obtain⟨rfl,rfl⟩:=e;have:=h.ng j r γ ι;rw[Η] at this;exact absurd this Ia
  ·rw[ew _ e];exact h.ng j r γ ι
 ·obtain⟨dn,cI,Δ,_,Ε,a3,_⟩:=xd j s k m g γ;have xe:cI≠.work:=λx=>Ο (Ε.2 x);rw[a3 xe];have:=h.nh j s k dn cI o ν Δ xe;rw[show o'.aI=o.aI by rw[uL]];exact this
 ·obtain⟨a,b⟩:=h.e3 s o ν;rw[zT];refine⟨a,λk=>(b k).trans ⟨λ⟨j,m,g,Δ,Ε⟩=>?_,λ⟨j,m,g,Δ,Ε⟩=>?_⟩⟩
  ·obtain⟨fR,Ξ,a3,cg,_⟩:=is j k m g Δ;exact⟨j,fR,Ξ,a3,cg.2 Ε⟩
  ·obtain⟨dn,cI,a3,cg,_⟩:=xd j s k m g Δ;exact⟨j,dn,cI,a3,cg.1 Ε⟩
 ·obtain⟨a,b⟩:=h.fv s o ν;rw[DJ];refine⟨a,λk=>(b k).trans ⟨λ⟨j,m,g,Δ,Ε⟩=>?_,λ⟨j,m,g,Δ,Ε⟩=>?_⟩⟩
  ·obtain⟨fR,Ξ,a3,_,cg⟩:=is j k m g Δ;exact⟨j,fR,Ξ,a3,λx=>Ε (cg.1 x)⟩
  ·obtain⟨dn,cI,a3,_,cg,_⟩:=xd j s k m g Δ;exact⟨j,dn,cI,a3,λx=>Ε (cg.2 x)⟩
theorem ek.look (h:ek n tok spec view rel O bc home) {s i:Nat} {o:aD} (ν:O s=some o):ek n tok spec (upd view i (upd (view i) s (some (ec n o (λj=>tok j s),o)))) rel O bc home:=
 have key:∀j r φ q,upd view i (upd (view i) s (some (ec n o (λj=>tok j s),o))) j r=some (φ,q)->∃dq,O r=some dq/\ec n dq (λj=>tok j r)<=φ/\(ec n dq (λj=>tok j r)=φ->dq=q):=λj r φ q γ=>by
  by_cases e:j=i
  ·subst e;rw[upd_same] at γ;by_cases aA:r=s
   ·subst aA;rw[upd_same] at γ;cases γ;exact⟨o,ν,Nat.le_refl _,λ_=>rfl⟩
   ·rw[upd_ne _ _ aA] at γ;exact h.sY j r φ q γ
  ·rw[upd_ne _ _ e] at γ;exact h.sY j r φ q γ
 {h with sY:=key}
theorem zU {s i:Nat} {r φ:Nat} {q:aD} {o':aD} {z:Nat} (hv:upd (view i) s none r=some (φ,q)):(r=s/\φ=z/\q=o')\/(r≠s/\view i r=some (φ,q)):=by
 by_cases e:r=s
 ·subst e;rw[upd_same] at hv;cases hv
 ·rw[upd_ne _ _ e] at hv;exact .inr ⟨e,hv⟩
theorem OX {l:List Nat} {k:Nat} (h:l.Nodup) (Α:k∉l):(l++[k]).Nodup:=by
 rw[List.nodup_append];exact⟨h,by simp,λa κ b hb=>by simp at hb;subst hb;rintro rfl;exact Α κ⟩
theorem ek.Dh (h:ek n tok spec view rel O bc home) {s i k:Nat} {o:aD} (ν:O s=some o) (Η:tok i s=.ch k .own .work) :
  ek n (bM tok i s (.ch k (.cW o.L) .work)) spec (upd view i (upd (view i) s none)) rel (upd O s (some o)) bc home:=by
 have aY:i<n:=h.lt (s:=s) (by rw[Η];simp)
 have hw:nW o (.ch k .own .work) o (.ch k (.cW o.L) .work):=.Dh
 have gl:∀j,j≠i->∀r,bM tok i s (.ch k (.cW o.L) .work) j r=tok j r:=λj γ r=>ew _ λx=>γ x.1
 have η:=h.nf i s k _ _ Η;refine h.change ν Η (.inr ⟨_,_,_,_,_,rfl,rfl⟩) ⟨zH (h.a5 s o ν).1 aY Η hw,zI (h.a5 s o ν).2 aY Η hw⟩ (zG aY Η hw) rfl (λr φ q hv=>zU hv) (λj Χ L g γ=>?_) (λj Χ m g af γ=>?_) h.ru (λj r γ ι=>?_) (λj Χ m g γ Ο=>?_) ?_ ?_
 ·by_cases e:j=i
  ·subst e;rw[eG] at γ;cases γ;rfl
  ·rw[gl j e] at γ;exact h.cW j s Χ L g o ν γ
 ·by_cases e:j=i
  ·subst e;have aA:home j=s:=η.2.1;rw[aA,eG] at γ;cases γ;exact h.n1 j k .own .work af (by rw[aA];exact Η)
  ·rw[gl j e] at γ;exact h.n1 j Χ m g af γ
 ·by_cases e:j=i
  ·subst e;have aA:home j=s:=η.2.1;rw[ew _ (λx=>ι (by rw[x.2,aA]))];exact h.ng j r γ ι
  ·rw[gl j e];exact h.ng j r γ ι
 ·by_cases e:j=i
  ·subst e;rw[eG] at γ;cases γ;exact absurd rfl Ο
  ·rw[gl j e] at γ;exact h.nh j s Χ m g o ν γ Ο
 ·obtain⟨a,b⟩:=h.e3 s o ν;refine⟨a,λΧ=>(b Χ).trans ⟨λ⟨j,m,g,Δ,Ε⟩=>?_,λ⟨j,m,g,Δ,Ε⟩=>?_⟩⟩
  ·by_cases e:j=i
   ·subst e;rw[Η] at Δ;cases Δ;exact Ε.elim
   ·exact⟨j,m,g,by rw[gl j e];exact Δ,Ε⟩
  ·by_cases e:j=i
   ·subst e;rw[eG] at Δ;cases Δ;exact Ε.elim
   ·exact⟨j,m,g,by rw[gl j e] at Δ;exact Δ,Ε⟩
 ·obtain⟨a,b⟩:=h.fv s o ν;refine⟨a,λΧ=>(b Χ).trans ⟨λ⟨j,m,g,Δ,Ε⟩=>?_,λ⟨j,m,g,Δ,Ε⟩=>?_⟩⟩
  ·by_cases e:j=i
   ·subst e;rw[Η] at Δ;cases Δ;exact absurd rfl Ε
   ·exact⟨j,m,g,by rw[gl j e];exact Δ,Ε⟩
  ·by_cases e:j=i
   ·subst e;rw[eG] at Δ;cases Δ;exact absurd rfl Ε
   ·exact⟨j,m,g,by rw[gl j e] at Δ;exact Δ,Ε⟩
theorem ek.OY (h:ek n tok spec view rel O bc home) {s i k:Nat} {L:List Nat} {o:aD} (ν:O s=some o) (Η:tok i s=.ch k (.cW L) .work) :
  ek n (bM tok i s (.ch k .fin .work)) spec (upd view i (upd (view i) s none)) rel (upd O s (some {o with L:=o.L++[k]})) bc home:=by
 have aY:i<n:=h.lt (s:=s) (by rw[Η];simp)
 have hw:nW o (.ch k (.cW L) .work) {o with L:=o.L++[k]} (.ch k .fin .work):=.Oo
 have gl:∀j,j≠i->∀r,bM tok i s (.ch k .fin .work) j r=tok j r:=λj γ r=>ew _ λx=>γ x.1
 have η:=h.nf i s k _ _ Η
 have only:∀j Χ iw g,tok j s=.ch Χ (.cW iw) g->j=i:=λj Χ iw g γ=>by
  apply Classical.byContradiction;intro bd;have eH:j<n:=h.lt (s:=s) (by rw[γ];simp);have Δ:=fC (λa=>tok a s) .nil hc aY;have Ε:=eW (upd (λa=>tok a s) i .nil) hc eH;rw[upd_ne _ _ bd] at Ε;simp only[Η,γ,hc,wP] at Δ Ε;have:=(h.a5 s o ν).1.HG;have:=(h.a5 s o ν).1.f1;omega
 have Ib:k∉o.L:=λΑ=>by
  obtain⟨j,m,g,Δ,Ε⟩:=((h.e3 s o ν).2 k).1 Α;have:=h.sZ s j i k m g _ _ Δ Η;subst this;rw[Η] at Δ;cases Δ;exact Ε
 refine h.change ν Η (.inr ⟨_,_,_,_,_,rfl,rfl⟩) ⟨zH (h.a5 s o ν).1 aY Η hw,zI (h.a5 s o ν).2 aY Η hw⟩ (zG aY Η hw) rfl (λr φ q hv=>zU hv) (λj Χ iw g γ=>?_) (λj Χ m g af γ=>?_) h.ru (λj r γ ι=>?_) (λj Χ m g γ Ο=>?_) ?_ ?_
 ·by_cases e:j=i
  ·subst e;rw[eG] at γ;cases γ
  ·rw[gl j e] at γ;exact absurd (only j Χ iw g γ) e
 ·by_cases e:j=i
  ·subst e;have aA:home j=s:=η.2.1;rw[aA,eG] at γ;cases γ;exact h.n1 j k (.cW L) .work af (by rw[aA];exact Η)
  ·rw[gl j e] at γ;exact h.n1 j Χ m g af γ
 ·by_cases e:j=i
  ·subst e;have aA:home j=s:=η.2.1;rw[ew _ (λx=>ι (by rw[x.2,aA]))];exact h.ng j r γ ι
  ·rw[gl j e];exact h.ng j r γ ι
 ·by_cases e:j=i
  ·subst e;rw[eG] at γ;cases γ;exact absurd rfl Ο
  ·rw[gl j e] at γ;exact h.nh j s Χ m g o ν γ Ο
 ·obtain⟨a,b⟩:=h.e3 s o ν;refine⟨OX a Ib,λΧ=>?_⟩;rw[List.mem_append,List.mem_singleton];constructor
  ·rintro(Α|rfl)
   ·obtain⟨j,m,g,Δ,Ε⟩:=(b Χ).1 Α;have e:j≠i:=by rintro rfl;rw[Η] at Δ;cases Δ;exact Ε
    exact⟨j,m,g,by rw[gl j e];exact Δ,Ε⟩
   ·exact⟨i,.fin,.work,eG ..,trivial⟩
  ·rintro⟨j,m,g,Δ,Ε⟩;by_cases e:j=i
   ·subst e;rw[eG] at Δ;cases Δ;exact .inr rfl
   ·rw[gl j e] at Δ;exact .inl ((b Χ).2 ⟨j,m,g,Δ,Ε⟩)
 ·obtain⟨a,b⟩:=h.fv s o ν;refine⟨a,λΧ=>(b Χ).trans ⟨λ⟨j,m,g,Δ,Ε⟩=>?_,λ⟨j,m,g,Δ,Ε⟩=>?_⟩⟩
  ·by_cases e:j=i
   ·subst e;rw[Η] at Δ;cases Δ;exact absurd rfl Ε
   ·exact⟨j,m,g,by rw[gl j e];exact Δ,Ε⟩
  ·by_cases e:j=i
   ·subst e;rw[eG] at Δ;cases Δ;exact absurd rfl Ε
   ·exact⟨j,m,g,by rw[gl j e] at Δ;exact Δ,Ε⟩
theorem ek.OZ (h:ek n tok spec view rel O bc home) {s i k:Nat} {mu:kg} {o:aD} (ν:O s=some o) (Η:tok i s=.ch k mu .work) (ry:mu=.done\/(mu=.idle/\o.aI=none)) (cG:∀r,r≠s->fi (tok i r)) :
  ek n (bM tok i s (.ch k mu .rel)) spec (upd view i (upd (view i) s none)) (upd rel i true) (upd O s (some {o with ag:=k::o.ag})) bc home:=by
 have aY:i<n:=h.lt (s:=s) (by rw[Η];simp)
 have hw:nW o (.ch k mu .work) {o with ag:=k::o.ag} (.ch k mu .rel):=.Oq ry
 have gl:∀j,j≠i->∀r,bM tok i s (.ch k mu .rel) j r=tok j r:=λj γ r=>ew _ λx=>γ x.1
 have η:=h.nf i s k _ _ Η
 have O0:k∉o.ag:=λΑ=>by
  obtain⟨j,m,g,Δ,Ε⟩:=((h.fv s o ν).2 k).1 Α;have:=h.sZ s j i k m g _ _ Δ Η;subst this;rw[Η] at Δ;cases Δ;exact Ε rfl
 refine h.change ν Η (.inr ⟨_,_,_,_,_,rfl,rfl⟩) ⟨zH (h.a5 s o ν).1 aY Η hw,zI (h.a5 s o ν).2 aY Η hw⟩ (zG aY Η hw) rfl (λr φ q hv=>zU hv) (λj Χ iw g γ=>?_) (λj Χ m g af γ=>?_) (by rw[upd_ne _ _ (Ne.symm η.1)];exact h.ru) (λj r γ ι=>?_) (λj Χ m g γ Ο=>?_) ?_ ?_
 ·by_cases e:j=i
  ·subst e;rw[eG] at γ;rcases ry with rfl|⟨rfl,_⟩<;>cases γ
  ·rw[gl j e] at γ;exact h.cW j s Χ iw g o ν γ
 ·by_cases e:j=i
  ·subst e;have aA:home j=s:=η.2.1;rw[aA,eG] at γ;cases γ;rw[upd_same];simp
  ·rw[gl j e] at γ;rw[upd_ne _ _ e];exact h.n1 j Χ m g af γ
 ·by_cases e:j=i
  ·subst e;have aA:home j=s:=η.2.1;have iV:r≠s:=λx=>ι (by rw[x,aA]);rw[ew _ (λx=>iV x.2)];exact cG r iV
  ·rw[gl j e];rw[upd_ne _ _ e] at γ;exact h.ng j r γ ι
 ·by_cases e:j=i
  ·subst e;rw[eG] at γ;cases γ;exact ry
  ·rw[gl j e] at γ;exact h.nh j s Χ m g o ν γ Ο
 ·obtain⟨a,b⟩:=h.e3 s o ν;refine⟨a,λΧ=>(b Χ).trans ⟨λ⟨j,m,g,Δ,Ε⟩=>?_,λ⟨j,m,g,Δ,Ε⟩=>?_⟩⟩
  ·by_cases e:j=i
   ·subst e;rw[Η] at Δ;cases Δ;exact⟨j,mu,.rel,eG ..,Ε⟩
   ·exact⟨j,m,g,by rw[gl j e];exact Δ,Ε⟩
  ·by_cases e:j=i
   ·subst e;rw[eG] at Δ;cases Δ;exact⟨j,mu,.work,Η,Ε⟩
   ·exact⟨j,m,g,by rw[gl j e] at Δ;exact Δ,Ε⟩
 ·obtain⟨a,b⟩:=h.fv s o ν;refine⟨List.nodup_cons.2 ⟨O0,a⟩,λΧ=>?_⟩;rw[List.mem_cons];constructor
  ·rintro(rfl|Α)
   ·exact⟨i,mu,.rel,eG ..,by simp⟩
   ·obtain⟨j,m,g,Δ,Ε⟩:=(b Χ).1 Α;have e:j≠i:=by rintro rfl;rw[Η] at Δ;cases Δ;exact Ε rfl
    exact⟨j,m,g,by rw[gl j e];exact Δ,Ε⟩
  ·rintro⟨j,m,g,Δ,Ε⟩;by_cases e:j=i
   ·subst e;rw[eG] at Δ;cases Δ;exact .inl rfl
   ·rw[gl j e] at Δ;exact .inr ((b Χ).2 ⟨j,m,g,Δ,Ε⟩)
theorem ek.gtake (h:ek n tok spec view rel O bc home) {s i q:Nat} {ay:qg} {o:aD} (ν:O s=some o) (Η:tok i s=.par q 0 ay) (kW:ay=.kR\/ay=.w4) :
  ek n (bM tok i s (.par q 0 .bf)) spec (upd view i (upd (view i) s none)) rel (upd O s (some o)) bc home:=by
 have aY:i<n:=h.lt (s:=s) (by rw[Η];simp)
 have hw:nW o (.par q 0 ay) o (.par q 0 .bf):=.gtake kW
 have gl:∀j,j≠i->∀r,bM tok i s (.par q 0 .bf) j r=tok j r:=λj γ r=>ew _ λx=>γ x.1
 have cs:∀j r k m g,bM tok i s (.par q 0 .bf) j r=.ch k m g↔tok j r=.ch k m g:=λj r k m g=>by
  by_cases e:j=i/\r=s
  ·obtain⟨rfl,rfl⟩:=e;rw[eG,Η];simp
  ·rw[ew _ e]
 refine h.change ν Η (.inl ⟨_,_,_,_,_,_,rfl,rfl,λk Α=>Α⟩) ⟨zH (h.a5 s o ν).1 aY Η hw,zI (h.a5 s o ν).2 aY Η hw⟩ (zG aY Η hw) rfl (λr φ q hv=>zU hv) (λj Χ iw g γ=>?_) (λj Χ m g af γ=>?_) h.ru (λj r γ ι=>?_) (λj Χ m g γ Ο=>?_) ?_ ?_
 ·rw[cs] at γ;exact h.cW j s Χ iw g o ν γ
 ·rw[cs] at γ;exact h.n1 j Χ m g af γ
 ·by_cases e:j=i/\r=s
  ·obtain⟨rfl,rfl⟩:=e;rw[eG];trivial
  ·rw[ew _ e];exact h.ng j r γ ι
 ·rw[cs] at γ;exact h.nh j s Χ m g o ν γ Ο
 ·simp only[cs];exact h.e3 s o ν
 ·simp only[cs];exact h.fv s o ν
end
end Go.TL
