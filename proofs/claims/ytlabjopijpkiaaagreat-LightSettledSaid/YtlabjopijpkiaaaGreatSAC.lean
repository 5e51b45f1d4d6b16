import Derived.Test.YtlabjopijpkiaaaGreatSAA
import Derived.Test.YtlabjopijpkiaaaGreatSAB
set_option maxHeartbeats 16000000
set_option maxRecDepth 20000
set_option linter.unusedSectionVars false
set_option linter.unusedSimpArgs false
set_option linter.unusedVariables false
namespace Go.TL
open Go.Conc
open Go.ConcN (sumTo upd sumTo_upd upd_ne upd_same sumTo_congr le_sumTo)
section
variable {N i:Nat} {o o':aN} {τ:Nat->Tok} {t t':Tok}
theorem LF (o':aN) (Γ:o'.top=o.top) (hi:i<N) (Ο:τ i=t) (h:mc o.top t'+9*o'.cX+2*o'.cE<mc o.top t+9*o.cX+2*o.cE):et N o' (upd τ i t')<et N o τ:=by
 have e:=gq τ t' (mc o.top) hi;rw[Ο] at e;unfold et;rw[Γ];omega
theorem LG (hi:i<N) (Ο:τ i=t) (ξ:Act o t o' t'):et N o' (upd τ i t')<et N o τ:=by
 cases ξ<;>refine LF _ rfl hi Ο ?_
 case acq aw _ _=>cases aw<;>simp[mc,va]
 case queue aw _ _ _=>cases aw<;>simp[mc,va]
 case take=>simp[mc,va];omega
 case add=>simp[mc];omega
 case wake=>simp[mc,xd];omega
 all_goals (simp[mc,va,BN,xd]<;>omega)
theorem BR (hi:i<N) (Ο:τ i=t) (ξ:pH o t o' t'):et N o' (upd τ i t')<et N o τ:=by
 cases ξ<;>refine LF _ rfl hi Ο ?_
 case gtake aE ψ=>rcases ψ with rfl|rfl<;>simp[mc,xd]
 all_goals (simp[mc,va,BN,xd]<;>omega)
theorem Gf {φ:Tok->Nat} (hi:i<N) (h:φ t'=φ (τ i)):a8 N (upd τ i t') φ=a8 N τ φ:=by
 have:=gq τ t' φ hi;omega
theorem BS (h:pG N o τ) (hi:i<N) (Ο:τ i=t) (ξ:pH o t o' t'):pG N o' (upd τ i t'):=by
 unfold pG at h ⊢;cases ξ<;>
 (repeat rw[Gf hi (by rw[Ο];rfl)])<;>exact h
theorem BT (h:oI N o τ) (hi:i<N) (Ο:τ i=t) (ξ:pH o t o' t'):oI N o' (upd τ i t'):=by
 unfold oI at h ⊢;cases ξ
 case gtake aE ψ=>rcases ψ with rfl|rfl<;>(repeat rw[Gf hi (by rw[Ο];rfl)])<;>exact h
 all_goals (repeat rw[Gf hi (by rw[Ο];rfl)])<;>exact h
theorem vg (N:Nat) (τ:Nat->Tok) (φ:Tok->Nat):a8 (N+1) τ φ=a8 N τ φ+φ (τ N):=rfl
theorem LH {φ:Tok->Nat} (eg:φ .nil=0) (h:τ N=.nil):a8 (N+1) τ φ=a8 N τ φ:=by rw[vg,h,eg];rfl
theorem LI (h:tt N o τ) (Η:τ N=.nil):tt (N+1) o τ:=by
 unfold tt pG oI at h ⊢
 repeat rw[LH (by rfl) Η]
 exact h
theorem LJ (Η:τ N=.nil):et (N+1) o τ=et N o τ:=by
 unfold et;rw[LH (by rfl) Η]
theorem TA {j n p:Nat} (h:tt N o τ) (hi:i<N) (ε:j<N) (e0:i≠j) (Ο:τ i=.par n (p+1) .add) (Η:τ j=.nil) (k:Nat) :
  tt N o (upd (upd τ i (.par n p .add)) j (.ch k .idle .work)):=by
 have bp:upd τ i (.par n p .add) j=.nil:=by rw[upd_ne _ _ (Ne.symm e0)];exact Η
 have key:∀φ:Tok->Nat,a8 N (upd (upd τ i (.par n p .add)) j (.ch k .idle .work)) φ+φ .nil+φ (.par n (p+1) .add)=a8 N τ φ+φ (.par n p .add)+φ (.ch k .idle .work):=λφ=>by
  have Ζ:=gq τ (.par n p .add) φ hi
  have Ε:=gq (upd τ i (.par n p .add)) (.ch k .idle .work) φ ε;rw[Ο] at Ζ;rw[bp] at Ε;omega
 obtain⟨c0,cU⟩:=h;constructor
 ·unfold pG at c0 ⊢;have f1:=key h4;have f2:=key nU;have f3:=key ma;have f4:=key lu;have f5:=key m';have f6:=key lx;have f7:=key qM;have f8:=key nV;have f9:=key qL;simp only[h4,nU,ma,lu,m',lx,qM,nV,qL,yY,BK,u7,yZ,BL,y0,F9,BM,F8,Nat.add_zero] at f1 f2 f3 f4 f5 f6 f7 f8 f9;rw[f1,f2,f3,f4,f5,f6,f7,f8,f9];exact c0
 ·unfold oI at cU ⊢;have f1:=key iO;have f2:=key jU;have f3:=key jV;have f4:=key ly;have f5:=key eJ;have f6:=key hc;have f7:=key h5;have f8:=key mb;have f9:=key lz;have f10:=key h6;simp only[iO,jU,jV,ly,eJ,hc,h5,mb,lz,h6,r8,u9,u',Nat.add_zero] at f1 f2 f3 f4 f5 f6 f7 f8 f9 f10;obtain⟨gb,tu,y4,y5,Ge,Tw,Tx,Ty,Tz⟩:=cU;constructor<;>omega
theorem TB {j n p:Nat} (hi:i<N) (ε:j<N) (e0:i≠j) (Ο:τ i=.par n (p+1) .add) (Η:τ j=.nil) (k:Nat) :
  et N o (upd (upd τ i (.par n p .add)) j (.ch k .idle .work))<et N o τ:=by
 have bp:upd τ i (.par n p .add) j=.nil:=by rw[upd_ne _ _ (Ne.symm e0)];exact Η
 have Ζ:=gq τ (.par n p .add) (mc o.top) hi
 have Ε:=gq (upd τ i (.par n p .add)) (.ch k .idle .work) (mc o.top) ε;rw[Ο] at Ζ;rw[bp] at Ε;simp only[mc,va,BN,xd] at Ζ Ε;unfold et;omega
theorem BU {φ:Tok->Nat} (h:0<a8 N τ φ):∃i,i<N/\0<φ (τ i):=by
 have hM:∀n,0<a8 n τ φ->∃i,i<n/\0<φ (τ i):=λn=>by
  induction n with
  | zero=>intro h;cases h
  | succ n Δ=>
   intro h;rw[vg] at h;by_cases ag:0<φ (τ n)
   ·exact⟨n,by omega,ag⟩
   ·obtain⟨i,hi,ψ⟩:=Δ (by omega);exact⟨i,by omega,ψ⟩
 exact hM N h
def oM:Tok->Prop
 | .ch _ .own _|.ch _ (.dc _) _|.ch _ .fin _|.ch _ .us _|.ch _ .wk _|.ch _ .hw _|.ch _ (.act true) _|.ch _ .uc _=>True
 | _=>False
theorem TC (h:pG N o τ) (Ρ:0<a8 N τ lu) (ag:o.cX=0):∃i,i<N/\oM (τ i):=by
 have pick:∀{φ:Tok->Nat},(∀t,0<φ t->oM t)->0<a8 N τ φ->∃i,i<N/\oM (τ i):=λeg ψ=>let ⟨i,hi,U⟩:=BU ψ;⟨i,hi,eg _ U⟩
 have TD:∀t,0<h4 t->oM t:=λt Ο=>by cases t<;>simp_all [h4,oM];rename_i m _;cases m<;>simp_all [yY]
 have BV:∀t,0<nU t->oM t:=λt Ο=>by cases t<;>simp_all [nU,oM];rename_i m _;cases m<;>simp_all [BK]
 have BW:∀t,0<ma t->oM t:=λt Ο=>by cases t<;>simp_all [ma,oM];rename_i m _;cases m<;>simp_all [u7];rename_i b;cases b<;>simp_all [u7]
 have TE:∀t,0<nV t->oM t:=λt Ο=>by cases t<;>simp_all [nV,oM];rename_i m _;cases m<;>simp_all [BM]
 obtain⟨f1,f2,f3,hA,md,ve,tu,y4,y5⟩:=h;by_cases c1:0<a8 N τ h4
 ·exact pick TD c1
 by_cases c2:0<a8 N τ nU
 ·exact pick BV c2
 by_cases c3:0<a8 N τ ma
 ·exact pick BW c3
 by_cases c4:0<a8 N τ nV
 ·exact pick TE c4
 exfalso;rcases(show o.sv=0\/o.sv=1 by omega) with ο|ο
 ·have:=md ο;have:=tu ο;omega
 ·have:=ve ο;omega
def qP:Tok->Prop
 | .ch _ _ .work|.ch _ _ .rel|.ch _ _ .l2|.ch _ _ .hz=>True
 | _=>False
theorem TF (h:oI N o τ) {n p:Nat} (hi:i<N) (Ο:τ i=.par n p .w3) (ag:o.cE=0):∃j,j<N/\qP (τ j):=by
 have pick:∀{φ:Tok->Nat},(∀t,0<φ t->qP t)->0<a8 N τ φ->∃i,i<N/\qP (τ i):=λeg ψ=>let ⟨i,hi,U⟩:=BU ψ;⟨i,hi,eg _ U⟩
 have bG:∀t,0<iO t->qP t:=λt Ο=>by cases t<;>simp_all [iO,qP];rename_i m;cases m<;>simp_all [r8]
 have dj:∀t,0<jU t->qP t:=λt Ο=>by cases t<;>simp_all [jU,qP];rename_i m;cases m<;>simp_all [u9]
 have fT:∀t,0<jV t->qP t:=λt Ο=>by cases t<;>simp_all [jV,qP];rename_i m;cases m<;>simp_all [u']
 have w:=pI (φ:=lz) (λt Ο=>by cases t<;>simp_all [eJ,lz]) h.nW hi (by rw[Ο];rfl);rw[Ο] at w;have:=h.S' w;have:=h.F';by_cases c1:0<a8 N τ iO
 ·exact pick bG c1
 by_cases c2:0<a8 N τ jU
 ·exact pick dj c2
 by_cases c3:0<a8 N τ jV
 ·exact pick fT c3
 exfalso;omega
end
end Go.TL
namespace Go.TL
open Go.Conc
open Go.ConcM (OsLater)
open Go.ConcN (sumTo upd sumTo_upd upd_ne upd_same sumTo_congr le_sumTo)
open Go.ConcR (mk)
inductive gd (B:Type):Type where
 | leaf
 | node (f:B->gd B)
inductive na {B:Type}:List (gd B)->List (gd B)->Prop where
 | one (a b:List (gd B)) (f:B->gd B) (k:B):na (a++f k::b) (a++gd.node f::b)
 | two (a b:List (gd B)) (f:B->gd B) (k ab:B):na (a++f k::f ab::b) (a++gd.node f::b)
theorem na.cons_inv {B:Type} {l:List (gd B)} {t:gd B} {m:List (gd B)} (h:na m (t::l)) :
  (∃b0,na b0 l/\m=t::b0)\/(∃f k,t=.node f/\m=f k::l)\/(∃f k ab,t=.node f/\m=f k::f ab::l):=by
 generalize U:t::l=x at h;cases h with
 | one a b f k=>
  cases a with
  | nil=>simp at U;exact .inr (.inl ⟨f,k,U.1,by rw[U.2];rfl⟩)
  | cons y a=>simp at U;exact .inl ⟨a++f k::b,by rw[U.2];exact .one a b f k,by rw[U.1];rfl⟩
 | two a b f k ab=>
  cases a with
  | nil=>simp at U;exact .inr (.inr ⟨f,k,ab,U.1,by rw[U.2];rfl⟩)
  | cons y a=>simp at U;exact .inl ⟨a++f k::f ab::b,by rw[U.2];exact .two a b f k ab,by rw[U.1];rfl⟩
theorem na.TG {B:Type} (t:gd B):∀l,Acc na l->Acc na (t::l):=by
 induction t with
 | leaf=>
  intro l ω
  induction ω with
  | intro l _ Δ=>
   refine⟨_,λm hm=>?_⟩;rcases hm.cons_inv with⟨b0,J,rfl⟩|⟨f,k,h,_⟩|⟨f,k,ab,h,_⟩
   ·exact Δ b0 J
   ·cases h
   ·cases h
 | node f Gg=>
  intro l ω
  induction ω with
  | intro l r9 Δ=>
   refine⟨_,λm hm=>?_⟩;rcases hm.cons_inv with⟨b0,J,rfl⟩|⟨f',k,h,rfl⟩|⟨f',k,ab,h,rfl⟩
   ·exact Δ b0 J
   ·cases h;exact Gg k l ⟨l,r9⟩
   ·cases h;exact Gg k _ (Gg ab l ⟨l,r9⟩)
theorem na.wf {B:Type}:WellFounded (na (B:=B)):=⟨λl=>by
 induction l with
 | nil=>exact⟨_,λm hm=>by
   generalize U:([]:List (gd B))=x at hm;cases hm<;>simp at U⟩
 | cons t l Δ=>exact na.TG t l Δ⟩
structure aV where
 G:Α
 aF:Nat->Option (Array Value×TypeId)
 tok:Nat->Tok
 spec:Nat->Option Spec
 view:Nat->Option (Nat×aN)
 deaf:Nat
 rel:Bool
def y6 (V:Nat->Option (Array Value×TypeId)) (w:World):Prop:=∀b c t,V b=some (c,t)->w.heap[b]?=some (.cells c t (0,0))
def cM (o:aN):Int:=(o.cnt:Int)*4294967296+o.wt
def mwd (o:aN):Int:=(o.cb:Int)+2*o.wk+4*o.sv+8*o.nw
def At (s:Nat) (o:aN) (w:World):Prop:=
 (∃ty,w.heap[s]?=some (.cells #[.int .u64 (cM o),.int .u32 o.cE] ty (0,0)))/\∀m,o.aT=some m->∃ty,w.heap[m]?=some (.cells #[.int .i32 (mwd o),.int .u32 o.cX] ty (0,0))
def eb (s:Nat) (sp:Spec) (b:Nat):Prop:=b=s\/sp.aT=some b
def vh (o:aN) (t:Tok):Prop:=∃N τ i,tt N o τ/\i<N/\τ i=t/\(∀k L g,t=.ch k (.dc L) g->o.L=L)
def Gh (x:aV) (s φ:Nat) (o:aN):Prop:=∀gD lB,x.view s=some (gD,lB)->φ<=gD/\(φ=gD->o=lB)
structure Sub (G' G:Α):Prop where
 aG:∀b o v p,G'.aG b o=some (v,p)->∃fs,G.aG b o=some (v,fs)/\(p=true->fs=true)
 row:∀b x,G'.row b=some x->G.row b=some x
 obj:∀b x,G'.obj b=some x->G.obj b=some x
structure Split (G nb nd:Α):Prop where
 l:Sub nb G
 r:Sub nd G
 apart:Apart nb nd
def join (G H:Α):Α:=
 ⟨λb o=>match G.aG b o with|some x=>some x|none=>H.aG b o,λb=>match G.row b with|some x=>some x|none=>H.row b,λb=>match G.obj b with|some x=>some x|none=>H.obj b⟩
def lC (D:Nat->Α->Prop):List Nat->Α->Prop
 | [],E=>E=Α.empty
 | k::LK,E=>∃pJ pK,D k pJ/\lC D LK pK/\Apart pJ pK/\E=join pJ pK
structure BX (G G':Α) (n:Nat):Prop where
 aG:∀b o v p,G'.aG b o=some (v,p)->n<=b\/∃v0 fs,G.aG b o=some (v0,fs)/\(p=true->fs=true)
 obj:∀b,G'.eY b->n<=b\/G.eY b
def Gi (V:Nat->Option (Array Value×TypeId)) (V':Nat->Option (Array Value×TypeId)) (G':Α) (n:Nat):Prop:=
 ∀b c,V' b=some c->V b=some c\/(n<=b/\G'.off b)
def BY (e:Event):Prop:=e.loc=.output\/e.loc=.mark .noRoom
def oN (s:Nat) (sp:Spec) (d:Nat) (es:Array Event):Prop:=
 deafBehind d es=d/\∀j e,es[j]?=some e->(e.loc=.mark .disable\/e.loc=.mark .enable\/(∃b off wr,e=⟨.cell ⟨b,off,none⟩,wr,true⟩/\eb s sp b/\0<deafBehind d (es.extract 0 j)))
def jW (o:aN):Tok->Prop
 | .ch _ .q _=>o.cX=0
 | .par _ _ .w3=>o.cE=0
 | _=>False
def nf:Tok->Prop
 | .nil=>True
 | .par _ _ .add|.par _ _ .bA=>True
 | .ch _ .idle _|.ch _ .done _=>True
 | _=>False
def fU:Tok->Prop
 | .nil=>True
 | .par _ _ .bA=>True
 | _=>False
def Gone:Tok->Prop
 | .nil=>True
 | .par _ _ .bA=>True
 | .ch _ _ .gone=>True
 | _=>False
abbrev y7:=Bool->Goroutine->aV->Prop
def iv (g:Goroutine):Prop:=g.status=.running/\g.offers=none
section
variable (P:Program) (mn:Bool) (Ω:y7) (g:Goroutine) (x:aV)
def LL:Prop:=∀w,Fits x.G w->y6 x.aF w->(stepG P mn g w).goes λg' w' es=>∃G' V',iv g'/\fq x.G.owns x.G.eY w w'/\Fits G' w'/\y6 V' w'/\
 BX x.G G' w.heap.size/\Gi x.aF V' G' w.heap.size/\(∀e∈es,if x.rel then BY e else ha x.G w.heap.size w'.heap.size e)/\(∀b c,V' b=some c->w.heap.size<=b->∀e∈es,¬nT e.loc b)/\Ω mn g' {x with G:=G',aF:=V'}
def LM:Prop:=∃g',iv g'/\((∀w,Fits x.G w->stepG P mn g w=.go g' w #[mk .disable]/\Ω mn g' {x with deaf:=x.deaf+1})\/
 (0<x.deaf/\∀w,Fits x.G w->stepG P mn g w=.go g' w #[mk .enable]/\Ω mn g' {x with deaf:=x.deaf-1}))
def LN:Prop:=∃(s n p:Nat) (aE:r7) (g':Goroutine) (off:Nat) (wr:Bool),x.tok s=.par n p aE/\aE≠.bA/\x.rel=false/\iv g'/\∀w,Fits x.G w->stepG P mn g w=.go g' w #[mk (if wr then .write ⟨s,off,none⟩ else .read ⟨s,off,none⟩)]/\Ω mn g' x
def Atom:Prop:=∃s sp,x.spec s=some sp/\¬fU (x.tok s)/\∀w φ o,Fits x.G w->y6 x.aF w->o.toSpec=sp->At s o w->Gh x s φ o->vh o (x.tok s)->
 ((stepG P mn g w).goes λg' w' es=>iv g'/\fq (λb _=>eb s sp b) (λ_=>False) w w'/\oN s sp x.deaf es/\
   ((At s o w'/\Ω mn g' {x with view:=upd x.view s (some (φ,o))})\/
    ∃o' t',Act o (x.tok s) o' t'/\At s o' w'/\(mayWake P g=true\/o'=o)/\∀cl,cl<φ->Ω mn g' {x with tok:=upd x.tok s t',view:=upd x.view s (some (cl,o'))}))\/
 (jW o (x.tok s)/\(∀bq,bq≠s->nf (x.tok bq))/\stepG P mn g w=.go {g with status:=.blocked} w #[])
def LO:Prop:=∃s sp m k g',x.spec s=some sp/\sp.aT=some m/\x.tok s=.ch k .own .work/\x.deaf=0/\iv g'/\x.rel=false/\
 (∀w,Fits x.G w->stepG P mn g w=.go g' w #[mk (.acquire ⟨m,0,none⟩)])/\
 ∀L E,sp.aH L E->Apart x.G E->(L.Nodup/\k∉L/\∃w,Fits x.G w/\Fits E w)->Ω mn g' {x with G:=join x.G E,tok:=upd x.tok s (.ch k (.dc L) .work),view:=upd x.view s none}
def LP:Prop:=∃s sp m k L g' G' E,x.spec s=some sp/\sp.aT=some m/\x.tok s=.ch k (.dc L) .work/\x.deaf=0/\iv g'/\x.rel=false/\
 (∀w,Fits x.G w->stepG P mn g w=.go g' w #[mk (.releaseMerge ⟨m,0,none⟩)])/\
 Split x.G G' E/\sp.aH (L++[k]) E/\Ω mn g' {x with G:=G',tok:=upd x.tok s (.ch k .fin .work),view:=upd x.view s none}
def LQ:Prop:=∃s sp k mu g' E,x.spec s=some sp/\x.tok s=.ch k mu .work/\(mu=.done\/(mu=.idle/\sp.aT=none))/\(∀bq,bq≠s->fU (x.tok bq))/\x.deaf=0/\iv g'/\x.rel=false/\
 (∀w,Fits x.G w->stepG P mn g w=.go g' w #[mk (.releaseMerge ⟨s,0,none⟩)])/\
 Sub E x.G/\sp.D k E/\Ω mn g' {x with G:=Α.empty,aF:=λ_=>none,tok:=upd x.tok s (.ch k mu .rel),view:=upd x.view s none,rel:=true}
def LR:Prop:=∃s sp n aE g',x.spec s=some sp/\x.tok s=.par n 0 aE/\(aE=.l'\/aE=.w4)/\x.deaf=0/\iv g'/\x.rel=false/\
 (∀w,Fits x.G w->stepG P mn g w=.go g' w #[mk (.acquire ⟨s,0,none⟩)])/\
 ∀gf ft gE eu,gf.Perm (List.range n)->lC sp.D gf gE->(sp.aT≠none->ft.Perm (List.range n)/\sp.aH ft eu)->(sp.aT=none->eu=Α.empty)->Apart x.G gE->Apart x.G eu->Apart gE eu->(∃w,Fits x.G w/\Fits gE w/\Fits eu w)->
  Ω mn g' {x with G:=join (join x.G gE) eu,tok:=upd x.tok s (.par n 0 .bA),view:=upd x.view s none}
def LS:Prop:=∃s sp n p g' c nb nd,x.spec s=some sp/\x.tok s=.par n (p+1) .add/\x.deaf=0/\iv g'/\iv c/\x.rel=false/\
 (∀w,Fits x.G w->stepG P mn g w=.spawn g' c w #[])/\Split x.G nb nd/\
 Ω mn g' {x with G:=nb,tok:=upd x.tok s (.par n p .add),view:=upd x.view s none}/\
 Ω false c ⟨nd,λ_=>none,upd (λ_=>.nil) s (.ch (n-(p+1)) .idle .work),upd (λ_=>none) s (some sp),λ_=>none,0,false⟩
def Gj:Prop:=
 (∃G',Sub G' x.G/\Ω mn g {x with G:=G'})\/
 (∃b c t,x.aF b=some (c,t)/\Ω mn g {x with aF:=upd x.aF b none,G:=⟨λΧ o=>if Χ=b then(c[o]?).map (·,true) else x.G.aG Χ o,λΧ=>if Χ=b then some (t,c.size) else x.G.row Χ,x.G.obj⟩})\/
 (∃s sp ty G' E,x.aF s=some (#[.int .u64 0,.int .u32 0],ty)/\(∀m,sp.aT=some m->m≠s/\∃jo,x.aF m=some (#[.int .i32 0,.int .u32 0],jo))/\x.rel=false/\
  Split x.G G' E/\(sp.aT≠none->sp.aH [] E)/\
  Ω mn g {x with G:=G',aF:=λb=>if b=s\/sp.aT=some b then none else x.aF b,tok:=upd x.tok s (.par 0 0 .add),spec:=upd x.spec s (some sp),view:=upd x.view s none})
def LU:Prop:=mn=false/\g.status=.running/\x.rel=true/\(∀s,Gone (x.tok s))/\∃g' es,(∀e∈es,Event.mute e=true)/\(∀w,stepG P false g w=.go g' w es)/\Ω mn g' {x with deaf:=deafBehind x.deaf es}
def y8:Prop:=LU P mn Ω g x\/iv g/\(LL P mn Ω g x\/LM P mn Ω g x\/LN P mn Ω g x\/Atom P mn Ω g x\/LO P mn Ω g x\/LP P mn Ω g x\/LQ P mn Ω g x\/LR P mn Ω g x\/LS P mn Ω g x\/Gj mn Ω g x)
def LV (Q:Value->Prop):Prop:=iv g/\(∀s,fU (x.tok s))/\x.deaf=0/\∀w,Fits x.G w->∃v es,stepG P true g w=.ended (.done v) w es/\(∀e∈es,ha x.G w.heap.size w.heap.size e)/\Q v
def TH:Prop:=x.rel=true/\(∀s,Gone (x.tok s))/\g.status=.finished/\x.deaf=0
def BZ (Q:Value->Prop):Prop:=(mn=true/\LV P g x Q)\/(mn=false/\TH g x)
def y9:Prop:=x.rel=true->(∀s,Gone (x.tok s))->∃n,QuitsD P n x.deaf g
end
open Classical in
def jq (P:Program) (Q:Value->Prop):gd (Bool×Goroutine×aV)->y7
 | .leaf=>λmn g x=>y9 P g x/\BZ P mn g x Q
 | .node f=>λmn g x=>y9 P g x/\(BZ P mn g x Q\/y8 P mn (λvi g' c8=>jq P Q (f (vi,g',c8)) vi g' c8) g x)
def Goes (P:Program) (Q:Value->Prop):y7:=λmn g x=>∃T,jq P Q T mn g x
theorem y8.mono {P:Program} {mn:Bool} {Ω LW:y7} {g:Goroutine} {x:aV} (bb:∀mn g x,Ω mn g x->LW mn g x) (h:y8 P mn Ω g x):y8 P mn LW g x:=by
 rcases h with⟨Ζ,Ε,aY,TI,g',es,eZ,lA,qO⟩|⟨μ,h⟩
 ·exact .inl ⟨Ζ,Ε,aY,TI,g',es,eZ,lA,bb _ _ _ qO⟩
 refine .inr ⟨μ,?_⟩;rcases h with h|h|h|h|h|h|h|h|h|h
 ·refine .inl λw Φ hv=>?_;have:=h w Φ hv;revert this;cases stepG P mn g w<;>simp only[GStep.goes,imp_self];rintro⟨G',V',J,γ,π,Μ,aA,bc,gK,Gk,nY⟩;exact⟨G',V',J,γ,π,Μ,aA,bc,gK,Gk,bb _ _ _ nY⟩
 ·obtain⟨g',J,γ⟩:=h;exact .inr (.inl ⟨g',J,γ.elim (λh=>.inl λw Φ=>⟨(h w Φ).1,bb _ _ _ (h w Φ).2⟩) (λh=>.inr ⟨h.1,λw Φ=>⟨(h.2 w Φ).1,bb _ _ _ (h.2 w Φ).2⟩⟩)⟩)
 ·obtain⟨s,n,p,aE,g',off,wr,J,γ,hf,π,Μ⟩:=h;exact .inr (.inr (.inl ⟨s,n,p,aE,g',off,wr,J,γ,hf,π,λw Φ=>⟨(Μ w Φ).1,bb _ _ _ (Μ w Φ).2⟩⟩))
 ·obtain⟨s,sp,J,hf,π⟩:=h;refine .inr (.inr (.inr (.inl ⟨s,sp,J,hf,λw φ o Φ hv ο ξ nZ ψ=>?_⟩)));refine(π w φ o Φ hv ο ξ nZ ψ).imp (λh=>?_) id;revert h;cases stepG P mn g w<;>simp only[GStep.goes,imp_self];rintro⟨J,γ,π,Μ⟩;exact⟨J,γ,π,Μ.imp (λh=>⟨h.1,bb _ _ _ h.2⟩) λ⟨o',t',a1,bl,cz,gb⟩=>⟨o',t',a1,bl,cz,λcl eg=>bb _ _ _ (gb cl eg)⟩⟩
 ·obtain⟨s,sp,m,k,g',J,γ,π,Μ,aA,tv,bc,gK⟩:=h;exact .inr (.inr (.inr (.inr (.inl ⟨s,sp,m,k,g',J,γ,π,Μ,aA,tv,bc,λL E a b c=>bb _ _ _ (gK L E a b c)⟩))))
 ·obtain⟨s,sp,m,k,L,g',G',E,J,γ,π,Μ,aA,tv,bc,gK,nY,tw⟩:=h;exact .inr (.inr (.inr (.inr (.inr (.inl ⟨s,sp,m,k,L,g',G',E,J,γ,π,Μ,aA,tv,bc,gK,nY,bb _ _ _ tw⟩)))))
 ·obtain⟨s,sp,k,mu,g',E,J,γ,π,Μ,aA,bc,TJ,gK,nY,tw,y'⟩:=h;exact .inr (.inr (.inr (.inr (.inr (.inr (.inl ⟨s,sp,k,mu,g',E,J,γ,π,Μ,aA,bc,TJ,gK,nY,tw,bb _ _ _ y'⟩))))))
 ·obtain⟨s,sp,n,aE,g',J,γ,π,Μ,aA,tv,bc,gK⟩:=h;exact .inr (.inr (.inr (.inr (.inr (.inr (.inr (.inl ⟨s,sp,n,aE,g',J,γ,π,Μ,aA,tv,bc,λgf ft gE eu a b c d e f g i=>bb _ _ _ (gK gf ft gE eu a b c d e f g i)⟩)))))))
 ·obtain⟨s,sp,n,p,g',c,nb,nd,J,γ,π,Μ,aA,tv,bc,gK,nY,tw⟩:=h;exact .inr (.inr (.inr (.inr (.inr (.inr (.inr (.inr (.inl ⟨s,sp,n,p,g',c,nb,nd,J,γ,π,Μ,aA,tv,bc,gK,bb _ _ _ nY,bb _ _ _ tw⟩))))))))
 ·refine .inr (.inr (.inr (.inr (.inr (.inr (.inr (.inr (.inr ?_))))))));rcases h with⟨G',J,γ⟩|⟨b,c,t,J,γ⟩|⟨s,sp,ty,G',E,J,γ,π,Μ,aA,gK⟩
  ·exact .inl ⟨G',J,bb _ _ _ γ⟩
  ·exact .inr (.inl ⟨b,c,t,J,bb _ _ _ γ⟩)
  ·exact .inr (.inr ⟨s,sp,ty,G',E,J,γ,π,Μ,aA,bb _ _ _ gK⟩)
theorem Goes.stop {P:Program} {Q:Value->Prop} {mn:Bool} {g:Goroutine} {x:aV} (Γ:y9 P g x) (h:BZ P mn g x Q):Goes P Q mn g x:=⟨.leaf,Γ,h⟩
open Classical in
theorem Goes.step {P:Program} {Q:Value->Prop} {mn:Bool} {g:Goroutine} {x:aV} (Γ:y9 P g x) (h:y8 P mn (Goes P Q) g x):Goes P Q mn g x:=by
 refine⟨.node λk=>if χ:∃T,jq P Q T k.1 k.2.1 k.2.2 then Classical.choose χ else .leaf,Γ,.inr (h.mono λvi g' c8 Υ=>?_)⟩;have χ:∃T,jq P Q T vi g' c8:=Υ;simp only[χ,dif_pos];exact Classical.choose_spec χ
theorem Goes.quits {P:Program} {Q:Value->Prop} (n:Nat):∀{g:Goroutine} {x:aV},x.rel=true->(∀s,Gone (x.tok s))->QuitsD P n x.deaf g->Goes P Q false g x:=by
 induction n with
 | zero=>
  intro g x μ Υ Ρ;exact .stop (λ_ _=>⟨0,Ρ⟩) (.inr ⟨rfl,μ,Υ,Ρ.1,Ρ.2⟩)
 | succ n Δ=>
  intro g x μ Υ Ρ;rcases Ρ with Ρ|⟨ο,g',es,J,γ,π⟩
  ·exact .stop (λ_ _=>⟨0,Ρ⟩) (.inr ⟨rfl,μ,Υ,Ρ.1,Ρ.2⟩)
  ·exact .step (λ_ _=>⟨n+1,.inr ⟨ο,g',es,J,γ,π⟩⟩) (.inl ⟨rfl,ο,μ,Υ,g',es,J,γ,Δ (x:={x with deaf:=deafBehind x.deaf es}) μ Υ π⟩)
abbrev cB:=Nat ⊕ Nat
def bL (H:cB->Α) (h:cB) (G:Α):cB->Α:=λk=>if k=h then G else H k
@[simp] theorem dy (H:cB->Α) (h:cB) (G:Α):bL H h G h=G:=by simp[bL]
theorem bM (H:cB->Α) {h k:cB} (G:Α) (χ:k≠h):bL H h G k=H k:=by simp[bL,χ]
structure cY where
 H:cB->Α
 aF:Nat->Nat->Option (Array Value×TypeId)
 tok:Nat->Nat->Tok
 spec:Nat->Nat->Option Spec
 view:Nat->Nat->Option (Nat×aN)
 deaf:Nat->Nat
 rel:Nat->Bool
 T:Nat->gd (Bool×Goroutine×aV)
 O:Nat->Option aN
 bx:Nat->Nat
 home:Nat->Nat
 dr:Nat->Nat
def cY.x (c:cY) (i:Nat):aV:=⟨c.H (.inl i),c.aF i,c.tok i,c.spec i,c.view i,c.deaf i,c.rel i⟩
structure gZ (H:cB->Α) (aF:Nat->Nat->Option (Array Value×TypeId)) (O:Nat->Option aN) (bt w:World):Prop where
 fit:∀h,Fits (H h) w
 me:∀i,y6 (aF i) w
 fD:∀s o,O s=some o->At s o w
 keep:fq (λ_ _=>False) (λ_=>False) bt w
structure h7 (H:cB->Α) (aF:Nat->Nat->Option (Array Value×TypeId)) (O:Nat->Option aN) (hg:Nat):Prop where
 apart:∀h k,h≠k->Apart (H h) (H k)
 high:∀h b o,(H h).owns b o->hg<=b
 n0:∀h b,(H h).eY b->hg<=b
 fresh:∀i b v,aF i b=some v->hg<=b/\(∀h,(H h).off b)/\∀j,j≠i->aF j b=none
 kp:∀s o b,O s=some o->eb s o.toSpec b->hg<=b/\(∀h,(H h).off b)/\∀j,aF j b=none
 kF:∀s bq o o' b,O s=some o->O bq=some o'->eb s o.toSpec b->eb bq o'.toSpec b->s=bq
 pL:∀s o m,O s=some o->o.aT=some m->m≠s
 eh:∀b,(∀s o,O s=some o->¬eb s o.toSpec b)->H (.inr b)=Α.empty
theorem gZ.own {H:cB->Α} {aF:Nat->Nat->Option (Array Value×TypeId)} {O:Nat->Option aN} {bt w w':World} {hg:Nat} (c0:gZ H aF O bt w) (Β:h7 H aF O hg) (i:Nat) {G':Α} {V':Nat->Option (Array Value×TypeId)}
  (χ:fq (H (.inl i)).owns (H (.inl i)).eY w w') (Φ:Fits G' w') (hv:y6 V' w') (ag:bt.heap.size=hg):gZ (bL H (.inl i) G') (upd aF i V') O bt w':=by
 have ap:∀h,h≠.inl i->(∀b o,(H (.inl i)).owns b o->¬(H h).has b o)/\∀b,(H (.inl i)).eY b->¬(H h).eY b:=λh aU=>⟨(Β.apart _ _ (Ne.symm aU)).aG,(Β.apart _ _ (Ne.symm aU)).obj⟩;refine⟨λh=>?_,λj=>?_,λs o ο=>?_,?_⟩
 ·by_cases aU:h=.inl i
  ·subst aU;rw[dy];exact Φ
  ·rw[bM _ _ aU];exact(c0.fit h).keeps χ (ap h aU).1 (ap h aU).2
 ·by_cases ε:j=i
  ·subst ε;rw[upd_same];exact hv
  ·rw[upd_ne _ _ ε];intro b c t hb;obtain⟨c',J,γ,π⟩:=χ.cells b c t _ (c0.me j b c t hb);have off:=(Β.fresh j b _ hb).2.1 (.inl i);have:c'=c:=by
    apply Array.ext_getElem?;intro o;exact π o λ⟨v,hv⟩=>off.1 o ⟨_,hv⟩
   rw[J,this]
 ·have off:=λb (hb:eb s o.toSpec b)=>(Β.kp s o b ο hb).2.1 (.inl i)
  have za:∀b c t,eb s o.toSpec b->w.heap[b]?=some (.cells c t (0,0))->w'.heap[b]?=some (.cells c t (0,0)):=λb c t hb ζ=>by
   obtain⟨c',J,γ,π⟩:=χ.cells b c t _ ζ;have:c'=c:=by
    apply Array.ext_getElem?;intro o';exact π o' λ⟨v,hv⟩=>(off b hb).1 o' ⟨_,hv⟩
   rw[J,this]
  obtain⟨⟨ty,J⟩,γ⟩:=c0.fD s o ο;exact⟨⟨ty,za _ _ _ (.inl rfl) J⟩,λm hm=>let ⟨jo,π⟩:=γ m hm;⟨jo,za _ _ _ (.inr hm) π⟩⟩
 ·have ev:=c0.keep;refine⟨Nat.le_trans ev.size χ.size,λb c t dI hb=>?_,λb x hb U _=>?_,ev.os.trans χ.os,χ.output.trans ev.output,χ.tape.trans ev.tape⟩
  ·obtain⟨c1,J,γ,π⟩:=ev.cells b c t dI hb;obtain⟨c2,Μ,aA,bc⟩:=χ.cells b c1 t dI J;refine⟨c2,Μ,by rw[aA,γ],λo _=>?_⟩;rw[bc o λU=>?_,π o id];have:=Β.high _ _ _ U;have:=fr hb;omega
  ·refine χ.m8 b x (ev.m8 b x hb U id) U λhy=>?_;have:=Β.n0 _ _ hy;have:=fr hb;omega
theorem gZ.at {H:cB->Α} {aF:Nat->Nat->Option (Array Value×TypeId)} {O:Nat->Option aN} {bt w:World} (h:gZ H aF O bt w) (d:Nat):gZ H aF O bt (w.at d):=
 ⟨λk=>(h.fit k).at d,h.me,h.fD,⟨h.keep.size,h.keep.cells,h.keep.m8,h.keep.os,h.keep.output,h.keep.tape⟩⟩
theorem h7.own {H:cB->Α} {aF:Nat->Nat->Option (Array Value×TypeId)} {O:Nat->Option aN} {hg:Nat} {w:World} {bt:World} (Β:h7 H aF O hg) (c0:gZ H aF O bt w) (b8:hg<=w.heap.size) (i:Nat) {G':Α} {V':Nat->Option (Array Value×TypeId)}
  (Υ:BX (H (.inl i)) G' w.heap.size) (qQ:Gi (aF i) V' G' w.heap.size):h7 (bL H (.inl i) G') (upd aF i V') O hg:=by
 have LX:∀b o,G'.has b o->w.heap.size<=b\/(H (.inl i)).has b o:=λb o ⟨⟨v,p⟩,h⟩=>(Υ.aG b o v p h).imp id λ⟨v0,fs,ag,_⟩=>⟨_,ag⟩
 have LY:∀b o,G'.owns b o->w.heap.size<=b\/(H (.inl i)).owns b o:=λb o ⟨v,h⟩=>(Υ.aG b o v true h).imp id λ⟨v0,fs,ag,ψ⟩=>⟨v0,by rw[ag,ψ rfl]⟩
 have vj:∀h b o,(H h).has b o->b<w.heap.size:=λh b o ⟨⟨v,p⟩,U⟩=>by
  obtain⟨c,t,dI,hb,_⟩:=qK ((c0.fit h).aG b o v p U);exact fr hb
 have zb:∀h b,(H h).eY b->b<w.heap.size:=λh b ⟨x,U⟩=>fr ((c0.fit h).obj b x U).1
 have LZ:∀k,k≠.inl i->Apart G' (H k):=λk χ=>by
  have a:=Β.apart _ _ (Ne.symm χ);refine⟨λb o Γ U=>?_,λb o Γ U=>?_,λb Γ U=>?_⟩
  ·rcases LY b o Γ with h|h
   ·have:=vj k b o U;omega
   ·exact a.aG b o h U
  ·rcases LX b o U with h|h
   ·have:=vj k b o (let ⟨v,hv⟩:=Γ;⟨_,hv⟩);omega
   ·exact a.qJ b o Γ h
  ·rcases Υ.obj b Γ with h|h
   ·have:=zb k b U;omega
   ·exact a.obj b h U
 have TK:∀{A B:Α},Apart A B->Apart B A:=λh=>⟨h.qJ,h.aG,λb hb ξ=>h.obj b ξ hb⟩
 have Gl:∀b,b<w.heap.size->(H (.inl i)).off b->G'.off b:=λb hb h=>⟨λo Γ=>(LX b o Γ).elim (λx=>by omega) (h.1 o),λΓ=>(Υ.obj b Γ).elim (λx=>by omega) h.2⟩
 have xe:∀j b v,aF j b=some v->b<w.heap.size:=λj b v hv=>fr (c0.me j b v.1 v.2 hv)
 have Gm:∀s o b,O s=some o->eb s o.toSpec b->b<w.heap.size:=λs o b ο hb=>by
  obtain⟨⟨ty,J⟩,γ⟩:=c0.fD s o ο;rcases hb with rfl|hb
  ·exact fr J
  ·obtain⟨jo,π⟩:=γ b hb;exact fr π
 refine⟨λh k χ=>?_,λh b o Γ=>?_,λh b Γ=>?_,λj b v hv=>?_,λs o b ο hb=>?_,Β.kF,Β.pL,λb hb=>?_⟩
 ·by_cases aU:h=.inl i
  ·subst aU;rw[dy,bM _ _ (Ne.symm χ)];exact LZ k (Ne.symm χ)
  ·by_cases kk:k=.inl i
   ·subst kk;rw[dy,bM _ _ aU];exact TK (LZ h aU)
   ·rw[bM _ _ aU,bM _ _ kk];exact Β.apart h k χ
 ·by_cases aU:h=.inl i
  ·subst aU;rw[dy] at Γ;rcases LY b o Γ with h|h
   ·omega
   ·exact Β.high _ _ _ h
  ·rw[bM _ _ aU] at Γ;exact Β.high _ _ _ Γ
 ·by_cases aU:h=.inl i
  ·subst aU;rw[dy] at Γ;rcases Υ.obj b Γ with h|h
   ·omega
   ·exact Β.n0 _ _ h
  ·rw[bM _ _ aU] at Γ;exact Β.n0 _ _ Γ
 ·by_cases ε:j=i
  ·subst ε;rw[upd_same] at hv;rcases qQ b v hv with h|⟨J,γ⟩
   ·obtain⟨a1,bl,cz⟩:=Β.fresh j b v h;refine⟨a1,λcJ=>?_,λbH bp=>by rw[upd_ne _ _ bp];exact cz bH bp⟩;by_cases aU:cJ=.inl j
    ·subst aU;rw[dy];exact Gl b (xe j b v h) (bl _)
    ·rw[bM _ _ aU];exact bl _
   ·refine⟨by omega,λcJ=>?_,λbH bp=>?_⟩
    ·by_cases aU:cJ=.inl j
     ·subst aU;rw[dy];exact γ
     ·rw[bM _ _ aU];exact⟨λo Γ=>by have:=vj cJ b o Γ;omega,λΓ=>by have:=zb cJ b Γ;omega⟩
    ·rw[upd_ne _ _ bp];cases ζ:aF bH b with
     | none=>rfl
     | some e8=>have:=xe bH b e8 ζ;omega
  ·rw[upd_ne _ _ ε] at hv;obtain⟨a1,bl,cz⟩:=Β.fresh j b v hv;have hb:=xe j b v hv;refine⟨a1,λcJ=>?_,λbH bp=>?_⟩
   ·by_cases aU:cJ=.inl i
    ·subst aU;rw[dy];exact Gl b hb (bl _)
    ·rw[bM _ _ aU];exact bl _
   ·by_cases cJ:bH=i
    ·subst cJ;rw[upd_same];cases ζ:V' b with
     | none=>rfl
     | some e8=>
      rcases qQ b e8 ζ with h|⟨J,_⟩
      ·rw[cz bH bp] at h;cases h
      ·omega
    ·rw[upd_ne _ _ cJ];exact cz bH bp
 ·obtain⟨a1,bl,cz⟩:=Β.kp s o b ο hb;have tx:=Gm s o b ο hb;refine⟨a1,λcJ=>?_,λbH=>?_⟩
  ·by_cases aU:cJ=.inl i
   ·subst aU;rw[dy];exact Gl b tx (bl _)
   ·rw[bM _ _ aU];exact bl _
  ·by_cases cJ:bH=i
   ·subst cJ;rw[upd_same];cases ζ:V' b with
    | none=>rfl
    | some e8=>
     rcases qQ b e8 ζ with h|⟨J,_⟩
     ·rw[cz bH] at h;cases h
     ·omega
   ·rw[upd_ne _ _ cJ];exact cz bH
 ·rw[bM _ _ (by simp)];exact Β.eh b hb
def jr (tok:Nat->Nat->Tok) (O:Nat->Option aN) (t:Trace):cB->Nat->Prop
 | .inl i,k=>Knows t i k
 | .inr b,k=>(∃p op,t[p]?=some op/\op.act=.mark (.releaseMerge ⟨b,0,none⟩)/\t.heard p/\Before t k p)\/(∀s o,O s=some o->eb s o.toSpec b->∀i,tok i s≠.nil->Knows t i k)
theorem Gn {tok:Nat->Nat->Tok} {O:Nat->Option aN} {t:Trace} (u:Trace) {h:cB} {k:Nat} (χ:jr tok O t h k):jr tok O (t++u) h k:=by
 cases h with
 | inl i=>exact Knows.app u χ
 | inr b=>
  rcases χ with⟨p,op,J,γ,π,Μ⟩|h
  ·have ψ:=lt_size_of_getElem? J;exact .inl ⟨p,op,by rw[getElem?_append_old ψ];exact J,γ,(heard_old ψ).2 π,Μ.app u⟩
  ·exact .inr λs o ο hb i hi=>(h s o ο hb i hi).app u
structure iw (H:cB->Α) (aF:Nat->Nat->Option (Array Value×TypeId)) (tok:Nat->Nat->Tok) (O:Nat->Option aN) (bx:Nat->Nat) (deaf:Nat->Nat) (N:Nat) (t:Trace):Prop where
 race:∀said,¬Race said t
 low:∀op∈t,op.act.low N
 norel:∀op∈t,∀a,op.act≠.mark (.release a)
 perms:∀h,df t (jr tok O t h) (H h)
 oO:∀i b v,aF i b=some v->∀k a,touchAt t k=some a->¬nT a.loc b
 cont:∀s o b,O s=some o->eb s o.toSpec b->∀k a,touchAt t k=some a->nT a.loc b->a.kind=.atomic\/(a.kind=.said/\t.g? k=some (bx s))
 hears:∀i,Deaf t i=deaf i
theorem zc {t:Trace} {N k:Nat} {a:Touch} (h:∀op∈t,op.act.low N) (ξ:touchAt t k=some a) {b:Nat} (hb:nT a.loc b):b<N:=by
 obtain⟨op,Γ,h8⟩:=touch_of ξ;have ω:=h op (mem_of_getElem? Γ);obtain⟨g,fn,pos,act⟩:=op;cases act with
 | access e=>
  simp only[MemAct.touch?,Option.some.injEq] at h8;subst h8;obtain⟨loc,wr,oP⟩:=e;cases loc<;>simp only[nT] at hb<;>first|(subst hb;exact ω)|exact hb.elim
 | mark m=>
  cases m<;>simp only[MemAct.touch?,Option.some.injEq,reduceCtorEq] at h8<;>(subst h8;simp only[nT] at hb;subst hb;exact ω)
 | _=>simp[MemAct.touch?] at h8
theorem BY.Gp {G:Α} {n iN:Nat} {e:Event} (h:BY e):ha G n iN e:=by
 rcases h with h|h<;>simp[ha,h]
theorem B0 {G:Α} {n iN:Nat} {e:Event} (he:ha G n iN e) {a:Touch} (ξ:(MemAct.ofEvent e).touch?=some a) :
  a.loc=e.loc/\a.write=e.write/\(a.loc.isMemory=true->(∃cu,e.loc=.cell cu)\/∃r,e.loc=.obj r):=by
 obtain⟨loc,wr,oP⟩:=e;cases loc with
 | cell cu=>simp[MemAct.ofEvent,MemAct.touch?] at ξ;subst ξ;simp
 | obj r=>
  simp only[ha] at he;obtain⟨rfl,_⟩:=he;cases wr<;>simp[MemAct.ofEvent,MemAct.touch?] at ξ<;>subst ξ<;>simp
 | output=>simp[MemAct.ofEvent,MemAct.touch?] at ξ;subst ξ;simp[Loc.isMemory]
 | goroutines=>exact he.elim
 | mark m=>simp only[ha] at he;subst he;simp[MemAct.ofEvent,MemAct.touch?] at ξ
theorem iw.own {H:cB->Α} {aF:Nat->Nat->Option (Array Value×TypeId)} {tok:Nat->Nat->Tok} {O:Nat->Option aN} {bx:Nat->Nat} {deaf:Nat->Nat} {bt w w':World} {hg:Nat} {t:Trace}
  (Κ:iw H aF tok O bx deaf w.heap.size t) (c0:gZ H aF O bt w) (Β:h7 H aF O hg) (i:Nat) {G':Α} {V':Nat->Option (Array Value×TypeId)} {es:Array Event} {fn:FuncId} {pos:String}
  (cm:w.heap.size<=w'.heap.size) (Υ:BX (H (.inl i)) G' w.heap.size) (qQ:Gi (aF i) V' G' w.heap.size)
  (fu:∀e∈es,ha (H (.inl i)) w.heap.size w'.heap.size e) (Gq:∀b c,V' b=some c->w.heap.size<=b->∀e∈es,¬nT e.loc b) :
  iw (bL H (.inl i) G') (upd aF i V') tok O bx deaf w'.heap.size (t++MemOp.ofEvents i fn pos es):=by
 have hu:∀op∈MemOp.ofEvents i fn pos es,op.g=i:=λop Ν=>by obtain⟨e,_,rfl⟩:=Go.Conc.mem_ofEvents Ν;rfl
 have vj:∀h b o,(H h).has b o->b<w.heap.size:=λh b o ⟨⟨v,p⟩,U⟩=>by
  obtain⟨c,t,dI,hb,_⟩:=qK ((c0.fit h).aG b o v p U);exact fr hb
 have zb:∀h b,(H h).eY b->b<w.heap.size:=λh b ⟨x,U⟩=>fr ((c0.fit h).obj b x U).1
 have xe:∀j b v,aF j b=some v->b<w.heap.size:=λj b v hv=>fr (c0.me j b v.1 v.2 hv)
 have Gm:∀s o b,O s=some o->eb s o.toSpec b->b<w.heap.size:=λs o b ο hb=>by
  obtain⟨⟨ty,J⟩,γ⟩:=c0.fD s o ο;rcases hb with rfl|hb
  ·exact fr J
  ·obtain⟨jo,π⟩:=γ b hb;exact fr π
 have Gr:∀e∈es,∀b,b<w.heap.size->(H (.inl i)).off b->¬nT e.loc b:=λe he b hb sa e9=>by
  have:=fu e he;obtain⟨loc,wr,oP⟩:=e;cases loc with
  | cell cu=>
   simp only[nT] at e9;subst e9;simp only[ha] at this;rcases this with h|⟨_,h⟩
   ·omega
   ·cases wr
    ·exact sa.1 _ h
    ·obtain⟨v,hv⟩:=h;exact sa.1 _ ⟨_,hv⟩
  | obj r=>
   simp only[nT] at e9;subst e9;simp only[ha] at this;rcases this.2 with h|h
   ·omega
   ·exact sa.2 h
  | _=>exact e9
 refine⟨λsaid=>noRace_append (Κ.race said) hu λk a ξ op Ν b hb ζ=>?_,λop Ν=>?_,λop Ν=>?_,λh=>?_,λj b v hv k a ξ e9=>?_,λs o b ο hb k a ξ e9=>?_,λj=>?_⟩
 ·obtain⟨e,he,rfl⟩:=Go.Conc.mem_ofEvents Ν;obtain⟨J,γ,π⟩:=B0 (fu e he) hb;obtain⟨c1,c2,c3,_⟩:=ζ;have dt:=fu e he;rcases π (by rw[<-c1];exact c2) with⟨cu,ω⟩|⟨r,ω⟩
  ·simp only[ha,ω] at dt;have kG:a.loc=.cell cu:=by rw[c1,J,ω]
   rcases dt with h|⟨bU,h⟩
   ·have:=zc Κ.low ξ (b:=cu.block) (by rw[kG];rfl);omega
   ·obtain⟨oQ,jυ,sp⟩:=cu;simp only at bU;subst bU;by_cases hw:e.write=true
    ·rw[if_pos hw] at h;obtain⟨v,hv⟩:=h;exact(Κ.perms (.inl i)).aG _ _ v true hv k a ξ kG (.inl rfl)
    ·rw[if_neg hw] at h;obtain⟨⟨v,p⟩,hv⟩:=h;exact(Κ.perms (.inl i)).aG _ _ v p hv k a ξ kG (.inr (c3.resolve_right (by rw[γ];exact hw)))
  ·simp only[ha,ω] at dt;have kG:a.loc=.obj r:=by rw[c1,J,ω]
   rcases dt.2 with h|h
   ·have:=zc Κ.low ξ (b:=r) (by rw[kG];rfl);omega
   ·exact(Κ.perms (.inl i)).obj r h k a ξ kG
 ·rcases Array.mem_append.1 Ν with h|h
  ·exact MemAct.low_mono cm (Κ.low op h)
  ·obtain⟨e,he,rfl⟩:=Go.Conc.mem_ofEvents h;have dt:=fu e he;obtain⟨loc,wr,oP⟩:=e;cases loc with
   | cell cu=>
    simp only[ha] at dt;show cu.block<_;rcases dt with h|⟨_,h⟩
    ·exact h.2
    ·cases wr
     ·have:=vj _ _ _ h;omega
     ·obtain⟨v,hv⟩:=h;have:=vj (.inl i) _ _ ⟨_,hv⟩;omega
   | obj r=>
    simp only[ha] at dt;obtain⟨rfl,dt⟩:=dt;have μ:r<w'.heap.size:=dt.elim (λh=>h.2) (λh=>by have:=zb _ _ h;omega);cases wr<;>exact μ
   | output=>trivial
   | goroutines=>exact dt.elim
   | mark m=>simp only[ha] at dt;subst dt;trivial
 ·rcases Array.mem_append.1 Ν with h|h
  ·exact Κ.norel op h
  ·obtain⟨e,he,rfl⟩:=Go.Conc.mem_ofEvents h;intro a h;have dt:=fu e he;obtain⟨loc,wr,oP⟩:=e;cases loc with
   | mark m=>simp only[ha] at dt;subst dt;simp[MemAct.ofEvent] at h
   | obj r=>cases wr<;>cases oP<;>simp[MemAct.ofEvent] at h
   | _=>simp[MemAct.ofEvent] at h
 ·by_cases aU:h=.inl i
  ·subst aU;rw[dy];have L0:df (t++MemOp.ofEvents i fn pos es) (Knows (t++MemOp.ofEvents i fn pos es) i) (H (.inl i)):=(Κ.perms (.inl i)).own hu;refine⟨λb o v p ζ k a ξ ω hw=>?_,λb hb k a ξ ω=>?_⟩
   ·rcases Υ.aG b o v p ζ with Η|⟨v0,fs,ag,ψ⟩
    ·rcases m9 ξ with dO|⟨_,op,Ν,χ,_⟩
     ·have:=zc Κ.low dO (b:=b) (by rw[ω];rfl);omega
     ·have:=knows_own χ;rwa [hu op Ν] at this
    ·exact L0.aG b o v0 fs ag k a ξ ω (hw.imp ψ id)
   ·rcases Υ.obj b hb with Η|ag
    ·rcases m9 ξ with dO|⟨_,op,Ν,χ,_⟩
     ·have:=zc Κ.low dO (b:=b) (by rw[ω];rfl);omega
     ·have:=knows_own χ;rwa [hu op Ν] at this
    ·exact L0.obj b ag k a ξ ω
  ·rw[bM _ _ aU];have ap:=Β.apart _ _ (Ne.symm aU);refine(Κ.perms h).others (λk χ=>Gn _ χ) λop Ν a ξ=>?_;obtain⟨e,he,rfl⟩:=Go.Conc.mem_ofEvents Ν;obtain⟨J,γ,_⟩:=B0 (fu e he) ξ;have dt:=fu e he;refine⟨λb o v p ω ζ=>?_,λb ω hb=>?_⟩
   ·simp only[ha,<-J,ω] at dt;rcases dt with U|⟨_,U⟩
    ·have:=vj h b o ⟨_,ζ⟩;omega
    ·by_cases hw:e.write=true
     ·rw[if_pos hw] at U;exact absurd ⟨_,ζ⟩ (ap.aG b o U)
     ·rw[if_neg hw] at U;refine⟨?_,by rw[γ];simpa using hw⟩;cases p with
      | false=>rfl
      | true=>exact absurd U (ap.qJ b o ⟨v,ζ⟩)
   ·simp only[ha,<-J,ω] at dt;rcases dt.2 with U|U
    ·have:=zb h b hb;omega
    ·exact ap.obj b U hb
 ·rcases m9 ξ with dO|⟨_,op,Ν,_,h8⟩
  ·have hb:=zc Κ.low dO e9;by_cases ε:j=i
   ·subst ε;rw[upd_same] at hv;rcases qQ b v hv with h|h
    ·exact Κ.oO j b v h k a dO e9
    ·omega
   ·rw[upd_ne _ _ ε] at hv;exact Κ.oO j b v hv k a dO e9
  ·obtain⟨e,he,rfl⟩:=Go.Conc.mem_ofEvents Ν;obtain⟨J,_,_⟩:=B0 (fu e he) h8;rw[J] at e9;by_cases ε:j=i
   ·subst ε;rw[upd_same] at hv;rcases qQ b v hv with h|h
    ·exact Gr e he b (xe j b v h) ((Β.fresh j b v h).2.1 _) e9
    ·exact Gq b v hv h.1 e he e9
   ·rw[upd_ne _ _ ε] at hv;exact Gr e he b (xe j b v hv) ((Β.fresh j b v hv).2.1 _) e9
 ·rcases m9 ξ with dO|⟨_,op,Ν,_,h8⟩
  ·rcases Κ.cont s o b ο hb k a dO e9 with h|⟨h,χ⟩
   ·exact .inl h
   ·obtain⟨op,Γ,_⟩:=touch_of dO;exact .inr ⟨h,by rw[g?_old (lt_size_of_getElem? Γ)];exact χ⟩
  ·obtain⟨e,he,rfl⟩:=Go.Conc.mem_ofEvents Ν;obtain⟨J,_,_⟩:=B0 (fu e he) h8;rw[J] at e9;exact absurd e9 (Gr e he b (Gm s o b ο hb) ((Β.kp s o b ο hb).2.1 _))
 ·by_cases ε:i=j
  ·subst ε;rw[Deaf_own,deafBehind_still (λe he=>?_)]
   ·exact Κ.hears i
   ·have dt:=fu e he;constructor<;>intro ω<;>simp[ha,ω] at dt
  ·rw[Deaf_other t ε _ hu];exact Κ.hears j
def oR:lr->Prop
 | .fin|.uc|.us|.done=>True
 | _=>False
def bY (tok:Nat->Nat->Tok) (i s:Nat) (t:Tok):Nat->Nat->Tok:=upd tok i (upd (tok i) s t)
theorem e1 (tok:Nat->Nat->Tok) (i s:Nat) (t:Tok):bY tok i s t i s=t:=by simp[bY,upd]
theorem eM {tok:Nat->Nat->Tok} {i s j r:Nat} (t:Tok) (h:¬(j=i/\r=s)):bY tok i s t j r=tok j r:=by
 unfold bY upd;by_cases ε:j=i
 ·subst ε;by_cases μ:r=s
  ·exact absurd ⟨rfl,μ⟩ h
  ·simp[μ]
 ·simp[ε]
theorem L1 (tok:Nat->Nat->Tok) (i s:Nat) (t:Tok):(λj=>bY tok i s t j s)=upd (λj=>tok j s) i t:=by
 funext j
 by_cases ε:j=i
 ·subst ε;rw[e1,upd_same]
 ·rw[eM _ (λh=>ε h.1),upd_ne _ _ ε]
theorem Gs (tok:Nat->Nat->Tok) (i s:Nat) (t:Tok) {r:Nat} (μ:r≠s):(λj=>bY tok i s t j r)=λj=>tok j r:=by
 funext j;rw[eM _ (λh=>μ h.2)]
structure eD (n:Nat) (tok:Nat->Nat->Tok) (spec:Nat->Nat->Option Spec) (view:Nat->Nat->Option (Nat×aN)) (rel:Nat->Bool) (O:Nat->Option aN) (bx home:Nat->Nat):Prop where
 bg:∀s o,O s=some o->tt n o (λi=>tok i s)
 bare:∀s,O s=none->∀i,tok i s=.nil
 out:∀i s,n<=i->tok i s=.nil
 qR:∀i s sp,spec i s=some sp->∃o,O s=some o/\o.toSpec=sp
 vk:∀i s φ o,view i s=some (φ,o)->∃du,O s=some du/\et n du (λj=>tok j s)<=φ/\(et n du (λj=>tok j s)=φ->du=o)
 dc:∀i s k L g o,O s=some o->tok i s=.ch k (.dc L) g->o.L=L
 par:∀i s m p aE,tok i s=.par m p aE->i=bx s
 oS:∀i s k m g,tok i s=.ch k m g->i≠0/\home i=s/\bx s<i
 sb:∀i,i≠0->i<n->∃k m g,tok i (home i)=.ch k m g
 g0:∀i k m g,i≠0->tok i (home i)=.ch k m g->(rel i=true↔g≠.work)
 tz:rel 0=false
 oT:∀i s,rel i=true->s≠home i->fU (tok i s)
 oU:∀i s k m g o,O s=some o->tok i s=.ch k m g->g≠.work->m=.done\/(m=.idle/\o.aT=none)
 vl:∀s i j k m g b0 g',tok i s=.ch k m g->tok j s=.ch k b0 g'->i=j
 tA:∀s i k m g q p aE,tok i s=.ch k m g->tok (bx s) s=.par q p aE->k+p<q
 ft:∀s o,O s=some o->o.L.Nodup/\∀k,k∈o.L↔∃i m g,tok i s=.ch k m g/\oR m
 gf:∀s o,O s=some o->o.Ω.Nodup/\∀k,k∈o.Ω↔∃i m g,tok i s=.ch k m g/\g≠.work
def Alike (t t':Tok):Prop:=(∃m p aE b0 e2 Gt,t=.par m p aE/\t'=.par b0 e2 Gt/\∀k,k+p<m->k+e2<b0)\/(∃k m g b0 g',t=.ch k m g/\t'=.ch k b0 g')
section
variable {n:Nat} {tok:Nat->Nat->Tok} {spec:Nat->Nat->Option Spec} {view:Nat->Nat->Option (Nat×aN)} {rel:Nat->Bool} {O:Nat->Option aN} {bx home:Nat->Nat}
theorem eD.lt (h:eD n tok spec view rel O bx home) {i s:Nat} (Ο:tok i s≠.nil):i<n:=Nat.lt_of_not_le λhle=>Ο (h.out i s hle)
theorem eD.change (h:eD n tok spec view rel O bx home) {s i:Nat} {o o':aN} {t t':Tok} {B1:Nat->Bool} {V:Nat->Option (Nat×aN)} (ο:O s=some o) (Ο:tok i s=t) (qS:Alike t t')
  (Η:tt n o' (upd (λj=>tok j s) i t')) (ψ:et n o' (upd (λj=>tok j s) i t')<et n o (λj=>tok j s)) (bU:o'.toSpec=o.toSpec)
  (oV:∀r φ q,V r=some (φ,q)->(r=s/\φ=et n o' (upd (λj=>tok j s) i t')/\q=o')\/(r≠s/\view i r=some (φ,q)))
  (gr:∀j k L g,bY tok i s t' j s=.ch k (.dc L) g->o'.L=L)
  (lD:∀j k m g,j≠0->bY tok i s t' j (home j)=.ch k m g->(B1 j=true↔g≠.work)) (Gu:B1 0=false)
  (TM:∀j r,B1 j=true->r≠home j->fU (bY tok i s t' j r))
  (B2:∀j k m g,bY tok i s t' j s=.ch k m g->g≠.work->m=.done\/(m=.idle/\o'.aT=none))
  (aC:o'.L.Nodup/\∀k,k∈o'.L↔∃j m g,bY tok i s t' j s=.ch k m g/\oR m) (bb:o'.Ω.Nodup/\∀k,k∈o'.Ω↔∃j m g,bY tok i s t' j s=.ch k m g/\g≠.work) :
  eD n (bY tok i s t') spec (upd view i V) B1 (upd O s (some o')) bx home:=by
 have br:i<n:=h.lt (s:=s) (by rw[Ο];rcases qS with⟨_,_,_,_,_,_,rfl,_⟩|⟨_,_,_,_,_,rfl,_⟩<;>simp)
 have Gv:=L1 tok i s t'
 have sc:∀r,r≠s->(λj=>bY tok i s t' j r)=λj=>tok j r:=λr μ=>Gs tok i s t' μ
 have zd:∀j r,r≠s->bY tok i s t' j r=tok j r:=λj r μ=>congrFun (sc r μ) j
 have same:∀j,j≠i->∀r,bY tok i s t' j r=tok j r:=λj ε r=>eM _ λx=>ε x.1
 have B3:∀j r k m g,bY tok i s t' j r=.ch k m g->∃dz cP,tok j r=.ch k dz cP:=λj r k m g ε=>by
  by_cases e:j=i/\r=s
  ·obtain⟨rfl,rfl⟩:=e;rw[e1] at ε;rcases qS with⟨_,_,_,_,_,_,_,γ,_⟩|⟨ev,dz,cP,eN,Τ,J,γ⟩
   ·rw[γ] at ε;cases ε
   ·rw[γ] at ε;cases ε;exact⟨dz,cP,by rw[Ο,J]⟩
  ·rw[eM _ e] at ε;exact⟨m,g,ε⟩
 have TN:∀j r k m g,tok j r=.ch k m g->∃dz cP,bY tok i s t' j r=.ch k dz cP:=λj r k m g ε=>by
  by_cases e:j=i/\r=s
  ·obtain⟨rfl,rfl⟩:=e;rw[e1];rw[Ο] at ε;rcases qS with⟨_,_,_,_,_,_,J,_,_⟩|⟨ev,dz,cP,eN,Τ,J,γ⟩
   ·rw[J] at ε;cases ε
   ·rw[J] at ε;cases ε;exact⟨eN,Τ,γ⟩
  ·rw[eM _ e];exact⟨m,g,ε⟩
 have L2:∀j r m p aE,bY tok i s t' j r=.par m p aE->∃dz fs ze,tok j r=.par dz fs ze/\∀k,k+fs<dz->k+p<m:=λj r m p aE ε=>by
  by_cases e:j=i/\r=s
  ·obtain⟨rfl,rfl⟩:=e;rw[e1] at ε;rcases qS with⟨_,_,_,_,_,_,J,γ,π⟩|⟨ev,dz,cP,eN,Τ,J,γ⟩
   ·rw[γ] at ε;cases ε;exact⟨_,_,_,by rw[Ο,J],π⟩
   ·rw[γ] at ε;cases ε
  ·rw[eM _ e] at ε;exact⟨m,p,aE,ε,λ_ x=>x⟩
 have g1:∀r q,upd O s (some o') r=some q->(r=s/\q=o')\/(r≠s/\O r=some q):=λr q Ρ=>by
  by_cases e:r=s
  ·subst e;rw[upd_same] at Ρ;cases Ρ;exact .inl ⟨rfl,rfl⟩
  ·rw[upd_ne _ _ e] at Ρ;exact .inr ⟨e,Ρ⟩
 refine⟨λr q Ρ=>?_,λr μ j=>?_,λj r ε=>?_,λj r sp ε=>?_,λj r φ q ε=>?_,λj r k L g q Ρ ε=>?_,λj r m p aE ε=>?_,λj r k m g ε=>?_,λj ag ε=>?_,lD,Gu,TM,λj r k m g q Ρ ε Υ=>?_,λr j bH k m g b0 g' J γ=>?_,λr j k m g q p aE J γ=>?_,λr q Ρ=>?_,λr q Ρ=>?_⟩
 ·rcases g1 r q Ρ with⟨rfl,rfl⟩|⟨e,b9⟩
  ·rw[Gv];exact Η
  ·rw[sc r e];exact h.bg r q b9
 ·by_cases e:r=s
  ·subst e;rw[upd_same] at μ;cases μ
  ·rw[upd_ne _ _ e] at μ;rw[zd j r e];exact h.bare r μ j
 ·rw[same j (by omega) r];exact h.out j r ε
 ·obtain⟨q,J,γ⟩:=h.qR j r sp ε;by_cases e:r=s
  ·subst e;rw[ο] at J;cases J;exact⟨o',upd_same ..,by rw[bU];exact γ⟩
  ·exact⟨q,by rw[upd_ne _ _ e];exact J,γ⟩
 ·have old:∀φ q,view j r=some (φ,q)->∃du,upd O s (some o') r=some du/\et n du (λa=>bY tok i s t' a r)<=φ/\(et n du (λa=>bY tok i s t' a r)=φ->du=q):=λφ q hv=>by
   obtain⟨du,J,γ,π⟩:=h.vk j r φ q hv;by_cases e:r=s
   ·subst e;rw[ο] at J;cases J;rw[upd_same,Gv];exact⟨o',rfl,by omega,λx=>by omega⟩
   ·rw[upd_ne _ _ e,sc r e];exact⟨du,J,γ,π⟩
  by_cases e:j=i
  ·subst e;rw[upd_same] at ε;rcases oV r φ q ε with⟨rfl,rfl,rfl⟩|⟨μ,hv⟩
   ·rw[upd_same,Gv];exact⟨_,rfl,Nat.le_refl _,λ_=>rfl⟩
   ·exact old φ q hv
  ·rw[upd_ne _ _ e] at ε;exact old φ q ε
 ·rcases g1 r q Ρ with⟨rfl,rfl⟩|⟨e,b9⟩
  ·exact gr j k L g ε
  ·rw[zd j r e] at ε;exact h.dc j r k L g q b9 ε
 ·obtain⟨dz,fs,ze,J,_⟩:=L2 j r m p aE ε;exact h.par j r dz fs ze J
 ·obtain⟨dz,cP,J⟩:=B3 j r k m g ε;exact h.oS j r k dz cP J
 ·obtain⟨k,m,g,J⟩:=h.sb j ag ε;obtain⟨eN,Τ,γ⟩:=TN j _ k m g J;exact⟨k,eN,Τ,γ⟩
 ·rcases g1 r q Ρ with⟨rfl,rfl⟩|⟨e,b9⟩
  ·exact B2 j k m g ε Υ
  ·rw[zd j r e] at ε;exact h.oU j r k m g q b9 ε Υ
 ·obtain⟨a,b,π⟩:=B3 j r k m g J;obtain⟨b1,Χ,Μ⟩:=B3 bH r k b0 g' γ;exact h.vl r j bH k a b b1 Χ π Μ
 ·obtain⟨a,b,π⟩:=B3 j r k m g J;obtain⟨dz,fs,ze,Μ,aA⟩:=L2 _ r q p aE γ;exact aA k (h.tA r j k a b dz fs ze π Μ)
 ·rcases g1 r q Ρ with⟨rfl,rfl⟩|⟨e,b9⟩
  ·exact aC
  ·simp only[λj=>zd j r e];exact h.ft r q b9
 ·rcases g1 r q Ρ with⟨rfl,rfl⟩|⟨e,b9⟩
  ·exact bb
  ·simp only[λj=>zd j r e];exact h.gf r q b9
theorem TO {o o':aN} {t t':Tok} (h:Act o t o' t'):Alike t t':=by
 cases h
 case add=>exact .inl ⟨_,_,_,_,_,_,rfl,rfl,λk χ=>by omega⟩
 case thru|LD|wake=>exact .inl ⟨_,_,_,_,_,_,rfl,rfl,λk χ=>χ⟩
 all_goals exact .inr ⟨_,_,_,_,_,rfl,rfl⟩
theorem L3 {o o':aN} {t t':Tok} (h:Act o t o' t'):o'.toSpec=o.toSpec/\o'.L=o.L/\o'.Ω=o.Ω:=by
 cases h<;>exact⟨rfl,rfl,rfl⟩
theorem L4 {o o':aN} {t t':Tok} (h:Act o t o' t'):(∀k m g,t'=.ch k m g->∃dz cP,t=.ch k dz cP/\(oR m↔oR dz)/\(g=.work↔cP=.work)/\(cP≠.work->m=dz)/\∀L,m=.dc L->dz=.dc L)/\(∀k m g,t=.ch k m g->∃eN Τ,t'=.ch k eN Τ/\(oR eN↔oR m)/\(Τ=.work↔g=.work))/\¬fU t:=by
 refine⟨λk m g e=>?_,λk m g e=>?_,?_⟩
 ·cases h<;>cases e<;>exact⟨_,_,rfl,by simp[oR],by simp,by simp,by simp⟩
 ·cases h<;>cases e<;>exact⟨_,_,rfl,by simp[oR],by simp⟩
 ·cases h<;>simp[fU]
theorem eD.act (h:eD n tok spec view rel O bx home) {s i:Nat} {o o':aN} {t t':Tok} (ο:O s=some o) (Ο:tok i s=t) (ξ:Act o t o' t') :
  eD n (bY tok i s t') spec (upd view i (upd (view i) s (some (et n o' (upd (λj=>tok j s) i t'),o')))) rel (upd O s (some o')) bx home:=by
 obtain⟨hw,vm,L5⟩:=L4 ξ;have br:i<n:=h.lt (s:=s) (by rw[Ο];rintro rfl;exact L5 trivial);obtain⟨xf,B4,Gw⟩:=L3 ξ;have zf:∀j r k m g,bY tok i s t' j r=.ch k m g->∃dz cP,tok j r=.ch k dz cP/\(oR m↔oR dz)/\(g=.work↔cP=.work)/\(cP≠.work->m=dz)/\∀L,m=.dc L->dz=.dc L:=λj r k m g ε=>by
  by_cases e:j=i/\r=s
  ·obtain⟨rfl,rfl⟩:=e;rw[e1] at ε;obtain⟨dz,cP,Ζ,Ε⟩:=hw k m g ε;exact⟨dz,cP,by rw[Ο,Ζ],Ε⟩
  ·rw[eM _ e] at ε;exact⟨m,g,ε,.rfl,.rfl,λ_=>rfl,λ_ x=>x⟩
 have is:∀j k m g,tok j s=.ch k m g->∃eN Τ,bY tok i s t' j s=.ch k eN Τ/\(oR eN↔oR m)/\(Τ=.work↔g=.work):=λj k m g ε=>by
  by_cases e:j=i/\s=s
  ·obtain⟨rfl,_⟩:=e;rw[e1];rw[Ο] at ε;exact vm k m g ε
  ·rw[eM _ e];exact⟨m,g,ε,.rfl,.rfl⟩
 refine h.change ο Ο (TO ξ) (⟨Tp (h.bg s o ο).1 br Ο ξ,Tt (h.bg s o ο).2 br Ο ξ⟩) (LG br Ο ξ) xf (λr φ q hv=>?_) (λj k L g ε=>?_) (λj k m g ag ε=>?_) h.tz (λj r ε μ=>?_) (λj k m g ε Υ=>?_) ?_ ?_
 ·by_cases e:r=s
  ·subst e;rw[upd_same] at hv;cases hv;exact .inl ⟨rfl,rfl,rfl⟩
  ·rw[upd_ne _ _ e] at hv;exact .inr ⟨e,hv⟩
 ·obtain⟨dz,cP,Ζ,_,_,_,Ε⟩:=zf j s k _ g ε;rw[B4];exact h.dc j s k L cP o ο (by rw[Ζ,Ε L rfl])
 ·obtain⟨dz,cP,Ζ,_,Ε,_⟩:=zf j _ k m g ε;rw[h.g0 j k dz cP ag Ζ];exact not_congr Ε.symm
 ·by_cases e:j=i/\r=s
  ·obtain⟨rfl,rfl⟩:=e;have:=h.oT j r ε μ;rw[Ο] at this;exact absurd this L5
  ·rw[eM _ e];exact h.oT j r ε μ
 ·obtain⟨dz,cP,Ζ,_,Ε,aY,_⟩:=zf j s k m g ε;have zg:cP≠.work:=λx=>Υ (Ε.2 x);rw[aY zg];have:=h.oU j s k dz cP o ο Ζ zg;rw[show o'.aT=o.aT by rw[xf]];exact this
 ·obtain⟨a,b⟩:=h.ft s o ο;rw[B4];refine⟨a,λk=>(b k).trans ⟨λ⟨j,m,g,Ζ,Ε⟩=>?_,λ⟨j,m,g,Ζ,Ε⟩=>?_⟩⟩
  ·obtain⟨eN,Τ,aY,cy,_⟩:=is j k m g Ζ;exact⟨j,eN,Τ,aY,cy.2 Ε⟩
  ·obtain⟨dz,cP,aY,cy,_⟩:=zf j s k m g Ζ;exact⟨j,dz,cP,aY,cy.1 Ε⟩
 ·obtain⟨a,b⟩:=h.gf s o ο;rw[Gw];refine⟨a,λk=>(b k).trans ⟨λ⟨j,m,g,Ζ,Ε⟩=>?_,λ⟨j,m,g,Ζ,Ε⟩=>?_⟩⟩
  ·obtain⟨eN,Τ,aY,_,cy⟩:=is j k m g Ζ;exact⟨j,eN,Τ,aY,λx=>Ε (cy.1 x)⟩
  ·obtain⟨dz,cP,aY,_,cy,_⟩:=zf j s k m g Ζ;exact⟨j,dz,cP,aY,λx=>Ε (cy.2 x)⟩
theorem eD.look (h:eD n tok spec view rel O bx home) {s i:Nat} {o:aN} (ο:O s=some o):eD n tok spec (upd view i (upd (view i) s (some (et n o (λj=>tok j s),o)))) rel O bx home:=
 have key:∀j r φ q,upd view i (upd (view i) s (some (et n o (λj=>tok j s),o))) j r=some (φ,q)->∃du,O r=some du/\et n du (λj=>tok j r)<=φ/\(et n du (λj=>tok j r)=φ->du=q):=λj r φ q ε=>by
  by_cases e:j=i
  ·subst e;rw[upd_same] at ε;by_cases aJ:r=s
   ·subst aJ;rw[upd_same] at ε;cases ε;exact⟨o,ο,Nat.le_refl _,λ_=>rfl⟩
   ·rw[upd_ne _ _ aJ] at ε;exact h.vk j r φ q ε
  ·rw[upd_ne _ _ e] at ε;exact h.vk j r φ q ε
 {h with vk:=key}
theorem B5 {s i:Nat} {r φ:Nat} {q:aN} {o':aN} {z:Nat} (hv:upd (view i) s none r=some (φ,q)):(r=s/\φ=z/\q=o')\/(r≠s/\view i r=some (φ,q)):=by
 by_cases e:r=s
 ·subst e;rw[upd_same] at hv;cases hv
 ·rw[upd_ne _ _ e] at hv;exact .inr ⟨e,hv⟩
theorem TP {l:List Nat} {k:Nat} (h:l.Nodup) (χ:k∉l):(l++[k]).Nodup:=by
 rw[List.nodup_append];exact⟨h,by simp,λa ξ b hb=>by simp at hb;subst hb;rintro rfl;exact χ ξ⟩
theorem eD.Ga (h:eD n tok spec view rel O bx home) {s i k:Nat} {o:aN} (ο:O s=some o) (Ο:tok i s=.ch k .own .work) :
  eD n (bY tok i s (.ch k (.dc o.L) .work)) spec (upd view i (upd (view i) s none)) rel (upd O s (some o)) bx home:=by
 have br:i<n:=h.lt (s:=s) (by rw[Ο];simp)
 have hw:pH o (.ch k .own .work) o (.ch k (.dc o.L) .work):=.Ga
 have g2:∀j,j≠i->∀r,bY tok i s (.ch k (.dc o.L) .work) j r=tok j r:=λj ε r=>eM _ λx=>ε x.1
 have ζ:=h.oS i s k _ _ Ο;refine h.change ο Ο (.inr ⟨_,_,_,_,_,rfl,rfl⟩) ⟨BS (h.bg s o ο).1 br Ο hw,BT (h.bg s o ο).2 br Ο hw⟩ (BR br Ο hw) rfl (λr φ q hv=>B5 hv) (λj ab L g ε=>?_) (λj ab m g ag ε=>?_) h.tz (λj r ε μ=>?_) (λj ab m g ε Υ=>?_) ?_ ?_
 ·by_cases e:j=i
  ·subst e;rw[e1] at ε;cases ε;rfl
  ·rw[g2 j e] at ε;exact h.dc j s ab L g o ο ε
 ·by_cases e:j=i
  ·subst e;have aJ:home j=s:=ζ.2.1;rw[aJ,e1] at ε;cases ε;exact h.g0 j k .own .work ag (by rw[aJ];exact Ο)
  ·rw[g2 j e] at ε;exact h.g0 j ab m g ag ε
 ·by_cases e:j=i
  ·subst e;have aJ:home j=s:=ζ.2.1;rw[eM _ (λx=>μ (by rw[x.2,aJ]))];exact h.oT j r ε μ
  ·rw[g2 j e];exact h.oT j r ε μ
 ·by_cases e:j=i
  ·subst e;rw[e1] at ε;cases ε;exact absurd rfl Υ
  ·rw[g2 j e] at ε;exact h.oU j s ab m g o ο ε Υ
 ·obtain⟨a,b⟩:=h.ft s o ο;refine⟨a,λab=>(b ab).trans ⟨λ⟨j,m,g,Ζ,Ε⟩=>?_,λ⟨j,m,g,Ζ,Ε⟩=>?_⟩⟩
  ·by_cases e:j=i
   ·subst e;rw[Ο] at Ζ;cases Ζ;exact Ε.elim
   ·exact⟨j,m,g,by rw[g2 j e];exact Ζ,Ε⟩
  ·by_cases e:j=i
   ·subst e;rw[e1] at Ζ;cases Ζ;exact Ε.elim
   ·exact⟨j,m,g,by rw[g2 j e] at Ζ;exact Ζ,Ε⟩
 ·obtain⟨a,b⟩:=h.gf s o ο;refine⟨a,λab=>(b ab).trans ⟨λ⟨j,m,g,Ζ,Ε⟩=>?_,λ⟨j,m,g,Ζ,Ε⟩=>?_⟩⟩
  ·by_cases e:j=i
   ·subst e;rw[Ο] at Ζ;cases Ζ;exact absurd rfl Ε
   ·exact⟨j,m,g,by rw[g2 j e];exact Ζ,Ε⟩
  ·by_cases e:j=i
   ·subst e;rw[e1] at Ζ;cases Ζ;exact absurd rfl Ε
   ·exact⟨j,m,g,by rw[g2 j e] at Ζ;exact Ζ,Ε⟩
theorem eD.TQ (h:eD n tok spec view rel O bx home) {s i k:Nat} {L:List Nat} {o:aN} (ο:O s=some o) (Ο:tok i s=.ch k (.dc L) .work) :
  eD n (bY tok i s (.ch k .fin .work)) spec (upd view i (upd (view i) s none)) rel (upd O s (some {o with L:=o.L++[k]})) bx home:=by
 have br:i<n:=h.lt (s:=s) (by rw[Ο];simp)
 have hw:pH o (.ch k (.dc L) .work) {o with L:=o.L++[k]} (.ch k .fin .work):=.Tn
 have g2:∀j,j≠i->∀r,bY tok i s (.ch k .fin .work) j r=tok j r:=λj ε r=>eM _ λx=>ε x.1
 have ζ:=h.oS i s k _ _ Ο
 have only:∀j ab js g,tok j s=.ch ab (.dc js) g->j=i:=λj ab js g ε=>by
  apply Classical.byContradiction;intro bz;have eO:j<n:=h.lt (s:=s) (by rw[ε];simp);have Ζ:=gq (λa=>tok a s) .nil h4 br;have Ε:=fh (upd (λa=>tok a s) i .nil) h4 eO;rw[upd_ne _ _ bz] at Ε;simp only[Ο,ε,h4,yY] at Ζ Ε;have:=(h.bg s o ο).1.LA;have:=(h.bg s o ο).1.f1;omega
 have L6:k∉o.L:=λχ=>by
  obtain⟨j,m,g,Ζ,Ε⟩:=((h.ft s o ο).2 k).1 χ;have:=h.vl s j i k m g _ _ Ζ Ο;subst this;rw[Ο] at Ζ;cases Ζ;exact Ε
 refine h.change ο Ο (.inr ⟨_,_,_,_,_,rfl,rfl⟩) ⟨BS (h.bg s o ο).1 br Ο hw,BT (h.bg s o ο).2 br Ο hw⟩ (BR br Ο hw) rfl (λr φ q hv=>B5 hv) (λj ab js g ε=>?_) (λj ab m g ag ε=>?_) h.tz (λj r ε μ=>?_) (λj ab m g ε Υ=>?_) ?_ ?_
 ·by_cases e:j=i
  ·subst e;rw[e1] at ε;cases ε
  ·rw[g2 j e] at ε;exact absurd (only j ab js g ε) e
 ·by_cases e:j=i
  ·subst e;have aJ:home j=s:=ζ.2.1;rw[aJ,e1] at ε;cases ε;exact h.g0 j k (.dc L) .work ag (by rw[aJ];exact Ο)
  ·rw[g2 j e] at ε;exact h.g0 j ab m g ag ε
 ·by_cases e:j=i
  ·subst e;have aJ:home j=s:=ζ.2.1;rw[eM _ (λx=>μ (by rw[x.2,aJ]))];exact h.oT j r ε μ
  ·rw[g2 j e];exact h.oT j r ε μ
 ·by_cases e:j=i
  ·subst e;rw[e1] at ε;cases ε;exact absurd rfl Υ
  ·rw[g2 j e] at ε;exact h.oU j s ab m g o ο ε Υ
 ·obtain⟨a,b⟩:=h.ft s o ο;refine⟨TP a L6,λab=>?_⟩;rw[List.mem_append,List.mem_singleton];constructor
  ·rintro(χ|rfl)
   ·obtain⟨j,m,g,Ζ,Ε⟩:=(b ab).1 χ;have e:j≠i:=by rintro rfl;rw[Ο] at Ζ;cases Ζ;exact Ε
    exact⟨j,m,g,by rw[g2 j e];exact Ζ,Ε⟩
   ·exact⟨i,.fin,.work,e1 ..,trivial⟩
  ·rintro⟨j,m,g,Ζ,Ε⟩;by_cases e:j=i
   ·subst e;rw[e1] at Ζ;cases Ζ;exact .inr rfl
   ·rw[g2 j e] at Ζ;exact .inl ((b ab).2 ⟨j,m,g,Ζ,Ε⟩)
 ·obtain⟨a,b⟩:=h.gf s o ο;refine⟨a,λab=>(b ab).trans ⟨λ⟨j,m,g,Ζ,Ε⟩=>?_,λ⟨j,m,g,Ζ,Ε⟩=>?_⟩⟩
  ·by_cases e:j=i
   ·subst e;rw[Ο] at Ζ;cases Ζ;exact absurd rfl Ε
   ·exact⟨j,m,g,by rw[g2 j e];exact Ζ,Ε⟩
  ·by_cases e:j=i
   ·subst e;rw[e1] at Ζ;cases Ζ;exact absurd rfl Ε
   ·exact⟨j,m,g,by rw[g2 j e] at Ζ;exact Ζ,Ε⟩
theorem eD.TR (h:eD n tok spec view rel O bx home) {s i k:Nat} {mu:lr} {o:aN} (ο:O s=some o) (Ο:tok i s=.ch k mu .work) (tB:mu=.done\/(mu=.idle/\o.aT=none)) (cH:∀r,r≠s->fU (tok i r)) :
  eD n (bY tok i s (.ch k mu .rel)) spec (upd view i (upd (view i) s none)) (upd rel i true) (upd O s (some {o with Ω:=k::o.Ω})) bx home:=by
 have br:i<n:=h.lt (s:=s) (by rw[Ο];simp)
 have hw:pH o (.ch k mu .work) {o with Ω:=k::o.Ω} (.ch k mu .rel):=.To tB
 have g2:∀j,j≠i->∀r,bY tok i s (.ch k mu .rel) j r=tok j r:=λj ε r=>eM _ λx=>ε x.1
 have ζ:=h.oS i s k _ _ Ο
 have TS:k∉o.Ω:=λχ=>by
  obtain⟨j,m,g,Ζ,Ε⟩:=((h.gf s o ο).2 k).1 χ;have:=h.vl s j i k m g _ _ Ζ Ο;subst this;rw[Ο] at Ζ;cases Ζ;exact Ε rfl
 refine h.change ο Ο (.inr ⟨_,_,_,_,_,rfl,rfl⟩) ⟨BS (h.bg s o ο).1 br Ο hw,BT (h.bg s o ο).2 br Ο hw⟩ (BR br Ο hw) rfl (λr φ q hv=>B5 hv) (λj ab js g ε=>?_) (λj ab m g ag ε=>?_) (by rw[upd_ne _ _ (Ne.symm ζ.1)];exact h.tz) (λj r ε μ=>?_) (λj ab m g ε Υ=>?_) ?_ ?_
 ·by_cases e:j=i
  ·subst e;rw[e1] at ε;rcases tB with rfl|⟨rfl,_⟩<;>cases ε
  ·rw[g2 j e] at ε;exact h.dc j s ab js g o ο ε
 ·by_cases e:j=i
  ·subst e;have aJ:home j=s:=ζ.2.1;rw[aJ,e1] at ε;cases ε;rw[upd_same];simp
  ·rw[g2 j e] at ε;rw[upd_ne _ _ e];exact h.g0 j ab m g ag ε
 ·by_cases e:j=i
  ·subst e;have aJ:home j=s:=ζ.2.1;have jX:r≠s:=λx=>μ (by rw[x,aJ]);rw[eM _ (λx=>jX x.2)];exact cH r jX
  ·rw[g2 j e];rw[upd_ne _ _ e] at ε;exact h.oT j r ε μ
 ·by_cases e:j=i
  ·subst e;rw[e1] at ε;cases ε;exact tB
  ·rw[g2 j e] at ε;exact h.oU j s ab m g o ο ε Υ
 ·obtain⟨a,b⟩:=h.ft s o ο;refine⟨a,λab=>(b ab).trans ⟨λ⟨j,m,g,Ζ,Ε⟩=>?_,λ⟨j,m,g,Ζ,Ε⟩=>?_⟩⟩
  ·by_cases e:j=i
   ·subst e;rw[Ο] at Ζ;cases Ζ;exact⟨j,mu,.rel,e1 ..,Ε⟩
   ·exact⟨j,m,g,by rw[g2 j e];exact Ζ,Ε⟩
  ·by_cases e:j=i
   ·subst e;rw[e1] at Ζ;cases Ζ;exact⟨j,mu,.work,Ο,Ε⟩
   ·exact⟨j,m,g,by rw[g2 j e] at Ζ;exact Ζ,Ε⟩
 ·obtain⟨a,b⟩:=h.gf s o ο;refine⟨List.nodup_cons.2 ⟨TS,a⟩,λab=>?_⟩;rw[List.mem_cons];constructor
  ·rintro(rfl|χ)
   ·exact⟨i,mu,.rel,e1 ..,by simp⟩
   ·obtain⟨j,m,g,Ζ,Ε⟩:=(b ab).1 χ;have e:j≠i:=by rintro rfl;rw[Ο] at Ζ;cases Ζ;exact Ε rfl
    exact⟨j,m,g,by rw[g2 j e];exact Ζ,Ε⟩
  ·rintro⟨j,m,g,Ζ,Ε⟩;by_cases e:j=i
   ·subst e;rw[e1] at Ζ;cases Ζ;exact .inl rfl
   ·rw[g2 j e] at Ζ;exact .inr ((b ab).2 ⟨j,m,g,Ζ,Ε⟩)
theorem eD.gtake (h:eD n tok spec view rel O bx home) {s i q:Nat} {aE:r7} {o:aN} (ο:O s=some o) (Ο:tok i s=.par q 0 aE) (mf:aE=.l'\/aE=.w4) :
  eD n (bY tok i s (.par q 0 .bA)) spec (upd view i (upd (view i) s none)) rel (upd O s (some o)) bx home:=by
 have br:i<n:=h.lt (s:=s) (by rw[Ο];simp)
 have hw:pH o (.par q 0 aE) o (.par q 0 .bA):=.gtake mf
 have g2:∀j,j≠i->∀r,bY tok i s (.par q 0 .bA) j r=tok j r:=λj ε r=>eM _ λx=>ε x.1
 have cs:∀j r k m g,bY tok i s (.par q 0 .bA) j r=.ch k m g↔tok j r=.ch k m g:=λj r k m g=>by
  by_cases e:j=i/\r=s
  ·obtain⟨rfl,rfl⟩:=e;rw[e1,Ο];simp
  ·rw[eM _ e]
 refine h.change ο Ο (.inl ⟨_,_,_,_,_,_,rfl,rfl,λk χ=>χ⟩) ⟨BS (h.bg s o ο).1 br Ο hw,BT (h.bg s o ο).2 br Ο hw⟩ (BR br Ο hw) rfl (λr φ q hv=>B5 hv) (λj ab js g ε=>?_) (λj ab m g ag ε=>?_) h.tz (λj r ε μ=>?_) (λj ab m g ε Υ=>?_) ?_ ?_
 ·rw[cs] at ε;exact h.dc j s ab js g o ο ε
 ·rw[cs] at ε;exact h.g0 j ab m g ag ε
 ·by_cases e:j=i/\r=s
  ·obtain⟨rfl,rfl⟩:=e;rw[e1];trivial
  ·rw[eM _ e];exact h.oT j r ε μ
 ·rw[cs] at ε;exact h.oU j s ab m g o ο ε Υ
 ·simp only[cs];exact h.ft s o ο
 ·simp only[cs];exact h.gf s o ο
end
end Go.TL
