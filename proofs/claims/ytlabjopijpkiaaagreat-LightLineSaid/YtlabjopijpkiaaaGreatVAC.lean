import Derived.Test.YtlabjopijpkiaaaGreatVAA
import Derived.Test.YtlabjopijpkiaaaGreatVAB
set_option maxHeartbeats 16000000
set_option maxRecDepth 20000
set_option linter.unusedSectionVars false
set_option linter.unusedSimpArgs false
set_option linter.unusedVariables false
namespace Go.TL
open Go.Conc
open Go.ConcN (sumTo upd sumTo_upd upd_ne upd_same sumTo_congr le_sumTo)
section
variable {N i:Nat} {o o':aS} {τ:Nat->Tok} {t t':Tok}
theorem Kz (o':aS) (ω:o'.top=o.top) (hi:i<N) (Ν:τ i=t) (h:mo o.top t'+9*o'.dd+2*o'.cO<mo o.top t+9*o.dd+2*o.cO):eK N o' (upd τ i t')<eK N o τ:=by
 have e:=gI τ t' (mo o.top) hi;rw[Ν] at e;unfold eK;rw[ω];omega
theorem KA (hi:i<N) (Ν:τ i=t) (κ:Act o t o' t'):eK N o' (upd τ i t')<eK N o τ:=by
 cases κ<;>refine Kz _ rfl hi Ν ?_
 case acq aw _ _=>cases aw<;>simp[mo,u1]
 case queue aw _ _ _=>cases aw<;>simp[mo,u1]
 case take=>simp[mo,u1];omega
 case add=>simp[mo];omega
 case wake=>simp[mo,wX];omega
 all_goals (simp[mo,u1,BI,wX]<;>omega)
theorem BL (hi:i<N) (Ν:τ i=t) (κ:py o t o' t'):eK N o' (upd τ i t')<eK N o τ:=by
 cases κ<;>refine Kz _ rfl hi Ν ?_
 case gtake aL ψ=>rcases ψ with rfl|rfl<;>simp[mo,wX]
 all_goals (simp[mo,u1,BI,wX]<;>omega)
theorem FK {φ:Tok->Nat} (hi:i<N) (h:φ t'=φ (τ i)):a8 N (upd τ i t') φ=a8 N τ φ:=by
 have:=gI τ t' φ hi;omega
theorem BM (h:px N o τ) (hi:i<N) (Ν:τ i=t) (κ:py o t o' t'):px N o' (upd τ i t'):=by
 unfold px at h ⊢;cases κ<;>
 (repeat rw[FK hi (by rw[Ν];rfl)])<;>exact h
theorem BN (h:oC N o τ) (hi:i<N) (Ν:τ i=t) (κ:py o t o' t'):oC N o' (upd τ i t'):=by
 unfold oC at h ⊢;cases κ
 case gtake aL ψ=>rcases ψ with rfl|rfl<;>(repeat rw[FK hi (by rw[Ν];rfl)])<;>exact h
 all_goals (repeat rw[FK hi (by rw[Ν];rfl)])<;>exact h
theorem u6 (N:Nat) (τ:Nat->Tok) (φ:Tok->Nat):a8 (N+1) τ φ=a8 N τ φ+φ (τ N):=rfl
theorem KB {φ:Tok->Nat} (eD:φ .nil=0) (h:τ N=.nil):a8 (N+1) τ φ=a8 N τ φ:=by rw[u6,h,eD];rfl
theorem KC (h:tn N o τ) (Ζ:τ N=.nil):tn (N+1) o τ:=by
 unfold tn px oC at h ⊢
 repeat rw[KB (by rfl) Ζ]
 exact h
theorem KD (Ζ:τ N=.nil):eK (N+1) o τ=eK N o τ:=by
 unfold eK;rw[KB (by rfl) Ζ]
theorem RV {j n p:Nat} (h:tn N o τ) (hi:i<N) (ε:j<N) (fU:i≠j) (Ν:τ i=.par n (p+1) .add) (Ζ:τ j=.nil) (k:Nat) :
  tn N o (upd (upd τ i (.par n p .add)) j (.ch k .idle .work)):=by
 have aH:upd τ i (.par n p .add) j=.nil:=by rw[upd_ne _ _ (Ne.symm fU)];exact Ζ
 have key:∀φ:Tok->Nat,a8 N (upd (upd τ i (.par n p .add)) j (.ch k .idle .work)) φ+φ .nil+φ (.par n (p+1) .add)=a8 N τ φ+φ (.par n p .add)+φ (.ch k .idle .work):=λφ=>by
  have Δ:=gI τ (.par n p .add) φ hi
  have Γ:=gI (upd τ i (.par n p .add)) (.ch k .idle .work) φ ε;rw[Ν] at Δ;rw[aH] at Γ;omega
 obtain⟨eo,da⟩:=h;constructor
 ·unfold px at eo ⊢;have f1:=key iy;have f2:=key nX;have f3:=key ml;have f4:=key lH;have f5:=key nh;have f6:=key lI;have f7:=key qK;have f8:=key nY;have f9:=key qJ;simp only[iy,nX,ml,lH,nh,lI,qK,nY,qJ,yR,BF,uX,yS,BG,yT,FD,BH,FC,Nat.add_zero] at f1 f2 f3 f4 f5 f6 f7 f8 f9;rw[f1,f2,f3,f4,f5,f6,f7,f8,f9];exact eo
 ·unfold oC at da ⊢;have f1:=key jr;have f2:=key kg;have f3:=key kh;have f4:=key lJ;have f5:=key eX;have f6:=key hr;have f7:=key iz;have f8:=key mm;have f9:=key lK;have f10:=key iA;simp only[jr,kg,kh,lJ,eX,hr,iz,mm,lK,iA,rY,uY,uZ,Nat.add_zero] at f1 f2 f3 f4 f5 f6 f7 f8 f9 f10;obtain⟨gv,tp,yX,yY,FJ,RQ,RR,RS,RU⟩:=da;constructor<;>omega
theorem RX {j n p:Nat} (hi:i<N) (ε:j<N) (fU:i≠j) (Ν:τ i=.par n (p+1) .add) (Ζ:τ j=.nil) (k:Nat) :
  eK N o (upd (upd τ i (.par n p .add)) j (.ch k .idle .work))<eK N o τ:=by
 have aH:upd τ i (.par n p .add) j=.nil:=by rw[upd_ne _ _ (Ne.symm fU)];exact Ζ
 have Δ:=gI τ (.par n p .add) (mo o.top) hi
 have Γ:=gI (upd τ i (.par n p .add)) (.ch k .idle .work) (mo o.top) ε;rw[Ν] at Δ;rw[aH] at Γ;simp only[mo,u1,BI,wX] at Δ Γ;unfold eK;omega
theorem BO {φ:Tok->Nat} (h:0<a8 N τ φ):∃i,i<N/\0<φ (τ i):=by
 have h7:∀n,0<a8 n τ φ->∃i,i<n/\0<φ (τ i):=λn=>by
  induction n with
  | zero=>intro h;cases h
  | succ n Β=>
   intro h;rw[u6] at h;by_cases aj:0<φ (τ n)
   ·exact⟨n,R,aj⟩
   ·obtain⟨i,hi,ψ⟩:=Β R;exact⟨i,R,ψ⟩
 exact h7 N h
def oE:Tok->Prop
 | .ch _ .own _|.ch _ (.dr _) _|.ch _ .fin _|.ch _ .us _|.ch _ .wk _|.ch _ .hw _|.ch _ (.act true) _|.ch _ .uc _=>True
 | _=>False
theorem RY (h:px N o τ) (Φ:0<a8 N τ lH) (aj:o.dd=0):∃i,i<N/\oE (τ i):=by
 have pick:∀{φ:Tok->Nat},(∀t,0<φ t->oE t)->0<a8 N τ φ->∃i,i<N/\oE (τ i):=λeD ψ=>let ⟨i,hi,γ⟩:=BO ψ;⟨i,hi,eD _ γ⟩
 have RZ:∀t,0<iy t->oE t:=λt Ν=>by cases t<;>simp_all [iy,oE];rename_i m _;cases m<;>simp_all [yR]
 have BP:∀t,0<nX t->oE t:=λt Ν=>by cases t<;>simp_all [nX,oE];rename_i m _;cases m<;>simp_all [BF]
 have BQ:∀t,0<ml t->oE t:=λt Ν=>by cases t<;>simp_all [ml,oE];rename_i m _;cases m<;>simp_all [uX];rename_i b;cases b<;>simp_all [uX]
 have R0:∀t,0<nY t->oE t:=λt Ν=>by cases t<;>simp_all [nY,oE];rename_i m _;cases m<;>simp_all [BH]
 obtain⟨f1,f2,f3,hT,mq,u4,tp,yX,yY⟩:=h;by_cases c1:0<a8 N τ iy
 ·exact pick RZ c1
 by_cases c2:0<a8 N τ nX
 ·exact pick BP c2
 by_cases c3:0<a8 N τ ml
 ·exact pick BQ c3
 by_cases c4:0<a8 N τ nY
 ·exact pick R0 c4
 exfalso;rcases(show o.sv=0\/o.sv=1 by omega) with ν|ν
 ·have:=mq ν;have:=tp ν;omega
 ·have:=u4 ν;omega
def qN:Tok->Prop
 | .ch _ _ .work|.ch _ _ .rel|.ch _ _ .l2|.ch _ _ .hS=>True
 | _=>False
theorem R1 (h:oC N o τ) {n p:Nat} (hi:i<N) (Ν:τ i=.par n p .w3) (aj:o.cO=0):∃j,j<N/\qN (τ j):=by
 have pick:∀{φ:Tok->Nat},(∀t,0<φ t->qN t)->0<a8 N τ φ->∃i,i<N/\qN (τ i):=λeD ψ=>let ⟨i,hi,γ⟩:=BO ψ;⟨i,hi,eD _ γ⟩
 have bw:∀t,0<jr t->qN t:=λt Ν=>by cases t<;>simp_all [jr,qN];rename_i m;cases m<;>simp_all [rY]
 have dm:∀t,0<kg t->qN t:=λt Ν=>by cases t<;>simp_all [kg,qN];rename_i m;cases m<;>simp_all [uY]
 have fJ:∀t,0<kh t->qN t:=λt Ν=>by cases t<;>simp_all [kh,qN];rename_i m;cases m<;>simp_all [uZ]
 have w:=pz (φ:=lK) (λt Ν=>by cases t<;>simp_all [eX,lK]) h.nZ hi (by rw[Ν];rfl);rw[Ν] at w;have:=h.Rs w;have:=h.FE;by_cases c1:0<a8 N τ jr
 ·exact pick bw c1
 by_cases c2:0<a8 N τ kg
 ·exact pick dm c2
 by_cases c3:0<a8 N τ kh
 ·exact pick fJ c3
 exfalso;omega
end
end Go.TL
namespace Go.TL
open Go.Conc
open Go.ConcM (OsLater)
open Go.ConcN (sumTo upd sumTo_upd upd_ne upd_same sumTo_congr le_sumTo)
open Go.ConcR (mk)
inductive gw (B:Type):Type where
 | leaf
 | node (f:B->gw B)
inductive ni {B:Type}:List (gw B)->List (gw B)->Prop where
 | one (a b:List (gw B)) (f:B->gw B) (k:B):ni (a++f k::b) (a++gw.node f::b)
 | two (a b:List (gw B)) (f:B->gw B) (k ag:B):ni (a++f k::f ag::b) (a++gw.node f::b)
theorem ni.cons_inv {B:Type} {l:List (gw B)} {t:gw B} {m:List (gw B)} (h:ni m (t::l)) :
  (∃b5,ni b5 l/\m=t::b5)\/(∃f k,t=.node f/\m=f k::l)\/(∃f k ag,t=.node f/\m=f k::f ag::l):=by
 generalize γ:t::l=x at h;cases h with
 | one a b f k=>
  cases a with
  | nil=>simp at γ;exact .inr (.inl ⟨f,k,γ.1,by rw[γ.2];rfl⟩)
  | cons y a=>simp at γ;exact .inl ⟨a++f k::b,by rw[γ.2];exact .one a b f k,by rw[γ.1];rfl⟩
 | two a b f k ag=>
  cases a with
  | nil=>simp at γ;exact .inr (.inr ⟨f,k,ag,γ.1,by rw[γ.2];rfl⟩)
  | cons y a=>simp at γ;exact .inl ⟨a++f k::f ag::b,by rw[γ.2];exact .two a b f k ag,by rw[γ.1];rfl⟩
theorem ni.R2 {B:Type} (t:gw B):∀l,Acc ni l->Acc ni (t::l):=by
 induction t with
 | leaf=>
  intro l ο
  induction ο with
  | intro l _ Β=>
   refine⟨_,λm hm=>?_⟩;rcases hm.cons_inv with⟨b5,J,rfl⟩|⟨f,k,h,_⟩|⟨f,k,ag,h,_⟩
   ·exact Β b5 J
   ·cases h
   ·cases h
 | node f FL=>
  intro l ο
  induction ο with
  | intro l rZ Β=>
   refine⟨_,λm hm=>?_⟩;rcases hm.cons_inv with⟨b5,J,rfl⟩|⟨f',k,h,rfl⟩|⟨f',k,ag,h,rfl⟩
   ·exact Β b5 J
   ·cases h;exact FL k l ⟨l,rZ⟩
   ·cases h;exact FL k _ (FL ag l ⟨l,rZ⟩)
theorem ni.wf {B:Type}:WellFounded (ni (B:=B)):=⟨λl=>by
 induction l with
 | nil=>exact⟨_,λm hm=>by
   generalize γ:([]:List (gw B))=x at hm;cases hm<;>simp at γ⟩
 | cons t l Β=>exact ni.R2 t l Β⟩
structure aZ where
 G:χ
 aM:Nat->Option (Array Value×TypeId)
 tok:Nat->Tok
 spec:Nat->Option Spec
 view:Nat->Option (Nat×aS)
 deaf:Nat
 rel:Bool
def yZ (V:Nat->Option (Array Value×TypeId)) (w:World):Prop:=∀b c t,V b=some (c,t)->w.heap[b]?=some (.cells c t (0,0))
def cW (o:aS):Int:=(o.cnt:Int)*4294967296+o.wt
def mwd (o:aS):Int:=(o.ck:Int)+2*o.wk+4*o.sv+8*o.nw
def At (s:Nat) (o:aS) (w:World):Prop:=
 (∃ty,w.heap[s]?=some (.cells #[.int .u64 (cW o),.int .u32 o.cO] ty (0,0)))/\∀m,o.aW=some m->∃ty,w.heap[m]?=some (.cells #[.int .i32 (mwd o),.int .u32 o.dd] ty (0,0))
def ew (s:Nat) (sp:Spec) (b:Nat):Prop:=b=s\/sp.aW=some b
def u7 (o:aS) (t:Tok):Prop:=∃N τ i,tn N o τ/\i<N/\τ i=t/\(∀k L g,t=.ch k (.dr L) g->o.L=L)
def FM (x:aZ) (s φ:Nat) (o:aS):Prop:=∀gS lM,x.view s=some (gS,lM)->φ<=gS/\(φ=gS->o=lM)
structure Sub (G' G:χ):Prop where
 aO:∀b o v p,G'.aO b o=some (v,p)->∃fK,G.aO b o=some (v,fK)/\(p=true->fK=true)
 row:∀b x,G'.row b=some x->G.row b=some x
 obj:∀b x,G'.obj b=some x->G.obj b=some x
structure Split (G nj nk:χ):Prop where
 l:Sub nj G
 r:Sub nk G
 apart:Apart nj nk
def join (G H:χ):χ:=
 ⟨λb o=>match G.aO b o with|some x=>some x|none=>H.aO b o,λb=>match G.row b with|some x=>some x|none=>H.row b,λb=>match G.obj b with|some x=>some x|none=>H.obj b⟩
def lN (D:Nat->χ->Prop):List Nat->χ->Prop
 | [],E=>E=χ.empty
 | k::KE,E=>∃pC pD,D k pC/\lN D KE pD/\Apart pC pD/\E=join pC pD
structure BR (G G':χ) (n:Nat):Prop where
 aO:∀b o v p,G'.aO b o=some (v,p)->n<=b\/∃v0 fK,G.aO b o=some (v0,fK)/\(p=true->fK=true)
 obj:∀b,G'.e' b->n<=b\/G.e' b
def FN (V:Nat->Option (Array Value×TypeId)) (V':Nat->Option (Array Value×TypeId)) (G':χ) (n:Nat):Prop:=
 ∀b c,V' b=some c->V b=some c\/(n<=b/\G'.off b)
def BS (e:Event):Prop:=e.loc=.output\/e.loc=.mark .noRoom
def oF (s:Nat) (sp:Spec) (d:Nat) (es:Array Event):Prop:=
 deafBehind d es=d/\∀j e,es[j]?=some e->(e.loc=.mark .disable\/e.loc=.mark .enable\/(∃b off wr,e=⟨.cell ⟨b,off,none⟩,wr,true⟩/\ew s sp b/\0<deafBehind d (es.extract 0 j)))
def kj (o:aS):Tok->Prop
 | .ch _ .q _=>o.dd=0
 | .par _ _ .w3=>o.cO=0
 | _=>False
def nm:Tok->Prop
 | .nil=>True
 | .par _ _ .add|.par _ _ .bB=>True
 | .ch _ .idle _|.ch _ .done _=>True
 | _=>False
def gj:Tok->Prop
 | .nil=>True
 | .par _ _ .bB=>True
 | _=>False
def Gone:Tok->Prop
 | .nil=>True
 | .par _ _ .bB=>True
 | .ch _ _ .gone=>True
 | _=>False
abbrev y0:=Bool->Goroutine->aZ->Prop
def iU (g:Goroutine):Prop:=g.status=.running/\g.offers=none
section
variable (P:Program) (mn:Bool) (al:y0) (g:Goroutine) (x:aZ)
def KF:Prop:=∀w,Fits x.G w->yZ x.aM w->(stepG P mn g w).goes λg' w' es=>∃G' V',iU g'/\fH x.G.owns x.G.e' w w'/\Fits G' w'/\yZ V' w'/\
 BR x.G G' w.heap.size/\FN x.aM V' G' w.heap.size/\(∀e∈es,if x.rel then BS e else hq x.G w.heap.size w'.heap.size e)/\(∀b c,V' b=some c->w.heap.size<=b->∀e∈es,¬nW e.loc b)/\al mn g' {x with G:=G',aM:=V'}
def KG:Prop:=∃g',iU g'/\((∀w,Fits x.G w->stepG P mn g w=.go g' w #[mk .disable]/\al mn g' {x with deaf:=x.deaf+1})\/
 (0<x.deaf/\∀w,Fits x.G w->stepG P mn g w=.go g' w #[mk .enable]/\al mn g' {x with deaf:=x.deaf-1}))
def KH:Prop:=∃(s n p:Nat) (aL:rX) (g':Goroutine) (off:Nat) (wr:Bool),x.tok s=.par n p aL/\aL≠.bB/\x.rel=false/\iU g'/\∀w,Fits x.G w->stepG P mn g w=.go g' w #[mk (if wr then .write ⟨s,off,none⟩ else .read ⟨s,off,none⟩)]/\al mn g' x
def Atom:Prop:=∃s sp,x.spec s=some sp/\¬gj (x.tok s)/\∀w φ o,Fits x.G w->yZ x.aM w->o.toSpec=sp->At s o w->FM x s φ o->u7 o (x.tok s)->
 ((stepG P mn g w).goes λg' w' es=>iU g'/\fH (λb _=>ew s sp b) (λ_=>False) w w'/\oF s sp x.deaf es/\
   ((At s o w'/\al mn g' {x with view:=upd x.view s (some (φ,o))})\/
    ∃o' t',Act o (x.tok s) o' t'/\At s o' w'/\(mayWake P g=true\/o'=o)/\∀cu,cu<φ->al mn g' {x with tok:=upd x.tok s t',view:=upd x.view s (some (cu,o'))}))\/
 (kj o (x.tok s)/\(∀bm,bm≠s->nm (x.tok bm))/\stepG P mn g w=.go {g with status:=.blocked} w #[])
def KI:Prop:=∃s sp m k g',x.spec s=some sp/\sp.aW=some m/\x.tok s=.ch k .own .work/\x.deaf=0/\iU g'/\x.rel=false/\
 (∀w,Fits x.G w->stepG P mn g w=.go g' w #[mk (.acquire ⟨m,0,none⟩)])/\
 ∀L E,sp.an L E->Apart x.G E->(L.Nodup/\k∉L/\∃w,Fits x.G w/\Fits E w)->al mn g' {x with G:=join x.G E,tok:=upd x.tok s (.ch k (.dr L) .work),view:=upd x.view s none}
def KJ:Prop:=∃s sp m k L g' G' E,x.spec s=some sp/\sp.aW=some m/\x.tok s=.ch k (.dr L) .work/\x.deaf=0/\iU g'/\x.rel=false/\
 (∀w,Fits x.G w->stepG P mn g w=.go g' w #[mk (.releaseMerge ⟨m,0,none⟩)])/\
 Split x.G G' E/\sp.an (L++[k]) E/\al mn g' {x with G:=G',tok:=upd x.tok s (.ch k .fin .work),view:=upd x.view s none}
def KL:Prop:=∃s sp k mu g' E,x.spec s=some sp/\x.tok s=.ch k mu .work/\(mu=.done\/(mu=.idle/\sp.aW=none))/\(∀bm,bm≠s->gj (x.tok bm))/\x.deaf=0/\iU g'/\x.rel=false/\
 (∀w,Fits x.G w->stepG P mn g w=.go g' w #[mk (.releaseMerge ⟨s,0,none⟩)])/\
 Sub E x.G/\sp.D k E/\al mn g' {x with G:=χ.empty,aM:=λ_=>none,tok:=upd x.tok s (.ch k mu .rel),view:=upd x.view s none,rel:=true}
def KM:Prop:=∃s sp n aL g',x.spec s=some sp/\x.tok s=.par n 0 aL/\(aL=.mj\/aL=.w4)/\x.deaf=0/\iU g'/\x.rel=false/\
 (∀w,Fits x.G w->stepG P mn g w=.go g' w #[mk (.acquire ⟨s,0,none⟩)])/\
 ∀gx fL gT eL,gx.Perm (List.range n)->lN sp.D gx gT->(sp.aW≠none->fL.Perm (List.range n)/\sp.an fL eL)->(sp.aW=none->eL=χ.empty)->Apart x.G gT->Apart x.G eL->Apart gT eL->(∃w,Fits x.G w/\Fits gT w/\Fits eL w)->
  al mn g' {x with G:=join (join x.G gT) eL,tok:=upd x.tok s (.par n 0 .bB),view:=upd x.view s none}
def KN:Prop:=∃s sp n p g' c nj nk,x.spec s=some sp/\x.tok s=.par n (p+1) .add/\x.deaf=0/\iU g'/\iU c/\x.rel=false/\
 (∀w,Fits x.G w->stepG P mn g w=.spawn g' c w #[])/\Split x.G nj nk/\
 al mn g' {x with G:=nj,tok:=upd x.tok s (.par n p .add),view:=upd x.view s none}/\
 al false c ⟨nk,λ_=>none,upd (λ_=>.nil) s (.ch (n-(p+1)) .idle .work),upd (λ_=>none) s (some sp),λ_=>none,0,false⟩
def FO:Prop:=
 (∃G',Sub G' x.G/\al mn g {x with G:=G'})\/
 (∃b c t,x.aM b=some (c,t)/\al mn g {x with aM:=upd x.aM b none,G:=⟨λΨ o=>if Ψ=b then(c[o]?).map (·,true) else x.G.aO Ψ o,λΨ=>if Ψ=b then some (t,c.size) else x.G.row Ψ,x.G.obj⟩})\/
 (∃s sp ty G' E,x.aM s=some (#[.int .u64 0,.int .u32 0],ty)/\(∀m,sp.aW=some m->m≠s/\∃jP,x.aM m=some (#[.int .i32 0,.int .u32 0],jP))/\x.rel=false/\
  Split x.G G' E/\(sp.aW≠none->sp.an [] E)/\
  al mn g {x with G:=G',aM:=λb=>if b=s\/sp.aW=some b then none else x.aM b,tok:=upd x.tok s (.par 0 0 .add),spec:=upd x.spec s (some sp),view:=upd x.view s none})
def KO:Prop:=mn=false/\g.status=.running/\x.rel=true/\(∀s,Gone (x.tok s))/\∃g' es,(∀e∈es,Event.mute e=true)/\(∀w,stepG P false g w=.go g' w es)/\al mn g' {x with deaf:=deafBehind x.deaf es}
def y1:Prop:=KO P mn al g x\/iU g/\(KF P mn al g x\/KG P mn al g x\/KH P mn al g x\/Atom P mn al g x\/KI P mn al g x\/KJ P mn al g x\/KL P mn al g x\/KM P mn al g x\/KN P mn al g x\/FO mn al g x)
def KP (Q:Value->Prop):Prop:=iU g/\(∀s,gj (x.tok s))/\x.deaf=0/\∀w,Fits x.G w->∃v es,stepG P true g w=.ended (.done v) w es/\(∀e∈es,hq x.G w.heap.size w.heap.size e)/\Q v
def R3:Prop:=x.rel=true/\(∀s,Gone (x.tok s))/\g.status=.finished/\x.deaf=0
def BT (Q:Value->Prop):Prop:=(mn=true/\KP P g x Q)\/(mn=false/\R3 g x)
def y2:Prop:=x.rel=true->(∀s,Gone (x.tok s))->∃n,QuitsD P n x.deaf g
end
open Classical in
def jQ (P:Program) (Q:Value->Prop):gw (Bool×Goroutine×aZ)->y0
 | .leaf=>λmn g x=>y2 P g x/\BT P mn g x Q
 | .node f=>λmn g x=>y2 P g x/\(BT P mn g x Q\/y1 P mn (λu9 g' dn=>jQ P Q (f (u9,g',dn)) u9 g' dn) g x)
def Goes (P:Program) (Q:Value->Prop):y0:=λmn g x=>∃T,jQ P Q T mn g x
theorem y1.mono {P:Program} {mn:Bool} {al KQ:y0} {g:Goroutine} {x:aZ} (aN:∀mn g x,al mn g x->KQ mn g x) (h:y1 P mn al g x):y1 P mn KQ g x:=by
 rcases h with⟨Δ,Γ,a2,R4,g',es,fa,lL,qM⟩|⟨ι,h⟩
 ·exact .inl ⟨Δ,Γ,a2,R4,g',es,fa,lL,aN _ _ _ qM⟩
 refine .inr ⟨ι,?_⟩;rcases h with h|h|h|h|h|h|h|h|h|h
 ·refine .inl λw Υ hv=>?_;have:=h w Υ hv;revert this;cases stepG P mn g w<;>simp only[GStep.goes,imp_self];rintro⟨G',V',J,U,μ,Θ,av,ba,gZ,FP,lO⟩;exact⟨G',V',J,U,μ,Θ,av,ba,gZ,FP,aN _ _ _ lO⟩
 ·obtain⟨g',J,U⟩:=h;exact .inr (.inl ⟨g',J,U.elim (λh=>.inl λw Υ=>⟨(h w Υ).1,aN _ _ _ (h w Υ).2⟩) (λh=>.inr ⟨h.1,λw Υ=>⟨(h.2 w Υ).1,aN _ _ _ (h.2 w Υ).2⟩⟩)⟩)
 ·obtain⟨s,n,p,aL,g',off,wr,J,U,hs,μ,Θ⟩:=h;exact .inr (.inr (.inl ⟨s,n,p,aL,g',off,wr,J,U,hs,μ,λw Υ=>⟨(Θ w Υ).1,aN _ _ _ (Θ w Υ).2⟩⟩))
 ·obtain⟨s,sp,J,hs,μ⟩:=h;refine .inr (.inr (.inr (.inl ⟨s,sp,J,hs,λw φ o Υ hv ν κ y3 ψ=>?_⟩)));refine(μ w φ o Υ hv ν κ y3 ψ).imp (λh=>?_) id;revert h;cases stepG P mn g w<;>simp only[GStep.goes,imp_self];rintro⟨J,U,μ,Θ⟩;exact⟨J,U,μ,Θ.imp (λh=>⟨h.1,aN _ _ _ h.2⟩) λ⟨o',t',a1,bd,cI,gv⟩=>⟨o',t',a1,bd,cI,λcu eD=>aN _ _ _ (gv cu eD)⟩⟩
 ·obtain⟨s,sp,m,k,g',J,U,μ,Θ,av,tq,ba,gZ⟩:=h;exact .inr (.inr (.inr (.inr (.inl ⟨s,sp,m,k,g',J,U,μ,Θ,av,tq,ba,λL E a b c=>aN _ _ _ (gZ L E a b c)⟩))))
 ·obtain⟨s,sp,m,k,L,g',G',E,J,U,μ,Θ,av,tq,ba,gZ,lO,tr⟩:=h;exact .inr (.inr (.inr (.inr (.inr (.inl ⟨s,sp,m,k,L,g',G',E,J,U,μ,Θ,av,tq,ba,gZ,lO,aN _ _ _ tr⟩)))))
 ·obtain⟨s,sp,k,mu,g',E,J,U,μ,Θ,av,ba,R5,gZ,lO,tr,R6⟩:=h;exact .inr (.inr (.inr (.inr (.inr (.inr (.inl ⟨s,sp,k,mu,g',E,J,U,μ,Θ,av,ba,R5,gZ,lO,tr,aN _ _ _ R6⟩))))))
 ·obtain⟨s,sp,n,aL,g',J,U,μ,Θ,av,tq,ba,gZ⟩:=h;exact .inr (.inr (.inr (.inr (.inr (.inr (.inr (.inl ⟨s,sp,n,aL,g',J,U,μ,Θ,av,tq,ba,λgx fL gT eL a b c d e f g i=>aN _ _ _ (gZ gx fL gT eL a b c d e f g i)⟩)))))))
 ·obtain⟨s,sp,n,p,g',c,nj,nk,J,U,μ,Θ,av,tq,ba,gZ,lO,tr⟩:=h;exact .inr (.inr (.inr (.inr (.inr (.inr (.inr (.inr (.inl ⟨s,sp,n,p,g',c,nj,nk,J,U,μ,Θ,av,tq,ba,gZ,aN _ _ _ lO,aN _ _ _ tr⟩))))))))
 ·refine .inr (.inr (.inr (.inr (.inr (.inr (.inr (.inr (.inr ?_))))))));rcases h with⟨G',J,U⟩|⟨b,c,t,J,U⟩|⟨s,sp,ty,G',E,J,U,μ,Θ,av,gZ⟩
  ·exact .inl ⟨G',J,aN _ _ _ U⟩
  ·exact .inr (.inl ⟨b,c,t,J,aN _ _ _ U⟩)
  ·exact .inr (.inr ⟨s,sp,ty,G',E,J,U,μ,Θ,av,aN _ _ _ gZ⟩)
theorem Goes.stop {P:Program} {Q:Value->Prop} {mn:Bool} {g:Goroutine} {x:aZ} (ω:y2 P g x) (h:BT P mn g x Q):Goes P Q mn g x:=⟨.leaf,ω,h⟩
open Classical in
theorem Goes.step {P:Program} {Q:Value->Prop} {mn:Bool} {g:Goroutine} {x:aZ} (ω:y2 P g x) (h:y1 P mn (Goes P Q) g x):Goes P Q mn g x:=by
 refine⟨.node λk=>if ς:∃T,jQ P Q T k.1 k.2.1 k.2.2 then Classical.choose ς else .leaf,ω,.inr (h.mono λu9 g' dn Ξ=>?_)⟩;have ς:∃T,jQ P Q T u9 g' dn:=Ξ;simp only[ς,dif_pos];exact Classical.choose_spec ς
theorem Goes.quits {P:Program} {Q:Value->Prop} (n:Nat):∀{g:Goroutine} {x:aZ},x.rel=true->(∀s,Gone (x.tok s))->QuitsD P n x.deaf g->Goes P Q false g x:=by
 induction n with
 | zero=>
  intro g x ι Ξ Φ;exact .stop (λ_ _=>⟨0,Φ⟩) (.inr ⟨rfl,ι,Ξ,Φ.1,Φ.2⟩)
 | succ n Β=>
  intro g x ι Ξ Φ;rcases Φ with Φ|⟨ν,g',es,J,U,μ⟩
  ·exact .stop (λ_ _=>⟨0,Φ⟩) (.inr ⟨rfl,ι,Ξ,Φ.1,Φ.2⟩)
  ·exact .step (λ_ _=>⟨n+1,.inr ⟨ν,g',es,J,U,μ⟩⟩) (.inl ⟨rfl,ν,ι,Ξ,g',es,J,U,Β (x:={x with deaf:=deafBehind x.deaf es}) ι Ξ μ⟩)
abbrev cM:=Nat ⊕ Nat
def bP (H:cM->χ) (h:cM) (G:χ):cM->χ:=λk=>if k=h then G else H k
@[simp] theorem dQ (H:cM->χ) (h:cM) (G:χ):bP H h G h=G:=by simp[bP]
theorem bQ (H:cM->χ) {h k:cM} (G:χ) (ς:k≠h):bP H h G k=H k:=by simp[bP,ς]
structure de where
 H:cM->χ
 aM:Nat->Nat->Option (Array Value×TypeId)
 tok:Nat->Nat->Tok
 spec:Nat->Nat->Option Spec
 view:Nat->Nat->Option (Nat×aS)
 deaf:Nat->Nat
 rel:Nat->Bool
 T:Nat->gw (Bool×Goroutine×aZ)
 O:Nat->Option aS
 bz:Nat->Nat
 home:Nat->Nat
 dH:Nat->Nat
def de.x (c:de) (i:Nat):aZ:=⟨c.H (.inl i),c.aM i,c.tok i,c.spec i,c.view i,c.deaf i,c.rel i⟩
structure ha (H:cM->χ) (aM:Nat->Nat->Option (Array Value×TypeId)) (O:Nat->Option aS) (bq w:World):Prop where
 fit:∀h,Fits (H h) w
 mr:∀i,yZ (aM i) w
 fV:∀s o,O s=some o->At s o w
 keep:fH (λ_ _=>False) (λ_=>False) bq w
structure iB (H:cM->χ) (aM:Nat->Nat->Option (Array Value×TypeId)) (O:Nat->Option aS) (ht:Nat):Prop where
 apart:∀h k,h≠k->Apart (H h) (H k)
 high:∀h b o,(H h).owns b o->ht<=b
 n1:∀h b,(H h).e' b->ht<=b
 fresh:∀i b v,aM i b=some v->ht<=b/\(∀h,(H h).off b)/\∀j,j≠i->aM j b=none
 kE:∀s o b,O s=some o->ew s o.toSpec b->ht<=b/\(∀h,(H h).off b)/\∀j,aM j b=none
 kY:∀s bm o o' b,O s=some o->O bm=some o'->ew s o.toSpec b->ew bm o'.toSpec b->s=bm
 pE:∀s o m,O s=some o->o.aW=some m->m≠s
 eE:∀b,(∀s o,O s=some o->¬ew s o.toSpec b)->H (.inr b)=χ.empty
theorem ha.own {H:cM->χ} {aM:Nat->Nat->Option (Array Value×TypeId)} {O:Nat->Option aS} {bq w w':World} {ht:Nat} (eo:ha H aM O bq w) (Α:iB H aM O ht) (i:Nat) {G':χ} {V':Nat->Option (Array Value×TypeId)}
  (ς:fH (H (.inl i)).owns (H (.inl i)).e' w w') (Υ:Fits G' w') (hv:yZ V' w') (aj:bq.heap.size=ht):ha (bP H (.inl i) G') (upd aM i V') O bq w':=by
 have ap:∀h,h≠.inl i->(∀b o,(H (.inl i)).owns b o->¬(H h).has b o)/\∀b,(H (.inl i)).e' b->¬(H h).e' b:=λh a0=>⟨(Α.apart _ _ (Ne.symm a0)).aO,(Α.apart _ _ (Ne.symm a0)).obj⟩;refine⟨λh=>?_,λj=>?_,λs o ν=>?_,?_⟩
 ·by_cases a0:h=.inl i
  ·subst a0;rw[dQ];exact Υ
  ·rw[bQ _ _ a0];exact(eo.fit h).keeps ς (ap h a0).1 (ap h a0).2
 ·by_cases ε:j=i
  ·subst ε;rw[upd_same];exact hv
  ·rw[upd_ne _ _ ε];intro b c t hb;obtain⟨c',J,U,μ⟩:=ς.cells b c t _ (eo.mr j b c t hb);have off:=(Α.fresh j b _ hb).2.1 (.inl i);have:c'=c:=by
    apply Array.ext_getElem?;intro o;exact μ o λ⟨v,hv⟩=>off.1 o ⟨_,hv⟩
   rw[J,this]
 ·have off:=λb (hb:ew s o.toSpec b)=>(Α.kE s o b ν hb).2.1 (.inl i)
  have y4:∀b c t,ew s o.toSpec b->w.heap[b]?=some (.cells c t (0,0))->w'.heap[b]?=some (.cells c t (0,0)):=λb c t hb δ=>by
   obtain⟨c',J,U,μ⟩:=ς.cells b c t _ δ;have:c'=c:=by
    apply Array.ext_getElem?;intro o';exact μ o' λ⟨v,hv⟩=>(off b hb).1 o' ⟨_,hv⟩
   rw[J,this]
  obtain⟨⟨ty,J⟩,U⟩:=eo.fV s o ν;exact⟨⟨ty,y4 _ _ _ (.inl rfl) J⟩,λm hm=>let ⟨jP,μ⟩:=U m hm;⟨jP,y4 _ _ _ (.inr hm) μ⟩⟩
 ·have eM:=eo.keep;refine⟨Nat.le_trans eM.size ς.size,λb c t d' hb=>?_,λb x hb γ _=>?_,eM.os.trans ς.os,ς.output.trans eM.output,ς.tape.trans eM.tape⟩
  ·obtain⟨c1,J,U,μ⟩:=eM.cells b c t d' hb;obtain⟨c2,Θ,av,ba⟩:=ς.cells b c1 t d' J;refine⟨c2,Θ,by rw[av,U],λo _=>?_⟩;rw[ba o λγ=>?_,μ o id];have:=Α.high _ _ _ γ;have:=fI hb;omega
  ·refine ς.nf b x (eM.nf b x hb γ id) γ λhR=>?_;have:=Α.n1 _ _ hR;have:=fI hb;omega
theorem ha.at {H:cM->χ} {aM:Nat->Nat->Option (Array Value×TypeId)} {O:Nat->Option aS} {bq w:World} (h:ha H aM O bq w) (d:Nat):ha H aM O bq (w.at d):=
 ⟨λk=>(h.fit k).at d,h.mr,h.fV,⟨h.keep.size,h.keep.cells,h.keep.nf,h.keep.os,h.keep.output,h.keep.tape⟩⟩
theorem iB.own {H:cM->χ} {aM:Nat->Nat->Option (Array Value×TypeId)} {O:Nat->Option aS} {ht:Nat} {w:World} {bq:World} (Α:iB H aM O ht) (eo:ha H aM O bq w) (cm:ht<=w.heap.size) (i:Nat) {G':χ} {V':Nat->Option (Array Value×TypeId)}
  (Ξ:BR (H (.inl i)) G' w.heap.size) (qO:FN (aM i) V' G' w.heap.size):iB (bP H (.inl i) G') (upd aM i V') O ht:=by
 have KR:∀b o,G'.has b o->w.heap.size<=b\/(H (.inl i)).has b o:=λb o ⟨⟨v,p⟩,h⟩=>(Ξ.aO b o v p h).imp id λ⟨v0,fK,aj,_⟩=>⟨_,aj⟩
 have KS:∀b o,G'.owns b o->w.heap.size<=b\/(H (.inl i)).owns b o:=λb o ⟨v,h⟩=>(Ξ.aO b o v true h).imp id λ⟨v0,fK,aj,ψ⟩=>⟨v0,by rw[aj,ψ rfl]⟩
 have u':∀h b o,(H h).has b o->b<w.heap.size:=λh b o ⟨⟨v,p⟩,γ⟩=>by
  obtain⟨c,t,d',hb,_⟩:=qI ((eo.fit h).aO b o v p γ);exact fI hb
 have y5:∀h b,(H h).e' b->b<w.heap.size:=λh b ⟨x,γ⟩=>fI ((eo.fit h).obj b x γ).1
 have KT:∀k,k≠.inl i->Apart G' (H k):=λk ς=>by
  have a:=Α.apart _ _ (Ne.symm ς);refine⟨λb o ω γ=>?_,λb o ω γ=>?_,λb ω γ=>?_⟩
  ·rcases KS b o ω with h|h
   ·have:=u' k b o γ;omega
   ·exact a.aO b o h γ
  ·rcases KR b o γ with h|h
   ·have:=u' k b o (let ⟨v,hv⟩:=ω;⟨_,hv⟩);omega
   ·exact a.qH b o ω h
  ·rcases Ξ.obj b ω with h|h
   ·have:=y5 k b γ;omega
   ·exact a.obj b h γ
 have R7:∀{A B:χ},Apart A B->Apart B A:=λh=>⟨h.qH,h.aO,λb hb κ=>h.obj b κ hb⟩
 have FQ:∀b,b<w.heap.size->(H (.inl i)).off b->G'.off b:=λb hb h=>⟨λo ω=>(KR b o ω).elim (λx=>R) (h.1 o),λω=>(Ξ.obj b ω).elim (λx=>R) h.2⟩
 have wY:∀j b v,aM j b=some v->b<w.heap.size:=λj b v hv=>fI (eo.mr j b v.1 v.2 hv)
 have FR:∀s o b,O s=some o->ew s o.toSpec b->b<w.heap.size:=λs o b ν hb=>by
  obtain⟨⟨ty,J⟩,U⟩:=eo.fV s o ν;rcases hb with rfl|hb
  ·exact fI J
  ·obtain⟨jP,μ⟩:=U b hb;exact fI μ
 refine⟨λh k ς=>?_,λh b o ω=>?_,λh b ω=>?_,λj b v hv=>?_,λs o b ν hb=>?_,Α.kY,Α.pE,λb hb=>?_⟩
 ·by_cases a0:h=.inl i
  ·subst a0;rw[dQ,bQ _ _ (Ne.symm ς)];exact KT k (Ne.symm ς)
  ·by_cases kk:k=.inl i
   ·subst kk;rw[dQ,bQ _ _ a0];exact R7 (KT h a0)
   ·rw[bQ _ _ a0,bQ _ _ kk];exact Α.apart h k ς
 ·by_cases a0:h=.inl i
  ·subst a0;rw[dQ] at ω;rcases KS b o ω with h|h
   ·omega
   ·exact Α.high _ _ _ h
  ·rw[bQ _ _ a0] at ω;exact Α.high _ _ _ ω
 ·by_cases a0:h=.inl i
  ·subst a0;rw[dQ] at ω;rcases Ξ.obj b ω with h|h
   ·omega
   ·exact Α.n1 _ _ h
  ·rw[bQ _ _ a0] at ω;exact Α.n1 _ _ ω
 ·by_cases ε:j=i
  ·subst ε;rw[upd_same] at hv;rcases qO b v hv with h|⟨J,U⟩
   ·obtain⟨a1,bd,cI⟩:=Α.fresh j b v h;refine⟨a1,λdg=>?_,λbK aH=>by rw[upd_ne _ _ aH];exact cI bK aH⟩;by_cases a0:dg=.inl j
    ·subst a0;rw[dQ];exact FQ b (wY j b v h) (bd _)
    ·rw[bQ _ _ a0];exact bd _
   ·refine⟨R,λdg=>?_,λbK aH=>?_⟩
    ·by_cases a0:dg=.inl j
     ·subst a0;rw[dQ];exact U
     ·rw[bQ _ _ a0];exact⟨λo ω=>by have:=u' dg b o ω;omega,λω=>by have:=y5 dg b ω;omega⟩
    ·rw[upd_ne _ _ aH];cases δ:aM bK b with
     | none=>rfl
     | some fr=>have:=wY bK b fr δ;omega
  ·rw[upd_ne _ _ ε] at hv;obtain⟨a1,bd,cI⟩:=Α.fresh j b v hv;have hb:=wY j b v hv;refine⟨a1,λdg=>?_,λbK aH=>?_⟩
   ·by_cases a0:dg=.inl i
    ·subst a0;rw[dQ];exact FQ b hb (bd _)
    ·rw[bQ _ _ a0];exact bd _
   ·by_cases dg:bK=i
    ·subst dg;rw[upd_same];cases δ:V' b with
     | none=>rfl
     | some fr=>
      rcases qO b fr δ with h|⟨J,_⟩
      ·rw[cI bK aH] at h;cases h
      ·omega
    ·rw[upd_ne _ _ dg];exact cI bK aH
 ·obtain⟨a1,bd,cI⟩:=Α.kE s o b ν hb;have ts:=FR s o b ν hb;refine⟨a1,λdg=>?_,λbK=>?_⟩
  ·by_cases a0:dg=.inl i
   ·subst a0;rw[dQ];exact FQ b ts (bd _)
   ·rw[bQ _ _ a0];exact bd _
  ·by_cases dg:bK=i
   ·subst dg;rw[upd_same];cases δ:V' b with
    | none=>rfl
    | some fr=>
     rcases qO b fr δ with h|⟨J,_⟩
     ·rw[cI bK] at h;cases h
     ·omega
   ·rw[upd_ne _ _ dg];exact cI bK
 ·rw[bQ _ _ η];exact Α.eE b hb
def jR (tok:Nat->Nat->Tok) (O:Nat->Option aS) (t:Trace):cM->Nat->Prop
 | .inl i,k=>Knows t i k
 | .inr b,k=>(∃p op,t[p]?=some op/\op.act=.mark (.releaseMerge ⟨b,0,none⟩)/\t.heard p/\Before t k p)\/(∀s o,O s=some o->ew s o.toSpec b->∀i,tok i s≠.nil->Knows t i k)
theorem FT {tok:Nat->Nat->Tok} {O:Nat->Option aS} {t:Trace} (u:Trace) {h:cM} {k:Nat} (ς:jR tok O t h k):jR tok O (t++u) h k:=by
 cases h with
 | inl i=>exact Knows.app u ς
 | inr b=>
  rcases ς with⟨p,op,J,U,μ,Θ⟩|h
  ·have ψ:=lt_size_of_getElem? J;exact .inl ⟨p,op,by rw[getElem?_append_old ψ];exact J,U,(heard_old ψ).2 μ,Θ.app u⟩
  ·exact .inr λs o ν hb i hi=>(h s o ν hb i hi).app u
structure iV (H:cM->χ) (aM:Nat->Nat->Option (Array Value×TypeId)) (tok:Nat->Nat->Tok) (O:Nat->Option aS) (bz:Nat->Nat) (deaf:Nat->Nat) (N:Nat) (t:Trace):Prop where
 race:∀said,¬Race said t
 low:∀op∈t,op.act.low N
 norel:∀op∈t,∀a,op.act≠.mark (.release a)
 perms:∀h,dv t (jR tok O t h) (H h)
 oG:∀i b v,aM i b=some v->∀k a,touchAt t k=some a->¬nW a.loc b
 cont:∀s o b,O s=some o->ew s o.toSpec b->∀k a,touchAt t k=some a->nW a.loc b->a.kind=.atomic\/(a.kind=.said/\t.g? k=some (bz s))
 hears:∀i,Deaf t i=deaf i
theorem y6 {t:Trace} {N k:Nat} {a:Touch} (h:∀op∈t,op.act.low N) (κ:touchAt t k=some a) {b:Nat} (hb:nW a.loc b):b<N:=by
 obtain⟨op,ω,iC⟩:=touch_of κ;have ο:=h op (mem_of_getElem? ω);obtain⟨g,fn,pos,act⟩:=op;cases act with
 | access e=>
  simp only[MemAct.touch?,Option.some.injEq] at iC;subst iC;obtain⟨loc,wr,oH⟩:=e;cases loc<;>simp only[nW] at hb<;>first|(subst hb;exact ο)|exact hb.elim
 | mark m=>
  cases m<;>simp only[MemAct.touch?,Option.some.injEq,reduceCtorEq] at iC<;>(subst iC;simp only[nW] at hb;subst hb;exact ο)
 | _=>simp[MemAct.touch?] at iC
theorem BS.FU {G:χ} {n jq:Nat} {e:Event} (h:BS e):hq G n jq e:=by
 rcases h with h|h<;>simp[hq,h]
theorem BU {G:χ} {n jq:Nat} {e:Event} (he:hq G n jq e) {a:Touch} (κ:(MemAct.ofEvent e).touch?=some a) :
  a.loc=e.loc/\a.write=e.write/\(a.loc.isMemory=true->(∃cG,e.loc=.cell cG)\/∃r,e.loc=.obj r):=by
 obtain⟨loc,wr,oH⟩:=e;cases loc with
 | cell cG=>simp[MemAct.ofEvent,MemAct.touch?] at κ;subst κ;simp
 | obj r=>
  simp only[hq] at he;obtain⟨rfl,_⟩:=he;cases wr<;>simp[MemAct.ofEvent,MemAct.touch?] at κ<;>subst κ<;>simp
 | output=>simp[MemAct.ofEvent,MemAct.touch?] at κ;subst κ;simp[Loc.isMemory]
 | goroutines=>exact he.elim
 | mark m=>simp only[hq] at he;subst he;simp[MemAct.ofEvent,MemAct.touch?] at κ
theorem iV.own {H:cM->χ} {aM:Nat->Nat->Option (Array Value×TypeId)} {tok:Nat->Nat->Tok} {O:Nat->Option aS} {bz:Nat->Nat} {deaf:Nat->Nat} {bq w w':World} {ht:Nat} {t:Trace}
  (Κ:iV H aM tok O bz deaf w.heap.size t) (eo:ha H aM O bq w) (Α:iB H aM O ht) (i:Nat) {G':χ} {V':Nat->Option (Array Value×TypeId)} {es:Array Event} {fn:FuncId} {pos:String}
  (cv:w.heap.size<=w'.heap.size) (Ξ:BR (H (.inl i)) G' w.heap.size) (qO:FN (aM i) V' G' w.heap.size)
  (gk:∀e∈es,hq (H (.inl i)) w.heap.size w'.heap.size e) (FV:∀b c,V' b=some c->w.heap.size<=b->∀e∈es,¬nW e.loc b) :
  iV (bP H (.inl i) G') (upd aM i V') tok O bz deaf w'.heap.size (t++MemOp.ofEvents i fn pos es):=by
 have hu:∀op∈MemOp.ofEvents i fn pos es,op.g=i:=λop Μ=>by obtain⟨e,_,rfl⟩:=Go.Conc.mem_ofEvents Μ;rfl
 have u':∀h b o,(H h).has b o->b<w.heap.size:=λh b o ⟨⟨v,p⟩,γ⟩=>by
  obtain⟨c,t,d',hb,_⟩:=qI ((eo.fit h).aO b o v p γ);exact fI hb
 have y5:∀h b,(H h).e' b->b<w.heap.size:=λh b ⟨x,γ⟩=>fI ((eo.fit h).obj b x γ).1
 have wY:∀j b v,aM j b=some v->b<w.heap.size:=λj b v hv=>fI (eo.mr j b v.1 v.2 hv)
 have FR:∀s o b,O s=some o->ew s o.toSpec b->b<w.heap.size:=λs o b ν hb=>by
  obtain⟨⟨ty,J⟩,U⟩:=eo.fV s o ν;rcases hb with rfl|hb
  ·exact fI J
  ·obtain⟨jP,μ⟩:=U b hb;exact fI μ
 have FW:∀e∈es,∀b,b<w.heap.size->(H (.inl i)).off b->¬nW e.loc b:=λe he b hb r4 fs=>by
  have:=gk e he;obtain⟨loc,wr,oH⟩:=e;cases loc with
  | cell cG=>
   simp only[nW] at fs;subst fs;simp only[hq] at this;rcases this with h|⟨_,h⟩
   ·omega
   ·cases wr
    ·exact r4.1 _ h
    ·obtain⟨v,hv⟩:=h;exact r4.1 _ ⟨_,hv⟩
  | obj r=>
   simp only[nW] at fs;subst fs;simp only[hq] at this;rcases this.2 with h|h
   ·omega
   ·exact r4.2 h
  | _=>exact fs
 refine⟨λsaid=>noRace_append (Κ.race said) hu λk a κ op Μ b hb δ=>?_,λop Μ=>?_,λop Μ=>?_,λh=>?_,λj b v hv k a κ fs=>?_,λs o b ν hb k a κ fs=>?_,λj=>?_⟩
 ·obtain⟨e,he,rfl⟩:=Go.Conc.mem_ofEvents Μ;obtain⟨J,U,μ⟩:=BU (gk e he) hb;obtain⟨c1,c2,c3,_⟩:=δ;have dI:=gk e he;rcases μ (by rw[<-c1];exact c2) with⟨cG,ο⟩|⟨r,ο⟩
  ·simp only[hq,ο] at dI;have kZ:a.loc=.cell cG:=by rw[c1,J,ο]
   rcases dI with h|⟨b0,h⟩
   ·have:=y6 Κ.low κ (b:=cG.block) (by rw[kZ];rfl);omega
   ·obtain⟨oI,gΗ,sp⟩:=cG;simp only at b0;subst b0;by_cases hw:e.write=true
    ·rw[if_pos hw] at h;obtain⟨v,hv⟩:=h;exact(Κ.perms (.inl i)).aO _ _ v true hv k a κ kZ (.inl rfl)
    ·rw[if_neg hw] at h;obtain⟨⟨v,p⟩,hv⟩:=h;exact(Κ.perms (.inl i)).aO _ _ v p hv k a κ kZ (.inr (c3.resolve_right (by rw[U];exact hw)))
  ·simp only[hq,ο] at dI;have kZ:a.loc=.obj r:=by rw[c1,J,ο]
   rcases dI.2 with h|h
   ·have:=y6 Κ.low κ (b:=r) (by rw[kZ];rfl);omega
   ·exact(Κ.perms (.inl i)).obj r h k a κ kZ
 ·rcases Array.mem_append.1 Μ with h|h
  ·exact MemAct.low_mono cv (Κ.low op h)
  ·obtain⟨e,he,rfl⟩:=Go.Conc.mem_ofEvents h;have dI:=gk e he;obtain⟨loc,wr,oH⟩:=e;cases loc with
   | cell cG=>
    simp only[hq] at dI;show cG.block<_;rcases dI with h|⟨_,h⟩
    ·exact h.2
    ·cases wr
     ·have:=u' _ _ _ h;omega
     ·obtain⟨v,hv⟩:=h;have:=u' (.inl i) _ _ ⟨_,hv⟩;omega
   | obj r=>
    simp only[hq] at dI;obtain⟨rfl,dI⟩:=dI;have ι:r<w'.heap.size:=dI.elim (λh=>h.2) (λh=>by have:=y5 _ _ h;omega);cases wr<;>exact ι
   | output=>trivial
   | goroutines=>exact dI.elim
   | mark m=>simp only[hq] at dI;subst dI;trivial
 ·rcases Array.mem_append.1 Μ with h|h
  ·exact Κ.norel op h
  ·obtain⟨e,he,rfl⟩:=Go.Conc.mem_ofEvents h;intro a h;have dI:=gk e he;obtain⟨loc,wr,oH⟩:=e;cases loc with
   | mark m=>simp only[hq] at dI;subst dI;simp[MemAct.ofEvent] at h
   | obj r=>cases wr<;>cases oH<;>simp[MemAct.ofEvent] at h
   | _=>simp[MemAct.ofEvent] at h
 ·by_cases a0:h=.inl i
  ·subst a0;rw[dQ];have KU:dv (t++MemOp.ofEvents i fn pos es) (Knows (t++MemOp.ofEvents i fn pos es) i) (H (.inl i)):=(Κ.perms (.inl i)).own hu;refine⟨λb o v p δ k a κ ο hw=>?_,λb hb k a κ ο=>?_⟩
   ·rcases Ξ.aO b o v p δ with Ζ|⟨v0,fK,aj,ψ⟩
    ·rcases ng κ with ee|⟨_,op,Μ,ς,_⟩
     ·have:=y6 Κ.low ee (b:=b) (by rw[ο];rfl);omega
     ·have:=knows_own ς;rwa [hu op Μ] at this
    ·exact KU.aO b o v0 fK aj k a κ ο (hw.imp ψ id)
   ·rcases Ξ.obj b hb with Ζ|aj
    ·rcases ng κ with ee|⟨_,op,Μ,ς,_⟩
     ·have:=y6 Κ.low ee (b:=b) (by rw[ο];rfl);omega
     ·have:=knows_own ς;rwa [hu op Μ] at this
    ·exact KU.obj b aj k a κ ο
  ·rw[bQ _ _ a0];have ap:=Α.apart _ _ (Ne.symm a0);refine(Κ.perms h).others (λk ς=>FT _ ς) λop Μ a κ=>?_;obtain⟨e,he,rfl⟩:=Go.Conc.mem_ofEvents Μ;obtain⟨J,U,_⟩:=BU (gk e he) κ;have dI:=gk e he;refine⟨λb o v p ο δ=>?_,λb ο hb=>?_⟩
   ·simp only[hq,<-J,ο] at dI;rcases dI with γ|⟨_,γ⟩
    ·have:=u' h b o ⟨_,δ⟩;omega
    ·by_cases hw:e.write=true
     ·rw[if_pos hw] at γ;exact absurd ⟨_,δ⟩ (ap.aO b o γ)
     ·rw[if_neg hw] at γ;refine⟨?_,by rw[U];simpa using hw⟩;cases p with
      | false=>rfl
      | true=>exact absurd γ (ap.qH b o ⟨v,δ⟩)
   ·simp only[hq,<-J,ο] at dI;rcases dI.2 with γ|γ
    ·have:=y5 h b hb;omega
    ·exact ap.obj b γ hb
 ·rcases ng κ with ee|⟨_,op,Μ,_,iC⟩
  ·have hb:=y6 Κ.low ee fs;by_cases ε:j=i
   ·subst ε;rw[upd_same] at hv;rcases qO b v hv with h|h
    ·exact Κ.oG j b v h k a ee fs
    ·omega
   ·rw[upd_ne _ _ ε] at hv;exact Κ.oG j b v hv k a ee fs
  ·obtain⟨e,he,rfl⟩:=Go.Conc.mem_ofEvents Μ;obtain⟨J,_,_⟩:=BU (gk e he) iC;rw[J] at fs;by_cases ε:j=i
   ·subst ε;rw[upd_same] at hv;rcases qO b v hv with h|h
    ·exact FW e he b (wY j b v h) ((Α.fresh j b v h).2.1 _) fs
    ·exact FV b v hv h.1 e he fs
   ·rw[upd_ne _ _ ε] at hv;exact FW e he b (wY j b v hv) ((Α.fresh j b v hv).2.1 _) fs
 ·rcases ng κ with ee|⟨_,op,Μ,_,iC⟩
  ·rcases Κ.cont s o b ν hb k a ee fs with h|⟨h,ς⟩
   ·exact .inl h
   ·obtain⟨op,ω,_⟩:=touch_of ee;exact .inr ⟨h,by rw[g?_old (lt_size_of_getElem? ω)];exact ς⟩
  ·obtain⟨e,he,rfl⟩:=Go.Conc.mem_ofEvents Μ;obtain⟨J,_,_⟩:=BU (gk e he) iC;rw[J] at fs;exact absurd fs (FW e he b (FR s o b ν hb) ((Α.kE s o b ν hb).2.1 _))
 ·by_cases ε:i=j
  ·subst ε;rw[Deaf_own,deafBehind_still (λe he=>?_)]
   ·exact Κ.hears i
   ·have dI:=gk e he;constructor<;>intro ο<;>simp[hq,ο] at dI
  ·rw[Deaf_other t ε _ hu];exact Κ.hears j
def oJ:lG->Prop
 | .fin|.uc|.us|.done=>True
 | _=>False
def b4 (tok:Nat->Nat->Tok) (i s:Nat) (t:Tok):Nat->Nat->Tok:=upd tok i (upd (tok i) s t)
theorem fb (tok:Nat->Nat->Tok) (i s:Nat) (t:Tok):b4 tok i s t i s=t:=by simp[b4,upd]
theorem e2 {tok:Nat->Nat->Tok} {i s j r:Nat} (t:Tok) (h:¬(j=i/\r=s)):b4 tok i s t j r=tok j r:=by
 unfold b4 upd;by_cases ε:j=i
 ·subst ε;by_cases ι:r=s
  ·exact absurd ⟨rfl,ι⟩ h
  ·simp[ι]
 ·simp[ε]
theorem KV (tok:Nat->Nat->Tok) (i s:Nat) (t:Tok):(λj=>b4 tok i s t j s)=upd (λj=>tok j s) i t:=by
 funext j
 by_cases ε:j=i
 ·subst ε;rw[fb,upd_same]
 ·rw[e2 _ (λh=>ε h.1),upd_ne _ _ ε]
theorem FX (tok:Nat->Nat->Tok) (i s:Nat) (t:Tok) {r:Nat} (ι:r≠s):(λj=>b4 tok i s t j r)=λj=>tok j r:=by
 funext j;rw[e2 _ (λh=>ι h.2)]
structure eS (n:Nat) (tok:Nat->Nat->Tok) (spec:Nat->Nat->Option Spec) (view:Nat->Nat->Option (Nat×aS)) (rel:Nat->Bool) (O:Nat->Option aS) (bz home:Nat->Nat):Prop where
 bf:∀s o,O s=some o->tn n o (λi=>tok i s)
 bare:∀s,O s=none->∀i,tok i s=.nil
 out:∀i s,n<=i->tok i s=.nil
 qP:∀i s sp,spec i s=some sp->∃o,O s=some o/\o.toSpec=sp
 va:∀i s φ o,view i s=some (φ,o)->∃dJ,O s=some dJ/\eK n dJ (λj=>tok j s)<=φ/\(eK n dJ (λj=>tok j s)=φ->dJ=o)
 dr:∀i s k L g o,O s=some o->tok i s=.ch k (.dr L) g->o.L=L
 par:∀i s m p aL,tok i s=.par m p aL->i=bz s
 oK:∀i s k m g,tok i s=.ch k m g->i≠0/\home i=s/\bz s<i
 r5:∀i,i≠0->i<n->∃k m g,tok i (home i)=.ch k m g
 ey:∀i k m g,i≠0->tok i (home i)=.ch k m g->(rel i=true↔g≠.work)
 tt:rel 0=false
 oL:∀i s,rel i=true->s≠home i->gj (tok i s)
 oM:∀i s k m g o,O s=some o->tok i s=.ch k m g->g≠.work->m=.done\/(m=.idle/\o.aW=none)
 vb:∀s i j k m g b5 g',tok i s=.ch k m g->tok j s=.ch k b5 g'->i=j
 tu:∀s i k m g q p aL,tok i s=.ch k m g->tok (bz s) s=.par q p aL->k+p<q
 fL:∀s o,O s=some o->o.L.Nodup/\∀k,k∈o.L↔∃i m g,tok i s=.ch k m g/\oJ m
 gx:∀s o,O s=some o->o.al.Nodup/\∀k,k∈o.al↔∃i m g,tok i s=.ch k m g/\g≠.work
def Alike (t t':Tok):Prop:=(∃m p aL b5 fc FY,t=.par m p aL/\t'=.par b5 fc FY/\∀k,k+p<m->k+fc<b5)\/(∃k m g b5 g',t=.ch k m g/\t'=.ch k b5 g')
section
variable {n:Nat} {tok:Nat->Nat->Tok} {spec:Nat->Nat->Option Spec} {view:Nat->Nat->Option (Nat×aS)} {rel:Nat->Bool} {O:Nat->Option aS} {bz home:Nat->Nat}
theorem eS.lt (h:eS n tok spec view rel O bz home) {i s:Nat} (Ν:tok i s≠.nil):i<n:=Nat.lt_of_not_le λhle=>Ν (h.out i s hle)
theorem eS.change (h:eS n tok spec view rel O bz home) {s i:Nat} {o o':aS} {t t':Tok} {BV:Nat->Bool} {V:Nat->Option (Nat×aS)} (ν:O s=some o) (Ν:tok i s=t) (BW:Alike t t')
  (Ζ:tn n o' (upd (λj=>tok j s) i t')) (ψ:eK n o' (upd (λj=>tok j s) i t')<eK n o (λj=>tok j s)) (b0:o'.toSpec=o.toSpec)
  (oN:∀r φ q,V r=some (φ,q)->(r=s/\φ=eK n o' (upd (λj=>tok j s) i t')/\q=o')\/(r≠s/\view i r=some (φ,q)))
  (iD:∀j k L g,b4 tok i s t' j s=.ch k (.dr L) g->o'.L=L)
  (lP:∀j k m g,j≠0->b4 tok i s t' j (home j)=.ch k m g->(BV j=true↔g≠.work)) (FZ:BV 0=false)
  (R8:∀j r,BV j=true->r≠home j->gj (b4 tok i s t' j r))
  (R9:∀j k m g,b4 tok i s t' j s=.ch k m g->g≠.work->m=.done\/(m=.idle/\o'.aW=none))
  (ab:o'.L.Nodup/\∀k,k∈o'.L↔∃j m g,b4 tok i s t' j s=.ch k m g/\oJ m) (aN:o'.al.Nodup/\∀k,k∈o'.al↔∃j m g,b4 tok i s t' j s=.ch k m g/\g≠.work) :
  eS n (b4 tok i s t') spec (upd view i V) BV (upd O s (some o')) bz home:=by
 have br:i<n:=h.lt (s:=s) (by rw[Ν];rcases BW with⟨_,_,_,_,_,_,rfl,_⟩|⟨_,_,_,_,_,rfl,_⟩<;>simp)
 have F0:=KV tok i s t'
 have r6:∀r,r≠s->(λj=>b4 tok i s t' j r)=λj=>tok j r:=λr ι=>FX tok i s t' ι
 have y7:∀j r,r≠s->b4 tok i s t' j r=tok j r:=λj r ι=>congrFun (r6 r ι) j
 have same:∀j,j≠i->∀r,b4 tok i s t' j r=tok j r:=λj ε r=>e2 _ λx=>ε x.1
 have BX:∀j r k m g,b4 tok i s t' j r=.ch k m g->∃dR cP,tok j r=.ch k dR cP:=λj r k m g ε=>by
  by_cases e:j=i/\r=s
  ·obtain⟨rfl,rfl⟩:=e;rw[fb] at ε;rcases BW with⟨_,_,_,_,_,_,_,U,_⟩|⟨eM,dR,cP,dS,Χ,J,U⟩
   ·rw[U] at ε;cases ε
   ·rw[U] at ε;cases ε;exact⟨dR,cP,by rw[Ν,J]⟩
  ·rw[e2 _ e] at ε;exact⟨m,g,ε⟩
 have R':∀j r k m g,tok j r=.ch k m g->∃dR cP,b4 tok i s t' j r=.ch k dR cP:=λj r k m g ε=>by
  by_cases e:j=i/\r=s
  ·obtain⟨rfl,rfl⟩:=e;rw[fb];rw[Ν] at ε;rcases BW with⟨_,_,_,_,_,_,J,_,_⟩|⟨eM,dR,cP,dS,Χ,J,U⟩
   ·rw[J] at ε;cases ε
   ·rw[J] at ε;cases ε;exact⟨dS,Χ,U⟩
  ·rw[e2 _ e];exact⟨m,g,ε⟩
 have KW:∀j r m p aL,b4 tok i s t' j r=.par m p aL->∃dR fK y8,tok j r=.par dR fK y8/\∀k,k+fK<dR->k+p<m:=λj r m p aL ε=>by
  by_cases e:j=i/\r=s
  ·obtain⟨rfl,rfl⟩:=e;rw[fb] at ε;rcases BW with⟨_,_,_,_,_,_,J,U,μ⟩|⟨eM,dR,cP,dS,Χ,J,U⟩
   ·rw[U] at ε;cases ε;exact⟨_,_,_,by rw[Ν,J],μ⟩
   ·rw[U] at ε;cases ε
  ·rw[e2 _ e] at ε;exact⟨m,p,aL,ε,λ_ x=>x⟩
 have hc:∀r q,upd O s (some o') r=some q->(r=s/\q=o')\/(r≠s/\O r=some q):=λr q Φ=>by
  by_cases e:r=s
  ·subst e;rw[upd_same] at Φ;cases Φ;exact .inl ⟨rfl,rfl⟩
  ·rw[upd_ne _ _ e] at Φ;exact .inr ⟨e,Φ⟩
 refine⟨λr q Φ=>?_,λr ι j=>?_,λj r ε=>?_,λj r sp ε=>?_,λj r φ q ε=>?_,λj r k L g q Φ ε=>?_,λj r m p aL ε=>?_,λj r k m g ε=>?_,λj aj ε=>?_,lP,FZ,R8,λj r k m g q Φ ε Ξ=>?_,λr j bK k m g b5 g' J U=>?_,λr j k m g q p aL J U=>?_,λr q Φ=>?_,λr q Φ=>?_⟩
 ·rcases hc r q Φ with⟨rfl,rfl⟩|⟨e,cd⟩
  ·rw[F0];exact Ζ
  ·rw[r6 r e];exact h.bf r q cd
 ·by_cases e:r=s
  ·subst e;rw[upd_same] at ι;cases ι
  ·rw[upd_ne _ _ e] at ι;rw[y7 j r e];exact h.bare r ι j
 ·rw[same j R r];exact h.out j r ε
 ·obtain⟨q,J,U⟩:=h.qP j r sp ε;by_cases e:r=s
  ·subst e;rw[ν] at J;cases J;exact⟨o',upd_same ..,by rw[b0];exact U⟩
  ·exact⟨q,by rw[upd_ne _ _ e];exact J,U⟩
 ·have old:∀φ q,view j r=some (φ,q)->∃dJ,upd O s (some o') r=some dJ/\eK n dJ (λa=>b4 tok i s t' a r)<=φ/\(eK n dJ (λa=>b4 tok i s t' a r)=φ->dJ=q):=λφ q hv=>by
   obtain⟨dJ,J,U,μ⟩:=h.va j r φ q hv;by_cases e:r=s
   ·subst e;rw[ν] at J;cases J;rw[upd_same,F0];exact⟨o',rfl,R,λx=>R⟩
   ·rw[upd_ne _ _ e,r6 r e];exact⟨dJ,J,U,μ⟩
  by_cases e:j=i
  ·subst e;rw[upd_same] at ε;rcases oN r φ q ε with⟨rfl,rfl,rfl⟩|⟨ι,hv⟩
   ·rw[upd_same,F0];exact⟨_,rfl,Nat.le_refl _,λ_=>rfl⟩
   ·exact old φ q hv
  ·rw[upd_ne _ _ e] at ε;exact old φ q ε
 ·rcases hc r q Φ with⟨rfl,rfl⟩|⟨e,cd⟩
  ·exact iD j k L g ε
  ·rw[y7 j r e] at ε;exact h.dr j r k L g q cd ε
 ·obtain⟨dR,fK,y8,J,_⟩:=KW j r m p aL ε;exact h.par j r dR fK y8 J
 ·obtain⟨dR,cP,J⟩:=BX j r k m g ε;exact h.oK j r k dR cP J
 ·obtain⟨k,m,g,J⟩:=h.r5 j aj ε;obtain⟨dS,Χ,U⟩:=R' j _ k m g J;exact⟨k,dS,Χ,U⟩
 ·rcases hc r q Φ with⟨rfl,rfl⟩|⟨e,cd⟩
  ·exact R9 j k m g ε Ξ
  ·rw[y7 j r e] at ε;exact h.oM j r k m g q cd ε Ξ
 ·obtain⟨a,b,μ⟩:=BX j r k m g J;obtain⟨cz,Ψ,Θ⟩:=BX bK r k b5 g' U;exact h.vb r j bK k a b cz Ψ μ Θ
 ·obtain⟨a,b,μ⟩:=BX j r k m g J;obtain⟨dR,fK,y8,Θ,av⟩:=KW _ r q p aL U;exact av k (h.tu r j k a b dR fK y8 μ Θ)
 ·rcases hc r q Φ with⟨rfl,rfl⟩|⟨e,cd⟩
  ·exact ab
  ·simp only[λj=>y7 j r e];exact h.fL r q cd
 ·rcases hc r q Φ with⟨rfl,rfl⟩|⟨e,cd⟩
  ·exact aN
  ·simp only[λj=>y7 j r e];exact h.gx r q cd
theorem Sa {o o':aS} {t t':Tok} (h:Act o t o' t'):Alike t t':=by
 cases h
 case add=>exact .inl ⟨_,_,_,_,_,_,rfl,rfl,λk ς=>R⟩
 case thru|Ky|wake=>exact .inl ⟨_,_,_,_,_,_,rfl,rfl,λk ς=>ς⟩
 all_goals exact .inr ⟨_,_,_,_,_,rfl,rfl⟩
theorem KX {o o':aS} {t t':Tok} (h:Act o t o' t'):o'.toSpec=o.toSpec/\o'.L=o.L/\o'.al=o.al:=by
 cases h<;>exact⟨rfl,rfl,rfl⟩
theorem KY {o o':aS} {t t':Tok} (h:Act o t o' t'):(∀k m g,t'=.ch k m g->∃dR cP,t=.ch k dR cP/\(oJ m↔oJ dR)/\(g=.work↔cP=.work)/\(cP≠.work->m=dR)/\∀L,m=.dr L->dR=.dr L)/\(∀k m g,t=.ch k m g->∃dS Χ,t'=.ch k dS Χ/\(oJ dS↔oJ m)/\(Χ=.work↔g=.work))/\¬gj t:=by
 refine⟨λk m g e=>?_,λk m g e=>?_,?_⟩
 ·cases h<;>cases e<;>exact⟨_,_,rfl,by simp[oJ],η,η,η⟩
 ·cases h<;>cases e<;>exact⟨_,_,rfl,by simp[oJ],η⟩
 ·cases h<;>simp[gj]
theorem eS.act (h:eS n tok spec view rel O bz home) {s i:Nat} {o o':aS} {t t':Tok} (ν:O s=some o) (Ν:tok i s=t) (κ:Act o t o' t') :
  eS n (b4 tok i s t') spec (upd view i (upd (view i) s (some (eK n o' (upd (λj=>tok j s) i t'),o')))) rel (upd O s (some o')) bz home:=by
 obtain⟨hw,vc,KZ⟩:=KY κ;have br:i<n:=h.lt (s:=s) (by rw[Ν];rintro rfl;exact KZ trivial);obtain⟨wZ,BY,F1⟩:=KX κ;have y9:∀j r k m g,b4 tok i s t' j r=.ch k m g->∃dR cP,tok j r=.ch k dR cP/\(oJ m↔oJ dR)/\(g=.work↔cP=.work)/\(cP≠.work->m=dR)/\∀L,m=.dr L->dR=.dr L:=λj r k m g ε=>by
  by_cases e:j=i/\r=s
  ·obtain⟨rfl,rfl⟩:=e;rw[fb] at ε;obtain⟨dR,cP,Δ,Γ⟩:=hw k m g ε;exact⟨dR,cP,by rw[Ν,Δ],Γ⟩
  ·rw[e2 _ e] at ε;exact⟨m,g,ε,.rfl,.rfl,λ_=>rfl,λ_ x=>x⟩
 have is:∀j k m g,tok j s=.ch k m g->∃dS Χ,b4 tok i s t' j s=.ch k dS Χ/\(oJ dS↔oJ m)/\(Χ=.work↔g=.work):=λj k m g ε=>by
  by_cases e:j=i/\s=s
  ·obtain⟨rfl,_⟩:=e;rw[fb];rw[Ν] at ε;exact vc k m g ε
  ·rw[e2 _ e];exact⟨m,g,ε,.rfl,.rfl⟩
 refine h.change ν Ν (Sa κ) (⟨RI (h.bf s o ν).1 br Ν κ,RN (h.bf s o ν).2 br Ν κ⟩) (KA br Ν κ) wZ (λr φ q hv=>?_) (λj k L g ε=>?_) (λj k m g aj ε=>?_) h.tt (λj r ε ι=>?_) (λj k m g ε Ξ=>?_) ?_ ?_
 ·by_cases e:r=s
  ·subst e;rw[upd_same] at hv;cases hv;exact .inl ⟨rfl,rfl,rfl⟩
  ·rw[upd_ne _ _ e] at hv;exact .inr ⟨e,hv⟩
 ·obtain⟨dR,cP,Δ,_,_,_,Γ⟩:=y9 j s k _ g ε;rw[BY];exact h.dr j s k L cP o ν (by rw[Δ,Γ L rfl])
 ·obtain⟨dR,cP,Δ,_,Γ,_⟩:=y9 j _ k m g ε;rw[h.ey j k dR cP aj Δ];exact not_congr Γ.symm
 ·by_cases e:j=i/\r=s
  ·obtain⟨rfl,rfl⟩:=e;have:=h.oL j r ε ι;rw[Ν] at this;exact absurd this KZ
  ·rw[e2 _ e];exact h.oL j r ε ι
 ·obtain⟨dR,cP,Δ,_,Γ,a2,_⟩:=y9 j s k m g ε;have y':cP≠.work:=λx=>Ξ (Γ.2 x);rw[a2 y'];have:=h.oM j s k dR cP o ν Δ y';rw[show o'.aW=o.aW by rw[wZ]];exact this
 ·obtain⟨a,b⟩:=h.fL s o ν;rw[BY];refine⟨a,λk=>(b k).trans ⟨λ⟨j,m,g,Δ,Γ⟩=>?_,λ⟨j,m,g,Δ,Γ⟩=>?_⟩⟩
  ·obtain⟨dS,Χ,a2,cL,_⟩:=is j k m g Δ;exact⟨j,dS,Χ,a2,cL.2 Γ⟩
  ·obtain⟨dR,cP,a2,cL,_⟩:=y9 j s k m g Δ;exact⟨j,dR,cP,a2,cL.1 Γ⟩
 ·obtain⟨a,b⟩:=h.gx s o ν;rw[F1];refine⟨a,λk=>(b k).trans ⟨λ⟨j,m,g,Δ,Γ⟩=>?_,λ⟨j,m,g,Δ,Γ⟩=>?_⟩⟩
  ·obtain⟨dS,Χ,a2,_,cL⟩:=is j k m g Δ;exact⟨j,dS,Χ,a2,λx=>Γ (cL.1 x)⟩
  ·obtain⟨dR,cP,a2,_,cL,_⟩:=y9 j s k m g Δ;exact⟨j,dR,cP,a2,λx=>Γ (cL.2 x)⟩
theorem eS.look (h:eS n tok spec view rel O bz home) {s i:Nat} {o:aS} (ν:O s=some o):eS n tok spec (upd view i (upd (view i) s (some (eK n o (λj=>tok j s),o)))) rel O bz home:=
 have key:∀j r φ q,upd view i (upd (view i) s (some (eK n o (λj=>tok j s),o))) j r=some (φ,q)->∃dJ,O r=some dJ/\eK n dJ (λj=>tok j r)<=φ/\(eK n dJ (λj=>tok j r)=φ->dJ=q):=λj r φ q ε=>by
  by_cases e:j=i
  ·subst e;rw[upd_same] at ε;by_cases aQ:r=s
   ·subst aQ;rw[upd_same] at ε;cases ε;exact⟨o,ν,Nat.le_refl _,λ_=>rfl⟩
   ·rw[upd_ne _ _ aQ] at ε;exact h.va j r φ q ε
  ·rw[upd_ne _ _ e] at ε;exact h.va j r φ q ε
 {h with va:=key}
theorem BZ {s i:Nat} {r φ:Nat} {q:aS} {o':aS} {z:Nat} (hv:upd (view i) s none r=some (φ,q)):(r=s/\φ=z/\q=o')\/(r≠s/\view i r=some (φ,q)):=by
 by_cases e:r=s
 ·subst e;rw[upd_same] at hv;cases hv
 ·rw[upd_ne _ _ e] at hv;exact .inr ⟨e,hv⟩
theorem Sb {l:List Nat} {k:Nat} (h:l.Nodup) (ς:k∉l):(l++[k]).Nodup:=by
 rw[List.nodup_append];exact⟨h,η,λa κ b hb=>by simp at hb;subst hb;rintro rfl;exact ς κ⟩
theorem eS.FF (h:eS n tok spec view rel O bz home) {s i k:Nat} {o:aS} (ν:O s=some o) (Ν:tok i s=.ch k .own .work) :
  eS n (b4 tok i s (.ch k (.dr o.L) .work)) spec (upd view i (upd (view i) s none)) rel (upd O s (some o)) bz home:=by
 have br:i<n:=h.lt (s:=s) (by rw[Ν];simp)
 have hw:py o (.ch k .own .work) o (.ch k (.dr o.L) .work):=.FF
 have hf:∀j,j≠i->∀r,b4 tok i s (.ch k (.dr o.L) .work) j r=tok j r:=λj ε r=>e2 _ λx=>ε x.1
 have δ:=h.oK i s k _ _ Ν;refine h.change ν Ν (.inr ⟨_,_,_,_,_,rfl,rfl⟩) ⟨BM (h.bf s o ν).1 br Ν hw,BN (h.bf s o ν).2 br Ν hw⟩ (BL br Ν hw) rfl (λr φ q hv=>BZ hv) (λj ag L g ε=>?_) (λj ag m g aj ε=>?_) h.tt (λj r ε ι=>?_) (λj ag m g ε Ξ=>?_) ?_ ?_
 ·by_cases e:j=i
  ·subst e;rw[fb] at ε;cases ε;rfl
  ·rw[hf j e] at ε;exact h.dr j s ag L g o ν ε
 ·by_cases e:j=i
  ·subst e;have aQ:home j=s:=δ.2.1;rw[aQ,fb] at ε;cases ε;exact h.ey j k .own .work aj (by rw[aQ];exact Ν)
  ·rw[hf j e] at ε;exact h.ey j ag m g aj ε
 ·by_cases e:j=i
  ·subst e;have aQ:home j=s:=δ.2.1;rw[e2 _ (λx=>ι (by rw[x.2,aQ]))];exact h.oL j r ε ι
  ·rw[hf j e];exact h.oL j r ε ι
 ·by_cases e:j=i
  ·subst e;rw[fb] at ε;cases ε;exact absurd rfl Ξ
  ·rw[hf j e] at ε;exact h.oM j s ag m g o ν ε Ξ
 ·obtain⟨a,b⟩:=h.fL s o ν;refine⟨a,λag=>(b ag).trans ⟨λ⟨j,m,g,Δ,Γ⟩=>?_,λ⟨j,m,g,Δ,Γ⟩=>?_⟩⟩
  ·by_cases e:j=i
   ·subst e;rw[Ν] at Δ;cases Δ;exact Γ.elim
   ·exact⟨j,m,g,by rw[hf j e];exact Δ,Γ⟩
  ·by_cases e:j=i
   ·subst e;rw[fb] at Δ;cases Δ;exact Γ.elim
   ·exact⟨j,m,g,by rw[hf j e] at Δ;exact Δ,Γ⟩
 ·obtain⟨a,b⟩:=h.gx s o ν;refine⟨a,λag=>(b ag).trans ⟨λ⟨j,m,g,Δ,Γ⟩=>?_,λ⟨j,m,g,Δ,Γ⟩=>?_⟩⟩
  ·by_cases e:j=i
   ·subst e;rw[Ν] at Δ;cases Δ;exact absurd rfl Γ
   ·exact⟨j,m,g,by rw[hf j e];exact Δ,Γ⟩
  ·by_cases e:j=i
   ·subst e;rw[fb] at Δ;cases Δ;exact absurd rfl Γ
   ·exact⟨j,m,g,by rw[hf j e] at Δ;exact Δ,Γ⟩
theorem eS.Sc (h:eS n tok spec view rel O bz home) {s i k:Nat} {L:List Nat} {o:aS} (ν:O s=some o) (Ν:tok i s=.ch k (.dr L) .work) :
  eS n (b4 tok i s (.ch k .fin .work)) spec (upd view i (upd (view i) s none)) rel (upd O s (some {o with L:=o.L++[k]})) bz home:=by
 have br:i<n:=h.lt (s:=s) (by rw[Ν];simp)
 have hw:py o (.ch k (.dr L) .work) {o with L:=o.L++[k]} (.ch k .fin .work):=.RG
 have hf:∀j,j≠i->∀r,b4 tok i s (.ch k .fin .work) j r=tok j r:=λj ε r=>e2 _ λx=>ε x.1
 have δ:=h.oK i s k _ _ Ν
 have only:∀j ag kF g,tok j s=.ch ag (.dr kF) g->j=i:=λj ag kF g ε=>by
  apply Classical.byContradiction;intro bA;have fe:j<n:=h.lt (s:=s) (by rw[ε];simp);have Δ:=gI (λa=>tok a s) .nil iy br;have Γ:=fy (upd (λa=>tok a s) i .nil) iy fe;rw[upd_ne _ _ bA] at Γ;simp only[Ν,ε,iy,yR] at Δ Γ;have:=(h.bf s o ν).1.Kv;have:=(h.bf s o ν).1.f1;omega
 have K1:k∉o.L:=λς=>by
  obtain⟨j,m,g,Δ,Γ⟩:=((h.fL s o ν).2 k).1 ς;have:=h.vb s j i k m g _ _ Δ Ν;subst this;rw[Ν] at Δ;cases Δ;exact Γ
 refine h.change ν Ν (.inr ⟨_,_,_,_,_,rfl,rfl⟩) ⟨BM (h.bf s o ν).1 br Ν hw,BN (h.bf s o ν).2 br Ν hw⟩ (BL br Ν hw) rfl (λr φ q hv=>BZ hv) (λj ag kF g ε=>?_) (λj ag m g aj ε=>?_) h.tt (λj r ε ι=>?_) (λj ag m g ε Ξ=>?_) ?_ ?_
 ·by_cases e:j=i
  ·subst e;rw[fb] at ε;cases ε
  ·rw[hf j e] at ε;exact absurd (only j ag kF g ε) e
 ·by_cases e:j=i
  ·subst e;have aQ:home j=s:=δ.2.1;rw[aQ,fb] at ε;cases ε;exact h.ey j k (.dr L) .work aj (by rw[aQ];exact Ν)
  ·rw[hf j e] at ε;exact h.ey j ag m g aj ε
 ·by_cases e:j=i
  ·subst e;have aQ:home j=s:=δ.2.1;rw[e2 _ (λx=>ι (by rw[x.2,aQ]))];exact h.oL j r ε ι
  ·rw[hf j e];exact h.oL j r ε ι
 ·by_cases e:j=i
  ·subst e;rw[fb] at ε;cases ε;exact absurd rfl Ξ
  ·rw[hf j e] at ε;exact h.oM j s ag m g o ν ε Ξ
 ·obtain⟨a,b⟩:=h.fL s o ν;refine⟨Sb a K1,λag=>?_⟩;rw[List.mem_append,List.mem_singleton];constructor
  ·rintro(ς|rfl)
   ·obtain⟨j,m,g,Δ,Γ⟩:=(b ag).1 ς;have e:j≠i:=by rintro rfl;rw[Ν] at Δ;cases Δ;exact Γ
    exact⟨j,m,g,by rw[hf j e];exact Δ,Γ⟩
   ·exact⟨i,.fin,.work,fb ..,trivial⟩
  ·rintro⟨j,m,g,Δ,Γ⟩;by_cases e:j=i
   ·subst e;rw[fb] at Δ;cases Δ;exact .inr rfl
   ·rw[hf j e] at Δ;exact .inl ((b ag).2 ⟨j,m,g,Δ,Γ⟩)
 ·obtain⟨a,b⟩:=h.gx s o ν;refine⟨a,λag=>(b ag).trans ⟨λ⟨j,m,g,Δ,Γ⟩=>?_,λ⟨j,m,g,Δ,Γ⟩=>?_⟩⟩
  ·by_cases e:j=i
   ·subst e;rw[Ν] at Δ;cases Δ;exact absurd rfl Γ
   ·exact⟨j,m,g,by rw[hf j e];exact Δ,Γ⟩
  ·by_cases e:j=i
   ·subst e;rw[fb] at Δ;cases Δ;exact absurd rfl Γ
   ·exact⟨j,m,g,by rw[hf j e] at Δ;exact Δ,Γ⟩
theorem eS.Sd (h:eS n tok spec view rel O bz home) {s i k:Nat} {mu:lG} {o:aS} (ν:O s=some o) (Ν:tok i s=.ch k mu .work) (tv:mu=.done\/(mu=.idle/\o.aW=none)) (cS:∀r,r≠s->gj (tok i r)) :
  eS n (b4 tok i s (.ch k mu .rel)) spec (upd view i (upd (view i) s none)) (upd rel i true) (upd O s (some {o with al:=k::o.al})) bz home:=by
 have br:i<n:=h.lt (s:=s) (by rw[Ν];simp)
 have hw:py o (.ch k mu .work) {o with al:=k::o.al} (.ch k mu .rel):=.RH tv
 have hf:∀j,j≠i->∀r,b4 tok i s (.ch k mu .rel) j r=tok j r:=λj ε r=>e2 _ λx=>ε x.1
 have δ:=h.oK i s k _ _ Ν
 have Se:k∉o.al:=λς=>by
  obtain⟨j,m,g,Δ,Γ⟩:=((h.gx s o ν).2 k).1 ς;have:=h.vb s j i k m g _ _ Δ Ν;subst this;rw[Ν] at Δ;cases Δ;exact Γ rfl
 refine h.change ν Ν (.inr ⟨_,_,_,_,_,rfl,rfl⟩) ⟨BM (h.bf s o ν).1 br Ν hw,BN (h.bf s o ν).2 br Ν hw⟩ (BL br Ν hw) rfl (λr φ q hv=>BZ hv) (λj ag kF g ε=>?_) (λj ag m g aj ε=>?_) (by rw[upd_ne _ _ (Ne.symm δ.1)];exact h.tt) (λj r ε ι=>?_) (λj ag m g ε Ξ=>?_) ?_ ?_
 ·by_cases e:j=i
  ·subst e;rw[fb] at ε;rcases tv with rfl|⟨rfl,_⟩<;>cases ε
  ·rw[hf j e] at ε;exact h.dr j s ag kF g o ν ε
 ·by_cases e:j=i
  ·subst e;have aQ:home j=s:=δ.2.1;rw[aQ,fb] at ε;cases ε;rw[upd_same];simp
  ·rw[hf j e] at ε;rw[upd_ne _ _ e];exact h.ey j ag m g aj ε
 ·by_cases e:j=i
  ·subst e;have aQ:home j=s:=δ.2.1;have kl:r≠s:=λx=>ι (by rw[x,aQ]);rw[e2 _ (λx=>kl x.2)];exact cS r kl
  ·rw[hf j e];rw[upd_ne _ _ e] at ε;exact h.oL j r ε ι
 ·by_cases e:j=i
  ·subst e;rw[fb] at ε;cases ε;exact tv
  ·rw[hf j e] at ε;exact h.oM j s ag m g o ν ε Ξ
 ·obtain⟨a,b⟩:=h.fL s o ν;refine⟨a,λag=>(b ag).trans ⟨λ⟨j,m,g,Δ,Γ⟩=>?_,λ⟨j,m,g,Δ,Γ⟩=>?_⟩⟩
  ·by_cases e:j=i
   ·subst e;rw[Ν] at Δ;cases Δ;exact⟨j,mu,.rel,fb ..,Γ⟩
   ·exact⟨j,m,g,by rw[hf j e];exact Δ,Γ⟩
  ·by_cases e:j=i
   ·subst e;rw[fb] at Δ;cases Δ;exact⟨j,mu,.work,Ν,Γ⟩
   ·exact⟨j,m,g,by rw[hf j e] at Δ;exact Δ,Γ⟩
 ·obtain⟨a,b⟩:=h.gx s o ν;refine⟨List.nodup_cons.2 ⟨Se,a⟩,λag=>?_⟩;rw[List.mem_cons];constructor
  ·rintro(rfl|ς)
   ·exact⟨i,mu,.rel,fb ..,η⟩
   ·obtain⟨j,m,g,Δ,Γ⟩:=(b ag).1 ς;have e:j≠i:=by rintro rfl;rw[Ν] at Δ;cases Δ;exact Γ rfl
    exact⟨j,m,g,by rw[hf j e];exact Δ,Γ⟩
  ·rintro⟨j,m,g,Δ,Γ⟩;by_cases e:j=i
   ·subst e;rw[fb] at Δ;cases Δ;exact .inl rfl
   ·rw[hf j e] at Δ;exact .inr ((b ag).2 ⟨j,m,g,Δ,Γ⟩)
theorem eS.gtake (h:eS n tok spec view rel O bz home) {s i q:Nat} {aL:rX} {o:aS} (ν:O s=some o) (Ν:tok i s=.par q 0 aL) (mw:aL=.mj\/aL=.w4) :
  eS n (b4 tok i s (.par q 0 .bB)) spec (upd view i (upd (view i) s none)) rel (upd O s (some o)) bz home:=by
 have br:i<n:=h.lt (s:=s) (by rw[Ν];simp)
 have hw:py o (.par q 0 aL) o (.par q 0 .bB):=.gtake mw
 have hf:∀j,j≠i->∀r,b4 tok i s (.par q 0 .bB) j r=tok j r:=λj ε r=>e2 _ λx=>ε x.1
 have cs:∀j r k m g,b4 tok i s (.par q 0 .bB) j r=.ch k m g↔tok j r=.ch k m g:=λj r k m g=>by
  by_cases e:j=i/\r=s
  ·obtain⟨rfl,rfl⟩:=e;rw[fb,Ν];simp
  ·rw[e2 _ e]
 refine h.change ν Ν (.inl ⟨_,_,_,_,_,_,rfl,rfl,λk ς=>ς⟩) ⟨BM (h.bf s o ν).1 br Ν hw,BN (h.bf s o ν).2 br Ν hw⟩ (BL br Ν hw) rfl (λr φ q hv=>BZ hv) (λj ag kF g ε=>?_) (λj ag m g aj ε=>?_) h.tt (λj r ε ι=>?_) (λj ag m g ε Ξ=>?_) ?_ ?_
 ·rw[cs] at ε;exact h.dr j s ag kF g o ν ε
 ·rw[cs] at ε;exact h.ey j ag m g aj ε
 ·by_cases e:j=i/\r=s
  ·obtain⟨rfl,rfl⟩:=e;rw[fb];trivial
  ·rw[e2 _ e];exact h.oL j r ε ι
 ·rw[cs] at ε;exact h.oM j s ag m g o ν ε Ξ
 ·simp only[cs];exact h.fL s o ν
 ·simp only[cs];exact h.gx s o ν
end
end Go.TL
