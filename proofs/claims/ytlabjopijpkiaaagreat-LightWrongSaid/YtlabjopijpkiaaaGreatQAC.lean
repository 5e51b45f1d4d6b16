import Derived.Test.YtlabjopijpkiaaaGreatQAA
import Derived.Test.YtlabjopijpkiaaaGreatQAB
set_option maxHeartbeats 16000000
set_option maxRecDepth 20000
set_option linter.unusedSectionVars false
set_option linter.unusedSimpArgs false
set_option linter.unusedVariables false
namespace Go.TL
open Go.Conc
open Go.ConcN (sumTo upd sumTo_upd upd_ne upd_same sumTo_congr le_sumTo)
section
variable {N i:Nat} {o o':aM} {τ:Nat->Tok} {t t':Tok}
theorem KZ (o':aM) (Γ:o'.top=o.top) (hi:i<N) (Ξ:τ i=t) (h:l5 o.top t'+9*o'.c0+2*o'.cH<l5 o.top t+9*o.c0+2*o.cH):eA N o' (upd τ i t')<eA N o τ:=by
 have e:=gv τ t' (l5 o.top) hi;rw[Ξ] at e;unfold eA;rw[Γ];omega
theorem K1 (hi:i<N) (Ξ:τ i=t) (ν:Act o t o' t'):eA N o' (upd τ i t')<eA N o τ:=by
 cases ν<;>refine KZ _ rfl hi Ξ ?_
 case acq aw _ _=>cases aw<;>simp[l5,u5]
 case queue aw _ _ _=>cases aw<;>simp[l5,u5]
 case take=>simp[l5,u5];omega
 case add=>simp[l5];omega
 case wake=>simp[l5,xk];omega
 all_goals (simp[l5,u5,BY,xk]<;>omega)
theorem B2 (hi:i<N) (Ξ:τ i=t) (ν:po o t o' t'):eA N o' (upd τ i t')<eA N o τ:=by
 cases ν<;>refine KZ _ rfl hi Ξ ?_
 case gtake ae ω=>rcases ω with rfl|rfl<;>simp[l5,xk]
 all_goals (simp[l5,u5,BY,xk]<;>omega)
theorem F4 {φ:Tok->Nat} (hi:i<N) (h:φ t'=φ (τ i)):a7 N (upd τ i t') φ=a7 N τ φ:=by
 have:=gv τ t' φ hi;omega
theorem B3 (h:pn N o τ) (hi:i<N) (Ξ:τ i=t) (ν:po o t o' t'):pn N o' (upd τ i t'):=by
 unfold pn at h ⊢;cases ν<;>
 (repeat rw[F4 hi (by rw[Ξ];rfl)])<;>exact h
theorem B4 (h:oo N o τ) (hi:i<N) (Ξ:τ i=t) (ν:po o t o' t'):oo N o' (upd τ i t'):=by
 unfold oo at h ⊢;cases ν
 case gtake ae ω=>rcases ω with rfl|rfl<;>(repeat rw[F4 hi (by rw[Ξ];rfl)])<;>exact h
 all_goals (repeat rw[F4 hi (by rw[Ξ];rfl)])<;>exact h
theorem vb (N:Nat) (τ:Nat->Tok) (φ:Tok->Nat):a7 (N+1) τ φ=a7 N τ φ+φ (τ N):=rfl
theorem K2 {φ:Tok->Nat} (et:φ .nil=0) (h:τ N=.nil):a7 (N+1) τ φ=a7 N τ φ:=by rw[vb,h,et];rfl
theorem K3 (h:tl N o τ) (Ι:τ N=.nil):tl (N+1) o τ:=by
 unfold tl pn oo at h ⊢
 repeat rw[K2 (by rfl) Ι]
 exact h
theorem K4 (Ι:τ N=.nil):eA (N+1) o τ=eA N o τ:=by
 unfold eA;rw[K2 (by rfl) Ι]
theorem Sc {j n p:Nat} (h:tl N o τ) (hi:i<N) (ε:j<N) (fE:i≠j) (Ξ:τ i=.par n (p+1) .add) (Ι:τ j=.nil) (k:Nat) :
  tl N o (upd (upd τ i (.par n p .add)) j (.ch k .idle .work)):=by
 have bp:upd τ i (.par n p .add) j=.nil:=by rw[upd_ne _ _ (Ne.symm fE)];exact Ι
 have key:∀φ:Tok->Nat,a7 N (upd (upd τ i (.par n p .add)) j (.ch k .idle .work)) φ+φ .nil+φ (.par n (p+1) .add)=a7 N τ φ+φ (.par n p .add)+φ (.ch k .idle .work):=λφ=>by
  have Ε:=gv τ (.par n p .add) φ hi
  have Ζ:=gv (upd τ i (.par n p .add)) (.ch k .idle .work) φ ε;rw[Ξ] at Ε;rw[bp] at Ζ;omega
 obtain⟨cd,cX⟩:=h;constructor
 ·unfold pn at cd ⊢;have f1:=key h';have f2:=key nI;have f3:=key l3;have f4:=key lb;have f5:=key mX;have f6:=key lf;have f7:=key qz;have f8:=key nJ;have f9:=key qy;simp only[h',nI,l3,lb,mX,lf,qz,nJ,qy,y4,BV,u2,y5,BW,y6,FW,BX,FV,Nat.add_zero] at f1 f2 f3 f4 f5 f6 f7 f8 f9;rw[f1,f2,f3,f4,f5,f6,f7,f8,f9];exact cd
 ·unfold oo at cX ⊢;have f1:=key iU;have f2:=key jR;have f3:=key jS;have f4:=key lg;have f5:=key eM;have f6:=key hl;have f7:=key ia;have f8:=key l4;have f9:=key lh;have f10:=key ib;simp only[iU,jR,jS,lg,eM,hl,ia,l4,lh,ib,rU,u3,u4,Nat.add_zero] at f1 f2 f3 f4 f5 f6 f7 f8 f9 f10;obtain⟨fY,tn,y9,y',F3,R9,R',Sa,Sb⟩:=cX;constructor<;>omega
theorem Sd {j n p:Nat} (hi:i<N) (ε:j<N) (fE:i≠j) (Ξ:τ i=.par n (p+1) .add) (Ι:τ j=.nil) (k:Nat) :
  eA N o (upd (upd τ i (.par n p .add)) j (.ch k .idle .work))<eA N o τ:=by
 have bp:upd τ i (.par n p .add) j=.nil:=by rw[upd_ne _ _ (Ne.symm fE)];exact Ι
 have Ε:=gv τ (.par n p .add) (l5 o.top) hi
 have Ζ:=gv (upd τ i (.par n p .add)) (.ch k .idle .work) (l5 o.top) ε;rw[Ξ] at Ε;rw[bp] at Ζ;simp only[l5,u5,BY,xk] at Ε Ζ;unfold eA;omega
theorem B5 {φ:Tok->Nat} (h:0<a7 N τ φ):∃i,i<N/\0<φ (τ i):=by
 have g1:∀n,0<a7 n τ φ->∃i,i<n/\0<φ (τ i):=λn=>by
  induction n with
  | zero=>intro h;cases h
  | succ n Δ=>
   intro h;rw[vb] at h;by_cases ah:0<φ (τ n)
   ·exact⟨n,by omega,ah⟩
   ·obtain⟨i,hi,ω⟩:=Δ (by omega);exact⟨i,by omega,ω⟩
 exact g1 N h
def ov:Tok->Prop
 | .ch _ .own _|.ch _ (.dj _) _|.ch _ .fin _|.ch _ .us _|.ch _ .wk _|.ch _ .hw _|.ch _ (.act true) _|.ch _ .uc _=>True
 | _=>False
theorem Se (h:pn N o τ) (Χ:0<a7 N τ lb) (ah:o.c0=0):∃i,i<N/\ov (τ i):=by
 have pick:∀{φ:Tok->Nat},(∀t,0<φ t->ov t)->0<a7 N τ φ->∃i,i<N/\ov (τ i):=λet ω=>let ⟨i,hi,U⟩:=B5 ω;⟨i,hi,et _ U⟩
 have Sf:∀t,0<h' t->ov t:=λt Ξ=>by cases t<;>simp_all [h',ov];rename_i m _;cases m<;>simp_all [y4]
 have B6:∀t,0<nI t->ov t:=λt Ξ=>by cases t<;>simp_all [nI,ov];rename_i m _;cases m<;>simp_all [BV]
 have za:∀t,0<l3 t->ov t:=λt Ξ=>by cases t<;>simp_all [l3,ov];rename_i m _;cases m<;>simp_all [u2];rename_i b;cases b<;>simp_all [u2]
 have Sg:∀t,0<nJ t->ov t:=λt Ξ=>by cases t<;>simp_all [nJ,ov];rename_i m _;cases m<;>simp_all [BX]
 obtain⟨f1,f2,f3,hH,l6,u',tn,y9,y'⟩:=h;by_cases c1:0<a7 N τ h'
 ·exact pick Sf c1
 by_cases c2:0<a7 N τ nI
 ·exact pick B6 c2
 by_cases c3:0<a7 N τ l3
 ·exact pick za c3
 by_cases c4:0<a7 N τ nJ
 ·exact pick Sg c4
 exfalso;rcases(show o.sv=0\/o.sv=1 by omega) with ο|ο
 ·have:=l6 ο;have:=tn ο;omega
 ·have:=u' ο;omega
def qC:Tok->Prop
 | .ch _ _ .work|.ch _ _ .rel|.ch _ _ .l2|.ch _ _ .hG=>True
 | _=>False
theorem Si (h:oo N o τ) {n p:Nat} (hi:i<N) (Ξ:τ i=.par n p .w3) (ah:o.cH=0):∃j,j<N/\qC (τ j):=by
 have pick:∀{φ:Tok->Nat},(∀t,0<φ t->qC t)->0<a7 N τ φ->∃i,i<N/\qC (τ i):=λet ω=>let ⟨i,hi,U⟩:=B5 ω;⟨i,hi,et _ U⟩
 have bP:∀t,0<iU t->qC t:=λt Ξ=>by cases t<;>simp_all [iU,qC];rename_i m;cases m<;>simp_all [rU]
 have dw:∀t,0<jR t->qC t:=λt Ξ=>by cases t<;>simp_all [jR,qC];rename_i m;cases m<;>simp_all [u3]
 have fN:∀t,0<jS t->qC t:=λt Ξ=>by cases t<;>simp_all [jS,qC];rename_i m;cases m<;>simp_all [u4]
 have w:=pq (φ:=lh) (λt Ξ=>by cases t<;>simp_all [eM,lh]) h.nK hi (by rw[Ξ];rfl);rw[Ξ] at w;have:=h.RK w;have:=h.FX;by_cases c1:0<a7 N τ iU
 ·exact pick bP c1
 by_cases c2:0<a7 N τ jR
 ·exact pick dw c2
 by_cases c3:0<a7 N τ jS
 ·exact pick fN c3
 exfalso;omega
end
end Go.TL
namespace Go.TL
open Go.Conc
open Go.ConcM (OsLater)
open Go.ConcN (sumTo upd sumTo_upd upd_ne upd_same sumTo_congr le_sumTo)
open Go.ConcR (mk)
inductive fZ (B:Type):Type where
 | leaf
 | node (f:B->fZ B)
inductive mY {B:Type}:List (fZ B)->List (fZ B)->Prop where
 | one (a b:List (fZ B)) (f:B->fZ B) (k:B):mY (a++f k::b) (a++fZ.node f::b)
 | two (a b:List (fZ B)) (f:B->fZ B) (k ab:B):mY (a++f k::f ab::b) (a++fZ.node f::b)
theorem mY.cons_inv {B:Type} {l:List (fZ B)} {t:fZ B} {m:List (fZ B)} (h:mY m (t::l)) :
  (∃b2,mY b2 l/\m=t::b2)\/(∃f k,t=.node f/\m=f k::l)\/(∃f k ab,t=.node f/\m=f k::f ab::l):=by
 generalize U:t::l=x at h;cases h with
 | one a b f k=>
  cases a with
  | nil=>simp at U;exact .inr (.inl ⟨f,k,U.1,by rw[U.2];rfl⟩)
  | cons y a=>simp at U;exact .inl ⟨a++f k::b,by rw[U.2];exact .one a b f k,by rw[U.1];rfl⟩
 | two a b f k ab=>
  cases a with
  | nil=>simp at U;exact .inr (.inr ⟨f,k,ab,U.1,by rw[U.2];rfl⟩)
  | cons y a=>simp at U;exact .inl ⟨a++f k::f ab::b,by rw[U.2];exact .two a b f k ab,by rw[U.1];rfl⟩
theorem mY.Sj {B:Type} (t:fZ B):∀l,Acc mY l->Acc mY (t::l):=by
 induction t with
 | leaf=>
  intro l Α
  induction Α with
  | intro l _ Δ=>
   refine⟨_,λm hm=>?_⟩;rcases hm.cons_inv with⟨b2,J,rfl⟩|⟨f,k,h,_⟩|⟨f,k,ab,h,_⟩
   ·exact Δ b2 J
   ·cases h
   ·cases h
 | node f F5=>
  intro l Α
  induction Α with
  | intro l rV Δ=>
   refine⟨_,λm hm=>?_⟩;rcases hm.cons_inv with⟨b2,J,rfl⟩|⟨f',k,h,rfl⟩|⟨f',k,ab,h,rfl⟩
   ·exact Δ b2 J
   ·cases h;exact F5 k l ⟨l,rV⟩
   ·cases h;exact F5 k _ (F5 ab l ⟨l,rV⟩)
theorem mY.wf {B:Type}:WellFounded (mY (B:=B)):=⟨λl=>by
 induction l with
 | nil=>exact⟨_,λm hm=>by
   generalize U:([]:List (fZ B))=x at hm;cases hm<;>simp at U⟩
 | cons t l Δ=>exact mY.Sj t l Δ⟩
structure aU where
 G:ψ
 aF:Nat->Option (Array Value×TypeId)
 tok:Nat->Tok
 spec:Nat->Option Spec
 view:Nat->Option (Nat×aM)
 deaf:Nat
 rel:Bool
def zb (V:Nat->Option (Array Value×TypeId)) (w:World):Prop:=∀b c t,V b=some (c,t)->w.heap[b]?=some (.cells c t (0,0))
def cN (o:aM):Int:=(o.cnt:Int)*4294967296+o.wt
def mwd (o:aM):Int:=(o.cb:Int)+2*o.wk+4*o.sv+8*o.nw
def At (s:Nat) (o:aM) (w:World):Prop:=
 (∃ty,w.heap[s]?=some (.cells #[.int .u64 (cN o),.int .u32 o.cH] ty (0,0)))/\∀m,o.aT=some m->∃ty,w.heap[m]?=some (.cells #[.int .i32 (mwd o),.int .u32 o.c0] ty (0,0))
def ei (s:Nat) (sp:Spec) (b:Nat):Prop:=b=s\/sp.aT=some b
def vc (o:aM) (t:Tok):Prop:=∃N τ i,tl N o τ/\i<N/\τ i=t/\(∀k L g,t=.ch k (.dj L) g->o.L=L)
def F6 (x:aU) (s φ:Nat) (o:aM):Prop:=∀gI lk,x.view s=some (gI,lk)->φ<=gI/\(φ=gI->o=lk)
structure Sub (G' G:ψ):Prop where
 aG:∀b o v p,G'.aG b o=some (v,p)->∃fv,G.aG b o=some (v,fv)/\(p=true->fv=true)
 row:∀b x,G'.row b=some x->G.row b=some x
 obj:∀b x,G'.obj b=some x->G.obj b=some x
structure Split (G mZ m0:ψ):Prop where
 l:Sub mZ G
 r:Sub m0 G
 apart:Apart mZ m0
def join (G H:ψ):ψ:=
 ⟨λb o=>match G.aG b o with|some x=>some x|none=>H.aG b o,λb=>match G.row b with|some x=>some x|none=>H.row b,λb=>match G.obj b with|some x=>some x|none=>H.obj b⟩
def ll (D:Nat->ψ->Prop):List Nat->ψ->Prop
 | [],E=>E=ψ.empty
 | k::K5,E=>∃ps pt,D k ps/\ll D K5 pt/\Apart ps pt/\E=join ps pt
structure B7 (G G':ψ) (n:Nat):Prop where
 aG:∀b o v p,G'.aG b o=some (v,p)->n<=b\/∃v0 fv,G.aG b o=some (v0,fv)/\(p=true->fv=true)
 obj:∀b,G'.e0 b->n<=b\/G.e0 b
def F7 (V:Nat->Option (Array Value×TypeId)) (V':Nat->Option (Array Value×TypeId)) (G':ψ) (n:Nat):Prop:=
 ∀b c,V' b=some c->V b=some c\/(n<=b/\G'.off b)
def B8 (e:Event):Prop:=e.loc=.output\/e.loc=.mark .noRoom
def ow (s:Nat) (sp:Spec) (d:Nat) (es:Array Event):Prop:=
 deafBehind d es=d/\∀j e,es[j]?=some e->(e.loc=.mark .disable\/e.loc=.mark .enable\/(∃b off wr,e=⟨.cell ⟨b,off,none⟩,wr,true⟩/\ei s sp b/\0<deafBehind d (es.extract 0 j)))
def jT (o:aM):Tok->Prop
 | .ch _ .q _=>o.c0=0
 | .par _ _ .w3=>o.cH=0
 | _=>False
def m1:Tok->Prop
 | .nil=>True
 | .par _ _ .add|.par _ _ .bF=>True
 | .ch _ .idle _|.ch _ .done _=>True
 | _=>False
def fO:Tok->Prop
 | .nil=>True
 | .par _ _ .bF=>True
 | _=>False
def Gone:Tok->Prop
 | .nil=>True
 | .par _ _ .bF=>True
 | .ch _ _ .gone=>True
 | _=>False
abbrev zc:=Bool->Goroutine->aU->Prop
def iD (g:Goroutine):Prop:=g.status=.running/\g.offers=none
section
variable (P:Program) (mn:Bool) (af:zc) (g:Goroutine) (x:aU)
def K6:Prop:=∀w,Fits x.G w->zb x.aF w->(stepG P mn g w).goes λg' w' es=>∃G' V',iD g'/\ft x.G.owns x.G.e0 w w'/\Fits G' w'/\zb V' w'/\
 B7 x.G G' w.heap.size/\F7 x.aF V' G' w.heap.size/\(∀e∈es,if x.rel then B8 e else hk x.G w.heap.size w'.heap.size e)/\(∀b c,V' b=some c->w.heap.size<=b->∀e∈es,¬nH e.loc b)/\af mn g' {x with G:=G',aF:=V'}
def K7:Prop:=∃g',iD g'/\((∀w,Fits x.G w->stepG P mn g w=.go g' w #[mk .disable]/\af mn g' {x with deaf:=x.deaf+1})\/
 (0<x.deaf/\∀w,Fits x.G w->stepG P mn g w=.go g' w #[mk .enable]/\af mn g' {x with deaf:=x.deaf-1}))
def K8:Prop:=∃(s n p:Nat) (ae:rT) (g':Goroutine) (off:Nat) (wr:Bool),x.tok s=.par n p ae/\ae≠.bF/\x.rel=false/\iD g'/\∀w,Fits x.G w->stepG P mn g w=.go g' w #[mk (if wr then .write ⟨s,off,none⟩ else .read ⟨s,off,none⟩)]/\af mn g' x
def Atom:Prop:=∃s sp,x.spec s=some sp/\¬fO (x.tok s)/\∀w φ o,Fits x.G w->zb x.aF w->o.toSpec=sp->At s o w->F6 x s φ o->vc o (x.tok s)->
 ((stepG P mn g w).goes λg' w' es=>iD g'/\ft (λb _=>ei s sp b) (λ_=>False) w w'/\ow s sp x.deaf es/\
   ((At s o w'/\af mn g' {x with view:=upd x.view s (some (φ,o))})\/
    ∃o' t',Act o (x.tok s) o' t'/\At s o' w'/\(mayWake P g=true\/o'=o)/\∀cn,cn<φ->af mn g' {x with tok:=upd x.tok s t',view:=upd x.view s (some (cn,o'))}))\/
 (jT o (x.tok s)/\(∀bq,bq≠s->m1 (x.tok bq))/\stepG P mn g w=.go {g with status:=.blocked} w #[])
def K9:Prop:=∃s sp m k g',x.spec s=some sp/\sp.aT=some m/\x.tok s=.ch k .own .work/\x.deaf=0/\iD g'/\x.rel=false/\
 (∀w,Fits x.G w->stepG P mn g w=.go g' w #[mk (.acquire ⟨m,0,none⟩)])/\
 ∀L E,sp.aI L E->Apart x.G E->(L.Nodup/\k∉L/\∃w,Fits x.G w/\Fits E w)->af mn g' {x with G:=join x.G E,tok:=upd x.tok s (.ch k (.dj L) .work),view:=upd x.view s none}
def La:Prop:=∃s sp m k L g' G' E,x.spec s=some sp/\sp.aT=some m/\x.tok s=.ch k (.dj L) .work/\x.deaf=0/\iD g'/\x.rel=false/\
 (∀w,Fits x.G w->stepG P mn g w=.go g' w #[mk (.releaseMerge ⟨m,0,none⟩)])/\
 Split x.G G' E/\sp.aI (L++[k]) E/\af mn g' {x with G:=G',tok:=upd x.tok s (.ch k .fin .work),view:=upd x.view s none}
def Lb:Prop:=∃s sp k mu g' E,x.spec s=some sp/\x.tok s=.ch k mu .work/\(mu=.done\/(mu=.idle/\sp.aT=none))/\(∀bq,bq≠s->fO (x.tok bq))/\x.deaf=0/\iD g'/\x.rel=false/\
 (∀w,Fits x.G w->stepG P mn g w=.go g' w #[mk (.releaseMerge ⟨s,0,none⟩)])/\
 Sub E x.G/\sp.D k E/\af mn g' {x with G:=ψ.empty,aF:=λ_=>none,tok:=upd x.tok s (.ch k mu .rel),view:=upd x.view s none,rel:=true}
def Lc:Prop:=∃s sp n ae g',x.spec s=some sp/\x.tok s=.par n 0 ae/\(ae=.lZ\/ae=.w4)/\x.deaf=0/\iD g'/\x.rel=false/\
 (∀w,Fits x.G w->stepG P mn g w=.go g' w #[mk (.acquire ⟨s,0,none⟩)])/\
 ∀ga fw gJ eB,ga.Perm (List.range n)->ll sp.D ga gJ->(sp.aT≠none->fw.Perm (List.range n)/\sp.aI fw eB)->(sp.aT=none->eB=ψ.empty)->Apart x.G gJ->Apart x.G eB->Apart gJ eB->(∃w,Fits x.G w/\Fits gJ w/\Fits eB w)->
  af mn g' {x with G:=join (join x.G gJ) eB,tok:=upd x.tok s (.par n 0 .bF),view:=upd x.view s none}
def Ld:Prop:=∃s sp n p g' c mZ m0,x.spec s=some sp/\x.tok s=.par n (p+1) .add/\x.deaf=0/\iD g'/\iD c/\x.rel=false/\
 (∀w,Fits x.G w->stepG P mn g w=.spawn g' c w #[])/\Split x.G mZ m0/\
 af mn g' {x with G:=mZ,tok:=upd x.tok s (.par n p .add),view:=upd x.view s none}/\
 af false c ⟨m0,λ_=>none,upd (λ_=>.nil) s (.ch (n-(p+1)) .idle .work),upd (λ_=>none) s (some sp),λ_=>none,0,false⟩
def F8:Prop:=
 (∃G',Sub G' x.G/\af mn g {x with G:=G'})\/
 (∃b c t,x.aF b=some (c,t)/\af mn g {x with aF:=upd x.aF b none,G:=⟨λΦ o=>if Φ=b then(c[o]?).map (·,true) else x.G.aG Φ o,λΦ=>if Φ=b then some (t,c.size) else x.G.row Φ,x.G.obj⟩})\/
 (∃s sp ty G' E,x.aF s=some (#[.int .u64 0,.int .u32 0],ty)/\(∀m,sp.aT=some m->m≠s/\∃js,x.aF m=some (#[.int .i32 0,.int .u32 0],js))/\x.rel=false/\
  Split x.G G' E/\(sp.aT≠none->sp.aI [] E)/\
  af mn g {x with G:=G',aF:=λb=>if b=s\/sp.aT=some b then none else x.aF b,tok:=upd x.tok s (.par 0 0 .add),spec:=upd x.spec s (some sp),view:=upd x.view s none})
def Le:Prop:=mn=false/\g.status=.running/\x.rel=true/\(∀s,Gone (x.tok s))/\∃g' es,(∀e∈es,Event.mute e=true)/\(∀w,stepG P false g w=.go g' w es)/\af mn g' {x with deaf:=deafBehind x.deaf es}
def zd:Prop:=Le P mn af g x\/iD g/\(K6 P mn af g x\/K7 P mn af g x\/K8 P mn af g x\/Atom P mn af g x\/K9 P mn af g x\/La P mn af g x\/Lb P mn af g x\/Lc P mn af g x\/Ld P mn af g x\/F8 mn af g x)
def Lf (Q:Value->Prop):Prop:=iD g/\(∀s,fO (x.tok s))/\x.deaf=0/\∀w,Fits x.G w->∃v es,stepG P true g w=.ended (.done v) w es/\(∀e∈es,hk x.G w.heap.size w.heap.size e)/\Q v
def Sk:Prop:=x.rel=true/\(∀s,Gone (x.tok s))/\g.status=.finished/\x.deaf=0
def B9 (Q:Value->Prop):Prop:=(mn=true/\Lf P g x Q)\/(mn=false/\Sk g x)
def ze:Prop:=x.rel=true->(∀s,Gone (x.tok s))->∃n,QuitsD P n x.deaf g
end
open Classical in
def ju (P:Program) (Q:Value->Prop):fZ (Bool×Goroutine×aU)->zc
 | .leaf=>λmn g x=>ze P g x/\B9 P mn g x Q
 | .node f=>λmn g x=>ze P g x/\(B9 P mn g x Q\/zd P mn (λvd g' dd=>ju P Q (f (vd,g',dd)) vd g' dd) g x)
def Goes (P:Program) (Q:Value->Prop):zc:=λmn g x=>∃T,ju P Q T mn g x
theorem zd.mono {P:Program} {mn:Bool} {af Lg:zc} {g:Goroutine} {x:aU} (bg:∀mn g x,af mn g x->Lg mn g x) (h:zd P mn af g x):zd P mn Lg g x:=by
 rcases h with⟨Ε,Ζ,a6,Sl,g',es,eN,lj,qB⟩|⟨μ,h⟩
 ·exact .inl ⟨Ε,Ζ,a6,Sl,g',es,eN,lj,bg _ _ _ qB⟩
 refine .inr ⟨μ,?_⟩;rcases h with h|h|h|h|h|h|h|h|h|h
 ·refine .inl λw Τ hv=>?_;have:=h w Τ hv;revert this;cases stepG P mn g w<;>simp only[GStep.goes,imp_self];rintro⟨G',V',J,γ,π,Μ,aB,bc,gR,F9,nL⟩;exact⟨G',V',J,γ,π,Μ,aB,bc,gR,F9,bg _ _ _ nL⟩
 ·obtain⟨g',J,γ⟩:=h;exact .inr (.inl ⟨g',J,γ.elim (λh=>.inl λw Τ=>⟨(h w Τ).1,bg _ _ _ (h w Τ).2⟩) (λh=>.inr ⟨h.1,λw Τ=>⟨(h.2 w Τ).1,bg _ _ _ (h.2 w Τ).2⟩⟩)⟩)
 ·obtain⟨s,n,p,ae,g',off,wr,J,γ,hn,π,Μ⟩:=h;exact .inr (.inr (.inl ⟨s,n,p,ae,g',off,wr,J,γ,hn,π,λw Τ=>⟨(Μ w Τ).1,bg _ _ _ (Μ w Τ).2⟩⟩))
 ·obtain⟨s,sp,J,hn,π⟩:=h;refine .inr (.inr (.inr (.inl ⟨s,sp,J,hn,λw φ o Τ hv ο ν zf ω=>?_⟩)));refine(π w φ o Τ hv ο ν zf ω).imp (λh=>?_) id;revert h;cases stepG P mn g w<;>simp only[GStep.goes,imp_self];rintro⟨J,γ,π,Μ⟩;exact⟨J,γ,π,Μ.imp (λh=>⟨h.1,bg _ _ _ h.2⟩) λ⟨o',t',a1,ba,cm,fY⟩=>⟨o',t',a1,ba,cm,λcn et=>bg _ _ _ (fY cn et)⟩⟩
 ·obtain⟨s,sp,m,k,g',J,γ,π,Μ,aB,tp,bc,gR⟩:=h;exact .inr (.inr (.inr (.inr (.inl ⟨s,sp,m,k,g',J,γ,π,Μ,aB,tp,bc,λL E a b c=>bg _ _ _ (gR L E a b c)⟩))))
 ·obtain⟨s,sp,m,k,L,g',G',E,J,γ,π,Μ,aB,tp,bc,gR,nL,tq⟩:=h;exact .inr (.inr (.inr (.inr (.inr (.inl ⟨s,sp,m,k,L,g',G',E,J,γ,π,Μ,aB,tp,bc,gR,nL,bg _ _ _ tq⟩)))))
 ·obtain⟨s,sp,k,mu,g',E,J,γ,π,Μ,aB,bc,Sm,gR,nL,tq,F'⟩:=h;exact .inr (.inr (.inr (.inr (.inr (.inr (.inl ⟨s,sp,k,mu,g',E,J,γ,π,Μ,aB,bc,Sm,gR,nL,tq,bg _ _ _ F'⟩))))))
 ·obtain⟨s,sp,n,ae,g',J,γ,π,Μ,aB,tp,bc,gR⟩:=h;exact .inr (.inr (.inr (.inr (.inr (.inr (.inr (.inl ⟨s,sp,n,ae,g',J,γ,π,Μ,aB,tp,bc,λga fw gJ eB a b c d e f g i=>bg _ _ _ (gR ga fw gJ eB a b c d e f g i)⟩)))))))
 ·obtain⟨s,sp,n,p,g',c,mZ,m0,J,γ,π,Μ,aB,tp,bc,gR,nL,tq⟩:=h;exact .inr (.inr (.inr (.inr (.inr (.inr (.inr (.inr (.inl ⟨s,sp,n,p,g',c,mZ,m0,J,γ,π,Μ,aB,tp,bc,gR,bg _ _ _ nL,bg _ _ _ tq⟩))))))))
 ·refine .inr (.inr (.inr (.inr (.inr (.inr (.inr (.inr (.inr ?_))))))));rcases h with⟨G',J,γ⟩|⟨b,c,t,J,γ⟩|⟨s,sp,ty,G',E,J,γ,π,Μ,aB,gR⟩
  ·exact .inl ⟨G',J,bg _ _ _ γ⟩
  ·exact .inr (.inl ⟨b,c,t,J,bg _ _ _ γ⟩)
  ·exact .inr (.inr ⟨s,sp,ty,G',E,J,γ,π,Μ,aB,bg _ _ _ gR⟩)
theorem Goes.stop {P:Program} {Q:Value->Prop} {mn:Bool} {g:Goroutine} {x:aU} (Γ:ze P g x) (h:B9 P mn g x Q):Goes P Q mn g x:=⟨.leaf,Γ,h⟩
open Classical in
theorem Goes.step {P:Program} {Q:Value->Prop} {mn:Bool} {g:Goroutine} {x:aU} (Γ:ze P g x) (h:zd P mn (Goes P Q) g x):Goes P Q mn g x:=by
 refine⟨.node λk=>if χ:∃T,ju P Q T k.1 k.2.1 k.2.2 then Classical.choose χ else .leaf,Γ,.inr (h.mono λvd g' dd Υ=>?_)⟩;have χ:∃T,ju P Q T vd g' dd:=Υ;simp only[χ,dif_pos];exact Classical.choose_spec χ
theorem Goes.quits {P:Program} {Q:Value->Prop} (n:Nat):∀{g:Goroutine} {x:aU},x.rel=true->(∀s,Gone (x.tok s))->QuitsD P n x.deaf g->Goes P Q false g x:=by
 induction n with
 | zero=>
  intro g x μ Υ Χ;exact .stop (λ_ _=>⟨0,Χ⟩) (.inr ⟨rfl,μ,Υ,Χ.1,Χ.2⟩)
 | succ n Δ=>
  intro g x μ Υ Χ;rcases Χ with Χ|⟨ο,g',es,J,γ,π⟩
  ·exact .stop (λ_ _=>⟨0,Χ⟩) (.inr ⟨rfl,μ,Υ,Χ.1,Χ.2⟩)
  ·exact .step (λ_ _=>⟨n+1,.inr ⟨ο,g',es,J,γ,π⟩⟩) (.inl ⟨rfl,ο,μ,Υ,g',es,J,γ,Δ (x:={x with deaf:=deafBehind x.deaf es}) μ Υ π⟩)
abbrev cF:=Nat ⊕ Nat
def bM (H:cF->ψ) (h:cF) (G:ψ):cF->ψ:=λk=>if k=h then G else H k
@[simp] theorem dD (H:cF->ψ) (h:cF) (G:ψ):bM H h G h=G:=by simp[bM]
theorem bN (H:cF->ψ) {h k:cF} (G:ψ) (χ:k≠h):bM H h G k=H k:=by simp[bM,χ]
structure c5 where
 H:cF->ψ
 aF:Nat->Nat->Option (Array Value×TypeId)
 tok:Nat->Nat->Tok
 spec:Nat->Nat->Option Spec
 view:Nat->Nat->Option (Nat×aM)
 deaf:Nat->Nat
 rel:Nat->Bool
 T:Nat->fZ (Bool×Goroutine×aU)
 O:Nat->Option aM
 bz:Nat->Nat
 home:Nat->Nat
 dx:Nat->Nat
def c5.x (c:c5) (i:Nat):aU:=⟨c.H (.inl i),c.aF i,c.tok i,c.spec i,c.view i,c.deaf i,c.rel i⟩
structure g2 (H:cF->ψ) (aF:Nat->Nat->Option (Array Value×TypeId)) (O:Nat->Option aM) (bs w:World):Prop where
 fit:∀h,Fits (H h) w
 l7:∀i,zb (aF i) w
 fF:∀s o,O s=some o->At s o w
 keep:ft (λ_ _=>False) (λ_=>False) bs w
structure ic (H:cF->ψ) (aF:Nat->Nat->Option (Array Value×TypeId)) (O:Nat->Option aM) (ho:Nat):Prop where
 apart:∀h k,h≠k->Apart (H h) (H k)
 high:∀h b o,(H h).owns b o->ho<=b
 nM:∀h b,(H h).e0 b->ho<=b
 fresh:∀i b v,aF i b=some v->ho<=b/\(∀h,(H h).off b)/\∀j,j≠i->aF j b=none
 j':∀s o b,O s=some o->ei s o.toSpec b->ho<=b/\(∀h,(H h).off b)/\∀j,aF j b=none
 ky:∀s bq o o' b,O s=some o->O bq=some o'->ei s o.toSpec b->ei bq o'.toSpec b->s=bq
 pv:∀s o m,O s=some o->o.aT=some m->m≠s
 eu:∀b,(∀s o,O s=some o->¬ei s o.toSpec b)->H (.inr b)=ψ.empty
theorem g2.own {H:cF->ψ} {aF:Nat->Nat->Option (Array Value×TypeId)} {O:Nat->Option aM} {bs w w':World} {ho:Nat} (cd:g2 H aF O bs w) (Β:ic H aF O ho) (i:Nat) {G':ψ} {V':Nat->Option (Array Value×TypeId)}
  (χ:ft (H (.inl i)).owns (H (.inl i)).e0 w w') (Τ:Fits G' w') (hv:zb V' w') (ah:bs.heap.size=ho):g2 (bM H (.inl i) G') (upd aF i V') O bs w':=by
 have ap:∀h,h≠.inl i->(∀b o,(H (.inl i)).owns b o->¬(H h).has b o)/\∀b,(H (.inl i)).e0 b->¬(H h).e0 b:=λh aS=>⟨(Β.apart _ _ (Ne.symm aS)).aG,(Β.apart _ _ (Ne.symm aS)).obj⟩;refine⟨λh=>?_,λj=>?_,λs o ο=>?_,?_⟩
 ·by_cases aS:h=.inl i
  ·subst aS;rw[dD];exact Τ
  ·rw[bN _ _ aS];exact(cd.fit h).keeps χ (ap h aS).1 (ap h aS).2
 ·by_cases ε:j=i
  ·subst ε;rw[upd_same];exact hv
  ·rw[upd_ne _ _ ε];intro b c t hb;obtain⟨c',J,γ,π⟩:=χ.cells b c t _ (cd.l7 j b c t hb);have off:=(Β.fresh j b _ hb).2.1 (.inl i);have:c'=c:=by
    apply Array.ext_getElem?;intro o;exact π o λ⟨v,hv⟩=>off.1 o ⟨_,hv⟩
   rw[J,this]
 ·have off:=λb (hb:ei s o.toSpec b)=>(Β.j' s o b ο hb).2.1 (.inl i)
  have zg:∀b c t,ei s o.toSpec b->w.heap[b]?=some (.cells c t (0,0))->w'.heap[b]?=some (.cells c t (0,0)):=λb c t hb ζ=>by
   obtain⟨c',J,γ,π⟩:=χ.cells b c t _ ζ;have:c'=c:=by
    apply Array.ext_getElem?;intro o';exact π o' λ⟨v,hv⟩=>(off b hb).1 o' ⟨_,hv⟩
   rw[J,this]
  obtain⟨⟨ty,J⟩,γ⟩:=cd.fF s o ο;exact⟨⟨ty,zg _ _ _ (.inl rfl) J⟩,λm hm=>let ⟨js,π⟩:=γ m hm;⟨js,zg _ _ _ (.inr hm) π⟩⟩
 ·have eC:=cd.keep;refine⟨Nat.le_trans eC.size χ.size,λb c t dR hb=>?_,λb x hb U _=>?_,eC.os.trans χ.os,χ.output.trans eC.output,χ.tape.trans eC.tape⟩
  ·obtain⟨c1,J,γ,π⟩:=eC.cells b c t dR hb;obtain⟨c2,Μ,aB,bc⟩:=χ.cells b c1 t dR J;refine⟨c2,Μ,by rw[aB,γ],λo _=>?_⟩;rw[bc o λU=>?_,π o id];have:=Β.high _ _ _ U;have:=fu hb;omega
  ·refine χ.mV b x (eC.mV b x hb U id) U λhF=>?_;have:=Β.nM _ _ hF;have:=fu hb;omega
theorem g2.at {H:cF->ψ} {aF:Nat->Nat->Option (Array Value×TypeId)} {O:Nat->Option aM} {bs w:World} (h:g2 H aF O bs w) (d:Nat):g2 H aF O bs (w.at d):=
 ⟨λk=>(h.fit k).at d,h.l7,h.fF,⟨h.keep.size,h.keep.cells,h.keep.mV,h.keep.os,h.keep.output,h.keep.tape⟩⟩
theorem ic.own {H:cF->ψ} {aF:Nat->Nat->Option (Array Value×TypeId)} {O:Nat->Option aM} {ho:Nat} {w:World} {bs:World} (Β:ic H aF O ho) (cd:g2 H aF O bs w) (ck:ho<=w.heap.size) (i:Nat) {G':ψ} {V':Nat->Option (Array Value×TypeId)}
  (Υ:B7 (H (.inl i)) G' w.heap.size) (qD:F7 (aF i) V' G' w.heap.size):ic (bM H (.inl i) G') (upd aF i V') O ho:=by
 have Lh:∀b o,G'.has b o->w.heap.size<=b\/(H (.inl i)).has b o:=λb o ⟨⟨v,p⟩,h⟩=>(Υ.aG b o v p h).imp id λ⟨v0,fv,ah,_⟩=>⟨_,ah⟩
 have Li:∀b o,G'.owns b o->w.heap.size<=b\/(H (.inl i)).owns b o:=λb o ⟨v,h⟩=>(Υ.aG b o v true h).imp id λ⟨v0,fv,ah,ω⟩=>⟨v0,by rw[ah,ω rfl]⟩
 have ve:∀h b o,(H h).has b o->b<w.heap.size:=λh b o ⟨⟨v,p⟩,U⟩=>by
  obtain⟨c,t,dR,hb,_⟩:=qx ((cd.fit h).aG b o v p U);exact fu hb
 have zh:∀h b,(H h).e0 b->b<w.heap.size:=λh b ⟨x,U⟩=>fu ((cd.fit h).obj b x U).1
 have Lj:∀k,k≠.inl i->Apart G' (H k):=λk χ=>by
  have a:=Β.apart _ _ (Ne.symm χ);refine⟨λb o Γ U=>?_,λb o Γ U=>?_,λb Γ U=>?_⟩
  ·rcases Li b o Γ with h|h
   ·have:=ve k b o U;omega
   ·exact a.aG b o h U
  ·rcases Lh b o U with h|h
   ·have:=ve k b o (let ⟨v,hv⟩:=Γ;⟨_,hv⟩);omega
   ·exact a.qw b o Γ h
  ·rcases Υ.obj b Γ with h|h
   ·have:=zh k b U;omega
   ·exact a.obj b h U
 have Sn:∀{A B:ψ},Apart A B->Apart B A:=λh=>⟨h.qw,h.aG,λb hb ν=>h.obj b ν hb⟩
 have Ga:∀b,b<w.heap.size->(H (.inl i)).off b->G'.off b:=λb hb h=>⟨λo Γ=>(Lh b o Γ).elim (λx=>by omega) (h.1 o),λΓ=>(Υ.obj b Γ).elim (λx=>by omega) h.2⟩
 have xl:∀j b v,aF j b=some v->b<w.heap.size:=λj b v hv=>fu (cd.l7 j b v.1 v.2 hv)
 have Gb:∀s o b,O s=some o->ei s o.toSpec b->b<w.heap.size:=λs o b ο hb=>by
  obtain⟨⟨ty,J⟩,γ⟩:=cd.fF s o ο;rcases hb with rfl|hb
  ·exact fu J
  ·obtain⟨js,π⟩:=γ b hb;exact fu π
 refine⟨λh k χ=>?_,λh b o Γ=>?_,λh b Γ=>?_,λj b v hv=>?_,λs o b ο hb=>?_,Β.ky,Β.pv,λb hb=>?_⟩
 ·by_cases aS:h=.inl i
  ·subst aS;rw[dD,bN _ _ (Ne.symm χ)];exact Lj k (Ne.symm χ)
  ·by_cases kk:k=.inl i
   ·subst kk;rw[dD,bN _ _ aS];exact Sn (Lj h aS)
   ·rw[bN _ _ aS,bN _ _ kk];exact Β.apart h k χ
 ·by_cases aS:h=.inl i
  ·subst aS;rw[dD] at Γ;rcases Li b o Γ with h|h
   ·omega
   ·exact Β.high _ _ _ h
  ·rw[bN _ _ aS] at Γ;exact Β.high _ _ _ Γ
 ·by_cases aS:h=.inl i
  ·subst aS;rw[dD] at Γ;rcases Υ.obj b Γ with h|h
   ·omega
   ·exact Β.nM _ _ h
  ·rw[bN _ _ aS] at Γ;exact Β.nM _ _ Γ
 ·by_cases ε:j=i
  ·subst ε;rw[upd_same] at hv;rcases qD b v hv with h|⟨J,γ⟩
   ·obtain⟨a1,ba,cm⟩:=Β.fresh j b v h;refine⟨a1,λcW=>?_,λbK bp=>by rw[upd_ne _ _ bp];exact cm bK bp⟩;by_cases aS:cW=.inl j
    ·subst aS;rw[dD];exact Ga b (xl j b v h) (ba _)
    ·rw[bN _ _ aS];exact ba _
   ·refine⟨by omega,λcW=>?_,λbK bp=>?_⟩
    ·by_cases aS:cW=.inl j
     ·subst aS;rw[dD];exact γ
     ·rw[bN _ _ aS];exact⟨λo Γ=>by have:=ve cW b o Γ;omega,λΓ=>by have:=zh cW b Γ;omega⟩
    ·rw[upd_ne _ _ bp];cases ζ:aF bK b with
     | none=>rfl
     | some e'=>have:=xl bK b e' ζ;omega
  ·rw[upd_ne _ _ ε] at hv;obtain⟨a1,ba,cm⟩:=Β.fresh j b v hv;have hb:=xl j b v hv;refine⟨a1,λcW=>?_,λbK bp=>?_⟩
   ·by_cases aS:cW=.inl i
    ·subst aS;rw[dD];exact Ga b hb (ba _)
    ·rw[bN _ _ aS];exact ba _
   ·by_cases cW:bK=i
    ·subst cW;rw[upd_same];cases ζ:V' b with
     | none=>rfl
     | some e'=>
      rcases qD b e' ζ with h|⟨J,_⟩
      ·rw[cm bK bp] at h;cases h
      ·omega
    ·rw[upd_ne _ _ cW];exact cm bK bp
 ·obtain⟨a1,ba,cm⟩:=Β.j' s o b ο hb;have tr:=Gb s o b ο hb;refine⟨a1,λcW=>?_,λbK=>?_⟩
  ·by_cases aS:cW=.inl i
   ·subst aS;rw[dD];exact Ga b tr (ba _)
   ·rw[bN _ _ aS];exact ba _
  ·by_cases cW:bK=i
   ·subst cW;rw[upd_same];cases ζ:V' b with
    | none=>rfl
    | some e'=>
     rcases qD b e' ζ with h|⟨J,_⟩
     ·rw[cm bK] at h;cases h
     ·omega
   ·rw[upd_ne _ _ cW];exact cm bK
 ·rw[bN _ _ (by simp)];exact Β.eu b hb
def jv (tok:Nat->Nat->Tok) (O:Nat->Option aM) (t:Trace):cF->Nat->Prop
 | .inl i,k=>Knows t i k
 | .inr b,k=>(∃p op,t[p]?=some op/\op.act=.mark (.releaseMerge ⟨b,0,none⟩)/\t.heard p/\Before t k p)\/(∀s o,O s=some o->ei s o.toSpec b->∀i,tok i s≠.nil->Knows t i k)
theorem Gc {tok:Nat->Nat->Tok} {O:Nat->Option aM} {t:Trace} (u:Trace) {h:cF} {k:Nat} (χ:jv tok O t h k):jv tok O (t++u) h k:=by
 cases h with
 | inl i=>exact Knows.app u χ
 | inr b=>
  rcases χ with⟨p,op,J,γ,π,Μ⟩|h
  ·have ω:=lt_size_of_getElem? J;exact .inl ⟨p,op,by rw[getElem?_append_old ω];exact J,γ,(heard_old ω).2 π,Μ.app u⟩
  ·exact .inr λs o ο hb i hi=>(h s o ο hb i hi).app u
structure iE (H:cF->ψ) (aF:Nat->Nat->Option (Array Value×TypeId)) (tok:Nat->Nat->Tok) (O:Nat->Option aM) (bz:Nat->Nat) (deaf:Nat->Nat) (N:Nat) (t:Trace):Prop where
 race:∀said,¬Race said t
 low:∀op∈t,op.act.low N
 norel:∀op∈t,∀a,op.act≠.mark (.release a)
 perms:∀h,dm t (jv tok O t h) (H h)
 ox:∀i b v,aF i b=some v->∀k a,touchAt t k=some a->¬nH a.loc b
 cont:∀s o b,O s=some o->ei s o.toSpec b->∀k a,touchAt t k=some a->nH a.loc b->a.kind=.atomic\/(a.kind=.said/\t.g? k=some (bz s))
 hears:∀i,Deaf t i=deaf i
theorem zi {t:Trace} {N k:Nat} {a:Touch} (h:∀op∈t,op.act.low N) (ν:touchAt t k=some a) {b:Nat} (hb:nH a.loc b):b<N:=by
 obtain⟨op,Γ,ie⟩:=touch_of ν;have Α:=h op (mem_of_getElem? Γ);obtain⟨g,fn,pos,act⟩:=op;cases act with
 | access e=>
  simp only[MemAct.touch?,Option.some.injEq] at ie;subst ie;obtain⟨loc,wr,oy⟩:=e;cases loc<;>simp only[nH] at hb<;>first|(subst hb;exact Α)|exact hb.elim
 | mark m=>
  cases m<;>simp only[MemAct.touch?,Option.some.injEq,reduceCtorEq] at ie<;>(subst ie;simp only[nH] at hb;subst hb;exact Α)
 | _=>simp[MemAct.touch?] at ie
theorem B8.Gd {G:ψ} {n iT:Nat} {e:Event} (h:B8 e):hk G n iT e:=by
 rcases h with h|h<;>simp[hk,h]
theorem Ca {G:ψ} {n iT:Nat} {e:Event} (he:hk G n iT e) {a:Touch} (ν:(MemAct.ofEvent e).touch?=some a) :
  a.loc=e.loc/\a.write=e.write/\(a.loc.isMemory=true->(∃cx,e.loc=.cell cx)\/∃r,e.loc=.obj r):=by
 obtain⟨loc,wr,oy⟩:=e;cases loc with
 | cell cx=>simp[MemAct.ofEvent,MemAct.touch?] at ν;subst ν;simp
 | obj r=>
  simp only[hk] at he;obtain⟨rfl,_⟩:=he;cases wr<;>simp[MemAct.ofEvent,MemAct.touch?] at ν<;>subst ν<;>simp
 | output=>simp[MemAct.ofEvent,MemAct.touch?] at ν;subst ν;simp[Loc.isMemory]
 | goroutines=>exact he.elim
 | mark m=>simp only[hk] at he;subst he;simp[MemAct.ofEvent,MemAct.touch?] at ν
theorem iE.own {H:cF->ψ} {aF:Nat->Nat->Option (Array Value×TypeId)} {tok:Nat->Nat->Tok} {O:Nat->Option aM} {bz:Nat->Nat} {deaf:Nat->Nat} {bs w w':World} {ho:Nat} {t:Trace}
  (Θ:iE H aF tok O bz deaf w.heap.size t) (cd:g2 H aF O bs w) (Β:ic H aF O ho) (i:Nat) {G':ψ} {V':Nat->Option (Array Value×TypeId)} {es:Array Event} {fn:FuncId} {pos:String}
  (cp:w.heap.size<=w'.heap.size) (Υ:B7 (H (.inl i)) G' w.heap.size) (qD:F7 (aF i) V' G' w.heap.size)
  (fx:∀e∈es,hk (H (.inl i)) w.heap.size w'.heap.size e) (Ge:∀b c,V' b=some c->w.heap.size<=b->∀e∈es,¬nH e.loc b) :
  iE (bM H (.inl i) G') (upd aF i V') tok O bz deaf w'.heap.size (t++MemOp.ofEvents i fn pos es):=by
 have hu:∀op∈MemOp.ofEvents i fn pos es,op.g=i:=λop Ν=>by obtain⟨e,_,rfl⟩:=Go.Conc.mem_ofEvents Ν;rfl
 have ve:∀h b o,(H h).has b o->b<w.heap.size:=λh b o ⟨⟨v,p⟩,U⟩=>by
  obtain⟨c,t,dR,hb,_⟩:=qx ((cd.fit h).aG b o v p U);exact fu hb
 have zh:∀h b,(H h).e0 b->b<w.heap.size:=λh b ⟨x,U⟩=>fu ((cd.fit h).obj b x U).1
 have xl:∀j b v,aF j b=some v->b<w.heap.size:=λj b v hv=>fu (cd.l7 j b v.1 v.2 hv)
 have Gb:∀s o b,O s=some o->ei s o.toSpec b->b<w.heap.size:=λs o b ο hb=>by
  obtain⟨⟨ty,J⟩,γ⟩:=cd.fF s o ο;rcases hb with rfl|hb
  ·exact fu J
  ·obtain⟨js,π⟩:=γ b hb;exact fu π
 have Gf:∀e∈es,∀b,b<w.heap.size->(H (.inl i)).off b->¬nH e.loc b:=λe he b hb kz fa=>by
  have:=fx e he;obtain⟨loc,wr,oy⟩:=e;cases loc with
  | cell cx=>
   simp only[nH] at fa;subst fa;simp only[hk] at this;rcases this with h|⟨_,h⟩
   ·omega
   ·cases wr
    ·exact kz.1 _ h
    ·obtain⟨v,hv⟩:=h;exact kz.1 _ ⟨_,hv⟩
  | obj r=>
   simp only[nH] at fa;subst fa;simp only[hk] at this;rcases this.2 with h|h
   ·omega
   ·exact kz.2 h
  | _=>exact fa
 refine⟨λsaid=>noRace_append (Θ.race said) hu λk a ν op Ν b hb ζ=>?_,λop Ν=>?_,λop Ν=>?_,λh=>?_,λj b v hv k a ν fa=>?_,λs o b ο hb k a ν fa=>?_,λj=>?_⟩
 ·obtain⟨e,he,rfl⟩:=Go.Conc.mem_ofEvents Ν;obtain⟨J,γ,π⟩:=Ca (fx e he) hb;obtain⟨c1,c2,c3,_⟩:=ζ;have dy:=fx e he;rcases π (by rw[<-c1];exact c2) with⟨cx,Α⟩|⟨r,Α⟩
  ·simp only[hk,Α] at dy;have kA:a.loc=.cell cx:=by rw[c1,J,Α]
   rcases dy with h|⟨bX,h⟩
   ·have:=zi Θ.low ν (b:=cx.block) (by rw[kA];rfl);omega
   ·obtain⟨oz,gΤ,sp⟩:=cx;simp only at bX;subst bX;by_cases hw:e.write=true
    ·rw[if_pos hw] at h;obtain⟨v,hv⟩:=h;exact(Θ.perms (.inl i)).aG _ _ v true hv k a ν kA (.inl rfl)
    ·rw[if_neg hw] at h;obtain⟨⟨v,p⟩,hv⟩:=h;exact(Θ.perms (.inl i)).aG _ _ v p hv k a ν kA (.inr (c3.resolve_right (by rw[γ];exact hw)))
  ·simp only[hk,Α] at dy;have kA:a.loc=.obj r:=by rw[c1,J,Α]
   rcases dy.2 with h|h
   ·have:=zi Θ.low ν (b:=r) (by rw[kA];rfl);omega
   ·exact(Θ.perms (.inl i)).obj r h k a ν kA
 ·rcases Array.mem_append.1 Ν with h|h
  ·exact MemAct.low_mono cp (Θ.low op h)
  ·obtain⟨e,he,rfl⟩:=Go.Conc.mem_ofEvents h;have dy:=fx e he;obtain⟨loc,wr,oy⟩:=e;cases loc with
   | cell cx=>
    simp only[hk] at dy;show cx.block<_;rcases dy with h|⟨_,h⟩
    ·exact h.2
    ·cases wr
     ·have:=ve _ _ _ h;omega
     ·obtain⟨v,hv⟩:=h;have:=ve (.inl i) _ _ ⟨_,hv⟩;omega
   | obj r=>
    simp only[hk] at dy;obtain⟨rfl,dy⟩:=dy;have μ:r<w'.heap.size:=dy.elim (λh=>h.2) (λh=>by have:=zh _ _ h;omega);cases wr<;>exact μ
   | output=>trivial
   | goroutines=>exact dy.elim
   | mark m=>simp only[hk] at dy;subst dy;trivial
 ·rcases Array.mem_append.1 Ν with h|h
  ·exact Θ.norel op h
  ·obtain⟨e,he,rfl⟩:=Go.Conc.mem_ofEvents h;intro a h;have dy:=fx e he;obtain⟨loc,wr,oy⟩:=e;cases loc with
   | mark m=>simp only[hk] at dy;subst dy;simp[MemAct.ofEvent] at h
   | obj r=>cases wr<;>cases oy<;>simp[MemAct.ofEvent] at h
   | _=>simp[MemAct.ofEvent] at h
 ·by_cases aS:h=.inl i
  ·subst aS;rw[dD];have Lk:dm (t++MemOp.ofEvents i fn pos es) (Knows (t++MemOp.ofEvents i fn pos es) i) (H (.inl i)):=(Θ.perms (.inl i)).own hu;refine⟨λb o v p ζ k a ν Α hw=>?_,λb hb k a ν Α=>?_⟩
   ·rcases Υ.aG b o v p ζ with Ι|⟨v0,fv,ah,ω⟩
    ·rcases mW ν with eh|⟨_,op,Ν,χ,_⟩
     ·have:=zi Θ.low eh (b:=b) (by rw[Α];rfl);omega
     ·have:=knows_own χ;rwa [hu op Ν] at this
    ·exact Lk.aG b o v0 fv ah k a ν Α (hw.imp ω id)
   ·rcases Υ.obj b hb with Ι|ah
    ·rcases mW ν with eh|⟨_,op,Ν,χ,_⟩
     ·have:=zi Θ.low eh (b:=b) (by rw[Α];rfl);omega
     ·have:=knows_own χ;rwa [hu op Ν] at this
    ·exact Lk.obj b ah k a ν Α
  ·rw[bN _ _ aS];have ap:=Β.apart _ _ (Ne.symm aS);refine(Θ.perms h).others (λk χ=>Gc _ χ) λop Ν a ν=>?_;obtain⟨e,he,rfl⟩:=Go.Conc.mem_ofEvents Ν;obtain⟨J,γ,_⟩:=Ca (fx e he) ν;have dy:=fx e he;refine⟨λb o v p Α ζ=>?_,λb Α hb=>?_⟩
   ·simp only[hk,<-J,Α] at dy;rcases dy with U|⟨_,U⟩
    ·have:=ve h b o ⟨_,ζ⟩;omega
    ·by_cases hw:e.write=true
     ·rw[if_pos hw] at U;exact absurd ⟨_,ζ⟩ (ap.aG b o U)
     ·rw[if_neg hw] at U;refine⟨?_,by rw[γ];simpa using hw⟩;cases p with
      | false=>rfl
      | true=>exact absurd U (ap.qw b o ⟨v,ζ⟩)
   ·simp only[hk,<-J,Α] at dy;rcases dy.2 with U|U
    ·have:=zh h b hb;omega
    ·exact ap.obj b U hb
 ·rcases mW ν with eh|⟨_,op,Ν,_,ie⟩
  ·have hb:=zi Θ.low eh fa;by_cases ε:j=i
   ·subst ε;rw[upd_same] at hv;rcases qD b v hv with h|h
    ·exact Θ.ox j b v h k a eh fa
    ·omega
   ·rw[upd_ne _ _ ε] at hv;exact Θ.ox j b v hv k a eh fa
  ·obtain⟨e,he,rfl⟩:=Go.Conc.mem_ofEvents Ν;obtain⟨J,_,_⟩:=Ca (fx e he) ie;rw[J] at fa;by_cases ε:j=i
   ·subst ε;rw[upd_same] at hv;rcases qD b v hv with h|h
    ·exact Gf e he b (xl j b v h) ((Β.fresh j b v h).2.1 _) fa
    ·exact Ge b v hv h.1 e he fa
   ·rw[upd_ne _ _ ε] at hv;exact Gf e he b (xl j b v hv) ((Β.fresh j b v hv).2.1 _) fa
 ·rcases mW ν with eh|⟨_,op,Ν,_,ie⟩
  ·rcases Θ.cont s o b ο hb k a eh fa with h|⟨h,χ⟩
   ·exact .inl h
   ·obtain⟨op,Γ,_⟩:=touch_of eh;exact .inr ⟨h,by rw[g?_old (lt_size_of_getElem? Γ)];exact χ⟩
  ·obtain⟨e,he,rfl⟩:=Go.Conc.mem_ofEvents Ν;obtain⟨J,_,_⟩:=Ca (fx e he) ie;rw[J] at fa;exact absurd fa (Gf e he b (Gb s o b ο hb) ((Β.j' s o b ο hb).2.1 _))
 ·by_cases ε:i=j
  ·subst ε;rw[Deaf_own,deafBehind_still (λe he=>?_)]
   ·exact Θ.hears i
   ·have dy:=fx e he;constructor<;>intro Α<;>simp[hk,Α] at dy
  ·rw[Deaf_other t ε _ hu];exact Θ.hears j
def oA:k'->Prop
 | .fin|.uc|.us|.done=>True
 | _=>False
def b1 (tok:Nat->Nat->Tok) (i s:Nat) (t:Tok):Nat->Nat->Tok:=upd tok i (upd (tok i) s t)
theorem e1 (tok:Nat->Nat->Tok) (i s:Nat) (t:Tok):b1 tok i s t i s=t:=by simp[b1,upd]
theorem eT {tok:Nat->Nat->Tok} {i s j r:Nat} (t:Tok) (h:¬(j=i/\r=s)):b1 tok i s t j r=tok j r:=by
 unfold b1 upd;by_cases ε:j=i
 ·subst ε;by_cases μ:r=s
  ·exact absurd ⟨rfl,μ⟩ h
  ·simp[μ]
 ·simp[ε]
theorem Ll (tok:Nat->Nat->Tok) (i s:Nat) (t:Tok):(λj=>b1 tok i s t j s)=upd (λj=>tok j s) i t:=by
 funext j
 by_cases ε:j=i
 ·subst ε;rw[e1,upd_same]
 ·rw[eT _ (λh=>ε h.1),upd_ne _ _ ε]
theorem Gg (tok:Nat->Nat->Tok) (i s:Nat) (t:Tok) {r:Nat} (μ:r≠s):(λj=>b1 tok i s t j r)=λj=>tok j r:=by
 funext j;rw[eT _ (λh=>μ h.2)]
structure eI (n:Nat) (tok:Nat->Nat->Tok) (spec:Nat->Nat->Option Spec) (view:Nat->Nat->Option (Nat×aM)) (rel:Nat->Bool) (O:Nat->Option aM) (bz home:Nat->Nat):Prop where
 bm:∀s o,O s=some o->tl n o (λi=>tok i s)
 bare:∀s,O s=none->∀i,tok i s=.nil
 out:∀i s,n<=i->tok i s=.nil
 qE:∀i s sp,spec i s=some sp->∃o,O s=some o/\o.toSpec=sp
 vf:∀i s φ o,view i s=some (φ,o)->∃dH,O s=some dH/\eA n dH (λj=>tok j s)<=φ/\(eA n dH (λj=>tok j s)=φ->dH=o)
 dj:∀i s k L g o,O s=some o->tok i s=.ch k (.dj L) g->o.L=L
 par:∀i s m p ae,tok i s=.par m p ae->i=bz s
 oB:∀i s k m g,tok i s=.ch k m g->i≠0/\home i=s/\bz s<i
 rW:∀i,i≠0->i<n->∃k m g,tok i (home i)=.ch k m g
 g3:∀i k m g,i≠0->tok i (home i)=.ch k m g->(rel i=true↔g≠.work)
 ts:rel 0=false
 oC:∀i s,rel i=true->s≠home i->fO (tok i s)
 oD:∀i s k m g o,O s=some o->tok i s=.ch k m g->g≠.work->m=.done\/(m=.idle/\o.aT=none)
 vg:∀s i j k m g b2 g',tok i s=.ch k m g->tok j s=.ch k b2 g'->i=j
 tt:∀s i k m g q p ae,tok i s=.ch k m g->tok (bz s) s=.par q p ae->k+p<q
 fw:∀s o,O s=some o->o.L.Nodup/\∀k,k∈o.L↔∃i m g,tok i s=.ch k m g/\oA m
 ga:∀s o,O s=some o->o.af.Nodup/\∀k,k∈o.af↔∃i m g,tok i s=.ch k m g/\g≠.work
def Alike (t t':Tok):Prop:=(∃m p ae b2 e2 Gh,t=.par m p ae/\t'=.par b2 e2 Gh/\∀k,k+p<m->k+e2<b2)\/(∃k m g b2 g',t=.ch k m g/\t'=.ch k b2 g')
section
variable {n:Nat} {tok:Nat->Nat->Tok} {spec:Nat->Nat->Option Spec} {view:Nat->Nat->Option (Nat×aM)} {rel:Nat->Bool} {O:Nat->Option aM} {bz home:Nat->Nat}
theorem eI.lt (h:eI n tok spec view rel O bz home) {i s:Nat} (Ξ:tok i s≠.nil):i<n:=Nat.lt_of_not_le λhle=>Ξ (h.out i s hle)
theorem eI.change (h:eI n tok spec view rel O bz home) {s i:Nat} {o o':aM} {t t':Tok} {Cb:Nat->Bool} {V:Nat->Option (Nat×aM)} (ο:O s=some o) (Ξ:tok i s=t) (Cc:Alike t t')
  (Ι:tl n o' (upd (λj=>tok j s) i t')) (ω:eA n o' (upd (λj=>tok j s) i t')<eA n o (λj=>tok j s)) (bX:o'.toSpec=o.toSpec)
  (hp:∀r φ q,V r=some (φ,q)->(r=s/\φ=eA n o' (upd (λj=>tok j s) i t')/\q=o')\/(r≠s/\view i r=some (φ,q)))
  (g4:∀j k L g,b1 tok i s t' j s=.ch k (.dj L) g->o'.L=L)
  (Cd:∀j k m g,j≠0->b1 tok i s t' j (home j)=.ch k m g->(Cb j=true↔g≠.work)) (Gi:Cb 0=false)
  (So:∀j r,Cb j=true->r≠home j->fO (b1 tok i s t' j r))
  (Sp:∀j k m g,b1 tok i s t' j s=.ch k m g->g≠.work->m=.done\/(m=.idle/\o'.aT=none))
  (aD:o'.L.Nodup/\∀k,k∈o'.L↔∃j m g,b1 tok i s t' j s=.ch k m g/\oA m) (bg:o'.af.Nodup/\∀k,k∈o'.af↔∃j m g,b1 tok i s t' j s=.ch k m g/\g≠.work) :
  eI n (b1 tok i s t') spec (upd view i V) Cb (upd O s (some o')) bz home:=by
 have bb:i<n:=h.lt (s:=s) (by rw[Ξ];rcases Cc with⟨_,_,_,_,_,_,rfl,_⟩|⟨_,_,_,_,_,rfl,_⟩<;>simp)
 have Gj:=Ll tok i s t'
 have rX:∀r,r≠s->(λj=>b1 tok i s t' j r)=λj=>tok j r:=λr μ=>Gg tok i s t' μ
 have zj:∀j r,r≠s->b1 tok i s t' j r=tok j r:=λj r μ=>congrFun (rX r μ) j
 have same:∀j,j≠i->∀r,b1 tok i s t' j r=tok j r:=λj ε r=>eT _ λx=>ε x.1
 have Ce:∀j r k m g,b1 tok i s t' j r=.ch k m g->∃dE cP,tok j r=.ch k dE cP:=λj r k m g ε=>by
  by_cases e:j=i/\r=s
  ·obtain⟨rfl,rfl⟩:=e;rw[e1] at ε;rcases Cc with⟨_,_,_,_,_,_,_,γ,_⟩|⟨eC,dE,cP,eU,Ρ,J,γ⟩
   ·rw[γ] at ε;cases ε
   ·rw[γ] at ε;cases ε;exact⟨dE,cP,by rw[Ξ,J]⟩
  ·rw[eT _ e] at ε;exact⟨m,g,ε⟩
 have Sq:∀j r k m g,tok j r=.ch k m g->∃dE cP,b1 tok i s t' j r=.ch k dE cP:=λj r k m g ε=>by
  by_cases e:j=i/\r=s
  ·obtain⟨rfl,rfl⟩:=e;rw[e1];rw[Ξ] at ε;rcases Cc with⟨_,_,_,_,_,_,J,_,_⟩|⟨eC,dE,cP,eU,Ρ,J,γ⟩
   ·rw[J] at ε;cases ε
   ·rw[J] at ε;cases ε;exact⟨eU,Ρ,γ⟩
  ·rw[eT _ e];exact⟨m,g,ε⟩
 have Lm:∀j r m p ae,b1 tok i s t' j r=.par m p ae->∃dE fv zk,tok j r=.par dE fv zk/\∀k,k+fv<dE->k+p<m:=λj r m p ae ε=>by
  by_cases e:j=i/\r=s
  ·obtain⟨rfl,rfl⟩:=e;rw[e1] at ε;rcases Cc with⟨_,_,_,_,_,_,J,γ,π⟩|⟨eC,dE,cP,eU,Ρ,J,γ⟩
   ·rw[γ] at ε;cases ε;exact⟨_,_,_,by rw[Ξ,J],π⟩
   ·rw[γ] at ε;cases ε
  ·rw[eT _ e] at ε;exact⟨m,p,ae,ε,λ_ x=>x⟩
 have g5:∀r q,upd O s (some o') r=some q->(r=s/\q=o')\/(r≠s/\O r=some q):=λr q Χ=>by
  by_cases e:r=s
  ·subst e;rw[upd_same] at Χ;cases Χ;exact .inl ⟨rfl,rfl⟩
  ·rw[upd_ne _ _ e] at Χ;exact .inr ⟨e,Χ⟩
 refine⟨λr q Χ=>?_,λr μ j=>?_,λj r ε=>?_,λj r sp ε=>?_,λj r φ q ε=>?_,λj r k L g q Χ ε=>?_,λj r m p ae ε=>?_,λj r k m g ε=>?_,λj ah ε=>?_,Cd,Gi,So,λj r k m g q Χ ε Υ=>?_,λr j bK k m g b2 g' J γ=>?_,λr j k m g q p ae J γ=>?_,λr q Χ=>?_,λr q Χ=>?_⟩
 ·rcases g5 r q Χ with⟨rfl,rfl⟩|⟨e,b8⟩
  ·rw[Gj];exact Ι
  ·rw[rX r e];exact h.bm r q b8
 ·by_cases e:r=s
  ·subst e;rw[upd_same] at μ;cases μ
  ·rw[upd_ne _ _ e] at μ;rw[zj j r e];exact h.bare r μ j
 ·rw[same j (by omega) r];exact h.out j r ε
 ·obtain⟨q,J,γ⟩:=h.qE j r sp ε;by_cases e:r=s
  ·subst e;rw[ο] at J;cases J;exact⟨o',upd_same ..,by rw[bX];exact γ⟩
  ·exact⟨q,by rw[upd_ne _ _ e];exact J,γ⟩
 ·have old:∀φ q,view j r=some (φ,q)->∃dH,upd O s (some o') r=some dH/\eA n dH (λa=>b1 tok i s t' a r)<=φ/\(eA n dH (λa=>b1 tok i s t' a r)=φ->dH=q):=λφ q hv=>by
   obtain⟨dH,J,γ,π⟩:=h.vf j r φ q hv;by_cases e:r=s
   ·subst e;rw[ο] at J;cases J;rw[upd_same,Gj];exact⟨o',rfl,by omega,λx=>by omega⟩
   ·rw[upd_ne _ _ e,rX r e];exact⟨dH,J,γ,π⟩
  by_cases e:j=i
  ·subst e;rw[upd_same] at ε;rcases hp r φ q ε with⟨rfl,rfl,rfl⟩|⟨μ,hv⟩
   ·rw[upd_same,Gj];exact⟨_,rfl,Nat.le_refl _,λ_=>rfl⟩
   ·exact old φ q hv
  ·rw[upd_ne _ _ e] at ε;exact old φ q ε
 ·rcases g5 r q Χ with⟨rfl,rfl⟩|⟨e,b8⟩
  ·exact g4 j k L g ε
  ·rw[zj j r e] at ε;exact h.dj j r k L g q b8 ε
 ·obtain⟨dE,fv,zk,J,_⟩:=Lm j r m p ae ε;exact h.par j r dE fv zk J
 ·obtain⟨dE,cP,J⟩:=Ce j r k m g ε;exact h.oB j r k dE cP J
 ·obtain⟨k,m,g,J⟩:=h.rW j ah ε;obtain⟨eU,Ρ,γ⟩:=Sq j _ k m g J;exact⟨k,eU,Ρ,γ⟩
 ·rcases g5 r q Χ with⟨rfl,rfl⟩|⟨e,b8⟩
  ·exact Sp j k m g ε Υ
  ·rw[zj j r e] at ε;exact h.oD j r k m g q b8 ε Υ
 ·obtain⟨a,b,π⟩:=Ce j r k m g J;obtain⟨b9,Φ,Μ⟩:=Ce bK r k b2 g' γ;exact h.vg r j bK k a b b9 Φ π Μ
 ·obtain⟨a,b,π⟩:=Ce j r k m g J;obtain⟨dE,fv,zk,Μ,aB⟩:=Lm _ r q p ae γ;exact aB k (h.tt r j k a b dE fv zk π Μ)
 ·rcases g5 r q Χ with⟨rfl,rfl⟩|⟨e,b8⟩
  ·exact aD
  ·simp only[λj=>zj j r e];exact h.fw r q b8
 ·rcases g5 r q Χ with⟨rfl,rfl⟩|⟨e,b8⟩
  ·exact bg
  ·simp only[λj=>zj j r e];exact h.ga r q b8
theorem Sr {o o':aM} {t t':Tok} (h:Act o t o' t'):Alike t t':=by
 cases h
 case add=>exact .inl ⟨_,_,_,_,_,_,rfl,rfl,λk χ=>by omega⟩
 case thru|KY|wake=>exact .inl ⟨_,_,_,_,_,_,rfl,rfl,λk χ=>χ⟩
 all_goals exact .inr ⟨_,_,_,_,_,rfl,rfl⟩
theorem Ln {o o':aM} {t t':Tok} (h:Act o t o' t'):o'.toSpec=o.toSpec/\o'.L=o.L/\o'.af=o.af:=by
 cases h<;>exact⟨rfl,rfl,rfl⟩
theorem Lo {o o':aM} {t t':Tok} (h:Act o t o' t'):(∀k m g,t'=.ch k m g->∃dE cP,t=.ch k dE cP/\(oA m↔oA dE)/\(g=.work↔cP=.work)/\(cP≠.work->m=dE)/\∀L,m=.dj L->dE=.dj L)/\(∀k m g,t=.ch k m g->∃eU Ρ,t'=.ch k eU Ρ/\(oA eU↔oA m)/\(Ρ=.work↔g=.work))/\¬fO t:=by
 refine⟨λk m g e=>?_,λk m g e=>?_,?_⟩
 ·cases h<;>cases e<;>exact⟨_,_,rfl,by simp[oA],by simp,by simp,by simp⟩
 ·cases h<;>cases e<;>exact⟨_,_,rfl,by simp[oA],by simp⟩
 ·cases h<;>simp[fO]
theorem eI.act (h:eI n tok spec view rel O bz home) {s i:Nat} {o o':aM} {t t':Tok} (ο:O s=some o) (Ξ:tok i s=t) (ν:Act o t o' t') :
  eI n (b1 tok i s t') spec (upd view i (upd (view i) s (some (eA n o' (upd (λj=>tok j s) i t'),o')))) rel (upd O s (some o')) bz home:=by
 obtain⟨hw,vh,Lp⟩:=Lo ν;have bb:i<n:=h.lt (s:=s) (by rw[Ξ];rintro rfl;exact Lp trivial);obtain⟨xm,Cf,Gk⟩:=Ln ν;have zl:∀j r k m g,b1 tok i s t' j r=.ch k m g->∃dE cP,tok j r=.ch k dE cP/\(oA m↔oA dE)/\(g=.work↔cP=.work)/\(cP≠.work->m=dE)/\∀L,m=.dj L->dE=.dj L:=λj r k m g ε=>by
  by_cases e:j=i/\r=s
  ·obtain⟨rfl,rfl⟩:=e;rw[e1] at ε;obtain⟨dE,cP,Ε,Ζ⟩:=hw k m g ε;exact⟨dE,cP,by rw[Ξ,Ε],Ζ⟩
  ·rw[eT _ e] at ε;exact⟨m,g,ε,.rfl,.rfl,λ_=>rfl,λ_ x=>x⟩
 have is:∀j k m g,tok j s=.ch k m g->∃eU Ρ,b1 tok i s t' j s=.ch k eU Ρ/\(oA eU↔oA m)/\(Ρ=.work↔g=.work):=λj k m g ε=>by
  by_cases e:j=i/\s=s
  ·obtain⟨rfl,_⟩:=e;rw[e1];rw[Ξ] at ε;exact vh k m g ε
  ·rw[eT _ e];exact⟨m,g,ε,.rfl,.rfl⟩
 refine h.change ο Ξ (Sr ν) (⟨R2 (h.bm s o ο).1 bb Ξ ν,R6 (h.bm s o ο).2 bb Ξ ν⟩) (K1 bb Ξ ν) xm (λr φ q hv=>?_) (λj k L g ε=>?_) (λj k m g ah ε=>?_) h.ts (λj r ε μ=>?_) (λj k m g ε Υ=>?_) ?_ ?_
 ·by_cases e:r=s
  ·subst e;rw[upd_same] at hv;cases hv;exact .inl ⟨rfl,rfl,rfl⟩
  ·rw[upd_ne _ _ e] at hv;exact .inr ⟨e,hv⟩
 ·obtain⟨dE,cP,Ε,_,_,_,Ζ⟩:=zl j s k _ g ε;rw[Cf];exact h.dj j s k L cP o ο (by rw[Ε,Ζ L rfl])
 ·obtain⟨dE,cP,Ε,_,Ζ,_⟩:=zl j _ k m g ε;rw[h.g3 j k dE cP ah Ε];exact not_congr Ζ.symm
 ·by_cases e:j=i/\r=s
  ·obtain⟨rfl,rfl⟩:=e;have:=h.oC j r ε μ;rw[Ξ] at this;exact absurd this Lp
  ·rw[eT _ e];exact h.oC j r ε μ
 ·obtain⟨dE,cP,Ε,_,Ζ,a6,_⟩:=zl j s k m g ε;have zm:cP≠.work:=λx=>Υ (Ζ.2 x);rw[a6 zm];have:=h.oD j s k dE cP o ο Ε zm;rw[show o'.aT=o.aT by rw[xm]];exact this
 ·obtain⟨a,b⟩:=h.fw s o ο;rw[Cf];refine⟨a,λk=>(b k).trans ⟨λ⟨j,m,g,Ε,Ζ⟩=>?_,λ⟨j,m,g,Ε,Ζ⟩=>?_⟩⟩
  ·obtain⟨eU,Ρ,a6,cD,_⟩:=is j k m g Ε;exact⟨j,eU,Ρ,a6,cD.2 Ζ⟩
  ·obtain⟨dE,cP,a6,cD,_⟩:=zl j s k m g Ε;exact⟨j,dE,cP,a6,cD.1 Ζ⟩
 ·obtain⟨a,b⟩:=h.ga s o ο;rw[Gk];refine⟨a,λk=>(b k).trans ⟨λ⟨j,m,g,Ε,Ζ⟩=>?_,λ⟨j,m,g,Ε,Ζ⟩=>?_⟩⟩
  ·obtain⟨eU,Ρ,a6,_,cD⟩:=is j k m g Ε;exact⟨j,eU,Ρ,a6,λx=>Ζ (cD.1 x)⟩
  ·obtain⟨dE,cP,a6,_,cD,_⟩:=zl j s k m g Ε;exact⟨j,dE,cP,a6,λx=>Ζ (cD.2 x)⟩
theorem eI.look (h:eI n tok spec view rel O bz home) {s i:Nat} {o:aM} (ο:O s=some o):eI n tok spec (upd view i (upd (view i) s (some (eA n o (λj=>tok j s),o)))) rel O bz home:=
 have key:∀j r φ q,upd view i (upd (view i) s (some (eA n o (λj=>tok j s),o))) j r=some (φ,q)->∃dH,O r=some dH/\eA n dH (λj=>tok j r)<=φ/\(eA n dH (λj=>tok j r)=φ->dH=q):=λj r φ q ε=>by
  by_cases e:j=i
  ·subst e;rw[upd_same] at ε;by_cases aJ:r=s
   ·subst aJ;rw[upd_same] at ε;cases ε;exact⟨o,ο,Nat.le_refl _,λ_=>rfl⟩
   ·rw[upd_ne _ _ aJ] at ε;exact h.vf j r φ q ε
  ·rw[upd_ne _ _ e] at ε;exact h.vf j r φ q ε
 {h with vf:=key}
theorem Cg {s i:Nat} {r φ:Nat} {q:aM} {o':aM} {z:Nat} (hv:upd (view i) s none r=some (φ,q)):(r=s/\φ=z/\q=o')\/(r≠s/\view i r=some (φ,q)):=by
 by_cases e:r=s
 ·subst e;rw[upd_same] at hv;cases hv
 ·rw[upd_ne _ _ e] at hv;exact .inr ⟨e,hv⟩
theorem Ss {l:List Nat} {k:Nat} (h:l.Nodup) (χ:k∉l):(l++[k]).Nodup:=by
 rw[List.nodup_append];exact⟨h,by simp,λa ν b hb=>by simp at hb;subst hb;rintro rfl;exact χ ν⟩
theorem eI.FY (h:eI n tok spec view rel O bz home) {s i k:Nat} {o:aM} (ο:O s=some o) (Ξ:tok i s=.ch k .own .work) :
  eI n (b1 tok i s (.ch k (.dj o.L) .work)) spec (upd view i (upd (view i) s none)) rel (upd O s (some o)) bz home:=by
 have bb:i<n:=h.lt (s:=s) (by rw[Ξ];simp)
 have hw:po o (.ch k .own .work) o (.ch k (.dj o.L) .work):=.FY
 have g6:∀j,j≠i->∀r,b1 tok i s (.ch k (.dj o.L) .work) j r=tok j r:=λj ε r=>eT _ λx=>ε x.1
 have ζ:=h.oB i s k _ _ Ξ;refine h.change ο Ξ (.inr ⟨_,_,_,_,_,rfl,rfl⟩) ⟨B3 (h.bm s o ο).1 bb Ξ hw,B4 (h.bm s o ο).2 bb Ξ hw⟩ (B2 bb Ξ hw) rfl (λr φ q hv=>Cg hv) (λj ab L g ε=>?_) (λj ab m g ah ε=>?_) h.ts (λj r ε μ=>?_) (λj ab m g ε Υ=>?_) ?_ ?_
 ·by_cases e:j=i
  ·subst e;rw[e1] at ε;cases ε;rfl
  ·rw[g6 j e] at ε;exact h.dj j s ab L g o ο ε
 ·by_cases e:j=i
  ·subst e;have aJ:home j=s:=ζ.2.1;rw[aJ,e1] at ε;cases ε;exact h.g3 j k .own .work ah (by rw[aJ];exact Ξ)
  ·rw[g6 j e] at ε;exact h.g3 j ab m g ah ε
 ·by_cases e:j=i
  ·subst e;have aJ:home j=s:=ζ.2.1;rw[eT _ (λx=>μ (by rw[x.2,aJ]))];exact h.oC j r ε μ
  ·rw[g6 j e];exact h.oC j r ε μ
 ·by_cases e:j=i
  ·subst e;rw[e1] at ε;cases ε;exact absurd rfl Υ
  ·rw[g6 j e] at ε;exact h.oD j s ab m g o ο ε Υ
 ·obtain⟨a,b⟩:=h.fw s o ο;refine⟨a,λab=>(b ab).trans ⟨λ⟨j,m,g,Ε,Ζ⟩=>?_,λ⟨j,m,g,Ε,Ζ⟩=>?_⟩⟩
  ·by_cases e:j=i
   ·subst e;rw[Ξ] at Ε;cases Ε;exact Ζ.elim
   ·exact⟨j,m,g,by rw[g6 j e];exact Ε,Ζ⟩
  ·by_cases e:j=i
   ·subst e;rw[e1] at Ε;cases Ε;exact Ζ.elim
   ·exact⟨j,m,g,by rw[g6 j e] at Ε;exact Ε,Ζ⟩
 ·obtain⟨a,b⟩:=h.ga s o ο;refine⟨a,λab=>(b ab).trans ⟨λ⟨j,m,g,Ε,Ζ⟩=>?_,λ⟨j,m,g,Ε,Ζ⟩=>?_⟩⟩
  ·by_cases e:j=i
   ·subst e;rw[Ξ] at Ε;cases Ε;exact absurd rfl Ζ
   ·exact⟨j,m,g,by rw[g6 j e];exact Ε,Ζ⟩
  ·by_cases e:j=i
   ·subst e;rw[e1] at Ε;cases Ε;exact absurd rfl Ζ
   ·exact⟨j,m,g,by rw[g6 j e] at Ε;exact Ε,Ζ⟩
theorem eI.St (h:eI n tok spec view rel O bz home) {s i k:Nat} {L:List Nat} {o:aM} (ο:O s=some o) (Ξ:tok i s=.ch k (.dj L) .work) :
  eI n (b1 tok i s (.ch k .fin .work)) spec (upd view i (upd (view i) s none)) rel (upd O s (some {o with L:=o.L++[k]})) bz home:=by
 have bb:i<n:=h.lt (s:=s) (by rw[Ξ];simp)
 have hw:po o (.ch k (.dj L) .work) {o with L:=o.L++[k]} (.ch k .fin .work):=.R0
 have g6:∀j,j≠i->∀r,b1 tok i s (.ch k .fin .work) j r=tok j r:=λj ε r=>eT _ λx=>ε x.1
 have ζ:=h.oB i s k _ _ Ξ
 have only:∀j ab jw g,tok j s=.ch ab (.dj jw) g->j=i:=λj ab jw g ε=>by
  apply Classical.byContradiction;intro bw;have e3:j<n:=h.lt (s:=s) (by rw[ε];simp);have Ε:=gv (λa=>tok a s) .nil h' bb;have Ζ:=fp (upd (λa=>tok a s) i .nil) h' e3;rw[upd_ne _ _ bw] at Ζ;simp only[Ξ,ε,h',y4] at Ε Ζ;have:=(h.bm s o ο).1.KV;have:=(h.bm s o ο).1.f1;omega
 have Lq:k∉o.L:=λχ=>by
  obtain⟨j,m,g,Ε,Ζ⟩:=((h.fw s o ο).2 k).1 χ;have:=h.vg s j i k m g _ _ Ε Ξ;subst this;rw[Ξ] at Ε;cases Ε;exact Ζ
 refine h.change ο Ξ (.inr ⟨_,_,_,_,_,rfl,rfl⟩) ⟨B3 (h.bm s o ο).1 bb Ξ hw,B4 (h.bm s o ο).2 bb Ξ hw⟩ (B2 bb Ξ hw) rfl (λr φ q hv=>Cg hv) (λj ab jw g ε=>?_) (λj ab m g ah ε=>?_) h.ts (λj r ε μ=>?_) (λj ab m g ε Υ=>?_) ?_ ?_
 ·by_cases e:j=i
  ·subst e;rw[e1] at ε;cases ε
  ·rw[g6 j e] at ε;exact absurd (only j ab jw g ε) e
 ·by_cases e:j=i
  ·subst e;have aJ:home j=s:=ζ.2.1;rw[aJ,e1] at ε;cases ε;exact h.g3 j k (.dj L) .work ah (by rw[aJ];exact Ξ)
  ·rw[g6 j e] at ε;exact h.g3 j ab m g ah ε
 ·by_cases e:j=i
  ·subst e;have aJ:home j=s:=ζ.2.1;rw[eT _ (λx=>μ (by rw[x.2,aJ]))];exact h.oC j r ε μ
  ·rw[g6 j e];exact h.oC j r ε μ
 ·by_cases e:j=i
  ·subst e;rw[e1] at ε;cases ε;exact absurd rfl Υ
  ·rw[g6 j e] at ε;exact h.oD j s ab m g o ο ε Υ
 ·obtain⟨a,b⟩:=h.fw s o ο;refine⟨Ss a Lq,λab=>?_⟩;rw[List.mem_append,List.mem_singleton];constructor
  ·rintro(χ|rfl)
   ·obtain⟨j,m,g,Ε,Ζ⟩:=(b ab).1 χ;have e:j≠i:=by rintro rfl;rw[Ξ] at Ε;cases Ε;exact Ζ
    exact⟨j,m,g,by rw[g6 j e];exact Ε,Ζ⟩
   ·exact⟨i,.fin,.work,e1 ..,trivial⟩
  ·rintro⟨j,m,g,Ε,Ζ⟩;by_cases e:j=i
   ·subst e;rw[e1] at Ε;cases Ε;exact .inr rfl
   ·rw[g6 j e] at Ε;exact .inl ((b ab).2 ⟨j,m,g,Ε,Ζ⟩)
 ·obtain⟨a,b⟩:=h.ga s o ο;refine⟨a,λab=>(b ab).trans ⟨λ⟨j,m,g,Ε,Ζ⟩=>?_,λ⟨j,m,g,Ε,Ζ⟩=>?_⟩⟩
  ·by_cases e:j=i
   ·subst e;rw[Ξ] at Ε;cases Ε;exact absurd rfl Ζ
   ·exact⟨j,m,g,by rw[g6 j e];exact Ε,Ζ⟩
  ·by_cases e:j=i
   ·subst e;rw[e1] at Ε;cases Ε;exact absurd rfl Ζ
   ·exact⟨j,m,g,by rw[g6 j e] at Ε;exact Ε,Ζ⟩
theorem eI.Su (h:eI n tok spec view rel O bz home) {s i k:Nat} {mu:k'} {o:aM} (ο:O s=some o) (Ξ:tok i s=.ch k mu .work) (tu:mu=.done\/(mu=.idle/\o.aT=none)) (cQ:∀r,r≠s->fO (tok i r)) :
  eI n (b1 tok i s (.ch k mu .rel)) spec (upd view i (upd (view i) s none)) (upd rel i true) (upd O s (some {o with af:=k::o.af})) bz home:=by
 have bb:i<n:=h.lt (s:=s) (by rw[Ξ];simp)
 have hw:po o (.ch k mu .work) {o with af:=k::o.af} (.ch k mu .rel):=.R1 tu
 have g6:∀j,j≠i->∀r,b1 tok i s (.ch k mu .rel) j r=tok j r:=λj ε r=>eT _ λx=>ε x.1
 have ζ:=h.oB i s k _ _ Ξ
 have Sv:k∉o.af:=λχ=>by
  obtain⟨j,m,g,Ε,Ζ⟩:=((h.ga s o ο).2 k).1 χ;have:=h.vg s j i k m g _ _ Ε Ξ;subst this;rw[Ξ] at Ε;cases Ε;exact Ζ rfl
 refine h.change ο Ξ (.inr ⟨_,_,_,_,_,rfl,rfl⟩) ⟨B3 (h.bm s o ο).1 bb Ξ hw,B4 (h.bm s o ο).2 bb Ξ hw⟩ (B2 bb Ξ hw) rfl (λr φ q hv=>Cg hv) (λj ab jw g ε=>?_) (λj ab m g ah ε=>?_) (by rw[upd_ne _ _ (Ne.symm ζ.1)];exact h.ts) (λj r ε μ=>?_) (λj ab m g ε Υ=>?_) ?_ ?_
 ·by_cases e:j=i
  ·subst e;rw[e1] at ε;rcases tu with rfl|⟨rfl,_⟩<;>cases ε
  ·rw[g6 j e] at ε;exact h.dj j s ab jw g o ο ε
 ·by_cases e:j=i
  ·subst e;have aJ:home j=s:=ζ.2.1;rw[aJ,e1] at ε;cases ε;rw[upd_same];simp
  ·rw[g6 j e] at ε;rw[upd_ne _ _ e];exact h.g3 j ab m g ah ε
 ·by_cases e:j=i
  ·subst e;have aJ:home j=s:=ζ.2.1;have jU:r≠s:=λx=>μ (by rw[x,aJ]);rw[eT _ (λx=>jU x.2)];exact cQ r jU
  ·rw[g6 j e];rw[upd_ne _ _ e] at ε;exact h.oC j r ε μ
 ·by_cases e:j=i
  ·subst e;rw[e1] at ε;cases ε;exact tu
  ·rw[g6 j e] at ε;exact h.oD j s ab m g o ο ε Υ
 ·obtain⟨a,b⟩:=h.fw s o ο;refine⟨a,λab=>(b ab).trans ⟨λ⟨j,m,g,Ε,Ζ⟩=>?_,λ⟨j,m,g,Ε,Ζ⟩=>?_⟩⟩
  ·by_cases e:j=i
   ·subst e;rw[Ξ] at Ε;cases Ε;exact⟨j,mu,.rel,e1 ..,Ζ⟩
   ·exact⟨j,m,g,by rw[g6 j e];exact Ε,Ζ⟩
  ·by_cases e:j=i
   ·subst e;rw[e1] at Ε;cases Ε;exact⟨j,mu,.work,Ξ,Ζ⟩
   ·exact⟨j,m,g,by rw[g6 j e] at Ε;exact Ε,Ζ⟩
 ·obtain⟨a,b⟩:=h.ga s o ο;refine⟨List.nodup_cons.2 ⟨Sv,a⟩,λab=>?_⟩;rw[List.mem_cons];constructor
  ·rintro(rfl|χ)
   ·exact⟨i,mu,.rel,e1 ..,by simp⟩
   ·obtain⟨j,m,g,Ε,Ζ⟩:=(b ab).1 χ;have e:j≠i:=by rintro rfl;rw[Ξ] at Ε;cases Ε;exact Ζ rfl
    exact⟨j,m,g,by rw[g6 j e];exact Ε,Ζ⟩
  ·rintro⟨j,m,g,Ε,Ζ⟩;by_cases e:j=i
   ·subst e;rw[e1] at Ε;cases Ε;exact .inl rfl
   ·rw[g6 j e] at Ε;exact .inr ((b ab).2 ⟨j,m,g,Ε,Ζ⟩)
theorem eI.gtake (h:eI n tok spec view rel O bz home) {s i q:Nat} {ae:rT} {o:aM} (ο:O s=some o) (Ξ:tok i s=.par q 0 ae) (g7:ae=.lZ\/ae=.w4) :
  eI n (b1 tok i s (.par q 0 .bF)) spec (upd view i (upd (view i) s none)) rel (upd O s (some o)) bz home:=by
 have bb:i<n:=h.lt (s:=s) (by rw[Ξ];simp)
 have hw:po o (.par q 0 ae) o (.par q 0 .bF):=.gtake g7
 have g6:∀j,j≠i->∀r,b1 tok i s (.par q 0 .bF) j r=tok j r:=λj ε r=>eT _ λx=>ε x.1
 have cs:∀j r k m g,b1 tok i s (.par q 0 .bF) j r=.ch k m g↔tok j r=.ch k m g:=λj r k m g=>by
  by_cases e:j=i/\r=s
  ·obtain⟨rfl,rfl⟩:=e;rw[e1,Ξ];simp
  ·rw[eT _ e]
 refine h.change ο Ξ (.inl ⟨_,_,_,_,_,_,rfl,rfl,λk χ=>χ⟩) ⟨B3 (h.bm s o ο).1 bb Ξ hw,B4 (h.bm s o ο).2 bb Ξ hw⟩ (B2 bb Ξ hw) rfl (λr φ q hv=>Cg hv) (λj ab jw g ε=>?_) (λj ab m g ah ε=>?_) h.ts (λj r ε μ=>?_) (λj ab m g ε Υ=>?_) ?_ ?_
 ·rw[cs] at ε;exact h.dj j s ab jw g o ο ε
 ·rw[cs] at ε;exact h.g3 j ab m g ah ε
 ·by_cases e:j=i/\r=s
  ·obtain⟨rfl,rfl⟩:=e;rw[e1];trivial
  ·rw[eT _ e];exact h.oC j r ε μ
 ·rw[cs] at ε;exact h.oD j s ab m g o ο ε Υ
 ·simp only[cs];exact h.fw s o ο
 ·simp only[cs];exact h.ga s o ο
end
end Go.TL
