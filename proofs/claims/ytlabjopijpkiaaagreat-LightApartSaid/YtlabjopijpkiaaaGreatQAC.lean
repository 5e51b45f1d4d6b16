import Derived.Test.YtlabjopijpkiaaaGreatQAA
import Derived.Test.YtlabjopijpkiaaaGreatQAB
set_option maxHeartbeats 16000000
set_option maxRecDepth 20000
set_option linter.unusedSectionVars false
set_option linter.unusedSimpArgs false
set_option linter.unusedVariables false
namespace Go.TL
open Go.Conc
open Go.ConcN (sumTo upd sumTo_upd upd_ne upd_same sumTo_congr le_sumTo)
section
variable {N i:Nat} {o o':aK} {τ:Nat→Tok} {t t':Tok}
theorem Jn (o':aK) (Β:o'.top=o.top) (hi:i<N) (Μ:τ i=t) (h:lu o.top t'+9*o'.cR+2*o'.cz<lu o.top t+9*o.cR+2*o.cz):ei N o' (upd τ i t')<ei N o τ:=by
 have e:=fX τ t' (lu o.top) hi;rw[Μ] at e;unfold ei;rw[Β];omega
theorem Jo (hi:i<N) (Μ:τ i=t) (μ:Act o t o' t'):ei N o' (upd τ i t')<ei N o τ:=by
 cases μ<;>refine Jn _ rfl hi Μ ?_
 case acq aw _ _=>cases aw<;>simp[lu,tF]
 case queue aw _ _ _=>cases aw<;>simp[lu,tF]
 case take=>simp[lu,tF];omega
 case add=>simp[lu];omega
 case wake=>simp[lu,vC];omega
 all_goals (simp[lu,tF,Az,vC]<;>omega)
theorem AE (hi:i<N) (Μ:τ i=t) (μ:oP o t o' t'):ei N o' (upd τ i t')<ei N o τ:=by
 cases μ<;>refine Jn _ rfl hi Μ ?_
 case gtake aB χ=>rcases χ with rfl|rfl<;>simp[lu,vC]
 all_goals (simp[lu,tF,Az,vC]<;>omega)
theorem EA {φ:Tok→Nat} (hi:i<N) (h:φ t'=φ (τ i)):aY N (upd τ i t') φ=aY N τ φ:=by
 have:=fX τ t' φ hi;omega
theorem AF (h:oO N o τ) (hi:i<N) (Μ:τ i=t) (μ:oP o t o' t'):oO N o' (upd τ i t'):=by
 unfold oO at h ⊢;cases μ<;>
 (repeat rw[EA hi (by rw[Μ];rfl)])<;>exact h
theorem AG (h:nM N o τ) (hi:i<N) (Μ:τ i=t) (μ:oP o t o' t'):nM N o' (upd τ i t'):=by
 unfold nM at h ⊢;cases μ
 case gtake aB χ=>rcases χ with rfl|rfl<;>(repeat rw[EA hi (by rw[Μ];rfl)])<;>exact h
 all_goals (repeat rw[EA hi (by rw[Μ];rfl)])<;>exact h
theorem tL (N:Nat) (τ:Nat→Tok) (φ:Tok→Nat):aY (N+1) τ φ=aY N τ φ+φ (τ N):=rfl
theorem Jp {φ:Tok→Nat} (ec:φ .nil=0) (h:τ N=.nil):aY (N+1) τ φ=aY N τ φ:=by rw[tL,h,ec];rfl
theorem Jq (h:sh N o τ) (Η:τ N=.nil):sh (N+1) o τ:=by
 unfold sh oO nM at h ⊢
 repeat rw[Jp (by rfl) Η]
 exact h
theorem Jr (Η:τ N=.nil):ei (N+1) o τ=ei N o τ:=by
 unfold ei;rw[Jp (by rfl) Η]
theorem Qq {j n p:Nat} (h:sh N o τ) (hi:i<N) (ε:j<N) (fs:i≠j) (Μ:τ i=.par n (p+1) .add) (Η:τ j=.nil) (k:Nat) :
  sh N o (upd (upd τ i (.par n p .add)) j (.ch k .idle .work)):=by
 have bh:upd τ i (.par n p .add) j=.nil:=by rw[upd_ne _ _ (Ne.symm fs)];exact Η
 have key:∀φ:Tok→Nat,aY N (upd (upd τ i (.par n p .add)) j (.ch k .idle .work)) φ+φ .nil+φ (.par n (p+1) .add)=aY N τ φ+φ (.par n p .add)+φ (.ch k .idle .work):=fun φ=>by
  have Ε:=fX τ (.par n p .add) φ hi
  have Δ:=fX (upd τ i (.par n p .add)) (.ch k .idle .work) φ ε;rw[Μ] at Ε;rw[bh] at Δ;omega
 obtain⟨dj,cY⟩:=h;constructor
 ·unfold oO at dj ⊢;have f1:=key hI;have f2:=key mZ;have f3:=key lq;have f4:=key kG;have f5:=key mg;have f6:=key kH;have f7:=key pS;have f8:=key m0;have f9:=key pR;simp only[hI,mZ,lq,kG,mg,kH,pS,m0,pR,xO,Aw,tC,xP,Ax,xQ,Es,Ay,Er,Nat.add_zero] at f1 f2 f3 f4 f5 f6 f7 f8 f9;rw[f1,f2,f3,f4,f5,f6,f7,f8,f9];exact dj
 ·unfold nM at cY ⊢;have f1:=key ir;have f2:=key jo;have f3:=key jq;have f4:=key kI;have f5:=key eC;have f6:=key gU;have f7:=key hJ;have f8:=key lr;have f9:=key kJ;have f10:=key hK;simp only[ir,jo,jq,kI,eC,gU,hJ,lr,kJ,hK,qY,tD,tE,Nat.add_zero] at f1 f2 f3 f4 f5 f6 f7 f8 f9 f10;obtain⟨fK,si,xU,xV,Ez,Qm,Qn,Qo,Qp⟩:=cY;constructor<;>omega
theorem Qr {j n p:Nat} (hi:i<N) (ε:j<N) (fs:i≠j) (Μ:τ i=.par n (p+1) .add) (Η:τ j=.nil) (k:Nat) :
  ei N o (upd (upd τ i (.par n p .add)) j (.ch k .idle .work))<ei N o τ:=by
 have bh:upd τ i (.par n p .add) j=.nil:=by rw[upd_ne _ _ (Ne.symm fs)];exact Η
 have Ε:=fX τ (.par n p .add) (lu o.top) hi
 have Δ:=fX (upd τ i (.par n p .add)) (.ch k .idle .work) (lu o.top) ε;rw[Μ] at Ε;rw[bh] at Δ;simp only[lu,tF,Az,vC] at Ε Δ;unfold ei;omega
theorem AH {φ:Tok→Nat} (h:0<aY N τ φ):∃i,i<N∧0<φ (τ i):=by
 have hs:∀n,0<aY n τ φ→∃i,i<n∧0<φ (τ i):=fun n=>by
  induction n with
  | zero=>intro h;cases h
  | succ n Γ=>
   intro h;rw[tL] at h;by_cases ae:0<φ (τ n)
   ·exact⟨n,by omega,ae⟩
   ·obtain⟨i,hi,χ⟩:=Γ (by omega);exact⟨i,by omega,χ⟩
 exact hs N h
def nQ:Tok→Prop
 | .ch _ .own _|.ch _ (.c5 _) _|.ch _ .fin _|.ch _ .us _|.ch _ .wk _|.ch _ .hw _|.ch _ (.act true) _|.ch _ .uc _=>True
 | _=>False
theorem Qs (h:oO N o τ) (Υ:0<aY N τ kG) (ae:o.cR=0):∃i,i<N∧nQ (τ i):=by
 have pick:∀{φ:Tok→Nat},(∀t,0<φ t→nQ t)→0<aY N τ φ→∃i,i<N∧nQ (τ i):=fun ec χ=>let ⟨i,hi,δ⟩:=AH χ;⟨i,hi,ec _ δ⟩
 have Qt:∀t,0<hI t→nQ t:=fun t Μ=>by cases t<;>simp_all [hI,nQ];rename_i m _;cases m<;>simp_all [xO]
 have AI:∀t,0<mZ t→nQ t:=fun t Μ=>by cases t<;>simp_all [mZ,nQ];rename_i m _;cases m<;>simp_all [Aw]
 have xW:∀t,0<lq t→nQ t:=fun t Μ=>by cases t<;>simp_all [lq,nQ];rename_i m _;cases m<;>simp_all [tC];rename_i b;cases b<;>simp_all [tC]
 have Qu:∀t,0<m0 t→nQ t:=fun t Μ=>by cases t<;>simp_all [m0,nQ];rename_i m _;cases m<;>simp_all [Ay]
 obtain⟨f1,f2,f3,ha,lx,tJ,si,xU,xV⟩:=h;by_cases c1:0<aY N τ hI
 ·exact pick Qt c1
 by_cases c2:0<aY N τ mZ
 ·exact pick AI c2
 by_cases c3:0<aY N τ lq
 ·exact pick xW c3
 by_cases c4:0<aY N τ m0
 ·exact pick Qu c4
 exfalso;rcases(show o.sv=0∨o.sv=1 by omega) with ξ|ξ
 ·have:=lx ξ;have:=si ξ;omega
 ·have:=tJ ξ;omega
def pV:Tok→Prop
 | .ch _ _ .work|.ch _ _ .rel|.ch _ _ .l2|.ch _ _ .g9=>True
 | _=>False
theorem Qv (h:nM N o τ) {n p:Nat} (hi:i<N) (Μ:τ i=.par n p .w3) (ae:o.cz=0):∃j,j<N∧pV (τ j):=by
 have pick:∀{φ:Tok→Nat},(∀t,0<φ t→pV t)→0<aY N τ φ→∃i,i<N∧pV (τ i):=fun ec χ=>let ⟨i,hi,δ⟩:=AH χ;⟨i,hi,ec _ δ⟩
 have bI:∀t,0<ir t→pV t:=fun t Μ=>by cases t<;>simp_all [ir,pV];rename_i m;cases m<;>simp_all [qY]
 have dc:∀t,0<jo t→pV t:=fun t Μ=>by cases t<;>simp_all [jo,pV];rename_i m;cases m<;>simp_all [tD]
 have fB:∀t,0<jq t→pV t:=fun t Μ=>by cases t<;>simp_all [jq,pV];rename_i m;cases m<;>simp_all [tE]
 have w:=oQ (φ:=kJ) (fun t Μ=>by cases t<;>simp_all [eC,kJ]) h.m1 hi (by rw[Μ];rfl);rw[Μ] at w;have:=h.P1 w;have:=h.Et;by_cases c1:0<aY N τ ir
 ·exact pick bI c1
 by_cases c2:0<aY N τ jo
 ·exact pick dc c2
 by_cases c3:0<aY N τ jq
 ·exact pick fB c3
 exfalso;omega
end
end Go.TL
namespace Go.TL
open Go.Conc
open Go.ConcM (OsLater)
open Go.ConcN (sumTo upd sumTo_upd upd_ne upd_same sumTo_congr le_sumTo)
open Go.ConcR (mk)
inductive fL (B:Type):Type where
 | leaf
 | node (f:B→fL B)
inductive mh {B:Type}:List (fL B)→List (fL B)→Prop where
 | one (a b:List (fL B)) (f:B→fL B) (k:B):mh (a++f k::b) (a++fL.node f::b)
 | two (a b:List (fL B)) (f:B→fL B) (k Ω:B):mh (a++f k::f Ω::b) (a++fL.node f::b)
theorem mh.cons_inv {B:Type} {l:List (fL B)} {t:fL B} {m:List (fL B)} (h:mh m (t::l)) :
  (∃bW,mh bW l∧m=t::bW)∨(∃f k,t=.node f∧m=f k::l)∨(∃f k Ω,t=.node f∧m=f k::f Ω::l):=by
 generalize δ:t::l=x at h;cases h with
 | one a b f k=>
  cases a with
  | nil=>simp at δ;exact .inr (.inl ⟨f,k,δ.1,by rw[δ.2];rfl⟩)
  | cons y a=>simp at δ;exact .inl ⟨a++f k::b,by rw[δ.2];exact .one a b f k,by rw[δ.1];rfl⟩
 | two a b f k Ω=>
  cases a with
  | nil=>simp at δ;exact .inr (.inr ⟨f,k,Ω,δ.1,by rw[δ.2];rfl⟩)
  | cons y a=>simp at δ;exact .inl ⟨a++f k::f Ω::b,by rw[δ.2];exact .two a b f k Ω,by rw[δ.1];rfl⟩
theorem mh.Qw {B:Type} (t:fL B):∀l,Acc mh l→Acc mh (t::l):=by
 induction t with
 | leaf=>
  intro l ω
  induction ω with
  | intro l _ Γ=>
   refine⟨_,fun m hm=>?_⟩;rcases hm.cons_inv with⟨bW,R,rfl⟩|⟨f,k,h,_⟩|⟨f,k,Ω,h,_⟩
   ·exact Γ bW R
   ·cases h
   ·cases h
 | node f EB=>
  intro l ω
  induction ω with
  | intro l qZ Γ=>
   refine⟨_,fun m hm=>?_⟩;rcases hm.cons_inv with⟨bW,R,rfl⟩|⟨f',k,h,rfl⟩|⟨f',k,Ω,h,rfl⟩
   ·exact Γ bW R
   ·cases h;exact EB k l ⟨l,qZ⟩
   ·cases h;exact EB k _ (EB Ω l ⟨l,qZ⟩)
theorem mh.wf {B:Type}:WellFounded (mh (B:=B)):=⟨fun l=>by
 induction l with
 | nil=>exact⟨_,fun m hm=>by
   generalize δ:([]:List (fL B))=x at hm;cases hm<;>simp at δ⟩
 | cons t l Γ=>exact mh.Qw t l Γ⟩
structure aR where
 G:ψ
 aC:Nat→Option (Array Value×TypeId)
 tok:Nat→Tok
 spec:Nat→Option Spec
 view:Nat→Option (Nat×aK)
 deaf:Nat
 rel:Bool
def xX (V:Nat→Option (Array Value×TypeId)) (w:World):Prop:=∀b c t,V b=some (c,t)→w.heap[b]?=some (.cells c t (0,0))
def cF (o:aK):Int:=(o.cnt:Int)*4294967296+o.wt
def mwd (o:aK):Int:=(o.b6:Int)+2*o.wk+4*o.sv+8*o.nw
def At (s:Nat) (o:aK) (w:World):Prop:=
 (∃ty,w.heap[s]?=some (.cells #[.int .u64 (cF o),.int .u32 o.cz] ty (0,0)))∧∀m,o.aQ=some m→∃ty,w.heap[m]?=some (.cells #[.int .i32 (mwd o),.int .u32 o.cR] ty (0,0))
def dW (s:Nat) (sp:Spec) (b:Nat):Prop:=b=s∨sp.aQ=some b
def tM (o:aK) (t:Tok):Prop:=∃N τ i,sh N o τ∧i<N∧τ i=t∧(∀k L g,t=.ch k (.c5 L) g→o.L=L)
def EC (x:aR) (s φ:Nat) (o:aK):Prop:=∀gi kL,x.view s=some (gi,kL)→φ≤gi∧(φ=gi→o=kL)
structure Sub (G' G:ψ):Prop where
 aF:∀b o v p,G'.aF b o=some (v,p)→∃fg,G.aF b o=some (v,fg)∧(p=true→fg=true)
 row:∀b x,G'.row b=some x→G.row b=some x
 obj:∀b x,G'.obj b=some x→G.obj b=some x
structure Split (G mi mj:ψ):Prop where
 l:Sub mi G
 r:Sub mj G
 apart:Apart mi mj
def join (G H:ψ):ψ:=
 ⟨fun b o=>match G.aF b o with|some x=>some x|none=>H.aF b o,fun b=>match G.row b with|some x=>some x|none=>H.row b,fun b=>match G.obj b with|some x=>some x|none=>H.obj b⟩
def kM (D:Nat→ψ→Prop):List Nat→ψ→Prop
 | [],E=>E=ψ.empty
 | k::Js,E=>∃oR oS,D k oR∧kM D Js oS∧Apart oR oS∧E=join oR oS
structure AJ (G G':ψ) (n:Nat):Prop where
 aF:∀b o v p,G'.aF b o=some (v,p)→n≤b∨∃v0 fg,G.aF b o=some (v0,fg)∧(p=true→fg=true)
 obj:∀b,G'.eQ b→n≤b∨G.eQ b
def ED (V:Nat→Option (Array Value×TypeId)) (V':Nat→Option (Array Value×TypeId)) (G':ψ) (n:Nat):Prop:=
 ∀b c,V' b=some c→V b=some c∨(n≤b∧G'.off b)
def AK (e:Event):Prop:=e.loc=.output∨e.loc=.mark .noRoom
def nR (s:Nat) (sp:Spec) (d:Nat) (es:Array Event):Prop:=
 deafBehind d es=d∧∀j e,es[j]?=some e→(e.loc=.mark .disable∨e.loc=.mark .enable∨(∃b off wr,e=⟨.cell ⟨b,off,none⟩,wr,true⟩∧dW s sp b∧0<deafBehind d (es.extract 0 j)))
def jr (o:aK):Tok→Prop
 | .ch _ .q _=>o.cR=0
 | .par _ _ .w3=>o.cz=0
 | _=>False
def ml:Tok→Prop
 | .nil=>True
 | .par _ _ .add|.par _ _ .bw=>True
 | .ch _ .idle _|.ch _ .done _=>True
 | _=>False
def fC:Tok→Prop
 | .nil=>True
 | .par _ _ .bw=>True
 | _=>False
def Gone:Tok→Prop
 | .nil=>True
 | .par _ _ .bw=>True
 | .ch _ _ .gone=>True
 | _=>False
abbrev xY:=Bool→Goroutine→aR→Prop
def h1 (g:Goroutine):Prop:=g.status=.running∧g.offers=none
section
variable (P:Program) (mn:Bool) (ab:xY) (g:Goroutine) (x:aR)
def Jt:Prop:=∀w,Fits x.G w→xX x.aC w→(stepG P mn g w).goes fun g' w' es=>∃G' V',h1 g'∧fe x.G.owns x.G.eQ w w'∧Fits G' w'∧xX V' w'∧
 AJ x.G G' w.heap.size∧ED x.aC V' G' w.heap.size∧(∀e∈es,if x.rel then AK e else gT x.G w.heap.size w'.heap.size e)∧(∀b c,V' b=some c→w.heap.size≤b→∀e∈es,¬mY e.loc b)∧ab mn g' {x with G:=G',aC:=V'}
def Ju:Prop:=∃g',h1 g'∧((∀w,Fits x.G w→stepG P mn g w=.go g' w #[mk .disable]∧ab mn g' {x with deaf:=x.deaf+1})∨
 (0<x.deaf∧∀w,Fits x.G w→stepG P mn g w=.go g' w #[mk .enable]∧ab mn g' {x with deaf:=x.deaf-1}))
def Jv:Prop:=∃(s n p:Nat) (aB:qX) (g':Goroutine) (off:Nat) (wr:Bool),x.tok s=.par n p aB∧aB≠.bw∧x.rel=false∧h1 g'∧∀w,Fits x.G w→stepG P mn g w=.go g' w #[mk (if wr then .write ⟨s,off,none⟩ else .read ⟨s,off,none⟩)]∧ab mn g' x
def Atom:Prop:=∃s sp,x.spec s=some sp∧¬fC (x.tok s)∧∀w φ o,Fits x.G w→xX x.aC w→o.toSpec=sp→At s o w→EC x s φ o→tM o (x.tok s)→
 ((stepG P mn g w).goes fun g' w' es=>h1 g'∧fe (fun b _=>dW s sp b) (fun _=>False) w w'∧nR s sp x.deaf es∧
   ((At s o w'∧ab mn g' {x with view:=upd x.view s (some (φ,o))})∨
    ∃o' t',Act o (x.tok s) o' t'∧At s o' w'∧(mayWake P g=true∨o'=o)∧∀cb,cb<φ→ab mn g' {x with tok:=upd x.tok s t',view:=upd x.view s (some (cb,o'))}))∨
 (jr o (x.tok s)∧(∀bj,bj≠s→ml (x.tok bj))∧stepG P mn g w=.go {g with status:=.blocked} w #[])
def Jw:Prop:=∃s sp m k g',x.spec s=some sp∧sp.aQ=some m∧x.tok s=.ch k .own .work∧x.deaf=0∧h1 g'∧x.rel=false∧
 (∀w,Fits x.G w→stepG P mn g w=.go g' w #[mk (.acquire ⟨m,0,none⟩)])∧
 ∀L E,sp.aG L E→Apart x.G E→(L.Nodup∧k∉L∧∃w,Fits x.G w∧Fits E w)→ab mn g' {x with G:=join x.G E,tok:=upd x.tok s (.ch k (.c5 L) .work),view:=upd x.view s none}
def Jx:Prop:=∃s sp m k L g' G' E,x.spec s=some sp∧sp.aQ=some m∧x.tok s=.ch k (.c5 L) .work∧x.deaf=0∧h1 g'∧x.rel=false∧
 (∀w,Fits x.G w→stepG P mn g w=.go g' w #[mk (.releaseMerge ⟨m,0,none⟩)])∧
 Split x.G G' E∧sp.aG (L++[k]) E∧ab mn g' {x with G:=G',tok:=upd x.tok s (.ch k .fin .work),view:=upd x.view s none}
def Jy:Prop:=∃s sp k mu g' E,x.spec s=some sp∧x.tok s=.ch k mu .work∧(mu=.done∨(mu=.idle∧sp.aQ=none))∧(∀bj,bj≠s→fC (x.tok bj))∧x.deaf=0∧h1 g'∧x.rel=false∧
 (∀w,Fits x.G w→stepG P mn g w=.go g' w #[mk (.releaseMerge ⟨s,0,none⟩)])∧
 Sub E x.G∧sp.D k E∧ab mn g' {x with G:=ψ.empty,aC:=fun _=>none,tok:=upd x.tok s (.ch k mu .rel),view:=upd x.view s none,rel:=true}
def Jz:Prop:=∃s sp n aB g',x.spec s=some sp∧x.tok s=.par n 0 aB∧(aB=.lp∨aB=.w4)∧x.deaf=0∧h1 g'∧x.rel=false∧
 (∀w,Fits x.G w→stepG P mn g w=.go g' w #[mk (.acquire ⟨s,0,none⟩)])∧
 ∀fM fh gj ej,fM.Perm (List.range n)→kM sp.D fM gj→(sp.aQ≠none→fh.Perm (List.range n)∧sp.aG fh ej)→(sp.aQ=none→ej=ψ.empty)→Apart x.G gj→Apart x.G ej→Apart gj ej→(∃w,Fits x.G w∧Fits gj w∧Fits ej w)→
  ab mn g' {x with G:=join (join x.G gj) ej,tok:=upd x.tok s (.par n 0 .bw),view:=upd x.view s none}
def JA:Prop:=∃s sp n p g' c mi mj,x.spec s=some sp∧x.tok s=.par n (p+1) .add∧x.deaf=0∧h1 g'∧h1 c∧x.rel=false∧
 (∀w,Fits x.G w→stepG P mn g w=.spawn g' c w #[])∧Split x.G mi mj∧
 ab mn g' {x with G:=mi,tok:=upd x.tok s (.par n p .add),view:=upd x.view s none}∧
 ab false c ⟨mj,fun _=>none,upd (fun _=>.nil) s (.ch (n-(p+1)) .idle .work),upd (fun _=>none) s (some sp),fun _=>none,0,false⟩
def EE:Prop:=
 (∃G',Sub G' x.G∧ab mn g {x with G:=G'})∨
 (∃b c t,x.aC b=some (c,t)∧ab mn g {x with aC:=upd x.aC b none,G:=⟨fun Φ o=>if Φ=b then(c[o]?).map (·,true) else x.G.aF Φ o,fun Φ=>if Φ=b then some (t,c.size) else x.G.row Φ,x.G.obj⟩})∨
 (∃s sp ty G' E,x.aC s=some (#[.int .u64 0,.int .u32 0],ty)∧(∀m,sp.aQ=some m→m≠s∧∃iS,x.aC m=some (#[.int .i32 0,.int .u32 0],iS))∧x.rel=false∧
  Split x.G G' E∧(sp.aQ≠none→sp.aG [] E)∧
  ab mn g {x with G:=G',aC:=fun b=>if b=s∨sp.aQ=some b then none else x.aC b,tok:=upd x.tok s (.par 0 0 .add),spec:=upd x.spec s (some sp),view:=upd x.view s none})
def JB:Prop:=mn=false∧g.status=.running∧x.rel=true∧(∀s,Gone (x.tok s))∧∃g' es,(∀e∈es,Event.mute e=true)∧(∀w,stepG P false g w=.go g' w es)∧ab mn g' {x with deaf:=deafBehind x.deaf es}
def xZ:Prop:=JB P mn ab g x∨h1 g∧(Jt P mn ab g x∨Ju P mn ab g x∨Jv P mn ab g x∨Atom P mn ab g x∨Jw P mn ab g x∨Jx P mn ab g x∨Jy P mn ab g x∨Jz P mn ab g x∨JA P mn ab g x∨EE mn ab g x)
def JC (Q:Value→Prop):Prop:=h1 g∧(∀s,fC (x.tok s))∧x.deaf=0∧∀w,Fits x.G w→∃v es,stepG P true g w=.ended (.done v) w es∧(∀e∈es,gT x.G w.heap.size w.heap.size e)∧Q v
def Qx:Prop:=x.rel=true∧(∀s,Gone (x.tok s))∧g.status=.finished∧x.deaf=0
def AL (Q:Value→Prop):Prop:=(mn=true∧JC P g x Q)∨(mn=false∧Qx g x)
def x0:Prop:=x.rel=true→(∀s,Gone (x.tok s))→∃n,QuitsD P n x.deaf g
end
open Classical in
def iT (P:Program) (Q:Value→Prop):fL (Bool×Goroutine×aR)→xY
 | .leaf=>fun mn g x=>x0 P g x∧AL P mn g x Q
 | .node f=>fun mn g x=>x0 P g x∧(AL P mn g x Q∨xZ P mn (fun tN g' cZ=>iT P Q (f (tN,g',cZ)) tN g' cZ) g x)
def Goes (P:Program) (Q:Value→Prop):xY:=fun mn g x=>∃T,iT P Q T mn g x
theorem xZ.mono {P:Program} {mn:Bool} {ab JD:xY} {g:Goroutine} {x:aR} (a8:∀mn g x,ab mn g x→JD mn g x) (h:xZ P mn ab g x):xZ P mn JD g x:=by
 rcases h with⟨Ε,Δ,a4,Qy,g',es,eR,kK,pU⟩|⟨κ,h⟩
 ·exact .inl ⟨Ε,Δ,a4,Qy,g',es,eR,kK,a8 _ _ _ pU⟩
 refine .inr ⟨κ,?_⟩;rcases h with h|h|h|h|h|h|h|h|h|h
 ·refine .inl fun w Ρ hv=>?_;have:=h w Ρ hv;revert this;cases stepG P mn g w<;>simp only[GStep.goes,imp_self];rintro⟨G',V',R,γ,ο,Ι,ay,a6,gv,EF,m2⟩;exact⟨G',V',R,γ,ο,Ι,ay,a6,gv,EF,a8 _ _ _ m2⟩
 ·obtain⟨g',R,γ⟩:=h;exact .inr (.inl ⟨g',R,γ.elim (fun h=>.inl fun w Ρ=>⟨(h w Ρ).1,a8 _ _ _ (h w Ρ).2⟩) (fun h=>.inr ⟨h.1,fun w Ρ=>⟨(h.2 w Ρ).1,a8 _ _ _ (h.2 w Ρ).2⟩⟩)⟩)
 ·obtain⟨s,n,p,aB,g',off,wr,R,γ,gV,ο,Ι⟩:=h;exact .inr (.inr (.inl ⟨s,n,p,aB,g',off,wr,R,γ,gV,ο,fun w Ρ=>⟨(Ι w Ρ).1,a8 _ _ _ (Ι w Ρ).2⟩⟩))
 ·obtain⟨s,sp,R,gV,ο⟩:=h;refine .inr (.inr (.inr (.inl ⟨s,sp,R,gV,fun w φ o Ρ hv ξ μ x1 χ=>?_⟩)));refine(ο w φ o Ρ hv ξ μ x1 χ).imp (fun h=>?_) id;revert h;cases stepG P mn g w<;>simp only[GStep.goes,imp_self];rintro⟨R,γ,ο,Ι⟩;exact⟨R,γ,ο,Ι.imp (fun h=>⟨h.1,a8 _ _ _ h.2⟩) fun⟨o',t',a1,bg,cv,fK⟩=>⟨o',t',a1,bg,cv,fun cb ec=>a8 _ _ _ (fK cb ec)⟩⟩
 ·obtain⟨s,sp,m,k,g',R,γ,ο,Ι,ay,sj,a6,gv⟩:=h;exact .inr (.inr (.inr (.inr (.inl ⟨s,sp,m,k,g',R,γ,ο,Ι,ay,sj,a6,fun L E a b c=>a8 _ _ _ (gv L E a b c)⟩))))
 ·obtain⟨s,sp,m,k,L,g',G',E,R,γ,ο,Ι,ay,sj,a6,gv,m2,sk⟩:=h;exact .inr (.inr (.inr (.inr (.inr (.inl ⟨s,sp,m,k,L,g',G',E,R,γ,ο,Ι,ay,sj,a6,gv,m2,a8 _ _ _ sk⟩)))))
 ·obtain⟨s,sp,k,mu,g',E,R,γ,ο,Ι,ay,a6,Qz,gv,m2,sk,QA⟩:=h;exact .inr (.inr (.inr (.inr (.inr (.inr (.inl ⟨s,sp,k,mu,g',E,R,γ,ο,Ι,ay,a6,Qz,gv,m2,sk,a8 _ _ _ QA⟩))))))
 ·obtain⟨s,sp,n,aB,g',R,γ,ο,Ι,ay,sj,a6,gv⟩:=h;exact .inr (.inr (.inr (.inr (.inr (.inr (.inr (.inl ⟨s,sp,n,aB,g',R,γ,ο,Ι,ay,sj,a6,fun fM fh gj ej a b c d e f g i=>a8 _ _ _ (gv fM fh gj ej a b c d e f g i)⟩)))))))
 ·obtain⟨s,sp,n,p,g',c,mi,mj,R,γ,ο,Ι,ay,sj,a6,gv,m2,sk⟩:=h;exact .inr (.inr (.inr (.inr (.inr (.inr (.inr (.inr (.inl ⟨s,sp,n,p,g',c,mi,mj,R,γ,ο,Ι,ay,sj,a6,gv,a8 _ _ _ m2,a8 _ _ _ sk⟩))))))))
 ·refine .inr (.inr (.inr (.inr (.inr (.inr (.inr (.inr (.inr ?_))))))));rcases h with⟨G',R,γ⟩|⟨b,c,t,R,γ⟩|⟨s,sp,ty,G',E,R,γ,ο,Ι,ay,gv⟩
  ·exact .inl ⟨G',R,a8 _ _ _ γ⟩
  ·exact .inr (.inl ⟨b,c,t,R,a8 _ _ _ γ⟩)
  ·exact .inr (.inr ⟨s,sp,ty,G',E,R,γ,ο,Ι,ay,a8 _ _ _ gv⟩)
theorem Goes.stop {P:Program} {Q:Value→Prop} {mn:Bool} {g:Goroutine} {x:aR} (Β:x0 P g x) (h:AL P mn g x Q):Goes P Q mn g x:=⟨.leaf,Β,h⟩
open Classical in
theorem Goes.step {P:Program} {Q:Value→Prop} {mn:Bool} {g:Goroutine} {x:aR} (Β:x0 P g x) (h:xZ P mn (Goes P Q) g x):Goes P Q mn g x:=by
 refine⟨.node fun k=>if υ:∃T,iT P Q T k.1 k.2.1 k.2.2 then Classical.choose υ else .leaf,Β,.inr (h.mono fun tN g' cZ Τ=>?_)⟩;have υ:∃T,iT P Q T tN g' cZ:=Τ;simp only[υ,dif_pos];exact Classical.choose_spec υ
theorem Goes.quits {P:Program} {Q:Value→Prop} (n:Nat):∀{g:Goroutine} {x:aR},x.rel=true→(∀s,Gone (x.tok s))→QuitsD P n x.deaf g→Goes P Q false g x:=by
 induction n with
 | zero=>
  intro g x κ Τ Υ;exact .stop (fun _ _=>⟨0,Υ⟩) (.inr ⟨rfl,κ,Τ,Υ.1,Υ.2⟩)
 | succ n Γ=>
  intro g x κ Τ Υ;rcases Υ with Υ|⟨ξ,g',es,R,γ,ο⟩
  ·exact .stop (fun _ _=>⟨0,Υ⟩) (.inr ⟨rfl,κ,Τ,Υ.1,Υ.2⟩)
  ·exact .step (fun _ _=>⟨n+1,.inr ⟨ξ,g',es,R,γ,ο⟩⟩) (.inl ⟨rfl,ξ,κ,Τ,g',es,R,γ,Γ (x:={x with deaf:=deafBehind x.deaf es}) κ Τ ο⟩)
abbrev cw:=Nat ⊕ Nat
def bF (H:cw→ψ) (h:cw) (G:ψ):cw→ψ:=fun k=>if k=h then G else H k
@[simp] theorem dt (H:cw→ψ) (h:cw) (G:ψ):bF H h G h=G:=by simp[bF]
theorem bG (H:cw→ψ) {h k:cw} (G:ψ) (υ:k≠h):bF H h G k=H k:=by simp[bF,υ]
structure cS where
 H:cw→ψ
 aC:Nat→Nat→Option (Array Value×TypeId)
 tok:Nat→Nat→Tok
 spec:Nat→Nat→Option Spec
 view:Nat→Nat→Option (Nat×aK)
 deaf:Nat→Nat
 rel:Nat→Bool
 T:Nat→fL (Bool×Goroutine×aR)
 O:Nat→Option aK
 bs:Nat→Nat
 home:Nat→Nat
 dk:Nat→Nat
def cS.x (c:cS) (i:Nat):aR:=⟨c.H (.inl i),c.aC i,c.tok i,c.spec i,c.view i,c.deaf i,c.rel i⟩
structure gI (H:cw→ψ) (aC:Nat→Nat→Option (Array Value×TypeId)) (O:Nat→Option aK) (bl w:World):Prop where
 fit:∀h,Fits (H h) w
 ly:∀i,xX (aC i) w
 ft:∀s o,O s=some o→At s o w
 keep:fe (fun _ _=>False) (fun _=>False) bl w
structure hL (H:cw→ψ) (aC:Nat→Nat→Option (Array Value×TypeId)) (O:Nat→Option aK) (gW:Nat):Prop where
 apart:∀h k,h≠k→Apart (H h) (H k)
 high:∀h b o,(H h).owns b o→gW≤b
 m3:∀h b,(H h).eQ b→gW≤b
 fresh:∀i b v,aC i b=some v→gW≤b∧(∀h,(H h).off b)∧∀j,j≠i→aC j b=none
 jK:∀s o b,O s=some o→dW s o.toSpec b→gW≤b∧(∀h,(H h).off b)∧∀j,aC j b=none
 j2:∀s bj o o' b,O s=some o→O bj=some o'→dW s o.toSpec b→dW bj o'.toSpec b→s=bj
 oT:∀s o m,O s=some o→o.aQ=some m→m≠s
 ed:∀b,(∀s o,O s=some o→¬dW s o.toSpec b)→H (.inr b)=ψ.empty
theorem gI.own {H:cw→ψ} {aC:Nat→Nat→Option (Array Value×TypeId)} {O:Nat→Option aK} {bl w w':World} {gW:Nat} (dj:gI H aC O bl w) (Α:hL H aC O gW) (i:Nat) {G':ψ} {V':Nat→Option (Array Value×TypeId)}
  (υ:fe (H (.inl i)).owns (H (.inl i)).eQ w w') (Ρ:Fits G' w') (hv:xX V' w') (ae:bl.heap.size=gW):gI (bF H (.inl i) G') (upd aC i V') O bl w':=by
 have ap:∀h,h≠.inl i→(∀b o,(H (.inl i)).owns b o→¬(H h).has b o)∧∀b,(H (.inl i)).eQ b→¬(H h).eQ b:=fun h aS=>⟨(Α.apart _ _ (Ne.symm aS)).aF,(Α.apart _ _ (Ne.symm aS)).obj⟩;refine⟨fun h=>?_,fun j=>?_,fun s o ξ=>?_,?_⟩
 ·by_cases aS:h=.inl i
  ·subst aS;rw[dt];exact Ρ
  ·rw[bG _ _ aS];exact(dj.fit h).keeps υ (ap h aS).1 (ap h aS).2
 ·by_cases ε:j=i
  ·subst ε;rw[upd_same];exact hv
  ·rw[upd_ne _ _ ε];intro b c t hb;obtain⟨c',R,γ,ο⟩:=υ.cells b c t _ (dj.ly j b c t hb);have off:=(Α.fresh j b _ hb).2.1 (.inl i);have:c'=c:=by
    apply Array.ext_getElem?;intro o;exact ο o fun⟨v,hv⟩=>off.1 o ⟨_,hv⟩
   rw[R,this]
 ·have off:=fun b (hb:dW s o.toSpec b)=>(Α.jK s o b ξ hb).2.1 (.inl i)
  have x2:∀b c t,dW s o.toSpec b→w.heap[b]?=some (.cells c t (0,0))→w'.heap[b]?=some (.cells c t (0,0)):=fun b c t hb η=>by
   obtain⟨c',R,γ,ο⟩:=υ.cells b c t _ η;have:c'=c:=by
    apply Array.ext_getElem?;intro o';exact ο o' fun⟨v,hv⟩=>(off b hb).1 o' ⟨_,hv⟩
   rw[R,this]
  obtain⟨⟨ty,R⟩,γ⟩:=dj.ft s o ξ;exact⟨⟨ty,x2 _ _ _ (.inl rfl) R⟩,fun m hm=>let ⟨iS,ο⟩:=γ m hm;⟨iS,x2 _ _ _ (.inr hm) ο⟩⟩
 ·have ek:=dj.keep;refine⟨Nat.le_trans ek.size υ.size,fun b c t dC hb=>?_,fun b x hb δ _=>?_,ek.os.trans υ.os,υ.output.trans ek.output,υ.tape.trans ek.tape⟩
  ·obtain⟨c1,R,γ,ο⟩:=ek.cells b c t dC hb;obtain⟨c2,Ι,ay,a6⟩:=υ.cells b c1 t dC R;refine⟨c2,Ι,by rw[ay,γ],fun o _=>?_⟩;rw[a6 o fun δ=>?_,ο o id];have:=Α.high _ _ _ δ;have:=ff hb;omega
  ·refine υ.me b x (ek.me b x hb δ id) δ fun g8=>?_;have:=Α.m3 _ _ g8;have:=ff hb;omega
theorem gI.at {H:cw→ψ} {aC:Nat→Nat→Option (Array Value×TypeId)} {O:Nat→Option aK} {bl w:World} (h:gI H aC O bl w) (d:Nat):gI H aC O bl (w.at d):=
 ⟨fun k=>(h.fit k).at d,h.ly,h.ft,⟨h.keep.size,h.keep.cells,h.keep.me,h.keep.os,h.keep.output,h.keep.tape⟩⟩
theorem hL.own {H:cw→ψ} {aC:Nat→Nat→Option (Array Value×TypeId)} {O:Nat→Option aK} {gW:Nat} {w:World} {bl:World} (Α:hL H aC O gW) (dj:gI H aC O bl w) (cm:gW≤w.heap.size) (i:Nat) {G':ψ} {V':Nat→Option (Array Value×TypeId)}
  (Τ:AJ (H (.inl i)) G' w.heap.size) (pW:ED (aC i) V' G' w.heap.size):hL (bF H (.inl i) G') (upd aC i V') O gW:=by
 have JE:∀b o,G'.has b o→w.heap.size≤b∨(H (.inl i)).has b o:=fun b o ⟨⟨v,p⟩,h⟩=>(Τ.aF b o v p h).imp id fun⟨v0,fg,ae,_⟩=>⟨_,ae⟩
 have JF:∀b o,G'.owns b o→w.heap.size≤b∨(H (.inl i)).owns b o:=fun b o ⟨v,h⟩=>(Τ.aF b o v true h).imp id fun⟨v0,fg,ae,χ⟩=>⟨v0,by rw[ae,χ rfl]⟩
 have tO:∀h b o,(H h).has b o→b<w.heap.size:=fun h b o ⟨⟨v,p⟩,δ⟩=>by
  obtain⟨c,t,dC,hb,_⟩:=pQ ((dj.fit h).aF b o v p δ);exact ff hb
 have x3:∀h b,(H h).eQ b→b<w.heap.size:=fun h b ⟨x,δ⟩=>ff ((dj.fit h).obj b x δ).1
 have JG:∀k,k≠.inl i→Apart G' (H k):=fun k υ=>by
  have a:=Α.apart _ _ (Ne.symm υ);refine⟨fun b o Β δ=>?_,fun b o Β δ=>?_,fun b Β δ=>?_⟩
  ·rcases JF b o Β with h|h
   ·have:=tO k b o δ;omega
   ·exact a.aF b o h δ
  ·rcases JE b o δ with h|h
   ·have:=tO k b o (let ⟨v,hv⟩:=Β;⟨_,hv⟩);omega
   ·exact a.pP b o Β h
  ·rcases Τ.obj b Β with h|h
   ·have:=x3 k b δ;omega
   ·exact a.obj b h δ
 have QB:∀{A B:ψ},Apart A B→Apart B A:=fun h=>⟨h.pP,h.aF,fun b hb μ=>h.obj b μ hb⟩
 have EG:∀b,b<w.heap.size→(H (.inl i)).off b→G'.off b:=fun b hb h=>⟨fun o Β=>(JE b o Β).elim (fun x=>by omega) (h.1 o),fun Β=>(Τ.obj b Β).elim (fun x=>by omega) h.2⟩
 have vD:∀j b v,aC j b=some v→b<w.heap.size:=fun j b v hv=>ff (dj.ly j b v.1 v.2 hv)
 have EH:∀s o b,O s=some o→dW s o.toSpec b→b<w.heap.size:=fun s o b ξ hb=>by
  obtain⟨⟨ty,R⟩,γ⟩:=dj.ft s o ξ;rcases hb with rfl|hb
  ·exact ff R
  ·obtain⟨iS,ο⟩:=γ b hb;exact ff ο
 refine⟨fun h k υ=>?_,fun h b o Β=>?_,fun h b Β=>?_,fun j b v hv=>?_,fun s o b ξ hb=>?_,Α.j2,Α.oT,fun b hb=>?_⟩
 ·by_cases aS:h=.inl i
  ·subst aS;rw[dt,bG _ _ (Ne.symm υ)];exact JG k (Ne.symm υ)
  ·by_cases kk:k=.inl i
   ·subst kk;rw[dt,bG _ _ aS];exact QB (JG h aS)
   ·rw[bG _ _ aS,bG _ _ kk];exact Α.apart h k υ
 ·by_cases aS:h=.inl i
  ·subst aS;rw[dt] at Β;rcases JF b o Β with h|h
   ·omega
   ·exact Α.high _ _ _ h
  ·rw[bG _ _ aS] at Β;exact Α.high _ _ _ Β
 ·by_cases aS:h=.inl i
  ·subst aS;rw[dt] at Β;rcases Τ.obj b Β with h|h
   ·omega
   ·exact Α.m3 _ _ h
  ·rw[bG _ _ aS] at Β;exact Α.m3 _ _ Β
 ·by_cases ε:j=i
  ·subst ε;rw[upd_same] at hv;rcases pW b v hv with h|⟨R,γ⟩
   ·obtain⟨a1,bg,cv⟩:=Α.fresh j b v h;refine⟨a1,fun cP=>?_,fun bC bh=>by rw[upd_ne _ _ bh];exact cv bC bh⟩;by_cases aS:cP=.inl j
    ·subst aS;rw[dt];exact EG b (vD j b v h) (bg _)
    ·rw[bG _ _ aS];exact bg _
   ·refine⟨by omega,fun cP=>?_,fun bC bh=>?_⟩
    ·by_cases aS:cP=.inl j
     ·subst aS;rw[dt];exact γ
     ·rw[bG _ _ aS];exact⟨fun o Β=>by have:=tO cP b o Β;omega,fun Β=>by have:=x3 cP b Β;omega⟩
    ·rw[upd_ne _ _ bh];cases η:aC bC b with
     | none=>rfl
     | some eZ=>have:=vD bC b eZ η;omega
  ·rw[upd_ne _ _ ε] at hv;obtain⟨a1,bg,cv⟩:=Α.fresh j b v hv;have hb:=vD j b v hv;refine⟨a1,fun cP=>?_,fun bC bh=>?_⟩
   ·by_cases aS:cP=.inl i
    ·subst aS;rw[dt];exact EG b hb (bg _)
    ·rw[bG _ _ aS];exact bg _
   ·by_cases cP:bC=i
    ·subst cP;rw[upd_same];cases η:V' b with
     | none=>rfl
     | some eZ=>
      rcases pW b eZ η with h|⟨R,_⟩
      ·rw[cv bC bh] at h;cases h
      ·omega
    ·rw[upd_ne _ _ cP];exact cv bC bh
 ·obtain⟨a1,bg,cv⟩:=Α.jK s o b ξ hb;have sm:=EH s o b ξ hb;refine⟨a1,fun cP=>?_,fun bC=>?_⟩
  ·by_cases aS:cP=.inl i
   ·subst aS;rw[dt];exact EG b sm (bg _)
   ·rw[bG _ _ aS];exact bg _
  ·by_cases cP:bC=i
   ·subst cP;rw[upd_same];cases η:V' b with
    | none=>rfl
    | some eZ=>
     rcases pW b eZ η with h|⟨R,_⟩
     ·rw[cv bC] at h;cases h
     ·omega
   ·rw[upd_ne _ _ cP];exact cv bC
 ·rw[bG _ _ (by simp)];exact Α.ed b hb
def iU (tok:Nat→Nat→Tok) (O:Nat→Option aK) (t:Trace):cw→Nat→Prop
 | .inl i,k=>Knows t i k
 | .inr b,k=>(∃p op,t[p]?=some op∧op.act=.mark (.releaseMerge ⟨b,0,none⟩)∧t.heard p∧Before t k p)∨(∀s o,O s=some o→dW s o.toSpec b→∀i,tok i s≠.nil→Knows t i k)
theorem EI {tok:Nat→Nat→Tok} {O:Nat→Option aK} {t:Trace} (u:Trace) {h:cw} {k:Nat} (υ:iU tok O t h k):iU tok O (t++u) h k:=by
 cases h with
 | inl i=>exact Knows.app u υ
 | inr b=>
  rcases υ with⟨p,op,R,γ,ο,Ι⟩|h
  ·have χ:=lt_size_of_getElem? R;exact .inl ⟨p,op,by rw[getElem?_append_old χ];exact R,γ,(heard_old χ).2 ο,Ι.app u⟩
  ·exact .inr fun s o ξ hb i hi=>(h s o ξ hb i hi).app u
structure h2 (H:cw→ψ) (aC:Nat→Nat→Option (Array Value×TypeId)) (tok:Nat→Nat→Tok) (O:Nat→Option aK) (bs:Nat→Nat) (deaf:Nat→Nat) (N:Nat) (t:Trace):Prop where
 race:∀said,¬Race said t
 low:∀op∈t,op.act.low N
 norel:∀op∈t,∀a,op.act≠.mark (.release a)
 perms:∀h,c8 t (iU tok O t h) (H h)
 nS:∀i b v,aC i b=some v→∀k a,touchAt t k=some a→¬mY a.loc b
 cont:∀s o b,O s=some o→dW s o.toSpec b→∀k a,touchAt t k=some a→mY a.loc b→a.kind=.atomic∨(a.kind=.said∧t.g? k=some (bs s))
 hears:∀i,Deaf t i=deaf i
theorem x4 {t:Trace} {N k:Nat} {a:Touch} (h:∀op∈t,op.act.low N) (μ:touchAt t k=some a) {b:Nat} (hb:mY a.loc b):b<N:=by
 obtain⟨op,Β,hM⟩:=touch_of μ;have ω:=h op (mem_of_getElem? Β);obtain⟨g,fn,pos,act⟩:=op;cases act with
 | access e=>
  simp only[MemAct.touch?,Option.some.injEq] at hM;subst hM;obtain⟨loc,wr,nT⟩:=e;cases loc<;>simp only[mY] at hb<;>first|(subst hb;exact ω)|exact hb.elim
 | mark m=>
  cases m<;>simp only[MemAct.touch?,Option.some.injEq,reduceCtorEq] at hM<;>(subst hM;simp only[mY] at hb;subst hb;exact ω)
 | _=>simp[MemAct.touch?] at hM
theorem AK.EJ {G:ψ} {n iq:Nat} {e:Event} (h:AK e):gT G n iq e:=by
 rcases h with h|h<;>simp[gT,h]
theorem AM {G:ψ} {n iq:Nat} {e:Event} (he:gT G n iq e) {a:Touch} (μ:(MemAct.ofEvent e).touch?=some a) :
  a.loc=e.loc∧a.write=e.write∧(a.loc.isMemory=true→(∃cn,e.loc=.cell cn)∨∃r,e.loc=.obj r):=by
 obtain⟨loc,wr,nT⟩:=e;cases loc with
 | cell cn=>simp[MemAct.ofEvent,MemAct.touch?] at μ;subst μ;simp
 | obj r=>
  simp only[gT] at he;obtain⟨rfl,_⟩:=he;cases wr<;>simp[MemAct.ofEvent,MemAct.touch?] at μ<;>subst μ<;>simp
 | output=>simp[MemAct.ofEvent,MemAct.touch?] at μ;subst μ;simp[Loc.isMemory]
 | goroutines=>exact he.elim
 | mark m=>simp only[gT] at he;subst he;simp[MemAct.ofEvent,MemAct.touch?] at μ
theorem h2.own {H:cw→ψ} {aC:Nat→Nat→Option (Array Value×TypeId)} {tok:Nat→Nat→Tok} {O:Nat→Option aK} {bs:Nat→Nat} {deaf:Nat→Nat} {bl w w':World} {gW:Nat} {t:Trace}
  (Ζ:h2 H aC tok O bs deaf w.heap.size t) (dj:gI H aC O bl w) (Α:hL H aC O gW) (i:Nat) {G':ψ} {V':Nat→Option (Array Value×TypeId)} {es:Array Event} {fn:FuncId} {pos:String}
  (cd:w.heap.size≤w'.heap.size) (Τ:AJ (H (.inl i)) G' w.heap.size) (pW:ED (aC i) V' G' w.heap.size)
  (fD:∀e∈es,gT (H (.inl i)) w.heap.size w'.heap.size e) (EK:∀b c,V' b=some c→w.heap.size≤b→∀e∈es,¬mY e.loc b) :
  h2 (bF H (.inl i) G') (upd aC i V') tok O bs deaf w'.heap.size (t++MemOp.ofEvents i fn pos es):=by
 have hu:∀op∈MemOp.ofEvents i fn pos es,op.g=i:=fun op Κ=>by obtain⟨e,_,rfl⟩:=Go.Conc.mem_ofEvents Κ;rfl
 have tO:∀h b o,(H h).has b o→b<w.heap.size:=fun h b o ⟨⟨v,p⟩,δ⟩=>by
  obtain⟨c,t,dC,hb,_⟩:=pQ ((dj.fit h).aF b o v p δ);exact ff hb
 have x3:∀h b,(H h).eQ b→b<w.heap.size:=fun h b ⟨x,δ⟩=>ff ((dj.fit h).obj b x δ).1
 have vD:∀j b v,aC j b=some v→b<w.heap.size:=fun j b v hv=>ff (dj.ly j b v.1 v.2 hv)
 have EH:∀s o b,O s=some o→dW s o.toSpec b→b<w.heap.size:=fun s o b ξ hb=>by
  obtain⟨⟨ty,R⟩,γ⟩:=dj.ft s o ξ;rcases hb with rfl|hb
  ·exact ff R
  ·obtain⟨iS,ο⟩:=γ b hb;exact ff ο
 have EL:∀e∈es,∀b,b<w.heap.size→(H (.inl i)).off b→¬mY e.loc b:=fun e he b hb q0 e0=>by
  have:=fD e he;obtain⟨loc,wr,nT⟩:=e;cases loc with
  | cell cn=>
   simp only[mY] at e0;subst e0;simp only[gT] at this;rcases this with h|⟨_,h⟩
   ·omega
   ·cases wr
    ·exact q0.1 _ h
    ·obtain⟨v,hv⟩:=h;exact q0.1 _ ⟨_,hv⟩
  | obj r=>
   simp only[mY] at e0;subst e0;simp only[gT] at this;rcases this.2 with h|h
   ·omega
   ·exact q0.2 h
  | _=>exact e0
 refine⟨fun said=>noRace_append (Ζ.race said) hu fun k a μ op Κ b hb η=>?_,fun op Κ=>?_,fun op Κ=>?_,fun h=>?_,fun j b v hv k a μ e0=>?_,fun s o b ξ hb k a μ e0=>?_,fun j=>?_⟩
 ·obtain⟨e,he,rfl⟩:=Go.Conc.mem_ofEvents Κ;obtain⟨R,γ,ο⟩:=AM (fD e he) hb;obtain⟨c1,c2,c3,_⟩:=η;have dm:=fD e he;rcases ο (by rw[←c1];exact c2) with⟨cn,ω⟩|⟨r,ω⟩
  ·simp only[gT,ω] at dm;have j3:a.loc=.cell cn:=by rw[c1,R,ω]
   rcases dm with h|⟨bQ,h⟩
   ·have:=x4 Ζ.low μ (b:=cn.block) (by rw[j3];rfl);omega
   ·obtain⟨nU,eι,sp⟩:=cn;simp only at bQ;subst bQ;by_cases hw:e.write=true
    ·rw[if_pos hw] at h;obtain⟨v,hv⟩:=h;exact(Ζ.perms (.inl i)).aF _ _ v true hv k a μ j3 (.inl rfl)
    ·rw[if_neg hw] at h;obtain⟨⟨v,p⟩,hv⟩:=h;exact(Ζ.perms (.inl i)).aF _ _ v p hv k a μ j3 (.inr (c3.resolve_right (by rw[γ];exact hw)))
  ·simp only[gT,ω] at dm;have j3:a.loc=.obj r:=by rw[c1,R,ω]
   rcases dm.2 with h|h
   ·have:=x4 Ζ.low μ (b:=r) (by rw[j3];rfl);omega
   ·exact(Ζ.perms (.inl i)).obj r h k a μ j3
 ·rcases Array.mem_append.1 Κ with h|h
  ·exact MemAct.low_mono cd (Ζ.low op h)
  ·obtain⟨e,he,rfl⟩:=Go.Conc.mem_ofEvents h;have dm:=fD e he;obtain⟨loc,wr,nT⟩:=e;cases loc with
   | cell cn=>
    simp only[gT] at dm;show cn.block<_;rcases dm with h|⟨_,h⟩
    ·exact h.2
    ·cases wr
     ·have:=tO _ _ _ h;omega
     ·obtain⟨v,hv⟩:=h;have:=tO (.inl i) _ _ ⟨_,hv⟩;omega
   | obj r=>
    simp only[gT] at dm;obtain⟨rfl,dm⟩:=dm;have κ:r<w'.heap.size:=dm.elim (fun h=>h.2) (fun h=>by have:=x3 _ _ h;omega);cases wr<;>exact κ
   | output=>trivial
   | goroutines=>exact dm.elim
   | mark m=>simp only[gT] at dm;subst dm;trivial
 ·rcases Array.mem_append.1 Κ with h|h
  ·exact Ζ.norel op h
  ·obtain⟨e,he,rfl⟩:=Go.Conc.mem_ofEvents h;intro a h;have dm:=fD e he;obtain⟨loc,wr,nT⟩:=e;cases loc with
   | mark m=>simp only[gT] at dm;subst dm;simp[MemAct.ofEvent] at h
   | obj r=>cases wr<;>cases nT<;>simp[MemAct.ofEvent] at h
   | _=>simp[MemAct.ofEvent] at h
 ·by_cases aS:h=.inl i
  ·subst aS;rw[dt];have JH:c8 (t++MemOp.ofEvents i fn pos es) (Knows (t++MemOp.ofEvents i fn pos es) i) (H (.inl i)):=(Ζ.perms (.inl i)).own hu;refine⟨fun b o v p η k a μ ω hw=>?_,fun b hb k a μ ω=>?_⟩
   ·rcases Τ.aF b o v p η with Η|⟨v0,fg,ae,χ⟩
    ·rcases mf μ with dV|⟨_,op,Κ,υ,_⟩
     ·have:=x4 Ζ.low dV (b:=b) (by rw[ω];rfl);omega
     ·have:=knows_own υ;rwa [hu op Κ] at this
    ·exact JH.aF b o v0 fg ae k a μ ω (hw.imp χ id)
   ·rcases Τ.obj b hb with Η|ae
    ·rcases mf μ with dV|⟨_,op,Κ,υ,_⟩
     ·have:=x4 Ζ.low dV (b:=b) (by rw[ω];rfl);omega
     ·have:=knows_own υ;rwa [hu op Κ] at this
    ·exact JH.obj b ae k a μ ω
  ·rw[bG _ _ aS];have ap:=Α.apart _ _ (Ne.symm aS);refine(Ζ.perms h).others (fun k υ=>EI _ υ) fun op Κ a μ=>?_;obtain⟨e,he,rfl⟩:=Go.Conc.mem_ofEvents Κ;obtain⟨R,γ,_⟩:=AM (fD e he) μ;have dm:=fD e he;refine⟨fun b o v p ω η=>?_,fun b ω hb=>?_⟩
   ·simp only[gT,←R,ω] at dm;rcases dm with δ|⟨_,δ⟩
    ·have:=tO h b o ⟨_,η⟩;omega
    ·by_cases hw:e.write=true
     ·rw[if_pos hw] at δ;exact absurd ⟨_,η⟩ (ap.aF b o δ)
     ·rw[if_neg hw] at δ;refine⟨?_,by rw[γ];simpa using hw⟩;cases p with
      | false=>rfl
      | true=>exact absurd δ (ap.pP b o ⟨v,η⟩)
   ·simp only[gT,←R,ω] at dm;rcases dm.2 with δ|δ
    ·have:=x3 h b hb;omega
    ·exact ap.obj b δ hb
 ·rcases mf μ with dV|⟨_,op,Κ,_,hM⟩
  ·have hb:=x4 Ζ.low dV e0;by_cases ε:j=i
   ·subst ε;rw[upd_same] at hv;rcases pW b v hv with h|h
    ·exact Ζ.nS j b v h k a dV e0
    ·omega
   ·rw[upd_ne _ _ ε] at hv;exact Ζ.nS j b v hv k a dV e0
  ·obtain⟨e,he,rfl⟩:=Go.Conc.mem_ofEvents Κ;obtain⟨R,_,_⟩:=AM (fD e he) hM;rw[R] at e0;by_cases ε:j=i
   ·subst ε;rw[upd_same] at hv;rcases pW b v hv with h|h
    ·exact EL e he b (vD j b v h) ((Α.fresh j b v h).2.1 _) e0
    ·exact EK b v hv h.1 e he e0
   ·rw[upd_ne _ _ ε] at hv;exact EL e he b (vD j b v hv) ((Α.fresh j b v hv).2.1 _) e0
 ·rcases mf μ with dV|⟨_,op,Κ,_,hM⟩
  ·rcases Ζ.cont s o b ξ hb k a dV e0 with h|⟨h,υ⟩
   ·exact .inl h
   ·obtain⟨op,Β,_⟩:=touch_of dV;exact .inr ⟨h,by rw[g?_old (lt_size_of_getElem? Β)];exact υ⟩
  ·obtain⟨e,he,rfl⟩:=Go.Conc.mem_ofEvents Κ;obtain⟨R,_,_⟩:=AM (fD e he) hM;rw[R] at e0;exact absurd e0 (EL e he b (EH s o b ξ hb) ((Α.jK s o b ξ hb).2.1 _))
 ·by_cases ε:i=j
  ·subst ε;rw[Deaf_own,deafBehind_still (fun e he=>?_)]
   ·exact Ζ.hears i
   ·have dm:=fD e he;constructor<;>intro ω<;>simp[gT,ω] at dm
  ·rw[Deaf_other t ε _ hu];exact Ζ.hears j
end Go.TL
