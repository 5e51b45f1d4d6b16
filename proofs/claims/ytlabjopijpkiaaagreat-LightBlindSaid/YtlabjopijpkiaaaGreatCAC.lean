import Derived.Test.YtlabjopijpkiaaaGreatCAA
import Derived.Test.YtlabjopijpkiaaaGreatCAB
set_option maxHeartbeats 16000000
set_option maxRecDepth 20000
set_option linter.unusedSectionVars false
set_option linter.unusedSimpArgs false
set_option linter.unusedVariables false
namespace Go.TL
open Go.Conc
open Go.ConcN (sumTo upd sumTo_upd upd_ne upd_same sumTo_congr le_sumTo)
section
variable {N i:Nat} {o o':aV} {τ:Nat->Tok} {t t':Tok}
theorem KZ (o':aV) (ψ:o'.top=o.top) (hi:i<N) (Ν:τ i=t) (h:mL o.top t'+9*o'.db+2*o'.cP<mL o.top t+9*o.db+2*o.cP):eL N o' (upd τ i t')<eL N o τ:=by
 have e:=gN τ t' (mL o.top) hi;rw[Ν] at e;unfold eL;rw[ψ];omega
theorem K1 (hi:i<N) (Ν:τ i=t) (κ:Act o t o' t'):eL N o' (upd τ i t')<eL N o τ:=by
 cases κ<;>refine KZ _ rfl hi Ν ?_
 case acq aw _ _=>cases aw<;>simp[mL,vE]
 case queue aw _ _ _=>cases aw<;>simp[mL,vE]
 case take=>simp[mL,vE];omega
 case add=>simp[mL];omega
 case wake=>simp[mL,xE];omega
 all_goals (simp[mL,vE,Cl,xE]<;>omega)
theorem Co (hi:i<N) (Ν:τ i=t) (κ:pV o t o' t'):eL N o' (upd τ i t')<eL N o τ:=by
 cases κ<;>refine KZ _ rfl hi Ν ?_
 case gtake aQ π=>rcases π with rfl|rfl<;>simp[mL,xE]
 all_goals (simp[mL,vE,Cl,xE]<;>omega)
theorem Gb {φ:Tok->Nat} (hi:i<N) (h:φ t'=φ (τ i)):ba N (upd τ i t') φ=ba N τ φ:=by
 have:=gN τ t' φ hi;omega
theorem Cp (h:pU N o τ) (hi:i<N) (Ν:τ i=t) (κ:pV o t o' t'):pU N o' (upd τ i t'):=by
 unfold pU at h ⊢;cases κ<;>
 (repeat rw[Gb hi (by rw[Ν];rfl)])<;>exact h
theorem Cq (h:o1 N o τ) (hi:i<N) (Ν:τ i=t) (κ:pV o t o' t'):o1 N o' (upd τ i t'):=by
 unfold o1 at h ⊢;cases κ
 case gtake aQ π=>rcases π with rfl|rfl<;>(repeat rw[Gb hi (by rw[Ν];rfl)])<;>exact h
 all_goals (repeat rw[Gb hi (by rw[Ν];rfl)])<;>exact h
theorem vJ (N:Nat) (τ:Nat->Tok) (φ:Tok->Nat):ba (N+1) τ φ=ba N τ φ+φ (τ N):=rfl
theorem K2 {φ:Tok->Nat} (eE:φ .nil=0) (h:τ N=.nil):ba (N+1) τ φ=ba N τ φ:=by rw[vJ,h,eE];rfl
theorem K3 (h:ua N o τ) (Ζ:τ N=.nil):ua (N+1) o τ:=by
 unfold ua pU o1 at h ⊢
 repeat rw[K2 (by rfl) Ζ]
 exact h
theorem K4 (Ζ:τ N=.nil):eL (N+1) o τ=eL N o τ:=by
 unfold eL;rw[K2 (by rfl) Ζ]
theorem St {j n p:Nat} (h:ua N o τ) (hi:i<N) (δ:j<N) (fz:i≠j) (Ν:τ i=.par n (p+1) .add) (Ζ:τ j=.nil) (k:Nat) :
  ua N o (upd (upd τ i (.par n p .add)) j (.ch k .idle .work)):=by
 have aH:upd τ i (.par n p .add) j=.nil:=by rw[upd_ne _ _ (Ne.symm fz)];exact Ζ
 have key:∀φ:Tok->Nat,ba N (upd (upd τ i (.par n p .add)) j (.ch k .idle .work)) φ+φ .nil+φ (.par n (p+1) .add)=ba N τ φ+φ (.par n p .add)+φ (.ch k .idle .work):=λφ=>by
  have Γ:=gN τ (.par n p .add) φ hi
  have Δ:=gN (upd τ i (.par n p .add)) (.ch k .idle .work) φ δ;rw[Ν] at Γ;rw[aH] at Δ;omega
 obtain⟨dG,di⟩:=h;constructor
 ·unfold pU at dG ⊢;have f1:=key iS;have f2:=key og;have f3:=key mJ;have f4:=key lT;have f5:=key nB;have f6:=key lU;have f7:=key ra;have f8:=key oh;have f9:=key q';simp only[iS,og,mJ,lT,nB,lU,ra,oh,q',zl,Ci,vB,zm,Cj,zn,F4,Ck,F3,Nat.add_zero] at f1 f2 f3 f4 f5 f6 f7 f8 f9;rw[f1,f2,f3,f4,f5,f6,f7,f8,f9];exact dG
 ·unfold o1 at di ⊢;have f1:=key jF;have f2:=key kx;have f3:=key ky;have f4:=key lV;have f5:=key e1;have f6:=key hH;have f7:=key iT;have f8:=key mK;have f9:=key lW;have f10:=key iU;simp only[jF,kx,ky,lV,e1,hH,iT,mK,lW,iU,sy,vC,vD,Nat.add_zero] at f1 f2 f3 f4 f5 f6 f7 f8 f9 f10;obtain⟨gx,ub,zr,zs,Ga,Sp,Sq,Sr,Ss⟩:=di;constructor<;>omega
theorem Su {j n p:Nat} (hi:i<N) (δ:j<N) (fz:i≠j) (Ν:τ i=.par n (p+1) .add) (Ζ:τ j=.nil) (k:Nat) :
  eL N o (upd (upd τ i (.par n p .add)) j (.ch k .idle .work))<eL N o τ:=by
 have aH:upd τ i (.par n p .add) j=.nil:=by rw[upd_ne _ _ (Ne.symm fz)];exact Ζ
 have Γ:=gN τ (.par n p .add) (mL o.top) hi
 have Δ:=gN (upd τ i (.par n p .add)) (.ch k .idle .work) (mL o.top) δ;rw[Ν] at Γ;rw[aH] at Δ;simp only[mL,vE,Cl,xE] at Γ Δ;unfold eL;omega
theorem Cr {φ:Tok->Nat} (h:0<ba N τ φ):∃i,i<N/\0<φ (τ i):=by
 have iv:∀n,0<ba n τ φ->∃i,i<n/\0<φ (τ i):=λn=>by
  induction n with
  | zero=>intro h;cases h
  | succ n ω=>
   intro h;rw[vJ] at h;by_cases an:0<φ (τ n)
   ·exact⟨n,R,an⟩
   ·obtain⟨i,hi,π⟩:=ω R;exact⟨i,R,π⟩
 exact iv N h
def o3:Tok->Prop
 | .ch _ .own _|.ch _ (.dr _) _|.ch _ .fin _|.ch _ .us _|.ch _ .wk _|.ch _ .hw _|.ch _ (.act true) _|.ch _ .uc _=>True
 | _=>False
theorem Sv (h:pU N o τ) (Ξ:0<ba N τ lT) (an:o.db=0):∃i,i<N/\o3 (τ i):=by
 have pick:∀{φ:Tok->Nat},(∀t,0<φ t->o3 t)->0<ba N τ φ->∃i,i<N/\o3 (τ i):=λeE π=>let ⟨i,hi,γ⟩:=Cr π;⟨i,hi,eE _ γ⟩
 have Sw:∀t,0<iS t->o3 t:=λt Ν=>by cases t<;>simp_all [iS,o3];rename_i m _;cases m<;>simp_all [zl]
 have Cs:∀t,0<og t->o3 t:=λt Ν=>by cases t<;>simp_all [og,o3];rename_i m _;cases m<;>simp_all [Ci]
 have zt:∀t,0<mJ t->o3 t:=λt Ν=>by cases t<;>simp_all [mJ,o3];rename_i m _;cases m<;>simp_all [vB];rename_i b;cases b<;>simp_all [vB]
 have Sx:∀t,0<oh t->o3 t:=λt Ν=>by cases t<;>simp_all [oh,o3];rename_i m _;cases m<;>simp_all [Ck]
 obtain⟨f1,f2,f3,h6,mM,vH,ub,zr,zs⟩:=h;by_cases c1:0<ba N τ iS
 ·exact pick Sw c1
 by_cases c2:0<ba N τ og
 ·exact pick Cs c2
 by_cases c3:0<ba N τ mJ
 ·exact pick zt c3
 by_cases c4:0<ba N τ oh
 ·exact pick Sx c4
 exfalso;rcases(show o.sv=0\/o.sv=1 by omega) with ν|ν
 ·have:=mM ν;have:=ub ν;omega
 ·have:=vH ν;omega
def rf:Tok->Prop
 | .ch _ _ .work|.ch _ _ .rel|.ch _ _ .l2|.ch _ _ .h5=>True
 | _=>False
theorem Sy (h:o1 N o τ) {n p:Nat} (hi:i<N) (Ν:τ i=.par n p .w3) (an:o.cP=0):∃j,j<N/\rf (τ j):=by
 have pick:∀{φ:Tok->Nat},(∀t,0<φ t->rf t)->0<ba N τ φ->∃i,i<N/\rf (τ i):=λeE π=>let ⟨i,hi,γ⟩:=Cr π;⟨i,hi,eE _ γ⟩
 have bC:∀t,0<jF t->rf t:=λt Ν=>by cases t<;>simp_all [jF,rf];rename_i m;cases m<;>simp_all [sy]
 have dt:∀t,0<kx t->rf t:=λt Ν=>by cases t<;>simp_all [kx,rf];rename_i m;cases m<;>simp_all [vC]
 have fK:∀t,0<ky t->rf t:=λt Ν=>by cases t<;>simp_all [ky,rf];rename_i m;cases m<;>simp_all [vD]
 have w:=pW (φ:=lW) (λt Ν=>by cases t<;>simp_all [e1,lW]) h.oi hi (by rw[Ν];rfl);rw[Ν] at w;have:=h.R3 w;have:=h.F5;by_cases c1:0<ba N τ jF
 ·exact pick bC c1
 by_cases c2:0<ba N τ kx
 ·exact pick dt c2
 by_cases c3:0<ba N τ ky
 ·exact pick fK c3
 exfalso;omega
end
end Go.TL
namespace Go.TL
open Go.Conc
open Go.ConcM (OsLater)
open Go.ConcN (sumTo upd sumTo_upd upd_ne upd_same sumTo_congr le_sumTo)
open Go.ConcR (mk)
inductive gy (B:Type):Type where
 | leaf
 | node (f:B->gy B)
inductive nC {B:Type}:List (gy B)->List (gy B)->Prop where
 | one (a b:List (gy B)) (f:B->gy B) (k:B):nC (a++f k::b) (a++gy.node f::b)
 | two (a b:List (gy B)) (f:B->gy B) (k af:B):nC (a++f k::f af::b) (a++gy.node f::b)
theorem nC.cons_inv {B:Type} {l:List (gy B)} {t:gy B} {m:List (gy B)} (h:nC m (t::l)) :
  (∃cb,nC cb l/\m=t::cb)\/(∃f k,t=.node f/\m=f k::l)\/(∃f k af,t=.node f/\m=f k::f af::l):=by
 generalize γ:t::l=x at h;cases h with
 | one a b f k=>
  cases a with
  | nil=>simp at γ;exact .inr (.inl ⟨f,k,γ.1,by rw[γ.2];rfl⟩)
  | cons y a=>simp at γ;exact .inl ⟨a++f k::b,by rw[γ.2];exact .one a b f k,by rw[γ.1];rfl⟩
 | two a b f k af=>
  cases a with
  | nil=>simp at γ;exact .inr (.inr ⟨f,k,af,γ.1,by rw[γ.2];rfl⟩)
  | cons y a=>simp at γ;exact .inl ⟨a++f k::f af::b,by rw[γ.2];exact .two a b f k af,by rw[γ.1];rfl⟩
theorem nC.Sz {B:Type} (t:gy B):∀l,Acc nC l->Acc nC (t::l):=by
 induction t with
 | leaf=>
  intro l ξ
  induction ξ with
  | intro l _ ω=>
   refine⟨_,λm hm=>?_⟩;rcases hm.cons_inv with⟨cb,J,rfl⟩|⟨f,k,h,_⟩|⟨f,k,af,h,_⟩
   ·exact ω cb J
   ·cases h
   ·cases h
 | node f Gc=>
  intro l ξ
  induction ξ with
  | intro l sz ω=>
   refine⟨_,λm hm=>?_⟩;rcases hm.cons_inv with⟨cb,J,rfl⟩|⟨f',k,h,rfl⟩|⟨f',k,af,h,rfl⟩
   ·exact ω cb J
   ·cases h;exact Gc k l ⟨l,sz⟩
   ·cases h;exact Gc k _ (Gc af l ⟨l,sz⟩)
theorem nC.wf {B:Type}:WellFounded (nC (B:=B)):=⟨λl=>by
 induction l with
 | nil=>exact⟨_,λm hm=>by
   generalize γ:([]:List (gy B))=x at hm;cases hm<;>simp at γ⟩
 | cons t l ω=>exact nC.Sz t l ω⟩
structure a2 where
 G:Α
 aN:Nat->Option (Array Value×TypeId)
 tok:Nat->Tok
 spec:Nat->Option Spec
 view:Nat->Option (Nat×aV)
 deaf:Nat
 rel:Bool
def zu (V:Nat->Option (Array Value×TypeId)) (w:World):Prop:=∀b c t,V b=some (c,t)->w.heap[b]?=some (.cells c t (0,0))
def cT (o:aV):Int:=(o.cnt:Int)*4294967296+o.wt
def mwd (o:aV):Int:=(o.cn:Int)+2*o.wk+4*o.sv+8*o.nw
def At (s:Nat) (o:aV) (w:World):Prop:=
 (∃ty,w.heap[s]?=some (.cells #[.int .u64 (cT o),.int .u32 o.cP] ty (0,0)))/\∀m,o.aZ=some m->∃ty,w.heap[m]?=some (.cells #[.int .i32 (mwd o),.int .u32 o.db] ty (0,0))
def ez (s:Nat) (sp:Spec) (b:Nat):Prop:=b=s\/sp.aZ=some b
def vK (o:aV) (t:Tok):Prop:=∃N τ i,ua N o τ/\i<N/\τ i=t/\(∀k L g,t=.ch k (.dr L) g->o.L=L)
def Gd (x:a2) (s φ:Nat) (o:aV):Prop:=∀g0 lY,x.view s=some (g0,lY)->φ<=g0/\(φ=g0->o=lY)
structure Sub (G' G:Α):Prop where
 aP:∀b o v p,G'.aP b o=some (v,p)->∃fL,G.aP b o=some (v,fL)/\(p=true->fL=true)
 row:∀b x,G'.row b=some x->G.row b=some x
 obj:∀b x,G'.obj b=some x->G.obj b=some x
structure Split (G nD nE:Α):Prop where
 l:Sub nD G
 r:Sub nE G
 apart:Apart nD nE
def join (G H:Α):Α:=
 ⟨λb o=>match G.aP b o with|some x=>some x|none=>H.aP b o,λb=>match G.row b with|some x=>some x|none=>H.row b,λb=>match G.obj b with|some x=>some x|none=>H.obj b⟩
def lZ (D:Nat->Α->Prop):List Nat->Α->Prop
 | [],E=>E=Α.empty
 | k::K5,E=>∃pZ p0,D k pZ/\lZ D K5 p0/\Apart pZ p0/\E=join pZ p0
structure Ct (G G':Α) (n:Nat):Prop where
 aP:∀b o v p,G'.aP b o=some (v,p)->n<=b\/∃v0 fL,G.aP b o=some (v0,fL)/\(p=true->fL=true)
 obj:∀b,G'.fg b->n<=b\/G.fg b
def Ge (V:Nat->Option (Array Value×TypeId)) (V':Nat->Option (Array Value×TypeId)) (G':Α) (n:Nat):Prop:=
 ∀b c,V' b=some c->V b=some c\/(n<=b/\G'.off b)
def Cu (e:Event):Prop:=e.loc=.output\/e.loc=.mark .noRoom
def o4 (s:Nat) (sp:Spec) (d:Nat) (es:Array Event):Prop:=
 deafBehind d es=d/\∀j e,es[j]?=some e->(e.loc=.mark .disable\/e.loc=.mark .enable\/(∃b off wr,e=⟨.cell ⟨b,off,none⟩,wr,true⟩/\ez s sp b/\0<deafBehind d (es.extract 0 j)))
def kA (o:aV):Tok->Prop
 | .ch _ .q _=>o.db=0
 | .par _ _ .w3=>o.cP=0
 | _=>False
def nF:Tok->Prop
 | .nil=>True
 | .par _ _ .add|.par _ _ .bm=>True
 | .ch _ .idle _|.ch _ .done _=>True
 | _=>False
def gk:Tok->Prop
 | .nil=>True
 | .par _ _ .bm=>True
 | _=>False
def Gone:Tok->Prop
 | .nil=>True
 | .par _ _ .bm=>True
 | .ch _ _ .gone=>True
 | _=>False
abbrev zv:=Bool->Goroutine->a2->Prop
def jl (g:Goroutine):Prop:=g.status=.running/\g.offers=none
section
variable (P:Program) (mn:Bool) (ak:zv) (g:Goroutine) (x:a2)
def K6:Prop:=∀w,Fits x.G w->zu x.aN w->(stepG P mn g w).goes λg' w' es=>∃G' V',jl g'/\fI x.G.owns x.G.fg w w'/\Fits G' w'/\zu V' w'/\
 Ct x.G G' w.heap.size/\Ge x.aN V' G' w.heap.size/\(∀e∈es,if x.rel then Cu e else hG x.G w.heap.size w'.heap.size e)/\(∀b c,V' b=some c->w.heap.size<=b->∀e∈es,¬oe e.loc b)/\ak mn g' {x with G:=G',aN:=V'}
def K7:Prop:=∃g',jl g'/\((∀w,Fits x.G w->stepG P mn g w=.go g' w #[mk .disable]/\ak mn g' {x with deaf:=x.deaf+1})\/
 (0<x.deaf/\∀w,Fits x.G w->stepG P mn g w=.go g' w #[mk .enable]/\ak mn g' {x with deaf:=x.deaf-1}))
def K8:Prop:=∃(s n p:Nat) (aQ:sx) (g':Goroutine) (off:Nat) (wr:Bool),x.tok s=.par n p aQ/\aQ≠.bm/\x.rel=false/\jl g'/\∀w,Fits x.G w->stepG P mn g w=.go g' w #[mk (if wr then .write ⟨s,off,none⟩ else .read ⟨s,off,none⟩)]/\ak mn g' x
def Atom:Prop:=∃s sp,x.spec s=some sp/\¬gk (x.tok s)/\∀w φ o,Fits x.G w->zu x.aN w->o.toSpec=sp->At s o w->Gd x s φ o->vK o (x.tok s)->
 ((stepG P mn g w).goes λg' w' es=>jl g'/\fI (λb _=>ez s sp b) (λ_=>False) w w'/\o4 s sp x.deaf es/\
   ((At s o w'/\ak mn g' {x with view:=upd x.view s (some (φ,o))})\/
    ∃o' t',Act o (x.tok s) o' t'/\At s o' w'/\(mayWake P g=true\/o'=o)/\∀cA,cA<φ->ak mn g' {x with tok:=upd x.tok s t',view:=upd x.view s (some (cA,o'))}))\/
 (kA o (x.tok s)/\(∀bk,bk≠s->nF (x.tok bk))/\stepG P mn g w=.go {g with status:=.blocked} w #[])
def K9:Prop:=∃s sp m k g',x.spec s=some sp/\sp.aZ=some m/\x.tok s=.ch k .own .work/\x.deaf=0/\jl g'/\x.rel=false/\
 (∀w,Fits x.G w->stepG P mn g w=.go g' w #[mk (.acquire ⟨m,0,none⟩)])/\
 ∀L E,sp.ar L E->Apart x.G E->(L.Nodup/\k∉L/\∃w,Fits x.G w/\Fits E w)->ak mn g' {x with G:=join x.G E,tok:=upd x.tok s (.ch k (.dr L) .work),view:=upd x.view s none}
def La:Prop:=∃s sp m k L g' G' E,x.spec s=some sp/\sp.aZ=some m/\x.tok s=.ch k (.dr L) .work/\x.deaf=0/\jl g'/\x.rel=false/\
 (∀w,Fits x.G w->stepG P mn g w=.go g' w #[mk (.releaseMerge ⟨m,0,none⟩)])/\
 Split x.G G' E/\sp.ar (L++[k]) E/\ak mn g' {x with G:=G',tok:=upd x.tok s (.ch k .fin .work),view:=upd x.view s none}
def Lb:Prop:=∃s sp k mu g' E,x.spec s=some sp/\x.tok s=.ch k mu .work/\(mu=.done\/(mu=.idle/\sp.aZ=none))/\(∀bk,bk≠s->gk (x.tok bk))/\x.deaf=0/\jl g'/\x.rel=false/\
 (∀w,Fits x.G w->stepG P mn g w=.go g' w #[mk (.releaseMerge ⟨s,0,none⟩)])/\
 Sub E x.G/\sp.D k E/\ak mn g' {x with G:=Α.empty,aN:=λ_=>none,tok:=upd x.tok s (.ch k mu .rel),view:=upd x.view s none,rel:=true}
def Lc:Prop:=∃s sp n aQ g',x.spec s=some sp/\x.tok s=.par n 0 aQ/\(aQ=.mI\/aQ=.w4)/\x.deaf=0/\jl g'/\x.rel=false/\
 (∀w,Fits x.G w->stepG P mn g w=.go g' w #[mk (.acquire ⟨s,0,none⟩)])/\
 ∀gz fM g1 eM,gz.Perm (List.range n)->lZ sp.D gz g1->(sp.aZ≠none->fM.Perm (List.range n)/\sp.ar fM eM)->(sp.aZ=none->eM=Α.empty)->Apart x.G g1->Apart x.G eM->Apart g1 eM->(∃w,Fits x.G w/\Fits g1 w/\Fits eM w)->
  ak mn g' {x with G:=join (join x.G g1) eM,tok:=upd x.tok s (.par n 0 .bm),view:=upd x.view s none}
def Ld:Prop:=∃s sp n p g' c nD nE,x.spec s=some sp/\x.tok s=.par n (p+1) .add/\x.deaf=0/\jl g'/\jl c/\x.rel=false/\
 (∀w,Fits x.G w->stepG P mn g w=.spawn g' c w #[])/\Split x.G nD nE/\
 ak mn g' {x with G:=nD,tok:=upd x.tok s (.par n p .add),view:=upd x.view s none}/\
 ak false c ⟨nE,λ_=>none,upd (λ_=>.nil) s (.ch (n-(p+1)) .idle .work),upd (λ_=>none) s (some sp),λ_=>none,0,false⟩
def Gf:Prop:=
 (∃G',Sub G' x.G/\ak mn g {x with G:=G'})\/
 (∃b c t,x.aN b=some (c,t)/\ak mn g {x with aN:=upd x.aN b none,G:=⟨λΨ o=>if Ψ=b then(c[o]?).map (·,true) else x.G.aP Ψ o,λΨ=>if Ψ=b then some (t,c.size) else x.G.row Ψ,x.G.obj⟩})\/
 (∃s sp ty G' E,x.aN s=some (#[.int .u64 0,.int .u32 0],ty)/\(∀m,sp.aZ=some m->m≠s/\∃j1,x.aN m=some (#[.int .i32 0,.int .u32 0],j1))/\x.rel=false/\
  Split x.G G' E/\(sp.aZ≠none->sp.ar [] E)/\
  ak mn g {x with G:=G',aN:=λb=>if b=s\/sp.aZ=some b then none else x.aN b,tok:=upd x.tok s (.par 0 0 .add),spec:=upd x.spec s (some sp),view:=upd x.view s none})
def Le:Prop:=mn=false/\g.status=.running/\x.rel=true/\(∀s,Gone (x.tok s))/\∃g' es,(∀e∈es,Event.mute e=true)/\(∀w,stepG P false g w=.go g' w es)/\ak mn g' {x with deaf:=deafBehind x.deaf es}
def zw:Prop:=Le P mn ak g x\/jl g/\(K6 P mn ak g x\/K7 P mn ak g x\/K8 P mn ak g x\/Atom P mn ak g x\/K9 P mn ak g x\/La P mn ak g x\/Lb P mn ak g x\/Lc P mn ak g x\/Ld P mn ak g x\/Gf mn ak g x)
def Lf (Q:Value->Prop):Prop:=jl g/\(∀s,gk (x.tok s))/\x.deaf=0/\∀w,Fits x.G w->∃v es,stepG P true g w=.ended (.done v) w es/\(∀e∈es,hG x.G w.heap.size w.heap.size e)/\Q v
def SA:Prop:=x.rel=true/\(∀s,Gone (x.tok s))/\g.status=.finished/\x.deaf=0
def Cv (Q:Value->Prop):Prop:=(mn=true/\Lf P g x Q)\/(mn=false/\SA g x)
def zx:Prop:=x.rel=true->(∀s,Gone (x.tok s))->∃n,QuitsD P n x.deaf g
end
open Classical in
def j2 (P:Program) (Q:Value->Prop):gy (Bool×Goroutine×a2)->zv
 | .leaf=>λmn g x=>zx P g x/\Cv P mn g x Q
 | .node f=>λmn g x=>zx P g x/\(Cv P mn g x Q\/zw P mn (λvL g' dj=>j2 P Q (f (vL,g',dj)) vL g' dj) g x)
def Goes (P:Program) (Q:Value->Prop):zv:=λmn g x=>∃T,j2 P Q T mn g x
theorem zw.mono {P:Program} {mn:Bool} {ak Lg:zv} {g:Goroutine} {x:a2} (aI:∀mn g x,ak mn g x->Lg mn g x) (h:zw P mn ak g x):zw P mn Lg g x:=by
 rcases h with⟨Γ,Δ,a4,SB,g',es,fh,lX,re⟩|⟨ι,h⟩
 ·exact .inl ⟨Γ,Δ,a4,SB,g',es,fh,lX,aI _ _ _ re⟩
 refine .inr ⟨ι,?_⟩;rcases h with h|h|h|h|h|h|h|h|h|h
 ·refine .inl λw Τ hv=>?_;have:=h w Τ hv;revert this;cases stepG P mn g w<;>simp only[GStep.goes,imp_self];rintro⟨G',V',J,U,μ,Ε,au,bd,g7,Gg,l3⟩;exact⟨G',V',J,U,μ,Ε,au,bd,g7,Gg,aI _ _ _ l3⟩
 ·obtain⟨g',J,U⟩:=h;exact .inr (.inl ⟨g',J,U.elim (λh=>.inl λw Τ=>⟨(h w Τ).1,aI _ _ _ (h w Τ).2⟩) (λh=>.inr ⟨h.1,λw Τ=>⟨(h.2 w Τ).1,aI _ _ _ (h.2 w Τ).2⟩⟩)⟩)
 ·obtain⟨s,n,p,aQ,g',off,wr,J,U,hI,μ,Ε⟩:=h;exact .inr (.inr (.inl ⟨s,n,p,aQ,g',off,wr,J,U,hI,μ,λw Τ=>⟨(Ε w Τ).1,aI _ _ _ (Ε w Τ).2⟩⟩))
 ·obtain⟨s,sp,J,hI,μ⟩:=h;refine .inr (.inr (.inr (.inl ⟨s,sp,J,hI,λw φ o Τ hv ν κ zy π=>?_⟩)));refine(μ w φ o Τ hv ν κ zy π).imp (λh=>?_) id;revert h;cases stepG P mn g w<;>simp only[GStep.goes,imp_self];rintro⟨J,U,μ,Ε⟩;exact⟨J,U,μ,Ε.imp (λh=>⟨h.1,aI _ _ _ h.2⟩) λ⟨o',t',a1,a9,cK,gx⟩=>⟨o',t',a1,a9,cK,λcA eE=>aI _ _ _ (gx cA eE)⟩⟩
 ·obtain⟨s,sp,m,k,g',J,U,μ,Ε,au,uf,bd,g7⟩:=h;exact .inr (.inr (.inr (.inr (.inl ⟨s,sp,m,k,g',J,U,μ,Ε,au,uf,bd,λL E a b c=>aI _ _ _ (g7 L E a b c)⟩))))
 ·obtain⟨s,sp,m,k,L,g',G',E,J,U,μ,Ε,au,uf,bd,g7,l3,ug⟩:=h;exact .inr (.inr (.inr (.inr (.inr (.inl ⟨s,sp,m,k,L,g',G',E,J,U,μ,Ε,au,uf,bd,g7,l3,aI _ _ _ ug⟩)))))
 ·obtain⟨s,sp,k,mu,g',E,J,U,μ,Ε,au,bd,SC,g7,l3,ug,SD⟩:=h;exact .inr (.inr (.inr (.inr (.inr (.inr (.inl ⟨s,sp,k,mu,g',E,J,U,μ,Ε,au,bd,SC,g7,l3,ug,aI _ _ _ SD⟩))))))
 ·obtain⟨s,sp,n,aQ,g',J,U,μ,Ε,au,uf,bd,g7⟩:=h;exact .inr (.inr (.inr (.inr (.inr (.inr (.inr (.inl ⟨s,sp,n,aQ,g',J,U,μ,Ε,au,uf,bd,λgz fM g1 eM a b c d e f g i=>aI _ _ _ (g7 gz fM g1 eM a b c d e f g i)⟩)))))))
 ·obtain⟨s,sp,n,p,g',c,nD,nE,J,U,μ,Ε,au,uf,bd,g7,l3,ug⟩:=h;exact .inr (.inr (.inr (.inr (.inr (.inr (.inr (.inr (.inl ⟨s,sp,n,p,g',c,nD,nE,J,U,μ,Ε,au,uf,bd,g7,aI _ _ _ l3,aI _ _ _ ug⟩))))))))
 ·refine .inr (.inr (.inr (.inr (.inr (.inr (.inr (.inr (.inr ?_))))))));rcases h with⟨G',J,U⟩|⟨b,c,t,J,U⟩|⟨s,sp,ty,G',E,J,U,μ,Ε,au,g7⟩
  ·exact .inl ⟨G',J,aI _ _ _ U⟩
  ·exact .inr (.inl ⟨b,c,t,J,aI _ _ _ U⟩)
  ·exact .inr (.inr ⟨s,sp,ty,G',E,J,U,μ,Ε,au,aI _ _ _ g7⟩)
theorem Goes.stop {P:Program} {Q:Value->Prop} {mn:Bool} {g:Goroutine} {x:a2} (ψ:zx P g x) (h:Cv P mn g x Q):Goes P Q mn g x:=⟨.leaf,ψ,h⟩
open Classical in
theorem Goes.step {P:Program} {Q:Value->Prop} {mn:Bool} {g:Goroutine} {x:a2} (ψ:zx P g x) (h:zw P mn (Goes P Q) g x):Goes P Q mn g x:=by
 refine⟨.node λk=>if χ:∃T,j2 P Q T k.1 k.2.1 k.2.2 then Classical.choose χ else .leaf,ψ,.inr (h.mono λvL g' dj Ο=>?_)⟩;have χ:∃T,j2 P Q T vL g' dj:=Ο;simp only[χ,dif_pos];exact Classical.choose_spec χ
theorem Goes.quits {P:Program} {Q:Value->Prop} (n:Nat):∀{g:Goroutine} {x:a2},x.rel=true->(∀s,Gone (x.tok s))->QuitsD P n x.deaf g->Goes P Q false g x:=by
 induction n with
 | zero=>
  intro g x ι Ο Ξ;exact .stop (λ_ _=>⟨0,Ξ⟩) (.inr ⟨rfl,ι,Ο,Ξ.1,Ξ.2⟩)
 | succ n ω=>
  intro g x ι Ο Ξ;rcases Ξ with Ξ|⟨ν,g',es,J,U,μ⟩
  ·exact .stop (λ_ _=>⟨0,Ξ⟩) (.inr ⟨rfl,ι,Ο,Ξ.1,Ξ.2⟩)
  ·exact .step (λ_ _=>⟨n+1,.inr ⟨ν,g',es,J,U,μ⟩⟩) (.inl ⟨rfl,ν,ι,Ο,g',es,J,U,ω (x:={x with deaf:=deafBehind x.deaf es}) ι Ο μ⟩)
abbrev cN:=Nat ⊕ Nat
def bO (H:cN->Α) (h:cN) (G:Α):cN->Α:=λk=>if k=h then G else H k
@[simp] theorem dS (H:cN->Α) (h:cN) (G:Α):bO H h G h=G:=by simp[bO]
theorem bP (H:cN->Α) {h k:cN} (G:Α) (χ:k≠h):bO H h G k=H k:=by simp[bO,χ]
structure dc where
 H:cN->Α
 aN:Nat->Nat->Option (Array Value×TypeId)
 tok:Nat->Nat->Tok
 spec:Nat->Nat->Option Spec
 view:Nat->Nat->Option (Nat×aV)
 deaf:Nat->Nat
 rel:Nat->Bool
 T:Nat->gy (Bool×Goroutine×a2)
 O:Nat->Option aV
 bw:Nat->Nat
 home:Nat->Nat
 dJ:Nat->Nat
def dc.x (c:dc) (i:Nat):a2:=⟨c.H (.inl i),c.aN i,c.tok i,c.spec i,c.view i,c.deaf i,c.rel i⟩
structure hq (H:cN->Α) (aN:Nat->Nat->Option (Array Value×TypeId)) (O:Nat->Option aV) (bn w:World):Prop where
 fit:∀h,Fits (H h) w
 mN:∀i,zu (aN i) w
 fV:∀s o,O s=some o->At s o w
 keep:fI (λ_ _=>False) (λ_=>False) bn w
structure iV (H:cN->Α) (aN:Nat->Nat->Option (Array Value×TypeId)) (O:Nat->Option aV) (hJ:Nat):Prop where
 apart:∀h k,h≠k->Apart (H h) (H k)
 high:∀h b o,(H h).owns b o->hJ<=b
 oj:∀h b,(H h).fg b->hJ<=b
 fresh:∀i b v,aN i b=some v->hJ<=b/\(∀h,(H h).off b)/\∀j,j≠i->aN j b=none
 kS:∀s o b,O s=some o->ez s o.toSpec b->hJ<=b/\(∀h,(H h).off b)/\∀j,aN j b=none
 lg:∀s bk o o' b,O s=some o->O bk=some o'->ez s o.toSpec b->ez bk o'.toSpec b->s=bk
 p1:∀s o m,O s=some o->o.aZ=some m->m≠s
 eF:∀b,(∀s o,O s=some o->¬ez s o.toSpec b)->H (.inr b)=Α.empty
theorem hq.own {H:cN->Α} {aN:Nat->Nat->Option (Array Value×TypeId)} {O:Nat->Option aV} {bn w w':World} {hJ:Nat} (dG:hq H aN O bn w) (Β:iV H aN O hJ) (i:Nat) {G':Α} {V':Nat->Option (Array Value×TypeId)}
  (χ:fI (H (.inl i)).owns (H (.inl i)).fg w w') (Τ:Fits G' w') (hv:zu V' w') (an:bn.heap.size=hJ):hq (bO H (.inl i) G') (upd aN i V') O bn w':=by
 have ap:∀h,h≠.inl i->(∀b o,(H (.inl i)).owns b o->¬(H h).has b o)/\∀b,(H (.inl i)).fg b->¬(H h).fg b:=λh aY=>⟨(Β.apart _ _ (Ne.symm aY)).aP,(Β.apart _ _ (Ne.symm aY)).obj⟩;refine⟨λh=>?_,λj=>?_,λs o ν=>?_,?_⟩
 ·by_cases aY:h=.inl i
  ·subst aY;rw[dS];exact Τ
  ·rw[bP _ _ aY];exact(dG.fit h).keeps χ (ap h aY).1 (ap h aY).2
 ·by_cases δ:j=i
  ·subst δ;rw[upd_same];exact hv
  ·rw[upd_ne _ _ δ];intro b c t hb;obtain⟨c',J,U,μ⟩:=χ.cells b c t _ (dG.mN j b c t hb);have off:=(Β.fresh j b _ hb).2.1 (.inl i);have:c'=c:=by
    apply Array.ext_getElem?;intro o;exact μ o λ⟨v,hv⟩=>off.1 o ⟨_,hv⟩
   rw[J,this]
 ·have off:=λb (hb:ez s o.toSpec b)=>(Β.kS s o b ν hb).2.1 (.inl i)
  have zz:∀b c t,ez s o.toSpec b->w.heap[b]?=some (.cells c t (0,0))->w'.heap[b]?=some (.cells c t (0,0)):=λb c t hb ε=>by
   obtain⟨c',J,U,μ⟩:=χ.cells b c t _ ε;have:c'=c:=by
    apply Array.ext_getElem?;intro o';exact μ o' λ⟨v,hv⟩=>(off b hb).1 o' ⟨_,hv⟩
   rw[J,this]
  obtain⟨⟨ty,J⟩,U⟩:=dG.fV s o ν;exact⟨⟨ty,zz _ _ _ (.inl rfl) J⟩,λm hm=>let ⟨j1,μ⟩:=U m hm;⟨j1,zz _ _ _ (.inr hm) μ⟩⟩
 ·have eN:=dG.keep;refine⟨Nat.le_trans eN.size χ.size,λb c t ef hb=>?_,λb x hb γ _=>?_,eN.os.trans χ.os,χ.output.trans eN.output,χ.tape.trans eN.tape⟩
  ·obtain⟨c1,J,U,μ⟩:=eN.cells b c t ef hb;obtain⟨c2,Ε,au,bd⟩:=χ.cells b c1 t ef J;refine⟨c2,Ε,by rw[au,U],λo _=>?_⟩;rw[bd o λγ=>?_,μ o id];have:=Β.high _ _ _ γ;have:=fJ hb;omega
  ·refine χ.nz b x (eN.nz b x hb γ id) γ λh4=>?_;have:=Β.oj _ _ h4;have:=fJ hb;omega
theorem hq.at {H:cN->Α} {aN:Nat->Nat->Option (Array Value×TypeId)} {O:Nat->Option aV} {bn w:World} (h:hq H aN O bn w) (d:Nat):hq H aN O bn (w.at d):=
 ⟨λk=>(h.fit k).at d,h.mN,h.fV,⟨h.keep.size,h.keep.cells,h.keep.nz,h.keep.os,h.keep.output,h.keep.tape⟩⟩
theorem iV.own {H:cN->Α} {aN:Nat->Nat->Option (Array Value×TypeId)} {O:Nat->Option aV} {hJ:Nat} {w:World} {bn:World} (Β:iV H aN O hJ) (dG:hq H aN O bn w) (ck:hJ<=w.heap.size) (i:Nat) {G':Α} {V':Nat->Option (Array Value×TypeId)}
  (Ο:Ct (H (.inl i)) G' w.heap.size) (rh:Ge (aN i) V' G' w.heap.size):iV (bO H (.inl i) G') (upd aN i V') O hJ:=by
 have Lh:∀b o,G'.has b o->w.heap.size<=b\/(H (.inl i)).has b o:=λb o ⟨⟨v,p⟩,h⟩=>(Ο.aP b o v p h).imp id λ⟨v0,fL,an,_⟩=>⟨_,an⟩
 have Li:∀b o,G'.owns b o->w.heap.size<=b\/(H (.inl i)).owns b o:=λb o ⟨v,h⟩=>(Ο.aP b o v true h).imp id λ⟨v0,fL,an,π⟩=>⟨v0,by rw[an,π rfl]⟩
 have vM:∀h b o,(H h).has b o->b<w.heap.size:=λh b o ⟨⟨v,p⟩,γ⟩=>by
  obtain⟨c,t,ef,hb,_⟩:=q9 ((dG.fit h).aP b o v p γ);exact fJ hb
 have zA:∀h b,(H h).fg b->b<w.heap.size:=λh b ⟨x,γ⟩=>fJ ((dG.fit h).obj b x γ).1
 have Lj:∀k,k≠.inl i->Apart G' (H k):=λk χ=>by
  have a:=Β.apart _ _ (Ne.symm χ);refine⟨λb o ψ γ=>?_,λb o ψ γ=>?_,λb ψ γ=>?_⟩
  ·rcases Li b o ψ with h|h
   ·have:=vM k b o γ;omega
   ·exact a.aP b o h γ
  ·rcases Lh b o γ with h|h
   ·have:=vM k b o (let ⟨v,hv⟩:=ψ;⟨_,hv⟩);omega
   ·exact a.q8 b o ψ h
  ·rcases Ο.obj b ψ with h|h
   ·have:=zA k b γ;omega
   ·exact a.obj b h γ
 have SE:∀{A B:Α},Apart A B->Apart B A:=λh=>⟨h.q8,h.aP,λb hb κ=>h.obj b κ hb⟩
 have Gh:∀b,b<w.heap.size->(H (.inl i)).off b->G'.off b:=λb hb h=>⟨λo ψ=>(Lh b o ψ).elim (λx=>R) (h.1 o),λψ=>(Ο.obj b ψ).elim (λx=>R) h.2⟩
 have xF:∀j b v,aN j b=some v->b<w.heap.size:=λj b v hv=>fJ (dG.mN j b v.1 v.2 hv)
 have Gi:∀s o b,O s=some o->ez s o.toSpec b->b<w.heap.size:=λs o b ν hb=>by
  obtain⟨⟨ty,J⟩,U⟩:=dG.fV s o ν;rcases hb with rfl|hb
  ·exact fJ J
  ·obtain⟨j1,μ⟩:=U b hb;exact fJ μ
 refine⟨λh k χ=>?_,λh b o ψ=>?_,λh b ψ=>?_,λj b v hv=>?_,λs o b ν hb=>?_,Β.lg,Β.p1,λb hb=>?_⟩
 ·by_cases aY:h=.inl i
  ·subst aY;rw[dS,bP _ _ (Ne.symm χ)];exact Lj k (Ne.symm χ)
  ·by_cases kk:k=.inl i
   ·subst kk;rw[dS,bP _ _ aY];exact SE (Lj h aY)
   ·rw[bP _ _ aY,bP _ _ kk];exact Β.apart h k χ
 ·by_cases aY:h=.inl i
  ·subst aY;rw[dS] at ψ;rcases Li b o ψ with h|h
   ·omega
   ·exact Β.high _ _ _ h
  ·rw[bP _ _ aY] at ψ;exact Β.high _ _ _ ψ
 ·by_cases aY:h=.inl i
  ·subst aY;rw[dS] at ψ;rcases Ο.obj b ψ with h|h
   ·omega
   ·exact Β.oj _ _ h
  ·rw[bP _ _ aY] at ψ;exact Β.oj _ _ ψ
 ·by_cases δ:j=i
  ·subst δ;rw[upd_same] at hv;rcases rh b v hv with h|⟨J,U⟩
   ·obtain⟨a1,a9,cK⟩:=Β.fresh j b v h;refine⟨a1,λc9=>?_,λbJ aH=>by rw[upd_ne _ _ aH];exact cK bJ aH⟩;by_cases aY:c9=.inl j
    ·subst aY;rw[dS];exact Gh b (xF j b v h) (a9 _)
    ·rw[bP _ _ aY];exact a9 _
   ·refine⟨R,λc9=>?_,λbJ aH=>?_⟩
    ·by_cases aY:c9=.inl j
     ·subst aY;rw[dS];exact U
     ·rw[bP _ _ aY];exact⟨λo ψ=>by have:=vM c9 b o ψ;omega,λψ=>by have:=zA c9 b ψ;omega⟩
    ·rw[upd_ne _ _ aH];cases ε:aN bJ b with
     | none=>rfl
     | some fr=>have:=xF bJ b fr ε;omega
  ·rw[upd_ne _ _ δ] at hv;obtain⟨a1,a9,cK⟩:=Β.fresh j b v hv;have hb:=xF j b v hv;refine⟨a1,λc9=>?_,λbJ aH=>?_⟩
   ·by_cases aY:c9=.inl i
    ·subst aY;rw[dS];exact Gh b hb (a9 _)
    ·rw[bP _ _ aY];exact a9 _
   ·by_cases c9:bJ=i
    ·subst c9;rw[upd_same];cases ε:V' b with
     | none=>rfl
     | some fr=>
      rcases rh b fr ε with h|⟨J,_⟩
      ·rw[cK bJ aH] at h;cases h
      ·omega
    ·rw[upd_ne _ _ c9];exact cK bJ aH
 ·obtain⟨a1,a9,cK⟩:=Β.kS s o b ν hb;have uh:=Gi s o b ν hb;refine⟨a1,λc9=>?_,λbJ=>?_⟩
  ·by_cases aY:c9=.inl i
   ·subst aY;rw[dS];exact Gh b uh (a9 _)
   ·rw[bP _ _ aY];exact a9 _
  ·by_cases c9:bJ=i
   ·subst c9;rw[upd_same];cases ε:V' b with
    | none=>rfl
    | some fr=>
     rcases rh b fr ε with h|⟨J,_⟩
     ·rw[cK bJ] at h;cases h
     ·omega
   ·rw[upd_ne _ _ c9];exact cK bJ
 ·rw[bP _ _ ζ];exact Β.eF b hb
def j3 (tok:Nat->Nat->Tok) (O:Nat->Option aV) (t:Trace):cN->Nat->Prop
 | .inl i,k=>Knows t i k
 | .inr b,k=>(∃p op,t[p]?=some op/\op.act=.mark (.releaseMerge ⟨b,0,none⟩)/\t.heard p/\Before t k p)\/(∀s o,O s=some o->ez s o.toSpec b->∀i,tok i s≠.nil->Knows t i k)
theorem Gj {tok:Nat->Nat->Tok} {O:Nat->Option aV} {t:Trace} (u:Trace) {h:cN} {k:Nat} (χ:j3 tok O t h k):j3 tok O (t++u) h k:=by
 cases h with
 | inl i=>exact Knows.app u χ
 | inr b=>
  rcases χ with⟨p,op,J,U,μ,Ε⟩|h
  ·have π:=lt_size_of_getElem? J;exact .inl ⟨p,op,by rw[getElem?_append_old π];exact J,U,(heard_old π).2 μ,Ε.app u⟩
  ·exact .inr λs o ν hb i hi=>(h s o ν hb i hi).app u
structure jm (H:cN->Α) (aN:Nat->Nat->Option (Array Value×TypeId)) (tok:Nat->Nat->Tok) (O:Nat->Option aV) (bw:Nat->Nat) (deaf:Nat->Nat) (N:Nat) (t:Trace):Prop where
 race:∀said,¬Race said t
 low:∀op∈t,op.act.low N
 norel:∀op∈t,∀a,op.act≠.mark (.release a)
 perms:∀h,dy t (j3 tok O t h) (H h)
 o5:∀i b v,aN i b=some v->∀k a,touchAt t k=some a->¬oe a.loc b
 cont:∀s o b,O s=some o->ez s o.toSpec b->∀k a,touchAt t k=some a->oe a.loc b->a.kind=.atomic\/(a.kind=.said/\t.g? k=some (bw s))
 hears:∀i,Deaf t i=deaf i
theorem zB {t:Trace} {N k:Nat} {a:Touch} (h:∀op∈t,op.act.low N) (κ:touchAt t k=some a) {b:Nat} (hb:oe a.loc b):b<N:=by
 obtain⟨op,ψ,iW⟩:=touch_of κ;have ξ:=h op (mem_of_getElem? ψ);obtain⟨g,fn,pos,act⟩:=op;cases act with
 | access e=>
  simp only[MemAct.touch?,Option.some.injEq] at iW;subst iW;obtain⟨loc,wr,o6⟩:=e;cases loc<;>simp only[oe] at hb<;>first|(subst hb;exact ξ)|exact hb.elim
 | mark m=>
  cases m<;>simp only[MemAct.touch?,Option.some.injEq,reduceCtorEq] at iW<;>(subst iW;simp only[oe] at hb;subst hb;exact ξ)
 | _=>simp[MemAct.touch?] at iW
theorem Cu.Gk {G:Α} {n jE:Nat} {e:Event} (h:Cu e):hG G n jE e:=by
 rcases h with h|h<;>simp[hG,h]
theorem Cw {G:Α} {n jE:Nat} {e:Event} (he:hG G n jE e) {a:Touch} (κ:(MemAct.ofEvent e).touch?=some a) :
  a.loc=e.loc/\a.write=e.write/\(a.loc.isMemory=true->(∃cI,e.loc=.cell cI)\/∃r,e.loc=.obj r):=by
 obtain⟨loc,wr,o6⟩:=e;cases loc with
 | cell cI=>simp[MemAct.ofEvent,MemAct.touch?] at κ;subst κ;simp
 | obj r=>
  simp only[hG] at he;obtain⟨rfl,_⟩:=he;cases wr<;>simp[MemAct.ofEvent,MemAct.touch?] at κ<;>subst κ<;>simp
 | output=>simp[MemAct.ofEvent,MemAct.touch?] at κ;subst κ;simp[Loc.isMemory]
 | goroutines=>exact he.elim
 | mark m=>simp only[hG] at he;subst he;simp[MemAct.ofEvent,MemAct.touch?] at κ
theorem jm.own {H:cN->Α} {aN:Nat->Nat->Option (Array Value×TypeId)} {tok:Nat->Nat->Tok} {O:Nat->Option aV} {bw:Nat->Nat} {deaf:Nat->Nat} {bn w w':World} {hJ:Nat} {t:Trace}
  (Ι:jm H aN tok O bw deaf w.heap.size t) (dG:hq H aN O bn w) (Β:iV H aN O hJ) (i:Nat) {G':Α} {V':Nat->Option (Array Value×TypeId)} {es:Array Event} {fn:FuncId} {pos:String}
  (cv:w.heap.size<=w'.heap.size) (Ο:Ct (H (.inl i)) G' w.heap.size) (rh:Ge (aN i) V' G' w.heap.size)
  (gl:∀e∈es,hG (H (.inl i)) w.heap.size w'.heap.size e) (Gl:∀b c,V' b=some c->w.heap.size<=b->∀e∈es,¬oe e.loc b) :
  jm (bO H (.inl i) G') (upd aN i V') tok O bw deaf w'.heap.size (t++MemOp.ofEvents i fn pos es):=by
 have hu:∀op∈MemOp.ofEvents i fn pos es,op.g=i:=λop Μ=>by obtain⟨e,_,rfl⟩:=Go.Conc.mem_ofEvents Μ;rfl
 have vM:∀h b o,(H h).has b o->b<w.heap.size:=λh b o ⟨⟨v,p⟩,γ⟩=>by
  obtain⟨c,t,ef,hb,_⟩:=q9 ((dG.fit h).aP b o v p γ);exact fJ hb
 have zA:∀h b,(H h).fg b->b<w.heap.size:=λh b ⟨x,γ⟩=>fJ ((dG.fit h).obj b x γ).1
 have xF:∀j b v,aN j b=some v->b<w.heap.size:=λj b v hv=>fJ (dG.mN j b v.1 v.2 hv)
 have Gi:∀s o b,O s=some o->ez s o.toSpec b->b<w.heap.size:=λs o b ν hb=>by
  obtain⟨⟨ty,J⟩,U⟩:=dG.fV s o ν;rcases hb with rfl|hb
  ·exact fJ J
  ·obtain⟨j1,μ⟩:=U b hb;exact fJ μ
 have Gm:∀e∈es,∀b,b<w.heap.size->(H (.inl i)).off b->¬oe e.loc b:=λe he b hb sA fs=>by
  have:=gl e he;obtain⟨loc,wr,o6⟩:=e;cases loc with
  | cell cI=>
   simp only[oe] at fs;subst fs;simp only[hG] at this;rcases this with h|⟨_,h⟩
   ·omega
   ·cases wr
    ·exact sA.1 _ h
    ·obtain⟨v,hv⟩:=h;exact sA.1 _ ⟨_,hv⟩
  | obj r=>
   simp only[oe] at fs;subst fs;simp only[hG] at this;rcases this.2 with h|h
   ·omega
   ·exact sA.2 h
  | _=>exact fs
 refine⟨λsaid=>noRace_append (Ι.race said) hu λk a κ op Μ b hb ε=>?_,λop Μ=>?_,λop Μ=>?_,λh=>?_,λj b v hv k a κ fs=>?_,λs o b ν hb k a κ fs=>?_,λj=>?_⟩
 ·obtain⟨e,he,rfl⟩:=Go.Conc.mem_ofEvents Μ;obtain⟨J,U,μ⟩:=Cw (gl e he) hb;obtain⟨c1,c2,c3,_⟩:=ε;have dK:=gl e he;rcases μ (by rw[<-c1];exact c2) with⟨cI,ξ⟩|⟨r,ξ⟩
  ·simp only[hG,ξ] at dK;have lh:a.loc=.cell cI:=by rw[c1,J,ξ]
   rcases dK with h|⟨b7,h⟩
   ·have:=zB Ι.low κ (b:=cI.block) (by rw[lh];rfl);omega
   ·obtain⟨o7,hΒ,sp⟩:=cI;simp only at b7;subst b7;by_cases hw:e.write=true
    ·rw[if_pos hw] at h;obtain⟨v,hv⟩:=h;exact(Ι.perms (.inl i)).aP _ _ v true hv k a κ lh (.inl rfl)
    ·rw[if_neg hw] at h;obtain⟨⟨v,p⟩,hv⟩:=h;exact(Ι.perms (.inl i)).aP _ _ v p hv k a κ lh (.inr (c3.resolve_right (by rw[U];exact hw)))
  ·simp only[hG,ξ] at dK;have lh:a.loc=.obj r:=by rw[c1,J,ξ]
   rcases dK.2 with h|h
   ·have:=zB Ι.low κ (b:=r) (by rw[lh];rfl);omega
   ·exact(Ι.perms (.inl i)).obj r h k a κ lh
 ·rcases Array.mem_append.1 Μ with h|h
  ·exact MemAct.low_mono cv (Ι.low op h)
  ·obtain⟨e,he,rfl⟩:=Go.Conc.mem_ofEvents h;have dK:=gl e he;obtain⟨loc,wr,o6⟩:=e;cases loc with
   | cell cI=>
    simp only[hG] at dK;show cI.block<_;rcases dK with h|⟨_,h⟩
    ·exact h.2
    ·cases wr
     ·have:=vM _ _ _ h;omega
     ·obtain⟨v,hv⟩:=h;have:=vM (.inl i) _ _ ⟨_,hv⟩;omega
   | obj r=>
    simp only[hG] at dK;obtain⟨rfl,dK⟩:=dK;have ι:r<w'.heap.size:=dK.elim (λh=>h.2) (λh=>by have:=zA _ _ h;omega);cases wr<;>exact ι
   | output=>trivial
   | goroutines=>exact dK.elim
   | mark m=>simp only[hG] at dK;subst dK;trivial
 ·rcases Array.mem_append.1 Μ with h|h
  ·exact Ι.norel op h
  ·obtain⟨e,he,rfl⟩:=Go.Conc.mem_ofEvents h;intro a h;have dK:=gl e he;obtain⟨loc,wr,o6⟩:=e;cases loc with
   | mark m=>simp only[hG] at dK;subst dK;simp[MemAct.ofEvent] at h
   | obj r=>cases wr<;>cases o6<;>simp[MemAct.ofEvent] at h
   | _=>simp[MemAct.ofEvent] at h
 ·by_cases aY:h=.inl i
  ·subst aY;rw[dS];have Lk:dy (t++MemOp.ofEvents i fn pos es) (Knows (t++MemOp.ofEvents i fn pos es) i) (H (.inl i)):=(Ι.perms (.inl i)).own hu;refine⟨λb o v p ε k a κ ξ hw=>?_,λb hb k a κ ξ=>?_⟩
   ·rcases Ο.aP b o v p ε with Ζ|⟨v0,fL,an,π⟩
    ·rcases nA κ with eo|⟨_,op,Μ,χ,_⟩
     ·have:=zB Ι.low eo (b:=b) (by rw[ξ];rfl);omega
     ·have:=knows_own χ;rwa [hu op Μ] at this
    ·exact Lk.aP b o v0 fL an k a κ ξ (hw.imp π id)
   ·rcases Ο.obj b hb with Ζ|an
    ·rcases nA κ with eo|⟨_,op,Μ,χ,_⟩
     ·have:=zB Ι.low eo (b:=b) (by rw[ξ];rfl);omega
     ·have:=knows_own χ;rwa [hu op Μ] at this
    ·exact Lk.obj b an k a κ ξ
  ·rw[bP _ _ aY];have ap:=Β.apart _ _ (Ne.symm aY);refine(Ι.perms h).others (λk χ=>Gj _ χ) λop Μ a κ=>?_;obtain⟨e,he,rfl⟩:=Go.Conc.mem_ofEvents Μ;obtain⟨J,U,_⟩:=Cw (gl e he) κ;have dK:=gl e he;refine⟨λb o v p ξ ε=>?_,λb ξ hb=>?_⟩
   ·simp only[hG,<-J,ξ] at dK;rcases dK with γ|⟨_,γ⟩
    ·have:=vM h b o ⟨_,ε⟩;omega
    ·by_cases hw:e.write=true
     ·rw[if_pos hw] at γ;exact absurd ⟨_,ε⟩ (ap.aP b o γ)
     ·rw[if_neg hw] at γ;refine⟨?_,by rw[U];simpa using hw⟩;cases p with
      | false=>rfl
      | true=>exact absurd γ (ap.q8 b o ⟨v,ε⟩)
   ·simp only[hG,<-J,ξ] at dK;rcases dK.2 with γ|γ
    ·have:=zA h b hb;omega
    ·exact ap.obj b γ hb
 ·rcases nA κ with eo|⟨_,op,Μ,_,iW⟩
  ·have hb:=zB Ι.low eo fs;by_cases δ:j=i
   ·subst δ;rw[upd_same] at hv;rcases rh b v hv with h|h
    ·exact Ι.o5 j b v h k a eo fs
    ·omega
   ·rw[upd_ne _ _ δ] at hv;exact Ι.o5 j b v hv k a eo fs
  ·obtain⟨e,he,rfl⟩:=Go.Conc.mem_ofEvents Μ;obtain⟨J,_,_⟩:=Cw (gl e he) iW;rw[J] at fs;by_cases δ:j=i
   ·subst δ;rw[upd_same] at hv;rcases rh b v hv with h|h
    ·exact Gm e he b (xF j b v h) ((Β.fresh j b v h).2.1 _) fs
    ·exact Gl b v hv h.1 e he fs
   ·rw[upd_ne _ _ δ] at hv;exact Gm e he b (xF j b v hv) ((Β.fresh j b v hv).2.1 _) fs
 ·rcases nA κ with eo|⟨_,op,Μ,_,iW⟩
  ·rcases Ι.cont s o b ν hb k a eo fs with h|⟨h,χ⟩
   ·exact .inl h
   ·obtain⟨op,ψ,_⟩:=touch_of eo;exact .inr ⟨h,by rw[g?_old (lt_size_of_getElem? ψ)];exact χ⟩
  ·obtain⟨e,he,rfl⟩:=Go.Conc.mem_ofEvents Μ;obtain⟨J,_,_⟩:=Cw (gl e he) iW;rw[J] at fs;exact absurd fs (Gm e he b (Gi s o b ν hb) ((Β.kS s o b ν hb).2.1 _))
 ·by_cases δ:i=j
  ·subst δ;rw[Deaf_own,deafBehind_still (λe he=>?_)]
   ·exact Ι.hears i
   ·have dK:=gl e he;constructor<;>intro ξ<;>simp[hG,ξ] at dK
  ·rw[Deaf_other t δ _ hu];exact Ι.hears j
def o8:lS->Prop
 | .fin|.uc|.us|.done=>True
 | _=>False
def b' (tok:Nat->Nat->Tok) (i s:Nat) (t:Tok):Nat->Nat->Tok:=upd tok i (upd (tok i) s t)
theorem fi (tok:Nat->Nat->Tok) (i s:Nat) (t:Tok):b' tok i s t i s=t:=by simp[b',upd]
theorem e8 {tok:Nat->Nat->Tok} {i s j r:Nat} (t:Tok) (h:¬(j=i/\r=s)):b' tok i s t j r=tok j r:=by
 unfold b' upd;by_cases δ:j=i
 ·subst δ;by_cases ι:r=s
  ·exact absurd ⟨rfl,ι⟩ h
  ·simp[ι]
 ·simp[δ]
theorem Ll (tok:Nat->Nat->Tok) (i s:Nat) (t:Tok):(λj=>b' tok i s t j s)=upd (λj=>tok j s) i t:=by
 funext j
 by_cases δ:j=i
 ·subst δ;rw[fi,upd_same]
 ·rw[e8 _ (λh=>δ h.1),upd_ne _ _ δ]
theorem Gn (tok:Nat->Nat->Tok) (i s:Nat) (t:Tok) {r:Nat} (ι:r≠s):(λj=>b' tok i s t j r)=λj=>tok j r:=by
 funext j;rw[e8 _ (λh=>ι h.2)]
structure eY (n:Nat) (tok:Nat->Nat->Tok) (spec:Nat->Nat->Option Spec) (view:Nat->Nat->Option (Nat×aV)) (rel:Nat->Bool) (O:Nat->Option aV) (bw home:Nat->Nat):Prop where
 a7:∀s o,O s=some o->ua n o (λi=>tok i s)
 bare:∀s,O s=none->∀i,tok i s=.nil
 out:∀i s,n<=i->tok i s=.nil
 ri:∀i s sp,spec i s=some sp->∃o,O s=some o/\o.toSpec=sp
 vN:∀i s φ o,view i s=some (φ,o)->∃dW,O s=some dW/\eL n dW (λj=>tok j s)<=φ/\(eL n dW (λj=>tok j s)=φ->dW=o)
 dr:∀i s k L g o,O s=some o->tok i s=.ch k (.dr L) g->o.L=L
 par:∀i s m p aQ,tok i s=.par m p aQ->i=bw s
 o9:∀i s k m g,tok i s=.ch k m g->i≠0/\home i=s/\bw s<i
 sB:∀i,i≠0->i<n->∃k m g,tok i (home i)=.ch k m g
 eA:∀i k m g,i≠0->tok i (home i)=.ch k m g->(rel i=true↔g≠.work)
 ui:rel 0=false
 pa:∀i s,rel i=true->s≠home i->gk (tok i s)
 pb:∀i s k m g o,O s=some o->tok i s=.ch k m g->g≠.work->m=.done\/(m=.idle/\o.aZ=none)
 vO:∀s i j k m g cb g',tok i s=.ch k m g->tok j s=.ch k cb g'->i=j
 uj:∀s i k m g q p aQ,tok i s=.ch k m g->tok (bw s) s=.par q p aQ->k+p<q
 fM:∀s o,O s=some o->o.L.Nodup/\∀k,k∈o.L↔∃i m g,tok i s=.ch k m g/\o8 m
 gz:∀s o,O s=some o->o.ak.Nodup/\∀k,k∈o.ak↔∃i m g,tok i s=.ch k m g/\g≠.work
def Alike (t t':Tok):Prop:=(∃m p aQ cb fj Gp,t=.par m p aQ/\t'=.par cb fj Gp/\∀k,k+p<m->k+fj<cb)\/(∃k m g cb g',t=.ch k m g/\t'=.ch k cb g')
section
variable {n:Nat} {tok:Nat->Nat->Tok} {spec:Nat->Nat->Option Spec} {view:Nat->Nat->Option (Nat×aV)} {rel:Nat->Bool} {O:Nat->Option aV} {bw home:Nat->Nat}
theorem eY.lt (h:eY n tok spec view rel O bw home) {i s:Nat} (Ν:tok i s≠.nil):i<n:=Nat.lt_of_not_le λhle=>Ν (h.out i s hle)
theorem eY.change (h:eY n tok spec view rel O bw home) {s i:Nat} {o o':aV} {t t':Tok} {Cx:Nat->Bool} {V:Nat->Option (Nat×aV)} (ν:O s=some o) (Ν:tok i s=t) (Cy:Alike t t')
  (Ζ:ua n o' (upd (λj=>tok j s) i t')) (π:eL n o' (upd (λj=>tok j s) i t')<eL n o (λj=>tok j s)) (b7:o'.toSpec=o.toSpec)
  (Gq:∀r φ q,V r=some (φ,q)->(r=s/\φ=eL n o' (upd (λj=>tok j s) i t')/\q=o')\/(r≠s/\view i r=some (φ,q)))
  (iX:∀j k L g,b' tok i s t' j s=.ch k (.dr L) g->o'.L=L)
  (Cz:∀j k m g,j≠0->b' tok i s t' j (home j)=.ch k m g->(Cx j=true↔g≠.work)) (Gr:Cx 0=false)
  (SF:∀j r,Cx j=true->r≠home j->gk (b' tok i s t' j r))
  (SG:∀j k m g,b' tok i s t' j s=.ch k m g->g≠.work->m=.done\/(m=.idle/\o'.aZ=none))
  (ai:o'.L.Nodup/\∀k,k∈o'.L↔∃j m g,b' tok i s t' j s=.ch k m g/\o8 m) (aI:o'.ak.Nodup/\∀k,k∈o'.ak↔∃j m g,b' tok i s t' j s=.ch k m g/\g≠.work) :
  eY n (b' tok i s t') spec (upd view i V) Cx (upd O s (some o')) bw home:=by
 have bf:i<n:=h.lt (s:=s) (by rw[Ν];rcases Cy with⟨_,_,_,_,_,_,rfl,_⟩|⟨_,_,_,_,_,rfl,_⟩<;>simp)
 have Gs:=Ll tok i s t'
 have sC:∀r,r≠s->(λj=>b' tok i s t' j r)=λj=>tok j r:=λr ι=>Gn tok i s t' ι
 have zC:∀j r,r≠s->b' tok i s t' j r=tok j r:=λj r ι=>congrFun (sC r ι) j
 have same:∀j,j≠i->∀r,b' tok i s t' j r=tok j r:=λj δ r=>e8 _ λx=>δ x.1
 have CA:∀j r k m g,b' tok i s t' j r=.ch k m g->∃dT cQ,tok j r=.ch k dT cQ:=λj r k m g δ=>by
  by_cases e:j=i/\r=s
  ·obtain⟨rfl,rfl⟩:=e;rw[fi] at δ;rcases Cy with⟨_,_,_,_,_,_,_,U,_⟩|⟨eN,dT,cQ,dU,Ρ,J,U⟩
   ·rw[U] at δ;cases δ
   ·rw[U] at δ;cases δ;exact⟨dT,cQ,by rw[Ν,J]⟩
  ·rw[e8 _ e] at δ;exact⟨m,g,δ⟩
 have SH:∀j r k m g,tok j r=.ch k m g->∃dT cQ,b' tok i s t' j r=.ch k dT cQ:=λj r k m g δ=>by
  by_cases e:j=i/\r=s
  ·obtain⟨rfl,rfl⟩:=e;rw[fi];rw[Ν] at δ;rcases Cy with⟨_,_,_,_,_,_,J,_,_⟩|⟨eN,dT,cQ,dU,Ρ,J,U⟩
   ·rw[J] at δ;cases δ
   ·rw[J] at δ;cases δ;exact⟨dU,Ρ,U⟩
  ·rw[e8 _ e];exact⟨m,g,δ⟩
 have Lm:∀j r m p aQ,b' tok i s t' j r=.par m p aQ->∃dT fL zD,tok j r=.par dT fL zD/\∀k,k+fL<dT->k+p<m:=λj r m p aQ δ=>by
  by_cases e:j=i/\r=s
  ·obtain⟨rfl,rfl⟩:=e;rw[fi] at δ;rcases Cy with⟨_,_,_,_,_,_,J,U,μ⟩|⟨eN,dT,cQ,dU,Ρ,J,U⟩
   ·rw[U] at δ;cases δ;exact⟨_,_,_,by rw[Ν,J],μ⟩
   ·rw[U] at δ;cases δ
  ·rw[e8 _ e] at δ;exact⟨m,p,aQ,δ,λ_ x=>x⟩
 have hr:∀r q,upd O s (some o') r=some q->(r=s/\q=o')\/(r≠s/\O r=some q):=λr q Ξ=>by
  by_cases e:r=s
  ·subst e;rw[upd_same] at Ξ;cases Ξ;exact .inl ⟨rfl,rfl⟩
  ·rw[upd_ne _ _ e] at Ξ;exact .inr ⟨e,Ξ⟩
 refine⟨λr q Ξ=>?_,λr ι j=>?_,λj r δ=>?_,λj r sp δ=>?_,λj r φ q δ=>?_,λj r k L g q Ξ δ=>?_,λj r m p aQ δ=>?_,λj r k m g δ=>?_,λj an δ=>?_,Cz,Gr,SF,λj r k m g q Ξ δ Ο=>?_,λr j bJ k m g cb g' J U=>?_,λr j k m g q p aQ J U=>?_,λr q Ξ=>?_,λr q Ξ=>?_⟩
 ·rcases hr r q Ξ with⟨rfl,rfl⟩|⟨e,cl⟩
  ·rw[Gs];exact Ζ
  ·rw[sC r e];exact h.a7 r q cl
 ·by_cases e:r=s
  ·subst e;rw[upd_same] at ι;cases ι
  ·rw[upd_ne _ _ e] at ι;rw[zC j r e];exact h.bare r ι j
 ·rw[same j R r];exact h.out j r δ
 ·obtain⟨q,J,U⟩:=h.ri j r sp δ;by_cases e:r=s
  ·subst e;rw[ν] at J;cases J;exact⟨o',upd_same ..,by rw[b7];exact U⟩
  ·exact⟨q,by rw[upd_ne _ _ e];exact J,U⟩
 ·have old:∀φ q,view j r=some (φ,q)->∃dW,upd O s (some o') r=some dW/\eL n dW (λa=>b' tok i s t' a r)<=φ/\(eL n dW (λa=>b' tok i s t' a r)=φ->dW=q):=λφ q hv=>by
   obtain⟨dW,J,U,μ⟩:=h.vN j r φ q hv;by_cases e:r=s
   ·subst e;rw[ν] at J;cases J;rw[upd_same,Gs];exact⟨o',rfl,R,λx=>R⟩
   ·rw[upd_ne _ _ e,sC r e];exact⟨dW,J,U,μ⟩
  by_cases e:j=i
  ·subst e;rw[upd_same] at δ;rcases Gq r φ q δ with⟨rfl,rfl,rfl⟩|⟨ι,hv⟩
   ·rw[upd_same,Gs];exact⟨_,rfl,Nat.le_refl _,λ_=>rfl⟩
   ·exact old φ q hv
  ·rw[upd_ne _ _ e] at δ;exact old φ q δ
 ·rcases hr r q Ξ with⟨rfl,rfl⟩|⟨e,cl⟩
  ·exact iX j k L g δ
  ·rw[zC j r e] at δ;exact h.dr j r k L g q cl δ
 ·obtain⟨dT,fL,zD,J,_⟩:=Lm j r m p aQ δ;exact h.par j r dT fL zD J
 ·obtain⟨dT,cQ,J⟩:=CA j r k m g δ;exact h.o9 j r k dT cQ J
 ·obtain⟨k,m,g,J⟩:=h.sB j an δ;obtain⟨dU,Ρ,U⟩:=SH j _ k m g J;exact⟨k,dU,Ρ,U⟩
 ·rcases hr r q Ξ with⟨rfl,rfl⟩|⟨e,cl⟩
  ·exact SG j k m g δ Ο
  ·rw[zC j r e] at δ;exact h.pb j r k m g q cl δ Ο
 ·obtain⟨a,b,μ⟩:=CA j r k m g J;obtain⟨bT,Ψ,Ε⟩:=CA bJ r k cb g' U;exact h.vO r j bJ k a b bT Ψ μ Ε
 ·obtain⟨a,b,μ⟩:=CA j r k m g J;obtain⟨dT,fL,zD,Ε,au⟩:=Lm _ r q p aQ U;exact au k (h.uj r j k a b dT fL zD μ Ε)
 ·rcases hr r q Ξ with⟨rfl,rfl⟩|⟨e,cl⟩
  ·exact ai
  ·simp only[λj=>zC j r e];exact h.fM r q cl
 ·rcases hr r q Ξ with⟨rfl,rfl⟩|⟨e,cl⟩
  ·exact aI
  ·simp only[λj=>zC j r e];exact h.gz r q cl
theorem SI {o o':aV} {t t':Tok} (h:Act o t o' t'):Alike t t':=by
 cases h
 case add=>exact .inl ⟨_,_,_,_,_,_,rfl,rfl,λk χ=>R⟩
 case thru|KY|wake=>exact .inl ⟨_,_,_,_,_,_,rfl,rfl,λk χ=>χ⟩
 all_goals exact .inr ⟨_,_,_,_,_,rfl,rfl⟩
theorem Ln {o o':aV} {t t':Tok} (h:Act o t o' t'):o'.toSpec=o.toSpec/\o'.L=o.L/\o'.ak=o.ak:=by
 cases h<;>exact⟨rfl,rfl,rfl⟩
theorem Lo {o o':aV} {t t':Tok} (h:Act o t o' t'):(∀k m g,t'=.ch k m g->∃dT cQ,t=.ch k dT cQ/\(o8 m↔o8 dT)/\(g=.work↔cQ=.work)/\(cQ≠.work->m=dT)/\∀L,m=.dr L->dT=.dr L)/\(∀k m g,t=.ch k m g->∃dU Ρ,t'=.ch k dU Ρ/\(o8 dU↔o8 m)/\(Ρ=.work↔g=.work))/\¬gk t:=by
 refine⟨λk m g e=>?_,λk m g e=>?_,?_⟩
 ·cases h<;>cases e<;>exact⟨_,_,rfl,by simp[o8],ζ,ζ,ζ⟩
 ·cases h<;>cases e<;>exact⟨_,_,rfl,by simp[o8],ζ⟩
 ·cases h<;>simp[gk]
theorem eY.act (h:eY n tok spec view rel O bw home) {s i:Nat} {o o':aV} {t t':Tok} (ν:O s=some o) (Ν:tok i s=t) (κ:Act o t o' t') :
  eY n (b' tok i s t') spec (upd view i (upd (view i) s (some (eL n o' (upd (λj=>tok j s) i t'),o')))) rel (upd O s (some o')) bw home:=by
 obtain⟨hw,vP,Lp⟩:=Lo κ;have bf:i<n:=h.lt (s:=s) (by rw[Ν];rintro rfl;exact Lp trivial);obtain⟨xG,CB,Gt⟩:=Ln κ;have zE:∀j r k m g,b' tok i s t' j r=.ch k m g->∃dT cQ,tok j r=.ch k dT cQ/\(o8 m↔o8 dT)/\(g=.work↔cQ=.work)/\(cQ≠.work->m=dT)/\∀L,m=.dr L->dT=.dr L:=λj r k m g δ=>by
  by_cases e:j=i/\r=s
  ·obtain⟨rfl,rfl⟩:=e;rw[fi] at δ;obtain⟨dT,cQ,Γ,Δ⟩:=hw k m g δ;exact⟨dT,cQ,by rw[Ν,Γ],Δ⟩
  ·rw[e8 _ e] at δ;exact⟨m,g,δ,.rfl,.rfl,λ_=>rfl,λ_ x=>x⟩
 have is:∀j k m g,tok j s=.ch k m g->∃dU Ρ,b' tok i s t' j s=.ch k dU Ρ/\(o8 dU↔o8 m)/\(Ρ=.work↔g=.work):=λj k m g δ=>by
  by_cases e:j=i/\s=s
  ·obtain⟨rfl,_⟩:=e;rw[fi];rw[Ν] at δ;exact vP k m g δ
  ·rw[e8 _ e];exact⟨m,g,δ,.rfl,.rfl⟩
 refine h.change ν Ν (SI κ) (⟨Si (h.a7 s o ν).1 bf Ν κ,Sm (h.a7 s o ν).2 bf Ν κ⟩) (K1 bf Ν κ) xG (λr φ q hv=>?_) (λj k L g δ=>?_) (λj k m g an δ=>?_) h.ui (λj r δ ι=>?_) (λj k m g δ Ο=>?_) ?_ ?_
 ·by_cases e:r=s
  ·subst e;rw[upd_same] at hv;cases hv;exact .inl ⟨rfl,rfl,rfl⟩
  ·rw[upd_ne _ _ e] at hv;exact .inr ⟨e,hv⟩
 ·obtain⟨dT,cQ,Γ,_,_,_,Δ⟩:=zE j s k _ g δ;rw[CB];exact h.dr j s k L cQ o ν (by rw[Γ,Δ L rfl])
 ·obtain⟨dT,cQ,Γ,_,Δ,_⟩:=zE j _ k m g δ;rw[h.eA j k dT cQ an Γ];exact not_congr Δ.symm
 ·by_cases e:j=i/\r=s
  ·obtain⟨rfl,rfl⟩:=e;have:=h.pa j r δ ι;rw[Ν] at this;exact absurd this Lp
  ·rw[e8 _ e];exact h.pa j r δ ι
 ·obtain⟨dT,cQ,Γ,_,Δ,a4,_⟩:=zE j s k m g δ;have om:cQ≠.work:=λx=>Ο (Δ.2 x);rw[a4 om];have:=h.pb j s k dT cQ o ν Γ om;rw[show o'.aZ=o.aZ by rw[xG]];exact this
 ·obtain⟨a,b⟩:=h.fM s o ν;rw[CB];refine⟨a,λk=>(b k).trans ⟨λ⟨j,m,g,Γ,Δ⟩=>?_,λ⟨j,m,g,Γ,Δ⟩=>?_⟩⟩
  ·obtain⟨dU,Ρ,a4,cM,_⟩:=is j k m g Γ;exact⟨j,dU,Ρ,a4,cM.2 Δ⟩
  ·obtain⟨dT,cQ,a4,cM,_⟩:=zE j s k m g Γ;exact⟨j,dT,cQ,a4,cM.1 Δ⟩
 ·obtain⟨a,b⟩:=h.gz s o ν;rw[Gt];refine⟨a,λk=>(b k).trans ⟨λ⟨j,m,g,Γ,Δ⟩=>?_,λ⟨j,m,g,Γ,Δ⟩=>?_⟩⟩
  ·obtain⟨dU,Ρ,a4,_,cM⟩:=is j k m g Γ;exact⟨j,dU,Ρ,a4,λx=>Δ (cM.1 x)⟩
  ·obtain⟨dT,cQ,a4,_,cM,_⟩:=zE j s k m g Γ;exact⟨j,dT,cQ,a4,λx=>Δ (cM.2 x)⟩
theorem eY.look (h:eY n tok spec view rel O bw home) {s i:Nat} {o:aV} (ν:O s=some o):eY n tok spec (upd view i (upd (view i) s (some (eL n o (λj=>tok j s),o)))) rel O bw home:=
 have key:∀j r φ q,upd view i (upd (view i) s (some (eL n o (λj=>tok j s),o))) j r=some (φ,q)->∃dW,O r=some dW/\eL n dW (λj=>tok j r)<=φ/\(eL n dW (λj=>tok j r)=φ->dW=q):=λj r φ q δ=>by
  by_cases e:j=i
  ·subst e;rw[upd_same] at δ;by_cases aM:r=s
   ·subst aM;rw[upd_same] at δ;cases δ;exact⟨o,ν,Nat.le_refl _,λ_=>rfl⟩
   ·rw[upd_ne _ _ aM] at δ;exact h.vN j r φ q δ
  ·rw[upd_ne _ _ e] at δ;exact h.vN j r φ q δ
 {h with vN:=key}
theorem CC {s i:Nat} {r φ:Nat} {q:aV} {o':aV} {z:Nat} (hv:upd (view i) s none r=some (φ,q)):(r=s/\φ=z/\q=o')\/(r≠s/\view i r=some (φ,q)):=by
 by_cases e:r=s
 ·subst e;rw[upd_same] at hv;cases hv
 ·rw[upd_ne _ _ e] at hv;exact .inr ⟨e,hv⟩
theorem SJ {l:List Nat} {k:Nat} (h:l.Nodup) (χ:k∉l):(l++[k]).Nodup:=by
 rw[List.nodup_append];exact⟨h,ζ,λa κ b hb=>by simp at hb;subst hb;rintro rfl;exact χ κ⟩
theorem eY.F6 (h:eY n tok spec view rel O bw home) {s i k:Nat} {o:aV} (ν:O s=some o) (Ν:tok i s=.ch k .own .work) :
  eY n (b' tok i s (.ch k (.dr o.L) .work)) spec (upd view i (upd (view i) s none)) rel (upd O s (some o)) bw home:=by
 have bf:i<n:=h.lt (s:=s) (by rw[Ν];simp)
 have hw:pV o (.ch k .own .work) o (.ch k (.dr o.L) .work):=.F6
 have hs:∀j,j≠i->∀r,b' tok i s (.ch k (.dr o.L) .work) j r=tok j r:=λj δ r=>e8 _ λx=>δ x.1
 have ε:=h.o9 i s k _ _ Ν;refine h.change ν Ν (.inr ⟨_,_,_,_,_,rfl,rfl⟩) ⟨Cp (h.a7 s o ν).1 bf Ν hw,Cq (h.a7 s o ν).2 bf Ν hw⟩ (Co bf Ν hw) rfl (λr φ q hv=>CC hv) (λj af L g δ=>?_) (λj af m g an δ=>?_) h.ui (λj r δ ι=>?_) (λj af m g δ Ο=>?_) ?_ ?_
 ·by_cases e:j=i
  ·subst e;rw[fi] at δ;cases δ;rfl
  ·rw[hs j e] at δ;exact h.dr j s af L g o ν δ
 ·by_cases e:j=i
  ·subst e;have aM:home j=s:=ε.2.1;rw[aM,fi] at δ;cases δ;exact h.eA j k .own .work an (by rw[aM];exact Ν)
  ·rw[hs j e] at δ;exact h.eA j af m g an δ
 ·by_cases e:j=i
  ·subst e;have aM:home j=s:=ε.2.1;rw[e8 _ (λx=>ι (by rw[x.2,aM]))];exact h.pa j r δ ι
  ·rw[hs j e];exact h.pa j r δ ι
 ·by_cases e:j=i
  ·subst e;rw[fi] at δ;cases δ;exact absurd rfl Ο
  ·rw[hs j e] at δ;exact h.pb j s af m g o ν δ Ο
 ·obtain⟨a,b⟩:=h.fM s o ν;refine⟨a,λaf=>(b af).trans ⟨λ⟨j,m,g,Γ,Δ⟩=>?_,λ⟨j,m,g,Γ,Δ⟩=>?_⟩⟩
  ·by_cases e:j=i
   ·subst e;rw[Ν] at Γ;cases Γ;exact Δ.elim
   ·exact⟨j,m,g,by rw[hs j e];exact Γ,Δ⟩
  ·by_cases e:j=i
   ·subst e;rw[fi] at Γ;cases Γ;exact Δ.elim
   ·exact⟨j,m,g,by rw[hs j e] at Γ;exact Γ,Δ⟩
 ·obtain⟨a,b⟩:=h.gz s o ν;refine⟨a,λaf=>(b af).trans ⟨λ⟨j,m,g,Γ,Δ⟩=>?_,λ⟨j,m,g,Γ,Δ⟩=>?_⟩⟩
  ·by_cases e:j=i
   ·subst e;rw[Ν] at Γ;cases Γ;exact absurd rfl Δ
   ·exact⟨j,m,g,by rw[hs j e];exact Γ,Δ⟩
  ·by_cases e:j=i
   ·subst e;rw[fi] at Γ;cases Γ;exact absurd rfl Δ
   ·exact⟨j,m,g,by rw[hs j e] at Γ;exact Γ,Δ⟩
theorem eY.SK (h:eY n tok spec view rel O bw home) {s i k:Nat} {L:List Nat} {o:aV} (ν:O s=some o) (Ν:tok i s=.ch k (.dr L) .work) :
  eY n (b' tok i s (.ch k .fin .work)) spec (upd view i (upd (view i) s none)) rel (upd O s (some {o with L:=o.L++[k]})) bw home:=by
 have bf:i<n:=h.lt (s:=s) (by rw[Ν];simp)
 have hw:pV o (.ch k (.dr L) .work) {o with L:=o.L++[k]} (.ch k .fin .work):=.Sf
 have hs:∀j,j≠i->∀r,b' tok i s (.ch k .fin .work) j r=tok j r:=λj δ r=>e8 _ λx=>δ x.1
 have ε:=h.o9 i s k _ _ Ν
 have only:∀j af kT g,tok j s=.ch af (.dr kT) g->j=i:=λj af kT g δ=>by
  apply Classical.byContradiction;intro bA;have e2:j<n:=h.lt (s:=s) (by rw[δ];simp);have Γ:=gN (λa=>tok a s) .nil iS bf;have Δ:=fy (upd (λa=>tok a s) i .nil) iS e2;rw[upd_ne _ _ bA] at Δ;simp only[Ν,δ,iS,zl] at Γ Δ;have:=(h.a7 s o ν).1.KV;have:=(h.a7 s o ν).1.f1;omega
 have Lq:k∉o.L:=λχ=>by
  obtain⟨j,m,g,Γ,Δ⟩:=((h.fM s o ν).2 k).1 χ;have:=h.vO s j i k m g _ _ Γ Ν;subst this;rw[Ν] at Γ;cases Γ;exact Δ
 refine h.change ν Ν (.inr ⟨_,_,_,_,_,rfl,rfl⟩) ⟨Cp (h.a7 s o ν).1 bf Ν hw,Cq (h.a7 s o ν).2 bf Ν hw⟩ (Co bf Ν hw) rfl (λr φ q hv=>CC hv) (λj af kT g δ=>?_) (λj af m g an δ=>?_) h.ui (λj r δ ι=>?_) (λj af m g δ Ο=>?_) ?_ ?_
 ·by_cases e:j=i
  ·subst e;rw[fi] at δ;cases δ
  ·rw[hs j e] at δ;exact absurd (only j af kT g δ) e
 ·by_cases e:j=i
  ·subst e;have aM:home j=s:=ε.2.1;rw[aM,fi] at δ;cases δ;exact h.eA j k (.dr L) .work an (by rw[aM];exact Ν)
  ·rw[hs j e] at δ;exact h.eA j af m g an δ
 ·by_cases e:j=i
  ·subst e;have aM:home j=s:=ε.2.1;rw[e8 _ (λx=>ι (by rw[x.2,aM]))];exact h.pa j r δ ι
  ·rw[hs j e];exact h.pa j r δ ι
 ·by_cases e:j=i
  ·subst e;rw[fi] at δ;cases δ;exact absurd rfl Ο
  ·rw[hs j e] at δ;exact h.pb j s af m g o ν δ Ο
 ·obtain⟨a,b⟩:=h.fM s o ν;refine⟨SJ a Lq,λaf=>?_⟩;rw[List.mem_append,List.mem_singleton];constructor
  ·rintro(χ|rfl)
   ·obtain⟨j,m,g,Γ,Δ⟩:=(b af).1 χ;have e:j≠i:=by rintro rfl;rw[Ν] at Γ;cases Γ;exact Δ
    exact⟨j,m,g,by rw[hs j e];exact Γ,Δ⟩
   ·exact⟨i,.fin,.work,fi ..,trivial⟩
  ·rintro⟨j,m,g,Γ,Δ⟩;by_cases e:j=i
   ·subst e;rw[fi] at Γ;cases Γ;exact .inr rfl
   ·rw[hs j e] at Γ;exact .inl ((b af).2 ⟨j,m,g,Γ,Δ⟩)
 ·obtain⟨a,b⟩:=h.gz s o ν;refine⟨a,λaf=>(b af).trans ⟨λ⟨j,m,g,Γ,Δ⟩=>?_,λ⟨j,m,g,Γ,Δ⟩=>?_⟩⟩
  ·by_cases e:j=i
   ·subst e;rw[Ν] at Γ;cases Γ;exact absurd rfl Δ
   ·exact⟨j,m,g,by rw[hs j e];exact Γ,Δ⟩
  ·by_cases e:j=i
   ·subst e;rw[fi] at Γ;cases Γ;exact absurd rfl Δ
   ·exact⟨j,m,g,by rw[hs j e] at Γ;exact Γ,Δ⟩
theorem eY.SL (h:eY n tok spec view rel O bw home) {s i k:Nat} {mu:lS} {o:aV} (ν:O s=some o) (Ν:tok i s=.ch k mu .work) (uk:mu=.done\/(mu=.idle/\o.aZ=none)) (c5:∀r,r≠s->gk (tok i r)) :
  eY n (b' tok i s (.ch k mu .rel)) spec (upd view i (upd (view i) s none)) (upd rel i true) (upd O s (some {o with ak:=k::o.ak})) bw home:=by
 have bf:i<n:=h.lt (s:=s) (by rw[Ν];simp)
 have hw:pV o (.ch k mu .work) {o with ak:=k::o.ak} (.ch k mu .rel):=.Sg uk
 have hs:∀j,j≠i->∀r,b' tok i s (.ch k mu .rel) j r=tok j r:=λj δ r=>e8 _ λx=>δ x.1
 have ε:=h.o9 i s k _ _ Ν
 have SM:k∉o.ak:=λχ=>by
  obtain⟨j,m,g,Γ,Δ⟩:=((h.gz s o ν).2 k).1 χ;have:=h.vO s j i k m g _ _ Γ Ν;subst this;rw[Ν] at Γ;cases Γ;exact Δ rfl
 refine h.change ν Ν (.inr ⟨_,_,_,_,_,rfl,rfl⟩) ⟨Cp (h.a7 s o ν).1 bf Ν hw,Cq (h.a7 s o ν).2 bf Ν hw⟩ (Co bf Ν hw) rfl (λr φ q hv=>CC hv) (λj af kT g δ=>?_) (λj af m g an δ=>?_) (by rw[upd_ne _ _ (Ne.symm ε.1)];exact h.ui) (λj r δ ι=>?_) (λj af m g δ Ο=>?_) ?_ ?_
 ·by_cases e:j=i
  ·subst e;rw[fi] at δ;rcases uk with rfl|⟨rfl,_⟩<;>cases δ
  ·rw[hs j e] at δ;exact h.dr j s af kT g o ν δ
 ·by_cases e:j=i
  ·subst e;have aM:home j=s:=ε.2.1;rw[aM,fi] at δ;cases δ;rw[upd_same];simp
  ·rw[hs j e] at δ;rw[upd_ne _ _ e];exact h.eA j af m g an δ
 ·by_cases e:j=i
  ·subst e;have aM:home j=s:=ε.2.1;have kB:r≠s:=λx=>ι (by rw[x,aM]);rw[e8 _ (λx=>kB x.2)];exact c5 r kB
  ·rw[hs j e];rw[upd_ne _ _ e] at δ;exact h.pa j r δ ι
 ·by_cases e:j=i
  ·subst e;rw[fi] at δ;cases δ;exact uk
  ·rw[hs j e] at δ;exact h.pb j s af m g o ν δ Ο
 ·obtain⟨a,b⟩:=h.fM s o ν;refine⟨a,λaf=>(b af).trans ⟨λ⟨j,m,g,Γ,Δ⟩=>?_,λ⟨j,m,g,Γ,Δ⟩=>?_⟩⟩
  ·by_cases e:j=i
   ·subst e;rw[Ν] at Γ;cases Γ;exact⟨j,mu,.rel,fi ..,Δ⟩
   ·exact⟨j,m,g,by rw[hs j e];exact Γ,Δ⟩
  ·by_cases e:j=i
   ·subst e;rw[fi] at Γ;cases Γ;exact⟨j,mu,.work,Ν,Δ⟩
   ·exact⟨j,m,g,by rw[hs j e] at Γ;exact Γ,Δ⟩
 ·obtain⟨a,b⟩:=h.gz s o ν;refine⟨List.nodup_cons.2 ⟨SM,a⟩,λaf=>?_⟩;rw[List.mem_cons];constructor
  ·rintro(rfl|χ)
   ·exact⟨i,mu,.rel,fi ..,ζ⟩
   ·obtain⟨j,m,g,Γ,Δ⟩:=(b af).1 χ;have e:j≠i:=by rintro rfl;rw[Ν] at Γ;cases Γ;exact Δ rfl
    exact⟨j,m,g,by rw[hs j e];exact Γ,Δ⟩
  ·rintro⟨j,m,g,Γ,Δ⟩;by_cases e:j=i
   ·subst e;rw[fi] at Γ;cases Γ;exact .inl rfl
   ·rw[hs j e] at Γ;exact .inr ((b af).2 ⟨j,m,g,Γ,Δ⟩)
theorem eY.gtake (h:eY n tok spec view rel O bw home) {s i q:Nat} {aQ:sx} {o:aV} (ν:O s=some o) (Ν:tok i s=.par q 0 aQ) (mO:aQ=.mI\/aQ=.w4) :
  eY n (b' tok i s (.par q 0 .bm)) spec (upd view i (upd (view i) s none)) rel (upd O s (some o)) bw home:=by
 have bf:i<n:=h.lt (s:=s) (by rw[Ν];simp)
 have hw:pV o (.par q 0 aQ) o (.par q 0 .bm):=.gtake mO
 have hs:∀j,j≠i->∀r,b' tok i s (.par q 0 .bm) j r=tok j r:=λj δ r=>e8 _ λx=>δ x.1
 have cs:∀j r k m g,b' tok i s (.par q 0 .bm) j r=.ch k m g↔tok j r=.ch k m g:=λj r k m g=>by
  by_cases e:j=i/\r=s
  ·obtain⟨rfl,rfl⟩:=e;rw[fi,Ν];simp
  ·rw[e8 _ e]
 refine h.change ν Ν (.inl ⟨_,_,_,_,_,_,rfl,rfl,λk χ=>χ⟩) ⟨Cp (h.a7 s o ν).1 bf Ν hw,Cq (h.a7 s o ν).2 bf Ν hw⟩ (Co bf Ν hw) rfl (λr φ q hv=>CC hv) (λj af kT g δ=>?_) (λj af m g an δ=>?_) h.ui (λj r δ ι=>?_) (λj af m g δ Ο=>?_) ?_ ?_
 ·rw[cs] at δ;exact h.dr j s af kT g o ν δ
 ·rw[cs] at δ;exact h.eA j af m g an δ
 ·by_cases e:j=i/\r=s
  ·obtain⟨rfl,rfl⟩:=e;rw[fi];trivial
  ·rw[e8 _ e];exact h.pa j r δ ι
 ·rw[cs] at δ;exact h.pb j s af m g o ν δ Ο
 ·simp only[cs];exact h.fM s o ν
 ·simp only[cs];exact h.gz s o ν
end
end Go.TL
