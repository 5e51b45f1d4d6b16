import Derived.Test.YtlabjopijpkiaaaGreatUAA
import Derived.Test.YtlabjopijpkiaaaGreatUAB
set_option maxHeartbeats 16000000
set_option maxRecDepth 20000
set_option linter.unusedSectionVars false
set_option linter.unusedSimpArgs false
set_option linter.unusedVariables false
namespace Go.TL
open Go.Conc
open Go.ConcN (sumTo upd sumTo_upd upd_ne upd_same sumTo_congr le_sumTo)
section
variable {N i:Nat} {o o':aP} {τ:Nat->Tok} {t t':Tok}
theorem LR (o':aP) (Α:o'.top=o.top) (hi:i<N) (Ν:τ i=t) (h:mr o.top t'+9*o'.c7+2*o'.cL<mr o.top t+9*o.c7+2*o.cL):eH N o' (upd τ i t')<eH N o τ:=by
 have e:=gA τ t' (mr o.top) hi;rw[Ν] at e;unfold eH;rw[Α];omega
theorem LS (hi:i<N) (Ν:τ i=t) (μ:Act o t o' t'):eH N o' (upd τ i t')<eH N o τ:=by
 cases μ<;>refine LR _ rfl hi Ν ?_
 case acq aw _ _=>cases aw<;>simp[mr,vg]
 case queue aw _ _ _=>cases aw<;>simp[mr,vg]
 case take=>simp[mr,vg];omega
 case add=>simp[mr];omega
 case wake=>simp[mr,xj];omega
 all_goals (simp[mr,vg,Cc,xj]<;>omega)
theorem Cg (hi:i<N) (Ν:τ i=t) (μ:pQ o t o' t'):eH N o' (upd τ i t')<eH N o τ:=by
 cases μ<;>refine LR _ rfl hi Ν ?_
 case gtake aJ ψ=>rcases ψ with rfl|rfl<;>simp[mr,xj]
 all_goals (simp[mr,vg,Cc,xj]<;>omega)
theorem Gx {φ:Tok->Nat} (hi:i<N) (h:φ t'=φ (τ i)):a' N (upd τ i t') φ=a' N τ φ:=by
 have:=gA τ t' φ hi;omega
theorem Ch (h:pP N o τ) (hi:i<N) (Ν:τ i=t) (μ:pQ o t o' t'):pP N o' (upd τ i t'):=by
 unfold pP at h ⊢;cases μ<;>
 (repeat rw[Gx hi (by rw[Ν];rfl)])<;>exact h
theorem Ci (h:oL N o τ) (hi:i<N) (Ν:τ i=t) (μ:pQ o t o' t'):oL N o' (upd τ i t'):=by
 unfold oL at h ⊢;cases μ
 case gtake aJ ψ=>rcases ψ with rfl|rfl<;>(repeat rw[Gx hi (by rw[Ν];rfl)])<;>exact h
 all_goals (repeat rw[Gx hi (by rw[Ν];rfl)])<;>exact h
theorem vm (N:Nat) (τ:Nat->Tok) (φ:Tok->Nat):a' (N+1) τ φ=a' N τ φ+φ (τ N):=rfl
theorem LU {φ:Tok->Nat} (ey:φ .nil=0) (h:τ N=.nil):a' (N+1) τ φ=a' N τ φ:=by rw[vm,h,ey];rfl
theorem LV (h:tC N o τ) (Η:τ N=.nil):tC (N+1) o τ:=by
 unfold tC pP oL at h ⊢
 repeat rw[LU (by rfl) Η]
 exact h
theorem LW (Η:τ N=.nil):eH (N+1) o τ=eH N o τ:=by
 unfold eH;rw[LU (by rfl) Η]
theorem TK {j n p:Nat} (h:tC N o τ) (hi:i<N) (δ:j<N) (fP:i≠j) (Ν:τ i=.par n (p+1) .add) (Η:τ j=.nil) (k:Nat) :
  tC N o (upd (upd τ i (.par n p .add)) j (.ch k .idle .work)):=by
 have bn:upd τ i (.par n p .add) j=.nil:=by rw[upd_ne _ _ (Ne.symm fP)];exact Η
 have key:∀φ:Tok->Nat,a' N (upd (upd τ i (.par n p .add)) j (.ch k .idle .work)) φ+φ .nil+φ (.par n (p+1) .add)=a' N τ φ+φ (.par n p .add)+φ (.ch k .idle .work):=λφ=>by
  have Δ:=gA τ (.par n p .add) φ hi
  have Γ:=gA (upd τ i (.par n p .add)) (.ch k .idle .work) φ δ;rw[Ν] at Δ;rw[bn] at Γ;omega
 obtain⟨dm,c5⟩:=h;constructor
 ·unfold pP at dm ⊢;have f1:=key ia;have f2:=key nW;have f3:=key mo;have f4:=key lI;have f5:=key ng;have f6:=key lJ;have f7:=key qY;have f8:=key nX;have f9:=key qX;simp only[ia,nW,mo,lI,ng,lJ,qY,nX,qX,za,B9,vd,zb,Ca,zc,Gq,Cb,Gp,Nat.add_zero] at f1 f2 f3 f4 f5 f6 f7 f8 f9;rw[f1,f2,f3,f4,f5,f6,f7,f8,f9];exact dm
 ·unfold oL at c5 ⊢;have f1:=key i';have f2:=key j3;have f3:=key j4;have f4:=key lK;have f5:=key eV;have f6:=key hn;have f7:=key ib;have f8:=key mq;have f9:=key lL;have f10:=key ic;simp only[i',j3,j4,lK,eV,hn,ib,mq,lL,ic,sg,ve,vf,Nat.add_zero] at f1 f2 f3 f4 f5 f6 f7 f8 f9 f10;obtain⟨gm,tD,zg,zh,Gw,TG,TH,TI,TJ⟩:=c5;constructor<;>omega
theorem TM {j n p:Nat} (hi:i<N) (δ:j<N) (fP:i≠j) (Ν:τ i=.par n (p+1) .add) (Η:τ j=.nil) (k:Nat) :
  eH N o (upd (upd τ i (.par n p .add)) j (.ch k .idle .work))<eH N o τ:=by
 have bn:upd τ i (.par n p .add) j=.nil:=by rw[upd_ne _ _ (Ne.symm fP)];exact Η
 have Δ:=gA τ (.par n p .add) (mr o.top) hi
 have Γ:=gA (upd τ i (.par n p .add)) (.ch k .idle .work) (mr o.top) δ;rw[Ν] at Δ;rw[bn] at Γ;simp only[mr,vg,Cc,xj] at Δ Γ;unfold eH;omega
theorem Cj {φ:Tok->Nat} (h:0<a' N τ φ):∃i,i<N/\0<φ (τ i):=by
 have hY:∀n,0<a' n τ φ->∃i,i<n/\0<φ (τ i):=λn=>by
  induction n with
  | zero=>intro h;cases h
  | succ n Β=>
   intro h;rw[vm] at h;by_cases ai:0<φ (τ n)
   ·exact⟨n,R,ai⟩
   ·obtain⟨i,hi,ψ⟩:=Β R;exact⟨i,R,ψ⟩
 exact hY N h
def oP:Tok->Prop
 | .ch _ .own _|.ch _ (.dh _) _|.ch _ .fin _|.ch _ .us _|.ch _ .wk _|.ch _ .hw _|.ch _ (.act true) _|.ch _ .uc _=>True
 | _=>False
theorem TN (h:pP N o τ) (Ψ:0<a' N τ lI) (ai:o.c7=0):∃i,i<N/\oP (τ i):=by
 have pick:∀{φ:Tok->Nat},(∀t,0<φ t->oP t)->0<a' N τ φ->∃i,i<N/\oP (τ i):=λey ψ=>let ⟨i,hi,γ⟩:=Cj ψ;⟨i,hi,ey _ γ⟩
 have TO:∀t,0<ia t->oP t:=λt Ν=>by cases t<;>simp_all [ia,oP];rename_i m _;cases m<;>simp_all [za]
 have Ck:∀t,0<nW t->oP t:=λt Ν=>by cases t<;>simp_all [nW,oP];rename_i m _;cases m<;>simp_all [B9]
 have Cl:∀t,0<mo t->oP t:=λt Ν=>by cases t<;>simp_all [mo,oP];rename_i m _;cases m<;>simp_all [vd];rename_i b;cases b<;>simp_all [vd]
 have TP:∀t,0<nX t->oP t:=λt Ν=>by cases t<;>simp_all [nX,oP];rename_i m _;cases m<;>simp_all [Cb]
 obtain⟨f1,f2,f3,hO,mw,vk,tD,zg,zh⟩:=h;by_cases c1:0<a' N τ ia
 ·exact pick TO c1
 by_cases c2:0<a' N τ nW
 ·exact pick Ck c2
 by_cases c3:0<a' N τ mo
 ·exact pick Cl c3
 by_cases c4:0<a' N τ nX
 ·exact pick TP c4
 exfalso;rcases(show o.sv=0\/o.sv=1 by omega) with ν|ν
 ·have:=mw ν;have:=tD ν;omega
 ·have:=vk ν;omega
def q1:Tok->Prop
 | .ch _ _ .work|.ch _ _ .rel|.ch _ _ .l2|.ch _ _ .hN=>True
 | _=>False
theorem TQ (h:oL N o τ) {n p:Nat} (hi:i<N) (Ν:τ i=.par n p .w3) (ai:o.cL=0):∃j,j<N/\q1 (τ j):=by
 have pick:∀{φ:Tok->Nat},(∀t,0<φ t->q1 t)->0<a' N τ φ->∃i,i<N/\q1 (τ i):=λey ψ=>let ⟨i,hi,γ⟩:=Cj ψ;⟨i,hi,ey _ γ⟩
 have bJ:∀t,0<i' t->q1 t:=λt Ν=>by cases t<;>simp_all [i',q1];rename_i m;cases m<;>simp_all [sg]
 have c8:∀t,0<j3 t->q1 t:=λt Ν=>by cases t<;>simp_all [j3,q1];rename_i m;cases m<;>simp_all [ve]
 have fY:∀t,0<j4 t->q1 t:=λt Ν=>by cases t<;>simp_all [j4,q1];rename_i m;cases m<;>simp_all [vf]
 have w:=pR (φ:=lL) (λt Ν=>by cases t<;>simp_all [eV,lL]) h.nY hi (by rw[Ν];rfl);rw[Ν] at w;have:=h.Tk w;have:=h.Gr;by_cases c1:0<a' N τ i'
 ·exact pick bJ c1
 by_cases c2:0<a' N τ j3
 ·exact pick c8 c2
 by_cases c3:0<a' N τ j4
 ·exact pick fY c3
 exfalso;omega
end
end Go.TL
namespace Go.TL
open Go.Conc
open Go.ConcM (OsLater)
open Go.ConcN (sumTo upd sumTo_upd upd_ne upd_same sumTo_congr le_sumTo)
open Go.ConcR (mk)
inductive gn (B:Type):Type where
 | leaf
 | node (f:B->gn B)
inductive nh {B:Type}:List (gn B)->List (gn B)->Prop where
 | one (a b:List (gn B)) (f:B->gn B) (k:B):nh (a++f k::b) (a++gn.node f::b)
 | two (a b:List (gn B)) (f:B->gn B) (k ae:B):nh (a++f k::f ae::b) (a++gn.node f::b)
theorem nh.cons_inv {B:Type} {l:List (gn B)} {t:gn B} {m:List (gn B)} (h:nh m (t::l)) :
  (∃b7,nh b7 l/\m=t::b7)\/(∃f k,t=.node f/\m=f k::l)\/(∃f k ae,t=.node f/\m=f k::f ae::l):=by
 generalize γ:t::l=x at h;cases h with
 | one a b f k=>
  cases a with
  | nil=>simp at γ;exact .inr (.inl ⟨f,k,γ.1,by rw[γ.2];rfl⟩)
  | cons y a=>simp at γ;exact .inl ⟨a++f k::b,by rw[γ.2];exact .one a b f k,by rw[γ.1];rfl⟩
 | two a b f k ae=>
  cases a with
  | nil=>simp at γ;exact .inr (.inr ⟨f,k,ae,γ.1,by rw[γ.2];rfl⟩)
  | cons y a=>simp at γ;exact .inl ⟨a++f k::f ae::b,by rw[γ.2];exact .two a b f k ae,by rw[γ.1];rfl⟩
theorem nh.TR {B:Type} (t:gn B):∀l,Acc nh l->Acc nh (t::l):=by
 induction t with
 | leaf=>
  intro l υ
  induction υ with
  | intro l _ Β=>
   refine⟨_,λm hm=>?_⟩;rcases hm.cons_inv with⟨b7,I,rfl⟩|⟨f,k,h,_⟩|⟨f,k,ae,h,_⟩
   ·exact Β b7 I
   ·cases h
   ·cases h
 | node f Gy=>
  intro l υ
  induction υ with
  | intro l sh Β=>
   refine⟨_,λm hm=>?_⟩;rcases hm.cons_inv with⟨b7,I,rfl⟩|⟨f',k,h,rfl⟩|⟨f',k,ae,h,rfl⟩
   ·exact Β b7 I
   ·cases h;exact Gy k l ⟨l,sh⟩
   ·cases h;exact Gy k _ (Gy ae l ⟨l,sh⟩)
theorem nh.wf {B:Type}:WellFounded (nh (B:=B)):=⟨λl=>by
 induction l with
 | nil=>exact⟨_,λm hm=>by
   generalize γ:([]:List (gn B))=x at hm;cases hm<;>simp at γ⟩
 | cons t l Β=>exact nh.TR t l Β⟩
structure aX where
 G:χ
 aK:Nat->Option (Array Value×TypeId)
 tok:Nat->Tok
 spec:Nat->Option Spec
 view:Nat->Option (Nat×aP)
 deaf:Nat
 rel:Bool
def zi (V:Nat->Option (Array Value×TypeId)) (w:World):Prop:=∀b c t,V b=some (c,t)->w.heap[b]?=some (.cells c t (0,0))
def cR (o:aP):Int:=(o.cnt:Int)*4294967296+o.wt
def mwd (o:aP):Int:=(o.ck:Int)+2*o.wk+4*o.sv+8*o.nw
def At (s:Nat) (o:aP) (w:World):Prop:=
 (∃ty,w.heap[s]?=some (.cells #[.int .u64 (cR o),.int .u32 o.cL] ty (0,0)))/\∀m,o.aW=some m->∃ty,w.heap[m]?=some (.cells #[.int .i32 (mwd o),.int .u32 o.c7] ty (0,0))
def ep (s:Nat) (sp:Spec) (b:Nat):Prop:=b=s\/sp.aW=some b
def vn (o:aP) (t:Tok):Prop:=∃N τ i,tC N o τ/\i<N/\τ i=t/\(∀k L g,t=.ch k (.dh L) g->o.L=L)
def Gz (x:aX) (s φ:Nat) (o:aP):Prop:=∀gL lN,x.view s=some (gL,lN)->φ<=gL/\(φ=gL->o=lN)
structure Sub (G' G:χ):Prop where
 aL:∀b o v p,G'.aL b o=some (v,p)->∃fF,G.aL b o=some (v,fF)/\(p=true->fF=true)
 row:∀b x,G'.row b=some x->G.row b=some x
 obj:∀b x,G'.obj b=some x->G.obj b=some x
structure Split (G ni nj:χ):Prop where
 l:Sub ni G
 r:Sub nj G
 apart:Apart ni nj
def join (G H:χ):χ:=
 ⟨λb o=>match G.aL b o with|some x=>some x|none=>H.aL b o,λb=>match G.row b with|some x=>some x|none=>H.row b,λb=>match G.obj b with|some x=>some x|none=>H.obj b⟩
def lO (D:Nat->χ->Prop):List Nat->χ->Prop
 | [],E=>E=χ.empty
 | k::LX,E=>∃pS pT,D k pS/\lO D LX pT/\Apart pS pT/\E=join pS pT
structure Cm (G G':χ) (n:Nat):Prop where
 aL:∀b o v p,G'.aL b o=some (v,p)->n<=b\/∃v0 fF,G.aL b o=some (v0,fF)/\(p=true->fF=true)
 obj:∀b,G'.e9 b->n<=b\/G.e9 b
def GA (V:Nat->Option (Array Value×TypeId)) (V':Nat->Option (Array Value×TypeId)) (G':χ) (n:Nat):Prop:=
 ∀b c,V' b=some c->V b=some c\/(n<=b/\G'.off b)
def Cn (e:Event):Prop:=e.loc=.output\/e.loc=.mark .noRoom
def oQ (s:Nat) (sp:Spec) (d:Nat) (es:Array Event):Prop:=
 deafBehind d es=d/\∀j e,es[j]?=some e->(e.loc=.mark .disable\/e.loc=.mark .enable\/(∃b off wr,e=⟨.cell ⟨b,off,none⟩,wr,true⟩/\ep s sp b/\0<deafBehind d (es.extract 0 j)))
def j5 (o:aP):Tok->Prop
 | .ch _ .q _=>o.c7=0
 | .par _ _ .w3=>o.cL=0
 | _=>False
def nk:Tok->Prop
 | .nil=>True
 | .par _ _ .add|.par _ _ .bB=>True
 | .ch _ .idle _|.ch _ .done _=>True
 | _=>False
def fZ:Tok->Prop
 | .nil=>True
 | .par _ _ .bB=>True
 | _=>False
def Gone:Tok->Prop
 | .nil=>True
 | .par _ _ .bB=>True
 | .ch _ _ .gone=>True
 | _=>False
abbrev zj:=Bool->Goroutine->aX->Prop
def iE (g:Goroutine):Prop:=g.status=.running/\g.offers=none
section
variable (P:Program) (mn:Bool) (ah:zj) (g:Goroutine) (x:aX)
def LY:Prop:=∀w,Fits x.G w->zi x.aK w->(stepG P mn g w).goes λg' w' es=>∃G' V',iE g'/\fD x.G.owns x.G.e9 w w'/\Fits G' w'/\zi V' w'/\
 Cm x.G G' w.heap.size/\GA x.aK V' G' w.heap.size/\(∀e∈es,if x.rel then Cn e else hl x.G w.heap.size w'.heap.size e)/\(∀b c,V' b=some c->w.heap.size<=b->∀e∈es,¬nV e.loc b)/\ah mn g' {x with G:=G',aK:=V'}
def LZ:Prop:=∃g',iE g'/\((∀w,Fits x.G w->stepG P mn g w=.go g' w #[mk .disable]/\ah mn g' {x with deaf:=x.deaf+1})\/
 (0<x.deaf/\∀w,Fits x.G w->stepG P mn g w=.go g' w #[mk .enable]/\ah mn g' {x with deaf:=x.deaf-1}))
def L0:Prop:=∃(s n p:Nat) (aJ:sf) (g':Goroutine) (off:Nat) (wr:Bool),x.tok s=.par n p aJ/\aJ≠.bB/\x.rel=false/\iE g'/\∀w,Fits x.G w->stepG P mn g w=.go g' w #[mk (if wr then .write ⟨s,off,none⟩ else .read ⟨s,off,none⟩)]/\ah mn g' x
def Atom:Prop:=∃s sp,x.spec s=some sp/\¬fZ (x.tok s)/\∀w φ o,Fits x.G w->zi x.aK w->o.toSpec=sp->At s o w->Gz x s φ o->vn o (x.tok s)->
 ((stepG P mn g w).goes λg' w' es=>iE g'/\fD (λb _=>ep s sp b) (λ_=>False) w w'/\oQ s sp x.deaf es/\
   ((At s o w'/\ah mn g' {x with view:=upd x.view s (some (φ,o))})\/
    ∃o' t',Act o (x.tok s) o' t'/\At s o' w'/\(mayWake P g=true\/o'=o)/\∀cu,cu<φ->ah mn g' {x with tok:=upd x.tok s t',view:=upd x.view s (some (cu,o'))}))\/
 (j5 o (x.tok s)/\(∀bp,bp≠s->nk (x.tok bp))/\stepG P mn g w=.go {g with status:=.blocked} w #[])
def L1:Prop:=∃s sp m k g',x.spec s=some sp/\sp.aW=some m/\x.tok s=.ch k .own .work/\x.deaf=0/\iE g'/\x.rel=false/\
 (∀w,Fits x.G w->stepG P mn g w=.go g' w #[mk (.acquire ⟨m,0,none⟩)])/\
 ∀L E,sp.aN L E->Apart x.G E->(L.Nodup/\k∉L/\∃w,Fits x.G w/\Fits E w)->ah mn g' {x with G:=join x.G E,tok:=upd x.tok s (.ch k (.dh L) .work),view:=upd x.view s none}
def L2:Prop:=∃s sp m k L g' G' E,x.spec s=some sp/\sp.aW=some m/\x.tok s=.ch k (.dh L) .work/\x.deaf=0/\iE g'/\x.rel=false/\
 (∀w,Fits x.G w->stepG P mn g w=.go g' w #[mk (.releaseMerge ⟨m,0,none⟩)])/\
 Split x.G G' E/\sp.aN (L++[k]) E/\ah mn g' {x with G:=G',tok:=upd x.tok s (.ch k .fin .work),view:=upd x.view s none}
def L3:Prop:=∃s sp k mu g' E,x.spec s=some sp/\x.tok s=.ch k mu .work/\(mu=.done\/(mu=.idle/\sp.aW=none))/\(∀bp,bp≠s->fZ (x.tok bp))/\x.deaf=0/\iE g'/\x.rel=false/\
 (∀w,Fits x.G w->stepG P mn g w=.go g' w #[mk (.releaseMerge ⟨s,0,none⟩)])/\
 Sub E x.G/\sp.D k E/\ah mn g' {x with G:=χ.empty,aK:=λ_=>none,tok:=upd x.tok s (.ch k mu .rel),view:=upd x.view s none,rel:=true}
def L4:Prop:=∃s sp n aJ g',x.spec s=some sp/\x.tok s=.par n 0 aJ/\(aJ=.mm\/aJ=.w4)/\x.deaf=0/\iE g'/\x.rel=false/\
 (∀w,Fits x.G w->stepG P mn g w=.go g' w #[mk (.acquire ⟨s,0,none⟩)])/\
 ∀gp fG gM eI,gp.Perm (List.range n)->lO sp.D gp gM->(sp.aW≠none->fG.Perm (List.range n)/\sp.aN fG eI)->(sp.aW=none->eI=χ.empty)->Apart x.G gM->Apart x.G eI->Apart gM eI->(∃w,Fits x.G w/\Fits gM w/\Fits eI w)->
  ah mn g' {x with G:=join (join x.G gM) eI,tok:=upd x.tok s (.par n 0 .bB),view:=upd x.view s none}
def L5:Prop:=∃s sp n p g' c ni nj,x.spec s=some sp/\x.tok s=.par n (p+1) .add/\x.deaf=0/\iE g'/\iE c/\x.rel=false/\
 (∀w,Fits x.G w->stepG P mn g w=.spawn g' c w #[])/\Split x.G ni nj/\
 ah mn g' {x with G:=ni,tok:=upd x.tok s (.par n p .add),view:=upd x.view s none}/\
 ah false c ⟨nj,λ_=>none,upd (λ_=>.nil) s (.ch (n-(p+1)) .idle .work),upd (λ_=>none) s (some sp),λ_=>none,0,false⟩
def GB:Prop:=
 (∃G',Sub G' x.G/\ah mn g {x with G:=G'})\/
 (∃b c t,x.aK b=some (c,t)/\ah mn g {x with aK:=upd x.aK b none,G:=⟨λΩ o=>if Ω=b then(c[o]?).map (·,true) else x.G.aL Ω o,λΩ=>if Ω=b then some (t,c.size) else x.G.row Ω,x.G.obj⟩})\/
 (∃s sp ty G' E,x.aK s=some (#[.int .u64 0,.int .u32 0],ty)/\(∀m,sp.aW=some m->m≠s/\∃jC,x.aK m=some (#[.int .i32 0,.int .u32 0],jC))/\x.rel=false/\
  Split x.G G' E/\(sp.aW≠none->sp.aN [] E)/\
  ah mn g {x with G:=G',aK:=λb=>if b=s\/sp.aW=some b then none else x.aK b,tok:=upd x.tok s (.par 0 0 .add),spec:=upd x.spec s (some sp),view:=upd x.view s none})
def L6:Prop:=mn=false/\g.status=.running/\x.rel=true/\(∀s,Gone (x.tok s))/\∃g' es,(∀e∈es,Event.mute e=true)/\(∀w,stepG P false g w=.go g' w es)/\ah mn g' {x with deaf:=deafBehind x.deaf es}
def zk:Prop:=L6 P mn ah g x\/iE g/\(LY P mn ah g x\/LZ P mn ah g x\/L0 P mn ah g x\/Atom P mn ah g x\/L1 P mn ah g x\/L2 P mn ah g x\/L3 P mn ah g x\/L4 P mn ah g x\/L5 P mn ah g x\/GB mn ah g x)
def L7 (Q:Value->Prop):Prop:=iE g/\(∀s,fZ (x.tok s))/\x.deaf=0/\∀w,Fits x.G w->∃v es,stepG P true g w=.ended (.done v) w es/\(∀e∈es,hl x.G w.heap.size w.heap.size e)/\Q v
def TS:Prop:=x.rel=true/\(∀s,Gone (x.tok s))/\g.status=.finished/\x.deaf=0
def Co (Q:Value->Prop):Prop:=(mn=true/\L7 P g x Q)\/(mn=false/\TS g x)
def zl:Prop:=x.rel=true->(∀s,Gone (x.tok s))->∃n,QuitsD P n x.deaf g
end
open Classical in
def jD (P:Program) (Q:Value->Prop):gn (Bool×Goroutine×aX)->zj
 | .leaf=>λmn g x=>zl P g x/\Co P mn g x Q
 | .node f=>λmn g x=>zl P g x/\(Co P mn g x Q\/zk P mn (λvo g' df=>jD P Q (f (vo,g',df)) vo g' df) g x)
def Goes (P:Program) (Q:Value->Prop):zj:=λmn g x=>∃T,jD P Q T mn g x
theorem zk.mono {P:Program} {mn:Bool} {ah L8:zj} {g:Goroutine} {x:aX} (bc:∀mn g x,ah mn g x->L8 mn g x) (h:zk P mn ah g x):zk P mn L8 g x:=by
 rcases h with⟨Δ,Γ,a0,TT,g',es,e',lM,q0⟩|⟨κ,h⟩
 ·exact .inl ⟨Δ,Γ,a0,TT,g',es,e',lM,bc _ _ _ q0⟩
 refine .inr ⟨κ,?_⟩;rcases h with h|h|h|h|h|h|h|h|h|h
 ·refine .inl λw Χ hv=>?_;have:=h w Χ hv;revert this;cases stepG P mn g w<;>simp only[GStep.goes,imp_self];rintro⟨G',V',I,U,ξ,Κ,aE,bd,gT,GC,n0⟩;exact⟨G',V',I,U,ξ,Κ,aE,bd,gT,GC,bc _ _ _ n0⟩
 ·obtain⟨g',I,U⟩:=h;exact .inr (.inl ⟨g',I,U.elim (λh=>.inl λw Χ=>⟨(h w Χ).1,bc _ _ _ (h w Χ).2⟩) (λh=>.inr ⟨h.1,λw Χ=>⟨(h.2 w Χ).1,bc _ _ _ (h.2 w Χ).2⟩⟩)⟩)
 ·obtain⟨s,n,p,aJ,g',off,wr,I,U,ho,ξ,Κ⟩:=h;exact .inr (.inr (.inl ⟨s,n,p,aJ,g',off,wr,I,U,ho,ξ,λw Χ=>⟨(Κ w Χ).1,bc _ _ _ (Κ w Χ).2⟩⟩))
 ·obtain⟨s,sp,I,ho,ξ⟩:=h;refine .inr (.inr (.inr (.inl ⟨s,sp,I,ho,λw φ o Χ hv ν μ zm ψ=>?_⟩)));refine(ξ w φ o Χ hv ν μ zm ψ).imp (λh=>?_) id;revert h;cases stepG P mn g w<;>simp only[GStep.goes,imp_self];rintro⟨I,U,ξ,Κ⟩;exact⟨I,U,ξ,Κ.imp (λh=>⟨h.1,bc _ _ _ h.2⟩) λ⟨o',t',a1,bk,cz,gm⟩=>⟨o',t',a1,bk,cz,λcu ey=>bc _ _ _ (gm cu ey)⟩⟩
 ·obtain⟨s,sp,m,k,g',I,U,ξ,Κ,aE,tE,bd,gT⟩:=h;exact .inr (.inr (.inr (.inr (.inl ⟨s,sp,m,k,g',I,U,ξ,Κ,aE,tE,bd,λL E a b c=>bc _ _ _ (gT L E a b c)⟩))))
 ·obtain⟨s,sp,m,k,L,g',G',E,I,U,ξ,Κ,aE,tE,bd,gT,n0,tF⟩:=h;exact .inr (.inr (.inr (.inr (.inr (.inl ⟨s,sp,m,k,L,g',G',E,I,U,ξ,Κ,aE,tE,bd,gT,n0,bc _ _ _ tF⟩)))))
 ·obtain⟨s,sp,k,mu,g',E,I,U,ξ,Κ,aE,bd,TU,gT,n0,tF,TV⟩:=h;exact .inr (.inr (.inr (.inr (.inr (.inr (.inl ⟨s,sp,k,mu,g',E,I,U,ξ,Κ,aE,bd,TU,gT,n0,tF,bc _ _ _ TV⟩))))))
 ·obtain⟨s,sp,n,aJ,g',I,U,ξ,Κ,aE,tE,bd,gT⟩:=h;exact .inr (.inr (.inr (.inr (.inr (.inr (.inr (.inl ⟨s,sp,n,aJ,g',I,U,ξ,Κ,aE,tE,bd,λgp fG gM eI a b c d e f g i=>bc _ _ _ (gT gp fG gM eI a b c d e f g i)⟩)))))))
 ·obtain⟨s,sp,n,p,g',c,ni,nj,I,U,ξ,Κ,aE,tE,bd,gT,n0,tF⟩:=h;exact .inr (.inr (.inr (.inr (.inr (.inr (.inr (.inr (.inl ⟨s,sp,n,p,g',c,ni,nj,I,U,ξ,Κ,aE,tE,bd,gT,bc _ _ _ n0,bc _ _ _ tF⟩))))))))
 ·refine .inr (.inr (.inr (.inr (.inr (.inr (.inr (.inr (.inr ?_))))))));rcases h with⟨G',I,U⟩|⟨b,c,t,I,U⟩|⟨s,sp,ty,G',E,I,U,ξ,Κ,aE,gT⟩
  ·exact .inl ⟨G',I,bc _ _ _ U⟩
  ·exact .inr (.inl ⟨b,c,t,I,bc _ _ _ U⟩)
  ·exact .inr (.inr ⟨s,sp,ty,G',E,I,U,ξ,Κ,aE,bc _ _ _ gT⟩)
theorem Goes.stop {P:Program} {Q:Value->Prop} {mn:Bool} {g:Goroutine} {x:aX} (Α:zl P g x) (h:Co P mn g x Q):Goes P Q mn g x:=⟨.leaf,Α,h⟩
open Classical in
theorem Goes.step {P:Program} {Q:Value->Prop} {mn:Bool} {g:Goroutine} {x:aX} (Α:zl P g x) (h:zk P mn (Goes P Q) g x):Goes P Q mn g x:=by
 refine⟨.node λk=>if ς:∃T,jD P Q T k.1 k.2.1 k.2.2 then Classical.choose ς else .leaf,Α,.inr (h.mono λvo g' df Ρ=>?_)⟩;have ς:∃T,jD P Q T vo g' df:=Ρ;simp only[ς,dif_pos];exact Classical.choose_spec ς
theorem Goes.quits {P:Program} {Q:Value->Prop} (n:Nat):∀{g:Goroutine} {x:aX},x.rel=true->(∀s,Gone (x.tok s))->QuitsD P n x.deaf g->Goes P Q false g x:=by
 induction n with
 | zero=>
  intro g x κ Ρ Ψ;exact .stop (λ_ _=>⟨0,Ψ⟩) (.inr ⟨rfl,κ,Ρ,Ψ.1,Ψ.2⟩)
 | succ n Β=>
  intro g x κ Ρ Ψ;rcases Ψ with Ψ|⟨ν,g',es,I,U,ξ⟩
  ·exact .stop (λ_ _=>⟨0,Ψ⟩) (.inr ⟨rfl,κ,Ρ,Ψ.1,Ψ.2⟩)
  ·exact .step (λ_ _=>⟨n+1,.inr ⟨ν,g',es,I,U,ξ⟩⟩) (.inl ⟨rfl,ν,κ,Ρ,g',es,I,U,Β (x:={x with deaf:=deafBehind x.deaf es}) κ Ρ ξ⟩)
abbrev cI:=Nat ⊕ Nat
def bO (H:cI->χ) (h:cI) (G:χ):cI->χ:=λk=>if k=h then G else H k
@[simp] theorem dC (H:cI->χ) (h:cI) (G:χ):bO H h G h=G:=by simp[bO]
theorem bP (H:cI->χ) {h k:cI} (G:χ) (ς:k≠h):bO H h G k=H k:=by simp[bO,ς]
structure c9 where
 H:cI->χ
 aK:Nat->Nat->Option (Array Value×TypeId)
 tok:Nat->Nat->Tok
 spec:Nat->Nat->Option Spec
 view:Nat->Nat->Option (Nat×aP)
 deaf:Nat->Nat
 rel:Nat->Bool
 T:Nat->gn (Bool×Goroutine×aX)
 O:Nat->Option aP
 bz:Nat->Nat
 home:Nat->Nat
 dx:Nat->Nat
def c9.x (c:c9) (i:Nat):aX:=⟨c.H (.inl i),c.aK i,c.tok i,c.spec i,c.view i,c.deaf i,c.rel i⟩
structure g7 (H:cI->χ) (aK:Nat->Nat->Option (Array Value×TypeId)) (O:Nat->Option aP) (bs w:World):Prop where
 fit:∀h,Fits (H h) w
 mx:∀i,zi (aK i) w
 fQ:∀s o,O s=some o->At s o w
 keep:fD (λ_ _=>False) (λ_=>False) bs w
structure ie (H:cI->χ) (aK:Nat->Nat->Option (Array Value×TypeId)) (O:Nat->Option aP) (hp:Nat):Prop where
 apart:∀h k,h≠k->Apart (H h) (H k)
 high:∀h b o,(H h).owns b o->hp<=b
 n1:∀h b,(H h).e9 b->hp<=b
 fresh:∀i b v,aK i b=some v->hp<=b/\(∀h,(H h).off b)/\∀j,j≠i->aK j b=none
 kC:∀s o b,O s=some o->ep s o.toSpec b->hp<=b/\(∀h,(H h).off b)/\∀j,aK j b=none
 kU:∀s bp o o' b,O s=some o->O bp=some o'->ep s o.toSpec b->ep bp o'.toSpec b->s=bp
 pU:∀s o m,O s=some o->o.aW=some m->m≠s
 ez:∀b,(∀s o,O s=some o->¬ep s o.toSpec b)->H (.inr b)=χ.empty
theorem g7.own {H:cI->χ} {aK:Nat->Nat->Option (Array Value×TypeId)} {O:Nat->Option aP} {bs w w':World} {hp:Nat} (dm:g7 H aK O bs w) (ω:ie H aK O hp) (i:Nat) {G':χ} {V':Nat->Option (Array Value×TypeId)}
  (ς:fD (H (.inl i)).owns (H (.inl i)).e9 w w') (Χ:Fits G' w') (hv:zi V' w') (ai:bs.heap.size=hp):g7 (bO H (.inl i) G') (upd aK i V') O bs w':=by
 have ap:∀h,h≠.inl i->(∀b o,(H (.inl i)).owns b o->¬(H h).has b o)/\∀b,(H (.inl i)).e9 b->¬(H h).e9 b:=λh aY=>⟨(ω.apart _ _ (Ne.symm aY)).aL,(ω.apart _ _ (Ne.symm aY)).obj⟩;refine⟨λh=>?_,λj=>?_,λs o ν=>?_,?_⟩
 ·by_cases aY:h=.inl i
  ·subst aY;rw[dC];exact Χ
  ·rw[bP _ _ aY];exact(dm.fit h).keeps ς (ap h aY).1 (ap h aY).2
 ·by_cases δ:j=i
  ·subst δ;rw[upd_same];exact hv
  ·rw[upd_ne _ _ δ];intro b c t hb;obtain⟨c',I,U,ξ⟩:=ς.cells b c t _ (dm.mx j b c t hb);have off:=(ω.fresh j b _ hb).2.1 (.inl i);have:c'=c:=by
    apply Array.ext_getElem?;intro o;exact ξ o λ⟨v,hv⟩=>off.1 o ⟨_,hv⟩
   rw[I,this]
 ·have off:=λb (hb:ep s o.toSpec b)=>(ω.kC s o b ν hb).2.1 (.inl i)
  have zn:∀b c t,ep s o.toSpec b->w.heap[b]?=some (.cells c t (0,0))->w'.heap[b]?=some (.cells c t (0,0)):=λb c t hb ε=>by
   obtain⟨c',I,U,ξ⟩:=ς.cells b c t _ ε;have:c'=c:=by
    apply Array.ext_getElem?;intro o';exact ξ o' λ⟨v,hv⟩=>(off b hb).1 o' ⟨_,hv⟩
   rw[I,this]
  obtain⟨⟨ty,I⟩,U⟩:=dm.fQ s o ν;exact⟨⟨ty,zn _ _ _ (.inl rfl) I⟩,λm hm=>let ⟨jC,ξ⟩:=U m hm;⟨jC,zn _ _ _ (.inr hm) ξ⟩⟩
 ·have eJ:=dm.keep;refine⟨Nat.le_trans eJ.size ς.size,λb c t dQ hb=>?_,λb x hb γ _=>?_,eJ.os.trans ς.os,ς.output.trans eJ.output,ς.tape.trans eJ.tape⟩
  ·obtain⟨c1,I,U,ξ⟩:=eJ.cells b c t dQ hb;obtain⟨c2,Κ,aE,bd⟩:=ς.cells b c1 t dQ I;refine⟨c2,Κ,by rw[aE,U],λo _=>?_⟩;rw[bd o λγ=>?_,ξ o id];have:=ω.high _ _ _ γ;have:=fE hb;omega
  ·refine ς.nd b x (eJ.nd b x hb γ id) γ λhM=>?_;have:=ω.n1 _ _ hM;have:=fE hb;omega
theorem g7.at {H:cI->χ} {aK:Nat->Nat->Option (Array Value×TypeId)} {O:Nat->Option aP} {bs w:World} (h:g7 H aK O bs w) (d:Nat):g7 H aK O bs (w.at d):=
 ⟨λk=>(h.fit k).at d,h.mx,h.fQ,⟨h.keep.size,h.keep.cells,h.keep.nd,h.keep.os,h.keep.output,h.keep.tape⟩⟩
theorem ie.own {H:cI->χ} {aK:Nat->Nat->Option (Array Value×TypeId)} {O:Nat->Option aP} {hp:Nat} {w:World} {bs:World} (ω:ie H aK O hp) (dm:g7 H aK O bs w) (cl:hp<=w.heap.size) (i:Nat) {G':χ} {V':Nat->Option (Array Value×TypeId)}
  (Ρ:Cm (H (.inl i)) G' w.heap.size) (q2:GA (aK i) V' G' w.heap.size):ie (bO H (.inl i) G') (upd aK i V') O hp:=by
 have L9:∀b o,G'.has b o->w.heap.size<=b\/(H (.inl i)).has b o:=λb o ⟨⟨v,p⟩,h⟩=>(Ρ.aL b o v p h).imp id λ⟨v0,fF,ai,_⟩=>⟨_,ai⟩
 have L':∀b o,G'.owns b o->w.heap.size<=b\/(H (.inl i)).owns b o:=λb o ⟨v,h⟩=>(Ρ.aL b o v true h).imp id λ⟨v0,fF,ai,ψ⟩=>⟨v0,by rw[ai,ψ rfl]⟩
 have vp:∀h b o,(H h).has b o->b<w.heap.size:=λh b o ⟨⟨v,p⟩,γ⟩=>by
  obtain⟨c,t,dQ,hb,_⟩:=qV ((dm.fit h).aL b o v p γ);exact fE hb
 have zo:∀h b,(H h).e9 b->b<w.heap.size:=λh b ⟨x,γ⟩=>fE ((dm.fit h).obj b x γ).1
 have Ma:∀k,k≠.inl i->Apart G' (H k):=λk ς=>by
  have a:=ω.apart _ _ (Ne.symm ς);refine⟨λb o Α γ=>?_,λb o Α γ=>?_,λb Α γ=>?_⟩
  ·rcases L' b o Α with h|h
   ·have:=vp k b o γ;omega
   ·exact a.aL b o h γ
  ·rcases L9 b o γ with h|h
   ·have:=vp k b o (let ⟨v,hv⟩:=Α;⟨_,hv⟩);omega
   ·exact a.qU b o Α h
  ·rcases Ρ.obj b Α with h|h
   ·have:=zo k b γ;omega
   ·exact a.obj b h γ
 have TW:∀{A B:χ},Apart A B->Apart B A:=λh=>⟨h.qU,h.aL,λb hb μ=>h.obj b μ hb⟩
 have GD:∀b,b<w.heap.size->(H (.inl i)).off b->G'.off b:=λb hb h=>⟨λo Α=>(L9 b o Α).elim (λx=>R) (h.1 o),λΑ=>(Ρ.obj b Α).elim (λx=>R) h.2⟩
 have xk:∀j b v,aK j b=some v->b<w.heap.size:=λj b v hv=>fE (dm.mx j b v.1 v.2 hv)
 have GF:∀s o b,O s=some o->ep s o.toSpec b->b<w.heap.size:=λs o b ν hb=>by
  obtain⟨⟨ty,I⟩,U⟩:=dm.fQ s o ν;rcases hb with rfl|hb
  ·exact fE I
  ·obtain⟨jC,ξ⟩:=U b hb;exact fE ξ
 refine⟨λh k ς=>?_,λh b o Α=>?_,λh b Α=>?_,λj b v hv=>?_,λs o b ν hb=>?_,ω.kU,ω.pU,λb hb=>?_⟩
 ·by_cases aY:h=.inl i
  ·subst aY;rw[dC,bP _ _ (Ne.symm ς)];exact Ma k (Ne.symm ς)
  ·by_cases kk:k=.inl i
   ·subst kk;rw[dC,bP _ _ aY];exact TW (Ma h aY)
   ·rw[bP _ _ aY,bP _ _ kk];exact ω.apart h k ς
 ·by_cases aY:h=.inl i
  ·subst aY;rw[dC] at Α;rcases L' b o Α with h|h
   ·omega
   ·exact ω.high _ _ _ h
  ·rw[bP _ _ aY] at Α;exact ω.high _ _ _ Α
 ·by_cases aY:h=.inl i
  ·subst aY;rw[dC] at Α;rcases Ρ.obj b Α with h|h
   ·omega
   ·exact ω.n1 _ _ h
  ·rw[bP _ _ aY] at Α;exact ω.n1 _ _ Α
 ·by_cases δ:j=i
  ·subst δ;rw[upd_same] at hv;rcases q2 b v hv with h|⟨I,U⟩
   ·obtain⟨a1,bk,cz⟩:=ω.fresh j b v h;refine⟨a1,λcU=>?_,λbK bn=>by rw[upd_ne _ _ bn];exact cz bK bn⟩;by_cases aY:cU=.inl j
    ·subst aY;rw[dC];exact GD b (xk j b v h) (bk _)
    ·rw[bP _ _ aY];exact bk _
   ·refine⟨R,λcU=>?_,λbK bn=>?_⟩
    ·by_cases aY:cU=.inl j
     ·subst aY;rw[dC];exact U
     ·rw[bP _ _ aY];exact⟨λo Α=>by have:=vp cU b o Α;omega,λΑ=>by have:=zo cU b Α;omega⟩
    ·rw[upd_ne _ _ bn];cases ε:aK bK b with
     | none=>rfl
     | some fi=>have:=xk bK b fi ε;omega
  ·rw[upd_ne _ _ δ] at hv;obtain⟨a1,bk,cz⟩:=ω.fresh j b v hv;have hb:=xk j b v hv;refine⟨a1,λcU=>?_,λbK bn=>?_⟩
   ·by_cases aY:cU=.inl i
    ·subst aY;rw[dC];exact GD b hb (bk _)
    ·rw[bP _ _ aY];exact bk _
   ·by_cases cU:bK=i
    ·subst cU;rw[upd_same];cases ε:V' b with
     | none=>rfl
     | some fi=>
      rcases q2 b fi ε with h|⟨I,_⟩
      ·rw[cz bK bn] at h;cases h
      ·omega
    ·rw[upd_ne _ _ cU];exact cz bK bn
 ·obtain⟨a1,bk,cz⟩:=ω.kC s o b ν hb;have tG:=GF s o b ν hb;refine⟨a1,λcU=>?_,λbK=>?_⟩
  ·by_cases aY:cU=.inl i
   ·subst aY;rw[dC];exact GD b tG (bk _)
   ·rw[bP _ _ aY];exact bk _
  ·by_cases cU:bK=i
   ·subst cU;rw[upd_same];cases ε:V' b with
    | none=>rfl
    | some fi=>
     rcases q2 b fi ε with h|⟨I,_⟩
     ·rw[cz bK] at h;cases h
     ·omega
   ·rw[upd_ne _ _ cU];exact cz bK
 ·rw[bP _ _ θ];exact ω.ez b hb
def jE (tok:Nat->Nat->Tok) (O:Nat->Option aP) (t:Trace):cI->Nat->Prop
 | .inl i,k=>Knows t i k
 | .inr b,k=>(∃p op,t[p]?=some op/\op.act=.mark (.releaseMerge ⟨b,0,none⟩)/\t.heard p/\Before t k p)\/(∀s o,O s=some o->ep s o.toSpec b->∀i,tok i s≠.nil->Knows t i k)
theorem GG {tok:Nat->Nat->Tok} {O:Nat->Option aP} {t:Trace} (u:Trace) {h:cI} {k:Nat} (ς:jE tok O t h k):jE tok O (t++u) h k:=by
 cases h with
 | inl i=>exact Knows.app u ς
 | inr b=>
  rcases ς with⟨p,op,I,U,ξ,Κ⟩|h
  ·have ψ:=lt_size_of_getElem? I;exact .inl ⟨p,op,by rw[getElem?_append_old ψ];exact I,U,(heard_old ψ).2 ξ,Κ.app u⟩
  ·exact .inr λs o ν hb i hi=>(h s o ν hb i hi).app u
structure iF (H:cI->χ) (aK:Nat->Nat->Option (Array Value×TypeId)) (tok:Nat->Nat->Tok) (O:Nat->Option aP) (bz:Nat->Nat) (deaf:Nat->Nat) (N:Nat) (t:Trace):Prop where
 race:∀said,¬Race said t
 low:∀op∈t,op.act.low N
 norel:∀op∈t,∀a,op.act≠.mark (.release a)
 perms:∀h,dk t (jE tok O t h) (H h)
 oR:∀i b v,aK i b=some v->∀k a,touchAt t k=some a->¬nV a.loc b
 cont:∀s o b,O s=some o->ep s o.toSpec b->∀k a,touchAt t k=some a->nV a.loc b->a.kind=.atomic\/(a.kind=.said/\t.g? k=some (bz s))
 hears:∀i,Deaf t i=deaf i
theorem zp {t:Trace} {N k:Nat} {a:Touch} (h:∀op∈t,op.act.low N) (μ:touchAt t k=some a) {b:Nat} (hb:nV a.loc b):b<N:=by
 obtain⟨op,Α,ig⟩:=touch_of μ;have υ:=h op (mem_of_getElem? Α);obtain⟨g,fn,pos,act⟩:=op;cases act with
 | access e=>
  simp only[MemAct.touch?,Option.some.injEq] at ig;subst ig;obtain⟨loc,wr,oS⟩:=e;cases loc<;>simp only[nV] at hb<;>first|(subst hb;exact υ)|exact hb.elim
 | mark m=>
  cases m<;>simp only[MemAct.touch?,Option.some.injEq,reduceCtorEq] at ig<;>(subst ig;simp only[nV] at hb;subst hb;exact υ)
 | _=>simp[MemAct.touch?] at ig
theorem Cn.GH {G:χ} {n iZ:Nat} {e:Event} (h:Cn e):hl G n iZ e:=by
 rcases h with h|h<;>simp[hl,h]
theorem Cp {G:χ} {n iZ:Nat} {e:Event} (he:hl G n iZ e) {a:Touch} (μ:(MemAct.ofEvent e).touch?=some a) :
  a.loc=e.loc/\a.write=e.write/\(a.loc.isMemory=true->(∃cC,e.loc=.cell cC)\/∃r,e.loc=.obj r):=by
 obtain⟨loc,wr,oS⟩:=e;cases loc with
 | cell cC=>simp[MemAct.ofEvent,MemAct.touch?] at μ;subst μ;simp
 | obj r=>
  simp only[hl] at he;obtain⟨rfl,_⟩:=he;cases wr<;>simp[MemAct.ofEvent,MemAct.touch?] at μ<;>subst μ<;>simp
 | output=>simp[MemAct.ofEvent,MemAct.touch?] at μ;subst μ;simp[Loc.isMemory]
 | goroutines=>exact he.elim
 | mark m=>simp only[hl] at he;subst he;simp[MemAct.ofEvent,MemAct.touch?] at μ
theorem iF.own {H:cI->χ} {aK:Nat->Nat->Option (Array Value×TypeId)} {tok:Nat->Nat->Tok} {O:Nat->Option aP} {bz:Nat->Nat} {deaf:Nat->Nat} {bs w w':World} {hp:Nat} {t:Trace}
  (Ι:iF H aK tok O bz deaf w.heap.size t) (dm:g7 H aK O bs w) (ω:ie H aK O hp) (i:Nat) {G':χ} {V':Nat->Option (Array Value×TypeId)} {es:Array Event} {fn:FuncId} {pos:String}
  (cv:w.heap.size<=w'.heap.size) (Ρ:Cm (H (.inl i)) G' w.heap.size) (q2:GA (aK i) V' G' w.heap.size)
  (ga:∀e∈es,hl (H (.inl i)) w.heap.size w'.heap.size e) (GI:∀b c,V' b=some c->w.heap.size<=b->∀e∈es,¬nV e.loc b) :
  iF (bO H (.inl i) G') (upd aK i V') tok O bz deaf w'.heap.size (t++MemOp.ofEvents i fn pos es):=by
 have hu:∀op∈MemOp.ofEvents i fn pos es,op.g=i:=λop Ξ=>by obtain⟨e,_,rfl⟩:=Go.Conc.mem_ofEvents Ξ;rfl
 have vp:∀h b o,(H h).has b o->b<w.heap.size:=λh b o ⟨⟨v,p⟩,γ⟩=>by
  obtain⟨c,t,dQ,hb,_⟩:=qV ((dm.fit h).aL b o v p γ);exact fE hb
 have zo:∀h b,(H h).e9 b->b<w.heap.size:=λh b ⟨x,γ⟩=>fE ((dm.fit h).obj b x γ).1
 have xk:∀j b v,aK j b=some v->b<w.heap.size:=λj b v hv=>fE (dm.mx j b v.1 v.2 hv)
 have GF:∀s o b,O s=some o->ep s o.toSpec b->b<w.heap.size:=λs o b ν hb=>by
  obtain⟨⟨ty,I⟩,U⟩:=dm.fQ s o ν;rcases hb with rfl|hb
  ·exact fE I
  ·obtain⟨jC,ξ⟩:=U b hb;exact fE ξ
 have GJ:∀e∈es,∀b,b<w.heap.size->(H (.inl i)).off b->¬nV e.loc b:=λe he b hb si fj=>by
  have:=ga e he;obtain⟨loc,wr,oS⟩:=e;cases loc with
  | cell cC=>
   simp only[nV] at fj;subst fj;simp only[hl] at this;rcases this with h|⟨_,h⟩
   ·omega
   ·cases wr
    ·exact si.1 _ h
    ·obtain⟨v,hv⟩:=h;exact si.1 _ ⟨_,hv⟩
  | obj r=>
   simp only[nV] at fj;subst fj;simp only[hl] at this;rcases this.2 with h|h
   ·omega
   ·exact si.2 h
  | _=>exact fj
 refine⟨λsaid=>noRace_append (Ι.race said) hu λk a μ op Ξ b hb ε=>?_,λop Ξ=>?_,λop Ξ=>?_,λh=>?_,λj b v hv k a μ fj=>?_,λs o b ν hb k a μ fj=>?_,λj=>?_⟩
 ·obtain⟨e,he,rfl⟩:=Go.Conc.mem_ofEvents Ξ;obtain⟨I,U,ξ⟩:=Cp (ga e he) hb;obtain⟨c1,c2,c3,_⟩:=ε;have dy:=ga e he;rcases ξ (by rw[<-c1];exact c2) with⟨cC,υ⟩|⟨r,υ⟩
  ·simp only[hl,υ] at dy;have kV:a.loc=.cell cC:=by rw[c1,I,υ]
   rcases dy with h|⟨b2,h⟩
   ·have:=zp Ι.low μ (b:=cC.block) (by rw[kV];rfl);omega
   ·obtain⟨oT,jκ,sp⟩:=cC;simp only at b2;subst b2;by_cases hw:e.write=true
    ·rw[if_pos hw] at h;obtain⟨v,hv⟩:=h;exact(Ι.perms (.inl i)).aL _ _ v true hv k a μ kV (.inl rfl)
    ·rw[if_neg hw] at h;obtain⟨⟨v,p⟩,hv⟩:=h;exact(Ι.perms (.inl i)).aL _ _ v p hv k a μ kV (.inr (c3.resolve_right (by rw[U];exact hw)))
  ·simp only[hl,υ] at dy;have kV:a.loc=.obj r:=by rw[c1,I,υ]
   rcases dy.2 with h|h
   ·have:=zp Ι.low μ (b:=r) (by rw[kV];rfl);omega
   ·exact(Ι.perms (.inl i)).obj r h k a μ kV
 ·rcases Array.mem_append.1 Ξ with h|h
  ·exact MemAct.low_mono cv (Ι.low op h)
  ·obtain⟨e,he,rfl⟩:=Go.Conc.mem_ofEvents h;have dy:=ga e he;obtain⟨loc,wr,oS⟩:=e;cases loc with
   | cell cC=>
    simp only[hl] at dy;show cC.block<_;rcases dy with h|⟨_,h⟩
    ·exact h.2
    ·cases wr
     ·have:=vp _ _ _ h;omega
     ·obtain⟨v,hv⟩:=h;have:=vp (.inl i) _ _ ⟨_,hv⟩;omega
   | obj r=>
    simp only[hl] at dy;obtain⟨rfl,dy⟩:=dy;have κ:r<w'.heap.size:=dy.elim (λh=>h.2) (λh=>by have:=zo _ _ h;omega);cases wr<;>exact κ
   | output=>trivial
   | goroutines=>exact dy.elim
   | mark m=>simp only[hl] at dy;subst dy;trivial
 ·rcases Array.mem_append.1 Ξ with h|h
  ·exact Ι.norel op h
  ·obtain⟨e,he,rfl⟩:=Go.Conc.mem_ofEvents h;intro a h;have dy:=ga e he;obtain⟨loc,wr,oS⟩:=e;cases loc with
   | mark m=>simp only[hl] at dy;subst dy;simp[MemAct.ofEvent] at h
   | obj r=>cases wr<;>cases oS<;>simp[MemAct.ofEvent] at h
   | _=>simp[MemAct.ofEvent] at h
 ·by_cases aY:h=.inl i
  ·subst aY;rw[dC];have Mb:dk (t++MemOp.ofEvents i fn pos es) (Knows (t++MemOp.ofEvents i fn pos es) i) (H (.inl i)):=(Ι.perms (.inl i)).own hu;refine⟨λb o v p ε k a μ υ hw=>?_,λb hb k a μ υ=>?_⟩
   ·rcases Ρ.aL b o v p ε with Η|⟨v0,fF,ai,ψ⟩
    ·rcases nf μ with eo|⟨_,op,Ξ,ς,_⟩
     ·have:=zp Ι.low eo (b:=b) (by rw[υ];rfl);omega
     ·have:=knows_own ς;rwa [hu op Ξ] at this
    ·exact Mb.aL b o v0 fF ai k a μ υ (hw.imp ψ id)
   ·rcases Ρ.obj b hb with Η|ai
    ·rcases nf μ with eo|⟨_,op,Ξ,ς,_⟩
     ·have:=zp Ι.low eo (b:=b) (by rw[υ];rfl);omega
     ·have:=knows_own ς;rwa [hu op Ξ] at this
    ·exact Mb.obj b ai k a μ υ
  ·rw[bP _ _ aY];have ap:=ω.apart _ _ (Ne.symm aY);refine(Ι.perms h).others (λk ς=>GG _ ς) λop Ξ a μ=>?_;obtain⟨e,he,rfl⟩:=Go.Conc.mem_ofEvents Ξ;obtain⟨I,U,_⟩:=Cp (ga e he) μ;have dy:=ga e he;refine⟨λb o v p υ ε=>?_,λb υ hb=>?_⟩
   ·simp only[hl,<-I,υ] at dy;rcases dy with γ|⟨_,γ⟩
    ·have:=vp h b o ⟨_,ε⟩;omega
    ·by_cases hw:e.write=true
     ·rw[if_pos hw] at γ;exact absurd ⟨_,ε⟩ (ap.aL b o γ)
     ·rw[if_neg hw] at γ;refine⟨?_,by rw[U];simpa using hw⟩;cases p with
      | false=>rfl
      | true=>exact absurd γ (ap.qU b o ⟨v,ε⟩)
   ·simp only[hl,<-I,υ] at dy;rcases dy.2 with γ|γ
    ·have:=zo h b hb;omega
    ·exact ap.obj b γ hb
 ·rcases nf μ with eo|⟨_,op,Ξ,_,ig⟩
  ·have hb:=zp Ι.low eo fj;by_cases δ:j=i
   ·subst δ;rw[upd_same] at hv;rcases q2 b v hv with h|h
    ·exact Ι.oR j b v h k a eo fj
    ·omega
   ·rw[upd_ne _ _ δ] at hv;exact Ι.oR j b v hv k a eo fj
  ·obtain⟨e,he,rfl⟩:=Go.Conc.mem_ofEvents Ξ;obtain⟨I,_,_⟩:=Cp (ga e he) ig;rw[I] at fj;by_cases δ:j=i
   ·subst δ;rw[upd_same] at hv;rcases q2 b v hv with h|h
    ·exact GJ e he b (xk j b v h) ((ω.fresh j b v h).2.1 _) fj
    ·exact GI b v hv h.1 e he fj
   ·rw[upd_ne _ _ δ] at hv;exact GJ e he b (xk j b v hv) ((ω.fresh j b v hv).2.1 _) fj
 ·rcases nf μ with eo|⟨_,op,Ξ,_,ig⟩
  ·rcases Ι.cont s o b ν hb k a eo fj with h|⟨h,ς⟩
   ·exact .inl h
   ·obtain⟨op,Α,_⟩:=touch_of eo;exact .inr ⟨h,by rw[g?_old (lt_size_of_getElem? Α)];exact ς⟩
  ·obtain⟨e,he,rfl⟩:=Go.Conc.mem_ofEvents Ξ;obtain⟨I,_,_⟩:=Cp (ga e he) ig;rw[I] at fj;exact absurd fj (GJ e he b (GF s o b ν hb) ((ω.kC s o b ν hb).2.1 _))
 ·by_cases δ:i=j
  ·subst δ;rw[Deaf_own,deafBehind_still (λe he=>?_)]
   ·exact Ι.hears i
   ·have dy:=ga e he;constructor<;>intro υ<;>simp[hl,υ] at dy
  ·rw[Deaf_other t δ _ hu];exact Ι.hears j
def oU:lH->Prop
 | .fin|.uc|.us|.done=>True
 | _=>False
def b5 (tok:Nat->Nat->Tok) (i s:Nat) (t:Tok):Nat->Nat->Tok:=upd tok i (upd (tok i) s t)
theorem fa (tok:Nat->Nat->Tok) (i s:Nat) (t:Tok):b5 tok i s t i s=t:=by simp[b5,upd]
theorem eY {tok:Nat->Nat->Tok} {i s j r:Nat} (t:Tok) (h:¬(j=i/\r=s)):b5 tok i s t j r=tok j r:=by
 unfold b5 upd;by_cases δ:j=i
 ·subst δ;by_cases κ:r=s
  ·exact absurd ⟨rfl,κ⟩ h
  ·simp[κ]
 ·simp[δ]
theorem Mc (tok:Nat->Nat->Tok) (i s:Nat) (t:Tok):(λj=>b5 tok i s t j s)=upd (λj=>tok j s) i t:=by
 funext j
 by_cases δ:j=i
 ·subst δ;rw[fa,upd_same]
 ·rw[eY _ (λh=>δ h.1),upd_ne _ _ δ]
theorem GK (tok:Nat->Nat->Tok) (i s:Nat) (t:Tok) {r:Nat} (κ:r≠s):(λj=>b5 tok i s t j r)=λj=>tok j r:=by
 funext j;rw[eY _ (λh=>κ h.2)]
structure eQ (n:Nat) (tok:Nat->Nat->Tok) (spec:Nat->Nat->Option Spec) (view:Nat->Nat->Option (Nat×aP)) (rel:Nat->Bool) (O:Nat->Option aP) (bz home:Nat->Nat):Prop where
 bg:∀s o,O s=some o->tC n o (λi=>tok i s)
 bare:∀s,O s=none->∀i,tok i s=.nil
 out:∀i s,n<=i->tok i s=.nil
 q3:∀i s sp,spec i s=some sp->∃o,O s=some o/\o.toSpec=sp
 vq:∀i s φ o,view i s=some (φ,o)->∃dz,O s=some dz/\eH n dz (λj=>tok j s)<=φ/\(eH n dz (λj=>tok j s)=φ->dz=o)
 dh:∀i s k L g o,O s=some o->tok i s=.ch k (.dh L) g->o.L=L
 par:∀i s m p aJ,tok i s=.par m p aJ->i=bz s
 oV:∀i s k m g,tok i s=.ch k m g->i≠0/\home i=s/\bz s<i
 sj:∀i,i≠0->i<n->∃k m g,tok i (home i)=.ch k m g
 g8:∀i k m g,i≠0->tok i (home i)=.ch k m g->(rel i=true↔g≠.work)
 tH:rel 0=false
 oW:∀i s,rel i=true->s≠home i->fZ (tok i s)
 oX:∀i s k m g o,O s=some o->tok i s=.ch k m g->g≠.work->m=.done\/(m=.idle/\o.aW=none)
 vr:∀s i j k m g b7 g',tok i s=.ch k m g->tok j s=.ch k b7 g'->i=j
 tI:∀s i k m g q p aJ,tok i s=.ch k m g->tok (bz s) s=.par q p aJ->k+p<q
 fG:∀s o,O s=some o->o.L.Nodup/\∀k,k∈o.L↔∃i m g,tok i s=.ch k m g/\oU m
 gp:∀s o,O s=some o->o.ah.Nodup/\∀k,k∈o.ah↔∃i m g,tok i s=.ch k m g/\g≠.work
def Alike (t t':Tok):Prop:=(∃m p aJ b7 fb GL,t=.par m p aJ/\t'=.par b7 fb GL/\∀k,k+p<m->k+fb<b7)\/(∃k m g b7 g',t=.ch k m g/\t'=.ch k b7 g')
section
variable {n:Nat} {tok:Nat->Nat->Tok} {spec:Nat->Nat->Option Spec} {view:Nat->Nat->Option (Nat×aP)} {rel:Nat->Bool} {O:Nat->Option aP} {bz home:Nat->Nat}
theorem eQ.lt (h:eQ n tok spec view rel O bz home) {i s:Nat} (Ν:tok i s≠.nil):i<n:=Nat.lt_of_not_le λhle=>Ν (h.out i s hle)
theorem eQ.change (h:eQ n tok spec view rel O bz home) {s i:Nat} {o o':aP} {t t':Tok} {Cq:Nat->Bool} {V:Nat->Option (Nat×aP)} (ν:O s=some o) (Ν:tok i s=t) (Cr:Alike t t')
  (Η:tC n o' (upd (λj=>tok j s) i t')) (ψ:eH n o' (upd (λj=>tok j s) i t')<eH n o (λj=>tok j s)) (b2:o'.toSpec=o.toSpec)
  (jF:∀r φ q,V r=some (φ,q)->(r=s/\φ=eH n o' (upd (λj=>tok j s) i t')/\q=o')\/(r≠s/\view i r=some (φ,q)))
  (hq:∀j k L g,b5 tok i s t' j s=.ch k (.dh L) g->o'.L=L)
  (kD:∀j k m g,j≠0->b5 tok i s t' j (home j)=.ch k m g->(Cq j=true↔g≠.work)) (GM:Cq 0=false)
  (TX:∀j r,Cq j=true->r≠home j->fZ (b5 tok i s t' j r))
  (Cs:∀j k m g,b5 tok i s t' j s=.ch k m g->g≠.work->m=.done\/(m=.idle/\o'.aW=none))
  (aG:o'.L.Nodup/\∀k,k∈o'.L↔∃j m g,b5 tok i s t' j s=.ch k m g/\oU m) (bc:o'.ah.Nodup/\∀k,k∈o'.ah↔∃j m g,b5 tok i s t' j s=.ch k m g/\g≠.work) :
  eQ n (b5 tok i s t') spec (upd view i V) Cq (upd O s (some o')) bz home:=by
 have bq:i<n:=h.lt (s:=s) (by rw[Ν];rcases Cr with⟨_,_,_,_,_,_,rfl,_⟩|⟨_,_,_,_,_,rfl,_⟩<;>simp)
 have GN:=Mc tok i s t'
 have sk:∀r,r≠s->(λj=>b5 tok i s t' j r)=λj=>tok j r:=λr κ=>GK tok i s t' κ
 have zq:∀j r,r≠s->b5 tok i s t' j r=tok j r:=λj r κ=>congrFun (sk r κ) j
 have same:∀j,j≠i->∀r,b5 tok i s t' j r=tok j r:=λj δ r=>eY _ λx=>δ x.1
 have Ct:∀j r k m g,b5 tok i s t' j r=.ch k m g->∃dD cV,tok j r=.ch k dD cV:=λj r k m g δ=>by
  by_cases e:j=i/\r=s
  ·obtain⟨rfl,rfl⟩:=e;rw[fa] at δ;rcases Cr with⟨_,_,_,_,_,_,_,U,_⟩|⟨eJ,dD,cV,eZ,Τ,I,U⟩
   ·rw[U] at δ;cases δ
   ·rw[U] at δ;cases δ;exact⟨dD,cV,by rw[Ν,I]⟩
  ·rw[eY _ e] at δ;exact⟨m,g,δ⟩
 have TY:∀j r k m g,tok j r=.ch k m g->∃dD cV,b5 tok i s t' j r=.ch k dD cV:=λj r k m g δ=>by
  by_cases e:j=i/\r=s
  ·obtain⟨rfl,rfl⟩:=e;rw[fa];rw[Ν] at δ;rcases Cr with⟨_,_,_,_,_,_,I,_,_⟩|⟨eJ,dD,cV,eZ,Τ,I,U⟩
   ·rw[I] at δ;cases δ
   ·rw[I] at δ;cases δ;exact⟨eZ,Τ,U⟩
  ·rw[eY _ e];exact⟨m,g,δ⟩
 have Md:∀j r m p aJ,b5 tok i s t' j r=.par m p aJ->∃dD fF zr,tok j r=.par dD fF zr/\∀k,k+fF<dD->k+p<m:=λj r m p aJ δ=>by
  by_cases e:j=i/\r=s
  ·obtain⟨rfl,rfl⟩:=e;rw[fa] at δ;rcases Cr with⟨_,_,_,_,_,_,I,U,ξ⟩|⟨eJ,dD,cV,eZ,Τ,I,U⟩
   ·rw[U] at δ;cases δ;exact⟨_,_,_,by rw[Ν,I],ξ⟩
   ·rw[U] at δ;cases δ
  ·rw[eY _ e] at δ;exact⟨m,p,aJ,δ,λ_ x=>x⟩
 have g9:∀r q,upd O s (some o') r=some q->(r=s/\q=o')\/(r≠s/\O r=some q):=λr q Ψ=>by
  by_cases e:r=s
  ·subst e;rw[upd_same] at Ψ;cases Ψ;exact .inl ⟨rfl,rfl⟩
  ·rw[upd_ne _ _ e] at Ψ;exact .inr ⟨e,Ψ⟩
 refine⟨λr q Ψ=>?_,λr κ j=>?_,λj r δ=>?_,λj r sp δ=>?_,λj r φ q δ=>?_,λj r k L g q Ψ δ=>?_,λj r m p aJ δ=>?_,λj r k m g δ=>?_,λj ai δ=>?_,kD,GM,TX,λj r k m g q Ψ δ Ρ=>?_,λr j bK k m g b7 g' I U=>?_,λr j k m g q p aJ I U=>?_,λr q Ψ=>?_,λr q Ψ=>?_⟩
 ·rcases g9 r q Ψ with⟨rfl,rfl⟩|⟨e,cb⟩
  ·rw[GN];exact Η
  ·rw[sk r e];exact h.bg r q cb
 ·by_cases e:r=s
  ·subst e;rw[upd_same] at κ;cases κ
  ·rw[upd_ne _ _ e] at κ;rw[zq j r e];exact h.bare r κ j
 ·rw[same j R r];exact h.out j r δ
 ·obtain⟨q,I,U⟩:=h.q3 j r sp δ;by_cases e:r=s
  ·subst e;rw[ν] at I;cases I;exact⟨o',upd_same ..,by rw[b2];exact U⟩
  ·exact⟨q,by rw[upd_ne _ _ e];exact I,U⟩
 ·have old:∀φ q,view j r=some (φ,q)->∃dz,upd O s (some o') r=some dz/\eH n dz (λa=>b5 tok i s t' a r)<=φ/\(eH n dz (λa=>b5 tok i s t' a r)=φ->dz=q):=λφ q hv=>by
   obtain⟨dz,I,U,ξ⟩:=h.vq j r φ q hv;by_cases e:r=s
   ·subst e;rw[ν] at I;cases I;rw[upd_same,GN];exact⟨o',rfl,R,λx=>R⟩
   ·rw[upd_ne _ _ e,sk r e];exact⟨dz,I,U,ξ⟩
  by_cases e:j=i
  ·subst e;rw[upd_same] at δ;rcases jF r φ q δ with⟨rfl,rfl,rfl⟩|⟨κ,hv⟩
   ·rw[upd_same,GN];exact⟨_,rfl,Nat.le_refl _,λ_=>rfl⟩
   ·exact old φ q hv
  ·rw[upd_ne _ _ e] at δ;exact old φ q δ
 ·rcases g9 r q Ψ with⟨rfl,rfl⟩|⟨e,cb⟩
  ·exact hq j k L g δ
  ·rw[zq j r e] at δ;exact h.dh j r k L g q cb δ
 ·obtain⟨dD,fF,zr,I,_⟩:=Md j r m p aJ δ;exact h.par j r dD fF zr I
 ·obtain⟨dD,cV,I⟩:=Ct j r k m g δ;exact h.oV j r k dD cV I
 ·obtain⟨k,m,g,I⟩:=h.sj j ai δ;obtain⟨eZ,Τ,U⟩:=TY j _ k m g I;exact⟨k,eZ,Τ,U⟩
 ·rcases g9 r q Ψ with⟨rfl,rfl⟩|⟨e,cb⟩
  ·exact Cs j k m g δ Ρ
  ·rw[zq j r e] at δ;exact h.oX j r k m g q cb δ Ρ
 ·obtain⟨a,b,ξ⟩:=Ct j r k m g I;obtain⟨cn,Ω,Κ⟩:=Ct bK r k b7 g' U;exact h.vr r j bK k a b cn Ω ξ Κ
 ·obtain⟨a,b,ξ⟩:=Ct j r k m g I;obtain⟨dD,fF,zr,Κ,aE⟩:=Md _ r q p aJ U;exact aE k (h.tI r j k a b dD fF zr ξ Κ)
 ·rcases g9 r q Ψ with⟨rfl,rfl⟩|⟨e,cb⟩
  ·exact aG
  ·simp only[λj=>zq j r e];exact h.fG r q cb
 ·rcases g9 r q Ψ with⟨rfl,rfl⟩|⟨e,cb⟩
  ·exact bc
  ·simp only[λj=>zq j r e];exact h.gp r q cb
theorem TZ {o o':aP} {t t':Tok} (h:Act o t o' t'):Alike t t':=by
 cases h
 case add=>exact .inl ⟨_,_,_,_,_,_,rfl,rfl,λk ς=>R⟩
 case thru|LQ|wake=>exact .inl ⟨_,_,_,_,_,_,rfl,rfl,λk ς=>ς⟩
 all_goals exact .inr ⟨_,_,_,_,_,rfl,rfl⟩
theorem Me {o o':aP} {t t':Tok} (h:Act o t o' t'):o'.toSpec=o.toSpec/\o'.L=o.L/\o'.ah=o.ah:=by
 cases h<;>exact⟨rfl,rfl,rfl⟩
theorem Mf {o o':aP} {t t':Tok} (h:Act o t o' t'):(∀k m g,t'=.ch k m g->∃dD cV,t=.ch k dD cV/\(oU m↔oU dD)/\(g=.work↔cV=.work)/\(cV≠.work->m=dD)/\∀L,m=.dh L->dD=.dh L)/\(∀k m g,t=.ch k m g->∃eZ Τ,t'=.ch k eZ Τ/\(oU eZ↔oU m)/\(Τ=.work↔g=.work))/\¬fZ t:=by
 refine⟨λk m g e=>?_,λk m g e=>?_,?_⟩
 ·cases h<;>cases e<;>exact⟨_,_,rfl,by simp[oU],θ,θ,θ⟩
 ·cases h<;>cases e<;>exact⟨_,_,rfl,by simp[oU],θ⟩
 ·cases h<;>simp[fZ]
theorem eQ.act (h:eQ n tok spec view rel O bz home) {s i:Nat} {o o':aP} {t t':Tok} (ν:O s=some o) (Ν:tok i s=t) (μ:Act o t o' t') :
  eQ n (b5 tok i s t') spec (upd view i (upd (view i) s (some (eH n o' (upd (λj=>tok j s) i t'),o')))) rel (upd O s (some o')) bz home:=by
 obtain⟨hw,vu,Mg⟩:=Mf μ;have bq:i<n:=h.lt (s:=s) (by rw[Ν];rintro rfl;exact Mg trivial);obtain⟨xl,Cu,GO⟩:=Me μ;have zs:∀j r k m g,b5 tok i s t' j r=.ch k m g->∃dD cV,tok j r=.ch k dD cV/\(oU m↔oU dD)/\(g=.work↔cV=.work)/\(cV≠.work->m=dD)/\∀L,m=.dh L->dD=.dh L:=λj r k m g δ=>by
  by_cases e:j=i/\r=s
  ·obtain⟨rfl,rfl⟩:=e;rw[fa] at δ;obtain⟨dD,cV,Δ,Γ⟩:=hw k m g δ;exact⟨dD,cV,by rw[Ν,Δ],Γ⟩
  ·rw[eY _ e] at δ;exact⟨m,g,δ,.rfl,.rfl,λ_=>rfl,λ_ x=>x⟩
 have is:∀j k m g,tok j s=.ch k m g->∃eZ Τ,b5 tok i s t' j s=.ch k eZ Τ/\(oU eZ↔oU m)/\(Τ=.work↔g=.work):=λj k m g δ=>by
  by_cases e:j=i/\s=s
  ·obtain⟨rfl,_⟩:=e;rw[fa];rw[Ν] at δ;exact vu k m g δ
  ·rw[eY _ e];exact⟨m,g,δ,.rfl,.rfl⟩
 refine h.change ν Ν (TZ μ) (⟨Tz (h.bg s o ν).1 bq Ν μ,TD (h.bg s o ν).2 bq Ν μ⟩) (LS bq Ν μ) xl (λr φ q hv=>?_) (λj k L g δ=>?_) (λj k m g ai δ=>?_) h.tH (λj r δ κ=>?_) (λj k m g δ Ρ=>?_) ?_ ?_
 ·by_cases e:r=s
  ·subst e;rw[upd_same] at hv;cases hv;exact .inl ⟨rfl,rfl,rfl⟩
  ·rw[upd_ne _ _ e] at hv;exact .inr ⟨e,hv⟩
 ·obtain⟨dD,cV,Δ,_,_,_,Γ⟩:=zs j s k _ g δ;rw[Cu];exact h.dh j s k L cV o ν (by rw[Δ,Γ L rfl])
 ·obtain⟨dD,cV,Δ,_,Γ,_⟩:=zs j _ k m g δ;rw[h.g8 j k dD cV ai Δ];exact not_congr Γ.symm
 ·by_cases e:j=i/\r=s
  ·obtain⟨rfl,rfl⟩:=e;have:=h.oW j r δ κ;rw[Ν] at this;exact absurd this Mg
  ·rw[eY _ e];exact h.oW j r δ κ
 ·obtain⟨dD,cV,Δ,_,Γ,a0,_⟩:=zs j s k m g δ;have zt:cV≠.work:=λx=>Ρ (Γ.2 x);rw[a0 zt];have:=h.oX j s k dD cV o ν Δ zt;rw[show o'.aW=o.aW by rw[xl]];exact this
 ·obtain⟨a,b⟩:=h.fG s o ν;rw[Cu];refine⟨a,λk=>(b k).trans ⟨λ⟨j,m,g,Δ,Γ⟩=>?_,λ⟨j,m,g,Δ,Γ⟩=>?_⟩⟩
  ·obtain⟨eZ,Τ,a0,cG,_⟩:=is j k m g Δ;exact⟨j,eZ,Τ,a0,cG.2 Γ⟩
  ·obtain⟨dD,cV,a0,cG,_⟩:=zs j s k m g Δ;exact⟨j,dD,cV,a0,cG.1 Γ⟩
 ·obtain⟨a,b⟩:=h.gp s o ν;rw[GO];refine⟨a,λk=>(b k).trans ⟨λ⟨j,m,g,Δ,Γ⟩=>?_,λ⟨j,m,g,Δ,Γ⟩=>?_⟩⟩
  ·obtain⟨eZ,Τ,a0,_,cG⟩:=is j k m g Δ;exact⟨j,eZ,Τ,a0,λx=>Γ (cG.1 x)⟩
  ·obtain⟨dD,cV,a0,_,cG,_⟩:=zs j s k m g Δ;exact⟨j,dD,cV,a0,λx=>Γ (cG.2 x)⟩
theorem eQ.look (h:eQ n tok spec view rel O bz home) {s i:Nat} {o:aP} (ν:O s=some o):eQ n tok spec (upd view i (upd (view i) s (some (eH n o (λj=>tok j s),o)))) rel O bz home:=
 have key:∀j r φ q,upd view i (upd (view i) s (some (eH n o (λj=>tok j s),o))) j r=some (φ,q)->∃dz,O r=some dz/\eH n dz (λj=>tok j r)<=φ/\(eH n dz (λj=>tok j r)=φ->dz=q):=λj r φ q δ=>by
  by_cases e:j=i
  ·subst e;rw[upd_same] at δ;by_cases aM:r=s
   ·subst aM;rw[upd_same] at δ;cases δ;exact⟨o,ν,Nat.le_refl _,λ_=>rfl⟩
   ·rw[upd_ne _ _ aM] at δ;exact h.vq j r φ q δ
  ·rw[upd_ne _ _ e] at δ;exact h.vq j r φ q δ
 {h with vq:=key}
theorem Cv {s i:Nat} {r φ:Nat} {q:aP} {o':aP} {z:Nat} (hv:upd (view i) s none r=some (φ,q)):(r=s/\φ=z/\q=o')\/(r≠s/\view i r=some (φ,q)):=by
 by_cases e:r=s
 ·subst e;rw[upd_same] at hv;cases hv
 ·rw[upd_ne _ _ e] at hv;exact .inr ⟨e,hv⟩
theorem T0 {l:List Nat} {k:Nat} (h:l.Nodup) (ς:k∉l):(l++[k]).Nodup:=by
 rw[List.nodup_append];exact⟨h,θ,λa μ b hb=>by simp at hb;subst hb;rintro rfl;exact ς μ⟩
theorem eQ.Gs (h:eQ n tok spec view rel O bz home) {s i k:Nat} {o:aP} (ν:O s=some o) (Ν:tok i s=.ch k .own .work) :
  eQ n (b5 tok i s (.ch k (.dh o.L) .work)) spec (upd view i (upd (view i) s none)) rel (upd O s (some o)) bz home:=by
 have bq:i<n:=h.lt (s:=s) (by rw[Ν];simp)
 have hw:pQ o (.ch k .own .work) o (.ch k (.dh o.L) .work):=.Gs
 have ha:∀j,j≠i->∀r,b5 tok i s (.ch k (.dh o.L) .work) j r=tok j r:=λj δ r=>eY _ λx=>δ x.1
 have ε:=h.oV i s k _ _ Ν;refine h.change ν Ν (.inr ⟨_,_,_,_,_,rfl,rfl⟩) ⟨Ch (h.bg s o ν).1 bq Ν hw,Ci (h.bg s o ν).2 bq Ν hw⟩ (Cg bq Ν hw) rfl (λr φ q hv=>Cv hv) (λj ae L g δ=>?_) (λj ae m g ai δ=>?_) h.tH (λj r δ κ=>?_) (λj ae m g δ Ρ=>?_) ?_ ?_
 ·by_cases e:j=i
  ·subst e;rw[fa] at δ;cases δ;rfl
  ·rw[ha j e] at δ;exact h.dh j s ae L g o ν δ
 ·by_cases e:j=i
  ·subst e;have aM:home j=s:=ε.2.1;rw[aM,fa] at δ;cases δ;exact h.g8 j k .own .work ai (by rw[aM];exact Ν)
  ·rw[ha j e] at δ;exact h.g8 j ae m g ai δ
 ·by_cases e:j=i
  ·subst e;have aM:home j=s:=ε.2.1;rw[eY _ (λx=>κ (by rw[x.2,aM]))];exact h.oW j r δ κ
  ·rw[ha j e];exact h.oW j r δ κ
 ·by_cases e:j=i
  ·subst e;rw[fa] at δ;cases δ;exact absurd rfl Ρ
  ·rw[ha j e] at δ;exact h.oX j s ae m g o ν δ Ρ
 ·obtain⟨a,b⟩:=h.fG s o ν;refine⟨a,λae=>(b ae).trans ⟨λ⟨j,m,g,Δ,Γ⟩=>?_,λ⟨j,m,g,Δ,Γ⟩=>?_⟩⟩
  ·by_cases e:j=i
   ·subst e;rw[Ν] at Δ;cases Δ;exact Γ.elim
   ·exact⟨j,m,g,by rw[ha j e];exact Δ,Γ⟩
  ·by_cases e:j=i
   ·subst e;rw[fa] at Δ;cases Δ;exact Γ.elim
   ·exact⟨j,m,g,by rw[ha j e] at Δ;exact Δ,Γ⟩
 ·obtain⟨a,b⟩:=h.gp s o ν;refine⟨a,λae=>(b ae).trans ⟨λ⟨j,m,g,Δ,Γ⟩=>?_,λ⟨j,m,g,Δ,Γ⟩=>?_⟩⟩
  ·by_cases e:j=i
   ·subst e;rw[Ν] at Δ;cases Δ;exact absurd rfl Γ
   ·exact⟨j,m,g,by rw[ha j e];exact Δ,Γ⟩
  ·by_cases e:j=i
   ·subst e;rw[fa] at Δ;cases Δ;exact absurd rfl Γ
   ·exact⟨j,m,g,by rw[ha j e] at Δ;exact Δ,Γ⟩
theorem eQ.T1 (h:eQ n tok spec view rel O bz home) {s i k:Nat} {L:List Nat} {o:aP} (ν:O s=some o) (Ν:tok i s=.ch k (.dh L) .work) :
  eQ n (b5 tok i s (.ch k .fin .work)) spec (upd view i (upd (view i) s none)) rel (upd O s (some {o with L:=o.L++[k]})) bz home:=by
 have bq:i<n:=h.lt (s:=s) (by rw[Ν];simp)
 have hw:pQ o (.ch k (.dh L) .work) {o with L:=o.L++[k]} (.ch k .fin .work):=.Tx
 have ha:∀j,j≠i->∀r,b5 tok i s (.ch k .fin .work) j r=tok j r:=λj δ r=>eY _ λx=>δ x.1
 have ε:=h.oV i s k _ _ Ν
 have only:∀j ae kE g,tok j s=.ch ae (.dh kE) g->j=i:=λj ae kE g δ=>by
  apply Classical.byContradiction;intro bA;have e0:j<n:=h.lt (s:=s) (by rw[δ];simp);have Δ:=gA (λa=>tok a s) .nil ia bq;have Γ:=fv (upd (λa=>tok a s) i .nil) ia e0;rw[upd_ne _ _ bA] at Γ;simp only[Ν,δ,ia,za] at Δ Γ;have:=(h.bg s o ν).1.LN;have:=(h.bg s o ν).1.f1;omega
 have Mh:k∉o.L:=λς=>by
  obtain⟨j,m,g,Δ,Γ⟩:=((h.fG s o ν).2 k).1 ς;have:=h.vr s j i k m g _ _ Δ Ν;subst this;rw[Ν] at Δ;cases Δ;exact Γ
 refine h.change ν Ν (.inr ⟨_,_,_,_,_,rfl,rfl⟩) ⟨Ch (h.bg s o ν).1 bq Ν hw,Ci (h.bg s o ν).2 bq Ν hw⟩ (Cg bq Ν hw) rfl (λr φ q hv=>Cv hv) (λj ae kE g δ=>?_) (λj ae m g ai δ=>?_) h.tH (λj r δ κ=>?_) (λj ae m g δ Ρ=>?_) ?_ ?_
 ·by_cases e:j=i
  ·subst e;rw[fa] at δ;cases δ
  ·rw[ha j e] at δ;exact absurd (only j ae kE g δ) e
 ·by_cases e:j=i
  ·subst e;have aM:home j=s:=ε.2.1;rw[aM,fa] at δ;cases δ;exact h.g8 j k (.dh L) .work ai (by rw[aM];exact Ν)
  ·rw[ha j e] at δ;exact h.g8 j ae m g ai δ
 ·by_cases e:j=i
  ·subst e;have aM:home j=s:=ε.2.1;rw[eY _ (λx=>κ (by rw[x.2,aM]))];exact h.oW j r δ κ
  ·rw[ha j e];exact h.oW j r δ κ
 ·by_cases e:j=i
  ·subst e;rw[fa] at δ;cases δ;exact absurd rfl Ρ
  ·rw[ha j e] at δ;exact h.oX j s ae m g o ν δ Ρ
 ·obtain⟨a,b⟩:=h.fG s o ν;refine⟨T0 a Mh,λae=>?_⟩;rw[List.mem_append,List.mem_singleton];constructor
  ·rintro(ς|rfl)
   ·obtain⟨j,m,g,Δ,Γ⟩:=(b ae).1 ς;have e:j≠i:=by rintro rfl;rw[Ν] at Δ;cases Δ;exact Γ
    exact⟨j,m,g,by rw[ha j e];exact Δ,Γ⟩
   ·exact⟨i,.fin,.work,fa ..,trivial⟩
  ·rintro⟨j,m,g,Δ,Γ⟩;by_cases e:j=i
   ·subst e;rw[fa] at Δ;cases Δ;exact .inr rfl
   ·rw[ha j e] at Δ;exact .inl ((b ae).2 ⟨j,m,g,Δ,Γ⟩)
 ·obtain⟨a,b⟩:=h.gp s o ν;refine⟨a,λae=>(b ae).trans ⟨λ⟨j,m,g,Δ,Γ⟩=>?_,λ⟨j,m,g,Δ,Γ⟩=>?_⟩⟩
  ·by_cases e:j=i
   ·subst e;rw[Ν] at Δ;cases Δ;exact absurd rfl Γ
   ·exact⟨j,m,g,by rw[ha j e];exact Δ,Γ⟩
  ·by_cases e:j=i
   ·subst e;rw[fa] at Δ;cases Δ;exact absurd rfl Γ
   ·exact⟨j,m,g,by rw[ha j e] at Δ;exact Δ,Γ⟩
theorem eQ.T2 (h:eQ n tok spec view rel O bz home) {s i k:Nat} {mu:lH} {o:aP} (ν:O s=some o) (Ν:tok i s=.ch k mu .work) (tJ:mu=.done\/(mu=.idle/\o.aW=none)) (cN:∀r,r≠s->fZ (tok i r)) :
  eQ n (b5 tok i s (.ch k mu .rel)) spec (upd view i (upd (view i) s none)) (upd rel i true) (upd O s (some {o with ah:=k::o.ah})) bz home:=by
 have bq:i<n:=h.lt (s:=s) (by rw[Ν];simp)
 have hw:pQ o (.ch k mu .work) {o with ah:=k::o.ah} (.ch k mu .rel):=.Ty tJ
 have ha:∀j,j≠i->∀r,b5 tok i s (.ch k mu .rel) j r=tok j r:=λj δ r=>eY _ λx=>δ x.1
 have ε:=h.oV i s k _ _ Ν
 have T3:k∉o.ah:=λς=>by
  obtain⟨j,m,g,Δ,Γ⟩:=((h.gp s o ν).2 k).1 ς;have:=h.vr s j i k m g _ _ Δ Ν;subst this;rw[Ν] at Δ;cases Δ;exact Γ rfl
 refine h.change ν Ν (.inr ⟨_,_,_,_,_,rfl,rfl⟩) ⟨Ch (h.bg s o ν).1 bq Ν hw,Ci (h.bg s o ν).2 bq Ν hw⟩ (Cg bq Ν hw) rfl (λr φ q hv=>Cv hv) (λj ae kE g δ=>?_) (λj ae m g ai δ=>?_) (by rw[upd_ne _ _ (Ne.symm ε.1)];exact h.tH) (λj r δ κ=>?_) (λj ae m g δ Ρ=>?_) ?_ ?_
 ·by_cases e:j=i
  ·subst e;rw[fa] at δ;rcases tJ with rfl|⟨rfl,_⟩<;>cases δ
  ·rw[ha j e] at δ;exact h.dh j s ae kE g o ν δ
 ·by_cases e:j=i
  ·subst e;have aM:home j=s:=ε.2.1;rw[aM,fa] at δ;cases δ;rw[upd_same];simp
  ·rw[ha j e] at δ;rw[upd_ne _ _ e];exact h.g8 j ae m g ai δ
 ·by_cases e:j=i
  ·subst e;have aM:home j=s:=ε.2.1;have ih:r≠s:=λx=>κ (by rw[x,aM]);rw[eY _ (λx=>ih x.2)];exact cN r ih
  ·rw[ha j e];rw[upd_ne _ _ e] at δ;exact h.oW j r δ κ
 ·by_cases e:j=i
  ·subst e;rw[fa] at δ;cases δ;exact tJ
  ·rw[ha j e] at δ;exact h.oX j s ae m g o ν δ Ρ
 ·obtain⟨a,b⟩:=h.fG s o ν;refine⟨a,λae=>(b ae).trans ⟨λ⟨j,m,g,Δ,Γ⟩=>?_,λ⟨j,m,g,Δ,Γ⟩=>?_⟩⟩
  ·by_cases e:j=i
   ·subst e;rw[Ν] at Δ;cases Δ;exact⟨j,mu,.rel,fa ..,Γ⟩
   ·exact⟨j,m,g,by rw[ha j e];exact Δ,Γ⟩
  ·by_cases e:j=i
   ·subst e;rw[fa] at Δ;cases Δ;exact⟨j,mu,.work,Ν,Γ⟩
   ·exact⟨j,m,g,by rw[ha j e] at Δ;exact Δ,Γ⟩
 ·obtain⟨a,b⟩:=h.gp s o ν;refine⟨List.nodup_cons.2 ⟨T3,a⟩,λae=>?_⟩;rw[List.mem_cons];constructor
  ·rintro(rfl|ς)
   ·exact⟨i,mu,.rel,fa ..,θ⟩
   ·obtain⟨j,m,g,Δ,Γ⟩:=(b ae).1 ς;have e:j≠i:=by rintro rfl;rw[Ν] at Δ;cases Δ;exact Γ rfl
    exact⟨j,m,g,by rw[ha j e];exact Δ,Γ⟩
  ·rintro⟨j,m,g,Δ,Γ⟩;by_cases e:j=i
   ·subst e;rw[fa] at Δ;cases Δ;exact .inl rfl
   ·rw[ha j e] at Δ;exact .inr ((b ae).2 ⟨j,m,g,Δ,Γ⟩)
theorem eQ.gtake (h:eQ n tok spec view rel O bz home) {s i q:Nat} {aJ:sf} {o:aP} (ν:O s=some o) (Ν:tok i s=.par q 0 aJ) (my:aJ=.mm\/aJ=.w4) :
  eQ n (b5 tok i s (.par q 0 .bB)) spec (upd view i (upd (view i) s none)) rel (upd O s (some o)) bz home:=by
 have bq:i<n:=h.lt (s:=s) (by rw[Ν];simp)
 have hw:pQ o (.par q 0 aJ) o (.par q 0 .bB):=.gtake my
 have ha:∀j,j≠i->∀r,b5 tok i s (.par q 0 .bB) j r=tok j r:=λj δ r=>eY _ λx=>δ x.1
 have cs:∀j r k m g,b5 tok i s (.par q 0 .bB) j r=.ch k m g↔tok j r=.ch k m g:=λj r k m g=>by
  by_cases e:j=i/\r=s
  ·obtain⟨rfl,rfl⟩:=e;rw[fa,Ν];simp
  ·rw[eY _ e]
 refine h.change ν Ν (.inl ⟨_,_,_,_,_,_,rfl,rfl,λk ς=>ς⟩) ⟨Ch (h.bg s o ν).1 bq Ν hw,Ci (h.bg s o ν).2 bq Ν hw⟩ (Cg bq Ν hw) rfl (λr φ q hv=>Cv hv) (λj ae kE g δ=>?_) (λj ae m g ai δ=>?_) h.tH (λj r δ κ=>?_) (λj ae m g δ Ρ=>?_) ?_ ?_
 ·rw[cs] at δ;exact h.dh j s ae kE g o ν δ
 ·rw[cs] at δ;exact h.g8 j ae m g ai δ
 ·by_cases e:j=i/\r=s
  ·obtain⟨rfl,rfl⟩:=e;rw[fa];trivial
  ·rw[eY _ e];exact h.oW j r δ κ
 ·rw[cs] at δ;exact h.oX j s ae m g o ν δ Ρ
 ·simp only[cs];exact h.fG s o ν
 ·simp only[cs];exact h.gp s o ν
end
end Go.TL
