import Derived.Test.YtlabjopijpkiaaaGreatDAA
import Derived.Test.YtlabjopijpkiaaaGreatDAB
set_option maxHeartbeats 16000000
set_option maxRecDepth 20000
set_option linter.unusedSectionVars false
set_option linter.unusedSimpArgs false
set_option linter.unusedVariables false
namespace Go.TL
open Go.Conc
open Go.ConcN (sumTo upd sumTo_upd upd_ne upd_same sumTo_congr le_sumTo)
section
variable {N i:Nat} {o o':aN} {τ:Nat->Tok} {t t':Tok}
theorem Kc (o':aN) (Α:o'.top=o.top) (hi:i<N) (Ν:τ i=t) (h:lZ o.top t'+9*o'.cZ+2*o'.cB<lZ o.top t+9*o.cZ+2*o.cB):eJ N o' (upd τ i t')<eJ N o τ:=by
 have e:=gr τ t' (lZ o.top) hi;rw[Ν] at e;unfold eJ;rw[Α];omega
theorem Kd (hi:i<N) (Ν:τ i=t) (κ:Act o t o' t'):eJ N o' (upd τ i t')<eJ N o τ:=by
 cases κ<;>refine Kc _ rfl hi Ν ?_
 case acq aw _ _=>cases aw<;>simp[lZ,uv]
 case queue aw _ _ _=>cases aw<;>simp[lZ,uv]
 case take=>simp[lZ,uv];omega
 case add=>simp[lZ];omega
 case wake=>simp[lZ,wu];omega
 all_goals (simp[lZ,uv,Bg,wu]<;>omega)
theorem Bl (hi:i<N) (Ν:τ i=t) (κ:pk o t o' t'):eJ N o' (upd τ i t')<eJ N o τ:=by
 cases κ<;>refine Kc _ rfl hi Ν ?_
 case gtake aF ς=>rcases ς with rfl|rfl<;>simp[lZ,wu]
 all_goals (simp[lZ,uv,Bg,wu]<;>omega)
theorem E8 {φ:Tok->Nat} (hi:i<N) (h:φ t'=φ (τ i)):a8 N (upd τ i t') φ=a8 N τ φ:=by
 have:=gr τ t' φ hi;omega
theorem Bm (h:pj N o τ) (hi:i<N) (Ν:τ i=t) (κ:pk o t o' t'):pj N o' (upd τ i t'):=by
 unfold pj at h ⊢;cases κ<;>
 (repeat rw[E8 hi (by rw[Ν];rfl)])<;>exact h
theorem Bn (h:oe N o τ) (hi:i<N) (Ν:τ i=t) (κ:pk o t o' t'):oe N o' (upd τ i t'):=by
 unfold oe at h ⊢;cases κ
 case gtake aF ς=>rcases ς with rfl|rfl<;>(repeat rw[E8 hi (by rw[Ν];rfl)])<;>exact h
 all_goals (repeat rw[E8 hi (by rw[Ν];rfl)])<;>exact h
theorem uB (N:Nat) (τ:Nat->Tok) (φ:Tok->Nat):a8 (N+1) τ φ=a8 N τ φ+φ (τ N):=rfl
theorem Ke {φ:Tok->Nat} (ez:φ .nil=0) (h:τ N=.nil):a8 (N+1) τ φ=a8 N τ φ:=by rw[uB,h,ez];rfl
theorem Kf (h:sV N o τ) (Ε:τ N=.nil):sV (N+1) o τ:=by
 unfold sV pj oe at h ⊢
 repeat rw[Ke (by rfl) Ε]
 exact h
theorem Kg (Ε:τ N=.nil):eJ (N+1) o τ=eJ N o τ:=by
 unfold eJ;rw[Ke (by rfl) Ε]
theorem Q5 {j n p:Nat} (h:sV N o τ) (hi:i<N) (δ:j<N) (fZ:i≠j) (Ν:τ i=.par n (p+1) .add) (Ε:τ j=.nil) (k:Nat) :
  sV N o (upd (upd τ i (.par n p .add)) j (.ch k .idle .work)):=by
 have bk:upd τ i (.par n p .add) j=.nil:=by rw[upd_ne _ _ (Ne.symm fZ)];exact Ε
 have key:∀φ:Tok->Nat,a8 N (upd (upd τ i (.par n p .add)) j (.ch k .idle .work)) φ+φ .nil+φ (.par n (p+1) .add)=a8 N τ φ+φ (.par n p .add)+φ (.ch k .idle .work):=λφ=>by
  have Γ:=gr τ (.par n p .add) φ hi
  have Θ:=gr (upd τ i (.par n p .add)) (.ch k .idle .work) φ δ;rw[Ν] at Γ;rw[bk] at Θ;omega
 obtain⟨cd,dn⟩:=h;constructor
 ·unfold pj at cd ⊢;have f1:=key h5;have f2:=key nm;have f3:=key lX;have f4:=key lj;have f5:=key mS;have f6:=key lk;have f7:=key qy;have f8:=key nn;have f9:=key qx;simp only[h5,nm,lX,lj,mS,lk,qy,nn,qx,yr,Bd,uo,ys,Be,yt,E0,Bf,EZ,Nat.add_zero] at f1 f2 f3 f4 f5 f6 f7 f8 f9;rw[f1,f2,f3,f4,f5,f6,f7,f8,f9];exact cd
 ·unfold oe at dn ⊢;have f1:=key iM;have f2:=key jX;have f3:=key jY;have f4:=key ll;have f5:=key eT;have f6:=key hf;have f7:=key h6;have f8:=key lY;have f9:=key ln;have f10:=key h7;simp only[iM,jX,jY,ll,eT,hf,h6,lY,ln,h7,rG,uq,uu,Nat.add_zero] at f1 f2 f3 f4 f5 f6 f7 f8 f9 f10;obtain⟨fY,sX,yw,yx,E7,Q1,Q2,Q3,Q4⟩:=dn;constructor<;>omega
theorem Q6 {j n p:Nat} (hi:i<N) (δ:j<N) (fZ:i≠j) (Ν:τ i=.par n (p+1) .add) (Ε:τ j=.nil) (k:Nat) :
  eJ N o (upd (upd τ i (.par n p .add)) j (.ch k .idle .work))<eJ N o τ:=by
 have bk:upd τ i (.par n p .add) j=.nil:=by rw[upd_ne _ _ (Ne.symm fZ)];exact Ε
 have Γ:=gr τ (.par n p .add) (lZ o.top) hi
 have Θ:=gr (upd τ i (.par n p .add)) (.ch k .idle .work) (lZ o.top) δ;rw[Ν] at Γ;rw[bk] at Θ;simp only[lZ,uv,Bg,wu] at Γ Θ;unfold eJ;omega
theorem Bo {φ:Tok->Nat} (h:0<a8 N τ φ):∃i,i<N/\0<φ (τ i):=by
 have lp:∀n,0<a8 n τ φ->∃i,i<n/\0<φ (τ i):=λn=>by
  induction n with
  | zero=>intro h;cases h
  | succ n ω=>
   intro h;rw[uB] at h;by_cases ao:0<φ (τ n)
   ·exact⟨n,γ,ao⟩
   ·obtain⟨i,hi,ς⟩:=ω γ;exact⟨i,γ,ς⟩
 exact lp N h
def oj:Tok->Prop
 | .ch _ .own _|.ch _ (.dj _) _|.ch _ .fin _|.ch _ .us _|.ch _ .wk _|.ch _ .hw _|.ch _ (.act true) _|.ch _ .uc _=>True
 | _=>False
theorem Q7 (h:pj N o τ) (Χ:0<a8 N τ lj) (ao:o.cZ=0):∃i,i<N/\oj (τ i):=by
 have pick:∀{φ:Tok->Nat},(∀t,0<φ t->oj t)->0<a8 N τ φ->∃i,i<N/\oj (τ i):=λez ς=>let ⟨i,hi,U⟩:=Bo ς;⟨i,hi,ez _ U⟩
 have Q8:∀t,0<h5 t->oj t:=λt Ν=>by cases t<;>simp_all [h5,oj];rename_i m _;cases m<;>simp_all [yr]
 have Bp:∀t,0<nm t->oj t:=λt Ν=>by cases t<;>simp_all [nm,oj];rename_i m _;cases m<;>simp_all [Bd]
 have Q9:∀t,0<lX t->oj t:=λt Ν=>by cases t<;>simp_all [lX,oj];rename_i m _;cases m<;>simp_all [uo];rename_i b;cases b<;>simp_all [uo]
 have Q':∀t,0<nn t->oj t:=λt Ν=>by cases t<;>simp_all [nn,oj];rename_i m _;cases m<;>simp_all [Bf]
 obtain⟨f1,f2,f3,hA,l3,uA,sX,yw,yx⟩:=h;by_cases c1:0<a8 N τ h5
 ·exact pick Q8 c1
 by_cases c2:0<a8 N τ nm
 ·exact pick Bp c2
 by_cases c3:0<a8 N τ lX
 ·exact pick Q9 c3
 by_cases c4:0<a8 N τ nn
 ·exact pick Q' c4
 exfalso;rcases(show o.sv=0\/o.sv=1 by omega) with μ|μ
 ·have:=l3 μ;have:=sX μ;omega
 ·have:=uA μ;omega
def qB:Tok->Prop
 | .ch _ _ .work|.ch _ _ .rel|.ch _ _ .l2|.ch _ _ .hz=>True
 | _=>False
theorem Ra (h:oe N o τ) {n p:Nat} (hi:i<N) (Ν:τ i=.par n p .w3) (ao:o.cB=0):∃j,j<N/\qB (τ j):=by
 have pick:∀{φ:Tok->Nat},(∀t,0<φ t->qB t)->0<a8 N τ φ->∃i,i<N/\qB (τ i):=λez ς=>let ⟨i,hi,U⟩:=Bo ς;⟨i,hi,ez _ U⟩
 have bK:∀t,0<iM t->qB t:=λt Ν=>by cases t<;>simp_all [iM,qB];rename_i m;cases m<;>simp_all [rG]
 have da:∀t,0<jX t->qB t:=λt Ν=>by cases t<;>simp_all [jX,qB];rename_i m;cases m<;>simp_all [uq]
 have fP:∀t,0<jY t->qB t:=λt Ν=>by cases t<;>simp_all [jY,qB];rename_i m;cases m<;>simp_all [uu]
 have w:=pn (φ:=ln) (λt Ν=>by cases t<;>simp_all [eT,ln]) h.np hi (by rw[Ν];rfl);rw[Ν] at w;have:=h.QF w;have:=h.E1;by_cases c1:0<a8 N τ iM
 ·exact pick bK c1
 by_cases c2:0<a8 N τ jX
 ·exact pick da c2
 by_cases c3:0<a8 N τ jY
 ·exact pick fP c3
 exfalso;omega
end
end Go.TL
namespace Go.TL
open Go.Conc
open Go.ConcM (OsLater)
open Go.ConcN (sumTo upd sumTo_upd upd_ne upd_same sumTo_congr le_sumTo)
open Go.ConcR (mk)
inductive ga (B:Type):Type where
 | leaf
 | node (f:B->ga B)
inductive mT {B:Type}:List (ga B)->List (ga B)->Prop where
 | one (a b:List (ga B)) (f:B->ga B) (k:B):mT (a++f k::b) (a++ga.node f::b)
 | two (a b:List (ga B)) (f:B->ga B) (k af:B):mT (a++f k::f af::b) (a++ga.node f::b)
theorem mT.cons_inv {B:Type} {l:List (ga B)} {t:ga B} {m:List (ga B)} (h:mT m (t::l)) :
  (∃b1,mT b1 l/\m=t::b1)\/(∃f k,t=.node f/\m=f k::l)\/(∃f k af,t=.node f/\m=f k::f af::l):=by
 generalize U:t::l=x at h;cases h with
 | one a b f k=>
  cases a with
  | nil=>simp at U;exact .inr (.inl ⟨f,k,U.1,by rw[U.2];rfl⟩)
  | cons y a=>simp at U;exact .inl ⟨a++f k::b,by rw[U.2];exact .one a b f k,by rw[U.1];rfl⟩
 | two a b f k af=>
  cases a with
  | nil=>simp at U;exact .inr (.inr ⟨f,k,af,U.1,by rw[U.2];rfl⟩)
  | cons y a=>simp at U;exact .inl ⟨a++f k::f af::b,by rw[U.2];exact .two a b f k af,by rw[U.1];rfl⟩
theorem mT.Rb {B:Type} (t:ga B):∀l,Acc mT l->Acc mT (t::l):=by
 induction t with
 | leaf=>
  intro l υ
  induction υ with
  | intro l _ ω=>
   refine⟨_,λm hm=>?_⟩;rcases hm.cons_inv with⟨b1,I,rfl⟩|⟨f,k,h,_⟩|⟨f,k,af,h,_⟩
   ·exact ω b1 I
   ·cases h
   ·cases h
 | node f E9=>
  intro l υ
  induction υ with
  | intro l Kh ω=>
   refine⟨_,λm hm=>?_⟩;rcases hm.cons_inv with⟨b1,I,rfl⟩|⟨f',k,h,rfl⟩|⟨f',k,af,h,rfl⟩
   ·exact ω b1 I
   ·cases h;exact E9 k l ⟨l,Kh⟩
   ·cases h;exact E9 k _ (E9 af l ⟨l,Kh⟩)
theorem mT.wf {B:Type}:WellFounded (mT (B:=B)):=⟨λl=>by
 induction l with
 | nil=>exact⟨_,λm hm=>by
   generalize U:([]:List (ga B))=x at hm;cases hm<;>simp at U⟩
 | cons t l ω=>exact mT.Rb t l ω⟩
structure aW where
 G:π
 aG:Nat->Option (Array Value×TypeId)
 tok:Nat->Tok
 spec:Nat->Option Spec
 view:Nat->Option (Nat×aN)
 deaf:Nat
 rel:Bool
def yy (V:Nat->Option (Array Value×TypeId)) (w:World):Prop:=∀b c t,V b=some (c,t)->w.heap[b]?=some (.cells c t (0,0))
def cJ (o:aN):Int:=(o.cnt:Int)*4294967296+o.wt
def mwd (o:aN):Int:=(o.cb:Int)+2*o.wk+4*o.sv+8*o.nw
def At (s:Nat) (o:aN) (w:World):Prop:=
 (∃ty,w.heap[s]?=some (.cells #[.int .u64 (cJ o),.int .u32 o.cB] ty (0,0)))/\∀m,o.aU=some m->∃ty,w.heap[m]?=some (.cells #[.int .i32 (mwd o),.int .u32 o.cZ] ty (0,0))
def ep (s:Nat) (sp:Spec) (b:Nat):Prop:=b=s\/sp.aU=some b
def uC (o:aN) (t:Tok):Prop:=∃N τ i,sV N o τ/\i<N/\τ i=t/\(∀k L g,t=.ch k (.dj L) g->o.L=L)
def Fa (x:aW) (s φ:Nat) (o:aN):Prop:=∀gG lr,x.view s=some (gG,lr)->φ<=gG/\(φ=gG->o=lr)
structure Sub (G' G:π):Prop where
 aJ:∀b o v p,G'.aJ b o=some (v,p)->∃eQ,G.aJ b o=some (v,eQ)/\(p=true->eQ=true)
 row:∀b x,G'.row b=some x->G.row b=some x
 obj:∀b x,G'.obj b=some x->G.obj b=some x
structure Split (G mU mV:π):Prop where
 l:Sub mU G
 r:Sub mV G
 apart:Apart mU mV
def join (G H:π):π:=
 ⟨λb o=>match G.aJ b o with|some x=>some x|none=>H.aJ b o,λb=>match G.row b with|some x=>some x|none=>H.row b,λb=>match G.obj b with|some x=>some x|none=>H.obj b⟩
def lu (D:Nat->π->Prop):List Nat->π->Prop
 | [],E=>E=π.empty
 | k::Ki,E=>∃yz yA,D k yz/\lu D Ki yA/\Apart yz yA/\E=join yz yA
structure Bq (G G':π) (n:Nat):Prop where
 aJ:∀b o v p,G'.aJ b o=some (v,p)->n<=b\/∃v0 eQ,G.aJ b o=some (v0,eQ)/\(p=true->eQ=true)
 obj:∀b,G'.e7 b->n<=b\/G.e7 b
def Fb (V:Nat->Option (Array Value×TypeId)) (V':Nat->Option (Array Value×TypeId)) (G':π) (n:Nat):Prop:=
 ∀b c,V' b=some c->V b=some c\/(n<=b/\G'.off b)
def Br (e:Event):Prop:=e.loc=.output\/e.loc=.mark .noRoom
def om (s:Nat) (sp:Spec) (d:Nat) (es:Array Event):Prop:=
 deafBehind d es=d/\∀j e,es[j]?=some e->(e.loc=.mark .disable\/e.loc=.mark .enable\/(∃b off wr,e=⟨.cell ⟨b,off,none⟩,wr,true⟩/\ep s sp b/\0<deafBehind d (es.extract 0 j)))
def jZ (o:aN):Tok->Prop
 | .ch _ .q _=>o.cZ=0
 | .par _ _ .w3=>o.cB=0
 | _=>False
def mW:Tok->Prop
 | .nil=>True
 | .par _ _ .add|.par _ _ .cq=>True
 | .ch _ .idle _|.ch _ .done _=>True
 | _=>False
def fQ:Tok->Prop
 | .nil=>True
 | .par _ _ .cq=>True
 | _=>False
def Gone:Tok->Prop
 | .nil=>True
 | .par _ _ .cq=>True
 | .ch _ _ .gone=>True
 | _=>False
abbrev yB:=Bool->Goroutine->aW->Prop
def ir (g:Goroutine):Prop:=g.status=.running/\g.offers=none
section
variable (P:Program) (mn:Bool) (aj:yB) (g:Goroutine) (x:aW)
def Kj:Prop:=∀w,Fits x.G w->yy x.aG w->(stepG P mn g w).goes λg' w' es=>∃G' V',ir g'/\fv x.G.owns x.G.e7 w w'/\Fits G' w'/\yy V' w'/\
 Bq x.G G' w.heap.size/\Fb x.aG V' G' w.heap.size/\(∀e∈es,if x.rel then Br e else hc x.G w.heap.size w'.heap.size e)/\(∀b c,V' b=some c->w.heap.size<=b->∀e∈es,¬nk e.loc b)/\aj mn g' {x with G:=G',aG:=V'}
def Kk:Prop:=∃g',ir g'/\((∀w,Fits x.G w->stepG P mn g w=.go g' w #[mk .disable]/\aj mn g' {x with deaf:=x.deaf+1})\/
 (0<x.deaf/\∀w,Fits x.G w->stepG P mn g w=.go g' w #[mk .enable]/\aj mn g' {x with deaf:=x.deaf-1}))
def Kl:Prop:=∃(s n p:Nat) (aF:rF) (g':Goroutine) (off:Nat) (wr:Bool),x.tok s=.par n p aF/\aF≠.cq/\x.rel=false/\ir g'/\∀w,Fits x.G w->stepG P mn g w=.go g' w #[mk (if wr then .write ⟨s,off,none⟩ else .read ⟨s,off,none⟩)]/\aj mn g' x
def Atom:Prop:=∃s sp,x.spec s=some sp/\¬fQ (x.tok s)/\∀w φ o,Fits x.G w->yy x.aG w->o.toSpec=sp->At s o w->Fa x s φ o->uC o (x.tok s)->
 ((stepG P mn g w).goes λg' w' es=>ir g'/\fv (λb _=>ep s sp b) (λ_=>False) w w'/\om s sp x.deaf es/\
   ((At s o w'/\aj mn g' {x with view:=upd x.view s (some (φ,o))})\/
    ∃o' t',Act o (x.tok s) o' t'/\At s o' w'/\(mayWake P g=true\/o'=o)/\∀cl,cl<φ->aj mn g' {x with tok:=upd x.tok s t',view:=upd x.view s (some (cl,o'))}))\/
 (jZ o (x.tok s)/\(∀bq,bq≠s->mW (x.tok bq))/\stepG P mn g w=.go {g with status:=.blocked} w #[])
def Km:Prop:=∃s sp m k g',x.spec s=some sp/\sp.aU=some m/\x.tok s=.ch k .own .work/\x.deaf=0/\ir g'/\x.rel=false/\
 (∀w,Fits x.G w->stepG P mn g w=.go g' w #[mk (.acquire ⟨m,0,none⟩)])/\
 ∀L E,sp.bb L E->Apart x.G E->(L.Nodup/\k∉L/\∃w,Fits x.G w/\Fits E w)->aj mn g' {x with G:=join x.G E,tok:=upd x.tok s (.ch k (.dj L) .work),view:=upd x.view s none}
def Kn:Prop:=∃s sp m k L g' G' E,x.spec s=some sp/\sp.aU=some m/\x.tok s=.ch k (.dj L) .work/\x.deaf=0/\ir g'/\x.rel=false/\
 (∀w,Fits x.G w->stepG P mn g w=.go g' w #[mk (.releaseMerge ⟨m,0,none⟩)])/\
 Split x.G G' E/\sp.bb (L++[k]) E/\aj mn g' {x with G:=G',tok:=upd x.tok s (.ch k .fin .work),view:=upd x.view s none}
def Ko:Prop:=∃s sp k mu g' E,x.spec s=some sp/\x.tok s=.ch k mu .work/\(mu=.done\/(mu=.idle/\sp.aU=none))/\(∀bq,bq≠s->fQ (x.tok bq))/\x.deaf=0/\ir g'/\x.rel=false/\
 (∀w,Fits x.G w->stepG P mn g w=.go g' w #[mk (.releaseMerge ⟨s,0,none⟩)])/\
 Sub E x.G/\sp.D k E/\aj mn g' {x with G:=π.empty,aG:=λ_=>none,tok:=upd x.tok s (.ch k mu .rel),view:=upd x.view s none,rel:=true}
def Kp:Prop:=∃s sp n aF g',x.spec s=some sp/\x.tok s=.par n 0 aF/\(aF=.lW\/aF=.w4)/\x.deaf=0/\ir g'/\x.rel=false/\
 (∀w,Fits x.G w->stepG P mn g w=.go g' w #[mk (.acquire ⟨s,0,none⟩)])/\
 ∀gb fx gH eK,gb.Perm (List.range n)->lu sp.D gb gH->(sp.aU≠none->fx.Perm (List.range n)/\sp.bb fx eK)->(sp.aU=none->eK=π.empty)->Apart x.G gH->Apart x.G eK->Apart gH eK->(∃w,Fits x.G w/\Fits gH w/\Fits eK w)->
  aj mn g' {x with G:=join (join x.G gH) eK,tok:=upd x.tok s (.par n 0 .cq),view:=upd x.view s none}
def Kq:Prop:=∃s sp n p g' c mU mV,x.spec s=some sp/\x.tok s=.par n (p+1) .add/\x.deaf=0/\ir g'/\ir c/\x.rel=false/\
 (∀w,Fits x.G w->stepG P mn g w=.spawn g' c w #[])/\Split x.G mU mV/\
 aj mn g' {x with G:=mU,tok:=upd x.tok s (.par n p .add),view:=upd x.view s none}/\
 aj false c ⟨mV,λ_=>none,upd (λ_=>.nil) s (.ch (n-(p+1)) .idle .work),upd (λ_=>none) s (some sp),λ_=>none,0,false⟩
def Fc:Prop:=
 (∃G',Sub G' x.G/\aj mn g {x with G:=G'})\/
 (∃b c t,x.aG b=some (c,t)/\aj mn g {x with aG:=upd x.aG b none,G:=⟨λΨ o=>if Ψ=b then(c[o]?).map (·,true) else x.G.aJ Ψ o,λΨ=>if Ψ=b then some (t,c.size) else x.G.row Ψ,x.G.obj⟩})\/
 (∃s sp ty G' E,x.aG s=some (#[.int .u64 0,.int .u32 0],ty)/\(∀m,sp.aU=some m->m≠s/\∃jv,x.aG m=some (#[.int .i32 0,.int .u32 0],jv))/\x.rel=false/\
  Split x.G G' E/\(sp.aU≠none->sp.bb [] E)/\
  aj mn g {x with G:=G',aG:=λb=>if b=s\/sp.aU=some b then none else x.aG b,tok:=upd x.tok s (.par 0 0 .add),spec:=upd x.spec s (some sp),view:=upd x.view s none})
def Kr:Prop:=mn=false/\g.status=.running/\x.rel=true/\(∀s,Gone (x.tok s))/\∃g' es,(∀e∈es,Event.mute e=true)/\(∀w,stepG P false g w=.go g' w es)/\aj mn g' {x with deaf:=deafBehind x.deaf es}
def yC:Prop:=Kr P mn aj g x\/ir g/\(Kj P mn aj g x\/Kk P mn aj g x\/Kl P mn aj g x\/Atom P mn aj g x\/Km P mn aj g x\/Kn P mn aj g x\/Ko P mn aj g x\/Kp P mn aj g x\/Kq P mn aj g x\/Fc mn aj g x)
def Ks (Q:Value->Prop):Prop:=ir g/\(∀s,fQ (x.tok s))/\x.deaf=0/\∀w,Fits x.G w->∃v es,stepG P true g w=.ended (.done v) w es/\(∀e∈es,hc x.G w.heap.size w.heap.size e)/\Q v
def Rc:Prop:=x.rel=true/\(∀s,Gone (x.tok s))/\g.status=.finished/\x.deaf=0
def Bs (Q:Value->Prop):Prop:=(mn=true/\Ks P g x Q)\/(mn=false/\Rc g x)
def yD:Prop:=x.rel=true->(∀s,Gone (x.tok s))->∃n,QuitsD P n x.deaf g
end
open Classical in
def jw (P:Program) (Q:Value->Prop):ga (Bool×Goroutine×aW)->yB
 | .leaf=>λmn g x=>yD P g x/\Bs P mn g x Q
 | .node f=>λmn g x=>yD P g x/\(Bs P mn g x Q\/yC P mn (λuD g' de=>jw P Q (f (uD,g',de)) uD g' de) g x)
def Goes (P:Program) (Q:Value->Prop):yB:=λmn g x=>∃T,jw P Q T mn g x
theorem yC.mono {P:Program} {mn:Bool} {aj Kt:yB} {g:Goroutine} {x:aW} (bm:∀mn g x,aj mn g x->Kt mn g x) (h:yC P mn aj g x):yC P mn Kt g x:=by
 rcases h with⟨Γ,Θ,bO,Re,g',es,eU,lq,qA⟩|⟨ι,h⟩
 ·exact .inl ⟨Γ,Θ,bO,Re,g',es,eU,lq,bm _ _ _ qA⟩
 refine .inr ⟨ι,?_⟩;rcases h with h|h|h|h|h|h|h|h|h|h
 ·refine .inl λw Υ hv=>?_;have:=h w Υ hv;revert this;cases stepG P mn g w<;>simp only[GStep.goes,imp_self];rintro⟨G',V',I,R,ν,Ι,aB,bn,gO,Fe,nq⟩;exact⟨G',V',I,R,ν,Ι,aB,bn,gO,Fe,bm _ _ _ nq⟩
 ·obtain⟨g',I,R⟩:=h;exact .inr (.inl ⟨g',I,R.elim (λh=>.inl λw Υ=>⟨(h w Υ).1,bm _ _ _ (h w Υ).2⟩) (λh=>.inr ⟨h.1,λw Υ=>⟨(h.2 w Υ).1,bm _ _ _ (h.2 w Υ).2⟩⟩)⟩)
 ·obtain⟨s,n,p,aF,g',off,wr,I,R,hg,ν,Ι⟩:=h;exact .inr (.inr (.inl ⟨s,n,p,aF,g',off,wr,I,R,hg,ν,λw Υ=>⟨(Ι w Υ).1,bm _ _ _ (Ι w Υ).2⟩⟩))
 ·obtain⟨s,sp,I,hg,ν⟩:=h;refine .inr (.inr (.inr (.inl ⟨s,sp,I,hg,λw φ o Υ hv μ κ sY ς=>?_⟩)));refine(ν w φ o Υ hv μ κ sY ς).imp (λh=>?_) id;revert h;cases stepG P mn g w<;>simp only[GStep.goes,imp_self];rintro⟨I,R,ν,Ι⟩;exact⟨I,R,ν,Ι.imp (λh=>⟨h.1,bm _ _ _ h.2⟩) λ⟨o',t',a1,a2,ck,fY⟩=>⟨o',t',a1,a2,ck,λcl ez=>bm _ _ _ (fY cl ez)⟩⟩
 ·obtain⟨s,sp,m,k,g',I,R,ν,Ι,aB,sZ,bn,gO⟩:=h;exact .inr (.inr (.inr (.inr (.inl ⟨s,sp,m,k,g',I,R,ν,Ι,aB,sZ,bn,λL E a b c=>bm _ _ _ (gO L E a b c)⟩))))
 ·obtain⟨s,sp,m,k,L,g',G',E,I,R,ν,Ι,aB,sZ,bn,gO,nq,s0⟩:=h;exact .inr (.inr (.inr (.inr (.inr (.inl ⟨s,sp,m,k,L,g',G',E,I,R,ν,Ι,aB,sZ,bn,gO,nq,bm _ _ _ s0⟩)))))
 ·obtain⟨s,sp,k,mu,g',E,I,R,ν,Ι,aB,bn,Rf,gO,nq,s0,Rg⟩:=h;exact .inr (.inr (.inr (.inr (.inr (.inr (.inl ⟨s,sp,k,mu,g',E,I,R,ν,Ι,aB,bn,Rf,gO,nq,s0,bm _ _ _ Rg⟩))))))
 ·obtain⟨s,sp,n,aF,g',I,R,ν,Ι,aB,sZ,bn,gO⟩:=h;exact .inr (.inr (.inr (.inr (.inr (.inr (.inr (.inl ⟨s,sp,n,aF,g',I,R,ν,Ι,aB,sZ,bn,λgb fx gH eK a b c d e f g i=>bm _ _ _ (gO gb fx gH eK a b c d e f g i)⟩)))))))
 ·obtain⟨s,sp,n,p,g',c,mU,mV,I,R,ν,Ι,aB,sZ,bn,gO,nq,s0⟩:=h;exact .inr (.inr (.inr (.inr (.inr (.inr (.inr (.inr (.inl ⟨s,sp,n,p,g',c,mU,mV,I,R,ν,Ι,aB,sZ,bn,gO,bm _ _ _ nq,bm _ _ _ s0⟩))))))))
 ·refine .inr (.inr (.inr (.inr (.inr (.inr (.inr (.inr (.inr ?_))))))));rcases h with⟨G',I,R⟩|⟨b,c,t,I,R⟩|⟨s,sp,ty,G',E,I,R,ν,Ι,aB,gO⟩
  ·exact .inl ⟨G',I,bm _ _ _ R⟩
  ·exact .inr (.inl ⟨b,c,t,I,bm _ _ _ R⟩)
  ·exact .inr (.inr ⟨s,sp,ty,G',E,I,R,ν,Ι,aB,bm _ _ _ gO⟩)
theorem Goes.stop {P:Program} {Q:Value->Prop} {mn:Bool} {g:Goroutine} {x:aW} (Α:yD P g x) (h:Bs P mn g x Q):Goes P Q mn g x:=⟨.leaf,Α,h⟩
open Classical in
theorem Goes.step {P:Program} {Q:Value->Prop} {mn:Bool} {g:Goroutine} {x:aW} (Α:yD P g x) (h:yC P mn (Goes P Q) g x):Goes P Q mn g x:=by
 refine⟨.node λk=>if ψ:∃T,jw P Q T k.1 k.2.1 k.2.2 then Classical.choose ψ else .leaf,Α,.inr (h.mono λuD g' de Ο=>?_)⟩;have ψ:∃T,jw P Q T uD g' de:=Ο;simp only[ψ,dif_pos];exact Classical.choose_spec ψ
theorem Goes.quits {P:Program} {Q:Value->Prop} (n:Nat):∀{g:Goroutine} {x:aW},x.rel=true->(∀s,Gone (x.tok s))->QuitsD P n x.deaf g->Goes P Q false g x:=by
 induction n with
 | zero=>
  intro g x ι Ο Χ;exact .stop (λ_ _=>⟨0,Χ⟩) (.inr ⟨rfl,ι,Ο,Χ.1,Χ.2⟩)
 | succ n ω=>
  intro g x ι Ο Χ;rcases Χ with Χ|⟨μ,g',es,I,R,ν⟩
  ·exact .stop (λ_ _=>⟨0,Χ⟩) (.inr ⟨rfl,ι,Ο,Χ.1,Χ.2⟩)
  ·exact .step (λ_ _=>⟨n+1,.inr ⟨μ,g',es,I,R,ν⟩⟩) (.inl ⟨rfl,μ,ι,Ο,g',es,I,R,ω (x:={x with deaf:=deafBehind x.deaf es}) ι Ο ν⟩)
abbrev cy:=Nat ⊕ Nat
def bL (H:cy->π) (h:cy) (G:π):cy->π:=λk=>if k=h then G else H k
@[simp] theorem dC (H:cy->π) (h:cy) (G:π):bL H h G h=G:=by simp[bL]
theorem bM (H:cy->π) {h k:cy} (G:π) (ψ:k≠h):bL H h G k=H k:=by simp[bL,ψ]
structure c0 where
 H:cy->π
 aG:Nat->Nat->Option (Array Value×TypeId)
 tok:Nat->Nat->Tok
 spec:Nat->Nat->Option Spec
 view:Nat->Nat->Option (Nat×aN)
 deaf:Nat->Nat
 rel:Nat->Bool
 T:Nat->ga (Bool×Goroutine×aW)
 O:Nat->Option aN
 bx:Nat->Nat
 home:Nat->Nat
 dw:Nat->Nat
def c0.x (c:c0) (i:Nat):aW:=⟨c.H (.inl i),c.aG i,c.tok i,c.spec i,c.view i,c.deaf i,c.rel i⟩
structure gX (H:cy->π) (aG:Nat->Nat->Option (Array Value×TypeId)) (O:Nat->Option aN) (bl w:World):Prop where
 fit:∀h,Fits (H h) w
 l4:∀i,yy (aG i) w
 fH:∀s o,O s=some o->At s o w
 keep:fv (λ_ _=>False) (λ_=>False) bl w
structure h8 (H:cy->π) (aG:Nat->Nat->Option (Array Value×TypeId)) (O:Nat->Option aN) (hh:Nat):Prop where
 apart:∀h k,h≠k->Apart (H h) (H k)
 high:∀h b o,(H h).owns b o->hh<=b
 ns:∀h b,(H h).e7 b->hh<=b
 fresh:∀i b v,aG i b=some v->hh<=b/\(∀h,(H h).off b)/\∀j,j≠i->aG j b=none
 kr:∀s o b,O s=some o->ep s o.toSpec b->hh<=b/\(∀h,(H h).off b)/\∀j,aG j b=none
 kE:∀s bq o o' b,O s=some o->O bq=some o'->ep s o.toSpec b->ep bq o'.toSpec b->s=bq
 po:∀s o m,O s=some o->o.aU=some m->m≠s
 eA:∀b,(∀s o,O s=some o->¬ep s o.toSpec b)->H (.inr b)=π.empty
theorem gX.own {H:cy->π} {aG:Nat->Nat->Option (Array Value×TypeId)} {O:Nat->Option aN} {bl w w':World} {hh:Nat} (cd:gX H aG O bl w) (χ:h8 H aG O hh) (i:Nat) {G':π} {V':Nat->Option (Array Value×TypeId)}
  (ψ:fv (H (.inl i)).owns (H (.inl i)).e7 w w') (Υ:Fits G' w') (hv:yy V' w') (ao:bl.heap.size=hh):gX (bL H (.inl i) G') (upd aG i V') O bl w':=by
 have ap:∀h,h≠.inl i->(∀b o,(H (.inl i)).owns b o->¬(H h).has b o)/\∀b,(H (.inl i)).e7 b->¬(H h).e7 b:=λh aX=>⟨(χ.apart _ _ (Ne.symm aX)).aJ,(χ.apart _ _ (Ne.symm aX)).obj⟩;refine⟨λh=>?_,λj=>?_,λs o μ=>?_,?_⟩
 ·by_cases aX:h=.inl i
  ·subst aX;rw[dC];exact Υ
  ·rw[bM _ _ aX];exact(cd.fit h).keeps ψ (ap h aX).1 (ap h aX).2
 ·by_cases δ:j=i
  ·subst δ;rw[upd_same];exact hv
  ·rw[upd_ne _ _ δ];intro b c t hb;obtain⟨c',I,R,ν⟩:=ψ.cells b c t _ (cd.l4 j b c t hb);have off:=(χ.fresh j b _ hb).2.1 (.inl i);have:c'=c:=by
    apply Array.ext_getElem?;intro o;exact ν o λ⟨v,hv⟩=>off.1 o ⟨_,hv⟩
   rw[I,this]
 ·have off:=λb (hb:ep s o.toSpec b)=>(χ.kr s o b μ hb).2.1 (.inl i)
  have yE:∀b c t,ep s o.toSpec b->w.heap[b]?=some (.cells c t (0,0))->w'.heap[b]?=some (.cells c t (0,0)):=λb c t hb ε=>by
   obtain⟨c',I,R,ν⟩:=ψ.cells b c t _ ε;have:c'=c:=by
    apply Array.ext_getElem?;intro o';exact ν o' λ⟨v,hv⟩=>(off b hb).1 o' ⟨_,hv⟩
   rw[I,this]
  obtain⟨⟨ty,I⟩,R⟩:=cd.fH s o μ;exact⟨⟨ty,yE _ _ _ (.inl rfl) I⟩,λm hm=>let ⟨jv,ν⟩:=R m hm;⟨jv,yE _ _ _ (.inr hm) ν⟩⟩
 ·have h9:=cd.keep;refine⟨Nat.le_trans h9.size ψ.size,λb c t dV hb=>?_,λb x hb U _=>?_,h9.os.trans ψ.os,ψ.output.trans h9.output,ψ.tape.trans h9.tape⟩
  ·obtain⟨c1,I,R,ν⟩:=h9.cells b c t dV hb;obtain⟨c2,Ι,aB,bn⟩:=ψ.cells b c1 t dV I;refine⟨c2,Ι,by rw[aB,R],λo _=>?_⟩;rw[bn o λU=>?_,ν o id];have:=χ.high _ _ _ U;have:=fw hb;omega
  ·refine ψ.mQ b x (h9.mQ b x hb U id) U λhy=>?_;have:=χ.ns _ _ hy;have:=fw hb;omega
theorem gX.at {H:cy->π} {aG:Nat->Nat->Option (Array Value×TypeId)} {O:Nat->Option aN} {bl w:World} (h:gX H aG O bl w) (d:Nat):gX H aG O bl (w.at d):=
 ⟨λk=>(h.fit k).at d,h.l4,h.fH,⟨h.keep.size,h.keep.cells,h.keep.mQ,h.keep.os,h.keep.output,h.keep.tape⟩⟩
theorem h8.own {H:cy->π} {aG:Nat->Nat->Option (Array Value×TypeId)} {O:Nat->Option aN} {hh:Nat} {w:World} {bl:World} (χ:h8 H aG O hh) (cd:gX H aG O bl w) (c5:hh<=w.heap.size) (i:Nat) {G':π} {V':Nat->Option (Array Value×TypeId)}
  (Ο:Bq (H (.inl i)) G' w.heap.size) (qC:Fb (aG i) V' G' w.heap.size):h8 (bL H (.inl i) G') (upd aG i V') O hh:=by
 have Ku:∀b o,G'.has b o->w.heap.size<=b\/(H (.inl i)).has b o:=λb o ⟨⟨v,p⟩,h⟩=>(Ο.aJ b o v p h).imp id λ⟨v0,eQ,ao,_⟩=>⟨_,ao⟩
 have Kv:∀b o,G'.owns b o->w.heap.size<=b\/(H (.inl i)).owns b o:=λb o ⟨v,h⟩=>(Ο.aJ b o v true h).imp id λ⟨v0,eQ,ao,ς⟩=>⟨v0,by rw[ao,ς rfl]⟩
 have uE:∀h b o,(H h).has b o->b<w.heap.size:=λh b o ⟨⟨v,p⟩,U⟩=>by
  obtain⟨c,t,dV,hb,_⟩:=qw ((cd.fit h).aJ b o v p U);exact fw hb
 have yF:∀h b,(H h).e7 b->b<w.heap.size:=λh b ⟨x,U⟩=>fw ((cd.fit h).obj b x U).1
 have Kw:∀k,k≠.inl i->Apart G' (H k):=λk ψ=>by
  have a:=χ.apart _ _ (Ne.symm ψ);refine⟨λb o Α U=>?_,λb o Α U=>?_,λb Α U=>?_⟩
  ·rcases Kv b o Α with h|h
   ·have:=uE k b o U;omega
   ·exact a.aJ b o h U
  ·rcases Ku b o U with h|h
   ·have:=uE k b o (let ⟨v,hv⟩:=Α;⟨_,hv⟩);omega
   ·exact a.qv b o Α h
  ·rcases Ο.obj b Α with h|h
   ·have:=yF k b U;omega
   ·exact a.obj b h U
 have Rh:∀{A B:π},Apart A B->Apart B A:=λh=>⟨h.qv,h.aJ,λb hb κ=>h.obj b κ hb⟩
 have Ff:∀b,b<w.heap.size->(H (.inl i)).off b->G'.off b:=λb hb h=>⟨λo Α=>(Ku b o Α).elim (λx=>γ) (h.1 o),λΑ=>(Ο.obj b Α).elim (λx=>γ) h.2⟩
 have wv:∀j b v,aG j b=some v->b<w.heap.size:=λj b v hv=>fw (cd.l4 j b v.1 v.2 hv)
 have Fg:∀s o b,O s=some o->ep s o.toSpec b->b<w.heap.size:=λs o b μ hb=>by
  obtain⟨⟨ty,I⟩,R⟩:=cd.fH s o μ;rcases hb with rfl|hb
  ·exact fw I
  ·obtain⟨jv,ν⟩:=R b hb;exact fw ν
 refine⟨λh k ψ=>?_,λh b o Α=>?_,λh b Α=>?_,λj b v hv=>?_,λs o b μ hb=>?_,χ.kE,χ.po,λb hb=>?_⟩
 ·by_cases aX:h=.inl i
  ·subst aX;rw[dC,bM _ _ (Ne.symm ψ)];exact Kw k (Ne.symm ψ)
  ·by_cases kk:k=.inl i
   ·subst kk;rw[dC,bM _ _ aX];exact Rh (Kw h aX)
   ·rw[bM _ _ aX,bM _ _ kk];exact χ.apart h k ψ
 ·by_cases aX:h=.inl i
  ·subst aX;rw[dC] at Α;rcases Kv b o Α with h|h
   ·omega
   ·exact χ.high _ _ _ h
  ·rw[bM _ _ aX] at Α;exact χ.high _ _ _ Α
 ·by_cases aX:h=.inl i
  ·subst aX;rw[dC] at Α;rcases Ο.obj b Α with h|h
   ·omega
   ·exact χ.ns _ _ h
  ·rw[bM _ _ aX] at Α;exact χ.ns _ _ Α
 ·by_cases δ:j=i
  ·subst δ;rw[upd_same] at hv;rcases qC b v hv with h|⟨I,R⟩
   ·obtain⟨a1,a2,ck⟩:=χ.fresh j b v h;refine⟨a1,λc9=>?_,λbI bk=>by rw[upd_ne _ _ bk];exact ck bI bk⟩;by_cases aX:c9=.inl j
    ·subst aX;rw[dC];exact Ff b (wv j b v h) (a2 _)
    ·rw[bM _ _ aX];exact a2 _
   ·refine⟨γ,λc9=>?_,λbI bk=>?_⟩
    ·by_cases aX:c9=.inl j
     ·subst aX;rw[dC];exact R
     ·rw[bM _ _ aX];exact⟨λo Α=>by have:=uE c9 b o Α;omega,λΑ=>by have:=yF c9 b Α;omega⟩
    ·rw[upd_ne _ _ bk];cases ε:aG bI b with
     | none=>rfl
     | some fc=>have:=wv bI b fc ε;omega
  ·rw[upd_ne _ _ δ] at hv;obtain⟨a1,a2,ck⟩:=χ.fresh j b v hv;have hb:=wv j b v hv;refine⟨a1,λc9=>?_,λbI bk=>?_⟩
   ·by_cases aX:c9=.inl i
    ·subst aX;rw[dC];exact Ff b hb (a2 _)
    ·rw[bM _ _ aX];exact a2 _
   ·by_cases c9:bI=i
    ·subst c9;rw[upd_same];cases ε:V' b with
     | none=>rfl
     | some fc=>
      rcases qC b fc ε with h|⟨I,_⟩
      ·rw[ck bI bk] at h;cases h
      ·omega
    ·rw[upd_ne _ _ c9];exact ck bI bk
 ·obtain⟨a1,a2,ck⟩:=χ.kr s o b μ hb;have s3:=Fg s o b μ hb;refine⟨a1,λc9=>?_,λbI=>?_⟩
  ·by_cases aX:c9=.inl i
   ·subst aX;rw[dC];exact Ff b s3 (a2 _)
   ·rw[bM _ _ aX];exact a2 _
  ·by_cases c9:bI=i
   ·subst c9;rw[upd_same];cases ε:V' b with
    | none=>rfl
    | some fc=>
     rcases qC b fc ε with h|⟨I,_⟩
     ·rw[ck bI] at h;cases h
     ·omega
   ·rw[upd_ne _ _ c9];exact ck bI
 ·rw[bM _ _ η];exact χ.eA b hb
def jx (tok:Nat->Nat->Tok) (O:Nat->Option aN) (t:Trace):cy->Nat->Prop
 | .inl i,k=>Knows t i k
 | .inr b,k=>(∃p op,t[p]?=some op/\op.act=.mark (.releaseMerge ⟨b,0,none⟩)/\t.heard p/\Before t k p)\/(∀s o,O s=some o->ep s o.toSpec b->∀i,tok i s≠.nil->Knows t i k)
theorem Fh {tok:Nat->Nat->Tok} {O:Nat->Option aN} {t:Trace} (u:Trace) {h:cy} {k:Nat} (ψ:jx tok O t h k):jx tok O (t++u) h k:=by
 cases h with
 | inl i=>exact Knows.app u ψ
 | inr b=>
  rcases ψ with⟨p,op,I,R,ν,Ι⟩|h
  ·have ς:=lt_size_of_getElem? I;exact .inl ⟨p,op,by rw[getElem?_append_old ς];exact I,R,(heard_old ς).2 ν,Ι.app u⟩
  ·exact .inr λs o μ hb i hi=>(h s o μ hb i hi).app u
structure iu (H:cy->π) (aG:Nat->Nat->Option (Array Value×TypeId)) (tok:Nat->Nat->Tok) (O:Nat->Option aN) (bx:Nat->Nat) (deaf:Nat->Nat) (N:Nat) (t:Trace):Prop where
 race:∀said,¬Race said t
 low:∀op∈t,op.act.low N
 norel:∀op∈t,∀a,op.act≠.mark (.release a)
 perms:∀h,dm t (jx tok O t h) (H h)
 oo:∀i b v,aG i b=some v->∀k a,touchAt t k=some a->¬nk a.loc b
 cont:∀s o b,O s=some o->ep s o.toSpec b->∀k a,touchAt t k=some a->nk a.loc b->a.kind=.atomic\/(a.kind=.said/\t.g? k=some (bx s))
 hears:∀i,Deaf t i=deaf i
theorem yG {t:Trace} {N k:Nat} {a:Touch} (h:∀op∈t,op.act.low N) (κ:touchAt t k=some a) {b:Nat} (hb:nk a.loc b):b<N:=by
 obtain⟨op,Α,h'⟩:=touch_of κ;have υ:=h op (mem_of_getElem? Α);obtain⟨g,fn,pos,act⟩:=op;cases act with
 | access e=>
  simp only[MemAct.touch?,Option.some.injEq] at h';subst h';obtain⟨loc,wr,oq⟩:=e;cases loc<;>simp only[nk] at hb<;>first|(subst hb;exact υ)|exact hb.elim
 | mark m=>
  cases m<;>simp only[MemAct.touch?,Option.some.injEq,reduceCtorEq] at h'<;>(subst h';simp only[nk] at hb;subst hb;exact υ)
 | _=>simp[MemAct.touch?] at h'
theorem Br.Fi {G:π} {n iL:Nat} {e:Event} (h:Br e):hc G n iL e:=by
 rcases h with h|h<;>simp[hc,h]
theorem Bt {G:π} {n iL:Nat} {e:Event} (he:hc G n iL e) {a:Touch} (κ:(MemAct.ofEvent e).touch?=some a) :
  a.loc=e.loc/\a.write=e.write/\(a.loc.isMemory=true->(∃cv,e.loc=.cell cv)\/∃r,e.loc=.obj r):=by
 obtain⟨loc,wr,oq⟩:=e;cases loc with
 | cell cv=>simp[MemAct.ofEvent,MemAct.touch?] at κ;subst κ;simp
 | obj r=>
  simp only[hc] at he;obtain⟨rfl,_⟩:=he;cases wr<;>simp[MemAct.ofEvent,MemAct.touch?] at κ<;>subst κ<;>simp
 | output=>simp[MemAct.ofEvent,MemAct.touch?] at κ;subst κ;simp[Loc.isMemory]
 | goroutines=>exact he.elim
 | mark m=>simp only[hc] at he;subst he;simp[MemAct.ofEvent,MemAct.touch?] at κ
theorem iu.own {H:cy->π} {aG:Nat->Nat->Option (Array Value×TypeId)} {tok:Nat->Nat->Tok} {O:Nat->Option aN} {bx:Nat->Nat} {deaf:Nat->Nat} {bl w w':World} {hh:Nat} {t:Trace}
  (Η:iu H aG tok O bx deaf w.heap.size t) (cd:gX H aG O bl w) (χ:h8 H aG O hh) (i:Nat) {G':π} {V':Nat->Option (Array Value×TypeId)} {es:Array Event} {fn:FuncId} {pos:String}
  (cC:w.heap.size<=w'.heap.size) (Ο:Bq (H (.inl i)) G' w.heap.size) (qC:Fb (aG i) V' G' w.heap.size)
  (fR:∀e∈es,hc (H (.inl i)) w.heap.size w'.heap.size e) (Fj:∀b c,V' b=some c->w.heap.size<=b->∀e∈es,¬nk e.loc b) :
  iu (bL H (.inl i) G') (upd aG i V') tok O bx deaf w'.heap.size (t++MemOp.ofEvents i fn pos es):=by
 have hu:∀op∈MemOp.ofEvents i fn pos es,op.g=i:=λop Κ=>by obtain⟨e,_,rfl⟩:=Go.Conc.mem_ofEvents Κ;rfl
 have uE:∀h b o,(H h).has b o->b<w.heap.size:=λh b o ⟨⟨v,p⟩,U⟩=>by
  obtain⟨c,t,dV,hb,_⟩:=qw ((cd.fit h).aJ b o v p U);exact fw hb
 have yF:∀h b,(H h).e7 b->b<w.heap.size:=λh b ⟨x,U⟩=>fw ((cd.fit h).obj b x U).1
 have wv:∀j b v,aG j b=some v->b<w.heap.size:=λj b v hv=>fw (cd.l4 j b v.1 v.2 hv)
 have Fg:∀s o b,O s=some o->ep s o.toSpec b->b<w.heap.size:=λs o b μ hb=>by
  obtain⟨⟨ty,I⟩,R⟩:=cd.fH s o μ;rcases hb with rfl|hb
  ·exact fw I
  ·obtain⟨jv,ν⟩:=R b hb;exact fw ν
 have Fl:∀e∈es,∀b,b<w.heap.size->(H (.inl i)).off b->¬nk e.loc b:=λe he b hb nu fe=>by
  have:=fR e he;obtain⟨loc,wr,oq⟩:=e;cases loc with
  | cell cv=>
   simp only[nk] at fe;subst fe;simp only[hc] at this;rcases this with h|⟨_,h⟩
   ·omega
   ·cases wr
    ·exact nu.1 _ h
    ·obtain⟨v,hv⟩:=h;exact nu.1 _ ⟨_,hv⟩
  | obj r=>
   simp only[nk] at fe;subst fe;simp only[hc] at this;rcases this.2 with h|h
   ·omega
   ·exact nu.2 h
  | _=>exact fe
 refine⟨λsaid=>noRace_append (Η.race said) hu λk a κ op Κ b hb ε=>?_,λop Κ=>?_,λop Κ=>?_,λh=>?_,λj b v hv k a κ fe=>?_,λs o b μ hb k a κ fe=>?_,λj=>?_⟩
 ·obtain⟨e,he,rfl⟩:=Go.Conc.mem_ofEvents Κ;obtain⟨I,R,ν⟩:=Bt (fR e he) hb;obtain⟨c1,c2,c3,_⟩:=ε;have dx:=fR e he;rcases ν (by rw[<-c1];exact c2) with⟨cv,υ⟩|⟨r,υ⟩
  ·simp only[hc,υ] at dx;have kF:a.loc=.cell cv:=by rw[c1,I,υ]
   rcases dx with h|⟨b2,h⟩
   ·have:=yG Η.low κ (b:=cv.block) (by rw[kF];rfl);omega
   ·obtain⟨s4,eΡ,sp⟩:=cv;simp only at b2;subst b2;by_cases hw:e.write=true
    ·rw[if_pos hw] at h;obtain⟨v,hv⟩:=h;exact(Η.perms (.inl i)).aJ _ _ v true hv k a κ kF (.inl rfl)
    ·rw[if_neg hw] at h;obtain⟨⟨v,p⟩,hv⟩:=h;exact(Η.perms (.inl i)).aJ _ _ v p hv k a κ kF (.inr (c3.resolve_right (by rw[R];exact hw)))
  ·simp only[hc,υ] at dx;have kF:a.loc=.obj r:=by rw[c1,I,υ]
   rcases dx.2 with h|h
   ·have:=yG Η.low κ (b:=r) (by rw[kF];rfl);omega
   ·exact(Η.perms (.inl i)).obj r h k a κ kF
 ·rcases Array.mem_append.1 Κ with h|h
  ·exact MemAct.low_mono cC (Η.low op h)
  ·obtain⟨e,he,rfl⟩:=Go.Conc.mem_ofEvents h;have dx:=fR e he;obtain⟨loc,wr,oq⟩:=e;cases loc with
   | cell cv=>
    simp only[hc] at dx;show cv.block<_;rcases dx with h|⟨_,h⟩
    ·exact h.2
    ·cases wr
     ·have:=uE _ _ _ h;omega
     ·obtain⟨v,hv⟩:=h;have:=uE (.inl i) _ _ ⟨_,hv⟩;omega
   | obj r=>
    simp only[hc] at dx;obtain⟨rfl,dx⟩:=dx;have ι:r<w'.heap.size:=dx.elim (λh=>h.2) (λh=>by have:=yF _ _ h;omega);cases wr<;>exact ι
   | output=>trivial
   | goroutines=>exact dx.elim
   | mark m=>simp only[hc] at dx;subst dx;trivial
 ·rcases Array.mem_append.1 Κ with h|h
  ·exact Η.norel op h
  ·obtain⟨e,he,rfl⟩:=Go.Conc.mem_ofEvents h;intro a h;have dx:=fR e he;obtain⟨loc,wr,oq⟩:=e;cases loc with
   | mark m=>simp only[hc] at dx;subst dx;simp[MemAct.ofEvent] at h
   | obj r=>cases wr<;>cases oq<;>simp[MemAct.ofEvent] at h
   | _=>simp[MemAct.ofEvent] at h
 ·by_cases aX:h=.inl i
  ·subst aX;rw[dC];have Kx:dm (t++MemOp.ofEvents i fn pos es) (Knows (t++MemOp.ofEvents i fn pos es) i) (H (.inl i)):=(Η.perms (.inl i)).own hu;refine⟨λb o v p ε k a κ υ hw=>?_,λb hb k a κ υ=>?_⟩
   ·rcases Ο.aJ b o v p ε with Ε|⟨v0,eQ,ao,ς⟩
    ·rcases mR κ with eo|⟨_,op,Κ,ψ,_⟩
     ·have:=yG Η.low eo (b:=b) (by rw[υ];rfl);omega
     ·have:=knows_own ψ;rwa [hu op Κ] at this
    ·exact Kx.aJ b o v0 eQ ao k a κ υ (hw.imp ς id)
   ·rcases Ο.obj b hb with Ε|ao
    ·rcases mR κ with eo|⟨_,op,Κ,ψ,_⟩
     ·have:=yG Η.low eo (b:=b) (by rw[υ];rfl);omega
     ·have:=knows_own ψ;rwa [hu op Κ] at this
    ·exact Kx.obj b ao k a κ υ
  ·rw[bM _ _ aX];have ap:=χ.apart _ _ (Ne.symm aX);refine(Η.perms h).others (λk ψ=>Fh _ ψ) λop Κ a κ=>?_;obtain⟨e,he,rfl⟩:=Go.Conc.mem_ofEvents Κ;obtain⟨I,R,_⟩:=Bt (fR e he) κ;have dx:=fR e he;refine⟨λb o v p υ ε=>?_,λb υ hb=>?_⟩
   ·simp only[hc,<-I,υ] at dx;rcases dx with U|⟨_,U⟩
    ·have:=uE h b o ⟨_,ε⟩;omega
    ·by_cases hw:e.write=true
     ·rw[if_pos hw] at U;exact absurd ⟨_,ε⟩ (ap.aJ b o U)
     ·rw[if_neg hw] at U;refine⟨?_,by rw[R];simpa using hw⟩;cases p with
      | false=>rfl
      | true=>exact absurd U (ap.qv b o ⟨v,ε⟩)
   ·simp only[hc,<-I,υ] at dx;rcases dx.2 with U|U
    ·have:=yF h b hb;omega
    ·exact ap.obj b U hb
 ·rcases mR κ with eo|⟨_,op,Κ,_,h'⟩
  ·have hb:=yG Η.low eo fe;by_cases δ:j=i
   ·subst δ;rw[upd_same] at hv;rcases qC b v hv with h|h
    ·exact Η.oo j b v h k a eo fe
    ·omega
   ·rw[upd_ne _ _ δ] at hv;exact Η.oo j b v hv k a eo fe
  ·obtain⟨e,he,rfl⟩:=Go.Conc.mem_ofEvents Κ;obtain⟨I,_,_⟩:=Bt (fR e he) h';rw[I] at fe;by_cases δ:j=i
   ·subst δ;rw[upd_same] at hv;rcases qC b v hv with h|h
    ·exact Fl e he b (wv j b v h) ((χ.fresh j b v h).2.1 _) fe
    ·exact Fj b v hv h.1 e he fe
   ·rw[upd_ne _ _ δ] at hv;exact Fl e he b (wv j b v hv) ((χ.fresh j b v hv).2.1 _) fe
 ·rcases mR κ with eo|⟨_,op,Κ,_,h'⟩
  ·rcases Η.cont s o b μ hb k a eo fe with h|⟨h,ψ⟩
   ·exact .inl h
   ·obtain⟨op,Α,_⟩:=touch_of eo;exact .inr ⟨h,by rw[g?_old (lt_size_of_getElem? Α)];exact ψ⟩
  ·obtain⟨e,he,rfl⟩:=Go.Conc.mem_ofEvents Κ;obtain⟨I,_,_⟩:=Bt (fR e he) h';rw[I] at fe;exact absurd fe (Fl e he b (Fg s o b μ hb) ((χ.kr s o b μ hb).2.1 _))
 ·by_cases δ:i=j
  ·subst δ;rw[Deaf_own,deafBehind_still (λe he=>?_)]
   ·exact Η.hears i
   ·have dx:=fR e he;constructor<;>intro υ<;>simp[hc,υ] at dx
  ·rw[Deaf_other t δ _ hu];exact Η.hears j
def ot:lh->Prop
 | .fin|.uc|.us|.done=>True
 | _=>False
def b0 (tok:Nat->Nat->Tok) (i s:Nat) (t:Tok):Nat->Nat->Tok:=upd tok i (upd (tok i) s t)
theorem e8 (tok:Nat->Nat->Tok) (i s:Nat) (t:Tok):b0 tok i s t i s=t:=by simp[b0,upd]
theorem e0 {tok:Nat->Nat->Tok} {i s j r:Nat} (t:Tok) (h:¬(j=i/\r=s)):b0 tok i s t j r=tok j r:=by
 unfold b0 upd;by_cases δ:j=i
 ·subst δ;by_cases ι:r=s
  ·exact absurd ⟨rfl,ι⟩ h
  ·simp[ι]
 ·simp[δ]
theorem Ky (tok:Nat->Nat->Tok) (i s:Nat) (t:Tok):(λj=>b0 tok i s t j s)=upd (λj=>tok j s) i t:=by
 funext j
 by_cases δ:j=i
 ·subst δ;rw[e8,upd_same]
 ·rw[e0 _ (λh=>δ h.1),upd_ne _ _ δ]
theorem Fo (tok:Nat->Nat->Tok) (i s:Nat) (t:Tok) {r:Nat} (ι:r≠s):(λj=>b0 tok i s t j r)=λj=>tok j r:=by
 funext j;rw[e0 _ (λh=>ι h.2)]
structure eR (n:Nat) (tok:Nat->Nat->Tok) (spec:Nat->Nat->Option Spec) (view:Nat->Nat->Option (Nat×aN)) (rel:Nat->Bool) (O:Nat->Option aN) (bx home:Nat->Nat):Prop where
 fS:∀s o,O s=some o->sV n o (λi=>tok i s)
 bare:∀s,O s=none->∀i,tok i s=.nil
 out:∀i s,n<=i->tok i s=.nil
 qD:∀i s sp,spec i s=some sp->∃o,O s=some o/\o.toSpec=sp
 uF:∀i s φ o,view i s=some (φ,o)->∃dG,O s=some dG/\eJ n dG (λj=>tok j s)<=φ/\(eJ n dG (λj=>tok j s)=φ->dG=o)
 dj:∀i s k L g o,O s=some o->tok i s=.ch k (.dj L) g->o.L=L
 par:∀i s m p aF,tok i s=.par m p aF->i=bx s
 ou:∀i s k m g,tok i s=.ch k m g->i≠0/\home i=s/\bx s<i
 rH:∀i,i≠0->i<n->∃k m g,tok i (home i)=.ch k m g
 gY:∀i k m g,i≠0->tok i (home i)=.ch k m g->(rel i=true↔g≠.work)
 s5:rel 0=false
 ov:∀i s,rel i=true->s≠home i->fQ (tok i s)
 ow:∀i s k m g o,O s=some o->tok i s=.ch k m g->g≠.work->m=.done\/(m=.idle/\o.aU=none)
 uG:∀s i j k m g b1 g',tok i s=.ch k m g->tok j s=.ch k b1 g'->i=j
 s6:∀s i k m g q p aF,tok i s=.ch k m g->tok (bx s) s=.par q p aF->k+p<q
 fx:∀s o,O s=some o->o.L.Nodup/\∀k,k∈o.L↔∃i m g,tok i s=.ch k m g/\ot m
 gb:∀s o,O s=some o->o.aj.Nodup/\∀k,k∈o.aj↔∃i m g,tok i s=.ch k m g/\g≠.work
def Alike (t t':Tok):Prop:=(∃m p aF b1 e9 Fp,t=.par m p aF/\t'=.par b1 e9 Fp/\∀k,k+p<m->k+e9<b1)\/(∃k m g b1 g',t=.ch k m g/\t'=.ch k b1 g')
section
variable {n:Nat} {tok:Nat->Nat->Tok} {spec:Nat->Nat->Option Spec} {view:Nat->Nat->Option (Nat×aN)} {rel:Nat->Bool} {O:Nat->Option aN} {bx home:Nat->Nat}
theorem eR.lt (h:eR n tok spec view rel O bx home) {i s:Nat} (Ν:tok i s≠.nil):i<n:=Nat.lt_of_not_le λhle=>Ν (h.out i s hle)
theorem eR.change (h:eR n tok spec view rel O bx home) {s i:Nat} {o o':aN} {t t':Tok} {Bu:Nat->Bool} {V:Nat->Option (Nat×aN)} (μ:O s=some o) (Ν:tok i s=t) (Bv:Alike t t')
  (Ε:sV n o' (upd (λj=>tok j s) i t')) (ς:eJ n o' (upd (λj=>tok j s) i t')<eJ n o (λj=>tok j s)) (b2:o'.toSpec=o.toSpec)
  (lx:∀r φ q,V r=some (φ,q)->(r=s/\φ=eJ n o' (upd (λj=>tok j s) i t')/\q=o')\/(r≠s/\view i r=some (φ,q)))
  (ia:∀j k L g,b0 tok i s t' j s=.ch k (.dj L) g->o'.L=L)
  (Bw:∀j k m g,j≠0->b0 tok i s t' j (home j)=.ch k m g->(Bu j=true↔g≠.work)) (wx:Bu 0=false)
  (Ri:∀j r,Bu j=true->r≠home j->fQ (b0 tok i s t' j r))
  (Rj:∀j k m g,b0 tok i s t' j s=.ch k m g->g≠.work->m=.done\/(m=.idle/\o'.aU=none))
  (av:o'.L.Nodup/\∀k,k∈o'.L↔∃j m g,b0 tok i s t' j s=.ch k m g/\ot m) (bm:o'.aj.Nodup/\∀k,k∈o'.aj↔∃j m g,b0 tok i s t' j s=.ch k m g/\g≠.work) :
  eR n (b0 tok i s t') spec (upd view i V) Bu (upd O s (some o')) bx home:=by
 have a4:i<n:=h.lt (s:=s) (by rw[Ν];rcases Bv with⟨_,_,_,_,_,_,rfl,_⟩|⟨_,_,_,_,_,rfl,_⟩<;>simp)
 have Fq:=Ky tok i s t'
 have rI:∀r,r≠s->(λj=>b0 tok i s t' j r)=λj=>tok j r:=λr ι=>Fo tok i s t' ι
 have yH:∀j r,r≠s->b0 tok i s t' j r=tok j r:=λj r ι=>congrFun (rI r ι) j
 have same:∀j,j≠i->∀r,b0 tok i s t' j r=tok j r:=λj δ r=>e0 _ λx=>δ x.1
 have Bx:∀j r k m g,b0 tok i s t' j r=.ch k m g->∃dJ cP,tok j r=.ch k dJ cP:=λj r k m g δ=>by
  by_cases e:j=i/\r=s
  ·obtain⟨rfl,rfl⟩:=e;rw[e8] at δ;rcases Bv with⟨_,_,_,_,_,_,_,R,_⟩|⟨h9,dJ,cP,ff,Ξ,I,R⟩
   ·rw[R] at δ;cases δ
   ·rw[R] at δ;cases δ;exact⟨dJ,cP,by rw[Ν,I]⟩
  ·rw[e0 _ e] at δ;exact⟨m,g,δ⟩
 have Rk:∀j r k m g,tok j r=.ch k m g->∃dJ cP,b0 tok i s t' j r=.ch k dJ cP:=λj r k m g δ=>by
  by_cases e:j=i/\r=s
  ·obtain⟨rfl,rfl⟩:=e;rw[e8];rw[Ν] at δ;rcases Bv with⟨_,_,_,_,_,_,I,_,_⟩|⟨h9,dJ,cP,ff,Ξ,I,R⟩
   ·rw[I] at δ;cases δ
   ·rw[I] at δ;cases δ;exact⟨ff,Ξ,R⟩
  ·rw[e0 _ e];exact⟨m,g,δ⟩
 have Kz:∀j r m p aF,b0 tok i s t' j r=.par m p aF->∃dJ eQ yI,tok j r=.par dJ eQ yI/\∀k,k+eQ<dJ->k+p<m:=λj r m p aF δ=>by
  by_cases e:j=i/\r=s
  ·obtain⟨rfl,rfl⟩:=e;rw[e8] at δ;rcases Bv with⟨_,_,_,_,_,_,I,R,ν⟩|⟨h9,dJ,cP,ff,Ξ,I,R⟩
   ·rw[R] at δ;cases δ;exact⟨_,_,_,by rw[Ν,I],ν⟩
   ·rw[R] at δ;cases δ
  ·rw[e0 _ e] at δ;exact⟨m,p,aF,δ,λ_ x=>x⟩
 have gZ:∀r q,upd O s (some o') r=some q->(r=s/\q=o')\/(r≠s/\O r=some q):=λr q Χ=>by
  by_cases e:r=s
  ·subst e;rw[upd_same] at Χ;cases Χ;exact .inl ⟨rfl,rfl⟩
  ·rw[upd_ne _ _ e] at Χ;exact .inr ⟨e,Χ⟩
 refine⟨λr q Χ=>?_,λr ι j=>?_,λj r δ=>?_,λj r sp δ=>?_,λj r φ q δ=>?_,λj r k L g q Χ δ=>?_,λj r m p aF δ=>?_,λj r k m g δ=>?_,λj ao δ=>?_,Bw,wx,Ri,λj r k m g q Χ δ Ο=>?_,λr j bI k m g b1 g' I R=>?_,λr j k m g q p aF I R=>?_,λr q Χ=>?_,λr q Χ=>?_⟩
 ·rcases gZ r q Χ with⟨rfl,rfl⟩|⟨e,b'⟩
  ·rw[Fq];exact Ε
  ·rw[rI r e];exact h.fS r q b'
 ·by_cases e:r=s
  ·subst e;rw[upd_same] at ι;cases ι
  ·rw[upd_ne _ _ e] at ι;rw[yH j r e];exact h.bare r ι j
 ·rw[same j γ r];exact h.out j r δ
 ·obtain⟨q,I,R⟩:=h.qD j r sp δ;by_cases e:r=s
  ·subst e;rw[μ] at I;cases I;exact⟨o',upd_same ..,by rw[b2];exact R⟩
  ·exact⟨q,by rw[upd_ne _ _ e];exact I,R⟩
 ·have old:∀φ q,view j r=some (φ,q)->∃dG,upd O s (some o') r=some dG/\eJ n dG (λa=>b0 tok i s t' a r)<=φ/\(eJ n dG (λa=>b0 tok i s t' a r)=φ->dG=q):=λφ q hv=>by
   obtain⟨dG,I,R,ν⟩:=h.uF j r φ q hv;by_cases e:r=s
   ·subst e;rw[μ] at I;cases I;rw[upd_same,Fq];exact⟨o',rfl,γ,λx=>γ⟩
   ·rw[upd_ne _ _ e,rI r e];exact⟨dG,I,R,ν⟩
  by_cases e:j=i
  ·subst e;rw[upd_same] at δ;rcases lx r φ q δ with⟨rfl,rfl,rfl⟩|⟨ι,hv⟩
   ·rw[upd_same,Fq];exact⟨_,rfl,Nat.le_refl _,λ_=>rfl⟩
   ·exact old φ q hv
  ·rw[upd_ne _ _ e] at δ;exact old φ q δ
 ·rcases gZ r q Χ with⟨rfl,rfl⟩|⟨e,b'⟩
  ·exact ia j k L g δ
  ·rw[yH j r e] at δ;exact h.dj j r k L g q b' δ
 ·obtain⟨dJ,eQ,yI,I,_⟩:=Kz j r m p aF δ;exact h.par j r dJ eQ yI I
 ·obtain⟨dJ,cP,I⟩:=Bx j r k m g δ;exact h.ou j r k dJ cP I
 ·obtain⟨k,m,g,I⟩:=h.rH j ao δ;obtain⟨ff,Ξ,R⟩:=Rk j _ k m g I;exact⟨k,ff,Ξ,R⟩
 ·rcases gZ r q Χ with⟨rfl,rfl⟩|⟨e,b'⟩
  ·exact Rj j k m g δ Ο
  ·rw[yH j r e] at δ;exact h.ow j r k m g q b' δ Ο
 ·obtain⟨a,b,ν⟩:=Bx j r k m g I;obtain⟨bP,Ψ,Ι⟩:=Bx bI r k b1 g' R;exact h.uG r j bI k a b bP Ψ ν Ι
 ·obtain⟨a,b,ν⟩:=Bx j r k m g I;obtain⟨dJ,eQ,yI,Ι,aB⟩:=Kz _ r q p aF R;exact aB k (h.s6 r j k a b dJ eQ yI ν Ι)
 ·rcases gZ r q Χ with⟨rfl,rfl⟩|⟨e,b'⟩
  ·exact av
  ·simp only[λj=>yH j r e];exact h.fx r q b'
 ·rcases gZ r q Χ with⟨rfl,rfl⟩|⟨e,b'⟩
  ·exact bm
  ·simp only[λj=>yH j r e];exact h.gb r q b'
theorem Rl {o o':aN} {t t':Tok} (h:Act o t o' t'):Alike t t':=by
 cases h
 case add=>exact .inl ⟨_,_,_,_,_,_,rfl,rfl,λk ψ=>γ⟩
 case thru|Kb|wake=>exact .inl ⟨_,_,_,_,_,_,rfl,rfl,λk ψ=>ψ⟩
 all_goals exact .inr ⟨_,_,_,_,_,rfl,rfl⟩
theorem KA {o o':aN} {t t':Tok} (h:Act o t o' t'):o'.toSpec=o.toSpec/\o'.L=o.L/\o'.aj=o.aj:=by
 cases h<;>exact⟨rfl,rfl,rfl⟩
theorem KB {o o':aN} {t t':Tok} (h:Act o t o' t'):(∀k m g,t'=.ch k m g->∃dJ cP,t=.ch k dJ cP/\(ot m↔ot dJ)/\(g=.work↔cP=.work)/\(cP≠.work->m=dJ)/\∀L,m=.dj L->dJ=.dj L)/\(∀k m g,t=.ch k m g->∃ff Ξ,t'=.ch k ff Ξ/\(ot ff↔ot m)/\(Ξ=.work↔g=.work))/\¬fQ t:=by
 refine⟨λk m g e=>?_,λk m g e=>?_,?_⟩
 ·cases h<;>cases e<;>exact⟨_,_,rfl,by simp[ot],η,η,η⟩
 ·cases h<;>cases e<;>exact⟨_,_,rfl,by simp[ot],η⟩
 ·cases h<;>simp[fQ]
theorem eR.act (h:eR n tok spec view rel O bx home) {s i:Nat} {o o':aN} {t t':Tok} (μ:O s=some o) (Ν:tok i s=t) (κ:Act o t o' t') :
  eR n (b0 tok i s t') spec (upd view i (upd (view i) s (some (eJ n o' (upd (λj=>tok j s) i t'),o')))) rel (upd O s (some o')) bx home:=by
 obtain⟨hw,uH,KC⟩:=KB κ;have a4:i<n:=h.lt (s:=s) (by rw[Ν];rintro rfl;exact KC trivial);obtain⟨wy,By,Fs⟩:=KA κ;have yJ:∀j r k m g,b0 tok i s t' j r=.ch k m g->∃dJ cP,tok j r=.ch k dJ cP/\(ot m↔ot dJ)/\(g=.work↔cP=.work)/\(cP≠.work->m=dJ)/\∀L,m=.dj L->dJ=.dj L:=λj r k m g δ=>by
  by_cases e:j=i/\r=s
  ·obtain⟨rfl,rfl⟩:=e;rw[e8] at δ;obtain⟨dJ,cP,Γ,Θ⟩:=hw k m g δ;exact⟨dJ,cP,by rw[Ν,Γ],Θ⟩
  ·rw[e0 _ e] at δ;exact⟨m,g,δ,.rfl,.rfl,λ_=>rfl,λ_ x=>x⟩
 have is:∀j k m g,tok j s=.ch k m g->∃ff Ξ,b0 tok i s t' j s=.ch k ff Ξ/\(ot ff↔ot m)/\(Ξ=.work↔g=.work):=λj k m g δ=>by
  by_cases e:j=i/\s=s
  ·obtain⟨rfl,_⟩:=e;rw[e8];rw[Ν] at δ;exact uH k m g δ
  ·rw[e0 _ e];exact⟨m,g,δ,.rfl,.rfl⟩
 refine h.change μ Ν (Rl κ) (⟨QU (h.fS s o μ).1 a4 Ν κ,QY (h.fS s o μ).2 a4 Ν κ⟩) (Kd a4 Ν κ) wy (λr φ q hv=>?_) (λj k L g δ=>?_) (λj k m g ao δ=>?_) h.s5 (λj r δ ι=>?_) (λj k m g δ Ο=>?_) ?_ ?_
 ·by_cases e:r=s
  ·subst e;rw[upd_same] at hv;cases hv;exact .inl ⟨rfl,rfl,rfl⟩
  ·rw[upd_ne _ _ e] at hv;exact .inr ⟨e,hv⟩
 ·obtain⟨dJ,cP,Γ,_,_,_,Θ⟩:=yJ j s k _ g δ;rw[By];exact h.dj j s k L cP o μ (by rw[Γ,Θ L rfl])
 ·obtain⟨dJ,cP,Γ,_,Θ,_⟩:=yJ j _ k m g δ;rw[h.gY j k dJ cP ao Γ];exact not_congr Θ.symm
 ·by_cases e:j=i/\r=s
  ·obtain⟨rfl,rfl⟩:=e;have:=h.ov j r δ ι;rw[Ν] at this;exact absurd this KC
  ·rw[e0 _ e];exact h.ov j r δ ι
 ·obtain⟨dJ,cP,Γ,_,Θ,bO,_⟩:=yJ j s k m g δ;have iP:cP≠.work:=λx=>Ο (Θ.2 x);rw[bO iP];have:=h.ow j s k dJ cP o μ Γ iP;rw[show o'.aU=o.aU by rw[wy]];exact this
 ·obtain⟨a,b⟩:=h.fx s o μ;rw[By];refine⟨a,λk=>(b k).trans ⟨λ⟨j,m,g,Γ,Θ⟩=>?_,λ⟨j,m,g,Γ,Θ⟩=>?_⟩⟩
  ·obtain⟨ff,Ξ,bO,cF,_⟩:=is j k m g Γ;exact⟨j,ff,Ξ,bO,cF.2 Θ⟩
  ·obtain⟨dJ,cP,bO,cF,_⟩:=yJ j s k m g Γ;exact⟨j,dJ,cP,bO,cF.1 Θ⟩
 ·obtain⟨a,b⟩:=h.gb s o μ;rw[Fs];refine⟨a,λk=>(b k).trans ⟨λ⟨j,m,g,Γ,Θ⟩=>?_,λ⟨j,m,g,Γ,Θ⟩=>?_⟩⟩
  ·obtain⟨ff,Ξ,bO,_,cF⟩:=is j k m g Γ;exact⟨j,ff,Ξ,bO,λx=>Θ (cF.1 x)⟩
  ·obtain⟨dJ,cP,bO,_,cF,_⟩:=yJ j s k m g Γ;exact⟨j,dJ,cP,bO,λx=>Θ (cF.2 x)⟩
theorem eR.look (h:eR n tok spec view rel O bx home) {s i:Nat} {o:aN} (μ:O s=some o):eR n tok spec (upd view i (upd (view i) s (some (eJ n o (λj=>tok j s),o)))) rel O bx home:=
 have key:∀j r φ q,upd view i (upd (view i) s (some (eJ n o (λj=>tok j s),o))) j r=some (φ,q)->∃dG,O r=some dG/\eJ n dG (λj=>tok j r)<=φ/\(eJ n dG (λj=>tok j r)=φ->dG=q):=λj r φ q δ=>by
  by_cases e:j=i
  ·subst e;rw[upd_same] at δ;by_cases aH:r=s
   ·subst aH;rw[upd_same] at δ;cases δ;exact⟨o,μ,Nat.le_refl _,λ_=>rfl⟩
   ·rw[upd_ne _ _ aH] at δ;exact h.uF j r φ q δ
  ·rw[upd_ne _ _ e] at δ;exact h.uF j r φ q δ
 {h with uF:=key}
theorem Bz {s i:Nat} {r φ:Nat} {q:aN} {o':aN} {z:Nat} (hv:upd (view i) s none r=some (φ,q)):(r=s/\φ=z/\q=o')\/(r≠s/\view i r=some (φ,q)):=by
 by_cases e:r=s
 ·subst e;rw[upd_same] at hv;cases hv
 ·rw[upd_ne _ _ e] at hv;exact .inr ⟨e,hv⟩
theorem Rm {l:List Nat} {k:Nat} (h:l.Nodup) (ψ:k∉l):(l++[k]).Nodup:=by
 rw[List.nodup_append];exact⟨h,η,λa κ b hb=>by simp at hb;subst hb;rintro rfl;exact ψ κ⟩
theorem eR.E2 (h:eR n tok spec view rel O bx home) {s i k:Nat} {o:aN} (μ:O s=some o) (Ν:tok i s=.ch k .own .work) :
  eR n (b0 tok i s (.ch k (.dj o.L) .work)) spec (upd view i (upd (view i) s none)) rel (upd O s (some o)) bx home:=by
 have a4:i<n:=h.lt (s:=s) (by rw[Ν];simp)
 have hw:pk o (.ch k .own .work) o (.ch k (.dj o.L) .work):=.E2
 have g0:∀j,j≠i->∀r,b0 tok i s (.ch k (.dj o.L) .work) j r=tok j r:=λj δ r=>e0 _ λx=>δ x.1
 have ε:=h.ou i s k _ _ Ν;refine h.change μ Ν (.inr ⟨_,_,_,_,_,rfl,rfl⟩) ⟨Bm (h.fS s o μ).1 a4 Ν hw,Bn (h.fS s o μ).2 a4 Ν hw⟩ (Bl a4 Ν hw) rfl (λr φ q hv=>Bz hv) (λj af L g δ=>?_) (λj af m g ao δ=>?_) h.s5 (λj r δ ι=>?_) (λj af m g δ Ο=>?_) ?_ ?_
 ·by_cases e:j=i
  ·subst e;rw[e8] at δ;cases δ;rfl
  ·rw[g0 j e] at δ;exact h.dj j s af L g o μ δ
 ·by_cases e:j=i
  ·subst e;have aH:home j=s:=ε.2.1;rw[aH,e8] at δ;cases δ;exact h.gY j k .own .work ao (by rw[aH];exact Ν)
  ·rw[g0 j e] at δ;exact h.gY j af m g ao δ
 ·by_cases e:j=i
  ·subst e;have aH:home j=s:=ε.2.1;rw[e0 _ (λx=>ι (by rw[x.2,aH]))];exact h.ov j r δ ι
  ·rw[g0 j e];exact h.ov j r δ ι
 ·by_cases e:j=i
  ·subst e;rw[e8] at δ;cases δ;exact absurd rfl Ο
  ·rw[g0 j e] at δ;exact h.ow j s af m g o μ δ Ο
 ·obtain⟨a,b⟩:=h.fx s o μ;refine⟨a,λaf=>(b af).trans ⟨λ⟨j,m,g,Γ,Θ⟩=>?_,λ⟨j,m,g,Γ,Θ⟩=>?_⟩⟩
  ·by_cases e:j=i
   ·subst e;rw[Ν] at Γ;cases Γ;exact Θ.elim
   ·exact⟨j,m,g,by rw[g0 j e];exact Γ,Θ⟩
  ·by_cases e:j=i
   ·subst e;rw[e8] at Γ;cases Γ;exact Θ.elim
   ·exact⟨j,m,g,by rw[g0 j e] at Γ;exact Γ,Θ⟩
 ·obtain⟨a,b⟩:=h.gb s o μ;refine⟨a,λaf=>(b af).trans ⟨λ⟨j,m,g,Γ,Θ⟩=>?_,λ⟨j,m,g,Γ,Θ⟩=>?_⟩⟩
  ·by_cases e:j=i
   ·subst e;rw[Ν] at Γ;cases Γ;exact absurd rfl Θ
   ·exact⟨j,m,g,by rw[g0 j e];exact Γ,Θ⟩
  ·by_cases e:j=i
   ·subst e;rw[e8] at Γ;cases Γ;exact absurd rfl Θ
   ·exact⟨j,m,g,by rw[g0 j e] at Γ;exact Γ,Θ⟩
theorem eR.Rn (h:eR n tok spec view rel O bx home) {s i k:Nat} {L:List Nat} {o:aN} (μ:O s=some o) (Ν:tok i s=.ch k (.dj L) .work) :
  eR n (b0 tok i s (.ch k .fin .work)) spec (upd view i (upd (view i) s none)) rel (upd O s (some {o with L:=o.L++[k]})) bx home:=by
 have a4:i<n:=h.lt (s:=s) (by rw[Ν];simp)
 have hw:pk o (.ch k (.dj L) .work) {o with L:=o.L++[k]} (.ch k .fin .work):=.QS
 have g0:∀j,j≠i->∀r,b0 tok i s (.ch k .fin .work) j r=tok j r:=λj δ r=>e0 _ λx=>δ x.1
 have ε:=h.ou i s k _ _ Ν
 have only:∀j af ks g,tok j s=.ch af (.dj ks) g->j=i:=λj af ks g δ=>by
  apply Classical.byContradiction;intro bC;have fg:j<n:=h.lt (s:=s) (by rw[δ];simp);have Γ:=gr (λa=>tok a s) .nil h5 a4;have Θ:=fq (upd (λa=>tok a s) i .nil) h5 fg;rw[upd_ne _ _ bC] at Θ;simp only[Ν,δ,h5,yr] at Γ Θ;have:=(h.fS s o μ).1.J9;have:=(h.fS s o μ).1.f1;omega
 have KD:k∉o.L:=λψ=>by
  obtain⟨j,m,g,Γ,Θ⟩:=((h.fx s o μ).2 k).1 ψ;have:=h.uG s j i k m g _ _ Γ Ν;subst this;rw[Ν] at Γ;cases Γ;exact Θ
 refine h.change μ Ν (.inr ⟨_,_,_,_,_,rfl,rfl⟩) ⟨Bm (h.fS s o μ).1 a4 Ν hw,Bn (h.fS s o μ).2 a4 Ν hw⟩ (Bl a4 Ν hw) rfl (λr φ q hv=>Bz hv) (λj af ks g δ=>?_) (λj af m g ao δ=>?_) h.s5 (λj r δ ι=>?_) (λj af m g δ Ο=>?_) ?_ ?_
 ·by_cases e:j=i
  ·subst e;rw[e8] at δ;cases δ
  ·rw[g0 j e] at δ;exact absurd (only j af ks g δ) e
 ·by_cases e:j=i
  ·subst e;have aH:home j=s:=ε.2.1;rw[aH,e8] at δ;cases δ;exact h.gY j k (.dj L) .work ao (by rw[aH];exact Ν)
  ·rw[g0 j e] at δ;exact h.gY j af m g ao δ
 ·by_cases e:j=i
  ·subst e;have aH:home j=s:=ε.2.1;rw[e0 _ (λx=>ι (by rw[x.2,aH]))];exact h.ov j r δ ι
  ·rw[g0 j e];exact h.ov j r δ ι
 ·by_cases e:j=i
  ·subst e;rw[e8] at δ;cases δ;exact absurd rfl Ο
  ·rw[g0 j e] at δ;exact h.ow j s af m g o μ δ Ο
 ·obtain⟨a,b⟩:=h.fx s o μ;refine⟨Rm a KD,λaf=>?_⟩;rw[List.mem_append,List.mem_singleton];constructor
  ·rintro(ψ|rfl)
   ·obtain⟨j,m,g,Γ,Θ⟩:=(b af).1 ψ;have e:j≠i:=by rintro rfl;rw[Ν] at Γ;cases Γ;exact Θ
    exact⟨j,m,g,by rw[g0 j e];exact Γ,Θ⟩
   ·exact⟨i,.fin,.work,e8 ..,trivial⟩
  ·rintro⟨j,m,g,Γ,Θ⟩;by_cases e:j=i
   ·subst e;rw[e8] at Γ;cases Γ;exact .inr rfl
   ·rw[g0 j e] at Γ;exact .inl ((b af).2 ⟨j,m,g,Γ,Θ⟩)
 ·obtain⟨a,b⟩:=h.gb s o μ;refine⟨a,λaf=>(b af).trans ⟨λ⟨j,m,g,Γ,Θ⟩=>?_,λ⟨j,m,g,Γ,Θ⟩=>?_⟩⟩
  ·by_cases e:j=i
   ·subst e;rw[Ν] at Γ;cases Γ;exact absurd rfl Θ
   ·exact⟨j,m,g,by rw[g0 j e];exact Γ,Θ⟩
  ·by_cases e:j=i
   ·subst e;rw[e8] at Γ;cases Γ;exact absurd rfl Θ
   ·exact⟨j,m,g,by rw[g0 j e] at Γ;exact Γ,Θ⟩
theorem eR.Ro (h:eR n tok spec view rel O bx home) {s i k:Nat} {mu:lh} {o:aN} (μ:O s=some o) (Ν:tok i s=.ch k mu .work) (s7:mu=.done\/(mu=.idle/\o.aU=none)) (cQ:∀r,r≠s->fQ (tok i r)) :
  eR n (b0 tok i s (.ch k mu .rel)) spec (upd view i (upd (view i) s none)) (upd rel i true) (upd O s (some {o with aj:=k::o.aj})) bx home:=by
 have a4:i<n:=h.lt (s:=s) (by rw[Ν];simp)
 have hw:pk o (.ch k mu .work) {o with aj:=k::o.aj} (.ch k mu .rel):=.QT s7
 have g0:∀j,j≠i->∀r,b0 tok i s (.ch k mu .rel) j r=tok j r:=λj δ r=>e0 _ λx=>δ x.1
 have ε:=h.ou i s k _ _ Ν
 have Rp:k∉o.aj:=λψ=>by
  obtain⟨j,m,g,Γ,Θ⟩:=((h.gb s o μ).2 k).1 ψ;have:=h.uG s j i k m g _ _ Γ Ν;subst this;rw[Ν] at Γ;cases Γ;exact Θ rfl
 refine h.change μ Ν (.inr ⟨_,_,_,_,_,rfl,rfl⟩) ⟨Bm (h.fS s o μ).1 a4 Ν hw,Bn (h.fS s o μ).2 a4 Ν hw⟩ (Bl a4 Ν hw) rfl (λr φ q hv=>Bz hv) (λj af ks g δ=>?_) (λj af m g ao δ=>?_) (by rw[upd_ne _ _ (Ne.symm ε.1)];exact h.s5) (λj r δ ι=>?_) (λj af m g δ Ο=>?_) ?_ ?_
 ·by_cases e:j=i
  ·subst e;rw[e8] at δ;rcases s7 with rfl|⟨rfl,_⟩<;>cases δ
  ·rw[g0 j e] at δ;exact h.dj j s af ks g o μ δ
 ·by_cases e:j=i
  ·subst e;have aH:home j=s:=ε.2.1;rw[aH,e8] at δ;cases δ;rw[upd_same];simp
  ·rw[g0 j e] at δ;rw[upd_ne _ _ e];exact h.gY j af m g ao δ
 ·by_cases e:j=i
  ·subst e;have aH:home j=s:=ε.2.1;have kG:r≠s:=λx=>ι (by rw[x,aH]);rw[e0 _ (λx=>kG x.2)];exact cQ r kG
  ·rw[g0 j e];rw[upd_ne _ _ e] at δ;exact h.ov j r δ ι
 ·by_cases e:j=i
  ·subst e;rw[e8] at δ;cases δ;exact s7
  ·rw[g0 j e] at δ;exact h.ow j s af m g o μ δ Ο
 ·obtain⟨a,b⟩:=h.fx s o μ;refine⟨a,λaf=>(b af).trans ⟨λ⟨j,m,g,Γ,Θ⟩=>?_,λ⟨j,m,g,Γ,Θ⟩=>?_⟩⟩
  ·by_cases e:j=i
   ·subst e;rw[Ν] at Γ;cases Γ;exact⟨j,mu,.rel,e8 ..,Θ⟩
   ·exact⟨j,m,g,by rw[g0 j e];exact Γ,Θ⟩
  ·by_cases e:j=i
   ·subst e;rw[e8] at Γ;cases Γ;exact⟨j,mu,.work,Ν,Θ⟩
   ·exact⟨j,m,g,by rw[g0 j e] at Γ;exact Γ,Θ⟩
 ·obtain⟨a,b⟩:=h.gb s o μ;refine⟨List.nodup_cons.2 ⟨Rp,a⟩,λaf=>?_⟩;rw[List.mem_cons];constructor
  ·rintro(rfl|ψ)
   ·exact⟨i,mu,.rel,e8 ..,η⟩
   ·obtain⟨j,m,g,Γ,Θ⟩:=(b af).1 ψ;have e:j≠i:=by rintro rfl;rw[Ν] at Γ;cases Γ;exact Θ rfl
    exact⟨j,m,g,by rw[g0 j e];exact Γ,Θ⟩
  ·rintro⟨j,m,g,Γ,Θ⟩;by_cases e:j=i
   ·subst e;rw[e8] at Γ;cases Γ;exact .inl rfl
   ·rw[g0 j e] at Γ;exact .inr ((b af).2 ⟨j,m,g,Γ,Θ⟩)
theorem eR.gtake (h:eR n tok spec view rel O bx home) {s i q:Nat} {aF:rF} {o:aN} (μ:O s=some o) (Ν:tok i s=.par q 0 aF) (iQ:aF=.lW\/aF=.w4) :
  eR n (b0 tok i s (.par q 0 .cq)) spec (upd view i (upd (view i) s none)) rel (upd O s (some o)) bx home:=by
 have a4:i<n:=h.lt (s:=s) (by rw[Ν];simp)
 have hw:pk o (.par q 0 aF) o (.par q 0 .cq):=.gtake iQ
 have g0:∀j,j≠i->∀r,b0 tok i s (.par q 0 .cq) j r=tok j r:=λj δ r=>e0 _ λx=>δ x.1
 have cs:∀j r k m g,b0 tok i s (.par q 0 .cq) j r=.ch k m g↔tok j r=.ch k m g:=λj r k m g=>by
  by_cases e:j=i/\r=s
  ·obtain⟨rfl,rfl⟩:=e;rw[e8,Ν];simp
  ·rw[e0 _ e]
 refine h.change μ Ν (.inl ⟨_,_,_,_,_,_,rfl,rfl,λk ψ=>ψ⟩) ⟨Bm (h.fS s o μ).1 a4 Ν hw,Bn (h.fS s o μ).2 a4 Ν hw⟩ (Bl a4 Ν hw) rfl (λr φ q hv=>Bz hv) (λj af ks g δ=>?_) (λj af m g ao δ=>?_) h.s5 (λj r δ ι=>?_) (λj af m g δ Ο=>?_) ?_ ?_
 ·rw[cs] at δ;exact h.dj j s af ks g o μ δ
 ·rw[cs] at δ;exact h.gY j af m g ao δ
 ·by_cases e:j=i/\r=s
  ·obtain⟨rfl,rfl⟩:=e;rw[e8];trivial
  ·rw[e0 _ e];exact h.ov j r δ ι
 ·rw[cs] at δ;exact h.ow j s af m g o μ δ Ο
 ·simp only[cs];exact h.fx s o μ
 ·simp only[cs];exact h.gb s o μ
end
end Go.TL
