import Derived.Test.YtlabjopijpkiaaaGreatEAA
import Derived.Test.YtlabjopijpkiaaaGreatEAB
set_option maxHeartbeats 16000000
set_option maxRecDepth 20000
set_option linter.unusedSectionVars false
set_option linter.unusedSimpArgs false
set_option linter.unusedVariables false
namespace Go.TL
open Go.Conc
open Go.ConcN (sumTo upd sumTo_upd upd_ne upd_same sumTo_congr le_sumTo)
section
variable {N i:Nat} {o o':aW} {τ:Nat->Tok} {t t':Tok}
theorem LX (o':aW) (Β:o'.top=o.top) (hi:i<N) (Υ:τ i=t) (h:ng o.top t'+9*o'.dm+2*o'.cU<ng o.top t+9*o.dm+2*o.cU):eZ N o' (upd τ i t')<eZ N o τ:=by
 have e:=g2 τ t' (ng o.top) hi;rw[Υ] at e;unfold eZ;rw[Β];omega
theorem LY (hi:i<N) (Υ:τ i=t) (ν:Act o t o' t'):eZ N o' (upd τ i t')<eZ N o τ:=by
 cases ν<;>refine LX _ rfl hi Υ ?_
 case acq aw _ _=>cases aw<;>simp[ng,v9]
 case queue aw _ _ _=>cases aw<;>simp[ng,v9]
 case take=>simp[ng,v9];omega
 case add=>simp[ng];omega
 case wake=>simp[ng,x4];omega
 all_goals (simp[ng,v9,CM,x4]<;>omega)
theorem CP (hi:i<N) (Υ:τ i=t) (ν:qx o t o' t'):eZ N o' (upd τ i t')<eZ N o τ:=by
 cases ν<;>refine LX _ rfl hi Υ ?_
 case gtake aQ ω=>rcases ω with rfl|rfl<;>simp[ng,x4]
 all_goals (simp[ng,v9,CM,x4]<;>omega)
theorem GY {φ:Tok->Nat} (hi:i<N) (h:φ t'=φ (τ i)):bh N (upd τ i t') φ=bh N τ φ:=by
 have:=g2 τ t' φ hi;omega
theorem CQ (h:qw N o τ) (hi:i<N) (Υ:τ i=t) (ν:qx o t o' t'):qw N o' (upd τ i t'):=by
 unfold qw at h ⊢;cases ν<;>
 (repeat rw[GY hi (by rw[Υ];rfl)])<;>exact h
theorem CR (h:pC N o τ) (hi:i<N) (Υ:τ i=t) (ν:qx o t o' t'):pC N o' (upd τ i t'):=by
 unfold pC at h ⊢;cases ν
 case gtake aQ ω=>rcases ω with rfl|rfl<;>(repeat rw[GY hi (by rw[Υ];rfl)])<;>exact h
 all_goals (repeat rw[GY hi (by rw[Υ];rfl)])<;>exact h
theorem wh (N:Nat) (τ:Nat->Tok) (φ:Tok->Nat):bh (N+1) τ φ=bh N τ φ+φ (τ N):=rfl
theorem LZ {φ:Tok->Nat} (eS:φ .nil=0) (h:τ N=.nil):bh (N+1) τ φ=bh N τ φ:=by rw[wh,h,eS];rfl
theorem L0 (h:uD N o τ) (Θ:τ N=.nil):uD (N+1) o τ:=by
 unfold uD qw pC at h ⊢
 repeat rw[LZ (by rfl) Θ]
 exact h
theorem L1 (Θ:τ N=.nil):eZ (N+1) o τ=eZ N o τ:=by
 unfold eZ;rw[LZ (by rfl) Θ]
theorem TJ {j n p:Nat} (h:uD N o τ) (hi:i<N) (ζ:j<N) (fP:i≠j) (Υ:τ i=.par n (p+1) .add) (Θ:τ j=.nil) (k:Nat) :
  uD N o (upd (upd τ i (.par n p .add)) j (.ch k .idle .work)):=by
 have aI:upd τ i (.par n p .add) j=.nil:=by rw[upd_ne _ _ (Ne.symm fP)];exact Θ
 have key:∀φ:Tok->Nat,bh N (upd (upd τ i (.par n p .add)) j (.ch k .idle .work)) φ+φ .nil+φ (.par n (p+1) .add)=bh N τ φ+φ (.par n p .add)+φ (.ch k .idle .work):=λφ=>by
  have Ζ:=g2 τ (.par n p .add) φ hi
  have Ε:=g2 (upd τ i (.par n p .add)) (.ch k .idle .work) φ ζ;rw[Υ] at Ζ;rw[aI] at Ε;omega
 obtain⟨db,di⟩:=h;constructor
 ·unfold qw at db ⊢;have f1:=key jf;have f2:=key oP;have f3:=key nd;have f4:=key mm;have f5:=key n7;have f6:=key mo;have f7:=key rM;have f8:=key oQ;have f9:=key rL;simp only[jf,oP,nd,mm,n7,mo,rM,oQ,rL,zP,CJ,v5,zQ,CK,zR,GP,CL,GO,Nat.add_zero] at f1 f2 f3 f4 f5 f6 f7 f8 f9;rw[f1,f2,f3,f4,f5,f6,f7,f8,f9];exact db
 ·unfold pC at di ⊢;have f1:=key jU;have f2:=key kT;have f3:=key kU;have f4:=key mq;have f5:=key fc;have f6:=key h3;have f7:=key jg;have f8:=key nf;have f9:=key mr;have f10:=key jh;simp only[jU,kT,kU,mq,fc,h3,jg,nf,mr,jh,sU,v7,v8,Nat.add_zero] at f1 f2 f3 f4 f5 f6 f7 f8 f9 f10;obtain⟨gJ,uF,zU,zV,GX,TF,TG,TH,TI⟩:=di;constructor<;>omega
theorem TK {j n p:Nat} (hi:i<N) (ζ:j<N) (fP:i≠j) (Υ:τ i=.par n (p+1) .add) (Θ:τ j=.nil) (k:Nat) :
  eZ N o (upd (upd τ i (.par n p .add)) j (.ch k .idle .work))<eZ N o τ:=by
 have aI:upd τ i (.par n p .add) j=.nil:=by rw[upd_ne _ _ (Ne.symm fP)];exact Θ
 have Ζ:=g2 τ (.par n p .add) (ng o.top) hi
 have Ε:=g2 (upd τ i (.par n p .add)) (.ch k .idle .work) (ng o.top) ζ;rw[Υ] at Ζ;rw[aI] at Ε;simp only[ng,v9,CM,x4] at Ζ Ε;unfold eZ;omega
theorem CS {φ:Tok->Nat} (h:0<bh N τ φ):∃i,i<N/\0<φ (τ i):=by
 have g3:∀n,0<bh n τ φ->∃i,i<n/\0<φ (τ i):=λn=>by
  induction n with
  | zero=>intro h;cases h
  | succ n Α=>
   intro h;rw[wh] at h;by_cases ao:0<φ (τ n)
   ·exact⟨n,J,ao⟩
   ·obtain⟨i,hi,ω⟩:=Α J;exact⟨i,J,ω⟩
 exact g3 N h
def pE:Tok->Prop
 | .ch _ .own _|.ch _ (.dA _) _|.ch _ .fin _|.ch _ .us _|.ch _ .wk _|.ch _ .hw _|.ch _ (.act true) _|.ch _ .uc _=>True
 | _=>False
theorem TM (h:qw N o τ) (Χ:0<bh N τ mm) (ao:o.dm=0):∃i,i<N/\pE (τ i):=by
 have pick:∀{φ:Tok->Nat},(∀t,0<φ t->pE t)->0<bh N τ φ->∃i,i<N/\pE (τ i):=λeS ω=>let ⟨i,hi,δ⟩:=CS ω;⟨i,hi,eS _ δ⟩
 have TN:∀t,0<jf t->pE t:=λt Υ=>by cases t<;>simp_all [jf,pE];rename_i m _;cases m<;>simp_all [zP]
 have CU:∀t,0<oP t->pE t:=λt Υ=>by cases t<;>simp_all [oP,pE];rename_i m _;cases m<;>simp_all [CJ]
 have qB:∀t,0<nd t->pE t:=λt Υ=>by cases t<;>simp_all [nd,pE];rename_i m _;cases m<;>simp_all [v5];rename_i b;cases b<;>simp_all [v5]
 have TO:∀t,0<oQ t->pE t:=λt Υ=>by cases t<;>simp_all [oQ,pE];rename_i m _;cases m<;>simp_all [CL]
 obtain⟨f1,f2,f3,ix,nh,wc,uF,zU,zV⟩:=h;by_cases c1:0<bh N τ jf
 ·exact pick TN c1
 by_cases c2:0<bh N τ oP
 ·exact pick CU c2
 by_cases c3:0<bh N τ nd
 ·exact pick qB c3
 by_cases c4:0<bh N τ oQ
 ·exact pick TO c4
 exfalso;rcases(show o.sv=0\/o.sv=1 by omega) with ξ|ξ
 ·have:=nh ξ;have:=uF ξ;omega
 ·have:=wc ξ;omega
def rP:Tok->Prop
 | .ch _ _ .work|.ch _ _ .rel|.ch _ _ .l2|.ch _ _ .iw=>True
 | _=>False
theorem TP (h:pC N o τ) {n p:Nat} (hi:i<N) (Υ:τ i=.par n p .w3) (ao:o.cU=0):∃j,j<N/\rP (τ j):=by
 have pick:∀{φ:Tok->Nat},(∀t,0<φ t->rP t)->0<bh N τ φ->∃i,i<N/\rP (τ i):=λeS ω=>let ⟨i,hi,δ⟩:=CS ω;⟨i,hi,eS _ δ⟩
 have bE:∀t,0<jU t->rP t:=λt Υ=>by cases t<;>simp_all [jU,rP];rename_i m;cases m<;>simp_all [sU]
 have c6:∀t,0<kT t->rP t:=λt Υ=>by cases t<;>simp_all [kT,rP];rename_i m;cases m<;>simp_all [v7]
 have fX:∀t,0<kU t->rP t:=λt Υ=>by cases t<;>simp_all [kU,rP];rename_i m;cases m<;>simp_all [v8]
 have w:=qy (φ:=mr) (λt Υ=>by cases t<;>simp_all [fc,mr]) h.oR hi (by rw[Υ];rfl);rw[Υ] at w;have:=h.Tj w;have:=h.GQ;by_cases c1:0<bh N τ jU
 ·exact pick bE c1
 by_cases c2:0<bh N τ kT
 ·exact pick c6 c2
 by_cases c3:0<bh N τ kU
 ·exact pick fX c3
 exfalso;omega
end
end Go.TL
namespace Go.TL
open Go.Conc
open Go.ConcM (OsLater)
open Go.ConcN (sumTo upd sumTo_upd upd_ne upd_same sumTo_congr le_sumTo)
open Go.ConcR (mk)
inductive gK (B:Type):Type where
 | leaf
 | node (f:B->gK B)
inductive n8 {B:Type}:List (gK B)->List (gK B)->Prop where
 | one (a b:List (gK B)) (f:B->gK B) (k:B):n8 (a++f k::b) (a++gK.node f::b)
 | two (a b:List (gK B)) (f:B->gK B) (k al:B):n8 (a++f k::f al::b) (a++gK.node f::b)
theorem n8.cons_inv {B:Type} {l:List (gK B)} {t:gK B} {m:List (gK B)} (h:n8 m (t::l)) :
  (∃ck,n8 ck l/\m=t::ck)\/(∃f k,t=.node f/\m=f k::l)\/(∃f k al,t=.node f/\m=f k::f al::l):=by
 generalize δ:t::l=x at h;cases h with
 | one a b f k=>
  cases a with
  | nil=>simp at δ;exact .inr (.inl ⟨f,k,δ.1,by rw[δ.2];rfl⟩)
  | cons y a=>simp at δ;exact .inl ⟨a++f k::b,by rw[δ.2];exact .one a b f k,by rw[δ.1];rfl⟩
 | two a b f k al=>
  cases a with
  | nil=>simp at δ;exact .inr (.inr ⟨f,k,al,δ.1,by rw[δ.2];rfl⟩)
  | cons y a=>simp at δ;exact .inl ⟨a++f k::f al::b,by rw[δ.2];exact .two a b f k al,by rw[δ.1];rfl⟩
theorem n8.TQ {B:Type} (t:gK B):∀l,Acc n8 l->Acc n8 (t::l):=by
 induction t with
 | leaf=>
  intro l π
  induction π with
  | intro l _ Α=>
   refine⟨_,λm hm=>?_⟩;rcases hm.cons_inv with⟨ck,U,rfl⟩|⟨f,k,h,_⟩|⟨f,k,al,h,_⟩
   ·exact Α ck U
   ·cases h
   ·cases h
 | node f GZ=>
  intro l π
  induction π with
  | intro l sV Α=>
   refine⟨_,λm hm=>?_⟩;rcases hm.cons_inv with⟨ck,U,rfl⟩|⟨f',k,h,rfl⟩|⟨f',k,al,h,rfl⟩
   ·exact Α ck U
   ·cases h;exact GZ k l ⟨l,sV⟩
   ·cases h;exact GZ k _ (GZ al l ⟨l,sV⟩)
theorem n8.wf {B:Type}:WellFounded (n8 (B:=B)):=⟨λl=>by
 induction l with
 | nil=>exact⟨_,λm hm=>by
   generalize δ:([]:List (gK B))=x at hm;cases hm<;>simp at δ⟩
 | cons t l Α=>exact n8.TQ t l Α⟩
structure a7 where
 G:Γ
 aR:Nat->Option (Array Value×TypeId)
 tok:Nat->Tok
 spec:Nat->Option Spec
 view:Nat->Option (Nat×aW)
 deaf:Nat
 rel:Bool
def zW (V:Nat->Option (Array Value×TypeId)) (w:World):Prop:=∀b c t,V b=some (c,t)->w.heap[b]?=some (.cells c t (0,0))
def c7 (o:aW):Int:=(o.cnt:Int)*4294967296+o.wt
def mwd (o:aW):Int:=(o.cr:Int)+2*o.wk+4*o.sv+8*o.nw
def At (s:Nat) (o:aW) (w:World):Prop:=
 (∃ty,w.heap[s]?=some (.cells #[.int .u64 (c7 o),.int .u32 o.cU] ty (0,0)))/\∀m,o.a4=some m->∃ty,w.heap[m]?=some (.cells #[.int .i32 (mwd o),.int .u32 o.dm] ty (0,0))
def eN (s:Nat) (sp:Spec) (b:Nat):Prop:=b=s\/sp.a4=some b
def wi (o:aW) (t:Tok):Prop:=∃N τ i,uD N o τ/\i<N/\τ i=t/\(∀k L g,t=.ch k (.dA L) g->o.L=L)
def G1 (x:a7) (s φ:Nat) (o:aW):Prop:=∀hp mx,x.view s=some (hp,mx)->φ<=hp/\(φ=hp->o=mx)
structure Sub (G' G:Γ):Prop where
 aS:∀b o v p,G'.aS b o=some (v,p)->∃fY,G.aS b o=some (v,fY)/\(p=true->fY=true)
 row:∀b x,G'.row b=some x->G.row b=some x
 obj:∀b x,G'.obj b=some x->G.obj b=some x
structure Split (G n9 n':Γ):Prop where
 l:Sub n9 G
 r:Sub n' G
 apart:Apart n9 n'
def join (G H:Γ):Γ:=
 ⟨λb o=>match G.aS b o with|some x=>some x|none=>H.aS b o,λb=>match G.row b with|some x=>some x|none=>H.row b,λb=>match G.obj b with|some x=>some x|none=>H.obj b⟩
def my (D:Nat->Γ->Prop):List Nat->Γ->Prop
 | [],E=>E=Γ.empty
 | k::L2,E=>∃qC qD,D k qC/\my D L2 qD/\Apart qC qD/\E=join qC qD
structure CV (G G':Γ) (n:Nat):Prop where
 aS:∀b o v p,G'.aS b o=some (v,p)->n<=b\/∃v0 fY,G.aS b o=some (v0,fY)/\(p=true->fY=true)
 obj:∀b,G'.fx b->n<=b\/G.fx b
def G2 (V:Nat->Option (Array Value×TypeId)) (V':Nat->Option (Array Value×TypeId)) (G':Γ) (n:Nat):Prop:=
 ∀b c,V' b=some c->V b=some c\/(n<=b/\G'.off b)
def CW (e:Event):Prop:=e.loc=.output\/e.loc=.mark .noRoom
def pF (s:Nat) (sp:Spec) (d:Nat) (es:Array Event):Prop:=
 deafBehind d es=d/\∀j e,es[j]?=some e->(e.loc=.mark .disable\/e.loc=.mark .enable\/(∃b off wr,e=⟨.cell ⟨b,off,none⟩,wr,true⟩/\eN s sp b/\0<deafBehind d (es.extract 0 j)))
def kW (o:aW):Tok->Prop
 | .ch _ .q _=>o.dm=0
 | .par _ _ .w3=>o.cU=0
 | _=>False
def oa:Tok->Prop
 | .nil=>True
 | .par _ _ .add|.par _ _ .bH=>True
 | .ch _ .idle _|.ch _ .done _=>True
 | _=>False
def gB:Tok->Prop
 | .nil=>True
 | .par _ _ .bH=>True
 | _=>False
def Gone:Tok->Prop
 | .nil=>True
 | .par _ _ .bH=>True
 | .ch _ _ .gone=>True
 | _=>False
abbrev zX:=Bool->Goroutine->a7->Prop
def jA (g:Goroutine):Prop:=g.status=.running/\g.offers=none
section
variable (P:Program) (mn:Bool) (R:zX) (g:Goroutine) (x:a7)
def L3:Prop:=∀w,Fits x.G w->zW x.aR w->(stepG P mn g w).goes λg' w' es=>∃G' V',jA g'/\fV x.G.owns x.G.fx w w'/\Fits G' w'/\zW V' w'/\
 CV x.G G' w.heap.size/\G2 x.aR V' G' w.heap.size/\(∀e∈es,if x.rel then CW e else h2 x.G w.heap.size w'.heap.size e)/\(∀b c,V' b=some c->w.heap.size<=b->∀e∈es,¬oO e.loc b)/\R mn g' {x with G:=G',aR:=V'}
def L4:Prop:=∃g',jA g'/\((∀w,Fits x.G w->stepG P mn g w=.go g' w #[mk .disable]/\R mn g' {x with deaf:=x.deaf+1})\/
 (0<x.deaf/\∀w,Fits x.G w->stepG P mn g w=.go g' w #[mk .enable]/\R mn g' {x with deaf:=x.deaf-1}))
def L5:Prop:=∃(s n p:Nat) (aQ:sT) (g':Goroutine) (off:Nat) (wr:Bool),x.tok s=.par n p aQ/\aQ≠.bH/\x.rel=false/\jA g'/\∀w,Fits x.G w->stepG P mn g w=.go g' w #[mk (if wr then .write ⟨s,off,none⟩ else .read ⟨s,off,none⟩)]/\R mn g' x
def Atom:Prop:=∃s sp,x.spec s=some sp/\¬gB (x.tok s)/\∀w φ o,Fits x.G w->zW x.aR w->o.toSpec=sp->At s o w->G1 x s φ o->wi o (x.tok s)->
 ((stepG P mn g w).goes λg' w' es=>jA g'/\fV (λb _=>eN s sp b) (λ_=>False) w w'/\pF s sp x.deaf es/\
   ((At s o w'/\R mn g' {x with view:=upd x.view s (some (φ,o))})\/
    ∃o' t',Act o (x.tok s) o' t'/\At s o' w'/\(mayWake P g=true\/o'=o)/\∀cE,cE<φ->R mn g' {x with tok:=upd x.tok s t',view:=upd x.view s (some (cE,o'))}))\/
 (kW o (x.tok s)/\(∀bs,bs≠s->oa (x.tok bs))/\stepG P mn g w=.go {g with status:=.blocked} w #[])
def L6:Prop:=∃s sp m k g',x.spec s=some sp/\sp.a4=some m/\x.tok s=.ch k .own .work/\x.deaf=0/\jA g'/\x.rel=false/\
 (∀w,Fits x.G w->stepG P mn g w=.go g' w #[mk (.acquire ⟨m,0,none⟩)])/\
 ∀L E,sp.av L E->Apart x.G E->(L.Nodup/\k∉L/\∃w,Fits x.G w/\Fits E w)->R mn g' {x with G:=join x.G E,tok:=upd x.tok s (.ch k (.dA L) .work),view:=upd x.view s none}
def L7:Prop:=∃s sp m k L g' G' E,x.spec s=some sp/\sp.a4=some m/\x.tok s=.ch k (.dA L) .work/\x.deaf=0/\jA g'/\x.rel=false/\
 (∀w,Fits x.G w->stepG P mn g w=.go g' w #[mk (.releaseMerge ⟨m,0,none⟩)])/\
 Split x.G G' E/\sp.av (L++[k]) E/\R mn g' {x with G:=G',tok:=upd x.tok s (.ch k .fin .work),view:=upd x.view s none}
def L8:Prop:=∃s sp k mu g' E,x.spec s=some sp/\x.tok s=.ch k mu .work/\(mu=.done\/(mu=.idle/\sp.a4=none))/\(∀bs,bs≠s->gB (x.tok bs))/\x.deaf=0/\jA g'/\x.rel=false/\
 (∀w,Fits x.G w->stepG P mn g w=.go g' w #[mk (.releaseMerge ⟨s,0,none⟩)])/\
 Sub E x.G/\sp.D k E/\R mn g' {x with G:=Γ.empty,aR:=λ_=>none,tok:=upd x.tok s (.ch k mu .rel),view:=upd x.view s none,rel:=true}
def L9:Prop:=∃s sp n aQ g',x.spec s=some sp/\x.tok s=.par n 0 aQ/\(aQ=.nb\/aQ=.w4)/\x.deaf=0/\jA g'/\x.rel=false/\
 (∀w,Fits x.G w->stepG P mn g w=.go g' w #[mk (.acquire ⟨s,0,none⟩)])/\
 ∀gL fZ hq e0,gL.Perm (List.range n)->my sp.D gL hq->(sp.a4≠none->fZ.Perm (List.range n)/\sp.av fZ e0)->(sp.a4=none->e0=Γ.empty)->Apart x.G hq->Apart x.G e0->Apart hq e0->(∃w,Fits x.G w/\Fits hq w/\Fits e0 w)->
  R mn g' {x with G:=join (join x.G hq) e0,tok:=upd x.tok s (.par n 0 .bH),view:=upd x.view s none}
def L':Prop:=∃s sp n p g' c n9 n',x.spec s=some sp/\x.tok s=.par n (p+1) .add/\x.deaf=0/\jA g'/\jA c/\x.rel=false/\
 (∀w,Fits x.G w->stepG P mn g w=.spawn g' c w #[])/\Split x.G n9 n'/\
 R mn g' {x with G:=n9,tok:=upd x.tok s (.par n p .add),view:=upd x.view s none}/\
 R false c ⟨n',λ_=>none,upd (λ_=>.nil) s (.ch (n-(p+1)) .idle .work),upd (λ_=>none) s (some sp),λ_=>none,0,false⟩
def G3:Prop:=
 (∃G',Sub G' x.G/\R mn g {x with G:=G'})\/
 (∃b c t,x.aR b=some (c,t)/\R mn g {x with aR:=upd x.aR b none,G:=⟨λag o=>if ag=b then(c[o]?).map (·,true) else x.G.aS ag o,λag=>if ag=b then some (t,c.size) else x.G.row ag,x.G.obj⟩})\/
 (∃s sp ty G' E,x.aR s=some (#[.int .u64 0,.int .u32 0],ty)/\(∀m,sp.a4=some m->m≠s/\∃kq,x.aR m=some (#[.int .i32 0,.int .u32 0],kq))/\x.rel=false/\
  Split x.G G' E/\(sp.a4≠none->sp.av [] E)/\
  R mn g {x with G:=G',aR:=λb=>if b=s\/sp.a4=some b then none else x.aR b,tok:=upd x.tok s (.par 0 0 .add),spec:=upd x.spec s (some sp),view:=upd x.view s none})
def Ma:Prop:=mn=false/\g.status=.running/\x.rel=true/\(∀s,Gone (x.tok s))/\∃g' es,(∀e∈es,Event.mute e=true)/\(∀w,stepG P false g w=.go g' w es)/\R mn g' {x with deaf:=deafBehind x.deaf es}
def zY:Prop:=Ma P mn R g x\/jA g/\(L3 P mn R g x\/L4 P mn R g x\/L5 P mn R g x\/Atom P mn R g x\/L6 P mn R g x\/L7 P mn R g x\/L8 P mn R g x\/L9 P mn R g x\/L' P mn R g x\/G3 mn R g x)
def Mb (Q:Value->Prop):Prop:=jA g/\(∀s,gB (x.tok s))/\x.deaf=0/\∀w,Fits x.G w->∃v es,stepG P true g w=.ended (.done v) w es/\(∀e∈es,h2 x.G w.heap.size w.heap.size e)/\Q v
def TR:Prop:=x.rel=true/\(∀s,Gone (x.tok s))/\g.status=.finished/\x.deaf=0
def CX (Q:Value->Prop):Prop:=(mn=true/\Mb P g x Q)\/(mn=false/\TR g x)
def zZ:Prop:=x.rel=true->(∀s,Gone (x.tok s))->∃n,QuitsD P n x.deaf g
end
open Classical in
def kr (P:Program) (Q:Value->Prop):gK (Bool×Goroutine×a7)->zX
 | .leaf=>λmn g x=>zZ P g x/\CX P mn g x Q
 | .node f=>λmn g x=>zZ P g x/\(CX P mn g x Q\/zY P mn (λwj g' dw=>kr P Q (f (wj,g',dw)) wj g' dw) g x)
def Goes (P:Program) (Q:Value->Prop):zX:=λmn g x=>∃T,kr P Q T mn g x
theorem zY.mono {P:Program} {mn:Bool} {R Mc:zX} {g:Goroutine} {x:a7} (aM:∀mn g x,R mn g x->Mc mn g x) (h:zY P mn R g x):zY P mn Mc g x:=by
 rcases h with⟨Ζ,Ε,a8,TS,g',es,fy,mw,rO⟩|⟨μ,h⟩
 ·exact .inl ⟨Ζ,Ε,a8,TS,g',es,fy,mw,aM _ _ _ rO⟩
 refine .inr ⟨μ,?_⟩;rcases h with h|h|h|h|h|h|h|h|h|h
 ·refine .inl λw Ρ hv=>?_;have:=h w Ρ hv;revert this;cases stepG P mn g w<;>simp only[GStep.goes,imp_self];rintro⟨G',V',U,γ,ο,Ι,ax,bf,hx,G4,mz⟩;exact⟨G',V',U,γ,ο,Ι,ax,bf,hx,G4,aM _ _ _ mz⟩
 ·obtain⟨g',U,γ⟩:=h;exact .inr (.inl ⟨g',U,γ.elim (λh=>.inl λw Ρ=>⟨(h w Ρ).1,aM _ _ _ (h w Ρ).2⟩) (λh=>.inr ⟨h.1,λw Ρ=>⟨(h.2 w Ρ).1,aM _ _ _ (h.2 w Ρ).2⟩⟩)⟩)
 ·obtain⟨s,n,p,aQ,g',off,wr,U,γ,h4,ο,Ι⟩:=h;exact .inr (.inr (.inl ⟨s,n,p,aQ,g',off,wr,U,γ,h4,ο,λw Ρ=>⟨(Ι w Ρ).1,aM _ _ _ (Ι w Ρ).2⟩⟩))
 ·obtain⟨s,sp,U,h4,ο⟩:=h;refine .inr (.inr (.inr (.inl ⟨s,sp,U,h4,λw φ o Ρ hv ξ ν z0 ω=>?_⟩)));refine(ο w φ o Ρ hv ξ ν z0 ω).imp (λh=>?_) id;revert h;cases stepG P mn g w<;>simp only[GStep.goes,imp_self];rintro⟨U,γ,ο,Ι⟩;exact⟨U,γ,ο,Ι.imp (λh=>⟨h.1,aM _ _ _ h.2⟩) λ⟨o',t',a1,bb,cP,gJ⟩=>⟨o',t',a1,bb,cP,λcE eS=>aM _ _ _ (gJ cE eS)⟩⟩
 ·obtain⟨s,sp,m,k,g',U,γ,ο,Ι,ax,uG,bf,hx⟩:=h;exact .inr (.inr (.inr (.inr (.inl ⟨s,sp,m,k,g',U,γ,ο,Ι,ax,uG,bf,λL E a b c=>aM _ _ _ (hx L E a b c)⟩))))
 ·obtain⟨s,sp,m,k,L,g',G',E,U,γ,ο,Ι,ax,uG,bf,hx,mz,uH⟩:=h;exact .inr (.inr (.inr (.inr (.inr (.inl ⟨s,sp,m,k,L,g',G',E,U,γ,ο,Ι,ax,uG,bf,hx,mz,aM _ _ _ uH⟩)))))
 ·obtain⟨s,sp,k,mu,g',E,U,γ,ο,Ι,ax,bf,TT,hx,mz,uH,TU⟩:=h;exact .inr (.inr (.inr (.inr (.inr (.inr (.inl ⟨s,sp,k,mu,g',E,U,γ,ο,Ι,ax,bf,TT,hx,mz,uH,aM _ _ _ TU⟩))))))
 ·obtain⟨s,sp,n,aQ,g',U,γ,ο,Ι,ax,uG,bf,hx⟩:=h;exact .inr (.inr (.inr (.inr (.inr (.inr (.inr (.inl ⟨s,sp,n,aQ,g',U,γ,ο,Ι,ax,uG,bf,λgL fZ hq e0 a b c d e f g i=>aM _ _ _ (hx gL fZ hq e0 a b c d e f g i)⟩)))))))
 ·obtain⟨s,sp,n,p,g',c,n9,n',U,γ,ο,Ι,ax,uG,bf,hx,mz,uH⟩:=h;exact .inr (.inr (.inr (.inr (.inr (.inr (.inr (.inr (.inl ⟨s,sp,n,p,g',c,n9,n',U,γ,ο,Ι,ax,uG,bf,hx,aM _ _ _ mz,aM _ _ _ uH⟩))))))))
 ·refine .inr (.inr (.inr (.inr (.inr (.inr (.inr (.inr (.inr ?_))))))));rcases h with⟨G',U,γ⟩|⟨b,c,t,U,γ⟩|⟨s,sp,ty,G',E,U,γ,ο,Ι,ax,hx⟩
  ·exact .inl ⟨G',U,aM _ _ _ γ⟩
  ·exact .inr (.inl ⟨b,c,t,U,aM _ _ _ γ⟩)
  ·exact .inr (.inr ⟨s,sp,ty,G',E,U,γ,ο,Ι,ax,aM _ _ _ hx⟩)
theorem Goes.stop {P:Program} {Q:Value->Prop} {mn:Bool} {g:Goroutine} {x:a7} (Β:zZ P g x) (h:CX P mn g x Q):Goes P Q mn g x:=⟨.leaf,Β,h⟩
open Classical in
theorem Goes.step {P:Program} {Q:Value->Prop} {mn:Bool} {g:Goroutine} {x:a7} (Β:zZ P g x) (h:zY P mn (Goes P Q) g x):Goes P Q mn g x:=by
 refine⟨.node λk=>if ψ:∃T,kr P Q T k.1 k.2.1 k.2.2 then Classical.choose ψ else .leaf,Β,.inr (h.mono λwj g' dw Ω=>?_)⟩;have ψ:∃T,kr P Q T wj g' dw:=Ω;simp only[ψ,dif_pos];exact Classical.choose_spec ψ
theorem Goes.quits {P:Program} {Q:Value->Prop} (n:Nat):∀{g:Goroutine} {x:a7},x.rel=true->(∀s,Gone (x.tok s))->QuitsD P n x.deaf g->Goes P Q false g x:=by
 induction n with
 | zero=>
  intro g x μ Ω Χ;exact .stop (λ_ _=>⟨0,Χ⟩) (.inr ⟨rfl,μ,Ω,Χ.1,Χ.2⟩)
 | succ n Α=>
  intro g x μ Ω Χ;rcases Χ with Χ|⟨ξ,g',es,U,γ,ο⟩
  ·exact .stop (λ_ _=>⟨0,Χ⟩) (.inr ⟨rfl,μ,Ω,Χ.1,Χ.2⟩)
  ·exact .step (λ_ _=>⟨n+1,.inr ⟨ξ,g',es,U,γ,ο⟩⟩) (.inl ⟨rfl,ξ,μ,Ω,g',es,U,γ,Α (x:={x with deaf:=deafBehind x.deaf es}) μ Ω ο⟩)
abbrev cS:=Nat ⊕ Nat
def bV (H:cS->Γ) (h:cS) (G:Γ):cS->Γ:=λk=>if k=h then G else H k
@[simp] theorem dY (H:cS->Γ) (h:cS) (G:Γ):bV H h G h=G:=by simp[bV]
theorem bW (H:cS->Γ) {h k:cS} (G:Γ) (ψ:k≠h):bV H h G k=H k:=by simp[bV,ψ]
structure dn where
 H:cS->Γ
 aR:Nat->Nat->Option (Array Value×TypeId)
 tok:Nat->Nat->Tok
 spec:Nat->Nat->Option Spec
 view:Nat->Nat->Option (Nat×aW)
 deaf:Nat->Nat
 rel:Nat->Bool
 T:Nat->gK (Bool×Goroutine×a7)
 O:Nat->Option aW
 bC:Nat->Nat
 home:Nat->Nat
 dP:Nat->Nat
def dn.x (c:dn) (i:Nat):a7:=⟨c.H (.inl i),c.aR i,c.tok i,c.spec i,c.view i,c.deaf i,c.rel i⟩
structure hO (H:cS->Γ) (aR:Nat->Nat->Option (Array Value×TypeId)) (O:Nat->Option aW) (bu w:World):Prop where
 fit:∀h,Fits (H h) w
 ni:∀i,zW (aR i) w
 gl:∀s o,O s=some o->At s o w
 keep:fV (λ_ _=>False) (λ_=>False) bu w
structure ji (H:cS->Γ) (aR:Nat->Nat->Option (Array Value×TypeId)) (O:Nat->Option aW) (h5:Nat):Prop where
 apart:∀h k,h≠k->Apart (H h) (H k)
 high:∀h b o,(H h).owns b o->h5<=b
 oT:∀h b,(H h).fx b->h5<=b
 fresh:∀i b v,aR i b=some v->h5<=b/\(∀h,(H h).off b)/\∀j,j≠i->aR j b=none
 lx:∀s o b,O s=some o->eN s o.toSpec b->h5<=b/\(∀h,(H h).off b)/\∀j,aR j b=none
 lP:∀s bs o o' b,O s=some o->O bs=some o'->eN s o.toSpec b->eN bs o'.toSpec b->s=bs
 qE:∀s o m,O s=some o->o.a4=some m->m≠s
 eT:∀b,(∀s o,O s=some o->¬eN s o.toSpec b)->H (.inr b)=Γ.empty
theorem hO.own {H:cS->Γ} {aR:Nat->Nat->Option (Array Value×TypeId)} {O:Nat->Option aW} {bu w w':World} {h5:Nat} (db:hO H aR O bu w) (Δ:ji H aR O h5) (i:Nat) {G':Γ} {V':Nat->Option (Array Value×TypeId)}
  (ψ:fV (H (.inl i)).owns (H (.inl i)).fx w w') (Ρ:Fits G' w') (hv:zW V' w') (ao:bu.heap.size=h5):hO (bV H (.inl i) G') (upd aR i V') O bu w':=by
 have ap:∀h,h≠.inl i->(∀b o,(H (.inl i)).owns b o->¬(H h).has b o)/\∀b,(H (.inl i)).fx b->¬(H h).fx b:=λh a5=>⟨(Δ.apart _ _ (Ne.symm a5)).aS,(Δ.apart _ _ (Ne.symm a5)).obj⟩;refine⟨λh=>?_,λj=>?_,λs o ξ=>?_,?_⟩
 ·by_cases a5:h=.inl i
  ·subst a5;rw[dY];exact Ρ
  ·rw[bW _ _ a5];exact(db.fit h).keeps ψ (ap h a5).1 (ap h a5).2
 ·by_cases ζ:j=i
  ·subst ζ;rw[upd_same];exact hv
  ·rw[upd_ne _ _ ζ];intro b c t hb;obtain⟨c',U,γ,ο⟩:=ψ.cells b c t _ (db.ni j b c t hb);have off:=(Δ.fresh j b _ hb).2.1 (.inl i);have:c'=c:=by
    apply Array.ext_getElem?;intro o;exact ο o λ⟨v,hv⟩=>off.1 o ⟨_,hv⟩
   rw[U,this]
 ·have off:=λb (hb:eN s o.toSpec b)=>(Δ.lx s o b ξ hb).2.1 (.inl i)
  have z1:∀b c t,eN s o.toSpec b->w.heap[b]?=some (.cells c t (0,0))->w'.heap[b]?=some (.cells c t (0,0)):=λb c t hb ε=>by
   obtain⟨c',U,γ,ο⟩:=ψ.cells b c t _ ε;have:c'=c:=by
    apply Array.ext_getElem?;intro o';exact ο o' λ⟨v,hv⟩=>(off b hb).1 o' ⟨_,hv⟩
   rw[U,this]
  obtain⟨⟨ty,U⟩,γ⟩:=db.gl s o ξ;exact⟨⟨ty,z1 _ _ _ (.inl rfl) U⟩,λm hm=>let ⟨kq,ο⟩:=γ m hm;⟨kq,z1 _ _ _ (.inr hm) ο⟩⟩
 ·have e1:=db.keep;refine⟨Nat.le_trans e1.size ψ.size,λb c t ep hb=>?_,λb x hb δ _=>?_,e1.os.trans ψ.os,ψ.output.trans e1.output,ψ.tape.trans e1.tape⟩
  ·obtain⟨c1,U,γ,ο⟩:=e1.cells b c t ep hb;obtain⟨c2,Ι,ax,bf⟩:=ψ.cells b c1 t ep U;refine⟨c2,Ι,by rw[ax,γ],λo _=>?_⟩;rw[bf o λδ=>?_,ο o id];have:=Δ.high _ _ _ δ;have:=fW hb;omega
  ·refine ψ.n5 b x (e1.n5 b x hb δ id) δ λiv=>?_;have:=Δ.oT _ _ iv;have:=fW hb;omega
theorem hO.at {H:cS->Γ} {aR:Nat->Nat->Option (Array Value×TypeId)} {O:Nat->Option aW} {bu w:World} (h:hO H aR O bu w) (d:Nat):hO H aR O bu (w.at d):=
 ⟨λk=>(h.fit k).at d,h.ni,h.gl,⟨h.keep.size,h.keep.cells,h.keep.n5,h.keep.os,h.keep.output,h.keep.tape⟩⟩
theorem ji.own {H:cS->Γ} {aR:Nat->Nat->Option (Array Value×TypeId)} {O:Nat->Option aW} {h5:Nat} {w:World} {bu:World} (Δ:ji H aR O h5) (db:hO H aR O bu w) (cK:h5<=w.heap.size) (i:Nat) {G':Γ} {V':Nat->Option (Array Value×TypeId)}
  (Ω:CV (H (.inl i)) G' w.heap.size) (rQ:G2 (aR i) V' G' w.heap.size):ji (bV H (.inl i) G') (upd aR i V') O h5:=by
 have Md:∀b o,G'.has b o->w.heap.size<=b\/(H (.inl i)).has b o:=λb o ⟨⟨v,p⟩,h⟩=>(Ω.aS b o v p h).imp id λ⟨v0,fY,ao,_⟩=>⟨_,ao⟩
 have Me:∀b o,G'.owns b o->w.heap.size<=b\/(H (.inl i)).owns b o:=λb o ⟨v,h⟩=>(Ω.aS b o v true h).imp id λ⟨v0,fY,ao,ω⟩=>⟨v0,by rw[ao,ω rfl]⟩
 have wm:∀h b o,(H h).has b o->b<w.heap.size:=λh b o ⟨⟨v,p⟩,δ⟩=>by
  obtain⟨c,t,ep,hb,_⟩:=rK ((db.fit h).aS b o v p δ);exact fW hb
 have z2:∀h b,(H h).fx b->b<w.heap.size:=λh b ⟨x,δ⟩=>fW ((db.fit h).obj b x δ).1
 have Mf:∀k,k≠.inl i->Apart G' (H k):=λk ψ=>by
  have a:=Δ.apart _ _ (Ne.symm ψ);refine⟨λb o Β δ=>?_,λb o Β δ=>?_,λb Β δ=>?_⟩
  ·rcases Me b o Β with h|h
   ·have:=wm k b o δ;omega
   ·exact a.aS b o h δ
  ·rcases Md b o δ with h|h
   ·have:=wm k b o (let ⟨v,hv⟩:=Β;⟨_,hv⟩);omega
   ·exact a.rJ b o Β h
  ·rcases Ω.obj b Β with h|h
   ·have:=z2 k b δ;omega
   ·exact a.obj b h δ
 have TV:∀{A B:Γ},Apart A B->Apart B A:=λh=>⟨h.rJ,h.aS,λb hb ν=>h.obj b ν hb⟩
 have G5:∀b,b<w.heap.size->(H (.inl i)).off b->G'.off b:=λb hb h=>⟨λo Β=>(Md b o Β).elim (λx=>J) (h.1 o),λΒ=>(Ω.obj b Β).elim (λx=>J) h.2⟩
 have x5:∀j b v,aR j b=some v->b<w.heap.size:=λj b v hv=>fW (db.ni j b v.1 v.2 hv)
 have G6:∀s o b,O s=some o->eN s o.toSpec b->b<w.heap.size:=λs o b ξ hb=>by
  obtain⟨⟨ty,U⟩,γ⟩:=db.gl s o ξ;rcases hb with rfl|hb
  ·exact fW U
  ·obtain⟨kq,ο⟩:=γ b hb;exact fW ο
 refine⟨λh k ψ=>?_,λh b o Β=>?_,λh b Β=>?_,λj b v hv=>?_,λs o b ξ hb=>?_,Δ.lP,Δ.qE,λb hb=>?_⟩
 ·by_cases a5:h=.inl i
  ·subst a5;rw[dY,bW _ _ (Ne.symm ψ)];exact Mf k (Ne.symm ψ)
  ·by_cases kk:k=.inl i
   ·subst kk;rw[dY,bW _ _ a5];exact TV (Mf h a5)
   ·rw[bW _ _ a5,bW _ _ kk];exact Δ.apart h k ψ
 ·by_cases a5:h=.inl i
  ·subst a5;rw[dY] at Β;rcases Me b o Β with h|h
   ·omega
   ·exact Δ.high _ _ _ h
  ·rw[bW _ _ a5] at Β;exact Δ.high _ _ _ Β
 ·by_cases a5:h=.inl i
  ·subst a5;rw[dY] at Β;rcases Ω.obj b Β with h|h
   ·omega
   ·exact Δ.oT _ _ h
  ·rw[bW _ _ a5] at Β;exact Δ.oT _ _ Β
 ·by_cases ζ:j=i
  ·subst ζ;rw[upd_same] at hv;rcases rQ b v hv with h|⟨U,γ⟩
   ·obtain⟨a1,bb,cP⟩:=Δ.fresh j b v h;refine⟨a1,λdh=>?_,λbP aI=>by rw[upd_ne _ _ aI];exact cP bP aI⟩;by_cases a5:dh=.inl j
    ·subst a5;rw[dY];exact G5 b (x5 j b v h) (bb _)
    ·rw[bW _ _ a5];exact bb _
   ·refine⟨J,λdh=>?_,λbP aI=>?_⟩
    ·by_cases a5:dh=.inl j
     ·subst a5;rw[dY];exact γ
     ·rw[bW _ _ a5];exact⟨λo Β=>by have:=wm dh b o Β;omega,λΒ=>by have:=z2 dh b Β;omega⟩
    ·rw[upd_ne _ _ aI];cases ε:aR bP b with
     | none=>rfl
     | some fG=>have:=x5 bP b fG ε;omega
  ·rw[upd_ne _ _ ζ] at hv;obtain⟨a1,bb,cP⟩:=Δ.fresh j b v hv;have hb:=x5 j b v hv;refine⟨a1,λdh=>?_,λbP aI=>?_⟩
   ·by_cases a5:dh=.inl i
    ·subst a5;rw[dY];exact G5 b hb (bb _)
    ·rw[bW _ _ a5];exact bb _
   ·by_cases dh:bP=i
    ·subst dh;rw[upd_same];cases ε:V' b with
     | none=>rfl
     | some fG=>
      rcases rQ b fG ε with h|⟨U,_⟩
      ·rw[cP bP aI] at h;cases h
      ·omega
    ·rw[upd_ne _ _ dh];exact cP bP aI
 ·obtain⟨a1,bb,cP⟩:=Δ.lx s o b ξ hb;have uI:=G6 s o b ξ hb;refine⟨a1,λdh=>?_,λbP=>?_⟩
  ·by_cases a5:dh=.inl i
   ·subst a5;rw[dY];exact G5 b uI (bb _)
   ·rw[bW _ _ a5];exact bb _
  ·by_cases dh:bP=i
   ·subst dh;rw[upd_same];cases ε:V' b with
    | none=>rfl
    | some fG=>
     rcases rQ b fG ε with h|⟨U,_⟩
     ·rw[cP bP] at h;cases h
     ·omega
   ·rw[upd_ne _ _ dh];exact cP bP
 ·rw[bW _ _ η];exact Δ.eT b hb
def ks (tok:Nat->Nat->Tok) (O:Nat->Option aW) (t:Trace):cS->Nat->Prop
 | .inl i,k=>Knows t i k
 | .inr b,k=>(∃p op,t[p]?=some op/\op.act=.mark (.releaseMerge ⟨b,0,none⟩)/\t.heard p/\Before t k p)\/(∀s o,O s=some o->eN s o.toSpec b->∀i,tok i s≠.nil->Knows t i k)
theorem G7 {tok:Nat->Nat->Tok} {O:Nat->Option aW} {t:Trace} (u:Trace) {h:cS} {k:Nat} (ψ:ks tok O t h k):ks tok O (t++u) h k:=by
 cases h with
 | inl i=>exact Knows.app u ψ
 | inr b=>
  rcases ψ with⟨p,op,U,γ,ο,Ι⟩|h
  ·have ω:=lt_size_of_getElem? U;exact .inl ⟨p,op,by rw[getElem?_append_old ω];exact U,γ,(heard_old ω).2 ο,Ι.app u⟩
  ·exact .inr λs o ξ hb i hi=>(h s o ξ hb i hi).app u
structure jB (H:cS->Γ) (aR:Nat->Nat->Option (Array Value×TypeId)) (tok:Nat->Nat->Tok) (O:Nat->Option aW) (bC:Nat->Nat) (deaf:Nat->Nat) (N:Nat) (t:Trace):Prop where
 race:∀said,¬Race said t
 low:∀op∈t,op.act.low N
 norel:∀op∈t,∀a,op.act≠.mark (.release a)
 perms:∀h,dE t (ks tok O t h) (H h)
 pG:∀i b v,aR i b=some v->∀k a,touchAt t k=some a->¬oO a.loc b
 cont:∀s o b,O s=some o->eN s o.toSpec b->∀k a,touchAt t k=some a->oO a.loc b->a.kind=.atomic\/(a.kind=.said/\t.g? k=some (bC s))
 hears:∀i,Deaf t i=deaf i
theorem z3 {t:Trace} {N k:Nat} {a:Touch} (h:∀op∈t,op.act.low N) (ν:touchAt t k=some a) {b:Nat} (hb:oO a.loc b):b<N:=by
 obtain⟨op,Β,jj⟩:=touch_of ν;have π:=h op (mem_of_getElem? Β);obtain⟨g,fn,pos,act⟩:=op;cases act with
 | access e=>
  simp only[MemAct.touch?,Option.some.injEq] at jj;subst jj;obtain⟨loc,wr,pH⟩:=e;cases loc<;>simp only[oO] at hb<;>first|(subst hb;exact π)|exact hb.elim
 | mark m=>
  cases m<;>simp only[MemAct.touch?,Option.some.injEq,reduceCtorEq] at jj<;>(subst jj;simp only[oO] at hb;subst hb;exact π)
 | _=>simp[MemAct.touch?] at jj
theorem CW.G8 {G:Γ} {n jT:Nat} {e:Event} (h:CW e):h2 G n jT e:=by
 rcases h with h|h<;>simp[h2,h]
theorem CY {G:Γ} {n jT:Nat} {e:Event} (he:h2 G n jT e) {a:Touch} (ν:(MemAct.ofEvent e).touch?=some a) :
  a.loc=e.loc/\a.write=e.write/\(a.loc.isMemory=true->(∃cM,e.loc=.cell cM)\/∃r,e.loc=.obj r):=by
 obtain⟨loc,wr,pH⟩:=e;cases loc with
 | cell cM=>simp[MemAct.ofEvent,MemAct.touch?] at ν;subst ν;simp
 | obj r=>
  simp only[h2] at he;obtain⟨rfl,_⟩:=he;cases wr<;>simp[MemAct.ofEvent,MemAct.touch?] at ν<;>subst ν<;>simp
 | output=>simp[MemAct.ofEvent,MemAct.touch?] at ν;subst ν;simp[Loc.isMemory]
 | goroutines=>exact he.elim
 | mark m=>simp only[h2] at he;subst he;simp[MemAct.ofEvent,MemAct.touch?] at ν
theorem jB.own {H:cS->Γ} {aR:Nat->Nat->Option (Array Value×TypeId)} {tok:Nat->Nat->Tok} {O:Nat->Option aW} {bC:Nat->Nat} {deaf:Nat->Nat} {bu w w':World} {h5:Nat} {t:Trace}
  (Ν:jB H aR tok O bC deaf w.heap.size t) (db:hO H aR O bu w) (Δ:ji H aR O h5) (i:Nat) {G':Γ} {V':Nat->Option (Array Value×TypeId)} {es:Array Event} {fn:FuncId} {pos:String}
  (cA:w.heap.size<=w'.heap.size) (Ω:CV (H (.inl i)) G' w.heap.size) (rQ:G2 (aR i) V' G' w.heap.size)
  (gC:∀e∈es,h2 (H (.inl i)) w.heap.size w'.heap.size e) (G9:∀b c,V' b=some c->w.heap.size<=b->∀e∈es,¬oO e.loc b) :
  jB (bV H (.inl i) G') (upd aR i V') tok O bC deaf w'.heap.size (t++MemOp.ofEvents i fn pos es):=by
 have hu:∀op∈MemOp.ofEvents i fn pos es,op.g=i:=λop Τ=>by obtain⟨e,_,rfl⟩:=Go.Conc.mem_ofEvents Τ;rfl
 have wm:∀h b o,(H h).has b o->b<w.heap.size:=λh b o ⟨⟨v,p⟩,δ⟩=>by
  obtain⟨c,t,ep,hb,_⟩:=rK ((db.fit h).aS b o v p δ);exact fW hb
 have z2:∀h b,(H h).fx b->b<w.heap.size:=λh b ⟨x,δ⟩=>fW ((db.fit h).obj b x δ).1
 have x5:∀j b v,aR j b=some v->b<w.heap.size:=λj b v hv=>fW (db.ni j b v.1 v.2 hv)
 have G6:∀s o b,O s=some o->eN s o.toSpec b->b<w.heap.size:=λs o b ξ hb=>by
  obtain⟨⟨ty,U⟩,γ⟩:=db.gl s o ξ;rcases hb with rfl|hb
  ·exact fW U
  ·obtain⟨kq,ο⟩:=γ b hb;exact fW ο
 have Ha:∀e∈es,∀b,b<w.heap.size->(H (.inl i)).off b->¬oO e.loc b:=λe he b hb sW fH=>by
  have:=gC e he;obtain⟨loc,wr,pH⟩:=e;cases loc with
  | cell cM=>
   simp only[oO] at fH;subst fH;simp only[h2] at this;rcases this with h|⟨_,h⟩
   ·omega
   ·cases wr
    ·exact sW.1 _ h
    ·obtain⟨v,hv⟩:=h;exact sW.1 _ ⟨_,hv⟩
  | obj r=>
   simp only[oO] at fH;subst fH;simp only[h2] at this;rcases this.2 with h|h
   ·omega
   ·exact sW.2 h
  | _=>exact fH
 refine⟨λsaid=>noRace_append (Ν.race said) hu λk a ν op Τ b hb ε=>?_,λop Τ=>?_,λop Τ=>?_,λh=>?_,λj b v hv k a ν fH=>?_,λs o b ξ hb k a ν fH=>?_,λj=>?_⟩
 ·obtain⟨e,he,rfl⟩:=Go.Conc.mem_ofEvents Τ;obtain⟨U,γ,ο⟩:=CY (gC e he) hb;obtain⟨c1,c2,c3,_⟩:=ε;have dQ:=gC e he;rcases ο (by rw[<-c1];exact c2) with⟨cM,π⟩|⟨r,π⟩
  ·simp only[h2,π] at dQ;have lQ:a.loc=.cell cM:=by rw[c1,U,π]
   rcases dQ with h|⟨ca,h⟩
   ·have:=z3 Ν.low ν (b:=cM.block) (by rw[lQ];rfl);omega
   ·obtain⟨pI,kζ,sp⟩:=cM;simp only at ca;subst ca;by_cases hw:e.write=true
    ·rw[if_pos hw] at h;obtain⟨v,hv⟩:=h;exact(Ν.perms (.inl i)).aS _ _ v true hv k a ν lQ (.inl rfl)
    ·rw[if_neg hw] at h;obtain⟨⟨v,p⟩,hv⟩:=h;exact(Ν.perms (.inl i)).aS _ _ v p hv k a ν lQ (.inr (c3.resolve_right (by rw[γ];exact hw)))
  ·simp only[h2,π] at dQ;have lQ:a.loc=.obj r:=by rw[c1,U,π]
   rcases dQ.2 with h|h
   ·have:=z3 Ν.low ν (b:=r) (by rw[lQ];rfl);omega
   ·exact(Ν.perms (.inl i)).obj r h k a ν lQ
 ·rcases Array.mem_append.1 Τ with h|h
  ·exact MemAct.low_mono cA (Ν.low op h)
  ·obtain⟨e,he,rfl⟩:=Go.Conc.mem_ofEvents h;have dQ:=gC e he;obtain⟨loc,wr,pH⟩:=e;cases loc with
   | cell cM=>
    simp only[h2] at dQ;show cM.block<_;rcases dQ with h|⟨_,h⟩
    ·exact h.2
    ·cases wr
     ·have:=wm _ _ _ h;omega
     ·obtain⟨v,hv⟩:=h;have:=wm (.inl i) _ _ ⟨_,hv⟩;omega
   | obj r=>
    simp only[h2] at dQ;obtain⟨rfl,dQ⟩:=dQ;have μ:r<w'.heap.size:=dQ.elim (λh=>h.2) (λh=>by have:=z2 _ _ h;omega);cases wr<;>exact μ
   | output=>trivial
   | goroutines=>exact dQ.elim
   | mark m=>simp only[h2] at dQ;subst dQ;trivial
 ·rcases Array.mem_append.1 Τ with h|h
  ·exact Ν.norel op h
  ·obtain⟨e,he,rfl⟩:=Go.Conc.mem_ofEvents h;intro a h;have dQ:=gC e he;obtain⟨loc,wr,pH⟩:=e;cases loc with
   | mark m=>simp only[h2] at dQ;subst dQ;simp[MemAct.ofEvent] at h
   | obj r=>cases wr<;>cases pH<;>simp[MemAct.ofEvent] at h
   | _=>simp[MemAct.ofEvent] at h
 ·by_cases a5:h=.inl i
  ·subst a5;rw[dY];have Mg:dE (t++MemOp.ofEvents i fn pos es) (Knows (t++MemOp.ofEvents i fn pos es) i) (H (.inl i)):=(Ν.perms (.inl i)).own hu;refine⟨λb o v p ε k a ν π hw=>?_,λb hb k a ν π=>?_⟩
   ·rcases Ω.aS b o v p ε with Θ|⟨v0,fY,ao,ω⟩
    ·rcases n6 ν with ew|⟨_,op,Τ,ψ,_⟩
     ·have:=z3 Ν.low ew (b:=b) (by rw[π];rfl);omega
     ·have:=knows_own ψ;rwa [hu op Τ] at this
    ·exact Mg.aS b o v0 fY ao k a ν π (hw.imp ω id)
   ·rcases Ω.obj b hb with Θ|ao
    ·rcases n6 ν with ew|⟨_,op,Τ,ψ,_⟩
     ·have:=z3 Ν.low ew (b:=b) (by rw[π];rfl);omega
     ·have:=knows_own ψ;rwa [hu op Τ] at this
    ·exact Mg.obj b ao k a ν π
  ·rw[bW _ _ a5];have ap:=Δ.apart _ _ (Ne.symm a5);refine(Ν.perms h).others (λk ψ=>G7 _ ψ) λop Τ a ν=>?_;obtain⟨e,he,rfl⟩:=Go.Conc.mem_ofEvents Τ;obtain⟨U,γ,_⟩:=CY (gC e he) ν;have dQ:=gC e he;refine⟨λb o v p π ε=>?_,λb π hb=>?_⟩
   ·simp only[h2,<-U,π] at dQ;rcases dQ with δ|⟨_,δ⟩
    ·have:=wm h b o ⟨_,ε⟩;omega
    ·by_cases hw:e.write=true
     ·rw[if_pos hw] at δ;exact absurd ⟨_,ε⟩ (ap.aS b o δ)
     ·rw[if_neg hw] at δ;refine⟨?_,by rw[γ];simpa using hw⟩;cases p with
      | false=>rfl
      | true=>exact absurd δ (ap.rJ b o ⟨v,ε⟩)
   ·simp only[h2,<-U,π] at dQ;rcases dQ.2 with δ|δ
    ·have:=z2 h b hb;omega
    ·exact ap.obj b δ hb
 ·rcases n6 ν with ew|⟨_,op,Τ,_,jj⟩
  ·have hb:=z3 Ν.low ew fH;by_cases ζ:j=i
   ·subst ζ;rw[upd_same] at hv;rcases rQ b v hv with h|h
    ·exact Ν.pG j b v h k a ew fH
    ·omega
   ·rw[upd_ne _ _ ζ] at hv;exact Ν.pG j b v hv k a ew fH
  ·obtain⟨e,he,rfl⟩:=Go.Conc.mem_ofEvents Τ;obtain⟨U,_,_⟩:=CY (gC e he) jj;rw[U] at fH;by_cases ζ:j=i
   ·subst ζ;rw[upd_same] at hv;rcases rQ b v hv with h|h
    ·exact Ha e he b (x5 j b v h) ((Δ.fresh j b v h).2.1 _) fH
    ·exact G9 b v hv h.1 e he fH
   ·rw[upd_ne _ _ ζ] at hv;exact Ha e he b (x5 j b v hv) ((Δ.fresh j b v hv).2.1 _) fH
 ·rcases n6 ν with ew|⟨_,op,Τ,_,jj⟩
  ·rcases Ν.cont s o b ξ hb k a ew fH with h|⟨h,ψ⟩
   ·exact .inl h
   ·obtain⟨op,Β,_⟩:=touch_of ew;exact .inr ⟨h,by rw[g?_old (lt_size_of_getElem? Β)];exact ψ⟩
  ·obtain⟨e,he,rfl⟩:=Go.Conc.mem_ofEvents Τ;obtain⟨U,_,_⟩:=CY (gC e he) jj;rw[U] at fH;exact absurd fH (Ha e he b (G6 s o b ξ hb) ((Δ.lx s o b ξ hb).2.1 _))
 ·by_cases ζ:i=j
  ·subst ζ;rw[Deaf_own,deafBehind_still (λe he=>?_)]
   ·exact Ν.hears i
   ·have dQ:=gC e he;constructor<;>intro π<;>simp[h2,π] at dQ
  ·rw[Deaf_other t ζ _ hu];exact Ν.hears j
def pJ:ml->Prop
 | .fin|.uc|.us|.done=>True
 | _=>False
def cg (tok:Nat->Nat->Tok) (i s:Nat) (t:Tok):Nat->Nat->Tok:=upd tok i (upd (tok i) s t)
theorem fz (tok:Nat->Nat->Tok) (i s:Nat) (t:Tok):cg tok i s t i s=t:=by simp[cg,upd]
theorem fj {tok:Nat->Nat->Tok} {i s j r:Nat} (t:Tok) (h:¬(j=i/\r=s)):cg tok i s t j r=tok j r:=by
 unfold cg upd;by_cases ζ:j=i
 ·subst ζ;by_cases μ:r=s
  ·exact absurd ⟨rfl,μ⟩ h
  ·simp[μ]
 ·simp[ζ]
theorem Mh (tok:Nat->Nat->Tok) (i s:Nat) (t:Tok):(λj=>cg tok i s t j s)=upd (λj=>tok j s) i t:=by
 funext j
 by_cases ζ:j=i
 ·subst ζ;rw[fz,upd_same]
 ·rw[fj _ (λh=>ζ h.1),upd_ne _ _ ζ]
theorem Hb (tok:Nat->Nat->Tok) (i s:Nat) (t:Tok) {r:Nat} (μ:r≠s):(λj=>cg tok i s t j r)=λj=>tok j r:=by
 funext j;rw[fj _ (λh=>μ h.2)]
structure e9 (n:Nat) (tok:Nat->Nat->Tok) (spec:Nat->Nat->Option Spec) (view:Nat->Nat->Option (Nat×aW)) (rel:Nat->Bool) (O:Nat->Option aW) (bC home:Nat->Nat):Prop where
 bg:∀s o,O s=some o->uD n o (λi=>tok i s)
 bare:∀s,O s=none->∀i,tok i s=.nil
 out:∀i s,n<=i->tok i s=.nil
 rR:∀i s sp,spec i s=some sp->∃o,O s=some o/\o.toSpec=sp
 wq:∀i s φ o,view i s=some (φ,o)->∃dR,O s=some dR/\eZ n dR (λj=>tok j s)<=φ/\(eZ n dR (λj=>tok j s)=φ->dR=o)
 dA:∀i s k L g o,O s=some o->tok i s=.ch k (.dA L) g->o.L=L
 par:∀i s m p aQ,tok i s=.par m p aQ->i=bC s
 pK:∀i s k m g,tok i s=.ch k m g->i≠0/\home i=s/\bC s<i
 sX:∀i,i≠0->i<n->∃k m g,tok i (home i)=.ch k m g
 eO:∀i k m g,i≠0->tok i (home i)=.ch k m g->(rel i=true↔g≠.work)
 uJ:rel 0=false
 pL:∀i s,rel i=true->s≠home i->gB (tok i s)
 pM:∀i s k m g o,O s=some o->tok i s=.ch k m g->g≠.work->m=.done\/(m=.idle/\o.a4=none)
 wu:∀s i j k m g ck g',tok i s=.ch k m g->tok j s=.ch k ck g'->i=j
 uK:∀s i k m g q p aQ,tok i s=.ch k m g->tok (bC s) s=.par q p aQ->k+p<q
 fZ:∀s o,O s=some o->o.L.Nodup/\∀k,k∈o.L↔∃i m g,tok i s=.ch k m g/\pJ m
 gL:∀s o,O s=some o->o.R.Nodup/\∀k,k∈o.R↔∃i m g,tok i s=.ch k m g/\g≠.work
def Alike (t t':Tok):Prop:=(∃m p aQ ck fA Hc,t=.par m p aQ/\t'=.par ck fA Hc/\∀k,k+p<m->k+fA<ck)\/(∃k m g ck g',t=.ch k m g/\t'=.ch k ck g')
section
variable {n:Nat} {tok:Nat->Nat->Tok} {spec:Nat->Nat->Option Spec} {view:Nat->Nat->Option (Nat×aW)} {rel:Nat->Bool} {O:Nat->Option aW} {bC home:Nat->Nat}
theorem e9.lt (h:e9 n tok spec view rel O bC home) {i s:Nat} (Υ:tok i s≠.nil):i<n:=Nat.lt_of_not_le λhle=>Υ (h.out i s hle)
theorem e9.change (h:e9 n tok spec view rel O bC home) {s i:Nat} {o o':aW} {t t':Tok} {CZ:Nat->Bool} {V:Nat->Option (Nat×aW)} (ξ:O s=some o) (Υ:tok i s=t) (C0:Alike t t')
  (Θ:uD n o' (upd (λj=>tok j s) i t')) (ω:eZ n o' (upd (λj=>tok j s) i t')<eZ n o (λj=>tok j s)) (ca:o'.toSpec=o.toSpec)
  (pN:∀r φ q,V r=some (φ,q)->(r=s/\φ=eZ n o' (upd (λj=>tok j s) i t')/\q=o')\/(r≠s/\view i r=some (φ,q)))
  (jk:∀j k L g,cg tok i s t' j s=.ch k (.dA L) g->o'.L=L)
  (mA:∀j k m g,j≠0->cg tok i s t' j (home j)=.ch k m g->(CZ j=true↔g≠.work)) (Hd:CZ 0=false)
  (TW:∀j r,CZ j=true->r≠home j->gB (cg tok i s t' j r))
  (TX:∀j k m g,cg tok i s t' j s=.ch k m g->g≠.work->m=.done\/(m=.idle/\o'.a4=none))
  (ad:o'.L.Nodup/\∀k,k∈o'.L↔∃j m g,cg tok i s t' j s=.ch k m g/\pJ m) (aM:o'.R.Nodup/\∀k,k∈o'.R↔∃j m g,cg tok i s t' j s=.ch k m g/\g≠.work) :
  e9 n (cg tok i s t') spec (upd view i V) CZ (upd O s (some o')) bC home:=by
 have bd:i<n:=h.lt (s:=s) (by rw[Υ];rcases C0 with⟨_,_,_,_,_,_,rfl,_⟩|⟨_,_,_,_,_,rfl,_⟩<;>simp)
 have He:=Mh tok i s t'
 have sY:∀r,r≠s->(λj=>cg tok i s t' j r)=λj=>tok j r:=λr μ=>Hb tok i s t' μ
 have z4:∀j r,r≠s->cg tok i s t' j r=tok j r:=λj r μ=>congrFun (sY r μ) j
 have same:∀j,j≠i->∀r,cg tok i s t' j r=tok j r:=λj ζ r=>fj _ λx=>ζ x.1
 have C1:∀j r k m g,cg tok i s t' j r=.ch k m g->∃dZ cN,tok j r=.ch k dZ cN:=λj r k m g ζ=>by
  by_cases e:j=i/\r=s
  ·obtain⟨rfl,rfl⟩:=e;rw[fz] at ζ;rcases C0 with⟨_,_,_,_,_,_,_,γ,_⟩|⟨e1,dZ,cN,d',aa,U,γ⟩
   ·rw[γ] at ζ;cases ζ
   ·rw[γ] at ζ;cases ζ;exact⟨dZ,cN,by rw[Υ,U]⟩
  ·rw[fj _ e] at ζ;exact⟨m,g,ζ⟩
 have TY:∀j r k m g,tok j r=.ch k m g->∃dZ cN,cg tok i s t' j r=.ch k dZ cN:=λj r k m g ζ=>by
  by_cases e:j=i/\r=s
  ·obtain⟨rfl,rfl⟩:=e;rw[fz];rw[Υ] at ζ;rcases C0 with⟨_,_,_,_,_,_,U,_,_⟩|⟨e1,dZ,cN,d',aa,U,γ⟩
   ·rw[U] at ζ;cases ζ
   ·rw[U] at ζ;cases ζ;exact⟨d',aa,γ⟩
  ·rw[fj _ e];exact⟨m,g,ζ⟩
 have Mi:∀j r m p aQ,cg tok i s t' j r=.par m p aQ->∃dZ fY z5,tok j r=.par dZ fY z5/\∀k,k+fY<dZ->k+p<m:=λj r m p aQ ζ=>by
  by_cases e:j=i/\r=s
  ·obtain⟨rfl,rfl⟩:=e;rw[fz] at ζ;rcases C0 with⟨_,_,_,_,_,_,U,γ,ο⟩|⟨e1,dZ,cN,d',aa,U,γ⟩
   ·rw[γ] at ζ;cases ζ;exact⟨_,_,_,by rw[Υ,U],ο⟩
   ·rw[γ] at ζ;cases ζ
  ·rw[fj _ e] at ζ;exact⟨m,p,aQ,ζ,λ_ x=>x⟩
 have hP:∀r q,upd O s (some o') r=some q->(r=s/\q=o')\/(r≠s/\O r=some q):=λr q Χ=>by
  by_cases e:r=s
  ·subst e;rw[upd_same] at Χ;cases Χ;exact .inl ⟨rfl,rfl⟩
  ·rw[upd_ne _ _ e] at Χ;exact .inr ⟨e,Χ⟩
 refine⟨λr q Χ=>?_,λr μ j=>?_,λj r ζ=>?_,λj r sp ζ=>?_,λj r φ q ζ=>?_,λj r k L g q Χ ζ=>?_,λj r m p aQ ζ=>?_,λj r k m g ζ=>?_,λj ao ζ=>?_,mA,Hd,TW,λj r k m g q Χ ζ Ω=>?_,λr j bP k m g ck g' U γ=>?_,λr j k m g q p aQ U γ=>?_,λr q Χ=>?_,λr q Χ=>?_⟩
 ·rcases hP r q Χ with⟨rfl,rfl⟩|⟨e,cq⟩
  ·rw[He];exact Θ
  ·rw[sY r e];exact h.bg r q cq
 ·by_cases e:r=s
  ·subst e;rw[upd_same] at μ;cases μ
  ·rw[upd_ne _ _ e] at μ;rw[z4 j r e];exact h.bare r μ j
 ·rw[same j J r];exact h.out j r ζ
 ·obtain⟨q,U,γ⟩:=h.rR j r sp ζ;by_cases e:r=s
  ·subst e;rw[ξ] at U;cases U;exact⟨o',upd_same ..,by rw[ca];exact γ⟩
  ·exact⟨q,by rw[upd_ne _ _ e];exact U,γ⟩
 ·have old:∀φ q,view j r=some (φ,q)->∃dR,upd O s (some o') r=some dR/\eZ n dR (λa=>cg tok i s t' a r)<=φ/\(eZ n dR (λa=>cg tok i s t' a r)=φ->dR=q):=λφ q hv=>by
   obtain⟨dR,U,γ,ο⟩:=h.wq j r φ q hv;by_cases e:r=s
   ·subst e;rw[ξ] at U;cases U;rw[upd_same,He];exact⟨o',rfl,J,λx=>J⟩
   ·rw[upd_ne _ _ e,sY r e];exact⟨dR,U,γ,ο⟩
  by_cases e:j=i
  ·subst e;rw[upd_same] at ζ;rcases pN r φ q ζ with⟨rfl,rfl,rfl⟩|⟨μ,hv⟩
   ·rw[upd_same,He];exact⟨_,rfl,Nat.le_refl _,λ_=>rfl⟩
   ·exact old φ q hv
  ·rw[upd_ne _ _ e] at ζ;exact old φ q ζ
 ·rcases hP r q Χ with⟨rfl,rfl⟩|⟨e,cq⟩
  ·exact jk j k L g ζ
  ·rw[z4 j r e] at ζ;exact h.dA j r k L g q cq ζ
 ·obtain⟨dZ,fY,z5,U,_⟩:=Mi j r m p aQ ζ;exact h.par j r dZ fY z5 U
 ·obtain⟨dZ,cN,U⟩:=C1 j r k m g ζ;exact h.pK j r k dZ cN U
 ·obtain⟨k,m,g,U⟩:=h.sX j ao ζ;obtain⟨d',aa,γ⟩:=TY j _ k m g U;exact⟨k,d',aa,γ⟩
 ·rcases hP r q Χ with⟨rfl,rfl⟩|⟨e,cq⟩
  ·exact TX j k m g ζ Ω
  ·rw[z4 j r e] at ζ;exact h.pM j r k m g q cq ζ Ω
 ·obtain⟨a,b,ο⟩:=C1 j r k m g U;obtain⟨cj,ag,Ι⟩:=C1 bP r k ck g' γ;exact h.wu r j bP k a b cj ag ο Ι
 ·obtain⟨a,b,ο⟩:=C1 j r k m g U;obtain⟨dZ,fY,z5,Ι,ax⟩:=Mi _ r q p aQ γ;exact ax k (h.uK r j k a b dZ fY z5 ο Ι)
 ·rcases hP r q Χ with⟨rfl,rfl⟩|⟨e,cq⟩
  ·exact ad
  ·simp only[λj=>z4 j r e];exact h.fZ r q cq
 ·rcases hP r q Χ with⟨rfl,rfl⟩|⟨e,cq⟩
  ·exact aM
  ·simp only[λj=>z4 j r e];exact h.gL r q cq
theorem TZ {o o':aW} {t t':Tok} (h:Act o t o' t'):Alike t t':=by
 cases h
 case add=>exact .inl ⟨_,_,_,_,_,_,rfl,rfl,λk ψ=>J⟩
 case thru|LW|wake=>exact .inl ⟨_,_,_,_,_,_,rfl,rfl,λk ψ=>ψ⟩
 all_goals exact .inr ⟨_,_,_,_,_,rfl,rfl⟩
theorem Mj {o o':aW} {t t':Tok} (h:Act o t o' t'):o'.toSpec=o.toSpec/\o'.L=o.L/\o'.R=o.R:=by
 cases h<;>exact⟨rfl,rfl,rfl⟩
theorem Mk {o o':aW} {t t':Tok} (h:Act o t o' t'):(∀k m g,t'=.ch k m g->∃dZ cN,t=.ch k dZ cN/\(pJ m↔pJ dZ)/\(g=.work↔cN=.work)/\(cN≠.work->m=dZ)/\∀L,m=.dA L->dZ=.dA L)/\(∀k m g,t=.ch k m g->∃d' aa,t'=.ch k d' aa/\(pJ d'↔pJ m)/\(aa=.work↔g=.work))/\¬gB t:=by
 refine⟨λk m g e=>?_,λk m g e=>?_,?_⟩
 ·cases h<;>cases e<;>exact⟨_,_,rfl,by simp[pJ],η,η,η⟩
 ·cases h<;>cases e<;>exact⟨_,_,rfl,by simp[pJ],η⟩
 ·cases h<;>simp[gB]
theorem e9.act (h:e9 n tok spec view rel O bC home) {s i:Nat} {o o':aW} {t t':Tok} (ξ:O s=some o) (Υ:tok i s=t) (ν:Act o t o' t') :
  e9 n (cg tok i s t') spec (upd view i (upd (view i) s (some (eZ n o' (upd (λj=>tok j s) i t'),o')))) rel (upd O s (some o')) bC home:=by
 obtain⟨hw,wv,Ml⟩:=Mk ν;have bd:i<n:=h.lt (s:=s) (by rw[Υ];rintro rfl;exact Ml trivial);obtain⟨x6,C2,Hf⟩:=Mj ν;have z6:∀j r k m g,cg tok i s t' j r=.ch k m g->∃dZ cN,tok j r=.ch k dZ cN/\(pJ m↔pJ dZ)/\(g=.work↔cN=.work)/\(cN≠.work->m=dZ)/\∀L,m=.dA L->dZ=.dA L:=λj r k m g ζ=>by
  by_cases e:j=i/\r=s
  ·obtain⟨rfl,rfl⟩:=e;rw[fz] at ζ;obtain⟨dZ,cN,Ζ,Ε⟩:=hw k m g ζ;exact⟨dZ,cN,by rw[Υ,Ζ],Ε⟩
  ·rw[fj _ e] at ζ;exact⟨m,g,ζ,.rfl,.rfl,λ_=>rfl,λ_ x=>x⟩
 have is:∀j k m g,tok j s=.ch k m g->∃d' aa,cg tok i s t' j s=.ch k d' aa/\(pJ d'↔pJ m)/\(aa=.work↔g=.work):=λj k m g ζ=>by
  by_cases e:j=i/\s=s
  ·obtain⟨rfl,_⟩:=e;rw[fz];rw[Υ] at ζ;exact wv k m g ζ
  ·rw[fj _ e];exact⟨m,g,ζ,.rfl,.rfl⟩
 refine h.change ξ Υ (TZ ν) (⟨Ty (h.bg s o ξ).1 bd Υ ν,TC (h.bg s o ξ).2 bd Υ ν⟩) (LY bd Υ ν) x6 (λr φ q hv=>?_) (λj k L g ζ=>?_) (λj k m g ao ζ=>?_) h.uJ (λj r ζ μ=>?_) (λj k m g ζ Ω=>?_) ?_ ?_
 ·by_cases e:r=s
  ·subst e;rw[upd_same] at hv;cases hv;exact .inl ⟨rfl,rfl,rfl⟩
  ·rw[upd_ne _ _ e] at hv;exact .inr ⟨e,hv⟩
 ·obtain⟨dZ,cN,Ζ,_,_,_,Ε⟩:=z6 j s k _ g ζ;rw[C2];exact h.dA j s k L cN o ξ (by rw[Ζ,Ε L rfl])
 ·obtain⟨dZ,cN,Ζ,_,Ε,_⟩:=z6 j _ k m g ζ;rw[h.eO j k dZ cN ao Ζ];exact not_congr Ε.symm
 ·by_cases e:j=i/\r=s
  ·obtain⟨rfl,rfl⟩:=e;have:=h.pL j r ζ μ;rw[Υ] at this;exact absurd this Ml
  ·rw[fj _ e];exact h.pL j r ζ μ
 ·obtain⟨dZ,cN,Ζ,_,Ε,a8,_⟩:=z6 j s k m g ζ;have oU:cN≠.work:=λx=>Ω (Ε.2 x);rw[a8 oU];have:=h.pM j s k dZ cN o ξ Ζ oU;rw[show o'.a4=o.a4 by rw[x6]];exact this
 ·obtain⟨a,b⟩:=h.fZ s o ξ;rw[C2];refine⟨a,λk=>(b k).trans ⟨λ⟨j,m,g,Ζ,Ε⟩=>?_,λ⟨j,m,g,Ζ,Ε⟩=>?_⟩⟩
  ·obtain⟨d',aa,a8,cR,_⟩:=is j k m g Ζ;exact⟨j,d',aa,a8,cR.2 Ε⟩
  ·obtain⟨dZ,cN,a8,cR,_⟩:=z6 j s k m g Ζ;exact⟨j,dZ,cN,a8,cR.1 Ε⟩
 ·obtain⟨a,b⟩:=h.gL s o ξ;rw[Hf];refine⟨a,λk=>(b k).trans ⟨λ⟨j,m,g,Ζ,Ε⟩=>?_,λ⟨j,m,g,Ζ,Ε⟩=>?_⟩⟩
  ·obtain⟨d',aa,a8,_,cR⟩:=is j k m g Ζ;exact⟨j,d',aa,a8,λx=>Ε (cR.1 x)⟩
  ·obtain⟨dZ,cN,a8,_,cR,_⟩:=z6 j s k m g Ζ;exact⟨j,dZ,cN,a8,λx=>Ε (cR.2 x)⟩
theorem e9.look (h:e9 n tok spec view rel O bC home) {s i:Nat} {o:aW} (ξ:O s=some o):e9 n tok spec (upd view i (upd (view i) s (some (eZ n o (λj=>tok j s),o)))) rel O bC home:=
 have key:∀j r φ q,upd view i (upd (view i) s (some (eZ n o (λj=>tok j s),o))) j r=some (φ,q)->∃dR,O r=some dR/\eZ n dR (λj=>tok j r)<=φ/\(eZ n dR (λj=>tok j r)=φ->dR=q):=λj r φ q ζ=>by
  by_cases e:j=i
  ·subst e;rw[upd_same] at ζ;by_cases aP:r=s
   ·subst aP;rw[upd_same] at ζ;cases ζ;exact⟨o,ξ,Nat.le_refl _,λ_=>rfl⟩
   ·rw[upd_ne _ _ aP] at ζ;exact h.wq j r φ q ζ
  ·rw[upd_ne _ _ e] at ζ;exact h.wq j r φ q ζ
 {h with wq:=key}
theorem C3 {s i:Nat} {r φ:Nat} {q:aW} {o':aW} {z:Nat} (hv:upd (view i) s none r=some (φ,q)):(r=s/\φ=z/\q=o')\/(r≠s/\view i r=some (φ,q)):=by
 by_cases e:r=s
 ·subst e;rw[upd_same] at hv;cases hv
 ·rw[upd_ne _ _ e] at hv;exact .inr ⟨e,hv⟩
theorem T0 {l:List Nat} {k:Nat} (h:l.Nodup) (ψ:k∉l):(l++[k]).Nodup:=by
 rw[List.nodup_append];exact⟨h,η,λa ν b hb=>by simp at hb;subst hb;rintro rfl;exact ψ ν⟩
theorem e9.GR (h:e9 n tok spec view rel O bC home) {s i k:Nat} {o:aW} (ξ:O s=some o) (Υ:tok i s=.ch k .own .work) :
  e9 n (cg tok i s (.ch k (.dA o.L) .work)) spec (upd view i (upd (view i) s none)) rel (upd O s (some o)) bC home:=by
 have bd:i<n:=h.lt (s:=s) (by rw[Υ];simp)
 have hw:qx o (.ch k .own .work) o (.ch k (.dA o.L) .work):=.GR
 have hQ:∀j,j≠i->∀r,cg tok i s (.ch k (.dA o.L) .work) j r=tok j r:=λj ζ r=>fj _ λx=>ζ x.1
 have ε:=h.pK i s k _ _ Υ;refine h.change ξ Υ (.inr ⟨_,_,_,_,_,rfl,rfl⟩) ⟨CQ (h.bg s o ξ).1 bd Υ hw,CR (h.bg s o ξ).2 bd Υ hw⟩ (CP bd Υ hw) rfl (λr φ q hv=>C3 hv) (λj al L g ζ=>?_) (λj al m g ao ζ=>?_) h.uJ (λj r ζ μ=>?_) (λj al m g ζ Ω=>?_) ?_ ?_
 ·by_cases e:j=i
  ·subst e;rw[fz] at ζ;cases ζ;rfl
  ·rw[hQ j e] at ζ;exact h.dA j s al L g o ξ ζ
 ·by_cases e:j=i
  ·subst e;have aP:home j=s:=ε.2.1;rw[aP,fz] at ζ;cases ζ;exact h.eO j k .own .work ao (by rw[aP];exact Υ)
  ·rw[hQ j e] at ζ;exact h.eO j al m g ao ζ
 ·by_cases e:j=i
  ·subst e;have aP:home j=s:=ε.2.1;rw[fj _ (λx=>μ (by rw[x.2,aP]))];exact h.pL j r ζ μ
  ·rw[hQ j e];exact h.pL j r ζ μ
 ·by_cases e:j=i
  ·subst e;rw[fz] at ζ;cases ζ;exact absurd rfl Ω
  ·rw[hQ j e] at ζ;exact h.pM j s al m g o ξ ζ Ω
 ·obtain⟨a,b⟩:=h.fZ s o ξ;refine⟨a,λal=>(b al).trans ⟨λ⟨j,m,g,Ζ,Ε⟩=>?_,λ⟨j,m,g,Ζ,Ε⟩=>?_⟩⟩
  ·by_cases e:j=i
   ·subst e;rw[Υ] at Ζ;cases Ζ;exact Ε.elim
   ·exact⟨j,m,g,by rw[hQ j e];exact Ζ,Ε⟩
  ·by_cases e:j=i
   ·subst e;rw[fz] at Ζ;cases Ζ;exact Ε.elim
   ·exact⟨j,m,g,by rw[hQ j e] at Ζ;exact Ζ,Ε⟩
 ·obtain⟨a,b⟩:=h.gL s o ξ;refine⟨a,λal=>(b al).trans ⟨λ⟨j,m,g,Ζ,Ε⟩=>?_,λ⟨j,m,g,Ζ,Ε⟩=>?_⟩⟩
  ·by_cases e:j=i
   ·subst e;rw[Υ] at Ζ;cases Ζ;exact absurd rfl Ε
   ·exact⟨j,m,g,by rw[hQ j e];exact Ζ,Ε⟩
  ·by_cases e:j=i
   ·subst e;rw[fz] at Ζ;cases Ζ;exact absurd rfl Ε
   ·exact⟨j,m,g,by rw[hQ j e] at Ζ;exact Ζ,Ε⟩
theorem e9.T1 (h:e9 n tok spec view rel O bC home) {s i k:Nat} {L:List Nat} {o:aW} (ξ:O s=some o) (Υ:tok i s=.ch k (.dA L) .work) :
  e9 n (cg tok i s (.ch k .fin .work)) spec (upd view i (upd (view i) s none)) rel (upd O s (some {o with L:=o.L++[k]})) bC home:=by
 have bd:i<n:=h.lt (s:=s) (by rw[Υ];simp)
 have hw:qx o (.ch k (.dA L) .work) {o with L:=o.L++[k]} (.ch k .fin .work):=.Tw
 have hQ:∀j,j≠i->∀r,cg tok i s (.ch k .fin .work) j r=tok j r:=λj ζ r=>fj _ λx=>ζ x.1
 have ε:=h.pK i s k _ _ Υ
 have only:∀j al ly g,tok j s=.ch al (.dA ly) g->j=i:=λj al ly g ζ=>by
  apply Classical.byContradiction;intro bx;have fe:j<n:=h.lt (s:=s) (by rw[ζ];simp);have Ζ:=g2 (λa=>tok a s) .nil jf bd;have Ε:=fO (upd (λa=>tok a s) i .nil) jf fe;rw[upd_ne _ _ bx] at Ε;simp only[Υ,ζ,jf,zP] at Ζ Ε;have:=(h.bg s o ξ).1.LS;have:=(h.bg s o ξ).1.f1;omega
 have Mm:k∉o.L:=λψ=>by
  obtain⟨j,m,g,Ζ,Ε⟩:=((h.fZ s o ξ).2 k).1 ψ;have:=h.wu s j i k m g _ _ Ζ Υ;subst this;rw[Υ] at Ζ;cases Ζ;exact Ε
 refine h.change ξ Υ (.inr ⟨_,_,_,_,_,rfl,rfl⟩) ⟨CQ (h.bg s o ξ).1 bd Υ hw,CR (h.bg s o ξ).2 bd Υ hw⟩ (CP bd Υ hw) rfl (λr φ q hv=>C3 hv) (λj al ly g ζ=>?_) (λj al m g ao ζ=>?_) h.uJ (λj r ζ μ=>?_) (λj al m g ζ Ω=>?_) ?_ ?_
 ·by_cases e:j=i
  ·subst e;rw[fz] at ζ;cases ζ
  ·rw[hQ j e] at ζ;exact absurd (only j al ly g ζ) e
 ·by_cases e:j=i
  ·subst e;have aP:home j=s:=ε.2.1;rw[aP,fz] at ζ;cases ζ;exact h.eO j k (.dA L) .work ao (by rw[aP];exact Υ)
  ·rw[hQ j e] at ζ;exact h.eO j al m g ao ζ
 ·by_cases e:j=i
  ·subst e;have aP:home j=s:=ε.2.1;rw[fj _ (λx=>μ (by rw[x.2,aP]))];exact h.pL j r ζ μ
  ·rw[hQ j e];exact h.pL j r ζ μ
 ·by_cases e:j=i
  ·subst e;rw[fz] at ζ;cases ζ;exact absurd rfl Ω
  ·rw[hQ j e] at ζ;exact h.pM j s al m g o ξ ζ Ω
 ·obtain⟨a,b⟩:=h.fZ s o ξ;refine⟨T0 a Mm,λal=>?_⟩;rw[List.mem_append,List.mem_singleton];constructor
  ·rintro(ψ|rfl)
   ·obtain⟨j,m,g,Ζ,Ε⟩:=(b al).1 ψ;have e:j≠i:=by rintro rfl;rw[Υ] at Ζ;cases Ζ;exact Ε
    exact⟨j,m,g,by rw[hQ j e];exact Ζ,Ε⟩
   ·exact⟨i,.fin,.work,fz ..,trivial⟩
  ·rintro⟨j,m,g,Ζ,Ε⟩;by_cases e:j=i
   ·subst e;rw[fz] at Ζ;cases Ζ;exact .inr rfl
   ·rw[hQ j e] at Ζ;exact .inl ((b al).2 ⟨j,m,g,Ζ,Ε⟩)
 ·obtain⟨a,b⟩:=h.gL s o ξ;refine⟨a,λal=>(b al).trans ⟨λ⟨j,m,g,Ζ,Ε⟩=>?_,λ⟨j,m,g,Ζ,Ε⟩=>?_⟩⟩
  ·by_cases e:j=i
   ·subst e;rw[Υ] at Ζ;cases Ζ;exact absurd rfl Ε
   ·exact⟨j,m,g,by rw[hQ j e];exact Ζ,Ε⟩
  ·by_cases e:j=i
   ·subst e;rw[fz] at Ζ;cases Ζ;exact absurd rfl Ε
   ·exact⟨j,m,g,by rw[hQ j e] at Ζ;exact Ζ,Ε⟩
theorem e9.T2 (h:e9 n tok spec view rel O bC home) {s i k:Nat} {mu:ml} {o:aW} (ξ:O s=some o) (Υ:tok i s=.ch k mu .work) (uL:mu=.done\/(mu=.idle/\o.a4=none)) (c0:∀r,r≠s->gB (tok i r)) :
  e9 n (cg tok i s (.ch k mu .rel)) spec (upd view i (upd (view i) s none)) (upd rel i true) (upd O s (some {o with R:=k::o.R})) bC home:=by
 have bd:i<n:=h.lt (s:=s) (by rw[Υ];simp)
 have hw:qx o (.ch k mu .work) {o with R:=k::o.R} (.ch k mu .rel):=.Tx uL
 have hQ:∀j,j≠i->∀r,cg tok i s (.ch k mu .rel) j r=tok j r:=λj ζ r=>fj _ λx=>ζ x.1
 have ε:=h.pK i s k _ _ Υ
 have T3:k∉o.R:=λψ=>by
  obtain⟨j,m,g,Ζ,Ε⟩:=((h.gL s o ξ).2 k).1 ψ;have:=h.wu s j i k m g _ _ Ζ Υ;subst this;rw[Υ] at Ζ;cases Ζ;exact Ε rfl
 refine h.change ξ Υ (.inr ⟨_,_,_,_,_,rfl,rfl⟩) ⟨CQ (h.bg s o ξ).1 bd Υ hw,CR (h.bg s o ξ).2 bd Υ hw⟩ (CP bd Υ hw) rfl (λr φ q hv=>C3 hv) (λj al ly g ζ=>?_) (λj al m g ao ζ=>?_) (by rw[upd_ne _ _ (Ne.symm ε.1)];exact h.uJ) (λj r ζ μ=>?_) (λj al m g ζ Ω=>?_) ?_ ?_
 ·by_cases e:j=i
  ·subst e;rw[fz] at ζ;rcases uL with rfl|⟨rfl,_⟩<;>cases ζ
  ·rw[hQ j e] at ζ;exact h.dA j s al ly g o ξ ζ
 ·by_cases e:j=i
  ·subst e;have aP:home j=s:=ε.2.1;rw[aP,fz] at ζ;cases ζ;rw[upd_same];simp
  ·rw[hQ j e] at ζ;rw[upd_ne _ _ e];exact h.eO j al m g ao ζ
 ·by_cases e:j=i
  ·subst e;have aP:home j=s:=ε.2.1;have kX:r≠s:=λx=>μ (by rw[x,aP]);rw[fj _ (λx=>kX x.2)];exact c0 r kX
  ·rw[hQ j e];rw[upd_ne _ _ e] at ζ;exact h.pL j r ζ μ
 ·by_cases e:j=i
  ·subst e;rw[fz] at ζ;cases ζ;exact uL
  ·rw[hQ j e] at ζ;exact h.pM j s al m g o ξ ζ Ω
 ·obtain⟨a,b⟩:=h.fZ s o ξ;refine⟨a,λal=>(b al).trans ⟨λ⟨j,m,g,Ζ,Ε⟩=>?_,λ⟨j,m,g,Ζ,Ε⟩=>?_⟩⟩
  ·by_cases e:j=i
   ·subst e;rw[Υ] at Ζ;cases Ζ;exact⟨j,mu,.rel,fz ..,Ε⟩
   ·exact⟨j,m,g,by rw[hQ j e];exact Ζ,Ε⟩
  ·by_cases e:j=i
   ·subst e;rw[fz] at Ζ;cases Ζ;exact⟨j,mu,.work,Υ,Ε⟩
   ·exact⟨j,m,g,by rw[hQ j e] at Ζ;exact Ζ,Ε⟩
 ·obtain⟨a,b⟩:=h.gL s o ξ;refine⟨List.nodup_cons.2 ⟨T3,a⟩,λal=>?_⟩;rw[List.mem_cons];constructor
  ·rintro(rfl|ψ)
   ·exact⟨i,mu,.rel,fz ..,η⟩
   ·obtain⟨j,m,g,Ζ,Ε⟩:=(b al).1 ψ;have e:j≠i:=by rintro rfl;rw[Υ] at Ζ;cases Ζ;exact Ε rfl
    exact⟨j,m,g,by rw[hQ j e];exact Ζ,Ε⟩
  ·rintro⟨j,m,g,Ζ,Ε⟩;by_cases e:j=i
   ·subst e;rw[fz] at Ζ;cases Ζ;exact .inl rfl
   ·rw[hQ j e] at Ζ;exact .inr ((b al).2 ⟨j,m,g,Ζ,Ε⟩)
theorem e9.gtake (h:e9 n tok spec view rel O bC home) {s i q:Nat} {aQ:sT} {o:aW} (ξ:O s=some o) (Υ:tok i s=.par q 0 aQ) (nj:aQ=.nb\/aQ=.w4) :
  e9 n (cg tok i s (.par q 0 .bH)) spec (upd view i (upd (view i) s none)) rel (upd O s (some o)) bC home:=by
 have bd:i<n:=h.lt (s:=s) (by rw[Υ];simp)
 have hw:qx o (.par q 0 aQ) o (.par q 0 .bH):=.gtake nj
 have hQ:∀j,j≠i->∀r,cg tok i s (.par q 0 .bH) j r=tok j r:=λj ζ r=>fj _ λx=>ζ x.1
 have cs:∀j r k m g,cg tok i s (.par q 0 .bH) j r=.ch k m g↔tok j r=.ch k m g:=λj r k m g=>by
  by_cases e:j=i/\r=s
  ·obtain⟨rfl,rfl⟩:=e;rw[fz,Υ];simp
  ·rw[fj _ e]
 refine h.change ξ Υ (.inl ⟨_,_,_,_,_,_,rfl,rfl,λk ψ=>ψ⟩) ⟨CQ (h.bg s o ξ).1 bd Υ hw,CR (h.bg s o ξ).2 bd Υ hw⟩ (CP bd Υ hw) rfl (λr φ q hv=>C3 hv) (λj al ly g ζ=>?_) (λj al m g ao ζ=>?_) h.uJ (λj r ζ μ=>?_) (λj al m g ζ Ω=>?_) ?_ ?_
 ·rw[cs] at ζ;exact h.dA j s al ly g o ξ ζ
 ·rw[cs] at ζ;exact h.eO j al m g ao ζ
 ·by_cases e:j=i/\r=s
  ·obtain⟨rfl,rfl⟩:=e;rw[fz];trivial
  ·rw[fj _ e];exact h.pL j r ζ μ
 ·rw[cs] at ζ;exact h.pM j s al m g o ξ ζ Ω
 ·simp only[cs];exact h.fZ s o ξ
 ·simp only[cs];exact h.gL s o ξ
end
def nk (O O':Nat->Option aW):Prop:=(∀s o',O' s=some o'->∃o,O s=some o/\o.toSpec=o'.toSpec)/\∀s o,O s=some o->∃o',O' s=some o'/\o.toSpec=o'.toSpec
theorem nk.upd {O:Nat->Option aW} {s:Nat} {o o':aW} (ξ:O s=some o) (h:o'.toSpec=o.toSpec):nk O (Go.ConcN.upd O s (some o')):=by
 refine⟨λr q Χ=>?_,λr q Χ=>?_⟩
 ·by_cases e:r=s
  ·subst e;rw[upd_same] at Χ;cases Χ;exact⟨o,ξ,h.symm⟩
  ·rw[upd_ne _ _ e] at Χ;exact⟨q,Χ,rfl⟩
 ·by_cases e:r=s
  ·subst e;rw[ξ] at Χ;cases Χ;exact⟨o',upd_same ..,h.symm⟩
  ·exact⟨q,by rw[upd_ne _ _ e];exact Χ,rfl⟩
section
variable {H:cS->Γ} {aR:Nat->Nat->Option (Array Value×TypeId)} {tok eU:Nat->Nat->Tok} {O O':Nat->Option aW} {bC:Nat->Nat} {deaf Mn:Nat->Nat} {N h5:Nat} {t:Trace} {bu w w':World}
theorem C4 {h:cS} {k:Nat} (dN:∀s o',O' s=some o'->∃o,O s=some o/\o.toSpec=o'.toSpec) (Υ:∀i s,eU i s≠.nil->tok i s≠.nil) (ψ:ks tok O t h k):ks eU O' t h k:=by
 cases h with
 | inl i=>exact ψ
 | inr b=>
  refine ψ.imp id λh s o ξ hb i hi=>?_;obtain⟨mx,U,γ⟩:=dN s o ξ;exact h s mx U (by rw[γ];exact hb) i (Υ i s hi)
theorem jB.T4 (h:jB H aR tok O bC deaf N t) (dN:nk O O') (Υ:∀i s,eU i s≠.nil->tok i s≠.nil):jB H aR eU O' bC deaf N t:=
 ⟨h.race,h.low,h.norel,λk=>(h.perms k).mono λ_=>C4 dN.1 Υ,h.pG,λs o b ξ hb=>let ⟨mx,U,γ⟩:=dN.1 s o ξ;h.cont s mx b U (by rw[γ];exact hb),h.hears⟩
theorem ji.n5 (h:ji H aR O h5) (dN:nk O O'):ji H aR O' h5:=
 ⟨h.apart,h.high,h.oT,h.fresh,λs o b ξ hb=>let ⟨mx,U,γ⟩:=dN.1 s o ξ;h.lx s mx b U (by rw[γ];exact hb),
  λs bs o o' b ξ jS hb ec=>let ⟨mx,U,γ⟩:=dN.1 s o ξ;let ⟨dR,ο,Ι⟩:=dN.1 bs o' jS;h.lP s bs mx dR b U ο (by rw[γ];exact hb) (by rw[Ι];exact ec),
  λs o m ξ hm=>let ⟨mx,U,γ⟩:=dN.1 s o ξ;h.qE s mx m U (by rw[γ];exact hm),
  λb hb=>h.eT b λs o ξ hi=>let ⟨o',U,γ⟩:=dN.2 s o ξ;hb s o' U (by rw[<-γ];exact hi)⟩
theorem jB.ext (h:jB H aR tok O bC deaf N t) (Δ:ji H aR O h5) (i:Nat) {u:Trace} (hu:∀op∈u,op.g=i) (π:∀op∈u,op.act.low N) (μ:∀op∈u,∀a,op.act≠.mark (.release a))
  (Υ:∀op∈u,∀b,op.act.touch?=some b->∃s o nm off,O s=some o/\eN s o.toSpec nm/\b.loc=.cell ⟨nm,off,none⟩/\(b.kind=.atomic\/(b.kind=.said/\i=bC s)))
  (hd:∀j,Deaf (t++u) j=Mn j):jB H aR tok O bC Mn N (t++u):=by
 refine⟨λsaid=>noRace_append (h.race said) hu λk a ν op Τ b hb ε=>?_,λop Τ=>(Array.mem_append.1 Τ).elim (h.low op) (π op),λop Τ=>(Array.mem_append.1 Τ).elim (h.norel op) (μ op),λk=>?_,λj b v hv k a ν fH=>?_,λs o b ξ hb k a ν fH=>?_,hd⟩
 ·obtain⟨s,o,nm,off,U,γ,ο,Ι⟩:=Υ op Τ b hb;obtain⟨c1,_,_,c4⟩:=ε;have fH:oO a.loc nm:=by rw[c1,ο];rfl
  rcases h.cont s o nm U γ k a ν fH with ax|⟨ax,bf⟩
  ·exfalso;rcases c4 with x|x|⟨_,x,_⟩
   ·rw[ax] at x;cases x
   ·rcases Ι with y|⟨y,_⟩<;>(rw[y] at x;cases x)
   ·rw[ax] at x;cases x
  ·rcases Ι with y|⟨y,rfl⟩
   ·exfalso;rcases c4 with x|x|⟨_,_,x⟩
    ·rw[ax] at x;cases x
    ·rw[y] at x;cases x
    ·rw[y] at x;cases x
   ·obtain⟨z,Ψ,_⟩:=touch_of ν;have:=knows_own Ψ;have e:z.g=bC s:=by simpa[Trace.g?,Ψ] using bf
    rwa [e] at this
 ·have:dE (t++u) (ks tok O (t++u) k) (H k):=(h.perms k).others (λx δ=>G7 _ δ) λop Τ a ν=>by
   obtain⟨s,o,nm,off,U,γ,ο,Ι⟩:=Υ op Τ a ν;have off:=(Δ.lx s o nm U γ).2.1 k;refine⟨λb o' v p π ε=>?_,λb π hb=>?_⟩
   ·rw[ο] at π;cases π;exact absurd ⟨_,ε⟩ (off.1 _)
   ·rw[ο] at π;cases π
  exact this
 ·rcases n6 ν with ew|⟨_,op,Τ,_,jj⟩
  ·exact h.pG j b v hv k a ew fH
  ·obtain⟨s,o,nm,off,U,γ,ο,Ι⟩:=Υ op Τ a jj;rw[ο] at fH;simp only[oO] at fH;subst fH;rw[(Δ.lx s o nm U γ).2.2 j] at hv;cases hv
 ·rcases n6 ν with ew|⟨_,op,Τ,ψ,jj⟩
  ·rcases h.cont s o b ξ hb k a ew fH with x|⟨x,Ω⟩
   ·exact .inl x
   ·obtain⟨z,Ψ,_⟩:=touch_of ew;exact .inr ⟨x,by rw[g?_old (lt_size_of_getElem? Ψ)];exact Ω⟩
  ·obtain⟨bs,o',nm,off,U,γ,ο,Ι⟩:=Υ op Τ a jj;rw[ο] at fH;simp only[oO] at fH;subst fH;have es:=Δ.lP s bs o o' nm ξ U hb γ;subst es;rcases Ι with x|⟨x,y⟩
   ·exact .inl x
   ·exact .inr ⟨x,by simp[Trace.g?,ψ,hu op Τ,y]⟩
theorem dE.sub {kp:Nat->Prop} {G G':Γ} (h:dE t kp G) (ξ:Sub G' G):dE t kp G':=
 ⟨λb o v p ε i a ν π hw=>let ⟨fY,ao,ω⟩:=ξ.aS b o v p ε;h.aS b o v fY ao i a ν π (hw.imp ω id),λb ⟨x,δ⟩ i a ν π=>h.obj b ⟨x,ξ.obj b x δ⟩ i a ν π⟩
theorem dE.join {kp:Nat->Prop} {G E:Γ} (h:dE t kp G) (k:dE t kp E):dE t kp (Go.TL.join G E):=by
 refine⟨λb o v p ε i a ν π hw=>?_,λb hb i a ν π=>?_⟩
 ·simp only[Go.TL.join] at ε;cases Ω:G.aS b o with
  | none=>rw[Ω] at ε;exact k.aS b o v p ε i a ν π hw
  | some y=>rw[Ω] at ε;cases ε;exact h.aS b o v p Ω i a ν π hw
 ·obtain⟨x,δ⟩:=hb;simp only[Go.TL.join] at δ;cases Ω:G.obj b with
  | none=>rw[Ω] at δ;exact k.obj b ⟨x,δ⟩ i a ν π
  | some y=>exact h.obj b ⟨y,Ω⟩ i a ν π
theorem dE.empty {kp:Nat->Prop}:dE t kp Γ.empty:=⟨λ_ _ _ _ h=>(by cases h),λ_ ⟨_,h⟩=>(by cases h)⟩
theorem dE.release {i b:Nat} {G:Γ} {y:MemOp} (h:dE t (Knows t i) G) (Ω:y.g=i) (Μ:y.act=.mark (.releaseMerge ⟨b,0,none⟩)) (hd:Deaf t i=0):dE (t++#[y]) (ks tok O (t++#[y]) (.inr b)) G:=by
 have ku:(t++#[y])[t.size]?=some y:=η
 have z7:(t++#[y]).heard t.size:=⟨i,by simp[Trace.g?,Ω],by rw[deaf_old (Nat.le_refl _)];exact hd⟩
 have key:∀k,Knows t i k->ks tok O (t++#[y]) (.inr b) k:=λk ψ=>.inl ⟨t.size,y,ku,Μ,z7,.inr (ψ.hb_new (Nat.le_refl _) ku Ω)⟩
 have nt:∀k a,touchAt (t++#[y]) k=some a->touchAt t k=some a:=λk a ν=>by
  rcases n6 ν with ew|⟨_,op,Τ,_,jj⟩
  ·exact ew
  ·simp at Τ;subst Τ;rw[Μ] at jj;simp[MemAct.touch?] at jj
 exact⟨λpI o v p ε k a ν π hw=>key k (h.aS pI o v p ε k a (nt k a ν) π hw),λpI hb k a ν π=>key k (h.obj pI hb k a (nt k a ν) π)⟩
theorem dE.acquire {i b s:Nat} {o:aW} {E:Γ} {y:MemOp} (h:dE t (ks tok O t (.inr b)) E) (eE:∀op∈t,∀a,op.act≠.mark (.release a)) (ξ:O s=some o) (hb:eN s o.toSpec b) (hi:tok i s≠.nil)
  (Ω:y.g=i) (Μ:y.act=.mark (.acquire ⟨b,0,none⟩)) (hd:Deaf t i=0):dE (t++#[y]) (Knows (t++#[y]) i) E:=by
 have ku:(t++#[y])[t.size]?=some y:=η
 have z7:(t++#[y]).heard t.size:=⟨i,by simp[Trace.g?,Ω],by rw[deaf_old (Nat.le_refl _)];exact hd⟩
 have key:∀k,ks tok O t (.inr b) k->Knows (t++#[y]) i k:=λk ψ=>by
  rcases ψ with⟨p,op,U,γ,ο,Ι⟩|ψ
  ·have ω:=lt_size_of_getElem? U;refine⟨t.size,y,ku,Ω,.inr ((Ι.app #[y]).hb (.single (.inr ⟨.marked (a:=⟨b,0,none⟩) ω (.inr ?_) ?_ ?_,(heard_old ω).2 ο,z7⟩)))⟩
   ·rw[act?_old ω,act?_of U,γ]
   ·rw[act?_of ku,Μ]
   ·intro al jC fl iN;rw[act?_old fl] at iN;obtain⟨sZ,kv,jj⟩:=Option.map_eq_some_iff.1 iN;exact eE sZ (mem_of_getElem? kv) _ jj
  ·exact(ψ s o ξ hb i hi).app _
 have nt:∀k a,touchAt (t++#[y]) k=some a->touchAt t k=some a:=λk a ν=>by
  rcases n6 ν with ew|⟨_,op,Τ,_,jj⟩
  ·exact ew
  ·simp at Τ;subst Τ;rw[Μ] at jj;simp[MemAct.touch?] at jj
 exact⟨λpI o v p ε k a ν π hw=>key k (h.aS pI o v p ε k a (nt k a ν) π hw),λpI hb k a ν π=>key k (h.obj pI hb k a (nt k a ν) π)⟩
theorem Knows.spawn {i j k:Nat} {y z:MemOp} (h:Knows t i k) (Mo:y.g=i) (Μ:y.act=.go j) (Hg:z.g=j) (Ψ:z.act=.start) (hd:Deaf t i=0) (T5:Deaf t j=0):Knows (t++#[y,z]) j k:=by
 have wx:(t++#[y,z])[t.size]?=some y:=η
 have ob:(t++#[y,z])[t.size+1]?=some z:=η
 have d1:(t++#[y,z]).heard t.size:=⟨i,by simp[Trace.g?,Mo],by rw[deaf_old (Nat.le_refl _)];exact hd⟩
 have d2:(t++#[y,z]).heard (t.size+1):=⟨j,by simp[Trace.g?,Hg],by
  rw[deaf_succ wx];have:deafStep j ((t++#[y,z]).deaf j t.size) y=(t++#[y,z]).deaf j t.size:=by simp[deafStep,Μ]
  rw[this,deaf_old (Nat.le_refl _)];exact T5⟩
 have Ζ:=h.hb_new (u:=#[y,z]) (Nat.le_refl _) wx Mo
 have Ε:HappensBefore (t++#[y,z]) t.size (t.size+1):=.single (.inr ⟨.spawn (child:=j) (by rw[act?_of wx,Μ]) (by rw[act?_of ob,Ψ]) (by simp[Trace.g?,Hg]),d1,d2⟩);exact⟨t.size+1,z,ob,Hg,.inr (Ζ.trans Ε)⟩
theorem Sub.refl (G:Γ):Sub G G:=⟨λ_ _ _ p h=>⟨p,h,id⟩,λ_ _ h=>h,λ_ _ h=>h⟩
theorem Sub.owns {G G':Γ} (h:Sub G' G) {b o:Nat} (x:G'.owns b o):G.owns b o:=let ⟨v,hv⟩:=x;let ⟨p,ao,ω⟩:=h.aS b o v true hv;⟨v,by rw[ao,ω rfl]⟩
theorem Sub.has {G G':Γ} (h:Sub G' G) {b o:Nat} (x:G'.has b o):G.has b o:=let ⟨v,hv⟩:=x;let ⟨p,ao,_⟩:=h.aS b o v.1 v.2 hv;⟨_,ao⟩
theorem Sub.fx {G G':Γ} (h:Sub G' G) {b:Nat} (x:G'.fx b):G.fx b:=let ⟨v,hv⟩:=x;⟨v,h.obj b v hv⟩
theorem Sub.off {G G':Γ} (h:Sub G' G) {b:Nat} (x:G.off b):G'.off b:=⟨λo Β=>x.1 o (h.has Β),λΒ=>x.2 (h.fx Β)⟩
theorem Sub.fits {G G':Γ} (h:Sub G' G) (x:Fits G w):Fits G' w:=⟨λb o v p ε=>let ⟨fY,ao,_⟩:=h.aS b o v p ε;x.aS b o v fY ao,λb t n μ=>x.row b t n (h.row b _ μ),λb v hv=>x.obj b v (h.obj b v hv)⟩
theorem Apart.symm {A B:Γ} (h:Apart A B):Apart B A:=⟨h.rJ,h.aS,λb hb ν=>h.obj b ν hb⟩
theorem Apart.sub {A B Mp B':Γ} (h:Apart A B) (ν:Sub Mp A) (hb:Sub B' B):Apart Mp B':=
 ⟨λb o x y=>h.aS b o (ν.owns x) (hb.has y),λb o x y=>h.rJ b o (hb.owns x) (ν.has y),λb x y=>h.obj b (ν.fx x) (hb.fx y)⟩
theorem Apart.uM (A:Γ):Apart A Γ.empty:=⟨λ_ _ _ ⟨_,h⟩=>(by cases h),λ_ _ ⟨_,h⟩=>(by cases h),λ_ _ ⟨_,h⟩=>(by cases h)⟩
theorem Hh {G E:Γ} {b o:Nat} (h:(join G E).owns b o):G.owns b o\/E.owns b o:=by
 obtain⟨v,hv⟩:=h;simp only[join] at hv;cases Ω:G.aS b o with
 | none=>rw[Ω] at hv;exact .inr ⟨v,hv⟩
 | some y=>rw[Ω] at hv;cases hv;exact .inl ⟨v,Ω⟩
theorem Mq {G E:Γ} {b o:Nat} (h:(join G E).has b o):G.has b o\/E.has b o:=by
 obtain⟨v,hv⟩:=h;simp only[join] at hv;cases Ω:G.aS b o with
 | none=>rw[Ω] at hv;exact .inr ⟨v,hv⟩
 | some y=>exact .inl ⟨y,Ω⟩
theorem C5 {G E:Γ} {b:Nat} (h:(join G E).fx b):G.fx b\/E.fx b:=by
 obtain⟨v,hv⟩:=h;simp only[join] at hv;cases Ω:G.obj b with
 | none=>rw[Ω] at hv;exact .inr ⟨v,hv⟩
 | some y=>exact .inl ⟨y,Ω⟩
theorem T6 {G E:Γ} {b:Nat} (h:G.off b) (k:E.off b):(join G E).off b:=⟨λo Β=>(Mq Β).elim (h.1 o) (k.1 o),λΒ=>(C5 Β).elim h.2 k.2⟩
theorem z8 {G E:Γ} (h:Fits G w) (k:Fits E w):Fits (join G E) w:=by
 refine⟨λb o v p ε=>?_,λb t n μ=>?_,λb v hv=>?_⟩
 ·simp only[join] at ε;cases Ω:G.aS b o with
  | none=>rw[Ω] at ε;exact k.aS b o v p ε
  | some y=>rw[Ω] at ε;cases ε;exact h.aS b o v p Ω
 ·simp only[join] at μ;cases Ω:G.row b with
  | none=>rw[Ω] at μ;exact k.row b t n μ
  | some y=>rw[Ω] at μ;cases μ;exact h.row b t n Ω
 ·simp only[join] at hv;cases Ω:G.obj b with
  | none=>rw[Ω] at hv;exact k.obj b v hv
  | some y=>rw[Ω] at hv;cases hv;exact h.obj b v Ω
theorem Apart.rS {A B C:Γ} (h:Apart A C) (k:Apart B C):Apart (join A B) C:=
 ⟨λb o x y=>(Hh x).elim (λz=>h.aS b o z y) (λz=>k.aS b o z y),λb o x y=>(Mq y).elim (λz=>h.rJ b o x z) (λz=>k.rJ b o x z),λb x y=>(C5 x).elim (λz=>h.obj b z y) (λz=>k.obj b z y)⟩
theorem wy (w:World):Fits Γ.empty w:=⟨λ_ _ _ _ h=>(by cases h),λ_ _ _ h=>(by cases h),λ_ _ h=>(by cases h)⟩
theorem ji.two (h:ji H aR O h5) {a b:cS} (e':a≠b) {A B:Γ} (bY:Sub A (join (H a) (H b))) (dV:Sub B (join (H a) (H b))) (Mr:Apart A B)
  (dN:nk O O') (Ms:∀x,b=.inr x\/a=.inr x->∃s o,O s=some o/\eN s o.toSpec x):ji (bV (bV H a A) b B) aR O' h5:=by
 have dh:=h.n5 dN
 have wz:bV (bV H a A) b B a=A:=by rw[bW _ _ e',dY]
 have wA:bV (bV H a A) b B b=B:=dY _ _ _
 have rT:∀k,k≠a->k≠b->bV (bV H a A) b B k=H k:=λk U γ=>by rw[bW _ _ γ,bW _ _ U]
 have C6:∀k,k≠a->k≠b->Apart (join (H a) (H b)) (H k):=λk U γ=>(h.apart a k (Ne.symm U)).rS (h.apart b k (Ne.symm γ))
 have Mt:∀x,(∀k,(H k).off x)->(join (H a) (H b)).off x:=λx δ=>T6 (δ a) (δ b)
 have Hi:∀{p:cS->Prop},p a->p b->(∀k,k≠a->k≠b->p k)->∀k,p k:=λuN uO oV k=>by
  by_cases U:k=a
  ·rw[U];exact uN
  ·by_cases γ:k=b
   ·rw[γ];exact uO
   ·exact oV k U γ
 have Mu:∀x,(∀k,(H k).off x)->∀k,(bV (bV H a A) b B k).off x:=λx δ=>Hi (by rw[wz];exact bY.off (Mt x δ)) (by rw[wA];exact dV.off (Mt x δ)) (λk U γ=>by rw[rT k U γ];exact δ k);refine⟨λp q z9=>?_,?_,?_,λi x v hv=>?_,λs o x ξ δ=>?_,dh.lP,dh.qE,λx δ=>?_⟩
 ·by_cases uN:p=a
  ·subst uN;by_cases x7:q=b
   ·subst x7;rw[wz,wA];exact Mr
   ·rw[wz,rT q (Ne.symm z9) x7];exact(C6 q (Ne.symm z9) x7).sub bY (Sub.refl _)
  ·by_cases uO:p=b
   ·subst uO;by_cases x8:q=a
    ·subst x8;rw[wz,wA];exact Mr.symm
    ·rw[wA,rT q x8 (Ne.symm z9)];exact(C6 q x8 (Ne.symm z9)).sub dV (Sub.refl _)
   ·by_cases x8:q=a
    ·subst x8;rw[wz,rT p uN uO];exact((C6 p uN uO).sub bY (Sub.refl _)).symm
    ·by_cases x7:q=b
     ·subst x7;rw[wA,rT p uN uO];exact((C6 p uN uO).sub dV (Sub.refl _)).symm
     ·rw[rT p uN uO,rT q x8 x7];exact h.apart p q z9
 ·exact Hi (λx o Β=>by rw[wz] at Β;exact(Hh (bY.owns Β)).elim (h.high _ _ _) (h.high _ _ _)) (λx o Β=>by rw[wA] at Β;exact(Hh (dV.owns Β)).elim (h.high _ _ _) (h.high _ _ _)) (λk U γ x o Β=>by rw[rT k U γ] at Β;exact h.high _ _ _ Β)
 ·exact Hi (λx Β=>by rw[wz] at Β;exact(C5 (bY.fx Β)).elim (h.oT _ _) (h.oT _ _)) (λx Β=>by rw[wA] at Β;exact(C5 (dV.fx Β)).elim (h.oT _ _) (h.oT _ _)) (λk U γ x Β=>by rw[rT k U γ] at Β;exact h.oT _ _ Β)
 ·obtain⟨a1,bb,cP⟩:=h.fresh i x v hv;exact⟨a1,Mu x bb,cP⟩
 ·obtain⟨a1,bb,cP⟩:=dh.lx s o x ξ δ;exact⟨a1,Mu x bb,cP⟩
 ·have iy:(.inr x:cS)≠b:=λe=>by
   obtain⟨s,o,ξ,hi⟩:=Ms x (.inl e.symm);obtain⟨o',U,γ⟩:=dN.2 s o ξ;exact δ s o' U (by rw[<-γ];exact hi)
  have gD:(.inr x:cS)≠a:=λe=>by
   obtain⟨s,o,ξ,hi⟩:=Ms x (.inr e.symm);obtain⟨o',U,γ⟩:=dN.2 s o ξ;exact δ s o' U (by rw[<-γ];exact hi)
  rw[rT _ gD iy];exact dh.eT x δ
theorem Sub.rS {G E A:Γ} (h:Sub A G):Sub A (join G E):=
 ⟨λb o v p ε=>let ⟨fY,ao,ω⟩:=h.aS b o v p ε;⟨fY,by simp[join,ao],ω⟩,λb x δ=>by simp[join,h.row b x δ],λb x δ=>by simp[join,h.obj b x δ]⟩
theorem hO.two (h:hO H aR O bu w) {a b:cS} {A B:Γ} (bY:Fits A w) (dV:Fits B w) (dN:∀s o',O' s=some o'->At s o' w):hO (bV (bV H a A) b B) aR O' bu w:=by
 refine⟨λk=>?_,h.ni,dN,h.keep⟩;by_cases γ:k=b
 ·subst γ;rw[dY];exact dV
 ·rw[bW _ _ γ];by_cases U:k=a
  ·subst U;rw[dY];exact bY
  ·rw[bW _ _ U];exact h.fit k
theorem hO.atom (h:hO H aR O bu w) (Δ:ji H aR O h5) (ao:bu.heap.size=h5) {s:Nat} {o o':aW} (ξ:O s=some o) (ca:o'.toSpec=o.toSpec) (ψ:fV (λb _=>eN s o.toSpec b) (λ_=>False) w w') (ν:At s o' w') :
  hO H aR (Go.ConcN.upd O s (some o')) bu w':=by
 refine⟨λk=>(h.fit k).keeps ψ (λb dR hb=>((Δ.lx s o b ξ hb).2.1 k).1 dR) (λb hb=>hb.elim),λj b c t hb=>?_,λr q Χ=>?_,?_⟩
 ·obtain⟨c',U,γ,ο⟩:=ψ.cells b c t _ (h.ni j b c t hb);have:c'=c:=by
   apply Array.ext_getElem?;intro dR;exact ο dR λec=>by rw[(Δ.lx s o b ξ ec).2.2 j] at hb;cases hb
  rw[U,this]
 ·by_cases e:r=s
  ·subst e;rw[upd_same] at Χ;cases Χ;exact ν
  ·rw[upd_ne _ _ e] at Χ;have z1:∀b c t,eN r q.toSpec b->w.heap[b]?=some (.cells c t (0,0))->w'.heap[b]?=some (.cells c t (0,0)):=λb c t hb ε=>by
    obtain⟨c',U,γ,ο⟩:=ψ.cells b c t _ ε;have:c'=c:=by
     apply Array.ext_getElem?;intro dR;exact ο dR λec=>e (Δ.lP r s q o b Χ ξ hb ec)
    rw[U,this]
   obtain⟨⟨ty,U⟩,γ⟩:=h.gl r q Χ;exact⟨⟨ty,z1 _ _ _ (.inl rfl) U⟩,λm hm=>let ⟨kq,ο⟩:=γ m hm;⟨kq,z1 _ _ _ (.inr hm) ο⟩⟩
 ·have e1:=h.keep;refine⟨Nat.le_trans e1.size ψ.size,λb c t ep hb=>?_,λb x hb δ _=>ψ.n5 b x (e1.n5 b x hb δ id) δ id,e1.os.trans ψ.os,ψ.output.trans e1.output,ψ.tape.trans e1.tape⟩;obtain⟨c1,U,γ,ο⟩:=e1.cells b c t ep hb;obtain⟨c2,Ι,ax,bf⟩:=ψ.cells b c1 t ep U;refine⟨c2,Ι,by rw[ax,γ],λdR _=>?_⟩;rw[bf dR λδ=>?_,ο dR id];have:=(Δ.lx s o b ξ δ).1;have:=fW hb;omega
end
structure x9 (H:cS->Γ) (tok:Nat->Nat->Tok) (O:Nat->Option aW):Prop where
 qF:∀s o m,O s=some o->o.a4=some m->(∀i q p,tok i s≠.par q p .bH)->(∀i k L g,tok i s≠.ch k (.dA L) g)->o.av o.L (H (.inr m))
 nn:∀s o,O s=some o->(∀i q p,tok i s≠.par q p .bH)->my o.D o.R (H (.inr s))
structure wB (n:Nat) (tok:Nat->Nat->Tok) (rel:Nat->Bool) (bC home dP:Nat->Nat) (t:Trace):Prop where
 ed:∀k g,t.g? k=some g->g<n
 c1:∀i,i≠0->rel i=true->∃op,t[dP i]?=some op/\op.g=i/\op.act=.mark (.releaseMerge ⟨home i,0,none⟩)/\t.heard (dP i)/\∀k,t.g? k=some i->t.counts k->Before t k (dP i)
 c2:∀i,i≠0->rel i=true->(∃q p,tok (bC (home i)) (home i)=.par q p .bH)->Knows t (bC (home i)) (dP i)
 c3:∀i,i≠0->rel i=true->bC (home i)≠0->rel (bC (home i))=true->Before t (dP i) (dP (bC (home i)))
structure x' (aR:Nat->Nat->Option (Array Value×TypeId)) (tok:Nat->Nat->Tok) (O:Nat->Option aW) (rel:Nat->Bool) (dP:Nat->Nat) (t:Trace):Prop where
 iM:∀s o m,O s=some o->o.a4=some m->∀p op,t[p]?=some op->op.act=.mark (.releaseMerge ⟨m,0,none⟩)->(∃k mu g,tok op.g s=.ch k mu g)/\(rel op.g=true->Before t p (dP op.g))
 wC:∀i b v,aR i b=some v->∀op∈t,op.act≠.mark (.releaseMerge ⟨b,0,none⟩)
def Rec (P:Program) (Q:Value->Prop) (c:dn) (i:Nat) (g:Goroutine):Prop:=
 ∃cN,kr P Q (c.T i) (i==0) cN (c.x i)/\(g=cN\/(jA cN/\g={cN with status:=.blocked}/\∃s o,c.O s=some o/\kW o (c.tok i s)/\∀bs,bs≠s->oa (c.tok i bs)))
structure Inv (P:Program) (Q:Value->Prop) (bu:World) (c:dn) (gs:Array Goroutine) (w:World) (t:Trace):Prop where
 pos:0<gs.size
 mem:hO c.H c.aR c.O bu w
 hold:ji c.H c.aR c.O bu.heap.size
 b5:jB c.H c.aR c.tok c.O c.bC c.deaf w.heap.size t
 bn:e9 gs.size c.tok c.spec c.view c.rel c.O c.bC c.home
 eT:x9 c.H c.tok c.O
 eB:wB gs.size c.tok c.rel c.bC c.home c.dP t
 gm:x' c.aR c.tok c.O c.rel c.dP t
 wD:∀i g,gs[i]?=some g->Rec P Q c i g
theorem z' {t u:Trace} {k:Nat} (h:k<t.size):(t++u).counts k↔t.counts k:=by
 unfold Trace.counts;rw[act?_old h,heard_old h]
theorem wB.app {n:Nat} {tok eU:Nat->Nat->Tok} {rel:Nat->Bool} {bC home dP:Nat->Nat} {t u:Trace} (h:wB n tok rel bC home dP t) {i:Nat} (hi:i<n) (hu:∀op∈u,op.g=i)
  (ε:rel i=true->∀k,t.size<=k->¬(t++u).counts k) (ψ:∀s q p,(∃j,eU j s=.par q p .bH)->∃j,tok j s=.par q p .bH) (Aa:∀j s q p,eU j s=.par q p .bH->tok j s=.par q p .bH):wB n eU rel bC home dP (t++u):=by
 refine⟨λk g Ω=>?_,λj ao ζ=>?_,λj ao ζ b3=>?_,λj ao ζ U γ=>(h.c3 j ao ζ U γ).app u⟩
 ·obtain⟨op,Β,h6⟩:=Option.map_eq_some_iff.1 Ω;rcases getElem?_append_cases Β with⟨_,kv⟩|⟨_,gM⟩
  ·exact h.ed k g (by simp[Trace.g?,kv,h6])
  ·rw[<-h6,hu op gM];exact hi
 ·obtain⟨op,U,γ,ο,Ι,ax⟩:=h.c1 j ao ζ;have ω:=lt_size_of_getElem? U;refine⟨op,by rw[getElem?_append_old ω];exact U,γ,ο,(heard_old ω).2 Ι,λk Ω pO=>?_⟩;obtain⟨sZ,Β,h6⟩:=Option.map_eq_some_iff.1 Ω;rcases getElem?_append_cases Β with⟨aN,kv⟩|⟨hle,gM⟩
  ·exact(ax k (by simp[Trace.g?,kv,h6]) ((z' aN).1 pO)).app u
  ·have e:j=i:=by rw[<-h6,hu sZ gM]
   subst e;exact absurd pO (ε ζ k hle)
 ·obtain⟨q,p,Χ⟩:=b3;exact(h.c2 j ao ζ ⟨q,p,Aa _ _ _ _ Χ⟩).app u
section
variable {P:Program} {Q:Value->Prop} {bu:World} {c:dn} {gs:Array Goroutine} {w:World} {t:Trace}
theorem Inv.stat (h:Inv P Q bu c gs w t) {i:Nat} {g:Goroutine} (Ω:gs[i]?=some g):g.status=.running\/(i≠0/\g.status=.finished/\c.rel i=true/\∀s,Gone (c.tok i s))\/(g.status=.blocked/\∃s o,c.O s=some o/\kW o (c.tok i s)/\∀bs,bs≠s->oa (c.tok i bs)):=by
 obtain⟨cN,μ,ε⟩:=h.wD i g Ω;rcases ε with rfl|⟨_,rfl,hw⟩
 ·cases Ν:c.T i with
  | leaf=>
   rw[Ν] at μ;rcases μ.2 with⟨_,U⟩|⟨ao,U,γ,ο,_⟩
   ·exact .inl U.1.1
   ·exact .inr (.inl ⟨by rintro rfl;simp at ao,ο,U,γ⟩)
  | node f=>
   rw[Ν] at μ;rcases μ.2 with(⟨_,U⟩|⟨ao,U,γ,ο,_⟩)|U
   ·exact .inl U.1.1
   ·exact .inr (.inl ⟨by rintro rfl;simp at ao,ο,U,γ⟩)
   ·rcases U with⟨_,γ,_⟩|⟨γ,_⟩
    ·exact .inl γ
    ·exact .inl γ.1
 ·exact .inr (.inr ⟨rfl,hw⟩)
theorem T7 {t:Tok} (h:pE t):∃k m g,t=.ch k m g/\¬oa t/\(∀o,¬kW o t)/\m≠.done/\m≠.idle:=by
 cases t with
 | nil=>exact h.elim
 | par=>exact h.elim
 | ch k m g=>
  refine⟨k,m,g,rfl,?_⟩;cases m with
  | act b=>cases b<;>first|exact h.elim|simp[oa,kW]
  | _=>first|exact h.elim|simp[oa,kW]
theorem Inv.awake (h:Inv P Q bu c gs w t):∃(i:Nat) (g:Goroutine),gs[i]?=some g/\g.status=.running:=by
 apply Classical.byContradiction;intro T8;have g3:∀i,i<gs.size->(c.rel i=true/\∀s,Gone (c.tok i s))\/∃s o,c.O s=some o/\kW o (c.tok i s)/\∀bs,bs≠s->oa (c.tok i bs):=λi hi=>by
  have Ω:gs[i]?=some gs[i]:=fw hi;rcases h.stat Ω with U|⟨_,_,U⟩|⟨_,U⟩
  ·exact absurd ⟨i,_,Ω,U⟩ T8
  ·exact .inl U
  ·exact .inr U
 have up:∀i s o n p,c.O s=some o->c.tok i s=.par n p .w3->o.cU=0->∃j bs o' jT fA,i<j/\j<gs.size/\c.O bs=some o'/\c.tok j bs=.par jT fA .w3/\o'.cU=0:=λi s o n p ξ Υ ao=>by
  have bd:i<gs.size:=h.bn.lt (s:=s) (by rw[Υ];simp);obtain⟨j,ζ,cD⟩:=TP (h.bn.bg s o ξ).2 (i:=i) bd Υ ao;have np:rP (c.tok j s):=cD;have lR:∃k m g,c.tok j s=.ch k m g/\g≠.gone:=by
   cases δ:c.tok j s with
   | nil=>rw[δ] at np;exact np.elim
   | par=>rw[δ] at np;exact np.elim
   | ch k m g=>rw[δ] at np;exact⟨k,m,g,rfl,by rintro rfl;exact np⟩
  obtain⟨k,m,g,δ,Ω⟩:=lR;obtain⟨_,s0,aN⟩:=h.bn.pK j s k m g δ;have hi:=h.bn.par i s n p _ Υ;rcases g3 j ζ with⟨_,U⟩|⟨bs,o',jS,hw,kη⟩
  ·have:=U s;rw[δ] at this;cases g<;>first|exact absurd rfl Ω|exact this.elim
  ·by_cases e:bs=s
   ·subst e;rw[ξ] at jS;cases jS;rw[δ] at hw;have hm:m=.q/\o.dm=0:=by cases m<;>simp_all [kW]
    obtain⟨rfl,T9⟩:=hm;have Χ:0<bh gs.size (λa=>c.tok a bs) mm:=by
     have:=fO (λa=>c.tok a bs) mm ζ;simp only[δ,mm,zQ] at this;omega
    obtain⟨a,ν,hb⟩:=TM (h.bn.bg bs o ξ).1 Χ T9;obtain⟨al,ck,g',iv,bE,c6,fX,nq⟩:=T7 hb;have C7:c.tok a bs=.ch al ck g':=iv;exfalso;rcases g3 a ν with⟨_,U⟩|⟨s2,iO,de,g4,wE⟩
    ·have s3:=U bs;rw[C7] at s3;have:g'≠.work:=by rintro rfl;exact s3
     rcases h.bn.pM a bs al ck g' o ξ C7 this with e|⟨e,_⟩
     ·exact fX e
     ·exact nq e
    ·by_cases Ε:s2=bs
     ·subst Ε;exact c6 _ g4
     ·exact bE (wE bs (Ne.symm Ε))
   ·cases Μ:c.tok j bs with
    | nil=>rw[Μ] at hw;exact hw.elim
    | ch al ck g'=>exact absurd ((h.bn.pK j bs al ck g' Μ).2.1.symm.trans s0) e
    | par jT fA Hc=>
     rw[Μ] at hw;cases Hc<;>first|exact hw.elim|exact⟨j,bs,o',jT,fA,J,ζ,jS,Μ,hw⟩
 have top:∀d i s o n p,gs.size-i=d->i<gs.size->c.O s=some o->c.tok i s=.par n p .w3->o.cU=0->False:=λd=>by
  induction d using Nat.strongRecOn with
  | _ d Α=>
   intro i s o n p hd hi ξ Υ ao;obtain⟨j,bs,o',jT,fA,U,γ,ο,Ι,ax⟩:=up i s o n p ξ Υ ao;exact Α (gs.size-j) J j bs o' jT fA rfl γ ο Ι ax
 rcases g3 0 h.pos with⟨U,_⟩|⟨s,o,ξ,hw,_⟩
 ·rw[h.bn.uJ] at U;cases U
 ·cases Μ:c.tok 0 s with
  | nil=>rw[Μ] at hw;exact hw.elim
  | ch k m g=>exact(h.bn.pK 0 s k m g Μ).1 rfl
  | par n p aQ=>
   rw[Μ] at hw;cases aQ<;>first|exact hw.elim|exact top _ 0 s o n p rfl h.pos ξ Μ hw
theorem Rec.woken {c':dn} {i j:Nat} {g g' b:Goroutine} {w':World} (h:Rec P Q c j b) (δ:c'.x j=c.x j) (Ν:c'.T j=c.T j)
  (hw:(mayWake P g=true/\jA g')\/∀s o,c.O s=some o->kW o (c.tok j s)->∃o',c'.O s=some o'/\kW o' (c.tok j s)):Rec P Q c' j (Go.Conc.woken P g g' w' b):=by
 have ei:c'.tok j=c.tok j:=congrArg a7.tok δ;obtain⟨cN,μ,ε⟩:=h;rcases ε with rfl|⟨er,rfl,s,o,ξ,rU,cD⟩
 ·have ξ:b.status=.running\/b.status=.finished:=by
   cases rV:c.T j with
   | leaf=>
    rw[rV] at μ;rcases μ.2 with⟨_,U⟩|⟨_,_,_,ο,_⟩
    ·exact .inl U.1.1
    ·exact .inr ο
   | node f=>
    rw[rV] at μ;rcases μ.2 with(⟨_,U⟩|⟨_,_,_,ο,_⟩)|U
    ·exact .inl U.1.1
    ·exact .inr ο
    ·rcases U with⟨_,γ,_⟩|⟨γ,_⟩
     ·exact .inl γ
     ·exact .inl γ.1
  have:Go.Conc.woken P g g' w' b=b:=by
   unfold Go.Conc.woken;split
   ·exact again_running _ ξ
   ·rfl
  rw[this];exact⟨b,by rw[δ,Ν];exact μ,.inl rfl⟩
 ·unfold Go.Conc.woken;split
  ·rename_i C8;refine⟨cN,by rw[δ,Ν];exact μ,.inl ?_⟩;obtain⟨r1,r2⟩:=er;obtain⟨aD,bH,st,kθ,of⟩:=cN;simp only at r1 r2;subst r1 r2;rfl
  ·rename_i C8;rcases hw with⟨U,γ⟩|hw
   ·exfalso;apply C8;simp[U,γ.1]
   ·obtain⟨o',U,γ⟩:=hw s o ξ rU;exact⟨cN,by rw[δ,Ν];exact μ,.inr ⟨er,rfl,s,o',U,by rw[ei];exact γ,by rw[ei];exact cD⟩⟩
end
section
variable {P:Program} {Q:Value->Prop} {bu:World} {c:dn} {gs:Array Goroutine} {w:World} {t:Trace}
theorem Inv.at (h:Inv P Q bu c gs w t) (d:Nat):Inv P Q bu c gs (w.at d) t:=⟨h.pos,h.mem.at d,h.hold,h.b5,h.bn,h.eT,h.eB,h.gm,h.wD⟩
theorem Inv.gone (h:Inv P Q bu c gs w t) (ao:∀s,gB (c.tok 0 s)):∀j,j≠0->j<gs.size->c.rel j=true/\(∀s,Gone (c.tok j s))/\Knows t 0 (c.dP j):=by
 have T':∀t:Tok,gB t->Gone t:=λt Υ=>by cases t with
  | nil=>trivial
  | par _ _ aQ=>cases aQ<;>first|exact Υ.elim|trivial
  | ch=>exact Υ.elim
 intro j
 induction j using Nat.strongRecOn with
 | _ j Α=>
  intro ga fe;obtain⟨k,m,g,Υ⟩:=h.bn.sX j ga fe;obtain⟨_,_,aN⟩:=h.bn.pK j _ k m g Υ;cases Β:c.O (c.home j) with
  | none=>have:=h.bn.bare _ Β j;rw[Υ] at this;cases this
  | some o=>
  have Θ:=h.bn.bg _ o Β;obtain⟨i0,lS,ω⟩:=CS (φ:=fc) (N:=gs.size) (τ:=λa=>c.tok a (c.home j)) (by rw[Θ.2.oR];exact Nat.one_pos);have Aa:∃q p aQ,c.tok i0 (c.home j)=.par q p aQ:=by
   cases δ:c.tok i0 (c.home j) with
   | par q p aQ=>exact⟨q,p,aQ,rfl⟩
   | nil=>simp[δ,fc] at ω
   | ch=>simp[δ,fc] at ω
  obtain⟨q,p,aQ,δ⟩:=Aa;have cu:=h.bn.par i0 _ q p aQ δ;subst cu;have b3:aQ=.bH/\(c.bC (c.home j)≠0->c.rel (c.bC (c.home j))=true/\Knows t 0 (c.dP (c.bC (c.home j)))):=by
   by_cases e:c.bC (c.home j)=0
   ·have:=ao (c.home j);rw[<-e,δ] at this;refine⟨by cases aQ<;>first|exact this.elim|rfl,λx=>absurd e x⟩
   ·obtain⟨r1,r2,r3⟩:=Α _ aN e lS;have:=r2 (c.home j);rw[δ] at this;exact⟨by cases aQ<;>first|exact this.elim|rfl,λ_=>⟨r1,r3⟩⟩
  obtain⟨rfl,gE⟩:=b3;have uP:bh gs.size (λa=>c.tok a (c.home j)) jh=1:=by
   rw[qy (φ:=jh) (λt Υ=>by cases t<;>simp_all [fc,jh]) Θ.2.oR lS (by rw[δ];rfl),δ];rfl
  obtain⟨f1,f2,f3,f4,f5,f6⟩:=Θ.2.LV uP;have C9:=Θ.2.GQ;have l1:=fO (λa=>c.tok a (c.home j)) jU fe;have l2:=fO (λa=>c.tok a (c.home j)) kT fe;have pD:=fO (λa=>c.tok a (c.home j)) kU fe;simp only[Υ,jU,kT,kU] at l1 l2 pD;have Ω:g=.gone:=by
   cases g with
   | gone=>rfl
   | work=>simp only[sU] at l1;omega
   | rel=>simp only[sU] at l1;omega
   | l2=>simp only[v7] at l2;omega
   | iw=>simp only[v8] at pD;omega
  subst Ω;have eE:c.rel j=true:=(h.bn.eO j k m _ ga Υ).2 η;refine⟨eE,λs=>?_,?_⟩
  ·by_cases e:s=c.home j
   ·subst e;rw[Υ];trivial
   ·exact T' _ (h.bn.pL j s eE e)
  ·have ψ:=h.eB.c2 j ga eE ⟨q,p,δ⟩;by_cases e:c.bC (c.home j)=0
   ·rw[e] at ψ;exact ψ
   ·obtain⟨r1,r2⟩:=gE e;exact Knows.of_before (h.eB.c3 j ga eE e r1) r2
theorem Ua {o:aW} {x:Tok} (h:Gone x) (U:∀k m g,x=.ch k m g->m≠.q):¬kW o x:=by
 cases x with
 | nil=>exact id
 | par _ _ aQ=>cases aQ<;>first|exact h.elim|exact id
 | ch k m g=>cases m<;>first|exact absurd rfl (U _ _ _ rfl)|exact id
theorem Inv.Mv (h:Inv P Q bu c gs w t) {g:Goroutine} (Ω:gs[0]?=some g) (ξ:Mb P g (c.x 0) Q) (sl:Option (Nat×Nat)) (w1:World) :
  ∃v es,stepG P true g w=.ended (.done v) w es/\Good P (λv w'=>Q v/\fV (λ_ _=>False) (λ_=>False) bu w') (crowd gs w1 sl) (.done v) w (t++MemOp.ofEvents 0 g.frame.fn g.frame.place es):=by
 obtain⟨_,c0,hd,uP⟩:=ξ;obtain⟨v,es,U,γ,ο⟩:=uP w (h.mem.fit (.inl 0));refine⟨v,es,U,v,rfl,⟨ο,h.mem.keep⟩,?_⟩;have qG:=h.gone c0;have Mw:=h.b5.own (w':=w) h.mem h.hold 0 (G':=c.H (.inl 0)) (V':=c.aR 0) (es:=es) (fn:=g.frame.fn) (pos:=g.frame.place) (Nat.le_refl _)
  ⟨λb o v p ε=>.inr ⟨v,p,ε,id⟩,λb hb=>.inr hb⟩ (λb x δ=>.inl δ) γ (λb x δ hle=>by
   have:=fW (h.mem.ni 0 b x.1 x.2 δ);omega)
 have quit:∀j x,j≠0->gs[j]?=some x->∃n,QuitsD P n (c.deaf j) x:=λj x ζ δ=>by
  have fe:=(Array.getElem?_eq_some_iff.1 δ).1;obtain⟨r1,r2,_⟩:=qG j ζ fe;obtain⟨cN,μ,ε⟩:=h.wD j x δ;have Χ:∃n,QuitsD P n (c.deaf j) cN:=by
   cases Ν:c.T j with
   | leaf=>rw[Ν] at μ;exact μ.1 r1 r2
   | node f=>rw[Ν] at μ;exact μ.1 r1 r2
  rcases ε with rfl|⟨_,_,s,o,ξ,hw,_⟩
  ·exact Χ
  ·refine absurd hw (Ua (r2 s) λk m g e hm=>?_);subst hm;have rW:g≠.work:=by rintro rfl;have:=r2 s;rw[e] at this;exact this
   rcases h.bn.pM j s k _ g o ξ e rW with x|⟨x,_⟩<;>cases x
 refine⟨Mw.race,λk g' ψ bx ε=>?_,⟨λx δ=>?_,rfl⟩,λj x δ ζ=>?_⟩
 ·obtain⟨op,Β,h6⟩:=Option.map_eq_some_iff.1 ψ;rcases getElem?_append_cases Β with⟨aN,kv⟩|⟨_,gM⟩
  ·have h7:t.g? k=some g':=by simp[Trace.g?,kv,h6]
   have Ub:=h.eB.ed k g' h7;obtain⟨r1,_,r3⟩:=qG g' bx Ub;obtain⟨sZ,Ζ,Ε,a8,cR,fy⟩:=h.eB.c1 g' bx r1;obtain⟨q,z,rX,mB,uQ⟩:=Knows.of_before (fy k h7 ((z' aN).1 ε)) r3;refine⟨q,by simp[Trace.g?,getElem?_append_old (lt_size_of_getElem? rX),rX,mB],?_⟩;rcases uQ with rfl|uQ
   ·exfalso;simp[Trace.g?,rX,mB] at h7;exact bx h7.symm
   ·exact hb_app _ uQ
  ·obtain⟨e,_,rfl⟩:=Go.Conc.mem_ofEvents gM;exact absurd h6.symm bx
 ·obtain⟨j,ζ⟩:=List.mem_iff_getElem?.1 δ;rw[List.getElem?_drop] at ζ;obtain⟨n,Χ⟩:=quit (1+j) x J (by simpa[crowd] using ζ);exact⟨n,Χ.leaves⟩
 ·obtain⟨n,Χ⟩:=quit j x ζ δ;refine⟨n,?_⟩;have e:(t++MemOp.ofEvents 0 g.frame.fn g.frame.place es).deaf j (t++MemOp.ofEvents 0 g.frame.fn g.frame.place es).size=c.deaf j:=Mw.hears j;rw[e];exact Χ.hears _
def Comes (P:Program) (Q:Value->Prop) (bu:World) (m:Machine) (t:Trace):Prop:=
 ∃N last o w' t',runNT P (N+1) m t=(.ended o w',t')/\runN P N m=.next last/\step P last=.ended o w'/\Good P (λv w'=>Q v/\fV (λ_ _=>False) (λ_=>False) bu w') last o w' t'
theorem Comes.next {m ck:Machine} {u:Trace} (ξ:stepT P m=(.next ck,u)) (h:Comes P Q bu ck (t++u)):Comes P Q bu m t:=by
 obtain⟨n,last,o,w,t',U,γ,ο,Ι⟩:=h;exact⟨n+1,last,o,w,t',by rw[runNT_succ_next ξ];exact U,by rw[runN_succ_next ξ];exact γ,ο,Ι⟩
theorem Comes.last {m:Machine} {u:Trace} {o:Outcome} {w:World} (ξ:stepT P m=(.ended o w,u)) (Ω:Good P (λv w'=>Q v/\fV (λ_ _=>False) (λ_=>False) bu w') m o w (t++u)):Comes P Q bu m t:=
 ⟨0,m,o,w,t++u,by simp[runNT,ξ],rfl,by simp[step,ξ],Ω⟩
def ya (gs:Array Goroutine):Nat:=(gs.toList.filter λg=>decide (g.status=.running)).length
structure Ord (kx:List Nat) (n:Nat):Prop where
 nodup:kx.Nodup
 mem:∀i,i∈kx↔i<n
theorem Ord.part {kx:List Nat} {n i:Nat} (h:Ord kx n) (hi:i<n):∃a b,kx=a++i::b/\i∉a/\i∉b:=by
 obtain⟨a,b,rfl⟩:=List.append_of_mem ((h.mem i).2 hi);have:=h.nodup;rw[List.nodup_append] at this;obtain⟨_,γ,ο⟩:=this;rw[List.nodup_cons] at γ;exact⟨a,b,rfl,λν=>ο i ν i η rfl,γ.1⟩
theorem yb {B:Type} {T:Nat->B} {i:Nat} {x:B} {l:List Nat} (h:i∉l):l.map (upd T i x)=l.map T:=by
 apply List.map_congr_left;intro j ζ;exact upd_ne _ _ (λe=>h (e▸ζ))
theorem Ord.one {B:Type} {kx:List Nat} {n i:Nat} (h:Ord kx n) (hi:i<n) {T:Nat->gK B} {f:B->gK B} (Ν:T i=.node f) (k:B):n8 (kx.map (upd T i (f k))) (kx.map T):=by
 obtain⟨a,b,rfl,ν,hb⟩:=h.part hi;simp only[List.map_append,List.map_cons,yb ν,yb hb,upd_same,Ν];exact .one _ _ _ _
theorem Ord.two {B:Type} {kx:List Nat} {n i:Nat} (h:Ord kx n) (hi:i<n) {T:Nat->gK B} {f:B->gK B} (Ν:T i=.node f) (k al:B) :
  ∃C',Ord C' (n+1)/\n8 (C'.map (upd (upd T i (f k)) n (f al))) (kx.map T):=by
 have oW:n∉kx:=λδ=>by have:=(h.mem n).1 δ;omega
 obtain⟨a,b,rfl,ν,hb⟩:=h.part hi;have ns:n∉a:=λδ=>oW (by simp[δ]);have Mx:n∉b:=λδ=>oW (by simp[δ]);refine⟨a++i::n::b,⟨?_,λj=>?_⟩,?_⟩
 ·have:=h.nodup;rw[List.nodup_append] at this ⊢;obtain⟨U,γ,ο⟩:=this;rw[List.nodup_cons] at γ;refine⟨U,?_,λx δ y Μ=>?_⟩
  ·rw[List.nodup_cons,List.nodup_cons];exact⟨by simp;exact⟨J,γ.1⟩,Mx,γ.2⟩
  ·simp at Μ;rcases Μ with rfl|rfl|Μ
   ·exact ο x δ _ η
   ·rintro rfl;exact ns δ
   ·exact ο x δ y (by simp[Μ])
 ·have:=h.mem j;simp only[List.mem_append,List.mem_cons] at this ⊢;constructor
  ·rintro(δ|rfl|rfl|δ)
   ·have:=this.1 (.inl δ);omega
   ·omega
   ·omega
   ·have:=this.1 (.inr (.inr δ));omega
  ·intro δ;by_cases e:j=n
   ·exact .inr (.inr (.inl e))
   ·rcases this.2 J with δ|rfl|δ
    ·exact .inl δ
    ·exact .inr (.inl rfl)
    ·exact .inr (.inr (.inr δ))
 ·have bd:i≠n:=J
  simp only[List.map_append,List.map_cons,yb ns,yb Mx,yb ν,yb hb,upd_same,upd_ne _ _ bd,Ν];exact .two _ _ _ _ _
end
theorem Da {B:Type} {f:Nat->B} {k:Nat} {x:B} (h:f k=x):upd f k x=f:=by
 funext j
 by_cases e:j=k
 ·subst e;rw[upd_same,h]
 ·rw[upd_ne _ _ e]
theorem jD (H:cS->Γ) (i:Nat) (G:Γ) (b:Nat):bV H (.inl i) G (.inr b)=H (.inr b):=bW H G η
theorem wF (tok:Nat->Nat->Tok) (i s:Nat) (t:Tok):cg tok i s t i=upd (tok i) s t:=by unfold cg;rw[upd_same]
theorem s4 {tok:Nat->Nat->Tok} {i s j:Nat} (t:Tok) (h:j≠i):cg tok i s t j=tok j:=by unfold cg;rw[upd_ne _ _ h]
theorem nu {B:Type} {a:Array B} {k:Nat} {x:B} (h:a[k]?=some x):k<a.size:=(Array.getElem?_eq_some_iff.1 h).1
theorem ofEvents_g {i:Nat} {fn:FuncId} {pos:String} {es:Array Event}:∀op∈MemOp.ofEvents i fn pos es,op.g=i:=λop Τ=>by obtain⟨e,_,rfl⟩:=Go.Conc.mem_ofEvents Τ;rfl
theorem My {i:Nat} {fn:FuncId} {pos:String}:MemOp.ofEvents i fn pos #[]=#[]:=by rw[ofEvents_eq];simp
theorem Uc (t:Trace) (i:Nat) (fn:FuncId) (pos:String) (es:Array Event) {j:Nat} (ζ:j<=es.size):(t++MemOp.ofEvents i fn pos es).deaf i (t.size+j)=deafBehind (Deaf t i) (es.extract 0 j):=by
 have e:t++MemOp.ofEvents i fn pos es=(t++MemOp.ofEvents i fn pos (es.extract 0 j))++MemOp.ofEvents i fn pos (es.extract j es.size):=by
  rw[Array.append_assoc];congr 1;rw[ofEvents_eq,ofEvents_eq,ofEvents_eq,<-Array.map_append];congr 1;simp only[Array.extract_append_extract];rw[show max j es.size=es.size by omega];simp
 have cA:(t++MemOp.ofEvents i fn pos (es.extract 0 j)).size=t.size+j:=by rw[Array.size_append,ofEvents_eq];simp;omega
 rw[e,deaf_old J,<-cA];exact Deaf_own t i fn pos _
theorem Hj {t u:Trace} {k:Nat} (ψ:t.size<=k) (ε:(t++u).counts k):∃op,u[k-t.size]?=some op/\(t++u)[k]?=some op/\∃x,op.act.touch?=some x/\x.loc.isMemory=true/\(x.kind≠.atomic\/(t++u).heard k):=by
 obtain⟨x,U,γ,ο⟩:=ε;obtain⟨op,Β,δ⟩:=touch_of (t:=t++u) (i:=k) U;exact⟨op,by rw[Array.getElem?_append_right ψ] at Β;exact Β,Β,x,δ,γ,ο⟩
theorem yc {t u:Trace} (h:∀op∈u,op.act.touch?=none):∀k,t.size<=k->¬(t++u).counts k:=λk ψ ε=>by
 obtain⟨op,U,_,x,ο,_⟩:=Hj ψ ε;rw[h op (mem_of_getElem? U)] at ο;cases ο
theorem Ud {t:Trace} {i:Nat} {fn:FuncId} {pos:String} {es:Array Event} (h:∀e∈es,CW e):∀k,t.size<=k->¬(t++MemOp.ofEvents i fn pos es).counts k:=λk ψ ε=>by
 obtain⟨op,U,_,x,ο,Ι,_⟩:=Hj ψ ε;obtain⟨e,he,rfl⟩:=Go.Conc.mem_ofEvents (mem_of_getElem? U);obtain⟨loc,wr,pH⟩:=e;rcases h _ he with π|π<;>simp only at π<;>subst π<;>simp[MemAct.ofEvent,MemAct.touch?] at ο;subst ο;simp[Loc.isMemory] at Ι
theorem Db {s d i:Nat} {sp:Spec} {es:Array Event} {fn:FuncId} {pos:String} (h:pF s sp d es) {op:MemOp} (Β:op∈MemOp.ofEvents i fn pos es) :
  (op.act=.mark .disable\/op.act=.mark .enable)\/∃b off wr,op.act=.access ⟨.cell ⟨b,off,none⟩,wr,true⟩/\eN s sp b:=by
 obtain⟨e,he,rfl⟩:=Go.Conc.mem_ofEvents Β;obtain⟨j,ζ⟩:=Array.mem_iff_getElem?.1 he;obtain⟨loc,wr,pH⟩:=e;rcases h.2 j _ ζ with π|π|⟨b,off,Ue,π,hb,_⟩
 ·simp only at π;subst π;exact .inl (.inl rfl)
 ·simp only at π;subst π;exact .inl (.inr rfl)
 ·cases π;exact .inr ⟨b,off,_,rfl,hb⟩
theorem Uf {t:Trace} {s i:Nat} {sp:Spec} {fn:FuncId} {pos:String} {es:Array Event} (h:pF s sp (Deaf t i) es):∀k,t.size<=k->¬(t++MemOp.ofEvents i fn pos es).counts k:=λk ψ ε=>by
 obtain⟨op,U,γ,x,ο,Ι,ax⟩:=Hj ψ ε;rw[ofEvents_eq,Array.getElem?_map] at U;obtain⟨e,he,rfl⟩:=Option.map_eq_some_iff.1 U;have aN:k-t.size<es.size:=nu he;obtain⟨loc,wr,pH⟩:=e;rcases h.2 _ _ he with π|π|⟨b,off,Ue,π,hb,hd⟩
 ·simp only at π;subst π;simp[MemAct.ofEvent,MemAct.touch?] at ο
 ·simp only at π;subst π;simp[MemAct.ofEvent,MemAct.touch?] at ο
 ·cases π;simp[MemAct.ofEvent,MemAct.touch?] at ο;subst ο;rcases ax with ax|⟨g,Ω,Ψ⟩
  ·exact ax rfl
  ·simp[Trace.g?,γ] at Ω;subst Ω;have:=Uc t i fn pos es (Nat.le_of_lt aN);rw[show t.size+(k-t.size)=k by omega] at this;rw[this] at Ψ;omega
section
variable {P:Program} {Q:Value->Prop} {bu:World} {c c':dn} {gs:Array Goroutine} {w w':World} {t:Trace} {i:Nat} {g g':Goroutine} {es:Array Event}
theorem Inv.low (h:Inv P Q bu c gs w t) {s b:Nat} {o:aW} (ξ:c.O s=some o) (hb:eN s o.toSpec b):b<w.heap.size:=by
 obtain⟨⟨ty,U⟩,γ⟩:=h.mem.gl s o ξ;rcases hb with rfl|hb
 ·exact fW U
 ·obtain⟨kq,ο⟩:=γ b hb;exact fW ο
theorem Inv.obj (h:Inv P Q bu c gs w t) {s:Nat} (Υ:c.tok i s≠.nil):∃o,c.O s=some o:=by
 cases ξ:c.O s with
 | none=>exact absurd (h.bn.bare s ξ i) Υ
 | some o=>exact⟨o,rfl⟩
theorem jB.grow {H:cS->Γ} {aR:Nat->Nat->Option (Array Value×TypeId)} {tok:Nat->Nat->Tok} {O:Nat->Option aW} {bC deaf:Nat->Nat} {N fp:Nat} (h:jB H aR tok O bC deaf N t) (cK:N<=fp):jB H aR tok O bC deaf fp t:=
 ⟨h.race,λop Τ=>MemAct.low_mono cK (h.low op Τ),h.norel,h.perms,h.pG,h.cont,h.hears⟩
theorem x'.app {aR qH:Nat->Nat->Option (Array Value×TypeId)} {tok eU:Nat->Nat->Tok} {O O':Nat->Option aW} {rel:Nat->Bool} {dP:Nat->Nat} {u:Trace} {N:Nat} (h:x' aR tok O rel dP t) (uI:∀op∈t,op.act.low N)
  (hu:∀op∈u,∀b,op.act≠.mark (.releaseMerge ⟨b,0,none⟩)) (hv:∀j b v,qH j b=some v->(∃fG,aR j b=some fG)\/N<=b) (dN:∀s o',O' s=some o'->∃o,O s=some o/\o.a4=o'.a4)
  (Υ:∀j s k mu g,tok j s=.ch k mu g->∃k mu g,eU j s=.ch k mu g):x' qH eU O' rel dP (t++u):=by
 refine⟨λs o' m ξ hm p op ω Β=>?_,λj b v hb op Τ Β=>?_⟩
 ·obtain⟨o,U,γ⟩:=dN s o' ξ;rcases getElem?_append_cases ω with⟨_,iP⟩|⟨_,gM⟩
  ·obtain⟨⟨k,mu,g,ο⟩,Ι⟩:=h.iM s o m U (by rw[γ];exact hm) p op iP Β;exact⟨Υ _ _ _ _ _ ο,λμ=>(Ι μ).app u⟩
  ·exact absurd Β (hu op gM m)
 ·rcases Array.mem_append.1 Τ with lT|lT
  ·rcases hv j b v hb with⟨fG,mC⟩|hle
   ·exact h.wC j b fG mC op lT Β
   ·have:=uI op lT;rw[Β] at this;simp only[MemAct.low] at this;omega
  ·exact hu op lT b Β
theorem x9.Ab {H H':cS->Γ} {tok:Nat->Nat->Tok} {O:Nat->Option aW} (h:x9 H tok O) (Δ:∀b,H' (.inr b)=H (.inr b)):x9 H' tok O:=
 ⟨λs o m a b d e=>by rw[Δ];exact h.qF s o m a b d e,λs o a b=>by rw[Δ];exact h.nn s o a b⟩
theorem Inv.laid (h:Inv P Q bu c gs w t) (Ω:gs[i]?=some g) {u:Trace}
  (mem:hO c'.H c'.aR c'.O bu w') (hold:ji c'.H c'.aR c'.O bu.heap.size) (b5:jB c'.H c'.aR c'.tok c'.O c'.bC c'.deaf w'.heap.size (t++u))
  (bn:e9 gs.size c'.tok c'.spec c'.view c'.rel c'.O c'.bC c'.home) (eT:x9 c'.H c'.tok c'.O) (eB:wB gs.size c'.tok c'.rel c'.bC c'.home c'.dP (t++u)) (gm:x' c'.aR c'.tok c'.O c'.rel c'.dP (t++u))
  (Hk:Rec P Q c' i g') (δ:∀j,j≠i->c'.x j=c.x j/\c'.T j=c.T j)
  (hw:(mayWake P g=true/\jA g')\/∀j s o,j≠i->c.O s=some o->kW o (c.tok j s)->∃o',c'.O s=some o'/\kW o' (c.tok j s)) :
  Inv P Q bu c' ((gs.map (woken P g g' w')).setIfInBounds i g') w' (t++u):=by
 have cA:((gs.map (woken P g g' w')).setIfInBounds i g').size=gs.size:=η
 have bd:i<gs.size:=nu Ω;refine⟨by rw[cA];exact h.pos,mem,hold,b5,by rw[cA];exact bn,eT,by rw[cA];exact eB,gm,λj b hb=>?_⟩;by_cases e:j=i
 ·subst e;rw[Array.getElem?_setIfInBounds_self_of_lt (by simpa using bd)] at hb;cases hb;exact Hk
 ·rw[Array.getElem?_setIfInBounds_ne (Ne.symm e),Array.getElem?_map] at hb;obtain⟨df,U,rfl⟩:=Option.map_eq_some_iff.1 hb;exact(h.wD j df U).woken (i:=0) (δ j e).1 (δ j e).2 (hw.imp id λhw s o ξ rU=>hw j s o e ξ rU)
def iQ (P:Program) (Q:Value->Prop) (bu:World) (c:dn) (gs:Array Goroutine) (w:World) (t:Trace) (i:Nat) (f:Bool×Goroutine×a7->gK (Bool×Goroutine×a7)):Prop:=
 ∀sl,∃c' rY w' u,runT P (crowd gs w sl) i=(.next (crowd rY w' sl),u)/\Inv P Q bu c' rY w' (t++u)/\
  ((rY.size=gs.size/\∃k,c'.T=upd c.T i (f k))\/(rY.size=gs.size+1/\∃k al,c'.T=upd (upd c.T i (f k)) gs.size (f al))\/(rY.size=gs.size/\c'.T=c.T/\ya rY<ya gs))
def Dc (P:Program) (Q:Value->Prop) (bu:World) (c:dn) (gs:Array Goroutine) (w:World) (t:Trace) (i:Nat) (f:Bool×Goroutine×a7->gK (Bool×Goroutine×a7)):Prop:=
 ∃c',Inv P Q bu c' gs w t/\∃k,c'.T=upd c.T i (f k)
abbrev mD (P:Program) (Q:Value->Prop) (f:Bool×Goroutine×a7->gK (Bool×Goroutine×a7)):zX:=λwj g' dw=>kr P Q (f (wj,g',dw)) wj g' dw
theorem iQ.go {f:Bool×Goroutine×a7->gK (Bool×Goroutine×a7)} (Ω:gs[i]?=some g) (ξ:stepG P (i==0) g w=.go g' w' es)
  (h:Inv P Q bu c' ((gs.map (woken P g g' w')).setIfInBounds i g') w' (t++MemOp.ofEvents i g.frame.fn g.frame.place es)) (k:Bool×Goroutine×a7) (Ν:c'.T=upd c.T i (f k)):iQ P Q bu c gs w t i f:=
 λ_=>⟨c',_,w',_,runT_crowd_go Ω ξ,h,.inl ⟨η,k,Ν⟩⟩
variable {f:Bool×Goroutine×a7->gK (Bool×Goroutine×a7)}
theorem Inv.G8 (h:Inv P Q bu c gs w t) (Ω:gs[i]?=some g) (ψ:L3 P (i==0) (mD P Q f) g (c.x i)):iQ P Q bu c gs w t i f:=by
 have hw:=ψ w (h.mem.fit (.inl i)) (h.mem.ni i);cases ξ:stepG P (i==0) g w with
 | go g' w' es=>
  rw[ξ] at hw;obtain⟨G',V',μ,uR,Ρ,a9,uS,rQ,gC,G9,aM⟩:=hw;have bd:i<gs.size:=nu Ω;have Mz:∀e∈es,h2 (c.H (.inl i)) w.heap.size w'.heap.size e:=λe he=>by
   have:=gC e he;split at this
   ·exact this.G8
   ·exact this
  have δ:∀j,j≠i->({c with H:=bV c.H (.inl i) G',aR:=upd c.aR i V',T:=upd c.T i (f (i==0,g',{c.x i with G:=G',aR:=V'}))}:dn).x j=c.x j:=λj ζ=>by
   have:(Sum.inl j:cS)≠.inl i:=λe=>ζ (by cases e;rfl);simp[dn.x,bW _ _ this,upd_ne _ _ ζ]
  refine iQ.go (c':={c with H:=bV c.H (.inl i) G',aR:=upd c.aR i V',T:=upd c.T i (f (i==0,g',{c.x i with G:=G',aR:=V'}))}) Ω ξ ?_ _ rfl;refine h.laid Ω (h.mem.own h.hold i uR Ρ a9 rfl) (h.hold.own h.mem h.mem.keep.size i uS rQ) (h.b5.own h.mem h.hold i uR.size uS rQ Mz G9) h.bn ?_ ?_ ?_ ?_ (λj ζ=>⟨δ j ζ,upd_ne _ _ ζ⟩) (.inr λj s o _ a b=>⟨o,a,b⟩)
  ·exact h.eT.Ab λb=>jD c.H i G' b
  ·refine h.eB.app bd ofEvents_g (λeE=>Ud λe he=>?_) (λ_ _ _ x=>x) (λ_ _ _ _ x=>x);have:=gC e he;have fI:(c.x i).rel=true:=eE;simpa only[fI,if_true] using this
  ·refine h.gm.app h.b5.low (λop Τ b hb=>?_) (λj b v hv=>?_) (λs o' ξ=>⟨o',ξ,rfl⟩) (λj s k mu g e=>⟨k,mu,g,e⟩)
   ·obtain⟨e,he,rfl⟩:=Go.Conc.mem_ofEvents Τ;have dQ:=Mz e he;obtain⟨loc,wr,pH⟩:=e;cases loc with
    | mark m=>simp only[h2] at dQ;subst dQ;simp[MemAct.ofEvent] at hb
    | obj r=>cases wr<;>cases pH<;>simp[MemAct.ofEvent] at hb
    | _=>simp[MemAct.ofEvent] at hb
   ·replace hv:upd c.aR i V' j b=some v:=hv
    by_cases ζ:j=i
    ·subst ζ;rw[upd_same] at hv;exact(rQ b v hv).imp (λx=>⟨v,x⟩) (λx=>x.1)
    ·rw[upd_ne _ _ ζ] at hv;exact .inl ⟨v,hv⟩
  ·refine⟨g',?_,.inl rfl⟩;have e:({c with H:=bV c.H (.inl i) G',aR:=upd c.aR i V',T:=upd c.T i (f (i==0,g',{c.x i with G:=G',aR:=V'}))}:dn).x i={c.x i with G:=G',aR:=V'}:=by
    simp[dn.x,upd_same]
   rw[e];show kr P Q (upd c.T i (f (i==0,g',{c.x i with G:=G',aR:=V'})) i) _ _ _;rw[upd_same];exact aM
 | _=>rw[ξ] at hw;exact hw.elim
theorem hO.Ab {H:cS->Γ} {aR:Nat->Nat->Option (Array Value×TypeId)} {O O':Nat->Option aW} (h:hO H aR O bu w) (e:O'=O):hO H aR O' bu w:=e▸h
theorem Inv.marked (h:Inv P Q bu c gs w t) (Ω:gs[i]?=some g) {m:Mark} (hm:m=.disable\/m=.enable) {d:Nat} (hd:d=deafBehind (c.deaf i) #[Go.ConcR.mk m]) (ξ:stepG P (i==0) g w=.go g' w #[Go.ConcR.mk m])
  (aM:mD P Q f (i==0) g' {c.x i with deaf:=d}):iQ P Q bu c gs w t i f:=by
 have bd:i<gs.size:=nu Ω
 have nt:∀op∈MemOp.ofEvents i g.frame.fn g.frame.place #[Go.ConcR.mk m],op.act.touch?=none:=λop Τ=>by
  obtain⟨e,he,rfl⟩:=Go.Conc.mem_ofEvents Τ;simp at he;subst he;rcases hm with rfl|rfl<;>rfl
 have ns:∀op∈MemOp.ofEvents i g.frame.fn g.frame.place #[Go.ConcR.mk m],op.act=.mark .disable\/op.act=.mark .enable:=λop Τ=>by
  obtain⟨e,he,rfl⟩:=Go.Conc.mem_ofEvents Τ;simp at he;subst he;rcases hm with rfl|rfl
  ·exact .inl rfl
  ·exact .inr rfl
 refine iQ.go (c':={c with deaf:=upd c.deaf i d,T:=upd c.T i (f (i==0,g',{c.x i with deaf:=d}))}) Ω ξ ?_ _ rfl;refine h.laid Ω h.mem h.hold ?_ h.bn h.eT ?_ ?_ ⟨g',?_,.inl rfl⟩ (λj ζ=>⟨by simp[dn.x,upd_ne _ _ ζ],upd_ne _ _ ζ⟩) (.inr λj s o _ a b=>⟨o,a,b⟩)
 ·refine h.b5.ext h.hold i ofEvents_g (λop Τ=>?_) (λop Τ a ν=>?_) (λop Τ b hb=>?_) (λj=>?_)
  ·rcases ns op Τ with e|e<;>rw[e]<;>trivial
  ·rcases ns op Τ with e|e<;>rw[e] at ν<;>cases ν
  ·rw[nt op Τ] at hb;cases hb
  ·by_cases e:j=i
   ·subst e;rw[Deaf_own,h.b5.hears,hd];exact(upd_same ..).symm
   ·rw[Deaf_other t (Ne.symm e) _ ofEvents_g,h.b5.hears];exact(upd_ne _ _ e).symm
 ·exact h.eB.app bd ofEvents_g (λ_=>yc nt) (λ_ _ _ x=>x) (λ_ _ _ _ x=>x)
 ·refine h.gm.app h.b5.low (λop Τ b hb=>?_) (λj b v hv=>.inl ⟨v,hv⟩) (λs o' ξ=>⟨o',ξ,rfl⟩) (λj s k mu g e=>⟨k,mu,g,e⟩);rcases ns op Τ with e|e<;>rw[e] at hb<;>cases hb
 ·have e:({c with deaf:=upd c.deaf i d,T:=upd c.T i (f (i==0,g',{c.x i with deaf:=d}))}:dn).x i={c.x i with deaf:=d}:=by
   simp[dn.x,upd_same]
  rw[e];show kr P Q (upd c.T i (f (i==0,g',{c.x i with deaf:=d})) i) _ _ _;rw[upd_same];exact aM
theorem Inv.Ug (h:Inv P Q bu c gs w t) (Ω:gs[i]?=some g) (ψ:L4 P (i==0) (mD P Q f) g (c.x i)):iQ P Q bu c gs w t i f:=by
 obtain⟨g',_,ψ|⟨_,ψ⟩⟩:=ψ
 ·obtain⟨U,γ⟩:=ψ w (h.mem.fit (.inl i));exact h.marked Ω (.inl rfl) (by rfl) U γ
 ·obtain⟨U,γ⟩:=ψ w (h.mem.fit (.inl i));exact h.marked Ω (.inr rfl) (by rfl) U γ
theorem Inv.Uh (h:Inv P Q bu c gs w t) (Ω:gs[i]?=some g) (ψ:L5 P (i==0) (mD P Q f) g (c.x i)):iQ P Q bu c gs w t i f:=by
 obtain⟨s,n,p,aQ,g',off,wr,U,γ,h4,ο,Ι⟩:=ψ;have bd:i<gs.size:=nu Ω;obtain⟨ξ,aM⟩:=Ι w (h.mem.fit (.inl i));have ei:c.tok i s=.par n p aQ:=U;obtain⟨o,Β⟩:=h.obj (i:=i) (s:=s) (by rw[ei];simp);have eE:c.rel i=false:=h4;have ns:∀op∈MemOp.ofEvents i g.frame.fn g.frame.place #[Go.ConcR.mk (if wr then .write ⟨s,off,none⟩ else .read ⟨s,off,none⟩)],op.act=.mark (if wr then .write ⟨s,off,none⟩ else .read ⟨s,off,none⟩):=λop Τ=>by
  obtain⟨e,he,rfl⟩:=Go.Conc.mem_ofEvents Τ;simp at he;subst he;rfl
 refine iQ.go (c':={c with T:=upd c.T i (f (i==0,g',c.x i))}) Ω ξ ?_ _ rfl;refine h.laid Ω h.mem h.hold ?_ h.bn h.eT ?_ ?_ ⟨g',?_,.inl rfl⟩ (λj ζ=>⟨rfl,upd_ne _ _ ζ⟩) (.inr λj s o _ a b=>⟨o,a,b⟩)
 ·refine h.b5.ext h.hold i ofEvents_g (λop Τ=>?_) (λop Τ a ν=>?_) (λop Τ b hb=>?_) (λj=>?_)
  ·rw[ns op Τ];have:=h.low Β (.inl rfl);cases wr<;>exact this
  ·rw[ns op Τ] at ν;cases wr<;>cases ν
  ·rw[ns op Τ] at hb;refine⟨s,o,s,off,Β,.inl rfl,?_⟩;cases wr<;>simp[MemAct.touch?] at hb<;>subst hb<;>exact⟨rfl,.inr ⟨rfl,h.bn.par i s n p aQ ei⟩⟩
  ·by_cases e:j=i
   ·subst e;rw[Deaf_own,h.b5.hears];cases wr<;>rfl
   ·rw[Deaf_other t (Ne.symm e) _ ofEvents_g,h.b5.hears]
 ·exact h.eB.app bd ofEvents_g (λδ=>by rw[eE] at δ;cases δ) (λ_ _ _ x=>x) (λ_ _ _ _ x=>x)
 ·refine h.gm.app h.b5.low (λop Τ b hb=>?_) (λj b v hv=>.inl ⟨v,hv⟩) (λs o' ξ=>⟨o',ξ,rfl⟩) (λj s k mu g e=>⟨k,mu,g,e⟩);rw[ns op Τ] at hb;cases wr<;>cases hb
 ·show kr P Q (upd c.T i (f (i==0,g',c.x i)) i) _ _ _;rw[upd_same];exact aM
theorem Inv.quits (h:Inv P Q bu c gs w t) (Ω:gs[i]?=some g) (ψ:Ma P (i==0) (mD P Q f) g (c.x i)):iQ P Q bu c gs w t i f:=by
 obtain⟨kY,μ,eE,qG,g',es,hm,ξ,aM⟩:=ψ;have bd:i<gs.size:=nu Ω;have nt:∀op∈MemOp.ofEvents i g.frame.fn g.frame.place es,op.act.touch?=none:=λop Τ=>by
  obtain⟨e,he,rfl⟩:=Go.Conc.mem_ofEvents Τ;exact touch_mute (hm e he)
 have ns:∀op∈MemOp.ofEvents i g.frame.fn g.frame.place es,op.act=.mark .disable\/op.act=.mark .enable:=λop Τ=>by
  obtain⟨⟨loc,wr,pH⟩,he,rfl⟩:=Go.Conc.mem_ofEvents Τ;have:=hm _ he;cases loc<;>simp[Event.mute] at this;rename_i m;cases m<;>simp_all [MemAct.ofEvent]
 refine iQ.go (c':={c with deaf:=upd c.deaf i (deafBehind (c.deaf i) es),T:=upd c.T i (f (i==0,g',{c.x i with deaf:=deafBehind (c.x i).deaf es}))}) Ω (by rw[kY];exact ξ w) ?_ _ rfl;refine h.laid Ω h.mem h.hold ?_ h.bn h.eT ?_ ?_ ⟨g',?_,.inl rfl⟩ (λj ζ=>⟨by simp[dn.x,upd_ne _ _ ζ],upd_ne _ _ ζ⟩) (.inr λj s o _ a b=>⟨o,a,b⟩)
 ·refine h.b5.ext h.hold i ofEvents_g (λop Τ=>?_) (λop Τ a ν=>?_) (λop Τ b hb=>?_) (λj=>?_)
  ·rcases ns op Τ with e|e<;>rw[e]<;>trivial
  ·rcases ns op Τ with e|e<;>rw[e] at ν<;>cases ν
  ·rw[nt op Τ] at hb;cases hb
  ·by_cases e:j=i
   ·subst e;rw[Deaf_own,h.b5.hears];exact(upd_same ..).symm
   ·rw[Deaf_other t (Ne.symm e) _ ofEvents_g,h.b5.hears];exact(upd_ne _ _ e).symm
 ·exact h.eB.app bd ofEvents_g (λ_=>yc nt) (λ_ _ _ x=>x) (λ_ _ _ _ x=>x)
 ·refine h.gm.app h.b5.low (λop Τ b hb=>?_) (λj b v hv=>.inl ⟨v,hv⟩) (λs o' ξ=>⟨o',ξ,rfl⟩) (λj s k mu g e=>⟨k,mu,g,e⟩);rcases ns op Τ with e|e<;>rw[e] at hb<;>cases hb
 ·have e:({c with deaf:=upd c.deaf i (deafBehind (c.deaf i) es),T:=upd c.T i (f (i==0,g',{c.x i with deaf:=deafBehind (c.x i).deaf es}))}:dn).x i={c.x i with deaf:=deafBehind (c.x i).deaf es}:=by
   simp[dn.x,upd_same]
  rw[e];show kr P Q (upd c.T i (f (i==0,g',{c.x i with deaf:=deafBehind (c.x i).deaf es})) i) _ _ _;rw[upd_same];exact aM
end
end Go.TL
