import Derived.KernelRfl
import Derived.Sort.AssemblyPlain
import Derived.Test.YtlabjopijpkiaaaGreatProg
import Derived.Test.YtlabjopijpkiaaaGreatHAD
set_option maxHeartbeats 16000000
set_option maxRecDepth 20000
set_option linter.unusedSectionVars false
set_option linter.unusedSimpArgs false
set_option linter.unusedVariables false
namespace Go.TL
open Go.Proofs.Tryz
open Go.Conc
variable [ZV]
def L0 (ops:Array Oper) (o:Oper):List Tmp:=
 (o.op.operands.toList.filterMap fun|.tmp t=>some t|_=>none)++(match o.guard with|some (g,_)=>((ops[g]?).bind (·.dst)).toList|none=>[])
def W1 (o:Oper):List Nat:=(o.after.toList.filter (Region.binds .any)).map (·.on)
def LZ:List Oper->List (List Nat)->List (List Nat)
 | [],a=>a
 | o::b,a=>LZ b (a++[W1 o++(W1 o).flatMap λj=>a.getD j []])
def JU (ops:Array Oper):List (List Nat):=LZ ops.toList []
def V3 (o:Oper):Bool:=match o.op with
 | .load _ _=>true
 | .indexAddr _ _ _=>true
 | .fieldAddr _ _ _=>true
 | .nilCheck _=>true
 | _=>false
def Ue (υ:Nat->Nat->Bool) (ops:Array Oper) (tags:List Bool) (i j:Nat) (a b:Oper):Bool:=
 (match b.dst with|some d=>(L0 ops a).contains d||a.dst==some d|none=>false)||(match a.dst with|some d=>(L0 ops b).contains d|none=>false)||(tags.getD i false&&tags.getD j false&&!(V3 a&&V3 b)&&!υ i j)
def P9 (υ:Nat->Nat->Bool) (ops:Array Oper) (tags:List Bool):Bool:=
 let b:=JU ops
 (List.range ops.size).all λi=>match ops[i]? with
  | none=>false
  | some a=>(W1 a).all (λj=>decide (j<i))&&(List.range i).all λj=>match ops[j]? with
   | none=>false
   | some c=>!Ue υ ops tags i j a c||(b.getD i []).contains j
def P8 (_ _:Nat):Bool:=false
def clash (ops:Array Oper) (tags:List Bool) (i j:Nat) (a b:Oper):Bool:=Ue P8 ops tags i j a b
def TR (ops:Array Oper) (tags:List Bool):Bool:=P9 P8 ops tags
def TQ (lo pu:List Nat) (i j:Nat):Bool:=lo.contains i&&pu.contains j||pu.contains i&&lo.contains j
section
variable {P:Program} {T:ZZ} {A:List Nat} {m nt:Nat} {k:List Item} {env:Ζ} {σ:Τ} {Z:X9} {E:Yn} {ops:Array Oper}
theorem W.congr {env':Ζ} (h:∀i,Z' env' i=Z' env i) (c:W P m nt k env σ Z E):W P m nt k env' σ Z E:=
 λd mn x cs b S B H t e f a g j=>c d mn x cs b S B H t e f ⟨a.holds,λi=>by rw[<-h i];exact a.Zn i,a.size,a.rows⟩ g j
theorem EO (c:Region.Mode):∀(a t:Nat) (listed:Array Bool) (i:Nat),Region.linearise.go c ops a t listed [i]=i::Region.linearise.go c ops a t listed []:=by
 have gen:∀(a t:Nat) (listed:Array Bool) (b:List Nat),Region.linearise.go c ops a t listed b=b.reverse++Region.linearise.go c ops a t listed []:=by
  intro a
  induction a with
  | zero=>intro t listed b;simp[Region.linearise.go]
  | succ a d=>
   intro t listed b;simp only[Region.linearise.go];split
   .rename_i i _;rw[d _ _ (i::b),d _ _ [i]];simp
   .simp
 intro a t listed i;rw[gen];rfl
theorem JS (n:∀i o,ops[i]?=some o->∀j∈W1 o,j<i) (D:Nat->Prop) (p:∀i o,ops[i]?=some o->D i->∀j∈W1 o,D j) :
  ∀(i:Nat) (o:Oper),ops[i]?=some o->(∀j∈W1 o,D j)->∀j∈(JU ops).getD i [],D j:=by
 have r:∀(d:List Oper) (a:List (List Nat)),(∀x,d[x]?=ops[a.length+x]?)->(∀i o,i<a.length->ops[i]?=some o->(∀j∈W1 o,D j)->∀j∈a.getD i [],D j)->
   ∀i o,i<a.length+d.length->ops[i]?=some o->(∀j∈W1 o,D j)->∀j∈(LZ d a).getD i [],D j:=by
  intro d
  induction d with
  | nil=>intro a _ h i o hi;exact h i o (by simpa using hi)
  | cons q d s=>
   intro a g h i o hi b c;have e:ops[a.length]?=some q:=by have:=g 0;simpa using this.symm
   refine s (a++[W1 q++(W1 q).flatMap λj=>a.getD j []]) (λx=>?_) (λi o hi b c=>?_) i o (by simp at hi ⊢;omega) b c
   .have:=g (x+1);simp only[List.getElem?_cons_succ] at this;rw[this];simp;congr 1;omega
   .by_cases k:i<a.length
    .rw[Xd,YL k,<-Xd];exact h i o k b c
    .have t:i=a.length:=by simp at hi;omega
     subst t;rw[e] at b;cases b;rw[Xd,XG (Z5 _)];simp only[PB,List.getElem?_cons_zero,Option.getD_some,VG,OT];rintro j (f|⟨y,l,f⟩)
     .exact c j f
     .have u:=n _ _ e y l
      have v:y<ops.size:=by have:=(T3.1 e).1;omega
      have m:ops[y]?=some ops[y]:=XQ v;exact h y _ u m (p y _ m (c y l)) j f
 intro i o b c;exact r ops.toList [] (λx=>J) (λi o hi=>by simp at hi) i o (by have:=(T3.1 b).1;simpa using this) b c
def SL (ops:Array Oper) (o:Oper) (env env':Ζ):Prop:=∀t∈L0 ops o,Z' env' t=Z' env t
def Pq (P:Program) (m nt:Nat) (k:List Item) (Z:X9) (E:Yn) (ops:Array Oper) (i:Nat) (o:Oper) (env:Ζ) (a:I):Prop:=
 ∀env' σ' rest,SL ops o env env'->W P m nt (.inRegion ops rest::k) (Zz o env' a) σ' Z E->W P m nt (.inRegion ops (i::rest)::k) env' σ' Z E
def Pp (P:Program) (m nt:Nat) (k:List Item) (Z:X9) (E:Yn) (ops:Array Oper) (i:Nat) (o:Oper) (env:Ζ) (σ:Τ) (a:I) (b:Τ):Prop:=
 ∀env' rest,SL ops o env env'->W P m nt (.inRegion ops rest::k) (Zz o env' a) b Z E->W P m nt (.inRegion ops (i::rest)::k) env' σ Z E
def Zj (ops:Array Oper) (env0:Ζ) (as9:Nat->I) (a:Nat->Bool):Nat->Ζ
 | 0=>env0
 | n+1=>if a n then(match ops[n]? with|some o=>Zz o (Zj ops env0 as9 a n) (as9 n)|none=>Zj ops env0 as9 a n) else Zj ops env0 as9 a n
theorem On {o:Oper} {env:Ζ} {a:I} {t:Nat}:Z' (Zz o env a) t=if o.dst=some t then a else Z' env t:=by
 unfold Zz;cases hd:o.dst with
 | none=>simp
 | some d=>simp[Z']
theorem Nq {env0:Ζ} {as9:Nat->I} {b a:Nat->Bool} {t:Nat}:∀(n:Nat),(∀i o,i<n->ops[i]?=some o->o.dst=some t->b i=a i)->Z' (Zj ops env0 as9 b n) t=Z' (Zj ops env0 as9 a n) t:=by
 intro n
 induction n with
 | zero=>intro _;rfl
 | succ n d=>
  intro h;have c:=d λi o hi=>h i o U;simp only[Zj];cases e:ops[n]? with
  | none=>cases b n<;>cases a n<;>simpa using c
  | some o=>
   by_cases hd:o.dst=some t
   .rw[h n o (Qv n) e hd];cases a n
    .simpa using c
    .simp[On,hd]
   .cases b n<;>cases a n<;>simp[On,hd,c]
theorem JR {env0:Ζ} {as9:Nat->I} {a:Nat->Bool} {t:Nat} {n N:Nat} (j:n<=N) (h:∀i o,n<=i->i<N->ops[i]?=some o->o.dst=some t->a i=false):Z' (Zj ops env0 as9 a N) t=Z' (Zj ops env0 as9 a n) t:=by
 induction N with
 | zero=>have:n=0:=U
         subst this;rfl
 | succ N d=>
  by_cases e:n=N+1
  .subst e;rfl
  .have b:=d U λi o f k=>h i o f U;simp only[Zj];cases c:a N
   .simpa using b
   .cases g:ops[N]? with
    | none=>simpa using b
    | some o=>
     have hd:o.dst≠some t:=λhd=>by rw[h N o U (Qv N) g hd] at c;cases c
     simp[On,hd,b]
def writer (ops:Array Oper) (tags:List Bool) (i:Nat):Bool:=tags.getD i false&&match ops[i]? with|some o=>!V3 o|none=>true
theorem W.EN {lo pu:List Nat} {V:Type} {v:Τ->V} {as9:Nat->I} {σs:Nat->Τ} {tags:List Bool} {env0:Ζ} (ai:P9 (TQ lo pu) ops tags=true)
  (ay:∀i o,ops[i]?=some o->tags.getD i false=false->Pq P m nt k Z E ops i o (Zj ops env0 as9 (λ_=>true) i) (as9 i)/\σs (i+1)=σs i)
  (aj:∀i o,ops[i]?=some o->tags.getD i false=true->Pp P m nt k Z E ops i o (Zj ops env0 as9 (λ_=>true) i) (σs i) (as9 i) (σs (i+1))/\(V3 o=true->σs (i+1)=σs i))
  (ak:∀i o,ops[i]?=some o->lo.contains i=true->tags.getD i false=true->V3 o=true/\∀τ,v τ=v (σs i)->Pp P m nt k Z E ops i o (Zj ops env0 as9 (λ_=>true) i) τ (as9 i) τ)
  (aM:∀i o,ops[i]?=some o->pu.contains i=true->v (σs (i+1))=v (σs i))
  (aN:W P m nt (.inRegion ops []::k) (Zj ops env0 as9 (λ_=>true) ops.size) (σs ops.size) Z E) :
  ∀(Q:Nat) (t:Nat) (listed:Array Bool) (env:Ζ) (p:Nat),listed.size=ops.size->
   (∀i,Z' env i=Z' (Zj ops env0 as9 (λi=>listed.getD i false) ops.size) i)->
   (∀i o,ops[i]?=some o->listed.getD i false=true->∀j∈W1 o,listed.getD j false=true)->
   p<=ops.size->(∀j,j<ops.size->writer ops tags j=true->(listed.getD j false=true↔j<p))->
   ((List.range ops.size).filter λi=>!listed.getD i false).length<=Q->
   W P m nt (.inRegion ops (Region.linearise.go .any ops Q t listed [])::k) env (σs p) Z E:=by
 have al:∀i o,ops[i]?=some o->(∀j∈W1 o,j<i)/\∀j n,j<i->ops[j]?=some n->Ue (TQ lo pu) ops tags i j o n=true->j∈(JU ops).getD i []:=by
  intro i o l;have hi:i<ops.size:=(T3.1 l).1;unfold P9 at ai;simp only[WU,Wm] at ai;have h:=ai i hi;rw[l] at h;simp only[V9,WU,decide_eq_true_eq,Wm] at h;refine⟨h.1,λj n c w X=>?_⟩;have s:=h.2 j c;rw[w] at s;simp only[X,Bool.not_true,Bool.false_or,Le] at s;exact s
 have am:∀i o,ops[i]?=some o->∀j∈W1 o,j<i:=λi o l=>(al i o l).1
 have an:∀i o,ops[i]?=some o->writer ops tags i=false->σs (i+1)=σs i:=λi o l H=>by
  cases f:tags.getD i false with
  | false=>exact(ay i o l f).2
  | true=>
   refine(aj i o l f).2 ?_;unfold writer at H;rw[f,l] at H;simpa using H
 have az:∀(d a:Nat),a+d<=ops.size->(∀j,a<=j->j<a+d->writer ops tags j=false)->σs (a+d)=σs a:=by
  intro d
  induction d with
  | zero=>intro a _ _;rfl
  | succ d D=>
   intro a hle h;have g:ops[a+d]?=some ops[a+d]:=XQ U;have:=an (a+d) _ g (h (a+d) U U);rw[show a+(d+1)=a+d+1 by omega,this];exact D a U λj g s=>h j g U
 have ao:∀a b,a<=ops.size->b<=ops.size->(∀j,j<ops.size->writer ops tags j=true->(j<a↔j<b))->σs a=σs b:=λa b aA Y h=>by
  rcases Nat.le_total a b with hle|hle
  .have:=az (b-a) a U λj g s=>by
    cases f:writer ops tags j with
    | false=>rfl
    | true=>have:=(h j U f).2 U;omega
   rw[show a+(b-a)=b by omega] at this;exact this.symm
  .have:=az (a-b) b U λj g s=>by
    cases f:writer ops tags j with
    | false=>rfl
    | true=>have:=(h j U f).1 U;omega
   rw[show b+(a-b)=a by omega] at this;exact this
 have aO:∀a b,a<=ops.size->b<=ops.size->(∀j,j<ops.size->writer ops tags j=true->pu.contains j=false->(j<a↔j<b))->v (σs a)=v (σs b):=λa b aA Y h=>by
  have aP:∀(d a:Nat),a+d<=ops.size->(∀j,a<=j->j<a+d->writer ops tags j=true->pu.contains j=true)->v (σs (a+d))=v (σs a):=by
   intro d
   induction d with
   | zero=>intro a _ _;rfl
   | succ d D=>
    intro a hle h;have g:ops[a+d]?=some ops[a+d]:=XQ U;have e:v (σs (a+d+1))=v (σs (a+d)):=by
     cases H:writer ops tags (a+d) with
     | false=>rw[an (a+d) _ g H]
     | true=>exact aM (a+d) _ g (h (a+d) U U H)
    rw[show a+(d+1)=a+d+1 by omega,e];exact D a U λj g s=>h j g U
  have aB:∀x y,y<=ops.size->(∀j,j<ops.size->writer ops tags j=true->pu.contains j=false->(j<x↔j<y))->x<=y->v (σs y)=v (σs x):=λx y ap h hle=>by
   have:=aP (y-x) x U λj g s H=>by
    cases aq:pu.contains j with
    | true=>rfl
    | false=>have:=(h j U H aq).2 U;omega
   rwa [show x+(y-x)=y by omega] at this
  rcases Nat.le_total a b with hle|hle
  .exact(aB a b Y h hle).symm
  .exact aB b a aA (λj g s A=>(h j g s A).symm) hle
 intro Q;have done:∀(t:Nat) (listed:Array Bool) (env:Ζ) (p:Nat),(∀i,i<ops.size->listed.getD i false=true)->(∀i,Z' env i=Z' (Zj ops env0 as9 (λi=>listed.getD i false) ops.size) i)->p<=ops.size->
   (∀j,j<ops.size->writer ops tags j=true->(listed.getD j false=true↔j<p))->W P m nt (.inRegion ops []::k) env (σs p) Z E:=λt listed env p R M B K=>by
  have aQ:σs p=σs ops.size:=ao p ops.size B (Z5 _) λj c f=>by rw[<-K j c f];simp[R j c,c]
  rw[aQ];refine .congr (λi=>?_) aN;rw[M i];exact Nq ops.size λi o hi _ _=>R i hi
 have aR:∀listed:Array Bool,listed.size=ops.size->(∃i,i<ops.size/\listed.getD i false=false)->∃i,i<ops.size/\listed.getD i false=false/\∀j,j<i->listed.getD j false=true:=λlisted N ⟨i,hi,u⟩=>by
  induction i using Nat.strongRecOn with
  | _ i D=>
   by_cases c:∃j,j<i/\listed.getD j false=false
   .obtain⟨j,g,s⟩:=c;exact D j g U s
   .exact⟨i,hi,u,λj aS=>by
     cases h:listed.getD j false with
     | true=>rfl
     | false=>exact absurd ⟨j,aS,h⟩ c⟩
 induction Q with
 | zero=>
  intro t listed env p N M aa B K aT;have R:∀i,i<ops.size->listed.getD i false=true:=λi hi=>by
   cases h:listed.getD i false with
   | true=>rfl
   | false=>
    have ab:i∈(List.range ops.size).filter λi=>!listed.getD i false:=by rw[S0];exact⟨Wm.2 hi,by rw[h];rfl⟩
    have:((List.range ops.size).filter λi=>!listed.getD i false)=[]:=YR.1 U;rw[this] at ab;simp at ab
  exact done t listed env p R M B K
 | succ Q D=>
  intro t listed env p N M aa B K aT;simp only[Region.linearise.go];generalize aU:((List.range ops.size).filter λi=>!listed.getD i true&&((ops[i]?).map (·.after.all λe=>!Region.binds .any e||listed.getD e.on false)).getD false)=O;have aC:∀i,i<ops.size->listed.getD i true=listed.getD i false:=λi hi=>by
   rw[WV,WV,XQ U];rfl
  have aD:∀i,i∈O↔i<ops.size/\listed.getD i false=false/\∀o,ops[i]?=some o->∀j∈W1 o,listed.getD j false=true:=λi=>by
   rw[<-aU];simp only[S0,Wm,V9,Bool.not_eq_true'];constructor
   .rintro⟨g,s,A⟩;rw[aC i g] at s;refine⟨g,s,λo l j c=>?_⟩;rw[l] at A;simp only[Option.map_some,Option.getD_some,K8] at A;unfold W1 at c;simp only[Zc,S0] at c;obtain⟨e,⟨aV,aW⟩,rfl⟩:=c;have:=A e (by simpa using aV);simpa[aW] using this
   .rintro⟨g,s,A⟩;refine⟨g,by rw[aC i g];exact s,?_⟩;have l:ops[i]?=some ops[i]:=XQ g;rw[l];simp only[Option.map_some,Option.getD_some,K8];intro e aX;by_cases Y:Region.binds .any e=true
    .have:=A _ l e.on (by unfold W1;simp only[Zc,S0];exact⟨e,⟨by simpa using aX,Y⟩,rfl⟩);simp[this]
    .simp[Y]
  cases hi:O[t % O.length]? with
  | none=>
   simp only[List.reverse_nil];have aY:O=[]:=by
    cases aZ:O with
    | nil=>rfl
    | cons x xs=>
     rw[aZ] at hi;have ar:t % (x::xs).length<(x::xs).length:=Nat.mod_lt _ J;rw[ζ ar] at hi;cases hi
   have R:∀i,i<ops.size->listed.getD i false=true:=λi a0=>by
    cases h:listed.getD i false with
    | true=>rfl
    | false=>
     obtain⟨r,g,s,A⟩:=aR listed N ⟨i,a0,h⟩;have:r∈O:=(aD r).2 ⟨g,s,λo l j c=>A j (am r o l j c)⟩;rw[aY] at this;simp at this
   exact done t listed env p R M B K
  | some i=>
   simp only;rw[EO];have ab:i∈O:=Zp hi;obtain⟨g,s,A⟩:=(aD i).1 ab;have l:ops[i]?=some ops[i]:=XQ g;have a1:=JS am (λj=>listed.getD j false=true) (λj o c u=>aa j o c u) i _ l (A _ l);have low:∀j n,j<i->ops[j]?=some n->Ue (TQ lo pu) ops tags i j ops[i] n=true->listed.getD j false=true:=λj n c w X=>a1 j ((al i _ l).2 j n c w X);have high:∀j n,i<j->ops[j]?=some n->Ue (TQ lo pu) ops tags j i n ops[i]=true->listed.getD j false=false:=λj n c w X=>by
    cases u:listed.getD j false with
    | false=>rfl
    | true=>
     have:=JS am (λj=>listed.getD j false=true) (λj o c u=>aa j o c u) j n w (aa j n w u) i ((al j n w).2 i _ c l X);rw[s] at this;cases this
   have ad:SL ops ops[i] (Zj ops env0 as9 (λ_=>true) i) env:=λx aE=>by
    rw[M x];have au:Z' (Zj ops env0 as9 (λi=>listed.getD i false) ops.size) x=Z' (Zj ops env0 as9 (λi=>listed.getD i false) i) x:=JR U λj n a2 a3 w hd=>by
     by_cases e:j=i
     .subst e;exact s
     .refine high j n U w ?_;unfold Ue;simp[hd,aE]
    rw[au];exact Nq i λj n c w hd=>low j n c w (by unfold Ue;simp[hd,aE])
   have ae:∀x,Z' (Zz ops[i] env (as9 i)) x=Z' (Zj ops env0 as9 (λj=>(listed.setIfInBounds i true).getD j false) ops.size) x:=λx=>by
    have F:∀j,(listed.setIfInBounds i true).getD j false=if j=i then true else listed.getD j false:=λj=>by
     rw[WV,WV];by_cases e:j=i
     .subst e;rw[Tv U];simp
     .rw[UT (YZ e),if_neg e]
    rw[On];by_cases hd:ops[i].dst=some x
    .rw[if_pos hd];have au:Z' (Zj ops env0 as9 (λj=>(listed.setIfInBounds i true).getD j false) ops.size) x=Z' (Zj ops env0 as9 (λj=>(listed.setIfInBounds i true).getD j false) (i+1)) x:=JR U λj n a2 a3 w av=>by
      rw[F,if_neg U];refine high j n U w ?_;unfold Ue;simp[hd,av]
     rw[au];simp only[Zj,F,if_true,l,On,hd]
    .rw[if_neg hd,M x];exact Nq ops.size λj n c w av=>by
      rw[F,if_neg];intro e;subst e;rw[l] at w;cases w;exact hd av
   have F:∀j,(listed.setIfInBounds i true).getD j false=if j=i then true else listed.getD j false:=λj=>by
    rw[WV,WV];by_cases e:j=i
    .subst e;rw[Tv U];simp
    .rw[UT (YZ e),if_neg e]
   have af:((List.range ops.size).filter λj=>!(listed.setIfInBounds i true).getD j false).length<=Q:=by
    have ar:((List.range ops.size).filter λj=>!(listed.setIfInBounds i true).getD j false).length<((List.range ops.size).filter λj=>!listed.getD j false).length:=by
     have:((List.range ops.size).filter λj=>!(listed.setIfInBounds i true).getD j false)=((List.range ops.size).filter λj=>!listed.getD j false).filter λj=>j != i:=by
      rw[List.filter_filter];apply List.filter_congr;intro j _;rw[F];by_cases e:j=i
      .subst e;simp
      .simp[e]
     rw[this];have a4:i∈(List.range ops.size).filter λj=>!listed.getD j false:=by
      rw[S0];exact⟨Wm.2 g,by rw[s];rfl⟩
     exact List.length_filter_lt_length_iff_exists.2 ⟨i,a4,J⟩
    omega
   have ag:∀j o,ops[j]?=some o->(listed.setIfInBounds i true).getD j false=true->∀y∈W1 o,(listed.setIfInBounds i true).getD y false=true:=λj o c u y ap=>by
    rw[F] at u ⊢;by_cases e:y=i
    .rw[if_pos e]
    .rw[if_neg e];by_cases Φ:j=i
     .subst Φ;rw[l] at c;cases c;exact A _ l y ap
     .rw[if_neg Φ] at u;exact aa j o c u y ap
   have aF:∀j,writer ops tags j=true->tags.getD j false=true:=λj h=>by
    unfold writer at h;rw[V9] at h;exact h.1
   cases L:tags.getD i false with
   | false=>
    refine(ay i _ l L).1 env (σs p) _ ad ?_;refine D _ _ _ p (by simpa using N) ae ag B (λj c f=>?_) af;rw[F];have:j≠i:=λe=>by subst e;rw[aF j f] at L;cases L
    rw[if_neg this];exact K j c f
   | true=>
    have aG:∀j n,ops[j]?=some n->writer ops tags j=true->lo.contains i=false\/pu.contains j=false->Ue (TQ lo pu) ops tags i j ops[i] n=true/\Ue (TQ lo pu) ops tags j i n ops[i]=true:=λj n w f C=>by
     have g:=aF j f
     have aH:lo.contains j=false:=by
      cases u:lo.contains j with
      | false=>rfl
      | true=>
       have:=(ak j n w u g).1;unfold writer at f;rw[g,w] at f;simp[this] at f
     unfold writer at f;rw[g,w] at f;have s:V3 n=false:=by simpa using f
     have C:(lo.contains i&&pu.contains j)=false:=by
      rcases C with h|h
      .rw[h];rfl
      .rw[h,Bool.and_false]
     have f1:TQ lo pu i j=false:=by unfold TQ;rw[C,aH,Bool.and_false];rfl
     have f2:TQ lo pu j i=false:=by unfold TQ;rw[aH,Bool.and_comm (pu.contains j),C];rfl
     unfold Ue;rw[g,L,s,f1,f2];simp
    have aI:∀j,j<ops.size->writer ops tags j=true->lo.contains i=false\/pu.contains j=false->j<i->listed.getD j false=true:=λj c f C aw=>low j _ aw (XQ c) (aG j _ (XQ c) f C).1
    have aJ:∀j,j<ops.size->writer ops tags j=true->lo.contains i=false\/pu.contains j=false->i<j->listed.getD j false=false:=λj c f C aw=>high j _ aw (XQ c) (aG j _ (XQ c) f C).2
    have ax:∀j,j<ops.size->writer ops tags j=true->lo.contains i=false\/pu.contains j=false->(j<p↔j<i):=λj c f C=>by
     rw[<-K j c f];constructor
     .intro u;apply Va;intro a5;by_cases e:j=i
      .subst e;rw[s] at u;cases u
      .rw[aJ j c f C U] at u;cases u
     .exact aI j c f C
    cases S:writer ops tags i with
    | false=>
     have aK:∀j,j<ops.size->writer ops tags j=true->((listed.setIfInBounds i true).getD j false=true↔j<p):=λj c f=>by
      rw[F];have:j≠i:=λe=>by subst e;rw[f] at S;cases S
      rw[if_neg this];exact K j c f
     cases T:lo.contains i with
     | true=>
      refine(ak i _ l T L).2 (σs p) (aO p i B U λj c f aq=>ax j c f (.inr aq)) env _ ad ?_;exact D _ _ _ p (by simpa using N) ae ag B aK af
     | false=>
      have ah:σs p=σs i:=ao p i B U λj c f=>ax j c f (.inl T)
      have es:=an i _ l S
      have aL:=(aj i _ l L).1;rw[es] at aL;rw[ah];refine aL env _ ad ?_;rw[<-ah];exact D _ _ _ p (by simpa using N) ae ag B aK af
    | true=>
     have T:lo.contains i=false:=by
      cases u:lo.contains i with
      | false=>rfl
      | true=>
       have:=(ak i _ l u L).1;unfold writer at S;rw[l] at S;simp[this] at S
     have ah:σs p=σs i:=ao p i B U λj c f=>ax j c f (.inl T);rw[ah];refine(aj i _ l L).1 env _ ad ?_;refine D _ _ _ (i+1) (by simpa using N) ae ag U (λj c f=>?_) af;rw[F];by_cases e:j=i
     .subst e;simp
     .rw[if_neg e];constructor
      .intro u;apply Va;intro a5;rw[aJ j c f (.inl T) U] at u;cases u
      .intro ar;exact aI j c f (.inl T) U
theorem W.yV {as9:Nat->I} {σs:Nat->Τ} {tags:List Bool} {env0:Ζ} (c:TR ops tags=true)
  (d:∀i o,ops[i]?=some o->tags.getD i false=false->Pq P m nt k Z E ops i o (Zj ops env0 as9 (λ_=>true) i) (as9 i)/\σs (i+1)=σs i)
  (f:∀i o,ops[i]?=some o->tags.getD i false=true->Pp P m nt k Z E ops i o (Zj ops env0 as9 (λ_=>true) i) (σs i) (as9 i) (σs (i+1))/\(V3 o=true->σs (i+1)=σs i))
  (g:W P m nt (.inRegion ops []::k) (Zj ops env0 as9 (λ_=>true) ops.size) (σs ops.size) Z E) :
  ∀(b:Nat) (t:Nat) (listed:Array Bool) (env:Ζ) (a:Nat),listed.size=ops.size->
   (∀i,Z' env i=Z' (Zj ops env0 as9 (λi=>listed.getD i false) ops.size) i)->
   (∀i o,ops[i]?=some o->listed.getD i false=true->∀j∈W1 o,listed.getD j false=true)->
   a<=ops.size->(∀j,j<ops.size->writer ops tags j=true->(listed.getD j false=true↔j<a))->
   ((List.range ops.size).filter λi=>!listed.getD i false).length<=b->
   W P m nt (.inRegion ops (Region.linearise.go .any ops b t listed [])::k) env (σs a) Z E:=by
 have e:TQ [] []=P8:=by funext i j;simp[TQ,P8]
 exact W.EN (lo:=[]) (pu:=[]) (v:=λ_=>()) (by rw[e];exact c) d f (λi o _ h=>by simp at h) (λi o _ h=>by simp at h) g
def JQ:List Oper->List Nat->List Nat
 | [],acc=>acc
 | o::a,acc=>JQ a (acc++[(W1 o).foldr (λj m=>(1 <<< j)|||acc.getD j 0|||m) 0])
def HT (υ:Nat->Nat->Bool) (ops:Array Oper) (tags:List Bool):Bool:=
 let b:=JQ ops.toList []
 (List.range ops.size).all λi=>match ops[i]? with
  | none=>false
  | some a=>(W1 a).all (λj=>decide (j<i))&&(List.range i).all λj=>match ops[j]? with
   | none=>false
   | some c=>!Ue υ ops tags i j a c||(b.getD i 0).testBit j
def EM (a:List (List Nat)) (b:List Nat):Prop:=a.length=b.length/\∀i j,(b.getD i 0).testBit j=true↔j∈a.getD i []
theorem yU:∀(c:List Oper) (b:List (List Nat)) (d:List Nat),EM b d->EM (LZ c b) (JQ c d):=by
 intro c
 induction c with
 | nil=>intro b d h;exact h
 | cons o c f=>
  intro b d h;simp only[LZ,JQ];refine f _ _ ⟨by simp[h.1],λi j=>?_⟩;have one:∀l:List Nat,(l.foldr (λj m=>(1 <<< j)|||d.getD j 0|||m) 0).testBit j=true↔j∈l++l.flatMap λj=>b.getD j []:=by
   intro l
   induction l with
   | nil=>simp
   | cons a l g=>
    rw[List.foldr_cons,Nat.testBit_or,Nat.testBit_or,Nat.one_shiftLeft,Nat.testBit_two_pow];simp only[Bool.or_eq_true,decide_eq_true_eq,h.2 a j,g,VG,Zf,NR];constructor
    .rintro((e|e)|e|e)
     .exact .inl (.inl e.symm)
     .exact .inr (.inl e)
     .exact .inl (.inr e)
     .exact .inr (.inr e)
    .rintro((e|e)|e|e)
     .exact .inl (.inl e.symm)
     .exact .inr (.inl e)
     .exact .inl (.inr e)
     .exact .inr (.inr e)
  rw[Xd,Xd];by_cases hi:i<b.length
  .rw[YL hi,YL (by rw[<-h.1];exact hi),<-Xd,<-Xd];exact h.2 i j
  .rw[XG (by have:=h.1;omega),XG U,<-h.1];cases hd:i-b.length with
   | zero=>simpa using one (W1 o)
   | succ n=>simp
theorem HS {υ:Nat->Nat->Bool} {ops:Array Oper} {tags:List Bool} (h:HT υ ops tags=true):P9 υ ops tags=true:=by
 unfold HT at h;unfold P9;have e:=yU ops.toList [] [] ⟨rfl,λi j=>J⟩;simp only[WU] at h ⊢;intro i hi;have b:=h i hi;cases c:ops[i]? with
 | none=>rw[c] at b;exact b
 | some g=>
  rw[c] at b;simp only[V9,WU] at b ⊢;refine⟨b.1,λj f=>?_⟩;have a:=b.2 j f;cases d:ops[j]? with
  | none=>rw[d] at a;exact a
  | some k=>
   rw[d] at a;simp only[Bool.or_eq_true] at a ⊢;rcases a with a|a
   .exact .inl a
   .exact .inr (Le.2 ((e.2 i j).1 a))
end
def yT (ops:Array Oper) (tags:List Bool):Bool:=HT P8 ops tags
theorem Yw {ops:Array Oper} {tags:List Bool} (h:yT ops tags=true):TR ops tags=true:=HS h
section
variable {P:Program} {T:ZZ} {A:List Nat} {m nt:Nat} {k:List Item} {env env':Ζ} {σ:Τ} {Z:X9} {E:Yn} {ops:Array Oper}
theorem LY {o:Oper} (h:SL ops o env env'):∀x,x∈o.op.operands.toList->κ env' x=κ env x:=λx a=>by
 cases x with
 | tmp t=>
  refine h t ?_;unfold L0;simp only[VG,List.mem_filterMap];exact .inl ⟨.tmp t,a,rfl⟩
 | _=>rfl
theorem UK {o:Oper} (h:SL ops o env env'):XT env' ops o=XT env ops o:=by
 unfold XT;cases a:o.guard with
 | none=>rfl
 | some x=>
  obtain⟨j,b⟩:=x;simp only;cases hd:(ops[j]?).bind (·.dst) with
  | none=>rfl
  | some d=>
   simp only;have:Z' env' d=Z' env d:=h d (by unfold L0;rw[a];simp[hd]);rw[this]
theorem JP {a:Array (Nat×Operand)} (h:∀p∈a,κ env' p.2=κ env p.2):Qe env' a=Qe env a:=by
 unfold Qe;exact MC λp b=>by rw[h p (by simpa using b)]
theorem LX {a:Array Operand} (h:∀x∈a,κ env' x=κ env x):a.toList.map (κ env')=a.toList.map (κ env):=MC λx b=>h x (by simpa using b)
theorem JO {o:Option Operand} (h:∀x,o=some x->κ env' x=κ env x):o.map (κ env')=o.map (κ env):=by
 cases o with
 | none=>rfl
 | some x=>simp[h x rfl]
theorem P7 {o:Oper} (r:SL ops o env env'):VO T A env' o=VO T A env o:=by
 have h:=LY r;obtain⟨dst,g,w,pos,B,guard⟩:=o;simp only at h;unfold VO;cases g<;>simp only<;>try rfl
 all_goals simp only[Op.operands,Zf,Yk,or_false,forall_eq_or_imp,forall_eq] at h
 case move x=>rw[h]
 case assign x=>rw[h]
 case pick c a b=>rw[h.1,h.2.1,h.2.2]
 case box d x=>rw[h]
 case build d s=>rw[JP λp j=>h p.2 (by simp only[Zc];exact⟨p,by simpa using j,rfl⟩)]
 case buildSlice d n s=>rw[JP λp j=>h p.2 (by simp only[Zc];exact⟨p,by simpa using j,rfl⟩)]
 case load d x=>rw[h]
 case binOp g a x y b=>rw[h.1,h.2]
 case unOp g a x=>rw[h]
 case convert a b x=>rw[h]
 case index d x y=>rw[h.1,h.2]
 case nilCheck x=>rw[h]
 case sliceToArrayPointer d x=>rw[h]
 case makeInterface a x=>rw[h]
 case makeFunc f C cs=>rw[LX λx e=>h x (by simp[e]),LX λx e=>h x (by simp[e])]
 case makeSlice a x y=>rw[h.1,h.2]
 case slice d x lo hi t=>
  cases t with
  | some m=>rfl
  | none=>
   simp only;rw[h x J,JO λy k=>h y (by simp[k]),JO λy k=>h y (by simp[k])]
 case fieldAddr d x f=>rw[h]
 case indexAddr d x y=>rw[h.1,h.2]
 case typeAssert x a b c=>rw[h]
 case extract x i=>rw[h]
 case call c=>
  obtain⟨u,⟨args⟩,⟨v⟩⟩:=c;cases u
  case value=>rfl
  case invoke=>rfl
  rename_i b;have l:∀x∈args,κ env' x=κ env x:=λx e=>h x (by simp[Call.operands,e])
  match args,v with
  | [x],[d]=>simp only;rw[l x J]
  | [x,y],[D,d]=>simp only;rw[l x J,l y J]
  | [],_=>rfl
  | [_],[]=>rfl
  | [_],_::_::_=>rfl
  | [_,_],[]=>rfl
  | [_,_],[_]=>rfl
  | [_,_],_::_::_::_=>rfl
  | _::_::_::_,_=>rfl
theorem Np {o:Oper} (l:SL ops o env env'):Wy T A env' σ o=Wy T A env σ o:=by
 have h:=LY l;obtain⟨dst,k,C,pos,D,guard⟩:=o;simp only at h;unfold Wy;cases k<;>simp only<;>try rfl
 all_goals simp only[Op.operands,Zf,Yk,or_false,forall_eq_or_imp,forall_eq] at h
 case box e x=>rw[h]
 case build e s=>rw[JP λp g=>h p.2 (by simp only[Zc];exact⟨p,by simpa using g,rfl⟩)]
 case buildSlice e n s=>rw[JP λp g=>h p.2 (by simp only[Zc];exact⟨p,by simpa using g,rfl⟩)]
 case load e x=>rw[h]
 case store e x y=>rw[h.1,h.2]
 case makeSlice a x y=>rw[h.1,h.2]
 case makeMap e r=>cases r<;>rfl
 case convert a b x=>rw[h]
 case nilCheck x=>rw[h]
 case binOp k e x y d=>
  split
  all_goals first
   | rfl
   |(rename_i t;cases t<;>simp only[h.1])
 case mapUpdate e x y z=>rw[h.1,h.2.1,h.2.2]
 case insert e x y z=>rw[h.1,h.2.1,h.2.2]
 case lookup e x y E=>rw[h.1,h.2]
 case range e x=>rw[h]
 case next x b=>
  cases b<;>simp only<;>try rfl
  rw[h]
 case entry x=>rw[h]
 case slice e x lo hi u=>
  cases u with
  | some m=>rfl
  | none=>
   simp only;rw[h x J,JO λy i=>h y (by simp[i]),JO λy i=>h y (by simp[i])]
 case fieldAddr e x f=>rw[h]
 case indexAddr e x y=>rw[h.1,h.2]
 case call c=>
  obtain⟨v,⟨args⟩,⟨w⟩⟩:=c;cases v
  case value=>rfl
  case invoke=>rfl
  rename_i b;have j:∀x∈args,κ env' x=κ env x:=λx B=>h x (by simp[Call.operands,B])
  match args,w with
  | [x],[e]=>simp only;rw[j x J]
  | [x,y],[F,e]=>simp only;rw[j x J,j y J]
  | [],_=>rfl
  | [_],[]=>rfl
  | [_],_::_::_=>rfl
  | [_,_],[]=>rfl
  | [_,_],[_]=>rfl
  | [_,_],_::_::_::_=>rfl
  | _::_::_::_,_=>rfl
def XD (P:Program) (f:I) (args:ξ) (r:I):Prop:=∀σ,WO P f args σ (λa s=>a=r/\s=σ) (λ_ _=>False)
def Zl.Yf (r:Zl) (K:I->Prop) (s:Prop):Prop:=match r with
 | .ok a=>K a
 | .Ze p (.ok a)=>p/\K a
 | .Ze _ _=>False
 | .bad=>s
def Y6.Yf (r:Y6) (K:I->Τ->Prop):Prop:=match r with
 | .ok a σ'=>K a σ'
 | .Ze p (.ok a σ')=>p/\K a σ'
 | _=>False
theorem yS {r r':Zl} {K:I->Prop} {s:Prop} (h:r=r'):r.Yf K s=r'.Yf K s:=by rw[h]
theorem yR {r r':Y6} {K:I->Τ->Prop} (h:r=r'):r.Yf K=r'.Yf K:=by rw[h]
def dcall (P:Program) (f:I) (args:ξ) (σ:Τ) (b:I->Prop) (c:I->Τ->Prop):Prop:=
 (∃r,XD P f args r/\b r)\/∃r σ',WO P f args σ (λa s=>a=r/\s=σ') (λ_ _=>False)/\c r σ'
theorem YD {P:Program} {f:I} {args:ξ} {σ:Τ} {a:I->Prop} {b:I->Τ->Prop} {r:I} (h:XD P f args r) (k:a r):dcall P f args σ a b:=.inl ⟨r,h,k⟩
theorem JN {P:Program} {f:I} {args:ξ} {σ σ':Τ} {c:I->Prop} {b:I->Τ->Prop} {r:I} (h:WO P f args σ (λa s=>a=r/\s=σ') (λ_ _=>False)) (k:b r σ'):dcall P f args σ c b:=.inr ⟨r,σ',h,k⟩
def P6 (P:Program) (T:ZZ) (A:List Nat) (env:Ζ) (o:Oper) (σ:Τ) (a:I->Prop) (b:I->Τ->Prop):Prop:=match o.op with
 | .call ⟨.value f,args,_⟩=>dcall P (κ env f) (args.toList.map (κ env)) σ a b
 | .panic _=>False
 | .defer _=>False
 | _=>(VO T A env o).Yf a ((Wy T A env σ o).Yf b)
theorem yQ {P:Program} {T:ZZ} {A:List Nat} {env:Ζ} {o:Oper} {σ:Τ} {a:I->Prop} {b:I->Τ->Prop}:P6 P T A env o σ a b=match o.op with
 | .call ⟨.value f,args,_⟩=>dcall P (κ env f) (args.toList.map (κ env)) σ a b
 | .panic _=>False
 | .defer _=>False
 | _=>(VO T A env o).Yf a ((Wy T A env σ o).Yf b):=XH rfl rfl
theorem yP {a:I} {K:I->Prop} {s:Prop}:Zl.Yf (.ok a) K s=K a:=XH rfl rfl
theorem yO {p:Prop} {a:I} {K:I->Prop} {s:Prop}:Zl.Yf (.Ze p (.ok a)) K s=(p/\K a):=XH rfl rfl
theorem yN {K:I->Prop} {s:Prop}:Zl.Yf .bad K s=s:=XH rfl rfl
theorem yM {a:I} {σ:Τ} {K:I->Τ->Prop}:Y6.Yf (.ok a σ) K=K a σ:=XH rfl rfl
theorem yL {p:Prop} {a:I} {σ:Τ} {K:I->Τ->Prop}:Y6.Yf (.Ze p (.ok a σ)) K=(p/\K a σ):=XH rfl rfl
def VB (P:Program) (T:ZZ) (A:List Nat) (nt:Nat) (ops:Array Oper):List Nat->Ζ->Τ->List Bool->(Ζ->Τ->Prop)->Prop
 | [],env,σ,tags,K=>TR ops tags=true/\K env σ
 | i::is,env,σ,tags,K=>Xr ops[i]? λo=>W2 nt o=true/\Xr (XT env ops o) λw=>
   Wx w (VB P T A nt ops is (Zz o env .Zs) σ (tags++[false]) K)
    (P6 P T A env o σ (λa=>VB P T A nt ops is (Zz o env a) σ (tags++[false]) K) (λa σ'=>VB P T A nt ops is (Zz o env a) σ' (tags++[true]) K))
def EL (P:Program) (T:ZZ) (A:List Nat) (nt:Nat) (ops:Array Oper) (is:List Nat) (o:Oper) (env:Ζ) (σ:Τ) (tags:List Bool) (K:Ζ->Τ->Prop) (a:I):Prop:=VB P T A nt ops is (Zz o env a) σ (tags++[false]) K
def EK (P:Program) (T:ZZ) (A:List Nat) (nt:Nat) (ops:Array Oper) (is:List Nat) (o:Oper) (env:Ζ) (tags:List Bool) (K:Ζ->Τ->Prop) (a:I) (σ':Τ):Prop:=VB P T A nt ops is (Zz o env a) σ' (tags++[true]) K
theorem ZM {tags:List Bool} {K:Ζ->Τ->Prop}:VB P T A nt ops [] env σ tags K=(TR ops tags=true/\K env σ):=XH rfl rfl
theorem ZL {i:Nat} {is:List Nat} {tags:List Bool} {K:Ζ->Τ->Prop}:VB P T A nt ops (i::is) env σ tags K=Xr ops[i]? λo=>W2 nt o=true/\Xr (XT env ops o) λw=>
   Wx w (VB P T A nt ops is (Zz o env .Zs) σ (tags++[false]) K) (P6 P T A env o σ (EL P T A nt ops is o env σ tags K) (EK P T A nt ops is o env tags K)):=XH rfl rfl
theorem yK {ops:Array Oper} {is:List Nat} {o:Oper} {tags:List Bool} {K:Ζ->Τ->Prop} {a:I}:EL P T A nt ops is o env σ tags K a=VB P T A nt ops is (Zz o env a) σ (tags++[false]) K:=XH rfl rfl
theorem yJ {ops:Array Oper} {is:List Nat} {o:Oper} {tags:List Bool} {K:Ζ->Τ->Prop} {a:I}:EK P T A nt ops is o env tags K a σ=VB P T A nt ops is (Zz o env a) σ (tags++[true]) K:=XH rfl rfl
def Wh (P:Program) (m nt:Nat) (k:List Item) (Z:X9) (E:Yn) (ops:Array Oper) (i:Nat) (o:Oper) (env:Ζ) (σ:Τ) (b:Bool) (a:I) (σ':Τ):Prop:=
 if b then Pp P m nt k Z E ops i o env σ a σ'/\(V3 o=true->σ'=σ) else Pq P m nt k Z E ops i o env a/\σ'=σ
theorem yI {b:TypeId} {x a:I} {σ':Τ} {p:Prop} (h:SQ T b σ x=.ok a σ'\/SQ T b σ x=.Ze p (.ok a σ')):σ'=σ:=by
 unfold SQ Q0 at h
 repeat' split at h
 all_goals simp[Zl.YE] at h
 all_goals first|exact h.2.symm|skip
theorem yH {b:TypeId} {x c a:I} {σ':Τ} {p:Prop} (h:SO T b σ x c=.ok a σ'\/SO T b σ x c=.Ze p (.ok a σ')):σ'=σ:=by
 unfold SO at h
 repeat' split at h
 all_goals simp at h
 all_goals first|exact h.2.2.symm|exact h.2.symm|skip
theorem yG {b:TypeId} {f:Nat} {x a:I} {σ':Τ} {p:Prop} (h:SP T b f σ x=.ok a σ'\/SP T b f σ x=.Ze p (.ok a σ')):σ'=σ:=by
 unfold SP at h
 repeat' split at h
 all_goals simp at h
 all_goals first|exact h.2.2.symm|exact h.2.symm|skip
theorem yF {x a:I} {σ':Τ} {p:Prop} (h:Ot σ x=.ok a σ'\/Ot σ x=.Ze p (.ok a σ')):σ'=σ:=by
 unfold Ot at h
 repeat' split at h
 all_goals simp at h
 all_goals first|exact h.2.2.symm|exact h.2.symm|skip
theorem No {o:Oper} {a:I} {σ':Τ} {p:Prop} (c:V3 o=true) (h:Wy T A env σ o=.ok a σ'\/Wy T A env σ o=.Ze p (.ok a σ')):σ'=σ:=by
 unfold V3 at c;unfold Wy at h;split at c
 .rename_i d x b;rw[b] at h;exact yI h
 .rename_i d x e b;rw[b] at h;exact yH h
 .rename_i d x f b;rw[b] at h;exact yG h
 .rename_i x b;rw[b] at h;exact yF h
 .cases c
theorem yE (D:ZE P T) {i:Nat} {is:List Nat} {tags:List Bool} {K:Ζ->Τ->Prop} (h:VB P T A nt ops (i::is) env σ tags K) :
  ∃o a σ' F,ops[i]?=some o/\Wh P m nt k Z E ops i o env σ F a σ'/\VB P T A nt ops is (Zz o env a) σ' (tags++[F]) K:=by
 unfold VB Xr at h;split at h
 .exact h.elim
 .rename_i o d;obtain⟨hd,h⟩:=h;split at h
  .exact h.elim
  rename_i w t;unfold Wx at h;cases w
  .replace h:=h.1 rfl
   refine⟨o,.Zs,σ,false,d,?_,h⟩;unfold Wh;simp only[Xo,if_false];exact⟨λenv' σ' rest b g=>.unwanted d (by rw[UK b];exact t) hd g,trivial⟩
  .replace h:=h.2 rfl
   unfold P6 at h;split at h
   .rename_i f args R u;have H:∀env',SL ops o env env'->κ env' f=κ env f/\args.toList.map (κ env')=args.toList.map (κ env):=λenv' b=>by
     have v:=LY b;rw[u] at v;refine⟨v f (by simp[Op.operands,Call.operands]),LX λx N=>v x (by simp[Op.operands,Call.operands,N])⟩
    rcases h with⟨r,l,h⟩|⟨r,σ',l,h⟩
    .refine⟨o,r,σ,false,d,?_,h⟩;unfold Wh;simp only[Xo,if_false];refine⟨λenv' σ' rest b g=>.call d (by rw[UK b];exact t) hd u ?_,trivial⟩;obtain⟨B,Φ⟩:=H env' b;rw[B,Φ];exact(l σ').mono (λa s ⟨x,y⟩=>by subst x;subst y;exact g) (λ_ _ h=>h.elim)
    .refine⟨o,r,σ',true,d,?_,h⟩;unfold Wh;simp only[if_true];refine⟨?_,λe=>by unfold V3 at e;rw[u] at e;cases e⟩;refine λenv' rest b g=>.call d (by rw[UK b];exact t) hd u ?_;obtain⟨B,Φ⟩:=H env' b;rw[B,Φ];exact l.mono (λa s ⟨x,y⟩=>by subst x;subst y;exact g) (λ_ _ h=>h.elim)
   .exact h.elim
   .exact h.elim
   .rename_i S U J;have L:∀(r:Zl) (a:I),VO T A env o=r->(∀K:I->Τ->Prop,∀s,K a s->(r.YE s).holds K)->(∀σ s,r.or σ s=r.YE σ)->Pq P m nt k Z E ops i o env a:=λr a e C O env' σ' rest b g=>by
     refine .op (A:=A) D d (by rw[UK b];exact t) hd (λc l=>J c l) ?_;rw[P7 b,e,O];exact C _ _ g
    unfold Zl.Yf at h;split at h
    .rename_i a j;refine⟨o,a,σ,false,d,?_,h⟩;unfold Wh;simp only[Xo,if_false];exact⟨L _ a j (λK s n=>n) (λ_ _=>rfl),trivial⟩
    .rename_i p a j;refine⟨o,a,σ,false,d,?_,h.2⟩;unfold Wh;simp only[Xo,if_false];exact⟨L _ a j (λK s n=>⟨h.1,n⟩) (λ_ _=>rfl),trivial⟩
    .exact h.elim
    .rename_i Q;have M:∀(a:I) (σ':Τ) (r:Y6),Wy T A env σ o=r->(∀K:I->Τ->Prop,K a σ'->r.holds K)->Pp P m nt k Z E ops i o env σ a σ':=λa σ' r e C env' rest b g=>by
      refine .op (A:=A) D d (by rw[UK b];exact t) hd (λc l=>J c l) ?_;rw[P7 b,Np b,Q,e];exact C _ g
     unfold Y6.Yf at h;split at h
     .rename_i a σ' j;refine⟨o,a,σ',true,d,?_,h⟩;unfold Wh;simp only[if_true];exact⟨M a σ' _ j λK n=>n,λe=>No (p:=True) e (.inl j)⟩
     .rename_i p a σ' j;refine⟨o,a,σ',true,d,?_,h.2⟩;unfold Wh;simp only[if_true];exact⟨M a σ' _ j λK n=>⟨h.1,n⟩,λe=>No e (.inr j)⟩
     .exact h.elim
theorem HR {env0:Ζ} {as9 a:Nat->I} {b:Nat->Bool}:∀n,(∀j,j<n->as9 j=a j)->Zj ops env0 as9 b n=Zj ops env0 a b n:=by
 intro n
 induction n with
 | zero=>intro _;rfl
 | succ n c=>
  intro h;simp only[Zj];rw[c λj d=>h j U,h n (Qv n)]
theorem yD (t:ZE P T) {K:Ζ->Τ->Prop} {env0:Ζ}:∀(d i:Nat) (tags:List Bool) (as9:Nat->I) (σs:Nat->Τ),i+d=ops.size->tags.length=i->
  (∀j o,j<i->ops[j]?=some o->Wh P m nt k Z E ops j o (Zj ops env0 as9 (λ_=>true) j) (σs j) (tags.getD j false) (as9 j) (σs (j+1)))->
  VB P T A nt ops (List.range' i d) (Zj ops env0 as9 (λ_=>true) i) (σs i) tags K->
  ∃(tags:List Bool) (as9:Nat->I) (b:Nat->Τ),TR ops tags=true/\b 0=σs 0/\(∀j o,ops[j]?=some o->Wh P m nt k Z E ops j o (Zj ops env0 as9 (λ_=>true) j) (b j) (tags.getD j false) (as9 j) (b (j+1)))/\K (Zj ops env0 as9 (λ_=>true) ops.size) (b ops.size):=by
 intro d
 induction d with
 | zero=>
  intro i tags as9 σs hi n g h;simp only[List.range'_zero,VB] at h;have:i=ops.size:=U;subst this;exact⟨tags,as9,σs,h.1,rfl,λj o f=>g j o (T3.1 f).1 f,h.2⟩
 | succ d u=>
  intro i tags as9 σs hi n g h;rw[MB] at h;obtain⟨o,a,σ',l,f,v,h⟩:=yE (m:=m) (k:=k) (Z:=Z) (E:=E) t h;let c:Nat->I:=λj=>if j=i then a else as9 j
  let b:Nat->Τ:=λj=>if j=i+1 then σ' else σs j
  have p:∀j,j<=i->Zj ops env0 as9 (λ_=>true) j=Zj ops env0 c (λ_=>true) j:=λj g=>HR j λx L=>by simp only[c];rw[if_neg U]
  have w:Zj ops env0 c (λ_=>true) (i+1)=Zz o (Zj ops env0 as9 (λ_=>true) i) a:=by
   simp only[Zj,if_true,f];rw[<-p i (Z5 i)];simp only[c,if_true]
  have:=u (i+1) (tags++[l]) c b U (by simp[n]) (λj y M r=>?_) ?_
  .obtain⟨t2,B,C,D,F,H,J⟩:=this;exact⟨t2,B,C,D,F.trans (by simp only[b];rw[if_neg U]),H,J⟩
  .by_cases e:j=i
   .subst e;rw[f] at r;cases r;rw[<-p j (Z5 j)];have s:(tags++[l]).getD j false=l:=by rw[Xd,XG U,n];simp
    rw[s];simp only[c,b,if_true];rw[if_neg U];exact v
   .have:=g j y U r;rw[<-p j U];have s:(tags++[l]).getD j false=tags.getD j false:=by rw[Xd,YL U,<-Xd]
    rw[s];simp only[c,b];rw[if_neg U,if_neg U,if_neg U];exact this
  .rw[w];simp only[b,if_true];exact h
theorem W.draw (s:ZE P T) (u:P.follows .mixedOrders=true) {id:Nat} (h:∀d:Ζ->Τ->Prop,(∀env σ,W P m nt k env σ Z E->d env σ)->VB P T A nt ops (idx ops.size []) env σ [] d):W P m nt (.code (.region id ops true)::k) env σ Z E:=by
 have e:=h (λenv σ=>W P m nt k env σ Z E) λ_ _ h=>h;rw[idx_eq,Lc] at e;obtain⟨tags,as9,σs,v,w,f,y⟩:=yD (m:=m) (k:=k) (Z:=Z) (E:=E) (env0:=env) s ops.size 0 [] (λ_=>.Zs) (λ_=>σ) U rfl (λj o C=>U) e;intro D mn x cs b S B H t g l F I K;refine .draw g l λn=>?_;have p:=W.yV (P:=P) (m:=m) (nt:=nt) (k:=k) (Z:=Z) (E:=E) (ops:=ops) (as9:=as9) (σs:=σs) (tags:=tags) (env0:=env) v
  (λi o a c=>by have:=f i o a;unfold Wh at this;rw[c] at this;simpa using this)
  (λi o a c=>by have:=f i o a;unfold Wh at this;rw[c] at this;simpa using this)
  (.ZH y) ops.size n (Array.replicate ops.size false) env 0 J (λi=>?_) (λi o a r=>?_) (ω _) (λj C _=>?_) ?_
 .rw[w] at p;rw[u];simp only[Region.schedule,Bool.true_or,if_true,Region.linearise];exact p D mn x cs b S B H t g l F I K
 .have:∀n,Zj ops env as9 (λi=>(Array.replicate ops.size false).getD i false) n=env:=by
   intro n
   induction n with
   | zero=>rfl
   | succ n L=>
    simp only[Zj];have:(Array.replicate ops.size false).getD n false=false:=by
     rw[WV,OY];split<;>rfl
    rw[if_neg (by rw[this];simp)];exact L
  rw[this]
 .have:(Array.replicate ops.size false).getD i false=false:=by
   rw[WV,OY];split<;>rfl
  rw[this] at r;cases r
 .have:(Array.replicate ops.size false).getD j false=false:=by
   rw[WV,OY];split<;>rfl
  rw[this];simp
 .have:=Ld (λi=>!(Array.replicate ops.size false).getD i false) (List.range ops.size);simpa using this
theorem EJ {K K':Ζ->Τ->Prop} (k:∀e s,K e s->K' e s):∀(is:List Nat) (env:Ζ) (σ:Τ) (tags:List Bool),VB P T A nt ops is env σ tags K->VB P T A nt ops is env σ tags K':=by
 intro is
 induction is with
 | nil=>intro env σ tags h;exact⟨h.1,k _ _ h.2⟩
 | cons i is b=>
  intro env σ tags h;unfold VB Xr at h ⊢;cases d:ops[i]? with
  | none=>rw[d] at h;exact h.elim
  | some o=>
   rw[d] at h;simp only at h ⊢;refine⟨h.1,?_⟩
   replace h:=h.2
   cases g:XT env ops o with
   | none=>rw[g] at h;exact h.elim
   | some w=>
    rw[g] at h;unfold Wx at h ⊢;refine⟨λe=>b _ _ _ (h.1 e),λe=>?_⟩
    replace h:=h.2 e
    unfold P6 at h ⊢;split
    .rename_i f args j a;rw[a] at h;simp only at h;rcases h with⟨r,c,h⟩|⟨r,σ',c,h⟩
     .exact .inl ⟨r,c,b _ _ _ h⟩
     .exact .inr ⟨r,σ',c,b _ _ _ h⟩
    .rename_i a;rw[a] at h;exact h
    .rename_i a;rw[a] at h;exact h
    .rename_i l m n;split at h
     .rename_i f args j a;exact absurd a (l f args j)
     .rename_i y a;exact absurd a (m y)
     .rename_i y a;exact absurd a (n y)
     .unfold Zl.Yf at h ⊢;split at h
      .exact b _ _ _ h
      .exact⟨h.1,b _ _ _ h.2⟩
      .exact h.elim
      .unfold Y6.Yf at h ⊢;split at h
       .exact b _ _ _ h
       .exact⟨h.1,b _ _ _ h.2⟩
       .exact h.elim
theorem W.Nn (b:ZE P T) (c:P.follows .mixedOrders=true) (a:Ζ) {id:Nat} (h:W P m nt k a σ Z E) (d:VB P T A nt ops (idx ops.size []) env σ [] (λe s=>s=σ/\∀p∈a,Z' e p.1=p.2)):W P m nt (.code (.region id ops true)::k) env σ Z E:=
 W.draw b c λj f=>EJ (λe s ⟨g,i⟩=>f e s (g▸W.forget a i h)) _ _ _ _ d
end
def VN {a:Type}:List a->List Nat->List a->List a
 | l,i::ρ,x::xs=>VN (l.set i x) ρ xs
 | l,_,_=>l
theorem P5 {a:Type}:∀(ρ:List Nat) (l xs:List a),(VN l ρ xs).length=l.length:=by
 intro ρ
 induction ρ with
 | nil=>intro l xs;cases xs<;>rfl
 | cons i ρ b=>intro l xs;cases xs with
  | nil=>rfl
  | cons x xs=>simp[VN,b]
theorem HQ {a:Type} {i:Nat}:∀(ρ:List Nat) (l xs:List a),i∉ρ->(VN l ρ xs)[i]?=l[i]?:=by
 intro ρ
 induction ρ with
 | nil=>intro l xs _;cases xs<;>rfl
 | cons j ρ b=>intro l xs h;cases xs with
  | nil=>rfl
  | cons x xs=>
   simp only[VN];rw[b _ _ (λc=>h (by simp[c])),Vq (λe=>h (by simp[e]))]
theorem EI {d:Type}:∀(ρ:List Nat) (l xs:List d),ρ.Nodup->(∀i∈ρ,i<l.length)->∀(j i:Nat) (x:d),ρ[j]?=some i->xs[j]?=some x->(VN l ρ xs)[i]?=some x:=by
 intro ρ
 induction ρ with
 | nil=>intro l xs _ _ j i x h;simp at h
 | cons a ρ f=>
  intro l xs g e j i x c b;cases xs with
  | nil=>simp at b
  | cons y xs=>
   simp only[VN];obtain⟨k,m⟩:=S1.1 g;cases j with
   | zero=>
    simp at c b;subst c;subst b;rw[HQ ρ _ _ k,Wo (e a J)]
   | succ j=>
    simp only[List.getElem?_cons_succ] at c b;exact f _ _ m (λi hi=>by simp;exact e i (by simp[hi])) j i x c b
def Wg (ρ:List Nat):I->I
 | .Ν id n i j=>.Ν (ρ.getD id 0) n i j
 | .ms id n i len=>.ms (ρ.getD id 0) n i len
 | .mp id=>.mp (ρ.getD id 0)
 | .it id=>.it (ρ.getD id 0)
 | a=>a
def Ym (ρ:List Nat):I->I
 | .fn f b cs=>.fn f (b.map (Wg ρ)) (cs.map (Wg ρ))
 | .Z7 l=>.Z7 (l.map (Wg ρ))
 | .ZX l=>.ZX (l.map (Wg ρ))
 | a=>Wg ρ a
def Sg (h:Nat) (a:I):Prop:=match a with
 | .Ν id _ _ _|.ms id _ _ _|.mp id|.it id=>id<h
 | a=>χ 0 a
def Xm (h:Nat) (a:I):Prop:=match a with
 | .fn _ b cs=>(∀a∈b,Sg h a)/\∀a∈cs,Sg h a
 | .Z7 l|.ZX l=>∀a∈l,Sg h a
 | a=>Sg h a
structure Names (ρ:List Nat) (a:δ) (σ0:Τ) (b:δ) (c:Τ):Prop where
 row:∀(j i:Nat),ρ[j]?=some i->c[i]?=σ0[j]?
 blk:∀(j i:Nat),ρ[j]?=some i->b[i]?=a[j]?
section
variable {S:ο} {JM Sf:δ} {σ0 JL:Τ} {ρ:List Nat}
theorem JK {ρ:List Nat} {j:Nat} (h:j<ρ.length):ρ[j]?=some (ρ.getD j 0):=by
 rw[Xd,ζ h];rfl
theorem UD (g:Names ρ JM σ0 Sf JL) {a:I} {v:Value} (l:Sg ρ.length a):Α S Sf JL (Wg ρ a) v↔Α S JM σ0 a v:=by
 cases a with
 | Ν id n i j=>
  have e:=JK (ρ:=ρ) l
  have d:=g.row _ _ e
  have f:=g.blk _ _ e;constructor
  .intro h;cases h with
   | Ν b c k=>exact .Ν (by rw[<-d];exact b) c (by rw[<-f];exact k)
   | Vm v b c=>exact .Vm v (by rw[<-d];exact b) c
  .intro h;cases h with
   | Ν b c k=>exact .Ν (by rw[d];exact b) c (by rw[f];exact k)
   | Vm v b c=>exact .Vm v (by rw[d];exact b) c
 | ms id n i len=>
  have e:=JK (ρ:=ρ) l
  have d:=g.row _ _ e
  have f:=g.blk _ _ e;constructor
  .intro h;cases h with
   | ms cap b c k m o p=>exact .ms cap (by rw[<-d];exact b) c (by rw[<-f];exact k) m o p
   | VD v b c=>exact .VD v (by rw[<-d];exact b) c
  .intro h;cases h with
   | ms cap b c k m o p=>exact .ms cap (by rw[d];exact b) c (by rw[f];exact k) m o p
   | VD v b c=>exact .VD v (by rw[d];exact b) c
 | mp id=>
  have e:=JK (ρ:=ρ) l
  have d:=g.row _ _ e
  have f:=g.blk _ _ e;constructor
  .intro h;cases h with
   | mp b c=>exact .mp (by rw[<-d];exact b) (by rw[<-f];exact c)
   | Ui v b=>exact .Ui v (by rw[<-d];exact b)
  .intro h;cases h with
   | mp b c=>exact .mp (by rw[d];exact b) (by rw[f];exact c)
   | Ui v b=>exact .Ui v (by rw[d];exact b)
 | it id=>
  have e:=JK (ρ:=ρ) l
  have d:=g.row _ _ e
  have f:=g.blk _ _ e;constructor
  .intro h;cases h with
   | it b c=>exact .it (by rw[<-d];exact b) (by rw[<-f];exact c)
   | Tg v b=>exact .Tg v (by rw[<-d];exact b)
  .intro h;cases h with
   | it b c=>exact .it (by rw[d];exact b) (by rw[f];exact c)
   | Tg v b=>exact .Tg v (by rw[d];exact b)
 | _=>exact⟨λh=>h.any l _ _,λh=>h.any l _ _⟩
theorem JJ {f:I->I} {l:ξ} {i:Nat} {a:I} (h:(l.map f)[i]?=some a):∃b,l[i]?=some b/\a=f b:=by
 rw[Yl] at h;cases c:l[i]? with
 | none=>rw[c] at h;cases h
 | some b=>rw[c] at h;cases h;exact⟨b,rfl,rfl⟩
theorem HP (c:Names ρ JM σ0 Sf JL) {a:I} {v:Value} (d:Xm ρ.length a):Α S Sf JL (Ym ρ a) v↔Α S JM σ0 a v:=by
 cases a with
 | fn f s cs=>
  constructor
  .intro h;cases h with
   | fn vs o e g p r=>
    refine .fn vs o (by simpa using e) (by simpa using g) (λi a v hi hv=>?_) (λi a v hi hv=>?_)
    .exact(UD c (d.1 a (Zp hi))).1 (p i _ v (by rw[Yl,hi];rfl) hv)
    .exact(UD c (d.2 a (Zp hi))).1 (r i _ v (by rw[Yl,hi];rfl) hv)
  .intro h;cases h with
   | fn vs o e g p r=>
    refine .fn vs o (by simpa using e) (by simpa using g) (λi a v hi hv=>?_) (λi a v hi hv=>?_)
    .obtain⟨b,m,rfl⟩:=JJ hi;exact(UD c (d.1 b (Zp m))).2 (p i b v m hv)
    .obtain⟨b,m,rfl⟩:=JJ hi;exact(UD c (d.2 b (Zp m))).2 (r i b v m hv)
 | Z7 l=>
  constructor
  .intro h;cases h with
   | Z7 vs e g=>exact .Z7 vs (by simpa using e) λi a v hi hv=>(UD c (d a (Zp hi))).1 (g i _ v (by rw[Yl,hi];rfl) hv)
  .intro h;cases h with
   | Z7 vs e g=>
    refine .Z7 vs (by simpa using e) λi a v hi hv=>?_;obtain⟨b,m,rfl⟩:=JJ hi;exact(UD c (d b (Zp m))).2 (g i b v m hv)
 | ZX l=>
  constructor
  .intro h;cases h with
   | ZX vs e g=>exact .ZX vs (by simpa using e) λi a v hi hv=>(UD c (d a (Zp hi))).1 (g i _ v (by rw[Yl,hi];rfl) hv)
  .intro h;cases h with
   | ZX vs e g=>
    refine .ZX vs (by simpa using e) λi a v hi hv=>?_;obtain⟨b,m,rfl⟩:=JJ hi;exact(UD c (d b (Zp m))).2 (g i b v m hv)
 | z u=>exact UD (a:=.z u) c d
 | π l=>exact UD (a:=.π l) c d
 | sl ex k l=>exact UD (a:=.sl ex k l) c d
 | Ν id n i j=>exact UD (a:=.Ν id n i j) c d
 | ms id n i len=>exact UD (a:=.ms id n i len) c d
 | Xu t a=>exact UD (a:=.Xu t a) c d
 | mp id=>exact UD (a:=.mp id) c d
 | it id=>exact UD (a:=.it id) c d
 | Zs=>exact UD (a:=.Zs) c d
end
section
variable {P:Program} {S YB:ο} {B:δ} {H H':Ψ} {σ:Τ}
def VM (r:Row):Prop:=match r with|.cells _ _ l=>∀e∈l,∀a∈e.cells,χ 0 a|_=>False
def LW (r:Row):Prop:=VM r\/r=.dead
theorem Vl.plain {B':δ} {σ':Τ} {r:Row} {bo:Option (Nat×Nat)} (c:VM r) (h:Vl S B σ H r bo) (g:δ) (m:Τ):Vl S g m H r bo:=by
 cases r with
 | cells t k l=>
  cases bo with
  | none=>exact h
  | some x=>
   obtain⟨b,N⟩:=x;obtain⟨n,o,p,w,d⟩:=h;refine⟨n,o,p,w,λi e hi=>⟨(d i e hi).1,λj a f=>?_⟩⟩;obtain⟨s,u,v⟩:=(d i e hi).2 j a f;exact⟨s,u.any (c e (Zp hi) a (Zp f)) _ _,v⟩
 | _=>exact c.elim
theorem Vl.yC {B':δ} {σ':Τ} {r:Row} {bo:Option (Nat×Nat)} (a:LW r) (h:Vl S B σ H r bo) (b:δ) (c:Τ):Vl S b c H r bo:=by
 rcases a with a|rfl
 .exact Vl.plain (B':=B') (σ':=σ') a h b c
 .trivial
theorem Holds.EH (s:Holds S B σ H) {ρ:List Nat} {I:Τ} (az:ρ.Nodup) (ai:ρ.length=I.length) (aj:∀(j i:Nat),ρ[j]?=some i->σ[i]?=I[j]?) (aL:∀r∈I,VM r)
  {d:δ} {σ0:Τ} (C:Ext S (ρ.map λi=>B.getD i none) H YB d H') (aA:Zy S YB (ρ.map λi=>B.getD i none) d I σ0) (V:Holds YB d σ0 H') (aM:∀r∈σ0,LW r) :
  let t:=VN σ ρ σ0++σ0.drop ρ.length
  let m:=VN B ρ d++d.drop ρ.length
  Holds YB m t H'/\Ext S B H YB m H'/\Zy S YB B m σ t/\Names (ρ++(List.range (σ0.length-ρ.length)).map (σ.length + ·)) d σ0 m t:=by
 intro t m;have ak:∀i∈ρ,i<σ.length:=λi hi=>by
  obtain⟨j,a⟩:=Sx hi;have n:j<I.length:=by rw[<-ai];exact(ZB.1 a).1
  have:=aj j i a;rw[ζ n] at this;exact(ZB.1 this).1
 have aa:∀i∈ρ,i<B.length:=λi hi=>by rw[s.len];exact ak i hi
 have aX:ρ.length<=σ0.length:=by rw[ai];exact aA.length
 have aN:d.length=σ0.length:=V.len
 have aO:∀(j i:Nat),ρ[j]?=some i->(ρ.map λi=>B.getD i none)[j]?=B[i]?:=λj i a=>by
  have hi:=aa i (Zp a);rw[Yl,a];simp[hi]
 have al:∀(j i:Nat),ρ[j]?=some i->t[i]?=σ0[j]?:=λj i a=>by
  have hi:=ak i (Zp a)
  have n:j<σ0.length:=by have:=(ZB.1 a).1;omega
  show(VN σ ρ σ0++_)[i]?=_;rw[YL (by rw[P5];exact hi),ζ n];exact EI ρ σ σ0 az ak j i _ a (ζ n)
 have am:∀(j i:Nat),ρ[j]?=some i->m[i]?=d[j]?:=λj i a=>by
  have hi:=aa i (Zp a)
  have n:j<d.length:=by have:=(ZB.1 a).1;omega
  show(VN B ρ d++_)[i]?=_;rw[YL (by rw[P5];exact hi),ζ n];exact EI ρ B d az aa j i _ a (ζ n)
 have an:∀i,i<σ.length->i∉ρ->t[i]?=σ[i]?:=λi hi g=>by
  show(VN σ ρ σ0++_)[i]?=_;rw[YL (by rw[P5];exact hi),HQ ρ _ _ g]
 have ao:∀i,i<σ.length->i∉ρ->m[i]?=B[i]?:=λi hi g=>by
  show(VN B ρ d++_)[i]?=_;rw[YL (by rw[P5,s.len];exact hi),HQ ρ _ _ g]
 have aB:∀x,t[σ.length+x]?=σ0[ρ.length+x]?:=λx=>by
  show(VN σ ρ σ0++_)[_]?=_;rw[XG (by rw[P5];omega),P5,T2];congr 1;omega
 have aC:∀x,m[σ.length+x]?=d[ρ.length+x]?:=λx=>by
  show(VN B ρ d++_)[_]?=_;rw[XG (by rw[P5,s.len];omega),P5,s.len,T2];congr 1;omega
 have W:∀(i:Nat) (r:Row),t[i]?=some r->(i<σ.length/\i∉ρ/\σ[i]?=some r/\m[i]?=B[i]?)\/∃j,σ0[j]?=some r/\m[i]?=d[j]?/\(∀w D,(w<σ.length->ρ[D]?=some w)->(¬w<σ.length->D=ρ.length+(w-σ.length))->j=D->i=w)/\((i<σ.length->ρ[j]?=some i)/\(¬i<σ.length->j=ρ.length+(i-σ.length))):=λi r f=>by
  by_cases hi:i<σ.length
  .by_cases g:i∈ρ
   .obtain⟨j,a⟩:=Sx g;refine .inr ⟨j,by rw[<-al j i a];exact f,am j i a,λw D J p e=>?_,λ_=>a,λh=>absurd hi h⟩;subst e;by_cases X:w<σ.length
    .have:=J X;rw[a] at this;cases this;rfl
    .have:=p X;have:=(ZB.1 a).1;omega
   .exact .inl ⟨hi,g,by rw[<-an i hi g];exact f,ao i hi g⟩
  .have e:i=σ.length+(i-σ.length):=U
   refine .inr ⟨ρ.length+(i-σ.length),by rw[<-aB,<-e];exact f,by rw[<-aC,<-e],λw D J p aY=>?_,λh=>absurd h hi,λ_=>rfl⟩;by_cases X:w<σ.length
   .have:=(ZB.1 (J X)).1;omega
   .have:=p X;omega
 have aD:m.length=t.length:=by
  show(VN B ρ d++d.drop ρ.length).length=(VN σ ρ σ0++σ0.drop ρ.length).length;simp[P5,s.len,aN]
 have aE:Zy S YB B m σ t:=⟨C.YO,λid r f=>by
  have hi:=(ZB.1 f).1;by_cases g:id∈ρ
  .obtain⟨j,a⟩:=Sx g;have aP:I[j]?=some r:=by rw[<-aj j id a];exact f
   obtain⟨r',k,c⟩:=aA.rows j r aP;exact⟨r',by rw[al j id a];exact k,by rw[am j id a,<-aO j id a];exact c⟩
  .exact⟨r,by rw[an id hi g];exact f,by rw[ao id hi g];exact r.Ql _⟩⟩
 have ab:∀b,δ.has (ρ.map λi=>B.getD i none) b->∃j i N,ρ[j]?=some i/\B[i]?=some (some (b,N)):=λb ⟨N,ap⟩=>by
  obtain⟨j,a⟩:=Sx ap;rw[Yl] at a;cases P:ρ[j]? with
  | none=>rw[P] at a;cases a
  | some i=>
   rw[P] at a;simp only[Option.map_some,Qx] at a;have hi:=aa i (Zp P);rw[Xd,ζ hi] at a;exact⟨j,i,N,P,by rw[ζ hi];simpa using a⟩
 have aF:∀(j i:Nat),ρ[j]?=some i->∃r,σ[i]?=some r/\r.live/\VM r:=λj i a=>by
  have n:j<I.length:=by rw[<-ai];exact(ZB.1 a).1
  have f:=ζ n
  have aq:=aL _ (Zp f);refine⟨_,by rw[aj j i a];exact f,?_,aq⟩;cases P:I[j]<;>rw[P] at aq<;>first|trivial|exact aq.elim
 have ad:∀(id:Nat) (r:Row) (b N:Nat),id∉ρ->σ[id]?=some r->r.live->B[id]?=some (some (b,N))->¬δ.has (ρ.map λi=>B.getD i none) b/\¬H.fresh b/\UN H H' b:=λid r b N g f y l=>by
  have Q:¬δ.has (ρ.map λi=>B.getD i none) b:=λar=>by
   obtain⟨j,i,ae,J,p⟩:=ab b ar;obtain⟨r',k,c,_⟩:=aF j i J;exact s.inj id i r r' b N ae (λe=>g (e▸Zp J)) f k y c l p
  have R:=s.SR f y l;exact⟨Q,R,(C.Xv b Q R).Qj λo=>s.sep id r b N f y l o⟩
 refine⟨⟨V.YO,aD,λi r bo f T=>?_,λi j A E b K O aG hi a af ag L M=>?_,λi r b N f y l o=>?_⟩,⟨C.YO,λb l aQ=>?_,λb l=>?_,λb o v hv=>?_,C.grow⟩,aE,⟨λj i a=>?_,λj i a=>?_⟩⟩
 .rcases W i r f with⟨k,c,u,F⟩|⟨j,k,c,_,_⟩
  .by_cases y:r.live
   .rw[F] at T;refine(s.row i r bo u T).later aE (λb N e=>(ad i r b N c u y (by rw[T,e])).2.2) λY left aZ e=>?_;subst e;obtain⟨_,_,a0,a1,xs,a2,seen,_,a3,⟨es,Φ⟩,_⟩:=s.row i _ bo u T;have au:Y∉ρ:=λaR=>by
     obtain⟨j,a⟩:=Sx aR;obtain⟨r',aH,_,aS⟩:=aF j Y a;rw[Φ] at aH;cases aH;exact aS
    have aI:=(ZB.1 Φ).1;exact⟨an Y aI au,ao Y aI au,λb N l=>(ad Y _ b N au Φ trivial l).2.2⟩
   .cases r<;>first|exact absurd trivial y|trivial
  .rw[c] at T;exact(V.row j r bo k T).yC (B':=m) (σ':=t) (aM r (Zp k)) _ _
 .have aJ:∀(i:Nat) (A:Row) (K:Nat) (D:Nat) (E:Row) (O:Nat),i∉ρ->σ[i]?=some A->A.live->B[i]?=some (some (b,K))->σ0[D]?=some E->E.live->d[D]?=some (some (b,O))->False:=λi A K D E O J p aT aU a4 a5 aV=>by
   obtain⟨Q,R,_⟩:=ad i A b K J p aT aU;rcases C.blocks b (Sj aV) with h|h
   .exact Q h
   .exact R h
  rcases W i A hi with⟨k,c,u,F⟩|⟨aK,k,c,u,F⟩<;>rcases W j E a with⟨av,ah,aw,Z⟩|⟨ax,av,ah,aw,Z⟩
  .rw[F] at L;rw[Z] at M;exact s.inj i j A E b K O aG u aw af ag L M
  .rw[F] at L;rw[ah] at M;exact aJ i A K ax E O c u af L av ag M
  .rw[c] at L;rw[Z] at M;exact aJ j E O aK A K ah aw ag M k af L
  .rw[c] at L;rw[ah] at M;refine V.inj aK ax A E b K O (λe=>aG ?_) k av af ag L M;exact u j ax Z.1 Z.2 e
 .rcases W i r f with⟨k,c,u,F⟩|⟨j,k,c,_,_⟩
  .rw[F] at l;obtain⟨Q,R,_⟩:=ad i r b N c u y l;cases hv:YB b o with
   | none=>rfl
   | some v=>
    rcases C.Q2 b o v hv with h|h|h
    .rw[s.sep i r b N u y l o] at h;cases h
    .exact absurd h Q
    .exact absurd h R
  .rw[c] at l;exact V.sep j r b N k y l o
 .refine C.Xv b (λar=>l ?_) aQ;obtain⟨j,i,ae,_,p⟩:=ab b ar;exact Sj p
 .obtain⟨N,ap⟩:=l;obtain⟨i,hi⟩:=Sx ap;have aW:i<t.length:=by rw[<-aD];exact(ZB.1 hi).1
  rcases W i _ (ζ aW) with⟨k,c,u,F⟩|⟨j,k,c,_,_⟩
  .rw[F] at hi;exact .inl (Sj hi)
  .rw[c] at hi;rcases C.blocks b (Sj hi) with h|h
   .obtain⟨j,w,ae,_,p⟩:=ab b h;exact .inl (Sj p)
   .exact .inr h
 .rcases C.Q2 b o v hv with h|h|h
  .exact .inl h
  .obtain⟨j,w,ae,_,p⟩:=ab b h;exact .inr (.inl (Sj p))
  .exact .inr (.inr h)
 .by_cases n:j<ρ.length
  .rw[YL n] at a;exact al j i a
  .rw[XG U,Yl] at a;have ay:j-ρ.length<σ0.length-ρ.length:=by
    apply Va;intro g;rw[S2 (by simp;omega)] at a;cases a
   rw[ζ (by simpa using ay)] at a;simp at a;subst a;rw[aB];congr 1;omega
 .by_cases n:j<ρ.length
  .rw[YL n] at a;exact am j i a
  .rw[XG U,Yl] at a;have ay:j-ρ.length<σ0.length-ρ.length:=by
    apply Va;intro g;rw[S2 (by simp;omega)] at a;cases a
   rw[ζ (by simpa using ay)] at a;simp at a;subst a;rw[aC];congr 1;omega
def names (ρ:List Nat) (n:Nat) (σ0:Τ):List Nat:=ρ++(List.range (σ0.length-ρ.length)).map (n + ·)
def P4 (σ:Τ) (ρ:List Nat) (σ0:Τ):Τ:=VN σ ρ σ0++σ0.drop ρ.length
theorem Ξ.EG {g:FuncId} {as0:ξ} {k:Τ} {K:I->Τ->Prop} {E:I->Τ->Prop} (h:Ξ P g as0 k K E) (ρ:List Nat) (y:ρ.Nodup) (p:ρ.length=k.length) (t:∀(j i:Nat),ρ[j]?=some i->σ[i]?=k[j]?) (A:∀r∈k,VM r)
  (has:∀a∈as0,Xm ρ.length a) {K':I->Τ->Prop} {E':I->Τ->Prop} (aa:∀a s,K a s->(∀r∈s,LW r)/\Xm s.length a/\K' (Ym (names ρ σ.length s) a) (P4 σ ρ s))
  (ab:∀a s,E a s->(∀r∈s,LW r)/\Xm s.length a/\E' (Ym (names ρ σ.length s) a) (P4 σ ρ s)):Ξ P g (as0.map (Ym ρ)) σ K' E':=by
 refine⟨h.1,λad mn x c rest S B H vs ae l hv W=>?_⟩;have af:∀(j i:Nat),ρ[j]?=some i->i<σ.length:=λj i d=>by
  have C:j<k.length:=by rw[<-p];exact(ZB.1 d).1
  have:=t j i d;rw[ζ C] at this;exact(ZB.1 this).1
 have X:∀(j i:Nat),ρ[j]?=some i->(ρ.map λi=>B.getD i none)[j]?=B[i]?:=λj i d=>by
  have hi:i<B.length:=by rw[l.len];exact af j i d
  rw[Yl,d];simp[hi]
 have ag:Names ρ (ρ.map λi=>B.getD i none) k B σ:=⟨t,λj i d=>(X j i d).symm⟩
 have pick:∀(j:Nat) (r:Row) (bo:Option (Nat×Nat)),k[j]?=some r->(ρ.map λi=>B.getD i none)[j]?=some bo->∃i,ρ[j]?=some i/\σ[i]?=some r/\B[i]?=some bo:=λj r bo f D=>by
  have C:j<ρ.length:=by rw[p];exact(ZB.1 f).1
  have d:=ζ C;exact⟨_,d,by rw[t j _ d];exact f,by rw[<-X j _ d];exact D⟩
 have ah:Holds S (ρ.map λi=>B.getD i none) k H:=by
  refine⟨l.YO,by simp[p],λj r bo f D=>?_,λi j Y Z b ai aj ak hi d al am an ao=>?_,λj r b N f ap aq o=>?_⟩
  .obtain⟨i,m,n,u⟩:=pick j r bo f D;exact(l.row i r bo n u).plain (B':=B) (σ':=σ) (A r (Zp f)) _ _
  .obtain⟨ar,m,n,u⟩:=pick i Y _ hi an;obtain⟨au,av,aw,ax⟩:=pick j Z _ d ao;refine l.inj ar au Y Z b ai aj (λe=>ak ?_) n aw al am u ax;subst e;have ay:=(ZB.1 m).1;exact(List.getElem?_inj ay y).1 (m.trans av.symm)
  .obtain⟨i,m,n,u⟩:=pick j r _ f aq;exact l.sep i r b N n ap u o
 refine h.2 ad mn x c rest S _ H vs ae ah ⟨by have:=hv.1;simpa using this,λi a v m n=>(HP ag (has a (Zp m))).1 (hv.2 i _ v (by rw[Yl,m];rfl) n)⟩ ⟨λa σ' YB B' H' v F J w L f=>?_,λa σ' YB B' H' v F J w L f=>?_⟩
 .obtain⟨M,O,Q⟩:=aa a σ' F;obtain⟨R,T,U,V⟩:=l.EH y p t A J w L M;refine W.ret _ _ YB _ H' v Q T U R ((HP V ?_).2 f);have:(ρ++(List.range (σ'.length-ρ.length)).map (σ.length + ·)).length=σ'.length:=by
   have:=w.length;simp;omega
  rw[this];exact O
 .obtain⟨M,O,Q⟩:=ab a σ' F;obtain⟨R,T,U,V⟩:=l.EH y p t A J w L M;refine W.Ns _ _ YB _ H' v Q T U R ((HP V ?_).2 f);have:(ρ++(List.range (σ'.length-ρ.length)).map (σ.length + ·)).length=σ'.length:=by
   have:=w.length;simp;omega
  rw[this];exact O
theorem Ξ.rows {g:FuncId} {as0:ξ} {b:Τ} {K:I->Τ->Prop} {E:I->Τ->Prop} (h:Ξ P g as0 b K E) (ρ:List Nat) (d:ρ.Nodup) (e:ρ.length=b.length) (f:∀(j i:Nat),ρ[j]?=some i->σ[i]?=b[j]?) (k:∀r∈b,VM r)
  (has:∀a∈as0,Xm ρ.length a) {K':I->Τ->Prop} {E':I->Τ->Prop} (l:∀a s,K a s->(∀r∈s,VM r)/\Xm s.length a/\K' (Ym (names ρ σ.length s) a) (P4 σ ρ s))
  (m:∀a s,E a s->(∀r∈s,VM r)/\Xm s.length a/\E' (Ym (names ρ σ.length s) a) (P4 σ ρ s)):Ξ P g (as0.map (Ym ρ)) σ K' E':=
 h.EG ρ d e f k has (λa s x=>let ⟨p,q⟩:=l a s x;⟨λr c=>.inl (p r c),q⟩) (λa s x=>let ⟨p,q⟩:=m a s x;⟨λr c=>.inl (p r c),q⟩)
end
def Y3 (a b:I):Prop:=∀(S:ο) (B:δ) (σ:Τ) (v:Value),Α S B σ a v->Α S B σ b v
def ZO (l m:ξ):Prop:=l.length=m.length/\∀(i:Nat) (a b:I),l[i]?=some a->m[i]?=some b->Y3 a b
theorem Y3.refl (a:I):Y3 a a:=λ_ _ _ _ h=>h
theorem Y3.of {a b:I} (h:a=b):Y3 a b:=h▸.refl a
theorem Y3.trans {a b c:I} (h:Y3 a b) (k:Y3 b c):Y3 a c:=λS B σ v x=>k S B σ v (h S B σ v x)
theorem Y3.Zs (a:I):Y3 a .Zs:=λ_ _ _ v _=>.Zs v
theorem ZO.refl (l:ξ):ZO l l:=⟨rfl,λi a b h k=>by rw[h] at k;cases k;exact .refl a⟩
theorem ZO.nil:ZO [] []:=.refl []
theorem ZO.cons {a b:I} {l m:ξ} (h:Y3 a b) (k:ZO l m):ZO (a::l) (b::m):=⟨by simp[k.1],λi x y c d=>by
 cases i with
 | zero=>simp at c d;subst c;subst d;exact h
 | succ i=>exact k.2 i x y (by simpa using c) (by simpa using d)⟩
theorem Y3.Z7 {l m:ξ} (h:ZO l m):Y3 (.Z7 l) (.Z7 m):=λS B σ v x=>by
 cases x with
 | Z7 vs c d=>
  refine .Z7 vs (h.1.symm.trans c) λi b v hi hv=>?_;have e:i<l.length:=by rw[h.1];exact(ZB.1 hi).1
  have a:=ζ e;exact h.2 i _ b a hi S B σ v (d i _ v a hv)
theorem Y3.ZX {l m:ξ} (h:ZO l m):Y3 (.ZX l) (.ZX m):=λS B σ v x=>by
 cases x with
 | ZX vs c d=>
  refine .ZX vs (h.1.symm.trans c) λi b v hi hv=>?_;have e:i<l.length:=by rw[h.1];exact(ZB.1 hi).1
  have a:=ζ e;exact h.2 i _ b a hi S B σ v (d i _ v a hv)
theorem Y3.sl {e:Bool} {k:Nat} {l m:ξ} (p:l.length=m.length) (h:∀(i:Nat) (a b:I),l[i]?=some a->m[i]?=some b->ZO a.cells b.cells):Y3 (.sl e k l) (.sl false k m):=λS B σ v x=>by
 have r:∀(i:Nat) (b:I),m[i]?=some b->∃a,l[i]?=some a/\ZO a.cells b.cells:=λi b hi=>by
  have d:i<l.length:=by rw[p];exact(ZB.1 hi).1
  exact⟨_,ζ d,h i _ b (ζ d) hi⟩
 cases x with
 | Wk base cap s=>
  have:m=[]:=YR.1 p.symm;subst this;exact .Wk base cap λx=>by cases x
 | sl b o cap w C D t u A=>
  rw[p];refine .sl b o cap w (λx=>by cases x) U (λi y hi=>?_) (λi y hi j c n=>?_) (λi y hi j c n=>?_)
  .obtain⟨a,g,f⟩:=r i y hi;rw[<-f.1];exact t i a g
  .obtain⟨a,g,f⟩:=r i y hi;have d:j<a.cells.length:=by rw[f.1];exact(ZB.1 n).1
   exact u i a g j _ (ζ d)
  .obtain⟨a,g,f⟩:=r i y hi;have d:j<a.cells.length:=by rw[f.1];exact(ZB.1 n).1
   have s:=ζ d;exact f.2 j _ c s n S B σ _ (A i a g j _ s)
theorem Y3.ex {e:Bool} {k:Nat} {l:ξ}:Y3 (.sl e k l) (.sl false k l):=.sl rfl λi a b d c=>by rw[d] at c;cases c;exact .refl _
theorem Y3.nil {e:Bool} {k a:Nat}:Y3 (.sl e k []) (.sl false a []):=λS B σ v x=>by
 have g:∀(l:ξ),l=[]->Α S B σ (.sl e k l) v->Α S B σ (.sl false a []) v:=λl c x=>by
  cases x with
  | Wk base cap d=>exact .Wk base cap λx=>by cases x
  | sl b o cap w f h i j m=>subst c;exact .Wk _ cap λx=>by cases x
 exact g [] rfl x
theorem Y3.map {m:Type} {f g:m->I} {e:Bool} {k:Nat} {l:List m} (h:∀x∈l,ZO (f x).cells (g x).cells):Y3 (.sl e k (l.map f)) (.sl false k (l.map g)):=.sl J λi a b c d=>by
 rw[Yl] at c d;cases j:l[i]? with
 | none=>rw[j] at c;cases c
 | some x=>rw[j] at c d;cases c;cases d;exact h x (Zp j)
theorem ZO.one {a b:I} (h:Y3 a b) (c:a.cells=[a]) (d:b.cells=[b]):ZO a.cells b.cells:=by rw[c,d];exact .cons h .nil
section
variable {P:Program} {σ:Τ}
theorem XN.Nu {S:ο} {B:δ} {l m:ξ} {vs:Array Value} (h:ZO l m) (k:XN S B σ l vs):XN S B σ m vs:=⟨h.1.symm.trans k.1,λi b v hi hv=>by
 have c:i<l.length:=by rw[h.1];exact(ZB.1 hi).1
 have a:=ζ c;exact h.2 i _ b a hi S B σ v (k.2 i _ v a hv)⟩
theorem Ξ.TP {g:FuncId} {args d:ξ} {K K' E:I->Τ->Prop} (h:Ξ P g args σ K E) (i:ZO d args) (j:∀a s,K a s->∃b,Y3 a b/\K' b s):Ξ P g d σ K' E:=
 ⟨h.1,λk mn x c rest S B H vs l m hv e=>h.2 k mn x c rest S B H vs l m (hv.Nu i) ⟨λa σ' f B' H' v n o p r t=>by
  obtain⟨b,u,w⟩:=j a σ' n;exact e.ret b σ' f B' H' v w o p r (u f B' σ' v t),e.Ns⟩⟩
def Κ (P:Program) (g:FuncId) (args:ξ) (r:I):Prop:=Ξ P g args [] (λa s=>Y3 a r/\s=[]) (λ_ _=>False)
theorem Κ.ct {g:FuncId} {args b:ξ} {r:I} (h:Κ P g args r) (c:ZO b args):L1 P g b r:=Ξ.TP h c λa s ⟨d,e⟩=>⟨r,d,rfl,e⟩
theorem Κ.c {g:FuncId} {args b:ξ} {r:I} {K E:I->Τ->Prop} (h:Κ P g args r) (d:ZO b args) (e:∀a∈b,χ 0 a) (f:χ 0 r) (i:K r σ):WO P (.fn (.func g) [] []) b σ K E:=
 L1.call (first:=[]) (captured:=[]) (by simpa using h.ct d) (by simpa using e) f i
theorem Κ.p {g:FuncId} {args b:ξ} {r:I} (h:Κ P g args r) (d:ZO b args) (e:∀a∈b,χ 0 a) (f:χ 0 r):XD P (.fn (.func g) [] []) b r:=λ_=>h.c d e f ⟨rfl,rfl⟩
theorem Κ.d {g:FuncId} {args:ξ} {r:I} {K E:I->Τ->Prop} (h:Κ P g args r) (b:K r σ) (e:∀a∈args,χ 0 a:=by simp) (f:χ 0 r:=by simp):WO P (.fn (.func g) [] []) args σ K E:=h.c (ZO.refl _) e f b
theorem Κ.q {g:FuncId} {args:ξ} {r:I} (h:Κ P g args r) (b:∀a∈args,χ 0 a:=by simp) (c:χ 0 r:=by simp):XD P (.fn (.func g) [] []) args r:=h.p (ZO.refl _) b c
theorem Κ.cc {g:FuncId} {args b first captured:ξ} {r:I} {K E:I->Τ->Prop} (h:Κ P g args r) (c:ZO (first++b++captured) args) (d:∀a∈first++b++captured,χ 0 a) (e:χ 0 r) (f:K r σ):WO P (.fn (.func g) first captured) b σ K E:=
 L1.call (h.ct c) d e f
end
theorem Yr.own {h id n k:Nat} {σ:Τ} {t:TypeId} {l:ξ} (i:h<=id) (m:σ[id]?=some (.cells t k l)) (d:l.length=n) (o:∀e∈l,∀a∈e.cells,χ h a):Yr h σ (.ms id n 0 n) (.sl false k l):=by
 refine .ms i m d U d (λj e p b c=>?_) (λj e p b c x a r f g=>?_)
 .rw[U'] at b;rw[b] at c;cases c;rfl
 .rw[U'] at b;rw[b] at c;cases c;rw[f] at g;cases g;exact .low (o e (Zp b) a (Zp f))
def fill {a:Type} (f:a->I) (z:I) (l:List a) (i:Nat):ξ:=(l.take i).map f++List.replicate (l.length-i) z
theorem EF {a:Type} (f:a->I) (z:I) (l:List a):fill f z l 0=List.replicate l.length z:=by simp[fill]
theorem EE {a:Type} (f:a->I) (z:I) (l:List a) {i:Nat} (h:l.length<=i):fill f z l i=l.map f:=by simp[fill,US h,Nat.sub_eq_zero_of_le h]
theorem ED {a:Type} (f:a->I) (z:I) (l:List a) {i:Nat} (h:i<=l.length):(fill f z l i).length=l.length:=by simp[fill];omega
theorem yB {a:Type} (f:a->I) (z:I) (l:List a) {i:Nat} (h:i<l.length):(fill f z l i)[i]?=some z:=by
 unfold fill;rw[XG (by simp;omega),ME];rw[if_pos (by simp;omega)]
theorem EC {a:Type} (f:a->I) (z:I) (l:List a) {i:Nat} (h:i<l.length):(fill f z l i).set i (f l[i])=fill f z l (i+1):=by
 unfold fill;have b:l.length-i=(l.length-(i+1))+1:=U;have Φ:((l.take i).map f).length=i:=by simp;omega
 rw[b,List.replicate_succ,PF _ _ U,Φ,PB,List.set_cons_zero,Wp h,XR,Ur];rfl
end Go.TL
namespace Go.TL
open Go.Proofs.Tryz
open Go.Proofs
variable [ZV]
def HO (P:Program) (t:TypeId):Option (List (TypeDesc×Nat)):=
 if P.eqGuardType P.depth t=false then match P.underlying t with
  | some (.struct a)=>if P.stoodInHeld t=false/\a.toList.map (·.offset)=List.range a.toList.length/\(a.toList.all λf=>f.name != "_" && match P.underlying f.type with|some d=>VQ d|none=>false)=true then some (a.toList.map λf=>((P.underlying f.type).getD .invalid,f.offset)) else none
  | some (.array n e)=>match P.underlying e,P.info? e with
   | some d,some f=>if VQ d=true/\f.size=1 then some ((List.range n).map λi=>(d,i)) else none
   | _,_=>none
  | _=>none
 else none
theorem yA (P:Program) (t:TypeId):Ie P t (HO P t):=by
 unfold HO;split
 .rename_i g;split
  .rename_i h b;split
   .rename_i a;refine⟨g,by rw[Qt,Yh];exact a.2.1,.inl ⟨h,b,a.1,rfl,λf c=>?_⟩⟩;have:=WU.1 a.2.2 f c;simp only[V9,bne_iff_ne,ne_eq] at this;refine⟨this.1,?_⟩;cases hd:P.underlying f.type with
    | none=>rw[hd] at this;simp at this
    | some d=>rw[hd] at this;exact⟨d,rfl,this.2⟩
   .trivial
  .rename_i n e b;split
   .rename_i d f hd c;split
    .rename_i a;exact⟨g,by rw[Qt,Yh,List.length_range];exact(MC λ_ _=>rfl).trans (List.map_id _),.inr ⟨n,e,d,f,b,hd,a.1,c,a.2,rfl⟩⟩
    .trivial
   .trivial
  .trivial
 .trivial
def ZZ.of (P:Program):ZZ:=λt=>match P.underlying t,P.info? t with
 | some d,some i=>match i.zero with|some z=>some ⟨i.size,d,z,i.bytes,HO P t⟩|none=>none
 | _,_=>none
theorem ZZ.JI (P:Program):ZE P (ZZ.of P):=λt i h=>by
 unfold ZZ.of at h;split at h
 .rename_i d f hd a;split at h
  .rename_i z b;cases h;exact⟨⟨hd,yA P t⟩,f,a,rfl,b,rfl⟩
  .cases h
 .cases h
noncomputable def Z2:ZZ:=ZZ.of prog
theorem Ρ:ZE prog Z2:=ZZ.JI _
def Po (b:List (Nat×Nat)) (a:Value) (c:I->Bool) (parts:List (Nat×I)):Zl:=
 match QY (λx=>(b[x]?).map λp=>(0,p.1,p.2)) (WG a).cells.length c [WG a] parts with
 | some [e]=>.ok (.Z7 e.cells)
 | _=>.bad
def LV (es:Nat) (a:Value) (b:I->Bool) (parts:List (Nat×I)):Zl:=
 match QY (λx=>some (0,x*es,es)) (WG a).cells.length b [WG a] parts with
 | some [e]=>.ok (.Z7 e.cells)
 | _=>.bad
theorem mixed:prog.follows .mixedOrders=true:=by kernel_rfl
section
variable {P:Program} {m nt:Nat} {k:List Item} {env:Ζ} {σ:Τ} {Z:X9} {E:Yn}
theorem W.iter {ι:Type} {c:Code} (Inv:ι->Prop) (b:ι->Ζ) (e:ι->Τ) (f:ι->Nat) (d:ι) (g:Inv d) (j:σ=e d) (l:∀p∈b d,Z' env p.1=p.2)
  (step:∀i,Inv i->(∀a,Inv a->f a<f i->W P m nt (.inLoop c::k) (b a) (e a) Z E)->W P m nt (.code c::.inLoop c::k) (b i) (e i) Z E):W P m nt (.code (.loop c)::k) env σ Z E:=by
 refine .loop (.forget (b d) l ?_);rw[j];have o:∀(n:Nat) (i:ι),f i<n->Inv i->W P m nt (.code c::.inLoop c::k) (b i) (e i) Z E:=by
  intro n
  induction n with
  | zero=>intro i h;omega
  | succ n r=>intro i hi s;exact step i s λa t u=>.inLoop (r a U t)
 exact o _ d (Qv _) g
end
section
variable {P:Program} {m nt:Nat} {k:List Item} {env:Ζ} {σ:Τ} {Z:X9} {E:Yn}
theorem W.YM {c:Operand} {a e:Code} {v:Bool} (b:κ env c=.z (.bool v)) (d:v=true->W P m nt (.code a::k) env σ Z E) (f:v=false->W P m nt (.code e::k) env σ Z E):W P m nt (.code (.cond c a e)::k) env σ Z E:=by
 refine .cond b ?_;cases v with
 | true=>exact d rfl
 | false=>exact f rfl
theorem Ε {c:Operand} {a e:Code} (b:κ env c=.z (.bool true)) (h:W P m nt (.code a::k) env σ Z E):W P m nt (.code (.cond c a e)::k) env σ Z E:=.cond b h
theorem Η {c:Operand} {a e:Code} (b:κ env c=.z (.bool false)) (h:W P m nt (.code e::k) env σ Z E):W P m nt (.code (.cond c a e)::k) env σ Z E:=.cond b h
theorem Ξ.body {F:I->Τ->Prop} {T:ZZ} (d:ZE P T) {g:FuncId} {fn:Func} {b:Code} (e:P.funcs[g]?=some fn) (f:fn.body=some b) (i:(fn.name == "runtime.NumGoroutine")=false) {args:ξ} {K:I->Τ->Prop} {c:List ResultVar} (j:fn.ntmps=nt) (k:σ.length=m) (l:fn.results.toList=c) (n:args.length<=nt)
  (h:W P m nt [.code b] (entry 0 args) σ (Ends T c K) (λa _ s=>F a s)):Ξ P g args σ K F:=by
 subst j;subst k;subst l;exact .y2 d e f i n h
end
abbrev R (i:Int):I:=.z (.int .i64 i)
abbrev ε (b:Bool):I:=.z (.bool b)
abbrev ν {a:Type} (enc:a->I) (k:Nat) (l:List a):I:=.sl false k (l.map enc)
abbrev TO (b:ByteArray):I:=.z (.string b)
@[simp] theorem qa (x y:Int):(x==y)=decide (x=y):=by rw[OR];simp
@[simp] theorem p' (a b:Nat):((a:Int)=(b:Int))↔a=b:=U
attribute [simp] y1 y0 JV yZ yY YN yX Uf
attribute [congr] za y8 y7 or_congr yS yR
attribute [simp] idx zc zb y' y9 Si Pr yQ yK yJ yP yO yN yM yL Oo VO Wy Zl.or Zl.YE Y6.holds XT W2 Zz Z' κ WG Mg entry RD Qe Nt J7 Qi ND Nv Nz Ku Ny Ks Kt Po QY I.Qh I.YH I.Nw LV Q0 Wj.agg KD SQ KB SP Kz SO
 Kh Kg Kj Ki RE KF KE Kf Kx Qg Kl RF Ma L' Kr Qd J3 Ps L4 L3 J6 J4 J5 Ot J1 J2 Ou aeqv Vk TT Ov Wz SN SM HY Kc L5 Kb Ka J' J8 J9 L9 Kp Kq I.cells RB Qa JX Ends Qb Nr
@[simp] theorem p9 {k:IntKind}:UE (.int k)=false:=rfl
@[simp] theorem p8:UE .bool=false:=rfl
@[simp] theorem p7:UE .string=false:=rfl
@[simp] theorem p6 {e:TypeId}:UE (.slice e)=false:=rfl
@[simp] theorem p5 {a b:TypeId}:UE (.map a b)=false:=rfl
@[simp] theorem p1 {a:TypeId}:UE (.pointer a)=false:=rfl
@[simp] theorem p0 {n:Nat} {a:TypeId}:UE (.array n a)=true:=rfl
theorem yz {P:Nat->Prop} (n:Nat) (h:n<256) (a:∀m,m<256->P m):P n:=a n h
section
variable {m nt l:Nat} {a c:Code} {k:List Item} {env:Ζ} {σ:Τ} {Z:X9} {E:Yn}
class Nm [ZV] (k:List Item) (a:outParam (List Item)):Prop where
 h:∀{P:Program} {m nt:Nat} {env:Ζ} {σ:Τ} {Z:X9} {E:Yn},W P m nt a env σ Z E->W P m nt k env σ Z E
instance:Nm (.code (.seq a c)::k) (.code a::.code c::k):=⟨.seq⟩
instance:Nm (.code (.block l c)::k) (.code c::.inBlock l::k):=⟨.block⟩
instance:Nm (.inBlock l::k) k:=⟨.inBlock⟩
instance:Nm (.code .skip::k) k:=⟨.skip⟩
theorem Ο {P:Program} {a:List Item} [Nm k a] (h:W P m nt a env σ Z E):W P m nt k env σ Z E:=Nm.h h
theorem W7 {P:Program} (h:W P m nt (.code a::.code c::k) env σ Z E):W P m nt (.code (.seq a c)::k) env σ Z E:=.seq h
theorem wb {P:Program} (h:W P m nt (.code c::.inBlock l::k) env σ Z E):W P m nt (.code (.block l c)::k) env σ Z E:=.block h
theorem WN {P:Program} (h:W P m nt k env σ Z E):W P m nt (.inBlock l::k) env σ Z E:=.inBlock h
theorem wd {P:Program} (h:W P m nt k env σ Z E):W P m nt (.code .skip::k) env σ Z E:=.skip h
theorem YX {id:Nat} {ops:Array Oper} (h:∀a:Ζ->Τ->Prop,(∀env σ,W prog m nt k env σ Z E->a env σ)->run prog Z2 [] nt ops (idx ops.size []) env σ a E):W prog m nt (.code (.region id ops false)::k) env σ Z E:=Y4 Ρ h
end
theorem W.rt {P:Program} {T:ZZ} {b:List ResultVar} {K:I->Τ->Prop} {m nt:Nat} {k:List Item} {env:Ζ} {σ:Τ} {E:Yn} {a:I} {p:Prop} {s:Τ} (h:p) (e:RB T b env σ=some a:=by exact rfl) (c:K a σ=(p/\s=s):=by exact rfl):W P m nt (.code .ret::k) env σ (Ends T b K) E:=.ret ⟨a,e,c▸⟨h,rfl⟩⟩
end Go.TL
namespace Go.TL
open Go.Proofs.Tryz
open Go.Proofs
theorem Υ {a b:Prop} (x:a) (y:b):a/\b:=⟨x,y⟩
theorem Y5 {p q:Prop} (k:q) (h:q->p:=by intro k;(repeat (first|apply Ο|apply W7|apply wb|apply WN|apply wd));exact k):p:=h k
theorem Χ {p q:Prop} (k:q) (h:q->p:=by intro k;(repeat (first|apply Ο|apply W7|apply wb|apply WN|apply wd|(refine YX λb a=>?_;simp;(repeat (rw[Μ];simp));apply a)));exact k):p:=h k
theorem Ι {p f:Prop} {q:f->Prop} (a:f) (k:q a) (h:∀a,q a->p:=by intro b k;(repeat (first|apply Ο|apply W7|apply wb|apply WN|apply wd|(refine YX λd c=>?_;simp;(repeat (rw[Μ];simp[b]));apply c)));exact k):p:=h a k
theorem WE {p q:Prop} (k:q) (h:q->p:=by intro k;(repeat (first|apply Ο|apply W7|apply wb|apply WN|apply wd|refine Ε rfl ?_|refine Η rfl ?_|(refine YX λb a=>?_;simp;(repeat (rw[Μ];simp));apply a)));exact k):p:=h k
theorem WC {p f:Prop} {q:f->Prop} (a:f) (k:q a) (h:∀a,q a->p:=by intro b k;(repeat (first|apply Ο|apply W7|apply wb|apply WN|apply wd|refine Ε rfl ?_|refine Η rfl ?_|(refine YX λd c=>?_;simp;(repeat (rw[Μ];simp[b]));apply c)));exact k):p:=h a k
theorem WB {p q:Prop} (k:q) (h:q->p:=by intro k;refine YX λb a=>?_;simp;(repeat (rw[Μ];simp));apply a;exact k):p:=h k
theorem P3 {p f:Prop} {q:f->Prop} (a:f) (k:q a) (h:∀a,q a->p:=by intro b k;refine YX λd c=>?_;simp;(repeat (rw[Μ];simp[b]));apply c;exact k):p:=h a k
theorem ZU {p:Prop} {H:(Ζ->Τ->Prop)->Prop} {q:∀K,H K->Prop} (k:∀K h,q K h) (h:(∀K h,q K h)->p:=by intro k;(repeat (first|apply Ο|apply W7|apply wb|apply WN|apply wd));refine YX λa b=>?_;simp;(repeat (rw[Μ];simp));exact k a b):p:=h k
theorem XM {p f:Prop} {H:(Ζ->Τ->Prop)->Prop} {q:f->∀K,H K->Prop} (a:f) (k:∀K h,q a K h) (h:∀a,(∀K h,q a K h)->p:=by intro b k;(repeat (first|apply Ο|apply W7|apply wb|apply WN|apply wd));refine YX λc d=>?_;simp;(repeat (rw[Μ];simp[b]));exact k c d):p:=h a k
theorem Z1 {p q:Prop} (k:q) (h:q->p:=by intro k;simp;(repeat (rw[Μ];simp));exact k):p:=h k
theorem XC {p f:Prop} {q:f->Prop} (a:f) (k:q a) (h:∀a,q a->p:=by intro b k;simp[b];(repeat (rw[Μ];simp[b]));exact k):p:=h a k
theorem U5 {p q:Prop} (k:q) (h:q->p:=by intro k;simp;(repeat (rw[ZL];simp));(try rw[ZM]);exact k):p:=h k
theorem Vj {p f:Prop} {q:f->Prop} (a:f) (k:q a) (h:∀a,q a->p:=by intro b k;simp[b];(repeat (rw[ZL];simp[b]));(try rw[ZM]);exact k):p:=h a k
theorem YG {a b:Prop} (k:b) (h:a:=by exact Yw (by kernel_rfl)):a/\b:=⟨h,k⟩
theorem Pn {p q:Prop} (k:q) (h:q->p:=by intro k;refine W.draw (A:=[]) Ρ mixed λb a=>?_;simp;(repeat (rw[ZL];simp));(try rw[ZM]);refine YG (a _ _ ?_);exact k):p:=h k
theorem W0 {p f:Prop} {q:f->Prop} (a:f) (k:q a) (h:∀a,q a->p:=by intro b k;refine W.draw (A:=[]) Ρ mixed λd c=>?_;simp;(repeat (rw[ZL];simp[b]));(try rw[ZM]);refine YG (c _ _ ?_);exact k):p:=h a k
end Go.TL
namespace Go.TL
open Go.Proofs.Tryz
open Go.Proofs
variable [ZV]
@[simp] theorem t3:Z2 3=some ⟨1,.int .i64,.int .i64 0,8,none⟩:=by kernel_rfl
@[simp] theorem t4:Z2 4=some ⟨1,.bool,.bool false,1,none⟩:=by kernel_rfl
@[simp] theorem t5:Z2 5=some ⟨1,.int .u8,.int .u8 0,1,none⟩:=by kernel_rfl
@[simp] theorem t9:Z2 9=some ⟨1,.string,.string ⟨#[]⟩,16,none⟩:=by kernel_rfl
@[simp] theorem t21:Z2 21=some ⟨1,.int .i32,.int .i32 0,4,none⟩:=by kernel_rfl
@[simp] theorem t22:Z2 22=some ⟨1,.slice 77,.slice none 0 0,24,none⟩:=by kernel_rfl
@[simp] theorem pZ:WQ Z2 22=some (77,2,none):=by kernel_rfl
@[simp] theorem t23:Z2 23=some ⟨1,.slice 29,.slice none 0 0,24,none⟩:=by kernel_rfl
@[simp] theorem pY:WQ Z2 23=some (29,1,none):=by kernel_rfl
@[simp] theorem t24:Z2 24=some ⟨1,.slice 60,.slice none 0 0,24,none⟩:=by kernel_rfl
@[simp] theorem pX:WQ Z2 24=some (60,1,none):=by kernel_rfl
noncomputable def EB:TypeDesc:=((Z2 26).getD ⟨0,.bool,.nilFunc,0,none⟩).ZJ
@[simp] theorem t26:Z2 26=some ⟨3,EB,.agg #[.slice none 0 0,.slice none 0 0,.slice none 0 0],72,none⟩:=by kernel_rfl
@[simp] theorem pW:UE EB=true:=by kernel_rfl
@[simp] theorem pV:Xt Z2 26 0=some (0,22):=by kernel_rfl
@[simp] theorem pU:Xt Z2 26 1=some (1,23):=by kernel_rfl
@[simp] theorem pT:Xt Z2 26 2=some (2,24):=by kernel_rfl
@[simp] theorem pS (a:I->Bool) (b:List (Nat×I)):TU Z2 a 26 b=Po [(0,1),(1,1),(2,1)] (.agg #[.slice none 0 0,.slice none 0 0,.slice none 0 0]) a b:=by kernel_rfl
noncomputable def HN:TypeDesc:=((Z2 28).getD ⟨0,.bool,.nilFunc,0,none⟩).ZJ
@[simp] theorem t28:Z2 28=some ⟨3,HN,.agg #[.int .i64 0,.int .i64 0,.int .i64 0],24,some [(.int .i64,0),(.int .i64,1),(.int .i64,2)]⟩:=by kernel_rfl
@[simp] theorem pR:UE HN=true:=by kernel_rfl
@[simp] theorem pQ:Xt Z2 28 0=some (0,3):=by kernel_rfl
@[simp] theorem pP:Xt Z2 28 1=some (1,3):=by kernel_rfl
@[simp] theorem pO:Xt Z2 28 2=some (2,3):=by kernel_rfl
@[simp] theorem pN (a:I->Bool) (b:List (Nat×I)):TU Z2 a 28 b=Po [(0,1),(1,1),(2,1)] (.agg #[.int .i64 0,.int .i64 0,.int .i64 0]) a b:=by kernel_rfl
@[simp] theorem t29:Z2 29=some ⟨1,.slice 3,.slice none 0 0,24,none⟩:=by kernel_rfl
@[simp] theorem pM:WQ Z2 29=some (3,1,none):=by kernel_rfl
@[simp] theorem t34:Z2 34=some ⟨1,.slice 26,.slice none 0 0,24,none⟩:=by kernel_rfl
@[simp] theorem pL:WQ Z2 34=some (26,3,none):=by kernel_rfl
@[simp] theorem t38:Z2 38=some ⟨1,.int .i64,.int .i64 0,8,none⟩:=by kernel_rfl
@[simp] theorem t60:Z2 60=some ⟨1,.slice 28,.slice none 0 0,24,none⟩:=by kernel_rfl
@[simp] theorem pK:WQ Z2 60=some (28,3,none):=by kernel_rfl
@[simp] theorem t65:Z2 65=some ⟨1,.slice 23,.slice none 0 0,24,none⟩:=by kernel_rfl
@[simp] theorem pJ:WQ Z2 65=some (23,1,none):=by kernel_rfl
noncomputable def EA:TypeDesc:=((Z2 72).getD ⟨0,.bool,.nilFunc,0,none⟩).ZJ
@[simp] theorem t72:Z2 72=some ⟨1,EA,.nilFunc,8,none⟩:=by kernel_rfl
@[simp] theorem pI:UE EA=false:=by kernel_rfl
noncomputable def HM:TypeDesc:=((Z2 77).getD ⟨0,.bool,.nilFunc,0,none⟩).ZJ
@[simp] theorem t77:Z2 77=some ⟨2,HM,.agg #[.string ⟨#[]⟩,.int .i64 0],24,some [(.string,0),(.int .i64,1)]⟩:=by kernel_rfl
@[simp] theorem pH:UE HM=true:=by kernel_rfl
@[simp] theorem pG:Xt Z2 77 0=some (0,9):=by kernel_rfl
@[simp] theorem pF:Xt Z2 77 1=some (1,3):=by kernel_rfl
@[simp] theorem pE (a:I->Bool) (b:List (Nat×I)):TU Z2 a 77 b=Po [(0,1),(1,1)] (.agg #[.string ⟨#[]⟩,.int .i64 0]) a b:=by kernel_rfl
@[simp] theorem t91:Z2 91=some ⟨1,.int .u64,.int .u64 0,8,none⟩:=by kernel_rfl
@[simp] theorem pD:Xt Z2 93 0=some (0,29):=by kernel_rfl
@[simp] theorem pC:Xt Z2 93 1=some (1,91):=by kernel_rfl
@[simp] theorem pB (a:I->Bool) (b:List (Nat×I)):TU Z2 a 93 b=Po [(0,1),(1,1)] (.agg #[.slice none 0 0,.int .u64 0]) a b:=by kernel_rfl
@[simp] theorem t95:Z2 95=some ⟨1,.int .u64,.int .u64 0,8,none⟩:=by kernel_rfl
noncomputable def Ez:TypeDesc:=((Z2 98).getD ⟨0,.bool,.nilFunc,0,none⟩).ZJ
@[simp] theorem t98:Z2 98=some ⟨3,Ez,.agg #[.slice none 0 0,.slice none 0 0,.slice none 0 0],72,none⟩:=by kernel_rfl
@[simp] theorem pA:UE Ez=true:=by kernel_rfl
@[simp] theorem pz:Xt Z2 98 0=some (0,26):=by kernel_rfl
@[simp] theorem py (a:I->Bool) (b:List (Nat×I)):TU Z2 a 98 b=Po [(0,3)] (.agg #[.slice none 0 0,.slice none 0 0,.slice none 0 0]) a b:=by kernel_rfl
@[simp] theorem t99:Z2 99=some ⟨1,.slice 110,.slice none 0 0,24,none⟩:=by kernel_rfl
@[simp] theorem px:WQ Z2 99=some (110,3,none):=by kernel_rfl
@[simp] theorem t102:Z2 102=some ⟨2,.array 2 3,.agg #[.int .i64 0,.int .i64 0],16,some [(.int .i64,0),(.int .i64,1)]⟩:=by kernel_rfl
@[simp] theorem pw:WQ Z2 102=some (3,1,some 2):=by kernel_rfl
@[simp] theorem pv (a:I->Bool) (b:List (Nat×I)):TU Z2 a 102 b=LV 1 (.agg #[.int .i64 0,.int .i64 0]) a b:=by kernel_rfl
noncomputable def yy:TypeDesc:=((Z2 104).getD ⟨0,.bool,.nilFunc,0,none⟩).ZJ
@[simp] theorem t104:Z2 104=some ⟨4,yy,.agg #[.int .i64 0,.int .i64 0,.int .i64 0,.bool false],32,none⟩:=by kernel_rfl
@[simp] theorem pt:Xt Z2 104 0=some (0,102):=by kernel_rfl
@[simp] theorem ps:Xt Z2 104 1=some (2,3):=by kernel_rfl
@[simp] theorem pq:Xt Z2 104 2=some (3,4):=by kernel_rfl
@[simp] theorem t106:Z2 106=some ⟨1,.map 113 3,.map none,8,none⟩:=by kernel_rfl
@[simp] theorem t107:Z2 107=some ⟨2,.array 2 3,.agg #[.int .i64 0,.int .i64 0],16,some [(.int .i64,0),(.int .i64,1)]⟩:=by kernel_rfl
@[simp] theorem po (a:I->Bool) (b:List (Nat×I)):TU Z2 a 107 b=LV 1 (.agg #[.int .i64 0,.int .i64 0]) a b:=by kernel_rfl
@[simp] theorem t108:Z2 108=some ⟨1,.slice 111,.slice none 0 0,24,none⟩:=by kernel_rfl
@[simp] theorem pn:WQ Z2 108=some (111,1,none):=by kernel_rfl
noncomputable def HL:TypeDesc:=((Z2 110).getD ⟨0,.bool,.nilFunc,0,none⟩).ZJ
@[simp] theorem t110:Z2 110=some ⟨3,HL,.agg #[.int .i64 0,.int .i64 0,.slice none 0 0],40,none⟩:=by kernel_rfl
@[simp] theorem pk:UE HL=true:=by kernel_rfl
@[simp] theorem pj:Xt Z2 110 0=some (0,107):=by kernel_rfl
@[simp] theorem ph:Xt Z2 110 1=some (2,108):=by kernel_rfl
@[simp] theorem pg (a:I->Bool) (b:List (Nat×I)):TU Z2 a 110 b=Po [(0,2),(2,1)] (.agg #[.int .i64 0,.int .i64 0,.slice none 0 0]) a b:=by kernel_rfl
@[simp] theorem t111:Z2 111=some ⟨1,.slice 112,.slice none 0 0,24,none⟩:=by kernel_rfl
@[simp] theorem pf:WQ Z2 111=some (112,2,none):=by kernel_rfl
@[simp] theorem t112:Z2 112=some ⟨2,.array 2 3,.agg #[.int .i64 0,.int .i64 0],16,some [(.int .i64,0),(.int .i64,1)]⟩:=by kernel_rfl
@[simp] theorem pe:WQ Z2 112=some (3,1,some 2):=by kernel_rfl
@[simp] theorem pd (a:I->Bool) (b:List (Nat×I)):TU Z2 a 112 b=LV 1 (.agg #[.int .i64 0,.int .i64 0]) a b:=by kernel_rfl
@[simp] theorem t113:Z2 113=some ⟨1,.int .i64,.int .i64 0,8,none⟩:=by kernel_rfl
@[simp] theorem t116:Z2 116=some ⟨1,.slice 147,.slice none 0 0,24,none⟩:=by kernel_rfl
@[simp] theorem pb:WQ Z2 116=some (147,2,none):=by kernel_rfl
@[simp] theorem t132:Z2 132=some ⟨1,.slice 21,.slice none 0 0,24,none⟩:=by kernel_rfl
@[simp] theorem pa:WQ Z2 132=some (21,1,none):=by kernel_rfl
@[simp] theorem t139:Z2 139=some ⟨3,.array 3 72,.agg #[.nilFunc,.nilFunc,.nilFunc],24,none⟩:=by kernel_rfl
@[simp] theorem o9 (a:I->Bool) (b:List (Nat×I)):TU Z2 a 139 b=LV 1 (.agg #[.nilFunc,.nilFunc,.nilFunc]) a b:=by kernel_rfl
noncomputable def HK:TypeDesc:=((Z2 147).getD ⟨0,.bool,.nilFunc,0,none⟩).ZJ
@[simp] theorem t147:Z2 147=some ⟨2,HK,.agg #[.slice none 0 0,.slice none 0 0],48,none⟩:=by kernel_rfl
@[simp] theorem o8:UE HK=true:=by kernel_rfl
@[simp] theorem o7:Xt Z2 147 0=some (0,29):=by kernel_rfl
@[simp] theorem o6:Xt Z2 147 1=some (1,65):=by kernel_rfl
@[simp] theorem o5 (a:I->Bool) (b:List (Nat×I)):TU Z2 a 147 b=Po [(0,1),(1,1)] (.agg #[.slice none 0 0,.slice none 0 0]) a b:=by kernel_rfl
@[simp] theorem t156:Z2 156=some ⟨1,.map 157 3,.map none,8,none⟩:=by kernel_rfl
@[simp] theorem t157:Z2 157=some ⟨4,.array 4 113,.agg #[.int .i64 0,.int .i64 0,.int .i64 0,.int .i64 0],32,some [(.int .i64,0),(.int .i64,1),(.int .i64,2),(.int .i64,3)]⟩:=by kernel_rfl
@[simp] theorem o4:WQ Z2 157=some (113,1,some 4):=by kernel_rfl
@[simp] theorem t169:Z2 169=some ⟨1,.int .u32,.int .u32 0,4,none⟩:=by kernel_rfl
@[simp] theorem o3:Xt Z2 171 0=some (0,21):=by kernel_rfl
@[simp] theorem o2:Xt Z2 171 1=some (1,169):=by kernel_rfl
@[simp] theorem o1:Xt Z2 173 1=some (0,171):=by kernel_rfl
@[simp] theorem o0:Xt Z2 177 2=some (0,91):=by kernel_rfl
@[simp] theorem oZ:Xt Z2 179 1=some (0,177):=by kernel_rfl
@[simp] theorem oY:Xt Z2 179 2=some (1,169):=by kernel_rfl
@[simp] theorem t190:Z2 190=some ⟨1,.slice 9,.slice none 0 0,24,none⟩:=by kernel_rfl
@[simp] theorem oX:WQ Z2 190=some (9,1,none):=by kernel_rfl
@[simp] theorem t204:Z2 204=some ⟨1,.map 112 4,.map none,8,none⟩:=by kernel_rfl
@[simp] theorem t248:Z2 248=some ⟨1,.int .u64,.int .u64 0,8,none⟩:=by kernel_rfl
@[simp] theorem oW:UL Z2 22 22=some (77,2,⟨2,HM,.agg #[.string ⟨#[]⟩,.int .i64 0],24,some [(.string,0),(.int .i64,1)]⟩):=by kernel_rfl
@[simp] theorem oV:UL Z2 23 23=some (29,1,⟨1,.slice 3,.slice none 0 0,24,none⟩):=by kernel_rfl
@[simp] theorem oU:UL Z2 24 24=some (60,1,⟨1,.slice 28,.slice none 0 0,24,none⟩):=by kernel_rfl
@[simp] theorem oT:UL Z2 29 29=some (3,1,⟨1,.int .i64,.int .i64 0,8,none⟩):=by kernel_rfl
@[simp] theorem oS:UL Z2 60 60=some (28,3,⟨3,HN,.agg #[.int .i64 0,.int .i64 0,.int .i64 0],24,some [(.int .i64,0),(.int .i64,1),(.int .i64,2)]⟩):=by kernel_rfl
@[simp] theorem oR:UL Z2 65 65=some (23,1,⟨1,.slice 29,.slice none 0 0,24,none⟩):=by kernel_rfl
@[simp] theorem oQ:UL Z2 99 99=some (110,3,⟨3,HL,.agg #[.int .i64 0,.int .i64 0,.slice none 0 0],40,none⟩):=by kernel_rfl
@[simp] theorem oP:UL Z2 108 108=some (111,1,⟨1,.slice 112,.slice none 0 0,24,none⟩):=by kernel_rfl
@[simp] theorem oO:UL Z2 111 111=some (112,2,⟨2,.array 2 3,.agg #[.int .i64 0,.int .i64 0],16,some [(.int .i64,0),(.int .i64,1)]⟩):=by kernel_rfl
@[simp] theorem oN:UL Z2 116 116=some (147,2,⟨2,HK,.agg #[.slice none 0 0,.slice none 0 0],48,none⟩):=by kernel_rfl
@[simp] theorem oM:UL Z2 132 132=some (21,1,⟨1,.int .i32,.int .i32 0,4,none⟩):=by kernel_rfl
theorem P2:IntKind.i64.wrap 1=1:=Z3
theorem Om:IntKind.i64.wrap 2=2:=Z3
theorem Yx {i n:Nat} (h:i<n) (a:n<2 ^ 62):IntKind.i64.wrap ((i:Int)+1)=((i+1:Nat):Int):=by
 rw[IntWalk.i64_in _ U];rfl
theorem yx (l:List Int) (n:Int) (g:l.length<2 ^ 62):Ξ prog 112 [ν R 1 l,R n] [] (λa σ=>a=ε (l.contains n)/\σ=[]) (λ_ _=>False):=by
 refine Ξ.body Ρ func112 rfl rfl ntmps112 rfl rfl J ?_
 repeat apply Ο
 refine WB ?_
 repeat apply Ο
 refine WB ?_
 repeat apply Ο
 refine W.iter (λi:Nat=>i<=l.length/\∀j,j<i->(h:j<l.length)->l[j]≠n) (λi=>[(0,ν R 1 l),(1,R n),(5,R i)]) (λ_=>[]) (λi=>l.length-i) 0 ⟨ω _,λj c=>U⟩ rfl J (λi hi k=>?_)
 repeat apply Ο
 refine WB ?_;refine W.YM rfl (λb=>?_) (λb=>?_)
 .have b:i<l.length:=by simpa using b
  repeat apply Ο
  refine P3 b ?_;refine W.YM rfl (λd=>?_) (λd=>?_)
  .have f:l[i]=n:=by simpa using d
   repeat apply Ο
   refine WB ?_;refine W.ret ?_;simp;exact f▸Y7 _
  .have f:l[i]≠n:=by simpa using d
   repeat apply Ο
   refine WB ?_;refine W.forget _ ?_ (k (i+1) ⟨U,λj c h=>?_⟩ U)
   .simp[Yx b g]
   .by_cases e:j=i
    .subst e;exact f
    .exact hi.2 j U h
 .have b:i=l.length:=by simp at b;omega
  subst b;refine W.exit rfl ?_
  repeat apply Ο
  refine WB ?_;refine W.ret ?_;simp;intro h;obtain⟨j,c,e⟩:=Us h;exact hi.2 j c c e
theorem Ey {a:Type} (f:a->I) (z:I) (l:List a) {i:Nat} (h:i<l.length) (b:i<(fill f z l i).length):(fill f z l i)[i]=z:=by
 have:=yB f z l h;rw[ζ b] at this;exact W4 this
theorem HJ (a b:List Int) (g:a.length<2 ^ 62):Κ prog 30 [ν R 1 a,ν R 1 b] (ε (a==b)):=by
 refine Ξ.body Ρ func30 rfl rfl ntmps30 rfl rfl J ?_;refine Χ ?_;refine W.iter (λp:Nat×Bool=>p.1<=a.length/\(p.2=true->a.length=b.length/\∀j,j<p.1->a[j]?=b[j]?)/\(p.2=false->a≠b)) (λp=>[(0,ν R 1 a),(1,ν R 1 b),(5,ε p.2),(6,R p.1)]) (λ_=>[]) (λp=>a.length-p.1) (0,decide (a.length=b.length)) ⟨ω _,J,by simp;exact λh e=>h (by rw[e])⟩ rfl J (λi hi k=>?_);rcases i with⟨i,_|_⟩
 .refine Χ ?_;refine Η rfl ?_;refine W.exit rfl ?_;refine Χ ?_;refine W.rt ?_;exact .of (by simp[hi.2.2 rfl])
 .refine Χ ?_;have l:=(hi.2.1 rfl).1;refine W.YM rfl (λc=>?_) (λc=>?_)
  .have c:i<a.length:=by simpa using c
   have f:i<b.length:=U;refine Χ ?_;refine W0 (Υ c f) ?_;refine Χ ?_;refine W.forget _ ?_ (k (i+1,decide (a[i]=b[i])) ⟨by simp;omega,λh=>⟨l,λj d=>?_⟩,λh e=>?_⟩ (by simp;omega))
   .simp[Yx c g]
   .by_cases e:j=i
    .subst e;rw[ζ c,ζ f];simpa using h
    .exact(hi.2.1 rfl).2 j (by simp at d;omega)
   .subst e;simp at h
  .have c:a.length<=i:=by simpa using c
   refine W.exit rfl ?_;refine Χ ?_;refine W.rt ?_;refine .of ?_;have:a=b:=RU λj=>by
    by_cases d:j<i
    .exact(hi.2.1 rfl).2 j d
    .rw[S2 U,S2 U]
   simp[this]
theorem yw (l:List Int) (d:l.length<2 ^ 44):Κ prog 44 [ν R 1 l] (ν R 1 l):=by
 refine Ξ.body Ρ func44 rfl rfl ntmps44 rfl rfl J ?_
 repeat apply Ο
 refine WB ?_
 repeat apply Ο
 refine Y4 (A:=[7]) Ρ λe b=>Z1 ?_;refine⟨U,?_⟩;apply b;refine Χ ?_;refine W.iter (λi:Nat=>i<=l.length) (λi=>[(0,ν R 1 l),(3,.ms 0 l.length 0 l.length),(4,R i)]) (λi=>[.cells 3 1 (fill R (R 0) l i)]) (λi=>l.length-i) 0 (ω _) (by simp[EF]) J (λi hi c=>?_);refine Χ ?_;refine W.YM rfl (λa=>?_) (λa=>?_)
 .have a:i<l.length:=by simpa using a
  refine Ι (Υ a (Υ (ED R (R 0) l hi) (Υ (Ey R (R 0) l a) (EC R (R 0) l a)))) ?_;refine W.forget _ ?_ (c (i+1) a U);simp[Yx a (show l.length<2 ^ 62 by omega)]
 .have a:l.length<=i:=by simpa using a
  refine W.exit rfl ?_;refine Χ ?_;refine W.cut 0 (ω _) [(2,ν R 1 l)] J J (by simp;rw[EE _ _ _ a];exact .own (ω _) rfl J J) ?_;refine W.rt ?_;exact .refl _
abbrev ZT (l:List (List Int)):I:=ν (ν R 1) 1 l
theorem Ex (l:List (List Int)) (g:l.length<2 ^ 40) (c:∀x∈l,x.length<2 ^ 44):Κ prog 74 [ZT l] (ZT l):=by
 refine Ξ.body Ρ func74 rfl rfl ntmps74 rfl rfl J ?_
 repeat apply Ο
 refine WB ?_
 repeat apply Ο
 refine Y4 (A:=[7]) Ρ λe b=>Z1 ?_;refine⟨U,?_⟩;apply b;refine Χ ?_;refine W.iter (λi:Nat=>i<=l.length) (λi=>[(0,ZT l),(3,.ms 0 l.length 0 l.length),(4,R i)]) (λi=>[.cells 29 1 (fill (ν R 1) (.sl true 0 []) l i)]) (λi=>l.length-i) 0 (ω _) (by simp[EF]) J (λi hi f=>?_);refine Χ ?_;refine W.YM rfl (λa=>?_) (λa=>?_)
 .have a:i<l.length:=by simpa using a
  refine XM a λe b=>?_;refine Κ.d (yw _ (c _ (Y7 _))) (XC (Υ a (Υ (ED (ν R 1) (.sl true 0 []) l hi) (Υ (Ey (ν R 1) (.sl true 0 []) l a) (EC (ν R 1) (.sl true 0 []) l a)))) ?_);apply b;refine Χ ?_;refine W.forget _ ?_ (f (i+1) a U);simp[Yx a (show l.length<2 ^ 62 by omega)]
 .have a:l.length<=i:=by simpa using a
  refine W.exit rfl ?_;refine Χ ?_;refine W.cut 0 (ω _) [(2,ZT l)] J J (by simp;rw[EE _ _ _ a];exact .own (ω _) rfl J J) ?_;refine W.rt ?_;exact .refl _
theorem HI (l:List Int) (n:Int) (k:l.length<2 ^ 62):Κ prog 71 [ν R 1 l,R n] (R (if n∈l then(l.idxOf n:Nat) else -1)):=by
 refine Ξ.body Ρ func71 rfl rfl ntmps71 rfl rfl J ?_;refine Χ ?_;refine W.iter (λi:Nat=>i<=l.length/\∀j,j<i->(h:j<l.length)->l[j]≠n) (λi=>[(0,ν R 1 l),(1,R n),(5,R i)]) (λ_=>[]) (λi=>l.length-i) 0 ⟨ω _,λj d=>U⟩ rfl J (λi hi m=>?_)
 repeat apply Ο
 by_cases a:i<l.length
 .refine Ι a ?_;refine W.YM rfl (λf=>?_) (λf=>?_)
  .have b:l[i]≠n:=by simpa using f
   refine Χ ?_;refine W.forget _ ?_ (m (i+1) ⟨a,λj d h=>?_⟩ U)
   .simp[Yx a k]
   .by_cases e:j=i
    .subst e;exact b
    .exact hi.2 j U h
  .have b:l[i]=n:=by simpa using f
   refine W.exit rfl ?_;refine Χ ?_;have o:¬i=l.length:=U;refine Η (by simp[o]) ?_;refine Χ ?_;refine W.rt ?_;have c:n∈l:=b▸Y7 _;refine .of ?_;rw[if_pos c];have:l.idxOf n=i:=by
    have g:l.idxOf n<l.length:=List.idxOf_lt_length_of_mem c
    have r:l[l.idxOf n]=n:=List.getElem_idxOf g
    have t:¬l.idxOf n<i:=λh=>hi.2 _ h g r
    have u:¬i<l.idxOf n:=λh=>by
     have:=List.not_of_lt_findIdx (p:=(·==n)) (xs:=l) (i:=i) h;simp[b] at this
    omega
   rw[this];rfl
 .refine Ι a ?_;refine Η rfl ?_;refine W.exit rfl ?_;refine Χ ?_;have s:i=l.length:=U;refine Ε (by simp[s]) ?_;refine Χ ?_;refine W.rt ?_;have c:n∉l:=λh=>by
   obtain⟨j,d,e⟩:=Us h;exact hi.2 j U d e
  exact .of (by simp[c])
theorem Ew (a b:List (List Int)) (n:a.length<2 ^ 40) (g:∀x∈a,x.length<2 ^ 40):Κ prog 50 [ZT a,ZT b] (ε (a==b)):=by
 refine Ξ.body Ρ func50 rfl rfl ntmps50 rfl rfl J ?_;refine Χ ?_;refine W.iter (λp:Nat×Bool=>p.1<=a.length/\(p.2=true->a.length=b.length/\∀j,j<p.1->a[j]?=b[j]?)/\(p.2=false->a≠b)) (λp=>[(0,ZT a),(1,ZT b),(5,ε p.2),(6,R p.1)]) (λ_=>[]) (λp=>a.length-p.1) (0,decide (a.length=b.length)) ⟨ω _,J,by simp;exact λh e=>h (by rw[e])⟩ rfl J (λi hi k=>?_);rcases i with⟨i,_|_⟩
 .refine Χ ?_;refine Η rfl ?_;refine W.exit rfl ?_;refine Χ ?_;refine W.rt ?_;exact .of (by simp[hi.2.2 rfl])
 .refine Χ ?_;have l:=(hi.2.1 rfl).1;refine W.YM rfl (λc=>?_) (λc=>?_)
  .have c:i<a.length:=by simpa using c
   have f:i<b.length:=U;refine Χ ?_;refine W.draw (A:=[]) Ρ mixed λo m=>Vj (Υ c f) ?_;refine YD (Κ.q (HJ a[i] b[i] (by have:=g _ (Y7 c);omega))) (U5 ?_);refine YG (m _ _ ?_);refine Χ ?_;refine W.forget _ ?_ (k (i+1,a[i]==b[i]) ⟨by simp;omega,λh=>⟨l,λj d=>?_⟩,λh e=>?_⟩ (by simp;omega))
   .simp[Yx c (show a.length<2 ^ 62 by omega)]
   .by_cases e:j=i
    .subst e;rw[ζ c,ζ f];simpa using h
    .exact(hi.2.1 rfl).2 j (by simp at d;omega)
   .subst e;simp at h
  .have c:a.length<=i:=by simpa using c
   refine W.exit rfl ?_;refine Χ ?_;refine W.rt ?_;refine .of ?_;have:a=b:=RU λj=>by
    by_cases d:j<i
    .exact(hi.2.1 rfl).2 j d
    .rw[S2 U,S2 U]
   simp[this]
structure VA where
 name:ByteArray
 YW:Int
deriving DecidableEq
structure Y9 where
 Zd:Int
 seen:Int
 bare:Int
deriving DecidableEq
structure Δ where
 ς:List VA
 Β:List (List Int)
 cells:List (List Y9)
deriving DecidableEq
abbrev Ye (g:VA):I:=.Z7 [TO g.name,R g.YW]
abbrev Zr (p:Y9):I:=.Z7 [R p.Zd,R p.seen,R p.bare]
abbrev ZI (l:List VA):I:=ν Ye 2 l
abbrev U4 (l:List Y9):I:=ν Zr 3 l
abbrev SK (l:List (List Y9)):I:=ν U4 1 l
abbrev Zh (s:Δ):I:=.Z7 [ZI s.ς,ZT s.Β,SK s.cells]
abbrev Z6 (s:Δ):I:=.π [ZI s.ς,ZT s.Β,SK s.cells]
def Δ.small (s:Δ):Prop:=s.ς.length<2 ^ 30/\s.Β.length<2 ^ 30/\s.cells.length<2 ^ 30/\(∀x∈s.Β,x.length<2 ^ 30)/\∀x∈s.cells,x.length<2 ^ 30
def Δ.Pm (s:Δ):Bool:=decide (20<s.ς.length)||decide (20<s.Β.length)||decide (20<s.cells.length)||s.Β.any (λx=>decide (20<x.length))||s.cells.any λx=>decide (20<x.length)
@[simp] theorem oL (x y:Int):(x != y) = !decide (x=y):=by rw[OR];simp
section
variable {P:Program} {m nt:Nat} {k:List Item} {env:Ζ} {σ σ':Τ} {Z:X9} {E:Yn}
theorem W.drop {h:Nat} (c:m<=h) (d:h<=σ.length) (e:∀(id:Nat) (r:Row),id<h->σ[id]?=some r->XZ h r) (f:σ.take h=σ') (env':Ζ) (a:∀p∈env',Z' env p.1=p.2/\χ h p.2) (g:W P m nt k env' σ' Z E):W P m nt k env σ Z E:=
 W.cut h c env' d e (λp b=>by rw[(a p b).1];exact .low (a p b).2) (by rw[f];exact g)
theorem W.fix {id:Nat} {t:TypeId} {e:I} {kk:Nat} (i:m<=id) (f:σ[id]?=some (.cells t kk [e])) (j:∀a∈e.cells,χ id a) (l:∀(g:Nat) (r:Row),g<id->σ[g]?=some r->XZ id r) (n:σ.take id=σ') (env':Ζ)
  (o:∀p∈env',(Z' env p.1=p.2/\χ id p.2)\/(Z' env p.1=.Ν id 1 0 0/\p.2=.π e.cells)) (s:W P m nt k env' σ' Z E):W P m nt k env σ Z E:=
 W.cut id i env' (RP (ZB.1 f).1) l (λp u=>by
  rcases o p u with⟨b,c⟩|⟨b,c⟩
  .rw[b];exact .low c
  .rw[b,c];refine .Ν (Z5 _) f rfl (e:=e) rfl J λx a v d h=>?_;rw[U'] at d;rw[d] at h;cases h;exact .low (j a (Zp d))) (by rw[n];exact s)
theorem W.to {env':Ζ} (h:W P m nt k env' σ' Z E) (a:σ=σ') (b:∀p∈env',Z' env p.1=p.2):W P m nt k env σ Z E:=a▸W.forget env' b h
end
abbrev U3 (a b:Int):Int:=X8 .i64 a b
abbrev UJ (a b:Int):Int:=Q1 .i64 a b
abbrev Ol (a b:Int):Int:=UM .i64 a b
section
variable {P:Program} {σ:Τ}
theorem XD.c {f:I} {args:ξ} {r:I} {K E:I->Τ->Prop} (h:XD P f args r) (b:K r σ):WO P f args σ K E:=
 WO.mono (h σ) (λa s ⟨d,e⟩=>by subst d;subst e;exact b) (λ_ _ h=>h.elim)
end
def Vi (n:Int):Bool:=decide (0<=n)&&decide (n<=2)
theorem Se (n:Int):Κ prog 93 [R n] (ε (Vi n)):=by
 refine Ξ.body Ρ func93 rfl rfl ntmps93 rfl rfl J ?_;by_cases h:0<=n
 .refine Ι h ?_;refine W.rt ?_;exact .of (by simp[Vi,h])
 .refine Ι h ?_;refine W.rt ?_;exact .of (by simp[Vi,h])
def valid (n:Int):Bool:=decide (0<=n)&&decide (n<=63)
theorem Nl (n:Int):Κ prog 109 [R n] (ε (valid n)):=by
 refine Ξ.body Ρ func109 rfl rfl ntmps109 rfl rfl J ?_;by_cases h:0<=n
 .refine Ι h ?_;refine W.rt ?_;exact .of (by simp[valid,h])
 .refine Ι h ?_;refine W.rt ?_;exact .of (by simp[valid,h])
theorem Ev (a b:Int):Κ prog 196 [R a,R b] (ε (U3 a b==0)):=by
 refine Ξ.body Ρ func196 rfl rfl ntmps196 rfl rfl J ?_;refine Χ ?_;refine W.rt ?_;exact .of J
theorem Eu (a b:Int):Κ prog 210 [R a,R b] (ε (Ol a b==0)):=by
 refine Ξ.body Ρ func210 rfl rfl ntmps210 rfl rfl J ?_;refine Χ ?_;refine W.rt ?_;exact .of J
theorem HH (b:Bool):Κ prog 127 [ε b] (R (if b then 1 else 0)):=by
 refine Ξ.body Ρ func127 rfl rfl ntmps127 rfl rfl J ?_;cases b
 .refine Χ ?_;refine Η rfl ?_;refine Χ ?_;refine W.rt ?_;exact .refl _
 .refine Χ ?_;refine Ε rfl ?_;refine Χ ?_;refine W.rt ?_;exact .refl _
theorem HG (n:Int):Κ prog 193 [R n] (ε false):=by
 refine Ξ.body Ρ func193 rfl rfl ntmps193 rfl rfl J ?_;refine Χ ?_;refine W.rt ?_;exact .of J
def JH (n:Int):Int:=UJ (UJ (Ol n 15) (IntKind.i64.wrap (U3 n 5*2))) ((U3 n 10).fdiv 2)
theorem yv (n:Int):Κ prog 99 [R n] (R (JH n)):=by
 refine Ξ.body Ρ func99 rfl rfl ntmps99 rfl rfl J ?_;refine Χ ?_;refine W.rt ?_;exact .of (by simp[JH,IntKind.bits])
def idxOf {a:Type} (p:a->Bool) (l:List a):Int:=if l.any p then(l.findIdx p:Nat) else -1
theorem JG {b:Type} {p:b->Bool} {l:List b} {i:Nat} (h:i<l.length) (c:p l[i]=true) (e:∀j,j<i->(g:j<l.length)->p l[j]=false):idxOf p l=(i:Nat):=by
 have f:l.any p=true:=OS.2 ⟨_,Y7 h,c⟩
 have:l.findIdx p=i:=by
  have k:¬l.findIdx p<i:=λa=>by
   have d:l.findIdx p<l.length:=U
   have:=List.findIdx_getElem (p:=p) (w:=d);rw[e _ a d] at this;cases this
  have m:¬i<l.findIdx p:=λa=>by
   have:=List.not_of_lt_findIdx a;rw[c] at this;simp at this
  omega
 unfold idxOf;rw[if_pos f,this]
theorem JF {a:Type} {p:a->Bool} {l:List a} (h:∀j,(b:j<l.length)->p l[j]=false):idxOf p l=-1:=by
 have:l.any p=false:=by
  rw[PD];intro x c;obtain⟨j,b,rfl⟩:=Us c;simp[h j b]
 unfold idxOf;rw[this];rfl
theorem JE {a:Type} {p:a->Bool} {l:List a}:decide (idxOf p l>=0)=l.any p:=by
 unfold idxOf;cases h:l.any p<;>simp
theorem yu (l:List Int) (n:Int) (f:l.length<2 ^ 62):Κ prog 137 [ν R 1 l,R n] (R (idxOf (·==n) l)):=by
 refine Ξ.body Ρ func137 rfl rfl ntmps137 rfl rfl J ?_;refine Χ ?_;refine W.iter (λi:Nat=>i<=l.length/\∀j,j<i->(h:j<l.length)->(l[j]==n)=false) (λi=>[(0,ν R 1 l),(1,R n),(6,ν R 1 l),(7,R l.length),(8,R i)]) (λ_=>[]) (λi=>l.length-i) 0 ⟨ω _,λj b=>U⟩ rfl J (λi hi g=>?_);refine Χ ?_;refine W.YM rfl (λa=>?_) (λa=>?_)
 .have a:i<l.length:=by simpa using a
  refine Ι a ?_;refine W.YM rfl (λc=>?_) (λc=>?_)
  .have d:n=l[i]:=by simpa using c
   refine Χ ?_;refine W.rt ?_;exact .of (by rw[JG a (by simp[d]) hi.2];rfl)
  .have d:¬n=l[i]:=by simpa using c
   refine Χ ?_;refine W.forget _ ?_ (g (i+1) ⟨U,λj b h=>?_⟩ U)
   .simp[Yx a f]
   .by_cases e:j=i
    .subst e;simpa using λx=>d x.symm
    .exact hi.2 j U h
 .have a:l.length<=i:=by simpa using a
  refine W.exit rfl ?_;refine Χ ?_;refine W.rt ?_;exact .of (by rw[JF λj b=>hi.2 j U b];rfl)
theorem any_beq (l:List Int) (n:Int):(l.any λx=>x==n)=l.contains n:=by
 rw[OR];simp
theorem Et (l:List Int) (n:Int) (a:l.length<2 ^ 62):Κ prog 110 [ν R 1 l,R n] (ε (l.contains n)):=by
 refine Ξ.body Ρ func110 rfl rfl ntmps110 rfl rfl J ?_;refine Χ ?_;refine ZU λc b=>?_;refine Κ.d (yu l n a) (Z1 ?_);apply b;refine Χ ?_;refine W.rt ?_;exact .of (by rw[<-any_beq,<-JE];rfl)
@[simp high] theorem yt {h:Nat} {e:Bool} {k:Nat} {c:Type} {f:c->I} {l:List c}:χ h (.sl e k (l.map f))↔∀x∈l,∀a∈(f x).cells,χ h a:=by
 rw[YN];simp only[Zc];exact⟨λH x b=>H _ ⟨x,b,rfl⟩,λH e ⟨x,b,d⟩=>d▸H x b⟩
@[simp high] theorem oK {h:Nat} {e:Bool} {k n:Nat} {b:Type} {f:b->I} {l:List b}:χ h (.sl e k ((l.map f).take n))↔∀x∈l.take n,∀a∈(f x).cells,χ h a:=by
 rw[<-Mz];exact yt
abbrev Zq (r:Int×Int):I:=.Z7 [R r.1,R r.2]
abbrev TN (l:List (Int×Int)):I:=ν Zq 2 l
abbrev TM (l:List (List (Int×Int))):I:=ν TN 1 l
structure Found where
 u:Int
 v:Int
 cells:List (List (Int×Int))
deriving DecidableEq
abbrev YQ (f:Found):I:=.Z7 [R f.u,R f.v,TM f.cells]
abbrev Y2 (l:List Found):I:=ν YQ 3 l
def Δ.of (s:Δ) (g:Int):Int:=if g<0 then 0 else((s.ς[g.toNat]?).map (·.YW)).getD 0
theorem JI (s:Δ) (g:Int) (c:g<s.ς.length):Κ prog 125 [Zh s,R g] (R (s.of g)):=by
 refine Ξ.body Ρ func125 rfl rfl ntmps125 rfl rfl J ?_;refine Χ ?_;refine W.YM rfl (λa=>?_) (λa=>?_)
 .have a:g<0:=by simpa using a
  refine Χ ?_;refine W.rt ?_;exact .of (by rw[show s.of g=0 by simp[Δ.of,a]];rfl)
 .have a:¬g<0:=by simpa using a
  obtain⟨n,rfl⟩:∃n:Nat,g=n:=⟨g.toNat,U⟩;have b:n<s.ς.length:=U;refine Ι b ?_;refine W.rt ?_;exact .of (by rw[show s.of n=s.ς[n].YW by simp[Δ.of,b];intro h;omega];rfl)
def Δ.Y1 (s:Δ) (p r:Int×Int) (b:Nat):Int:=
 let l:=(s.Β[b]?).getD []
 let a:=if l.contains p.1 then UJ 0 (s.of r.1) else 0
 if l.contains p.2 then UJ a (s.of r.2) else a
theorem LU (s:Δ) (j:s.small) (p r:Int×Int) (n:Nat) (f:n<s.Β.length) (k:r.1<s.ς.length) (l:r.2<s.ς.length) :
  Κ prog 77 [Zh s,Zq p,Zq r,R n] (R (s.Y1 p r n)):=by
 refine Ξ.body Ρ func77 rfl rfl ntmps77 rfl rfl J ?_;have h:s.Β[n].length<2 ^ 62:=by have:=j.2.2.2.1 _ (Y7 f);omega
 refine Χ ?_;refine W.iter (λq:Nat×Int=>q.1<=2/\(q.1=0->q.2=0)/\(q.1=1->q.2=if s.Β[n].contains p.1 then UJ 0 (s.of r.1) else 0)/\(q.1=2->q.2=s.Y1 p r n))
  (λq=>[(3,R n),(4,Z6 s),(5,.π [R p.1,R p.2]),(6,.π [R r.1,R r.2]),(9,R q.2),(12,Zq p),(13,R q.1)]) (λ_=>[]) (λq=>2-q.1) (0,0) ⟨U,J,J,J⟩ rfl J (λq hi a=>?_)
 rcases q with⟨i,x⟩
 match i,hi,a with
 | 0,hi,a=>
  have c:x=0:=hi.2.1 rfl;subst c;refine Χ ?_;refine Ε rfl ?_;refine Χ ?_;refine XM f λg e=>?_;refine Κ.d (Et s.Β[n] p.1 h) (Z1 ?_);apply e;by_cases b:p.1∈s.Β[n]
  .refine Ε (by simp[b]) ?_;refine Χ ?_;refine W.draw (A:=[]) Ρ mixed λg e=>U5 ?_;refine YD (Κ.q (JI s r.1 k)) (U5 ?_);refine YG (e _ _ ?_);refine Χ ?_;refine W.forget _ ?_ (a (1,UJ 0 (s.of r.1)) ⟨J,J,by simp[b],J⟩ J);simp[P2]
  .refine Η (by simp[b]) ?_;refine Χ ?_;refine W.forget _ ?_ (a (1,0) ⟨J,J,by simp[b],J⟩ J);simp[P2]
 | 1,hi,a=>
  have c:=hi.2.2.1 rfl;simp at c;refine Χ ?_;refine Ε rfl ?_;refine Χ ?_;refine XM f λg e=>?_;refine Κ.d (Et s.Β[n] p.2 h) (Z1 ?_);apply e;by_cases b:p.2∈s.Β[n]
  .refine Ε (by simp[b]) ?_;refine Χ ?_;refine W.draw (A:=[]) Ρ mixed λg e=>U5 ?_;refine YD (Κ.q (JI s r.2 l)) (U5 ?_);refine YG (e _ _ ?_);refine Χ ?_;refine W.forget _ ?_ (a (2,UJ x (s.of r.2)) ⟨J,J,J,λ_=>by simp only[Δ.Y1,ζ f];simp[b,c]⟩ J);simp[Om]
  .refine Η (by simp[b]) ?_;refine Χ ?_;refine W.forget _ ?_ (a (2,x) ⟨J,J,J,λ_=>by simp only[Δ.Y1,ζ f];simp[b,c]⟩ J);simp[Om]
 | 2,hi,a=>
  have c:=hi.2.2.2 rfl;refine Χ ?_;refine Η rfl ?_;refine W.exit rfl ?_;refine Χ ?_;refine W.rt ?_;exact .of (by rw[<-show x=s.Y1 p r n from c];rfl)
 | i+3,hi,a=>exact absurd hi.1 J
def Δ.V2 (s:Δ) (p r:Int×Int) (x:Y9):Bool:=Ol x.seen (s.Y1 p r x.Zd.toNat)==0&&U3 (s.Y1 p r x.Zd.toNat) x.bare==0
def Δ.Sd (s:Δ) (p r:Int×Int) (c:Nat):Bool:=((s.cells[c]?).getD []).all (s.V2 p r)
theorem ys (s:Δ) (o:s.small) (p r:Int×Int) (c:Nat) (k:c<s.cells.length) (hv:∀x∈s.cells[c],0<=x.Zd/\x.Zd<s.Β.length) (v:r.1<s.ς.length) (w:r.2<s.ς.length) :
  Κ prog 172 [Zh s,Zq p,Zq r,R c] (ε (s.Sd p r c)):=by
 refine Ξ.body Ρ func172 rfl rfl ntmps172 rfl rfl J ?_;have y:s.cells[c].length<2 ^ 62:=by have:=o.2.2.2.2 _ (Y7 k);omega
 have B:s.Sd p r c=s.cells[c].all (s.V2 p r):=by simp[Δ.Sd,k]
 rw[B];refine Ι k ?_;refine W.iter (λi:Nat=>i<=s.cells[c].length/\∀j,j<i->(h:j<s.cells[c].length)->s.V2 p r s.cells[c][j]=true)
  (λi=>[(4,Z6 s),(5,.π [R p.1,R p.2]),(6,.π [R r.1,R r.2]),(17,U4 s.cells[c]),(18,R s.cells[c].length),(19,R i)]) (λ_=>[]) (λi=>s.cells[c].length-i) 0 ⟨U,λj l=>U⟩ rfl J (λi hi C=>?_)
 refine Χ ?_;refine W.YM rfl (λa=>?_) (λa=>?_)
 .have a:i<s.cells[c].length:=by simpa using a
  have t:=hv _ (Y7 a);obtain⟨n,u⟩:∃n:Nat,s.cells[c][i].Zd=n:=⟨s.cells[c][i].Zd.toNat,U⟩;have D:n<s.Β.length:=U;have ZS:s.V2 p r s.cells[c][i]=(Ol s.cells[c][i].seen (s.Y1 p r n)==0&&U3 (s.Y1 p r n) s.cells[c][i].bare==0):=by simp[Δ.V2,u]
  repeat apply Ο
  refine Y4 (A:=[10]) Ρ λm b=>XC a ?_;apply b
  repeat apply Ο
  refine XM u λm b=>?_;refine Κ.d (LU s o p r n D v w) (Z1 ?_);apply b
  repeat apply Ο
  by_cases f:Ol s.cells[c][i].seen (s.Y1 p r n)=0
  .refine XM @f λm b=>?_;refine Κ.d (Eu s.cells[c][i].seen (s.Y1 p r n)) (XC @f ?_);refine Κ.d (Ev (s.Y1 p r n) s.cells[c][i].bare) (Z1 ?_);apply b;by_cases g:U3 (s.Y1 p r n) s.cells[c][i].bare=0
   .refine Η (by simp[g]) ?_;refine Χ ?_;refine W.drop (h:=0) (ω _) (ω _) J rfl _ ?_ (C (i+1) ⟨U,λj l h=>?_⟩ U)
    .simp[Yx a y]
    .by_cases e:j=i
     .subst e;rw[ZS];simp[f,g]
     .exact hi.2 j U h
   .refine Ε (by simp[g]) ?_;refine Χ ?_;refine W.drop (h:=0) (ω _) (ω _) J rfl [(8,ε false)] J ?_;refine W.rt ?_;exact .of (by rw[show s.cells[c].all (s.V2 p r)=false from List.all_eq_false.2 ⟨_,Y7 a,by rw[ZS];simp[g]⟩];rfl)
  .refine XM @f λm b=>?_;refine Κ.d (Eu s.cells[c][i].seen (s.Y1 p r n)) (XC @f ?_);apply b;refine Ε J ?_;refine Χ ?_;refine W.drop (h:=0) (ω _) (ω _) J rfl [(8,ε false)] J ?_;refine W.rt ?_;exact .of (by rw[show s.cells[c].all (s.V2 p r)=false from List.all_eq_false.2 ⟨_,Y7 a,by rw[ZS];simp[f]⟩];rfl)
 .have a:s.cells[c].length<=i:=by simpa using a
  refine W.exit rfl ?_;refine Χ ?_;refine W.ret ⟨_,rfl,?_,rfl⟩;refine .of ?_;rw[show s.cells[c].all (s.V2 p r)=true from WU.2 λx t=>by
   obtain⟨j,l,rfl⟩:=Us t;exact hi.2 j U l]
  rfl
def Xb (l:List (List (Int×Int))) (a:Int) (i:Nat):Nat:=((List.range i).map λj:Nat=>if(j:Int)=a then 1 else((l[j]?).getD []).length).prod
theorem Pl (l:List (List (Int×Int))) (a:Int) (i:Nat):Xb l a (i+1)=Xb l a i*(if(i:Int)=a then 1 else((l[i]?).getD []).length):=by
 unfold Xb;rw[Vp,XR,List.prod_append];simp
def Found.many (f:Found) (a:Int):Nat:=Xb f.cells a f.cells.length
theorem X7 {n:Nat} (h:n<2 ^ 62):IntKind.i64.wrap (n:Int)=n:=IntWalk.i64_in _ U
theorem JD (f:Found) (b:Int) (d:f.cells.length<2 ^ 62) (j:∀i,i<=f.cells.length->Xb f.cells b i<2 ^ 62) :
  Κ prog 78 [YQ f,R b] (R (f.many b)):=by
 refine Ξ.body Ρ func78 rfl rfl ntmps78 rfl rfl J ?_;refine Χ ?_;refine W.iter (λi:Nat=>i<=f.cells.length) (λi=>[(1,R b),(5,R (Xb f.cells b i)),(9,TM f.cells),(10,R f.cells.length),(11,R i)]) (λ_=>[]) (λi=>f.cells.length-i) 0 (ω _) rfl (by simp[Xb]) (λi hi e=>?_);refine Χ ?_;refine W.YM rfl (λa=>?_) (λa=>?_)
 .have a:i<f.cells.length:=by simpa using a
  have c:=Pl f.cells b i
  have h:=j (i+1) a;refine Ι a ?_;by_cases g:(i:Int)=b
  .refine Η (by simp[g]) ?_;refine Χ ?_;refine W.forget _ ?_ (e (i+1) a U);rw[c,if_pos g];simp[Yx a d]
  .refine Ε (by simp[g]) ?_;have hv:Xb f.cells b i*f.cells[i].length<2 ^ 62:=by rw[c,if_neg g] at h;simpa[a] using h
   refine Ι a ?_;refine W.forget _ ?_ (e (i+1) a U);rw[c,if_neg g];simp only[ζ a,Option.getD_some];have:=X7 hv;simp[Yx a d] at this ⊢;simp[this]
 .have a:i=f.cells.length:=by simp at a;omega
  subst a;refine W.exit rfl ?_;refine Χ ?_;refine W.rt ?_;exact .of rfl
def Sc (a b:Int):Int:=if a<b then -1 else if b<a then 1 else 0
theorem yr (a b:Int):Κ prog 151 [R a,R b] (R (Sc a b)):=by
 refine Ξ.body Ρ func151 rfl rfl ntmps151 rfl rfl J ?_;refine Χ ?_;refine ZU λg f=>?_;refine Κ.d (HG a) (Z1 ?_);apply f;refine ZU λg f=>?_;refine Κ.d (HG b) (Z1 ?_);apply f;refine Χ ?_;refine Η rfl ?_;refine Χ ?_;refine Η rfl ?_;refine Χ ?_;refine W.YM rfl (λc=>?_) (λc=>?_)
 .have c:a<b:=by simpa using c
  refine Χ ?_;refine W.rt ?_;exact .of (by rw[show Sc a b=-1 by simp[Sc,c]];rfl)
 .have c:¬a<b:=by simpa using c
  refine Χ ?_;refine W.YM rfl (λe=>?_) (λe=>?_)
  .have e:b<a:=by simpa using e
   refine Χ ?_;refine W.rt ?_;exact .of (by rw[show Sc a b=1 by simp[Sc,c,e]];rfl)
  .have e:¬b<a:=by simpa using e
   refine Χ ?_;refine W.rt ?_;exact .of (by rw[show Sc a b=0 by simp[Sc,c,e]];rfl)
theorem yq (a b:Int):Κ prog 203 [R a,R b] (ε (decide (a<b))):=by
 refine Ξ.body Ρ func203 rfl rfl ntmps203 rfl rfl J ?_;refine Χ ?_;refine ZU λe c=>?_;refine Κ.d (HG a) (Z1 ?_);apply c;refine Χ ?_;refine W.rt ?_;exact .of (by rw[show decide (a<b)=decide (a<b) from rfl];rfl)
def Sb:List Int->List Int->Int
 | [],[]=>0
 | [],_::_=>-1
 | _::_,[]=>1
 | a::l,b::m=>if Sc a b≠0 then Sc a b else Sb l m
theorem Es (a b:List Int) (k:a.length<2 ^ 62):Κ prog 118 [ν R 1 a,ν R 1 b] (R (Sb a b)):=by
 refine Ξ.body Ρ func118 rfl rfl ntmps118 rfl rfl J ?_;refine Χ ?_;refine W.iter (λi:Nat=>i<=a.length/\i<=b.length/\Sb a b=Sb (a.drop i) (b.drop i)) (λi=>[(0,ν R 1 a),(1,ν R 1 b),(9,ν R 1 a),(10,R a.length),(11,R i)]) (λ_=>[]) (λi=>a.length-i) 0 ⟨U,U,J⟩ rfl J (λi hi l=>?_);obtain⟨n,o,j⟩:=hi;refine Χ ?_;refine W.YM rfl (λc=>?_) (λc=>?_)
 .have c:i<a.length:=by simpa using c
  have h:a.drop i=a[i]::a.drop (i+1):=PH c;refine Ι c ?_;refine W.YM rfl (λe=>?_) (λe=>?_)
  .have e:b.length<=i:=by simp at e;omega
   refine Χ ?_;have f:b.drop i=[]:=NX e;refine W.rt ?_;exact .of (by rw[show Sb a b=1 by rw[j,h,f];rfl];rfl)
  .have e:i<b.length:=by simp at e;omega
   have f:b.drop i=b[i]::b.drop (i+1):=PH e
   repeat apply Ο
   refine P3 e ?_;refine ZU λp m=>?_;refine Κ.d (yr a[i] b[i]) (Z1 ?_);apply m;refine Χ ?_;by_cases g:Sc a[i] b[i]=0
   .refine Η (by simp[g]) ?_;refine Χ ?_;refine W.forget _ ?_ (l (i+1) ⟨c,e,?_⟩ U)
    .simp[Yx c k]
    .rw[j,h,f,Sb,if_neg (by simpa using g)]
   .refine Ε (by simp[g]) ?_;refine Χ ?_;refine W.rt ?_;exact .of (by rw[show Sb a b=Sc a[i] b[i] by rw[j,h,f,Sb,if_pos g]];rfl)
 .have c:i=a.length:=by simp at c;omega
  have h:a.drop i=[]:=NX U;refine W.exit rfl ?_;refine Χ ?_;by_cases g:a.length<b.length
  .refine Ε (by simp[g]) ?_;refine Χ ?_;have f:b.drop i=b[i]::b.drop (i+1):=PH U;refine W.rt ?_;exact .of (by rw[show Sb a b=-1 by rw[j,h,f];rfl];rfl)
  .refine Η (by simp[g]) ?_;refine Χ ?_;have f:b.drop i=[]:=NX U;refine W.rt ?_;exact .of (by rw[show Sb a b=0 by rw[j,h,f];rfl];rfl)
def Te (x y:Int×Int):Int:=Sb [x.1,x.2] [y.1,y.2]
theorem Er (x y:Int×Int):Κ prog 174 [Zq x,Zq y] (R (Te x y)):=by
 refine Ξ.body Ρ func174 rfl rfl ntmps174 rfl rfl J ?_;refine Χ ?_;refine W.draw (A:=[]) Ρ mixed λb a=>U5 ?_;refine YD (Κ.p (Es [x.1,x.2] [y.1,y.2] J) (.cons .ex (.cons .ex .nil)) J J) ?_;simp;(repeat (rw[ZL];simp));try rw[ZM]
 refine YG (a _ _ ?_);refine Χ ?_;refine W.rt ?_;exact .of rfl
theorem yp (x y:Found):Κ prog 148 [YQ x,YQ y] (R (Te (x.u,x.v) (y.u,y.v))):=by
 refine Ξ.body Ρ func148 rfl rfl ntmps148 rfl rfl J ?_;refine Χ ?_;refine W.draw (A:=[]) Ρ mixed λb a=>U5 ?_;refine YD (Κ.p (Es [x.u,x.v] [y.u,y.v] J) (.cons .ex (.cons .ex .nil)) J J) ?_;simp;(repeat (rw[ZL];simp));try rw[ZM]
 refine YG (a _ _ ?_);refine Χ ?_;refine W.rt ?_;exact .of rfl
def X6 (l:List Found):Nat:=(l.map (·.many (-1))).sum
theorem yo (l:List Found) (g:l.length<2 ^ 62) (j:∀f∈l,f.cells.length<2 ^ 62/\∀i,i<=f.cells.length->Xb f.cells (-1) i<2 ^ 62) (r:X6 l<2 ^ 62) :
  Κ prog 79 [Y2 l] (R (X6 l)):=by
 refine Ξ.body Ρ func79 rfl rfl ntmps79 rfl rfl J ?_;refine Χ ?_;refine W.iter (λi:Nat=>i<=l.length) (λi=>[(3,R (X6 (l.take i))),(6,Y2 l),(7,R l.length),(8,R i)]) (λ_=>[]) (λi=>l.length-i) 0 (ω _) rfl (by simp[X6]) (λi hi k=>?_);refine Χ ?_;refine W.YM rfl (λa=>?_) (λa=>?_)
 .have a:i<l.length:=by simpa using a
  obtain⟨m,n⟩:=j _ (Y7 a);have c:X6 (l.take (i+1))=X6 (l.take i)+l[i].many (-1):=by
   unfold X6;rw[Wp a,XR,List.sum_append];simp only[X3,T1,List.sum_cons,List.sum_nil,Nat.add_zero]
  have o:X6 (l.take i)+l[i].many (-1)<2 ^ 62:=by
   rw[<-c];have e:X6 l=X6 (l.take (i+1))+X6 (l.drop (i+1)):=by
    conv=>lhs;rw[<-NW (i+1) l]
    simp only[X6,XR,List.sum_append]
   omega
  repeat apply Ο
  refine Y4 (A:=[5]) Ρ λp b=>XC a ?_;apply b;refine ZU λp b=>?_;refine Κ.d (JD l[i] (-1) m n) (Z1 ?_);apply b;refine Χ ?_;refine W.drop (h:=0) (ω _) (ω _) J rfl _ ?_ (k (i+1) a U);rw[c];have:=X7 o;simp[Yx a g] at this ⊢;exact this
 .have a:i=l.length:=by simp at a;omega
  subst a;refine W.exit rfl ?_;refine Χ ?_;refine W.rt ?_;exact .of (by rw[show X6 l=X6 (l.take l.length) by simp];rfl)
theorem χ.Wg {a:I} (h:χ 0 a) (ρ:List Nat):Wg ρ a=a:=by
 cases h with
 | Ν h=>omega
 | ms h=>omega
 | mp h=>omega
 | it h=>omega
 | _=>rfl
theorem JC {l:ξ} (h:∀a∈l,χ 0 a) (ρ:List Nat):l.map (Wg ρ)=l:=by
 induction l with
 | nil=>rfl
 | cons a l b=>rw[X3,(h a J).Wg,b λx c=>h x (by simp[c])]
theorem χ.Ym {a:I} (h:χ 0 a) (ρ:List Nat):Ym ρ a=a:=by
 have b:=h;cases h with
 | Z7 h=>simp only[Go.TL.Ym];rw[JC h]
 | ZX h=>simp only[Go.TL.Ym];rw[JC h]
 | fn c d=>simp only[Go.TL.Ym];rw[JC c,JC d]
 | _=>exact b.Wg ρ
theorem χ.top {a:I} (h:χ 0 a) (n:Nat):Sg n a:=by
 have b:=h;cases h with
 | Ν h=>omega
 | ms h=>omega
 | mp h=>omega
 | it h=>omega
 | _=>exact b
theorem χ.VL {a:I} (h:χ 0 a) (n:Nat):Xm n a:=by
 have c:=h;cases h with
 | Z7 h=>exact λa b=>(h a b).top n
 | ZX h=>exact λa b=>(h a b).top n
 | fn d e=>exact⟨λa b=>(d a b).top n,λa b=>(e a b).top n⟩
 | _=>exact c.top n
theorem SJ {h id n i len:Nat}:Xm h (.ms id n i len)↔id<h:=Iff.rfl
theorem Oj {h:Nat} {v:Value}:Xm h (.z v)↔True:=⟨λ_=>trivial,λ_=>(χ.z v).VL h⟩
theorem SI {ρ:List Nat} {id n i len:Nat}:Ym ρ (.ms id n i len)=.ms (ρ.getD id 0) n i len:=rfl
theorem SH {ρ:List Nat} {v:Value}:Ym ρ (.z v)=.z v:=rfl
section
variable {P:Program} {σ:Τ}
theorem Ξ.one {g:FuncId} {as0:ξ} {c row':Row} {r:I} {K E:I->Τ->Prop} (h:Ξ P g as0 [c] (λa s=>a=r/\s=[row']) (λ_ _=>False)) (id:Nat) (f:σ[id]?=some c) (k:VM c) (l:VM row') (m:∀a∈as0,Xm 1 a) (b:Xm 1 r)
  {args:ξ} (n:args=as0.map (Ym [id])) (o:K (Ym [id] r) (σ.set id row')):WO P (.fn (.func g) [] []) args σ K E:=by
 subst n;have p:=Ξ.rows (σ:=σ) h [id] J rfl (λj i d=>by
  cases j with
  | zero=>simp at d;subst d;exact f
  | succ j=>simp at d) (λr b=>by simp at b;subst b;exact k) (by simpa using m) (K':=K) (E':=E) (λa s ⟨t,u⟩=>by
   subst t;subst u;refine⟨λx e=>by simp at e;subst e;exact l,b,?_⟩;simpa[names,P4,VN] using o) (λa s h=>h.elim)
 exact Ξ.call (first:=[]) (captured:=[]) (by simpa using p)
end
section
variable {P:Program} {σ:Τ}
theorem Ξ.HF {g:FuncId} {as0:ξ} {c:Row} {K0 K E:I->Τ->Prop} (h:Ξ P g as0 [c] K0 (λ_ _=>False)) (id:Nat) (f:σ[id]?=some c) (k:VM c) (l:∀a∈as0,Xm 1 a)
  {args:ξ} (m:args=as0.map (Ym [id])) (n:∀a s,K0 a s->∃row',s=[row']/\VM row'/\Xm 1 a/\K (Ym [id] a) (σ.set id row')):WO P (.fn (.func g) [] []) args σ K E:=by
 subst m;have o:=Ξ.rows (σ:=σ) h [id] J rfl (λj i d=>by
  cases j with
  | zero=>simp at d;subst d;exact f
  | succ j=>simp at d) (λr b=>by simp at b;subst b;exact k) (by simpa using l) (K':=K) (E':=E) (λa s p=>by
   obtain⟨row',rfl,t,b,u⟩:=n a s p;refine⟨λx e=>by simp at e;subst e;exact t,b,?_⟩;simpa[names,P4,VN] using u) (λa s h=>h.elim)
 exact Ξ.call (first:=[]) (captured:=[]) (by simpa using o)
end
theorem Oi {b:Type} {f:b->I} {t k:Nat} {l:List b} (h:∀x,∀a∈(f x).cells,χ 0 a):VM (.cells t k (l.map f)):=λe c a d=>by
 obtain⟨x,_,rfl⟩:=Zc.1 c;exact h x a d
theorem Yr.part {id k m:Nat} {σ:Τ} {t:TypeId} {l l2:ξ} (h:σ[id]?=some (.cells t k (l++l2))) (i:l.length=m) (n:∀e∈l,∀a∈e.cells,χ 0 a):Yr 0 σ (.ms id (l++l2).length 0 m) (.sl false k l):=by
 subst i;refine .ms (ω _) h rfl J rfl (λj e o c b=>?_) (λj e o c b x a p f g=>?_)
 .have d:=(ZB.1 b).1;rw[U',YL d] at c;rw[c] at b;cases b;rfl
 .have d:=(ZB.1 b).1;rw[U',YL d] at c;rw[c] at b;cases b;rw[f] at g;cases g;exact .low (n e (Zp c) a (Zp f))
theorem P1 {a:Type} [Inhabited a] {d:Array a} {i:Nat} (h:i<d.size):d[i]?=some d[i]!:=by simp[h]
def Γ {a:Type} (b:a->a->Int) (x y:a):Bool:=decide (b x y<0)
end Go.TL
