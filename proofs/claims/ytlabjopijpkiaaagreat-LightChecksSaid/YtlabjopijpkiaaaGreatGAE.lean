import Derived.KernelRfl
import Derived.Sort.AssemblyPlain
import Derived.Test.YtlabjopijpkiaaaGreatProg
import Derived.Test.YtlabjopijpkiaaaGreatGAD
set_option maxHeartbeats 16000000
set_option maxRecDepth 20000
set_option linter.unusedSectionVars false
set_option linter.unusedSimpArgs false
set_option linter.unusedVariables false
namespace Go.TL
open Go.Proofs.Tryz
open Go.Conc
variable [ZS]
def MN (ops:Array Oper) (o:Oper):List Tmp:=
 (o.op.operands.toList.filterMap fun|.tmp t=>some t|_=>none)++(match o.guard with|some (g,_)=>((ops[g]?).bind (·.dst)).toList|none=>[])
def W8 (o:Oper):List Nat:=(o.after.toList.filter (Region.binds .any)).map (·.on)
def MM:List Oper->List (List Nat)->List (List Nat)
 | [],a=>a
 | o::b,a=>MM b (a++[W8 o++(W8 o).flatMap λj=>a.getD j []])
def KI (ops:Array Oper):List (List Nat):=MM ops.toList []
def Wq (o:Oper):Bool:=match o.op with
 | .load _ _=>true
 | .indexAddr _ _ _=>true
 | .fieldAddr _ _ _=>true
 | .nilCheck _=>true
 | _=>false
def UL (Η:Nat->Nat->Bool) (ops:Array Oper) (tags:List Bool) (i j:Nat) (a b:Oper):Bool:=
 (match b.dst with|some d=>(MN ops a).contains d||a.dst==some d|none=>false)||(match a.dst with|some d=>(MN ops b).contains d|none=>false)||(tags.getD i false&&tags.getD j false&&!(Wq a&&Wq b)&&!Η i j)
def QK (Η:Nat->Nat->Bool) (ops:Array Oper) (tags:List Bool):Bool:=
 let b:=KI ops
 (List.range ops.size).all λi=>match ops[i]? with
  | none=>false
  | some a=>(W8 a).all (λj=>decide (j<i))&&(List.range i).all λj=>match ops[j]? with
   | none=>false
   | some c=>!UL Η ops tags i j a c||(b.getD i []).contains j
def QJ (_ _:Nat):Bool:=false
def clash (ops:Array Oper) (tags:List Bool) (i j:Nat) (a b:Oper):Bool:=UL QJ ops tags i j a b
def Uq (ops:Array Oper) (tags:List Bool):Bool:=QK QJ ops tags
def Up (lo pu:List Nat) (i j:Nat):Bool:=lo.contains i&&pu.contains j||pu.contains i&&lo.contains j
section
variable {P:Program} {T:Z5} {A:List Nat} {m nt:Nat} {k:List Item} {env:Ι} {σ:Υ} {Z:XF} {E:Yf} {ops:Array Oper}
theorem W.congr {env':Ι} (h:∀i,Z' env' i=Z' env i) (c:W P m nt k env σ Z E):W P m nt k env' σ Z E:=
 λd mn x cs b S B H t e f a g j=>c d mn x cs b S B H t e f ⟨a.holds,λi=>by rw[<-h i];exact a.Zr i,a.size,a.rows⟩ g j
theorem Gk (c:Region.Mode):∀(a t:Nat) (listed:Array Bool) (i:Nat),Region.linearise.go c ops a t listed [i]=i::Region.linearise.go c ops a t listed []:=by
 have gen:∀(a t:Nat) (listed:Array Bool) (b:List Nat),Region.linearise.go c ops a t listed b=b.reverse++Region.linearise.go c ops a t listed []:=by
  intro a
  induction a with
  | zero=>intro t listed b;simp[Region.linearise.go]
  | succ a d=>
   intro t listed b;simp only[Region.linearise.go];split
   .rename_i i _;rw[d _ _ (i::b),d _ _ [i]];simp
   .simp
 intro a t listed i;rw[gen];rfl
theorem KH (n:∀i o,ops[i]?=some o->∀j∈W8 o,j<i) (D:Nat->Prop) (p:∀i o,ops[i]?=some o->D i->∀j∈W8 o,D j) :
  ∀(i:Nat) (o:Oper),ops[i]?=some o->(∀j∈W8 o,D j)->∀j∈(KI ops).getD i [],D j:=by
 have r:∀(d:List Oper) (a:List (List Nat)),(∀x,d[x]?=ops[a.length+x]?)->(∀i o,i<a.length->ops[i]?=some o->(∀j∈W8 o,D j)->∀j∈a.getD i [],D j)->
   ∀i o,i<a.length+d.length->ops[i]?=some o->(∀j∈W8 o,D j)->∀j∈(MM d a).getD i [],D j:=by
  intro d
  induction d with
  | nil=>intro a _ h i o hi;exact h i o (by simpa using hi)
  | cons q d s=>
   intro a g h i o hi b c;have e:ops[a.length]?=some q:=by have:=g 0;simpa using this.symm
   refine s (a++[W8 q++(W8 q).flatMap λj=>a.getD j []]) (λx=>?_) (λi o hi b c=>?_) i o (by simp at hi ⊢;omega) b c
   .have:=g (x+1);simp only[List.getElem?_cons_succ] at this;rw[this];simp;congr 1;omega
   .by_cases k:i<a.length
    .rw[Xk,YU k,<-Xk];exact h i o k b c
    .have t:i=a.length:=by simp at hi;omega
     subst t;rw[e] at b;cases b;rw[Xk,XT (ZO _)];simp only[Qj,List.getElem?_cons_zero,Option.getD_some,V6,List.mem_flatMap];rintro j (f|⟨y,l,f⟩)
     .exact c j f
     .have u:=n _ _ e y l
      have v:y<ops.size:=by have:=(UA.1 e).1;omega
      have m:ops[y]?=some ops[y]:=X4 v;exact h y _ u m (p y _ m (c y l)) j f
 intro i o b c;exact r ops.toList [] (λx=>J) (λi o hi=>by simp at hi) i o (by have:=(UA.1 b).1;simpa using this) b c
def Tn (ops:Array Oper) (o:Oper) (env env':Ι):Prop:=∀t∈MN ops o,Z' env' t=Z' env t
def P9 (P:Program) (m nt:Nat) (k:List Item) (Z:XF) (E:Yf) (ops:Array Oper) (i:Nat) (o:Oper) (env:Ι) (a:I):Prop:=
 ∀env' σ' rest,Tn ops o env env'->W P m nt (.inRegion ops rest::k) (ZE o env' a) σ' Z E->W P m nt (.inRegion ops (i::rest)::k) env' σ' Z E
def P8 (P:Program) (m nt:Nat) (k:List Item) (Z:XF) (E:Yf) (ops:Array Oper) (i:Nat) (o:Oper) (env:Ι) (σ:Υ) (a:I) (b:Υ):Prop:=
 ∀env' rest,Tn ops o env env'->W P m nt (.inRegion ops rest::k) (ZE o env' a) b Z E->W P m nt (.inRegion ops (i::rest)::k) env' σ Z E
def Zp (ops:Array Oper) (env0:Ι) (as9:Nat->I) (a:Nat->Bool):Nat->Ι
 | 0=>env0
 | n+1=>if a n then(match ops[n]? with|some o=>ZE o (Zp ops env0 as9 a n) (as9 n)|none=>Zp ops env0 as9 a n) else Zp ops env0 as9 a n
theorem O5 {o:Oper} {env:Ι} {a:I} {t:Nat}:Z' (ZE o env a) t=if o.dst=some t then a else Z' env t:=by
 unfold ZE;cases hd:o.dst with
 | none=>simp
 | some d=>simp[Z']
theorem N9 {env0:Ι} {as9:Nat->I} {b a:Nat->Bool} {t:Nat}:∀(n:Nat),(∀i o,i<n->ops[i]?=some o->o.dst=some t->b i=a i)->Z' (Zp ops env0 as9 b n) t=Z' (Zp ops env0 as9 a n) t:=by
 intro n
 induction n with
 | zero=>intro _;rfl
 | succ n d=>
  intro h;have c:=d λi o hi=>h i o U;simp only[Zp];cases e:ops[n]? with
  | none=>cases b n<;>cases a n<;>simpa using c
  | some o=>
   by_cases hd:o.dst=some t
   .rw[h n o (Q4 n) e hd];cases a n
    .simpa using c
    .simp[O5,hd]
   .cases b n<;>cases a n<;>simp[O5,hd,c]
theorem KG {env0:Ι} {as9:Nat->I} {a:Nat->Bool} {t:Nat} {n N:Nat} (j:n<=N) (h:∀i o,n<=i->i<N->ops[i]?=some o->o.dst=some t->a i=false):Z' (Zp ops env0 as9 a N) t=Z' (Zp ops env0 as9 a n) t:=by
 induction N with
 | zero=>have:n=0:=U
         subst this;rfl
 | succ N d=>
  by_cases e:n=N+1
  .subst e;rfl
  .have b:=d U λi o f k=>h i o f U;simp only[Zp];cases c:a N
   .simpa using b
   .cases g:ops[N]? with
    | none=>simpa using b
    | some o=>
     have hd:o.dst≠some t:=λhd=>by rw[h N o U (Q4 N) g hd] at c;cases c
     simp[O5,hd,b]
def writer (ops:Array Oper) (tags:List Bool) (i:Nat):Bool:=tags.getD i false&&match ops[i]? with|some o=>!Wq o|none=>true
theorem W.Gj {lo pu:List Nat} {V:Type} {v:Υ->V} {as9:Nat->I} {σs:Nat->Υ} {tags:List Bool} {env0:Ι} (ai:QK (Up lo pu) ops tags=true)
  (ay:∀i o,ops[i]?=some o->tags.getD i false=false->P9 P m nt k Z E ops i o (Zp ops env0 as9 (λ_=>true) i) (as9 i)/\σs (i+1)=σs i)
  (aj:∀i o,ops[i]?=some o->tags.getD i false=true->P8 P m nt k Z E ops i o (Zp ops env0 as9 (λ_=>true) i) (σs i) (as9 i) (σs (i+1))/\(Wq o=true->σs (i+1)=σs i))
  (ak:∀i o,ops[i]?=some o->lo.contains i=true->tags.getD i false=true->Wq o=true/\∀τ,v τ=v (σs i)->P8 P m nt k Z E ops i o (Zp ops env0 as9 (λ_=>true) i) τ (as9 i) τ)
  (aM:∀i o,ops[i]?=some o->pu.contains i=true->v (σs (i+1))=v (σs i))
  (aN:W P m nt (.inRegion ops []::k) (Zp ops env0 as9 (λ_=>true) ops.size) (σs ops.size) Z E) :
  ∀(Q:Nat) (t:Nat) (listed:Array Bool) (env:Ι) (p:Nat),listed.size=ops.size->
   (∀i,Z' env i=Z' (Zp ops env0 as9 (λi=>listed.getD i false) ops.size) i)->
   (∀i o,ops[i]?=some o->listed.getD i false=true->∀j∈W8 o,listed.getD j false=true)->
   p<=ops.size->(∀j,j<ops.size->writer ops tags j=true->(listed.getD j false=true↔j<p))->
   ((List.range ops.size).filter λi=>!listed.getD i false).length<=Q->
   W P m nt (.inRegion ops (Region.linearise.go .any ops Q t listed [])::k) env (σs p) Z E:=by
 have al:∀i o,ops[i]?=some o->(∀j∈W8 o,j<i)/\∀j n,j<i->ops[j]?=some n->UL (Up lo pu) ops tags i j o n=true->j∈(KI ops).getD i []:=by
  intro i o l;have hi:i<ops.size:=(UA.1 l).1;unfold QK at ai;simp only[WN,UY] at ai;have h:=ai i hi;rw[l] at h;simp only[VE,WN,decide_eq_true_eq,UY] at h;refine⟨h.1,λj n c w X=>?_⟩;have s:=h.2 j c;rw[w] at s;simp only[X,Bool.not_true,Bool.false_or,L6] at s;exact s
 have am:∀i o,ops[i]?=some o->∀j∈W8 o,j<i:=λi o l=>(al i o l).1
 have an:∀i o,ops[i]?=some o->writer ops tags i=false->σs (i+1)=σs i:=λi o l H=>by
  cases f:tags.getD i false with
  | false=>exact(ay i o l f).2
  | true=>
   refine(aj i o l f).2 ?_;unfold writer at H;rw[f,l] at H;simpa using H
 have az:∀(d a:Nat),a+d<=ops.size->(∀j,a<=j->j<a+d->writer ops tags j=false)->σs (a+d)=σs a:=by
  intro d
  induction d with
  | zero=>intro a _ _;rfl
  | succ d D=>
   intro a hle h;have g:ops[a+d]?=some ops[a+d]:=X4 U;have:=an (a+d) _ g (h (a+d) U U);rw[show a+(d+1)=a+d+1 by omega,this];exact D a U λj g s=>h j g U
 have ao:∀a b,a<=ops.size->b<=ops.size->(∀j,j<ops.size->writer ops tags j=true->(j<a↔j<b))->σs a=σs b:=λa b aA Y h=>by
  rcases Nat.le_total a b with hle|hle
  .have:=az (b-a) a U λj g s=>by
    cases f:writer ops tags j with
    | false=>rfl
    | true=>have:=(h j U f).2 U;omega
   rw[show a+(b-a)=b by omega] at this;exact this.symm
  .have:=az (a-b) b U λj g s=>by
    cases f:writer ops tags j with
    | false=>rfl
    | true=>have:=(h j U f).1 U;omega
   rw[show b+(a-b)=a by omega] at this;exact this
 have aO:∀a b,a<=ops.size->b<=ops.size->(∀j,j<ops.size->writer ops tags j=true->pu.contains j=false->(j<a↔j<b))->v (σs a)=v (σs b):=λa b aA Y h=>by
  have aP:∀(d a:Nat),a+d<=ops.size->(∀j,a<=j->j<a+d->writer ops tags j=true->pu.contains j=true)->v (σs (a+d))=v (σs a):=by
   intro d
   induction d with
   | zero=>intro a _ _;rfl
   | succ d D=>
    intro a hle h;have g:ops[a+d]?=some ops[a+d]:=X4 U;have e:v (σs (a+d+1))=v (σs (a+d)):=by
     cases H:writer ops tags (a+d) with
     | false=>rw[an (a+d) _ g H]
     | true=>exact aM (a+d) _ g (h (a+d) U U H)
    rw[show a+(d+1)=a+d+1 by omega,e];exact D a U λj g s=>h j g U
  have aB:∀x y,y<=ops.size->(∀j,j<ops.size->writer ops tags j=true->pu.contains j=false->(j<x↔j<y))->x<=y->v (σs y)=v (σs x):=λx y ap h hle=>by
   have:=aP (y-x) x U λj g s H=>by
    cases aq:pu.contains j with
    | true=>rfl
    | false=>have:=(h j U H aq).2 U;omega
   rwa [show x+(y-x)=y by omega] at this
  rcases Nat.le_total a b with hle|hle
  .exact(aB a b Y h hle).symm
  .exact aB b a aA (λj g s A=>(h j g s A).symm) hle
 intro Q;have done:∀(t:Nat) (listed:Array Bool) (env:Ι) (p:Nat),(∀i,i<ops.size->listed.getD i false=true)->(∀i,Z' env i=Z' (Zp ops env0 as9 (λi=>listed.getD i false) ops.size) i)->p<=ops.size->
   (∀j,j<ops.size->writer ops tags j=true->(listed.getD j false=true↔j<p))->W P m nt (.inRegion ops []::k) env (σs p) Z E:=λt listed env p R M B K=>by
  have aQ:σs p=σs ops.size:=ao p ops.size B (ZO _) λj c f=>by rw[<-K j c f];simp[R j c,c]
  rw[aQ];refine .congr (λi=>?_) aN;rw[M i];exact N9 ops.size λi o hi _ _=>R i hi
 have aR:∀listed:Array Bool,listed.size=ops.size->(∃i,i<ops.size/\listed.getD i false=false)->∃i,i<ops.size/\listed.getD i false=false/\∀j,j<i->listed.getD j false=true:=λlisted N ⟨i,hi,u⟩=>by
  induction i using Nat.strongRecOn with
  | _ i D=>
   by_cases c:∃j,j<i/\listed.getD j false=false
   .obtain⟨j,g,s⟩:=c;exact D j g U s
   .exact⟨i,hi,u,λj aS=>by
     cases h:listed.getD j false with
     | true=>rfl
     | false=>exact absurd ⟨j,aS,h⟩ c⟩
 induction Q with
 | zero=>
  intro t listed env p N M aa B K aT;have R:∀i,i<ops.size->listed.getD i false=true:=λi hi=>by
   cases h:listed.getD i false with
   | true=>rfl
   | false=>
    have ab:i∈(List.range ops.size).filter λi=>!listed.getD i false:=by rw[S0];exact⟨UY.2 hi,by rw[h];rfl⟩
    have:((List.range ops.size).filter λi=>!listed.getD i false)=[]:=YV.1 U;rw[this] at ab;simp at ab
  exact done t listed env p R M B K
 | succ Q D=>
  intro t listed env p N M aa B K aT;simp only[Region.linearise.go];generalize aU:((List.range ops.size).filter λi=>!listed.getD i true&&((ops[i]?).map (·.after.all λe=>!Region.binds .any e||listed.getD e.on false)).getD false)=O;have aC:∀i,i<ops.size->listed.getD i true=listed.getD i false:=λi hi=>by
   rw[W3,W3,X4 U];rfl
  have aD:∀i,i∈O↔i<ops.size/\listed.getD i false=false/\∀o,ops[i]?=some o->∀j∈W8 o,listed.getD j false=true:=λi=>by
   rw[<-aU];simp only[S0,UY,VE,Bool.not_eq_true'];constructor
   .rintro⟨g,s,A⟩;rw[aC i g] at s;refine⟨g,s,λo l j c=>?_⟩;rw[l] at A;simp only[Option.map_some,Option.getD_some,L2] at A;unfold W8 at c;simp only[YK,S0] at c;obtain⟨e,⟨aV,aW⟩,rfl⟩:=c;have:=A e (by simpa using aV);simpa[aW] using this
   .rintro⟨g,s,A⟩;refine⟨g,by rw[aC i g];exact s,?_⟩;have l:ops[i]?=some ops[i]:=X4 g;rw[l];simp only[Option.map_some,Option.getD_some,L2];intro e aX;by_cases Y:Region.binds .any e=true
    .have:=A _ l e.on (by unfold W8;simp only[YK,S0];exact⟨e,⟨by simpa using aX,Y⟩,rfl⟩);simp[this]
    .simp[Y]
  cases hi:O[t % O.length]? with
  | none=>
   simp only[List.reverse_nil];have aY:O=[]:=by
    cases aZ:O with
    | nil=>rfl
    | cons x xs=>
     rw[aZ] at hi;have ar:t % (x::xs).length<(x::xs).length:=Nat.mod_lt _ J;rw[ε ar] at hi;cases hi
   have R:∀i,i<ops.size->listed.getD i false=true:=λi a0=>by
    cases h:listed.getD i false with
    | true=>rfl
    | false=>
     obtain⟨r,g,s,A⟩:=aR listed N ⟨i,a0,h⟩;have:r∈O:=(aD r).2 ⟨g,s,λo l j c=>A j (am r o l j c)⟩;rw[aY] at this;simp at this
   exact done t listed env p R M B K
  | some i=>
   simp only;rw[Gk];have ab:i∈O:=Zk hi;obtain⟨g,s,A⟩:=(aD i).1 ab;have l:ops[i]?=some ops[i]:=X4 g;have a1:=KH am (λj=>listed.getD j false=true) (λj o c u=>aa j o c u) i _ l (A _ l);have low:∀j n,j<i->ops[j]?=some n->UL (Up lo pu) ops tags i j ops[i] n=true->listed.getD j false=true:=λj n c w X=>a1 j ((al i _ l).2 j n c w X);have high:∀j n,i<j->ops[j]?=some n->UL (Up lo pu) ops tags j i n ops[i]=true->listed.getD j false=false:=λj n c w X=>by
    cases u:listed.getD j false with
    | false=>rfl
    | true=>
     have:=KH am (λj=>listed.getD j false=true) (λj o c u=>aa j o c u) j n w (aa j n w u) i ((al j n w).2 i _ c l X);rw[s] at this;cases this
   have ad:Tn ops ops[i] (Zp ops env0 as9 (λ_=>true) i) env:=λx aE=>by
    rw[M x];have au:Z' (Zp ops env0 as9 (λi=>listed.getD i false) ops.size) x=Z' (Zp ops env0 as9 (λi=>listed.getD i false) i) x:=KG U λj n a2 a3 w hd=>by
     by_cases e:j=i
     .subst e;exact s
     .refine high j n U w ?_;unfold UL;simp[hd,aE]
    rw[au];exact N9 i λj n c w hd=>low j n c w (by unfold UL;simp[hd,aE])
   have ae:∀x,Z' (ZE ops[i] env (as9 i)) x=Z' (Zp ops env0 as9 (λj=>(listed.setIfInBounds i true).getD j false) ops.size) x:=λx=>by
    have F:∀j,(listed.setIfInBounds i true).getD j false=if j=i then true else listed.getD j false:=λj=>by
     rw[W3,W3];by_cases e:j=i
     .subst e;rw[T5 U];simp
     .rw[Vp (Y2 e),if_neg e]
    rw[O5];by_cases hd:ops[i].dst=some x
    .rw[if_pos hd];have au:Z' (Zp ops env0 as9 (λj=>(listed.setIfInBounds i true).getD j false) ops.size) x=Z' (Zp ops env0 as9 (λj=>(listed.setIfInBounds i true).getD j false) (i+1)) x:=KG U λj n a2 a3 w av=>by
      rw[F,if_neg U];refine high j n U w ?_;unfold UL;simp[hd,av]
     rw[au];simp only[Zp,F,if_true,l,O5,hd]
    .rw[if_neg hd,M x];exact N9 ops.size λj n c w av=>by
      rw[F,if_neg];intro e;subst e;rw[l] at w;cases w;exact hd av
   have F:∀j,(listed.setIfInBounds i true).getD j false=if j=i then true else listed.getD j false:=λj=>by
    rw[W3,W3];by_cases e:j=i
    .subst e;rw[T5 U];simp
    .rw[Vp (Y2 e),if_neg e]
   have af:((List.range ops.size).filter λj=>!(listed.setIfInBounds i true).getD j false).length<=Q:=by
    have ar:((List.range ops.size).filter λj=>!(listed.setIfInBounds i true).getD j false).length<((List.range ops.size).filter λj=>!listed.getD j false).length:=by
     have:((List.range ops.size).filter λj=>!(listed.setIfInBounds i true).getD j false)=((List.range ops.size).filter λj=>!listed.getD j false).filter λj=>j != i:=by
      rw[List.filter_filter];apply List.filter_congr;intro j _;rw[F];by_cases e:j=i
      .subst e;simp
      .simp[e]
     rw[this];have a4:i∈(List.range ops.size).filter λj=>!listed.getD j false:=by
      rw[S0];exact⟨UY.2 g,by rw[s];rfl⟩
     exact List.length_filter_lt_length_iff_exists.2 ⟨i,a4,J⟩
    omega
   have ag:∀j o,ops[j]?=some o->(listed.setIfInBounds i true).getD j false=true->∀y∈W8 o,(listed.setIfInBounds i true).getD y false=true:=λj o c u y ap=>by
    rw[F] at u ⊢;by_cases e:y=i
    .rw[if_pos e]
    .rw[if_neg e];by_cases Χ:j=i
     .subst Χ;rw[l] at c;cases c;exact A _ l y ap
     .rw[if_neg Χ] at u;exact aa j o c u y ap
   have aF:∀j,writer ops tags j=true->tags.getD j false=true:=λj h=>by
    unfold writer at h;rw[VE] at h;exact h.1
   cases L:tags.getD i false with
   | false=>
    refine(ay i _ l L).1 env (σs p) _ ad ?_;refine D _ _ _ p (by simpa using N) ae ag B (λj c f=>?_) af;rw[F];have:j≠i:=λe=>by subst e;rw[aF j f] at L;cases L
    rw[if_neg this];exact K j c f
   | true=>
    have aG:∀j n,ops[j]?=some n->writer ops tags j=true->lo.contains i=false\/pu.contains j=false->UL (Up lo pu) ops tags i j ops[i] n=true/\UL (Up lo pu) ops tags j i n ops[i]=true:=λj n w f C=>by
     have g:=aF j f
     have aH:lo.contains j=false:=by
      cases u:lo.contains j with
      | false=>rfl
      | true=>
       have:=(ak j n w u g).1;unfold writer at f;rw[g,w] at f;simp[this] at f
     unfold writer at f;rw[g,w] at f;have s:Wq n=false:=by simpa using f
     have C:(lo.contains i&&pu.contains j)=false:=by
      rcases C with h|h
      .rw[h];rfl
      .rw[h,Bool.and_false]
     have f1:Up lo pu i j=false:=by unfold Up;rw[C,aH,Bool.and_false];rfl
     have f2:Up lo pu j i=false:=by unfold Up;rw[aH,Bool.and_comm (pu.contains j),C];rfl
     unfold UL;rw[g,L,s,f1,f2];simp
    have aI:∀j,j<ops.size->writer ops tags j=true->lo.contains i=false\/pu.contains j=false->j<i->listed.getD j false=true:=λj c f C aw=>low j _ aw (X4 c) (aG j _ (X4 c) f C).1
    have aJ:∀j,j<ops.size->writer ops tags j=true->lo.contains i=false\/pu.contains j=false->i<j->listed.getD j false=false:=λj c f C aw=>high j _ aw (X4 c) (aG j _ (X4 c) f C).2
    have ax:∀j,j<ops.size->writer ops tags j=true->lo.contains i=false\/pu.contains j=false->(j<p↔j<i):=λj c f C=>by
     rw[<-K j c f];constructor
     .intro u;apply T4;intro a5;by_cases e:j=i
      .subst e;rw[s] at u;cases u
      .rw[aJ j c f C U] at u;cases u
     .exact aI j c f C
    cases S:writer ops tags i with
    | false=>
     have aK:∀j,j<ops.size->writer ops tags j=true->((listed.setIfInBounds i true).getD j false=true↔j<p):=λj c f=>by
      rw[F];have:j≠i:=λe=>by subst e;rw[f] at S;cases S
      rw[if_neg this];exact K j c f
     cases T:lo.contains i with
     | true=>
      refine(ak i _ l T L).2 (σs p) (aO p i B U λj c f aq=>ax j c f (.inr aq)) env _ ad ?_;exact D _ _ _ p (by simpa using N) ae ag B aK af
     | false=>
      have ah:σs p=σs i:=ao p i B U λj c f=>ax j c f (.inl T)
      have es:=an i _ l S
      have aL:=(aj i _ l L).1;rw[es] at aL;rw[ah];refine aL env _ ad ?_;rw[<-ah];exact D _ _ _ p (by simpa using N) ae ag B aK af
    | true=>
     have T:lo.contains i=false:=by
      cases u:lo.contains i with
      | false=>rfl
      | true=>
       have:=(ak i _ l u L).1;unfold writer at S;rw[l] at S;simp[this] at S
     have ah:σs p=σs i:=ao p i B U λj c f=>ax j c f (.inl T);rw[ah];refine(aj i _ l L).1 env _ ad ?_;refine D _ _ _ (i+1) (by simpa using N) ae ag U (λj c f=>?_) af;rw[F];by_cases e:j=i
     .subst e;simp
     .rw[if_neg e];constructor
      .intro u;apply T4;intro a5;rw[aJ j c f (.inl T) U] at u;cases u
      .intro ar;exact aI j c f (.inl T) U
theorem W.AR {as9:Nat->I} {σs:Nat->Υ} {tags:List Bool} {env0:Ι} (c:Uq ops tags=true)
  (d:∀i o,ops[i]?=some o->tags.getD i false=false->P9 P m nt k Z E ops i o (Zp ops env0 as9 (λ_=>true) i) (as9 i)/\σs (i+1)=σs i)
  (f:∀i o,ops[i]?=some o->tags.getD i false=true->P8 P m nt k Z E ops i o (Zp ops env0 as9 (λ_=>true) i) (σs i) (as9 i) (σs (i+1))/\(Wq o=true->σs (i+1)=σs i))
  (g:W P m nt (.inRegion ops []::k) (Zp ops env0 as9 (λ_=>true) ops.size) (σs ops.size) Z E) :
  ∀(b:Nat) (t:Nat) (listed:Array Bool) (env:Ι) (a:Nat),listed.size=ops.size->
   (∀i,Z' env i=Z' (Zp ops env0 as9 (λi=>listed.getD i false) ops.size) i)->
   (∀i o,ops[i]?=some o->listed.getD i false=true->∀j∈W8 o,listed.getD j false=true)->
   a<=ops.size->(∀j,j<ops.size->writer ops tags j=true->(listed.getD j false=true↔j<a))->
   ((List.range ops.size).filter λi=>!listed.getD i false).length<=b->
   W P m nt (.inRegion ops (Region.linearise.go .any ops b t listed [])::k) env (σs a) Z E:=by
 have e:Up [] []=QJ:=by funext i j;simp[Up,QJ]
 exact W.Gj (lo:=[]) (pu:=[]) (v:=λ_=>()) (by rw[e];exact c) d f (λi o _ h=>by simp at h) (λi o _ h=>by simp at h) g
def KF:List Oper->List Nat->List Nat
 | [],acc=>acc
 | o::a,acc=>KF a (acc++[(W8 o).foldr (λj m=>(1 <<< j)|||acc.getD j 0|||m) 0])
def IX (Η:Nat->Nat->Bool) (ops:Array Oper) (tags:List Bool):Bool:=
 let b:=KF ops.toList []
 (List.range ops.size).all λi=>match ops[i]? with
  | none=>false
  | some a=>(W8 a).all (λj=>decide (j<i))&&(List.range i).all λj=>match ops[j]? with
   | none=>false
   | some c=>!UL Η ops tags i j a c||(b.getD i 0).testBit j
def Gi (a:List (List Nat)) (b:List Nat):Prop:=a.length=b.length/\∀i j,(b.getD i 0).testBit j=true↔j∈a.getD i []
theorem AQ:∀(c:List Oper) (b:List (List Nat)) (d:List Nat),Gi b d->Gi (MM c b) (KF c d):=by
 intro c
 induction c with
 | nil=>intro b d h;exact h
 | cons o c f=>
  intro b d h;simp only[MM,KF];refine f _ _ ⟨by simp[h.1],λi j=>?_⟩;have one:∀l:List Nat,(l.foldr (λj m=>(1 <<< j)|||d.getD j 0|||m) 0).testBit j=true↔j∈l++l.flatMap λj=>b.getD j []:=by
   intro l
   induction l with
   | nil=>simp
   | cons a l g=>
    rw[List.foldr_cons,Nat.testBit_or,Nat.testBit_or,Nat.one_shiftLeft,Nat.testBit_two_pow];simp only[Bool.or_eq_true,decide_eq_true_eq,h.2 a j,g,V6,YZ,Nq];constructor
    .rintro((e|e)|e|e)
     .exact .inl (.inl e.symm)
     .exact .inr (.inl e)
     .exact .inl (.inr e)
     .exact .inr (.inr e)
    .rintro((e|e)|e|e)
     .exact .inl (.inl e.symm)
     .exact .inr (.inl e)
     .exact .inl (.inr e)
     .exact .inr (.inr e)
  rw[Xk,Xk];by_cases hi:i<b.length
  .rw[YU hi,YU (by rw[<-h.1];exact hi),<-Xk,<-Xk];exact h.2 i j
  .rw[XT (by have:=h.1;omega),XT U,<-h.1];cases hd:i-b.length with
   | zero=>simpa using one (W8 o)
   | succ n=>simp
theorem IW {Η:Nat->Nat->Bool} {ops:Array Oper} {tags:List Bool} (h:IX Η ops tags=true):QK Η ops tags=true:=by
 unfold IX at h;unfold QK;have e:=AQ ops.toList [] [] ⟨rfl,λi j=>J⟩;simp only[WN] at h ⊢;intro i hi;have b:=h i hi;cases c:ops[i]? with
 | none=>rw[c] at b;exact b
 | some g=>
  rw[c] at b;simp only[VE,WN] at b ⊢;refine⟨b.1,λj f=>?_⟩;have a:=b.2 j f;cases d:ops[j]? with
  | none=>rw[d] at a;exact a
  | some k=>
   rw[d] at a;simp only[Bool.or_eq_true] at a ⊢;rcases a with a|a
   .exact .inl a
   .exact .inr (L6.2 ((e.2 i j).1 a))
end
def AP (ops:Array Oper) (tags:List Bool):Bool:=IX QJ ops tags
theorem Ym {ops:Array Oper} {tags:List Bool} (h:AP ops tags=true):Uq ops tags=true:=IW h
section
variable {P:Program} {T:Z5} {A:List Nat} {m nt:Nat} {k:List Item} {env env':Ι} {σ:Υ} {Z:XF} {E:Yf} {ops:Array Oper}
theorem ML {o:Oper} (h:Tn ops o env env'):∀x,x∈o.op.operands.toList->π env' x=π env x:=λx a=>by
 cases x with
 | tmp t=>
  refine h t ?_;unfold MN;simp only[V6,List.mem_filterMap];exact .inl ⟨.tmp t,a,rfl⟩
 | _=>rfl
theorem Vh {o:Oper} (h:Tn ops o env env'):X7 env' ops o=X7 env ops o:=by
 unfold X7;cases a:o.guard with
 | none=>rfl
 | some x=>
  obtain⟨j,b⟩:=x;simp only;cases hd:(ops[j]?).bind (·.dst) with
  | none=>rfl
  | some d=>
   simp only;have:Z' env' d=Z' env d:=h d (by unfold MN;rw[a];simp[hd]);rw[this]
theorem KE {a:Array (Nat×Operand)} (h:∀p∈a,π env' p.2=π env p.2):QP env' a=QP env a:=by
 unfold QP;exact Ns λp b=>by rw[h p (by simpa using b)]
theorem MK {a:Array Operand} (h:∀x∈a,π env' x=π env x):a.toList.map (π env')=a.toList.map (π env):=Ns λx b=>h x (by simpa using b)
theorem KD {o:Option Operand} (h:∀x,o=some x->π env' x=π env x):o.map (π env')=o.map (π env):=by
 cases o with
 | none=>rfl
 | some x=>simp[h x rfl]
theorem QI {o:Oper} (r:Tn ops o env env'):Wb T A env' o=Wb T A env o:=by
 have h:=ML r;obtain⟨dst,g,w,pos,B,guard⟩:=o;simp only at h;unfold Wb;cases g<;>simp only<;>try rfl
 all_goals simp only[Op.operands,YZ,XY,or_false,forall_eq_or_imp,forall_eq] at h
 case move x=>rw[h]
 case assign x=>rw[h]
 case pick c a b=>rw[h.1,h.2.1,h.2.2]
 case box d x=>rw[h]
 case build d s=>rw[KE λp j=>h p.2 (by simp only[YK];exact⟨p,by simpa using j,rfl⟩)]
 case buildSlice d n s=>rw[KE λp j=>h p.2 (by simp only[YK];exact⟨p,by simpa using j,rfl⟩)]
 case load d x=>rw[h]
 case binOp g a x y b=>rw[h.1,h.2]
 case unOp g a x=>rw[h]
 case convert a b x=>rw[h]
 case index d x y=>rw[h.1,h.2]
 case nilCheck x=>rw[h]
 case sliceToArrayPointer d x=>rw[h]
 case makeInterface a x=>rw[h]
 case makeFunc f C cs=>rw[MK λx e=>h x (by simp[e]),MK λx e=>h x (by simp[e])]
 case makeSlice a x y=>rw[h.1,h.2]
 case slice d x lo hi t=>
  cases t with
  | some m=>rfl
  | none=>
   simp only;rw[h x J,KD λy k=>h y (by simp[k]),KD λy k=>h y (by simp[k])]
 case fieldAddr d x f=>rw[h]
 case indexAddr d x y=>rw[h.1,h.2]
 case typeAssert x a b c=>rw[h]
 case extract x i=>rw[h]
 case call c=>
  obtain⟨u,⟨args⟩,⟨v⟩⟩:=c;cases u
  case value=>rfl
  case invoke=>rfl
  rename_i b;have l:∀x∈args,π env' x=π env x:=λx e=>h x (by simp[Call.operands,e])
  match args,v with
  | [x],[d]=>simp only;rw[l x J]
  | [x,y],[D,d]=>simp only;rw[l x J,l y J]
  | [],_=>rfl
  | [_],[]=>rfl
  | [_],_::_::_=>rfl
  | [_,_],[]=>rfl
  | [_,_],[_]=>rfl
  | [_,_],_::_::_::_=>rfl
  | _::_::_::_,_=>rfl
theorem N8 {o:Oper} (l:Tn ops o env env'):WJ T A env' σ o=WJ T A env σ o:=by
 have h:=ML l;obtain⟨dst,k,C,pos,D,guard⟩:=o;simp only at h;unfold WJ;cases k<;>simp only<;>try rfl
 all_goals simp only[Op.operands,YZ,XY,or_false,forall_eq_or_imp,forall_eq] at h
 case box e x=>rw[h]
 case build e s=>rw[KE λp g=>h p.2 (by simp only[YK];exact⟨p,by simpa using g,rfl⟩)]
 case buildSlice e n s=>rw[KE λp g=>h p.2 (by simp only[YK];exact⟨p,by simpa using g,rfl⟩)]
 case load e x=>rw[h]
 case store e x y=>rw[h.1,h.2]
 case makeSlice a x y=>rw[h.1,h.2]
 case makeMap e r=>cases r<;>rfl
 case convert a b x=>rw[h]
 case nilCheck x=>rw[h]
 case binOp k e x y d=>
  split
  all_goals first
   | rfl
   |(rename_i t;cases t<;>simp only[h.1])
 case mapUpdate e x y z=>rw[h.1,h.2.1,h.2.2]
 case insert e x y z=>rw[h.1,h.2.1,h.2.2]
 case lookup e x y E=>rw[h.1,h.2]
 case range e x=>rw[h]
 case next x b=>
  cases b<;>simp only<;>try rfl
  rw[h]
 case entry x=>rw[h]
 case slice e x lo hi u=>
  cases u with
  | some m=>rfl
  | none=>
   simp only;rw[h x J,KD λy i=>h y (by simp[i]),KD λy i=>h y (by simp[i])]
 case fieldAddr e x f=>rw[h]
 case indexAddr e x y=>rw[h.1,h.2]
 case call c=>
  obtain⟨v,⟨args⟩,⟨w⟩⟩:=c;cases v
  case value=>rfl
  case invoke=>rfl
  rename_i b;have j:∀x∈args,π env' x=π env x:=λx B=>h x (by simp[Call.operands,B])
  match args,w with
  | [x],[e]=>simp only;rw[j x J]
  | [x,y],[F,e]=>simp only;rw[j x J,j y J]
  | [],_=>rfl
  | [_],[]=>rfl
  | [_],_::_::_=>rfl
  | [_,_],[]=>rfl
  | [_,_],[_]=>rfl
  | [_,_],_::_::_::_=>rfl
  | _::_::_::_,_=>rfl
def VM (P:Program) (f:I) (args:ψ) (r:I):Prop:=∀σ,WZ P f args σ (λa s=>a=r/\s=σ) (λ_ _=>False)
def Zs.Yp (r:Zs) (K:I->Prop) (s:Prop):Prop:=match r with
 | .ok a=>K a
 | .Zl p (.ok a)=>p/\K a
 | .Zl _ _=>False
 | .bad=>s
def Za.Yp (r:Za) (K:I->Υ->Prop):Prop:=match r with
 | .ok a σ'=>K a σ'
 | .Zl p (.ok a σ')=>p/\K a σ'
 | _=>False
theorem AO {r r':Zs} {K:I->Prop} {s:Prop} (h:r=r'):r.Yp K s=r'.Yp K s:=by rw[h]
theorem AN {r r':Za} {K:I->Υ->Prop} (h:r=r'):r.Yp K=r'.Yp K:=by rw[h]
def dcall (P:Program) (f:I) (args:ψ) (σ:Υ) (b:I->Prop) (c:I->Υ->Prop):Prop:=
 (∃r,VM P f args r/\b r)\/∃r σ',WZ P f args σ (λa s=>a=r/\s=σ') (λ_ _=>False)/\c r σ'
theorem Yl {P:Program} {f:I} {args:ψ} {σ:Υ} {a:I->Prop} {b:I->Υ->Prop} {r:I} (h:VM P f args r) (k:a r):dcall P f args σ a b:=.inl ⟨r,h,k⟩
theorem KC {P:Program} {f:I} {args:ψ} {σ σ':Υ} {c:I->Prop} {b:I->Υ->Prop} {r:I} (h:WZ P f args σ (λa s=>a=r/\s=σ') (λ_ _=>False)) (k:b r σ'):dcall P f args σ c b:=.inr ⟨r,σ',h,k⟩
def QH (P:Program) (T:Z5) (A:List Nat) (env:Ι) (o:Oper) (σ:Υ) (a:I->Prop) (b:I->Υ->Prop):Prop:=match o.op with
 | .call ⟨.value f,args,_⟩=>dcall P (π env f) (args.toList.map (π env)) σ a b
 | .panic _=>False
 | .defer _=>False
 | _=>(Wb T A env o).Yp a ((WJ T A env σ o).Yp b)
theorem AM {P:Program} {T:Z5} {A:List Nat} {env:Ι} {o:Oper} {σ:Υ} {a:I->Prop} {b:I->Υ->Prop}:QH P T A env o σ a b=match o.op with
 | .call ⟨.value f,args,_⟩=>dcall P (π env f) (args.toList.map (π env)) σ a b
 | .panic _=>False
 | .defer _=>False
 | _=>(Wb T A env o).Yp a ((WJ T A env σ o).Yp b):=XU rfl rfl
theorem AL {a:I} {K:I->Prop} {s:Prop}:Zs.Yp (.ok a) K s=K a:=XU rfl rfl
theorem AK {p:Prop} {a:I} {K:I->Prop} {s:Prop}:Zs.Yp (.Zl p (.ok a)) K s=(p/\K a):=XU rfl rfl
theorem AJ {K:I->Prop} {s:Prop}:Zs.Yp .bad K s=s:=XU rfl rfl
theorem AI {a:I} {σ:Υ} {K:I->Υ->Prop}:Za.Yp (.ok a σ) K=K a σ:=XU rfl rfl
theorem AH {p:Prop} {a:I} {σ:Υ} {K:I->Υ->Prop}:Za.Yp (.Zl p (.ok a σ)) K=(p/\K a σ):=XU rfl rfl
def V1 (P:Program) (T:Z5) (A:List Nat) (nt:Nat) (ops:Array Oper):List Nat->Ι->Υ->List Bool->(Ι->Υ->Prop)->Prop
 | [],env,σ,tags,K=>Uq ops tags=true/\K env σ
 | i::is,env,σ,tags,K=>XD ops[i]? λo=>W9 nt o=true/\XD (X7 env ops o) λw=>
   WI w (V1 P T A nt ops is (ZE o env .Zw) σ (tags++[false]) K)
    (QH P T A env o σ (λa=>V1 P T A nt ops is (ZE o env a) σ (tags++[false]) K) (λa σ'=>V1 P T A nt ops is (ZE o env a) σ' (tags++[true]) K))
def Gh (P:Program) (T:Z5) (A:List Nat) (nt:Nat) (ops:Array Oper) (is:List Nat) (o:Oper) (env:Ι) (σ:Υ) (tags:List Bool) (K:Ι->Υ->Prop) (a:I):Prop:=V1 P T A nt ops is (ZE o env a) σ (tags++[false]) K
def Gg (P:Program) (T:Z5) (A:List Nat) (nt:Nat) (ops:Array Oper) (is:List Nat) (o:Oper) (env:Ι) (tags:List Bool) (K:Ι->Υ->Prop) (a:I) (σ':Υ):Prop:=V1 P T A nt ops is (ZE o env a) σ' (tags++[true]) K
theorem Zg {tags:List Bool} {K:Ι->Υ->Prop}:V1 P T A nt ops [] env σ tags K=(Uq ops tags=true/\K env σ):=XU rfl rfl
theorem Zf {i:Nat} {is:List Nat} {tags:List Bool} {K:Ι->Υ->Prop}:V1 P T A nt ops (i::is) env σ tags K=XD ops[i]? λo=>W9 nt o=true/\XD (X7 env ops o) λw=>
   WI w (V1 P T A nt ops is (ZE o env .Zw) σ (tags++[false]) K) (QH P T A env o σ (Gh P T A nt ops is o env σ tags K) (Gg P T A nt ops is o env tags K)):=XU rfl rfl
theorem AG {ops:Array Oper} {is:List Nat} {o:Oper} {tags:List Bool} {K:Ι->Υ->Prop} {a:I}:Gh P T A nt ops is o env σ tags K a=V1 P T A nt ops is (ZE o env a) σ (tags++[false]) K:=XU rfl rfl
theorem AF {ops:Array Oper} {is:List Nat} {o:Oper} {tags:List Bool} {K:Ι->Υ->Prop} {a:I}:Gg P T A nt ops is o env tags K a σ=V1 P T A nt ops is (ZE o env a) σ (tags++[true]) K:=XU rfl rfl
def Wy (P:Program) (m nt:Nat) (k:List Item) (Z:XF) (E:Yf) (ops:Array Oper) (i:Nat) (o:Oper) (env:Ι) (σ:Υ) (b:Bool) (a:I) (σ':Υ):Prop:=
 if b then P8 P m nt k Z E ops i o env σ a σ'/\(Wq o=true->σ'=σ) else P9 P m nt k Z E ops i o env a/\σ'=σ
theorem AE {b:TypeId} {x a:I} {σ':Υ} {p:Prop} (h:Ts T b σ x=.ok a σ'\/Ts T b σ x=.Zl p (.ok a σ')):σ'=σ:=by
 unfold Ts RD at h
 repeat' split at h
 all_goals simp[Zs.YL] at h
 all_goals first|exact h.2.symm|skip
theorem AD {b:TypeId} {x c a:I} {σ':Υ} {p:Prop} (h:Tq T b σ x c=.ok a σ'\/Tq T b σ x c=.Zl p (.ok a σ')):σ'=σ:=by
 unfold Tq at h
 repeat' split at h
 all_goals simp at h
 all_goals first|exact h.2.2.symm|exact h.2.symm|skip
theorem AB {b:TypeId} {f:Nat} {x a:I} {σ':Υ} {p:Prop} (h:Tr T b f σ x=.ok a σ'\/Tr T b f σ x=.Zl p (.ok a σ')):σ'=σ:=by
 unfold Tr at h
 repeat' split at h
 all_goals simp at h
 all_goals first|exact h.2.2.symm|exact h.2.symm|skip
theorem AA {x a:I} {σ':Υ} {p:Prop} (h:O9 σ x=.ok a σ'\/O9 σ x=.Zl p (.ok a σ')):σ'=σ:=by
 unfold O9 at h
 repeat' split at h
 all_goals simp at h
 all_goals first|exact h.2.2.symm|exact h.2.symm|skip
theorem N7 {o:Oper} {a:I} {σ':Υ} {p:Prop} (c:Wq o=true) (h:WJ T A env σ o=.ok a σ'\/WJ T A env σ o=.Zl p (.ok a σ')):σ'=σ:=by
 unfold Wq at c;unfold WJ at h;split at c
 .rename_i d x b;rw[b] at h;exact AE h
 .rename_i d x e b;rw[b] at h;exact AD h
 .rename_i d x f b;rw[b] at h;exact AB h
 .rename_i x b;rw[b] at h;exact AA h
 .cases c
theorem Az (D:ZJ P T) {i:Nat} {is:List Nat} {tags:List Bool} {K:Ι->Υ->Prop} (h:V1 P T A nt ops (i::is) env σ tags K) :
  ∃o a σ' F,ops[i]?=some o/\Wy P m nt k Z E ops i o env σ F a σ'/\V1 P T A nt ops is (ZE o env a) σ' (tags++[F]) K:=by
 unfold V1 XD at h;split at h
 .exact h.elim
 .rename_i o d;obtain⟨hd,h⟩:=h;split at h
  .exact h.elim
  rename_i w t;unfold WI at h;cases w
  .replace h:=h.1 rfl
   refine⟨o,.Zw,σ,false,d,?_,h⟩;unfold Wy;simp only[Xu,if_false];exact⟨λenv' σ' rest b g=>.unwanted d (by rw[Vh b];exact t) hd g,trivial⟩
  .replace h:=h.2 rfl
   unfold QH at h;split at h
   .rename_i f args R u;have H:∀env',Tn ops o env env'->π env' f=π env f/\args.toList.map (π env')=args.toList.map (π env):=λenv' b=>by
     have v:=ML b;rw[u] at v;refine⟨v f (by simp[Op.operands,Call.operands]),MK λx N=>v x (by simp[Op.operands,Call.operands,N])⟩
    rcases h with⟨r,l,h⟩|⟨r,σ',l,h⟩
    .refine⟨o,r,σ,false,d,?_,h⟩;unfold Wy;simp only[Xu,if_false];refine⟨λenv' σ' rest b g=>.call d (by rw[Vh b];exact t) hd u ?_,trivial⟩;obtain⟨B,Χ⟩:=H env' b;rw[B,Χ];exact(l σ').mono (λa s ⟨x,y⟩=>by subst x;subst y;exact g) (λ_ _ h=>h.elim)
    .refine⟨o,r,σ',true,d,?_,h⟩;unfold Wy;simp only[if_true];refine⟨?_,λe=>by unfold Wq at e;rw[u] at e;cases e⟩;refine λenv' rest b g=>.call d (by rw[Vh b];exact t) hd u ?_;obtain⟨B,Χ⟩:=H env' b;rw[B,Χ];exact l.mono (λa s ⟨x,y⟩=>by subst x;subst y;exact g) (λ_ _ h=>h.elim)
   .exact h.elim
   .exact h.elim
   .rename_i S U J;have L:∀(r:Zs) (a:I),Wb T A env o=r->(∀K:I->Υ->Prop,∀s,K a s->(r.YL s).holds K)->(∀σ s,r.or σ s=r.YL σ)->P9 P m nt k Z E ops i o env a:=λr a e C O env' σ' rest b g=>by
     refine .op (A:=A) D d (by rw[Vh b];exact t) hd (λc l=>J c l) ?_;rw[QI b,e,O];exact C _ _ g
    unfold Zs.Yp at h;split at h
    .rename_i a j;refine⟨o,a,σ,false,d,?_,h⟩;unfold Wy;simp only[Xu,if_false];exact⟨L _ a j (λK s n=>n) (λ_ _=>rfl),trivial⟩
    .rename_i p a j;refine⟨o,a,σ,false,d,?_,h.2⟩;unfold Wy;simp only[Xu,if_false];exact⟨L _ a j (λK s n=>⟨h.1,n⟩) (λ_ _=>rfl),trivial⟩
    .exact h.elim
    .rename_i Q;have M:∀(a:I) (σ':Υ) (r:Za),WJ T A env σ o=r->(∀K:I->Υ->Prop,K a σ'->r.holds K)->P8 P m nt k Z E ops i o env σ a σ':=λa σ' r e C env' rest b g=>by
      refine .op (A:=A) D d (by rw[Vh b];exact t) hd (λc l=>J c l) ?_;rw[QI b,N8 b,Q,e];exact C _ g
     unfold Za.Yp at h;split at h
     .rename_i a σ' j;refine⟨o,a,σ',true,d,?_,h⟩;unfold Wy;simp only[if_true];exact⟨M a σ' _ j λK n=>n,λe=>N7 (p:=True) e (.inl j)⟩
     .rename_i p a σ' j;refine⟨o,a,σ',true,d,?_,h.2⟩;unfold Wy;simp only[if_true];exact⟨M a σ' _ j λK n=>⟨h.1,n⟩,λe=>N7 e (.inr j)⟩
     .exact h.elim
theorem IV {env0:Ι} {as9 a:Nat->I} {b:Nat->Bool}:∀n,(∀j,j<n->as9 j=a j)->Zp ops env0 as9 b n=Zp ops env0 a b n:=by
 intro n
 induction n with
 | zero=>intro _;rfl
 | succ n c=>
  intro h;simp only[Zp];rw[c λj d=>h j U,h n (Q4 n)]
theorem Ay (t:ZJ P T) {K:Ι->Υ->Prop} {env0:Ι}:∀(d i:Nat) (tags:List Bool) (as9:Nat->I) (σs:Nat->Υ),i+d=ops.size->tags.length=i->
  (∀j o,j<i->ops[j]?=some o->Wy P m nt k Z E ops j o (Zp ops env0 as9 (λ_=>true) j) (σs j) (tags.getD j false) (as9 j) (σs (j+1)))->
  V1 P T A nt ops (List.range' i d) (Zp ops env0 as9 (λ_=>true) i) (σs i) tags K->
  ∃(tags:List Bool) (as9:Nat->I) (b:Nat->Υ),Uq ops tags=true/\b 0=σs 0/\(∀j o,ops[j]?=some o->Wy P m nt k Z E ops j o (Zp ops env0 as9 (λ_=>true) j) (b j) (tags.getD j false) (as9 j) (b (j+1)))/\K (Zp ops env0 as9 (λ_=>true) ops.size) (b ops.size):=by
 intro d
 induction d with
 | zero=>
  intro i tags as9 σs hi n g h;simp only[List.range'_zero,V1] at h;have:i=ops.size:=U;subst this;exact⟨tags,as9,σs,h.1,rfl,λj o f=>g j o (UA.1 f).1 f,h.2⟩
 | succ d u=>
  intro i tags as9 σs hi n g h;rw[LY] at h;obtain⟨o,a,σ',l,f,v,h⟩:=Az (m:=m) (k:=k) (Z:=Z) (E:=E) t h;let c:Nat->I:=λj=>if j=i then a else as9 j
  let b:Nat->Υ:=λj=>if j=i+1 then σ' else σs j
  have p:∀j,j<=i->Zp ops env0 as9 (λ_=>true) j=Zp ops env0 c (λ_=>true) j:=λj g=>IV j λx L=>by simp only[c];rw[if_neg U]
  have w:Zp ops env0 c (λ_=>true) (i+1)=ZE o (Zp ops env0 as9 (λ_=>true) i) a:=by
   simp only[Zp,if_true,f];rw[<-p i (ZO i)];simp only[c,if_true]
  have:=u (i+1) (tags++[l]) c b U (by simp[n]) (λj y M r=>?_) ?_
  .obtain⟨t2,B,C,D,F,H,J⟩:=this;exact⟨t2,B,C,D,F.trans (by simp only[b];rw[if_neg U]),H,J⟩
  .by_cases e:j=i
   .subst e;rw[f] at r;cases r;rw[<-p j (ZO j)];have s:(tags++[l]).getD j false=l:=by rw[Xk,XT U,n];simp
    rw[s];simp only[c,b,if_true];rw[if_neg U];exact v
   .have:=g j y U r;rw[<-p j U];have s:(tags++[l]).getD j false=tags.getD j false:=by rw[Xk,YU U,<-Xk]
    rw[s];simp only[c,b];rw[if_neg U,if_neg U,if_neg U];exact this
  .rw[w];simp only[b,if_true];exact h
theorem W.draw (s:ZJ P T) (u:P.follows .mixedOrders=true) {id:Nat} (h:∀d:Ι->Υ->Prop,(∀env σ,W P m nt k env σ Z E->d env σ)->V1 P T A nt ops (idx ops.size []) env σ [] d):W P m nt (.code (.region id ops true)::k) env σ Z E:=by
 have e:=h (λenv σ=>W P m nt k env σ Z E) λ_ _ h=>h;rw[idx_eq,L5] at e;obtain⟨tags,as9,σs,v,w,f,y⟩:=Ay (m:=m) (k:=k) (Z:=Z) (E:=E) (env0:=env) s ops.size 0 [] (λ_=>.Zw) (λ_=>σ) U rfl (λj o C=>U) e;intro D mn x cs b S B H t g l F I K;refine .draw g l λn=>?_;have p:=W.AR (P:=P) (m:=m) (nt:=nt) (k:=k) (Z:=Z) (E:=E) (ops:=ops) (as9:=as9) (σs:=σs) (tags:=tags) (env0:=env) v
  (λi o a c=>by have:=f i o a;unfold Wy at this;rw[c] at this;simpa using this)
  (λi o a c=>by have:=f i o a;unfold Wy at this;rw[c] at this;simpa using this)
  (.ZM y) ops.size n (Array.replicate ops.size false) env 0 J (λi=>?_) (λi o a r=>?_) (ω _) (λj C _=>?_) ?_
 .rw[w] at p;rw[u];simp only[Region.schedule,Bool.true_or,if_true,Region.linearise];exact p D mn x cs b S B H t g l F I K
 .have:∀n,Zp ops env as9 (λi=>(Array.replicate ops.size false).getD i false) n=env:=by
   intro n
   induction n with
   | zero=>rfl
   | succ n L=>
    simp only[Zp];have:(Array.replicate ops.size false).getD n false=false:=by
     rw[W3,PE];split<;>rfl
    rw[if_neg (by rw[this];simp)];exact L
  rw[this]
 .have:(Array.replicate ops.size false).getD i false=false:=by
   rw[W3,PE];split<;>rfl
  rw[this] at r;cases r
 .have:(Array.replicate ops.size false).getD j false=false:=by
   rw[W3,PE];split<;>rfl
  rw[this];simp
 .have:=List.length_filter_le (λi=>!(Array.replicate ops.size false).getD i false) (List.range ops.size);simpa using this
theorem Gf {K K':Ι->Υ->Prop} (k:∀e s,K e s->K' e s):∀(is:List Nat) (env:Ι) (σ:Υ) (tags:List Bool),V1 P T A nt ops is env σ tags K->V1 P T A nt ops is env σ tags K':=by
 intro is
 induction is with
 | nil=>intro env σ tags h;exact⟨h.1,k _ _ h.2⟩
 | cons i is b=>
  intro env σ tags h;unfold V1 XD at h ⊢;cases d:ops[i]? with
  | none=>rw[d] at h;exact h.elim
  | some o=>
   rw[d] at h;simp only at h ⊢;refine⟨h.1,?_⟩
   replace h:=h.2
   cases g:X7 env ops o with
   | none=>rw[g] at h;exact h.elim
   | some w=>
    rw[g] at h;unfold WI at h ⊢;refine⟨λe=>b _ _ _ (h.1 e),λe=>?_⟩
    replace h:=h.2 e
    unfold QH at h ⊢;split
    .rename_i f args j a;rw[a] at h;simp only at h;rcases h with⟨r,c,h⟩|⟨r,σ',c,h⟩
     .exact .inl ⟨r,c,b _ _ _ h⟩
     .exact .inr ⟨r,σ',c,b _ _ _ h⟩
    .rename_i a;rw[a] at h;exact h
    .rename_i a;rw[a] at h;exact h
    .rename_i l m n;split at h
     .rename_i f args j a;exact absurd a (l f args j)
     .rename_i y a;exact absurd a (m y)
     .rename_i y a;exact absurd a (n y)
     .unfold Zs.Yp at h ⊢;split at h
      .exact b _ _ _ h
      .exact⟨h.1,b _ _ _ h.2⟩
      .exact h.elim
      .unfold Za.Yp at h ⊢;split at h
       .exact b _ _ _ h
       .exact⟨h.1,b _ _ _ h.2⟩
       .exact h.elim
theorem W.KB (b:ZJ P T) (c:P.follows .mixedOrders=true) (a:Ι) {id:Nat} (h:W P m nt k a σ Z E) (d:V1 P T A nt ops (idx ops.size []) env σ [] (λe s=>s=σ/\∀p∈a,Z' e p.1=p.2)):W P m nt (.code (.region id ops true)::k) env σ Z E:=
 W.draw b c λj f=>Gf (λe s ⟨g,i⟩=>f e s (g▸W.forget a i h)) _ _ _ _ d
end
def Wa {a:Type}:List a->List Nat->List a->List a
 | l,i::ρ,x::xs=>Wa (l.set i x) ρ xs
 | l,_,_=>l
theorem QG {a:Type}:∀(ρ:List Nat) (l xs:List a),(Wa l ρ xs).length=l.length:=by
 intro ρ
 induction ρ with
 | nil=>intro l xs;cases xs<;>rfl
 | cons i ρ b=>intro l xs;cases xs with
  | nil=>rfl
  | cons x xs=>simp[Wa,b]
theorem IU {a:Type} {i:Nat}:∀(ρ:List Nat) (l xs:List a),i∉ρ->(Wa l ρ xs)[i]?=l[i]?:=by
 intro ρ
 induction ρ with
 | nil=>intro l xs _;cases xs<;>rfl
 | cons j ρ b=>intro l xs h;cases xs with
  | nil=>rfl
  | cons x xs=>
   simp only[Wa];rw[b _ _ (λc=>h (by simp[c])),VT (λe=>h (by simp[e]))]
theorem Ge {d:Type}:∀(ρ:List Nat) (l xs:List d),ρ.Nodup->(∀i∈ρ,i<l.length)->∀(j i:Nat) (x:d),ρ[j]?=some i->xs[j]?=some x->(Wa l ρ xs)[i]?=some x:=by
 intro ρ
 induction ρ with
 | nil=>intro l xs _ _ j i x h;simp at h
 | cons a ρ f=>
  intro l xs g e j i x c b;cases xs with
  | nil=>simp at b
  | cons y xs=>
   simp only[Wa];obtain⟨k,m⟩:=RS.1 g;cases j with
   | zero=>
    simp at c b;subst c;subst b;rw[IU ρ _ _ k,WE (e a J)]
   | succ j=>
    simp only[List.getElem?_cons_succ] at c b;exact f _ _ m (λi hi=>by simp;exact e i (by simp[hi])) j i x c b
def Wp (ρ:List Nat):I->I
 | .Ο id n i j=>.Ο (ρ.getD id 0) n i j
 | .ms id n i len=>.ms (ρ.getD id 0) n i len
 | .mp id=>.mp (ρ.getD id 0)
 | .it id=>.it (ρ.getD id 0)
 | a=>a
def Yt (ρ:List Nat):I->I
 | .fn f b cs=>.fn f (b.map (Wp ρ)) (cs.map (Wp ρ))
 | .Z9 l=>.Z9 (l.map (Wp ρ))
 | .ZP l=>.ZP (l.map (Wp ρ))
 | a=>Wp ρ a
def Rx (h:Nat) (a:I):Prop:=match a with
 | .Ο id _ _ _|.ms id _ _ _|.mp id|.it id=>id<h
 | a=>Γ 0 a
def Xi (h:Nat) (a:I):Prop:=match a with
 | .fn _ b cs=>(∀a∈b,Rx h a)/\∀a∈cs,Rx h a
 | .Z9 l|.ZP l=>∀a∈l,Rx h a
 | a=>Rx h a
structure Names (ρ:List Nat) (a:θ) (σ0:Υ) (b:θ) (c:Υ):Prop where
 row:∀(j i:Nat),ρ[j]?=some i->c[i]?=σ0[j]?
 blk:∀(j i:Nat),ρ[j]?=some i->b[i]?=a[j]?
section
variable {S:Α} {KA SM:θ} {σ0 Kz:Υ} {ρ:List Nat}
theorem Ky {ρ:List Nat} {j:Nat} (h:j<ρ.length):ρ[j]?=some (ρ.getD j 0):=by
 rw[Xk,ε h];rfl
theorem U7 (g:Names ρ KA σ0 SM Kz) {a:I} {v:Value} (l:Rx ρ.length a):Θ S SM Kz (Wp ρ a) v↔Θ S KA σ0 a v:=by
 cases a with
 | Ο id n i j=>
  have e:=Ky (ρ:=ρ) l
  have d:=g.row _ _ e
  have f:=g.blk _ _ e;constructor
  .intro h;cases h with
   | Ο b c k=>exact .Ο (by rw[<-d];exact b) c (by rw[<-f];exact k)
   | VQ v b c=>exact .VQ v (by rw[<-d];exact b) c
  .intro h;cases h with
   | Ο b c k=>exact .Ο (by rw[d];exact b) c (by rw[f];exact k)
   | VQ v b c=>exact .VQ v (by rw[d];exact b) c
 | ms id n i len=>
  have e:=Ky (ρ:=ρ) l
  have d:=g.row _ _ e
  have f:=g.blk _ _ e;constructor
  .intro h;cases h with
   | ms cap b c k m o p=>exact .ms cap (by rw[<-d];exact b) c (by rw[<-f];exact k) m o p
   | V3 v b c=>exact .V3 v (by rw[<-d];exact b) c
  .intro h;cases h with
   | ms cap b c k m o p=>exact .ms cap (by rw[d];exact b) c (by rw[f];exact k) m o p
   | V3 v b c=>exact .V3 v (by rw[d];exact b) c
 | mp id=>
  have e:=Ky (ρ:=ρ) l
  have d:=g.row _ _ e
  have f:=g.blk _ _ e;constructor
  .intro h;cases h with
   | mp b c=>exact .mp (by rw[<-d];exact b) (by rw[<-f];exact c)
   | UO v b=>exact .UO v (by rw[<-d];exact b)
  .intro h;cases h with
   | mp b c=>exact .mp (by rw[d];exact b) (by rw[f];exact c)
   | UO v b=>exact .UO v (by rw[d];exact b)
 | it id=>
  have e:=Ky (ρ:=ρ) l
  have d:=g.row _ _ e
  have f:=g.blk _ _ e;constructor
  .intro h;cases h with
   | it b c=>exact .it (by rw[<-d];exact b) (by rw[<-f];exact c)
   | TO v b=>exact .TO v (by rw[<-d];exact b)
  .intro h;cases h with
   | it b c=>exact .it (by rw[d];exact b) (by rw[f];exact c)
   | TO v b=>exact .TO v (by rw[d];exact b)
 | _=>exact⟨λh=>h.any l _ _,λh=>h.any l _ _⟩
theorem Kx {f:I->I} {l:ψ} {i:Nat} {a:I} (h:(l.map f)[i]?=some a):∃b,l[i]?=some b/\a=f b:=by
 rw[Yk] at h;cases c:l[i]? with
 | none=>rw[c] at h;cases h
 | some b=>rw[c] at h;cases h;exact⟨b,rfl,rfl⟩
theorem IT (c:Names ρ KA σ0 SM Kz) {a:I} {v:Value} (d:Xi ρ.length a):Θ S SM Kz (Yt ρ a) v↔Θ S KA σ0 a v:=by
 cases a with
 | fn f s cs=>
  constructor
  .intro h;cases h with
   | fn vs o e g p r=>
    refine .fn vs o (by simpa using e) (by simpa using g) (λi a v hi hv=>?_) (λi a v hi hv=>?_)
    .exact(U7 c (d.1 a (Zk hi))).1 (p i _ v (by rw[Yk,hi];rfl) hv)
    .exact(U7 c (d.2 a (Zk hi))).1 (r i _ v (by rw[Yk,hi];rfl) hv)
  .intro h;cases h with
   | fn vs o e g p r=>
    refine .fn vs o (by simpa using e) (by simpa using g) (λi a v hi hv=>?_) (λi a v hi hv=>?_)
    .obtain⟨b,m,rfl⟩:=Kx hi;exact(U7 c (d.1 b (Zk m))).2 (p i b v m hv)
    .obtain⟨b,m,rfl⟩:=Kx hi;exact(U7 c (d.2 b (Zk m))).2 (r i b v m hv)
 | Z9 l=>
  constructor
  .intro h;cases h with
   | Z9 vs e g=>exact .Z9 vs (by simpa using e) λi a v hi hv=>(U7 c (d a (Zk hi))).1 (g i _ v (by rw[Yk,hi];rfl) hv)
  .intro h;cases h with
   | Z9 vs e g=>
    refine .Z9 vs (by simpa using e) λi a v hi hv=>?_;obtain⟨b,m,rfl⟩:=Kx hi;exact(U7 c (d b (Zk m))).2 (g i b v m hv)
 | ZP l=>
  constructor
  .intro h;cases h with
   | ZP vs e g=>exact .ZP vs (by simpa using e) λi a v hi hv=>(U7 c (d a (Zk hi))).1 (g i _ v (by rw[Yk,hi];rfl) hv)
  .intro h;cases h with
   | ZP vs e g=>
    refine .ZP vs (by simpa using e) λi a v hi hv=>?_;obtain⟨b,m,rfl⟩:=Kx hi;exact(U7 c (d b (Zk m))).2 (g i b v m hv)
 | z u=>exact U7 (a:=.z u) c d
 | Ε l=>exact U7 (a:=.Ε l) c d
 | sl ex k l=>exact U7 (a:=.sl ex k l) c d
 | Ο id n i j=>exact U7 (a:=.Ο id n i j) c d
 | ms id n i len=>exact U7 (a:=.ms id n i len) c d
 | XG t a=>exact U7 (a:=.XG t a) c d
 | mp id=>exact U7 (a:=.mp id) c d
 | it id=>exact U7 (a:=.it id) c d
 | Zw=>exact U7 (a:=.Zw) c d
end
section
variable {P:Program} {S YI:Α} {B:θ} {H H':Ψ} {σ:Υ}
def VL (r:Row):Prop:=match r with|.cells _ _ l=>∀e∈l,∀a∈e.cells,Γ 0 a|_=>False
def MJ (r:Row):Prop:=VL r\/r=.dead
theorem VP.plain {B':θ} {σ':Υ} {r:Row} {bo:Option (Nat×Nat)} (c:VL r) (h:VP S B σ H r bo) (g:θ) (m:Υ):VP S g m H r bo:=by
 cases r with
 | cells t k l=>
  cases bo with
  | none=>exact h
  | some x=>
   obtain⟨b,N⟩:=x;obtain⟨n,o,p,w,d⟩:=h;refine⟨n,o,p,w,λi e hi=>⟨(d i e hi).1,λj a f=>?_⟩⟩;obtain⟨s,u,v⟩:=(d i e hi).2 j a f;exact⟨s,u.any (c e (Zk hi) a (Zk f)) _ _,v⟩
 | _=>exact c.elim
theorem VP.Ax {B':θ} {σ':Υ} {r:Row} {bo:Option (Nat×Nat)} (a:MJ r) (h:VP S B σ H r bo) (b:θ) (c:Υ):VP S b c H r bo:=by
 rcases a with a|rfl
 .exact VP.plain (B':=B') (σ':=σ') a h b c
 .trivial
theorem Holds.Gd (s:Holds S B σ H) {ρ:List Nat} {I:Υ} (az:ρ.Nodup) (ai:ρ.length=I.length) (aj:∀(j i:Nat),ρ[j]?=some i->σ[i]?=I[j]?) (aL:∀r∈I,VL r)
  {d:θ} {σ0:Υ} (C:Ext S (ρ.map λi=>B.getD i none) H YI d H') (aA:ZC S YI (ρ.map λi=>B.getD i none) d I σ0) (V:Holds YI d σ0 H') (aM:∀r∈σ0,MJ r) :
  let t:=Wa σ ρ σ0++σ0.drop ρ.length
  let m:=Wa B ρ d++d.drop ρ.length
  Holds YI m t H'/\Ext S B H YI m H'/\ZC S YI B m σ t/\Names (ρ++(List.range (σ0.length-ρ.length)).map (σ.length + ·)) d σ0 m t:=by
 intro t m;have ak:∀i∈ρ,i<σ.length:=λi hi=>by
  obtain⟨j,a⟩:=S3 hi;have n:j<I.length:=by rw[<-ai];exact(ZD.1 a).1
  have:=aj j i a;rw[ε n] at this;exact(ZD.1 this).1
 have aa:∀i∈ρ,i<B.length:=λi hi=>by rw[s.len];exact ak i hi
 have aX:ρ.length<=σ0.length:=by rw[ai];exact aA.length
 have aN:d.length=σ0.length:=V.len
 have aO:∀(j i:Nat),ρ[j]?=some i->(ρ.map λi=>B.getD i none)[j]?=B[i]?:=λj i a=>by
  have hi:=aa i (Zk a);rw[Yk,a];simp[hi]
 have al:∀(j i:Nat),ρ[j]?=some i->t[i]?=σ0[j]?:=λj i a=>by
  have hi:=ak i (Zk a)
  have n:j<σ0.length:=by have:=(ZD.1 a).1;omega
  show(Wa σ ρ σ0++_)[i]?=_;rw[YU (by rw[QG];exact hi),ε n];exact Ge ρ σ σ0 az ak j i _ a (ε n)
 have am:∀(j i:Nat),ρ[j]?=some i->m[i]?=d[j]?:=λj i a=>by
  have hi:=aa i (Zk a)
  have n:j<d.length:=by have:=(ZD.1 a).1;omega
  show(Wa B ρ d++_)[i]?=_;rw[YU (by rw[QG];exact hi),ε n];exact Ge ρ B d az aa j i _ a (ε n)
 have an:∀i,i<σ.length->i∉ρ->t[i]?=σ[i]?:=λi hi g=>by
  show(Wa σ ρ σ0++_)[i]?=_;rw[YU (by rw[QG];exact hi),IU ρ _ _ g]
 have ao:∀i,i<σ.length->i∉ρ->m[i]?=B[i]?:=λi hi g=>by
  show(Wa B ρ d++_)[i]?=_;rw[YU (by rw[QG,s.len];exact hi),IU ρ _ _ g]
 have aB:∀x,t[σ.length+x]?=σ0[ρ.length+x]?:=λx=>by
  show(Wa σ ρ σ0++_)[_]?=_;rw[XT (by rw[QG];omega),QG,Uz];congr 1;omega
 have aC:∀x,m[σ.length+x]?=d[ρ.length+x]?:=λx=>by
  show(Wa B ρ d++_)[_]?=_;rw[XT (by rw[QG,s.len];omega),QG,s.len,Uz];congr 1;omega
 have W:∀(i:Nat) (r:Row),t[i]?=some r->(i<σ.length/\i∉ρ/\σ[i]?=some r/\m[i]?=B[i]?)\/∃j,σ0[j]?=some r/\m[i]?=d[j]?/\(∀w D,(w<σ.length->ρ[D]?=some w)->(¬w<σ.length->D=ρ.length+(w-σ.length))->j=D->i=w)/\((i<σ.length->ρ[j]?=some i)/\(¬i<σ.length->j=ρ.length+(i-σ.length))):=λi r f=>by
  by_cases hi:i<σ.length
  .by_cases g:i∈ρ
   .obtain⟨j,a⟩:=S3 g;refine .inr ⟨j,by rw[<-al j i a];exact f,am j i a,λw D J p e=>?_,λ_=>a,λh=>absurd hi h⟩;subst e;by_cases X:w<σ.length
    .have:=J X;rw[a] at this;cases this;rfl
    .have:=p X;have:=(ZD.1 a).1;omega
   .exact .inl ⟨hi,g,by rw[<-an i hi g];exact f,ao i hi g⟩
  .have e:i=σ.length+(i-σ.length):=U
   refine .inr ⟨ρ.length+(i-σ.length),by rw[<-aB,<-e];exact f,by rw[<-aC,<-e],λw D J p aY=>?_,λh=>absurd h hi,λ_=>rfl⟩;by_cases X:w<σ.length
   .have:=(ZD.1 (J X)).1;omega
   .have:=p X;omega
 have aD:m.length=t.length:=by
  show(Wa B ρ d++d.drop ρ.length).length=(Wa σ ρ σ0++σ0.drop ρ.length).length;simp[QG,s.len,aN]
 have aE:ZC S YI B m σ t:=⟨C.YX,λid r f=>by
  have hi:=(ZD.1 f).1;by_cases g:id∈ρ
  .obtain⟨j,a⟩:=S3 g;have aP:I[j]?=some r:=by rw[<-aj j id a];exact f
   obtain⟨r',k,c⟩:=aA.rows j r aP;exact⟨r',by rw[al j id a];exact k,by rw[am j id a,<-aO j id a];exact c⟩
  .exact⟨r,by rw[an id hi g];exact f,by rw[ao id hi g];exact r.QW _⟩⟩
 have ab:∀b,θ.has (ρ.map λi=>B.getD i none) b->∃j i N,ρ[j]?=some i/\B[i]?=some (some (b,N)):=λb ⟨N,ap⟩=>by
  obtain⟨j,a⟩:=S3 ap;rw[Yk] at a;cases P:ρ[j]? with
  | none=>rw[P] at a;cases a
  | some i=>
   rw[P] at a;simp only[Option.map_some,Q8] at a;have hi:=aa i (Zk P);rw[Xk,ε hi] at a;exact⟨j,i,N,P,by rw[ε hi];simpa using a⟩
 have aF:∀(j i:Nat),ρ[j]?=some i->∃r,σ[i]?=some r/\r.live/\VL r:=λj i a=>by
  have n:j<I.length:=by rw[<-ai];exact(ZD.1 a).1
  have f:=ε n
  have aq:=aL _ (Zk f);refine⟨_,by rw[aj j i a];exact f,?_,aq⟩;cases P:I[j]<;>rw[P] at aq<;>first|trivial|exact aq.elim
 have ad:∀(id:Nat) (r:Row) (b N:Nat),id∉ρ->σ[id]?=some r->r.live->B[id]?=some (some (b,N))->¬θ.has (ρ.map λi=>B.getD i none) b/\¬H.fresh b/\Vj H H' b:=λid r b N g f y l=>by
  have Q:¬θ.has (ρ.map λi=>B.getD i none) b:=λar=>by
   obtain⟨j,i,ae,J,p⟩:=ab b ar;obtain⟨r',k,c,_⟩:=aF j i J;exact s.inj id i r r' b N ae (λe=>g (e▸Zk J)) f k y c l p
  have R:=s.Tt f y l;exact⟨Q,R,(C.XH b Q R).QU λo=>s.sep id r b N f y l o⟩
 refine⟨⟨V.YX,aD,λi r bo f T=>?_,λi j A E b K O aG hi a af ag L M=>?_,λi r b N f y l o=>?_⟩,⟨C.YX,λb l aQ=>?_,λb l=>?_,λb o v hv=>?_,C.grow⟩,aE,⟨λj i a=>?_,λj i a=>?_⟩⟩
 .rcases W i r f with⟨k,c,u,F⟩|⟨j,k,c,_,_⟩
  .by_cases y:r.live
   .rw[F] at T;refine(s.row i r bo u T).later aE (λb N e=>(ad i r b N c u y (by rw[T,e])).2.2) λY left aZ e=>?_;subst e;obtain⟨_,_,a0,a1,xs,a2,seen,_,a3,⟨es,Χ⟩,_⟩:=s.row i _ bo u T;have au:Y∉ρ:=λaR=>by
     obtain⟨j,a⟩:=S3 aR;obtain⟨r',aH,_,aS⟩:=aF j Y a;rw[Χ] at aH;cases aH;exact aS
    have aI:=(ZD.1 Χ).1;exact⟨an Y aI au,ao Y aI au,λb N l=>(ad Y _ b N au Χ trivial l).2.2⟩
   .cases r<;>first|exact absurd trivial y|trivial
  .rw[c] at T;exact(V.row j r bo k T).Ax (B':=m) (σ':=t) (aM r (Zk k)) _ _
 .have aJ:∀(i:Nat) (A:Row) (K:Nat) (D:Nat) (E:Row) (O:Nat),i∉ρ->σ[i]?=some A->A.live->B[i]?=some (some (b,K))->σ0[D]?=some E->E.live->d[D]?=some (some (b,O))->False:=λi A K D E O J p aT aU a4 a5 aV=>by
   obtain⟨Q,R,_⟩:=ad i A b K J p aT aU;rcases C.blocks b (SN aV) with h|h
   .exact Q h
   .exact R h
  rcases W i A hi with⟨k,c,u,F⟩|⟨aK,k,c,u,F⟩<;>rcases W j E a with⟨av,ah,aw,Z⟩|⟨ax,av,ah,aw,Z⟩
  .rw[F] at L;rw[Z] at M;exact s.inj i j A E b K O aG u aw af ag L M
  .rw[F] at L;rw[ah] at M;exact aJ i A K ax E O c u af L av ag M
  .rw[c] at L;rw[Z] at M;exact aJ j E O aK A K ah aw ag M k af L
  .rw[c] at L;rw[ah] at M;refine V.inj aK ax A E b K O (λe=>aG ?_) k av af ag L M;exact u j ax Z.1 Z.2 e
 .rcases W i r f with⟨k,c,u,F⟩|⟨j,k,c,_,_⟩
  .rw[F] at l;obtain⟨Q,R,_⟩:=ad i r b N c u y l;cases hv:YI b o with
   | none=>rfl
   | some v=>
    rcases C.RF b o v hv with h|h|h
    .rw[s.sep i r b N u y l o] at h;cases h
    .exact absurd h Q
    .exact absurd h R
  .rw[c] at l;exact V.sep j r b N k y l o
 .refine C.XH b (λar=>l ?_) aQ;obtain⟨j,i,ae,_,p⟩:=ab b ar;exact SN p
 .obtain⟨N,ap⟩:=l;obtain⟨i,hi⟩:=S3 ap;have aW:i<t.length:=by rw[<-aD];exact(ZD.1 hi).1
  rcases W i _ (ε aW) with⟨k,c,u,F⟩|⟨j,k,c,_,_⟩
  .rw[F] at hi;exact .inl (SN hi)
  .rw[c] at hi;rcases C.blocks b (SN hi) with h|h
   .obtain⟨j,w,ae,_,p⟩:=ab b h;exact .inl (SN p)
   .exact .inr h
 .rcases C.RF b o v hv with h|h|h
  .exact .inl h
  .obtain⟨j,w,ae,_,p⟩:=ab b h;exact .inr (.inl (SN p))
  .exact .inr (.inr h)
 .by_cases n:j<ρ.length
  .rw[YU n] at a;exact al j i a
  .rw[XT U,Yk] at a;have ay:j-ρ.length<σ0.length-ρ.length:=by
    apply T4;intro g;rw[TB (by simp;omega)] at a;cases a
   rw[ε (by simpa using ay)] at a;simp at a;subst a;rw[aB];congr 1;omega
 .by_cases n:j<ρ.length
  .rw[YU n] at a;exact am j i a
  .rw[XT U,Yk] at a;have ay:j-ρ.length<σ0.length-ρ.length:=by
    apply T4;intro g;rw[TB (by simp;omega)] at a;cases a
   rw[ε (by simpa using ay)] at a;simp at a;subst a;rw[aC];congr 1;omega
def names (ρ:List Nat) (n:Nat) (σ0:Υ):List Nat:=ρ++(List.range (σ0.length-ρ.length)).map (n + ·)
def QF (σ:Υ) (ρ:List Nat) (σ0:Υ):Υ:=Wa σ ρ σ0++σ0.drop ρ.length
theorem Δ.Gc {g:FuncId} {as0:ψ} {k:Υ} {K:I->Υ->Prop} {E:I->Υ->Prop} (h:Δ P g as0 k K E) (ρ:List Nat) (y:ρ.Nodup) (p:ρ.length=k.length) (t:∀(j i:Nat),ρ[j]?=some i->σ[i]?=k[j]?) (A:∀r∈k,VL r)
  (has:∀a∈as0,Xi ρ.length a) {K':I->Υ->Prop} {E':I->Υ->Prop} (aa:∀a s,K a s->(∀r∈s,MJ r)/\Xi s.length a/\K' (Yt (names ρ σ.length s) a) (QF σ ρ s))
  (ab:∀a s,E a s->(∀r∈s,MJ r)/\Xi s.length a/\E' (Yt (names ρ σ.length s) a) (QF σ ρ s)):Δ P g (as0.map (Yt ρ)) σ K' E':=by
 refine⟨h.1,λad mn x c rest S B H vs ae l hv W=>?_⟩;have af:∀(j i:Nat),ρ[j]?=some i->i<σ.length:=λj i d=>by
  have C:j<k.length:=by rw[<-p];exact(ZD.1 d).1
  have:=t j i d;rw[ε C] at this;exact(ZD.1 this).1
 have X:∀(j i:Nat),ρ[j]?=some i->(ρ.map λi=>B.getD i none)[j]?=B[i]?:=λj i d=>by
  have hi:i<B.length:=by rw[l.len];exact af j i d
  rw[Yk,d];simp[hi]
 have ag:Names ρ (ρ.map λi=>B.getD i none) k B σ:=⟨t,λj i d=>(X j i d).symm⟩
 have pick:∀(j:Nat) (r:Row) (bo:Option (Nat×Nat)),k[j]?=some r->(ρ.map λi=>B.getD i none)[j]?=some bo->∃i,ρ[j]?=some i/\σ[i]?=some r/\B[i]?=some bo:=λj r bo f D=>by
  have C:j<ρ.length:=by rw[p];exact(ZD.1 f).1
  have d:=ε C;exact⟨_,d,by rw[t j _ d];exact f,by rw[<-X j _ d];exact D⟩
 have ah:Holds S (ρ.map λi=>B.getD i none) k H:=by
  refine⟨l.YX,by simp[p],λj r bo f D=>?_,λi j Y Z b ai aj ak hi d al am an ao=>?_,λj r b N f ap aq o=>?_⟩
  .obtain⟨i,m,n,u⟩:=pick j r bo f D;exact(l.row i r bo n u).plain (B':=B) (σ':=σ) (A r (Zk f)) _ _
  .obtain⟨ar,m,n,u⟩:=pick i Y _ hi an;obtain⟨au,av,aw,ax⟩:=pick j Z _ d ao;refine l.inj ar au Y Z b ai aj (λe=>ak ?_) n aw al am u ax;subst e;have ay:=(ZD.1 m).1;exact(List.getElem?_inj ay y).1 (m.trans av.symm)
  .obtain⟨i,m,n,u⟩:=pick j r _ f aq;exact l.sep i r b N n ap u o
 refine h.2 ad mn x c rest S _ H vs ae ah ⟨by have:=hv.1;simpa using this,λi a v m n=>(IT ag (has a (Zk m))).1 (hv.2 i _ v (by rw[Yk,m];rfl) n)⟩ ⟨λa σ' YI B' H' v F J w L f=>?_,λa σ' YI B' H' v F J w L f=>?_⟩
 .obtain⟨M,O,Q⟩:=aa a σ' F;obtain⟨R,T,U,V⟩:=l.Gd y p t A J w L M;refine W.ret _ _ YI _ H' v Q T U R ((IT V ?_).2 f);have:(ρ++(List.range (σ'.length-ρ.length)).map (σ.length + ·)).length=σ'.length:=by
   have:=w.length;simp;omega
  rw[this];exact O
 .obtain⟨M,O,Q⟩:=ab a σ' F;obtain⟨R,T,U,V⟩:=l.Gd y p t A J w L M;refine W.Oa _ _ YI _ H' v Q T U R ((IT V ?_).2 f);have:(ρ++(List.range (σ'.length-ρ.length)).map (σ.length + ·)).length=σ'.length:=by
   have:=w.length;simp;omega
  rw[this];exact O
theorem Δ.rows {g:FuncId} {as0:ψ} {b:Υ} {K:I->Υ->Prop} {E:I->Υ->Prop} (h:Δ P g as0 b K E) (ρ:List Nat) (d:ρ.Nodup) (e:ρ.length=b.length) (f:∀(j i:Nat),ρ[j]?=some i->σ[i]?=b[j]?) (k:∀r∈b,VL r)
  (has:∀a∈as0,Xi ρ.length a) {K':I->Υ->Prop} {E':I->Υ->Prop} (l:∀a s,K a s->(∀r∈s,VL r)/\Xi s.length a/\K' (Yt (names ρ σ.length s) a) (QF σ ρ s))
  (m:∀a s,E a s->(∀r∈s,VL r)/\Xi s.length a/\E' (Yt (names ρ σ.length s) a) (QF σ ρ s)):Δ P g (as0.map (Yt ρ)) σ K' E':=
 h.Gc ρ d e f k has (λa s x=>let ⟨p,q⟩:=l a s x;⟨λr c=>.inl (p r c),q⟩) (λa s x=>let ⟨p,q⟩:=m a s x;⟨λr c=>.inl (p r c),q⟩)
end
def Y4 (a b:I):Prop:=∀(S:Α) (B:θ) (σ:Υ) (v:Value),Θ S B σ a v->Θ S B σ b v
def ZZ (l m:ψ):Prop:=l.length=m.length/\∀(i:Nat) (a b:I),l[i]?=some a->m[i]?=some b->Y4 a b
theorem Y4.refl (a:I):Y4 a a:=λ_ _ _ _ h=>h
theorem Y4.of {a b:I} (h:a=b):Y4 a b:=h▸.refl a
theorem Y4.trans {a b c:I} (h:Y4 a b) (k:Y4 b c):Y4 a c:=λS B σ v x=>k S B σ v (h S B σ v x)
theorem Y4.Zw (a:I):Y4 a .Zw:=λ_ _ _ v _=>.Zw v
theorem ZZ.refl (l:ψ):ZZ l l:=⟨rfl,λi a b h k=>by rw[h] at k;cases k;exact .refl a⟩
theorem ZZ.nil:ZZ [] []:=.refl []
theorem ZZ.cons {a b:I} {l m:ψ} (h:Y4 a b) (k:ZZ l m):ZZ (a::l) (b::m):=⟨by simp[k.1],λi x y c d=>by
 cases i with
 | zero=>simp at c d;subst c;subst d;exact h
 | succ i=>exact k.2 i x y (by simpa using c) (by simpa using d)⟩
theorem Y4.Z9 {l m:ψ} (h:ZZ l m):Y4 (.Z9 l) (.Z9 m):=λS B σ v x=>by
 cases x with
 | Z9 vs c d=>
  refine .Z9 vs (h.1.symm.trans c) λi b v hi hv=>?_;have e:i<l.length:=by rw[h.1];exact(ZD.1 hi).1
  have a:=ε e;exact h.2 i _ b a hi S B σ v (d i _ v a hv)
theorem Y4.ZP {l m:ψ} (h:ZZ l m):Y4 (.ZP l) (.ZP m):=λS B σ v x=>by
 cases x with
 | ZP vs c d=>
  refine .ZP vs (h.1.symm.trans c) λi b v hi hv=>?_;have e:i<l.length:=by rw[h.1];exact(ZD.1 hi).1
  have a:=ε e;exact h.2 i _ b a hi S B σ v (d i _ v a hv)
theorem Y4.sl {e:Bool} {k:Nat} {l m:ψ} (p:l.length=m.length) (h:∀(i:Nat) (a b:I),l[i]?=some a->m[i]?=some b->ZZ a.cells b.cells):Y4 (.sl e k l) (.sl false k m):=λS B σ v x=>by
 have r:∀(i:Nat) (b:I),m[i]?=some b->∃a,l[i]?=some a/\ZZ a.cells b.cells:=λi b hi=>by
  have d:i<l.length:=by rw[p];exact(ZD.1 hi).1
  exact⟨_,ε d,h i _ b (ε d) hi⟩
 cases x with
 | WB base cap s=>
  have:m=[]:=YV.1 p.symm;subst this;exact .WB base cap λx=>by cases x
 | sl b o cap w C D t u A=>
  rw[p];refine .sl b o cap w (λx=>by cases x) U (λi y hi=>?_) (λi y hi j c n=>?_) (λi y hi j c n=>?_)
  .obtain⟨a,g,f⟩:=r i y hi;rw[<-f.1];exact t i a g
  .obtain⟨a,g,f⟩:=r i y hi;have d:j<a.cells.length:=by rw[f.1];exact(ZD.1 n).1
   exact u i a g j _ (ε d)
  .obtain⟨a,g,f⟩:=r i y hi;have d:j<a.cells.length:=by rw[f.1];exact(ZD.1 n).1
   have s:=ε d;exact f.2 j _ c s n S B σ _ (A i a g j _ s)
theorem Y4.ex {e:Bool} {k:Nat} {l:ψ}:Y4 (.sl e k l) (.sl false k l):=.sl rfl λi a b d c=>by rw[d] at c;cases c;exact .refl _
theorem Y4.nil {e:Bool} {k a:Nat}:Y4 (.sl e k []) (.sl false a []):=λS B σ v x=>by
 have g:∀(l:ψ),l=[]->Θ S B σ (.sl e k l) v->Θ S B σ (.sl false a []) v:=λl c x=>by
  cases x with
  | WB base cap d=>exact .WB base cap λx=>by cases x
  | sl b o cap w f h i j m=>subst c;exact .WB _ cap λx=>by cases x
 exact g [] rfl x
theorem Y4.map {m:Type} {f g:m->I} {e:Bool} {k:Nat} {l:List m} (h:∀x∈l,ZZ (f x).cells (g x).cells):Y4 (.sl e k (l.map f)) (.sl false k (l.map g)):=.sl J λi a b c d=>by
 rw[Yk] at c d;cases j:l[i]? with
 | none=>rw[j] at c;cases c
 | some x=>rw[j] at c d;cases c;cases d;exact h x (Zk j)
theorem ZZ.one {a b:I} (h:Y4 a b) (c:a.cells=[a]) (d:b.cells=[b]):ZZ a.cells b.cells:=by rw[c,d];exact .cons h .nil
section
variable {P:Program} {σ:Υ}
theorem X1.Oc {S:Α} {B:θ} {l m:ψ} {vs:Array Value} (h:ZZ l m) (k:X1 S B σ l vs):X1 S B σ m vs:=⟨h.1.symm.trans k.1,λi b v hi hv=>by
 have c:i<l.length:=by rw[h.1];exact(ZD.1 hi).1
 have a:=ε c;exact h.2 i _ b a hi S B σ v (k.2 i _ v a hv)⟩
theorem Δ.Uo {g:FuncId} {args d:ψ} {K K' E:I->Υ->Prop} (h:Δ P g args σ K E) (i:ZZ d args) (j:∀a s,K a s->∃b,Y4 a b/\K' b s):Δ P g d σ K' E:=
 ⟨h.1,λk mn x c rest S B H vs l m hv e=>h.2 k mn x c rest S B H vs l m (hv.Oc i) ⟨λa σ' f B' H' v n o p r t=>by
  obtain⟨b,u,w⟩:=j a σ' n;exact e.ret b σ' f B' H' v w o p r (u f B' σ' v t),e.Oa⟩⟩
def Ν (P:Program) (g:FuncId) (args:ψ) (r:I):Prop:=Δ P g args [] (λa s=>Y4 a r/\s=[]) (λ_ _=>False)
theorem Ν.ct {g:FuncId} {args b:ψ} {r:I} (h:Ν P g args r) (c:ZZ b args):MO P g b r:=Δ.Uo h c λa s ⟨d,e⟩=>⟨r,d,rfl,e⟩
theorem Ν.c {g:FuncId} {args b:ψ} {r:I} {K E:I->Υ->Prop} (h:Ν P g args r) (d:ZZ b args) (e:∀a∈b,Γ 0 a) (f:Γ 0 r) (i:K r σ):WZ P (.fn (.func g) [] []) b σ K E:=
 MO.call (first:=[]) (captured:=[]) (by simpa using h.ct d) (by simpa using e) f i
theorem Ν.p {g:FuncId} {args b:ψ} {r:I} (h:Ν P g args r) (d:ZZ b args) (e:∀a∈b,Γ 0 a) (f:Γ 0 r):VM P (.fn (.func g) [] []) b r:=λ_=>h.c d e f ⟨rfl,rfl⟩
theorem Ν.d {g:FuncId} {args:ψ} {r:I} {K E:I->Υ->Prop} (h:Ν P g args r) (b:K r σ) (e:∀a∈args,Γ 0 a:=by simp) (f:Γ 0 r:=by simp):WZ P (.fn (.func g) [] []) args σ K E:=h.c (ZZ.refl _) e f b
theorem Ν.q {g:FuncId} {args:ψ} {r:I} (h:Ν P g args r) (b:∀a∈args,Γ 0 a:=by simp) (c:Γ 0 r:=by simp):VM P (.fn (.func g) [] []) args r:=h.p (ZZ.refl _) b c
theorem Ν.cc {g:FuncId} {args b first captured:ψ} {r:I} {K E:I->Υ->Prop} (h:Ν P g args r) (c:ZZ (first++b++captured) args) (d:∀a∈first++b++captured,Γ 0 a) (e:Γ 0 r) (f:K r σ):WZ P (.fn (.func g) first captured) b σ K E:=
 MO.call (h.ct c) d e f
end
theorem Yu.own {h id n k:Nat} {σ:Υ} {t:TypeId} {l:ψ} (i:h<=id) (m:σ[id]?=some (.cells t k l)) (d:l.length=n) (o:∀e∈l,∀a∈e.cells,Γ h a):Yu h σ (.ms id n 0 n) (.sl false k l):=by
 refine .ms i m d U d (λj e p b c=>?_) (λj e p b c x a r f g=>?_)
 .rw[VD] at b;rw[b] at c;cases c;rfl
 .rw[VD] at b;rw[b] at c;cases c;rw[f] at g;cases g;exact .low (o e (Zk b) a (Zk f))
def fill {a:Type} (f:a->I) (z:I) (l:List a) (i:Nat):ψ:=(l.take i).map f++List.replicate (l.length-i) z
theorem Gb {a:Type} (f:a->I) (z:I) (l:List a):fill f z l 0=List.replicate l.length z:=by simp[fill]
theorem Ga {a:Type} (f:a->I) (z:I) (l:List a) {i:Nat} (h:l.length<=i):fill f z l i=l.map f:=by simp[fill,TC h,Nat.sub_eq_zero_of_le h]
theorem F' {a:Type} (f:a->I) (z:I) (l:List a) {i:Nat} (h:i<=l.length):(fill f z l i).length=l.length:=by simp[fill];omega
theorem Aw {a:Type} (f:a->I) (z:I) (l:List a) {i:Nat} (h:i<l.length):(fill f z l i)[i]?=some z:=by
 unfold fill;rw[XT (by simp;omega),Nu];rw[if_pos (by simp;omega)]
theorem F9 {a:Type} (f:a->I) (z:I) (l:List a) {i:Nat} (h:i<l.length):(fill f z l i).set i (f l[i])=fill f z l (i+1):=by
 unfold fill;have b:l.length-i=(l.length-(i+1))+1:=U;have Χ:((l.take i).map f).length=i:=by simp;omega
 rw[b,List.replicate_succ,Qn _ _ U,Χ,Qj,List.set_cons_zero,UZ h,Xz,TZ];rfl
end Go.TL
namespace Go.TL
open Go.Proofs.Tryz
open Go.Proofs
variable [ZS]
def IS (P:Program) (t:TypeId):Option (List (TypeDesc×Nat)):=
 if P.eqGuardType P.depth t=false then match P.underlying t with
  | some (.struct a)=>if P.stoodInHeld t=false/\a.toList.map (·.offset)=List.range a.toList.length/\(a.toList.all λf=>f.name != "_" && match P.underlying f.type with|some d=>Wd d|none=>false)=true then some (a.toList.map λf=>((P.underlying f.type).getD .invalid,f.offset)) else none
  | some (.array n e)=>match P.underlying e,P.info? e with
   | some d,some f=>if Wd d=true/\f.size=1 then some ((List.range n).map λi=>(d,i)) else none
   | _,_=>none
  | _=>none
 else none
theorem Av (P:Program) (t:TypeId):Jf P t (IS P t):=by
 unfold IS;split
 .rename_i g;split
  .rename_i h b;split
   .rename_i a;refine⟨g,by rw[Pz,Yb];exact a.2.1,.inl ⟨h,b,a.1,rfl,λf c=>?_⟩⟩;have:=WN.1 a.2.2 f c;simp only[VE,bne_iff_ne,ne_eq] at this;refine⟨this.1,?_⟩;cases hd:P.underlying f.type with
    | none=>rw[hd] at this;simp at this
    | some d=>rw[hd] at this;exact⟨d,rfl,this.2⟩
   .trivial
  .rename_i n e b;split
   .rename_i d f hd c;split
    .rename_i a;exact⟨g,by rw[Pz,Yb,List.length_range];exact(Ns λ_ _=>rfl).trans (List.map_id _),.inr ⟨n,e,d,f,b,hd,a.1,c,a.2,rfl⟩⟩
    .trivial
   .trivial
  .trivial
 .trivial
def Z5.of (P:Program):Z5:=λt=>match P.underlying t,P.info? t with
 | some d,some i=>match i.zero with|some z=>some ⟨i.size,d,z,i.bytes,IS P t⟩|none=>none
 | _,_=>none
theorem Z5.Kw (P:Program):ZJ P (Z5.of P):=λt i h=>by
 unfold Z5.of at h;split at h
 .rename_i d f hd a;split at h
  .rename_i z b;cases h;exact⟨⟨hd,Av P t⟩,f,a,rfl,b,rfl⟩
  .cases h
 .cases h
noncomputable def Z7:Z5:=Z5.of prog
theorem Τ:ZJ prog Z7:=Z5.Kw _
def O4 (b:List (Nat×Nat)) (a:Value) (c:I->Bool) (parts:List (Nat×I)):Zs:=
 match RA (λx=>(b[x]?).map λp=>(0,p.1,p.2)) (WS a).cells.length c [WS a] parts with
 | some [e]=>.ok (.Z9 e.cells)
 | _=>.bad
def MI (es:Nat) (a:Value) (b:I->Bool) (parts:List (Nat×I)):Zs:=
 match RA (λx=>some (0,x*es,es)) (WS a).cells.length b [WS a] parts with
 | some [e]=>.ok (.Z9 e.cells)
 | _=>.bad
theorem mixed:prog.follows .mixedOrders=true:=by kernel_rfl
section
variable {P:Program} {m nt:Nat} {k:List Item} {env:Ι} {σ:Υ} {Z:XF} {E:Yf}
theorem W.iter {ι:Type} {c:Code} (Inv:ι->Prop) (b:ι->Ι) (e:ι->Υ) (f:ι->Nat) (d:ι) (g:Inv d) (j:σ=e d) (l:∀p∈b d,Z' env p.1=p.2)
  (step:∀i,Inv i->(∀a,Inv a->f a<f i->W P m nt (.inLoop c::k) (b a) (e a) Z E)->W P m nt (.code c::.inLoop c::k) (b i) (e i) Z E):W P m nt (.code (.loop c)::k) env σ Z E:=by
 refine .loop (.forget (b d) l ?_);rw[j];have o:∀(n:Nat) (i:ι),f i<n->Inv i->W P m nt (.code c::.inLoop c::k) (b i) (e i) Z E:=by
  intro n
  induction n with
  | zero=>intro i h;omega
  | succ n r=>intro i hi s;exact step i s λa t u=>.inLoop (r a U t)
 exact o _ d (Q4 _) g
end
section
variable {P:Program} {m nt:Nat} {k:List Item} {env:Ι} {σ:Υ} {Z:XF} {E:Yf}
theorem W.YW {c:Operand} {a e:Code} {v:Bool} (b:π env c=.z (.bool v)) (d:v=true->W P m nt (.code a::k) env σ Z E) (f:v=false->W P m nt (.code e::k) env σ Z E):W P m nt (.code (.cond c a e)::k) env σ Z E:=by
 refine .cond b ?_;cases v with
 | true=>exact d rfl
 | false=>exact f rfl
theorem υ {c:Operand} {a e:Code} (b:π env c=.z (.bool true)) (h:W P m nt (.code a::k) env σ Z E):W P m nt (.code (.cond c a e)::k) env σ Z E:=.cond b h
theorem χ {c:Operand} {a e:Code} (b:π env c=.z (.bool false)) (h:W P m nt (.code e::k) env σ Z E):W P m nt (.code (.cond c a e)::k) env σ Z E:=.cond b h
theorem Δ.body {F:I->Υ->Prop} {T:Z5} (d:ZJ P T) {g:FuncId} {fn:Func} {b:Code} (e:P.funcs[g]?=some fn) (f:fn.body=some b) (i:(fn.name == "runtime.NumGoroutine")=false) {args:ψ} {K:I->Υ->Prop} {c:List ResultVar} (j:fn.ntmps=nt) (k:σ.length=m) (l:fn.results.toList=c) (n:args.length<=nt)
  (h:W P m nt [.code b] (entry 0 args) σ (Ends T c K) (λa _ s=>F a s)):Δ P g args σ K F:=by
 subst j;subst k;subst l;exact .AY d e f i n h
end
abbrev R (i:Int):I:=.z (.int .i64 i)
abbrev ZQ (b:Bool):I:=.z (.bool b)
abbrev κ {a:Type} (enc:a->I) (k:Nat) (l:List a):I:=.sl false k (l.map enc)
abbrev UK (b:ByteArray):I:=.z (.string b)
@[simp] theorem tu (x y:Int):(x==y)=decide (x=y):=by rw[PA];simp
@[simp] theorem tt (a b:Nat):((a:Int)=(b:Int))↔a=b:=U
attribute [simp] AX AW KJ AV AU Yx AT VN
attribute [congr] A7 A4 A3 or_congr AO AN
attribute [simp] idx A9 A8 A6 A5 Sg O6 AM AG AF AL AK AJ AI AH O7 Wb WJ Zs.or Zs.YL Za.holds X7 W9 ZE Z' π WS M4 entry Si QP Ob KW QT Om Od Oh Ll Og Lj Lk O4 RA I.QS I.YP I.Oe MI RD WA.agg Lu Ts Ls Tr Lq Tq
 K8 K7 La K9 Sj Lw Lv K6 Lo QR Lc Sk MY MX Li QO KS Qa MR MQ KV KT KU O9 KQ KR Pa aeqv VO Ur Pb WK Tp To I2 K3 MS K2 K1 KZ KX KY MW Lg Lh I.cells Sf QM KM Ends QN N'
@[simp] theorem ts {k:IntKind}:U9 (.int k)=false:=rfl
@[simp] theorem tr:U9 .bool=false:=rfl
@[simp] theorem tq:U9 .string=false:=rfl
@[simp] theorem tp {e:TypeId}:U9 (.slice e)=false:=rfl
@[simp] theorem tn {a b:TypeId}:U9 (.map a b)=false:=rfl
@[simp] theorem tm {a:TypeId}:U9 (.pointer a)=false:=rfl
@[simp] theorem tl {n:Nat} {a:TypeId}:U9 (.array n a)=true:=rfl
theorem Au {P:Nat->Prop} (n:Nat) (h:n<256) (a:∀m,m<256->P m):P n:=a n h
section
variable {m nt l:Nat} {a c:Code} {k:List Item} {env:Ι} {σ:Υ} {Z:XF} {E:Yf}
class N6 [ZS] (k:List Item) (a:outParam (List Item)):Prop where
 h:∀{P:Program} {m nt:Nat} {env:Ι} {σ:Υ} {Z:XF} {E:Yf},W P m nt a env σ Z E->W P m nt k env σ Z E
instance:N6 (.code (.seq a c)::k) (.code a::.code c::k):=⟨.seq⟩
instance:N6 (.code (.block l c)::k) (.code c::.inBlock l::k):=⟨.block⟩
instance:N6 (.inBlock l::k) k:=⟨.inBlock⟩
instance:N6 (.code .skip::k) k:=⟨.skip⟩
theorem Ζ {P:Program} {a:List Item} [N6 k a] (h:W P m nt a env σ Z E):W P m nt k env σ Z E:=N6.h h
theorem Xh {P:Program} (h:W P m nt (.code a::.code c::k) env σ Z E):W P m nt (.code (.seq a c)::k) env σ Z E:=.seq h
theorem Xg {P:Program} (h:W P m nt (.code c::.inBlock l::k) env σ Z E):W P m nt (.code (.block l c)::k) env σ Z E:=.block h
theorem WY {P:Program} (h:W P m nt k env σ Z E):W P m nt (.inBlock l::k) env σ Z E:=.inBlock h
theorem wd {P:Program} (h:W P m nt k env σ Z E):W P m nt (.code .skip::k) env σ Z E:=.skip h
theorem YH {id:Nat} {ops:Array Oper} (h:∀a:Ι->Υ->Prop,(∀env σ,W prog m nt k env σ Z E->a env σ)->run prog Z7 [] nt ops (idx ops.size []) env σ a E):W prog m nt (.code (.region id ops false)::k) env σ Z E:=YR Τ h
end
theorem W.rt {P:Program} {T:Z5} {b:List ResultVar} {K:I->Υ->Prop} {m nt:Nat} {k:List Item} {env:Ι} {σ:Υ} {E:Yf} {a:I} {p:Prop} {s:Υ} (h:p) (e:Sf T b env σ=some a:=by exact rfl) (c:K a σ=(p/\s=s):=by exact rfl):W P m nt (.code .ret::k) env σ (Ends T b K) E:=.ret ⟨a,e,c▸⟨h,rfl⟩⟩
end Go.TL
namespace Go.TL
open Go.Proofs.Tryz
open Go.Proofs
theorem Ρ {a b:Prop} (x:a) (y:b):a/\b:=⟨x,y⟩
theorem Y' {p q:Prop} (k:q) (h:q->p:=by intro k;(repeat (first|apply Ζ|apply Xh|apply Xg|apply WY|apply wd));exact k):p:=h k
theorem Φ {p q:Prop} (k:q) (h:q->p:=by intro k;(repeat (first|apply Ζ|apply Xh|apply Xg|apply WY|apply wd|(refine YH λb a=>?_;simp;(repeat (rw[Μ];simp));apply a)));exact k):p:=h k
theorem μ {p f:Prop} {q:f->Prop} (a:f) (k:q a) (h:∀a,q a->p:=by intro b k;(repeat (first|apply Ζ|apply Xh|apply Xg|apply WY|apply wd|(refine YH λd c=>?_;simp;(repeat (rw[Μ];simp[b]));apply c)));exact k):p:=h a k
theorem WR {p q:Prop} (k:q) (h:q->p:=by intro k;(repeat (first|apply Ζ|apply Xh|apply Xg|apply WY|apply wd|refine υ rfl ?_|refine χ rfl ?_|(refine YH λb a=>?_;simp;(repeat (rw[Μ];simp));apply a)));exact k):p:=h k
theorem WQ {p f:Prop} {q:f->Prop} (a:f) (k:q a) (h:∀a,q a->p:=by intro b k;(repeat (first|apply Ζ|apply Xh|apply Xg|apply WY|apply wd|refine υ rfl ?_|refine χ rfl ?_|(refine YH λd c=>?_;simp;(repeat (rw[Μ];simp[b]));apply c)));exact k):p:=h a k
theorem TJ {p q:Prop} (k:q) (h:q->p:=by intro k;refine YH λb a=>?_;simp;(repeat (rw[Μ];simp));apply a;exact k):p:=h k
theorem IQ {p f:Prop} {q:f->Prop} (a:f) (k:q a) (h:∀a,q a->p:=by intro b k;refine YH λd c=>?_;simp;(repeat (rw[Μ];simp[b]));apply c;exact k):p:=h a k
theorem ZB {p:Prop} {H:(Ι->Υ->Prop)->Prop} {q:∀K,H K->Prop} (k:∀K h,q K h) (h:(∀K h,q K h)->p:=by intro k;(repeat (first|apply Ζ|apply Xh|apply Xg|apply WY|apply wd));refine YH λa b=>?_;simp;(repeat (rw[Μ];simp));exact k a b):p:=h k
theorem XM {p f:Prop} {H:(Ι->Υ->Prop)->Prop} {q:f->∀K,H K->Prop} (a:f) (k:∀K h,q a K h) (h:∀a,(∀K h,q a K h)->p:=by intro b k;(repeat (first|apply Ζ|apply Xh|apply Xg|apply WY|apply wd));refine YH λc d=>?_;simp;(repeat (rw[Μ];simp[b]));exact k c d):p:=h a k
theorem Z1 {p q:Prop} (k:q) (h:q->p:=by intro k;simp;(repeat (rw[Μ];simp));exact k):p:=h k
theorem Xx {p f:Prop} {q:f->Prop} (a:f) (k:q a) (h:∀a,q a->p:=by intro b k;simp[b];(repeat (rw[Μ];simp[b]));exact k):p:=h a k
theorem VK {p q:Prop} (k:q) (h:q->p:=by intro k;simp;(repeat (rw[Zf];simp));(try rw[Zg]);exact k):p:=h k
theorem TI {p f:Prop} {q:f->Prop} (a:f) (k:q a) (h:∀a,q a->p:=by intro b k;simp[b];(repeat (rw[Zf];simp[b]));(try rw[Zg]);exact k):p:=h a k
theorem XL {a b:Prop} (k:b) (h:a:=by exact Ym (by kernel_rfl)):a/\b:=⟨h,k⟩
theorem QE {p q:Prop} (k:q) (h:q->p:=by intro k;refine W.draw (A:=[]) Τ mixed λb a=>?_;simp;(repeat (rw[Zf];simp));(try rw[Zg]);refine XL (a _ _ ?_);exact k):p:=h k
theorem SL {p f:Prop} {q:f->Prop} (a:f) (k:q a) (h:∀a,q a->p:=by intro b k;refine W.draw (A:=[]) Τ mixed λd c=>?_;simp;(repeat (rw[Zf];simp[b]));(try rw[Zg]);refine XL (c _ _ ?_);exact k):p:=h a k
end Go.TL
namespace Go.TL
open Go.Proofs.Tryz
open Go.Proofs
variable [ZS]
@[simp] theorem t3:Z7 3=some ⟨1,.int .i64,.int .i64 0,8,none⟩:=by kernel_rfl
@[simp] theorem t4:Z7 4=some ⟨1,.bool,.bool false,1,none⟩:=by kernel_rfl
@[simp] theorem t5:Z7 5=some ⟨1,.int .u8,.int .u8 0,1,none⟩:=by kernel_rfl
@[simp] theorem t9:Z7 9=some ⟨1,.string,.string ⟨#[]⟩,16,none⟩:=by kernel_rfl
@[simp] theorem t21:Z7 21=some ⟨1,.int .i32,.int .i32 0,4,none⟩:=by kernel_rfl
@[simp] theorem t22:Z7 22=some ⟨1,.slice 77,.slice none 0 0,24,none⟩:=by kernel_rfl
@[simp] theorem tk:WL Z7 22=some (77,2,none):=by kernel_rfl
@[simp] theorem t23:Z7 23=some ⟨1,.slice 29,.slice none 0 0,24,none⟩:=by kernel_rfl
@[simp] theorem tj:WL Z7 23=some (29,1,none):=by kernel_rfl
@[simp] theorem t24:Z7 24=some ⟨1,.slice 60,.slice none 0 0,24,none⟩:=by kernel_rfl
@[simp] theorem ti:WL Z7 24=some (60,1,none):=by kernel_rfl
noncomputable def IP:TypeDesc:=((Z7 26).getD ⟨0,.bool,.nilFunc,0,none⟩).ZN
@[simp] theorem t26:Z7 26=some ⟨3,IP,.agg #[.slice none 0 0,.slice none 0 0,.slice none 0 0],72,none⟩:=by kernel_rfl
@[simp] theorem th:U9 IP=true:=by kernel_rfl
@[simp] theorem tg:Xq Z7 26 0=some (0,22):=by kernel_rfl
@[simp] theorem tf:Xq Z7 26 1=some (1,23):=by kernel_rfl
@[simp] theorem te:Xq Z7 26 2=some (2,24):=by kernel_rfl
@[simp] theorem tc (a:I->Bool) (b:List (Nat×I)):TM Z7 a 26 b=O4 [(0,1),(1,1),(2,1)] (.agg #[.slice none 0 0,.slice none 0 0,.slice none 0 0]) a b:=by kernel_rfl
noncomputable def IN:TypeDesc:=((Z7 28).getD ⟨0,.bool,.nilFunc,0,none⟩).ZN
@[simp] theorem t28:Z7 28=some ⟨3,IN,.agg #[.int .i64 0,.int .i64 0,.int .i64 0],24,some [(.int .i64,0),(.int .i64,1),(.int .i64,2)]⟩:=by kernel_rfl
@[simp] theorem ta:U9 IN=true:=by kernel_rfl
@[simp] theorem s':Xq Z7 28 0=some (0,3):=by kernel_rfl
@[simp] theorem s9:Xq Z7 28 1=some (1,3):=by kernel_rfl
@[simp] theorem s8:Xq Z7 28 2=some (2,3):=by kernel_rfl
@[simp] theorem s7 (a:I->Bool) (b:List (Nat×I)):TM Z7 a 28 b=O4 [(0,1),(1,1),(2,1)] (.agg #[.int .i64 0,.int .i64 0,.int .i64 0]) a b:=by kernel_rfl
@[simp] theorem t29:Z7 29=some ⟨1,.slice 3,.slice none 0 0,24,none⟩:=by kernel_rfl
@[simp] theorem s6:WL Z7 29=some (3,1,none):=by kernel_rfl
@[simp] theorem t34:Z7 34=some ⟨1,.slice 26,.slice none 0 0,24,none⟩:=by kernel_rfl
@[simp] theorem s5:WL Z7 34=some (26,3,none):=by kernel_rfl
@[simp] theorem t38:Z7 38=some ⟨1,.int .i64,.int .i64 0,8,none⟩:=by kernel_rfl
@[simp] theorem t60:Z7 60=some ⟨1,.slice 28,.slice none 0 0,24,none⟩:=by kernel_rfl
@[simp] theorem s4:WL Z7 60=some (28,3,none):=by kernel_rfl
noncomputable def F8:TypeDesc:=((Z7 72).getD ⟨0,.bool,.nilFunc,0,none⟩).ZN
@[simp] theorem t72:Z7 72=some ⟨1,F8,.nilFunc,8,none⟩:=by kernel_rfl
@[simp] theorem s3:U9 F8=false:=by kernel_rfl
noncomputable def IM:TypeDesc:=((Z7 77).getD ⟨0,.bool,.nilFunc,0,none⟩).ZN
@[simp] theorem t77:Z7 77=some ⟨2,IM,.agg #[.string ⟨#[]⟩,.int .i64 0],24,some [(.string,0),(.int .i64,1)]⟩:=by kernel_rfl
@[simp] theorem s0:U9 IM=true:=by kernel_rfl
@[simp] theorem sZ:Xq Z7 77 0=some (0,9):=by kernel_rfl
@[simp] theorem sY:Xq Z7 77 1=some (1,3):=by kernel_rfl
@[simp] theorem sX (a:I->Bool) (b:List (Nat×I)):TM Z7 a 77 b=O4 [(0,1),(1,1)] (.agg #[.string ⟨#[]⟩,.int .i64 0]) a b:=by kernel_rfl
@[simp] theorem t91:Z7 91=some ⟨1,.int .u64,.int .u64 0,8,none⟩:=by kernel_rfl
@[simp] theorem sW:Xq Z7 93 0=some (0,29):=by kernel_rfl
@[simp] theorem sV:Xq Z7 93 1=some (1,91):=by kernel_rfl
@[simp] theorem sU (a:I->Bool) (b:List (Nat×I)):TM Z7 a 93 b=O4 [(0,1),(1,1)] (.agg #[.slice none 0 0,.int .u64 0]) a b:=by kernel_rfl
@[simp] theorem t95:Z7 95=some ⟨1,.int .u64,.int .u64 0,8,none⟩:=by kernel_rfl
noncomputable def F7:TypeDesc:=((Z7 98).getD ⟨0,.bool,.nilFunc,0,none⟩).ZN
@[simp] theorem t98:Z7 98=some ⟨3,F7,.agg #[.slice none 0 0,.slice none 0 0,.slice none 0 0],72,none⟩:=by kernel_rfl
@[simp] theorem sT:U9 F7=true:=by kernel_rfl
@[simp] theorem sS:Xq Z7 98 0=some (0,26):=by kernel_rfl
@[simp] theorem sR (a:I->Bool) (b:List (Nat×I)):TM Z7 a 98 b=O4 [(0,3)] (.agg #[.slice none 0 0,.slice none 0 0,.slice none 0 0]) a b:=by kernel_rfl
@[simp] theorem t99:Z7 99=some ⟨1,.slice 110,.slice none 0 0,24,none⟩:=by kernel_rfl
@[simp] theorem sQ:WL Z7 99=some (110,3,none):=by kernel_rfl
@[simp] theorem t102:Z7 102=some ⟨2,.array 2 3,.agg #[.int .i64 0,.int .i64 0],16,some [(.int .i64,0),(.int .i64,1)]⟩:=by kernel_rfl
@[simp] theorem sP:WL Z7 102=some (3,1,some 2):=by kernel_rfl
@[simp] theorem sO (a:I->Bool) (b:List (Nat×I)):TM Z7 a 102 b=MI 1 (.agg #[.int .i64 0,.int .i64 0]) a b:=by kernel_rfl
noncomputable def As:TypeDesc:=((Z7 104).getD ⟨0,.bool,.nilFunc,0,none⟩).ZN
@[simp] theorem t104:Z7 104=some ⟨4,As,.agg #[.int .i64 0,.int .i64 0,.int .i64 0,.bool false],32,none⟩:=by kernel_rfl
@[simp] theorem sN:Xq Z7 104 0=some (0,102):=by kernel_rfl
@[simp] theorem sM:Xq Z7 104 1=some (2,3):=by kernel_rfl
@[simp] theorem sL:Xq Z7 104 2=some (3,4):=by kernel_rfl
@[simp] theorem t106:Z7 106=some ⟨1,.map 113 3,.map none,8,none⟩:=by kernel_rfl
@[simp] theorem t107:Z7 107=some ⟨2,.array 2 3,.agg #[.int .i64 0,.int .i64 0],16,some [(.int .i64,0),(.int .i64,1)]⟩:=by kernel_rfl
@[simp] theorem sK (a:I->Bool) (b:List (Nat×I)):TM Z7 a 107 b=MI 1 (.agg #[.int .i64 0,.int .i64 0]) a b:=by kernel_rfl
@[simp] theorem t108:Z7 108=some ⟨1,.slice 111,.slice none 0 0,24,none⟩:=by kernel_rfl
@[simp] theorem sJ:WL Z7 108=some (111,1,none):=by kernel_rfl
noncomputable def IL:TypeDesc:=((Z7 110).getD ⟨0,.bool,.nilFunc,0,none⟩).ZN
@[simp] theorem t110:Z7 110=some ⟨3,IL,.agg #[.int .i64 0,.int .i64 0,.slice none 0 0],40,none⟩:=by kernel_rfl
@[simp] theorem sI:U9 IL=true:=by kernel_rfl
@[simp] theorem sH:Xq Z7 110 0=some (0,107):=by kernel_rfl
@[simp] theorem sG:Xq Z7 110 1=some (2,108):=by kernel_rfl
@[simp] theorem sF (a:I->Bool) (b:List (Nat×I)):TM Z7 a 110 b=O4 [(0,2),(2,1)] (.agg #[.int .i64 0,.int .i64 0,.slice none 0 0]) a b:=by kernel_rfl
@[simp] theorem t111:Z7 111=some ⟨1,.slice 112,.slice none 0 0,24,none⟩:=by kernel_rfl
@[simp] theorem sE:WL Z7 111=some (112,2,none):=by kernel_rfl
@[simp] theorem t112:Z7 112=some ⟨2,.array 2 3,.agg #[.int .i64 0,.int .i64 0],16,some [(.int .i64,0),(.int .i64,1)]⟩:=by kernel_rfl
@[simp] theorem sD:WL Z7 112=some (3,1,some 2):=by kernel_rfl
@[simp] theorem sC (a:I->Bool) (b:List (Nat×I)):TM Z7 a 112 b=MI 1 (.agg #[.int .i64 0,.int .i64 0]) a b:=by kernel_rfl
@[simp] theorem t113:Z7 113=some ⟨1,.int .i64,.int .i64 0,8,none⟩:=by kernel_rfl
@[simp] theorem t132:Z7 132=some ⟨1,.slice 21,.slice none 0 0,24,none⟩:=by kernel_rfl
@[simp] theorem sB:WL Z7 132=some (21,1,none):=by kernel_rfl
noncomputable def F6:TypeDesc:=((Z7 136).getD ⟨0,.bool,.nilFunc,0,none⟩).ZN
@[simp] theorem t136:Z7 136=some ⟨1,F6,.nilFunc,8,none⟩:=by kernel_rfl
@[simp] theorem sA:U9 F6=false:=by kernel_rfl
@[simp] theorem t139:Z7 139=some ⟨3,.array 3 72,.agg #[.nilFunc,.nilFunc,.nilFunc],24,none⟩:=by kernel_rfl
@[simp] theorem sz (a:I->Bool) (b:List (Nat×I)):TM Z7 a 139 b=MI 1 (.agg #[.nilFunc,.nilFunc,.nilFunc]) a b:=by kernel_rfl
@[simp] theorem t156:Z7 156=some ⟨1,.map 157 3,.map none,8,none⟩:=by kernel_rfl
@[simp] theorem t157:Z7 157=some ⟨4,.array 4 113,.agg #[.int .i64 0,.int .i64 0,.int .i64 0,.int .i64 0],32,some [(.int .i64,0),(.int .i64,1),(.int .i64,2),(.int .i64,3)]⟩:=by kernel_rfl
@[simp] theorem sy:WL Z7 157=some (113,1,some 4):=by kernel_rfl
@[simp] theorem t169:Z7 169=some ⟨1,.int .u32,.int .u32 0,4,none⟩:=by kernel_rfl
@[simp] theorem sx:Xq Z7 171 0=some (0,21):=by kernel_rfl
@[simp] theorem sw:Xq Z7 171 1=some (1,169):=by kernel_rfl
@[simp] theorem su:Xq Z7 173 1=some (0,171):=by kernel_rfl
@[simp] theorem ss:Xq Z7 177 2=some (0,91):=by kernel_rfl
@[simp] theorem sr:Xq Z7 179 1=some (0,177):=by kernel_rfl
@[simp] theorem so:Xq Z7 179 2=some (1,169):=by kernel_rfl
@[simp] theorem t190:Z7 190=some ⟨1,.slice 9,.slice none 0 0,24,none⟩:=by kernel_rfl
@[simp] theorem sn:WL Z7 190=some (9,1,none):=by kernel_rfl
@[simp] theorem t204:Z7 204=some ⟨1,.map 112 4,.map none,8,none⟩:=by kernel_rfl
@[simp] theorem sm:U8 Z7 22 22=some (77,2,⟨2,IM,.agg #[.string ⟨#[]⟩,.int .i64 0],24,some [(.string,0),(.int .i64,1)]⟩):=by kernel_rfl
@[simp] theorem sk:U8 Z7 23 23=some (29,1,⟨1,.slice 3,.slice none 0 0,24,none⟩):=by kernel_rfl
@[simp] theorem sj:U8 Z7 24 24=some (60,1,⟨1,.slice 28,.slice none 0 0,24,none⟩):=by kernel_rfl
@[simp] theorem si:U8 Z7 29 29=some (3,1,⟨1,.int .i64,.int .i64 0,8,none⟩):=by kernel_rfl
@[simp] theorem sh:U8 Z7 34 34=some (26,3,⟨3,IP,.agg #[.slice none 0 0,.slice none 0 0,.slice none 0 0],72,none⟩):=by kernel_rfl
@[simp] theorem sg:U8 Z7 60 60=some (28,3,⟨3,IN,.agg #[.int .i64 0,.int .i64 0,.int .i64 0],24,some [(.int .i64,0),(.int .i64,1),(.int .i64,2)]⟩):=by kernel_rfl
@[simp] theorem sf:U8 Z7 99 99=some (110,3,⟨3,IL,.agg #[.int .i64 0,.int .i64 0,.slice none 0 0],40,none⟩):=by kernel_rfl
@[simp] theorem se:U8 Z7 108 108=some (111,1,⟨1,.slice 112,.slice none 0 0,24,none⟩):=by kernel_rfl
@[simp] theorem sd:U8 Z7 111 111=some (112,2,⟨2,.array 2 3,.agg #[.int .i64 0,.int .i64 0],16,some [(.int .i64,0),(.int .i64,1)]⟩):=by kernel_rfl
@[simp] theorem sc:U8 Z7 132 132=some (21,1,⟨1,.int .i32,.int .i32 0,4,none⟩):=by kernel_rfl
theorem N5:IntKind.i64.wrap 1=1:=Z2
theorem MH:IntKind.i64.wrap 2=2:=Z2
theorem YF {i n:Nat} (h:i<n) (a:n<2 ^ 62):IntKind.i64.wrap ((i:Int)+1)=((i+1:Nat):Int):=by
 rw[IntWalk.i64_in _ U];rfl
theorem Ar (l:List Int) (n:Int) (g:l.length<2 ^ 62):Δ prog 112 [κ R 1 l,R n] [] (λa σ=>a=ZQ (l.contains n)/\σ=[]) (λ_ _=>False):=by
 refine Δ.body Τ func112 rfl rfl ntmps112 rfl rfl J ?_
 repeat apply Ζ
 refine TJ ?_
 repeat apply Ζ
 refine TJ ?_
 repeat apply Ζ
 refine W.iter (λi:Nat=>i<=l.length/\∀j,j<i->(h:j<l.length)->l[j]≠n) (λi=>[(0,κ R 1 l),(1,R n),(5,R i)]) (λ_=>[]) (λi=>l.length-i) 0 ⟨ω _,λj c=>U⟩ rfl J (λi hi k=>?_)
 repeat apply Ζ
 refine TJ ?_;refine W.YW rfl (λb=>?_) (λb=>?_)
 .have b:i<l.length:=by simpa using b
  repeat apply Ζ
  refine IQ b ?_;refine W.YW rfl (λd=>?_) (λd=>?_)
  .have f:l[i]=n:=by simpa using d
   repeat apply Ζ
   refine TJ ?_;refine W.ret ?_;simp;exact f▸YB _
  .have f:l[i]≠n:=by simpa using d
   repeat apply Ζ
   refine TJ ?_;refine W.forget _ ?_ (k (i+1) ⟨U,λj c h=>?_⟩ U)
   .simp[YF b g]
   .by_cases e:j=i
    .subst e;exact f
    .exact hi.2 j U h
 .have b:i=l.length:=by simp at b;omega
  subst b;refine W.exit rfl ?_
  repeat apply Ζ
  refine TJ ?_;refine W.ret ?_;simp;intro h;obtain⟨j,c,e⟩:=T0 h;exact hi.2 j c c e
theorem F5 {a:Type} (f:a->I) (z:I) (l:List a) {i:Nat} (h:i<l.length) (b:i<(fill f z l i).length):(fill f z l i)[i]=z:=by
 have:=Aw f z l h;rw[ε b] at this;exact WM this
theorem Kv (a b:List Int) (g:a.length<2 ^ 62):Ν prog 30 [κ R 1 a,κ R 1 b] (ZQ (a==b)):=by
 refine Δ.body Τ func30 rfl rfl ntmps30 rfl rfl J ?_;refine Φ ?_;refine W.iter (λp:Nat×Bool=>p.1<=a.length/\(p.2=true->a.length=b.length/\∀j,j<p.1->a[j]?=b[j]?)/\(p.2=false->a≠b)) (λp=>[(0,κ R 1 a),(1,κ R 1 b),(5,ZQ p.2),(6,R p.1)]) (λ_=>[]) (λp=>a.length-p.1) (0,decide (a.length=b.length)) ⟨ω _,J,by simp;exact λh e=>h (by rw[e])⟩ rfl J (λi hi k=>?_);rcases i with⟨i,_|_⟩
 .refine Φ ?_;refine χ rfl ?_;refine W.exit rfl ?_;refine Φ ?_;refine W.rt ?_;exact .of (by simp[hi.2.2 rfl])
 .refine Φ ?_;have l:=(hi.2.1 rfl).1;refine W.YW rfl (λc=>?_) (λc=>?_)
  .have c:i<a.length:=by simpa using c
   have f:i<b.length:=U;refine Φ ?_;refine SL (Ρ c f) ?_;refine Φ ?_;refine W.forget _ ?_ (k (i+1,decide (a[i]=b[i])) ⟨by simp;omega,λh=>⟨l,λj d=>?_⟩,λh e=>?_⟩ (by simp;omega))
   .simp[YF c g]
   .by_cases e:j=i
    .subst e;rw[ε c,ε f];simpa using h
    .exact(hi.2.1 rfl).2 j (by simp at d;omega)
   .subst e;simp at h
  .have c:a.length<=i:=by simpa using c
   refine W.exit rfl ?_;refine Φ ?_;refine W.rt ?_;refine .of ?_;have:a=b:=Su λj=>by
    by_cases d:j<i
    .exact(hi.2.1 rfl).2 j d
    .rw[TB U,TB U]
   simp[this]
theorem IK (l:List Int) (d:l.length<2 ^ 44):Ν prog 44 [κ R 1 l] (κ R 1 l):=by
 refine Δ.body Τ func44 rfl rfl ntmps44 rfl rfl J ?_
 repeat apply Ζ
 refine TJ ?_
 repeat apply Ζ
 refine YR (A:=[7]) Τ λe b=>Z1 ?_;refine⟨U,?_⟩;apply b;refine Φ ?_;refine W.iter (λi:Nat=>i<=l.length) (λi=>[(0,κ R 1 l),(3,.ms 0 l.length 0 l.length),(4,R i)]) (λi=>[.cells 3 1 (fill R (R 0) l i)]) (λi=>l.length-i) 0 (ω _) (by simp[Gb]) J (λi hi c=>?_);refine Φ ?_;refine W.YW rfl (λa=>?_) (λa=>?_)
 .have a:i<l.length:=by simpa using a
  refine μ (Ρ a (Ρ (F' R (R 0) l hi) (Ρ (F5 R (R 0) l a) (F9 R (R 0) l a)))) ?_;refine W.forget _ ?_ (c (i+1) a U);simp[YF a (show l.length<2 ^ 62 by omega)]
 .have a:l.length<=i:=by simpa using a
  refine W.exit rfl ?_;refine Φ ?_;refine W.cut 0 (ω _) [(2,κ R 1 l)] J J (by simp;rw[Ga _ _ _ a];exact .own (ω _) rfl J J) ?_;refine W.rt ?_;exact .refl _
abbrev Z3 (l:List (List Int)):I:=κ (κ R 1) 1 l
theorem F4 (l:List (List Int)) (g:l.length<2 ^ 40) (c:∀x∈l,x.length<2 ^ 44):Ν prog 74 [Z3 l] (Z3 l):=by
 refine Δ.body Τ func74 rfl rfl ntmps74 rfl rfl J ?_
 repeat apply Ζ
 refine TJ ?_
 repeat apply Ζ
 refine YR (A:=[7]) Τ λe b=>Z1 ?_;refine⟨U,?_⟩;apply b;refine Φ ?_;refine W.iter (λi:Nat=>i<=l.length) (λi=>[(0,Z3 l),(3,.ms 0 l.length 0 l.length),(4,R i)]) (λi=>[.cells 29 1 (fill (κ R 1) (.sl true 0 []) l i)]) (λi=>l.length-i) 0 (ω _) (by simp[Gb]) J (λi hi f=>?_);refine Φ ?_;refine W.YW rfl (λa=>?_) (λa=>?_)
 .have a:i<l.length:=by simpa using a
  refine XM a λe b=>?_;refine Ν.d (IK _ (c _ (YB _))) (Xx (Ρ a (Ρ (F' (κ R 1) (.sl true 0 []) l hi) (Ρ (F5 (κ R 1) (.sl true 0 []) l a) (F9 (κ R 1) (.sl true 0 []) l a)))) ?_);apply b;refine Φ ?_;refine W.forget _ ?_ (f (i+1) a U);simp[YF a (show l.length<2 ^ 62 by omega)]
 .have a:l.length<=i:=by simpa using a
  refine W.exit rfl ?_;refine Φ ?_;refine W.cut 0 (ω _) [(2,Z3 l)] J J (by simp;rw[Ga _ _ _ a];exact .own (ω _) rfl J J) ?_;refine W.rt ?_;exact .refl _
theorem IJ (l:List Int) (n:Int) (k:l.length<2 ^ 62):Ν prog 71 [κ R 1 l,R n] (R (if n∈l then(l.idxOf n:Nat) else -1)):=by
 refine Δ.body Τ func71 rfl rfl ntmps71 rfl rfl J ?_;refine Φ ?_;refine W.iter (λi:Nat=>i<=l.length/\∀j,j<i->(h:j<l.length)->l[j]≠n) (λi=>[(0,κ R 1 l),(1,R n),(5,R i)]) (λ_=>[]) (λi=>l.length-i) 0 ⟨ω _,λj d=>U⟩ rfl J (λi hi m=>?_)
 repeat apply Ζ
 by_cases a:i<l.length
 .refine μ a ?_;refine W.YW rfl (λf=>?_) (λf=>?_)
  .have b:l[i]≠n:=by simpa using f
   refine Φ ?_;refine W.forget _ ?_ (m (i+1) ⟨a,λj d h=>?_⟩ U)
   .simp[YF a k]
   .by_cases e:j=i
    .subst e;exact b
    .exact hi.2 j U h
  .have b:l[i]=n:=by simpa using f
   refine W.exit rfl ?_;refine Φ ?_;have o:¬i=l.length:=U;refine χ (by simp[o]) ?_;refine Φ ?_;refine W.rt ?_;have c:n∈l:=b▸YB _;refine .of ?_;rw[if_pos c];have:l.idxOf n=i:=by
    have g:l.idxOf n<l.length:=List.idxOf_lt_length_of_mem c
    have r:l[l.idxOf n]=n:=List.getElem_idxOf g
    have t:¬l.idxOf n<i:=λh=>hi.2 _ h g r
    have u:¬i<l.idxOf n:=λh=>by
     have:=List.not_of_lt_findIdx (p:=(·==n)) (xs:=l) (i:=i) h;simp[b] at this
    omega
   rw[this];rfl
 .refine μ a ?_;refine χ rfl ?_;refine W.exit rfl ?_;refine Φ ?_;have s:i=l.length:=U;refine υ (by simp[s]) ?_;refine Φ ?_;refine W.rt ?_;have c:n∉l:=λh=>by
   obtain⟨j,d,e⟩:=T0 h;exact hi.2 j U d e
  exact .of (by simp[c])
theorem II (a b:List (List Int)) (n:a.length<2 ^ 40) (g:∀x∈a,x.length<2 ^ 40):Ν prog 50 [Z3 a,Z3 b] (ZQ (a==b)):=by
 refine Δ.body Τ func50 rfl rfl ntmps50 rfl rfl J ?_;refine Φ ?_;refine W.iter (λp:Nat×Bool=>p.1<=a.length/\(p.2=true->a.length=b.length/\∀j,j<p.1->a[j]?=b[j]?)/\(p.2=false->a≠b)) (λp=>[(0,Z3 a),(1,Z3 b),(5,ZQ p.2),(6,R p.1)]) (λ_=>[]) (λp=>a.length-p.1) (0,decide (a.length=b.length)) ⟨ω _,J,by simp;exact λh e=>h (by rw[e])⟩ rfl J (λi hi k=>?_);rcases i with⟨i,_|_⟩
 .refine Φ ?_;refine χ rfl ?_;refine W.exit rfl ?_;refine Φ ?_;refine W.rt ?_;exact .of (by simp[hi.2.2 rfl])
 .refine Φ ?_;have l:=(hi.2.1 rfl).1;refine W.YW rfl (λc=>?_) (λc=>?_)
  .have c:i<a.length:=by simpa using c
   have f:i<b.length:=U;refine Φ ?_;refine W.draw (A:=[]) Τ mixed λo m=>TI (Ρ c f) ?_;refine Yl (Ν.q (Kv a[i] b[i] (by have:=g _ (YB c);omega))) (VK ?_);refine XL (m _ _ ?_);refine Φ ?_;refine W.forget _ ?_ (k (i+1,a[i]==b[i]) ⟨by simp;omega,λh=>⟨l,λj d=>?_⟩,λh e=>?_⟩ (by simp;omega))
   .simp[YF c (show a.length<2 ^ 62 by omega)]
   .by_cases e:j=i
    .subst e;rw[ε c,ε f];simpa using h
    .exact(hi.2.1 rfl).2 j (by simp at d;omega)
   .subst e;simp at h
  .have c:a.length<=i:=by simpa using c
   refine W.exit rfl ?_;refine Φ ?_;refine W.rt ?_;refine .of ?_;have:a=b:=Su λj=>by
    by_cases d:j<i
    .exact(hi.2.1 rfl).2 j d
    .rw[TB U,TB U]
   simp[this]
structure Xp where
 name:ByteArray
 ZG:Int
deriving DecidableEq
structure Y9 where
 Zb:Int
 seen:Int
 bare:Int
deriving DecidableEq
structure ο where
 Κ:List Xp
 Β:List (List Int)
 cells:List (List Y9)
deriving DecidableEq
abbrev Yr (g:Xp):I:=.Z9 [UK g.name,R g.ZG]
abbrev Zv (p:Y9):I:=.Z9 [R p.Zb,R p.seen,R p.bare]
abbrev ZU (l:List Xp):I:=κ Yr 2 l
abbrev Vy (l:List Y9):I:=κ Zv 3 l
abbrev Vx (l:List (List Y9)):I:=κ Vy 1 l
abbrev Zd (s:ο):I:=.Z9 [ZU s.Κ,Z3 s.Β,Vx s.cells]
abbrev ZW (s:ο):I:=.Ε [ZU s.Κ,Z3 s.Β,Vx s.cells]
def ο.small (s:ο):Prop:=s.Κ.length<2 ^ 30/\s.Β.length<2 ^ 30/\s.cells.length<2 ^ 30/\(∀x∈s.Β,x.length<2 ^ 30)/\∀x∈s.cells,x.length<2 ^ 30
def ο.Se (s:ο):Bool:=decide (20<s.Κ.length)||decide (20<s.Β.length)||decide (20<s.cells.length)||s.Β.any (λx=>decide (20<x.length))||s.cells.any λx=>decide (20<x.length)
@[simp] theorem sb (x y:Int):(x != y) = !decide (x=y):=by rw[PA];simp
section
variable {P:Program} {m nt:Nat} {k:List Item} {env:Ι} {σ σ':Υ} {Z:XF} {E:Yf}
theorem W.drop {h:Nat} (c:m<=h) (d:h<=σ.length) (e:∀(id:Nat) (r:Row),id<h->σ[id]?=some r->X8 h r) (f:σ.take h=σ') (env':Ι) (a:∀p∈env',Z' env p.1=p.2/\Γ h p.2) (g:W P m nt k env' σ' Z E):W P m nt k env σ Z E:=
 W.cut h c env' d e (λp b=>by rw[(a p b).1];exact .low (a p b).2) (by rw[f];exact g)
theorem W.fix {id:Nat} {t:TypeId} {e:I} {kk:Nat} (i:m<=id) (f:σ[id]?=some (.cells t kk [e])) (j:∀a∈e.cells,Γ id a) (l:∀(g:Nat) (r:Row),g<id->σ[g]?=some r->X8 id r) (n:σ.take id=σ') (env':Ι)
  (o:∀p∈env',(Z' env p.1=p.2/\Γ id p.2)\/(Z' env p.1=.Ο id 1 0 0/\p.2=.Ε e.cells)) (s:W P m nt k env' σ' Z E):W P m nt k env σ Z E:=
 W.cut id i env' (St (ZD.1 f).1) l (λp u=>by
  rcases o p u with⟨b,c⟩|⟨b,c⟩
  .rw[b];exact .low c
  .rw[b,c];refine .Ο (ZO _) f rfl (e:=e) rfl J λx a v d h=>?_;rw[VD] at d;rw[d] at h;cases h;exact .low (j a (Zk d))) (by rw[n];exact s)
theorem W.to {env':Ι} (h:W P m nt k env' σ' Z E) (a:σ=σ') (b:∀p∈env',Z' env p.1=p.2):W P m nt k env σ Z E:=a▸W.forget env' b h
end
abbrev V0 (a b:Int):Int:=X9 .i64 a b
abbrev Vg (a b:Int):Int:=RE .i64 a b
abbrev O3 (a b:Int):Int:=Vi .i64 a b
section
variable {P:Program} {σ:Υ}
theorem VM.c {f:I} {args:ψ} {r:I} {K E:I->Υ->Prop} (h:VM P f args r) (b:K r σ):WZ P f args σ K E:=
 WZ.mono (h σ) (λa s ⟨d,e⟩=>by subst d;subst e;exact b) (λ_ _ h=>h.elim)
end
def Xo (n:Int):Bool:=decide (0<=n)&&decide (n<=2)
theorem SK (n:Int):Ν prog 93 [R n] (ZQ (Xo n)):=by
 refine Δ.body Τ func93 rfl rfl ntmps93 rfl rfl J ?_;by_cases h:0<=n
 .refine μ h ?_;refine W.rt ?_;exact .of (by simp[Xo,h])
 .refine μ h ?_;refine W.rt ?_;exact .of (by simp[Xo,h])
def valid (n:Int):Bool:=decide (0<=n)&&decide (n<=63)
theorem N4 (n:Int):Ν prog 109 [R n] (ZQ (valid n)):=by
 refine Δ.body Τ func109 rfl rfl ntmps109 rfl rfl J ?_;by_cases h:0<=n
 .refine μ h ?_;refine W.rt ?_;exact .of (by simp[valid,h])
 .refine μ h ?_;refine W.rt ?_;exact .of (by simp[valid,h])
theorem F3 (a b:Int):Ν prog 196 [R a,R b] (ZQ (V0 a b==0)):=by
 refine Δ.body Τ func196 rfl rfl ntmps196 rfl rfl J ?_;refine Φ ?_;refine W.rt ?_;exact .of J
theorem F2 (a b:Int):Ν prog 210 [R a,R b] (ZQ (O3 a b==0)):=by
 refine Δ.body Τ func210 rfl rfl ntmps210 rfl rfl J ?_;refine Φ ?_;refine W.rt ?_;exact .of J
theorem IH (b:Bool):Ν prog 127 [ZQ b] (R (if b then 1 else 0)):=by
 refine Δ.body Τ func127 rfl rfl ntmps127 rfl rfl J ?_;cases b
 .refine Φ ?_;refine χ rfl ?_;refine Φ ?_;refine W.rt ?_;exact .refl _
 .refine Φ ?_;refine υ rfl ?_;refine Φ ?_;refine W.rt ?_;exact .refl _
theorem IG (n:Int):Ν prog 193 [R n] (ZQ false):=by
 refine Δ.body Τ func193 rfl rfl ntmps193 rfl rfl J ?_;refine Φ ?_;refine W.rt ?_;exact .of J
def VZ (n:Int):Int:=Vg (Vg (O3 n 15) (IntKind.i64.wrap (V0 n 5*2))) ((V0 n 10).fdiv 2)
theorem F1 (n:Int):Ν prog 99 [R n] (R (VZ n)):=by
 refine Δ.body Τ func99 rfl rfl ntmps99 rfl rfl J ?_;refine Φ ?_;refine W.rt ?_;exact .of (by simp[VZ,IntKind.bits])
def idxOf {a:Type} (p:a->Bool) (l:List a):Int:=if l.any p then(l.findIdx p:Nat) else -1
theorem Ku {b:Type} {p:b->Bool} {l:List b} {i:Nat} (h:i<l.length) (c:p l[i]=true) (e:∀j,j<i->(g:j<l.length)->p l[j]=false):idxOf p l=(i:Nat):=by
 have f:l.any p=true:=Np.2 ⟨_,YB h,c⟩
 have:l.findIdx p=i:=by
  have k:¬l.findIdx p<i:=λa=>by
   have d:l.findIdx p<l.length:=U
   have:=List.findIdx_getElem (p:=p) (w:=d);rw[e _ a d] at this;cases this
  have m:¬i<l.findIdx p:=λa=>by
   have:=List.not_of_lt_findIdx a;rw[c] at this;simp at this
  omega
 unfold idxOf;rw[if_pos f,this]
theorem Kt {a:Type} {p:a->Bool} {l:List a} (h:∀j,(b:j<l.length)->p l[j]=false):idxOf p l=-1:=by
 have:l.any p=false:=by
  rw[Q7];intro x c;obtain⟨j,b,rfl⟩:=T0 c;simp[h j b]
 unfold idxOf;rw[this];rfl
theorem Ks {a:Type} {p:a->Bool} {l:List a}:decide (idxOf p l>=0)=l.any p:=by
 unfold idxOf;cases h:l.any p<;>simp
theorem Aq (l:List Int) (n:Int) (f:l.length<2 ^ 62):Ν prog 137 [κ R 1 l,R n] (R (idxOf (·==n) l)):=by
 refine Δ.body Τ func137 rfl rfl ntmps137 rfl rfl J ?_;refine Φ ?_;refine W.iter (λi:Nat=>i<=l.length/\∀j,j<i->(h:j<l.length)->(l[j]==n)=false) (λi=>[(0,κ R 1 l),(1,R n),(6,κ R 1 l),(7,R l.length),(8,R i)]) (λ_=>[]) (λi=>l.length-i) 0 ⟨ω _,λj b=>U⟩ rfl J (λi hi g=>?_);refine Φ ?_;refine W.YW rfl (λa=>?_) (λa=>?_)
 .have a:i<l.length:=by simpa using a
  refine μ a ?_;refine W.YW rfl (λc=>?_) (λc=>?_)
  .have d:n=l[i]:=by simpa using c
   refine Φ ?_;refine W.rt ?_;exact .of (by rw[Ku a (by simp[d]) hi.2];rfl)
  .have d:¬n=l[i]:=by simpa using c
   refine Φ ?_;refine W.forget _ ?_ (g (i+1) ⟨U,λj b h=>?_⟩ U)
   .simp[YF a f]
   .by_cases e:j=i
    .subst e;simpa using λx=>d x.symm
    .exact hi.2 j U h
 .have a:l.length<=i:=by simpa using a
  refine W.exit rfl ?_;refine Φ ?_;refine W.rt ?_;exact .of (by rw[Kt λj b=>hi.2 j U b];rfl)
theorem any_beq (l:List Int) (n:Int):(l.any λx=>x==n)=l.contains n:=by
 rw[PA];simp
theorem F0 (l:List Int) (n:Int) (a:l.length<2 ^ 62):Ν prog 110 [κ R 1 l,R n] (ZQ (l.contains n)):=by
 refine Δ.body Τ func110 rfl rfl ntmps110 rfl rfl J ?_;refine Φ ?_;refine ZB λc b=>?_;refine Ν.d (Aq l n a) (Z1 ?_);apply b;refine Φ ?_;refine W.rt ?_;exact .of (by rw[<-any_beq,<-Ks];rfl)
@[simp high] theorem Ap {h:Nat} {e:Bool} {k:Nat} {c:Type} {f:c->I} {l:List c}:Γ h (.sl e k (l.map f))↔∀x∈l,∀a∈(f x).cells,Γ h a:=by
 rw[Yx];simp only[YK];exact⟨λH x b=>H _ ⟨x,b,rfl⟩,λH e ⟨x,b,d⟩=>d▸H x b⟩
@[simp high] theorem sa {h:Nat} {e:Bool} {k n:Nat} {b:Type} {f:b->I} {l:List b}:Γ h (.sl e k ((l.map f).take n))↔∀x∈l.take n,∀a∈(f x).cells,Γ h a:=by
 rw[<-Nn];exact Ap
abbrev Zo (r:Int×Int):I:=.Z9 [R r.1,R r.2]
abbrev Un (l:List (Int×Int)):I:=κ Zo 2 l
abbrev Um (l:List (List (Int×Int))):I:=κ Un 1 l
structure Found where
 u:Int
 v:Int
 cells:List (List (Int×Int))
deriving DecidableEq
abbrev Y0 (f:Found):I:=.Z9 [R f.u,R f.v,Um f.cells]
abbrev Y8 (l:List Found):I:=κ Y0 3 l
def ο.of (s:ο) (g:Int):Int:=if g<0 then 0 else((s.Κ[g.toNat]?).map (·.ZG)).getD 0
theorem Kw (s:ο) (g:Int) (c:g<s.Κ.length):Ν prog 125 [Zd s,R g] (R (s.of g)):=by
 refine Δ.body Τ func125 rfl rfl ntmps125 rfl rfl J ?_;refine Φ ?_;refine W.YW rfl (λa=>?_) (λa=>?_)
 .have a:g<0:=by simpa using a
  refine Φ ?_;refine W.rt ?_;exact .of (by rw[show s.of g=0 by simp[ο.of,a]];rfl)
 .have a:¬g<0:=by simpa using a
  obtain⟨n,rfl⟩:∃n:Nat,g=n:=⟨g.toNat,U⟩;have b:n<s.Κ.length:=U;refine μ b ?_;refine W.rt ?_;exact .of (by rw[show s.of n=s.Κ[n].ZG by simp[ο.of,b];intro h;omega];rfl)
def ο.Yd (s:ο) (p r:Int×Int) (b:Nat):Int:=
 let l:=(s.Β[b]?).getD []
 let a:=if l.contains p.1 then Vg 0 (s.of r.1) else 0
 if l.contains p.2 then Vg a (s.of r.2) else a
theorem MG (s:ο) (j:s.small) (p r:Int×Int) (n:Nat) (f:n<s.Β.length) (k:r.1<s.Κ.length) (l:r.2<s.Κ.length) :
  Ν prog 77 [Zd s,Zo p,Zo r,R n] (R (s.Yd p r n)):=by
 refine Δ.body Τ func77 rfl rfl ntmps77 rfl rfl J ?_;have h:s.Β[n].length<2 ^ 62:=by have:=j.2.2.2.1 _ (YB f);omega
 refine Φ ?_;refine W.iter (λq:Nat×Int=>q.1<=2/\(q.1=0->q.2=0)/\(q.1=1->q.2=if s.Β[n].contains p.1 then Vg 0 (s.of r.1) else 0)/\(q.1=2->q.2=s.Yd p r n))
  (λq=>[(3,R n),(4,ZW s),(5,.Ε [R p.1,R p.2]),(6,.Ε [R r.1,R r.2]),(9,R q.2),(12,Zo p),(13,R q.1)]) (λ_=>[]) (λq=>2-q.1) (0,0) ⟨U,J,J,J⟩ rfl J (λq hi a=>?_)
 rcases q with⟨i,x⟩
 match i,hi,a with
 | 0,hi,a=>
  have c:x=0:=hi.2.1 rfl;subst c;refine Φ ?_;refine υ rfl ?_;refine Φ ?_;refine XM f λg e=>?_;refine Ν.d (F0 s.Β[n] p.1 h) (Z1 ?_);apply e;by_cases b:p.1∈s.Β[n]
  .refine υ (by simp[b]) ?_;refine Φ ?_;refine W.draw (A:=[]) Τ mixed λg e=>VK ?_;refine Yl (Ν.q (Kw s r.1 k)) (VK ?_);refine XL (e _ _ ?_);refine Φ ?_;refine W.forget _ ?_ (a (1,Vg 0 (s.of r.1)) ⟨J,J,by simp[b],J⟩ J);simp[N5]
  .refine χ (by simp[b]) ?_;refine Φ ?_;refine W.forget _ ?_ (a (1,0) ⟨J,J,by simp[b],J⟩ J);simp[N5]
 | 1,hi,a=>
  have c:=hi.2.2.1 rfl;simp at c;refine Φ ?_;refine υ rfl ?_;refine Φ ?_;refine XM f λg e=>?_;refine Ν.d (F0 s.Β[n] p.2 h) (Z1 ?_);apply e;by_cases b:p.2∈s.Β[n]
  .refine υ (by simp[b]) ?_;refine Φ ?_;refine W.draw (A:=[]) Τ mixed λg e=>VK ?_;refine Yl (Ν.q (Kw s r.2 l)) (VK ?_);refine XL (e _ _ ?_);refine Φ ?_;refine W.forget _ ?_ (a (2,Vg x (s.of r.2)) ⟨J,J,J,λ_=>by simp only[ο.Yd,ε f];simp[b,c]⟩ J);simp[MH]
  .refine χ (by simp[b]) ?_;refine Φ ?_;refine W.forget _ ?_ (a (2,x) ⟨J,J,J,λ_=>by simp only[ο.Yd,ε f];simp[b,c]⟩ J);simp[MH]
 | 2,hi,a=>
  have c:=hi.2.2.2 rfl;refine Φ ?_;refine χ rfl ?_;refine W.exit rfl ?_;refine Φ ?_;refine W.rt ?_;exact .of (by rw[<-show x=s.Yd p r n from c];rfl)
 | i+3,hi,a=>exact absurd hi.1 J
def ο.SJ (s:ο) (p r:Int×Int) (x:Y9):Bool:=O3 x.seen (s.Yd p r x.Zb.toNat)==0&&V0 (s.Yd p r x.Zb.toNat) x.bare==0
def ο.P7 (s:ο) (p r:Int×Int) (c:Nat):Bool:=((s.cells[c]?).getD []).all (s.SJ p r)
theorem Ao (s:ο) (o:s.small) (p r:Int×Int) (c:Nat) (k:c<s.cells.length) (hv:∀x∈s.cells[c],0<=x.Zb/\x.Zb<s.Β.length) (v:r.1<s.Κ.length) (w:r.2<s.Κ.length) :
  Ν prog 172 [Zd s,Zo p,Zo r,R c] (ZQ (s.P7 p r c)):=by
 refine Δ.body Τ func172 rfl rfl ntmps172 rfl rfl J ?_;have y:s.cells[c].length<2 ^ 62:=by have:=o.2.2.2.2 _ (YB k);omega
 have B:s.P7 p r c=s.cells[c].all (s.SJ p r):=by simp[ο.P7,k]
 rw[B];refine μ k ?_;refine W.iter (λi:Nat=>i<=s.cells[c].length/\∀j,j<i->(h:j<s.cells[c].length)->s.SJ p r s.cells[c][j]=true)
  (λi=>[(4,ZW s),(5,.Ε [R p.1,R p.2]),(6,.Ε [R r.1,R r.2]),(17,Vy s.cells[c]),(18,R s.cells[c].length),(19,R i)]) (λ_=>[]) (λi=>s.cells[c].length-i) 0 ⟨U,λj l=>U⟩ rfl J (λi hi C=>?_)
 refine Φ ?_;refine W.YW rfl (λa=>?_) (λa=>?_)
 .have a:i<s.cells[c].length:=by simpa using a
  have t:=hv _ (YB a);obtain⟨n,u⟩:∃n:Nat,s.cells[c][i].Zb=n:=⟨s.cells[c][i].Zb.toNat,U⟩;have D:n<s.Β.length:=U;have ZX:s.SJ p r s.cells[c][i]=(O3 s.cells[c][i].seen (s.Yd p r n)==0&&V0 (s.Yd p r n) s.cells[c][i].bare==0):=by simp[ο.SJ,u]
  repeat apply Ζ
  refine YR (A:=[10]) Τ λm b=>Xx a ?_;apply b
  repeat apply Ζ
  refine XM u λm b=>?_;refine Ν.d (MG s o p r n D v w) (Z1 ?_);apply b
  repeat apply Ζ
  by_cases f:O3 s.cells[c][i].seen (s.Yd p r n)=0
  .refine XM @f λm b=>?_;refine Ν.d (F2 s.cells[c][i].seen (s.Yd p r n)) (Xx @f ?_);refine Ν.d (F3 (s.Yd p r n) s.cells[c][i].bare) (Z1 ?_);apply b;by_cases g:V0 (s.Yd p r n) s.cells[c][i].bare=0
   .refine χ (by simp[g]) ?_;refine Φ ?_;refine W.drop (h:=0) (ω _) (ω _) J rfl _ ?_ (C (i+1) ⟨U,λj l h=>?_⟩ U)
    .simp[YF a y]
    .by_cases e:j=i
     .subst e;rw[ZX];simp[f,g]
     .exact hi.2 j U h
   .refine υ (by simp[g]) ?_;refine Φ ?_;refine W.drop (h:=0) (ω _) (ω _) J rfl [(8,ZQ false)] J ?_;refine W.rt ?_;exact .of (by rw[show s.cells[c].all (s.SJ p r)=false from List.all_eq_false.2 ⟨_,YB a,by rw[ZX];simp[g]⟩];rfl)
  .refine XM @f λm b=>?_;refine Ν.d (F2 s.cells[c][i].seen (s.Yd p r n)) (Xx @f ?_);apply b;refine υ J ?_;refine Φ ?_;refine W.drop (h:=0) (ω _) (ω _) J rfl [(8,ZQ false)] J ?_;refine W.rt ?_;exact .of (by rw[show s.cells[c].all (s.SJ p r)=false from List.all_eq_false.2 ⟨_,YB a,by rw[ZX];simp[f]⟩];rfl)
 .have a:s.cells[c].length<=i:=by simpa using a
  refine W.exit rfl ?_;refine Φ ?_;refine W.ret ⟨_,rfl,?_,rfl⟩;refine .of ?_;rw[show s.cells[c].all (s.SJ p r)=true from WN.2 λx t=>by
   obtain⟨j,l,rfl⟩:=T0 t;exact hi.2 j U l]
  rfl
def Ul (l:List (List (Int×Int))) (a:Int) (i:Nat):Nat:=((List.range i).map λj:Nat=>if(j:Int)=a then 1 else((l[j]?).getD []).length).prod
theorem FZ (l:List (List (Int×Int))) (a:Int) (i:Nat):Ul l a (i+1)=Ul l a i*(if(i:Int)=a then 1 else((l[i]?).getD []).length):=by
 unfold Ul;rw[Uy,Xz,List.prod_append];simp
def Found.many (f:Found) (a:Int):Nat:=Ul f.cells a f.cells.length
theorem Xw {n:Nat} (h:n<2 ^ 62):IntKind.i64.wrap (n:Int)=n:=IntWalk.i64_in _ U
theorem Kr (f:Found) (b:Int) (d:f.cells.length<2 ^ 62) (j:∀i,i<=f.cells.length->Ul f.cells b i<2 ^ 62) :
  Ν prog 78 [Y0 f,R b] (R (f.many b)):=by
 refine Δ.body Τ func78 rfl rfl ntmps78 rfl rfl J ?_;refine Φ ?_;refine W.iter (λi:Nat=>i<=f.cells.length) (λi=>[(1,R b),(5,R (Ul f.cells b i)),(9,Um f.cells),(10,R f.cells.length),(11,R i)]) (λ_=>[]) (λi=>f.cells.length-i) 0 (ω _) rfl (by simp[Ul]) (λi hi e=>?_);refine Φ ?_;refine W.YW rfl (λa=>?_) (λa=>?_)
 .have a:i<f.cells.length:=by simpa using a
  have c:=FZ f.cells b i
  have h:=j (i+1) a;refine μ a ?_;by_cases g:(i:Int)=b
  .refine χ (by simp[g]) ?_;refine Φ ?_;refine W.forget _ ?_ (e (i+1) a U);rw[c,if_pos g];simp[YF a d]
  .refine υ (by simp[g]) ?_;have hv:Ul f.cells b i*f.cells[i].length<2 ^ 62:=by rw[c,if_neg g] at h;simpa[a] using h
   refine μ a ?_;refine W.forget _ ?_ (e (i+1) a U);rw[c,if_neg g];simp only[ε a,Option.getD_some];have:=Xw hv;simp[YF a d] at this ⊢;simp[this]
 .have a:i=f.cells.length:=by simp at a;omega
  subst a;refine W.exit rfl ?_;refine Φ ?_;refine W.rt ?_;exact .of rfl
def SI (a b:Int):Int:=if a<b then -1 else if b<a then 1 else 0
theorem An (a b:Int):Ν prog 151 [R a,R b] (R (SI a b)):=by
 refine Δ.body Τ func151 rfl rfl ntmps151 rfl rfl J ?_;refine Φ ?_;refine ZB λg f=>?_;refine Ν.d (IG a) (Z1 ?_);apply f;refine ZB λg f=>?_;refine Ν.d (IG b) (Z1 ?_);apply f;refine Φ ?_;refine χ rfl ?_;refine Φ ?_;refine χ rfl ?_;refine Φ ?_;refine W.YW rfl (λc=>?_) (λc=>?_)
 .have c:a<b:=by simpa using c
  refine Φ ?_;refine W.rt ?_;exact .of (by rw[show SI a b=-1 by simp[SI,c]];rfl)
 .have c:¬a<b:=by simpa using c
  refine Φ ?_;refine W.YW rfl (λe=>?_) (λe=>?_)
  .have e:b<a:=by simpa using e
   refine Φ ?_;refine W.rt ?_;exact .of (by rw[show SI a b=1 by simp[SI,c,e]];rfl)
  .have e:¬b<a:=by simpa using e
   refine Φ ?_;refine W.rt ?_;exact .of (by rw[show SI a b=0 by simp[SI,c,e]];rfl)
theorem Am (a b:Int):Ν prog 203 [R a,R b] (ZQ (decide (a<b))):=by
 refine Δ.body Τ func203 rfl rfl ntmps203 rfl rfl J ?_;refine Φ ?_;refine ZB λe c=>?_;refine Ν.d (IG a) (Z1 ?_);apply c;refine Φ ?_;refine W.rt ?_;exact .of (by rw[show decide (a<b)=decide (a<b) from rfl];rfl)
def SH:List Int->List Int->Int
 | [],[]=>0
 | [],_::_=>-1
 | _::_,[]=>1
 | a::l,b::m=>if SI a b≠0 then SI a b else SH l m
theorem FY (a b:List Int) (k:a.length<2 ^ 62):Ν prog 118 [κ R 1 a,κ R 1 b] (R (SH a b)):=by
 refine Δ.body Τ func118 rfl rfl ntmps118 rfl rfl J ?_;refine Φ ?_;refine W.iter (λi:Nat=>i<=a.length/\i<=b.length/\SH a b=SH (a.drop i) (b.drop i)) (λi=>[(0,κ R 1 a),(1,κ R 1 b),(9,κ R 1 a),(10,R a.length),(11,R i)]) (λ_=>[]) (λi=>a.length-i) 0 ⟨U,U,J⟩ rfl J (λi hi l=>?_);obtain⟨n,o,j⟩:=hi;refine Φ ?_;refine W.YW rfl (λc=>?_) (λc=>?_)
 .have c:i<a.length:=by simpa using c
  have h:a.drop i=a[i]::a.drop (i+1):=PF c;refine μ c ?_;refine W.YW rfl (λe=>?_) (λe=>?_)
  .have e:b.length<=i:=by simp at e;omega
   refine Φ ?_;have f:b.drop i=[]:=Nt e;refine W.rt ?_;exact .of (by rw[show SH a b=1 by rw[j,h,f];rfl];rfl)
  .have e:i<b.length:=by simp at e;omega
   have f:b.drop i=b[i]::b.drop (i+1):=PF e
   repeat apply Ζ
   refine IQ e ?_;refine ZB λp m=>?_;refine Ν.d (An a[i] b[i]) (Z1 ?_);apply m;refine Φ ?_;by_cases g:SI a[i] b[i]=0
   .refine χ (by simp[g]) ?_;refine Φ ?_;refine W.forget _ ?_ (l (i+1) ⟨c,e,?_⟩ U)
    .simp[YF c k]
    .rw[j,h,f,SH,if_neg (by simpa using g)]
   .refine υ (by simp[g]) ?_;refine Φ ?_;refine W.rt ?_;exact .of (by rw[show SH a b=SI a[i] b[i] by rw[j,h,f,SH,if_pos g]];rfl)
 .have c:i=a.length:=by simp at c;omega
  have h:a.drop i=[]:=Nt U;refine W.exit rfl ?_;refine Φ ?_;by_cases g:a.length<b.length
  .refine υ (by simp[g]) ?_;refine Φ ?_;have f:b.drop i=b[i]::b.drop (i+1):=PF U;refine W.rt ?_;exact .of (by rw[show SH a b=-1 by rw[j,h,f];rfl];rfl)
  .refine χ (by simp[g]) ?_;refine Φ ?_;have f:b.drop i=[]:=Nt U;refine W.rt ?_;exact .of (by rw[show SH a b=0 by rw[j,h,f];rfl];rfl)
def Sd (x y:Int×Int):Int:=SH [x.1,x.2] [y.1,y.2]
theorem Al (x y:Int×Int):Ν prog 174 [Zo x,Zo y] (R (Sd x y)):=by
 refine Δ.body Τ func174 rfl rfl ntmps174 rfl rfl J ?_;refine Φ ?_;refine W.draw (A:=[]) Τ mixed λb a=>VK ?_;refine Yl (Ν.p (FY [x.1,x.2] [y.1,y.2] J) (.cons .ex (.cons .ex .nil)) J J) ?_;simp;(repeat (rw[Zf];simp));try rw[Zg]
 refine XL (a _ _ ?_);refine Φ ?_;refine W.rt ?_;exact .of rfl
theorem Ak (x y:Found):Ν prog 148 [Y0 x,Y0 y] (R (Sd (x.u,x.v) (y.u,y.v))):=by
 refine Δ.body Τ func148 rfl rfl ntmps148 rfl rfl J ?_;refine Φ ?_;refine W.draw (A:=[]) Τ mixed λb a=>VK ?_;refine Yl (Ν.p (FY [x.u,x.v] [y.u,y.v] J) (.cons .ex (.cons .ex .nil)) J J) ?_;simp;(repeat (rw[Zf];simp));try rw[Zg]
 refine XL (a _ _ ?_);refine Φ ?_;refine W.rt ?_;exact .of rfl
def Vf (l:List Found):Nat:=(l.map (·.many (-1))).sum
theorem Aj (l:List Found) (g:l.length<2 ^ 62) (j:∀f∈l,f.cells.length<2 ^ 62/\∀i,i<=f.cells.length->Ul f.cells (-1) i<2 ^ 62) (r:Vf l<2 ^ 62) :
  Ν prog 79 [Y8 l] (R (Vf l)):=by
 refine Δ.body Τ func79 rfl rfl ntmps79 rfl rfl J ?_;refine Φ ?_;refine W.iter (λi:Nat=>i<=l.length) (λi=>[(3,R (Vf (l.take i))),(6,Y8 l),(7,R l.length),(8,R i)]) (λ_=>[]) (λi=>l.length-i) 0 (ω _) rfl (by simp[Vf]) (λi hi k=>?_);refine Φ ?_;refine W.YW rfl (λa=>?_) (λa=>?_)
 .have a:i<l.length:=by simpa using a
  obtain⟨m,n⟩:=j _ (YB a);have c:Vf (l.take (i+1))=Vf (l.take i)+l[i].many (-1):=by
   unfold Vf;rw[UZ a,Xz,List.sum_append];simp only[Xt,TX,List.sum_cons,List.sum_nil,Nat.add_zero]
  have o:Vf (l.take i)+l[i].many (-1)<2 ^ 62:=by
   rw[<-c];have e:Vf l=Vf (l.take (i+1))+Vf (l.drop (i+1)):=by
    conv=>lhs;rw[<-OH (i+1) l]
    simp only[Vf,Xz,List.sum_append]
   omega
  repeat apply Ζ
  refine YR (A:=[5]) Τ λp b=>Xx a ?_;apply b;refine ZB λp b=>?_;refine Ν.d (Kr l[i] (-1) m n) (Z1 ?_);apply b;refine Φ ?_;refine W.drop (h:=0) (ω _) (ω _) J rfl _ ?_ (k (i+1) a U);rw[c];have:=Xw o;simp[YF a g] at this ⊢;exact this
 .have a:i=l.length:=by simp at a;omega
  subst a;refine W.exit rfl ?_;refine Φ ?_;refine W.rt ?_;exact .of (by rw[show Vf l=Vf (l.take l.length) by simp];rfl)
theorem Γ.Wp {a:I} (h:Γ 0 a) (ρ:List Nat):Wp ρ a=a:=by
 cases h with
 | Ο h=>omega
 | ms h=>omega
 | mp h=>omega
 | it h=>omega
 | _=>rfl
theorem Kq {l:ψ} (h:∀a∈l,Γ 0 a) (ρ:List Nat):l.map (Wp ρ)=l:=by
 induction l with
 | nil=>rfl
 | cons a l b=>rw[Xt,(h a J).Wp,b λx c=>h x (by simp[c])]
theorem Γ.Yt {a:I} (h:Γ 0 a) (ρ:List Nat):Yt ρ a=a:=by
 have b:=h;cases h with
 | Z9 h=>simp only[Go.TL.Yt];rw[Kq h]
 | ZP h=>simp only[Go.TL.Yt];rw[Kq h]
 | fn c d=>simp only[Go.TL.Yt];rw[Kq c,Kq d]
 | _=>exact b.Wp ρ
theorem Γ.top {a:I} (h:Γ 0 a) (n:Nat):Rx n a:=by
 have b:=h;cases h with
 | Ο h=>omega
 | ms h=>omega
 | mp h=>omega
 | it h=>omega
 | _=>exact b
theorem Γ.V9 {a:I} (h:Γ 0 a) (n:Nat):Xi n a:=by
 have c:=h;cases h with
 | Z9 h=>exact λa b=>(h a b).top n
 | ZP h=>exact λa b=>(h a b).top n
 | fn d e=>exact⟨λa b=>(d a b).top n,λa b=>(e a b).top n⟩
 | _=>exact c.top n
theorem Tm {h id n i len:Nat}:Xi h (.ms id n i len)↔id<h:=Iff.rfl
theorem O2 {h:Nat} {v:Value}:Xi h (.z v)↔True:=⟨λ_=>trivial,λ_=>(Γ.z v).V9 h⟩
theorem Tl {ρ:List Nat} {id n i len:Nat}:Yt ρ (.ms id n i len)=.ms (ρ.getD id 0) n i len:=rfl
theorem Tk {ρ:List Nat} {v:Value}:Yt ρ (.z v)=.z v:=rfl
section
variable {P:Program} {σ:Υ}
theorem Δ.one {g:FuncId} {as0:ψ} {c row':Row} {r:I} {K E:I->Υ->Prop} (h:Δ P g as0 [c] (λa s=>a=r/\s=[row']) (λ_ _=>False)) (id:Nat) (f:σ[id]?=some c) (k:VL c) (l:VL row') (m:∀a∈as0,Xi 1 a) (b:Xi 1 r)
  {args:ψ} (n:args=as0.map (Yt [id])) (o:K (Yt [id] r) (σ.set id row')):WZ P (.fn (.func g) [] []) args σ K E:=by
 subst n;have p:=Δ.rows (σ:=σ) h [id] J rfl (λj i d=>by
  cases j with
  | zero=>simp at d;subst d;exact f
  | succ j=>simp at d) (λr b=>by simp at b;subst b;exact k) (by simpa using m) (K':=K) (E':=E) (λa s ⟨t,u⟩=>by
   subst t;subst u;refine⟨λx e=>by simp at e;subst e;exact l,b,?_⟩;simpa[names,QF,Wa] using o) (λa s h=>h.elim)
 exact Δ.call (first:=[]) (captured:=[]) (by simpa using p)
end
section
variable {P:Program} {σ:Υ}
theorem Δ.IF {g:FuncId} {as0:ψ} {c:Row} {K0 K E:I->Υ->Prop} (h:Δ P g as0 [c] K0 (λ_ _=>False)) (id:Nat) (f:σ[id]?=some c) (k:VL c) (l:∀a∈as0,Xi 1 a)
  {args:ψ} (m:args=as0.map (Yt [id])) (n:∀a s,K0 a s->∃row',s=[row']/\VL row'/\Xi 1 a/\K (Yt [id] a) (σ.set id row')):WZ P (.fn (.func g) [] []) args σ K E:=by
 subst m;have o:=Δ.rows (σ:=σ) h [id] J rfl (λj i d=>by
  cases j with
  | zero=>simp at d;subst d;exact f
  | succ j=>simp at d) (λr b=>by simp at b;subst b;exact k) (by simpa using l) (K':=K) (E':=E) (λa s p=>by
   obtain⟨row',rfl,t,b,u⟩:=n a s p;refine⟨λx e=>by simp at e;subst e;exact t,b,?_⟩;simpa[names,QF,Wa] using u) (λa s h=>h.elim)
 exact Δ.call (first:=[]) (captured:=[]) (by simpa using o)
end
theorem O1 {b:Type} {f:b->I} {t k:Nat} {l:List b} (h:∀x,∀a∈(f x).cells,Γ 0 a):VL (.cells t k (l.map f)):=λe c a d=>by
 obtain⟨x,_,rfl⟩:=YK.1 c;exact h x a d
theorem Yu.part {id k m:Nat} {σ:Υ} {t:TypeId} {l l2:ψ} (h:σ[id]?=some (.cells t k (l++l2))) (i:l.length=m) (n:∀e∈l,∀a∈e.cells,Γ 0 a):Yu 0 σ (.ms id (l++l2).length 0 m) (.sl false k l):=by
 subst i;refine .ms (ω _) h rfl J rfl (λj e o c b=>?_) (λj e o c b x a p f g=>?_)
 .have d:=(ZD.1 b).1;rw[VD,YU d] at c;rw[c] at b;cases b;rfl
 .have d:=(ZD.1 b).1;rw[VD,YU d] at c;rw[c] at b;cases b;rw[f] at g;cases g;exact .low (n e (Zk c) a (Zk f))
theorem N3 {a:Type} [Inhabited a] {d:Array a} {i:Nat} (h:i<d.size):d[i]?=some d[i]!:=by simp[h]
def YD {a:Type} (b:a->a->Int) (x y:a):Bool:=decide (b x y<0)
end Go.TL
