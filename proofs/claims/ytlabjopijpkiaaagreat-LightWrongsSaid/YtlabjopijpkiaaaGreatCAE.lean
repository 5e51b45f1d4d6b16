import Derived.KernelRfl
import Derived.Sort.AssemblyPlain
import Derived.Test.YtlabjopijpkiaaaGreatProg
import Derived.Test.YtlabjopijpkiaaaGreatCAD
set_option maxHeartbeats 16000000
set_option maxRecDepth 20000
set_option linter.unusedSectionVars false
set_option linter.unusedSimpArgs false
set_option linter.unusedVariables false
namespace Go.TL
open Go.Proofs.Tryz
open Go.Conc
variable [ZN]
def LV (ops:Array Oper) (o:Oper):List Tmp:=
 (o.op.operands.toList.filterMap fun|.tmp t=>some t|_=>none)++(match o.guard with|some (g,_)=>((ops[g]?).bind (·.dst)).toList|none=>[])
def W1 (o:Oper):List Nat:=(o.after.toList.filter (Region.binds .any)).map (·.on)
def LU:List Oper->List (List Nat)->List (List Nat)
 | [],a=>a
 | o::b,a=>LU b (a++[W1 o++(W1 o).flatMap λj=>a.getD j []])
def JI (ops:Array Oper):List (List Nat):=LU ops.toList []
def V5 (o:Oper):Bool:=match o.op with
 | .load _ _=>true
 | .indexAddr _ _ _=>true
 | .fieldAddr _ _ _=>true
 | .nilCheck _=>true
 | _=>false
def Uk (π:Nat->Nat->Bool) (ops:Array Oper) (tags:List Bool) (i j:Nat) (a b:Oper):Bool:=
 (match b.dst with|some d=>(LV ops a).contains d||a.dst==some d|none=>false)||(match a.dst with|some d=>(LV ops b).contains d|none=>false)||(tags.getD i false&&tags.getD j false&&!(V5 a&&V5 b)&&!π i j)
def Qa (π:Nat->Nat->Bool) (ops:Array Oper) (tags:List Bool):Bool:=
 let b:=JI ops
 (List.range ops.size).all λi=>match ops[i]? with
  | none=>false
  | some a=>(W1 a).all (λj=>decide (j<i))&&(List.range i).all λj=>match ops[j]? with
   | none=>false
   | some c=>!Uk π ops tags i j a c||(b.getD i []).contains j
def P' (_ _:Nat):Bool:=false
def clash (ops:Array Oper) (tags:List Bool) (i j:Nat) (a b:Oper):Bool:=Uk P' ops tags i j a b
def TX (ops:Array Oper) (tags:List Bool):Bool:=Qa P' ops tags
def TW (lo pu:List Nat) (i j:Nat):Bool:=lo.contains i&&pu.contains j||pu.contains i&&lo.contains j
section
variable {P:Program} {T:ZR} {A:List Nat} {m nt:Nat} {k:List Item} {env:Δ} {σ:Ρ} {Z:XZ} {E:Yf} {ops:Array Oper}
theorem W.congr {env':Δ} (h:∀i,Z7 env' i=Z7 env i) (c:W P m nt k env σ Z E):W P m nt k env' σ Z E:=
 λd mn x cs b S B H t e f a g j=>c d mn x cs b S B H t e f ⟨a.holds,λi=>by rw[<-h i];exact a.Zn i,a.size,a.rows⟩ g j
theorem EI (c:Region.Mode):∀(a t:Nat) (listed:Array Bool) (i:Nat),Region.linearise.go c ops a t listed [i]=i::Region.linearise.go c ops a t listed []:=by
 have gen:∀(a t:Nat) (listed:Array Bool) (b:List Nat),Region.linearise.go c ops a t listed b=b.reverse++Region.linearise.go c ops a t listed []:=by
  intro a
  induction a with
  | zero=>intro t listed b;simp[Region.linearise.go]
  | succ a d=>
   intro t listed b;simp only[Region.linearise.go];split
   .rename_i i _;rw[d _ _ (i::b),d _ _ [i]];simp
   .simp
 intro a t listed i;rw[gen];rfl
theorem JH (n:∀i o,ops[i]?=some o->∀j∈W1 o,j<i) (D:Nat->Prop) (p:∀i o,ops[i]?=some o->D i->∀j∈W1 o,D j) :
  ∀(i:Nat) (o:Oper),ops[i]?=some o->(∀j∈W1 o,D j)->∀j∈(JI ops).getD i [],D j:=by
 have r:∀(d:List Oper) (a:List (List Nat)),(∀x,d[x]?=ops[a.length+x]?)->(∀i o,i<a.length->ops[i]?=some o->(∀j∈W1 o,D j)->∀j∈a.getD i [],D j)->
   ∀i o,i<a.length+d.length->ops[i]?=some o->(∀j∈W1 o,D j)->∀j∈(LU d a).getD i [],D j:=by
  intro d
  induction d with
  | nil=>intro a _ h i o hi;exact h i o (by simpa using hi)
  | cons q d s=>
   intro a g h i o hi b c;have e:ops[a.length]?=some q:=by have:=g 0;simpa using this.symm
   refine s (a++[W1 q++(W1 q).flatMap λj=>a.getD j []]) (λx=>?_) (λi o hi b c=>?_) i o (by simp at hi ⊢;omega) b c
   .have:=g (x+1);simp only[List.getElem?_cons_succ] at this;rw[this];simp;congr 1;omega
   .by_cases k:i<a.length
    .rw[XJ,Y0 k,<-XJ];exact h i o k b c
    .have t:i=a.length:=by simp at hi;omega
     subst t;rw[e] at b;cases b;rw[XJ,Xw (Z1 _)];simp only[Py,List.getElem?_cons_zero,Option.getD_some,WK,NO];rintro j (f|⟨y,l,f⟩)
     .exact c j f
     .have u:=n _ _ e y l
      have v:y<ops.size:=by have:=(T'.1 e).1;omega
      have m:ops[y]?=some ops[y]:=XI v;exact h y _ u m (p y _ m (c y l)) j f
 intro i o b c;exact r ops.toList [] (λx=>J) (λi o hi=>by simp at hi) i o (by have:=(T'.1 b).1;simpa using this) b c
def SI (ops:Array Oper) (o:Oper) (env env':Δ):Prop:=∀t∈LV ops o,Z7 env' t=Z7 env t
def Pn (P:Program) (m nt:Nat) (k:List Item) (Z:XZ) (E:Yf) (ops:Array Oper) (i:Nat) (o:Oper) (env:Δ) (a:I):Prop:=
 ∀env' σ' rest,SI ops o env env'->W P m nt (.inRegion ops rest::k) (Zt o env' a) σ' Z E->W P m nt (.inRegion ops (i::rest)::k) env' σ' Z E
def Pm (P:Program) (m nt:Nat) (k:List Item) (Z:XZ) (E:Yf) (ops:Array Oper) (i:Nat) (o:Oper) (env:Δ) (σ:Ρ) (a:I) (b:Ρ):Prop:=
 ∀env' rest,SI ops o env env'->W P m nt (.inRegion ops rest::k) (Zt o env' a) b Z E->W P m nt (.inRegion ops (i::rest)::k) env' σ Z E
def Za (ops:Array Oper) (env0:Δ) (as9:Nat->I) (a:Nat->Bool):Nat->Δ
 | 0=>env0
 | n+1=>if a n then(match ops[n]? with|some o=>Zt o (Za ops env0 as9 a n) (as9 n)|none=>Za ops env0 as9 a n) else Za ops env0 as9 a n
theorem Ol {o:Oper} {env:Δ} {a:I} {t:Nat}:Z7 (Zt o env a) t=if o.dst=some t then a else Z7 env t:=by
 unfold Zt;cases hd:o.dst with
 | none=>simp
 | some d=>simp[Z7]
theorem Nn {env0:Δ} {as9:Nat->I} {b a:Nat->Bool} {t:Nat}:∀(n:Nat),(∀i o,i<n->ops[i]?=some o->o.dst=some t->b i=a i)->Z7 (Za ops env0 as9 b n) t=Z7 (Za ops env0 as9 a n) t:=by
 intro n
 induction n with
 | zero=>intro _;rfl
 | succ n d=>
  intro h;have c:=d λi o hi=>h i o U;simp only[Za];cases e:ops[n]? with
  | none=>cases b n<;>cases a n<;>simpa using c
  | some o=>
   by_cases hd:o.dst=some t
   .rw[h n o (Qu n) e hd];cases a n
    .simpa using c
    .simp[Ol,hd]
   .cases b n<;>cases a n<;>simp[Ol,hd,c]
theorem JG {env0:Δ} {as9:Nat->I} {a:Nat->Bool} {t:Nat} {n N:Nat} (j:n<=N) (h:∀i o,n<=i->i<N->ops[i]?=some o->o.dst=some t->a i=false):Z7 (Za ops env0 as9 a N) t=Z7 (Za ops env0 as9 a n) t:=by
 induction N with
 | zero=>have:n=0:=U
         subst this;rfl
 | succ N d=>
  by_cases e:n=N+1
  .subst e;rfl
  .have b:=d U λi o f k=>h i o f U;simp only[Za];cases c:a N
   .simpa using b
   .cases g:ops[N]? with
    | none=>simpa using b
    | some o=>
     have hd:o.dst≠some t:=λhd=>by rw[h N o U (Qu N) g hd] at c;cases c
     simp[Ol,hd,b]
def writer (ops:Array Oper) (tags:List Bool) (i:Nat):Bool:=tags.getD i false&&match ops[i]? with|some o=>!V5 o|none=>true
theorem W.EH {lo pu:List Nat} {V:Type} {v:Ρ->V} {as9:Nat->I} {σs:Nat->Ρ} {tags:List Bool} {env0:Δ} (ai:Qa (TW lo pu) ops tags=true)
  (ay:∀i o,ops[i]?=some o->tags.getD i false=false->Pn P m nt k Z E ops i o (Za ops env0 as9 (λ_=>true) i) (as9 i)/\σs (i+1)=σs i)
  (aj:∀i o,ops[i]?=some o->tags.getD i false=true->Pm P m nt k Z E ops i o (Za ops env0 as9 (λ_=>true) i) (σs i) (as9 i) (σs (i+1))/\(V5 o=true->σs (i+1)=σs i))
  (ak:∀i o,ops[i]?=some o->lo.contains i=true->tags.getD i false=true->V5 o=true/\∀τ,v τ=v (σs i)->Pm P m nt k Z E ops i o (Za ops env0 as9 (λ_=>true) i) τ (as9 i) τ)
  (aM:∀i o,ops[i]?=some o->pu.contains i=true->v (σs (i+1))=v (σs i))
  (aN:W P m nt (.inRegion ops []::k) (Za ops env0 as9 (λ_=>true) ops.size) (σs ops.size) Z E) :
  ∀(Q:Nat) (t:Nat) (listed:Array Bool) (env:Δ) (p:Nat),listed.size=ops.size->
   (∀i,Z7 env i=Z7 (Za ops env0 as9 (λi=>listed.getD i false) ops.size) i)->
   (∀i o,ops[i]?=some o->listed.getD i false=true->∀j∈W1 o,listed.getD j false=true)->
   p<=ops.size->(∀j,j<ops.size->writer ops tags j=true->(listed.getD j false=true↔j<p))->
   ((List.range ops.size).filter λi=>!listed.getD i false).length<=Q->
   W P m nt (.inRegion ops (Region.linearise.go .any ops Q t listed [])::k) env (σs p) Z E:=by
 have al:∀i o,ops[i]?=some o->(∀j∈W1 o,j<i)/\∀j n,j<i->ops[j]?=some n->Uk (TW lo pu) ops tags i j o n=true->j∈(JI ops).getD i []:=by
  intro i o l;have hi:i<ops.size:=(T'.1 l).1;unfold Qa at ai;simp only[Wv,Wb] at ai;have h:=ai i hi;rw[l] at h;simp only[VT,Wv,decide_eq_true_eq,Wb] at h;refine⟨h.1,λj n c w X=>?_⟩;have s:=h.2 j c;rw[w] at s;simp only[X,Bool.not_true,Bool.false_or,K4] at s;exact s
 have am:∀i o,ops[i]?=some o->∀j∈W1 o,j<i:=λi o l=>(al i o l).1
 have an:∀i o,ops[i]?=some o->writer ops tags i=false->σs (i+1)=σs i:=λi o l H=>by
  cases f:tags.getD i false with
  | false=>exact(ay i o l f).2
  | true=>
   refine(aj i o l f).2 ?_;unfold writer at H;rw[f,l] at H;simpa using H
 have az:∀(d a:Nat),a+d<=ops.size->(∀j,a<=j->j<a+d->writer ops tags j=false)->σs (a+d)=σs a:=by
  intro d
  induction d with
  | zero=>intro a _ _;rfl
  | succ d D=>
   intro a hle h;have g:ops[a+d]?=some ops[a+d]:=XI U;have:=an (a+d) _ g (h (a+d) U U);rw[show a+(d+1)=a+d+1 by omega,this];exact D a U λj g s=>h j g U
 have ao:∀a b,a<=ops.size->b<=ops.size->(∀j,j<ops.size->writer ops tags j=true->(j<a↔j<b))->σs a=σs b:=λa b aA Y h=>by
  rcases Nat.le_total a b with hle|hle
  .have:=az (b-a) a U λj g s=>by
    cases f:writer ops tags j with
    | false=>rfl
    | true=>have:=(h j U f).2 U;omega
   rw[show a+(b-a)=b by omega] at this;exact this.symm
  .have:=az (a-b) b U λj g s=>by
    cases f:writer ops tags j with
    | false=>rfl
    | true=>have:=(h j U f).1 U;omega
   rw[show b+(a-b)=a by omega] at this;exact this
 have aO:∀a b,a<=ops.size->b<=ops.size->(∀j,j<ops.size->writer ops tags j=true->pu.contains j=false->(j<a↔j<b))->v (σs a)=v (σs b):=λa b aA Y h=>by
  have aP:∀(d a:Nat),a+d<=ops.size->(∀j,a<=j->j<a+d->writer ops tags j=true->pu.contains j=true)->v (σs (a+d))=v (σs a):=by
   intro d
   induction d with
   | zero=>intro a _ _;rfl
   | succ d D=>
    intro a hle h;have g:ops[a+d]?=some ops[a+d]:=XI U;have e:v (σs (a+d+1))=v (σs (a+d)):=by
     cases H:writer ops tags (a+d) with
     | false=>rw[an (a+d) _ g H]
     | true=>exact aM (a+d) _ g (h (a+d) U U H)
    rw[show a+(d+1)=a+d+1 by omega,e];exact D a U λj g s=>h j g U
  have aB:∀x y,y<=ops.size->(∀j,j<ops.size->writer ops tags j=true->pu.contains j=false->(j<x↔j<y))->x<=y->v (σs y)=v (σs x):=λx y ap h hle=>by
   have:=aP (y-x) x U λj g s H=>by
    cases aq:pu.contains j with
    | true=>rfl
    | false=>have:=(h j U H aq).2 U;omega
   rwa [show x+(y-x)=y by omega] at this
  rcases Nat.le_total a b with hle|hle
  .exact(aB a b Y h hle).symm
  .exact aB b a aA (λj g s A=>(h j g s A).symm) hle
 intro Q;have done:∀(t:Nat) (listed:Array Bool) (env:Δ) (p:Nat),(∀i,i<ops.size->listed.getD i false=true)->(∀i,Z7 env i=Z7 (Za ops env0 as9 (λi=>listed.getD i false) ops.size) i)->p<=ops.size->
   (∀j,j<ops.size->writer ops tags j=true->(listed.getD j false=true↔j<p))->W P m nt (.inRegion ops []::k) env (σs p) Z E:=λt listed env p R M B K=>by
  have aQ:σs p=σs ops.size:=ao p ops.size B (Z1 _) λj c f=>by rw[<-K j c f];simp[R j c,c]
  rw[aQ];refine .congr (λi=>?_) aN;rw[M i];exact Nn ops.size λi o hi _ _=>R i hi
 have aR:∀listed:Array Bool,listed.size=ops.size->(∃i,i<ops.size/\listed.getD i false=false)->∃i,i<ops.size/\listed.getD i false=false/\∀j,j<i->listed.getD j false=true:=λlisted N ⟨i,hi,u⟩=>by
  induction i using Nat.strongRecOn with
  | _ i D=>
   by_cases c:∃j,j<i/\listed.getD j false=false
   .obtain⟨j,g,s⟩:=c;exact D j g U s
   .exact⟨i,hi,u,λj aS=>by
     cases h:listed.getD j false with
     | true=>rfl
     | false=>exact absurd ⟨j,aS,h⟩ c⟩
 induction Q with
 | zero=>
  intro t listed env p N M aa B K aT;have R:∀i,i<ops.size->listed.getD i false=true:=λi hi=>by
   cases h:listed.getD i false with
   | true=>rfl
   | false=>
    have ab:i∈(List.range ops.size).filter λi=>!listed.getD i false:=by rw[Ss];exact⟨Wb.2 hi,by rw[h];rfl⟩
    have:((List.range ops.size).filter λi=>!listed.getD i false)=[]:=YP.1 U;rw[this] at ab;simp at ab
  exact done t listed env p R M B K
 | succ Q D=>
  intro t listed env p N M aa B K aT;simp only[Region.linearise.go];generalize aU:((List.range ops.size).filter λi=>!listed.getD i true&&((ops[i]?).map (·.after.all λe=>!Region.binds .any e||listed.getD e.on false)).getD false)=O;have aC:∀i,i<ops.size->listed.getD i true=listed.getD i false:=λi hi=>by
   rw[WU,WU,XI U];rfl
  have aD:∀i,i∈O↔i<ops.size/\listed.getD i false=false/\∀o,ops[i]?=some o->∀j∈W1 o,listed.getD j false=true:=λi=>by
   rw[<-aU];simp only[Ss,Wb,VT,Bool.not_eq_true'];constructor
   .rintro⟨g,s,A⟩;rw[aC i g] at s;refine⟨g,s,λo l j c=>?_⟩;rw[l] at A;simp only[Option.map_some,Option.getD_some,KX] at A;unfold W1 at c;simp only[Zd,Ss] at c;obtain⟨e,⟨aV,aW⟩,rfl⟩:=c;have:=A e (by simpa using aV);simpa[aW] using this
   .rintro⟨g,s,A⟩;refine⟨g,by rw[aC i g];exact s,?_⟩;have l:ops[i]?=some ops[i]:=XI g;rw[l];simp only[Option.map_some,Option.getD_some,KX];intro e aX;by_cases Y:Region.binds .any e=true
    .have:=A _ l e.on (by unfold W1;simp only[Zd,Ss];exact⟨e,⟨by simpa using aX,Y⟩,rfl⟩);simp[this]
    .simp[Y]
  cases hi:O[t % O.length]? with
  | none=>
   simp only[List.reverse_nil];have aY:O=[]:=by
    cases aZ:O with
    | nil=>rfl
    | cons x xs=>
     rw[aZ] at hi;have ar:t % (x::xs).length<(x::xs).length:=Nat.mod_lt _ J;rw[ε ar] at hi;cases hi
   have R:∀i,i<ops.size->listed.getD i false=true:=λi a0=>by
    cases h:listed.getD i false with
    | true=>rfl
    | false=>
     obtain⟨r,g,s,A⟩:=aR listed N ⟨i,a0,h⟩;have:r∈O:=(aD r).2 ⟨g,s,λo l j c=>A j (am r o l j c)⟩;rw[aY] at this;simp at this
   exact done t listed env p R M B K
  | some i=>
   simp only;rw[EI];have ab:i∈O:=Zf hi;obtain⟨g,s,A⟩:=(aD i).1 ab;have l:ops[i]?=some ops[i]:=XI g;have a1:=JH am (λj=>listed.getD j false=true) (λj o c u=>aa j o c u) i _ l (A _ l);have low:∀j n,j<i->ops[j]?=some n->Uk (TW lo pu) ops tags i j ops[i] n=true->listed.getD j false=true:=λj n c w X=>a1 j ((al i _ l).2 j n c w X);have high:∀j n,i<j->ops[j]?=some n->Uk (TW lo pu) ops tags j i n ops[i]=true->listed.getD j false=false:=λj n c w X=>by
    cases u:listed.getD j false with
    | false=>rfl
    | true=>
     have:=JH am (λj=>listed.getD j false=true) (λj o c u=>aa j o c u) j n w (aa j n w u) i ((al j n w).2 i _ c l X);rw[s] at this;cases this
   have ad:SI ops ops[i] (Za ops env0 as9 (λ_=>true) i) env:=λx aE=>by
    rw[M x];have au:Z7 (Za ops env0 as9 (λi=>listed.getD i false) ops.size) x=Z7 (Za ops env0 as9 (λi=>listed.getD i false) i) x:=JG U λj n a2 a3 w hd=>by
     by_cases e:j=i
     .subst e;exact s
     .refine high j n U w ?_;unfold Uk;simp[hd,aE]
    rw[au];exact Nn i λj n c w hd=>low j n c w (by unfold Uk;simp[hd,aE])
   have ae:∀x,Z7 (Zt ops[i] env (as9 i)) x=Z7 (Za ops env0 as9 (λj=>(listed.setIfInBounds i true).getD j false) ops.size) x:=λx=>by
    have F:∀j,(listed.setIfInBounds i true).getD j false=if j=i then true else listed.getD j false:=λj=>by
     rw[WU,WU];by_cases e:j=i
     .subst e;rw[Tt U];simp
     .rw[UW (YQ e),if_neg e]
    rw[Ol];by_cases hd:ops[i].dst=some x
    .rw[if_pos hd];have au:Z7 (Za ops env0 as9 (λj=>(listed.setIfInBounds i true).getD j false) ops.size) x=Z7 (Za ops env0 as9 (λj=>(listed.setIfInBounds i true).getD j false) (i+1)) x:=JG U λj n a2 a3 w av=>by
      rw[F,if_neg U];refine high j n U w ?_;unfold Uk;simp[hd,av]
     rw[au];simp only[Za,F,if_true,l,Ol,hd]
    .rw[if_neg hd,M x];exact Nn ops.size λj n c w av=>by
      rw[F,if_neg];intro e;subst e;rw[l] at w;cases w;exact hd av
   have F:∀j,(listed.setIfInBounds i true).getD j false=if j=i then true else listed.getD j false:=λj=>by
    rw[WU,WU];by_cases e:j=i
    .subst e;rw[Tt U];simp
    .rw[UW (YQ e),if_neg e]
   have af:((List.range ops.size).filter λj=>!(listed.setIfInBounds i true).getD j false).length<=Q:=by
    have ar:((List.range ops.size).filter λj=>!(listed.setIfInBounds i true).getD j false).length<((List.range ops.size).filter λj=>!listed.getD j false).length:=by
     have:((List.range ops.size).filter λj=>!(listed.setIfInBounds i true).getD j false)=((List.range ops.size).filter λj=>!listed.getD j false).filter λj=>j != i:=by
      rw[List.filter_filter];apply List.filter_congr;intro j _;rw[F];by_cases e:j=i
      .subst e;simp
      .simp[e]
     rw[this];have a4:i∈(List.range ops.size).filter λj=>!listed.getD j false:=by
      rw[Ss];exact⟨Wb.2 g,by rw[s];rfl⟩
     exact List.length_filter_lt_length_iff_exists.2 ⟨i,a4,J⟩
    omega
   have ag:∀j o,ops[j]?=some o->(listed.setIfInBounds i true).getD j false=true->∀y∈W1 o,(listed.setIfInBounds i true).getD y false=true:=λj o c u y ap=>by
    rw[F] at u ⊢;by_cases e:y=i
    .rw[if_pos e]
    .rw[if_neg e];by_cases Φ:j=i
     .subst Φ;rw[l] at c;cases c;exact A _ l y ap
     .rw[if_neg Φ] at u;exact aa j o c u y ap
   have aF:∀j,writer ops tags j=true->tags.getD j false=true:=λj h=>by
    unfold writer at h;rw[VT] at h;exact h.1
   cases L:tags.getD i false with
   | false=>
    refine(ay i _ l L).1 env (σs p) _ ad ?_;refine D _ _ _ p (by simpa using N) ae ag B (λj c f=>?_) af;rw[F];have:j≠i:=λe=>by subst e;rw[aF j f] at L;cases L
    rw[if_neg this];exact K j c f
   | true=>
    have aG:∀j n,ops[j]?=some n->writer ops tags j=true->lo.contains i=false\/pu.contains j=false->Uk (TW lo pu) ops tags i j ops[i] n=true/\Uk (TW lo pu) ops tags j i n ops[i]=true:=λj n w f C=>by
     have g:=aF j f
     have aH:lo.contains j=false:=by
      cases u:lo.contains j with
      | false=>rfl
      | true=>
       have:=(ak j n w u g).1;unfold writer at f;rw[g,w] at f;simp[this] at f
     unfold writer at f;rw[g,w] at f;have s:V5 n=false:=by simpa using f
     have C:(lo.contains i&&pu.contains j)=false:=by
      rcases C with h|h
      .rw[h];rfl
      .rw[h,Bool.and_false]
     have f1:TW lo pu i j=false:=by unfold TW;rw[C,aH,Bool.and_false];rfl
     have f2:TW lo pu j i=false:=by unfold TW;rw[aH,Bool.and_comm (pu.contains j),C];rfl
     unfold Uk;rw[g,L,s,f1,f2];simp
    have aI:∀j,j<ops.size->writer ops tags j=true->lo.contains i=false\/pu.contains j=false->j<i->listed.getD j false=true:=λj c f C aw=>low j _ aw (XI c) (aG j _ (XI c) f C).1
    have aJ:∀j,j<ops.size->writer ops tags j=true->lo.contains i=false\/pu.contains j=false->i<j->listed.getD j false=false:=λj c f C aw=>high j _ aw (XI c) (aG j _ (XI c) f C).2
    have ax:∀j,j<ops.size->writer ops tags j=true->lo.contains i=false\/pu.contains j=false->(j<p↔j<i):=λj c f C=>by
     rw[<-K j c f];constructor
     .intro u;apply Ts;intro a5;by_cases e:j=i
      .subst e;rw[s] at u;cases u
      .rw[aJ j c f C U] at u;cases u
     .exact aI j c f C
    cases S:writer ops tags i with
    | false=>
     have aK:∀j,j<ops.size->writer ops tags j=true->((listed.setIfInBounds i true).getD j false=true↔j<p):=λj c f=>by
      rw[F];have:j≠i:=λe=>by subst e;rw[f] at S;cases S
      rw[if_neg this];exact K j c f
     cases T:lo.contains i with
     | true=>
      refine(ak i _ l T L).2 (σs p) (aO p i B U λj c f aq=>ax j c f (.inr aq)) env _ ad ?_;exact D _ _ _ p (by simpa using N) ae ag B aK af
     | false=>
      have ah:σs p=σs i:=ao p i B U λj c f=>ax j c f (.inl T)
      have es:=an i _ l S
      have aL:=(aj i _ l L).1;rw[es] at aL;rw[ah];refine aL env _ ad ?_;rw[<-ah];exact D _ _ _ p (by simpa using N) ae ag B aK af
    | true=>
     have T:lo.contains i=false:=by
      cases u:lo.contains i with
      | false=>rfl
      | true=>
       have:=(ak i _ l u L).1;unfold writer at S;rw[l] at S;simp[this] at S
     have ah:σs p=σs i:=ao p i B U λj c f=>ax j c f (.inl T);rw[ah];refine(aj i _ l L).1 env _ ad ?_;refine D _ _ _ (i+1) (by simpa using N) ae ag U (λj c f=>?_) af;rw[F];by_cases e:j=i
     .subst e;simp
     .rw[if_neg e];constructor
      .intro u;apply Ts;intro a5;rw[aJ j c f (.inl T) U] at u;cases u
      .intro ar;exact aI j c f (.inl T) U
theorem W.yX {as9:Nat->I} {σs:Nat->Ρ} {tags:List Bool} {env0:Δ} (c:TX ops tags=true)
  (d:∀i o,ops[i]?=some o->tags.getD i false=false->Pn P m nt k Z E ops i o (Za ops env0 as9 (λ_=>true) i) (as9 i)/\σs (i+1)=σs i)
  (f:∀i o,ops[i]?=some o->tags.getD i false=true->Pm P m nt k Z E ops i o (Za ops env0 as9 (λ_=>true) i) (σs i) (as9 i) (σs (i+1))/\(V5 o=true->σs (i+1)=σs i))
  (g:W P m nt (.inRegion ops []::k) (Za ops env0 as9 (λ_=>true) ops.size) (σs ops.size) Z E) :
  ∀(b:Nat) (t:Nat) (listed:Array Bool) (env:Δ) (a:Nat),listed.size=ops.size->
   (∀i,Z7 env i=Z7 (Za ops env0 as9 (λi=>listed.getD i false) ops.size) i)->
   (∀i o,ops[i]?=some o->listed.getD i false=true->∀j∈W1 o,listed.getD j false=true)->
   a<=ops.size->(∀j,j<ops.size->writer ops tags j=true->(listed.getD j false=true↔j<a))->
   ((List.range ops.size).filter λi=>!listed.getD i false).length<=b->
   W P m nt (.inRegion ops (Region.linearise.go .any ops b t listed [])::k) env (σs a) Z E:=by
 have e:TW [] []=P':=by funext i j;simp[TW,P']
 exact W.EH (lo:=[]) (pu:=[]) (v:=λ_=>()) (by rw[e];exact c) d f (λi o _ h=>by simp at h) (λi o _ h=>by simp at h) g
def JF:List Oper->List Nat->List Nat
 | [],acc=>acc
 | o::a,acc=>JF a (acc++[(W1 o).foldr (λj m=>(1 <<< j)|||acc.getD j 0|||m) 0])
def HH (π:Nat->Nat->Bool) (ops:Array Oper) (tags:List Bool):Bool:=
 let b:=JF ops.toList []
 (List.range ops.size).all λi=>match ops[i]? with
  | none=>false
  | some a=>(W1 a).all (λj=>decide (j<i))&&(List.range i).all λj=>match ops[j]? with
   | none=>false
   | some c=>!Uk π ops tags i j a c||(b.getD i 0).testBit j
def EG (a:List (List Nat)) (b:List Nat):Prop:=a.length=b.length/\∀i j,(b.getD i 0).testBit j=true↔j∈a.getD i []
theorem yW:∀(c:List Oper) (b:List (List Nat)) (d:List Nat),EG b d->EG (LU c b) (JF c d):=by
 intro c
 induction c with
 | nil=>intro b d h;exact h
 | cons o c f=>
  intro b d h;simp only[LU,JF];refine f _ _ ⟨by simp[h.1],λi j=>?_⟩;have one:∀l:List Nat,(l.foldr (λj m=>(1 <<< j)|||d.getD j 0|||m) 0).testBit j=true↔j∈l++l.flatMap λj=>b.getD j []:=by
   intro l
   induction l with
   | nil=>simp
   | cons a l g=>
    rw[List.foldr_cons,Nat.testBit_or,Nat.testBit_or,Nat.one_shiftLeft,Nat.testBit_two_pow];simp only[Bool.or_eq_true,decide_eq_true_eq,h.2 a j,g,WK,Zm,Mz];constructor
    .rintro((e|e)|e|e)
     .exact .inl (.inl e.symm)
     .exact .inr (.inl e)
     .exact .inl (.inr e)
     .exact .inr (.inr e)
    .rintro((e|e)|e|e)
     .exact .inl (.inl e.symm)
     .exact .inr (.inl e)
     .exact .inl (.inr e)
     .exact .inr (.inr e)
  rw[XJ,XJ];by_cases hi:i<b.length
  .rw[Y0 hi,Y0 (by rw[<-h.1];exact hi),<-XJ,<-XJ];exact h.2 i j
  .rw[Xw (by have:=h.1;omega),Xw U,<-h.1];cases hd:i-b.length with
   | zero=>simpa using one (W1 o)
   | succ n=>simp
theorem Oj {π:Nat->Nat->Bool} {ops:Array Oper} {tags:List Bool} (h:HH π ops tags=true):Qa π ops tags=true:=by
 unfold HH at h;unfold Qa;have e:=yW ops.toList [] [] ⟨rfl,λi j=>J⟩;simp only[Wv] at h ⊢;intro i hi;have b:=h i hi;cases c:ops[i]? with
 | none=>rw[c] at b;exact b
 | some g=>
  rw[c] at b;simp only[VT,Wv] at b ⊢;refine⟨b.1,λj f=>?_⟩;have a:=b.2 j f;cases d:ops[j]? with
  | none=>rw[d] at a;exact a
  | some k=>
   rw[d] at a;simp only[Bool.or_eq_true] at a ⊢;rcases a with a|a
   .exact .inl a
   .exact .inr (K4.2 ((e.2 i j).1 a))
end
def yV (ops:Array Oper) (tags:List Bool):Bool:=HH P' ops tags
theorem Yt {ops:Array Oper} {tags:List Bool} (h:yV ops tags=true):TX ops tags=true:=Oj h
section
variable {P:Program} {T:ZR} {A:List Nat} {m nt:Nat} {k:List Item} {env env':Δ} {σ:Ρ} {Z:XZ} {E:Yf} {ops:Array Oper}
theorem LS {o:Oper} (h:SI ops o env env'):∀x,x∈o.op.operands.toList->η env' x=η env x:=λx a=>by
 cases x with
 | tmp t=>
  refine h t ?_;unfold LV;simp only[WK,List.mem_filterMap];exact .inl ⟨.tmp t,a,rfl⟩
 | _=>rfl
theorem UN {o:Oper} (h:SI ops o env env'):XM env' ops o=XM env ops o:=by
 unfold XM;cases a:o.guard with
 | none=>rfl
 | some x=>
  obtain⟨j,b⟩:=x;simp only;cases hd:(ops[j]?).bind (·.dst) with
  | none=>rfl
  | some d=>
   simp only;have:Z7 env' d=Z7 env d:=h d (by unfold LV;rw[a];simp[hd]);rw[this]
theorem JE {a:Array (Nat×Operand)} (h:∀p∈a,η env' p.2=η env p.2):Qf env' a=Qf env a:=by
 unfold Qf;exact MA λp b=>by rw[h p (by simpa using b)]
theorem LR {a:Array Operand} (h:∀x∈a,η env' x=η env x):a.toList.map (η env')=a.toList.map (η env):=MA λx b=>h x (by simpa using b)
theorem JD {o:Option Operand} (h:∀x,o=some x->η env' x=η env x):o.map (η env')=o.map (η env):=by
 cases o with
 | none=>rfl
 | some x=>simp[h x rfl]
theorem P9 {o:Oper} (r:SI ops o env env'):VN T A env' o=VN T A env o:=by
 have h:=LS r;obtain⟨dst,g,w,pos,B,guard⟩:=o;simp only at h;unfold VN;cases g<;>simp only<;>try rfl
 all_goals simp only[Op.operands,Zm,YM,or_false,forall_eq_or_imp,forall_eq] at h
 case move x=>rw[h]
 case assign x=>rw[h]
 case pick c a b=>rw[h.1,h.2.1,h.2.2]
 case box d x=>rw[h]
 case build d s=>rw[JE λp j=>h p.2 (by simp only[Zd];exact⟨p,by simpa using j,rfl⟩)]
 case buildSlice d n s=>rw[JE λp j=>h p.2 (by simp only[Zd];exact⟨p,by simpa using j,rfl⟩)]
 case load d x=>rw[h]
 case binOp g a x y b=>rw[h.1,h.2]
 case unOp g a x=>rw[h]
 case convert a b x=>rw[h]
 case index d x y=>rw[h.1,h.2]
 case nilCheck x=>rw[h]
 case sliceToArrayPointer d x=>rw[h]
 case makeInterface a x=>rw[h]
 case makeFunc f C cs=>rw[LR λx e=>h x (by simp[e]),LR λx e=>h x (by simp[e])]
 case makeSlice a x y=>rw[h.1,h.2]
 case slice d x lo hi t=>
  cases t with
  | some m=>rfl
  | none=>
   simp only;rw[h x J,JD λy k=>h y (by simp[k]),JD λy k=>h y (by simp[k])]
 case fieldAddr d x f=>rw[h]
 case indexAddr d x y=>rw[h.1,h.2]
 case typeAssert x a b c=>rw[h]
 case extract x i=>rw[h]
 case call c=>
  obtain⟨u,⟨args⟩,⟨v⟩⟩:=c;cases u
  case value=>rfl
  case invoke=>rfl
  rename_i b;have l:∀x∈args,η env' x=η env x:=λx e=>h x (by simp[Call.operands,e])
  match args,v with
  | [x],[d]=>simp only;rw[l x J]
  | [x,y],[D,d]=>simp only;rw[l x J,l y J]
  | [],_=>rfl
  | [_],[]=>rfl
  | [_],_::_::_=>rfl
  | [_,_],[]=>rfl
  | [_,_],[_]=>rfl
  | [_,_],_::_::_::_=>rfl
  | _::_::_::_,_=>rfl
theorem Nm {o:Oper} (l:SI ops o env env'):Wt T A env' σ o=Wt T A env σ o:=by
 have h:=LS l;obtain⟨dst,k,C,pos,D,guard⟩:=o;simp only at h;unfold Wt;cases k<;>simp only<;>try rfl
 all_goals simp only[Op.operands,Zm,YM,or_false,forall_eq_or_imp,forall_eq] at h
 case box e x=>rw[h]
 case build e s=>rw[JE λp g=>h p.2 (by simp only[Zd];exact⟨p,by simpa using g,rfl⟩)]
 case buildSlice e n s=>rw[JE λp g=>h p.2 (by simp only[Zd];exact⟨p,by simpa using g,rfl⟩)]
 case load e x=>rw[h]
 case store e x y=>rw[h.1,h.2]
 case makeSlice a x y=>rw[h.1,h.2]
 case makeMap e r=>cases r<;>rfl
 case convert a b x=>rw[h]
 case nilCheck x=>rw[h]
 case binOp k e x y d=>
  split
  all_goals first
   | rfl
   |(rename_i t;cases t<;>simp only[h.1])
 case mapUpdate e x y z=>rw[h.1,h.2.1,h.2.2]
 case insert e x y z=>rw[h.1,h.2.1,h.2.2]
 case lookup e x y E=>rw[h.1,h.2]
 case range e x=>rw[h]
 case next x b=>
  cases b<;>simp only<;>try rfl
  rw[h]
 case entry x=>rw[h]
 case slice e x lo hi u=>
  cases u with
  | some m=>rfl
  | none=>
   simp only;rw[h x J,JD λy i=>h y (by simp[i]),JD λy i=>h y (by simp[i])]
 case fieldAddr e x f=>rw[h]
 case indexAddr e x y=>rw[h.1,h.2]
 case call c=>
  obtain⟨v,⟨args⟩,⟨w⟩⟩:=c;cases v
  case value=>rfl
  case invoke=>rfl
  rename_i b;have j:∀x∈args,η env' x=η env x:=λx B=>h x (by simp[Call.operands,B])
  match args,w with
  | [x],[e]=>simp only;rw[j x J]
  | [x,y],[F,e]=>simp only;rw[j x J,j y J]
  | [],_=>rfl
  | [_],[]=>rfl
  | [_],_::_::_=>rfl
  | [_,_],[]=>rfl
  | [_,_],[_]=>rfl
  | [_,_],_::_::_::_=>rfl
  | _::_::_::_,_=>rfl
def Xu (P:Program) (f:I) (args:ξ) (r:I):Prop:=∀σ,W5 P f args σ (λa s=>a=r/\s=σ) (λ_ _=>False)
def Zc.X' (r:Zc) (K:I->Prop) (s:Prop):Prop:=match r with
 | .ok a=>K a
 | .Y9 p (.ok a)=>p/\K a
 | .Y9 _ _=>False
 | .bad=>s
def YX.X' (r:YX) (K:I->Ρ->Prop):Prop:=match r with
 | .ok a σ'=>K a σ'
 | .Y9 p (.ok a σ')=>p/\K a σ'
 | _=>False
theorem yU {r r':Zc} {K:I->Prop} {s:Prop} (h:r=r'):r.X' K s=r'.X' K s:=by rw[h]
theorem yT {r r':YX} {K:I->Ρ->Prop} (h:r=r'):r.X' K=r'.X' K:=by rw[h]
def dcall (P:Program) (f:I) (args:ξ) (σ:Ρ) (b:I->Prop) (c:I->Ρ->Prop):Prop:=
 (∃r,Xu P f args r/\b r)\/∃r σ',W5 P f args σ (λa s=>a=r/\s=σ') (λ_ _=>False)/\c r σ'
theorem Ys {P:Program} {f:I} {args:ξ} {σ:Ρ} {a:I->Prop} {b:I->Ρ->Prop} {r:I} (h:Xu P f args r) (k:a r):dcall P f args σ a b:=.inl ⟨r,h,k⟩
theorem Nl {P:Program} {f:I} {args:ξ} {σ σ':Ρ} {c:I->Prop} {b:I->Ρ->Prop} {r:I} (h:W5 P f args σ (λa s=>a=r/\s=σ') (λ_ _=>False)) (k:b r σ'):dcall P f args σ c b:=.inr ⟨r,σ',h,k⟩
def P8 (P:Program) (T:ZR) (A:List Nat) (env:Δ) (o:Oper) (σ:Ρ) (a:I->Prop) (b:I->Ρ->Prop):Prop:=match o.op with
 | .call ⟨.value f,args,_⟩=>dcall P (η env f) (args.toList.map (η env)) σ a b
 | .panic _=>False
 | .defer _=>False
 | _=>(VN T A env o).X' a ((Wt T A env σ o).X' b)
theorem yS {P:Program} {T:ZR} {A:List Nat} {env:Δ} {o:Oper} {σ:Ρ} {a:I->Prop} {b:I->Ρ->Prop}:P8 P T A env o σ a b=match o.op with
 | .call ⟨.value f,args,_⟩=>dcall P (η env f) (args.toList.map (η env)) σ a b
 | .panic _=>False
 | .defer _=>False
 | _=>(VN T A env o).X' a ((Wt T A env σ o).X' b):=XB rfl rfl
theorem yR {a:I} {K:I->Prop} {s:Prop}:Zc.X' (.ok a) K s=K a:=XB rfl rfl
theorem yQ {p:Prop} {a:I} {K:I->Prop} {s:Prop}:Zc.X' (.Y9 p (.ok a)) K s=(p/\K a):=XB rfl rfl
theorem yP {K:I->Prop} {s:Prop}:Zc.X' .bad K s=s:=XB rfl rfl
theorem yO {a:I} {σ:Ρ} {K:I->Ρ->Prop}:YX.X' (.ok a σ) K=K a σ:=XB rfl rfl
theorem yN {p:Prop} {a:I} {σ:Ρ} {K:I->Ρ->Prop}:YX.X' (.Y9 p (.ok a σ)) K=(p/\K a σ):=XB rfl rfl
def Vv (P:Program) (T:ZR) (A:List Nat) (nt:Nat) (ops:Array Oper):List Nat->Δ->Ρ->List Bool->(Δ->Ρ->Prop)->Prop
 | [],env,σ,tags,K=>TX ops tags=true/\K env σ
 | i::is,env,σ,tags,K=>Xm ops[i]? λo=>W2 nt o=true/\Xm (XM env ops o) λw=>
   Ws w (Vv P T A nt ops is (Zt o env .Zk) σ (tags++[false]) K)
    (P8 P T A env o σ (λa=>Vv P T A nt ops is (Zt o env a) σ (tags++[false]) K) (λa σ'=>Vv P T A nt ops is (Zt o env a) σ' (tags++[true]) K))
def EF (P:Program) (T:ZR) (A:List Nat) (nt:Nat) (ops:Array Oper) (is:List Nat) (o:Oper) (env:Δ) (σ:Ρ) (tags:List Bool) (K:Δ->Ρ->Prop) (a:I):Prop:=Vv P T A nt ops is (Zt o env a) σ (tags++[false]) K
def EE (P:Program) (T:ZR) (A:List Nat) (nt:Nat) (ops:Array Oper) (is:List Nat) (o:Oper) (env:Δ) (tags:List Bool) (K:Δ->Ρ->Prop) (a:I) (σ':Ρ):Prop:=Vv P T A nt ops is (Zt o env a) σ' (tags++[true]) K
theorem ZH {tags:List Bool} {K:Δ->Ρ->Prop}:Vv P T A nt ops [] env σ tags K=(TX ops tags=true/\K env σ):=XB rfl rfl
theorem ZG {i:Nat} {is:List Nat} {tags:List Bool} {K:Δ->Ρ->Prop}:Vv P T A nt ops (i::is) env σ tags K=Xm ops[i]? λo=>W2 nt o=true/\Xm (XM env ops o) λw=>
   Ws w (Vv P T A nt ops is (Zt o env .Zk) σ (tags++[false]) K) (P8 P T A env o σ (EF P T A nt ops is o env σ tags K) (EE P T A nt ops is o env tags K)):=XB rfl rfl
theorem yM {ops:Array Oper} {is:List Nat} {o:Oper} {tags:List Bool} {K:Δ->Ρ->Prop} {a:I}:EF P T A nt ops is o env σ tags K a=Vv P T A nt ops is (Zt o env a) σ (tags++[false]) K:=XB rfl rfl
theorem yL {ops:Array Oper} {is:List Nat} {o:Oper} {tags:List Bool} {K:Δ->Ρ->Prop} {a:I}:EE P T A nt ops is o env tags K a σ=Vv P T A nt ops is (Zt o env a) σ (tags++[true]) K:=XB rfl rfl
def Wg (P:Program) (m nt:Nat) (k:List Item) (Z:XZ) (E:Yf) (ops:Array Oper) (i:Nat) (o:Oper) (env:Δ) (σ:Ρ) (b:Bool) (a:I) (σ':Ρ):Prop:=
 if b then Pm P m nt k Z E ops i o env σ a σ'/\(V5 o=true->σ'=σ) else Pn P m nt k Z E ops i o env a/\σ'=σ
theorem yK {b:TypeId} {x a:I} {σ':Ρ} {p:Prop} (h:SP T b σ x=.ok a σ'\/SP T b σ x=.Y9 p (.ok a σ')):σ'=σ:=by
 unfold SP Q2 at h
 repeat' split at h
 all_goals simp[Zc.YC] at h
 all_goals first|exact h.2.symm|skip
theorem yJ {b:TypeId} {x c a:I} {σ':Ρ} {p:Prop} (h:SN T b σ x c=.ok a σ'\/SN T b σ x c=.Y9 p (.ok a σ')):σ'=σ:=by
 unfold SN at h
 repeat' split at h
 all_goals simp at h
 all_goals first|exact h.2.2.symm|exact h.2.symm|skip
theorem yI {b:TypeId} {f:Nat} {x a:I} {σ':Ρ} {p:Prop} (h:SO T b f σ x=.ok a σ'\/SO T b f σ x=.Y9 p (.ok a σ')):σ'=σ:=by
 unfold SO at h
 repeat' split at h
 all_goals simp at h
 all_goals first|exact h.2.2.symm|exact h.2.symm|skip
theorem yH {x a:I} {σ':Ρ} {p:Prop} (h:On σ x=.ok a σ'\/On σ x=.Y9 p (.ok a σ')):σ'=σ:=by
 unfold On at h
 repeat' split at h
 all_goals simp at h
 all_goals first|exact h.2.2.symm|exact h.2.symm|skip
theorem Nk {o:Oper} {a:I} {σ':Ρ} {p:Prop} (c:V5 o=true) (h:Wt T A env σ o=.ok a σ'\/Wt T A env σ o=.Y9 p (.ok a σ')):σ'=σ:=by
 unfold V5 at c;unfold Wt at h;split at c
 .rename_i d x b;rw[b] at h;exact yK h
 .rename_i d x e b;rw[b] at h;exact yJ h
 .rename_i d x f b;rw[b] at h;exact yI h
 .rename_i x b;rw[b] at h;exact yH h
 .cases c
theorem yG (D:Zz P T) {i:Nat} {is:List Nat} {tags:List Bool} {K:Δ->Ρ->Prop} (h:Vv P T A nt ops (i::is) env σ tags K) :
  ∃o a σ' F,ops[i]?=some o/\Wg P m nt k Z E ops i o env σ F a σ'/\Vv P T A nt ops is (Zt o env a) σ' (tags++[F]) K:=by
 unfold Vv Xm at h;split at h
 .exact h.elim
 .rename_i o d;obtain⟨hd,h⟩:=h;split at h
  .exact h.elim
  rename_i w t;unfold Ws at h;cases w
  .replace h:=h.1 rfl
   refine⟨o,.Zk,σ,false,d,?_,h⟩;unfold Wg;simp only[Xf,if_false];exact⟨λenv' σ' rest b g=>.unwanted d (by rw[UN b];exact t) hd g,trivial⟩
  .replace h:=h.2 rfl
   unfold P8 at h;split at h
   .rename_i f args R u;have H:∀env',SI ops o env env'->η env' f=η env f/\args.toList.map (η env')=args.toList.map (η env):=λenv' b=>by
     have v:=LS b;rw[u] at v;refine⟨v f (by simp[Op.operands,Call.operands]),LR λx N=>v x (by simp[Op.operands,Call.operands,N])⟩
    rcases h with⟨r,l,h⟩|⟨r,σ',l,h⟩
    .refine⟨o,r,σ,false,d,?_,h⟩;unfold Wg;simp only[Xf,if_false];refine⟨λenv' σ' rest b g=>.call d (by rw[UN b];exact t) hd u ?_,trivial⟩;obtain⟨B,Φ⟩:=H env' b;rw[B,Φ];exact(l σ').mono (λa s ⟨x,y⟩=>by subst x;subst y;exact g) (λ_ _ h=>h.elim)
    .refine⟨o,r,σ',true,d,?_,h⟩;unfold Wg;simp only[if_true];refine⟨?_,λe=>by unfold V5 at e;rw[u] at e;cases e⟩;refine λenv' rest b g=>.call d (by rw[UN b];exact t) hd u ?_;obtain⟨B,Φ⟩:=H env' b;rw[B,Φ];exact l.mono (λa s ⟨x,y⟩=>by subst x;subst y;exact g) (λ_ _ h=>h.elim)
   .exact h.elim
   .exact h.elim
   .rename_i S U J;have L:∀(r:Zc) (a:I),VN T A env o=r->(∀K:I->Ρ->Prop,∀s,K a s->(r.YC s).holds K)->(∀σ s,r.or σ s=r.YC σ)->Pn P m nt k Z E ops i o env a:=λr a e C O env' σ' rest b g=>by
     refine .op (A:=A) D d (by rw[UN b];exact t) hd (λc l=>J c l) ?_;rw[P9 b,e,O];exact C _ _ g
    unfold Zc.X' at h;split at h
    .rename_i a j;refine⟨o,a,σ,false,d,?_,h⟩;unfold Wg;simp only[Xf,if_false];exact⟨L _ a j (λK s n=>n) (λ_ _=>rfl),trivial⟩
    .rename_i p a j;refine⟨o,a,σ,false,d,?_,h.2⟩;unfold Wg;simp only[Xf,if_false];exact⟨L _ a j (λK s n=>⟨h.1,n⟩) (λ_ _=>rfl),trivial⟩
    .exact h.elim
    .rename_i Q;have M:∀(a:I) (σ':Ρ) (r:YX),Wt T A env σ o=r->(∀K:I->Ρ->Prop,K a σ'->r.holds K)->Pm P m nt k Z E ops i o env σ a σ':=λa σ' r e C env' rest b g=>by
      refine .op (A:=A) D d (by rw[UN b];exact t) hd (λc l=>J c l) ?_;rw[P9 b,Nm b,Q,e];exact C _ g
     unfold YX.X' at h;split at h
     .rename_i a σ' j;refine⟨o,a,σ',true,d,?_,h⟩;unfold Wg;simp only[if_true];exact⟨M a σ' _ j λK n=>n,λe=>Nk (p:=True) e (.inl j)⟩
     .rename_i p a σ' j;refine⟨o,a,σ',true,d,?_,h.2⟩;unfold Wg;simp only[if_true];exact⟨M a σ' _ j λK n=>⟨h.1,n⟩,λe=>Nk e (.inr j)⟩
     .exact h.elim
theorem HG {env0:Δ} {as9 a:Nat->I} {b:Nat->Bool}:∀n,(∀j,j<n->as9 j=a j)->Za ops env0 as9 b n=Za ops env0 a b n:=by
 intro n
 induction n with
 | zero=>intro _;rfl
 | succ n c=>
  intro h;simp only[Za];rw[c λj d=>h j U,h n (Qu n)]
theorem yF (t:Zz P T) {K:Δ->Ρ->Prop} {env0:Δ}:∀(d i:Nat) (tags:List Bool) (as9:Nat->I) (σs:Nat->Ρ),i+d=ops.size->tags.length=i->
  (∀j o,j<i->ops[j]?=some o->Wg P m nt k Z E ops j o (Za ops env0 as9 (λ_=>true) j) (σs j) (tags.getD j false) (as9 j) (σs (j+1)))->
  Vv P T A nt ops (List.range' i d) (Za ops env0 as9 (λ_=>true) i) (σs i) tags K->
  ∃(tags:List Bool) (as9:Nat->I) (b:Nat->Ρ),TX ops tags=true/\b 0=σs 0/\(∀j o,ops[j]?=some o->Wg P m nt k Z E ops j o (Za ops env0 as9 (λ_=>true) j) (b j) (tags.getD j false) (as9 j) (b (j+1)))/\K (Za ops env0 as9 (λ_=>true) ops.size) (b ops.size):=by
 intro d
 induction d with
 | zero=>
  intro i tags as9 σs hi n g h;simp only[List.range'_zero,Vv] at h;have:i=ops.size:=U;subst this;exact⟨tags,as9,σs,h.1,rfl,λj o f=>g j o (T'.1 f).1 f,h.2⟩
 | succ d u=>
  intro i tags as9 σs hi n g h;rw[My] at h;obtain⟨o,a,σ',l,f,v,h⟩:=yG (m:=m) (k:=k) (Z:=Z) (E:=E) t h;let c:Nat->I:=λj=>if j=i then a else as9 j
  let b:Nat->Ρ:=λj=>if j=i+1 then σ' else σs j
  have p:∀j,j<=i->Za ops env0 as9 (λ_=>true) j=Za ops env0 c (λ_=>true) j:=λj g=>HG j λx L=>by simp only[c];rw[if_neg U]
  have w:Za ops env0 c (λ_=>true) (i+1)=Zt o (Za ops env0 as9 (λ_=>true) i) a:=by
   simp only[Za,if_true,f];rw[<-p i (Z1 i)];simp only[c,if_true]
  have:=u (i+1) (tags++[l]) c b U (by simp[n]) (λj y M r=>?_) ?_
  .obtain⟨t2,B,C,D,F,H,J⟩:=this;exact⟨t2,B,C,D,F.trans (by simp only[b];rw[if_neg U]),H,J⟩
  .by_cases e:j=i
   .subst e;rw[f] at r;cases r;rw[<-p j (Z1 j)];have s:(tags++[l]).getD j false=l:=by rw[XJ,Xw U,n];simp
    rw[s];simp only[c,b,if_true];rw[if_neg U];exact v
   .have:=g j y U r;rw[<-p j U];have s:(tags++[l]).getD j false=tags.getD j false:=by rw[XJ,Y0 U,<-XJ]
    rw[s];simp only[c,b];rw[if_neg U,if_neg U,if_neg U];exact this
  .rw[w];simp only[b,if_true];exact h
theorem W.draw (s:Zz P T) (u:P.follows .mixedOrders=true) {id:Nat} (h:∀d:Δ->Ρ->Prop,(∀env σ,W P m nt k env σ Z E->d env σ)->Vv P T A nt ops (idx ops.size []) env σ [] d):W P m nt (.code (.region id ops true)::k) env σ Z E:=by
 have e:=h (λenv σ=>W P m nt k env σ Z E) λ_ _ h=>h;rw[idx_eq,K2] at e;obtain⟨tags,as9,σs,v,w,f,y⟩:=yF (m:=m) (k:=k) (Z:=Z) (E:=E) (env0:=env) s ops.size 0 [] (λ_=>.Zk) (λ_=>σ) U rfl (λj o C=>U) e;intro D mn x cs b S B H t g l F I K;refine .draw g l λn=>?_;have p:=W.yX (P:=P) (m:=m) (nt:=nt) (k:=k) (Z:=Z) (E:=E) (ops:=ops) (as9:=as9) (σs:=σs) (tags:=tags) (env0:=env) v
  (λi o a c=>by have:=f i o a;unfold Wg at this;rw[c] at this;simpa using this)
  (λi o a c=>by have:=f i o a;unfold Wg at this;rw[c] at this;simpa using this)
  (.ZC y) ops.size n (Array.replicate ops.size false) env 0 J (λi=>?_) (λi o a r=>?_) (Ε _) (λj C _=>?_) ?_
 .rw[w] at p;rw[u];simp only[Region.schedule,Bool.true_or,if_true,Region.linearise];exact p D mn x cs b S B H t g l F I K
 .have:∀n,Za ops env as9 (λi=>(Array.replicate ops.size false).getD i false) n=env:=by
   intro n
   induction n with
   | zero=>rfl
   | succ n L=>
    simp only[Za];have:(Array.replicate ops.size false).getD n false=false:=by
     rw[WU,OV];split<;>rfl
    rw[if_neg (by rw[this];simp)];exact L
  rw[this]
 .have:(Array.replicate ops.size false).getD i false=false:=by
   rw[WU,OV];split<;>rfl
  rw[this] at r;cases r
 .have:(Array.replicate ops.size false).getD j false=false:=by
   rw[WU,OV];split<;>rfl
  rw[this];simp
 .have:=K3 (λi=>!(Array.replicate ops.size false).getD i false) (List.range ops.size);simpa using this
theorem ED {K K':Δ->Ρ->Prop} (k:∀e s,K e s->K' e s):∀(is:List Nat) (env:Δ) (σ:Ρ) (tags:List Bool),Vv P T A nt ops is env σ tags K->Vv P T A nt ops is env σ tags K':=by
 intro is
 induction is with
 | nil=>intro env σ tags h;exact⟨h.1,k _ _ h.2⟩
 | cons i is b=>
  intro env σ tags h;unfold Vv Xm at h ⊢;cases d:ops[i]? with
  | none=>rw[d] at h;exact h.elim
  | some o=>
   rw[d] at h;simp only at h ⊢;refine⟨h.1,?_⟩
   replace h:=h.2
   cases g:XM env ops o with
   | none=>rw[g] at h;exact h.elim
   | some w=>
    rw[g] at h;unfold Ws at h ⊢;refine⟨λe=>b _ _ _ (h.1 e),λe=>?_⟩
    replace h:=h.2 e
    unfold P8 at h ⊢;split
    .rename_i f args j a;rw[a] at h;simp only at h;rcases h with⟨r,c,h⟩|⟨r,σ',c,h⟩
     .exact .inl ⟨r,c,b _ _ _ h⟩
     .exact .inr ⟨r,σ',c,b _ _ _ h⟩
    .rename_i a;rw[a] at h;exact h
    .rename_i a;rw[a] at h;exact h
    .rename_i l m n;split at h
     .rename_i f args j a;exact absurd a (l f args j)
     .rename_i y a;exact absurd a (m y)
     .rename_i y a;exact absurd a (n y)
     .unfold Zc.X' at h ⊢;split at h
      .exact b _ _ _ h
      .exact⟨h.1,b _ _ _ h.2⟩
      .exact h.elim
      .unfold YX.X' at h ⊢;split at h
       .exact b _ _ _ h
       .exact⟨h.1,b _ _ _ h.2⟩
       .exact h.elim
theorem W.Nj (b:Zz P T) (c:P.follows .mixedOrders=true) (a:Δ) {id:Nat} (h:W P m nt k a σ Z E) (d:Vv P T A nt ops (idx ops.size []) env σ [] (λe s=>s=σ/\∀p∈a,Z7 e p.1=p.2)):W P m nt (.code (.region id ops true)::k) env σ Z E:=
 W.draw b c λj f=>ED (λe s ⟨g,i⟩=>f e s (g▸W.forget a i h)) _ _ _ _ d
end
def VM {a:Type}:List a->List Nat->List a->List a
 | l,i::ρ,x::xs=>VM (l.set i x) ρ xs
 | l,_,_=>l
theorem P7 {a:Type}:∀(ρ:List Nat) (l xs:List a),(VM l ρ xs).length=l.length:=by
 intro ρ
 induction ρ with
 | nil=>intro l xs;cases xs<;>rfl
 | cons i ρ b=>intro l xs;cases xs with
  | nil=>rfl
  | cons x xs=>simp[VM,b]
theorem HF {a:Type} {i:Nat}:∀(ρ:List Nat) (l xs:List a),i∉ρ->(VM l ρ xs)[i]?=l[i]?:=by
 intro ρ
 induction ρ with
 | nil=>intro l xs _;cases xs<;>rfl
 | cons j ρ b=>intro l xs h;cases xs with
  | nil=>rfl
  | cons x xs=>
   simp only[VM];rw[b _ _ (λc=>h (by simp[c])),Vm (λe=>h (by simp[e]))]
theorem EC {d:Type}:∀(ρ:List Nat) (l xs:List d),ρ.Nodup->(∀i∈ρ,i<l.length)->∀(j i:Nat) (x:d),ρ[j]?=some i->xs[j]?=some x->(VM l ρ xs)[i]?=some x:=by
 intro ρ
 induction ρ with
 | nil=>intro l xs _ _ j i x h;simp at h
 | cons a ρ f=>
  intro l xs g e j i x c b;cases xs with
  | nil=>simp at b
  | cons y xs=>
   simp only[VM];obtain⟨k,m⟩:=Rg.1 g;cases j with
   | zero=>
    simp at c b;subst c;subst b;rw[HF ρ _ _ k,Ww (e a J)]
   | succ j=>
    simp only[List.getElem?_cons_succ] at c b;exact f _ _ m (λi hi=>by simp;exact e i (by simp[hi])) j i x c b
def Wf (ρ:List Nat):I->I
 | .Ο id n i j=>.Ο (ρ.getD id 0) n i j
 | .ms id n i len=>.ms (ρ.getD id 0) n i len
 | .mp id=>.mp (ρ.getD id 0)
 | .it id=>.it (ρ.getD id 0)
 | a=>a
def Yk (ρ:List Nat):I->I
 | .fn f b cs=>.fn f (b.map (Wf ρ)) (cs.map (Wf ρ))
 | .Z' l=>.Z' (l.map (Wf ρ))
 | .ZV l=>.ZV (l.map (Wf ρ))
 | a=>Wf ρ a
def Sd (h:Nat) (a:I):Prop:=match a with
 | .Ο id _ _ _|.ms id _ _ _|.mp id|.it id=>id<h
 | a=>ψ 0 a
def Xh (h:Nat) (a:I):Prop:=match a with
 | .fn _ b cs=>(∀a∈b,Sd h a)/\∀a∈cs,Sd h a
 | .Z' l|.ZV l=>∀a∈l,Sd h a
 | a=>Sd h a
structure Names (ρ:List Nat) (a:Z8) (σ0:Ρ) (b:Z8) (c:Ρ):Prop where
 row:∀(j i:Nat),ρ[j]?=some i->c[i]?=σ0[j]?
 blk:∀(j i:Nat),ρ[j]?=some i->b[i]?=a[j]?
section
variable {S:ο} {JC Sc:Z8} {σ0 JB:Ρ} {ρ:List Nat}
theorem JA {ρ:List Nat} {j:Nat} (h:j<ρ.length):ρ[j]?=some (ρ.getD j 0):=by
 rw[XJ,ε h];rfl
theorem UE (g:Names ρ JC σ0 Sc JB) {a:I} {v:Value} (l:Sd ρ.length a):ς S Sc JB (Wf ρ a) v↔ς S JC σ0 a v:=by
 cases a with
 | Ο id n i j=>
  have e:=JA (ρ:=ρ) l
  have d:=g.row _ _ e
  have f:=g.blk _ _ e;constructor
  .intro h;cases h with
   | Ο b c k=>exact .Ο (by rw[<-d];exact b) c (by rw[<-f];exact k)
   | Vi v b c=>exact .Vi v (by rw[<-d];exact b) c
  .intro h;cases h with
   | Ο b c k=>exact .Ο (by rw[d];exact b) c (by rw[f];exact k)
   | Vi v b c=>exact .Vi v (by rw[d];exact b) c
 | ms id n i len=>
  have e:=JA (ρ:=ρ) l
  have d:=g.row _ _ e
  have f:=g.blk _ _ e;constructor
  .intro h;cases h with
   | ms cap b c k m o p=>exact .ms cap (by rw[<-d];exact b) c (by rw[<-f];exact k) m o p
   | Vx v b c=>exact .Vx v (by rw[<-d];exact b) c
  .intro h;cases h with
   | ms cap b c k m o p=>exact .ms cap (by rw[d];exact b) c (by rw[f];exact k) m o p
   | Vx v b c=>exact .Vx v (by rw[d];exact b) c
 | mp id=>
  have e:=JA (ρ:=ρ) l
  have d:=g.row _ _ e
  have f:=g.blk _ _ e;constructor
  .intro h;cases h with
   | mp b c=>exact .mp (by rw[<-d];exact b) (by rw[<-f];exact c)
   | Uo v b=>exact .Uo v (by rw[<-d];exact b)
  .intro h;cases h with
   | mp b c=>exact .mp (by rw[d];exact b) (by rw[f];exact c)
   | Uo v b=>exact .Uo v (by rw[d];exact b)
 | it id=>
  have e:=JA (ρ:=ρ) l
  have d:=g.row _ _ e
  have f:=g.blk _ _ e;constructor
  .intro h;cases h with
   | it b c=>exact .it (by rw[<-d];exact b) (by rw[<-f];exact c)
   | Td v b=>exact .Td v (by rw[<-d];exact b)
  .intro h;cases h with
   | it b c=>exact .it (by rw[d];exact b) (by rw[f];exact c)
   | Td v b=>exact .Td v (by rw[d];exact b)
 | _=>exact⟨λh=>h.any l _ _,λh=>h.any l _ _⟩
theorem Jz {f:I->I} {l:ξ} {i:Nat} {a:I} (h:(l.map f)[i]?=some a):∃b,l[i]?=some b/\a=f b:=by
 rw[Yh] at h;cases c:l[i]? with
 | none=>rw[c] at h;cases h
 | some b=>rw[c] at h;cases h;exact⟨b,rfl,rfl⟩
theorem HE (c:Names ρ JC σ0 Sc JB) {a:I} {v:Value} (d:Xh ρ.length a):ς S Sc JB (Yk ρ a) v↔ς S JC σ0 a v:=by
 cases a with
 | fn f s cs=>
  constructor
  .intro h;cases h with
   | fn vs o e g p r=>
    refine .fn vs o (by simpa using e) (by simpa using g) (λi a v hi hv=>?_) (λi a v hi hv=>?_)
    .exact(UE c (d.1 a (Zf hi))).1 (p i _ v (by rw[Yh,hi];rfl) hv)
    .exact(UE c (d.2 a (Zf hi))).1 (r i _ v (by rw[Yh,hi];rfl) hv)
  .intro h;cases h with
   | fn vs o e g p r=>
    refine .fn vs o (by simpa using e) (by simpa using g) (λi a v hi hv=>?_) (λi a v hi hv=>?_)
    .obtain⟨b,m,rfl⟩:=Jz hi;exact(UE c (d.1 b (Zf m))).2 (p i b v m hv)
    .obtain⟨b,m,rfl⟩:=Jz hi;exact(UE c (d.2 b (Zf m))).2 (r i b v m hv)
 | Z' l=>
  constructor
  .intro h;cases h with
   | Z' vs e g=>exact .Z' vs (by simpa using e) λi a v hi hv=>(UE c (d a (Zf hi))).1 (g i _ v (by rw[Yh,hi];rfl) hv)
  .intro h;cases h with
   | Z' vs e g=>
    refine .Z' vs (by simpa using e) λi a v hi hv=>?_;obtain⟨b,m,rfl⟩:=Jz hi;exact(UE c (d b (Zf m))).2 (g i b v m hv)
 | ZV l=>
  constructor
  .intro h;cases h with
   | ZV vs e g=>exact .ZV vs (by simpa using e) λi a v hi hv=>(UE c (d a (Zf hi))).1 (g i _ v (by rw[Yh,hi];rfl) hv)
  .intro h;cases h with
   | ZV vs e g=>
    refine .ZV vs (by simpa using e) λi a v hi hv=>?_;obtain⟨b,m,rfl⟩:=Jz hi;exact(UE c (d b (Zf m))).2 (g i b v m hv)
 | z u=>exact UE (a:=.z u) c d
 | ω l=>exact UE (a:=.ω l) c d
 | sl ex k l=>exact UE (a:=.sl ex k l) c d
 | Ο id n i j=>exact UE (a:=.Ο id n i j) c d
 | ms id n i len=>exact UE (a:=.ms id n i len) c d
 | Xo t a=>exact UE (a:=.Xo t a) c d
 | mp id=>exact UE (a:=.mp id) c d
 | it id=>exact UE (a:=.it id) c d
 | Zk=>exact UE (a:=.Zk) c d
end
section
variable {P:Program} {S YA:ο} {B:Z8} {H H':Ψ} {σ:Ρ}
def V4 (r:Row):Prop:=match r with|.cells _ _ l=>∀e∈l,∀a∈e.cells,ψ 0 a|_=>False
def LQ (r:Row):Prop:=V4 r\/r=.dead
theorem Vh.plain {B':Z8} {σ':Ρ} {r:Row} {bo:Option (Nat×Nat)} (c:V4 r) (h:Vh S B σ H r bo) (g:Z8) (m:Ρ):Vh S g m H r bo:=by
 cases r with
 | cells t k l=>
  cases bo with
  | none=>exact h
  | some x=>
   obtain⟨b,N⟩:=x;obtain⟨n,o,p,w,d⟩:=h;refine⟨n,o,p,w,λi e hi=>⟨(d i e hi).1,λj a f=>?_⟩⟩;obtain⟨s,u,v⟩:=(d i e hi).2 j a f;exact⟨s,u.any (c e (Zf hi) a (Zf f)) _ _,v⟩
 | _=>exact c.elim
theorem Vh.yE {B':Z8} {σ':Ρ} {r:Row} {bo:Option (Nat×Nat)} (a:LQ r) (h:Vh S B σ H r bo) (b:Z8) (c:Ρ):Vh S b c H r bo:=by
 rcases a with a|rfl
 .exact Vh.plain (B':=B') (σ':=σ') a h b c
 .trivial
theorem Holds.EB (s:Holds S B σ H) {ρ:List Nat} {I:Ρ} (az:ρ.Nodup) (ai:ρ.length=I.length) (aj:∀(j i:Nat),ρ[j]?=some i->σ[i]?=I[j]?) (aL:∀r∈I,V4 r)
  {d:Z8} {σ0:Ρ} (C:Ext S (ρ.map λi=>B.getD i none) H YA d H') (aA:Zw S YA (ρ.map λi=>B.getD i none) d I σ0) (V:Holds YA d σ0 H') (aM:∀r∈σ0,LQ r) :
  let t:=VM σ ρ σ0++σ0.drop ρ.length
  let m:=VM B ρ d++d.drop ρ.length
  Holds YA m t H'/\Ext S B H YA m H'/\Zw S YA B m σ t/\Names (ρ++(List.range (σ0.length-ρ.length)).map (σ.length + ·)) d σ0 m t:=by
 intro t m;have ak:∀i∈ρ,i<σ.length:=λi hi=>by
  obtain⟨j,a⟩:=Su hi;have n:j<I.length:=by rw[<-ai];exact(Zu.1 a).1
  have:=aj j i a;rw[ε n] at this;exact(Zu.1 this).1
 have aa:∀i∈ρ,i<B.length:=λi hi=>by rw[s.len];exact ak i hi
 have aX:ρ.length<=σ0.length:=by rw[ai];exact aA.length
 have aN:d.length=σ0.length:=V.len
 have aO:∀(j i:Nat),ρ[j]?=some i->(ρ.map λi=>B.getD i none)[j]?=B[i]?:=λj i a=>by
  have hi:=aa i (Zf a);rw[Yh,a];simp[hi]
 have al:∀(j i:Nat),ρ[j]?=some i->t[i]?=σ0[j]?:=λj i a=>by
  have hi:=ak i (Zf a)
  have n:j<σ0.length:=by have:=(Zu.1 a).1;omega
  show(VM σ ρ σ0++_)[i]?=_;rw[Y0 (by rw[P7];exact hi),ε n];exact EC ρ σ σ0 az ak j i _ a (ε n)
 have am:∀(j i:Nat),ρ[j]?=some i->m[i]?=d[j]?:=λj i a=>by
  have hi:=aa i (Zf a)
  have n:j<d.length:=by have:=(Zu.1 a).1;omega
  show(VM B ρ d++_)[i]?=_;rw[Y0 (by rw[P7];exact hi),ε n];exact EC ρ B d az aa j i _ a (ε n)
 have an:∀i,i<σ.length->i∉ρ->t[i]?=σ[i]?:=λi hi g=>by
  show(VM σ ρ σ0++_)[i]?=_;rw[Y0 (by rw[P7];exact hi),HF ρ _ _ g]
 have ao:∀i,i<σ.length->i∉ρ->m[i]?=B[i]?:=λi hi g=>by
  show(VM B ρ d++_)[i]?=_;rw[Y0 (by rw[P7,s.len];exact hi),HF ρ _ _ g]
 have aB:∀x,t[σ.length+x]?=σ0[ρ.length+x]?:=λx=>by
  show(VM σ ρ σ0++_)[_]?=_;rw[Xw (by rw[P7];omega),P7,T7];congr 1;omega
 have aC:∀x,m[σ.length+x]?=d[ρ.length+x]?:=λx=>by
  show(VM B ρ d++_)[_]?=_;rw[Xw (by rw[P7,s.len];omega),P7,s.len,T7];congr 1;omega
 have W:∀(i:Nat) (r:Row),t[i]?=some r->(i<σ.length/\i∉ρ/\σ[i]?=some r/\m[i]?=B[i]?)\/∃j,σ0[j]?=some r/\m[i]?=d[j]?/\(∀w D,(w<σ.length->ρ[D]?=some w)->(¬w<σ.length->D=ρ.length+(w-σ.length))->j=D->i=w)/\((i<σ.length->ρ[j]?=some i)/\(¬i<σ.length->j=ρ.length+(i-σ.length))):=λi r f=>by
  by_cases hi:i<σ.length
  .by_cases g:i∈ρ
   .obtain⟨j,a⟩:=Su g;refine .inr ⟨j,by rw[<-al j i a];exact f,am j i a,λw D J p e=>?_,λ_=>a,λh=>absurd hi h⟩;subst e;by_cases X:w<σ.length
    .have:=J X;rw[a] at this;cases this;rfl
    .have:=p X;have:=(Zu.1 a).1;omega
   .exact .inl ⟨hi,g,by rw[<-an i hi g];exact f,ao i hi g⟩
  .have e:i=σ.length+(i-σ.length):=U
   refine .inr ⟨ρ.length+(i-σ.length),by rw[<-aB,<-e];exact f,by rw[<-aC,<-e],λw D J p aY=>?_,λh=>absurd h hi,λ_=>rfl⟩;by_cases X:w<σ.length
   .have:=(Zu.1 (J X)).1;omega
   .have:=p X;omega
 have aD:m.length=t.length:=by
  show(VM B ρ d++d.drop ρ.length).length=(VM σ ρ σ0++σ0.drop ρ.length).length;simp[P7,s.len,aN]
 have aE:Zw S YA B m σ t:=⟨C.YL,λid r f=>by
  have hi:=(Zu.1 f).1;by_cases g:id∈ρ
  .obtain⟨j,a⟩:=Su g;have aP:I[j]?=some r:=by rw[<-aj j id a];exact f
   obtain⟨r',k,c⟩:=aA.rows j r aP;exact⟨r',by rw[al j id a];exact k,by rw[am j id a,<-aO j id a];exact c⟩
  .exact⟨r,by rw[an id hi g];exact f,by rw[ao id hi g];exact r.Ql _⟩⟩
 have ab:∀b,Z8.has (ρ.map λi=>B.getD i none) b->∃j i N,ρ[j]?=some i/\B[i]?=some (some (b,N)):=λb ⟨N,ap⟩=>by
  obtain⟨j,a⟩:=Su ap;rw[Yh] at a;cases P:ρ[j]? with
  | none=>rw[P] at a;cases a
  | some i=>
   rw[P] at a;simp only[Option.map_some,Qx] at a;have hi:=aa i (Zf P);rw[XJ,ε hi] at a;exact⟨j,i,N,P,by rw[ε hi];simpa using a⟩
 have aF:∀(j i:Nat),ρ[j]?=some i->∃r,σ[i]?=some r/\r.live/\V4 r:=λj i a=>by
  have n:j<I.length:=by rw[<-ai];exact(Zu.1 a).1
  have f:=ε n
  have aq:=aL _ (Zf f);refine⟨_,by rw[aj j i a];exact f,?_,aq⟩;cases P:I[j]<;>rw[P] at aq<;>first|trivial|exact aq.elim
 have ad:∀(id:Nat) (r:Row) (b N:Nat),id∉ρ->σ[id]?=some r->r.live->B[id]?=some (some (b,N))->¬Z8.has (ρ.map λi=>B.getD i none) b/\¬H.fresh b/\UP H H' b:=λid r b N g f y l=>by
  have Q:¬Z8.has (ρ.map λi=>B.getD i none) b:=λar=>by
   obtain⟨j,i,ae,J,p⟩:=ab b ar;obtain⟨r',k,c,_⟩:=aF j i J;exact s.inj id i r r' b N ae (λe=>g (e▸Zf J)) f k y c l p
  have R:=s.SQ f y l;exact⟨Q,R,(C.Xp b Q R).RG λo=>s.sep id r b N f y l o⟩
 refine⟨⟨V.YL,aD,λi r bo f T=>?_,λi j A E b K O aG hi a af ag L M=>?_,λi r b N f y l o=>?_⟩,⟨C.YL,λb l aQ=>?_,λb l=>?_,λb o v hv=>?_,C.grow⟩,aE,⟨λj i a=>?_,λj i a=>?_⟩⟩
 .rcases W i r f with⟨k,c,u,F⟩|⟨j,k,c,_,_⟩
  .by_cases y:r.live
   .rw[F] at T;refine(s.row i r bo u T).later aE (λb N e=>(ad i r b N c u y (by rw[T,e])).2.2) λY left aZ e=>?_;subst e;obtain⟨_,_,a0,a1,xs,a2,seen,_,a3,⟨es,Φ⟩,_⟩:=s.row i _ bo u T;have au:Y∉ρ:=λaR=>by
     obtain⟨j,a⟩:=Su aR;obtain⟨r',aH,_,aS⟩:=aF j Y a;rw[Φ] at aH;cases aH;exact aS
    have aI:=(Zu.1 Φ).1;exact⟨an Y aI au,ao Y aI au,λb N l=>(ad Y _ b N au Φ trivial l).2.2⟩
   .cases r<;>first|exact absurd trivial y|trivial
  .rw[c] at T;exact(V.row j r bo k T).yE (B':=m) (σ':=t) (aM r (Zf k)) _ _
 .have aJ:∀(i:Nat) (A:Row) (K:Nat) (D:Nat) (E:Row) (O:Nat),i∉ρ->σ[i]?=some A->A.live->B[i]?=some (some (b,K))->σ0[D]?=some E->E.live->d[D]?=some (some (b,O))->False:=λi A K D E O J p aT aU a4 a5 aV=>by
   obtain⟨Q,R,_⟩:=ad i A b K J p aT aU;rcases C.blocks b (Se aV) with h|h
   .exact Q h
   .exact R h
  rcases W i A hi with⟨k,c,u,F⟩|⟨aK,k,c,u,F⟩<;>rcases W j E a with⟨av,ah,aw,Z⟩|⟨ax,av,ah,aw,Z⟩
  .rw[F] at L;rw[Z] at M;exact s.inj i j A E b K O aG u aw af ag L M
  .rw[F] at L;rw[ah] at M;exact aJ i A K ax E O c u af L av ag M
  .rw[c] at L;rw[Z] at M;exact aJ j E O aK A K ah aw ag M k af L
  .rw[c] at L;rw[ah] at M;refine V.inj aK ax A E b K O (λe=>aG ?_) k av af ag L M;exact u j ax Z.1 Z.2 e
 .rcases W i r f with⟨k,c,u,F⟩|⟨j,k,c,_,_⟩
  .rw[F] at l;obtain⟨Q,R,_⟩:=ad i r b N c u y l;cases hv:YA b o with
   | none=>rfl
   | some v=>
    rcases C.Q4 b o v hv with h|h|h
    .rw[s.sep i r b N u y l o] at h;cases h
    .exact absurd h Q
    .exact absurd h R
  .rw[c] at l;exact V.sep j r b N k y l o
 .refine C.Xp b (λar=>l ?_) aQ;obtain⟨j,i,ae,_,p⟩:=ab b ar;exact Se p
 .obtain⟨N,ap⟩:=l;obtain⟨i,hi⟩:=Su ap;have aW:i<t.length:=by rw[<-aD];exact(Zu.1 hi).1
  rcases W i _ (ε aW) with⟨k,c,u,F⟩|⟨j,k,c,_,_⟩
  .rw[F] at hi;exact .inl (Se hi)
  .rw[c] at hi;rcases C.blocks b (Se hi) with h|h
   .obtain⟨j,w,ae,_,p⟩:=ab b h;exact .inl (Se p)
   .exact .inr h
 .rcases C.Q4 b o v hv with h|h|h
  .exact .inl h
  .obtain⟨j,w,ae,_,p⟩:=ab b h;exact .inr (.inl (Se p))
  .exact .inr (.inr h)
 .by_cases n:j<ρ.length
  .rw[Y0 n] at a;exact al j i a
  .rw[Xw U,Yh] at a;have ay:j-ρ.length<σ0.length-ρ.length:=by
    apply Ts;intro g;rw[S0 (by simp;omega)] at a;cases a
   rw[ε (by simpa using ay)] at a;simp at a;subst a;rw[aB];congr 1;omega
 .by_cases n:j<ρ.length
  .rw[Y0 n] at a;exact am j i a
  .rw[Xw U,Yh] at a;have ay:j-ρ.length<σ0.length-ρ.length:=by
    apply Ts;intro g;rw[S0 (by simp;omega)] at a;cases a
   rw[ε (by simpa using ay)] at a;simp at a;subst a;rw[aC];congr 1;omega
def names (ρ:List Nat) (n:Nat) (σ0:Ρ):List Nat:=ρ++(List.range (σ0.length-ρ.length)).map (n + ·)
def P6 (σ:Ρ) (ρ:List Nat) (σ0:Ρ):Ρ:=VM σ ρ σ0++σ0.drop ρ.length
theorem Μ.EA {g:FuncId} {as0:ξ} {k:Ρ} {K:I->Ρ->Prop} {E:I->Ρ->Prop} (h:Μ P g as0 k K E) (ρ:List Nat) (y:ρ.Nodup) (p:ρ.length=k.length) (t:∀(j i:Nat),ρ[j]?=some i->σ[i]?=k[j]?) (A:∀r∈k,V4 r)
  (has:∀a∈as0,Xh ρ.length a) {K':I->Ρ->Prop} {E':I->Ρ->Prop} (aa:∀a s,K a s->(∀r∈s,LQ r)/\Xh s.length a/\K' (Yk (names ρ σ.length s) a) (P6 σ ρ s))
  (ab:∀a s,E a s->(∀r∈s,LQ r)/\Xh s.length a/\E' (Yk (names ρ σ.length s) a) (P6 σ ρ s)):Μ P g (as0.map (Yk ρ)) σ K' E':=by
 refine⟨h.1,λad mn x c rest S B H vs ae l hv W=>?_⟩;have af:∀(j i:Nat),ρ[j]?=some i->i<σ.length:=λj i d=>by
  have C:j<k.length:=by rw[<-p];exact(Zu.1 d).1
  have:=t j i d;rw[ε C] at this;exact(Zu.1 this).1
 have X:∀(j i:Nat),ρ[j]?=some i->(ρ.map λi=>B.getD i none)[j]?=B[i]?:=λj i d=>by
  have hi:i<B.length:=by rw[l.len];exact af j i d
  rw[Yh,d];simp[hi]
 have ag:Names ρ (ρ.map λi=>B.getD i none) k B σ:=⟨t,λj i d=>(X j i d).symm⟩
 have pick:∀(j:Nat) (r:Row) (bo:Option (Nat×Nat)),k[j]?=some r->(ρ.map λi=>B.getD i none)[j]?=some bo->∃i,ρ[j]?=some i/\σ[i]?=some r/\B[i]?=some bo:=λj r bo f D=>by
  have C:j<ρ.length:=by rw[p];exact(Zu.1 f).1
  have d:=ε C;exact⟨_,d,by rw[t j _ d];exact f,by rw[<-X j _ d];exact D⟩
 have ah:Holds S (ρ.map λi=>B.getD i none) k H:=by
  refine⟨l.YL,by simp[p],λj r bo f D=>?_,λi j Y Z b ai aj ak hi d al am an ao=>?_,λj r b N f ap aq o=>?_⟩
  .obtain⟨i,m,n,u⟩:=pick j r bo f D;exact(l.row i r bo n u).plain (B':=B) (σ':=σ) (A r (Zf f)) _ _
  .obtain⟨ar,m,n,u⟩:=pick i Y _ hi an;obtain⟨au,av,aw,ax⟩:=pick j Z _ d ao;refine l.inj ar au Y Z b ai aj (λe=>ak ?_) n aw al am u ax;subst e;have ay:=(Zu.1 m).1;exact(List.getElem?_inj ay y).1 (m.trans av.symm)
  .obtain⟨i,m,n,u⟩:=pick j r _ f aq;exact l.sep i r b N n ap u o
 refine h.2 ad mn x c rest S _ H vs ae ah ⟨by have:=hv.1;simpa using this,λi a v m n=>(HE ag (has a (Zf m))).1 (hv.2 i _ v (by rw[Yh,m];rfl) n)⟩ ⟨λa σ' YA B' H' v F J w L f=>?_,λa σ' YA B' H' v F J w L f=>?_⟩
 .obtain⟨M,O,Q⟩:=aa a σ' F;obtain⟨R,T,U,V⟩:=l.EB y p t A J w L M;refine W.ret _ _ YA _ H' v Q T U R ((HE V ?_).2 f);have:(ρ++(List.range (σ'.length-ρ.length)).map (σ.length + ·)).length=σ'.length:=by
   have:=w.length;simp;omega
  rw[this];exact O
 .obtain⟨M,O,Q⟩:=ab a σ' F;obtain⟨R,T,U,V⟩:=l.EB y p t A J w L M;refine W.Np _ _ YA _ H' v Q T U R ((HE V ?_).2 f);have:(ρ++(List.range (σ'.length-ρ.length)).map (σ.length + ·)).length=σ'.length:=by
   have:=w.length;simp;omega
  rw[this];exact O
theorem Μ.rows {g:FuncId} {as0:ξ} {b:Ρ} {K:I->Ρ->Prop} {E:I->Ρ->Prop} (h:Μ P g as0 b K E) (ρ:List Nat) (d:ρ.Nodup) (e:ρ.length=b.length) (f:∀(j i:Nat),ρ[j]?=some i->σ[i]?=b[j]?) (k:∀r∈b,V4 r)
  (has:∀a∈as0,Xh ρ.length a) {K':I->Ρ->Prop} {E':I->Ρ->Prop} (l:∀a s,K a s->(∀r∈s,V4 r)/\Xh s.length a/\K' (Yk (names ρ σ.length s) a) (P6 σ ρ s))
  (m:∀a s,E a s->(∀r∈s,V4 r)/\Xh s.length a/\E' (Yk (names ρ σ.length s) a) (P6 σ ρ s)):Μ P g (as0.map (Yk ρ)) σ K' E':=
 h.EA ρ d e f k has (λa s x=>let ⟨p,q⟩:=l a s x;⟨λr c=>.inl (p r c),q⟩) (λa s x=>let ⟨p,q⟩:=m a s x;⟨λr c=>.inl (p r c),q⟩)
end
def Zi (a b:I):Prop:=∀(S:ο) (B:Z8) (σ:Ρ) (v:Value),ς S B σ a v->ς S B σ b v
def ZT (l m:ξ):Prop:=l.length=m.length/\∀(i:Nat) (a b:I),l[i]?=some a->m[i]?=some b->Zi a b
theorem Zi.refl (a:I):Zi a a:=λ_ _ _ _ h=>h
theorem Zi.of {a b:I} (h:a=b):Zi a b:=h▸.refl a
theorem Zi.trans {a b c:I} (h:Zi a b) (k:Zi b c):Zi a c:=λS B σ v x=>k S B σ v (h S B σ v x)
theorem Zi.Zk (a:I):Zi a .Zk:=λ_ _ _ v _=>.Zk v
theorem ZT.refl (l:ξ):ZT l l:=⟨rfl,λi a b h k=>by rw[h] at k;cases k;exact .refl a⟩
theorem ZT.nil:ZT [] []:=.refl []
theorem ZT.cons {a b:I} {l m:ξ} (h:Zi a b) (k:ZT l m):ZT (a::l) (b::m):=⟨by simp[k.1],λi x y c d=>by
 cases i with
 | zero=>simp at c d;subst c;subst d;exact h
 | succ i=>exact k.2 i x y (by simpa using c) (by simpa using d)⟩
theorem Zi.Z' {l m:ξ} (h:ZT l m):Zi (.Z' l) (.Z' m):=λS B σ v x=>by
 cases x with
 | Z' vs c d=>
  refine .Z' vs (h.1.symm.trans c) λi b v hi hv=>?_;have e:i<l.length:=by rw[h.1];exact(Zu.1 hi).1
  have a:=ε e;exact h.2 i _ b a hi S B σ v (d i _ v a hv)
theorem Zi.ZV {l m:ξ} (h:ZT l m):Zi (.ZV l) (.ZV m):=λS B σ v x=>by
 cases x with
 | ZV vs c d=>
  refine .ZV vs (h.1.symm.trans c) λi b v hi hv=>?_;have e:i<l.length:=by rw[h.1];exact(Zu.1 hi).1
  have a:=ε e;exact h.2 i _ b a hi S B σ v (d i _ v a hv)
theorem Zi.sl {e:Bool} {k:Nat} {l m:ξ} (p:l.length=m.length) (h:∀(i:Nat) (a b:I),l[i]?=some a->m[i]?=some b->ZT a.cells b.cells):Zi (.sl e k l) (.sl false k m):=λS B σ v x=>by
 have r:∀(i:Nat) (b:I),m[i]?=some b->∃a,l[i]?=some a/\ZT a.cells b.cells:=λi b hi=>by
  have d:i<l.length:=by rw[p];exact(Zu.1 hi).1
  exact⟨_,ε d,h i _ b (ε d) hi⟩
 cases x with
 | Wj base cap s=>
  have:m=[]:=YP.1 p.symm;subst this;exact .Wj base cap λx=>by cases x
 | sl b o cap w C D t u A=>
  rw[p];refine .sl b o cap w (λx=>by cases x) U (λi y hi=>?_) (λi y hi j c n=>?_) (λi y hi j c n=>?_)
  .obtain⟨a,g,f⟩:=r i y hi;rw[<-f.1];exact t i a g
  .obtain⟨a,g,f⟩:=r i y hi;have d:j<a.cells.length:=by rw[f.1];exact(Zu.1 n).1
   exact u i a g j _ (ε d)
  .obtain⟨a,g,f⟩:=r i y hi;have d:j<a.cells.length:=by rw[f.1];exact(Zu.1 n).1
   have s:=ε d;exact f.2 j _ c s n S B σ _ (A i a g j _ s)
theorem Zi.ex {e:Bool} {k:Nat} {l:ξ}:Zi (.sl e k l) (.sl false k l):=.sl rfl λi a b d c=>by rw[d] at c;cases c;exact .refl _
theorem Zi.nil {e:Bool} {k a:Nat}:Zi (.sl e k []) (.sl false a []):=λS B σ v x=>by
 have g:∀(l:ξ),l=[]->ς S B σ (.sl e k l) v->ς S B σ (.sl false a []) v:=λl c x=>by
  cases x with
  | Wj base cap d=>exact .Wj base cap λx=>by cases x
  | sl b o cap w f h i j m=>subst c;exact .Wj _ cap λx=>by cases x
 exact g [] rfl x
theorem Zi.map {m:Type} {f g:m->I} {e:Bool} {k:Nat} {l:List m} (h:∀x∈l,ZT (f x).cells (g x).cells):Zi (.sl e k (l.map f)) (.sl false k (l.map g)):=.sl J λi a b c d=>by
 rw[Yh] at c d;cases j:l[i]? with
 | none=>rw[j] at c;cases c
 | some x=>rw[j] at c d;cases c;cases d;exact h x (Zf j)
theorem ZT.one {a b:I} (h:Zi a b) (c:a.cells=[a]) (d:b.cells=[b]):ZT a.cells b.cells:=by rw[c,d];exact .cons h .nil
section
variable {P:Program} {σ:Ρ}
theorem XT.Nr {S:ο} {B:Z8} {l m:ξ} {vs:Array Value} (h:ZT l m) (k:XT S B σ l vs):XT S B σ m vs:=⟨h.1.symm.trans k.1,λi b v hi hv=>by
 have c:i<l.length:=by rw[h.1];exact(Zu.1 hi).1
 have a:=ε c;exact h.2 i _ b a hi S B σ v (k.2 i _ v a hv)⟩
theorem Μ.UD {g:FuncId} {args d:ξ} {K K' E:I->Ρ->Prop} (h:Μ P g args σ K E) (i:ZT d args) (j:∀a s,K a s->∃b,Zi a b/\K' b s):Μ P g d σ K' E:=
 ⟨h.1,λk mn x c rest S B H vs l m hv e=>h.2 k mn x c rest S B H vs l m (hv.Nr i) ⟨λa σ' f B' H' v n o p r t=>by
  obtain⟨b,u,w⟩:=j a σ' n;exact e.ret b σ' f B' H' v w o p r (u f B' σ' v t),e.Np⟩⟩
def Κ (P:Program) (g:FuncId) (args:ξ) (r:I):Prop:=Μ P g args [] (λa s=>Zi a r/\s=[]) (λ_ _=>False)
theorem Κ.ct {g:FuncId} {args b:ξ} {r:I} (h:Κ P g args r) (c:ZT b args):LW P g b r:=Μ.UD h c λa s ⟨d,e⟩=>⟨r,d,rfl,e⟩
theorem Κ.c {g:FuncId} {args b:ξ} {r:I} {K E:I->Ρ->Prop} (h:Κ P g args r) (d:ZT b args) (e:∀a∈b,ψ 0 a) (f:ψ 0 r) (i:K r σ):W5 P (.fn (.func g) [] []) b σ K E:=
 LW.call (first:=[]) (captured:=[]) (by simpa using h.ct d) (by simpa using e) f i
theorem Κ.p {g:FuncId} {args b:ξ} {r:I} (h:Κ P g args r) (d:ZT b args) (e:∀a∈b,ψ 0 a) (f:ψ 0 r):Xu P (.fn (.func g) [] []) b r:=λ_=>h.c d e f ⟨rfl,rfl⟩
theorem Κ.d {g:FuncId} {args:ξ} {r:I} {K E:I->Ρ->Prop} (h:Κ P g args r) (b:K r σ) (e:∀a∈args,ψ 0 a:=by simp) (f:ψ 0 r:=by simp):W5 P (.fn (.func g) [] []) args σ K E:=h.c (ZT.refl _) e f b
theorem Κ.q {g:FuncId} {args:ξ} {r:I} (h:Κ P g args r) (b:∀a∈args,ψ 0 a:=by simp) (c:ψ 0 r:=by simp):Xu P (.fn (.func g) [] []) args r:=h.p (ZT.refl _) b c
theorem Κ.cc {g:FuncId} {args b first captured:ξ} {r:I} {K E:I->Ρ->Prop} (h:Κ P g args r) (c:ZT (first++b++captured) args) (d:∀a∈first++b++captured,ψ 0 a) (e:ψ 0 r) (f:K r σ):W5 P (.fn (.func g) first captured) b σ K E:=
 LW.call (h.ct c) d e f
end
theorem Yz.own {h id n k:Nat} {σ:Ρ} {t:TypeId} {l:ξ} (i:h<=id) (m:σ[id]?=some (.cells t k l)) (d:l.length=n) (o:∀e∈l,∀a∈e.cells,ψ h a):Yz h σ (.ms id n 0 n) (.sl false k l):=by
 refine .ms i m d U d (λj e p b c=>?_) (λj e p b c x a r f g=>?_)
 .rw[Vl] at b;rw[b] at c;cases c;rfl
 .rw[Vl] at b;rw[b] at c;cases c;rw[f] at g;cases g;exact .low (o e (Zf b) a (Zf f))
def fill {a:Type} (f:a->I) (z:I) (l:List a) (i:Nat):ξ:=(l.take i).map f++List.replicate (l.length-i) z
theorem Ez {a:Type} (f:a->I) (z:I) (l:List a):fill f z l 0=List.replicate l.length z:=by simp[fill]
theorem Ey {a:Type} (f:a->I) (z:I) (l:List a) {i:Nat} (h:l.length<=i):fill f z l i=l.map f:=by simp[fill,VB h,Nat.sub_eq_zero_of_le h]
theorem Ex {a:Type} (f:a->I) (z:I) (l:List a) {i:Nat} (h:i<=l.length):(fill f z l i).length=l.length:=by simp[fill];omega
theorem yD {a:Type} (f:a->I) (z:I) (l:List a) {i:Nat} (h:i<l.length):(fill f z l i)[i]?=some z:=by
 unfold fill;rw[Xw (by simp;omega),MB];rw[if_pos (by simp;omega)]
theorem Ew {a:Type} (f:a->I) (z:I) (l:List a) {i:Nat} (h:i<l.length):(fill f z l i).set i (f l[i])=fill f z l (i+1):=by
 unfold fill;have b:l.length-i=(l.length-(i+1))+1:=U;have Φ:((l.take i).map f).length=i:=by simp;omega
 rw[b,List.replicate_succ,PF _ _ U,Φ,Py,List.set_cons_zero,Wx h,Yd,U6];rfl
end Go.TL
namespace Go.TL
open Go.Proofs.Tryz
open Go.Proofs
variable [ZN]
def HD (P:Program) (t:TypeId):Option (List (TypeDesc×Nat)):=
 if P.eqGuardType P.depth t=false then match P.underlying t with
  | some (.struct a)=>if P.stoodInHeld t=false/\a.toList.map (·.offset)=List.range a.toList.length/\(a.toList.all λf=>f.name != "_" && match P.underlying f.type with|some d=>VP d|none=>false)=true then some (a.toList.map λf=>((P.underlying f.type).getD .invalid,f.offset)) else none
  | some (.array n e)=>match P.underlying e,P.info? e with
   | some d,some f=>if VP d=true/\f.size=1 then some ((List.range n).map λi=>(d,i)) else none
   | _,_=>none
  | _=>none
 else none
theorem yC (P:Program) (t:TypeId):H0 P t (HD P t):=by
 unfold HD;split
 .rename_i g;split
  .rename_i h b;split
   .rename_i a;refine⟨g,by rw[Sq,Yp];exact a.2.1,.inl ⟨h,b,a.1,rfl,λf c=>?_⟩⟩;have:=Wv.1 a.2.2 f c;simp only[VT,bne_iff_ne,ne_eq] at this;refine⟨this.1,?_⟩;cases hd:P.underlying f.type with
    | none=>rw[hd] at this;simp at this
    | some d=>rw[hd] at this;exact⟨d,rfl,this.2⟩
   .trivial
  .rename_i n e b;split
   .rename_i d f hd c;split
    .rename_i a;exact⟨g,by rw[Sq,Yp,List.length_range];exact(MA λ_ _=>rfl).trans (List.map_id _),.inr ⟨n,e,d,f,b,hd,a.1,c,a.2,rfl⟩⟩
    .trivial
   .trivial
  .trivial
 .trivial
def ZR.of (P:Program):ZR:=λt=>match P.underlying t,P.info? t with
 | some d,some i=>match i.zero with|some z=>some ⟨i.size,d,z,i.bytes,HD P t⟩|none=>none
 | _,_=>none
theorem ZR.Jy (P:Program):Zz P (ZR.of P):=λt i h=>by
 unfold ZR.of at h;split at h
 .rename_i d f hd a;split at h
  .rename_i z b;cases h;exact⟨⟨hd,yC P t⟩,f,a,rfl,b,rfl⟩
  .cases h
 .cases h
noncomputable def ZW:ZR:=ZR.of prog
theorem Υ:Zz prog ZW:=ZR.Jy _
def Pl (b:List (Nat×Nat)) (a:Value) (c:I->Bool) (parts:List (Nat×I)):Zc:=
 match Q0 (λx=>(b[x]?).map λp=>(0,p.1,p.2)) (WG a).cells.length c [WG a] parts with
 | some [e]=>.ok (.Z' e.cells)
 | _=>.bad
def LP (es:Nat) (a:Value) (b:I->Bool) (parts:List (Nat×I)):Zc:=
 match Q0 (λx=>some (0,x*es,es)) (WG a).cells.length b [WG a] parts with
 | some [e]=>.ok (.Z' e.cells)
 | _=>.bad
theorem mixed:prog.follows .mixedOrders=true:=by kernel_rfl
section
variable {P:Program} {m nt:Nat} {k:List Item} {env:Δ} {σ:Ρ} {Z:XZ} {E:Yf}
theorem W.iter {ι:Type} {c:Code} (Inv:ι->Prop) (b:ι->Δ) (e:ι->Ρ) (f:ι->Nat) (d:ι) (g:Inv d) (j:σ=e d) (l:∀p∈b d,Z7 env p.1=p.2)
  (step:∀i,Inv i->(∀a,Inv a->f a<f i->W P m nt (.inLoop c::k) (b a) (e a) Z E)->W P m nt (.code c::.inLoop c::k) (b i) (e i) Z E):W P m nt (.code (.loop c)::k) env σ Z E:=by
 refine .loop (.forget (b d) l ?_);rw[j];have o:∀(n:Nat) (i:ι),f i<n->Inv i->W P m nt (.code c::.inLoop c::k) (b i) (e i) Z E:=by
  intro n
  induction n with
  | zero=>intro i h;omega
  | succ n r=>intro i hi s;exact step i s λa t u=>.inLoop (r a U t)
 exact o _ d (Qu _) g
end
section
variable {P:Program} {m nt:Nat} {k:List Item} {env:Δ} {σ:Ρ} {Z:XZ} {E:Yf}
theorem W.YN {c:Operand} {a e:Code} {v:Bool} (b:η env c=.z (.bool v)) (d:v=true->W P m nt (.code a::k) env σ Z E) (f:v=false->W P m nt (.code e::k) env σ Z E):W P m nt (.code (.cond c a e)::k) env σ Z E:=by
 refine .cond b ?_;cases v with
 | true=>exact d rfl
 | false=>exact f rfl
theorem Γ {c:Operand} {a e:Code} (b:η env c=.z (.bool true)) (h:W P m nt (.code a::k) env σ Z E):W P m nt (.code (.cond c a e)::k) env σ Z E:=.cond b h
theorem Η {c:Operand} {a e:Code} (b:η env c=.z (.bool false)) (h:W P m nt (.code e::k) env σ Z E):W P m nt (.code (.cond c a e)::k) env σ Z E:=.cond b h
theorem Μ.body {F:I->Ρ->Prop} {T:ZR} (d:Zz P T) {g:FuncId} {fn:Func} {b:Code} (e:P.funcs[g]?=some fn) (f:fn.body=some b) (i:(fn.name == "runtime.NumGoroutine")=false) {args:ξ} {K:I->Ρ->Prop} {c:List ResultVar} (j:fn.ntmps=nt) (k:σ.length=m) (l:fn.results.toList=c) (n:args.length<=nt)
  (h:W P m nt [.code b] (entry 0 args) σ (Ends T c K) (λa _ s=>F a s)):Μ P g args σ K F:=by
 subst j;subst k;subst l;exact .y4 d e f i n h
end
abbrev R (i:Int):I:=.z (.int .i64 i)
abbrev ZU (b:Bool):I:=.z (.bool b)
abbrev ζ {a:Type} (enc:a->I) (k:Nat) (l:List a):I:=.sl false k (l.map enc)
abbrev TV (b:ByteArray):I:=.z (.string b)
@[simp] theorem qz (x y:Int):(x==y)=decide (x=y):=by rw[OQ];simp
@[simp] theorem qy (a b:Nat):((a:Int)=(b:Int))↔a=b:=U
attribute [simp] y3 y2 JJ y1 y0 Y6 yZ Ul
attribute [congr] zc y' y9 or_congr yU yT
attribute [simp] idx ze zd zb za SK LZ yS yM yL yR yQ yP yO yN Om VN Wt Zc.or Zc.YC YX.holds XM W2 Zt Z7 η WG Me entry RB Qf Nq JU Qj NA Ns Nw Kh Nv Kf Kg Pl Q0 I.Qi I.YG I.Nt LP Q2 Wi.agg Kq SP Ko SO Km SN
 J5 J4 J7 J6 RD Ks Kr J3 Kk Qh J9 RE L9 L8 Ke Qe JP Pp L2 L1 JS JQ JR On JN JO Oo aeqv Vg TY Oq Wu SM SL HM J0 L3 JZ JY JX JV JW L7 Kc Kd I.cells SJ QX LY Ends Qc No
@[simp] theorem qx {k:IntKind}:UG (.int k)=false:=rfl
@[simp] theorem qw:UG .bool=false:=rfl
@[simp] theorem qv:UG .string=false:=rfl
@[simp] theorem qu {e:TypeId}:UG (.slice e)=false:=rfl
@[simp] theorem qt {a b:TypeId}:UG (.map a b)=false:=rfl
@[simp] theorem qs {a:TypeId}:UG (.pointer a)=false:=rfl
@[simp] theorem qq {n:Nat} {a:TypeId}:UG (.array n a)=true:=rfl
theorem yB {P:Nat->Prop} (n:Nat) (h:n<256) (a:∀m,m<256->P m):P n:=a n h
section
variable {m nt l:Nat} {a c:Code} {k:List Item} {env:Δ} {σ:Ρ} {Z:XZ} {E:Yf}
class Ni [ZN] (k:List Item) (a:outParam (List Item)):Prop where
 h:∀{P:Program} {m nt:Nat} {env:Δ} {σ:Ρ} {Z:XZ} {E:Yf},W P m nt a env σ Z E->W P m nt k env σ Z E
instance:Ni (.code (.seq a c)::k) (.code a::.code c::k):=⟨.seq⟩
instance:Ni (.code (.block l c)::k) (.code c::.inBlock l::k):=⟨.block⟩
instance:Ni (.inBlock l::k) k:=⟨.inBlock⟩
instance:Ni (.code .skip::k) k:=⟨.skip⟩
theorem Ξ {P:Program} {a:List Item} [Ni k a] (h:W P m nt a env σ Z E):W P m nt k env σ Z E:=Ni.h h
theorem W4 {P:Program} (h:W P m nt (.code a::.code c::k) env σ Z E):W P m nt (.code (.seq a c)::k) env σ Z E:=.seq h
theorem wb {P:Program} (h:W P m nt (.code c::.inBlock l::k) env σ Z E):W P m nt (.code (.block l c)::k) env σ Z E:=.block h
theorem WN {P:Program} (h:W P m nt k env σ Z E):W P m nt (.inBlock l::k) env σ Z E:=.inBlock h
theorem wd {P:Program} (h:W P m nt k env σ Z E):W P m nt (.code .skip::k) env σ Z E:=.skip h
theorem Y8 {id:Nat} {ops:Array Oper} (h:∀a:Δ->Ρ->Prop,(∀env σ,W prog m nt k env σ Z E->a env σ)->run prog ZW [] nt ops (idx ops.size []) env σ a E):W prog m nt (.code (.region id ops false)::k) env σ Z E:=Zj Υ h
end
theorem W.rt {P:Program} {T:ZR} {b:List ResultVar} {K:I->Ρ->Prop} {m nt:Nat} {k:List Item} {env:Δ} {σ:Ρ} {E:Yf} {a:I} {p:Prop} {s:Ρ} (h:p) (e:SJ T b env σ=some a:=by exact rfl) (c:K a σ=(p/\s=s):=by exact rfl):W P m nt (.code .ret::k) env σ (Ends T b K) E:=.ret ⟨a,e,c▸⟨h,rfl⟩⟩
end Go.TL
namespace Go.TL
open Go.Proofs.Tryz
open Go.Proofs
theorem Τ {a b:Prop} (x:a) (y:b):a/\b:=⟨x,y⟩
theorem Y1 {p q:Prop} (k:q) (h:q->p:=by intro k;(repeat (first|apply Ξ|apply W4|apply wb|apply WN|apply wd));exact k):p:=h k
theorem Χ {p q:Prop} (k:q) (h:q->p:=by intro k;(repeat (first|apply Ξ|apply W4|apply wb|apply WN|apply wd|(refine Y8 λb a=>?_;simp;(repeat (rw[Ν];simp));apply a)));exact k):p:=h k
theorem Ζ {p f:Prop} {q:f->Prop} (a:f) (k:q a) (h:∀a,q a->p:=by intro b k;(repeat (first|apply Ξ|apply W4|apply wb|apply WN|apply wd|(refine Y8 λd c=>?_;simp;(repeat (rw[Ν];simp[b]));apply c)));exact k):p:=h a k
theorem WE {p q:Prop} (k:q) (h:q->p:=by intro k;(repeat (first|apply Ξ|apply W4|apply wb|apply WN|apply wd|refine Γ rfl ?_|refine Η rfl ?_|(refine Y8 λb a=>?_;simp;(repeat (rw[Ν];simp));apply a)));exact k):p:=h k
theorem WC {p f:Prop} {q:f->Prop} (a:f) (k:q a) (h:∀a,q a->p:=by intro b k;(repeat (first|apply Ξ|apply W4|apply wb|apply WN|apply wd|refine Γ rfl ?_|refine Η rfl ?_|(refine Y8 λd c=>?_;simp;(repeat (rw[Ν];simp[b]));apply c)));exact k):p:=h a k
theorem Wr {p q:Prop} (k:q) (h:q->p:=by intro k;refine Y8 λb a=>?_;simp;(repeat (rw[Ν];simp));apply a;exact k):p:=h k
theorem P5 {p f:Prop} {q:f->Prop} (a:f) (k:q a) (h:∀a,q a->p:=by intro b k;refine Y8 λd c=>?_;simp;(repeat (rw[Ν];simp[b]));apply c;exact k):p:=h a k
theorem ZP {p:Prop} {H:(Δ->Ρ->Prop)->Prop} {q:∀K,H K->Prop} (k:∀K h,q K h) (h:(∀K h,q K h)->p:=by intro k;(repeat (first|apply Ξ|apply W4|apply wb|apply WN|apply wd));refine Y8 λa b=>?_;simp;(repeat (rw[Ν];simp));exact k a b):p:=h k
theorem XX {p f:Prop} {H:(Δ->Ρ->Prop)->Prop} {q:f->∀K,H K->Prop} (a:f) (k:∀K h,q a K h) (h:∀a,(∀K h,q a K h)->p:=by intro b k;(repeat (first|apply Ξ|apply W4|apply wb|apply WN|apply wd));refine Y8 λc d=>?_;simp;(repeat (rw[Ν];simp[b]));exact k c d):p:=h a k
theorem ZY {p q:Prop} (k:q) (h:q->p:=by intro k;simp;(repeat (rw[Ν];simp));exact k):p:=h k
theorem XF {p f:Prop} {q:f->Prop} (a:f) (k:q a) (h:∀a,q a->p:=by intro b k;simp[b];(repeat (rw[Ν];simp[b]));exact k):p:=h a k
theorem Vf {p q:Prop} (k:q) (h:q->p:=by intro k;simp;(repeat (rw[ZG];simp));(try rw[ZH]);exact k):p:=h k
theorem Ve {p f:Prop} {q:f->Prop} (a:f) (k:q a) (h:∀a,q a->p:=by intro b k;simp[b];(repeat (rw[ZG];simp[b]));(try rw[ZH]);exact k):p:=h a k
theorem YF {a b:Prop} (k:b) (h:a:=by exact Yt (by kernel_rfl)):a/\b:=⟨h,k⟩
theorem Pk {p q:Prop} (k:q) (h:q->p:=by intro k;refine W.draw (A:=[]) Υ mixed λb a=>?_;simp;(repeat (rw[ZG];simp));(try rw[ZH]);refine YF (a _ _ ?_);exact k):p:=h k
theorem W0 {p f:Prop} {q:f->Prop} (a:f) (k:q a) (h:∀a,q a->p:=by intro b k;refine W.draw (A:=[]) Υ mixed λd c=>?_;simp;(repeat (rw[ZG];simp[b]));(try rw[ZH]);refine YF (c _ _ ?_);exact k):p:=h a k
end Go.TL
namespace Go.TL
open Go.Proofs.Tryz
open Go.Proofs
variable [ZN]
@[simp] theorem t3:ZW 3=some ⟨1,.int .i64,.int .i64 0,8,none⟩:=by kernel_rfl
@[simp] theorem t4:ZW 4=some ⟨1,.bool,.bool false,1,none⟩:=by kernel_rfl
@[simp] theorem t5:ZW 5=some ⟨1,.int .u8,.int .u8 0,1,none⟩:=by kernel_rfl
@[simp] theorem t9:ZW 9=some ⟨1,.string,.string ⟨#[]⟩,16,none⟩:=by kernel_rfl
@[simp] theorem t21:ZW 21=some ⟨1,.int .i32,.int .i32 0,4,none⟩:=by kernel_rfl
@[simp] theorem t22:ZW 22=some ⟨1,.slice 77,.slice none 0 0,24,none⟩:=by kernel_rfl
@[simp] theorem qp:WO ZW 22=some (77,2,none):=by kernel_rfl
@[simp] theorem t23:ZW 23=some ⟨1,.slice 29,.slice none 0 0,24,none⟩:=by kernel_rfl
@[simp] theorem qo:WO ZW 23=some (29,1,none):=by kernel_rfl
@[simp] theorem t24:ZW 24=some ⟨1,.slice 60,.slice none 0 0,24,none⟩:=by kernel_rfl
@[simp] theorem qn:WO ZW 24=some (60,1,none):=by kernel_rfl
noncomputable def Ev:TypeDesc:=((ZW 26).getD ⟨0,.bool,.nilFunc,0,none⟩).ZD
@[simp] theorem t26:ZW 26=some ⟨3,Ev,.agg #[.slice none 0 0,.slice none 0 0,.slice none 0 0],72,none⟩:=by kernel_rfl
@[simp] theorem qm:UG Ev=true:=by kernel_rfl
@[simp] theorem ql:Xi ZW 26 0=some (0,22):=by kernel_rfl
@[simp] theorem qk:Xi ZW 26 1=some (1,23):=by kernel_rfl
@[simp] theorem qj:Xi ZW 26 2=some (2,24):=by kernel_rfl
@[simp] theorem qi (a:I->Bool) (b:List (Nat×I)):TZ ZW a 26 b=Pl [(0,1),(1,1),(2,1)] (.agg #[.slice none 0 0,.slice none 0 0,.slice none 0 0]) a b:=by kernel_rfl
noncomputable def HC:TypeDesc:=((ZW 28).getD ⟨0,.bool,.nilFunc,0,none⟩).ZD
@[simp] theorem t28:ZW 28=some ⟨3,HC,.agg #[.int .i64 0,.int .i64 0,.int .i64 0],24,some [(.int .i64,0),(.int .i64,1),(.int .i64,2)]⟩:=by kernel_rfl
@[simp] theorem qh:UG HC=true:=by kernel_rfl
@[simp] theorem qg:Xi ZW 28 0=some (0,3):=by kernel_rfl
@[simp] theorem qf:Xi ZW 28 1=some (1,3):=by kernel_rfl
@[simp] theorem qe:Xi ZW 28 2=some (2,3):=by kernel_rfl
@[simp] theorem qd (a:I->Bool) (b:List (Nat×I)):TZ ZW a 28 b=Pl [(0,1),(1,1),(2,1)] (.agg #[.int .i64 0,.int .i64 0,.int .i64 0]) a b:=by kernel_rfl
@[simp] theorem t29:ZW 29=some ⟨1,.slice 3,.slice none 0 0,24,none⟩:=by kernel_rfl
@[simp] theorem qc:WO ZW 29=some (3,1,none):=by kernel_rfl
@[simp] theorem t34:ZW 34=some ⟨1,.slice 26,.slice none 0 0,24,none⟩:=by kernel_rfl
@[simp] theorem qb:WO ZW 34=some (26,3,none):=by kernel_rfl
@[simp] theorem t38:ZW 38=some ⟨1,.int .i64,.int .i64 0,8,none⟩:=by kernel_rfl
@[simp] theorem t60:ZW 60=some ⟨1,.slice 28,.slice none 0 0,24,none⟩:=by kernel_rfl
@[simp] theorem qa:WO ZW 60=some (28,3,none):=by kernel_rfl
@[simp] theorem t65:ZW 65=some ⟨1,.slice 23,.slice none 0 0,24,none⟩:=by kernel_rfl
@[simp] theorem p':WO ZW 65=some (23,1,none):=by kernel_rfl
noncomputable def Eu:TypeDesc:=((ZW 72).getD ⟨0,.bool,.nilFunc,0,none⟩).ZD
@[simp] theorem t72:ZW 72=some ⟨1,Eu,.nilFunc,8,none⟩:=by kernel_rfl
@[simp] theorem p9:UG Eu=false:=by kernel_rfl
noncomputable def HB:TypeDesc:=((ZW 77).getD ⟨0,.bool,.nilFunc,0,none⟩).ZD
@[simp] theorem t77:ZW 77=some ⟨2,HB,.agg #[.string ⟨#[]⟩,.int .i64 0],24,some [(.string,0),(.int .i64,1)]⟩:=by kernel_rfl
@[simp] theorem p8:UG HB=true:=by kernel_rfl
@[simp] theorem p7:Xi ZW 77 0=some (0,9):=by kernel_rfl
@[simp] theorem p6:Xi ZW 77 1=some (1,3):=by kernel_rfl
@[simp] theorem p5 (a:I->Bool) (b:List (Nat×I)):TZ ZW a 77 b=Pl [(0,1),(1,1)] (.agg #[.string ⟨#[]⟩,.int .i64 0]) a b:=by kernel_rfl
@[simp] theorem t91:ZW 91=some ⟨1,.int .u64,.int .u64 0,8,none⟩:=by kernel_rfl
@[simp] theorem p1:Xi ZW 93 0=some (0,29):=by kernel_rfl
@[simp] theorem p0:Xi ZW 93 1=some (1,91):=by kernel_rfl
@[simp] theorem pZ (a:I->Bool) (b:List (Nat×I)):TZ ZW a 93 b=Pl [(0,1),(1,1)] (.agg #[.slice none 0 0,.int .u64 0]) a b:=by kernel_rfl
@[simp] theorem t95:ZW 95=some ⟨1,.int .u64,.int .u64 0,8,none⟩:=by kernel_rfl
noncomputable def Et:TypeDesc:=((ZW 98).getD ⟨0,.bool,.nilFunc,0,none⟩).ZD
@[simp] theorem t98:ZW 98=some ⟨3,Et,.agg #[.slice none 0 0,.slice none 0 0,.slice none 0 0],72,none⟩:=by kernel_rfl
@[simp] theorem pY:UG Et=true:=by kernel_rfl
@[simp] theorem pX:Xi ZW 98 0=some (0,26):=by kernel_rfl
@[simp] theorem pW (a:I->Bool) (b:List (Nat×I)):TZ ZW a 98 b=Pl [(0,3)] (.agg #[.slice none 0 0,.slice none 0 0,.slice none 0 0]) a b:=by kernel_rfl
@[simp] theorem t99:ZW 99=some ⟨1,.slice 110,.slice none 0 0,24,none⟩:=by kernel_rfl
@[simp] theorem pV:WO ZW 99=some (110,3,none):=by kernel_rfl
@[simp] theorem t102:ZW 102=some ⟨2,.array 2 3,.agg #[.int .i64 0,.int .i64 0],16,some [(.int .i64,0),(.int .i64,1)]⟩:=by kernel_rfl
@[simp] theorem pU:WO ZW 102=some (3,1,some 2):=by kernel_rfl
@[simp] theorem pT (a:I->Bool) (b:List (Nat×I)):TZ ZW a 102 b=LP 1 (.agg #[.int .i64 0,.int .i64 0]) a b:=by kernel_rfl
noncomputable def yA:TypeDesc:=((ZW 104).getD ⟨0,.bool,.nilFunc,0,none⟩).ZD
@[simp] theorem t104:ZW 104=some ⟨4,yA,.agg #[.int .i64 0,.int .i64 0,.int .i64 0,.bool false],32,none⟩:=by kernel_rfl
@[simp] theorem pS:Xi ZW 104 0=some (0,102):=by kernel_rfl
@[simp] theorem pR:Xi ZW 104 1=some (2,3):=by kernel_rfl
@[simp] theorem pQ:Xi ZW 104 2=some (3,4):=by kernel_rfl
@[simp] theorem t106:ZW 106=some ⟨1,.map 113 3,.map none,8,none⟩:=by kernel_rfl
@[simp] theorem t107:ZW 107=some ⟨2,.array 2 3,.agg #[.int .i64 0,.int .i64 0],16,some [(.int .i64,0),(.int .i64,1)]⟩:=by kernel_rfl
@[simp] theorem pP (a:I->Bool) (b:List (Nat×I)):TZ ZW a 107 b=LP 1 (.agg #[.int .i64 0,.int .i64 0]) a b:=by kernel_rfl
@[simp] theorem t108:ZW 108=some ⟨1,.slice 111,.slice none 0 0,24,none⟩:=by kernel_rfl
@[simp] theorem pO:WO ZW 108=some (111,1,none):=by kernel_rfl
noncomputable def HA:TypeDesc:=((ZW 110).getD ⟨0,.bool,.nilFunc,0,none⟩).ZD
@[simp] theorem t110:ZW 110=some ⟨3,HA,.agg #[.int .i64 0,.int .i64 0,.slice none 0 0],40,none⟩:=by kernel_rfl
@[simp] theorem pN:UG HA=true:=by kernel_rfl
@[simp] theorem pM:Xi ZW 110 0=some (0,107):=by kernel_rfl
@[simp] theorem pL:Xi ZW 110 1=some (2,108):=by kernel_rfl
@[simp] theorem pK (a:I->Bool) (b:List (Nat×I)):TZ ZW a 110 b=Pl [(0,2),(2,1)] (.agg #[.int .i64 0,.int .i64 0,.slice none 0 0]) a b:=by kernel_rfl
@[simp] theorem t111:ZW 111=some ⟨1,.slice 112,.slice none 0 0,24,none⟩:=by kernel_rfl
@[simp] theorem pJ:WO ZW 111=some (112,2,none):=by kernel_rfl
@[simp] theorem t112:ZW 112=some ⟨2,.array 2 3,.agg #[.int .i64 0,.int .i64 0],16,some [(.int .i64,0),(.int .i64,1)]⟩:=by kernel_rfl
@[simp] theorem pI:WO ZW 112=some (3,1,some 2):=by kernel_rfl
@[simp] theorem pH (a:I->Bool) (b:List (Nat×I)):TZ ZW a 112 b=LP 1 (.agg #[.int .i64 0,.int .i64 0]) a b:=by kernel_rfl
@[simp] theorem t113:ZW 113=some ⟨1,.int .i64,.int .i64 0,8,none⟩:=by kernel_rfl
@[simp] theorem t116:ZW 116=some ⟨1,.slice 147,.slice none 0 0,24,none⟩:=by kernel_rfl
@[simp] theorem pG:WO ZW 116=some (147,2,none):=by kernel_rfl
@[simp] theorem t132:ZW 132=some ⟨1,.slice 21,.slice none 0 0,24,none⟩:=by kernel_rfl
@[simp] theorem pF:WO ZW 132=some (21,1,none):=by kernel_rfl
@[simp] theorem t139:ZW 139=some ⟨3,.array 3 72,.agg #[.nilFunc,.nilFunc,.nilFunc],24,none⟩:=by kernel_rfl
@[simp] theorem pE (a:I->Bool) (b:List (Nat×I)):TZ ZW a 139 b=LP 1 (.agg #[.nilFunc,.nilFunc,.nilFunc]) a b:=by kernel_rfl
noncomputable def Hz:TypeDesc:=((ZW 147).getD ⟨0,.bool,.nilFunc,0,none⟩).ZD
@[simp] theorem t147:ZW 147=some ⟨2,Hz,.agg #[.slice none 0 0,.slice none 0 0],48,none⟩:=by kernel_rfl
@[simp] theorem pD:UG Hz=true:=by kernel_rfl
@[simp] theorem pC:Xi ZW 147 1=some (1,65):=by kernel_rfl
@[simp] theorem pB (a:I->Bool) (b:List (Nat×I)):TZ ZW a 147 b=Pl [(0,1),(1,1)] (.agg #[.slice none 0 0,.slice none 0 0]) a b:=by kernel_rfl
@[simp] theorem t156:ZW 156=some ⟨1,.map 157 3,.map none,8,none⟩:=by kernel_rfl
@[simp] theorem t157:ZW 157=some ⟨4,.array 4 113,.agg #[.int .i64 0,.int .i64 0,.int .i64 0,.int .i64 0],32,some [(.int .i64,0),(.int .i64,1),(.int .i64,2),(.int .i64,3)]⟩:=by kernel_rfl
@[simp] theorem pA:WO ZW 157=some (113,1,some 4):=by kernel_rfl
@[simp] theorem t169:ZW 169=some ⟨1,.int .u32,.int .u32 0,4,none⟩:=by kernel_rfl
@[simp] theorem pz:Xi ZW 171 0=some (0,21):=by kernel_rfl
@[simp] theorem py:Xi ZW 171 1=some (1,169):=by kernel_rfl
@[simp] theorem px:Xi ZW 173 1=some (0,171):=by kernel_rfl
@[simp] theorem pw:Xi ZW 177 2=some (0,91):=by kernel_rfl
@[simp] theorem pv:Xi ZW 179 1=some (0,177):=by kernel_rfl
@[simp] theorem pt:Xi ZW 179 2=some (1,169):=by kernel_rfl
@[simp] theorem t190:ZW 190=some ⟨1,.slice 9,.slice none 0 0,24,none⟩:=by kernel_rfl
@[simp] theorem ps:WO ZW 190=some (9,1,none):=by kernel_rfl
@[simp] theorem t204:ZW 204=some ⟨1,.map 112 4,.map none,8,none⟩:=by kernel_rfl
@[simp] theorem t248:ZW 248=some ⟨1,.int .u64,.int .u64 0,8,none⟩:=by kernel_rfl
@[simp] theorem pq:UO ZW 22 22=some (77,2,⟨2,HB,.agg #[.string ⟨#[]⟩,.int .i64 0],24,some [(.string,0),(.int .i64,1)]⟩):=by kernel_rfl
@[simp] theorem po:UO ZW 23 23=some (29,1,⟨1,.slice 3,.slice none 0 0,24,none⟩):=by kernel_rfl
@[simp] theorem pn:UO ZW 24 24=some (60,1,⟨1,.slice 28,.slice none 0 0,24,none⟩):=by kernel_rfl
@[simp] theorem pk:UO ZW 29 29=some (3,1,⟨1,.int .i64,.int .i64 0,8,none⟩):=by kernel_rfl
@[simp] theorem pj:UO ZW 60 60=some (28,3,⟨3,HC,.agg #[.int .i64 0,.int .i64 0,.int .i64 0],24,some [(.int .i64,0),(.int .i64,1),(.int .i64,2)]⟩):=by kernel_rfl
@[simp] theorem ph:UO ZW 65 65=some (23,1,⟨1,.slice 29,.slice none 0 0,24,none⟩):=by kernel_rfl
@[simp] theorem pg:UO ZW 99 99=some (110,3,⟨3,HA,.agg #[.int .i64 0,.int .i64 0,.slice none 0 0],40,none⟩):=by kernel_rfl
@[simp] theorem pf:UO ZW 108 108=some (111,1,⟨1,.slice 112,.slice none 0 0,24,none⟩):=by kernel_rfl
@[simp] theorem pe:UO ZW 111 111=some (112,2,⟨2,.array 2 3,.agg #[.int .i64 0,.int .i64 0],16,some [(.int .i64,0),(.int .i64,1)]⟩):=by kernel_rfl
@[simp] theorem pd:UO ZW 116 116=some (147,2,⟨2,Hz,.agg #[.slice none 0 0,.slice none 0 0],48,none⟩):=by kernel_rfl
@[simp] theorem pb:UO ZW 132 132=some (21,1,⟨1,.int .i32,.int .i32 0,4,none⟩):=by kernel_rfl
theorem P4:IntKind.i64.wrap 1=1:=Z0
theorem Oi:IntKind.i64.wrap 2=2:=Z0
theorem Yw {i n:Nat} (h:i<n) (a:n<2 ^ 62):IntKind.i64.wrap ((i:Int)+1)=((i+1:Nat):Int):=by
 rw[IntWalk.i64_in _ U];rfl
theorem yz (l:List Int) (n:Int) (g:l.length<2 ^ 62):Μ prog 112 [ζ R 1 l,R n] [] (λa σ=>a=ZU (l.contains n)/\σ=[]) (λ_ _=>False):=by
 refine Μ.body Υ func112 rfl rfl ntmps112 rfl rfl J ?_
 repeat apply Ξ
 refine Wr ?_
 repeat apply Ξ
 refine Wr ?_
 repeat apply Ξ
 refine W.iter (λi:Nat=>i<=l.length/\∀j,j<i->(h:j<l.length)->l[j]≠n) (λi=>[(0,ζ R 1 l),(1,R n),(5,R i)]) (λ_=>[]) (λi=>l.length-i) 0 ⟨Ε _,λj c=>U⟩ rfl J (λi hi k=>?_)
 repeat apply Ξ
 refine Wr ?_;refine W.YN rfl (λb=>?_) (λb=>?_)
 .have b:i<l.length:=by simpa using b
  repeat apply Ξ
  refine P5 b ?_;refine W.YN rfl (λd=>?_) (λd=>?_)
  .have f:l[i]=n:=by simpa using d
   repeat apply Ξ
   refine Wr ?_;refine W.ret ?_;simp;exact f▸Y2 _
  .have f:l[i]≠n:=by simpa using d
   repeat apply Ξ
   refine Wr ?_;refine W.forget _ ?_ (k (i+1) ⟨U,λj c h=>?_⟩ U)
   .simp[Yw b g]
   .by_cases e:j=i
    .subst e;exact f
    .exact hi.2 j U h
 .have b:i=l.length:=by simp at b;omega
  subst b;refine W.exit rfl ?_
  repeat apply Ξ
  refine Wr ?_;refine W.ret ?_;simp;intro h;obtain⟨j,c,e⟩:=To h;exact hi.2 j c c e
theorem Es {a:Type} (f:a->I) (z:I) (l:List a) {i:Nat} (h:i<l.length) (b:i<(fill f z l i).length):(fill f z l i)[i]=z:=by
 have:=yD f z l h;rw[ε b] at this;exact W3 this
theorem Er (a b:List Int) (g:a.length<2 ^ 62):Κ prog 30 [ζ R 1 a,ζ R 1 b] (ZU (a==b)):=by
 refine Μ.body Υ func30 rfl rfl ntmps30 rfl rfl J ?_;refine Χ ?_;refine W.iter (λp:Nat×Bool=>p.1<=a.length/\(p.2=true->a.length=b.length/\∀j,j<p.1->a[j]?=b[j]?)/\(p.2=false->a≠b)) (λp=>[(0,ζ R 1 a),(1,ζ R 1 b),(5,ZU p.2),(6,R p.1)]) (λ_=>[]) (λp=>a.length-p.1) (0,decide (a.length=b.length)) ⟨Ε _,J,by simp;exact λh e=>h (by rw[e])⟩ rfl J (λi hi k=>?_);rcases i with⟨i,_|_⟩
 .refine Χ ?_;refine Η rfl ?_;refine W.exit rfl ?_;refine Χ ?_;refine W.rt ?_;exact .of (by simp[hi.2.2 rfl])
 .refine Χ ?_;have l:=(hi.2.1 rfl).1;refine W.YN rfl (λc=>?_) (λc=>?_)
  .have c:i<a.length:=by simpa using c
   have f:i<b.length:=U;refine Χ ?_;refine W0 (Τ c f) ?_;refine Χ ?_;refine W.forget _ ?_ (k (i+1,decide (a[i]=b[i])) ⟨by simp;omega,λh=>⟨l,λj d=>?_⟩,λh e=>?_⟩ (by simp;omega))
   .simp[Yw c g]
   .by_cases e:j=i
    .subst e;rw[ε c,ε f];simpa using h
    .exact(hi.2.1 rfl).2 j (by simp at d;omega)
   .subst e;simp at h
  .have c:a.length<=i:=by simpa using c
   refine W.exit rfl ?_;refine Χ ?_;refine W.rt ?_;refine .of ?_;have:a=b:=RQ λj=>by
    by_cases d:j<i
    .exact(hi.2.1 rfl).2 j d
    .rw[S0 U,S0 U]
   simp[this]
theorem yy (l:List Int) (d:l.length<2 ^ 44):Κ prog 44 [ζ R 1 l] (ζ R 1 l):=by
 refine Μ.body Υ func44 rfl rfl ntmps44 rfl rfl J ?_
 repeat apply Ξ
 refine Wr ?_
 repeat apply Ξ
 refine Zj (A:=[7]) Υ λe b=>ZY ?_;refine⟨U,?_⟩;apply b;refine Χ ?_;refine W.iter (λi:Nat=>i<=l.length) (λi=>[(0,ζ R 1 l),(3,.ms 0 l.length 0 l.length),(4,R i)]) (λi=>[.cells 3 1 (fill R (R 0) l i)]) (λi=>l.length-i) 0 (Ε _) (by simp[Ez]) J (λi hi c=>?_);refine Χ ?_;refine W.YN rfl (λa=>?_) (λa=>?_)
 .have a:i<l.length:=by simpa using a
  refine Ζ (Τ a (Τ (Ex R (R 0) l hi) (Τ (Es R (R 0) l a) (Ew R (R 0) l a)))) ?_;refine W.forget _ ?_ (c (i+1) a U);simp[Yw a (show l.length<2 ^ 62 by omega)]
 .have a:l.length<=i:=by simpa using a
  refine W.exit rfl ?_;refine Χ ?_;refine W.cut 0 (Ε _) [(2,ζ R 1 l)] J J (by simp;rw[Ey _ _ _ a];exact .own (Ε _) rfl J J) ?_;refine W.rt ?_;exact .refl _
abbrev θ (l:List (List Int)):I:=ζ (ζ R 1) 1 l
theorem Ep (l:List (List Int)) (g:l.length<2 ^ 40) (c:∀x∈l,x.length<2 ^ 44):Κ prog 74 [θ l] (θ l):=by
 refine Μ.body Υ func74 rfl rfl ntmps74 rfl rfl J ?_
 repeat apply Ξ
 refine Wr ?_
 repeat apply Ξ
 refine Zj (A:=[7]) Υ λe b=>ZY ?_;refine⟨U,?_⟩;apply b;refine Χ ?_;refine W.iter (λi:Nat=>i<=l.length) (λi=>[(0,θ l),(3,.ms 0 l.length 0 l.length),(4,R i)]) (λi=>[.cells 29 1 (fill (ζ R 1) (.sl true 0 []) l i)]) (λi=>l.length-i) 0 (Ε _) (by simp[Ez]) J (λi hi f=>?_);refine Χ ?_;refine W.YN rfl (λa=>?_) (λa=>?_)
 .have a:i<l.length:=by simpa using a
  refine XX a λe b=>?_;refine Κ.d (yy _ (c _ (Y2 _))) (XF (Τ a (Τ (Ex (ζ R 1) (.sl true 0 []) l hi) (Τ (Es (ζ R 1) (.sl true 0 []) l a) (Ew (ζ R 1) (.sl true 0 []) l a)))) ?_);apply b;refine Χ ?_;refine W.forget _ ?_ (f (i+1) a U);simp[Yw a (show l.length<2 ^ 62 by omega)]
 .have a:l.length<=i:=by simpa using a
  refine W.exit rfl ?_;refine Χ ?_;refine W.cut 0 (Ε _) [(2,θ l)] J J (by simp;rw[Ey _ _ _ a];exact .own (Ε _) rfl J J) ?_;refine W.rt ?_;exact .refl _
theorem Hy (l:List Int) (n:Int) (k:l.length<2 ^ 62):Κ prog 71 [ζ R 1 l,R n] (R (if n∈l then(l.idxOf n:Nat) else -1)):=by
 refine Μ.body Υ func71 rfl rfl ntmps71 rfl rfl J ?_;refine Χ ?_;refine W.iter (λi:Nat=>i<=l.length/\∀j,j<i->(h:j<l.length)->l[j]≠n) (λi=>[(0,ζ R 1 l),(1,R n),(5,R i)]) (λ_=>[]) (λi=>l.length-i) 0 ⟨Ε _,λj d=>U⟩ rfl J (λi hi m=>?_)
 repeat apply Ξ
 by_cases a:i<l.length
 .refine Ζ a ?_;refine W.YN rfl (λf=>?_) (λf=>?_)
  .have b:l[i]≠n:=by simpa using f
   refine Χ ?_;refine W.forget _ ?_ (m (i+1) ⟨a,λj d h=>?_⟩ U)
   .simp[Yw a k]
   .by_cases e:j=i
    .subst e;exact b
    .exact hi.2 j U h
  .have b:l[i]=n:=by simpa using f
   refine W.exit rfl ?_;refine Χ ?_;have o:¬i=l.length:=U;refine Η (by simp[o]) ?_;refine Χ ?_;refine W.rt ?_;have c:n∈l:=b▸Y2 _;refine .of ?_;rw[if_pos c];have:l.idxOf n=i:=by
    have g:l.idxOf n<l.length:=List.idxOf_lt_length_of_mem c
    have r:l[l.idxOf n]=n:=List.getElem_idxOf g
    have t:¬l.idxOf n<i:=λh=>hi.2 _ h g r
    have u:¬i<l.idxOf n:=λh=>by
     have:=List.not_of_lt_findIdx (p:=(·==n)) (xs:=l) (i:=i) h;simp[b] at this
    omega
   rw[this];rfl
 .refine Ζ a ?_;refine Η rfl ?_;refine W.exit rfl ?_;refine Χ ?_;have s:i=l.length:=U;refine Γ (by simp[s]) ?_;refine Χ ?_;refine W.rt ?_;have c:n∉l:=λh=>by
   obtain⟨j,d,e⟩:=To h;exact hi.2 j U d e
  exact .of (by simp[c])
theorem Hx (a b:List (List Int)) (n:a.length<2 ^ 40) (g:∀x∈a,x.length<2 ^ 40):Κ prog 50 [θ a,θ b] (ZU (a==b)):=by
 refine Μ.body Υ func50 rfl rfl ntmps50 rfl rfl J ?_;refine Χ ?_;refine W.iter (λp:Nat×Bool=>p.1<=a.length/\(p.2=true->a.length=b.length/\∀j,j<p.1->a[j]?=b[j]?)/\(p.2=false->a≠b)) (λp=>[(0,θ a),(1,θ b),(5,ZU p.2),(6,R p.1)]) (λ_=>[]) (λp=>a.length-p.1) (0,decide (a.length=b.length)) ⟨Ε _,J,by simp;exact λh e=>h (by rw[e])⟩ rfl J (λi hi k=>?_);rcases i with⟨i,_|_⟩
 .refine Χ ?_;refine Η rfl ?_;refine W.exit rfl ?_;refine Χ ?_;refine W.rt ?_;exact .of (by simp[hi.2.2 rfl])
 .refine Χ ?_;have l:=(hi.2.1 rfl).1;refine W.YN rfl (λc=>?_) (λc=>?_)
  .have c:i<a.length:=by simpa using c
   have f:i<b.length:=U;refine Χ ?_;refine W.draw (A:=[]) Υ mixed λo m=>Ve (Τ c f) ?_;refine Ys (Κ.q (Er a[i] b[i] (by have:=g _ (Y2 c);omega))) (Vf ?_);refine YF (m _ _ ?_);refine Χ ?_;refine W.forget _ ?_ (k (i+1,a[i]==b[i]) ⟨by simp;omega,λh=>⟨l,λj d=>?_⟩,λh e=>?_⟩ (by simp;omega))
   .simp[Yw c (show a.length<2 ^ 62 by omega)]
   .by_cases e:j=i
    .subst e;rw[ε c,ε f];simpa using h
    .exact(hi.2.1 rfl).2 j (by simp at d;omega)
   .subst e;simp at h
  .have c:a.length<=i:=by simpa using c
   refine W.exit rfl ?_;refine Χ ?_;refine W.rt ?_;refine .of ?_;have:a=b:=RQ λj=>by
    by_cases d:j<i
    .exact(hi.2.1 rfl).2 j d
    .rw[S0 U,S0 U]
   simp[this]
structure VL where
 name:ByteArray
 YT:Int
deriving DecidableEq
structure ZF where
 Zs:Int
 seen:Int
 bare:Int
deriving DecidableEq
structure υ where
 Α:List VL
 Β:List (List Int)
 cells:List (List ZF)
deriving DecidableEq
abbrev X9 (g:VL):I:=.Z' [TV g.name,R g.YT]
abbrev Z2 (p:ZF):I:=.Z' [R p.Zs,R p.seen,R p.bare]
abbrev Z6 (l:List VL):I:=ζ X9 2 l
abbrev Xt (l:List ZF):I:=ζ Z2 3 l
abbrev XL (l:List (List ZF)):I:=ζ Xt 1 l
abbrev ZB (s:υ):I:=.Z' [Z6 s.Α,θ s.Β,XL s.cells]
abbrev Z9 (s:υ):I:=.ω [Z6 s.Α,θ s.Β,XL s.cells]
def υ.small (s:υ):Prop:=s.Α.length<2 ^ 30/\s.Β.length<2 ^ 30/\s.cells.length<2 ^ 30/\(∀x∈s.Β,x.length<2 ^ 30)/\∀x∈s.cells,x.length<2 ^ 30
def υ.SH (s:υ):Bool:=decide (20<s.Α.length)||decide (20<s.Β.length)||decide (20<s.cells.length)||s.Β.any (λx=>decide (20<x.length))||s.cells.any λx=>decide (20<x.length)
@[simp] theorem pa (x y:Int):(x != y) = !decide (x=y):=by rw[OQ];simp
section
variable {P:Program} {m nt:Nat} {k:List Item} {env:Δ} {σ σ':Ρ} {Z:XZ} {E:Yf}
theorem W.drop {h:Nat} (c:m<=h) (d:h<=σ.length) (e:∀(id:Nat) (r:Row),id<h->σ[id]?=some r->Yc h r) (f:σ.take h=σ') (env':Δ) (a:∀p∈env',Z7 env p.1=p.2/\ψ h p.2) (g:W P m nt k env' σ' Z E):W P m nt k env σ Z E:=
 W.cut h c env' d e (λp b=>by rw[(a p b).1];exact .low (a p b).2) (by rw[f];exact g)
theorem W.fix {id:Nat} {t:TypeId} {e:I} {kk:Nat} (i:m<=id) (f:σ[id]?=some (.cells t kk [e])) (j:∀a∈e.cells,ψ id a) (l:∀(g:Nat) (r:Row),g<id->σ[g]?=some r->Yc id r) (n:σ.take id=σ') (env':Δ)
  (o:∀p∈env',(Z7 env p.1=p.2/\ψ id p.2)\/(Z7 env p.1=.Ο id 1 0 0/\p.2=.ω e.cells)) (s:W P m nt k env' σ' Z E):W P m nt k env σ Z E:=
 W.cut id i env' (RP (Zu.1 f).1) l (λp u=>by
  rcases o p u with⟨b,c⟩|⟨b,c⟩
  .rw[b];exact .low c
  .rw[b,c];refine .Ο (Z1 _) f rfl (e:=e) rfl J λx a v d h=>?_;rw[Vl] at d;rw[d] at h;cases h;exact .low (j a (Zf d))) (by rw[n];exact s)
theorem W.to {env':Δ} (h:W P m nt k env' σ' Z E) (a:σ=σ') (b:∀p∈env',Z7 env p.1=p.2):W P m nt k env σ Z E:=a▸W.forget env' b h
end
abbrev WB (a b:Int):Int:=XY .i64 a b
abbrev UM (a b:Int):Int:=Q3 .i64 a b
abbrev Oh (a b:Int):Int:=U2 .i64 a b
section
variable {P:Program} {σ:Ρ}
theorem Xu.c {f:I} {args:ξ} {r:I} {K E:I->Ρ->Prop} (h:Xu P f args r) (b:K r σ):W5 P f args σ K E:=
 W5.mono (h σ) (λa s ⟨d,e⟩=>by subst d;subst e;exact b) (λ_ _ h=>h.elim)
end
def Vd (n:Int):Bool:=decide (0<=n)&&decide (n<=2)
theorem Sb (n:Int):Κ prog 93 [R n] (ZU (Vd n)):=by
 refine Μ.body Υ func93 rfl rfl ntmps93 rfl rfl J ?_;by_cases h:0<=n
 .refine Ζ h ?_;refine W.rt ?_;exact .of (by simp[Vd,h])
 .refine Ζ h ?_;refine W.rt ?_;exact .of (by simp[Vd,h])
def valid (n:Int):Bool:=decide (0<=n)&&decide (n<=63)
theorem Nh (n:Int):Κ prog 109 [R n] (ZU (valid n)):=by
 refine Μ.body Υ func109 rfl rfl ntmps109 rfl rfl J ?_;by_cases h:0<=n
 .refine Ζ h ?_;refine W.rt ?_;exact .of (by simp[valid,h])
 .refine Ζ h ?_;refine W.rt ?_;exact .of (by simp[valid,h])
theorem Eo (a b:Int):Κ prog 196 [R a,R b] (ZU (WB a b==0)):=by
 refine Μ.body Υ func196 rfl rfl ntmps196 rfl rfl J ?_;refine Χ ?_;refine W.rt ?_;exact .of J
theorem En (a b:Int):Κ prog 210 [R a,R b] (ZU (Oh a b==0)):=by
 refine Μ.body Υ func210 rfl rfl ntmps210 rfl rfl J ?_;refine Χ ?_;refine W.rt ?_;exact .of J
theorem Hw (b:Bool):Κ prog 127 [ZU b] (R (if b then 1 else 0)):=by
 refine Μ.body Υ func127 rfl rfl ntmps127 rfl rfl J ?_;cases b
 .refine Χ ?_;refine Η rfl ?_;refine Χ ?_;refine W.rt ?_;exact .refl _
 .refine Χ ?_;refine Γ rfl ?_;refine Χ ?_;refine W.rt ?_;exact .refl _
theorem Hv (n:Int):Κ prog 193 [R n] (ZU false):=by
 refine Μ.body Υ func193 rfl rfl ntmps193 rfl rfl J ?_;refine Χ ?_;refine W.rt ?_;exact .of J
def Jx (n:Int):Int:=UM (UM (Oh n 15) (IntKind.i64.wrap (WB n 5*2))) ((WB n 10).fdiv 2)
theorem yx (n:Int):Κ prog 99 [R n] (R (Jx n)):=by
 refine Μ.body Υ func99 rfl rfl ntmps99 rfl rfl J ?_;refine Χ ?_;refine W.rt ?_;exact .of (by simp[Jx,IntKind.bits])
def idxOf {a:Type} (p:a->Bool) (l:List a):Int:=if l.any p then(l.findIdx p:Nat) else -1
theorem LO {b:Type} {p:b->Bool} {l:List b} {i:Nat} (h:i<l.length) (c:p l[i]=true) (e:∀j,j<i->(g:j<l.length)->p l[j]=false):idxOf p l=(i:Nat):=by
 have f:l.any p=true:=PB.2 ⟨_,Y2 h,c⟩
 have:l.findIdx p=i:=by
  have k:¬l.findIdx p<i:=λa=>by
   have d:l.findIdx p<l.length:=U
   have:=List.findIdx_getElem (p:=p) (w:=d);rw[e _ a d] at this;cases this
  have m:¬i<l.findIdx p:=λa=>by
   have:=List.not_of_lt_findIdx a;rw[c] at this;simp at this
  omega
 unfold idxOf;rw[if_pos f,this]
theorem LN {a:Type} {p:a->Bool} {l:List a} (h:∀j,(b:j<l.length)->p l[j]=false):idxOf p l=-1:=by
 have:l.any p=false:=by
  rw[Qw];intro x c;obtain⟨j,b,rfl⟩:=To c;simp[h j b]
 unfold idxOf;rw[this];rfl
theorem LM {a:Type} {p:a->Bool} {l:List a}:decide (idxOf p l>=0)=l.any p:=by
 unfold idxOf;cases h:l.any p<;>simp
theorem yw (l:List Int) (n:Int) (f:l.length<2 ^ 62):Κ prog 137 [ζ R 1 l,R n] (R (idxOf (·==n) l)):=by
 refine Μ.body Υ func137 rfl rfl ntmps137 rfl rfl J ?_;refine Χ ?_;refine W.iter (λi:Nat=>i<=l.length/\∀j,j<i->(h:j<l.length)->(l[j]==n)=false) (λi=>[(0,ζ R 1 l),(1,R n),(6,ζ R 1 l),(7,R l.length),(8,R i)]) (λ_=>[]) (λi=>l.length-i) 0 ⟨Ε _,λj b=>U⟩ rfl J (λi hi g=>?_);refine Χ ?_;refine W.YN rfl (λa=>?_) (λa=>?_)
 .have a:i<l.length:=by simpa using a
  refine Ζ a ?_;refine W.YN rfl (λc=>?_) (λc=>?_)
  .have d:n=l[i]:=by simpa using c
   refine Χ ?_;refine W.rt ?_;exact .of (by rw[LO a (by simp[d]) hi.2];rfl)
  .have d:¬n=l[i]:=by simpa using c
   refine Χ ?_;refine W.forget _ ?_ (g (i+1) ⟨U,λj b h=>?_⟩ U)
   .simp[Yw a f]
   .by_cases e:j=i
    .subst e;simpa using λx=>d x.symm
    .exact hi.2 j U h
 .have a:l.length<=i:=by simpa using a
  refine W.exit rfl ?_;refine Χ ?_;refine W.rt ?_;exact .of (by rw[LN λj b=>hi.2 j U b];rfl)
theorem any_beq (l:List Int) (n:Int):(l.any λx=>x==n)=l.contains n:=by
 rw[OQ];simp
theorem Em (l:List Int) (n:Int) (a:l.length<2 ^ 62):Κ prog 110 [ζ R 1 l,R n] (ZU (l.contains n)):=by
 refine Μ.body Υ func110 rfl rfl ntmps110 rfl rfl J ?_;refine Χ ?_;refine ZP λc b=>?_;refine Κ.d (yw l n a) (ZY ?_);apply b;refine Χ ?_;refine W.rt ?_;exact .of (by rw[<-any_beq,<-LM];rfl)
@[simp high] theorem yv {h:Nat} {e:Bool} {k:Nat} {c:Type} {f:c->I} {l:List c}:ψ h (.sl e k (l.map f))↔∀x∈l,∀a∈(f x).cells,ψ h a:=by
 rw[Y6];simp only[Zd];exact⟨λH x b=>H _ ⟨x,b,rfl⟩,λH e ⟨x,b,d⟩=>d▸H x b⟩
@[simp high] theorem o9 {h:Nat} {e:Bool} {k n:Nat} {b:Type} {f:b->I} {l:List b}:ψ h (.sl e k ((l.map f).take n))↔∀x∈l.take n,∀a∈(f x).cells,ψ h a:=by
 rw[<-Mw];exact yv
abbrev Zh (r:Int×Int):I:=.Z' [R r.1,R r.2]
abbrev TU (l:List (Int×Int)):I:=ζ Zh 2 l
abbrev TT (l:List (List (Int×Int))):I:=ζ TU 1 l
structure Found where
 u:Int
 v:Int
 cells:List (List (Int×Int))
deriving DecidableEq
abbrev YK (f:Found):I:=.Z' [R f.u,R f.v,TT f.cells]
abbrev YW (l:List Found):I:=ζ YK 3 l
def υ.of (s:υ) (g:Int):Int:=if g<0 then 0 else((s.Α[g.toNat]?).map (·.YT)).getD 0
theorem Jy (s:υ) (g:Int) (c:g<s.Α.length):Κ prog 125 [ZB s,R g] (R (s.of g)):=by
 refine Μ.body Υ func125 rfl rfl ntmps125 rfl rfl J ?_;refine Χ ?_;refine W.YN rfl (λa=>?_) (λa=>?_)
 .have a:g<0:=by simpa using a
  refine Χ ?_;refine W.rt ?_;exact .of (by rw[show s.of g=0 by simp[υ.of,a]];rfl)
 .have a:¬g<0:=by simpa using a
  obtain⟨n,rfl⟩:∃n:Nat,g=n:=⟨g.toNat,U⟩;have b:n<s.Α.length:=U;refine Ζ b ?_;refine W.rt ?_;exact .of (by rw[show s.of n=s.Α[n].YT by simp[υ.of,b];intro h;omega];rfl)
def υ.X4 (s:υ) (p r:Int×Int) (b:Nat):Int:=
 let l:=(s.Β[b]?).getD []
 let a:=if l.contains p.1 then UM 0 (s.of r.1) else 0
 if l.contains p.2 then UM a (s.of r.2) else a
theorem LL (s:υ) (j:s.small) (p r:Int×Int) (n:Nat) (f:n<s.Β.length) (k:r.1<s.Α.length) (l:r.2<s.Α.length) :
  Κ prog 77 [ZB s,Zh p,Zh r,R n] (R (s.X4 p r n)):=by
 refine Μ.body Υ func77 rfl rfl ntmps77 rfl rfl J ?_;have h:s.Β[n].length<2 ^ 62:=by have:=j.2.2.2.1 _ (Y2 f);omega
 refine Χ ?_;refine W.iter (λq:Nat×Int=>q.1<=2/\(q.1=0->q.2=0)/\(q.1=1->q.2=if s.Β[n].contains p.1 then UM 0 (s.of r.1) else 0)/\(q.1=2->q.2=s.X4 p r n))
  (λq=>[(3,R n),(4,Z9 s),(5,.ω [R p.1,R p.2]),(6,.ω [R r.1,R r.2]),(9,R q.2),(12,Zh p),(13,R q.1)]) (λ_=>[]) (λq=>2-q.1) (0,0) ⟨U,J,J,J⟩ rfl J (λq hi a=>?_)
 rcases q with⟨i,x⟩
 match i,hi,a with
 | 0,hi,a=>
  have c:x=0:=hi.2.1 rfl;subst c;refine Χ ?_;refine Γ rfl ?_;refine Χ ?_;refine XX f λg e=>?_;refine Κ.d (Em s.Β[n] p.1 h) (ZY ?_);apply e;by_cases b:p.1∈s.Β[n]
  .refine Γ (by simp[b]) ?_;refine Χ ?_;refine W.draw (A:=[]) Υ mixed λg e=>Vf ?_;refine Ys (Κ.q (Jy s r.1 k)) (Vf ?_);refine YF (e _ _ ?_);refine Χ ?_;refine W.forget _ ?_ (a (1,UM 0 (s.of r.1)) ⟨J,J,by simp[b],J⟩ J);simp[P4]
  .refine Η (by simp[b]) ?_;refine Χ ?_;refine W.forget _ ?_ (a (1,0) ⟨J,J,by simp[b],J⟩ J);simp[P4]
 | 1,hi,a=>
  have c:=hi.2.2.1 rfl;simp at c;refine Χ ?_;refine Γ rfl ?_;refine Χ ?_;refine XX f λg e=>?_;refine Κ.d (Em s.Β[n] p.2 h) (ZY ?_);apply e;by_cases b:p.2∈s.Β[n]
  .refine Γ (by simp[b]) ?_;refine Χ ?_;refine W.draw (A:=[]) Υ mixed λg e=>Vf ?_;refine Ys (Κ.q (Jy s r.2 l)) (Vf ?_);refine YF (e _ _ ?_);refine Χ ?_;refine W.forget _ ?_ (a (2,UM x (s.of r.2)) ⟨J,J,J,λ_=>by simp only[υ.X4,ε f];simp[b,c]⟩ J);simp[Oi]
  .refine Η (by simp[b]) ?_;refine Χ ?_;refine W.forget _ ?_ (a (2,x) ⟨J,J,J,λ_=>by simp only[υ.X4,ε f];simp[b,c]⟩ J);simp[Oi]
 | 2,hi,a=>
  have c:=hi.2.2.2 rfl;refine Χ ?_;refine Η rfl ?_;refine W.exit rfl ?_;refine Χ ?_;refine W.rt ?_;exact .of (by rw[<-show x=s.X4 p r n from c];rfl)
 | i+3,hi,a=>exact absurd hi.1 J
def υ.V3 (s:υ) (p r:Int×Int) (x:ZF):Bool:=Oh x.seen (s.X4 p r x.Zs.toNat)==0&&WB (s.X4 p r x.Zs.toNat) x.bare==0
def υ.Sa (s:υ) (p r:Int×Int) (c:Nat):Bool:=((s.cells[c]?).getD []).all (s.V3 p r)
theorem yu (s:υ) (o:s.small) (p r:Int×Int) (c:Nat) (k:c<s.cells.length) (hv:∀x∈s.cells[c],0<=x.Zs/\x.Zs<s.Β.length) (v:r.1<s.Α.length) (w:r.2<s.Α.length) :
  Κ prog 172 [ZB s,Zh p,Zh r,R c] (ZU (s.Sa p r c)):=by
 refine Μ.body Υ func172 rfl rfl ntmps172 rfl rfl J ?_;have y:s.cells[c].length<2 ^ 62:=by have:=o.2.2.2.2 _ (Y2 k);omega
 have B:s.Sa p r c=s.cells[c].all (s.V3 p r):=by simp[υ.Sa,k]
 rw[B];refine Ζ k ?_;refine W.iter (λi:Nat=>i<=s.cells[c].length/\∀j,j<i->(h:j<s.cells[c].length)->s.V3 p r s.cells[c][j]=true)
  (λi=>[(4,Z9 s),(5,.ω [R p.1,R p.2]),(6,.ω [R r.1,R r.2]),(17,Xt s.cells[c]),(18,R s.cells[c].length),(19,R i)]) (λ_=>[]) (λi=>s.cells[c].length-i) 0 ⟨U,λj l=>U⟩ rfl J (λi hi C=>?_)
 refine Χ ?_;refine W.YN rfl (λa=>?_) (λa=>?_)
 .have a:i<s.cells[c].length:=by simpa using a
  have t:=hv _ (Y2 a);obtain⟨n,u⟩:∃n:Nat,s.cells[c][i].Zs=n:=⟨s.cells[c][i].Zs.toNat,U⟩;have D:n<s.Β.length:=U;have ZM:s.V3 p r s.cells[c][i]=(Oh s.cells[c][i].seen (s.X4 p r n)==0&&WB (s.X4 p r n) s.cells[c][i].bare==0):=by simp[υ.V3,u]
  repeat apply Ξ
  refine Zj (A:=[10]) Υ λm b=>XF a ?_;apply b
  repeat apply Ξ
  refine XX u λm b=>?_;refine Κ.d (LL s o p r n D v w) (ZY ?_);apply b
  repeat apply Ξ
  by_cases f:Oh s.cells[c][i].seen (s.X4 p r n)=0
  .refine XX @f λm b=>?_;refine Κ.d (En s.cells[c][i].seen (s.X4 p r n)) (XF @f ?_);refine Κ.d (Eo (s.X4 p r n) s.cells[c][i].bare) (ZY ?_);apply b;by_cases g:WB (s.X4 p r n) s.cells[c][i].bare=0
   .refine Η (by simp[g]) ?_;refine Χ ?_;refine W.drop (h:=0) (Ε _) (Ε _) J rfl _ ?_ (C (i+1) ⟨U,λj l h=>?_⟩ U)
    .simp[Yw a y]
    .by_cases e:j=i
     .subst e;rw[ZM];simp[f,g]
     .exact hi.2 j U h
   .refine Γ (by simp[g]) ?_;refine Χ ?_;refine W.drop (h:=0) (Ε _) (Ε _) J rfl [(8,ZU false)] J ?_;refine W.rt ?_;exact .of (by rw[show s.cells[c].all (s.V3 p r)=false from List.all_eq_false.2 ⟨_,Y2 a,by rw[ZM];simp[g]⟩];rfl)
  .refine XX @f λm b=>?_;refine Κ.d (En s.cells[c][i].seen (s.X4 p r n)) (XF @f ?_);apply b;refine Γ J ?_;refine Χ ?_;refine W.drop (h:=0) (Ε _) (Ε _) J rfl [(8,ZU false)] J ?_;refine W.rt ?_;exact .of (by rw[show s.cells[c].all (s.V3 p r)=false from List.all_eq_false.2 ⟨_,Y2 a,by rw[ZM];simp[f]⟩];rfl)
 .have a:s.cells[c].length<=i:=by simpa using a
  refine W.exit rfl ?_;refine Χ ?_;refine W.ret ⟨_,rfl,?_,rfl⟩;refine .of ?_;rw[show s.cells[c].all (s.V3 p r)=true from Wv.2 λx t=>by
   obtain⟨j,l,rfl⟩:=To t;exact hi.2 j U l]
  rfl
def VK (l:List (List (Int×Int))) (a:Int) (i:Nat):Nat:=((List.range i).map λj:Nat=>if(j:Int)=a then 1 else((l[j]?).getD []).length).prod
theorem Jw (l:List (List (Int×Int))) (a:Int) (i:Nat):VK l a (i+1)=VK l a i*(if(i:Int)=a then 1 else((l[i]?).getD []).length):=by
 unfold VK;rw[VA,Yd,List.prod_append];simp
def Found.many (f:Found) (a:Int):Nat:=VK f.cells a f.cells.length
theorem XW {n:Nat} (h:n<2 ^ 62):IntKind.i64.wrap (n:Int)=n:=IntWalk.i64_in _ U
theorem Jv (f:Found) (b:Int) (d:f.cells.length<2 ^ 62) (j:∀i,i<=f.cells.length->VK f.cells b i<2 ^ 62) :
  Κ prog 78 [YK f,R b] (R (f.many b)):=by
 refine Μ.body Υ func78 rfl rfl ntmps78 rfl rfl J ?_;refine Χ ?_;refine W.iter (λi:Nat=>i<=f.cells.length) (λi=>[(1,R b),(5,R (VK f.cells b i)),(9,TT f.cells),(10,R f.cells.length),(11,R i)]) (λ_=>[]) (λi=>f.cells.length-i) 0 (Ε _) rfl (by simp[VK]) (λi hi e=>?_);refine Χ ?_;refine W.YN rfl (λa=>?_) (λa=>?_)
 .have a:i<f.cells.length:=by simpa using a
  have c:=Jw f.cells b i
  have h:=j (i+1) a;refine Ζ a ?_;by_cases g:(i:Int)=b
  .refine Η (by simp[g]) ?_;refine Χ ?_;refine W.forget _ ?_ (e (i+1) a U);rw[c,if_pos g];simp[Yw a d]
  .refine Γ (by simp[g]) ?_;have hv:VK f.cells b i*f.cells[i].length<2 ^ 62:=by rw[c,if_neg g] at h;simpa[a] using h
   refine Ζ a ?_;refine W.forget _ ?_ (e (i+1) a U);rw[c,if_neg g];simp only[ε a,Option.getD_some];have:=XW hv;simp[Yw a d] at this ⊢;simp[this]
 .have a:i=f.cells.length:=by simp at a;omega
  subst a;refine W.exit rfl ?_;refine Χ ?_;refine W.rt ?_;exact .of rfl
def R' (a b:Int):Int:=if a<b then -1 else if b<a then 1 else 0
theorem yt (a b:Int):Κ prog 151 [R a,R b] (R (R' a b)):=by
 refine Μ.body Υ func151 rfl rfl ntmps151 rfl rfl J ?_;refine Χ ?_;refine ZP λg f=>?_;refine Κ.d (Hv a) (ZY ?_);apply f;refine ZP λg f=>?_;refine Κ.d (Hv b) (ZY ?_);apply f;refine Χ ?_;refine Η rfl ?_;refine Χ ?_;refine Η rfl ?_;refine Χ ?_;refine W.YN rfl (λc=>?_) (λc=>?_)
 .have c:a<b:=by simpa using c
  refine Χ ?_;refine W.rt ?_;exact .of (by rw[show R' a b=-1 by simp[R',c]];rfl)
 .have c:¬a<b:=by simpa using c
  refine Χ ?_;refine W.YN rfl (λe=>?_) (λe=>?_)
  .have e:b<a:=by simpa using e
   refine Χ ?_;refine W.rt ?_;exact .of (by rw[show R' a b=1 by simp[R',c,e]];rfl)
  .have e:¬b<a:=by simpa using e
   refine Χ ?_;refine W.rt ?_;exact .of (by rw[show R' a b=0 by simp[R',c,e]];rfl)
theorem ys (a b:Int):Κ prog 203 [R a,R b] (ZU (decide (a<b))):=by
 refine Μ.body Υ func203 rfl rfl ntmps203 rfl rfl J ?_;refine Χ ?_;refine ZP λe c=>?_;refine Κ.d (Hv a) (ZY ?_);apply c;refine Χ ?_;refine W.rt ?_;exact .of (by rw[show decide (a<b)=decide (a<b) from rfl];rfl)
def R9:List Int->List Int->Int
 | [],[]=>0
 | [],_::_=>-1
 | _::_,[]=>1
 | a::l,b::m=>if R' a b≠0 then R' a b else R9 l m
theorem El (a b:List Int) (k:a.length<2 ^ 62):Κ prog 118 [ζ R 1 a,ζ R 1 b] (R (R9 a b)):=by
 refine Μ.body Υ func118 rfl rfl ntmps118 rfl rfl J ?_;refine Χ ?_;refine W.iter (λi:Nat=>i<=a.length/\i<=b.length/\R9 a b=R9 (a.drop i) (b.drop i)) (λi=>[(0,ζ R 1 a),(1,ζ R 1 b),(9,ζ R 1 a),(10,R a.length),(11,R i)]) (λ_=>[]) (λi=>a.length-i) 0 ⟨U,U,J⟩ rfl J (λi hi l=>?_);obtain⟨n,o,j⟩:=hi;refine Χ ?_;refine W.YN rfl (λc=>?_) (λc=>?_)
 .have c:i<a.length:=by simpa using c
  have h:a.drop i=a[i]::a.drop (i+1):=PH c;refine Ζ c ?_;refine W.YN rfl (λe=>?_) (λe=>?_)
  .have e:b.length<=i:=by simp at e;omega
   refine Χ ?_;have f:b.drop i=[]:=NU e;refine W.rt ?_;exact .of (by rw[show R9 a b=1 by rw[j,h,f];rfl];rfl)
  .have e:i<b.length:=by simp at e;omega
   have f:b.drop i=b[i]::b.drop (i+1):=PH e
   repeat apply Ξ
   refine P5 e ?_;refine ZP λp m=>?_;refine Κ.d (yt a[i] b[i]) (ZY ?_);apply m;refine Χ ?_;by_cases g:R' a[i] b[i]=0
   .refine Η (by simp[g]) ?_;refine Χ ?_;refine W.forget _ ?_ (l (i+1) ⟨c,e,?_⟩ U)
    .simp[Yw c k]
    .rw[j,h,f,R9,if_neg (by simpa using g)]
   .refine Γ (by simp[g]) ?_;refine Χ ?_;refine W.rt ?_;exact .of (by rw[show R9 a b=R' a[i] b[i] by rw[j,h,f,R9,if_pos g]];rfl)
 .have c:i=a.length:=by simp at c;omega
  have h:a.drop i=[]:=NU U;refine W.exit rfl ?_;refine Χ ?_;by_cases g:a.length<b.length
  .refine Γ (by simp[g]) ?_;refine Χ ?_;have f:b.drop i=b[i]::b.drop (i+1):=PH U;refine W.rt ?_;exact .of (by rw[show R9 a b=-1 by rw[j,h,f];rfl];rfl)
  .refine Η (by simp[g]) ?_;refine Χ ?_;have f:b.drop i=[]:=NU U;refine W.rt ?_;exact .of (by rw[show R9 a b=0 by rw[j,h,f];rfl];rfl)
def Tb (x y:Int×Int):Int:=R9 [x.1,x.2] [y.1,y.2]
theorem Ek (x y:Int×Int):Κ prog 174 [Zh x,Zh y] (R (Tb x y)):=by
 refine Μ.body Υ func174 rfl rfl ntmps174 rfl rfl J ?_;refine Χ ?_;refine W.draw (A:=[]) Υ mixed λb a=>Vf ?_;refine Ys (Κ.p (El [x.1,x.2] [y.1,y.2] J) (.cons .ex (.cons .ex .nil)) J J) ?_;simp;(repeat (rw[ZG];simp));try rw[ZH]
 refine YF (a _ _ ?_);refine Χ ?_;refine W.rt ?_;exact .of rfl
theorem yr (x y:Found):Κ prog 148 [YK x,YK y] (R (Tb (x.u,x.v) (y.u,y.v))):=by
 refine Μ.body Υ func148 rfl rfl ntmps148 rfl rfl J ?_;refine Χ ?_;refine W.draw (A:=[]) Υ mixed λb a=>Vf ?_;refine Ys (Κ.p (El [x.u,x.v] [y.u,y.v] J) (.cons .ex (.cons .ex .nil)) J J) ?_;simp;(repeat (rw[ZG];simp));try rw[ZH]
 refine YF (a _ _ ?_);refine Χ ?_;refine W.rt ?_;exact .of rfl
def UL (l:List Found):Nat:=(l.map (·.many (-1))).sum
theorem yq (l:List Found) (g:l.length<2 ^ 62) (j:∀f∈l,f.cells.length<2 ^ 62/\∀i,i<=f.cells.length->VK f.cells (-1) i<2 ^ 62) (r:UL l<2 ^ 62) :
  Κ prog 79 [YW l] (R (UL l)):=by
 refine Μ.body Υ func79 rfl rfl ntmps79 rfl rfl J ?_;refine Χ ?_;refine W.iter (λi:Nat=>i<=l.length) (λi=>[(3,R (UL (l.take i))),(6,YW l),(7,R l.length),(8,R i)]) (λ_=>[]) (λi=>l.length-i) 0 (Ε _) rfl (by simp[UL]) (λi hi k=>?_);refine Χ ?_;refine W.YN rfl (λa=>?_) (λa=>?_)
 .have a:i<l.length:=by simpa using a
  obtain⟨m,n⟩:=j _ (Y2 a);have c:UL (l.take (i+1))=UL (l.take i)+l[i].many (-1):=by
   unfold UL;rw[Wx a,Yd,List.sum_append];simp only[XC,UU,List.sum_cons,List.sum_nil,Nat.add_zero]
  have o:UL (l.take i)+l[i].many (-1)<2 ^ 62:=by
   rw[<-c];have e:UL l=UL (l.take (i+1))+UL (l.drop (i+1)):=by
    conv=>lhs;rw[<-NT (i+1) l]
    simp only[UL,Yd,List.sum_append]
   omega
  repeat apply Ξ
  refine Zj (A:=[5]) Υ λp b=>XF a ?_;apply b;refine ZP λp b=>?_;refine Κ.d (Jv l[i] (-1) m n) (ZY ?_);apply b;refine Χ ?_;refine W.drop (h:=0) (Ε _) (Ε _) J rfl _ ?_ (k (i+1) a U);rw[c];have:=XW o;simp[Yw a g] at this ⊢;exact this
 .have a:i=l.length:=by simp at a;omega
  subst a;refine W.exit rfl ?_;refine Χ ?_;refine W.rt ?_;exact .of (by rw[show UL l=UL (l.take l.length) by simp];rfl)
theorem ψ.Wf {a:I} (h:ψ 0 a) (ρ:List Nat):Wf ρ a=a:=by
 cases h with
 | Ο h=>omega
 | ms h=>omega
 | mp h=>omega
 | it h=>omega
 | _=>rfl
theorem Ju {l:ξ} (h:∀a∈l,ψ 0 a) (ρ:List Nat):l.map (Wf ρ)=l:=by
 induction l with
 | nil=>rfl
 | cons a l b=>rw[XC,(h a J).Wf,b λx c=>h x (by simp[c])]
theorem ψ.Yk {a:I} (h:ψ 0 a) (ρ:List Nat):Yk ρ a=a:=by
 have b:=h;cases h with
 | Z' h=>simp only[Go.TL.Yk];rw[Ju h]
 | ZV h=>simp only[Go.TL.Yk];rw[Ju h]
 | fn c d=>simp only[Go.TL.Yk];rw[Ju c,Ju d]
 | _=>exact b.Wf ρ
theorem ψ.top {a:I} (h:ψ 0 a) (n:Nat):Sd n a:=by
 have b:=h;cases h with
 | Ο h=>omega
 | ms h=>omega
 | mp h=>omega
 | it h=>omega
 | _=>exact b
theorem ψ.WA {a:I} (h:ψ 0 a) (n:Nat):Xh n a:=by
 have c:=h;cases h with
 | Z' h=>exact λa b=>(h a b).top n
 | ZV h=>exact λa b=>(h a b).top n
 | fn d e=>exact⟨λa b=>(d a b).top n,λa b=>(e a b).top n⟩
 | _=>exact c.top n
theorem TS {h id n i len:Nat}:Xh h (.ms id n i len)↔id<h:=Iff.rfl
theorem Og {h:Nat} {v:Value}:Xh h (.z v)↔True:=⟨λ_=>trivial,λ_=>(ψ.z v).WA h⟩
theorem TR {ρ:List Nat} {id n i len:Nat}:Yk ρ (.ms id n i len)=.ms (ρ.getD id 0) n i len:=rfl
theorem TQ {ρ:List Nat} {v:Value}:Yk ρ (.z v)=.z v:=rfl
section
variable {P:Program} {σ:Ρ}
theorem Μ.one {g:FuncId} {as0:ξ} {c row':Row} {r:I} {K E:I->Ρ->Prop} (h:Μ P g as0 [c] (λa s=>a=r/\s=[row']) (λ_ _=>False)) (id:Nat) (f:σ[id]?=some c) (k:V4 c) (l:V4 row') (m:∀a∈as0,Xh 1 a) (b:Xh 1 r)
  {args:ξ} (n:args=as0.map (Yk [id])) (o:K (Yk [id] r) (σ.set id row')):W5 P (.fn (.func g) [] []) args σ K E:=by
 subst n;have p:=Μ.rows (σ:=σ) h [id] J rfl (λj i d=>by
  cases j with
  | zero=>simp at d;subst d;exact f
  | succ j=>simp at d) (λr b=>by simp at b;subst b;exact k) (by simpa using m) (K':=K) (E':=E) (λa s ⟨t,u⟩=>by
   subst t;subst u;refine⟨λx e=>by simp at e;subst e;exact l,b,?_⟩;simpa[names,P6,VM] using o) (λa s h=>h.elim)
 exact Μ.call (first:=[]) (captured:=[]) (by simpa using p)
end
section
variable {P:Program} {σ:Ρ}
theorem Μ.Hu {g:FuncId} {as0:ξ} {c:Row} {K0 K E:I->Ρ->Prop} (h:Μ P g as0 [c] K0 (λ_ _=>False)) (id:Nat) (f:σ[id]?=some c) (k:V4 c) (l:∀a∈as0,Xh 1 a)
  {args:ξ} (m:args=as0.map (Yk [id])) (n:∀a s,K0 a s->∃row',s=[row']/\V4 row'/\Xh 1 a/\K (Yk [id] a) (σ.set id row')):W5 P (.fn (.func g) [] []) args σ K E:=by
 subst m;have o:=Μ.rows (σ:=σ) h [id] J rfl (λj i d=>by
  cases j with
  | zero=>simp at d;subst d;exact f
  | succ j=>simp at d) (λr b=>by simp at b;subst b;exact k) (by simpa using l) (K':=K) (E':=E) (λa s p=>by
   obtain⟨row',rfl,t,b,u⟩:=n a s p;refine⟨λx e=>by simp at e;subst e;exact t,b,?_⟩;simpa[names,P6,VM] using u) (λa s h=>h.elim)
 exact Μ.call (first:=[]) (captured:=[]) (by simpa using o)
end
theorem QW {b:Type} {f:b->I} {t k:Nat} {l:List b} (h:∀x,∀a∈(f x).cells,ψ 0 a):V4 (.cells t k (l.map f)):=λe c a d=>by
 obtain⟨x,_,rfl⟩:=Zd.1 c;exact h x a d
theorem Yz.part {id k m:Nat} {σ:Ρ} {t:TypeId} {l l2:ξ} (h:σ[id]?=some (.cells t k (l++l2))) (i:l.length=m) (n:∀e∈l,∀a∈e.cells,ψ 0 a):Yz 0 σ (.ms id (l++l2).length 0 m) (.sl false k l):=by
 subst i;refine .ms (Ε _) h rfl J rfl (λj e o c b=>?_) (λj e o c b x a p f g=>?_)
 .have d:=(Zu.1 b).1;rw[Vl,Y0 d] at c;rw[c] at b;cases b;rfl
 .have d:=(Zu.1 b).1;rw[Vl,Y0 d] at c;rw[c] at b;cases b;rw[f] at g;cases g;exact .low (n e (Zf c) a (Zf f))
theorem P3 {a:Type} [Inhabited a] {d:Array a} {i:Nat} (h:i<d.size):d[i]?=some d[i]!:=by simp[h]
def χ {a:Type} (b:a->a->Int) (x y:a):Bool:=decide (b x y<0)
end Go.TL
