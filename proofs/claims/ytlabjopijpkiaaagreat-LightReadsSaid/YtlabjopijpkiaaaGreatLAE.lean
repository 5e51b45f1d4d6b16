import Derived.KernelRfl
import Derived.Sort.AssemblyPlain
import Derived.Test.YtlabjopijpkiaaaGreatProg
import Derived.Test.YtlabjopijpkiaaaGreatLAD
set_option maxHeartbeats 16000000
set_option maxRecDepth 20000
set_option linter.unusedSectionVars false
set_option linter.unusedSimpArgs false
set_option linter.unusedVariables false
namespace Go.TL
theorem Zr {p:Prop} (h:p:=by kernel_rfl):p:=h
open Go.Proofs.Tryz
open Go.Conc
variable [ZP]
def LB (ops:ZC) (o:Oper):List Tmp:=
 (o.op.operands.toList.filterMap fun|.tmp t=>some t|_=>none)++(match o.guard with|some (g,_)=>((ops[g]?).bind (·.dst)).toList|none=>[])
def Wy (o:Oper):ο:=(o.after.toList.filter (Region.binds .any)).map (·.on)
def LA:List Oper->List (ο)->List (ο)
 | [],a=>a
 | o::b,a=>LA b (a++[Wy o++(Wy o).flatMap λj=>a.getD j []])
def Jo (ops:ZC):List (ο):=LA ops.toList []
def VI (o:Oper):Bool:=match o.op with
 | .load _ _=>true
 | .indexAddr _ _ _=>true
 | .fieldAddr _ _ _=>true
 | .nilCheck _=>true
 | _=>false
def T1 (π:Nat->Nat->Bool) (ops:ZC) (tags:List Bool) (i j:Nat) (a b:Oper):Bool:=
 (match b.dst with|some d=>(LB ops a).contains d||a.dst==some d|none=>false)||(match a.dst with|some d=>(LB ops b).contains d|none=>false)||(tags.getD i false&&tags.getD j false&&!(VI a&&VI b)&&!π i j)
def PZ (π:Nat->Nat->Bool) (ops:ZC) (tags:List Bool):Bool:=
 let b:=Jo ops
 (List.range ops.size).all λi=>match ops[i]? with
  | none=>false
  | some a=>(Wy a).all (λj=>decide (j<i))&&(List.range i).all λj=>match ops[j]? with
   | none=>false
   | some c=>!T1 π ops tags i j a c||(b.getD i []).contains j
def PY (_ _:Nat):Bool:=false
def clash (ops:ZC) (tags:List Bool) (i j:Nat) (a b:Oper):Bool:=T1 PY ops tags i j a b
def Tv (ops:ZC) (tags:List Bool):Bool:=PZ PY ops tags
def Tu (lo pu:ο) (i j:Nat):Bool:=lo.contains i&&pu.contains j||pu.contains i&&lo.contains j
section
variable {P:Program} {T:ZR} {A:ο} {m nt:Nat} {k:Zz} {env:Β} {σ:Ξ} {Z:XO} {E:Ya} {ops:ZC}
theorem W.congr {env':Β} (h:∀i,Z3 env' i=Z3 env i) (c:W P m nt k env σ Z E):W P m nt k env' σ Z E:=
 λd mn x cs b S B H t e f a g j=>c d mn x cs b S B H t e f ⟨a.holds,λi=>by rw[<-h i];exact a.Y7 i,a.size,a.rows⟩ g j
theorem D' (c:Region.Mode):∀(a t:Nat) (listed:Array Bool) (i:Nat),Region.linearise.go c ops a t listed [i]=i::Region.linearise.go c ops a t listed []:=by
 have gen:∀(a t:Nat) (listed:Array Bool) (b:ο),Region.linearise.go c ops a t listed b=b.reverse++Region.linearise.go c ops a t listed []:=by
  intro a
  induction a with
  | zero=>intro t listed b;simp[Region.linearise.go]
  | succ a d=>
   intro t listed b;simp only[Region.linearise.go];split
   .rename_i i _;rw[d _ _ (i::b),d _ _ [i]];simp
   .simp
 intro a t listed i;rw[gen];rfl
theorem Jn (n:∀i o,ops[i]?=some o->∀j∈Wy o,j<i) (D:Nat->Prop) (p:∀i o,ops[i]?=some o->D i->∀j∈Wy o,D j) :
  ∀(i:Nat) (o:Oper),ops[i]?=some o->(∀j∈Wy o,D j)->∀j∈(Jo ops).getD i [],D j:=by
 have r:∀(d:List Oper) (a:List (ο)),(∀x,d[x]?=ops[a.length+x]?)->(∀i o,i<a.length->ops[i]?=some o->(∀j∈Wy o,D j)->∀j∈a.getD i [],D j)->
   ∀i o,i<a.length+d.length->ops[i]?=some o->(∀j∈Wy o,D j)->∀j∈(LA d a).getD i [],D j:=by
  intro d
  induction d with
  | nil=>intro a _ h i o hi;exact h i o (by simpa using hi)
  | cons q d s=>
   intro a g h i o hi b c;have e:ops[a.length]?=some q:=by have:=g 0;simpa using this.symm
   refine s (a++[Wy q++(Wy q).flatMap λj=>a.getD j []]) (λx=>?_) (λi o hi b c=>?_) i o (by simp at hi ⊢;omega) b c
   .have:=g (x+1);simp only[List.getElem?_cons_succ] at this;rw[this];simp;congr 1;omega
   .by_cases k:i<a.length
    .rw[WB,Yz k,<-WB];exact h i o k b c
    .have t:i=a.length:=by simp at hi;omega
     subst t;rw[e] at b;cases b;rw[WB,Xj (Z6 _)];simp only[Ps,List.getElem?_cons_zero,Option.getD_some,V4,Pv];rintro j (f|⟨y,l,f⟩)
     .exact c j f
     .have u:=n _ _ e y l
      have v:y<ops.size:=by have:=(TJ.1 e).1;omega
      have m:ops[y]?=some ops[y]:=Xu v;exact h y _ u m (p y _ m (c y l)) j f
 intro i o b c;exact r ops.toList [] (λx=>Ω) (λi o hi=>by simp at hi) i o (by have:=(TJ.1 b).1;simpa using this) b c
def Sw (ops:ZC) (o:Oper) (env env':Β):Prop:=∀t∈LB ops o,Z3 env' t=Z3 env t
def Ph (P:Program) (m nt:Nat) (k:Zz) (Z:XO) (E:Ya) (ops:ZC) (i:Nat) (o:Oper) (env:Β) (a:Ψ):Prop:=
 ∀env' σ' rest,Sw ops o env env'->W P m nt (.inRegion ops rest::k) (Zn o env' a) σ' Z E->W P m nt (.inRegion ops (i::rest)::k) env' σ' Z E
def Pg (P:Program) (m nt:Nat) (k:Zz) (Z:XO) (E:Ya) (ops:ZC) (i:Nat) (o:Oper) (env:Β) (σ:Ξ) (a:Ψ) (b:Ξ):Prop:=
 ∀env' rest,Sw ops o env env'->W P m nt (.inRegion ops rest::k) (Zn o env' a) b Z E->W P m nt (.inRegion ops (i::rest)::k) env' σ Z E
def Y5 (ops:ZC) (env0:Β) (as9:Nat->Ψ) (a:Nat->Bool):Nat->Β
 | 0=>env0
 | n+1=>if a n then(match ops[n]? with|some o=>Zn o (Y5 ops env0 as9 a n) (as9 n)|none=>Y5 ops env0 as9 a n) else Y5 ops env0 as9 a n
theorem Ob {o:Oper} {env:Β} {a:Ψ} {t:Nat}:Z3 (Zn o env a) t=if o.dst=some t then a else Z3 env t:=by
 unfold Zn;cases hd:o.dst with
 | none=>simp
 | some d=>simp[Z3]
theorem M9 {env0:Β} {as9:Nat->Ψ} {b a:Nat->Bool} {t:Nat}:∀(n:Nat),(∀i o,i<n->ops[i]?=some o->o.dst=some t->b i=a i)->Z3 (Y5 ops env0 as9 b n) t=Z3 (Y5 ops env0 as9 a n) t:=by
 intro n
 induction n with
 | zero=>intro _;rfl
 | succ n d=>
  intro h;have c:=d λi o hi=>h i o J;simp only[Y5];cases e:ops[n]? with
  | none=>cases b n<;>cases a n<;>simpa using c
  | some o=>
   by_cases hd:o.dst=some t
   .rw[h n o (Qj n) e hd];cases a n
    .simpa using c
    .simp[Ob,hd]
   .cases b n<;>cases a n<;>simp[Ob,hd,c]
theorem Jm {env0:Β} {as9:Nat->Ψ} {a:Nat->Bool} {t:Nat} {n N:Nat} (j:n<=N) (h:∀i o,n<=i->i<N->ops[i]?=some o->o.dst=some t->a i=false):Z3 (Y5 ops env0 as9 a N) t=Z3 (Y5 ops env0 as9 a n) t:=by
 induction N with
 | zero=>have:n=0:=J
         subst this;rfl
 | succ N d=>
  by_cases e:n=N+1
  .subst e;rfl
  .have b:=d J λi o f k=>h i o f J;simp only[Y5];cases c:a N
   .simpa using b
   .cases g:ops[N]? with
    | none=>simpa using b
    | some o=>
     have hd:o.dst≠some t:=λhd=>by rw[h N o J (Qj N) g hd] at c;cases c
     simp[Ob,hd,b]
def writer (ops:ZC) (tags:List Bool) (i:Nat):Bool:=tags.getD i false&&match ops[i]? with|some o=>!VI o|none=>true
theorem W.D9 {lo pu:ο} {V:Type} {v:Ξ->V} {as9:Nat->Ψ} {σs:Nat->Ξ} {tags:List Bool} {env0:Β} (ah:PZ (Tu lo pu) ops tags=true)
  (ax:∀i o,ops[i]?=some o->tags.getD i false=false->Ph P m nt k Z E ops i o (Y5 ops env0 as9 (λ_=>true) i) (as9 i)/\σs (i+1)=σs i)
  (ai:∀i o,ops[i]?=some o->tags.getD i false=true->Pg P m nt k Z E ops i o (Y5 ops env0 as9 (λ_=>true) i) (σs i) (as9 i) (σs (i+1))/\(VI o=true->σs (i+1)=σs i))
  (aj:∀i o,ops[i]?=some o->lo.contains i=true->tags.getD i false=true->VI o=true/\∀τ,v τ=v (σs i)->Pg P m nt k Z E ops i o (Y5 ops env0 as9 (λ_=>true) i) τ (as9 i) τ)
  (aL:∀i o,ops[i]?=some o->pu.contains i=true->v (σs (i+1))=v (σs i))
  (aM:W P m nt (.inRegion ops []::k) (Y5 ops env0 as9 (λ_=>true) ops.size) (σs ops.size) Z E) :
  ∀(O:Nat) (t:Nat) (listed:Array Bool) (env:Β) (p:Nat),listed.size=ops.size->
   (∀i,Z3 env i=Z3 (Y5 ops env0 as9 (λi=>listed.getD i false) ops.size) i)->
   (∀i o,ops[i]?=some o->listed.getD i false=true->∀j∈Wy o,listed.getD j false=true)->
   p<=ops.size->(∀j,j<ops.size->writer ops tags j=true->(listed.getD j false=true↔j<p))->
   ((List.range ops.size).filter λi=>!listed.getD i false).length<=O->
   W P m nt (.inRegion ops (Region.linearise.go .any ops O t listed [])::k) env (σs p) Z E:=by
 have ak:∀i o,ops[i]?=some o->(∀j∈Wy o,j<i)/\∀j n,j<i->ops[j]?=some n->T1 (Tu lo pu) ops tags i j o n=true->j∈(Jo ops).getD i []:=by
  intro i o l;have hi:i<ops.size:=(TJ.1 l).1;unfold PZ at ah;simp only[V5,UT] at ah;have h:=ah i hi;rw[l] at h;simp only[VO,V5,decide_eq_true_eq,UT] at h;refine⟨h.1,λj n c w T=>?_⟩;have s:=h.2 j c;rw[w] at s;simp only[T,Bool.not_true,Bool.false_or,KJ] at s;exact s
 have al:∀i o,ops[i]?=some o->∀j∈Wy o,j<i:=λi o l=>(ak i o l).1
 have am:∀i o,ops[i]?=some o->writer ops tags i=false->σs (i+1)=σs i:=λi o l H=>by
  cases f:tags.getD i false with
  | false=>exact(ax i o l f).2
  | true=>
   refine(ai i o l f).2 ?_;unfold writer at H;rw[f,l] at H;simpa using H
 have ay:∀(d a:Nat),a+d<=ops.size->(∀j,a<=j->j<a+d->writer ops tags j=false)->σs (a+d)=σs a:=by
  intro d
  induction d with
  | zero=>intro a _ _;rfl
  | succ d D=>
   intro a hle h;have g:ops[a+d]?=some ops[a+d]:=Xu J;have:=am (a+d) _ g (h (a+d) J J);rw[show a+(d+1)=a+d+1 by omega,this];exact D a J λj g s=>h j g J
 have an:∀a b,a<=ops.size->b<=ops.size->(∀j,j<ops.size->writer ops tags j=true->(j<a↔j<b))->σs a=σs b:=λa b az X h=>by
  rcases Nat.le_total a b with hle|hle
  .have:=ay (b-a) a J λj g s=>by
    cases f:writer ops tags j with
    | false=>rfl
    | true=>have:=(h j J f).2 J;omega
   rw[show a+(b-a)=b by omega] at this;exact this.symm
  .have:=ay (a-b) b J λj g s=>by
    cases f:writer ops tags j with
    | false=>rfl
    | true=>have:=(h j J f).1 J;omega
   rw[show b+(a-b)=a by omega] at this;exact this
 have aN:∀a b,a<=ops.size->b<=ops.size->(∀j,j<ops.size->writer ops tags j=true->pu.contains j=false->(j<a↔j<b))->v (σs a)=v (σs b):=λa b az X h=>by
  have aO:∀(d a:Nat),a+d<=ops.size->(∀j,a<=j->j<a+d->writer ops tags j=true->pu.contains j=true)->v (σs (a+d))=v (σs a):=by
   intro d
   induction d with
   | zero=>intro a _ _;rfl
   | succ d D=>
    intro a hle h;have g:ops[a+d]?=some ops[a+d]:=Xu J;have e:v (σs (a+d+1))=v (σs (a+d)):=by
     cases H:writer ops tags (a+d) with
     | false=>rw[am (a+d) _ g H]
     | true=>exact aL (a+d) _ g (h (a+d) J J H)
    rw[show a+(d+1)=a+d+1 by omega,e];exact D a J λj g s=>h j g J
  have aA:∀x y,y<=ops.size->(∀j,j<ops.size->writer ops tags j=true->pu.contains j=false->(j<x↔j<y))->x<=y->v (σs y)=v (σs x):=λx y ao h hle=>by
   have:=aO (y-x) x J λj g s H=>by
    cases ap:pu.contains j with
    | true=>rfl
    | false=>have:=(h j J H ap).2 J;omega
   rwa [show x+(y-x)=y by omega] at this
  rcases Nat.le_total a b with hle|hle
  .exact(aA a b X h hle).symm
  .exact aA b a az (λj g s A=>(h j g s A).symm) hle
 intro O;have done:∀(t:Nat) (listed:Array Bool) (env:Β) (p:Nat),(∀i,i<ops.size->listed.getD i false=true)->(∀i,Z3 env i=Z3 (Y5 ops env0 as9 (λi=>listed.getD i false) ops.size) i)->p<=ops.size->
   (∀j,j<ops.size->writer ops tags j=true->(listed.getD j false=true↔j<p))->W P m nt (.inRegion ops []::k) env (σs p) Z E:=λt listed env p Q L B I=>by
  have aP:σs p=σs ops.size:=an p ops.size B (Z6 _) λj c f=>by rw[<-I j c f];simp[Q j c,c]
  rw[aP];refine .congr (λi=>?_) aM;rw[L i];exact M9 ops.size λi o hi _ _=>Q i hi
 have aQ:∀listed:Array Bool,listed.size=ops.size->(∃i,i<ops.size/\listed.getD i false=false)->∃i,i<ops.size/\listed.getD i false=false/\∀j,j<i->listed.getD j false=true:=λlisted M ⟨i,hi,u⟩=>by
  induction i using Nat.strongRecOn with
  | _ i D=>
   by_cases c:∃j,j<i/\listed.getD j false=false
   .obtain⟨j,g,s⟩:=c;exact D j g J s
   .exact⟨i,hi,u,λj aR=>by
     cases h:listed.getD j false with
     | true=>rfl
     | false=>exact absurd ⟨j,aR,h⟩ c⟩
 induction O with
 | zero=>
  intro t listed env p M L Y B I aS;have Q:∀i,i<ops.size->listed.getD i false=true:=λi hi=>by
   cases h:listed.getD i false with
   | true=>rfl
   | false=>
    have aa:i∈(List.range ops.size).filter λi=>!listed.getD i false:=by rw[TG];exact⟨UT.2 hi,by rw[h];rfl⟩
    have:((List.range ops.size).filter λi=>!listed.getD i false)=[]:=YA.1 J;rw[this] at aa;simp at aa
  exact done t listed env p Q L B I
 | succ O D=>
  intro t listed env p M L Y B I aS;simp only[Region.linearise.go];generalize aT:((List.range ops.size).filter λi=>!listed.getD i true&&((ops[i]?).map (·.after.all λe=>!Region.binds .any e||listed.getD e.on false)).getD false)=N;have aB:∀i,i<ops.size->listed.getD i true=listed.getD i false:=λi hi=>by
   rw[Wr,Wr,Xu J];rfl
  have aC:∀i,i∈N↔i<ops.size/\listed.getD i false=false/\∀o,ops[i]?=some o->∀j∈Wy o,listed.getD j false=true:=λi=>by
   rw[<-aT];simp only[TG,UT,VO,KC];constructor
   .rintro⟨g,s,A⟩;rw[aB i g] at s;refine⟨g,s,λo l j c=>?_⟩;rw[l] at A;simp only[Option.map_some,Option.getD_some,KF] at A;unfold Wy at c;simp only[YO,TG] at c;obtain⟨e,⟨aU,aV⟩,rfl⟩:=c;have:=A e (by simpa using aU);simpa[aV] using this
   .rintro⟨g,s,A⟩;refine⟨g,by rw[aB i g];exact s,?_⟩;have l:ops[i]?=some ops[i]:=Xu g;rw[l];simp only[Option.map_some,Option.getD_some,KF];intro e aW;by_cases X:Region.binds .any e=true
    .have:=A _ l e.on (by unfold Wy;simp only[YO,TG];exact⟨e,⟨by simpa using aW,X⟩,U⟩);simp[this]
    .simp[X]
  cases hi:N[t % N.length]? with
  | none=>
   simp only[List.reverse_nil];have aX:N=[]:=by
    cases aY:N with
    | nil=>rfl
    | cons x xs=>
     rw[aY] at hi;have aq:t % (x::xs).length<(x::xs).length:=Nat.mod_lt _ Ω;rw[Z7 aq] at hi;cases hi
   have Q:∀i,i<ops.size->listed.getD i false=true:=λi aZ=>by
    cases h:listed.getD i false with
    | true=>rfl
    | false=>
     obtain⟨r,g,s,A⟩:=aQ listed M ⟨i,aZ,h⟩;have:r∈N:=(aC r).2 ⟨g,s,λo l j c=>A j (al r o l j c)⟩;rw[aX] at this;simp at this
   exact done t listed env p Q L B I
  | some i=>
   simp only;rw[D'];have aa:i∈N:=Y1 hi;obtain⟨g,s,A⟩:=(aC i).1 aa;have l:ops[i]?=some ops[i]:=Xu g;have a0:=Jn al (λj=>listed.getD j false=true) (λj o c u=>Y j o c u) i _ l (A _ l);have low:∀j n,j<i->ops[j]?=some n->T1 (Tu lo pu) ops tags i j ops[i] n=true->listed.getD j false=true:=λj n c w T=>a0 j ((ak i _ l).2 j n c w T);have high:∀j n,i<j->ops[j]?=some n->T1 (Tu lo pu) ops tags j i n ops[i]=true->listed.getD j false=false:=λj n c w T=>by
    cases u:listed.getD j false with
    | false=>rfl
    | true=>
     have:=Jn al (λj=>listed.getD j false=true) (λj o c u=>Y j o c u) j n w (Y j n w u) i ((ak j n w).2 i _ c l T);rw[s] at this;cases this
   have ab:Sw ops ops[i] (Y5 ops env0 as9 (λ_=>true) i) env:=λx aD=>by
    rw[L x];have ar:Z3 (Y5 ops env0 as9 (λi=>listed.getD i false) ops.size) x=Z3 (Y5 ops env0 as9 (λi=>listed.getD i false) i) x:=Jm J λj n a1 a2 w hd=>by
     by_cases e:j=i
     .subst e;exact s
     .refine high j n J w ?_;unfold T1;simp[hd,aD]
    rw[ar];exact M9 i λj n c w hd=>low j n c w (by unfold T1;simp[hd,aD])
   have ad:∀x,Z3 (Zn ops[i] env (as9 i)) x=Z3 (Y5 ops env0 as9 (λj=>(listed.setIfInBounds i true).getD j false) ops.size) x:=λx=>by
    have F:∀j,(listed.setIfInBounds i true).getD j false=if j=i then true else listed.getD j false:=λj=>by
     rw[Wr,Wr];by_cases e:j=i
     .subst e;rw[Tc J];simp
     .rw[UC (YF e),if_neg e]
    rw[Ob];by_cases hd:ops[i].dst=some x
    .rw[if_pos hd];have ar:Z3 (Y5 ops env0 as9 (λj=>(listed.setIfInBounds i true).getD j false) ops.size) x=Z3 (Y5 ops env0 as9 (λj=>(listed.setIfInBounds i true).getD j false) (i+1)) x:=Jm J λj n a1 a2 w au=>by
      rw[F,if_neg J];refine high j n J w ?_;unfold T1;simp[hd,au]
     rw[ar];simp only[Y5,F,if_true,l,Ob,hd]
    .rw[if_neg hd,L x];exact M9 ops.size λj n c w au=>by
      rw[F,if_neg];intro e;subst e;rw[l] at w;cases w;exact hd au
   have F:∀j,(listed.setIfInBounds i true).getD j false=if j=i then true else listed.getD j false:=λj=>by
    rw[Wr,Wr];by_cases e:j=i
    .subst e;rw[Tc J];simp
    .rw[UC (YF e),if_neg e]
   have ae:((List.range ops.size).filter λj=>!(listed.setIfInBounds i true).getD j false).length<=O:=by
    have aq:((List.range ops.size).filter λj=>!(listed.setIfInBounds i true).getD j false).length<((List.range ops.size).filter λj=>!listed.getD j false).length:=by
     have:((List.range ops.size).filter λj=>!(listed.setIfInBounds i true).getD j false)=((List.range ops.size).filter λj=>!listed.getD j false).filter λj=>j != i:=by
      rw[List.filter_filter];apply List.filter_congr;intro j _;rw[F];by_cases e:j=i
      .subst e;simp
      .simp[e]
     rw[this];have a3:i∈(List.range ops.size).filter λj=>!listed.getD j false:=by
      rw[TG];exact⟨UT.2 g,by rw[s];rfl⟩
     exact List.length_filter_lt_length_iff_exists.2 ⟨i,a3,Ω⟩
    omega
   have af:∀j o,ops[j]?=some o->(listed.setIfInBounds i true).getD j false=true->∀y∈Wy o,(listed.setIfInBounds i true).getD y false=true:=λj o c u y ao=>by
    rw[F] at u ⊢;by_cases e:y=i
    .rw[if_pos e]
    .rw[if_neg e];by_cases Ρ:j=i
     .subst Ρ;rw[l] at c;cases c;exact A _ l y ao
     .rw[if_neg Ρ] at u;exact Y j o c u y ao
   have aE:∀j,writer ops tags j=true->tags.getD j false=true:=λj h=>by
    unfold writer at h;rw[VO] at h;exact h.1
   cases K:tags.getD i false with
   | false=>
    refine(ax i _ l K).1 env (σs p) _ ab ?_;refine D _ _ _ p (by simpa using M) ad af B (λj c f=>?_) ae;rw[F];have:j≠i:=λe=>by subst e;rw[aE j f] at K;cases K
    rw[if_neg this];exact I j c f
   | true=>
    have aF:∀j n,ops[j]?=some n->writer ops tags j=true->lo.contains i=false\/pu.contains j=false->T1 (Tu lo pu) ops tags i j ops[i] n=true/\T1 (Tu lo pu) ops tags j i n ops[i]=true:=λj n w f C=>by
     have g:=aE j f
     have aG:lo.contains j=false:=by
      cases u:lo.contains j with
      | false=>rfl
      | true=>
       have:=(aj j n w u g).1;unfold writer at f;rw[g,w] at f;simp[this] at f
     unfold writer at f;rw[g,w] at f;have s:VI n=false:=by simpa using f
     have C:(lo.contains i&&pu.contains j)=false:=by
      rcases C with h|h
      .rw[h];rfl
      .rw[h,Bool.and_false]
     have f1:Tu lo pu i j=false:=by unfold Tu;rw[C,aG,Bool.and_false];rfl
     have f2:Tu lo pu j i=false:=by unfold Tu;rw[aG,Bool.and_comm (pu.contains j),C];rfl
     unfold T1;rw[g,K,s,f1,f2];simp
    have aH:∀j,j<ops.size->writer ops tags j=true->lo.contains i=false\/pu.contains j=false->j<i->listed.getD j false=true:=λj c f C av=>low j _ av (Xu c) (aF j _ (Xu c) f C).1
    have aI:∀j,j<ops.size->writer ops tags j=true->lo.contains i=false\/pu.contains j=false->i<j->listed.getD j false=false:=λj c f C av=>high j _ av (Xu c) (aF j _ (Xu c) f C).2
    have aw:∀j,j<ops.size->writer ops tags j=true->lo.contains i=false\/pu.contains j=false->(j<p↔j<i):=λj c f C=>by
     rw[<-I j c f];constructor
     .intro u;apply Tb;intro a4;by_cases e:j=i
      .subst e;rw[s] at u;cases u
      .rw[aI j c f C J] at u;cases u
     .exact aH j c f C
    cases R:writer ops tags i with
    | false=>
     have aJ:∀j,j<ops.size->writer ops tags j=true->((listed.setIfInBounds i true).getD j false=true↔j<p):=λj c f=>by
      rw[F];have:j≠i:=λe=>by subst e;rw[f] at R;cases R
      rw[if_neg this];exact I j c f
     cases S:lo.contains i with
     | true=>
      refine(aj i _ l S K).2 (σs p) (aN p i B J λj c f ap=>aw j c f (.inr ap)) env _ ab ?_;exact D _ _ _ p (by simpa using M) ad af B aJ ae
     | false=>
      have ag:σs p=σs i:=an p i B J λj c f=>aw j c f (.inl S)
      have es:=am i _ l R
      have aK:=(ai i _ l K).1;rw[es] at aK;rw[ag];refine aK env _ ab ?_;rw[<-ag];exact D _ _ _ p (by simpa using M) ad af B aJ ae
    | true=>
     have S:lo.contains i=false:=by
      cases u:lo.contains i with
      | false=>rfl
      | true=>
       have:=(aj i _ l u K).1;unfold writer at R;rw[l] at R;simp[this] at R
     have ag:σs p=σs i:=an p i B J λj c f=>aw j c f (.inl S);rw[ag];refine(ai i _ l K).1 env _ ab ?_;refine D _ _ _ (i+1) (by simpa using M) ad af J (λj c f=>?_) ae;rw[F];by_cases e:j=i
     .subst e;simp
     .rw[if_neg e];constructor
      .intro u;apply Tb;intro a4;rw[aI j c f (.inl S) J] at u;cases u
      .intro aq;exact aH j c f (.inl S) J
theorem W.x9 {as9:Nat->Ψ} {σs:Nat->Ξ} {tags:List Bool} {env0:Β} (c:Tv ops tags=true)
  (d:∀i o,ops[i]?=some o->tags.getD i false=false->Ph P m nt k Z E ops i o (Y5 ops env0 as9 (λ_=>true) i) (as9 i)/\σs (i+1)=σs i)
  (f:∀i o,ops[i]?=some o->tags.getD i false=true->Pg P m nt k Z E ops i o (Y5 ops env0 as9 (λ_=>true) i) (σs i) (as9 i) (σs (i+1))/\(VI o=true->σs (i+1)=σs i))
  (g:W P m nt (.inRegion ops []::k) (Y5 ops env0 as9 (λ_=>true) ops.size) (σs ops.size) Z E) :
  ∀(b:Nat) (t:Nat) (listed:Array Bool) (env:Β) (a:Nat),listed.size=ops.size->
   (∀i,Z3 env i=Z3 (Y5 ops env0 as9 (λi=>listed.getD i false) ops.size) i)->
   (∀i o,ops[i]?=some o->listed.getD i false=true->∀j∈Wy o,listed.getD j false=true)->
   a<=ops.size->(∀j,j<ops.size->writer ops tags j=true->(listed.getD j false=true↔j<a))->
   ((List.range ops.size).filter λi=>!listed.getD i false).length<=b->
   W P m nt (.inRegion ops (Region.linearise.go .any ops b t listed [])::k) env (σs a) Z E:=by
 have e:Tu [] []=PY:=by funext i j;simp[Tu,PY]
 exact W.D9 (lo:=[]) (pu:=[]) (v:=λ_=>()) (by rw[e];exact c) d f (λi o _ h=>by simp at h) (λi o _ h=>by simp at h) g
def Jl:List Oper->ο->ο
 | [],acc=>acc
 | o::a,acc=>Jl a (acc++[(Wy o).foldr (λj m=>(1 <<< j)|||acc.getD j 0|||m) 0])
def Hc (π:Nat->Nat->Bool) (ops:ZC) (tags:List Bool):Bool:=
 let b:=Jl ops.toList []
 (List.range ops.size).all λi=>match ops[i]? with
  | none=>false
  | some a=>(Wy a).all (λj=>decide (j<i))&&(List.range i).all λj=>match ops[j]? with
   | none=>false
   | some c=>!T1 π ops tags i j a c||(b.getD i 0).testBit j
def D8 (a:List (ο)) (b:ο):Prop:=a.length=b.length/\∀i j,(b.getD i 0).testBit j=true↔j∈a.getD i []
theorem x8:∀(c:List Oper) (b:List (ο)) (d:ο),D8 b d->D8 (LA c b) (Jl c d):=by
 intro c
 induction c with
 | nil=>intro b d h;exact h
 | cons o c f=>
  intro b d h;simp only[LA,Jl];refine f _ _ ⟨by simp[h.1],λi j=>?_⟩;have one:∀l:ο,(l.foldr (λj m=>(1 <<< j)|||d.getD j 0|||m) 0).testBit j=true↔j∈l++l.flatMap λj=>b.getD j []:=by
   intro l
   induction l with
   | nil=>simp
   | cons a l g=>
    rw[List.foldr_cons,Nat.testBit_or,Nat.testBit_or,KB,Nat.testBit_two_pow];simp only[Md,decide_eq_true_eq,h.2 a j,g,V4,Y9,List.flatMap_cons];constructor
    .rintro((e|e)|e|e)
     .exact .inl (.inl e.symm)
     .exact .inr (.inl e)
     .exact .inl (.inr e)
     .exact .inr (.inr e)
    .rintro((e|e)|e|e)
     .exact .inl (.inl e.symm)
     .exact .inr (.inl e)
     .exact .inl (.inr e)
     .exact .inr (.inr e)
  rw[WB,WB];by_cases hi:i<b.length
  .rw[Yz hi,Yz (by rw[<-h.1];exact hi),<-WB,<-WB];exact h.2 i j
  .rw[Xj (by have:=h.1;omega),Xj J,<-h.1];cases hd:i-b.length with
   | zero=>simpa using one (Wy o)
   | succ n=>simp
theorem Hb {π:Nat->Nat->Bool} {ops:ZC} {tags:List Bool} (h:Hc π ops tags=true):PZ π ops tags=true:=by
 unfold Hc at h;unfold PZ;have e:=x8 ops.toList [] [] ⟨U,λi j=>Ω⟩;simp only[V5] at h ⊢;intro i hi;have b:=h i hi;cases c:ops[i]? with
 | none=>rw[c] at b;exact b
 | some g=>
  rw[c] at b;simp only[VO,V5] at b ⊢;refine⟨b.1,λj f=>?_⟩;have a:=b.2 j f;cases d:ops[j]? with
  | none=>rw[d] at a;exact a
  | some k=>
   rw[d] at a;simp only[Md] at a ⊢;rcases a with a|a
   .exact .inl a
   .exact .inr (KJ.2 ((e.2 i j).1 a))
end
def x7 (ops:ZC) (tags:List Bool):Bool:=Hc PY ops tags
theorem Yq {ops:ZC} {tags:List Bool} (h:x7 ops tags=true):Tv ops tags=true:=Hb h
section
variable {P:Program} {T:ZR} {A:ο} {m nt:Nat} {k:Zz} {env env':Β} {σ:Ξ} {Z:XO} {E:Ya} {ops:ZC}
theorem Lz {o:Oper} (h:Sw ops o env env'):∀x,x∈o.op.operands.toList->ε env' x=ε env x:=λx a=>by
 cases x with
 | tmp t=>
  refine h t ?_;unfold LB;simp only[V4,List.mem_filterMap];exact .inl ⟨.tmp t,a,U⟩
 | _=>rfl
theorem Us {o:Oper} (h:Sw ops o env env'):Xx env' ops o=Xx env ops o:=by
 unfold Xx;cases a:o.guard with
 | none=>rfl
 | some x=>
  obtain⟨j,b⟩:=x;simp only;cases hd:(ops[j]?).bind (·.dst) with
  | none=>rfl
  | some d=>
   simp only;have:Z3 env' d=Z3 env d:=h d (by unfold LB;rw[a];simp[hd]);rw[this]
theorem Jk {a:Array (Nat×Operand)} (h:∀p∈a,ε env' p.2=ε env p.2):P4 env' a=P4 env a:=by
 unfold P4;exact Mh λp b=>by rw[h p (by simpa using b)]
theorem Ly {a:Array Operand} (h:∀x∈a,ε env' x=ε env x):a.toList.map (ε env')=a.toList.map (ε env):=Mh λx b=>h x (by simpa using b)
theorem Jj {o:Option Operand} (h:∀x,o=some x->ε env' x=ε env x):o.map (ε env')=o.map (ε env):=by
 cases o with
 | none=>rfl
 | some x=>simp[h x rfl]
theorem PX {o:Oper} (r:Sw ops o env env'):Vt T A env' o=Vt T A env o:=by
 have h:=Lz r;obtain⟨dst,g,w,pos,B,guard⟩:=o;simp only at h;unfold Vt;cases g<;>simp only<;>try rfl
 all_goals simp only[Op.operands,Y9,Yb,or_false,forall_eq_or_imp,forall_eq] at h
 case move x=>rw[h]
 case assign x=>rw[h]
 case pick c a b=>rw[h.1,h.2.1,h.2.2]
 case box d x=>rw[h]
 case build d s=>rw[Jk λp j=>h p.2 (by simp only[YO];exact⟨p,by simpa using j,U⟩)]
 case buildSlice d n s=>rw[Jk λp j=>h p.2 (by simp only[YO];exact⟨p,by simpa using j,U⟩)]
 case load d x=>rw[h]
 case binOp g a x y b=>rw[h.1,h.2]
 case unOp g a x=>rw[h]
 case convert a b x=>rw[h]
 case index d x y=>rw[h.1,h.2]
 case nilCheck x=>rw[h]
 case sliceToArrayPointer d x=>rw[h]
 case makeInterface a x=>rw[h]
 case makeFunc f C cs=>rw[Ly λx e=>h x (by simp[e]),Ly λx e=>h x (by simp[e])]
 case makeSlice a x y=>rw[h.1,h.2]
 case slice d x lo hi t=>
  cases t with
  | some m=>rfl
  | none=>
   simp only;rw[h x Ω,Jj λy k=>h y (by simp[k]),Jj λy k=>h y (by simp[k])]
 case fieldAddr d x f=>rw[h]
 case indexAddr d x y=>rw[h.1,h.2]
 case typeAssert x a b c=>rw[h]
 case extract x i=>rw[h]
 case call c=>
  obtain⟨u,⟨args⟩,⟨v⟩⟩:=c;cases u
  case value=>rfl
  case invoke=>rfl
  rename_i b;have l:∀x∈args,ε env' x=ε env x:=λx e=>h x (by simp[Call.operands,e])
  match args,v with
  | [x],[d]=>simp only;rw[l x Ω]
  | [x,y],[D,d]=>simp only;rw[l x Ω,l y Ω]
  | [],_=>rfl
  | [_],[]=>rfl
  | [_],_::_::_=>rfl
  | [_,_],[]=>rfl
  | [_,_],[_]=>rfl
  | [_,_],_::_::_::_=>rfl
  | _::_::_::_,_=>rfl
theorem M8 {o:Oper} (l:Sw ops o env env'):V2 T A env' σ o=V2 T A env σ o:=by
 have h:=Lz l;obtain⟨dst,k,C,pos,D,guard⟩:=o;simp only at h;unfold V2;cases k<;>simp only<;>try rfl
 all_goals simp only[Op.operands,Y9,Yb,or_false,forall_eq_or_imp,forall_eq] at h
 case box e x=>rw[h]
 case build e s=>rw[Jk λp g=>h p.2 (by simp only[YO];exact⟨p,by simpa using g,U⟩)]
 case buildSlice e n s=>rw[Jk λp g=>h p.2 (by simp only[YO];exact⟨p,by simpa using g,U⟩)]
 case load e x=>rw[h]
 case store e x y=>rw[h.1,h.2]
 case makeSlice a x y=>rw[h.1,h.2]
 case makeMap e r=>cases r<;>rfl
 case convert a b x=>rw[h]
 case nilCheck x=>rw[h]
 case binOp k e x y d=>
  split
  all_goals first
   | rfl
   |(rename_i t;cases t<;>simp only[h.1])
 case mapUpdate e x y z=>rw[h.1,h.2.1,h.2.2]
 case insert e x y z=>rw[h.1,h.2.1,h.2.2]
 case lookup e x y E=>rw[h.1,h.2]
 case range e x=>rw[h]
 case next x b=>
  cases b<;>simp only<;>try rfl
  rw[h]
 case entry x=>rw[h]
 case slice e x lo hi u=>
  cases u with
  | some m=>rfl
  | none=>
   simp only;rw[h x Ω,Jj λy i=>h y (by simp[i]),Jj λy i=>h y (by simp[i])]
 case fieldAddr e x f=>rw[h]
 case indexAddr e x y=>rw[h.1,h.2]
 case call c=>
  obtain⟨v,⟨args⟩,⟨w⟩⟩:=c;cases v
  case value=>rfl
  case invoke=>rfl
  rename_i b;have j:∀x∈args,ε env' x=ε env x:=λx B=>h x (by simp[Call.operands,B])
  match args,w with
  | [x],[e]=>simp only;rw[j x Ω]
  | [x,y],[F,e]=>simp only;rw[j x Ω,j y Ω]
  | [],_=>rfl
  | [_],[]=>rfl
  | [_],_::_::_=>rfl
  | [_,_],[]=>rfl
  | [_,_],[_]=>rfl
  | [_,_],_::_::_::_=>rfl
  | _::_::_::_,_=>rfl
def XM (P:Program) (f:Ψ) (args:μ) (r:Ψ):Prop:=∀σ,Wm P f args σ (λa s=>a=r/\s=σ) (λ_ _=>False)
def Y8.XX (r:Y8) (K:Ψ->Prop) (s:Prop):Prop:=match r with
 | .ok a=>K a
 | .Y0 p (.ok a)=>p/\K a
 | .Y0 _ _=>False
 | .bad=>s
def YP.XX (r:YP) (K:Ψ->Ξ->Prop):Prop:=match r with
 | .ok a σ'=>K a σ'
 | .Y0 p (.ok a σ')=>p/\K a σ'
 | _=>False
theorem x6 {r r':Y8} {K:Ψ->Prop} {s:Prop} (h:r=r'):r.XX K s=r'.XX K s:=by rw[h]
theorem x5 {r r':YP} {K:Ψ->Ξ->Prop} (h:r=r'):r.XX K=r'.XX K:=by rw[h]
def dcall (P:Program) (f:Ψ) (args:μ) (σ:Ξ) (b:Ψ->Prop) (c:Ψ->Ξ->Prop):Prop:=
 (∃r,XM P f args r/\b r)\/∃r σ',Wm P f args σ (λa s=>a=r/\s=σ') (λ_ _=>False)/\c r σ'
theorem Zc {P:Program} {f:Ψ} {args:μ} {σ:Ξ} {a:Ψ->Prop} {b:Ψ->Ξ->Prop} {r:Ψ} (h:XM P f args r) (k:a r):dcall P f args σ a b:=.inl ⟨r,h,k⟩
theorem Ji {P:Program} {f:Ψ} {args:μ} {σ σ':Ξ} {c:Ψ->Prop} {b:Ψ->Ξ->Prop} {r:Ψ} (h:Wm P f args σ (λa s=>a=r/\s=σ') (λ_ _=>False)) (k:b r σ'):dcall P f args σ c b:=.inr ⟨r,σ',h,k⟩
def PW (P:Program) (T:ZR) (A:ο) (env:Β) (o:Oper) (σ:Ξ) (a:Ψ->Prop) (b:Ψ->Ξ->Prop):Prop:=match o.op with
 | .call ⟨.value f,args,_⟩=>dcall P (ε env f) (args.toList.map (ε env)) σ a b
 | .panic _=>False
 | .defer _=>False
 | _=>(Vt T A env o).XX a ((V2 T A env σ o).XX b)
theorem x4 {P:Program} {T:ZR} {A:ο} {env:Β} {o:Oper} {σ:Ξ} {a:Ψ->Prop} {b:Ψ->Ξ->Prop}:PW P T A env o σ a b=match o.op with
 | .call ⟨.value f,args,_⟩=>dcall P (ε env f) (args.toList.map (ε env)) σ a b
 | .panic _=>False
 | .defer _=>False
 | _=>(Vt T A env o).XX a ((V2 T A env σ o).XX b):=Xk rfl rfl
theorem x3 {a:Ψ} {K:Ψ->Prop} {s:Prop}:Y8.XX (.ok a) K s=K a:=Xk rfl rfl
theorem x2 {p:Prop} {a:Ψ} {K:Ψ->Prop} {s:Prop}:Y8.XX (.Y0 p (.ok a)) K s=(p/\K a):=Xk rfl rfl
theorem x1 {K:Ψ->Prop} {s:Prop}:Y8.XX .bad K s=s:=Xk rfl rfl
theorem x0 {a:Ψ} {σ:Ξ} {K:Ψ->Ξ->Prop}:YP.XX (.ok a σ) K=K a σ:=Xk rfl rfl
theorem xZ {p:Prop} {a:Ψ} {σ:Ξ} {K:Ψ->Ξ->Prop}:YP.XX (.Y0 p (.ok a σ)) K=(p/\K a σ):=Xk rfl rfl
def Vk (P:Program) (T:ZR) (A:ο) (nt:Nat) (ops:ZC):ο->Β->Ξ->List Bool->(Β->Ξ->Prop)->Prop
 | [],env,σ,tags,K=>Tv ops tags=true/\K env σ
 | i::is,env,σ,tags,K=>W3 ops[i]? λo=>Wz nt o=true/\W3 (Xx env ops o) λw=>
   V1 w (Vk P T A nt ops is (Zn o env .Ze) σ (tags++[false]) K)
    (PW P T A env o σ (λa=>Vk P T A nt ops is (Zn o env a) σ (tags++[false]) K) (λa σ'=>Vk P T A nt ops is (Zn o env a) σ' (tags++[true]) K))
def D7 (P:Program) (T:ZR) (A:ο) (nt:Nat) (ops:ZC) (is:ο) (o:Oper) (env:Β) (σ:Ξ) (tags:List Bool) (K:Β->Ξ->Prop) (a:Ψ):Prop:=Vk P T A nt ops is (Zn o env a) σ (tags++[false]) K
def D6 (P:Program) (T:ZR) (A:ο) (nt:Nat) (ops:ZC) (is:ο) (o:Oper) (env:Β) (tags:List Bool) (K:Β->Ξ->Prop) (a:Ψ) (σ':Ξ):Prop:=Vk P T A nt ops is (Zn o env a) σ' (tags++[true]) K
theorem Z2 {tags:List Bool} {K:Β->Ξ->Prop}:Vk P T A nt ops [] env σ tags K=(Tv ops tags=true/\K env σ):=Xk rfl rfl
theorem Z1 {i:Nat} {is:ο} {tags:List Bool} {K:Β->Ξ->Prop}:Vk P T A nt ops (i::is) env σ tags K=W3 ops[i]? λo=>Wz nt o=true/\W3 (Xx env ops o) λw=>
   V1 w (Vk P T A nt ops is (Zn o env .Ze) σ (tags++[false]) K) (PW P T A env o σ (D7 P T A nt ops is o env σ tags K) (D6 P T A nt ops is o env tags K)):=Xk U U
theorem xY {ops:ZC} {is:ο} {o:Oper} {tags:List Bool} {K:Β->Ξ->Prop} {a:Ψ}:D7 P T A nt ops is o env σ tags K a=Vk P T A nt ops is (Zn o env a) σ (tags++[false]) K:=Xk rfl rfl
theorem xX {ops:ZC} {is:ο} {o:Oper} {tags:List Bool} {K:Β->Ξ->Prop} {a:Ψ}:D6 P T A nt ops is o env tags K a σ=Vk P T A nt ops is (Zn o env a) σ (tags++[true]) K:=Xk rfl rfl
def VV (P:Program) (m nt:Nat) (k:Zz) (Z:XO) (E:Ya) (ops:ZC) (i:Nat) (o:Oper) (env:Β) (σ:Ξ) (b:Bool) (a:Ψ) (σ':Ξ):Prop:=
 if b then Pg P m nt k Z E ops i o env σ a σ'/\(VI o=true->σ'=σ) else Ph P m nt k Z E ops i o env a/\σ'=σ
theorem xW {b:TypeId} {x a:Ψ} {σ':Ξ} {p:Prop} (h:SD T b σ x=.ok a σ'\/SD T b σ x=.Y0 p (.ok a σ')):σ'=σ:=by
 unfold SD QX at h
 repeat' split at h
 all_goals simp[Y8.Yo] at h
 all_goals first|exact h.2.symm|skip
theorem xV {b:TypeId} {x c a:Ψ} {σ':Ξ} {p:Prop} (h:SB T b σ x c=.ok a σ'\/SB T b σ x c=.Y0 p (.ok a σ')):σ'=σ:=by
 unfold SB at h
 repeat' split at h
 all_goals simp at h
 all_goals first|exact h.2.2.symm|exact h.2.symm|skip
theorem xU {b:TypeId} {f:Nat} {x a:Ψ} {σ':Ξ} {p:Prop} (h:SC T b f σ x=.ok a σ'\/SC T b f σ x=.Y0 p (.ok a σ')):σ'=σ:=by
 unfold SC at h
 repeat' split at h
 all_goals simp at h
 all_goals first|exact h.2.2.symm|exact h.2.symm|skip
theorem xT {x a:Ψ} {σ':Ξ} {p:Prop} (h:Oe σ x=.ok a σ'\/Oe σ x=.Y0 p (.ok a σ')):σ'=σ:=by
 unfold Oe at h
 repeat' split at h
 all_goals simp at h
 all_goals first|exact h.2.2.symm|exact h.2.symm|skip
theorem M7 {o:Oper} {a:Ψ} {σ':Ξ} {p:Prop} (c:VI o=true) (h:V2 T A env σ o=.ok a σ'\/V2 T A env σ o=.Y0 p (.ok a σ')):σ'=σ:=by
 unfold VI at c;unfold V2 at h;split at c
 .rename_i d x b;rw[b] at h;exact xW h
 .rename_i d x e b;rw[b] at h;exact xV h
 .rename_i d x f b;rw[b] at h;exact xU h
 .rename_i x b;rw[b] at h;exact xT h
 .cases c
theorem xS (D:Zv P T) {i:Nat} {is:ο} {tags:List Bool} {K:Β->Ξ->Prop} (h:Vk P T A nt ops (i::is) env σ tags K) :
  ∃o a σ' F,ops[i]?=some o/\VV P m nt k Z E ops i o env σ F a σ'/\Vk P T A nt ops is (Zn o env a) σ' (tags++[F]) K:=by
 unfold Vk W3 at h;split at h
 .exact h.elim
 .rename_i o d;obtain⟨hd,h⟩:=h;split at h
  .exact h.elim
  rename_i w t;unfold V1 at h;cases w
  .replace h:=h.1 U
   refine⟨o,.Ze,σ,false,d,?_,h⟩;unfold VV;simp only[WX,if_false];exact⟨λenv' σ' rest b g=>.unwanted d (by rw[Us b];exact t) hd g,trivial⟩
  .replace h:=h.2 U
   unfold PW at h;split at h
   .rename_i f args Q u;have H:∀env',Sw ops o env env'->ε env' f=ε env f/\args.toList.map (ε env')=args.toList.map (ε env):=λenv' b=>by
     have v:=Lz b;rw[u] at v;refine⟨v f (by simp[Op.operands,Call.operands]),Ly λx M=>v x (by simp[Op.operands,Call.operands,M])⟩
    rcases h with⟨r,l,h⟩|⟨r,σ',l,h⟩
    .refine⟨o,r,σ,false,d,?_,h⟩;unfold VV;simp only[WX,if_false];refine⟨λenv' σ' rest b g=>.call d (by rw[Us b];exact t) hd u ?_,trivial⟩;obtain⟨B,Ρ⟩:=H env' b;rw[B,Ρ];exact(l σ').mono (λa s ⟨x,y⟩=>by subst x;subst y;exact g) (λ_ _ h=>h.elim)
    .refine⟨o,r,σ',true,d,?_,h⟩;unfold VV;simp only[if_true];refine⟨?_,λe=>by unfold VI at e;rw[u] at e;cases e⟩;refine λenv' rest b g=>.call d (by rw[Us b];exact t) hd u ?_;obtain⟨B,Ρ⟩:=H env' b;rw[B,Ρ];exact l.mono (λa s ⟨x,y⟩=>by subst x;subst y;exact g) (λ_ _ h=>h.elim)
   .exact h.elim
   .exact h.elim
   .rename_i R S I;have J:∀(r:Y8) (a:Ψ),Vt T A env o=r->(∀K:Ψ->Ξ->Prop,∀s,K a s->(r.Yo s).holds K)->(∀σ s,r.or σ s=r.Yo σ)->Ph P m nt k Z E ops i o env a:=λr a e C N env' σ' rest b g=>by
     refine .op (A:=A) D d (by rw[Us b];exact t) hd (λc l=>I c l) ?_;rw[PX b,e,N];exact C _ _ g
    unfold Y8.XX at h;split at h
    .rename_i a j;refine⟨o,a,σ,false,d,?_,h⟩;unfold VV;simp only[WX,if_false];exact⟨J _ a j (λK s n=>n) (λ_ _=>rfl),trivial⟩
    .rename_i p a j;refine⟨o,a,σ,false,d,?_,h.2⟩;unfold VV;simp only[WX,if_false];exact⟨J _ a j (λK s n=>⟨h.1,n⟩) (λ_ _=>rfl),trivial⟩
    .exact h.elim
    .rename_i O;have L:∀(a:Ψ) (σ':Ξ) (r:YP),V2 T A env σ o=r->(∀K:Ψ->Ξ->Prop,K a σ'->r.holds K)->Pg P m nt k Z E ops i o env σ a σ':=λa σ' r e C env' rest b g=>by
      refine .op (A:=A) D d (by rw[Us b];exact t) hd (λc l=>I c l) ?_;rw[PX b,M8 b,O,e];exact C _ g
     unfold YP.XX at h;split at h
     .rename_i a σ' j;refine⟨o,a,σ',true,d,?_,h⟩;unfold VV;simp only[if_true];exact⟨L a σ' _ j λK n=>n,λe=>M7 (p:=True) e (.inl j)⟩
     .rename_i p a σ' j;refine⟨o,a,σ',true,d,?_,h.2⟩;unfold VV;simp only[if_true];exact⟨L a σ' _ j λK n=>⟨h.1,n⟩,λe=>M7 e (.inr j)⟩
     .exact h.elim
theorem Ha {env0:Β} {as9 a:Nat->Ψ} {b:Nat->Bool}:∀n,(∀j,j<n->as9 j=a j)->Y5 ops env0 as9 b n=Y5 ops env0 a b n:=by
 intro n
 induction n with
 | zero=>intro _;rfl
 | succ n c=>
  intro h;simp only[Y5];rw[c λj d=>h j J,h n (Qj n)]
theorem xR (t:Zv P T) {K:Β->Ξ->Prop} {env0:Β}:∀(d i:Nat) (tags:List Bool) (as9:Nat->Ψ) (σs:Nat->Ξ),i+d=ops.size->tags.length=i->
  (∀j o,j<i->ops[j]?=some o->VV P m nt k Z E ops j o (Y5 ops env0 as9 (λ_=>true) j) (σs j) (tags.getD j false) (as9 j) (σs (j+1)))->
  Vk P T A nt ops (List.range' i d) (Y5 ops env0 as9 (λ_=>true) i) (σs i) tags K->
  ∃(tags:List Bool) (as9:Nat->Ψ) (b:Nat->Ξ),Tv ops tags=true/\b 0=σs 0/\(∀j o,ops[j]?=some o->VV P m nt k Z E ops j o (Y5 ops env0 as9 (λ_=>true) j) (b j) (tags.getD j false) (as9 j) (b (j+1)))/\K (Y5 ops env0 as9 (λ_=>true) ops.size) (b ops.size):=by
 intro d
 induction d with
 | zero=>
  intro i tags as9 σs hi n g h;simp only[List.range'_zero,Vk] at h;have:i=ops.size:=J;subst this;exact⟨tags,as9,σs,h.1,U,λj o f=>g j o (TJ.1 f).1 f,h.2⟩
 | succ d u=>
  intro i tags as9 σs hi n g h;rw[Ky] at h;obtain⟨o,a,σ',l,f,v,h⟩:=xS (m:=m) (k:=k) (Z:=Z) (E:=E) t h;let c:Nat->Ψ:=λj=>if j=i then a else as9 j
  let b:Nat->Ξ:=λj=>if j=i+1 then σ' else σs j
  have p:∀j,j<=i->Y5 ops env0 as9 (λ_=>true) j=Y5 ops env0 c (λ_=>true) j:=λj g=>Ha j λx L=>by simp only[c];rw[if_neg J]
  have w:Y5 ops env0 c (λ_=>true) (i+1)=Zn o (Y5 ops env0 as9 (λ_=>true) i) a:=by
   simp only[Y5,if_true,f];rw[<-p i (Z6 i)];simp only[c,if_true]
  have:=u (i+1) (tags++[l]) c b J (by simp[n]) (λj y M r=>?_) ?_
  .obtain⟨t2,B,C,D,F,H,I⟩:=this;exact⟨t2,B,C,D,F.trans (by simp only[b];rw[if_neg J]),H,I⟩
  .by_cases e:j=i
   .subst e;rw[f] at r;cases r;rw[<-p j (Z6 j)];have s:(tags++[l]).getD j false=l:=by rw[WB,Xj J,n];simp
    rw[s];simp only[c,b,if_true];rw[if_neg J];exact v
   .have:=g j y J r;rw[<-p j J];have s:(tags++[l]).getD j false=tags.getD j false:=by rw[WB,Yz J,<-WB]
    rw[s];simp only[c,b];rw[if_neg J,if_neg J,if_neg J];exact this
  .rw[w];simp only[b,if_true];exact h
theorem W.draw (s:Zv P T) (u:P.follows .mixedOrders=true) {id:Nat} (h:∀d:Β->Ξ->Prop,(∀env σ,W P m nt k env σ Z E->d env σ)->Vk P T A nt ops (idx ops.size []) env σ [] d):W P m nt (.code (.region id ops true)::k) env σ Z E:=by
 have e:=h (λenv σ=>W P m nt k env σ Z E) λ_ _ h=>h;rw[idx_eq,KI] at e;obtain⟨tags,as9,σs,v,w,f,y⟩:=xR (m:=m) (k:=k) (Z:=Z) (E:=E) (env0:=env) s ops.size 0 [] (λ_=>.Ze) (λ_=>σ) J U (λj o C=>J) e;intro D mn x cs b S B H t g l F I K;refine .draw g l λn=>?_;have p:=W.x9 (P:=P) (m:=m) (nt:=nt) (k:=k) (Z:=Z) (E:=E) (ops:=ops) (as9:=as9) (σs:=σs) (tags:=tags) (env0:=env) v
  (λi o a c=>by have:=f i o a;unfold VV at this;rw[c] at this;simpa using this)
  (λi o a c=>by have:=f i o a;unfold VV at this;rw[c] at this;simpa using this)
  (.ZB y) ops.size n (Array.replicate ops.size false) env 0 Ω (λi=>?_) (λi o a r=>?_) (Α _) (λj C _=>?_) ?_
 .rw[w] at p;rw[u];simp only[Region.schedule,Bool.true_or,if_true,Region.linearise];exact p D mn x cs b S B H t g l F I K
 .have:∀n,Y5 ops env as9 (λi=>(Array.replicate ops.size false).getD i false) n=env:=by
   intro n
   induction n with
   | zero=>rfl
   | succ n L=>
    simp only[Y5];have:(Array.replicate ops.size false).getD n false=false:=by
     rw[Wr,OL];split<;>rfl
    rw[if_neg (by rw[this];simp)];exact L
  rw[this]
 .have:(Array.replicate ops.size false).getD i false=false:=by
   rw[Wr,OL];split<;>rfl
  rw[this] at r;cases r
 .have:(Array.replicate ops.size false).getD j false=false:=by
   rw[Wr,OL];split<;>rfl
  rw[this];simp
 .have:=Mk (λi=>!(Array.replicate ops.size false).getD i false) (List.range ops.size);simpa using this
theorem D5 {K K':Β->Ξ->Prop} (k:∀e s,K e s->K' e s):∀(is:ο) (env:Β) (σ:Ξ) (tags:List Bool),Vk P T A nt ops is env σ tags K->Vk P T A nt ops is env σ tags K':=by
 intro is
 induction is with
 | nil=>intro env σ tags h;exact⟨h.1,k _ _ h.2⟩
 | cons i is b=>
  intro env σ tags h;unfold Vk W3 at h ⊢;cases d:ops[i]? with
  | none=>rw[d] at h;exact h.elim
  | some o=>
   rw[d] at h;simp only at h ⊢;refine⟨h.1,?_⟩
   replace h:=h.2
   cases g:Xx env ops o with
   | none=>rw[g] at h;exact h.elim
   | some w=>
    rw[g] at h;unfold V1 at h ⊢;refine⟨λe=>b _ _ _ (h.1 e),λe=>?_⟩
    replace h:=h.2 e
    unfold PW at h ⊢;split
    .rename_i f args j a;rw[a] at h;simp only at h;rcases h with⟨r,c,h⟩|⟨r,σ',c,h⟩
     .exact .inl ⟨r,c,b _ _ _ h⟩
     .exact .inr ⟨r,σ',c,b _ _ _ h⟩
    .rename_i a;rw[a] at h;exact h
    .rename_i a;rw[a] at h;exact h
    .rename_i l m n;split at h
     .rename_i f args j a;exact absurd a (l f args j)
     .rename_i y a;exact absurd a (m y)
     .rename_i y a;exact absurd a (n y)
     .unfold Y8.XX at h ⊢;split at h
      .exact b _ _ _ h
      .exact⟨h.1,b _ _ _ h.2⟩
      .exact h.elim
      .unfold YP.XX at h ⊢;split at h
       .exact b _ _ _ h
       .exact⟨h.1,b _ _ _ h.2⟩
       .exact h.elim
theorem W.Pf (b:Zv P T) (c:P.follows .mixedOrders=true) (a:Β) {id:Nat} (h:W P m nt k a σ Z E) (d:Vk P T A nt ops (idx ops.size []) env σ [] (λe s=>s=σ/\∀p∈a,Z3 e p.1=p.2)):W P m nt (.code (.region id ops true)::k) env σ Z E:=
 W.draw b c λj f=>D5 (λe s ⟨g,i⟩=>f e s (g▸W.forget a i h)) _ _ _ _ d
end
def Vs {a:Type}:List a->ο->List a->List a
 | l,i::ρ,x::xs=>Vs (l.set i x) ρ xs
 | l,_,_=>l
theorem PV {a:Type}:∀(ρ:ο) (l xs:List a),(Vs l ρ xs).length=l.length:=by
 intro ρ
 induction ρ with
 | nil=>intro l xs;cases xs<;>rfl
 | cons i ρ b=>intro l xs;cases xs with
  | nil=>rfl
  | cons x xs=>simp[Vs,b]
theorem G9 {a:Type} {i:Nat}:∀(ρ:ο) (l xs:List a),i∉ρ->(Vs l ρ xs)[i]?=l[i]?:=by
 intro ρ
 induction ρ with
 | nil=>intro l xs _;cases xs<;>rfl
 | cons j ρ b=>intro l xs h;cases xs with
  | nil=>rfl
  | cons x xs=>
   simp only[Vs];rw[b _ _ (λc=>h (by simp[c])),Vp (λe=>h (by simp[e]))]
theorem D4 {d:Type}:∀(ρ:ο) (l xs:List d),ρ.Nodup->(∀i∈ρ,i<l.length)->∀(j i:Nat) (x:d),ρ[j]?=some i->xs[j]?=some x->(Vs l ρ xs)[i]?=some x:=by
 intro ρ
 induction ρ with
 | nil=>intro l xs _ _ j i x h;simp at h
 | cons a ρ f=>
  intro l xs g e j i x c b;cases xs with
  | nil=>simp at b
  | cons y xs=>
   simp only[Vs];obtain⟨k,m⟩:=Rb.1 g;cases j with
   | zero=>
    simp at c b;subst c;subst b;rw[G9 ρ _ _ k,V0 (e a Ω)]
   | succ j=>
    simp only[List.getElem?_cons_succ] at c b;exact f _ _ m (λi hi=>by simp;exact e i (by simp[hi])) j i x c b
def Wx (ρ:ο):Ψ->Ψ
 | .Δ id n i j=>.Δ (ρ.getD id 0) n i j
 | .ms id n i len=>.ms (ρ.getD id 0) n i len
 | .mp id=>.mp (ρ.getD id 0)
 | .it id=>.it (ρ.getD id 0)
 | a=>a
def Yh (ρ:ο):Ψ->Ψ
 | .fn f b cs=>.fn f (b.map (Wx ρ)) (cs.map (Wx ρ))
 | .ZW l=>.ZW (l.map (Wx ρ))
 | .ZY l=>.ZY (l.map (Wx ρ))
 | a=>Wx ρ a
def T0 (h:Nat) (a:Ψ):Prop:=match a with
 | .Δ id _ _ _|.ms id _ _ _|.mp id|.it id=>id<h
 | a=>ς 0 a
def Xr (h:Nat) (a:Ψ):Prop:=match a with
 | .fn _ b cs=>(∀a∈b,T0 h a)/\∀a∈cs,T0 h a
 | .ZW l|.ZY l=>∀a∈l,T0 h a
 | a=>T0 h a
structure Names (ρ:ο) (a:Z5) (σ0:Ξ) (b:Z5) (c:Ξ):Prop where
 row:∀(j i:Nat),ρ[j]?=some i->c[i]?=σ0[j]?
 blk:∀(j i:Nat),ρ[j]?=some i->b[i]?=a[j]?
section
variable {S:κ} {Jh R6:Z5} {σ0 Jg:Ξ} {ρ:ο}
theorem Jf {ρ:ο} {j:Nat} (h:j<ρ.length):ρ[j]?=some (ρ.getD j 0):=by
 rw[WB,Z7 h];rfl
theorem Ui (g:Names ρ Jh σ0 R6 Jg) {a:Ψ} {v:Value} (l:T0 ρ.length a):υ S R6 Jg (Wx ρ a) v↔υ S Jh σ0 a v:=by
 cases a with
 | Δ id n i j=>
  have e:=Jf (ρ:=ρ) l
  have d:=g.row _ _ e
  have f:=g.blk _ _ e;constructor
  .intro h;cases h with
   | Δ b c k=>exact .Δ (by rw[<-d];exact b) c (by rw[<-f];exact k)
   | U8 v b c=>exact .U8 v (by rw[<-d];exact b) c
  .intro h;cases h with
   | Δ b c k=>exact .Δ (by rw[d];exact b) c (by rw[f];exact k)
   | U8 v b c=>exact .U8 v (by rw[d];exact b) c
 | ms id n i len=>
  have e:=Jf (ρ:=ρ) l
  have d:=g.row _ _ e
  have f:=g.blk _ _ e;constructor
  .intro h;cases h with
   | ms cap b c k m o p=>exact .ms cap (by rw[<-d];exact b) c (by rw[<-f];exact k) m o p
   | Vm v b c=>exact .Vm v (by rw[<-d];exact b) c
  .intro h;cases h with
   | ms cap b c k m o p=>exact .ms cap (by rw[d];exact b) c (by rw[f];exact k) m o p
   | Vm v b c=>exact .Vm v (by rw[d];exact b) c
 | mp id=>
  have e:=Jf (ρ:=ρ) l
  have d:=g.row _ _ e
  have f:=g.blk _ _ e;constructor
  .intro h;cases h with
   | mp b c=>exact .mp (by rw[<-d];exact b) (by rw[<-f];exact c)
   | T4 v b=>exact .T4 v (by rw[<-d];exact b)
  .intro h;cases h with
   | mp b c=>exact .mp (by rw[d];exact b) (by rw[f];exact c)
   | T4 v b=>exact .T4 v (by rw[d];exact b)
 | it id=>
  have e:=Jf (ρ:=ρ) l
  have d:=g.row _ _ e
  have f:=g.blk _ _ e;constructor
  .intro h;cases h with
   | it b c=>exact .it (by rw[<-d];exact b) (by rw[<-f];exact c)
   | SZ v b=>exact .SZ v (by rw[<-d];exact b)
  .intro h;cases h with
   | it b c=>exact .it (by rw[d];exact b) (by rw[f];exact c)
   | SZ v b=>exact .SZ v (by rw[d];exact b)
 | _=>exact⟨λh=>h.any l _ _,λh=>h.any l _ _⟩
theorem Je {f:Ψ->Ψ} {l:μ} {i:Nat} {a:Ψ} (h:(l.map f)[i]?=some a):∃b,l[i]?=some b/\a=f b:=by
 rw[Yc] at h;cases c:l[i]? with
 | none=>rw[c] at h;cases h
 | some b=>rw[c] at h;cases h;exact⟨b,rfl,rfl⟩
theorem G8 (c:Names ρ Jh σ0 R6 Jg) {a:Ψ} {v:Value} (d:Xr ρ.length a):υ S R6 Jg (Yh ρ a) v↔υ S Jh σ0 a v:=by
 cases a with
 | fn f s cs=>
  constructor
  .intro h;cases h with
   | fn vs o e g p r=>
    refine .fn vs o (by simpa using e) (by simpa using g) (λi a v hi hv=>?_) (λi a v hi hv=>?_)
    .exact(Ui c (d.1 a (Y1 hi))).1 (p i _ v (by rw[Yc,hi];rfl) hv)
    .exact(Ui c (d.2 a (Y1 hi))).1 (r i _ v (by rw[Yc,hi];rfl) hv)
  .intro h;cases h with
   | fn vs o e g p r=>
    refine .fn vs o (by simpa using e) (by simpa using g) (λi a v hi hv=>?_) (λi a v hi hv=>?_)
    .obtain⟨b,m,rfl⟩:=Je hi;exact(Ui c (d.1 b (Y1 m))).2 (p i b v m hv)
    .obtain⟨b,m,rfl⟩:=Je hi;exact(Ui c (d.2 b (Y1 m))).2 (r i b v m hv)
 | ZW l=>
  constructor
  .intro h;cases h with
   | ZW vs e g=>exact .ZW vs (by simpa using e) λi a v hi hv=>(Ui c (d a (Y1 hi))).1 (g i _ v (by rw[Yc,hi];rfl) hv)
  .intro h;cases h with
   | ZW vs e g=>
    refine .ZW vs (by simpa using e) λi a v hi hv=>?_;obtain⟨b,m,rfl⟩:=Je hi;exact(Ui c (d b (Y1 m))).2 (g i b v m hv)
 | ZY l=>
  constructor
  .intro h;cases h with
   | ZY vs e g=>exact .ZY vs (by simpa using e) λi a v hi hv=>(Ui c (d a (Y1 hi))).1 (g i _ v (by rw[Yc,hi];rfl) hv)
  .intro h;cases h with
   | ZY vs e g=>
    refine .ZY vs (by simpa using e) λi a v hi hv=>?_;obtain⟨b,m,rfl⟩:=Je hi;exact(Ui c (d b (Y1 m))).2 (g i b v m hv)
 | z u=>exact Ui (a:=.z u) c d
 | ξ l=>exact Ui (a:=.ξ l) c d
 | sl ex k l=>exact Ui (a:=.sl ex k l) c d
 | Δ id n i j=>exact Ui (a:=.Δ id n i j) c d
 | ms id n i len=>exact Ui (a:=.ms id n i len) c d
 | W6 t a=>exact Ui (a:=.W6 t a) c d
 | mp id=>exact Ui (a:=.mp id) c d
 | it id=>exact Ui (a:=.it id) c d
 | Ze=>exact Ui (a:=.Ze) c d
end
section
variable {P:Program} {S Yl:κ} {B:Z5} {H H':Τ} {σ:Ξ}
def VU (r:Row):Prop:=match r with|.cells _ _ l=>∀e∈l,∀a∈e.cells,ς 0 a|_=>False
def Lx (r:Row):Prop:=VU r\/r=.dead
theorem U7.plain {B':Z5} {σ':Ξ} {r:Row} {bo:Option (Nat×Nat)} (c:VU r) (h:U7 S B σ H r bo) (g:Z5) (m:Ξ):U7 S g m H r bo:=by
 cases r with
 | cells t k l=>
  cases bo with
  | none=>exact h
  | some x=>
   obtain⟨b,N⟩:=x;obtain⟨n,o,p,w,d⟩:=h;refine⟨n,o,p,w,λi e hi=>⟨(d i e hi).1,λj a f=>?_⟩⟩;obtain⟨s,u,v⟩:=(d i e hi).2 j a f;exact⟨s,u.any (c e (Y1 hi) a (Y1 f)) _ _,v⟩
 | _=>exact c.elim
theorem U7.xQ {B':Z5} {σ':Ξ} {r:Row} {bo:Option (Nat×Nat)} (a:Lx r) (h:U7 S B σ H r bo) (b:Z5) (c:Ξ):U7 S b c H r bo:=by
 rcases a with a|rfl
 .exact U7.plain (B':=B') (σ':=σ') a h b c
 .trivial
theorem Holds.D3 (s:Holds S B σ H) {ρ:ο} {I:Ξ} (az:ρ.Nodup) (ai:ρ.length=I.length) (aj:∀(j i:Nat),ρ[j]?=some i->σ[i]?=I[j]?) (aL:∀r∈I,VU r)
  {d:Z5} {σ0:Ξ} (C:Ext S (ρ.map λi=>B.getD i none) H Yl d H') (aA:Zm S Yl (ρ.map λi=>B.getD i none) d I σ0) (V:Holds Yl d σ0 H') (aM:∀r∈σ0,Lx r) :
  let t:=Vs σ ρ σ0++σ0.drop ρ.length
  let m:=Vs B ρ d++d.drop ρ.length
  Holds Yl m t H'/\Ext S B H Yl m H'/\Zm S Yl B m σ t/\Names (ρ++(List.range (σ0.length-ρ.length)).map (σ.length + ·)) d σ0 m t:=by
 intro t m;have ak:∀i∈ρ,i<σ.length:=λi hi=>by
  obtain⟨j,a⟩:=Sl hi;have n:j<I.length:=by rw[<-ai];exact(Zo.1 a).1
  have:=aj j i a;rw[Z7 n] at this;exact(Zo.1 this).1
 have aa:∀i∈ρ,i<B.length:=λi hi=>by rw[s.len];exact ak i hi
 have aX:ρ.length<=σ0.length:=by rw[ai];exact aA.length
 have aN:d.length=σ0.length:=V.len
 have aO:∀(j i:Nat),ρ[j]?=some i->(ρ.map λi=>B.getD i none)[j]?=B[i]?:=λj i a=>by
  have hi:=aa i (Y1 a);rw[Yc,a];simp[hi]
 have al:∀(j i:Nat),ρ[j]?=some i->t[i]?=σ0[j]?:=λj i a=>by
  have hi:=ak i (Y1 a)
  have n:j<σ0.length:=by have:=(Zo.1 a).1;omega
  show(Vs σ ρ σ0++_)[i]?=_;rw[Yz (by rw[PV];exact hi),Z7 n];exact D4 ρ σ σ0 az ak j i _ a (Z7 n)
 have am:∀(j i:Nat),ρ[j]?=some i->m[i]?=d[j]?:=λj i a=>by
  have hi:=aa i (Y1 a)
  have n:j<d.length:=by have:=(Zo.1 a).1;omega
  show(Vs B ρ d++_)[i]?=_;rw[Yz (by rw[PV];exact hi),Z7 n];exact D4 ρ B d az aa j i _ a (Z7 n)
 have an:∀i,i<σ.length->i∉ρ->t[i]?=σ[i]?:=λi hi g=>by
  show(Vs σ ρ σ0++_)[i]?=_;rw[Yz (by rw[PV];exact hi),G9 ρ _ _ g]
 have ao:∀i,i<σ.length->i∉ρ->m[i]?=B[i]?:=λi hi g=>by
  show(Vs B ρ d++_)[i]?=_;rw[Yz (by rw[PV,s.len];exact hi),G9 ρ _ _ g]
 have aB:∀x,t[σ.length+x]?=σ0[ρ.length+x]?:=λx=>by
  show(Vs σ ρ σ0++_)[_]?=_;rw[Xj (by rw[PV];omega),PV,TI];congr 1;omega
 have aC:∀x,m[σ.length+x]?=d[ρ.length+x]?:=λx=>by
  show(Vs B ρ d++_)[_]?=_;rw[Xj (by rw[PV,s.len];omega),PV,s.len,TI];congr 1;omega
 have W:∀(i:Nat) (r:Row),t[i]?=some r->(i<σ.length/\i∉ρ/\σ[i]?=some r/\m[i]?=B[i]?)\/∃j,σ0[j]?=some r/\m[i]?=d[j]?/\(∀w D,(w<σ.length->ρ[D]?=some w)->(¬w<σ.length->D=ρ.length+(w-σ.length))->j=D->i=w)/\((i<σ.length->ρ[j]?=some i)/\(¬i<σ.length->j=ρ.length+(i-σ.length))):=λi r f=>by
  by_cases hi:i<σ.length
  .by_cases g:i∈ρ
   .obtain⟨j,a⟩:=Sl g;refine .inr ⟨j,by rw[<-al j i a];exact f,am j i a,λw D K p e=>?_,λ_=>a,λh=>absurd hi h⟩;subst e;by_cases X:w<σ.length
    .have:=K X;rw[a] at this;cases this;rfl
    .have:=p X;have:=(Zo.1 a).1;omega
   .exact .inl ⟨hi,g,by rw[<-an i hi g];exact f,ao i hi g⟩
  .have e:i=σ.length+(i-σ.length):=J
   refine .inr ⟨ρ.length+(i-σ.length),by rw[<-aB,<-e];exact f,by rw[<-aC,<-e],λw D K p aY=>?_,λh=>absurd h hi,λ_=>rfl⟩;by_cases X:w<σ.length
   .have:=(Zo.1 (K X)).1;omega
   .have:=p X;omega
 have aD:m.length=t.length:=by
  show(Vs B ρ d++d.drop ρ.length).length=(Vs σ ρ σ0++σ0.drop ρ.length).length;simp[PV,s.len,aN]
 have aE:Zm S Yl B m σ t:=⟨C.Yy,λid r f=>by
  have hi:=(Zo.1 f).1;by_cases g:id∈ρ
  .obtain⟨j,a⟩:=Sl g;have aP:I[j]?=some r:=by rw[<-aj j id a];exact f
   obtain⟨r',k,c⟩:=aA.rows j r aP;exact⟨r',by rw[al j id a];exact k,by rw[am j id a,<-aO j id a];exact c⟩
  .exact⟨r,by rw[an id hi g];exact f,by rw[ao id hi g];exact r.Qa _⟩⟩
 have ab:∀b,Z5.has (ρ.map λi=>B.getD i none) b->∃j i N,ρ[j]?=some i/\B[i]?=some (some (b,N)):=λb ⟨N,ap⟩=>by
  obtain⟨j,a⟩:=Sl ap;rw[Yc] at a;cases Q:ρ[j]? with
  | none=>rw[Q] at a;cases a
  | some i=>
   rw[Q] at a;simp only[Option.map_some,Qo] at a;have hi:=aa i (Y1 Q);rw[WB,Z7 hi] at a;exact⟨j,i,N,Q,by rw[Z7 hi];simpa using a⟩
 have aF:∀(j i:Nat),ρ[j]?=some i->∃r,σ[i]?=some r/\r.live/\VU r:=λj i a=>by
  have n:j<I.length:=by rw[<-ai];exact(Zo.1 a).1
  have f:=Z7 n
  have aq:=aL _ (Y1 f);refine⟨_,by rw[aj j i a];exact f,?_,aq⟩;cases Q:I[j]<;>rw[Q] at aq<;>first|trivial|exact aq.elim
 have ad:∀(id:Nat) (r:Row) (b N:Nat),id∉ρ->σ[id]?=some r->r.live->B[id]?=some (some (b,N))->¬Z5.has (ρ.map λi=>B.getD i none) b/\¬H.fresh b/\Uv H H' b:=λid r b N g f y l=>by
  have R:¬Z5.has (ρ.map λi=>B.getD i none) b:=λar=>by
   obtain⟨j,i,ae,K,p⟩:=ab b ar;obtain⟨r',k,c,_⟩:=aF j i K;exact s.inj id i r r' b N ae (λe=>g (e▸Y1 K)) f k y c l p
  have T:=s.SE f y l;exact⟨R,T,(C.W7 b R T).P9 λo=>s.sep id r b N f y l o⟩
 refine⟨⟨V.Yy,aD,λi r bo f U=>?_,λi j A E b L P aG hi a af ag M O=>?_,λi r b N f y l o=>?_⟩,⟨C.Yy,λb l aQ=>?_,λb l=>?_,λb o v hv=>?_,C.grow⟩,aE,⟨λj i a=>?_,λj i a=>?_⟩⟩
 .rcases W i r f with⟨k,c,u,F⟩|⟨j,k,c,_,_⟩
  .by_cases y:r.live
   .rw[F] at U;refine(s.row i r bo u U).later aE (λb N e=>(ad i r b N c u y (by rw[U,e])).2.2) λY left aZ e=>?_;subst e;obtain⟨_,_,a0,a1,xs,a2,seen,_,a3,⟨es,Ρ⟩,_⟩:=s.row i _ bo u U;have au:Y∉ρ:=λaR=>by
     obtain⟨j,a⟩:=Sl aR;obtain⟨r',aH,_,aS⟩:=aF j Y a;rw[Ρ] at aH;cases aH;exact aS
    have aI:=(Zo.1 Ρ).1;exact⟨an Y aI au,ao Y aI au,λb N l=>(ad Y _ b N au Ρ trivial l).2.2⟩
   .cases r<;>first|exact absurd trivial y|trivial
  .rw[c] at U;exact(V.row j r bo k U).xQ (B':=m) (σ':=t) (aM r (Y1 k)) _ _
 .have aJ:∀(i:Nat) (A:Row) (L:Nat) (D:Nat) (E:Row) (P:Nat),i∉ρ->σ[i]?=some A->A.live->B[i]?=some (some (b,L))->σ0[D]?=some E->E.live->d[D]?=some (some (b,P))->False:=λi A L D E P K p aT aU a4 a5 aV=>by
   obtain⟨R,T,_⟩:=ad i A b L K p aT aU;rcases C.blocks b (R7 aV) with h|h
   .exact R h
   .exact T h
  rcases W i A hi with⟨k,c,u,F⟩|⟨aK,k,c,u,F⟩<;>rcases W j E a with⟨av,ah,aw,Z⟩|⟨ax,av,ah,aw,Z⟩
  .rw[F] at M;rw[Z] at O;exact s.inj i j A E b L P aG u aw af ag M O
  .rw[F] at M;rw[ah] at O;exact aJ i A L ax E P c u af M av ag O
  .rw[c] at M;rw[Z] at O;exact aJ j E P aK A L ah aw ag O k af M
  .rw[c] at M;rw[ah] at O;refine V.inj aK ax A E b L P (λe=>aG ?_) k av af ag M O;exact u j ax Z.1 Z.2 e
 .rcases W i r f with⟨k,c,u,F⟩|⟨j,k,c,_,_⟩
  .rw[F] at l;obtain⟨R,T,_⟩:=ad i r b N c u y l;cases hv:Yl b o with
   | none=>rfl
   | some v=>
    rcases C.QZ b o v hv with h|h|h
    .rw[s.sep i r b N u y l o] at h;cases h
    .exact absurd h R
    .exact absurd h T
  .rw[c] at l;exact V.sep j r b N k y l o
 .refine C.W7 b (λar=>l ?_) aQ;obtain⟨j,i,ae,_,p⟩:=ab b ar;exact R7 p
 .obtain⟨N,ap⟩:=l;obtain⟨i,hi⟩:=Sl ap;have aW:i<t.length:=by rw[<-aD];exact(Zo.1 hi).1
  rcases W i _ (Z7 aW) with⟨k,c,u,F⟩|⟨j,k,c,_,_⟩
  .rw[F] at hi;exact .inl (R7 hi)
  .rw[c] at hi;rcases C.blocks b (R7 hi) with h|h
   .obtain⟨j,w,ae,_,p⟩:=ab b h;exact .inl (R7 p)
   .exact .inr h
 .rcases C.QZ b o v hv with h|h|h
  .exact .inl h
  .obtain⟨j,w,ae,_,p⟩:=ab b h;exact .inr (.inl (R7 p))
  .exact .inr (.inr h)
 .by_cases n:j<ρ.length
  .rw[Yz n] at a;exact al j i a
  .rw[Xj J,Yc] at a;have ay:j-ρ.length<σ0.length-ρ.length:=by
    apply Tb;intro g;rw[Uc (by simp;omega)] at a;cases a
   rw[Z7 (by simpa using ay)] at a;simp at a;subst a;rw[aB];congr 1;omega
 .by_cases n:j<ρ.length
  .rw[Yz n] at a;exact am j i a
  .rw[Xj J,Yc] at a;have ay:j-ρ.length<σ0.length-ρ.length:=by
    apply Tb;intro g;rw[Uc (by simp;omega)] at a;cases a
   rw[Z7 (by simpa using ay)] at a;simp at a;subst a;rw[aC];congr 1;omega
def names (ρ:ο) (n:Nat) (σ0:Ξ):ο:=ρ++(List.range (σ0.length-ρ.length)).map (n + ·)
def PU (σ:Ξ) (ρ:ο) (σ0:Ξ):Ξ:=Vs σ ρ σ0++σ0.drop ρ.length
theorem Μ.D2 {g:FuncId} {as0:μ} {k:Ξ} {K:Ψ->Ξ->Prop} {E:Ψ->Ξ->Prop} (h:Μ P g as0 k K E) (ρ:ο) (y:ρ.Nodup) (p:ρ.length=k.length) (t:∀(j i:Nat),ρ[j]?=some i->σ[i]?=k[j]?) (A:∀r∈k,VU r)
  (has:∀a∈as0,Xr ρ.length a) {K':Ψ->Ξ->Prop} {E':Ψ->Ξ->Prop} (Z:∀a s,K a s->(∀r∈s,Lx r)/\Xr s.length a/\K' (Yh (names ρ σ.length s) a) (PU σ ρ s))
  (aa:∀a s,E a s->(∀r∈s,Lx r)/\Xr s.length a/\E' (Yh (names ρ σ.length s) a) (PU σ ρ s)):Μ P g (as0.map (Yh ρ)) σ K' E':=by
 refine⟨h.1,λab mn x c rest S B H vs ad l hv V=>?_⟩;have ae:∀(j i:Nat),ρ[j]?=some i->i<σ.length:=λj i d=>by
  have C:j<k.length:=by rw[<-p];exact(Zo.1 d).1
  have:=t j i d;rw[Z7 C] at this;exact(Zo.1 this).1
 have W:∀(j i:Nat),ρ[j]?=some i->(ρ.map λi=>B.getD i none)[j]?=B[i]?:=λj i d=>by
  have hi:i<B.length:=by rw[l.len];exact ae j i d
  rw[Yc,d];simp[hi]
 have af:Names ρ (ρ.map λi=>B.getD i none) k B σ:=⟨t,λj i d=>(W j i d).symm⟩
 have pick:∀(j:Nat) (r:Row) (bo:Option (Nat×Nat)),k[j]?=some r->(ρ.map λi=>B.getD i none)[j]?=some bo->∃i,ρ[j]?=some i/\σ[i]?=some r/\B[i]?=some bo:=λj r bo f D=>by
  have C:j<ρ.length:=by rw[p];exact(Zo.1 f).1
  have d:=Z7 C;exact⟨_,d,by rw[t j _ d];exact f,by rw[<-W j _ d];exact D⟩
 have ag:Holds S (ρ.map λi=>B.getD i none) k H:=by
  refine⟨l.Yy,by simp[p],λj r bo f D=>?_,λi j X Y b ah ai aj hi d ak al am an=>?_,λj r b N f ao ap o=>?_⟩
  .obtain⟨i,m,n,u⟩:=pick j r bo f D;exact(l.row i r bo n u).plain (B':=B) (σ':=σ) (A r (Y1 f)) _ _
  .obtain⟨aq,m,n,u⟩:=pick i X _ hi am;obtain⟨ar,au,av,aw⟩:=pick j Y _ d an;refine l.inj aq ar X Y b ah ai (λe=>aj ?_) n av ak al u aw;subst e;have ax:=(Zo.1 m).1;exact(List.getElem?_inj ax y).1 (m.trans au.symm)
  .obtain⟨i,m,n,u⟩:=pick j r _ f ap;exact l.sep i r b N n ao u o
 refine h.2 ab mn x c rest S _ H vs ad ag ⟨by have:=hv.1;simpa using this,λi a v m n=>(G8 af (has a (Y1 m))).1 (hv.2 i _ v (by rw[Yc,m];rfl) n)⟩ ⟨λa σ' Yl B' H' v F I w J f=>?_,λa σ' Yl B' H' v F I w J f=>?_⟩
 .obtain⟨L,M,O⟩:=Z a σ' F;obtain⟨Q,R,T,U⟩:=l.D3 y p t A I w J L;refine V.ret _ _ Yl _ H' v O R T Q ((G8 U ?_).2 f);have:(ρ++(List.range (σ'.length-ρ.length)).map (σ.length + ·)).length=σ'.length:=by
   have:=w.length;simp;omega
  rw[this];exact M
 .obtain⟨L,M,O⟩:=aa a σ' F;obtain⟨Q,R,T,U⟩:=l.D3 y p t A I w J L;refine V.Na _ _ Yl _ H' v O R T Q ((G8 U ?_).2 f);have:(ρ++(List.range (σ'.length-ρ.length)).map (σ.length + ·)).length=σ'.length:=by
   have:=w.length;simp;omega
  rw[this];exact M
theorem Μ.rows {g:FuncId} {as0:μ} {b:Ξ} {K:Ψ->Ξ->Prop} {E:Ψ->Ξ->Prop} (h:Μ P g as0 b K E) (ρ:ο) (d:ρ.Nodup) (e:ρ.length=b.length) (f:∀(j i:Nat),ρ[j]?=some i->σ[i]?=b[j]?) (k:∀r∈b,VU r)
  (has:∀a∈as0,Xr ρ.length a) {K':Ψ->Ξ->Prop} {E':Ψ->Ξ->Prop} (l:∀a s,K a s->(∀r∈s,VU r)/\Xr s.length a/\K' (Yh (names ρ σ.length s) a) (PU σ ρ s))
  (m:∀a s,E a s->(∀r∈s,VU r)/\Xr s.length a/\E' (Yh (names ρ σ.length s) a) (PU σ ρ s)):Μ P g (as0.map (Yh ρ)) σ K' E':=
 h.D2 ρ d e f k has (λa s x=>let ⟨p,q⟩:=l a s x;⟨λr c=>.inl (p r c),q⟩) (λa s x=>let ⟨p,q⟩:=m a s x;⟨λr c=>.inl (p r c),q⟩)
end
def YR (a b:Ψ):Prop:=∀(S:κ) (B:Z5) (σ:Ξ) (v:Value),υ S B σ a v->υ S B σ b v
def ZN (l m:μ):Prop:=l.length=m.length/\∀(i:Nat) (a b:Ψ),l[i]?=some a->m[i]?=some b->YR a b
theorem YR.refl (a:Ψ):YR a a:=λ_ _ _ _ h=>h
theorem YR.of {a b:Ψ} (h:a=b):YR a b:=h▸.refl a
theorem YR.trans {a b c:Ψ} (h:YR a b) (k:YR b c):YR a c:=λS B σ v x=>k S B σ v (h S B σ v x)
theorem YR.Ze (a:Ψ):YR a .Ze:=λ_ _ _ v _=>.Ze v
theorem ZN.refl (l:μ):ZN l l:=⟨rfl,λi a b h k=>by rw[h] at k;cases k;exact .refl a⟩
theorem ZN.nil:ZN [] []:=.refl []
theorem ZN.cons {a b:Ψ} {l m:μ} (h:YR a b) (k:ZN l m):ZN (a::l) (b::m):=⟨by simp[k.1],λi x y c d=>by
 cases i with
 | zero=>simp at c d;subst c;subst d;exact h
 | succ i=>exact k.2 i x y (by simpa using c) (by simpa using d)⟩
theorem YR.ZW {l m:μ} (h:ZN l m):YR (.ZW l) (.ZW m):=λS B σ v x=>by
 cases x with
 | ZW vs c d=>
  refine .ZW vs (h.1.symm.trans c) λi b v hi hv=>?_;have e:i<l.length:=by rw[h.1];exact(Zo.1 hi).1
  have a:=Z7 e;exact h.2 i _ b a hi S B σ v (d i _ v a hv)
theorem YR.ZY {l m:μ} (h:ZN l m):YR (.ZY l) (.ZY m):=λS B σ v x=>by
 cases x with
 | ZY vs c d=>
  refine .ZY vs (h.1.symm.trans c) λi b v hi hv=>?_;have e:i<l.length:=by rw[h.1];exact(Zo.1 hi).1
  have a:=Z7 e;exact h.2 i _ b a hi S B σ v (d i _ v a hv)
theorem YR.sl {e:Bool} {k:Nat} {l m:μ} (p:l.length=m.length) (h:∀(i:Nat) (a b:Ψ),l[i]?=some a->m[i]?=some b->ZN a.cells b.cells):YR (.sl e k l) (.sl false k m):=λS B σ v x=>by
 have r:∀(i:Nat) (b:Ψ),m[i]?=some b->∃a,l[i]?=some a/\ZN a.cells b.cells:=λi b hi=>by
  have d:i<l.length:=by rw[p];exact(Zo.1 hi).1
  exact⟨_,Z7 d,h i _ b (Z7 d) hi⟩
 cases x with
 | VY base cap s=>
  have:m=[]:=YA.1 p.symm;subst this;exact .VY base cap λx=>by cases x
 | sl b o cap w C D t u A=>
  rw[p];refine .sl b o cap w (λx=>by cases x) J (λi y hi=>?_) (λi y hi j c n=>?_) (λi y hi j c n=>?_)
  .obtain⟨a,g,f⟩:=r i y hi;rw[<-f.1];exact t i a g
  .obtain⟨a,g,f⟩:=r i y hi;have d:j<a.cells.length:=by rw[f.1];exact(Zo.1 n).1
   exact u i a g j _ (Z7 d)
  .obtain⟨a,g,f⟩:=r i y hi;have d:j<a.cells.length:=by rw[f.1];exact(Zo.1 n).1
   have s:=Z7 d;exact f.2 j _ c s n S B σ _ (A i a g j _ s)
theorem YR.ex {e:Bool} {k:Nat} {l:μ}:YR (.sl e k l) (.sl false k l):=.sl rfl λi a b d c=>by rw[d] at c;cases c;exact .refl _
theorem YR.nil {e:Bool} {k a:Nat}:YR (.sl e k []) (.sl false a []):=λS B σ v x=>by
 have g:∀(l:μ),l=[]->υ S B σ (.sl e k l) v->υ S B σ (.sl false a []) v:=λl c x=>by
  cases x with
  | VY base cap d=>exact .VY base cap λx=>by cases x
  | sl b o cap w f h i j m=>subst c;exact .VY _ cap λx=>by cases x
 exact g [] U x
theorem YR.map {m:Type} {f g:m->Ψ} {e:Bool} {k:Nat} {l:List m} (h:∀x∈l,ZN (f x).cells (g x).cells):YR (.sl e k (l.map f)) (.sl false k (l.map g)):=.sl Ω λi a b c d=>by
 rw[Yc] at c d;cases j:l[i]? with
 | none=>rw[j] at c;cases c
 | some x=>rw[j] at c d;cases c;cases d;exact h x (Y1 j)
theorem ZN.one {a b:Ψ} (h:YR a b) (c:a.cells=[a]) (d:b.cells=[b]):ZN a.cells b.cells:=by rw[c,d];exact .cons h .nil
section
variable {P:Program} {σ:Ξ}
theorem XN.Nc {S:κ} {B:Z5} {l m:μ} {vs:ζ} (h:ZN l m) (k:XN S B σ l vs):XN S B σ m vs:=⟨h.1.symm.trans k.1,λi b v hi hv=>by
 have c:i<l.length:=by rw[h.1];exact(Zo.1 hi).1
 have a:=Z7 c;exact h.2 i _ b a hi S B σ v (k.2 i _ v a hv)⟩
theorem Μ.Tt {g:FuncId} {args d:μ} {K K' E:Ψ->Ξ->Prop} (h:Μ P g args σ K E) (i:ZN d args) (j:∀a s,K a s->∃b,YR a b/\K' b s):Μ P g d σ K' E:=
 ⟨h.1,λk mn x c rest S B H vs l m hv e=>h.2 k mn x c rest S B H vs l m (hv.Nc i) ⟨λa σ' f B' H' v n o p r t=>by
  obtain⟨b,u,w⟩:=j a σ' n;exact e.ret b σ' f B' H' v w o p r (u f B' σ' v t),e.Na⟩⟩
def Κ (P:Program) (g:FuncId) (args:μ) (r:Ψ):Prop:=Μ P g args [] (λa s=>YR a r/\s=[]) (λ_ _=>False)
theorem Κ.ct {g:FuncId} {args b:μ} {r:Ψ} (h:Κ P g args r) (c:ZN b args):LC P g b r:=Μ.Tt h c λa s ⟨d,e⟩=>⟨r,d,rfl,e⟩
theorem Κ.c {g:FuncId} {args b:μ} {r:Ψ} {K E:Ψ->Ξ->Prop} (h:Κ P g args r) (d:ZN b args) (e:∀a∈b,ς 0 a) (f:ς 0 r) (i:K r σ):Wm P (.fn (.func g) [] []) b σ K E:=
 LC.call (first:=[]) (captured:=[]) (by simpa using h.ct d) (by simpa using e) f i
theorem Κ.p {g:FuncId} {args b:μ} {r:Ψ} (h:Κ P g args r) (d:ZN b args) (e:∀a∈b,ς 0 a) (f:ς 0 r):XM P (.fn (.func g) [] []) b r:=λ_=>h.c d e f ⟨rfl,rfl⟩
theorem Κ.d {g:FuncId} {args:μ} {r:Ψ} {K E:Ψ->Ξ->Prop} (h:Κ P g args r) (b:K r σ) (e:∀a∈args,ς 0 a:=by simp) (f:ς 0 r:=by simp):Wm P (.fn (.func g) [] []) args σ K E:=h.c (ZN.refl _) e f b
theorem Κ.q {g:FuncId} {args:μ} {r:Ψ} (h:Κ P g args r) (b:∀a∈args,ς 0 a:=by simp) (c:ς 0 r:=by simp):XM P (.fn (.func g) [] []) args r:=h.p (ZN.refl _) b c
theorem Κ.cc {g:FuncId} {args b first captured:μ} {r:Ψ} {K E:Ψ->Ξ->Prop} (h:Κ P g args r) (c:ZN (first++b++captured) args) (d:∀a∈first++b++captured,ς 0 a) (e:ς 0 r) (f:K r σ):Wm P (.fn (.func g) first captured) b σ K E:=
 LC.call (h.ct c) d e f
end
theorem X'.own {h id n k:Nat} {σ:Ξ} {t:TypeId} {l:μ} (i:h<=id) (m:σ[id]?=some (.cells t k l)) (d:l.length=n) (o:∀e∈l,∀a∈e.cells,ς h a):X' h σ (.ms id n 0 n) (.sl false k l):=by
 refine .ms i m d J d (λj e p b c=>?_) (λj e p b c x a r f g=>?_)
 .rw[US] at b;rw[b] at c;cases c;rfl
 .rw[US] at b;rw[b] at c;cases c;rw[f] at g;cases g;exact .low (o e (Y1 b) a (Y1 f))
def fill {a:Type} (f:a->Ψ) (z:Ψ) (l:List a) (i:Nat):μ:=(l.take i).map f++List.replicate (l.length-i) z
theorem D1 {a:Type} (f:a->Ψ) (z:Ψ) (l:List a):fill f z l 0=List.replicate l.length z:=by simp[fill]
theorem DZ {a:Type} (f:a->Ψ) (z:Ψ) (l:List a) {i:Nat} (h:l.length<=i):fill f z l i=l.map f:=by simp[fill,VP h,Nat.sub_eq_zero_of_le h]
theorem DY {a:Type} (f:a->Ψ) (z:Ψ) (l:List a) {i:Nat} (h:i<=l.length):(fill f z l i).length=l.length:=by simp[fill];omega
theorem xP {a:Type} (f:a->Ψ) (z:Ψ) (l:List a) {i:Nat} (h:i<l.length):(fill f z l i)[i]?=some z:=by
 unfold fill;rw[Xj (by simp;omega),Ml];rw[if_pos (by simp;omega)]
theorem DX {a:Type} (f:a->Ψ) (z:Ψ) (l:List a) {i:Nat} (h:i<l.length):(fill f z l i).set i (f l[i])=fill f z l (i+1):=by
 unfold fill;have b:l.length-i=(l.length-(i+1))+1:=J;have Ρ:((l.take i).map f).length=i:=by simp;omega
 rw[b,List.replicate_succ,Py _ _ J,Ρ,Ps,List.set_cons_zero,Ws h,XA,TH];rfl
end Go.TL
namespace Go.TL
open Go.Proofs.Tryz
open Go.Proofs
variable [ZP]
def G7 (P:Program) (t:TypeId):Option (List (TypeDesc×Nat)):=
 if P.eqGuardType P.depth t=false then match P.underlying t with
  | some (.struct a)=>if P.stoodInHeld t=false/\a.toList.map (·.offset)=List.range a.toList.length/\(a.toList.all λf=>f.name != "_" && match P.underlying f.type with|some d=>Vv d|none=>false)=true then some (a.toList.map λf=>((P.underlying f.type).getD .invalid,f.offset)) else none
  | some (.array n e)=>match P.underlying e,P.info? e with
   | some d,some f=>if Vv d=true/\f.size=1 then some ((List.range n).map λi=>(d,i)) else none
   | _,_=>none
  | _=>none
 else none
theorem xO (P:Program) (t:TypeId):Hw P t (G7 P t):=by
 unfold G7;split
 .rename_i g;split
  .rename_i h b;split
   .rename_i a;refine⟨g,by rw[Ra,X2];exact a.2.1,.inl ⟨h,b,a.1,U,λf c=>?_⟩⟩;have:=V5.1 a.2.2 f c;simp only[VO,bne_iff_ne,ne_eq] at this;refine⟨this.1,?_⟩;cases hd:P.underlying f.type with
    | none=>rw[hd] at this;simp at this
    | some d=>rw[hd] at this;exact⟨d,rfl,this.2⟩
   .trivial
  .rename_i n e b;split
   .rename_i d f hd c;split
    .rename_i a;exact⟨g,by rw[Ra,X2,List.length_range];exact(Mh λ_ _=>rfl).trans (List.map_id _),.inr ⟨n,e,d,f,b,hd,a.1,c,a.2,U⟩⟩
    .trivial
   .trivial
  .trivial
 .trivial
def ZR.of (P:Program):ZR:=λt=>match P.underlying t,P.info? t with
 | some d,some i=>match i.zero with|some z=>some ⟨i.size,d,z,i.bytes,G7 P t⟩|none=>none
 | _,_=>none
theorem ZR.Jd (P:Program):Zv P (ZR.of P):=λt i h=>by
 unfold ZR.of at h;split at h
 .rename_i d f hd a;split at h
  .rename_i z b;cases h;exact⟨⟨hd,xO P t⟩,f,a,U,b,U⟩
  .cases h
 .cases h
noncomputable def ZS:ZR:=ZR.of prog
theorem Ο:Zv prog ZS:=ZR.Jd _
def Pe (b:List (Nat×Nat)) (a:Value) (c:Ψ->Bool) (parts:List (Nat×Ψ)):Y8:=
 match QV (λx=>(b[x]?).map λp=>(0,p.1,p.2)) (Wc a).cells.length c [Wc a] parts with
 | some [e]=>.ok (.ZW e.cells)
 | _=>.bad
def Lw (es:Nat) (a:Value) (b:Ψ->Bool) (parts:List (Nat×Ψ)):Y8:=
 match QV (λx=>some (0,x*es,es)) (Wc a).cells.length b [Wc a] parts with
 | some [e]=>.ok (.ZW e.cells)
 | _=>.bad
theorem mixed:prog.follows .mixedOrders=true:=by kernel_rfl
section
variable {P:Program} {m nt:Nat} {k:Zz} {env:Β} {σ:Ξ} {Z:XO} {E:Ya}
theorem W.iter {ι:Type} {c:Code} (Inv:ι->Prop) (b:ι->Β) (e:ι->Ξ) (f:ι->Nat) (d:ι) (g:Inv d) (j:σ=e d) (l:∀p∈b d,Z3 env p.1=p.2)
  (step:∀i,Inv i->(∀a,Inv a->f a<f i->W P m nt (.inLoop c::k) (b a) (e a) Z E)->W P m nt (.code c::.inLoop c::k) (b i) (e i) Z E):W P m nt (.code (.loop c)::k) env σ Z E:=by
 refine .loop (.forget (b d) l ?_);rw[j];have o:∀(n:Nat) (i:ι),f i<n->Inv i->W P m nt (.code c::.inLoop c::k) (b i) (e i) Z E:=by
  intro n
  induction n with
  | zero=>intro i h;omega
  | succ n r=>intro i hi s;exact step i s λa t u=>.inLoop (r a J t)
 exact o _ d (Qj _) g
end
section
variable {P:Program} {m nt:Nat} {k:Zz} {env:Β} {σ:Ξ} {Z:XO} {E:Ya}
theorem W.YH {c:Operand} {a e:Code} {v:Bool} (b:ε env c=.z (.bool v)) (d:v=true->W P m nt (.code a::k) env σ Z E) (f:v=false->W P m nt (.code e::k) env σ Z E):W P m nt (.code (.cond c a e)::k) env σ Z E:=by
 refine .cond b ?_;cases v with
 | true=>exact d rfl
 | false=>exact f rfl
theorem Ζ {c:Operand} {a e:Code} (b:ε env c=.z (.bool true)) (h:W P m nt (.code a::k) env σ Z E):W P m nt (.code (.cond c a e)::k) env σ Z E:=.cond b h
theorem Η {c:Operand} {a e:Code} (b:ε env c=.z (.bool false)) (h:W P m nt (.code e::k) env σ Z E):W P m nt (.code (.cond c a e)::k) env σ Z E:=.cond b h
theorem Μ.body {F:Ψ->Ξ->Prop} {T:ZR} (d:Zv P T) {g:FuncId} {fn:Func} {b:Code} (e:P.funcs[g]?=some fn) (f:fn.body=some b) (i:(fn.name == "runtime.NumGoroutine")=false) {args:μ} {K:Ψ->Ξ->Prop} {c:List ResultVar} (j:fn.ntmps=nt) (k:σ.length=m) (l:fn.results.toList=c) (n:args.length<=nt)
  (h:W P m nt [.code b] (entry 0 args) σ (Ends T c K) (λa _ s=>F a s)):Μ P g args σ K F:=by
 subst j;subst k;subst l;exact .yf d e f i n h
end
abbrev I (i:Int):Ψ:=.z (.int .i64 i)
abbrev ν (b:Bool):Ψ:=.z (.bool b)
abbrev δ {a:Type} (enc:a->Ψ) (k:Nat) (l:List a):Ψ:=.sl false k (l.map enc)
abbrev U4 (b:ByteArray):Ψ:=.z (.string b)
@[simp] theorem oU (x y:Int):(x==y)=decide (x=y):=by rw[Pu];simp
@[simp] theorem oT (a b:Nat):((a:Int)=(b:Int))↔a=b:=J
attribute [simp] ye yd Jp yc yb YD ya U5
attribute [congr] yo yl yk or_congr x6 x5
attribute [simp] idx yq yp yn ym Sy He x4 xY xX x3 x2 x1 x0 xZ Oc Vt V2 Y8.or Y8.Yo YP.holds Xx Wz Zn Z3 ε Wc LU entry Rz P4 Nb JB P8 Nm Nd Ni J0 Nh JY JZ Pe QV Ψ.P7 Ψ.Yr Ψ.Nf Lw QX VX.agg J9 SD J7 SC J5 SB
 JM JL JO JN RA Ka J' JK J3 P6 JQ RB LN LM JX P3 Jx Pj LG LF JA Jy Jz Oe Jv Jw Of aeqv U6 Tx Og V3 SA Sz Hi JH LH JG JF JE JC JD LL JV JW Ψ.cells Sx P1 Jr Ends P2 M'
@[simp] theorem oS {k:IntKind}:Uj (.int k)=false:=rfl
@[simp] theorem oR:Uj .bool=false:=rfl
@[simp] theorem oQ:Uj .string=false:=rfl
@[simp] theorem oP {e:TypeId}:Uj (.slice e)=false:=rfl
@[simp] theorem oO {a b:TypeId}:Uj (.map a b)=false:=rfl
@[simp] theorem oN {a:TypeId}:Uj (.pointer a)=false:=rfl
@[simp] theorem oM {n:Nat} {a:TypeId}:Uj (.array n a)=true:=rfl
theorem xN {P:Nat->Prop} (n:Nat) (h:n<256) (a:∀m,m<256->P m):P n:=a n h
section
variable {m nt l:Nat} {a c:Code} {k:Zz} {env:Β} {σ:Ξ} {Z:XO} {E:Ya}
class M6 [ZP] (k:Zz) (a:outParam (Zz)):Prop where
 h:∀{P:Program} {m nt:Nat} {env:Β} {σ:Ξ} {Z:XO} {E:Ya},W P m nt a env σ Z E->W P m nt k env σ Z E
instance:M6 (.code (.seq a c)::k) (.code a::.code c::k):=⟨.seq⟩
instance:M6 (.code (.block l c)::k) (.code c::.inBlock l::k):=⟨.block⟩
instance:M6 (.inBlock l::k) k:=⟨.inBlock⟩
instance:M6 (.code .skip::k) k:=⟨.skip⟩
theorem Ν {P:Program} {a:Zz} [M6 k a] (h:W P m nt a env σ Z E):W P m nt k env σ Z E:=M6.h h
theorem WU {P:Program} (h:W P m nt (.code a::.code c::k) env σ Z E):W P m nt (.code (.seq a c)::k) env σ Z E:=.seq h
theorem wb {P:Program} (h:W P m nt (.code c::.inBlock l::k) env σ Z E):W P m nt (.code (.block l c)::k) env σ Z E:=.block h
theorem Wl {P:Program} (h:W P m nt k env σ Z E):W P m nt (.inBlock l::k) env σ Z E:=.inBlock h
theorem wd {P:Program} (h:W P m nt k env σ Z E):W P m nt (.code .skip::k) env σ Z E:=.skip h
theorem YZ {id:Nat} {ops:ZC} (h:∀a:Β->Ξ->Prop,(∀env σ,W prog m nt k env σ Z E->a env σ)->run prog ZS [] nt ops (idx ops.size []) env σ a E):W prog m nt (.code (.region id ops false)::k) env σ Z E:=YY Ο h
end
theorem W.rt {P:Program} {T:ZR} {b:List ResultVar} {K:Ψ->Ξ->Prop} {m nt:Nat} {k:Zz} {env:Β} {σ:Ξ} {E:Ya} {a:Ψ} {p:Prop} {s:Ξ} (h:p) (e:Sx T b env σ=some a:=by exact rfl) (c:K a σ=(p/\s=s):=by exact rfl):W P m nt (.code .ret::k) env σ (Ends T b K) E:=.ret ⟨a,e,c▸⟨h,U⟩⟩
theorem W.XL {P:Program} {T:ZR} {b:List ResultVar} {K:Ψ->Ξ->Prop} {m nt:Nat} {k:Zz} {env:Β} {σ:Ξ} {E:Ya} {a:Ψ}  {s : List Row} (e : Sx T b env σ = some a := by exact rfl) (c : K a σ = (YR a a /\ s = s) := by exact rfl) : W P m nt (.code .ret::k) env σ (Ends T b K) E := W.rt (.refl _) e c
theorem W.ZA {P:Program} {T:ZR} {c:List ResultVar} {K:Ψ->Ξ->Prop} {m nt:Nat} {k:Zz} {env:Β} {σ:Ξ} {E:Ya} {a:Ψ}  {b : Ψ} {s : List Row} (h : a = b) (e : Sx T c env σ = some a := by exact rfl) (d : K a σ = (YR a b /\ s = s) := by exact rfl) : W P m nt (.code .ret::k) env σ (Ends T c K) E := W.rt (.of h) e d
end Go.TL
namespace Go.TL
open Go.Proofs.Tryz
open Go.Proofs
theorem Υ {a b:Prop} (x:a) (y:b):a/\b:=⟨x,y⟩
theorem YQ {p q:Prop} (k:q) (h:q->p:=by intro k;(repeat (first|apply Ν|apply WU|apply wb|apply Wl|apply wd));exact k):p:=h k
theorem Χ {p q:Prop} (k:q) (h:q->p:=by intro k;(repeat (first|apply Ν|apply WU|apply wb|apply Wl|apply wd|(refine YZ λb a=>?_;simp;(repeat (rw[Θ];simp));apply a)));exact k):p:=h k
theorem Ι {p f:Prop} {q:f->Prop} (a:f) (k:q a) (h:∀a,q a->p:=by intro b k;(repeat (first|apply Ν|apply WU|apply wb|apply Wl|apply wd|(refine YZ λd c=>?_;simp;(repeat (rw[Θ];simp[b]));apply c)));exact k):p:=h a k
theorem Wa {p q:Prop} (k:q) (h:q->p:=by intro k;(repeat (first|apply Ν|apply WU|apply wb|apply Wl|apply wd|refine Ζ rfl ?_|refine Η rfl ?_|(refine YZ λb a=>?_;simp;(repeat (rw[Θ];simp));apply a)));exact k):p:=h k
theorem V9 {p f:Prop} {q:f->Prop} (a:f) (k:q a) (h:∀a,q a->p:=by intro b k;(repeat (first|apply Ν|apply WU|apply wb|apply Wl|apply wd|refine Ζ rfl ?_|refine Η rfl ?_|(refine YZ λd c=>?_;simp;(repeat (rw[Θ];simp[b]));apply c)));exact k):p:=h a k
theorem Xh {p q:Prop} (k:q) (h:q->p:=by intro k;refine YZ λb a=>?_;simp;(repeat (rw[Θ];simp));apply a;exact k):p:=h k
theorem Ts {p f:Prop} {q:f->Prop} (a:f) (k:q a) (h:∀a,q a->p:=by intro b k;refine YZ λd c=>?_;simp;(repeat (rw[Θ];simp[b]));apply c;exact k):p:=h a k
theorem Z8 {p:Prop} {H:(Β->Ξ->Prop)->Prop} {q:∀K,H K->Prop} (k:∀K h,q K h) (h:(∀K h,q K h)->p:=by intro k;(repeat (first|apply Ν|apply WU|apply wb|apply Wl|apply wd));refine YZ λa b=>?_;simp;(repeat (rw[Θ];simp));exact k a b):p:=h k
theorem XD {p f:Prop} {H:(Β->Ξ->Prop)->Prop} {q:f->∀K,H K->Prop} (a:f) (k:∀K h,q a K h) (h:∀a,(∀K h,q a K h)->p:=by intro b k;(repeat (first|apply Ν|apply WU|apply wb|apply Wl|apply wd));refine YZ λc d=>?_;simp;(repeat (rw[Θ];simp[b]));exact k c d):p:=h a k
theorem Z9 {p q:Prop} (k:q) (h:q->p:=by intro k;simp;(repeat (rw[Θ];simp));exact k):p:=h k
theorem XK {p f:Prop} {q:f->Prop} (a:f) (k:q a) (h:∀a,q a->p:=by intro b k;simp[b];(repeat (rw[Θ];simp[b]));exact k):p:=h a k
theorem Xa {p q:Prop} (k:q) (h:q->p:=by intro k;simp;(repeat (rw[Z1];simp));(try rw[Z2]);exact k):p:=h k
theorem V8 {p f:Prop} {q:f->Prop} (a:f) (k:q a) (h:∀a,q a->p:=by intro b k;simp[b];(repeat (rw[Z1];simp[b]));(try rw[Z2]);exact k):p:=h a k
theorem Zf {a b:Prop} (k:b) (h:a:=by exact Yq Zr):a/\b:=⟨h,k⟩
theorem Pd {p q:Prop} (k:q) (h:q->p:=by intro k;refine W.draw (A:=[]) Ο mixed λb a=>?_;simp;(repeat (rw[Z1];simp));(try rw[Z2]);refine Zf (a _ _ ?_);exact k):p:=h k
theorem XJ {p f:Prop} {q:f->Prop} (a:f) (k:q a) (h:∀a,q a->p:=by intro b k;refine W.draw (A:=[]) Ο mixed λd c=>?_;simp;(repeat (rw[Z1];simp[b]));(try rw[Z2]);refine Zf (c _ _ ?_);exact k):p:=h a k
end Go.TL
namespace Go.TL
open Go.Proofs.Tryz
open Go.Proofs
variable [ZP]
@[simp] theorem t3:ZS 3=some ⟨1,.int .i64,.int .i64 0,8,none⟩:=by kernel_rfl
@[simp] theorem t4:ZS 4=some ⟨1,.bool,.bool false,1,none⟩:=by kernel_rfl
@[simp] theorem t5:ZS 5=some ⟨1,.int .u8,.int .u8 0,1,none⟩:=by kernel_rfl
@[simp] theorem t9:ZS 9=some ⟨1,.string,.string ⟨#[]⟩,16,none⟩:=by kernel_rfl
@[simp] theorem t21:ZS 21=some ⟨1,.int .i32,.int .i32 0,4,none⟩:=by kernel_rfl
@[simp] theorem t22:ZS 22=some ⟨1,.slice 77,.slice none 0 0,24,none⟩:=by kernel_rfl
@[simp] theorem oL:Wn ZS 22=some (77,2,none):=by kernel_rfl
@[simp] theorem t23:ZS 23=some ⟨1,.slice 29,.slice none 0 0,24,none⟩:=by kernel_rfl
@[simp] theorem oK:Wn ZS 23=some (29,1,none):=by kernel_rfl
@[simp] theorem t24:ZS 24=some ⟨1,.slice 60,.slice none 0 0,24,none⟩:=by kernel_rfl
@[simp] theorem oJ:Wn ZS 24=some (60,1,none):=by kernel_rfl
noncomputable def DW:TypeDesc:=((ZS 26).getD ⟨0,.bool,.nilFunc,0,none⟩).ZE
@[simp] theorem t26:ZS 26=some ⟨3,DW,.agg #[.slice none 0 0,.slice none 0 0,.slice none 0 0],72,none⟩:=by kernel_rfl
@[simp] theorem oI:Uj DW=true:=by kernel_rfl
@[simp] theorem oH:W5 ZS 26 0=some (0,22):=by kernel_rfl
@[simp] theorem oG:W5 ZS 26 1=some (1,23):=by kernel_rfl
@[simp] theorem oF:W5 ZS 26 2=some (2,24):=by kernel_rfl
@[simp] theorem oE (a:Ψ->Bool) (b:List (Nat×Ψ)):Ty ZS a 26 b=Pe [(0,1),(1,1),(2,1)] (.agg #[.slice none 0 0,.slice none 0 0,.slice none 0 0]) a b:=by kernel_rfl
noncomputable def G6:TypeDesc:=((ZS 28).getD ⟨0,.bool,.nilFunc,0,none⟩).ZE
@[simp] theorem t28:ZS 28=some ⟨3,G6,.agg #[.int .i64 0,.int .i64 0,.int .i64 0],24,some [(.int .i64,0),(.int .i64,1),(.int .i64,2)]⟩:=by kernel_rfl
@[simp] theorem oD:Uj G6=true:=by kernel_rfl
@[simp] theorem oC:W5 ZS 28 0=some (0,3):=by kernel_rfl
@[simp] theorem oB:W5 ZS 28 1=some (1,3):=by kernel_rfl
@[simp] theorem oA:W5 ZS 28 2=some (2,3):=by kernel_rfl
@[simp] theorem oz (a:Ψ->Bool) (b:List (Nat×Ψ)):Ty ZS a 28 b=Pe [(0,1),(1,1),(2,1)] (.agg #[.int .i64 0,.int .i64 0,.int .i64 0]) a b:=by kernel_rfl
@[simp] theorem t29:ZS 29=some ⟨1,.slice 3,.slice none 0 0,24,none⟩:=by kernel_rfl
@[simp] theorem oy:Wn ZS 29=some (3,1,none):=by kernel_rfl
@[simp] theorem t34:ZS 34=some ⟨1,.slice 26,.slice none 0 0,24,none⟩:=by kernel_rfl
@[simp] theorem ox:Wn ZS 34=some (26,3,none):=by kernel_rfl
@[simp] theorem t38:ZS 38=some ⟨1,.int .i64,.int .i64 0,8,none⟩:=by kernel_rfl
@[simp] theorem t60:ZS 60=some ⟨1,.slice 28,.slice none 0 0,24,none⟩:=by kernel_rfl
@[simp] theorem ow:Wn ZS 60=some (28,3,none):=by kernel_rfl
@[simp] theorem t65:ZS 65=some ⟨1,.slice 23,.slice none 0 0,24,none⟩:=by kernel_rfl
@[simp] theorem ov:Wn ZS 65=some (23,1,none):=by kernel_rfl
noncomputable def DV:TypeDesc:=((ZS 72).getD ⟨0,.bool,.nilFunc,0,none⟩).ZE
@[simp] theorem t72:ZS 72=some ⟨1,DV,.nilFunc,8,none⟩:=by kernel_rfl
@[simp] theorem ou:Uj DV=false:=by kernel_rfl
noncomputable def G5:TypeDesc:=((ZS 77).getD ⟨0,.bool,.nilFunc,0,none⟩).ZE
@[simp] theorem t77:ZS 77=some ⟨2,G5,.agg #[.string ⟨#[]⟩,.int .i64 0],24,some [(.string,0),(.int .i64,1)]⟩:=by kernel_rfl
@[simp] theorem ot:Uj G5=true:=by kernel_rfl
@[simp] theorem oq:W5 ZS 77 0=some (0,9):=by kernel_rfl
@[simp] theorem oo:W5 ZS 77 1=some (1,3):=by kernel_rfl
@[simp] theorem om (a:Ψ->Bool) (b:List (Nat×Ψ)):Ty ZS a 77 b=Pe [(0,1),(1,1)] (.agg #[.string ⟨#[]⟩,.int .i64 0]) a b:=by kernel_rfl
@[simp] theorem t91:ZS 91=some ⟨1,.int .u64,.int .u64 0,8,none⟩:=by kernel_rfl
@[simp] theorem oj:W5 ZS 93 0=some (0,29):=by kernel_rfl
@[simp] theorem oi:W5 ZS 93 1=some (1,91):=by kernel_rfl
@[simp] theorem oh (a:Ψ->Bool) (b:List (Nat×Ψ)):Ty ZS a 93 b=Pe [(0,1),(1,1)] (.agg #[.slice none 0 0,.int .u64 0]) a b:=by kernel_rfl
@[simp] theorem t95:ZS 95=some ⟨1,.int .u64,.int .u64 0,8,none⟩:=by kernel_rfl
noncomputable def DU:TypeDesc:=((ZS 98).getD ⟨0,.bool,.nilFunc,0,none⟩).ZE
@[simp] theorem t98:ZS 98=some ⟨3,DU,.agg #[.slice none 0 0,.slice none 0 0,.slice none 0 0],72,none⟩:=by kernel_rfl
@[simp] theorem og:Uj DU=true:=by kernel_rfl
@[simp] theorem oe:W5 ZS 98 0=some (0,26):=by kernel_rfl
@[simp] theorem od (a:Ψ->Bool) (b:List (Nat×Ψ)):Ty ZS a 98 b=Pe [(0,3)] (.agg #[.slice none 0 0,.slice none 0 0,.slice none 0 0]) a b:=by kernel_rfl
@[simp] theorem t99:ZS 99=some ⟨1,.slice 110,.slice none 0 0,24,none⟩:=by kernel_rfl
@[simp] theorem oc:Wn ZS 99=some (110,3,none):=by kernel_rfl
@[simp] theorem t102:ZS 102=some ⟨2,.array 2 3,.agg #[.int .i64 0,.int .i64 0],16,some [(.int .i64,0),(.int .i64,1)]⟩:=by kernel_rfl
@[simp] theorem ob:Wn ZS 102=some (3,1,some 2):=by kernel_rfl
@[simp] theorem oa (a:Ψ->Bool) (b:List (Nat×Ψ)):Ty ZS a 102 b=Lw 1 (.agg #[.int .i64 0,.int .i64 0]) a b:=by kernel_rfl
noncomputable def xM:TypeDesc:=((ZS 104).getD ⟨0,.bool,.nilFunc,0,none⟩).ZE
@[simp] theorem t104:ZS 104=some ⟨4,xM,.agg #[.int .i64 0,.int .i64 0,.int .i64 0,.bool false],32,none⟩:=by kernel_rfl
@[simp] theorem n':W5 ZS 104 0=some (0,102):=by kernel_rfl
@[simp] theorem n9:W5 ZS 104 1=some (2,3):=by kernel_rfl
@[simp] theorem n8:W5 ZS 104 2=some (3,4):=by kernel_rfl
@[simp] theorem t106:ZS 106=some ⟨1,.map 113 3,.map none,8,none⟩:=by kernel_rfl
@[simp] theorem t107:ZS 107=some ⟨2,.array 2 3,.agg #[.int .i64 0,.int .i64 0],16,some [(.int .i64,0),(.int .i64,1)]⟩:=by kernel_rfl
@[simp] theorem n7 (a:Ψ->Bool) (b:List (Nat×Ψ)):Ty ZS a 107 b=Lw 1 (.agg #[.int .i64 0,.int .i64 0]) a b:=by kernel_rfl
@[simp] theorem t108:ZS 108=some ⟨1,.slice 111,.slice none 0 0,24,none⟩:=by kernel_rfl
@[simp] theorem n6:Wn ZS 108=some (111,1,none):=by kernel_rfl
noncomputable def G4:TypeDesc:=((ZS 110).getD ⟨0,.bool,.nilFunc,0,none⟩).ZE
@[simp] theorem t110:ZS 110=some ⟨3,G4,.agg #[.int .i64 0,.int .i64 0,.slice none 0 0],40,none⟩:=by kernel_rfl
@[simp] theorem n5:Uj G4=true:=by kernel_rfl
@[simp] theorem n4:W5 ZS 110 0=some (0,107):=by kernel_rfl
@[simp] theorem n3:W5 ZS 110 1=some (2,108):=by kernel_rfl
@[simp] theorem n2 (a:Ψ->Bool) (b:List (Nat×Ψ)):Ty ZS a 110 b=Pe [(0,2),(2,1)] (.agg #[.int .i64 0,.int .i64 0,.slice none 0 0]) a b:=by kernel_rfl
@[simp] theorem t111:ZS 111=some ⟨1,.slice 112,.slice none 0 0,24,none⟩:=by kernel_rfl
@[simp] theorem n1:Wn ZS 111=some (112,2,none):=by kernel_rfl
@[simp] theorem t112:ZS 112=some ⟨2,.array 2 3,.agg #[.int .i64 0,.int .i64 0],16,some [(.int .i64,0),(.int .i64,1)]⟩:=by kernel_rfl
@[simp] theorem n0:Wn ZS 112=some (3,1,some 2):=by kernel_rfl
@[simp] theorem nZ (a:Ψ->Bool) (b:List (Nat×Ψ)):Ty ZS a 112 b=Lw 1 (.agg #[.int .i64 0,.int .i64 0]) a b:=by kernel_rfl
@[simp] theorem t113:ZS 113=some ⟨1,.int .i64,.int .i64 0,8,none⟩:=by kernel_rfl
@[simp] theorem t116:ZS 116=some ⟨1,.slice 147,.slice none 0 0,24,none⟩:=by kernel_rfl
@[simp] theorem nY:Wn ZS 116=some (147,2,none):=by kernel_rfl
@[simp] theorem t132:ZS 132=some ⟨1,.slice 21,.slice none 0 0,24,none⟩:=by kernel_rfl
@[simp] theorem nX:Wn ZS 132=some (21,1,none):=by kernel_rfl
@[simp] theorem t139:ZS 139=some ⟨3,.array 3 72,.agg #[.nilFunc,.nilFunc,.nilFunc],24,none⟩:=by kernel_rfl
@[simp] theorem nW (a:Ψ->Bool) (b:List (Nat×Ψ)):Ty ZS a 139 b=Lw 1 (.agg #[.nilFunc,.nilFunc,.nilFunc]) a b:=by kernel_rfl
noncomputable def G3:TypeDesc:=((ZS 147).getD ⟨0,.bool,.nilFunc,0,none⟩).ZE
@[simp] theorem t147:ZS 147=some ⟨2,G3,.agg #[.slice none 0 0,.slice none 0 0],48,none⟩:=by kernel_rfl
@[simp] theorem nV:Uj G3=true:=by kernel_rfl
@[simp] theorem nU:W5 ZS 147 1=some (1,65):=by kernel_rfl
@[simp] theorem nT (a:Ψ->Bool) (b:List (Nat×Ψ)):Ty ZS a 147 b=Pe [(0,1),(1,1)] (.agg #[.slice none 0 0,.slice none 0 0]) a b:=by kernel_rfl
@[simp] theorem t156:ZS 156=some ⟨1,.map 157 3,.map none,8,none⟩:=by kernel_rfl
@[simp] theorem t157:ZS 157=some ⟨4,.array 4 113,.agg #[.int .i64 0,.int .i64 0,.int .i64 0,.int .i64 0],32,some [(.int .i64,0),(.int .i64,1),(.int .i64,2),(.int .i64,3)]⟩:=by kernel_rfl
@[simp] theorem nS:Wn ZS 157=some (113,1,some 4):=by kernel_rfl
@[simp] theorem t169:ZS 169=some ⟨1,.int .u32,.int .u32 0,4,none⟩:=by kernel_rfl
@[simp] theorem nR:W5 ZS 171 0=some (0,21):=by kernel_rfl
@[simp] theorem nQ:W5 ZS 171 1=some (1,169):=by kernel_rfl
@[simp] theorem nP:W5 ZS 173 1=some (0,171):=by kernel_rfl
@[simp] theorem nO:W5 ZS 177 2=some (0,91):=by kernel_rfl
@[simp] theorem nN:W5 ZS 179 1=some (0,177):=by kernel_rfl
@[simp] theorem nM:W5 ZS 179 2=some (1,169):=by kernel_rfl
@[simp] theorem t190:ZS 190=some ⟨1,.slice 9,.slice none 0 0,24,none⟩:=by kernel_rfl
@[simp] theorem nL:Wn ZS 190=some (9,1,none):=by kernel_rfl
@[simp] theorem t204:ZS 204=some ⟨1,.map 112 4,.map none,8,none⟩:=by kernel_rfl
@[simp] theorem t248:ZS 248=some ⟨1,.int .u64,.int .u64 0,8,none⟩:=by kernel_rfl
@[simp] theorem nK:Ut ZS 22 22=some (77,2,⟨2,G5,.agg #[.string ⟨#[]⟩,.int .i64 0],24,some [(.string,0),(.int .i64,1)]⟩):=by kernel_rfl
@[simp] theorem nJ:Ut ZS 23 23=some (29,1,⟨1,.slice 3,.slice none 0 0,24,none⟩):=by kernel_rfl
@[simp] theorem nI:Ut ZS 24 24=some (60,1,⟨1,.slice 28,.slice none 0 0,24,none⟩):=by kernel_rfl
@[simp] theorem nH:Ut ZS 29 29=some (3,1,⟨1,.int .i64,.int .i64 0,8,none⟩):=by kernel_rfl
@[simp] theorem nG:Ut ZS 60 60=some (28,3,⟨3,G6,.agg #[.int .i64 0,.int .i64 0,.int .i64 0],24,some [(.int .i64,0),(.int .i64,1),(.int .i64,2)]⟩):=by kernel_rfl
@[simp] theorem nF:Ut ZS 65 65=some (23,1,⟨1,.slice 29,.slice none 0 0,24,none⟩):=by kernel_rfl
@[simp] theorem nE:Ut ZS 99 99=some (110,3,⟨3,G4,.agg #[.int .i64 0,.int .i64 0,.slice none 0 0],40,none⟩):=by kernel_rfl
@[simp] theorem nD:Ut ZS 108 108=some (111,1,⟨1,.slice 112,.slice none 0 0,24,none⟩):=by kernel_rfl
@[simp] theorem nC:Ut ZS 111 111=some (112,2,⟨2,.array 2 3,.agg #[.int .i64 0,.int .i64 0],16,some [(.int .i64,0),(.int .i64,1)]⟩):=by kernel_rfl
@[simp] theorem nB:Ut ZS 116 116=some (147,2,⟨2,G3,.agg #[.slice none 0 0,.slice none 0 0],48,none⟩):=by kernel_rfl
@[simp] theorem nA:Ut ZS 132 132=some (21,1,⟨1,.int .i32,.int .i32 0,4,none⟩):=by kernel_rfl
theorem PT:IntKind.i64.wrap 1=1:=ZT
theorem Oa:IntKind.i64.wrap 2=2:=ZT
theorem Yn {i n:Nat} (h:i<n) (a:n<2 ^ 62):IntKind.i64.wrap ((i:Int)+1)=((i+1:Nat):Int):=by
 rw[IntWalk.i64_in _ J];rfl
theorem xL (l:ZZ) (n:Int) (g:l.length<2 ^ 62):Μ prog 112 [δ I 1 l,I n] [] (λa σ=>a=ν (l.contains n)/\σ=[]) (λ_ _=>False):=by
 refine Μ.body Ο func112 U U ntmps112 U U Ω ?_
 repeat apply Ν
 refine Xh ?_
 repeat apply Ν
 refine Xh ?_
 repeat apply Ν
 refine W.iter (λi:Nat=>i<=l.length/\∀j,j<i->(h:j<l.length)->l[j]≠n) (λi=>[(0,δ I 1 l),(1,I n),(5,I i)]) (λ_=>[]) (λi=>l.length-i) 0 ⟨Α _,λj c=>J⟩ U Ω (λi hi k=>?_)
 repeat apply Ν
 refine Xh ?_;refine W.YH U (λb=>?_) (λb=>?_)
 .have b:i<l.length:=by simpa using b
  repeat apply Ν
  refine Ts b ?_;refine W.YH U (λd=>?_) (λd=>?_)
  .have f:l[i]=n:=by simpa using d
   repeat apply Ν
   refine Xh ?_;refine W.ret ?_;simp;exact f▸Yx _
  .have f:l[i]≠n:=by simpa using d
   repeat apply Ν
   refine Xh ?_;refine W.forget _ ?_ (k (i+1) ⟨J,λj c h=>?_⟩ J)
   .simp[Yn b g]
   .by_cases e:j=i
    .subst e;exact f
    .exact hi.2 j J h
 .have b:i=l.length:=by simp at b;omega
  subst b;refine W.exit U ?_
  repeat apply Ν
  refine Xh ?_;refine W.ret ?_;simp;intro h;obtain⟨j,c,e⟩:=S8 h;exact hi.2 j c c e
theorem DT {a:Type} (f:a->Ψ) (z:Ψ) (l:List a) {i:Nat} (h:i<l.length) (b:i<(fill f z l i).length):(fill f z l i)[i]=z:=by
 have:=xP f z l h;rw[Z7 b] at this;exact WW this
theorem G2 (a b:ZZ) (g:a.length<2 ^ 62):Κ prog 30 [δ I 1 a,δ I 1 b] (ν (a==b)):=by
 refine Μ.body Ο func30 U U ntmps30 U U Ω ?_;refine Χ ?_;refine W.iter (λp:Nat×Bool=>p.1<=a.length/\(p.2=true->a.length=b.length/\∀j,j<p.1->a[j]?=b[j]?)/\(p.2=false->a≠b)) (λp=>[(0,δ I 1 a),(1,δ I 1 b),(5,ν p.2),(6,I p.1)]) (λ_=>[]) (λp=>a.length-p.1) (0,decide (a.length=b.length)) ⟨Α _,Ω,by simp;exact λh e=>h (by rw[e])⟩ U Ω (λi hi k=>?_);rcases i with⟨i,_|_⟩
 .refine Χ ?_;refine Η U ?_;refine W.exit U ?_;refine Χ ?_;refine W.ZA ?_;simp[hi.2.2 U]
 .refine Χ ?_;have l:=(hi.2.1 U).1;refine W.YH U (λc=>?_) (λc=>?_)
  .have c:i<a.length:=by simpa using c
   have f:i<b.length:=J;refine Χ ?_;refine XJ (Υ c f) ?_;refine Χ ?_;refine W.forget _ ?_ (k (i+1,decide (a[i]=b[i])) ⟨by simp;omega,λh=>⟨l,λj d=>?_⟩,λh e=>?_⟩ (by simp;omega))
   .simp[Yn c g]
   .by_cases e:j=i
    .subst e;rw[Z7 c,Z7 f];simpa using h
    .exact(hi.2.1 U).2 j (by simp at d;omega)
   .subst e;simp at h
  .have c:a.length<=i:=by simpa using c
   refine W.exit U ?_;refine Χ ?_;refine W.rt ?_;refine .of ?_;have:a=b:=Sj λj=>by
    by_cases d:j<i
    .exact(hi.2.1 U).2 j d
    .rw[Uc J,Uc J]
   simp[this]
theorem xK (l:ZZ) (d:l.length<2 ^ 44):Κ prog 44 [δ I 1 l] (δ I 1 l):=by
 refine Μ.body Ο func44 U U ntmps44 U U Ω ?_
 repeat apply Ν
 refine Xh ?_
 repeat apply Ν
 refine YY (A:=[7]) Ο λe b=>Z9 ?_;refine⟨J,?_⟩;apply b;refine Χ ?_;refine W.iter (λi:Nat=>i<=l.length) (λi=>[(0,δ I 1 l),(3,.ms 0 l.length 0 l.length),(4,I i)]) (λi=>[.cells 3 1 (fill I (I 0) l i)]) (λi=>l.length-i) 0 (Α _) (by simp[D1]) Ω (λi hi c=>?_);refine Χ ?_;refine W.YH U (λa=>?_) (λa=>?_)
 .have a:i<l.length:=by simpa using a
  refine Ι (Υ a (Υ (DY I (I 0) l hi) (Υ (DT I (I 0) l a) (DX I (I 0) l a)))) ?_;refine W.forget _ ?_ (c (i+1) a J);simp[Yn a (show l.length<2 ^ 62 by omega)]
 .have a:l.length<=i:=by simpa using a
  refine W.exit U ?_;refine Χ ?_;refine W.cut 0 (Α _) [(2,δ I 1 l)] Ω Ω (by simp;rw[DZ _ _ _ a];exact .own (Α _) U Ω Ω) ?_;exact W.XL
abbrev ZM (l:List (ZZ)):Ψ:=δ (δ I 1) 1 l
theorem DS (l:List (ZZ)) (g:l.length<2 ^ 40) (c:∀x∈l,x.length<2 ^ 44):Κ prog 74 [ZM l] (ZM l):=by
 refine Μ.body Ο func74 U U ntmps74 U U Ω ?_
 repeat apply Ν
 refine Xh ?_
 repeat apply Ν
 refine YY (A:=[7]) Ο λe b=>Z9 ?_;refine⟨J,?_⟩;apply b;refine Χ ?_;refine W.iter (λi:Nat=>i<=l.length) (λi=>[(0,ZM l),(3,.ms 0 l.length 0 l.length),(4,I i)]) (λi=>[.cells 29 1 (fill (δ I 1) (.sl true 0 []) l i)]) (λi=>l.length-i) 0 (Α _) (by simp[D1]) Ω (λi hi f=>?_);refine Χ ?_;refine W.YH U (λa=>?_) (λa=>?_)
 .have a:i<l.length:=by simpa using a
  refine XD a λe b=>?_;refine Κ.d (xK _ (c _ (Yx _))) (XK (Υ a (Υ (DY (δ I 1) (.sl true 0 []) l hi) (Υ (DT (δ I 1) (.sl true 0 []) l a) (DX (δ I 1) (.sl true 0 []) l a)))) ?_);apply b;refine Χ ?_;refine W.forget _ ?_ (f (i+1) a J);simp[Yn a (show l.length<2 ^ 62 by omega)]
 .have a:l.length<=i:=by simpa using a
  refine W.exit U ?_;refine Χ ?_;refine W.cut 0 (Α _) [(2,ZM l)] Ω Ω (by simp;rw[DZ _ _ _ a];exact .own (Α _) U Ω Ω) ?_;exact W.XL
theorem G1 (l:ZZ) (n:Int) (k:l.length<2 ^ 62):Κ prog 71 [δ I 1 l,I n] (I (if n∈l then(l.idxOf n:Nat) else -1)):=by
 refine Μ.body Ο func71 U U ntmps71 U U Ω ?_;refine Χ ?_;refine W.iter (λi:Nat=>i<=l.length/\∀j,j<i->(h:j<l.length)->l[j]≠n) (λi=>[(0,δ I 1 l),(1,I n),(5,I i)]) (λ_=>[]) (λi=>l.length-i) 0 ⟨Α _,λj d=>J⟩ U Ω (λi hi m=>?_)
 repeat apply Ν
 by_cases a:i<l.length
 .refine Ι a ?_;refine W.YH U (λf=>?_) (λf=>?_)
  .have b:l[i]≠n:=by simpa using f
   refine Χ ?_;refine W.forget _ ?_ (m (i+1) ⟨a,λj d h=>?_⟩ J)
   .simp[Yn a k]
   .by_cases e:j=i
    .subst e;exact b
    .exact hi.2 j J h
  .have b:l[i]=n:=by simpa using f
   refine W.exit U ?_;refine Χ ?_;have o:¬i=l.length:=J;refine Η (by simp[o]) ?_;refine Χ ?_;refine W.rt ?_;have c:n∈l:=b▸Yx _;refine .of ?_;rw[if_pos c];have:l.idxOf n=i:=by
    have g:l.idxOf n<l.length:=List.idxOf_lt_length_of_mem c
    have r:l[l.idxOf n]=n:=List.getElem_idxOf g
    have t:¬l.idxOf n<i:=λh=>hi.2 _ h g r
    have u:¬i<l.idxOf n:=λh=>by
     have:=List.not_of_lt_findIdx (p:=(·==n)) (xs:=l) (i:=i) h;simp[b] at this
    omega
   rw[this];rfl
 .refine Ι a ?_;refine Η U ?_;refine W.exit U ?_;refine Χ ?_;have s:i=l.length:=J;refine Ζ (by simp[s]) ?_;refine Χ ?_;refine W.rt ?_;have c:n∉l:=λh=>by
   obtain⟨j,d,e⟩:=S8 h;exact hi.2 j J d e
  exact .of (by simp[c])
theorem Jc (a b:List (ZZ)) (n:a.length<2 ^ 40) (g:∀x∈a,x.length<2 ^ 40):Κ prog 50 [ZM a,ZM b] (ν (a==b)):=by
 refine Μ.body Ο func50 U U ntmps50 U U Ω ?_;refine Χ ?_;refine W.iter (λp:Nat×Bool=>p.1<=a.length/\(p.2=true->a.length=b.length/\∀j,j<p.1->a[j]?=b[j]?)/\(p.2=false->a≠b)) (λp=>[(0,ZM a),(1,ZM b),(5,ν p.2),(6,I p.1)]) (λ_=>[]) (λp=>a.length-p.1) (0,decide (a.length=b.length)) ⟨Α _,Ω,by simp;exact λh e=>h (by rw[e])⟩ U Ω (λi hi k=>?_);rcases i with⟨i,_|_⟩
 .refine Χ ?_;refine Η U ?_;refine W.exit U ?_;refine Χ ?_;refine W.ZA ?_;simp[hi.2.2 U]
 .refine Χ ?_;have l:=(hi.2.1 U).1;refine W.YH U (λc=>?_) (λc=>?_)
  .have c:i<a.length:=by simpa using c
   have f:i<b.length:=J;refine Χ ?_;refine W.draw (A:=[]) Ο mixed λo m=>V8 (Υ c f) ?_;refine Zc (Κ.q (G2 a[i] b[i] (by have:=g _ (Yx c);omega))) (Xa ?_);refine Zf (m _ _ ?_);refine Χ ?_;refine W.forget _ ?_ (k (i+1,a[i]==b[i]) ⟨by simp;omega,λh=>⟨l,λj d=>?_⟩,λh e=>?_⟩ (by simp;omega))
   .simp[Yn c (show a.length<2 ^ 62 by omega)]
   .by_cases e:j=i
    .subst e;rw[Z7 c,Z7 f];simpa using h
    .exact(hi.2.1 U).2 j (by simp at d;omega)
   .subst e;simp at h
  .have c:a.length<=i:=by simpa using c
   refine W.exit U ?_;refine Χ ?_;refine W.rt ?_;refine .of ?_;have:a=b:=Sj λj=>by
    by_cases d:j<i
    .exact(hi.2.1 U).2 j d
    .rw[Uc J,Uc J]
   simp[this]
structure U3 where
 name:ByteArray
 YJ:Int
deriving DecidableEq
structure YV where
 YX:Int
 seen:Int
 bare:Int
deriving DecidableEq
structure ω where
 χ:List U3
 θ:List (ZZ)
 cells:List (List YV)
deriving DecidableEq
abbrev XW (g:U3):Ψ:=.ZW [U4 g.name,I g.YJ]
abbrev Zi (p:YV):Ψ:=.ZW [I p.YX,I p.seen,I p.bare]
abbrev ZD (l:List U3):Ψ:=δ XW 2 l
abbrev UN (l:List YV):Ψ:=δ Zi 3 l
abbrev Sv (l:List (List YV)):Ψ:=δ UN 1 l
abbrev Zq (s:ω):Ψ:=.ZW [ZD s.χ,ZM s.θ,Sv s.cells]
abbrev ZV (s:ω):Ψ:=.ξ [ZD s.χ,ZM s.θ,Sv s.cells]
def ω.small (s:ω):Prop:=s.χ.length<2 ^ 30/\s.θ.length<2 ^ 30/\s.cells.length<2 ^ 30/\(∀x∈s.θ,x.length<2 ^ 30)/\∀x∈s.cells,x.length<2 ^ 30
def ω.PS (s:ω):Bool:=decide (20<s.χ.length)||decide (20<s.θ.length)||decide (20<s.cells.length)||s.θ.any (λx=>decide (20<x.length))||s.cells.any λx=>decide (20<x.length)
@[simp] theorem nz (x y:Int):(x != y) = !decide (x=y):=by rw[Pu];simp
section
variable {P:Program} {m nt:Nat} {k:Zz} {env:Β} {σ σ':Ξ} {Z:XO} {E:Ya}
theorem W.drop {h:Nat} (c:m<=h) (d:h<=σ.length) (e:∀(id:Nat) (r:Row),id<h->σ[id]?=some r->XF h r) (f:σ.take h=σ') (env':Β) (a:∀p∈env',Z3 env p.1=p.2/\ς h p.2) (g:W P m nt k env' σ' Z E):W P m nt k env σ Z E:=
 W.cut h c env' d e (λp b=>by rw[(a p b).1];exact .low (a p b).2) (by rw[f];exact g)
theorem W.fix {id:Nat} {t:TypeId} {e:Ψ} {kk:Nat} (i:m<=id) (f:σ[id]?=some (.cells t kk [e])) (j:∀a∈e.cells,ς id a) (l:∀(g:Nat) (r:Row),g<id->σ[g]?=some r->XF id r) (n:σ.take id=σ') (env':Β)
  (o:∀p∈env',(Z3 env p.1=p.2/\ς id p.2)\/(Z3 env p.1=.Δ id 1 0 0/\p.2=.ξ e.cells)) (s:W P m nt k env' σ' Z E):W P m nt k env σ Z E:=
 W.cut id i env' (SM (Zo.1 f).1) l (λp u=>by
  rcases o p u with⟨b,c⟩|⟨b,c⟩
  .rw[b];exact .low c
  .rw[b,c];refine .Δ (Z6 _) f U (e:=e) U Ω λx a v d h=>?_;rw[US] at d;rw[d] at h;cases h;exact .low (j a (Y1 d))) (by rw[n];exact s)
theorem W.to {env':Β} (h:W P m nt k env' σ' Z E) (a:σ=σ') (b:∀p∈env',Z3 env p.1=p.2):W P m nt k env σ Z E:=a▸W.forget env' b h
end
abbrev UM (a b:Int):Int:=XT .i64 a b
abbrev Ur (a b:Int):Int:=QY .i64 a b
abbrev N' (a b:Int):Int:=Uu .i64 a b
section
variable {P:Program} {σ:Ξ}
theorem XM.c {f:Ψ} {args:μ} {r:Ψ} {K E:Ψ->Ξ->Prop} (h:XM P f args r) (b:K r σ):Wm P f args σ K E:=
 Wm.mono (h σ) (λa s ⟨d,e⟩=>by subst d;subst e;exact b) (λ_ _ h=>h.elim)
end
def UL (n:Int):Bool:=decide (0<=n)&&decide (n<=2)
theorem R5 (n:Int):Κ prog 93 [I n] (ν (UL n)):=by
 refine Μ.body Ο func93 U U ntmps93 U U Ω ?_;by_cases h:0<=n
 .refine Ι h ?_;refine W.ZA ?_;simp[UL,h]
 .refine Ι h ?_;refine W.ZA ?_;simp[UL,h]
def valid (n:Int):Bool:=decide (0<=n)&&decide (n<=63)
theorem M5 (n:Int):Κ prog 109 [I n] (ν (valid n)):=by
 refine Μ.body Ο func109 U U ntmps109 U U Ω ?_;by_cases h:0<=n
 .refine Ι h ?_;refine W.ZA ?_;simp[valid,h]
 .refine Ι h ?_;refine W.ZA ?_;simp[valid,h]
theorem DR (a b:Int):Κ prog 196 [I a,I b] (ν (UM a b==0)):=by
 refine Μ.body Ο func196 U U ntmps196 U U Ω ?_;refine Χ ?_;refine W.rt ?_;exact .of Ω
theorem DQ (a b:Int):Κ prog 210 [I a,I b] (ν (N' a b==0)):=by
 refine Μ.body Ο func210 U U ntmps210 U U Ω ?_;refine Χ ?_;refine W.rt ?_;exact .of Ω
theorem GZ (b:Bool):Κ prog 127 [ν b] (I (if b then 1 else 0)):=by
 refine Μ.body Ο func127 U U ntmps127 U U Ω ?_;cases b
 .refine Χ ?_;refine Η U ?_;refine Χ ?_;exact W.XL
 .refine Χ ?_;refine Ζ U ?_;refine Χ ?_;exact W.XL
theorem GY (n:Int):Κ prog 193 [I n] (ν false):=by
 refine Μ.body Ο func193 U U ntmps193 U U Ω ?_;refine Χ ?_;refine W.rt ?_;exact .of Ω
def Jb (n:Int):Int:=Ur (Ur (N' n 15) (IntKind.i64.wrap (UM n 5*2))) ((UM n 10).fdiv 2)
theorem xJ (n:Int):Κ prog 99 [I n] (I (Jb n)):=by
 refine Μ.body Ο func99 U U ntmps99 U U Ω ?_;refine Χ ?_;refine W.ZA ?_;simp[Jb,IntKind.bits]
def idxOf {a:Type} (p:a->Bool) (l:List a):Int:=if l.any p then(l.findIdx p:Nat) else -1
theorem Ja {b:Type} {p:b->Bool} {l:List b} {i:Nat} (h:i<l.length) (c:p l[i]=true) (e:∀j,j<i->(g:j<l.length)->p l[j]=false):idxOf p l=(i:Nat):=by
 have f:l.any p=true:=Me.2 ⟨_,Yx h,c⟩
 have:l.findIdx p=i:=by
  have k:¬l.findIdx p<i:=λa=>by
   have d:l.findIdx p<l.length:=J
   have:=List.findIdx_getElem (p:=p) (w:=d);rw[e _ a d] at this;cases this
  have m:¬i<l.findIdx p:=λa=>by
   have:=List.not_of_lt_findIdx a;rw[c] at this;simp at this
  omega
 unfold idxOf;rw[if_pos f,this]
theorem I' {a:Type} {p:a->Bool} {l:List a} (h:∀j,(b:j<l.length)->p l[j]=false):idxOf p l=-1:=by
 have:l.any p=false:=by
  rw[Pw];intro x c;obtain⟨j,b,rfl⟩:=S8 c;simp[h j b]
 unfold idxOf;rw[this];rfl
theorem I9 {a:Type} {p:a->Bool} {l:List a}:decide (idxOf p l>=0)=l.any p:=by
 unfold idxOf;cases h:l.any p<;>simp
theorem xI (l:ZZ) (n:Int) (f:l.length<2 ^ 62):Κ prog 137 [δ I 1 l,I n] (I (idxOf (·==n) l)):=by
 refine Μ.body Ο func137 U U ntmps137 U U Ω ?_;refine Χ ?_;refine W.iter (λi:Nat=>i<=l.length/\∀j,j<i->(h:j<l.length)->(l[j]==n)=false) (λi=>[(0,δ I 1 l),(1,I n),(6,δ I 1 l),(7,I l.length),(8,I i)]) (λ_=>[]) (λi=>l.length-i) 0 ⟨Α _,λj b=>J⟩ U Ω (λi hi g=>?_);refine Χ ?_;refine W.YH U (λa=>?_) (λa=>?_)
 .have a:i<l.length:=by simpa using a
  refine Ι a ?_;refine W.YH U (λc=>?_) (λc=>?_)
  .have d:n=l[i]:=by simpa using c
   refine Χ ?_;refine W.ZA ?_;rw[Ja a (by simp[d]) hi.2];rfl
  .have d:¬n=l[i]:=by simpa using c
   refine Χ ?_;refine W.forget _ ?_ (g (i+1) ⟨J,λj b h=>?_⟩ J)
   .simp[Yn a f]
   .by_cases e:j=i
    .subst e;simpa using λx=>d x.symm
    .exact hi.2 j J h
 .have a:l.length<=i:=by simpa using a
  refine W.exit U ?_;refine Χ ?_;refine W.ZA ?_;rw[I' λj b=>hi.2 j J b];rfl
theorem any_beq (l:ZZ) (n:Int):(l.any λx=>x==n)=l.contains n:=by
 rw[Pu];simp
theorem GX (l:ZZ) (n:Int) (a:l.length<2 ^ 62):Κ prog 110 [δ I 1 l,I n] (ν (l.contains n)):=by
 refine Μ.body Ο func110 U U ntmps110 U U Ω ?_;refine Χ ?_;refine Z8 λc b=>?_;refine Κ.d (xI l n a) (Z9 ?_);apply b;refine Χ ?_;refine W.ZA ?_;rw[<-any_beq,<-I9];rfl
@[simp high] theorem xH {h:Nat} {e:Bool} {k:Nat} {c:Type} {f:c->Ψ} {l:List c}:ς h (.sl e k (l.map f))↔∀x∈l,∀a∈(f x).cells,ς h a:=by
 rw[YD];simp only[YO];exact⟨λH x b=>H _ ⟨x,b,U⟩,λH e ⟨x,b,d⟩=>d▸H x b⟩
@[simp high] theorem ny {h:Nat} {e:Bool} {k n:Nat} {b:Type} {f:b->Ψ} {l:List b}:ς h (.sl e k ((l.map f).take n))↔∀x∈l.take n,∀a∈(f x).cells,ς h a:=by
 rw[<-Ny];exact xH
abbrev Zb (r:Int×Int):Ψ:=.ZW [I r.1,I r.2]
abbrev UK (l:List Zu):Ψ:=δ Zb 2 l
abbrev TZ (l:List (List Zu)):Ψ:=δ UK 1 l
structure Found where
 u:Int
 v:Int
 cells:List (List Zu)
deriving DecidableEq
abbrev Zj:=List Found
abbrev YB (f:Found):Ψ:=.ZW [I f.u,I f.v,TZ f.cells]
abbrev Y3 (l:Zj):Ψ:=δ YB 3 l
def ω.of (s:ω) (g:Int):Int:=if g<0 then 0 else((s.χ[g.toNat]?).map (·.YJ)).getD 0
theorem Jd (s:ω) (g:Int) (c:g<s.χ.length):Κ prog 125 [Zq s,I g] (I (s.of g)):=by
 refine Μ.body Ο func125 U U ntmps125 U U Ω ?_;refine Χ ?_;refine W.YH U (λa=>?_) (λa=>?_)
 .have a:g<0:=by simpa using a
  refine Χ ?_;refine W.ZA ?_;rw[show s.of g=0 by simp[ω.of,a]];rfl
 .have a:¬g<0:=by simpa using a
  obtain⟨n,rfl⟩:∃n:Nat,g=n:=⟨g.toNat,J⟩;have b:n<s.χ.length:=J;refine Ι b ?_;refine W.ZA ?_;rw[show s.of n=s.χ[n].YJ by simp[ω.of,b];intro h;omega];rfl
def ω.XS (s:ω) (p r:Int×Int) (b:Nat):Int:=
 let l:=(s.θ[b]?).getD []
 let a:=if l.contains p.1 then Ur 0 (s.of r.1) else 0
 if l.contains p.2 then Ur a (s.of r.2) else a
theorem Lv (s:ω) (j:s.small) (p r:Int×Int) (n:Nat) (f:n<s.θ.length) (k:r.1<s.χ.length) (l:r.2<s.χ.length) :
  Κ prog 77 [Zq s,Zb p,Zb r,I n] (I (s.XS p r n)):=by
 refine Μ.body Ο func77 U U ntmps77 U U Ω ?_;have h:s.θ[n].length<2 ^ 62:=by have:=j.2.2.2.1 _ (Yx f);omega
 refine Χ ?_;refine W.iter (λq:Nat×Int=>q.1<=2/\(q.1=0->q.2=0)/\(q.1=1->q.2=if s.θ[n].contains p.1 then Ur 0 (s.of r.1) else 0)/\(q.1=2->q.2=s.XS p r n))
  (λq=>[(3,I n),(4,ZV s),(5,.ξ [I p.1,I p.2]),(6,.ξ [I r.1,I r.2]),(9,I q.2),(12,Zb p),(13,I q.1)]) (λ_=>[]) (λq=>2-q.1) (0,0) ⟨J,Ω,Ω,Ω⟩ U Ω (λq hi a=>?_)
 rcases q with⟨i,x⟩
 match i,hi,a with
 | 0,hi,a=>
  have c:x=0:=hi.2.1 U;subst c;refine Χ ?_;refine Ζ U ?_;refine Χ ?_;refine XD f λg e=>?_;refine Κ.d (GX s.θ[n] p.1 h) (Z9 ?_);apply e;by_cases b:p.1∈s.θ[n]
  .refine Ζ (by simp[b]) ?_;refine Χ ?_;refine W.draw (A:=[]) Ο mixed λg e=>Xa ?_;refine Zc (Κ.q (Jd s r.1 k)) (Xa ?_);refine Zf (e _ _ ?_);refine Χ ?_;refine W.forget _ ?_ (a (1,Ur 0 (s.of r.1)) ⟨Ω,Ω,by simp[b],Ω⟩ Ω);simp[PT]
  .refine Η (by simp[b]) ?_;refine Χ ?_;refine W.forget _ ?_ (a (1,0) ⟨Ω,Ω,by simp[b],Ω⟩ Ω);simp[PT]
 | 1,hi,a=>
  have c:=hi.2.2.1 U;simp at c;refine Χ ?_;refine Ζ U ?_;refine Χ ?_;refine XD f λg e=>?_;refine Κ.d (GX s.θ[n] p.2 h) (Z9 ?_);apply e;by_cases b:p.2∈s.θ[n]
  .refine Ζ (by simp[b]) ?_;refine Χ ?_;refine W.draw (A:=[]) Ο mixed λg e=>Xa ?_;refine Zc (Κ.q (Jd s r.2 l)) (Xa ?_);refine Zf (e _ _ ?_);refine Χ ?_;refine W.forget _ ?_ (a (2,Ur x (s.of r.2)) ⟨Ω,Ω,Ω,λ_=>by simp only[ω.XS,Z7 f];simp[b,c]⟩ Ω);simp[Oa]
  .refine Η (by simp[b]) ?_;refine Χ ?_;refine W.forget _ ?_ (a (2,x) ⟨Ω,Ω,Ω,λ_=>by simp only[ω.XS,Z7 f];simp[b,c]⟩ Ω);simp[Oa]
 | 2,hi,a=>
  have c:=hi.2.2.2 U;refine Χ ?_;refine Η U ?_;refine W.exit U ?_;refine Χ ?_;refine W.ZA ?_;rw[<-show x=s.XS p r n from c];rfl
 | i+3,hi,a=>exact absurd hi.1 Ω
def ω.VH (s:ω) (p r:Int×Int) (x:YV):Bool:=N' x.seen (s.XS p r x.YX.toNat)==0&&UM (s.XS p r x.YX.toNat) x.bare==0
def ω.R4 (s:ω) (p r:Int×Int) (c:Nat):Bool:=((s.cells[c]?).getD []).all (s.VH p r)
theorem xG (s:ω) (o:s.small) (p r:Int×Int) (c:Nat) (k:c<s.cells.length) (hv:∀x∈s.cells[c],0<=x.YX/\x.YX<s.θ.length) (v:r.1<s.χ.length) (w:r.2<s.χ.length) :
  Κ prog 172 [Zq s,Zb p,Zb r,I c] (ν (s.R4 p r c)):=by
 refine Μ.body Ο func172 U U ntmps172 U U Ω ?_;have y:s.cells[c].length<2 ^ 62:=by have:=o.2.2.2.2 _ (Yx k);omega
 have B:s.R4 p r c=s.cells[c].all (s.VH p r):=by simp[ω.R4,k]
 rw[B];refine Ι k ?_;refine W.iter (λi:Nat=>i<=s.cells[c].length/\∀j,j<i->(h:j<s.cells[c].length)->s.VH p r s.cells[c][j]=true)
  (λi=>[(4,ZV s),(5,.ξ [I p.1,I p.2]),(6,.ξ [I r.1,I r.2]),(17,UN s.cells[c]),(18,I s.cells[c].length),(19,I i)]) (λ_=>[]) (λi=>s.cells[c].length-i) 0 ⟨J,λj l=>J⟩ U Ω (λi hi C=>?_)
 refine Χ ?_;refine W.YH U (λa=>?_) (λa=>?_)
 .have a:i<s.cells[c].length:=by simpa using a
  have t:=hv _ (Yx a);obtain⟨n,u⟩:∃n:Nat,s.cells[c][i].YX=n:=⟨s.cells[c][i].YX.toNat,J⟩;have D:n<s.θ.length:=J;have ZJ:s.VH p r s.cells[c][i]=(N' s.cells[c][i].seen (s.XS p r n)==0&&UM (s.XS p r n) s.cells[c][i].bare==0):=by simp[ω.VH,u]
  repeat apply Ν
  refine YY (A:=[10]) Ο λm b=>XK a ?_;apply b
  repeat apply Ν
  refine XD u λm b=>?_;refine Κ.d (Lv s o p r n D v w) (Z9 ?_);apply b
  repeat apply Ν
  by_cases f:N' s.cells[c][i].seen (s.XS p r n)=0
  .refine XD @f λm b=>?_;refine Κ.d (DQ s.cells[c][i].seen (s.XS p r n)) (XK @f ?_);refine Κ.d (DR (s.XS p r n) s.cells[c][i].bare) (Z9 ?_);apply b;by_cases g:UM (s.XS p r n) s.cells[c][i].bare=0
   .refine Η (by simp[g]) ?_;refine Χ ?_;refine W.drop (h:=0) (Α _) (Α _) Ω U _ ?_ (C (i+1) ⟨J,λj l h=>?_⟩ J)
    .simp[Yn a y]
    .by_cases e:j=i
     .subst e;rw[ZJ];simp[f,g]
     .exact hi.2 j J h
   .refine Ζ (by simp[g]) ?_;refine Χ ?_;refine W.drop (h:=0) (Α _) (Α _) Ω U [(8,ν false)] Ω ?_;refine W.ZA ?_;rw[show s.cells[c].all (s.VH p r)=false from List.all_eq_false.2 ⟨_,Yx a,by rw[ZJ];simp[g]⟩];rfl
  .refine XD @f λm b=>?_;refine Κ.d (DQ s.cells[c][i].seen (s.XS p r n)) (XK @f ?_);apply b;refine Ζ Ω ?_;refine Χ ?_;refine W.drop (h:=0) (Α _) (Α _) Ω U [(8,ν false)] Ω ?_;refine W.ZA ?_;rw[show s.cells[c].all (s.VH p r)=false from List.all_eq_false.2 ⟨_,Yx a,by rw[ZJ];simp[f]⟩];rfl
 .have a:s.cells[c].length<=i:=by simpa using a
  refine W.exit U ?_;refine Χ ?_;refine W.ret ⟨_,U,?_,U⟩;refine .of ?_;rw[show s.cells[c].all (s.VH p r)=true from V5.2 λx t=>by
   obtain⟨j,l,rfl⟩:=S8 t;exact hi.2 j J l]
  rfl
def WG (l:List (List Zu)) (a:Int) (i:Nat):Nat:=((List.range i).map λj:Nat=>if(j:Int)=a then 1 else((l[j]?).getD []).length).prod
theorem Lu (l:List (List Zu)) (a:Int) (i:Nat):WG l a (i+1)=WG l a i*(if(i:Int)=a then 1 else((l[i]?).getD []).length):=by
 unfold WG;rw[UB,XA,List.prod_append];simp
def Found.many (f:Found) (a:Int):Nat:=WG f.cells a f.cells.length
theorem Yi {n:Nat} (h:n<2 ^ 62):IntKind.i64.wrap (n:Int)=n:=IntWalk.i64_in _ J
theorem I8 (f:Found) (b:Int) (d:f.cells.length<2 ^ 62) (j:∀i,i<=f.cells.length->WG f.cells b i<2 ^ 62) :
  Κ prog 78 [YB f,I b] (I (f.many b)):=by
 refine Μ.body Ο func78 U U ntmps78 U U Ω ?_;refine Χ ?_;refine W.iter (λi:Nat=>i<=f.cells.length) (λi=>[(1,I b),(5,I (WG f.cells b i)),(9,TZ f.cells),(10,I f.cells.length),(11,I i)]) (λ_=>[]) (λi=>f.cells.length-i) 0 (Α _) U (by simp[WG]) (λi hi e=>?_);refine Χ ?_;refine W.YH U (λa=>?_) (λa=>?_)
 .have a:i<f.cells.length:=by simpa using a
  have c:=Lu f.cells b i
  have h:=j (i+1) a;refine Ι a ?_;by_cases g:(i:Int)=b
  .refine Η (by simp[g]) ?_;refine Χ ?_;refine W.forget _ ?_ (e (i+1) a J);rw[c,if_pos g];simp[Yn a d]
  .refine Ζ (by simp[g]) ?_;have hv:WG f.cells b i*f.cells[i].length<2 ^ 62:=by rw[c,if_neg g] at h;simpa[a] using h
   refine Ι a ?_;refine W.forget _ ?_ (e (i+1) a J);rw[c,if_neg g];simp only[Z7 a,Option.getD_some];have:=Yi hv;simp[Yn a d] at this ⊢;simp[this]
 .have a:i=f.cells.length:=by simp at a;omega
  subst a;refine W.exit U ?_;refine Χ ?_;refine W.rt ?_;exact .of U
def R3 (a b:Int):Int:=if a<b then -1 else if b<a then 1 else 0
theorem xF (a b:Int):Κ prog 151 [I a,I b] (I (R3 a b)):=by
 refine Μ.body Ο func151 U U ntmps151 U U Ω ?_;refine Χ ?_;refine Z8 λg f=>?_;refine Κ.d (GY a) (Z9 ?_);apply f;refine Z8 λg f=>?_;refine Κ.d (GY b) (Z9 ?_);apply f;refine Χ ?_;refine Η U ?_;refine Χ ?_;refine Η U ?_;refine Χ ?_;refine W.YH U (λc=>?_) (λc=>?_)
 .have c:a<b:=by simpa using c
  refine Χ ?_;refine W.ZA ?_;rw[show R3 a b=-1 by simp[R3,c]];rfl
 .have c:¬a<b:=by simpa using c
  refine Χ ?_;refine W.YH U (λe=>?_) (λe=>?_)
  .have e:b<a:=by simpa using e
   refine Χ ?_;refine W.ZA ?_;rw[show R3 a b=1 by simp[R3,c,e]];rfl
  .have e:¬b<a:=by simpa using e
   refine Χ ?_;refine W.ZA ?_;rw[show R3 a b=0 by simp[R3,c,e]];rfl
theorem SX (a b:Int):Κ prog 203 [I a,I b] (ν (decide (a<b))):=by
 refine Μ.body Ο func203 U U ntmps203 U U Ω ?_;refine Χ ?_;refine Z8 λe c=>?_;refine Κ.d (GY a) (Z9 ?_);apply c;refine Χ ?_;refine W.ZA ?_;rw[show decide (a<b)=decide (a<b) from rfl];rfl
def R2:ZZ->ZZ->Int
 | [],[]=>0
 | [],_::_=>-1
 | _::_,[]=>1
 | a::l,b::m=>if R3 a b≠0 then R3 a b else R2 l m
theorem GW (a b:ZZ) (k:a.length<2 ^ 62):Κ prog 118 [δ I 1 a,δ I 1 b] (I (R2 a b)):=by
 refine Μ.body Ο func118 U U ntmps118 U U Ω ?_;refine Χ ?_;refine W.iter (λi:Nat=>i<=a.length/\i<=b.length/\R2 a b=R2 (a.drop i) (b.drop i)) (λi=>[(0,δ I 1 a),(1,δ I 1 b),(9,δ I 1 a),(10,I a.length),(11,I i)]) (λ_=>[]) (λi=>a.length-i) 0 ⟨J,J,Ω⟩ U Ω (λi hi l=>?_);obtain⟨n,o,j⟩:=hi;refine Χ ?_;refine W.YH U (λc=>?_) (λc=>?_)
 .have c:i<a.length:=by simpa using c
  have h:a.drop i=a[i]::a.drop (i+1):=OM c;refine Ι c ?_;refine W.YH U (λe=>?_) (λe=>?_)
  .have e:b.length<=i:=by simp at e;omega
   refine Χ ?_;have f:b.drop i=[]:=NG e;refine W.ZA ?_;rw[show R2 a b=1 by rw[j,h,f];rfl];rfl
  .have e:i<b.length:=by simp at e;omega
   have f:b.drop i=b[i]::b.drop (i+1):=OM e
   repeat apply Ν
   refine Ts e ?_;refine Z8 λp m=>?_;refine Κ.d (xF a[i] b[i]) (Z9 ?_);apply m;refine Χ ?_;by_cases g:R3 a[i] b[i]=0
   .refine Η (by simp[g]) ?_;refine Χ ?_;refine W.forget _ ?_ (l (i+1) ⟨c,e,?_⟩ J)
    .simp[Yn c k]
    .rw[j,h,f,R2,if_neg (by simpa using g)]
   .refine Ζ (by simp[g]) ?_;refine Χ ?_;refine W.ZA ?_;rw[show R2 a b=R3 a[i] b[i] by rw[j,h,f,R2,if_pos g]];rfl
 .have c:i=a.length:=by simp at c;omega
  have h:a.drop i=[]:=NG J;refine W.exit U ?_;refine Χ ?_;by_cases g:a.length<b.length
  .refine Ζ (by simp[g]) ?_;refine Χ ?_;have f:b.drop i=b[i]::b.drop (i+1):=OM J;refine W.ZA ?_;rw[show R2 a b=-1 by rw[j,h,f];rfl];rfl
  .refine Η (by simp[g]) ?_;refine Χ ?_;have f:b.drop i=[]:=NG J;refine W.ZA ?_;rw[show R2 a b=0 by rw[j,h,f];rfl];rfl
def Uq (x y:Int×Int):Int:=R2 [x.1,x.2] [y.1,y.2]
theorem DO (x y:Int×Int):Κ prog 174 [Zb x,Zb y] (I (Uq x y)):=by
 refine Μ.body Ο func174 U U ntmps174 U U Ω ?_;refine Χ ?_;refine W.draw (A:=[]) Ο mixed λb a=>Xa ?_;refine Zc (Κ.p (GW [x.1,x.2] [y.1,y.2] Ω) (.cons .ex (.cons .ex .nil)) Ω Ω) ?_;simp;(repeat (rw[Z1];simp));try rw[Z2]
 refine Zf (a _ _ ?_);refine Χ ?_;refine W.rt ?_;exact .of U
theorem xE (x y:Found):Κ prog 148 [YB x,YB y] (I (Uq (x.u,x.v) (y.u,y.v))):=by
 refine Μ.body Ο func148 U U ntmps148 U U Ω ?_;refine Χ ?_;refine W.draw (A:=[]) Ο mixed λb a=>Xa ?_;refine Zc (Κ.p (GW [x.u,x.v] [y.u,y.v] Ω) (.cons .ex (.cons .ex .nil)) Ω Ω) ?_;simp;(repeat (rw[Z1];simp));try rw[Z2]
 refine Zf (a _ _ ?_);refine Χ ?_;refine W.rt ?_;exact .of U
def XR (l:Zj):Nat:=(l.map (·.many (-1))).sum
theorem DN (l:Zj) (g:l.length<2 ^ 62) (j:∀f∈l,f.cells.length<2 ^ 62/\∀i,i<=f.cells.length->WG f.cells (-1) i<2 ^ 62) (r:XR l<2 ^ 62) :
  Κ prog 79 [Y3 l] (I (XR l)):=by
 refine Μ.body Ο func79 U U ntmps79 U U Ω ?_;refine Χ ?_;refine W.iter (λi:Nat=>i<=l.length) (λi=>[(3,I (XR (l.take i))),(6,Y3 l),(7,I l.length),(8,I i)]) (λ_=>[]) (λi=>l.length-i) 0 (Α _) U (by simp[XR]) (λi hi k=>?_);refine Χ ?_;refine W.YH U (λa=>?_) (λa=>?_)
 .have a:i<l.length:=by simpa using a
  obtain⟨m,n⟩:=j _ (Yx a);have c:XR (l.take (i+1))=XR (l.take i)+l[i].many (-1):=by
   unfold XR;rw[Ws a,XA,List.sum_append];simp only[WZ,TF,List.sum_cons,List.sum_nil,Nat.add_zero]
  have o:XR (l.take i)+l[i].many (-1)<2 ^ 62:=by
   rw[<-c];have e:XR l=XR (l.take (i+1))+XR (l.drop (i+1)):=by
    conv=>lhs;rw[<-OK (i+1) l]
    simp only[XR,XA,List.sum_append]
   omega
  repeat apply Ν
  refine YY (A:=[5]) Ο λp b=>XK a ?_;apply b;refine Z8 λp b=>?_;refine Κ.d (I8 l[i] (-1) m n) (Z9 ?_);apply b;refine Χ ?_;refine W.drop (h:=0) (Α _) (Α _) Ω U _ ?_ (k (i+1) a J);rw[c];have:=Yi o;simp[Yn a g] at this ⊢;exact this
 .have a:i=l.length:=by simp at a;omega
  subst a;refine W.exit U ?_;refine Χ ?_;refine W.ZA ?_;rw[show XR l=XR (l.take l.length) by simp];rfl
theorem ς.Wx {a:Ψ} (h:ς 0 a) (ρ:ο):Wx ρ a=a:=by
 cases h with
 | Δ h=>omega
 | ms h=>omega
 | mp h=>omega
 | it h=>omega
 | _=>rfl
theorem I7 {l:μ} (h:∀a∈l,ς 0 a) (ρ:ο):l.map (Wx ρ)=l:=by
 induction l with
 | nil=>rfl
 | cons a l b=>rw[WZ,(h a Ω).Wx,b λx c=>h x (by simp[c])]
theorem ς.Yh {a:Ψ} (h:ς 0 a) (ρ:ο):Yh ρ a=a:=by
 have b:=h;cases h with
 | ZW h=>simp only[Go.TL.Yh];rw[I7 h]
 | ZY h=>simp only[Go.TL.Yh];rw[I7 h]
 | fn c d=>simp only[Go.TL.Yh];rw[I7 c,I7 d]
 | _=>exact b.Wx ρ
theorem ς.top {a:Ψ} (h:ς 0 a) (n:Nat):T0 n a:=by
 have b:=h;cases h with
 | Δ h=>omega
 | ms h=>omega
 | mp h=>omega
 | it h=>omega
 | _=>exact b
theorem ς.Vr {a:Ψ} (h:ς 0 a) (n:Nat):Xr n a:=by
 have c:=h;cases h with
 | ZW h=>exact λa b=>(h a b).top n
 | ZY h=>exact λa b=>(h a b).top n
 | fn d e=>exact⟨λa b=>(d a b).top n,λa b=>(e a b).top n⟩
 | _=>exact c.top n
theorem TY {h id n i len:Nat}:Xr h (.ms id n i len)↔id<h:=Iff.rfl
theorem N9 {h:Nat} {v:Value}:Xr h (.z v)↔True:=⟨λ_=>trivial,λ_=>(ς.z v).Vr h⟩
theorem TX {ρ:ο} {id n i len:Nat}:Yh ρ (.ms id n i len)=.ms (ρ.getD id 0) n i len:=rfl
theorem Su {ρ:ο} {v:Value}:Yh ρ (.z v)=.z v:=rfl
section
variable {P:Program} {σ:Ξ}
theorem Μ.one {g:FuncId} {as0:μ} {c row':Row} {r:Ψ} {K E:Ψ->Ξ->Prop} (h:Μ P g as0 [c] (λa s=>a=r/\s=[row']) (λ_ _=>False)) (id:Nat) (f:σ[id]?=some c) (k:VU c) (l:VU row') (m:∀a∈as0,Xr 1 a) (b:Xr 1 r)
  {args:μ} (n:args=as0.map (Yh [id])) (o:K (Yh [id] r) (σ.set id row')):Wm P (.fn (.func g) [] []) args σ K E:=by
 subst n;have p:=Μ.rows (σ:=σ) h [id] Ω U (λj i d=>by
  cases j with
  | zero=>simp at d;subst d;exact f
  | succ j=>simp at d) (λr b=>by simp at b;subst b;exact k) (by simpa using m) (K':=K) (E':=E) (λa s ⟨t,u⟩=>by
   subst t;subst u;refine⟨λx e=>by simp at e;subst e;exact l,b,?_⟩;simpa[names,PU,Vs] using o) (λa s h=>h.elim)
 exact Μ.call (first:=[]) (captured:=[]) (by simpa using p)
end
section
variable {P:Program} {σ:Ξ}
theorem Μ.I6 {g:FuncId} {as0:μ} {c:Row} {K0 K E:Ψ->Ξ->Prop} (h:Μ P g as0 [c] K0 (λ_ _=>False)) (id:Nat) (f:σ[id]?=some c) (k:VU c) (l:∀a∈as0,Xr 1 a)
  {args:μ} (m:args=as0.map (Yh [id])) (n:∀a s,K0 a s->∃row',s=[row']/\VU row'/\Xr 1 a/\K (Yh [id] a) (σ.set id row')):Wm P (.fn (.func g) [] []) args σ K E:=by
 subst m;have o:=Μ.rows (σ:=σ) h [id] Ω U (λj i d=>by
  cases j with
  | zero=>simp at d;subst d;exact f
  | succ j=>simp at d) (λr b=>by simp at b;subst b;exact k) (by simpa using l) (K':=K) (E':=E) (λa s p=>by
   obtain⟨row',rfl,t,b,u⟩:=n a s p;refine⟨λx e=>by simp at e;subst e;exact t,b,?_⟩;simpa[names,PU,Vs] using u) (λa s h=>h.elim)
 exact Μ.call (first:=[]) (captured:=[]) (by simpa using o)
end
theorem QS {b:Type} {f:b->Ψ} {t k:Nat} {l:List b} (h:∀x,∀a∈(f x).cells,ς 0 a):VU (.cells t k (l.map f)):=λe c a d=>by
 obtain⟨x,_,rfl⟩:=YO.1 c;exact h x a d
theorem X'.part {id k m:Nat} {σ:Ξ} {t:TypeId} {l l2:μ} (h:σ[id]?=some (.cells t k (l++l2))) (i:l.length=m) (n:∀e∈l,∀a∈e.cells,ς 0 a):X' 0 σ (.ms id (l++l2).length 0 m) (.sl false k l):=by
 subst i;refine .ms (Α _) h U Ω U (λj e o c b=>?_) (λj e o c b x a p f g=>?_)
 .have d:=(Zo.1 b).1;rw[US,Yz d] at c;rw[c] at b;cases b;rfl
 .have d:=(Zo.1 b).1;rw[US,Yz d] at c;rw[c] at b;cases b;rw[f] at g;cases g;exact .low (n e (Y1 c) a (Y1 f))
theorem Rx {a:Type} [Inhabited a] {d:Array a} {i:Nat} (h:i<d.size):d[i]?=some d[i]!:=by simp[h]
def ψ {a:Type} (b:a->a->Int) (x y:a):Bool:=decide (b x y<0)
end Go.TL
