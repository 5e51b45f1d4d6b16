import Derived.Test.YtlabjopijpkiaaaGreatJAI
set_option maxHeartbeats 16000000
set_option maxRecDepth 20000
set_option linter.unusedSectionVars false
set_option linter.unusedSimpArgs false
set_option linter.unusedVariables false
namespace Go.TL
open Go.Conc
variable [ZX]
def LL (ops:Array Oper) (o:Oper):List Tmp:=
 (o.op.operands.toList.filterMap fun|.tmp t=>some t|_=>none)++(match o.guard with|some (g,_)=>((ops[g]?).bind (·.dst)).toList|none=>[])
def WN (o:Oper):List Nat:=(o.after.toList.filter (Region.binds .any)).map (·.on)
def LK:List Oper->List (List Nat)->List (List Nat)
 | [],a=>a
 | o::b,a=>LK b (a++[WN o++(WN o).flatMap λj=>a.getD j []])
def Jg (ops:Array Oper):List (List Nat):=LK ops.toList []
def VU (o:Oper):Bool:=match o.op with
 | .load _ _=>true
 | .indexAddr _ _ _=>true
 | .fieldAddr _ _ _=>true
 | .nilCheck _=>true
 | _=>false
def Ub (ο:Nat->Nat->Bool) (ops:Array Oper) (tags:List Bool) (i j:Nat) (a b:Oper):Bool:=
 (match b.dst with|some d=>(LL ops a).contains d||a.dst==some d|none=>false)||(match a.dst with|some d=>(LL ops b).contains d|none=>false)||(tags.getD i false&&tags.getD j false&&!(VU a&&VU b)&&!ο i j)
def PX (ο:Nat->Nat->Bool) (ops:Array Oper) (tags:List Bool):Bool:=
 let b:=Jg ops
 (List.range ops.size).all λi=>match ops[i]? with
  | none=>false
  | some a=>(WN a).all (λj=>decide (j<i))&&(List.range i).all λj=>match ops[j]? with
   | none=>false
   | some c=>!Ub ο ops tags i j a c||(b.getD i []).contains j
def PW (_ _:Nat):Bool:=false
def clash (ops:Array Oper) (tags:List Bool) (i j:Nat) (a b:Oper):Bool:=Ub PW ops tags i j a b
def TP (ops:Array Oper) (tags:List Bool):Bool:=PX PW ops tags
def TO (lo pu:List Nat) (i j:Nat):Bool:=lo.contains i&&pu.contains j||pu.contains i&&lo.contains j
section
variable {P:Program} {T:ZR} {A:List Nat} {m nt:Nat} {k:List Item} {env:ω} {σ:Ο} {Z:X7} {E:Yn} {ops:Array Oper}
theorem W.congr {env':ω} (h:∀i,Z7 env' i=Z7 env i) (c:W P m nt k env σ Z E):W P m nt k env' σ Z E:=
 λd mn x cs b S B H t e f a g j=>c d mn x cs b S B H t e f ⟨a.holds,λi=>by rw[<-h i];exact a.Zm i,a.size,a.rows⟩ g j
theorem DR (c:Region.Mode):∀(a t:Nat) (listed:Array Bool) (i:Nat),Region.linearise.go c ops a t listed [i]=i::Region.linearise.go c ops a t listed []:=by
 have gen:∀(a t:Nat) (listed:Array Bool) (b:List Nat),Region.linearise.go c ops a t listed b=b.reverse++Region.linearise.go c ops a t listed []:=by
  intro a
  induction a with
  | zero=>intro t listed b;simp[Region.linearise.go]
  | succ a d=>
   intro t listed b;simp only[Region.linearise.go];split
   .rename_i i _;rw[d _ _ (i::b),d _ _ [i]];simp
   .simp
 intro a t listed i;rw[gen];rfl
theorem Jf (n:∀i o,ops[i]?=some o->∀j∈WN o,j<i) (D:Nat->Prop) (p:∀i o,ops[i]?=some o->D i->∀j∈WN o,D j) :
  ∀(i:Nat) (o:Oper),ops[i]?=some o->(∀j∈WN o,D j)->∀j∈(Jg ops).getD i [],D j:=by
 have r:∀(d:List Oper) (a:List (List Nat)),(∀x,d[x]?=ops[a.length+x]?)->(∀i o,i<a.length->ops[i]?=some o->(∀j∈WN o,D j)->∀j∈a.getD i [],D j)->
   ∀i o,i<a.length+d.length->ops[i]?=some o->(∀j∈WN o,D j)->∀j∈(LK d a).getD i [],D j:=by
  intro d
  induction d with
  | nil=>intro a _ h i o hi;exact h i o (by simpa using hi)
  | cons q d s=>
   intro a g h i o hi b c;have e:ops[a.length]?=some q:=by have:=g 0;simpa using this.symm
   refine s (a++[WN q++(WN q).flatMap λj=>a.getD j []]) (λx=>?_) (λi o hi b c=>?_) i o (by simp at hi ⊢;omega) b c
   .have:=g (x+1);simp only[List.getElem?_cons_succ] at this;rw[this];simp;congr 1;omega
   .by_cases k:i<a.length
    .rw[Xr,YK k,<-Xr];exact h i o k b c
    .have t:i=a.length:=by simp at hi;omega
     subst t;rw[e] at b;cases b;rw[Xr,W8 (γ _)];simp only[Q5,List.getElem?_cons_zero,Option.getD_some,Wd,Qf];rintro j (f|⟨y,l,f⟩)
     .exact c j f
     .have u:=n _ _ e y l
      have v:y<ops.size:=by have:=(TY.1 e).1;omega
      have m:ops[y]?=some ops[y]:=XG v;exact h y _ u m (p y _ m (c y l)) j f
 intro i o b c;exact r ops.toList [] (λx=>I) (λi o hi=>by simp at hi) i o (by have:=(TY.1 b).1;simpa using this) b c
def SI (ops:Array Oper) (o:Oper) (env env':ω):Prop:=∀t∈LL ops o,Z7 env' t=Z7 env t
def Pl (P:Program) (m nt:Nat) (k:List Item) (Z:X7) (E:Yn) (ops:Array Oper) (i:Nat) (o:Oper) (env:ω) (a:Ω):Prop:=
 ∀env' σ' rest,SI ops o env env'->W P m nt (.inRegion ops rest::k) (Zt o env' a) σ' Z E->W P m nt (.inRegion ops (i::rest)::k) env' σ' Z E
def Pk (P:Program) (m nt:Nat) (k:List Item) (Z:X7) (E:Yn) (ops:Array Oper) (i:Nat) (o:Oper) (env:ω) (σ:Ο) (a:Ω) (b:Ο):Prop:=
 ∀env' rest,SI ops o env env'->W P m nt (.inRegion ops rest::k) (Zt o env' a) b Z E->W P m nt (.inRegion ops (i::rest)::k) env' σ Z E
def Zc (ops:Array Oper) (env0:ω) (as9:Nat->Ω) (a:Nat->Bool):Nat->ω
 | 0=>env0
 | n+1=>if a n then(match ops[n]? with|some o=>Zt o (Zc ops env0 as9 a n) (as9 n)|none=>Zc ops env0 as9 a n) else Zc ops env0 as9 a n
theorem Oc {o:Oper} {env:ω} {a:Ω} {t:Nat}:Z7 (Zt o env a) t=if o.dst=some t then a else Z7 env t:=by
 unfold Zt;cases hd:o.dst with
 | none=>simp
 | some d=>simp[Z7]
theorem Nc {env0:ω} {as9:Nat->Ω} {b a:Nat->Bool} {t:Nat}:∀(n:Nat),(∀i o,i<n->ops[i]?=some o->o.dst=some t->b i=a i)->Z7 (Zc ops env0 as9 b n) t=Z7 (Zc ops env0 as9 a n) t:=by
 intro n
 induction n with
 | zero=>intro _;rfl
 | succ n d=>
  intro h;have c:=d λi o hi=>h i o U;simp only[Zc];cases e:ops[n]? with
  | none=>cases b n<;>cases a n<;>simpa using c
  | some o=>
   by_cases hd:o.dst=some t
   .rw[h n o (Qg n) e hd];cases a n
    .simpa using c
    .simp[Oc,hd]
   .cases b n<;>cases a n<;>simp[Oc,hd,c]
theorem Je {env0:ω} {as9:Nat->Ω} {a:Nat->Bool} {t:Nat} {n N:Nat} (j:n<=N) (h:∀i o,n<=i->i<N->ops[i]?=some o->o.dst=some t->a i=false):Z7 (Zc ops env0 as9 a N) t=Z7 (Zc ops env0 as9 a n) t:=by
 induction N with
 | zero=>have:n=0:=U
         subst this;rfl
 | succ N d=>
  by_cases e:n=N+1
  .subst e;rfl
  .have b:=d U λi o f k=>h i o f U;simp only[Zc];cases c:a N
   .simpa using b
   .cases g:ops[N]? with
    | none=>simpa using b
    | some o=>
     have hd:o.dst≠some t:=λhd=>by rw[h N o U (Qg N) g hd] at c;cases c
     simp[Oc,hd,b]
def writer (ops:Array Oper) (tags:List Bool) (i:Nat):Bool:=tags.getD i false&&match ops[i]? with|some o=>!VU o|none=>true
theorem W.DQ {lo pu:List Nat} {V:Type} {v:Ο->V} {as9:Nat->Ω} {σs:Nat->Ο} {tags:List Bool} {env0:ω} (ag:PX (TO lo pu) ops tags=true)
  (aw:∀i o,ops[i]?=some o->tags.getD i false=false->Pl P m nt k Z E ops i o (Zc ops env0 as9 (λ_=>true) i) (as9 i)/\σs (i+1)=σs i)
  (ah:∀i o,ops[i]?=some o->tags.getD i false=true->Pk P m nt k Z E ops i o (Zc ops env0 as9 (λ_=>true) i) (σs i) (as9 i) (σs (i+1))/\(VU o=true->σs (i+1)=σs i))
  (ai:∀i o,ops[i]?=some o->lo.contains i=true->tags.getD i false=true->VU o=true/\∀τ,v τ=v (σs i)->Pk P m nt k Z E ops i o (Zc ops env0 as9 (λ_=>true) i) τ (as9 i) τ)
  (aK:∀i o,ops[i]?=some o->pu.contains i=true->v (σs (i+1))=v (σs i))
  (aL:W P m nt (.inRegion ops []::k) (Zc ops env0 as9 (λ_=>true) ops.size) (σs ops.size) Z E) :
  ∀(O:Nat) (t:Nat) (listed:Array Bool) (env:ω) (p:Nat),listed.size=ops.size->
   (∀i,Z7 env i=Z7 (Zc ops env0 as9 (λi=>listed.getD i false) ops.size) i)->
   (∀i o,ops[i]?=some o->listed.getD i false=true->∀j∈WN o,listed.getD j false=true)->
   p<=ops.size->(∀j,j<ops.size->writer ops tags j=true->(listed.getD j false=true↔j<p))->
   ((List.range ops.size).filter λi=>!listed.getD i false).length<=O->
   W P m nt (.inRegion ops (Region.linearise.go .any ops O t listed [])::k) env (σs p) Z E:=by
 have aj:∀i o,ops[i]?=some o->(∀j∈WN o,j<i)/\∀j n,j<i->ops[j]?=some n->Ub (TO lo pu) ops tags i j o n=true->j∈(Jg ops).getD i []:=by
  intro i o l;have hi:i<ops.size:=(TY.1 l).1;unfold PX at ag;simp only[WQ,Ws] at ag;have h:=ag i hi;rw[l] at h;simp only[Wt,WQ,decide_eq_true_eq,Ws] at h;refine⟨h.1,λj n c w T=>?_⟩;have s:=h.2 j c;rw[w] at s;simp only[T,Bool.not_true,Bool.false_or,PA] at s;exact s
 have ak:∀i o,ops[i]?=some o->∀j∈WN o,j<i:=λi o l=>(aj i o l).1
 have al:∀i o,ops[i]?=some o->writer ops tags i=false->σs (i+1)=σs i:=λi o l H=>by
  cases f:tags.getD i false with
  | false=>exact(aw i o l f).2
  | true=>
   refine(ah i o l f).2 ?_;unfold writer at H;rw[f,l] at H;simpa using H
 have ax:∀(d a:Nat),a+d<=ops.size->(∀j,a<=j->j<a+d->writer ops tags j=false)->σs (a+d)=σs a:=by
  intro d
  induction d with
  | zero=>intro a _ _;rfl
  | succ d D=>
   intro a hle h;have g:ops[a+d]?=some ops[a+d]:=XG U;have:=al (a+d) _ g (h (a+d) U U);rw[show a+(d+1)=a+d+1 by omega,this];exact D a U λj g s=>h j g U
 have am:∀a b,a<=ops.size->b<=ops.size->(∀j,j<ops.size->writer ops tags j=true->(j<a↔j<b))->σs a=σs b:=λa b ay X h=>by
  rcases Nat.le_total a b with hle|hle
  .have:=ax (b-a) a U λj g s=>by
    cases f:writer ops tags j with
    | false=>rfl
    | true=>have:=(h j U f).2 U;omega
   rw[show a+(b-a)=b by omega] at this;exact this.symm
  .have:=ax (a-b) b U λj g s=>by
    cases f:writer ops tags j with
    | false=>rfl
    | true=>have:=(h j U f).1 U;omega
   rw[show b+(a-b)=a by omega] at this;exact this
 have aM:∀a b,a<=ops.size->b<=ops.size->(∀j,j<ops.size->writer ops tags j=true->pu.contains j=false->(j<a↔j<b))->v (σs a)=v (σs b):=λa b ay X h=>by
  have aN:∀(d a:Nat),a+d<=ops.size->(∀j,a<=j->j<a+d->writer ops tags j=true->pu.contains j=true)->v (σs (a+d))=v (σs a):=by
   intro d
   induction d with
   | zero=>intro a _ _;rfl
   | succ d D=>
    intro a hle h;have g:ops[a+d]?=some ops[a+d]:=XG U;have e:v (σs (a+d+1))=v (σs (a+d)):=by
     cases H:writer ops tags (a+d) with
     | false=>rw[al (a+d) _ g H]
     | true=>exact aK (a+d) _ g (h (a+d) U U H)
    rw[show a+(d+1)=a+d+1 by omega,e];exact D a U λj g s=>h j g U
  have az:∀x y,y<=ops.size->(∀j,j<ops.size->writer ops tags j=true->pu.contains j=false->(j<x↔j<y))->x<=y->v (σs y)=v (σs x):=λx y an h hle=>by
   have:=aN (y-x) x U λj g s H=>by
    cases ao:pu.contains j with
    | true=>rfl
    | false=>have:=(h j U H ao).2 U;omega
   rwa [show x+(y-x)=y by omega] at this
  rcases Nat.le_total a b with hle|hle
  .exact(az a b X h hle).symm
  .exact az b a ay (λj g s A=>(h j g s A).symm) hle
 intro O;have done:∀(t:Nat) (listed:Array Bool) (env:ω) (p:Nat),(∀i,i<ops.size->listed.getD i false=true)->(∀i,Z7 env i=Z7 (Zc ops env0 as9 (λi=>listed.getD i false) ops.size) i)->p<=ops.size->
   (∀j,j<ops.size->writer ops tags j=true->(listed.getD j false=true↔j<p))->W P m nt (.inRegion ops []::k) env (σs p) Z E:=λt listed env p Q L B J=>by
  have aO:σs p=σs ops.size:=am p ops.size B (γ _) λj c f=>by rw[<-J j c f];simp[Q j c,c]
  rw[aO];refine .congr (λi=>?_) aL;rw[L i];exact Nc ops.size λi o hi _ _=>Q i hi
 have aP:∀listed:Array Bool,listed.size=ops.size->(∃i,i<ops.size/\listed.getD i false=false)->∃i,i<ops.size/\listed.getD i false=false/\∀j,j<i->listed.getD j false=true:=λlisted M ⟨i,hi,u⟩=>by
  induction i using Nat.strongRecOn with
  | _ i D=>
   by_cases c:∃j,j<i/\listed.getD j false=false
   .obtain⟨j,g,s⟩:=c;exact D j g U s
   .exact⟨i,hi,u,λj aQ=>by
     cases h:listed.getD j false with
     | true=>rfl
     | false=>exact absurd ⟨j,aQ,h⟩ c⟩
 induction O with
 | zero=>
  intro t listed env p M L Y B J aR;have Q:∀i,i<ops.size->listed.getD i false=true:=λi hi=>by
   cases h:listed.getD i false with
   | true=>rfl
   | false=>
    have aa:i∈(List.range ops.size).filter λi=>!listed.getD i false:=by rw[Vh];exact⟨Ws.2 hi,by rw[h];rfl⟩
    have:((List.range ops.size).filter λi=>!listed.getD i false)=[]:=YL.1 U;rw[this] at aa;simp at aa
  exact done t listed env p Q L B J
 | succ O D=>
  intro t listed env p M L Y B J aR;simp only[Region.linearise.go];generalize aS:((List.range ops.size).filter λi=>!listed.getD i true&&((ops[i]?).map (·.after.all λe=>!Region.binds .any e||listed.getD e.on false)).getD false)=N;have aA:∀i,i<ops.size->listed.getD i true=listed.getD i false:=λi hi=>by
   rw[WG,WG,XG U];rfl
  have aB:∀i,i∈N↔i<ops.size/\listed.getD i false=false/\∀o,ops[i]?=some o->∀j∈WN o,listed.getD j false=true:=λi=>by
   rw[<-aS];simp only[Vh,Ws,Wt,Ku];constructor
   .rintro⟨g,s,A⟩;rw[aA i g] at s;refine⟨g,s,λo l j c=>?_⟩;rw[l] at A;simp only[Option.map_some,Option.getD_some,Ky] at A;unfold WN at c;simp only[Zq,Vh] at c;obtain⟨e,⟨aT,aU⟩,rfl⟩:=c;have:=A e (by simpa using aT);simpa[aU] using this
   .rintro⟨g,s,A⟩;refine⟨g,by rw[aA i g];exact s,?_⟩;have l:ops[i]?=some ops[i]:=XG g;rw[l];simp only[Option.map_some,Option.getD_some,Ky];intro e aV;by_cases X:Region.binds .any e=true
    .have:=A _ l e.on (by unfold WN;simp only[Zq,Vh];exact⟨e,⟨by simpa using aV,X⟩,rfl⟩);simp[this]
    .simp[X]
  cases hi:N[t % N.length]? with
  | none=>
   simp only[List.reverse_nil];have aW:N=[]:=by
    cases aX:N with
    | nil=>rfl
    | cons x xs=>
     rw[aX] at hi;have ap:t % (x::xs).length<(x::xs).length:=Nat.mod_lt _ I;rw[δ ap] at hi;cases hi
   have Q:∀i,i<ops.size->listed.getD i false=true:=λi aY=>by
    cases h:listed.getD i false with
    | true=>rfl
    | false=>
     obtain⟨r,g,s,A⟩:=aP listed M ⟨i,aY,h⟩;have:r∈N:=(aB r).2 ⟨g,s,λo l j c=>A j (ak r o l j c)⟩;rw[aW] at this;simp at this
   exact done t listed env p Q L B J
  | some i=>
   simp only;rw[DR];have aa:i∈N:=Zi hi;obtain⟨g,s,A⟩:=(aB i).1 aa;have l:ops[i]?=some ops[i]:=XG g;have aZ:=Jf ak (λj=>listed.getD j false=true) (λj o c u=>Y j o c u) i _ l (A _ l);have low:∀j n,j<i->ops[j]?=some n->Ub (TO lo pu) ops tags i j ops[i] n=true->listed.getD j false=true:=λj n c w T=>aZ j ((aj i _ l).2 j n c w T);have high:∀j n,i<j->ops[j]?=some n->Ub (TO lo pu) ops tags j i n ops[i]=true->listed.getD j false=false:=λj n c w T=>by
    cases u:listed.getD j false with
    | false=>rfl
    | true=>
     have:=Jf ak (λj=>listed.getD j false=true) (λj o c u=>Y j o c u) j n w (Y j n w u) i ((aj j n w).2 i _ c l T);rw[s] at this;cases this
   have same:SI ops ops[i] (Zc ops env0 as9 (λ_=>true) i) env:=λx aC=>by
    rw[L x];have aq:Z7 (Zc ops env0 as9 (λi=>listed.getD i false) ops.size) x=Z7 (Zc ops env0 as9 (λi=>listed.getD i false) i) x:=Je U λj n a0 a1 w hd=>by
     by_cases e:j=i
     .subst e;exact s
     .refine high j n U w ?_;unfold Ub;simp[hd,aC]
    rw[aq];exact Nc i λj n c w hd=>low j n c w (by unfold Ub;simp[hd,aC])
   have ab:∀x,Z7 (Zt ops[i] env (as9 i)) x=Z7 (Zc ops env0 as9 (λj=>(listed.setIfInBounds i true).getD j false) ops.size) x:=λx=>by
    have F:∀j,(listed.setIfInBounds i true).getD j false=if j=i then true else listed.getD j false:=λj=>by
     rw[WG,WG];by_cases e:j=i
     .subst e;rw[Tv U];simp
     .rw[UR (YR e),if_neg e]
    rw[Oc];by_cases hd:ops[i].dst=some x
    .rw[if_pos hd];have aq:Z7 (Zc ops env0 as9 (λj=>(listed.setIfInBounds i true).getD j false) ops.size) x=Z7 (Zc ops env0 as9 (λj=>(listed.setIfInBounds i true).getD j false) (i+1)) x:=Je U λj n a0 a1 w ar=>by
      rw[F,if_neg U];refine high j n U w ?_;unfold Ub;simp[hd,ar]
     rw[aq];simp only[Zc,F,if_true,l,Oc,hd]
    .rw[if_neg hd,L x];exact Nc ops.size λj n c w ar=>by
      rw[F,if_neg];intro e;subst e;rw[l] at w;cases w;exact hd ar
   have F:∀j,(listed.setIfInBounds i true).getD j false=if j=i then true else listed.getD j false:=λj=>by
    rw[WG,WG];by_cases e:j=i
    .subst e;rw[Tv U];simp
    .rw[UR (YR e),if_neg e]
   have ad:((List.range ops.size).filter λj=>!(listed.setIfInBounds i true).getD j false).length<=O:=by
    have ap:((List.range ops.size).filter λj=>!(listed.setIfInBounds i true).getD j false).length<((List.range ops.size).filter λj=>!listed.getD j false).length:=by
     have:((List.range ops.size).filter λj=>!(listed.setIfInBounds i true).getD j false)=((List.range ops.size).filter λj=>!listed.getD j false).filter λj=>j != i:=by
      rw[List.filter_filter];apply Kv;intro j _;rw[F];by_cases e:j=i
      .subst e;simp
      .simp[e]
     rw[this];have a2:i∈(List.range ops.size).filter λj=>!listed.getD j false:=by
      rw[Vh];exact⟨Ws.2 g,by rw[s];rfl⟩
     exact List.length_filter_lt_length_iff_exists.2 ⟨i,a2,I⟩
    omega
   have ae:∀j o,ops[j]?=some o->(listed.setIfInBounds i true).getD j false=true->∀y∈WN o,(listed.setIfInBounds i true).getD y false=true:=λj o c u y an=>by
    rw[F] at u ⊢;by_cases e:y=i
    .rw[if_pos e]
    .rw[if_neg e];by_cases Φ:j=i
     .subst Φ;rw[l] at c;cases c;exact A _ l y an
     .rw[if_neg Φ] at u;exact Y j o c u y an
   have aD:∀j,writer ops tags j=true->tags.getD j false=true:=λj h=>by
    unfold writer at h;rw[Wt] at h;exact h.1
   cases K:tags.getD i false with
   | false=>
    refine(aw i _ l K).1 env (σs p) _ same ?_;refine D _ _ _ p (by simpa using M) ab ae B (λj c f=>?_) ad;rw[F];have:j≠i:=λe=>by subst e;rw[aD j f] at K;cases K
    rw[if_neg this];exact J j c f
   | true=>
    have aE:∀j n,ops[j]?=some n->writer ops tags j=true->lo.contains i=false\/pu.contains j=false->Ub (TO lo pu) ops tags i j ops[i] n=true/\Ub (TO lo pu) ops tags j i n ops[i]=true:=λj n w f C=>by
     have g:=aD j f
     have aF:lo.contains j=false:=by
      cases u:lo.contains j with
      | false=>rfl
      | true=>
       have:=(ai j n w u g).1;unfold writer at f;rw[g,w] at f;simp[this] at f
     unfold writer at f;rw[g,w] at f;have s:VU n=false:=by simpa using f
     have C:(lo.contains i&&pu.contains j)=false:=by
      rcases C with h|h
      .rw[h];rfl
      .rw[h,Bool.and_false]
     have f1:TO lo pu i j=false:=by unfold TO;rw[C,aF,Bool.and_false];rfl
     have f2:TO lo pu j i=false:=by unfold TO;rw[aF,Bool.and_comm (pu.contains j),C];rfl
     unfold Ub;rw[g,K,s,f1,f2];simp
    have aG:∀j,j<ops.size->writer ops tags j=true->lo.contains i=false\/pu.contains j=false->j<i->listed.getD j false=true:=λj c f C au=>low j _ au (XG c) (aE j _ (XG c) f C).1
    have aH:∀j,j<ops.size->writer ops tags j=true->lo.contains i=false\/pu.contains j=false->i<j->listed.getD j false=false:=λj c f C au=>high j _ au (XG c) (aE j _ (XG c) f C).2
    have av:∀j,j<ops.size->writer ops tags j=true->lo.contains i=false\/pu.contains j=false->(j<p↔j<i):=λj c f C=>by
     rw[<-J j c f];constructor
     .intro u;apply Tu;intro a3;by_cases e:j=i
      .subst e;rw[s] at u;cases u
      .rw[aH j c f C U] at u;cases u
     .exact aG j c f C
    cases R:writer ops tags i with
    | false=>
     have aI:∀j,j<ops.size->writer ops tags j=true->((listed.setIfInBounds i true).getD j false=true↔j<p):=λj c f=>by
      rw[F];have:j≠i:=λe=>by subst e;rw[f] at R;cases R
      rw[if_neg this];exact J j c f
     cases S:lo.contains i with
     | true=>
      refine(ai i _ l S K).2 (σs p) (aM p i B U λj c f ao=>av j c f (.inr ao)) env _ same ?_;exact D _ _ _ p (by simpa using M) ab ae B aI ad
     | false=>
      have af:σs p=σs i:=am p i B U λj c f=>av j c f (.inl S)
      have es:=al i _ l R
      have aJ:=(ah i _ l K).1;rw[es] at aJ;rw[af];refine aJ env _ same ?_;rw[<-af];exact D _ _ _ p (by simpa using M) ab ae B aI ad
    | true=>
     have S:lo.contains i=false:=by
      cases u:lo.contains i with
      | false=>rfl
      | true=>
       have:=(ai i _ l u K).1;unfold writer at R;rw[l] at R;simp[this] at R
     have af:σs p=σs i:=am p i B U λj c f=>av j c f (.inl S);rw[af];refine(ah i _ l K).1 env _ same ?_;refine D _ _ _ (i+1) (by simpa using M) ab ae U (λj c f=>?_) ad;rw[F];by_cases e:j=i
     .subst e;simp
     .rw[if_neg e];constructor
      .intro u;apply Tu;intro a3;rw[aH j c f (.inl S) U] at u;cases u
      .intro ap;exact aG j c f (.inl S) U
theorem W.x3 {as9:Nat->Ω} {σs:Nat->Ο} {tags:List Bool} {env0:ω} (c:TP ops tags=true)
  (d:∀i o,ops[i]?=some o->tags.getD i false=false->Pl P m nt k Z E ops i o (Zc ops env0 as9 (λ_=>true) i) (as9 i)/\σs (i+1)=σs i)
  (f:∀i o,ops[i]?=some o->tags.getD i false=true->Pk P m nt k Z E ops i o (Zc ops env0 as9 (λ_=>true) i) (σs i) (as9 i) (σs (i+1))/\(VU o=true->σs (i+1)=σs i))
  (g:W P m nt (.inRegion ops []::k) (Zc ops env0 as9 (λ_=>true) ops.size) (σs ops.size) Z E) :
  ∀(b:Nat) (t:Nat) (listed:Array Bool) (env:ω) (a:Nat),listed.size=ops.size->
   (∀i,Z7 env i=Z7 (Zc ops env0 as9 (λi=>listed.getD i false) ops.size) i)->
   (∀i o,ops[i]?=some o->listed.getD i false=true->∀j∈WN o,listed.getD j false=true)->
   a<=ops.size->(∀j,j<ops.size->writer ops tags j=true->(listed.getD j false=true↔j<a))->
   ((List.range ops.size).filter λi=>!listed.getD i false).length<=b->
   W P m nt (.inRegion ops (Region.linearise.go .any ops b t listed [])::k) env (σs a) Z E:=by
 have e:TO [] []=PW:=by funext i j;simp[TO,PW]
 exact W.DQ (lo:=[]) (pu:=[]) (v:=λ_=>()) (by rw[e];exact c) d f (λi o _ h=>by simp at h) (λi o _ h=>by simp at h) g
def Jd:List Oper->List Nat->List Nat
 | [],acc=>acc
 | o::a,acc=>Jd a (acc++[(WN o).foldr (λj m=>(1 <<< j)|||acc.getD j 0|||m) 0])
def G2 (ο:Nat->Nat->Bool) (ops:Array Oper) (tags:List Bool):Bool:=
 let b:=Jd ops.toList []
 (List.range ops.size).all λi=>match ops[i]? with
  | none=>false
  | some a=>(WN a).all (λj=>decide (j<i))&&(List.range i).all λj=>match ops[j]? with
   | none=>false
   | some c=>!Ub ο ops tags i j a c||(b.getD i 0).testBit j
def DO (a:List (List Nat)) (b:List Nat):Prop:=a.length=b.length/\∀i j,(b.getD i 0).testBit j=true↔j∈a.getD i []
theorem x2:∀(c:List Oper) (b:List (List Nat)) (d:List Nat),DO b d->DO (LK c b) (Jd c d):=by
 intro c
 induction c with
 | nil=>intro b d h;exact h
 | cons o c f=>
  intro b d h;simp only[LK,Jd];refine f _ _ ⟨by simp[h.1],λi j=>?_⟩;have one:∀l:List Nat,(l.foldr (λj m=>(1 <<< j)|||d.getD j 0|||m) 0).testBit j=true↔j∈l++l.flatMap λj=>b.getD j []:=by
   intro l
   induction l with
   | nil=>simp
   | cons a l g=>
    rw[List.foldr_cons,Nat.testBit_or,Nat.testBit_or,Kt,Nat.testBit_two_pow];simp only[Bool.or_eq_true,decide_eq_true_eq,h.2 a j,g,Wd,Y6,List.flatMap_cons];constructor
    .rintro((e|e)|e|e)
     .exact .inl (.inl e.symm)
     .exact .inr (.inl e)
     .exact .inl (.inr e)
     .exact .inr (.inr e)
    .rintro((e|e)|e|e)
     .exact .inl (.inl e.symm)
     .exact .inr (.inl e)
     .exact .inl (.inr e)
     .exact .inr (.inr e)
  rw[Xr,Xr];by_cases hi:i<b.length
  .rw[YK hi,YK (by rw[<-h.1];exact hi),<-Xr,<-Xr];exact h.2 i j
  .rw[W8 (by have:=h.1;omega),W8 U,<-h.1];cases hd:i-b.length with
   | zero=>simpa using one (WN o)
   | succ n=>simp
theorem DN {ο:Nat->Nat->Bool} {ops:Array Oper} {tags:List Bool} (h:G2 ο ops tags=true):PX ο ops tags=true:=by
 unfold G2 at h;unfold PX;have e:=x2 ops.toList [] [] ⟨rfl,λi j=>I⟩;simp only[WQ] at h ⊢;intro i hi;have b:=h i hi;cases c:ops[i]? with
 | none=>rw[c] at b;exact b
 | some g=>
  rw[c] at b;simp only[Wt,WQ] at b ⊢;refine⟨b.1,λj f=>?_⟩;have a:=b.2 j f;cases d:ops[j]? with
  | none=>rw[d] at a;exact a
  | some k=>
   rw[d] at a;simp only[Bool.or_eq_true] at a ⊢;rcases a with a|a
   .exact .inl a
   .exact .inr (PA.2 ((e.2 i j).1 a))
end
def x1 (ops:Array Oper) (tags:List Bool):Bool:=G2 PW ops tags
theorem XD {ops:Array Oper} {tags:List Bool} (h:x1 ops tags=true):TP ops tags=true:=DN h
section
variable {P:Program} {T:ZR} {A:List Nat} {m nt:Nat} {k:List Item} {env env':ω} {σ:Ο} {Z:X7} {E:Yn} {ops:Array Oper}
theorem LJ {o:Oper} (h:SI ops o env env'):∀x,x∈o.op.operands.toList->ζ env' x=ζ env x:=λx a=>by
 cases x with
 | tmp t=>
  refine h t ?_;unfold LL;simp only[Wd,List.mem_filterMap];exact .inl ⟨.tmp t,a,rfl⟩
 | _=>rfl
theorem UJ {o:Oper} (h:SI ops o env env'):XK env' ops o=XK env ops o:=by
 unfold XK;cases a:o.guard with
 | none=>rfl
 | some x=>
  obtain⟨j,b⟩:=x;simp only;cases hd:(ops[j]?).bind (·.dst) with
  | none=>rfl
  | some d=>
   simp only;have:Z7 env' d=Z7 env d:=h d (by unfold LL;rw[a];simp[hd]);rw[this]
theorem Jc {a:Array (Nat×Operand)} (h:∀p∈a,ζ env' p.2=ζ env p.2):P1 env' a=P1 env a:=by
 unfold P1;exact NI λp b=>by rw[h p (by simpa using b)]
theorem LI {a:Array Operand} (h:∀x∈a,ζ env' x=ζ env x):a.toList.map (ζ env')=a.toList.map (ζ env):=NI λx b=>h x (by simpa using b)
theorem Jb {o:Option Operand} (h:∀x,o=some x->ζ env' x=ζ env x):o.map (ζ env')=o.map (ζ env):=by
 cases o with
 | none=>rfl
 | some x=>simp[h x rfl]
theorem PV {o:Oper} (r:SI ops o env env'):VD T A env' o=VD T A env o:=by
 have h:=LJ r;obtain⟨dst,g,w,pos,B,guard⟩:=o;simp only at h;unfold VD;cases g<;>simp only<;>try rfl
 all_goals simp only[Op.operands,Y6,Ya,or_false,forall_eq_or_imp,forall_eq] at h
 case move x=>rw[h]
 case assign x=>rw[h]
 case pick c a b=>rw[h.1,h.2.1,h.2.2]
 case box d x=>rw[h]
 case build d s=>rw[Jc λp j=>h p.2 (by simp only[Zq];exact⟨p,by simpa using j,rfl⟩)]
 case buildSlice d n s=>rw[Jc λp j=>h p.2 (by simp only[Zq];exact⟨p,by simpa using j,rfl⟩)]
 case load d x=>rw[h]
 case binOp g a x y b=>rw[h.1,h.2]
 case unOp g a x=>rw[h]
 case convert a b x=>rw[h]
 case index d x y=>rw[h.1,h.2]
 case nilCheck x=>rw[h]
 case sliceToArrayPointer d x=>rw[h]
 case makeInterface a x=>rw[h]
 case makeFunc f C cs=>rw[LI λx e=>h x (by simp[e]),LI λx e=>h x (by simp[e])]
 case makeSlice a x y=>rw[h.1,h.2]
 case slice d x lo hi t=>
  cases t with
  | some m=>rfl
  | none=>
   simp only;rw[h x I,Jb λy k=>h y (by simp[k]),Jb λy k=>h y (by simp[k])]
 case fieldAddr d x f=>rw[h]
 case indexAddr d x y=>rw[h.1,h.2]
 case typeAssert x a b c=>rw[h]
 case extract x i=>rw[h]
 case call c=>
  obtain⟨u,⟨args⟩,⟨v⟩⟩:=c;cases u
  case value=>rfl
  case invoke=>rfl
  rename_i b;have l:∀x∈args,ζ env' x=ζ env x:=λx e=>h x (by simp[Call.operands,e])
  match args,v with
  | [x],[d]=>simp only;rw[l x I]
  | [x,y],[D,d]=>simp only;rw[l x I,l y I]
  | [],_=>rfl
  | [_],[]=>rfl
  | [_],_::_::_=>rfl
  | [_,_],[]=>rfl
  | [_,_],[_]=>rfl
  | [_,_],_::_::_::_=>rfl
  | _::_::_::_,_=>rfl
theorem Nb {o:Oper} (l:SI ops o env env'):Wb T A env' σ o=Wb T A env σ o:=by
 have h:=LJ l;obtain⟨dst,k,C,pos,D,guard⟩:=o;simp only at h;unfold Wb;cases k<;>simp only<;>try rfl
 all_goals simp only[Op.operands,Y6,Ya,or_false,forall_eq_or_imp,forall_eq] at h
 case box e x=>rw[h]
 case build e s=>rw[Jc λp g=>h p.2 (by simp only[Zq];exact⟨p,by simpa using g,rfl⟩)]
 case buildSlice e n s=>rw[Jc λp g=>h p.2 (by simp only[Zq];exact⟨p,by simpa using g,rfl⟩)]
 case load e x=>rw[h]
 case store e x y=>rw[h.1,h.2]
 case makeSlice a x y=>rw[h.1,h.2]
 case makeMap e r=>cases r<;>rfl
 case convert a b x=>rw[h]
 case nilCheck x=>rw[h]
 case binOp k e x y d=>
  split
  all_goals first
   | rfl
   |(rename_i t;cases t<;>simp only[h.1])
 case mapUpdate e x y z=>rw[h.1,h.2.1,h.2.2]
 case insert e x y z=>rw[h.1,h.2.1,h.2.2]
 case lookup e x y E=>rw[h.1,h.2]
 case range e x=>rw[h]
 case next x b=>
  cases b<;>simp only<;>try rfl
  rw[h]
 case entry x=>rw[h]
 case slice e x lo hi u=>
  cases u with
  | some m=>rfl
  | none=>
   simp only;rw[h x I,Jb λy i=>h y (by simp[i]),Jb λy i=>h y (by simp[i])]
 case fieldAddr e x f=>rw[h]
 case indexAddr e x y=>rw[h.1,h.2]
 case call c=>
  obtain⟨v,⟨args⟩,⟨w⟩⟩:=c;cases v
  case value=>rfl
  case invoke=>rfl
  rename_i b;have j:∀x∈args,ζ env' x=ζ env x:=λx B=>h x (by simp[Call.operands,B])
  match args,w with
  | [x],[e]=>simp only;rw[j x I]
  | [x,y],[F,e]=>simp only;rw[j x I,j y I]
  | [],_=>rfl
  | [_],[]=>rfl
  | [_],_::_::_=>rfl
  | [_,_],[]=>rfl
  | [_,_],[_]=>rfl
  | [_,_],_::_::_::_=>rfl
  | _::_::_::_,_=>rfl
def XS (P:Program) (f:Ω) (args:κ) (r:Ω):Prop:=∀σ,WA P f args σ (λa s=>a=r/\s=σ) (λ_ _=>False)
def Zf.X1 (r:Zf) (K:Ω->Prop) (s:Prop):Prop:=match r with
 | .ok a=>K a
 | .Y' p (.ok a)=>p/\K a
 | .Y' _ _=>False
 | .bad=>s
def Y2.X1 (r:Y2) (K:Ω->Ο->Prop):Prop:=match r with
 | .ok a σ'=>K a σ'
 | .Y' p (.ok a σ')=>p/\K a σ'
 | _=>False
theorem x0 {r r':Zf} {K:Ω->Prop} {s:Prop} (h:r=r'):r.X1 K s=r'.X1 K s:=by rw[h]
theorem xZ {r r':Y2} {K:Ω->Ο->Prop} (h:r=r'):r.X1 K=r'.X1 K:=by rw[h]
def dcall (P:Program) (f:Ω) (args:κ) (σ:Ο) (b:Ω->Prop) (c:Ω->Ο->Prop):Prop:=
 (∃r,XS P f args r/\b r)\/∃r σ',WA P f args σ (λa s=>a=r/\s=σ') (λ_ _=>False)/\c r σ'
theorem Yl {P:Program} {f:Ω} {args:κ} {σ:Ο} {a:Ω->Prop} {b:Ω->Ο->Prop} {r:Ω} (h:XS P f args r) (k:a r):dcall P f args σ a b:=.inl ⟨r,h,k⟩
def PU (P:Program) (T:ZR) (A:List Nat) (env:ω) (o:Oper) (σ:Ο) (a:Ω->Prop) (b:Ω->Ο->Prop):Prop:=match o.op with
 | .call ⟨.value f,args,_⟩=>dcall P (ζ env f) (args.toList.map (ζ env)) σ a b
 | .panic _=>False
 | .defer _=>False
 | _=>(VD T A env o).X1 a ((Wb T A env σ o).X1 b)
theorem xY {P:Program} {T:ZR} {A:List Nat} {env:ω} {o:Oper} {σ:Ο} {a:Ω->Prop} {b:Ω->Ο->Prop}:PU P T A env o σ a b=match o.op with
 | .call ⟨.value f,args,_⟩=>dcall P (ζ env f) (args.toList.map (ζ env)) σ a b
 | .panic _=>False
 | .defer _=>False
 | _=>(VD T A env o).X1 a ((Wb T A env σ o).X1 b):=Xx rfl rfl
theorem xX {a:Ω} {K:Ω->Prop} {s:Prop}:Zf.X1 (.ok a) K s=K a:=Xx rfl rfl
theorem xW {p:Prop} {a:Ω} {K:Ω->Prop} {s:Prop}:Zf.X1 (.Y' p (.ok a)) K s=(p/\K a):=Xx rfl rfl
theorem xV {K:Ω->Prop} {s:Prop}:Zf.X1 .bad K s=s:=Xx rfl rfl
theorem xU {a:Ω} {σ:Ο} {K:Ω->Ο->Prop}:Y2.X1 (.ok a σ) K=K a σ:=Xx rfl rfl
theorem xT {p:Prop} {a:Ω} {σ:Ο} {K:Ω->Ο->Prop}:Y2.X1 (.Y' p (.ok a σ)) K=(p/\K a σ):=Xx rfl rfl
def Vs (P:Program) (T:ZR) (A:List Nat) (nt:Nat) (ops:Array Oper):List Nat->ω->Ο->List Bool->(ω->Ο->Prop)->Prop
 | [],env,σ,tags,K=>TP ops tags=true/\K env σ
 | i::is,env,σ,tags,K=>Xc ops[i]? λo=>WO nt o=true/\Xc (XK env ops o) λw=>
   Wa w (Vs P T A nt ops is (Zt o env .Zl) σ (tags++[false]) K)
    (PU P T A env o σ (λa=>Vs P T A nt ops is (Zt o env a) σ (tags++[false]) K) (λa σ'=>Vs P T A nt ops is (Zt o env a) σ' (tags++[true]) K))
def DL (P:Program) (T:ZR) (A:List Nat) (nt:Nat) (ops:Array Oper) (is:List Nat) (o:Oper) (env:ω) (σ:Ο) (tags:List Bool) (K:ω->Ο->Prop) (a:Ω):Prop:=Vs P T A nt ops is (Zt o env a) σ (tags++[false]) K
def DK (P:Program) (T:ZR) (A:List Nat) (nt:Nat) (ops:Array Oper) (is:List Nat) (o:Oper) (env:ω) (tags:List Bool) (K:ω->Ο->Prop) (a:Ω) (σ':Ο):Prop:=Vs P T A nt ops is (Zt o env a) σ' (tags++[true]) K
theorem ZL {tags:List Bool} {K:ω->Ο->Prop}:Vs P T A nt ops [] env σ tags K=(TP ops tags=true/\K env σ):=Xx rfl rfl
theorem ZK {i:Nat} {is:List Nat} {tags:List Bool} {K:ω->Ο->Prop}:Vs P T A nt ops (i::is) env σ tags K=Xc ops[i]? λo=>WO nt o=true/\Xc (XK env ops o) λw=>
   Wa w (Vs P T A nt ops is (Zt o env .Zl) σ (tags++[false]) K) (PU P T A env o σ (DL P T A nt ops is o env σ tags K) (DK P T A nt ops is o env tags K)):=Xx rfl rfl
theorem xS {ops:Array Oper} {is:List Nat} {o:Oper} {tags:List Bool} {K:ω->Ο->Prop} {a:Ω}:DL P T A nt ops is o env σ tags K a=Vs P T A nt ops is (Zt o env a) σ (tags++[false]) K:=Xx rfl rfl
theorem xR {ops:Array Oper} {is:List Nat} {o:Oper} {tags:List Bool} {K:ω->Ο->Prop} {a:Ω}:DK P T A nt ops is o env tags K a σ=Vs P T A nt ops is (Zt o env a) σ (tags++[true]) K:=Xx rfl rfl
def V4 (P:Program) (m nt:Nat) (k:List Item) (Z:X7) (E:Yn) (ops:Array Oper) (i:Nat) (o:Oper) (env:ω) (σ:Ο) (b:Bool) (a:Ω) (σ':Ο):Prop:=
 if b then Pk P m nt k Z E ops i o env σ a σ'/\(VU o=true->σ'=σ) else Pl P m nt k Z E ops i o env a/\σ'=σ
theorem xQ {b:TypeId} {x a:Ω} {σ':Ο} {p:Prop} (h:SO T b σ x=.ok a σ'\/SO T b σ x=.Y' p (.ok a σ')):σ'=σ:=by
 unfold SO QR at h
 repeat' split at h
 all_goals simp[Zf.YD] at h
 all_goals first|exact h.2.symm|skip
theorem xP {b:TypeId} {x c a:Ω} {σ':Ο} {p:Prop} (h:SM T b σ x c=.ok a σ'\/SM T b σ x c=.Y' p (.ok a σ')):σ'=σ:=by
 unfold SM at h
 repeat' split at h
 all_goals simp at h
 all_goals first|exact h.2.2.symm|exact h.2.symm|skip
theorem xO {b:TypeId} {f:Nat} {x a:Ω} {σ':Ο} {p:Prop} (h:SN T b f σ x=.ok a σ'\/SN T b f σ x=.Y' p (.ok a σ')):σ'=σ:=by
 unfold SN at h
 repeat' split at h
 all_goals simp at h
 all_goals first|exact h.2.2.symm|exact h.2.symm|skip
theorem xN {x a:Ω} {σ':Ο} {p:Prop} (h:Oe σ x=.ok a σ'\/Oe σ x=.Y' p (.ok a σ')):σ'=σ:=by
 unfold Oe at h
 repeat' split at h
 all_goals simp at h
 all_goals first|exact h.2.2.symm|exact h.2.symm|skip
theorem Na {o:Oper} {a:Ω} {σ':Ο} {p:Prop} (c:VU o=true) (h:Wb T A env σ o=.ok a σ'\/Wb T A env σ o=.Y' p (.ok a σ')):σ'=σ:=by
 unfold VU at c;unfold Wb at h;split at c
 .rename_i d x b;rw[b] at h;exact xQ h
 .rename_i d x e b;rw[b] at h;exact xP h
 .rename_i d x f b;rw[b] at h;exact xO h
 .rename_i x b;rw[b] at h;exact xN h
 .cases c
theorem xM (D:ZB P T) {i:Nat} {is:List Nat} {tags:List Bool} {K:ω->Ο->Prop} (h:Vs P T A nt ops (i::is) env σ tags K) :
  ∃o a σ' F,ops[i]?=some o/\V4 P m nt k Z E ops i o env σ F a σ'/\Vs P T A nt ops is (Zt o env a) σ' (tags++[F]) K:=by
 unfold Vs Xc at h;split at h
 .exact h.elim
 .rename_i o d;obtain⟨hd,h⟩:=h;split at h
  .exact h.elim
  rename_i w t;unfold Wa at h;cases w
  .replace h:=h.1 rfl
   refine⟨o,.Zl,σ,false,d,?_,h⟩;unfold V4;simp only[W',if_false];exact⟨λenv' σ' rest b g=>.unwanted d (by rw[UJ b];exact t) hd g,trivial⟩
  .replace h:=h.2 rfl
   unfold PU at h;split at h
   .rename_i f args Q u;have H:∀env',SI ops o env env'->ζ env' f=ζ env f/\args.toList.map (ζ env')=args.toList.map (ζ env):=λenv' b=>by
     have v:=LJ b;rw[u] at v;refine⟨v f (by simp[Op.operands,Call.operands]),LI λx M=>v x (by simp[Op.operands,Call.operands,M])⟩
    rcases h with⟨r,l,h⟩|⟨r,σ',l,h⟩
    .refine⟨o,r,σ,false,d,?_,h⟩;unfold V4;simp only[W',if_false];refine⟨λenv' σ' rest b g=>.call d (by rw[UJ b];exact t) hd u ?_,trivial⟩;obtain⟨B,Φ⟩:=H env' b;rw[B,Φ];exact(l σ').mono (λa s ⟨x,y⟩=>by subst x;subst y;exact g) (λ_ _ h=>h.elim)
    .refine⟨o,r,σ',true,d,?_,h⟩;unfold V4;simp only[if_true];refine⟨?_,λe=>by unfold VU at e;rw[u] at e;cases e⟩;refine λenv' rest b g=>.call d (by rw[UJ b];exact t) hd u ?_;obtain⟨B,Φ⟩:=H env' b;rw[B,Φ];exact l.mono (λa s ⟨x,y⟩=>by subst x;subst y;exact g) (λ_ _ h=>h.elim)
   .exact h.elim
   .exact h.elim
   .rename_i R S I;have J:∀(r:Zf) (a:Ω),VD T A env o=r->(∀K:Ω->Ο->Prop,∀s,K a s->(r.YD s).holds K)->(∀σ s,r.or σ s=r.YD σ)->Pl P m nt k Z E ops i o env a:=λr a e C N env' σ' rest b g=>by
     refine .op (A:=A) D d (by rw[UJ b];exact t) hd (λc l=>I c l) ?_;rw[PV b,e,N];exact C _ _ g
    unfold Zf.X1 at h;split at h
    .rename_i a j;refine⟨o,a,σ,false,d,?_,h⟩;unfold V4;simp only[W',if_false];exact⟨J _ a j (λK s n=>n) (λ_ _=>rfl),trivial⟩
    .rename_i p a j;refine⟨o,a,σ,false,d,?_,h.2⟩;unfold V4;simp only[W',if_false];exact⟨J _ a j (λK s n=>⟨h.1,n⟩) (λ_ _=>rfl),trivial⟩
    .exact h.elim
    .rename_i O;have L:∀(a:Ω) (σ':Ο) (r:Y2),Wb T A env σ o=r->(∀K:Ω->Ο->Prop,K a σ'->r.holds K)->Pk P m nt k Z E ops i o env σ a σ':=λa σ' r e C env' rest b g=>by
      refine .op (A:=A) D d (by rw[UJ b];exact t) hd (λc l=>I c l) ?_;rw[PV b,Nb b,O,e];exact C _ g
     unfold Y2.X1 at h;split at h
     .rename_i a σ' j;refine⟨o,a,σ',true,d,?_,h⟩;unfold V4;simp only[if_true];exact⟨L a σ' _ j λK n=>n,λe=>Na (p:=True) e (.inl j)⟩
     .rename_i p a σ' j;refine⟨o,a,σ',true,d,?_,h.2⟩;unfold V4;simp only[if_true];exact⟨L a σ' _ j λK n=>⟨h.1,n⟩,λe=>Na e (.inr j)⟩
     .exact h.elim
theorem G1 {env0:ω} {as9 a:Nat->Ω} {b:Nat->Bool}:∀n,(∀j,j<n->as9 j=a j)->Zc ops env0 as9 b n=Zc ops env0 a b n:=by
 intro n
 induction n with
 | zero=>intro _;rfl
 | succ n c=>
  intro h;simp only[Zc];rw[c λj d=>h j U,h n (Qg n)]
theorem xL (t:ZB P T) {K:ω->Ο->Prop} {env0:ω}:∀(d i:Nat) (tags:List Bool) (as9:Nat->Ω) (σs:Nat->Ο),i+d=ops.size->tags.length=i->
  (∀j o,j<i->ops[j]?=some o->V4 P m nt k Z E ops j o (Zc ops env0 as9 (λ_=>true) j) (σs j) (tags.getD j false) (as9 j) (σs (j+1)))->
  Vs P T A nt ops (List.range' i d) (Zc ops env0 as9 (λ_=>true) i) (σs i) tags K->
  ∃(tags:List Bool) (as9:Nat->Ω) (b:Nat->Ο),TP ops tags=true/\b 0=σs 0/\(∀j o,ops[j]?=some o->V4 P m nt k Z E ops j o (Zc ops env0 as9 (λ_=>true) j) (b j) (tags.getD j false) (as9 j) (b (j+1)))/\K (Zc ops env0 as9 (λ_=>true) ops.size) (b ops.size):=by
 intro d
 induction d with
 | zero=>
  intro i tags as9 σs hi n g h;simp only[List.range'_zero,Vs] at h;have:i=ops.size:=U;subst this;exact⟨tags,as9,σs,h.1,rfl,λj o f=>g j o (TY.1 f).1 f,h.2⟩
 | succ d u=>
  intro i tags as9 σs hi n g h;rw[Kq] at h;obtain⟨o,a,σ',l,f,v,h⟩:=xM (m:=m) (k:=k) (Z:=Z) (E:=E) t h;let c:Nat->Ω:=λj=>if j=i then a else as9 j
  let b:Nat->Ο:=λj=>if j=i+1 then σ' else σs j
  have p:∀j,j<=i->Zc ops env0 as9 (λ_=>true) j=Zc ops env0 c (λ_=>true) j:=λj g=>G1 j λx J=>by simp only[c];rw[if_neg U]
  have w:Zc ops env0 c (λ_=>true) (i+1)=Zt o (Zc ops env0 as9 (λ_=>true) i) a:=by
   simp only[Zc,if_true,f];rw[<-p i (γ i)];simp only[c,if_true]
  have:=u (i+1) (tags++[l]) c b U (by simp[n]) (λj y L r=>?_) ?_
  .obtain⟨t2,B,C,D,F,H,I⟩:=this;exact⟨t2,B,C,D,F.trans (by simp only[b];rw[if_neg U]),H,I⟩
  .by_cases e:j=i
   .subst e;rw[f] at r;cases r;rw[<-p j (γ j)];have s:(tags++[l]).getD j false=l:=by rw[Xr,W8 U,n];simp
    rw[s];simp only[c,b,if_true];rw[if_neg U];exact v
   .have:=g j y U r;rw[<-p j U];have s:(tags++[l]).getD j false=tags.getD j false:=by rw[Xr,YK U,<-Xr]
    rw[s];simp only[c,b];rw[if_neg U,if_neg U,if_neg U];exact this
  .rw[w];simp only[b,if_true];exact h
theorem W.draw (s:ZB P T) (u:P.follows .mixedOrders=true) {id:Nat} (h:∀d:ω->Ο->Prop,(∀env σ,W P m nt k env σ Z E->d env σ)->Vs P T A nt ops (idx ops.size []) env σ [] d):W P m nt (.code (.region id ops true)::k) env σ Z E:=by
 have e:=h (λenv σ=>W P m nt k env σ Z E) λ_ _ h=>h;rw[idx_eq,KB] at e;obtain⟨tags,as9,σs,v,w,f,y⟩:=xL (m:=m) (k:=k) (Z:=Z) (E:=E) (env0:=env) s ops.size 0 [] (λ_=>.Zl) (λ_=>σ) U rfl (λj o C=>U) e;intro D mn x cs b S B H t g l F J K;refine .draw g l λn=>?_;have p:=W.x3 (P:=P) (m:=m) (nt:=nt) (k:=k) (Z:=Z) (E:=E) (ops:=ops) (as9:=as9) (σs:=σs) (tags:=tags) (env0:=env) v
  (λi o a c=>by have:=f i o a;unfold V4 at this;rw[c] at this;simpa using this)
  (λi o a c=>by have:=f i o a;unfold V4 at this;rw[c] at this;simpa using this)
  (.ZF y) ops.size n (Array.replicate ops.size false) env 0 I (λi=>?_) (λi o a r=>?_) (χ _) (λj C _=>?_) ?_
 .rw[w] at p;rw[u];simp only[Region.schedule,Bool.true_or,if_true,Region.linearise];exact p D mn x cs b S B H t g l F J K
 .have:∀n,Zc ops env as9 (λi=>(Array.replicate ops.size false).getD i false) n=env:=by
   intro n
   induction n with
   | zero=>rfl
   | succ n L=>
    simp only[Zc];have:(Array.replicate ops.size false).getD n false=false:=by
     rw[WG,OR];split<;>rfl
    rw[if_neg (by rw[this];simp)];exact L
  rw[this]
 .have:(Array.replicate ops.size false).getD i false=false:=by
   rw[WG,OR];split<;>rfl
  rw[this] at r;cases r
 .have:(Array.replicate ops.size false).getD j false=false:=by
   rw[WG,OR];split<;>rfl
  rw[this];simp
 .have:=KC (λi=>!(Array.replicate ops.size false).getD i false) (List.range ops.size);simpa using this
theorem DJ {K K':ω->Ο->Prop} (k:∀e s,K e s->K' e s):∀(is:List Nat) (env:ω) (σ:Ο) (tags:List Bool),Vs P T A nt ops is env σ tags K->Vs P T A nt ops is env σ tags K':=by
 intro is
 induction is with
 | nil=>intro env σ tags h;exact⟨h.1,k _ _ h.2⟩
 | cons i is b=>
  intro env σ tags h;unfold Vs Xc at h ⊢;cases d:ops[i]? with
  | none=>rw[d] at h;exact h.elim
  | some o=>
   rw[d] at h;simp only at h ⊢;refine⟨h.1,?_⟩
   replace h:=h.2
   cases g:XK env ops o with
   | none=>rw[g] at h;exact h.elim
   | some w=>
    rw[g] at h;unfold Wa at h ⊢;refine⟨λe=>b _ _ _ (h.1 e),λe=>?_⟩
    replace h:=h.2 e
    unfold PU at h ⊢;split
    .rename_i f args j a;rw[a] at h;simp only at h;rcases h with⟨r,c,h⟩|⟨r,σ',c,h⟩
     .exact .inl ⟨r,c,b _ _ _ h⟩
     .exact .inr ⟨r,σ',c,b _ _ _ h⟩
    .rename_i a;rw[a] at h;exact h
    .rename_i a;rw[a] at h;exact h
    .rename_i l m n;split at h
     .rename_i f args j a;exact absurd a (l f args j)
     .rename_i y a;exact absurd a (m y)
     .rename_i y a;exact absurd a (n y)
     .unfold Zf.X1 at h ⊢;split at h
      .exact b _ _ _ h
      .exact⟨h.1,b _ _ _ h.2⟩
      .exact h.elim
      .unfold Y2.X1 at h ⊢;split at h
       .exact b _ _ _ h
       .exact⟨h.1,b _ _ _ h.2⟩
       .exact h.elim
theorem W.M' (b:ZB P T) (c:P.follows .mixedOrders=true) (a:ω) {id:Nat} (h:W P m nt k a σ Z E) (d:Vs P T A nt ops (idx ops.size []) env σ [] (λe s=>s=σ/\∀p∈a,Z7 e p.1=p.2)):W P m nt (.code (.region id ops true)::k) env σ Z E:=
 W.draw b c λj f=>DJ (λe s ⟨g,i⟩=>f e s (g▸W.forget a i h)) _ _ _ _ d
end
def VC {α:Type}:List α->List Nat->List α->List α
 | l,i::ρ,x::xs=>VC (l.set i x) ρ xs
 | l,_,_=>l
theorem PT {α:Type}:∀(ρ:List Nat) (l xs:List α),(VC l ρ xs).length=l.length:=by
 intro ρ
 induction ρ with
 | nil=>intro l xs;cases xs<;>rfl
 | cons i ρ a=>intro l xs;cases xs with
  | nil=>rfl
  | cons x xs=>simp[VC,a]
theorem GZ {α:Type} {i:Nat}:∀(ρ:List Nat) (l xs:List α),i∉ρ->(VC l ρ xs)[i]?=l[i]?:=by
 intro ρ
 induction ρ with
 | nil=>intro l xs _;cases xs<;>rfl
 | cons j ρ a=>intro l xs h;cases xs with
  | nil=>rfl
  | cons x xs=>
   simp only[VC];rw[a _ _ (λb=>h (by simp[b])),WR (λe=>h (by simp[e]))]
theorem DI {α:Type}:∀(ρ:List Nat) (l xs:List α),ρ.Nodup->(∀i∈ρ,i<l.length)->∀(j i:Nat) (x:α),ρ[j]?=some i->xs[j]?=some x->(VC l ρ xs)[i]?=some x:=by
 intro ρ
 induction ρ with
 | nil=>intro l xs _ _ j i x h;simp at h
 | cons a ρ e=>
  intro l xs f d j i x c b;cases xs with
  | nil=>simp at b
  | cons y xs=>
   simp only[VC];obtain⟨g,k⟩:=Q7.1 f;cases j with
   | zero=>
    simp at c b;subst c;subst b;rw[GZ ρ _ _ g,Xa (d a I)]
   | succ j=>
    simp only[List.getElem?_cons_succ] at c b;exact e _ _ k (λi hi=>by simp;exact d i (by simp[hi])) j i x c b
def WM (ρ:List Nat):Ω->Ω
 | .Κ id n i j=>.Κ (ρ.getD id 0) n i j
 | .ms id n i len=>.ms (ρ.getD id 0) n i len
 | .mp id=>.mp (ρ.getD id 0)
 | .it id=>.it (ρ.getD id 0)
 | a=>a
def Yx (ρ:List Nat):Ω->Ω
 | .fn f b cs=>.fn f (b.map (WM ρ)) (cs.map (WM ρ))
 | .ZT l=>.ZT (l.map (WM ρ))
 | .ZW l=>.ZW (l.map (WM ρ))
 | a=>WM ρ a
def Ua (h:Nat) (a:Ω):Prop:=match a with
 | .Κ id _ _ _|.ms id _ _ _|.mp id|.it id=>id<h
 | a=>ς 0 a
def XC (h:Nat) (a:Ω):Prop:=match a with
 | .fn _ b cs=>(∀a∈b,Ua h a)/\∀a∈cs,Ua h a
 | .ZT l|.ZW l=>∀a∈l,Ua h a
 | a=>Ua h a
structure Names (ρ:List Nat) (a:Z8) (σ0:Ο) (b:Z8) (c:Ο):Prop where
 row:∀(j i:Nat),ρ[j]?=some i->c[i]?=σ0[j]?
 blk:∀(j i:Nat),ρ[j]?=some i->b[i]?=a[j]?
section
variable {S:μ} {Ja Sc:Z8} {σ0 I':Ο} {ρ:List Nat}
theorem I9 {ρ:List Nat} {j:Nat} (h:j<ρ.length):ρ[j]?=some (ρ.getD j 0):=by
 rw[Xr,δ h];rfl
theorem Uw (g:Names ρ Ja σ0 Sc I') {a:Ω} {v:Value} (l:Ua ρ.length a):π S Sc I' (WM ρ a) v↔π S Ja σ0 a v:=by
 cases a with
 | Κ id n i j=>
  have e:=I9 (ρ:=ρ) l
  have d:=g.row _ _ e
  have f:=g.blk _ _ e;constructor
  .intro h;cases h with
   | Κ b c k=>exact .Κ (by rw[<-d];exact b) c (by rw[<-f];exact k)
   | Ve v b c=>exact .Ve v (by rw[<-d];exact b) c
  .intro h;cases h with
   | Κ b c k=>exact .Κ (by rw[d];exact b) c (by rw[f];exact k)
   | Ve v b c=>exact .Ve v (by rw[d];exact b) c
 | ms id n i len=>
  have e:=I9 (ρ:=ρ) l
  have d:=g.row _ _ e
  have f:=g.blk _ _ e;constructor
  .intro h;cases h with
   | ms cap b c k m o p=>exact .ms cap (by rw[<-d];exact b) c (by rw[<-f];exact k) m o p
   | Vt v b c=>exact .Vt v (by rw[<-d];exact b) c
  .intro h;cases h with
   | ms cap b c k m o p=>exact .ms cap (by rw[d];exact b) c (by rw[f];exact k) m o p
   | Vt v b c=>exact .Vt v (by rw[d];exact b) c
 | mp id=>
  have e:=I9 (ρ:=ρ) l
  have d:=g.row _ _ e
  have f:=g.blk _ _ e;constructor
  .intro h;cases h with
   | mp b c=>exact .mp (by rw[<-d];exact b) (by rw[<-f];exact c)
   | Uf v b=>exact .Uf v (by rw[<-d];exact b)
  .intro h;cases h with
   | mp b c=>exact .mp (by rw[d];exact b) (by rw[f];exact c)
   | Uf v b=>exact .Uf v (by rw[d];exact b)
 | it id=>
  have e:=I9 (ρ:=ρ) l
  have d:=g.row _ _ e
  have f:=g.blk _ _ e;constructor
  .intro h;cases h with
   | it b c=>exact .it (by rw[<-d];exact b) (by rw[<-f];exact c)
   | Tg v b=>exact .Tg v (by rw[<-d];exact b)
  .intro h;cases h with
   | it b c=>exact .it (by rw[d];exact b) (by rw[f];exact c)
   | Tg v b=>exact .Tg v (by rw[d];exact b)
 | _=>exact⟨λh=>h.any l _ _,λh=>h.any l _ _⟩
theorem I8 {f:Ω->Ω} {l:κ} {i:Nat} {a:Ω} (h:(l.map f)[i]?=some a):∃b,l[i]?=some b/\a=f b:=by
 rw[YU] at h;cases c:l[i]? with
 | none=>rw[c] at h;cases h
 | some b=>rw[c] at h;cases h;exact⟨b,rfl,rfl⟩
theorem GY (c:Names ρ Ja σ0 Sc I') {a:Ω} {v:Value} (d:XC ρ.length a):π S Sc I' (Yx ρ a) v↔π S Ja σ0 a v:=by
 cases a with
 | fn f s cs=>
  constructor
  .intro h;cases h with
   | fn vs o e g p r=>
    refine .fn vs o (by simpa using e) (by simpa using g) (λi a v hi hv=>?_) (λi a v hi hv=>?_)
    .exact(Uw c (d.1 a (Zi hi))).1 (p i _ v (by rw[YU,hi];rfl) hv)
    .exact(Uw c (d.2 a (Zi hi))).1 (r i _ v (by rw[YU,hi];rfl) hv)
  .intro h;cases h with
   | fn vs o e g p r=>
    refine .fn vs o (by simpa using e) (by simpa using g) (λi a v hi hv=>?_) (λi a v hi hv=>?_)
    .obtain⟨b,m,rfl⟩:=I8 hi;exact(Uw c (d.1 b (Zi m))).2 (p i b v m hv)
    .obtain⟨b,m,rfl⟩:=I8 hi;exact(Uw c (d.2 b (Zi m))).2 (r i b v m hv)
 | ZT l=>
  constructor
  .intro h;cases h with
   | ZT vs e g=>exact .ZT vs (by simpa using e) λi a v hi hv=>(Uw c (d a (Zi hi))).1 (g i _ v (by rw[YU,hi];rfl) hv)
  .intro h;cases h with
   | ZT vs e g=>
    refine .ZT vs (by simpa using e) λi a v hi hv=>?_;obtain⟨b,m,rfl⟩:=I8 hi;exact(Uw c (d b (Zi m))).2 (g i b v m hv)
 | ZW l=>
  constructor
  .intro h;cases h with
   | ZW vs e g=>exact .ZW vs (by simpa using e) λi a v hi hv=>(Uw c (d a (Zi hi))).1 (g i _ v (by rw[YU,hi];rfl) hv)
  .intro h;cases h with
   | ZW vs e g=>
    refine .ZW vs (by simpa using e) λi a v hi hv=>?_;obtain⟨b,m,rfl⟩:=I8 hi;exact(Uw c (d b (Zi m))).2 (g i b v m hv)
 | z u=>exact Uw (a:=.z u) c d
 | Θ l=>exact Uw (a:=.Θ l) c d
 | sl ex k l=>exact Uw (a:=.sl ex k l) c d
 | Κ id n i j=>exact Uw (a:=.Κ id n i j) c d
 | ms id n i len=>exact Uw (a:=.ms id n i len) c d
 | Xe t a=>exact Uw (a:=.Xe t a) c d
 | mp id=>exact Uw (a:=.mp id) c d
 | it id=>exact Uw (a:=.it id) c d
 | Zl=>exact Uw (a:=.Zl) c d
end
section
variable {P:Program} {S YA:μ} {B:Z8} {H H':Χ} {σ:Ο}
def V9 (r:Row):Prop:=match r with|.cells _ _ l=>∀e∈l,∀a∈e.cells,ς 0 a|_=>False
def LH (r:Row):Prop:=V9 r\/r=.dead
theorem Vd.plain {B':Z8} {σ':Ο} {r:Row} {bo:Option (Nat×Nat)} (c:V9 r) (h:Vd S B σ H r bo) (g:Z8) (m:Ο):Vd S g m H r bo:=by
 cases r with
 | cells t k l=>
  cases bo with
  | none=>exact h
  | some x=>
   obtain⟨b,N⟩:=x;obtain⟨n,o,p,w,d⟩:=h;refine⟨n,o,p,w,λi e hi=>⟨(d i e hi).1,λj a f=>?_⟩⟩;obtain⟨s,u,v⟩:=(d i e hi).2 j a f;exact⟨s,u.any (c e (Zi hi) a (Zi f)) _ _,v⟩
 | _=>exact c.elim
theorem Vd.xK {B':Z8} {σ':Ο} {r:Row} {bo:Option (Nat×Nat)} (a:LH r) (h:Vd S B σ H r bo) (b:Z8) (c:Ο):Vd S b c H r bo:=by
 rcases a with a|rfl
 .exact Vd.plain (B':=B') (σ':=σ') a h b c
 .trivial
theorem Holds.DH (s:Holds S B σ H) {ρ:List Nat} {I:Ο} (az:ρ.Nodup) (ai:ρ.length=I.length) (aj:∀(j i:Nat),ρ[j]?=some i->σ[i]?=I[j]?) (aL:∀r∈I,V9 r)
  {d:Z8} {σ0:Ο} (C:Ext S (ρ.map λi=>B.getD i none) H YA d H') (aA:Zx S YA (ρ.map λi=>B.getD i none) d I σ0) (V:Holds YA d σ0 H') (aM:∀r∈σ0,LH r) :
  let t:=VC σ ρ σ0++σ0.drop ρ.length
  let m:=VC B ρ d++d.drop ρ.length
  Holds YA m t H'/\Ext S B H YA m H'/\Zx S YA B m σ t/\Names (ρ++(List.range (σ0.length-ρ.length)).map (σ.length + ·)) d σ0 m t:=by
 intro t m;have ak:∀i∈ρ,i<σ.length:=λi hi=>by
  obtain⟨j,a⟩:=St hi;have n:j<I.length:=by rw[<-ai];exact(ZA.1 a).1
  have:=aj j i a;rw[δ n] at this;exact(ZA.1 this).1
 have aa:∀i∈ρ,i<B.length:=λi hi=>by rw[s.len];exact ak i hi
 have aX:ρ.length<=σ0.length:=by rw[ai];exact aA.length
 have aN:d.length=σ0.length:=V.len
 have aO:∀(j i:Nat),ρ[j]?=some i->(ρ.map λi=>B.getD i none)[j]?=B[i]?:=λj i a=>by
  have hi:=aa i (Zi a);rw[YU,a];simp[hi]
 have al:∀(j i:Nat),ρ[j]?=some i->t[i]?=σ0[j]?:=λj i a=>by
  have hi:=ak i (Zi a)
  have n:j<σ0.length:=by have:=(ZA.1 a).1;omega
  show(VC σ ρ σ0++_)[i]?=_;rw[YK (by rw[PT];exact hi),δ n];exact DI ρ σ σ0 az ak j i _ a (δ n)
 have am:∀(j i:Nat),ρ[j]?=some i->m[i]?=d[j]?:=λj i a=>by
  have hi:=aa i (Zi a)
  have n:j<d.length:=by have:=(ZA.1 a).1;omega
  show(VC B ρ d++_)[i]?=_;rw[YK (by rw[PT];exact hi),δ n];exact DI ρ B d az aa j i _ a (δ n)
 have an:∀i,i<σ.length->i∉ρ->t[i]?=σ[i]?:=λi hi g=>by
  show(VC σ ρ σ0++_)[i]?=_;rw[YK (by rw[PT];exact hi),GZ ρ _ _ g]
 have ao:∀i,i<σ.length->i∉ρ->m[i]?=B[i]?:=λi hi g=>by
  show(VC B ρ d++_)[i]?=_;rw[YK (by rw[PT,s.len];exact hi),GZ ρ _ _ g]
 have aB:∀x,t[σ.length+x]?=σ0[ρ.length+x]?:=λx=>by
  show(VC σ ρ σ0++_)[_]?=_;rw[W8 (by rw[PT];omega),PT,Tq];congr 1;omega
 have aC:∀x,m[σ.length+x]?=d[ρ.length+x]?:=λx=>by
  show(VC B ρ d++_)[_]?=_;rw[W8 (by rw[PT,s.len];omega),PT,s.len,Tq];congr 1;omega
 have W:∀(i:Nat) (r:Row),t[i]?=some r->(i<σ.length/\i∉ρ/\σ[i]?=some r/\m[i]?=B[i]?)\/∃j,σ0[j]?=some r/\m[i]?=d[j]?/\(∀w D,(w<σ.length->ρ[D]?=some w)->(¬w<σ.length->D=ρ.length+(w-σ.length))->j=D->i=w)/\((i<σ.length->ρ[j]?=some i)/\(¬i<σ.length->j=ρ.length+(i-σ.length))):=λi r f=>by
  by_cases hi:i<σ.length
  .by_cases g:i∈ρ
   .obtain⟨j,a⟩:=St g;refine .inr ⟨j,by rw[<-al j i a];exact f,am j i a,λw D J p e=>?_,λ_=>a,λh=>absurd hi h⟩;subst e;by_cases X:w<σ.length
    .have:=J X;rw[a] at this;cases this;rfl
    .have:=p X;have:=(ZA.1 a).1;omega
   .exact .inl ⟨hi,g,by rw[<-an i hi g];exact f,ao i hi g⟩
  .have e:i=σ.length+(i-σ.length):=U
   refine .inr ⟨ρ.length+(i-σ.length),by rw[<-aB,<-e];exact f,by rw[<-aC,<-e],λw D J p aY=>?_,λh=>absurd h hi,λ_=>rfl⟩;by_cases X:w<σ.length
   .have:=(ZA.1 (J X)).1;omega
   .have:=p X;omega
 have aD:m.length=t.length:=by
  show(VC B ρ d++d.drop ρ.length).length=(VC σ ρ σ0++σ0.drop ρ.length).length;simp[PT,s.len,aN]
 have aE:Zx S YA B m σ t:=⟨C.YO,λid r f=>by
  have hi:=(ZA.1 f).1;by_cases g:id∈ρ
  .obtain⟨j,a⟩:=St g;have aP:I[j]?=some r:=by rw[<-aj j id a];exact f
   obtain⟨r',k,c⟩:=aA.rows j r aP;exact⟨r',by rw[al j id a];exact k,by rw[am j id a,<-aO j id a];exact c⟩
  .exact⟨r,by rw[an id hi g];exact f,by rw[ao id hi g];exact r.P8 _⟩⟩
 have ab:∀b,Z8.has (ρ.map λi=>B.getD i none) b->∃j i N,ρ[j]?=some i/\B[i]?=some (some (b,N)):=λb ⟨N,ap⟩=>by
  obtain⟨j,a⟩:=St ap;rw[YU] at a;cases P:ρ[j]? with
  | none=>rw[P] at a;cases a
  | some i=>
   rw[P] at a;simp only[Option.map_some,Qj] at a;have hi:=aa i (Zi P);rw[Xr,δ hi] at a;exact⟨j,i,N,P,by rw[δ hi];simpa using a⟩
 have aF:∀(j i:Nat),ρ[j]?=some i->∃r,σ[i]?=some r/\r.live/\V9 r:=λj i a=>by
  have n:j<I.length:=by rw[<-ai];exact(ZA.1 a).1
  have f:=δ n
  have aq:=aL _ (Zi f);refine⟨_,by rw[aj j i a];exact f,?_,aq⟩;cases P:I[j]<;>rw[P] at aq<;>first|trivial|exact aq.elim
 have ad:∀(id:Nat) (r:Row) (b N:Nat),id∉ρ->σ[id]?=some r->r.live->B[id]?=some (some (b,N))->¬Z8.has (ρ.map λi=>B.getD i none) b/\¬H.fresh b/\UL H H' b:=λid r b N g f y l=>by
  have Q:¬Z8.has (ρ.map λi=>B.getD i none) b:=λar=>by
   obtain⟨j,i,ae,J,p⟩:=ab b ar;obtain⟨r',k,c,_⟩:=aF j i J;exact s.inj id i r r' b N ae (λe=>g (e▸Zi J)) f k y c l p
  have R:=s.SP f y l;exact⟨Q,R,(C.Xf b Q R).RG λo=>s.sep id r b N f y l o⟩
 refine⟨⟨V.YO,aD,λi r bo f T=>?_,λi j A E b K O aG hi a af ag L M=>?_,λi r b N f y l o=>?_⟩,⟨C.YO,λb l aQ=>?_,λb l=>?_,λb o v hv=>?_,C.grow⟩,aE,⟨λj i a=>?_,λj i a=>?_⟩⟩
 .rcases W i r f with⟨k,c,u,F⟩|⟨j,k,c,_,_⟩
  .by_cases y:r.live
   .rw[F] at T;refine(s.row i r bo u T).later aE (λb N e=>(ad i r b N c u y (by rw[T,e])).2.2) λY left aZ e=>?_;subst e;obtain⟨_,_,a0,a1,xs,a2,seen,_,a3,⟨es,Φ⟩,_⟩:=s.row i _ bo u T;have au:Y∉ρ:=λaR=>by
     obtain⟨j,a⟩:=St aR;obtain⟨r',aH,_,aS⟩:=aF j Y a;rw[Φ] at aH;cases aH;exact aS
    have aI:=(ZA.1 Φ).1;exact⟨an Y aI au,ao Y aI au,λb N l=>(ad Y _ b N au Φ trivial l).2.2⟩
   .cases r<;>first|exact absurd trivial y|trivial
  .rw[c] at T;exact(V.row j r bo k T).xK (B':=m) (σ':=t) (aM r (Zi k)) _ _
 .have aJ:∀(i:Nat) (A:Row) (K:Nat) (D:Nat) (E:Row) (O:Nat),i∉ρ->σ[i]?=some A->A.live->B[i]?=some (some (b,K))->σ0[D]?=some E->E.live->d[D]?=some (some (b,O))->False:=λi A K D E O J p aT aU a4 a5 aV=>by
   obtain⟨Q,R,_⟩:=ad i A b K J p aT aU;rcases C.blocks b (Sd aV) with h|h
   .exact Q h
   .exact R h
  rcases W i A hi with⟨k,c,u,F⟩|⟨aK,k,c,u,F⟩<;>rcases W j E a with⟨av,ah,aw,Z⟩|⟨ax,av,ah,aw,Z⟩
  .rw[F] at L;rw[Z] at M;exact s.inj i j A E b K O aG u aw af ag L M
  .rw[F] at L;rw[ah] at M;exact aJ i A K ax E O c u af L av ag M
  .rw[c] at L;rw[Z] at M;exact aJ j E O aK A K ah aw ag M k af L
  .rw[c] at L;rw[ah] at M;refine V.inj aK ax A E b K O (λe=>aG ?_) k av af ag L M;exact u j ax Z.1 Z.2 e
 .rcases W i r f with⟨k,c,u,F⟩|⟨j,k,c,_,_⟩
  .rw[F] at l;obtain⟨Q,R,_⟩:=ad i r b N c u y l;cases hv:YA b o with
   | none=>rfl
   | some v=>
    rcases C.QT b o v hv with h|h|h
    .rw[s.sep i r b N u y l o] at h;cases h
    .exact absurd h Q
    .exact absurd h R
  .rw[c] at l;exact V.sep j r b N k y l o
 .refine C.Xf b (λar=>l ?_) aQ;obtain⟨j,i,ae,_,p⟩:=ab b ar;exact Sd p
 .obtain⟨N,ap⟩:=l;obtain⟨i,hi⟩:=St ap;have aW:i<t.length:=by rw[<-aD];exact(ZA.1 hi).1
  rcases W i _ (δ aW) with⟨k,c,u,F⟩|⟨j,k,c,_,_⟩
  .rw[F] at hi;exact .inl (Sd hi)
  .rw[c] at hi;rcases C.blocks b (Sd hi) with h|h
   .obtain⟨j,w,ae,_,p⟩:=ab b h;exact .inl (Sd p)
   .exact .inr h
 .rcases C.QT b o v hv with h|h|h
  .exact .inl h
  .obtain⟨j,w,ae,_,p⟩:=ab b h;exact .inr (.inl (Sd p))
  .exact .inr (.inr h)
 .by_cases n:j<ρ.length
  .rw[YK n] at a;exact al j i a
  .rw[W8 U,YU] at a;have ay:j-ρ.length<σ0.length-ρ.length:=by
    apply Tu;intro g;rw[Wu (by simp;omega)] at a;cases a
   rw[δ (by simpa using ay)] at a;simp at a;subst a;rw[aB];congr 1;omega
 .by_cases n:j<ρ.length
  .rw[YK n] at a;exact am j i a
  .rw[W8 U,YU] at a;have ay:j-ρ.length<σ0.length-ρ.length:=by
    apply Tu;intro g;rw[Wu (by simp;omega)] at a;cases a
   rw[δ (by simpa using ay)] at a;simp at a;subst a;rw[aC];congr 1;omega
def names (ρ:List Nat) (n:Nat) (σ0:Ο):List Nat:=ρ++(List.range (σ0.length-ρ.length)).map (n + ·)
def PS (σ:Ο) (ρ:List Nat) (σ0:Ο):Ο:=VC σ ρ σ0++σ0.drop ρ.length
theorem Μ.DG {g:FuncId} {as0:κ} {k:Ο} {K:Ω->Ο->Prop} {E:Ω->Ο->Prop} (h:Μ P g as0 k K E) (ρ:List Nat) (y:ρ.Nodup) (p:ρ.length=k.length) (t:∀(j i:Nat),ρ[j]?=some i->σ[i]?=k[j]?) (A:∀r∈k,V9 r)
  (has:∀a∈as0,XC ρ.length a) {K':Ω->Ο->Prop} {E':Ω->Ο->Prop} (Z:∀a s,K a s->(∀r∈s,LH r)/\XC s.length a/\K' (Yx (names ρ σ.length s) a) (PS σ ρ s))
  (aa:∀a s,E a s->(∀r∈s,LH r)/\XC s.length a/\E' (Yx (names ρ σ.length s) a) (PS σ ρ s)):Μ P g (as0.map (Yx ρ)) σ K' E':=by
 refine⟨h.1,λab mn x c rest S B H vs ad l hv V=>?_⟩;have ae:∀(j i:Nat),ρ[j]?=some i->i<σ.length:=λj i d=>by
  have C:j<k.length:=by rw[<-p];exact(ZA.1 d).1
  have:=t j i d;rw[δ C] at this;exact(ZA.1 this).1
 have W:∀(j i:Nat),ρ[j]?=some i->(ρ.map λi=>B.getD i none)[j]?=B[i]?:=λj i d=>by
  have hi:i<B.length:=by rw[l.len];exact ae j i d
  rw[YU,d];simp[hi]
 have af:Names ρ (ρ.map λi=>B.getD i none) k B σ:=⟨t,λj i d=>(W j i d).symm⟩
 have pick:∀(j:Nat) (r:Row) (bo:Option (Nat×Nat)),k[j]?=some r->(ρ.map λi=>B.getD i none)[j]?=some bo->∃i,ρ[j]?=some i/\σ[i]?=some r/\B[i]?=some bo:=λj r bo f D=>by
  have C:j<ρ.length:=by rw[p];exact(ZA.1 f).1
  have d:=δ C;exact⟨_,d,by rw[t j _ d];exact f,by rw[<-W j _ d];exact D⟩
 have ag:Holds S (ρ.map λi=>B.getD i none) k H:=by
  refine⟨l.YO,by simp[p],λj r bo f D=>?_,λi j X Y b ah ai aj hi d ak al am an=>?_,λj r b N f ao ap o=>?_⟩
  .obtain⟨i,m,n,u⟩:=pick j r bo f D;exact(l.row i r bo n u).plain (B':=B) (σ':=σ) (A r (Zi f)) _ _
  .obtain⟨aq,m,n,u⟩:=pick i X _ hi am;obtain⟨ar,au,av,aw⟩:=pick j Y _ d an;refine l.inj aq ar X Y b ah ai (λe=>aj ?_) n av ak al u aw;subst e;have ax:=(ZA.1 m).1;exact(List.getElem?_inj ax y).1 (m.trans au.symm)
  .obtain⟨i,m,n,u⟩:=pick j r _ f ap;exact l.sep i r b N n ao u o
 refine h.2 ab mn x c rest S _ H vs ad ag ⟨by have:=hv.1;simpa using this,λi a v m n=>(GY af (has a (Zi m))).1 (hv.2 i _ v (by rw[YU,m];rfl) n)⟩ ⟨λa σ' YA B' H' v F I w J f=>?_,λa σ' YA B' H' v F I w J f=>?_⟩
 .obtain⟨L,M,O⟩:=Z a σ' F;obtain⟨Q,R,T,U⟩:=l.DH y p t A I w J L;refine V.ret _ _ YA _ H' v O R T Q ((GY U ?_).2 f);have:(ρ++(List.range (σ'.length-ρ.length)).map (σ.length + ·)).length=σ'.length:=by
   have:=w.length;simp;omega
  rw[this];exact M
 .obtain⟨L,M,O⟩:=aa a σ' F;obtain⟨Q,R,T,U⟩:=l.DH y p t A I w J L;refine V.Nf _ _ YA _ H' v O R T Q ((GY U ?_).2 f);have:(ρ++(List.range (σ'.length-ρ.length)).map (σ.length + ·)).length=σ'.length:=by
   have:=w.length;simp;omega
  rw[this];exact M
theorem Μ.rows {g:FuncId} {as0:κ} {b:Ο} {K:Ω->Ο->Prop} {E:Ω->Ο->Prop} (h:Μ P g as0 b K E) (ρ:List Nat) (d:ρ.Nodup) (e:ρ.length=b.length) (f:∀(j i:Nat),ρ[j]?=some i->σ[i]?=b[j]?) (k:∀r∈b,V9 r)
  (has:∀a∈as0,XC ρ.length a) {K':Ω->Ο->Prop} {E':Ω->Ο->Prop} (l:∀a s,K a s->(∀r∈s,V9 r)/\XC s.length a/\K' (Yx (names ρ σ.length s) a) (PS σ ρ s))
  (m:∀a s,E a s->(∀r∈s,V9 r)/\XC s.length a/\E' (Yx (names ρ σ.length s) a) (PS σ ρ s)):Μ P g (as0.map (Yx ρ)) σ K' E':=
 h.DG ρ d e f k has (λa s x=>let ⟨p,q⟩:=l a s x;⟨λr c=>.inl (p r c),q⟩) (λa s x=>let ⟨p,q⟩:=m a s x;⟨λr c=>.inl (p r c),q⟩)
end
end Go.TL
