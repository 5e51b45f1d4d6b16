import Derived.KernelRfl
import Derived.Test.YtkndbcflmgogjaaGreatProg
import Derived.Test.YtkndbcflmgogjaaGreatTAE
set_option linter.defProp false
set_option maxHeartbeats 16000000
set_option maxRecDepth 20000
set_option linter.unusedSectionVars false
set_option linter.unusedSimpArgs false
set_option linter.unusedVariables false
namespace Go.TL
def XL{p:Prop}(h:p:=by kernel_rfl):p:=h
open Go.Conc
variable[Z8]
def Ju(ops:Y5)(a:Oper):List Tmp:=
 (a.op.operands.toList.filterMap fun|.tmp t=>some t|_=>none)++(match a.guard with|some (g,_)=>((ops[g]?).bind (·.dst)).toList|none=>[])
def Wg(a:Oper):Z6:=(a.after.toList.filter (Region.binds .any)).map (·.on)
def GK:List Oper->List (Z6)->List (Z6)
 | [],a=>a
 | b::c,a=>GK c (a++[Wg b++(Wg b).flatMap λj=>a.getD j []])
def GJ(ops:Y5):List (Z6):=GK ops.toList []
def VE(a:Oper):Bool:=match a.op with
 | .load _ _=>true
 | .indexAddr _ _ _=>true
 | .fieldAddr _ _ _=>true
 | .nilCheck _=>true
 | .call ⟨.builtin .len,⟨[_]⟩,⟨[_]⟩⟩=>true
 | .call ⟨.builtin .unsafeSliceData,⟨[_]⟩,⟨[_]⟩⟩=>true
 | .slice _ _ _ _ none=>true
 | _=>false
def S1(χ:Nat->Nat->Bool)(ops:Y5)(tags:List Bool)(i j:Nat)(a b:Oper):Bool:=
 (match b.dst with|some d=>(Ju ops a).contains d||a.dst==some d|none=>false)||(match a.dst with|some d=>(Ju ops b).contains d|none=>false)||(tags.getD i false&&tags.getD j false&&!(VE a&&VE b)&&!χ i j)
def Oo(χ:Nat->Nat->Bool)(ops:Y5)(tags:List Bool):Bool:=
 let b:=GJ ops
 (List.range ops.size).all λi=>match ops[i]? with
  | none=>false
  | some a=>(Wg a).all (λj=>decide (j<i))&&(List.range i).all λj=>match ops[j]? with
   | none=>false
   | some c=>!S1 χ ops tags i j a c||(b.getD i []).contains j
def Mb(_ _:Nat):Bool:=false
def clash(ops:Y5)(tags:List Bool)(i j:Nat)(a b:Oper):Bool:=S1 Mb ops tags i j a b
def Rx(ops:Y5)(tags:List Bool):Bool:=Oo Mb ops tags
def Rw(lo pu:Z6)(i j:Nat):Bool:=lo.contains i&&pu.contains j||pu.contains i&&lo.contains j
section
variable{P:Program}{T:ZY}{A:Z6}{m nt:Nat}{k:Zk}{env:κ}{σ:Ρ}{Z:Xv}{E:XM}{ops:Y5}
def W.congr{env'}(h:∀i,ε env' i=ε env i)(c:W P m nt k env σ Z E):W P m nt k env' σ Z E:=
 λd mn x cs b S B H t e f a g j=>c d mn x cs b S B H t e f ⟨a.holds,λi=>by rw[<-h i];exact a.Zt i,a.size,a.rows⟩ g j
def AT(c):∀(a t)(listed) i,Region.linearise.go c ops a t listed [i]=i::Region.linearise.go c ops a t listed []:=by
 have gen:∀(a t)(listed)(b),Region.linearise.go c ops a t listed b=b.reverse++Region.linearise.go c ops a t listed []:=by
  intro a
  induction a with
  | zero=>intro t listed b;simp[Region.linearise.go]
  | succ a d=>
   intro t listed b;simp[Region.linearise.go];split
   .rename_i i _;rw[d _ _ (i::b),d _ _ [i]];simp
   simp
 intro a t listed i;rw[gen];rfl
def GI(p:∀i a,ops[i]?=some a->∀j∈Wg a,j<i)(D:Nat->Prop)(r:∀i a,ops[i]?=some a->D i->∀j∈Wg a,D j) :
  ∀(i) a,ops[i]?=some a->(∀j∈Wg a,D j)->∀j∈(GJ ops).getD i [],D j:=by
 have s:∀(e)(b),(∀x,e[x]?=ops[b.length+x]?)->(∀i a,i<b.length->ops[i]?=some a->(∀j∈Wg a,D j)->∀j∈b.getD i [],D j)->
   ∀i a,i<b.length+e.length->ops[i]?=some a->(∀j∈Wg a,D j)->∀j∈(GK e b).getD i [],D j:=by
  intro e
  induction e with
  | nil=>intro b _ h i a hi;exact h i a (by simpa using hi)
  | cons q e t=>
   intro b k h i a hi c d;have f:ops[b.length]?=some q:=by have:=k 0;simpa using this.symm
   refine t (b++[Wg q++(Wg q).flatMap λj=>b.getD j []]) (λx=>?_) (λi a hi c d=>?_) i a (by simp at hi ⊢;omega) c d
   .have:=k (x+1);simp[List.getElem?_cons_succ]at this;rw[this];simp;congr 1;omega
   by_cases l:i<b.length
   .rw[XA,YT l,<-XA];exact h i a l c d
   have u:i=b.length:=by simp at hi;omega
   subst u;rw[f]at c;cases c;rw[XA,W5 (Z3 _)];simp[List.getElem?_cons_zero];rintro j (g|⟨y,m,g⟩)
   .exact d j g
   have v:=p _ _ f y m
   have w:y<ops.size:=by have:=(Sd.1 f).1;omega
   have n:=XV w;exact h y _ v n (r y _ n (d y m)) j g
 intro i a c d;exact s ops.toList [] (λx=>o) (λi a hi=>by simp at hi) i a (by have:=(Sd.1 c).1;simpa using this) c d
def QK(ops:Y5)(a:Oper)(env env':κ):Prop:=∀t∈Ju ops a,ε env' t=ε env t
def KM(P:Program)(m nt:Nat)(k:Zk)(Z:Xv)(E:XM)(ops:Y5)(i:Nat)(b:Oper)(env:κ)(a:Ψ):Prop:=
 ∀env' σ' rest,QK ops b env env'->W P m nt (.inRegion ops rest::k) (Zr b env' a) σ' Z E->W P m nt (.inRegion ops (i::rest)::k) env' σ' Z E
def KL(P:Program)(m nt:Nat)(k:Zk)(Z:Xv)(E:XM)(ops:Y5)(i:Nat)(b:Oper)(env:κ)(σ:Ρ)(a:Ψ)(c:Ρ):Prop:=
 ∀env' rest,QK ops b env env'->W P m nt (.inRegion ops rest::k) (Zr b env' a) c Z E->W P m nt (.inRegion ops (i::rest)::k) env' σ Z E
def YI(ops:Y5)(env0:κ)(as9:Nat->Ψ)(D:Nat->Bool):Nat->κ
 | 0=>env0
 | n+1=>if D n then(match ops[n]? with|some a=>Zr a (YI ops env0 as9 D n) (as9 n)|none=>YI ops env0 as9 D n) else YI ops env0 as9 D n
def Ma{b env a t}:ε (Zr b env a) t=if b.dst=some t then a else ε env t:=by
 unfold Zr;cases hd:b.dst with
 | none=>simp
 | some d=>simp[ε]
def KJ{env0 as9 D b}{t:Nat}:∀(n:Nat),(∀i a,i<n->ops[i]?=some a->a.dst=some t->D i=b i)->ε (YI ops env0 as9 D n) t=ε (YI ops env0 as9 b n) t:=by
 intro n
 induction n with
 | zero=>intro _;rfl
 | succ n d=>
  intro h;have c:=d λi a hi=>h i a J;simp[YI];cases e:ops[n]? with
  | none=>cases D n<;>cases b n<;>simpa using c
  | some a=>
   by_cases hd:a.dst=some t
   .rw[h n a (Qf n) e hd];cases b n
    .simpa using c
    simp[Ma,hd]
   cases D n<;>cases b n<;>simp[Ma,hd,c]
def GH{env0 as9 D}{t n N:Nat}(j:n<=N)(h:∀i a,n<=i->i<N->ops[i]?=some a->a.dst=some t->D i=false):ε (YI ops env0 as9 D N) t=ε (YI ops env0 as9 D n) t:=by
 induction N with
 | zero=>have:n=0:=J
         subst this;rfl
 | succ N d=>
  by_cases e:n=N+1
  .subst e;rfl
  have b:=d J λi a f k=>h i a f J;simp[YI];cases c:D N
  .simpa using b
  cases g:ops[N]? with
  | none=>simpa using b
  | some a=>
   have hd:a.dst≠some t:=λhd=>by rw[h N a J (Qf N) g hd]at c;cases c
   simp[Ma,hd,b]
def writer(ops:Y5)(tags:List Bool)(i:Nat):Bool:=tags.getD i false&&match ops[i]? with|some a=>!VE a|none=>true
def W.tr{lo pu}{V:Type}{v:Ρ->V}{as9}{σs:Nat->Ρ}{tags env0}(ai:Oo (Rw lo pu) ops tags=true)
  (ay:∀i f,ops[i]?=some f->tags.getD i false=false->KM P m nt k Z E ops i f (YI ops env0 as9 (λ_=>true) i) (as9 i)/\σs (i+1)=σs i)
  (aj:∀i f,ops[i]?=some f->tags.getD i false=true->KL P m nt k Z E ops i f (YI ops env0 as9 (λ_=>true) i) (σs i) (as9 i) (σs (i+1))/\(VE f=true->σs (i+1)=σs i))
  (ak:∀i f,ops[i]?=some f->lo.contains i=true->tags.getD i false=true->VE f=true/\∀τ,v τ=v (σs i)->KL P m nt k Z E ops i f (YI ops env0 as9 (λ_=>true) i) τ (as9 i) τ)
  (aM:∀i f,ops[i]?=some f->pu.contains i=true->v (σs (i+1))=v (σs i))
  (aN:W P m nt (.inRegion ops []::k) (YI ops env0 as9 (λ_=>true) ops.size) (σs ops.size) Z E) :
  ∀(Q)(t)(listed)(env) u,listed.size=ops.size->
   (∀i,ε env i=ε (YI ops env0 as9 (λi=>listed.getD i false) ops.size) i)->
   (∀i f,ops[i]?=some f->listed.getD i false=true->∀j∈Wg f,listed.getD j false=true)->
   u<=ops.size->(∀j,j<ops.size->writer ops tags j=true->(listed.getD j false=true↔j<u))->
   ((List.range ops.size).filter λi=>!listed.getD i false).length<=Q->
   W P m nt (.inRegion ops (Region.linearise.go .any ops Q t listed [])::k) env (σs u) Z E:=by
 have al:∀i f,ops[i]?=some f->(∀j∈Wg f,j<i)/\∀j p,j<i->ops[j]?=some p->S1 (Rw lo pu) ops tags i j f p=true->j∈(GJ ops).getD i []:=by
  intro i f n;have hi:=(Sd.1 n).1;unfold Oo at ai;simp only[Xk,VR]at ai;have h:=ai i hi;rw[n]at h;simp only[U2,Xk,decide_eq_true_eq,VR]at h;refine⟨h.1,λj p c A X=>?_⟩;have s:=h.2 j c;rw[A]at s;simp only[X,Bool.not_true,Bool.false_or,List.contains_iff_mem]at s;exact s
 have am:∀i f,ops[i]?=some f->∀j∈Wg f,j<i:=λi f n=>(al i f n).1
 have an:∀i f,ops[i]?=some f->writer ops tags i=false->σs (i+1)=σs i:=λi f n I=>by
  cases g:tags.getD i false with
  | false=>exact(ay i f n g).2
  | true=>
   apply(aj i f n g).2;unfold writer at I;rw[g,n]at I;simpa using I
 have az:∀(d a),a+d<=ops.size->(∀j,a<=j->j<a+d->writer ops tags j=false)->σs (a+d)=σs a:=by
  intro d
  induction d with
  | zero=>intro a _ _;rfl
  | succ d F=>
   intro a hle h;have l:ops[a+d]?=some ops[a+d]:=XV J;have:=an (a+d) _ l (h (a+d) J J);rw[show a+(d+1)=a+d+1 by omega,this];exact F a J λj l s=>h j l J
 have ao:∀a b,a<=ops.size->b<=ops.size->(∀j,j<ops.size->writer ops tags j=true->(j<a↔j<b))->σs a=σs b:=λa b aA Y h=>by
  rcases Nat.le_total a b with hle|hle
  .have:=az (b-a) a J λj l s=>by
    cases g:writer ops tags j with
    | false=>rfl
    | true=>have:=(h j J g).2 J;omega
   rw[show a+(b-a)=b by omega]at this;exact this.symm
  have:=az (a-b) b J λj l s=>by
   cases g:writer ops tags j with
   | false=>rfl
   | true=>have:=(h j J g).1 J;omega
  rw[show b+(a-b)=a by omega]at this;exact this
 have aO:∀a b,a<=ops.size->b<=ops.size->(∀j,j<ops.size->writer ops tags j=true->pu.contains j=false->(j<a↔j<b))->v (σs a)=v (σs b):=λa b aA Y h=>by
  have aP:∀(d a),a+d<=ops.size->(∀j,a<=j->j<a+d->writer ops tags j=true->pu.contains j=true)->v (σs (a+d))=v (σs a):=by
   intro d
   induction d with
   | zero=>intro a _ _;rfl
   | succ d F=>
    intro a hle h;have l:ops[a+d]?=some ops[a+d]:=XV J;have e:v (σs (a+d+1))=v (σs (a+d)):=by
     cases I:writer ops tags (a+d) with
     | false=>rw[an (a+d) _ l I]
     | true=>exact aM (a+d) _ l (h (a+d) J J I)
    rw[show a+(d+1)=a+d+1 by omega,e];exact F a J λj l s=>h j l J
  have aB:∀x y,y<=ops.size->(∀j,j<ops.size->writer ops tags j=true->pu.contains j=false->(j<x↔j<y))->x<=y->v (σs y)=v (σs x):=λx y ap h hle=>by
   have:=aP (y-x) x J λj l s I=>by
    cases aq:pu.contains j with
    | true=>rfl
    | false=>have:=(h j J I aq).2 J;omega
   rwa [show x+(y-x)=y by omega]at this
  rcases Nat.le_total a b with hle|hle
  .exact(aB a b Y h hle).symm
  exact aB b a aA (λj l s B=>(h j l s B).symm) hle
 intro Q;have done:∀(t:Nat)(listed:Array Bool)(env)(u),(∀i,i<ops.size->listed.getD i false=true)->(∀i,ε env i=ε (YI ops env0 as9 (λi=>listed.getD i false) ops.size) i)->u<=ops.size->
   (∀j,j<ops.size->writer ops tags j=true->(listed.getD j false=true↔j<u))->W P m nt (.inRegion ops []::k) env (σs u) Z E:=λt listed env u R M C K=>by
  have aQ:=ao u ops.size C (Z3 _) λj c g=>by rw[<-K j c g];simp[R j c,c]
  rw[aQ];refine .congr (λi=>?_) aN;rw[M i];exact KJ ops.size λi f hi _ _=>R i hi
 have aR:∀listed:Array Bool,listed.size=ops.size->(∃i,i<ops.size/\listed.getD i false=false)->∃i,i<ops.size/\listed.getD i false=false/\∀j,j<i->listed.getD j false=true:=λlisted N ⟨i,hi,w⟩=>by
  induction i using Nat.strongRecOn with
  | _ i F=>
   by_cases c:∃j,j<i/\listed.getD j false=false
   .let ⟨j,l,s⟩:=c;exact F j l J s
   exact⟨i,hi,w,λj aS=>by
    cases h:listed.getD j false with
    | true=>rfl
    | false=>exact absurd ⟨j,aS,h⟩ c⟩
 induction Q with
 | zero=>
  intro t listed env u N M aa C K aT;have R:∀i,i<ops.size->listed.getD i false=true:=λi hi=>by
   cases h:listed.getD i false with
   | true=>rfl
   | false=>
    have ab:i∈(List.range ops.size).filter λi=>!listed.getD i false:=by rw[TK];exact⟨VR.2 hi,by rw[h];rfl⟩
    have:((List.range ops.size).filter λi=>!listed.getD i false)=[]:=YY.1 J;rw[this]at ab;simp at ab
  exact done t listed env u R M C K
 | succ Q F=>
  intro t listed env u N M aa C K aT;simp only[Region.linearise.go];generalize aU:((List.range ops.size).filter λi=>!listed.getD i true&&((ops[i]?).map (·.after.all λe=>!Region.binds .any e||listed.getD e.on false)).getD false)=O;have aC:∀i,i<ops.size->listed.getD i true=listed.getD i false:=λi hi=>by
   rw[Vv,Vv,XV J];rfl
  have aD:∀i,i∈O↔i<ops.size/\listed.getD i false=false/\∀f,ops[i]?=some f->∀j∈Wg f,listed.getD j false=true:=λi=>by
   rw[<-aU];simp only[TK,VR,U2,Bool.not_eq_true'];constructor
   .rintro⟨l,s,B⟩;rw[aC i l]at s;refine⟨l,s,λf n j c=>?_⟩;rw[n]at B;simp only[Option.map_some,Option.getD_some,Ic]at B;unfold Wg at c;simp only[ZG,TK]at c;obtain⟨e,⟨aV,aW⟩,rfl⟩:=c;have:=B e (by simpa using aV);simpa[aW] using this
   rintro⟨l,s,B⟩;refine⟨l,by rw[aC i l];exact s,?_⟩;have n:ops[i]?=some ops[i]:=XV l;rw[n];simp only[Option.map_some,Option.getD_some,Ic];intro e aX;by_cases Y:Region.binds .any e=true
   .have:=B _ n e.on (by unfold Wg;simp only[ZG,TK];exact⟨e,⟨by simpa using aX,Y⟩,U⟩);simp[this]
   simp[Y]
  cases hi:O[t % O.length]? with
  | none=>
   simp only[List.reverse_nil];have aY:O=[]:=by
    cases aZ:O with
    | nil=>rfl
    | cons x xs=>
     rw[aZ]at hi;have ar:t % (x::xs).length<(x::xs).length:=Lg _ o;rw[ξ ar]at hi;cases hi
   have R:∀i,i<ops.size->listed.getD i false=true:=λi a0=>by
    cases h:listed.getD i false with
    | true=>rfl
    | false=>
     let ⟨r,l,s,B⟩:=aR listed N ⟨i,a0,h⟩
     have:r∈O:=(aD r).2 ⟨l,s,λf n j c=>B j (am r f n j c)⟩;rw[aY]at this;simp at this
   exact done t listed env u R M C K
  | some i=>
   simp only;rw[AT];have ab:i∈O:=ZD hi;let ⟨l,s,B⟩:=(aD i).1 ab;have n:ops[i]?=some ops[i]:=XV l;have a1:=GI am (λj=>listed.getD j false=true) (λj f c w=>aa j f c w) i _ n (B _ n);have low:∀j p,j<i->ops[j]?=some p->S1 (Rw lo pu) ops tags i j ops[i] p=true->listed.getD j false=true:=λj p c A X=>a1 j ((al i _ n).2 j p c A X);have high:∀j p,i<j->ops[j]?=some p->S1 (Rw lo pu) ops tags j i p ops[i]=true->listed.getD j false=false:=λj p c A X=>by
    cases w:listed.getD j false with
    | false=>rfl
    | true=>
     have:=GI am (λj=>listed.getD j false=true) (λj f c w=>aa j f c w) j p A (aa j p A w) i ((al j p A).2 i _ c n X);rw[s]at this;cases this
   have ad:QK ops ops[i] (YI ops env0 as9 (λ_=>true) i) env:=λx aE=>by
    rw[M x];have au:ε (YI ops env0 as9 (λi=>listed.getD i false) ops.size) x=ε (YI ops env0 as9 (λi=>listed.getD i false) i) x:=GH J λj p a2 a3 A hd=>by
     by_cases e:j=i
     .subst e;exact s
     apply high j p J A;unfold S1;simp[hd,aE]
    rw[au];exact KJ i λj p c A hd=>low j p c A (by unfold S1;simp[hd,aE])
   have ae:∀x,ε (Zr ops[i] env (as9 i)) x=ε (YI ops env0 as9 (λj=>(listed.setIfInBounds i true).getD j false) ops.size) x:=λx=>by
    have H:∀j,(listed.setIfInBounds i true).getD j false=if j=i then true else listed.getD j false:=λj=>by
     rw[Vv,Vv];by_cases e:j=i
     .subst e;rw[SL J];simp
     rw[Ut (YX e),if_neg e]
    rw[Ma];by_cases hd:ops[i].dst=some x
    .rw[if_pos hd];have au:ε (YI ops env0 as9 (λj=>(listed.setIfInBounds i true).getD j false) ops.size) x=ε (YI ops env0 as9 (λj=>(listed.setIfInBounds i true).getD j false) (i+1)) x:=GH J λj p a2 a3 A av=>by
      rw[H,if_neg J];apply high j p J A;unfold S1;simp[hd,av]
     rw[au];simp only[YI,H,if_true,n,Ma,hd]
    rw[if_neg hd,M x];exact KJ ops.size λj p c A av=>by
     rw[H,if_neg];intro e;subst e;rw[n]at A;cases A;exact hd av
   have H:∀j,(listed.setIfInBounds i true).getD j false=if j=i then true else listed.getD j false:=λj=>by
    rw[Vv,Vv];by_cases e:j=i
    .subst e;rw[SL J];simp
    rw[Ut (YX e),if_neg e]
   have af:((List.range ops.size).filter λj=>!(listed.setIfInBounds i true).getD j false).length<=Q:=by
    have ar:((List.range ops.size).filter λj=>!(listed.setIfInBounds i true).getD j false).length<((List.range ops.size).filter λj=>!listed.getD j false).length:=by
     have:((List.range ops.size).filter λj=>!(listed.setIfInBounds i true).getD j false)=((List.range ops.size).filter λj=>!listed.getD j false).filter λj=>j != i:=by
      rw[Ie];apply List.filter_congr;intro j _;rw[H];by_cases e:j=i
      .subst e;simp
      simp[e]
     rw[this];have a4:i∈(List.range ops.size).filter λj=>!listed.getD j false:=by
      rw[TK];exact⟨VR.2 l,by rw[s];rfl⟩
     exact List.length_filter_lt_length_iff_exists.2 ⟨i,a4,o⟩
    omega
   have ag:∀j f,ops[j]?=some f->(listed.setIfInBounds i true).getD j false=true->∀y∈Wg f,(listed.setIfInBounds i true).getD y false=true:=λj f c w y ap=>by
    rw[H]at w ⊢;by_cases e:y=i
    .rw[if_pos e]
    rw[if_neg e];by_cases Υ:j=i
    .subst Υ;rw[n]at c;cases c;exact B _ n y ap
    rw[if_neg Υ]at w;exact aa j f c w y ap
   have aF:∀j,writer ops tags j=true->tags.getD j false=true:=λj h=>by
    unfold writer at h;rw[U2]at h;exact h.1
   cases L:tags.getD i false with
   | false=>
    apply(ay i _ n L).1 env (σs u) _ ad;refine F _ _ _ u (by simpa using N) ae ag C (λj c g=>?_) af;rw[H];have:j≠i:=λe=>by subst e;rw[aF j g]at L;cases L
    rw[if_neg this];exact K j c g
   | true=>
    have aG:∀j p,ops[j]?=some p->writer ops tags j=true->lo.contains i=false\/pu.contains j=false->S1 (Rw lo pu) ops tags i j ops[i] p=true/\S1 (Rw lo pu) ops tags j i p ops[i]=true:=λj p A g D=>by
     have l:=aF j g
     have aH:lo.contains j=false:=by
      cases w:lo.contains j with
      | false=>rfl
      | true=>
       have:=(ak j p A w l).1;unfold writer at g;rw[l,A]at g;simp[this]at g
     unfold writer at g;rw[l,A]at g;have s:VE p=false:=by simpa using g
     have D:(lo.contains i&&pu.contains j)=false:=by
      rcases D with h|h
      .rw[h];rfl
      rw[h,Bool.and_false]
     have f1:Rw lo pu i j=false:=by unfold Rw;rw[D,aH,Bool.and_false];rfl
     have f2:Rw lo pu j i=false:=by unfold Rw;rw[aH,Bool.and_comm (pu.contains j),D];rfl
     unfold S1;rw[l,L,s,f1,f2];simp
    have aI:∀j,j<ops.size->writer ops tags j=true->lo.contains i=false\/pu.contains j=false->j<i->listed.getD j false=true:=λj c g D aw=>low j _ aw (XV c) (aG j _ (XV c) g D).1
    have aJ:∀j,j<ops.size->writer ops tags j=true->lo.contains i=false\/pu.contains j=false->i<j->listed.getD j false=false:=λj c g D aw=>high j _ aw (XV c) (aG j _ (XV c) g D).2
    have ax:∀j,j<ops.size->writer ops tags j=true->lo.contains i=false\/pu.contains j=false->(j<u↔j<i):=λj c g D=>by
     rw[<-K j c g];constructor
     .intro w;apply Tn;intro a5;by_cases e:j=i
      .subst e;rw[s]at w;cases w
      rw[aJ j c g D J]at w;cases w
     exact aI j c g D
    cases S:writer ops tags i with
    | false=>
     have aK:∀j,j<ops.size->writer ops tags j=true->((listed.setIfInBounds i true).getD j false=true↔j<u):=λj c g=>by
      rw[H];have:j≠i:=λe=>by subst e;rw[g]at S;cases S
      rw[if_neg this];exact K j c g
     cases T:lo.contains i with
     | true=>
      apply(ak i _ n T L).2 (σs u) (aO u i C J λj c g aq=>ax j c g (.inr aq)) env _ ad;exact F _ _ _ u (by simpa using N) ae ag C aK af
     | false=>
      have ah:σs u=σs i:=ao u i C J λj c g=>ax j c g (.inl T)
      have es:=an i _ n S
      have aL:=(aj i _ n L).1;rw[es]at aL;rw[ah];apply aL env _ ad;rw[<-ah];exact F _ _ _ u (by simpa using N) ae ag C aK af
    | true=>
     have T:lo.contains i=false:=by
      cases w:lo.contains i with
      | false=>rfl
      | true=>
       have:=(ak i _ n w L).1;unfold writer at S;rw[n]at S;simp[this]at S
     have ah:σs u=σs i:=ao u i C J λj c g=>ax j c g (.inl T);rw[ah];apply(aj i _ n L).1 env _ ad;refine F _ _ _ (i+1) (by simpa using N) ae ag J (λj c g=>?_) af;rw[H];by_cases e:j=i
     .subst e;simp
     rw[if_neg e];constructor
     .intro w;apply Tn;intro a5;rw[aJ j c g (.inl T) J]at w;cases w
     intro ar;exact aI j c g (.inl T) J
def GG:List Oper->Z6->Z6
 | [],acc=>acc
 | a::b,acc=>GG b (acc++[(Wg a).foldr (λj m=>(1 <<< j)|||acc.getD j 0|||m) 0])
def Eg(χ:Nat->Nat->Bool)(ops:Y5)(tags:List Bool):Bool:=
 let b:=GG ops.toList []
 (List.range ops.size).all λi=>match ops[i]? with
  | none=>false
  | some a=>(Wg a).all (λj=>decide (j<i))&&(List.range i).all λj=>match ops[j]? with
   | none=>false
   | some c=>!S1 χ ops tags i j a c||(b.getD i 0).testBit j
def AS(a:List (Z6))(b:Z6):Prop:=a.length=b.length/\∀i j,(b.getD i 0).testBit j=true↔j∈a.getD i []
def tq:∀(c)(b)(d),AS b d->AS (GK c b) (GG c d):=by
 intro c
 induction c with
 | nil=>intro b d h;exact h
 | cons f c g=>
  intro b d h;simp[GG];refine g _ _ ⟨by simp[h.1],λi j=>?_⟩;have one:∀l:Z6,(l.foldr (λj m=>(1 <<< j)|||d.getD j 0|||m) 0).testBit j=true↔j∈l++l.flatMap λj=>b.getD j []:=by
   intro l
   induction l with
   | nil=>simp
   | cons a l k=>
    rw[List.foldr_cons,Nat.testBit_or,Nat.testBit_or,Nat.one_shiftLeft,Nat.testBit_two_pow];simp only[Bool.or_eq_true,decide_eq_true_eq,h.2 a j,k,VS,YU,J5];constructor
    .rintro((e|e)|e|e)
     .exact .inl (.inl e.symm)
     .exact .inr (.inl e)
     .exact .inl (.inr e)
     exact .inr (.inr e)
    rintro((e|e)|e|e)
    .exact .inl (.inl e.symm)
    .exact .inr (.inl e)
    .exact .inl (.inr e)
    exact .inr (.inr e)
  rw[XA,XA];by_cases hi:i<b.length
  .rw[YT hi,YT (by rw[<-h.1];exact hi),<-XA,<-XA];exact h.2 i j
  rw[W5 (by have:=h.1;omega),W5 J,<-h.1];cases hd:i-b.length with
  | zero=>simpa using one (Wg f)
  | succ n=>simp
def L'{χ ops tags}(h:Eg χ ops tags=true):Oo χ ops tags=true:=by
 unfold Eg at h;unfold Oo;have e:=tq ops.toList [] [] ⟨U,λi j=>o⟩;simp only[Xk]at h ⊢;intro i hi;have b:=h i hi;cases c:ops[i]? with
 | none=>rw[c]at b;exact b
 | some g=>
  rw[c]at b;simp only[U2,Xk]at b ⊢;refine⟨b.1,λj f=>?_⟩;have a:=b.2 j f;cases d:ops[j]? with
  | none=>rw[d]at a;exact a
  | some k=>
   rw[d]at a;simp only[Bool.or_eq_true]at a ⊢;rcases a with a|a
   .exact .inl a
   exact .inr (List.contains_iff_mem.2 ((e.2 i j).1 a))
end
def tp(ops:Y5)(tags:List Bool):Bool:=Eg Mb ops tags
def UW{ops tags}(h:tp ops tags=true):Rx ops tags=true:=L' h
section
variable{P:Program}{T:ZY}{A:Z6}{m nt:Nat}{k:Zk}{env env':κ}{σ:Ρ}{Z:Xv}{E:XM}{ops:Y5}
def GF{a:Oper}(h:QK ops a env env'):∀x,x∈a.op.operands.toList->π env' x=π env x:=λx b=>by
 cases x with
 | tmp t=>
  refine h t ?_;unfold Ju;simp only[VS,List.mem_filterMap];exact .inl ⟨.tmp t,b,U⟩
 | _=>rfl
def St{a:Oper}(h:QK ops a env env'):XE env' ops a=XE env ops a:=by
 unfold XE;cases b:a.guard with
 | none=>rfl
 | some x=>
  obtain⟨j,c⟩:=x;simp only;cases hd:(ops[j]?).bind (·.dst) with
  | none=>rfl
  | some d=>
   simp only;have:ε env' d=ε env d:=h d (by unfold Ju;rw[b];simp[hd]);rw[this]
def GD{a:Array (Nat×Operand)}(h:∀p∈a,π env' p.2=π env p.2):Oq env' a=Oq env a:=by
 unfold Oq;exact Ih λp b=>by rw[h p (by simpa using b)]
def GC{a:Array Operand}(h:∀x∈a,π env' x=π env x):a.toList.map (π env')=a.toList.map (π env):=Ih λx b=>h x (by simpa using b)
def Jt{a:Option Operand}(h:∀x,a=some x->π env' x=π env x):a.map (π env')=a.map (π env):=by
 cases a with
 | none=>rfl
 | some x=>simp[h x rfl]
def On{k:Oper}(s:QK ops k env env'):WH T A env' k=WH T A env k:=by
 have h:=GF s;obtain⟨B,l,C,pos,D,guard⟩:=k;simp only at h;unfold WH;cases l<;>simp only<;>try rfl
 all_goals simp only[Op.operands,YU,XW,or_false,forall_eq_or_imp,forall_eq]at h
 case move x=>rw[h]
 case assign x=>rw[h]
 case pick c a b=>rw[h.1,h.2.1,h.2.2]
 case box d x=>rw[h]
 case build d t=>rw[GD λp r=>h p.2 (by simp only[ZG];exact⟨p,by simpa using r,U⟩)]
 case buildSlice d n t=>rw[GD λp r=>h p.2 (by simp only[ZG];exact⟨p,by simpa using r,U⟩)]
 case load d x=>rw[h]
 case binOp l a x y b=>rw[h.1,h.2]
 case unOp l a x=>rw[h]
 case convert a b x=>rw[h]
 case index d x y=>rw[h.1,h.2]
 case nilCheck x=>rw[h]
 case sliceToArrayPointer d x=>rw[h]
 case makeInterface a x=>rw[h]
 case makeFunc f E cs=>rw[GC λx g=>h x (by simp[g]),GC λx g=>h x (by simp[g])]
 case makeSlice a x y=>rw[h.1,h.2]
 case slice d x lo hi u=>
  cases u with
  | some m=>
   cases hi with
   | none=>rfl
   | some y=>
    simp only;rw[h x o,Jt λy j=>h y (by simp[j]),h y o,h m o]
  | none=>
   simp only;rw[h x o,Jt λy j=>h y (by simp[j]),Jt λy j=>h y (by simp[j])]
 case fieldAddr d x f=>rw[h]
 case indexAddr d x y=>rw[h.1,h.2]
 case typeAssert x a b c=>rw[h]
 case extract x i=>rw[h]
 case call c=>
  obtain⟨v,⟨args⟩,⟨w⟩⟩:=c;cases v
  case value=>rfl
  case invoke=>rfl
  rename_i b;have e:∀x∈args,π env' x=π env x:=λx g=>h x (by simp[Call.operands,g])
  match args,w with
  | [x],[d]=>simp only;rw[e x o]
  | [x,y],[F,d]=>simp only;rw[e x o,e y o]
  | [],_=>rfl
  | [_],[]=>rfl
  | [_],_::_::_=>rfl
  | [_,_],[]=>rfl
  | [_,_],[_]=>rfl
  | [_,_],_::_::_::_=>rfl
  | [x,y,z],_=>
   cases b<;>simp only<;>first
    | rfl
    | rw[e x o,e y o,e z o]
  | _::_::_::_::_,_=>rfl
def L9{g:Oper}(s:QK ops g env env'):W0 T A env' σ g=W0 T A env σ g:=by
 have h:=GF s;obtain⟨D,l,E,pos,F,guard⟩:=g;simp only at h;unfold W0;cases l<;>simp only<;>try rfl
 all_goals simp only[Op.operands,YU,XW,or_false,forall_eq_or_imp,forall_eq]at h
 case box e x=>rw[h]
 case build e t=>rw[GD λp i=>h p.2 (by simp only[ZG];exact⟨p,by simpa using i,U⟩)]
 case buildSlice e n t=>rw[GD λp i=>h p.2 (by simp only[ZG];exact⟨p,by simpa using i,U⟩)]
 case load e x=>rw[h]
 case store e x y=>rw[h.1,h.2]
 case makeSlice a x y=>rw[h.1,h.2]
 case makeMap e r=>cases r<;>rfl
 case convert a b x=>rw[h]
 case nilCheck x=>rw[h]
 case binOp l e x y d=>
  split
  all_goals first
   | rfl
   |(simp only[h.1,h.2];done)
   |(rename_i u;cases u<;>simp only[h.1,h.2])
 case mapUpdate e x y z=>rw[h.1,h.2.1,h.2.2]
 case insert e x y z=>rw[h.1,h.2.1,h.2.2]
 case lookup e x y H=>rw[h.1,h.2]
 case range e x=>rw[h]
 case next x b=>
  cases b<;>simp only<;>rw[h]
 case entry x=>rw[h]
 case slice e x lo hi v=>
  cases v with
  | some m=>rfl
  | none=>
   simp only;rw[h x o,Jt λy j=>h y (by simp[j]),Jt λy j=>h y (by simp[j])]
 case fieldAddr e x f=>rw[h]
 case indexAddr e x y=>rw[h.1,h.2]
 case call c=>
  obtain⟨w,⟨args⟩,⟨B⟩⟩:=c;cases w
  case value=>rfl
  case invoke=>rfl
  rename_i b;have k:∀x∈args,π env' x=π env x:=λx C=>h x (by simp[Call.operands,C])
  match args,B with
  | [x],[e]=>simp only;rw[k x o]
  | [x,y],[I,e]=>simp only;rw[k x o,k y o]
  | [],_=>rfl
  | [_],[]=>rfl
  | [_],_::_::_=>rfl
  | [_,_],[]=>rfl
  | [_,_],[_]=>rfl
  | [_,_],_::_::_::_=>rfl
  | _::_::_::_,_=>rfl
def WG(P:Program)(f:Ψ)(args:μ)(r:Ψ):Prop:=∀σ,Yi P f args σ (λa s=>a=r/\s=σ) (λ_ _=>False)
def Nw.tn{g:FuncId}{first args captured:μ}{r:Ψ}(h:Nw P g (first++args++captured) r)(b:∀a∈first++args++captured,ω 0 a)(c:ω 0 r):WG P (.fn (.func g) first captured) args r:=λσ=>h.call b c ⟨rfl,rfl⟩
def Y4.Yj(r:Y4)(K:Ψ->Prop)(s:Prop):Prop:=match r with
 | .ok a=>K a
 | .Zw p (.ok a)=>p/\K a
 | .Zw _ _=>False
 | .bad=>s
def Y1.Yj(r:Y1)(K:Ψ->Ρ->Prop):Prop:=match r with
 | .ok a σ'=>K a σ'
 | .Zw p (.ok a σ')=>p/\K a σ'
 | _=>False
def tm{r r':Y4}{K:Ψ->Prop}{s:Prop}(h:r=r'):r.Yj K s=r'.Yj K s:=by rw[h]
def tl{r r':Y1}{K:Ψ->Ρ->Prop}(h:r=r'):r.Yj K=r'.Yj K:=by rw[h]
def dcall(P:Program)(f:Ψ)(args:μ)(σ:Ρ)(b:Ψ->Prop)(c:Ψ->Ρ->Prop):Prop:=
 (∃r,WG P f args r/\b r)\/∃r σ',Yi P f args σ (λa s=>a=r/\s=σ') (λ_ _=>False)/\c r σ'
def Wf{P:Program}{f:Ψ}{args:μ}{σ:Ρ}{a:Ψ->Prop}{b:Ψ->Ρ->Prop}{r:Ψ}(h:WG P f args r)(k:a r):dcall P f args σ a b:=.inl ⟨r,h,k⟩
def Nv{P:Program}{f:Ψ}{args:μ}{σ σ':Ρ}{c:Ψ->Prop}{b:Ψ->Ρ->Prop}{r:Ψ}(h:Yi P f args σ (λa s=>a=r/\s=σ') (λ_ _=>False))(k:b r σ'):dcall P f args σ c b:=.inr ⟨r,σ',h,k⟩
def Nu(P:Program)(T:ZY)(A:Z6)(env:κ)(a:Oper)(σ:Ρ)(b:Ψ->Prop)(c:Ψ->Ρ->Prop):Prop:=match a.op with
 | .call ⟨.value f,args,_⟩=>dcall P (π env f) (args.toList.map (π env)) σ b c
 | .panic _=>False
 | .defer _=>False
 | _=>(WH T A env a).Yj b ((W0 T A env σ a).Yj c)
def tk{P:Program}{T:ZY}{A:Z6}{env:κ}{a:Oper}{σ:Ρ}{b:Ψ->Prop}{c:Ψ->Ρ->Prop}:Nu P T A env a σ b c=match a.op with
 | .call ⟨.value f,args,_⟩=>dcall P (π env f) (args.toList.map (π env)) σ b c
 | .panic _=>False
 | .defer _=>False
 | _=>(WH T A env a).Yj b ((W0 T A env σ a).Yj c):=X3 rfl rfl
def tj{a:Ψ}{K:Ψ->Prop}{s:Prop}:Y4.Yj (.ok a) K s=K a:=X3 rfl rfl
def ti{p:Prop}{a:Ψ}{K:Ψ->Prop}{s:Prop}:Y4.Yj (.Zw p (.ok a)) K s=(p/\K a):=X3 rfl rfl
def th{K:Ψ->Prop}{s:Prop}:Y4.Yj .bad K s=s:=X3 rfl rfl
def tg{a:Ψ}{σ:Ρ}{K:Ψ->Ρ->Prop}:Y1.Yj (.ok a σ) K=K a σ:=X3 rfl rfl
def tf{p:Prop}{a:Ψ}{σ:Ρ}{K:Ψ->Ρ->Prop}:Y1.Yj (.Zw p (.ok a σ)) K=(p/\K a σ):=X3 rfl rfl
def QJ(P:Program)(m nt:Nat)(k:Zk)(Z:Xv)(E:XM)(ops:Y5)(i:Nat)(b:Oper)(env:κ)(σ:Ρ)(c:Bool)(a:Ψ)(σ':Ρ):Prop:=
 if c then KL P m nt k Z E ops i b env σ a σ'/\(VE b=true->σ'=σ) else KM P m nt k Z E ops i b env a/\σ'=σ
def te{b:TypeId}{x a:Ψ}{σ':Ρ}{p:Prop}(h:RB T b σ x=.ok a σ'\/RB T b σ x=.Zw p (.ok a σ')):σ'=σ:=by
 unfold RB P6 at h
 repeat' split at h
 all_goals simp[Y4.YA]at h
 all_goals first|exact h.2.symm|skip
def td{b:TypeId}{x c a:Ψ}{σ':Ρ}{p:Prop}(h:Rz T b σ x c=.ok a σ'\/Rz T b σ x c=.Zw p (.ok a σ')):σ'=σ:=by
 unfold Rz at h
 repeat' split at h
 all_goals simp at h
 all_goals first|exact h.2.2.symm|exact h.2.symm|skip
def tc{b:TypeId}{f:Nat}{x a:Ψ}{σ':Ρ}{p:Prop}(h:RA T b f σ x=.ok a σ'\/RA T b f σ x=.Zw p (.ok a σ')):σ'=σ:=by
 unfold RA at h
 repeat' split at h
 all_goals simp at h
 all_goals first|exact h.2.2.symm|exact h.2.symm|skip
def tb{x a:Ψ}{σ':Ρ}{p:Prop}(h:Ry σ x=.ok a σ'\/Ry σ x=.Zw p (.ok a σ')):σ'=σ:=by
 unfold Ry at h
 repeat' split at h
 all_goals simp at h
 all_goals first|exact h.2.2.symm|exact h.2.symm|skip
def ta{b:TypeId}{x a:Ψ}{σ':Ρ}{p:Prop}(h:Mn T b σ x=.ok a σ'\/Mn T b σ x=.Zw p (.ok a σ')):σ'=σ:=by
 unfold Mn at h
 repeat' split at h
 all_goals first
  |(rcases h with h|h<;>cases h;done)
  |(rcases h with h|h<;>cases h;rfl)
def s'{b:TypeId}{x a:Ψ}{σ':Ρ}{p:Prop}(h:Mg T b σ x=.ok a σ'\/Mg T b σ x=.Zw p (.ok a σ')):σ'=σ:=by
 unfold Mg at h
 repeat' split at h
 all_goals first
  |(rcases h with h|h<;>cases h;done)
  |(rcases h with h|h<;>cases h;rfl)
def s9{b:TypeId}{x a:Ψ}{lo hi:Option Ψ}{σ':Ρ}{p:Prop}(h:Mo T b σ x lo hi=.ok a σ'\/Mo T b σ x lo hi=.Zw p (.ok a σ')):σ'=σ:=by
 unfold Mo at h
 repeat' split at h
 all_goals first
  |(rcases h with h|h<;>cases h;done)
  |(rcases h with h|h<;>cases h;rfl)
def GB{d:Oper}{a:Ψ}{σ':Ρ}{p:Prop}(e:VE d=true)(h:W0 T A env σ d=.ok a σ'\/W0 T A env σ d=.Zw p (.ok a σ')):σ'=σ:=by
 unfold VE at e;unfold W0 at h;split at e
 .rename_i c x b;rw[b]at h;exact te h
 .rename_i c x g b;rw[b]at h;exact td h
 .rename_i c x f b;rw[b]at h;exact tc h
 .rename_i x b;rw[b]at h;exact tb h
 .rename_i x c b;rw[b]at h;exact ta h
 .rename_i x c b;rw[b]at h;exact s' h
 .rename_i c x lo hi b;rw[b]at h;exact s9 h
 cases e
def AR{env0:κ}{as9 a:Nat->Ψ}{D:Nat->Bool}:∀n,(∀j,j<n->as9 j=a j)->YI ops env0 as9 D n=YI ops env0 a D n:=by
 intro n
 induction n with
 | zero=>intro _;rfl
 | succ n b=>
  intro h;simp only[YI];rw[b λj c=>h j J,h n (Qf n)]
end
section
variable{P:Program}{T:ZY}{A:Z6}{m nt:Nat}{k:Zk}{env env':κ}{σ:Ρ}{Z:Xv}{E:XM}{ops:Y5}{lo pu ids:Z6}
def VD(ids:Z6):Ψ->Bool
 | .Ο id _ _ _=>ids.contains id
 | .ms id _ _ _=>ids.contains id
 | _=>false
def XD(ids:Z6)(σ:Ρ):List (Option Row):=ids.map λid=>σ[id]?
def Js(T:ZY)(A:Z6)(env:κ)(b:Oper)(ids:Z6)(σ:Ρ)(K:Ψ->Prop):Prop:=match b.op with
 | .load c x=>VD ids (π env x)=true/\(WH T A env b).Yj (λ_=>False) ((RB T c σ (π env x)).Yj λa _=>K a)
 | .fieldAddr c x f=>VD ids (π env x)=true/\(WH T A env b).Yj (λ_=>False) ((RA T c f σ (π env x)).Yj λa _=>K a)
 | .indexAddr c x d=>VD ids (π env x)=true/\(WH T A env b).Yj (λ_=>False) ((Rz T c σ (π env x) (π env d)).Yj λa _=>K a)
 | .nilCheck x=>VD ids (π env x)=true/\(WH T A env b).Yj (λ_=>False) ((Ry σ (π env x)).Yj λa _=>K a)
 | _=>False
def QI{b:Oper}{ids:Z6}{K:Ψ->Prop}:Js T A env b ids σ K=match b.op with
 | .load c x=>VD ids (π env x)=true/\(WH T A env b).Yj (λ_=>False) ((RB T c σ (π env x)).Yj λa _=>K a)
 | .fieldAddr c x f=>VD ids (π env x)=true/\(WH T A env b).Yj (λ_=>False) ((RA T c f σ (π env x)).Yj λa _=>K a)
 | .indexAddr c x d=>VD ids (π env x)=true/\(WH T A env b).Yj (λ_=>False) ((Rz T c σ (π env x) (π env d)).Yj λa _=>K a)
 | .nilCheck x=>VD ids (π env x)=true/\(WH T A env b).Yj (λ_=>False) ((Ry σ (π env x)).Yj λa _=>K a)
 | _=>False:=X3 rfl rfl
def TD(P:Program)(T:ZY)(A:Z6)(nt:Nat)(ops:Y5)(lo pu ids:Z6):Z6->κ->Ρ->List Bool->(κ->Ρ->Prop)->Prop
 | [],env,σ,tags,K=>Oo (Rw lo pu) ops tags=true/\K env σ
 | i::is,env,σ,tags,K=>WX ops[i]? λb=>WA nt b=true/\WX (XE env ops b) λw=>
   Wh w (TD P T A nt ops lo pu ids is (Zr b env .Zl) σ (tags++[false]) K)
    (Wh (!lo.contains i) (Js T A env b ids σ λa=>TD P T A nt ops lo pu ids is (Zr b env a) σ (tags++[true]) K)
     (Nu P T A env b σ (λa=>TD P T A nt ops lo pu ids is (Zr b env a) σ (tags++[false]) K) (λa σ'=>(pu.contains i=true->XD ids σ'=XD ids σ)/\TD P T A nt ops lo pu ids is (Zr b env a) σ' (tags++[true]) K)))
def P2{tags:List Bool}{K:κ->Ρ->Prop}:TD P T A nt ops lo pu ids [] env σ tags K=(Oo (Rw lo pu) ops tags=true/\K env σ):=X3 rfl rfl
def Rv{i:Nat}{is:Z6}{tags:List Bool}{K:κ->Ρ->Prop}:TD P T A nt ops lo pu ids (i::is) env σ tags K=WX ops[i]? λb=>WA nt b=true/\WX (XE env ops b) λw=>
   Wh w (TD P T A nt ops lo pu ids is (Zr b env .Zl) σ (tags++[false]) K)
    (Wh (!lo.contains i) (Js T A env b ids σ λa=>TD P T A nt ops lo pu ids is (Zr b env a) σ (tags++[true]) K)
     (Nu P T A env b σ (λa=>TD P T A nt ops lo pu ids is (Zr b env a) σ (tags++[false]) K) (λa σ'=>(pu.contains i=true->XD ids σ'=XD ids σ)/\TD P T A nt ops lo pu ids is (Zr b env a) σ' (tags++[true]) K))):=X3 U U
def AQ{i:T1}{l:μ}(τ:Ρ):(P6 i l).YA τ=match Ny i l with|some a=>.ok a τ|none=>.bad:=by
 unfold P6 Ny;split
 .split<;>rfl
 cases l<;>rfl
def Jr{ids:Z6}{τ:Ρ}{id:Nat}(h:XD ids τ=XD ids σ)(hi:ids.contains id=true):τ[id]?=σ[id]?:=by
 have a:=List.contains_iff_mem.1 hi;exact List.map_inj_left.1 h id a
def AP{ids:Z6}{b:TypeId}{x:Ψ}{τ:Ρ}(d:XD ids τ=XD ids σ)(c:VD ids x=true):(∀a σ',RB T b σ x=.ok a σ'->RB T b τ x=.ok a τ)/\∀p r,RB T b σ x≠.Zw p r:=by
 unfold RB;split
 .rename_i id n i j;rw[Jr d c];split
  .split
   .split
    .rw[AQ,AQ];split
     .exact⟨λa σ' h=>(by cases h;rfl),nofun⟩
     exact⟨nofun,nofun⟩
    exact⟨nofun,nofun⟩
   exact⟨nofun,nofun⟩
  exact⟨nofun,nofun⟩
 .cases c
 exact⟨nofun,nofun⟩
def AO{ids:Z6}{b:TypeId}{f:Nat}{x:Ψ}{τ:Ρ}(c:XD ids τ=XD ids σ)(d:VD ids x=true):(∀a σ',RA T b f σ x=.ok a σ'->RA T b f τ x=.ok a τ)/\∀p r,RA T b f σ x≠.Zw p r:=by
 unfold RA;split
 .rename_i id n i j;rw[Jr c d];split
  .split
   .exact⟨λa σ' h=>(by cases h;rfl),nofun⟩
   exact⟨nofun,nofun⟩
  exact⟨nofun,nofun⟩
 exact⟨nofun,nofun⟩
def AN{ids:Z6}{x:Ψ}{τ:Ρ}(b:XD ids τ=XD ids σ)(c:VD ids x=true):(∀a σ',Ry σ x=.ok a σ'->Ry τ x=.ok a τ)/\∀p r,Ry σ x≠.Zw p r:=by
 unfold Ry;split
 .rename_i id n i j;rw[Jr b c];split
  .split
   .exact⟨λa σ' h=>(by cases h;rfl),nofun⟩
   exact⟨nofun,nofun⟩
  exact⟨nofun,nofun⟩
 exact⟨nofun,nofun⟩
def AM{ids:Z6}{b:TypeId}{x c:Ψ}{τ:Ρ}(d:XD ids τ=XD ids σ)(e:VD ids x=true):(∀a σ',Rz T b σ x c≠.ok a σ')/\∀p a σ',Rz T b σ x c=.Zw p (.ok a σ')->Rz T b τ x c=.Zw p (.ok a τ):=by
 unfold Rz;split
 .split
  .rename_i id m i len;rw[Jr d e];split
   .split
    .exact⟨nofun,λp a σ' h=>(by cases h;rfl)⟩
    exact⟨nofun,nofun⟩
   exact⟨nofun,nofun⟩
  exact⟨nofun,nofun⟩
 .split
  .rename_i id m i j;rw[Jr d e];split
   .split
    .exact⟨nofun,λp a σ' h=>(by cases h;rfl)⟩
    exact⟨nofun,nofun⟩
   exact⟨nofun,nofun⟩
  exact⟨nofun,nofun⟩
 exact⟨nofun,nofun⟩
def s8(s:ZH P T){i:Nat}{l:Oper}{K:Ψ->Prop}(t:ops[i]?=some l)(hd:WA nt l=true)(u:XE env ops l=some true)(h:Js T A env l ids σ K) :
  ∃a,VE l=true/\(∀τ:Ρ,XD ids τ=XD ids σ->KL P m nt k Z E ops i l env τ a τ)/\K a:=by
 unfold Js at h;split at h
 .rename_i v x b;obtain⟨g,h⟩:=h;unfold Y4.Yj at h;split at h
  .exact h.elim
  .exact h.2.elim
  .exact h.elim
  rename_i n;unfold Y1.Yj at h;split at h
  .rename_i a σ' d;refine⟨a,by unfold VE;rw[b],λτ o env' rest e r=>?_,h⟩;refine .op (A:=A) s t (by rw[St e];exact u) hd (λc j=>by rw[b]at j;cases j) ?_;have:W0 T A env τ l=.ok a τ:=by unfold W0;rw[b];exact(AP o g).1 a σ' d
   rw[On e,L9 e,n,this];exact r
  .rename_i p a σ' d;exact absurd d ((AP (σ:=σ) (τ:=σ) U g).2 _ _)
  exact h.elim
 .rename_i v x f b;obtain⟨g,h⟩:=h;unfold Y4.Yj at h;split at h
  .exact h.elim
  .exact h.2.elim
  .exact h.elim
  rename_i n;unfold Y1.Yj at h;split at h
  .rename_i a σ' d;refine⟨a,by unfold VE;rw[b],λτ o env' rest e r=>?_,h⟩;refine .op (A:=A) s t (by rw[St e];exact u) hd (λc j=>by rw[b]at j;cases j) ?_;have:W0 T A env τ l=.ok a τ:=by unfold W0;rw[b];exact(AO o g).1 a σ' d
   rw[On e,L9 e,n,this];exact r
  .rename_i p a σ' d;exact absurd d ((AO (σ:=σ) (τ:=σ) U g).2 _ _)
  exact h.elim
 .rename_i v x w b;obtain⟨g,h⟩:=h;unfold Y4.Yj at h;split at h
  .exact h.elim
  .exact h.2.elim
  .exact h.elim
  rename_i n;unfold Y1.Yj at h;split at h
  .rename_i a σ' d;exact absurd d ((AM (σ:=σ) (τ:=σ) U g).1 _ _)
  .rename_i p a σ' d;refine⟨a,by unfold VE;rw[b],λτ o env' rest e r=>?_,h.2⟩;refine .op (A:=A) s t (by rw[St e];exact u) hd (λc j=>by rw[b]at j;cases j) ?_;have:W0 T A env τ l=.Zw p (.ok a τ):=by unfold W0;rw[b];exact(AM o g).2 p a σ' d
   rw[On e,L9 e,n,this];exact⟨h.1,r⟩
  exact h.elim
 .rename_i x b;obtain⟨g,h⟩:=h;unfold Y4.Yj at h;split at h
  .exact h.elim
  .exact h.2.elim
  .exact h.elim
  rename_i n;unfold Y1.Yj at h;split at h
  .rename_i a σ' d;refine⟨a,by unfold VE;rw[b],λτ o env' rest e r=>?_,h⟩;refine .op (A:=A) s t (by rw[St e];exact u) hd (λc j=>by rw[b]at j;cases j) ?_;have:W0 T A env τ l=.ok a τ:=by unfold W0;rw[b];exact(AN o g).1 a σ' d
   rw[On e,L9 e,n,this];exact r
  .rename_i p a σ' d;exact absurd d ((AN (σ:=σ) (τ:=σ) U g).2 _ _)
  exact h.elim
 exact h.elim
def s7(D:ZH P T){i:Nat}{e:Oper}{F:Ψ->Prop}{H:Ψ->Ρ->Prop}(o:ops[i]?=some e)(hd:WA nt e=true)(t:XE env ops e=some true)(h:Nu P T A env e σ F H) :
  ∃a σ' v,QJ P m nt k Z E ops i e env σ v a σ'/\(v=false->F a/\σ'=σ)/\(v=true->H a σ'):=by
 unfold Nu at h;split at h
 .rename_i f args R u;have I:∀env',QK ops e env env'->π env' f=π env f/\args.toList.map (π env')=args.toList.map (π env):=λenv' b=>by
   have w:=GF b;rw[u]at w;refine⟨w f (by simp[Op.operands,Call.operands]),GC λx N=>w x (by simp[Op.operands,Call.operands,N])⟩
  rcases h with⟨r,j,h⟩|⟨r,σ',j,h⟩
  .refine⟨r,σ,false,?_,λ_=>⟨h,U⟩,nofun⟩;unfold QJ;simp only[Vg,if_false];refine⟨λenv' σ' rest b l=>.call o (by rw[St b];exact t) hd u ?_,trivial⟩;obtain⟨B,Υ⟩:=I env' b;rw[B,Υ];exact(j σ').mono (λa s ⟨x,y⟩=>by subst x;subst y;exact l) (λ_ _ h=>h.elim)
  refine⟨r,σ',true,?_,nofun,λ_=>h⟩;unfold QJ;simp only[if_true];refine⟨?_,λd=>by unfold VE at d;rw[u]at d;cases d⟩;refine λenv' rest b l=>.call o (by rw[St b];exact t) hd u ?_;obtain⟨B,Υ⟩:=I env' b;rw[B,Υ];exact j.mono (λa s ⟨x,y⟩=>by subst x;subst y;exact l) (λ_ _ h=>h.elim)
 .exact h.elim
 .exact h.elim
 rename_i S V J;have L:∀(r:Y4)(a:Ψ),WH T A env e=r->(∀K:Ψ->Ρ->Prop,∀s,K a s->(r.YA s).holds K)->(∀σ s,r.or σ s=r.YA σ)->KM P m nt k Z E ops i e env a:=λr a d C O env' σ' rest b l=>by
  refine .op (A:=A) D o (by rw[St b];exact t) hd (λc j=>J c j) ?_;rw[On b,d,O];exact C _ _ l
 unfold Y4.Yj at h;split at h
 .rename_i a g;refine⟨a,σ,false,?_,λ_=>⟨h,U⟩,nofun⟩;unfold QJ;simp only[Vg,if_false];exact⟨L _ a g (λK s n=>n) (λ_ _=>rfl),trivial⟩
 .rename_i p a g;refine⟨a,σ,false,?_,λ_=>⟨h.2,U⟩,nofun⟩;unfold QJ;simp only[Vg,if_false];exact⟨L _ a g (λK s n=>⟨h.1,n⟩) (λ_ _=>rfl),trivial⟩
 .exact h.elim
 rename_i Q;have M:∀(a:Ψ)(σ':Ρ)(r:Y1),W0 T A env σ e=r->(∀K:Ψ->Ρ->Prop,K a σ'->r.holds K)->KL P m nt k Z E ops i e env σ a σ':=λa σ' r d C env' rest b l=>by
  refine .op (A:=A) D o (by rw[St b];exact t) hd (λc j=>J c j) ?_;rw[On b,L9 b,Q,d];exact C _ l
 unfold Y1.Yj at h;split at h
 .rename_i a σ' g;refine⟨a,σ',true,?_,nofun,λ_=>h⟩;unfold QJ;simp only[if_true];exact⟨M a σ' _ g λK n=>n,λd=>GB (p:=True) d (.inl g)⟩
 .rename_i p a σ' g;refine⟨a,σ',true,?_,nofun,λ_=>h.2⟩;unfold QJ;simp only[if_true];exact⟨M a σ' _ g λK n=>⟨h.1,n⟩,λd=>GB d (.inr g)⟩
 exact h.elim
def Ef(lo pu ids:Z6)(P:Program)(m nt:Nat)(k:Zk)(Z:Xv)(E:XM)(ops:Y5)(i:Nat)(b:Oper)(env:κ)(σ:Ρ)(c:Bool)(a:Ψ)(σ':Ρ):Prop:=
 QJ P m nt k Z E ops i b env σ c a σ'/\(lo.contains i=true->c=true->VE b=true/\∀τ:Ρ,XD ids τ=XD ids σ->KL P m nt k Z E ops i b env τ a τ)/\(pu.contains i=true->XD ids σ'=XD ids σ)
def s6(p:ZH P T){i:Nat}{is:Z6}{tags:List Bool}{K:κ->Ρ->Prop}(h:TD P T A nt ops lo pu ids (i::is) env σ tags K) :
  ∃b a σ' e,ops[i]?=some b/\Ef lo pu ids P m nt k Z E ops i b env σ e a σ'/\TD P T A nt ops lo pu ids is (Zr b env a) σ' (tags++[e]) K:=by
 unfold TD WX at h;split at h
 .exact h.elim
 rename_i b c;obtain⟨hd,h⟩:=h;split at h
 .exact h.elim
 rename_i w l;unfold Wh at h;cases w
 .replace h:=h.1 U
  refine⟨b,.Zl,σ,false,c,⟨?_,λ_ h=>(by cases h),λ_=>rfl⟩,h⟩;unfold QJ;simp only[Vg,if_false];exact⟨λenv' σ' rest r s=>.unwanted c (by rw[St r];exact l) hd s,trivial⟩
 replace h:=h.2 U
 cases f:lo.contains i with
 | true=>
  rw[f]at h;obtain⟨a,g,j,n⟩:=s8 (m:=m) (k:=k) (Z:=Z) (E:=E) p c hd l (h.1 U);refine⟨b,a,σ,true,c,⟨?_,λ_ _=>⟨g,j⟩,λ_=>rfl⟩,n⟩;unfold QJ;simp only[if_true];exact⟨j σ U,λ_=>trivial⟩
 | false=>
  rw[f]at h;obtain⟨a,σ',e,g,j,n⟩:=s7 (m:=m) (k:=k) (Z:=Z) (E:=E) p c hd l (h.2 U);cases e with
  | false=>
   obtain⟨o,rfl⟩:=j U;exact⟨b,a,σ',false,c,⟨g,λd=>(by rw[f]at d;cases d),λ_=>rfl⟩,o⟩
  | true=>
   obtain⟨o,t⟩:=n U;exact⟨b,a,σ',true,c,⟨g,λd=>(by rw[f]at d;cases d),o⟩,t⟩
def s5(t:ZH P T){K:κ->Ρ->Prop}{env0:κ}:∀(d i:Nat)(tags:List Bool)(as9:Nat->Ψ)(σs:Nat->Ρ),i+d=ops.size->tags.length=i->
  (∀j c,j<i->ops[j]?=some c->Ef lo pu ids P m nt k Z E ops j c (YI ops env0 as9 (λ_=>true) j) (σs j) (tags.getD j false) (as9 j) (σs (j+1)))->
  TD P T A nt ops lo pu ids (List.range' i d) (YI ops env0 as9 (λ_=>true) i) (σs i) tags K->
  ∃(tags:List Bool)(as9:Nat->Ψ)(b:Nat->Ρ),Oo (Rw lo pu) ops tags=true/\b 0=σs 0/\(∀j c,ops[j]?=some c->Ef lo pu ids P m nt k Z E ops j c (YI ops env0 as9 (λ_=>true) j) (b j) (tags.getD j false) (as9 j) (b (j+1)))/\K (YI ops env0 as9 (λ_=>true) ops.size) (b ops.size):=by
 intro d
 induction d with
 | zero=>
  intro i tags as9 σs hi o l h;simp only[List.range'_zero,TD]at h;have:i=ops.size:=J;subst this;exact⟨tags,as9,σs,h.1,U,λj c g=>l j c (Sd.1 g).1 g,h.2⟩
 | succ d u=>
  intro i tags as9 σs hi o l h;rw[List.range'_succ]at h;obtain⟨c,a,σ',n,g,v,h⟩:=s6 (m:=m) (k:=k) (Z:=Z) (E:=E) t h;let f:Nat->Ψ:=λj=>if j=i then a else as9 j
  let b:Nat->Ρ:=λj=>if j=i+1 then σ' else σs j
  have p:∀j,j<=i->YI ops env0 as9 (λ_=>true) j=YI ops env0 f (λ_=>true) j:=λj l=>AR j λx L=>by simp only[f];rw[if_neg J]
  have w:YI ops env0 f (λ_=>true) (i+1)=Zr c (YI ops env0 as9 (λ_=>true) i) a:=by
   simp only[YI,if_true,g];rw[<-p i (Z3 i)];simp only[f,if_true]
  have:=u (i+1) (tags++[n]) f b J (by simp[o]) (λj y M r=>?_) ?_
  .obtain⟨t2,B,C,D,F,H,I⟩:=this;exact⟨t2,B,C,D,F.trans (by simp only[b];rw[if_neg J]),H,I⟩
  .by_cases e:j=i
   .subst e;rw[g]at r;cases r;rw[<-p j (Z3 j)];have s:(tags++[n]).getD j false=n:=by rw[XA,W5 J,o];simp
    rw[s];simp only[f,b,if_true];rw[if_neg J];exact v
   have:=l j y J r;rw[<-p j J];have s:(tags++[n]).getD j false=tags.getD j false:=by rw[XA,YT J,<-XA]
   rw[s];simp only[f,b];rw[if_neg J,if_neg J,if_neg J];exact this
  rw[w];simp only[b,if_true];exact h
def W.L8(lo pu ids:Z6)(w:ZH P T)(y:P.follows .mixedOrders=true){id:Nat}(h:∀l:κ->Ρ->Prop,(∀env σ,W P m nt k env σ Z E->l env σ)->TD P T A nt ops lo pu ids (idx ops.size []) env σ [] l):W P m nt (.code (.region id ops true)::k) env σ Z E:=by
 have p:=h (λenv σ=>W P m nt k env σ Z E) λ_ _ h=>h;rw[idx_eq,List.range_eq_range']at p;obtain⟨tags,as9,σs,C,D,e,F⟩:=s5 (m:=m) (k:=k) (Z:=Z) (E:=E) (env0:=env) w ops.size 0 [] (λ_=>.Zl) (λ_=>σ) J U (λj a I=>J) p;intro K mn x cs b S B H t r s g L M;refine .draw r s λn=>?_;have u:=W.tr (lo:=lo) (pu:=pu) (v:=XD ids) (P:=P) (m:=m) (nt:=nt) (k:=k) (Z:=Z) (E:=E) (ops:=ops) (as9:=as9) (σs:=σs) (tags:=tags) (env0:=env) C
  (λi a c d=>by have:=(e i a c).1;unfold QJ at this;rw[d]at this;simpa using this)
  (λi a c d=>by have:=(e i a c).1;unfold QJ at this;rw[d]at this;simpa using this)
  (λi a c f d=>(e i a c).2.1 f d) (λi a c g=>(e i a c).2.2 g)
  (.ZK F) ops.size n (Array.replicate ops.size false) env 0 o (λi=>?_) (λi a c f=>?_) (Γ _) (λj I _=>?_) ?_
 .rw[D]at u;rw[y];simp only[Region.schedule,Bool.true_or,if_true,Region.linearise];exact u K mn x cs b S B H t r s g L M
 .have:∀n,YI ops env as9 (λi=>(Array.replicate ops.size false).getD i false) n=env:=by
   intro n
   induction n with
   | zero=>rfl
   | succ n N=>
    simp only[YI];have:(Array.replicate ops.size false).getD n false=false:=by
     rw[Vv,Ip];split<;>rfl
    rw[if_neg (by rw[this];simp)];exact N
  rw[this]
 .have:(Array.replicate ops.size false).getD i false=false:=by
   rw[Vv,Ip];split<;>rfl
  rw[this]at f;cases f
 .have:(Array.replicate ops.size false).getD j false=false:=by
   rw[Vv,Ip];split<;>rfl
  rw[this];simp
 have:=J' (λi=>!(Array.replicate ops.size false).getD i false) (List.range ops.size);simpa using this
end
section
variable{P:Program}{T:ZY}{A:Z6}{m nt:Nat}{k:Zk}{env env':κ}{σ:Ρ}{Z:Xv}{E:XM}{ops:Y5}
def TC(P:Program)(T:ZY)(A:Z6)(nt:Nat)(ops:Y5):Z6->κ->Ρ->List Bool->(κ->Ρ->Prop)->Prop
 | [],env,σ,tags,K=>Rx ops tags=true/\K env σ
 | i::is,env,σ,tags,K=>WX ops[i]? λb=>WA nt b=true/\WX (XE env ops b) λw=>
   Wh w (TC P T A nt ops is (Zr b env .Zl) σ (tags++[false]) K)
    (Nu P T A env b σ (λa=>TC P T A nt ops is (Zr b env a) σ (tags++[false]) K) (λa σ'=>TC P T A nt ops is (Zr b env a) σ' (tags++[true]) K))
def AL(P:Program)(T:ZY)(A:Z6)(nt:Nat)(ops:Y5)(is:Z6)(b:Oper)(env:κ)(σ:Ρ)(tags:List Bool)(K:κ->Ρ->Prop)(a:Ψ):Prop:=TC P T A nt ops is (Zr b env a) σ (tags++[false]) K
def AK(P:Program)(T:ZY)(A:Z6)(nt:Nat)(ops:Y5)(is:Z6)(b:Oper)(env:κ)(tags:List Bool)(K:κ->Ρ->Prop)(a:Ψ)(σ':Ρ):Prop:=TC P T A nt ops is (Zr b env a) σ' (tags++[true]) K
def YL{tags:List Bool}{K:κ->Ρ->Prop}:TC P T A nt ops [] env σ tags K=(Rx ops tags=true/\K env σ):=X3 rfl rfl
def Y3{i:Nat}{is:Z6}{tags:List Bool}{K:κ->Ρ->Prop}:TC P T A nt ops (i::is) env σ tags K=WX ops[i]? λa=>WA nt a=true/\WX (XE env ops a) λw=>
   Wh w (TC P T A nt ops is (Zr a env .Zl) σ (tags++[false]) K) (Nu P T A env a σ (AL P T A nt ops is a env σ tags K) (AK P T A nt ops is a env tags K)):=X3 U U
def s4{ops:Y5}{is:Z6}{b:Oper}{tags:List Bool}{K:κ->Ρ->Prop}{a:Ψ}:AL P T A nt ops is b env σ tags K a=TC P T A nt ops is (Zr b env a) σ (tags++[false]) K:=X3 rfl rfl
def s3{ops:Y5}{is:Z6}{b:Oper}{tags:List Bool}{K:κ->Ρ->Prop}{a:Ψ}:AK P T A nt ops is b env tags K a σ=TC P T A nt ops is (Zr b env a) σ (tags++[true]) K:=X3 rfl rfl
def s0{K:κ->Ρ->Prop}:∀(is:Z6)(env:κ)(σ:Ρ)(tags:List Bool),TD P T A nt ops [] [] [] is env σ tags K=TC P T A nt ops is env σ tags K:=by
 intro is
 induction is with
 | nil=>intro env σ tags;rfl
 | cons i is a=>
  intro env σ tags;rw[Rv,Y3];simp only[a,List.contains_nil,Bool.not_false,AX,Vg,false_implies,true_and];rfl
def W.draw(b:ZH P T)(c:P.follows .mixedOrders=true){id:Nat}(h:∀a:κ->Ρ->Prop,(∀env σ,W P m nt k env σ Z E->a env σ)->TC P T A nt ops (idx ops.size []) env σ [] a):W P m nt (.code (.region id ops true)::k) env σ Z E:=
 W.L8 [] [] [] b c λa d=>by rw[s0];exact h a d
def AJ{K K':κ->Ρ->Prop}(k:∀e s,K e s->K' e s):∀(is:Z6)(env:κ)(σ:Ρ)(tags:List Bool),TC P T A nt ops is env σ tags K->TC P T A nt ops is env σ tags K':=by
 intro is
 induction is with
 | nil=>intro env σ tags h;exact⟨h.1,k _ _ h.2⟩
 | cons i is b=>
  intro env σ tags h;unfold TC WX at h ⊢;cases d:ops[i]? with
  | none=>rw[d]at h;exact h.elim
  | some l=>
   rw[d]at h;simp only at h ⊢;refine⟨h.1,?_⟩
   replace h:=h.2
   cases g:XE env ops l with
   | none=>rw[g]at h;exact h.elim
   | some w=>
    rw[g]at h;unfold Wh at h ⊢;refine⟨λe=>b _ _ _ (h.1 e),λe=>?_⟩
    replace h:=h.2 e
    unfold Nu at h ⊢;split
    .rename_i f args j a;rw[a]at h;simp only at h;rcases h with⟨r,c,h⟩|⟨r,σ',c,h⟩
     .exact .inl ⟨r,c,b _ _ _ h⟩
     exact .inr ⟨r,σ',c,b _ _ _ h⟩
    .rename_i a;rw[a]at h;exact h
    .rename_i a;rw[a]at h;exact h
    rename_i m n o;split at h
    .rename_i f args j a;exact absurd a (m f args j)
    .rename_i y a;exact absurd a (n y)
    .rename_i y a;exact absurd a (o y)
    unfold Y4.Yj at h ⊢;split at h
    .exact b _ _ _ h
    .exact⟨h.1,b _ _ _ h.2⟩
    .exact h.elim
    unfold Y1.Yj at h ⊢;split at h
    .exact b _ _ _ h
    .exact⟨h.1,b _ _ _ h.2⟩
    exact h.elim
def W.GA(b:ZH P T)(c:P.follows .mixedOrders=true)(a:κ){id:Nat}(h:W P m nt k a σ Z E)(d:TC P T A nt ops (idx ops.size []) env σ [] (λe s=>s=σ/\∀p∈a,ε e p.1=p.2)):W P m nt (.code (.region id ops true)::k) env σ Z E:=
 W.draw b c λj f=>AJ (λe s ⟨g,i⟩=>f e s (g▸W.forget a i h)) _ _ _ _ d
end
def VC{a:Type}:List a->Z6->List a->List a
 | l,i::ρ,x::xs=>VC (l.set i x) ρ xs
 | l,_,_=>l
def Om{α}:∀(ρ)(l xs:List α),(VC l ρ xs).length=l.length:=by
 intro ρ
 induction ρ with
 | nil=>intro l xs;cases xs<;>rfl
 | cons i ρ a=>intro l xs;cases xs with
  | nil=>rfl
  | cons x xs=>simp[VC,a]
def Ee{α i}:∀(ρ)(l xs:List α),i∉ρ->(VC l ρ xs)[i]?=l[i]?:=by
 intro ρ
 induction ρ with
 | nil=>intro l xs _;cases xs<;>rfl
 | cons j ρ a=>intro l xs h;cases xs with
  | nil=>rfl
  | cons x xs=>
   simp[VC];rw[a _ _ (λb=>h (by simp[b])),XJ (λe=>h (by simp[e]))]
def AI{α}:∀(ρ)(l xs),ρ.Nodup->(∀i∈ρ,i<l.length)->∀(j i:Nat)(x:α),ρ[j]?=some i->xs[j]?=some x->(VC l ρ xs)[i]?=some x:=by
 intro ρ
 induction ρ with
 | nil=>intro l xs _ _ j i x h;simp at h
 | cons a ρ e=>
  intro l xs f d j i x c b;cases xs with
  | nil=>simp at b
  | cons y xs=>
   simp[VC];let ⟨g,k⟩:=Q2.1 f;cases j with
   | zero=>
    simp at c b;subst c;subst b;rw[Ee ρ _ _ g,Xz (d a o)]
   | succ j=>
    simp[List.getElem?_cons_succ]at c b;exact e _ _ k (λi hi=>by simp;exact d i (by simp[hi])) j i x c b
def WE(ρ:Z6):Ψ->Ψ
 | .Ο id n i j=>.Ο (ρ.getD id 0) n i j
 | .ms id n i len=>.ms (ρ.getD id 0) n i len
 | .mp id=>.mp (ρ.getD id 0)
 | .it id=>.it (ρ.getD id 0)
 | a=>a
def Yt(ρ:Z6):Ψ->Ψ
 | .fn f b cs=>.fn f (b.map (WE ρ)) (cs.map (WE ρ))
 | .Z' l=>.Z' (l.map (WE ρ))
 | .Z7 l=>.Z7 (l.map (WE ρ))
 | a=>WE ρ a
def Ol(h:Nat)(a:Ψ):Prop:=match a with
 | .Ο id _ _ _|.ms id _ _ _|.mp id|.it id=>id<h
 | a=>ω 0 a
def Xc(h:Nat)(a:Ψ):Prop:=match a with
 | .fn _ b cs=>(∀a∈b,Ol h a)/\∀a∈cs,Ol h a
 | .Z' l|.Z7 l=>∀a∈l,Ol h a
 | a=>Ol h a
structure Names(ρ:Z6)(a:ZZ)(σ0:Ρ)(b:ZZ)(c:Ρ):Prop where
 row:∀(j i:Nat),ρ[j]?=some i->c[i]?=σ0[j]?
 blk:∀(j i:Nat),ρ[j]?=some i->b[i]?=a[j]?
section
variable{S:ζ}{Gz WW:ZZ}{σ0 R7:Ρ}{ρ:Z6}
def Gy{ρ:Z6}{j}(h:j<ρ.length):ρ[j]?=some (ρ.getD j 0):=by
 rw[XA,ξ h];rfl
def TB(g:Names ρ Gz σ0 WW R7){a v}(m:Ol ρ.length a):Θ S WW R7 (WE ρ a) v↔Θ S Gz σ0 a v:=by
 cases a with
 | Ο id n i j=>
  have f:=Gy m
  have d:=g.row _ _ f
  have e:=g.blk _ _ f;constructor
  .intro h;cases h with
   | Ο b c k=>exact .Ο (by rw[<-d];exact b) c (by rw[<-e];exact k)
   | Vo v b c l=>exact .Vo v (by rw[<-d];exact b) c l
  intro h;cases h with
  | Ο b c k=>exact .Ο (by rw[d];exact b) c (by rw[e];exact k)
  | Vo v b c l=>exact .Vo v (by rw[d];exact b) c l
 | ms id n i len=>
  have f:=Gy m
  have d:=g.row _ _ f
  have e:=g.blk _ _ f;constructor
  .intro h;cases h with
   | ms cap b c k o p r=>exact .ms cap (by rw[<-d];exact b) c (by rw[<-e];exact k) o p r
   | VP v b c l=>exact .VP v (by rw[<-d];exact b) c l
  intro h;cases h with
  | ms cap b c k o p r=>exact .ms cap (by rw[d];exact b) c (by rw[e];exact k) o p r
  | VP v b c l=>exact .VP v (by rw[d];exact b) c l
 | mp id=>
  have f:=Gy m
  have d:=g.row _ _ f
  have e:=g.blk _ _ f;constructor
  .intro h;cases h with
   | mp b c=>exact .mp (by rw[<-d];exact b) (by rw[<-e];exact c)
   | TI v b=>exact .TI v (by rw[<-d];exact b)
  intro h;cases h with
  | mp b c=>exact .mp (by rw[d];exact b) (by rw[e];exact c)
  | TI v b=>exact .TI v (by rw[d];exact b)
 | it id=>
  have f:=Gy m
  have d:=g.row _ _ f
  have e:=g.blk _ _ f;constructor
  .intro h;cases h with
   | it b c=>exact .it (by rw[<-d];exact b) (by rw[<-e];exact c)
   | R8 b c=>exact .R8 (by rw[<-d];exact b) (by rw[<-e];exact c)
   | S8 v b=>exact .S8 v (by rw[<-d];exact b)
  intro h;cases h with
  | it b c=>exact .it (by rw[d];exact b) (by rw[e];exact c)
  | R8 b c=>exact .R8 (by rw[d];exact b) (by rw[e];exact c)
  | S8 v b=>exact .S8 v (by rw[d];exact b)
 | _=>exact⟨λh=>h.any m _ _,λh=>h.any m _ _⟩
def Gx{f:Ψ->Ψ}{l:μ}{i:Nat}{a}(h:(l.map f)[i]?=some a):∃b,l[i]?=some b/\a=f b:=by
 rw[YK]at h;cases c:l[i]? with
 | none=>rw[c]at h;cases h
 | some b=>rw[c]at h;cases h;exact⟨b,rfl,rfl⟩
def Jq(c:Names ρ Gz σ0 WW R7){a v}(d:Xc ρ.length a):Θ S WW R7 (Yt ρ a) v↔Θ S Gz σ0 a v:=by
 cases a with
 | fn f s cs=>
  constructor
  .intro h;cases h with
   | fn vs o e g p r=>
    refine .fn vs o (by simpa using e) (by simpa using g) (λi a v hi hv=>?_) (λi a v hi hv=>?_)
    .exact(TB c (d.1 a (ZD hi))).1 (p i _ v (by rw[YK,hi];rfl) hv)
    exact(TB c (d.2 a (ZD hi))).1 (r i _ v (by rw[YK,hi];rfl) hv)
  intro h;cases h with
  | fn vs o e g p r=>
   refine .fn vs o (by simpa using e) (by simpa using g) (λi a v hi hv=>?_) (λi a v hi hv=>?_)
   .obtain⟨b,m,rfl⟩:=Gx hi;exact(TB c (d.1 b (ZD m))).2 (p i b v m hv)
   obtain⟨b,m,rfl⟩:=Gx hi;exact(TB c (d.2 b (ZD m))).2 (r i b v m hv)
 | Z' l=>
  constructor
  .intro h;cases h with
   | Z' vs e g=>exact .Z' vs (by simpa using e) λi a v hi hv=>(TB c (d a (ZD hi))).1 (g i _ v (by rw[YK,hi];rfl) hv)
  intro h;cases h with
  | Z' vs e g=>
   refine .Z' vs (by simpa using e) λi a v hi hv=>?_;obtain⟨b,m,rfl⟩:=Gx hi;exact(TB c (d b (ZD m))).2 (g i b v m hv)
 | Z7 l=>
  constructor
  .intro h;cases h with
   | Z7 vs e g=>exact .Z7 vs (by simpa using e) λi a v hi hv=>(TB c (d a (ZD hi))).1 (g i _ v (by rw[YK,hi];rfl) hv)
  intro h;cases h with
  | Z7 vs e g=>
   refine .Z7 vs (by simpa using e) λi a v hi hv=>?_;obtain⟨b,m,rfl⟩:=Gx hi;exact(TB c (d b (ZD m))).2 (g i b v m hv)
 | z u=>exact TB (a:=.z u) c d
 | Κ l=>exact TB (a:=.Κ l) c d
 | sl ex k l=>exact TB (a:=.sl ex k l) c d
 | Ο id n i j=>exact TB (a:=.Ο id n i j) c d
 | ms id n i len=>exact TB (a:=.ms id n i len) c d
 | W4 t a=>exact TB (a:=.W4 t a) c d
 | mp id=>exact TB (a:=.mp id) c d
 | it id=>exact TB (a:=.it id) c d
 | Zl=>exact TB (a:=.Zl) c d
end
section
variable{P:Program}{S YE:ζ}{B:ZZ}{H H':Φ}{σ:Ρ}
def S0(r:Row):Prop:=match r with|.cells _ _ l=>∀e∈l,∀a∈e.cells,ω 0 a|_=>False
def Jp(r:Row):Prop:=S0 r\/r=.dead
def VO.plain{B':ZZ}{σ':Ρ}{r bo}(c:S0 r)(h:VO S B σ H r bo)(g m):VO S g m H r bo:=by
 cases r with
 | cells t k l=>
  cases bo with
  | none=>exact h
  | some x=>
   let ⟨b,N⟩:=x
   let ⟨n,o,p,w,d⟩:=h;refine⟨n,o,p,w,λi e hi=>⟨(d i e hi).1,λj a f=>?_⟩⟩;let ⟨s,u,v⟩:=(d i e hi).2 j a f;exact⟨s,u.any (c e (ZD hi) a (ZD f)) _ _,v⟩
 | _=>exact c.elim
def VO.sZ{B':ZZ}{σ':Ρ}{r bo}(a:Jp r)(h:VO S B σ H r bo)(b c):VO S b c H r bo:=by
 rcases a with a|rfl
 .exact VO.plain (B':=B') (σ':=σ') a h b c
 trivial
def Holds.Ed(p:Holds S B σ H){ρ F}(az:ρ.Nodup)(ai:ρ.length=F.length)(aj:∀(j i:Nat),ρ[j]?=some i->σ[i]?=F[j]?)(aL:∀r∈F,S0 r)
  {d σ0} (A:Ext S (ρ.map λi=>B.getD i none) H YE d H') (aA:ZC S YE (ρ.map λi=>B.getD i none) d F σ0) (V:Holds YE d σ0 H') (aM:∀r∈σ0,Jp r) :
  let s:=VC σ ρ σ0++σ0.drop ρ.length
  let m:=VC B ρ d++d.drop ρ.length
  Holds YE m s H'/\Ext S B H YE m H'/\ZC S YE B m σ s/\Names (ρ++(List.range (σ0.length-ρ.length)).map (σ.length + ·)) d σ0 m s:=by
 intro s m;have ak:∀i∈ρ,i<σ.length:=λi hi=>by
  let ⟨j,a⟩:=Tl hi
  have n:j<F.length:=by rw[<-ai];exact(ZT.1 a).1
  have:=aj j i a;rw[ξ n]at this;exact(ZT.1 this).1
 have aa:∀i∈ρ,i<B.length:=λi hi=>by rw[p.len];exact ak i hi
 have aX:ρ.length<=σ0.length:=by rw[ai];exact aA.length
 have aN:d.length=σ0.length:=V.len
 have aO:∀(j i:Nat),ρ[j]?=some i->(ρ.map λi=>B.getD i none)[j]?=B[i]?:=λj i a=>by
  have hi:=aa i (ZD a);rw[YK,a];simp[hi]
 have al:∀(j i),ρ[j]?=some i->s[i]?=σ0[j]?:=λj i a=>by
  have hi:=ak i (ZD a)
  have n:j<σ0.length:=by have:=(ZT.1 a).1;omega
  show(VC σ ρ σ0++_)[i]?=_;rw[YT (by rw[Om];exact hi),ξ n];exact AI ρ σ σ0 az ak j i _ a (ξ n)
 have am:∀(j i),ρ[j]?=some i->m[i]?=d[j]?:=λj i a=>by
  have hi:=aa i (ZD a)
  have n:j<d.length:=by have:=(ZT.1 a).1;omega
  show(VC B ρ d++_)[i]?=_;rw[YT (by rw[Om];exact hi),ξ n];exact AI ρ B d az aa j i _ a (ξ n)
 have an:∀i,i<σ.length->i∉ρ->s[i]?=σ[i]?:=λi hi g=>by
  show(VC σ ρ σ0++_)[i]?=_;rw[YT (by rw[Om];exact hi),Ee ρ _ _ g]
 have ao:∀i,i<σ.length->i∉ρ->m[i]?=B[i]?:=λi hi g=>by
  show(VC B ρ d++_)[i]?=_;rw[YT (by rw[Om,p.len];exact hi),Ee ρ _ _ g]
 have aB:∀x,s[σ.length+x]?=σ0[ρ.length+x]?:=λx=>by
  show(VC σ ρ σ0++_)[_]?=_;rw[W5 (by rw[Om];omega),Om,Vf];congr 1;omega
 have aC:∀x,m[σ.length+x]?=d[ρ.length+x]?:=λx=>by
  show(VC B ρ d++_)[_]?=_;rw[W5 (by rw[Om,p.len];omega),Om,p.len,Vf];congr 1;omega
 have W:∀(i)(r),s[i]?=some r->(i<σ.length/\i∉ρ/\σ[i]?=some r/\m[i]?=B[i]?)\/∃j,σ0[j]?=some r/\m[i]?=d[j]?/\(∀u C,(u<σ.length->ρ[C]?=some u)->(¬u<σ.length->C=ρ.length+(u-σ.length))->j=C->i=u)/\((i<σ.length->ρ[j]?=some i)/\(¬i<σ.length->j=ρ.length+(i-σ.length))):=λi r f=>by
  by_cases hi:i<σ.length
  .by_cases g:i∈ρ
   .let ⟨j,a⟩:=Tl g;refine .inr ⟨j,by rw[<-al j i a];exact f,am j i a,λu C I o e=>?_,λ_=>a,λh=>absurd hi h⟩;subst e;by_cases X:u<σ.length
    .have:=I X;rw[a]at this;cases this;rfl
    have:=o X;have:=(ZT.1 a).1;omega
   exact .inl ⟨hi,g,by rw[<-an i hi g];exact f,ao i hi g⟩
  have e:i=σ.length+(i-σ.length):=J
  refine .inr ⟨ρ.length+(i-σ.length),by rw[<-aB,<-e];exact f,by rw[<-aC,<-e],λu C I o aY=>?_,λh=>absurd h hi,λ_=>rfl⟩;by_cases X:u<σ.length
  .have:=(ZT.1 (I X)).1;omega
  have:=o X;omega
 have aD:m.length=s.length:=by
  show(VC B ρ d++d.drop ρ.length).length=(VC σ ρ σ0++σ0.drop ρ.length).length;simp[Om,p.len,aN]
 have aE:ZC S YE B m σ s:=⟨A.Za,λid r f=>by
  have hi:=(ZT.1 f).1;by_cases g:id∈ρ
  .let ⟨j,a⟩:=Tl g
   have aP:F[j]?=some r:=by rw[<-aj j id a];exact f
   let ⟨r',k,c⟩:=aA.rows j r aP;exact⟨r',by rw[al j id a];exact k,by rw[am j id a,<-aO j id a];exact c⟩
  exact⟨r,by rw[an id hi g];exact f,by rw[ao id hi g];exact r.Sv _⟩⟩
 have ab:∀b,ZZ.has (ρ.map λi=>B.getD i none) b->∃j i N,ρ[j]?=some i/\B[i]?=some (some (b,N)):=λb ⟨N,ap⟩=>by
  let ⟨j,a⟩:=Tl ap;rw[YK]at a;cases Q:ρ[j]? with
  | none=>rw[Q]at a;cases a
  | some i=>
   rw[Q]at a;simp only[Option.map_some,Ib]at a;have hi:=aa i (ZD Q);rw[XA,ξ hi]at a;exact⟨j,i,N,Q,by rw[ξ hi];simpa using a⟩
 have aF:∀(j i),ρ[j]?=some i->∃r,σ[i]?=some r/\r.live/\S0 r:=λj i a=>by
  have n:j<F.length:=by rw[<-ai];exact(ZT.1 a).1
  have f:=ξ n
  have aq:=aL _ (ZD f);refine⟨_,by rw[aj j i a];exact f,?_,aq⟩;cases Q:F[j]<;>rw[Q]at aq<;>first|trivial|exact aq.elim
 have ad:∀(id)(r)(b N),id∉ρ->σ[id]?=some r->r.live->B[id]?=some (some (b,N))->¬ZZ.has (ρ.map λi=>B.getD i none) b/\¬H.fresh b/\UY H H' b:=λid r b N g f w l=>by
  have R:¬ZZ.has (ρ.map λi=>B.getD i none) b:=λar=>by
   let ⟨j,i,ae,I,o⟩:=ab b ar
   let ⟨r',k,c,_⟩:=aF j i I;exact p.inj id i r r' b N ae (λe=>g (e▸ZD I)) f k w c l o
  have T:=p.RE f w l;exact⟨R,T,(A.XU b R T).P8 λK=>p.sep id r b N f w l K⟩
 refine⟨⟨V.Za,aD,λi r bo f U=>?_,λi j y D b L P aG hi a af ag M O=>?_,λi r b N f w l K=>?_⟩,⟨A.Za,λb l aQ=>?_,λb l=>?_,λb K v hv=>?_,A.grow⟩,aE,⟨λj i a=>?_,λj i a=>?_⟩⟩
 .rcases W i r f with⟨k,c,t,E⟩|⟨j,k,c,_,_⟩
  .by_cases w:r.live
   .rw[E]at U;refine(p.row i r bo t U).later aE (λb N e=>(ad i r b N c t w (by rw[U,e])).2.2) λY left aZ e=>?_;subst e;let ⟨_,_,a0,a1,xs,a2,seen,_,a3,⟨es,Υ⟩,_⟩:=p.row i _ bo t U;have au:Y∉ρ:=λaR=>by
     let ⟨j,a⟩:=Tl aR
     let ⟨r',aH,_,aS⟩:=aF j Y a;rw[Υ]at aH;cases aH;exact aS
    have aI:=(ZT.1 Υ).1;exact⟨an Y aI au,ao Y aI au,λb N l=>(ad Y _ b N au Υ trivial l).2.2⟩
   cases r<;>first|exact absurd trivial w|trivial
  rw[c]at U;exact(V.row j r bo k U).sZ (B':=m) (σ':=s) (aM r (ZD k)) _ _
 .have aJ:∀(i)(y)(L)(C:Nat)(D:Row)(P:Nat),i∉ρ->σ[i]?=some y->y.live->B[i]?=some (some (b,L))->σ0[C]?=some D->D.live->d[C]?=some (some (b,P))->False:=λi y L C D P I o aT aU a4 a5 aV=>by
   let ⟨R,T,_⟩:=ad i y b L I o aT aU;rcases A.blocks b (S5 aV)with h|h
   .exact R h
   exact T h
  rcases W i y hi with⟨k,c,t,E⟩|⟨aK,k,c,t,E⟩<;>rcases W j D a with⟨av,ah,aw,Z⟩|⟨ax,av,ah,aw,Z⟩
  .rw[E]at M;rw[Z]at O;exact p.inj i j y D b L P aG t aw af ag M O
  .rw[E]at M;rw[ah]at O;exact aJ i y L ax D P c t af M av ag O
  .rw[c]at M;rw[Z]at O;exact aJ j D P aK y L ah aw ag O k af M
  rw[c]at M;rw[ah]at O;refine V.inj aK ax y D b L P (λe=>aG ?_) k av af ag M O;exact t j ax Z.1 Z.2 e
 .rcases W i r f with⟨k,c,t,E⟩|⟨j,k,c,_,_⟩
  .rw[E]at l;let ⟨R,T,_⟩:=ad i r b N c t w l;cases hv:YE b K with
   | none=>rfl
   | some v=>
    rcases A.S6 b K v hv with h|h|h
    .rw[p.sep i r b N t w l K]at h;cases h
    .exact absurd h R
    exact absurd h T
  rw[c]at l;exact V.sep j r b N k w l K
 .refine A.XU b (λar=>l ?_) aQ;let ⟨j,i,ae,_,o⟩:=ab b ar;exact S5 o
 .let ⟨N,ap⟩:=l
  let ⟨i,hi⟩:=Tl ap
  have aW:i<s.length:=by rw[<-aD];exact(ZT.1 hi).1
  rcases W i _ (ξ aW)with⟨k,c,t,E⟩|⟨j,k,c,_,_⟩
  .rw[E]at hi;exact .inl (S5 hi)
  rw[c]at hi;rcases A.blocks b (S5 hi)with h|h
  .let ⟨j,u,ae,_,o⟩:=ab b h;exact .inl (S5 o)
  exact .inr h
 .rcases A.S6 b K v hv with h|h|h
  .exact .inl h
  .let ⟨j,u,ae,_,o⟩:=ab b h;exact .inr (.inl (S5 o))
  exact .inr (.inr h)
 .by_cases n:j<ρ.length
  .rw[YT n]at a;exact al j i a
  rw[W5 J,YK]at a;have ay:j-ρ.length<σ0.length-ρ.length:=by
   apply Tn;intro g;rw[Wk (by simp;omega)]at a;cases a
  rw[ξ (by simpa using ay)]at a;simp at a;subst a;rw[aB];congr 1;omega
 by_cases n:j<ρ.length
 .rw[YT n]at a;exact am j i a
 rw[W5 J,YK]at a;have ay:j-ρ.length<σ0.length-ρ.length:=by
  apply Tn;intro g;rw[Wk (by simp;omega)]at a;cases a
 rw[ξ (by simpa using ay)]at a;simp at a;subst a;rw[aC];congr 1;omega
def names(ρ:Z6)(n:Nat)(σ0:Ρ):Z6:=ρ++(List.range (σ0.length-ρ.length)).map (n + ·)
def Ss(σ:Ρ)(ρ:Z6)(σ0:Ρ):Ρ:=VC σ ρ σ0++σ0.drop ρ.length
def Ν.Ec{g as0 k K E}(h:Ν P g as0 k K E)(ρ)(w:ρ.Nodup)(o:ρ.length=k.length)(p:∀(j i:Nat),ρ[j]?=some i->σ[i]?=k[j]?)(y:∀r∈k,S0 r)
  (has:∀a∈as0,Xc ρ.length a) {K' E'} (Y:∀a s,K a s->(∀r∈s,Jp r)/\Xc s.length a/\K' (Yt (names ρ σ.length s) a) (Ss σ ρ s))
  (Z:∀a s,E a s->(∀r∈s,Jp r)/\Xc s.length a/\E' (Yt (names ρ σ.length s) a) (Ss σ ρ s)):Ν P g (as0.map (Yt ρ)) σ K' E':=by
 refine⟨h.1,λaa mn x c rest S B H vs ab l hv U=>?_⟩;have ad:∀(j i),ρ[j]?=some i->i<σ.length:=λj i d=>by
  have A:j<k.length:=by rw[<-o];exact(ZT.1 d).1
  have:=p j i d;rw[ξ A]at this;exact(ZT.1 this).1
 have V:∀(j i:Nat),ρ[j]?=some i->(ρ.map λi=>B.getD i none)[j]?=B[i]?:=λj i d=>by
  have hi:i<B.length:=by rw[l.len];exact ad j i d
  rw[YK,d];simp[hi]
 have ae:Names ρ (ρ.map λi=>B.getD i none) k B σ:=⟨p,λj i d=>(V j i d).symm⟩
 have pick:∀(j)(r)(bo),k[j]?=some r->(ρ.map λi=>B.getD i none)[j]?=some bo->∃i,ρ[j]?=some i/\σ[i]?=some r/\B[i]?=some bo:=λj r bo f C=>by
  have A:j<ρ.length:=by rw[o];exact(ZT.1 f).1
  have d:=ξ A;exact⟨_,d,by rw[p j _ d];exact f,by rw[<-V j _ d];exact C⟩
 have af:Holds S (ρ.map λi=>B.getD i none) k H:=by
  refine⟨l.Za,by simp[o],λj r bo f C=>?_,λi j W X b ag ah ai hi d aj ak al am=>?_,λj r b N f an ao ap=>?_⟩
  .let ⟨i,m,n,t⟩:=pick j r bo f C;exact(l.row i r bo n t).plain (B':=B) (σ':=σ) (y r (ZD f)) _ _
  .let ⟨aq,m,n,t⟩:=pick i W _ hi al
   let ⟨ar,au,av,aw⟩:=pick j X _ d am;refine l.inj aq ar W X b ag ah (λe=>ai ?_) n av aj ak t aw;subst e;have ax:=(ZT.1 m).1;exact(List.getElem?_inj ax w).1 (m.trans au.symm)
  let ⟨i,m,n,t⟩:=pick j r _ f ao;exact l.sep i r b N n an t ap
 refine h.2 aa mn x c rest S _ H vs ab af ⟨by have:=hv.1;simpa using this,λi a v m n=>(Jq ae (has a (ZD m))).1 (hv.2 i _ v (by rw[YK,m];rfl) n)⟩ ⟨λa σ' YE B' H' v D F u I f=>?_,λa σ' YE B' H' v D F u I f=>?_⟩
 .let ⟨J,L,M⟩:=Y a σ' D
  let ⟨O,Q,R,T⟩:=l.Ed w o p y F u I J;refine U.ret _ _ YE _ H' v M Q R O ((Jq T ?_).2 f);have:(ρ++(List.range (σ'.length-ρ.length)).map (σ.length + ·)).length=σ'.length:=by
   have:=u.length;simp;omega
  rw[this];exact L
 let ⟨J,L,M⟩:=Z a σ' D
 let ⟨O,Q,R,T⟩:=l.Ed w o p y F u I J;refine U.KN _ _ YE _ H' v M Q R O ((Jq T ?_).2 f);have:(ρ++(List.range (σ'.length-ρ.length)).map (σ.length + ·)).length=σ'.length:=by
  have:=u.length;simp;omega
 rw[this];exact L
def Ν.rows{g as0 b K E}(h:Ν P g as0 b K E)(ρ)(d:ρ.Nodup)(e:ρ.length=b.length)(f:∀(j i:Nat),ρ[j]?=some i->σ[i]?=b[j]?)(k:∀r∈b,S0 r)
  (has:∀a∈as0,Xc ρ.length a) {K' E'} (l:∀a s,K a s->(∀r∈s,S0 r)/\Xc s.length a/\K' (Yt (names ρ σ.length s) a) (Ss σ ρ s))
  (m:∀a s,E a s->(∀r∈s,S0 r)/\Xc s.length a/\E' (Yt (names ρ σ.length s) a) (Ss σ ρ s)):Ν P g (as0.map (Yt ρ)) σ K' E':=
 h.Ec ρ d e f k has (λa s x=>let ⟨p,q⟩:=l a s x;⟨λr c=>.inl (p r c),q⟩) (λa s x=>let ⟨p,q⟩:=m a s x;⟨λr c=>.inl (p r c),q⟩)
end
def Yw(a b:Ψ):Prop:=∀(S:ζ)(B:ZZ)(σ:Ρ)(v:Value),Θ S B σ a v->Θ S B σ b v
def ZJ(l m:μ):Prop:=l.length=m.length/\∀(i:Nat)(a b:Ψ),l[i]?=some a->m[i]?=some b->Yw a b
def Yw.refl(a:Ψ):Yw a a:=λ_ _ _ _ h=>h
def Yw.of{a b:Ψ}(h:a=b):Yw a b:=h▸.refl a
def Yw.trans{a b c:Ψ}(h:Yw a b)(k:Yw b c):Yw a c:=λS B σ v x=>k S B σ v (h S B σ v x)
def ZJ.refl(l:μ):ZJ l l:=⟨rfl,λi a b h k=>by rw[h]at k;cases k;exact .refl a⟩
def ZJ.nil:ZJ [] []:=.refl []
def ZJ.cons{a b:Ψ}{l m:μ}(h:Yw a b)(k:ZJ l m):ZJ (a::l) (b::m):=⟨by simp[k.1],λi x y c d=>by
 cases i with
 | zero=>simp at c d;subst c;subst d;exact h
 | succ i=>exact k.2 i x y (by simpa using c) (by simpa using d)⟩
def Yw.Z'{l m:μ}(h:ZJ l m):Yw (.Z' l) (.Z' m):=λS B σ v x=>by
 cases x with
 | Z' vs c d=>
  refine .Z' vs (h.1.symm.trans c) λi b v hi hv=>?_;have e:i<l.length:=by rw[h.1];exact(ZT.1 hi).1
  have a:=ξ e;exact h.2 i _ b a hi S B σ v (d i _ v a hv)
def Yw.Z7{l m:μ}(h:ZJ l m):Yw (.Z7 l) (.Z7 m):=λS B σ v x=>by
 cases x with
 | Z7 vs c d=>
  refine .Z7 vs (h.1.symm.trans c) λi b v hi hv=>?_;have e:i<l.length:=by rw[h.1];exact(ZT.1 hi).1
  have a:=ξ e;exact h.2 i _ b a hi S B σ v (d i _ v a hv)
def Yw.sl{e:Bool}{k:Nat}{l m:μ}(o:l.length=m.length)(h:∀(i:Nat)(a b:Ψ),l[i]?=some a->m[i]?=some b->ZJ a.cells b.cells):Yw (.sl e k l) (.sl false k m):=λS B σ v x=>by
 have p:∀(i:Nat)(b:Ψ),m[i]?=some b->∃a,l[i]?=some a/\ZJ a.cells b.cells:=λi b hi=>by
  have d:i<l.length:=by rw[o];exact(ZT.1 hi).1
  exact⟨_,ξ d,h i _ b (ξ d) hi⟩
 cases x with
 | WI base cap r=>
  have:m=[]:=YY.1 o.symm;subst this;exact .WI base cap λx=>by cases x
 | sl b s cap w C D t u A=>
  rw[o];refine .sl b s cap w (λx=>by cases x) J (λi y hi=>?_) (λi y hi j c n=>?_) (λi y hi j c n=>?_)
  .obtain⟨a,g,f⟩:=p i y hi;rw[<-f.1];exact t i a g
  .obtain⟨a,g,f⟩:=p i y hi;have d:j<a.cells.length:=by rw[f.1];exact(ZT.1 n).1
   exact u i a g j _ (ξ d)
  obtain⟨a,g,f⟩:=p i y hi;have d:j<a.cells.length:=by rw[f.1];exact(ZT.1 n).1
  have r:=ξ d;exact f.2 j _ c r n S B σ _ (A i a g j _ r)
def Yw.ex{e:Bool}{k:Nat}{l:μ}:Yw (.sl e k l) (.sl false k l):=.sl rfl λi a b d c=>by rw[d]at c;cases c;exact .refl _
def Yw.nil{e:Bool}{k a:Nat}:Yw (.sl e k []) (.sl false a []):=λS B σ v x=>by
 have g:∀(l:μ),l=[]->Θ S B σ (.sl e k l) v->Θ S B σ (.sl false a []) v:=λl c x=>by
  cases x with
  | WI base cap d=>exact .WI base cap λx=>by cases x
  | sl b f cap w h i j m n=>subst c;exact .WI _ cap λx=>by cases x
 exact g [] U x
def Yw.map{m:Type}{f g:m->Ψ}{e:Bool}{k:Nat}{l:List m}(h:∀x∈l,ZJ (f x).cells (g x).cells):Yw (.sl e k (l.map f)) (.sl false k (l.map g)):=.sl o λi a b c d=>by
 rw[YK]at c d;cases j:l[i]? with
 | none=>rw[j]at c;cases c
 | some x=>rw[j]at c d;cases c;cases d;exact h x (ZD j)
def ZJ.one{a b:Ψ}(h:Yw a b)(c:a.cells=[a])(d:b.cells=[b]):ZJ a.cells b.cells:=by rw[c,d];exact .cons h .nil
section
variable{P:Program}{σ:Ρ}
def XF.Ml{S:ζ}{B:ZZ}{l m:μ}{vs:ZP}(h:ZJ l m)(k:XF S B σ l vs):XF S B σ m vs:=⟨h.1.symm.trans k.1,λi b v hi hv=>by
 have c:i<l.length:=by rw[h.1];exact(ZT.1 hi).1
 have a:=ξ c;exact h.2 i _ b a hi S B σ v (k.2 i _ v a hv)⟩
def Ν.SZ{g:FuncId}{args args':μ}{K K' E:Ψ->Ρ->Prop}(h:Ν P g args σ K E)(f:ZJ args' args)(i:∀a s,K a s->∃b,Yw a b/\K' b s):Ν P g args' σ K' E:=
 ⟨h.1,λj mn x c rest S B H vs k l hv d=>h.2 j mn x c rest S B H vs k l (hv.Ml f) ⟨λa σ' e B' H' v m n o p r=>by
  obtain⟨b,t,u⟩:=i a σ' m;exact d.ret b σ' e B' H' v u n o p (t e B' σ' v r),d.KN⟩⟩
def Μ(P:Program)(g:FuncId)(args:μ)(r:Ψ):Prop:=Ν P g args [] (λa s=>Yw a r/\s=[]) (λ_ _=>False)
def Μ.ct{g:FuncId}{args args':μ}{r:Ψ}(h:Μ P g args r)(b:ZJ args' args):Nw P g args' r:=Ν.SZ h b λa s ⟨c,d⟩=>⟨r,c,rfl,d⟩
def Μ.c{g:FuncId}{args args':μ}{r:Ψ}{K E:Ψ->Ρ->Prop}(h:Μ P g args r)(b:ZJ args' args)(d:∀a∈args',ω 0 a)(e:ω 0 r)(f:K r σ):Yi P (.fn (.func g) [] []) args' σ K E:=
 Nw.call (first:=[]) (captured:=[]) (by simpa using h.ct b) (by simpa using d) e f
def Μ.p{g:FuncId}{args args':μ}{r:Ψ}(h:Μ P g args r)(b:ZJ args' args)(d:∀a∈args',ω 0 a)(e:ω 0 r):WG P (.fn (.func g) [] []) args' r:=λ_=>h.c b d e ⟨rfl,rfl⟩
def Μ.d{g:FuncId}{args:μ}{r:Ψ}{K E:Ψ->Ρ->Prop}(h:Μ P g args r)(b:K r σ)(e:∀a∈args,ω 0 a:=by simp)(f:ω 0 r:=by simp):Yi P (.fn (.func g) [] []) args σ K E:=h.c (ZJ.refl _) e f b
def Μ.q{g:FuncId}{args:μ}{r:Ψ}(h:Μ P g args r)(b:∀a∈args,ω 0 a:=by simp)(c:ω 0 r:=by simp):WG P (.fn (.func g) [] []) args r:=h.p (ZJ.refl _) b c
def Μ.cc{g:FuncId}{args args' first captured:μ}{r:Ψ}{K E:Ψ->Ρ->Prop}(h:Μ P g args r)(b:ZJ (first++args'++captured) args)(c:∀a∈first++args'++captured,ω 0 a)(d:ω 0 r)(e:K r σ):Yi P (.fn (.func g) first captured) args' σ K E:=
 Nw.call (h.ct b) c d e
end
def Yx.own{h id n k:Nat}{σ:Ρ}{t:TypeId}{l:μ}(i:h<=id)(m:σ[id]?=some (.cells t k l))(d:l.length=n)(o:∀e∈l,∀a∈e.cells,ω h a):Yx h σ (.ms id n 0 n) (.sl false k l):=by
 refine .ms i m d J d (λj e p b c=>?_) (λj e p b c x a a' f g=>?_)
 .rw[Vu]at b;rw[b]at c;cases c;rfl
 rw[Vu]at b;rw[b]at c;cases c;rw[f]at g;cases g;exact .low (o e (ZD b) a (ZD f))
def P1(P:Program)(f:FuncId)(e:ZP->Sem Value):Prop:=∃fn,P.funcs[f]?=some fn/\(fn.name == "runtime.NumGoroutine")=false/\fn.body.isNone=true/\Extern.findNext fn=none/\Extern.find fn=some e
section
variable{P:Program}{σ:Ρ}{E:Ψ->Ρ->Prop}{K:Ψ->Ρ->Prop}
def Yi.ext{g:FuncId}{e:ZP->Sem Value}{args:μ}(b:P1 P g e)
  (h:∀(S:ζ)(B:ZZ)(H:Φ)(vs:ZP),Holds S B σ H->XF S B σ args vs->Ω P (e vs) H (Xu S B H σ K) (λ_ _=>False)):Yi P (.fn (.func g) [] []) args σ K E:=by
 intro C mn x c rest S B H D vs F d f hv i;obtain⟨fn,j,k,l,m,n⟩:=b;cases f with
 | fn o p r Υ _ _=>
  obtain rfl:o=#[]:=OI (by rw[<-r];rfl);obtain rfl:p=#[]:=OI (by rw[<-Υ];rfl);refine Ω.bind' (Ω.pure' ?_);unfold invoke;simp only;unfold callFunc;refine Ω.bind' ?_;show Ω P (match P.funcs[g]? with|none=>_|some fn=>_) H _ _;rw[j];simp only[k,l,Vg,if_false,if_true,m];refine Ω.bind' ⟨.inr ⟨g,U⟩,Ω.pure' ?_⟩;rw[n];simp only[Array.empty_append,NP];exact Ω.bind' (Ω.mono (λv H' ⟨s,B',σ',a,t,u,w,y,A⟩=>Ω.pure' (i.ret a σ' s B' H' v t u y w A)) (λ_ _ h=>h) _ (h S B H vs d hv))
end
section
variable{P:Program}{m nt:Nat}{k:Zk}{env:κ}{σ:Ρ}{Z:Xv}{E:XM}
def W.sY{id n kk:Nat}{K:TypeId}{l:μ}(bd:m<=id)(u:σ[id]?=some (.cells K kk l))(be:l.length=n)(env':κ)(aI:∀p∈env',ε env p.1=p.2\/(ε env p.1=.ms id n 0 0/\p.2=.ms σ.length 0 0 0))
  (aw:W P m nt k env' (σ.set id .dead++[.cells K kk []]) Z E):W P m nt k env σ Z E:=
 λaJ mn x cs b S B H t aK aL Q aM aN=>by
 have d:=Q.holds
 have ab:id<σ.length:=(ZT.1 u).1
 have aO:id<B.length:=by rw[d.len];exact ab
 obtain⟨bo,R⟩:∃bo,B[id]?=some bo:=⟨_,ξ aO⟩;obtain⟨σ',w⟩:=ν (σ.set id .dead++[.cells K kk []]);have bf:(σ.set id Row.dead).length=σ.length:=o;have ax:σ'[id]?=some .dead:=by rw[w,YT (by simpa using ab),Xz ab]
 have ay:σ'[σ.length]?=some (.cells K kk []):=by rw[w,W5 o];simp
 have ad:∀j,j≠id->j<σ.length->σ'[j]?=σ[j]?:=λj a c=>by rw[w,YT (by simpa using c),XJ (YX a)]
 have az:∀j r,σ'[j]?=some r->(j=id/\r=.dead)\/(j=σ.length/\r=.cells K kk [])\/(j≠id/\j<σ.length/\σ[j]?=some r):=λj r a=>by
  have aA:j<σ'.length:=(ZT.1 a).1;rw[w]at aA;simp at aA;by_cases f:j=id
  .subst f;rw[ax]at a;exact .inl ⟨U,(Xq a).symm⟩
  by_cases Υ:j=σ.length
  .subst Υ;rw[ay]at a;exact .inr (.inl ⟨U,(Xq a).symm⟩)
  have c:j<σ.length:=J
  rw[ad j f c]at a;exact .inr (.inr ⟨f,c,a⟩)
 have T:∀j,j<B.length->(B++[bo])[j]?=B[j]?:=λj a=>YT a
 have ae:(B++[bo])[σ.length]?=some bo:=by rw[<-d.len,W5 (Z3 _)];simp
 have af:ZC S S B (B++[bo]) σ σ':=⟨λ_ _ _ h=>h,λj r a=>by
  by_cases e:j=id
  .subst e;rw[u]at a;cases a;exact⟨_,ax,.inr λ_ _=>trivial⟩
  have c:j<σ.length:=(ZT.1 a).1;refine⟨r,by rw[ad j e c];exact a,?_⟩;rw[T j (by rw[d.len];exact c)];exact r.Sv _⟩
 have ag:∀j r g N,σ'[j]?=some r->r.live->(B++[bo])[j]?=some (some (g,N))->∃s F,σ[s]?=some F/\F.live/\B[s]?=some (some (g,N))/\(j≠σ.length->s=j)/\(j=σ.length->s=id)/\(j≠σ.length->j≠id):=λj r g N a c I=>by
  rcases az j r a with⟨rfl,rfl⟩|⟨rfl,rfl⟩|⟨f,Υ,V⟩
  .exact c.elim
  .rw[ae]at I;exact⟨id,_,u,trivial,by rw[R];exact I,λh=>absurd U h,λ_=>rfl,λh=>absurd U h⟩
  rw[T j (by rw[d.len];exact Υ)]at I;exact⟨j,r,V,c,I,λ_=>rfl,λh=>J,λ_=>f⟩
 have aP:Holds S (B++[bo]) σ' H:=by
  refine⟨d.Za,by rw[w];simp[d.len],λj r aB a A=>?_,λi j aQ aR g aC aD aS hi a aT aU aV A=>?_,λj r g N a c I aW=>?_⟩
  .rcases az j r a with⟨rfl,rfl⟩|⟨rfl,rfl⟩|⟨f,Υ,V⟩
   .trivial
   .rw[ae]at A;cases A;have C:=d.row id _ bo u R;cases bo with
    | none=>rfl
    | some y=>
     obtain⟨g,N⟩:=y;obtain⟨d1,d2,d3,_⟩:=C;exact⟨d1,o,d3,λ_ _=>.bool false,λi e hi=>by simp at hi⟩
   rw[T j (by rw[d.len];exact Υ)]at A;refine(d.row j r aB V A).later af (λ_ _ _=>⟨λ_=>rfl,U,U⟩) λX left bg aX=>?_;subst aX;obtain⟨_,_,_,_,_,_,_,_,bh,⟨es,ah⟩,_⟩:=d.row j _ aB V A;have aY:X≠id:=λe=>by subst e;rw[u]at ah;cases ah
   have aE:X<σ.length:=(ZT.1 ah).1;exact⟨ad X aY aE,T X (by rw[d.len];exact aE),λ_ _ _=>⟨λ_=>rfl,U,U⟩⟩
  .obtain⟨aZ,F,ai,L,aj,aF,a0,a1⟩:=ag i aQ g aC hi aT aV;obtain⟨s,a2,D,Y,aa,ak,aG,al⟩:=ag j aR g aD a aU A;refine d.inj aZ s F a2 g aC aD (λe=>aS ?_) ai D L Y aj aa;by_cases f:i=σ.length
   .by_cases Υ:j=σ.length
    .rw[f,Υ]
    exact absurd (by rw[<-ak Υ,<-e,a0 f]) (al Υ)
   by_cases Υ:j=σ.length
   .exact absurd (by rw[<-aF f,e,aG Υ]) (a1 f)
   rw[<-aF f,<-ak Υ,e]
  obtain⟨s,F,ai,L,aj,_⟩:=ag j r g N a c I;exact d.sep s F g N ai L aj aW
 have a3:Ext S B H S (B++[bo]) H:=⟨λ_ _ _ h=>h,λ_ _ _=>S7.of ⟨λ_=>rfl,U,U⟩,λg ⟨N,a4⟩=>by
  rcases VS.1 a4 with h|h
  .exact .inl ⟨N,h⟩
  simp at h;subst h;exact .inl ⟨N,ZD R⟩,λ_ _ _ h=>.inl h,λ_ h=>h⟩
 have a5:ZC S S (B.take m) (B++[bo]) (σ.take m) σ':=⟨λ_ _ _ h=>h,λj r a=>by
  rw[Q4]at a;split at a
  .rename_i a6;obtain⟨r',M,O⟩:=af.rows j r a;refine⟨r',M,?_⟩;rw[Q4,if_pos a6];exact O
  cases a⟩
 have aH:Xi m S B H σ S (B++[bo]) H σ':=⟨a3,a5⟩
 have a7:Y' S (B++[bo]) σ' env' t:=by
  have a8:∀(l:κ),(∀p∈l,ε env p.1=p.2\/(ε env p.1=.ms id n 0 0/\p.2=.ms σ.length 0 0 0))->Y' S (B++[bo]) σ' l t:=by
   intro l
   induction l with
   | nil=>intro _ i;exact .Zl _
   | cons p l a9=>
    intro c i;simp only[ε];split
    .rename_i e;subst e;have C:=Q.Zt p.1;rcases c p o with h|⟨h,a'⟩
     .rw[h]at C;exact C.later af
     rw[h]at C;rw[a'];generalize t.getD p.1 undef=v at C;cases C with
     | ms cap D Y aa ak aG al=>
      rw[u]at D;cases D;rw[R]at aa;cases aa;refine .ms cap ay U ae (Z3 _) (Γ _) ?_;simpa using al
     | VP v D Y=>rw[u]at D;cases D;simp only[Row.W3]at Y;omega
    exact a9 (λq ba=>c q (by simp[ba])) i
  exact a8 env' aI
 rw[<-w]at aw;exact aw aJ mn x cs b S (B++[bo]) H t aK aL ⟨aP,a7,Q.size,by have:=Q.rows;rw[w];simp;omega⟩
  (λj am an ao ap aq t2 ar M O au av=>aM j am an ao ap aq t2 ar M (aH.trans O) au av)
  (λL am an ao ap aq t2 ar bb M O au av bc=>aN L am an ao ap aq t2 ar bb M (aH.trans O) au av bc)
end
end Go.TL
namespace Go.TL
open Go.Proofs
variable[Z8]
def Eb(P:Program)(t:TypeId):Option (List (TypeDesc×Nat)):=
 if P.eqGuardType P.depth t=false then match P.underlying t with
  | some (.struct a)=>if P.stoodInHeld t=false/\a.toList.map (·.offset)=List.range a.toList.length/\(a.toList.all λf=>f.name != "_" && match P.underlying f.type with|some d=>T2 d|none=>false)=true then some (a.toList.map λf=>((P.underlying f.type).getD .invalid,f.offset)) else none
  | some (.array n e)=>match P.underlying e,P.info? e with
   | some d,some f=>if T2 d=true/\f.size=1 then some ((List.range n).map λi=>(d,i)) else none
   | _,_=>none
  | _=>none
 else none
def sX(P t):EI P t (Eb P t):=by
 unfold Eb;split
 .rename_i g;split
  .rename_i h b;split
   .rename_i a;refine⟨g,by rw[Li,WS];exact a.2.1,.inl ⟨h,b,a.1,U,λf c=>?_⟩⟩;have:=Xk.1 a.2.2 f c;simp[bne_iff_ne]at this;refine⟨this.1,?_⟩;cases hd:P.underlying f.type with
    | none=>rw[hd]at this;simp at this
    | some d=>rw[hd]at this;exact⟨d,rfl,this.2⟩
   trivial
  .rename_i n e b;split
   .rename_i d f hd c;split
    .rename_i a;exact⟨g,by rw[Li,WS,H9];exact(Ih λ_ _=>rfl).trans (List.map_id _),.inr ⟨n,e,d,f,b,hd,a.1,c,a.2,U⟩⟩
    trivial
   trivial
  trivial
 trivial
def ZY.of(P:Program):ZY:=λt=>match P.underlying t,P.info? t with
 | some d,some i=>match i.zero with|some z=>some ⟨i.size,d,z,i.bytes,Eb P t⟩|none=>none
 | _,_=>none
def ZY.Gw(P):ZH P (ZY.of P):=λt i h=>by
 unfold ZY.of at h;split at h
 .rename_i d f hd a;split at h
  .rename_i z b;cases h;exact⟨⟨hd,sX P t⟩,f,a,U,b,U⟩
  cases h
 cases h
noncomputable def υ:ZY:=ZY.of Tryz.prog
def Τ:ZH Tryz.prog υ:=ZY.Gw _
def Ru(b:List (Nat×Nat))(a:Value)(c:Ψ->Bool)(parts:List (Nat×Ψ)):Y4:=
 match Pj (λx=>(b[x]?).map λp=>(0,p.1,p.2)) (V3 a).cells.length c [V3 a] parts with
 | some [e]=>.ok (.Z' e.cells)
 | _=>.bad
def Gv(es:Nat)(a:Value)(b:Ψ->Bool)(parts:List (Nat×Ψ)):Y4:=
 match Pj (λx=>some (0,x*es,es)) (V3 a).cells.length b [V3 a] parts with
 | some [e]=>.ok (.Z' e.cells)
 | _=>.bad
def mixed:Tryz.prog.follows .mixedOrders=true:=by kernel_rfl
section
variable{P:Program}{m nt:Nat}{k:Zk}{env:κ}{σ:Ρ}{Z:Xv}{E:XM}
def W.iter{ι:Type}{c}(Inv:ι->Prop)(b:ι->κ)(e:ι->Ρ)(f:ι->Nat)(d)(g:Inv d)(j:σ=e d)(l:∀p∈b d,ε env p.1=p.2)
  (step:∀i,Inv i->(∀a,Inv a->f a<f i->W P m nt (.inLoop c::k) (b a) (e a) Z E)->W P m nt (.code c::.inLoop c::k) (b i) (e i) Z E):W P m nt (.code (.loop c)::k) env σ Z E:=by
 refine .loop (.forget (b d) l ?_);rw[j];have o:∀(n)(i),f i<n->Inv i->W P m nt (.code c::.inLoop c::k) (b i) (e i) Z E:=by
  intro n
  induction n with
  | zero=>intro i h;omega
  | succ n r=>intro i hi s;exact step i s λa t u=>.inLoop (r a J t)
 exact o _ d (Qf _) g
end
section
variable{P:Program}{m nt:Nat}{k:Zk}{env:κ}{σ:Ρ}{Z:Xv}{E:XM}
def W.YD{c a e v}(b:π env c=.z (.bool v))(d:v=true->W P m nt (.code a::k) env σ Z E)(f:v=false->W P m nt (.code e::k) env σ Z E):W P m nt (.code (.cond c a e)::k) env σ Z E:=by
 refine .cond b ?_;cases v with
 | true=>exact d rfl
 | false=>exact f rfl
def Β{c a e}(b:π env c=.z (.bool true))(h:W P m nt (.code a::k) env σ Z E):W P m nt (.code (.cond c a e)::k) env σ Z E:=.cond b h
def Δ{c a e}(b:π env c=.z (.bool false))(h:W P m nt (.code e::k) env σ Z E):W P m nt (.code (.cond c a e)::k) env σ Z E:=.cond b h
def Ν.body{F T}(b:ZH P T){g fn bd}(c:P.funcs[g]?=some fn)(d:fn.body=some bd)(e:(fn.name == "runtime.NumGoroutine")=false){args K rs}(f:fn.ntmps=nt)(i:σ.length=m)(j:fn.results.toList=rs)(k:args.length<=nt)
  (h:W P m nt [.code bd] (entry 0 args) σ (Ends T rs K) (λa _ s=>F a s)):Ν P g args σ K F:=by
 subst f;subst i;subst j;exact .GN b c d e k h
end
abbrev I(i:Int):Ψ:=.z (.int .i64 i)
abbrev ZU(b:Bool):Ψ:=.z (.bool b)
abbrev δ{a:Type}(enc:a->Ψ)(k:Nat)(l:List a):Ψ:=.sl false k (l.map enc)
abbrev ZQ(b:ByteArray):Ψ:=.z (.string b)
@[simp] theorem jF(x y:Int):(x==y)=decide (x=y):=by rw[Pv];simp
@[simp] theorem jE(a b:Nat):(a=(b:Int))↔a=b:=J
attribute [simp] tw tv GM tu tt TY ts Su
attribute [congr] tG tD tC or_congr tm tl
attribute [simp] idx AX tH tF tE QL AV tk s4 s3 tj ti th tg tf Md WH W0 Y4.or Y4.YA Y1.holds XE WA Zr ε π V3 JL entry TZ Oq KO Ha Ox K5 KT KX Hv KW Ht Hu Ru Pj Ψ.NG Ψ.Y8 Ψ.Ph Gv P6 T1.agg HC RB HB RA Hz Rz
 Hk Mn Hl Mo TE HE HD Hj Hy NH Ou Hn QO Ov JJ JI Hs Nz G6 NB ND NC KQ JB JC KR G9 G7 G8 Ry G4 G5 Mk aeqv Ul QN Pf V2 Pg UC Ew Hg Ot Hf G3 He G2 Hd Pe Jz G1 Mi KP GZ Mh GX GW Mg GU GR Jy Jx NA P5 GQ Pd Hb Hc KV Hq Hr Ow Ψ.cells P3 Nx Ej Ends Ny Jv
@[simp] theorem jD{k:IntKind}:VN (.int k)=false:=rfl
@[simp] theorem jC:VN .bool=false:=rfl
@[simp] theorem jB:VN .string=false:=rfl
@[simp] theorem jA{e:TypeId}:VN (.slice e)=false:=rfl
@[simp] theorem jz{a b:TypeId}:VN (.map a b)=false:=rfl
@[simp] theorem jy{a:TypeId}:VN (.pointer a)=false:=rfl
@[simp] theorem jx{n:Nat}{a:TypeId}:VN (.array n a)=true:=rfl
def sW{P:Nat->Prop}(n)(h:n<256)(a:∀m,m<256->P m):P n:=a n h
section
variable{m nt l:Nat}{a c:Code}{k:Zk}{env:κ}{σ:Ρ}{Z:Xv}{E:XM}
class KI[Z8](k:Zk)(a:outParam (Zk)):Prop where
 h:∀{P}{m nt}{env}{σ}{Z}{E},W P m nt a env σ Z E->W P m nt k env σ Z E
instance:KI (.code (.seq a c)::k) (.code a::.code c::k):=⟨.seq⟩
instance:KI (.code (.block l c)::k) (.code c::.inBlock l::k):=⟨.block⟩
instance:KI (.inBlock l::k) k:=⟨.inBlock⟩
instance:KI (.code .skip::k) k:=⟨.skip⟩
def Ζ{P a}[KI k a](h:W P m nt a env σ Z E):W P m nt k env σ Z E:=KI.h h
def We{P}(h:W P m nt (.code a::.code c::k) env σ Z E):W P m nt (.code (.seq a c)::k) env σ Z E:=.seq h
def Wd{P}(h:W P m nt (.code c::.inBlock l::k) env σ Z E):W P m nt (.code (.block l c)::k) env σ Z E:=.block h
def Wc{P:Program}(h:W P m nt k env σ Z E):W P m nt (.inBlock l::k) env σ Z E:=.inBlock h
def wd{P}(h:W P m nt k env σ Z E):W P m nt (.code .skip::k) env σ Z E:=.skip h
def Yz{id ops}(h:∀a,(∀env σ,W Tryz.prog m nt k env σ Z E->a env σ)->run Tryz.prog υ [] nt ops (idx ops.size []) env σ a E):W Tryz.prog m nt (.code (.region id ops false)::k) env σ Z E:=ZB Τ h
end
def W.rt{P T rs K m nt k env σ E a p}{s:Ρ}(h:p)(e:P3 T rs env σ=some a:=by exact rfl)(b:K a σ=(p/\s=s):=by exact rfl):W P m nt (.code .ret::k) env σ (Ends T rs K) E:=.ret ⟨a,e,b▸⟨h,U⟩⟩
def W.Nt{P T rs K m nt k env σ E a} {s : List Row}(e : P3 T rs env σ = some a := by exact rfl)(b : K a σ = (Yw a a /\ s = s) := by exact rfl) : W P m nt (.code .ret::k) env σ (Ends T rs K) E := W.rt (.refl _) e b
def W.Y0{P T rs K m nt k env σ E a} {b : Ψ}{s : List Row}(h : a = b)(e : P3 T rs env σ = some a := by exact rfl)(c : K a σ = (Yw a b /\ s = s) := by exact rfl) : W P m nt (.code .ret::k) env σ (Ends T rs K) E := W.rt (.of h) e c
end Go.TL
namespace Go.TL
open Go.Proofs
def Ξ{a b}(x:a)(y:b):a/\b:=⟨x,y⟩
def ZA{p q:Prop}(k:q)(h:q->p:=by intro k;(repeat (first|apply Ζ|apply We|apply Wd|apply Wc|apply wd));exact k):p:=h k
def Χ{p q:Prop}(k:q)(h:q->p:=by intro k;(repeat (first|apply Ζ|apply We|apply Wd|apply Wc|apply wd|(refine Yz λb a=>?_;simp;(repeat (rw[Ι];simp));apply a)));exact k):p:=h k
def γ{p f:Prop}{q:f->Prop}(a)(k:q a)(h:∀a,q a->p:=by intro b k;(repeat (first|apply Ζ|apply We|apply Wd|apply Wc|apply wd|(refine Yz λd c=>?_;simp;(repeat (rw[Ι];simp[b]));apply c)));exact k):p:=h a k
def V1{p q:Prop}(k:q)(h:q->p:=by intro k;(repeat (first|apply Ζ|apply We|apply Wd|apply Wc|apply wd|refine Β rfl ?_|refine Δ rfl ?_|(refine Yz λb a=>?_;simp;(repeat (rw[Ι];simp));apply a)));exact k):p:=h k
def V0{p f:Prop}{q:f->Prop}(a)(k:q a)(h:∀a,q a->p:=by intro b k;(repeat (first|apply Ζ|apply We|apply Wd|apply Wc|apply wd|refine Β rfl ?_|refine Δ rfl ?_|(refine Yz λd c=>?_;simp;(repeat (rw[Ι];simp[b]));apply c)));exact k):p:=h a k
def L7{p q:Prop}(k:q)(h:q->p:=by intro k;refine Yz λb a=>?_;simp;(repeat (rw[Ι];simp));apply a;exact k):p:=h k
def Ns{p f:Prop}{q:f->Prop}(a)(k:q a)(h:∀a,q a->p:=by intro b k;refine Yz λd c=>?_;simp;(repeat (rw[Ι];simp[b]));apply c;exact k):p:=h a k
def ο{p:Prop}{H:(κ->Ρ->Prop)->Prop}{q:∀K,H K->Prop}(k:∀K h,q K h)(h:(∀K h,q K h)->p:=by intro k;(repeat (first|apply Ζ|apply We|apply Wd|apply Wc|apply wd));refine Yz λa b=>?_;simp;(repeat (rw[Ι];simp));exact k a b):p:=h k
def YC{p f:Prop}{H:(κ->Ρ->Prop)->Prop}{q:f->∀K,H K->Prop}(a)(k:∀K h,q a K h)(h:∀a,(∀K h,q a K h)->p:=by intro b k;(repeat (first|apply Ζ|apply We|apply Wd|apply Wc|apply wd));refine Yz λc d=>?_;simp;(repeat (rw[Ι];simp[b]));exact k c d):p:=h a k
def ς{p q:Prop}(k:q)(h:q->p:=by intro k;simp;(repeat (rw[Ι];simp));exact k):p:=h k
def Wb{p f:Prop}{q:f->Prop}(a)(k:q a)(h:∀a,q a->p:=by intro b k;simp[b];(repeat (rw[Ι];simp[b]));exact k):p:=h a k
def Rt{p q:Prop}(k:q)(h:q->p:=by intro k;simp;(repeat (rw[Y3];simp));(try rw[YL]);exact k):p:=h k
def SY{p f:Prop}{q:f->Prop}(a)(k:q a)(h:∀a,q a->p:=by intro b k;simp[b];(repeat (rw[Y3];simp[b]));(try rw[YL]);exact k):p:=h a k
def X5{a b}(k:b)(h:a:=by exact UW XL):a/\b:=⟨h,k⟩
def Jo{p q:Prop}(k:q)(h:q->p:=by intro k;refine W.draw (A:=[]) Τ mixed λb a=>?_;simp;(repeat (rw[Y3];simp));(try rw[YL]);refine X5 (a _ _ ?_);exact k):p:=h k
def VB{p f:Prop}{q:f->Prop}(a)(k:q a)(h:∀a,q a->p:=by intro b k;refine W.draw (A:=[]) Τ mixed λd c=>?_;simp;(repeat (rw[Y3];simp[b]));(try rw[YL]);refine X5 (c _ _ ?_);exact k):p:=h a k
@[simp] theorem t2:υ 2=some ⟨1,.int .i64,.int .i64 0,8,none⟩:=by kernel_rfl
@[simp] theorem t3:υ 3=some ⟨1,.int .i64,.int .i64 0,8,none⟩:=by kernel_rfl
@[simp] theorem t4:υ 4=some ⟨1,.bool,.bool false,1,none⟩:=by kernel_rfl
@[simp] theorem t5:υ 5=some ⟨1,.int .u8,.int .u8 0,1,none⟩:=by kernel_rfl
@[simp] theorem t9:υ 9=some ⟨1,.string,.string ⟨#[]⟩,16,none⟩:=by kernel_rfl
@[simp] theorem t21:υ 21=some ⟨1,.int .i32,.int .i32 0,4,none⟩:=by kernel_rfl
@[simp] theorem t22:υ 22=some ⟨1,.slice 3,.slice none 0 0,24,none⟩:=by kernel_rfl
@[simp] theorem jw:WR υ 22=some (3,1,none):=by kernel_rfl
@[simp] theorem t23:υ 23=some ⟨1,.slice 26,.slice none 0 0,24,none⟩:=by kernel_rfl
@[simp] theorem jv:WR υ 23=some (26,1,none):=by kernel_rfl
noncomputable def AH:TypeDesc:=((υ 25).getD ⟨0,.bool,.nilFunc,0,none⟩).Z1
@[simp] theorem t25:υ 25=some ⟨1,AH,.agg #[.slice none 0 0],24,none⟩:=by kernel_rfl
@[simp] theorem ju:VN AH=true:=by kernel_rfl
@[simp] theorem js:Yp υ 25 0=some (0,23):=by kernel_rfl
@[simp] theorem jr(a:Ψ->Bool)(b:List (Nat×Ψ)):Um υ a 25 b=Ru [(0,1)] (.agg #[.slice none 0 0]) a b:=by kernel_rfl
@[simp] theorem t26:υ 26=some ⟨1,.slice 9,.slice none 0 0,24,none⟩:=by kernel_rfl
@[simp] theorem jq:WR υ 26=some (9,1,none):=by kernel_rfl
@[simp] theorem t27:υ 27=some ⟨1,.slice 52,.slice none 0 0,24,none⟩:=by kernel_rfl
@[simp] theorem jo:WR υ 27=some (52,3,none):=by kernel_rfl
noncomputable def AG:TypeDesc:=((υ 29).getD ⟨0,.bool,.nilFunc,0,none⟩).Z1
@[simp] theorem t29:υ 29=some ⟨2,AG,.agg #[.int .i64 0,.int .i64 0],16,some [(.int .i64,0),(.int .i64,1)]⟩:=by kernel_rfl
@[simp] theorem jm:VN AG=true:=by kernel_rfl
@[simp] theorem jl:Yp υ 29 0=some (0,3):=by kernel_rfl
@[simp] theorem jk:Yp υ 29 1=some (1,3):=by kernel_rfl
@[simp] theorem jj(a:Ψ->Bool)(b:List (Nat×Ψ)):Um υ a 29 b=Ru [(0,1),(1,1)] (.agg #[.int .i64 0,.int .i64 0]) a b:=by kernel_rfl
@[simp] theorem t30:υ 30=some ⟨1,.slice 92,.slice none 0 0,24,none⟩:=by kernel_rfl
@[simp] theorem ji:WR υ 30=some (92,2,none):=by kernel_rfl
@[simp] theorem t31:υ 31=some ⟨1,.slice 22,.slice none 0 0,24,none⟩:=by kernel_rfl
@[simp] theorem jh:WR υ 31=some (22,1,none):=by kernel_rfl
@[simp] theorem t32:υ 32=some ⟨1,.slice 103,.slice none 0 0,24,none⟩:=by kernel_rfl
@[simp] theorem AF:WR υ 32=some (103,1,none):=by kernel_rfl
noncomputable def AE:TypeDesc:=((υ 34).getD ⟨0,.bool,.nilFunc,0,none⟩).Z1
@[simp] theorem t34:υ 34=some ⟨3,AE,.agg #[.slice none 0 0,.slice none 0 0,.slice none 0 0],72,none⟩:=by kernel_rfl
@[simp] theorem jg:VN AE=true:=by kernel_rfl
@[simp] theorem jf:Yp υ 34 0=some (0,30):=by kernel_rfl
@[simp] theorem je:Yp υ 34 1=some (1,31):=by kernel_rfl
@[simp] theorem jd:Yp υ 34 2=some (2,32):=by kernel_rfl
@[simp] theorem jc(a:Ψ->Bool)(b:List (Nat×Ψ)):Um υ a 34 b=Ru [(0,1),(1,1),(2,1)] (.agg #[.slice none 0 0,.slice none 0 0,.slice none 0 0]) a b:=by kernel_rfl
noncomputable def AD:TypeDesc:=((υ 36).getD ⟨0,.bool,.nilFunc,0,none⟩).Z1
@[simp] theorem t36:υ 36=some ⟨13,AD,.agg #[.slice none 0 0,.string ⟨#[]⟩,.string ⟨#[]⟩,.slice none 0 0,.slice none 0 0,.int .i64 0,.int .i64 0,.int .i64 0,.int .i64 0,.slice none 0 0,.slice none 0 0,.slice none 0 0,.bool false],216,none⟩:=by kernel_rfl
@[simp] theorem jb:VN AD=true:=by kernel_rfl
@[simp] theorem ja:Yp υ 36 0=some (0,25):=by kernel_rfl
@[simp] theorem i':Yp υ 36 1=some (1,9):=by kernel_rfl
@[simp] theorem iZ:Yp υ 36 2=some (2,9):=by kernel_rfl
@[simp] theorem iY:Yp υ 36 3=some (3,26):=by kernel_rfl
@[simp] theorem iX:Yp υ 36 4=some (4,27):=by kernel_rfl
@[simp] theorem iW:Yp υ 36 5=some (5,29):=by kernel_rfl
@[simp] theorem iV:Yp υ 36 6=some (7,29):=by kernel_rfl
@[simp] theorem iU:Yp υ 36 7=some (9,34):=by kernel_rfl
@[simp] theorem iT:Yp υ 36 8=some (12,4):=by kernel_rfl
@[simp] theorem iS(a:Ψ->Bool)(b:List (Nat×Ψ)):Um υ a 36 b=Ru [(0,1),(1,1),(2,1),(3,1),(4,1),(5,2),(7,2),(9,3),(12,1)] (.agg #[.slice none 0 0,.string ⟨#[]⟩,.string ⟨#[]⟩,.slice none 0 0,.slice none 0 0,.int .i64 0,.int .i64 0,.int .i64 0,.int .i64 0,.slice none 0 0,.slice none 0 0,.slice none 0 0,.bool false]) a b:=by kernel_rfl
@[simp] theorem t41:υ 41=some ⟨1,.int .i64,.int .i64 0,8,none⟩:=by kernel_rfl
noncomputable def AB:TypeDesc:=((υ 49).getD ⟨0,.bool,.nilFunc,0,none⟩).Z1
@[simp] theorem t49:υ 49=some ⟨1,AB,.nilFunc,8,none⟩:=by kernel_rfl
@[simp] theorem iR:VN AB=false:=by kernel_rfl
noncomputable def Ea:TypeDesc:=((υ 52).getD ⟨0,.bool,.nilFunc,0,none⟩).Z1
@[simp] theorem t52:υ 52=some ⟨3,Ea,.agg #[.string ⟨#[]⟩,.int .i64 0,.int .i64 0],32,none⟩:=by kernel_rfl
@[simp] theorem iQ:VN Ea=true:=by kernel_rfl
@[simp] theorem iP:Yp υ 52 0=some (0,9):=by kernel_rfl
@[simp] theorem iO:Yp υ 52 1=some (1,29):=by kernel_rfl
@[simp] theorem iN(a:Ψ->Bool)(b:List (Nat×Ψ)):Um υ a 52 b=Ru [(0,1),(1,2)] (.agg #[.string ⟨#[]⟩,.int .i64 0,.int .i64 0]) a b:=by kernel_rfl
@[simp] theorem t74:υ 74=some ⟨1,.int .u64,.int .u64 0,8,none⟩:=by kernel_rfl
@[simp] theorem iM:Yp υ 76 0=some (0,22):=by kernel_rfl
@[simp] theorem iL:Yp υ 76 1=some (1,74):=by kernel_rfl
@[simp] theorem iK(a:Ψ->Bool)(b:List (Nat×Ψ)):Um υ a 76 b=Ru [(0,1),(1,1)] (.agg #[.slice none 0 0,.int .u64 0]) a b:=by kernel_rfl
@[simp] theorem t78:υ 78=some ⟨1,.slice 23,.slice none 0 0,24,none⟩:=by kernel_rfl
@[simp] theorem iJ:WR υ 78=some (23,1,none):=by kernel_rfl
noncomputable def AA:TypeDesc:=((υ 80).getD ⟨0,.bool,.nilFunc,0,none⟩).Z1
@[simp] theorem t80:υ 80=some ⟨15,AA,.agg #[.slice none 0 0,.string ⟨#[]⟩,.string ⟨#[]⟩,.slice none 0 0,.slice none 0 0,.int .i64 0,.int .i64 0,.int .i64 0,.int .i64 0,.slice none 0 0,.slice none 0 0,.slice none 0 0,.bool false,.slice none 0 0,.slice none 0 0],264,none⟩:=by kernel_rfl
@[simp] theorem iI:VN AA=true:=by kernel_rfl
@[simp] theorem iH:Yp υ 80 0=some (0,36):=by kernel_rfl
@[simp] theorem iG:Yp υ 80 1=some (13,78):=by kernel_rfl
@[simp] theorem iF:Yp υ 80 2=some (14,31):=by kernel_rfl
@[simp] theorem iE(a:Ψ->Bool)(b:List (Nat×Ψ)):Um υ a 80 b=Ru [(0,13),(13,1),(14,1)] (.agg #[.slice none 0 0,.string ⟨#[]⟩,.string ⟨#[]⟩,.slice none 0 0,.slice none 0 0,.int .i64 0,.int .i64 0,.int .i64 0,.int .i64 0,.slice none 0 0,.slice none 0 0,.slice none 0 0,.bool false,.slice none 0 0,.slice none 0 0]) a b:=by kernel_rfl
noncomputable def D':TypeDesc:=((υ 92).getD ⟨0,.bool,.nilFunc,0,none⟩).Z1
@[simp] theorem t92:υ 92=some ⟨2,D',.agg #[.string ⟨#[]⟩,.int .i64 0],24,some [(.string,0),(.int .i64,1)]⟩:=by kernel_rfl
@[simp] theorem iD:VN D'=true:=by kernel_rfl
@[simp] theorem iC:Yp υ 92 0=some (0,9):=by kernel_rfl
@[simp] theorem iB:Yp υ 92 1=some (1,3):=by kernel_rfl
@[simp] theorem iA(a:Ψ->Bool)(b:List (Nat×Ψ)):Um υ a 92 b=Ru [(0,1),(1,1)] (.agg #[.string ⟨#[]⟩,.int .i64 0]) a b:=by kernel_rfl
noncomputable def Az:TypeDesc:=((υ 94).getD ⟨0,.bool,.nilFunc,0,none⟩).Z1
@[simp] theorem t94:υ 94=some ⟨1,Az,.nilFunc,8,none⟩:=by kernel_rfl
@[simp] theorem iz:VN Az=false:=by kernel_rfl
@[simp] theorem t97:υ 97=some ⟨1,.slice 94,.slice none 0 0,24,none⟩:=by kernel_rfl
@[simp] theorem iy:WR υ 97=some (94,1,none):=by kernel_rfl
noncomputable def D9:TypeDesc:=((υ 102).getD ⟨0,.bool,.nilFunc,0,none⟩).Z1
@[simp] theorem t102:υ 102=some ⟨3,D9,.agg #[.int .i64 0,.int .i64 0,.int .i64 0],24,some [(.int .i64,0),(.int .i64,1),(.int .i64,2)]⟩:=by kernel_rfl
@[simp] theorem ix:VN D9=true:=by kernel_rfl
@[simp] theorem iw:Yp υ 102 0=some (0,3):=by kernel_rfl
@[simp] theorem iv:Yp υ 102 1=some (1,3):=by kernel_rfl
@[simp] theorem iu:Yp υ 102 2=some (2,3):=by kernel_rfl
@[simp] theorem ir(a:Ψ->Bool)(b:List (Nat×Ψ)):Um υ a 102 b=Ru [(0,1),(1,1),(2,1)] (.agg #[.int .i64 0,.int .i64 0,.int .i64 0]) a b:=by kernel_rfl
@[simp] theorem t103:υ 103=some ⟨1,.slice 102,.slice none 0 0,24,none⟩:=by kernel_rfl
@[simp] theorem iq:WR υ 103=some (102,3,none):=by kernel_rfl
@[simp] theorem t109:υ 109=some ⟨1,.slice 114,.slice none 0 0,24,none⟩:=by kernel_rfl
@[simp] theorem im:WR υ 109=some (114,18,none):=by kernel_rfl
@[simp] theorem t112:υ 112=some ⟨1,.slice 21,.slice none 0 0,24,none⟩:=by kernel_rfl
@[simp] theorem il:WR υ 112=some (21,1,none):=by kernel_rfl
@[simp] theorem t114:υ 114=some ⟨18,.array 18 21,.agg #[.int .i32 0,.int .i32 0,.int .i32 0,.int .i32 0,.int .i32 0,.int .i32 0,.int .i32 0,.int .i32 0,.int .i32 0,.int .i32 0,.int .i32 0,.int .i32 0,.int .i32 0,.int .i32 0,.int .i32 0,.int .i32 0,.int .i32 0,.int .i32 0],72,some [(.int .i32,0),(.int .i32,1),(.int .i32,2),(.int .i32,3),(.int .i32,4),(.int .i32,5),(.int .i32,6),(.int .i32,7),(.int .i32,8),(.int .i32,9),(.int .i32,10),(.int .i32,11),(.int .i32,12),(.int .i32,13),(.int .i32,14),(.int .i32,15),(.int .i32,16),(.int .i32,17)]⟩:=by kernel_rfl
@[simp] theorem ik:WR υ 114=some (21,1,some 18):=by kernel_rfl
@[simp] theorem t127:υ 127=some ⟨1,.int .u64,.int .u64 0,8,none⟩:=by kernel_rfl
@[simp] theorem t129:υ 129=some ⟨1,.slice 149,.slice none 0 0,24,none⟩:=by kernel_rfl
@[simp] theorem ij:WR υ 129=some (149,4,none):=by kernel_rfl
@[simp] theorem t132:υ 132=some ⟨1,.int .u32,.int .u32 0,4,none⟩:=by kernel_rfl
@[simp] theorem ih:Yp υ 134 0=some (0,21):=by kernel_rfl
@[simp] theorem ig:Yp υ 134 1=some (1,132):=by kernel_rfl
@[simp] theorem ie:Yp υ 136 1=some (0,134):=by kernel_rfl
@[simp] theorem ic:Yp υ 140 2=some (0,74):=by kernel_rfl
@[simp] theorem ib:Yp υ 142 1=some (0,140):=by kernel_rfl
@[simp] theorem ia:Yp υ 142 2=some (1,132):=by kernel_rfl
@[simp] theorem h':Yp υ 145 1=some (0,132):=by kernel_rfl
@[simp] theorem h9:Yp υ 147 1=some (0,145):=by kernel_rfl
@[simp] theorem h8:Yp υ 147 2=some (1,136):=by kernel_rfl
noncomputable def sV:TypeDesc:=((υ 149).getD ⟨0,.bool,.nilFunc,0,none⟩).Z1
@[simp] theorem t149:υ 149=some ⟨4,sV,.agg #[.int .u32 0,.int .i32 0,.int .u32 0,.slice none 0 0],40,none⟩:=by kernel_rfl
@[simp] theorem h7:Yp υ 149 0=some (0,147):=by kernel_rfl
@[simp] theorem h6:Yp υ 149 1=some (3,22):=by kernel_rfl
@[simp] theorem t155:υ 155=some ⟨1,.slice 159,.slice none 0 0,24,none⟩:=by kernel_rfl
@[simp] theorem h5:WR υ 155=some (159,2,none):=by kernel_rfl
noncomputable def Ay:TypeDesc:=((υ 157).getD ⟨0,.bool,.nilFunc,0,none⟩).Z1
@[simp] theorem t157:υ 157=some ⟨1,Ay,.nilFunc,8,none⟩:=by kernel_rfl
@[simp] theorem h4:VN Ay=false:=by kernel_rfl
noncomputable def D8:TypeDesc:=((υ 159).getD ⟨0,.bool,.nilFunc,0,none⟩).Z1
@[simp] theorem t159:υ 159=some ⟨2,D8,.agg #[.int .i64 0,.nilFunc],16,none⟩:=by kernel_rfl
@[simp] theorem h3:VN D8=true:=by kernel_rfl
@[simp] theorem h2:Yp υ 159 0=some (0,3):=by kernel_rfl
@[simp] theorem h1:Yp υ 159 1=some (1,157):=by kernel_rfl
@[simp] theorem h0(a:Ψ->Bool)(b:List (Nat×Ψ)):Um υ a 159 b=Ru [(0,1),(1,1)] (.agg #[.int .i64 0,.nilFunc]) a b:=by kernel_rfl
@[simp] theorem t160:υ 160=some ⟨1,.map 21 3,.map none,8,none⟩:=by kernel_rfl
noncomputable def Ax:TypeDesc:=((υ 165).getD ⟨0,.bool,.nilFunc,0,none⟩).Z1
@[simp] theorem t165:υ 165=some ⟨3,Ax,.agg #[.slice none 0 0,.slice none 0 0,.slice none 0 0],72,none⟩:=by kernel_rfl
@[simp] theorem hZ:VN Ax=true:=by kernel_rfl
@[simp] theorem hY:Yp υ 165 0=some (0,34):=by kernel_rfl
@[simp] theorem hX(a:Ψ->Bool)(b:List (Nat×Ψ)):Um υ a 165 b=Ru [(0,3)] (.agg #[.slice none 0 0,.slice none 0 0,.slice none 0 0]) a b:=by kernel_rfl
@[simp] theorem t166:υ 166=some ⟨1,.slice 173,.slice none 0 0,24,none⟩:=by kernel_rfl
@[simp] theorem hV:WR υ 166=some (173,3,none):=by kernel_rfl
@[simp] theorem t170:υ 170=some ⟨2,.array 2 3,.agg #[.int .i64 0,.int .i64 0],16,some [(.int .i64,0),(.int .i64,1)]⟩:=by kernel_rfl
@[simp] theorem hU(a:Ψ->Bool)(b:List (Nat×Ψ)):Um υ a 170 b=Gv 1 (.agg #[.int .i64 0,.int .i64 0]) a b:=by kernel_rfl
@[simp] theorem t171:υ 171=some ⟨1,.slice 245,.slice none 0 0,24,none⟩:=by kernel_rfl
@[simp] theorem hT:WR υ 171=some (245,1,none):=by kernel_rfl
noncomputable def D7:TypeDesc:=((υ 173).getD ⟨0,.bool,.nilFunc,0,none⟩).Z1
@[simp] theorem t173:υ 173=some ⟨3,D7,.agg #[.int .i64 0,.int .i64 0,.slice none 0 0],40,none⟩:=by kernel_rfl
@[simp] theorem hS:VN D7=true:=by kernel_rfl
@[simp] theorem hR:Yp υ 173 0=some (0,170):=by kernel_rfl
@[simp] theorem hQ:Yp υ 173 1=some (2,171):=by kernel_rfl
@[simp] theorem hP(a:Ψ->Bool)(b:List (Nat×Ψ)):Um υ a 173 b=Ru [(0,2),(2,1)] (.agg #[.int .i64 0,.int .i64 0,.slice none 0 0]) a b:=by kernel_rfl
@[simp] theorem t174:υ 174=some ⟨1,.map 9 26,.map none,8,none⟩:=by kernel_rfl
@[simp] theorem t178:υ 178=some ⟨1,.pointer 181,.pointer none,8,none⟩:=by kernel_rfl
@[simp] theorem t179:υ 179=some ⟨1,.slice 5,.slice none 0 0,24,none⟩:=by kernel_rfl
@[simp] theorem hO:WR υ 179=some (5,1,none):=by kernel_rfl
noncomputable def sU:TypeDesc:=((υ 181).getD ⟨0,.bool,.nilFunc,0,none⟩).Z1
@[simp] theorem t181:υ 181=some ⟨2,sU,.agg #[.pointer none,.slice none 0 0],32,none⟩:=by kernel_rfl
@[simp] theorem hN:Yp υ 181 0=some (0,178):=by kernel_rfl
@[simp] theorem hM:Yp υ 181 1=some (1,179):=by kernel_rfl
@[simp] theorem t199:υ 199=some ⟨1,.unsafePointer,.pointer none,8,none⟩:=by kernel_rfl
noncomputable def Aw:TypeDesc:=((υ 218).getD ⟨0,.bool,.nilFunc,0,none⟩).Z1
@[simp] theorem t218:υ 218=some ⟨1,Aw,.nilFunc,8,none⟩:=by kernel_rfl
@[simp] theorem hL:VN Aw=false:=by kernel_rfl
@[simp] theorem t222:υ 222=some ⟨1,.pointer 5,.pointer none,8,none⟩:=by kernel_rfl
@[simp] theorem t224:υ 224=some ⟨1,.int .i64,.int .i64 0,8,none⟩:=by kernel_rfl
@[simp] theorem t245:υ 245=some ⟨1,.slice 246,.slice none 0 0,24,none⟩:=by kernel_rfl
@[simp] theorem hK:WR υ 245=some (246,2,none):=by kernel_rfl
@[simp] theorem t246:υ 246=some ⟨2,.array 2 3,.agg #[.int .i64 0,.int .i64 0],16,some [(.int .i64,0),(.int .i64,1)]⟩:=by kernel_rfl
@[simp] theorem hJ:WR υ 246=some (3,1,some 2):=by kernel_rfl
@[simp] theorem hI(a:Ψ->Bool)(b:List (Nat×Ψ)):Um υ a 246 b=Gv 1 (.agg #[.int .i64 0,.int .i64 0]) a b:=by kernel_rfl
@[simp] theorem t259:υ 259=some ⟨3,.array 3 218,.agg #[.nilFunc,.nilFunc,.nilFunc],24,none⟩:=by kernel_rfl
@[simp] theorem hH(a:Ψ->Bool)(b:List (Nat×Ψ)):Um υ a 259 b=Gv 1 (.agg #[.nilFunc,.nilFunc,.nilFunc]) a b:=by kernel_rfl
@[simp] theorem t286:υ 286=some ⟨1,.map 246 4,.map none,8,none⟩:=by kernel_rfl
@[simp] theorem t304:υ 304=some ⟨1,.int .i64,.int .i64 0,8,none⟩:=by kernel_rfl
@[simp] theorem hG:Vn υ 22 22=some (3,1,⟨1,.int .i64,.int .i64 0,8,none⟩):=by kernel_rfl
@[simp] theorem hF:Vn υ 23 23=some (26,1,⟨1,.slice 9,.slice none 0 0,24,none⟩):=by kernel_rfl
@[simp] theorem hE:Vn υ 26 26=some (9,1,⟨1,.string,.string ⟨#[]⟩,16,none⟩):=by kernel_rfl
@[simp] theorem hD:Vn υ 27 27=some (52,3,⟨3,Ea,.agg #[.string ⟨#[]⟩,.int .i64 0,.int .i64 0],32,none⟩):=by kernel_rfl
@[simp] theorem hB:Vn υ 30 30=some (92,2,⟨2,D',.agg #[.string ⟨#[]⟩,.int .i64 0],24,some [(.string,0),(.int .i64,1)]⟩):=by kernel_rfl
@[simp] theorem hA:Vn υ 31 31=some (22,1,⟨1,.slice 3,.slice none 0 0,24,none⟩):=by kernel_rfl
@[simp] theorem hz:Vn υ 32 32=some (103,1,⟨1,.slice 102,.slice none 0 0,24,none⟩):=by kernel_rfl
@[simp] theorem hy:Vn υ 78 78=some (23,1,⟨1,.slice 26,.slice none 0 0,24,none⟩):=by kernel_rfl
@[simp] theorem hx:Vn υ 103 103=some (102,3,⟨3,D9,.agg #[.int .i64 0,.int .i64 0,.int .i64 0],24,some [(.int .i64,0),(.int .i64,1),(.int .i64,2)]⟩):=by kernel_rfl
@[simp] theorem ht:Vn υ 109 109=some (114,18,⟨18,.array 18 21,.agg #[.int .i32 0,.int .i32 0,.int .i32 0,.int .i32 0,.int .i32 0,.int .i32 0,.int .i32 0,.int .i32 0,.int .i32 0,.int .i32 0,.int .i32 0,.int .i32 0,.int .i32 0,.int .i32 0,.int .i32 0,.int .i32 0,.int .i32 0,.int .i32 0],72,some [(.int .i32,0),(.int .i32,1),(.int .i32,2),(.int .i32,3),(.int .i32,4),(.int .i32,5),(.int .i32,6),(.int .i32,7),(.int .i32,8),(.int .i32,9),(.int .i32,10),(.int .i32,11),(.int .i32,12),(.int .i32,13),(.int .i32,14),(.int .i32,15),(.int .i32,16),(.int .i32,17)]⟩):=by kernel_rfl
@[simp] theorem hs:Vn υ 112 112=some (21,1,⟨1,.int .i32,.int .i32 0,4,none⟩):=by kernel_rfl
@[simp] theorem hr:Vn υ 155 155=some (159,2,⟨2,D8,.agg #[.int .i64 0,.nilFunc],16,none⟩):=by kernel_rfl
@[simp] theorem hq:Vn υ 166 166=some (173,3,⟨3,D7,.agg #[.int .i64 0,.int .i64 0,.slice none 0 0],40,none⟩):=by kernel_rfl
@[simp] theorem hp:Vn υ 171 171=some (245,1,⟨1,.slice 246,.slice none 0 0,24,none⟩):=by kernel_rfl
@[simp] theorem ho:Vn υ 245 245=some (246,2,⟨2,.array 2 3,.agg #[.int .i64 0,.int .i64 0],16,some [(.int .i64,0),(.int .i64,1)]⟩):=by kernel_rfl
end Go.TL
namespace Go.TL
open Go.Proofs
variable[Z8]
def D6:IntKind.i64.wrap 1=1:=θ
def D5:IntKind.i64.wrap 2=2:=θ
def YR{i n:Nat}(h:i<n)(a:n<2 ^ 62):IntKind.i64.wrap ((i:Int)+1)=((i+1:Nat):Int):=by
 rw[IntWalk.i64_in _ J];rfl
def Av(a b:ψ)(g:a.length<2 ^ 62):Μ Tryz.prog 24 [δ I 1 a,δ I 1 b] (ZU (a==b)):=by
 refine Ν.body Τ Tryz.func24 U U Tryz.ntmps24 U U o ?_;refine Χ ?_;refine W.iter (λp:Nat×Bool=>p.1<=a.length/\(p.2=true->a.length=b.length/\∀j,j<p.1->a[j]?=b[j]?)/\(p.2=false->a≠b)) (λp=>[(0,δ I 1 a),(1,δ I 1 b),(5,ZU p.2),(6,I p.1)]) (λ_=>[]) (λp=>a.length-p.1) (0,decide (a.length=b.length)) ⟨Γ _,o,by simp;exact λh e=>h (by rw[e])⟩ U o (λi hi k=>?_);rcases i with⟨i,_|_⟩
 .refine Χ ?_;refine Δ U ?_;refine W.exit U ?_;refine Χ ?_;refine W.Y0 ?_;simp[hi.2.2 U]
 refine Χ ?_;have l:=(hi.2.1 U).1;refine W.YD U (λc=>?_) (λc=>?_)
 .have c:i<a.length:=by simpa using c
  have f:i<b.length:=J;refine Χ ?_;refine VB (Ξ c f) ?_;refine Χ ?_;refine W.forget _ ?_ (k (i+1,decide (a[i]=b[i])) ⟨by simp;omega,λh=>⟨l,λj d=>?_⟩,λh e=>?_⟩ (by simp;omega))
  .simp[YR c g]
  .by_cases e:j=i
   .subst e;rw[ξ c,ξ f];simpa using h
   exact(hi.2.1 U).2 j (by simp at d;omega)
  subst e;simp at h
 have c:a.length<=i:=by simpa using c
 refine W.exit U ?_;refine Χ ?_;refine W.rt ?_;refine .of ?_;have:a=b:=T6 λj=>by
  by_cases d:j<i
  .exact(hi.2.1 U).2 j d
  rw[Wk J,Wk J]
 simp[this]
abbrev Yv(l:List (ψ)):Ψ:=δ (δ I 1) 1 l
def D4(l:ψ)(n:Int)(k:l.length<2 ^ 62):Μ Tryz.prog 206 [δ I 1 l,I n] (I (if n∈l then(l.idxOf n:Nat) else -1)):=by
 refine Ν.body Τ Tryz.func206 U U Tryz.ntmps206 U U o ?_;refine Χ ?_;refine W.iter (λi:Nat=>i<=l.length/\∀j,j<i->(h:j<l.length)->l[j]≠n) (λi=>[(0,δ I 1 l),(1,I n),(5,I i)]) (λ_=>[]) (λi=>l.length-i) 0 ⟨Γ _,λj d=>J⟩ U o (λi hi m=>?_)
 repeat apply Ζ
 by_cases a:i<l.length
 .refine γ a ?_;refine W.YD U (λf=>?_) (λf=>?_)
  .have b:l[i]≠n:=by simpa using f
   refine Χ ?_;refine W.forget _ ?_ (m (i+1) ⟨a,λj d h=>?_⟩ J)
   .simp[YR a k]
   by_cases e:j=i
   .subst e;exact b
   exact hi.2 j J h
  have b:l[i]=n:=by simpa using f
  refine W.exit U ?_;refine Χ ?_;have r:¬i=l.length:=J;refine Δ (by simp[r]) ?_;refine Χ ?_;refine W.rt ?_;have c:n∈l:=b▸YW _;refine .of ?_;rw[if_pos c];have:l.idxOf n=i:=by
   have g:l.idxOf n<l.length:=List.idxOf_lt_length_of_mem c
   have s:l[l.idxOf n]=n:=List.getElem_idxOf g
   have u:¬l.idxOf n<i:=λh=>hi.2 _ h g s
   have v:¬i<l.idxOf n:=λh=>by
    have:=List.not_of_lt_findIdx (p:=(·==n)) (xs:=l) (i:=i) h;simp[b]at this
   omega
  rw[this];rfl
 refine γ a ?_;refine Δ U ?_;refine W.exit U ?_;refine Χ ?_;have t:i=l.length:=J;refine Β (by simp[t]) ?_;refine Χ ?_;refine W.rt ?_;have c:n∉l:=λh=>by
  obtain⟨j,d,e⟩:=Qg h;exact hi.2 j J d e
 exact .of (by simp[c])
def sT(a b:List (ψ))(n:a.length<2 ^ 40)(g:∀x∈a,x.length<2 ^ 40):Μ Tryz.prog 21 [Yv a,Yv b] (ZU (a==b)):=by
 refine Ν.body Τ Tryz.func21 U U Tryz.ntmps21 U U o ?_;refine Χ ?_;refine W.iter (λp:Nat×Bool=>p.1<=a.length/\(p.2=true->a.length=b.length/\∀j,j<p.1->a[j]?=b[j]?)/\(p.2=false->a≠b)) (λp=>[(0,Yv a),(1,Yv b),(5,ZU p.2),(6,I p.1)]) (λ_=>[]) (λp=>a.length-p.1) (0,decide (a.length=b.length)) ⟨Γ _,o,by simp;exact λh e=>h (by rw[e])⟩ U o (λi hi k=>?_);rcases i with⟨i,_|_⟩
 .refine Χ ?_;refine Δ U ?_;refine W.exit U ?_;refine Χ ?_;refine W.Y0 ?_;simp[hi.2.2 U]
 refine Χ ?_;have l:=(hi.2.1 U).1;refine W.YD U (λc=>?_) (λc=>?_)
 .have c:i<a.length:=by simpa using c
  have f:i<b.length:=J;refine Χ ?_;refine W.draw (A:=[]) Τ mixed λr m=>SY (Ξ c f) ?_;refine Wf (Μ.q (Av a[i] b[i] (by have:=g _ (YW c);omega))) (Rt ?_);refine X5 (m _ _ ?_);refine Χ ?_;refine W.forget _ ?_ (k (i+1,a[i]==b[i]) ⟨by simp;omega,λh=>⟨l,λj d=>?_⟩,λh e=>?_⟩ (by simp;omega))
  .simp[YR c (show a.length<2 ^ 62 by omega)]
  .by_cases e:j=i
   .subst e;rw[ξ c,ξ f];simpa using h
   exact(hi.2.1 U).2 j (by simp at d;omega)
  subst e;simp at h
 have c:a.length<=i:=by simpa using c
 refine W.exit U ?_;refine Χ ?_;refine W.rt ?_;refine .of ?_;have:a=b:=T6 λj=>by
  by_cases d:j<i
  .exact(hi.2.1 U).2 j d
  rw[Wk J,Wk J]
 simp[this]
structure Xb where
 name:ByteArray
 X8:Int
deriving DecidableEq
structure Xo where
 Xn:Int
 seen:Int
 bare:Int
deriving DecidableEq
structure Zm where
 Z2:List Xb
 ZE:List (ψ)
 cells:List (List Xo)
deriving DecidableEq
abbrev X4(g:Xb):Ψ:=.Z' [ZQ g.name,I g.X8]
abbrev UB(p:Xo):Ψ:=.Z' [I p.Xn,I p.seen,I p.bare]
abbrev UA(l:List Xb):Ψ:=δ X4 2 l
abbrev TA(l:List Xo):Ψ:=δ UB 3 l
abbrev Tz(l:List (List Xo)):Ψ:=δ TA 1 l
abbrev Wa(s:Zm):Ψ:=.Z' [UA s.Z2,Yv s.ZE,Tz s.cells]
abbrev XC(s:Zm):Ψ:=.Κ [UA s.Z2,Yv s.ZE,Tz s.cells]
def Zm.small(s:Zm):Prop:=s.Z2.length<2 ^ 30/\s.ZE.length<2 ^ 30/\s.cells.length<2 ^ 30/\(∀x∈s.ZE,x.length<2 ^ 30)/\∀x∈s.cells,x.length<2 ^ 30
end Go.TL
