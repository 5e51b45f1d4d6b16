import Derived.KernelRfl
import Derived.Test.YtkndbcflmgogjaaGreatProg
import Derived.Test.YtkndbcflmgogjaaGreatQAE
set_option maxHeartbeats 16000000
set_option maxRecDepth 20000
set_option linter.unusedSectionVars false
set_option linter.unusedSimpArgs false
set_option linter.unusedVariables false
namespace Go.TL
theorem Wf {p:Prop} (h:p:=by kernel_rfl):p:=h
open Go.Proofs.Tryz
open Go.Conc
variable [Z1]
section
variable {P:Program} {S S':ς} {B:δ} {H H':Υ} {σ:Ρ}
theorem Θ.take {h:Nat} {a:Ψ} {v:Value} (t:Θ S B σ a v) (d:η h a):Θ S (B.take h) (σ.take h) a v:=by
 have k:∀{u:Type} (l:List u) (i:Nat),i<h->(l.take h)[i]?=l[i]?:=λl i hi=>TV hi
 induction t with
 | z v=>exact .z v
 | Ν b o w f _ m=>
  cases d with
  | Ν d=>exact .Ν b o w f λj a n=>m j a n (d a (ZH n))
 | WJ base cap h=>exact .WJ base cap h
 | sl b o cap w f g p r _ m=>
  cases d with
  | sl d=>exact .sl b o cap w f g p r λi e hi j c n=>m i e hi j c n (d e (ZH hi) c (ZH n))
 | Z6 vs f _ m=>
  cases d with
  | Z6 d=>exact .Z6 vs f λi a v hi hv=>m i a v hi hv (d a (ZH hi))
 | ε vs f _ m=>
  cases d with
  | ε d=>exact .ε vs f λi a v hi hv=>m i a v hi hv (d a (ZH hi))
 | π f g p=>
  cases d with
  | π d=>exact .π (by rw[k _ _ d];exact f) g (by rw[k _ _ d];exact p)
 | VI v f g s=>
  cases d with
  | π d=>exact .VI v (by rw[k _ _ d];exact f) g s
 | ms cap f g p r x y=>
  cases d with
  | ms d=>exact .ms cap (by rw[k _ _ d];exact f) g (by rw[k _ _ d];exact p) r x y
 | Wu v f g s=>
  cases d with
  | ms d=>exact .Wu v (by rw[k _ _ d];exact f) g s
 | fn vs A f g _ _ C D=>
  cases d with
  | fn E F=>exact .fn vs A f g (λi a v hi hv=>C i a v hi hv (E a (ZH hi))) λi a v hi hv=>D i a v hi hv (F a (ZH hi))
 | Xi v _ m=>
  cases d with
  | Xi d=>exact .Xi v (m d)
 | mp f g=>
  cases d with
  | mp d=>exact .mp (by rw[k _ _ d];exact f) (by rw[k _ _ d];exact g)
 | Uf v f=>
  cases d with
  | mp d=>exact .Uf v (by rw[k _ _ d];exact f)
 | it f g=>
  cases d with
  | it d=>exact .it (by rw[k _ _ d];exact f) (by rw[k _ _ d];exact g)
 | SC f g=>
  cases d with
  | it d=>exact .SC (by rw[k _ _ d];exact f) (by rw[k _ _ d];exact g)
 | TM v f=>
  cases d with
  | it d=>exact .TM v (by rw[k _ _ d];exact f)
 | Zx v=>exact .Zx v
theorem Θ.any {a:Ψ} {v:Value} (b:Θ S B σ a v) (c:η 0 a) (d:δ) (e:Ρ):Θ S d e a v:=by
 have f:Θ S [] [] a v:=by simpa using b.take c
 exact f.later ⟨λ_ _ _ h=>h,λid r h=>by simp at h⟩
theorem Holds.bare (a:Holds S B σ H):Holds S [] [] H:=
 ⟨a.Zf,U,λid r bo h=>by simp at h,λi j c d b e f g h=>by simp at h,λid r b N h=>by simp at h⟩
theorem Holds.back (a:Holds S B σ H) (c:Ext S [] H S' [] H') (t:Holds S' [] [] H'):Holds S' B σ H'/\Ext S B H S' B H'/\ZJ S S' B B σ σ:=by
 have n:ZJ S S' B B σ σ:=⟨c.Zf,λid r h=>⟨r,h,r.Tb _⟩⟩
 have i:∀b,¬δ.has ([]:δ) b:=λb ⟨N,h⟩=>by simp at h
 have p:∀(id:Nat) (r:Row) (b N:Nat),σ[id]?=some r->r.live->B[id]?=some (some (b,N))->Vk H H' b:=λid r b N k j s=>(c.X0 b (i b) (a.Sd k j s)).QV λo=>a.sep id r b N k j s o;refine⟨⟨t.Zf,a.len,λid r bo d f=>?_,a.inj,λid r b N d g f o=>?_⟩,⟨c.Zf,λb _ u=>c.X0 b (i b) u,λb l=>.inl l,λb o v hv=>?_,c.grow⟩,n⟩
 .by_cases g:r.live
  .refine(a.row id r bo d f).later n (λb N e=>p id r b N d g (by rw[f,e])) λm left w e=>?_;subst e;obtain⟨_,_,x,y,A,C,seen,_,k,⟨es,j⟩,_⟩:=a.row id _ bo d f;exact⟨U,U,λb N l=>p m _ b N j trivial l⟩
  .cases r<;>first|exact absurd trivial g|trivial
 .cases hv:S' b o with
  | none=>rfl
  | some v=>
   rcases c.TJ b o v hv with h|h|h
   .rw[a.sep id r b N d g f o] at h;cases h
   .exact absurd h (i b)
   .exact absurd h (a.Sd d g f)
 .rcases c.TJ b o v hv with h|h|h
  .exact .inl h
  .exact absurd h (i b)
  .exact .inr (.inr h)
theorem Μ.frame {g:FuncId} {args:ψ} {K:Ψ->Prop} {E:Ψ->Prop} (h:Μ P g args [] (λa s=>K a/\η 0 a/\s=[]) (λa s=>E a/\η 0 a/\s=[])) (t:∀a∈args,η 0 a):Μ P g args σ (λa s=>K a/\s=σ) (λa s=>E a/\s=σ):=by
 refine⟨h.1,λu mn x c rest S B H vs w j hv k=>?_⟩;refine h.2 u mn x c rest S [] H vs w j.bare ⟨hv.1,λi a v l y=>(hv.2 i a v l y).any (t a (ZH l)) _ _⟩ ⟨λa σ' S' B' H' v ⟨b,d,m⟩ n A e f=>?_,λa σ' S' B' H' v ⟨b,d,m⟩ n A e f=>?_⟩
 all_goals
  subst m;have C:B'=[]:=YZ.1 (by rw[e.len];rfl);subst C;obtain⟨o,p,r⟩:=j.back n e
 .exact k.ret a σ S' B H' v ⟨b,U⟩ p r o (f.any d _ _)
 .exact k.LD a σ S' B H' v ⟨b,U⟩ p r o (f.any d _ _)
def N1 (P:Program) (g:FuncId) (args:ψ) (r:Ψ):Prop:=Μ P g args [] (λa s=>a=r/\s=[]) (λ_ _=>False)
theorem N1.call {g:FuncId} {first args captured:ψ} {r:Ψ} {K:Ψ->Ρ->Prop} {E:Ψ->Ρ->Prop} (h:N1 P g (first++args++captured) r) (d:∀a∈first++args++captured,η 0 a) (e:η 0 r) (f:K r σ) :
  Yg P (.fn (.func g) first captured) args σ K E:=by
 have i:Μ P g (first++args++captured) [] (λa s=>a=r/\η 0 a/\s=[]) (λa s=>False/\η 0 a/\s=[]):=h.mono (λa s ⟨b,c⟩=>⟨b,b▸e,c⟩) (λ_ _ h=>h.elim);exact Μ.call ((i.frame (σ:=σ) d).mono (λa s ⟨b,c⟩=>by subst b;subst c;exact f) (λ_ _ h=>h.1.elim))
end
theorem vd {h:Nat} {v:Value}:η h (.z v)↔True:=⟨λ_=>trivial,λ_=>.z v⟩
theorem vc {h:Nat}:η h .Zx↔True:=⟨λ_=>trivial,λ_=>.Zx⟩
theorem vb {h:Nat} {l:ψ}:η h (.Ν l)↔∀a∈l,η h a:=⟨λx=>by cases x;assumption,.Ν⟩
theorem va {h:Nat} {l:ψ}:η h (.Z6 l)↔∀a∈l,η h a:=⟨λx=>by cases x;assumption,.Z6⟩
theorem u' {h:Nat} {l:ψ}:η h (.ε l)↔∀a∈l,η h a:=⟨λx=>by cases x;assumption,.ε⟩
theorem BL {h:Nat} {ex:Bool} {k:Nat} {l:ψ}:η h (.sl ex k l)↔∀e∈l,∀a∈e.cells,η h a:=⟨λx=>by cases x;assumption,.sl⟩
theorem u9 {h:Nat} {t:TypeId} {a:Ψ}:η h (.Xi t a)↔η h a:=⟨λx=>by cases x;assumption,.Xi⟩
theorem TF {h id n i j:Nat}:η h (.π id n i j)↔id<h:=⟨λx=>by cases x;assumption,.π⟩
theorem SB {h id n i j:Nat}:η h (.ms id n i j)↔id<h:=⟨λx=>by cases x;assumption,.ms⟩
theorem Hv {h id:Nat}:η h (.mp id)↔id<h:=⟨λx=>by cases x;assumption,.mp⟩
theorem Fb {h id:Nat}:η h (.it id)↔id<h:=⟨λx=>by cases x;assumption,.it⟩
theorem S9 {h:Nat} {f:Fn} {b cs:ψ}:η h (.fn f b cs)↔(∀a∈b,η h a)/\∀a∈cs,η h a:=⟨λx=>by cases x;exact⟨by assumption,by assumption⟩,λx=>.fn x.1 x.2⟩
def J9 (ops:ZI) (o:Oper):List Tmp:=
 (o.op.operands.toList.filterMap fun|.tmp t=>some t|_=>none)++(match o.guard with|some (g,_)=>((ops[g]?).bind (·.dst)).toList|none=>[])
def WH (o:Oper):κ:=(o.after.toList.filter (Region.binds .any)).map (·.on)
def J8:List Oper->List (κ)->List (κ)
 | [],a=>a
 | o::b,a=>J8 b (a++[WH o++(WH o).flatMap λj=>a.getD j []])
def Hu (ops:ZI):List (κ):=J8 ops.toList []
def We (o:Oper):Bool:=match o.op with
 | .load _ _=>true
 | .indexAddr _ _ _=>true
 | .fieldAddr _ _ _=>true
 | .nilCheck _=>true
 | .call ⟨.builtin .len,⟨[_]⟩,⟨[_]⟩⟩=>true
 | .call ⟨.builtin .unsafeSliceData,⟨[_]⟩,⟨[_]⟩⟩=>true
 | .slice _ _ _ _ none=>true
 | _=>false
def TE (χ:Nat->Nat->Bool) (ops:ZI) (tags:List Bool) (i j:Nat) (a b:Oper):Bool:=
 (match b.dst with|some d=>(J9 ops a).contains d||a.dst==some d|none=>false)||(match a.dst with|some d=>(J9 ops b).contains d|none=>false)||(tags.getD i false&&tags.getD j false&&!(We a&&We b)&&!χ i j)
def OX (χ:Nat->Nat->Bool) (ops:ZI) (tags:List Bool):Bool:=
 let b:=Hu ops
 (List.range ops.size).all λi=>match ops[i]? with
  | none=>false
  | some a=>(WH a).all (λj=>decide (j<i))&&(List.range i).all λj=>match ops[j]? with
   | none=>false
   | some c=>!TE χ ops tags i j a c||(b.getD i []).contains j
def OW (_ _:Nat):Bool:=false
def clash (ops:ZI) (tags:List Bool) (i j:Nat) (a b:Oper):Bool:=TE OW ops tags i j a b
def S8 (ops:ZI) (tags:List Bool):Bool:=OX OW ops tags
def S7 (lo pu:κ) (i j:Nat):Bool:=lo.contains i&&pu.contains j||pu.contains i&&lo.contains j
section
variable {P:Program} {T:Z2} {A:κ} {m nt:Nat} {k:ZA} {env:Β} {σ:Ρ} {Z:XD} {E:Yb} {ops:ZI}
theorem W.congr {env':Β} (h:∀i,ι env' i=ι env i) (c:W P m nt k env σ Z E):W P m nt k env' σ Z E:=
 λd mn x cs b S B H t e f a g j=>c d mn x cs b S B H t e f ⟨a.holds,λi=>by rw[<-h i];exact a.Zt i,a.size,a.rows⟩ g j
theorem BK (c:Region.Mode):∀(a t:Nat) (listed:Array Bool) (i:Nat),Region.linearise.go c ops a t listed [i]=i::Region.linearise.go c ops a t listed []:=by
 have gen:∀(a t:Nat) (listed:Array Bool) (b:κ),Region.linearise.go c ops a t listed b=b.reverse++Region.linearise.go c ops a t listed []:=by
  intro a
  induction a with
  | zero=>intro t listed b;simp[Region.linearise.go]
  | succ a d=>
   intro t listed b;simp only[Region.linearise.go];split
   .rename_i i _;rw[d _ _ (i::b),d _ _ [i]];simp
   .simp
 intro a t listed i;rw[gen];rfl
theorem Ht (n:∀i o,ops[i]?=some o->∀j∈WH o,j<i) (D:Nat->Prop) (p:∀i o,ops[i]?=some o->D i->∀j∈WH o,D j) :
  ∀(i:Nat) (o:Oper),ops[i]?=some o->(∀j∈WH o,D j)->∀j∈(Hu ops).getD i [],D j:=by
 have r:∀(d:List Oper) (a:List (κ)),(∀x,d[x]?=ops[a.length+x]?)->(∀i o,i<a.length->ops[i]?=some o->(∀j∈WH o,D j)->∀j∈a.getD i [],D j)->
   ∀i o,i<a.length+d.length->ops[i]?=some o->(∀j∈WH o,D j)->∀j∈(J8 d a).getD i [],D j:=by
  intro d
  induction d with
  | nil=>intro a _ h i o hi;exact h i o (by simpa using hi)
  | cons q d s=>
   intro a g h i o hi b c;have e:ops[a.length]?=some q:=by have:=g 0;simpa using this.symm
   refine s (a++[WH q++(WH q).flatMap λj=>a.getD j []]) (λx=>?_) (λi o hi b c=>?_) i o (by simp at hi ⊢;omega) b c
   .have:=g (x+1);simp only[List.getElem?_cons_succ] at this;rw[this];simp;congr 1;omega
   .by_cases k:i<a.length
    .rw[V7,YN k,<-V7];exact h i o k b c
    .have t:i=a.length:=by simp at hi;omega
     subst t;rw[e] at b;cases b;rw[V7,Xz (ZY _)];simp only[Nat.sub_self,List.getElem?_cons_zero,Option.getD_some,Uv,KI];rintro j (f|⟨y,l,f⟩)
     .exact c j f
     .have u:=n _ _ e y l
      have v:y<ops.size:=by have:=(Tr.1 e).1;omega
      have m:ops[y]?=some ops[y]:=YS v;exact h y _ u m (p y _ m (c y l)) j f
 intro i o b c;exact r ops.toList [] (λx=>Ω) (λi o hi=>by simp at hi) i o (by have:=(Tr.1 b).1;simpa using this) b c
def R6 (ops:ZI) (o:Oper) (env env':Β):Prop:=∀t∈J9 ops o,ι env' t=ι env t
def N0 (P:Program) (m nt:Nat) (k:ZA) (Z:XD) (E:Yb) (ops:ZI) (i:Nat) (o:Oper) (env:Β) (a:Ψ):Prop:=
 ∀env' σ' rest,R6 ops o env env'->W P m nt (.inRegion ops rest::k) (Zu o env' a) σ' Z E->W P m nt (.inRegion ops (i::rest)::k) env' σ' Z E
def NZ (P:Program) (m nt:Nat) (k:ZA) (Z:XD) (E:Yb) (ops:ZI) (i:Nat) (o:Oper) (env:Β) (σ:Ρ) (a:Ψ) (b:Ρ):Prop:=
 ∀env' rest,R6 ops o env env'->W P m nt (.inRegion ops rest::k) (Zu o env' a) b Z E->W P m nt (.inRegion ops (i::rest)::k) env' σ Z E
def Zc (ops:ZI) (env0:Β) (as9:Nat->Ψ) (a:Nat->Bool):Nat->Β
 | 0=>env0
 | n+1=>if a n then(match ops[n]? with|some o=>Zu o (Zc ops env0 as9 a n) (as9 n)|none=>Zc ops env0 as9 a n) else Zc ops env0 as9 a n
theorem MP {o:Oper} {env:Β} {a:Ψ} {t:Nat}:ι (Zu o env a) t=if o.dst=some t then a else ι env t:=by
 unfold Zu;cases hd:o.dst with
 | none=>simp
 | some d=>simp[ι]
theorem LC {env0:Β} {as9:Nat->Ψ} {b a:Nat->Bool} {t:Nat}:∀(n:Nat),(∀i o,i<n->ops[i]?=some o->o.dst=some t->b i=a i)->ι (Zc ops env0 as9 b n) t=ι (Zc ops env0 as9 a n) t:=by
 intro n
 induction n with
 | zero=>intro _;rfl
 | succ n d=>
  intro h;have c:=d λi o hi=>h i o I;simp only[Zc];cases e:ops[n]? with
  | none=>cases b n<;>cases a n<;>simpa using c
  | some o=>
   by_cases hd:o.dst=some t
   .rw[h n o (Pe n) e hd];cases a n
    .simpa using c
    .simp[MP,hd]
   .cases b n<;>cases a n<;>simp[MP,hd,c]
theorem Hs {env0:Β} {as9:Nat->Ψ} {a:Nat->Bool} {t:Nat} {n N:Nat} (j:n<=N) (h:∀i o,n<=i->i<N->ops[i]?=some o->o.dst=some t->a i=false):ι (Zc ops env0 as9 a N) t=ι (Zc ops env0 as9 a n) t:=by
 induction N with
 | zero=>have:n=0:=I
         subst this;rfl
 | succ N d=>
  by_cases e:n=N+1
  .subst e;rfl
  .have b:=d I λi o f k=>h i o f I;simp only[Zc];cases c:a N
   .simpa using b
   .cases g:ops[N]? with
    | none=>simpa using b
    | some o=>
     have hd:o.dst≠some t:=λhd=>by rw[h N o I (Pe N) g hd] at c;cases c
     simp[MP,hd,b]
def writer (ops:ZI) (tags:List Bool) (i:Nat):Bool:=tags.getD i false&&match ops[i]? with|some o=>!We o|none=>true
theorem W.BJ {lo pu:κ} {V:Type} {v:Ρ->V} {as9:Nat->Ψ} {σs:Nat->Ρ} {tags:List Bool} {env0:Β} (ah:OX (S7 lo pu) ops tags=true)
  (aw:∀i o,ops[i]?=some o->tags.getD i false=false->N0 P m nt k Z E ops i o (Zc ops env0 as9 (λ_=>true) i) (as9 i)/\σs (i+1)=σs i)
  (ai:∀i o,ops[i]?=some o->tags.getD i false=true->NZ P m nt k Z E ops i o (Zc ops env0 as9 (λ_=>true) i) (σs i) (as9 i) (σs (i+1))/\(We o=true->σs (i+1)=σs i))
  (aj:∀i o,ops[i]?=some o->lo.contains i=true->tags.getD i false=true->We o=true/\∀τ,v τ=v (σs i)->NZ P m nt k Z E ops i o (Zc ops env0 as9 (λ_=>true) i) τ (as9 i) τ)
  (aM:∀i o,ops[i]?=some o->pu.contains i=true->v (σs (i+1))=v (σs i))
  (aN:W P m nt (.inRegion ops []::k) (Zc ops env0 as9 (λ_=>true) ops.size) (σs ops.size) Z E) :
  ∀(O:Nat) (t:Nat) (listed:Array Bool) (env:Β) (p:Nat),listed.size=ops.size->
   (∀i,ι env i=ι (Zc ops env0 as9 (λi=>listed.getD i false) ops.size) i)->
   (∀i o,ops[i]?=some o->listed.getD i false=true->∀j∈WH o,listed.getD j false=true)->
   p<=ops.size->(∀j,j<ops.size->writer ops tags j=true->(listed.getD j false=true↔j<p))->
   ((List.range ops.size).filter λi=>!listed.getD i false).length<=O->
   W P m nt (.inRegion ops (Region.linearise.go .any ops O t listed [])::k) env (σs p) Z E:=by
 have ak:∀i o,ops[i]?=some o->(∀j∈WH o,j<i)/\∀j n,j<i->ops[j]?=some n->TE (S7 lo pu) ops tags i j o n=true->j∈(Hu ops).getD i []:=by
  intro i o l;have hi:i<ops.size:=(Tr.1 l).1;unfold OX at ah;simp only[XJ,VN] at ah;have h:=ah i hi;rw[l] at h;simp only[Wm,XJ,decide_eq_true_eq,VN] at h;refine⟨h.1,λj n c w T=>?_⟩;have s:=h.2 j c;rw[w] at s;simp only[T,Bool.not_true,Bool.false_or,I3] at s;exact s
 have al:∀i o,ops[i]?=some o->∀j∈WH o,j<i:=λi o l=>(ak i o l).1
 have am:∀i o,ops[i]?=some o->writer ops tags i=false->σs (i+1)=σs i:=λi o l H=>by
  cases f:tags.getD i false with
  | false=>exact(aw i o l f).2
  | true=>
   refine(ai i o l f).2 ?_;unfold writer at H;rw[f,l] at H;simpa using H
 have ax:∀(d a:Nat),a+d<=ops.size->(∀j,a<=j->j<a+d->writer ops tags j=false)->σs (a+d)=σs a:=by
  intro d
  induction d with
  | zero=>intro a _ _;rfl
  | succ d D=>
   intro a hle h;have g:ops[a+d]?=some ops[a+d]:=YS I;have:=am (a+d) _ g (h (a+d) I I);rw[show a+(d+1)=a+d+1 by omega,this];exact D a I λj g s=>h j g I
 have an:∀a b,a<=ops.size->b<=ops.size->(∀j,j<ops.size->writer ops tags j=true->(j<a↔j<b))->σs a=σs b:=λa b ay X h=>by
  rcases Nat.le_total a b with hle|hle
  .have:=ax (b-a) a I λj g s=>by
    cases f:writer ops tags j with
    | false=>rfl
    | true=>have:=(h j I f).2 I;omega
   rw[show a+(b-a)=b by omega] at this;exact this.symm
  .have:=ax (a-b) b I λj g s=>by
    cases f:writer ops tags j with
    | false=>rfl
    | true=>have:=(h j I f).1 I;omega
   rw[show b+(a-b)=a by omega] at this;exact this
 have aO:∀a b,a<=ops.size->b<=ops.size->(∀j,j<ops.size->writer ops tags j=true->pu.contains j=false->(j<a↔j<b))->v (σs a)=v (σs b):=λa b ay X h=>by
  have aP:∀(d a:Nat),a+d<=ops.size->(∀j,a<=j->j<a+d->writer ops tags j=true->pu.contains j=true)->v (σs (a+d))=v (σs a):=by
   intro d
   induction d with
   | zero=>intro a _ _;rfl
   | succ d D=>
    intro a hle h;have g:ops[a+d]?=some ops[a+d]:=YS I;have e:v (σs (a+d+1))=v (σs (a+d)):=by
     cases H:writer ops tags (a+d) with
     | false=>rw[am (a+d) _ g H]
     | true=>exact aM (a+d) _ g (h (a+d) I I H)
    rw[show a+(d+1)=a+d+1 by omega,e];exact D a I λj g s=>h j g I
  have az:∀x y,y<=ops.size->(∀j,j<ops.size->writer ops tags j=true->pu.contains j=false->(j<x↔j<y))->x<=y->v (σs y)=v (σs x):=λx y ao h hle=>by
   have:=aP (y-x) x I λj g s H=>by
    cases ap:pu.contains j with
    | true=>rfl
    | false=>have:=(h j I H ap).2 I;omega
   rwa [show x+(y-x)=y by omega] at this
  rcases Nat.le_total a b with hle|hle
  .exact(az a b X h hle).symm
  .exact az b a ay (λj g s A=>(h j g s A).symm) hle
 intro O;have done:∀(t:Nat) (listed:Array Bool) (env:Β) (p:Nat),(∀i,i<ops.size->listed.getD i false=true)->(∀i,ι env i=ι (Zc ops env0 as9 (λi=>listed.getD i false) ops.size) i)->p<=ops.size->
   (∀j,j<ops.size->writer ops tags j=true->(listed.getD j false=true↔j<p))->W P m nt (.inRegion ops []::k) env (σs p) Z E:=λt listed env p Q L B J=>by
  have aQ:σs p=σs ops.size:=an p ops.size B (ZY _) λj c f=>by rw[<-J j c f];simp[Q j c,c]
  rw[aQ];refine .congr (λi=>?_) aN;rw[L i];exact LC ops.size λi o hi _ _=>Q i hi
 have aR:∀listed:Array Bool,listed.size=ops.size->(∃i,i<ops.size/\listed.getD i false=false)->∃i,i<ops.size/\listed.getD i false=false/\∀j,j<i->listed.getD j false=true:=λlisted M ⟨i,hi,u⟩=>by
  induction i using Nat.strongRecOn with
  | _ i D=>
   by_cases c:∃j,j<i/\listed.getD j false=false
   .obtain⟨j,g,s⟩:=c;exact D j g I s
   .exact⟨i,hi,u,λj aS=>by
     cases h:listed.getD j false with
     | true=>rfl
     | false=>exact absurd ⟨j,aS,h⟩ c⟩
 induction O with
 | zero=>
  intro t listed env p M L Y B J aT;have Q:∀i,i<ops.size->listed.getD i false=true:=λi hi=>by
   cases h:listed.getD i false with
   | true=>rfl
   | false=>
    have aa:i∈(List.range ops.size).filter λi=>!listed.getD i false:=by rw[To];exact⟨VN.2 hi,by rw[h];rfl⟩
    have:((List.range ops.size).filter λi=>!listed.getD i false)=[]:=YZ.1 I;rw[this] at aa;simp at aa
  exact done t listed env p Q L B J
 | succ O D=>
  intro t listed env p M L Y B J aT;simp only[Region.linearise.go];generalize aU:((List.range ops.size).filter λi=>!listed.getD i true&&((ops[i]?).map (·.after.all λe=>!Region.binds .any e||listed.getD e.on false)).getD false)=N;have aA:∀i,i<ops.size->listed.getD i true=listed.getD i false:=λi hi=>by
   rw[Wn,Wn,YS I];rfl
  have aB:∀i,i∈N↔i<ops.size/\listed.getD i false=false/\∀o,ops[i]?=some o->∀j∈WH o,listed.getD j false=true:=λi=>by
   rw[<-aU];simp only[To,VN,Wm,Bool.not_eq_true'];constructor
   .rintro⟨g,s,A⟩;rw[aA i g] at s;refine⟨g,s,λo l j c=>?_⟩;rw[l] at A;simp only[Option.map_some,Option.getD_some,IW] at A;unfold WH at c;simp only[Zh,To] at c;obtain⟨e,⟨aV,aW⟩,rfl⟩:=c;have:=A e (by simpa using aV);simpa[aW] using this
   .rintro⟨g,s,A⟩;refine⟨g,by rw[aA i g];exact s,?_⟩;have l:ops[i]?=some ops[i]:=YS g;rw[l];simp only[Option.map_some,Option.getD_some,IW];intro e aX;by_cases X:Region.binds .any e=true
    .have:=A _ l e.on (by unfold WH;simp only[Zh,To];exact⟨e,⟨by simpa using aX,X⟩,U⟩);simp[this]
    .simp[X]
  cases hi:N[t % N.length]? with
  | none=>
   simp only[List.reverse_nil];have aY:N=[]:=by
    cases aZ:N with
    | nil=>rfl
    | cons x aC=>
     rw[aZ] at hi;have aq:t % (x::aC).length<(x::aC).length:=No _ Ω;rw[Z4 aq] at hi;cases hi
   have Q:∀i,i<ops.size->listed.getD i false=true:=λi a0=>by
    cases h:listed.getD i false with
    | true=>rfl
    | false=>
     obtain⟨r,g,s,A⟩:=aR listed M ⟨i,a0,h⟩;have:r∈N:=(aB r).2 ⟨g,s,λo l j c=>A j (al r o l j c)⟩;rw[aY] at this;simp at this
   exact done t listed env p Q L B J
  | some i=>
   simp only;rw[BK];have aa:i∈N:=ZH hi;obtain⟨g,s,A⟩:=(aB i).1 aa;have l:ops[i]?=some ops[i]:=YS g;have a1:=Ht al (λj=>listed.getD j false=true) (λj o c u=>Y j o c u) i _ l (A _ l);have low:∀j n,j<i->ops[j]?=some n->TE (S7 lo pu) ops tags i j ops[i] n=true->listed.getD j false=true:=λj n c w T=>a1 j ((ak i _ l).2 j n c w T);have high:∀j n,i<j->ops[j]?=some n->TE (S7 lo pu) ops tags j i n ops[i]=true->listed.getD j false=false:=λj n c w T=>by
    cases u:listed.getD j false with
    | false=>rfl
    | true=>
     have:=Ht al (λj=>listed.getD j false=true) (λj o c u=>Y j o c u) j n w (Y j n w u) i ((ak j n w).2 i _ c l T);rw[s] at this;cases this
   have ab:R6 ops ops[i] (Zc ops env0 as9 (λ_=>true) i) env:=λx aD=>by
    rw[L x];have c1:ι (Zc ops env0 as9 (λi=>listed.getD i false) ops.size) x=ι (Zc ops env0 as9 (λi=>listed.getD i false) i) x:=Hs I λj n a2 a3 w hd=>by
     by_cases e:j=i
     .subst e;exact s
     .refine high j n I w ?_;unfold TE;simp[hd,aD]
    rw[c1];exact LC i λj n c w hd=>low j n c w (by unfold TE;simp[hd,aD])
   have ad:∀x,ι (Zu ops[i] env (as9 i)) x=ι (Zc ops env0 as9 (λj=>(listed.setIfInBounds i true).getD j false) ops.size) x:=λx=>by
    have F:∀j,(listed.setIfInBounds i true).getD j false=if j=i then true else listed.getD j false:=λj=>by
     rw[Wn,Wn];by_cases e:j=i
     .subst e;rw[Ts I];simp
     .rw[UK (YV e),if_neg e]
    rw[MP];by_cases hd:ops[i].dst=some x
    .rw[if_pos hd];have c1:ι (Zc ops env0 as9 (λj=>(listed.setIfInBounds i true).getD j false) ops.size) x=ι (Zc ops env0 as9 (λj=>(listed.setIfInBounds i true).getD j false) (i+1)) x:=Hs I λj n a2 a3 w ar=>by
      rw[F,if_neg I];refine high j n I w ?_;unfold TE;simp[hd,ar]
     rw[c1];simp only[Zc,F,if_true,l,MP,hd]
    .rw[if_neg hd,L x];exact LC ops.size λj n c w ar=>by
      rw[F,if_neg];intro e;subst e;rw[l] at w;cases w;exact hd ar
   have F:∀j,(listed.setIfInBounds i true).getD j false=if j=i then true else listed.getD j false:=λj=>by
    rw[Wn,Wn];by_cases e:j=i
    .subst e;rw[Ts I];simp
    .rw[UK (YV e),if_neg e]
   have ae:((List.range ops.size).filter λj=>!(listed.setIfInBounds i true).getD j false).length<=O:=by
    have aq:((List.range ops.size).filter λj=>!(listed.setIfInBounds i true).getD j false).length<((List.range ops.size).filter λj=>!listed.getD j false).length:=by
     have:((List.range ops.size).filter λj=>!(listed.setIfInBounds i true).getD j false)=((List.range ops.size).filter λj=>!listed.getD j false).filter λj=>j != i:=by
      rw[List.filter_filter];apply List.filter_congr;intro j _;rw[F];by_cases e:j=i
      .subst e;simp
      .simp[e]
     rw[this];have a4:i∈(List.range ops.size).filter λj=>!listed.getD j false:=by
      rw[To];exact⟨VN.2 g,by rw[s];rfl⟩
     exact List.length_filter_lt_length_iff_exists.2 ⟨i,a4,Ω⟩
    omega
   have af:∀j o,ops[j]?=some o->(listed.setIfInBounds i true).getD j false=true->∀y∈WH o,(listed.setIfInBounds i true).getD y false=true:=λj o c u y ao=>by
    rw[F] at u ⊢;by_cases e:y=i
    .rw[if_pos e]
    .rw[if_neg e];by_cases aE:j=i
     .subst aE;rw[l] at c;cases c;exact A _ l y ao
     .rw[if_neg aE] at u;exact Y j o c u y ao
   have aF:∀j,writer ops tags j=true->tags.getD j false=true:=λj h=>by
    unfold writer at h;rw[Wm] at h;exact h.1
   cases K:tags.getD i false with
   | false=>
    refine(aw i _ l K).1 env (σs p) _ ab ?_;refine D _ _ _ p (by simpa using M) ad af B (λj c f=>?_) ae;rw[F];have:j≠i:=λe=>by subst e;rw[aF j f] at K;cases K
    rw[if_neg this];exact J j c f
   | true=>
    have aG:∀j n,ops[j]?=some n->writer ops tags j=true->lo.contains i=false\/pu.contains j=false->TE (S7 lo pu) ops tags i j ops[i] n=true/\TE (S7 lo pu) ops tags j i n ops[i]=true:=λj n w f C=>by
     have g:=aF j f
     have aH:lo.contains j=false:=by
      cases u:lo.contains j with
      | false=>rfl
      | true=>
       have:=(aj j n w u g).1;unfold writer at f;rw[g,w] at f;simp[this] at f
     unfold writer at f;rw[g,w] at f;have s:We n=false:=by simpa using f
     have C:(lo.contains i&&pu.contains j)=false:=by
      rcases C with h|h
      .rw[h];rfl
      .rw[h,Bool.and_false]
     have f1:S7 lo pu i j=false:=by unfold S7;rw[C,aH,Bool.and_false];rfl
     have f2:S7 lo pu j i=false:=by unfold S7;rw[aH,Bool.and_comm (pu.contains j),C];rfl
     unfold TE;rw[g,K,s,f1,f2];simp
    have aI:∀j,j<ops.size->writer ops tags j=true->lo.contains i=false\/pu.contains j=false->j<i->listed.getD j false=true:=λj c f C au=>low j _ au (YS c) (aG j _ (YS c) f C).1
    have aJ:∀j,j<ops.size->writer ops tags j=true->lo.contains i=false\/pu.contains j=false->i<j->listed.getD j false=false:=λj c f C au=>high j _ au (YS c) (aG j _ (YS c) f C).2
    have av:∀j,j<ops.size->writer ops tags j=true->lo.contains i=false\/pu.contains j=false->(j<p↔j<i):=λj c f C=>by
     rw[<-J j c f];constructor
     .intro u;apply TW;intro a5;by_cases e:j=i
      .subst e;rw[s] at u;cases u
      .rw[aJ j c f C I] at u;cases u
     .exact aI j c f C
    cases R:writer ops tags i with
    | false=>
     have aK:∀j,j<ops.size->writer ops tags j=true->((listed.setIfInBounds i true).getD j false=true↔j<p):=λj c f=>by
      rw[F];have:j≠i:=λe=>by subst e;rw[f] at R;cases R
      rw[if_neg this];exact J j c f
     cases S:lo.contains i with
     | true=>
      refine(aj i _ l S K).2 (σs p) (aO p i B I λj c f ap=>av j c f (.inr ap)) env _ ab ?_;exact D _ _ _ p (by simpa using M) ad af B aK ae
     | false=>
      have ag:σs p=σs i:=an p i B I λj c f=>av j c f (.inl S)
      have es:=am i _ l R
      have aL:=(ai i _ l K).1;rw[es] at aL;rw[ag];refine aL env _ ab ?_;rw[<-ag];exact D _ _ _ p (by simpa using M) ad af B aK ae
    | true=>
     have S:lo.contains i=false:=by
      cases u:lo.contains i with
      | false=>rfl
      | true=>
       have:=(aj i _ l u K).1;unfold writer at R;rw[l] at R;simp[this] at R
     have ag:σs p=σs i:=an p i B I λj c f=>av j c f (.inl S);rw[ag];refine(ai i _ l K).1 env _ ab ?_;refine D _ _ _ (i+1) (by simpa using M) ad af I (λj c f=>?_) ae;rw[F];by_cases e:j=i
     .subst e;simp
     .rw[if_neg e];constructor
      .intro u;apply TW;intro a5;rw[aJ j c f (.inl S) I] at u;cases u
      .intro aq;exact aI j c f (.inl S) I
theorem W.u7 {as9:Nat->Ψ} {σs:Nat->Ρ} {tags:List Bool} {env0:Β} (c:S8 ops tags=true)
  (d:∀i o,ops[i]?=some o->tags.getD i false=false->N0 P m nt k Z E ops i o (Zc ops env0 as9 (λ_=>true) i) (as9 i)/\σs (i+1)=σs i)
  (f:∀i o,ops[i]?=some o->tags.getD i false=true->NZ P m nt k Z E ops i o (Zc ops env0 as9 (λ_=>true) i) (σs i) (as9 i) (σs (i+1))/\(We o=true->σs (i+1)=σs i))
  (g:W P m nt (.inRegion ops []::k) (Zc ops env0 as9 (λ_=>true) ops.size) (σs ops.size) Z E) :
  ∀(b:Nat) (t:Nat) (listed:Array Bool) (env:Β) (a:Nat),listed.size=ops.size->
   (∀i,ι env i=ι (Zc ops env0 as9 (λi=>listed.getD i false) ops.size) i)->
   (∀i o,ops[i]?=some o->listed.getD i false=true->∀j∈WH o,listed.getD j false=true)->
   a<=ops.size->(∀j,j<ops.size->writer ops tags j=true->(listed.getD j false=true↔j<a))->
   ((List.range ops.size).filter λi=>!listed.getD i false).length<=b->
   W P m nt (.inRegion ops (Region.linearise.go .any ops b t listed [])::k) env (σs a) Z E:=by
 have e:S7 [] []=OW:=by funext i j;simp[S7,OW]
 exact W.BJ (lo:=[]) (pu:=[]) (v:=λ_=>()) (by rw[e];exact c) d f (λi o _ h=>by simp at h) (λi o _ h=>by simp at h) g
def Hr:List Oper->κ->κ
 | [],acc=>acc
 | o::a,acc=>Hr a (acc++[(WH o).foldr (λj m=>(1 <<< j)|||acc.getD j 0|||m) 0])
def Fa (χ:Nat->Nat->Bool) (ops:ZI) (tags:List Bool):Bool:=
 let b:=Hr ops.toList []
 (List.range ops.size).all λi=>match ops[i]? with
  | none=>false
  | some a=>(WH a).all (λj=>decide (j<i))&&(List.range i).all λj=>match ops[j]? with
   | none=>false
   | some c=>!TE χ ops tags i j a c||(b.getD i 0).testBit j
def BI (a:List (κ)) (b:κ):Prop:=a.length=b.length/\∀i j,(b.getD i 0).testBit j=true↔j∈a.getD i []
theorem u6:∀(c:List Oper) (b:List (κ)) (d:κ),BI b d->BI (J8 c b) (Hr c d):=by
 intro c
 induction c with
 | nil=>intro b d h;exact h
 | cons o c f=>
  intro b d h;simp only[J8,Hr];refine f _ _ ⟨by simp[h.1],λi j=>?_⟩;have one:∀l:κ,(l.foldr (λj m=>(1 <<< j)|||d.getD j 0|||m) 0).testBit j=true↔j∈l++l.flatMap λj=>b.getD j []:=by
   intro l
   induction l with
   | nil=>simp
   | cons a l g=>
    rw[List.foldr_cons,Nat.testBit_or,Nat.testBit_or,Nat.one_shiftLeft,Nat.testBit_two_pow];simp only[Bool.or_eq_true,decide_eq_true_eq,h.2 a j,g,Uv,Yd,List.flatMap_cons];constructor
    .rintro((e|e)|e|e)
     .exact .inl (.inl e.symm)
     .exact .inr (.inl e)
     .exact .inl (.inr e)
     .exact .inr (.inr e)
    .rintro((e|e)|e|e)
     .exact .inl (.inl e.symm)
     .exact .inr (.inl e)
     .exact .inl (.inr e)
     .exact .inr (.inr e)
  rw[V7,V7];by_cases hi:i<b.length
  .rw[YN hi,YN (by rw[<-h.1];exact hi),<-V7,<-V7];exact h.2 i j
  .rw[Xz (by have:=h.1;omega),Xz I,<-h.1];cases hd:i-b.length with
   | zero=>simpa using one (WH o)
   | succ n=>simp
theorem E9 {χ:Nat->Nat->Bool} {ops:ZI} {tags:List Bool} (h:Fa χ ops tags=true):OX χ ops tags=true:=by
 unfold Fa at h;unfold OX;have e:=u6 ops.toList [] [] ⟨U,λi j=>Ω⟩;simp only[XJ] at h ⊢;intro i hi;have b:=h i hi;cases c:ops[i]? with
 | none=>rw[c] at b;exact b
 | some g=>
  rw[c] at b;simp only[Wm,XJ] at b ⊢;refine⟨b.1,λj f=>?_⟩;have a:=b.2 j f;cases d:ops[j]? with
  | none=>rw[d] at a;exact a
  | some k=>
   rw[d] at a;simp only[Bool.or_eq_true] at a ⊢;rcases a with a|a
   .exact .inl a
   .exact .inr (I3.2 ((e.2 i j).1 a))
end
def u5 (ops:ZI) (tags:List Bool):Bool:=Fa OW ops tags
theorem SA {ops:ZI} {tags:List Bool} (h:u5 ops tags=true):S8 ops tags=true:=E9 h
section
variable {P:Program} {T:Z2} {A:κ} {m nt:Nat} {k:ZA} {env env':Β} {σ:Ρ} {Z:XD} {E:Yb} {ops:ZI}
theorem J7 {o:Oper} (h:R6 ops o env env'):∀x,x∈o.op.operands.toList->ο env' x=ο env x:=λx a=>by
 cases x with
 | tmp t=>
  refine h t ?_;unfold J9;simp only[Uv,List.mem_filterMap];exact .inl ⟨.tmp t,a,U⟩
 | _=>rfl
theorem U2 {o:Oper} (h:R6 ops o env env'):XG env' ops o=XG env ops o:=by
 unfold XG;cases a:o.guard with
 | none=>rfl
 | some x=>
  obtain⟨j,b⟩:=x;simp only;cases hd:(ops[j]?).bind (·.dst) with
  | none=>rfl
  | some d=>
   simp only;have:ι env' d=ι env d:=h d (by unfold J9;rw[a];simp[hd]);rw[this]
theorem Hq {a:Array (Nat×Operand)} (h:∀p∈a,ο env' p.2=ο env p.2):OY env' a=OY env a:=by
 unfold OY;exact IY λp b=>by rw[h p (by simpa using b)]
theorem J6 {a:Array Operand} (h:∀x∈a,ο env' x=ο env x):a.toList.map (ο env')=a.toList.map (ο env):=IY λx b=>h x (by simpa using b)
theorem LB {o:Option Operand} (h:∀x,o=some x->ο env' x=ο env x):o.map (ο env')=o.map (ο env):=by
 cases o with
 | none=>rfl
 | some x=>simp[h x rfl]
theorem QN {o:Oper} (r:R6 ops o env env'):WT T A env' o=WT T A env o:=by
 have h:=J7 r;obtain⟨dst,k,v,pos,w,guard⟩:=o;simp only at h;unfold WT;cases k<;>simp only<;>try rfl
 all_goals simp only[Op.operands,Yd,Vw,or_false,forall_eq_or_imp,forall_eq] at h
 case move x=>rw[h]
 case assign x=>rw[h]
 case pick c a b=>rw[h.1,h.2.1,h.2.2]
 case box d x=>rw[h]
 case build d s=>rw[Hq λp l=>h p.2 (by simp only[Zh];exact⟨p,by simpa using l,U⟩)]
 case buildSlice d n s=>rw[Hq λp l=>h p.2 (by simp only[Zh];exact⟨p,by simpa using l,U⟩)]
 case load d x=>rw[h]
 case binOp k a x y b=>rw[h.1,h.2]
 case unOp k a x=>rw[h]
 case convert a b x=>rw[h]
 case index d x y=>rw[h.1,h.2]
 case nilCheck x=>rw[h]
 case sliceToArrayPointer d x=>rw[h]
 case makeInterface a x=>rw[h]
 case makeFunc f B cs=>rw[J6 λx g=>h x (by simp[g]),J6 λx g=>h x (by simp[g])]
 case makeSlice a x y=>rw[h.1,h.2]
 case slice d x lo hi t=>
  cases t with
  | some m=>
   cases hi with
   | none=>rfl
   | some y=>
    simp only;rw[h x Ω,LB λy j=>h y (by simp[j]),h y Ω,h m Ω]
  | none=>
   simp only;rw[h x Ω,LB λy j=>h y (by simp[j]),LB λy j=>h y (by simp[j])]
 case fieldAddr d x f=>rw[h]
 case indexAddr d x y=>rw[h.1,h.2]
 case typeAssert x a b c=>rw[h]
 case extract x i=>rw[h]
 case call c=>
  obtain⟨u,⟨args⟩,⟨ts⟩⟩:=c;cases u
  case value=>rfl
  case invoke=>rfl
  rename_i b;have e:∀x∈args,ο env' x=ο env x:=λx g=>h x (by simp[Call.operands,g])
  match args,ts with
  | [x],[d]=>simp only;rw[e x Ω]
  | [x,y],[C,d]=>simp only;rw[e x Ω,e y Ω]
  | [],_=>rfl
  | [_],[]=>rfl
  | [_],_::_::_=>rfl
  | [_,_],[]=>rfl
  | [_,_],[_]=>rfl
  | [_,_],_::_::_::_=>rfl
  | [x,y,z],_=>
   cases b<;>simp only<;>first
    | rfl
    | rw[e x Ω,e y Ω,e z Ω]
  | _::_::_::_::_,_=>rfl
theorem NY {o:Oper} (l:R6 ops o env env'):Xa T A env' σ o=Xa T A env σ o:=by
 have h:=J7 l;obtain⟨dst,k,B,pos,C,guard⟩:=o;simp only at h;unfold Xa;cases k<;>simp only<;>try rfl
 all_goals simp only[Op.operands,Yd,Vw,or_false,forall_eq_or_imp,forall_eq] at h
 case box e x=>rw[h]
 case build e s=>rw[Hq λp i=>h p.2 (by simp only[Zh];exact⟨p,by simpa using i,U⟩)]
 case buildSlice e n s=>rw[Hq λp i=>h p.2 (by simp only[Zh];exact⟨p,by simpa using i,U⟩)]
 case load e x=>rw[h]
 case store e x y=>rw[h.1,h.2]
 case makeSlice a x y=>rw[h.1,h.2]
 case makeMap e r=>cases r<;>rfl
 case convert a b x=>rw[h]
 case nilCheck x=>rw[h]
 case binOp k e x y d=>
  split
  all_goals first
   | rfl
   |(simp only[h.1,h.2];done)
   |(rename_i t;cases t<;>simp only[h.1,h.2])
 case mapUpdate e x y z=>rw[h.1,h.2.1,h.2.2]
 case insert e x y z=>rw[h.1,h.2.1,h.2.2]
 case lookup e x y D=>rw[h.1,h.2]
 case range e x=>rw[h]
 case next x b=>
  cases b<;>simp only<;>rw[h]
 case entry x=>rw[h]
 case slice e x lo hi u=>
  cases u with
  | some m=>
   cases hi with
   | none=>rfl
   | some hi=>
    simp only;rw[h x Ω,LB λy g=>h y (by simp[g]),h hi Ω,h m Ω]
  | none=>
   simp only;rw[h x Ω,LB λy g=>h y (by simp[g]),LB λy g=>h y (by simp[g])]
 case fieldAddr e x f=>rw[h]
 case indexAddr e x y=>rw[h.1,h.2]
 case call c=>
  obtain⟨v,⟨args⟩,⟨ts⟩⟩:=c;cases v
  case value=>rfl
  case invoke=>rfl
  rename_i b;have j:∀x∈args,ο env' x=ο env x:=λx w=>h x (by simp[Call.operands,w])
  match args,ts with
  | [x],[e]=>simp only;rw[j x Ω]
  | [x,y],[E,e]=>simp only;rw[j x Ω,j y Ω]
  | [],_=>rfl
  | [_],[]=>rfl
  | [_],_::_::_=>rfl
  | [_,_],[]=>rfl
  | [_,_],[_]=>rfl
  | [_,_],_::_::_::_=>rfl
  | _::_::_::_,_=>rfl
def WY (P:Program) (f:Ψ) (args:ψ) (r:Ψ):Prop:=∀σ,Yg P f args σ (λa s=>a=r/\s=σ) (λ_ _=>False)
theorem N1.u4 {g:FuncId} {first args captured:ψ} {r:Ψ} (h:N1 P g (first++args++captured) r) (b:∀a∈first++args++captured,η 0 a) (c:η 0 r):WY P (.fn (.func g) first captured) args r:=λσ=>h.call b c ⟨rfl,rfl⟩
def Zl.Yp (r:Zl) (K:Ψ->Prop) (s:Prop):Prop:=match r with
 | .ok a=>K a
 | .ZD p (.ok a)=>p/\K a
 | .ZD _ _=>False
 | .bad=>s
def Zi.Yp (r:Zi) (K:Ψ->Ρ->Prop):Prop:=match r with
 | .ok a σ'=>K a σ'
 | .ZD p (.ok a σ')=>p/\K a σ'
 | _=>False
theorem u3 {r r':Zl} {K:Ψ->Prop} {s:Prop} (h:r=r'):r.Yp K s=r'.Yp K s:=by rw[h]
theorem u2 {r r':Zi} {K:Ψ->Ρ->Prop} (h:r=r'):r.Yp K=r'.Yp K:=by rw[h]
def dcall (P:Program) (f:Ψ) (args:ψ) (σ:Ρ) (b:Ψ->Prop) (c:Ψ->Ρ->Prop):Prop:=
 (∃r,WY P f args r/\b r)\/∃r σ',Yg P f args σ (λa s=>a=r/\s=σ') (λ_ _=>False)/\c r σ'
theorem XV {P:Program} {f:Ψ} {args:ψ} {σ:Ρ} {a:Ψ->Prop} {b:Ψ->Ρ->Prop} {r:Ψ} (h:WY P f args r) (k:a r):dcall P f args σ a b:=.inl ⟨r,h,k⟩
theorem E8 {P:Program} {f:Ψ} {args:ψ} {σ σ':Ρ} {c:Ψ->Prop} {b:Ψ->Ρ->Prop} {r:Ψ} (h:Yg P f args σ (λa s=>a=r/\s=σ') (λ_ _=>False)) (k:b r σ'):dcall P f args σ c b:=.inr ⟨r,σ',h,k⟩
def OV (P:Program) (T:Z2) (A:κ) (env:Β) (o:Oper) (σ:Ρ) (a:Ψ->Prop) (b:Ψ->Ρ->Prop):Prop:=match o.op with
 | .call ⟨.value f,args,_⟩=>dcall P (ο env f) (args.toList.map (ο env)) σ a b
 | .panic _=>False
 | .defer _=>False
 | _=>(WT T A env o).Yp a ((Xa T A env σ o).Yp b)
theorem u1 {P:Program} {T:Z2} {A:κ} {env:Β} {o:Oper} {σ:Ρ} {a:Ψ->Prop} {b:Ψ->Ρ->Prop}:OV P T A env o σ a b=match o.op with
 | .call ⟨.value f,args,_⟩=>dcall P (ο env f) (args.toList.map (ο env)) σ a b
 | .panic _=>False
 | .defer _=>False
 | _=>(WT T A env o).Yp a ((Xa T A env σ o).Yp b):=X' rfl rfl
theorem uZ {a:Ψ} {K:Ψ->Prop} {s:Prop}:Zl.Yp (.ok a) K s=K a:=X' rfl rfl
theorem uY {p:Prop} {a:Ψ} {K:Ψ->Prop} {s:Prop}:Zl.Yp (.ZD p (.ok a)) K s=(p/\K a):=X' rfl rfl
theorem uX {K:Ψ->Prop} {s:Prop}:Zl.Yp .bad K s=s:=X' rfl rfl
theorem uW {a:Ψ} {σ:Ρ} {K:Ψ->Ρ->Prop}:Zi.Yp (.ok a σ) K=K a σ:=X' rfl rfl
theorem uV {p:Prop} {a:Ψ} {σ:Ρ} {K:Ψ->Ρ->Prop}:Zi.Yp (.ZD p (.ok a σ)) K=(p/\K a σ):=X' rfl rfl
def Vi (P:Program) (T:Z2) (A:κ) (nt:Nat) (ops:ZI):κ->Β->Ρ->List Bool->(Β->Ρ->Prop)->Prop
 | [],env,σ,tags,K=>S8 ops tags=true/\K env σ
 | i::is,env,σ,tags,K=>W' ops[i]? λo=>WS nt o=true/\W' (XG env ops o) λw=>
   Wt w (Vi P T A nt ops is (Zu o env .Zx) σ (tags++[false]) K)
    (OV P T A env o σ (λa=>Vi P T A nt ops is (Zu o env a) σ (tags++[false]) K) (λa σ'=>Vi P T A nt ops is (Zu o env a) σ' (tags++[true]) K))
def BH (P:Program) (T:Z2) (A:κ) (nt:Nat) (ops:ZI) (is:κ) (o:Oper) (env:Β) (σ:Ρ) (tags:List Bool) (K:Β->Ρ->Prop) (a:Ψ):Prop:=Vi P T A nt ops is (Zu o env a) σ (tags++[false]) K
def BG (P:Program) (T:Z2) (A:κ) (nt:Nat) (ops:ZI) (is:κ) (o:Oper) (env:Β) (tags:List Bool) (K:Β->Ρ->Prop) (a:Ψ) (σ':Ρ):Prop:=Vi P T A nt ops is (Zu o env a) σ' (tags++[true]) K
theorem YL {tags:List Bool} {K:Β->Ρ->Prop}:Vi P T A nt ops [] env σ tags K=(S8 ops tags=true/\K env σ):=X' rfl rfl
theorem Za {i:Nat} {is:κ} {tags:List Bool} {K:Β->Ρ->Prop}:Vi P T A nt ops (i::is) env σ tags K=W' ops[i]? λo=>WS nt o=true/\W' (XG env ops o) λw=>
   Wt w (Vi P T A nt ops is (Zu o env .Zx) σ (tags++[false]) K) (OV P T A env o σ (BH P T A nt ops is o env σ tags K) (BG P T A nt ops is o env tags K)):=X' U U
theorem uU {ops:ZI} {is:κ} {o:Oper} {tags:List Bool} {K:Β->Ρ->Prop} {a:Ψ}:BH P T A nt ops is o env σ tags K a=Vi P T A nt ops is (Zu o env a) σ (tags++[false]) K:=X' rfl rfl
theorem uT {ops:ZI} {is:κ} {o:Oper} {tags:List Bool} {K:Β->Ρ->Prop} {a:Ψ}:BG P T A nt ops is o env tags K a σ=Vi P T A nt ops is (Zu o env a) σ (tags++[true]) K:=X' rfl rfl
def VS (P:Program) (m nt:Nat) (k:ZA) (Z:XD) (E:Yb) (ops:ZI) (i:Nat) (o:Oper) (env:Β) (σ:Ρ) (b:Bool) (a:Ψ) (σ':Ρ):Prop:=
 if b then NZ P m nt k Z E ops i o env σ a σ'/\(We o=true->σ'=σ) else N0 P m nt k Z E ops i o env a/\σ'=σ
theorem uS {b:TypeId} {x a:Ψ} {σ':Ρ} {p:Prop} (h:Sa T b σ x=.ok a σ'\/Sa T b σ x=.ZD p (.ok a σ')):σ'=σ:=by
 unfold Sa QT at h
 repeat' split at h
 all_goals simp[Zl.YX] at h
 all_goals first|exact h.2.symm|skip
theorem uR {b:TypeId} {x c a:Ψ} {σ':Ρ} {p:Prop} (h:R9 T b σ x c=.ok a σ'\/R9 T b σ x c=.ZD p (.ok a σ')):σ'=σ:=by
 unfold R9 at h
 repeat' split at h
 all_goals simp at h
 all_goals first|exact h.2.2.symm|exact h.2.symm|skip
theorem uQ {b:TypeId} {f:Nat} {x a:Ψ} {σ':Ρ} {p:Prop} (h:R' T b f σ x=.ok a σ'\/R' T b f σ x=.ZD p (.ok a σ')):σ'=σ:=by
 unfold R' at h
 repeat' split at h
 all_goals simp at h
 all_goals first|exact h.2.2.symm|exact h.2.symm|skip
theorem uP {x a:Ψ} {σ':Ρ} {p:Prop} (h:R7 σ x=.ok a σ'\/R7 σ x=.ZD p (.ok a σ')):σ'=σ:=by
 unfold R7 at h
 repeat' split at h
 all_goals simp at h
 all_goals first|exact h.2.2.symm|exact h.2.symm|skip
theorem uO {b:TypeId} {x a:Ψ} {σ':Ρ} {p:Prop} (h:M0 T b σ x=.ok a σ'\/M0 T b σ x=.ZD p (.ok a σ')):σ'=σ:=by
 unfold M0 at h
 repeat' split at h
 all_goals first
  |(rcases h with h|h<;>cases h;done)
  |(rcases h with h|h<;>cases h;rfl)
theorem uN {b:TypeId} {x a:Ψ} {σ':Ρ} {p:Prop} (h:MU T b σ x=.ok a σ'\/MU T b σ x=.ZD p (.ok a σ')):σ'=σ:=by
 unfold MU at h
 repeat' split at h
 all_goals first
  |(rcases h with h|h<;>cases h;done)
  |(rcases h with h|h<;>cases h;rfl)
theorem uM {b:TypeId} {x a:Ψ} {lo hi:Option Ψ} {σ':Ρ} {p:Prop} (h:M1 T b σ x lo hi=.ok a σ'\/M1 T b σ x lo hi=.ZD p (.ok a σ')):σ'=σ:=by
 unfold M1 at h
 repeat' split at h
 all_goals first
  |(rcases h with h|h<;>cases h;done)
  |(rcases h with h|h<;>cases h;rfl)
theorem LA {o:Oper} {a:Ψ} {σ':Ρ} {p:Prop} (d:We o=true) (h:Xa T A env σ o=.ok a σ'\/Xa T A env σ o=.ZD p (.ok a σ')):σ'=σ:=by
 unfold We at d;unfold Xa at h;split at d
 .rename_i c x b;rw[b] at h;exact uS h
 .rename_i c x e b;rw[b] at h;exact uR h
 .rename_i c x f b;rw[b] at h;exact uQ h
 .rename_i x b;rw[b] at h;exact uP h
 .rename_i x c b;rw[b] at h;exact uO h
 .rename_i x c b;rw[b] at h;exact uN h
 .rename_i c x lo hi b;rw[b] at h;exact uM h
 .cases d
theorem uL (F:ZL P T) {i:Nat} {is:κ} {tags:List Bool} {K:Β->Ρ->Prop} (h:Vi P T A nt ops (i::is) env σ tags K) :
  ∃o a σ' H,ops[i]?=some o/\VS P m nt k Z E ops i o env σ H a σ'/\Vi P T A nt ops is (Zu o env a) σ' (tags++[H]) K:=by
 unfold Vi W' at h;split at h
 .exact h.elim
 .rename_i o d;obtain⟨hd,h⟩:=h;split at h
  .exact h.elim
  rename_i w t;unfold Wt at h;cases w
  .replace h:=h.1 U
   refine⟨o,.Zx,σ,false,d,?_,h⟩;unfold VS;simp only[Xq,if_false];exact⟨λenv' σ' rest b g=>.unwanted d (by rw[U2 b];exact t) hd g,trivial⟩
  .replace h:=h.2 U
   unfold OV at h;split at h
   .rename_i f args ts u;have I:∀env',R6 ops o env env'->ο env' f=ο env f/\args.toList.map (ο env')=args.toList.map (ο env):=λenv' b=>by
     have v:=J7 b;rw[u] at v;refine⟨v f (by simp[Op.operands,Call.operands]),J6 λx N=>v x (by simp[Op.operands,Call.operands,N])⟩
    rcases h with⟨r,l,h⟩|⟨r,σ',l,h⟩
    .refine⟨o,r,σ,false,d,?_,h⟩;unfold VS;simp only[Xq,if_false];refine⟨λenv' σ' rest b g=>.call d (by rw[U2 b];exact t) hd u ?_,trivial⟩;obtain⟨B,C⟩:=I env' b;rw[B,C];exact(l σ').mono (λa s ⟨x,y⟩=>by subst x;subst y;exact g) (λ_ _ h=>h.elim)
    .refine⟨o,r,σ',true,d,?_,h⟩;unfold VS;simp only[if_true];refine⟨?_,λe=>by unfold We at e;rw[u] at e;cases e⟩;refine λenv' rest b g=>.call d (by rw[U2 b];exact t) hd u ?_;obtain⟨B,C⟩:=I env' b;rw[B,C];exact l.mono (λa s ⟨x,y⟩=>by subst x;subst y;exact g) (λ_ _ h=>h.elim)
   .exact h.elim
   .exact h.elim
   .rename_i R S J;have L:∀(r:Zl) (a:Ψ),WT T A env o=r->(∀K:Ψ->Ρ->Prop,∀s,K a s->(r.YX s).holds K)->(∀σ s,r.or σ s=r.YX σ)->N0 P m nt k Z E ops i o env a:=λr a e D O env' σ' rest b g=>by
     refine .op (A:=A) F d (by rw[U2 b];exact t) hd (λc l=>J c l) ?_;rw[QN b,e,O];exact D _ _ g
    unfold Zl.Yp at h;split at h
    .rename_i a j;refine⟨o,a,σ,false,d,?_,h⟩;unfold VS;simp only[Xq,if_false];exact⟨L _ a j (λK s n=>n) (λ_ _=>rfl),trivial⟩
    .rename_i p a j;refine⟨o,a,σ,false,d,?_,h.2⟩;unfold VS;simp only[Xq,if_false];exact⟨L _ a j (λK s n=>⟨h.1,n⟩) (λ_ _=>rfl),trivial⟩
    .exact h.elim
    .rename_i Q;have M:∀(a:Ψ) (σ':Ρ) (r:Zi),Xa T A env σ o=r->(∀K:Ψ->Ρ->Prop,K a σ'->r.holds K)->NZ P m nt k Z E ops i o env σ a σ':=λa σ' r e D env' rest b g=>by
      refine .op (A:=A) F d (by rw[U2 b];exact t) hd (λc l=>J c l) ?_;rw[QN b,NY b,Q,e];exact D _ g
     unfold Zi.Yp at h;split at h
     .rename_i a σ' j;refine⟨o,a,σ',true,d,?_,h⟩;unfold VS;simp only[if_true];exact⟨M a σ' _ j λK n=>n,λe=>LA (p:=True) e (.inl j)⟩
     .rename_i p a σ' j;refine⟨o,a,σ',true,d,?_,h.2⟩;unfold VS;simp only[if_true];exact⟨M a σ' _ j λK n=>⟨h.1,n⟩,λe=>LA e (.inr j)⟩
     .exact h.elim
theorem E7 {env0:Β} {as9 a:Nat->Ψ} {b:Nat->Bool}:∀n,(∀j,j<n->as9 j=a j)->Zc ops env0 as9 b n=Zc ops env0 a b n:=by
 intro n
 induction n with
 | zero=>intro _;rfl
 | succ n c=>
  intro h;simp only[Zc];rw[c λj d=>h j I,h n (Pe n)]
theorem uK (t:ZL P T) {K:Β->Ρ->Prop} {env0:Β}:∀(d i:Nat) (tags:List Bool) (as9:Nat->Ψ) (σs:Nat->Ρ),i+d=ops.size->tags.length=i->
  (∀j o,j<i->ops[j]?=some o->VS P m nt k Z E ops j o (Zc ops env0 as9 (λ_=>true) j) (σs j) (tags.getD j false) (as9 j) (σs (j+1)))->
  Vi P T A nt ops (List.range' i d) (Zc ops env0 as9 (λ_=>true) i) (σs i) tags K->
  ∃(tags:List Bool) (as9:Nat->Ψ) (b:Nat->Ρ),S8 ops tags=true/\b 0=σs 0/\(∀j o,ops[j]?=some o->VS P m nt k Z E ops j o (Zc ops env0 as9 (λ_=>true) j) (b j) (tags.getD j false) (as9 j) (b (j+1)))/\K (Zc ops env0 as9 (λ_=>true) ops.size) (b ops.size):=by
 intro d
 induction d with
 | zero=>
  intro i tags as9 σs hi n g h;simp only[List.range'_zero,Vi] at h;have:i=ops.size:=I;subst this;exact⟨tags,as9,σs,h.1,U,λj o f=>g j o (Tr.1 f).1 f,h.2⟩
 | succ d u=>
  intro i tags as9 σs hi n g h;rw[List.range'_succ] at h;obtain⟨o,a,σ',l,f,v,h⟩:=uL (m:=m) (k:=k) (Z:=Z) (E:=E) t h;let c:Nat->Ψ:=λj=>if j=i then a else as9 j
  let b:Nat->Ρ:=λj=>if j=i+1 then σ' else σs j
  have p:∀j,j<=i->Zc ops env0 as9 (λ_=>true) j=Zc ops env0 c (λ_=>true) j:=λj g=>E7 j λx L=>by simp only[c];rw[if_neg I]
  have w:Zc ops env0 c (λ_=>true) (i+1)=Zu o (Zc ops env0 as9 (λ_=>true) i) a:=by
   simp only[Zc,if_true,f];rw[<-p i (ZY i)];simp only[c,if_true]
  have:=u (i+1) (tags++[l]) c b I (by simp[n]) (λj y M r=>?_) ?_
  .obtain⟨t2,B,C,D,F,H,J⟩:=this;exact⟨t2,B,C,D,F.trans (by simp only[b];rw[if_neg I]),H,J⟩
  .by_cases e:j=i
   .subst e;rw[f] at r;cases r;rw[<-p j (ZY j)];have s:(tags++[l]).getD j false=l:=by rw[V7,Xz I,n];simp
    rw[s];simp only[c,b,if_true];rw[if_neg I];exact v
   .have:=g j y I r;rw[<-p j I];have s:(tags++[l]).getD j false=tags.getD j false:=by rw[V7,YN I,<-V7]
    rw[s];simp only[c,b];rw[if_neg I,if_neg I,if_neg I];exact this
  .rw[w];simp only[b,if_true];exact h
theorem W.draw (s:ZL P T) (u:P.follows .mixedOrders=true) {id:Nat} (h:∀d:Β->Ρ->Prop,(∀env σ,W P m nt k env σ Z E->d env σ)->Vi P T A nt ops (idx ops.size []) env σ [] d):W P m nt (.code (.region id ops true)::k) env σ Z E:=by
 have e:=h (λenv σ=>W P m nt k env σ Z E) λ_ _ h=>h;rw[idx_eq,I1] at e;obtain⟨tags,as9,σs,v,w,f,y⟩:=uK (m:=m) (k:=k) (Z:=Z) (E:=E) (env0:=env) s ops.size 0 [] (λ_=>.Zx) (λ_=>σ) I U (λj o C=>I) e;intro D mn x cs b S B H t g l F J K;refine .draw g l λn=>?_;have p:=W.u7 (P:=P) (m:=m) (nt:=nt) (k:=k) (Z:=Z) (E:=E) (ops:=ops) (as9:=as9) (σs:=σs) (tags:=tags) (env0:=env) v
  (λi o a c=>by have:=f i o a;unfold VS at this;rw[c] at this;simpa using this)
  (λi o a c=>by have:=f i o a;unfold VS at this;rw[c] at this;simpa using this)
  (.ZM y) ops.size n (Array.replicate ops.size false) env 0 Ω (λi=>?_) (λi o a r=>?_) (Ζ _) (λj C _=>?_) ?_
 .rw[w] at p;rw[u];simp only[Region.schedule,Bool.true_or,if_true,Region.linearise];exact p D mn x cs b S B H t g l F J K
 .have:∀n,Zc ops env as9 (λi=>(Array.replicate ops.size false).getD i false) n=env:=by
   intro n
   induction n with
   | zero=>rfl
   | succ n L=>
    simp only[Zc];have:(Array.replicate ops.size false).getD n false=false:=by
     rw[Wn,Nx];split<;>rfl
    rw[if_neg (by rw[this];simp)];exact L
  rw[this]
 .have:(Array.replicate ops.size false).getD i false=false:=by
   rw[Wn,Nx];split<;>rfl
  rw[this] at r;cases r
 .have:(Array.replicate ops.size false).getD j false=false:=by
   rw[Wn,Nx];split<;>rfl
  rw[this];simp
 .have:=Mc (λi=>!(Array.replicate ops.size false).getD i false) (List.range ops.size);simpa using this
theorem BF {K K':Β->Ρ->Prop} (j:∀e s,K e s->K' e s):∀(is:κ) (env:Β) (σ:Ρ) (tags:List Bool),Vi P T A nt ops is env σ tags K->Vi P T A nt ops is env σ tags K':=by
 intro is
 induction is with
 | nil=>intro env σ tags h;exact⟨h.1,j _ _ h.2⟩
 | cons i is b=>
  intro env σ tags h;unfold Vi W' at h ⊢;cases d:ops[i]? with
  | none=>rw[d] at h;exact h.elim
  | some o=>
   rw[d] at h;simp only at h ⊢;refine⟨h.1,?_⟩
   replace h:=h.2
   cases g:XG env ops o with
   | none=>rw[g] at h;exact h.elim
   | some w=>
    rw[g] at h;unfold Wt at h ⊢;refine⟨λe=>b _ _ _ (h.1 e),λe=>?_⟩
    replace h:=h.2 e
    unfold OV at h ⊢;split
    .rename_i f args ts a;rw[a] at h;simp only at h;rcases h with⟨r,c,h⟩|⟨r,σ',c,h⟩
     .exact .inl ⟨r,c,b _ _ _ h⟩
     .exact .inr ⟨r,σ',c,b _ _ _ h⟩
    .rename_i a;rw[a] at h;exact h
    .rename_i a;rw[a] at h;exact h
    .rename_i k l m;split at h
     .rename_i f args ts a;exact absurd a (k f args ts)
     .rename_i y a;exact absurd a (l y)
     .rename_i y a;exact absurd a (m y)
     .unfold Zl.Yp at h ⊢;split at h
      .exact b _ _ _ h
      .exact⟨h.1,b _ _ _ h.2⟩
      .exact h.elim
      .unfold Zi.Yp at h ⊢;split at h
       .exact b _ _ _ h
       .exact⟨h.1,b _ _ _ h.2⟩
       .exact h.elim
theorem W.J5 (b:ZL P T) (c:P.follows .mixedOrders=true) (a:Β) {id:Nat} (h:W P m nt k a σ Z E) (d:Vi P T A nt ops (idx ops.size []) env σ [] (λe s=>s=σ/\∀p∈a,ι e p.1=p.2)):W P m nt (.code (.region id ops true)::k) env σ Z E:=
 W.draw b c λj f=>BF (λe s ⟨g,i⟩=>f e s (g▸W.forget a i h)) _ _ _ _ d
end
def U1 {a:Type}:List a->κ->List a->List a
 | l,i::ρ,x::b=>U1 (l.set i x) ρ b
 | l,_,_=>l
theorem OU {b:Type}:∀(ρ:κ) (l a:List b),(U1 l ρ a).length=l.length:=by
 intro ρ
 induction ρ with
 | nil=>intro l a;cases a<;>rfl
 | cons i ρ c=>intro l a;cases a with
  | nil=>rfl
  | cons x a=>simp[U1,c]
theorem E6 {b:Type} {i:Nat}:∀(ρ:κ) (l a:List b),i∉ρ->(U1 l ρ a)[i]?=l[i]?:=by
 intro ρ
 induction ρ with
 | nil=>intro l a _;cases a<;>rfl
 | cons j ρ c=>intro l a h;cases a with
  | nil=>rfl
  | cons x a=>
   simp only[U1];rw[c _ _ (λd=>h (by simp[d])),Xj (λe=>h (by simp[e]))]
theorem BE {e:Type}:∀(ρ:κ) (l b:List e),ρ.Nodup->(∀i∈ρ,i<l.length)->∀(j i:Nat) (x:e),ρ[j]?=some i->b[j]?=some x->(U1 l ρ b)[i]?=some x:=by
 intro ρ
 induction ρ with
 | nil=>intro l b _ _ j i x h;simp at h
 | cons a ρ g=>
  intro l b k f j i x d c;cases b with
  | nil=>simp at c
  | cons y b=>
   simp only[U1];obtain⟨m,n⟩:=Q5.1 k;cases j with
   | zero=>
    simp at d c;subst d;subst c;rw[E6 ρ _ _ m,Xs (f a Ω)]
   | succ j=>
    simp only[List.getElem?_cons_succ] at d c;exact g _ _ n (λi hi=>by simp;exact f i (by simp[hi])) j i x d c
def V1 (ρ:κ):Ψ->Ψ
 | .π id n i j=>.π (ρ.getD id 0) n i j
 | .ms id n i len=>.ms (ρ.getD id 0) n i len
 | .mp id=>.mp (ρ.getD id 0)
 | .it id=>.it (ρ.getD id 0)
 | a=>a
def X5 (ρ:κ):Ψ->Ψ
 | .fn f b cs=>.fn f (b.map (V1 ρ)) (cs.map (V1 ρ))
 | .Z6 l=>.Z6 (l.map (V1 ρ))
 | .ε l=>.ε (l.map (V1 ρ))
 | a=>V1 ρ a
def NX (h:Nat) (a:Ψ):Prop:=match a with
 | .π id _ _ _|.ms id _ _ _|.mp id|.it id=>id<h
 | a=>η 0 a
def WR (h:Nat) (a:Ψ):Prop:=match a with
 | .fn _ b cs=>(∀a∈b,NX h a)/\∀a∈cs,NX h a
 | .Z6 l|.ε l=>∀a∈l,NX h a
 | a=>NX h a
structure Names (ρ:κ) (a:δ) (σ0:Ρ) (b:δ) (c:Ρ):Prop where
 row:∀(j i:Nat),ρ[j]?=some i->c[i]?=σ0[j]?
 blk:∀(j i:Nat),ρ[j]?=some i->b[i]?=a[j]?
section
variable {S:ς} {Hp W9:δ} {σ0 Sz:Ρ} {ρ:κ}
theorem Ho {ρ:κ} {j:Nat} (h:j<ρ.length):ρ[j]?=some (ρ.getD j 0):=by
 rw[V7,Z4 h];rfl
theorem Ub (g:Names ρ Hp σ0 W9 Sz) {a:Ψ} {v:Value} (m:NX ρ.length a):Θ S W9 Sz (V1 ρ a) v↔Θ S Hp σ0 a v:=by
 cases a with
 | π id n i j=>
  have f:=Ho (ρ:=ρ) m
  have d:=g.row _ _ f
  have e:=g.blk _ _ f;constructor
  .intro h;cases h with
   | π b c k=>exact .π (by rw[<-d];exact b) c (by rw[<-e];exact k)
   | VI v b c l=>exact .VI v (by rw[<-d];exact b) c l
  .intro h;cases h with
   | π b c k=>exact .π (by rw[d];exact b) c (by rw[e];exact k)
   | VI v b c l=>exact .VI v (by rw[d];exact b) c l
 | ms id n i len=>
  have f:=Ho (ρ:=ρ) m
  have d:=g.row _ _ f
  have e:=g.blk _ _ f;constructor
  .intro h;cases h with
   | ms cap b c k o p r=>exact .ms cap (by rw[<-d];exact b) c (by rw[<-e];exact k) o p r
   | Wu v b c l=>exact .Wu v (by rw[<-d];exact b) c l
  .intro h;cases h with
   | ms cap b c k o p r=>exact .ms cap (by rw[d];exact b) c (by rw[e];exact k) o p r
   | Wu v b c l=>exact .Wu v (by rw[d];exact b) c l
 | mp id=>
  have f:=Ho (ρ:=ρ) m
  have d:=g.row _ _ f
  have e:=g.blk _ _ f;constructor
  .intro h;cases h with
   | mp b c=>exact .mp (by rw[<-d];exact b) (by rw[<-e];exact c)
   | Uf v b=>exact .Uf v (by rw[<-d];exact b)
  .intro h;cases h with
   | mp b c=>exact .mp (by rw[d];exact b) (by rw[e];exact c)
   | Uf v b=>exact .Uf v (by rw[d];exact b)
 | it id=>
  have f:=Ho (ρ:=ρ) m
  have d:=g.row _ _ f
  have e:=g.blk _ _ f;constructor
  .intro h;cases h with
   | it b c=>exact .it (by rw[<-d];exact b) (by rw[<-e];exact c)
   | SC b c=>exact .SC (by rw[<-d];exact b) (by rw[<-e];exact c)
   | TM v b=>exact .TM v (by rw[<-d];exact b)
  .intro h;cases h with
   | it b c=>exact .it (by rw[d];exact b) (by rw[e];exact c)
   | SC b c=>exact .SC (by rw[d];exact b) (by rw[e];exact c)
   | TM v b=>exact .TM v (by rw[d];exact b)
 | _=>exact⟨λh=>h.any m _ _,λh=>h.any m _ _⟩
theorem Hn {f:Ψ->Ψ} {l:ψ} {i:Nat} {a:Ψ} (h:(l.map f)[i]?=some a):∃b,l[i]?=some b/\a=f b:=by
 rw[Ys] at h;cases c:l[i]? with
 | none=>rw[c] at h;cases h
 | some b=>rw[c] at h;cases h;exact⟨b,rfl,rfl⟩
theorem E5 (c:Names ρ Hp σ0 W9 Sz) {a:Ψ} {v:Value} (d:WR ρ.length a):Θ S W9 Sz (X5 ρ a) v↔Θ S Hp σ0 a v:=by
 cases a with
 | fn f s cs=>
  constructor
  .intro h;cases h with
   | fn vs o e g p r=>
    refine .fn vs o (by simpa using e) (by simpa using g) (λi a v hi hv=>?_) (λi a v hi hv=>?_)
    .exact(Ub c (d.1 a (ZH hi))).1 (p i _ v (by rw[Ys,hi];rfl) hv)
    .exact(Ub c (d.2 a (ZH hi))).1 (r i _ v (by rw[Ys,hi];rfl) hv)
  .intro h;cases h with
   | fn vs o e g p r=>
    refine .fn vs o (by simpa using e) (by simpa using g) (λi a v hi hv=>?_) (λi a v hi hv=>?_)
    .obtain⟨b,m,rfl⟩:=Hn hi;exact(Ub c (d.1 b (ZH m))).2 (p i b v m hv)
    .obtain⟨b,m,rfl⟩:=Hn hi;exact(Ub c (d.2 b (ZH m))).2 (r i b v m hv)
 | Z6 l=>
  constructor
  .intro h;cases h with
   | Z6 vs e g=>exact .Z6 vs (by simpa using e) λi a v hi hv=>(Ub c (d a (ZH hi))).1 (g i _ v (by rw[Ys,hi];rfl) hv)
  .intro h;cases h with
   | Z6 vs e g=>
    refine .Z6 vs (by simpa using e) λi a v hi hv=>?_;obtain⟨b,m,rfl⟩:=Hn hi;exact(Ub c (d b (ZH m))).2 (g i b v m hv)
 | ε l=>
  constructor
  .intro h;cases h with
   | ε vs e g=>exact .ε vs (by simpa using e) λi a v hi hv=>(Ub c (d a (ZH hi))).1 (g i _ v (by rw[Ys,hi];rfl) hv)
  .intro h;cases h with
   | ε vs e g=>
    refine .ε vs (by simpa using e) λi a v hi hv=>?_;obtain⟨b,m,rfl⟩:=Hn hi;exact(Ub c (d b (ZH m))).2 (g i b v m hv)
 | z u=>exact Ub (a:=.z u) c d
 | Ν l=>exact Ub (a:=.Ν l) c d
 | sl ex k l=>exact Ub (a:=.sl ex k l) c d
 | π id n i j=>exact Ub (a:=.π id n i j) c d
 | ms id n i len=>exact Ub (a:=.ms id n i len) c d
 | Xi t a=>exact Ub (a:=.Xi t a) c d
 | mp id=>exact Ub (a:=.mp id) c d
 | it id=>exact Ub (a:=.it id) c d
 | Zx=>exact Ub (a:=.Zx) c d
end
section
variable {P:Program} {S S':ς} {B:δ} {H H':Υ} {σ:Ρ}
def S6 (r:Row):Prop:=match r with|.cells _ _ l=>∀e∈l,∀a∈e.cells,η 0 a|_=>False
def Hm (r:Row):Prop:=S6 r\/r=.dead
theorem Wi.plain {B':δ} {σ':Ρ} {r:Row} {bo:Option (Nat×Nat)} (c:S6 r) (h:Wi S B σ H r bo) (g:δ) (m:Ρ):Wi S g m H r bo:=by
 cases r with
 | cells t k l=>
  cases bo with
  | none=>exact h
  | some x=>
   obtain⟨b,N⟩:=x;obtain⟨n,o,p,w,d⟩:=h;refine⟨n,o,p,w,λi e hi=>⟨(d i e hi).1,λj a f=>?_⟩⟩;obtain⟨c1,c2,s⟩:=(d i e hi).2 j a f;exact⟨c1,c2.any (c e (ZH hi) a (ZH f)) _ _,s⟩
 | _=>exact c.elim
theorem Wi.uJ {B':δ} {σ':Ρ} {r:Row} {bo:Option (Nat×Nat)} (a:Hm r) (h:Wi S B σ H r bo) (b:δ) (c:Ρ):Wi S b c H r bo:=by
 rcases a with a|rfl
 .exact Wi.plain (B':=B') (σ':=σ') a h b c
 .trivial
theorem Holds.BD (s:Holds S B σ H) {ρ:κ} {J:Ρ} (ay:ρ.Nodup) (ag:ρ.length=J.length) (ah:∀(j i:Nat),ρ[j]?=some i->σ[i]?=J[j]?) (aK:∀r∈J,S6 r)
  {d:δ} {σ0:Ρ} (C:Ext S (ρ.map λi=>B.getD i none) H S' d H') (az:ZJ S S' (ρ.map λi=>B.getD i none) d J σ0) (T:Holds S' d σ0 H') (aL:∀r∈σ0,Hm r) :
  let t:=U1 σ ρ σ0++σ0.drop ρ.length
  let m:=U1 B ρ d++d.drop ρ.length
  Holds S' m t H'/\Ext S B H S' m H'/\ZJ S S' B m σ t/\Names (ρ++(List.range (σ0.length-ρ.length)).map (σ.length + ·)) d σ0 m t:=by
 intro t m;have ai:∀i∈ρ,i<σ.length:=λi hi=>by
  obtain⟨j,a⟩:=TU hi;have n:j<J.length:=by rw[<-ag];exact(ZR.1 a).1
  have:=ah j i a;rw[Z4 n] at this;exact(ZR.1 this).1
 have Y:∀i∈ρ,i<B.length:=λi hi=>by rw[s.len];exact ai i hi
 have aW:ρ.length<=σ0.length:=by rw[ag];exact az.length
 have aM:d.length=σ0.length:=T.len
 have aN:∀(j i:Nat),ρ[j]?=some i->(ρ.map λi=>B.getD i none)[j]?=B[i]?:=λj i a=>by
  have hi:=Y i (ZH a);rw[Ys,a];simp[hi]
 have aj:∀(j i:Nat),ρ[j]?=some i->t[i]?=σ0[j]?:=λj i a=>by
  have hi:=ai i (ZH a)
  have n:j<σ0.length:=by have:=(ZR.1 a).1;omega
  show(U1 σ ρ σ0++_)[i]?=_;rw[YN (by rw[OU];exact hi),Z4 n];exact BE ρ σ σ0 ay ai j i _ a (Z4 n)
 have ak:∀(j i:Nat),ρ[j]?=some i->m[i]?=d[j]?:=λj i a=>by
  have hi:=Y i (ZH a)
  have n:j<d.length:=by have:=(ZR.1 a).1;omega
  show(U1 B ρ d++_)[i]?=_;rw[YN (by rw[OU];exact hi),Z4 n];exact BE ρ B d ay Y j i _ a (Z4 n)
 have al:∀i,i<σ.length->i∉ρ->t[i]?=σ[i]?:=λi hi g=>by
  show(U1 σ ρ σ0++_)[i]?=_;rw[YN (by rw[OU];exact hi),E6 ρ _ _ g]
 have am:∀i,i<σ.length->i∉ρ->m[i]?=B[i]?:=λi hi g=>by
  show(U1 B ρ d++_)[i]?=_;rw[YN (by rw[OU,s.len];exact hi),E6 ρ _ _ g]
 have aA:∀x,t[σ.length+x]?=σ0[ρ.length+x]?:=λx=>by
  show(U1 σ ρ σ0++_)[_]?=_;rw[Xz (by rw[OU];omega),OU,Va];congr 1;omega
 have aB:∀x,m[σ.length+x]?=d[ρ.length+x]?:=λx=>by
  show(U1 B ρ d++_)[_]?=_;rw[Xz (by rw[OU,s.len];omega),OU,s.len,Va];congr 1;omega
 have U:∀(i:Nat) (r:Row),t[i]?=some r->(i<σ.length/\i∉ρ/\σ[i]?=some r/\m[i]?=B[i]?)\/∃j,σ0[j]?=some r/\m[i]?=d[j]?/\(∀w D,(w<σ.length->ρ[D]?=some w)->(¬w<σ.length->D=ρ.length+(w-σ.length))->j=D->i=w)/\((i<σ.length->ρ[j]?=some i)/\(¬i<σ.length->j=ρ.length+(i-σ.length))):=λi r f=>by
  by_cases hi:i<σ.length
  .by_cases g:i∈ρ
   .obtain⟨j,a⟩:=TU g;refine .inr ⟨j,by rw[<-aj j i a];exact f,ak j i a,λw D K p e=>?_,λ_=>a,λh=>absurd hi h⟩;subst e;by_cases V:w<σ.length
    .have:=K V;rw[a] at this;cases this;rfl
    .have:=p V;have:=(ZR.1 a).1;omega
   .exact .inl ⟨hi,g,by rw[<-al i hi g];exact f,am i hi g⟩
  .have e:i=σ.length+(i-σ.length):=I
   refine .inr ⟨ρ.length+(i-σ.length),by rw[<-aA,<-e];exact f,by rw[<-aB,<-e],λw D K p aX=>?_,λh=>absurd h hi,λ_=>rfl⟩;by_cases V:w<σ.length
   .have:=(ZR.1 (K V)).1;omega
   .have:=p V;omega
 have aC:m.length=t.length:=by
  show(U1 B ρ d++d.drop ρ.length).length=(U1 σ ρ σ0++σ0.drop ρ.length).length;simp[OU,s.len,aM]
 have aD:ZJ S S' B m σ t:=⟨C.Zf,λid r f=>by
  have hi:=(ZR.1 f).1;by_cases g:id∈ρ
  .obtain⟨j,a⟩:=TU g;have aO:J[j]?=some r:=by rw[<-ah j id a];exact f
   obtain⟨r',k,c⟩:=az.rows j r aO;exact⟨r',by rw[aj j id a];exact k,by rw[ak j id a,<-aN j id a];exact c⟩
  .exact⟨r,by rw[al id hi g];exact f,by rw[am id hi g];exact r.Tb _⟩⟩
 have Z:∀b,δ.has (ρ.map λi=>B.getD i none) b->∃j i N,ρ[j]?=some i/\B[i]?=some (some (b,N)):=λb ⟨N,an⟩=>by
  obtain⟨j,a⟩:=TU an;rw[Ys] at a;cases Q:ρ[j]? with
  | none=>rw[Q] at a;cases a
  | some i=>
   rw[Q] at a;simp only[Option.map_some,Q6] at a;have hi:=Y i (ZH Q);rw[V7,Z4 hi] at a;exact⟨j,i,N,Q,by rw[Z4 hi];simpa using a⟩
 have aE:∀(j i:Nat),ρ[j]?=some i->∃r,σ[i]?=some r/\r.live/\S6 r:=λj i a=>by
  have n:j<J.length:=by rw[<-ag];exact(ZR.1 a).1
  have f:=Z4 n
  have ao:=aK _ (ZH f);refine⟨_,by rw[ah j i a];exact f,?_,ao⟩;cases Q:J[j]<;>rw[Q] at ao<;>first|trivial|exact ao.elim
 have aa:∀(id:Nat) (r:Row) (b N:Nat),id∉ρ->σ[id]?=some r->r.live->B[id]?=some (some (b,N))->¬δ.has (ρ.map λi=>B.getD i none) b/\¬H.fresh b/\Vk H H' b:=λid r b N g f y l=>by
  have c1:¬δ.has (ρ.map λi=>B.getD i none) b:=λap=>by
   obtain⟨j,i,ab,K,p⟩:=Z b ap;obtain⟨r',k,c,_⟩:=aE j i K;exact s.inj id i r r' b N ab (λe=>g (e▸ZH K)) f k y c l p
  have c2:=s.Sd f y l;exact⟨c1,c2,(C.X0 b c1 c2).QV λo=>s.sep id r b N f y l o⟩
 refine⟨⟨T.Zf,aC,λi r bo f R=>?_,λi j A E b L P aF hi a ad ae M O=>?_,λi r b N f y l o=>?_⟩,⟨C.Zf,λb l aP=>?_,λb l=>?_,λb o v hv=>?_,C.grow⟩,aD,⟨λj i a=>?_,λj i a=>?_⟩⟩
 .rcases U i r f with⟨k,c,u,F⟩|⟨j,k,c,_,_⟩
  .by_cases y:r.live
   .rw[F] at R;refine(s.row i r bo u R).later aD (λb N e=>(aa i r b N c u y (by rw[R,e])).2.2) λW left aY e=>?_;subst e;obtain⟨_,_,aZ,a0,a1,a2,seen,_,a3,⟨es,aq⟩,_⟩:=s.row i _ bo u R;have ar:W∉ρ:=λaQ=>by
     obtain⟨j,a⟩:=TU aQ;obtain⟨r',aG,_,aR⟩:=aE j W a;rw[aq] at aG;cases aG;exact aR
    have aH:=(ZR.1 aq).1;exact⟨al W aH ar,am W aH ar,λb N l=>(aa W _ b N ar aq trivial l).2.2⟩
   .cases r<;>first|exact absurd trivial y|trivial
  .rw[c] at R;exact(T.row j r bo k R).uJ (B':=m) (σ':=t) (aL r (ZH k)) _ _
 .have aI:∀(i:Nat) (A:Row) (L:Nat) (D:Nat) (E:Row) (P:Nat),i∉ρ->σ[i]?=some A->A.live->B[i]?=some (some (b,L))->σ0[D]?=some E->E.live->d[D]?=some (some (b,P))->False:=λi A L D E P K p aS aT a4 a5 aU=>by
   obtain⟨c1,c2,_⟩:=aa i A b L K p aS aT;rcases C.blocks b (TI aU) with h|h
   .exact c1 h
   .exact c2 h
  rcases U i A hi with⟨k,c,u,F⟩|⟨aJ,k,c,u,F⟩<;>rcases U j E a with⟨au,af,av,X⟩|⟨aw,au,af,av,X⟩
  .rw[F] at M;rw[X] at O;exact s.inj i j A E b L P aF u av ad ae M O
  .rw[F] at M;rw[af] at O;exact aI i A L aw E P c u ad M au ae O
  .rw[c] at M;rw[X] at O;exact aI j E P aJ A L af av ae O k ad M
  .rw[c] at M;rw[af] at O;refine T.inj aJ aw A E b L P (λe=>aF ?_) k au ad ae M O;exact u j aw X.1 X.2 e
 .rcases U i r f with⟨k,c,u,F⟩|⟨j,k,c,_,_⟩
  .rw[F] at l;obtain⟨c1,c2,_⟩:=aa i r b N c u y l;cases hv:S' b o with
   | none=>rfl
   | some v=>
    rcases C.TJ b o v hv with h|h|h
    .rw[s.sep i r b N u y l o] at h;cases h
    .exact absurd h c1
    .exact absurd h c2
  .rw[c] at l;exact T.sep j r b N k y l o
 .refine C.X0 b (λap=>l ?_) aP;obtain⟨j,i,ab,_,p⟩:=Z b ap;exact TI p
 .obtain⟨N,an⟩:=l;obtain⟨i,hi⟩:=TU an;have aV:i<t.length:=by rw[<-aC];exact(ZR.1 hi).1
  rcases U i _ (Z4 aV) with⟨k,c,u,F⟩|⟨j,k,c,_,_⟩
  .rw[F] at hi;exact .inl (TI hi)
  .rw[c] at hi;rcases C.blocks b (TI hi) with h|h
   .obtain⟨j,w,ab,_,p⟩:=Z b h;exact .inl (TI p)
   .exact .inr h
 .rcases C.TJ b o v hv with h|h|h
  .exact .inl h
  .obtain⟨j,w,ab,_,p⟩:=Z b h;exact .inr (.inl (TI p))
  .exact .inr (.inr h)
 .by_cases n:j<ρ.length
  .rw[YN n] at a;exact aj j i a
  .rw[Xz I,Ys] at a;have ax:j-ρ.length<σ0.length-ρ.length:=by
    apply TW;intro g;rw[W4 (by simp;omega)] at a;cases a
   rw[Z4 (by simpa using ax)] at a;simp at a;subst a;rw[aA];congr 1;omega
 .by_cases n:j<ρ.length
  .rw[YN n] at a;exact ak j i a
  .rw[Xz I,Ys] at a;have ax:j-ρ.length<σ0.length-ρ.length:=by
    apply TW;intro g;rw[W4 (by simp;omega)] at a;cases a
   rw[Z4 (by simpa using ax)] at a;simp at a;subst a;rw[aB];congr 1;omega
def names (ρ:κ) (n:Nat) (σ0:Ρ):κ:=ρ++(List.range (σ0.length-ρ.length)).map (n + ·)
def Lz (σ:Ρ) (ρ:κ) (σ0:Ρ):Ρ:=U1 σ ρ σ0++σ0.drop ρ.length
theorem Μ.uI {g:FuncId} {y:ψ} {k:Ρ} {K:Ψ->Ρ->Prop} {E:Ψ->Ρ->Prop} (h:Μ P g y k K E) (ρ:κ) (A:ρ.Nodup) (p:ρ.length=k.length) (t:∀(j i:Nat),ρ[j]?=some i->σ[i]?=k[j]?) (C:∀r∈k,S6 r)
  (has:∀a∈y,WR ρ.length a) {K':Ψ->Ρ->Prop} {E':Ψ->Ρ->Prop} (aa:∀a s,K a s->(∀r∈s,Hm r)/\WR s.length a/\K' (X5 (names ρ σ.length s) a) (Lz σ ρ s))
  (ab:∀a s,E a s->(∀r∈s,Hm r)/\WR s.length a/\E' (X5 (names ρ σ.length s) a) (Lz σ ρ s)):Μ P g (y.map (X5 ρ)) σ K' E':=by
 refine⟨h.1,λad mn x c rest S B H vs ae l hv W=>?_⟩;have af:∀(j i:Nat),ρ[j]?=some i->i<σ.length:=λj i d=>by
  have D:j<k.length:=by rw[<-p];exact(ZR.1 d).1
  have:=t j i d;rw[Z4 D] at this;exact(ZR.1 this).1
 have X:∀(j i:Nat),ρ[j]?=some i->(ρ.map λi=>B.getD i none)[j]?=B[i]?:=λj i d=>by
  have hi:i<B.length:=by rw[l.len];exact af j i d
  rw[Ys,d];simp[hi]
 have ag:Names ρ (ρ.map λi=>B.getD i none) k B σ:=⟨t,λj i d=>(X j i d).symm⟩
 have pick:∀(j:Nat) (r:Row) (bo:Option (Nat×Nat)),k[j]?=some r->(ρ.map λi=>B.getD i none)[j]?=some bo->∃i,ρ[j]?=some i/\σ[i]?=some r/\B[i]?=some bo:=λj r bo f F=>by
  have D:j<ρ.length:=by rw[p];exact(ZR.1 f).1
  have d:=Z4 D;exact⟨_,d,by rw[t j _ d];exact f,by rw[<-X j _ d];exact F⟩
 have ah:Holds S (ρ.map λi=>B.getD i none) k H:=by
  refine⟨l.Zf,by simp[p],λj r bo f F=>?_,λi j Y Z b ai aj ak hi d al am an ao=>?_,λj r b N f ap aq o=>?_⟩
  .obtain⟨i,m,n,u⟩:=pick j r bo f F;exact(l.row i r bo n u).plain (B':=B) (σ':=σ) (C r (ZH f)) _ _
  .obtain⟨ar,m,n,u⟩:=pick i Y _ hi an;obtain⟨au,av,aw,ax⟩:=pick j Z _ d ao;refine l.inj ar au Y Z b ai aj (λe=>ak ?_) n aw al am u ax;subst e;have ay:=(ZR.1 m).1;exact(List.getElem?_inj ay A).1 (m.trans av.symm)
  .obtain⟨i,m,n,u⟩:=pick j r _ f aq;exact l.sep i r b N n ap u o
 refine h.2 ad mn x c rest S _ H vs ae ah ⟨by have:=hv.1;simpa using this,λi a v m n=>(E5 ag (has a (ZH m))).1 (hv.2 i _ v (by rw[Ys,m];rfl) n)⟩ ⟨λa σ' S' B' H' v I J w L f=>?_,λa σ' S' B' H' v I J w L f=>?_⟩
 .obtain⟨M,O,Q⟩:=aa a σ' I;obtain⟨R,T,U,V⟩:=l.BD A p t C J w L M;refine W.ret _ _ S' _ H' v Q T U R ((E5 V ?_).2 f);have:(ρ++(List.range (σ'.length-ρ.length)).map (σ.length + ·)).length=σ'.length:=by
   have:=w.length;simp;omega
  rw[this];exact O
 .obtain⟨M,O,Q⟩:=ab a σ' I;obtain⟨R,T,U,V⟩:=l.BD A p t C J w L M;refine W.LD _ _ S' _ H' v Q T U R ((E5 V ?_).2 f);have:(ρ++(List.range (σ'.length-ρ.length)).map (σ.length + ·)).length=σ'.length:=by
   have:=w.length;simp;omega
  rw[this];exact O
theorem Μ.rows {g:FuncId} {c:ψ} {b:Ρ} {K:Ψ->Ρ->Prop} {E:Ψ->Ρ->Prop} (h:Μ P g c b K E) (ρ:κ) (e:ρ.Nodup) (f:ρ.length=b.length) (k:∀(j i:Nat),ρ[j]?=some i->σ[i]?=b[j]?) (l:∀r∈b,S6 r)
  (has:∀a∈c,WR ρ.length a) {K':Ψ->Ρ->Prop} {E':Ψ->Ρ->Prop} (m:∀a s,K a s->(∀r∈s,S6 r)/\WR s.length a/\K' (X5 (names ρ σ.length s) a) (Lz σ ρ s))
  (n:∀a s,E a s->(∀r∈s,S6 r)/\WR s.length a/\E' (X5 (names ρ σ.length s) a) (Lz σ ρ s)):Μ P g (c.map (X5 ρ)) σ K' E':=
 h.uI ρ e f k l has (λa s x=>let ⟨p,q⟩:=m a s x;⟨λr d=>.inl (p r d),q⟩) (λa s x=>let ⟨p,q⟩:=n a s x;⟨λr d=>.inl (p r d),q⟩)
end
def Yx (a b:Ψ):Prop:=∀(S:ς) (B:δ) (σ:Ρ) (v:Value),Θ S B σ a v->Θ S B σ b v
def Zw (l m:ψ):Prop:=l.length=m.length/\∀(i:Nat) (a b:Ψ),l[i]?=some a->m[i]?=some b->Yx a b
theorem Yx.refl (a:Ψ):Yx a a:=λ_ _ _ _ h=>h
theorem Yx.of {a b:Ψ} (h:a=b):Yx a b:=h▸.refl a
theorem Yx.trans {a b c:Ψ} (h:Yx a b) (k:Yx b c):Yx a c:=λS B σ v x=>k S B σ v (h S B σ v x)
theorem Zw.refl (l:ψ):Zw l l:=⟨rfl,λi a b h k=>by rw[h] at k;cases k;exact .refl a⟩
theorem Zw.nil:Zw [] []:=.refl []
theorem Zw.cons {a b:Ψ} {l m:ψ} (h:Yx a b) (k:Zw l m):Zw (a::l) (b::m):=⟨by simp[k.1],λi x y c d=>by
 cases i with
 | zero=>simp at c d;subst c;subst d;exact h
 | succ i=>exact k.2 i x y (by simpa using c) (by simpa using d)⟩
theorem Yx.Z6 {l m:ψ} (h:Zw l m):Yx (.Z6 l) (.Z6 m):=λS B σ v x=>by
 cases x with
 | Z6 vs c d=>
  refine .Z6 vs (h.1.symm.trans c) λi b v hi hv=>?_;have e:i<l.length:=by rw[h.1];exact(ZR.1 hi).1
  have a:=Z4 e;exact h.2 i _ b a hi S B σ v (d i _ v a hv)
theorem Yx.ε {l m:ψ} (h:Zw l m):Yx (.ε l) (.ε m):=λS B σ v x=>by
 cases x with
 | ε vs c d=>
  refine .ε vs (h.1.symm.trans c) λi b v hi hv=>?_;have e:i<l.length:=by rw[h.1];exact(ZR.1 hi).1
  have a:=Z4 e;exact h.2 i _ b a hi S B σ v (d i _ v a hv)
theorem Yx.sl {e:Bool} {k:Nat} {l m:ψ} (p:l.length=m.length) (h:∀(i:Nat) (a b:Ψ),l[i]?=some a->m[i]?=some b->Zw a.cells b.cells):Yx (.sl e k l) (.sl false k m):=λS B σ v x=>by
 have r:∀(i:Nat) (b:Ψ),m[i]?=some b->∃a,l[i]?=some a/\Zw a.cells b.cells:=λi b hi=>by
  have d:i<l.length:=by rw[p];exact(ZR.1 hi).1
  exact⟨_,Z4 d,h i _ b (Z4 d) hi⟩
 cases x with
 | WJ base cap s=>
  have:m=[]:=YZ.1 p.symm;subst this;exact .WJ base cap λx=>by cases x
 | sl b o cap w C D t u A=>
  rw[p];refine .sl b o cap w (λx=>by cases x) I (λi y hi=>?_) (λi y hi j c n=>?_) (λi y hi j c n=>?_)
  .obtain⟨a,g,f⟩:=r i y hi;rw[<-f.1];exact t i a g
  .obtain⟨a,g,f⟩:=r i y hi;have d:j<a.cells.length:=by rw[f.1];exact(ZR.1 n).1
   exact u i a g j _ (Z4 d)
  .obtain⟨a,g,f⟩:=r i y hi;have d:j<a.cells.length:=by rw[f.1];exact(ZR.1 n).1
   have s:=Z4 d;exact f.2 j _ c s n S B σ _ (A i a g j _ s)
theorem Yx.ex {e:Bool} {k:Nat} {l:ψ}:Yx (.sl e k l) (.sl false k l):=.sl rfl λi a b d c=>by rw[d] at c;cases c;exact .refl _
theorem Yx.nil {e:Bool} {k a:Nat}:Yx (.sl e k []) (.sl false a []):=λS B σ v x=>by
 have g:∀(l:ψ),l=[]->Θ S B σ (.sl e k l) v->Θ S B σ (.sl false a []) v:=λl c x=>by
  cases x with
  | WJ base cap d=>exact .WJ base cap λx=>by cases x
  | sl b o cap w f h i j m=>subst c;exact .WJ _ cap λx=>by cases x
 exact g [] U x
theorem Yx.map {m:Type} {f g:m->Ψ} {e:Bool} {k:Nat} {l:List m} (h:∀x∈l,Zw (f x).cells (g x).cells):Yx (.sl e k (l.map f)) (.sl false k (l.map g)):=.sl Ω λi a b c d=>by
 rw[Ys] at c d;cases j:l[i]? with
 | none=>rw[j] at c;cases c
 | some x=>rw[j] at c d;cases c;cases d;exact h x (ZH j)
theorem Zw.one {a b:Ψ} (h:Yx a b) (c:a.cells=[a]) (d:b.cells=[b]):Zw a.cells b.cells:=by rw[c,d];exact .cons h .nil
section
variable {P:Program} {σ:Ρ}
theorem XQ.MY {S:ς} {B:δ} {l m:ψ} {vs:ν} (h:Zw l m) (k:XQ S B σ l vs):XQ S B σ m vs:=⟨h.1.symm.trans k.1,λi b v hi hv=>by
 have c:i<l.length:=by rw[h.1];exact(ZR.1 hi).1
 have a:=Z4 c;exact h.2 i _ b a hi S B σ v (k.2 i _ v a hv)⟩
theorem Μ.Rq {g:FuncId} {args args':ψ} {K K' E:Ψ->Ρ->Prop} (h:Μ P g args σ K E) (e:Zw args' args) (f:∀a s,K a s->∃b,Yx a b/\K' b s):Μ P g args' σ K' E:=
 ⟨h.1,λi mn x c rest S B H vs j k hv d=>h.2 i mn x c rest S B H vs j k (hv.MY e) ⟨λa σ' S' B' H' v l m n o p=>by
  obtain⟨b,r,t⟩:=f a σ' l;exact d.ret b σ' S' B' H' v t m n o (r S' B' σ' v p),d.LD⟩⟩
def Τ (P:Program) (g:FuncId) (args:ψ) (r:Ψ):Prop:=Μ P g args [] (λa s=>Yx a r/\s=[]) (λ_ _=>False)
theorem Τ.ct {g:FuncId} {args args':ψ} {r:Ψ} (h:Τ P g args r) (b:Zw args' args):N1 P g args' r:=Μ.Rq h b λa s ⟨c,d⟩=>⟨r,c,rfl,d⟩
theorem Τ.c {g:FuncId} {args args':ψ} {r:Ψ} {K E:Ψ->Ρ->Prop} (h:Τ P g args r) (b:Zw args' args) (d:∀a∈args',η 0 a) (e:η 0 r) (f:K r σ):Yg P (.fn (.func g) [] []) args' σ K E:=
 N1.call (first:=[]) (captured:=[]) (by simpa using h.ct b) (by simpa using d) e f
theorem Τ.p {g:FuncId} {args args':ψ} {r:Ψ} (h:Τ P g args r) (b:Zw args' args) (d:∀a∈args',η 0 a) (e:η 0 r):WY P (.fn (.func g) [] []) args' r:=λ_=>h.c b d e ⟨rfl,rfl⟩
theorem Τ.d {g:FuncId} {args:ψ} {r:Ψ} {K E:Ψ->Ρ->Prop} (h:Τ P g args r) (b:K r σ) (e:∀a∈args,η 0 a:=by simp) (f:η 0 r:=by simp):Yg P (.fn (.func g) [] []) args σ K E:=h.c (Zw.refl _) e f b
theorem Τ.q {g:FuncId} {args:ψ} {r:Ψ} (h:Τ P g args r) (b:∀a∈args,η 0 a:=by simp) (c:η 0 r:=by simp):WY P (.fn (.func g) [] []) args r:=h.p (Zw.refl _) b c
theorem Τ.cc {g:FuncId} {args args' first captured:ψ} {r:Ψ} {K E:Ψ->Ρ->Prop} (h:Τ P g args r) (b:Zw (first++args'++captured) args) (c:∀a∈first++args'++captured,η 0 a) (d:η 0 r) (e:K r σ):Yg P (.fn (.func g) first captured) args' σ K E:=
 N1.call (h.ct b) c d e
end
theorem Y0.own {h id n k:Nat} {σ:Ρ} {t:TypeId} {l:ψ} (i:h<=id) (m:σ[id]?=some (.cells t k l)) (d:l.length=n) (o:∀e∈l,∀a∈e.cells,η h a):Y0 h σ (.ms id n 0 n) (.sl false k l):=by
 refine .ms i m d I d (λj e p b c=>?_) (λj e p b c x a a' f g=>?_)
 .rw[V5] at b;rw[b] at c;cases c;rfl
 .rw[V5] at b;rw[b] at c;cases c;rw[f] at g;cases g;exact .low (o e (ZH b) a (ZH f))
def fill {a:Type} (f:a->Ψ) (z:Ψ) (l:List a) (i:Nat):ψ:=(l.take i).map f++List.replicate (l.length-i) z
theorem uH {a:Type} (f:a->Ψ) (z:Ψ) (l:List a):fill f z l 0=List.replicate l.length z:=by simp[fill]
theorem uG {a:Type} (f:a->Ψ) (z:Ψ) (l:List a) {i:Nat} (h:l.length<=i):fill f z l i=l.map f:=by simp[fill,Xb h,Nat.sub_eq_zero_of_le h]
theorem uF {a:Type} (f:a->Ψ) (z:Ψ) (l:List a) {i:Nat} (h:i<=l.length):(fill f z l i).length=l.length:=by simp[fill];omega
theorem uE {a:Type} (f:a->Ψ) (z:Ψ) (l:List a) {i:Nat} (h:i<l.length):(fill f z l i)[i]?=some z:=by
 unfold fill;rw[Xz (by simp;omega),I6];rw[if_pos (by simp;omega)]
theorem uD {a:Type} (f:a->Ψ) (z:Ψ) (l:List a) {i:Nat} (h:i<l.length):(fill f z l i).set i (f l[i])=fill f z l (i+1):=by
 unfold fill;have b:l.length-i=(l.length-(i+1))+1:=I;have c:((l.take i).map f).length=i:=by simp;omega
 rw[b,List.replicate_succ,List.set_append_right _ _ I,c,Nat.sub_self,List.set_cons_zero,VW h,VV,Tq];rfl
def QM (P:Program) (f:FuncId) (e:ν->Sem Value):Prop:=∃fn,P.funcs[f]?=some fn/\(fn.name == "runtime.NumGoroutine")=false/\fn.body.isNone=true/\Extern.findNext fn=none/\Extern.find fn=some e
section
variable {P:Program} {σ:Ρ} {E:Ψ->Ρ->Prop} {K:Ψ->Ρ->Prop}
theorem Yg.ext {g:FuncId} {e:ν->Sem Value} {args:ψ} (b:QM P g e)
  (h:∀(S:ς) (B:δ) (H:Υ) (vs:ν),Holds S B σ H->XQ S B σ args vs->Χ P (e vs) H (XS S B H σ K) (λ_ _=>False)):Yg P (.fn (.func g) [] []) args σ K E:=by
 intro C mn x c rest S B H D vs F d f hv i;obtain⟨fn,j,k,l,m,n⟩:=b;cases f with
 | fn o p r s _ _=>
  obtain rfl:o=#[]:=Pj (by rw[<-r];rfl);obtain rfl:p=#[]:=Pj (by rw[<-s];rfl);refine Χ.bind' (Χ.pure' ?_);unfold invoke;simp only;unfold callFunc;refine Χ.bind' ?_;show Χ P (match P.funcs[g]? with|none=>_|some fn=>_) H _ _;rw[j];simp only[k,l,Xq,if_false,if_true,m];refine Χ.bind' ⟨.inr ⟨g,U⟩,Χ.pure' ?_⟩;rw[n];simp only[Array.empty_append,Oi];exact Χ.bind' (Χ.mono (λv H' ⟨S',B',σ',a,t,u,w,y,A⟩=>Χ.pure' (i.ret a σ' S' B' H' v t u y w A)) (λ_ _ h=>h) _ (h S B H vs d hv))
end
section
variable {P:Program} {m nt:Nat} {k:ZA} {env:Β} {σ:Ρ} {Z:XD} {E:Yb}
theorem W.uC {id n kk:Nat} {K:TypeId} {l:ψ} (bb:m<=id) (w:σ[id]?=some (.cells K kk l)) (bc:l.length=n) (env':Β) (aH:∀p∈env',ι env p.1=p.2\/(ι env p.1=.ms id n 0 0/\p.2=.ms σ.length 0 0 0))
  (av:W P m nt k env' (σ.set id .dead++[.cells K kk []]) Z E):W P m nt k env σ Z E:=
 λaI mn x cs b S B H t aJ aK Q aL aM=>by
 have d:=Q.holds
 have aa:id<σ.length:=(ZR.1 w).1
 have aN:id<B.length:=by rw[d.len];exact aa
 obtain⟨bo,R⟩:∃bo,B[id]?=some bo:=⟨_,Z4 aN⟩;obtain⟨σ',A⟩:=Z' (σ.set id .dead++[.cells K kk []]);have bd:(σ.set id Row.dead).length=σ.length:=Ω;have aw:σ'[id]?=some .dead:=by rw[A,YN (by simpa using aa),Xs aa]
 have ax:σ'[σ.length]?=some (.cells K kk []):=by rw[A,Xz Ω];simp
 have ab:∀j,j≠id->j<σ.length->σ'[j]?=σ[j]?:=λj a c=>by rw[A,YN (by simpa using c),Xj (YV a)]
 have ay:∀j r,σ'[j]?=some r->(j=id/\r=.dead)\/(j=σ.length/\r=.cells K kk [])\/(j≠id/\j<σ.length/\σ[j]?=some r):=λj r a=>by
  have az:j<σ'.length:=(ZR.1 a).1;rw[A] at az;simp at az;by_cases f:j=id
  .subst f;rw[aw] at a;exact .inl ⟨U,(WU a).symm⟩
  .by_cases g:j=σ.length
   .subst g;rw[ax] at a;exact .inr (.inl ⟨U,(WU a).symm⟩)
   .have c:j<σ.length:=I
    rw[ab j f c] at a;exact .inr (.inr ⟨f,c,a⟩)
 have T:∀j,j<B.length->(B++[bo])[j]?=B[j]?:=λj a=>YN a
 have ad:(B++[bo])[σ.length]?=some bo:=by rw[<-d.len,Xz (ZY _)];simp
 have ae:ZJ S S B (B++[bo]) σ σ':=⟨λ_ _ _ h=>h,λj r a=>by
  by_cases e:j=id
  .subst e;rw[w] at a;cases a;exact⟨_,aw,.inr λ_ _=>trivial⟩
  .have c:j<σ.length:=(ZR.1 a).1;refine⟨r,by rw[ab j e c];exact a,?_⟩;rw[T j (by rw[d.len];exact c)];exact r.Tb _⟩
 have af:∀j r s N,σ'[j]?=some r->r.live->(B++[bo])[j]?=some (some (s,N))->∃u F,σ[u]?=some F/\F.live/\B[u]?=some (some (s,N))/\(j≠σ.length->u=j)/\(j=σ.length->u=id)/\(j≠σ.length->j≠id):=λj r s N a c J=>by
  rcases ay j r a with⟨rfl,rfl⟩|⟨rfl,rfl⟩|⟨f,g,V⟩
  .exact c.elim
  .rw[ad] at J;exact⟨id,_,w,trivial,by rw[R];exact J,λh=>absurd U h,λ_=>rfl,λh=>absurd U h⟩
  .rw[T j (by rw[d.len];exact g)] at J;exact⟨j,r,V,c,J,λ_=>rfl,λh=>I,λ_=>f⟩
 have aO:Holds S (B++[bo]) σ' H:=by
  refine⟨d.Zf,by rw[A];simp[d.len],λj r aA a C=>?_,λi j aP aQ s aB aC aR hi a aS aT aU C=>?_,λj r s N a c J o=>?_⟩
  .rcases ay j r a with⟨rfl,rfl⟩|⟨rfl,rfl⟩|⟨f,g,V⟩
   .trivial
   .rw[ad] at C;cases C;have D:=d.row id _ bo w R;cases bo with
    | none=>rfl
    | some y=>
     obtain⟨s,N⟩:=y;obtain⟨d1,d2,d3,_⟩:=D;exact⟨d1,Ω,d3,λ_ _=>.bool false,λi e hi=>by simp at hi⟩
   .rw[T j (by rw[d.len];exact g)] at C;refine(d.row j r aA V C).later ae (λ_ _ _=>⟨λ_=>rfl,U,U⟩) λX left be aV=>?_;subst aV;obtain⟨_,_,_,_,_,_,_,_,bf,⟨es,ag⟩,_⟩:=d.row j _ aA V C;have aW:X≠id:=λe=>by subst e;rw[w] at ag;cases ag
    have aD:X<σ.length:=(ZR.1 ag).1;exact⟨ab X aW aD,T X (by rw[d.len];exact aD),λ_ _ _=>⟨λ_=>rfl,U,U⟩⟩
  .obtain⟨aX,F,ah,L,ai,aE,aY,aZ⟩:=af i aP s aB hi aS aU;obtain⟨u,a0,c1,c2,Y,aj,aF,ak⟩:=af j aQ s aC a aT C;refine d.inj aX u F a0 s aB aC (λe=>aR ?_) ah c1 L c2 ai Y;by_cases f:i=σ.length
   .by_cases g:j=σ.length
    .rw[f,g]
    .exact absurd (by rw[<-aj g,<-e,aY f]) (ak g)
   .by_cases g:j=σ.length
    .exact absurd (by rw[<-aE f,e,aF g]) (aZ f)
    .rw[<-aE f,<-aj g,e]
  .obtain⟨u,F,ah,L,ai,_⟩:=af j r s N a c J;exact d.sep u F s N ah L ai o
 have a1:Ext S B H S (B++[bo]) H:=⟨λ_ _ _ h=>h,λ_ _ _=>TK.of ⟨λ_=>rfl,U,U⟩,λs ⟨N,a2⟩=>by
  rcases Uv.1 a2 with h|h
  .exact .inl ⟨N,h⟩
  .simp at h;subst h;exact .inl ⟨N,ZH R⟩,λ_ _ _ h=>.inl h,λ_ h=>h⟩
 have a3:ZJ S S (B.take m) (B++[bo]) (σ.take m) σ':=⟨λ_ _ _ h=>h,λj r a=>by
  rw[RJ] at a;split at a
  .rename_i a4;obtain⟨r',M,O⟩:=ae.rows j r a;refine⟨r',M,?_⟩;rw[RJ,if_pos a4];exact O
  .cases a⟩
 have aG:Xw m S B H σ S (B++[bo]) H σ':=⟨a1,a3⟩
 have a5:Zg S (B++[bo]) σ' env' t:=by
  have a6:∀(l:Β),(∀p∈l,ι env p.1=p.2\/(ι env p.1=.ms id n 0 0/\p.2=.ms σ.length 0 0 0))->Zg S (B++[bo]) σ' l t:=by
   intro l
   induction l with
   | nil=>intro _ i;exact .Zx _
   | cons p l a7=>
    intro c i;simp only[ι];split
    .rename_i e;subst e;have D:=Q.Zt p.1;rcases c p Ω with h|⟨h,a8⟩
     .rw[h] at D;exact D.later ae
     .rw[h] at D;rw[a8];generalize t.getD p.1 undef=v at D;cases D with
      | ms cap c1 c2 Y aj aF ak=>
       rw[w] at c1;cases c1;rw[R] at Y;cases Y;refine .ms cap ax U ad (ZY _) (Ζ _) ?_;simpa using ak
      | Wu v c1 c2=>rw[w] at c1;cases c1;simp only[Row.Xx] at c2;omega
    .exact a7 (λq a9=>c q (by simp[a9])) i
  exact a6 env' aH
 rw[<-A] at av;exact av aI mn x cs b S (B++[bo]) H t aJ aK ⟨aO,a5,Q.size,by have:=Q.rows;rw[A];simp;omega⟩
  (λj al am an ao ap t2 aq M O ar au=>aL j al am an ao ap t2 aq M (aG.trans O) ar au)
  (λL al am an ao ap t2 aq a' M O ar au ba=>aM L al am an ao ap t2 aq a' M (aG.trans O) ar au ba)
end
end Go.TL
namespace Go.TL
open Go.Proofs.Tryz
open Go.Proofs
variable [Z1]
def E4 (P:Program) (t:TypeId):Option (List (TypeDesc×Nat)):=
 if P.eqGuardType P.depth t=false then match P.underlying t with
  | some (.struct a)=>if P.stoodInHeld t=false/\a.toList.map (·.offset)=List.range a.toList.length/\(a.toList.all λf=>f.name != "_" && match P.underlying f.type with|some d=>Us d|none=>false)=true then some (a.toList.map λf=>((P.underlying f.type).getD .invalid,f.offset)) else none
  | some (.array n e)=>match P.underlying e,P.info? e with
   | some d,some f=>if Us d=true/\f.size=1 then some ((List.range n).map λi=>(d,i)) else none
   | _,_=>none
  | _=>none
 else none
theorem uB (P:Program) (t:TypeId):FD P t (E4 P t):=by
 unfold E4;split
 .rename_i g;split
  .rename_i h b;split
   .rename_i a;refine⟨g,by rw[Nq,SJ];exact a.2.1,.inl ⟨h,b,a.1,U,λf c=>?_⟩⟩;have:=XJ.1 a.2.2 f c;simp only[Wm,bne_iff_ne,ne_eq] at this;refine⟨this.1,?_⟩;cases hd:P.underlying f.type with
    | none=>rw[hd] at this;simp at this
    | some d=>rw[hd] at this;exact⟨d,rfl,this.2⟩
   .trivial
  .rename_i n e b;split
   .rename_i d f hd c;split
    .rename_i a;exact⟨g,by rw[Nq,SJ,IT];exact(IY λ_ _=>rfl).trans (List.map_id _),.inr ⟨n,e,d,f,b,hd,a.1,c,a.2,U⟩⟩
    .trivial
   .trivial
  .trivial
 .trivial
def Z2.of (P:Program):Z2:=λt=>match P.underlying t,P.info? t with
 | some d,some i=>match i.zero with|some z=>some ⟨i.size,d,z,i.bytes,E4 P t⟩|none=>none
 | _,_=>none
theorem Z2.Hl (P:Program):ZL P (Z2.of P):=λt i h=>by
 unfold Z2.of at h;split at h
 .rename_i d f hd a;split at h
  .rename_i z b;cases h;exact⟨⟨hd,uB P t⟩,f,a,U,b,U⟩
  .cases h
 .cases h
noncomputable def ξ:Z2:=Z2.of prog
theorem Ο:ZL prog ξ:=Z2.Hl _
def Rp (b:List (Nat×Nat)) (a:Value) (c:Ψ->Bool) (parts:List (Nat×Ψ)):Zl:=
 match P2 (λx=>(b[x]?).map λp=>(0,p.1,p.2)) (Wh a).cells.length c [Wh a] parts with
 | some [e]=>.ok (.Z6 e.cells)
 | _=>.bad
def Hk (es:Nat) (a:Value) (b:Ψ->Bool) (parts:List (Nat×Ψ)):Zl:=
 match P2 (λx=>some (0,x*es,es)) (Wh a).cells.length b [Wh a] parts with
 | some [e]=>.ok (.Z6 e.cells)
 | _=>.bad
theorem mixed:prog.follows .mixedOrders=true:=by kernel_rfl
section
variable {P:Program} {m nt:Nat} {k:ZA} {env:Β} {σ:Ρ} {Z:XD} {E:Yb}
theorem W.iter {a:Type} {c:Code} (Inv:a->Prop) (d:a->Β) (f:a->Ρ) (g:a->Nat) (e:a) (j:Inv e) (l:σ=f e) (o:∀p∈d e,ι env p.1=p.2)
  (step:∀i,Inv i->(∀b,Inv b->g b<g i->W P m nt (.inLoop c::k) (d b) (f b) Z E)->W P m nt (.code c::.inLoop c::k) (d i) (f i) Z E):W P m nt (.code (.loop c)::k) env σ Z E:=by
 refine .loop (.forget (d e) o ?_);rw[l];have r:∀(n:Nat) (i:a),g i<n->Inv i->W P m nt (.code c::.inLoop c::k) (d i) (f i) Z E:=by
  intro n
  induction n with
  | zero=>intro i h;omega
  | succ n s=>intro i hi t;exact step i t λb u v=>.inLoop (s b I u)
 exact r _ e (Pe _) j
end
section
variable {P:Program} {m nt:Nat} {k:ZA} {env:Β} {σ:Ρ} {Z:XD} {E:Yb}
theorem W.Yl {c:Operand} {a e:Code} {v:Bool} (b:ο env c=.z (.bool v)) (d:v=true->W P m nt (.code a::k) env σ Z E) (f:v=false->W P m nt (.code e::k) env σ Z E):W P m nt (.code (.cond c a e)::k) env σ Z E:=by
 refine .cond b ?_;cases v with
 | true=>exact d rfl
 | false=>exact f rfl
theorem Ι {c:Operand} {a e:Code} (b:ο env c=.z (.bool true)) (h:W P m nt (.code a::k) env σ Z E):W P m nt (.code (.cond c a e)::k) env σ Z E:=.cond b h
theorem Κ {c:Operand} {a e:Code} (b:ο env c=.z (.bool false)) (h:W P m nt (.code e::k) env σ Z E):W P m nt (.code (.cond c a e)::k) env σ Z E:=.cond b h
theorem Μ.body {F:Ψ->Ρ->Prop} {T:Z2} (c:ZL P T) {g:FuncId} {fn:Func} {bd:Code} (d:P.funcs[g]?=some fn) (e:fn.body=some bd) (f:(fn.name == "runtime.NumGoroutine")=false) {args:ψ} {K:Ψ->Ρ->Prop} {b:List ResultVar} (i:fn.ntmps=nt) (j:σ.length=m) (k:fn.results.toList=b) (l:args.length<=nt)
  (h:W P m nt [.code bd] (entry 0 args) σ (Ends T b K) (λa _ s=>F a s)):Μ P g args σ K F:=by
 subst i;subst j;subst k;exact .Hw c d e f l h
end
abbrev J (i:Int):Ψ:=.z (.int .i64 i)
abbrev ZV (b:Bool):Ψ:=.z (.bool b)
abbrev ζ {a:Type} (enc:a->Ψ) (k:Nat) (l:List a):Ψ:=.sl false k (l.map enc)
abbrev ZP (b:ByteArray):Ψ:=.z (.string b)
@[simp] theorem k0 (x y:Int):(x==y)=decide (x=y):=by rw[Qd];simp
@[simp] theorem kZ (a b:Nat):((a:Int)=(b:Int))↔a=b:=I
attribute [simp] vd vc vb va u' BL u9 S9
attribute [congr] vn vk vj or_congr u3 u2
attribute [simp] idx vp vo vm vl QQ vi u1 uU uT uZ uY uX uW uV MR WT Xa Zl.or Zl.YX Zi.holds XG WS Zu ι ο Wh Kp entry Up OY LG HR O5 LW LN LQ Ie LP Ib Ic Rp P2 Ψ.O4 Ψ.YW Ψ.P1 Hk QT V2.agg Im Sa Il R' Ij R9
 H2 M0 H3 M1 Vj Ip Io H0 Ii Oa O2 H5 R8 P0 Kn Km Ia N4 HN N7 N9 N8 LK Ke Kf LL HQ HO HP R7 HL HM MX aeqv VH Uc PY WI PZ U3 Fq HX OZ HW HK HV HJ HU PX Kc HI MV LJ HH N6 HF HE HD MU HB HA Kb Ka N5 QR Hy PW HS HT LO H8 H9 O3 Ψ.cells QO N2 Fe Ends N3 J'
@[simp] theorem kY {k:IntKind}:V3 (.int k)=false:=rfl
@[simp] theorem kX:V3 .bool=false:=rfl
@[simp] theorem kW:V3 .string=false:=rfl
@[simp] theorem kV {e:TypeId}:V3 (.slice e)=false:=rfl
@[simp] theorem kU {a b:TypeId}:V3 (.map a b)=false:=rfl
@[simp] theorem kT {a:TypeId}:V3 (.pointer a)=false:=rfl
@[simp] theorem kS {n:Nat} {a:TypeId}:V3 (.array n a)=true:=rfl
theorem uA {P:Nat->Prop} (n:Nat) (h:n<256) (a:∀m,m<256->P m):P n:=a n h
section
variable {m nt l:Nat} {a c:Code} {k:ZA} {env:Β} {σ:Ρ} {Z:XD} {E:Yb}
class Ly [Z1] (k:ZA) (a:outParam (ZA)):Prop where
 h:∀{P:Program} {m nt:Nat} {env:Β} {σ:Ρ} {Z:XD} {E:Yb},W P m nt a env σ Z E->W P m nt k env σ Z E
instance:Ly (.code (.seq a c)::k) (.code a::.code c::k):=⟨.seq⟩
instance:Ly (.code (.block l c)::k) (.code c::.inBlock l::k):=⟨.block⟩
instance:Ly (.inBlock l::k) k:=⟨.inBlock⟩
instance:Ly (.code .skip::k) k:=⟨.skip⟩
theorem Γ {P:Program} {a:ZA} [Ly k a] (h:W P m nt a env σ Z E):W P m nt k env σ Z E:=Ly.h h
theorem WQ {P:Program} (h:W P m nt (.code a::.code c::k) env σ Z E):W P m nt (.code (.seq a c)::k) env σ Z E:=.seq h
theorem wb {P:Program} (h:W P m nt (.code c::.inBlock l::k) env σ Z E):W P m nt (.code (.block l c)::k) env σ Z E:=.block h
theorem Ws {P:Program} (h:W P m nt k env σ Z E):W P m nt (.inBlock l::k) env σ Z E:=.inBlock h
theorem wd {P:Program} (h:W P m nt k env σ Z E):W P m nt (.code .skip::k) env σ Z E:=.skip h
theorem YF {id:Nat} {ops:ZI} (h:∀a:Β->Ρ->Prop,(∀env σ,W prog m nt k env σ Z E->a env σ)->run prog ξ [] nt ops (idx ops.size []) env σ a E):W prog m nt (.code (.region id ops false)::k) env σ Z E:=ZG Ο h
end
theorem W.rt {P:Program} {T:Z2} {b:List ResultVar} {K:Ψ->Ρ->Prop} {m nt:Nat} {k:ZA} {env:Β} {σ:Ρ} {E:Yb} {a:Ψ} {p:Prop} {s:Ρ} (h:p) (e:QO T b env σ=some a:=by exact rfl) (c:K a σ=(p/\s=s):=by exact rfl):W P m nt (.code .ret::k) env σ (Ends T b K) E:=.ret ⟨a,e,c▸⟨h,U⟩⟩
theorem W.NW {P:Program} {T:Z2} {b:List ResultVar} {K:Ψ->Ρ->Prop} {m nt:Nat} {k:ZA} {env:Β} {σ:Ρ} {E:Yb} {a:Ψ}  {s : List Row} (e : QO T b env σ = some a := by exact rfl) (c : K a σ = (Yx a a /\ s = s) := by exact rfl) : W P m nt (.code .ret::k) env σ (Ends T b K) E := W.rt (.refl _) e c
theorem W.Y' {P:Program} {T:Z2} {c:List ResultVar} {K:Ψ->Ρ->Prop} {m nt:Nat} {k:ZA} {env:Β} {σ:Ρ} {E:Yb} {a:Ψ}  {b : Ψ} {s : List Row} (h : a = b) (e : QO T c env σ = some a := by exact rfl) (d : K a σ = (Yx a b /\ s = s) := by exact rfl) : W P m nt (.code .ret::k) env σ (Ends T c K) E := W.rt (.of h) e d
end Go.TL
namespace Go.TL
open Go.Proofs.Tryz
open Go.Proofs
theorem Ξ {a b:Prop} (x:a) (y:b):a/\b:=⟨x,y⟩
theorem ZO {p q:Prop} (k:q) (h:q->p:=by intro k;(repeat (first|apply Γ|apply WQ|apply wb|apply Ws|apply wd));exact k):p:=h k
theorem Φ {p q:Prop} (k:q) (h:q->p:=by intro k;(repeat (first|apply Γ|apply WQ|apply wb|apply Ws|apply wd|(refine YF λb a=>?_;simp;(repeat (rw[Η];simp));apply a)));exact k):p:=h k
theorem Z9 {p f:Prop} {q:f->Prop} (a:f) (k:q a) (h:∀a,q a->p:=by intro b k;(repeat (first|apply Γ|apply WQ|apply wb|apply Ws|apply wd|(refine YF λd c=>?_;simp;(repeat (rw[Η];simp[b]));apply c)));exact k):p:=h a k
theorem Wd {p q:Prop} (k:q) (h:q->p:=by intro k;(repeat (first|apply Γ|apply WQ|apply wb|apply Ws|apply wd|refine Ι rfl ?_|refine Κ rfl ?_|(refine YF λb a=>?_;simp;(repeat (rw[Η];simp));apply a)));exact k):p:=h k
theorem Wc {p f:Prop} {q:f->Prop} (a:f) (k:q a) (h:∀a,q a->p:=by intro b k;(repeat (first|apply Γ|apply WQ|apply wb|apply Ws|apply wd|refine Ι rfl ?_|refine Κ rfl ?_|(refine YF λd c=>?_;simp;(repeat (rw[Η];simp[b]));apply c)));exact k):p:=h a k
theorem MO {p q:Prop} (k:q) (h:q->p:=by intro k;refine YF λb a=>?_;simp;(repeat (rw[Η];simp));apply a;exact k):p:=h k
theorem QL {p f:Prop} {q:f->Prop} (a:f) (k:q a) (h:∀a,q a->p:=by intro b k;refine YF λd c=>?_;simp;(repeat (rw[Η];simp[b]));apply c;exact k):p:=h a k
theorem υ {p:Prop} {H:(Β->Ρ->Prop)->Prop} {q:∀K,H K->Prop} (k:∀K h,q K h) (h:(∀K h,q K h)->p:=by intro k;(repeat (first|apply Γ|apply WQ|apply wb|apply Ws|apply wd));refine YF λa b=>?_;simp;(repeat (rw[Η];simp));exact k a b):p:=h k
theorem Ze {p f:Prop} {H:(Β->Ρ->Prop)->Prop} {q:f->∀K,H K->Prop} (a:f) (k:∀K h,q a K h) (h:∀a,(∀K h,q a K h)->p:=by intro b k;(repeat (first|apply Γ|apply WQ|apply wb|apply Ws|apply wd));refine YF λc d=>?_;simp;(repeat (rw[Η];simp[b]));exact k c d):p:=h a k
theorem Δ {p q:Prop} (k:q) (h:q->p:=by intro k;simp;(repeat (rw[Η];simp));exact k):p:=h k
theorem W8 {p f:Prop} {q:f->Prop} (a:f) (k:q a) (h:∀a,q a->p:=by intro b k;simp[b];(repeat (rw[Η];simp[b]));exact k):p:=h a k
theorem VG {p q:Prop} (k:q) (h:q->p:=by intro k;simp;(repeat (rw[Za];simp));(try rw[YL]);exact k):p:=h k
theorem Ua {p f:Prop} {q:f->Prop} (a:f) (k:q a) (h:∀a,q a->p:=by intro b k;simp[b];(repeat (rw[Za];simp[b]));(try rw[YL]);exact k):p:=h a k
theorem Yn {a b:Prop} (k:b) (h:a:=by exact SA Wf):a/\b:=⟨h,k⟩
theorem WX {p f:Prop} {q:f->Prop} (a:f) (k:q a) (h:∀a,q a->p:=by intro b k;refine W.draw (A:=[]) Ο mixed λd c=>?_;simp;(repeat (rw[Za];simp[b]));(try rw[YL]);refine Yn (c _ _ ?_);exact k):p:=h a k
@[simp] theorem t2:ξ 2=some ⟨1,.int .i64,.int .i64 0,8,none⟩:=by kernel_rfl
@[simp] theorem t3:ξ 3=some ⟨1,.int .i64,.int .i64 0,8,none⟩:=by kernel_rfl
@[simp] theorem t4:ξ 4=some ⟨1,.bool,.bool false,1,none⟩:=by kernel_rfl
@[simp] theorem t5:ξ 5=some ⟨1,.int .u8,.int .u8 0,1,none⟩:=by kernel_rfl
@[simp] theorem t9:ξ 9=some ⟨1,.string,.string ⟨#[]⟩,16,none⟩:=by kernel_rfl
@[simp] theorem t21:ξ 21=some ⟨1,.int .i32,.int .i32 0,4,none⟩:=by kernel_rfl
@[simp] theorem t22:ξ 22=some ⟨1,.slice 3,.slice none 0 0,24,none⟩:=by kernel_rfl
@[simp] theorem kR:WZ ξ 22=some (3,1,none):=by kernel_rfl
@[simp] theorem t23:ξ 23=some ⟨1,.slice 26,.slice none 0 0,24,none⟩:=by kernel_rfl
@[simp] theorem kQ:WZ ξ 23=some (26,1,none):=by kernel_rfl
noncomputable def BC:TypeDesc:=((ξ 25).getD ⟨0,.bool,.nilFunc,0,none⟩).Z3
@[simp] theorem t25:ξ 25=some ⟨1,BC,.agg #[.slice none 0 0],24,none⟩:=by kernel_rfl
@[simp] theorem kP:V3 BC=true:=by kernel_rfl
@[simp] theorem kO:Yt ξ 25 0=some (0,23):=by kernel_rfl
@[simp] theorem kN (a:Ψ->Bool) (b:List (Nat×Ψ)):Ur ξ a 25 b=Rp [(0,1)] (.agg #[.slice none 0 0]) a b:=by kernel_rfl
@[simp] theorem t26:ξ 26=some ⟨1,.slice 9,.slice none 0 0,24,none⟩:=by kernel_rfl
@[simp] theorem kM:WZ ξ 26=some (9,1,none):=by kernel_rfl
@[simp] theorem t27:ξ 27=some ⟨1,.slice 52,.slice none 0 0,24,none⟩:=by kernel_rfl
@[simp] theorem kL:WZ ξ 27=some (52,3,none):=by kernel_rfl
noncomputable def BB:TypeDesc:=((ξ 29).getD ⟨0,.bool,.nilFunc,0,none⟩).Z3
@[simp] theorem t29:ξ 29=some ⟨2,BB,.agg #[.int .i64 0,.int .i64 0],16,some [(.int .i64,0),(.int .i64,1)]⟩:=by kernel_rfl
@[simp] theorem kK:V3 BB=true:=by kernel_rfl
@[simp] theorem kJ:Yt ξ 29 0=some (0,3):=by kernel_rfl
@[simp] theorem kI:Yt ξ 29 1=some (1,3):=by kernel_rfl
@[simp] theorem kH (a:Ψ->Bool) (b:List (Nat×Ψ)):Ur ξ a 29 b=Rp [(0,1),(1,1)] (.agg #[.int .i64 0,.int .i64 0]) a b:=by kernel_rfl
@[simp] theorem t30:ξ 30=some ⟨1,.slice 92,.slice none 0 0,24,none⟩:=by kernel_rfl
@[simp] theorem kG:WZ ξ 30=some (92,2,none):=by kernel_rfl
@[simp] theorem t31:ξ 31=some ⟨1,.slice 22,.slice none 0 0,24,none⟩:=by kernel_rfl
@[simp] theorem kF:WZ ξ 31=some (22,1,none):=by kernel_rfl
@[simp] theorem t32:ξ 32=some ⟨1,.slice 103,.slice none 0 0,24,none⟩:=by kernel_rfl
@[simp] theorem kE:WZ ξ 32=some (103,1,none):=by kernel_rfl
noncomputable def BA:TypeDesc:=((ξ 34).getD ⟨0,.bool,.nilFunc,0,none⟩).Z3
@[simp] theorem t34:ξ 34=some ⟨3,BA,.agg #[.slice none 0 0,.slice none 0 0,.slice none 0 0],72,none⟩:=by kernel_rfl
@[simp] theorem kD:V3 BA=true:=by kernel_rfl
@[simp] theorem kC:Yt ξ 34 0=some (0,30):=by kernel_rfl
@[simp] theorem kB:Yt ξ 34 1=some (1,31):=by kernel_rfl
@[simp] theorem kA:Yt ξ 34 2=some (2,32):=by kernel_rfl
@[simp] theorem kz (a:Ψ->Bool) (b:List (Nat×Ψ)):Ur ξ a 34 b=Rp [(0,1),(1,1),(2,1)] (.agg #[.slice none 0 0,.slice none 0 0,.slice none 0 0]) a b:=by kernel_rfl
noncomputable def Bz:TypeDesc:=((ξ 36).getD ⟨0,.bool,.nilFunc,0,none⟩).Z3
@[simp] theorem t36:ξ 36=some ⟨13,Bz,.agg #[.slice none 0 0,.string ⟨#[]⟩,.string ⟨#[]⟩,.slice none 0 0,.slice none 0 0,.int .i64 0,.int .i64 0,.int .i64 0,.int .i64 0,.slice none 0 0,.slice none 0 0,.slice none 0 0,.bool false],216,none⟩:=by kernel_rfl
@[simp] theorem ky:V3 Bz=true:=by kernel_rfl
@[simp] theorem kx:Yt ξ 36 0=some (0,25):=by kernel_rfl
@[simp] theorem kv:Yt ξ 36 1=some (1,9):=by kernel_rfl
@[simp] theorem ku:Yt ξ 36 2=some (2,9):=by kernel_rfl
@[simp] theorem ks:Yt ξ 36 3=some (3,26):=by kernel_rfl
@[simp] theorem kr:Yt ξ 36 4=some (4,27):=by kernel_rfl
@[simp] theorem kq:Yt ξ 36 5=some (5,29):=by kernel_rfl
@[simp] theorem kp:Yt ξ 36 6=some (7,29):=by kernel_rfl
@[simp] theorem ko:Yt ξ 36 7=some (9,34):=by kernel_rfl
@[simp] theorem kn:Yt ξ 36 8=some (12,4):=by kernel_rfl
@[simp] theorem km (a:Ψ->Bool) (b:List (Nat×Ψ)):Ur ξ a 36 b=Rp [(0,1),(1,1),(2,1),(3,1),(4,1),(5,2),(7,2),(9,3),(12,1)] (.agg #[.slice none 0 0,.string ⟨#[]⟩,.string ⟨#[]⟩,.slice none 0 0,.slice none 0 0,.int .i64 0,.int .i64 0,.int .i64 0,.int .i64 0,.slice none 0 0,.slice none 0 0,.slice none 0 0,.bool false]) a b:=by kernel_rfl
@[simp] theorem t41:ξ 41=some ⟨1,.int .i64,.int .i64 0,8,none⟩:=by kernel_rfl
noncomputable def By:TypeDesc:=((ξ 49).getD ⟨0,.bool,.nilFunc,0,none⟩).Z3
@[simp] theorem t49:ξ 49=some ⟨1,By,.nilFunc,8,none⟩:=by kernel_rfl
@[simp] theorem kl:V3 By=false:=by kernel_rfl
noncomputable def E3:TypeDesc:=((ξ 52).getD ⟨0,.bool,.nilFunc,0,none⟩).Z3
@[simp] theorem t52:ξ 52=some ⟨3,E3,.agg #[.string ⟨#[]⟩,.int .i64 0,.int .i64 0],32,none⟩:=by kernel_rfl
@[simp] theorem kj:V3 E3=true:=by kernel_rfl
@[simp] theorem ki:Yt ξ 52 0=some (0,9):=by kernel_rfl
@[simp] theorem kh:Yt ξ 52 1=some (1,29):=by kernel_rfl
@[simp] theorem kg (a:Ψ->Bool) (b:List (Nat×Ψ)):Ur ξ a 52 b=Rp [(0,1),(1,2)] (.agg #[.string ⟨#[]⟩,.int .i64 0,.int .i64 0]) a b:=by kernel_rfl
@[simp] theorem t74:ξ 74=some ⟨1,.int .u64,.int .u64 0,8,none⟩:=by kernel_rfl
@[simp] theorem t78:ξ 78=some ⟨1,.slice 23,.slice none 0 0,24,none⟩:=by kernel_rfl
@[simp] theorem j':WZ ξ 78=some (23,1,none):=by kernel_rfl
noncomputable def Bx:TypeDesc:=((ξ 80).getD ⟨0,.bool,.nilFunc,0,none⟩).Z3
@[simp] theorem t80:ξ 80=some ⟨15,Bx,.agg #[.slice none 0 0,.string ⟨#[]⟩,.string ⟨#[]⟩,.slice none 0 0,.slice none 0 0,.int .i64 0,.int .i64 0,.int .i64 0,.int .i64 0,.slice none 0 0,.slice none 0 0,.slice none 0 0,.bool false,.slice none 0 0,.slice none 0 0],264,none⟩:=by kernel_rfl
@[simp] theorem j9:V3 Bx=true:=by kernel_rfl
@[simp] theorem j8:Yt ξ 80 0=some (0,36):=by kernel_rfl
@[simp] theorem j7:Yt ξ 80 1=some (13,78):=by kernel_rfl
@[simp] theorem j6:Yt ξ 80 2=some (14,31):=by kernel_rfl
@[simp] theorem j5 (a:Ψ->Bool) (b:List (Nat×Ψ)):Ur ξ a 80 b=Rp [(0,13),(13,1),(14,1)] (.agg #[.slice none 0 0,.string ⟨#[]⟩,.string ⟨#[]⟩,.slice none 0 0,.slice none 0 0,.int .i64 0,.int .i64 0,.int .i64 0,.int .i64 0,.slice none 0 0,.slice none 0 0,.slice none 0 0,.bool false,.slice none 0 0,.slice none 0 0]) a b:=by kernel_rfl
noncomputable def E2:TypeDesc:=((ξ 92).getD ⟨0,.bool,.nilFunc,0,none⟩).Z3
@[simp] theorem t92:ξ 92=some ⟨2,E2,.agg #[.string ⟨#[]⟩,.int .i64 0],24,some [(.string,0),(.int .i64,1)]⟩:=by kernel_rfl
@[simp] theorem j4:V3 E2=true:=by kernel_rfl
@[simp] theorem j3:Yt ξ 92 0=some (0,9):=by kernel_rfl
@[simp] theorem j2:Yt ξ 92 1=some (1,3):=by kernel_rfl
@[simp] theorem j1 (a:Ψ->Bool) (b:List (Nat×Ψ)):Ur ξ a 92 b=Rp [(0,1),(1,1)] (.agg #[.string ⟨#[]⟩,.int .i64 0]) a b:=by kernel_rfl
noncomputable def Bw:TypeDesc:=((ξ 94).getD ⟨0,.bool,.nilFunc,0,none⟩).Z3
@[simp] theorem t94:ξ 94=some ⟨1,Bw,.nilFunc,8,none⟩:=by kernel_rfl
@[simp] theorem j0:V3 Bw=false:=by kernel_rfl
@[simp] theorem t97:ξ 97=some ⟨1,.slice 94,.slice none 0 0,24,none⟩:=by kernel_rfl
@[simp] theorem jZ:WZ ξ 97=some (94,1,none):=by kernel_rfl
noncomputable def E1:TypeDesc:=((ξ 102).getD ⟨0,.bool,.nilFunc,0,none⟩).Z3
@[simp] theorem t102:ξ 102=some ⟨3,E1,.agg #[.int .i64 0,.int .i64 0,.int .i64 0],24,some [(.int .i64,0),(.int .i64,1),(.int .i64,2)]⟩:=by kernel_rfl
@[simp] theorem jY:V3 E1=true:=by kernel_rfl
@[simp] theorem jX:Yt ξ 102 0=some (0,3):=by kernel_rfl
@[simp] theorem jW:Yt ξ 102 1=some (1,3):=by kernel_rfl
@[simp] theorem jV:Yt ξ 102 2=some (2,3):=by kernel_rfl
@[simp] theorem jU (a:Ψ->Bool) (b:List (Nat×Ψ)):Ur ξ a 102 b=Rp [(0,1),(1,1),(2,1)] (.agg #[.int .i64 0,.int .i64 0,.int .i64 0]) a b:=by kernel_rfl
@[simp] theorem t103:ξ 103=some ⟨1,.slice 102,.slice none 0 0,24,none⟩:=by kernel_rfl
@[simp] theorem jT:WZ ξ 103=some (102,3,none):=by kernel_rfl
@[simp] theorem t109:ξ 109=some ⟨1,.slice 114,.slice none 0 0,24,none⟩:=by kernel_rfl
@[simp] theorem jS:WZ ξ 109=some (114,18,none):=by kernel_rfl
@[simp] theorem t112:ξ 112=some ⟨1,.slice 21,.slice none 0 0,24,none⟩:=by kernel_rfl
@[simp] theorem jR:WZ ξ 112=some (21,1,none):=by kernel_rfl
@[simp] theorem t114:ξ 114=some ⟨18,.array 18 21,.agg #[.int .i32 0,.int .i32 0,.int .i32 0,.int .i32 0,.int .i32 0,.int .i32 0,.int .i32 0,.int .i32 0,.int .i32 0,.int .i32 0,.int .i32 0,.int .i32 0,.int .i32 0,.int .i32 0,.int .i32 0,.int .i32 0,.int .i32 0,.int .i32 0],72,some [(.int .i32,0),(.int .i32,1),(.int .i32,2),(.int .i32,3),(.int .i32,4),(.int .i32,5),(.int .i32,6),(.int .i32,7),(.int .i32,8),(.int .i32,9),(.int .i32,10),(.int .i32,11),(.int .i32,12),(.int .i32,13),(.int .i32,14),(.int .i32,15),(.int .i32,16),(.int .i32,17)]⟩:=by kernel_rfl
@[simp] theorem jQ:WZ ξ 114=some (21,1,some 18):=by kernel_rfl
@[simp] theorem t127:ξ 127=some ⟨1,.int .u64,.int .u64 0,8,none⟩:=by kernel_rfl
@[simp] theorem t129:ξ 129=some ⟨1,.slice 149,.slice none 0 0,24,none⟩:=by kernel_rfl
@[simp] theorem jP:WZ ξ 129=some (149,4,none):=by kernel_rfl
@[simp] theorem t132:ξ 132=some ⟨1,.int .u32,.int .u32 0,4,none⟩:=by kernel_rfl
@[simp] theorem jO:Yt ξ 134 0=some (0,21):=by kernel_rfl
@[simp] theorem jN:Yt ξ 134 1=some (1,132):=by kernel_rfl
@[simp] theorem jM:Yt ξ 136 1=some (0,134):=by kernel_rfl
@[simp] theorem jL:Yt ξ 140 2=some (0,74):=by kernel_rfl
@[simp] theorem jK:Yt ξ 142 1=some (0,140):=by kernel_rfl
@[simp] theorem jJ:Yt ξ 142 2=some (1,132):=by kernel_rfl
@[simp] theorem jI:Yt ξ 145 1=some (0,132):=by kernel_rfl
@[simp] theorem jH:Yt ξ 147 1=some (0,145):=by kernel_rfl
@[simp] theorem jG:Yt ξ 147 2=some (1,136):=by kernel_rfl
noncomputable def uz:TypeDesc:=((ξ 149).getD ⟨0,.bool,.nilFunc,0,none⟩).Z3
@[simp] theorem t149:ξ 149=some ⟨4,uz,.agg #[.int .u32 0,.int .i32 0,.int .u32 0,.slice none 0 0],40,none⟩:=by kernel_rfl
@[simp] theorem jF:Yt ξ 149 0=some (0,147):=by kernel_rfl
@[simp] theorem jE:Yt ξ 149 1=some (3,22):=by kernel_rfl
@[simp] theorem t155:ξ 155=some ⟨1,.slice 159,.slice none 0 0,24,none⟩:=by kernel_rfl
@[simp] theorem jD:WZ ξ 155=some (159,2,none):=by kernel_rfl
noncomputable def Bv:TypeDesc:=((ξ 157).getD ⟨0,.bool,.nilFunc,0,none⟩).Z3
@[simp] theorem t157:ξ 157=some ⟨1,Bv,.nilFunc,8,none⟩:=by kernel_rfl
@[simp] theorem jC:V3 Bv=false:=by kernel_rfl
noncomputable def E0:TypeDesc:=((ξ 159).getD ⟨0,.bool,.nilFunc,0,none⟩).Z3
@[simp] theorem t159:ξ 159=some ⟨2,E0,.agg #[.int .i64 0,.nilFunc],16,none⟩:=by kernel_rfl
@[simp] theorem jB:V3 E0=true:=by kernel_rfl
@[simp] theorem jA:Yt ξ 159 0=some (0,3):=by kernel_rfl
@[simp] theorem jz:Yt ξ 159 1=some (1,157):=by kernel_rfl
@[simp] theorem jy (a:Ψ->Bool) (b:List (Nat×Ψ)):Ur ξ a 159 b=Rp [(0,1),(1,1)] (.agg #[.int .i64 0,.nilFunc]) a b:=by kernel_rfl
@[simp] theorem t160:ξ 160=some ⟨1,.map 21 3,.map none,8,none⟩:=by kernel_rfl
noncomputable def Bu:TypeDesc:=((ξ 165).getD ⟨0,.bool,.nilFunc,0,none⟩).Z3
@[simp] theorem t165:ξ 165=some ⟨3,Bu,.agg #[.slice none 0 0,.slice none 0 0,.slice none 0 0],72,none⟩:=by kernel_rfl
@[simp] theorem jx:V3 Bu=true:=by kernel_rfl
@[simp] theorem jw:Yt ξ 165 0=some (0,34):=by kernel_rfl
@[simp] theorem jv (a:Ψ->Bool) (b:List (Nat×Ψ)):Ur ξ a 165 b=Rp [(0,3)] (.agg #[.slice none 0 0,.slice none 0 0,.slice none 0 0]) a b:=by kernel_rfl
@[simp] theorem t166:ξ 166=some ⟨1,.slice 173,.slice none 0 0,24,none⟩:=by kernel_rfl
@[simp] theorem ju:WZ ξ 166=some (173,3,none):=by kernel_rfl
@[simp] theorem t170:ξ 170=some ⟨2,.array 2 3,.agg #[.int .i64 0,.int .i64 0],16,some [(.int .i64,0),(.int .i64,1)]⟩:=by kernel_rfl
@[simp] theorem js (a:Ψ->Bool) (b:List (Nat×Ψ)):Ur ξ a 170 b=Hk 1 (.agg #[.int .i64 0,.int .i64 0]) a b:=by kernel_rfl
@[simp] theorem t171:ξ 171=some ⟨1,.slice 245,.slice none 0 0,24,none⟩:=by kernel_rfl
@[simp] theorem jr:WZ ξ 171=some (245,1,none):=by kernel_rfl
noncomputable def EZ:TypeDesc:=((ξ 173).getD ⟨0,.bool,.nilFunc,0,none⟩).Z3
@[simp] theorem t173:ξ 173=some ⟨3,EZ,.agg #[.int .i64 0,.int .i64 0,.slice none 0 0],40,none⟩:=by kernel_rfl
@[simp] theorem jq:V3 EZ=true:=by kernel_rfl
@[simp] theorem jo:Yt ξ 173 0=some (0,170):=by kernel_rfl
@[simp] theorem jm:Yt ξ 173 1=some (2,171):=by kernel_rfl
@[simp] theorem jl (a:Ψ->Bool) (b:List (Nat×Ψ)):Ur ξ a 173 b=Rp [(0,2),(2,1)] (.agg #[.int .i64 0,.int .i64 0,.slice none 0 0]) a b:=by kernel_rfl
@[simp] theorem t174:ξ 174=some ⟨1,.map 9 26,.map none,8,none⟩:=by kernel_rfl
@[simp] theorem t178:ξ 178=some ⟨1,.pointer 181,.pointer none,8,none⟩:=by kernel_rfl
@[simp] theorem t179:ξ 179=some ⟨1,.slice 5,.slice none 0 0,24,none⟩:=by kernel_rfl
noncomputable def uy:TypeDesc:=((ξ 181).getD ⟨0,.bool,.nilFunc,0,none⟩).Z3
@[simp] theorem t181:ξ 181=some ⟨2,uy,.agg #[.pointer none,.slice none 0 0],32,none⟩:=by kernel_rfl
@[simp] theorem jk:Yt ξ 181 0=some (0,178):=by kernel_rfl
@[simp] theorem jj:Yt ξ 181 1=some (1,179):=by kernel_rfl
@[simp] theorem t199:ξ 199=some ⟨1,.unsafePointer,.pointer none,8,none⟩:=by kernel_rfl
noncomputable def Bt:TypeDesc:=((ξ 218).getD ⟨0,.bool,.nilFunc,0,none⟩).Z3
@[simp] theorem t218:ξ 218=some ⟨1,Bt,.nilFunc,8,none⟩:=by kernel_rfl
@[simp] theorem ji:V3 Bt=false:=by kernel_rfl
@[simp] theorem t222:ξ 222=some ⟨1,.pointer 5,.pointer none,8,none⟩:=by kernel_rfl
@[simp] theorem t224:ξ 224=some ⟨1,.int .i64,.int .i64 0,8,none⟩:=by kernel_rfl
@[simp] theorem t245:ξ 245=some ⟨1,.slice 246,.slice none 0 0,24,none⟩:=by kernel_rfl
@[simp] theorem jh:WZ ξ 245=some (246,2,none):=by kernel_rfl
@[simp] theorem t246:ξ 246=some ⟨2,.array 2 3,.agg #[.int .i64 0,.int .i64 0],16,some [(.int .i64,0),(.int .i64,1)]⟩:=by kernel_rfl
@[simp] theorem jg:WZ ξ 246=some (3,1,some 2):=by kernel_rfl
@[simp] theorem jf (a:Ψ->Bool) (b:List (Nat×Ψ)):Ur ξ a 246 b=Hk 1 (.agg #[.int .i64 0,.int .i64 0]) a b:=by kernel_rfl
@[simp] theorem t259:ξ 259=some ⟨3,.array 3 218,.agg #[.nilFunc,.nilFunc,.nilFunc],24,none⟩:=by kernel_rfl
@[simp] theorem je (a:Ψ->Bool) (b:List (Nat×Ψ)):Ur ξ a 259 b=Hk 1 (.agg #[.nilFunc,.nilFunc,.nilFunc]) a b:=by kernel_rfl
@[simp] theorem t271:ξ 271=some ⟨1,.int .u64,.int .u64 0,8,none⟩:=by kernel_rfl
@[simp] theorem t286:ξ 286=some ⟨1,.map 246 4,.map none,8,none⟩:=by kernel_rfl
@[simp] theorem t304:ξ 304=some ⟨1,.int .i64,.int .i64 0,8,none⟩:=by kernel_rfl
@[simp] theorem jd:VT ξ 22 22=some (3,1,⟨1,.int .i64,.int .i64 0,8,none⟩):=by kernel_rfl
@[simp] theorem jc:VT ξ 23 23=some (26,1,⟨1,.slice 9,.slice none 0 0,24,none⟩):=by kernel_rfl
@[simp] theorem jb:VT ξ 26 26=some (9,1,⟨1,.string,.string ⟨#[]⟩,16,none⟩):=by kernel_rfl
@[simp] theorem ja:VT ξ 27 27=some (52,3,⟨3,E3,.agg #[.string ⟨#[]⟩,.int .i64 0,.int .i64 0],32,none⟩):=by kernel_rfl
@[simp] theorem i':VT ξ 30 30=some (92,2,⟨2,E2,.agg #[.string ⟨#[]⟩,.int .i64 0],24,some [(.string,0),(.int .i64,1)]⟩):=by kernel_rfl
@[simp] theorem iZ:VT ξ 31 31=some (22,1,⟨1,.slice 3,.slice none 0 0,24,none⟩):=by kernel_rfl
@[simp] theorem iY:VT ξ 32 32=some (103,1,⟨1,.slice 102,.slice none 0 0,24,none⟩):=by kernel_rfl
@[simp] theorem iX:VT ξ 78 78=some (23,1,⟨1,.slice 26,.slice none 0 0,24,none⟩):=by kernel_rfl
@[simp] theorem iW:VT ξ 103 103=some (102,3,⟨3,E1,.agg #[.int .i64 0,.int .i64 0,.int .i64 0],24,some [(.int .i64,0),(.int .i64,1),(.int .i64,2)]⟩):=by kernel_rfl
@[simp] theorem iV:VT ξ 109 109=some (114,18,⟨18,.array 18 21,.agg #[.int .i32 0,.int .i32 0,.int .i32 0,.int .i32 0,.int .i32 0,.int .i32 0,.int .i32 0,.int .i32 0,.int .i32 0,.int .i32 0,.int .i32 0,.int .i32 0,.int .i32 0,.int .i32 0,.int .i32 0,.int .i32 0,.int .i32 0,.int .i32 0],72,some [(.int .i32,0),(.int .i32,1),(.int .i32,2),(.int .i32,3),(.int .i32,4),(.int .i32,5),(.int .i32,6),(.int .i32,7),(.int .i32,8),(.int .i32,9),(.int .i32,10),(.int .i32,11),(.int .i32,12),(.int .i32,13),(.int .i32,14),(.int .i32,15),(.int .i32,16),(.int .i32,17)]⟩):=by kernel_rfl
@[simp] theorem iU:VT ξ 112 112=some (21,1,⟨1,.int .i32,.int .i32 0,4,none⟩):=by kernel_rfl
@[simp] theorem iT:VT ξ 155 155=some (159,2,⟨2,E0,.agg #[.int .i64 0,.nilFunc],16,none⟩):=by kernel_rfl
@[simp] theorem iS:VT ξ 166 166=some (173,3,⟨3,EZ,.agg #[.int .i64 0,.int .i64 0,.slice none 0 0],40,none⟩):=by kernel_rfl
@[simp] theorem iR:VT ξ 171 171=some (245,1,⟨1,.slice 246,.slice none 0 0,24,none⟩):=by kernel_rfl
@[simp] theorem iQ:VT ξ 245 245=some (246,2,⟨2,.array 2 3,.agg #[.int .i64 0,.int .i64 0],16,some [(.int .i64,0),(.int .i64,1)]⟩):=by kernel_rfl
end Go.TL
namespace Go.TL
open Go.Proofs.Tryz
open Go.Proofs
variable [Z1]
theorem EY:IntKind.i64.wrap 1=1:=Z7
theorem EX:IntKind.i64.wrap 2=2:=Z7
theorem Y9 {i n:Nat} (h:i<n) (a:n<2 ^ 62):IntKind.i64.wrap ((i:Int)+1)=((i+1:Nat):Int):=by
 rw[IntWalk.i64_in _ I];rfl
theorem uw {a:Type} (f:a->Ψ) (z:Ψ) (l:List a) {i:Nat} (h:i<l.length) (b:i<(fill f z l i).length):(fill f z l i)[i]=z:=by
 have:=uE f z l h;rw[Z4 b] at this;exact WU this
theorem Hj (a b:Α) (g:a.length<2 ^ 62):Τ prog 24 [ζ J 1 a,ζ J 1 b] (ZV (a==b)):=by
 refine Μ.body Ο func24 U U ntmps24 U U Ω ?_;refine Φ ?_;refine W.iter (λp:Nat×Bool=>p.1<=a.length/\(p.2=true->a.length=b.length/\∀j,j<p.1->a[j]?=b[j]?)/\(p.2=false->a≠b)) (λp=>[(0,ζ J 1 a),(1,ζ J 1 b),(5,ZV p.2),(6,J p.1)]) (λ_=>[]) (λp=>a.length-p.1) (0,decide (a.length=b.length)) ⟨Ζ _,Ω,by simp;exact λh e=>h (by rw[e])⟩ U Ω (λi hi k=>?_);rcases i with⟨i,_|_⟩
 .refine Φ ?_;refine Κ U ?_;refine W.exit U ?_;refine Φ ?_;refine W.Y' ?_;simp[hi.2.2 U]
 .refine Φ ?_;have l:=(hi.2.1 U).1;refine W.Yl U (λc=>?_) (λc=>?_)
  .have c:i<a.length:=by simpa using c
   have f:i<b.length:=I;refine Φ ?_;refine WX (Ξ c f) ?_;refine Φ ?_;refine W.forget _ ?_ (k (i+1,decide (a[i]=b[i])) ⟨by simp;omega,λh=>⟨l,λj d=>?_⟩,λh e=>?_⟩ (by simp;omega))
   .simp[Y9 c g]
   .by_cases e:j=i
    .subst e;rw[Z4 c,Z4 f];simpa using h
    .exact(hi.2.1 U).2 j (by simp at d;omega)
   .subst e;simp at h
  .have c:a.length<=i:=by simpa using c
   refine W.exit U ?_;refine Φ ?_;refine W.rt ?_;refine .of ?_;have:a=b:=U' λj=>by
    by_cases d:j<i
    .exact(hi.2.1 U).2 j d
    .rw[W4 I,W4 I]
   simp[this]
abbrev Ya (l:List (Α)):Ψ:=ζ (ζ J 1) 1 l
theorem EW (a b:List (Α)) (n:a.length<2 ^ 40) (g:∀x∈a,x.length<2 ^ 40):Τ prog 21 [Ya a,Ya b] (ZV (a==b)):=by
 refine Μ.body Ο func21 U U ntmps21 U U Ω ?_;refine Φ ?_;refine W.iter (λp:Nat×Bool=>p.1<=a.length/\(p.2=true->a.length=b.length/\∀j,j<p.1->a[j]?=b[j]?)/\(p.2=false->a≠b)) (λp=>[(0,Ya a),(1,Ya b),(5,ZV p.2),(6,J p.1)]) (λ_=>[]) (λp=>a.length-p.1) (0,decide (a.length=b.length)) ⟨Ζ _,Ω,by simp;exact λh e=>h (by rw[e])⟩ U Ω (λi hi k=>?_);rcases i with⟨i,_|_⟩
 .refine Φ ?_;refine Κ U ?_;refine W.exit U ?_;refine Φ ?_;refine W.Y' ?_;simp[hi.2.2 U]
 .refine Φ ?_;have l:=(hi.2.1 U).1;refine W.Yl U (λc=>?_) (λc=>?_)
  .have c:i<a.length:=by simpa using c
   have f:i<b.length:=I;refine Φ ?_;refine W.draw (A:=[]) Ο mixed λo m=>Ua (Ξ c f) ?_;refine XV (Τ.q (Hj a[i] b[i] (by have:=g _ (Yq c);omega))) (VG ?_);refine Yn (m _ _ ?_);refine Φ ?_;refine W.forget _ ?_ (k (i+1,a[i]==b[i]) ⟨by simp;omega,λh=>⟨l,λj d=>?_⟩,λh e=>?_⟩ (by simp;omega))
   .simp[Y9 c (show a.length<2 ^ 62 by omega)]
   .by_cases e:j=i
    .subst e;rw[Z4 c,Z4 f];simpa using h
    .exact(hi.2.1 U).2 j (by simp at d;omega)
   .subst e;simp at h
  .have c:a.length<=i:=by simpa using c
   refine W.exit U ?_;refine Φ ?_;refine W.rt ?_;refine .of ?_;have:a=b:=U' λj=>by
    by_cases d:j<i
    .exact(hi.2.1 U).2 j d
    .rw[W4 I,W4 I]
   simp[this]
structure T' where
 name:ByteArray
 V0:Int
deriving DecidableEq
structure XC where
 Xg:Int
 seen:Int
 bare:Int
deriving DecidableEq
structure Y6 where
 ZN:List T'
 ZF:List (Α)
 cells:List (List XC)
deriving DecidableEq
abbrev R5 (g:T'):Ψ:=.Z6 [ZP g.name,J g.V0]
abbrev R4 (p:XC):Ψ:=.Z6 [J p.Xg,J p.seen,J p.bare]
abbrev WO (l:List T'):Ψ:=ζ R5 2 l
abbrev TD (l:List XC):Ψ:=ζ R4 3 l
abbrev S5 (l:List (List XC)):Ψ:=ζ TD 1 l
abbrev Wr (s:Y6):Ψ:=.Z6 [WO s.ZN,Ya s.ZF,S5 s.cells]
abbrev XP (s:Y6):Ψ:=.Ν [WO s.ZN,Ya s.ZF,S5 s.cells]
def Y6.small (s:Y6):Prop:=s.ZN.length<2 ^ 30/\s.ZF.length<2 ^ 30/\s.cells.length<2 ^ 30/\(∀x∈s.ZF,x.length<2 ^ 30)/\∀x∈s.cells,x.length<2 ^ 30
@[simp] theorem iP (x y:Int):(x != y) = !decide (x=y):=by rw[Qd];simp
section
variable {P:Program} {m nt:Nat} {k:ZA} {env:Β} {σ σ':Ρ} {Z:XD} {E:Yb}
theorem W.drop {h:Nat} (c:m<=h) (d:h<=σ.length) (e:∀(id:Nat) (r:Row),id<h->σ[id]?=some r->YR h r) (f:σ.take h=σ') (env':Β) (a:∀p∈env',ι env p.1=p.2/\η h p.2) (g:W P m nt k env' σ' Z E):W P m nt k env σ Z E:=
 W.cut h c env' d e (λp b=>by rw[(a p b).1];exact .low (a p b).2) (by rw[f];exact g)
theorem W.fix {id:Nat} {t:TypeId} {e:Ψ} {kk:Nat} (i:m<=id) (f:σ[id]?=some (.cells t kk [e])) (j:∀a∈e.cells,η id a) (l:∀(g:Nat) (r:Row),g<id->σ[g]?=some r->YR id r) (n:σ.take id=σ') (env':Β)
  (o:∀p∈env',(ι env p.1=p.2/\η id p.2)\/(ι env p.1=.π id 1 0 0/\p.2=.Ν e.cells)) (s:W P m nt k env' σ' Z E):W P m nt k env σ Z E:=
 W.cut id i env' (RG (ZR.1 f).1) l (λp u=>by
  rcases o p u with⟨b,c⟩|⟨b,c⟩
  .rw[b];exact .low c
  .rw[b,c];refine .π (ZY _) f U (e:=e) U Ω λx a a' d h=>?_;rw[V5] at d;rw[d] at h;cases h;exact .low (j a (ZH d))) (by rw[n];exact s)
theorem W.to {env':Β} (h:W P m nt k env' σ' Z E) (a:σ=σ') (b:∀p∈env',ι env p.1=p.2):W P m nt k env σ Z E:=a▸W.forget env' b h
end
abbrev Lx (a b:Int):Int:=U4 .i64 a b
abbrev J4 (a b:Int):Int:=Sb .i64 a b
abbrev Hi (a b:Int):Int:=LX .i64 a b
section
variable {P:Program} {σ:Ρ}
theorem WY.c {f:Ψ} {args:ψ} {r:Ψ} {K E:Ψ->Ρ->Prop} (h:WY P f args r) (b:K r σ):Yg P f args σ K E:=
 Yg.mono (h σ) (λa s ⟨d,e⟩=>by subst d;subst e;exact b) (λ_ _ h=>h.elim)
end
def J3 (n:Int):Bool:=decide (0<=n)&&decide (n<=2)
theorem uv (n:Int):Τ prog 220 [J n] (ZV (J3 n)):=by
 refine Μ.body Ο func220 U U ntmps220 U U Ω ?_;by_cases h:0<=n
 .refine Z9 h ?_;refine W.Y' ?_;simp[J3,h]
 .refine Z9 h ?_;refine W.Y' ?_;simp[J3,h]
def valid (n:Int):Bool:=decide (0<=n)&&decide (n<=63)
theorem J2 (n:Int):Τ prog 261 [J n] (ZV (valid n)):=by
 refine Μ.body Ο func261 U U ntmps261 U U Ω ?_;by_cases h:0<=n
 .refine Z9 h ?_;refine W.Y' ?_;simp[valid,h]
 .refine Z9 h ?_;refine W.Y' ?_;simp[valid,h]
theorem Bs (a b:Int):Τ prog 244 [J a,J b] (ZV (Lx a b==0)):=by
 refine Μ.body Ο func244 U U ntmps244 U U Ω ?_;refine Φ ?_;refine W.rt ?_;exact .of Ω
theorem Br (a b:Int):Τ prog 243 [J a,J b] (ZV (Hi a b==0)):=by
 refine Μ.body Ο func243 U U ntmps243 U U Ω ?_;refine Φ ?_;refine W.rt ?_;exact .of Ω
theorem Bq (b:Bool):Τ prog 166 [ZV b] (J (if b then 1 else 0)):=by
 refine Μ.body Ο func166 U U ntmps166 U U Ω ?_;cases b
 .refine Φ ?_;refine Κ U ?_;refine Φ ?_;exact W.NW
 .refine Φ ?_;refine Ι U ?_;refine Φ ?_;exact W.NW
theorem EV (n:Int):Τ prog 254 [J n] (ZV false):=by
 refine Μ.body Ο func254 U U ntmps254 U U Ω ?_;refine Φ ?_;refine W.rt ?_;exact .of Ω
end Go.TL
