import Derived.Test.YtkndbcflmgogjaaGreatQAK
set_option maxHeartbeats 16000000
set_option maxRecDepth 20000
set_option linter.unusedSectionVars false
set_option linter.unusedSimpArgs false
set_option linter.unusedVariables false
namespace Go.TL
open Go.Proofs.Tryz
open Go.Conc
variable [Z1]
section
variable {P:Program} {T:Z2} {A:κ} {m nt:Nat} {k:ZA} {env:Β} {σ:Ρ} {Z:XD} {E:Yb} {ops:ZI}
def zr (P:Program) (m nt:Nat) (k:ZA) (Z:XD) (E:Yb) (ops:ZI) (i:Nat) (o:Oper) (env:Β) (r:Row) (a:Ψ) (b:Row):Prop:=
 ∀env' τ rest,R6 ops o env env'->W P m nt (.inRegion ops rest::k) (Zu o env' a) (b::τ) Z E->W P m nt (.inRegion ops (i::rest)::k) env' (r::τ) Z E
def StepB (P:Program) (m nt:Nat) (k:ZA) (Z:XD) (E:Yb) (ops:ZI) (i:Nat) (o:Oper) (env:Β) (τ:Ρ) (a:Ψ) (b:Ρ):Prop:=
 ∀env' r rest,R6 ops o env env'->W P m nt (.inRegion ops rest::k) (Zu o env' a) (r::b) Z E->W P m nt (.inRegion ops (i::rest)::k) env' (r::τ) Z E
theorem zq {l:Type} {f:Nat->l} {tags:List Bool} (m:∀i o,ops[i]?=some o->writer ops tags i=false->f (i+1)=f i):∀a b,a<=ops.size->b<=ops.size->(∀j,j<ops.size->writer ops tags j=true->(j<a↔j<b))->f a=f b:=by
 have g:∀(d a:Nat),a+d<=ops.size->(∀j,a<=j->j<a+d->writer ops tags j=false)->f (a+d)=f a:=by
  intro d
  induction d with
  | zero=>intro a _ _;rfl
  | succ d n=>
   intro a hle h;have c:ops[a+d]?=some ops[a+d]:=YS I;have:=m (a+d) _ c (h (a+d) I I);rw[show a+(d+1)=a+d+1 by omega,this];exact n a I λj c k=>h j c I
 intro a b p r h;rcases Nat.le_total a b with hle|hle
 .have:=g (b-a) a I λj c k=>by
   cases e:writer ops tags j with
   | false=>rfl
   | true=>have:=(h j I e).2 I;omega
  rw[show a+(b-a)=b by omega] at this;exact this.symm
 .have:=g (a-b) b I λj c k=>by
   cases e:writer ops tags j with
   | false=>rfl
   | true=>have:=(h j I e).1 I;omega
  rw[show b+(a-b)=a by omega] at this;exact this
theorem zp {tags:List Bool} (a:S8 ops tags=true):∀i o,ops[i]?=some o->(∀j∈WH o,j<i)/\∀j b,j<i->ops[j]?=some b->clash ops tags i j o b=true->j∈(Hu ops).getD i []:=by
 intro i o d;have hi:i<ops.size:=(Tr.1 d).1;unfold S8 OX at a;simp only[XJ,VN] at a;have h:=a i hi;rw[d] at h;simp only[Wm,XJ,decide_eq_true_eq,VN] at h;refine⟨h.1,λj b f g e=>?_⟩;have c:=h.2 j f;rw[g] at c;unfold clash at e;simp only[e,Bool.not_true,Bool.false_or,I3] at c;exact c
theorem zo {tags:List Bool}:∀j,writer ops tags j=true->tags.getD j false=true:=λj h=>by
 unfold writer at h;rw[Wm] at h;exact h.1
theorem zn {tags:List Bool} {i:Nat} {c:Oper} (e:tags.getD i false=true):∀j a,ops[j]?=some a->writer ops tags j=true->clash ops tags i j c a=true/\clash ops tags j i a c=true:=λj a f b=>by
 have d:=zo j b;unfold writer at b;rw[d,f] at b;have g:We a=false:=by simpa using b
 unfold clash TE OW;rw[d,e,g];simp
theorem W.pk {as9:Nat->Ψ} {ρs:Nat->Row} {τs:Nat->Ρ} {td tb:List Bool} {env0:Β} (aA:S8 ops td=true) (aB:S8 ops tb=true)
  (aC:∀i o,ops[i]?=some o->td.getD i false=false->tb.getD i false=false->N0 P m nt k Z E ops i o (Zc ops env0 as9 (λ_=>true) i) (as9 i))
  (aD:∀i o,ops[i]?=some o->td.getD i false=true->zr P m nt k Z E ops i o (Zc ops env0 as9 (λ_=>true) i) (ρs i) (as9 i) (ρs (i+1))/\tb.getD i false=false)
  (aE:∀i o,ops[i]?=some o->tb.getD i false=true->StepB P m nt k Z E ops i o (Zc ops env0 as9 (λ_=>true) i) (τs i) (as9 i) (τs (i+1)))
  (aF:∀i o,ops[i]?=some o->writer ops td i=false->ρs (i+1)=ρs i) (aG:∀i o,ops[i]?=some o->writer ops tb i=false->τs (i+1)=τs i)
  (aH:W P m nt (.inRegion ops []::k) (Zc ops env0 as9 (λ_=>true) ops.size) (ρs ops.size::τs ops.size) Z E) :
  ∀(O:Nat) (t:Nat) (listed:Array Bool) (env:Β) (g n:Nat),listed.size=ops.size->
   (∀i,ι env i=ι (Zc ops env0 as9 (λi=>listed.getD i false) ops.size) i)->
   (∀i o,ops[i]?=some o->listed.getD i false=true->∀j∈WH o,listed.getD j false=true)->
   g<=ops.size->n<=ops.size->(∀j,j<ops.size->writer ops td j=true->(listed.getD j false=true↔j<g))->(∀j,j<ops.size->writer ops tb j=true->(listed.getD j false=true↔j<n))->
   ((List.range ops.size).filter λi=>!listed.getD i false).length<=O->
   W P m nt (.inRegion ops (Region.linearise.go .any ops O t listed [])::k) env (ρs g::τs n) Z E:=by
 have ad:=zp aA
 have am:=zp aB
 have ae:∀i o,ops[i]?=some o->∀j∈WH o,j<i:=λi o l=>(ad i o l).1
 have an:=zq aF
 have ao:=zq aG;intro O;have done:∀(t:Nat) (listed:Array Bool) (env:Β) (g n:Nat),(∀i,i<ops.size->listed.getD i false=true)->(∀i,ι env i=ι (Zc ops env0 as9 (λi=>listed.getD i false) ops.size) i)->g<=ops.size->n<=ops.size->
   (∀j,j<ops.size->writer ops td j=true->(listed.getD j false=true↔j<g))->(∀j,j<ops.size->writer ops tb j=true->(listed.getD j false=true↔j<n))->W P m nt (.inRegion ops []::k) env (ρs g::τs n) Z E:=λt listed env g n K L F H v J=>by
  have aI:ρs g=ρs ops.size:=an g ops.size F (ZY _) λj d p=>by rw[<-v j d p];simp[K j d,d]
  have Y:τs n=τs ops.size:=ao n ops.size H (ZY _) λj d p=>by rw[<-J j d p];simp[K j d,d]
  rw[aI,Y];refine .congr (λi=>?_) aH;rw[L i];exact LC ops.size λi o hi _ _=>K i hi
 have aJ:∀listed:Array Bool,listed.size=ops.size->(∃i,i<ops.size/\listed.getD i false=false)->∃i,i<ops.size/\listed.getD i false=false/\∀j,j<i->listed.getD j false=true:=λlisted Q ⟨i,hi,s⟩=>by
  induction i using Nat.strongRecOn with
  | _ i S=>
   by_cases d:∃j,j<i/\listed.getD j false=false
   .obtain⟨j,w,A⟩:=d;exact S j w I A
   .exact⟨i,hi,s,λj aK=>by
     cases h:listed.getD j false with
     | true=>rfl
     | false=>exact absurd ⟨j,aK,h⟩ d⟩
 induction O with
 | zero=>
  intro t listed env g n Q L T F H v J aL;have K:∀i,i<ops.size->listed.getD i false=true:=λi hi=>by
   cases h:listed.getD i false with
   | true=>rfl
   | false=>
    have aa:i∈(List.range ops.size).filter λi=>!listed.getD i false:=by rw[To];exact⟨VN.2 hi,by rw[h];rfl⟩
    have:((List.range ops.size).filter λi=>!listed.getD i false)=[]:=YZ.1 I;rw[this] at aa;simp at aa
  exact done t listed env g n K L F H v J
 | succ O S=>
  intro t listed env g n Q L T F H v J aL;simp only[Region.linearise.go];generalize aM:((List.range ops.size).filter λi=>!listed.getD i true&&((ops[i]?).map (·.after.all λe=>!Region.binds .any e||listed.getD e.on false)).getD false)=M;have ap:∀i,i<ops.size->listed.getD i true=listed.getD i false:=λi hi=>by
   rw[Wn,Wn,YS I];rfl
  have aq:∀i,i∈M↔i<ops.size/\listed.getD i false=false/\∀o,ops[i]?=some o->∀j∈WH o,listed.getD j false=true:=λi=>by
   rw[<-aM];simp only[To,VN,Wm,Bool.not_eq_true'];constructor
   .rintro⟨w,A,C⟩;rw[ap i w] at A;refine⟨w,A,λo l j d=>?_⟩;rw[l] at C;simp only[Option.map_some,Option.getD_some,IW] at C;unfold WH at d;simp only[Zh,To] at d;obtain⟨e,⟨aN,aO⟩,rfl⟩:=d;have:=C e (by simpa using aN);simpa[aO] using this
   .rintro⟨w,A,C⟩;refine⟨w,by rw[ap i w];exact A,?_⟩;have l:ops[i]?=some ops[i]:=YS w;rw[l];simp only[Option.map_some,Option.getD_some,IW];intro e aP;by_cases ar:Region.binds .any e=true
    .have:=C _ l e.on (by unfold WH;simp only[Zh,To];exact⟨e,⟨by simpa using aP,ar⟩,U⟩);simp[this]
    .simp[ar]
  cases hi:M[t % M.length]? with
  | none=>
   simp only[List.reverse_nil];have aQ:M=[]:=by
    cases aR:M with
    | nil=>rfl
    | cons x au=>
     rw[aR] at hi;have af:t % (x::au).length<(x::au).length:=No _ Ω;rw[Z4 af] at hi;cases hi
   have K:∀i,i<ops.size->listed.getD i false=true:=λi N=>by
    cases h:listed.getD i false with
    | true=>rfl
    | false=>
     obtain⟨r,w,A,C⟩:=aJ listed Q ⟨i,N,h⟩;have:r∈M:=(aq r).2 ⟨w,A,λo l j d=>C j (ae r o l j d)⟩;rw[aQ] at this;simp at this
   exact done t listed env g n K L F H v J
  | some i=>
   simp only;rw[BK];have aa:i∈M:=ZH hi;obtain⟨w,A,C⟩:=(aq i).1 aa;have l:ops[i]?=some ops[i]:=YS w;have aS:=Ht ae (λj=>listed.getD j false=true) (λj o d s=>T j o d s) i _ l (C _ l);have low:∀j f,j<i->ops[j]?=some f->(clash ops td i j ops[i] f=true\/clash ops tb i j ops[i] f=true)->listed.getD j false=true:=λj f d u B=>aS j (B.elim (λB=>(ad i _ l).2 j f d u B) (λB=>(am i _ l).2 j f d u B));have high:∀j f,i<j->ops[j]?=some f->(clash ops td j i f ops[i]=true\/clash ops tb j i f ops[i]=true)->listed.getD j false=false:=λj f d u B=>by
    cases s:listed.getD j false with
    | false=>rfl
    | true=>
     have:=Ht ae (λj=>listed.getD j false=true) (λj o d s=>T j o d s) j f u (T j f u s) i (B.elim (λB=>(ad j f u).2 i _ d l B) (λB=>(am j f u).2 i _ d l B));rw[A] at this;cases this
   have ag:R6 ops ops[i] (Zc ops env0 as9 (λ_=>true) i) env:=λx av=>by
    rw[L x];have c1:ι (Zc ops env0 as9 (λi=>listed.getD i false) ops.size) x=ι (Zc ops env0 as9 (λi=>listed.getD i false) i) x:=Hs I λj f aT aU u hd=>by
     by_cases e:j=i
     .subst e;exact A
     .refine high j f I u ?_;unfold clash TE OW;simp[hd,av]
    rw[c1];exact LC i λj f d u hd=>low j f d u (.inl (by unfold clash TE OW;simp[hd,av]))
   have ah:∀x,ι (Zu ops[i] env (as9 i)) x=ι (Zc ops env0 as9 (λj=>(listed.setIfInBounds i true).getD j false) ops.size) x:=λx=>by
    have D:∀j,(listed.setIfInBounds i true).getD j false=if j=i then true else listed.getD j false:=λj=>by
     rw[Wn,Wn];by_cases e:j=i
     .subst e;rw[Ts I];simp
     .rw[UK (YV e),if_neg e]
    rw[MP];by_cases hd:ops[i].dst=some x
    .rw[if_pos hd];have c1:ι (Zc ops env0 as9 (λj=>(listed.setIfInBounds i true).getD j false) ops.size) x=ι (Zc ops env0 as9 (λj=>(listed.setIfInBounds i true).getD j false) (i+1)) x:=Hs I λj f aT aU u ai=>by
      rw[D,if_neg I];refine high j f I u (.inl ?_);unfold clash TE OW;simp[hd,ai]
     rw[c1];simp only[Zc,D,if_true,l,MP,hd]
    .rw[if_neg hd,L x];exact LC ops.size λj f d u ai=>by
      rw[D,if_neg];intro e;subst e;rw[l] at u;cases u;exact hd ai
   have D:∀j,(listed.setIfInBounds i true).getD j false=if j=i then true else listed.getD j false:=λj=>by
    rw[Wn,Wn];by_cases e:j=i
    .subst e;rw[Ts I];simp
    .rw[UK (YV e),if_neg e]
   have aj:((List.range ops.size).filter λj=>!(listed.setIfInBounds i true).getD j false).length<=O:=by
    have af:((List.range ops.size).filter λj=>!(listed.setIfInBounds i true).getD j false).length<((List.range ops.size).filter λj=>!listed.getD j false).length:=by
     have:((List.range ops.size).filter λj=>!(listed.setIfInBounds i true).getD j false)=((List.range ops.size).filter λj=>!listed.getD j false).filter λj=>j != i:=by
      rw[List.filter_filter];apply List.filter_congr;intro j _;rw[D];by_cases e:j=i
      .subst e;simp
      .simp[e]
     rw[this];have aV:i∈(List.range ops.size).filter λj=>!listed.getD j false:=by
      rw[To];exact⟨VN.2 w,by rw[A];rfl⟩
     exact List.length_filter_lt_length_iff_exists.2 ⟨i,aV,Ω⟩
    omega
   have ak:∀j o,ops[j]?=some o->(listed.setIfInBounds i true).getD j false=true->∀y∈WH o,(listed.setIfInBounds i true).getD y false=true:=λj o d s y aw=>by
    rw[D] at s ⊢;by_cases e:y=i
    .rw[if_pos e]
    .rw[if_neg e];by_cases Y:j=i
     .subst Y;rw[l] at d;cases d;exact C _ l y aw
     .rw[if_neg Y] at s;exact T j o d s y aw
   have ab:∀(tags:List Bool) (g:Nat),tags.getD i false=false->(∀j,j<ops.size->writer ops tags j=true->(listed.getD j false=true↔j<g))->∀j,j<ops.size->writer ops tags j=true->((listed.setIfInBounds i true).getD j false=true↔j<g):=λtags g V v j d p=>by
    rw[D];have:j≠i:=λe=>by subst e;rw[zo j p] at V;cases V
    rw[if_neg this];exact v j d p
   have keepW:∀(tags:List Bool) (g:Nat),writer ops tags i=false->(∀j,j<ops.size->writer ops tags j=true->(listed.getD j false=true↔j<g))->∀j,j<ops.size->writer ops tags j=true->((listed.setIfInBounds i true).getD j false=true↔j<g):=λtags g ax v j d p=>by
    rw[D];have:j≠i:=λe=>by subst e;rw[p] at ax;cases ax
    rw[if_neg this];exact v j d p
   have ay:∀(tags:List Bool),tags.getD i false=true->(∀j f,j<i->ops[j]?=some f->clash ops tags i j ops[i] f=true->listed.getD j false=true)->(∀j f,i<j->ops[j]?=some f->clash ops tags j i f ops[i]=true->listed.getD j false=false)->
     (∀j,j<ops.size->writer ops tags j=true->j<i->listed.getD j false=true)/\(∀j,j<ops.size->writer ops tags j=true->i<j->listed.getD j false=false):=λtags V lo hi=>⟨λj d p al=>lo j _ al (YS d) (zn V j _ (YS d) p).1,λj d p al=>hi j _ al (YS d) (zn V j _ (YS d) p).2⟩
   have az:∀(tags:List Bool) (g:Nat),(∀j,j<ops.size->writer ops tags j=true->j<i->listed.getD j false=true)->(∀j,j<ops.size->writer ops tags j=true->i<j->listed.getD j false=false)->(∀j,j<ops.size->writer ops tags j=true->(listed.getD j false=true↔j<g))->∀j,j<ops.size->writer ops tags j=true->(j<g↔j<i):=λtags g lo hi v j d p=>by
    rw[<-v j d p];constructor
    .intro s;apply TW;intro aW;by_cases e:j=i
     .subst e;rw[A] at s;cases s
     .rw[hi j d p I] at s;cases s
    .exact lo j d p
   have next:∀(tags:List Bool),(∀j,j<ops.size->writer ops tags j=true->j<i->listed.getD j false=true)->(∀j,j<ops.size->writer ops tags j=true->i<j->listed.getD j false=false)->∀j,j<ops.size->writer ops tags j=true->((listed.setIfInBounds i true).getD j false=true↔j<i+1):=λtags lo hi j d p=>by
    rw[D];by_cases e:j=i
    .subst e;simp
    .rw[if_neg e];constructor
     .intro s;apply TW;intro aW;rw[hi j d p I] at s;cases s
     .intro af;exact lo j d p I
   cases X:td.getD i false with
   | true=>
    obtain⟨aX,R⟩:=aD i _ l X;obtain⟨lo,N⟩:=ay td X (λj f a b c=>low j f a b (.inl c)) (λj f a b c=>high j f a b (.inl c));rw[an g i F I (az td g lo N v)];refine aX env _ _ ag ?_;exact S _ _ _ (i+1) n (by simpa using Q) ah ak I H (next td lo N) (ab tb n R J) aj
   | false=>
    cases R:tb.getD i false with
    | false=>
     refine aC i _ l X R env _ _ ag ?_;exact S _ _ _ g n (by simpa using Q) ah ak F H (ab td g X v) (ab tb n R J) aj
    | true=>
     obtain⟨lo,N⟩:=ay tb R (λj f a b c=>low j f a b (.inr c)) (λj f a b c=>high j f a b (.inr c));rw[ao n i H I (az tb n lo N J)];refine aE i _ l R env _ _ ag ?_;exact S _ _ _ g (i+1) (by simpa using Q) ah ak F I (ab td g X v) (next tb lo N) aj
def OA (f:Row->Zi) (K:Ψ->Ρ->Prop):Prop:=∃a b,((∀r,f r=.ok a (r::b))\/∃p:Prop,p/\∀r,f r=.ZD p (.ok a (r::b)))/\K a b
theorem pj {f g:Row->Zi} {K:Ψ->Ρ->Prop} (h:∀r,f r=g r):OA f K=OA g K:=by rw[funext h]
theorem ph {a:Ψ} {τ:Ρ} {K:Ψ->Ρ->Prop}:OA (λr=>.ok a (r::τ)) K=K a τ:=by
 refine propext ⟨λ⟨b,f,h,d⟩=>?_,λh=>⟨a,τ,.inl λ_=>rfl,h⟩⟩;rcases h with h|⟨p,_,h⟩
 .have:=h (.map []);injection this with e c
  injection c with _ c
  rw[e,c];exact d
 .have:=h (.map []);cases this
theorem pg {p:Prop} {a:Ψ} {τ:Ρ} {K:Ψ->Ρ->Prop}:OA (λr=>.ZD p (.ok a (r::τ))) K=(p/\K a τ):=by
 refine propext ⟨λ⟨b,i,h,e⟩=>?_,λh=>⟨a,τ,.inr ⟨p,h.1,λ_=>rfl⟩,h.2⟩⟩;rcases h with h|⟨q,f,h⟩
 .have:=h (.map []);cases this
 .have:=h (.map []);injection this with g c
  injection c with c d
  injection d with _ d
  rw[c,d];exact⟨g▸f,e⟩
def zm (P:Program) (f:Ψ) (args:ψ) (r:Row) (c:Ψ->Prop) (d:Ψ->Row->Prop):Prop:=
 (∃a,WY P f args a/\c a)\/∃a r',(∀τ,Yg P f args (r::τ) (λb s=>b=a/\s=r'::τ) (λ_ _=>False))/\d a r'
def Gk (x:Zi) (b:Ψ->Row->Prop):Prop:=match x with
 | .ZD p (.ok a [r])=>p/\b a r
 | _=>False
theorem pf {p:Prop} {a:Ψ} {r:Row} {b:Ψ->Row->Prop}:Gk (.ZD p (.ok a [r])) b=(p/\b a r):=X' rfl rfl
def Gj (P:Program) (T:Z2) (A:κ) (env:Β) (o:Oper) (r:Row) (τ:Ρ) (a:Ψ->Prop) (b:Ψ->Row->Prop) (d:Ψ->Ρ->Prop):Prop:=match o.op with
 | .call ⟨.value f,args,_⟩=>zm P (ο env f) (args.toList.map (ο env)) r a b
 | .panic _=>False
 | .defer _=>False
 | .makeSlice e n c=>Wt (Up A o.dst&&Up A (o.dst.map (· + 4096))) ((WT T A env o).Yp a (OA (λr=>Xa T A env (r::τ) o) d)) (Gk (O3 T e (ο env n) (ο env c) [r]) b)
 | _=>(WT T A env o).Yp a (OA (λr=>Xa T A env (r::τ) o) d)
theorem pe {P:Program} {T:Z2} {A:κ} {env:Β} {o:Oper} {r:Row} {τ:Ρ} {a:Ψ->Prop} {b:Ψ->Row->Prop} {d:Ψ->Ρ->Prop}:Gj P T A env o r τ a b d=match o.op with
 | .call ⟨.value f,args,_⟩=>zm P (ο env f) (args.toList.map (ο env)) r a b
 | .panic _=>False
 | .defer _=>False
 | .makeSlice e n c=>Wt (Up A o.dst&&Up A (o.dst.map (· + 4096))) ((WT T A env o).Yp a (OA (λr=>Xa T A env (r::τ) o) d)) (Gk (O3 T e (ο env n) (ο env c) [r]) b)
 | _=>(WT T A env o).Yp a (OA (λr=>Xa T A env (r::τ) o) d):=X' rfl rfl
def UP (P:Program) (T:Z2) (A:κ) (nt:Nat) (ops:ZI):κ->Β->Row->Ρ->List Bool->List Bool->(Β->Ρ->Prop)->Prop
 | [],env,r,τ,td,tb,K=>S8 ops td=true/\S8 ops tb=true/\K env (r::τ)
 | i::is,env,r,τ,td,tb,K=>W' ops[i]? λo=>WS nt o=true/\W' (XG env ops o) λw=>
   Wt w (UP P T A nt ops is (Zu o env .Zx) r τ (td++[false]) (tb++[false]) K)
    (Gj P T A env o r τ (λa=>UP P T A nt ops is (Zu o env a) r τ (td++[false]) (tb++[false]) K) (λa r'=>UP P T A nt ops is (Zu o env a) r' τ (td++[true]) (tb++[false]) K) (λa b=>UP P T A nt ops is (Zu o env a) r b (td++[false]) (tb++[true]) K))
def Gi (P:Program) (T:Z2) (A:κ) (nt:Nat) (ops:ZI) (is:κ) (o:Oper) (env:Β) (r:Row) (τ:Ρ) (td tb:List Bool) (K:Β->Ρ->Prop) (a:Ψ):Prop:=UP P T A nt ops is (Zu o env a) r τ (td++[false]) (tb++[false]) K
def zl (P:Program) (T:Z2) (A:κ) (nt:Nat) (ops:ZI) (is:κ) (o:Oper) (env:Β) (τ:Ρ) (td tb:List Bool) (K:Β->Ρ->Prop) (a:Ψ) (r:Row):Prop:=UP P T A nt ops is (Zu o env a) r τ (td++[true]) (tb++[false]) K
def Gh (P:Program) (T:Z2) (A:κ) (nt:Nat) (ops:ZI) (is:κ) (o:Oper) (env:Β) (r:Row) (td tb:List Bool) (K:Β->Ρ->Prop) (a:Ψ) (τ:Ρ):Prop:=UP P T A nt ops is (Zu o env a) r τ (td++[false]) (tb++[true]) K
section
variable {is:κ} {i:Nat} {o:Oper} {r:Row} {τ:Ρ} {td tb:List Bool} {K:Β->Ρ->Prop} {a:Ψ}
theorem pd:UP P T A nt ops [] env r τ td tb K=(S8 ops td=true/\S8 ops tb=true/\K env (r::τ)):=X' rfl rfl
theorem pb:UP P T A nt ops (i::is) env r τ td tb K=W' ops[i]? λo=>WS nt o=true/\W' (XG env ops o) λw=>
   Wt w (UP P T A nt ops is (Zu o env .Zx) r τ (td++[false]) (tb++[false]) K) (Gj P T A env o r τ (Gi P T A nt ops is o env r τ td tb K) (zl P T A nt ops is o env τ td tb K) (Gh P T A nt ops is o env r td tb K)):=X' U U
theorem pa:Gi P T A nt ops is o env r τ td tb K a=UP P T A nt ops is (Zu o env a) r τ (td++[false]) (tb++[false]) K:=X' rfl rfl
theorem o9:zl P T A nt ops is o env τ td tb K a r=UP P T A nt ops is (Zu o env a) r τ (td++[true]) (tb++[false]) K:=X' rfl rfl
theorem o8:Gh P T A nt ops is o env r td tb K a τ=UP P T A nt ops is (Zu o env a) r τ (td++[false]) (tb++[true]) K:=X' rfl rfl
end
def Gg (P:Program) (m nt:Nat) (k:ZA) (Z:XD) (E:Yb) (ops:ZI) (i:Nat) (o:Oper) (env:Β) (r:Row) (τ:Ρ) (d b:Bool) (a:Ψ) (r':Row) (c:Ρ):Prop:=
 (d=true/\b=false/\zr P m nt k Z E ops i o env r a r'/\c=τ)\/(d=false/\b=true/\StepB P m nt k Z E ops i o env τ a c/\r'=r/\(We o=true->c=τ))\/(d=false/\b=false/\N0 P m nt k Z E ops i o env a/\r'=r/\c=τ)
theorem o7 (L:ZL P T) {i:Nat} {is:κ} {r:Row} {τ:Ρ} {td tb:List Bool} {K:Β->Ρ->Prop} (h:UP P T A nt ops (i::is) env r τ td tb K) :
  ∃o a r' g d b,ops[i]?=some o/\Gg P m nt k Z E ops i o env r τ d b a r' g/\(d=true->We o=false)/\UP P T A nt ops is (Zu o env a) r' g (td++[d]) (tb++[b]) K:=by
 unfold UP W' at h;split at h
 .exact h.elim
 .rename_i o l;obtain⟨hd,h⟩:=h;split at h
  .exact h.elim
  rename_i w D;unfold Wt at h;cases w
  .replace h:=h.1 U
   exact⟨o,.Zx,r,τ,false,false,l,.inr (.inr ⟨U,U,λenv' σ' rest e t=>.unwanted l (by rw[U2 e];exact D) hd t,U,U⟩),λh=>(by cases h),h⟩
  .replace h:=h.2 U
   have gen:(∀c,o.op≠.defer c)->(WT T A env o).Yp (Gi P T A nt ops is o env r τ td tb K) (OA (λr=>Xa T A env (r::τ) o) (Gh P T A nt ops is o env r td tb K))->∃o a r' g d b,ops[i]?=some o/\Gg P m nt k Z E ops i o env r τ d b a r' g/\(d=true->We o=false)/\UP P T A nt ops is (Zu o env a) r' g (td++[d]) (tb++[b]) K:=λJ h=>by
    unfold Gi Gh at h;have Q:∀(F:Zl) (a:Ψ),WT T A env o=F->(∀K:Ψ->Ρ->Prop,∀s,K a s->(F.YX s).holds K)->(∀σ s,F.or σ s=F.YX σ)->N0 P m nt k Z E ops i o env a:=λF a C M V env' σ' rest e t=>by
     refine .op (A:=A) L l (by rw[U2 e];exact D) hd (λc j=>J c j) ?_;rw[QN e,C,V];exact M _ _ t
    unfold Zl.Yp at h;split at h
    .rename_i a N;exact⟨o,a,r,τ,false,false,l,.inr (.inr ⟨U,U,Q _ a N (λK s B=>B) (λ_ _=>rfl),U,U⟩),λh=>(by cases h),h⟩
    .rename_i p a N;exact⟨o,a,r,τ,false,false,l,.inr (.inr ⟨U,U,Q _ a N (λK s B=>⟨h.1,B⟩) (λ_ _=>rfl),U,U⟩),λh=>(by cases h),h.2⟩
    .exact h.elim
    .rename_i W;have X:∀(a:Ψ) (g:Ρ),(∀r,∃x:Zi,Xa T A env (r::τ) o=x/\∀K:Ψ->Ρ->Prop,K a (r::g)->x.holds K)->StepB P m nt k Z E ops i o env τ a g:=λa g C env' r rest e t=>by
      obtain⟨x,C,M⟩:=C r;refine .op (A:=A) L l (by rw[U2 e];exact D) hd (λc j=>J c j) ?_;rw[QN e,NY e,W,C];exact M _ t
     obtain⟨a,g,u,B⟩:=h;refine⟨o,a,r,g,false,true,l,.inr (.inl ⟨U,U,X a g λr=>?_,U,λC=>?_⟩),λh=>(by cases h),B⟩
     .rcases u with u|⟨p,R,u⟩
      .exact⟨_,u r,λK B=>B⟩
      .exact⟨_,u r,λK B=>⟨R,B⟩⟩
     .have:r::g=r::τ:=by
       rcases u with u|⟨p,R,u⟩
       .exact LA (p:=True) C (.inl (u r))
       .exact LA C (.inr (u r))
      injection this
   unfold Gj at h;split at h
   .rename_i f args ts v;have S:∀env',R6 ops o env env'->ο env' f=ο env f/\args.toList.map (ο env')=args.toList.map (ο env):=λenv' e=>by
     have O:=J7 e;rw[v] at O;refine⟨O f (by simp[Op.operands,Call.operands]),J6 λx Y=>O x (by simp[Op.operands,Call.operands,Y])⟩
    rcases h with⟨a,j,h⟩|⟨a,r',j,h⟩
    .refine⟨o,a,r,τ,false,false,l,.inr (.inr ⟨U,U,λenv' σ' rest e t=>.call l (by rw[U2 e];exact D) hd v ?_,U,U⟩),λh=>(by cases h),h⟩;obtain⟨H,I⟩:=S env' e;rw[H,I];exact(j σ').mono (λa s ⟨x,y⟩=>by subst x;subst y;exact t) (λ_ _ h=>h.elim)
    .refine⟨o,a,r',τ,true,false,l,.inl ⟨U,U,λenv' g rest e t=>.call l (by rw[U2 e];exact D) hd v ?_,U⟩,λ_=>(by unfold We;rw[v]),h⟩;obtain⟨H,I⟩:=S env' e;rw[H,I];exact(j g).mono (λa s ⟨x,y⟩=>by subst x;subst y;exact t) (λ_ _ h=>h.elim)
   .exact h.elim
   .exact h.elim
   .rename_i ab n c v;unfold Wt at h;cases j:(Up A o.dst&&Up A (o.dst.map (· + 4096)))
    .exact gen (λc hd=>by rw[v] at hd;cases hd) (h.1 j)
    .replace h:=h.2 j
     rw[Wm] at j;unfold Gk at h;split at h
     .rename_i p a r' aa;refine⟨o,a,r',τ,true,false,l,.inl ⟨U,U,λenv' g rest e t=>?_,U⟩,λ_=>(by unfold We;rw[v]),h.2⟩;refine .op (A:=A) L l (by rw[U2 e];exact D) hd (λc hd=>by rw[v] at hd;cases hd) ?_;rw[QN e,NY e];have H:WT T A env o=.bad:=by unfold WT;rw[v];simp only[j.1,if_true]
      have I:Xa T A env (r::g) o=.ZD p (.ok a (r'::g)):=by unfold Xa;rw[v];simp only[j.1,j.2,if_true];exact w6 aa g
      rw[H,I];exact⟨h.1,t⟩
     .exact h.elim
   .rename_i ad ae J af;exact gen (λc=>J c) h
theorem o6 (B:ZL P T) {K:Β->Ρ->Prop} {env0:Β}:∀(d i:Nat) (td tb:List Bool) (as9:Nat->Ψ) (ρs:Nat->Row) (τs:Nat->Ρ),i+d=ops.size->td.length=i->tb.length=i->
  (∀j o,j<i->ops[j]?=some o->Gg P m nt k Z E ops j o (Zc ops env0 as9 (λ_=>true) j) (ρs j) (τs j) (td.getD j false) (tb.getD j false) (as9 j) (ρs (j+1)) (τs (j+1))/\(td.getD j false=true->We o=false))->
  UP P T A nt ops (List.range' i d) (Zc ops env0 as9 (λ_=>true) i) (ρs i) (τs i) td tb K->
  ∃(td tb:List Bool) (as9:Nat->Ψ) (b:Nat->Row) (c:Nat->Ρ),S8 ops td=true/\S8 ops tb=true/\b 0=ρs 0/\c 0=τs 0/\(∀j o,ops[j]?=some o->Gg P m nt k Z E ops j o (Zc ops env0 as9 (λ_=>true) j) (b j) (c j) (td.getD j false) (tb.getD j false) (as9 j) (b (j+1)) (c (j+1))/\(td.getD j false=true->We o=false))/\K (Zc ops env0 as9 (λ_=>true) ops.size) (b ops.size::c ops.size):=by
 intro d
 induction d with
 | zero=>
  intro i td tb as9 ρs τs hi n p g h;simp only[List.range'_zero,UP] at h;have:i=ops.size:=I;subst this;exact⟨td,tb,as9,ρs,τs,h.1,h.2.1,U,U,λj o l=>g j o (Tr.1 l).1 l,h.2.2⟩
 | succ d C=>
  intro i td tb as9 ρs τs hi n p g h;rw[List.range'_succ] at h;obtain⟨o,a,r',D,r,s,l,F,H,h⟩:=o7 (m:=m) (k:=k) (Z:=Z) (E:=E) B h;let f:Nat->Ψ:=λj=>if j=i then a else as9 j
  let b:Nat->Row:=λj=>if j=i+1 then r' else ρs j
  let c:Nat->Ρ:=λj=>if j=i+1 then D else τs j
  have u:∀j,j<=i->Zc ops env0 as9 (λ_=>true) j=Zc ops env0 f (λ_=>true) j:=λj g=>E7 j λx Y=>by simp only[f];rw[if_neg I]
  have J:Zc ops env0 f (λ_=>true) (i+1)=Zu o (Zc ops env0 as9 (λ_=>true) i) a:=by
   simp only[Zc,if_true,l];rw[<-u i (ZY i)];simp only[f,if_true]
  have w:∀(t:List Bool) (x:Bool),t.length=i->(t++[x]).getD i false=x:=λt x h=>by rw[V7,Xz I,h];simp
  have y:∀(t:List Bool) (x:Bool) (j:Nat),t.length=i->j<i->(t++[x]).getD j false=t.getD j false:=λt x j h g=>by rw[V7,YN I,<-V7]
  have:=C (i+1) (td++[r]) (tb++[s]) f b c I (by simp[n]) (by simp[p]) (λj L aa v=>?_) ?_
  .obtain⟨t1,t2,M,N,O,Q,R,S,V,W,X⟩:=this;exact⟨t1,t2,M,N,O,Q,R,S.trans (by simp only[b];rw[if_neg I]),V.trans (by simp only[c];rw[if_neg I]),W,X⟩
  .by_cases e:j=i
   .subst e;rw[l] at v;cases v;rw[<-u j (ZY j),w td r n,w tb s p];simp only[f,b,c,if_true];rw[if_neg I,if_neg I];exact⟨F,H⟩
   .have:=g j L I v;rw[<-u j I,y td r j n I,y tb s j p I];simp only[f,b,c];rw[if_neg I,if_neg I,if_neg I,if_neg I,if_neg I];exact this
  .rw[J];simp only[b,c,if_true];exact h
theorem W.o5 (C:ZL P T) (D:P.follows .mixedOrders=true) {r:Row} {τ:Ρ} {id:Nat} (h:∀l:Β->Ρ->Prop,(∀env σ,W P m nt k env σ Z E->l env σ)->UP P T A nt ops (idx ops.size []) env r τ [] [] l):W P m nt (.code (.region id ops true)::k) env (r::τ) Z E:=by
 have p:=h (λenv σ=>W P m nt k env σ Z E) λ_ _ h=>h;rw[idx_eq,I1] at p;obtain⟨td,tb,as9,ρs,τs,F,J,K,L,f,M⟩:=o6 (m:=m) (k:=k) (Z:=Z) (E:=E) (env0:=env) C ops.size 0 [] [] (λ_=>.Zx) (λ_=>r) (λ_=>τ) I U U (λj o s=>I) p;intro N mn x cs b S B H t u v O Q R;refine .draw u v λn=>?_;have g:∀i:Nat,(Array.replicate ops.size false).getD i false=false:=λi=>by
  rw[Wn,Nx];split<;>rfl
 have w:=W.pk (P:=P) (m:=m) (nt:=nt) (k:=k) (Z:=Z) (E:=E) (ops:=ops) (as9:=as9) (ρs:=ρs) (τs:=τs) (td:=td) (tb:=tb) (env0:=env) F J
  (λi o c d V=>by
   rcases(f i o c).1 with⟨a,_⟩|⟨_,a,_⟩|⟨_,_,a,_⟩
   .rw[d] at a;cases a
   .rw[V] at a;cases a
   .exact a)
  (λi o c d=>by
   rcases(f i o c).1 with⟨_,b,a,_⟩|⟨a,_⟩|⟨a,_⟩
   .exact⟨a,b⟩
   .rw[d] at a;cases a
   .rw[d] at a;cases a)
  (λi o c d=>by
   rcases(f i o c).1 with⟨_,a,_⟩|⟨_,_,a,_⟩|⟨_,a,_⟩
   .rw[d] at a;cases a
   .exact a
   .rw[d] at a;cases a)
  (λi o c e=>by
   rcases(f i o c).1 with⟨a,_⟩|⟨_,_,_,a,_⟩|⟨_,_,_,a,_⟩
   .unfold writer at e;rw[a,c] at e;simp[(f i o c).2 a] at e
   .exact a
   .exact a)
  (λi o c e=>by
   rcases(f i o c).1 with⟨_,_,_,a⟩|⟨_,b,_,_,a⟩|⟨_,_,_,_,a⟩
   .exact a
   .refine a ?_;unfold writer at e;rw[b,c] at e;simpa using e
   .exact a)
  (.ZM M) ops.size n (Array.replicate ops.size false) env 0 0 Ω (λi=>?_) (λi o c y=>?_) (Ζ _) (Ζ _) (λj s _=>?_) (λj s _=>?_) ?_
 .rw[K,L] at w;rw[D];simp only[Region.schedule,Bool.true_or,if_true,Region.linearise];exact w N mn x cs b S B H t u v O Q R
 .have:∀n,Zc ops env as9 (λi=>(Array.replicate ops.size false).getD i false) n=env:=by
   intro n
   induction n with
   | zero=>rfl
   | succ n X=>
    simp only[Zc];rw[if_neg (by rw[g n];simp)];exact X
  rw[this]
 .rw[g] at y;cases y
 .rw[g];simp
 .rw[g];simp
 .have:=Mc (λi=>!(Array.replicate ops.size false).getD i false) (List.range ops.size);simpa using this
theorem W.o4 (c:ZL P T) (d:P.follows .mixedOrders=true) (a:Β) (b:Ρ) {id:Nat} (h:W P m nt k a b Z E) (f:Vi P T A nt ops (idx ops.size []) env σ [] (λe s=>s=b/\∀p∈a,ι e p.1=p.2)):W P m nt (.code (.region id ops true)::k) env σ Z E:=
 W.draw c d λl g=>BF (λe s ⟨i,j⟩=>g e s (i▸W.forget a j h)) _ _ _ _ f
end
end Go.TL
namespace Go.TL
open Go.Proofs.Tryz
open Go.Conc Go.Proofs
attribute [congr] pj
attribute [simp] ph pg pe pa o9 o8 pf
abbrev zk:Ψ:=.Z6 [.sl true 0 [],.z (.string {data:=#[]}),.z (.string {data:=#[]}),.sl true 0 [],.sl true 0 [],J 0,J 0,J 0,J 0,.sl true 0 [],.sl true 0 [],.sl true 0 [],ZV false,.sl true 0 [],.sl true 0 []]
abbrev Xd:Row:=.cells 80 15 [zk]
abbrev Qn (n:Nat):Row:=.cells 22 1 (List.replicate n (.sl true 0 []))
abbrev zj:Ψ:=.Z6 [.z (.int .u32 0),.z (.int .i32 0),.z (.int .u32 0),.sl true 0 []]
abbrev Oz (n:Nat):Row:=.cells 149 4 (List.replicate n zj)
abbrev Wz (g:ZZ) (p:Ψ) (n:Nat):ψ:=Y5 g++[p,.ms 0 n 0 n]
theorem TZ.cell {id t k j kk:Nat} {l:ψ} (g:l[j]?=some (.sl true kk [])):TZ id (.cells t k [.Z6 l]) (.cells t k [.Z6 (l.set j (.ms id 0 0 0))]):=by
 refine .inr ⟨_,_,_,_,U,U,U,λi e h b f=>?_⟩
 match i,b,f with
 | 0,b,f=>
  cases b;cases f;refine⟨by simp[Ψ.cells],λx a a' d c=>?_⟩;simp only[Ψ.cells] at d c;by_cases e:j=x
  .subst e;rw[g] at d;cases d;rw[Xs (ZR.1 g).1] at c;cases c;exact .nil
  .rw[Xj e,d] at c;cases c;exact .same _
 | i+1,b,_=>simp at b
section
variable [Z1] {g:ZZ} {P:List (List Z0)} {n:Nat}
theorem o3 (w:g.ZX.cells.length=n) (N:n<=5) (O:P.length=g.ZT.length) (Q:P.length<=5) (D:∀(i:Nat) (p:List Z0),P[i]?=some p->Τ prog 50 [YT g,J i] (ζ Y7 1 p)) :
  W prog 0 47 [.code (YP [1] RR)] [(2,.π 1 1 0 0),(1,.Ν (Y5 g))] [.cells 22 1 [],Xd]
   (λk e s=>k=[.code (YP [1,1,1,1] RR)]/\s=[Qn n,Xd,Oz n]/\∀p∈[(5,.Ν [.ms 2 n 0 n]),(3,.Ν (Wz g (Vz P) n)),(2,.π 1 1 0 0),(1,.Ν (Y5 g))],ι e p.1=p.2) (λ_ _ _=>False):=by
 unfold RR;simp only[f32,Option.getD_some,YP]
 repeat apply Γ
 refine W.o5 (A:=[14,4110,3]) Ο mixed λy d=>?_;simp;(repeat (rw[pb];simp[w]));(try rw[pd]);refine⟨I,?_⟩;refine⟨SA Wf,SA Wf,d _ _ ?_⟩;refine W.seq (W.seq ?_);refine Φ ?_;refine W.pad (σ':=[Qn n,Xd,.cells 80 15 [.Z6 (Wz g (.ms 3 0 0 0) n)]]) 23 1 U (λj r c=>?_) [(20,J 0),(19,J g.ZT.length),(3,.π 2 1 0 0),(2,.π 1 1 0 0),(1,.Ν (Y5 g))] (λp f=>?_) ?_
 .match j,c with
  | 0,c=>cases c;exact⟨_,rfl,.inl rfl⟩
  | 1,c=>cases c;exact⟨_,rfl,.inl rfl⟩
  | 2,c=>cases c;exact⟨_,rfl,TZ.cell (j:=13) rfl⟩
  | j+3,c=>simp at c
 .simp only[Yd,Vw,or_false] at f;rcases f with rfl|rfl|rfl|rfl|rfl<;>exact .same _
 refine W.iter (λi:Nat=>i<=P.length) (λi=>[(20,J i),(19,J g.ZT.length),(3,.π 2 1 0 0),(2,.π 1 1 0 0),(1,.Ν (Y5 g))]) (λi=>[Qn n,Xd,.cells 80 15 [.Z6 (Wz g (.ms 3 i 0 i) n)],.cells 23 1 ((P.map (ζ Y7 1)).take i)]) (λi=>P.length-i) 0 (Ζ _) U Ω (λi hi E=>?_);refine Φ ?_;by_cases o:i<P.length
 .refine Ι (by simp;omega) ?_;refine Φ ?_;have R:(P.take i).length=i:=by simp;omega
  refine W.draw (A:=[29]) Ο mixed λy d=>?_;simp;(repeat (rw[Za];simp));try rw[YL]
  refine XV (Τ.p (D i P[i] (Z4 o)) (Zw.refl _) Ω Ω) ?_;simp;have F:min i P.length=i:=I;(repeat (rw[Za];simp[F]));try rw[YL]
  refine⟨I,?_⟩;refine Yn (d _ _ ?_);have H:List.take i (P.map (ζ Y7 1))++[ζ Y7 1 P[i]]=(P.map (ζ Y7 1)).take (i+1):=by rw[VW (by simpa using o)];simp
  rw[H];refine Φ ?_;refine W.to (E (i+1) o I) U (by simp[Y9 o (show P.length<2 ^ 62 by omega)])
 .refine Κ (by simp;omega) ?_;refine W.exit U ?_;obtain rfl:i=P.length:=I;rw[Xb Ω];have K:∀a∈Wz g (Vz P) n,η 2 a:=by simp[SB]
  refine W.cut 2 (Ζ _) [(3,.Ν (Wz g (Vz P) n)),(2,.π 1 1 0 0),(1,.Ν (Y5 g))] Ω (λid r u b=>?_) (λp f=>?_) ?_
  .match id,u,b with
   | 0,_,b=>cases b;simp[YR,Ψ.cells]
   | 1,_,b=>cases b;simp[YR,Ψ.cells]
  .simp only[Yd,Vw,or_false] at f;rcases f with rfl|rfl|rfl
   .refine .π (id:=2) (n:=1) (i:=0) (j:=0) (k:=15) (e:=.Z6 (Wz g (.ms 3 P.length 0 P.length) n)) (ZY _) U U U (by simp[Ψ.cells]) (λx a a' v m=>?_);rw[V5] at v;by_cases e:x=13
    .subst e;cases v;cases m;exact Y0.own (id:=3) (t:=23) Z7 U Ω (λe L a B=>by
      obtain⟨l,_,rfl⟩:=Zh.1 L;simp[Ψ.cells] at B;subst B;simp)
    .have C:(Wz g (Vz P) n)[x]?=(Wz g (.ms 3 P.length 0 P.length) n)[x]?:=by
      show((Wz g (.ms 3 P.length 0 P.length) n).set 13 (Vz P))[x]?=_;rw[Xj (λh=>e h.symm)]
     rw[C] at m;have M:a=a':=by
      have:(Wz g (.ms 3 P.length 0 P.length) n)[x]?=some a:=v;rw[this] at m;cases m;rfl
     subst M;exact .low (K a (ZH (C.trans m)))
   .exact .low (by simp[ι,TF])
   .exact .low (by simp[ι])
  refine ZO ?_;refine ZG (A:=[36,5]) Ο λy d=>Δ ?_;refine⟨I,?_⟩;rw[w];apply d;refine W.fix (id:=3) (σ':=[Qn n,Xd,Oz n]) (Ζ _) U (by simp[SB]) (λid r u b=>?_) U [(5,.Ν [.ms 2 n 0 n]),(3,.Ν (Wz g (Vz P) n)),(2,.π 1 1 0 0),(1,.Ν (Y5 g))] (by simp[TF,SB]) ?_
  .match id,u,b with
   | 0,_,b=>cases b;simp[YR,Ψ.cells]
   | 1,_,b=>cases b;simp[YR,Ψ.cells]
   | 2,_,b=>cases b;simp[YR,Ψ.cells]
  exact W.stop ⟨U,U,Ω⟩
end
end Go.TL
namespace Go.TL
open Go.Proofs.Tryz
open Go.Conc Go.Proofs
variable [Z1]
section
variable {P:Program} {S:ς} {B:δ} {H:Υ} {σ:Ρ} {j L p nt:Nat} {st NH:LoopState} {NG:Array Tmp} {a bd:Code} {env env1:Β} {v:Ψ} {K E:Ψ->Ρ->Prop}
theorem Holds.DK (g:Holds S B σ H) (h:σ[j]?=some (.loop L st NG a bd nt env)) (o:U3 σ j=true) (NH:LoopState) :
  ∃f d t,H.obj L=some (.loop {state:=st,pending:=none,fn:=f,tmps:=t,params:=NG,assign:=a,body:=bd,defers:=d})/\t.size=nt/\Zg S B σ env t/\
   Holds S B (σ.set j (.loop L NH NG a bd nt env)) (H.Zq L (.loop {state:=NH,pending:=none,fn:=f,tmps:=t,params:=NG,assign:=a,body:=bd,defers:=d}))/\
   Ext S B H S B (H.Zq L (.loop {state:=NH,pending:=none,fn:=f,tmps:=t,params:=NG,assign:=a,body:=bd,defers:=d}))/\ZJ S S B B σ (σ.set j (.loop L NH NG a bd nt env)):=by
 obtain⟨bo,c⟩:=Ue g h;obtain⟨N,f,d,t,rfl,k,l,m⟩:=g.row j _ bo h c;refine⟨f,d,t,k,l,m,?_⟩;have p:B.set j (some (L,N))=B:=by
  refine U' λi=>?_;by_cases e:j=i
  .subst e;rw[Xs (ZR.1 c).1,c]
  .rw[Xj e]
 have n:=g.Sc (r':=.loop L NH NG a bd nt env) (bo':=some (L,N)) (H':=H.Zq L (.loop {state:=NH,pending:=none,fn:=f,tmps:=t,params:=NG,assign:=a,body:=bd,defers:=d})) h trivial c (.inl ⟨NH,U,U⟩)
  (λb r e=>.inl ⟨r,e⟩) (λb s _=>by
   have u:b≠L:=λe=>s N (by rw[e]);exact⟨λ_=>rfl,U,by simp[Υ.Zq,u]⟩) (λb v=>(AS ⟨_,k⟩ b).1 v) (Fs o)
  (λw=>⟨N,f,d,t,U,by simp[Υ.Zq],l,λi=>(m i).later w⟩)
 rw[p] at n;exact n
theorem W.Jp {m nt:Nat} {k:ZA} {env:Β} {σ:Ρ} {Z:XD} {F:Yb} (h:W P m nt k env σ Z (λ_ _ _=>False)):W P m nt k env σ Z F:=W.mono h (λ_ _ _ h=>h) (λ_ _ _ h=>h.elim)
theorem o2 (r:σ[j]?=some (.loop L .ready #[p] a bd nt env)) (u:U3 σ j=true) (I:p<nt)
  (h:W P σ.length nt [.code a,.beginRound,.code bd] ((p,v)::env) σ (λk e s=>k=[.beginRound,.code bd]/\s=σ/\∀q∈env1,ι e q.1=q.2) (λ_ _ _=>False))
  (J:W P σ.length nt [.code bd] env1 (σ.set j (.loop L .busy #[p] a bd nt env)) (λk e s=>k=[]/\s[j]?=some (.loop L .busy #[p] a bd nt env)/\U3 s j=true/\K (.z (.bool true)) (s.set j (.loop L .ready #[p] a bd nt env))) (λ_ _ _=>False)) :
  Yg P (.fn (.yield L) [] []) [v] σ K E:=by
 intro M mn x c rest S B H aB vs g i N hv O;obtain⟨f,d,t,Q,y,R,_⟩:=i.DK r u .ready;obtain⟨w,rfl⟩:∃w,vs=#[w]:=by
  have h:=hv.1;clear hv;obtain⟨T⟩:=vs
  match T,h with
  | [w],_=>exact⟨w,rfl⟩
 have X:Θ S B σ v w:=hv.2 0 _ _ U U;cases N with
 | fn Y Z aa ab aC aD=>
  have ad:Y=#[]:=Pj (by rw[<-aa];rfl)
  have ae:Z=#[]:=Pj (by rw[<-ab];rfl);subst ad;subst ae;refine Χ.bind' (Χ.pure' ?_);have af:invoke (Target.fn (Fn.yield L) #[]) (#[]++#[w])=Instr.yield L #[w]:=by simp[invoke]
  show Χ P (invoke (Target.fn (Fn.yield L) #[]) (#[]++#[w])) H _ _;rw[af];unfold Instr.yield;refine Χ.bind' (Χ.getLoop Q ?_);rw[if_neg Ω];refine Χ.bind' (Χ.pure' (Χ.pure' ?_));show μ P M mn x (Frame.round L f (((#[p]:Array Tmp).zip #[w]).foldl (λl (t,a)=>l.setIfInBounds t a) t) a bd .normal) (c::rest) H;have ag:((#[p]:Array Tmp).zip #[w]).foldl (λl (t,a)=>l.setIfInBounds t a) t=t.setIfInBounds p w:=Ω;rw[ag];refine V.here (b:=Frame.round L f t .skip .skip .normal) (t:=t.setIfInBounds p w) (m:=σ.length) (nt:=nt) (S:=S) (B:=B) (H:=H) (σ:=σ) (env:=(p,v)::env) ?_ ⟨i,R.put (by rw[y];exact I) X,X' (Vx ..) y,ZY _⟩;refine V.YA g U (W.bind (W.Jp h) λk e s ⟨n,ah,ai⟩=>?_);subst n;subst ah;refine W.stop ?_;intro aj ak aE t3 A o;have al:=A.all i (ZY _);obtain⟨f3,d3,aF,am,aG,aH,C,an,D⟩:=o.holds.DK r u .busy;refine μ.beginRound g U U am U ?_;refine V.here (b:=Frame.round L f t .skip .skip .normal) (m:=s.length) (nt:=nt) (S:=aj) (B:=ak) (σ:=s.set j (.loop L .busy #[p] a bd nt env)) (env:=env1) ?_ ⟨C,?_,o.size,Ω⟩
  .refine V.YA g U (W.bind (W.Jp J) λk aI aJ ⟨n,ao,ap,aq⟩=>?_);subst n;refine W.stop ?_;intro ar au aK t5 F av;have aw:=F.all C Ω;obtain⟨f5,d5,aL,ax,aM,aN,ay,az,aA⟩:=av.holds.DK ao ap .ready;refine μ.endRound g U U U ax (jump:=none) (.inl ⟨U,U⟩) ?_;exact O.ret _ _ ar au _ _ aq (A.ext.trans (an.trans (F.ext.trans az))) (al.trans (D.trans (aw.trans aA))) ay (.z _)
  .have:=o.Zt.later D;exact RZ this ai
end
end Go.TL
namespace Go.TL
open Go.Proofs.Tryz
open Go.Conc Go.Proofs
open Go.ConcN (sumTo upd sumTo_upd upd_ne upd_same sumTo_congr le_sumTo)
section
variable [Z1] {S:ς} {B:δ} {σ:Ρ} {H:Υ}
theorem zi {l:ψ} {v:Value} {j:Nat} {a:Ψ} (h:Θ S B σ (.Ν l) v) (c:l[j]?=some a):∃u,Θ S B σ a u/\Θ S B σ (.Ν (l.set j (.z u))) v:=by
 have k:=h;cases h with
 | Ν b o w f d=>
  refine⟨w j,d j a c,.Ν b o w (λi x hi=>?_) (λi x hi=>?_)⟩
  .have g:i<l.length:=by simpa using (ZR.1 hi).1
   exact f i _ (Z4 g)
  .by_cases e:j=i
   .subst e;rw[Xs (ZR.1 c).1] at hi;cases hi;exact .z _
   .rw[Xj e] at hi;exact d i x hi
theorem zh {id n k b N:Nat} {t:TypeId} {l:ψ} {u:Value} (h:Θ S B σ (.ms id n 0 n) u) (c:σ[id]?=some (.cells t k l)) (m:l.length=n) (o:0<n) (g:B[id]?=some (some (b,N))):∃cap,u=.slice (some ⟨b,0,none⟩) n cap/\n<=cap/\cap*k<=N:=by
 cases h with
 | ms cap d p e r s a=>
  rw[c] at d;cases d;rw[g] at e;cases e;rcases a with a|⟨w,x,i,rfl,a⟩
  .omega
  .cases i;exact⟨cap,Ω,I,by simpa using a⟩
 | Wu v f j=>rw[c] at f;cases f;simp only[Row.Xx] at j;omega
theorem Holds.o1 {id:Nat} {r:Row} {bo:Option (Nat×Nat)} (c:Holds S B σ H) (e:σ[id]?=some r) (f:B[id]?=some bo) (g:Mw r) (k:YR 0 r):Holds S [bo] [r] H:=by
 refine⟨c.Zf,U,λi q b hi a=>?_,λi j m n b p s l hi d=>?_,λi q b N hi _ a o=>?_⟩
 .match i,hi,a with
  | 0,hi,a=>
   cases hi;cases a;have:=(c.row id r bo e f).z2 (E:=Υ.empty) (S':=S) (B':=[bo]) (σ':=[r]) g k λ_ _ _ h=>h;rw[M9] at this;exact this
  | i+1,hi,_=>simp at hi
 .match i,j,hi,d with
  | 0,0,_,_=>exact absurd rfl l
  | i+1,_,hi,_=>simp at hi
  | 0,j+1,_,d=>simp at d
 .match i,hi,a with
  | 0,hi,a=>cases hi;cases a;exact c.sep id r b N e g.live f o
  | i+1,hi,_=>simp at hi
end
section
variable {UU Y8:ς} {W7:Υ} {β s m Zj XL n ca co UQ:Nat} {ty:TypeId×Nat} {sp:Spec} {g:ZZ} {P:List (List Z0)} {C:List (Α)} {y:Z5} {Q:Value->Prop} {mn:Bool} {vs:ν} {c:Frame} {cs:Y3} {T:Nat->Option (Tok×Spec)}
abbrev Oy (C:List (Α)) (i:Nat):Α:=C.getD i []
theorem o0 {a:κ} (e:C.length=n) (b:a.Perm (List.range n)):(List.range n).map (Qq (Oy C) a)=C.map (ζ J 1):=by
 refine U' λi=>?_;by_cases hi:i<n
 .have c:i∈a:=b.mem_iff.2 (VN.2 hi)
  have d:i<C.length:=I;simp[hi,d,Qq,c,Oy]
 .rw[W4 (by simp;omega),W4 (by simp;omega)]
theorem zg [Z1] (m:C.length=n):W prog 0 47 [.code (YP [1,1,1,1,1,1,1,1] RR)] [(3,.Ν (Wz g (Vz P) n)),(2,.π 1 1 0 0)] [.cells 22 1 (C.map (ζ J 1)),Xd]
  (λk e s=>(∃o,k=.code .ret::o)/\s=[]/\ι e 2=.Ν (YC g P C)) (λ_ _ _=>False):=by
 simp only[RR,f32,Option.getD_some,YP];refine υ λB u=>?_;apply u;refine W.cut 0 (Ζ _) [(2,.Ν (YC g P C))] (Ζ _) (λid r h=>I) (λp v=>?_) ?_
 .obtain rfl:p=(2,.Ν (YC g P C)):=by simpa using v
  have w:∀a∈YC g P C,η 0 a:=Ω;refine .π (id:=1) (n:=1) (i:=0) (j:=0) (k:=15) (e:=.Z6 (Wz g (Vz P) n)) (Ζ _) U U U (by simp[Ψ.cells]) (λx a a' c b=>?_);rw[V5] at c;by_cases e:x=14
  .subst e;cases c;cases b;exact Y0.own (id:=0) (t:=22) (Ζ _) U (by simp[m]) (λe y a d=>by
    obtain⟨l,_,rfl⟩:=Zh.1 y;simp[Ψ.cells] at d;subst d;simp)
  .have f:(YC g P C)[x]?=(Wz g (Vz P) n)[x]?:=by
    show((Wz g (Vz P) n).set 14 (Ya C))[x]?=_;rw[Xj (λh=>e h.symm)]
   rw[f] at b;have A:a=a':=by
    have:(Wz g (Vz P) n)[x]?=some a:=c;rw[this] at b;cases b;rfl
   subst A;exact .low (w a (ZH (f.trans b)))
 exact W.stop ⟨⟨_,U⟩,U,U⟩
theorem oZ (am:UW y s sp) (aC:sp.ZS=some m) (aD:sp.X1=Mr β Y8 XL UQ Zj n (Oy C)) (aE:∀k E,sp.D k E->E=Υ.empty) (af:C.length=n) (bk:n<=co) (bl:co<=UQ) (aF:∃q v,Y8 β q=some v) (aG:W7.fresh β) (bm:n<2 ^ 20)
  (aH:∀v,Calm T (ZU y s (.par n 0 .YG) v 0)) (aI:MS prog Q mn (calm T) c cs UU [] W7 [] (λa s=>Yx a (VX g P C)/\s=[]) (λ_ _=>False))
  {S:ς} {B:δ} {H:Υ} {t:ν} {v:Option (Nat×γ)} (an:Qo UU W7 Y8 β Zj ty n Xd n S B H) (R:Zg S B [Xd] (OB s m Zj XL n ca co g P n) t) (aJ:t.size=47) :
  ZE prog Q mn (ZU y s (.par n 0 .add) v 0) (χ (Gl vs) t (.code Pt::.inLoop Pt::.inBlock 2::[.code (YP [1,1,1,1,1,1,1] RR)])) (c::cs) H:=by
 letI:Z1:=Yo;have X:=am.seq;refine V.here (x:=one (ZU y s (.par n 0 .add) v 0)) (m:=1) (nt:=47) (S:=S) (B:=B) (H:=H) (σ:=[Xd]) (env:=OB s m Zj XL n ca co g P n) ?_ ⟨an.holds,R,aJ,Ω⟩ _ U;refine V.YA (X _ _ _) U ?_;simp only[Pt,RR,f32,Option.getD_some,YP];refine υ λbn aK=>?_;apply aK
 repeat apply Γ
 refine Κ Ω ?_
 repeat apply Γ
 refine W.exit U ?_
 repeat apply Γ
 refine W.Zs (.stop ?_);refine V.call (X _ _ _) ⟨U,U,by simp[Frame.enter],U⟩ U U U ⟨_,func80,U,U⟩ λao i bp ap bq aL A hv=>?_;obtain rfl:=Wq (l:=[ptr s 0]) hv;rintro aM rfl;refine Ep am A.holds (n:=n) λS' H' aN aO aP aQ aa aq br aR aS bs bt ar bu aT bv bw bx ag=>?_;rw[V4 U];obtain rfl:=Ed aE aN aP aR;rw[M9] at ag;obtain⟨aU,au⟩:=aS (by rw[aC];simp);rw[aD] at au;obtain⟨hi,L,F,M,aV,bz⟩:=au;obtain⟨w,f1,f2,f3⟩:=aT;obtain⟨ab,aW,bA⟩:=A.holds.back aa aq;have O:=an.step aF (aL.ext.trans aW) ab;have aX:Pu n (Oy C) aO=.cells 22 1 (C.map (ζ J 1)):=by rw[<-o0 af aU]
 rw[aX] at M;have av:∀r∈[Row.cells 22 1 (C.map (ζ J 1))],T1 r:=λr f=>by
  obtain rfl:r=.cells 22 1 (C.map (ζ J 1)):=by simpa using f
  exact⟨_,_,_,U⟩
 obtain⟨bo,ad⟩:=Ue ab (id:=0) U;have ah:=ab.row 0 _ bo U ad;obtain⟨Y,ai,rfl⟩:∃Y ai,bo=some (Y,ai):=by
  cases bo with
  | none=>cases ah
  | some x=>exact⟨x.1,x.2,rfl⟩
 have aY:=(Ek f3 f1 (qJ ar) ah.1 ah.2.2.1).1;obtain⟨aZ,bB,a0⟩:=z1 ab M ar ⟨w,f1,f3⟩ av (λr f=>by
  obtain rfl:r=Xd:=by simpa using f
  exact⟨.inl ⟨_,_,_,U,Ω⟩,by simp[YR,Ψ.cells]⟩) (λid r b N f K o=>by
  match id,f,K with
  | 0,f,K=>
   rw[ad] at K;cases K;cases R:L Y o with
   | none=>rfl
   | some u=>obtain⟨p,A⟩:=M.Zf Y o u R;rw[aY o] at A;cases A
  | id+1,f,_=>simp at f)
 have Z:=Af (S:=S') (H:=H') ⟨O.ext.Zf,λb a1 ae=>O.ext.X0 b a1 ae,λb ⟨N,h⟩=>by simp at h,O.ext.TJ,O.ext.grow⟩ O.sub aG hi aq M av
 have a2:Ext UU [] W7 (S'.plus L) (F++i) (join H' aQ):=⟨Z.Zf,Z.X0,λb ⟨N,h⟩=>by
  rcases Uv.1 h with h|h
  .exact Z.blocks b ⟨N,h⟩
  .exact O.ext.blocks b ⟨N,h⟩,Z.TJ,Z.grow⟩
 obtain⟨a3,a4⟩:=aZ.QV (λb K=>ag.QV K) ag.grow;have a5:=a2.trans a4;have aj:=Zg.put A.Zt (d:=45) (by rw[A.size];omega) (.z (.tuple #[]));have aw:(ap.setIfInBounds 45 (.tuple #[])).size=47:=X' (Vx ..) A.size;obtain⟨tb,ax⟩:=Z' (ap.setIfInBounds 45 (.tuple #[]));rw[<-ax] at aj aw;have a6:(F++i)[0]?=some (some (XL,UQ)):=by rw[YN (by rw[M.len];exact Nat.zero_lt_one)];exact aV
 have a7:(F++i)[1]?=some (some (Y,ai)):=by
  rw[Xz (by rw[M.len];exact ZY _),M.len];exact ad
 have a8:∀(a:Ψ) (u:Value),Θ ao i [Xd] a u->η 0 a->Θ (S'.plus L) (F++i) [Row.cells 22 1 (C.map (ζ J 1)),Xd] a u:=λa u f K=>(f.any K _ _).later ⟨λb o v h=>a0 b o v (aa.Zf b o v h),λid r h=>⟨r,h,r.Tb _⟩⟩
 have a9:Θ (S'.plus L) (F++i) [Row.cells 22 1 (C.map (ζ J 1)),Xd] (.Ν (Wz g (Vz P) n)) (tb.getD 3 undef):=by
  refine zZ (j:=14) (a':=.ms 0 n 0 n) (a8 (.Ν (OC g P XL n co)) _ (aj 3) Ω) λa u h f=>?_;cases h;cases f;exact .ms co U (by simp[af]) a6 I I (.inr ⟨XL,UQ,U,Ω,I⟩)
 have ba:Θ (S'.plus L) (F++i) [Row.cells 22 1 (C.map (ζ J 1)),Xd] (.π 1 1 0 0) (tb.getD 2 undef):=by
  have ae:Θ ao i [Xd] (.π 0 1 0 0) (tb.getD 2 undef):=aj 2;generalize tb.getD 2 undef=u at ae;cases ae with
  | π ak ay az=>
   cases ak;rw[ad] at az;cases az;exact .π (σ:=[Row.cells 22 1 (C.map (ζ J 1)),Xd]) U U a7
  | VI v ak ay=>cases ak;simp[Row.Xx] at ay
 have bb:Zg (S'.plus L) (F++i) [Row.cells 22 1 (C.map (ζ J 1)),Xd] [(3,.Ν (Wz g (Vz P) n)),(2,.π 1 1 0 0)] tb:=λk=>by
  simp only[ι];split
  .rename_i e;subst e;exact a9
  split
  .rename_i e;subst e;exact ba
  .exact .Zx _
 subst ax;refine V.here (x:=one _) (m:=0) (nt:=47) (S:=S'.plus L) (B:=F++i) (σ:=[Row.cells 22 1 (C.map (ζ J 1)),Xd]) (env:=[(3,.Ν (Wz g (Vz P) n)),(2,.π 1 1 0 0)]) ?_ ⟨a3,bb,aw,Ζ _⟩ _ U;refine V.YA (X _ _ _) U ?_;refine W.ZM ?_;refine W.bind (W.Jp (zg af)) λk e s ⟨bc,R,aa⟩=>?_;obtain⟨bC,rfl⟩:=bc;subst R;refine W.forget [(2,.Ν (YC g P C))] (by simp[aa]) ?_;refine W.stop ?_;intro bD bd bE t5 be al;obtain rfl:bd=[]:=YZ.1 al.holds.len;refine μ.ret (X _ _ _) U U (μ.back (X _ _ _) U U (.inl U) func32 ?_);refine Χ.mono (λu bf ⟨bg,bh,bi,bF,aA,bj⟩=>?_) (λ_ _ h=>h) _ (MQ Ο (a:=VX g P C) U al.holds al.Zt);obtain rfl:bh=[]:=YZ.1 aA.len;rintro aM rfl;have aB:=a5.trans (be.ext.trans bi);exact aI.ret _ [] bg [] bf u ⟨.refl _,U⟩ aB ⟨aB.Zf,λid r h=>by simp at h⟩ aA bj _ (aH _)
end
section
variable [Z1] {S:ς} {B:δ} {H:Υ} {n XL UQ β Zj:Nat} {Y8:ς} {V9:Nat->Α}
theorem oY {σ:Ρ} {id:Nat} (k:Holds S B σ H) (l:σ[id]?=some (Qn n)) (m:B[id]?=some (some (XL,UQ))) (f:β<XL):Mr β Y8 XL UQ Zj n V9 [] (Vp XL (22,UQ) (Rf H XL λ_=>true)):=by
 obtain⟨F,p,s,w,t⟩:=k.row id _ _ l m;refine⟨⟨λb o x h=>?_,λb x h=>?_,λb x h=>(by cases h)⟩,Xu,[some (XL,UQ)],⟨λb o v h=>(by cases h),U,λi r bo hi d=>?_,λi j I J b K L y hi c=>?_,λi r b N hi _ d o=>rfl⟩,U,λo=>rfl⟩
 .by_cases e:b=XL
  .exact .inr (e▸f)
  .simp[Vp,e] at h
 .by_cases e:b=XL
  .exact e▸f
  .simp[Vp,e] at h
 .match i,hi,d with
  | 0,hi,d=>
   cases hi;cases d;refine⟨by simp[Vp],by simpa using p,λo A=>?_,w,λi e g=>?_⟩
   .obtain⟨u,C⟩:=s o A;exact⟨u,by simp[Vp,Rf,C]⟩
   .have hi:i<n:=by simpa using (ZR.1 g).1
    have D:e=.sl true 0 []:=by simpa[hi,Qq] using g.symm
    subst D;refine⟨U,λj a c=>?_⟩;obtain⟨c1,c2,E⟩:=(t i (.sl true 0 []) (by simp[hi])).2 j a c;refine⟨by rw[SI] at c1;simp[Vp,Rf,c1],?_,E⟩
    match j,c with
    | 0,c=>
     cases c;generalize w i 0=u at c2;cases c2 with
     | WJ base cap h=>exact .WJ base cap h
     | sl b o cap w' h=>exact .WJ _ _ h
    | j+1,c=>simp[Ψ.cells] at c
  | i+1,hi,_=>simp at hi
 .match i,j,hi,c with
  | 0,0,_,_=>exact absurd rfl y
  | i+1,_,hi,_=>simp at hi
  | 0,j+1,_,c=>simp at c
theorem oX {σ:Ρ} {id c:Nat} (d:Holds S B σ H) (e:σ[id]?=some (Oz n)) (f:B[id]?=some (some (Zj,c))):∀o,o<4*n->∃v,H.ω Zj o=some (v,true)/\Gm (o % 4) v:=by
 obtain⟨m,p,r,w,g⟩:=d.row id _ _ e f;intro o s;obtain⟨i,j,k,rfl⟩:∃i j,j<4/\o=i*4+j:=⟨o / 4,o % 4,No _ Z7,I⟩;have hi:i<n:=I;have l:(i*4+j) % 4=j:=I;have a:=(g i zj (by simp[hi])).2;rw[l]
 match j,k with
 | 0,_=>obtain⟨c1,c2,_⟩:=a 0 _ rfl;generalize w i 0=u at c1 c2;cases c2;exact⟨_,c1,rfl⟩
 | 1,_=>obtain⟨c1,c2,_⟩:=a 1 _ rfl;generalize w i 1=u at c1 c2;cases c2;exact⟨_,c1,rfl⟩
 | 2,_=>obtain⟨c1,c2,_⟩:=a 2 _ rfl;generalize w i 2=u at c1 c2;cases c2;exact⟨_,c1,rfl⟩
 | 3,_=>
  obtain⟨c1,c2,_⟩:=a 3 _ U;generalize w i 3=u at c1 c2;cases c2 with
  | WJ base cap h=>obtain rfl:=h rfl;exact⟨_,c1,base,rfl⟩
  | sl b o cap w' h=>obtain rfl:cap=0:=h rfl;exact⟨_,c1,some ⟨b,o,none⟩,rfl⟩
theorem DJ {σ:Ρ} {id k:Nat} {t:TypeId} {l:ψ} (a:Holds S B σ H) (c:σ[id]?=some (.cells t k l)) (e:l≠[]):∃b N,B[id]?=some (some (b,N)):=by
 obtain⟨bo,d⟩:=Ue a c;have h:=a.row id _ bo c d;cases bo with
 | none=>exact absurd h e
 | some x=>exact⟨x.1,x.2,d⟩
end
section
variable {g:ZZ} {P:List (List Z0)} {C:List (Α)} {n:Nat}
theorem oW (bl:g.ZX.cells.length=n) (a0:n<=5) (a1:C.length=n) (av:P.length=g.ZT.length) (bm:P.length<=5) (bn:∀(i:Nat) (p:List Z0),P[i]?=some p->@Τ XA prog 50 [YT g,J i] (ζ Y7 1 p))
  (bo:∀(i:Nat) (c:Α),C[i]?=some c->∃aL,@Τ XA prog 77 [Wr g.ZX,J i,ZV g.lower] (.ε [ζ J 1 c,J aL])):@Τ XA prog 32 [YT g] (VX g P C):=by
 refine⟨⟨_,func32,U,U⟩,λa2 mn x c rest an bp X vs aF a3 bq a4=>?_⟩;obtain⟨T,rfl⟩:∃T,x=calm T:=@Seq.cls XA x aF;obtain rfl:bp=[]:=YZ.1 a3.len;have br:μ prog a2 mn (calm T) (Frame.enter prog 32 vs .normal) (c::rest) X:=by
  letI:Z1:=XA;rw[T7 (body:=RR) func32 U];refine V.here (m:=0) (nt:=47) (S:=an) (B:=[]) (H:=X) (σ:=[]) (env:=entry 0 [YT g]) ?_ (XR.enter a3 bq (ZY _) Ω);refine V.YA aF U ?_;simp only[RR,f32,Option.getD_some]
  repeat apply Γ
  refine W.Zs (.stop ?_);refine V.boxed aF U U U U U (l:=Y5 g) U U Ω λS B H t aa c1 aw w bs a5 aM ao a6 bt=>?_;obtain rfl:B=[]:=YZ.1 w.holds.len;refine V.here (m:=0) (nt:=47) (S:=S.lay aa c1) (B:=[]) (σ:=[]) (env:=[(1,.Ν (Y5 g))]) ?_
   ⟨a6,RZ (Zg.put (w.Zt.later aM) (d:=1) (by rw[w.size];omega) bt) Ω,X' (Vx ..) w.size,Ζ _⟩
  refine V.YA aF U ?_;refine W.pad (σ':=[]) 22 1 U Ω [(1,.Ν (Y5 g))] (λp w=>by simp at w;subst w;exact .same _) ?_;refine W.part (A:=[2]) Ο [1] [] U λaN ae=>?_;(try simp);(repeat (rw[Η];simp));apply ae;refine W.ZM ?_;refine W.bind (W.Jp (o3 (g:=g) (P:=P) bl a0 av bm bn)) λk e s ⟨aO,af,ax⟩=>?_;subst aO;subst af;refine W.forget [(5,.Ν [.ms 2 n 0 n]),(3,.Ν (Wz g (Vz P) n)),(2,.π 1 1 0 0),(1,.Ν (Y5 g))] ax ?_;simp only[RR,f32,Option.getD_some,YP]
  repeat apply Γ
  refine W.Zs (.stop ?_);intro F ag ay t2 aP f;intro y Y;have Z:=Y.rel;have ap:=Y.Z8;have a7:=Y.deaf;letI:Z1:=Yo;have aQ:∃q v,F aa q=some v:=let ⟨u,bu⟩:=a5;⟨0,u,aP.ext.Zf _ _ _ bu⟩;obtain⟨cg,bv⟩:=a5;obtain⟨ci,bw⟩:=a6.Zf _ _ _ bv;have aR:∀b,ag.has b->aa<b/\X.fresh b:=λb aS=>by
   rcases aP.ext.blocks b aS with h|h
   .obtain⟨N,h⟩:=h;simp at h
   .exact⟨Lf bw h,aw.ext.grow _ (ao.grow _ h)⟩
  have az:Ext an [] X F ag ay:=aw.ext.trans (ao.trans aP.ext)
  have bx:X.fresh aa:=aw.ext.grow _ bs;obtain⟨cj,bz,bA⟩:=JB z9;obtain⟨ck,bB,bC⟩:=JB z8;refine ZE.JC Z ⟨U,U,by simp[Frame.enter],U⟩ U U bz bA λm cl _=>?_;refine ZE.next ?_ ?_ ?_
  .exact .inl Z
  .rfl
  refine ZE.JC ?_ ⟨U,U,by simp[Frame.enter],U⟩ U U bB bC λs cm bD=>?_
  .exact Z
  have a8:m<s:=bD m _ (upd_same ..);rcases Nat.eq_zero_or_pos n with aG|aG
  .subst aG;obtain rfl:C=[]:=YZ.1 a1;obtain⟨sp,Q⟩:∃sp:Spec,sp=⟨some m,λ_ E=>E=Υ.empty,λ_ E=>E=Υ.empty,6⟩:=⟨_,U⟩;have aq:sp.ZS=some m:=by rw[Q]
   have ar:∀L E,sp.X1 L E↔E=Υ.empty:=λL E=>by rw[Q]
   have aH:∀k E,sp.D k E↔E=Υ.empty:=λk E=>by rw[Q]
   have aI:sp.top=6:=by rw[Q]
   clear Q;refine ZE.zs (y:=y) (sp:=sp) (G':=ay) (E:=Υ.empty) Z ap a8 aq ⟨Sub.refl _,Sub.empty _,Apart.P6 _⟩ ((ar _ _).2 U) λaT=>?_;obtain⟨ab,ah⟩:=Z' ({y with spec:=upd y.spec s (some sp)}:Z5);have aU:({y with tok:=upd y.tok s (.par 0 0 .add),spec:=upd y.spec s (some sp),view:=upd y.view s none}:Z5)=ZU ab s (.par 0 0 .add) none 0:=by
    rw[ah];unfold ZU;simp only[a7]
   rw[aU];have au:UW ab s sp:=by
    rw[ah];exact⟨Z,ap,upd_same ..,by rw[aI];decide,λK _=>Y.still K⟩
   have aV:∀v,Calm T (ZU ab s (.par 0 0 .YG) v 0):=λv=>by
    rw[ah];refine⟨Z,ap,U,λK=>?_⟩;by_cases e:K=s
    .subst e;rw[Zp];exact .inl ⟨Y.none (by rw[aT];trivial),trivial⟩
    .rw[NQ e];show _\/∃aA,T K=some (y.tok K,aA)/\upd y.spec s (some sp) K=some aA/\_;rw[upd_ne _ _ e];exact Y.own K
   have ai:=au.seq;refine V.here (x:=one _) (m:=3) (nt:=47) (S:=F) (B:=ag) (σ:=[Qn 0,Xd,Oz 0]) (env:=(7,.z (ptr s 0))::(6,.z (ptr m 0))::[(5,.Ν [.ms 2 0 0 0]),(3,.Ν (Wz g (Vz P) 0)),(2,.π 1 1 0 0),(1,.Ν (Y5 g))]) ?_
    ⟨f.holds,Zg.put (Zg.put f.Zt (d:=6) (by rw[f.size];omega) (.z (ptr m 0))) (d:=7) (by rw[Vx,f.size];omega) (.z (ptr s 0)),X' (Vx ..) (X' (Vx ..) f.size),ZY _⟩ _ U
   refine V.YA (ai _ _ _) U ?_;refine W.ZM ?_;refine W.seq (W.seq ?_);refine υ λaN ae=>?_;apply ae;refine W.block ?_;refine .loop ?_;refine υ λaN ae=>?_;apply ae
   repeat apply Γ
   refine Κ Ω ?_
   repeat apply Γ
   refine W.exit U ?_
   repeat apply Γ
   refine W.Zs (.stop ?_);refine V.call (ai _ _ _) ⟨U,U,by simp[Frame.enter],U⟩ U U U ⟨_,func80,U,U⟩ λcn a9 cp cq cr aw w hv=>?_;obtain rfl:=Wq (l:=[ptr s 0]) hv;rintro a' rfl;refine Ep au w.holds (n:=0) λS' H' bE cs bF ct ao bG cu bH bI aW cv cw cx cy cz cA bJ ax=>?_;rw[V4 U];obtain rfl:=Ed (λk E=>(aH k E).1) bE bF bH;obtain⟨_,bK⟩:=bI (by rw[aq];simp);obtain rfl:=(ar _ _).1 bK;rw[M9,M9] at ax;obtain⟨aB,aJ,aK⟩:=w.holds.back ao bG;obtain⟨bL,bM⟩:=aB.QV (λb aS=>ax.QV aS) ax.grow;have bN:Ext an [] X S' a9 bJ:=(az.trans aw.ext).trans (aJ.trans bM);refine V.here (x:=one _) (m:=0) (nt:=47) (S:=S') (B:=a9) (σ:=[Qn 0,Xd,Oz 0]) (env:=[(3,.Ν (Wz g (Vz P) 0)),(2,.π 1 1 0 0)]) ?_
    ⟨bL,RZ (Zg.later (Zg.put w.Zt (d:=45) (by rw[w.size];omega) (.z (.tuple #[]))) aK) Ω,X' (Vx ..) w.size,Ζ _⟩ _ U
   refine V.YA (ai _ _ _) U ?_;refine W.ZM ?_;refine W.cut 2 (Ζ _) [(3,.Ν (Wz g (Vz P) 0)),(2,.π 1 1 0 0)] Ω (λid r bO aj=>?_) (λp w=>?_) ?_
   .match id,bO,aj with
    | 0,_,aj=>cases aj;simp[YR,Ψ.cells]
    | 1,_,aj=>cases aj;simp[YR,Ψ.cells]
   .simp only[Yd,Vw,or_false] at w;rcases w with rfl|rfl
    .exact .low (by simp[ι,SB])
    .exact .low (by simp[ι,TF])
   refine W.bind (W.Jp (zg (g:=g) (P:=P) (C:=[]) (n:=0) U)) λk e s ⟨aO,af,ao⟩=>?_;obtain⟨cB,rfl⟩:=aO;subst af;refine W.forget [(2,.Ν (YC g P []))] (by simp[ao]) ?_;refine W.stop ?_;intro ba aX bb t5 aY ak;obtain rfl:aX=[]:=YZ.1 ak.holds.len;refine μ.ret (ai _ _ _) U U (μ.back (ai _ _ _) U U (.inl U) func32 ?_);refine Χ.mono (λu bP ⟨bQ,bR,bS,cC,bc,bT⟩=>?_) (λ_ _ h=>h) _ (MQ Ο (a:=VX g P []) U ak.holds ak.Zt);obtain rfl:bR=[]:=YZ.1 bc.len;rintro a' rfl;have bd:=bN.trans (aY.ext.trans bS);exact a4.ret _ [] bQ [] bP u ⟨.refl _,U⟩ bd ⟨bd.Zf,λid r h=>by simp at h⟩ bc bT _ (aV _)
  .obtain⟨O,aC,al⟩:=DJ f.holds (id:=0) (t:=22) (k:=1) U (by simp;omega);obtain⟨R,ad,aD⟩:=DJ f.holds (id:=1) (t:=80) (k:=15) (l:=[zk]) U Ω;obtain⟨M,aE,am⟩:=DJ f.holds (id:=2) (t:=149) (k:=4) U (by simp;omega);have be:=aR O (TI al);have bf:=aR R (TI aD);have bg:=aR M (TI am);have bU:O≠R:=λe=>f.holds.inj 0 1 _ _ R aC ad Z7 U U trivial trivial (e▸al) aD;have bV:R≠M:=λe=>f.holds.inj 1 2 _ _ M ad aE Z7 U U trivial trivial (e▸aD) am;have bW:O≠M:=λe=>f.holds.inj 0 2 _ _ M aC aE Z7 U U trivial trivial (e▸al) am;have bX:=f.holds.row 0 _ _ U al;have bY:=f.holds.row 2 _ _ U am;have bZ:=f.holds.sep 0 _ O aC U trivial al;have b0:=f.holds.sep 2 _ M aE U trivial am;obtain⟨cD,b1,b2⟩:=zi (j:=0) (f.Zt 5) U;obtain⟨ca,rfl,cE,_⟩:=zh b1 (k:=4) (t:=149) U Ω aG am;obtain⟨cF,b3,b4⟩:=zi (j:=14) (f.Zt 3) U;obtain⟨co,rfl,bh,bi⟩:=zh b3 (k:=1) (t:=22) U Ω aG al;have b5:Θ F ag [Qn n,Xd,Oz n] (.Ν [.z (Rg M n ca)]) (t2.getD 5 undef):=b2;have b6:Θ F ag [Qn n,Xd,Oz n] (.Ν (OC g P O n co)) (t2.getD 3 undef):=b4;obtain⟨sp,Q⟩:∃sp:Spec,sp=⟨some m,Mr aa F O aC M n (Oy C),λ_ E=>E=Υ.empty,6⟩:=⟨_,U⟩;have aq:sp.ZS=some m:=by rw[Q]
   have ar:sp.X1=Mr aa F O aC M n (Oy C):=by rw[Q]
   have aH:∀k E,sp.D k E↔E=Υ.empty:=λk E=>by rw[Q]
   have aI:sp.top=6:=by rw[Q]
   clear Q;refine ZE.zs (y:=y) (sp:=sp) Z ap a8 aq (ps (p:=λ_=>true) bX.1) (by rw[ar];exact oY f.holds U al be.1) λaT=>?_;obtain⟨ab,ah⟩:=Z' ({y with spec:=upd y.spec s (some sp)}:Z5);have aU:({y with tok:=upd y.tok s (.par 0 0 .add),spec:=upd y.spec s (some sp),view:=upd y.view s none}:Z5)=ZU ab s (.par 0 0 .add) none 0:=by
    rw[ah];unfold ZU;simp only[a7]
   rw[aU];have au:UW ab s sp:=by
    rw[ah];exact⟨Z,ap,upd_same ..,by rw[aI];decide,λK _=>Y.still K⟩
   have aV:∀v,Calm T (ZU ab s (.par n 0 .YG) v 0):=λv=>by
    rw[ah];refine⟨Z,ap,U,λK=>?_⟩;by_cases e:K=s
    .subst e;rw[Zp];exact .inl ⟨Y.none (by rw[aT];trivial),trivial⟩
    .rw[NQ e];show _\/∃aA,T K=some (y.tok K,aA)/\upd y.spec s (some sp) K=some aA/\_;rw[upd_ne _ _ e];exact Y.own K
   have ai:=au.seq
   have b7:∀r∈[Xd],T1 r:=λr aj=>by
    obtain rfl:r=Xd:=by simpa using aj
    exact⟨_,_,_,U⟩
   have bj:Holds F [some (R,ad)] [Xd] (ay.less O λ_=>true):=(f.holds.o1 U aD (.inl ⟨_,_,_,U,Ω⟩) (by simp[YR,Ψ.cells])).less b7 bZ λN aW=>by
    simp at aW;exact bU aW.1
   have b8:Ext an [] X F [some (R,ad)] (ay.less O λ_=>true):=Ext.less ⟨az.Zf,az.X0,λb ⟨N,h⟩=>by simp at h;rw[h.1];exact .inr bf.2,az.TJ,az.grow⟩ be.2
   have b9:Qo an X F aa M (149,aE) n Xd 0 F [some (R,ad)] (ay.less O λ_=>true):=by
    refine⟨b8,bj,λ_ _ _ h=>h,λb q v h=>.inl (by rw[h];simp),b0,bY.1,λo _ b'=>?_,λb ⟨N,h⟩=>by simp at h;rw[h.1];exact⟨bf.1,bV⟩⟩;rw[Js (YV bW)];exact oX f.holds U am o b'
   have cb:∀d i,i+d=n->∀(S:ς) (B:δ) (H:Υ) (t:ν) (v:Option (Nat×γ)),Qo an X F aa M (149,aE) n Xd i S B H->Zg S B [Xd] (OB s m M O n ca co g P i) t->t.size=47->
     ZE prog a2 mn (ZU ab s (.par i 0 .add) v 0) (χ (Gl vs) t (.code Pt::.inLoop Pt::.inBlock 2::[.code (YP [1,1,1,1,1,1,1] RR)])) (c::rest) H:=by
    intro d
    induction d with
    | zero=>
     intro i hi S B H t v av af aZ;obtain rfl:i=n:=I;exact oZ au aq ar (λk E=>(aH k E).1) a1 bh (by simpa using bi) aQ bx I aV a4 av af aZ
    | succ d cc=>
     intro i hi S B H t v av af aZ;obtain⟨aL,aM⟩:=bo i _ (Z4 (show i<C.length by omega));have cd:@Τ XA prog 77 [Wr g.ZX,J i,ZV g.lower] (.ε [ζ J 1 (Oy C i),J aL]):=by
      have:Oy C i=C[i]'I:=by unfold Oy;rw[V7,Z4 I];rfl
      rw[this];exact aM
     exact pn au aq ar (λk=>(aH k _).2 U) aI a0 I bh (by simpa using bi) cd aQ bg.1 bg.2 ⟨_,_,_,U⟩ (by simp[YR,Ψ.cells]) (λS B H t v=>cc (i+1) I S B H t v) av af aZ
   have ce:Zg F [some (R,ad)] [Xd] [(5,.Ν [.z (Rg M n ca)]),(3,.Ν (OC g P O n co)),(2,.π 0 1 0 0),(1,.Ν (Y5 g))] t2:=λk=>by
    simp only[ι];split
    .rename_i e;subst e;exact b5.any Ω _ _
    split
    .rename_i e;subst e;exact b6.any Ω _ _
    split
    .rename_i e;subst e;have bk:Θ F ag [Qn n,Xd,Oz n] (.π 1 1 0 0) (t2.getD 2 undef):=f.Zt 2;generalize t2.getD 2 undef=u at bk;cases bk with
     | π aB aJ aK=>
      cases aB;rw[aD] at aK;cases aK;exact .π (σ:=[Xd]) (B:=[some (R,ad)]) U U U
     | VI v aB aJ=>cases aB;simp[Row.Xx] at aJ
    split
    .rename_i e;subst e;have cf:Θ F ag [Qn n,Xd,Oz n] (.Ν (Y5 g)) (t2.getD 1 undef):=f.Zt 1;exact cf.any Ω _ _
    .exact .Zx _
   refine V.here (x:=one _) (m:=1) (nt:=47) (S:=F) (B:=[some (R,ad)]) (σ:=[Xd]) (env:=(7,.z (ptr s 0))::(6,.z (ptr m 0))::[(5,.Ν [.z (Rg M n ca)]),(3,.Ν (OC g P O n co)),(2,.π 0 1 0 0),(1,.Ν (Y5 g))]) ?_
    ⟨bj,Zg.put (Zg.put ce (d:=6) (by rw[f.size];omega) (.z (ptr m 0))) (d:=7) (by rw[Vx,f.size];omega) (.z (ptr s 0)),X' (Vx ..) (X' (Vx ..) f.size),ZY _⟩ _ U
   refine V.YA (ai _ _ _) U ?_;refine W.ZM ?_;refine W.seq (W.seq ?_);refine υ λaN ae=>?_;apply ae;refine W.block ?_;refine .loop (.stop ?_);intro ba aX bb t5 aY ak;rintro a' rfl;exact cb n 0 I ba aX bb t5 none (b9.step aQ aY.ext ak.holds) (RZ ak.Zt Ω) ak.size
 exact br
end
end Go.TL
namespace Go.TL
open Go.Proofs.Tryz
open Go.Proofs
variable [Z1]
theorem YR.up {h j:Nat} {r:Row} (b:YR h r) (d:h<=j):YR j r:=by
 cases r with
 | cells t k l=>exact λe f a g=>(b e f a g).mono d
 | map es=>exact λe f=>⟨(b e f).1.mono d,(b e f).2.mono d⟩
 | iter m left n=>exact⟨KO b.1 d,λe f=>⟨(b.2.1 e f).1.mono d,(b.2.1 e f).2.mono d⟩,λe f=>⟨(b.2.2 e f).1.mono d,(b.2.2 e f).2.mono d⟩⟩
 | str s p=>trivial
 | loop L st u a bd nt env=>exact λi=>(b i).mono d
 | own c o l=>exact λa g=>(b a g).mono d
 | dead=>trivial
def RQ (l:List VA) (c:UInt8):VA:=(l.find? λb=>decide (b.Xe=WB c)).getD ⟨⟨#[]⟩,0,0⟩
def zf (g:ZZ) (f:Α):Α:=((f.length:Int)+1)*g.UT::(SP g f).data.toList.map λc=>(RQ g.ZC c).lo
def ze (g:ZZ) (f:Α):Α:=((f.length:Int)+1)*g.US::(SP g f).data.toList.map λc=>(RQ g.ZC c).hi
def UO (g:ZZ) (f:Α):Int×Int:=(Uj (zf g f),Uj (ze g f))
theorem zd {l:List VA} {c:UInt8} (h:Qs l c=true):∃i:Nat,idxOf (λb:VA=>decide (b.Xe=WB c)) l=(i:Int)/\∃hi:i<l.length,l[i]=RQ l c:=by
 obtain⟨p,d⟩:=Z' (λb=>decide (b.Xe=WB c):VA->Bool);unfold Qs at h;unfold RQ;rw[<-d] at h ⊢;clear d
 induction l with
 | nil=>simp at h
 | cons b l g=>
  cases a:p b with
  | true=>exact⟨0,by simp[idxOf,a,List.findIdx_cons],Ω,by simp[a]⟩
  | false=>
   have e:l.any p=true:=by simpa[a] using h
   obtain⟨i,f,j,k⟩:=g e;exact⟨i+1,by
    unfold idxOf at f ⊢;rw[if_pos e] at f;rw[if_pos (by simpa using h),List.findIdx_cons,a];simp only[cond_false];omega,by simpa using j,by simpa[a] using k⟩
theorem DI:∀l:List ByteArray,(Xl ⟨#[]⟩ l).data.toList=l.flatMap λw=>w.data.toList
 | []=>rfl
 | [x]=>by simp[Xl]
 | x::y::r=>by
  rw[zC];have:=DI (y::r);simp[this]
theorem zc {g:ZZ} {f:Α} (a:Wa g f) {c:UInt8} (h:c∈(SP g f).data.toList):∃w∈g.words,c∈w.data.toList:=by
 unfold SP at h;rw[DI] at h;obtain⟨w,b,d⟩:=KI.1 h;obtain⟨n,e,rfl⟩:=Zh.1 b;exact⟨_,zu (a.has n e),d⟩
theorem oV {w:ByteArray} (a:Xm w=true) {c:UInt8} (h:c∈w.data.toList):97<=c.toNat/\c.toNat<=122:=by
 obtain⟨p,b,rfl⟩:=DQ h;have:=(Jz.1 a).1 p b;simpa[Vd] using this
theorem zb {g:ZZ} (a:∀w∈g.words,Xm w=true) {f:Α} (b:Wa g f) {p:Nat} (c:p<(SP g f).size):Vd (SP g f) p=true:=by
 obtain⟨w,d,e⟩:=zc b (get_mem c);have:=oV (a w d) e;simp[Vd,this]
theorem Jo {g:ZZ} (c:∀w∈g.words,Xm w=true) {f:Α} (a:Wa g f):(SP g f).size<=18:=by
 have d:∀l:List ByteArray,(∀x∈l,x.size<=6)->(Xl ⟨#[]⟩ l).data.toList.length<=6*l.length:=by
  intro l b;rw[DI]
  induction l with
  | nil=>simp
  | cons x l e=>
   have m:=b x Ω
   have n:=e λy i=>b y (by simp[i])
   have j:x.data.toList.length=x.size:=Ω;simp only[List.flatMap_cons,Sm,List.length_cons];omega
 have h:=d (WA g f) λx k=>(Jt c a x k).2
 have j:=a.XM
 have o:(WA g f).length=f.length:=by unfold WA;simp
 have p:(Xl ⟨#[]⟩ (WA g f)).data.toList.length=(SP g f).size:=by unfold SP;simp
 omega
theorem oU (b:VA) {c:UInt8} (h:c.toNat<128):Τ prog 87 [Uo b,.Ν [.z (.int .i32 c.toNat)]] (ZV (decide (b.Xe=WB c))):=by
 refine Μ.body Ο func87 U U ntmps87 U U Ω ?_;have e:=zv h;refine Z9 e ?_;refine W.rt ?_;have a:(b.Xe.toList==[c])=decide (b.Xe=WB c):=by
  have:=PC b.Xe (WB c);rw[La (WB c)] at this;exact this
 exact .of (by simp[a])
theorem DH (g:ZZ) (P:List (List Z0)) (C:List (Α)) (X:∀w∈g.words,Xm w=true) (ar:∀w∈g.words,∀c∈w.data.toList,Qs g.ZC c=true) (L:(0<=g.UT/\g.UT<=9)/\0<=g.US/\g.US<=9) (au:∀b∈g.ZC,(0<=b.lo/\b.lo<=9)/\0<=b.hi/\b.hi<=9) (aW:g.ZC.length<=12)
  (f:Α) (N:Wa g f):Τ prog 36 [VX g P C,ζ J 1 f] (.Z6 [J (UO g f).1,J (UO g f).2]):=by
 have aX:=N.XM;refine Μ.body Ο func36 U U ntmps36 U U Ω ?_
 repeat apply Γ
 refine ZG (A:=[4]) Ο λO m=>Δ ?_;apply m
 repeat apply Γ
 refine W.draw (A:=[]) Ο mixed λO m=>?_;simp;(repeat (rw[Za];simp));try rw[YL]
 obtain⟨s,Y⟩:=Z' (((f.length:Int)+1)*g.UT);obtain⟨u,Z⟩:=Z' (((f.length:Int)+1)*g.US);have aY:0<=s/\s<=36:=by
  rw[Y];exact⟨Int.mul_nonneg I L.1.1,Int.le_trans (Int.mul_le_mul (show(f.length:Int)+1<=4 by omega) L.1.2 L.1.1 I) Z7⟩
 have aZ:0<=u/\u<=36:=by
  rw[Z];exact⟨Int.mul_nonneg I L.2.1,Int.le_trans (Int.mul_le_mul (show(f.length:Int)+1<=4 by omega) L.2.2 L.2.1 I) Z7⟩
 have av:IntKind.i64.wrap ((f.length:Int)+1)=(f.length:Int)+1:=IntWalk.i64_in _ I
 have aw:IntKind.i64.wrap (((f.length:Int)+1)*g.UT)=s:=by rw[<-Y];exact IntWalk.i64_in _ I
 have ax:IntKind.i64.wrap (((f.length:Int)+1)*g.US)=u:=by rw[<-Z];exact IntWalk.i64_in _ I
 rw[av,aw,ax];refine Yn (m _ _ ?_);obtain⟨t,Q⟩:=Z' (SP g f);have ai:∀p,p<t.size->Vd t p=true:=λp k=>by rw[Q] at k ⊢;exact zb X N k
 have a0:t.size<=18:=by rw[Q];exact Jo X N
 have aj:∀p,p<t.size->Qs g.ZC (t.get! p)=true:=λp k=>by
  rw[Q] at k ⊢;obtain⟨w,ay,E⟩:=zc N (get_mem k);exact ar w ay _ E
 obtain⟨lo,F⟩:∃lo:Nat->Α,∀p,lo p=s::(t.data.toList.take p).map λc=>(RQ g.ZC c).lo:=⟨_,λ_=>rfl⟩;obtain⟨hi,H⟩:∃hi:Nat->Α,∀p,hi p=u::(t.data.toList.take p).map λc=>(RQ g.ZC c).hi:=⟨_,λ_=>rfl⟩;have a1:t.data.toList.length=t.size:=Ω;have aa:∀p,p<=t.size->(lo p).length=p+1:=λp k=>by rw[F];simp;omega
 have ab:∀p,p<=t.size->(hi p).length=p+1:=λp k=>by rw[H];simp;omega
 refine υ λO m=>?_;refine Τ.d (DN g P C X f N) (Δ ?_);rw[<-Q];apply m
 repeat apply Γ
 obtain⟨y,R⟩:∃y:Nat->Ψ,∀p,y p=if p=0 then .sl true 1 [J s] else .ms 2 (p+1) 0 (p+1):=⟨_,λ_=>rfl⟩
 obtain⟨B,S⟩:∃B:Nat->Ψ,∀p,B p=if p=0 then .sl true 1 [J u] else .ms 3 (p+1) 0 (p+1):=⟨_,λ_=>rfl⟩
 obtain⟨l,K⟩:∃l:Nat->Ρ,∀p,l p=if p=0 then [] else [.cells 3 1 ((lo p).map J),.cells 3 1 ((hi p).map J)]:=⟨_,λ_=>rfl⟩
 refine W.iter (λp:Nat=>p<=t.size) (λp=>[(2,.Ν (YC g P C)),(4,.π 0 1 0 0),(5,y p),(6,B p),(31,.it 1)]) (λp=>.cells 29 2 [.Z6 [J 0,J 0]]::.str t p::l p) (λp=>t.size-p) 0 (Ζ _) (by simp[K]) (by simp[R,S]) (λp k az=>?_);by_cases D:p<t.size
 .have hd:=Jy (ai p D)
  have aA:=ai p D;simp only[Vd,Wm,decide_eq_true_eq] at aA;have ak:(t.get! p).toNat<128:=I;have al:=aj p D;obtain⟨c,ad⟩:=Z' (t.get! p);have ae:lo (p+1)=lo p++[(RQ g.ZC c).lo]:=by
   rw[F,F,VW I,VV];have:t.data.toList[p]=c:=by
    rw[ad];show _=t.data[p]!;rw[getElem!_pos t.data p (by simpa using D)];simp
   simp[this]
  have af:hi (p+1)=hi p++[(RQ g.ZC c).hi]:=by
   rw[H,H,VW I,VV];have:t.data.toList[p]=c:=by
    rw[ad];show _=t.data[p]!;rw[getElem!_pos t.data p (by simpa using D)];simp
   simp[this]
  have aB:=aa p k
  have aC:=ab p k;rw[<-ad] at hd ak al;obtain⟨i,aD,am,aE⟩:=zd al;have an:∀h:i<g.ZC.length,g.ZC[i]=RQ g.ZC c:=λ_=>aE;refine Z9 D ?_;refine Ι U ?_;rw[hd]
  repeat apply Γ
  refine ZG (A:=[8]) Ο λO m=>Δ ?_;apply m;have aF:∀r∈l p,YR 2 r:=by
   rw[K];split
   .simp
   .intro r n;simp at n;rcases n with rfl|rfl<;>simp[YR]
  have V:η ((l p).length+1+1) (y p)/\η ((l p).length+1+1) (B p):=by
   rw[R,S,K];split<;>simp[SB]
  have a2:2<=(l p).length+1+1:=I;refine W.to (σ':=(.cells 29 2 [.Z6 [J 0,J 0]]::.str t (p+1)::l p)++[.cells 21 1 [.z (.int .i32 c.toNat)]]) (env':=[(8,.π ((l p).length+1+1) 1 0 0),(2,.Ν (YC g P C)),(4,.π 0 1 0 0),(5,y p),(6,B p),(31,.it 1)]) ?_ Ω Ω;refine W.QH (σ0:=.cells 29 2 [.Z6 [J 0,J 0]]::.str t (p+1)::l p) (Ζ _) (λr n=>by
   simp at n;rcases n with rfl|rfl|n
   .simp[YR]
   .simp[YR]
   .exact(aF r n).up Ω) Ω [(8,.Ν [.z (.int .i32 c.toNat)]),(2,.Ν (YC g P C)),(4,.π 0 1 0 0),(5,y p),(6,B p),(31,.it 1)] (λz j=>by
   simp at j;rcases j with rfl|rfl|rfl|rfl|rfl|rfl
   .exact .inr ⟨Ω,U⟩
   .exact .inl ⟨U,Ω⟩
   .exact .inl ⟨U,by simp[TF]⟩
   .exact .inl ⟨U,V.1⟩
   .exact .inl ⟨U,V.2⟩
   .exact .inl ⟨U,by simp[Fb]⟩) ?_
  have ao:=zw g.ZC (.fn (.func 87) [] [.Ν [.z (.int .i32 c.toNat)]]) (λb=>decide (b.Xe=WB c)) I (by simp[S9]) (λx _=>λ_=>(oU x ak).cc (by simp;exact Zw.refl _) Ω Ω ⟨U,U⟩);rw[aD] at ao;refine υ λO m=>?_;refine Τ.d (ao) (Δ ?_);apply m
  repeat apply Γ
  refine W.o4 (A:=[50,61]) Ο mixed [(2,.Ν (YC g P C)),(4,.π 0 1 0 0),(5,y (p+1)),(6,B (p+1)),(31,.it 1)] (.cells 29 2 [.Z6 [J 0,J 0]]::.str t (p+1)::l (p+1)) ?_ (by
   rw[R,R,S,S,K,K,if_neg (Nat.succ_ne_zero p),if_neg (Nat.succ_ne_zero p),if_neg (Nat.succ_ne_zero p)];by_cases ap:p=0
   .subst ap;have aG:lo 0=[s]:=by rw[F];simp
    have aH:hi 0=[u]:=by rw[H];simp
    rw[aG] at ae;rw[aH] at af;rw[ae,af];simp only[if_true];simp;(repeat (rw[Za];simp[am,an]));(try rw[YL]);refine⟨SA Wf,?_⟩;simp
   .rw[ae,af];simp only[ap,if_false];simp;(repeat (rw[Za];simp[am,an,aB,aC]));(try rw[YL]);refine⟨I,SA Wf,?_⟩;simp)
  refine Φ ?_;refine W.to (az (p+1) D I) U Ω
 .have aI:p=t.size:=I
  subst aI;refine Z9 D ?_;refine Κ U ?_;refine W.exit U ?_
  repeat apply Γ
  obtain⟨σ,M⟩:=Z' (.cells 29 2 [.Z6 [J 0,J 0]]::.str t t.size::l t.size:Ρ);have aJ:∃v,Y0 1 σ (y t.size) v/\Yx v (ζ J 1 (lo t.size))/\η 0 v:=by
   rw[R,M,K];by_cases j:t.size=0
   .rw[if_pos j,if_pos j];have ag:η 1 (.sl true 1 [J s]):=Ω;refine⟨.sl true 1 [J s],.low ag,?_,Ω⟩;rw[F,j];exact .ex
   .rw[if_neg j,if_neg j];exact⟨_,Y0.own (id:=2) (t:=3) I U (by simp;exact aa _ (ZY _)) (λe ah a T=>by
     obtain⟨x,_,rfl⟩:=Zh.1 ah;simp[Ψ.cells] at T;subst T;simp),.refl _,Ω⟩
  have aK:∃v,Y0 1 σ (B t.size) v/\Yx v (ζ J 1 (hi t.size))/\η 0 v:=by
   rw[S,M,K];by_cases j:t.size=0
   .rw[if_pos j,if_pos j];have ag:η 1 (.sl true 1 [J u]):=Ω;refine⟨.sl true 1 [J u],.low ag,?_,Ω⟩;rw[H,j];exact .ex
   .rw[if_neg j,if_neg j];exact⟨_,Y0.own (id:=3) (t:=3) I U (by simp;exact ab _ (ZY _)) (λe ah a T=>by
     obtain⟨x,_,rfl⟩:=Zh.1 ah;simp[Ψ.cells] at T;subst T;simp),.refl _,Ω⟩
  obtain⟨aL,l1,l2,aM⟩:=aJ;obtain⟨aN,aO,aP,aQ⟩:=aK;rw[<-M];refine W.cut 1 (Ζ _) [(4,.π 0 1 0 0),(5,aL),(6,aN)] (by rw[M];simp) (λid r a3 n=>by
   have:id=0:=I;subst this;rw[M] at n;simp at n;subst n;simp[YR]) (λz j=>by
   simp at j;rcases j with rfl|rfl|rfl
   .exact .low (by simp[TF])
   .exact l1
   .exact aO) ?_
  have aR:σ.take 1=[.cells 29 2 [.Z6 [J 0,J 0]]]:=by rw[M];rfl
  rw[aR];have aS:UO g f=(Uj (lo t.size),Uj (hi t.size)):=by
   unfold UO zf ze;rw[F,H,Xb I,<-Q,<-Y,<-Z]
  have aq:∀c∈t.data.toList,(0<=(RQ g.ZC c).lo/\(RQ g.ZC c).lo<=9)/\0<=(RQ g.ZC c).hi/\(RQ g.ZC c).hi<=9:=λc E=>by
   obtain⟨p,k,rfl⟩:=DQ E;obtain⟨i,_,aT,aU⟩:=zd (aj p k);rw[<-aU];exact au _ (Yq aT)
  have V:∀x∈lo t.size,0<=x/\x<2 ^ 20:=λx o=>by
   rw[F] at o;rcases Yd.1 o with rfl|o
   .omega
   .obtain⟨c,E,rfl⟩:=Zh.1 o;have:=aq c (Nw E);omega
  have aV:∀x∈hi t.size,0<=x/\x<2 ^ 20:=λx o=>by
   rw[H] at o;rcases Yd.1 o with rfl|o
   .omega
   .obtain⟨c,E,rfl⟩:=Zh.1 o;have:=aq c (Nw E);omega
  have c1:=zt (lo t.size) (by rw[aa _ (ZY _)];omega) V
  have c2:=zt (hi t.size) (by rw[ab _ (ZY _)];omega) aV;rw[aS];refine υ λO m=>?_;refine Τ.c c1 (.cons l2 .nil) (by simp[aM]) Ω ?_;simp;(repeat (rw[Η];simp));refine Τ.c c2 (.cons aP .nil) (by simp[aQ]) Ω ?_;simp;(repeat (rw[Η];simp));apply m;refine W.QH (σ0:=[]) (Ζ _) Ω Ω [(4,.Ν [J (Uj (lo t.size)),J (Uj (hi t.size))])] Ω ?_;refine Φ ?_;refine W.rt ?_;exact .of U
theorem oT (l:Α) (n:Int) (g:l.length<2 ^ 62):Τ prog 101 [ζ J 1 l,J n] (J (idxOf (·==n) l)):=by
 refine Μ.body Ο func101 U U ntmps101 U U Ω ?_;refine Φ ?_;refine W.iter (λi:Nat=>i<=l.length/\∀j,j<i->(h:j<l.length)->(l[j]==n)=false) (λi=>[(0,ζ J 1 l),(1,J n),(6,ζ J 1 l),(7,J l.length),(8,J i)]) (λ_=>[]) (λi=>l.length-i) 0 ⟨Ζ _,λj b=>I⟩ U Ω (λi hi k=>?_);refine Φ ?_;refine W.Yl U (λa=>?_) (λa=>?_)
 .have a:i<l.length:=by simpa using a
  refine Z9 a ?_;refine W.Yl U (λc=>?_) (λc=>?_)
  .have d:n=l[i]:=by simpa using c
   refine Φ ?_;rw[MN a (by simp[d]) hi.2];refine W.rt ?_;exact .of U
  .have d:¬n=l[i]:=by simpa using c
   have f:=Y9 a g;refine Z9 f ?_;refine W.to (k (i+1) ⟨I,λj b h=>?_⟩ I) U (by simp[f]);by_cases e:j=i
   .subst e;simpa using λx=>d x.symm
   .exact hi.2 j I h
 .have a:l.length<=i:=by simpa using a
  refine W.exit U ?_;refine Φ ?_;rw[MM λj b=>hi.2 j I b];refine W.rt ?_;exact .of U
theorem oS (l:Α) (n:Int) (a:l.length<2 ^ 62):Τ prog 56 [ζ J 1 l,J n] (ZV (l.any (·==n))):=by
 refine Μ.body Ο func56 U U ntmps56 U U Ω ?_;refine Φ ?_;refine υ λc b=>?_;refine Τ.d (oT l n a) (Δ ?_);apply b;refine Φ ?_;refine W.Y' ?_;rw[<-ML (p:=(·==n))];rfl
theorem oR (a b:List ByteArray) (k:a.length<2 ^ 62):Τ prog 136 [Yw a,Yw b] (ZV (decide (a=b))):=by
 refine Μ.body Ο func136 U U ntmps136 U U Ω ?_;refine Φ ?_;by_cases l:a.length=b.length
 case neg=>
  refine Ι (by simp;omega) ?_;refine Φ ?_;refine W.Y' ?_;simp[show ¬a=b from λh=>l (by rw[h])]
 refine Κ (by simp;omega) ?_;refine Φ ?_;refine W.iter (λi:Nat=>i<=a.length/\∀j,j<i->a[j]?=b[j]?) (λi=>[(0,Yw a),(1,Yw b),(12,J a.length),(13,J i)]) (λ_=>[]) (λi=>a.length-i) 0 ⟨Ζ _,λj d=>I⟩ U Ω (λi hi m=>?_);obtain⟨n,f⟩:=hi;refine Φ ?_;refine W.Yl U (λc=>?_) (λc=>?_)
 .have c:i<a.length:=by simpa using c
  have g:i<b.length:=I;refine Φ ?_;refine WX (Ξ c g) ?_;by_cases q:a[i]=b[i]
  .refine Κ (by simp[PC,q]) ?_;refine Φ ?_;refine W.forget _ ?_ (m (i+1) ⟨c,λj d=>?_⟩ I)
   .simp[Y9 c k]
   .by_cases e:j=i
    .subst e;rw[Z4 c,Z4 g,q]
    .exact f j I
  .refine Ι (by simp[PC,q]) ?_;refine Φ ?_;refine W.Y' ?_;simp[show ¬a=b from λh=>q (by simp[h])]
 .have c:a.length<=i:=by simpa using c
  refine W.exit U ?_;refine Φ ?_;have:a=b:=U' λj=>by
   by_cases d:j<i
   .exact f j d
   .rw[W4 I,W4 I]
  refine W.Y' ?_;simp[this]
theorem oQ (a:T') (t:ByteArray) (i:Nat) (hi:i<t.size) (k:t.size<2 ^ 40):Τ prog 176 [R5 a,.Ν [ZP t],.Ν [J i]] (ZV (decide (a.name=WB (t.get! i)))):=by
 refine Μ.body Ο func176 U U ntmps176 U U Ω ?_;have b:IntKind.i64.wrap ((i:Int)+1)=(i:Int)+1:=IntWalk.i64_in _ I;have c:((i:Int)+1).toNat=i+1:=I;have d:t.extract i (i+1)=WB (t.get! i):=by
  refine DS ?_;have hd:i<t.data.size:=hi;have e:(t.extract i (i+1)).data=t.data.extract i (i+1):=Ω;rw[e];have f:t.get! i=t.data[i]:=getElem!_pos t.data i hd;rw[f];simp[List.take_one,List.head?_drop,Z4 (show i<t.data.toList.length by simpa using hd)]
 have g:(a.name.toList==[t.get! i])=decide (a.name=WB (t.get! i)):=by
  have:=PC a.name (WB (t.get! i));rw[La (WB (t.get! i))] at this;exact this
 have h:(i:Int)+1<=t.size:=I;refine Φ ?_;refine W.draw (A:=[]) Ο mixed λl j=>?_;simp;(repeat (rw[Za];simp[b,c,d,h]));try rw[YL]
 refine⟨I,?_⟩;refine Yn (j _ _ ?_);refine W.Y' ?_;simp[g]
def Ox (g:ZZ) (t:ByteArray) (i:Nat):Int:=if t.size<=i then -1 else
 if idxOf (λa:T'=>decide (a.name=WB (t.get! i))) g.ZX.ZN<0 then -2 else idxOf (λa:T'=>decide (a.name=WB (t.get! i))) g.ZX.ZN
theorem oP (g:ZZ) (P:List (List Z0)) (C:List (Α)) (c:g.ZX.small) (t:ByteArray) (i:Nat) (e:t.size<2 ^ 40):Τ prog 137 [VX g P C,ZP t,J i] (J (Ox g t i)):=by
 refine Μ.body Ο func137 U U ntmps137 U U Ω ?_;refine Φ ?_;by_cases hi:t.size<=i
 .refine Ι (by simp;omega) ?_;refine Φ ?_;rw[show Ox g t i=-1 from if_pos hi];refine W.rt ?_;exact .of U
 refine Κ (by simp;omega) ?_;have f:Ox g t i=if idxOf (λa:T'=>decide (a.name=WB (t.get! i))) g.ZX.ZN<0 then -2 else idxOf (λa:T'=>decide (a.name=WB (t.get! i))) g.ZX.ZN:=if_neg hi
 rw[f];have h:=Bn g.ZX.ZN (.fn (.func 176) [] [.Ν [ZP t],.Ν [J i]]) (λa=>decide (a.name=WB (t.get! i))) (by have:=c.1;omega) (by simp[S9]) (λx _=>λ_=>(oQ x t i I e).cc (by simp;exact Zw.refl _) Ω Ω ⟨U,U⟩);refine υ λk j=>?_;refine Τ.d (h) (Δ ?_);apply j;generalize idxOf (λa:T'=>decide (a.name=WB (t.get! i))) g.ZX.ZN=x;refine Φ ?_;by_cases b:x<0
 .refine Ι (by simp[b]) ?_;refine Φ ?_;rw[if_pos b];refine W.rt ?_;exact .of U
 .refine Κ (by simp[b]) ?_;refine Φ ?_;rw[if_neg b];refine W.rt ?_;exact .of U
def Re (g:ZZ) (C:List (Α)) (f:Α):Bool:=(List.range C.length).all λi=>((C[i]?).getD []).any (·==Ox g (SP g f) i)
theorem oO (g:ZZ) (P:List (List Z0)) (C:List (Α)) (m:∀w∈g.words,Xm w=true) (p:g.ZX.small) (x:C.length<2 ^ 40) (r:∀l∈C,l.length<2 ^ 40) (f:Α) (n:Wa g f) :
  Τ prog 82 [VX g P C,ζ J 1 f] (ZV (Re g C f)):=by
 have s:=Jo m n;refine Μ.body Ο func82 U U ntmps82 U U Ω ?_;refine Φ ?_;refine υ λu c=>?_;refine Τ.d (DN g P C m f n) (Δ ?_);apply c;unfold Re;generalize SP g f=t at s ⊢;refine Φ ?_;refine W.iter (λi:Nat=>i<=C.length/\∀j,j<i->(((C[j]?).getD []).any (·==Ox g t j))=true) (λi=>[(2,.Ν (YC g P C)),(5,ZP t),(12,Ya C),(13,J C.length),(14,J i)]) (λ_=>[]) (λi=>C.length-i) 0 ⟨Ζ _,λj k=>I⟩ U Ω (λi hi v=>?_);refine Φ ?_;refine W.Yl U (λa=>?_) (λa=>?_)
 .have a:i<C.length:=by simpa using a
  have o:(C[i]?).getD []=C[i]:=by rw[Z4 a];rfl
  refine Z9 a ?_;refine υ λu c=>?_;refine Τ.d (oP g P C p t i I) (Δ ?_);refine Τ.d (oS C[i] (Ox g t i) (by have:=r _ (Yq a);omega)) (Δ ?_);apply c;cases b:C[i].any (·==Ox g t i) with
  | true=>
   refine Κ (by simp[b]) ?_;refine Φ ?_;refine W.to (v (i+1) ⟨a,λj k=>?_⟩ I) U (by simp[Y9 a (show C.length<2 ^ 62 by omega)]);by_cases e:j=i
   .subst e;rw[o];exact b
   .exact hi.2 j I
  | false=>
   refine Ι (by simp[b]) ?_;refine Φ ?_;have e:((List.range C.length).all λi=>((C[i]?).getD []).any (·==Ox g t i))=false:=by
    rw[IQ];intro h;have:=XJ.1 h i (by simpa using a);rw[o,b] at this;cases this
   rw[e];refine W.rt ?_;exact .of U
 .have a:C.length<=i:=by simpa using a
  refine W.exit U ?_;refine Φ ?_;have e:((List.range C.length).all λi=>((C[i]?).getD []).any (·==Ox g t i))=true:=XJ.2 λj k=>hi.2 j (by simp at k;omega);rw[e];refine W.rt ?_;exact .of U
theorem oN (p:Z0) (w:List ByteArray):Τ prog 135 [Y7 p,.Ν [Yw w]] (ZV (decide (p.1=w))):=by
 refine Μ.body Ο func135 U U ntmps135 U U Ω ?_;have b:=p.2;refine Φ ?_;refine υ λd a=>?_;refine Τ.c (oR p.1 w I) (.cons .ex (.cons (.refl _) .nil)) Ω Ω ?_;simp;(repeat (rw[Η];simp));apply a;refine Φ ?_;refine W.rt ?_;exact .of U
def Tw (w:List ByteArray) (l:List Z0):Bool:=l.isEmpty||l.any λp=>decide (p.1=w)
def toldOf (g:ZZ) (P:List (List Z0)) (f:Α):Bool:=P.all (Tw (WA g f))
theorem oM (g:ZZ) (P:List (List Z0)) (C:List (Α)) (N:P.length<2 ^ 40) (y:∀l∈P,l.length<2 ^ 40) (f:Α) (B:Wa g f) :
  Τ prog 81 [VX g P C,ζ J 1 f] (ZV (toldOf g P f)):=by
 refine Μ.body Ο func81 U U ntmps81 U U Ω ?_;refine Φ ?_;refine ZO ?_;refine ZG (A:=[5]) Ο λr b=>Δ ?_;refine Τ.d (DO g P C f B) (Δ ?_);apply b;unfold toldOf;generalize WA g f=w;refine W.QH (σ0:=[]) (Ζ _) Ω Ω [(2,.Ν (YC g P C)),(5,.Ν [Yw w])] Ω ?_;refine Φ ?_;have O:∀i,i<P.length->∀l,P[i]?=some l->l∈P:=λi _ l h=>ZH h;refine W.iter (λi:Nat=>i<=P.length/\∀j,j<i->∀h:j<P.length,Tw w P[j]=true) (λi=>[(2,.Ν (YC g P C)),(5,.Ν [Yw w]),(12,Vz P),(13,J P.length),(14,J i)]) (λ_=>[]) (λi=>P.length-i) 0 ⟨Ζ _,λj m=>I⟩ U Ω (λi hi s=>?_);refine Φ ?_;refine W.Yl U (λa=>?_) (λa=>?_)
 .have a:i<P.length:=by simpa using a
  have n:Tw w P[i]=true->∀j,j<i+1->∀h:j<P.length,Tw w P[j]=true:=λD j m h=>by
   by_cases e:j=i
   .subst e;exact D
   .exact hi.2 j I h
  have t:Tw w P[i]=false->P.all (Tw w)=false:=λh=>by
   rw[IQ];intro E;rw[XJ.1 E _ (Yq a)] at h;cases h
  have F:=y _ (Yq a);obtain⟨l,c⟩:=Z' (P[i]);have H:∀h:i<P.length,P[i]=l:=λ_=>c.symm;rw[<-c] at n t F;clear c;refine Z9 (Ξ a H) ?_;by_cases k:l=[]
  .have o:Tw w l=true:=by rw[k];rfl
   have K:¬(0:Int)<l.length:=by rw[k];simp
   refine Ze (Ξ K k) λr b=>?_;apply b;refine Κ U ?_;refine Φ ?_;refine W.to (s (i+1) ⟨a,n o⟩ I) U (by simp[Y9 a (show P.length<2 ^ 62 by omega)])
  .have L:(0:Int)<l.length:=by have:=Pg.2 k;omega
   have M:0<l.length:=I
   have o:Tw w l=l.any λp=>decide (p.1=w):=by
    unfold Tw;have:l.isEmpty=false:=by simpa using k
    rw[this];rfl
   have u:=pS l (.fn (.func 135) [] [.Ν [Yw w]]) (λp=>decide (p.1=w)) I (by simp[S9]) (λx _=>λ_=>(oN x w).cc (by simp;exact Zw.refl _) Ω Ω ⟨U,U⟩);rw[<-o] at u;refine Ze (Ξ L M) λr b=>?_;refine Τ.d (u) (Δ ?_);apply b;cases v:Tw w l with
   | true=>
    refine Κ Ω ?_;refine Φ ?_;refine W.to (s (i+1) ⟨a,n v⟩ I) U (by simp[Y9 a (show P.length<2 ^ 62 by omega)])
   | false=>
    refine Ι Ω ?_;refine Φ ?_;rw[t v];refine W.rt ?_;exact .of U
 .have a:P.length<=i:=by simpa using a
  refine W.exit U ?_;refine Φ ?_;have e:P.all (Tw w)=true:=XJ.2 λl c=>by
   obtain⟨j,m,rfl⟩:=Om c;exact hi.2 j I m
  rw[e];refine W.rt ?_;exact .of U
structure Mp (g:ZZ) (P:List (List Z0)) (C:List (Α)):Prop where
 words:∀w∈g.words,Xm w=true
 lets:∀w∈g.words,∀c∈w.data.toList,Qs g.ZC c=true
 blank:(0<=g.UT/\g.UT<=9)/\0<=g.US/\g.US<=9
 Gf:∀b∈g.ZC,(0<=b.lo/\b.lo<=9)/\0<=b.hi/\b.hi<=9
 ZC:g.ZC.length<=12
 ZX:g.ZX.small
 pass:P.length<2 ^ 40/\∀l∈P,l.length<2 ^ 40
 cells:C.length<2 ^ 40/\∀l∈C,l.length<2 ^ 40
 XM:g.words.length<2 ^ 20
def DG (g:ZZ) (f:Α):Bool:=decide ((UO g f).1 > g.UB)||decide ((UO g f).2<g.W2)
def Uz (g:ZZ) (P:List (List Z0)) (C:List (Α)) (f:Α):Int:=
 (if DG g f then 1 else 0)+(if toldOf g P f then 0 else 2)+(if Re g C f then 0 else 4)
theorem DF (g:ZZ) (P:List (List Z0)) (C:List (Α)) (h:Mp g P C) (f:Α) (l:Wa g f) :
  Τ prog 33 [VX g P C,ζ J 1 f] (J (Uz g P C f)):=by
 have m:Sb .i64 0 1=1:=Z7
 have s:Sb .i64 0 2=2:=Z7
 have t:Sb .i64 1 2=3:=Z7
 have u:Sb .i64 0 4=4:=Z7
 have v:Sb .i64 1 4=5:=Z7
 have x:Sb .i64 2 4=6:=Z7
 have y:Sb .i64 3 4=7:=Z7
 have c1:=DH g P C h.words h.lets h.blank h.Gf h.ZC f l
 have c2:=oM g P C h.pass.1 h.pass.2 f l
 have B:=oO g P C h.words h.ZX h.cells.1 h.cells.2 f l;refine Μ.body Ο func33 U U ntmps33 U U Ω ?_;refine Φ ?_;refine ZO ?_;refine ZG (A:=[6]) Ο λb a=>Δ ?_;refine Τ.d (c1) (Δ ?_);apply a;unfold Uz DG;generalize UO g f=w;obtain⟨o,p⟩:=w;refine W.QH (σ0:=[]) (Ζ _) Ω Ω [(6,.Ν [J o,J p]),(1,ζ J 1 f),(2,.Ν (YC g P C)),(5,J 0)] Ω ?_;obtain⟨c,e⟩:=Z' ((decide (o > g.UB)||decide (p<g.W2)));simp only;rw[<-e]
 repeat refine W.seq ?_
 refine W.block ?_
 repeat refine W.seq ?_
 refine W.upto [(1,ζ J 1 f),(2,.Ν (YC g P C)),(5,J (if c=true then 1 else 0))] [] ?_ ?_
 .repeat apply Γ
  by_cases i:o > g.UB
  .have j:c=true:=by rw[e];simp[i]
   refine Ze i λb a=>?_;apply a;refine Ι Ω ?_;refine W.exit U ?_;refine υ λb a=>?_;apply a;refine W.inBlock ?_;exact .stop ⟨U,U,by simp[j,m]⟩
  .by_cases k:p<g.W2
   .have j:c=true:=by rw[e];simp[k]
    refine Ze (Ξ i k) λb a=>?_;apply a;refine Ι Ω ?_;refine W.exit U ?_;refine υ λb a=>?_;apply a;refine W.inBlock ?_;exact .stop ⟨U,U,by simp[j,m]⟩
   .have j:c=false:=by rw[e];simp[i,k]
    refine Ze (Ξ i k) λb a=>?_;apply a;refine Κ Ω ?_
    repeat apply Γ
    refine W.exit U ?_;exact .stop ⟨U,U,by simp[j,m]⟩
 clear e;refine υ λb a=>?_;refine Τ.d (c2) (Δ ?_);apply a
 repeat refine W.seq ?_
 refine W.tw (λn:Int=>(n=0\/n=1\/n=2\/n=3)/\n=(if c=true then 1 else 0)+if toldOf g P f=true then 0 else 2) (λn=>[(1,ζ J 1 f),(2,.Ν (YC g P C)),(5,J n)]) (λ_=>[]) ?_ (λn D=>?_)
 .cases c<;>cases toldOf g P f
  .refine Ι U ?_;refine Ze s λb a=>?_;apply a;exact .stop ⟨U,2,Z7,U,Ω⟩
  .refine Κ U ?_;refine W.skip ?_;exact .stop ⟨U,0,Z7,U,Ω⟩
  .refine Ι U ?_;refine Ze t λb a=>?_;apply a;exact .stop ⟨U,3,Z7,U,Ω⟩
  .refine Κ U ?_;refine W.skip ?_;exact .stop ⟨U,1,Z7,U,Ω⟩
 obtain⟨E,r⟩:=D;rw[<-r];clear r;refine υ λb a=>?_;refine Τ.d (B) (Δ ?_);apply a;cases Re g C f
 .refine Ι U ?_;rcases E with rfl|rfl|rfl|rfl
  all_goals
   refine Z9 (Ξ u (Ξ v (Ξ x y))) ?_;refine W.exit U ?_;refine Φ ?_;refine W.rt ?_;exact .of U
 .refine Κ U ?_;refine Φ ?_;refine W.exit U ?_;refine Φ ?_;simp only[if_true,Int.add_zero];refine W.rt ?_;exact .of U
end Go.TL
namespace Go.TL
open Go.Proofs.Tryz
open Go.Conc Go.Proofs
variable [Z1]
def UN (a:Nat):Nat->Α->List (Α)
 | 0,l=>[l]
 | d+1,l=>l::(List.range a).flatMap λn:Nat=>UN a d (l++[(n:Int)])
def Rc (a:Nat):Nat->Nat
 | 0=>1
 | d+1=>1+a*Rc a d
theorem za {a:Type} (f:Nat->List a) (c:Nat) (h:∀n,(f n).length=c) (m:Nat):((List.range m).flatMap f).length=m*c:=by
 induction m with
 | zero=>simp
 | succ m b=>rw[Q4,KP,Sm,b];simp[h,Nat.succ_mul]
theorem y' (a:Nat):∀d l,(UN a d l).length=Rc a d:=by
 intro d
 induction d with
 | zero=>intro l;rfl
 | succ d b=>intro l;simp only[UN,List.length_cons,Rc];rw[za _ _ λn=>b _];omega
theorem oL {b c:Type} {step:b->c->b} {sz:b->Nat} (d:∀s l,sz (step s l)<=sz s+1) (L:List c):∀s,sz (L.foldl step s)<=sz s+L.length:=by
 induction L with
 | nil=>intro s;simp
 | cons a L e=>intro s;have f:=e (step s a);have g:=d s a;simp only[List.foldl_cons,List.length_cons];omega
abbrev Ps (L:Nat):Ψ:=.fn (.yield L) [] []
abbrev oK (g:ZZ) (P:List (List Z0)) (C:List (Α)) (L n0:Nat):Ψ:=.fn (.func 84) [] [.Ν [Ps L],.Ν (YC g P C),.π (n0+1) 1 0 0]
abbrev RP (g:ZZ) (P:List (List Z0)) (C:List (Α)) (L n0:Nat):Row:=.cells 49 1 [oK g P C L n0]
section
variable {SO:Type} {R:SO->Ρ} {n0:Nat} {step:SO->Α->SO} {sz:SO->Nat} {M:Nat} {L p nt:Nat} {a bd:Code} {env:Β} {g:ZZ} {P:List (List Z0)} {C:List (Α)}
theorem oJ (w:∀s l,sz (step s l)<=sz s+1) (y:∀s,(R s).length=n0) (ad:g.words.length<2 ^ 20)
  (F:∀s l,sz s<M->Wa g l->Yg prog (Ps L) [ζ J 1 l] (R s++[.loop L .ready #[p] a bd nt env,RP g P C L n0]) (λr t=>r=ZV true/\t=R (step s l)++[.loop L .ready #[p] a bd nt env,RP g P C L n0]) (λ_ _=>False)) :
  ∀d l,l.length+d=3->Wa g l->∀s,sz s+Rc g.words.length d<=M->Μ prog 84 [ζ J 1 l,.Ν [Ps L],.Ν (YC g P C),.π (n0+1) 1 0 0] (R s++[.loop L .ready #[p] a bd nt env,RP g P C L n0]) (λr t=>r=ZV true/\t=R ((UN g.words.length d l).foldl step s)++[.loop L .ready #[p] a bd nt env,RP g P C L n0]) (λ_ _=>False):=by
 obtain⟨σ,b⟩:∃σ:SO->Ρ,∀s,σ s=R s++[.loop L .ready #[p] a bd nt env,RP g P C L n0]:=⟨_,λ_=>rfl⟩;have H:∀s,(σ s)[n0+1]?=some (RP g P C L n0):=λs=>by rw[b,<-y s];simp
 have B:∀s l,sz s<M->Wa g l->Yg prog (Ps L) [ζ J 1 l] (σ s) (λr t=>r=ZV true/\t=σ (step s l)) (λ_ _=>False):=λs l K u=>by
  rw[b,b];exact F s l K u
 intro d
 induction d with
 | zero=>
  intro l u k s m;rw[<-b,<-b];refine Μ.body Ο func84 U U ntmps84 U U Ω ?_;refine Φ ?_;refine υ λD i=>?_;refine Yg.mono (B s l (by simp only[Rc] at m;omega) k) (λr t h=>?_) (λ_ _ h=>h.elim);obtain⟨rfl,rfl⟩:=h;simp;(repeat (rw[Η];simp));apply i;refine Κ U ?_;refine Φ ?_;refine .loop ?_;have c:¬(l.length:Int)<3:=I
  repeat apply Γ
  refine W.QP (A:=[]) Ο [(0,ζ J 1 l),(21,ZV false)] ?_ (by
   by_cases o:0<g.words.length
   ·(try simp);(repeat (rw[Η];simp[o,c]));(try simp[o,c])
   ·(try simp);(repeat (rw[Η];simp[o,c]));(try simp[o,c]))
  refine Κ U ?_;refine W.exit U ?_;refine Φ ?_
  trace_state
  exact W.ret ⟨_,U,U,U⟩
 | succ d N=>
  intro l u k s m;rw[<-b,<-b];have ae:∀s E,(σ s).length=(σ E).length:=λs E=>by rw[b,b];simp[y]
  refine Μ.body Ο func84 U U ntmps84 U U Ω ?_;refine Φ ?_;refine υ λD i=>?_;refine Yg.mono (B s l (by simp only[Rc] at m;omega) k) (λr t h=>?_) (λ_ _ h=>h.elim);obtain⟨rfl,rfl⟩:=h;simp;(repeat (rw[Η];simp));apply i;refine Κ U ?_;refine Φ ?_;obtain⟨st,j⟩:∃st:Nat->SO,∀n,st n=(((List.range n).flatMap λn:Nat=>UN g.words.length d (l++[(n:Int)])).foldl step (step s l)):=⟨_,λ_=>rfl⟩;have O:∀n,st (n+1)=(UN g.words.length d (l++[(n:Int)])).foldl step (st n):=λn=>by
   rw[j,j,Q4,KP,Pf];simp
  refine W.iter (λn:Nat=>n<=g.words.length) (λn=>[(0,ζ J 1 l),(2,.Ν (YC g P C)),(3,.π (n0+1) 1 0 0),(6,J n)]) (λn=>σ (st n)) (λn=>g.words.length-n) 0 (Ζ _) (by rw[j];rfl) Ω (λn af Q=>?_);have c:(l.length:Int)<3:=I
  repeat apply Γ
  by_cases e:n<g.words.length
  .refine W.QP (A:=[]) Ο [(0,ζ J 1 l),(2,.Ν (YC g P C)),(3,.π (n0+1) 1 0 0),(6,J n),(21,ZV true)] ?_ (by
    (try simp);(repeat (rw[Η];simp[e,c]));(try simp[e,c]))
   refine Ι U ?_
   repeat apply Γ
   have S:sz (st n)+Rc g.words.length d<=M:=by
    have T:=oL w (((List.range n).flatMap λn:Nat=>UN g.words.length d (l++[(n:Int)]))) (step s l)
    have ag:=w s l;rw[za _ _ λn=>y' _ _ _,<-j] at T;have V:(n+1)*Rc g.words.length d<=g.words.length*Rc g.words.length d:=Vo _ e;rw[Nat.succ_mul] at V;simp only[Rc] at m;omega
   have v:=N (l++[(n:Int)]) (by simp;omega) ⟨by simp;omega,λx f=>by
    rcases Uv.1 f with f|f
    .exact k.has x f
    .simp at f;subst f;omega⟩ (st n) S
   rw[<-b,<-b,<-O] at v;have ah:(n:Int)<4611686018427387904:=I;refine W.draw (A:=[]) Ο mixed λD i=>?_;simp;have X:List.take l.length (List.map J l)=List.map J l:=Xb Ω;have Y:l.length<=4294967295:=I;(repeat (rw[Za];simp[H,X,Y]));have Z:ζ J 1 (l++[(n:Int)])=.sl false 1 (l.map J++[J n]):=Ω;rw[Z] at v;refine E8 (r:=ZV true) (σ':=σ (st (n+1))) (Μ.call (first:=[]) (args:=[.sl false 1 (l.map J++[J n])]) (captured:=[.Ν [Ps L],.Ν (YC g P C),.π (n0+1) 1 0 0]) v) ?_;simp;(repeat (rw[Za];simp));try rw[YL]
   refine Yn (i _ _ ?_);refine Κ U ?_;refine Φ ?_;refine W.to (Q (n+1) e I) U (by simp[Y9 e (show g.words.length<2 ^ 62 by omega)])
  .refine W.QP (A:=[]) Ο [(21,ZV false)] ?_ (by
    (try simp);(repeat (rw[Η];simp[e,c]));(try simp[e,c]))
   refine Κ U ?_;have aa:n=g.words.length:=I;have ab:σ (st n)=σ ((UN g.words.length (d+1) l).foldl step s):=by
    rw[j,aa];rfl
   rw[ab];refine W.exit U ?_;refine Φ ?_;exact W.ret ⟨_,U,U,U⟩
theorem oI (v:∀s l,sz (step s l)<=sz s+1) (j:∀s,(R s).length=n0) (w:g.words.length<2 ^ 20) (x:∀s,∀r∈R s,YR n0 r) (y:∀i,η n0 (ι env i))
  (B:∀s l,sz s<M->Wa g l->Yg prog (Ps L) [ζ J 1 l] (R s++[.loop L .ready #[p] a bd nt env,RP g P C L n0]) (λr t=>r=ZV true/\t=R (step s l)++[.loop L .ready #[p] a bd nt env,RP g P C L n0]) (λ_ _=>False)) (s:SO) (D:sz s+Rc g.words.length 3<=M) :
  Μ prog 83 [Ps L,.Ν (YC g P C)] (R s++[.loop L .ready #[p] a bd nt env]) (λr t=>r=.ε []/\t=R ((UN g.words.length 3 []).foldl step s)++[.loop L .ready #[p] a bd nt env]) (λ_ _=>False):=by
 have f:=oJ (P:=P) (C:=C) v j w B 3 [] U ⟨Ω,Ω⟩ s D;obtain⟨τ,c⟩:∃τ:SO->Ρ,∀s,τ s=R s++[.loop L .ready #[p] a bd nt env]:=⟨_,λ_=>rfl⟩;have b:∀s,(τ s).length=n0+1:=λs=>by rw[c];simp[j]
 have k:∀s r,R s++[.loop L .ready #[p] a bd nt env,r]=τ s++[r]:=λs r=>by rw[c];simp
 rw[<-c,<-c];rw[k] at f;simp only[k] at f;refine Μ.body Ο func83 U U ntmps83 U U Ω ?_;refine υ λm d=>?_;apply d;refine ZO ?_;refine ZG (A:=[3]) Ο λm d=>Δ ?_;apply d;have K:∀r:Row,(τ s++[r])[(τ s).length]?=some r:=λr=>Ω;have N:∀r q:Row,(τ s++[r]).set (τ s).length q=τ s++[q]:=λr q=>Ω;have n:∀r:Row,(τ s++[r])[n0+1]?=some r:=λr=>by rw[<-b s];simp
 have o:∀r q:Row,(τ s++[r]).set (n0+1) q=τ s++[q]:=λr q=>by rw[<-b s];simp
 rw[b s];refine Z9 (Ξ n o) ?_;refine Ze (Ξ n o) λm d=>?_;have E:=Μ.Rq (args':=[]++[.sl true 0 []]++[.Ν [Ps L],.Ν (YC g P C),.π (n0+1) 1 0 0]) (K':=λr t=>r=ZV true/\t=τ ((UN g.words.length 3 []).foldl step s)++[RP g P C L n0]) f (.cons .nil (Zw.refl _)) (λa s h=>⟨a,.refl _,h⟩);refine Yg.mono (Μ.call E) (λr t h=>?_) (λ_ _ h=>h.elim);obtain⟨rfl,rfl⟩:=h;simp;(repeat (rw[Η];simp));apply d;generalize (UN g.words.length 3 []).foldl step s=e;refine W.cut (n0+1) I [] (by rw[Sm,b];omega) (λid r F u=>?_) Ω ?_
 .rw[YN (by rw[b];exact F),c] at u;rcases Uv.1 (ZH u) with hm|hm
  .exact(x e r hm).up I
  .simp at hm;subst hm;exact λi=>(y i).mono I
 .have H:(τ e++[RP g P C L n0]).take (n0+1)=τ e:=by rw[<-b e,List.take_left'];rfl
  rw[H];refine Φ ?_;exact W.nil ⟨_,U,U,U⟩
end
theorem y9 (g:ZZ) (P:List (List Z0)) (C:List (Α)):Τ prog 35 [VX g P C] (.fn (.func 83) [] [.Ν (YC g P C)]):=by
 refine Μ.body Ο func35 U U ntmps35 U U Ω ?_;refine Φ ?_;refine W.rt ?_;exact .of U
section
variable {SO:Type} {R:SO->Ρ} {n0:Nat} {step:SO->Α->SO} {sz:SO->Nat} {M:Nat} {p m nt:Nat} {a bd:Code} {env env0:Β} {env1:SO->Α->Β} {g:ZZ} {P:List (List Z0)} {C:List (Α)}
variable {Q:Value->Prop} {mn:Bool} {x:Wv} {b:Frame} {cs:Y3} {t1:ν} {k:ZA} {Y8:ς} {W9:δ} {H1:Υ} {s:SO} {Ge:Operand}
theorem y8 {σ:Ρ} (h:∀r∈σ,T1 r) (rest:Ρ) (j:Nat) (a:U3 rest j=true):U3 (σ++rest) j=true:=by
 unfold U3 at a ⊢;rw[List.all_append,a,Bool.and_true,XJ];intro r b;obtain⟨t,k,l,rfl⟩:=h r b;rfl
theorem μ.y7 (aA:∀s l,sz (step s l)<=sz s+1) (aB:sz s+Rc g.words.length 3<=M) (Y:Seq x) (aj:b.mode=.run) (aC:b.roundOf=none) (n:∀s,(R s).length=n0) (K:∀s,∀r∈R s,T1 r) (ak:∀s,∀r∈R s,YR n0 r) (Z:∀i,η n0 (ι env i))
  (aD:g.words.length<2 ^ 20) (aE:p<nt) (aF:ο env0 Ge=.fn (.func 83) [] [.Ν (YC g P C)]) (w:XR m nt Y8 W9 H1 (R s) env0 t1) (aG:∀q∈env,ι env0 q.1=q.2)
  (aH:∀s l u c,sz s<M->Wa g l->YR (n0+2) u->YR (n0+2) c->W prog (n0+2) nt [.code a,.beginRound,.code bd] ((p,ζ J 1 l)::env) (R s++[u,c]) (λk e t=>k=[.beginRound,.code bd]/\t=R s++[u,c]/\∀q∈env1 s l,ι e q.1=q.2) (λ_ _ _=>False))
  (aI:∀s l u c,sz s<M->Wa g l->YR (n0+2) u->YR (n0+2) c->W prog (n0+2) nt [.code bd] (env1 s l) (R s++[u,c]) (λk e t=>k=[]/\t=R (step s l)++[u,c]) (λ_ _ _=>False))
  (al:∀S B H c,Ext Y8 W9 H1 S B H->ZJ Y8 S W9 B (R s) (R ((UN g.words.length 3 []).foldl step s))->Holds S B (R ((UN g.words.length 3 []).foldl step s)) H->H1.fresh c->¬B.has c->H.obj c=some (.deferred (some []))->Zg S B (R ((UN g.words.length 3 []).foldl step s)) env0 t1->
   μ prog Q mn x (χ {b with defers:=⟨.collected c,#[]⟩::b.defers} t1 k) cs H) :
  μ prog Q mn x (χ b t1 (.code (.rangeFunc Ge #[p] a bd)::k)) cs H1:=by
 have aa:=TH w.Zt Ge;rw[aF] at aa;obtain⟨a8,am⟩:=Z' (ZW t1 Ge);rw[<-am] at aa;cases aa with
 | fn w1 an aJ aK a9 aL=>
 have aM:w1=#[]:=Pj (by rw[<-aJ];rfl);subst aM;refine μ.rangeFunc Y aj aC am.symm ⟨_,func83,U,U⟩ λc L ab O=>?_;have ao:¬W9.has c:=w.holds.rk (K s) ab;have ap:=w.holds.Zq (y:=.deferred (some [])) ao;have ad:Ext Y8 W9 H1 Y8 W9 (H1.Zq c (.deferred (some []))):=Ext.rl ab;have T:(H1.Zq c (.deferred (some []))).obj c=some (.deferred (some [])):=by simp[Υ.Zq]
 have aN:H1.fresh L:=ad.grow _ O;generalize H1.Zq c (.deferred (some []))=aO at O ap ad T;have aP:c≠L:=λe=>by rw[e,O.2.2.1] at T;cases T
 have aQ:Zg Y8 W9 (R s) env t1:=RZ w.Zt aG;obtain⟨D,E,aq⟩:=ap.push (r:=.loop L .ready #[p] a bd nt env) (bo:=some (L,0)) (H':=aO.Zq L (.loop (G6 .ready none b.fn t1 #[p] a bd c))) (λb N e=>by cases e;exact O) (λaR aS=>by
  have aT:aR≠L:=λe=>aS 0 (by rw[e]);exact⟨λ_=>rfl,U,by simp[Υ.Zq,aT]⟩) (λV=>⟨0,b.fn,c,t1,U,by simp[Υ.Zq,G6],w.size,λi=>(aQ i).later V⟩)
 have aU:YR (n0+2) (.loop L .ready #[p] a bd nt env):=λi=>(Z i).mono I
 have aV:YR (n0+2) (.loop L .busy #[p] a bd nt env):=λi=>(Z i).mono I
 have ar:YR (n0+2) (RP g P C L n0):=by simp[YR,Ψ.cells,TF]
 have au:=oI (P:=P) (C:=C) (L:=L) (p:=p) (nt:=nt) (a:=a) (bd:=bd) (env:=env) aA n aD ak Z (step:=step) (λs l av V=>by
  refine o2 (j:=n0) (L:=L) (p:=p) (a:=a) (bd:=bd) (nt:=nt) (env:=env) (env1:=env1 s l) (by rw[<-n s];simp) (y8 (K s) _ _ U) aE ?_ ?_
  .have e:(R s++[.loop L .ready #[p] a bd nt env,RP g P C L n0]).length=n0+2:=by simp[n]
   rw[e];exact aH s l _ _ av V aU ar
  .have e:(R s++[.loop L .ready #[p] a bd nt env,RP g P C L n0]).length=n0+2:=by simp[n]
   have X:∀s u ae c,(R s++[u,c]).set n0 ae=R s++[ae,c]:=λs u ae c=>by rw[<-n s];simp
   rw[e,X];refine W.mono (aI s l _ _ av V aV ar) (λk e t h=>?_) (λ_ _ _ h=>h);obtain⟨rfl,rfl⟩:=h;exact⟨U,by rw[<-n (step s l)];simp,y8 (K _) _ _ U,U,by rw[X]⟩) s aB
 generalize (UN g.words.length 3 []).foldl step s=o at au al;have aW:XQ Y8 (W9++[some (L,0)]) (R s++[.loop L .ready #[p] a bd nt env]) [Ps L,.Ν (YC g P C)] (#[.func (.yield L) #[] #[]]++an):=by
  have aw:XQ Y8 W9 (R s) ([Ps L]++[.Ν (YC g P C)]) (#[.func (.yield L) #[] #[]]++an):=by
   refine XQ.append ⟨U,λi a v D E=>?_⟩ ⟨aK,aL⟩
   match i with
   | 0=>simp at D E;subst D;subst E;exact .fn #[] #[] rfl rfl (λi a v hi=>by simp at hi) (λi a v hi=>by simp at hi)
   | i+1=>simp at D
  exact⟨aw.1,λi a v aX X=>(aw.2 i a v aX X).later aq⟩
 refine au.2 Q mn x _ cs _ _ _ _ Y D aW ⟨λr σ' S B H v aY ax aZ F af=>?_,λ_ _ _ _ _ _ h=>h.elim⟩;obtain⟨rfl,rfl⟩:=aY;have ag:(R o++[Row.loop L .ready #[p] a bd nt env])[n0]?=some (.loop L .ready #[p] a bd nt env):=by rw[<-n o];simp
 obtain⟨bo,ay⟩:=Ue F ag;obtain⟨N,f,d,t,rfl,az,a',ba⟩:=F.row n0 _ bo ag ay;have a0:(R o++[Row.loop L .ready #[p] a bd nt env]).take n0=R o:=by rw[<-n o,List.take_left'];rfl
 obtain⟨c1,c2⟩:=F.close (h:=n0) (λid r A af=>by
  rw[YN (by rw[n];exact A)] at af;exact ak o r (ZH af))
 have a1:ZJ Y8 S W9 B (R s) (R o++[.loop L .ready #[p] a bd nt env]):=aq.trans aZ
 have ah:=ZJ.close F a1 (Nat.le_of_eq (n s));rw[a0] at c1 ah;have a2:¬δ.has (B.take n0) L:=λ⟨a3,a4⟩=>by
  obtain⟨id,A⟩:=TU a4;rw[RJ] at A;split at A
  .rename_i a5;have ai:id<(R o).length:=by rw[n];exact a5
   have a6:(R o++[Row.loop L .ready #[p] a bd nt env])[id]?=some (R o)[id]:=by rw[YN ai,Z4 ai]
   obtain⟨t',bb,bc,e⟩:=K o _ (Yq ai);exact F.inj id n0 _ _ L a3 N I a6 ag (by rw[e];trivial) trivial A ay
  .cases A
 have a7:=((ad.trans E).trans ax).trans c2;obtain⟨d1,d2⟩:=EG ((E.trans ax).trans c2) ao T;refine μ.s0 (b:={b with defers:=⟨.collected c,#[]⟩::b.defers}) (t:=t1) Y aj az Ω ?_;exact al _ _ _ c (a7.Zq aN ⟨_,az⟩) ah (c1.Zq a2) ab d1 (by simp[Υ.Zq,aP,d2]) (w.Zt.later ah)
end
abbrev Jn (a:List (Α)):Ρ:=[.cells 31 1 [.ms 1 a.length 0 a.length],.cells 22 1 (a.map (ζ J 1))]
def NF (g:ZZ) (P:List (List Z0)) (C:List (Α)) (a:List (Α)) (l:Α):List (Α):=if Uz g P C l=0 then a++[l] else a
def YQ (g:ZZ) (P:List (List Z0)) (C:List (Α)):List (Α):=(UN g.words.length 3 []).filter λl=>decide (Uz g P C l=0)
theorem oH (g:ZZ) (P:List (List Z0)) (C:List (Α)) (L a:List (Α)):L.foldl (NF g P C) a=a++L.filter λl=>decide (Uz g P C l=0):=by
 induction L generalizing a with
 | nil=>simp
 | cons l L b=>
  rw[List.foldl_cons,b,NF];by_cases h:Uz g P C l=0
  .rw[if_pos h,List.filter_cons_of_pos (by simpa using h)];simp
  .rw[if_neg h,List.filter_cons_of_neg (by simpa using h)]
theorem y6 (c:List (Α)):∀e∈c.map (ζ J 1),∀a∈e.cells,η 0 a:=λe d a b=>by
 obtain⟨l,_,rfl⟩:=Zh.1 d;simp[Ψ.cells] at b;subst b;simp
section
variable {g:ZZ} {P:List (List Z0)} {C:List (Α)}
theorem K4 (h:Mp g P C) (af:g.words.length<=5):Τ prog 34 [VX g P C] (Ya (YQ g P C)):=by
 refine⟨⟨_,func34,U,U⟩,λaC mn x c rest L ag N vs j O ah Q=>?_⟩;obtain rfl:ag=[]:=YZ.1 O.len;rw[T7 (body:=f34.body.getD .skip) func34 U];refine V.here (x:=x) (m:=0) (nt:=17) (S:=L) (B:=[]) (H:=N) (σ:=[]) (env:=entry 0 [VX g P C]) ?_ (XR.enter O ah (ZY _) Ω);refine V.YA j U ?_;simp only[f34,Option.getD_some];refine υ λE b=>?_;apply b;refine ZO ?_;refine ZG (A:=[3]) Ο λE b=>Δ ?_;apply b;refine W.DX 22 1 (i:=0) (r:=.cells 31 1 [.sl true 0 []]) (r':=.cells 31 1 [.ms 1 0 0 0]) U (TZ.last (M:=[])) [(1,.Ν (YC g P C)),(3,.π 0 1 0 0)] (λz o=>by
  simp at o;rcases o with rfl|rfl<;>exact .same _) ?_
 refine υ λE b=>?_;refine Τ.d (y9 g P C) (Δ ?_);apply b
 repeat apply Γ
 refine W.forget [(6,.fn (.func 83) [] [.Ν (YC g P C)]),(1,.Ν (YC g P C)),(3,.π 0 1 0 0)] Ω ?_;refine W.stop ?_;intro aD aE aF t1 T X;refine μ.y7 (R:=Jn) (n0:=2) (s:=[]) (sz:=List.length) (M:=2 ^ 20) (step:=NF g P C) (env:=[(1,.Ν (YC g P C)),(3,.π 0 1 0 0)]) (env1:=λ_ l=>[(4,ζ J 1 l),(1,.Ν (YC g P C)),(3,.π 0 1 0 0)])
  (λs l=>by unfold NF;split<;>simp) ?_ j U U (λ_=>rfl) (λs r f=>?_) (λs r f=>?_) (λi=>?_) h.XM Z7 U X Ω (λs l Y F o Z ai aj=>?_) (λs l Y F o Z ai aj=>?_) (λS B H F ak al v am an f w=>?_)
 .generalize g.words.length=n at af ⊢;have:n=0\/n=1\/n=2\/n=3\/n=4\/n=5:=I;rcases this with rfl|rfl|rfl|rfl|rfl|rfl<;>decide
 .simp only[Yd,Vw,or_false] at f;rcases f with rfl|rfl<;>exact⟨_,_,_,rfl⟩
 .simp only[Yd,Vw,or_false] at f;rcases f with rfl|rfl
  .simp[YR,Ψ.cells,SB]
  .exact λe ao a ap=>(y6 s e ao a ap).mono (Ζ _)
 .simp only[ι];split
  .simp
  split
  .simp[TF]
  .exact .Zx
 .refine Φ ?_;exact W.stop ⟨U,U,Ω⟩
 .refine Φ ?_;refine υ λE b=>?_;refine Τ.d (DF g P C h l Z) (Δ ?_);apply b;have aq:s.length<4294967295:=I;by_cases D:Uz g P C l=0
  .refine Ι (by simp[D]) ?_
   repeat apply Γ
   have e:NF g P C s l=s++[l]:=by unfold NF;rw[if_pos D]
   rw[e];refine W.S4 (A:=[15]) Ο [] (Jn (s++[l])++[Y,F]) ?_ (by
    (try simp);(repeat (rw[Η];simp));(try simp);exact RG aq)
   refine Φ ?_;exact W.stop ⟨U,U⟩
  .refine Κ (by simp[D]) ?_;refine Φ ?_;have e:NF g P C s l=s:=by unfold NF;rw[if_neg D]
   rw[e];exact W.stop ⟨U,U⟩
 .rw[oH,List.nil_append] at al v w;change Holds S B (Jn (YQ g P C)) H at v;change Zg S B (Jn (YQ g P C)) _ _ at w;generalize YQ g P C=k at v w Q;have ar:Ext L [] N S B H:=T.ext.trans ak;refine V.here (m:=0) (nt:=17) (S:=S) (B:=B) (σ:=Jn k) (env:=[(3,.π 0 1 0 0)]) ?_ ⟨v,RZ w Ω,X.size,Ζ _⟩;refine V.YA j U ?_;refine Φ ?_;refine W.cut 0 (Ζ _) [(2,Ya k)] (Ζ _) (λid r h=>I) (λp au=>?_) ?_
  .obtain rfl:p=(2,Ya k):=by simpa using au
   exact Y0.own (id:=1) (t:=22) (Ζ _) U Ω (y6 k)
  refine W.stop ?_;intro aG av aH t5 aa K;obtain rfl:av=[]:=YZ.1 K.holds.len;obtain⟨aw,ab⟩:=EG aa.ext an f;refine μ.ret j U U (μ.collected j U U ab ?_);refine μ.back j U U (.inl U) func34 ?_;refine Χ.mono (λu ax ⟨ay,az,aA,aI,ad,aB⟩=>?_) (λ_ _ h=>h) _ (MQ Ο (a:=Ya k) U (K.holds.Zq (y:=.deferred none) aw) K.Zt);obtain rfl:az=[]:=YZ.1 ad.len;have ae:=((ar.trans aa.ext).Zq (T.ext.grow _ am) (y:=.deferred none) ⟨_,ab⟩).trans aA;exact Q.ret _ [] ay [] ax u ⟨.refl _,U⟩ ae ⟨ae.Zf,λid r h=>by simp at h⟩ ad aB
end
structure UM (g:ZZ) (a:Int) (P:List (List Z0)) (C:List (Α)):Prop where
 check:Τ prog 13 [YT g] (J a)
 Mo:a=0->Τ prog 32 [YT g] (VX g P C)
 work:a=0->Mp g P C
 XM:a=0->g.words.length<=5
 iI:g.words.length<2 ^ 40
def Mn (g:ZZ) (n:Int):Bool:=decide (n<0)||decide (n>=g.words.length)
def UL (g:ZZ) (a:Int) (f:Α):Int:=if a≠0 then a else if 3<f.length then 6 else if f.any (Mn g) then 3 else 0
theorem y5 {g:ZZ} {b:Int} {f:Α} (h:UL g b f=0):b=0/\Wa g f:=by
 unfold UL at h;split at h
 .rename_i a;exact absurd h a
 rename_i d;split at h
 .cases h
 split at h
 .cases h
 rename_i e c;refine⟨by simpa using d,I,λn a=>?_⟩;rw[Bool.not_eq_true,KL] at c;have:=c n a;simp[Mn] at this;omega
section
variable {g:ZZ} {θ:Int} {P:List (List Z0)} {C:List (Α)}
theorem oG (n:Int):Τ prog 71 [J n,.Ν (Y5 g)] (ZV (Mn g n)):=by
 refine Μ.body Ο func71 U U ntmps71 U U Ω ?_;refine Φ ?_;by_cases h:n<0
 .refine Ze h λb a=>?_;apply a;refine Φ ?_;refine W.ret ⟨_,U,?_,U⟩;exact .of (by simp[Mn,h])
 .refine Ze h λb a=>?_;apply a;refine Φ ?_;refine W.ret ⟨_,U,?_,U⟩;exact .of (by simp[Mn,h])
theorem y4 (j:UM g θ P C) (f:Α) (l:f.length<2 ^ 40):Τ prog 31 [YT g,ζ J 1 f] (J (UL g θ f)):=by
 refine Μ.body Ο func31 U U ntmps31 U U Ω ?_;refine Φ ?_;refine υ λk b=>?_;refine Τ.d (j.check) (Δ ?_);apply b;refine Φ ?_;by_cases a:θ=0
 case neg=>
  refine Ι (by simp[a]) ?_;refine Φ ?_;have e:UL g θ f=θ:=by unfold UL;rw[if_pos a]
  rw[e];refine W.rt ?_;exact .of U
 refine Κ (by simp[a]) ?_;refine Φ ?_;by_cases h:3<f.length
 .refine Ι (by simp;omega) ?_;refine Φ ?_;have e:UL g θ f=6:=by unfold UL;rw[if_neg (by simpa using a),if_pos h]
  rw[e];refine W.rt ?_;exact .of U
 refine Κ (by simp;omega) ?_;refine υ λk b=>?_;refine Τ.c (tT f (.fn (.func 71) [] [.Ν (Y5 g)]) (Mn g) I Ω λn _=>?_) (Zw.refl _) Ω Ω ?_
 .exact N1.u4 (first:=[]) (args:=[J n]) (captured:=[.Ν (Y5 g)]) ((oG n).ct (Zw.refl _)) Ω Ω
 simp;(repeat (rw[Η];simp));apply b;cases i:f.any (Mn g)
 .refine Κ U ?_;refine Φ ?_;have e:UL g θ f=0:=by unfold UL;rw[if_neg (by simpa using a),if_neg h,i];rfl
  rw[e];refine W.rt ?_;exact .of U
 .refine Ι U ?_;refine Φ ?_;have e:UL g θ f=3:=by unfold UL;rw[if_neg (by simpa using a),if_neg h,i];rfl
  rw[e];refine W.rt ?_;exact .of U
def RO (g:ZZ) (θ:Int) (P:List (List Z0)) (C:List (Α)) (f:Α):Int×Int:=if UL g θ f=0 then(Uz g P C f,0) else(0,UL g θ f)
theorem Gd (b:UM g θ P C) (f:Α) (i:f.length<2 ^ 40):Τ prog 7 [YT g,ζ J 1 f] (.ε [J (RO g θ P C f).1,J (RO g θ P C f).2]):=by
 refine Μ.body Ο func7 U U ntmps7 U U Ω ?_;refine Φ ?_;refine υ λj c=>?_;refine Τ.d (y4 b f i) (Δ ?_);apply c;refine Φ ?_;by_cases a:UL g θ f=0
 case neg=>
  refine Ι (by simp[a]) ?_;refine Φ ?_;have e:RO g θ P C f=(0,UL g θ f):=by unfold RO;rw[if_neg a]
  rw[e];refine W.rt ?_;exact .of U
 refine Κ (by simp[a]) ?_;obtain⟨h,k⟩:=y5 a;have e:RO g θ P C f=(Uz g P C f,0):=by unfold RO;rw[if_pos a]
 rw[e];refine υ λj c=>?_;refine Τ.d (b.Mo h) (Δ ?_);refine Τ.d (DF g P C (b.work h) f k) (Δ ?_);apply c;refine Φ ?_;refine W.rt ?_;exact .of U
def Wp (g:ZZ) (θ:Int) (P:List (List Z0)) (C:List (Α)):List (Α):=if θ=0 then YQ g P C else []
theorem DD (a:UM g θ P C):Τ prog 8 [YT g] (.ε [Ya (Wp g θ P C),J θ]):=by
 refine Μ.body Ο func8 U U ntmps8 U U Ω ?_;refine Φ ?_;refine υ λf c=>?_;refine Τ.d (a.check) (Δ ?_);apply c;refine Φ ?_;by_cases b:θ=0
 case neg=>
  refine Ι (by simp[b]) ?_;refine Φ ?_;have e:Wp g θ P C=[]:=by unfold Wp;rw[if_neg b]
  rw[e];exact W.ret ⟨_,U,.ε (.cons .nil (.cons (.refl _) .nil)),U⟩
 refine Κ (by simp[b]) ?_;subst b;refine υ λf c=>?_;refine Τ.d (a.Mo U) (Δ ?_);refine Τ.d (K4 (a.work U) (a.XM U)) (Δ ?_);apply c;refine Φ ?_;refine W.rt ?_;exact .of U
end
end Go.TL
namespace Go.TL
open Go.Proofs.Tryz
open Go.Proofs
variable [Z1]
theorem y3 (σ L:Ρ) (k:Nat):(σ++L)[σ.length+k]?=L[k]?:=by rw[Xz I];congr 1;omega
theorem oF (σ L:Ρ):(σ++L)[σ.length]?=L[0]?:=y3 σ L 0
theorem y2 (σ L:Ρ) (k:Nat) (x:Row):(σ++L).set (σ.length+k) x=σ++L.set k x:=by rw[List.set_append_right _ _ I];congr 2;omega
theorem oE (σ L:Ρ) (x:Row):(σ++L).set σ.length x=σ++L.set 0 x:=y2 σ L 0 x
abbrev TY:ByteArray:=⟨#[107,105,110,103]⟩
abbrev Qm:ByteArray:=⟨#[115,97,119]⟩
abbrev Ql:ByteArray:=⟨#[116,104,101]⟩
abbrev Wo:ByteArray:=⟨#[111,120]⟩
abbrev Ui:ByteArray:=⟨#[97]⟩
abbrev Pr:ByteArray:=⟨#[114,101,100]⟩
abbrev Ow:ByteArray:=⟨#[113,117,101,101,110]⟩
abbrev Ov:List ByteArray:=[TY,Qm,Ql,Wo,TY,Ui,Pr,Wo]
abbrev Mm:List VA:=[⟨Ui,2,3⟩,⟨⟨#[100]⟩,3,3⟩,⟨⟨#[101]⟩,2,2⟩,⟨⟨#[104]⟩,3,3⟩,⟨⟨#[114]⟩,2,2⟩,⟨⟨#[115]⟩,2,2⟩,⟨⟨#[116]⟩,2,2⟩,⟨⟨#[119]⟩,4,4⟩]
def Xc (c:List XC):ZZ:=⟨[Ov,[Ow,Wo]],TY,Wo,[Ui,Pr,Qm,Ql],Mm,1,2,16,18,⟨[⟨Ui,4⟩,⟨⟨#[115]⟩,9⟩],[[2]],[c]⟩,false⟩
def Y1:ZZ:=Xc []
def Uy:ZZ:=Xc [⟨0,9,0⟩]
theorem W6 (s:ByteArray) (lo hi:Int):Τ prog 38 [ZP s,J lo,J hi] (Uo ⟨s,lo,hi⟩):=by
 refine Μ.body Ο func38 U U ntmps38 U U Ω ?_
 repeat apply Γ
 refine ZG (A:=[6]) Ο λb a=>Δ ?_;apply a;refine υ λb a=>?_;apply a;refine W.fix (id:=0) (σ':=[]) (Ζ _) U Ω Ω U [(6,.Ν [ZP s,J lo,J hi])] Ω ?_;exact W.NW
abbrev ND (c:Ψ):ψ:=[.sl true 1 [.sl true 1 (Ov.map ZP),.sl true 1 [ZP Ow,ZP Wo]],ZP TY,ZP Wo,.sl true 1 [ZP Ui,ZP Pr,ZP Qm,ZP Ql],.sl true 3 (Mm.map Uo),J 1,J 2,J 16,J 18,.sl true 2 [R5 ⟨Ui,4⟩,R5 ⟨⟨#[115]⟩,9⟩],.sl true 1 [.sl true 1 [J 2]],c,ZV false]
theorem DC:Τ prog 12 [] (YT Y1):=by
 refine Μ.body Ο func12 U U ntmps12 U U Ω ?_
 repeat apply Γ
 refine ZG (A:=[0]) Ο λb a=>Δ ?_;apply a;refine υ λb a=>?_;refine Τ.d (W6 _ _ _) (Δ ?_);refine Τ.d (W6 _ _ _) (Δ ?_);refine Τ.d (W6 _ _ _) (Δ ?_);refine Τ.d (W6 _ _ _) (Δ ?_);refine Τ.d (W6 _ _ _) (Δ ?_);refine Τ.d (W6 _ _ _) (Δ ?_);refine Τ.d (W6 _ _ _) (Δ ?_);refine Τ.d (W6 _ _ _) (Δ ?_);apply a;refine W.fix (id:=0) (σ':=[]) (Ζ _) U Ω Ω U [(0,.Ν (ND (.sl true 1 [.sl true 0 []])))] Ω ?_;refine W.rt ?_;refine .Z6 (.cons ?_ (.cons (.refl _) (.cons (.refl _) (.cons .ex (.cons .ex (.cons (.refl _) (.cons (.refl _) (.cons (.refl _) (.cons (.refl _) (.cons .ex (.cons ?_ (.cons ?_ (.cons (.refl _) .nil)))))))))))))
 .exact .map (l:=Y1.ZT) (f:=λl:List ByteArray=>.sl true 1 (l.map ZP)) λx _=>.one .ex U U
 .exact .map (l:=[[2]]) (f:=T6) λx _=>.one .ex U U
 .exact .map (l:=[([]:List XC)]) (f:=λ_=>.sl true 0 []) λx c=>by
   obtain rfl:x=[]:=by simpa using c
   exact .one .nil U U
theorem oD (σ:Ρ):Μ prog 12 [] σ (λa s=>a=.Z6 (ND (.ms (σ.length+1) 1 0 1))/\s=σ++[.dead,.cells 103 1 [.sl true 0 []]]) (λ_ _=>False):=by
 obtain⟨n,f⟩:=Z' σ.length;have g:=y3 σ;have c:=oF σ;have i:=y2 σ;have l:=oE σ;rw[<-f] at g c i l ⊢;refine Μ.body Ο func12 U U ntmps12 U U Ω ?_
 repeat apply Γ
 refine ZG (A:=[0]) Ο λu o=>?_;simp;(repeat (rw[Η];simp[f.symm]));apply o
 repeat apply Γ
 refine W.S4 (A:=[22]) Ο [(0,.π n 1 0 0)] (σ++[.cells 36 13 [.Z6 (ND (.ms (n+1) 1 0 1))],.cells 103 1 [.sl true 0 []]]) ?_ (by
  simp;(repeat (rw[Η];simp[f.symm,g,c,i,l]));refine Τ.d (W6 _ _ _) (Δ ?_);refine Τ.d (W6 _ _ _) (Δ ?_);refine Τ.d (W6 _ _ _) (Δ ?_);refine Τ.d (W6 _ _ _) (Δ ?_);refine Τ.d (W6 _ _ _) (Δ ?_);refine Τ.d (W6 _ _ _) (Δ ?_);refine Τ.d (W6 _ _ _) (Δ ?_);refine Τ.d (W6 _ _ _) ?_;simp;(repeat (rw[Η];simp[f.symm,g,c,i,l])))
 refine W.DY (σ':=σ++[.dead,.cells 103 1 [.sl true 0 []]]) (id:=n) I (by rw[c];rfl) Ω (by rw[c];rfl) (λj r t b=>⟨r,?_,.inl U⟩) [(0,.Ν (ND (.ms (n+1) 1 0 1)))] (λp m=>by simp at m;subst m;exact .π (e:=.Z6 (ND (.ms (n+1) 1 0 1))) U) ?_
 .by_cases e:j<n
  .rw[YN I] at b ⊢;exact b
  .obtain⟨k,rfl⟩:∃k,j=n+k:=⟨j-n,I⟩;rw[g] at b ⊢
   match k,t,b with
   | 0,h,_=>exact absurd rfl h
   | k+1,_,b=>exact b
 exact W.ret ⟨_,U,U,U⟩
theorem oC {σ:Ρ} {K E:Ψ->Ρ->Prop} (b:K (.Z6 (ND (.ms (σ.length+1) 1 0 1))) (σ++[.dead,.cells 103 1 [.sl true 0 []]])):Yg prog (.fn (.func 12) [] []) [] σ K E:=
 Μ.call (first:=[]) (captured:=[]) ((oD σ).mono (λa r ⟨c,d⟩=>by rw[c,d];exact b) (λa s h=>h.elim))
theorem y1:Τ prog 17 [] (YT Uy):=by
 refine Μ.body Ο func17 U U ntmps17 U U Ω ?_
 repeat apply Γ
 refine ZG (A:=[0]) Ο λe d=>Δ ?_;apply d
 repeat apply Γ
 refine ZO ?_;refine ZG (A:=[1]) Ο λe d=>Δ ?_;refine oC ?_;simp;(repeat (rw[Η];simp));apply d;refine υ λe d=>?_;apply d;refine υ λe d=>?_;apply d;refine W.cut 0 (Ζ _) [(0,.Ν (ND (.sl false 1 [.sl true 3 [R4 ⟨0,9,0⟩]])))] (Ζ _) (λid r h=>I) (λp g=>?_) ?_
 .obtain rfl:=Ol.1 g;refine Y0.struct (Ζ _) U U (λx a a' b c=>?_)
  match x,b,c with
  | 11,b,c=>
   cases b;cases c;exact Y0.own (id:=2) (t:=103) (Ζ _) U U (by simp[Ψ.cells])
  | 0,b,c|1,b,c|2,b,c|3,b,c|4,b,c|5,b,c|6,b,c|7,b,c|8,b,c|9,b,c|10,b,c|12,b,c=>
   cases b;cases c;exact .low Ω
 refine W.rt ?_;refine .Z6 (.cons ?_ (.cons (.refl _) (.cons (.refl _) (.cons .ex (.cons .ex (.cons (.refl _) (.cons (.refl _) (.cons (.refl _) (.cons (.refl _) (.cons .ex (.cons ?_ (.cons ?_ (.cons (.refl _) .nil)))))))))))))
 .exact .map (l:=Uy.ZT) (f:=λl:List ByteArray=>.sl true 1 (l.map ZP)) λx _=>.one .ex U U
 .exact .map (l:=[[2]]) (f:=T6) λx _=>.one .ex U U
 .exact .map (l:=[([⟨0,9,0⟩]:List XC)]) (f:=λl:List XC=>.sl true 3 (l.map R4)) λx _=>.one .ex U U
end Go.TL
