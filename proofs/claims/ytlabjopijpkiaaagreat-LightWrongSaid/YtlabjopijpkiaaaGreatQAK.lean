import Derived.Test.YtlabjopijpkiaaaGreatQAJ
set_option maxHeartbeats 16000000
set_option maxRecDepth 20000
set_option linter.unusedSectionVars false
set_option linter.unusedSimpArgs false
set_option linter.unusedVariables false
namespace Go.TL
open Go.Conc
variable [bn]
def Ac (ops:Array Oper) (o:Oper):List Tmp:=
 (o.op.operands.toList.filterMap fun|.tmp t=>some t|_=>none)++(match o.guard with|some (g,_)=>((ops[g]?).bind (·.dst)).toList|none=>[])
def hc (o:Oper):List Nat:=(o.after.toList.filter (Region.binds .any)).map (·.on)
def Ad:List Oper->List (List Nat)->List (List Nat)
 | [],acc=>acc
 | o::os,acc=>Ad os (acc++[hc o++(hc o).flatMap λj=>acc.getD j []])
def DN (ops:Array Oper):List (List Nat):=Ad ops.toList []
def mr (o:Oper):Bool:=match o.op with
 | .load _ _=>true
 | .indexAddr _ _ _=>true
 | .fieldAddr _ _ _=>true
 | .nilCheck _=>true
 | _=>false
def clash (ops:Array Oper) (tags:List Bool) (i j:Nat) (nh bV:Oper):Bool:=
 (match bV.dst with|some d=>(Ac ops nh).contains d||nh.dst==some d|none=>false)||(match nh.dst with|some d=>(Ac ops bV).contains d|none=>false)||(tags.getD i false&&tags.getD j false&&!(mr nh&&mr bV))
def kN (ops:Array Oper) (tags:List Bool):Bool:=
 let b:=DN ops
 (List.range ops.size).all λi=>match ops[i]? with
  | none=>false
  | some nh=>(hc nh).all (λj=>decide (j<i))&&(List.range i).all λj=>match ops[j]? with
   | none=>false
   | some bV=>!clash ops tags i j nh bV||(b.getD i []).contains j
section
variable {P:Program} {T:bd} {A:List Nat} {m nt:Nat} {k:List Item} {env:Ω} {σ:List Row} {Z:List Item->Ω->List Row->Prop} {E:θ->Ω->List Row->Prop} {ops:Array Oper}
theorem W.congr {env':Ω} (h:∀i,a5 env' i=a5 env i) (hW:W P m nt k env σ Z E):W P m nt k env' σ Z E:=
 λQ mn x cs b S B H t U hb ω Η he=>hW Q mn x cs b S B H t U hb ⟨ω.holds,λi=>by rw[<-h i];exact ω.b6 i,ω.size,ω.rows⟩ Η he
theorem Nb (tF:Region.Mode):∀(fuel t:Nat) (listed:Array Bool) (i:Nat),Region.linearise.go tF ops fuel t listed [i]=i::Region.linearise.go tF ops fuel t listed []:=by
 have gen:∀(fuel t:Nat) (listed:Array Bool) (acc:List Nat),Region.linearise.go tF ops fuel t listed acc=acc.reverse++Region.linearise.go tF ops fuel t listed []:=by
  intro fuel
  induction fuel with
  | zero=>intro t listed acc;simp[Region.linearise.go]
  | succ fuel Δ=>
   intro t listed acc;simp only[Region.linearise.go];split
   ·rename_i i _;rw[Δ _ _ (i::acc),Δ _ _ [i]];simp
   ·simp
 intro fuel t listed i;rw[gen];rfl
theorem DO (su:∀i o,ops[i]?=some o->∀j∈hc o,j<i) (D:Nat->Prop) (dL:∀i o,ops[i]?=some o->D i->∀j∈hc o,D j) :
  ∀(i:Nat) (o:Oper),ops[i]?=some o->(∀j∈hc o,D j)->∀j∈(DN ops).getD i [],D j:=by
 have key:∀(os:List Oper) (acc:List (List Nat)),(∀x,os[x]?=ops[acc.length+x]?)->(∀i o,i<acc.length->ops[i]?=some o->(∀j∈hc o,D j)->∀j∈acc.getD i [],D j)->
   ∀i o,i<acc.length+os.length->ops[i]?=some o->(∀j∈hc o,D j)->∀j∈(Ad os acc).getD i [],D j:=by
  intro os
  induction os with
  | nil=>intro acc _ h i o hi;exact h i o (by simpa using hi)
  | cons q os Δ=>
   intro acc DQ h i o hi Γ he;have Χ:ops[acc.length]?=some q:=by have:=DQ 0;simpa using this.symm
   refine Δ (acc++[hc q++(hc q).flatMap λj=>acc.getD j []]) (λx=>?_) (λi o hi Γ he=>?_) i o (by simp at hi ⊢;omega) Γ he
   ·have:=DQ (x+1);simp only[List.getElem?_cons_succ] at this;rw[this];simp;congr 1;omega
   ·by_cases aH:i<acc.length
    ·rw[List.getD_eq_getElem?_getD,ea aH,<-List.getD_eq_getElem?_getD];exact h i o aH Γ he
    ·have a9:i=acc.length:=by simp at hi;omega
     subst a9;rw[Χ] at Γ;cases Γ;rw[List.getD_eq_getElem?_getD,hE (Nat.le_refl _)];simp only[Nat.sub_self,List.getElem?_cons_zero,Option.getD_some,List.mem_append,List.mem_flatMap];rintro j (ε|⟨y,Ο,ε⟩)
     ·exact he j ε
     ·have VO:=su _ _ Χ y Ο
      have VP:y<ops.size:=by have:=(Array.getElem?_eq_some_iff.1 Χ).1;omega
      have Nc:ops[y]?=some ops[y]:=e9 VP;exact h y _ VO Nc (dL y _ Nc (he y Ο)) j ε
 intro i o Γ he;exact key ops.toList [] (λx=>by simp) (λi o hi=>by simp at hi) i o (by have:=(Array.getElem?_eq_some_iff.1 Γ).1;simpa using this) Γ he
def oP (ops:Array Oper) (o:Oper) (env env':Ω):Prop:=∀t∈Ac ops o,a5 env' t=a5 env t
def x3 (P:Program) (m nt:Nat) (k:List Item) (Z:List Item->Ω->List Row->Prop) (E:θ->Ω->List Row->Prop) (ops:Array Oper) (i:Nat) (o:Oper) (env:Ω) (a:θ):Prop:=
 ∀env' σ' rest,oP ops o env env'->W P m nt (.inRegion ops rest::k) (ca o env' a) σ' Z E->W P m nt (.inRegion ops (i::rest)::k) env' σ' Z E
def HJ (P:Program) (m nt:Nat) (k:List Item) (Z:List Item->Ω->List Row->Prop) (E:θ->Ω->List Row->Prop) (ops:Array Oper) (i:Nat) (o:Oper) (env:Ω) (σ:List Row) (a:θ) (gA:List Row):Prop:=
 ∀env' rest,oP ops o env env'->W P m nt (.inRegion ops rest::k) (ca o env' a) gA Z E->W P m nt (.inRegion ops (i::rest)::k) env' σ Z E
def da (ops:Array Oper) (env0:Ω) (as9:Nat->θ) (D:Nat->Bool):Nat->Ω
 | 0=>env0
 | n+1=>if D n then(match ops[n]? with|some o=>ca o (da ops env0 as9 D n) (as9 n)|none=>da ops env0 as9 D n) else da ops env0 as9 D n
theorem vQ {o:Oper} {env:Ω} {a:θ} {t:Nat}:a5 (ca o env a) t=if o.dst=some t then a else a5 env t:=by
 unfold ca;cases hd:o.dst with
 | none=>simp
 | some d=>simp[a5]
theorem x4 {env0:Ω} {as9:Nat->θ} {D Ae:Nat->Bool} {t:Nat}:∀(n:Nat),(∀i o,i<n->ops[i]?=some o->o.dst=some t->D i=Ae i)->a5 (da ops env0 as9 D n) t=a5 (da ops env0 as9 Ae n) t:=by
 intro n
 induction n with
 | zero=>intro _;rfl
 | succ n Δ=>
  intro h;have vR:=Δ λi o hi=>h i o (by omega);simp only[da];cases Γ:ops[n]? with
  | none=>cases D n<;>cases Ae n<;>simpa using vR
  | some o=>
   by_cases hd:o.dst=some t
   ·rw[h n o (Nat.lt_succ_self n) Γ hd];cases Ae n
    ·simpa using vR
    ·simp[vQ,hd]
   ·cases D n<;>cases Ae n<;>simp[vQ,hd,vR]
theorem DR {env0:Ω} {as9:Nat->θ} {D:Nat->Bool} {t:Nat} {n N:Nat} (Ι:n<=N) (h:∀i o,n<=i->i<N->ops[i]?=some o->o.dst=some t->D i=false):a5 (da ops env0 as9 D N) t=a5 (da ops env0 as9 D n) t:=by
 induction N with
 | zero=>have:n=0:=by omega
         subst this;rfl
 | succ N Δ=>
  by_cases e:n=N+1
  ·subst e;rfl
  ·have vR:=Δ (by omega) λi o J γ=>h i o J (by omega);simp only[da];cases dL:D N
   ·simpa using vR
   ·cases Γ:ops[N]? with
    | none=>simpa using vR
    | some o=>
     have hd:o.dst≠some t:=λhd=>by rw[h N o (by omega) (Nat.lt_succ_self N) Γ hd] at dL;cases dL
     simp[vQ,hd,vR]
def writer (ops:Array Oper) (tags:List Bool) (i:Nat):Bool:=tags.getD i false&&match ops[i]? with|some o=>!mr o|none=>true
theorem W.VQ {as9:Nat->θ} {σs:Nat->List Row} {tags:List Bool} {env0:Ω} (dO:kN ops tags=true)
  (dF:∀i o,ops[i]?=some o->tags.getD i false=false->x3 P m nt k Z E ops i o (da ops env0 as9 (λ_=>true) i) (as9 i)/\σs (i+1)=σs i)
  (gi:∀i o,ops[i]?=some o->tags.getD i false=true->HJ P m nt k Z E ops i o (da ops env0 as9 (λ_=>true) i) (σs i) (as9 i) (σs (i+1))/\(mr o=true->σs (i+1)=σs i))
  (HK:W P m nt (.inRegion ops []::k) (da ops env0 as9 (λ_=>true) ops.size) (σs ops.size) Z E) :
  ∀(fuel:Nat) (t:Nat) (listed:Array Bool) (env:Ω) (cM:Nat),listed.size=ops.size->
   (∀i,a5 env i=a5 (da ops env0 as9 (λi=>listed.getD i false) ops.size) i)->
   (∀i o,ops[i]?=some o->listed.getD i false=true->∀j∈hc o,listed.getD j false=true)->
   cM<=ops.size->(∀j,j<ops.size->writer ops tags j=true->(listed.getD j false=true↔j<cM))->
   ((List.range ops.size).filter λi=>!listed.getD i false).length<=fuel->
   W P m nt (.inRegion ops (Region.linearise.go .any ops fuel t listed [])::k) env (σs cM) Z E:=by
 have vS:∀i o,ops[i]?=some o->(∀j∈hc o,j<i)/\∀j bV,j<i->ops[j]?=some bV->clash ops tags i j o bV=true->j∈(DN ops).getD i []:=by
  intro i o Γ;have hi:i<ops.size:=(Array.getElem?_eq_some_iff.1 Γ).1;unfold kN at dO;simp only[List.all_eq_true,List.mem_range] at dO;have h:=dO i hi;rw[Γ] at h;simp only[Bool.and_eq_true,List.all_eq_true,decide_eq_true_eq,List.mem_range] at h;refine⟨h.1,λj bV ε dv ζ=>?_⟩;have γ:=h.2 j ε;rw[dv] at γ;simp only[ζ,Bool.not_true,Bool.false_or,List.contains_iff_mem] at γ;exact γ
 have su:∀i o,ops[i]?=some o->∀j∈hc o,j<i:=λi o Γ=>(vS i o Γ).1
 have DS:∀i o,ops[i]?=some o->writer ops tags i=false->σs (i+1)=σs i:=λi o Γ hw=>by
  cases Ξ:tags.getD i false with
  | false=>exact(dF i o Γ Ξ).2
  | true=>
   refine(gi i o Γ Ξ).2 ?_;unfold writer at hw;rw[Ξ,Γ] at hw;simpa using hw
 have Af:∀(d a:Nat),a+d<=ops.size->(∀j,a<=j->j<a+d->writer ops tags j=false)->σs (a+d)=σs a:=by
  intro d
  induction d with
  | zero=>intro a _ _;rfl
  | succ d Δ=>
   intro a hle h;have J:ops[a+d]?=some ops[a+d]:=e9 (by omega);have:=DS (a+d) _ J (h (a+d) (by omega) (by omega));rw[show a+(d+1)=a+d+1 by omega,this];exact Δ a (by omega) λj J γ=>h j J (by omega)
 have Nd:∀a b,a<=ops.size->b<=ops.size->(∀j,j<ops.size->writer ops tags j=true->(j<a↔j<b))->σs a=σs b:=λa b ν hb h=>by
  rcases Nat.le_total a b with hle|hle
  ·have:=Af (b-a) a (by omega) λj J γ=>by
    cases Ξ:writer ops tags j with
    | false=>rfl
    | true=>have:=(h j (by omega) Ξ).2 (by omega);omega
   rw[show a+(b-a)=b by omega] at this;exact this.symm
  ·have:=Af (a-b) b (by omega) λj J γ=>by
    cases Ξ:writer ops tags j with
    | false=>rfl
    | true=>have:=(h j (by omega) Ξ).1 (by omega);omega
   rw[show b+(a-b)=a by omega] at this;exact this
 intro fuel;have done:∀(t:Nat) (listed:Array Bool) (env:Ω) (cM:Nat),(∀i,i<ops.size->listed.getD i false=true)->(∀i,a5 env i=a5 (da ops env0 as9 (λi=>listed.getD i false) ops.size) i)->cM<=ops.size->
   (∀j,j<ops.size->writer ops tags j=true->(listed.getD j false=true↔j<cM))->W P m nt (.inRegion ops []::k) env (σs cM) Z E:=λt listed env cM g1 cL iL ir=>by
  have Ε:σs cM=σs ops.size:=Nd cM ops.size iL (Nat.le_refl _) λj ε Ξ=>by rw[<-ir j ε Ξ];simp[g1 j ε,ε]
  rw[Ε];refine .congr (λi=>?_) HK;rw[cL i];exact x4 ops.size λi o hi _ _=>g1 i hi
 have HL:∀listed:Array Bool,listed.size=ops.size->(∃i,i<ops.size/\listed.getD i false=false)->∃i,i<ops.size/\listed.getD i false=false/\∀j,j<i->listed.getD j false=true:=λlisted cp ⟨i,hi,Α⟩=>by
  induction i using Nat.strongRecOn with
  | _ i Δ=>
   by_cases ε:∃j,j<i/\listed.getD j false=false
   ·obtain⟨j,J,γ⟩:=ε;exact Δ j J (by omega) γ
   ·exact⟨i,hi,Α,λj bp=>by
     cases h:listed.getD j false with
     | true=>rfl
     | false=>exact absurd ⟨j,bp,h⟩ ε⟩
 induction fuel with
 | zero=>
  intro t listed env cM cp cL bj iL ir HM;have g1:∀i,i<ops.size->listed.getD i false=true:=λi hi=>by
   cases h:listed.getD i false with
   | true=>rfl
   | false=>
    have pP:i∈(List.range ops.size).filter λi=>!listed.getD i false:=by rw[List.mem_filter];exact⟨List.mem_range.2 hi,by rw[h];rfl⟩
    have:((List.range ops.size).filter λi=>!listed.getD i false)=[]:=dp.1 (by omega);rw[this] at pP;simp at pP
  exact done t listed env cM g1 cL iL ir
 | succ fuel Δ=>
  intro t listed env cM cp cL bj iL ir HM;simp only[Region.linearise.go];generalize jU:((List.range ops.size).filter λi=>!listed.getD i true&&((ops[i]?).map (·.after.all λe=>!Region.binds .any e||listed.getD e.on false)).getD false)=rs;have Ag:∀i,i<ops.size->listed.getD i true=listed.getD i false:=λi hi=>by
   rw[Array.getD_eq_getD_getElem?,Array.getD_eq_getD_getElem?,e9 (by omega)];rfl
  have Ah:∀i,i∈rs↔i<ops.size/\listed.getD i false=false/\∀o,ops[i]?=some o->∀j∈hc o,listed.getD j false=true:=λi=>by
   rw[<-jU];simp only[List.mem_filter,List.mem_range,Bool.and_eq_true,Bool.not_eq_true'];constructor
   ·rintro⟨J,γ,π⟩;rw[Ag i J] at γ;refine⟨J,γ,λo Γ j ε=>?_⟩;rw[Γ] at π;simp only[Option.map_some,Option.getD_some,Array.all_eq_true'] at π;unfold hc at ε;simp only[List.mem_map,List.mem_filter] at ε;obtain⟨e,⟨q8,lF⟩,rfl⟩:=ε;have:=π e (by simpa using q8);simpa[lF] using this
   ·rintro⟨J,γ,π⟩;refine⟨J,by rw[Ag i J];exact γ,?_⟩;have Γ:ops[i]?=some ops[i]:=e9 J;rw[Γ];simp only[Option.map_some,Option.getD_some,Array.all_eq_true'];intro e he;by_cases hb:Region.binds .any e=true
    ·have:=π _ Γ e.on (by unfold hc;simp only[List.mem_map,List.mem_filter];exact⟨e,⟨by simpa using he,hb⟩,rfl⟩);simp[this]
    ·simp[hb]
  cases hi:rs[t % rs.length]? with
  | none=>
   simp only[List.reverse_nil];have zu:rs=[]:=by
    cases μ:rs with
    | nil=>rfl
    | cons x xs=>
     rw[μ] at hi;have aH:t % (x::xs).length<(x::xs).length:=Nat.mod_lt _ (by simp);rw[a2 aH] at hi;cases hi
   have g1:∀i,i<ops.size->listed.getD i false=true:=λi a9=>by
    cases h:listed.getD i false with
    | true=>rfl
    | false=>
     obtain⟨r,J,γ,π⟩:=HL listed cp ⟨i,a9,h⟩;have:r∈rs:=(Ah r).2 ⟨J,γ,λo Γ j ε=>π j (su r o Γ j ε)⟩;rw[zu] at this;simp at this
   exact done t listed env cM g1 cL iL ir
  | some i=>
   simp only;rw[Nb];have pP:i∈rs:=cv hi;obtain⟨J,γ,π⟩:=(Ah i).1 pP;have Γ:ops[i]?=some ops[i]:=e9 J;have HN:=DO su (λj=>listed.getD j false=true) (λj o ε Α=>bj j o ε Α) i _ Γ (π _ Γ);have low:∀j bV,j<i->ops[j]?=some bV->clash ops tags i j ops[i] bV=true->listed.getD j false=true:=λj bV ε dv ζ=>HN j ((vS i _ Γ).2 j bV ε dv ζ);have high:∀j bV,i<j->ops[j]?=some bV->clash ops tags j i bV ops[i]=true->listed.getD j false=false:=λj bV ε dv ζ=>by
    cases Α:listed.getD j false with
    | false=>rfl
    | true=>
     have:=DO su (λj=>listed.getD j false=true) (λj o ε Α=>bj j o ε Α) j bV dv (bj j bV dv Α) i ((vS j bV dv).2 i _ ε Γ ζ);rw[γ] at this;cases this
   have same:oP ops ops[i] (da ops env0 as9 (λ_=>true) i) env:=λx U=>by
    rw[cL x];have c1:a5 (da ops env0 as9 (λi=>listed.getD i false) ops.size) x=a5 (da ops env0 as9 (λi=>listed.getD i false) i) x:=DR (by omega) λj bV x5 HO dv hd=>by
     by_cases e:j=i
     ·subst e;exact γ
     ·refine high j bV (by omega) dv ?_;unfold clash;simp[hd,U]
    rw[c1];exact x4 i λj bV ε dv hd=>low j bV ε dv (by unfold clash;simp[hd,U])
   have m5:∀x,a5 (ca ops[i] env (as9 i)) x=a5 (da ops env0 as9 (λj=>(listed.setIfInBounds i true).getD j false) ops.size) x:=λx=>by
    have jY:∀j,(listed.setIfInBounds i true).getD j false=if j=i then true else listed.getD j false:=λj=>by
     rw[Array.getD_eq_getD_getElem?,Array.getD_eq_getD_getElem?];by_cases e:j=i
     ·subst e;rw[Array.getElem?_setIfInBounds_self_of_lt (by omega)];simp
     ·rw[Array.getElem?_setIfInBounds_ne (Ne.symm e),if_neg e]
    rw[vQ];by_cases hd:ops[i].dst=some x
    ·rw[if_pos hd];have c1:a5 (da ops env0 as9 (λj=>(listed.setIfInBounds i true).getD j false) ops.size) x=a5 (da ops env0 as9 (λj=>(listed.setIfInBounds i true).getD j false) (i+1)) x:=DR (by omega) λj bV x5 HO dv tW=>by
      rw[jY,if_neg (by omega)];refine high j bV (by omega) dv ?_;unfold clash;simp[hd,tW]
     rw[c1];simp only[da,jY,if_true,Γ,vQ,hd]
    ·rw[if_neg hd,cL x];exact x4 ops.size λj bV ε dv tW=>by
      rw[jY,if_neg];intro e;subst e;rw[Γ] at dv;cases dv;exact hd tW
   have jY:∀j,(listed.setIfInBounds i true).getD j false=if j=i then true else listed.getD j false:=λj=>by
    rw[Array.getD_eq_getD_getElem?,Array.getD_eq_getD_getElem?];by_cases e:j=i
    ·subst e;rw[Array.getElem?_setIfInBounds_self_of_lt (by omega)];simp
    ·rw[Array.getElem?_setIfInBounds_ne (Ne.symm e),if_neg e]
   have vT:((List.range ops.size).filter λj=>!(listed.setIfInBounds i true).getD j false).length<=fuel:=by
    have aH:((List.range ops.size).filter λj=>!(listed.setIfInBounds i true).getD j false).length<((List.range ops.size).filter λj=>!listed.getD j false).length:=by
     have:((List.range ops.size).filter λj=>!(listed.setIfInBounds i true).getD j false)=((List.range ops.size).filter λj=>!listed.getD j false).filter λj=>j != i:=by
      rw[List.filter_filter];apply List.filter_congr;intro j _;rw[jY];by_cases e:j=i
      ·subst e;simp
      ·simp[e]
     rw[this];have hm:i∈(List.range ops.size).filter λj=>!listed.getD j false:=by
      rw[List.mem_filter];exact⟨List.mem_range.2 J,by rw[γ];rfl⟩
     exact List.length_filter_lt_length_iff_exists.2 ⟨i,hm,by simp⟩
    omega
   have vU:∀j o,ops[j]?=some o->(listed.setIfInBounds i true).getD j false=true->∀y∈hc o,(listed.setIfInBounds i true).getD y false=true:=λj o ε Α y Ο=>by
    rw[jY] at Α ⊢;by_cases e:y=i
    ·rw[if_pos e]
    ·rw[if_neg e];by_cases Ζ:j=i
     ·subst Ζ;rw[Γ] at ε;cases ε;exact π _ Γ y Ο
     ·rw[if_neg Ζ] at Α;exact bj j o ε Α y Ο
   have Nf:∀j,writer ops tags j=true->tags.getD j false=true:=λj h=>by
    unfold writer at h;rw[Bool.and_eq_true] at h;exact h.1
   cases ni:tags.getD i false with
   | false=>
    refine(dF i _ Γ ni).1 env (σs cM) _ same ?_;refine Δ _ _ _ cM (by simpa using cp) m5 vU iL (λj ε Ξ=>?_) vT;rw[jY];have:j≠i:=λe=>by subst e;rw[Nf j Ξ] at ni;cases ni
    rw[if_neg this];exact ir j ε Ξ
   | true=>
    have Ng:∀j bV,ops[j]?=some bV->writer ops tags j=true->clash ops tags i j ops[i] bV=true/\clash ops tags j i bV ops[i]=true:=λj bV dv Ξ=>by
     have J:=Nf j Ξ;unfold writer at Ξ;rw[J,dv] at Ξ;have γ:mr bV=false:=by simpa using Ξ
     unfold clash;rw[J,ni,γ];simp
    have tr:∀j,j<ops.size->writer ops tags j=true->j<i->listed.getD j false=true:=λj ε Ξ vV=>low j _ vV (e9 ε) (Ng j _ (e9 ε) Ξ).1
    have Nh:∀j,j<ops.size->writer ops tags j=true->i<j->listed.getD j false=false:=λj ε Ξ vV=>high j _ vV (e9 ε) (Ng j _ (e9 ε) Ξ).2
    have HP:σs cM=σs i:=Nd cM i iL (by omega) λj ε Ξ=>by
     rw[<-ir j ε Ξ];constructor
     ·intro Α;apply Classical.byContradiction;intro Ι;by_cases e:j=i
      ·subst e;rw[γ] at Α;cases Α
      ·rw[Nh j ε Ξ (by omega)] at Α;cases Α
     ·exact tr j ε Ξ
    cases kO:writer ops tags i with
    | false=>
     have es:=DS i _ Γ kO
     have ο:=(gi i _ Γ ni).1;rw[es] at ο;rw[HP];refine ο env _ same ?_;rw[<-HP];refine Δ _ _ _ cM (by simpa using cp) m5 vU iL (λj ε Ξ=>?_) vT;rw[jY];have:j≠i:=λe=>by subst e;rw[Ξ] at kO;cases kO
     rw[if_neg this];exact ir j ε Ξ
    | true=>
     rw[HP];refine(gi i _ Γ ni).1 env _ same ?_;refine Δ _ _ _ (i+1) (by simpa using cp) m5 vU (by omega) (λj ε Ξ=>?_) vT;rw[jY];by_cases e:j=i
     ·subst e;simp
     ·rw[if_neg e];constructor
      ·intro Α;apply Classical.byContradiction;intro Ι;rw[Nh j ε Ξ (by omega)] at Α;cases Α
      ·intro aH;exact tr j ε Ξ (by omega)
def DT:List Oper->List Nat->List Nat
 | [],acc=>acc
 | o::os,acc=>DT os (acc++[(hc o).foldr (λj m=>(1 <<< j)|||acc.getD j 0|||m) 0])
def Ni (ops:Array Oper) (tags:List Bool):Bool:=
 let b:=DT ops.toList []
 (List.range ops.size).all λi=>match ops[i]? with
  | none=>false
  | some nh=>(hc nh).all (λj=>decide (j<i))&&(List.range i).all λj=>match ops[j]? with
   | none=>false
   | some bV=>!clash ops tags i j nh bV||(b.getD i 0).testBit j
def Nj (acc:List (List Nat)) (tX:List Nat):Prop:=acc.length=tX.length/\∀i j,(tX.getD i 0).testBit j=true↔j∈acc.getD i []
theorem VR:∀(os:List Oper) (acc:List (List Nat)) (tX:List Nat),Nj acc tX->Nj (Ad os acc) (DT os tX):=by
 intro os
 induction os with
 | nil=>intro acc tX h;exact h
 | cons o os Δ=>
  intro acc tX h;simp only[Ad,DT];refine Δ _ _ ⟨by simp[h.1],λi j=>?_⟩;have one:∀l:List Nat,(l.foldr (λj m=>(1 <<< j)|||tX.getD j 0|||m) 0).testBit j=true↔j∈l++l.flatMap λj=>acc.getD j []:=by
   intro l
   induction l with
   | nil=>simp
   | cons a l mi=>
    rw[List.foldr_cons,Nat.testBit_or,Nat.testBit_or,Nat.one_shiftLeft,Nat.testBit_two_pow];simp only[Bool.or_eq_true,decide_eq_true_eq,h.2 a j,mi,List.mem_append,List.mem_cons,List.flatMap_cons];constructor
    ·rintro((e|e)|e|e)
     ·exact .inl (.inl e.symm)
     ·exact .inr (.inl e)
     ·exact .inl (.inr e)
     ·exact .inr (.inr e)
    ·rintro((e|e)|e|e)
     ·exact .inl (.inl e.symm)
     ·exact .inr (.inl e)
     ·exact .inl (.inr e)
     ·exact .inr (.inr e)
  rw[List.getD_eq_getElem?_getD,List.getD_eq_getElem?_getD];by_cases hi:i<acc.length
  ·rw[ea hi,ea (by rw[<-h.1];exact hi),<-List.getD_eq_getElem?_getD,<-List.getD_eq_getElem?_getD];exact h.2 i j
  ·rw[hE (by have:=h.1;omega),hE (by omega),<-h.1];cases hd:i-acc.length with
   | zero=>simpa using one (hc o)
   | succ n=>simp
theorem bW {ops:Array Oper} {tags:List Bool} (h:Ni ops tags=true):kN ops tags=true:=by
 unfold Ni at h;unfold kN;have hb:=VR ops.toList [] [] ⟨rfl,λi j=>by simp⟩;simp only[List.all_eq_true] at h ⊢;intro i hi;have J:=h i hi;cases Γ:ops[i]? with
 | none=>rw[Γ] at J;exact J
 | some nh=>
  rw[Γ] at J;simp only[Bool.and_eq_true,List.all_eq_true] at J ⊢;refine⟨J.1,λj ε=>?_⟩;have γ:=J.2 j ε;cases dv:ops[j]? with
  | none=>rw[dv] at γ;exact γ
  | some bV=>
   rw[dv] at γ;simp only[Bool.or_eq_true] at γ ⊢;rcases γ with γ|γ
   ·exact .inl γ
   ·exact .inr (List.contains_iff_mem.2 ((hb.2 i j).1 γ))
end
section
variable {P:Program} {T:bd} {A:List Nat} {m nt:Nat} {k:List Item} {env env':Ω} {σ:List Row} {Z:List Item->Ω->List Row->Prop} {E:θ->Ω->List Row->Prop} {ops:Array Oper}
theorem DU {o:Oper} (h:oP ops o env env'):∀x,x∈o.op.operands.toList->aO env' x=aO env x:=λx U=>by
 cases x with
 | tmp t=>
  refine h t ?_;unfold Ac;simp only[List.mem_append,List.mem_filterMap];exact .inl ⟨.tmp t,U,rfl⟩
 | _=>rfl
theorem q9 {o:Oper} (h:oP ops o env env'):fA env' ops o=fA env ops o:=by
 unfold fA;cases Υ:o.guard with
 | none=>rfl
 | some x=>
  obtain⟨j,want⟩:=x;simp only;cases hd:(ops[j]?).bind (·.dst) with
  | none=>rfl
  | some d=>
   simp only;have:a5 env' d=a5 env d:=h d (by unfold Ac;rw[Υ];simp[hd]);rw[this]
theorem DV {cS:Array (Nat×Operand)} (h:∀p∈cS,aO env' p.2=aO env p.2):so env' cS=so env cS:=by
 unfold so;exact List.map_congr_left λp ω=>by rw[h p (by simpa using ω)]
theorem DW {c9:Array Operand} (h:∀x∈c9,aO env' x=aO env x):c9.toList.map (aO env')=c9.toList.map (aO env):=List.map_congr_left λx U=>h x (by simpa using U)
theorem DX {o:Option Operand} (h:∀x,o=some x->aO env' x=aO env x):o.map (aO env')=o.map (aO env):=by
 cases o with
 | none=>rfl
 | some x=>simp[h x rfl]
theorem DY {o:Oper} (ο:oP ops o env env'):mo T A env' o=mo T A env o:=by
 have h:=DU ο;obtain⟨dst,op,type,pos,after,guard⟩:=o;simp only at h;unfold mo;cases op<;>simp only<;>try rfl
 all_goals simp only[Op.operands,List.mem_cons,List.not_mem_nil,or_false,forall_eq_or_imp,forall_eq] at h
 case move x=>rw[h]
 case assign x=>rw[h]
 case pick c a b=>rw[h.1,h.2.1,h.2.2]
 case box ty x=>rw[h]
 case build ty cS=>rw[DV λp ω=>h p.2 (by simp only[List.mem_map];exact⟨p,by simpa using ω,rfl⟩)]
 case buildSlice ty n cS=>rw[DV λp ω=>h p.2 (by simp only[List.mem_map];exact⟨p,by simpa using ω,rfl⟩)]
 case load ty x=>rw[h]
 case binOp op a x y b=>rw[h.1,h.2]
 case unOp op a x=>rw[h]
 case convert a b x=>rw[h]
 case index ty x y=>rw[h.1,h.2]
 case nilCheck x=>rw[h]
 case sliceToArrayPointer ty x=>rw[h]
 case makeInterface a x=>rw[h]
 case makeFunc f c9 cs=>rw[DW λx U=>h x (by simp[U]),DW λx U=>h x (by simp[U])]
 case makeSlice a x y=>rw[h.1,h.2]
 case slice ty x lo hi nZ=>
  cases nZ with
  | some m=>rfl
  | none=>
   simp only;rw[h x (by simp),DX λy Ο=>h y (by simp[Ο]),DX λy Ο=>h y (by simp[Ο])]
 case fieldAddr ty x f=>rw[h]
 case indexAddr ty x y=>rw[h.1,h.2]
 case typeAssert x a b c=>rw[h]
 case extract x i=>rw[h]
 case call c=>
  obtain⟨callee,⟨args⟩,⟨dW⟩⟩:=c;cases callee
  case value=>rfl
  case invoke=>rfl
  rename_i b;have cW:∀x∈args,aO env' x=aO env x:=λx U=>h x (by simp[Call.operands,U])
  match args,dW with
  | [x],[ty]=>simp only;rw[cW x (by simp)]
  | [x,y],[tS,ty]=>simp only;rw[cW x (by simp),cW y (by simp)]
  | [],_=>rfl
  | [_],[]=>rfl
  | [_],_::_::_=>rfl
  | [_,_],[]=>rfl
  | [_,_],[_]=>rfl
  | [_,_],_::_::_::_=>rfl
  | _::_::_::_,_=>rfl
theorem Nk {o:Oper} (ο:oP ops o env env'):kp T A env' σ o=kp T A env σ o:=by
 have h:=DU ο;obtain⟨dst,op,type,pos,after,guard⟩:=o;simp only at h;unfold kp;cases op<;>simp only<;>try rfl
 all_goals simp only[Op.operands,List.mem_cons,List.not_mem_nil,or_false,forall_eq_or_imp,forall_eq] at h
 case box ty x=>rw[h]
 case build ty cS=>rw[DV λp ω=>h p.2 (by simp only[List.mem_map];exact⟨p,by simpa using ω,rfl⟩)]
 case buildSlice ty n cS=>rw[DV λp ω=>h p.2 (by simp only[List.mem_map];exact⟨p,by simpa using ω,rfl⟩)]
 case load ty x=>rw[h]
 case store ty x y=>rw[h.1,h.2]
 case makeSlice a x y=>rw[h.1,h.2]
 case makeMap ty r=>cases r<;>rfl
 case convert a b x=>rw[h]
 case nilCheck x=>rw[h]
 case binOp op ty x y d=>
  split
  all_goals first
   | rfl
   |(rename_i heq;cases heq<;>simp only[h.1])
 case mapUpdate ty x y z=>rw[h.1,h.2.1,h.2.2]
 case insert ty x y z=>rw[h.1,h.2.1,h.2.2]
 case lookup ty x y ok=>rw[h.1,h.2]
 case range ty x=>rw[h]
 case next x b=>
  cases b<;>simp only<;>try rfl
  rw[h]
 case entry x=>rw[h]
 case slice ty x lo hi nZ=>
  cases nZ with
  | some m=>rfl
  | none=>
   simp only;rw[h x (by simp),DX λy Ο=>h y (by simp[Ο]),DX λy Ο=>h y (by simp[Ο])]
 case fieldAddr ty x f=>rw[h]
 case indexAddr ty x y=>rw[h.1,h.2]
 case call c=>
  obtain⟨callee,⟨args⟩,⟨dW⟩⟩:=c;cases callee
  case value=>rfl
  case invoke=>rfl
  rename_i b;have cW:∀x∈args,aO env' x=aO env x:=λx U=>h x (by simp[Call.operands,U])
  match args,dW with
  | [x],[ty]=>simp only;rw[cW x (by simp)]
  | [x,y],[tS,ty]=>simp only;rw[cW x (by simp),cW y (by simp)]
  | [],_=>rfl
  | [_],[]=>rfl
  | [_],_::_::_=>rfl
  | [_,_],[]=>rfl
  | [_,_],[_]=>rfl
  | [_,_],_::_::_::_=>rfl
  | _::_::_::_,_=>rfl
def gj (P:Program) (f:θ) (args:List θ) (r:θ):Prop:=∀σ,h1 P f args σ (λa s=>a=r/\s=σ) (λ_ _=>False)
def cB.gy (r:cB) (K:θ->Prop) (s:Prop):Prop:=match r with
 | .ok a=>K a
 | .b5 p (.ok a)=>p/\K a
 | .b5 _ _=>False
 | .bad=>s
def c6.gy (r:c6) (K:θ->List Row->Prop):Prop:=match r with
 | .ok a σ'=>K a σ'
 | .b5 p (.ok a σ')=>p/\K a σ'
 | _=>False
theorem VS {r r':cB} {K:θ->Prop} {s:Prop} (h:r=r'):r.gy K s=r'.gy K s:=by rw[h]
theorem VT {r r':c6} {K:θ->List Row->Prop} (h:r=r'):r.gy K=r'.gy K:=by rw[h]
def dcall (P:Program) (f:θ) (args:List θ) (σ:List Row) (h4:θ->Prop) (mw:θ->List Row->Prop):Prop:=
 (∃r,gj P f args r/\h4 r)\/∃r σ',h1 P f args σ (λa s=>a=r/\s=σ') (λ_ _=>False)/\mw r σ'
theorem gU {P:Program} {f:θ} {args:List θ} {σ:List Row} {h4:θ->Prop} {mw:θ->List Row->Prop} {r:θ} (h:gj P f args r) (k:h4 r):dcall P f args σ h4 mw:=.inl ⟨r,h,k⟩
def Ai (P:Program) (T:bd) (A:List Nat) (env:Ω) (o:Oper) (σ:List Row) (h4:θ->Prop) (mw:θ->List Row->Prop):Prop:=match o.op with
 | .call ⟨.value f,args,_⟩=>dcall P (aO env f) (args.toList.map (aO env)) σ h4 mw
 | .panic _=>False
 | .defer _=>False
 | _=>(mo T A env o).gy h4 ((kp T A env σ o).gy mw)
theorem VU {P:Program} {T:bd} {A:List Nat} {env:Ω} {o:Oper} {σ:List Row} {h4:θ->Prop} {mw:θ->List Row->Prop}:Ai P T A env o σ h4 mw=match o.op with
 | .call ⟨.value f,args,_⟩=>dcall P (aO env f) (args.toList.map (aO env)) σ h4 mw
 | .panic _=>False
 | .defer _=>False
 | _=>(mo T A env o).gy h4 ((kp T A env σ o).gy mw):=Eq.trans rfl rfl
theorem VV {a:θ} {K:θ->Prop} {s:Prop}:cB.gy (.ok a) K s=K a:=Eq.trans rfl rfl
theorem VW {p:Prop} {a:θ} {K:θ->Prop} {s:Prop}:cB.gy (.b5 p (.ok a)) K s=(p/\K a):=Eq.trans rfl rfl
theorem VX {K:θ->Prop} {s:Prop}:cB.gy .bad K s=s:=Eq.trans rfl rfl
theorem VY {a:θ} {σ:List Row} {K:θ->List Row->Prop}:c6.gy (.ok a σ) K=K a σ:=Eq.trans rfl rfl
theorem VZ {p:Prop} {a:θ} {σ:List Row} {K:θ->List Row->Prop}:c6.gy (.b5 p (.ok a σ)) K=(p/\K a σ):=Eq.trans rfl rfl
def jd (P:Program) (T:bd) (A:List Nat) (nt:Nat) (ops:Array Oper):List Nat->Ω->List Row->List Bool->(Ω->List Row->Prop)->Prop
 | [],env,σ,tags,K=>kN ops tags=true/\K env σ
 | i::is,env,σ,tags,K=>gT ops[i]? λo=>h2 nt o=true/\gT (fA env ops o) λw=>
   jE w (jd P T A nt ops is (ca o env .cz) σ (tags++[false]) K)
    (Ai P T A env o σ (λa=>jd P T A nt ops is (ca o env a) σ (tags++[false]) K) (λa σ'=>jd P T A nt ops is (ca o env a) σ' (tags++[true]) K))
def Nl (P:Program) (T:bd) (A:List Nat) (nt:Nat) (ops:Array Oper) (is:List Nat) (o:Oper) (env:Ω) (σ:List Row) (tags:List Bool) (K:Ω->List Row->Prop) (a:θ):Prop:=jd P T A nt ops is (ca o env a) σ (tags++[false]) K
def Nm (P:Program) (T:bd) (A:List Nat) (nt:Nat) (ops:Array Oper) (is:List Nat) (o:Oper) (env:Ω) (tags:List Bool) (K:Ω->List Row->Prop) (a:θ) (σ':List Row):Prop:=jd P T A nt ops is (ca o env a) σ' (tags++[true]) K
theorem bC {tags:List Bool} {K:Ω->List Row->Prop}:jd P T A nt ops [] env σ tags K=(kN ops tags=true/\K env σ):=Eq.trans rfl rfl
theorem bD {i:Nat} {is:List Nat} {tags:List Bool} {K:Ω->List Row->Prop}:jd P T A nt ops (i::is) env σ tags K=gT ops[i]? λo=>h2 nt o=true/\gT (fA env ops o) λw=>
   jE w (jd P T A nt ops is (ca o env .cz) σ (tags++[false]) K) (Ai P T A env o σ (Nl P T A nt ops is o env σ tags K) (Nm P T A nt ops is o env tags K)):=Eq.trans rfl rfl
theorem V0 {ops:Array Oper} {is:List Nat} {o:Oper} {tags:List Bool} {K:Ω->List Row->Prop} {a:θ}:Nl P T A nt ops is o env σ tags K a=jd P T A nt ops is (ca o env a) σ (tags++[false]) K:=Eq.trans rfl rfl
theorem V1 {ops:Array Oper} {is:List Nat} {o:Oper} {tags:List Bool} {K:Ω->List Row->Prop} {a:θ}:Nm P T A nt ops is o env tags K a σ=jd P T A nt ops is (ca o env a) σ (tags++[true]) K:=Eq.trans rfl rfl
def oQ (P:Program) (m nt:Nat) (k:List Item) (Z:List Item->Ω->List Row->Prop) (E:θ->Ω->List Row->Prop) (ops:Array Oper) (i:Nat) (o:Oper) (env:Ω) (σ:List Row) (tag:Bool) (a:θ) (σ':List Row):Prop:=
 if tag then HJ P m nt k Z E ops i o env σ a σ'/\(mr o=true->σ'=σ) else x3 P m nt k Z E ops i o env a/\σ'=σ
theorem V2 {ty:TypeId} {x a:θ} {σ':List Row} {p:Prop} (h:vz T ty σ x=.ok a σ'\/vz T ty σ x=.b5 p (.ok a σ')):σ'=σ:=by
 unfold vz tK at h
 repeat' split at h
 all_goals simp[cB.du] at h
 all_goals first|exact h.2.symm|skip
theorem V3 {ty:TypeId} {x cg a:θ} {σ':List Row} {p:Prop} (h:vB T ty σ x cg=.ok a σ'\/vB T ty σ x cg=.b5 p (.ok a σ')):σ'=σ:=by
 unfold vB at h
 repeat' split at h
 all_goals simp at h
 all_goals first|exact h.2.2.symm|exact h.2.symm|skip
theorem V4 {ty:TypeId} {f:Nat} {x a:θ} {σ':List Row} {p:Prop} (h:vA T ty f σ x=.ok a σ'\/vA T ty f σ x=.b5 p (.ok a σ')):σ'=σ:=by
 unfold vA at h
 repeat' split at h
 all_goals simp at h
 all_goals first|exact h.2.2.symm|exact h.2.symm|skip
theorem V5 {x a:θ} {σ':List Row} {p:Prop} (h:vN σ x=.ok a σ'\/vN σ x=.b5 p (.ok a σ')):σ'=σ:=by
 unfold vN at h
 repeat' split at h
 all_goals simp at h
 all_goals first|exact h.2.2.symm|exact h.2.symm|skip
theorem DZ {o:Oper} {a:θ} {σ':List Row} {p:Prop} (μ:mr o=true) (h:kp T A env σ o=.ok a σ'\/kp T A env σ o=.b5 p (.ok a σ')):σ'=σ:=by
 unfold mr at μ;unfold kp at h;split at μ
 ·rename_i ty x Ν;rw[Ν] at h;exact V2 h
 ·rename_i ty x cg Ν;rw[Ν] at h;exact V3 h
 ·rename_i ty x f Ν;rw[Ν] at h;exact V4 h
 ·rename_i x Ν;rw[Ν] at h;exact V5 h
 ·cases μ
theorem V6 (Θ:bT P T) {i:Nat} {is:List Nat} {tags:List Bool} {K:Ω->List Row->Prop} (h:jd P T A nt ops (i::is) env σ tags K) :
  ∃o a σ' tag,ops[i]?=some o/\oQ P m nt k Z E ops i o env σ tag a σ'/\jd P T A nt ops is (ca o env a) σ' (tags++[tag]) K:=by
 unfold jd gT at h;split at h
 ·exact h.elim
 ·rename_i o Γ;obtain⟨hd,h⟩:=h;split at h
  ·exact h.elim
  rename_i w hw;unfold jE at h;cases w
  ·replace h:=h.1 rfl
   refine⟨o,.cz,σ,false,Γ,?_,h⟩;unfold oQ;simp only[Bool.false_eq_true,if_false];exact⟨λenv' σ' rest ο hW=>.unwanted Γ (by rw[q9 ο];exact hw) hd hW,trivial⟩
  ·replace h:=h.2 rfl
   unfold Ai at h;split at h
   ·rename_i f args dW Ν;have Aj:∀env',oP ops o env env'->aO env' f=aO env f/\args.toList.map (aO env')=args.toList.map (aO env):=λenv' ο=>by
     have U:=DU ο;rw[Ν] at U;refine⟨U f (by simp[Op.operands,Call.operands]),DW λx HQ=>U x (by simp[Op.operands,Call.operands,HQ])⟩
    rcases h with⟨r,ζ,h⟩|⟨r,σ',ζ,h⟩
    ·refine⟨o,r,σ,false,Γ,?_,h⟩;unfold oQ;simp only[Bool.false_eq_true,if_false];refine⟨λenv' σ' rest ο hW=>.call Γ (by rw[q9 ο];exact hw) hd Ν ?_,trivial⟩;obtain⟨Ε,Ζ⟩:=Aj env' ο;rw[Ε,Ζ];exact(ζ σ').mono (λa s ⟨x,y⟩=>by subst x;subst y;exact hW) (λ_ _ h=>h.elim)
    ·refine⟨o,r,σ',true,Γ,?_,h⟩;unfold oQ;simp only[if_true];refine⟨?_,λμ=>by unfold mr at μ;rw[Ν] at μ;cases μ⟩;refine λenv' rest ο hW=>.call Γ (by rw[q9 ο];exact hw) hd Ν ?_;obtain⟨Ε,Ζ⟩:=Aj env' ο;rw[Ε,Ζ];exact ζ.mono (λa s ⟨x,y⟩=>by subst x;subst y;exact hW) (λ_ _ h=>h.elim)
   ·exact h.elim
   ·exact h.elim
   ·rename_i J γ π;have Ak:∀(r:cB) (a:θ),mo T A env o=r->(∀K:θ->List Row->Prop,∀s,K a s->(r.du s).holds K)->(∀σ s,r.or σ s=r.du σ)->x3 P m nt k Z E ops i o env a:=λr a μ aS HR env' σ' rest ο hW=>by
     refine .op (A:=A) Θ Γ (by rw[q9 ο];exact hw) hd (λc ζ=>π c ζ) ?_;rw[DY ο,μ,HR];exact aS _ _ hW
    unfold cB.gy at h;split at h
    ·rename_i a ν;refine⟨o,a,σ,false,Γ,?_,h⟩;unfold oQ;simp only[Bool.false_eq_true,if_false];exact⟨Ak _ a ν (λK s χ=>χ) (λ_ _=>rfl),trivial⟩
    ·rename_i p a ν;refine⟨o,a,σ,false,Γ,?_,h.2⟩;unfold oQ;simp only[Bool.false_eq_true,if_false];exact⟨Ak _ a ν (λK s χ=>⟨h.1,χ⟩) (λ_ _=>rfl),trivial⟩
    ·exact h.elim
    ·rename_i xY;have D1:∀(a:θ) (σ':List Row) (r:c6),kp T A env σ o=r->(∀K:θ->List Row->Prop,K a σ'->r.holds K)->HJ P m nt k Z E ops i o env σ a σ':=λa σ' r μ aS env' rest ο hW=>by
      refine .op (A:=A) Θ Γ (by rw[q9 ο];exact hw) hd (λc ζ=>π c ζ) ?_;rw[DY ο,Nk ο,xY,μ];exact aS _ hW
     unfold c6.gy at h;split at h
     ·rename_i a σ' ν;refine⟨o,a,σ',true,Γ,?_,h⟩;unfold oQ;simp only[if_true];exact⟨D1 a σ' _ ν λK χ=>χ,λμ=>DZ (p:=True) μ (.inl ν)⟩
     ·rename_i p a σ' ν;refine⟨o,a,σ',true,Γ,?_,h.2⟩;unfold oQ;simp only[if_true];exact⟨D1 a σ' _ ν λK χ=>⟨h.1,χ⟩,λμ=>DZ μ (.inr ν)⟩
     ·exact h.elim
theorem Nn {env0:Ω} {as9 kq:Nat->θ} {D:Nat->Bool}:∀n,(∀j,j<n->as9 j=kq j)->da ops env0 as9 D n=da ops env0 kq D n:=by
 intro n
 induction n with
 | zero=>intro _;rfl
 | succ n Δ=>
  intro h;simp only[da];rw[Δ λj ε=>h j (by omega),h n (Nat.lt_succ_self n)]
theorem V7 (Θ:bT P T) {K:Ω->List Row->Prop} {env0:Ω}:∀(d i:Nat) (tags:List Bool) (as9:Nat->θ) (σs:Nat->List Row),i+d=ops.size->tags.length=i->
  (∀j o,j<i->ops[j]?=some o->oQ P m nt k Z E ops j o (da ops env0 as9 (λ_=>true) j) (σs j) (tags.getD j false) (as9 j) (σs (j+1)))->
  jd P T A nt ops (List.range' i d) (da ops env0 as9 (λ_=>true) i) (σs i) tags K->
  ∃(tags:List Bool) (as9:Nat->θ) (q':Nat->List Row),kN ops tags=true/\q' 0=σs 0/\(∀j o,ops[j]?=some o->oQ P m nt k Z E ops j o (da ops env0 as9 (λ_=>true) j) (q' j) (tags.getD j false) (as9 j) (q' (j+1)))/\K (da ops env0 as9 (λ_=>true) ops.size) (q' ops.size):=by
 intro d
 induction d with
 | zero=>
  intro i tags as9 σs hi Ξ ε h;simp only[List.range'_zero,jd] at h;have:i=ops.size:=by omega
  subst this;exact⟨tags,as9,σs,h.1,rfl,λj o Γ=>ε j o (Array.getElem?_eq_some_iff.1 Γ).1 Γ,h.2⟩
 | succ d Δ=>
  intro i tags as9 σs hi Ξ ε h;rw[List.range'_succ] at h;obtain⟨o,a,σ',tag,Γ,HS,h⟩:=V6 (m:=m) (k:=k) (Z:=Z) (E:=E) Θ h;let kq:Nat->θ:=λj=>if j=i then a else as9 j
  let q':Nat->List Row:=λj=>if j=i+1 then σ' else σs j
  have vW:∀j,j<=i->da ops env0 as9 (λ_=>true) j=da ops env0 kq (λ_=>true) j:=λj ε=>Nn j λx U=>by simp only[kq];rw[if_neg (by omega)]
  have HT:da ops env0 kq (λ_=>true) (i+1)=ca o (da ops env0 as9 (λ_=>true) i) a:=by
   simp only[da,if_true,Γ];rw[<-vW i (Nat.le_refl i)];simp only[kq,if_true]
  have:=Δ (i+1) (tags++[tag]) kq q' (by omega) (by simp[Ξ]) (λj bV aH dv=>?_) ?_
  ·obtain⟨t2,ba,s2,Ρ,ag,aV,cr⟩:=this;exact⟨t2,ba,s2,Ρ,ag.trans (by simp only[q'];rw[if_neg (by omega)]),aV,cr⟩
  ·by_cases e:j=i
   ·subst e;rw[Γ] at dv;cases dv;rw[<-vW j (Nat.le_refl j)];have Ε:(tags++[tag]).getD j false=tag:=by rw[List.getD_eq_getElem?_getD,hE (by omega),Ξ];simp
    rw[Ε];simp only[kq,q',if_true];rw[if_neg (by omega)];exact HS
   ·have:=ε j bV (by omega) dv;rw[<-vW j (by omega)];have Ε:(tags++[tag]).getD j false=tags.getD j false:=by rw[List.getD_eq_getElem?_getD,ea (by omega),<-List.getD_eq_getElem?_getD]
    rw[Ε];simp only[kq,q'];rw[if_neg (by omega),if_neg (by omega),if_neg (by omega)];exact this
  ·rw[HT];simp only[q',if_true];exact h
theorem W.draw (Θ:bT P T) (sw:P.follows .mixedOrders=true) {id:Nat} (h:∀η:Ω->List Row->Prop,(∀env σ,W P m nt k env σ Z E->η env σ)->jd P T A nt ops (idx ops.size []) env σ [] η):W P m nt (.code (.region id ops true)::k) env σ Z E:=by
 have ah:=h (λenv σ=>W P m nt k env σ Z E) λ_ _ h=>h;rw[idx_eq,List.range_eq_range'] at ah;obtain⟨tags,as9,σs,Ρ,ag,aV,cr⟩:=V7 (m:=m) (k:=k) (Z:=Z) (E:=E) (env0:=env) Θ ops.size 0 [] (λ_=>.cz) (λ_=>σ) (by omega) rfl (λj o ε=>by omega) ah;intro Q mn x cs b S B H t U hb ω Η he;refine .draw U hb λn=>?_;have key:=W.VQ (P:=P) (m:=m) (nt:=nt) (k:=k) (Z:=Z) (E:=E) (ops:=ops) (as9:=as9) (σs:=σs) (tags:=tags) (env0:=env) Ρ
  (λi o Γ Ξ=>by have:=aV i o Γ;unfold oQ at this;rw[Ξ] at this;simpa using this)
  (λi o Γ Ξ=>by have:=aV i o Γ;unfold oQ at this;rw[Ξ] at this;simpa using this)
  (.bJ cr) ops.size n (Array.replicate ops.size false) env 0 (by simp) (λi=>?_) (λi o Γ Α=>?_) (Nat.zero_le _) (λj ε _=>?_) ?_
 ·rw[ag] at key;rw[sw];simp only[Region.schedule,Bool.true_or,if_true,Region.linearise];exact key Q mn x cs b S B H t U hb ω Η he
 ·have:∀n,da ops env as9 (λi=>(Array.replicate ops.size false).getD i false) n=env:=by
   intro n
   induction n with
   | zero=>rfl
   | succ n Δ=>
    simp only[da];have:(Array.replicate ops.size false).getD n false=false:=by
     rw[Array.getD_eq_getD_getElem?,Array.getElem?_replicate];split<;>rfl
    rw[if_neg (by rw[this];simp)];exact Δ
  rw[this]
 ·have:(Array.replicate ops.size false).getD i false=false:=by
   rw[Array.getD_eq_getD_getElem?,Array.getElem?_replicate];split<;>rfl
  rw[this] at Α;cases Α
 ·have:(Array.replicate ops.size false).getD j false=false:=by
   rw[Array.getD_eq_getD_getElem?,Array.getElem?_replicate];split<;>rfl
  rw[this];simp
 ·have:=List.length_filter_le (λi=>!(Array.replicate ops.size false).getD i false) (List.range ops.size);simpa using this
theorem Np {K K':Ω->List Row->Prop} (I:∀e s,K e s->K' e s):∀(is:List Nat) (env:Ω) (σ:List Row) (tags:List Bool),jd P T A nt ops is env σ tags K->jd P T A nt ops is env σ tags K':=by
 intro is
 induction is with
 | nil=>intro env σ tags h;exact⟨h.1,I _ _ h.2⟩
 | cons i is Δ=>
  intro env σ tags h;unfold jd gT at h ⊢;cases Γ:ops[i]? with
  | none=>rw[Γ] at h;exact h.elim
  | some o=>
   rw[Γ] at h;simp only at h ⊢;refine⟨h.1,?_⟩
   replace h:=h.2
   cases hw:fA env ops o with
   | none=>rw[hw] at h;exact h.elim
   | some w=>
    rw[hw] at h;unfold jE at h ⊢;refine⟨λe=>Δ _ _ _ (h.1 e),λe=>?_⟩
    replace h:=h.2 e
    unfold Ai at h ⊢;split
    ·rename_i f args dW Ν;rw[Ν] at h;simp only at h;rcases h with⟨r,ζ,h⟩|⟨r,σ',ζ,h⟩
     ·exact .inl ⟨r,ζ,Δ _ _ _ h⟩
     ·exact .inr ⟨r,σ',ζ,Δ _ _ _ h⟩
    ·rename_i Ν;rw[Ν] at h;exact h
    ·rename_i Ν;rw[Ν] at h;exact h
    ·rename_i J γ π;split at h
     ·rename_i f args dW Ν;exact absurd Ν (J f args dW)
     ·rename_i y Ν;exact absurd Ν (γ y)
     ·rename_i y Ν;exact absurd Ν (π y)
     ·unfold cB.gy at h ⊢;split at h
      ·exact Δ _ _ _ h
      ·exact⟨h.1,Δ _ _ _ h.2⟩
      ·exact h.elim
      ·unfold c6.gy at h ⊢;split at h
       ·exact Δ _ _ _ h
       ·exact⟨h.1,Δ _ _ _ h.2⟩
       ·exact h.elim
theorem W.D2 (Θ:bT P T) (sw:P.follows .mixedOrders=true) (ha:Ω) {id:Nat} (h:W P m nt k ha σ Z E) (μ:jd P T A nt ops (idx ops.size []) env σ [] (λe s=>s=σ/\∀p∈ha,a5 e p.1=p.2)):W P m nt (.code (.region id ops true)::k) env σ Z E:=
 W.draw Θ sw λη I=>Np (λe s ⟨J,γ⟩=>I e s (J▸W.forget ha γ h)) _ _ _ _ μ
end
def iu {α:Type}:List α->List Nat->List α->List α
 | l,i::ρ,x::xs=>iu (l.set i x) ρ xs
 | l,_,_=>l
theorem sx {α:Type}:∀(ρ:List Nat) (l xs:List α),(iu l ρ xs).length=l.length:=by
 intro ρ
 induction ρ with
 | nil=>intro l xs;cases xs<;>rfl
 | cons i ρ Δ=>intro l xs;cases xs with
  | nil=>rfl
  | cons x xs=>simp[iu,Δ]
theorem HU {α:Type} {i:Nat}:∀(ρ:List Nat) (l xs:List α),i∉ρ->(iu l ρ xs)[i]?=l[i]?:=by
 intro ρ
 induction ρ with
 | nil=>intro l xs _;cases xs<;>rfl
 | cons j ρ Δ=>intro l xs h;cases xs with
  | nil=>rfl
  | cons x xs=>
   simp only[iu];rw[Δ _ _ (λhm=>h (by simp[hm])),List.getElem?_set_ne (λe=>h (by simp[e]))]
theorem Nq {α:Type}:∀(ρ:List Nat) (l xs:List α),ρ.Nodup->(∀i∈ρ,i<l.length)->∀(j i:Nat) (x:α),ρ[j]?=some i->xs[j]?=some x->(iu l ρ xs)[i]?=some x:=by
 intro ρ
 induction ρ with
 | nil=>intro l xs _ _ j i x h;simp at h
 | cons a ρ Δ=>
  intro l xs ko aH j i x ε U;cases xs with
  | nil=>simp at U
  | cons y xs=>
   simp only[iu];obtain⟨J,γ⟩:=List.nodup_cons.1 ko;cases j with
   | zero=>
    simp at ε U;subst ε;subst U;rw[HU ρ _ _ J,List.getElem?_set_self (aH a (by simp))]
   | succ j=>
    simp only[List.getElem?_cons_succ] at ε U;exact Δ _ _ γ (λi hi=>by simp;exact aH i (by simp[hi])) j i x ε U
def hN (ρ:List Nat):θ->θ
 | .Ψ id n i j=>.Ψ (ρ.getD id 0) n i j
 | .ms id n i len=>.ms (ρ.getD id 0) n i len
 | .mp id=>.mp (ρ.getD id 0)
 | .it id=>.it (ρ.getD id 0)
 | a=>a
def dI (ρ:List Nat):θ->θ
 | .fn f c9 cs=>.fn f (c9.map (hN ρ)) (cs.map (hN ρ))
 | .aW l=>.aW (l.map (hN ρ))
 | .bu l=>.bu (l.map (hN ρ))
 | a=>hN ρ a
def oR (h:Nat) (a:θ):Prop:=match a with
 | .Ψ id _ _ _|.ms id _ _ _|.mp id|.it id=>id<h
 | a=>av 0 a
def fS (h:Nat) (a:θ):Prop:=match a with
 | .fn _ c9 cs=>(∀a∈c9,oR h a)/\∀a∈cs,oR h a
 | .aW l|.bu l=>∀a∈l,oR h a
 | a=>oR h a
structure Names (ρ:List Nat) (ef:aP) (σ0:List Row) (bG:aP) (jZ:List Row):Prop where
 row:∀(j i:Nat),ρ[j]?=some i->jZ[i]?=σ0[j]?
 blk:∀(j i:Nat),ρ[j]?=some i->bG[i]?=ef[j]?
section
variable {S:aC} {ef bG:aP} {σ0 jZ:List Row} {ρ:List Nat}
theorem D3 {ρ:List Nat} {j:Nat} (h:j<ρ.length):ρ[j]?=some (ρ.getD j 0):=by
 rw[List.getD_eq_getElem?_getD,a2 h];rfl
theorem kP (Ι:Names ρ ef σ0 bG jZ) {a:θ} {v:Value} (Ξ:oR ρ.length a):ar S bG jZ (hN ρ a) v↔ar S ef σ0 a v:=by
 cases a with
 | Ψ id n i j=>
  have bS:=D3 (ρ:=ρ) Ξ
  have J:=Ι.row _ _ bS
  have γ:=Ι.blk _ _ bS;constructor
  ·intro h;cases h with
   | Ψ Ρ ag aV=>exact .Ψ (by rw[<-J];exact Ρ) ag (by rw[<-γ];exact aV)
   | jB v Ρ ag=>exact .jB v (by rw[<-J];exact Ρ) ag
  ·intro h;cases h with
   | Ψ Ρ ag aV=>exact .Ψ (by rw[J];exact Ρ) ag (by rw[γ];exact aV)
   | jB v Ρ ag=>exact .jB v (by rw[J];exact Ρ) ag
 | ms id n i len=>
  have bS:=D3 (ρ:=ρ) Ξ
  have J:=Ι.row _ _ bS
  have γ:=Ι.blk _ _ bS;constructor
  ·intro h;cases h with
   | ms cap Ρ ag aV cr gO iq=>exact .ms cap (by rw[<-J];exact Ρ) ag (by rw[<-γ];exact aV) cr gO iq
   | ja v Ρ ag=>exact .ja v (by rw[<-J];exact Ρ) ag
  ·intro h;cases h with
   | ms cap Ρ ag aV cr gO iq=>exact .ms cap (by rw[J];exact Ρ) ag (by rw[γ];exact aV) cr gO iq
   | ja v Ρ ag=>exact .ja v (by rw[J];exact Ρ) ag
 | mp id=>
  have bS:=D3 (ρ:=ρ) Ξ
  have J:=Ι.row _ _ bS
  have γ:=Ι.blk _ _ bS;constructor
  ·intro h;cases h with
   | mp Ρ ag=>exact .mp (by rw[<-J];exact Ρ) (by rw[<-γ];exact ag)
   | lu v Ρ=>exact .lu v (by rw[<-J];exact Ρ)
  ·intro h;cases h with
   | mp Ρ ag=>exact .mp (by rw[J];exact Ρ) (by rw[γ];exact ag)
   | lu v Ρ=>exact .lu v (by rw[J];exact Ρ)
 | it id=>
  have bS:=D3 (ρ:=ρ) Ξ
  have J:=Ι.row _ _ bS
  have γ:=Ι.blk _ _ bS;constructor
  ·intro h;cases h with
   | it Ρ ag=>exact .it (by rw[<-J];exact Ρ) (by rw[<-γ];exact ag)
   | m7 v Ρ=>exact .m7 v (by rw[<-J];exact Ρ)
  ·intro h;cases h with
   | it Ρ ag=>exact .it (by rw[J];exact Ρ) (by rw[γ];exact ag)
   | m7 v Ρ=>exact .m7 v (by rw[J];exact Ρ)
 | _=>exact⟨λh=>h.any Ξ _ _,λh=>h.any Ξ _ _⟩
theorem D4 {f:θ->θ} {l:List θ} {i:Nat} {a:θ} (h:(l.map f)[i]?=some a):∃b,l[i]?=some b/\a=f b:=by
 rw[List.getElem?_map] at h;cases U:l[i]? with
 | none=>rw[U] at h;cases h
 | some b=>rw[U] at h;cases h;exact⟨b,rfl,rfl⟩
theorem HV (Ι:Names ρ ef σ0 bG jZ) {a:θ} {v:Value} (Ξ:fS ρ.length a):ar S bG jZ (dI ρ a) v↔ar S ef σ0 a v:=by
 cases a with
 | fn f c9 cs=>
  constructor
  ·intro h;cases h with
   | fn vs ws Ρ ag aV cr=>
    refine .fn vs ws (by simpa using Ρ) (by simpa using ag) (λi a v hi hv=>?_) (λi a v hi hv=>?_)
    ·exact(kP Ι (Ξ.1 a (cv hi))).1 (aV i _ v (by rw[List.getElem?_map,hi];rfl) hv)
    ·exact(kP Ι (Ξ.2 a (cv hi))).1 (cr i _ v (by rw[List.getElem?_map,hi];rfl) hv)
  ·intro h;cases h with
   | fn vs ws Ρ ag aV cr=>
    refine .fn vs ws (by simpa using Ρ) (by simpa using ag) (λi a v hi hv=>?_) (λi a v hi hv=>?_)
    ·obtain⟨b,hb,rfl⟩:=D4 hi;exact(kP Ι (Ξ.1 b (cv hb))).2 (aV i b v hb hv)
    ·obtain⟨b,hb,rfl⟩:=D4 hi;exact(kP Ι (Ξ.2 b (cv hb))).2 (cr i b v hb hv)
 | aW l=>
  constructor
  ·intro h;cases h with
   | aW vs Ρ ag=>exact .aW vs (by simpa using Ρ) λi a v hi hv=>(kP Ι (Ξ a (cv hi))).1 (ag i _ v (by rw[List.getElem?_map,hi];rfl) hv)
  ·intro h;cases h with
   | aW vs Ρ ag=>
    refine .aW vs (by simpa using Ρ) λi a v hi hv=>?_;obtain⟨b,hb,rfl⟩:=D4 hi;exact(kP Ι (Ξ b (cv hb))).2 (ag i b v hb hv)
 | bu l=>
  constructor
  ·intro h;cases h with
   | bu vs Ρ ag=>exact .bu vs (by simpa using Ρ) λi a v hi hv=>(kP Ι (Ξ a (cv hi))).1 (ag i _ v (by rw[List.getElem?_map,hi];rfl) hv)
  ·intro h;cases h with
   | bu vs Ρ ag=>
    refine .bu vs (by simpa using Ρ) λi a v hi hv=>?_;obtain⟨b,hb,rfl⟩:=D4 hi;exact(kP Ι (Ξ b (cv hb))).2 (ag i b v hb hv)
 | z u=>exact kP (a:=.z u) Ι Ξ
 | ad l=>exact kP (a:=.ad l) Ι Ξ
 | sl ex k l=>exact kP (a:=.sl ex k l) Ι Ξ
 | Ψ id n i j=>exact kP (a:=.Ψ id n i j) Ι Ξ
 | ms id n i len=>exact kP (a:=.ms id n i len) Ι Ξ
 | fH t a=>exact kP (a:=.fH t a) Ι Ξ
 | mp id=>exact kP (a:=.mp id) Ι Ξ
 | it id=>exact kP (a:=.it id) Ι Ξ
 | cz=>exact kP (a:=.cz) Ι Ξ
end
section
variable {P:Program} {S ay:aC} {B:aP} {H H':ψ} {σ:List Row}
def iv (r:Row):Prop:=match r with|.cells _ _ l=>∀e∈l,∀a∈e.cells,av 0 a|_=>False
def Al (r:Row):Prop:=iv r\/r=.dead
theorem jC.plain {B':aP} {σ':List Row} {r:Row} {bo:Option (Nat×Nat)} (ω:iv r) (h:jC S B σ H r bo) (e5:aP) (gA:List Row):jC S e5 gA H r bo:=by
 cases r with
 | cells t k l=>
  cases bo with
  | none=>exact h
  | some x=>
   obtain⟨b,N⟩:=x;obtain⟨J,γ,π,w,Μ⟩:=h;refine⟨J,γ,π,w,λi e hi=>⟨(Μ i e hi).1,λj a ε=>?_⟩⟩;obtain⟨c1,c2,c3⟩:=(Μ i e hi).2 j a ε;exact⟨c1,c2.any (ω e (cv hi) a (cv ε)) _ _,c3⟩
 | _=>exact ω.elim
theorem jC.V8 {B':aP} {σ':List Row} {r:Row} {bo:Option (Nat×Nat)} (ω:Al r) (h:jC S B σ H r bo) (e5:aP) (gA:List Row):jC S e5 gA H r bo:=by
 rcases ω with ω|rfl
 ·exact jC.plain (B':=B') (σ':=σ') ω h e5 gA
 ·trivial
theorem Holds.Nr (Β:Holds S B σ H) {ρ:List Nat} {iM:List Row} (ko:ρ.Nodup) (hlen:ρ.length=iM.length) (bb:∀(j i:Nat),ρ[j]?=some i->σ[i]?=iM[j]?) (eX:∀r∈iM,iv r)
  {ef:aP} {σ0:List Row} (he:Ext S (ρ.map λi=>B.getD i none) H ay ef H') (Α:bZ S ay (ρ.map λi=>B.getD i none) ef iM σ0) (ah:Holds ay ef σ0 H') (V9:∀r∈σ0,Al r) :
  let jZ:=iu σ ρ σ0++σ0.drop ρ.length
  let bG:=iu B ρ ef++ef.drop ρ.length
  Holds ay bG jZ H'/\Ext S B H ay bG H'/\bZ S ay B bG σ jZ/\Names (ρ++(List.range (σ0.length-ρ.length)).map (σ.length + ·)) ef σ0 bG jZ:=by
 intro jZ bG;have aH:∀i∈ρ,i<σ.length:=λi hi=>by
  obtain⟨j,ε⟩:=List.getElem?_of_mem hi;have gV:j<iM.length:=by rw[<-hlen];exact(b7.1 ε).1
  have:=bb j i ε;rw[a2 gV] at this;exact(b7.1 this).1
 have D5:∀i∈ρ,i<B.length:=λi hi=>by rw[Β.len];exact aH i hi
 have hle:ρ.length<=σ0.length:=by rw[hlen];exact Α.length
 have Wa:ef.length=σ0.length:=ah.len
 have D6:∀(j i:Nat),ρ[j]?=some i->(ρ.map λi=>B.getD i none)[j]?=B[i]?:=λj i ε=>by
  have hi:=D5 i (cv ε);rw[List.getElem?_map,ε];simp[hi]
 have s1:∀(j i:Nat),ρ[j]?=some i->jZ[i]?=σ0[j]?:=λj i ε=>by
  have hi:=aH i (cv ε)
  have gV:j<σ0.length:=by have:=(b7.1 ε).1;omega
  show(iu σ ρ σ0++_)[i]?=_;rw[ea (by rw[sx];exact hi),a2 gV];exact Nq ρ σ σ0 ko aH j i _ ε (a2 gV)
 have bP:∀(j i:Nat),ρ[j]?=some i->bG[i]?=ef[j]?:=λj i ε=>by
  have hi:=D5 i (cv ε)
  have gV:j<ef.length:=by have:=(b7.1 ε).1;omega
  show(iu B ρ ef++_)[i]?=_;rw[ea (by rw[sx];exact hi),a2 gV];exact Nq ρ B ef ko D5 j i _ ε (a2 gV)
 have s2:∀i,i<σ.length->i∉ρ->jZ[i]?=σ[i]?:=λi hi Ι=>by
  show(iu σ ρ σ0++_)[i]?=_;rw[ea (by rw[sx];exact hi),HU ρ _ _ Ι]
 have dw:∀i,i<σ.length->i∉ρ->bG[i]?=B[i]?:=λi hi Ι=>by
  show(iu B ρ ef++_)[i]?=_;rw[ea (by rw[sx,Β.len];exact hi),HU ρ _ _ Ι]
 have ot:∀x,jZ[σ.length+x]?=σ0[ρ.length+x]?:=λx=>by
  show(iu σ ρ σ0++_)[_]?=_;rw[hE (by rw[sx];omega),sx,List.getElem?_drop];congr 1;omega
 have fN:∀x,bG[σ.length+x]?=ef[ρ.length+x]?:=λx=>by
  show(iu B ρ ef++_)[_]?=_;rw[hE (by rw[sx,Β.len];omega),sx,Β.len,List.getElem?_drop];congr 1;omega
 have Am:∀(i:Nat) (r:Row),jZ[i]?=some r->(i<σ.length/\i∉ρ/\σ[i]?=some r/\bG[i]?=B[i]?)\/∃j,σ0[j]?=some r/\bG[i]?=ef[j]?/\(∀eD bK,(eD<σ.length->ρ[bK]?=some eD)->(¬eD<σ.length->bK=ρ.length+(eD-σ.length))->j=bK->i=eD)/\((i<σ.length->ρ[j]?=some i)/\(¬i<σ.length->j=ρ.length+(i-σ.length))):=λi r μ=>by
  by_cases hi:i<σ.length
  ·by_cases Ι:i∈ρ
   ·obtain⟨j,ε⟩:=List.getElem?_of_mem Ι;refine .inr ⟨j,by rw[<-s1 j i ε];exact μ,bP j i ε,λeD bK J γ e=>?_,λ_=>ε,λh=>absurd hi h⟩;subst e;by_cases a9:eD<σ.length
    ·have:=J a9;rw[ε] at this;cases this;rfl
    ·have:=γ a9;have:=(b7.1 ε).1;omega
   ·exact .inl ⟨hi,Ι,by rw[<-s2 i hi Ι];exact μ,dw i hi Ι⟩
  ·have e:i=σ.length+(i-σ.length):=by omega
   refine .inr ⟨ρ.length+(i-σ.length),by rw[<-ot,<-e];exact μ,by rw[<-fN,<-e],λeD bK J γ aJ=>?_,λh=>absurd h hi,λ_=>rfl⟩;by_cases a9:eD<σ.length
   ·have:=(b7.1 (J a9)).1;omega
   ·have:=γ a9;omega
 have Ns:bG.length=jZ.length:=by
  show(iu B ρ ef++ef.drop ρ.length).length=(iu σ ρ σ0++σ0.drop ρ.length).length;simp[sx,Β.len,Wa]
 have D7:bZ S ay B bG σ jZ:=⟨he.dg,λid r μ=>by
  have hi:=(b7.1 μ).1;by_cases Ι:id∈ρ
  ·obtain⟨j,ε⟩:=List.getElem?_of_mem Ι;have fc:iM[j]?=some r:=by rw[<-bb j id ε];exact μ
   obtain⟨r',Ρ,ag⟩:=Α.rows j r fc;exact⟨r',by rw[s1 j id ε];exact Ρ,by rw[bP j id ε,<-D6 j id ε];exact ag⟩
  ·exact⟨r,by rw[s2 id hi Ι];exact μ,by rw[dw id hi Ι];exact r.tI _⟩⟩
 have D8:∀b,aP.has (ρ.map λi=>B.getD i none) b->∃j i N,ρ[j]?=some i/\B[i]?=some (some (b,N)):=λb ⟨N,ck⟩=>by
  obtain⟨j,ε⟩:=List.getElem?_of_mem ck;rw[List.getElem?_map] at ε;cases U:ρ[j]? with
  | none=>rw[U] at ε;cases ε
  | some i=>
   rw[U] at ε;simp only[Option.map_some,Option.some.injEq] at ε;have hi:=D5 i (cv U);rw[List.getD_eq_getElem?_getD,a2 hi] at ε;exact⟨j,i,N,U,by rw[a2 hi];simpa using ε⟩
 have Nt:∀(j i:Nat),ρ[j]?=some i->∃r,σ[i]?=some r/\r.live/\iv r:=λj i ε=>by
  have gV:j<iM.length:=by rw[<-hlen];exact(b7.1 ε).1
  have μ:=a2 gV
  have ω:=eX _ (cv μ);refine⟨_,by rw[bb j i ε];exact μ,?_,ω⟩;cases U:iM[j]<;>rw[U] at ω<;>first|trivial|exact ω.elim
 have D9:∀(id:Nat) (r:Row) (b N:Nat),id∉ρ->σ[id]?=some r->r.live->B[id]?=some (some (b,N))->¬aP.has (ρ.map λi=>B.getD i none) b/\¬H.fresh b/\kn H H' b:=λid r b N Ι μ fe hb=>by
  have c1:¬aP.has (ρ.map λi=>B.getD i none) b:=λaS=>by
   obtain⟨j,i,eV,J,γ⟩:=D8 b aS;obtain⟨r',Ρ,ag,_⟩:=Nt j i J;exact Β.inj id i r r' b N eV (λe=>Ι (e▸cv J)) μ Ρ fe ag hb γ
  have c2:=Β.nS μ fe hb;exact⟨c1,c2,(he.fF b c1 c2).pE λo=>Β.sep id r b N μ fe hb o⟩
 refine⟨⟨ah.dg,Ns,λi r bo μ eZ=>?_,λi j ej b' b gM gN fE hi ε ik ec hx cO=>?_,λi r b N μ fe hb o=>?_⟩,⟨he.dg,λb hb Τ=>?_,λb hb=>?_,λb o v hv=>?_,he.grow⟩,D7,⟨λj i ε=>?_,λj i ε=>?_⟩⟩
 ·rcases Am i r μ with⟨Ρ,ag,aV,cr⟩|⟨j,Ρ,ag,_,_⟩
  ·by_cases fe:r.live
   ·rw[cr] at eZ;refine(Β.row i r bo aV eZ).later D7 (λb N e=>(D9 i r b N ag aV fe (by rw[eZ,e])).2.2) λcM left cur e=>?_;subst e;obtain⟨_,_,aT,kI,xs,clock,seen,_,Ε,⟨es,Ζ⟩,_⟩:=Β.row i _ bo aV eZ;have mf:cM∉ρ:=λhm=>by
     obtain⟨j,ε⟩:=List.getElem?_of_mem hm;obtain⟨r',dZ,_,h0⟩:=Nt j cM ε;rw[Ζ] at dZ;cases dZ;exact h0
    have HW:=(b7.1 Ζ).1;exact⟨s2 cM HW mf,dw cM HW mf,λb N hb=>(D9 cM _ b N mf Ζ trivial hb).2.2⟩
   ·cases r<;>first|exact absurd trivial fe|trivial
  ·rw[ag] at eZ;exact(ah.row j r bo Ρ eZ).V8 (B':=bG) (σ':=jZ) (V9 r (cv Ρ)) _ _
 ·have zL:∀(i:Nat) (ej:Row) (gM:Nat) (bK:Nat) (b':Row) (gN:Nat),i∉ρ->σ[i]?=some ej->ej.live->B[i]?=some (some (b,gM))->σ0[bK]?=some b'->b'.live->ef[bK]?=some (some (b,gN))->False:=λi ej gM bK b' gN J γ π Μ aB bc gR=>by
   obtain⟨c1,c2,_⟩:=D9 i ej b gM J γ π Μ;rcases he.blocks b (oF gR) with h|h
   ·exact c1 h
   ·exact c2 h
  rcases Am i ej hi with⟨Ρ,ag,aV,cr⟩|⟨i0,Ρ,ag,aV,cr⟩<;>rcases Am j b' ε with⟨k1,cy,ra,An⟩|⟨HX,k1,cy,ra,An⟩
  ·rw[cr] at hx;rw[An] at cO;exact Β.inj i j ej b' b gM gN fE aV ra ik ec hx cO
  ·rw[cr] at hx;rw[cy] at cO;exact zL i ej gM HX b' gN ag aV ik hx k1 ec cO
  ·rw[ag] at hx;rw[An] at cO;exact zL j b' gN i0 ej gM cy ra ec cO Ρ ik hx
  ·rw[ag] at hx;rw[cy] at cO;refine ah.inj i0 HX ej b' b gM gN (λe=>fE ?_) Ρ k1 ik ec hx cO;exact aV j HX An.1 An.2 e
 ·rcases Am i r μ with⟨Ρ,ag,aV,cr⟩|⟨j,Ρ,ag,_,_⟩
  ·rw[cr] at hb;obtain⟨c1,c2,_⟩:=D9 i r b N ag aV fe hb;cases hv:ay b o with
   | none=>rfl
   | some v=>
    rcases he.qP b o v hv with h|h|h
    ·rw[Β.sep i r b N aV fe hb o] at h;cases h
    ·exact absurd h c1
    ·exact absurd h c2
  ·rw[ag] at hb;exact ah.sep j r b N Ρ fe hb o
 ·refine he.fF b (λaS=>hb ?_) Τ;obtain⟨j,i,eV,_,γ⟩:=D8 b aS;exact oF γ
 ·obtain⟨N,ck⟩:=hb;obtain⟨i,hi⟩:=List.getElem?_of_mem ck;have n0:i<jZ.length:=by rw[<-Ns];exact(b7.1 hi).1
  rcases Am i _ (a2 n0) with⟨Ρ,ag,aV,cr⟩|⟨j,Ρ,ag,_,_⟩
  ·rw[cr] at hi;exact .inl (oF hi)
  ·rw[ag] at hi;rcases he.blocks b (oF hi) with h|h
   ·obtain⟨j,eD,eV,_,γ⟩:=D8 b h;exact .inl (oF γ)
   ·exact .inr h
 ·rcases he.qP b o v hv with h|h|h
  ·exact .inl h
  ·obtain⟨j,eD,eV,_,γ⟩:=D8 b h;exact .inr (.inl (oF γ))
  ·exact .inr (.inr h)
 ·by_cases gV:j<ρ.length
  ·rw[ea gV] at ε;exact s1 j i ε
  ·rw[hE (by omega),List.getElem?_map] at ε;have vC:j-ρ.length<σ0.length-ρ.length:=by
    apply Classical.byContradiction;intro Ι;rw[List.getElem?_eq_none (by simp;omega)] at ε;cases ε
   rw[a2 (by simpa using vC)] at ε;simp at ε;subst ε;rw[ot];congr 1;omega
 ·by_cases gV:j<ρ.length
  ·rw[ea gV] at ε;exact bP j i ε
  ·rw[hE (by omega),List.getElem?_map] at ε;have vC:j-ρ.length<σ0.length-ρ.length:=by
    apply Classical.byContradiction;intro Ι;rw[List.getElem?_eq_none (by simp;omega)] at ε;cases ε
   rw[a2 (by simpa using vC)] at ε;simp at ε;subst ε;rw[fN];congr 1;omega
def names (ρ:List Nat) (n:Nat) (σ0:List Row):List Nat:=ρ++(List.range (σ0.length-ρ.length)).map (n + ·)
def pT (σ:List Row) (ρ:List Nat) (σ0:List Row):List Row:=iu σ ρ σ0++σ0.drop ρ.length
theorem ak.HY {g:FuncId} {as0:List θ} {iM:List Row} {K:θ->List Row->Prop} {E:θ->List Row->Prop} (h:ak P g as0 iM K E) (ρ:List Nat) (ko:ρ.Nodup) (hlen:ρ.length=iM.length) (bb:∀(j i:Nat),ρ[j]?=some i->σ[i]?=iM[j]?) (eX:∀r∈iM,iv r)
  (has:∀a∈as0,fS ρ.length a) {K':θ->List Row->Prop} {E':θ->List Row->Prop} (I:∀a s,K a s->(∀r∈s,Al r)/\fS s.length a/\K' (dI (names ρ σ.length s) a) (pT σ ρ s))
  (de:∀a s,E a s->(∀r∈s,Al r)/\fS s.length a/\E' (dI (names ρ σ.length s) a) (pT σ ρ s)):ak P g (as0.map (dI ρ)) σ K' E':=by
 refine⟨h.1,λQ mn x c rest S B H vs U Β hv h3=>?_⟩;have aH:∀(j i:Nat),ρ[j]?=some i->i<σ.length:=λj i ε=>by
  have gV:j<iM.length:=by rw[<-hlen];exact(b7.1 ε).1
  have:=bb j i ε;rw[a2 gV] at this;exact(b7.1 this).1
 have D6:∀(j i:Nat),ρ[j]?=some i->(ρ.map λi=>B.getD i none)[j]?=B[i]?:=λj i ε=>by
  have hi:i<B.length:=by rw[Β.len];exact aH j i ε
  rw[List.getElem?_map,ε];simp[hi]
 have kL:Names ρ (ρ.map λi=>B.getD i none) iM B σ:=⟨bb,λj i ε=>(D6 j i ε).symm⟩
 have pick:∀(j:Nat) (r:Row) (bo:Option (Nat×Nat)),iM[j]?=some r->(ρ.map λi=>B.getD i none)[j]?=some bo->∃i,ρ[j]?=some i/\σ[i]?=some r/\B[i]?=some bo:=λj r bo μ eZ=>by
  have gV:j<ρ.length:=by rw[hlen];exact(b7.1 μ).1
  have ε:=a2 gV;exact⟨_,ε,by rw[bb j _ ε];exact μ,by rw[<-D6 j _ ε];exact eZ⟩
 have Wb:Holds S (ρ.map λi=>B.getD i none) iM H:=by
  refine⟨Β.dg,by simp[hlen],λj r bo μ eZ=>?_,λi j ej b' b gM gN fE hi ε ik ec hx cO=>?_,λj r b N μ fe hb o=>?_⟩
  ·obtain⟨i,J,γ,π⟩:=pick j r bo μ eZ;exact(Β.row i r bo γ π).plain (B':=B) (σ':=σ) (eX r (cv μ)) _ _
  ·obtain⟨eD,J,γ,π⟩:=pick i ej _ hi hx;obtain⟨bK,Ρ,ag,aV⟩:=pick j b' _ ε cO;refine Β.inj eD bK ej b' b gM gN (λe=>fE ?_) γ ag ik ec π aV;subst e;have iK:=(b7.1 J).1;exact(List.getElem?_inj iK ko).1 (J.trans Ρ.symm)
  ·obtain⟨i,J,γ,π⟩:=pick j r _ μ hb;exact Β.sep i r b N γ fe π o
 refine h.2 Q mn x c rest S _ H vs U Wb ⟨by have:=hv.1;simpa using this,λi a v J γ=>(HV kL (has a (cv J))).1 (hv.2 i _ v (by rw[List.getElem?_map,J];rfl) γ)⟩ ⟨λa σ' ay B' H' v χ he Α jc μ=>?_,λa σ' ay B' H' v χ he Α jc μ=>?_⟩
 ·obtain⟨dZ,dM,h0⟩:=I a σ' χ;obtain⟨dP,p2,p3,p4⟩:=Β.Nr ko hlen bb eX he Α jc dZ;refine h3.ret _ _ ay _ H' v h0 p2 p3 dP ((HV p4 ?_).2 μ);have:(ρ++(List.range (σ'.length-ρ.length)).map (σ.length + ·)).length=σ'.length:=by
   have:=Α.length;simp;omega
  rw[this];exact dM
 ·obtain⟨dZ,dM,h0⟩:=de a σ' χ;obtain⟨dP,p2,p3,p4⟩:=Β.Nr ko hlen bb eX he Α jc dZ;refine h3.x0 _ _ ay _ H' v h0 p2 p3 dP ((HV p4 ?_).2 μ);have:(ρ++(List.range (σ'.length-ρ.length)).map (σ.length + ·)).length=σ'.length:=by
   have:=Α.length;simp;omega
  rw[this];exact dM
theorem ak.rows {g:FuncId} {as0:List θ} {iM:List Row} {K:θ->List Row->Prop} {E:θ->List Row->Prop} (h:ak P g as0 iM K E) (ρ:List Nat) (ko:ρ.Nodup) (hlen:ρ.length=iM.length) (bb:∀(j i:Nat),ρ[j]?=some i->σ[i]?=iM[j]?) (eX:∀r∈iM,iv r)
  (has:∀a∈as0,fS ρ.length a) {K':θ->List Row->Prop} {E':θ->List Row->Prop} (I:∀a s,K a s->(∀r∈s,iv r)/\fS s.length a/\K' (dI (names ρ σ.length s) a) (pT σ ρ s))
  (de:∀a s,E a s->(∀r∈s,iv r)/\fS s.length a/\E' (dI (names ρ σ.length s) a) (pT σ ρ s)):ak P g (as0.map (dI ρ)) σ K' E':=
 h.HY ρ ko hlen bb eX has (λa s x=>let ⟨p,q⟩:=I a s x;⟨λr μ=>.inl (p r μ),q⟩) (λa s x=>let ⟨p,q⟩:=de a s x;⟨λr μ=>.inl (p r μ),q⟩)
end
end Go.TL
