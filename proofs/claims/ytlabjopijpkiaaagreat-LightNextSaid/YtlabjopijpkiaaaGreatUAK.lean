import Derived.Test.YtlabjopijpkiaaaGreatUAJ
set_option maxHeartbeats 16000000
set_option maxRecDepth 20000
set_option linter.unusedSectionVars false
set_option linter.unusedSimpArgs false
set_option linter.unusedVariables false
namespace Go.TL
open Go.Conc
variable [bt]
def Ad (ops:Array Oper) (o:Oper):List Tmp:=
 (o.op.operands.toList.filterMap fun|.tmp t=>some t|_=>none)++(match o.guard with|some (g,_)=>((ops[g]?).bind (·.dst)).toList|none=>[])
def hj (o:Oper):List Nat:=(o.after.toList.filter (Region.binds .any)).map (·.on)
def Ae:List Oper->List (List Nat)->List (List Nat)
 | [],acc=>acc
 | o::os,acc=>Ae os (acc++[hj o++(hj o).flatMap λj=>acc.getD j []])
def D8 (ops:Array Oper):List (List Nat):=Ae ops.toList []
def mP (o:Oper):Bool:=match o.op with
 | .load _ _=>true
 | .indexAddr _ _ _=>true
 | .fieldAddr _ _ _=>true
 | .nilCheck _=>true
 | _=>false
def clash (ops:Array Oper) (tags:List Bool) (i j:Nat) (nA bZ:Oper):Bool:=
 (match bZ.dst with|some d=>(Ad ops nA).contains d||nA.dst==some d|none=>false)||(match nA.dst with|some d=>(Ad ops bZ).contains d|none=>false)||(tags.getD i false&&tags.getD j false&&!(mP nA&&mP bZ))
def lf (ops:Array Oper) (tags:List Bool):Bool:=
 let b:=D8 ops
 (List.range ops.size).all λi=>match ops[i]? with
  | none=>false
  | some nA=>(hj nA).all (λj=>decide (j<i))&&(List.range i).all λj=>match ops[j]? with
   | none=>false
   | some bZ=>!clash ops tags i j nA bZ||(b.getD i []).contains j
section
variable {P:Program} {T:bf} {A:List Nat} {m nt:Nat} {k:List Item} {env:aa} {σ:List Row} {Z:List Item->aa->List Row->Prop} {E:η->aa->List Row->Prop} {ops:Array Oper}
theorem W.congr {env':aa} (h:∀i,a6 env' i=a6 env i) (hW:W P m nt k env σ Z E):W P m nt k env' σ Z E:=
 λQ mn x cs b S B H t γ hb ψ Θ he=>hW Q mn x cs b S B H t γ hb ⟨ψ.holds,λi=>by rw[<-h i];exact ψ.cx i,ψ.size,ψ.rows⟩ Θ he
theorem N5 (tS:Region.Mode):∀(fuel t:Nat) (listed:Array Bool) (i:Nat),Region.linearise.go tS ops fuel t listed [i]=i::Region.linearise.go tS ops fuel t listed []:=by
 have gen:∀(fuel t:Nat) (listed:Array Bool) (acc:List Nat),Region.linearise.go tS ops fuel t listed acc=acc.reverse++Region.linearise.go tS ops fuel t listed []:=by
  intro fuel
  induction fuel with
  | zero=>intro t listed acc;simp[Region.linearise.go]
  | succ fuel Β=>
   intro t listed acc;simp only[Region.linearise.go];split
   ·rename_i i _;rw[Β _ _ (i::acc),Β _ _ [i]];simp
   ·simp
 intro fuel t listed i;rw[gen];rfl
theorem D9 (sT:∀i o,ops[i]?=some o->∀j∈hj o,j<i) (D:Nat->Prop) (dZ:∀i o,ops[i]?=some o->D i->∀j∈hj o,D j) :
  ∀(i:Nat) (o:Oper),ops[i]?=some o->(∀j∈hj o,D j)->∀j∈(D8 ops).getD i [],D j:=by
 have key:∀(os:List Oper) (acc:List (List Nat)),(∀x,os[x]?=ops[acc.length+x]?)->(∀i o,i<acc.length->ops[i]?=some o->(∀j∈hj o,D j)->∀j∈acc.getD i [],D j)->
   ∀i o,i<acc.length+os.length->ops[i]?=some o->(∀j∈hj o,D j)->∀j∈(Ae os acc).getD i [],D j:=by
  intro os
  induction os with
  | nil=>intro acc _ h i o hi;exact h i o (by simpa using hi)
  | cons q os Β=>
   intro acc D' h i o hi Α he;have Ψ:ops[acc.length]?=some q:=by have:=D' 0;simpa using this.symm
   refine Β (acc++[hj q++(hj q).flatMap λj=>acc.getD j []]) (λx=>?_) (λi o hi Α he=>?_) i o (by simp at hi ⊢;omega) Α he
   ·have:=D' (x+1);simp only[List.getElem?_cons_succ] at this;rw[this];simp;congr 1;omega
   ·by_cases aB:i<acc.length
    ·rw[List.getD_eq_getElem?_getD,dE aB,<-List.getD_eq_getElem?_getD];exact h i o aB Α he
    ·have ba:i=acc.length:=by simp at hi;omega
     subst ba;rw[Ψ] at Α;cases Α;rw[List.getD_eq_getElem?_getD,gl (Nat.le_refl _)];simp only[Nat.sub_self,List.getElem?_cons_zero,Option.getD_some,List.mem_append,List.mem_flatMap];rintro j (δ|⟨y,Ο,δ⟩)
     ·exact he j δ
     ·have v':=sT _ _ Ψ y Ο
      have Xi:y<ops.size:=by have:=(Array.getElem?_eq_some_iff.1 Ψ).1;omega
      have N6:ops[y]?=some ops[y]:=fh Xi;exact h y _ v' N6 (dZ y _ N6 (he y Ο)) j δ
 intro i o Α he;exact key ops.toList [] (λx=>θ) (λi o hi=>by simp at hi) i o (by have:=(Array.getElem?_eq_some_iff.1 Α).1;simpa using this) Α he
def pb (ops:Array Oper) (o:Oper) (env env':aa):Prop:=∀t∈Ad ops o,a6 env' t=a6 env t
def x1 (P:Program) (m nt:Nat) (k:List Item) (Z:List Item->aa->List Row->Prop) (E:η->aa->List Row->Prop) (ops:Array Oper) (i:Nat) (o:Oper) (env:aa) (a:η):Prop:=
 ∀env' σ' rest,pb ops o env env'->W P m nt (.inRegion ops rest::k) (cj o env' a) σ' Z E->W P m nt (.inRegion ops (i::rest)::k) env' σ' Z E
def Ic (P:Program) (m nt:Nat) (k:List Item) (Z:List Item->aa->List Row->Prop) (E:η->aa->List Row->Prop) (ops:Array Oper) (i:Nat) (o:Oper) (env:aa) (σ:List Row) (a:η) (gE:List Row):Prop:=
 ∀env' rest,pb ops o env env'->W P m nt (.inRegion ops rest::k) (cj o env' a) gE Z E->W P m nt (.inRegion ops (i::rest)::k) env' σ Z E
def dd (ops:Array Oper) (env0:aa) (as9:Nat->η) (D:Nat->Bool):Nat->aa
 | 0=>env0
 | n+1=>if D n then(match ops[n]? with|some o=>cj o (dd ops env0 as9 D n) (as9 n)|none=>dd ops env0 as9 D n) else dd ops env0 as9 D n
theorem wa {o:Oper} {env:aa} {a:η} {t:Nat}:a6 (cj o env a) t=if o.dst=some t then a else a6 env t:=by
 unfold cj;cases hd:o.dst with
 | none=>simp
 | some d=>simp[a6]
theorem x2 {env0:aa} {as9:Nat->η} {D Af:Nat->Bool} {t:Nat}:∀(n:Nat),(∀i o,i<n->ops[i]?=some o->o.dst=some t->D i=Af i)->a6 (dd ops env0 as9 D n) t=a6 (dd ops env0 as9 Af n) t:=by
 intro n
 induction n with
 | zero=>intro _;rfl
 | succ n Β=>
  intro h;have wc:=Β λi o hi=>h i o R;simp only[dd];cases Α:ops[n]? with
  | none=>cases D n<;>cases Af n<;>simpa using wc
  | some o=>
   by_cases hd:o.dst=some t
   ·rw[h n o (Nat.lt_succ_self n) Α hd];cases Af n
    ·simpa using wc
    ·simp[wa,hd]
   ·cases D n<;>cases Af n<;>simp[wa,hd,wc]
theorem Ea {env0:aa} {as9:Nat->η} {D:Nat->Bool} {t:Nat} {n N:Nat} (Η:n<=N) (h:∀i o,n<=i->i<N->ops[i]?=some o->o.dst=some t->D i=false):a6 (dd ops env0 as9 D N) t=a6 (dd ops env0 as9 D n) t:=by
 induction N with
 | zero=>have:n=0:=by omega
         subst this;rfl
 | succ N Β=>
  by_cases e:n=N+1
  ·subst e;rfl
  ·have wc:=Β R λi o I U=>h i o I R;simp only[dd];cases dZ:D N
   ·simpa using wc
   ·cases Α:ops[N]? with
    | none=>simpa using wc
    | some o=>
     have hd:o.dst≠some t:=λhd=>by rw[h N o R (Nat.lt_succ_self N) Α hd] at dZ;cases dZ
     simp[wa,hd,wc]
def writer (ops:Array Oper) (tags:List Bool) (i:Nat):Bool:=tags.getD i false&&match ops[i]? with|some o=>!mP o|none=>true
theorem W.Xj {as9:Nat->η} {σs:Nat->List Row} {tags:List Bool} {env0:aa} (dK:lf ops tags=true)
  (dY:∀i o,ops[i]?=some o->tags.getD i false=false->x1 P m nt k Z E ops i o (dd ops env0 as9 (λ_=>true) i) (as9 i)/\σs (i+1)=σs i)
  (ff:∀i o,ops[i]?=some o->tags.getD i false=true->Ic P m nt k Z E ops i o (dd ops env0 as9 (λ_=>true) i) (σs i) (as9 i) (σs (i+1))/\(mP o=true->σs (i+1)=σs i))
  (Ie:W P m nt (.inRegion ops []::k) (dd ops env0 as9 (λ_=>true) ops.size) (σs ops.size) Z E) :
  ∀(fuel:Nat) (t:Nat) (listed:Array Bool) (env:aa) (cP:Nat),listed.size=ops.size->
   (∀i,a6 env i=a6 (dd ops env0 as9 (λi=>listed.getD i false) ops.size) i)->
   (∀i o,ops[i]?=some o->listed.getD i false=true->∀j∈hj o,listed.getD j false=true)->
   cP<=ops.size->(∀j,j<ops.size->writer ops tags j=true->(listed.getD j false=true↔j<cP))->
   ((List.range ops.size).filter λi=>!listed.getD i false).length<=fuel->
   W P m nt (.inRegion ops (Region.linearise.go .any ops fuel t listed [])::k) env (σs cP) Z E:=by
 have we:∀i o,ops[i]?=some o->(∀j∈hj o,j<i)/\∀j bZ,j<i->ops[j]?=some bZ->clash ops tags i j o bZ=true->j∈(D8 ops).getD i []:=by
  intro i o Α;have hi:i<ops.size:=(Array.getElem?_eq_some_iff.1 Α).1;unfold lf at dK;simp only[List.all_eq_true,List.mem_range] at dK;have h:=dK i hi;rw[Α] at h;simp only[Bool.and_eq_true,List.all_eq_true,decide_eq_true_eq,List.mem_range] at h;refine⟨h.1,λj bZ δ dq ε=>?_⟩;have U:=h.2 j δ;rw[dq] at U;simp only[ε,Bool.not_true,Bool.false_or,List.contains_iff_mem] at U;exact U
 have sT:∀i o,ops[i]?=some o->∀j∈hj o,j<i:=λi o Α=>(we i o Α).1
 have Eb:∀i o,ops[i]?=some o->writer ops tags i=false->σs (i+1)=σs i:=λi o Α hw=>by
  cases Ν:tags.getD i false with
  | false=>exact(dY i o Α Ν).2
  | true=>
   refine(ff i o Α Ν).2 ?_;unfold writer at hw;rw[Ν,Α] at hw;simpa using hw
 have Ag:∀(d a:Nat),a+d<=ops.size->(∀j,a<=j->j<a+d->writer ops tags j=false)->σs (a+d)=σs a:=by
  intro d
  induction d with
  | zero=>intro a _ _;rfl
  | succ d Β=>
   intro a hle h;have I:ops[a+d]?=some ops[a+d]:=fh R;have:=Eb (a+d) _ I (h (a+d) R R);rw[show a+(d+1)=a+d+1 by omega,this];exact Β a R λj I U=>h j I R
 have N7:∀a b,a<=ops.size->b<=ops.size->(∀j,j<ops.size->writer ops tags j=true->(j<a↔j<b))->σs a=σs b:=λa b μ hb h=>by
  rcases Nat.le_total a b with hle|hle
  ·have:=Ag (b-a) a R λj I U=>by
    cases Ν:writer ops tags j with
    | false=>rfl
    | true=>have:=(h j R Ν).2 R;omega
   rw[show a+(b-a)=b by omega] at this;exact this.symm
  ·have:=Ag (a-b) b R λj I U=>by
    cases Ν:writer ops tags j with
    | false=>rfl
    | true=>have:=(h j R Ν).1 R;omega
   rw[show b+(a-b)=a by omega] at this;exact this
 intro fuel;have done:∀(t:Nat) (listed:Array Bool) (env:aa) (cP:Nat),(∀i,i<ops.size->listed.getD i false=true)->(∀i,a6 env i=a6 (dd ops env0 as9 (λi=>listed.getD i false) ops.size) i)->cP<=ops.size->
   (∀j,j<ops.size->writer ops tags j=true->(listed.getD j false=true↔j<cP))->W P m nt (.inRegion ops []::k) env (σs cP) Z E:=λt listed env cP hY cK iP ir=>by
  have Δ:σs cP=σs ops.size:=N7 cP ops.size iP (Nat.le_refl _) λj δ Ν=>by rw[<-ir j δ Ν];simp[hY j δ,δ]
  rw[Δ];refine .congr (λi=>?_) Ie;rw[cK i];exact x2 ops.size λi o hi _ _=>hY i hi
 have Ig:∀listed:Array Bool,listed.size=ops.size->(∃i,i<ops.size/\listed.getD i false=false)->∃i,i<ops.size/\listed.getD i false=false/\∀j,j<i->listed.getD j false=true:=λlisted cv ⟨i,hi,υ⟩=>by
  induction i using Nat.strongRecOn with
  | _ i Β=>
   by_cases δ:∃j,j<i/\listed.getD j false=false
   ·obtain⟨j,I,U⟩:=δ;exact Β j I R U
   ·exact⟨i,hi,υ,λj bn=>by
     cases h:listed.getD j false with
     | true=>rfl
     | false=>exact absurd ⟨j,bn,h⟩ δ⟩
 induction fuel with
 | zero=>
  intro t listed env cP cv cK bX iP ir Ih;have hY:∀i,i<ops.size->listed.getD i false=true:=λi hi=>by
   cases h:listed.getD i false with
   | true=>rfl
   | false=>
    have lZ:i∈(List.range ops.size).filter λi=>!listed.getD i false:=by rw[List.mem_filter];exact⟨List.mem_range.2 hi,by rw[h];rfl⟩
    have:((List.range ops.size).filter λi=>!listed.getD i false)=[]:=dw.1 R;rw[this] at lZ;simp at lZ
  exact done t listed env cP hY cK iP ir
 | succ fuel Β=>
  intro t listed env cP cv cK bX iP ir Ih;simp only[Region.linearise.go];generalize ih:((List.range ops.size).filter λi=>!listed.getD i true&&((ops[i]?).map (·.after.all λe=>!Region.binds .any e||listed.getD e.on false)).getD false)=rs;have Ah:∀i,i<ops.size->listed.getD i true=listed.getD i false:=λi hi=>by
   rw[Array.getD_eq_getD_getElem?,Array.getD_eq_getD_getElem?,fh R];rfl
  have Ai:∀i,i∈rs↔i<ops.size/\listed.getD i false=false/\∀o,ops[i]?=some o->∀j∈hj o,listed.getD j false=true:=λi=>by
   rw[<-ih];simp only[List.mem_filter,List.mem_range,Bool.and_eq_true,Bool.not_eq_true'];constructor
   ·rintro⟨I,U,ξ⟩;rw[Ah i I] at U;refine⟨I,U,λo Α j δ=>?_⟩;rw[Α] at ξ;simp only[Option.map_some,Option.getD_some,Array.all_eq_true'] at ξ;unfold hj at δ;simp only[List.mem_map,List.mem_filter] at δ;obtain⟨e,⟨Ii,nB⟩,rfl⟩:=δ;have:=ξ e (by simpa using Ii);simpa[nB] using this
   ·rintro⟨I,U,ξ⟩;refine⟨I,by rw[Ah i I];exact U,?_⟩;have Α:ops[i]?=some ops[i]:=fh I;rw[Α];simp only[Option.map_some,Option.getD_some,Array.all_eq_true'];intro e he;by_cases hb:Region.binds .any e=true
    ·have:=ξ _ Α e.on (by unfold hj;simp only[List.mem_map,List.mem_filter];exact⟨e,⟨by simpa using he,hb⟩,rfl⟩);simp[this]
    ·simp[hb]
  cases hi:rs[t % rs.length]? with
  | none=>
   simp only[List.reverse_nil];have zA:rs=[]:=by
    cases κ:rs with
    | nil=>rfl
    | cons x xs=>
     rw[κ] at hi;have aB:t % (x::xs).length<(x::xs).length:=Nat.mod_lt _ θ;rw[a5 aB] at hi;cases hi
   have hY:∀i,i<ops.size->listed.getD i false=true:=λi ba=>by
    cases h:listed.getD i false with
    | true=>rfl
    | false=>
     obtain⟨r,I,U,ξ⟩:=Ig listed cv ⟨i,ba,h⟩;have:r∈rs:=(Ai r).2 ⟨I,U,λo Α j δ=>ξ j (sT r o Α j δ)⟩;rw[zA] at this;simp at this
   exact done t listed env cP hY cK iP ir
  | some i=>
   simp only;rw[N5];have lZ:i∈rs:=cr hi;obtain⟨I,U,ξ⟩:=(Ai i).1 lZ;have Α:ops[i]?=some ops[i]:=fh I;have Ij:=D9 sT (λj=>listed.getD j false=true) (λj o δ υ=>bX j o δ υ) i _ Α (ξ _ Α);have low:∀j bZ,j<i->ops[j]?=some bZ->clash ops tags i j ops[i] bZ=true->listed.getD j false=true:=λj bZ δ dq ε=>Ij j ((we i _ Α).2 j bZ δ dq ε);have high:∀j bZ,i<j->ops[j]?=some bZ->clash ops tags j i bZ ops[i]=true->listed.getD j false=false:=λj bZ δ dq ε=>by
    cases υ:listed.getD j false with
    | false=>rfl
    | true=>
     have:=D9 sT (λj=>listed.getD j false=true) (λj o δ υ=>bX j o δ υ) j bZ dq (bX j bZ dq υ) i ((we j bZ dq).2 i _ δ Α ε);rw[U] at this;cases this
   have same:pb ops ops[i] (dd ops env0 as9 (λ_=>true) i) env:=λx γ=>by
    rw[cK x];have c1:a6 (dd ops env0 as9 (λi=>listed.getD i false) ops.size) x=a6 (dd ops env0 as9 (λi=>listed.getD i false) i) x:=Ea R λj bZ x3 Ik dq hd=>by
     by_cases e:j=i
     ·subst e;exact U
     ·refine high j bZ R dq ?_;unfold clash;simp[hd,γ]
    rw[c1];exact x2 i λj bZ δ dq hd=>low j bZ δ dq (by unfold clash;simp[hd,γ])
   have nq:∀x,a6 (cj ops[i] env (as9 i)) x=a6 (dd ops env0 as9 (λj=>(listed.setIfInBounds i true).getD j false) ops.size) x:=λx=>by
    have kh:∀j,(listed.setIfInBounds i true).getD j false=if j=i then true else listed.getD j false:=λj=>by
     rw[Array.getD_eq_getD_getElem?,Array.getD_eq_getD_getElem?];by_cases e:j=i
     ·subst e;rw[Array.getElem?_setIfInBounds_self_of_lt R];simp
     ·rw[Array.getElem?_setIfInBounds_ne (Ne.symm e),if_neg e]
    rw[wa];by_cases hd:ops[i].dst=some x
    ·rw[if_pos hd];have c1:a6 (dd ops env0 as9 (λj=>(listed.setIfInBounds i true).getD j false) ops.size) x=a6 (dd ops env0 as9 (λj=>(listed.setIfInBounds i true).getD j false) (i+1)) x:=Ea R λj bZ x3 Ik dq ui=>by
      rw[kh,if_neg R];refine high j bZ R dq ?_;unfold clash;simp[hd,ui]
     rw[c1];simp only[dd,kh,if_true,Α,wa,hd]
    ·rw[if_neg hd,cK x];exact x2 ops.size λj bZ δ dq ui=>by
      rw[kh,if_neg];intro e;subst e;rw[Α] at dq;cases dq;exact hd ui
   have kh:∀j,(listed.setIfInBounds i true).getD j false=if j=i then true else listed.getD j false:=λj=>by
    rw[Array.getD_eq_getD_getElem?,Array.getD_eq_getD_getElem?];by_cases e:j=i
    ·subst e;rw[Array.getElem?_setIfInBounds_self_of_lt R];simp
    ·rw[Array.getElem?_setIfInBounds_ne (Ne.symm e),if_neg e]
   have wh:((List.range ops.size).filter λj=>!(listed.setIfInBounds i true).getD j false).length<=fuel:=by
    have aB:((List.range ops.size).filter λj=>!(listed.setIfInBounds i true).getD j false).length<((List.range ops.size).filter λj=>!listed.getD j false).length:=by
     have:((List.range ops.size).filter λj=>!(listed.setIfInBounds i true).getD j false)=((List.range ops.size).filter λj=>!listed.getD j false).filter λj=>j != i:=by
      rw[List.filter_filter];apply List.filter_congr;intro j _;rw[kh];by_cases e:j=i
      ·subst e;simp
      ·simp[e]
     rw[this];have hm:i∈(List.range ops.size).filter λj=>!listed.getD j false:=by
      rw[List.mem_filter];exact⟨List.mem_range.2 I,by rw[U];rfl⟩
     exact List.length_filter_lt_length_iff_exists.2 ⟨i,hm,θ⟩
    omega
   have rC:∀j o,ops[j]?=some o->(listed.setIfInBounds i true).getD j false=true->∀y∈hj o,(listed.setIfInBounds i true).getD y false=true:=λj o δ υ y Ο=>by
    rw[kh] at υ ⊢;by_cases e:y=i
    ·rw[if_pos e]
    ·rw[if_neg e];by_cases Γ:j=i
     ·subst Γ;rw[Α] at δ;cases δ;exact ξ _ Α y Ο
     ·rw[if_neg Γ] at υ;exact bX j o δ υ y Ο
   have N8:∀j,writer ops tags j=true->tags.getD j false=true:=λj h=>by
    unfold writer at h;rw[Bool.and_eq_true] at h;exact h.1
   cases nC:tags.getD i false with
   | false=>
    refine(dY i _ Α nC).1 env (σs cP) _ same ?_;refine Β _ _ _ cP (by simpa using cv) nq rC iP (λj δ Ν=>?_) wh;rw[kh];have:j≠i:=λe=>by subst e;rw[N8 j Ν] at nC;cases nC
    rw[if_neg this];exact ir j δ Ν
   | true=>
    have N9:∀j bZ,ops[j]?=some bZ->writer ops tags j=true->clash ops tags i j ops[i] bZ=true/\clash ops tags j i bZ ops[i]=true:=λj bZ dq Ν=>by
     have I:=N8 j Ν;unfold writer at Ν;rw[I,dq] at Ν;have U:mP bZ=false:=by simpa using Ν
     unfold clash;rw[I,nC,U];simp
    have tG:∀j,j<ops.size->writer ops tags j=true->j<i->listed.getD j false=true:=λj δ Ν wi=>low j _ wi (fh δ) (N9 j _ (fh δ) Ν).1
    have N':∀j,j<ops.size->writer ops tags j=true->i<j->listed.getD j false=false:=λj δ Ν wi=>high j _ wi (fh δ) (N9 j _ (fh δ) Ν).2
    have Il:σs cP=σs i:=N7 cP i iP R λj δ Ν=>by
     rw[<-ir j δ Ν];constructor
     ·intro υ;apply Classical.byContradiction;intro Η;by_cases e:j=i
      ·subst e;rw[U] at υ;cases υ
      ·rw[N' j δ Ν R] at υ;cases υ
     ·exact tG j δ Ν
    cases ki:writer ops tags i with
    | false=>
     have es:=Eb i _ Α ki
     have ν:=(ff i _ Α nC).1;rw[es] at ν;rw[Il];refine ν env _ same ?_;rw[<-Il];refine Β _ _ _ cP (by simpa using cv) nq rC iP (λj δ Ν=>?_) wh;rw[kh];have:j≠i:=λe=>by subst e;rw[Ν] at ki;cases ki
     rw[if_neg this];exact ir j δ Ν
    | true=>
     rw[Il];refine(ff i _ Α nC).1 env _ same ?_;refine Β _ _ _ (i+1) (by simpa using cv) nq rC R (λj δ Ν=>?_) wh;rw[kh];by_cases e:j=i
     ·subst e;simp
     ·rw[if_neg e];constructor
      ·intro υ;apply Classical.byContradiction;intro Η;rw[N' j δ Ν R] at υ;cases υ
      ·intro aB;exact tG j δ Ν R
def Ec:List Oper->List Nat->List Nat
 | [],acc=>acc
 | o::os,acc=>Ec os (acc++[(hj o).foldr (λj m=>(1 <<< j)|||acc.getD j 0|||m) 0])
def Oa (ops:Array Oper) (tags:List Bool):Bool:=
 let b:=Ec ops.toList []
 (List.range ops.size).all λi=>match ops[i]? with
  | none=>false
  | some nA=>(hj nA).all (λj=>decide (j<i))&&(List.range i).all λj=>match ops[j]? with
   | none=>false
   | some bZ=>!clash ops tags i j nA bZ||(b.getD i 0).testBit j
def Ob (acc:List (List Nat)) (uj:List Nat):Prop:=acc.length=uj.length/\∀i j,(uj.getD i 0).testBit j=true↔j∈acc.getD i []
theorem Xk:∀(os:List Oper) (acc:List (List Nat)) (uj:List Nat),Ob acc uj->Ob (Ae os acc) (Ec os uj):=by
 intro os
 induction os with
 | nil=>intro acc uj h;exact h
 | cons o os Β=>
  intro acc uj h;simp only[Ae,Ec];refine Β _ _ ⟨by simp[h.1],λi j=>?_⟩;have one:∀l:List Nat,(l.foldr (λj m=>(1 <<< j)|||uj.getD j 0|||m) 0).testBit j=true↔j∈l++l.flatMap λj=>acc.getD j []:=by
   intro l
   induction l with
   | nil=>simp
   | cons a l mJ=>
    rw[List.foldr_cons,Nat.testBit_or,Nat.testBit_or,Nat.one_shiftLeft,Nat.testBit_two_pow];simp only[Bool.or_eq_true,decide_eq_true_eq,h.2 a j,mJ,List.mem_append,List.mem_cons,List.flatMap_cons];constructor
    ·rintro((e|e)|e|e)
     ·exact .inl (.inl e.symm)
     ·exact .inr (.inl e)
     ·exact .inl (.inr e)
     ·exact .inr (.inr e)
    ·rintro((e|e)|e|e)
     ·exact .inl (.inl e.symm)
     ·exact .inr (.inl e)
     ·exact .inl (.inr e)
     ·exact .inr (.inr e)
  rw[List.getD_eq_getElem?_getD,List.getD_eq_getElem?_getD];by_cases hi:i<acc.length
  ·rw[dE hi,dE (by rw[<-h.1];exact hi),<-List.getD_eq_getElem?_getD,<-List.getD_eq_getElem?_getD];exact h.2 i j
  ·rw[gl (by have:=h.1;omega),gl R,<-h.1];cases hd:i-acc.length with
   | zero=>simpa using one (hj o)
   | succ n=>simp
theorem jk {ops:Array Oper} {tags:List Bool} (h:Oa ops tags=true):lf ops tags=true:=by
 unfold Oa at h;unfold lf;have hb:=Xk ops.toList [] [] ⟨rfl,λi j=>θ⟩;simp only[List.all_eq_true] at h ⊢;intro i hi;have I:=h i hi;cases Α:ops[i]? with
 | none=>rw[Α] at I;exact I
 | some nA=>
  rw[Α] at I;simp only[Bool.and_eq_true,List.all_eq_true] at I ⊢;refine⟨I.1,λj δ=>?_⟩;have U:=I.2 j δ;cases dq:ops[j]? with
  | none=>rw[dq] at U;exact U
  | some bZ=>
   rw[dq] at U;simp only[Bool.or_eq_true] at U ⊢;rcases U with U|U
   ·exact .inl U
   ·exact .inr (List.contains_iff_mem.2 ((hb.2 i j).1 U))
end
section
variable {P:Program} {T:bf} {A:List Nat} {m nt:Nat} {k:List Item} {env env':aa} {σ:List Row} {Z:List Item->aa->List Row->Prop} {E:η->aa->List Row->Prop} {ops:Array Oper}
theorem Ed {o:Oper} (h:pb ops o env env'):∀x,x∈o.op.operands.toList->aT env' x=aT env x:=λx γ=>by
 cases x with
 | tmp t=>
  refine h t ?_;unfold Ad;simp only[List.mem_append,List.mem_filterMap];exact .inl ⟨.tmp t,γ,rfl⟩
 | _=>rfl
theorem rD {o:Oper} (h:pb ops o env env'):fK env' ops o=fK env ops o:=by
 unfold fK;cases Ρ:o.guard with
 | none=>rfl
 | some x=>
  obtain⟨j,want⟩:=x;simp only;cases hd:(ops[j]?).bind (·.dst) with
  | none=>rfl
  | some d=>
   simp only;have:a6 env' d=a6 env d:=h d (by unfold Ad;rw[Ρ];simp[hd]);rw[this]
theorem Ee {cT:Array (Nat×Operand)} (h:∀p∈cT,aT env' p.2=aT env p.2):sO env' cT=sO env cT:=by
 unfold sO;exact List.map_congr_left λp ψ=>by rw[h p (by simpa using ψ)]
theorem Ef {dc:Array Operand} (h:∀x∈dc,aT env' x=aT env x):dc.toList.map (aT env')=dc.toList.map (aT env):=List.map_congr_left λx γ=>h x (by simpa using γ)
theorem Eg {o:Option Operand} (h:∀x,o=some x->aT env' x=aT env x):o.map (aT env')=o.map (aT env):=by
 cases o with
 | none=>rfl
 | some x=>simp[h x rfl]
theorem Eh {o:Oper} (ν:pb ops o env env'):mN T A env' o=mN T A env o:=by
 have h:=Ed ν;obtain⟨dst,op,type,pos,after,guard⟩:=o;simp only at h;unfold mN;cases op<;>simp only<;>try rfl
 all_goals simp only[Op.operands,List.mem_cons,List.not_mem_nil,or_false,forall_eq_or_imp,forall_eq] at h
 case move x=>rw[h]
 case assign x=>rw[h]
 case pick c a b=>rw[h.1,h.2.1,h.2.2]
 case box ty x=>rw[h]
 case build ty cT=>rw[Ee λp ψ=>h p.2 (by simp only[List.mem_map];exact⟨p,by simpa using ψ,rfl⟩)]
 case buildSlice ty n cT=>rw[Ee λp ψ=>h p.2 (by simp only[List.mem_map];exact⟨p,by simpa using ψ,rfl⟩)]
 case load ty x=>rw[h]
 case binOp op a x y b=>rw[h.1,h.2]
 case unOp op a x=>rw[h]
 case convert a b x=>rw[h]
 case index ty x y=>rw[h.1,h.2]
 case nilCheck x=>rw[h]
 case sliceToArrayPointer ty x=>rw[h]
 case makeInterface a x=>rw[h]
 case makeFunc f dc cs=>rw[Ef λx γ=>h x (by simp[γ]),Ef λx γ=>h x (by simp[γ])]
 case makeSlice a x y=>rw[h.1,h.2]
 case slice ty x lo hi od=>
  cases od with
  | some m=>rfl
  | none=>
   simp only;rw[h x θ,Eg λy Ο=>h y (by simp[Ο]),Eg λy Ο=>h y (by simp[Ο])]
 case fieldAddr ty x f=>rw[h]
 case indexAddr ty x y=>rw[h.1,h.2]
 case typeAssert x a b c=>rw[h]
 case extract x i=>rw[h]
 case call c=>
  obtain⟨callee,⟨args⟩,⟨ea⟩⟩:=c;cases callee
  case value=>rfl
  case invoke=>rfl
  rename_i b;have cU:∀x∈args,aT env' x=aT env x:=λx γ=>h x (by simp[Call.operands,γ])
  match args,ea with
  | [x],[ty]=>simp only;rw[cU x θ]
  | [x,y],[uh,ty]=>simp only;rw[cU x θ,cU y θ]
  | [],_=>rfl
  | [_],[]=>rfl
  | [_],_::_::_=>rfl
  | [_,_],[]=>rfl
  | [_,_],[_]=>rfl
  | [_,_],_::_::_::_=>rfl
  | _::_::_::_,_=>rfl
theorem Oc {o:Oper} (ν:pb ops o env env'):kK T A env' σ o=kK T A env σ o:=by
 have h:=Ed ν;obtain⟨dst,op,type,pos,after,guard⟩:=o;simp only at h;unfold kK;cases op<;>simp only<;>try rfl
 all_goals simp only[Op.operands,List.mem_cons,List.not_mem_nil,or_false,forall_eq_or_imp,forall_eq] at h
 case box ty x=>rw[h]
 case build ty cT=>rw[Ee λp ψ=>h p.2 (by simp only[List.mem_map];exact⟨p,by simpa using ψ,rfl⟩)]
 case buildSlice ty n cT=>rw[Ee λp ψ=>h p.2 (by simp only[List.mem_map];exact⟨p,by simpa using ψ,rfl⟩)]
 case load ty x=>rw[h]
 case store ty x y=>rw[h.1,h.2]
 case makeSlice a x y=>rw[h.1,h.2]
 case makeMap ty r=>cases r<;>rfl
 case convert a b x=>rw[h]
 case nilCheck x=>rw[h]
 case binOp op ty x y d=>
  split
  all_goals first
   | rfl
   |(rename_i heq;cases heq<;>simp only[h.1])
 case mapUpdate ty x y z=>rw[h.1,h.2.1,h.2.2]
 case insert ty x y z=>rw[h.1,h.2.1,h.2.2]
 case lookup ty x y ok=>rw[h.1,h.2]
 case range ty x=>rw[h]
 case next x b=>
  cases b<;>simp only<;>try rfl
  rw[h]
 case entry x=>rw[h]
 case slice ty x lo hi od=>
  cases od with
  | some m=>rfl
  | none=>
   simp only;rw[h x θ,Eg λy Ο=>h y (by simp[Ο]),Eg λy Ο=>h y (by simp[Ο])]
 case fieldAddr ty x f=>rw[h]
 case indexAddr ty x y=>rw[h.1,h.2]
 case call c=>
  obtain⟨callee,⟨args⟩,⟨ea⟩⟩:=c;cases callee
  case value=>rfl
  case invoke=>rfl
  rename_i b;have cU:∀x∈args,aT env' x=aT env x:=λx γ=>h x (by simp[Call.operands,γ])
  match args,ea with
  | [x],[ty]=>simp only;rw[cU x θ]
  | [x,y],[uh,ty]=>simp only;rw[cU x θ,cU y θ]
  | [],_=>rfl
  | [_],[]=>rfl
  | [_],_::_::_=>rfl
  | [_,_],[]=>rfl
  | [_,_],[_]=>rfl
  | [_,_],_::_::_::_=>rfl
  | _::_::_::_,_=>rfl
def gi (P:Program) (f:η) (args:List η) (r:η):Prop:=∀σ,hE P f args σ (λa s=>a=r/\s=σ) (λ_ _=>False)
def cF.gD (r:cF) (K:η->Prop) (s:Prop):Prop:=match r with
 | .ok a=>K a
 | .ca p (.ok a)=>p/\K a
 | .ca _ _=>False
 | .bad=>s
def da.gD (r:da) (K:η->List Row->Prop):Prop:=match r with
 | .ok a σ'=>K a σ'
 | .ca p (.ok a σ')=>p/\K a σ'
 | _=>False
theorem Xl {r r':cF} {K:η->Prop} {s:Prop} (h:r=r'):r.gD K s=r'.gD K s:=by rw[h]
theorem Xm {r r':da} {K:η->List Row->Prop} (h:r=r'):r.gD K=r'.gD K:=by rw[h]
def dcall (P:Program) (f:η) (args:List η) (σ:List Row) (gZ:η->Prop) (kL:η->List Row->Prop):Prop:=
 (∃r,gi P f args r/\gZ r)\/∃r σ',hE P f args σ (λa s=>a=r/\s=σ') (λ_ _=>False)/\kL r σ'
theorem gv {P:Program} {f:η} {args:List η} {σ:List Row} {gZ:η->Prop} {kL:η->List Row->Prop} {r:η} (h:gi P f args r) (k:gZ r):dcall P f args σ gZ kL:=.inl ⟨r,h,k⟩
theorem Ei {P:Program} {f:η} {args:List η} {σ σ':List Row} {gZ:η->Prop} {kL:η->List Row->Prop} {r:η} (h:hE P f args σ (λa s=>a=r/\s=σ') (λ_ _=>False)) (k:kL r σ'):dcall P f args σ gZ kL:=.inr ⟨r,σ',h,k⟩
def Aj (P:Program) (T:bf) (A:List Nat) (env:aa) (o:Oper) (σ:List Row) (gZ:η->Prop) (kL:η->List Row->Prop):Prop:=match o.op with
 | .call ⟨.value f,args,_⟩=>dcall P (aT env f) (args.toList.map (aT env)) σ gZ kL
 | .panic _=>False
 | .defer _=>False
 | _=>(mN T A env o).gD gZ ((kK T A env σ o).gD kL)
theorem Xn {P:Program} {T:bf} {A:List Nat} {env:aa} {o:Oper} {σ:List Row} {gZ:η->Prop} {kL:η->List Row->Prop}:Aj P T A env o σ gZ kL=match o.op with
 | .call ⟨.value f,args,_⟩=>dcall P (aT env f) (args.toList.map (aT env)) σ gZ kL
 | .panic _=>False
 | .defer _=>False
 | _=>(mN T A env o).gD gZ ((kK T A env σ o).gD kL):=Eq.trans rfl rfl
theorem Xo {a:η} {K:η->Prop} {s:Prop}:cF.gD (.ok a) K s=K a:=Eq.trans rfl rfl
theorem Xp {p:Prop} {a:η} {K:η->Prop} {s:Prop}:cF.gD (.ca p (.ok a)) K s=(p/\K a):=Eq.trans rfl rfl
theorem Xq {K:η->Prop} {s:Prop}:cF.gD .bad K s=s:=Eq.trans rfl rfl
theorem Xr {a:η} {σ:List Row} {K:η->List Row->Prop}:da.gD (.ok a σ) K=K a σ:=Eq.trans rfl rfl
theorem Xs {p:Prop} {a:η} {σ:List Row} {K:η->List Row->Prop}:da.gD (.ca p (.ok a σ)) K=(p/\K a σ):=Eq.trans rfl rfl
def jl (P:Program) (T:bf) (A:List Nat) (nt:Nat) (ops:Array Oper):List Nat->aa->List Row->List Bool->(aa->List Row->Prop)->Prop
 | [],env,σ,tags,K=>lf ops tags=true/\K env σ
 | i::is,env,σ,tags,K=>gY ops[i]? λo=>h3 nt o=true/\gY (fK env ops o) λw=>
   jR w (jl P T A nt ops is (cj o env .cp) σ (tags++[false]) K)
    (Aj P T A env o σ (λa=>jl P T A nt ops is (cj o env a) σ (tags++[false]) K) (λa σ'=>jl P T A nt ops is (cj o env a) σ' (tags++[true]) K))
def Od (P:Program) (T:bf) (A:List Nat) (nt:Nat) (ops:Array Oper) (is:List Nat) (o:Oper) (env:aa) (σ:List Row) (tags:List Bool) (K:aa->List Row->Prop) (a:η):Prop:=jl P T A nt ops is (cj o env a) σ (tags++[false]) K
def Oe (P:Program) (T:bf) (A:List Nat) (nt:Nat) (ops:Array Oper) (is:List Nat) (o:Oper) (env:aa) (tags:List Bool) (K:aa->List Row->Prop) (a:η) (σ':List Row):Prop:=jl P T A nt ops is (cj o env a) σ' (tags++[true]) K
theorem dM {tags:List Bool} {K:aa->List Row->Prop}:jl P T A nt ops [] env σ tags K=(lf ops tags=true/\K env σ):=Eq.trans rfl rfl
theorem dN {i:Nat} {is:List Nat} {tags:List Bool} {K:aa->List Row->Prop}:jl P T A nt ops (i::is) env σ tags K=gY ops[i]? λo=>h3 nt o=true/\gY (fK env ops o) λw=>
   jR w (jl P T A nt ops is (cj o env .cp) σ (tags++[false]) K) (Aj P T A env o σ (Od P T A nt ops is o env σ tags K) (Oe P T A nt ops is o env tags K)):=Eq.trans rfl rfl
theorem Xt {ops:Array Oper} {is:List Nat} {o:Oper} {tags:List Bool} {K:aa->List Row->Prop} {a:η}:Od P T A nt ops is o env σ tags K a=jl P T A nt ops is (cj o env a) σ (tags++[false]) K:=Eq.trans rfl rfl
theorem Xu {ops:Array Oper} {is:List Nat} {o:Oper} {tags:List Bool} {K:aa->List Row->Prop} {a:η}:Oe P T A nt ops is o env tags K a σ=jl P T A nt ops is (cj o env a) σ (tags++[true]) K:=Eq.trans rfl rfl
def pd (P:Program) (m nt:Nat) (k:List Item) (Z:List Item->aa->List Row->Prop) (E:η->aa->List Row->Prop) (ops:Array Oper) (i:Nat) (o:Oper) (env:aa) (σ:List Row) (tag:Bool) (a:η) (σ':List Row):Prop:=
 if tag then Ic P m nt k Z E ops i o env σ a σ'/\(mP o=true->σ'=σ) else x1 P m nt k Z E ops i o env a/\σ'=σ
theorem Xv {ty:TypeId} {x a:η} {σ':List Row} {p:Prop} (h:vL T ty σ x=.ok a σ'\/vL T ty σ x=.ca p (.ok a σ')):σ'=σ:=by
 unfold vL tW at h
 repeat' split at h
 all_goals simp[cF.dv] at h
 all_goals first|exact h.2.symm|skip
theorem Xw {ty:TypeId} {x b6 a:η} {σ':List Row} {p:Prop} (h:vN T ty σ x b6=.ok a σ'\/vN T ty σ x b6=.ca p (.ok a σ')):σ'=σ:=by
 unfold vN at h
 repeat' split at h
 all_goals simp at h
 all_goals first|exact h.2.2.symm|exact h.2.symm|skip
theorem Xx {ty:TypeId} {f:Nat} {x a:η} {σ':List Row} {p:Prop} (h:vM T ty f σ x=.ok a σ'\/vM T ty f σ x=.ca p (.ok a σ')):σ'=σ:=by
 unfold vM at h
 repeat' split at h
 all_goals simp at h
 all_goals first|exact h.2.2.symm|exact h.2.symm|skip
theorem Xy {x a:η} {σ':List Row} {p:Prop} (h:vZ σ x=.ok a σ'\/vZ σ x=.ca p (.ok a σ')):σ'=σ:=by
 unfold vZ at h
 repeat' split at h
 all_goals simp at h
 all_goals first|exact h.2.2.symm|exact h.2.symm|skip
theorem Ej {o:Oper} {a:η} {σ':List Row} {p:Prop} (κ:mP o=true) (h:kK T A env σ o=.ok a σ'\/kK T A env σ o=.ca p (.ok a σ')):σ'=σ:=by
 unfold mP at κ;unfold kK at h;split at κ
 ·rename_i ty x Ξ;rw[Ξ] at h;exact Xv h
 ·rename_i ty x b6 Ξ;rw[Ξ] at h;exact Xw h
 ·rename_i ty x f Ξ;rw[Ξ] at h;exact Xx h
 ·rename_i x Ξ;rw[Ξ] at h;exact Xy h
 ·cases κ
theorem Xz (Ι:bV P T) {i:Nat} {is:List Nat} {tags:List Bool} {K:aa->List Row->Prop} (h:jl P T A nt ops (i::is) env σ tags K) :
  ∃o a σ' tag,ops[i]?=some o/\pd P m nt k Z E ops i o env σ tag a σ'/\jl P T A nt ops is (cj o env a) σ' (tags++[tag]) K:=by
 unfold jl gY at h;split at h
 ·exact h.elim
 ·rename_i o Α;obtain⟨hd,h⟩:=h;split at h
  ·exact h.elim
  rename_i w hw;unfold jR at h;cases w
  ·replace h:=h.1 rfl
   refine⟨o,.cp,σ,false,Α,?_,h⟩;unfold pd;simp only[Bool.false_eq_true,if_false];exact⟨λenv' σ' rest ν hW=>.unwanted Α (by rw[rD ν];exact hw) hd hW,trivial⟩
  ·replace h:=h.2 rfl
   unfold Aj at h;split at h
   ·rename_i f args ea Ξ;have Ak:∀env',pb ops o env env'->aT env' f=aT env f/\args.toList.map (aT env')=args.toList.map (aT env):=λenv' ν=>by
     have γ:=Ed ν;rw[Ξ] at γ;refine⟨γ f (by simp[Op.operands,Call.operands]),Ef λx wj=>γ x (by simp[Op.operands,Call.operands,wj])⟩
    rcases h with⟨r,ε,h⟩|⟨r,σ',ε,h⟩
    ·refine⟨o,r,σ,false,Α,?_,h⟩;unfold pd;simp only[Bool.false_eq_true,if_false];refine⟨λenv' σ' rest ν hW=>.call Α (by rw[rD ν];exact hw) hd Ξ ?_,trivial⟩;obtain⟨Δ,Γ⟩:=Ak env' ν;rw[Δ,Γ];exact(ε σ').mono (λa s ⟨x,y⟩=>by subst x;subst y;exact hW) (λ_ _ h=>h.elim)
    ·refine⟨o,r,σ',true,Α,?_,h⟩;unfold pd;simp only[if_true];refine⟨?_,λκ=>by unfold mP at κ;rw[Ξ] at κ;cases κ⟩;refine λenv' rest ν hW=>.call Α (by rw[rD ν];exact hw) hd Ξ ?_;obtain⟨Δ,Γ⟩:=Ak env' ν;rw[Δ,Γ];exact ε.mono (λa s ⟨x,y⟩=>by subst x;subst y;exact hW) (λ_ _ h=>h.elim)
   ·exact h.elim
   ·exact h.elim
   ·rename_i I U ξ;have Al:∀(r:cF) (a:η),mN T A env o=r->(∀K:η->List Row->Prop,∀s,K a s->(r.dv s).holds K)->(∀σ s,r.or σ s=r.dv σ)->x1 P m nt k Z E ops i o env a:=λr a κ aY Im env' σ' rest ν hW=>by
     refine .op (A:=A) Ι Α (by rw[rD ν];exact hw) hd (λc ε=>ξ c ε) ?_;rw[Eh ν,κ,Im];exact aY _ _ hW
    unfold cF.gD at h;split at h
    ·rename_i a μ;refine⟨o,a,σ,false,Α,?_,h⟩;unfold pd;simp only[Bool.false_eq_true,if_false];exact⟨Al _ a μ (λK s ς=>ς) (λ_ _=>rfl),trivial⟩
    ·rename_i p a μ;refine⟨o,a,σ,false,Α,?_,h.2⟩;unfold pd;simp only[Bool.false_eq_true,if_false];exact⟨Al _ a μ (λK s ς=>⟨h.1,ς⟩) (λ_ _=>rfl),trivial⟩
    ·exact h.elim
    ·rename_i xW;have Ek:∀(a:η) (σ':List Row) (r:da),kK T A env σ o=r->(∀K:η->List Row->Prop,K a σ'->r.holds K)->Ic P m nt k Z E ops i o env σ a σ':=λa σ' r κ aY env' rest ν hW=>by
      refine .op (A:=A) Ι Α (by rw[rD ν];exact hw) hd (λc ε=>ξ c ε) ?_;rw[Eh ν,Oc ν,xW,κ];exact aY _ hW
     unfold da.gD at h;split at h
     ·rename_i a σ' μ;refine⟨o,a,σ',true,Α,?_,h⟩;unfold pd;simp only[if_true];exact⟨Ek a σ' _ μ λK ς=>ς,λκ=>Ej (p:=True) κ (.inl μ)⟩
     ·rename_i p a σ' μ;refine⟨o,a,σ',true,Α,?_,h.2⟩;unfold pd;simp only[if_true];exact⟨Ek a σ' _ μ λK ς=>⟨h.1,ς⟩,λκ=>Ej κ (.inr μ)⟩
     ·exact h.elim
theorem Of {env0:aa} {as9 kM:Nat->η} {D:Nat->Bool}:∀n,(∀j,j<n->as9 j=kM j)->dd ops env0 as9 D n=dd ops env0 kM D n:=by
 intro n
 induction n with
 | zero=>intro _;rfl
 | succ n Β=>
  intro h;simp only[dd];rw[Β λj δ=>h j R,h n (Nat.lt_succ_self n)]
theorem XA (Ι:bV P T) {K:aa->List Row->Prop} {env0:aa}:∀(d i:Nat) (tags:List Bool) (as9:Nat->η) (σs:Nat->List Row),i+d=ops.size->tags.length=i->
  (∀j o,j<i->ops[j]?=some o->pd P m nt k Z E ops j o (dd ops env0 as9 (λ_=>true) j) (σs j) (tags.getD j false) (as9 j) (σs (j+1)))->
  jl P T A nt ops (List.range' i d) (dd ops env0 as9 (λ_=>true) i) (σs i) tags K->
  ∃(tags:List Bool) (as9:Nat->η) (rE:Nat->List Row),lf ops tags=true/\rE 0=σs 0/\(∀j o,ops[j]?=some o->pd P m nt k Z E ops j o (dd ops env0 as9 (λ_=>true) j) (rE j) (tags.getD j false) (as9 j) (rE (j+1)))/\K (dd ops env0 as9 (λ_=>true) ops.size) (rE ops.size):=by
 intro d
 induction d with
 | zero=>
  intro i tags as9 σs hi Ν δ h;simp only[List.range'_zero,jl] at h;have:i=ops.size:=R;subst this;exact⟨tags,as9,σs,h.1,rfl,λj o Α=>δ j o (Array.getElem?_eq_some_iff.1 Α).1 Α,h.2⟩
 | succ d Β=>
  intro i tags as9 σs hi Ν δ h;rw[List.range'_succ] at h;obtain⟨o,a,σ',tag,Α,Io,h⟩:=Xz (m:=m) (k:=k) (Z:=Z) (E:=E) Ι h;let kM:Nat->η:=λj=>if j=i then a else as9 j
  let rE:Nat->List Row:=λj=>if j=i+1 then σ' else σs j
  have wm:∀j,j<=i->dd ops env0 as9 (λ_=>true) j=dd ops env0 kM (λ_=>true) j:=λj δ=>Of j λx γ=>by simp only[kM];rw[if_neg R]
  have Ip:dd ops env0 kM (λ_=>true) (i+1)=cj o (dd ops env0 as9 (λ_=>true) i) a:=by
   simp only[dd,if_true,Α];rw[<-wm i (Nat.le_refl i)];simp only[kM,if_true]
  have:=Β (i+1) (tags++[tag]) kM rE R (by simp[Ν]) (λj bZ aB dq=>?_) ?_
  ·obtain⟨t2,bk,s2,Τ,af,aZ,cA⟩:=this;exact⟨t2,bk,s2,Τ,af.trans (by simp only[rE];rw[if_neg R]),aZ,cA⟩
  ·by_cases e:j=i
   ·subst e;rw[Α] at dq;cases dq;rw[<-wm j (Nat.le_refl j)];have Δ:(tags++[tag]).getD j false=tag:=by rw[List.getD_eq_getElem?_getD,gl R,Ν];simp
    rw[Δ];simp only[kM,rE,if_true];rw[if_neg R];exact Io
   ·have:=δ j bZ R dq;rw[<-wm j R];have Δ:(tags++[tag]).getD j false=tags.getD j false:=by rw[List.getD_eq_getElem?_getD,dE R,<-List.getD_eq_getElem?_getD]
    rw[Δ];simp only[kM,rE];rw[if_neg R,if_neg R,if_neg R];exact this
  ·rw[Ip];simp only[rE,if_true];exact h
theorem W.draw (Ι:bV P T) (sU:P.follows .mixedOrders=true) {id:Nat} (h:∀Ε:aa->List Row->Prop,(∀env σ,W P m nt k env σ Z E->Ε env σ)->jl P T A nt ops (idx ops.size []) env σ [] Ε):W P m nt (.code (.region id ops true)::k) env σ Z E:=by
 have ai:=h (λenv σ=>W P m nt k env σ Z E) λ_ _ h=>h;rw[idx_eq,List.range_eq_range'] at ai;obtain⟨tags,as9,σs,Τ,af,aZ,cA⟩:=XA (m:=m) (k:=k) (Z:=Z) (E:=E) (env0:=env) Ι ops.size 0 [] (λ_=>.cp) (λ_=>σ) R rfl (λj o δ=>R) ai;intro Q mn x cs b S B H t γ hb ψ Θ he;refine .draw γ hb λn=>?_;have key:=W.Xj (P:=P) (m:=m) (nt:=nt) (k:=k) (Z:=Z) (E:=E) (ops:=ops) (as9:=as9) (σs:=σs) (tags:=tags) (env0:=env) Τ
  (λi o Α Ν=>by have:=aZ i o Α;unfold pd at this;rw[Ν] at this;simpa using this)
  (λi o Α Ν=>by have:=aZ i o Α;unfold pd at this;rw[Ν] at this;simpa using this)
  (.bI cA) ops.size n (Array.replicate ops.size false) env 0 θ (λi=>?_) (λi o Α υ=>?_) (Nat.zero_le _) (λj δ _=>?_) ?_
 ·rw[af] at key;rw[sU];simp only[Region.schedule,Bool.true_or,if_true,Region.linearise];exact key Q mn x cs b S B H t γ hb ψ Θ he
 ·have:∀n,dd ops env as9 (λi=>(Array.replicate ops.size false).getD i false) n=env:=by
   intro n
   induction n with
   | zero=>rfl
   | succ n Β=>
    simp only[dd];have:(Array.replicate ops.size false).getD n false=false:=by
     rw[Array.getD_eq_getD_getElem?,Array.getElem?_replicate];split<;>rfl
    rw[if_neg (by rw[this];simp)];exact Β
  rw[this]
 ·have:(Array.replicate ops.size false).getD i false=false:=by
   rw[Array.getD_eq_getD_getElem?,Array.getElem?_replicate];split<;>rfl
  rw[this] at υ;cases υ
 ·have:(Array.replicate ops.size false).getD j false=false:=by
   rw[Array.getD_eq_getD_getElem?,Array.getElem?_replicate];split<;>rfl
  rw[this];simp
 ·have:=List.length_filter_le (λi=>!(Array.replicate ops.size false).getD i false) (List.range ops.size);simpa using this
theorem Og {K K':aa->List Row->Prop} (ζ:∀e s,K e s->K' e s):∀(is:List Nat) (env:aa) (σ:List Row) (tags:List Bool),jl P T A nt ops is env σ tags K->jl P T A nt ops is env σ tags K':=by
 intro is
 induction is with
 | nil=>intro env σ tags h;exact⟨h.1,ζ _ _ h.2⟩
 | cons i is Β=>
  intro env σ tags h;unfold jl gY at h ⊢;cases Α:ops[i]? with
  | none=>rw[Α] at h;exact h.elim
  | some o=>
   rw[Α] at h;simp only at h ⊢;refine⟨h.1,?_⟩
   replace h:=h.2
   cases hw:fK env ops o with
   | none=>rw[hw] at h;exact h.elim
   | some w=>
    rw[hw] at h;unfold jR at h ⊢;refine⟨λe=>Β _ _ _ (h.1 e),λe=>?_⟩
    replace h:=h.2 e
    unfold Aj at h ⊢;split
    ·rename_i f args ea Ξ;rw[Ξ] at h;simp only at h;rcases h with⟨r,ε,h⟩|⟨r,σ',ε,h⟩
     ·exact .inl ⟨r,ε,Β _ _ _ h⟩
     ·exact .inr ⟨r,σ',ε,Β _ _ _ h⟩
    ·rename_i Ξ;rw[Ξ] at h;exact h
    ·rename_i Ξ;rw[Ξ] at h;exact h
    ·rename_i I U ξ;split at h
     ·rename_i f args ea Ξ;exact absurd Ξ (I f args ea)
     ·rename_i y Ξ;exact absurd Ξ (U y)
     ·rename_i y Ξ;exact absurd Ξ (ξ y)
     ·unfold cF.gD at h ⊢;split at h
      ·exact Β _ _ _ h
      ·exact⟨h.1,Β _ _ _ h.2⟩
      ·exact h.elim
      ·unfold da.gD at h ⊢;split at h
       ·exact Β _ _ _ h
       ·exact⟨h.1,Β _ _ _ h.2⟩
       ·exact h.elim
theorem W.El (Ι:bV P T) (sU:P.follows .mixedOrders=true) (hg:aa) {id:Nat} (h:W P m nt k hg σ Z E) (κ:jl P T A nt ops (idx ops.size []) env σ [] (λe s=>s=σ/\∀p∈hg,a6 e p.1=p.2)):W P m nt (.code (.region id ops true)::k) env σ Z E:=
 W.draw Ι sU λΕ ζ=>Og (λe s ⟨I,U⟩=>ζ e s (I▸W.forget hg U h)) _ _ _ _ κ
end
def iQ {α:Type}:List α->List Nat->List α->List α
 | l,i::ρ,x::xs=>iQ (l.set i x) ρ xs
 | l,_,_=>l
theorem sV {α:Type}:∀(ρ:List Nat) (l xs:List α),(iQ l ρ xs).length=l.length:=by
 intro ρ
 induction ρ with
 | nil=>intro l xs;cases xs<;>rfl
 | cons i ρ Β=>intro l xs;cases xs with
  | nil=>rfl
  | cons x xs=>simp[iQ,Β]
theorem Iq {α:Type} {i:Nat}:∀(ρ:List Nat) (l xs:List α),i∉ρ->(iQ l ρ xs)[i]?=l[i]?:=by
 intro ρ
 induction ρ with
 | nil=>intro l xs _;cases xs<;>rfl
 | cons j ρ Β=>intro l xs h;cases xs with
  | nil=>rfl
  | cons x xs=>
   simp only[iQ];rw[Β _ _ (λhm=>h (by simp[hm])),List.getElem?_set_ne (λe=>h (by simp[e]))]
theorem Oh {α:Type}:∀(ρ:List Nat) (l xs:List α),ρ.Nodup->(∀i∈ρ,i<l.length)->∀(j i:Nat) (x:α),ρ[j]?=some i->xs[j]?=some x->(iQ l ρ xs)[i]?=some x:=by
 intro ρ
 induction ρ with
 | nil=>intro l xs _ _ j i x h;simp at h
 | cons a ρ Β=>
  intro l xs kJ aB j i x δ γ;cases xs with
  | nil=>simp at γ
  | cons y xs=>
   simp only[iQ];obtain⟨I,U⟩:=List.nodup_cons.1 kJ;cases j with
   | zero=>
    simp at δ γ;subst δ;subst γ;rw[Iq ρ _ _ I,List.getElem?_set_self (aB a θ)]
   | succ j=>
    simp only[List.getElem?_cons_succ] at δ γ;exact Β _ _ U (λi hi=>by simp;exact aB i (by simp[hi])) j i x δ γ
def h4 (ρ:List Nat):η->η
 | .an id n i j=>.an (ρ.getD id 0) n i j
 | .ms id n i len=>.ms (ρ.getD id 0) n i len
 | .mp id=>.mp (ρ.getD id 0)
 | .it id=>.it (ρ.getD id 0)
 | a=>a
def ed (ρ:List Nat):η->η
 | .fn f dc cs=>.fn f (dc.map (h4 ρ)) (cs.map (h4 ρ))
 | .aV l=>.aV (l.map (h4 ρ))
 | .bw l=>.bw (l.map (h4 ρ))
 | a=>h4 ρ a
def pe (h:Nat) (a:η):Prop:=match a with
 | .an id _ _ _|.ms id _ _ _|.mp id|.it id=>id<h
 | a=>ay 0 a
def gj (h:Nat) (a:η):Prop:=match a with
 | .fn _ dc cs=>(∀a∈dc,pe h a)/\∀a∈cs,pe h a
 | .aV l|.bw l=>∀a∈l,pe h a
 | a=>pe h a
structure Names (ρ:List Nat) (eC:aU) (σ0:List Row) (bR:aU) (kj:List Row):Prop where
 row:∀(j i:Nat),ρ[j]?=some i->kj[i]?=σ0[j]?
 blk:∀(j i:Nat),ρ[j]?=some i->bR[i]?=eC[j]?
section
variable {S:aH} {eC bR:aU} {σ0 kj:List Row} {ρ:List Nat}
theorem Em {ρ:List Nat} {j:Nat} (h:j<ρ.length):ρ[j]?=some (ρ.getD j 0):=by
 rw[List.getD_eq_getElem?_getD,a5 h];rfl
theorem lg (Η:Names ρ eC σ0 bR kj) {a:η} {v:Value} (Ν:pe ρ.length a):av S bR kj (h4 ρ a) v↔av S eC σ0 a v:=by
 cases a with
 | an id n i j=>
  have b0:=Em (ρ:=ρ) Ν
  have I:=Η.row _ _ b0
  have U:=Η.blk _ _ b0;constructor
  ·intro h;cases h with
   | an Τ af aZ=>exact .an (by rw[<-I];exact Τ) af (by rw[<-U];exact aZ)
   | jO v Τ af=>exact .jO v (by rw[<-I];exact Τ) af
  ·intro h;cases h with
   | an Τ af aZ=>exact .an (by rw[I];exact Τ) af (by rw[U];exact aZ)
   | jO v Τ af=>exact .jO v (by rw[I];exact Τ) af
 | ms id n i len=>
  have b0:=Em (ρ:=ρ) Ν
  have I:=Η.row _ _ b0
  have U:=Η.blk _ _ b0;constructor
  ·intro h;cases h with
   | ms cap Τ af aZ cA gP iq=>exact .ms cap (by rw[<-I];exact Τ) af (by rw[<-U];exact aZ) cA gP iq
   | jg v Τ af=>exact .jg v (by rw[<-I];exact Τ) af
  ·intro h;cases h with
   | ms cap Τ af aZ cA gP iq=>exact .ms cap (by rw[I];exact Τ) af (by rw[U];exact aZ) cA gP iq
   | jg v Τ af=>exact .jg v (by rw[I];exact Τ) af
 | mp id=>
  have b0:=Em (ρ:=ρ) Ν
  have I:=Η.row _ _ b0
  have U:=Η.blk _ _ b0;constructor
  ·intro h;cases h with
   | mp Τ af=>exact .mp (by rw[<-I];exact Τ) (by rw[<-U];exact af)
   | lT v Τ=>exact .lT v (by rw[<-I];exact Τ)
  ·intro h;cases h with
   | mp Τ af=>exact .mp (by rw[I];exact Τ) (by rw[U];exact af)
   | lT v Τ=>exact .lT v (by rw[I];exact Τ)
 | it id=>
  have b0:=Em (ρ:=ρ) Ν
  have I:=Η.row _ _ b0
  have U:=Η.blk _ _ b0;constructor
  ·intro h;cases h with
   | it Τ af=>exact .it (by rw[<-I];exact Τ) (by rw[<-U];exact af)
   | ns v Τ=>exact .ns v (by rw[<-I];exact Τ)
  ·intro h;cases h with
   | it Τ af=>exact .it (by rw[I];exact Τ) (by rw[U];exact af)
   | ns v Τ=>exact .ns v (by rw[I];exact Τ)
 | _=>exact⟨λh=>h.any Ν _ _,λh=>h.any Ν _ _⟩
theorem En {f:η->η} {l:List η} {i:Nat} {a:η} (h:(l.map f)[i]?=some a):∃b,l[i]?=some b/\a=f b:=by
 rw[List.getElem?_map] at h;cases γ:l[i]? with
 | none=>rw[γ] at h;cases h
 | some b=>rw[γ] at h;cases h;exact⟨b,rfl,rfl⟩
theorem Ir (Η:Names ρ eC σ0 bR kj) {a:η} {v:Value} (Ν:gj ρ.length a):av S bR kj (ed ρ a) v↔av S eC σ0 a v:=by
 cases a with
 | fn f dc cs=>
  constructor
  ·intro h;cases h with
   | fn vs ws Τ af aZ cA=>
    refine .fn vs ws (by simpa using Τ) (by simpa using af) (λi a v hi hv=>?_) (λi a v hi hv=>?_)
    ·exact(lg Η (Ν.1 a (cr hi))).1 (aZ i _ v (by rw[List.getElem?_map,hi];rfl) hv)
    ·exact(lg Η (Ν.2 a (cr hi))).1 (cA i _ v (by rw[List.getElem?_map,hi];rfl) hv)
  ·intro h;cases h with
   | fn vs ws Τ af aZ cA=>
    refine .fn vs ws (by simpa using Τ) (by simpa using af) (λi a v hi hv=>?_) (λi a v hi hv=>?_)
    ·obtain⟨b,hb,rfl⟩:=En hi;exact(lg Η (Ν.1 b (cr hb))).2 (aZ i b v hb hv)
    ·obtain⟨b,hb,rfl⟩:=En hi;exact(lg Η (Ν.2 b (cr hb))).2 (cA i b v hb hv)
 | aV l=>
  constructor
  ·intro h;cases h with
   | aV vs Τ af=>exact .aV vs (by simpa using Τ) λi a v hi hv=>(lg Η (Ν a (cr hi))).1 (af i _ v (by rw[List.getElem?_map,hi];rfl) hv)
  ·intro h;cases h with
   | aV vs Τ af=>
    refine .aV vs (by simpa using Τ) λi a v hi hv=>?_;obtain⟨b,hb,rfl⟩:=En hi;exact(lg Η (Ν b (cr hb))).2 (af i b v hb hv)
 | bw l=>
  constructor
  ·intro h;cases h with
   | bw vs Τ af=>exact .bw vs (by simpa using Τ) λi a v hi hv=>(lg Η (Ν a (cr hi))).1 (af i _ v (by rw[List.getElem?_map,hi];rfl) hv)
  ·intro h;cases h with
   | bw vs Τ af=>
    refine .bw vs (by simpa using Τ) λi a v hi hv=>?_;obtain⟨b,hb,rfl⟩:=En hi;exact(lg Η (Ν b (cr hb))).2 (af i b v hb hv)
 | z u=>exact lg (a:=.z u) Η Ν
 | ab l=>exact lg (a:=.ab l) Η Ν
 | sl ex k l=>exact lg (a:=.sl ex k l) Η Ν
 | an id n i j=>exact lg (a:=.an id n i j) Η Ν
 | ms id n i len=>exact lg (a:=.ms id n i len) Η Ν
 | fS t a=>exact lg (a:=.fS t a) Η Ν
 | mp id=>exact lg (a:=.mp id) Η Ν
 | it id=>exact lg (a:=.it id) Η Ν
 | cp=>exact lg (a:=.cp) Η Ν
end
section
variable {P:Program} {S aA:aH} {B:aU} {H H':χ} {σ:List Row}
def iR (r:Row):Prop:=match r with|.cells _ _ l=>∀e∈l,∀a∈e.cells,ay 0 a|_=>False
def Am (r:Row):Prop:=iR r\/r=.dead
theorem jP.plain {B':aU} {σ':List Row} {r:Row} {bo:Option (Nat×Nat)} (ψ:iR r) (h:jP S B σ H r bo) (fc:aU) (gE:List Row):jP S fc gE H r bo:=by
 cases r with
 | cells t k l=>
  cases bo with
  | none=>exact h
  | some x=>
   obtain⟨b,N⟩:=x;obtain⟨I,U,ξ,w,Κ⟩:=h;refine⟨I,U,ξ,w,λi e hi=>⟨(Κ i e hi).1,λj a δ=>?_⟩⟩;obtain⟨c1,c2,c3⟩:=(Κ i e hi).2 j a δ;exact⟨c1,c2.any (ψ e (cr hi) a (cr δ)) _ _,c3⟩
 | _=>exact ψ.elim
theorem jP.XB {B':aU} {σ':List Row} {r:Row} {bo:Option (Nat×Nat)} (ψ:Am r) (h:jP S B σ H r bo) (fc:aU) (gE:List Row):jP S fc gE H r bo:=by
 rcases ψ with ψ|rfl
 ·exact jP.plain (B':=B') (σ':=σ') ψ h fc gE
 ·trivial
theorem Holds.Oi (ω:Holds S B σ H) {ρ:List Nat} {iS:List Row} (kJ:ρ.Nodup) (hlen:ρ.length=iS.length) (bq:∀(j i:Nat),ρ[j]?=some i->σ[i]?=iS[j]?) (gX:∀r∈iS,iR r)
  {eC:aU} {σ0:List Row} (he:Ext S (ρ.map λi=>B.getD i none) H aA eC H') (υ:b' S aA (ρ.map λi=>B.getD i none) eC iS σ0) (ai:Holds aA eC σ0 H') (XC:∀r∈σ0,Am r) :
  let kj:=iQ σ ρ σ0++σ0.drop ρ.length
  let bR:=iQ B ρ eC++eC.drop ρ.length
  Holds aA bR kj H'/\Ext S B H aA bR H'/\b' S aA B bR σ kj/\Names (ρ++(List.range (σ0.length-ρ.length)).map (σ.length + ·)) eC σ0 bR kj:=by
 intro kj bR;have aB:∀i∈ρ,i<σ.length:=λi hi=>by
  obtain⟨j,δ⟩:=List.getElem?_of_mem hi;have hF:j<iS.length:=by rw[<-hlen];exact(cf.1 δ).1
  have:=bq j i δ;rw[a5 hF] at this;exact(cf.1 this).1
 have Eo:∀i∈ρ,i<B.length:=λi hi=>by rw[ω.len];exact aB i hi
 have hle:ρ.length<=σ0.length:=by rw[hlen];exact υ.length
 have XD:eC.length=σ0.length:=ai.len
 have Ep:∀(j i:Nat),ρ[j]?=some i->(ρ.map λi=>B.getD i none)[j]?=B[i]?:=λj i δ=>by
  have hi:=Eo i (cr δ);rw[List.getElem?_map,δ];simp[hi]
 have s1:∀(j i:Nat),ρ[j]?=some i->kj[i]?=σ0[j]?:=λj i δ=>by
  have hi:=aB i (cr δ)
  have hF:j<σ0.length:=by have:=(cf.1 δ).1;omega
  show(iQ σ ρ σ0++_)[i]?=_;rw[dE (by rw[sV];exact hi),a5 hF];exact Oh ρ σ σ0 kJ aB j i _ δ (a5 hF)
 have bJ:∀(j i:Nat),ρ[j]?=some i->bR[i]?=eC[j]?:=λj i δ=>by
  have hi:=Eo i (cr δ)
  have hF:j<eC.length:=by have:=(cf.1 δ).1;omega
  show(iQ B ρ eC++_)[i]?=_;rw[dE (by rw[sV];exact hi),a5 hF];exact Oh ρ B eC kJ Eo j i _ δ (a5 hF)
 have s2:∀i,i<σ.length->i∉ρ->kj[i]?=σ[i]?:=λi hi Η=>by
  show(iQ σ ρ σ0++_)[i]?=_;rw[dE (by rw[sV];exact hi),Iq ρ _ _ Η]
 have c8:∀i,i<σ.length->i∉ρ->bR[i]?=B[i]?:=λi hi Η=>by
  show(iQ B ρ eC++_)[i]?=_;rw[dE (by rw[sV,ω.len];exact hi),Iq ρ _ _ Η]
 have oN:∀x,kj[σ.length+x]?=σ0[ρ.length+x]?:=λx=>by
  show(iQ σ ρ σ0++_)[_]?=_;rw[gl (by rw[sV];omega),sV,List.getElem?_drop];congr 1;omega
 have fY:∀x,bR[σ.length+x]?=eC[ρ.length+x]?:=λx=>by
  show(iQ B ρ eC++_)[_]?=_;rw[gl (by rw[sV,ω.len];omega),sV,ω.len,List.getElem?_drop];congr 1;omega
 have An:∀(i:Nat) (r:Row),kj[i]?=some r->(i<σ.length/\i∉ρ/\σ[i]?=some r/\bR[i]?=B[i]?)\/∃j,σ0[j]?=some r/\bR[i]?=eC[j]?/\(∀eL bK,(eL<σ.length->ρ[bK]?=some eL)->(¬eL<σ.length->bK=ρ.length+(eL-σ.length))->j=bK->i=eL)/\((i<σ.length->ρ[j]?=some i)/\(¬i<σ.length->j=ρ.length+(i-σ.length))):=λi r κ=>by
  by_cases hi:i<σ.length
  ·by_cases Η:i∈ρ
   ·obtain⟨j,δ⟩:=List.getElem?_of_mem Η;refine .inr ⟨j,by rw[<-s1 j i δ];exact κ,bJ j i δ,λeL bK I U e=>?_,λ_=>δ,λh=>absurd hi h⟩;subst e;by_cases ba:eL<σ.length
    ·have:=I ba;rw[δ] at this;cases this;rfl
    ·have:=U ba;have:=(cf.1 δ).1;omega
   ·exact .inl ⟨hi,Η,by rw[<-s2 i hi Η];exact κ,c8 i hi Η⟩
  ·have e:i=σ.length+(i-σ.length):=by omega
   refine .inr ⟨ρ.length+(i-σ.length),by rw[<-oN,<-e];exact κ,by rw[<-fY,<-e],λeL bK I U aM=>?_,λh=>absurd h hi,λ_=>rfl⟩;by_cases ba:eL<σ.length
   ·have:=(cf.1 (I ba)).1;omega
   ·have:=U ba;omega
 have Oj:bR.length=kj.length:=by
  show(iQ B ρ eC++eC.drop ρ.length).length=(iQ σ ρ σ0++σ0.drop ρ.length).length;simp[sV,ω.len,XD]
 have Er:b' S aA B bR σ kj:=⟨he.di,λid r κ=>by
  have hi:=(cf.1 κ).1;by_cases Η:id∈ρ
  ·obtain⟨j,δ⟩:=List.getElem?_of_mem Η;have fp:iS[j]?=some r:=by rw[<-bq j id δ];exact κ
   obtain⟨r',Τ,af⟩:=υ.rows j r fp;exact⟨r',by rw[s1 j id δ];exact Τ,by rw[bJ j id δ,<-Ep j id δ];exact af⟩
  ·exact⟨r,by rw[s2 id hi Η];exact κ,by rw[c8 id hi Η];exact r.tU _⟩⟩
 have Es:∀b,aU.has (ρ.map λi=>B.getD i none) b->∃j i N,ρ[j]?=some i/\B[i]?=some (some (b,N)):=λb ⟨N,cl⟩=>by
  obtain⟨j,δ⟩:=List.getElem?_of_mem cl;rw[List.getElem?_map] at δ;cases γ:ρ[j]? with
  | none=>rw[γ] at δ;cases δ
  | some i=>
   rw[γ] at δ;simp only[Option.map_some,Option.some.injEq] at δ;have hi:=Eo i (cr γ);rw[List.getD_eq_getElem?_getD,a5 hi] at δ;exact⟨j,i,N,γ,by rw[a5 hi];simpa using δ⟩
 have Ol:∀(j i:Nat),ρ[j]?=some i->∃r,σ[i]?=some r/\r.live/\iR r:=λj i δ=>by
  have hF:j<iS.length:=by rw[<-hlen];exact(cf.1 δ).1
  have κ:=a5 hF
  have ψ:=gX _ (cr κ);refine⟨_,by rw[bq j i δ];exact κ,?_,ψ⟩;cases γ:iS[j]<;>rw[γ] at ψ<;>first|trivial|exact ψ.elim
 have Et:∀(id:Nat) (r:Row) (b N:Nat),id∉ρ->σ[id]?=some r->r.live->B[id]?=some (some (b,N))->¬aU.has (ρ.map λi=>B.getD i none) b/\¬H.fresh b/\kH H H' b:=λid r b N Η κ fr hb=>by
  have c1:¬aU.has (ρ.map λi=>B.getD i none) b:=λaY=>by
   obtain⟨j,i,e1,I,U⟩:=Es b aY;obtain⟨r',Τ,af,_⟩:=Ol j i I;exact ω.inj id i r r' b N e1 (λe=>Η (e▸cr I)) κ Τ fr af hb U
  have c2:=ω.n6 κ fr hb;exact⟨c1,c2,(he.fQ b c1 c2).sD λo=>ω.sep id r b N κ fr hb o⟩
 refine⟨⟨ai.di,Oj,λi r bo κ e6=>?_,λi j et cg b gN gO fP hi δ hy ek hz cS=>?_,λi r b N κ fr hb o=>?_⟩,⟨he.di,λb hb Χ=>?_,λb hb=>?_,λb o v hv=>?_,he.grow⟩,Er,⟨λj i δ=>?_,λj i δ=>?_⟩⟩
 ·rcases An i r κ with⟨Τ,af,aZ,cA⟩|⟨j,Τ,af,_,_⟩
  ·by_cases fr:r.live
   ·rw[cA] at e6;refine(ω.row i r bo aZ e6).later Er (λb N e=>(Et i r b N af aZ fr (by rw[e6,e])).2.2) λcP left cur e=>?_;subst e;obtain⟨_,_,aW,k5,xs,clock,seen,_,Δ,⟨es,Γ⟩,_⟩:=ω.row i _ bo aZ e6;have jK:cP∉ρ:=λhm=>by
     obtain⟨j,δ⟩:=List.getElem?_of_mem hm;obtain⟨r',e3,_,iO⟩:=Ol j cP δ;rw[Γ] at e3;cases e3;exact iO
    have Ao:=(cf.1 Γ).1;exact⟨s2 cP Ao jK,c8 cP Ao jK,λb N hb=>(Et cP _ b N jK Γ trivial hb).2.2⟩
   ·cases r<;>first|exact absurd trivial fr|trivial
  ·rw[af] at e6;exact(ai.row j r bo Τ e6).XB (B':=bR) (σ':=kj) (XC r (cr Τ)) _ _
 ·have zQ:∀(i:Nat) (et:Row) (gN:Nat) (bK:Nat) (cg:Row) (gO:Nat),i∉ρ->σ[i]?=some et->et.live->B[i]?=some (some (b,gN))->σ0[bK]?=some cg->cg.live->eC[bK]?=some (some (b,gO))->False:=λi et gN bK cg gO I U ξ Κ aE bd gT=>by
   obtain⟨c1,c2,_⟩:=Et i et b gN I U ξ Κ;rcases he.blocks b (o3 gT) with h|h
   ·exact c1 h
   ·exact c2 h
  rcases An i et hi with⟨Τ,af,aZ,cA⟩|⟨i0,Τ,af,aZ,cA⟩<;>rcases An j cg δ with⟨k1,cJ,rF,Ap⟩|⟨Is,k1,cJ,rF,Ap⟩
  ·rw[cA] at hz;rw[Ap] at cS;exact ω.inj i j et cg b gN gO fP aZ rF hy ek hz cS
  ·rw[cA] at hz;rw[cJ] at cS;exact zQ i et gN Is cg gO af aZ hy hz k1 ek cS
  ·rw[af] at hz;rw[Ap] at cS;exact zQ j cg gO i0 et gN cJ rF ek cS Τ hy hz
  ·rw[af] at hz;rw[cJ] at cS;refine ai.inj i0 Is et cg b gN gO (λe=>fP ?_) Τ k1 hy ek hz cS;exact aZ j Is Ap.1 Ap.2 e
 ·rcases An i r κ with⟨Τ,af,aZ,cA⟩|⟨j,Τ,af,_,_⟩
  ·rw[cA] at hb;obtain⟨c1,c2,_⟩:=Et i r b N af aZ fr hb;cases hv:aA b o with
   | none=>rfl
   | some v=>
    rcases he.rh b o v hv with h|h|h
    ·rw[ω.sep i r b N aZ fr hb o] at h;cases h
    ·exact absurd h c1
    ·exact absurd h c2
  ·rw[af] at hb;exact ai.sep j r b N Τ fr hb o
 ·refine he.fQ b (λaY=>hb ?_) Χ;obtain⟨j,i,e1,_,U⟩:=Es b aY;exact o3 U
 ·obtain⟨N,cl⟩:=hb;obtain⟨i,hi⟩:=List.getElem?_of_mem cl;have oe:i<kj.length:=by rw[<-Oj];exact(cf.1 hi).1
  rcases An i _ (a5 oe) with⟨Τ,af,aZ,cA⟩|⟨j,Τ,af,_,_⟩
  ·rw[cA] at hi;exact .inl (o3 hi)
  ·rw[af] at hi;rcases he.blocks b (o3 hi) with h|h
   ·obtain⟨j,eL,e1,_,U⟩:=Es b h;exact .inl (o3 U)
   ·exact .inr h
 ·rcases he.rh b o v hv with h|h|h
  ·exact .inl h
  ·obtain⟨j,eL,e1,_,U⟩:=Es b h;exact .inr (.inl (o3 U))
  ·exact .inr (.inr h)
 ·by_cases hF:j<ρ.length
  ·rw[dE hF] at δ;exact s1 j i δ
  ·rw[gl R,List.getElem?_map] at δ;have vO:j-ρ.length<σ0.length-ρ.length:=by
    apply Classical.byContradiction;intro Η;rw[List.getElem?_eq_none (by simp;omega)] at δ;cases δ
   rw[a5 (by simpa using vO)] at δ;simp at δ;subst δ;rw[oN];congr 1;omega
 ·by_cases hF:j<ρ.length
  ·rw[dE hF] at δ;exact bJ j i δ
  ·rw[gl R,List.getElem?_map] at δ;have vO:j-ρ.length<σ0.length-ρ.length:=by
    apply Classical.byContradiction;intro Η;rw[List.getElem?_eq_none (by simp;omega)] at δ;cases δ
   rw[a5 (by simpa using vO)] at δ;simp at δ;subst δ;rw[fY];congr 1;omega
def names (ρ:List Nat) (n:Nat) (σ0:List Row):List Nat:=ρ++(List.range (σ0.length-ρ.length)).map (n + ·)
def sW (σ:List Row) (ρ:List Nat) (σ0:List Row):List Row:=iQ σ ρ σ0++σ0.drop ρ.length
theorem ao.Om {g:FuncId} {as0:List η} {iS:List Row} {K:η->List Row->Prop} {E:η->List Row->Prop} (h:ao P g as0 iS K E) (ρ:List Nat) (kJ:ρ.Nodup) (hlen:ρ.length=iS.length) (bq:∀(j i:Nat),ρ[j]?=some i->σ[i]?=iS[j]?) (gX:∀r∈iS,iR r)
  (has:∀a∈as0,gj ρ.length a) {K':η->List Row->Prop} {E':η->List Row->Prop} (ζ:∀a s,K a s->(∀r∈s,Am r)/\gj s.length a/\K' (ed (names ρ σ.length s) a) (sW σ ρ s))
  (dn:∀a s,E a s->(∀r∈s,Am r)/\gj s.length a/\E' (ed (names ρ σ.length s) a) (sW σ ρ s)):ao P g (as0.map (ed ρ)) σ K' E':=by
 refine⟨h.1,λQ mn x c rest S B H vs γ ω hv l3=>?_⟩;have aB:∀(j i:Nat),ρ[j]?=some i->i<σ.length:=λj i δ=>by
  have hF:j<iS.length:=by rw[<-hlen];exact(cf.1 δ).1
  have:=bq j i δ;rw[a5 hF] at this;exact(cf.1 this).1
 have Ep:∀(j i:Nat),ρ[j]?=some i->(ρ.map λi=>B.getD i none)[j]?=B[i]?:=λj i δ=>by
  have hi:i<B.length:=by rw[ω.len];exact aB j i δ
  rw[List.getElem?_map,δ];simp[hi]
 have k9:Names ρ (ρ.map λi=>B.getD i none) iS B σ:=⟨bq,λj i δ=>(Ep j i δ).symm⟩
 have pick:∀(j:Nat) (r:Row) (bo:Option (Nat×Nat)),iS[j]?=some r->(ρ.map λi=>B.getD i none)[j]?=some bo->∃i,ρ[j]?=some i/\σ[i]?=some r/\B[i]?=some bo:=λj r bo κ e6=>by
  have hF:j<ρ.length:=by rw[hlen];exact(cf.1 κ).1
  have δ:=a5 hF;exact⟨_,δ,by rw[bq j _ δ];exact κ,by rw[<-Ep j _ δ];exact e6⟩
 have XE:Holds S (ρ.map λi=>B.getD i none) iS H:=by
  refine⟨ω.di,by simp[hlen],λj r bo κ e6=>?_,λi j et cg b gN gO fP hi δ hy ek hz cS=>?_,λj r b N κ fr hb o=>?_⟩
  ·obtain⟨i,I,U,ξ⟩:=pick j r bo κ e6;exact(ω.row i r bo U ξ).plain (B':=B) (σ':=σ) (gX r (cr κ)) _ _
  ·obtain⟨eL,I,U,ξ⟩:=pick i et _ hi hz;obtain⟨bK,Τ,af,aZ⟩:=pick j cg _ δ cS;refine ω.inj eL bK et cg b gN gO (λe=>fP ?_) U af hy ek ξ aZ;subst e;have iM:=(cf.1 I).1;exact(List.getElem?_inj iM kJ).1 (I.trans Τ.symm)
  ·obtain⟨i,I,U,ξ⟩:=pick j r _ κ hb;exact ω.sep i r b N U fr ξ o
 refine h.2 Q mn x c rest S _ H vs γ XE ⟨by have:=hv.1;simpa using this,λi a v I U=>(Ir k9 (has a (cr I))).1 (hv.2 i _ v (by rw[List.getElem?_map,I];rfl) U)⟩ ⟨λa σ' aA B' H' v ς he υ jj κ=>?_,λa σ' aA B' H' v ς he υ jj κ=>?_⟩
 ·obtain⟨e3,eK,iO⟩:=ζ a σ' ς;obtain⟨dL,p2,p3,p4⟩:=ω.Oi kJ hlen bq gX he υ jj e3;refine l3.ret _ _ aA _ H' v iO p2 p3 dL ((Ir p4 ?_).2 κ);have:(ρ++(List.range (σ'.length-ρ.length)).map (σ.length + ·)).length=σ'.length:=by
   have:=υ.length;simp;omega
  rw[this];exact eK
 ·obtain⟨e3,eK,iO⟩:=dn a σ' ς;obtain⟨dL,p2,p3,p4⟩:=ω.Oi kJ hlen bq gX he υ jj e3;refine l3.xY _ _ aA _ H' v iO p2 p3 dL ((Ir p4 ?_).2 κ);have:(ρ++(List.range (σ'.length-ρ.length)).map (σ.length + ·)).length=σ'.length:=by
   have:=υ.length;simp;omega
  rw[this];exact eK
theorem ao.rows {g:FuncId} {as0:List η} {iS:List Row} {K:η->List Row->Prop} {E:η->List Row->Prop} (h:ao P g as0 iS K E) (ρ:List Nat) (kJ:ρ.Nodup) (hlen:ρ.length=iS.length) (bq:∀(j i:Nat),ρ[j]?=some i->σ[i]?=iS[j]?) (gX:∀r∈iS,iR r)
  (has:∀a∈as0,gj ρ.length a) {K':η->List Row->Prop} {E':η->List Row->Prop} (ζ:∀a s,K a s->(∀r∈s,iR r)/\gj s.length a/\K' (ed (names ρ σ.length s) a) (sW σ ρ s))
  (dn:∀a s,E a s->(∀r∈s,iR r)/\gj s.length a/\E' (ed (names ρ σ.length s) a) (sW σ ρ s)):ao P g (as0.map (ed ρ)) σ K' E':=
 h.Om ρ kJ hlen bq gX has (λa s x=>let ⟨p,q⟩:=ζ a s x;⟨λr κ=>.inl (p r κ),q⟩) (λa s x=>let ⟨p,q⟩:=dn a s x;⟨λr κ=>.inl (p r κ),q⟩)
end
def cW (a b:η):Prop:=∀(S:aH) (B:aU) (σ:List Row) (v:Value),av S B σ a v->av S B σ b v
def bS (l m:List η):Prop:=l.length=m.length/\∀(i:Nat) (a b:η),l[i]?=some a->m[i]?=some b->cW a b
theorem cW.refl (a:η):cW a a:=λ_ _ _ _ h=>h
theorem cW.of {a b:η} (h:a=b):cW a b:=h▸.refl a
theorem cW.trans {a b c:η} (h:cW a b) (k:cW b c):cW a c:=λS B σ v x=>k S B σ v (h S B σ v x)
theorem cW.cp (a:η):cW a .cp:=λ_ _ _ v _=>.cp v
theorem bS.refl (l:List η):bS l l:=⟨rfl,λi a b h k=>by rw[h] at k;cases k;exact .refl a⟩
theorem bS.nil:bS [] []:=.refl []
theorem bS.cons {a b:η} {l m:List η} (h:cW a b) (k:bS l m):bS (a::l) (b::m):=⟨by simp[k.1],λi x y γ Ο=>by
 cases i with
 | zero=>simp at γ Ο;subst γ;subst Ο;exact h
 | succ i=>exact k.2 i x y (by simpa using γ) (by simpa using Ο)⟩
theorem cW.aV {l m:List η} (h:bS l m):cW (.aV l) (.aV m):=λS B σ v x=>by
 cases x with
 | aV vs I U=>
  refine .aV vs (h.1.symm.trans I) λi b v hi hv=>?_;have aB:i<l.length:=by rw[h.1];exact(cf.1 hi).1
  have μ:=a5 aB;exact h.2 i _ b μ hi S B σ v (U i _ v μ hv)
theorem cW.bw {l m:List η} (h:bS l m):cW (.bw l) (.bw m):=λS B σ v x=>by
 cases x with
 | bw vs I U=>
  refine .bw vs (h.1.symm.trans I) λi b v hi hv=>?_;have aB:i<l.length:=by rw[h.1];exact(cf.1 hi).1
  have μ:=a5 aB;exact h.2 i _ b μ hi S B σ v (U i _ v μ hv)
theorem cW.sl {e:Bool} {k:Nat} {l m:List η} (hlen:l.length=m.length) (h:∀(i:Nat) (a b:η),l[i]?=some a->m[i]?=some b->bS a.cells b.cells):cW (.sl e k l) (.sl false k m):=λS B σ v x=>by
 have up:∀(i:Nat) (b:η),m[i]?=some b->∃a,l[i]?=some a/\bS a.cells b.cells:=λi b hi=>by
  have aB:i<l.length:=by rw[hlen];exact(cf.1 hi).1
  exact⟨_,a5 aB,h i _ b (a5 aB) hi⟩
 cases x with
 | iK base cap ε=>
  have:m=[]:=dw.1 hlen.symm;subst this;exact .iK base cap λx=>by cases x
 | sl b o cap w I U ξ Κ aE=>
  rw[hlen];refine .sl b o cap w (λx=>by cases x) R (λi y hi=>?_) (λi y hi j c δ=>?_) (λi y hi j c δ=>?_)
  ·obtain⟨a,μ,gU⟩:=up i y hi;rw[<-gU.1];exact ξ i a μ
  ·obtain⟨a,μ,gU⟩:=up i y hi;have aB:j<a.cells.length:=by rw[gU.1];exact(cf.1 δ).1
   exact Κ i a μ j _ (a5 aB)
  ·obtain⟨a,μ,gU⟩:=up i y hi;have aB:j<a.cells.length:=by rw[gU.1];exact(cf.1 δ).1
   have ε:=a5 aB;exact gU.2 j _ c ε δ S B σ _ (aE i a μ j _ ε)
theorem cW.ex {e:Bool} {k:Nat} {l:List η}:cW (.sl e k l) (.sl false k l):=.sl rfl λi a b I U=>by rw[I] at U;cases U;exact .refl _
theorem cW.nil {e:Bool} {k ae:Nat}:cW (.sl e k []) (.sl false ae []):=λS B σ v x=>by
 have g:∀(l:List η),l=[]->av S B σ (.sl e k l) v->av S B σ (.sl false ae []) v:=λl υ x=>by
  cases x with
  | iK base cap ε=>exact .iK base cap λx=>by cases x
  | sl b o cap w I U ξ Κ aE=>subst υ;exact .iK _ cap λx=>by cases x
 exact g [] rfl x
theorem cW.map {α:Type} {f g:α->η} {e:Bool} {k:Nat} {l:List α} (h:∀x∈l,bS (f x).cells (g x).cells):cW (.sl e k (l.map f)) (.sl false k (l.map g)):=.sl θ λi a b I U=>by
 rw[List.getElem?_map] at I U;cases γ:l[i]? with
 | none=>rw[γ] at I;cases I
 | some x=>rw[γ] at I U;cases I;cases U;exact h x (cr γ)
theorem bS.one {a b:η} (h:cW a b) (μ:a.cells=[a]) (hb:b.cells=[b]):bS a.cells b.cells:=by rw[μ,hb];exact .cons h .nil
section
variable {P:Program} {σ:List Row}
theorem fJ.xU {S:aH} {B:aU} {l m:List η} {vs:Array Value} (h:bS l m) (k:fJ S B σ l vs):fJ S B σ m vs:=⟨h.1.symm.trans k.1,λi b v hi hv=>by
 have aB:i<l.length:=by rw[h.1];exact(cf.1 hi).1
 have μ:=a5 aB;exact h.2 i _ b μ hi S B σ v (k.2 i _ v μ hv)⟩
theorem ao.nD {g:FuncId} {args gw:List η} {K K' E:η->List Row->Prop} (h:ao P g args σ K E) (μ:bS gw args) (ζ:∀a s,K a s->∃b,cW a b/\K' b s):ao P g gw σ K' E:=
 ⟨h.1,λQ mn x c rest S B H vs γ ω hv hb=>h.2 Q mn x c rest S B H vs γ ω (hv.xU μ) ⟨λa σ' aA B' H' v ς he υ jj κ=>by
  obtain⟨b,I,U⟩:=ζ a σ' ς;exact hb.ret b σ' aA B' H' v U he υ jj (I aA B' σ' v κ),hb.xY⟩⟩
def aD (P:Program) (g:FuncId) (args:List η) (r:η):Prop:=ao P g args [] (λa s=>cW a r/\s=[]) (λ_ _=>False)
theorem aD.ct {g:FuncId} {args gw:List η} {r:η} (h:aD P g args r) (μ:bS gw args):Ac P g gw r:=ao.nD h μ λa s ⟨I,U⟩=>⟨r,I,rfl,U⟩
theorem aD.c {g:FuncId} {args gw:List η} {r:η} {K E:η->List Row->Prop} (h:aD P g args r) (μ:bS gw args) (hb:∀a∈gw,ay 0 a) (κ:ay 0 r) (ζ:K r σ):hE P (.fn (.func g) [] []) gw σ K E:=
 Ac.call (first:=[]) (captured:=[]) (by simpa using h.ct μ) (by simpa using hb) κ ζ
theorem aD.p {g:FuncId} {args gw:List η} {r:η} (h:aD P g args r) (μ:bS gw args) (hb:∀a∈gw,ay 0 a) (κ:ay 0 r):gi P (.fn (.func g) [] []) gw r:=λ_=>h.c μ hb κ ⟨rfl,rfl⟩
theorem aD.d {g:FuncId} {args:List η} {r:η} {K E:η->List Row->Prop} (h:aD P g args r) (ζ:K r σ) (hb:∀a∈args,ay 0 a:=by simp) (κ:ay 0 r:=by simp):hE P (.fn (.func g) [] []) args σ K E:=h.c (bS.refl _) hb κ ζ
theorem aD.q {g:FuncId} {args:List η} {r:η} (h:aD P g args r) (hb:∀a∈args,ay 0 a:=by simp) (κ:ay 0 r:=by simp):gi P (.fn (.func g) [] []) args r:=h.p (bS.refl _) hb κ
theorem aD.cc {g:FuncId} {args gw first captured:List η} {r:η} {K E:η->List Row->Prop} (h:aD P g args r) (μ:bS (first++gw++captured) args) (hb:∀a∈first++gw++captured,ay 0 a) (κ:ay 0 r) (ζ:K r σ):hE P (.fn (.func g) first captured) gw σ K E:=
 Ac.call (h.ct μ) hb κ ζ
end
theorem eD.own {h id n k:Nat} {σ:List Row} {t:TypeId} {l:List η} (b0:h<=id) (bF:σ[id]?=some (.cells t k l)) (Η:l.length=n) (hb:∀e∈l,∀a∈e.cells,ay h a):eD h σ (.ms id n 0 n) (.sl false k l):=by
 refine .ms b0 bF Η R Η (λj e aM I U=>?_) (λj e aM I U x a cn ξ Κ=>?_)
 ·rw[Nat.zero_add] at I;rw[I] at U;cases U;rfl
 ·rw[Nat.zero_add] at I;rw[I] at U;cases U;rw[ξ] at Κ;cases Κ;exact .low (hb e (cr I) a (cr ξ))
end Go.TL
