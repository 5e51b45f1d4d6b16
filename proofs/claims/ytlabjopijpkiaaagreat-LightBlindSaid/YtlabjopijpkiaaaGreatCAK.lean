import Derived.Test.YtlabjopijpkiaaaGreatCAJ
set_option maxHeartbeats 16000000
set_option maxRecDepth 20000
set_option linter.unusedSectionVars false
set_option linter.unusedSimpArgs false
set_option linter.unusedVariables false
namespace Go.TL
open Go.Conc
variable [bp]
def Av (ops:Array Oper) (o:Oper):List Tmp:=
 (o.op.operands.toList.filterMap fun|.tmp t=>some t|_=>none)++(match o.guard with|some (g,_)=>((ops[g]?).bind (·.dst)).toList|none=>[])
def hf (o:Oper):List Nat:=(o.after.toList.filter (Region.binds .any)).map (·.on)
def Aw:List Oper->List (List Nat)->List (List Nat)
 | [],acc=>acc
 | o::os,acc=>Aw os (acc++[hf o++(hf o).flatMap λj=>acc.getD j []])
def Ea (ops:Array Oper):List (List Nat):=Aw ops.toList []
def jb (o:Oper):Bool:=match o.op with
 | .load _ _=>true
 | .indexAddr _ _ _=>true
 | .fieldAddr _ _ _=>true
 | .nilCheck _=>true
 | _=>false
def mh (ax:Nat->Nat->Bool) (ops:Array Oper) (tags:List Bool) (i j:Nat) (mi bR:Oper):Bool:=
 (match bR.dst with|some d=>(Av ops mi).contains d||mi.dst==some d|none=>false)||(match mi.dst with|some d=>(Av ops bR).contains d|none=>false)||(tags.getD i false&&tags.getD j false&&!(jb mi&&jb bR)&&!ax i j)
def s' (ax:Nat->Nat->Bool) (ops:Array Oper) (tags:List Bool):Bool:=
 let b:=Ea ops
 (List.range ops.size).all λi=>match ops[i]? with
  | none=>false
  | some mi=>(hf mi).all (λj=>decide (j<i))&&(List.range i).all λj=>match ops[j]? with
   | none=>false
   | some bR=>!mh ax ops tags i j mi bR||(b.getD i []).contains j
def ta (_ _:Nat):Bool:=false
def clash (ops:Array Oper) (tags:List Bool) (i j:Nat) (mi bR:Oper):Bool:=mh ta ops tags i j mi bR
def m6 (ops:Array Oper) (tags:List Bool):Bool:=s' ta ops tags
def m7 (lo pu:List Nat) (i j:Nat):Bool:=lo.contains i&&pu.contains j||pu.contains i&&lo.contains j
section
variable {P:Program} {T:bb} {A:List Nat} {m nt:Nat} {k:List Item} {env:Χ} {σ:List Row} {Z:List Item->Χ->List Row->Prop} {E:η->Χ->List Row->Prop} {ops:Array Oper}
theorem W.congr {env':Χ} (h:∀i,a5 env' i=a5 env i) (hW:W P m nt k env σ Z E):W P m nt k env' σ Z E:=
 λQ mn x cs b S B H t γ hb π Φ he=>hW Q mn x cs b S B H t γ hb ⟨π.holds,λi=>by rw[<-h i];exact π.cx i,π.size,π.rows⟩ Φ he
theorem Nc (uB:Region.Mode):∀(fuel t:Nat) (listed:Array Bool) (i:Nat),Region.linearise.go uB ops fuel t listed [i]=i::Region.linearise.go uB ops fuel t listed []:=by
 have gen:∀(fuel t:Nat) (listed:Array Bool) (acc:List Nat),Region.linearise.go uB ops fuel t listed acc=acc.reverse++Region.linearise.go uB ops fuel t listed []:=by
  intro fuel
  induction fuel with
  | zero=>intro t listed acc;simp[Region.linearise.go]
  | succ fuel ω=>
   intro t listed acc;simp only[Region.linearise.go];split
   ·rename_i i _;rw[ω _ _ (i::acc),ω _ _ [i]];simp
   ·simp
 intro fuel t listed i;rw[gen];rfl
theorem Eb (tc:∀i o,ops[i]?=some o->∀j∈hf o,j<i) (D:Nat->Prop) (cY:∀i o,ops[i]?=some o->D i->∀j∈hf o,D j) :
  ∀(i:Nat) (o:Oper),ops[i]?=some o->(∀j∈hf o,D j)->∀j∈(Ea ops).getD i [],D j:=by
 have key:∀(os:List Oper) (acc:List (List Nat)),(∀x,os[x]?=ops[acc.length+x]?)->(∀i o,i<acc.length->ops[i]?=some o->(∀j∈hf o,D j)->∀j∈acc.getD i [],D j)->
   ∀i o,i<acc.length+os.length->ops[i]?=some o->(∀j∈hf o,D j)->∀j∈(Aw os acc).getD i [],D j:=by
  intro os
  induction os with
  | nil=>intro acc _ h i o hi;exact h i o (by simpa using hi)
  | cons q os ω=>
   intro acc Ec h i o hi ψ he;have Ξ:ops[acc.length]?=some q:=by have:=Ec 0;simpa using this.symm
   refine ω (acc++[hf q++(hf q).flatMap λj=>acc.getD j []]) (λx=>?_) (λi o hi ψ he=>?_) i o (by simp at hi ⊢;omega) ψ he
   ·have:=Ec (x+1);simp only[List.getElem?_cons_succ] at this;rw[this];simp;congr 1;omega
   ·by_cases aO:i<acc.length
    ·rw[List.getD_eq_getElem?_getD,dI aO,<-List.getD_eq_getElem?_getD];exact h i o aO ψ he
    ·have aC:i=acc.length:=by simp at hi;omega
     subst aC;rw[Ξ] at ψ;cases ψ;rw[List.getD_eq_getElem?_getD,hp (Nat.le_refl _)];simp only[Nat.sub_self,List.getElem?_cons_zero,Option.getD_some,List.mem_append,List.mem_flatMap];rintro j (δ|⟨y,Κ,δ⟩)
     ·exact he j δ
     ·have V4:=tc _ _ Ξ y Κ
      have V5:y<ops.size:=by have:=(Array.getElem?_eq_some_iff.1 Ξ).1;omega
      have Nd:ops[y]?=some ops[y]:=ff V5;exact h y _ V4 Nd (cY y _ Nd (he y Κ)) j δ
 intro i o ψ he;exact key ops.toList [] (λx=>ζ) (λi o hi=>by simp at hi) i o (by have:=(Array.getElem?_eq_some_iff.1 ψ).1;simpa using this) ψ he
def oE (ops:Array Oper) (o:Oper) (env env':Χ):Prop:=∀t∈Av ops o,a5 env' t=a5 env t
def uP (P:Program) (m nt:Nat) (k:List Item) (Z:List Item->Χ->List Row->Prop) (E:η->Χ->List Row->Prop) (ops:Array Oper) (i:Nat) (o:Oper) (env:Χ) (a:η):Prop:=
 ∀env' σ' rest,oE ops o env env'->W P m nt (.inRegion ops rest::k) (b0 o env' a) σ' Z E->W P m nt (.inRegion ops (i::rest)::k) env' σ' Z E
def uQ (P:Program) (m nt:Nat) (k:List Item) (Z:List Item->Χ->List Row->Prop) (E:η->Χ->List Row->Prop) (ops:Array Oper) (i:Nat) (o:Oper) (env:Χ) (σ:List Row) (a:η) (fP:List Row):Prop:=
 ∀env' rest,oE ops o env env'->W P m nt (.inRegion ops rest::k) (b0 o env' a) fP Z E->W P m nt (.inRegion ops (i::rest)::k) env' σ Z E
def cD (ops:Array Oper) (env0:Χ) (as9:Nat->η) (D:Nat->Bool):Nat->Χ
 | 0=>env0
 | n+1=>if D n then(match ops[n]? with|some o=>b0 o (cD ops env0 as9 D n) (as9 n)|none=>cD ops env0 as9 D n) else cD ops env0 as9 D n
theorem wB {o:Oper} {env:Χ} {a:η} {t:Nat}:a5 (b0 o env a) t=if o.dst=some t then a else a5 env t:=by
 unfold b0;cases hd:o.dst with
 | none=>simp
 | some d=>simp[a5]
theorem yk {env0:Χ} {as9:Nat->η} {D Ax:Nat->Bool} {t:Nat}:∀(n:Nat),(∀i o,i<n->ops[i]?=some o->o.dst=some t->D i=Ax i)->a5 (cD ops env0 as9 D n) t=a5 (cD ops env0 as9 Ax n) t:=by
 intro n
 induction n with
 | zero=>intro _;rfl
 | succ n ω=>
  intro h;have wC:=ω λi o hi=>h i o R;simp only[cD];cases ψ:ops[n]? with
  | none=>cases D n<;>cases Ax n<;>simpa using wC
  | some o=>
   by_cases hd:o.dst=some t
   ·rw[h n o (Nat.lt_succ_self n) ψ hd];cases Ax n
    ·simpa using wC
    ·simp[wB,hd]
   ·cases D n<;>cases Ax n<;>simp[wB,hd,wC]
theorem Ed {env0:Χ} {as9:Nat->η} {D:Nat->Bool} {t:Nat} {n N:Nat} (Ζ:n<=N) (h:∀i o,n<=i->i<N->ops[i]?=some o->o.dst=some t->D i=false):a5 (cD ops env0 as9 D N) t=a5 (cD ops env0 as9 D n) t:=by
 induction N with
 | zero=>have:n=0:=by omega
         subst this;rfl
 | succ N ω=>
  by_cases e:n=N+1
  ·subst e;rfl
  ·have wC:=ω R λi o J U=>h i o J R;simp only[cD];cases cY:D N
   ·simpa using wC
   ·cases ψ:ops[N]? with
    | none=>simpa using wC
    | some o=>
     have hd:o.dst≠some t:=λhd=>by rw[h N o R (Nat.lt_succ_self N) ψ hd] at cY;cases cY
     simp[wB,hd,wC]
def writer (ops:Array Oper) (tags:List Bool) (i:Nat):Bool:=tags.getD i false&&match ops[i]? with|some o=>!jb o|none=>true
theorem W.Nf {lo pu:List Nat} {V:Type} {v:List Row->V} {as9:Nat->η} {σs:Nat->List Row} {tags:List Bool} {env0:Χ} (dQ:s' (m7 lo pu) ops tags=true)
  (cB:∀i o,ops[i]?=some o->tags.getD i false=false->uP P m nt k Z E ops i o (cD ops env0 as9 (λ_=>true) i) (as9 i)/\σs (i+1)=σs i)
  (gh:∀i o,ops[i]?=some o->tags.getD i false=true->uQ P m nt k Z E ops i o (cD ops env0 as9 (λ_=>true) i) (σs i) (as9 i) (σs (i+1))/\(jb o=true->σs (i+1)=σs i))
  (HS:∀i o,ops[i]?=some o->lo.contains i=true->tags.getD i false=true->jb o=true/\∀τ,v τ=v (σs i)->uQ P m nt k Z E ops i o (cD ops env0 as9 (λ_=>true) i) τ (as9 i) τ)
  (V6:∀i o,ops[i]?=some o->pu.contains i=true->v (σs (i+1))=v (σs i))
  (Ay:W P m nt (.inRegion ops []::k) (cD ops env0 as9 (λ_=>true) ops.size) (σs ops.size) Z E) :
  ∀(fuel:Nat) (t:Nat) (listed:Array Bool) (env:Χ) (b4:Nat),listed.size=ops.size->
   (∀i,a5 env i=a5 (cD ops env0 as9 (λi=>listed.getD i false) ops.size) i)->
   (∀i o,ops[i]?=some o->listed.getD i false=true->∀j∈hf o,listed.getD j false=true)->
   b4<=ops.size->(∀j,j<ops.size->writer ops tags j=true->(listed.getD j false=true↔j<b4))->
   ((List.range ops.size).filter λi=>!listed.getD i false).length<=fuel->
   W P m nt (.inRegion ops (Region.linearise.go .any ops fuel t listed [])::k) env (σs b4) Z E:=by
 have wD:∀i o,ops[i]?=some o->(∀j∈hf o,j<i)/\∀j bR,j<i->ops[j]?=some bR->mh (m7 lo pu) ops tags i j o bR=true->j∈(Ea ops).getD i []:=by
  intro i o ψ;have hi:i<ops.size:=(Array.getElem?_eq_some_iff.1 ψ).1;unfold s' at dQ;simp only[List.all_eq_true,List.mem_range] at dQ;have h:=dQ i hi;rw[ψ] at h;simp only[Bool.and_eq_true,List.all_eq_true,decide_eq_true_eq,List.mem_range] at h;refine⟨h.1,λj bR δ de ε=>?_⟩;have U:=h.2 j δ;rw[de] at U;simp only[ε,Bool.not_true,Bool.false_or,List.contains_iff_mem] at U;exact U
 have tc:∀i o,ops[i]?=some o->∀j∈hf o,j<i:=λi o ψ=>(wD i o ψ).1
 have Az:∀i o,ops[i]?=some o->writer ops tags i=false->σs (i+1)=σs i:=λi o ψ hw=>by
  cases Ν:tags.getD i false with
  | false=>exact(cB i o ψ Ν).2
  | true=>
   refine(gh i o ψ Ν).2 ?_;unfold writer at hw;rw[Ν,ψ] at hw;simpa using hw
 have AA:∀(d a:Nat),a+d<=ops.size->(∀j,a<=j->j<a+d->writer ops tags j=false)->σs (a+d)=σs a:=by
  intro d
  induction d with
  | zero=>intro a _ _;rfl
  | succ d ω=>
   intro a hle h;have J:ops[a+d]?=some ops[a+d]:=ff R;have:=Az (a+d) _ J (h (a+d) R R);rw[show a+(d+1)=a+d+1 by omega,this];exact ω a R λj J U=>h j J R
 have HT:∀a b,a<=ops.size->b<=ops.size->(∀j,j<ops.size->writer ops tags j=true->(j<a↔j<b))->σs a=σs b:=λa b κ hb h=>by
  rcases Nat.le_total a b with hle|hle
  ·have:=AA (b-a) a R λj J U=>by
    cases Ν:writer ops tags j with
    | false=>rfl
    | true=>have:=(h j R Ν).2 R;omega
   rw[show a+(b-a)=b by omega] at this;exact this.symm
  ·have:=AA (a-b) b R λj J U=>by
    cases Ν:writer ops tags j with
    | false=>rfl
    | true=>have:=(h j R Ν).1 R;omega
   rw[show b+(a-b)=a by omega] at this;exact this
 have V7:∀a b,a<=ops.size->b<=ops.size->(∀j,j<ops.size->writer ops tags j=true->pu.contains j=false->(j<a↔j<b))->v (σs a)=v (σs b):=λa b κ hb h=>by
  have key:∀(d a:Nat),a+d<=ops.size->(∀j,a<=j->j<a+d->writer ops tags j=true->pu.contains j=true)->v (σs (a+d))=v (σs a):=by
   intro d
   induction d with
   | zero=>intro a _ _;rfl
   | succ d ω=>
    intro a hle h;have J:ops[a+d]?=some ops[a+d]:=ff R;have e:v (σs (a+d+1))=v (σs (a+d)):=by
     cases hw:writer ops tags (a+d) with
     | false=>rw[Az (a+d) _ J hw]
     | true=>exact V6 (a+d) _ J (h (a+d) R R hw)
    rw[show a+(d+1)=a+d+1 by omega,e];exact ω a R λj J U=>h j J R
  have side:∀x y,y<=ops.size->(∀j,j<ops.size->writer ops tags j=true->pu.contains j=false->(j<x↔j<y))->x<=y->v (σs y)=v (σs x):=λx y Κ h hle=>by
   have:=key (y-x) x R λj J U hw=>by
    cases π:pu.contains j with
    | true=>rfl
    | false=>have:=(h j R hw π).2 R;omega
   rwa [show x+(y-x)=y by omega] at this
  rcases Nat.le_total a b with hle|hle
  ·exact(side a b hb h hle).symm
  ·exact side b a κ (λj J U μ=>(h j J U μ).symm) hle
 intro fuel;have done:∀(t:Nat) (listed:Array Bool) (env:Χ) (b4:Nat),(∀i,i<ops.size->listed.getD i false=true)->(∀i,a5 env i=a5 (cD ops env0 as9 (λi=>listed.getD i false) ops.size) i)->b4<=ops.size->
   (∀j,j<ops.size->writer ops tags j=true->(listed.getD j false=true↔j<b4))->W P m nt (.inRegion ops []::k) env (σs b4) Z E:=λt listed env b4 iv cE gR jc=>by
  have Γ:σs b4=σs ops.size:=HT b4 ops.size gR (Nat.le_refl _) λj δ Ν=>by rw[<-jc j δ Ν];simp[iv j δ,δ]
  rw[Γ];refine .congr (λi=>?_) Ay;rw[cE i];exact yk ops.size λi o hi _ _=>iv i hi
 have HU:∀listed:Array Bool,listed.size=ops.size->(∃i,i<ops.size/\listed.getD i false=false)->∃i,i<ops.size/\listed.getD i false=false/\∀j,j<i->listed.getD j false=true:=λlisted cv ⟨i,hi,ξ⟩=>by
  induction i using Nat.strongRecOn with
  | _ i ω=>
   by_cases δ:∃j,j<i/\listed.getD j false=false
   ·obtain⟨j,J,U⟩:=δ;exact ω j J R U
   ·exact⟨i,hi,ξ,λj aH=>by
     cases h:listed.getD j false with
     | true=>rfl
     | false=>exact absurd ⟨j,aH,h⟩ δ⟩
 induction fuel with
 | zero=>
  intro t listed env b4 cv cE cm gR jc HV;have iv:∀i,i<ops.size->listed.getD i false=true:=λi hi=>by
   cases h:listed.getD i false with
   | true=>rfl
   | false=>
    have qo:i∈(List.range ops.size).filter λi=>!listed.getD i false:=by rw[List.mem_filter];exact⟨List.mem_range.2 hi,by rw[h];rfl⟩
    have:((List.range ops.size).filter λi=>!listed.getD i false)=[]:=dO.1 R;rw[this] at qo;simp at qo
  exact done t listed env b4 iv cE gR jc
 | succ fuel ω=>
  intro t listed env b4 cv cE cm gR jc HV;simp only[Region.linearise.go];generalize kB:((List.range ops.size).filter λi=>!listed.getD i true&&((ops[i]?).map (·.after.all λe=>!Region.binds .any e||listed.getD e.on false)).getD false)=rs;have AB:∀i,i<ops.size->listed.getD i true=listed.getD i false:=λi hi=>by
   rw[Array.getD_eq_getD_getElem?,Array.getD_eq_getD_getElem?,ff R];rfl
  have AD:∀i,i∈rs↔i<ops.size/\listed.getD i false=false/\∀o,ops[i]?=some o->∀j∈hf o,listed.getD j false=true:=λi=>by
   rw[<-kB];simp only[List.mem_filter,List.mem_range,Bool.and_eq_true,Bool.not_eq_true'];constructor
   ·rintro⟨J,U,μ⟩;rw[AB i J] at U;refine⟨J,U,λo ψ j δ=>?_⟩;rw[ψ] at μ;simp only[Option.map_some,Option.getD_some,Array.all_eq_true'] at μ;unfold hf at δ;simp only[List.mem_map,List.mem_filter] at δ;obtain⟨e,⟨te,g2⟩,rfl⟩:=δ;have:=μ e (by simpa using te);simpa[g2] using this
   ·rintro⟨J,U,μ⟩;refine⟨J,by rw[AB i J];exact U,?_⟩;have ψ:ops[i]?=some ops[i]:=ff J;rw[ψ];simp only[Option.map_some,Option.getD_some,Array.all_eq_true'];intro e he;by_cases hb:Region.binds .any e=true
    ·have:=μ _ ψ e.on (by unfold hf;simp only[List.mem_map,List.mem_filter];exact⟨e,⟨by simpa using he,hb⟩,rfl⟩);simp[this]
    ·simp[hb]
  cases hi:rs[t % rs.length]? with
  | none=>
   simp only[List.reverse_nil];have zM:rs=[]:=by
    cases ι:rs with
    | nil=>rfl
    | cons x xs=>
     rw[ι] at hi;have aO:t % (x::xs).length<(x::xs).length:=Nat.mod_lt _ ζ;rw[a8 aO] at hi;cases hi
   have iv:∀i,i<ops.size->listed.getD i false=true:=λi aC=>by
    cases h:listed.getD i false with
    | true=>rfl
    | false=>
     obtain⟨r,J,U,μ⟩:=HU listed cv ⟨i,aC,h⟩;have:r∈rs:=(AD r).2 ⟨J,U,λo ψ j δ=>μ j (tc r o ψ j δ)⟩;rw[zM] at this;simp at this
   exact done t listed env b4 iv cE gR jc
  | some i=>
   simp only;rw[Nc];have qo:i∈rs:=cG hi;obtain⟨J,U,μ⟩:=(AD i).1 qo;have ψ:ops[i]?=some ops[i]:=ff J;have HW:=Eb tc (λj=>listed.getD j false=true) (λj o δ ξ=>cm j o δ ξ) i _ ψ (μ _ ψ);have low:∀j bR,j<i->ops[j]?=some bR->mh (m7 lo pu) ops tags i j ops[i] bR=true->listed.getD j false=true:=λj bR δ de ε=>HW j ((wD i _ ψ).2 j bR δ de ε);have high:∀j bR,i<j->ops[j]?=some bR->mh (m7 lo pu) ops tags j i bR ops[i]=true->listed.getD j false=false:=λj bR δ de ε=>by
    cases ξ:listed.getD j false with
    | false=>rfl
    | true=>
     have:=Eb tc (λj=>listed.getD j false=true) (λj o δ ξ=>cm j o δ ξ) j bR de (cm j bR de ξ) i ((wD j bR de).2 i _ δ ψ ε);rw[U] at this;cases this
   have same:oE ops ops[i] (cD ops env0 as9 (λ_=>true) i) env:=λx γ=>by
    rw[cE x];have c1:a5 (cD ops env0 as9 (λi=>listed.getD i false) ops.size) x=a5 (cD ops env0 as9 (λi=>listed.getD i false) i) x:=Ed R λj bR rK AE de hd=>by
     by_cases e:j=i
     ·subst e;exact U
     ·refine high j bR R de ?_;unfold mh;simp[hd,γ]
    rw[c1];exact yk i λj bR δ de hd=>low j bR δ de (by unfold mh;simp[hd,γ])
   have mY:∀x,a5 (b0 ops[i] env (as9 i)) x=a5 (cD ops env0 as9 (λj=>(listed.setIfInBounds i true).getD j false) ops.size) x:=λx=>by
    have kH:∀j,(listed.setIfInBounds i true).getD j false=if j=i then true else listed.getD j false:=λj=>by
     rw[Array.getD_eq_getD_getElem?,Array.getD_eq_getD_getElem?];by_cases e:j=i
     ·subst e;rw[Array.getElem?_setIfInBounds_self_of_lt R];simp
     ·rw[Array.getElem?_setIfInBounds_ne (Ne.symm e),if_neg e]
    rw[wB];by_cases hd:ops[i].dst=some x
    ·rw[if_pos hd];have c1:a5 (cD ops env0 as9 (λj=>(listed.setIfInBounds i true).getD j false) ops.size) x=a5 (cD ops env0 as9 (λj=>(listed.setIfInBounds i true).getD j false) (i+1)) x:=Ed R λj bR rK AE de qs=>by
      rw[kH,if_neg R];refine high j bR R de ?_;unfold mh;simp[hd,qs]
     rw[c1];simp only[cD,kH,if_true,ψ,wB,hd]
    ·rw[if_neg hd,cE x];exact yk ops.size λj bR δ de qs=>by
      rw[kH,if_neg];intro e;subst e;rw[ψ] at de;cases de;exact hd qs
   have kH:∀j,(listed.setIfInBounds i true).getD j false=if j=i then true else listed.getD j false:=λj=>by
    rw[Array.getD_eq_getD_getElem?,Array.getD_eq_getD_getElem?];by_cases e:j=i
    ·subst e;rw[Array.getElem?_setIfInBounds_self_of_lt R];simp
    ·rw[Array.getElem?_setIfInBounds_ne (Ne.symm e),if_neg e]
   have uR:((List.range ops.size).filter λj=>!(listed.setIfInBounds i true).getD j false).length<=fuel:=by
    have aO:((List.range ops.size).filter λj=>!(listed.setIfInBounds i true).getD j false).length<((List.range ops.size).filter λj=>!listed.getD j false).length:=by
     have:((List.range ops.size).filter λj=>!(listed.setIfInBounds i true).getD j false)=((List.range ops.size).filter λj=>!listed.getD j false).filter λj=>j != i:=by
      rw[List.filter_filter];apply List.filter_congr;intro j _;rw[kH];by_cases e:j=i
      ·subst e;simp
      ·simp[e]
     rw[this];have hm:i∈(List.range ops.size).filter λj=>!listed.getD j false:=by
      rw[List.mem_filter];exact⟨List.mem_range.2 J,by rw[U];rfl⟩
     exact List.length_filter_lt_length_iff_exists.2 ⟨i,hm,ζ⟩
    omega
   have qt:∀j o,ops[j]?=some o->(listed.setIfInBounds i true).getD j false=true->∀y∈hf o,(listed.setIfInBounds i true).getD y false=true:=λj o δ ξ y Κ=>by
    rw[kH] at ξ ⊢;by_cases e:y=i
    ·rw[if_pos e]
    ·rw[if_neg e];by_cases Δ:j=i
     ·subst Δ;rw[ψ] at δ;cases δ;exact μ _ ψ y Κ
     ·rw[if_neg Δ] at ξ;exact cm j o δ ξ y Κ
   have Ng:∀j,writer ops tags j=true->tags.getD j false=true:=λj h=>by
    unfold writer at h;rw[Bool.and_eq_true] at h;exact h.1
   cases mj:tags.getD i false with
   | false=>
    refine(cB i _ ψ mj).1 env (σs b4) _ same ?_;refine ω _ _ _ b4 (by simpa using cv) mY qt gR (λj δ Ν=>?_) uR;rw[kH];have:j≠i:=λe=>by subst e;rw[Ng j Ν] at mj;cases mj
    rw[if_neg this];exact jc j δ Ν
   | true=>
    have Nh:∀j bR,ops[j]?=some bR->writer ops tags j=true->lo.contains i=false\/pu.contains j=false->mh (m7 lo pu) ops tags i j ops[i] bR=true/\mh (m7 lo pu) ops tags j i bR ops[i]=true:=λj bR de Ν g8=>by
     have J:=Ng j Ν
     have d':lo.contains j=false:=by
      cases ξ:lo.contains j with
      | false=>rfl
      | true=>
       have:=(HS j bR de ξ J).1;unfold writer at Ν;rw[J,de] at Ν;simp[this] at Ν
     unfold writer at Ν;rw[J,de] at Ν;have U:jb bR=false:=by simpa using Ν
     have g8:(lo.contains i&&pu.contains j)=false:=by
      rcases g8 with h|h
      ·rw[h];rfl
      ·rw[h,Bool.and_false]
     have f1:m7 lo pu i j=false:=by unfold m7;rw[g8,d',Bool.and_false];rfl
     have f2:m7 lo pu j i=false:=by unfold m7;rw[d',Bool.and_comm (pu.contains j),g8];rfl
     unfold mh;rw[J,mj,U,f1,f2];simp
    have uh:∀j,j<ops.size->writer ops tags j=true->lo.contains i=false\/pu.contains j=false->j<i->listed.getD j false=true:=λj δ Ν g8 wE=>low j _ wE (ff δ) (Nh j _ (ff δ) Ν g8).1
    have Ni:∀j,j<ops.size->writer ops tags j=true->lo.contains i=false\/pu.contains j=false->i<j->listed.getD j false=false:=λj δ Ν g8 wE=>high j _ wE (ff δ) (Nh j _ (ff δ) Ν g8).2
    have iff:∀j,j<ops.size->writer ops tags j=true->lo.contains i=false\/pu.contains j=false->(j<b4↔j<i):=λj δ Ν g8=>by
     rw[<-jc j δ Ν];constructor
     ·intro ξ;apply Classical.byContradiction;intro Ζ;by_cases e:j=i
      ·subst e;rw[U] at ξ;cases ξ
      ·rw[Ni j δ Ν g8 R] at ξ;cases ξ
     ·exact uh j δ Ν g8
    cases kj:writer ops tags i with
    | false=>
     have keep:∀j,j<ops.size->writer ops tags j=true->((listed.setIfInBounds i true).getD j false=true↔j<b4):=λj δ Ν=>by
      rw[kH];have:j≠i:=λe=>by subst e;rw[Ν] at kj;cases kj
      rw[if_neg this];exact jc j δ Ν
     cases hP:lo.contains i with
     | true=>
      refine(HS i _ ψ hP mj).2 (σs b4) (V7 b4 i gR R λj δ Ν π=>iff j δ Ν (.inr π)) env _ same ?_;exact ω _ _ _ b4 (by simpa using cv) mY qt gR keep uR
     | false=>
      have Ee:σs b4=σs i:=HT b4 i gR R λj δ Ν=>iff j δ Ν (.inl hP)
      have es:=Az i _ ψ kj
      have ν:=(gh i _ ψ mj).1;rw[es] at ν;rw[Ee];refine ν env _ same ?_;rw[<-Ee];exact ω _ _ _ b4 (by simpa using cv) mY qt gR keep uR
    | true=>
     have hP:lo.contains i=false:=by
      cases ξ:lo.contains i with
      | false=>rfl
      | true=>
       have:=(HS i _ ψ ξ mj).1;unfold writer at kj;rw[ψ] at kj;simp[this] at kj
     have Ee:σs b4=σs i:=HT b4 i gR R λj δ Ν=>iff j δ Ν (.inl hP);rw[Ee];refine(gh i _ ψ mj).1 env _ same ?_;refine ω _ _ _ (i+1) (by simpa using cv) mY qt R (λj δ Ν=>?_) uR;rw[kH];by_cases e:j=i
     ·subst e;simp
     ·rw[if_neg e];constructor
      ·intro ξ;apply Classical.byContradiction;intro Ζ;rw[Ni j δ Ν (.inl hP) R] at ξ;cases ξ
      ·intro aO;exact uh j δ Ν (.inl hP) R
theorem W.V8 {as9:Nat->η} {σs:Nat->List Row} {tags:List Bool} {env0:Χ} (dQ:m6 ops tags=true)
  (cB:∀i o,ops[i]?=some o->tags.getD i false=false->uP P m nt k Z E ops i o (cD ops env0 as9 (λ_=>true) i) (as9 i)/\σs (i+1)=σs i)
  (gh:∀i o,ops[i]?=some o->tags.getD i false=true->uQ P m nt k Z E ops i o (cD ops env0 as9 (λ_=>true) i) (σs i) (as9 i) (σs (i+1))/\(jb o=true->σs (i+1)=σs i))
  (Ay:W P m nt (.inRegion ops []::k) (cD ops env0 as9 (λ_=>true) ops.size) (σs ops.size) Z E) :
  ∀(fuel:Nat) (t:Nat) (listed:Array Bool) (env:Χ) (b4:Nat),listed.size=ops.size->
   (∀i,a5 env i=a5 (cD ops env0 as9 (λi=>listed.getD i false) ops.size) i)->
   (∀i o,ops[i]?=some o->listed.getD i false=true->∀j∈hf o,listed.getD j false=true)->
   b4<=ops.size->(∀j,j<ops.size->writer ops tags j=true->(listed.getD j false=true↔j<b4))->
   ((List.range ops.size).filter λi=>!listed.getD i false).length<=fuel->
   W P m nt (.inRegion ops (Region.linearise.go .any ops fuel t listed [])::k) env (σs b4) Z E:=by
 have e:m7 [] []=ta:=by funext i j;simp[m7,ta]
 exact W.Nf (lo:=[]) (pu:=[]) (v:=λ_=>()) (by rw[e];exact dQ) cB gh (λi o _ h=>by simp at h) (λi o _ h=>by simp at h) Ay
def Ef:List Oper->List Nat->List Nat
 | [],acc=>acc
 | o::os,acc=>Ef os (acc++[(hf o).foldr (λj m=>(1 <<< j)|||acc.getD j 0|||m) 0])
def HX (ax:Nat->Nat->Bool) (ops:Array Oper) (tags:List Bool):Bool:=
 let b:=Ef ops.toList []
 (List.range ops.size).all λi=>match ops[i]? with
  | none=>false
  | some mi=>(hf mi).all (λj=>decide (j<i))&&(List.range i).all λj=>match ops[j]? with
   | none=>false
   | some bR=>!mh ax ops tags i j mi bR||(b.getD i 0).testBit j
def Nj (acc:List (List Nat)) (uS:List Nat):Prop:=acc.length=uS.length/\∀i j,(uS.getD i 0).testBit j=true↔j∈acc.getD i []
theorem V9:∀(os:List Oper) (acc:List (List Nat)) (uS:List Nat),Nj acc uS->Nj (Aw os acc) (Ef os uS):=by
 intro os
 induction os with
 | nil=>intro acc uS h;exact h
 | cons o os ω=>
  intro acc uS h;simp only[Aw,Ef];refine ω _ _ ⟨by simp[h.1],λi j=>?_⟩;have one:∀l:List Nat,(l.foldr (λj m=>(1 <<< j)|||uS.getD j 0|||m) 0).testBit j=true↔j∈l++l.flatMap λj=>acc.getD j []:=by
   intro l
   induction l with
   | nil=>simp
   | cons a l mZ=>
    rw[List.foldr_cons,Nat.testBit_or,Nat.testBit_or,Nat.one_shiftLeft,Nat.testBit_two_pow];simp only[Bool.or_eq_true,decide_eq_true_eq,h.2 a j,mZ,List.mem_append,List.mem_cons,List.flatMap_cons];constructor
    ·rintro((e|e)|e|e)
     ·exact .inl (.inl e.symm)
     ·exact .inr (.inl e)
     ·exact .inl (.inr e)
     ·exact .inr (.inr e)
    ·rintro((e|e)|e|e)
     ·exact .inl (.inl e.symm)
     ·exact .inr (.inl e)
     ·exact .inl (.inr e)
     ·exact .inr (.inr e)
  rw[List.getD_eq_getElem?_getD,List.getD_eq_getElem?_getD];by_cases hi:i<acc.length
  ·rw[dI hi,dI (by rw[<-h.1];exact hi),<-List.getD_eq_getElem?_getD,<-List.getD_eq_getElem?_getD];exact h.2 i j
  ·rw[hp (by have:=h.1;omega),hp R,<-h.1];cases hd:i-acc.length with
   | zero=>simpa using one (hf o)
   | succ n=>simp
theorem HY {ax:Nat->Nat->Bool} {ops:Array Oper} {tags:List Bool} (h:HX ax ops tags=true):s' ax ops tags=true:=by
 unfold HX at h;unfold s';have hb:=V9 ops.toList [] [] ⟨rfl,λi j=>ζ⟩;simp only[List.all_eq_true] at h ⊢;intro i hi;have J:=h i hi;cases ψ:ops[i]? with
 | none=>rw[ψ] at J;exact J
 | some mi=>
  rw[ψ] at J;simp only[Bool.and_eq_true,List.all_eq_true] at J ⊢;refine⟨J.1,λj δ=>?_⟩;have U:=J.2 j δ;cases de:ops[j]? with
  | none=>rw[de] at U;exact U
  | some bR=>
   rw[de] at U;simp only[Bool.or_eq_true] at U ⊢;rcases U with U|U
   ·exact .inl U
   ·exact .inr (List.contains_iff_mem.2 ((hb.2 i j).1 U))
end
def Wa (ops:Array Oper) (tags:List Bool):Bool:=HX ta ops tags
theorem hg {ops:Array Oper} {tags:List Bool} (h:Wa ops tags=true):m6 ops tags=true:=HY h
section
variable {P:Program} {T:bb} {A:List Nat} {m nt:Nat} {k:List Item} {env env':Χ} {σ:List Row} {Z:List Item->Χ->List Row->Prop} {E:η->Χ->List Row->Prop} {ops:Array Oper}
theorem AF {o:Oper} (h:oE ops o env env'):∀x,x∈o.op.operands.toList->aR env' x=aR env x:=λx γ=>by
 cases x with
 | tmp t=>
  refine h t ?_;unfold Av;simp only[List.mem_append,List.mem_filterMap];exact .inl ⟨.tmp t,γ,rfl⟩
 | _=>rfl
theorem k0 {o:Oper} (h:oE ops o env env'):fe env' ops o=fe env ops o:=by
 unfold fe;cases Ο:o.guard with
 | none=>rfl
 | some x=>
  obtain⟨j,want⟩:=x;simp only;cases hd:(ops[j]?).bind (·.dst) with
  | none=>rfl
  | some d=>
   simp only;have:a5 env' d=a5 env d:=h d (by unfold Av;rw[Ο];simp[hd]);rw[this]
theorem Eg {cZ:Array (Nat×Operand)} (h:∀p∈cZ,aR env' p.2=aR env p.2):s3 env' cZ=s3 env cZ:=by
 unfold s3;exact List.map_congr_left λp π=>by rw[h p (by simpa using π)]
theorem AG {df:Array Operand} (h:∀x∈df,aR env' x=aR env x):df.toList.map (aR env')=df.toList.map (aR env):=List.map_congr_left λx γ=>h x (by simpa using γ)
theorem Eh {o:Option Operand} (h:∀x,o=some x->aR env' x=aR env x):o.map (aR env')=o.map (aR env):=by
 cases o with
 | none=>rfl
 | some x=>simp[h x rfl]
theorem tf {o:Oper} (ν:oE ops o env env'):jx T A env' o=jx T A env o:=by
 have h:=AF ν;obtain⟨dst,op,type,pos,after,guard⟩:=o;simp only at h;unfold jx;cases op<;>simp only<;>try rfl
 all_goals simp only[Op.operands,List.mem_cons,List.not_mem_nil,or_false,forall_eq_or_imp,forall_eq] at h
 case move x=>rw[h]
 case assign x=>rw[h]
 case pick c a b=>rw[h.1,h.2.1,h.2.2]
 case box ty x=>rw[h]
 case build ty cZ=>rw[Eg λp π=>h p.2 (by simp only[List.mem_map];exact⟨p,by simpa using π,rfl⟩)]
 case buildSlice ty n cZ=>rw[Eg λp π=>h p.2 (by simp only[List.mem_map];exact⟨p,by simpa using π,rfl⟩)]
 case load ty x=>rw[h]
 case binOp op a x y b=>rw[h.1,h.2]
 case unOp op a x=>rw[h]
 case convert a b x=>rw[h]
 case index ty x y=>rw[h.1,h.2]
 case nilCheck x=>rw[h]
 case sliceToArrayPointer ty x=>rw[h]
 case makeInterface a x=>rw[h]
 case makeFunc f df cs=>rw[AG λx γ=>h x (by simp[γ]),AG λx γ=>h x (by simp[γ])]
 case makeSlice a x y=>rw[h.1,h.2]
 case slice ty x lo hi oF=>
  cases oF with
  | some m=>rfl
  | none=>
   simp only;rw[h x ζ,Eh λy Κ=>h y (by simp[Κ]),Eh λy Κ=>h y (by simp[Κ])]
 case fieldAddr ty x f=>rw[h]
 case indexAddr ty x y=>rw[h.1,h.2]
 case typeAssert x a b c=>rw[h]
 case extract x i=>rw[h]
 case call c=>
  obtain⟨callee,⟨args⟩,⟨ej⟩⟩:=c;cases callee
  case value=>rfl
  case invoke=>rfl
  rename_i b;have c9:∀x∈args,aR env' x=aR env x:=λx γ=>h x (by simp[Call.operands,γ])
  match args,ej with
  | [x],[ty]=>simp only;rw[c9 x ζ]
  | [x,y],[uO,ty]=>simp only;rw[c9 x ζ,c9 y ζ]
  | [],_=>rfl
  | [_],[]=>rfl
  | [_],_::_::_=>rfl
  | [_,_],[]=>rfl
  | [_,_],[_]=>rfl
  | [_,_],_::_::_::_=>rfl
  | _::_::_::_,_=>rfl
theorem yl {o:Oper} (ν:oE ops o env env'):ib T A env' σ o=ib T A env σ o:=by
 have h:=AF ν;obtain⟨dst,op,type,pos,after,guard⟩:=o;simp only at h;unfold ib;cases op<;>simp only<;>try rfl
 all_goals simp only[Op.operands,List.mem_cons,List.not_mem_nil,or_false,forall_eq_or_imp,forall_eq] at h
 case box ty x=>rw[h]
 case build ty cZ=>rw[Eg λp π=>h p.2 (by simp only[List.mem_map];exact⟨p,by simpa using π,rfl⟩)]
 case buildSlice ty n cZ=>rw[Eg λp π=>h p.2 (by simp only[List.mem_map];exact⟨p,by simpa using π,rfl⟩)]
 case load ty x=>rw[h]
 case store ty x y=>rw[h.1,h.2]
 case makeSlice a x y=>rw[h.1,h.2]
 case makeMap ty r=>cases r<;>rfl
 case convert a b x=>rw[h]
 case nilCheck x=>rw[h]
 case binOp op ty x y d=>
  split
  all_goals first
   | rfl
   |(rename_i heq;cases heq<;>simp only[h.1])
 case mapUpdate ty x y z=>rw[h.1,h.2.1,h.2.2]
 case insert ty x y z=>rw[h.1,h.2.1,h.2.2]
 case lookup ty x y ok=>rw[h.1,h.2]
 case range ty x=>rw[h]
 case next x b=>
  cases b<;>simp only<;>try rfl
  rw[h]
 case entry x=>rw[h]
 case slice ty x lo hi oF=>
  cases oF with
  | some m=>rfl
  | none=>
   simp only;rw[h x ζ,Eh λy Κ=>h y (by simp[Κ]),Eh λy Κ=>h y (by simp[Κ])]
 case fieldAddr ty x f=>rw[h]
 case indexAddr ty x y=>rw[h.1,h.2]
 case call c=>
  obtain⟨callee,⟨args⟩,⟨ej⟩⟩:=c;cases callee
  case value=>rfl
  case invoke=>rfl
  rename_i b;have c9:∀x∈args,aR env' x=aR env x:=λx γ=>h x (by simp[Call.operands,γ])
  match args,ej with
  | [x],[ty]=>simp only;rw[c9 x ζ]
  | [x,y],[uO,ty]=>simp only;rw[c9 x ζ,c9 y ζ]
  | [],_=>rfl
  | [_],[]=>rfl
  | [_],_::_::_=>rfl
  | [_,_],[]=>rfl
  | [_,_],[_]=>rfl
  | [_,_],_::_::_::_=>rfl
  | _::_::_::_,_=>rfl
def gi (P:Program) (f:η) (args:List η) (r:η):Prop:=∀σ,ha P f args σ (λa s=>a=r/\s=σ) (λ_ _=>False)
def cw.dZ (r:cw) (K:η->Prop) (s:Prop):Prop:=match r with
 | .ok a=>K a
 | .b6 p (.ok a)=>p/\K a
 | .b6 _ _=>False
 | .bad=>s
def cV.dZ (r:cV) (K:η->List Row->Prop):Prop:=match r with
 | .ok a σ'=>K a σ'
 | .b6 p (.ok a σ')=>p/\K a σ'
 | _=>False
theorem Wb {r r':cw} {K:η->Prop} {s:Prop} (h:r=r'):r.dZ K s=r'.dZ K s:=by rw[h]
theorem Wc {r r':cV} {K:η->List Row->Prop} (h:r=r'):r.dZ K=r'.dZ K:=by rw[h]
def dcall (P:Program) (f:η) (args:List η) (σ:List Row) (fv:η->Prop) (iH:η->List Row->Prop):Prop:=
 (∃r,gi P f args r/\fv r)\/∃r σ',ha P f args σ (λa s=>a=r/\s=σ') (λ_ _=>False)/\iH r σ'
theorem eZ {P:Program} {f:η} {args:List η} {σ:List Row} {fv:η->Prop} {iH:η->List Row->Prop} {r:η} (h:gi P f args r) (k:fv r):dcall P f args σ fv iH:=.inl ⟨r,h,k⟩
theorem Wd {P:Program} {f:η} {args:List η} {σ σ':List Row} {fv:η->Prop} {iH:η->List Row->Prop} {r:η} (h:ha P f args σ (λa s=>a=r/\s=σ') (λ_ _=>False)) (k:iH r σ'):dcall P f args σ fv iH:=.inr ⟨r,σ',h,k⟩
def tg (P:Program) (T:bb) (A:List Nat) (env:Χ) (o:Oper) (σ:List Row) (fv:η->Prop) (iH:η->List Row->Prop):Prop:=match o.op with
 | .call ⟨.value f,args,_⟩=>dcall P (aR env f) (args.toList.map (aR env)) σ fv iH
 | .panic _=>False
 | .defer _=>False
 | _=>(jx T A env o).dZ fv ((ib T A env σ o).dZ iH)
theorem We {P:Program} {T:bb} {A:List Nat} {env:Χ} {o:Oper} {σ:List Row} {fv:η->Prop} {iH:η->List Row->Prop}:tg P T A env o σ fv iH=match o.op with
 | .call ⟨.value f,args,_⟩=>dcall P (aR env f) (args.toList.map (aR env)) σ fv iH
 | .panic _=>False
 | .defer _=>False
 | _=>(jx T A env o).dZ fv ((ib T A env σ o).dZ iH):=Eq.trans rfl rfl
theorem Wf {a:η} {K:η->Prop} {s:Prop}:cw.dZ (.ok a) K s=K a:=Eq.trans rfl rfl
theorem Wg {p:Prop} {a:η} {K:η->Prop} {s:Prop}:cw.dZ (.b6 p (.ok a)) K s=(p/\K a):=Eq.trans rfl rfl
theorem Wh {K:η->Prop} {s:Prop}:cw.dZ .bad K s=s:=Eq.trans rfl rfl
theorem Wi {a:η} {σ:List Row} {K:η->List Row->Prop}:cV.dZ (.ok a σ) K=K a σ:=Eq.trans rfl rfl
theorem Wj {p:Prop} {a:η} {σ:List Row} {K:η->List Row->Prop}:cV.dZ (.b6 p (.ok a σ)) K=(p/\K a σ):=Eq.trans rfl rfl
def jP (P:Program) (T:bb) (A:List Nat) (nt:Nat) (ops:Array Oper):List Nat->Χ->List Row->List Bool->(Χ->List Row->Prop)->Prop
 | [],env,σ,tags,K=>m6 ops tags=true/\K env σ
 | i::is,env,σ,tags,K=>gg ops[i]? λo=>hc nt o=true/\gg (fe env ops o) λw=>
   ic w (jP P T A nt ops is (b0 o env .cg) σ (tags++[false]) K)
    (tg P T A env o σ (λa=>jP P T A nt ops is (b0 o env a) σ (tags++[false]) K) (λa σ'=>jP P T A nt ops is (b0 o env a) σ' (tags++[true]) K))
def Nk (P:Program) (T:bb) (A:List Nat) (nt:Nat) (ops:Array Oper) (is:List Nat) (o:Oper) (env:Χ) (σ:List Row) (tags:List Bool) (K:Χ->List Row->Prop) (a:η):Prop:=jP P T A nt ops is (b0 o env a) σ (tags++[false]) K
def Nl (P:Program) (T:bb) (A:List Nat) (nt:Nat) (ops:Array Oper) (is:List Nat) (o:Oper) (env:Χ) (tags:List Bool) (K:Χ->List Row->Prop) (a:η) (σ':List Row):Prop:=jP P T A nt ops is (b0 o env a) σ' (tags++[true]) K
theorem dp {tags:List Bool} {K:Χ->List Row->Prop}:jP P T A nt ops [] env σ tags K=(m6 ops tags=true/\K env σ):=Eq.trans rfl rfl
theorem dq {i:Nat} {is:List Nat} {tags:List Bool} {K:Χ->List Row->Prop}:jP P T A nt ops (i::is) env σ tags K=gg ops[i]? λo=>hc nt o=true/\gg (fe env ops o) λw=>
   ic w (jP P T A nt ops is (b0 o env .cg) σ (tags++[false]) K) (tg P T A env o σ (Nk P T A nt ops is o env σ tags K) (Nl P T A nt ops is o env tags K)):=Eq.trans rfl rfl
theorem Wk {ops:Array Oper} {is:List Nat} {o:Oper} {tags:List Bool} {K:Χ->List Row->Prop} {a:η}:Nk P T A nt ops is o env σ tags K a=jP P T A nt ops is (b0 o env a) σ (tags++[false]) K:=Eq.trans rfl rfl
theorem Wl {ops:Array Oper} {is:List Nat} {o:Oper} {tags:List Bool} {K:Χ->List Row->Prop} {a:η}:Nl P T A nt ops is o env tags K a σ=jP P T A nt ops is (b0 o env a) σ (tags++[true]) K:=Eq.trans rfl rfl
def iI (P:Program) (m nt:Nat) (k:List Item) (Z:List Item->Χ->List Row->Prop) (E:η->Χ->List Row->Prop) (ops:Array Oper) (i:Nat) (o:Oper) (env:Χ) (σ:List Row) (tag:Bool) (a:η) (σ':List Row):Prop:=
 if tag then uQ P m nt k Z E ops i o env σ a σ'/\(jb o=true->σ'=σ) else uP P m nt k Z E ops i o env a/\σ'=σ
theorem Wm {ty:TypeId} {x a:η} {σ':List Row} {p:Prop} (h:ow T ty σ x=.ok a σ'\/ow T ty σ x=.b6 p (.ok a σ')):σ'=σ:=by
 unfold ow rA at h
 repeat' split at h
 all_goals simp[cw.dw] at h
 all_goals first|exact h.2.symm|skip
theorem Wn {ty:TypeId} {x bB a:η} {σ':List Row} {p:Prop} (h:oy T ty σ x bB=.ok a σ'\/oy T ty σ x bB=.b6 p (.ok a σ')):σ'=σ:=by
 unfold oy at h
 repeat' split at h
 all_goals simp at h
 all_goals first|exact h.2.2.symm|exact h.2.symm|skip
theorem Wo {ty:TypeId} {f:Nat} {x a:η} {σ':List Row} {p:Prop} (h:ox T ty f σ x=.ok a σ'\/ox T ty f σ x=.b6 p (.ok a σ')):σ'=σ:=by
 unfold ox at h
 repeat' split at h
 all_goals simp at h
 all_goals first|exact h.2.2.symm|exact h.2.symm|skip
theorem Wp {x a:η} {σ':List Row} {p:Prop} (h:wx σ x=.ok a σ'\/wx σ x=.b6 p (.ok a σ')):σ'=σ:=by
 unfold wx at h
 repeat' split at h
 all_goals simp at h
 all_goals first|exact h.2.2.symm|exact h.2.symm|skip
theorem ym {o:Oper} {a:η} {σ':List Row} {p:Prop} (ι:jb o=true) (h:ib T A env σ o=.ok a σ'\/ib T A env σ o=.b6 p (.ok a σ')):σ'=σ:=by
 unfold jb at ι;unfold ib at h;split at ι
 ·rename_i ty x Μ;rw[Μ] at h;exact Wm h
 ·rename_i ty x bB Μ;rw[Μ] at h;exact Wn h
 ·rename_i ty x f Μ;rw[Μ] at h;exact Wo h
 ·rename_i x Μ;rw[Μ] at h;exact Wp h
 ·cases ι
theorem Wq (Ι:bN P T) {i:Nat} {is:List Nat} {tags:List Bool} {K:Χ->List Row->Prop} (h:jP P T A nt ops (i::is) env σ tags K) :
  ∃o a σ' tag,ops[i]?=some o/\iI P m nt k Z E ops i o env σ tag a σ'/\jP P T A nt ops is (b0 o env a) σ' (tags++[tag]) K:=by
 unfold jP gg at h;split at h
 ·exact h.elim
 ·rename_i o ψ;obtain⟨hd,h⟩:=h;split at h
  ·exact h.elim
  rename_i w hw;unfold ic at h;cases w
  ·replace h:=h.1 rfl
   refine⟨o,.cg,σ,false,ψ,?_,h⟩;unfold iI;simp only[Bool.false_eq_true,if_false];exact⟨λenv' σ' rest ν hW=>.unwanted ψ (by rw[k0 ν];exact hw) hd hW,trivial⟩
  ·replace h:=h.2 rfl
   unfold tg at h;split at h
   ·rename_i f args ej Μ;have uT:∀env',oE ops o env env'->aR env' f=aR env f/\args.toList.map (aR env')=args.toList.map (aR env):=λenv' ν=>by
     have γ:=AF ν;rw[Μ] at γ;refine⟨γ f (by simp[Op.operands,Call.operands]),AG λx AH=>γ x (by simp[Op.operands,Call.operands,AH])⟩
    rcases h with⟨r,ε,h⟩|⟨r,σ',ε,h⟩
    ·refine⟨o,r,σ,false,ψ,?_,h⟩;unfold iI;simp only[Bool.false_eq_true,if_false];refine⟨λenv' σ' rest ν hW=>.call ψ (by rw[k0 ν];exact hw) hd Μ ?_,trivial⟩;obtain⟨Γ,Δ⟩:=uT env' ν;rw[Γ,Δ];exact(ε σ').mono (λa s ⟨x,y⟩=>by subst x;subst y;exact hW) (λ_ _ h=>h.elim)
    ·refine⟨o,r,σ',true,ψ,?_,h⟩;unfold iI;simp only[if_true];refine⟨?_,λι=>by unfold jb at ι;rw[Μ] at ι;cases ι⟩;refine λenv' rest ν hW=>.call ψ (by rw[k0 ν];exact hw) hd Μ ?_;obtain⟨Γ,Δ⟩:=uT env' ν;rw[Γ,Δ];exact ε.mono (λa s ⟨x,y⟩=>by subst x;subst y;exact hW) (λ_ _ h=>h.elim)
   ·exact h.elim
   ·exact h.elim
   ·rename_i J U μ;have uU:∀(r:cw) (a:η),jx T A env o=r->(∀K:η->List Row->Prop,∀s,K a s->(r.dw s).holds K)->(∀σ s,r.or σ s=r.dw σ)->uP P m nt k Z E ops i o env a:=λr a ι aY AI env' σ' rest ν hW=>by
     refine .op (A:=A) Ι ψ (by rw[k0 ν];exact hw) hd (λc ε=>μ c ε) ?_;rw[tf ν,ι,AI];exact aY _ _ hW
    unfold cw.dZ at h;split at h
    ·rename_i a κ;refine⟨o,a,σ,false,ψ,?_,h⟩;unfold iI;simp only[Bool.false_eq_true,if_false];exact⟨uU _ a κ (λK s χ=>χ) (λ_ _=>rfl),trivial⟩
    ·rename_i p a κ;refine⟨o,a,σ,false,ψ,?_,h.2⟩;unfold iI;simp only[Bool.false_eq_true,if_false];exact⟨uU _ a κ (λK s χ=>⟨h.1,χ⟩) (λ_ _=>rfl),trivial⟩
    ·exact h.elim
    ·rename_i nQ;have wF:∀(a:η) (σ':List Row) (r:cV),ib T A env σ o=r->(∀K:η->List Row->Prop,K a σ'->r.holds K)->uQ P m nt k Z E ops i o env σ a σ':=λa σ' r ι aY env' rest ν hW=>by
      refine .op (A:=A) Ι ψ (by rw[k0 ν];exact hw) hd (λc ε=>μ c ε) ?_;rw[tf ν,yl ν,nQ,ι];exact aY _ hW
     unfold cV.dZ at h;split at h
     ·rename_i a σ' κ;refine⟨o,a,σ',true,ψ,?_,h⟩;unfold iI;simp only[if_true];exact⟨wF a σ' _ κ λK χ=>χ,λι=>ym (p:=True) ι (.inl κ)⟩
     ·rename_i p a σ' κ;refine⟨o,a,σ',true,ψ,?_,h.2⟩;unfold iI;simp only[if_true];exact⟨wF a σ' _ κ λK χ=>⟨h.1,χ⟩,λι=>ym ι (.inr κ)⟩
     ·exact h.elim
theorem HZ {env0:Χ} {as9 hR:Nat->η} {D:Nat->Bool}:∀n,(∀j,j<n->as9 j=hR j)->cD ops env0 as9 D n=cD ops env0 hR D n:=by
 intro n
 induction n with
 | zero=>intro _;rfl
 | succ n ω=>
  intro h;simp only[cD];rw[ω λj δ=>h j R,h n (Nat.lt_succ_self n)]
theorem Wr (Ι:bN P T) {K:Χ->List Row->Prop} {env0:Χ}:∀(d i:Nat) (tags:List Bool) (as9:Nat->η) (σs:Nat->List Row),i+d=ops.size->tags.length=i->
  (∀j o,j<i->ops[j]?=some o->iI P m nt k Z E ops j o (cD ops env0 as9 (λ_=>true) j) (σs j) (tags.getD j false) (as9 j) (σs (j+1)))->
  jP P T A nt ops (List.range' i d) (cD ops env0 as9 (λ_=>true) i) (σs i) tags K->
  ∃(tags:List Bool) (as9:Nat->η) (jQ:Nat->List Row),m6 ops tags=true/\jQ 0=σs 0/\(∀j o,ops[j]?=some o->iI P m nt k Z E ops j o (cD ops env0 as9 (λ_=>true) j) (jQ j) (tags.getD j false) (as9 j) (jQ (j+1)))/\K (cD ops env0 as9 (λ_=>true) ops.size) (jQ ops.size):=by
 intro d
 induction d with
 | zero=>
  intro i tags as9 σs hi Ν δ h;simp only[List.range'_zero,jP] at h;have:i=ops.size:=R;subst this;exact⟨tags,as9,σs,h.1,rfl,λj o ψ=>δ j o (Array.getElem?_eq_some_iff.1 ψ).1 ψ,h.2⟩
 | succ d ω=>
  intro i tags as9 σs hi Ν δ h;rw[List.range'_succ] at h;obtain⟨o,a,σ',tag,ψ,AJ,h⟩:=Wq (m:=m) (k:=k) (Z:=Z) (E:=E) Ι h;let hR:Nat->η:=λj=>if j=i then a else as9 j
  let jQ:Nat->List Row:=λj=>if j=i+1 then σ' else σs j
  have qu:∀j,j<=i->cD ops env0 as9 (λ_=>true) j=cD ops env0 hR (λ_=>true) j:=λj δ=>HZ j λx γ=>by simp only[hR];rw[if_neg R]
  have AK:cD ops env0 hR (λ_=>true) (i+1)=b0 o (cD ops env0 as9 (λ_=>true) i) a:=by
   simp only[cD,if_true,ψ];rw[<-qu i (Nat.le_refl i)];simp only[hR,if_true]
  have:=ω (i+1) (tags++[tag]) hR jQ R (by simp[Ν]) (λj bR aO de=>?_) ?_
  ·obtain⟨t2,a9,s2,Ρ,aa,aX,ca⟩:=this;exact⟨t2,a9,s2,Ρ,aa.trans (by simp only[jQ];rw[if_neg R]),aX,ca⟩
  ·by_cases e:j=i
   ·subst e;rw[ψ] at de;cases de;rw[<-qu j (Nat.le_refl j)];have Γ:(tags++[tag]).getD j false=tag:=by rw[List.getD_eq_getElem?_getD,hp R,Ν];simp
    rw[Γ];simp only[hR,jQ,if_true];rw[if_neg R];exact AJ
   ·have:=δ j bR R de;rw[<-qu j R];have Γ:(tags++[tag]).getD j false=tags.getD j false:=by rw[List.getD_eq_getElem?_getD,dI R,<-List.getD_eq_getElem?_getD]
    rw[Γ];simp only[hR,jQ];rw[if_neg R,if_neg R,if_neg R];exact this
  ·rw[AK];simp only[jQ,if_true];exact h
theorem W.draw (Ι:bN P T) (qv:P.follows .mixedOrders=true) {id:Nat} (h:∀Θ:Χ->List Row->Prop,(∀env σ,W P m nt k env σ Z E->Θ env σ)->jP P T A nt ops (idx ops.size []) env σ [] Θ):W P m nt (.code (.region id ops true)::k) env σ Z E:=by
 have an:=h (λenv σ=>W P m nt k env σ Z E) λ_ _ h=>h;rw[idx_eq,List.range_eq_range'] at an;obtain⟨tags,as9,σs,Ρ,aa,aX,ca⟩:=Wr (m:=m) (k:=k) (Z:=Z) (E:=E) (env0:=env) Ι ops.size 0 [] (λ_=>.cg) (λ_=>σ) R rfl (λj o δ=>R) an;intro Q mn x cs b S B H t γ hb π Φ he;refine .draw γ hb λn=>?_;have key:=W.V8 (P:=P) (m:=m) (nt:=nt) (k:=k) (Z:=Z) (E:=E) (ops:=ops) (as9:=as9) (σs:=σs) (tags:=tags) (env0:=env) Ρ
  (λi o ψ Ν=>by have:=aX i o ψ;unfold iI at this;rw[Ν] at this;simpa using this)
  (λi o ψ Ν=>by have:=aX i o ψ;unfold iI at this;rw[Ν] at this;simpa using this)
  (.bF ca) ops.size n (Array.replicate ops.size false) env 0 ζ (λi=>?_) (λi o ψ ξ=>?_) (Nat.zero_le _) (λj δ _=>?_) ?_
 ·rw[aa] at key;rw[qv];simp only[Region.schedule,Bool.true_or,if_true,Region.linearise];exact key Q mn x cs b S B H t γ hb π Φ he
 ·have:∀n,cD ops env as9 (λi=>(Array.replicate ops.size false).getD i false) n=env:=by
   intro n
   induction n with
   | zero=>rfl
   | succ n ω=>
    simp only[cD];have:(Array.replicate ops.size false).getD n false=false:=by
     rw[Array.getD_eq_getD_getElem?,Array.getElem?_replicate];split<;>rfl
    rw[if_neg (by rw[this];simp)];exact ω
  rw[this]
 ·have:(Array.replicate ops.size false).getD i false=false:=by
   rw[Array.getD_eq_getD_getElem?,Array.getElem?_replicate];split<;>rfl
  rw[this] at ξ;cases ξ
 ·have:(Array.replicate ops.size false).getD j false=false:=by
   rw[Array.getD_eq_getD_getElem?,Array.getElem?_replicate];split<;>rfl
  rw[this];simp
 ·have:=List.length_filter_le (λi=>!(Array.replicate ops.size false).getD i false) (List.range ops.size);simpa using this
theorem Nm {K K':Χ->List Row->Prop} (θ:∀e s,K e s->K' e s):∀(is:List Nat) (env:Χ) (σ:List Row) (tags:List Bool),jP P T A nt ops is env σ tags K->jP P T A nt ops is env σ tags K':=by
 intro is
 induction is with
 | nil=>intro env σ tags h;exact⟨h.1,θ _ _ h.2⟩
 | cons i is ω=>
  intro env σ tags h;unfold jP gg at h ⊢;cases ψ:ops[i]? with
  | none=>rw[ψ] at h;exact h.elim
  | some o=>
   rw[ψ] at h;simp only at h ⊢;refine⟨h.1,?_⟩
   replace h:=h.2
   cases hw:fe env ops o with
   | none=>rw[hw] at h;exact h.elim
   | some w=>
    rw[hw] at h;unfold ic at h ⊢;refine⟨λe=>ω _ _ _ (h.1 e),λe=>?_⟩
    replace h:=h.2 e
    unfold tg at h ⊢;split
    ·rename_i f args ej Μ;rw[Μ] at h;simp only at h;rcases h with⟨r,ε,h⟩|⟨r,σ',ε,h⟩
     ·exact .inl ⟨r,ε,ω _ _ _ h⟩
     ·exact .inr ⟨r,σ',ε,ω _ _ _ h⟩
    ·rename_i Μ;rw[Μ] at h;exact h
    ·rename_i Μ;rw[Μ] at h;exact h
    ·rename_i J U μ;split at h
     ·rename_i f args ej Μ;exact absurd Μ (J f args ej)
     ·rename_i y Μ;exact absurd Μ (U y)
     ·rename_i y Μ;exact absurd Μ (μ y)
     ·unfold cw.dZ at h ⊢;split at h
      ·exact ω _ _ _ h
      ·exact⟨h.1,ω _ _ _ h.2⟩
      ·exact h.elim
      ·unfold cV.dZ at h ⊢;split at h
       ·exact ω _ _ _ h
       ·exact⟨h.1,ω _ _ _ h.2⟩
       ·exact h.elim
theorem W.yn (Ι:bN P T) (qv:P.follows .mixedOrders=true) (gF:Χ) {id:Nat} (h:W P m nt k gF σ Z E) (ι:jP P T A nt ops (idx ops.size []) env σ [] (λe s=>s=σ/\∀p∈gF,a5 e p.1=p.2)):W P m nt (.code (.region id ops true)::k) env σ Z E:=
 W.draw Ι qv λΘ θ=>Nm (λe s ⟨J,U⟩=>θ e s (J▸W.forget gF U h)) _ _ _ _ ι
end
def jd {α:Type}:List α->List Nat->List α->List α
 | l,i::ρ,x::xs=>jd (l.set i x) ρ xs
 | l,_,_=>l
theorem th {α:Type}:∀(ρ:List Nat) (l xs:List α),(jd l ρ xs).length=l.length:=by
 intro ρ
 induction ρ with
 | nil=>intro l xs;cases xs<;>rfl
 | cons i ρ ω=>intro l xs;cases xs with
  | nil=>rfl
  | cons x xs=>simp[jd,ω]
theorem H0 {α:Type} {i:Nat}:∀(ρ:List Nat) (l xs:List α),i∉ρ->(jd l ρ xs)[i]?=l[i]?:=by
 intro ρ
 induction ρ with
 | nil=>intro l xs _;cases xs<;>rfl
 | cons j ρ ω=>intro l xs h;cases xs with
  | nil=>rfl
  | cons x xs=>
   simp only[jd];rw[ω _ _ (λhm=>h (by simp[hm])),List.getElem?_set_ne (λe=>h (by simp[e]))]
theorem Nn {α:Type}:∀(ρ:List Nat) (l xs:List α),ρ.Nodup->(∀i∈ρ,i<l.length)->∀(j i:Nat) (x:α),ρ[j]?=some i->xs[j]?=some x->(jd l ρ xs)[i]?=some x:=by
 intro ρ
 induction ρ with
 | nil=>intro l xs _ _ j i x h;simp at h
 | cons a ρ ω=>
  intro l xs kZ aO j i x δ γ;cases xs with
  | nil=>simp at γ
  | cons y xs=>
   simp only[jd];obtain⟨J,U⟩:=List.nodup_cons.1 kZ;cases j with
   | zero=>
    simp at δ γ;subst δ;subst γ;rw[H0 ρ _ _ J,List.getElem?_set_self (aO a ζ)]
   | succ j=>
    simp only[List.getElem?_cons_succ] at δ γ;exact ω _ _ U (λi hi=>by simp;exact aO i (by simp[hi])) j i x δ γ
def hS (ρ:List Nat):η->η
 | .ah id n i j=>.ah (ρ.getD id 0) n i j
 | .ms id n i len=>.ms (ρ.getD id 0) n i len
 | .mp id=>.mp (ρ.getD id 0)
 | .it id=>.it (ρ.getD id 0)
 | a=>a
def ed (ρ:List Nat):η->η
 | .fn f df cs=>.fn f (df.map (hS ρ)) (cs.map (hS ρ))
 | .a0 l=>.a0 (l.map (hS ρ))
 | .bq l=>.bq (l.map (hS ρ))
 | a=>hS ρ a
def nS (h:Nat) (a:η):Prop:=match a with
 | .ah id _ _ _|.ms id _ _ _|.mp id|.it id=>id<h
 | a=>aJ 0 a
def fR (h:Nat) (a:η):Prop:=match a with
 | .fn _ df cs=>(∀a∈df,nS h a)/\∀a∈cs,nS h a
 | .a0 l|.bq l=>∀a∈l,nS h a
 | a=>nS h a
structure Names (ρ:List Nat) (eH:aW) (σ0:List Row) (bS:aW) (kI:List Row):Prop where
 row:∀(j i:Nat),ρ[j]?=some i->kI[i]?=σ0[j]?
 blk:∀(j i:Nat),ρ[j]?=some i->bS[i]?=eH[j]?
section
variable {S:aL} {eH bS:aW} {σ0 kI:List Row} {ρ:List Nat}
theorem Ei {ρ:List Nat} {j:Nat} (h:j<ρ.length):ρ[j]?=some (ρ.getD j 0):=by
 rw[List.getD_eq_getElem?_getD,a8 h];rfl
theorem lD (Ζ:Names ρ eH σ0 bS kI) {a:η} {v:Value} (Ν:nS ρ.length a):av S bS kI (hS ρ a) v↔av S eH σ0 a v:=by
 cases a with
 | ah id n i j=>
  have b5:=Ei (ρ:=ρ) Ν
  have J:=Ζ.row _ _ b5
  have U:=Ζ.blk _ _ b5;constructor
  ·intro h;cases h with
   | ah Ρ aa aX=>exact .ah (by rw[<-J];exact Ρ) aa (by rw[<-U];exact aX)
   | j9 v Ρ aa=>exact .j9 v (by rw[<-J];exact Ρ) aa
  ·intro h;cases h with
   | ah Ρ aa aX=>exact .ah (by rw[J];exact Ρ) aa (by rw[U];exact aX)
   | j9 v Ρ aa=>exact .j9 v (by rw[J];exact Ρ) aa
 | ms id n i len=>
  have b5:=Ei (ρ:=ρ) Ν
  have J:=Ζ.row _ _ b5
  have U:=Ζ.blk _ _ b5;constructor
  ·intro h;cases h with
   | ms cap Ρ aa aX ca gf i'=>exact .ms cap (by rw[<-J];exact Ρ) aa (by rw[<-U];exact aX) ca gf i'
   | jO v Ρ aa=>exact .jO v (by rw[<-J];exact Ρ) aa
  ·intro h;cases h with
   | ms cap Ρ aa aX ca gf i'=>exact .ms cap (by rw[J];exact Ρ) aa (by rw[U];exact aX) ca gf i'
   | jO v Ρ aa=>exact .jO v (by rw[J];exact Ρ) aa
 | mp id=>
  have b5:=Ei (ρ:=ρ) Ν
  have J:=Ζ.row _ _ b5
  have U:=Ζ.blk _ _ b5;constructor
  ·intro h;cases h with
   | mp Ρ aa=>exact .mp (by rw[<-J];exact Ρ) (by rw[<-U];exact aa)
   | l8 v Ρ=>exact .l8 v (by rw[<-J];exact Ρ)
  ·intro h;cases h with
   | mp Ρ aa=>exact .mp (by rw[J];exact Ρ) (by rw[U];exact aa)
   | l8 v Ρ=>exact .l8 v (by rw[J];exact Ρ)
 | it id=>
  have b5:=Ei (ρ:=ρ) Ν
  have J:=Ζ.row _ _ b5
  have U:=Ζ.blk _ _ b5;constructor
  ·intro h;cases h with
   | it Ρ aa=>exact .it (by rw[<-J];exact Ρ) (by rw[<-U];exact aa)
   | nI v Ρ=>exact .nI v (by rw[<-J];exact Ρ)
  ·intro h;cases h with
   | it Ρ aa=>exact .it (by rw[J];exact Ρ) (by rw[U];exact aa)
   | nI v Ρ=>exact .nI v (by rw[J];exact Ρ)
 | _=>exact⟨λh=>h.any Ν _ _,λh=>h.any Ν _ _⟩
theorem Ej {f:η->η} {l:List η} {i:Nat} {a:η} (h:(l.map f)[i]?=some a):∃b,l[i]?=some b/\a=f b:=by
 rw[List.getElem?_map] at h;cases γ:l[i]? with
 | none=>rw[γ] at h;cases h
 | some b=>rw[γ] at h;cases h;exact⟨b,rfl,rfl⟩
theorem H2 (Ζ:Names ρ eH σ0 bS kI) {a:η} {v:Value} (Ν:fR ρ.length a):av S bS kI (ed ρ a) v↔av S eH σ0 a v:=by
 cases a with
 | fn f df cs=>
  constructor
  ·intro h;cases h with
   | fn vs ws Ρ aa aX ca=>
    refine .fn vs ws (by simpa using Ρ) (by simpa using aa) (λi a v hi hv=>?_) (λi a v hi hv=>?_)
    ·exact(lD Ζ (Ν.1 a (cG hi))).1 (aX i _ v (by rw[List.getElem?_map,hi];rfl) hv)
    ·exact(lD Ζ (Ν.2 a (cG hi))).1 (ca i _ v (by rw[List.getElem?_map,hi];rfl) hv)
  ·intro h;cases h with
   | fn vs ws Ρ aa aX ca=>
    refine .fn vs ws (by simpa using Ρ) (by simpa using aa) (λi a v hi hv=>?_) (λi a v hi hv=>?_)
    ·obtain⟨b,hb,rfl⟩:=Ej hi;exact(lD Ζ (Ν.1 b (cG hb))).2 (aX i b v hb hv)
    ·obtain⟨b,hb,rfl⟩:=Ej hi;exact(lD Ζ (Ν.2 b (cG hb))).2 (ca i b v hb hv)
 | a0 l=>
  constructor
  ·intro h;cases h with
   | a0 vs Ρ aa=>exact .a0 vs (by simpa using Ρ) λi a v hi hv=>(lD Ζ (Ν a (cG hi))).1 (aa i _ v (by rw[List.getElem?_map,hi];rfl) hv)
  ·intro h;cases h with
   | a0 vs Ρ aa=>
    refine .a0 vs (by simpa using Ρ) λi a v hi hv=>?_;obtain⟨b,hb,rfl⟩:=Ej hi;exact(lD Ζ (Ν b (cG hb))).2 (aa i b v hb hv)
 | bq l=>
  constructor
  ·intro h;cases h with
   | bq vs Ρ aa=>exact .bq vs (by simpa using Ρ) λi a v hi hv=>(lD Ζ (Ν a (cG hi))).1 (aa i _ v (by rw[List.getElem?_map,hi];rfl) hv)
  ·intro h;cases h with
   | bq vs Ρ aa=>
    refine .bq vs (by simpa using Ρ) λi a v hi hv=>?_;obtain⟨b,hb,rfl⟩:=Ej hi;exact(lD Ζ (Ν b (cG hb))).2 (aa i b v hb hv)
 | z u=>exact lD (a:=.z u) Ζ Ν
 | ao l=>exact lD (a:=.ao l) Ζ Ν
 | sl ex k l=>exact lD (a:=.sl ex k l) Ζ Ν
 | ah id n i j=>exact lD (a:=.ah id n i j) Ζ Ν
 | ms id n i len=>exact lD (a:=.ms id n i len) Ζ Ν
 | fY t a=>exact lD (a:=.fY t a) Ζ Ν
 | mp id=>exact lD (a:=.mp id) Ζ Ν
 | it id=>exact lD (a:=.it id) Ζ Ν
 | cg=>exact lD (a:=.cg) Ζ Ν
end
section
variable {P:Program} {S aF:aL} {B:aW} {H H':Α} {σ:List Row}
def iJ (r:Row):Prop:=match r with|.cells _ _ l=>∀e∈l,∀a∈e.cells,aJ 0 a|_=>False
def AL (r:Row):Prop:=iJ r\/r=.dead
theorem j'.plain {B':aW} {σ':List Row} {r:Row} {bo:Option (Nat×Nat)} (π:iJ r) (h:j' S B σ H r bo) (eQ:aW) (fP:List Row):j' S eQ fP H r bo:=by
 cases r with
 | cells t k l=>
  cases bo with
  | none=>exact h
  | some x=>
   obtain⟨b,N⟩:=x;obtain⟨J,U,μ,w,Ε⟩:=h;refine⟨J,U,μ,w,λi e hi=>⟨(Ε i e hi).1,λj a δ=>?_⟩⟩;obtain⟨c1,c2,c3⟩:=(Ε i e hi).2 j a δ;exact⟨c1,c2.any (π e (cG hi) a (cG δ)) _ _,c3⟩
 | _=>exact π.elim
theorem j'.Ws {B':aW} {σ':List Row} {r:Row} {bo:Option (Nat×Nat)} (π:AL r) (h:j' S B σ H r bo) (eQ:aW) (fP:List Row):j' S eQ fP H r bo:=by
 rcases π with π|rfl
 ·exact j'.plain (B':=B') (σ':=σ') π h eQ fP
 ·trivial
theorem Holds.Np (Β:Holds S B σ H) {ρ:List Nat} {jy:List Row} (kZ:ρ.Nodup) (hlen:ρ.length=jy.length) (bf:∀(j i:Nat),ρ[j]?=some i->σ[i]?=jy[j]?) (iE:∀r∈jy,iJ r)
  {eH:aW} {σ0:List Row} (he:Ext S (ρ.map λi=>B.getD i none) H aF eH H') (ξ:b3 S aF (ρ.map λi=>B.getD i none) eH jy σ0) (an:Holds aF eH σ0 H') (Wt:∀r∈σ0,AL r) :
  let kI:=jd σ ρ σ0++σ0.drop ρ.length
  let bS:=jd B ρ eH++eH.drop ρ.length
  Holds aF bS kI H'/\Ext S B H aF bS H'/\b3 S aF B bS σ kI/\Names (ρ++(List.range (σ0.length-ρ.length)).map (σ.length + ·)) eH σ0 bS kI:=by
 intro kI bS;have aO:∀i∈ρ,i<σ.length:=λi hi=>by
  obtain⟨j,δ⟩:=List.getElem?_of_mem hi;have iK:j<jy.length:=by rw[<-hlen];exact(bX.1 δ).1
  have:=bf j i δ;rw[a8 iK] at this;exact(bX.1 this).1
 have Ek:∀i∈ρ,i<B.length:=λi hi=>by rw[Β.len];exact aO i hi
 have hle:ρ.length<=σ0.length:=by rw[hlen];exact ξ.length
 have Wu:eH.length=σ0.length:=an.len
 have El:∀(j i:Nat),ρ[j]?=some i->(ρ.map λi=>B.getD i none)[j]?=B[i]?:=λj i δ=>by
  have hi:=Ek i (cG δ);rw[List.getElem?_map,δ];simp[hi]
 have s1:∀(j i:Nat),ρ[j]?=some i->kI[i]?=σ0[j]?:=λj i δ=>by
  have hi:=aO i (cG δ)
  have iK:j<σ0.length:=by have:=(bX.1 δ).1;omega
  show(jd σ ρ σ0++_)[i]?=_;rw[dI (by rw[th];exact hi),a8 iK];exact Nn ρ σ σ0 kZ aO j i _ δ (a8 iK)
 have bC:∀(j i:Nat),ρ[j]?=some i->bS[i]?=eH[j]?:=λj i δ=>by
  have hi:=Ek i (cG δ)
  have iK:j<eH.length:=by have:=(bX.1 δ).1;omega
  show(jd B ρ eH++_)[i]?=_;rw[dI (by rw[th];exact hi),a8 iK];exact Nn ρ B eH kZ Ek j i _ δ (a8 iK)
 have s2:∀i,i<σ.length->i∉ρ->kI[i]?=σ[i]?:=λi hi Ζ=>by
  show(jd σ ρ σ0++_)[i]?=_;rw[dI (by rw[th];exact hi),H0 ρ _ _ Ζ]
 have dt:∀i,i<σ.length->i∉ρ->bS[i]?=B[i]?:=λi hi Ζ=>by
  show(jd B ρ eH++_)[i]?=_;rw[dI (by rw[th,Β.len];exact hi),H0 ρ _ _ Ζ]
 have kR:∀x,kI[σ.length+x]?=σ0[ρ.length+x]?:=λx=>by
  show(jd σ ρ σ0++_)[_]?=_;rw[hp (by rw[th];omega),th,List.getElem?_drop];congr 1;omega
 have fK:∀x,bS[σ.length+x]?=eH[ρ.length+x]?:=λx=>by
  show(jd B ρ eH++_)[_]?=_;rw[hp (by rw[th,Β.len];omega),th,Β.len,List.getElem?_drop];congr 1;omega
 have AM:∀(i:Nat) (r:Row),kI[i]?=some r->(i<σ.length/\i∉ρ/\σ[i]?=some r/\bS[i]?=B[i]?)\/∃j,σ0[j]?=some r/\bS[i]?=eH[j]?/\(∀eR bJ,(eR<σ.length->ρ[bJ]?=some eR)->(¬eR<σ.length->bJ=ρ.length+(eR-σ.length))->j=bJ->i=eR)/\((i<σ.length->ρ[j]?=some i)/\(¬i<σ.length->j=ρ.length+(i-σ.length))):=λi r ι=>by
  by_cases hi:i<σ.length
  ·by_cases Ζ:i∈ρ
   ·obtain⟨j,δ⟩:=List.getElem?_of_mem Ζ;refine .inr ⟨j,by rw[<-s1 j i δ];exact ι,bC j i δ,λeR bJ J U e=>?_,λ_=>δ,λh=>absurd hi h⟩;subst e;by_cases aC:eR<σ.length
    ·have:=J aC;rw[δ] at this;cases this;rfl
    ·have:=U aC;have:=(bX.1 δ).1;omega
   ·exact .inl ⟨hi,Ζ,by rw[<-s2 i hi Ζ];exact ι,dt i hi Ζ⟩
  ·have e:i=σ.length+(i-σ.length):=by omega
   refine .inr ⟨ρ.length+(i-σ.length),by rw[<-kR,<-e];exact ι,by rw[<-fK,<-e],λeR bJ J U aM=>?_,λh=>absurd h hi,λ_=>rfl⟩;by_cases aC:eR<σ.length
   ·have:=(bX.1 (J aC)).1;omega
   ·have:=U aC;omega
 have Nq:bS.length=kI.length:=by
  show(jd B ρ eH++eH.drop ρ.length).length=(jd σ ρ σ0++σ0.drop ρ.length).length;simp[th,Β.len,Wu]
 have Em:b3 S aF B bS σ kI:=⟨he.dm,λid r ι=>by
  have hi:=(bX.1 ι).1;by_cases Ζ:id∈ρ
  ·obtain⟨j,δ⟩:=List.getElem?_of_mem Ζ;have ft:jy[j]?=some r:=by rw[<-bf j id δ];exact ι
   obtain⟨r',Ρ,aa⟩:=ξ.rows j r ft;exact⟨r',by rw[s1 j id δ];exact Ρ,by rw[bC j id δ,<-El j id δ];exact aa⟩
  ·exact⟨r,by rw[s2 id hi Ζ];exact ι,by rw[dt id hi Ζ];exact r.sO _⟩⟩
 have En:∀b,aW.has (ρ.map λi=>B.getD i none) b->∃j i N,ρ[j]?=some i/\B[i]?=some (some (b,N)):=λb ⟨N,ck⟩=>by
  obtain⟨j,δ⟩:=List.getElem?_of_mem ck;rw[List.getElem?_map] at δ;cases γ:ρ[j]? with
  | none=>rw[γ] at δ;cases δ
  | some i=>
   rw[γ] at δ;simp only[Option.map_some,Option.some.injEq] at δ;have hi:=Ek i (cG γ);rw[List.getD_eq_getElem?_getD,a8 hi] at δ;exact⟨j,i,N,γ,by rw[a8 hi];simpa using δ⟩
 have Nr:∀(j i:Nat),ρ[j]?=some i->∃r,σ[i]?=some r/\r.live/\iJ r:=λj i δ=>by
  have iK:j<jy.length:=by rw[<-hlen];exact(bX.1 δ).1
  have ι:=a8 iK
  have π:=iE _ (cG ι);refine⟨_,by rw[bf j i δ];exact ι,?_,π⟩;cases γ:jy[j]<;>rw[γ] at π<;>first|trivial|exact π.elim
 have Eo:∀(id:Nat) (r:Row) (b N:Nat),id∉ρ->σ[id]?=some r->r.live->B[id]?=some (some (b,N))->¬aW.has (ρ.map λi=>B.getD i none) b/\¬H.fresh b/\kY H H' b:=λid r b N Ζ ι fb hb=>by
  have c1:¬aW.has (ρ.map λi=>B.getD i none) b:=λaY=>by
   obtain⟨j,i,e',J,U⟩:=En b aY;obtain⟨r',Ρ,aa,_⟩:=Nr j i J;exact Β.inj id i r r' b N e' (λe=>Ζ (e▸cG J)) ι Ρ fb aa hb U
  have c2:=Β.ov ι fb hb;exact⟨c1,c2,(he.fV b c1 c2).sR λo=>Β.sep id r b N ι fb hb o⟩
 refine⟨⟨an.dm,Nq,λi r bo ι ey=>?_,λi j ew cj b gC gD fz hi δ h9 d' gQ cO=>?_,λi r b N ι fb hb o=>?_⟩,⟨he.dm,λb hb Τ=>?_,λb hb=>?_,λb o v hv=>?_,he.grow⟩,Em,⟨λj i δ=>?_,λj i δ=>?_⟩⟩
 ·rcases AM i r ι with⟨Ρ,aa,aX,ca⟩|⟨j,Ρ,aa,_,_⟩
  ·by_cases fb:r.live
   ·rw[ca] at ey;refine(Β.row i r bo aX ey).later Em (λb N e=>(Eo i r b N aa aX fb (by rw[ey,e])).2.2) λb4 left cur e=>?_;subst e;obtain⟨_,_,aZ,kX,xs,clock,seen,_,Γ,⟨es,Δ⟩,_⟩:=Β.row i _ bo aX ey;have pd:b4∉ρ:=λhm=>by
     obtain⟨j,δ⟩:=List.getElem?_of_mem hm;obtain⟨r',eP,_,gd⟩:=Nr j b4 δ;rw[Δ] at eP;cases eP;exact gd
    have Ep:=(bX.1 Δ).1;exact⟨s2 b4 Ep pd,dt b4 Ep pd,λb N hb=>(Eo b4 _ b N pd Δ trivial hb).2.2⟩
   ·cases r<;>first|exact absurd trivial fb|trivial
  ·rw[aa] at ey;exact(an.row j r bo Ρ ey).Ws (B':=bS) (σ':=kI) (Wt r (cG Ρ)) _ _
 ·have z5:∀(i:Nat) (ew:Row) (gC:Nat) (bJ:Nat) (cj:Row) (gD:Nat),i∉ρ->σ[i]?=some ew->ew.live->B[i]?=some (some (b,gC))->σ0[bJ]?=some cj->cj.live->eH[bJ]?=some (some (b,gD))->False:=λi ew gC bJ cj gD J U μ Ε au bd g7=>by
   obtain⟨c1,c2,_⟩:=Eo i ew b gC J U μ Ε;rcases he.blocks b (pf g7) with h|h
   ·exact c1 h
   ·exact c2 h
  rcases AM i ew hi with⟨Ρ,aa,aX,ca⟩|⟨i0,Ρ,aa,aX,ca⟩<;>rcases AM j cj δ with⟨k1,cp,rL,AN⟩|⟨H3,k1,cp,rL,AN⟩
  ·rw[ca] at gQ;rw[AN] at cO;exact Β.inj i j ew cj b gC gD fz aX rL h9 d' gQ cO
  ·rw[ca] at gQ;rw[cp] at cO;exact z5 i ew gC H3 cj gD aa aX h9 gQ k1 d' cO
  ·rw[aa] at gQ;rw[AN] at cO;exact z5 j cj gD i0 ew gC cp rL d' cO Ρ h9 gQ
  ·rw[aa] at gQ;rw[cp] at cO;refine an.inj i0 H3 ew cj b gC gD (λe=>fz ?_) Ρ k1 h9 d' gQ cO;exact aX j H3 AN.1 AN.2 e
 ·rcases AM i r ι with⟨Ρ,aa,aX,ca⟩|⟨j,Ρ,aa,_,_⟩
  ·rw[ca] at hb;obtain⟨c1,c2,_⟩:=Eo i r b N aa aX fb hb;cases hv:aF b o with
   | none=>rfl
   | some v=>
    rcases he.rv b o v hv with h|h|h
    ·rw[Β.sep i r b N aX fb hb o] at h;cases h
    ·exact absurd h c1
    ·exact absurd h c2
  ·rw[aa] at hb;exact an.sep j r b N Ρ fb hb o
 ·refine he.fV b (λaY=>hb ?_) Τ;obtain⟨j,i,e',_,U⟩:=En b aY;exact pf U
 ·obtain⟨N,ck⟩:=hb;obtain⟨i,hi⟩:=List.getElem?_of_mem ck;have iL:i<kI.length:=by rw[<-Nq];exact(bX.1 hi).1
  rcases AM i _ (a8 iL) with⟨Ρ,aa,aX,ca⟩|⟨j,Ρ,aa,_,_⟩
  ·rw[ca] at hi;exact .inl (pf hi)
  ·rw[aa] at hi;rcases he.blocks b (pf hi) with h|h
   ·obtain⟨j,eR,e',_,U⟩:=En b h;exact .inl (pf U)
   ·exact .inr h
 ·rcases he.rv b o v hv with h|h|h
  ·exact .inl h
  ·obtain⟨j,eR,e',_,U⟩:=En b h;exact .inr (.inl (pf U))
  ·exact .inr (.inr h)
 ·by_cases iK:j<ρ.length
  ·rw[dI iK] at δ;exact s1 j i δ
  ·rw[hp R,List.getElem?_map] at δ;have wa:j-ρ.length<σ0.length-ρ.length:=by
    apply Classical.byContradiction;intro Ζ;rw[List.getElem?_eq_none (by simp;omega)] at δ;cases δ
   rw[a8 (by simpa using wa)] at δ;simp at δ;subst δ;rw[kR];congr 1;omega
 ·by_cases iK:j<ρ.length
  ·rw[dI iK] at δ;exact bC j i δ
  ·rw[hp R,List.getElem?_map] at δ;have wa:j-ρ.length<σ0.length-ρ.length:=by
    apply Classical.byContradiction;intro Ζ;rw[List.getElem?_eq_none (by simp;omega)] at δ;cases δ
   rw[a8 (by simpa using wa)] at δ;simp at δ;subst δ;rw[fK];congr 1;omega
def names (ρ:List Nat) (n:Nat) (σ0:List Row):List Nat:=ρ++(List.range (σ0.length-ρ.length)).map (n + ·)
def qw (σ:List Row) (ρ:List Nat) (σ0:List Row):List Row:=jd σ ρ σ0++σ0.drop ρ.length
theorem ab.H4 {g:FuncId} {as0:List η} {jy:List Row} {K:η->List Row->Prop} {E:η->List Row->Prop} (h:ab P g as0 jy K E) (ρ:List Nat) (kZ:ρ.Nodup) (hlen:ρ.length=jy.length) (bf:∀(j i:Nat),ρ[j]?=some i->σ[i]?=jy[j]?) (iE:∀r∈jy,iJ r)
  (has:∀a∈as0,fR ρ.length a) {K':η->List Row->Prop} {E':η->List Row->Prop} (θ:∀a s,K a s->(∀r∈s,AL r)/\fR s.length a/\K' (ed (names ρ σ.length s) a) (qw σ ρ s))
  (dz:∀a s,E a s->(∀r∈s,AL r)/\fR s.length a/\E' (ed (names ρ σ.length s) a) (qw σ ρ s)):ab P g (as0.map (ed ρ)) σ K' E':=by
 refine⟨h.1,λQ mn x c rest S B H vs γ Β hv mf=>?_⟩;have aO:∀(j i:Nat),ρ[j]?=some i->i<σ.length:=λj i δ=>by
  have iK:j<jy.length:=by rw[<-hlen];exact(bX.1 δ).1
  have:=bf j i δ;rw[a8 iK] at this;exact(bX.1 this).1
 have El:∀(j i:Nat),ρ[j]?=some i->(ρ.map λi=>B.getD i none)[j]?=B[i]?:=λj i δ=>by
  have hi:i<B.length:=by rw[Β.len];exact aO j i δ
  rw[List.getElem?_map,δ];simp[hi]
 have lB:Names ρ (ρ.map λi=>B.getD i none) jy B σ:=⟨bf,λj i δ=>(El j i δ).symm⟩
 have pick:∀(j:Nat) (r:Row) (bo:Option (Nat×Nat)),jy[j]?=some r->(ρ.map λi=>B.getD i none)[j]?=some bo->∃i,ρ[j]?=some i/\σ[i]?=some r/\B[i]?=some bo:=λj r bo ι ey=>by
  have iK:j<ρ.length:=by rw[hlen];exact(bX.1 ι).1
  have δ:=a8 iK;exact⟨_,δ,by rw[bf j _ δ];exact ι,by rw[<-El j _ δ];exact ey⟩
 have Wv:Holds S (ρ.map λi=>B.getD i none) jy H:=by
  refine⟨Β.dm,by simp[hlen],λj r bo ι ey=>?_,λi j ew cj b gC gD fz hi δ h9 d' gQ cO=>?_,λj r b N ι fb hb o=>?_⟩
  ·obtain⟨i,J,U,μ⟩:=pick j r bo ι ey;exact(Β.row i r bo U μ).plain (B':=B) (σ':=σ) (iE r (cG ι)) _ _
  ·obtain⟨eR,J,U,μ⟩:=pick i ew _ hi gQ;obtain⟨bJ,Ρ,aa,aX⟩:=pick j cj _ δ cO;refine Β.inj eR bJ ew cj b gC gD (λe=>fz ?_) U aa h9 d' μ aX;subst e;have jw:=(bX.1 J).1;exact(List.getElem?_inj jw kZ).1 (J.trans Ρ.symm)
  ·obtain⟨i,J,U,μ⟩:=pick j r _ ι hb;exact Β.sep i r b N U fb μ o
 refine h.2 Q mn x c rest S _ H vs γ Wv ⟨by have:=hv.1;simpa using this,λi a v J U=>(H2 lB (has a (cG J))).1 (hv.2 i _ v (by rw[List.getElem?_map,J];rfl) U)⟩ ⟨λa σ' aF B' H' v χ he ξ ja ι=>?_,λa σ' aF B' H' v χ he ξ ja ι=>?_⟩
 ·obtain⟨eP,du,gd⟩:=θ a σ' χ;obtain⟨dn,p2,p3,p4⟩:=Β.Np kZ hlen bf iE he ξ ja eP;refine mf.ret _ _ aF _ H' v gd p2 p3 dn ((H2 p4 ?_).2 ι);have:(ρ++(List.range (σ'.length-ρ.length)).map (σ.length + ·)).length=σ'.length:=by
   have:=ξ.length;simp;omega
  rw[this];exact du
 ·obtain⟨eP,du,gd⟩:=dz a σ' χ;obtain⟨dn,p2,p3,p4⟩:=Β.Np kZ hlen bf iE he ξ ja eP;refine mf.yh _ _ aF _ H' v gd p2 p3 dn ((H2 p4 ?_).2 ι);have:(ρ++(List.range (σ'.length-ρ.length)).map (σ.length + ·)).length=σ'.length:=by
   have:=ξ.length;simp;omega
  rw[this];exact du
theorem ab.rows {g:FuncId} {as0:List η} {jy:List Row} {K:η->List Row->Prop} {E:η->List Row->Prop} (h:ab P g as0 jy K E) (ρ:List Nat) (kZ:ρ.Nodup) (hlen:ρ.length=jy.length) (bf:∀(j i:Nat),ρ[j]?=some i->σ[i]?=jy[j]?) (iE:∀r∈jy,iJ r)
  (has:∀a∈as0,fR ρ.length a) {K':η->List Row->Prop} {E':η->List Row->Prop} (θ:∀a s,K a s->(∀r∈s,iJ r)/\fR s.length a/\K' (ed (names ρ σ.length s) a) (qw σ ρ s))
  (dz:∀a s,E a s->(∀r∈s,iJ r)/\fR s.length a/\E' (ed (names ρ σ.length s) a) (qw σ ρ s)):ab P g (as0.map (ed ρ)) σ K' E':=
 h.H4 ρ kZ hlen bf iE has (λa s x=>let ⟨p,q⟩:=θ a s x;⟨λr ι=>.inl (p r ι),q⟩) (λa s x=>let ⟨p,q⟩:=dz a s x;⟨λr ι=>.inl (p r ι),q⟩)
end
end Go.TL
