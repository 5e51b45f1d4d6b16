import Derived.Test.YtlabjopijpkiaaaGreatSAJ
set_option maxHeartbeats 16000000
set_option maxRecDepth 20000
set_option linter.unusedSectionVars false
set_option linter.unusedSimpArgs false
set_option linter.unusedVariables false
namespace Go.TL
open Go.Conc
variable [bm]
def z1 (ops:Array Oper) (o:Oper):List Tmp:=
 (o.op.operands.toList.filterMap fun|.tmp t=>some t|_=>none)++(match o.guard with|some (g,_)=>((ops[g]?).bind (·.dst)).toList|none=>[])
def g6 (o:Oper):List Nat:=(o.after.toList.filter (Region.binds .any)).map (·.on)
def z2:List Oper->List (List Nat)->List (List Nat)
 | [],acc=>acc
 | o::os,acc=>z2 os (acc++[g6 o++(g6 o).flatMap λj=>acc.getD j []])
def DD (ops:Array Oper):List (List Nat):=z2 ops.toList []
def mI (o:Oper):Bool:=match o.op with
 | .load _ _=>true
 | .indexAddr _ _ _=>true
 | .fieldAddr _ _ _=>true
 | .nilCheck _=>true
 | _=>false
def clash (ops:Array Oper) (tags:List Bool) (i j:Nat) (ny bT:Oper):Bool:=
 (match bT.dst with|some d=>(z1 ops ny).contains d||ny.dst==some d|none=>false)||(match ny.dst with|some d=>(z1 ops bT).contains d|none=>false)||(tags.getD i false&&tags.getD j false&&!(mI ny&&mI bT))
def kV (ops:Array Oper) (tags:List Bool):Bool:=
 let b:=DD ops
 (List.range ops.size).all λi=>match ops[i]? with
  | none=>false
  | some ny=>(g6 ny).all (λj=>decide (j<i))&&(List.range i).all λj=>match ops[j]? with
   | none=>false
   | some bT=>!clash ops tags i j ny bT||(b.getD i []).contains j
section
variable {P:Program} {T:bd} {A:List Nat} {m nt:Nat} {k:List Item} {env:aa} {σ:List Row} {Z:List Item->aa->List Row->Prop} {E:θ->aa->List Row->Prop} {ops:Array Oper}
theorem W.congr {env':aa} (h:∀i,a3 env' i=a3 env i) (hW:W P m nt k env σ Z E):W P m nt k env' σ Z E:=
 λQ mn x cs b S B H t U hb ψ Θ he=>hW Q mn x cs b S B H t U hb ⟨ψ.holds,λi=>by rw[<-h i];exact ψ.cp i,ψ.size,ψ.rows⟩ Θ he
theorem NU (tL:Region.Mode):∀(fuel t:Nat) (listed:Array Bool) (i:Nat),Region.linearise.go tL ops fuel t listed [i]=i::Region.linearise.go tL ops fuel t listed []:=by
 have gen:∀(fuel t:Nat) (listed:Array Bool) (acc:List Nat),Region.linearise.go tL ops fuel t listed acc=acc.reverse++Region.linearise.go tL ops fuel t listed []:=by
  intro fuel
  induction fuel with
  | zero=>intro t listed acc;simp[Region.linearise.go]
  | succ fuel Δ=>
   intro t listed acc;simp only[Region.linearise.go];split
   ·rename_i i _;rw[Δ _ _ (i::acc),Δ _ _ [i]];simp
   ·simp
 intro fuel t listed i;rw[gen];rfl
theorem DF (sM:∀i o,ops[i]?=some o->∀j∈g6 o,j<i) (D:Nat->Prop) (dQ:∀i o,ops[i]?=some o->D i->∀j∈g6 o,D j) :
  ∀(i:Nat) (o:Oper),ops[i]?=some o->(∀j∈g6 o,D j)->∀j∈(DD ops).getD i [],D j:=by
 have key:∀(os:List Oper) (acc:List (List Nat)),(∀x,os[x]?=ops[acc.length+x]?)->(∀i o,i<acc.length->ops[i]?=some o->(∀j∈g6 o,D j)->∀j∈acc.getD i [],D j)->
   ∀i o,i<acc.length+os.length->ops[i]?=some o->(∀j∈g6 o,D j)->∀j∈(z2 os acc).getD i [],D j:=by
  intro os
  induction os with
  | nil=>intro acc _ h i o hi;exact h i o (by simpa using hi)
  | cons q os Δ=>
   intro acc DG h i o hi Γ he;have Ρ:ops[acc.length]?=some q:=by have:=DG 0;simpa using this.symm
   refine Δ (acc++[g6 q++(g6 q).flatMap λj=>acc.getD j []]) (λx=>?_) (λi o hi Γ he=>?_) i o (by simp at hi ⊢;omega) Γ he
   ·have:=DG (x+1);simp only[List.getElem?_cons_succ] at this;rw[this];simp;congr 1;omega
   ·by_cases aD:i<acc.length
    ·rw[List.getD_eq_getElem?_getD,dB aD,<-List.getD_eq_getElem?_getD];exact h i o aD Γ he
    ·have a9:i=acc.length:=by simp at hi;omega
     subst a9;rw[Ρ] at Γ;cases Γ;rw[List.getD_eq_getElem?_getD,fS (Nat.le_refl _)];simp only[Nat.sub_self,List.getElem?_cons_zero,Option.getD_some,List.mem_append,List.mem_flatMap];rintro j (ε|⟨y,Ξ,ε⟩)
     ·exact he j ε
     ·have vX:=sM _ _ Ρ y Ξ
      have W':y<ops.size:=by have:=(Array.getElem?_eq_some_iff.1 Ρ).1;omega
      have NV:ops[y]?=some ops[y]:=e7 W';exact h y _ vX NV (dQ y _ NV (he y Ξ)) j ε
 intro i o Γ he;exact key ops.toList [] (λx=>by simp) (λi o hi=>by simp at hi) i o (by have:=(Array.getElem?_eq_some_iff.1 Γ).1;simpa using this) Γ he
def o6 (ops:Array Oper) (o:Oper) (env env':aa):Prop:=∀t∈z1 ops o,a3 env' t=a3 env t
def xV (P:Program) (m nt:Nat) (k:List Item) (Z:List Item->aa->List Row->Prop) (E:θ->aa->List Row->Prop) (ops:Array Oper) (i:Nat) (o:Oper) (env:aa) (a:θ):Prop:=
 ∀env' σ' rest,o6 ops o env env'->W P m nt (.inRegion ops rest::k) (ca o env' a) σ' Z E->W P m nt (.inRegion ops (i::rest)::k) env' σ' Z E
def HT (P:Program) (m nt:Nat) (k:List Item) (Z:List Item->aa->List Row->Prop) (E:θ->aa->List Row->Prop) (ops:Array Oper) (i:Nat) (o:Oper) (env:aa) (σ:List Row) (a:θ) (gw:List Row):Prop:=
 ∀env' rest,o6 ops o env env'->W P m nt (.inRegion ops rest::k) (ca o env' a) gw Z E->W P m nt (.inRegion ops (i::rest)::k) env' σ Z E
def c6 (ops:Array Oper) (env0:aa) (as9:Nat->θ) (D:Nat->Bool):Nat->aa
 | 0=>env0
 | n+1=>if D n then(match ops[n]? with|some o=>ca o (c6 ops env0 as9 D n) (as9 n)|none=>c6 ops env0 as9 D n) else c6 ops env0 as9 D n
theorem vY {o:Oper} {env:aa} {a:θ} {t:Nat}:a3 (ca o env a) t=if o.dst=some t then a else a3 env t:=by
 unfold ca;cases hd:o.dst with
 | none=>simp
 | some d=>simp[a3]
theorem xW {env0:aa} {as9:Nat->θ} {D z3:Nat->Bool} {t:Nat}:∀(n:Nat),(∀i o,i<n->ops[i]?=some o->o.dst=some t->D i=z3 i)->a3 (c6 ops env0 as9 D n) t=a3 (c6 ops env0 as9 z3 n) t:=by
 intro n
 induction n with
 | zero=>intro _;rfl
 | succ n Δ=>
  intro h;have vZ:=Δ λi o hi=>h i o (by omega);simp only[c6];cases Γ:ops[n]? with
  | none=>cases D n<;>cases z3 n<;>simpa using vZ
  | some o=>
   by_cases hd:o.dst=some t
   ·rw[h n o (Nat.lt_succ_self n) Γ hd];cases z3 n
    ·simpa using vZ
    ·simp[vY,hd]
   ·cases D n<;>cases z3 n<;>simp[vY,hd,vZ]
theorem DH {env0:aa} {as9:Nat->θ} {D:Nat->Bool} {t:Nat} {n N:Nat} (Η:n<=N) (h:∀i o,n<=i->i<N->ops[i]?=some o->o.dst=some t->D i=false):a3 (c6 ops env0 as9 D N) t=a3 (c6 ops env0 as9 D n) t:=by
 induction N with
 | zero=>have:n=0:=by omega
         subst this;rfl
 | succ N Δ=>
  by_cases e:n=N+1
  ·subst e;rfl
  ·have vZ:=Δ (by omega) λi o J γ=>h i o J (by omega);simp only[c6];cases dQ:D N
   ·simpa using vZ
   ·cases Γ:ops[N]? with
    | none=>simpa using vZ
    | some o=>
     have hd:o.dst≠some t:=λhd=>by rw[h N o (by omega) (Nat.lt_succ_self N) Γ hd] at dQ;cases dQ
     simp[vY,hd,vZ]
def writer (ops:Array Oper) (tags:List Bool) (i:Nat):Bool:=tags.getD i false&&match ops[i]? with|some o=>!mI o|none=>true
theorem W.Xa {as9:Nat->θ} {σs:Nat->List Row} {tags:List Bool} {env0:aa} (dG:kV ops tags=true)
  (dA:∀i o,ops[i]?=some o->tags.getD i false=false->xV P m nt k Z E ops i o (c6 ops env0 as9 (λ_=>true) i) (as9 i)/\σs (i+1)=σs i)
  (e5:∀i o,ops[i]?=some o->tags.getD i false=true->HT P m nt k Z E ops i o (c6 ops env0 as9 (λ_=>true) i) (σs i) (as9 i) (σs (i+1))/\(mI o=true->σs (i+1)=σs i))
  (HU:W P m nt (.inRegion ops []::k) (c6 ops env0 as9 (λ_=>true) ops.size) (σs ops.size) Z E) :
  ∀(fuel:Nat) (t:Nat) (listed:Array Bool) (env:aa) (cK:Nat),listed.size=ops.size->
   (∀i,a3 env i=a3 (c6 ops env0 as9 (λi=>listed.getD i false) ops.size) i)->
   (∀i o,ops[i]?=some o->listed.getD i false=true->∀j∈g6 o,listed.getD j false=true)->
   cK<=ops.size->(∀j,j<ops.size->writer ops tags j=true->(listed.getD j false=true↔j<cK))->
   ((List.range ops.size).filter λi=>!listed.getD i false).length<=fuel->
   W P m nt (.inRegion ops (Region.linearise.go .any ops fuel t listed [])::k) env (σs cK) Z E:=by
 have v3:∀i o,ops[i]?=some o->(∀j∈g6 o,j<i)/\∀j bT,j<i->ops[j]?=some bT->clash ops tags i j o bT=true->j∈(DD ops).getD i []:=by
  intro i o Γ;have hi:i<ops.size:=(Array.getElem?_eq_some_iff.1 Γ).1;unfold kV at dG;simp only[List.all_eq_true,List.mem_range] at dG;have h:=dG i hi;rw[Γ] at h;simp only[Bool.and_eq_true,List.all_eq_true,decide_eq_true_eq,List.mem_range] at h;refine⟨h.1,λj bT ε dh ζ=>?_⟩;have γ:=h.2 j ε;rw[dh] at γ;simp only[ζ,Bool.not_true,Bool.false_or,List.contains_iff_mem] at γ;exact γ
 have sM:∀i o,ops[i]?=some o->∀j∈g6 o,j<i:=λi o Γ=>(v3 i o Γ).1
 have DI:∀i o,ops[i]?=some o->writer ops tags i=false->σs (i+1)=σs i:=λi o Γ hw=>by
  cases Ο:tags.getD i false with
  | false=>exact(dA i o Γ Ο).2
  | true=>
   refine(e5 i o Γ Ο).2 ?_;unfold writer at hw;rw[Ο,Γ] at hw;simpa using hw
 have z4:∀(d a:Nat),a+d<=ops.size->(∀j,a<=j->j<a+d->writer ops tags j=false)->σs (a+d)=σs a:=by
  intro d
  induction d with
  | zero=>intro a _ _;rfl
  | succ d Δ=>
   intro a hle h;have J:ops[a+d]?=some ops[a+d]:=e7 (by omega);have:=DI (a+d) _ J (h (a+d) (by omega) (by omega));rw[show a+(d+1)=a+d+1 by omega,this];exact Δ a (by omega) λj J γ=>h j J (by omega)
 have NW:∀a b,a<=ops.size->b<=ops.size->(∀j,j<ops.size->writer ops tags j=true->(j<a↔j<b))->σs a=σs b:=λa b ξ hb h=>by
  rcases Nat.le_total a b with hle|hle
  ·have:=z4 (b-a) a (by omega) λj J γ=>by
    cases Ο:writer ops tags j with
    | false=>rfl
    | true=>have:=(h j (by omega) Ο).2 (by omega);omega
   rw[show a+(b-a)=b by omega] at this;exact this.symm
  ·have:=z4 (a-b) b (by omega) λj J γ=>by
    cases Ο:writer ops tags j with
    | false=>rfl
    | true=>have:=(h j (by omega) Ο).1 (by omega);omega
   rw[show b+(a-b)=a by omega] at this;exact this
 intro fuel;have done:∀(t:Nat) (listed:Array Bool) (env:aa) (cK:Nat),(∀i,i<ops.size->listed.getD i false=true)->(∀i,a3 env i=a3 (c6 ops env0 as9 (λi=>listed.getD i false) ops.size) i)->cK<=ops.size->
   (∀j,j<ops.size->writer ops tags j=true->(listed.getD j false=true↔j<cK))->W P m nt (.inRegion ops []::k) env (σs cK) Z E:=λt listed env cK hM cD iF ic=>by
  have Ζ:σs cK=σs ops.size:=NW cK ops.size iF (Nat.le_refl _) λj ε Ο=>by rw[<-ic j ε Ο];simp[hM j ε,ε]
  rw[Ζ];refine .congr (λi=>?_) HU;rw[cD i];exact xW ops.size λi o hi _ _=>hM i hi
 have HV:∀listed:Array Bool,listed.size=ops.size->(∃i,i<ops.size/\listed.getD i false=false)->∃i,i<ops.size/\listed.getD i false=false/\∀j,j<i->listed.getD j false=true:=λlisted cm ⟨i,hi,ω⟩=>by
  induction i using Nat.strongRecOn with
  | _ i Δ=>
   by_cases ε:∃j,j<i/\listed.getD j false=false
   ·obtain⟨j,J,γ⟩:=ε;exact Δ j J (by omega) γ
   ·exact⟨i,hi,ω,λj bp=>by
     cases h:listed.getD j false with
     | true=>rfl
     | false=>exact absurd ⟨j,bp,h⟩ ε⟩
 induction fuel with
 | zero=>
  intro t listed env cK cm cD bP iF ic HW;have hM:∀i,i<ops.size->listed.getD i false=true:=λi hi=>by
   cases h:listed.getD i false with
   | true=>rfl
   | false=>
    have lN:i∈(List.range ops.size).filter λi=>!listed.getD i false:=by rw[List.mem_filter];exact⟨List.mem_range.2 hi,by rw[h];rfl⟩
    have:((List.range ops.size).filter λi=>!listed.getD i false)=[]:=dp.1 (by omega);rw[this] at lN;simp at lN
  exact done t listed env cK hM cD iF ic
 | succ fuel Δ=>
  intro t listed env cK cm cD bP iF ic HW;simp only[Region.linearise.go];generalize jX:((List.range ops.size).filter λi=>!listed.getD i true&&((ops[i]?).map (·.after.all λe=>!Region.binds .any e||listed.getD e.on false)).getD false)=rs;have z5:∀i,i<ops.size->listed.getD i true=listed.getD i false:=λi hi=>by
   rw[Array.getD_eq_getD_getElem?,Array.getD_eq_getD_getElem?,e7 (by omega)];rfl
  have z6:∀i,i∈rs↔i<ops.size/\listed.getD i false=false/\∀o,ops[i]?=some o->∀j∈g6 o,listed.getD j false=true:=λi=>by
   rw[<-jX];simp only[List.mem_filter,List.mem_range,Bool.and_eq_true,Bool.not_eq_true'];constructor
   ·rintro⟨J,γ,π⟩;rw[z5 i J] at γ;refine⟨J,γ,λo Γ j ε=>?_⟩;rw[Γ] at π;simp only[Option.map_some,Option.getD_some,Array.all_eq_true'] at π;unfold g6 at ε;simp only[List.mem_map,List.mem_filter] at ε;obtain⟨e,⟨rj,lQ⟩,rfl⟩:=ε;have:=π e (by simpa using rj);simpa[lQ] using this
   ·rintro⟨J,γ,π⟩;refine⟨J,by rw[z5 i J];exact γ,?_⟩;have Γ:ops[i]?=some ops[i]:=e7 J;rw[Γ];simp only[Option.map_some,Option.getD_some,Array.all_eq_true'];intro e he;by_cases hb:Region.binds .any e=true
    ·have:=π _ Γ e.on (by unfold g6;simp only[List.mem_map,List.mem_filter];exact⟨e,⟨by simpa using he,hb⟩,rfl⟩);simp[this]
    ·simp[hb]
  cases hi:rs[t % rs.length]? with
  | none=>
   simp only[List.reverse_nil];have zn:rs=[]:=by
    cases μ:rs with
    | nil=>rfl
    | cons x xs=>
     rw[μ] at hi;have aD:t % (x::xs).length<(x::xs).length:=Nat.mod_lt _ (by simp);rw[aW aD] at hi;cases hi
   have hM:∀i,i<ops.size->listed.getD i false=true:=λi a9=>by
    cases h:listed.getD i false with
    | true=>rfl
    | false=>
     obtain⟨r,J,γ,π⟩:=HV listed cm ⟨i,a9,h⟩;have:r∈rs:=(z6 r).2 ⟨J,γ,λo Γ j ε=>π j (sM r o Γ j ε)⟩;rw[zn] at this;simp at this
   exact done t listed env cK hM cD iF ic
  | some i=>
   simp only;rw[NU];have lN:i∈rs:=ck hi;obtain⟨J,γ,π⟩:=(z6 i).1 lN;have Γ:ops[i]?=some ops[i]:=e7 J;have HX:=DF sM (λj=>listed.getD j false=true) (λj o ε ω=>bP j o ε ω) i _ Γ (π _ Γ);have low:∀j bT,j<i->ops[j]?=some bT->clash ops tags i j ops[i] bT=true->listed.getD j false=true:=λj bT ε dh ζ=>HX j ((v3 i _ Γ).2 j bT ε dh ζ);have high:∀j bT,i<j->ops[j]?=some bT->clash ops tags j i bT ops[i]=true->listed.getD j false=false:=λj bT ε dh ζ=>by
    cases ω:listed.getD j false with
    | false=>rfl
    | true=>
     have:=DF sM (λj=>listed.getD j false=true) (λj o ε ω=>bP j o ε ω) j bT dh (bP j bT dh ω) i ((v3 j bT dh).2 i _ ε Γ ζ);rw[γ] at this;cases this
   have same:o6 ops ops[i] (c6 ops env0 as9 (λ_=>true) i) env:=λx U=>by
    rw[cD x];have c1:a3 (c6 ops env0 as9 (λi=>listed.getD i false) ops.size) x=a3 (c6 ops env0 as9 (λi=>listed.getD i false) i) x:=DH (by omega) λj bT xX HY dh hd=>by
     by_cases e:j=i
     ·subst e;exact γ
     ·refine high j bT (by omega) dh ?_;unfold clash;simp[hd,U]
    rw[c1];exact xW i λj bT ε dh hd=>low j bT ε dh (by unfold clash;simp[hd,U])
   have nj:∀x,a3 (ca ops[i] env (as9 i)) x=a3 (c6 ops env0 as9 (λj=>(listed.setIfInBounds i true).getD j false) ops.size) x:=λx=>by
    have j4:∀j,(listed.setIfInBounds i true).getD j false=if j=i then true else listed.getD j false:=λj=>by
     rw[Array.getD_eq_getD_getElem?,Array.getD_eq_getD_getElem?];by_cases e:j=i
     ·subst e;rw[Array.getElem?_setIfInBounds_self_of_lt (by omega)];simp
     ·rw[Array.getElem?_setIfInBounds_ne (Ne.symm e),if_neg e]
    rw[vY];by_cases hd:ops[i].dst=some x
    ·rw[if_pos hd];have c1:a3 (c6 ops env0 as9 (λj=>(listed.setIfInBounds i true).getD j false) ops.size) x=a3 (c6 ops env0 as9 (λj=>(listed.setIfInBounds i true).getD j false) (i+1)) x:=DH (by omega) λj bT xX HY dh tZ=>by
      rw[j4,if_neg (by omega)];refine high j bT (by omega) dh ?_;unfold clash;simp[hd,tZ]
     rw[c1];simp only[c6,j4,if_true,Γ,vY,hd]
    ·rw[if_neg hd,cD x];exact xW ops.size λj bT ε dh tZ=>by
      rw[j4,if_neg];intro e;subst e;rw[Γ] at dh;cases dh;exact hd tZ
   have j4:∀j,(listed.setIfInBounds i true).getD j false=if j=i then true else listed.getD j false:=λj=>by
    rw[Array.getD_eq_getD_getElem?,Array.getD_eq_getD_getElem?];by_cases e:j=i
    ·subst e;rw[Array.getElem?_setIfInBounds_self_of_lt (by omega)];simp
    ·rw[Array.getElem?_setIfInBounds_ne (Ne.symm e),if_neg e]
   have v5:((List.range ops.size).filter λj=>!(listed.setIfInBounds i true).getD j false).length<=fuel:=by
    have aD:((List.range ops.size).filter λj=>!(listed.setIfInBounds i true).getD j false).length<((List.range ops.size).filter λj=>!listed.getD j false).length:=by
     have:((List.range ops.size).filter λj=>!(listed.setIfInBounds i true).getD j false)=((List.range ops.size).filter λj=>!listed.getD j false).filter λj=>j != i:=by
      rw[List.filter_filter];apply List.filter_congr;intro j _;rw[j4];by_cases e:j=i
      ·subst e;simp
      ·simp[e]
     rw[this];have hm:i∈(List.range ops.size).filter λj=>!listed.getD j false:=by
      rw[List.mem_filter];exact⟨List.mem_range.2 J,by rw[γ];rfl⟩
     exact List.length_filter_lt_length_iff_exists.2 ⟨i,hm,by simp⟩
    omega
   have rk:∀j o,ops[j]?=some o->(listed.setIfInBounds i true).getD j false=true->∀y∈g6 o,(listed.setIfInBounds i true).getD y false=true:=λj o ε ω y Ξ=>by
    rw[j4] at ω ⊢;by_cases e:y=i
    ·rw[if_pos e]
    ·rw[if_neg e];by_cases Ε:j=i
     ·subst Ε;rw[Γ] at ε;cases ε;exact π _ Γ y Ξ
     ·rw[if_neg Ε] at ω;exact bP j o ε ω y Ξ
   have NX:∀j,writer ops tags j=true->tags.getD j false=true:=λj h=>by
    unfold writer at h;rw[Bool.and_eq_true] at h;exact h.1
   cases nz:tags.getD i false with
   | false=>
    refine(dA i _ Γ nz).1 env (σs cK) _ same ?_;refine Δ _ _ _ cK (by simpa using cm) nj rk iF (λj ε Ο=>?_) v5;rw[j4];have:j≠i:=λe=>by subst e;rw[NX j Ο] at nz;cases nz
    rw[if_neg this];exact ic j ε Ο
   | true=>
    have NY:∀j bT,ops[j]?=some bT->writer ops tags j=true->clash ops tags i j ops[i] bT=true/\clash ops tags j i bT ops[i]=true:=λj bT dh Ο=>by
     have J:=NX j Ο;unfold writer at Ο;rw[J,dh] at Ο;have γ:mI bT=false:=by simpa using Ο
     unfold clash;rw[J,nz,γ];simp
    have tx:∀j,j<ops.size->writer ops tags j=true->j<i->listed.getD j false=true:=λj ε Ο sN=>low j _ sN (e7 ε) (NY j _ (e7 ε) Ο).1
    have NZ:∀j,j<ops.size->writer ops tags j=true->i<j->listed.getD j false=false:=λj ε Ο sN=>high j _ sN (e7 ε) (NY j _ (e7 ε) Ο).2
    have HZ:σs cK=σs i:=NW cK i iF (by omega) λj ε Ο=>by
     rw[<-ic j ε Ο];constructor
     ·intro ω;apply Classical.byContradiction;intro Η;by_cases e:j=i
      ·subst e;rw[γ] at ω;cases ω
      ·rw[NZ j ε Ο (by omega)] at ω;cases ω
     ·exact tx j ε Ο
    cases iZ:writer ops tags i with
    | false=>
     have es:=DI i _ Γ iZ
     have ο:=(e5 i _ Γ nz).1;rw[es] at ο;rw[HZ];refine ο env _ same ?_;rw[<-HZ];refine Δ _ _ _ cK (by simpa using cm) nj rk iF (λj ε Ο=>?_) v5;rw[j4];have:j≠i:=λe=>by subst e;rw[Ο] at iZ;cases iZ
     rw[if_neg this];exact ic j ε Ο
    | true=>
     rw[HZ];refine(e5 i _ Γ nz).1 env _ same ?_;refine Δ _ _ _ (i+1) (by simpa using cm) nj rk (by omega) (λj ε Ο=>?_) v5;rw[j4];by_cases e:j=i
     ·subst e;simp
     ·rw[if_neg e];constructor
      ·intro ω;apply Classical.byContradiction;intro Η;rw[NZ j ε Ο (by omega)] at ω;cases ω
      ·intro aD;exact tx j ε Ο (by omega)
def DJ:List Oper->List Nat->List Nat
 | [],acc=>acc
 | o::os,acc=>DJ os (acc++[(g6 o).foldr (λj m=>(1 <<< j)|||acc.getD j 0|||m) 0])
def N0 (ops:Array Oper) (tags:List Bool):Bool:=
 let b:=DJ ops.toList []
 (List.range ops.size).all λi=>match ops[i]? with
  | none=>false
  | some ny=>(g6 ny).all (λj=>decide (j<i))&&(List.range i).all λj=>match ops[j]? with
   | none=>false
   | some bT=>!clash ops tags i j ny bT||(b.getD i 0).testBit j
def N1 (acc:List (List Nat)) (ua:List Nat):Prop:=acc.length=ua.length/\∀i j,(ua.getD i 0).testBit j=true↔j∈acc.getD i []
theorem Xb:∀(os:List Oper) (acc:List (List Nat)) (ua:List Nat),N1 acc ua->N1 (z2 os acc) (DJ os ua):=by
 intro os
 induction os with
 | nil=>intro acc ua h;exact h
 | cons o os Δ=>
  intro acc ua h;simp only[z2,DJ];refine Δ _ _ ⟨by simp[h.1],λi j=>?_⟩;have one:∀l:List Nat,(l.foldr (λj m=>(1 <<< j)|||ua.getD j 0|||m) 0).testBit j=true↔j∈l++l.flatMap λj=>acc.getD j []:=by
   intro l
   induction l with
   | nil=>simp
   | cons a l mz=>
    rw[List.foldr_cons,Nat.testBit_or,Nat.testBit_or,Nat.one_shiftLeft,Nat.testBit_two_pow];simp only[Bool.or_eq_true,decide_eq_true_eq,h.2 a j,mz,List.mem_append,List.mem_cons,List.flatMap_cons];constructor
    ·rintro((e|e)|e|e)
     ·exact .inl (.inl e.symm)
     ·exact .inr (.inl e)
     ·exact .inl (.inr e)
     ·exact .inr (.inr e)
    ·rintro((e|e)|e|e)
     ·exact .inl (.inl e.symm)
     ·exact .inr (.inl e)
     ·exact .inl (.inr e)
     ·exact .inr (.inr e)
  rw[List.getD_eq_getElem?_getD,List.getD_eq_getElem?_getD];by_cases hi:i<acc.length
  ·rw[dB hi,dB (by rw[<-h.1];exact hi),<-List.getD_eq_getElem?_getD,<-List.getD_eq_getElem?_getD];exact h.2 i j
  ·rw[fS (by have:=h.1;omega),fS (by omega),<-h.1];cases hd:i-acc.length with
   | zero=>simpa using one (g6 o)
   | succ n=>simp
theorem bK {ops:Array Oper} {tags:List Bool} (h:N0 ops tags=true):kV ops tags=true:=by
 unfold N0 at h;unfold kV;have hb:=Xb ops.toList [] [] ⟨rfl,λi j=>by simp⟩;simp only[List.all_eq_true] at h ⊢;intro i hi;have J:=h i hi;cases Γ:ops[i]? with
 | none=>rw[Γ] at J;exact J
 | some ny=>
  rw[Γ] at J;simp only[Bool.and_eq_true,List.all_eq_true] at J ⊢;refine⟨J.1,λj ε=>?_⟩;have γ:=J.2 j ε;cases dh:ops[j]? with
  | none=>rw[dh] at γ;exact γ
  | some bT=>
   rw[dh] at γ;simp only[Bool.or_eq_true] at γ ⊢;rcases γ with γ|γ
   ·exact .inl γ
   ·exact .inr (List.contains_iff_mem.2 ((hb.2 i j).1 γ))
end
section
variable {P:Program} {T:bd} {A:List Nat} {m nt:Nat} {k:List Item} {env env':aa} {σ:List Row} {Z:List Item->aa->List Row->Prop} {E:θ->aa->List Row->Prop} {ops:Array Oper}
theorem DK {o:Oper} (h:o6 ops o env env'):∀x,x∈o.op.operands.toList->aQ env' x=aQ env x:=λx U=>by
 cases x with
 | tmp t=>
  refine h t ?_;unfold z1;simp only[List.mem_append,List.mem_filterMap];exact .inl ⟨.tmp t,U,rfl⟩
 | _=>rfl
theorem rl {o:Oper} (h:o6 ops o env env'):fz env' ops o=fz env ops o:=by
 unfold fz;cases Υ:o.guard with
 | none=>rfl
 | some x=>
  obtain⟨j,want⟩:=x;simp only;cases hd:(ops[j]?).bind (·.dst) with
  | none=>rfl
  | some d=>
   simp only;have:a3 env' d=a3 env d:=h d (by unfold z1;rw[Υ];simp[hd]);rw[this]
theorem DL {cO:Array (Nat×Operand)} (h:∀p∈cO,aQ env' p.2=aQ env p.2):sH env' cO=sH env cO:=by
 unfold sH;exact List.map_congr_left λp ψ=>by rw[h p (by simpa using ψ)]
theorem DN {c5:Array Operand} (h:∀x∈c5,aQ env' x=aQ env x):c5.toList.map (aQ env')=c5.toList.map (aQ env):=List.map_congr_left λx U=>h x (by simpa using U)
theorem DO {o:Option Operand} (h:∀x,o=some x->aQ env' x=aQ env x):o.map (aQ env')=o.map (aQ env):=by
 cases o with
 | none=>rfl
 | some x=>simp[h x rfl]
theorem DQ {o:Oper} (ο:o6 ops o env env'):mF T A env' o=mF T A env o:=by
 have h:=DK ο;obtain⟨dst,op,type,pos,after,guard⟩:=o;simp only at h;unfold mF;cases op<;>simp only<;>try rfl
 all_goals simp only[Op.operands,List.mem_cons,List.not_mem_nil,or_false,forall_eq_or_imp,forall_eq] at h
 case move x=>rw[h]
 case assign x=>rw[h]
 case pick c a b=>rw[h.1,h.2.1,h.2.2]
 case box ty x=>rw[h]
 case build ty cO=>rw[DL λp ψ=>h p.2 (by simp only[List.mem_map];exact⟨p,by simpa using ψ,rfl⟩)]
 case buildSlice ty n cO=>rw[DL λp ψ=>h p.2 (by simp only[List.mem_map];exact⟨p,by simpa using ψ,rfl⟩)]
 case load ty x=>rw[h]
 case binOp op a x y b=>rw[h.1,h.2]
 case unOp op a x=>rw[h]
 case convert a b x=>rw[h]
 case index ty x y=>rw[h.1,h.2]
 case nilCheck x=>rw[h]
 case sliceToArrayPointer ty x=>rw[h]
 case makeInterface a x=>rw[h]
 case makeFunc f c5 cs=>rw[DN λx U=>h x (by simp[U]),DN λx U=>h x (by simp[U])]
 case makeSlice a x y=>rw[h.1,h.2]
 case slice ty x lo hi ob=>
  cases ob with
  | some m=>rfl
  | none=>
   simp only;rw[h x (by simp),DO λy Ξ=>h y (by simp[Ξ]),DO λy Ξ=>h y (by simp[Ξ])]
 case fieldAddr ty x f=>rw[h]
 case indexAddr ty x y=>rw[h.1,h.2]
 case typeAssert x a b c=>rw[h]
 case extract x i=>rw[h]
 case call c=>
  obtain⟨callee,⟨args⟩,⟨dS⟩⟩:=c;cases callee
  case value=>rfl
  case invoke=>rfl
  rename_i b;have cJ:∀x∈args,aQ env' x=aQ env x:=λx U=>h x (by simp[Call.operands,U])
  match args,dS with
  | [x],[ty]=>simp only;rw[cJ x (by simp)]
  | [x,y],[tY,ty]=>simp only;rw[cJ x (by simp),cJ y (by simp)]
  | [],_=>rfl
  | [_],[]=>rfl
  | [_],_::_::_=>rfl
  | [_,_],[]=>rfl
  | [_,_],[_]=>rfl
  | [_,_],_::_::_::_=>rfl
  | _::_::_::_,_=>rfl
theorem N2 {o:Oper} (ο:o6 ops o env env'):kx T A env' σ o=kx T A env σ o:=by
 have h:=DK ο;obtain⟨dst,op,type,pos,after,guard⟩:=o;simp only at h;unfold kx;cases op<;>simp only<;>try rfl
 all_goals simp only[Op.operands,List.mem_cons,List.not_mem_nil,or_false,forall_eq_or_imp,forall_eq] at h
 case box ty x=>rw[h]
 case build ty cO=>rw[DL λp ψ=>h p.2 (by simp only[List.mem_map];exact⟨p,by simpa using ψ,rfl⟩)]
 case buildSlice ty n cO=>rw[DL λp ψ=>h p.2 (by simp only[List.mem_map];exact⟨p,by simpa using ψ,rfl⟩)]
 case load ty x=>rw[h]
 case store ty x y=>rw[h.1,h.2]
 case makeSlice a x y=>rw[h.1,h.2]
 case makeMap ty r=>cases r<;>rfl
 case convert a b x=>rw[h]
 case nilCheck x=>rw[h]
 case binOp op ty x y d=>
  split
  all_goals first
   | rfl
   |(rename_i heq;cases heq<;>simp only[h.1])
 case mapUpdate ty x y z=>rw[h.1,h.2.1,h.2.2]
 case insert ty x y z=>rw[h.1,h.2.1,h.2.2]
 case lookup ty x y ok=>rw[h.1,h.2]
 case range ty x=>rw[h]
 case next x b=>
  cases b<;>simp only<;>try rfl
  rw[h]
 case entry x=>rw[h]
 case slice ty x lo hi ob=>
  cases ob with
  | some m=>rfl
  | none=>
   simp only;rw[h x (by simp),DO λy Ξ=>h y (by simp[Ξ]),DO λy Ξ=>h y (by simp[Ξ])]
 case fieldAddr ty x f=>rw[h]
 case indexAddr ty x y=>rw[h.1,h.2]
 case call c=>
  obtain⟨callee,⟨args⟩,⟨dS⟩⟩:=c;cases callee
  case value=>rfl
  case invoke=>rfl
  rename_i b;have cJ:∀x∈args,aQ env' x=aQ env x:=λx U=>h x (by simp[Call.operands,U])
  match args,dS with
  | [x],[ty]=>simp only;rw[cJ x (by simp)]
  | [x,y],[tY,ty]=>simp only;rw[cJ x (by simp),cJ y (by simp)]
  | [],_=>rfl
  | [_],[]=>rfl
  | [_],_::_::_=>rfl
  | [_,_],[]=>rfl
  | [_,_],[_]=>rfl
  | [_,_],_::_::_::_=>rfl
  | _::_::_::_,_=>rfl
def gj (P:Program) (f:θ) (args:List θ) (r:θ):Prop:=∀σ,hG P f args σ (λa s=>a=r/\s=σ) (λ_ _=>False)
def cw.gv (r:cw) (K:θ->Prop) (s:Prop):Prop:=match r with
 | .ok a=>K a
 | .b4 p (.ok a)=>p/\K a
 | .b4 _ _=>False
 | .bad=>s
def cZ.gv (r:cZ) (K:θ->List Row->Prop):Prop:=match r with
 | .ok a σ'=>K a σ'
 | .b4 p (.ok a σ')=>p/\K a σ'
 | _=>False
theorem Xc {r r':cw} {K:θ->Prop} {s:Prop} (h:r=r'):r.gv K s=r'.gv K s:=by rw[h]
theorem Xd {r r':cZ} {K:θ->List Row->Prop} (h:r=r'):r.gv K=r'.gv K:=by rw[h]
def dcall (P:Program) (f:θ) (args:List θ) (σ:List Row) (hr:θ->Prop) (ky:θ->List Row->Prop):Prop:=
 (∃r,gj P f args r/\hr r)\/∃r σ',hG P f args σ (λa s=>a=r/\s=σ') (λ_ _=>False)/\ky r σ'
theorem fI {P:Program} {f:θ} {args:List θ} {σ:List Row} {hr:θ->Prop} {ky:θ->List Row->Prop} {r:θ} (h:gj P f args r) (k:hr r):dcall P f args σ hr ky:=.inl ⟨r,h,k⟩
theorem DR {P:Program} {f:θ} {args:List θ} {σ σ':List Row} {hr:θ->Prop} {ky:θ->List Row->Prop} {r:θ} (h:hG P f args σ (λa s=>a=r/\s=σ') (λ_ _=>False)) (k:ky r σ'):dcall P f args σ hr ky:=.inr ⟨r,σ',h,k⟩
def z7 (P:Program) (T:bd) (A:List Nat) (env:aa) (o:Oper) (σ:List Row) (hr:θ->Prop) (ky:θ->List Row->Prop):Prop:=match o.op with
 | .call ⟨.value f,args,_⟩=>dcall P (aQ env f) (args.toList.map (aQ env)) σ hr ky
 | .panic _=>False
 | .defer _=>False
 | _=>(mF T A env o).gv hr ((kx T A env σ o).gv ky)
theorem Xe {P:Program} {T:bd} {A:List Nat} {env:aa} {o:Oper} {σ:List Row} {hr:θ->Prop} {ky:θ->List Row->Prop}:z7 P T A env o σ hr ky=match o.op with
 | .call ⟨.value f,args,_⟩=>dcall P (aQ env f) (args.toList.map (aQ env)) σ hr ky
 | .panic _=>False
 | .defer _=>False
 | _=>(mF T A env o).gv hr ((kx T A env σ o).gv ky):=Eq.trans rfl rfl
theorem Xf {a:θ} {K:θ->Prop} {s:Prop}:cw.gv (.ok a) K s=K a:=Eq.trans rfl rfl
theorem Xg {p:Prop} {a:θ} {K:θ->Prop} {s:Prop}:cw.gv (.b4 p (.ok a)) K s=(p/\K a):=Eq.trans rfl rfl
theorem Xh {K:θ->Prop} {s:Prop}:cw.gv .bad K s=s:=Eq.trans rfl rfl
theorem Xi {a:θ} {σ:List Row} {K:θ->List Row->Prop}:cZ.gv (.ok a σ) K=K a σ:=Eq.trans rfl rfl
theorem Xj {p:Prop} {a:θ} {σ:List Row} {K:θ->List Row->Prop}:cZ.gv (.b4 p (.ok a σ)) K=(p/\K a σ):=Eq.trans rfl rfl
def i' (P:Program) (T:bd) (A:List Nat) (nt:Nat) (ops:Array Oper):List Nat->aa->List Row->List Bool->(aa->List Row->Prop)->Prop
 | [],env,σ,tags,K=>kV ops tags=true/\K env σ
 | i::is,env,σ,tags,K=>gP ops[i]? λo=>hT nt o=true/\gP (fz env ops o) λw=>
   jE w (i' P T A nt ops is (ca o env .cg) σ (tags++[false]) K)
    (z7 P T A env o σ (λa=>i' P T A nt ops is (ca o env a) σ (tags++[false]) K) (λa σ'=>i' P T A nt ops is (ca o env a) σ' (tags++[true]) K))
def N3 (P:Program) (T:bd) (A:List Nat) (nt:Nat) (ops:Array Oper) (is:List Nat) (o:Oper) (env:aa) (σ:List Row) (tags:List Bool) (K:aa->List Row->Prop) (a:θ):Prop:=i' P T A nt ops is (ca o env a) σ (tags++[false]) K
def N4 (P:Program) (T:bd) (A:List Nat) (nt:Nat) (ops:Array Oper) (is:List Nat) (o:Oper) (env:aa) (tags:List Bool) (K:aa->List Row->Prop) (a:θ) (σ':List Row):Prop:=i' P T A nt ops is (ca o env a) σ' (tags++[true]) K
theorem a' {tags:List Bool} {K:aa->List Row->Prop}:i' P T A nt ops [] env σ tags K=(kV ops tags=true/\K env σ):=Eq.trans rfl rfl
theorem ba {i:Nat} {is:List Nat} {tags:List Bool} {K:aa->List Row->Prop}:i' P T A nt ops (i::is) env σ tags K=gP ops[i]? λo=>hT nt o=true/\gP (fz env ops o) λw=>
   jE w (i' P T A nt ops is (ca o env .cg) σ (tags++[false]) K) (z7 P T A env o σ (N3 P T A nt ops is o env σ tags K) (N4 P T A nt ops is o env tags K)):=Eq.trans rfl rfl
theorem Xk {ops:Array Oper} {is:List Nat} {o:Oper} {tags:List Bool} {K:aa->List Row->Prop} {a:θ}:N3 P T A nt ops is o env σ tags K a=i' P T A nt ops is (ca o env a) σ (tags++[false]) K:=Eq.trans rfl rfl
theorem Xl {ops:Array Oper} {is:List Nat} {o:Oper} {tags:List Bool} {K:aa->List Row->Prop} {a:θ}:N4 P T A nt ops is o env tags K a σ=i' P T A nt ops is (ca o env a) σ (tags++[true]) K:=Eq.trans rfl rfl
def o7 (P:Program) (m nt:Nat) (k:List Item) (Z:List Item->aa->List Row->Prop) (E:θ->aa->List Row->Prop) (ops:Array Oper) (i:Nat) (o:Oper) (env:aa) (σ:List Row) (tag:Bool) (a:θ) (σ':List Row):Prop:=
 if tag then HT P m nt k Z E ops i o env σ a σ'/\(mI o=true->σ'=σ) else xV P m nt k Z E ops i o env a/\σ'=σ
theorem Xm {ty:TypeId} {x a:θ} {σ':List Row} {p:Prop} (h:vF T ty σ x=.ok a σ'\/vF T ty σ x=.b4 p (.ok a σ')):σ'=σ:=by
 unfold vF tP at h
 repeat' split at h
 all_goals simp[cw.dq] at h
 all_goals first|exact h.2.symm|skip
theorem Xn {ty:TypeId} {x bZ a:θ} {σ':List Row} {p:Prop} (h:vH T ty σ x bZ=.ok a σ'\/vH T ty σ x bZ=.b4 p (.ok a σ')):σ'=σ:=by
 unfold vH at h
 repeat' split at h
 all_goals simp at h
 all_goals first|exact h.2.2.symm|exact h.2.symm|skip
theorem Xo {ty:TypeId} {f:Nat} {x a:θ} {σ':List Row} {p:Prop} (h:vG T ty f σ x=.ok a σ'\/vG T ty f σ x=.b4 p (.ok a σ')):σ'=σ:=by
 unfold vG at h
 repeat' split at h
 all_goals simp at h
 all_goals first|exact h.2.2.symm|exact h.2.symm|skip
theorem Xp {x a:θ} {σ':List Row} {p:Prop} (h:vS σ x=.ok a σ'\/vS σ x=.b4 p (.ok a σ')):σ'=σ:=by
 unfold vS at h
 repeat' split at h
 all_goals simp at h
 all_goals first|exact h.2.2.symm|exact h.2.symm|skip
theorem DS {o:Oper} {a:θ} {σ':List Row} {p:Prop} (μ:mI o=true) (h:kx T A env σ o=.ok a σ'\/kx T A env σ o=.b4 p (.ok a σ')):σ'=σ:=by
 unfold mI at μ;unfold kx at h;split at μ
 ·rename_i ty x Ν;rw[Ν] at h;exact Xm h
 ·rename_i ty x bZ Ν;rw[Ν] at h;exact Xn h
 ·rename_i ty x f Ν;rw[Ν] at h;exact Xo h
 ·rename_i x Ν;rw[Ν] at h;exact Xp h
 ·cases μ
theorem Xq (Κ:bR P T) {i:Nat} {is:List Nat} {tags:List Bool} {K:aa->List Row->Prop} (h:i' P T A nt ops (i::is) env σ tags K) :
  ∃o a σ' tag,ops[i]?=some o/\o7 P m nt k Z E ops i o env σ tag a σ'/\i' P T A nt ops is (ca o env a) σ' (tags++[tag]) K:=by
 unfold i' gP at h;split at h
 ·exact h.elim
 ·rename_i o Γ;obtain⟨hd,h⟩:=h;split at h
  ·exact h.elim
  rename_i w hw;unfold jE at h;cases w
  ·replace h:=h.1 rfl
   refine⟨o,.cg,σ,false,Γ,?_,h⟩;unfold o7;simp only[Bool.false_eq_true,if_false];exact⟨λenv' σ' rest ο hW=>.unwanted Γ (by rw[rl ο];exact hw) hd hW,trivial⟩
  ·replace h:=h.2 rfl
   unfold z7 at h;split at h
   ·rename_i f args dS Ν;have z8:∀env',o6 ops o env env'->aQ env' f=aQ env f/\args.toList.map (aQ env')=args.toList.map (aQ env):=λenv' ο=>by
     have U:=DK ο;rw[Ν] at U;refine⟨U f (by simp[Op.operands,Call.operands]),DN λx v7=>U x (by simp[Op.operands,Call.operands,v7])⟩
    rcases h with⟨r,ζ,h⟩|⟨r,σ',ζ,h⟩
    ·refine⟨o,r,σ,false,Γ,?_,h⟩;unfold o7;simp only[Bool.false_eq_true,if_false];refine⟨λenv' σ' rest ο hW=>.call Γ (by rw[rl ο];exact hw) hd Ν ?_,trivial⟩;obtain⟨Ζ,Ε⟩:=z8 env' ο;rw[Ζ,Ε];exact(ζ σ').mono (λa s ⟨x,y⟩=>by subst x;subst y;exact hW) (λ_ _ h=>h.elim)
    ·refine⟨o,r,σ',true,Γ,?_,h⟩;unfold o7;simp only[if_true];refine⟨?_,λμ=>by unfold mI at μ;rw[Ν] at μ;cases μ⟩;refine λenv' rest ο hW=>.call Γ (by rw[rl ο];exact hw) hd Ν ?_;obtain⟨Ζ,Ε⟩:=z8 env' ο;rw[Ζ,Ε];exact ζ.mono (λa s ⟨x,y⟩=>by subst x;subst y;exact hW) (λ_ _ h=>h.elim)
   ·exact h.elim
   ·exact h.elim
   ·rename_i J γ π;have z9:∀(r:cw) (a:θ),mF T A env o=r->(∀K:θ->List Row->Prop,∀s,K a s->(r.dq s).holds K)->(∀σ s,r.or σ s=r.dq σ)->xV P m nt k Z E ops i o env a:=λr a μ aU H0 env' σ' rest ο hW=>by
     refine .op (A:=A) Κ Γ (by rw[rl ο];exact hw) hd (λc ζ=>π c ζ) ?_;rw[DQ ο,μ,H0];exact aU _ _ hW
    unfold cw.gv at h;split at h
    ·rename_i a ξ;refine⟨o,a,σ,false,Γ,?_,h⟩;unfold o7;simp only[Bool.false_eq_true,if_false];exact⟨z9 _ a ξ (λK s χ=>χ) (λ_ _=>rfl),trivial⟩
    ·rename_i p a ξ;refine⟨o,a,σ,false,Γ,?_,h.2⟩;unfold o7;simp only[Bool.false_eq_true,if_false];exact⟨z9 _ a ξ (λK s χ=>⟨h.1,χ⟩) (λ_ _=>rfl),trivial⟩
    ·exact h.elim
    ·rename_i xQ;have DT:∀(a:θ) (σ':List Row) (r:cZ),kx T A env σ o=r->(∀K:θ->List Row->Prop,K a σ'->r.holds K)->HT P m nt k Z E ops i o env σ a σ':=λa σ' r μ aU env' rest ο hW=>by
      refine .op (A:=A) Κ Γ (by rw[rl ο];exact hw) hd (λc ζ=>π c ζ) ?_;rw[DQ ο,N2 ο,xQ,μ];exact aU _ hW
     unfold cZ.gv at h;split at h
     ·rename_i a σ' ξ;refine⟨o,a,σ',true,Γ,?_,h⟩;unfold o7;simp only[if_true];exact⟨DT a σ' _ ξ λK χ=>χ,λμ=>DS (p:=True) μ (.inl ξ)⟩
     ·rename_i p a σ' ξ;refine⟨o,a,σ',true,Γ,?_,h.2⟩;unfold o7;simp only[if_true];exact⟨DT a σ' _ ξ λK χ=>⟨h.1,χ⟩,λμ=>DS μ (.inr ξ)⟩
     ·exact h.elim
theorem N5 {env0:aa} {as9 kz:Nat->θ} {D:Nat->Bool}:∀n,(∀j,j<n->as9 j=kz j)->c6 ops env0 as9 D n=c6 ops env0 kz D n:=by
 intro n
 induction n with
 | zero=>intro _;rfl
 | succ n Δ=>
  intro h;simp only[c6];rw[Δ λj ε=>h j (by omega),h n (Nat.lt_succ_self n)]
theorem Xr (Κ:bR P T) {K:aa->List Row->Prop} {env0:aa}:∀(d i:Nat) (tags:List Bool) (as9:Nat->θ) (σs:Nat->List Row),i+d=ops.size->tags.length=i->
  (∀j o,j<i->ops[j]?=some o->o7 P m nt k Z E ops j o (c6 ops env0 as9 (λ_=>true) j) (σs j) (tags.getD j false) (as9 j) (σs (j+1)))->
  i' P T A nt ops (List.range' i d) (c6 ops env0 as9 (λ_=>true) i) (σs i) tags K->
  ∃(tags:List Bool) (as9:Nat->θ) (rm:Nat->List Row),kV ops tags=true/\rm 0=σs 0/\(∀j o,ops[j]?=some o->o7 P m nt k Z E ops j o (c6 ops env0 as9 (λ_=>true) j) (rm j) (tags.getD j false) (as9 j) (rm (j+1)))/\K (c6 ops env0 as9 (λ_=>true) ops.size) (rm ops.size):=by
 intro d
 induction d with
 | zero=>
  intro i tags as9 σs hi Ο ε h;simp only[List.range'_zero,i'] at h;have:i=ops.size:=by omega
  subst this;exact⟨tags,as9,σs,h.1,rfl,λj o Γ=>ε j o (Array.getElem?_eq_some_iff.1 Γ).1 Γ,h.2⟩
 | succ d Δ=>
  intro i tags as9 σs hi Ο ε h;rw[List.range'_succ] at h;obtain⟨o,a,σ',tag,Γ,H2,h⟩:=Xq (m:=m) (k:=k) (Z:=Z) (E:=E) Κ h;let kz:Nat->θ:=λj=>if j=i then a else as9 j
  let rm:Nat->List Row:=λj=>if j=i+1 then σ' else σs j
  have v8:∀j,j<=i->c6 ops env0 as9 (λ_=>true) j=c6 ops env0 kz (λ_=>true) j:=λj ε=>N5 j λx U=>by simp only[kz];rw[if_neg (by omega)]
  have H3:c6 ops env0 kz (λ_=>true) (i+1)=ca o (c6 ops env0 as9 (λ_=>true) i) a:=by
   simp only[c6,if_true,Γ];rw[<-v8 i (Nat.le_refl i)];simp only[kz,if_true]
  have:=Δ (i+1) (tags++[tag]) kz rm (by omega) (by simp[Ο]) (λj bT aD dh=>?_) ?_
  ·obtain⟨t2,bl,s2,Τ,af,aX,cr⟩:=this;exact⟨t2,bl,s2,Τ,af.trans (by simp only[rm];rw[if_neg (by omega)]),aX,cr⟩
  ·by_cases e:j=i
   ·subst e;rw[Γ] at dh;cases dh;rw[<-v8 j (Nat.le_refl j)];have Ζ:(tags++[tag]).getD j false=tag:=by rw[List.getD_eq_getElem?_getD,fS (by omega),Ο];simp
    rw[Ζ];simp only[kz,rm,if_true];rw[if_neg (by omega)];exact H2
   ·have:=ε j bT (by omega) dh;rw[<-v8 j (by omega)];have Ζ:(tags++[tag]).getD j false=tags.getD j false:=by rw[List.getD_eq_getElem?_getD,dB (by omega),<-List.getD_eq_getElem?_getD]
    rw[Ζ];simp only[kz,rm];rw[if_neg (by omega),if_neg (by omega),if_neg (by omega)];exact this
  ·rw[H3];simp only[rm,if_true];exact h
theorem W.draw (Κ:bR P T) (sO:P.follows .mixedOrders=true) {id:Nat} (h:∀η:aa->List Row->Prop,(∀env σ,W P m nt k env σ Z E->η env σ)->i' P T A nt ops (idx ops.size []) env σ [] η):W P m nt (.code (.region id ops true)::k) env σ Z E:=by
 have ag:=h (λenv σ=>W P m nt k env σ Z E) λ_ _ h=>h;rw[idx_eq,List.range_eq_range'] at ag;obtain⟨tags,as9,σs,Τ,af,aX,cr⟩:=Xr (m:=m) (k:=k) (Z:=Z) (E:=E) (env0:=env) Κ ops.size 0 [] (λ_=>.cg) (λ_=>σ) (by omega) rfl (λj o ε=>by omega) ag;intro Q mn x cs b S B H t U hb ψ Θ he;refine .draw U hb λn=>?_;have key:=W.Xa (P:=P) (m:=m) (nt:=nt) (k:=k) (Z:=Z) (E:=E) (ops:=ops) (as9:=as9) (σs:=σs) (tags:=tags) (env0:=env) Τ
  (λi o Γ Ο=>by have:=aX i o Γ;unfold o7 at this;rw[Ο] at this;simpa using this)
  (λi o Γ Ο=>by have:=aX i o Γ;unfold o7 at this;rw[Ο] at this;simpa using this)
  (.bF cr) ops.size n (Array.replicate ops.size false) env 0 (by simp) (λi=>?_) (λi o Γ ω=>?_) (Nat.zero_le _) (λj ε _=>?_) ?_
 ·rw[af] at key;rw[sO];simp only[Region.schedule,Bool.true_or,if_true,Region.linearise];exact key Q mn x cs b S B H t U hb ψ Θ he
 ·have:∀n,c6 ops env as9 (λi=>(Array.replicate ops.size false).getD i false) n=env:=by
   intro n
   induction n with
   | zero=>rfl
   | succ n Δ=>
    simp only[c6];have:(Array.replicate ops.size false).getD n false=false:=by
     rw[Array.getD_eq_getD_getElem?,Array.getElem?_replicate];split<;>rfl
    rw[if_neg (by rw[this];simp)];exact Δ
  rw[this]
 ·have:(Array.replicate ops.size false).getD i false=false:=by
   rw[Array.getD_eq_getD_getElem?,Array.getElem?_replicate];split<;>rfl
  rw[this] at ω;cases ω
 ·have:(Array.replicate ops.size false).getD j false=false:=by
   rw[Array.getD_eq_getD_getElem?,Array.getElem?_replicate];split<;>rfl
  rw[this];simp
 ·have:=List.length_filter_le (λi=>!(Array.replicate ops.size false).getD i false) (List.range ops.size);simpa using this
theorem N6 {K K':aa->List Row->Prop} (I:∀e s,K e s->K' e s):∀(is:List Nat) (env:aa) (σ:List Row) (tags:List Bool),i' P T A nt ops is env σ tags K->i' P T A nt ops is env σ tags K':=by
 intro is
 induction is with
 | nil=>intro env σ tags h;exact⟨h.1,I _ _ h.2⟩
 | cons i is Δ=>
  intro env σ tags h;unfold i' gP at h ⊢;cases Γ:ops[i]? with
  | none=>rw[Γ] at h;exact h.elim
  | some o=>
   rw[Γ] at h;simp only at h ⊢;refine⟨h.1,?_⟩
   replace h:=h.2
   cases hw:fz env ops o with
   | none=>rw[hw] at h;exact h.elim
   | some w=>
    rw[hw] at h;unfold jE at h ⊢;refine⟨λe=>Δ _ _ _ (h.1 e),λe=>?_⟩
    replace h:=h.2 e
    unfold z7 at h ⊢;split
    ·rename_i f args dS Ν;rw[Ν] at h;simp only at h;rcases h with⟨r,ζ,h⟩|⟨r,σ',ζ,h⟩
     ·exact .inl ⟨r,ζ,Δ _ _ _ h⟩
     ·exact .inr ⟨r,σ',ζ,Δ _ _ _ h⟩
    ·rename_i Ν;rw[Ν] at h;exact h
    ·rename_i Ν;rw[Ν] at h;exact h
    ·rename_i J γ π;split at h
     ·rename_i f args dS Ν;exact absurd Ν (J f args dS)
     ·rename_i y Ν;exact absurd Ν (γ y)
     ·rename_i y Ν;exact absurd Ν (π y)
     ·unfold cw.gv at h ⊢;split at h
      ·exact Δ _ _ _ h
      ·exact⟨h.1,Δ _ _ _ h.2⟩
      ·exact h.elim
      ·unfold cZ.gv at h ⊢;split at h
       ·exact Δ _ _ _ h
       ·exact⟨h.1,Δ _ _ _ h.2⟩
       ·exact h.elim
theorem W.DU (Κ:bR P T) (sO:P.follows .mixedOrders=true) (g5:aa) {id:Nat} (h:W P m nt k g5 σ Z E) (μ:i' P T A nt ops (idx ops.size []) env σ [] (λe s=>s=σ/\∀p∈g5,a3 e p.1=p.2)):W P m nt (.code (.region id ops true)::k) env σ Z E:=
 W.draw Κ sO λη I=>N6 (λe s ⟨J,γ⟩=>I e s (J▸W.forget g5 γ h)) _ _ _ _ μ
end
def ie {α:Type}:List α->List Nat->List α->List α
 | l,i::ρ,x::xs=>ie (l.set i x) ρ xs
 | l,_,_=>l
theorem sP {α:Type}:∀(ρ:List Nat) (l xs:List α),(ie l ρ xs).length=l.length:=by
 intro ρ
 induction ρ with
 | nil=>intro l xs;cases xs<;>rfl
 | cons i ρ Δ=>intro l xs;cases xs with
  | nil=>rfl
  | cons x xs=>simp[ie,Δ]
theorem H4 {α:Type} {i:Nat}:∀(ρ:List Nat) (l xs:List α),i∉ρ->(ie l ρ xs)[i]?=l[i]?:=by
 intro ρ
 induction ρ with
 | nil=>intro l xs _;cases xs<;>rfl
 | cons j ρ Δ=>intro l xs h;cases xs with
  | nil=>rfl
  | cons x xs=>
   simp only[ie];rw[Δ _ _ (λhm=>h (by simp[hm])),List.getElem?_set_ne (λe=>h (by simp[e]))]
theorem N7 {α:Type}:∀(ρ:List Nat) (l xs:List α),ρ.Nodup->(∀i∈ρ,i<l.length)->∀(j i:Nat) (x:α),ρ[j]?=some i->xs[j]?=some x->(ie l ρ xs)[i]?=some x:=by
 intro ρ
 induction ρ with
 | nil=>intro l xs _ _ j i x h;simp at h
 | cons a ρ Δ=>
  intro l xs kv aD j i x ε U;cases xs with
  | nil=>simp at U
  | cons y xs=>
   simp only[ie];obtain⟨J,γ⟩:=List.nodup_cons.1 kv;cases j with
   | zero=>
    simp at ε U;subst ε;subst U;rw[H4 ρ _ _ J,List.getElem?_set_self (aD a (by simp))]
   | succ j=>
    simp only[List.getElem?_cons_succ] at ε U;exact Δ _ _ γ (λi hi=>by simp;exact aD i (by simp[hi])) j i x ε U
def hH (ρ:List Nat):θ->θ
 | .al id n i j=>.al (ρ.getD id 0) n i j
 | .ms id n i len=>.ms (ρ.getD id 0) n i len
 | .mp id=>.mp (ρ.getD id 0)
 | .it id=>.it (ρ.getD id 0)
 | a=>a
def dM (ρ:List Nat):θ->θ
 | .fn f c5 cs=>.fn f (c5.map (hH ρ)) (cs.map (hH ρ))
 | .aS l=>.aS (l.map (hH ρ))
 | .bn l=>.bn (l.map (hH ρ))
 | a=>hH ρ a
def o8 (h:Nat) (a:θ):Prop:=match a with
 | .al id _ _ _|.ms id _ _ _|.mp id|.it id=>id<h
 | a=>au 0 a
def ga (h:Nat) (a:θ):Prop:=match a with
 | .fn _ c5 cs=>(∀a∈c5,o8 h a)/\∀a∈cs,o8 h a
 | .aS l|.bn l=>∀a∈l,o8 h a
 | a=>o8 h a
structure Names (ρ:List Nat) (ek:aR) (σ0:List Row) (bO:aR) (j5:List Row):Prop where
 row:∀(j i:Nat),ρ[j]?=some i->j5[i]?=σ0[j]?
 blk:∀(j i:Nat),ρ[j]?=some i->bO[i]?=ek[j]?
section
variable {S:aB} {ek bO:aR} {σ0 j5:List Row} {ρ:List Nat}
theorem DV {ρ:List Nat} {j:Nat} (h:j<ρ.length):ρ[j]?=some (ρ.getD j 0):=by
 rw[List.getD_eq_getElem?_getD,aW h];rfl
theorem kW (Η:Names ρ ek σ0 bO j5) {a:θ} {v:Value} (Ο:o8 ρ.length a):ao S bO j5 (hH ρ a) v↔ao S ek σ0 a v:=by
 cases a with
 | al id n i j=>
  have bW:=DV (ρ:=ρ) Ο
  have J:=Η.row _ _ bW
  have γ:=Η.blk _ _ bW;constructor
  ·intro h;cases h with
   | al Τ af aX=>exact .al (by rw[<-J];exact Τ) af (by rw[<-γ];exact aX)
   | jB v Τ af=>exact .jB v (by rw[<-J];exact Τ) af
  ·intro h;cases h with
   | al Τ af aX=>exact .al (by rw[J];exact Τ) af (by rw[γ];exact aX)
   | jB v Τ af=>exact .jB v (by rw[J];exact Τ) af
 | ms id n i len=>
  have bW:=DV (ρ:=ρ) Ο
  have J:=Η.row _ _ bW
  have γ:=Η.blk _ _ bW;constructor
  ·intro h;cases h with
   | ms cap Τ af aX cr gH ib=>exact .ms cap (by rw[<-J];exact Τ) af (by rw[<-γ];exact aX) cr gH ib
   | iW v Τ af=>exact .iW v (by rw[<-J];exact Τ) af
  ·intro h;cases h with
   | ms cap Τ af aX cr gH ib=>exact .ms cap (by rw[J];exact Τ) af (by rw[γ];exact aX) cr gH ib
   | iW v Τ af=>exact .iW v (by rw[J];exact Τ) af
 | mp id=>
  have bW:=DV (ρ:=ρ) Ο
  have J:=Η.row _ _ bW
  have γ:=Η.blk _ _ bW;constructor
  ·intro h;cases h with
   | mp Τ af=>exact .mp (by rw[<-J];exact Τ) (by rw[<-γ];exact af)
   | lI v Τ=>exact .lI v (by rw[<-J];exact Τ)
  ·intro h;cases h with
   | mp Τ af=>exact .mp (by rw[J];exact Τ) (by rw[γ];exact af)
   | lI v Τ=>exact .lI v (by rw[J];exact Τ)
 | it id=>
  have bW:=DV (ρ:=ρ) Ο
  have J:=Η.row _ _ bW
  have γ:=Η.blk _ _ bW;constructor
  ·intro h;cases h with
   | it Τ af=>exact .it (by rw[<-J];exact Τ) (by rw[<-γ];exact af)
   | nk v Τ=>exact .nk v (by rw[<-J];exact Τ)
  ·intro h;cases h with
   | it Τ af=>exact .it (by rw[J];exact Τ) (by rw[γ];exact af)
   | nk v Τ=>exact .nk v (by rw[J];exact Τ)
 | _=>exact⟨λh=>h.any Ο _ _,λh=>h.any Ο _ _⟩
theorem DW {f:θ->θ} {l:List θ} {i:Nat} {a:θ} (h:(l.map f)[i]?=some a):∃b,l[i]?=some b/\a=f b:=by
 rw[List.getElem?_map] at h;cases U:l[i]? with
 | none=>rw[U] at h;cases h
 | some b=>rw[U] at h;cases h;exact⟨b,rfl,rfl⟩
theorem H5 (Η:Names ρ ek σ0 bO j5) {a:θ} {v:Value} (Ο:ga ρ.length a):ao S bO j5 (dM ρ a) v↔ao S ek σ0 a v:=by
 cases a with
 | fn f c5 cs=>
  constructor
  ·intro h;cases h with
   | fn vs ws Τ af aX cr=>
    refine .fn vs ws (by simpa using Τ) (by simpa using af) (λi a v hi hv=>?_) (λi a v hi hv=>?_)
    ·exact(kW Η (Ο.1 a (ck hi))).1 (aX i _ v (by rw[List.getElem?_map,hi];rfl) hv)
    ·exact(kW Η (Ο.2 a (ck hi))).1 (cr i _ v (by rw[List.getElem?_map,hi];rfl) hv)
  ·intro h;cases h with
   | fn vs ws Τ af aX cr=>
    refine .fn vs ws (by simpa using Τ) (by simpa using af) (λi a v hi hv=>?_) (λi a v hi hv=>?_)
    ·obtain⟨b,hb,rfl⟩:=DW hi;exact(kW Η (Ο.1 b (ck hb))).2 (aX i b v hb hv)
    ·obtain⟨b,hb,rfl⟩:=DW hi;exact(kW Η (Ο.2 b (ck hb))).2 (cr i b v hb hv)
 | aS l=>
  constructor
  ·intro h;cases h with
   | aS vs Τ af=>exact .aS vs (by simpa using Τ) λi a v hi hv=>(kW Η (Ο a (ck hi))).1 (af i _ v (by rw[List.getElem?_map,hi];rfl) hv)
  ·intro h;cases h with
   | aS vs Τ af=>
    refine .aS vs (by simpa using Τ) λi a v hi hv=>?_;obtain⟨b,hb,rfl⟩:=DW hi;exact(kW Η (Ο b (ck hb))).2 (af i b v hb hv)
 | bn l=>
  constructor
  ·intro h;cases h with
   | bn vs Τ af=>exact .bn vs (by simpa using Τ) λi a v hi hv=>(kW Η (Ο a (ck hi))).1 (af i _ v (by rw[List.getElem?_map,hi];rfl) hv)
  ·intro h;cases h with
   | bn vs Τ af=>
    refine .bn vs (by simpa using Τ) λi a v hi hv=>?_;obtain⟨b,hb,rfl⟩:=DW hi;exact(kW Η (Ο b (ck hb))).2 (af i b v hb hv)
 | z u=>exact kW (a:=.z u) Η Ο
 | Ψ l=>exact kW (a:=.Ψ l) Η Ο
 | sl ex k l=>exact kW (a:=.sl ex k l) Η Ο
 | al id n i j=>exact kW (a:=.al id n i j) Η Ο
 | ms id n i len=>exact kW (a:=.ms id n i len) Η Ο
 | fF t a=>exact kW (a:=.fF t a) Η Ο
 | mp id=>exact kW (a:=.mp id) Η Ο
 | it id=>exact kW (a:=.it id) Η Ο
 | cg=>exact kW (a:=.cg) Η Ο
end
section
variable {P:Program} {S ax:aB} {B:aR} {H H':Α} {σ:List Row}
def iG (r:Row):Prop:=match r with|.cells _ _ l=>∀e∈l,∀a∈e.cells,au 0 a|_=>False
def z' (r:Row):Prop:=iG r\/r=.dead
theorem jC.plain {B':aR} {σ':List Row} {r:Row} {bo:Option (Nat×Nat)} (ψ:iG r) (h:jC S B σ H r bo) (e3:aR) (gw:List Row):jC S e3 gw H r bo:=by
 cases r with
 | cells t k l=>
  cases bo with
  | none=>exact h
  | some x=>
   obtain⟨b,N⟩:=x;obtain⟨J,γ,π,w,Μ⟩:=h;refine⟨J,γ,π,w,λi e hi=>⟨(Μ i e hi).1,λj a ε=>?_⟩⟩;obtain⟨c1,c2,c3⟩:=(Μ i e hi).2 j a ε;exact⟨c1,c2.any (ψ e (ck hi) a (ck ε)) _ _,c3⟩
 | _=>exact ψ.elim
theorem jC.Xs {B':aR} {σ':List Row} {r:Row} {bo:Option (Nat×Nat)} (ψ:z' r) (h:jC S B σ H r bo) (e3:aR) (gw:List Row):jC S e3 gw H r bo:=by
 rcases ψ with ψ|rfl
 ·exact jC.plain (B':=B') (σ':=σ') ψ h e3 gw
 ·trivial
theorem Holds.N8 (Β:Holds S B σ H) {ρ:List Nat} {iH:List Row} (kv:ρ.Nodup) (hlen:ρ.length=iH.length) (br:∀(j i:Nat),ρ[j]?=some i->σ[i]?=iH[j]?) (gO:∀r∈iH,iG r)
  {ek:aR} {σ0:List Row} (he:Ext S (ρ.map λi=>B.getD i none) H ax ek H') (ω:b3 S ax (ρ.map λi=>B.getD i none) ek iH σ0) (ag:Holds ax ek σ0 H') (Xt:∀r∈σ0,z' r) :
  let j5:=ie σ ρ σ0++σ0.drop ρ.length
  let bO:=ie B ρ ek++ek.drop ρ.length
  Holds ax bO j5 H'/\Ext S B H ax bO H'/\b3 S ax B bO σ j5/\Names (ρ++(List.range (σ0.length-ρ.length)).map (σ.length + ·)) ek σ0 bO j5:=by
 intro j5 bO;have aD:∀i∈ρ,i<σ.length:=λi hi=>by
  obtain⟨j,ε⟩:=List.getElem?_of_mem hi;have gx:j<iH.length:=by rw[<-hlen];exact(b7.1 ε).1
  have:=br j i ε;rw[aW gx] at this;exact(b7.1 this).1
 have DX:∀i∈ρ,i<B.length:=λi hi=>by rw[Β.len];exact aD i hi
 have hle:ρ.length<=σ0.length:=by rw[hlen];exact ω.length
 have Xu:ek.length=σ0.length:=ag.len
 have DY:∀(j i:Nat),ρ[j]?=some i->(ρ.map λi=>B.getD i none)[j]?=B[i]?:=λj i ε=>by
  have hi:=DX i (ck ε);rw[List.getElem?_map,ε];simp[hi]
 have s1:∀(j i:Nat),ρ[j]?=some i->j5[i]?=σ0[j]?:=λj i ε=>by
  have hi:=aD i (ck ε)
  have gx:j<σ0.length:=by have:=(b7.1 ε).1;omega
  show(ie σ ρ σ0++_)[i]?=_;rw[dB (by rw[sP];exact hi),aW gx];exact N7 ρ σ σ0 kv aD j i _ ε (aW gx)
 have bG:∀(j i:Nat),ρ[j]?=some i->bO[i]?=ek[j]?:=λj i ε=>by
  have hi:=DX i (ck ε)
  have gx:j<ek.length:=by have:=(b7.1 ε).1;omega
  show(ie B ρ ek++_)[i]?=_;rw[dB (by rw[sP];exact hi),aW gx];exact N7 ρ B ek kv DX j i _ ε (aW gx)
 have s2:∀i,i<σ.length->i∉ρ->j5[i]?=σ[i]?:=λi hi Η=>by
  show(ie σ ρ σ0++_)[i]?=_;rw[dB (by rw[sP];exact hi),H4 ρ _ _ Η]
 have dj:∀i,i<σ.length->i∉ρ->bO[i]?=B[i]?:=λi hi Η=>by
  show(ie B ρ ek++_)[i]?=_;rw[dB (by rw[sP,Β.len];exact hi),H4 ρ _ _ Η]
 have oK:∀x,j5[σ.length+x]?=σ0[ρ.length+x]?:=λx=>by
  show(ie σ ρ σ0++_)[_]?=_;rw[fS (by rw[sP];omega),sP,List.getElem?_drop];congr 1;omega
 have fT:∀x,bO[σ.length+x]?=ek[ρ.length+x]?:=λx=>by
  show(ie B ρ ek++_)[_]?=_;rw[fS (by rw[sP,Β.len];omega),sP,Β.len,List.getElem?_drop];congr 1;omega
 have Aa:∀(i:Nat) (r:Row),j5[i]?=some r->(i<σ.length/\i∉ρ/\σ[i]?=some r/\bO[i]?=B[i]?)\/∃j,σ0[j]?=some r/\bO[i]?=ek[j]?/\(∀ey bH,(ey<σ.length->ρ[bH]?=some ey)->(¬ey<σ.length->bH=ρ.length+(ey-σ.length))->j=bH->i=ey)/\((i<σ.length->ρ[j]?=some i)/\(¬i<σ.length->j=ρ.length+(i-σ.length))):=λi r μ=>by
  by_cases hi:i<σ.length
  ·by_cases Η:i∈ρ
   ·obtain⟨j,ε⟩:=List.getElem?_of_mem Η;refine .inr ⟨j,by rw[<-s1 j i ε];exact μ,bG j i ε,λey bH J γ e=>?_,λ_=>ε,λh=>absurd hi h⟩;subst e;by_cases a9:ey<σ.length
    ·have:=J a9;rw[ε] at this;cases this;rfl
    ·have:=γ a9;have:=(b7.1 ε).1;omega
   ·exact .inl ⟨hi,Η,by rw[<-s2 i hi Η];exact μ,dj i hi Η⟩
  ·have e:i=σ.length+(i-σ.length):=by omega
   refine .inr ⟨ρ.length+(i-σ.length),by rw[<-oK,<-e];exact μ,by rw[<-fT,<-e],λey bH J γ aJ=>?_,λh=>absurd h hi,λ_=>rfl⟩;by_cases a9:ey<σ.length
   ·have:=(b7.1 (J a9)).1;omega
   ·have:=γ a9;omega
 have N9:bO.length=j5.length:=by
  show(ie B ρ ek++ek.drop ρ.length).length=(ie σ ρ σ0++σ0.drop ρ.length).length;simp[sP,Β.len,Xu]
 have DZ:b3 S ax B bO σ j5:=⟨he.dd,λid r μ=>by
  have hi:=(b7.1 μ).1;by_cases Η:id∈ρ
  ·obtain⟨j,ε⟩:=List.getElem?_of_mem Η;have fa:iH[j]?=some r:=by rw[<-br j id ε];exact μ
   obtain⟨r',Τ,af⟩:=ω.rows j r fa;exact⟨r',by rw[s1 j id ε];exact Τ,by rw[bG j id ε,<-DY j id ε];exact af⟩
  ·exact⟨r,by rw[s2 id hi Η];exact μ,by rw[dj id hi Η];exact r.tN _⟩⟩
 have D1:∀b,aR.has (ρ.map λi=>B.getD i none) b->∃j i N,ρ[j]?=some i/\B[i]?=some (some (b,N)):=λb ⟨N,b8⟩=>by
  obtain⟨j,ε⟩:=List.getElem?_of_mem b8;rw[List.getElem?_map] at ε;cases U:ρ[j]? with
  | none=>rw[U] at ε;cases ε
  | some i=>
   rw[U] at ε;simp only[Option.map_some,Option.some.injEq] at ε;have hi:=DX i (ck U);rw[List.getD_eq_getElem?_getD,aW hi] at ε;exact⟨j,i,N,U,by rw[aW hi];simpa using ε⟩
 have N':∀(j i:Nat),ρ[j]?=some i->∃r,σ[i]?=some r/\r.live/\iG r:=λj i ε=>by
  have gx:j<iH.length:=by rw[<-hlen];exact(b7.1 ε).1
  have μ:=aW gx
  have ψ:=gO _ (ck μ);refine⟨_,by rw[br j i ε];exact μ,?_,ψ⟩;cases U:iH[j]<;>rw[U] at ψ<;>first|trivial|exact ψ.elim
 have D2:∀(id:Nat) (r:Row) (b N:Nat),id∉ρ->σ[id]?=some r->r.live->B[id]?=some (some (b,N))->¬aR.has (ρ.map λi=>B.getD i none) b/\¬H.fresh b/\ks H H' b:=λid r b N Η μ fc hb=>by
  have c1:¬aR.has (ρ.map λi=>B.getD i none) b:=λaU=>by
   obtain⟨j,i,eP,J,γ⟩:=D1 b aU;obtain⟨r',Τ,af,_⟩:=N' j i J;exact Β.inj id i r r' b N eP (λe=>Η (e▸ck J)) μ Τ fc af hb γ
  have c2:=Β.n6 μ fc hb;exact⟨c1,c2,(he.fD b c1 c2).su λo=>Β.sep id r b N μ fc hb o⟩
 refine⟨⟨ag.dd,N9,λi r bo μ ez=>?_,λi j ec b' b gF gG e0 hi ε hl d' hn cN=>?_,λi r b N μ fc hb o=>?_⟩,⟨he.dd,λb hb Φ=>?_,λb hb=>?_,λb o v hv=>?_,he.grow⟩,DZ,⟨λj i ε=>?_,λj i ε=>?_⟩⟩
 ·rcases Aa i r μ with⟨Τ,af,aX,cr⟩|⟨j,Τ,af,_,_⟩
  ·by_cases fc:r.live
   ·rw[cr] at ez;refine(Β.row i r bo aX ez).later DZ (λb N e=>(D2 i r b N af aX fc (by rw[ez,e])).2.2) λcK left cur e=>?_;subst e;obtain⟨_,_,aT,kN,xs,clock,seen,_,Ζ,⟨es,Ε⟩,_⟩:=Β.row i _ bo aX ez;have mr:cK∉ρ:=λhm=>by
     obtain⟨j,ε⟩:=List.getElem?_of_mem hm;obtain⟨r',eR,_,iE⟩:=N' j cK ε;rw[Ε] at eR;cases eR;exact iE
    have H6:=(b7.1 Ε).1;exact⟨s2 cK H6 mr,dj cK H6 mr,λb N hb=>(D2 cK _ b N mr Ε trivial hb).2.2⟩
   ·cases r<;>first|exact absurd trivial fc|trivial
  ·rw[af] at ez;exact(ag.row j r bo Τ ez).Xs (B':=bO) (σ':=j5) (Xt r (ck Τ)) _ _
 ·have zD:∀(i:Nat) (ec:Row) (gF:Nat) (bH:Nat) (b':Row) (gG:Nat),i∉ρ->σ[i]?=some ec->ec.live->B[i]?=some (some (b,gF))->σ0[bH]?=some b'->b'.live->ek[bH]?=some (some (b,gG))->False:=λi ec gF bH b' gG J γ π Μ aA bc gK=>by
   obtain⟨c1,c2,_⟩:=D2 i ec b gF J γ π Μ;rcases he.blocks b (oY gK) with h|h
   ·exact c1 h
   ·exact c2 h
  rcases Aa i ec hi with⟨Τ,af,aX,cr⟩|⟨i0,Τ,af,aX,cr⟩<;>rcases Aa j b' ε with⟨k1,cC,rn,Ab⟩|⟨H7,k1,cC,rn,Ab⟩
  ·rw[cr] at hn;rw[Ab] at cN;exact Β.inj i j ec b' b gF gG e0 aX rn hl d' hn cN
  ·rw[cr] at hn;rw[cC] at cN;exact zD i ec gF H7 b' gG af aX hl hn k1 d' cN
  ·rw[af] at hn;rw[Ab] at cN;exact zD j b' gG i0 ec gF cC rn d' cN Τ hl hn
  ·rw[af] at hn;rw[cC] at cN;refine ag.inj i0 H7 ec b' b gF gG (λe=>e0 ?_) Τ k1 hl d' hn cN;exact aX j H7 Ab.1 Ab.2 e
 ·rcases Aa i r μ with⟨Τ,af,aX,cr⟩|⟨j,Τ,af,_,_⟩
  ·rw[cr] at hb;obtain⟨c1,c2,_⟩:=D2 i r b N af aX fc hb;cases hv:ax b o with
   | none=>rfl
   | some v=>
    rcases he.q3 b o v hv with h|h|h
    ·rw[Β.sep i r b N aX fc hb o] at h;cases h
    ·exact absurd h c1
    ·exact absurd h c2
  ·rw[af] at hb;exact ag.sep j r b N Τ fc hb o
 ·refine he.fD b (λaU=>hb ?_) Φ;obtain⟨j,i,eP,_,γ⟩:=D1 b aU;exact oY γ
 ·obtain⟨N,b8⟩:=hb;obtain⟨i,hi⟩:=List.getElem?_of_mem b8;have mJ:i<j5.length:=by rw[<-N9];exact(b7.1 hi).1
  rcases Aa i _ (aW mJ) with⟨Τ,af,aX,cr⟩|⟨j,Τ,af,_,_⟩
  ·rw[cr] at hi;exact .inl (oY hi)
  ·rw[af] at hi;rcases he.blocks b (oY hi) with h|h
   ·obtain⟨j,ey,eP,_,γ⟩:=D1 b h;exact .inl (oY γ)
   ·exact .inr h
 ·rcases he.q3 b o v hv with h|h|h
  ·exact .inl h
  ·obtain⟨j,ey,eP,_,γ⟩:=D1 b h;exact .inr (.inl (oY γ))
  ·exact .inr (.inr h)
 ·by_cases gx:j<ρ.length
  ·rw[dB gx] at ε;exact s1 j i ε
  ·rw[fS (by omega),List.getElem?_map] at ε;have vI:j-ρ.length<σ0.length-ρ.length:=by
    apply Classical.byContradiction;intro Η;rw[List.getElem?_eq_none (by simp;omega)] at ε;cases ε
   rw[aW (by simpa using vI)] at ε;simp at ε;subst ε;rw[oK];congr 1;omega
 ·by_cases gx:j<ρ.length
  ·rw[dB gx] at ε;exact bG j i ε
  ·rw[fS (by omega),List.getElem?_map] at ε;have vI:j-ρ.length<σ0.length-ρ.length:=by
    apply Classical.byContradiction;intro Η;rw[List.getElem?_eq_none (by simp;omega)] at ε;cases ε
   rw[aW (by simpa using vI)] at ε;simp at ε;subst ε;rw[fT];congr 1;omega
def names (ρ:List Nat) (n:Nat) (σ0:List Row):List Nat:=ρ++(List.range (σ0.length-ρ.length)).map (n + ·)
def qd (σ:List Row) (ρ:List Nat) (σ0:List Row):List Row:=ie σ ρ σ0++σ0.drop ρ.length
theorem ak.H8 {g:FuncId} {as0:List θ} {iH:List Row} {K:θ->List Row->Prop} {E:θ->List Row->Prop} (h:ak P g as0 iH K E) (ρ:List Nat) (kv:ρ.Nodup) (hlen:ρ.length=iH.length) (br:∀(j i:Nat),ρ[j]?=some i->σ[i]?=iH[j]?) (gO:∀r∈iH,iG r)
  (has:∀a∈as0,ga ρ.length a) {K':θ->List Row->Prop} {E':θ->List Row->Prop} (I:∀a s,K a s->(∀r∈s,z' r)/\ga s.length a/\K' (dM (names ρ σ.length s) a) (qd σ ρ s))
  (c9:∀a s,E a s->(∀r∈s,z' r)/\ga s.length a/\E' (dM (names ρ σ.length s) a) (qd σ ρ s)):ak P g (as0.map (dM ρ)) σ K' E':=by
 refine⟨h.1,λQ mn x c rest S B H vs U Β hv lO=>?_⟩;have aD:∀(j i:Nat),ρ[j]?=some i->i<σ.length:=λj i ε=>by
  have gx:j<iH.length:=by rw[<-hlen];exact(b7.1 ε).1
  have:=br j i ε;rw[aW gx] at this;exact(b7.1 this).1
 have DY:∀(j i:Nat),ρ[j]?=some i->(ρ.map λi=>B.getD i none)[j]?=B[i]?:=λj i ε=>by
  have hi:i<B.length:=by rw[Β.len];exact aD j i ε
  rw[List.getElem?_map,ε];simp[hi]
 have kS:Names ρ (ρ.map λi=>B.getD i none) iH B σ:=⟨br,λj i ε=>(DY j i ε).symm⟩
 have pick:∀(j:Nat) (r:Row) (bo:Option (Nat×Nat)),iH[j]?=some r->(ρ.map λi=>B.getD i none)[j]?=some bo->∃i,ρ[j]?=some i/\σ[i]?=some r/\B[i]?=some bo:=λj r bo μ ez=>by
  have gx:j<ρ.length:=by rw[hlen];exact(b7.1 μ).1
  have ε:=aW gx;exact⟨_,ε,by rw[br j _ ε];exact μ,by rw[<-DY j _ ε];exact ez⟩
 have Xv:Holds S (ρ.map λi=>B.getD i none) iH H:=by
  refine⟨Β.dd,by simp[hlen],λj r bo μ ez=>?_,λi j ec b' b gF gG e0 hi ε hl d' hn cN=>?_,λj r b N μ fc hb o=>?_⟩
  ·obtain⟨i,J,γ,π⟩:=pick j r bo μ ez;exact(Β.row i r bo γ π).plain (B':=B) (σ':=σ) (gO r (ck μ)) _ _
  ·obtain⟨ey,J,γ,π⟩:=pick i ec _ hi hn;obtain⟨bH,Τ,af,aX⟩:=pick j b' _ ε cN;refine Β.inj ey bH ec b' b gF gG (λe=>e0 ?_) γ af hl d' π aX;subst e;have iC:=(b7.1 J).1;exact(List.getElem?_inj iC kv).1 (J.trans Τ.symm)
  ·obtain⟨i,J,γ,π⟩:=pick j r _ μ hb;exact Β.sep i r b N γ fc π o
 refine h.2 Q mn x c rest S _ H vs U Xv ⟨by have:=hv.1;simpa using this,λi a v J γ=>(H5 kS (has a (ck J))).1 (hv.2 i _ v (by rw[List.getElem?_map,J];rfl) γ)⟩ ⟨λa σ' ax B' H' v χ he ω iY μ=>?_,λa σ' ax B' H' v χ he ω iY μ=>?_⟩
 ·obtain⟨eR,ew,iE⟩:=I a σ' χ;obtain⟨dH,p2,p3,p4⟩:=Β.N8 kv hlen br gO he ω iY eR;refine lO.ret _ _ ax _ H' v iE p2 p3 dH ((H5 p4 ?_).2 μ);have:(ρ++(List.range (σ'.length-ρ.length)).map (σ.length + ·)).length=σ'.length:=by
   have:=ω.length;simp;omega
  rw[this];exact ew
 ·obtain⟨eR,ew,iE⟩:=c9 a σ' χ;obtain⟨dH,p2,p3,p4⟩:=Β.N8 kv hlen br gO he ω iY eR;refine lO.xS _ _ ax _ H' v iE p2 p3 dH ((H5 p4 ?_).2 μ);have:(ρ++(List.range (σ'.length-ρ.length)).map (σ.length + ·)).length=σ'.length:=by
   have:=ω.length;simp;omega
  rw[this];exact ew
theorem ak.rows {g:FuncId} {as0:List θ} {iH:List Row} {K:θ->List Row->Prop} {E:θ->List Row->Prop} (h:ak P g as0 iH K E) (ρ:List Nat) (kv:ρ.Nodup) (hlen:ρ.length=iH.length) (br:∀(j i:Nat),ρ[j]?=some i->σ[i]?=iH[j]?) (gO:∀r∈iH,iG r)
  (has:∀a∈as0,ga ρ.length a) {K':θ->List Row->Prop} {E':θ->List Row->Prop} (I:∀a s,K a s->(∀r∈s,iG r)/\ga s.length a/\K' (dM (names ρ σ.length s) a) (qd σ ρ s))
  (c9:∀a s,E a s->(∀r∈s,iG r)/\ga s.length a/\E' (dM (names ρ σ.length s) a) (qd σ ρ s)):ak P g (as0.map (dM ρ)) σ K' E':=
 h.H8 ρ kv hlen br gO has (λa s x=>let ⟨p,q⟩:=I a s x;⟨λr μ=>.inl (p r μ),q⟩) (λa s x=>let ⟨p,q⟩:=c9 a s x;⟨λr μ=>.inl (p r μ),q⟩)
end
end Go.TL
