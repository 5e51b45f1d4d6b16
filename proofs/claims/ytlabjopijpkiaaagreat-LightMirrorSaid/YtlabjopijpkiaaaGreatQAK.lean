import Derived.Test.YtlabjopijpkiaaaGreatQAJ
set_option maxHeartbeats 16000000
set_option maxRecDepth 20000
set_option linter.unusedSectionVars false
set_option linter.unusedSimpArgs false
set_option linter.unusedVariables false
namespace Go.TL
open Go.Conc
variable [bh]
def x4 (ops:Array Oper) (o:Oper):List Tmp:=
 (o.op.operands.toList.filterMap fun|.tmp t=>some t|_=>none)++(match o.guard with|some (g,_)=>((ops[g]?).bind (·.dst)).toList|none=>[])
def gq (o:Oper):List Nat:=(o.after.toList.filter (Region.binds .any)).map (·.on)
def x5:List Oper->List (List Nat)->List (List Nat)
 | [],acc=>acc
 | o::os,acc=>x5 os (acc++[gq o++(gq o).flatMap λj=>acc.getD j []])
def Bq (ops:Array Oper):List (List Nat):=x5 ops.toList []
def lj (o:Oper):Bool:=match o.op with
 | .load _ _=>true
 | .indexAddr _ _ _=>true
 | .fieldAddr _ _ _=>true
 | .nilCheck _=>true
 | _=>false
def clash (ops:Array Oper) (tags:List Bool) (i j:Nat) (l8 bI:Oper):Bool:=
 (match bI.dst with|some d=>(x4 ops l8).contains d||l8.dst==some d|none=>false)||(match l8.dst with|some d=>(x4 ops bI).contains d|none=>false)||(tags.getD i false&&tags.getD j false&&!(lj l8&&lj bI))
def jU (ops:Array Oper) (tags:List Bool):Bool:=
 let b:=Bq ops
 (List.range ops.size).all λi=>match ops[i]? with
  | none=>false
  | some l8=>(gq l8).all (λj=>decide (j<i))&&(List.range i).all λj=>match ops[j]? with
   | none=>false
   | some bI=>!clash ops tags i j l8 bI||(b.getD i []).contains j
section
variable {P:Program} {T:aZ} {A:List Nat} {m nt:Nat} {k:List Item} {env:Φ} {σ:List Row} {Z:List Item->Φ->List Row->Prop} {E:ζ->Φ->List Row->Prop} {ops:Array Oper}
theorem W.congr {env':Φ} (h:∀i,aW env' i=aW env i) (hW:W P m nt k env σ Z E):W P m nt k env' σ Z E:=
 λQ mn x cs b S B H t U hb χ Ν he=>hW Q mn x cs b S B H t U hb ⟨χ.holds,λi=>by rw[<-h i];exact χ.b7 i,χ.size,χ.rows⟩ Ν he
theorem J1 (rJ:Region.Mode):∀(fuel t:Nat) (listed:Array Bool) (i:Nat),Region.linearise.go rJ ops fuel t listed [i]=i::Region.linearise.go rJ ops fuel t listed []:=by
 have gen:∀(fuel t:Nat) (listed:Array Bool) (acc:List Nat),Region.linearise.go rJ ops fuel t listed acc=acc.reverse++Region.linearise.go rJ ops fuel t listed []:=by
  intro fuel
  induction fuel with
  | zero=>intro t listed acc;simp[Region.linearise.go]
  | succ fuel Γ=>
   intro t listed acc;simp only[Region.linearise.go];split
   ·rename_i i _;rw[Γ _ _ (i::acc),Γ _ _ [i]];simp
   ·simp
 intro fuel t listed i;rw[gen];rfl
theorem Br (qS:∀i o,ops[i]?=some o->∀j∈gq o,j<i) (D:Nat->Prop) (dQ:∀i o,ops[i]?=some o->D i->∀j∈gq o,D j) :
  ∀(i:Nat) (o:Oper),ops[i]?=some o->(∀j∈gq o,D j)->∀j∈(Bq ops).getD i [],D j:=by
 have key:∀(os:List Oper) (acc:List (List Nat)),(∀x,os[x]?=ops[acc.length+x]?)->(∀i o,i<acc.length->ops[i]?=some o->(∀j∈gq o,D j)->∀j∈acc.getD i [],D j)->
   ∀i o,i<acc.length+os.length->ops[i]?=some o->(∀j∈gq o,D j)->∀j∈(x5 os acc).getD i [],D j:=by
  intro os
  induction os with
  | nil=>intro acc _ h i o hi;exact h i o (by simpa using hi)
  | cons q os Γ=>
   intro acc Bs h i o hi ω he;have Ψ:ops[acc.length]?=some q:=by have:=Bs 0;simpa using this.symm
   refine Γ (acc++[gq q++(gq q).flatMap λj=>acc.getD j []]) (λx=>?_) (λi o hi ω he=>?_) i o (by simp at hi ⊢;omega) ω he
   ·have:=Bs (x+1);simp only[List.getElem?_cons_succ] at this;rw[this];simp;congr 1;omega
   ·by_cases ar:i<acc.length
    ·rw[List.getD_eq_getElem?_getD,dW ar,<-List.getD_eq_getElem?_getD];exact h i o ar ω he
    ·have dj:i=acc.length:=by simp at hi;omega
     subst dj;rw[Ψ] at ω;cases ω;rw[List.getD_eq_getElem?_getD,ha (Nat.le_refl _)];simp only[Nat.sub_self,List.getElem?_cons_zero,Option.getD_some,List.mem_append,List.mem_flatMap];rintro j (γ|⟨y,ad,γ⟩)
     ·exact he j γ
     ·have Sq:=qS _ _ Ψ y ad
      have Sr:y<ops.size:=by have:=(Array.getElem?_eq_some_iff.1 Ψ).1;omega
      have J2:ops[y]?=some ops[y]:=eM Sr;exact h y _ Sq J2 (dQ y _ J2 (he y ad)) j γ
 intro i o ω he;exact key ops.toList [] (λx=>by simp) (λi o hi=>by simp at hi) i o (by have:=(Array.getElem?_eq_some_iff.1 ω).1;simpa using this) ω he
def ny (ops:Array Oper) (o:Oper) (env env':Φ):Prop:=∀t∈x4 ops o,aW env' t=aW env t
def vw (P:Program) (m nt:Nat) (k:List Item) (Z:List Item->Φ->List Row->Prop) (E:ζ->Φ->List Row->Prop) (ops:Array Oper) (i:Nat) (o:Oper) (env:Φ) (a:ζ):Prop:=
 ∀env' σ' rest,ny ops o env env'->W P m nt (.inRegion ops rest::k) (bX o env' a) σ' Z E->W P m nt (.inRegion ops (i::rest)::k) env' σ' Z E
def Fa (P:Program) (m nt:Nat) (k:List Item) (Z:List Item->Φ->List Row->Prop) (E:ζ->Φ->List Row->Prop) (ops:Array Oper) (i:Nat) (o:Oper) (env:Φ) (σ:List Row) (a:ζ) (fG:List Row):Prop:=
 ∀env' rest,ny ops o env env'->W P m nt (.inRegion ops rest::k) (bX o env' a) fG Z E->W P m nt (.inRegion ops (i::rest)::k) env' σ Z E
def cQ (ops:Array Oper) (env0:Φ) (as9:Nat->ζ) (D:Nat->Bool):Nat->Φ
 | 0=>env0
 | n+1=>if D n then(match ops[n]? with|some o=>bX o (cQ ops env0 as9 D n) (as9 n)|none=>cQ ops env0 as9 D n) else cQ ops env0 as9 D n
theorem tG {o:Oper} {env:Φ} {a:ζ} {t:Nat}:aW (bX o env a) t=if o.dst=some t then a else aW env t:=by
 unfold bX;cases hd:o.dst with
 | none=>simp
 | some d=>simp[aW]
theorem vx {env0:Φ} {as9:Nat->ζ} {D x6:Nat->Bool} {t:Nat}:∀(n:Nat),(∀i o,i<n->ops[i]?=some o->o.dst=some t->D i=x6 i)->aW (cQ ops env0 as9 D n) t=aW (cQ ops env0 as9 x6 n) t:=by
 intro n
 induction n with
 | zero=>intro _;rfl
 | succ n Γ=>
  intro h;have tH:=Γ λi o hi=>h i o (by omega);simp only[cQ];cases ω:ops[n]? with
  | none=>cases D n<;>cases x6 n<;>simpa using tH
  | some o=>
   by_cases hd:o.dst=some t
   ·rw[h n o (Nat.lt_succ_self n) ω hd];cases x6 n
    ·simpa using tH
    ·simp[tG,hd]
   ·cases D n<;>cases x6 n<;>simp[tG,hd,tH]
theorem Bt {env0:Φ} {as9:Nat->ζ} {D:Nat->Bool} {t:Nat} {n N:Nat} (Ι:n<=N) (h:∀i o,n<=i->i<N->ops[i]?=some o->o.dst=some t->D i=false):aW (cQ ops env0 as9 D N) t=aW (cQ ops env0 as9 D n) t:=by
 induction N with
 | zero=>have:n=0:=by omega
         subst this;rfl
 | succ N Γ=>
  by_cases e:n=N+1
  ·subst e;rfl
  ·have tH:=Γ (by omega) λi o J R=>h i o J (by omega);simp only[cQ];cases dQ:D N
   ·simpa using tH
   ·cases ω:ops[N]? with
    | none=>simpa using tH
    | some o=>
     have hd:o.dst≠some t:=λhd=>by rw[h N o (by omega) (Nat.lt_succ_self N) ω hd] at dQ;cases dQ
     simp[tG,hd,tH]
def writer (ops:Array Oper) (tags:List Bool) (i:Nat):Bool:=tags.getD i false&&match ops[i]? with|some o=>!lj o|none=>true
theorem W.Ss {as9:Nat->ζ} {σs:Nat->List Row} {tags:List Bool} {env0:Φ} (dx:jU ops tags=true)
  (k5:∀i o,ops[i]?=some o->tags.getD i false=false->vw P m nt k Z E ops i o (cQ ops env0 as9 (λ_=>true) i) (as9 i)/\σs (i+1)=σs i)
  (gT:∀i o,ops[i]?=some o->tags.getD i false=true->Fa P m nt k Z E ops i o (cQ ops env0 as9 (λ_=>true) i) (σs i) (as9 i) (σs (i+1))/\(lj o=true->σs (i+1)=σs i))
  (Fb:W P m nt (.inRegion ops []::k) (cQ ops env0 as9 (λ_=>true) ops.size) (σs ops.size) Z E) :
  ∀(fuel:Nat) (t:Nat) (listed:Array Bool) (env:Φ) (cJ:Nat),listed.size=ops.size->
   (∀i,aW env i=aW (cQ ops env0 as9 (λi=>listed.getD i false) ops.size) i)->
   (∀i o,ops[i]?=some o->listed.getD i false=true->∀j∈gq o,listed.getD j false=true)->
   cJ<=ops.size->(∀j,j<ops.size->writer ops tags j=true->(listed.getD j false=true↔j<cJ))->
   ((List.range ops.size).filter λi=>!listed.getD i false).length<=fuel->
   W P m nt (.inRegion ops (Region.linearise.go .any ops fuel t listed [])::k) env (σs cJ) Z E:=by
 have tI:∀i o,ops[i]?=some o->(∀j∈gq o,j<i)/\∀j bI,j<i->ops[j]?=some bI->clash ops tags i j o bI=true->j∈(Bq ops).getD i []:=by
  intro i o ω;have hi:i<ops.size:=(Array.getElem?_eq_some_iff.1 ω).1;unfold jU at dx;simp only[List.all_eq_true,List.mem_range] at dx;have h:=dx i hi;rw[ω] at h;simp only[Bool.and_eq_true,List.all_eq_true,decide_eq_true_eq,List.mem_range] at h;refine⟨h.1,λj bI γ de η=>?_⟩;have R:=h.2 j γ;rw[de] at R;simp only[η,Bool.not_true,Bool.false_or,List.contains_iff_mem] at R;exact R
 have qS:∀i o,ops[i]?=some o->∀j∈gq o,j<i:=λi o ω=>(tI i o ω).1
 have Bu:∀i o,ops[i]?=some o->writer ops tags i=false->σs (i+1)=σs i:=λi o ω hw=>by
  cases Η:tags.getD i false with
  | false=>exact(k5 i o ω Η).2
  | true=>
   refine(gT i o ω Η).2 ?_;unfold writer at hw;rw[Η,ω] at hw;simpa using hw
 have x7:∀(d a:Nat),a+d<=ops.size->(∀j,a<=j->j<a+d->writer ops tags j=false)->σs (a+d)=σs a:=by
  intro d
  induction d with
  | zero=>intro a _ _;rfl
  | succ d Γ=>
   intro a hle h;have J:ops[a+d]?=some ops[a+d]:=eM (by omega);have:=Bu (a+d) _ J (h (a+d) (by omega) (by omega));rw[show a+(d+1)=a+d+1 by omega,this];exact Γ a (by omega) λj J R=>h j J (by omega)
 have J3:∀a b,a<=ops.size->b<=ops.size->(∀j,j<ops.size->writer ops tags j=true->(j<a↔j<b))->σs a=σs b:=λa b κ hb h=>by
  rcases Nat.le_total a b with hle|hle
  ·have:=x7 (b-a) a (by omega) λj J R=>by
    cases Η:writer ops tags j with
    | false=>rfl
    | true=>have:=(h j (by omega) Η).2 (by omega);omega
   rw[show a+(b-a)=b by omega] at this;exact this.symm
  ·have:=x7 (a-b) b (by omega) λj J R=>by
    cases Η:writer ops tags j with
    | false=>rfl
    | true=>have:=(h j (by omega) Η).1 (by omega);omega
   rw[show b+(a-b)=a by omega] at this;exact this
 intro fuel;have done:∀(t:Nat) (listed:Array Bool) (env:Φ) (cJ:Nat),(∀i,i<ops.size->listed.getD i false=true)->(∀i,aW env i=aW (cQ ops env0 as9 (λi=>listed.getD i false) ops.size) i)->cJ<=ops.size->
   (∀j,j<ops.size->writer ops tags j=true->(listed.getD j false=true↔j<cJ))->W P m nt (.inRegion ops []::k) env (σs cJ) Z E:=λt listed env cJ gX cq jV hx=>by
  have Δ:σs cJ=σs ops.size:=J3 cJ ops.size jV (Nat.le_refl _) λj γ Η=>by rw[<-hx j γ Η];simp[gX j γ,γ]
  rw[Δ];refine .congr (λi=>?_) Fb;rw[cq i];exact vx ops.size λi o hi _ _=>gX i hi
 have Fc:∀listed:Array Bool,listed.size=ops.size->(∃i,i<ops.size/\listed.getD i false=false)->∃i,i<ops.size/\listed.getD i false=false/\∀j,j<i->listed.getD j false=true:=λlisted b2 ⟨i,hi,Β⟩=>by
  induction i using Nat.strongRecOn with
  | _ i Γ=>
   by_cases γ:∃j,j<i/\listed.getD j false=false
   ·obtain⟨j,J,R⟩:=γ;exact Γ j J (by omega) R
   ·exact⟨i,hi,Β,λj dE=>by
     cases h:listed.getD j false with
     | true=>rfl
     | false=>exact absurd ⟨j,dE,h⟩ γ⟩
 induction fuel with
 | zero=>
  intro t listed env cJ b2 cq b3 jV hx Fe;have gX:∀i,i<ops.size->listed.getD i false=true:=λi hi=>by
   cases h:listed.getD i false with
   | true=>rfl
   | false=>
    have jR:i∈(List.range ops.size).filter λi=>!listed.getD i false:=by rw[List.mem_filter];exact⟨List.mem_range.2 hi,by rw[h];rfl⟩
    have:((List.range ops.size).filter λi=>!listed.getD i false)=[]:=dk.1 (by omega);rw[this] at jR;simp at jR
  exact done t listed env cJ gX cq jV hx
 | succ fuel Γ=>
  intro t listed env cJ b2 cq b3 jV hx Fe;simp only[Region.linearise.go];generalize iV:((List.range ops.size).filter λi=>!listed.getD i true&&((ops[i]?).map (·.after.all λe=>!Region.binds .any e||listed.getD e.on false)).getD false)=rs;have x8:∀i,i<ops.size->listed.getD i true=listed.getD i false:=λi hi=>by
   rw[Array.getD_eq_getD_getElem?,Array.getD_eq_getD_getElem?,eM (by omega)];rfl
  have x9:∀i,i∈rs↔i<ops.size/\listed.getD i false=false/\∀o,ops[i]?=some o->∀j∈gq o,listed.getD j false=true:=λi=>by
   rw[<-iV];simp only[List.mem_filter,List.mem_range,Bool.and_eq_true,Bool.not_eq_true'];constructor
   ·rintro⟨J,R,ς⟩;rw[x8 i J] at R;refine⟨J,R,λo ω j γ=>?_⟩;rw[ω] at ς;simp only[Option.map_some,Option.getD_some,Array.all_eq_true'] at ς;unfold gq at γ;simp only[List.mem_map,List.mem_filter] at γ;obtain⟨e,⟨Ff,pE⟩,rfl⟩:=γ;have:=ς e (by simpa using Ff);simpa[pE] using this
   ·rintro⟨J,R,ς⟩;refine⟨J,by rw[x8 i J];exact R,?_⟩;have ω:ops[i]?=some ops[i]:=eM J;rw[ω];simp only[Option.map_some,Option.getD_some,Array.all_eq_true'];intro e he;by_cases hb:Region.binds .any e=true
    ·have:=ς _ ω e.on (by unfold gq;simp only[List.mem_map,List.mem_filter];exact⟨e,⟨by simpa using he,hb⟩,rfl⟩);simp[this]
    ·simp[hb]
  cases hi:rs[t % rs.length]? with
  | none=>
   simp only[List.reverse_nil];have xm:rs=[]:=by
    cases ι:rs with
    | nil=>rfl
    | cons x xs=>
     rw[ι] at hi;have ar:t % (x::xs).length<(x::xs).length:=Nat.mod_lt _ (by simp);rw[aX ar] at hi;cases hi
   have gX:∀i,i<ops.size->listed.getD i false=true:=λi dj=>by
    cases h:listed.getD i false with
    | true=>rfl
    | false=>
     obtain⟨r,J,R,ς⟩:=Fc listed b2 ⟨i,dj,h⟩;have:r∈rs:=(x9 r).2 ⟨J,R,λo ω j γ=>ς j (qS r o ω j γ)⟩;rw[xm] at this;simp at this
   exact done t listed env cJ gX cq jV hx
  | some i=>
   simp only;rw[J1];have jR:i∈rs:=cf hi;obtain⟨J,R,ς⟩:=(x9 i).1 jR;have ω:ops[i]?=some ops[i]:=eM J;have Fg:=Br qS (λj=>listed.getD j false=true) (λj o γ Β=>b3 j o γ Β) i _ ω (ς _ ω);have low:∀j bI,j<i->ops[j]?=some bI->clash ops tags i j ops[i] bI=true->listed.getD j false=true:=λj bI γ de η=>Fg j ((tI i _ ω).2 j bI γ de η);have high:∀j bI,i<j->ops[j]?=some bI->clash ops tags j i bI ops[i]=true->listed.getD j false=false:=λj bI γ de η=>by
    cases Β:listed.getD j false with
    | false=>rfl
    | true=>
     have:=Br qS (λj=>listed.getD j false=true) (λj o γ Β=>b3 j o γ Β) j bI de (b3 j bI de Β) i ((tI j bI de).2 i _ γ ω η);rw[R] at this;cases this
   have same:ny ops ops[i] (cQ ops env0 as9 (λ_=>true) i) env:=λx U=>by
    rw[cq x];have c1:aW (cQ ops env0 as9 (λi=>listed.getD i false) ops.size) x=aW (cQ ops env0 as9 (λi=>listed.getD i false) i) x:=Bt (by omega) λj bI vy Fh de hd=>by
     by_cases e:j=i
     ·subst e;exact R
     ·refine high j bI (by omega) de ?_;unfold clash;simp[hd,U]
    rw[c1];exact vx i λj bI γ de hd=>low j bI γ de (by unfold clash;simp[hd,U])
   have lX:∀x,aW (bX ops[i] env (as9 i)) x=aW (cQ ops env0 as9 (λj=>(listed.setIfInBounds i true).getD j false) ops.size) x:=λx=>by
    have i':∀j,(listed.setIfInBounds i true).getD j false=if j=i then true else listed.getD j false:=λj=>by
     rw[Array.getD_eq_getD_getElem?,Array.getD_eq_getD_getElem?];by_cases e:j=i
     ·subst e;rw[Array.getElem?_setIfInBounds_self_of_lt (by omega)];simp
     ·rw[Array.getElem?_setIfInBounds_ne (Ne.symm e),if_neg e]
    rw[tG];by_cases hd:ops[i].dst=some x
    ·rw[if_pos hd];have c1:aW (cQ ops env0 as9 (λj=>(listed.setIfInBounds i true).getD j false) ops.size) x=aW (cQ ops env0 as9 (λj=>(listed.setIfInBounds i true).getD j false) (i+1)) x:=Bt (by omega) λj bI vy Fh de rX=>by
      rw[i',if_neg (by omega)];refine high j bI (by omega) de ?_;unfold clash;simp[hd,rX]
     rw[c1];simp only[cQ,i',if_true,ω,tG,hd]
    ·rw[if_neg hd,cq x];exact vx ops.size λj bI γ de rX=>by
      rw[i',if_neg];intro e;subst e;rw[ω] at de;cases de;exact hd rX
   have i':∀j,(listed.setIfInBounds i true).getD j false=if j=i then true else listed.getD j false:=λj=>by
    rw[Array.getD_eq_getD_getElem?,Array.getD_eq_getD_getElem?];by_cases e:j=i
    ·subst e;rw[Array.getElem?_setIfInBounds_self_of_lt (by omega)];simp
    ·rw[Array.getElem?_setIfInBounds_ne (Ne.symm e),if_neg e]
   have tJ:((List.range ops.size).filter λj=>!(listed.setIfInBounds i true).getD j false).length<=fuel:=by
    have ar:((List.range ops.size).filter λj=>!(listed.setIfInBounds i true).getD j false).length<((List.range ops.size).filter λj=>!listed.getD j false).length:=by
     have:((List.range ops.size).filter λj=>!(listed.setIfInBounds i true).getD j false)=((List.range ops.size).filter λj=>!listed.getD j false).filter λj=>j != i:=by
      rw[List.filter_filter];apply List.filter_congr;intro j _;rw[i'];by_cases e:j=i
      ·subst e;simp
      ·simp[e]
     rw[this];have hm:i∈(List.range ops.size).filter λj=>!listed.getD j false:=by
      rw[List.mem_filter];exact⟨List.mem_range.2 J,by rw[R];rfl⟩
     exact List.length_filter_lt_length_iff_exists.2 ⟨i,hm,by simp⟩
    omega
   have tK:∀j o,ops[j]?=some o->(listed.setIfInBounds i true).getD j false=true->∀y∈gq o,(listed.setIfInBounds i true).getD y false=true:=λj o γ Β y ad=>by
    rw[i'] at Β ⊢;by_cases e:y=i
    ·rw[if_pos e]
    ·rw[if_neg e];by_cases Ε:j=i
     ·subst Ε;rw[ω] at γ;cases γ;exact ς _ ω y ad
     ·rw[if_neg Ε] at Β;exact b3 j o γ Β y ad
   have J4:∀j,writer ops tags j=true->tags.getD j false=true:=λj h=>by
    unfold writer at h;rw[Bool.and_eq_true] at h;exact h.1
   cases l9:tags.getD i false with
   | false=>
    refine(k5 i _ ω l9).1 env (σs cJ) _ same ?_;refine Γ _ _ _ cJ (by simpa using b2) lX tK jV (λj γ Η=>?_) tJ;rw[i'];have:j≠i:=λe=>by subst e;rw[J4 j Η] at l9;cases l9
    rw[if_neg this];exact hx j γ Η
   | true=>
    have J5:∀j bI,ops[j]?=some bI->writer ops tags j=true->clash ops tags i j ops[i] bI=true/\clash ops tags j i bI ops[i]=true:=λj bI de Η=>by
     have J:=J4 j Η;unfold writer at Η;rw[J,de] at Η;have R:lj bI=false:=by simpa using Η
     unfold clash;rw[J,l9,R];simp
    have rr:∀j,j<ops.size->writer ops tags j=true->j<i->listed.getD j false=true:=λj γ Η tL=>low j _ tL (eM γ) (J5 j _ (eM γ) Η).1
    have J6:∀j,j<ops.size->writer ops tags j=true->i<j->listed.getD j false=false:=λj γ Η tL=>high j _ tL (eM γ) (J5 j _ (eM γ) Η).2
    have Fi:σs cJ=σs i:=J3 cJ i jV (by omega) λj γ Η=>by
     rw[<-hx j γ Η];constructor
     ·intro Β;apply Classical.byContradiction;intro Ι;by_cases e:j=i
      ·subst e;rw[R] at Β;cases Β
      ·rw[J6 j γ Η (by omega)] at Β;cases Β
     ·exact rr j γ Η
    cases lk:writer ops tags i with
    | false=>
     have es:=Bu i _ ω lk
     have ν:=(gT i _ ω l9).1;rw[es] at ν;rw[Fi];refine ν env _ same ?_;rw[<-Fi];refine Γ _ _ _ cJ (by simpa using b2) lX tK jV (λj γ Η=>?_) tJ;rw[i'];have:j≠i:=λe=>by subst e;rw[Η] at lk;cases lk
     rw[if_neg this];exact hx j γ Η
    | true=>
     rw[Fi];refine(gT i _ ω l9).1 env _ same ?_;refine Γ _ _ _ (i+1) (by simpa using b2) lX tK (by omega) (λj γ Η=>?_) tJ;rw[i'];by_cases e:j=i
     ·subst e;simp
     ·rw[if_neg e];constructor
      ·intro Β;apply Classical.byContradiction;intro Ι;rw[J6 j γ Η (by omega)] at Β;cases Β
      ·intro ar;exact rr j γ Η (by omega)
def Bv:List Oper->List Nat->List Nat
 | [],acc=>acc
 | o::os,acc=>Bv os (acc++[(gq o).foldr (λj m=>(1 <<< j)|||acc.getD j 0|||m) 0])
def J7 (ops:Array Oper) (tags:List Bool):Bool:=
 let b:=Bv ops.toList []
 (List.range ops.size).all λi=>match ops[i]? with
  | none=>false
  | some l8=>(gq l8).all (λj=>decide (j<i))&&(List.range i).all λj=>match ops[j]? with
   | none=>false
   | some bI=>!clash ops tags i j l8 bI||(b.getD i 0).testBit j
def J8 (acc:List (List Nat)) (rY:List Nat):Prop:=acc.length=rY.length/\∀i j,(rY.getD i 0).testBit j=true↔j∈acc.getD i []
theorem St:∀(os:List Oper) (acc:List (List Nat)) (rY:List Nat),J8 acc rY->J8 (x5 os acc) (Bv os rY):=by
 intro os
 induction os with
 | nil=>intro acc rY h;exact h
 | cons o os Γ=>
  intro acc rY h;simp only[x5,Bv];refine Γ _ _ ⟨by simp[h.1],λi j=>?_⟩;have one:∀l:List Nat,(l.foldr (λj m=>(1 <<< j)|||rY.getD j 0|||m) 0).testBit j=true↔j∈l++l.flatMap λj=>acc.getD j []:=by
   intro l
   induction l with
   | nil=>simp
   | cons a l k8=>
    rw[List.foldr_cons,Nat.testBit_or,Nat.testBit_or,Nat.one_shiftLeft,Nat.testBit_two_pow];simp only[Bool.or_eq_true,decide_eq_true_eq,h.2 a j,k8,List.mem_append,List.mem_cons,List.flatMap_cons];constructor
    ·rintro((e|e)|e|e)
     ·exact .inl (.inl e.symm)
     ·exact .inr (.inl e)
     ·exact .inl (.inr e)
     ·exact .inr (.inr e)
    ·rintro((e|e)|e|e)
     ·exact .inl (.inl e.symm)
     ·exact .inr (.inl e)
     ·exact .inl (.inr e)
     ·exact .inr (.inr e)
  rw[List.getD_eq_getElem?_getD,List.getD_eq_getElem?_getD];by_cases hi:i<acc.length
  ·rw[dW hi,dW (by rw[<-h.1];exact hi),<-List.getD_eq_getElem?_getD,<-List.getD_eq_getElem?_getD];exact h.2 i j
  ·rw[ha (by have:=h.1;omega),ha (by omega),<-h.1];cases hd:i-acc.length with
   | zero=>simpa using one (gq o)
   | succ n=>simp
theorem cZ {ops:Array Oper} {tags:List Bool} (h:J7 ops tags=true):jU ops tags=true:=by
 unfold J7 at h;unfold jU;have hb:=St ops.toList [] [] ⟨rfl,λi j=>by simp⟩;simp only[List.all_eq_true] at h ⊢;intro i hi;have J:=h i hi;cases ω:ops[i]? with
 | none=>rw[ω] at J;exact J
 | some l8=>
  rw[ω] at J;simp only[Bool.and_eq_true,List.all_eq_true] at J ⊢;refine⟨J.1,λj γ=>?_⟩;have R:=J.2 j γ;cases de:ops[j]? with
  | none=>rw[de] at R;exact R
  | some bI=>
   rw[de] at R;simp only[Bool.or_eq_true] at R ⊢;rcases R with R|R
   ·exact .inl R
   ·exact .inr (List.contains_iff_mem.2 ((hb.2 i j).1 R))
end
section
variable {P:Program} {T:aZ} {A:List Nat} {m nt:Nat} {k:List Item} {env env':Φ} {σ:List Row} {Z:List Item->Φ->List Row->Prop} {E:ζ->Φ->List Row->Prop} {ops:Array Oper}
theorem Bw {o:Oper} (h:ny ops o env env'):∀x,x∈o.op.operands.toList->aG env' x=aG env x:=λx U=>by
 cases x with
 | tmp t=>
  refine h t ?_;unfold x4;simp only[List.mem_append,List.mem_filterMap];exact .inl ⟨.tmp t,U,rfl⟩
 | _=>rfl
theorem pF {o:Oper} (h:ny ops o env env'):e7 env' ops o=e7 env ops o:=by
 unfold e7;cases Ο:o.guard with
 | none=>rfl
 | some x=>
  obtain⟨j,want⟩:=x;simp only;cases hd:(ops[j]?).bind (·.dst) with
  | none=>rfl
  | some d=>
   simp only;have:aW env' d=aW env d:=h d (by unfold x4;rw[Ο];simp[hd]);rw[this]
theorem Bx {cC:Array (Nat×Operand)} (h:∀p∈cC,aG env' p.2=aG env p.2):qN env' cC=qN env cC:=by
 unfold qN;exact List.map_congr_left λp χ=>by rw[h p (by simpa using χ)]
theorem By {cP:Array Operand} (h:∀x∈cP,aG env' x=aG env x):cP.toList.map (aG env')=cP.toList.map (aG env):=List.map_congr_left λx U=>h x (by simpa using U)
theorem Bz {o:Option Operand} (h:∀x,o=some x->aG env' x=aG env x):o.map (aG env')=o.map (aG env):=by
 cases o with
 | none=>rfl
 | some x=>simp[h x rfl]
theorem BA {o:Oper} (ν:ny ops o env env'):lg T A env' o=lg T A env o:=by
 have h:=Bw ν;obtain⟨dst,op,type,pos,after,guard⟩:=o;simp only at h;unfold lg;cases op<;>simp only<;>try rfl
 all_goals simp only[Op.operands,List.mem_cons,List.not_mem_nil,or_false,forall_eq_or_imp,forall_eq] at h
 case move x=>rw[h]
 case assign x=>rw[h]
 case pick c a b=>rw[h.1,h.2.1,h.2.2]
 case box ty x=>rw[h]
 case build ty cC=>rw[Bx λp χ=>h p.2 (by simp only[List.mem_map];exact⟨p,by simpa using χ,rfl⟩)]
 case buildSlice ty n cC=>rw[Bx λp χ=>h p.2 (by simp only[List.mem_map];exact⟨p,by simpa using χ,rfl⟩)]
 case load ty x=>rw[h]
 case binOp op a x y b=>rw[h.1,h.2]
 case unOp op a x=>rw[h]
 case convert a b x=>rw[h]
 case index ty x y=>rw[h.1,h.2]
 case nilCheck x=>rw[h]
 case sliceToArrayPointer ty x=>rw[h]
 case makeInterface a x=>rw[h]
 case makeFunc f cP cs=>rw[By λx U=>h x (by simp[U]),By λx U=>h x (by simp[U])]
 case makeSlice a x y=>rw[h.1,h.2]
 case slice ty x lo hi mK=>
  cases mK with
  | some m=>rfl
  | none=>
   simp only;rw[h x (by simp),Bz λy ad=>h y (by simp[ad]),Bz λy ad=>h y (by simp[ad])]
 case fieldAddr ty x f=>rw[h]
 case indexAddr ty x y=>rw[h.1,h.2]
 case typeAssert x a b c=>rw[h]
 case extract x i=>rw[h]
 case call c=>
  obtain⟨callee,⟨args⟩,⟨dI⟩⟩:=c;cases callee
  case value=>rfl
  case invoke=>rfl
  rename_i b;have c0:∀x∈args,aG env' x=aG env x:=λx U=>h x (by simp[Call.operands,U])
  match args,dI with
  | [x],[ty]=>simp only;rw[c0 x (by simp)]
  | [x,y],[rW,ty]=>simp only;rw[c0 x (by simp),c0 y (by simp)]
  | [],_=>rfl
  | [_],[]=>rfl
  | [_],_::_::_=>rfl
  | [_,_],[]=>rfl
  | [_,_],[_]=>rfl
  | [_,_],_::_::_::_=>rfl
  | _::_::_::_,_=>rfl
theorem J9 {o:Oper} (ν:ny ops o env env'):jv T A env' σ o=jv T A env σ o:=by
 have h:=Bw ν;obtain⟨dst,op,type,pos,after,guard⟩:=o;simp only at h;unfold jv;cases op<;>simp only<;>try rfl
 all_goals simp only[Op.operands,List.mem_cons,List.not_mem_nil,or_false,forall_eq_or_imp,forall_eq] at h
 case box ty x=>rw[h]
 case build ty cC=>rw[Bx λp χ=>h p.2 (by simp only[List.mem_map];exact⟨p,by simpa using χ,rfl⟩)]
 case buildSlice ty n cC=>rw[Bx λp χ=>h p.2 (by simp only[List.mem_map];exact⟨p,by simpa using χ,rfl⟩)]
 case load ty x=>rw[h]
 case store ty x y=>rw[h.1,h.2]
 case makeSlice a x y=>rw[h.1,h.2]
 case makeMap ty r=>cases r<;>rfl
 case convert a b x=>rw[h]
 case nilCheck x=>rw[h]
 case binOp op ty x y d=>
  split
  all_goals first
   | rfl
   |(rename_i heq;cases heq<;>simp only[h.1])
 case mapUpdate ty x y z=>rw[h.1,h.2.1,h.2.2]
 case insert ty x y z=>rw[h.1,h.2.1,h.2.2]
 case lookup ty x y ok=>rw[h.1,h.2]
 case range ty x=>rw[h]
 case next x b=>
  cases b<;>simp only<;>try rfl
  rw[h]
 case entry x=>rw[h]
 case slice ty x lo hi mK=>
  cases mK with
  | some m=>rfl
  | none=>
   simp only;rw[h x (by simp),Bz λy ad=>h y (by simp[ad]),Bz λy ad=>h y (by simp[ad])]
 case fieldAddr ty x f=>rw[h]
 case indexAddr ty x y=>rw[h.1,h.2]
 case call c=>
  obtain⟨callee,⟨args⟩,⟨dI⟩⟩:=c;cases callee
  case value=>rfl
  case invoke=>rfl
  rename_i b;have c0:∀x∈args,aG env' x=aG env x:=λx U=>h x (by simp[Call.operands,U])
  match args,dI with
  | [x],[ty]=>simp only;rw[c0 x (by simp)]
  | [x,y],[rW,ty]=>simp only;rw[c0 x (by simp),c0 y (by simp)]
  | [],_=>rfl
  | [_],[]=>rfl
  | [_],_::_::_=>rfl
  | [_,_],[]=>rfl
  | [_,_],[_]=>rfl
  | [_,_],_::_::_::_=>rfl
  | _::_::_::_,_=>rfl
def ja (P:Program) (f:ζ) (args:List ζ) (r:ζ):Prop:=∀σ,ht P f args σ (λa s=>a=r/\s=σ) (λ_ _=>False)
def cd.fF (r:cd) (K:ζ->Prop) (s:Prop):Prop:=match r with
 | .ok a=>K a
 | .bT p (.ok a)=>p/\K a
 | .bT _ _=>False
 | .bad=>s
def cO.fF (r:cO) (K:ζ->List Row->Prop):Prop:=match r with
 | .ok a σ'=>K a σ'
 | .bT p (.ok a σ')=>p/\K a σ'
 | _=>False
theorem Su {r r':cd} {K:ζ->Prop} {s:Prop} (h:r=r'):r.fF K s=r'.fF K s:=by rw[h]
theorem Sv {r r':cO} {K:ζ->List Row->Prop} (h:r=r'):r.fF K=r'.fF K:=by rw[h]
def dcall (P:Program) (f:ζ) (args:List ζ) (σ:List Row) (g5:ζ->Prop) (ll:ζ->List Row->Prop):Prop:=
 (∃r,ja P f args r/\g5 r)\/∃r σ',ht P f args σ (λa s=>a=r/\s=σ') (λ_ _=>False)/\ll r σ'
theorem iI {P:Program} {f:ζ} {args:List ζ} {σ:List Row} {g5:ζ->Prop} {ll:ζ->List Row->Prop} {r:ζ} (h:ja P f args r) (k:g5 r):dcall P f args σ g5 ll:=.inl ⟨r,h,k⟩
def x' (P:Program) (T:aZ) (A:List Nat) (env:Φ) (o:Oper) (σ:List Row) (g5:ζ->Prop) (ll:ζ->List Row->Prop):Prop:=match o.op with
 | .call ⟨.value f,args,_⟩=>dcall P (aG env f) (args.toList.map (aG env)) σ g5 ll
 | .panic _=>False
 | .defer _=>False
 | _=>(lg T A env o).fF g5 ((jv T A env σ o).fF ll)
theorem Sw {P:Program} {T:aZ} {A:List Nat} {env:Φ} {o:Oper} {σ:List Row} {g5:ζ->Prop} {ll:ζ->List Row->Prop}:x' P T A env o σ g5 ll=match o.op with
 | .call ⟨.value f,args,_⟩=>dcall P (aG env f) (args.toList.map (aG env)) σ g5 ll
 | .panic _=>False
 | .defer _=>False
 | _=>(lg T A env o).fF g5 ((jv T A env σ o).fF ll):=Eq.trans rfl rfl
theorem Sx {a:ζ} {K:ζ->Prop} {s:Prop}:cd.fF (.ok a) K s=K a:=Eq.trans rfl rfl
theorem Sy {p:Prop} {a:ζ} {K:ζ->Prop} {s:Prop}:cd.fF (.bT p (.ok a)) K s=(p/\K a):=Eq.trans rfl rfl
theorem Sz {K:ζ->Prop} {s:Prop}:cd.fF .bad K s=s:=Eq.trans rfl rfl
theorem SA {a:ζ} {σ:List Row} {K:ζ->List Row->Prop}:cO.fF (.ok a σ) K=K a σ:=Eq.trans rfl rfl
theorem SB {p:Prop} {a:ζ} {σ:List Row} {K:ζ->List Row->Prop}:cO.fF (.bT p (.ok a σ)) K=(p/\K a σ):=Eq.trans rfl rfl
def ia (P:Program) (T:aZ) (A:List Nat) (nt:Nat) (ops:Array Oper):List Nat->Φ->List Row->List Bool->(Φ->List Row->Prop)->Prop
 | [],env,σ,tags,K=>jU ops tags=true/\K env σ
 | i::is,env,σ,tags,K=>ga ops[i]? λo=>g4 nt o=true/\ga (e7 env ops o) λw=>
   iG w (ia P T A nt ops is (bX o env .ca) σ (tags++[false]) K)
    (x' P T A env o σ (λa=>ia P T A nt ops is (bX o env a) σ (tags++[false]) K) (λa σ'=>ia P T A nt ops is (bX o env a) σ' (tags++[true]) K))
def J' (P:Program) (T:aZ) (A:List Nat) (nt:Nat) (ops:Array Oper) (is:List Nat) (o:Oper) (env:Φ) (σ:List Row) (tags:List Bool) (K:Φ->List Row->Prop) (a:ζ):Prop:=ia P T A nt ops is (bX o env a) σ (tags++[false]) K
def Ka (P:Program) (T:aZ) (A:List Nat) (nt:Nat) (ops:Array Oper) (is:List Nat) (o:Oper) (env:Φ) (tags:List Bool) (K:Φ->List Row->Prop) (a:ζ) (σ':List Row):Prop:=ia P T A nt ops is (bX o env a) σ' (tags++[true]) K
theorem cy {tags:List Bool} {K:Φ->List Row->Prop}:ia P T A nt ops [] env σ tags K=(jU ops tags=true/\K env σ):=Eq.trans rfl rfl
theorem cz {i:Nat} {is:List Nat} {tags:List Bool} {K:Φ->List Row->Prop}:ia P T A nt ops (i::is) env σ tags K=ga ops[i]? λo=>g4 nt o=true/\ga (e7 env ops o) λw=>
   iG w (ia P T A nt ops is (bX o env .ca) σ (tags++[false]) K) (x' P T A env o σ (J' P T A nt ops is o env σ tags K) (Ka P T A nt ops is o env tags K)):=Eq.trans rfl rfl
theorem SC {ops:Array Oper} {is:List Nat} {o:Oper} {tags:List Bool} {K:Φ->List Row->Prop} {a:ζ}:J' P T A nt ops is o env σ tags K a=ia P T A nt ops is (bX o env a) σ (tags++[false]) K:=Eq.trans rfl rfl
theorem SD {ops:Array Oper} {is:List Nat} {o:Oper} {tags:List Bool} {K:Φ->List Row->Prop} {a:ζ}:Ka P T A nt ops is o env tags K a σ=ia P T A nt ops is (bX o env a) σ (tags++[true]) K:=Eq.trans rfl rfl
def nz (P:Program) (m nt:Nat) (k:List Item) (Z:List Item->Φ->List Row->Prop) (E:ζ->Φ->List Row->Prop) (ops:Array Oper) (i:Nat) (o:Oper) (env:Φ) (σ:List Row) (tag:Bool) (a:ζ) (σ':List Row):Prop:=
 if tag then Fa P m nt k Z E ops i o env σ a σ'/\(lj o=true->σ'=σ) else vw P m nt k Z E ops i o env a/\σ'=σ
theorem SE {ty:TypeId} {x a:ζ} {σ':List Row} {p:Prop} (h:ti T ty σ x=.ok a σ'\/ti T ty σ x=.bT p (.ok a σ')):σ'=σ:=by
 unfold ti rO at h
 repeat' split at h
 all_goals simp[cd.dd] at h
 all_goals first|exact h.2.symm|skip
theorem SF {ty:TypeId} {x cH a:ζ} {σ':List Row} {p:Prop} (h:tk T ty σ x cH=.ok a σ'\/tk T ty σ x cH=.bT p (.ok a σ')):σ'=σ:=by
 unfold tk at h
 repeat' split at h
 all_goals simp at h
 all_goals first|exact h.2.2.symm|exact h.2.symm|skip
theorem SG {ty:TypeId} {f:Nat} {x a:ζ} {σ':List Row} {p:Prop} (h:tj T ty f σ x=.ok a σ'\/tj T ty f σ x=.bT p (.ok a σ')):σ'=σ:=by
 unfold tj at h
 repeat' split at h
 all_goals simp at h
 all_goals first|exact h.2.2.symm|exact h.2.symm|skip
theorem SH {x a:ζ} {σ':List Row} {p:Prop} (h:tA σ x=.ok a σ'\/tA σ x=.bT p (.ok a σ')):σ'=σ:=by
 unfold tA at h
 repeat' split at h
 all_goals simp at h
 all_goals first|exact h.2.2.symm|exact h.2.symm|skip
theorem BB {o:Oper} {a:ζ} {σ':List Row} {p:Prop} (ι:lj o=true) (h:jv T A env σ o=.ok a σ'\/jv T A env σ o=.bT p (.ok a σ')):σ'=σ:=by
 unfold lj at ι;unfold jv at h;split at ι
 ·rename_i ty x Θ;rw[Θ] at h;exact SE h
 ·rename_i ty x cH Θ;rw[Θ] at h;exact SF h
 ·rename_i ty x f Θ;rw[Θ] at h;exact SG h
 ·rename_i x Θ;rw[Θ] at h;exact SH h
 ·cases ι
theorem SI (Ζ:bE P T) {i:Nat} {is:List Nat} {tags:List Bool} {K:Φ->List Row->Prop} (h:ia P T A nt ops (i::is) env σ tags K) :
  ∃o a σ' tag,ops[i]?=some o/\nz P m nt k Z E ops i o env σ tag a σ'/\ia P T A nt ops is (bX o env a) σ' (tags++[tag]) K:=by
 unfold ia ga at h;split at h
 ·exact h.elim
 ·rename_i o ω;obtain⟨hd,h⟩:=h;split at h
  ·exact h.elim
  rename_i w hw;unfold iG at h;cases w
  ·replace h:=h.1 rfl
   refine⟨o,.ca,σ,false,ω,?_,h⟩;unfold nz;simp only[Bool.false_eq_true,if_false];exact⟨λenv' σ' rest ν hW=>.unwanted ω (by rw[pF ν];exact hw) hd hW,trivial⟩
  ·replace h:=h.2 rfl
   unfold x' at h;split at h
   ·rename_i f args dI Θ;have ya:∀env',ny ops o env env'->aG env' f=aG env f/\args.toList.map (aG env')=args.toList.map (aG env):=λenv' ν=>by
     have U:=Bw ν;rw[Θ] at U;refine⟨U f (by simp[Op.operands,Call.operands]),By λx Fj=>U x (by simp[Op.operands,Call.operands,Fj])⟩
    rcases h with⟨r,η,h⟩|⟨r,σ',η,h⟩
    ·refine⟨o,r,σ,false,ω,?_,h⟩;unfold nz;simp only[Bool.false_eq_true,if_false];refine⟨λenv' σ' rest ν hW=>.call ω (by rw[pF ν];exact hw) hd Θ ?_,trivial⟩;obtain⟨Δ,Ε⟩:=ya env' ν;rw[Δ,Ε];exact(η σ').mono (λa s ⟨x,y⟩=>by subst x;subst y;exact hW) (λ_ _ h=>h.elim)
    ·refine⟨o,r,σ',true,ω,?_,h⟩;unfold nz;simp only[if_true];refine⟨?_,λι=>by unfold lj at ι;rw[Θ] at ι;cases ι⟩;refine λenv' rest ν hW=>.call ω (by rw[pF ν];exact hw) hd Θ ?_;obtain⟨Δ,Ε⟩:=ya env' ν;rw[Δ,Ε];exact η.mono (λa s ⟨x,y⟩=>by subst x;subst y;exact hW) (λ_ _ h=>h.elim)
   ·exact h.elim
   ·exact h.elim
   ·rename_i J R ς;have yb:∀(r:cd) (a:ζ),lg T A env o=r->(∀K:ζ->List Row->Prop,∀s,K a s->(r.dd s).holds K)->(∀σ s,r.or σ s=r.dd σ)->vw P m nt k Z E ops i o env a:=λr a ι aN Fl env' σ' rest ν hW=>by
     refine .op (A:=A) Ζ ω (by rw[pF ν];exact hw) hd (λc η=>ς c η) ?_;rw[BA ν,ι,Fl];exact aN _ _ hW
    unfold cd.fF at h;split at h
    ·rename_i a κ;refine⟨o,a,σ,false,ω,?_,h⟩;unfold nz;simp only[Bool.false_eq_true,if_false];exact⟨yb _ a κ (λK s Α=>Α) (λ_ _=>rfl),trivial⟩
    ·rename_i p a κ;refine⟨o,a,σ,false,ω,?_,h.2⟩;unfold nz;simp only[Bool.false_eq_true,if_false];exact⟨yb _ a κ (λK s Α=>⟨h.1,Α⟩) (λ_ _=>rfl),trivial⟩
    ·exact h.elim
    ·rename_i vp;have BC:∀(a:ζ) (σ':List Row) (r:cO),jv T A env σ o=r->(∀K:ζ->List Row->Prop,K a σ'->r.holds K)->Fa P m nt k Z E ops i o env σ a σ':=λa σ' r ι aN env' rest ν hW=>by
      refine .op (A:=A) Ζ ω (by rw[pF ν];exact hw) hd (λc η=>ς c η) ?_;rw[BA ν,J9 ν,vp,ι];exact aN _ hW
     unfold cO.fF at h;split at h
     ·rename_i a σ' κ;refine⟨o,a,σ',true,ω,?_,h⟩;unfold nz;simp only[if_true];exact⟨BC a σ' _ κ λK Α=>Α,λι=>BB (p:=True) ι (.inl κ)⟩
     ·rename_i p a σ' κ;refine⟨o,a,σ',true,ω,?_,h.2⟩;unfold nz;simp only[if_true];exact⟨BC a σ' _ κ λK Α=>⟨h.1,Α⟩,λι=>BB ι (.inr κ)⟩
     ·exact h.elim
theorem Kb {env0:Φ} {as9 jw:Nat->ζ} {D:Nat->Bool}:∀n,(∀j,j<n->as9 j=jw j)->cQ ops env0 as9 D n=cQ ops env0 jw D n:=by
 intro n
 induction n with
 | zero=>intro _;rfl
 | succ n Γ=>
  intro h;simp only[cQ];rw[Γ λj γ=>h j (by omega),h n (Nat.lt_succ_self n)]
theorem SJ (Ζ:bE P T) {K:Φ->List Row->Prop} {env0:Φ}:∀(d i:Nat) (tags:List Bool) (as9:Nat->ζ) (σs:Nat->List Row),i+d=ops.size->tags.length=i->
  (∀j o,j<i->ops[j]?=some o->nz P m nt k Z E ops j o (cQ ops env0 as9 (λ_=>true) j) (σs j) (tags.getD j false) (as9 j) (σs (j+1)))->
  ia P T A nt ops (List.range' i d) (cQ ops env0 as9 (λ_=>true) i) (σs i) tags K->
  ∃(tags:List Bool) (as9:Nat->ζ) (pG:Nat->List Row),jU ops tags=true/\pG 0=σs 0/\(∀j o,ops[j]?=some o->nz P m nt k Z E ops j o (cQ ops env0 as9 (λ_=>true) j) (pG j) (tags.getD j false) (as9 j) (pG (j+1)))/\K (cQ ops env0 as9 (λ_=>true) ops.size) (pG ops.size):=by
 intro d
 induction d with
 | zero=>
  intro i tags as9 σs hi Η γ h;simp only[List.range'_zero,ia] at h;have:i=ops.size:=by omega
  subst this;exact⟨tags,as9,σs,h.1,rfl,λj o ω=>γ j o (Array.getElem?_eq_some_iff.1 ω).1 ω,h.2⟩
 | succ d Γ=>
  intro i tags as9 σs hi Η γ h;rw[List.range'_succ] at h;obtain⟨o,a,σ',tag,ω,Fo,h⟩:=SI (m:=m) (k:=k) (Z:=Z) (E:=E) Ζ h;let jw:Nat->ζ:=λj=>if j=i then a else as9 j
  let pG:Nat->List Row:=λj=>if j=i+1 then σ' else σs j
  have tM:∀j,j<=i->cQ ops env0 as9 (λ_=>true) j=cQ ops env0 jw (λ_=>true) j:=λj γ=>Kb j λx U=>by simp only[jw];rw[if_neg (by omega)]
  have Fp:cQ ops env0 jw (λ_=>true) (i+1)=bX o (cQ ops env0 as9 (λ_=>true) i) a:=by
   simp only[cQ,if_true,ω];rw[<-tM i (Nat.le_refl i)];simp only[jw,if_true]
  have:=Γ (i+1) (tags++[tag]) jw pG (by omega) (by simp[Η]) (λj bI ar de=>?_) ?_
  ·obtain⟨t2,bg,s2,Ξ,aa,aM,b9⟩:=this;exact⟨t2,bg,s2,Ξ,aa.trans (by simp only[pG];rw[if_neg (by omega)]),aM,b9⟩
  ·by_cases e:j=i
   ·subst e;rw[ω] at de;cases de;rw[<-tM j (Nat.le_refl j)];have Δ:(tags++[tag]).getD j false=tag:=by rw[List.getD_eq_getElem?_getD,ha (by omega),Η];simp
    rw[Δ];simp only[jw,pG,if_true];rw[if_neg (by omega)];exact Fo
   ·have:=γ j bI (by omega) de;rw[<-tM j (by omega)];have Δ:(tags++[tag]).getD j false=tags.getD j false:=by rw[List.getD_eq_getElem?_getD,dW (by omega),<-List.getD_eq_getElem?_getD]
    rw[Δ];simp only[jw,pG];rw[if_neg (by omega),if_neg (by omega),if_neg (by omega)];exact this
  ·rw[Fp];simp only[pG,if_true];exact h
theorem W.draw (Ζ:bE P T) (qT:P.follows .mixedOrders=true) {id:Nat} (h:∀θ:Φ->List Row->Prop,(∀env σ,W P m nt k env σ Z E->θ env σ)->ia P T A nt ops (idx ops.size []) env σ [] θ):W P m nt (.code (.region id ops true)::k) env σ Z E:=by
 have af:=h (λenv σ=>W P m nt k env σ Z E) λ_ _ h=>h;rw[idx_eq,List.range_eq_range'] at af;obtain⟨tags,as9,σs,Ξ,aa,aM,b9⟩:=SJ (m:=m) (k:=k) (Z:=Z) (E:=E) (env0:=env) Ζ ops.size 0 [] (λ_=>.ca) (λ_=>σ) (by omega) rfl (λj o γ=>by omega) af;intro Q mn x cs b S B H t U hb χ Ν he;refine .draw U hb λn=>?_;have key:=W.Ss (P:=P) (m:=m) (nt:=nt) (k:=k) (Z:=Z) (E:=E) (ops:=ops) (as9:=as9) (σs:=σs) (tags:=tags) (env0:=env) Ξ
  (λi o ω Η=>by have:=aM i o ω;unfold nz at this;rw[Η] at this;simpa using this)
  (λi o ω Η=>by have:=aM i o ω;unfold nz at this;rw[Η] at this;simpa using this)
  (.bm b9) ops.size n (Array.replicate ops.size false) env 0 (by simp) (λi=>?_) (λi o ω Β=>?_) (Nat.zero_le _) (λj γ _=>?_) ?_
 ·rw[aa] at key;rw[qT];simp only[Region.schedule,Bool.true_or,if_true,Region.linearise];exact key Q mn x cs b S B H t U hb χ Ν he
 ·have:∀n,cQ ops env as9 (λi=>(Array.replicate ops.size false).getD i false) n=env:=by
   intro n
   induction n with
   | zero=>rfl
   | succ n Γ=>
    simp only[cQ];have:(Array.replicate ops.size false).getD n false=false:=by
     rw[Array.getD_eq_getD_getElem?,Array.getElem?_replicate];split<;>rfl
    rw[if_neg (by rw[this];simp)];exact Γ
  rw[this]
 ·have:(Array.replicate ops.size false).getD i false=false:=by
   rw[Array.getD_eq_getD_getElem?,Array.getElem?_replicate];split<;>rfl
  rw[this] at Β;cases Β
 ·have:(Array.replicate ops.size false).getD j false=false:=by
   rw[Array.getD_eq_getD_getElem?,Array.getElem?_replicate];split<;>rfl
  rw[this];simp
 ·have:=List.length_filter_le (λi=>!(Array.replicate ops.size false).getD i false) (List.range ops.size);simpa using this
theorem Kc {K K':Φ->List Row->Prop} (I:∀e s,K e s->K' e s):∀(is:List Nat) (env:Φ) (σ:List Row) (tags:List Bool),ia P T A nt ops is env σ tags K->ia P T A nt ops is env σ tags K':=by
 intro is
 induction is with
 | nil=>intro env σ tags h;exact⟨h.1,I _ _ h.2⟩
 | cons i is Γ=>
  intro env σ tags h;unfold ia ga at h ⊢;cases ω:ops[i]? with
  | none=>rw[ω] at h;exact h.elim
  | some o=>
   rw[ω] at h;simp only at h ⊢;refine⟨h.1,?_⟩
   replace h:=h.2
   cases hw:e7 env ops o with
   | none=>rw[hw] at h;exact h.elim
   | some w=>
    rw[hw] at h;unfold iG at h ⊢;refine⟨λe=>Γ _ _ _ (h.1 e),λe=>?_⟩
    replace h:=h.2 e
    unfold x' at h ⊢;split
    ·rename_i f args dI Θ;rw[Θ] at h;simp only at h;rcases h with⟨r,η,h⟩|⟨r,σ',η,h⟩
     ·exact .inl ⟨r,η,Γ _ _ _ h⟩
     ·exact .inr ⟨r,σ',η,Γ _ _ _ h⟩
    ·rename_i Θ;rw[Θ] at h;exact h
    ·rename_i Θ;rw[Θ] at h;exact h
    ·rename_i J R ς;split at h
     ·rename_i f args dI Θ;exact absurd Θ (J f args dI)
     ·rename_i y Θ;exact absurd Θ (R y)
     ·rename_i y Θ;exact absurd Θ (ς y)
     ·unfold cd.fF at h ⊢;split at h
      ·exact Γ _ _ _ h
      ·exact⟨h.1,Γ _ _ _ h.2⟩
      ·exact h.elim
      ·unfold cO.fF at h ⊢;split at h
       ·exact Γ _ _ _ h
       ·exact⟨h.1,Γ _ _ _ h.2⟩
       ·exact h.elim
theorem W.Kd (Ζ:bE P T) (qT:P.follows .mixedOrders=true) (gp:Φ) {id:Nat} (h:W P m nt k gp σ Z E) (ι:ia P T A nt ops (idx ops.size []) env σ [] (λe s=>s=σ/\∀p∈gp,aW e p.1=p.2)):W P m nt (.code (.region id ops true)::k) env σ Z E:=
 W.draw Ζ qT λθ I=>Kc (λe s ⟨J,R⟩=>I e s (J▸W.forget gp R h)) _ _ _ _ ι
end
def hQ {α:Type}:List α->List Nat->List α->List α
 | l,i::ρ,x::xs=>hQ (l.set i x) ρ xs
 | l,_,_=>l
theorem qU {α:Type}:∀(ρ:List Nat) (l xs:List α),(hQ l ρ xs).length=l.length:=by
 intro ρ
 induction ρ with
 | nil=>intro l xs;cases xs<;>rfl
 | cons i ρ Γ=>intro l xs;cases xs with
  | nil=>rfl
  | cons x xs=>simp[hQ,Γ]
theorem Fq {α:Type} {i:Nat}:∀(ρ:List Nat) (l xs:List α),i∉ρ->(hQ l ρ xs)[i]?=l[i]?:=by
 intro ρ
 induction ρ with
 | nil=>intro l xs _;cases xs<;>rfl
 | cons j ρ Γ=>intro l xs h;cases xs with
  | nil=>rfl
  | cons x xs=>
   simp only[hQ];rw[Γ _ _ (λhm=>h (by simp[hm])),List.getElem?_set_ne (λe=>h (by simp[e]))]
theorem Ke {α:Type}:∀(ρ:List Nat) (l xs:List α),ρ.Nodup->(∀i∈ρ,i<l.length)->∀(j i:Nat) (x:α),ρ[j]?=some i->xs[j]?=some x->(hQ l ρ xs)[i]?=some x:=by
 intro ρ
 induction ρ with
 | nil=>intro l xs _ _ j i x h;simp at h
 | cons a ρ Γ=>
  intro l xs ju ar j i x γ U;cases xs with
  | nil=>simp at U
  | cons y xs=>
   simp only[hQ];obtain⟨J,R⟩:=List.nodup_cons.1 ju;cases j with
   | zero=>
    simp at γ U;subst γ;subst U;rw[Fq ρ _ _ J,List.getElem?_set_self (ar a (by simp))]
   | succ j=>
    simp only[List.getElem?_cons_succ] at γ U;exact Γ _ _ R (λi hi=>by simp;exact ar i (by simp[hi])) j i x γ U
def hy (ρ:List Nat):ζ->ζ
 | .ae id n i j=>.ae (ρ.getD id 0) n i j
 | .ms id n i len=>.ms (ρ.getD id 0) n i len
 | .mp id=>.mp (ρ.getD id 0)
 | .it id=>.it (ρ.getD id 0)
 | a=>a
def dP (ρ:List Nat):ζ->ζ
 | .fn f cP cs=>.fn f (cP.map (hy ρ)) (cs.map (hy ρ))
 | .aR l=>.aR (l.map (hy ρ))
 | .bn l=>.bn (l.map (hy ρ))
 | a=>hy ρ a
def pH (h:Nat) (a:ζ):Prop:=match a with
 | .ae id _ _ _|.ms id _ _ _|.mp id|.it id=>id<h
 | a=>az 0 a
def fH (h:Nat) (a:ζ):Prop:=match a with
 | .fn _ cP cs=>(∀a∈cP,pH h a)/\∀a∈cs,pH h a
 | .aR l|.bn l=>∀a∈l,pH h a
 | a=>pH h a
structure Names (ρ:List Nat) (d':aH) (σ0:List Row) (bB:aH) (jb:List Row):Prop where
 row:∀(j i:Nat),ρ[j]?=some i->jb[i]?=σ0[j]?
 blk:∀(j i:Nat),ρ[j]?=some i->bB[i]?=d'[j]?
section
variable {S:al} {d' bB:aH} {σ0 jb:List Row} {ρ:List Nat}
theorem BD {ρ:List Nat} {j:Nat} (h:j<ρ.length):ρ[j]?=some (ρ.getD j 0):=by
 rw[List.getD_eq_getElem?_getD,aX h];rfl
theorem jW (Ι:Names ρ d' σ0 bB jb) {a:ζ} {v:Value} (Η:pH ρ.length a):ah S bB jb (hy ρ a) v↔ah S d' σ0 a v:=by
 cases a with
 | ae id n i j=>
  have bS:=BD (ρ:=ρ) Η
  have J:=Ι.row _ _ bS
  have R:=Ι.blk _ _ bS;constructor
  ·intro h;cases h with
   | ae Ξ aa aM=>exact .ae (by rw[<-J];exact Ξ) aa (by rw[<-R];exact aM)
   | iD v Ξ aa=>exact .iD v (by rw[<-J];exact Ξ) aa
  ·intro h;cases h with
   | ae Ξ aa aM=>exact .ae (by rw[J];exact Ξ) aa (by rw[R];exact aM)
   | iD v Ξ aa=>exact .iD v (by rw[J];exact Ξ) aa
 | ms id n i len=>
  have bS:=BD (ρ:=ρ) Η
  have J:=Ι.row _ _ bS
  have R:=Ι.blk _ _ bS;constructor
  ·intro h;cases h with
   | ms cap Ξ aa aM b9 fV hs=>exact .ms cap (by rw[<-J];exact Ξ) aa (by rw[<-R];exact aM) b9 fV hs
   | h8 v Ξ aa=>exact .h8 v (by rw[<-J];exact Ξ) aa
  ·intro h;cases h with
   | ms cap Ξ aa aM b9 fV hs=>exact .ms cap (by rw[J];exact Ξ) aa (by rw[R];exact aM) b9 fV hs
   | h8 v Ξ aa=>exact .h8 v (by rw[J];exact Ξ) aa
 | mp id=>
  have bS:=BD (ρ:=ρ) Η
  have J:=Ι.row _ _ bS
  have R:=Ι.blk _ _ bS;constructor
  ·intro h;cases h with
   | mp Ξ aa=>exact .mp (by rw[<-J];exact Ξ) (by rw[<-R];exact aa)
   | ku v Ξ=>exact .ku v (by rw[<-J];exact Ξ)
  ·intro h;cases h with
   | mp Ξ aa=>exact .mp (by rw[J];exact Ξ) (by rw[R];exact aa)
   | ku v Ξ=>exact .ku v (by rw[J];exact Ξ)
 | it id=>
  have bS:=BD (ρ:=ρ) Η
  have J:=Ι.row _ _ bS
  have R:=Ι.blk _ _ bS;constructor
  ·intro h;cases h with
   | it Ξ aa=>exact .it (by rw[<-J];exact Ξ) (by rw[<-R];exact aa)
   | lY v Ξ=>exact .lY v (by rw[<-J];exact Ξ)
  ·intro h;cases h with
   | it Ξ aa=>exact .it (by rw[J];exact Ξ) (by rw[R];exact aa)
   | lY v Ξ=>exact .lY v (by rw[J];exact Ξ)
 | _=>exact⟨λh=>h.any Η _ _,λh=>h.any Η _ _⟩
theorem BE {f:ζ->ζ} {l:List ζ} {i:Nat} {a:ζ} (h:(l.map f)[i]?=some a):∃b,l[i]?=some b/\a=f b:=by
 rw[List.getElem?_map] at h;cases U:l[i]? with
 | none=>rw[U] at h;cases h
 | some b=>rw[U] at h;cases h;exact⟨b,rfl,rfl⟩
theorem Fs (Ι:Names ρ d' σ0 bB jb) {a:ζ} {v:Value} (Η:fH ρ.length a):ah S bB jb (dP ρ a) v↔ah S d' σ0 a v:=by
 cases a with
 | fn f cP cs=>
  constructor
  ·intro h;cases h with
   | fn vs ws Ξ aa aM b9=>
    refine .fn vs ws (by simpa using Ξ) (by simpa using aa) (λi a v hi hv=>?_) (λi a v hi hv=>?_)
    ·exact(jW Ι (Η.1 a (cf hi))).1 (aM i _ v (by rw[List.getElem?_map,hi];rfl) hv)
    ·exact(jW Ι (Η.2 a (cf hi))).1 (b9 i _ v (by rw[List.getElem?_map,hi];rfl) hv)
  ·intro h;cases h with
   | fn vs ws Ξ aa aM b9=>
    refine .fn vs ws (by simpa using Ξ) (by simpa using aa) (λi a v hi hv=>?_) (λi a v hi hv=>?_)
    ·obtain⟨b,hb,rfl⟩:=BE hi;exact(jW Ι (Η.1 b (cf hb))).2 (aM i b v hb hv)
    ·obtain⟨b,hb,rfl⟩:=BE hi;exact(jW Ι (Η.2 b (cf hb))).2 (b9 i b v hb hv)
 | aR l=>
  constructor
  ·intro h;cases h with
   | aR vs Ξ aa=>exact .aR vs (by simpa using Ξ) λi a v hi hv=>(jW Ι (Η a (cf hi))).1 (aa i _ v (by rw[List.getElem?_map,hi];rfl) hv)
  ·intro h;cases h with
   | aR vs Ξ aa=>
    refine .aR vs (by simpa using Ξ) λi a v hi hv=>?_;obtain⟨b,hb,rfl⟩:=BE hi;exact(jW Ι (Η b (cf hb))).2 (aa i b v hb hv)
 | bn l=>
  constructor
  ·intro h;cases h with
   | bn vs Ξ aa=>exact .bn vs (by simpa using Ξ) λi a v hi hv=>(jW Ι (Η a (cf hi))).1 (aa i _ v (by rw[List.getElem?_map,hi];rfl) hv)
  ·intro h;cases h with
   | bn vs Ξ aa=>
    refine .bn vs (by simpa using Ξ) λi a v hi hv=>?_;obtain⟨b,hb,rfl⟩:=BE hi;exact(jW Ι (Η b (cf hb))).2 (aa i b v hb hv)
 | z u=>exact jW (a:=.z u) Ι Η
 | Ω l=>exact jW (a:=.Ω l) Ι Η
 | sl ex k l=>exact jW (a:=.sl ex k l) Ι Η
 | ae id n i j=>exact jW (a:=.ae id n i j) Ι Η
 | ms id n i len=>exact jW (a:=.ms id n i len) Ι Η
 | fc t a=>exact jW (a:=.fc t a) Ι Η
 | mp id=>exact jW (a:=.mp id) Ι Η
 | it id=>exact jW (a:=.it id) Ι Η
 | ca=>exact jW (a:=.ca) Ι Η
end
section
variable {P:Program} {S aj:al} {B:aH} {H H':υ} {σ:List Row}
def iJ (r:Row):Prop:=match r with|.cells _ _ l=>∀e∈l,∀a∈e.cells,az 0 a|_=>False
def yc (r:Row):Prop:=iJ r\/r=.dead
theorem iE.plain {B':aH} {σ':List Row} {r:Row} {bo:Option (Nat×Nat)} (χ:iJ r) (h:iE S B σ H r bo) (fe:aH) (fG:List Row):iE S fe fG H r bo:=by
 cases r with
 | cells t k l=>
  cases bo with
  | none=>exact h
  | some x=>
   obtain⟨b,N⟩:=x;obtain⟨J,R,ς,w,Κ⟩:=h;refine⟨J,R,ς,w,λi e hi=>⟨(Κ i e hi).1,λj a γ=>?_⟩⟩;obtain⟨c1,c2,c3⟩:=(Κ i e hi).2 j a γ;exact⟨c1,c2.any (χ e (cf hi) a (cf γ)) _ _,c3⟩
 | _=>exact χ.elim
theorem iE.SK {B':aH} {σ':List Row} {r:Row} {bo:Option (Nat×Nat)} (χ:yc r) (h:iE S B σ H r bo) (fe:aH) (fG:List Row):iE S fe fG H r bo:=by
 rcases χ with χ|rfl
 ·exact iE.plain (B':=B') (σ':=σ') χ h fe fG
 ·trivial
theorem Holds.Kf (ψ:Holds S B σ H) {ρ:List Nat} {hR:List Row} (ju:ρ.Nodup) (hlen:ρ.length=hR.length) (aY:∀(j i:Nat),ρ[j]?=some i->σ[i]?=hR[j]?) (g2:∀r∈hR,iJ r)
  {d':aH} {σ0:List Row} (he:Ext S (ρ.map λi=>B.getD i none) H aj d' H') (Β:bQ S aj (ρ.map λi=>B.getD i none) d' hR σ0) (af:Holds aj d' σ0 H') (SL:∀r∈σ0,yc r) :
  let jb:=hQ σ ρ σ0++σ0.drop ρ.length
  let bB:=hQ B ρ d'++d'.drop ρ.length
  Holds aj bB jb H'/\Ext S B H aj bB H'/\bQ S aj B bB σ jb/\Names (ρ++(List.range (σ0.length-ρ.length)).map (σ.length + ·)) d' σ0 bB jb:=by
 intro jb bB;have ar:∀i∈ρ,i<σ.length:=λi hi=>by
  obtain⟨j,γ⟩:=List.getElem?_of_mem hi;have g6:j<hR.length:=by rw[<-hlen];exact(bU.1 γ).1
  have:=aY j i γ;rw[aX g6] at this;exact(bU.1 this).1
 have BF:∀i∈ρ,i<B.length:=λi hi=>by rw[ψ.len];exact ar i hi
 have hle:ρ.length<=σ0.length:=by rw[hlen];exact Β.length
 have SM:d'.length=σ0.length:=af.len
 have BG:∀(j i:Nat),ρ[j]?=some i->(ρ.map λi=>B.getD i none)[j]?=B[i]?:=λj i γ=>by
  have hi:=BF i (cf γ);rw[List.getElem?_map,γ];simp[hi]
 have s1:∀(j i:Nat),ρ[j]?=some i->jb[i]?=σ0[j]?:=λj i γ=>by
  have hi:=ar i (cf γ)
  have g6:j<σ0.length:=by have:=(bU.1 γ).1;omega
  show(hQ σ ρ σ0++_)[i]?=_;rw[dW (by rw[qU];exact hi),aX g6];exact Ke ρ σ σ0 ju ar j i _ γ (aX g6)
 have bs:∀(j i:Nat),ρ[j]?=some i->bB[i]?=d'[j]?:=λj i γ=>by
  have hi:=BF i (cf γ)
  have g6:j<d'.length:=by have:=(bU.1 γ).1;omega
  show(hQ B ρ d'++_)[i]?=_;rw[dW (by rw[qU];exact hi),aX g6];exact Ke ρ B d' ju BF j i _ γ (aX g6)
 have s2:∀i,i<σ.length->i∉ρ->jb[i]?=σ[i]?:=λi hi Ι=>by
  show(hQ σ ρ σ0++_)[i]?=_;rw[dW (by rw[qU];exact hi),Fq ρ _ _ Ι]
 have cF:∀i,i<σ.length->i∉ρ->bB[i]?=B[i]?:=λi hi Ι=>by
  show(hQ B ρ d'++_)[i]?=_;rw[dW (by rw[qU,ψ.len];exact hi),Fq ρ _ _ Ι]
 have zF:∀x,jb[σ.length+x]?=σ0[ρ.length+x]?:=λx=>by
  show(hQ σ ρ σ0++_)[_]?=_;rw[ha (by rw[qU];omega),qU,List.getElem?_drop];congr 1;omega
 have fD:∀x,bB[σ.length+x]?=d'[ρ.length+x]?:=λx=>by
  show(hQ B ρ d'++_)[_]?=_;rw[ha (by rw[qU,ψ.len];omega),qU,ψ.len,List.getElem?_drop];congr 1;omega
 have yd:∀(i:Nat) (r:Row),jb[i]?=some r->(i<σ.length/\i∉ρ/\σ[i]?=some r/\bB[i]?=B[i]?)\/∃j,σ0[j]?=some r/\bB[i]?=d'[j]?/\(∀eg bp,(eg<σ.length->ρ[bp]?=some eg)->(¬eg<σ.length->bp=ρ.length+(eg-σ.length))->j=bp->i=eg)/\((i<σ.length->ρ[j]?=some i)/\(¬i<σ.length->j=ρ.length+(i-σ.length))):=λi r ι=>by
  by_cases hi:i<σ.length
  ·by_cases Ι:i∈ρ
   ·obtain⟨j,γ⟩:=List.getElem?_of_mem Ι;refine .inr ⟨j,by rw[<-s1 j i γ];exact ι,bs j i γ,λeg bp J R e=>?_,λ_=>γ,λh=>absurd hi h⟩;subst e;by_cases dj:eg<σ.length
    ·have:=J dj;rw[γ] at this;cases this;rfl
    ·have:=R dj;have:=(bU.1 γ).1;omega
   ·exact .inl ⟨hi,Ι,by rw[<-s2 i hi Ι];exact ι,cF i hi Ι⟩
  ·have e:i=σ.length+(i-σ.length):=by omega
   refine .inr ⟨ρ.length+(i-σ.length),by rw[<-zF,<-e];exact ι,by rw[<-fD,<-e],λeg bp J R aA=>?_,λh=>absurd h hi,λ_=>rfl⟩;by_cases dj:eg<σ.length
   ·have:=(bU.1 (J dj)).1;omega
   ·have:=R dj;omega
 have Kg:bB.length=jb.length:=by
  show(hQ B ρ d'++d'.drop ρ.length).length=(hQ σ ρ σ0++σ0.drop ρ.length).length;simp[qU,ψ.len,SM]
 have BH:bQ S aj B bB σ jb:=⟨he.cX,λid r ι=>by
  have hi:=(bU.1 ι).1;by_cases Ι:id∈ρ
  ·obtain⟨j,γ⟩:=List.getElem?_of_mem Ι;have eP:hR[j]?=some r:=by rw[<-aY j id γ];exact ι
   obtain⟨r',Ξ,aa⟩:=Β.rows j r eP;exact⟨r',by rw[s1 j id γ];exact Ξ,by rw[bs j id γ,<-BG j id γ];exact aa⟩
  ·exact⟨r,by rw[s2 id hi Ι];exact ι,by rw[cF id hi Ι];exact r.rM _⟩⟩
 have BI:∀b,aH.has (ρ.map λi=>B.getD i none) b->∃j i N,ρ[j]?=some i/\B[i]?=some (some (b,N)):=λb ⟨N,b8⟩=>by
  obtain⟨j,γ⟩:=List.getElem?_of_mem b8;rw[List.getElem?_map] at γ;cases U:ρ[j]? with
  | none=>rw[U] at γ;cases γ
  | some i=>
   rw[U] at γ;simp only[Option.map_some,Option.some.injEq] at γ;have hi:=BF i (cf U);rw[List.getD_eq_getElem?_getD,aX hi] at γ;exact⟨j,i,N,U,by rw[aX hi];simpa using γ⟩
 have Kh:∀(j i:Nat),ρ[j]?=some i->∃r,σ[i]?=some r/\r.live/\iJ r:=λj i γ=>by
  have g6:j<hR.length:=by rw[<-hlen];exact(bU.1 γ).1
  have ι:=aX g6
  have χ:=g2 _ (cf ι);refine⟨_,by rw[aY j i γ];exact ι,?_,χ⟩;cases U:hR[j]<;>rw[U] at χ<;>first|trivial|exact χ.elim
 have BJ:∀(id:Nat) (r:Row) (b N:Nat),id∉ρ->σ[id]?=some r->r.live->B[id]?=some (some (b,N))->¬aH.has (ρ.map λi=>B.getD i none) b/\¬H.fresh b/\js H H' b:=λid r b N Ι ι eR hb=>by
  have c1:¬aH.has (ρ.map λi=>B.getD i none) b:=λaN=>by
   obtain⟨j,i,ey,J,R⟩:=BI b aN;obtain⟨r',Ξ,aa,_⟩:=Kh j i J;exact ψ.inj id i r r' b N ey (λe=>Ι (e▸cf J)) ι Ξ eR aa hb R
  have c2:=ψ.mD ι eR hb;exact⟨c1,c2,(he.e' b c1 c2).qC λo=>ψ.sep id r b N ι eR hb o⟩
 refine⟨⟨af.cX,Kg,λi r bo ι eC=>?_,λi j dT bW b fT fU gx hi γ hp dO gE cv=>?_,λi r b N ι eR hb o=>?_⟩,⟨he.cX,λb hb ab=>?_,λb hb=>?_,λb o v hv=>?_,he.grow⟩,BH,⟨λj i γ=>?_,λj i γ=>?_⟩⟩
 ·rcases yd i r ι with⟨Ξ,aa,aM,b9⟩|⟨j,Ξ,aa,_,_⟩
  ·by_cases eR:r.live
   ·rw[b9] at eC;refine(ψ.row i r bo aM eC).later BH (λb N e=>(BJ i r b N aa aM eR (by rw[eC,e])).2.2) λcJ left cur e=>?_;subst e;obtain⟨_,_,aI,jN,xs,clock,seen,_,Δ,⟨es,Ε⟩,_⟩:=ψ.row i _ bo aM eC;have nj:cJ∉ρ:=λhm=>by
     obtain⟨j,γ⟩:=List.getElem?_of_mem hm;obtain⟨r',er,_,jQ⟩:=Kh j cJ γ;rw[Ε] at er;cases er;exact jQ
    have Ki:=(bU.1 Ε).1;exact⟨s2 cJ Ki nj,cF cJ Ki nj,λb N hb=>(BJ cJ _ b N nj Ε trivial hb).2.2⟩
   ·cases r<;>first|exact absurd trivial eR|trivial
  ·rw[aa] at eC;exact(af.row j r bo Ξ eC).SK (B':=bB) (σ':=jb) (SL r (cf Ξ)) _ _
 ·have xE:∀(i:Nat) (dT:Row) (fT:Nat) (bp:Nat) (bW:Row) (fU:Nat),i∉ρ->σ[i]?=some dT->dT.live->B[i]?=some (some (b,fT))->σ0[bp]?=some bW->bW.live->d'[bp]?=some (some (b,fU))->False:=λi dT fT bp bW fU J R ς Κ aF aV fY=>by
   obtain⟨c1,c2,_⟩:=BJ i dT b fT J R ς Κ;rcases he.blocks b (nn fY) with h|h
   ·exact c1 h
   ·exact c2 h
  rcases yd i dT hi with⟨Ξ,aa,aM,b9⟩|⟨i0,Ξ,aa,aM,b9⟩<;>rcases yd j bW γ with⟨k1,cB,pI,ye⟩|⟨Ft,k1,cB,pI,ye⟩
  ·rw[b9] at gE;rw[ye] at cv;exact ψ.inj i j dT bW b fT fU gx aM pI hp dO gE cv
  ·rw[b9] at gE;rw[cB] at cv;exact xE i dT fT Ft bW fU aa aM hp gE k1 dO cv
  ·rw[aa] at gE;rw[ye] at cv;exact xE j bW fU i0 dT fT cB pI dO cv Ξ hp gE
  ·rw[aa] at gE;rw[cB] at cv;refine af.inj i0 Ft dT bW b fT fU (λe=>gx ?_) Ξ k1 hp dO gE cv;exact aM j Ft ye.1 ye.2 e
 ·rcases yd i r ι with⟨Ξ,aa,aM,b9⟩|⟨j,Ξ,aa,_,_⟩
  ·rw[b9] at hb;obtain⟨c1,c2,_⟩:=BJ i r b N aa aM eR hb;cases hv:aj b o with
   | none=>rfl
   | some v=>
    rcases he.pj b o v hv with h|h|h
    ·rw[ψ.sep i r b N aM eR hb o] at h;cases h
    ·exact absurd h c1
    ·exact absurd h c2
  ·rw[aa] at hb;exact af.sep j r b N Ξ eR hb o
 ·refine he.e' b (λaN=>hb ?_) ab;obtain⟨j,i,ey,_,R⟩:=BI b aN;exact nn R
 ·obtain⟨N,b8⟩:=hb;obtain⟨i,hi⟩:=List.getElem?_of_mem b8;have Fu:i<jb.length:=by rw[<-Kg];exact(bU.1 hi).1
  rcases yd i _ (aX Fu) with⟨Ξ,aa,aM,b9⟩|⟨j,Ξ,aa,_,_⟩
  ·rw[b9] at hi;exact .inl (nn hi)
  ·rw[aa] at hi;rcases he.blocks b (nn hi) with h|h
   ·obtain⟨j,eg,ey,_,R⟩:=BI b h;exact .inl (nn R)
   ·exact .inr h
 ·rcases he.pj b o v hv with h|h|h
  ·exact .inl h
  ·obtain⟨j,eg,ey,_,R⟩:=BI b h;exact .inr (.inl (nn R))
  ·exact .inr (.inr h)
 ·by_cases g6:j<ρ.length
  ·rw[dW g6] at γ;exact s1 j i γ
  ·rw[ha (by omega),List.getElem?_map] at γ;have tl:j-ρ.length<σ0.length-ρ.length:=by
    apply Classical.byContradiction;intro Ι;rw[List.getElem?_eq_none (by simp;omega)] at γ;cases γ
   rw[aX (by simpa using tl)] at γ;simp at γ;subst γ;rw[zF];congr 1;omega
 ·by_cases g6:j<ρ.length
  ·rw[dW g6] at γ;exact bs j i γ
  ·rw[ha (by omega),List.getElem?_map] at γ;have tl:j-ρ.length<σ0.length-ρ.length:=by
    apply Classical.byContradiction;intro Ι;rw[List.getElem?_eq_none (by simp;omega)] at γ;cases γ
   rw[aX (by simpa using tl)] at γ;simp at γ;subst γ;rw[fD];congr 1;omega
def names (ρ:List Nat) (n:Nat) (σ0:List Row):List Nat:=ρ++(List.range (σ0.length-ρ.length)).map (n + ·)
def qV (σ:List Row) (ρ:List Nat) (σ0:List Row):List Row:=hQ σ ρ σ0++σ0.drop ρ.length
theorem aC.Kj {g:FuncId} {as0:List ζ} {hR:List Row} {K:ζ->List Row->Prop} {E:ζ->List Row->Prop} (h:aC P g as0 hR K E) (ρ:List Nat) (ju:ρ.Nodup) (hlen:ρ.length=hR.length) (aY:∀(j i:Nat),ρ[j]?=some i->σ[i]?=hR[j]?) (g2:∀r∈hR,iJ r)
  (has:∀a∈as0,fH ρ.length a) {K':ζ->List Row->Prop} {E':ζ->List Row->Prop} (I:∀a s,K a s->(∀r∈s,yc r)/\fH s.length a/\K' (dP (names ρ σ.length s) a) (qV σ ρ s))
  (c7:∀a s,E a s->(∀r∈s,yc r)/\fH s.length a/\E' (dP (names ρ σ.length s) a) (qV σ ρ s)):aC P g (as0.map (dP ρ)) σ K' E':=by
 refine⟨h.1,λQ mn x c rest S B H vs U ψ hv kB=>?_⟩;have ar:∀(j i:Nat),ρ[j]?=some i->i<σ.length:=λj i γ=>by
  have g6:j<hR.length:=by rw[<-hlen];exact(bU.1 γ).1
  have:=aY j i γ;rw[aX g6] at this;exact(bU.1 this).1
 have BG:∀(j i:Nat),ρ[j]?=some i->(ρ.map λi=>B.getD i none)[j]?=B[i]?:=λj i γ=>by
  have hi:i<B.length:=by rw[ψ.len];exact ar j i γ
  rw[List.getElem?_map,γ];simp[hi]
 have jS:Names ρ (ρ.map λi=>B.getD i none) hR B σ:=⟨aY,λj i γ=>(BG j i γ).symm⟩
 have pick:∀(j:Nat) (r:Row) (bo:Option (Nat×Nat)),hR[j]?=some r->(ρ.map λi=>B.getD i none)[j]?=some bo->∃i,ρ[j]?=some i/\σ[i]?=some r/\B[i]?=some bo:=λj r bo ι eC=>by
  have g6:j<ρ.length:=by rw[hlen];exact(bU.1 ι).1
  have γ:=aX g6;exact⟨_,γ,by rw[aY j _ γ];exact ι,by rw[<-BG j _ γ];exact eC⟩
 have SN:Holds S (ρ.map λi=>B.getD i none) hR H:=by
  refine⟨ψ.cX,by simp[hlen],λj r bo ι eC=>?_,λi j dT bW b fT fU gx hi γ hp dO gE cv=>?_,λj r b N ι eR hb o=>?_⟩
  ·obtain⟨i,J,R,ς⟩:=pick j r bo ι eC;exact(ψ.row i r bo R ς).plain (B':=B) (σ':=σ) (g2 r (cf ι)) _ _
  ·obtain⟨eg,J,R,ς⟩:=pick i dT _ hi gE;obtain⟨bp,Ξ,aa,aM⟩:=pick j bW _ γ cv;refine ψ.inj eg bp dT bW b fT fU (λe=>gx ?_) R aa hp dO ς aM;subst e;have hP:=(bU.1 J).1;exact(List.getElem?_inj hP ju).1 (J.trans Ξ.symm)
  ·obtain⟨i,J,R,ς⟩:=pick j r _ ι hb;exact ψ.sep i r b N R eR ς o
 refine h.2 Q mn x c rest S _ H vs U SN ⟨by have:=hv.1;simpa using this,λi a v J R=>(Fs jS (has a (cf J))).1 (hv.2 i _ v (by rw[List.getElem?_map,J];rfl) R)⟩ ⟨λa σ' aj B' H' v Α he Β h' ι=>?_,λa σ' aj B' H' v Α he Β h' ι=>?_⟩
 ·obtain⟨er,fb,jQ⟩:=I a σ' Α;obtain⟨dU,p2,p3,p4⟩:=ψ.Kf ju hlen aY g2 he Β h' er;refine kB.ret _ _ aj _ H' v jQ p2 p3 dU ((Fs p4 ?_).2 ι);have:(ρ++(List.range (σ'.length-ρ.length)).map (σ.length + ·)).length=σ'.length:=by
   have:=Β.length;simp;omega
  rw[this];exact fb
 ·obtain⟨er,fb,jQ⟩:=c7 a σ' Α;obtain⟨dU,p2,p3,p4⟩:=ψ.Kf ju hlen aY g2 he Β h' er;refine kB.vr _ _ aj _ H' v jQ p2 p3 dU ((Fs p4 ?_).2 ι);have:(ρ++(List.range (σ'.length-ρ.length)).map (σ.length + ·)).length=σ'.length:=by
   have:=Β.length;simp;omega
  rw[this];exact fb
theorem aC.rows {g:FuncId} {as0:List ζ} {hR:List Row} {K:ζ->List Row->Prop} {E:ζ->List Row->Prop} (h:aC P g as0 hR K E) (ρ:List Nat) (ju:ρ.Nodup) (hlen:ρ.length=hR.length) (aY:∀(j i:Nat),ρ[j]?=some i->σ[i]?=hR[j]?) (g2:∀r∈hR,iJ r)
  (has:∀a∈as0,fH ρ.length a) {K':ζ->List Row->Prop} {E':ζ->List Row->Prop} (I:∀a s,K a s->(∀r∈s,iJ r)/\fH s.length a/\K' (dP (names ρ σ.length s) a) (qV σ ρ s))
  (c7:∀a s,E a s->(∀r∈s,iJ r)/\fH s.length a/\E' (dP (names ρ σ.length s) a) (qV σ ρ s)):aC P g (as0.map (dP ρ)) σ K' E':=
 h.Kj ρ ju hlen aY g2 has (λa s x=>let ⟨p,q⟩:=I a s x;⟨λr ι=>.inl (p r ι),q⟩) (λa s x=>let ⟨p,q⟩:=c7 a s x;⟨λr ι=>.inl (p r ι),q⟩)
end
def dr (a b:ζ):Prop:=∀(S:al) (B:aH) (σ:List Row) (v:Value),ah S B σ a v->ah S B σ b v
def aE (l m:List ζ):Prop:=l.length=m.length/\∀(i:Nat) (a b:ζ),l[i]?=some a->m[i]?=some b->dr a b
theorem dr.refl (a:ζ):dr a a:=λ_ _ _ _ h=>h
theorem dr.of {a b:ζ} (h:a=b):dr a b:=h▸.refl a
theorem dr.trans {a b c:ζ} (h:dr a b) (k:dr b c):dr a c:=λS B σ v x=>k S B σ v (h S B σ v x)
theorem aE.refl (l:List ζ):aE l l:=⟨rfl,λi a b h k=>by rw[h] at k;cases k;exact .refl a⟩
theorem aE.nil:aE [] []:=.refl []
theorem aE.cons {a b:ζ} {l m:List ζ} (h:dr a b) (k:aE l m):aE (a::l) (b::m):=⟨by simp[k.1],λi x y U ad=>by
 cases i with
 | zero=>simp at U ad;subst U;subst ad;exact h
 | succ i=>exact k.2 i x y (by simpa using U) (by simpa using ad)⟩
theorem dr.aR {l m:List ζ} (h:aE l m):dr (.aR l) (.aR m):=λS B σ v x=>by
 cases x with
 | aR vs J R=>
  refine .aR vs (h.1.symm.trans J) λi b v hi hv=>?_;have ar:i<l.length:=by rw[h.1];exact(bU.1 hi).1
  have κ:=aX ar;exact h.2 i _ b κ hi S B σ v (R i _ v κ hv)
theorem dr.bn {l m:List ζ} (h:aE l m):dr (.bn l) (.bn m):=λS B σ v x=>by
 cases x with
 | bn vs J R=>
  refine .bn vs (h.1.symm.trans J) λi b v hi hv=>?_;have ar:i<l.length:=by rw[h.1];exact(bU.1 hi).1
  have κ:=aX ar;exact h.2 i _ b κ hi S B σ v (R i _ v κ hv)
theorem dr.sl {e:Bool} {k:Nat} {l m:List ζ} (hlen:l.length=m.length) (h:∀(i:Nat) (a b:ζ),l[i]?=some a->m[i]?=some b->aE a.cells b.cells):dr (.sl e k l) (.sl false k m):=λS B σ v x=>by
 have up:∀(i:Nat) (b:ζ),m[i]?=some b->∃a,l[i]?=some a/\aE a.cells b.cells:=λi b hi=>by
  have ar:i<l.length:=by rw[hlen];exact(bU.1 hi).1
  exact⟨_,aX ar,h i _ b (aX ar) hi⟩
 cases x with
 | hN base cap η=>
  have:m=[]:=dk.1 hlen.symm;subst this;exact .hN base cap λx=>by cases x
 | sl b o cap w J R ς Κ aF=>
  rw[hlen];refine .sl b o cap w (λx=>by cases x) (by omega) (λi y hi=>?_) (λi y hi j c γ=>?_) (λi y hi j c γ=>?_)
  ·obtain⟨a,κ,jH⟩:=up i y hi;rw[<-jH.1];exact ς i a κ
  ·obtain⟨a,κ,jH⟩:=up i y hi;have ar:j<a.cells.length:=by rw[jH.1];exact(bU.1 γ).1
   exact Κ i a κ j _ (aX ar)
  ·obtain⟨a,κ,jH⟩:=up i y hi;have ar:j<a.cells.length:=by rw[jH.1];exact(bU.1 γ).1
   have η:=aX ar;exact jH.2 j _ c η γ S B σ _ (aF i a κ j _ η)
theorem dr.ex {e:Bool} {k:Nat} {l:List ζ}:dr (.sl e k l) (.sl false k l):=.sl rfl λi a b J R=>by rw[J] at R;cases R;exact .refl _
theorem dr.nil {e:Bool} {k Χ:Nat}:dr (.sl e k []) (.sl false Χ []):=λS B σ v x=>by
 have g:∀(l:List ζ),l=[]->ah S B σ (.sl e k l) v->ah S B σ (.sl false Χ []) v:=λl Β x=>by
  cases x with
  | hN base cap η=>exact .hN base cap λx=>by cases x
  | sl b o cap w J R ς Κ aF=>subst Β;exact .hN _ cap λx=>by cases x
 exact g [] rfl x
theorem dr.map {α:Type} {f g:α->ζ} {e:Bool} {k:Nat} {l:List α} (h:∀x∈l,aE (f x).cells (g x).cells):dr (.sl e k (l.map f)) (.sl false k (l.map g)):=.sl (by simp) λi a b J R=>by
 rw[List.getElem?_map] at J R;cases U:l[i]? with
 | none=>rw[U] at J;cases J
 | some x=>rw[U] at J R;cases J;cases R;exact h x (cf U)
theorem aE.one {a b:ζ} (h:dr a b) (κ:a.cells=[a]) (hb:b.cells=[b]):aE a.cells b.cells:=by rw[κ,hb];exact .cons h .nil
section
variable {P:Program} {σ:List Row}
theorem e6.vn {S:al} {B:aH} {l m:List ζ} {vs:Array Value} (h:aE l m) (k:e6 S B σ l vs):e6 S B σ m vs:=⟨h.1.symm.trans k.1,λi b v hi hv=>by
 have ar:i<l.length:=by rw[h.1];exact(bU.1 hi).1
 have κ:=aX ar;exact h.2 i _ b κ hi S B σ v (k.2 i _ v κ hv)⟩
theorem aC.mL {g:FuncId} {args fz:List ζ} {K K' E:ζ->List Row->Prop} (h:aC P g args σ K E) (κ:aE fz args) (I:∀a s,K a s->∃b,dr a b/\K' b s):aC P g fz σ K' E:=
 ⟨h.1,λQ mn x c rest S B H vs U ψ hv hb=>h.2 Q mn x c rest S B H vs U ψ (hv.vn κ) ⟨λa σ' aj B' H' v Α he Β h' ι=>by
  obtain⟨b,J,R⟩:=I a σ' Α;exact hb.ret b σ' aj B' H' v R he Β h' (J aj B' σ' v ι),hb.vr⟩⟩
def an (P:Program) (g:FuncId) (args:List ζ) (r:ζ):Prop:=aC P g args [] (λa s=>dr a r/\s=[]) (λ_ _=>False)
theorem an.ct {g:FuncId} {args fz:List ζ} {r:ζ} (h:an P g args r) (κ:aE fz args):x3 P g fz r:=aC.mL h κ λa s ⟨J,R⟩=>⟨r,J,rfl,R⟩
theorem an.c {g:FuncId} {args fz:List ζ} {r:ζ} {K E:ζ->List Row->Prop} (h:an P g args r) (κ:aE fz args) (hb:∀a∈fz,az 0 a) (ι:az 0 r) (I:K r σ):ht P (.fn (.func g) [] []) fz σ K E:=
 x3.call (first:=[]) (captured:=[]) (by simpa using h.ct κ) (by simpa using hb) ι I
theorem an.p {g:FuncId} {args fz:List ζ} {r:ζ} (h:an P g args r) (κ:aE fz args) (hb:∀a∈fz,az 0 a) (ι:az 0 r):ja P (.fn (.func g) [] []) fz r:=λ_=>h.c κ hb ι ⟨rfl,rfl⟩
theorem an.cc {g:FuncId} {args fz first captured:List ζ} {r:ζ} {K E:ζ->List Row->Prop} (h:an P g args r) (κ:aE (first++fz++captured) args) (hb:∀a∈first++fz++captured,az 0 a) (ι:az 0 r) (I:K r σ):ht P (.fn (.func g) first captured) fz σ K E:=
 x3.call (h.ct κ) hb ι I
end
theorem et.own {h id n k:Nat} {σ:List Row} {t:TypeId} {l:List ζ} (bS:h<=id) (bA:σ[id]?=some (.cells t k l)) (Ι:l.length=n) (hb:∀e∈l,∀a∈e.cells,az h a):et h σ (.ms id n 0 n) (.sl false k l):=by
 refine .ms bS bA Ι (by omega) Ι (λj e aA J R=>?_) (λj e aA J R x a b6 ς Κ=>?_)
 ·rw[Nat.zero_add] at J;rw[J] at R;cases R;rfl
 ·rw[Nat.zero_add] at J;rw[J] at R;cases R;rw[ς] at Κ;cases Κ;exact .low (hb e (cf J) a (cf ς))
end Go.TL
