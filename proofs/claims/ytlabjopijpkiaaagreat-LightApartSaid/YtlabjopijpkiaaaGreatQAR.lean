import Derived.Test.YtlabjopijpkiaaaGreatQAQ
set_option maxHeartbeats 16000000
set_option maxRecDepth 20000
set_option linter.unusedSectionVars false
set_option linter.unusedSimpArgs false
set_option linter.unusedVariables false
namespace Go.TL
open Go.Conc
variable [bd]
def yX (ops:Array Oper) (o:Oper):List Tmp:=
 (o.op.operands.toList.filterMap fun|.tmp t=>some t|_=>none)++(match o.guard with|some (g,_)=>((ops[g]?).bind (·.dst)).toList|none=>[])
def gP (o:Oper):List Nat:=(o.after.toList.filter (Region.binds .any)).map (·.on)
def yY:List Oper→List (List Nat)→List (List Nat)
 | [],acc=>acc
 | o::os,acc=>yY os (acc++[gP o++(gP o).flatMap fun j=>acc.getD j []])
def Cm (ops:Array Oper):List (List Nat):=yY ops.toList []
def lN (o:Oper):Bool:=match o.op with
 | .load _ _=>true
 | .indexAddr _ _ _=>true
 | .fieldAddr _ _ _=>true
 | .nilCheck _=>true
 | _=>false
def clash (ops:Array Oper) (tags:List Bool) (i j:Nat) (mD bP:Oper):Bool:=
 (match bP.dst with|some d=>(yX ops mD).contains d||mD.dst==some d|none=>false)||(match mD.dst with|some d=>(yX ops bP).contains d|none=>false)||(tags.getD i false&&tags.getD j false&&!(lN mD&&lN bP))
def km (ops:Array Oper) (tags:List Bool):Bool:=
 let b:=Cm ops
 (List.range ops.size).all fun i=>match ops[i]? with
  | none=>false
  | some mD=>(gP mD).all (fun j=>decide (j<i))&&(List.range i).all fun j=>match ops[j]? with
   | none=>false
   | some bP=>!clash ops tags i j mD bP||(b.getD i []).contains j
section
variable {P:Program} {T:a7} {A:List Nat} {m nt:Nat} {k:List Item} {env:Χ} {σ:List Row} {Z:List Item→Χ→List Row→Prop} {E:θ→Χ→List Row→Prop} {ops:Array Oper}
theorem W.congr {env':Χ} (h:∀i,a5 env' i=a5 env i) (hW:W P m nt k env σ Z E):W P m nt k env' σ Z E:=
 fun Q mn x cs b S B H t δ hb χ Ν he=>hW Q mn x cs b S B H t δ hb ⟨χ.holds,fun i=>by rw[←h i];exact χ.cj i,χ.size,χ.rows⟩ Ν he
theorem Lz (sD:Region.Mode):∀(fuel t:Nat) (listed:Array Bool) (i:Nat),Region.linearise.go sD ops fuel t listed [i]=i::Region.linearise.go sD ops fuel t listed []:=by
 have gen:∀(fuel t:Nat) (listed:Array Bool) (acc:List Nat),Region.linearise.go sD ops fuel t listed acc=acc.reverse++Region.linearise.go sD ops fuel t listed []:=by
  intro fuel
  induction fuel with
  | zero=>intro t listed acc;simp[Region.linearise.go]
  | succ fuel Γ=>
   intro t listed acc;simp only[Region.linearise.go];split
   ·rename_i i _;rw[Γ _ _ (i::acc),Γ _ _ [i]];simp
   ·simp
 intro fuel t listed i;rw[gen];rfl
theorem Cn (rD:∀i o,ops[i]?=some o→∀j∈gP o,j<i) (D:Nat→Prop) (dJ:∀i o,ops[i]?=some o→D i→∀j∈gP o,D j) :
  ∀(i:Nat) (o:Oper),ops[i]?=some o→(∀j∈gP o,D j)→∀j∈(Cm ops).getD i [],D j:=by
 have key:∀(os:List Oper) (acc:List (List Nat)),(∀x,os[x]?=ops[acc.length+x]?)→(∀i o,i<acc.length→ops[i]?=some o→(∀j∈gP o,D j)→∀j∈acc.getD i [],D j)→
   ∀i o,i<acc.length+os.length→ops[i]?=some o→(∀j∈gP o,D j)→∀j∈(yY os acc).getD i [],D j:=by
  intro os
  induction os with
  | nil=>intro acc _ h i o hi;exact h i o (by simpa using hi)
  | cons q os Γ=>
   intro acc Co h i o hi Β he;have Υ:ops[acc.length]?=some q:=by have:=Co 0;simpa using this.symm
   refine Γ (acc++[gP q++(gP q).flatMap fun j=>acc.getD j []]) (fun x=>?_) (fun i o hi Β he=>?_) i o (by simp at hi ⊢;omega) Β he
   ·have:=Co (x+1);simp only[List.getElem?_cons_succ] at this;rw[this];simp;congr 1;omega
   ·by_cases aE:i<acc.length
    ·rw[List.getD_eq_getElem?_getD,dU aE,←List.getD_eq_getElem?_getD];exact h i o aE Β he
    ·have a2:i=acc.length:=by simp at hi;omega
     subst a2;rw[Υ] at Β;cases Β;rw[List.getD_eq_getElem?_getD,hr (Nat.le_refl _)];simp only[Nat.sub_self,List.getElem?_cons_zero,Option.getD_some,List.mem_append,List.mem_flatMap];rintro j (ε|⟨y,Ο,ε⟩)
     ·exact he j ε
     ·have T6:=rD _ _ Υ y Ο
      have T7:y<ops.size:=by have:=(Array.getElem?_eq_some_iff.1 Υ).1;omega
      have LA:ops[y]?=some ops[y]:=eY T7;exact h y _ T6 LA (dJ y _ LA (he y Ο)) j ε
 intro i o Β he;exact key ops.toList [] (fun x=>by simp) (fun i o hi=>by simp at hi) i o (by have:=(Array.getElem?_eq_some_iff.1 Β).1;simpa using this) Β he
def oe (ops:Array Oper) (o:Oper) (env env':Χ):Prop:=∀t∈yX ops o,a5 env' t=a5 env t
def wA (P:Program) (m nt:Nat) (k:List Item) (Z:List Item→Χ→List Row→Prop) (E:θ→Χ→List Row→Prop) (ops:Array Oper) (i:Nat) (o:Oper) (env:Χ) (a:θ):Prop:=
 ∀env' σ' rest,oe ops o env env'→W P m nt (.inRegion ops rest::k) (b5 o env' a) σ' Z E→W P m nt (.inRegion ops (i::rest)::k) env' σ' Z E
def Gh (P:Program) (m nt:Nat) (k:List Item) (Z:List Item→Χ→List Row→Prop) (E:θ→Χ→List Row→Prop) (ops:Array Oper) (i:Nat) (o:Oper) (env:Χ) (σ:List Row) (a:θ) (ga:List Row):Prop:=
 ∀env' rest,oe ops o env env'→W P m nt (.inRegion ops rest::k) (b5 o env' a) ga Z E→W P m nt (.inRegion ops (i::rest)::k) env' σ Z E
def cW (ops:Array Oper) (env0:Χ) (as9:Nat→θ) (D:Nat→Bool):Nat→Χ
 | 0=>env0
 | n+1=>if D n then(match ops[n]? with|some o=>b5 o (cW ops env0 as9 D n) (as9 n)|none=>cW ops env0 as9 D n) else cW ops env0 as9 D n
theorem uK {o:Oper} {env:Χ} {a:θ} {t:Nat}:a5 (b5 o env a) t=if o.dst=some t then a else a5 env t:=by
 unfold b5;cases hd:o.dst with
 | none=>simp
 | some d=>simp[a5]
theorem wB {env0:Χ} {as9:Nat→θ} {D yZ:Nat→Bool} {t:Nat}:∀(n:Nat),(∀i o,i<n→ops[i]?=some o→o.dst=some t→D i=yZ i)→a5 (cW ops env0 as9 D n) t=a5 (cW ops env0 as9 yZ n) t:=by
 intro n
 induction n with
 | zero=>intro _;rfl
 | succ n Γ=>
  intro h;have uL:=Γ fun i o hi=>h i o (by omega);simp only[cW];cases Β:ops[n]? with
  | none=>cases D n<;>cases yZ n<;>simpa using uL
  | some o=>
   by_cases hd:o.dst=some t
   ·rw[h n o (Nat.lt_succ_self n) Β hd];cases yZ n
    ·simpa using uL
    ·simp[uK,hd]
   ·cases D n<;>cases yZ n<;>simp[uK,hd,uL]
theorem Cp {env0:Χ} {as9:Nat→θ} {D:Nat→Bool} {t:Nat} {n N:Nat} (Η:n≤N) (h:∀i o,n≤i→i<N→ops[i]?=some o→o.dst=some t→D i=false):a5 (cW ops env0 as9 D N) t=a5 (cW ops env0 as9 D n) t:=by
 induction N with
 | zero=>have:n=0:=by omega
         subst this;rfl
 | succ N Γ=>
  by_cases e:n=N+1
  ·subst e;rfl
  ·have uL:=Γ (by omega) fun i o R γ=>h i o R (by omega);simp only[cW];cases dJ:D N
   ·simpa using uL
   ·cases Β:ops[N]? with
    | none=>simpa using uL
    | some o=>
     have hd:o.dst≠some t:=fun hd=>by rw[h N o (by omega) (Nat.lt_succ_self N) Β hd] at dJ;cases dJ
     simp[uK,hd,uL]
def writer (ops:Array Oper) (tags:List Bool) (i:Nat):Bool:=tags.getD i false&&match ops[i]? with|some o=>!lN o|none=>true
theorem W.T8 {as9:Nat→θ} {σs:Nat→List Row} {tags:List Bool} {env0:Χ} (dA:km ops tags=true)
  (dR:∀i o,ops[i]?=some o→tags.getD i false=false→wA P m nt k Z E ops i o (cW ops env0 as9 (fun _=>true) i) (as9 i)∧σs (i+1)=σs i)
  (fS:∀i o,ops[i]?=some o→tags.getD i false=true→Gh P m nt k Z E ops i o (cW ops env0 as9 (fun _=>true) i) (σs i) (as9 i) (σs (i+1))∧(lN o=true→σs (i+1)=σs i))
  (Gi:W P m nt (.inRegion ops []::k) (cW ops env0 as9 (fun _=>true) ops.size) (σs ops.size) Z E) :
  ∀(fuel:Nat) (t:Nat) (listed:Array Bool) (env:Χ) (cD:Nat),listed.size=ops.size→
   (∀i,a5 env i=a5 (cW ops env0 as9 (fun i=>listed.getD i false) ops.size) i)→
   (∀i o,ops[i]?=some o→listed.getD i false=true→∀j∈gP o,listed.getD j false=true)→
   cD≤ops.size→(∀j,j<ops.size→writer ops tags j=true→(listed.getD j false=true↔j<cD))→
   ((List.range ops.size).filter fun i=>!listed.getD i false).length≤fuel→
   W P m nt (.inRegion ops (Region.linearise.go .any ops fuel t listed [])::k) env (σs cD) Z E:=by
 have uM:∀i o,ops[i]?=some o→(∀j∈gP o,j<i)∧∀j bP,j<i→ops[j]?=some bP→clash ops tags i j o bP=true→j∈(Cm ops).getD i []:=by
  intro i o Β;have hi:i<ops.size:=(Array.getElem?_eq_some_iff.1 Β).1;unfold km at dA;simp only[List.all_eq_true,List.mem_range] at dA;have h:=dA i hi;rw[Β] at h;simp only[Bool.and_eq_true,List.all_eq_true,decide_eq_true_eq,List.mem_range] at h;refine⟨h.1,fun j bP ε di η=>?_⟩;have γ:=h.2 j ε;rw[di] at γ;simp only[η,Bool.not_true,Bool.false_or,List.contains_iff_mem] at γ;exact γ
 have rD:∀i o,ops[i]?=some o→∀j∈gP o,j<i:=fun i o Β=>(uM i o Β).1
 have Cq:∀i o,ops[i]?=some o→writer ops tags i=false→σs (i+1)=σs i:=fun i o Β hw=>by
  cases Μ:tags.getD i false with
  | false=>exact(dR i o Β Μ).2
  | true=>
   refine(fS i o Β Μ).2 ?_;unfold writer at hw;rw[Μ,Β] at hw;simpa using hw
 have y0:∀(d a:Nat),a+d≤ops.size→(∀j,a≤j→j<a+d→writer ops tags j=false)→σs (a+d)=σs a:=by
  intro d
  induction d with
  | zero=>intro a _ _;rfl
  | succ d Γ=>
   intro a hle h;have R:ops[a+d]?=some ops[a+d]:=eY (by omega);have:=Cq (a+d) _ R (h (a+d) (by omega) (by omega));rw[show a+(d+1)=a+d+1 by omega,this];exact Γ a (by omega) fun j R γ=>h j R (by omega)
 have LB:∀a b,a≤ops.size→b≤ops.size→(∀j,j<ops.size→writer ops tags j=true→(j<a↔j<b))→σs a=σs b:=fun a b μ hb h=>by
  rcases Nat.le_total a b with hle|hle
  ·have:=y0 (b-a) a (by omega) fun j R γ=>by
    cases Μ:writer ops tags j with
    | false=>rfl
    | true=>have:=(h j (by omega) Μ).2 (by omega);omega
   rw[show a+(b-a)=b by omega] at this;exact this.symm
  ·have:=y0 (a-b) b (by omega) fun j R γ=>by
    cases Μ:writer ops tags j with
    | false=>rfl
    | true=>have:=(h j (by omega) Μ).1 (by omega);omega
   rw[show b+(a-b)=a by omega] at this;exact this
 intro fuel;have done:∀(t:Nat) (listed:Array Bool) (env:Χ) (cD:Nat),(∀i,i<ops.size→listed.getD i false=true)→(∀i,a5 env i=a5 (cW ops env0 as9 (fun i=>listed.getD i false) ops.size) i)→cD≤ops.size→
   (∀j,j<ops.size→writer ops tags j=true→(listed.getD j false=true↔j<cD))→W P m nt (.inRegion ops []::k) env (σs cD) Z E:=fun t listed env cD hs cC ib hS=>by
  have Ε:σs cD=σs ops.size:=LB cD ops.size ib (Nat.le_refl _) fun j ε Μ=>by rw[←hS j ε Μ];simp[hs j ε,ε]
  rw[Ε];refine .congr (fun i=>?_) Gi;rw[cC i];exact wB ops.size fun i o hi _ _=>hs i hi
 have Gj:∀listed:Array Bool,listed.size=ops.size→(∃i,i<ops.size∧listed.getD i false=false)→∃i,i<ops.size∧listed.getD i false=false∧∀j,j<i→listed.getD j false=true:=fun listed cd ⟨i,hi,ω⟩=>by
  induction i using Nat.strongRecOn with
  | _ i Γ=>
   by_cases ε:∃j,j<i∧listed.getD j false=false
   ·obtain⟨j,R,γ⟩:=ε;exact Γ j R (by omega) γ
   ·exact⟨i,hi,ω,fun j bh=>by
     cases h:listed.getD j false with
     | true=>rfl
     | false=>exact absurd ⟨j,bh,h⟩ ε⟩
 induction fuel with
 | zero=>
  intro t listed env cD cd cC bY ib hS Gk;have hs:∀i,i<ops.size→listed.getD i false=true:=fun i hi=>by
   cases h:listed.getD i false with
   | true=>rfl
   | false=>
    have jw:i∈(List.range ops.size).filter fun i=>!listed.getD i false:=by rw[List.mem_filter];exact⟨List.mem_range.2 hi,by rw[h];rfl⟩
    have:((List.range ops.size).filter fun i=>!listed.getD i false)=[]:=dq.1 (by omega);rw[this] at jw;simp at jw
  exact done t listed env cD hs cC ib hS
 | succ fuel Γ=>
  intro t listed env cD cd cC bY ib hS Gk;simp only[Region.linearise.go];generalize js:((List.range ops.size).filter fun i=>!listed.getD i true&&((ops[i]?).map (·.after.all fun e=>!Region.binds .any e||listed.getD e.on false)).getD false)=rs;have y1:∀i,i<ops.size→listed.getD i true=listed.getD i false:=fun i hi=>by
   rw[Array.getD_eq_getD_getElem?,Array.getD_eq_getD_getElem?,eY (by omega)];rfl
  have y2:∀i,i∈rs↔i<ops.size∧listed.getD i false=false∧∀o,ops[i]?=some o→∀j∈gP o,listed.getD j false=true:=fun i=>by
   rw[←js];simp only[List.mem_filter,List.mem_range,Bool.and_eq_true,Bool.not_eq_true'];constructor
   ·rintro⟨R,γ,ο⟩;rw[y1 i R] at γ;refine⟨R,γ,fun o Β j ε=>?_⟩;rw[Β] at ο;simp only[Option.map_some,Option.getD_some,Array.all_eq_true'] at ο;unfold gP at ε;simp only[List.mem_map,List.mem_filter] at ε;obtain⟨e,⟨Gl,mE⟩,rfl⟩:=ε;have:=ο e (by simpa using Gl);simpa[mE] using this
   ·rintro⟨R,γ,ο⟩;refine⟨R,by rw[y1 i R];exact γ,?_⟩;have Β:ops[i]?=some ops[i]:=eY R;rw[Β];simp only[Option.map_some,Option.getD_some,Array.all_eq_true'];intro e he;by_cases hb:Region.binds .any e=true
    ·have:=ο _ Β e.on (by unfold gP;simp only[List.mem_map,List.mem_filter];exact⟨e,⟨by simpa using he,hb⟩,rfl⟩);simp[this]
    ·simp[hb]
  cases hi:rs[t % rs.length]? with
  | none=>
   simp only[List.reverse_nil];have yf:rs=[]:=by
    cases κ:rs with
    | nil=>rfl
    | cons x xs=>
     rw[κ] at hi;have aE:t % (x::xs).length<(x::xs).length:=Nat.mod_lt _ (by simp);rw[bc aE] at hi;cases hi
   have hs:∀i,i<ops.size→listed.getD i false=true:=fun i a2=>by
    cases h:listed.getD i false with
    | true=>rfl
    | false=>
     obtain⟨r,R,γ,ο⟩:=Gj listed cd ⟨i,a2,h⟩;have:r∈rs:=(y2 r).2 ⟨R,γ,fun o Β j ε=>ο j (rD r o Β j ε)⟩;rw[yf] at this;simp at this
   exact done t listed env cD hs cC ib hS
  | some i=>
   simp only;rw[Lz];have jw:i∈rs:=cl hi;obtain⟨R,γ,ο⟩:=(y2 i).1 jw;have Β:ops[i]?=some ops[i]:=eY R;have Gm:=Cn rD (fun j=>listed.getD j false=true) (fun j o ε ω=>bY j o ε ω) i _ Β (ο _ Β);have low:∀j bP,j<i→ops[j]?=some bP→clash ops tags i j ops[i] bP=true→listed.getD j false=true:=fun j bP ε di η=>Gm j ((uM i _ Β).2 j bP ε di η);have high:∀j bP,i<j→ops[j]?=some bP→clash ops tags j i bP ops[i]=true→listed.getD j false=false:=fun j bP ε di η=>by
    cases ω:listed.getD j false with
    | false=>rfl
    | true=>
     have:=Cn rD (fun j=>listed.getD j false=true) (fun j o ε ω=>bY j o ε ω) j bP di (bY j bP di ω) i ((uM j bP di).2 i _ ε Β η);rw[γ] at this;cases this
   have same:oe ops ops[i] (cW ops env0 as9 (fun _=>true) i) env:=fun x δ=>by
    rw[cC x];have c1:a5 (cW ops env0 as9 (fun i=>listed.getD i false) ops.size) x=a5 (cW ops env0 as9 (fun i=>listed.getD i false) i) x:=Cp (by omega) fun j bP wC Gn di hd=>by
     by_cases e:j=i
     ·subst e;exact γ
     ·refine high j bP (by omega) di ?_;unfold clash;simp[hd,δ]
    rw[c1];exact wB i fun j bP ε di hd=>low j bP ε di (by unfold clash;simp[hd,δ])
   have mr:∀x,a5 (b5 ops[i] env (as9 i)) x=a5 (cW ops env0 as9 (fun j=>(listed.setIfInBounds i true).getD j false) ops.size) x:=fun x=>by
    have jy:∀j,(listed.setIfInBounds i true).getD j false=if j=i then true else listed.getD j false:=fun j=>by
     rw[Array.getD_eq_getD_getElem?,Array.getD_eq_getD_getElem?];by_cases e:j=i
     ·subst e;rw[Array.getElem?_setIfInBounds_self_of_lt (by omega)];simp
     ·rw[Array.getElem?_setIfInBounds_ne (Ne.symm e),if_neg e]
    rw[uK];by_cases hd:ops[i].dst=some x
    ·rw[if_pos hd];have c1:a5 (cW ops env0 as9 (fun j=>(listed.setIfInBounds i true).getD j false) ops.size) x=a5 (cW ops env0 as9 (fun j=>(listed.setIfInBounds i true).getD j false) (i+1)) x:=Cp (by omega) fun j bP wC Gn di sS=>by
      rw[jy,if_neg (by omega)];refine high j bP (by omega) di ?_;unfold clash;simp[hd,sS]
     rw[c1];simp only[cW,jy,if_true,Β,uK,hd]
    ·rw[if_neg hd,cC x];exact wB ops.size fun j bP ε di sS=>by
      rw[jy,if_neg];intro e;subst e;rw[Β] at di;cases di;exact hd sS
   have jy:∀j,(listed.setIfInBounds i true).getD j false=if j=i then true else listed.getD j false:=fun j=>by
    rw[Array.getD_eq_getD_getElem?,Array.getD_eq_getD_getElem?];by_cases e:j=i
    ·subst e;rw[Array.getElem?_setIfInBounds_self_of_lt (by omega)];simp
    ·rw[Array.getElem?_setIfInBounds_ne (Ne.symm e),if_neg e]
   have uN:((List.range ops.size).filter fun j=>!(listed.setIfInBounds i true).getD j false).length≤fuel:=by
    have aE:((List.range ops.size).filter fun j=>!(listed.setIfInBounds i true).getD j false).length<((List.range ops.size).filter fun j=>!listed.getD j false).length:=by
     have:((List.range ops.size).filter fun j=>!(listed.setIfInBounds i true).getD j false)=((List.range ops.size).filter fun j=>!listed.getD j false).filter fun j=>j != i:=by
      rw[List.filter_filter];apply List.filter_congr;intro j _;rw[jy];by_cases e:j=i
      ·subst e;simp
      ·simp[e]
     rw[this];have hm:i∈(List.range ops.size).filter fun j=>!listed.getD j false:=by
      rw[List.mem_filter];exact⟨List.mem_range.2 R,by rw[γ];rfl⟩
     exact List.length_filter_lt_length_iff_exists.2 ⟨i,hm,by simp⟩
    omega
   have qq:∀j o,ops[j]?=some o→(listed.setIfInBounds i true).getD j false=true→∀y∈gP o,(listed.setIfInBounds i true).getD y false=true:=fun j o ε ω y Ο=>by
    rw[jy] at ω ⊢;by_cases e:y=i
    ·rw[if_pos e]
    ·rw[if_neg e];by_cases Δ:j=i
     ·subst Δ;rw[Β] at ε;cases ε;exact ο _ Β y Ο
     ·rw[if_neg Δ] at ω;exact bY j o ε ω y Ο
   have LC:∀j,writer ops tags j=true→tags.getD j false=true:=fun j h=>by
    unfold writer at h;rw[Bool.and_eq_true] at h;exact h.1
   cases mF:tags.getD i false with
   | false=>
    refine(dR i _ Β mF).1 env (σs cD) _ same ?_;refine Γ _ _ _ cD (by simpa using cd) mr qq ib (fun j ε Μ=>?_) uN;rw[jy];have:j≠i:=fun e=>by subst e;rw[LC j Μ] at mF;cases mF
    rw[if_neg this];exact hS j ε Μ
   | true=>
    have LD:∀j bP,ops[j]?=some bP→writer ops tags j=true→clash ops tags i j ops[i] bP=true∧clash ops tags j i bP ops[i]=true:=fun j bP di Μ=>by
     have R:=LC j Μ;unfold writer at Μ;rw[R,di] at Μ;have γ:lN bP=false:=by simpa using Μ
     unfold clash;rw[R,mF,γ];simp
    have sm:∀j,j<ops.size→writer ops tags j=true→j<i→listed.getD j false=true:=fun j ε Μ uO=>low j _ uO (eY ε) (LD j _ (eY ε) Μ).1
    have LF:∀j,j<ops.size→writer ops tags j=true→i<j→listed.getD j false=false:=fun j ε Μ uO=>high j _ uO (eY ε) (LD j _ (eY ε) Μ).2
    have Gp:σs cD=σs i:=LB cD i ib (by omega) fun j ε Μ=>by
     rw[←hS j ε Μ];constructor
     ·intro ω;apply Classical.byContradiction;intro Η;by_cases e:j=i
      ·subst e;rw[γ] at ω;cases ω
      ·rw[LF j ε Μ (by omega)] at ω;cases ω
     ·exact sm j ε Μ
    cases kn:writer ops tags i with
    | false=>
     have es:=Cq i _ Β kn
     have ξ:=(fS i _ Β mF).1;rw[es] at ξ;rw[Gp];refine ξ env _ same ?_;rw[←Gp];refine Γ _ _ _ cD (by simpa using cd) mr qq ib (fun j ε Μ=>?_) uN;rw[jy];have:j≠i:=fun e=>by subst e;rw[Μ] at kn;cases kn
     rw[if_neg this];exact hS j ε Μ
    | true=>
     rw[Gp];refine(fS i _ Β mF).1 env _ same ?_;refine Γ _ _ _ (i+1) (by simpa using cd) mr qq (by omega) (fun j ε Μ=>?_) uN;rw[jy];by_cases e:j=i
     ·subst e;simp
     ·rw[if_neg e];constructor
      ·intro ω;apply Classical.byContradiction;intro Η;rw[LF j ε Μ (by omega)] at ω;cases ω
      ·intro aE;exact sm j ε Μ (by omega)
def Cr:List Oper→List Nat→List Nat
 | [],acc=>acc
 | o::os,acc=>Cr os (acc++[(gP o).foldr (fun j m=>(1 <<< j)|||acc.getD j 0|||m) 0])
def LG (ops:Array Oper) (tags:List Bool):Bool:=
 let b:=Cr ops.toList []
 (List.range ops.size).all fun i=>match ops[i]? with
  | none=>false
  | some mD=>(gP mD).all (fun j=>decide (j<i))&&(List.range i).all fun j=>match ops[j]? with
   | none=>false
   | some bP=>!clash ops tags i j mD bP||(b.getD i 0).testBit j
def LH (acc:List (List Nat)) (sT:List Nat):Prop:=acc.length=sT.length∧∀i j,(sT.getD i 0).testBit j=true↔j∈acc.getD i []
theorem T9:∀(os:List Oper) (acc:List (List Nat)) (sT:List Nat),LH acc sT→LH (yY os acc) (Cr os sT):=by
 intro os
 induction os with
 | nil=>intro acc sT h;exact h
 | cons o os Γ=>
  intro acc sT h;simp only[yY,Cr];refine Γ _ _ ⟨by simp[h.1],fun i j=>?_⟩;have one:∀l:List Nat,(l.foldr (fun j m=>(1 <<< j)|||sT.getD j 0|||m) 0).testBit j=true↔j∈l++l.flatMap fun j=>acc.getD j []:=by
   intro l
   induction l with
   | nil=>simp
   | cons a l lH=>
    rw[List.foldr_cons,Nat.testBit_or,Nat.testBit_or,Nat.one_shiftLeft,Nat.testBit_two_pow];simp only[Bool.or_eq_true,decide_eq_true_eq,h.2 a j,lH,List.mem_append,List.mem_cons,List.flatMap_cons];constructor
    ·rintro((e|e)|e|e)
     ·exact .inl (.inl e.symm)
     ·exact .inr (.inl e)
     ·exact .inl (.inr e)
     ·exact .inr (.inr e)
    ·rintro((e|e)|e|e)
     ·exact .inl (.inl e.symm)
     ·exact .inr (.inl e)
     ·exact .inl (.inr e)
     ·exact .inr (.inr e)
  rw[List.getD_eq_getElem?_getD,List.getD_eq_getElem?_getD];by_cases hi:i<acc.length
  ·rw[dU hi,dU (by rw[←h.1];exact hi),←List.getD_eq_getElem?_getD,←List.getD_eq_getElem?_getD];exact h.2 i j
  ·rw[hr (by have:=h.1;omega),hr (by omega),←h.1];cases hd:i-acc.length with
   | zero=>simpa using one (gP o)
   | succ n=>simp
theorem bL {ops:Array Oper} {tags:List Bool} (h:LG ops tags=true):km ops tags=true:=by
 unfold LG at h;unfold km;have hb:=T9 ops.toList [] [] ⟨rfl,fun i j=>by simp⟩;simp only[List.all_eq_true] at h ⊢;intro i hi;have R:=h i hi;cases Β:ops[i]? with
 | none=>rw[Β] at R;exact R
 | some mD=>
  rw[Β] at R;simp only[Bool.and_eq_true,List.all_eq_true] at R ⊢;refine⟨R.1,fun j ε=>?_⟩;have γ:=R.2 j ε;cases di:ops[j]? with
  | none=>rw[di] at γ;exact γ
  | some bP=>
   rw[di] at γ;simp only[Bool.or_eq_true] at γ ⊢;rcases γ with γ|γ
   ·exact .inl γ
   ·exact .inr (List.contains_iff_mem.2 ((hb.2 i j).1 γ))
end
end Go.TL
