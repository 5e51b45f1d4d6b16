import Derived.Test.YtlabjopijpkiaaaGreatVAJ
set_option maxHeartbeats 16000000
set_option maxRecDepth 20000
set_option linter.unusedSectionVars false
set_option linter.unusedSimpArgs false
set_option linter.unusedVariables false
namespace Go.TL
open Go.Conc
variable [bn]
def zV (ops:Array Oper) (o:Oper):List Tmp:=
 (o.op.operands.toList.filterMap fun|.tmp t=>some t|_=>none)++(match o.guard with|some (g,_)=>((ops[g]?).bind (·.dst)).toList|none=>[])
def hk (o:Oper):List Nat:=(o.after.toList.filter (Region.binds .any)).map (·.on)
def zW:List Oper->List (List Nat)->List (List Nat)
 | [],acc=>acc
 | o::os,acc=>zW os (acc++[hk o++(hk o).flatMap λj=>acc.getD j []])
def Dv (ops:Array Oper):List (List Nat):=zW ops.toList []
def mN (o:Oper):Bool:=match o.op with
 | .load _ _=>true
 | .indexAddr _ _ _=>true
 | .fieldAddr _ _ _=>true
 | .nilCheck _=>true
 | _=>false
def clash (ops:Array Oper) (tags:List Bool) (i j:Nat) (nC bY:Oper):Bool:=
 (match bY.dst with|some d=>(zV ops nC).contains d||nC.dst==some d|none=>false)||(match nC.dst with|some d=>(zV ops bY).contains d|none=>false)||(tags.getD i false&&tags.getD j false&&!(mN nC&&mN bY))
def lh (ops:Array Oper) (tags:List Bool):Bool:=
 let b:=Dv ops
 (List.range ops.size).all λi=>match ops[i]? with
  | none=>false
  | some nC=>(hk nC).all (λj=>decide (j<i))&&(List.range i).all λj=>match ops[j]? with
   | none=>false
   | some bY=>!clash ops tags i j nC bY||(b.getD i []).contains j
section
variable {P:Program} {T:bb} {A:List Nat} {m nt:Nat} {k:List Item} {env:Ω} {σ:List Row} {Z:List Item->Ω->List Row->Prop} {E:θ->Ω->List Row->Prop} {ops:Array Oper}
theorem W.congr {env':Ω} (h:∀i,a9 env' i=a9 env i) (hW:W P m nt k env σ Z E):W P m nt k env' σ Z E:=
 λQ mn x cs b S B H t γ hb ψ Τ he=>hW Q mn x cs b S B H t γ hb ⟨ψ.holds,λi=>by rw[<-h i];exact ψ.cA i,ψ.size,ψ.rows⟩ Τ he
theorem MO (tF:Region.Mode):∀(fuel t:Nat) (listed:Array Bool) (i:Nat),Region.linearise.go tF ops fuel t listed [i]=i::Region.linearise.go tF ops fuel t listed []:=by
 have gen:∀(fuel t:Nat) (listed:Array Bool) (acc:List Nat),Region.linearise.go tF ops fuel t listed acc=acc.reverse++Region.linearise.go tF ops fuel t listed []:=by
  intro fuel
  induction fuel with
  | zero=>intro t listed acc;simp[Region.linearise.go]
  | succ fuel Β=>
   intro t listed acc;simp only[Region.linearise.go];split
   ·rename_i i _;rw[Β _ _ (i::acc),Β _ _ [i]];simp
   ·simp
 intro fuel t listed i;rw[gen];rfl
theorem Dw (sD:∀i o,ops[i]?=some o->∀j∈hk o,j<i) (D:Nat->Prop) (et:∀i o,ops[i]?=some o->D i->∀j∈hk o,D j) :
  ∀(i:Nat) (o:Oper),ops[i]?=some o->(∀j∈hk o,D j)->∀j∈(Dv ops).getD i [],D j:=by
 have key:∀(os:List Oper) (acc:List (List Nat)),(∀x,os[x]?=ops[acc.length+x]?)->(∀i o,i<acc.length->ops[i]?=some o->(∀j∈hk o,D j)->∀j∈acc.getD i [],D j)->
   ∀i o,i<acc.length+os.length->ops[i]?=some o->(∀j∈hk o,D j)->∀j∈(zW os acc).getD i [],D j:=by
  intro os
  induction os with
  | nil=>intro acc _ h i o hi;exact h i o (by simpa using hi)
  | cons q os Β=>
   intro acc Dx h i o hi ω he;have Φ:ops[acc.length]?=some q:=by have:=Dx 0;simpa using this.symm
   refine Β (acc++[hk q++(hk q).flatMap λj=>acc.getD j []]) (λx=>?_) (λi o hi ω he=>?_) i o (by simp at hi ⊢;omega) ω he
   ·have:=Dx (x+1);simp only[List.getElem?_cons_succ] at this;rw[this];simp;congr 1;omega
   ·by_cases aP:i<acc.length
    ·rw[List.getD_eq_getElem?_getD,ev aP,<-List.getD_eq_getElem?_getD];exact h i o aP ω he
    ·have aD:i=acc.length:=by simp at hi;omega
     subst aD;rw[Φ] at ω;cases ω;rw[List.getD_eq_getElem?_getD,h6 (Nat.le_refl _)];simp only[Nat.sub_self,List.getElem?_cons_zero,Option.getD_some,List.mem_append,List.mem_flatMap];rintro j (ε|⟨y,Ι,ε⟩)
     ·exact he j ε
     ·have Vv:=sD _ _ Φ y Ι
      have Vw:y<ops.size:=by have:=(Array.getElem?_eq_some_iff.1 Φ).1;omega
      have MP:ops[y]?=some ops[y]:=fq Vw;exact h y _ Vv MP (et y _ MP (he y Ι)) j ε
 intro i o ω he;exact key ops.toList [] (λx=>η) (λi o hi=>by simp at hi) i o (by have:=(Array.getElem?_eq_some_iff.1 ω).1;simpa using this) ω he
def oY (ops:Array Oper) (o:Oper) (env env':Ω):Prop:=∀t∈zV ops o,a9 env' t=a9 env t
def xL (P:Program) (m nt:Nat) (k:List Item) (Z:List Item->Ω->List Row->Prop) (E:θ->Ω->List Row->Prop) (ops:Array Oper) (i:Nat) (o:Oper) (env:Ω) (a:θ):Prop:=
 ∀env' σ' rest,oY ops o env env'->W P m nt (.inRegion ops rest::k) (cj o env' a) σ' Z E->W P m nt (.inRegion ops (i::rest)::k) env' σ' Z E
def Hq (P:Program) (m nt:Nat) (k:List Item) (Z:List Item->Ω->List Row->Prop) (E:θ->Ω->List Row->Prop) (ops:Array Oper) (i:Nat) (o:Oper) (env:Ω) (σ:List Row) (a:θ) (gK:List Row):Prop:=
 ∀env' rest,oY ops o env env'->W P m nt (.inRegion ops rest::k) (cj o env' a) gK Z E->W P m nt (.inRegion ops (i::rest)::k) env' σ Z E
def di (ops:Array Oper) (env0:Ω) (as9:Nat->θ) (D:Nat->Bool):Nat->Ω
 | 0=>env0
 | n+1=>if D n then(match ops[n]? with|some o=>cj o (di ops env0 as9 D n) (as9 n)|none=>di ops env0 as9 D n) else di ops env0 as9 D n
theorem vO {o:Oper} {env:Ω} {a:θ} {t:Nat}:a9 (cj o env a) t=if o.dst=some t then a else a9 env t:=by
 unfold cj;cases hd:o.dst with
 | none=>simp
 | some d=>simp[a9]
theorem xM {env0:Ω} {as9:Nat->θ} {D zX:Nat->Bool} {t:Nat}:∀(n:Nat),(∀i o,i<n->ops[i]?=some o->o.dst=some t->D i=zX i)->a9 (di ops env0 as9 D n) t=a9 (di ops env0 as9 zX n) t:=by
 intro n
 induction n with
 | zero=>intro _;rfl
 | succ n Β=>
  intro h;have vP:=Β λi o hi=>h i o R;simp only[di];cases ω:ops[n]? with
  | none=>cases D n<;>cases zX n<;>simpa using vP
  | some o=>
   by_cases hd:o.dst=some t
   ·rw[h n o (Nat.lt_succ_self n) ω hd];cases zX n
    ·simpa using vP
    ·simp[vO,hd]
   ·cases D n<;>cases zX n<;>simp[vO,hd,vP]
theorem Dy {env0:Ω} {as9:Nat->θ} {D:Nat->Bool} {t:Nat} {n N:Nat} (Ζ:n<=N) (h:∀i o,n<=i->i<N->ops[i]?=some o->o.dst=some t->D i=false):a9 (di ops env0 as9 D N) t=a9 (di ops env0 as9 D n) t:=by
 induction N with
 | zero=>have:n=0:=by omega
         subst this;rfl
 | succ N Β=>
  by_cases e:n=N+1
  ·subst e;rfl
  ·have vP:=Β R λi o J U=>h i o J R;simp only[di];cases et:D N
   ·simpa using vP
   ·cases ω:ops[N]? with
    | none=>simpa using vP
    | some o=>
     have hd:o.dst≠some t:=λhd=>by rw[h N o R (Nat.lt_succ_self N) ω hd] at et;cases et
     simp[vO,hd,vP]
def writer (ops:Array Oper) (tags:List Bool) (i:Nat):Bool:=tags.getD i false&&match ops[i]? with|some o=>!mN o|none=>true
theorem W.Vx {as9:Nat->θ} {σs:Nat->List Row} {tags:List Bool} {env0:Ω} (dY:lh ops tags=true)
  (cB:∀i o,ops[i]?=some o->tags.getD i false=false->xL P m nt k Z E ops i o (di ops env0 as9 (λ_=>true) i) (as9 i)/\σs (i+1)=σs i)
  (fh:∀i o,ops[i]?=some o->tags.getD i false=true->Hq P m nt k Z E ops i o (di ops env0 as9 (λ_=>true) i) (σs i) (as9 i) (σs (i+1))/\(mN o=true->σs (i+1)=σs i))
  (Hr:W P m nt (.inRegion ops []::k) (di ops env0 as9 (λ_=>true) ops.size) (σs ops.size) Z E) :
  ∀(fuel:Nat) (t:Nat) (listed:Array Bool) (env:Ω) (cC:Nat),listed.size=ops.size->
   (∀i,a9 env i=a9 (di ops env0 as9 (λi=>listed.getD i false) ops.size) i)->
   (∀i o,ops[i]?=some o->listed.getD i false=true->∀j∈hk o,listed.getD j false=true)->
   cC<=ops.size->(∀j,j<ops.size->writer ops tags j=true->(listed.getD j false=true↔j<cC))->
   ((List.range ops.size).filter λi=>!listed.getD i false).length<=fuel->
   W P m nt (.inRegion ops (Region.linearise.go .any ops fuel t listed [])::k) env (σs cC) Z E:=by
 have vQ:∀i o,ops[i]?=some o->(∀j∈hk o,j<i)/\∀j bY,j<i->ops[j]?=some bY->clash ops tags i j o bY=true->j∈(Dv ops).getD i []:=by
  intro i o ω;have hi:i<ops.size:=(Array.getElem?_eq_some_iff.1 ω).1;unfold lh at dY;simp only[List.all_eq_true,List.mem_range] at dY;have h:=dY i hi;rw[ω] at h;simp only[Bool.and_eq_true,List.all_eq_true,decide_eq_true_eq,List.mem_range] at h;refine⟨h.1,λj bY ε dz δ=>?_⟩;have U:=h.2 j ε;rw[dz] at U;simp only[δ,Bool.not_true,Bool.false_or,List.contains_iff_mem] at U;exact U
 have sD:∀i o,ops[i]?=some o->∀j∈hk o,j<i:=λi o ω=>(vQ i o ω).1
 have Dz:∀i o,ops[i]?=some o->writer ops tags i=false->σs (i+1)=σs i:=λi o ω hw=>by
  cases Ν:tags.getD i false with
  | false=>exact(cB i o ω Ν).2
  | true=>
   refine(fh i o ω Ν).2 ?_;unfold writer at hw;rw[Ν,ω] at hw;simpa using hw
 have zY:∀(d a:Nat),a+d<=ops.size->(∀j,a<=j->j<a+d->writer ops tags j=false)->σs (a+d)=σs a:=by
  intro d
  induction d with
  | zero=>intro a _ _;rfl
  | succ d Β=>
   intro a hle h;have J:ops[a+d]?=some ops[a+d]:=fq R;have:=Dz (a+d) _ J (h (a+d) R R);rw[show a+(d+1)=a+d+1 by omega,this];exact Β a R λj J U=>h j J R
 have MQ:∀a b,a<=ops.size->b<=ops.size->(∀j,j<ops.size->writer ops tags j=true->(j<a↔j<b))->σs a=σs b:=λa b κ hb h=>by
  rcases Nat.le_total a b with hle|hle
  ·have:=zY (b-a) a R λj J U=>by
    cases Ν:writer ops tags j with
    | false=>rfl
    | true=>have:=(h j R Ν).2 R;omega
   rw[show a+(b-a)=b by omega] at this;exact this.symm
  ·have:=zY (a-b) b R λj J U=>by
    cases Ν:writer ops tags j with
    | false=>rfl
    | true=>have:=(h j R Ν).1 R;omega
   rw[show b+(a-b)=a by omega] at this;exact this
 intro fuel;have done:∀(t:Nat) (listed:Array Bool) (env:Ω) (cC:Nat),(∀i,i<ops.size->listed.getD i false=true)->(∀i,a9 env i=a9 (di ops env0 as9 (λi=>listed.getD i false) ops.size) i)->cC<=ops.size->
   (∀j,j<ops.size->writer ops tags j=true->(listed.getD j false=true↔j<cC))->W P m nt (.inRegion ops []::k) env (σs cC) Z E:=λt listed env cC h7 cT hl iM=>by
  have Δ:σs cC=σs ops.size:=MQ cC ops.size hl (Nat.le_refl _) λj ε Ν=>by rw[<-iM j ε Ν];simp[h7 j ε,ε]
  rw[Δ];refine .congr (λi=>?_) Hr;rw[cT i];exact xM ops.size λi o hi _ _=>h7 i hi
 have Hs:∀listed:Array Bool,listed.size=ops.size->(∃i,i<ops.size/\listed.getD i false=false)->∃i,i<ops.size/\listed.getD i false=false/\∀j,j<i->listed.getD j false=true:=λlisted cv ⟨i,hi,ο⟩=>by
  induction i using Nat.strongRecOn with
  | _ i Β=>
   by_cases ε:∃j,j<i/\listed.getD j false=false
   ·obtain⟨j,J,U⟩:=ε;exact Β j J R U
   ·exact⟨i,hi,ο,λj aH=>by
     cases h:listed.getD j false with
     | true=>rfl
     | false=>exact absurd ⟨j,aH,h⟩ ε⟩
 induction fuel with
 | zero=>
  intro t listed env cC cv cT cw hl iM Ht;have h7:∀i,i<ops.size->listed.getD i false=true:=λi hi=>by
   cases h:listed.getD i false with
   | true=>rfl
   | false=>
    have p0:i∈(List.range ops.size).filter λi=>!listed.getD i false:=by rw[List.mem_filter];exact⟨List.mem_range.2 hi,by rw[h];rfl⟩
    have:((List.range ops.size).filter λi=>!listed.getD i false)=[]:=dG.1 R;rw[this] at p0;simp at p0
  exact done t listed env cC h7 cT hl iM
 | succ fuel Β=>
  intro t listed env cC cv cT cw hl iM Ht;simp only[Region.linearise.go];generalize kl:((List.range ops.size).filter λi=>!listed.getD i true&&((ops[i]?).map (·.after.all λe=>!Region.binds .any e||listed.getD e.on false)).getD false)=rs;have zZ:∀i,i<ops.size->listed.getD i true=listed.getD i false:=λi hi=>by
   rw[Array.getD_eq_getD_getElem?,Array.getD_eq_getD_getElem?,fq R];rfl
  have z0:∀i,i∈rs↔i<ops.size/\listed.getD i false=false/\∀o,ops[i]?=some o->∀j∈hk o,listed.getD j false=true:=λi=>by
   rw[<-kl];simp only[List.mem_filter,List.mem_range,Bool.and_eq_true,Bool.not_eq_true'];constructor
   ·rintro⟨J,U,μ⟩;rw[zZ i J] at U;refine⟨J,U,λo ω j ε=>?_⟩;rw[ω] at μ;simp only[Option.map_some,Option.getD_some,Array.all_eq_true'] at μ;unfold hk at ε;simp only[List.mem_map,List.mem_filter] at ε;obtain⟨e,⟨xN,hH⟩,rfl⟩:=ε;have:=μ e (by simpa using xN);simpa[hH] using this
   ·rintro⟨J,U,μ⟩;refine⟨J,by rw[zZ i J];exact U,?_⟩;have ω:ops[i]?=some ops[i]:=fq J;rw[ω];simp only[Option.map_some,Option.getD_some,Array.all_eq_true'];intro e he;by_cases hb:Region.binds .any e=true
    ·have:=μ _ ω e.on (by unfold hk;simp only[List.mem_map,List.mem_filter];exact⟨e,⟨by simpa using he,hb⟩,rfl⟩);simp[this]
    ·simp[hb]
  cases hi:rs[t % rs.length]? with
  | none=>
   simp only[List.reverse_nil];have zg:rs=[]:=by
    cases ι:rs with
    | nil=>rfl
    | cons x xs=>
     rw[ι] at hi;have aP:t % (x::xs).length<(x::xs).length:=Nat.mod_lt _ η;rw[bg aP] at hi;cases hi
   have h7:∀i,i<ops.size->listed.getD i false=true:=λi aD=>by
    cases h:listed.getD i false with
    | true=>rfl
    | false=>
     obtain⟨r,J,U,μ⟩:=Hs listed cv ⟨i,aD,h⟩;have:r∈rs:=(z0 r).2 ⟨J,U,λo ω j ε=>μ j (sD r o ω j ε)⟩;rw[zg] at this;simp at this
   exact done t listed env cC h7 cT hl iM
  | some i=>
   simp only;rw[MO];have p0:i∈rs:=cE hi;obtain⟨J,U,μ⟩:=(z0 i).1 p0;have ω:ops[i]?=some ops[i]:=fq J;have Hu:=Dw sD (λj=>listed.getD j false=true) (λj o ε ο=>cw j o ε ο) i _ ω (μ _ ω);have low:∀j bY,j<i->ops[j]?=some bY->clash ops tags i j ops[i] bY=true->listed.getD j false=true:=λj bY ε dz δ=>Hu j ((vQ i _ ω).2 j bY ε dz δ);have high:∀j bY,i<j->ops[j]?=some bY->clash ops tags j i bY ops[i]=true->listed.getD j false=false:=λj bY ε dz δ=>by
    cases ο:listed.getD j false with
    | false=>rfl
    | true=>
     have:=Dw sD (λj=>listed.getD j false=true) (λj o ε ο=>cw j o ε ο) j bY dz (cw j bY dz ο) i ((vQ j bY dz).2 i _ ε ω δ);rw[U] at this;cases this
   have same:oY ops ops[i] (di ops env0 as9 (λ_=>true) i) env:=λx γ=>by
    rw[cT x];have c1:a9 (di ops env0 as9 (λi=>listed.getD i false) ops.size) x=a9 (di ops env0 as9 (λi=>listed.getD i false) i) x:=Dy R λj bY ri z1 dz hd=>by
     by_cases e:j=i
     ·subst e;exact U
     ·refine high j bY R dz ?_;unfold clash;simp[hd,γ]
    rw[c1];exact xM i λj bY ε dz hd=>low j bY ε dz (by unfold clash;simp[hd,γ])
   have ns:∀x,a9 (cj ops[i] env (as9 i)) x=a9 (di ops env0 as9 (λj=>(listed.setIfInBounds i true).getD j false) ops.size) x:=λx=>by
    have kq:∀j,(listed.setIfInBounds i true).getD j false=if j=i then true else listed.getD j false:=λj=>by
     rw[Array.getD_eq_getD_getElem?,Array.getD_eq_getD_getElem?];by_cases e:j=i
     ·subst e;rw[Array.getElem?_setIfInBounds_self_of_lt R];simp
     ·rw[Array.getElem?_setIfInBounds_ne (Ne.symm e),if_neg e]
    rw[vO];by_cases hd:ops[i].dst=some x
    ·rw[if_pos hd];have c1:a9 (di ops env0 as9 (λj=>(listed.setIfInBounds i true).getD j false) ops.size) x=a9 (di ops env0 as9 (λj=>(listed.setIfInBounds i true).getD j false) (i+1)) x:=Dy R λj bY ri z1 dz tU=>by
      rw[kq,if_neg R];refine high j bY R dz ?_;unfold clash;simp[hd,tU]
     rw[c1];simp only[di,kq,if_true,ω,vO,hd]
    ·rw[if_neg hd,cT x];exact xM ops.size λj bY ε dz tU=>by
      rw[kq,if_neg];intro e;subst e;rw[ω] at dz;cases dz;exact hd tU
   have kq:∀j,(listed.setIfInBounds i true).getD j false=if j=i then true else listed.getD j false:=λj=>by
    rw[Array.getD_eq_getD_getElem?,Array.getD_eq_getD_getElem?];by_cases e:j=i
    ·subst e;rw[Array.getElem?_setIfInBounds_self_of_lt R];simp
    ·rw[Array.getElem?_setIfInBounds_ne (Ne.symm e),if_neg e]
   have vR:((List.range ops.size).filter λj=>!(listed.setIfInBounds i true).getD j false).length<=fuel:=by
    have aP:((List.range ops.size).filter λj=>!(listed.setIfInBounds i true).getD j false).length<((List.range ops.size).filter λj=>!listed.getD j false).length:=by
     have:((List.range ops.size).filter λj=>!(listed.setIfInBounds i true).getD j false)=((List.range ops.size).filter λj=>!listed.getD j false).filter λj=>j != i:=by
      rw[List.filter_filter];apply List.filter_congr;intro j _;rw[kq];by_cases e:j=i
      ·subst e;simp
      ·simp[e]
     rw[this];have hm:i∈(List.range ops.size).filter λj=>!listed.getD j false:=by
      rw[List.mem_filter];exact⟨List.mem_range.2 J,by rw[U];rfl⟩
     exact List.length_filter_lt_length_iff_exists.2 ⟨i,hm,η⟩
    omega
   have vS:∀j o,ops[j]?=some o->(listed.setIfInBounds i true).getD j false=true->∀y∈hk o,(listed.setIfInBounds i true).getD y false=true:=λj o ε ο y Ι=>by
    rw[kq] at ο ⊢;by_cases e:y=i
    ·rw[if_pos e]
    ·rw[if_neg e];by_cases Γ:j=i
     ·subst Γ;rw[ω] at ε;cases ε;exact μ _ ω y Ι
     ·rw[if_neg Γ] at ο;exact cw j o ε ο y Ι
   have MR:∀j,writer ops tags j=true->tags.getD j false=true:=λj h=>by
    unfold writer at h;rw[Bool.and_eq_true] at h;exact h.1
   cases nD:tags.getD i false with
   | false=>
    refine(cB i _ ω nD).1 env (σs cC) _ same ?_;refine Β _ _ _ cC (by simpa using cv) ns vS hl (λj ε Ν=>?_) vR;rw[kq];have:j≠i:=λe=>by subst e;rw[MR j Ν] at nD;cases nD
    rw[if_neg this];exact iM j ε Ν
   | true=>
    have MS:∀j bY,ops[j]?=some bY->writer ops tags j=true->clash ops tags i j ops[i] bY=true/\clash ops tags j i bY ops[i]=true:=λj bY dz Ν=>by
     have J:=MR j Ν;unfold writer at Ν;rw[J,dz] at Ν;have U:mN bY=false:=by simpa using Ν
     unfold clash;rw[J,nD,U];simp
    have ts:∀j,j<ops.size->writer ops tags j=true->j<i->listed.getD j false=true:=λj ε Ν vT=>low j _ vT (fq ε) (MS j _ (fq ε) Ν).1
    have MT:∀j,j<ops.size->writer ops tags j=true->i<j->listed.getD j false=false:=λj ε Ν vT=>high j _ vT (fq ε) (MS j _ (fq ε) Ν).2
    have Hv:σs cC=σs i:=MQ cC i hl R λj ε Ν=>by
     rw[<-iM j ε Ν];constructor
     ·intro ο;apply Classical.byContradiction;intro Ζ;by_cases e:j=i
      ·subst e;rw[U] at ο;cases ο
      ·rw[MT j ε Ν R] at ο;cases ο
     ·exact ts j ε Ν
    cases mO:writer ops tags i with
    | false=>
     have es:=Dz i _ ω mO
     have ν:=(fh i _ ω nD).1;rw[es] at ν;rw[Hv];refine ν env _ same ?_;rw[<-Hv];refine Β _ _ _ cC (by simpa using cv) ns vS hl (λj ε Ν=>?_) vR;rw[kq];have:j≠i:=λe=>by subst e;rw[Ν] at mO;cases mO
     rw[if_neg this];exact iM j ε Ν
    | true=>
     rw[Hv];refine(fh i _ ω nD).1 env _ same ?_;refine Β _ _ _ (i+1) (by simpa using cv) ns vS R (λj ε Ν=>?_) vR;rw[kq];by_cases e:j=i
     ·subst e;simp
     ·rw[if_neg e];constructor
      ·intro ο;apply Classical.byContradiction;intro Ζ;rw[MT j ε Ν R] at ο;cases ο
      ·intro aP;exact ts j ε Ν R
def DC:List Oper->List Nat->List Nat
 | [],acc=>acc
 | o::os,acc=>DC os (acc++[(hk o).foldr (λj m=>(1 <<< j)|||acc.getD j 0|||m) 0])
def MU (ops:Array Oper) (tags:List Bool):Bool:=
 let b:=DC ops.toList []
 (List.range ops.size).all λi=>match ops[i]? with
  | none=>false
  | some nC=>(hk nC).all (λj=>decide (j<i))&&(List.range i).all λj=>match ops[j]? with
   | none=>false
   | some bY=>!clash ops tags i j nC bY||(b.getD i 0).testBit j
def MV (acc:List (List Nat)) (tV:List Nat):Prop:=acc.length=tV.length/\∀i j,(tV.getD i 0).testBit j=true↔j∈acc.getD i []
theorem Vy:∀(os:List Oper) (acc:List (List Nat)) (tV:List Nat),MV acc tV->MV (zW os acc) (DC os tV):=by
 intro os
 induction os with
 | nil=>intro acc tV h;exact h
 | cons o os Β=>
  intro acc tV h;simp only[zW,DC];refine Β _ _ ⟨by simp[h.1],λi j=>?_⟩;have one:∀l:List Nat,(l.foldr (λj m=>(1 <<< j)|||tV.getD j 0|||m) 0).testBit j=true↔j∈l++l.flatMap λj=>acc.getD j []:=by
   intro l
   induction l with
   | nil=>simp
   | cons a l mF=>
    rw[List.foldr_cons,Nat.testBit_or,Nat.testBit_or,Nat.one_shiftLeft,Nat.testBit_two_pow];simp only[Bool.or_eq_true,decide_eq_true_eq,h.2 a j,mF,List.mem_append,List.mem_cons,List.flatMap_cons];constructor
    ·rintro((e|e)|e|e)
     ·exact .inl (.inl e.symm)
     ·exact .inr (.inl e)
     ·exact .inl (.inr e)
     ·exact .inr (.inr e)
    ·rintro((e|e)|e|e)
     ·exact .inl (.inl e.symm)
     ·exact .inr (.inl e)
     ·exact .inl (.inr e)
     ·exact .inr (.inr e)
  rw[List.getD_eq_getElem?_getD,List.getD_eq_getElem?_getD];by_cases hi:i<acc.length
  ·rw[ev hi,ev (by rw[<-h.1];exact hi),<-List.getD_eq_getElem?_getD,<-List.getD_eq_getElem?_getD];exact h.2 i j
  ·rw[h6 (by have:=h.1;omega),h6 R,<-h.1];cases hd:i-acc.length with
   | zero=>simpa using one (hk o)
   | succ n=>simp
theorem iN {ops:Array Oper} {tags:List Bool} (h:MU ops tags=true):lh ops tags=true:=by
 unfold MU at h;unfold lh;have hb:=Vy ops.toList [] [] ⟨rfl,λi j=>η⟩;simp only[List.all_eq_true] at h ⊢;intro i hi;have J:=h i hi;cases ω:ops[i]? with
 | none=>rw[ω] at J;exact J
 | some nC=>
  rw[ω] at J;simp only[Bool.and_eq_true,List.all_eq_true] at J ⊢;refine⟨J.1,λj ε=>?_⟩;have U:=J.2 j ε;cases dz:ops[j]? with
  | none=>rw[dz] at U;exact U
  | some bY=>
   rw[dz] at U;simp only[Bool.or_eq_true] at U ⊢;rcases U with U|U
   ·exact .inl U
   ·exact .inr (List.contains_iff_mem.2 ((hb.2 i j).1 U))
end
section
variable {P:Program} {T:bb} {A:List Nat} {m nt:Nat} {k:List Item} {env env':Ω} {σ:List Row} {Z:List Item->Ω->List Row->Prop} {E:θ->Ω->List Row->Prop} {ops:Array Oper}
theorem DD {o:Oper} (h:oY ops o env env'):∀x,x∈o.op.operands.toList->aU env' x=aU env x:=λx γ=>by
 cases x with
 | tmp t=>
  refine h t ?_;unfold zV;simp only[List.mem_append,List.mem_filterMap];exact .inl ⟨.tmp t,γ,rfl⟩
 | _=>rfl
theorem rj {o:Oper} (h:oY ops o env env'):fP env' ops o=fP env ops o:=by
 unfold fP;cases Ξ:o.guard with
 | none=>rfl
 | some x=>
  obtain⟨j,want⟩:=x;simp only;cases hd:(ops[j]?).bind (·.dst) with
  | none=>rfl
  | some d=>
   simp only;have:a9 env' d=a9 env d:=h d (by unfold zV;rw[Ξ];simp[hd]);rw[this]
theorem DF {c5:Array (Nat×Operand)} (h:∀p∈c5,aU env' p.2=aU env p.2):sz env' c5=sz env c5:=by
 unfold sz;exact List.map_congr_left λp ψ=>by rw[h p (by simpa using ψ)]
theorem DG {dh:Array Operand} (h:∀x∈dh,aU env' x=aU env x):dh.toList.map (aU env')=dh.toList.map (aU env):=List.map_congr_left λx γ=>h x (by simpa using γ)
theorem DH {o:Option Operand} (h:∀x,o=some x->aU env' x=aU env x):o.map (aU env')=o.map (aU env):=by
 cases o with
 | none=>rfl
 | some x=>simp[h x rfl]
theorem DI {o:Oper} (ν:oY ops o env env'):mK T A env' o=mK T A env o:=by
 have h:=DD ν;obtain⟨dst,op,type,pos,after,guard⟩:=o;simp only at h;unfold mK;cases op<;>simp only<;>try rfl
 all_goals simp only[Op.operands,List.mem_cons,List.not_mem_nil,or_false,forall_eq_or_imp,forall_eq] at h
 case move x=>rw[h]
 case assign x=>rw[h]
 case pick c a b=>rw[h.1,h.2.1,h.2.2]
 case box ty x=>rw[h]
 case build ty c5=>rw[DF λp ψ=>h p.2 (by simp only[List.mem_map];exact⟨p,by simpa using ψ,rfl⟩)]
 case buildSlice ty n c5=>rw[DF λp ψ=>h p.2 (by simp only[List.mem_map];exact⟨p,by simpa using ψ,rfl⟩)]
 case load ty x=>rw[h]
 case binOp op a x y b=>rw[h.1,h.2]
 case unOp op a x=>rw[h]
 case convert a b x=>rw[h]
 case index ty x y=>rw[h.1,h.2]
 case nilCheck x=>rw[h]
 case sliceToArrayPointer ty x=>rw[h]
 case makeInterface a x=>rw[h]
 case makeFunc f dh cs=>rw[DG λx γ=>h x (by simp[γ]),DG λx γ=>h x (by simp[γ])]
 case makeSlice a x y=>rw[h.1,h.2]
 case slice ty x lo hi od=>
  cases od with
  | some m=>rfl
  | none=>
   simp only;rw[h x η,DH λy Ι=>h y (by simp[Ι]),DH λy Ι=>h y (by simp[Ι])]
 case fieldAddr ty x f=>rw[h]
 case indexAddr ty x y=>rw[h.1,h.2]
 case typeAssert x a b c=>rw[h]
 case extract x i=>rw[h]
 case call c=>
  obtain⟨callee,⟨args⟩,⟨eh⟩⟩:=c;cases callee
  case value=>rfl
  case invoke=>rfl
  rename_i b;have dg:∀x∈args,aU env' x=aU env x:=λx γ=>h x (by simp[Call.operands,γ])
  match args,eh with
  | [x],[ty]=>simp only;rw[dg x η]
  | [x,y],[tT,ty]=>simp only;rw[dg x η,dg y η]
  | [],_=>rfl
  | [_],[]=>rfl
  | [_],_::_::_=>rfl
  | [_,_],[]=>rfl
  | [_,_],[_]=>rfl
  | [_,_],_::_::_::_=>rfl
  | _::_::_::_,_=>rfl
theorem MW {o:Oper} (ν:oY ops o env env'):kM T A env' σ o=kM T A env σ o:=by
 have h:=DD ν;obtain⟨dst,op,type,pos,after,guard⟩:=o;simp only at h;unfold kM;cases op<;>simp only<;>try rfl
 all_goals simp only[Op.operands,List.mem_cons,List.not_mem_nil,or_false,forall_eq_or_imp,forall_eq] at h
 case box ty x=>rw[h]
 case build ty c5=>rw[DF λp ψ=>h p.2 (by simp only[List.mem_map];exact⟨p,by simpa using ψ,rfl⟩)]
 case buildSlice ty n c5=>rw[DF λp ψ=>h p.2 (by simp only[List.mem_map];exact⟨p,by simpa using ψ,rfl⟩)]
 case load ty x=>rw[h]
 case store ty x y=>rw[h.1,h.2]
 case makeSlice a x y=>rw[h.1,h.2]
 case makeMap ty r=>cases r<;>rfl
 case convert a b x=>rw[h]
 case nilCheck x=>rw[h]
 case binOp op ty x y d=>
  split
  all_goals first
   | rfl
   |(rename_i heq;cases heq<;>simp only[h.1])
 case mapUpdate ty x y z=>rw[h.1,h.2.1,h.2.2]
 case insert ty x y z=>rw[h.1,h.2.1,h.2.2]
 case lookup ty x y ok=>rw[h.1,h.2]
 case range ty x=>rw[h]
 case next x b=>
  cases b<;>simp only<;>try rfl
  rw[h]
 case entry x=>rw[h]
 case slice ty x lo hi od=>
  cases od with
  | some m=>rfl
  | none=>
   simp only;rw[h x η,DH λy Ι=>h y (by simp[Ι]),DH λy Ι=>h y (by simp[Ι])]
 case fieldAddr ty x f=>rw[h]
 case indexAddr ty x y=>rw[h.1,h.2]
 case call c=>
  obtain⟨callee,⟨args⟩,⟨eh⟩⟩:=c;cases callee
  case value=>rfl
  case invoke=>rfl
  rename_i b;have dg:∀x∈args,aU env' x=aU env x:=λx γ=>h x (by simp[Call.operands,γ])
  match args,eh with
  | [x],[ty]=>simp only;rw[dg x η]
  | [x,y],[tT,ty]=>simp only;rw[dg x η,dg y η]
  | [],_=>rfl
  | [_],[]=>rfl
  | [_],_::_::_=>rfl
  | [_,_],[]=>rfl
  | [_,_],[_]=>rfl
  | [_,_],_::_::_::_=>rfl
  | _::_::_::_,_=>rfl
def gp (P:Program) (f:θ) (args:List θ) (r:θ):Prop:=∀σ,hG P f args σ (λa s=>a=r/\s=σ) (λ_ _=>False)
def cK.gJ (r:cK) (K:θ->Prop) (s:Prop):Prop:=match r with
 | .ok a=>K a
 | .b' p (.ok a)=>p/\K a
 | .b' _ _=>False
 | .bad=>s
def df.gJ (r:df) (K:θ->List Row->Prop):Prop:=match r with
 | .ok a σ'=>K a σ'
 | .b' p (.ok a σ')=>p/\K a σ'
 | _=>False
theorem Vz {r r':cK} {K:θ->Prop} {s:Prop} (h:r=r'):r.gJ K s=r'.gJ K s:=by rw[h]
theorem VA {r r':df} {K:θ->List Row->Prop} (h:r=r'):r.gJ K=r'.gJ K:=by rw[h]
def dcall (P:Program) (f:θ) (args:List θ) (σ:List Row) (g3:θ->Prop) (kN:θ->List Row->Prop):Prop:=
 (∃r,gp P f args r/\g3 r)\/∃r σ',hG P f args σ (λa s=>a=r/\s=σ') (λ_ _=>False)/\kN r σ'
theorem eA {P:Program} {f:θ} {args:List θ} {σ:List Row} {g3:θ->Prop} {kN:θ->List Row->Prop} {r:θ} (h:gp P f args r) (k:g3 r):dcall P f args σ g3 kN:=.inl ⟨r,h,k⟩
theorem DJ {P:Program} {f:θ} {args:List θ} {σ σ':List Row} {g3:θ->Prop} {kN:θ->List Row->Prop} {r:θ} (h:hG P f args σ (λa s=>a=r/\s=σ') (λ_ _=>False)) (k:kN r σ'):dcall P f args σ g3 kN:=.inr ⟨r,σ',h,k⟩
def z2 (P:Program) (T:bb) (A:List Nat) (env:Ω) (o:Oper) (σ:List Row) (g3:θ->Prop) (kN:θ->List Row->Prop):Prop:=match o.op with
 | .call ⟨.value f,args,_⟩=>dcall P (aU env f) (args.toList.map (aU env)) σ g3 kN
 | .panic _=>False
 | .defer _=>False
 | _=>(mK T A env o).gJ g3 ((kM T A env σ o).gJ kN)
theorem VB {P:Program} {T:bb} {A:List Nat} {env:Ω} {o:Oper} {σ:List Row} {g3:θ->Prop} {kN:θ->List Row->Prop}:z2 P T A env o σ g3 kN=match o.op with
 | .call ⟨.value f,args,_⟩=>dcall P (aU env f) (args.toList.map (aU env)) σ g3 kN
 | .panic _=>False
 | .defer _=>False
 | _=>(mK T A env o).gJ g3 ((kM T A env σ o).gJ kN):=Eq.trans rfl rfl
theorem VC {a:θ} {K:θ->Prop} {s:Prop}:cK.gJ (.ok a) K s=K a:=Eq.trans rfl rfl
theorem VD {p:Prop} {a:θ} {K:θ->Prop} {s:Prop}:cK.gJ (.b' p (.ok a)) K s=(p/\K a):=Eq.trans rfl rfl
theorem VE {K:θ->Prop} {s:Prop}:cK.gJ .bad K s=s:=Eq.trans rfl rfl
theorem VF {a:θ} {σ:List Row} {K:θ->List Row->Prop}:df.gJ (.ok a σ) K=K a σ:=Eq.trans rfl rfl
theorem VG {p:Prop} {a:θ} {σ:List Row} {K:θ->List Row->Prop}:df.gJ (.b' p (.ok a σ)) K=(p/\K a σ):=Eq.trans rfl rfl
def jB (P:Program) (T:bb) (A:List Nat) (nt:Nat) (ops:Array Oper):List Nat->Ω->List Row->List Bool->(Ω->List Row->Prop)->Prop
 | [],env,σ,tags,K=>lh ops tags=true/\K env σ
 | i::is,env,σ,tags,K=>g2 ops[i]? λo=>ik nt o=true/\g2 (fP env ops o) λw=>
   j1 w (jB P T A nt ops is (cj o env .cH) σ (tags++[false]) K)
    (z2 P T A env o σ (λa=>jB P T A nt ops is (cj o env a) σ (tags++[false]) K) (λa σ'=>jB P T A nt ops is (cj o env a) σ' (tags++[true]) K))
def MX (P:Program) (T:bb) (A:List Nat) (nt:Nat) (ops:Array Oper) (is:List Nat) (o:Oper) (env:Ω) (σ:List Row) (tags:List Bool) (K:Ω->List Row->Prop) (a:θ):Prop:=jB P T A nt ops is (cj o env a) σ (tags++[false]) K
def MY (P:Program) (T:bb) (A:List Nat) (nt:Nat) (ops:Array Oper) (is:List Nat) (o:Oper) (env:Ω) (tags:List Bool) (K:Ω->List Row->Prop) (a:θ) (σ':List Row):Prop:=jB P T A nt ops is (cj o env a) σ' (tags++[true]) K
theorem c6 {tags:List Bool} {K:Ω->List Row->Prop}:jB P T A nt ops [] env σ tags K=(lh ops tags=true/\K env σ):=Eq.trans rfl rfl
theorem c7 {i:Nat} {is:List Nat} {tags:List Bool} {K:Ω->List Row->Prop}:jB P T A nt ops (i::is) env σ tags K=g2 ops[i]? λo=>ik nt o=true/\g2 (fP env ops o) λw=>
   j1 w (jB P T A nt ops is (cj o env .cH) σ (tags++[false]) K) (z2 P T A env o σ (MX P T A nt ops is o env σ tags K) (MY P T A nt ops is o env tags K)):=Eq.trans rfl rfl
theorem VH {ops:Array Oper} {is:List Nat} {o:Oper} {tags:List Bool} {K:Ω->List Row->Prop} {a:θ}:MX P T A nt ops is o env σ tags K a=jB P T A nt ops is (cj o env a) σ (tags++[false]) K:=Eq.trans rfl rfl
theorem VI {ops:Array Oper} {is:List Nat} {o:Oper} {tags:List Bool} {K:Ω->List Row->Prop} {a:θ}:MY P T A nt ops is o env tags K a σ=jB P T A nt ops is (cj o env a) σ (tags++[true]) K:=Eq.trans rfl rfl
def oZ (P:Program) (m nt:Nat) (k:List Item) (Z:List Item->Ω->List Row->Prop) (E:θ->Ω->List Row->Prop) (ops:Array Oper) (i:Nat) (o:Oper) (env:Ω) (σ:List Row) (tag:Bool) (a:θ) (σ':List Row):Prop:=
 if tag then Hq P m nt k Z E ops i o env σ a σ'/\(mN o=true->σ'=σ) else xL P m nt k Z E ops i o env a/\σ'=σ
theorem VJ {ty:TypeId} {x a:θ} {σ':List Row} {p:Prop} (h:vv T ty σ x=.ok a σ'\/vv T ty σ x=.b' p (.ok a σ')):σ'=σ:=by
 unfold vv tK at h
 repeat' split at h
 all_goals simp[cK.dE] at h
 all_goals first|exact h.2.symm|skip
theorem VK {ty:TypeId} {x bC a:θ} {σ':List Row} {p:Prop} (h:vx T ty σ x bC=.ok a σ'\/vx T ty σ x bC=.b' p (.ok a σ')):σ'=σ:=by
 unfold vx at h
 repeat' split at h
 all_goals simp at h
 all_goals first|exact h.2.2.symm|exact h.2.symm|skip
theorem VL {ty:TypeId} {f:Nat} {x a:θ} {σ':List Row} {p:Prop} (h:vw T ty f σ x=.ok a σ'\/vw T ty f σ x=.b' p (.ok a σ')):σ'=σ:=by
 unfold vw at h
 repeat' split at h
 all_goals simp at h
 all_goals first|exact h.2.2.symm|exact h.2.symm|skip
theorem VM {x a:θ} {σ':List Row} {p:Prop} (h:vJ σ x=.ok a σ'\/vJ σ x=.b' p (.ok a σ')):σ'=σ:=by
 unfold vJ at h
 repeat' split at h
 all_goals simp at h
 all_goals first|exact h.2.2.symm|exact h.2.symm|skip
theorem DK {o:Oper} {a:θ} {σ':List Row} {p:Prop} (ι:mN o=true) (h:kM T A env σ o=.ok a σ'\/kM T A env σ o=.b' p (.ok a σ')):σ'=σ:=by
 unfold mN at ι;unfold kM at h;split at ι
 ·rename_i ty x Μ;rw[Μ] at h;exact VJ h
 ·rename_i ty x bC Μ;rw[Μ] at h;exact VK h
 ·rename_i ty x f Μ;rw[Μ] at h;exact VL h
 ·rename_i x Μ;rw[Μ] at h;exact VM h
 ·cases ι
theorem VN (Κ:bV P T) {i:Nat} {is:List Nat} {tags:List Bool} {K:Ω->List Row->Prop} (h:jB P T A nt ops (i::is) env σ tags K) :
  ∃o a σ' tag,ops[i]?=some o/\oZ P m nt k Z E ops i o env σ tag a σ'/\jB P T A nt ops is (cj o env a) σ' (tags++[tag]) K:=by
 unfold jB g2 at h;split at h
 ·exact h.elim
 ·rename_i o ω;obtain⟨hd,h⟩:=h;split at h
  ·exact h.elim
  rename_i w hw;unfold j1 at h;cases w
  ·replace h:=h.1 rfl
   refine⟨o,.cH,σ,false,ω,?_,h⟩;unfold oZ;simp only[Bool.false_eq_true,if_false];exact⟨λenv' σ' rest ν hW=>.unwanted ω (by rw[rj ν];exact hw) hd hW,trivial⟩
  ·replace h:=h.2 rfl
   unfold z2 at h;split at h
   ·rename_i f args eh Μ;have z3:∀env',oY ops o env env'->aU env' f=aU env f/\args.toList.map (aU env')=args.toList.map (aU env):=λenv' ν=>by
     have γ:=DD ν;rw[Μ] at γ;refine⟨γ f (by simp[Op.operands,Call.operands]),DG λx Hw=>γ x (by simp[Op.operands,Call.operands,Hw])⟩
    rcases h with⟨r,δ,h⟩|⟨r,σ',δ,h⟩
    ·refine⟨o,r,σ,false,ω,?_,h⟩;unfold oZ;simp only[Bool.false_eq_true,if_false];refine⟨λenv' σ' rest ν hW=>.call ω (by rw[rj ν];exact hw) hd Μ ?_,trivial⟩;obtain⟨Δ,Γ⟩:=z3 env' ν;rw[Δ,Γ];exact(δ σ').mono (λa s ⟨x,y⟩=>by subst x;subst y;exact hW) (λ_ _ h=>h.elim)
    ·refine⟨o,r,σ',true,ω,?_,h⟩;unfold oZ;simp only[if_true];refine⟨?_,λι=>by unfold mN at ι;rw[Μ] at ι;cases ι⟩;refine λenv' rest ν hW=>.call ω (by rw[rj ν];exact hw) hd Μ ?_;obtain⟨Δ,Γ⟩:=z3 env' ν;rw[Δ,Γ];exact δ.mono (λa s ⟨x,y⟩=>by subst x;subst y;exact hW) (λ_ _ h=>h.elim)
   ·exact h.elim
   ·exact h.elim
   ·rename_i J U μ;have z4:∀(r:cK) (a:θ),mK T A env o=r->(∀K:θ->List Row->Prop,∀s,K a s->(r.dE s).holds K)->(∀σ s,r.or σ s=r.dE σ)->xL P m nt k Z E ops i o env a:=λr a ι a0 Hx env' σ' rest ν hW=>by
     refine .op (A:=A) Κ ω (by rw[rj ν];exact hw) hd (λc δ=>μ c δ) ?_;rw[DI ν,ι,Hx];exact a0 _ _ hW
    unfold cK.gJ at h;split at h
    ·rename_i a κ;refine⟨o,a,σ,false,ω,?_,h⟩;unfold oZ;simp only[Bool.false_eq_true,if_false];exact⟨z4 _ a κ (λK s ς=>ς) (λ_ _=>rfl),trivial⟩
    ·rename_i p a κ;refine⟨o,a,σ,false,ω,?_,h.2⟩;unfold oZ;simp only[Bool.false_eq_true,if_false];exact⟨z4 _ a κ (λK s ς=>⟨h.1,ς⟩) (λ_ _=>rfl),trivial⟩
    ·exact h.elim
    ·rename_i xG;have DL:∀(a:θ) (σ':List Row) (r:df),kM T A env σ o=r->(∀K:θ->List Row->Prop,K a σ'->r.holds K)->Hq P m nt k Z E ops i o env σ a σ':=λa σ' r ι a0 env' rest ν hW=>by
      refine .op (A:=A) Κ ω (by rw[rj ν];exact hw) hd (λc δ=>μ c δ) ?_;rw[DI ν,MW ν,xG,ι];exact a0 _ hW
     unfold df.gJ at h;split at h
     ·rename_i a σ' κ;refine⟨o,a,σ',true,ω,?_,h⟩;unfold oZ;simp only[if_true];exact⟨DL a σ' _ κ λK ς=>ς,λι=>DK (p:=True) ι (.inl κ)⟩
     ·rename_i p a σ' κ;refine⟨o,a,σ',true,ω,?_,h.2⟩;unfold oZ;simp only[if_true];exact⟨DL a σ' _ κ λK ς=>⟨h.1,ς⟩,λι=>DK ι (.inr κ)⟩
     ·exact h.elim
theorem MZ {env0:Ω} {as9 kO:Nat->θ} {D:Nat->Bool}:∀n,(∀j,j<n->as9 j=kO j)->di ops env0 as9 D n=di ops env0 kO D n:=by
 intro n
 induction n with
 | zero=>intro _;rfl
 | succ n Β=>
  intro h;simp only[di];rw[Β λj ε=>h j R,h n (Nat.lt_succ_self n)]
theorem VO (Κ:bV P T) {K:Ω->List Row->Prop} {env0:Ω}:∀(d i:Nat) (tags:List Bool) (as9:Nat->θ) (σs:Nat->List Row),i+d=ops.size->tags.length=i->
  (∀j o,j<i->ops[j]?=some o->oZ P m nt k Z E ops j o (di ops env0 as9 (λ_=>true) j) (σs j) (tags.getD j false) (as9 j) (σs (j+1)))->
  jB P T A nt ops (List.range' i d) (di ops env0 as9 (λ_=>true) i) (σs i) tags K->
  ∃(tags:List Bool) (as9:Nat->θ) (rk:Nat->List Row),lh ops tags=true/\rk 0=σs 0/\(∀j o,ops[j]?=some o->oZ P m nt k Z E ops j o (di ops env0 as9 (λ_=>true) j) (rk j) (tags.getD j false) (as9 j) (rk (j+1)))/\K (di ops env0 as9 (λ_=>true) ops.size) (rk ops.size):=by
 intro d
 induction d with
 | zero=>
  intro i tags as9 σs hi Ν ε h;simp only[List.range'_zero,jB] at h;have:i=ops.size:=R;subst this;exact⟨tags,as9,σs,h.1,rfl,λj o ω=>ε j o (Array.getElem?_eq_some_iff.1 ω).1 ω,h.2⟩
 | succ d Β=>
  intro i tags as9 σs hi Ν ε h;rw[List.range'_succ] at h;obtain⟨o,a,σ',tag,ω,Hy,h⟩:=VN (m:=m) (k:=k) (Z:=Z) (E:=E) Κ h;let kO:Nat->θ:=λj=>if j=i then a else as9 j
  let rk:Nat->List Row:=λj=>if j=i+1 then σ' else σs j
  have vU:∀j,j<=i->di ops env0 as9 (λ_=>true) j=di ops env0 kO (λ_=>true) j:=λj ε=>MZ j λx γ=>by simp only[kO];rw[if_neg R]
  have Hz:di ops env0 kO (λ_=>true) (i+1)=cj o (di ops env0 as9 (λ_=>true) i) a:=by
   simp only[di,if_true,ω];rw[<-vU i (Nat.le_refl i)];simp only[kO,if_true]
  have:=Β (i+1) (tags++[tag]) kO rk R (by simp[Ν]) (λj bY aP dz=>?_) ?_
  ·obtain⟨t2,bd,s2,Χ,ak,aY,cy⟩:=this;exact⟨t2,bd,s2,Χ,ak.trans (by simp only[rk];rw[if_neg R]),aY,cy⟩
  ·by_cases e:j=i
   ·subst e;rw[ω] at dz;cases dz;rw[<-vU j (Nat.le_refl j)];have Δ:(tags++[tag]).getD j false=tag:=by rw[List.getD_eq_getElem?_getD,h6 R,Ν];simp
    rw[Δ];simp only[kO,rk,if_true];rw[if_neg R];exact Hy
   ·have:=ε j bY R dz;rw[<-vU j R];have Δ:(tags++[tag]).getD j false=tags.getD j false:=by rw[List.getD_eq_getElem?_getD,ev R,<-List.getD_eq_getElem?_getD]
    rw[Δ];simp only[kO,rk];rw[if_neg R,if_neg R,if_neg R];exact this
  ·rw[Hz];simp only[rk,if_true];exact h
theorem W.draw (Κ:bV P T) (sE:P.follows .mixedOrders=true) {id:Nat} (h:∀Ε:Ω->List Row->Prop,(∀env σ,W P m nt k env σ Z E->Ε env σ)->jB P T A nt ops (idx ops.size []) env σ [] Ε):W P m nt (.code (.region id ops true)::k) env σ Z E:=by
 have aj:=h (λenv σ=>W P m nt k env σ Z E) λ_ _ h=>h;rw[idx_eq,List.range_eq_range'] at aj;obtain⟨tags,as9,σs,Χ,ak,aY,cy⟩:=VO (m:=m) (k:=k) (Z:=Z) (E:=E) (env0:=env) Κ ops.size 0 [] (λ_=>.cH) (λ_=>σ) R rfl (λj o ε=>R) aj;intro Q mn x cs b S B H t γ hb ψ Τ he;refine .draw γ hb λn=>?_;have key:=W.Vx (P:=P) (m:=m) (nt:=nt) (k:=k) (Z:=Z) (E:=E) (ops:=ops) (as9:=as9) (σs:=σs) (tags:=tags) (env0:=env) Χ
  (λi o ω Ν=>by have:=aY i o ω;unfold oZ at this;rw[Ν] at this;simpa using this)
  (λi o ω Ν=>by have:=aY i o ω;unfold oZ at this;rw[Ν] at this;simpa using this)
  (.bJ cy) ops.size n (Array.replicate ops.size false) env 0 η (λi=>?_) (λi o ω ο=>?_) (Nat.zero_le _) (λj ε _=>?_) ?_
 ·rw[ak] at key;rw[sE];simp only[Region.schedule,Bool.true_or,if_true,Region.linearise];exact key Q mn x cs b S B H t γ hb ψ Τ he
 ·have:∀n,di ops env as9 (λi=>(Array.replicate ops.size false).getD i false) n=env:=by
   intro n
   induction n with
   | zero=>rfl
   | succ n Β=>
    simp only[di];have:(Array.replicate ops.size false).getD n false=false:=by
     rw[Array.getD_eq_getD_getElem?,Array.getElem?_replicate];split<;>rfl
    rw[if_neg (by rw[this];simp)];exact Β
  rw[this]
 ·have:(Array.replicate ops.size false).getD i false=false:=by
   rw[Array.getD_eq_getD_getElem?,Array.getElem?_replicate];split<;>rfl
  rw[this] at ο;cases ο
 ·have:(Array.replicate ops.size false).getD j false=false:=by
   rw[Array.getD_eq_getD_getElem?,Array.getElem?_replicate];split<;>rfl
  rw[this];simp
 ·have:=List.length_filter_le (λi=>!(Array.replicate ops.size false).getD i false) (List.range ops.size);simpa using this
theorem M0 {K K':Ω->List Row->Prop} (ζ:∀e s,K e s->K' e s):∀(is:List Nat) (env:Ω) (σ:List Row) (tags:List Bool),jB P T A nt ops is env σ tags K->jB P T A nt ops is env σ tags K':=by
 intro is
 induction is with
 | nil=>intro env σ tags h;exact⟨h.1,ζ _ _ h.2⟩
 | cons i is Β=>
  intro env σ tags h;unfold jB g2 at h ⊢;cases ω:ops[i]? with
  | none=>rw[ω] at h;exact h.elim
  | some o=>
   rw[ω] at h;simp only at h ⊢;refine⟨h.1,?_⟩
   replace h:=h.2
   cases hw:fP env ops o with
   | none=>rw[hw] at h;exact h.elim
   | some w=>
    rw[hw] at h;unfold j1 at h ⊢;refine⟨λe=>Β _ _ _ (h.1 e),λe=>?_⟩
    replace h:=h.2 e
    unfold z2 at h ⊢;split
    ·rename_i f args eh Μ;rw[Μ] at h;simp only at h;rcases h with⟨r,δ,h⟩|⟨r,σ',δ,h⟩
     ·exact .inl ⟨r,δ,Β _ _ _ h⟩
     ·exact .inr ⟨r,σ',δ,Β _ _ _ h⟩
    ·rename_i Μ;rw[Μ] at h;exact h
    ·rename_i Μ;rw[Μ] at h;exact h
    ·rename_i J U μ;split at h
     ·rename_i f args eh Μ;exact absurd Μ (J f args eh)
     ·rename_i y Μ;exact absurd Μ (U y)
     ·rename_i y Μ;exact absurd Μ (μ y)
     ·unfold cK.gJ at h ⊢;split at h
      ·exact Β _ _ _ h
      ·exact⟨h.1,Β _ _ _ h.2⟩
      ·exact h.elim
      ·unfold df.gJ at h ⊢;split at h
       ·exact Β _ _ _ h
       ·exact⟨h.1,Β _ _ _ h.2⟩
       ·exact h.elim
theorem W.xO (Κ:bV P T) (sE:P.follows .mixedOrders=true) (hj:Ω) {id:Nat} (h:W P m nt k hj σ Z E) (ι:jB P T A nt ops (idx ops.size []) env σ [] (λe s=>s=σ/\∀p∈hj,a9 e p.1=p.2)):W P m nt (.code (.region id ops true)::k) env σ Z E:=
 W.draw Κ sE λΕ ζ=>M0 (λe s ⟨J,U⟩=>ζ e s (J▸W.forget hj U h)) _ _ _ _ ι
end
def je {α:Type}:List α->List Nat->List α->List α
 | l,i::ρ,x::xs=>je (l.set i x) ρ xs
 | l,_,_=>l
theorem sF {α:Type}:∀(ρ:List Nat) (l xs:List α),(je l ρ xs).length=l.length:=by
 intro ρ
 induction ρ with
 | nil=>intro l xs;cases xs<;>rfl
 | cons i ρ Β=>intro l xs;cases xs with
  | nil=>rfl
  | cons x xs=>simp[je,Β]
theorem HA {α:Type} {i:Nat}:∀(ρ:List Nat) (l xs:List α),i∉ρ->(je l ρ xs)[i]?=l[i]?:=by
 intro ρ
 induction ρ with
 | nil=>intro l xs _;cases xs<;>rfl
 | cons j ρ Β=>intro l xs h;cases xs with
  | nil=>rfl
  | cons x xs=>
   simp only[je];rw[Β _ _ (λhm=>h (by simp[hm])),List.getElem?_set_ne (λe=>h (by simp[e]))]
theorem M1 {α:Type}:∀(ρ:List Nat) (l xs:List α),ρ.Nodup->(∀i∈ρ,i<l.length)->∀(j i:Nat) (x:α),ρ[j]?=some i->xs[j]?=some x->(je l ρ xs)[i]?=some x:=by
 intro ρ
 induction ρ with
 | nil=>intro l xs _ _ j i x h;simp at h
 | cons a ρ Β=>
  intro l xs kL aP j i x ε γ;cases xs with
  | nil=>simp at γ
  | cons y xs=>
   simp only[je];obtain⟨J,U⟩:=List.nodup_cons.1 kL;cases j with
   | zero=>
    simp at ε γ;subst ε;subst γ;rw[HA ρ _ _ J,List.getElem?_set_self (aP a η)]
   | succ j=>
    simp only[List.getElem?_cons_succ] at ε γ;exact Β _ _ U (λi hi=>by simp;exact aP i (by simp[hi])) j i x ε γ
def hY (ρ:List Nat):θ->θ
 | .ar id n i j=>.ar (ρ.getD id 0) n i j
 | .ms id n i len=>.ms (ρ.getD id 0) n i len
 | .mp id=>.mp (ρ.getD id 0)
 | .it id=>.it (ρ.getD id 0)
 | a=>a
def ei (ρ:List Nat):θ->θ
 | .fn f dh cs=>.fn f (dh.map (hY ρ)) (cs.map (hY ρ))
 | .a5 l=>.a5 (l.map (hY ρ))
 | .bj l=>.bj (l.map (hY ρ))
 | a=>hY ρ a
def nE (h:Nat) (a:θ):Prop:=match a with
 | .ar id _ _ _|.ms id _ _ _|.mp id|.it id=>id<h
 | a=>aG 0 a
def fQ (h:Nat) (a:θ):Prop:=match a with
 | .fn _ dh cs=>(∀a∈dh,nE h a)/\∀a∈cs,nE h a
 | .a5 l|.bj l=>∀a∈l,nE h a
 | a=>nE h a
structure Names (ρ:List Nat) (eG:aV) (σ0:List Row) (bT:aV) (kr:List Row):Prop where
 row:∀(j i:Nat),ρ[j]?=some i->kr[i]?=σ0[j]?
 blk:∀(j i:Nat),ρ[j]?=some i->bT[i]?=eG[j]?
section
variable {S:aJ} {eG bT:aV} {σ0 kr:List Row} {ρ:List Nat}
theorem DN {ρ:List Nat} {j:Nat} (h:j<ρ.length):ρ[j]?=some (ρ.getD j 0):=by
 rw[List.getD_eq_getElem?_getD,bg h];rfl
theorem lj (Ζ:Names ρ eG σ0 bT kr) {a:θ} {v:Value} (Ν:nE ρ.length a):ay S bT kr (hY ρ a) v↔ay S eG σ0 a v:=by
 cases a with
 | ar id n i j=>
  have b9:=DN (ρ:=ρ) Ν
  have J:=Ζ.row _ _ b9
  have U:=Ζ.blk _ _ b9;constructor
  ·intro h;cases h with
   | ar Χ ak aY=>exact .ar (by rw[<-J];exact Χ) ak (by rw[<-U];exact aY)
   | jY v Χ ak=>exact .jY v (by rw[<-J];exact Χ) ak
  ·intro h;cases h with
   | ar Χ ak aY=>exact .ar (by rw[J];exact Χ) ak (by rw[U];exact aY)
   | jY v Χ ak=>exact .jY v (by rw[J];exact Χ) ak
 | ms id n i len=>
  have b9:=DN (ρ:=ρ) Ν
  have J:=Ζ.row _ _ b9
  have U:=Ζ.blk _ _ b9;constructor
  ·intro h;cases h with
   | ms cap Χ ak aY cy gB iK=>exact .ms cap (by rw[<-J];exact Χ) ak (by rw[<-U];exact aY) cy gB iK
   | jz v Χ ak=>exact .jz v (by rw[<-J];exact Χ) ak
  ·intro h;cases h with
   | ms cap Χ ak aY cy gB iK=>exact .ms cap (by rw[J];exact Χ) ak (by rw[U];exact aY) cy gB iK
   | jz v Χ ak=>exact .jz v (by rw[J];exact Χ) ak
 | mp id=>
  have b9:=DN (ρ:=ρ) Ν
  have J:=Ζ.row _ _ b9
  have U:=Ζ.blk _ _ b9;constructor
  ·intro h;cases h with
   | mp Χ ak=>exact .mp (by rw[<-J];exact Χ) (by rw[<-U];exact ak)
   | lV v Χ=>exact .lV v (by rw[<-J];exact Χ)
  ·intro h;cases h with
   | mp Χ ak=>exact .mp (by rw[J];exact Χ) (by rw[U];exact ak)
   | lV v Χ=>exact .lV v (by rw[J];exact Χ)
 | it id=>
  have b9:=DN (ρ:=ρ) Ν
  have J:=Ζ.row _ _ b9
  have U:=Ζ.blk _ _ b9;constructor
  ·intro h;cases h with
   | it Χ ak=>exact .it (by rw[<-J];exact Χ) (by rw[<-U];exact ak)
   | nu v Χ=>exact .nu v (by rw[<-J];exact Χ)
  ·intro h;cases h with
   | it Χ ak=>exact .it (by rw[J];exact Χ) (by rw[U];exact ak)
   | nu v Χ=>exact .nu v (by rw[J];exact Χ)
 | _=>exact⟨λh=>h.any Ν _ _,λh=>h.any Ν _ _⟩
theorem DO {f:θ->θ} {l:List θ} {i:Nat} {a:θ} (h:(l.map f)[i]?=some a):∃b,l[i]?=some b/\a=f b:=by
 rw[List.getElem?_map] at h;cases γ:l[i]? with
 | none=>rw[γ] at h;cases h
 | some b=>rw[γ] at h;cases h;exact⟨b,rfl,rfl⟩
theorem HB (Ζ:Names ρ eG σ0 bT kr) {a:θ} {v:Value} (Ν:fQ ρ.length a):ay S bT kr (ei ρ a) v↔ay S eG σ0 a v:=by
 cases a with
 | fn f dh cs=>
  constructor
  ·intro h;cases h with
   | fn vs ws Χ ak aY cy=>
    refine .fn vs ws (by simpa using Χ) (by simpa using ak) (λi a v hi hv=>?_) (λi a v hi hv=>?_)
    ·exact(lj Ζ (Ν.1 a (cE hi))).1 (aY i _ v (by rw[List.getElem?_map,hi];rfl) hv)
    ·exact(lj Ζ (Ν.2 a (cE hi))).1 (cy i _ v (by rw[List.getElem?_map,hi];rfl) hv)
  ·intro h;cases h with
   | fn vs ws Χ ak aY cy=>
    refine .fn vs ws (by simpa using Χ) (by simpa using ak) (λi a v hi hv=>?_) (λi a v hi hv=>?_)
    ·obtain⟨b,hb,rfl⟩:=DO hi;exact(lj Ζ (Ν.1 b (cE hb))).2 (aY i b v hb hv)
    ·obtain⟨b,hb,rfl⟩:=DO hi;exact(lj Ζ (Ν.2 b (cE hb))).2 (cy i b v hb hv)
 | a5 l=>
  constructor
  ·intro h;cases h with
   | a5 vs Χ ak=>exact .a5 vs (by simpa using Χ) λi a v hi hv=>(lj Ζ (Ν a (cE hi))).1 (ak i _ v (by rw[List.getElem?_map,hi];rfl) hv)
  ·intro h;cases h with
   | a5 vs Χ ak=>
    refine .a5 vs (by simpa using Χ) λi a v hi hv=>?_;obtain⟨b,hb,rfl⟩:=DO hi;exact(lj Ζ (Ν b (cE hb))).2 (ak i b v hb hv)
 | bj l=>
  constructor
  ·intro h;cases h with
   | bj vs Χ ak=>exact .bj vs (by simpa using Χ) λi a v hi hv=>(lj Ζ (Ν a (cE hi))).1 (ak i _ v (by rw[List.getElem?_map,hi];rfl) hv)
  ·intro h;cases h with
   | bj vs Χ ak=>
    refine .bj vs (by simpa using Χ) λi a v hi hv=>?_;obtain⟨b,hb,rfl⟩:=DO hi;exact(lj Ζ (Ν b (cE hb))).2 (ak i b v hb hv)
 | z u=>exact lj (a:=.z u) Ζ Ν
 | ao l=>exact lj (a:=.ao l) Ζ Ν
 | sl ex k l=>exact lj (a:=.sl ex k l) Ζ Ν
 | ar id n i j=>exact lj (a:=.ar id n i j) Ζ Ν
 | ms id n i len=>exact lj (a:=.ms id n i len) Ζ Ν
 | fY t a=>exact lj (a:=.fY t a) Ζ Ν
 | mp id=>exact lj (a:=.mp id) Ζ Ν
 | it id=>exact lj (a:=.it id) Ζ Ν
 | cH=>exact lj (a:=.cH) Ζ Ν
end
section
variable {P:Program} {S aE:aJ} {B:aV} {H H':χ} {σ:List Row}
def il (r:Row):Prop:=match r with|.cells _ _ l=>∀e∈l,∀a∈e.cells,aG 0 a|_=>False
def z5 (r:Row):Prop:=il r\/r=.dead
theorem jZ.plain {B':aV} {σ':List Row} {r:Row} {bo:Option (Nat×Nat)} (ψ:il r) (h:jZ S B σ H r bo) (ff:aV) (gK:List Row):jZ S ff gK H r bo:=by
 cases r with
 | cells t k l=>
  cases bo with
  | none=>exact h
  | some x=>
   obtain⟨b,N⟩:=x;obtain⟨J,U,μ,w,Θ⟩:=h;refine⟨J,U,μ,w,λi e hi=>⟨(Θ i e hi).1,λj a ε=>?_⟩⟩;obtain⟨c1,c2,c3⟩:=(Θ i e hi).2 j a ε;exact⟨c1,c2.any (ψ e (cE hi) a (cE ε)) _ _,c3⟩
 | _=>exact ψ.elim
theorem jZ.VP {B':aV} {σ':List Row} {r:Row} {bo:Option (Nat×Nat)} (ψ:z5 r) (h:jZ S B σ H r bo) (ff:aV) (gK:List Row):jZ S ff gK H r bo:=by
 rcases ψ with ψ|rfl
 ·exact jZ.plain (B':=B') (σ':=σ') ψ h ff gK
 ·trivial
theorem Holds.M3 (Α:Holds S B σ H) {ρ:List Nat} {jf:List Row} (kL:ρ.Nodup) (hlen:ρ.length=jf.length) (br:∀(j i:Nat),ρ[j]?=some i->σ[i]?=jf[j]?) (ih:∀r∈jf,il r)
  {eG:aV} {σ0:List Row} (he:Ext S (ρ.map λi=>B.getD i none) H aE eG H') (ο:b8 S aE (ρ.map λi=>B.getD i none) eG jf σ0) (aj:Holds aE eG σ0 H') (VQ:∀r∈σ0,z5 r) :
  let kr:=je σ ρ σ0++σ0.drop ρ.length
  let bT:=je B ρ eG++eG.drop ρ.length
  Holds aE bT kr H'/\Ext S B H aE bT H'/\b8 S aE B bT σ kr/\Names (ρ++(List.range (σ0.length-ρ.length)).map (σ.length + ·)) eG σ0 bT kr:=by
 intro kr bT;have aP:∀i∈ρ,i<σ.length:=λi hi=>by
  obtain⟨j,ε⟩:=List.getElem?_of_mem hi;have im:j<jf.length:=by rw[<-hlen];exact(cf.1 ε).1
  have:=br j i ε;rw[bg im] at this;exact(cf.1 this).1
 have DQ:∀i∈ρ,i<B.length:=λi hi=>by rw[Α.len];exact aP i hi
 have hle:ρ.length<=σ0.length:=by rw[hlen];exact ο.length
 have VR:eG.length=σ0.length:=aj.len
 have DR:∀(j i:Nat),ρ[j]?=some i->(ρ.map λi=>B.getD i none)[j]?=B[i]?:=λj i ε=>by
  have hi:=DQ i (cE ε);rw[List.getElem?_map,ε];simp[hi]
 have s1:∀(j i:Nat),ρ[j]?=some i->kr[i]?=σ0[j]?:=λj i ε=>by
  have hi:=aP i (cE ε)
  have im:j<σ0.length:=by have:=(cf.1 ε).1;omega
  show(je σ ρ σ0++_)[i]?=_;rw[ev (by rw[sF];exact hi),bg im];exact M1 ρ σ σ0 kL aP j i _ ε (bg im)
 have bw:∀(j i:Nat),ρ[j]?=some i->bT[i]?=eG[j]?:=λj i ε=>by
  have hi:=DQ i (cE ε)
  have im:j<eG.length:=by have:=(cf.1 ε).1;omega
  show(je B ρ eG++_)[i]?=_;rw[ev (by rw[sF];exact hi),bg im];exact M1 ρ B eG kL DQ j i _ ε (bg im)
 have s2:∀i,i<σ.length->i∉ρ->kr[i]?=σ[i]?:=λi hi Ζ=>by
  show(je σ ρ σ0++_)[i]?=_;rw[ev (by rw[sF];exact hi),HA ρ _ _ Ζ]
 have dm:∀i,i<σ.length->i∉ρ->bT[i]?=B[i]?:=λi hi Ζ=>by
  show(je B ρ eG++_)[i]?=_;rw[ev (by rw[sF,Α.len];exact hi),HA ρ _ _ Ζ]
 have kD:∀x,kr[σ.length+x]?=σ0[ρ.length+x]?:=λx=>by
  show(je σ ρ σ0++_)[_]?=_;rw[h6 (by rw[sF];omega),sF,List.getElem?_drop];congr 1;omega
 have fJ:∀x,bT[σ.length+x]?=eG[ρ.length+x]?:=λx=>by
  show(je B ρ eG++_)[_]?=_;rw[h6 (by rw[sF,Α.len];omega),sF,Α.len,List.getElem?_drop];congr 1;omega
 have z6:∀(i:Nat) (r:Row),kr[i]?=some r->(i<σ.length/\i∉ρ/\σ[i]?=some r/\bT[i]?=B[i]?)\/∃j,σ0[j]?=some r/\bT[i]?=eG[j]?/\(∀eO bK,(eO<σ.length->ρ[bK]?=some eO)->(¬eO<σ.length->bK=ρ.length+(eO-σ.length))->j=bK->i=eO)/\((i<σ.length->ρ[j]?=some i)/\(¬i<σ.length->j=ρ.length+(i-σ.length))):=λi r ι=>by
  by_cases hi:i<σ.length
  ·by_cases Ζ:i∈ρ
   ·obtain⟨j,ε⟩:=List.getElem?_of_mem Ζ;refine .inr ⟨j,by rw[<-s1 j i ε];exact ι,bw j i ε,λeO bK J U e=>?_,λ_=>ε,λh=>absurd hi h⟩;subst e;by_cases aD:eO<σ.length
    ·have:=J aD;rw[ε] at this;cases this;rfl
    ·have:=U aD;have:=(cf.1 ε).1;omega
   ·exact .inl ⟨hi,Ζ,by rw[<-s2 i hi Ζ];exact ι,dm i hi Ζ⟩
  ·have e:i=σ.length+(i-σ.length):=by omega
   refine .inr ⟨ρ.length+(i-σ.length),by rw[<-kD,<-e];exact ι,by rw[<-fJ,<-e],λeO bK J U aQ=>?_,λh=>absurd h hi,λ_=>rfl⟩;by_cases aD:eO<σ.length
   ·have:=(cf.1 (J aD)).1;omega
   ·have:=U aD;omega
 have M4:bT.length=kr.length:=by
  show(je B ρ eG++eG.drop ρ.length).length=(je σ ρ σ0++σ0.drop ρ.length).length;simp[sF,Α.len,VR]
 have DS:b8 S aE B bT σ kr:=⟨he.dt,λid r ι=>by
  have hi:=(cf.1 ι).1;by_cases Ζ:id∈ρ
  ·obtain⟨j,ε⟩:=List.getElem?_of_mem Ζ;have ft:jf[j]?=some r:=by rw[<-br j id ε];exact ι
   obtain⟨r',Χ,ak⟩:=ο.rows j r ft;exact⟨r',by rw[s1 j id ε];exact Χ,by rw[bw j id ε,<-DR j id ε];exact ak⟩
  ·exact⟨r,by rw[s2 id hi Ζ];exact ι,by rw[dm id hi Ζ];exact r.tI _⟩⟩
 have DT:∀b,aV.has (ρ.map λi=>B.getD i none) b->∃j i N,ρ[j]?=some i/\B[i]?=some (some (b,N)):=λb ⟨N,cm⟩=>by
  obtain⟨j,ε⟩:=List.getElem?_of_mem cm;rw[List.getElem?_map] at ε;cases γ:ρ[j]? with
  | none=>rw[γ] at ε;cases ε
  | some i=>
   rw[γ] at ε;simp only[Option.map_some,Option.some.injEq] at ε;have hi:=DQ i (cE γ);rw[List.getD_eq_getElem?_getD,bg hi] at ε;exact⟨j,i,N,γ,by rw[bg hi];simpa using ε⟩
 have M5:∀(j i:Nat),ρ[j]?=some i->∃r,σ[i]?=some r/\r.live/\il r:=λj i ε=>by
  have im:j<jf.length:=by rw[<-hlen];exact(cf.1 ε).1
  have ι:=bg im
  have ψ:=ih _ (cE ι);refine⟨_,by rw[br j i ε];exact ι,?_,ψ⟩;cases γ:jf[j]<;>rw[γ] at ψ<;>first|trivial|exact ψ.elim
 have DU:∀(id:Nat) (r:Row) (b N:Nat),id∉ρ->σ[id]?=some r->r.live->B[id]?=some (some (b,N))->¬aV.has (ρ.map λi=>B.getD i none) b/\¬H.fresh b/\kJ H H' b:=λid r b N Ζ ι fv hb=>by
  have c1:¬aV.has (ρ.map λi=>B.getD i none) b:=λa0=>by
   obtain⟨j,i,e4,J,U⟩:=DT b a0;obtain⟨r',Χ,ak,_⟩:=M5 j i J;exact Α.inj id i r r' b N e4 (λe=>Ζ (e▸cE J)) ι Χ fv ak hb U
  have c2:=Α.n8 ι fv hb;exact⟨c1,c2,(he.fV b c1 c2).sk λo=>Α.sep id r b N ι fv hb o⟩
 refine⟨⟨aj.dt,M4,λi r bo ι e7=>?_,λi j ez cg b gU gV fU hi ε iG eu hD cX=>?_,λi r b N ι fv hb o=>?_⟩,⟨he.dt,λb hb Υ=>?_,λb hb=>?_,λb o v hv=>?_,he.grow⟩,DS,⟨λj i ε=>?_,λj i ε=>?_⟩⟩
 ·rcases z6 i r ι with⟨Χ,ak,aY,cy⟩|⟨j,Χ,ak,_,_⟩
  ·by_cases fv:r.live
   ·rw[cy] at e7;refine(Α.row i r bo aY e7).later DS (λb N e=>(DU i r b N ak aY fv (by rw[e7,e])).2.2) λcC left cur e=>?_;subst e;obtain⟨_,_,aW,k8,xs,clock,seen,_,Δ,⟨es,Γ⟩,_⟩:=Α.row i _ bo aY e7;have oP:cC∉ρ:=λhm=>by
     obtain⟨j,ε⟩:=List.getElem?_of_mem hm;obtain⟨r',dK,_,ga⟩:=M5 j cC ε;rw[Γ] at dK;cases dK;exact ga
    have DV:=(cf.1 Γ).1;exact⟨s2 cC DV oP,dm cC DV oP,λb N hb=>(DU cC _ b N oP Γ trivial hb).2.2⟩
   ·cases r<;>first|exact absurd trivial fv|trivial
  ·rw[ak] at e7;exact(aj.row j r bo Χ e7).VP (B':=bT) (σ':=kr) (VQ r (cE Χ)) _ _
 ·have zw:∀(i:Nat) (ez:Row) (gU:Nat) (bK:Nat) (cg:Row) (gV:Nat),i∉ρ->σ[i]?=some ez->ez.live->B[i]?=some (some (b,gU))->σ0[bK]?=some cg->cg.live->eG[bK]?=some (some (b,gV))->False:=λi ez gU bK cg gV J U μ Θ av ba gZ=>by
   obtain⟨c1,c2,_⟩:=DU i ez b gU J U μ Θ;rcases he.blocks b (oS gZ) with h|h
   ·exact c1 h
   ·exact c2 h
  rcases z6 i ez hi with⟨Χ,ak,aY,cy⟩|⟨i0,Χ,ak,aY,cy⟩<;>rcases z6 j cg ε with⟨k1,cN,rl,z7⟩|⟨HC,k1,cN,rl,z7⟩
  ·rw[cy] at hD;rw[z7] at cX;exact Α.inj i j ez cg b gU gV fU aY rl iG eu hD cX
  ·rw[cy] at hD;rw[cN] at cX;exact zw i ez gU HC cg gV ak aY iG hD k1 eu cX
  ·rw[ak] at hD;rw[z7] at cX;exact zw j cg gV i0 ez gU cN rl eu cX Χ iG hD
  ·rw[ak] at hD;rw[cN] at cX;refine aj.inj i0 HC ez cg b gU gV (λe=>fU ?_) Χ k1 iG eu hD cX;exact aY j HC z7.1 z7.2 e
 ·rcases z6 i r ι with⟨Χ,ak,aY,cy⟩|⟨j,Χ,ak,_,_⟩
  ·rw[cy] at hb;obtain⟨c1,c2,_⟩:=DU i r b N ak aY fv hb;cases hv:aE b o with
   | none=>rfl
   | some v=>
    rcases he.qZ b o v hv with h|h|h
    ·rw[Α.sep i r b N aY fv hb o] at h;cases h
    ·exact absurd h c1
    ·exact absurd h c2
  ·rw[ak] at hb;exact aj.sep j r b N Χ fv hb o
 ·refine he.fV b (λa0=>hb ?_) Υ;obtain⟨j,i,e4,_,U⟩:=DT b a0;exact oS U
 ·obtain⟨N,cm⟩:=hb;obtain⟨i,hi⟩:=List.getElem?_of_mem cm;have iq:i<kr.length:=by rw[<-M4];exact(cf.1 hi).1
  rcases z6 i _ (bg iq) with⟨Χ,ak,aY,cy⟩|⟨j,Χ,ak,_,_⟩
  ·rw[cy] at hi;exact .inl (oS hi)
  ·rw[ak] at hi;rcases he.blocks b (oS hi) with h|h
   ·obtain⟨j,eO,e4,_,U⟩:=DT b h;exact .inl (oS U)
   ·exact .inr h
 ·rcases he.qZ b o v hv with h|h|h
  ·exact .inl h
  ·obtain⟨j,eO,e4,_,U⟩:=DT b h;exact .inr (.inl (oS U))
  ·exact .inr (.inr h)
 ·by_cases im:j<ρ.length
  ·rw[ev im] at ε;exact s1 j i ε
  ·rw[h6 R,List.getElem?_map] at ε;have vy:j-ρ.length<σ0.length-ρ.length:=by
    apply Classical.byContradiction;intro Ζ;rw[List.getElem?_eq_none (by simp;omega)] at ε;cases ε
   rw[bg (by simpa using vy)] at ε;simp at ε;subst ε;rw[kD];congr 1;omega
 ·by_cases im:j<ρ.length
  ·rw[ev im] at ε;exact bw j i ε
  ·rw[h6 R,List.getElem?_map] at ε;have vy:j-ρ.length<σ0.length-ρ.length:=by
    apply Classical.byContradiction;intro Ζ;rw[List.getElem?_eq_none (by simp;omega)] at ε;cases ε
   rw[bg (by simpa using vy)] at ε;simp at ε;subst ε;rw[fJ];congr 1;omega
def names (ρ:List Nat) (n:Nat) (σ0:List Row):List Nat:=ρ++(List.range (σ0.length-ρ.length)).map (n + ·)
def sG (σ:List Row) (ρ:List Nat) (σ0:List Row):List Row:=je σ ρ σ0++σ0.drop ρ.length
theorem ae.M6 {g:FuncId} {as0:List θ} {jf:List Row} {K:θ->List Row->Prop} {E:θ->List Row->Prop} (h:ae P g as0 jf K E) (ρ:List Nat) (kL:ρ.Nodup) (hlen:ρ.length=jf.length) (br:∀(j i:Nat),ρ[j]?=some i->σ[i]?=jf[j]?) (ih:∀r∈jf,il r)
  (has:∀a∈as0,fQ ρ.length a) {K':θ->List Row->Prop} {E':θ->List Row->Prop} (ζ:∀a s,K a s->(∀r∈s,z5 r)/\fQ s.length a/\K' (ei (names ρ σ.length s) a) (sG σ ρ s))
  (dw:∀a s,E a s->(∀r∈s,z5 r)/\fQ s.length a/\E' (ei (names ρ σ.length s) a) (sG σ ρ s)):ae P g (as0.map (ei ρ)) σ K' E':=by
 refine⟨h.1,λQ mn x c rest S B H vs γ Α hv l5=>?_⟩;have aP:∀(j i:Nat),ρ[j]?=some i->i<σ.length:=λj i ε=>by
  have im:j<jf.length:=by rw[<-hlen];exact(cf.1 ε).1
  have:=br j i ε;rw[bg im] at this;exact(cf.1 this).1
 have DR:∀(j i:Nat),ρ[j]?=some i->(ρ.map λi=>B.getD i none)[j]?=B[i]?:=λj i ε=>by
  have hi:i<B.length:=by rw[Α.len];exact aP j i ε
  rw[List.getElem?_map,ε];simp[hi]
 have lb:Names ρ (ρ.map λi=>B.getD i none) jf B σ:=⟨br,λj i ε=>(DR j i ε).symm⟩
 have pick:∀(j:Nat) (r:Row) (bo:Option (Nat×Nat)),jf[j]?=some r->(ρ.map λi=>B.getD i none)[j]?=some bo->∃i,ρ[j]?=some i/\σ[i]?=some r/\B[i]?=some bo:=λj r bo ι e7=>by
  have im:j<ρ.length:=by rw[hlen];exact(cf.1 ι).1
  have ε:=bg im;exact⟨_,ε,by rw[br j _ ε];exact ι,by rw[<-DR j _ ε];exact e7⟩
 have VS:Holds S (ρ.map λi=>B.getD i none) jf H:=by
  refine⟨Α.dt,by simp[hlen],λj r bo ι e7=>?_,λi j ez cg b gU gV fU hi ε iG eu hD cX=>?_,λj r b N ι fv hb o=>?_⟩
  ·obtain⟨i,J,U,μ⟩:=pick j r bo ι e7;exact(Α.row i r bo U μ).plain (B':=B) (σ':=σ) (ih r (cE ι)) _ _
  ·obtain⟨eO,J,U,μ⟩:=pick i ez _ hi hD;obtain⟨bK,Χ,ak,aY⟩:=pick j cg _ ε cX;refine Α.inj eO bK ez cg b gU gV (λe=>fU ?_) U ak iG eu μ aY;subst e;have jc:=(cf.1 J).1;exact(List.getElem?_inj jc kL).1 (J.trans Χ.symm)
  ·obtain⟨i,J,U,μ⟩:=pick j r _ ι hb;exact Α.sep i r b N U fv μ o
 refine h.2 Q mn x c rest S _ H vs γ VS ⟨by have:=hv.1;simpa using this,λi a v J U=>(HB lb (has a (cE J))).1 (hv.2 i _ v (by rw[List.getElem?_map,J];rfl) U)⟩ ⟨λa σ' aE B' H' v ς he ο jA ι=>?_,λa σ' aE B' H' v ς he ο jA ι=>?_⟩
 ·obtain⟨dK,dq,ga⟩:=ζ a σ' ς;obtain⟨dy,p2,p3,p4⟩:=Α.M3 kL hlen br ih he ο jA dK;refine l5.ret _ _ aE _ H' v ga p2 p3 dy ((HB p4 ?_).2 ι);have:(ρ++(List.range (σ'.length-ρ.length)).map (σ.length + ·)).length=σ'.length:=by
   have:=ο.length;simp;omega
  rw[this];exact dq
 ·obtain⟨dK,dq,ga⟩:=dw a σ' ς;obtain⟨dy,p2,p3,p4⟩:=Α.M3 kL hlen br ih he ο jA dK;refine l5.xI _ _ aE _ H' v ga p2 p3 dy ((HB p4 ?_).2 ι);have:(ρ++(List.range (σ'.length-ρ.length)).map (σ.length + ·)).length=σ'.length:=by
   have:=ο.length;simp;omega
  rw[this];exact dq
theorem ae.rows {g:FuncId} {as0:List θ} {jf:List Row} {K:θ->List Row->Prop} {E:θ->List Row->Prop} (h:ae P g as0 jf K E) (ρ:List Nat) (kL:ρ.Nodup) (hlen:ρ.length=jf.length) (br:∀(j i:Nat),ρ[j]?=some i->σ[i]?=jf[j]?) (ih:∀r∈jf,il r)
  (has:∀a∈as0,fQ ρ.length a) {K':θ->List Row->Prop} {E':θ->List Row->Prop} (ζ:∀a s,K a s->(∀r∈s,il r)/\fQ s.length a/\K' (ei (names ρ σ.length s) a) (sG σ ρ s))
  (dw:∀a s,E a s->(∀r∈s,il r)/\fQ s.length a/\E' (ei (names ρ σ.length s) a) (sG σ ρ s)):ae P g (as0.map (ei ρ)) σ K' E':=
 h.M6 ρ kL hlen br ih has (λa s x=>let ⟨p,q⟩:=ζ a s x;⟨λr ι=>.inl (p r ι),q⟩) (λa s x=>let ⟨p,q⟩:=dw a s x;⟨λr ι=>.inl (p r ι),q⟩)
end
def dP (a b:θ):Prop:=∀(S:aJ) (B:aV) (σ:List Row) (v:Value),ay S B σ a v->ay S B σ b v
def bF (l m:List θ):Prop:=l.length=m.length/\∀(i:Nat) (a b:θ),l[i]?=some a->m[i]?=some b->dP a b
theorem dP.refl (a:θ):dP a a:=λ_ _ _ _ h=>h
theorem dP.of {a b:θ} (h:a=b):dP a b:=h▸.refl a
theorem dP.trans {a b c:θ} (h:dP a b) (k:dP b c):dP a c:=λS B σ v x=>k S B σ v (h S B σ v x)
theorem bF.refl (l:List θ):bF l l:=⟨rfl,λi a b h k=>by rw[h] at k;cases k;exact .refl a⟩
theorem bF.nil:bF [] []:=.refl []
theorem bF.cons {a b:θ} {l m:List θ} (h:dP a b) (k:bF l m):bF (a::l) (b::m):=⟨by simp[k.1],λi x y γ Ι=>by
 cases i with
 | zero=>simp at γ Ι;subst γ;subst Ι;exact h
 | succ i=>exact k.2 i x y (by simpa using γ) (by simpa using Ι)⟩
theorem dP.a5 {l m:List θ} (h:bF l m):dP (.a5 l) (.a5 m):=λS B σ v x=>by
 cases x with
 | a5 vs J U=>
  refine .a5 vs (h.1.symm.trans J) λi b v hi hv=>?_;have aP:i<l.length:=by rw[h.1];exact(cf.1 hi).1
  have κ:=bg aP;exact h.2 i _ b κ hi S B σ v (U i _ v κ hv)
theorem dP.bj {l m:List θ} (h:bF l m):dP (.bj l) (.bj m):=λS B σ v x=>by
 cases x with
 | bj vs J U=>
  refine .bj vs (h.1.symm.trans J) λi b v hi hv=>?_;have aP:i<l.length:=by rw[h.1];exact(cf.1 hi).1
  have κ:=bg aP;exact h.2 i _ b κ hi S B σ v (U i _ v κ hv)
theorem dP.sl {e:Bool} {k:Nat} {l m:List θ} (hlen:l.length=m.length) (h:∀(i:Nat) (a b:θ),l[i]?=some a->m[i]?=some b->bF a.cells b.cells):dP (.sl e k l) (.sl false k m):=λS B σ v x=>by
 have up:∀(i:Nat) (b:θ),m[i]?=some b->∃a,l[i]?=some a/\bF a.cells b.cells:=λi b hi=>by
  have aP:i<l.length:=by rw[hlen];exact(cf.1 hi).1
  exact⟨_,bg aP,h i _ b (bg aP) hi⟩
 cases x with
 | i' base cap δ=>
  have:m=[]:=dG.1 hlen.symm;subst this;exact .i' base cap λx=>by cases x
 | sl b o cap w J U μ Θ av=>
  rw[hlen];refine .sl b o cap w (λx=>by cases x) R (λi y hi=>?_) (λi y hi j c ε=>?_) (λi y hi j c ε=>?_)
  ·obtain⟨a,κ,eN⟩:=up i y hi;rw[<-eN.1];exact μ i a κ
  ·obtain⟨a,κ,eN⟩:=up i y hi;have aP:j<a.cells.length:=by rw[eN.1];exact(cf.1 ε).1
   exact Θ i a κ j _ (bg aP)
  ·obtain⟨a,κ,eN⟩:=up i y hi;have aP:j<a.cells.length:=by rw[eN.1];exact(cf.1 ε).1
   have δ:=bg aP;exact eN.2 j _ c δ ε S B σ _ (av i a κ j _ δ)
theorem dP.ex {e:Bool} {k:Nat} {l:List θ}:dP (.sl e k l) (.sl false k l):=.sl rfl λi a b J U=>by rw[J] at U;cases U;exact .refl _
theorem dP.nil {e:Bool} {k ag:Nat}:dP (.sl e k []) (.sl false ag []):=λS B σ v x=>by
 have g:∀(l:List θ),l=[]->ay S B σ (.sl e k l) v->ay S B σ (.sl false ag []) v:=λl ο x=>by
  cases x with
  | i' base cap δ=>exact .i' base cap λx=>by cases x
  | sl b o cap w J U μ Θ av=>subst ο;exact .i' _ cap λx=>by cases x
 exact g [] rfl x
theorem dP.map {α:Type} {f g:α->θ} {e:Bool} {k:Nat} {l:List α} (h:∀x∈l,bF (f x).cells (g x).cells):dP (.sl e k (l.map f)) (.sl false k (l.map g)):=.sl η λi a b J U=>by
 rw[List.getElem?_map] at J U;cases γ:l[i]? with
 | none=>rw[γ] at J;cases J
 | some x=>rw[γ] at J U;cases J;cases U;exact h x (cE γ)
theorem bF.one {a b:θ} (h:dP a b) (κ:a.cells=[a]) (hb:b.cells=[b]):bF a.cells b.cells:=by rw[κ,hb];exact .cons h .nil
section
variable {P:Program} {σ:List Row}
theorem fO.xE {S:aJ} {B:aV} {l m:List θ} {vs:Array Value} (h:bF l m) (k:fO S B σ l vs):fO S B σ m vs:=⟨h.1.symm.trans k.1,λi b v hi hv=>by
 have aP:i<l.length:=by rw[h.1];exact(cf.1 hi).1
 have κ:=bg aP;exact h.2 i _ b κ hi S B σ v (k.2 i _ v κ hv)⟩
theorem ae.nF {g:FuncId} {args gC:List θ} {K K' E:θ->List Row->Prop} (h:ae P g args σ K E) (κ:bF gC args) (ζ:∀a s,K a s->∃b,dP a b/\K' b s):ae P g gC σ K' E:=
 ⟨h.1,λQ mn x c rest S B H vs γ Α hv hb=>h.2 Q mn x c rest S B H vs γ Α (hv.xE κ) ⟨λa σ' aE B' H' v ς he ο jA ι=>by
  obtain⟨b,J,U⟩:=ζ a σ' ς;exact hb.ret b σ' aE B' H' v U he ο jA (J aE B' σ' v ι),hb.xI⟩⟩
def az (P:Program) (g:FuncId) (args:List θ) (r:θ):Prop:=ae P g args [] (λa s=>dP a r/\s=[]) (λ_ _=>False)
theorem az.ct {g:FuncId} {args gC:List θ} {r:θ} (h:az P g args r) (κ:bF gC args):zU P g gC r:=ae.nF h κ λa s ⟨J,U⟩=>⟨r,J,rfl,U⟩
theorem az.c {g:FuncId} {args gC:List θ} {r:θ} {K E:θ->List Row->Prop} (h:az P g args r) (κ:bF gC args) (hb:∀a∈gC,aG 0 a) (ι:aG 0 r) (ζ:K r σ):hG P (.fn (.func g) [] []) gC σ K E:=
 zU.call (first:=[]) (captured:=[]) (by simpa using h.ct κ) (by simpa using hb) ι ζ
theorem az.p {g:FuncId} {args gC:List θ} {r:θ} (h:az P g args r) (κ:bF gC args) (hb:∀a∈gC,aG 0 a) (ι:aG 0 r):gp P (.fn (.func g) [] []) gC r:=λ_=>h.c κ hb ι ⟨rfl,rfl⟩
theorem az.d {g:FuncId} {args:List θ} {r:θ} {K E:θ->List Row->Prop} (h:az P g args r) (ζ:K r σ) (hb:∀a∈args,aG 0 a:=by simp) (ι:aG 0 r:=by simp):hG P (.fn (.func g) [] []) args σ K E:=h.c (bF.refl _) hb ι ζ
theorem az.q {g:FuncId} {args:List θ} {r:θ} (h:az P g args r) (hb:∀a∈args,aG 0 a:=by simp) (ι:aG 0 r:=by simp):gp P (.fn (.func g) [] []) args r:=h.p (bF.refl _) hb ι
theorem az.cc {g:FuncId} {args gC first captured:List θ} {r:θ} {K E:θ->List Row->Prop} (h:az P g args r) (κ:bF (first++gC++captured) args) (hb:∀a∈first++gC++captured,aG 0 a) (ι:aG 0 r) (ζ:K r σ):hG P (.fn (.func g) first captured) gC σ K E:=
 zU.call (h.ct κ) hb ι ζ
end
theorem eT.own {h id n k:Nat} {σ:List Row} {t:TypeId} {l:List θ} (b9:h<=id) (bS:σ[id]?=some (.cells t k l)) (Ζ:l.length=n) (hb:∀e∈l,∀a∈e.cells,aG h a):eT h σ (.ms id n 0 n) (.sl false k l):=by
 refine .ms b9 bS Ζ R Ζ (λj e aQ J U=>?_) (λj e aQ J U x a cz μ Θ=>?_)
 ·rw[Nat.zero_add] at J;rw[J] at U;cases U;rfl
 ·rw[Nat.zero_add] at J;rw[J] at U;cases U;rw[μ] at Θ;cases Θ;exact .low (hb e (cE J) a (cE μ))
end Go.TL
