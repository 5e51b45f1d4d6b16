import Derived.Test.YtlabjopijpkiaaaGreatDAJ
set_option maxHeartbeats 16000000
set_option maxRecDepth 20000
set_option linter.unusedSectionVars false
set_option linter.unusedSimpArgs false
set_option linter.unusedVariables false
namespace Go.TL
open Go.Conc
variable [bj]
def zx (ops:Array Oper) (o:Oper):List Tmp:=
 (o.op.operands.toList.filterMap fun|.tmp t=>some t|_=>none)++(match o.guard with|some (g,_)=>((ops[g]?).bind (·.dst)).toList|none=>[])
def i' (o:Oper):List Nat:=(o.after.toList.filter (Region.binds .any)).map (·.on)
def zy:List Oper->List (List Nat)->List (List Nat)
 | [],acc=>acc
 | o::os,acc=>zy os (acc++[i' o++(i' o).flatMap λj=>acc.getD j []])
def GP (ops:Array Oper):List (List Nat):=zy ops.toList []
def kT (o:Oper):Bool:=match o.op with
 | .load _ _=>true
 | .indexAddr _ _ _=>true
 | .fieldAddr _ _ _=>true
 | .nilCheck _=>true
 | _=>false
def pO (ax:Nat->Nat->Bool) (ops:Array Oper) (tags:List Bool) (i j:Nat) (pP eF:Oper):Bool:=
 (match eF.dst with|some d=>(zx ops pP).contains d||pP.dst==some d|none=>false)||(match pP.dst with|some d=>(zx ops eF).contains d|none=>false)||(tags.getD i false&&tags.getD j false&&!(kT pP&&kT eF)&&!ax i j)
def tt (ax:Nat->Nat->Bool) (ops:Array Oper) (tags:List Bool):Bool:=
 let b:=GP ops
 (List.range ops.size).all λi=>match ops[i]? with
  | none=>false
  | some pP=>(i' pP).all (λj=>decide (j<i))&&(List.range i).all λj=>match ops[j]? with
   | none=>false
   | some eF=>!pO ax ops tags i j pP eF||(b.getD i []).contains j
def C5 (_ _:Nat):Bool:=false
def ve (ops:Array Oper) (tags:List Bool):Bool:=tt C5 ops tags
def mh (lo pu:List Nat) (i j:Nat):Bool:=lo.contains i&&pu.contains j||pu.contains i&&lo.contains j
section
variable {P:Program} {T:a9} {A:List Nat} {m nt:Nat} {k:List Item} {env:ab} {σ:List Row} {Z:List Item->ab->List Row->Prop} {E:θ->ab->List Row->Prop} {ops:Array Oper}
theorem W.congr {env':ab} (h:∀i,bc env' i=bc env i) (hW:W P m nt k env σ Z E):W P m nt k env' σ Z E:=
 λQ mn x cs b S B H t U hb ς Μ he=>hW Q mn x cs b S B H t U hb ⟨ς.holds,λi=>by rw[<-h i];exact ς.b5 i,ς.size,ς.rows⟩ Μ he
theorem UP (tf:Region.Mode):∀(fuel t:Nat) (listed:Array Bool) (i:Nat),Region.linearise.go tf ops fuel t listed [i]=i::Region.linearise.go tf ops fuel t listed []:=by
 have gen:∀(fuel t:Nat) (listed:Array Bool) (acc:List Nat),Region.linearise.go tf ops fuel t listed acc=acc.reverse++Region.linearise.go tf ops fuel t listed []:=by
  intro fuel
  induction fuel with
  | zero=>intro t listed acc;simp[Region.linearise.go]
  | succ fuel ω=>
   intro t listed acc;simp only[Region.linearise.go];split
   ·rename_i i _;rw[ω _ _ (i::acc),ω _ _ [i]];simp
   ·simp
 intro fuel t listed i;rw[gen];rfl
theorem Mr (zz:∀i o,ops[i]?=some o->∀j∈i' o,j<i) (D:Nat->Prop) (fz:∀i o,ops[i]?=some o->D i->∀j∈i' o,D j) :
  ∀(i:Nat) (o:Oper),ops[i]?=some o->(∀j∈i' o,D j)->∀j∈(GP ops).getD i [],D j:=by
 have key:∀(os:List Oper) (acc:List (List Nat)),(∀x,os[x]?=ops[acc.length+x]?)->(∀i o,i<acc.length->ops[i]?=some o->(∀j∈i' o,D j)->∀j∈acc.getD i [],D j)->
   ∀i o,i<acc.length+os.length->ops[i]?=some o->(∀j∈i' o,D j)->∀j∈(zy os acc).getD i [],D j:=by
  intro os
  induction os with
  | nil=>intro acc _ h i o hi;exact h i o (by simpa using hi)
  | cons q os ω=>
   intro acc C6 h i o hi Α he;have Χ:ops[acc.length]?=some q:=by have:=C6 0;simpa using this.symm
   refine ω (acc++[i' q++(i' q).flatMap λj=>acc.getD j []]) (λx=>?_) (λi o hi Α he=>?_) i o (by simp at hi ⊢;omega) Α he
   ·have:=C6 (x+1);simp only[List.getElem?_cons_succ] at this;rw[this];simp;congr 1;omega
   ·by_cases aI:i<acc.length
    ·rw[List.getD_eq_getElem?_getD,dv aI,<-List.getD_eq_getElem?_getD];exact h i o aI Α he
    ·have bp:i=acc.length:=by simp at hi;omega
     subst bp;rw[Χ] at Α;cases Α;rw[List.getD_eq_getElem?_getD,h4 (Nat.le_refl _)];simp only[Nat.sub_self,List.getElem?_cons_zero,Option.getD_some,List.mem_append,List.mem_flatMap];rintro j (δ|⟨y,Φ,δ⟩)
     ·exact he j δ
     ·have UQ:=zz _ _ Χ y Φ
      have UR:y<ops.size:=by have:=(Array.getElem?_eq_some_iff.1 Χ).1;omega
      have Ms:ops[y]?=some ops[y]:=gF UR;exact h y _ UQ Ms (fz y _ Ms (he y Φ)) j δ
 intro i o Α he;exact key ops.toList [] (λx=>η) (λi o hi=>by simp at hi) i o (by have:=(Array.getElem?_eq_some_iff.1 Α).1;simpa using this) Α he
def sb (ops:Array Oper) (o:Oper) (env env':ab):Prop:=∀t∈zx ops o,bc env' t=bc env t
def zA (P:Program) (m nt:Nat) (k:List Item) (Z:List Item->ab->List Row->Prop) (E:θ->ab->List Row->Prop) (ops:Array Oper) (i:Nat) (o:Oper) (env:ab) (a:θ):Prop:=
 ∀env' σ' rest,sb ops o env env'->W P m nt (.inRegion ops rest::k) (b6 o env' a) σ' Z E->W P m nt (.inRegion ops (i::rest)::k) env' σ' Z E
def tu (P:Program) (m nt:Nat) (k:List Item) (Z:List Item->ab->List Row->Prop) (E:θ->ab->List Row->Prop) (ops:Array Oper) (i:Nat) (o:Oper) (env:ab) (σ:List Row) (a:θ) (gk:List Row):Prop:=
 ∀env' rest,sb ops o env env'->W P m nt (.inRegion ops rest::k) (b6 o env' a) gk Z E->W P m nt (.inRegion ops (i::rest)::k) env' σ Z E
def dE (ops:Array Oper) (env0:ab) (as9:Nat->θ) (D:Nat->Bool):Nat->ab
 | 0=>env0
 | n+1=>if D n then(match ops[n]? with|some o=>b6 o (dE ops env0 as9 D n) (as9 n)|none=>dE ops env0 as9 D n) else dE ops env0 as9 D n
theorem zB {o:Oper} {env:ab} {a:θ} {t:Nat}:bc (b6 o env a) t=if o.dst=some t then a else bc env t:=by
 unfold b6;cases hd:o.dst with
 | none=>simp
 | some d=>simp[bc]
theorem GQ {env0:ab} {as9:Nat->θ} {D zC:Nat->Bool} {t:Nat}:∀(n:Nat),(∀i o,i<n->ops[i]?=some o->o.dst=some t->D i=zC i)->bc (dE ops env0 as9 D n) t=bc (dE ops env0 as9 zC n) t:=by
 intro n
 induction n with
 | zero=>intro _;rfl
 | succ n ω=>
  intro h;have vf:=ω λi o hi=>h i o γ;simp only[dE];cases Α:ops[n]? with
  | none=>cases D n<;>cases zC n<;>simpa using vf
  | some o=>
   by_cases hd:o.dst=some t
   ·rw[h n o (Nat.lt_succ_self n) Α hd];cases zC n
    ·simpa using vf
    ·simp[zB,hd]
   ·cases D n<;>cases zC n<;>simp[zB,hd,vf]
theorem Mt {env0:ab} {as9:Nat->θ} {D:Nat->Bool} {t:Nat} {n N:Nat} (Ε:n<=N) (h:∀i o,n<=i->i<N->ops[i]?=some o->o.dst=some t->D i=false):bc (dE ops env0 as9 D N) t=bc (dE ops env0 as9 D n) t:=by
 induction N with
 | zero=>have:n=0:=by omega
         subst this;rfl
 | succ N ω=>
  by_cases e:n=N+1
  ·subst e;rfl
  ·have vf:=ω γ λi o I R=>h i o I γ;simp only[dE];cases fz:D N
   ·simpa using vf
   ·cases Α:ops[N]? with
    | none=>simpa using vf
    | some o=>
     have hd:o.dst≠some t:=λhd=>by rw[h N o γ (Nat.lt_succ_self N) Α hd] at fz;cases fz
     simp[zB,hd,vf]
def writer (ops:Array Oper) (tags:List Bool) (i:Nat):Bool:=tags.getD i false&&match ops[i]? with|some o=>!kT o|none=>true
theorem W.Mu {lo pu:List Nat} {V:Type} {v:List Row->V} {as9:Nat->θ} {σs:Nat->List Row} {tags:List Bool} {env0:ab} (ei:tt (mh lo pu) ops tags=true)
  (dW:∀i o,ops[i]?=some o->tags.getD i false=false->zA P m nt k Z E ops i o (dE ops env0 as9 (λ_=>true) i) (as9 i)/\σs (i+1)=σs i)
  (fA:∀i o,ops[i]?=some o->tags.getD i false=true->tu P m nt k Z E ops i o (dE ops env0 as9 (λ_=>true) i) (σs i) (as9 i) (σs (i+1))/\(kT o=true->σs (i+1)=σs i))
  (GR:∀i o,ops[i]?=some o->lo.contains i=true->tags.getD i false=true->kT o=true/\∀τ,v τ=v (σs i)->tu P m nt k Z E ops i o (dE ops env0 as9 (λ_=>true) i) τ (as9 i) τ)
  (US:∀i o,ops[i]?=some o->pu.contains i=true->v (σs (i+1))=v (σs i))
  (GU:W P m nt (.inRegion ops []::k) (dE ops env0 as9 (λ_=>true) ops.size) (σs ops.size) Z E) :
  ∀(fuel:Nat) (t:Nat) (listed:Array Bool) (env:ab) (dN:Nat),listed.size=ops.size->
   (∀i,bc env i=bc (dE ops env0 as9 (λi=>listed.getD i false) ops.size) i)->
   (∀i o,ops[i]?=some o->listed.getD i false=true->∀j∈i' o,listed.getD j false=true)->
   dN<=ops.size->(∀j,j<ops.size->writer ops tags j=true->(listed.getD j false=true↔j<dN))->
   ((List.range ops.size).filter λi=>!listed.getD i false).length<=fuel->
   W P m nt (.inRegion ops (Region.linearise.go .any ops fuel t listed [])::k) env (σs dN) Z E:=by
 have GV:∀i o,ops[i]?=some o->(∀j∈i' o,j<i)/\∀j eF,j<i->ops[j]?=some eF->pO (mh lo pu) ops tags i j o eF=true->j∈(GP ops).getD i []:=by
  intro i o Α;have hi:i<ops.size:=(Array.getElem?_eq_some_iff.1 Α).1;unfold tt at ei;simp only[List.all_eq_true,List.mem_range] at ei;have h:=ei i hi;rw[Α] at h;simp only[Bool.and_eq_true,List.all_eq_true,decide_eq_true_eq,List.mem_range] at h;refine⟨h.1,λj eF δ gl ε=>?_⟩;have R:=h.2 j δ;rw[gl] at R;simp only[ε,Bool.not_true,Bool.false_or,List.contains_iff_mem] at R;exact R
 have zz:∀i o,ops[i]?=some o->∀j∈i' o,j<i:=λi o Α=>(GV i o Α).1
 have GW:∀i o,ops[i]?=some o->writer ops tags i=false->σs (i+1)=σs i:=λi o Α hw=>by
  cases Ν:tags.getD i false with
  | false=>exact(dW i o Α Ν).2
  | true=>
   refine(fA i o Α Ν).2 ?_;unfold writer at hw;rw[Ν,Α] at hw;simpa using hw
 have Mv:∀(d a:Nat),a+d<=ops.size->(∀j,a<=j->j<a+d->writer ops tags j=false)->σs (a+d)=σs a:=by
  intro d
  induction d with
  | zero=>intro a _ _;rfl
  | succ d ω=>
   intro a hle h;have I:ops[a+d]?=some ops[a+d]:=gF γ;have:=GW (a+d) _ I (h (a+d) γ γ);rw[show a+(d+1)=a+d+1 by omega,this];exact ω a γ λj I R=>h j I γ
 have GX:∀a b,a<=ops.size->b<=ops.size->(∀j,j<ops.size->writer ops tags j=true->(j<a↔j<b))->σs a=σs b:=λa b κ hb h=>by
  rcases Nat.le_total a b with hle|hle
  ·have:=Mv (b-a) a γ λj I R=>by
    cases Ν:writer ops tags j with
    | false=>rfl
    | true=>have:=(h j γ Ν).2 γ;omega
   rw[show a+(b-a)=b by omega] at this;exact this.symm
  ·have:=Mv (a-b) b γ λj I R=>by
    cases Ν:writer ops tags j with
    | false=>rfl
    | true=>have:=(h j γ Ν).1 γ;omega
   rw[show b+(a-b)=a by omega] at this;exact this
 have UT:∀a b,a<=ops.size->b<=ops.size->(∀j,j<ops.size->writer ops tags j=true->pu.contains j=false->(j<a↔j<b))->v (σs a)=v (σs b):=λa b κ hb h=>by
  have key:∀(d a:Nat),a+d<=ops.size->(∀j,a<=j->j<a+d->writer ops tags j=true->pu.contains j=true)->v (σs (a+d))=v (σs a):=by
   intro d
   induction d with
   | zero=>intro a _ _;rfl
   | succ d ω=>
    intro a hle h;have I:ops[a+d]?=some ops[a+d]:=gF γ;have e:v (σs (a+d+1))=v (σs (a+d)):=by
     cases hw:writer ops tags (a+d) with
     | false=>rw[GW (a+d) _ I hw]
     | true=>exact US (a+d) _ I (h (a+d) γ γ hw)
    rw[show a+(d+1)=a+d+1 by omega,e];exact ω a γ λj I R=>h j I γ
  have side:∀x y,y<=ops.size->(∀j,j<ops.size->writer ops tags j=true->pu.contains j=false->(j<x↔j<y))->x<=y->v (σs y)=v (σs x):=λx y Φ h hle=>by
   have:=key (y-x) x γ λj I R hw=>by
    cases ς:pu.contains j with
    | true=>rfl
    | false=>have:=(h j γ hw ς).2 γ;omega
   rwa [show x+(y-x)=y by omega] at this
  rcases Nat.le_total a b with hle|hle
  ·exact(side a b hb h hle).symm
  ·exact side b a κ (λj I R ν=>(h j I R ν).symm) hle
 intro fuel;have done:∀(t:Nat) (listed:Array Bool) (env:ab) (dN:Nat),(∀i,i<ops.size->listed.getD i false=true)->(∀i,bc env i=bc (dE ops env0 as9 (λi=>listed.getD i false) ops.size) i)->dN<=ops.size->
   (∀j,j<ops.size->writer ops tags j=true->(listed.getD j false=true↔j<dN))->W P m nt (.inRegion ops []::k) env (σs dN) Z E:=λt listed env dN lp cU lH tv=>by
  have Γ:σs dN=σs ops.size:=GX dN ops.size lH (Nat.le_refl _) λj δ Ν=>by rw[<-tv j δ Ν];simp[lp j δ,δ]
  rw[Γ];refine .congr (λi=>?_) GU;rw[cU i];exact GQ ops.size λi o hi _ _=>lp i hi
 have UU:∀listed:Array Bool,listed.size=ops.size->(∃i,i<ops.size/\listed.getD i false=false)->∃i,i<ops.size/\listed.getD i false=false/\∀j,j<i->listed.getD j false=true:=λlisted cC ⟨i,hi,υ⟩=>by
  induction i using Nat.strongRecOn with
  | _ i ω=>
   by_cases δ:∃j,j<i/\listed.getD j false=false
   ·obtain⟨j,I,R⟩:=δ;exact ω j I γ R
   ·exact⟨i,hi,υ,λj bk=>by
     cases h:listed.getD j false with
     | true=>rfl
     | false=>exact absurd ⟨j,bk,h⟩ δ⟩
 induction fuel with
 | zero=>
  intro t listed env dN cC cU bA lH tv UW;have lp:∀i,i<ops.size->listed.getD i false=true:=λi hi=>by
   cases h:listed.getD i false with
   | true=>rfl
   | false=>
    have xe:i∈(List.range ops.size).filter λi=>!listed.getD i false:=by rw[List.mem_filter];exact⟨List.mem_range.2 hi,by rw[h];rfl⟩
    have:((List.range ops.size).filter λi=>!listed.getD i false)=[]:=dB.1 γ;rw[this] at xe;simp at xe
  exact done t listed env dN lp cU lH tv
 | succ fuel ω=>
  intro t listed env dN cC cU bA lH tv UW;simp only[Region.linearise.go];generalize kG:((List.range ops.size).filter λi=>!listed.getD i true&&((ops[i]?).map (·.after.all λe=>!Region.binds .any e||listed.getD e.on false)).getD false)=rs;have Mw:∀i,i<ops.size->listed.getD i true=listed.getD i false:=λi hi=>by
   rw[Array.getD_eq_getD_getElem?,Array.getD_eq_getD_getElem?,gF γ];rfl
  have Mx:∀i,i∈rs↔i<ops.size/\listed.getD i false=false/\∀o,ops[i]?=some o->∀j∈i' o,listed.getD j false=true:=λi=>by
   rw[<-kG];simp only[List.mem_filter,List.mem_range,Bool.and_eq_true,Bool.not_eq_true'];constructor
   ·rintro⟨I,R,ν⟩;rw[Mw i I] at R;refine⟨I,R,λo Α j δ=>?_⟩;rw[Α] at ν;simp only[Option.map_some,Option.getD_some,Array.all_eq_true'] at ν;unfold i' at δ;simp only[List.mem_map,List.mem_filter] at δ;obtain⟨e,⟨UX,oP⟩,rfl⟩:=δ;have:=ν e (by simpa using UX);simpa[oP] using this
   ·rintro⟨I,R,ν⟩;refine⟨I,by rw[Mw i I];exact R,?_⟩;have Α:ops[i]?=some ops[i]:=gF I;rw[Α];simp only[Option.map_some,Option.getD_some,Array.all_eq_true'];intro e he;by_cases hb:Region.binds .any e=true
    ·have:=ν _ Α e.on (by unfold i';simp only[List.mem_map,List.mem_filter];exact⟨e,⟨by simpa using he,hb⟩,rfl⟩);simp[this]
    ·simp[hb]
  cases hi:rs[t % rs.length]? with
  | none=>
   simp only[List.reverse_nil];have Fy:rs=[]:=by
    cases ι:rs with
    | nil=>rfl
    | cons x xs=>
     rw[ι] at hi;have aI:t % (x::xs).length<(x::xs).length:=Nat.mod_lt _ η;rw[ba aI] at hi;cases hi
   have lp:∀i,i<ops.size->listed.getD i false=true:=λi bp=>by
    cases h:listed.getD i false with
    | true=>rfl
    | false=>
     obtain⟨r,I,R,ν⟩:=UU listed cC ⟨i,bp,h⟩;have:r∈rs:=(Mx r).2 ⟨I,R,λo Α j δ=>ν j (zz r o Α j δ)⟩;rw[Fy] at this;simp at this
   exact done t listed env dN lp cU lH tv
  | some i=>
   simp only;rw[UP];have xe:i∈rs:=cx hi;obtain⟨I,R,ν⟩:=(Mx i).1 xe;have Α:ops[i]?=some ops[i]:=gF I;have UY:=Mr zz (λj=>listed.getD j false=true) (λj o δ υ=>bA j o δ υ) i _ Α (ν _ Α);have low:∀j eF,j<i->ops[j]?=some eF->pO (mh lo pu) ops tags i j ops[i] eF=true->listed.getD j false=true:=λj eF δ gl ε=>UY j ((GV i _ Α).2 j eF δ gl ε);have high:∀j eF,i<j->ops[j]?=some eF->pO (mh lo pu) ops tags j i eF ops[i]=true->listed.getD j false=false:=λj eF δ gl ε=>by
    cases υ:listed.getD j false with
    | false=>rfl
    | true=>
     have:=Mr zz (λj=>listed.getD j false=true) (λj o δ υ=>bA j o δ υ) j eF gl (bA j eF gl υ) i ((GV j eF gl).2 i _ δ Α ε);rw[R] at this;cases this
   have same:sb ops ops[i] (dE ops env0 as9 (λ_=>true) i) env:=λx U=>by
    rw[cU x];have c1:bc (dE ops env0 as9 (λi=>listed.getD i false) ops.size) x=bc (dE ops env0 as9 (λi=>listed.getD i false) i) x:=Mt γ λj eF nL UZ gl hd=>by
     by_cases e:j=i
     ·subst e;exact R
     ·refine high j eF γ gl ?_;unfold pO;simp[hd,U]
    rw[c1];exact GQ i λj eF δ gl hd=>low j eF δ gl (by unfold pO;simp[hd,U])
   have pw:∀x,bc (b6 ops[i] env (as9 i)) x=bc (dE ops env0 as9 (λj=>(listed.setIfInBounds i true).getD j false) ops.size) x:=λx=>by
    have sc:∀j,(listed.setIfInBounds i true).getD j false=if j=i then true else listed.getD j false:=λj=>by
     rw[Array.getD_eq_getD_getElem?,Array.getD_eq_getD_getElem?];by_cases e:j=i
     ·subst e;rw[Array.getElem?_setIfInBounds_self_of_lt γ];simp
     ·rw[Array.getElem?_setIfInBounds_ne (Ne.symm e),if_neg e]
    rw[zB];by_cases hd:ops[i].dst=some x
    ·rw[if_pos hd];have c1:bc (dE ops env0 as9 (λj=>(listed.setIfInBounds i true).getD j false) ops.size) x=bc (dE ops env0 as9 (λj=>(listed.setIfInBounds i true).getD j false) (i+1)) x:=Mt γ λj eF nL UZ gl zD=>by
      rw[sc,if_neg γ];refine high j eF γ gl ?_;unfold pO;simp[hd,zD]
     rw[c1];simp only[dE,sc,if_true,Α,zB,hd]
    ·rw[if_neg hd,cU x];exact GQ ops.size λj eF δ gl zD=>by
      rw[sc,if_neg];intro e;subst e;rw[Α] at gl;cases gl;exact hd zD
   have sc:∀j,(listed.setIfInBounds i true).getD j false=if j=i then true else listed.getD j false:=λj=>by
    rw[Array.getD_eq_getD_getElem?,Array.getD_eq_getD_getElem?];by_cases e:j=i
    ·subst e;rw[Array.getElem?_setIfInBounds_self_of_lt γ];simp
    ·rw[Array.getElem?_setIfInBounds_ne (Ne.symm e),if_neg e]
   have C7:((List.range ops.size).filter λj=>!(listed.setIfInBounds i true).getD j false).length<=fuel:=by
    have aI:((List.range ops.size).filter λj=>!(listed.setIfInBounds i true).getD j false).length<((List.range ops.size).filter λj=>!listed.getD j false).length:=by
     have:((List.range ops.size).filter λj=>!(listed.setIfInBounds i true).getD j false)=((List.range ops.size).filter λj=>!listed.getD j false).filter λj=>j != i:=by
      rw[List.filter_filter];apply List.filter_congr;intro j _;rw[sc];by_cases e:j=i
      ·subst e;simp
      ·simp[e]
     rw[this];have hm:i∈(List.range ops.size).filter λj=>!listed.getD j false:=by
      rw[List.mem_filter];exact⟨List.mem_range.2 I,by rw[R];rfl⟩
     exact List.length_filter_lt_length_iff_exists.2 ⟨i,hm,η⟩
    omega
   have pQ:∀j o,ops[j]?=some o->(listed.setIfInBounds i true).getD j false=true->∀y∈i' o,(listed.setIfInBounds i true).getD y false=true:=λj o δ υ y Φ=>by
    rw[sc] at υ ⊢;by_cases e:y=i
    ·rw[if_pos e]
    ·rw[if_neg e];by_cases Θ:j=i
     ·subst Θ;rw[Α] at δ;cases δ;exact ν _ Α y Φ
     ·rw[if_neg Θ] at υ;exact bA j o δ υ y Φ
   have My:∀j,writer ops tags j=true->tags.getD j false=true:=λj h=>by
    unfold writer at h;rw[Bool.and_eq_true] at h;exact h.1
   cases tw:tags.getD i false with
   | false=>
    refine(dW i _ Α tw).1 env (σs dN) _ same ?_;refine ω _ _ _ dN (by simpa using cC) pw pQ lH (λj δ Ν=>?_) C7;rw[sc];have:j≠i:=λe=>by subst e;rw[My j Ν] at tw;cases tw
    rw[if_neg this];exact tv j δ Ν
   | true=>
    have Mz:∀j eF,ops[j]?=some eF->writer ops tags j=true->lo.contains i=false\/pu.contains j=false->pO (mh lo pu) ops tags i j ops[i] eF=true/\pO (mh lo pu) ops tags j i eF ops[i]=true:=λj eF gl Ν iV=>by
     have I:=My j Ν
     have eb:lo.contains j=false:=by
      cases υ:lo.contains j with
      | false=>rfl
      | true=>
       have:=(GR j eF gl υ I).1;unfold writer at Ν;rw[I,gl] at Ν;simp[this] at Ν
     unfold writer at Ν;rw[I,gl] at Ν;have R:kT eF=false:=by simpa using Ν
     have iV:(lo.contains i&&pu.contains j)=false:=by
      rcases iV with h|h
      ·rw[h];rfl
      ·rw[h,Bool.and_false]
     have f1:mh lo pu i j=false:=by unfold mh;rw[iV,eb,Bool.and_false];rfl
     have f2:mh lo pu j i=false:=by unfold mh;rw[eb,Bool.and_comm (pu.contains j),iV];rfl
     unfold pO;rw[I,tw,R,f1,f2];simp
    have s3:∀j,j<ops.size->writer ops tags j=true->lo.contains i=false\/pu.contains j=false->j<i->listed.getD j false=true:=λj δ Ν iV GY=>low j _ GY (gF δ) (Mz j _ (gF δ) Ν iV).1
    have MA:∀j,j<ops.size->writer ops tags j=true->lo.contains i=false\/pu.contains j=false->i<j->listed.getD j false=false:=λj δ Ν iV GY=>high j _ GY (gF δ) (Mz j _ (gF δ) Ν iV).2
    have iff:∀j,j<ops.size->writer ops tags j=true->lo.contains i=false\/pu.contains j=false->(j<dN↔j<i):=λj δ Ν iV=>by
     rw[<-tv j δ Ν];constructor
     ·intro υ;apply Classical.byContradiction;intro Ε;by_cases e:j=i
      ·subst e;rw[R] at υ;cases υ
      ·rw[MA j δ Ν iV γ] at υ;cases υ
     ·exact s3 j δ Ν iV
    cases ja:writer ops tags i with
    | false=>
     have keep:∀j,j<ops.size->writer ops tags j=true->((listed.setIfInBounds i true).getD j false=true↔j<dN):=λj δ Ν=>by
      rw[sc];have:j≠i:=λe=>by subst e;rw[Ν] at ja;cases ja
      rw[if_neg this];exact tv j δ Ν
     cases hp:lo.contains i with
     | true=>
      refine(GR i _ Α hp tw).2 (σs dN) (UT dN i lH γ λj δ Ν ς=>iff j δ Ν (.inr ς)) env _ same ?_;exact ω _ _ _ dN (by simpa using cC) pw pQ lH keep C7
     | false=>
      have C8:σs dN=σs i:=GX dN i lH γ λj δ Ν=>iff j δ Ν (.inl hp)
      have es:=GW i _ Α ja
      have μ:=(fA i _ Α tw).1;rw[es] at μ;rw[C8];refine μ env _ same ?_;rw[<-C8];exact ω _ _ _ dN (by simpa using cC) pw pQ lH keep C7
    | true=>
     have hp:lo.contains i=false:=by
      cases υ:lo.contains i with
      | false=>rfl
      | true=>
       have:=(GR i _ Α υ tw).1;unfold writer at ja;rw[Α] at ja;simp[this] at ja
     have C8:σs dN=σs i:=GX dN i lH γ λj δ Ν=>iff j δ Ν (.inl hp);rw[C8];refine(fA i _ Α tw).1 env _ same ?_;refine ω _ _ _ (i+1) (by simpa using cC) pw pQ γ (λj δ Ν=>?_) C7;rw[sc];by_cases e:j=i
     ·subst e;simp
     ·rw[if_neg e];constructor
      ·intro υ;apply Classical.byContradiction;intro Ε;rw[MA j δ Ν (.inl hp) γ] at υ;cases υ
      ·intro aI;exact s3 j δ Ν (.inl hp) γ
theorem W.U0 {as9:Nat->θ} {σs:Nat->List Row} {tags:List Bool} {env0:ab} (ei:ve ops tags=true)
  (dW:∀i o,ops[i]?=some o->tags.getD i false=false->zA P m nt k Z E ops i o (dE ops env0 as9 (λ_=>true) i) (as9 i)/\σs (i+1)=σs i)
  (fA:∀i o,ops[i]?=some o->tags.getD i false=true->tu P m nt k Z E ops i o (dE ops env0 as9 (λ_=>true) i) (σs i) (as9 i) (σs (i+1))/\(kT o=true->σs (i+1)=σs i))
  (GU:W P m nt (.inRegion ops []::k) (dE ops env0 as9 (λ_=>true) ops.size) (σs ops.size) Z E) :
  ∀(fuel:Nat) (t:Nat) (listed:Array Bool) (env:ab) (dN:Nat),listed.size=ops.size->
   (∀i,bc env i=bc (dE ops env0 as9 (λi=>listed.getD i false) ops.size) i)->
   (∀i o,ops[i]?=some o->listed.getD i false=true->∀j∈i' o,listed.getD j false=true)->
   dN<=ops.size->(∀j,j<ops.size->writer ops tags j=true->(listed.getD j false=true↔j<dN))->
   ((List.range ops.size).filter λi=>!listed.getD i false).length<=fuel->
   W P m nt (.inRegion ops (Region.linearise.go .any ops fuel t listed [])::k) env (σs dN) Z E:=by
 have e:mh [] []=C5:=by funext i j;simp[mh,C5]
 exact W.Mu (lo:=[]) (pu:=[]) (v:=λ_=>()) (by rw[e];exact ei) dW fA (λi o _ h=>by simp at h) (λi o _ h=>by simp at h) GU
def C9:List Oper->List Nat->List Nat
 | [],acc=>acc
 | o::os,acc=>C9 os (acc++[(i' o).foldr (λj m=>(1 <<< j)|||acc.getD j 0|||m) 0])
def GZ (ax:Nat->Nat->Bool) (ops:Array Oper) (tags:List Bool):Bool:=
 let b:=C9 ops.toList []
 (List.range ops.size).all λi=>match ops[i]? with
  | none=>false
  | some pP=>(i' pP).all (λj=>decide (j<i))&&(List.range i).all λj=>match ops[j]? with
   | none=>false
   | some eF=>!pO ax ops tags i j pP eF||(b.getD i 0).testBit j
def MB (acc:List (List Nat)) (tx:List Nat):Prop:=acc.length=tx.length/\∀i j,(tx.getD i 0).testBit j=true↔j∈acc.getD i []
theorem U1:∀(os:List Oper) (acc:List (List Nat)) (tx:List Nat),MB acc tx->MB (zy os acc) (C9 os tx):=by
 intro os
 induction os with
 | nil=>intro acc tx h;exact h
 | cons o os ω=>
  intro acc tx h;simp only[zy,C9];refine ω _ _ ⟨by simp[h.1],λi j=>?_⟩;have one:∀l:List Nat,(l.foldr (λj m=>(1 <<< j)|||tx.getD j 0|||m) 0).testBit j=true↔j∈l++l.flatMap λj=>acc.getD j []:=by
   intro l
   induction l with
   | nil=>simp
   | cons a l me=>
    rw[List.foldr_cons,Nat.testBit_or,Nat.testBit_or,Nat.one_shiftLeft,Nat.testBit_two_pow];simp only[Bool.or_eq_true,decide_eq_true_eq,h.2 a j,me,List.mem_append,List.mem_cons,List.flatMap_cons];constructor
    ·rintro((e|e)|e|e)
     ·exact .inl (.inl e.symm)
     ·exact .inr (.inl e)
     ·exact .inl (.inr e)
     ·exact .inr (.inr e)
    ·rintro((e|e)|e|e)
     ·exact .inl (.inl e.symm)
     ·exact .inr (.inl e)
     ·exact .inl (.inr e)
     ·exact .inr (.inr e)
  rw[List.getD_eq_getElem?_getD,List.getD_eq_getElem?_getD];by_cases hi:i<acc.length
  ·rw[dv hi,dv (by rw[<-h.1];exact hi),<-List.getD_eq_getElem?_getD,<-List.getD_eq_getElem?_getD];exact h.2 i j
  ·rw[h4 (by have:=h.1;omega),h4 γ,<-h.1];cases hd:i-acc.length with
   | zero=>simpa using one (i' o)
   | succ n=>simp
theorem C' {ax:Nat->Nat->Bool} {ops:Array Oper} {tags:List Bool} (h:GZ ax ops tags=true):tt ax ops tags=true:=by
 unfold GZ at h;unfold tt;have hb:=U1 ops.toList [] [] ⟨rfl,λi j=>η⟩;simp only[List.all_eq_true] at h ⊢;intro i hi;have I:=h i hi;cases Α:ops[i]? with
 | none=>rw[Α] at I;exact I
 | some pP=>
  rw[Α] at I;simp only[Bool.and_eq_true,List.all_eq_true] at I ⊢;refine⟨I.1,λj δ=>?_⟩;have R:=I.2 j δ;cases gl:ops[j]? with
  | none=>rw[gl] at R;exact R
  | some eF=>
   rw[gl] at R;simp only[Bool.or_eq_true] at R ⊢;rcases R with R|R
   ·exact .inl R
   ·exact .inr (List.contains_iff_mem.2 ((hb.2 i j).1 R))
end
def U2 (ops:Array Oper) (tags:List Bool):Bool:=GZ C5 ops tags
theorem oQ {ops:Array Oper} {tags:List Bool} (h:U2 ops tags=true):ve ops tags=true:=C' h
section
variable {P:Program} {T:a9} {A:List Nat} {m nt:Nat} {k:List Item} {env env':ab} {σ:List Row} {Z:List Item->ab->List Row->Prop} {E:θ->ab->List Row->Prop} {ops:Array Oper}
theorem Da {o:Oper} (h:sb ops o env env'):∀x,x∈o.op.operands.toList->aM env' x=aM env x:=λx U=>by
 cases x with
 | tmp t=>
  refine h t ?_;unfold zx;simp only[List.mem_append,List.mem_filterMap];exact .inl ⟨.tmp t,U,rfl⟩
 | _=>rfl
theorem nM {o:Oper} (h:sb ops o env env'):fl env' ops o=fl env ops o:=by
 unfold fl;cases Ο:o.guard with
 | none=>rfl
 | some x=>
  obtain⟨j,want⟩:=x;simp only;cases hd:(ops[j]?).bind (·.dst) with
  | none=>rfl
  | some d=>
   simp only;have:bc env' d=bc env d:=h d (by unfold zx;rw[Ο];simp[hd]);rw[this]
theorem Db {c7:Array (Nat×Operand)} (h:∀p∈c7,aM env' p.2=aM env p.2):r4 env' c7=r4 env c7:=by
 unfold r4;exact List.map_congr_left λp ς=>by rw[h p (by simpa using ς)]
theorem Dc {db:Array Operand} (h:∀x∈db,aM env' x=aM env x):db.toList.map (aM env')=db.toList.map (aM env):=List.map_congr_left λx U=>h x (by simpa using U)
theorem Dd {o:Option Operand} (h:∀x,o=some x->aM env' x=aM env x):o.map (aM env')=o.map (aM env):=by
 cases o with
 | none=>rfl
 | some x=>simp[h x rfl]
theorem vg {o:Oper} (μ:sb ops o env env'):iZ T A env' o=iZ T A env o:=by
 have h:=Da μ;obtain⟨dst,op,type,pos,after,guard⟩:=o;simp only at h;unfold iZ;cases op<;>simp only<;>try rfl
 all_goals simp only[Op.operands,List.mem_cons,List.not_mem_nil,or_false,forall_eq_or_imp,forall_eq] at h
 case move x=>rw[h]
 case assign x=>rw[h]
 case pick c a b=>rw[h.1,h.2.1,h.2.2]
 case box ty x=>rw[h]
 case build ty c7=>rw[Db λp ς=>h p.2 (by simp only[List.mem_map];exact⟨p,by simpa using ς,rfl⟩)]
 case buildSlice ty n c7=>rw[Db λp ς=>h p.2 (by simp only[List.mem_map];exact⟨p,by simpa using ς,rfl⟩)]
 case load ty x=>rw[h]
 case binOp op a x y b=>rw[h.1,h.2]
 case unOp op a x=>rw[h]
 case convert a b x=>rw[h]
 case index ty x y=>rw[h.1,h.2]
 case nilCheck x=>rw[h]
 case sliceToArrayPointer ty x=>rw[h]
 case makeInterface a x=>rw[h]
 case makeFunc f db cs=>rw[Dc λx U=>h x (by simp[U]),Dc λx U=>h x (by simp[U])]
 case makeSlice a x y=>rw[h.1,h.2]
 case slice ty x lo hi nN=>
  cases nN with
  | some m=>rfl
  | none=>
   simp only;rw[h x η,Dd λy Φ=>h y (by simp[Φ]),Dd λy Φ=>h y (by simp[Φ])]
 case fieldAddr ty x f=>rw[h]
 case indexAddr ty x y=>rw[h.1,h.2]
 case typeAssert x a b c=>rw[h]
 case extract x i=>rw[h]
 case call c=>
  obtain⟨callee,⟨args⟩,⟨ej⟩⟩:=c;cases callee
  case value=>rfl
  case invoke=>rfl
  rename_i b;have c9:∀x∈args,aM env' x=aM env x:=λx U=>h x (by simp[Call.operands,U])
  match args,ej with
  | [x],[ty]=>simp only;rw[c9 x η]
  | [x,y],[tr,ty]=>simp only;rw[c9 x η,c9 y η]
  | [],_=>rfl
  | [_],[]=>rfl
  | [_],_::_::_=>rfl
  | [_,_],[]=>rfl
  | [_,_],[_]=>rfl
  | [_,_],_::_::_::_=>rfl
  | _::_::_::_,_=>rfl
theorem zE {o:Oper} (μ:sb ops o env env'):hU T A env' σ o=hU T A env σ o:=by
 have h:=Da μ;obtain⟨dst,op,type,pos,after,guard⟩:=o;simp only at h;unfold hU;cases op<;>simp only<;>try rfl
 all_goals simp only[Op.operands,List.mem_cons,List.not_mem_nil,or_false,forall_eq_or_imp,forall_eq] at h
 case box ty x=>rw[h]
 case build ty c7=>rw[Db λp ς=>h p.2 (by simp only[List.mem_map];exact⟨p,by simpa using ς,rfl⟩)]
 case buildSlice ty n c7=>rw[Db λp ς=>h p.2 (by simp only[List.mem_map];exact⟨p,by simpa using ς,rfl⟩)]
 case load ty x=>rw[h]
 case store ty x y=>rw[h.1,h.2]
 case makeSlice a x y=>rw[h.1,h.2]
 case makeMap ty r=>cases r<;>rfl
 case convert a b x=>rw[h]
 case nilCheck x=>rw[h]
 case binOp op ty x y d=>
  split
  all_goals first
   | rfl
   |(rename_i heq;cases heq<;>simp only[h.1])
 case mapUpdate ty x y z=>rw[h.1,h.2.1,h.2.2]
 case insert ty x y z=>rw[h.1,h.2.1,h.2.2]
 case lookup ty x y ok=>rw[h.1,h.2]
 case range ty x=>rw[h]
 case next x b=>
  cases b<;>simp only<;>try rfl
  rw[h]
 case entry x=>rw[h]
 case slice ty x lo hi nN=>
  cases nN with
  | some m=>rfl
  | none=>
   simp only;rw[h x η,Dd λy Φ=>h y (by simp[Φ]),Dd λy Φ=>h y (by simp[Φ])]
 case fieldAddr ty x f=>rw[h]
 case indexAddr ty x y=>rw[h.1,h.2]
 case call c=>
  obtain⟨callee,⟨args⟩,⟨ej⟩⟩:=c;cases callee
  case value=>rfl
  case invoke=>rfl
  rename_i b;have c9:∀x∈args,aM env' x=aM env x:=λx U=>h x (by simp[Call.operands,U])
  match args,ej with
  | [x],[ty]=>simp only;rw[c9 x η]
  | [x,y],[tr,ty]=>simp only;rw[c9 x η,c9 y η]
  | [],_=>rfl
  | [_],[]=>rfl
  | [_],_::_::_=>rfl
  | [_,_],[]=>rfl
  | [_,_],[_]=>rfl
  | [_,_],_::_::_::_=>rfl
  | _::_::_::_,_=>rfl
def eW (P:Program) (f:θ) (args:List θ) (r:θ):Prop:=∀σ,hV P f args σ (λa s=>a=r/\s=σ) (λ_ _=>False)
def cu.dS (r:cu) (K:θ->Prop) (s:Prop):Prop:=match r with
 | .ok a=>K a
 | .bX p (.ok a)=>p/\K a
 | .bX _ _=>False
 | .bad=>s
def cH.dS (r:cH) (K:θ->List Row->Prop):Prop:=match r with
 | .ok a σ'=>K a σ'
 | .bX p (.ok a σ')=>p/\K a σ'
 | _=>False
theorem U3 {r r':cu} {K:θ->Prop} {s:Prop} (h:r=r'):r.dS K s=r'.dS K s:=by rw[h]
theorem U4 {r r':cH} {K:θ->List Row->Prop} (h:r=r'):r.dS K=r'.dS K:=by rw[h]
def dcall (P:Program) (f:θ) (args:List θ) (σ:List Row) (hH:θ->Prop) (jb:θ->List Row->Prop):Prop:=
 (∃r,eW P f args r/\hH r)\/∃r σ',hV P f args σ (λa s=>a=r/\s=σ') (λ_ _=>False)/\jb r σ'
theorem eS {P:Program} {f:θ} {args:List θ} {σ:List Row} {hH:θ->Prop} {jb:θ->List Row->Prop} {r:θ} (h:eW P f args r) (k:hH r):dcall P f args σ hH jb:=.inl ⟨r,h,k⟩
theorem U5 {P:Program} {f:θ} {args:List θ} {σ σ':List Row} {hH:θ->Prop} {jb:θ->List Row->Prop} {r:θ} (h:hV P f args σ (λa s=>a=r/\s=σ') (λ_ _=>False)) (k:jb r σ'):dcall P f args σ hH jb:=.inr ⟨r,σ',h,k⟩
def sd (P:Program) (T:a9) (A:List Nat) (env:ab) (o:Oper) (σ:List Row) (hH:θ->Prop) (jb:θ->List Row->Prop):Prop:=match o.op with
 | .call ⟨.value f,args,_⟩=>dcall P (aM env f) (args.toList.map (aM env)) σ hH jb
 | .panic _=>False
 | .defer _=>False
 | _=>(iZ T A env o).dS hH ((hU T A env σ o).dS jb)
theorem U6 {P:Program} {T:a9} {A:List Nat} {env:ab} {o:Oper} {σ:List Row} {hH:θ->Prop} {jb:θ->List Row->Prop}:sd P T A env o σ hH jb=match o.op with
 | .call ⟨.value f,args,_⟩=>dcall P (aM env f) (args.toList.map (aM env)) σ hH jb
 | .panic _=>False
 | .defer _=>False
 | _=>(iZ T A env o).dS hH ((hU T A env σ o).dS jb):=Eq.trans rfl rfl
theorem U7 {a:θ} {K:θ->Prop} {s:Prop}:cu.dS (.ok a) K s=K a:=Eq.trans rfl rfl
theorem U8 {p:Prop} {a:θ} {K:θ->Prop} {s:Prop}:cu.dS (.bX p (.ok a)) K s=(p/\K a):=Eq.trans rfl rfl
theorem U9 {K:θ->Prop} {s:Prop}:cu.dS .bad K s=s:=Eq.trans rfl rfl
theorem U' {a:θ} {σ:List Row} {K:θ->List Row->Prop}:cH.dS (.ok a σ) K=K a σ:=Eq.trans rfl rfl
theorem Va {p:Prop} {a:θ} {σ:List Row} {K:θ->List Row->Prop}:cH.dS (.bX p (.ok a σ)) K=(p/\K a σ):=Eq.trans rfl rfl
def jc (P:Program) (T:a9) (A:List Nat) (nt:Nat) (ops:Array Oper):List Nat->ab->List Row->List Bool->(ab->List Row->Prop)->Prop
 | [],env,σ,tags,K=>ve ops tags=true/\K env σ
 | i::is,env,σ,tags,K=>gL ops[i]? λo=>g4 nt o=true/\gL (fl env ops o) λw=>
   iC w (jc P T A nt ops is (b6 o env .cg) σ (tags++[false]) K)
    (sd P T A env o σ (λa=>jc P T A nt ops is (b6 o env a) σ (tags++[false]) K) (λa σ'=>jc P T A nt ops is (b6 o env a) σ' (tags++[true]) K))
def MC (P:Program) (T:a9) (A:List Nat) (nt:Nat) (ops:Array Oper) (is:List Nat) (o:Oper) (env:ab) (σ:List Row) (tags:List Bool) (K:ab->List Row->Prop) (a:θ):Prop:=jc P T A nt ops is (b6 o env a) σ (tags++[false]) K
def MD (P:Program) (T:a9) (A:List Nat) (nt:Nat) (ops:Array Oper) (is:List Nat) (o:Oper) (env:ab) (tags:List Bool) (K:ab->List Row->Prop) (a:θ) (σ':List Row):Prop:=jc P T A nt ops is (b6 o env a) σ' (tags++[true]) K
theorem dY {tags:List Bool} {K:ab->List Row->Prop}:jc P T A nt ops [] env σ tags K=(ve ops tags=true/\K env σ):=Eq.trans rfl rfl
theorem dZ {i:Nat} {is:List Nat} {tags:List Bool} {K:ab->List Row->Prop}:jc P T A nt ops (i::is) env σ tags K=gL ops[i]? λo=>g4 nt o=true/\gL (fl env ops o) λw=>
   iC w (jc P T A nt ops is (b6 o env .cg) σ (tags++[false]) K) (sd P T A env o σ (MC P T A nt ops is o env σ tags K) (MD P T A nt ops is o env tags K)):=Eq.trans rfl rfl
theorem Vb {ops:Array Oper} {is:List Nat} {o:Oper} {tags:List Bool} {K:ab->List Row->Prop} {a:θ}:MC P T A nt ops is o env σ tags K a=jc P T A nt ops is (b6 o env a) σ (tags++[false]) K:=Eq.trans rfl rfl
theorem Vd {ops:Array Oper} {is:List Nat} {o:Oper} {tags:List Bool} {K:ab->List Row->Prop} {a:θ}:MD P T A nt ops is o env tags K a σ=jc P T A nt ops is (b6 o env a) σ (tags++[true]) K:=Eq.trans rfl rfl
def hY (P:Program) (m nt:Nat) (k:List Item) (Z:List Item->ab->List Row->Prop) (E:θ->ab->List Row->Prop) (ops:Array Oper) (i:Nat) (o:Oper) (env:ab) (σ:List Row) (tag:Bool) (a:θ) (σ':List Row):Prop:=
 if tag then tu P m nt k Z E ops i o env σ a σ'/\(kT o=true->σ'=σ) else zA P m nt k Z E ops i o env a/\σ'=σ
theorem Ve {ty:TypeId} {x a:θ} {σ':List Row} {p:Prop} (h:nz T ty σ x=.ok a σ'\/nz T ty σ x=.bX p (.ok a σ')):σ'=σ:=by
 unfold nz qS at h
 repeat' split at h
 all_goals simp[cu.dq] at h
 all_goals first|exact h.2.symm|skip
theorem Vf {ty:TypeId} {x bY a:θ} {σ':List Row} {p:Prop} (h:nB T ty σ x bY=.ok a σ'\/nB T ty σ x bY=.bX p (.ok a σ')):σ'=σ:=by
 unfold nB at h
 repeat' split at h
 all_goals simp at h
 all_goals first|exact h.2.2.symm|exact h.2.symm|skip
theorem Vg {ty:TypeId} {f:Nat} {x a:θ} {σ':List Row} {p:Prop} (h:nA T ty f σ x=.ok a σ'\/nA T ty f σ x=.bX p (.ok a σ')):σ'=σ:=by
 unfold nA at h
 repeat' split at h
 all_goals simp at h
 all_goals first|exact h.2.2.symm|exact h.2.symm|skip
theorem Vh {x a:θ} {σ':List Row} {p:Prop} (h:vb σ x=.ok a σ'\/vb σ x=.bX p (.ok a σ')):σ'=σ:=by
 unfold vb at h
 repeat' split at h
 all_goals simp at h
 all_goals first|exact h.2.2.symm|exact h.2.symm|skip
theorem De {o:Oper} {a:θ} {σ':List Row} {p:Prop} (ι:kT o=true) (h:hU T A env σ o=.ok a σ'\/hU T A env σ o=.bX p (.ok a σ')):σ'=σ:=by
 unfold kT at ι;unfold hU at h;split at ι
 ·rename_i ty x Κ;rw[Κ] at h;exact Ve h
 ·rename_i ty x bY Κ;rw[Κ] at h;exact Vf h
 ·rename_i ty x f Κ;rw[Κ] at h;exact Vg h
 ·rename_i x Κ;rw[Κ] at h;exact Vh h
 ·cases ι
theorem Vi (Η:bT P T) {i:Nat} {is:List Nat} {tags:List Bool} {K:ab->List Row->Prop} (h:jc P T A nt ops (i::is) env σ tags K) :
  ∃o a σ' tag,ops[i]?=some o/\hY P m nt k Z E ops i o env σ tag a σ'/\jc P T A nt ops is (b6 o env a) σ' (tags++[tag]) K:=by
 unfold jc gL at h;split at h
 ·exact h.elim
 ·rename_i o Α;obtain⟨hd,h⟩:=h;split at h
  ·exact h.elim
  rename_i w hw;unfold iC at h;cases w
  ·replace h:=h.1 rfl
   refine⟨o,.cg,σ,false,Α,?_,h⟩;unfold hY;simp only[Bool.false_eq_true,if_false];exact⟨λenv' σ' rest μ hW=>.unwanted Α (by rw[nM μ];exact hw) hd hW,trivial⟩
  ·replace h:=h.2 rfl
   unfold sd at h;split at h
   ·rename_i f args ej Κ;have zF:∀env',sb ops o env env'->aM env' f=aM env f/\args.toList.map (aM env')=args.toList.map (aM env):=λenv' μ=>by
     have U:=Da μ;rw[Κ] at U;refine⟨U f (by simp[Op.operands,Call.operands]),Dc λx G1=>U x (by simp[Op.operands,Call.operands,G1])⟩
    rcases h with⟨r,ε,h⟩|⟨r,σ',ε,h⟩
    ·refine⟨o,r,σ,false,Α,?_,h⟩;unfold hY;simp only[Bool.false_eq_true,if_false];refine⟨λenv' σ' rest μ hW=>.call Α (by rw[nM μ];exact hw) hd Κ ?_,trivial⟩;obtain⟨Γ,Θ⟩:=zF env' μ;rw[Γ,Θ];exact(ε σ').mono (λa s ⟨x,y⟩=>by subst x;subst y;exact hW) (λ_ _ h=>h.elim)
    ·refine⟨o,r,σ',true,Α,?_,h⟩;unfold hY;simp only[if_true];refine⟨?_,λι=>by unfold kT at ι;rw[Κ] at ι;cases ι⟩;refine λenv' rest μ hW=>.call Α (by rw[nM μ];exact hw) hd Κ ?_;obtain⟨Γ,Θ⟩:=zF env' μ;rw[Γ,Θ];exact ε.mono (λa s ⟨x,y⟩=>by subst x;subst y;exact hW) (λ_ _ h=>h.elim)
   ·exact h.elim
   ·exact h.elim
   ·rename_i I R ν;have zG:∀(r:cu) (a:θ),iZ T A env o=r->(∀K:θ->List Row->Prop,∀s,K a s->(r.dq s).holds K)->(∀σ s,r.or σ s=r.dq σ)->zA P m nt k Z E ops i o env a:=λr a ι aX G2 env' σ' rest μ hW=>by
     refine .op (A:=A) Η Α (by rw[nM μ];exact hw) hd (λc ε=>ν c ε) ?_;rw[vg μ,ι,G2];exact aX _ _ hW
    unfold cu.dS at h;split at h
    ·rename_i a κ;refine⟨o,a,σ,false,Α,?_,h⟩;unfold hY;simp only[Bool.false_eq_true,if_false];exact⟨zG _ a κ (λK s ψ=>ψ) (λ_ _=>rfl),trivial⟩
    ·rename_i p a κ;refine⟨o,a,σ,false,Α,?_,h.2⟩;unfold hY;simp only[Bool.false_eq_true,if_false];exact⟨zG _ a κ (λK s ψ=>⟨h.1,ψ⟩) (λ_ _=>rfl),trivial⟩
    ·exact h.elim
    ·rename_i oM;have zH:∀(a:θ) (σ':List Row) (r:cH),hU T A env σ o=r->(∀K:θ->List Row->Prop,K a σ'->r.holds K)->tu P m nt k Z E ops i o env σ a σ':=λa σ' r ι aX env' rest μ hW=>by
      refine .op (A:=A) Η Α (by rw[nM μ];exact hw) hd (λc ε=>ν c ε) ?_;rw[vg μ,zE μ,oM,ι];exact aX _ hW
     unfold cH.dS at h;split at h
     ·rename_i a σ' κ;refine⟨o,a,σ',true,Α,?_,h⟩;unfold hY;simp only[if_true];exact⟨zH a σ' _ κ λK ψ=>ψ,λι=>De (p:=True) ι (.inl κ)⟩
     ·rename_i p a σ' κ;refine⟨o,a,σ',true,Α,?_,h.2⟩;unfold hY;simp only[if_true];exact⟨zH a σ' _ κ λK ψ=>⟨h.1,ψ⟩,λι=>De ι (.inr κ)⟩
     ·exact h.elim
theorem ME {env0:ab} {as9 kz:Nat->θ} {D:Nat->Bool}:∀n,(∀j,j<n->as9 j=kz j)->dE ops env0 as9 D n=dE ops env0 kz D n:=by
 intro n
 induction n with
 | zero=>intro _;rfl
 | succ n ω=>
  intro h;simp only[dE];rw[ω λj δ=>h j γ,h n (Nat.lt_succ_self n)]
theorem Vj (Η:bT P T) {K:ab->List Row->Prop} {env0:ab}:∀(d i:Nat) (tags:List Bool) (as9:Nat->θ) (σs:Nat->List Row),i+d=ops.size->tags.length=i->
  (∀j o,j<i->ops[j]?=some o->hY P m nt k Z E ops j o (dE ops env0 as9 (λ_=>true) j) (σs j) (tags.getD j false) (as9 j) (σs (j+1)))->
  jc P T A nt ops (List.range' i d) (dE ops env0 as9 (λ_=>true) i) (σs i) tags K->
  ∃(tags:List Bool) (as9:Nat->θ) (jd:Nat->List Row),ve ops tags=true/\jd 0=σs 0/\(∀j o,ops[j]?=some o->hY P m nt k Z E ops j o (dE ops env0 as9 (λ_=>true) j) (jd j) (tags.getD j false) (as9 j) (jd (j+1)))/\K (dE ops env0 as9 (λ_=>true) ops.size) (jd ops.size):=by
 intro d
 induction d with
 | zero=>
  intro i tags as9 σs hi Ν δ h;simp only[List.range'_zero,jc] at h;have:i=ops.size:=γ;subst this;exact⟨tags,as9,σs,h.1,rfl,λj o Α=>δ j o (Array.getElem?_eq_some_iff.1 Α).1 Α,h.2⟩
 | succ d ω=>
  intro i tags as9 σs hi Ν δ h;rw[List.range'_succ] at h;obtain⟨o,a,σ',tag,Α,G3,h⟩:=Vi (m:=m) (k:=k) (Z:=Z) (E:=E) Η h;let kz:Nat->θ:=λj=>if j=i then a else as9 j
  let jd:Nat->List Row:=λj=>if j=i+1 then σ' else σs j
  have vh:∀j,j<=i->dE ops env0 as9 (λ_=>true) j=dE ops env0 kz (λ_=>true) j:=λj δ=>ME j λx U=>by simp only[kz];rw[if_neg γ]
  have G4:dE ops env0 kz (λ_=>true) (i+1)=b6 o (dE ops env0 as9 (λ_=>true) i) a:=by
   simp only[dE,if_true,Α];rw[<-vh i (Nat.le_refl i)];simp only[kz,if_true]
  have:=ω (i+1) (tags++[tag]) kz jd γ (by simp[Ν]) (λj eF aI gl=>?_) ?_
  ·obtain⟨t2,a2,s2,Ξ,ah,aR,ca⟩:=this;exact⟨t2,a2,s2,Ξ,ah.trans (by simp only[jd];rw[if_neg γ]),aR,ca⟩
  ·by_cases e:j=i
   ·subst e;rw[Α] at gl;cases gl;rw[<-vh j (Nat.le_refl j)];have Γ:(tags++[tag]).getD j false=tag:=by rw[List.getD_eq_getElem?_getD,h4 γ,Ν];simp
    rw[Γ];simp only[kz,jd,if_true];rw[if_neg γ];exact G3
   ·have:=δ j eF γ gl;rw[<-vh j γ];have Γ:(tags++[tag]).getD j false=tags.getD j false:=by rw[List.getD_eq_getElem?_getD,dv γ,<-List.getD_eq_getElem?_getD]
    rw[Γ];simp only[kz,jd];rw[if_neg γ,if_neg γ,if_neg γ];exact this
  ·rw[G4];simp only[jd,if_true];exact h
theorem W.draw (Η:bT P T) (vi:P.follows .mixedOrders=true) {id:Nat} (h:∀Δ:ab->List Row->Prop,(∀env σ,W P m nt k env σ Z E->Δ env σ)->jc P T A nt ops (idx ops.size []) env σ [] Δ):W P m nt (.code (.region id ops true)::k) env σ Z E:=by
 have ao:=h (λenv σ=>W P m nt k env σ Z E) λ_ _ h=>h;rw[idx_eq,List.range_eq_range'] at ao;obtain⟨tags,as9,σs,Ξ,ah,aR,ca⟩:=Vj (m:=m) (k:=k) (Z:=Z) (E:=E) (env0:=env) Η ops.size 0 [] (λ_=>.cg) (λ_=>σ) γ rfl (λj o δ=>γ) ao;intro Q mn x cs b S B H t U hb ς Μ he;refine .draw U hb λn=>?_;have key:=W.U0 (P:=P) (m:=m) (nt:=nt) (k:=k) (Z:=Z) (E:=E) (ops:=ops) (as9:=as9) (σs:=σs) (tags:=tags) (env0:=env) Ξ
  (λi o Α Ν=>by have:=aR i o Α;unfold hY at this;rw[Ν] at this;simpa using this)
  (λi o Α Ν=>by have:=aR i o Α;unfold hY at this;rw[Ν] at this;simpa using this)
  (.bJ ca) ops.size n (Array.replicate ops.size false) env 0 η (λi=>?_) (λi o Α υ=>?_) (Nat.zero_le _) (λj δ _=>?_) ?_
 ·rw[ah] at key;rw[vi];simp only[Region.schedule,Bool.true_or,if_true,Region.linearise];exact key Q mn x cs b S B H t U hb ς Μ he
 ·have:∀n,dE ops env as9 (λi=>(Array.replicate ops.size false).getD i false) n=env:=by
   intro n
   induction n with
   | zero=>rfl
   | succ n ω=>
    simp only[dE];have:(Array.replicate ops.size false).getD n false=false:=by
     rw[Array.getD_eq_getD_getElem?,Array.getElem?_replicate];split<;>rfl
    rw[if_neg (by rw[this];simp)];exact ω
  rw[this]
 ·have:(Array.replicate ops.size false).getD i false=false:=by
   rw[Array.getD_eq_getD_getElem?,Array.getElem?_replicate];split<;>rfl
  rw[this] at υ;cases υ
 ·have:(Array.replicate ops.size false).getD j false=false:=by
   rw[Array.getD_eq_getD_getElem?,Array.getElem?_replicate];split<;>rfl
  rw[this];simp
 ·have:=List.length_filter_le (λi=>!(Array.replicate ops.size false).getD i false) (List.range ops.size);simpa using this
theorem MF {K K':ab->List Row->Prop} (ζ:∀e s,K e s->K' e s):∀(is:List Nat) (env:ab) (σ:List Row) (tags:List Bool),jc P T A nt ops is env σ tags K->jc P T A nt ops is env σ tags K':=by
 intro is
 induction is with
 | nil=>intro env σ tags h;exact⟨h.1,ζ _ _ h.2⟩
 | cons i is ω=>
  intro env σ tags h;unfold jc gL at h ⊢;cases Α:ops[i]? with
  | none=>rw[Α] at h;exact h.elim
  | some o=>
   rw[Α] at h;simp only at h ⊢;refine⟨h.1,?_⟩
   replace h:=h.2
   cases hw:fl env ops o with
   | none=>rw[hw] at h;exact h.elim
   | some w=>
    rw[hw] at h;unfold iC at h ⊢;refine⟨λe=>ω _ _ _ (h.1 e),λe=>?_⟩
    replace h:=h.2 e
    unfold sd at h ⊢;split
    ·rename_i f args ej Κ;rw[Κ] at h;simp only at h;rcases h with⟨r,ε,h⟩|⟨r,σ',ε,h⟩
     ·exact .inl ⟨r,ε,ω _ _ _ h⟩
     ·exact .inr ⟨r,σ',ε,ω _ _ _ h⟩
    ·rename_i Κ;rw[Κ] at h;exact h
    ·rename_i Κ;rw[Κ] at h;exact h
    ·rename_i I R ν;split at h
     ·rename_i f args ej Κ;exact absurd Κ (I f args ej)
     ·rename_i y Κ;exact absurd Κ (R y)
     ·rename_i y Κ;exact absurd Κ (ν y)
     ·unfold cu.dS at h ⊢;split at h
      ·exact ω _ _ _ h
      ·exact⟨h.1,ω _ _ _ h.2⟩
      ·exact h.elim
      ·unfold cH.dS at h ⊢;split at h
       ·exact ω _ _ _ h
       ·exact⟨h.1,ω _ _ _ h.2⟩
       ·exact h.elim
theorem W.Df (Η:bT P T) (vi:P.follows .mixedOrders=true) (g3:ab) {id:Nat} (h:W P m nt k g3 σ Z E) (ι:jc P T A nt ops (idx ops.size []) env σ [] (λe s=>s=σ/\∀p∈g3,bc e p.1=p.2)):W P m nt (.code (.region id ops true)::k) env σ Z E:=
 W.draw Η vi λΔ ζ=>MF (λe s ⟨I,R⟩=>ζ e s (I▸W.forget g3 R h)) _ _ _ _ ι
end
def je {α:Type}:List α->List Nat->List α->List α
 | l,i::ρ,x::xs=>je (l.set i x) ρ xs
 | l,_,_=>l
theorem se {α:Type}:∀(ρ:List Nat) (l xs:List α),(je l ρ xs).length=l.length:=by
 intro ρ
 induction ρ with
 | nil=>intro l xs;cases xs<;>rfl
 | cons i ρ ω=>intro l xs;cases xs with
  | nil=>rfl
  | cons x xs=>simp[je,ω]
theorem G5 {α:Type} {i:Nat}:∀(ρ:List Nat) (l xs:List α),i∉ρ->(je l ρ xs)[i]?=l[i]?:=by
 intro ρ
 induction ρ with
 | nil=>intro l xs _;cases xs<;>rfl
 | cons j ρ ω=>intro l xs h;cases xs with
  | nil=>rfl
  | cons x xs=>
   simp only[je];rw[ω _ _ (λhm=>h (by simp[hm])),List.getElem?_set_ne (λe=>h (by simp[e]))]
theorem MG {α:Type}:∀(ρ:List Nat) (l xs:List α),ρ.Nodup->(∀i∈ρ,i<l.length)->∀(j i:Nat) (x:α),ρ[j]?=some i->xs[j]?=some x->(je l ρ xs)[i]?=some x:=by
 intro ρ
 induction ρ with
 | nil=>intro l xs _ _ j i x h;simp at h
 | cons a ρ ω=>
  intro l xs kR aI j i x δ U;cases xs with
  | nil=>simp at U
  | cons y xs=>
   simp only[je];obtain⟨I,R⟩:=List.nodup_cons.1 kR;cases j with
   | zero=>
    simp at δ U;subst δ;subst U;rw[G5 ρ _ _ I,List.getElem?_set_self (aI a η)]
   | succ j=>
    simp only[List.getElem?_cons_succ] at δ U;exact ω _ _ R (λi hi=>by simp;exact aI i (by simp[hi])) j i x δ U
def g5 (ρ:List Nat):θ->θ
 | .an id n i j=>.an (ρ.getD id 0) n i j
 | .ms id n i len=>.ms (ρ.getD id 0) n i len
 | .mp id=>.mp (ρ.getD id 0)
 | .it id=>.it (ρ.getD id 0)
 | a=>a
def dO (ρ:List Nat):θ->θ
 | .fn f db cs=>.fn f (db.map (g5 ρ)) (cs.map (g5 ρ))
 | .a6 l=>.a6 (l.map (g5 ρ))
 | .a3 l=>.a3 (l.map (g5 ρ))
 | a=>g5 ρ a
def pR (h:Nat) (a:θ):Prop:=match a with
 | .an id _ _ _|.ms id _ _ _|.mp id|.it id=>id<h
 | a=>aK 0 a
def fB (h:Nat) (a:θ):Prop:=match a with
 | .fn _ db cs=>(∀a∈db,pR h a)/\∀a∈cs,pR h a
 | .a6 l|.a3 l=>∀a∈l,pR h a
 | a=>pR h a
structure Names (ρ:List Nat) (eh:aP) (σ0:List Row) (bB:aP) (j9:List Row):Prop where
 row:∀(j i:Nat),ρ[j]?=some i->j9[i]?=σ0[j]?
 blk:∀(j i:Nat),ρ[j]?=some i->bB[i]?=eh[j]?
section
variable {S:aD} {eh bB:aP} {σ0 j9:List Row} {ρ:List Nat}
theorem Dg {ρ:List Nat} {j:Nat} (h:j<ρ.length):ρ[j]?=some (ρ.getD j 0):=by
 rw[List.getD_eq_getElem?_getD,ba h];rfl
theorem kU (Ε:Names ρ eh σ0 bB j9) {a:θ} {v:Value} (Ν:pR ρ.length a):au S bB j9 (g5 ρ a) v↔au S eh σ0 a v:=by
 cases a with
 | an id n i j=>
  have b7:=Dg (ρ:=ρ) Ν
  have I:=Ε.row _ _ b7
  have R:=Ε.blk _ _ b7;constructor
  ·intro h;cases h with
   | an Ξ ah aR=>exact .an (by rw[<-I];exact Ξ) ah (by rw[<-R];exact aR)
   | jG v Ξ ah=>exact .jG v (by rw[<-I];exact Ξ) ah
  ·intro h;cases h with
   | an Ξ ah aR=>exact .an (by rw[I];exact Ξ) ah (by rw[R];exact aR)
   | jG v Ξ ah=>exact .jG v (by rw[I];exact Ξ) ah
 | ms id n i len=>
  have b7:=Dg (ρ:=ρ) Ν
  have I:=Ε.row _ _ b7
  have R:=Ε.blk _ _ b7;constructor
  ·intro h;cases h with
   | ms cap Ξ ah aR ca iB j4=>exact .ms cap (by rw[<-I];exact Ξ) ah (by rw[<-R];exact aR) ca iB j4
   | iY v Ξ ah=>exact .iY v (by rw[<-I];exact Ξ) ah
  ·intro h;cases h with
   | ms cap Ξ ah aR ca iB j4=>exact .ms cap (by rw[I];exact Ξ) ah (by rw[R];exact aR) ca iB j4
   | iY v Ξ ah=>exact .iY v (by rw[I];exact Ξ) ah
 | mp id=>
  have b7:=Dg (ρ:=ρ) Ν
  have I:=Ε.row _ _ b7
  have R:=Ε.blk _ _ b7;constructor
  ·intro h;cases h with
   | mp Ξ ah=>exact .mp (by rw[<-I];exact Ξ) (by rw[<-R];exact ah)
   | lA v Ξ=>exact .lA v (by rw[<-I];exact Ξ)
  ·intro h;cases h with
   | mp Ξ ah=>exact .mp (by rw[I];exact Ξ) (by rw[R];exact ah)
   | lA v Ξ=>exact .lA v (by rw[I];exact Ξ)
 | it id=>
  have b7:=Dg (ρ:=ρ) Ν
  have I:=Ε.row _ _ b7
  have R:=Ε.blk _ _ b7;constructor
  ·intro h;cases h with
   | it Ξ ah=>exact .it (by rw[<-I];exact Ξ) (by rw[<-R];exact ah)
   | m0 v Ξ=>exact .m0 v (by rw[<-I];exact Ξ)
  ·intro h;cases h with
   | it Ξ ah=>exact .it (by rw[I];exact Ξ) (by rw[R];exact ah)
   | m0 v Ξ=>exact .m0 v (by rw[I];exact Ξ)
 | _=>exact⟨λh=>h.any Ν _ _,λh=>h.any Ν _ _⟩
theorem Dh {f:θ->θ} {l:List θ} {i:Nat} {a:θ} (h:(l.map f)[i]?=some a):∃b,l[i]?=some b/\a=f b:=by
 rw[List.getElem?_map] at h;cases U:l[i]? with
 | none=>rw[U] at h;cases h
 | some b=>rw[U] at h;cases h;exact⟨b,rfl,rfl⟩
theorem G6 (Ε:Names ρ eh σ0 bB j9) {a:θ} {v:Value} (Ν:fB ρ.length a):au S bB j9 (dO ρ a) v↔au S eh σ0 a v:=by
 cases a with
 | fn f db cs=>
  constructor
  ·intro h;cases h with
   | fn vs ws Ξ ah aR ca=>
    refine .fn vs ws (by simpa using Ξ) (by simpa using ah) (λi a v hi hv=>?_) (λi a v hi hv=>?_)
    ·exact(kU Ε (Ν.1 a (cx hi))).1 (aR i _ v (by rw[List.getElem?_map,hi];rfl) hv)
    ·exact(kU Ε (Ν.2 a (cx hi))).1 (ca i _ v (by rw[List.getElem?_map,hi];rfl) hv)
  ·intro h;cases h with
   | fn vs ws Ξ ah aR ca=>
    refine .fn vs ws (by simpa using Ξ) (by simpa using ah) (λi a v hi hv=>?_) (λi a v hi hv=>?_)
    ·obtain⟨b,hb,rfl⟩:=Dh hi;exact(kU Ε (Ν.1 b (cx hb))).2 (aR i b v hb hv)
    ·obtain⟨b,hb,rfl⟩:=Dh hi;exact(kU Ε (Ν.2 b (cx hb))).2 (ca i b v hb hv)
 | a6 l=>
  constructor
  ·intro h;cases h with
   | a6 vs Ξ ah=>exact .a6 vs (by simpa using Ξ) λi a v hi hv=>(kU Ε (Ν a (cx hi))).1 (ah i _ v (by rw[List.getElem?_map,hi];rfl) hv)
  ·intro h;cases h with
   | a6 vs Ξ ah=>
    refine .a6 vs (by simpa using Ξ) λi a v hi hv=>?_;obtain⟨b,hb,rfl⟩:=Dh hi;exact(kU Ε (Ν b (cx hb))).2 (ah i b v hb hv)
 | a3 l=>
  constructor
  ·intro h;cases h with
   | a3 vs Ξ ah=>exact .a3 vs (by simpa using Ξ) λi a v hi hv=>(kU Ε (Ν a (cx hi))).1 (ah i _ v (by rw[List.getElem?_map,hi];rfl) hv)
  ·intro h;cases h with
   | a3 vs Ξ ah=>
    refine .a3 vs (by simpa using Ξ) λi a v hi hv=>?_;obtain⟨b,hb,rfl⟩:=Dh hi;exact(kU Ε (Ν b (cx hb))).2 (ah i b v hb hv)
 | z u=>exact kU (a:=.z u) Ε Ν
 | aa l=>exact kU (a:=.aa l) Ε Ν
 | sl ex k l=>exact kU (a:=.sl ex k l) Ε Ν
 | an id n i j=>exact kU (a:=.an id n i j) Ε Ν
 | ms id n i len=>exact kU (a:=.ms id n i len) Ε Ν
 | fJ t a=>exact kU (a:=.fJ t a) Ε Ν
 | mp id=>exact kU (a:=.mp id) Ε Ν
 | it id=>exact kU (a:=.it id) Ε Ν
 | cg=>exact kU (a:=.cg) Ε Ν
end
section
variable {P:Program} {S az:aD} {B:aP} {H H':π} {σ:List Row}
def jf (r:Row):Prop:=match r with|.cells _ _ l=>∀e∈l,∀a∈e.cells,aK 0 a|_=>False
def Di (r:Row):Prop:=jf r\/r=.dead
theorem jH.plain {B':aP} {σ':List Row} {r:Row} {bo:Option (Nat×Nat)} (ς:jf r) (h:jH S B σ H r bo) (eL:aP) (gk:List Row):jH S eL gk H r bo:=by
 cases r with
 | cells t k l=>
  cases bo with
  | none=>exact h
  | some x=>
   obtain⟨b,N⟩:=x;obtain⟨I,R,ν,w,Ι⟩:=h;refine⟨I,R,ν,w,λi e hi=>⟨(Ι i e hi).1,λj a δ=>?_⟩⟩;obtain⟨c1,c2,c3⟩:=(Ι i e hi).2 j a δ;exact⟨c1,c2.any (ς e (cx hi) a (cx δ)) _ _,c3⟩
 | _=>exact ς.elim
theorem jH.Vk {B':aP} {σ':List Row} {r:Row} {bo:Option (Nat×Nat)} (ς:Di r) (h:jH S B σ H r bo) (eL:aP) (gk:List Row):jH S eL gk H r bo:=by
 rcases ς with ς|rfl
 ·exact jH.plain (B':=B') (σ':=σ') ς h eL gk
 ·trivial
theorem Holds.MH (χ:Holds S B σ H) {ρ:List Nat} {iD:List Row} (kR:ρ.Nodup) (hlen:ρ.length=iD.length) (a4:∀(j i:Nat),ρ[j]?=some i->σ[i]?=iD[j]?) (g2:∀r∈iD,jf r)
  {eh:aP} {σ0:List Row} (he:Ext S (ρ.map λi=>B.getD i none) H az eh H') (υ:bQ S az (ρ.map λi=>B.getD i none) eh iD σ0) (ao:Holds az eh σ0 H') (Vl:∀r∈σ0,Di r) :
  let j9:=je σ ρ σ0++σ0.drop ρ.length
  let bB:=je B ρ eh++eh.drop ρ.length
  Holds az bB j9 H'/\Ext S B H az bB H'/\bQ S az B bB σ j9/\Names (ρ++(List.range (σ0.length-ρ.length)).map (σ.length + ·)) eh σ0 bB j9:=by
 intro j9 bB;have aI:∀i∈ρ,i<σ.length:=λi hi=>by
  obtain⟨j,δ⟩:=List.getElem?_of_mem hi;have j':j<iD.length:=by rw[<-hlen];exact(bV.1 δ).1
  have:=a4 j i δ;rw[ba j'] at this;exact(bV.1 this).1
 have Dj:∀i∈ρ,i<B.length:=λi hi=>by rw[χ.len];exact aI i hi
 have hle:ρ.length<=σ0.length:=by rw[hlen];exact υ.length
 have zI:eh.length=σ0.length:=ao.len
 have Dk:∀(j i:Nat),ρ[j]?=some i->(ρ.map λi=>B.getD i none)[j]?=B[i]?:=λj i δ=>by
  have hi:=Dj i (cx δ);rw[List.getElem?_map,δ];simp[hi]
 have s1:∀(j i:Nat),ρ[j]?=some i->j9[i]?=σ0[j]?:=λj i δ=>by
  have hi:=aI i (cx δ)
  have j':j<σ0.length:=by have:=(bV.1 δ).1;omega
  show(je σ ρ σ0++_)[i]?=_;rw[dv (by rw[se];exact hi),ba j'];exact MG ρ σ σ0 kR aI j i _ δ (ba j')
 have bK:∀(j i:Nat),ρ[j]?=some i->bB[i]?=eh[j]?:=λj i δ=>by
  have hi:=Dj i (cx δ)
  have j':j<eh.length:=by have:=(bV.1 δ).1;omega
  show(je B ρ eh++_)[i]?=_;rw[dv (by rw[se];exact hi),ba j'];exact MG ρ B eh kR Dj j i _ δ (ba j')
 have s2:∀i,i<σ.length->i∉ρ->j9[i]?=σ[i]?:=λi hi Ε=>by
  show(je σ ρ σ0++_)[i]?=_;rw[dv (by rw[se];exact hi),G5 ρ _ _ Ε]
 have da:∀i,i<σ.length->i∉ρ->bB[i]?=B[i]?:=λi hi Ε=>by
  show(je B ρ eh++_)[i]?=_;rw[dv (by rw[se,χ.len];exact hi),G5 ρ _ _ Ε]
 have oh:∀x,j9[σ.length+x]?=σ0[ρ.length+x]?:=λx=>by
  show(je σ ρ σ0++_)[_]?=_;rw[h4 (by rw[se];omega),se,List.getElem?_drop];congr 1;omega
 have fP:∀x,bB[σ.length+x]?=eh[ρ.length+x]?:=λx=>by
  show(je B ρ eh++_)[_]?=_;rw[h4 (by rw[se,χ.len];omega),se,χ.len,List.getElem?_drop];congr 1;omega
 have zJ:∀(i:Nat) (r:Row),j9[i]?=some r->(i<σ.length/\i∉ρ/\σ[i]?=some r/\bB[i]?=B[i]?)\/∃j,σ0[j]?=some r/\bB[i]?=eh[j]?/\(∀eN bI,(eN<σ.length->ρ[bI]?=some eN)->(¬eN<σ.length->bI=ρ.length+(eN-σ.length))->j=bI->i=eN)/\((i<σ.length->ρ[j]?=some i)/\(¬i<σ.length->j=ρ.length+(i-σ.length))):=λi r ι=>by
  by_cases hi:i<σ.length
  ·by_cases Ε:i∈ρ
   ·obtain⟨j,δ⟩:=List.getElem?_of_mem Ε;refine .inr ⟨j,by rw[<-s1 j i δ];exact ι,bK j i δ,λeN bI I R e=>?_,λ_=>δ,λh=>absurd hi h⟩;subst e;by_cases bp:eN<σ.length
    ·have:=I bp;rw[δ] at this;cases this;rfl
    ·have:=R bp;have:=(bV.1 δ).1;omega
   ·exact .inl ⟨hi,Ε,by rw[<-s2 i hi Ε];exact ι,da i hi Ε⟩
  ·have e:i=σ.length+(i-σ.length):=by omega
   refine .inr ⟨ρ.length+(i-σ.length),by rw[<-oh,<-e];exact ι,by rw[<-fP,<-e],λeN bI I R aH=>?_,λh=>absurd h hi,λ_=>rfl⟩;by_cases bp:eN<σ.length
   ·have:=(bV.1 (I bp)).1;omega
   ·have:=R bp;omega
 have MI:bB.length=j9.length:=by
  show(je B ρ eh++eh.drop ρ.length).length=(je σ ρ σ0++σ0.drop ρ.length).length;simp[se,χ.len,zI]
 have Dl:bQ S az B bB σ j9:=⟨he.dc,λid r ι=>by
  have hi:=(bV.1 ι).1;by_cases Ε:id∈ρ
  ·obtain⟨j,δ⟩:=List.getElem?_of_mem Ε;have fh:iD[j]?=some r:=by rw[<-a4 j id δ];exact ι
   obtain⟨r',Ξ,ah⟩:=υ.rows j r fh;exact⟨r',by rw[s1 j id δ];exact Ξ,by rw[bK j id δ,<-Dk j id δ];exact ah⟩
  ·exact⟨r,by rw[s2 id hi Ε];exact ι,by rw[da id hi Ε];exact r.rQ _⟩⟩
 have Dm:∀b,aP.has (ρ.map λi=>B.getD i none) b->∃j i N,ρ[j]?=some i/\B[i]?=some (some (b,N)):=λb ⟨N,c5⟩=>by
  obtain⟨j,δ⟩:=List.getElem?_of_mem c5;rw[List.getElem?_map] at δ;cases U:ρ[j]? with
  | none=>rw[U] at δ;cases δ
  | some i=>
   rw[U] at δ;simp only[Option.map_some,Option.some.injEq] at δ;have hi:=Dj i (cx U);rw[List.getD_eq_getElem?_getD,ba hi] at δ;exact⟨j,i,N,U,by rw[ba hi];simpa using δ⟩
 have MJ:∀(j i:Nat),ρ[j]?=some i->∃r,σ[i]?=some r/\r.live/\jf r:=λj i δ=>by
  have j':j<iD.length:=by rw[<-hlen];exact(bV.1 δ).1
  have ι:=ba j'
  have ς:=g2 _ (cx ι);refine⟨_,by rw[a4 j i δ];exact ι,?_,ς⟩;cases U:iD[j]<;>rw[U] at ς<;>first|trivial|exact ς.elim
 have Dn:∀(id:Nat) (r:Row) (b N:Nat),id∉ρ->σ[id]?=some r->r.live->B[id]?=some (some (b,N))->¬aP.has (ρ.map λi=>B.getD i none) b/\¬H.fresh b/\ky H H' b:=λid r b N Ε ι e4 hb=>by
  have c1:¬aP.has (ρ.map λi=>B.getD i none) b:=λaX=>by
   obtain⟨j,i,e2,I,R⟩:=Dm b aX;obtain⟨r',Ξ,ah,_⟩:=MJ j i I;exact χ.inj id i r r' b N e2 (λe=>Ε (e▸cx I)) ι Ξ e4 ah hb R
  have c2:=χ.ny ι e4 hb;exact⟨c1,c2,(he.fH b c1 c2).pA λo=>χ.sep id r b N ι e4 hb o⟩
 refine⟨⟨ao.dc,MI,λi r bo ι ek=>?_,λi j ef b8 b gh gi fZ hi δ hD eb gw cz=>?_,λi r b N ι e4 hb o=>?_⟩,⟨he.dc,λb hb Υ=>?_,λb hb=>?_,λb o v hv=>?_,he.grow⟩,Dl,⟨λj i δ=>?_,λj i δ=>?_⟩⟩
 ·rcases zJ i r ι with⟨Ξ,ah,aR,ca⟩|⟨j,Ξ,ah,_,_⟩
  ·by_cases e4:r.live
   ·rw[ca] at ek;refine(χ.row i r bo aR ek).later Dl (λb N e=>(Dn i r b N ah aR e4 (by rw[ek,e])).2.2) λdN left cur e=>?_;subst e;obtain⟨_,_,aU,kx,xs,clock,seen,_,Γ,⟨es,Θ⟩,_⟩:=χ.row i _ bo aR ek;have j0:dN∉ρ:=λhm=>by
     obtain⟨j,δ⟩:=List.getElem?_of_mem hm;obtain⟨r',dh,_,gj⟩:=MJ j dN δ;rw[Θ] at dh;cases dh;exact gj
    have G7:=(bV.1 Θ).1;exact⟨s2 dN G7 j0,da dN G7 j0,λb N hb=>(Dn dN _ b N j0 Θ trivial hb).2.2⟩
   ·cases r<;>first|exact absurd trivial e4|trivial
  ·rw[ah] at ek;exact(ao.row j r bo Ξ ek).Vk (B':=bB) (σ':=j9) (Vl r (cx Ξ)) _ _
 ·have y8:∀(i:Nat) (ef:Row) (gh:Nat) (bI:Nat) (b8:Row) (gi:Nat),i∉ρ->σ[i]?=some ef->ef.live->B[i]?=some (some (b,gh))->σ0[bI]?=some b8->b8.live->eh[bI]?=some (some (b,gi))->False:=λi ef gh bI b8 gi I R ν Ι aB bn gO=>by
   obtain⟨c1,c2,_⟩:=Dn i ef b gh I R ν Ι;rcases he.blocks b (oE gO) with h|h
   ·exact c1 h
   ·exact c2 h
  rcases zJ i ef hi with⟨Ξ,ah,aR,ca⟩|⟨i0,Ξ,ah,aR,ca⟩<;>rcases zJ j b8 δ with⟨k1,bG,mi,zK⟩|⟨G8,k1,bG,mi,zK⟩
  ·rw[ca] at gw;rw[zK] at cz;exact χ.inj i j ef b8 b gh gi fZ aR mi hD eb gw cz
  ·rw[ca] at gw;rw[bG] at cz;exact y8 i ef gh G8 b8 gi ah aR hD gw k1 eb cz
  ·rw[ah] at gw;rw[zK] at cz;exact y8 j b8 gi i0 ef gh bG mi eb cz Ξ hD gw
  ·rw[ah] at gw;rw[bG] at cz;refine ao.inj i0 G8 ef b8 b gh gi (λe=>fZ ?_) Ξ k1 hD eb gw cz;exact aR j G8 zK.1 zK.2 e
 ·rcases zJ i r ι with⟨Ξ,ah,aR,ca⟩|⟨j,Ξ,ah,_,_⟩
  ·rw[ca] at hb;obtain⟨c1,c2,_⟩:=Dn i r b N ah aR e4 hb;cases hv:az b o with
   | none=>rfl
   | some v=>
    rcases he.qQ b o v hv with h|h|h
    ·rw[χ.sep i r b N aR e4 hb o] at h;cases h
    ·exact absurd h c1
    ·exact absurd h c2
  ·rw[ah] at hb;exact ao.sep j r b N Ξ e4 hb o
 ·refine he.fH b (λaX=>hb ?_) Υ;obtain⟨j,i,e2,_,R⟩:=Dm b aX;exact oE R
 ·obtain⟨N,c5⟩:=hb;obtain⟨i,hi⟩:=List.getElem?_of_mem c5;have oR:i<j9.length:=by rw[<-MI];exact(bV.1 hi).1
  rcases zJ i _ (ba oR) with⟨Ξ,ah,aR,ca⟩|⟨j,Ξ,ah,_,_⟩
  ·rw[ca] at hi;exact .inl (oE hi)
  ·rw[ah] at hi;rcases he.blocks b (oE hi) with h|h
   ·obtain⟨j,eN,e2,_,R⟩:=Dm b h;exact .inl (oE R)
   ·exact .inr h
 ·rcases he.qQ b o v hv with h|h|h
  ·exact .inl h
  ·obtain⟨j,eN,e2,_,R⟩:=Dm b h;exact .inr (.inl (oE R))
  ·exact .inr (.inr h)
 ·by_cases j':j<ρ.length
  ·rw[dv j'] at δ;exact s1 j i δ
  ·rw[h4 γ,List.getElem?_map] at δ;have u1:j-ρ.length<σ0.length-ρ.length:=by
    apply Classical.byContradiction;intro Ε;rw[List.getElem?_eq_none (by simp;omega)] at δ;cases δ
   rw[ba (by simpa using u1)] at δ;simp at δ;subst δ;rw[oh];congr 1;omega
 ·by_cases j':j<ρ.length
  ·rw[dv j'] at δ;exact bK j i δ
  ·rw[h4 γ,List.getElem?_map] at δ;have u1:j-ρ.length<σ0.length-ρ.length:=by
    apply Classical.byContradiction;intro Ε;rw[List.getElem?_eq_none (by simp;omega)] at δ;cases δ
   rw[ba (by simpa using u1)] at δ;simp at δ;subst δ;rw[fP];congr 1;omega
def names (ρ:List Nat) (n:Nat) (σ0:List Row):List Nat:=ρ++(List.range (σ0.length-ρ.length)).map (n + ·)
def vj (σ:List Row) (ρ:List Nat) (σ0:List Row):List Row:=je σ ρ σ0++σ0.drop ρ.length
theorem ak.Vm {g:FuncId} {as0:List θ} {iD:List Row} {K:θ->List Row->Prop} {E:θ->List Row->Prop} (h:ak P g as0 iD K E) (ρ:List Nat) (kR:ρ.Nodup) (hlen:ρ.length=iD.length) (a4:∀(j i:Nat),ρ[j]?=some i->σ[i]?=iD[j]?) (g2:∀r∈iD,jf r)
  (has:∀a∈as0,fB ρ.length a) {K':θ->List Row->Prop} {E':θ->List Row->Prop} (ζ:∀a s,K a s->(∀r∈s,Di r)/\fB s.length a/\K' (dO (names ρ σ.length s) a) (vj σ ρ s))
  (df:∀a s,E a s->(∀r∈s,Di r)/\fB s.length a/\E' (dO (names ρ σ.length s) a) (vj σ ρ s)):ak P g (as0.map (dO ρ)) σ K' E':=by
 refine⟨h.1,λQ mn x c rest S B H vs U χ hv hX=>?_⟩;have aI:∀(j i:Nat),ρ[j]?=some i->i<σ.length:=λj i δ=>by
  have j':j<iD.length:=by rw[<-hlen];exact(bV.1 δ).1
  have:=a4 j i δ;rw[ba j'] at this;exact(bV.1 this).1
 have Dk:∀(j i:Nat),ρ[j]?=some i->(ρ.map λi=>B.getD i none)[j]?=B[i]?:=λj i δ=>by
  have hi:i<B.length:=by rw[χ.len];exact aI j i δ
  rw[List.getElem?_map,δ];simp[hi]
 have oN:Names ρ (ρ.map λi=>B.getD i none) iD B σ:=⟨a4,λj i δ=>(Dk j i δ).symm⟩
 have pick:∀(j:Nat) (r:Row) (bo:Option (Nat×Nat)),iD[j]?=some r->(ρ.map λi=>B.getD i none)[j]?=some bo->∃i,ρ[j]?=some i/\σ[i]?=some r/\B[i]?=some bo:=λj r bo ι ek=>by
  have j':j<ρ.length:=by rw[hlen];exact(bV.1 ι).1
  have δ:=ba j';exact⟨_,δ,by rw[a4 j _ δ];exact ι,by rw[<-Dk j _ δ];exact ek⟩
 have Vn:Holds S (ρ.map λi=>B.getD i none) iD H:=by
  refine⟨χ.dc,by simp[hlen],λj r bo ι ek=>?_,λi j ef b8 b gh gi fZ hi δ hD eb gw cz=>?_,λj r b N ι e4 hb o=>?_⟩
  ·obtain⟨i,I,R,ν⟩:=pick j r bo ι ek;exact(χ.row i r bo R ν).plain (B':=B) (σ':=σ) (g2 r (cx ι)) _ _
  ·obtain⟨eN,I,R,ν⟩:=pick i ef _ hi gw;obtain⟨bI,Ξ,ah,aR⟩:=pick j b8 _ δ cz;refine χ.inj eN bI ef b8 b gh gi (λe=>fZ ?_) R ah hD eb ν aR;subst e;have j2:=(bV.1 I).1;exact(List.getElem?_inj j2 kR).1 (I.trans Ξ.symm)
  ·obtain⟨i,I,R,ν⟩:=pick j r _ ι hb;exact χ.sep i r b N R e4 ν o
 refine h.2 Q mn x c rest S _ H vs U Vn ⟨by have:=hv.1;simpa using this,λi a v I R=>(G6 oN (has a (cx I))).1 (hv.2 i _ v (by rw[List.getElem?_map,I];rfl) R)⟩ ⟨λa σ' az B' H' v ψ he υ ij ι=>?_,λa σ' az B' H' v ψ he υ ij ι=>?_⟩
 ·obtain⟨dh,c6,gj⟩:=ζ a σ' ψ;obtain⟨dD,p2,p3,p4⟩:=χ.MH kR hlen a4 g2 he υ ij dh;refine hX.ret _ _ az _ H' v gj p2 p3 dD ((G6 p4 ?_).2 ι);have:(ρ++(List.range (σ'.length-ρ.length)).map (σ.length + ·)).length=σ'.length:=by
   have:=υ.length;simp;omega
  rw[this];exact c6
 ·obtain⟨dh,c6,gj⟩:=df a σ' ψ;obtain⟨dD,p2,p3,p4⟩:=χ.MH kR hlen a4 g2 he υ ij dh;refine hX.xg _ _ az _ H' v gj p2 p3 dD ((G6 p4 ?_).2 ι);have:(ρ++(List.range (σ'.length-ρ.length)).map (σ.length + ·)).length=σ'.length:=by
   have:=υ.length;simp;omega
  rw[this];exact c6
theorem ak.rows {g:FuncId} {as0:List θ} {iD:List Row} {K:θ->List Row->Prop} {E:θ->List Row->Prop} (h:ak P g as0 iD K E) (ρ:List Nat) (kR:ρ.Nodup) (hlen:ρ.length=iD.length) (a4:∀(j i:Nat),ρ[j]?=some i->σ[i]?=iD[j]?) (g2:∀r∈iD,jf r)
  (has:∀a∈as0,fB ρ.length a) {K':θ->List Row->Prop} {E':θ->List Row->Prop} (ζ:∀a s,K a s->(∀r∈s,jf r)/\fB s.length a/\K' (dO (names ρ σ.length s) a) (vj σ ρ s))
  (df:∀a s,E a s->(∀r∈s,jf r)/\fB s.length a/\E' (dO (names ρ σ.length s) a) (vj σ ρ s)):ak P g (as0.map (dO ρ)) σ K' E':=
 h.Vm ρ kR hlen a4 g2 has (λa s x=>let ⟨p,q⟩:=ζ a s x;⟨λr ι=>.inl (p r ι),q⟩) (λa s x=>let ⟨p,q⟩:=df a s x;⟨λr ι=>.inl (p r ι),q⟩)
end
end Go.TL
