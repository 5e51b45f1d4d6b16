import Derived.Carry
import Derived.ChangeSlices
import Derived.Conc.HoldsTime
import Derived.OpenShut
import Derived.Test.YtlabjopijpkiaaaGreatUAF
import Derived.Test.YtlabjopijpkiaaaGreatUAK
import Derived.Test.YtlabjopijpkiaaaGreatUAS
import Derived.Test.YtlabjopijpkiaaaGreatUAY
import Derived.Test.YtlabjopijpkiaaaGreatRows
set_option maxHeartbeats 16000000
set_option maxRecDepth 20000
set_option linter.unusedSectionVars false
set_option linter.unusedSimpArgs false
set_option linter.unusedVariables false
namespace Go.TL
open Go.Conc
variable [bt]
section
variable {P:Program} {T:bf} {A:List Nat} {m nt:Nat} {k:List Item} {env:aa} {σ:List Row} {Z:List Item->aa->List Row->Prop} {E:η->aa->List Row->Prop} {ops:Array Oper}
def QZ (P:Program) (m nt:Nat) (k:List Item) (Z:List Item->aa->List Row->Prop) (E:η->aa->List Row->Prop) (ops:Array Oper) (i:Nat) (o:Oper) (env:aa) (r:Row) (a:η) (r2:Row):Prop:=
 ∀env' τ rest,pb ops o env env'->W P m nt (.inRegion ops rest::k) (cj o env' a) (r2::τ) Z E->W P m nt (.inRegion ops (i::rest)::k) env' (r::τ) Z E
def StepB (P:Program) (m nt:Nat) (k:List Item) (Z:List Item->aa->List Row->Prop) (E:η->aa->List Row->Prop) (ops:Array Oper) (i:Nat) (o:Oper) (env:aa) (τ:List Row) (a:η) (dΚ:List Row):Prop:=
 ∀env' r rest,pb ops o env env'->W P m nt (.inRegion ops rest::k) (cj o env' a) (r::dΚ) Z E->W P m nt (.inRegion ops (i::rest)::k) env' (r::τ) Z E
theorem Q0 {α:Type} {f:Nat->α} {tags:List Bool} (Eb:∀i o,ops[i]?=some o->writer ops tags i=false->f (i+1)=f i):∀a b,a<=ops.size->b<=ops.size->(∀j,j<ops.size->writer ops tags j=true->(j<a↔j<b))->f a=f b:=by
 have Ag:∀(d a:Nat),a+d<=ops.size->(∀j,a<=j->j<a+d->writer ops tags j=false)->f (a+d)=f a:=by
  intro d
  induction d with
  | zero=>intro a _ _;rfl
  | succ d Β=>
   intro a hle h;have I:ops[a+d]?=some ops[a+d]:=fh R;have:=Eb (a+d) _ I (h (a+d) R R);rw[show a+(d+1)=a+d+1 by omega,this];exact Β a R λj I U=>h j I R
 intro a b μ hb h;rcases Nat.le_total a b with hle|hle
 ·have:=Ag (b-a) a R λj I U=>by
   cases Ν:writer ops tags j with
   | false=>rfl
   | true=>have:=(h j R Ν).2 R;omega
  rw[show a+(b-a)=b by omega] at this;exact this.symm
 ·have:=Ag (a-b) b R λj I U=>by
   cases Ν:writer ops tags j with
   | false=>rfl
   | true=>have:=(h j R Ν).1 R;omega
  rw[show b+(a-b)=a by omega] at this;exact this
theorem Q1 {tags:List Bool} (dK:lf ops tags=true):∀i o,ops[i]?=some o->(∀j∈hj o,j<i)/\∀j bZ,j<i->ops[j]?=some bZ->clash ops tags i j o bZ=true->j∈(D8 ops).getD i []:=by
 intro i o Α;have hi:i<ops.size:=(Array.getElem?_eq_some_iff.1 Α).1;unfold lf at dK;simp only[List.all_eq_true,List.mem_range] at dK;have h:=dK i hi;rw[Α] at h;simp only[Bool.and_eq_true,List.all_eq_true,decide_eq_true_eq,List.mem_range] at h;refine⟨h.1,λj bZ δ dq ε=>?_⟩;have U:=h.2 j δ;rw[dq] at U;simp only[ε,Bool.not_true,Bool.false_or,List.contains_iff_mem] at U;exact U
theorem Q2 {tags:List Bool}:∀j,writer ops tags j=true->tags.getD j false=true:=λj h=>by
 unfold writer at h;rw[Bool.and_eq_true] at h;exact h.1
theorem Q3 {tags:List Bool} {i:Nat} {nA:Oper} (nC:tags.getD i false=true):∀j bZ,ops[j]?=some bZ->writer ops tags j=true->clash ops tags i j nA bZ=true/\clash ops tags j i bZ nA=true:=λj bZ dq Ν=>by
 have I:=Q2 j Ν;unfold writer at Ν;rw[I,dq] at Ν;have U:mP bZ=false:=by simpa using Ν
 unfold clash;rw[I,nC,U];simp
theorem W.dΜ {as9:Nat->η} {ρs:Nat->Row} {τs:Nat->List Row} {td tb:List Bool} {env0:aa} (dΝ:lf ops td=true) (dΞ:lf ops tb=true)
  (dY:∀i o,ops[i]?=some o->td.getD i false=false->tb.getD i false=false->x1 P m nt k Z E ops i o (dd ops env0 as9 (λ_=>true) i) (as9 i))
  (dZ:∀i o,ops[i]?=some o->td.getD i false=true->QZ P m nt k Z E ops i o (dd ops env0 as9 (λ_=>true) i) (ρs i) (as9 i) (ρs (i+1))/\tb.getD i false=false)
  (ff:∀i o,ops[i]?=some o->tb.getD i false=true->StepB P m nt k Z E ops i o (dd ops env0 as9 (λ_=>true) i) (τs i) (as9 i) (τs (i+1)))
  (dΟ:∀i o,ops[i]?=some o->writer ops td i=false->ρs (i+1)=ρs i) (dΡ:∀i o,ops[i]?=some o->writer ops tb i=false->τs (i+1)=τs i)
  (Ie:W P m nt (.inRegion ops []::k) (dd ops env0 as9 (λ_=>true) ops.size) (ρs ops.size::τs ops.size) Z E) :
  ∀(fuel:Nat) (t:Nat) (listed:Array Bool) (env:aa) (cP hc:Nat),listed.size=ops.size->
   (∀i,a6 env i=a6 (dd ops env0 as9 (λi=>listed.getD i false) ops.size) i)->
   (∀i o,ops[i]?=some o->listed.getD i false=true->∀j∈hj o,listed.getD j false=true)->
   cP<=ops.size->hc<=ops.size->(∀j,j<ops.size->writer ops td j=true->(listed.getD j false=true↔j<cP))->(∀j,j<ops.size->writer ops tb j=true->(listed.getD j false=true↔j<hc))->
   ((List.range ops.size).filter λi=>!listed.getD i false).length<=fuel->
   W P m nt (.inRegion ops (Region.linearise.go .any ops fuel t listed [])::k) env (ρs cP::τs hc) Z E:=by
 have we:=Q1 dΝ
 have Q4:=Q1 dΞ
 have sT:∀i o,ops[i]?=some o->∀j∈hj o,j<i:=λi o Α=>(we i o Α).1
 have Q5:=Q0 dΟ
 have Q6:=Q0 dΡ;intro fuel;have done:∀(t:Nat) (listed:Array Bool) (env:aa) (cP hc:Nat),(∀i,i<ops.size->listed.getD i false=true)->(∀i,a6 env i=a6 (dd ops env0 as9 (λi=>listed.getD i false) ops.size) i)->cP<=ops.size->hc<=ops.size->
   (∀j,j<ops.size->writer ops td j=true->(listed.getD j false=true↔j<cP))->(∀j,j<ops.size->writer ops tb j=true->(listed.getD j false=true↔j<hc))->W P m nt (.inRegion ops []::k) env (ρs cP::τs hc) Z E:=λt listed env cP hc hY cK iP n3 ir u1=>by
  have Δ:ρs cP=ρs ops.size:=Q5 cP ops.size iP (Nat.le_refl _) λj δ Ν=>by rw[<-ir j δ Ν];simp[hY j δ,δ]
  have Γ:τs hc=τs ops.size:=Q6 hc ops.size n3 (Nat.le_refl _) λj δ Ν=>by rw[<-u1 j δ Ν];simp[hY j δ,δ]
  rw[Δ,Γ];refine .congr (λi=>?_) Ie;rw[cK i];exact x2 ops.size λi o hi _ _=>hY i hi
 have Ig:∀listed:Array Bool,listed.size=ops.size->(∃i,i<ops.size/\listed.getD i false=false)->∃i,i<ops.size/\listed.getD i false=false/\∀j,j<i->listed.getD j false=true:=λlisted cv ⟨i,hi,υ⟩=>by
  induction i using Nat.strongRecOn with
  | _ i Β=>
   by_cases δ:∃j,j<i/\listed.getD j false=false
   ·obtain⟨j,I,U⟩:=δ;exact Β j I R U
   ·exact⟨i,hi,υ,λj bn=>by
     cases h:listed.getD j false with
     | true=>rfl
     | false=>exact absurd ⟨j,bn,h⟩ δ⟩
 induction fuel with
 | zero=>
  intro t listed env cP hc cv cK bX iP n3 ir u1 Ih;have hY:∀i,i<ops.size->listed.getD i false=true:=λi hi=>by
   cases h:listed.getD i false with
   | true=>rfl
   | false=>
    have lZ:i∈(List.range ops.size).filter λi=>!listed.getD i false:=by rw[List.mem_filter];exact⟨List.mem_range.2 hi,by rw[h];rfl⟩
    have:((List.range ops.size).filter λi=>!listed.getD i false)=[]:=dw.1 R;rw[this] at lZ;simp at lZ
  exact done t listed env cP hc hY cK iP n3 ir u1
 | succ fuel Β=>
  intro t listed env cP hc cv cK bX iP n3 ir u1 Ih;simp only[Region.linearise.go];generalize ih:((List.range ops.size).filter λi=>!listed.getD i true&&((ops[i]?).map (·.after.all λe=>!Region.binds .any e||listed.getD e.on false)).getD false)=rs;have Ah:∀i,i<ops.size->listed.getD i true=listed.getD i false:=λi hi=>by
   rw[Array.getD_eq_getD_getElem?,Array.getD_eq_getD_getElem?,fh R];rfl
  have Ai:∀i,i∈rs↔i<ops.size/\listed.getD i false=false/\∀o,ops[i]?=some o->∀j∈hj o,listed.getD j false=true:=λi=>by
   rw[<-ih];simp only[List.mem_filter,List.mem_range,Bool.and_eq_true,Bool.not_eq_true'];constructor
   ·rintro⟨I,U,ξ⟩;rw[Ah i I] at U;refine⟨I,U,λo Α j δ=>?_⟩;rw[Α] at ξ;simp only[Option.map_some,Option.getD_some,Array.all_eq_true'] at ξ;unfold hj at δ;simp only[List.mem_map,List.mem_filter] at δ;obtain⟨e,⟨Ii,nB⟩,rfl⟩:=δ;have:=ξ e (by simpa using Ii);simpa[nB] using this
   ·rintro⟨I,U,ξ⟩;refine⟨I,by rw[Ah i I];exact U,?_⟩;have Α:ops[i]?=some ops[i]:=fh I;rw[Α];simp only[Option.map_some,Option.getD_some,Array.all_eq_true'];intro e he;by_cases hb:Region.binds .any e=true
    ·have:=ξ _ Α e.on (by unfold hj;simp only[List.mem_map,List.mem_filter];exact⟨e,⟨by simpa using he,hb⟩,rfl⟩);simp[this]
    ·simp[hb]
  cases hi:rs[t % rs.length]? with
  | none=>
   simp only[List.reverse_nil];have zA:rs=[]:=by
    cases κ:rs with
    | nil=>rfl
    | cons x xs=>
     rw[κ] at hi;have aB:t % (x::xs).length<(x::xs).length:=Nat.mod_lt _ θ;rw[a5 aB] at hi;cases hi
   have hY:∀i,i<ops.size->listed.getD i false=true:=λi ba=>by
    cases h:listed.getD i false with
    | true=>rfl
    | false=>
     obtain⟨r,I,U,ξ⟩:=Ig listed cv ⟨i,ba,h⟩;have:r∈rs:=(Ai r).2 ⟨I,U,λo Α j δ=>ξ j (sT r o Α j δ)⟩;rw[zA] at this;simp at this
   exact done t listed env cP hc hY cK iP n3 ir u1
  | some i=>
   simp only;rw[N5];have lZ:i∈rs:=cr hi;obtain⟨I,U,ξ⟩:=(Ai i).1 lZ;have Α:ops[i]?=some ops[i]:=fh I;have Ij:=D9 sT (λj=>listed.getD j false=true) (λj o δ υ=>bX j o δ υ) i _ Α (ξ _ Α);have low:∀j bZ,j<i->ops[j]?=some bZ->(clash ops td i j ops[i] bZ=true\/clash ops tb i j ops[i] bZ=true)->listed.getD j false=true:=λj bZ δ dq ε=>Ij j (ε.elim (λε=>(we i _ Α).2 j bZ δ dq ε) (λε=>(Q4 i _ Α).2 j bZ δ dq ε));have high:∀j bZ,i<j->ops[j]?=some bZ->(clash ops td j i bZ ops[i]=true\/clash ops tb j i bZ ops[i]=true)->listed.getD j false=false:=λj bZ δ dq ε=>by
    cases υ:listed.getD j false with
    | false=>rfl
    | true=>
     have:=D9 sT (λj=>listed.getD j false=true) (λj o δ υ=>bX j o δ υ) j bZ dq (bX j bZ dq υ) i (ε.elim (λε=>(we j bZ dq).2 i _ δ Α ε) (λε=>(Q4 j bZ dq).2 i _ δ Α ε));rw[U] at this;cases this
   have same:pb ops ops[i] (dd ops env0 as9 (λ_=>true) i) env:=λx γ=>by
    rw[cK x];have c1:a6 (dd ops env0 as9 (λi=>listed.getD i false) ops.size) x=a6 (dd ops env0 as9 (λi=>listed.getD i false) i) x:=Ea R λj bZ x3 Ik dq hd=>by
     by_cases e:j=i
     ·subst e;exact U
     ·refine high j bZ R dq ?_;unfold clash;simp[hd,γ]
    rw[c1];exact x2 i λj bZ δ dq hd=>low j bZ δ dq (.inl (by unfold clash;simp[hd,γ]))
   have nq:∀x,a6 (cj ops[i] env (as9 i)) x=a6 (dd ops env0 as9 (λj=>(listed.setIfInBounds i true).getD j false) ops.size) x:=λx=>by
    have kh:∀j,(listed.setIfInBounds i true).getD j false=if j=i then true else listed.getD j false:=λj=>by
     rw[Array.getD_eq_getD_getElem?,Array.getD_eq_getD_getElem?];by_cases e:j=i
     ·subst e;rw[Array.getElem?_setIfInBounds_self_of_lt R];simp
     ·rw[Array.getElem?_setIfInBounds_ne (Ne.symm e),if_neg e]
    rw[wa];by_cases hd:ops[i].dst=some x
    ·rw[if_pos hd];have c1:a6 (dd ops env0 as9 (λj=>(listed.setIfInBounds i true).getD j false) ops.size) x=a6 (dd ops env0 as9 (λj=>(listed.setIfInBounds i true).getD j false) (i+1)) x:=Ea R λj bZ x3 Ik dq ui=>by
      rw[kh,if_neg R];refine high j bZ R dq (.inl ?_);unfold clash;simp[hd,ui]
     rw[c1];simp only[dd,kh,if_true,Α,wa,hd]
    ·rw[if_neg hd,cK x];exact x2 ops.size λj bZ δ dq ui=>by
      rw[kh,if_neg];intro e;subst e;rw[Α] at dq;cases dq;exact hd ui
   have kh:∀j,(listed.setIfInBounds i true).getD j false=if j=i then true else listed.getD j false:=λj=>by
    rw[Array.getD_eq_getD_getElem?,Array.getD_eq_getD_getElem?];by_cases e:j=i
    ·subst e;rw[Array.getElem?_setIfInBounds_self_of_lt R];simp
    ·rw[Array.getElem?_setIfInBounds_ne (Ne.symm e),if_neg e]
   have wh:((List.range ops.size).filter λj=>!(listed.setIfInBounds i true).getD j false).length<=fuel:=by
    have aB:((List.range ops.size).filter λj=>!(listed.setIfInBounds i true).getD j false).length<((List.range ops.size).filter λj=>!listed.getD j false).length:=by
     have:((List.range ops.size).filter λj=>!(listed.setIfInBounds i true).getD j false)=((List.range ops.size).filter λj=>!listed.getD j false).filter λj=>j != i:=by
      rw[List.filter_filter];apply List.filter_congr;intro j _;rw[kh];by_cases e:j=i
      ·subst e;simp
      ·simp[e]
     rw[this];have hm:i∈(List.range ops.size).filter λj=>!listed.getD j false:=by
      rw[List.mem_filter];exact⟨List.mem_range.2 I,by rw[U];rfl⟩
     exact List.length_filter_lt_length_iff_exists.2 ⟨i,hm,θ⟩
    omega
   have rC:∀j o,ops[j]?=some o->(listed.setIfInBounds i true).getD j false=true->∀y∈hj o,(listed.setIfInBounds i true).getD y false=true:=λj o δ υ y Ο=>by
    rw[kh] at υ ⊢;by_cases e:y=i
    ·rw[if_pos e]
    ·rw[if_neg e];by_cases Γ:j=i
     ·subst Γ;rw[Α] at δ;cases δ;exact ξ _ Α y Ο
     ·rw[if_neg Γ] at υ;exact bX j o δ υ y Ο
   have keep:∀(tags:List Bool) (cP:Nat),tags.getD i false=false->(∀j,j<ops.size->writer ops tags j=true->(listed.getD j false=true↔j<cP))->∀j,j<ops.size->writer ops tags j=true->((listed.setIfInBounds i true).getD j false=true↔j<cP):=λtags cP nC ir j δ Ν=>by
    rw[kh];have:j≠i:=λe=>by subst e;rw[Q2 j Ν] at nC;cases nC
    rw[if_neg this];exact ir j δ Ν
   have keepW:∀(tags:List Bool) (cP:Nat),writer ops tags i=false->(∀j,j<ops.size->writer ops tags j=true->(listed.getD j false=true↔j<cP))->∀j,j<ops.size->writer ops tags j=true->((listed.setIfInBounds i true).getD j false=true↔j<cP):=λtags cP ki ir j δ Ν=>by
    rw[kh];have:j≠i:=λe=>by subst e;rw[Ν] at ki;cases ki
    rw[if_neg this];exact ir j δ Ν
   have both:∀(tags:List Bool),tags.getD i false=true->(∀j bZ,j<i->ops[j]?=some bZ->clash ops tags i j ops[i] bZ=true->listed.getD j false=true)->(∀j bZ,i<j->ops[j]?=some bZ->clash ops tags j i bZ ops[i]=true->listed.getD j false=false)->
     (∀j,j<ops.size->writer ops tags j=true->j<i->listed.getD j false=true)/\(∀j,j<ops.size->writer ops tags j=true->i<j->listed.getD j false=false):=λtags nC lo hi=>⟨λj δ Ν wi=>lo j _ wi (fh δ) (Q3 nC j _ (fh δ) Ν).1,λj δ Ν wi=>hi j _ wi (fh δ) (Q3 nC j _ (fh δ) Ν).2⟩
   have Q7:∀(tags:List Bool) (cP:Nat),(∀j,j<ops.size->writer ops tags j=true->j<i->listed.getD j false=true)->(∀j,j<ops.size->writer ops tags j=true->i<j->listed.getD j false=false)->(∀j,j<ops.size->writer ops tags j=true->(listed.getD j false=true↔j<cP))->∀j,j<ops.size->writer ops tags j=true->(j<cP↔j<i):=λtags cP lo hi ir j δ Ν=>by
    rw[<-ir j δ Ν];constructor
    ·intro υ;apply Classical.byContradiction;intro Η;by_cases e:j=i
     ·subst e;rw[U] at υ;cases υ
     ·rw[hi j δ Ν R] at υ;cases υ
    ·exact lo j δ Ν
   have next:∀(tags:List Bool),(∀j,j<ops.size->writer ops tags j=true->j<i->listed.getD j false=true)->(∀j,j<ops.size->writer ops tags j=true->i<j->listed.getD j false=false)->∀j,j<ops.size->writer ops tags j=true->((listed.setIfInBounds i true).getD j false=true↔j<i+1):=λtags lo hi j δ Ν=>by
    rw[kh];by_cases e:j=i
    ·subst e;simp
    ·rw[if_neg e];constructor
     ·intro υ;apply Classical.byContradiction;intro Η;rw[hi j δ Ν R] at υ;cases υ
     ·intro aB;exact lo j δ Ν R
   cases Bq:td.getD i false with
   | true=>
    obtain⟨cH,yI⟩:=dZ i _ Α Bq;obtain⟨lo,ba⟩:=both td Bq (λj bZ a b c=>low j bZ a b (.inl c)) (λj bZ a b c=>high j bZ a b (.inl c));rw[Q5 cP i iP R (Q7 td cP lo ba ir)];refine cH env _ _ same ?_;exact Β _ _ _ (i+1) hc (by simpa using cv) nq rC R n3 (next td lo ba) (keep tb hc yI u1) wh
   | false=>
    cases yI:tb.getD i false with
    | false=>
     refine dY i _ Α Bq yI env _ _ same ?_;exact Β _ _ _ cP hc (by simpa using cv) nq rC iP n3 (keep td cP Bq ir) (keep tb hc yI u1) wh
    | true=>
     obtain⟨lo,ba⟩:=both tb yI (λj bZ a b c=>low j bZ a b (.inr c)) (λj bZ a b c=>high j bZ a b (.inr c));rw[Q6 hc i n3 R (Q7 tb hc lo ba u1)];refine ff i _ Α yI env _ _ same ?_;exact Β _ _ _ cP (i+1) (by simpa using cv) nq rC iP R (keep td cP Bq ir) (next tb lo ba) wh
def yJ (f:Row->da) (K:η->List Row->Prop):Prop:=∃a eU,((∀r,f r=.ok a (r::eU))\/∃p:Prop,p/\∀r,f r=.ca p (.ok a (r::eU)))/\K a eU
theorem dΤ {f g:Row->da} {K:η->List Row->Prop} (h:∀r,f r=g r):yJ f K=yJ g K:=by rw[funext h]
theorem dΥ {a:η} {τ:List Row} {K:η->List Row->Prop}:yJ (λr=>.ok a (r::τ)) K=K a τ:=by
 refine propext ⟨λ⟨b,eU,h,ς⟩=>?_,λh=>⟨a,τ,.inl λ_=>rfl,h⟩⟩;rcases h with h|⟨p,_,h⟩
 ·have:=h (.map []);injection this with I U
  injection U with _ U
  rw[I,U];exact ς
 ·have:=h (.map []);cases this
theorem dΦ {p:Prop} {a:η} {τ:List Row} {K:η->List Row->Prop}:yJ (λr=>.ca p (.ok a (r::τ))) K=(p/\K a τ):=by
 refine propext ⟨λ⟨b,eU,h,ς⟩=>?_,λh=>⟨a,τ,.inr ⟨p,h.1,λ_=>rfl⟩,h.2⟩⟩;rcases h with h|⟨q,Ψ,h⟩
 ·have:=h (.map []);cases this
 ·have:=h (.map []);injection this with ai I
  injection I with I U
  injection U with _ U
  rw[I,U];exact⟨ai▸Ψ,ς⟩
def Br (P:Program) (f:η) (args:List η) (r:Row) (gZ:η->Prop) (m8:η->Row->Prop):Prop:=
 (∃a,gi P f args a/\gZ a)\/∃a r',(∀τ,hE P f args (r::τ) (λb s=>b=a/\s=r'::τ) (λ_ _=>False))/\m8 a r'
theorem dΧ {P:Program} {f:η} {args:List η} {r r':Row} {gZ:η->Prop} {m8:η->Row->Prop} {a:η} (h:∀τ,hE P f args (r::τ) (λb s=>b=a/\s=r'::τ) (λ_ _=>False)) (k:m8 a r'):Br P f args r gZ m8:=.inr ⟨a,r',h,k⟩
def Bs (P:Program) (T:bf) (A:List Nat) (env:aa) (o:Oper) (r:Row) (τ:List Row) (gZ:η->Prop) (m8:η->Row->Prop) (kL:η->List Row->Prop):Prop:=match o.op with
 | .call ⟨.value f,args,_⟩=>Br P (aT env f) (args.toList.map (aT env)) r gZ m8
 | .panic _=>False
 | .defer _=>False
 | _=>(mN T A env o).gD gZ (yJ (λr=>kK T A env (r::τ) o) kL)
theorem dΨ {P:Program} {T:bf} {A:List Nat} {env:aa} {o:Oper} {r:Row} {τ:List Row} {gZ:η->Prop} {m8:η->Row->Prop} {kL:η->List Row->Prop}:Bs P T A env o r τ gZ m8 kL=match o.op with
 | .call ⟨.value f,args,_⟩=>Br P (aT env f) (args.toList.map (aT env)) r gZ m8
 | .panic _=>False
 | .defer _=>False
 | _=>(mN T A env o).gD gZ (yJ (λr=>kK T A env (r::τ) o) kL):=Eq.trans rfl rfl
def iB (P:Program) (T:bf) (A:List Nat) (nt:Nat) (ops:Array Oper):List Nat->aa->Row->List Row->List Bool->List Bool->(aa->List Row->Prop)->Prop
 | [],env,r,τ,td,tb,K=>lf ops td=true/\lf ops tb=true/\K env (r::τ)
 | i::is,env,r,τ,td,tb,K=>gY ops[i]? λo=>h3 nt o=true/\gY (fK env ops o) λw=>
   jR w (iB P T A nt ops is (cj o env .cp) r τ (td++[false]) (tb++[false]) K)
    (Bs P T A env o r τ (λa=>iB P T A nt ops is (cj o env a) r τ (td++[false]) (tb++[false]) K) (λa r'=>iB P T A nt ops is (cj o env a) r' τ (td++[true]) (tb++[false]) K) (λa eU=>iB P T A nt ops is (cj o env a) r eU (td++[false]) (tb++[true]) K))
def Q8 (P:Program) (T:bf) (A:List Nat) (nt:Nat) (ops:Array Oper) (is:List Nat) (o:Oper) (env:aa) (r:Row) (τ:List Row) (td tb:List Bool) (K:aa->List Row->Prop) (a:η):Prop:=iB P T A nt ops is (cj o env a) r τ (td++[false]) (tb++[false]) K
def Q9 (P:Program) (T:bf) (A:List Nat) (nt:Nat) (ops:Array Oper) (is:List Nat) (o:Oper) (env:aa) (τ:List Row) (td tb:List Bool) (K:aa->List Row->Prop) (a:η) (r:Row):Prop:=iB P T A nt ops is (cj o env a) r τ (td++[true]) (tb++[false]) K
def Q' (P:Program) (T:bf) (A:List Nat) (nt:Nat) (ops:Array Oper) (is:List Nat) (o:Oper) (env:aa) (r:Row) (td tb:List Bool) (K:aa->List Row->Prop) (a:η) (τ:List Row):Prop:=iB P T A nt ops is (cj o env a) r τ (td++[false]) (tb++[true]) K
section
variable {is:List Nat} {i:Nat} {o:Oper} {r:Row} {τ:List Row} {td tb:List Bool} {K:aa->List Row->Prop} {a:η}
theorem pI:iB P T A nt ops [] env r τ td tb K=(lf ops td=true/\lf ops tb=true/\K env (r::τ)):=Eq.trans rfl rfl
theorem pJ:iB P T A nt ops (i::is) env r τ td tb K=gY ops[i]? λo=>h3 nt o=true/\gY (fK env ops o) λw=>
   jR w (iB P T A nt ops is (cj o env .cp) r τ (td++[false]) (tb++[false]) K) (Bs P T A env o r τ (Q8 P T A nt ops is o env r τ td tb K) (Q9 P T A nt ops is o env τ td tb K) (Q' P T A nt ops is o env r td tb K)):=Eq.trans rfl rfl
theorem dΩ:Q8 P T A nt ops is o env r τ td tb K a=iB P T A nt ops is (cj o env a) r τ (td++[false]) (tb++[false]) K:=Eq.trans rfl rfl
theorem eα:Q9 P T A nt ops is o env τ td tb K a r=iB P T A nt ops is (cj o env a) r τ (td++[true]) (tb++[false]) K:=Eq.trans rfl rfl
theorem eβ:Q' P T A nt ops is o env r td tb K a τ=iB P T A nt ops is (cj o env a) r τ (td++[false]) (tb++[true]) K:=Eq.trans rfl rfl
end
def Ka (P:Program) (m nt:Nat) (k:List Item) (Z:List Item->aa->List Row->Prop) (E:η->aa->List Row->Prop) (ops:Array Oper) (i:Nat) (o:Oper) (env:aa) (r:Row) (τ:List Row) (d b:Bool) (a:η) (r':Row) (eU:List Row):Prop:=
 (d=true/\b=false/\QZ P m nt k Z E ops i o env r a r'/\eU=τ)\/(d=false/\b=true/\StepB P m nt k Z E ops i o env τ a eU/\r'=r/\(mP o=true->eU=τ))\/(d=false/\b=false/\x1 P m nt k Z E ops i o env a/\r'=r/\eU=τ)
theorem eγ (Ι:bV P T) {i:Nat} {is:List Nat} {r:Row} {τ:List Row} {td tb:List Bool} {K:aa->List Row->Prop} (h:iB P T A nt ops (i::is) env r τ td tb K) :
  ∃o a r' eU d b,ops[i]?=some o/\Ka P m nt k Z E ops i o env r τ d b a r' eU/\(d=true->mP o=false)/\iB P T A nt ops is (cj o env a) r' eU (td++[d]) (tb++[b]) K:=by
 unfold iB gY at h;split at h
 ·exact h.elim
 ·rename_i o Α;obtain⟨hd,h⟩:=h;split at h
  ·exact h.elim
  rename_i w hw;unfold jR at h;cases w
  ·replace h:=h.1 rfl
   exact⟨o,.cp,r,τ,false,false,Α,.inr (.inr ⟨rfl,rfl,λenv' σ' rest ν hW=>.unwanted Α (by rw[rD ν];exact hw) hd hW,rfl,rfl⟩),λh=>(by cases h),h⟩
  ·replace h:=h.2 rfl
   unfold Bs at h;split at h
   ·rename_i f args ea Ξ;have Ak:∀env',pb ops o env env'->aT env' f=aT env f/\args.toList.map (aT env')=args.toList.map (aT env):=λenv' ν=>by
     have γ:=Ed ν;rw[Ξ] at γ;refine⟨γ f (by simp[Op.operands,Call.operands]),Ef λx wj=>γ x (by simp[Op.operands,Call.operands,wj])⟩
    rcases h with⟨a,ε,h⟩|⟨a,r',ε,h⟩
    ·refine⟨o,a,r,τ,false,false,Α,.inr (.inr ⟨rfl,rfl,λenv' σ' rest ν hW=>.call Α (by rw[rD ν];exact hw) hd Ξ ?_,rfl,rfl⟩),λh=>(by cases h),h⟩;obtain⟨Δ,Γ⟩:=Ak env' ν;rw[Δ,Γ];exact(ε σ').mono (λa s ⟨x,y⟩=>by subst x;subst y;exact hW) (λ_ _ h=>h.elim)
    ·refine⟨o,a,r',τ,true,false,Α,.inl ⟨rfl,rfl,λenv' eU rest ν hW=>.call Α (by rw[rD ν];exact hw) hd Ξ ?_,rfl⟩,λ_=>(by unfold mP;rw[Ξ]),h⟩;obtain⟨Δ,Γ⟩:=Ak env' ν;rw[Δ,Γ];exact(ε eU).mono (λa s ⟨x,y⟩=>by subst x;subst y;exact hW) (λ_ _ h=>h.elim)
   ·exact h.elim
   ·exact h.elim
   ·rename_i I U ξ;have Al:∀(Bt:cF) (a:η),mN T A env o=Bt->(∀K:η->List Row->Prop,∀s,K a s->(Bt.dv s).holds K)->(∀σ s,Bt.or σ s=Bt.dv σ)->x1 P m nt k Z E ops i o env a:=λBt a κ aY Im env' σ' rest ν hW=>by
     refine .op (A:=A) Ι Α (by rw[rD ν];exact hw) hd (λc ε=>ξ c ε) ?_;rw[Eh ν,κ,Im];exact aY _ _ hW
    unfold cF.gD at h;split at h
    ·rename_i a μ;exact⟨o,a,r,τ,false,false,Α,.inr (.inr ⟨rfl,rfl,Al _ a μ (λK s ς=>ς) (λ_ _=>rfl),rfl,rfl⟩),λh=>(by cases h),h⟩
    ·rename_i p a μ;exact⟨o,a,r,τ,false,false,Α,.inr (.inr ⟨rfl,rfl,Al _ a μ (λK s ς=>⟨h.1,ς⟩) (λ_ _=>rfl),rfl,rfl⟩),λh=>(by cases h),h.2⟩
    ·exact h.elim
    ·rename_i xW;have Ek:∀(a:η) (eU:List Row),(∀r,∃x:da,kK T A env (r::τ) o=x/\∀K:η->List Row->Prop,K a (r::eU)->x.holds K)->StepB P m nt k Z E ops i o env τ a eU:=λa eU κ env' r rest ν hW=>by
      obtain⟨x,κ,aY⟩:=κ r;refine .op (A:=A) Ι Α (by rw[rD ν];exact hw) hd (λc ε=>ξ c ε) ?_;rw[Eh ν,Oc ν,xW,κ];exact aY _ hW
     obtain⟨a,eU,hu,ς⟩:=h;refine⟨o,a,r,eU,false,true,Α,.inr (.inl ⟨rfl,rfl,Ek a eU λr=>?_,rfl,λκ=>?_⟩),λh=>(by cases h),ς⟩
     ·rcases hu with hu|⟨p,ψ,hu⟩
      ·exact⟨_,hu r,λK ς=>ς⟩
      ·exact⟨_,hu r,λK ς=>⟨ψ,ς⟩⟩
     ·have:r::eU=r::τ:=by
       rcases hu with hu|⟨p,ψ,hu⟩
       ·exact Ej (p:=True) κ (.inl (hu r))
       ·exact Ej κ (.inr (hu r))
      injection this
theorem eδ (Ι:bV P T) {K:aa->List Row->Prop} {env0:aa}:∀(d i:Nat) (td tb:List Bool) (as9:Nat->η) (ρs:Nat->Row) (τs:Nat->List Row),i+d=ops.size->td.length=i->tb.length=i->
  (∀j o,j<i->ops[j]?=some o->Ka P m nt k Z E ops j o (dd ops env0 as9 (λ_=>true) j) (ρs j) (τs j) (td.getD j false) (tb.getD j false) (as9 j) (ρs (j+1)) (τs (j+1))/\(td.getD j false=true->mP o=false))->
  iB P T A nt ops (List.range' i d) (dd ops env0 as9 (λ_=>true) i) (ρs i) (τs i) td tb K->
  ∃(td tb:List Bool) (as9:Nat->η) (r8:Nat->Row) (r9:Nat->List Row),lf ops td=true/\lf ops tb=true/\r8 0=ρs 0/\r9 0=τs 0/\(∀j o,ops[j]?=some o->Ka P m nt k Z E ops j o (dd ops env0 as9 (λ_=>true) j) (r8 j) (r9 j) (td.getD j false) (tb.getD j false) (as9 j) (r8 (j+1)) (r9 (j+1))/\(td.getD j false=true->mP o=false))/\K (dd ops env0 as9 (λ_=>true) ops.size) (r8 ops.size::r9 ops.size):=by
 intro d
 induction d with
 | zero=>
  intro i td tb as9 ρs τs hi Ν wM δ h;simp only[List.range'_zero,iB] at h;have:i=ops.size:=R;subst this;exact⟨td,tb,as9,ρs,τs,h.1,h.2.1,rfl,rfl,λj o Α=>δ j o (Array.getElem?_eq_some_iff.1 Α).1 Α,h.2.2⟩
 | succ d Β=>
  intro i td tb as9 ρs τs hi Ν wM δ h;rw[List.range'_succ] at h;obtain⟨o,a,r',eU,Kb,oT,Α,Io,cm,h⟩:=eγ (m:=m) (k:=k) (Z:=Z) (E:=E) Ι h;let kM:Nat->η:=λj=>if j=i then a else as9 j
  let r8:Nat->Row:=λj=>if j=i+1 then r' else ρs j
  let r9:Nat->List Row:=λj=>if j=i+1 then eU else τs j
  have wm:∀j,j<=i->dd ops env0 as9 (λ_=>true) j=dd ops env0 kM (λ_=>true) j:=λj δ=>Of j λx γ=>by simp only[kM];rw[if_neg R]
  have Ip:dd ops env0 kM (λ_=>true) (i+1)=cj o (dd ops env0 as9 (λ_=>true) i) a:=by
   simp only[dd,if_true,Α];rw[<-wm i (Nat.le_refl i)];simp only[kM,if_true]
  have xE:∀(t:List Bool) (x:Bool),t.length=i->(t++[x]).getD i false=x:=λt x h=>by rw[List.getD_eq_getElem?_getD,gl R,h];simp
  have Ra:∀(t:List Bool) (x:Bool) (j:Nat),t.length=i->j<i->(t++[x]).getD j false=t.getD j false:=λt x j h δ=>by rw[List.getD_eq_getElem?_getD,dE R,<-List.getD_eq_getElem?_getD]
  have:=Β (i+1) (td++[Kb]) (tb++[oT]) kM r8 r9 R (by simp[Ν]) (by simp[wM]) (λj bZ aB dq=>?_) ?_
  ·obtain⟨t1,t2,bk,r2,s2,Τ,af,aZ,cA,gP,iq⟩:=this;exact⟨t1,t2,bk,r2,s2,Τ,af,aZ.trans (by simp only[r8];rw[if_neg R]),cA.trans (by simp only[r9];rw[if_neg R]),gP,iq⟩
  ·by_cases e:j=i
   ·subst e;rw[Α] at dq;cases dq;rw[<-wm j (Nat.le_refl j),xE td Kb Ν,xE tb oT wM];simp only[kM,r8,r9,if_true];rw[if_neg R,if_neg R];exact⟨Io,cm⟩
   ·have:=δ j bZ R dq;rw[<-wm j R,Ra td Kb j Ν R,Ra tb oT j wM R];simp only[kM,r8,r9];rw[if_neg R,if_neg R,if_neg R,if_neg R,if_neg R];exact this
  ·rw[Ip];simp only[r8,r9,if_true];exact h
theorem W.Kc (Ι:bV P T) (sU:P.follows .mixedOrders=true) {r:Row} {τ:List Row} {id:Nat} (h:∀Ε:aa->List Row->Prop,(∀env σ,W P m nt k env σ Z E->Ε env σ)->iB P T A nt ops (idx ops.size []) env r τ [] [] Ε):W P m nt (.code (.region id ops true)::k) env (r::τ) Z E:=by
 have ai:=h (λenv σ=>W P m nt k env σ Z E) λ_ _ h=>h;rw[idx_eq,List.range_eq_range'] at ai;obtain⟨td,tb,as9,ρs,τs,Τ,af,aZ,cA,gP,iq⟩:=eδ (m:=m) (k:=k) (Z:=Z) (E:=E) (env0:=env) Ι ops.size 0 [] [] (λ_=>.cp) (λ_=>r) (λ_=>τ) R rfl rfl (λj o δ=>R) ai;intro Q mn x cs b S B H t γ hb ψ Θ he;refine .draw γ hb λn=>?_;have FF:∀i:Nat,(Array.replicate ops.size false).getD i false=false:=λi=>by
  rw[Array.getD_eq_getD_getElem?,Array.getElem?_replicate];split<;>rfl
 have key:=W.dΜ (P:=P) (m:=m) (nt:=nt) (k:=k) (Z:=Z) (E:=E) (ops:=ops) (as9:=as9) (ρs:=ρs) (τs:=τs) (td:=td) (tb:=tb) (env0:=env) Τ af
  (λi o Α I U=>by
   rcases(gP i o Α).1 with⟨a,_⟩|⟨_,a,_⟩|⟨_,_,a,_⟩
   ·rw[I] at a;cases a
   ·rw[U] at a;cases a
   ·exact a)
  (λi o Α I=>by
   rcases(gP i o Α).1 with⟨_,b,a,_⟩|⟨a,_⟩|⟨a,_⟩
   ·exact⟨a,b⟩
   ·rw[I] at a;cases a
   ·rw[I] at a;cases a)
  (λi o Α I=>by
   rcases(gP i o Α).1 with⟨_,a,_⟩|⟨_,_,a,_⟩|⟨_,a,_⟩
   ·rw[I] at a;cases a
   ·exact a
   ·rw[I] at a;cases a)
  (λi o Α hw=>by
   rcases(gP i o Α).1 with⟨a,_⟩|⟨_,_,_,a,_⟩|⟨_,_,_,a,_⟩
   ·unfold writer at hw;rw[a,Α] at hw;simp[(gP i o Α).2 a] at hw
   ·exact a
   ·exact a)
  (λi o Α hw=>by
   rcases(gP i o Α).1 with⟨_,_,_,a⟩|⟨_,b,_,_,a⟩|⟨_,_,_,_,a⟩
   ·exact a
   ·refine a ?_;unfold writer at hw;rw[b,Α] at hw;simpa using hw
   ·exact a)
  (.bI iq) ops.size n (Array.replicate ops.size false) env 0 0 θ (λi=>?_) (λi o Α υ=>?_) (Nat.zero_le _) (Nat.zero_le _) (λj δ _=>?_) (λj δ _=>?_) ?_
 ·rw[aZ,cA] at key;rw[sU];simp only[Region.schedule,Bool.true_or,if_true,Region.linearise];exact key Q mn x cs b S B H t γ hb ψ Θ he
 ·have:∀n,dd ops env as9 (λi=>(Array.replicate ops.size false).getD i false) n=env:=by
   intro n
   induction n with
   | zero=>rfl
   | succ n Β=>
    simp only[dd];rw[if_neg (by rw[FF n];simp)];exact Β
  rw[this]
 ·rw[FF] at υ;cases υ
 ·rw[FF];simp
 ·rw[FF];simp
 ·have:=List.length_filter_le (λi=>!(Array.replicate ops.size false).getD i false) (List.range ops.size);simpa using this
theorem eε {K K':aa->List Row->Prop} (ζ:∀e s,K e s->K' e s):∀(is:List Nat) (env:aa) (r:Row) (τ:List Row) (td tb:List Bool),iB P T A nt ops is env r τ td tb K->iB P T A nt ops is env r τ td tb K':=by
 intro is
 induction is with
 | nil=>intro env r τ td tb h;exact⟨h.1,h.2.1,ζ _ _ h.2.2⟩
 | cons i is Β=>
  intro env r τ td tb h;unfold iB gY at h ⊢;cases Α:ops[i]? with
  | none=>rw[Α] at h;exact h.elim
  | some o=>
   rw[Α] at h;simp only at h ⊢;refine⟨h.1,?_⟩
   replace h:=h.2
   cases hw:fK env ops o with
   | none=>rw[hw] at h;exact h.elim
   | some w=>
    rw[hw] at h;unfold jR at h ⊢;refine⟨λe=>Β _ _ _ _ _ (h.1 e),λe=>?_⟩
    replace h:=h.2 e
    unfold Bs at h ⊢;split
    ·rename_i f args ea Ξ;rw[Ξ] at h;simp only at h;rcases h with⟨a,ε,h⟩|⟨a,r',ε,h⟩
     ·exact .inl ⟨a,ε,Β _ _ _ _ _ h⟩
     ·exact .inr ⟨a,r',ε,Β _ _ _ _ _ h⟩
    ·rename_i Ξ;rw[Ξ] at h;exact h
    ·rename_i Ξ;rw[Ξ] at h;exact h
    ·rename_i I U ξ;split at h
     ·rename_i f args ea Ξ;exact absurd Ξ (I f args ea)
     ·rename_i y Ξ;exact absurd Ξ (U y)
     ·rename_i y Ξ;exact absurd Ξ (ξ y)
     ·unfold cF.gD at h ⊢;split at h
      ·exact Β _ _ _ _ _ h
      ·exact⟨h.1,Β _ _ _ _ _ h.2⟩
      ·exact h.elim
      ·obtain⟨a,eU,hu,ς⟩:=h;exact⟨a,eU,hu,Β _ _ _ _ _ ς⟩
theorem W.Rb (Ι:bV P T) (sU:P.follows .mixedOrders=true) (hg:aa) (gE:List Row) {r:Row} {τ:List Row} {id:Nat} (h:W P m nt k hg gE Z E) (κ:iB P T A nt ops (idx ops.size []) env r τ [] [] (λe s=>s=gE/\∀p∈hg,a6 e p.1=p.2)):W P m nt (.code (.region id ops true)::k) env (r::τ) Z E:=
 W.Kc Ι sU λΕ ζ=>eε (λe s ⟨I,U⟩=>ζ e s (I▸W.forget hg U h)) _ _ _ _ _ _ κ
theorem W.Kd (Ι:bV P T) (sU:P.follows .mixedOrders=true) (hg:aa) (gE:List Row) {id:Nat} (h:W P m nt k hg gE Z E) (κ:jl P T A nt ops (idx ops.size []) env σ [] (λe s=>s=gE/\∀p∈hg,a6 e p.1=p.2)):W P m nt (.code (.region id ops true)::k) env σ Z E:=
 W.draw Ι sU λΕ ζ=>Og (λe s ⟨I,U⟩=>ζ e s (I▸W.forget hg U h)) _ _ _ _ κ
end
end Go.TL
namespace Go.TL
open Go.Proofs
variable [bt]
attribute [congr] dΤ
attribute [simp] dΥ dΦ dΨ dΩ eα eβ
def ef (g:FuncId) (args:List η) (d:cB) (r:η) (dP:cB):Prop:=ao Tryz.prog g (.an 0 1 0 0::args) [b1 d] (λa s=>cW a r/\s=[b1 dP]) (λ_ _=>False)
theorem Rc {l:List η} (h:∀a∈l,ay 0 a) (ρ:List Nat):l.map (ed ρ)=l:=by
 induction l with
 | nil=>rfl
 | cons a l Β=>rw[List.map_cons,(h a θ).ed,Β λx γ=>h x (by simp[γ])]
theorem ef.c {g:FuncId} {args gw:List η} {d dP:cB} {r:η} {σ:List Row} {K E:η->List Row->Prop} (h:ef g args d r dP) (id:Nat) (b0:σ[id]?=some (b1 d)) (he:bS gw args) (μ:∀a∈gw,ay 0 a) (κ:ay 0 r) (ζ:K r (σ.set id (b1 dP))):hE Tryz.prog (.fn (.func g) [] []) (.an id 1 0 0::gw) σ K E:=by
 refine ao.one (as0:=.an 0 1 0 0::gw) (r:=r) (row':=b1 dP) (ao.nD h (.cons (.refl _) he) λa s ⟨I,U⟩=>⟨r,I,rfl,U⟩) id b0 (pH d) (pH dP) ?_ (κ.iU 1) ?_ ?_
 ·intro a hm;rcases List.mem_cons.1 hm with rfl|hm
  ·exact Nat.zero_lt_one
  ·exact(μ a hm).iU 1
 ·rw[List.map_cons,Rc μ];rfl
 ·rw[κ.ed];exact ζ
theorem ef.e {g:FuncId} {args gw:List η} {d dP:cB} {r:η} {gZ:η->Prop} {m8:η->Row->Prop} (h:ef g args d r dP) (he:bS gw args) (μ:∀a∈gw,ay 0 a) (κ:ay 0 r) (ζ:m8 r (b1 dP)):Br Tryz.prog (.fn (.func g) [] []) (.an 0 1 0 0::gw) (b1 d) gZ m8:=
 dΧ (λτ=>h.c 0 rfl he μ κ ⟨rfl,rfl⟩) ζ
theorem ef.g {g:FuncId} {args:List η} {d dP:cB} {r:η} {σ:List Row} {K E:η->List Row->Prop} (h:ef g args d r dP) (ζ:K r ((b1 d::σ).set 0 (b1 dP))) (μ:∀a∈args,ay 0 a:=by simp) (κ:ay 0 r:=by simp):hE Tryz.prog (.fn (.func g) [] []) (.an 0 1 0 0::args) (b1 d::σ) K E:=h.c 0 rfl (bS.refl _) μ κ ζ
theorem ef.h {g:FuncId} {args:List η} {d dP:cB} {r:η} {gZ:η->Prop} {m8:η->Row->Prop} (h:ef g args d r dP) (ζ:m8 r (b1 dP)) (μ:∀a∈args,ay 0 a:=by simp) (κ:ay 0 r:=by simp):Br Tryz.prog (.fn (.func g) [] []) (.an 0 1 0 0::args) (b1 d) gZ m8:=h.e (bS.refl _) μ κ ζ
theorem yK {p q:Prop} (k:q) (h:q->p:=by intro k;simp;(repeat (rw[pJ];simp));(try rw[pI]);exact k):p:=h k
@[simp] theorem lB (d:cB) (n:Int):(d.after n).bg.length<=d.bg.length:=by
 unfold cB.after;split
 ·exact Nat.le_refl _
 ·simp[cB.next]
theorem wT (d:cB) (hd:d.bg.length<2 ^ 63) (n:Int):ef 24 [J n] d (J (iA d n)) (d.after n):=(J' d hd n).mono (λa s ⟨I,U⟩=>⟨.of I,U⟩) (λ_ _ h=>h)
theorem yL (d:cB) (hd:d.bg.length<2 ^ 63) (a b:Int):ef 38 [J a,J b] d (J (nO d a b)) (d.after (IntKind.i64.wrap (b-a))):=(dΖ d hd a b).mono (λa s ⟨I,U⟩=>⟨.of I,U⟩) (λ_ _ h=>h)
theorem Re (d:cB) (hd:d.bg.length<2 ^ 63) (l:List Int) (ai:0<l.length) (υ:l.length<1000000):ef 61 [a2 J 1 l] d (J (l.getD (tq d l) 0)) (d.after ((l.length:Int)-1)):=(dΙ d hd l ai υ).mono (λa s ⟨I,U⟩=>⟨.of I,U⟩) (λ_ _ h=>h)
def wU (d:cB) (n:Int):Bool:=decide (iA d (n-1)=n.tdiv 2)
theorem Ke (d:cB) (hd:d.bg.length<2 ^ 63) (n:Int) (I:1<=n) (U:n<1000):ef 156 [J n] d (bm (wU d n)) (d.after (n-1)):=by
 have hw:IntKind.i64.wrap (n-1)=n-1:=IntWalk.i64_in _ R;unfold ef;refine ao.body Φ Tryz.func156 rfl rfl Tryz.ntmps156 rfl rfl θ ?_;refine Ζ ?_;refine h5 hw λΕ ζ=>?_;refine ef.g (wT d hd (n-1)) (gQ hw ?_);apply ζ;have Ν:IntKind.i64.wrap (n.tdiv 2)=n.tdiv 2:=by
  rw[Int.tdiv_eq_ediv_of_nonneg R];exact IntWalk.i64_in _ R
 rw[Ν];exact W.ret ⟨_,rfl,.refl _,rfl⟩
def pK (l:List Int) (k:Nat) (x:Int):List Int:=l.take k++x::l.drop k
def hk (d:cB):Nat->List Int×cB
 | 0=>([],d)
 | i+1=>(pK (hk d i).1 (iA (hk d i).2 i).toNat i,(hk d i).2.after i)
theorem Kf (d:cB) (n:Nat):(hk d n).2.bg.length<=d.bg.length:=by
 induction n with
 | zero=>exact Nat.le_refl _
 | succ n Β=>exact Nat.le_trans (lB _ _) Β
theorem Kg {l:List Int} {k:Nat} {x:Int}:(pK l k x).length=l.length+1:=by
 unfold pK;simp;omega
theorem Kh (d:cB) (n:Nat):(hk d n).1.length=n:=by
 induction n with
 | zero=>rfl
 | succ n Β=>show(pK _ _ _).length=_;rw[Kg,Β]
def jx (l:List Int) (k:Nat):List Int:=(l++[0]).take (k+1)++l.drop k
theorem eζ (l:List Int):jx l l.length=l++[0]:=by unfold jx;rw[List.take_of_length_le θ];simp
theorem Rf {l:List Int} {k:Nat} (h:k<=l.length):(jx l k).length=l.length+1:=by
 unfold jx;simp;omega
theorem eη {l:List Int} {k:Nat} (h:k<l.length):(jx l (k+1))[k]?=some l[k]:=by
 unfold jx;rw[dE (by simp;omega),List.getElem?_take_of_lt R,dE h,a5 h]
theorem eθ {l:List Int} {k:Nat} (h:k<l.length):(jx l (k+1)).set (k+1) l[k]=jx l k:=by
 unfold jx;have Δ:((l++[0]).take (k+1+1))=(l++[0]).take (k+1)++[(l++[0])[k+1]'(by simp;omega)]:=List.take_succ_eq_append_getElem (by simp;omega);have Γ:l.drop k=l[k]::l.drop (k+1):=List.drop_eq_getElem_cons h;rw[Δ,Γ,List.append_assoc,List.set_append_right _ _ (by simp;omega)];congr 1;have:k+1-((l++[0]).take (k+1)).length=0:=by simp;omega
 rw[this];rfl
theorem eι {l:List Int} {k:Nat} {x:Int} (h:k<=l.length):(jx l k).set k x=pK l k x:=by
 unfold jx pK;have Δ:((l++[0]).take (k+1))=l.take k++[(l++[0])[k]'(by simp;omega)]:=by
  rw[List.take_succ_eq_append_getElem (by simp;omega),List.take_append_of_le_length h]
 rw[Δ,List.append_assoc,List.set_append_right _ _ (by rw[List.length_take];omega)];have:k-(l.take k).length=0:=by rw[List.length_take];omega
 rw[this];rfl
theorem Rg (d:cB) (hd:d.bg.length<2 ^ 63) (n:Nat) (Η:n<1000):ef 63 [J n] d (a2 J 1 (hk d n).1) (hk d n).2:=by
 unfold ef;refine ao.body Φ Tryz.func63 rfl rfl Tryz.ntmps63 rfl rfl θ ?_;refine Ζ ?_;refine W.iter (λi:Nat=>i<=n) (λi=>[(0,.an 0 1 0 0),(1,J n),(5,cy 1 ((hk d i).1.map J)),(6,J i)]) (λi=>b1 (hk d i).2::bh 3 1 ((hk d i).1.map J)) (λi=>n-i) 0 (Nat.zero_le _) rfl (by simp[cy,hk]) (λi hi Β=>?_);refine Ζ ?_;refine W.eM rfl (λε=>?_) (λε=>?_)
 ·have ε:i<n:=by simpa using ε
  have dO:hk d (i+1)=(pK (hk d i).1 (iA (hk d i).2 i).toNat i,(hk d i).2.after i):=rfl;obtain⟨L,aG⟩:=aF ((hk d i).1);obtain⟨D,dZ⟩:=aF ((hk d i).2);have mW:L.length=i:=by rw[aG];exact Kh d i
  have m9:D.bg.length<2 ^ 63:=by rw[dZ];exact Nat.lt_of_le_of_lt (Kf d i) hd
  rw[<-aG,<-dZ] at dO;rw[<-aG,<-dZ];obtain⟨t0,t1⟩:=uZ D i R R;obtain⟨eJ,lC⟩:∃k:Nat,iA D i=k:=⟨(iA D i).toNat,R⟩;rw[lC] at dO t1;have eκ:eJ<=i:=R;refine bN λΕ ζ=>?_;refine ef.g (wT D m9 i) (bT ?_);rw[lC];apply ζ
  repeat apply ar
  refine W.fA (A:=[19]) Φ [(0,.an 0 1 0 0),(1,J n),(5,.ms 1 (i+1) 0 (i+1)),(6,J i),(7,J eJ)] [b1 (D.after i),.cells 3 1 ((jx L i).map J)] ?_ (by
    have Ι:(jx L i).map J=L.map J++[J 0]:=by rw[<-mW,eζ];simp
    rw[Ι];by_cases Θ:L=[]
    ·subst Θ;have j6:i=0:=by simpa using mW.symm
     subst j6;(try simp);(repeat (rw[Υ];simp[iW,show cy 1 []=.sl true 0 [] from rfl]));(try simp[iW,show cy 1 []=.sl true 0 [] from rfl])
    ·have gy:L.map J≠[]:=by simpa using Θ
     (try simp);(repeat (rw[Υ];simp[gH gy,ee gy,mW]));(try simp[gH gy,ee gy,mW]);omega)
  refine Ζ ?_;refine W.iter (λk:Nat=>eJ<=k/\k<=i) (λk=>[(0,.an 0 1 0 0),(1,J n),(5,.ms 1 (i+1) 0 (i+1)),(6,J i),(7,J eJ),(8,J k)]) (λk=>[b1 (D.after i),.cells 3 1 ((jx L k).map J)]) (λk=>k) i ⟨eκ,Nat.le_refl _⟩ rfl θ (λk ς xB=>?_);refine Ζ ?_;refine W.eM rfl (λa8=>?_) (λa8=>?_)
  ·have j8:eJ<k:=by simpa using a8
   obtain⟨j,Rh⟩:∃j,k=j+1:=⟨k-1,R⟩;have hF:j<L.length:=R;have hw:IntKind.i64.wrap ((k:Int)-1)=j:=by rw[IntWalk.i64_in _ R];omega
   have uG:(jx L k).length=i+1:=by rw[Rf R,mW]
   obtain⟨y,Ο⟩:∃y,(jx L k)[k]?=some y:=⟨_,a5 R⟩;obtain⟨ah,bc⟩:=aF ((jx L k).map J);have wV:ah.length=i+1:=by rw[bc,List.length_map,uG]
   have tr:ah[j]?=some (J L[j]):=by rw[bc,List.getElem?_map,Rh,eη hF];rfl
   have wW:ah[k]?=some (J y):=by rw[bc,List.getElem?_map,Ο];rfl
   have Ki:ah.set k (J L[j])=(jx L j).map J:=by rw[bc,<-eθ hF,List.map_set,Rh]
   have eμ:∀h,ah[j]'h=J L[j]:=λh=>by rw[a5 h] at tr;exact Option.some.inj tr
   have Kj:∀h,ah[k]'h=J y:=λh=>by rw[a5 h] at wW;exact Option.some.inj wW
   refine W.to (σ':=[b1 (D.after i),.cells 3 1 ah]) (env':=[(0,.an 0 1 0 0),(1,J n),(5,.ms 1 (i+1) 0 (i+1)),(6,J i),(7,J eJ),(8,J k)]) ?_ (by rw[bc]) θ;refine h5 (Μ hw (Μ wV (Μ tr (Μ wW (Μ eμ Kj))))) λΕ ζ=>?_;refine⟨R,R,?_⟩;apply ζ;refine aR hw ?_;refine W.to (xB j ⟨R,R⟩ R) ?_ ?_
   ·rw[Ki]
   ·simp
  ·have j8:k=eJ:=by simp at a8;omega
   subst j8;refine W.exit rfl ?_;have uG:(jx L k).length=i+1:=by rw[Rf R,mW]
   obtain⟨y,Ο⟩:∃y,(jx L k)[k]?=some y:=⟨_,a5 R⟩;obtain⟨ah,bc⟩:=aF ((jx L k).map J);have wV:ah.length=i+1:=by rw[bc,List.length_map,uG]
   have wW:ah[k]?=some (J y):=by rw[bc,List.getElem?_map,Ο];rfl
   have Ki:ah.set k (J i)=(pK L k i).map J:=by rw[bc,<-eι R,List.map_set]
   have Kj:∀h,ah[k]'h=J y:=λh=>by rw[a5 h] at wW;exact Option.some.inj wW
   refine W.to (σ':=[b1 (D.after i),.cells 3 1 ah]) (env':=[(0,.an 0 1 0 0),(1,J n),(5,.ms 1 (i+1) 0 (i+1)),(6,J i),(7,J k)]) ?_ (by rw[bc]) θ;refine h5 (Μ wV (Μ wW Kj)) λΕ ζ=>?_;refine⟨R,?_⟩;apply ζ;have hw:=fz ε (show n<2 ^ 62 by omega);refine aR hw ?_;have gy:(pK L k i).map J≠[]:=λh=>by have:=congrArg List.length h;rw[List.length_map,Kg] at this;simp at this
   refine W.to (Β (i+1) ε R) ?_ ?_
   ·rw[dO,Ki,ee (by simpa using gy)];rfl
   ·rw[dO];simp only[Int.toNat_natCast];rw[gH gy];simp[hw,Kg,mW]
 ·have ε:i=n:=by simp at ε;omega
  subst ε;refine W.exit rfl ?_;refine Ζ ?_;refine W.cut 1 θ [(4,fM 1 ((hk d i).1.map J))] θ (λid r b0 κ=>?_) ?_ ?_
  ·have:id=0:=by omega
   subst this;simp at κ;subst κ;exact λe he a μ=>by simp[η.cells] at he;subst he;simp[η.cells] at μ;rcases μ with rfl|rfl<;>simp[hh,η.cells]
  ·intro p ψ;simp at ψ;subst ψ;show eD 1 _ (a6 _ 4) _;simp;refine AG (t:=3) (Nat.le_refl _) (λυ=>by rw[ee υ];rfl) (λe he a μ=>?_);obtain⟨x,_,rfl⟩:=List.mem_map.1 he;simp[η.cells] at μ;subst μ;exact .z _
  ·exact W.ret ⟨_,rfl,.acc,rfl⟩
theorem u2 (d:cB) (h:Nat):eW h (b1 d):=λe he a μ=>by
 simp[η.cells] at he;subst he;simp[η.cells] at μ;rcases μ with rfl|rfl<;>simp[hh,η.cells]
section
variable {P:Program} {m nt:Nat} {k:List Item} {env:aa} {Z:List Item->aa->List Row->Prop} {E:η->aa->List Row->Prop}
theorem W.eν {d:cB} {t kk:Nat} {l:List η} {x:Nat} (hm:m<=1) (hb:∀e∈l,∀a∈e.cells,ay 0 a) (env':aa) (hd:a6 env x=cy 1 l) (cK:∀p∈env',a6 env p.1=p.2/\ay 1 p.2) (hW:W P m nt k ((x,fM kk l)::env') [b1 d] Z E):W P m nt k env (b1 d::bh t kk l) Z E:=
 W.cut 1 hm ((x,fM kk l)::env') θ (λid r b0 κ=>by
  have:id=0:=R;subst this;simp at κ;subst κ;exact u2 d 1) (λp ψ=>by
  rcases List.mem_cons.1 ψ with rfl|ψ
  ·show eD 1 _ (a6 env x) _;rw[hd];exact AG (t:=t) (Nat.le_refl _) (λυ=>by rw[ee υ];rfl) (λe he a μ=>(hb e he a μ).mono (Nat.zero_le _))
  ·rw[(cK p ψ).1];exact .low (cK p ψ).2) (by simpa using hW)
end
theorem eξ {i n:Nat} (h:i<n) (Η:n<1000):IntKind.i64.wrap ((i:Int)+1)=((i+1:Nat):Int):=by
 rw[IntWalk.i64_in _ R];omega
def h8 (d:cB):Nat->List Int×cB
 | 0=>([],d)
 | i+1=>((h8 d i).1++(if wU (h8 d i).2 2 then [(i:Int)] else []),(h8 d i).2.after 1)
theorem Ri (d:cB) (n:Nat):(h8 d n).2.bg.length<=d.bg.length:=by
 induction n with
 | zero=>exact Nat.le_refl _
 | succ n Β=>exact Nat.le_trans (lB _ _) Β
theorem Rj (d:cB) (n:Nat):(h8 d n).1.length<=n:=by
 induction n with
 | zero=>exact Nat.le_refl _
 | succ n Β=>
  show((h8 d n).1++_).length<=_;rw[List.length_append];split<;>simp<;>omega
theorem eο (d:cB) (hd:d.bg.length<2 ^ 63):ef 156 [J 2] d (bm (wU d 2)) (d.after 1):=Ke d hd 2 bD bD
theorem eπ (d:cB) (hd:d.bg.length<2 ^ 63):ef 129 [] d (a2 J 1 (h8 d 3).1) (h8 d 3).2:=by
 unfold ef;obtain⟨n,Η⟩:=aF 3;rw[<-Η];refine ao.body Φ Tryz.func129 rfl rfl Tryz.ntmps129 rfl rfl θ ?_;refine Ζ ?_;refine W.iter (λi:Nat=>i<=n) (λi=>[(0,.an 0 1 0 0),(3,cy 1 ((h8 d i).1.map J)),(4,J i)]) (λi=>b1 (h8 d i).2::bh 3 1 ((h8 d i).1.map J)) (λi=>n-i) 0 (Nat.zero_le _) rfl (by simp[cy,h8]) (λi hi Β=>?_);refine Ζ ?_;refine W.eM rfl (λε=>?_) (λε=>?_)
 ·have ε:i<n:=by simp at ε;omega
  have dO:h8 d (i+1)=((h8 d i).1++(if wU (h8 d i).2 2 then [(i:Int)] else []),(h8 d i).2.after 1):=rfl
  have mW:=Rj d i;obtain⟨L,aG⟩:=aF ((h8 d i).1);obtain⟨D,dZ⟩:=aF ((h8 d i).2);have m9:D.bg.length<2 ^ 63:=by rw[dZ];exact Nat.lt_of_le_of_lt (Ri d i) hd
  rw[<-aG,<-dZ] at dO;rw[<-aG] at mW;rw[<-aG,<-dZ];have hw:=eξ ε R;refine bN λΕ ζ=>?_;refine ef.g (eο D m9) (bT ?_);apply ζ;cases hb:wU D 2
  ·refine aj rfl ?_;refine aR hw ?_;refine W.to (Β (i+1) ε R) ?_ ?_
   ·rw[dO,hb];simp
   ·rw[dO,hb];simp[hw]
  ·refine al rfl ?_
   repeat apply ar
   refine W.fA (A:=[14]) Φ [(0,.an 0 1 0 0),(3,cy 1 ((L++[(i:Int)]).map J)),(4,J i)] (b1 (D.after 1)::bh 3 1 ((L++[(i:Int)]).map J)) ?_ (by
    rw[List.map_append,List.map_cons,List.map_nil,s6,gH (l:=L.map J++[J i]) θ];by_cases Θ:L=[]
    ·subst Θ;(try simp);(repeat (rw[Υ];simp[iW,show cy 1 []=.sl true 0 [] from rfl]));(try simp[iW,show cy 1 []=.sl true 0 [] from rfl])
    ·have gy:L.map J≠[]:=by simpa using Θ
     (try simp);(repeat (rw[Υ];simp[gH gy,ee gy]));(try simp[gH gy,ee gy]);omega)
   refine aR hw ?_;refine W.to (Β (i+1) ε R) ?_ ?_
   ·rw[dO,hb];simp
   ·rw[dO,hb];simp[hw]
 ·have ε:i=n:=by simp at ε;omega
  subst ε;refine W.exit rfl ?_;refine Ζ ?_;refine W.eν (x:=2) θ (λe he a μ=>?_) [] θ θ ?_
  ·obtain⟨x,_,rfl⟩:=List.mem_map.1 he;simp[η.cells] at μ;subst μ;exact .z _
  ·exact W.ret ⟨_,rfl,.acc,rfl⟩
end Go.TL
namespace Go.TL
open Go.Conc Go.Proofs
theorem Kk:@Seq oD calm:=@Seq.mk oD calm rfl (λ_ h=>h.rel) (λ_ h=>h.aK)
theorem eρ (w:World):Calm (aX.start w):=⟨rfl,rfl,rfl,λ_=>trivial⟩
def qM (w:World):aH:=λb o=>((χ.lS w).aL b o).map (·.1)
theorem eς (w:World):Holds (qM w) [] [] (χ.lS w):=
 ⟨λb o v h=>by
  unfold qM at h;cases ε:(χ.lS w).aL b o with
  | none=>rw[ε] at h;cases h
  | some x=>rw[ε] at h;cases h;exact⟨x.2,rfl⟩,rfl,λid r bo h=>by simp at h,λi j et cg b gN gO _ h=>by simp at h,λid r b N h=>by simp at h⟩
theorem eτ {P:Program} {f:FuncId} {fn:Func} {body:Code} {d:Nat} (bY:P.funcs[f]?=some fn) (nz:fn.body=some body) (e5:fn.results=#[.tmp d]) (bq:P.inits.idxOf? f=none) {w:World} {l:List η} {args:Array Value} (κ:fJ (qM w) [] [] l args) (Η:l.length<=fn.ntmps)
  (hW:@W oD P 0 fn.ntmps [.code body] (entry 0 l) [] (λj env _=>(∃k,j=.code .ret::k)/\a6 env d=bm true) (λ_ _ _=>False)):Comes P (λv=>v=.bool true) w (solo (Go.Conc.G (Frame.enter P f args .normal) []) w) #[]:=by
 letI:bt:=oD;refine Goes.comes ?_;show cw P _ true (aX.start w) (Frame.enter P f args .normal) [] (χ.lS w);rw[qp bY nz];refine hW (λv=>v=.bool true) true calm [] (Frame.enter P f args .normal) (qM w) [] (χ.lS w) _ Kk rfl (fI.enter (eς w) κ (Nat.le_refl _) Η) (λj env' σ' aA B' H' t' ae Θ μ ψ υ=>?_) (λa env' σ' aA B' H' t' ae v he=>he.elim) (aX.start w) (eρ w);obtain⟨⟨k,δ⟩,hd⟩:=Θ;have e:ae=j:=υ;subst e;subst δ;refine aO.ret Kk rfl rfl (aO.done (v:=.bool true) Kk (λy h=>h.shut) (λy h=>h.deaf) rfl rfl rfl bY bq ?_ rfl);have hv:t'.getD d undef=.bool true:=by
  have:=ψ.cx d;rw[hd] at this;generalize t'.getD d undef=u at this;cases this;rfl
 show results fn t'=_;unfold results;rw[e5];rw[Array.getD_eq_getD_getElem?] at hv;simp[hv]
end Go.TL
namespace Go.TL
open Go.Conc Go.ConcM Go.Proofs
open Go.ChangeShapes Go.WideShapes Go.ChangeAt Go.RowKit
theorem eυ:ownKnob Tryz.prog.godebug=none:=by kernel_rfl
theorem fD.below {W w:World} (h:fD (λ_ _=>False) (λ_=>False) W w):Below W.heap.size W {w with os:=W.os}:=by
 refine⟨rfl,h.tape,h.output,h.size,λk ς=>?_⟩;show w.heap[k]?=W.heap[k]?;have e:=fh ς;cases ε:Obj.se W.heap[k] with
 | false=>rw[e];exact h.nd k _ e ε id
 | true=>
  cases γ:W.heap[k] with
  | cells c t dQ=>
   rw[γ] at e;obtain⟨c',I,U,ξ⟩:=h.cells k c t dQ e;have:c'=c:=by
    apply Array.ext' ;apply List.ext_getElem?;intro o;have:=ξ o id;simpa using this
   rw[e,I,this]
  | _=>rw[γ] at ε;simp[Obj.se] at ε
theorem eφ:laidOutB Tryz.prog=true:=by kernel_rfl
theorem eχ:Tryz.prog.cellsOf 3=1:=by kernel_rfl
theorem eψ {W:World} {b o:Nat} {v:Value} (h:W.cell? ⟨b,o,none⟩=some v):qM W b o=some v:=by
 unfold World.cell? at h;unfold qM χ.lS;simp only at h ⊢;split at h
 ·rename_i c t dQ ε;rw[ε];simp at h ⊢;exact h
 ·cases h
theorem eω {W:World} {a:Addr} {len cap:Nat} {gh:List Int} (υ:len<=cap) (Θ:len<=gh.length) (ε:∀i,i<gh.length->W.cell? (a.add i)=some (.int .i64 (gh.getD i 0))) :
  av (qM W) [] [] (a2 J 1 (gh.take len)) (.slice (some a) len cap):=by
 by_cases ai:len=0
 ·subst ai;exact .iK _ _ θ
 ·have ν:a.spot=none:=by
   have:=ε 0 R;unfold World.cell? Addr.add at this;rw[if_pos rfl] at this;cases b2:a.spot with
   | none=>rfl
   | some x=>
    rw[b2] at this;simp at this;split at this<;>simp at this
  obtain⟨b,o,sp⟩:=a;simp only at ν;subst ν;have hlen:(gh.take len).length=len:=by rw[List.length_take];omega
  have one:∀(i:Nat) (e:η),((gh.take len).map J)[i]?=some e->i<len/\e=J (gh.getD i 0):=λi e hi=>by
   have iM:i<len:=by have:=(cf.1 hi).1;rw[List.length_map,hlen] at this;exact this
   rw[List.getElem?_map,List.getElem?_take_of_lt iM,a5 R] at hi;refine⟨iM,?_⟩;rw[List.getD_eq_getElem?_getD,a5 R];simpa using hi.symm
  have:=av.sl (S:=qM W) (B:=[]) (σ:=[]) (ex:=false) (k:=1) (l:=(gh.take len).map J) b o cap (λi _=>.int .i64 (gh.getD i 0)) θ (by rw[List.length_map,hlen];exact υ)
   (λi e hi=>by rw[(one i e hi).2];rfl) (λi e hi j c δ=>by
    obtain⟨I,rfl⟩:=one i e hi
    match j with
    | 0=>
     refine eψ ?_;have:=ε i R;unfold Addr.add at this;rw[Nat.mul_one,Nat.add_zero];split at this
     ·rename_i cD;subst cD;exact this
     ·exact this
    | j+1=>simp[η.cells] at δ) (λi e hi j c δ=>by
    obtain⟨I,rfl⟩:=one i e hi
    match j with
    | 0=>simp[η.cells] at δ;subst δ;exact .z _
    | j+1=>simp[η.cells] at δ)
  rw[List.length_map,hlen] at this;exact this
end Go.TL
namespace Go.TL
open Go.Proofs
variable [bt]
theorem yM (d:cB) {a b:Int} (h:a<=b) (μ:-1000<a) (hb:b<1000):a<=nO d a b/\nO d a b<=b:=by
 unfold nO;rw[IntWalk.i64_in (b-a) R];obtain⟨t0,t1⟩:=uZ d (b-a) R R;generalize iA d (b-a)=x at t0 t1;rw[IntWalk.i64_in (a+x) R];omega
theorem eΑ (l:List Int) (k:Nat) (x:Int):(pK l k x).Perm (x::l):=by
 unfold pK;have h:(l.take k++x::l.drop k).Perm (x::(l.take k++l.drop k)):=List.perm_middle
 rwa [List.take_append_drop] at h
theorem Rk (d:cB) (n:Nat):(hk d n).1.Perm ((List.range n).map λ(i:Nat)=>(i:Int)):=by
 induction n with
 | zero=>exact .refl _
 | succ n Β=>
  show(pK _ _ _).Perm _;refine(eΑ _ _ _).trans ?_;rw[List.range_succ,List.map_append];refine(List.Perm.cons _ Β).trans ?_;exact(List.perm_append_singleton _ _).symm
theorem Rl {d:cB} {n:Nat} {x:Int} (h:x∈(hk d n).1):0<=x/\x<n:=by
 have:=(Rk d n).mem_iff.1 h;obtain⟨i,hi,rfl⟩:=List.mem_map.1 this;have:=List.mem_range.1 hi;omega
theorem Rm (d:cB) (n:Nat):(hk d n).1.Nodup:=by
 refine(Rk d n).nodup_iff.2 ?_;unfold List.Nodup;rw[List.pairwise_map];exact List.nodup_range.imp λh e=>h R
structure pL (l:List l6):Prop where
 lo:1<=l.length
 hi:l.length<=6
 each:∀g∈l,x8 g.name=false/\1<=g.eE/\g.eE<=63
 Rn:l.Pairwise λa b=>sF b.name a.name=false
 apart:l.Pairwise λa b=>a.eE≠b.eE
theorem Bu {l:List Int} (h:∀x∈l,x=0):iV l=0:=by
 induction l with
 | nil=>rfl
 | cons x l Β=>
  have:=h x θ;subst this;simp[iV];exact Β λy Ο=>h y (by simp[Ο])
theorem pL.err {l:List l6} (h:pL l):oo l=0:=by
 unfold oo;have I:=h.lo;have U:=h.hi;rw[if_neg R,if_neg R];refine Bu λx γ=>?_;obtain⟨i,hi,rfl⟩:=List.mem_map.1 γ;have hi:=List.mem_range.1 hi;unfold qn;rw[a5 hi];obtain⟨Δ,Γ,a0⟩:=h.each _ (List.getElem_mem hi);simp only;rw[if_neg (by rw[Δ];simp),if_neg,if_neg R,if_neg]
 ·intro μ;obtain⟨y,Ο,he⟩:=List.any_eq_true.1 μ;obtain⟨j,δ,rfl⟩:=List.mem_take_iff_getElem.1 Ο;have:=List.pairwise_iff_getElem.1 h.apart j i R hi R;simp at he;exact this he
 ·rintro⟨j6,ν⟩;rw[a5 R] at ν;have:=List.pairwise_iff_getElem.1 h.Rn (i-1) i R hi R;simp only[Option.map_some,Option.getD_some] at ν;rw[ν] at this;cases this
def nn (i:Nat):ByteArray:=⟨#[[97,98,99,100,111,122].getD i 0]⟩
def jy:List Int:=[4,9,6,12,48,8,3,16,5,10,20]
def kQ (ord:List Int) (last:Int) (i:Nat):l6:=⟨nn i,(jy++[last]).getD ((ord.getD i 0).toNat) 0⟩
structure Made (ord:List Int):Prop where
 len:ord.length=11
 mem:∀x∈ord,0<=x/\x<11
 nodup:ord.Nodup
theorem eΒ (d:cB):Made (hk d 11).1:=⟨Kh d 11,λ_ h=>Rl h,Rm d 11⟩
theorem Made.get {ord:List Int} (h:Made ord) {i:Nat} (hi:i<11):∃k:Nat,k<11/\ord[i]?=some (k:Int)/\∀last,(jy++[last])[k]?=some (jy.getD k 0)/\1<=jy.getD k 0/\jy.getD k 0<=63:=by
 have υ:=h.len
 have hm:=h.mem _ (List.getElem_mem (l:=ord) (n:=i) R);refine⟨(ord[i]).toNat,R,by rw[a5 R];congr 1;omega,λlast=>?_⟩;have ς:(ord[i]).toNat<11:=R;generalize (ord[i]).toNat=k at ς;rw[dE (by simpa[jy] using ς)];have:∀k<11,jy[k]?=some (jy.getD k 0)/\1<=jy.getD k 0/\jy.getD k 0<=63:=bD;exact this k ς
theorem eΓ:∀a<11,∀b<11,jy.getD a 0=jy.getD b 0->a=b:=bD
theorem eΔ:∀i<6,x8 (nn i)=false:=by decide +kernel
theorem eΕ:∀j<6,∀i<j,sF (nn j) (nn i)=false:=by decide +kernel
theorem FG {ord:List Int} (h:Made ord) (last:Int) {i:Nat} (hi:i<11):∃k:Nat,k<11/\ord[i]?=some (k:Int)/\(kQ ord last i).eE=jy.getD k 0/\1<=jy.getD k 0/\jy.getD k 0<=63:=by
 obtain⟨k,ς,Α,ν⟩:=h.get hi;obtain⟨I,U,ξ⟩:=ν last;refine⟨k,ς,Α,?_,U,ξ⟩;unfold kQ;rw[show ord.getD i 0=(k:Int) from by rw[List.getD_eq_getElem?_getD,Α];rfl,Int.toNat_natCast];show(jy++[last]).getD k 0=_;rw[List.getD_eq_getElem?_getD,I];rfl
theorem eΖ {ord:List Int} (h:Made ord) (last:Int) {i j:Nat} (hi:i<11) (δ:j<11) (e:(kQ ord last i).eE=(kQ ord last j).eE):i=j:=by
 obtain⟨a,μ,lh,eΗ,_⟩:=FG h last hi;obtain⟨b,hb,iJ,EJ,_⟩:=FG h last δ;rw[eΗ,EJ] at e;have:=eΓ a μ b hb e;subst this;have υ:=h.len;exact(List.getElem?_inj R h.nodup).1 (lh.trans iJ.symm)
theorem eΘ {ord:List Int} (h:Made ord) (last:Int) {aN:List Nat} (dp:aN.Pairwise (· < ·)) (bd:∀j∈aN,j<6) (I:1<=aN.length) (Η:aN.length<=6):pL (aN.map (kQ ord last)):=by
 refine⟨by simpa using I,by simpa using Η,λg Ρ=>?_,?_,?_⟩
 ·obtain⟨j,δ,rfl⟩:=List.mem_map.1 Ρ;have:=bd j δ;obtain⟨k,_,_,e,Δ,Γ⟩:=FG h last (i:=j) R;exact⟨eΔ j this,R,R⟩
 ·rw[List.pairwise_map];refine(List.pairwise_iff_forall_sublist.2 λ{a b} ν=>?_);have gU:=(List.pairwise_iff_forall_sublist.1 dp) ν;exact eΕ b (bd b (ν.subset θ)) a gU
 ·rw[List.pairwise_map];refine(List.pairwise_iff_forall_sublist.2 λ{a b} ν=>λe=>?_);have gU:=(List.pairwise_iff_forall_sublist.1 dp) ν;have μ:=bd a (ν.subset θ);have hb:=bd b (ν.subset θ);have:=eΖ h last R R e;omega
theorem pL.set {l:List l6} (h:pL l) {k:Nat} (ς:k<l.length) {x:Int} (I:1<=x) (U:x<=63) (Χ:∀g∈l,g.eE≠x):pL (l.set k ⟨l[k].name,x⟩):=by
 have get:∀(i:Nat) (hi:i<(l.set k ⟨l[k].name,x⟩).length),(l.set k ⟨l[k].name,x⟩)[i].name=(l[i]'(by simpa using hi)).name/\((l.set k ⟨l[k].name,x⟩)[i].eE=x/\i=k\/(l.set k ⟨l[k].name,x⟩)[i].eE=(l[i]'(by simpa using hi)).eE/\i≠k):=by
  intro i hi;rw[List.getElem_set];split
  ·rename_i e;subst e;exact⟨rfl,.inl ⟨rfl,rfl⟩⟩
  ·rename_i e;exact⟨rfl,.inr ⟨rfl,λh=>e h.symm⟩⟩
 refine⟨by simpa using h.lo,by simpa using h.hi,λg Ρ=>?_,?_,?_⟩
 ·obtain⟨i,hi,rfl⟩:=List.getElem_of_mem Ρ;obtain⟨Δ,Γ⟩:=get i hi;obtain⟨a,b,c⟩:=h.each _ (List.getElem_mem (l:=l) (n:=i) (by simpa using hi));rw[Δ];rcases Γ with⟨Γ,_⟩|⟨Γ,_⟩<;>rw[Γ]
  ·exact⟨a,I,U⟩
  ·exact⟨a,b,c⟩
 ·rw[List.pairwise_iff_getElem];intro i j hi δ fP;rw[(get i hi).1,(get j δ).1];exact List.pairwise_iff_getElem.1 h.Rn i j (by simpa using hi) (by simpa using δ) fP
 ·rw[List.pairwise_iff_getElem];intro i j hi δ fP;have ba:i<l.length:=by simpa using hi
  have bn:j<l.length:=by simpa using δ
  rcases(get i hi).2 with⟨Δ,Γ⟩|⟨Δ,Γ⟩<;>rcases(get j δ).2 with⟨a0,cG⟩|⟨a0,cG⟩<;>rw[Δ,a0]
  ·omega
  ·exact λe=>Χ _ (List.getElem_mem bn) e.symm
  ·exact λe=>Χ _ (List.getElem_mem ba) e
  ·exact List.pairwise_iff_getElem.1 h.apart i j ba bn fP
end Go.TL
