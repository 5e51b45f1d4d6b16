import Derived.Carry
import Derived.ChangeSlices
import Derived.Conc.HoldsTime
import Derived.OpenShut
import Derived.Test.YtlabjopijpkiaaaGreatVAF
import Derived.Test.YtlabjopijpkiaaaGreatVAK
import Derived.Test.YtlabjopijpkiaaaGreatVAS
import Derived.Test.YtlabjopijpkiaaaGreatVAY
import Derived.Test.YtlabjopijpkiaaaGreatRows
set_option maxHeartbeats 16000000
set_option maxRecDepth 20000
set_option linter.unusedSectionVars false
set_option linter.unusedSimpArgs false
set_option linter.unusedVariables false
namespace Go.TL
open Go.Conc
variable [bn]
section
variable {P:Program} {T:bb} {A:List Nat} {m nt:Nat} {k:List Item} {env:Ω} {σ:List Row} {Z:List Item->Ω->List Row->Prop} {E:θ->Ω->List Row->Prop} {ops:Array Oper}
def PI (P:Program) (m nt:Nat) (k:List Item) (Z:List Item->Ω->List Row->Prop) (E:θ->Ω->List Row->Prop) (ops:Array Oper) (i:Nat) (o:Oper) (env:Ω) (r:Row) (a:θ) (r2:Row):Prop:=
 ∀env' τ rest,oY ops o env env'->W P m nt (.inRegion ops rest::k) (cj o env' a) (r2::τ) Z E->W P m nt (.inRegion ops (i::rest)::k) env' (r::τ) Z E
def StepB (P:Program) (m nt:Nat) (k:List Item) (Z:List Item->Ω->List Row->Prop) (E:θ->Ω->List Row->Prop) (ops:Array Oper) (i:Nat) (o:Oper) (env:Ω) (τ:List Row) (a:θ) (bω:List Row):Prop:=
 ∀env' r rest,oY ops o env env'->W P m nt (.inRegion ops rest::k) (cj o env' a) (r::bω) Z E->W P m nt (.inRegion ops (i::rest)::k) env' (r::τ) Z E
theorem PJ {α:Type} {f:Nat->α} {tags:List Bool} (Dz:∀i o,ops[i]?=some o->writer ops tags i=false->f (i+1)=f i):∀a b,a<=ops.size->b<=ops.size->(∀j,j<ops.size->writer ops tags j=true->(j<a↔j<b))->f a=f b:=by
 have zY:∀(d a:Nat),a+d<=ops.size->(∀j,a<=j->j<a+d->writer ops tags j=false)->f (a+d)=f a:=by
  intro d
  induction d with
  | zero=>intro a _ _;rfl
  | succ d Β=>
   intro a hle h;have J:ops[a+d]?=some ops[a+d]:=fq R;have:=Dz (a+d) _ J (h (a+d) R R);rw[show a+(d+1)=a+d+1 by omega,this];exact Β a R λj J U=>h j J R
 intro a b κ hb h;rcases Nat.le_total a b with hle|hle
 ·have:=zY (b-a) a R λj J U=>by
   cases Ν:writer ops tags j with
   | false=>rfl
   | true=>have:=(h j R Ν).2 R;omega
  rw[show a+(b-a)=b by omega] at this;exact this.symm
 ·have:=zY (a-b) b R λj J U=>by
   cases Ν:writer ops tags j with
   | false=>rfl
   | true=>have:=(h j R Ν).1 R;omega
  rw[show b+(a-b)=a by omega] at this;exact this
theorem PK {tags:List Bool} (dY:lh ops tags=true):∀i o,ops[i]?=some o->(∀j∈hk o,j<i)/\∀j bY,j<i->ops[j]?=some bY->clash ops tags i j o bY=true->j∈(Dv ops).getD i []:=by
 intro i o ω;have hi:i<ops.size:=(Array.getElem?_eq_some_iff.1 ω).1;unfold lh at dY;simp only[List.all_eq_true,List.mem_range] at dY;have h:=dY i hi;rw[ω] at h;simp only[Bool.and_eq_true,List.all_eq_true,decide_eq_true_eq,List.mem_range] at h;refine⟨h.1,λj bY ε dz δ=>?_⟩;have U:=h.2 j ε;rw[dz] at U;simp only[δ,Bool.not_true,Bool.false_or,List.contains_iff_mem] at U;exact U
theorem PL {tags:List Bool}:∀j,writer ops tags j=true->tags.getD j false=true:=λj h=>by
 unfold writer at h;rw[Bool.and_eq_true] at h;exact h.1
theorem PM {tags:List Bool} {i:Nat} {nC:Oper} (nD:tags.getD i false=true):∀j bY,ops[j]?=some bY->writer ops tags j=true->clash ops tags i j nC bY=true/\clash ops tags j i bY nC=true:=λj bY dz Ν=>by
 have J:=PL j Ν;unfold writer at Ν;rw[J,dz] at Ν;have U:mN bY=false:=by simpa using Ν
 unfold clash;rw[J,nD,U];simp
theorem W.bΑ {as9:Nat->θ} {ρs:Nat->Row} {τs:Nat->List Row} {td tb:List Bool} {env0:Ω} (bΒ:lh ops td=true) (bΓ:lh ops tb=true)
  (cB:∀i o,ops[i]?=some o->td.getD i false=false->tb.getD i false=false->xL P m nt k Z E ops i o (di ops env0 as9 (λ_=>true) i) (as9 i))
  (et:∀i o,ops[i]?=some o->td.getD i false=true->PI P m nt k Z E ops i o (di ops env0 as9 (λ_=>true) i) (ρs i) (as9 i) (ρs (i+1))/\tb.getD i false=false)
  (fh:∀i o,ops[i]?=some o->tb.getD i false=true->StepB P m nt k Z E ops i o (di ops env0 as9 (λ_=>true) i) (τs i) (as9 i) (τs (i+1)))
  (bΔ:∀i o,ops[i]?=some o->writer ops td i=false->ρs (i+1)=ρs i) (bΕ:∀i o,ops[i]?=some o->writer ops tb i=false->τs (i+1)=τs i)
  (Hr:W P m nt (.inRegion ops []::k) (di ops env0 as9 (λ_=>true) ops.size) (ρs ops.size::τs ops.size) Z E) :
  ∀(fuel:Nat) (t:Nat) (listed:Array Bool) (env:Ω) (cC hg:Nat),listed.size=ops.size->
   (∀i,a9 env i=a9 (di ops env0 as9 (λi=>listed.getD i false) ops.size) i)->
   (∀i o,ops[i]?=some o->listed.getD i false=true->∀j∈hk o,listed.getD j false=true)->
   cC<=ops.size->hg<=ops.size->(∀j,j<ops.size->writer ops td j=true->(listed.getD j false=true↔j<cC))->(∀j,j<ops.size->writer ops tb j=true->(listed.getD j false=true↔j<hg))->
   ((List.range ops.size).filter λi=>!listed.getD i false).length<=fuel->
   W P m nt (.inRegion ops (Region.linearise.go .any ops fuel t listed [])::k) env (ρs cC::τs hg) Z E:=by
 have vQ:=PK bΒ
 have PN:=PK bΓ
 have sD:∀i o,ops[i]?=some o->∀j∈hk o,j<i:=λi o ω=>(vQ i o ω).1
 have PO:=PJ bΔ
 have PQ:=PJ bΕ;intro fuel;have done:∀(t:Nat) (listed:Array Bool) (env:Ω) (cC hg:Nat),(∀i,i<ops.size->listed.getD i false=true)->(∀i,a9 env i=a9 (di ops env0 as9 (λi=>listed.getD i false) ops.size) i)->cC<=ops.size->hg<=ops.size->
   (∀j,j<ops.size->writer ops td j=true->(listed.getD j false=true↔j<cC))->(∀j,j<ops.size->writer ops tb j=true->(listed.getD j false=true↔j<hg))->W P m nt (.inRegion ops []::k) env (ρs cC::τs hg) Z E:=λt listed env cC hg h7 cT hl n4 iM uN=>by
  have Δ:ρs cC=ρs ops.size:=PO cC ops.size hl (Nat.le_refl _) λj ε Ν=>by rw[<-iM j ε Ν];simp[h7 j ε,ε]
  have Γ:τs hg=τs ops.size:=PQ hg ops.size n4 (Nat.le_refl _) λj ε Ν=>by rw[<-uN j ε Ν];simp[h7 j ε,ε]
  rw[Δ,Γ];refine .congr (λi=>?_) Hr;rw[cT i];exact xM ops.size λi o hi _ _=>h7 i hi
 have Hs:∀listed:Array Bool,listed.size=ops.size->(∃i,i<ops.size/\listed.getD i false=false)->∃i,i<ops.size/\listed.getD i false=false/\∀j,j<i->listed.getD j false=true:=λlisted cv ⟨i,hi,ο⟩=>by
  induction i using Nat.strongRecOn with
  | _ i Β=>
   by_cases ε:∃j,j<i/\listed.getD j false=false
   ·obtain⟨j,J,U⟩:=ε;exact Β j J R U
   ·exact⟨i,hi,ο,λj aH=>by
     cases h:listed.getD j false with
     | true=>rfl
     | false=>exact absurd ⟨j,aH,h⟩ ε⟩
 induction fuel with
 | zero=>
  intro t listed env cC hg cv cT cw hl n4 iM uN Ht;have h7:∀i,i<ops.size->listed.getD i false=true:=λi hi=>by
   cases h:listed.getD i false with
   | true=>rfl
   | false=>
    have p0:i∈(List.range ops.size).filter λi=>!listed.getD i false:=by rw[List.mem_filter];exact⟨List.mem_range.2 hi,by rw[h];rfl⟩
    have:((List.range ops.size).filter λi=>!listed.getD i false)=[]:=dG.1 R;rw[this] at p0;simp at p0
  exact done t listed env cC hg h7 cT hl n4 iM uN
 | succ fuel Β=>
  intro t listed env cC hg cv cT cw hl n4 iM uN Ht;simp only[Region.linearise.go];generalize kl:((List.range ops.size).filter λi=>!listed.getD i true&&((ops[i]?).map (·.after.all λe=>!Region.binds .any e||listed.getD e.on false)).getD false)=rs;have zZ:∀i,i<ops.size->listed.getD i true=listed.getD i false:=λi hi=>by
   rw[Array.getD_eq_getD_getElem?,Array.getD_eq_getD_getElem?,fq R];rfl
  have z0:∀i,i∈rs↔i<ops.size/\listed.getD i false=false/\∀o,ops[i]?=some o->∀j∈hk o,listed.getD j false=true:=λi=>by
   rw[<-kl];simp only[List.mem_filter,List.mem_range,Bool.and_eq_true,Bool.not_eq_true'];constructor
   ·rintro⟨J,U,μ⟩;rw[zZ i J] at U;refine⟨J,U,λo ω j ε=>?_⟩;rw[ω] at μ;simp only[Option.map_some,Option.getD_some,Array.all_eq_true'] at μ;unfold hk at ε;simp only[List.mem_map,List.mem_filter] at ε;obtain⟨e,⟨xN,hH⟩,rfl⟩:=ε;have:=μ e (by simpa using xN);simpa[hH] using this
   ·rintro⟨J,U,μ⟩;refine⟨J,by rw[zZ i J];exact U,?_⟩;have ω:ops[i]?=some ops[i]:=fq J;rw[ω];simp only[Option.map_some,Option.getD_some,Array.all_eq_true'];intro e he;by_cases hb:Region.binds .any e=true
    ·have:=μ _ ω e.on (by unfold hk;simp only[List.mem_map,List.mem_filter];exact⟨e,⟨by simpa using he,hb⟩,rfl⟩);simp[this]
    ·simp[hb]
  cases hi:rs[t % rs.length]? with
  | none=>
   simp only[List.reverse_nil];have zg:rs=[]:=by
    cases ι:rs with
    | nil=>rfl
    | cons x xs=>
     rw[ι] at hi;have aP:t % (x::xs).length<(x::xs).length:=Nat.mod_lt _ η;rw[bg aP] at hi;cases hi
   have h7:∀i,i<ops.size->listed.getD i false=true:=λi aD=>by
    cases h:listed.getD i false with
    | true=>rfl
    | false=>
     obtain⟨r,J,U,μ⟩:=Hs listed cv ⟨i,aD,h⟩;have:r∈rs:=(z0 r).2 ⟨J,U,λo ω j ε=>μ j (sD r o ω j ε)⟩;rw[zg] at this;simp at this
   exact done t listed env cC hg h7 cT hl n4 iM uN
  | some i=>
   simp only;rw[MO];have p0:i∈rs:=cE hi;obtain⟨J,U,μ⟩:=(z0 i).1 p0;have ω:ops[i]?=some ops[i]:=fq J;have Hu:=Dw sD (λj=>listed.getD j false=true) (λj o ε ο=>cw j o ε ο) i _ ω (μ _ ω);have low:∀j bY,j<i->ops[j]?=some bY->(clash ops td i j ops[i] bY=true\/clash ops tb i j ops[i] bY=true)->listed.getD j false=true:=λj bY ε dz δ=>Hu j (δ.elim (λδ=>(vQ i _ ω).2 j bY ε dz δ) (λδ=>(PN i _ ω).2 j bY ε dz δ));have high:∀j bY,i<j->ops[j]?=some bY->(clash ops td j i bY ops[i]=true\/clash ops tb j i bY ops[i]=true)->listed.getD j false=false:=λj bY ε dz δ=>by
    cases ο:listed.getD j false with
    | false=>rfl
    | true=>
     have:=Dw sD (λj=>listed.getD j false=true) (λj o ε ο=>cw j o ε ο) j bY dz (cw j bY dz ο) i (δ.elim (λδ=>(vQ j bY dz).2 i _ ε ω δ) (λδ=>(PN j bY dz).2 i _ ε ω δ));rw[U] at this;cases this
   have same:oY ops ops[i] (di ops env0 as9 (λ_=>true) i) env:=λx γ=>by
    rw[cT x];have c1:a9 (di ops env0 as9 (λi=>listed.getD i false) ops.size) x=a9 (di ops env0 as9 (λi=>listed.getD i false) i) x:=Dy R λj bY ri z1 dz hd=>by
     by_cases e:j=i
     ·subst e;exact U
     ·refine high j bY R dz ?_;unfold clash;simp[hd,γ]
    rw[c1];exact xM i λj bY ε dz hd=>low j bY ε dz (.inl (by unfold clash;simp[hd,γ]))
   have ns:∀x,a9 (cj ops[i] env (as9 i)) x=a9 (di ops env0 as9 (λj=>(listed.setIfInBounds i true).getD j false) ops.size) x:=λx=>by
    have kq:∀j,(listed.setIfInBounds i true).getD j false=if j=i then true else listed.getD j false:=λj=>by
     rw[Array.getD_eq_getD_getElem?,Array.getD_eq_getD_getElem?];by_cases e:j=i
     ·subst e;rw[Array.getElem?_setIfInBounds_self_of_lt R];simp
     ·rw[Array.getElem?_setIfInBounds_ne (Ne.symm e),if_neg e]
    rw[vO];by_cases hd:ops[i].dst=some x
    ·rw[if_pos hd];have c1:a9 (di ops env0 as9 (λj=>(listed.setIfInBounds i true).getD j false) ops.size) x=a9 (di ops env0 as9 (λj=>(listed.setIfInBounds i true).getD j false) (i+1)) x:=Dy R λj bY ri z1 dz tU=>by
      rw[kq,if_neg R];refine high j bY R dz (.inl ?_);unfold clash;simp[hd,tU]
     rw[c1];simp only[di,kq,if_true,ω,vO,hd]
    ·rw[if_neg hd,cT x];exact xM ops.size λj bY ε dz tU=>by
      rw[kq,if_neg];intro e;subst e;rw[ω] at dz;cases dz;exact hd tU
   have kq:∀j,(listed.setIfInBounds i true).getD j false=if j=i then true else listed.getD j false:=λj=>by
    rw[Array.getD_eq_getD_getElem?,Array.getD_eq_getD_getElem?];by_cases e:j=i
    ·subst e;rw[Array.getElem?_setIfInBounds_self_of_lt R];simp
    ·rw[Array.getElem?_setIfInBounds_ne (Ne.symm e),if_neg e]
   have vR:((List.range ops.size).filter λj=>!(listed.setIfInBounds i true).getD j false).length<=fuel:=by
    have aP:((List.range ops.size).filter λj=>!(listed.setIfInBounds i true).getD j false).length<((List.range ops.size).filter λj=>!listed.getD j false).length:=by
     have:((List.range ops.size).filter λj=>!(listed.setIfInBounds i true).getD j false)=((List.range ops.size).filter λj=>!listed.getD j false).filter λj=>j != i:=by
      rw[List.filter_filter];apply List.filter_congr;intro j _;rw[kq];by_cases e:j=i
      ·subst e;simp
      ·simp[e]
     rw[this];have hm:i∈(List.range ops.size).filter λj=>!listed.getD j false:=by
      rw[List.mem_filter];exact⟨List.mem_range.2 J,by rw[U];rfl⟩
     exact List.length_filter_lt_length_iff_exists.2 ⟨i,hm,η⟩
    omega
   have vS:∀j o,ops[j]?=some o->(listed.setIfInBounds i true).getD j false=true->∀y∈hk o,(listed.setIfInBounds i true).getD y false=true:=λj o ε ο y Ι=>by
    rw[kq] at ο ⊢;by_cases e:y=i
    ·rw[if_pos e]
    ·rw[if_neg e];by_cases Γ:j=i
     ·subst Γ;rw[ω] at ε;cases ε;exact μ _ ω y Ι
     ·rw[if_neg Γ] at ο;exact cw j o ε ο y Ι
   have keep:∀(tags:List Bool) (cC:Nat),tags.getD i false=false->(∀j,j<ops.size->writer ops tags j=true->(listed.getD j false=true↔j<cC))->∀j,j<ops.size->writer ops tags j=true->((listed.setIfInBounds i true).getD j false=true↔j<cC):=λtags cC nD iM j ε Ν=>by
    rw[kq];have:j≠i:=λe=>by subst e;rw[PL j Ν] at nD;cases nD
    rw[if_neg this];exact iM j ε Ν
   have keepW:∀(tags:List Bool) (cC:Nat),writer ops tags i=false->(∀j,j<ops.size->writer ops tags j=true->(listed.getD j false=true↔j<cC))->∀j,j<ops.size->writer ops tags j=true->((listed.setIfInBounds i true).getD j false=true↔j<cC):=λtags cC mO iM j ε Ν=>by
    rw[kq];have:j≠i:=λe=>by subst e;rw[Ν] at mO;cases mO
    rw[if_neg this];exact iM j ε Ν
   have both:∀(tags:List Bool),tags.getD i false=true->(∀j bY,j<i->ops[j]?=some bY->clash ops tags i j ops[i] bY=true->listed.getD j false=true)->(∀j bY,i<j->ops[j]?=some bY->clash ops tags j i bY ops[i]=true->listed.getD j false=false)->
     (∀j,j<ops.size->writer ops tags j=true->j<i->listed.getD j false=true)/\(∀j,j<ops.size->writer ops tags j=true->i<j->listed.getD j false=false):=λtags nD lo hi=>⟨λj ε Ν vT=>lo j _ vT (fq ε) (PM nD j _ (fq ε) Ν).1,λj ε Ν vT=>hi j _ vT (fq ε) (PM nD j _ (fq ε) Ν).2⟩
   have PR:∀(tags:List Bool) (cC:Nat),(∀j,j<ops.size->writer ops tags j=true->j<i->listed.getD j false=true)->(∀j,j<ops.size->writer ops tags j=true->i<j->listed.getD j false=false)->(∀j,j<ops.size->writer ops tags j=true->(listed.getD j false=true↔j<cC))->∀j,j<ops.size->writer ops tags j=true->(j<cC↔j<i):=λtags cC lo hi iM j ε Ν=>by
    rw[<-iM j ε Ν];constructor
    ·intro ο;apply Classical.byContradiction;intro Ζ;by_cases e:j=i
     ·subst e;rw[U] at ο;cases ο
     ·rw[hi j ε Ν R] at ο;cases ο
    ·exact lo j ε Ν
   have next:∀(tags:List Bool),(∀j,j<ops.size->writer ops tags j=true->j<i->listed.getD j false=true)->(∀j,j<ops.size->writer ops tags j=true->i<j->listed.getD j false=false)->∀j,j<ops.size->writer ops tags j=true->((listed.setIfInBounds i true).getD j false=true↔j<i+1):=λtags lo hi j ε Ν=>by
    rw[kq];by_cases e:j=i
    ·subst e;simp
    ·rw[if_neg e];constructor
     ·intro ο;apply Classical.byContradiction;intro Ζ;rw[hi j ε Ν R] at ο;cases ο
     ·intro aP;exact lo j ε Ν R
   cases A5:td.getD i false with
   | true=>
    obtain⟨cF,yr⟩:=et i _ ω A5;obtain⟨lo,aD⟩:=both td A5 (λj bY a b c=>low j bY a b (.inl c)) (λj bY a b c=>high j bY a b (.inl c));rw[PO cC i hl R (PR td cC lo aD iM)];refine cF env _ _ same ?_;exact Β _ _ _ (i+1) hg (by simpa using cv) ns vS R n4 (next td lo aD) (keep tb hg yr uN) vR
   | false=>
    cases yr:tb.getD i false with
    | false=>
     refine cB i _ ω A5 yr env _ _ same ?_;exact Β _ _ _ cC hg (by simpa using cv) ns vS hl n4 (keep td cC A5 iM) (keep tb hg yr uN) vR
    | true=>
     obtain⟨lo,aD⟩:=both tb yr (λj bY a b c=>low j bY a b (.inr c)) (λj bY a b c=>high j bY a b (.inr c));rw[PQ hg i n4 R (PR tb hg lo aD uN)];refine fh i _ ω yr env _ _ same ?_;exact Β _ _ _ cC (i+1) (by simpa using cv) ns vS hl R (keep td cC A5 iM) (next tb lo aD) vR
def ys (f:Row->df) (K:θ->List Row->Prop):Prop:=∃a eW,((∀r,f r=.ok a (r::eW))\/∃p:Prop,p/\∀r,f r=.b' p (.ok a (r::eW)))/\K a eW
theorem bΖ {f g:Row->df} {K:θ->List Row->Prop} (h:∀r,f r=g r):ys f K=ys g K:=by rw[funext h]
theorem bΗ {a:θ} {τ:List Row} {K:θ->List Row->Prop}:ys (λr=>.ok a (r::τ)) K=K a τ:=by
 refine propext ⟨λ⟨b,eW,h,ς⟩=>?_,λh=>⟨a,τ,.inl λ_=>rfl,h⟩⟩;rcases h with h|⟨p,_,h⟩
 ·have:=h (.map []);injection this with J U
  injection U with _ U
  rw[J,U];exact ς
 ·have:=h (.map []);cases this
theorem bΘ {p:Prop} {a:θ} {τ:List Row} {K:θ->List Row->Prop}:ys (λr=>.b' p (.ok a (r::τ))) K=(p/\K a τ):=by
 refine propext ⟨λ⟨b,eW,h,ς⟩=>?_,λh=>⟨a,τ,.inr ⟨p,h.1,λ_=>rfl⟩,h.2⟩⟩;rcases h with h|⟨q,Φ,h⟩
 ·have:=h (.map []);cases this
 ·have:=h (.map []);injection this with aj J
  injection J with J U
  injection U with _ U
  rw[J,U];exact⟨aj▸Φ,ς⟩
def A6 (P:Program) (f:θ) (args:List θ) (r:Row) (g3:θ->Prop) (m9:θ->Row->Prop):Prop:=
 (∃a,gp P f args a/\g3 a)\/∃a r',(∀τ,hG P f args (r::τ) (λb s=>b=a/\s=r'::τ) (λ_ _=>False))/\m9 a r'
theorem bΙ {P:Program} {f:θ} {args:List θ} {r r':Row} {g3:θ->Prop} {m9:θ->Row->Prop} {a:θ} (h:∀τ,hG P f args (r::τ) (λb s=>b=a/\s=r'::τ) (λ_ _=>False)) (k:m9 a r'):A6 P f args r g3 m9:=.inr ⟨a,r',h,k⟩
def A7 (P:Program) (T:bb) (A:List Nat) (env:Ω) (o:Oper) (r:Row) (τ:List Row) (g3:θ->Prop) (m9:θ->Row->Prop) (kN:θ->List Row->Prop):Prop:=match o.op with
 | .call ⟨.value f,args,_⟩=>A6 P (aU env f) (args.toList.map (aU env)) r g3 m9
 | .panic _=>False
 | .defer _=>False
 | _=>(mK T A env o).gJ g3 (ys (λr=>kM T A env (r::τ) o) kN)
theorem bΚ {P:Program} {T:bb} {A:List Nat} {env:Ω} {o:Oper} {r:Row} {τ:List Row} {g3:θ->Prop} {m9:θ->Row->Prop} {kN:θ->List Row->Prop}:A7 P T A env o r τ g3 m9 kN=match o.op with
 | .call ⟨.value f,args,_⟩=>A6 P (aU env f) (args.toList.map (aU env)) r g3 m9
 | .panic _=>False
 | .defer _=>False
 | _=>(mK T A env o).gJ g3 (ys (λr=>kM T A env (r::τ) o) kN):=Eq.trans rfl rfl
def iT (P:Program) (T:bb) (A:List Nat) (nt:Nat) (ops:Array Oper):List Nat->Ω->Row->List Row->List Bool->List Bool->(Ω->List Row->Prop)->Prop
 | [],env,r,τ,td,tb,K=>lh ops td=true/\lh ops tb=true/\K env (r::τ)
 | i::is,env,r,τ,td,tb,K=>g2 ops[i]? λo=>ik nt o=true/\g2 (fP env ops o) λw=>
   j1 w (iT P T A nt ops is (cj o env .cH) r τ (td++[false]) (tb++[false]) K)
    (A7 P T A env o r τ (λa=>iT P T A nt ops is (cj o env a) r τ (td++[false]) (tb++[false]) K) (λa r'=>iT P T A nt ops is (cj o env a) r' τ (td++[true]) (tb++[false]) K) (λa eW=>iT P T A nt ops is (cj o env a) r eW (td++[false]) (tb++[true]) K))
def PS (P:Program) (T:bb) (A:List Nat) (nt:Nat) (ops:Array Oper) (is:List Nat) (o:Oper) (env:Ω) (r:Row) (τ:List Row) (td tb:List Bool) (K:Ω->List Row->Prop) (a:θ):Prop:=iT P T A nt ops is (cj o env a) r τ (td++[false]) (tb++[false]) K
def PT (P:Program) (T:bb) (A:List Nat) (nt:Nat) (ops:Array Oper) (is:List Nat) (o:Oper) (env:Ω) (τ:List Row) (td tb:List Bool) (K:Ω->List Row->Prop) (a:θ) (r:Row):Prop:=iT P T A nt ops is (cj o env a) r τ (td++[true]) (tb++[false]) K
def PU (P:Program) (T:bb) (A:List Nat) (nt:Nat) (ops:Array Oper) (is:List Nat) (o:Oper) (env:Ω) (r:Row) (td tb:List Bool) (K:Ω->List Row->Prop) (a:θ) (τ:List Row):Prop:=iT P T A nt ops is (cj o env a) r τ (td++[false]) (tb++[true]) K
section
variable {is:List Nat} {i:Nat} {o:Oper} {r:Row} {τ:List Row} {td tb:List Bool} {K:Ω->List Row->Prop} {a:θ}
theorem po:iT P T A nt ops [] env r τ td tb K=(lh ops td=true/\lh ops tb=true/\K env (r::τ)):=Eq.trans rfl rfl
theorem pq:iT P T A nt ops (i::is) env r τ td tb K=g2 ops[i]? λo=>ik nt o=true/\g2 (fP env ops o) λw=>
   j1 w (iT P T A nt ops is (cj o env .cH) r τ (td++[false]) (tb++[false]) K) (A7 P T A env o r τ (PS P T A nt ops is o env r τ td tb K) (PT P T A nt ops is o env τ td tb K) (PU P T A nt ops is o env r td tb K)):=Eq.trans rfl rfl
theorem bΜ:PS P T A nt ops is o env r τ td tb K a=iT P T A nt ops is (cj o env a) r τ (td++[false]) (tb++[false]) K:=Eq.trans rfl rfl
theorem bΝ:PT P T A nt ops is o env τ td tb K a r=iT P T A nt ops is (cj o env a) r τ (td++[true]) (tb++[false]) K:=Eq.trans rfl rfl
theorem bΞ:PU P T A nt ops is o env r td tb K a τ=iT P T A nt ops is (cj o env a) r τ (td++[false]) (tb++[true]) K:=Eq.trans rfl rfl
end
def Jf (P:Program) (m nt:Nat) (k:List Item) (Z:List Item->Ω->List Row->Prop) (E:θ->Ω->List Row->Prop) (ops:Array Oper) (i:Nat) (o:Oper) (env:Ω) (r:Row) (τ:List Row) (d b:Bool) (a:θ) (r':Row) (eW:List Row):Prop:=
 (d=true/\b=false/\PI P m nt k Z E ops i o env r a r'/\eW=τ)\/(d=false/\b=true/\StepB P m nt k Z E ops i o env τ a eW/\r'=r/\(mN o=true->eW=τ))\/(d=false/\b=false/\xL P m nt k Z E ops i o env a/\r'=r/\eW=τ)
theorem bΟ (Κ:bV P T) {i:Nat} {is:List Nat} {r:Row} {τ:List Row} {td tb:List Bool} {K:Ω->List Row->Prop} (h:iT P T A nt ops (i::is) env r τ td tb K) :
  ∃o a r' eW d b,ops[i]?=some o/\Jf P m nt k Z E ops i o env r τ d b a r' eW/\(d=true->mN o=false)/\iT P T A nt ops is (cj o env a) r' eW (td++[d]) (tb++[b]) K:=by
 unfold iT g2 at h;split at h
 ·exact h.elim
 ·rename_i o ω;obtain⟨hd,h⟩:=h;split at h
  ·exact h.elim
  rename_i w hw;unfold j1 at h;cases w
  ·replace h:=h.1 rfl
   exact⟨o,.cH,r,τ,false,false,ω,.inr (.inr ⟨rfl,rfl,λenv' σ' rest ν hW=>.unwanted ω (by rw[rj ν];exact hw) hd hW,rfl,rfl⟩),λh=>(by cases h),h⟩
  ·replace h:=h.2 rfl
   unfold A7 at h;split at h
   ·rename_i f args eh Μ;have z3:∀env',oY ops o env env'->aU env' f=aU env f/\args.toList.map (aU env')=args.toList.map (aU env):=λenv' ν=>by
     have γ:=DD ν;rw[Μ] at γ;refine⟨γ f (by simp[Op.operands,Call.operands]),DG λx Hw=>γ x (by simp[Op.operands,Call.operands,Hw])⟩
    rcases h with⟨a,δ,h⟩|⟨a,r',δ,h⟩
    ·refine⟨o,a,r,τ,false,false,ω,.inr (.inr ⟨rfl,rfl,λenv' σ' rest ν hW=>.call ω (by rw[rj ν];exact hw) hd Μ ?_,rfl,rfl⟩),λh=>(by cases h),h⟩;obtain⟨Δ,Γ⟩:=z3 env' ν;rw[Δ,Γ];exact(δ σ').mono (λa s ⟨x,y⟩=>by subst x;subst y;exact hW) (λ_ _ h=>h.elim)
    ·refine⟨o,a,r',τ,true,false,ω,.inl ⟨rfl,rfl,λenv' eW rest ν hW=>.call ω (by rw[rj ν];exact hw) hd Μ ?_,rfl⟩,λ_=>(by unfold mN;rw[Μ]),h⟩;obtain⟨Δ,Γ⟩:=z3 env' ν;rw[Δ,Γ];exact(δ eW).mono (λa s ⟨x,y⟩=>by subst x;subst y;exact hW) (λ_ _ h=>h.elim)
   ·exact h.elim
   ·exact h.elim
   ·rename_i J U μ;have z4:∀(A8:cK) (a:θ),mK T A env o=A8->(∀K:θ->List Row->Prop,∀s,K a s->(A8.dE s).holds K)->(∀σ s,A8.or σ s=A8.dE σ)->xL P m nt k Z E ops i o env a:=λA8 a ι a0 Hx env' σ' rest ν hW=>by
     refine .op (A:=A) Κ ω (by rw[rj ν];exact hw) hd (λc δ=>μ c δ) ?_;rw[DI ν,ι,Hx];exact a0 _ _ hW
    unfold cK.gJ at h;split at h
    ·rename_i a κ;exact⟨o,a,r,τ,false,false,ω,.inr (.inr ⟨rfl,rfl,z4 _ a κ (λK s ς=>ς) (λ_ _=>rfl),rfl,rfl⟩),λh=>(by cases h),h⟩
    ·rename_i p a κ;exact⟨o,a,r,τ,false,false,ω,.inr (.inr ⟨rfl,rfl,z4 _ a κ (λK s ς=>⟨h.1,ς⟩) (λ_ _=>rfl),rfl,rfl⟩),λh=>(by cases h),h.2⟩
    ·exact h.elim
    ·rename_i xG;have DL:∀(a:θ) (eW:List Row),(∀r,∃x:df,kM T A env (r::τ) o=x/\∀K:θ->List Row->Prop,K a (r::eW)->x.holds K)->StepB P m nt k Z E ops i o env τ a eW:=λa eW ι env' r rest ν hW=>by
      obtain⟨x,ι,a0⟩:=ι r;refine .op (A:=A) Κ ω (by rw[rj ν];exact hw) hd (λc δ=>μ c δ) ?_;rw[DI ν,MW ν,xG,ι];exact a0 _ hW
     obtain⟨a,eW,hu,ς⟩:=h;refine⟨o,a,r,eW,false,true,ω,.inr (.inl ⟨rfl,rfl,DL a eW λr=>?_,rfl,λι=>?_⟩),λh=>(by cases h),ς⟩
     ·rcases hu with hu|⟨p,ψ,hu⟩
      ·exact⟨_,hu r,λK ς=>ς⟩
      ·exact⟨_,hu r,λK ς=>⟨ψ,ς⟩⟩
     ·have:r::eW=r::τ:=by
       rcases hu with hu|⟨p,ψ,hu⟩
       ·exact DK (p:=True) ι (.inl (hu r))
       ·exact DK ι (.inr (hu r))
      injection this
theorem bΡ (Κ:bV P T) {K:Ω->List Row->Prop} {env0:Ω}:∀(d i:Nat) (td tb:List Bool) (as9:Nat->θ) (ρs:Nat->Row) (τs:Nat->List Row),i+d=ops.size->td.length=i->tb.length=i->
  (∀j o,j<i->ops[j]?=some o->Jf P m nt k Z E ops j o (di ops env0 as9 (λ_=>true) j) (ρs j) (τs j) (td.getD j false) (tb.getD j false) (as9 j) (ρs (j+1)) (τs (j+1))/\(td.getD j false=true->mN o=false))->
  iT P T A nt ops (List.range' i d) (di ops env0 as9 (λ_=>true) i) (ρs i) (τs i) td tb K->
  ∃(td tb:List Bool) (as9:Nat->θ) (rS:Nat->Row) (rT:Nat->List Row),lh ops td=true/\lh ops tb=true/\rS 0=ρs 0/\rT 0=τs 0/\(∀j o,ops[j]?=some o->Jf P m nt k Z E ops j o (di ops env0 as9 (λ_=>true) j) (rS j) (rT j) (td.getD j false) (tb.getD j false) (as9 j) (rS (j+1)) (rT (j+1))/\(td.getD j false=true->mN o=false))/\K (di ops env0 as9 (λ_=>true) ops.size) (rS ops.size::rT ops.size):=by
 intro d
 induction d with
 | zero=>
  intro i td tb as9 ρs τs hi Ν uD ε h;simp only[List.range'_zero,iT] at h;have:i=ops.size:=R;subst this;exact⟨td,tb,as9,ρs,τs,h.1,h.2.1,rfl,rfl,λj o ω=>ε j o (Array.getElem?_eq_some_iff.1 ω).1 ω,h.2.2⟩
 | succ d Β=>
  intro i td tb as9 ρs τs hi Ν uD ε h;rw[List.range'_succ] at h;obtain⟨o,a,r',eW,Jg,oI,ω,Hy,cn,h⟩:=bΟ (m:=m) (k:=k) (Z:=Z) (E:=E) Κ h;let kO:Nat->θ:=λj=>if j=i then a else as9 j
  let rS:Nat->Row:=λj=>if j=i+1 then r' else ρs j
  let rT:Nat->List Row:=λj=>if j=i+1 then eW else τs j
  have vU:∀j,j<=i->di ops env0 as9 (λ_=>true) j=di ops env0 kO (λ_=>true) j:=λj ε=>MZ j λx γ=>by simp only[kO];rw[if_neg R]
  have Hz:di ops env0 kO (λ_=>true) (i+1)=cj o (di ops env0 as9 (λ_=>true) i) a:=by
   simp only[di,if_true,ω];rw[<-vU i (Nat.le_refl i)];simp only[kO,if_true]
  have xl:∀(t:List Bool) (x:Bool),t.length=i->(t++[x]).getD i false=x:=λt x h=>by rw[List.getD_eq_getElem?_getD,h6 R,h];simp
  have PV:∀(t:List Bool) (x:Bool) (j:Nat),t.length=i->j<i->(t++[x]).getD j false=t.getD j false:=λt x j h ε=>by rw[List.getD_eq_getElem?_getD,ev R,<-List.getD_eq_getElem?_getD]
  have:=Β (i+1) (td++[Jg]) (tb++[oI]) kO rS rT R (by simp[Ν]) (by simp[uD]) (λj bY aP dz=>?_) ?_
  ·obtain⟨t1,t2,bd,r2,s2,Χ,ak,aY,cy,gB,iK⟩:=this;exact⟨t1,t2,bd,r2,s2,Χ,ak,aY.trans (by simp only[rS];rw[if_neg R]),cy.trans (by simp only[rT];rw[if_neg R]),gB,iK⟩
  ·by_cases e:j=i
   ·subst e;rw[ω] at dz;cases dz;rw[<-vU j (Nat.le_refl j),xl td Jg Ν,xl tb oI uD];simp only[kO,rS,rT,if_true];rw[if_neg R,if_neg R];exact⟨Hy,cn⟩
   ·have:=ε j bY R dz;rw[<-vU j R,PV td Jg j Ν R,PV tb oI j uD R];simp only[kO,rS,rT];rw[if_neg R,if_neg R,if_neg R,if_neg R,if_neg R];exact this
  ·rw[Hz];simp only[rS,rT,if_true];exact h
theorem W.Jh (Κ:bV P T) (sE:P.follows .mixedOrders=true) {r:Row} {τ:List Row} {id:Nat} (h:∀Ε:Ω->List Row->Prop,(∀env σ,W P m nt k env σ Z E->Ε env σ)->iT P T A nt ops (idx ops.size []) env r τ [] [] Ε):W P m nt (.code (.region id ops true)::k) env (r::τ) Z E:=by
 have aj:=h (λenv σ=>W P m nt k env σ Z E) λ_ _ h=>h;rw[idx_eq,List.range_eq_range'] at aj;obtain⟨td,tb,as9,ρs,τs,Χ,ak,aY,cy,gB,iK⟩:=bΡ (m:=m) (k:=k) (Z:=Z) (E:=E) (env0:=env) Κ ops.size 0 [] [] (λ_=>.cH) (λ_=>r) (λ_=>τ) R rfl rfl (λj o ε=>R) aj;intro Q mn x cs b S B H t γ hb ψ Τ he;refine .draw γ hb λn=>?_;have E9:∀i:Nat,(Array.replicate ops.size false).getD i false=false:=λi=>by
  rw[Array.getD_eq_getD_getElem?,Array.getElem?_replicate];split<;>rfl
 have key:=W.bΑ (P:=P) (m:=m) (nt:=nt) (k:=k) (Z:=Z) (E:=E) (ops:=ops) (as9:=as9) (ρs:=ρs) (τs:=τs) (td:=td) (tb:=tb) (env0:=env) Χ ak
  (λi o ω J U=>by
   rcases(gB i o ω).1 with⟨a,_⟩|⟨_,a,_⟩|⟨_,_,a,_⟩
   ·rw[J] at a;cases a
   ·rw[U] at a;cases a
   ·exact a)
  (λi o ω J=>by
   rcases(gB i o ω).1 with⟨_,b,a,_⟩|⟨a,_⟩|⟨a,_⟩
   ·exact⟨a,b⟩
   ·rw[J] at a;cases a
   ·rw[J] at a;cases a)
  (λi o ω J=>by
   rcases(gB i o ω).1 with⟨_,a,_⟩|⟨_,_,a,_⟩|⟨_,a,_⟩
   ·rw[J] at a;cases a
   ·exact a
   ·rw[J] at a;cases a)
  (λi o ω hw=>by
   rcases(gB i o ω).1 with⟨a,_⟩|⟨_,_,_,a,_⟩|⟨_,_,_,a,_⟩
   ·unfold writer at hw;rw[a,ω] at hw;simp[(gB i o ω).2 a] at hw
   ·exact a
   ·exact a)
  (λi o ω hw=>by
   rcases(gB i o ω).1 with⟨_,_,_,a⟩|⟨_,b,_,_,a⟩|⟨_,_,_,_,a⟩
   ·exact a
   ·refine a ?_;unfold writer at hw;rw[b,ω] at hw;simpa using hw
   ·exact a)
  (.bJ iK) ops.size n (Array.replicate ops.size false) env 0 0 η (λi=>?_) (λi o ω ο=>?_) (Nat.zero_le _) (Nat.zero_le _) (λj ε _=>?_) (λj ε _=>?_) ?_
 ·rw[aY,cy] at key;rw[sE];simp only[Region.schedule,Bool.true_or,if_true,Region.linearise];exact key Q mn x cs b S B H t γ hb ψ Τ he
 ·have:∀n,di ops env as9 (λi=>(Array.replicate ops.size false).getD i false) n=env:=by
   intro n
   induction n with
   | zero=>rfl
   | succ n Β=>
    simp only[di];rw[if_neg (by rw[E9 n];simp)];exact Β
  rw[this]
 ·rw[E9] at ο;cases ο
 ·rw[E9];simp
 ·rw[E9];simp
 ·have:=List.length_filter_le (λi=>!(Array.replicate ops.size false).getD i false) (List.range ops.size);simpa using this
theorem bΤ {K K':Ω->List Row->Prop} (ζ:∀e s,K e s->K' e s):∀(is:List Nat) (env:Ω) (r:Row) (τ:List Row) (td tb:List Bool),iT P T A nt ops is env r τ td tb K->iT P T A nt ops is env r τ td tb K':=by
 intro is
 induction is with
 | nil=>intro env r τ td tb h;exact⟨h.1,h.2.1,ζ _ _ h.2.2⟩
 | cons i is Β=>
  intro env r τ td tb h;unfold iT g2 at h ⊢;cases ω:ops[i]? with
  | none=>rw[ω] at h;exact h.elim
  | some o=>
   rw[ω] at h;simp only at h ⊢;refine⟨h.1,?_⟩
   replace h:=h.2
   cases hw:fP env ops o with
   | none=>rw[hw] at h;exact h.elim
   | some w=>
    rw[hw] at h;unfold j1 at h ⊢;refine⟨λe=>Β _ _ _ _ _ (h.1 e),λe=>?_⟩
    replace h:=h.2 e
    unfold A7 at h ⊢;split
    ·rename_i f args eh Μ;rw[Μ] at h;simp only at h;rcases h with⟨a,δ,h⟩|⟨a,r',δ,h⟩
     ·exact .inl ⟨a,δ,Β _ _ _ _ _ h⟩
     ·exact .inr ⟨a,r',δ,Β _ _ _ _ _ h⟩
    ·rename_i Μ;rw[Μ] at h;exact h
    ·rename_i Μ;rw[Μ] at h;exact h
    ·rename_i J U μ;split at h
     ·rename_i f args eh Μ;exact absurd Μ (J f args eh)
     ·rename_i y Μ;exact absurd Μ (U y)
     ·rename_i y Μ;exact absurd Μ (μ y)
     ·unfold cK.gJ at h ⊢;split at h
      ·exact Β _ _ _ _ _ h
      ·exact⟨h.1,Β _ _ _ _ _ h.2⟩
      ·exact h.elim
      ·obtain⟨a,eW,hu,ς⟩:=h;exact⟨a,eW,hu,Β _ _ _ _ _ ς⟩
theorem W.PW (Κ:bV P T) (sE:P.follows .mixedOrders=true) (hj:Ω) (gK:List Row) {r:Row} {τ:List Row} {id:Nat} (h:W P m nt k hj gK Z E) (ι:iT P T A nt ops (idx ops.size []) env r τ [] [] (λe s=>s=gK/\∀p∈hj,a9 e p.1=p.2)):W P m nt (.code (.region id ops true)::k) env (r::τ) Z E:=
 W.Jh Κ sE λΕ ζ=>bΤ (λe s ⟨J,U⟩=>ζ e s (J▸W.forget hj U h)) _ _ _ _ _ _ ι
theorem W.bΥ (Κ:bV P T) (sE:P.follows .mixedOrders=true) (hj:Ω) (gK:List Row) {id:Nat} (h:W P m nt k hj gK Z E) (ι:jB P T A nt ops (idx ops.size []) env σ [] (λe s=>s=gK/\∀p∈hj,a9 e p.1=p.2)):W P m nt (.code (.region id ops true)::k) env σ Z E:=
 W.draw Κ sE λΕ ζ=>M0 (λe s ⟨J,U⟩=>ζ e s (J▸W.forget hj U h)) _ _ _ _ ι
end
end Go.TL
namespace Go.TL
open Go.Proofs
variable [bn]
attribute [congr] bΖ
attribute [simp] bΗ bΘ bΚ bΜ bΝ bΞ
def en (g:FuncId) (args:List θ) (d:cD) (r:θ) (dZ:cD):Prop:=ae Tryz.prog g (.ar 0 1 0 0::args) [cb d] (λa s=>dP a r/\s=[cb dZ]) (λ_ _=>False)
theorem PX {l:List θ} (h:∀a∈l,aG 0 a) (ρ:List Nat):l.map (ei ρ)=l:=by
 induction l with
 | nil=>rfl
 | cons a l Β=>rw[List.map_cons,(h a η).ei,Β λx γ=>h x (by simp[γ])]
theorem en.c {g:FuncId} {args gC:List θ} {d dZ:cD} {r:θ} {σ:List Row} {K E:θ->List Row->Prop} (h:en g args d r dZ) (id:Nat) (b9:σ[id]?=some (cb d)) (he:bF gC args) (κ:∀a∈gC,aG 0 a) (ι:aG 0 r) (ζ:K r (σ.set id (cb dZ))):hG Tryz.prog (.fn (.func g) [] []) (.ar id 1 0 0::gC) σ K E:=by
 refine ae.one (as0:=.ar 0 1 0 0::gC) (r:=r) (row':=cb dZ) (ae.nF h (.cons (.refl _) he) λa s ⟨J,U⟩=>⟨r,J,rfl,U⟩) id b9 (pn d) (pn dZ) ?_ (ι.jg 1) ?_ ?_
 ·intro a hm;rcases List.mem_cons.1 hm with rfl|hm
  ·exact Nat.zero_lt_one
  ·exact(κ a hm).jg 1
 ·rw[List.map_cons,PX κ];rfl
 ·rw[ι.ei];exact ζ
theorem en.e {g:FuncId} {args gC:List θ} {d dZ:cD} {r:θ} {g3:θ->Prop} {m9:θ->Row->Prop} (h:en g args d r dZ) (he:bF gC args) (κ:∀a∈gC,aG 0 a) (ι:aG 0 r) (ζ:m9 r (cb dZ)):A6 Tryz.prog (.fn (.func g) [] []) (.ar 0 1 0 0::gC) (cb d) g3 m9:=
 bΙ (λτ=>h.c 0 rfl he κ ι ⟨rfl,rfl⟩) ζ
theorem en.g {g:FuncId} {args:List θ} {d dZ:cD} {r:θ} {σ:List Row} {K E:θ->List Row->Prop} (h:en g args d r dZ) (ζ:K r ((cb d::σ).set 0 (cb dZ))) (κ:∀a∈args,aG 0 a:=by simp) (ι:aG 0 r:=by simp):hG Tryz.prog (.fn (.func g) [] []) (.ar 0 1 0 0::args) (cb d::σ) K E:=h.c 0 rfl (bF.refl _) κ ι ζ
theorem en.h {g:FuncId} {args:List θ} {d dZ:cD} {r:θ} {g3:θ->Prop} {m9:θ->Row->Prop} (h:en g args d r dZ) (ζ:m9 r (cb dZ)) (κ:∀a∈args,aG 0 a:=by simp) (ι:aG 0 r:=by simp):A6 Tryz.prog (.fn (.func g) [] []) (.ar 0 1 0 0::args) (cb d) g3 m9:=h.e (bF.refl _) κ ι ζ
theorem yt {p q:Prop} (k:q) (h:q->p:=by intro k;simp;(repeat (rw[pq];simp));(try rw[po]);exact k):p:=h k
@[simp] theorem lD (d:cD) (n:Int):(d.after n).bf.length<=d.bf.length:=by
 unfold cD.after;split
 ·exact Nat.le_refl _
 ·simp[cD.next]
theorem wE (d:cD) (hd:d.bf.length<2 ^ 63) (n:Int):en 24 [I n] d (I (iS d n)) (d.after n):=(Je d hd n).mono (λa s ⟨J,U⟩=>⟨.of J,U⟩) (λ_ _ h=>h)
theorem yu (d:cD) (hd:d.bf.length<2 ^ 63) (a b:Int):en 38 [I a,I b] d (I (nS d a b)) (d.after (IntKind.i64.wrap (b-a))):=(bυ d hd a b).mono (λa s ⟨J,U⟩=>⟨.of J,U⟩) (λ_ _ h=>h)
theorem PY (d:cD) (hd:d.bf.length<2 ^ 63) (l:List Int) (aj:0<l.length) (ο:l.length<1000000):en 61 [bO I 1 l] d (I (l.getD (s6 d l) 0)) (d.after ((l.length:Int)-1)):=(bψ d hd l aj ο).mono (λa s ⟨J,U⟩=>⟨.of J,U⟩) (λ_ _ h=>h)
def wF (d:cD) (n:Int):Bool:=decide (iS d (n-1)=n.tdiv 2)
theorem Ji (d:cD) (hd:d.bf.length<2 ^ 63) (n:Int) (J:1<=n) (U:n<1000):en 156 [I n] d (a6 (wF d n)) (d.after (n-1)):=by
 have hw:IntKind.i64.wrap (n-1)=n-1:=IntWalk.i64_in _ R;unfold en;refine ae.body Ρ Tryz.func156 rfl rfl Tryz.ntmps156 rfl rfl η ?_;refine Η ?_;refine hI hw λΕ ζ=>?_;refine en.g (wE d hd (n-1)) (gW hw ?_);apply ζ;have Ν:IntKind.i64.wrap (n.tdiv 2)=n.tdiv 2:=by
  rw[Int.tdiv_eq_ediv_of_nonneg R];exact IntWalk.i64_in _ R
 rw[Ν];exact W.ret ⟨_,rfl,.refl _,rfl⟩
def ps (l:List Int) (k:Nat) (x:Int):List Int:=l.take k++x::l.drop k
def hp (d:cD):Nat->List Int×cD
 | 0=>([],d)
 | i+1=>(ps (hp d i).1 (iS (hp d i).2 i).toNat i,(hp d i).2.after i)
theorem Jj (d:cD) (n:Nat):(hp d n).2.bf.length<=d.bf.length:=by
 induction n with
 | zero=>exact Nat.le_refl _
 | succ n Β=>exact Nat.le_trans (lD _ _) Β
theorem Jk {l:List Int} {k:Nat} {x:Int}:(ps l k x).length=l.length+1:=by
 unfold ps;simp;omega
theorem Jl (d:cD) (n:Nat):(hp d n).1.length=n:=by
 induction n with
 | zero=>rfl
 | succ n Β=>show(ps _ _ _).length=_;rw[Jk,Β]
def jJ (l:List Int) (k:Nat):List Int:=(l++[0]).take (k+1)++l.drop k
theorem bΦ (l:List Int):jJ l l.length=l++[0]:=by unfold jJ;rw[List.take_of_length_le η];simp
theorem PZ {l:List Int} {k:Nat} (h:k<=l.length):(jJ l k).length=l.length+1:=by
 unfold jJ;simp;omega
theorem bΧ {l:List Int} {k:Nat} (h:k<l.length):(jJ l (k+1))[k]?=some l[k]:=by
 unfold jJ;rw[ev (by simp;omega),List.getElem?_take_of_lt R,ev h,bg h]
theorem bΨ {l:List Int} {k:Nat} (h:k<l.length):(jJ l (k+1)).set (k+1) l[k]=jJ l k:=by
 unfold jJ;have Δ:((l++[0]).take (k+1+1))=(l++[0]).take (k+1)++[(l++[0])[k+1]'(by simp;omega)]:=List.take_succ_eq_append_getElem (by simp;omega);have Γ:l.drop k=l[k]::l.drop (k+1):=List.drop_eq_getElem_cons h;rw[Δ,Γ,List.append_assoc,List.set_append_right _ _ (by simp;omega)];congr 1;have:k+1-((l++[0]).take (k+1)).length=0:=by simp;omega
 rw[this];rfl
theorem bΩ {l:List Int} {k:Nat} {x:Int} (h:k<=l.length):(jJ l k).set k x=ps l k x:=by
 unfold jJ ps;have Δ:((l++[0]).take (k+1))=l.take k++[(l++[0])[k]'(by simp;omega)]:=by
  rw[List.take_succ_eq_append_getElem (by simp;omega),List.take_append_of_le_length h]
 rw[Δ,List.append_assoc,List.set_append_right _ _ (by rw[List.length_take];omega)];have:k-(l.take k).length=0:=by rw[List.length_take];omega
 rw[this];rfl
theorem P0 (d:cD) (hd:d.bf.length<2 ^ 63) (n:Nat) (Ζ:n<1000):en 63 [I n] d (bO I 1 (hp d n).1) (hp d n).2:=by
 unfold en;refine ae.body Ρ Tryz.func63 rfl rfl Tryz.ntmps63 rfl rfl η ?_;refine Η ?_;refine W.iter (λi:Nat=>i<=n) (λi=>[(0,.ar 0 1 0 0),(1,I n),(5,cY 1 ((hp d i).1.map I)),(6,I i)]) (λi=>cb (hp d i).2::bG 3 1 ((hp d i).1.map I)) (λi=>n-i) 0 (Nat.zero_le _) rfl (by simp[cY,hp]) (λi hi Β=>?_);refine Η ?_;refine W.eU rfl (λδ=>?_) (λδ=>?_)
 ·have δ:i<n:=by simpa using δ
  have eV:hp d (i+1)=(ps (hp d i).1 (iS (hp d i).2 i).toNat i,(hp d i).2.after i):=rfl;obtain⟨L,ab⟩:=aK ((hp d i).1);obtain⟨D,et⟩:=aK ((hp d i).2);have mX:L.length=i:=by rw[ab];exact Jl d i
  have m':D.bf.length<2 ^ 63:=by rw[et];exact Nat.lt_of_le_of_lt (Jj d i) hd
  rw[<-ab,<-et] at eV;rw[<-ab,<-et];obtain⟨t0,t1⟩:=uM D i R R;obtain⟨eM,jK⟩:∃k:Nat,iS D i=k:=⟨(iS D i).toNat,R⟩;rw[jK] at eV t1;have cα:eM<=i:=R;refine bl λΕ ζ=>?_;refine en.g (wE D m' i) (bD ?_);rw[jK];apply ζ
  repeat apply ad
  refine W.iu (A:=[19]) Ρ [(0,.ar 0 1 0 0),(1,I n),(5,.ms 1 (i+1) 0 (i+1)),(6,I i),(7,I eM)] [cb (D.after i),.cells 3 1 ((jJ L i).map I)] ?_ (by
    have Κ:(jJ L i).map I=L.map I++[I 0]:=by rw[<-mX,bΦ];simp
    rw[Κ];by_cases Τ:L=[]
    ·subst Τ;have k2:i=0:=by simpa using mX.symm
     subst k2;(try simp);(repeat (rw[Ο];simp[kx,show cY 1 []=.sl true 0 [] from rfl]));(try simp[kx,show cY 1 []=.sl true 0 [] from rfl])
    ·have gu:L.map I≠[]:=by simpa using Τ
     (try simp);(repeat (rw[Ο];simp[gX gu,eJ gu,mX]));(try simp[gX gu,eJ gu,mX]);omega)
  refine Η ?_;refine W.iter (λk:Nat=>eM<=k/\k<=i) (λk=>[(0,.ar 0 1 0 0),(1,I n),(5,.ms 1 (i+1) 0 (i+1)),(6,I i),(7,I eM),(8,I k)]) (λk=>[cb (D.after i),.cells 3 1 ((jJ L k).map I)]) (λk=>k) i ⟨cα,Nat.le_refl _⟩ rfl η (λk ς sd=>?_);refine Η ?_;refine W.eU rfl (λaX=>?_) (λaX=>?_)
  ·have n6:eM<k:=by simpa using aX
   obtain⟨j,P1⟩:∃j,k=j+1:=⟨k-1,R⟩;have im:j<L.length:=R;have hw:IntKind.i64.wrap ((k:Int)-1)=j:=by rw[IntWalk.i64_in _ R];omega
   have xX:(jJ L k).length=i+1:=by rw[PZ R,mX]
   obtain⟨y,Ι⟩:∃y,(jJ L k)[k]?=some y:=⟨_,bg R⟩;obtain⟨al,aN⟩:=aK ((jJ L k).map I);have qx:al.length=i+1:=by rw[aN,List.length_map,xX]
   have na:al[j]?=some (I L[j]):=by rw[aN,List.getElem?_map,P1,bΧ im];rfl
   have wG:al[k]?=some (I y):=by rw[aN,List.getElem?_map,Ι];rfl
   have Jm:al.set k (I L[j])=(jJ L j).map I:=by rw[aN,<-bΨ im,List.map_set,P1]
   have cβ:∀h,al[j]'h=I L[j]:=λh=>by rw[bg h] at na;exact Option.some.inj na
   have Jn:∀h,al[k]'h=I y:=λh=>by rw[bg h] at wG;exact Option.some.inj wG
   refine W.to (σ':=[cb (D.after i),.cells 3 1 al]) (env':=[(0,.ar 0 1 0 0),(1,I n),(5,.ms 1 (i+1) 0 (i+1)),(6,I i),(7,I eM),(8,I k)]) ?_ (by rw[aN]) η;refine hI (υ hw (υ qx (υ na (υ wG (υ cβ Jn))))) λΕ ζ=>?_;refine⟨R,R,?_⟩;apply ζ;refine aB hw ?_;refine W.to (sd j ⟨R,R⟩ R) ?_ ?_
   ·rw[Jm]
   ·simp
  ·have n6:k=eM:=by simp at aX;omega
   subst n6;refine W.exit rfl ?_;have xX:(jJ L k).length=i+1:=by rw[PZ R,mX]
   obtain⟨y,Ι⟩:∃y,(jJ L k)[k]?=some y:=⟨_,bg R⟩;obtain⟨al,aN⟩:=aK ((jJ L k).map I);have qx:al.length=i+1:=by rw[aN,List.length_map,xX]
   have wG:al[k]?=some (I y):=by rw[aN,List.getElem?_map,Ι];rfl
   have Jm:al.set k (I i)=(ps L k i).map I:=by rw[aN,<-bΩ R,List.map_set]
   have Jn:∀h,al[k]'h=I y:=λh=>by rw[bg h] at wG;exact Option.some.inj wG
   refine W.to (σ':=[cb (D.after i),.cells 3 1 al]) (env':=[(0,.ar 0 1 0 0),(1,I n),(5,.ms 1 (i+1) 0 (i+1)),(6,I i),(7,I k)]) ?_ (by rw[aN]) η;refine hI (υ qx (υ wG Jn)) λΕ ζ=>?_;refine⟨R,?_⟩;apply ζ;have hw:=fC δ (show n<2 ^ 62 by omega);refine aB hw ?_;have gu:(ps L k i).map I≠[]:=λh=>by have:=congrArg List.length h;rw[List.length_map,Jk] at this;simp at this
   refine W.to (Β (i+1) δ R) ?_ ?_
   ·rw[eV,Jm,eJ (by simpa using gu)];rfl
   ·rw[eV];simp only[Int.toNat_natCast];rw[gX gu];simp[hw,Jk,mX]
 ·have δ:i=n:=by simp at δ;omega
  subst δ;refine W.exit rfl ?_;refine Η ?_;refine W.cut 1 η [(4,gM 1 ((hp d i).1.map I))] η (λid r b9 ι=>?_) ?_ ?_
  ·have:id=0:=by omega
   subst this;simp at ι;subst ι;exact λe he a κ=>by simp[θ.cells] at he;subst he;simp[θ.cells] at κ;rcases κ with rfl|rfl<;>simp[iL,θ.cells]
  ·intro p ψ;simp at ψ;subst ψ;show eT 1 _ (a9 _ 4) _;simp;refine Ed (t:=3) (Nat.le_refl _) (λο=>by rw[eJ ο];rfl) (λe he a κ=>?_);obtain⟨x,_,rfl⟩:=List.mem_map.1 he;simp[θ.cells] at κ;subst κ;exact .z _
  ·exact W.ret ⟨_,rfl,.acc,rfl⟩
theorem wH (d:cD) (h:Nat):fg h (cb d):=λe he a κ=>by
 simp[θ.cells] at he;subst he;simp[θ.cells] at κ;rcases κ with rfl|rfl<;>simp[iL,θ.cells]
section
variable {P:Program} {m nt:Nat} {k:List Item} {env:Ω} {Z:List Item->Ω->List Row->Prop} {E:θ->Ω->List Row->Prop}
theorem W.cγ {d:cD} {t kk:Nat} {l:List θ} {x:Nat} (hm:m<=1) (hb:∀e∈l,∀a∈e.cells,aG 0 a) (env':Ω) (hd:a9 env x=cY 1 l) (cT:∀p∈env',a9 env p.1=p.2/\aG 1 p.2) (hW:W P m nt k ((x,gM kk l)::env') [cb d] Z E):W P m nt k env (cb d::bG t kk l) Z E:=
 W.cut 1 hm ((x,gM kk l)::env') η (λid r b9 ι=>by
  have:id=0:=R;subst this;simp at ι;subst ι;exact wH d 1) (λp ψ=>by
  rcases List.mem_cons.1 ψ with rfl|ψ
  ·show eT 1 _ (a9 env x) _;rw[hd];exact Ed (t:=t) (Nat.le_refl _) (λο=>by rw[eJ ο];rfl) (λe he a κ=>(hb e he a κ).mono (Nat.zero_le _))
  ·rw[(cT p ψ).1];exact .low (cT p ψ).2) (by simpa using hW)
end
theorem cδ {i n:Nat} (h:i<n) (Ζ:n<1000):IntKind.i64.wrap ((i:Int)+1)=((i+1:Nat):Int):=by
 rw[IntWalk.i64_in _ R];omega
def iw (d:cD):Nat->List Int×cD
 | 0=>([],d)
 | i+1=>((iw d i).1++(if wF (iw d i).2 2 then [(i:Int)] else []),(iw d i).2.after 1)
theorem P2 (d:cD) (n:Nat):(iw d n).2.bf.length<=d.bf.length:=by
 induction n with
 | zero=>exact Nat.le_refl _
 | succ n Β=>exact Nat.le_trans (lD _ _) Β
theorem P3 (d:cD) (n:Nat):(iw d n).1.length<=n:=by
 induction n with
 | zero=>exact Nat.le_refl _
 | succ n Β=>
  show((iw d n).1++_).length<=_;rw[List.length_append];split<;>simp<;>omega
theorem cε (d:cD) (hd:d.bf.length<2 ^ 63):en 156 [I 2] d (a6 (wF d 2)) (d.after 1):=Ji d hd 2 bu bu
theorem cζ (d:cD) (hd:d.bf.length<2 ^ 63):en 129 [] d (bO I 1 (iw d 3).1) (iw d 3).2:=by
 unfold en;obtain⟨n,Ζ⟩:=aK 3;rw[<-Ζ];refine ae.body Ρ Tryz.func129 rfl rfl Tryz.ntmps129 rfl rfl η ?_;refine Η ?_;refine W.iter (λi:Nat=>i<=n) (λi=>[(0,.ar 0 1 0 0),(3,cY 1 ((iw d i).1.map I)),(4,I i)]) (λi=>cb (iw d i).2::bG 3 1 ((iw d i).1.map I)) (λi=>n-i) 0 (Nat.zero_le _) rfl (by simp[cY,iw]) (λi hi Β=>?_);refine Η ?_;refine W.eU rfl (λδ=>?_) (λδ=>?_)
 ·have δ:i<n:=by simp at δ;omega
  have eV:iw d (i+1)=((iw d i).1++(if wF (iw d i).2 2 then [(i:Int)] else []),(iw d i).2.after 1):=rfl
  have mX:=P3 d i;obtain⟨L,ab⟩:=aK ((iw d i).1);obtain⟨D,et⟩:=aK ((iw d i).2);have m':D.bf.length<2 ^ 63:=by rw[et];exact Nat.lt_of_le_of_lt (P2 d i) hd
  rw[<-ab,<-et] at eV;rw[<-ab] at mX;rw[<-ab,<-et];have hw:=cδ δ R;refine bl λΕ ζ=>?_;refine en.g (cε D m') (bD ?_);apply ζ;cases hb:wF D 2
  ·refine aa rfl ?_;refine aB hw ?_;refine W.to (Β (i+1) δ R) ?_ ?_
   ·rw[eV,hb];simp
   ·rw[eV,hb];simp[hw]
  ·refine ai rfl ?_
   repeat apply ad
   refine W.iu (A:=[14]) Ρ [(0,.ar 0 1 0 0),(3,cY 1 ((L++[(i:Int)]).map I)),(4,I i)] (cb (D.after 1)::bG 3 1 ((L++[(i:Int)]).map I)) ?_ (by
    rw[List.map_append,List.map_cons,List.map_nil,sS,gX (l:=L.map I++[I i]) η];by_cases Τ:L=[]
    ·subst Τ;(try simp);(repeat (rw[Ο];simp[kx,show cY 1 []=.sl true 0 [] from rfl]));(try simp[kx,show cY 1 []=.sl true 0 [] from rfl])
    ·have gu:L.map I≠[]:=by simpa using Τ
     (try simp);(repeat (rw[Ο];simp[gX gu,eJ gu]));(try simp[gX gu,eJ gu]);omega)
   refine aB hw ?_;refine W.to (Β (i+1) δ R) ?_ ?_
   ·rw[eV,hb];simp
   ·rw[eV,hb];simp[hw]
 ·have δ:i=n:=by simp at δ;omega
  subst δ;refine W.exit rfl ?_;refine Η ?_;refine W.cγ (x:=2) η (λe he a κ=>?_) [] η η ?_
  ·obtain⟨x,_,rfl⟩:=List.mem_map.1 he;simp[θ.cells] at κ;subst κ;exact .z _
  ·exact W.ret ⟨_,rfl,.acc,rfl⟩
end Go.TL
namespace Go.TL
open Go.Conc Go.Proofs
theorem Jo:@Seq oA calm:=@Seq.mk oA calm rfl (λ_ h=>h.rel) (λ_ h=>h.aM)
theorem cη (w:World):Calm (aZ.start w):=⟨rfl,rfl,rfl,λ_=>trivial⟩
def qy (w:World):aJ:=λb o=>((χ.lU w).aO b o).map (·.1)
theorem cθ (w:World):Holds (qy w) [] [] (χ.lU w):=
 ⟨λb o v h=>by
  unfold qy at h;cases δ:(χ.lU w).aO b o with
  | none=>rw[δ] at h;cases h
  | some x=>rw[δ] at h;cases h;exact⟨x.2,rfl⟩,rfl,λid r bo h=>by simp at h,λi j ez cg b gU gV _ h=>by simp at h,λid r b N h=>by simp at h⟩
theorem cι {P:Program} {f:FuncId} {fn:Func} {body:Code} {d:Nat} (bM:P.funcs[f]?=some fn) (nB:fn.body=some body) (e6:fn.results=#[.tmp d]) (br:P.inits.idxOf? f=none) {w:World} {l:List θ} {args:Array Value} (ι:fO (qy w) [] [] l args) (Ζ:l.length<=fn.ntmps)
  (hW:@W oA P 0 fn.ntmps [.code body] (entry 0 l) [] (λj env _=>(∃k,j=.code .ret::k)/\a9 env d=a6 true) (λ_ _ _=>False)):Comes P (λv=>v=.bool true) w (solo (Go.Conc.G (Frame.enter P f args .normal) []) w) #[]:=by
 letI:bn:=oA;refine Goes.comes ?_;show cx P _ true (aZ.start w) (Frame.enter P f args .normal) [] (χ.lU w);rw[qc bM nB];refine hW (λv=>v=.bool true) true calm [] (Frame.enter P f args .normal) (qy w) [] (χ.lU w) _ Jo rfl (fN.enter (cθ w) ι (Nat.le_refl _) Ζ) (λj env' σ' aE B' H' t' ag Τ κ ψ ο=>?_) (λa env' σ' aE B' H' t' ag v he=>he.elim) (aZ.start w) (cη w);obtain⟨⟨k,ε⟩,hd⟩:=Τ;have e:ag=j:=ο;subst e;subst ε;refine aR.ret Jo rfl rfl (aR.done (v:=.bool true) Jo (λy h=>h.shut) (λy h=>h.deaf) rfl rfl rfl bM br ?_ rfl);have hv:t'.getD d undef=.bool true:=by
  have:=ψ.cA d;rw[hd] at this;generalize t'.getD d undef=u at this;cases this;rfl
 show results fn t'=_;unfold results;rw[e6];rw[Array.getD_eq_getD_getElem?] at hv;simp[hv]
end Go.TL
namespace Go.TL
open Go.Conc Go.ConcM Go.Proofs
open Go.ChangeShapes Go.WideShapes Go.ChangeAt Go.RowKit
theorem cκ:ownKnob Tryz.prog.godebug=none:=by kernel_rfl
theorem fH.below {W w:World} (h:fH (λ_ _=>False) (λ_=>False) W w):Below W.heap.size W {w with os:=W.os}:=by
 refine⟨rfl,h.tape,h.output,h.size,λk ς=>?_⟩;show w.heap[k]?=W.heap[k]?;have e:=fq ς;cases δ:Obj.rW W.heap[k] with
 | false=>rw[e];exact h.nf k _ e δ id
 | true=>
  cases γ:W.heap[k] with
  | cells c t d'=>
   rw[γ] at e;obtain⟨c',J,U,μ⟩:=h.cells k c t d' e;have:c'=c:=by
    apply Array.ext' ;apply List.ext_getElem?;intro o;have:=μ o id;simpa using this
   rw[e,J,this]
  | _=>rw[γ] at δ;simp[Obj.rW] at δ
theorem cμ:laidOutB Tryz.prog=true:=by kernel_rfl
theorem cν:Tryz.prog.cellsOf 3=1:=by kernel_rfl
theorem cξ {W:World} {b o:Nat} {v:Value} (h:W.cell? ⟨b,o,none⟩=some v):qy W b o=some v:=by
 unfold World.cell? at h;unfold qy χ.lU;simp only at h ⊢;split at h
 ·rename_i c t d' δ;rw[δ];simp at h ⊢;exact h
 ·cases h
theorem cο {W:World} {a:Addr} {len cap:Nat} {gn:List Int} (ο:len<=cap) (Τ:len<=gn.length) (δ:∀i,i<gn.length->W.cell? (a.add i)=some (.int .i64 (gn.getD i 0))) :
  ay (qy W) [] [] (bO I 1 (gn.take len)) (.slice (some a) len cap):=by
 by_cases aj:len=0
 ·subst aj;exact .i' _ _ η
 ·have ν:a.spot=none:=by
   have:=δ 0 R;unfold World.cell? Addr.add at this;rw[if_pos rfl] at this;cases b0:a.spot with
   | none=>rfl
   | some x=>
    rw[b0] at this;simp at this;split at this<;>simp at this
  obtain⟨b,o,sp⟩:=a;simp only at ν;subst ν;have hlen:(gn.take len).length=len:=by rw[List.length_take];omega
  have one:∀(i:Nat) (e:θ),((gn.take len).map I)[i]?=some e->i<len/\e=I (gn.getD i 0):=λi e hi=>by
   have jc:i<len:=by have:=(cf.1 hi).1;rw[List.length_map,hlen] at this;exact this
   rw[List.getElem?_map,List.getElem?_take_of_lt jc,bg R] at hi;refine⟨jc,?_⟩;rw[List.getD_eq_getElem?_getD,bg R];simpa using hi.symm
  have:=ay.sl (S:=qy W) (B:=[]) (σ:=[]) (ex:=false) (k:=1) (l:=(gn.take len).map I) b o cap (λi _=>.int .i64 (gn.getD i 0)) η (by rw[List.length_map,hlen];exact ο)
   (λi e hi=>by rw[(one i e hi).2];rfl) (λi e hi j c ε=>by
    obtain⟨J,rfl⟩:=one i e hi
    match j with
    | 0=>
     refine cξ ?_;have:=δ i R;unfold Addr.add at this;rw[Nat.mul_one,Nat.add_zero];split at this
     ·rename_i cl;subst cl;exact this
     ·exact this
    | j+1=>simp[θ.cells] at ε) (λi e hi j c ε=>by
    obtain⟨J,rfl⟩:=one i e hi
    match j with
    | 0=>simp[θ.cells] at ε;subst ε;exact .z _
    | j+1=>simp[θ.cells] at ε)
  rw[List.length_map,hlen] at this;exact this
end Go.TL
namespace Go.TL
open Go.Proofs
variable [bn]
theorem yv (d:cD) {a b:Int} (h:a<=b) (κ:-1000<a) (hb:b<1000):a<=nS d a b/\nS d a b<=b:=by
 unfold nS;rw[IntWalk.i64_in (b-a) R];obtain⟨t0,t1⟩:=uM d (b-a) R R;generalize iS d (b-a)=x at t0 t1;rw[IntWalk.i64_in (a+x) R];omega
theorem cπ (l:List Int) (k:Nat) (x:Int):(ps l k x).Perm (x::l):=by
 unfold ps;have h:(l.take k++x::l.drop k).Perm (x::(l.take k++l.drop k)):=List.perm_middle
 rwa [List.take_append_drop] at h
theorem P4 (d:cD) (n:Nat):(hp d n).1.Perm ((List.range n).map λ(i:Nat)=>(i:Int)):=by
 induction n with
 | zero=>exact .refl _
 | succ n Β=>
  show(ps _ _ _).Perm _;refine(cπ _ _ _).trans ?_;rw[List.range_succ,List.map_append];refine(List.Perm.cons _ Β).trans ?_;exact(List.perm_append_singleton _ _).symm
theorem P5 {d:cD} {n:Nat} {x:Int} (h:x∈(hp d n).1):0<=x/\x<n:=by
 have:=(P4 d n).mem_iff.1 h;obtain⟨i,hi,rfl⟩:=List.mem_map.1 this;have:=List.mem_range.1 hi;omega
theorem P6 (d:cD) (n:Nat):(hp d n).1.Nodup:=by
 refine(P4 d n).nodup_iff.2 ?_;unfold List.Nodup;rw[List.pairwise_map];exact List.nodup_range.imp λh e=>h R
structure pt (l:List l8):Prop where
 lo:1<=l.length
 hi:l.length<=6
 each:∀g∈l,sK g.name=false/\1<=g.eI/\g.eI<=63
 P7:l.Pairwise λa b=>sn b.name a.name=false
 apart:l.Pairwise λa b=>a.eI≠b.eI
theorem A9 {l:List Int} (h:∀x∈l,x=0):ji l=0:=by
 induction l with
 | nil=>rfl
 | cons x l Β=>
  have:=h x η;subst this;simp[ji];exact Β λy Ι=>h y (by simp[Ι])
theorem pt.err {l:List l8} (h:pt l):oj l=0:=by
 unfold oj;have J:=h.lo;have U:=h.hi;rw[if_neg R,if_neg R];refine A9 λx γ=>?_;obtain⟨i,hi,rfl⟩:=List.mem_map.1 γ;have hi:=List.mem_range.1 hi;unfold qa;rw[bg hi];obtain⟨Δ,Γ,a2⟩:=h.each _ (List.getElem_mem hi);simp only;rw[if_neg (by rw[Δ];simp),if_neg,if_neg R,if_neg]
 ·intro κ;obtain⟨y,Ι,he⟩:=List.any_eq_true.1 κ;obtain⟨j,ε,rfl⟩:=List.mem_take_iff_getElem.1 Ι;have:=List.pairwise_iff_getElem.1 h.apart j i R hi R;simp at he;exact this he
 ·rintro⟨k2,ν⟩;rw[bg R] at ν;have:=List.pairwise_iff_getElem.1 h.P7 (i-1) i R hi R;simp only[Option.map_some,Option.getD_some] at ν;rw[ν] at this;cases this
def nq (i:Nat):ByteArray:=⟨#[[97,98,99,100,111,122].getD i 0]⟩
def jL:List Int:=[4,9,6,12,48,8,3,16,5,10,20]
def kW (ord:List Int) (last:Int) (i:Nat):l8:=⟨nq i,(jL++[last]).getD ((ord.getD i 0).toNat) 0⟩
structure Made (ord:List Int):Prop where
 len:ord.length=11
 mem:∀x∈ord,0<=x/\x<11
 nodup:ord.Nodup
theorem cρ (d:cD):Made (hp d 11).1:=⟨Jl d 11,λ_ h=>P5 h,P6 d 11⟩
theorem Made.get {ord:List Int} (h:Made ord) {i:Nat} (hi:i<11):∃k:Nat,k<11/\ord[i]?=some (k:Int)/\∀last,(jL++[last])[k]?=some (jL.getD k 0)/\1<=jL.getD k 0/\jL.getD k 0<=63:=by
 have ο:=h.len
 have hm:=h.mem _ (List.getElem_mem (l:=ord) (n:=i) R);refine⟨(ord[i]).toNat,R,by rw[bg R];congr 1;omega,λlast=>?_⟩;have ς:(ord[i]).toNat<11:=R;generalize (ord[i]).toNat=k at ς;rw[ev (by simpa[jL] using ς)];have:∀k<11,jL[k]?=some (jL.getD k 0)/\1<=jL.getD k 0/\jL.getD k 0<=63:=bu;exact this k ς
theorem cς:∀a<11,∀b<11,jL.getD a 0=jL.getD b 0->a=b:=bu
theorem cτ:∀i<6,sK (nq i)=false:=by decide +kernel
theorem cυ:∀j<6,∀i<j,sn (nq j) (nq i)=false:=by decide +kernel
theorem Fa {ord:List Int} (h:Made ord) (last:Int) {i:Nat} (hi:i<11):∃k:Nat,k<11/\ord[i]?=some (k:Int)/\(kW ord last i).eI=jL.getD k 0/\1<=jL.getD k 0/\jL.getD k 0<=63:=by
 obtain⟨k,ς,ω,ν⟩:=h.get hi;obtain⟨J,U,μ⟩:=ν last;refine⟨k,ς,ω,?_,U,μ⟩;unfold kW;rw[show ord.getD i 0=(k:Int) from by rw[List.getD_eq_getElem?_getD,ω];rfl,Int.toNat_natCast];show(jL++[last]).getD k 0=_;rw[List.getD_eq_getElem?_getD,J];rfl
theorem cφ {ord:List Int} (h:Made ord) (last:Int) {i j:Nat} (hi:i<11) (ε:j<11) (e:(kW ord last i).eI=(kW ord last j).eI):i=j:=by
 obtain⟨a,κ,lk,cχ,_⟩:=Fa h last hi;obtain⟨b,hb,iZ,Ee,_⟩:=Fa h last ε;rw[cχ,Ee] at e;have:=cς a κ b hb e;subst this;have ο:=h.len;exact(List.getElem?_inj R h.nodup).1 (lk.trans iZ.symm)
theorem cψ {ord:List Int} (h:Made ord) (last:Int) {an:List Nat} (cQ:an.Pairwise (· < ·)) (ba:∀j∈an,j<6) (J:1<=an.length) (Ζ:an.length<=6):pt (an.map (kW ord last)):=by
 refine⟨by simpa using J,by simpa using Ζ,λg Ξ=>?_,?_,?_⟩
 ·obtain⟨j,ε,rfl⟩:=List.mem_map.1 Ξ;have:=ba j ε;obtain⟨k,_,_,e,Δ,Γ⟩:=Fa h last (i:=j) R;exact⟨cτ j this,R,R⟩
 ·rw[List.pairwise_map];refine(List.pairwise_iff_forall_sublist.2 λ{a b} ν=>?_);have eN:=(List.pairwise_iff_forall_sublist.1 cQ) ν;exact cυ b (ba b (ν.subset η)) a eN
 ·rw[List.pairwise_map];refine(List.pairwise_iff_forall_sublist.2 λ{a b} ν=>λe=>?_);have eN:=(List.pairwise_iff_forall_sublist.1 cQ) ν;have κ:=ba a (ν.subset η);have hb:=ba b (ν.subset η);have:=cφ h last R R e;omega
theorem pt.set {l:List l8} (h:pt l) {k:Nat} (ς:k<l.length) {x:Int} (J:1<=x) (U:x<=63) (Υ:∀g∈l,g.eI≠x):pt (l.set k ⟨l[k].name,x⟩):=by
 have get:∀(i:Nat) (hi:i<(l.set k ⟨l[k].name,x⟩).length),(l.set k ⟨l[k].name,x⟩)[i].name=(l[i]'(by simpa using hi)).name/\((l.set k ⟨l[k].name,x⟩)[i].eI=x/\i=k\/(l.set k ⟨l[k].name,x⟩)[i].eI=(l[i]'(by simpa using hi)).eI/\i≠k):=by
  intro i hi;rw[List.getElem_set];split
  ·rename_i e;subst e;exact⟨rfl,.inl ⟨rfl,rfl⟩⟩
  ·rename_i e;exact⟨rfl,.inr ⟨rfl,λh=>e h.symm⟩⟩
 refine⟨by simpa using h.lo,by simpa using h.hi,λg Ξ=>?_,?_,?_⟩
 ·obtain⟨i,hi,rfl⟩:=List.getElem_of_mem Ξ;obtain⟨Δ,Γ⟩:=get i hi;obtain⟨a,b,c⟩:=h.each _ (List.getElem_mem (l:=l) (n:=i) (by simpa using hi));rw[Δ];rcases Γ with⟨Γ,_⟩|⟨Γ,_⟩<;>rw[Γ]
  ·exact⟨a,J,U⟩
  ·exact⟨a,b,c⟩
 ·rw[List.pairwise_iff_getElem];intro i j hi ε fU;rw[(get i hi).1,(get j ε).1];exact List.pairwise_iff_getElem.1 h.P7 i j (by simpa using hi) (by simpa using ε) fU
 ·rw[List.pairwise_iff_getElem];intro i j hi ε fU;have aD:i<l.length:=by simpa using hi
  have aH:j<l.length:=by simpa using ε
  rcases(get i hi).2 with⟨Δ,Γ⟩|⟨Δ,Γ⟩<;>rcases(get j ε).2 with⟨a2,cL⟩|⟨a2,cL⟩<;>rw[Δ,a2]
  ·omega
  ·exact λe=>Υ _ (List.getElem_mem aH) e.symm
  ·exact λe=>Υ _ (List.getElem_mem aD) e
  ·exact List.pairwise_iff_getElem.1 h.apart i j aD aH fU
end Go.TL
