import Derived.Test.YtlabjopijpkiaaaGreatCAI
set_option maxHeartbeats 16000000
set_option maxRecDepth 20000
set_option linter.unusedSectionVars false
set_option linter.unusedSimpArgs false
set_option linter.unusedVariables false
namespace Go.TL
open Go.Conc
inductive aJ (h:Nat):η->Prop where
 | z (v:Value):aJ h (.z v)
 | ao {l:List η}:(∀a∈l,aJ h a)->aJ h (.ao l)
 | sl {ex:Bool} {k:Nat} {l:List η}:(∀e∈l,∀a∈e.cells,aJ h a)->aJ h (.sl ex k l)
 | a0 {l:List η}:(∀a∈l,aJ h a)->aJ h (.a0 l)
 | bq {l:List η}:(∀a∈l,aJ h a)->aJ h (.bq l)
 | ah {id n i j:Nat}:id<h->aJ h (.ah id n i j)
 | ms {id n i len:Nat}:id<h->aJ h (.ms id n i len)
 | fn {f:Fn} {df cs:List η}:(∀a∈df,aJ h a)->(∀a∈cs,aJ h a)->aJ h (.fn f df cs)
 | fY {t:TypeId} {a:η}:aJ h a->aJ h (.fY t a)
 | mp {id:Nat}:id<h->aJ h (.mp id)
 | it {id:Nat}:id<h->aJ h (.it id)
 | cg:aJ h .cg
def e3 (h:Nat):Row->Prop
 | .cells _ _ l=>∀e∈l,∀a∈e.cells,aJ h a
 | .map es=>∀e∈es,aJ h e.1/\aJ h e.2
 | .iter m left cur=>m<h/\(∀e∈left,aJ h e.1/\aJ h e.2)/\∀e,cur=some e->aJ h e.1/\aJ h e.2
 | .dead=>True
inductive eJ (h:Nat) (σ:List Row):η->η->Prop where
 | low {a:η}:aJ h a->eJ h σ a a
 | cg (a:η):eJ h σ a .cg
 | ms {id n i len k:Nat} {t:TypeId} {l ep:List η}:h<=id->σ[id]?=some (.cells t k l)->l.length=n->i+len<=n->ep.length=len->
   (∀(j:Nat) (e aM:η),l[i+j]?=some e->ep[j]?=some aM->aM.cells.length=e.cells.length)->(∀(j:Nat) (e aM:η),l[i+j]?=some e->ep[j]?=some aM->∀(x:Nat) (a bT:η),e.cells[x]?=some a->aM.cells[x]?=some bT->eJ h σ a bT)->eJ h σ (.ms id n i len) (.sl false k ep)
 | ah {id n i j k:Nat} {t:TypeId} {l cs:List η} {e:η}:h<=id->σ[id]?=some (.cells t k l)->l.length=n->l[i]?=some e->cs.length<=e.cells.length-j->
   (∀(x:Nat) (a bT:η),e.cells[j+x]?=some a->cs[x]?=some bT->eJ h σ a bT)->eJ h σ (.ah id n i j) (.ao cs)
 | a0 {l ep:List η}:ep.length=l.length->(∀(x:Nat) (a bT:η),l[x]?=some a->ep[x]?=some bT->eJ h σ a bT)->eJ h σ (.a0 l) (.a0 ep)
 | bq {l ep:List η}:ep.length=l.length->(∀(x:Nat) (a bT:η),l[x]?=some a->ep[x]?=some bT->eJ h σ a bT)->eJ h σ (.bq l) (.bq ep)
 | fn {f:Fn} {df HN cs cs':List η}:HN.length=df.length->cs'.length=cs.length->(∀(x:Nat) (a bT:η),df[x]?=some a->HN[x]?=some bT->eJ h σ a bT)->(∀(x:Nat) (a bT:η),cs[x]?=some a->cs'[x]?=some bT->eJ h σ a bT)->eJ h σ (.fn f df cs) (.fn f HN cs')
section
variable {S:aL} {B:aW} {H:Α} {σ:List Row} {h:Nat}
def Late (B:aW) (σ:List Row) (h b:Nat):Prop:=∃id t k l N,h<=id/\σ[id]?=some (Row.cells t k l)/\B[id]?=some (some (b,N))
open Classical in
noncomputable def aL.close (S:aL) (B:aW) (σ:List Row) (H:Α) (h:Nat):aL:=λb o=>if Late B σ h b then(H.aP b o).map (·.1) else S b o
theorem D4 (Β:Holds S B σ H):∀b o v,S b o=some v->S.close B σ H h b o=some v:=λb o v hv=>by
 unfold aL.close;split
 ·rename_i ξ;obtain⟨id,t,k,l,N,J,U,μ⟩:=ξ;have:=Β.sep id _ b N U trivial μ o;rw[hv] at this;cases this
 ·exact hv
theorem av.rH (Β:Holds S B σ H) {a:η} {v:Value} (ι:av S B σ a v) (hb:aJ h a):av (S.close B σ H h) (B.take h) (σ.take h) a v:=by
 have bj:∀{α:Type} (l:List α) (i:Nat),i<h->(l.take h)[i]?=l[i]?:=λl i hi=>List.getElem?_take_of_lt hi
 induction ι with
 | z v=>exact .z v
 | ao b o w J _ ω=>
  cases hb with
  | ao hb=>exact .ao b o w (λj a δ=>D4 Β _ _ _ (J j a δ)) λj a δ=>ω j a δ (hb a (cG δ))
 | iB base cap h=>exact .iB base cap h
 | sl b o cap w J U μ Ε _ ω=>
  cases hb with
  | sl hb=>exact .sl b o cap w J U μ (λi e hi j c δ=>D4 Β _ _ _ (Ε i e hi j c δ)) λi e hi j c δ=>ω i e hi j c δ (hb e (cG hi) c (cG δ))
 | a0 vs J _ ω=>
  cases hb with
  | a0 hb=>exact .a0 vs J λi a v hi hv=>ω i a v hi hv (hb a (cG hi))
 | bq vs J _ ω=>
  cases hb with
  | bq hb=>exact .bq vs J λi a v hi hv=>ω i a v hi hv (hb a (cG hi))
 | ah J U μ=>
  cases hb with
  | ah hb=>exact .ah (by rw[bj _ _ hb];exact J) U (by rw[bj _ _ hb];exact μ)
 | j9 v J U=>
  cases hb with
  | ah hb=>exact .j9 v (by rw[bj _ _ hb];exact J) U
 | ms cap J U μ Ε au bd=>
  cases hb with
  | ms hb=>exact .ms cap (by rw[bj _ _ hb];exact J) U (by rw[bj _ _ hb];exact μ) Ε au bd
 | jO v J U=>
  cases hb with
  | ms hb=>exact .jO v (by rw[bj _ _ hb];exact J) U
 | fn vs ws J U _ _ sP mZ=>
  cases hb with
  | fn lu gP=>exact .fn vs ws J U (λi a v hi hv=>sP i a v hi hv (lu a (cG hi))) λi a v hi hv=>mZ i a v hi hv (gP a (cG hi))
 | fY v _ ω=>
  cases hb with
  | fY hb=>exact .fY v (ω hb)
 | mp J U=>
  cases hb with
  | mp hb=>exact .mp (by rw[bj _ _ hb];exact J) (by rw[bj _ _ hb];exact U)
 | l8 v J=>
  cases hb with
  | mp hb=>exact .l8 v (by rw[bj _ _ hb];exact J)
 | it J U=>
  cases hb with
  | it hb=>exact .it (by rw[bj _ _ hb];exact J) (by rw[bj _ _ hb];exact U)
 | nI v J=>
  cases hb with
  | it hb=>exact .nI v (by rw[bj _ _ hb];exact J)
 | cg v=>exact .cg v
theorem M5 {id b N:Nat} {t:TypeId} {k:Nat} {l:List η} (an:h<=id) (J:σ[id]?=some (.cells t k l)) (U:B[id]?=some (some (b,N))) {o:Nat} {v:Value} {p:Bool} (hv:H.aP b o=some (v,p)):S.close B σ H h b o=some v:=by
 unfold aL.close;rw[if_pos ⟨id,t,k,l,N,an,J,U⟩,hv];rfl
theorem av.VK (Β:Holds S B σ H) {a bT:η} (ν:eJ h σ a bT):∀{v:Value},av S B σ a v->av (S.close B σ H h) (B.take h) (σ.take h) bT v:=by
 induction ν with
 | low hb=>intro v ι;exact ι.rH Β hb
 | cg a=>intro v _;exact .cg v
 | @ms id n i len k t l ep J U μ Ε au bd _ ω=>
  intro v ι;cases ι with
  | ms cap Ρ aa aX ca gf i'=>
   rw[U] at Ρ;cases Ρ;by_cases Φ:ep=[]
   ·subst Φ;have:len=0:=by rw[<-au];rfl
    subst this;exact .iB _ _ ζ
   ·have qj:0<len:=by rw[<-au];exact List.length_pos_iff.2 Φ
    rcases i' with i'|⟨b,N,rfl,rfl,i'⟩
    ·omega
    ·obtain⟨_,_,_,w,hw⟩:=Β.row id _ _ U aX;have el:∀(j:Nat) (aM:η),ep[j]?=some aM->∃e,l[i+j]?=some e/\e.cells.length=k/\aM.cells.length=k:=λj aM δ=>by
      have aO:j<len:=by rw[<-au];exact(bX.1 δ).1
      have he:l[i+j]?=some l[i+j]:=a8 R;exact⟨_,he,(hw _ _ he).1,(bd j _ aM he δ).trans (hw _ _ he).1⟩
     have:=av.sl (S:=S.close B σ H h) (B:=B.take h) (σ:=σ.take h) (ex:=false) (k:=k) (l:=ep) b (i*k) cap (λj x=>w (i+j) x) ζ R (λj aM δ=>(el j aM δ).choose_spec.2.2)
      (λj aM δ x bT γ=>by
       obtain⟨e,Γ,Δ,a4⟩:=el j aM δ;have D5:x<e.cells.length:=by rw[Δ,<-a4];exact(bX.1 γ).1
       have:=((hw _ e Γ).2 x _ (a8 D5)).1;rw[Nat.add_mul] at this;exact M5 J U aX this)
      (λj aM δ x bT γ=>by
       obtain⟨e,Γ,Δ,a4⟩:=el j aM δ;have D5:x<e.cells.length:=by rw[Δ,<-a4];exact(bX.1 γ).1
       exact ω j e aM Γ δ x _ bT (a8 D5) γ ((hw _ e Γ).2 x _ (a8 D5)).2.1)
     rw[au] at this;exact this
  | jO v Ρ aa=>rw[U] at Ρ;cases Ρ;simp only[Row.hx] at aa;omega
 | @ah id n i j k t l cs e J U μ Ε au bd ω=>
  intro v ι;cases ι with
  | ah Ρ aa aX=>
   rw[U] at Ρ;cases Ρ;obtain⟨_,_,_,w,hw⟩:=Β.row id _ _ U aX;have el:∀(x:Nat) (bT:η),cs[x]?=some bT->∃a,e.cells[j+x]?=some a:=λx bT γ=>by
    have:=(bX.1 γ).1;exact⟨_,a8 R⟩
   refine .ao _ _ (λx=>w i (j+x)) (λx bT γ=>?_) (λx bT γ=>?_)
   ·obtain⟨a,κ⟩:=el x bT γ;have:=((hw i e Ε).2 _ a κ).1;rw[<-Nat.add_assoc] at this;exact M5 J U aX this
   ·obtain⟨a,κ⟩:=el x bT γ;exact ω x a bT κ γ ((hw i e Ε).2 _ a κ).2.1
  | j9 v Ρ aa=>rw[U] at Ρ;cases Ρ;simp only[Row.hx] at aa;omega
 | a0 J U ω=>
  intro v ι;cases ι with
  | a0 vs Ρ aa=>
   refine .a0 vs (by rw[J,Ρ]) λi bT w hi hv=>?_;have aO:=(bX.1 hi).1;have κ:=a8 (J▸aO);exact ω i _ bT κ hi (aa i _ w κ hv)
 | bq J U ω=>
  intro v ι;cases ι with
  | bq vs Ρ aa=>
   refine .bq vs (by rw[J,Ρ]) λi bT w hi hv=>?_;have aO:=(bX.1 hi).1;have κ:=a8 (J▸aO);exact ω i _ bT κ hi (aa i _ w κ hv)
 | fn J U _ _ sP mZ=>
  intro v ι;cases ι with
  | fn vs ws Ρ aa aX ca=>
   refine .fn vs ws (by rw[J,Ρ]) (by rw[U,aa]) (λi bT w hi hv=>?_) (λi bT w hi hv=>?_)
   ·have aO:=(bX.1 hi).1
    have κ:=a8 (J▸aO);exact sP i _ bT κ hi (aX i _ w κ hv)
   ·have aO:=(bX.1 hi).1
    have κ:=a8 (U▸aO);exact mZ i _ bT κ hi (ca i _ w κ hv)
theorem j'.rH (Β:Holds S B σ H) {r:Row} {bo:Option (Nat×Nat)} (ι:j' S B σ H r bo) (hb:e3 h r):j' (S.close B σ H h) (B.take h) (σ.take h) H r bo:=by
 have bj:∀{α:Type} (l:List α) (i:Nat),i<h->(l.take h)[i]?=l[i]?:=λl i hi=>List.getElem?_take_of_lt hi;cases r with
 | cells t k l=>
  cases bo with
  | none=>exact ι
  | some x=>
   obtain⟨b,N⟩:=x;obtain⟨J,U,μ,w,Ε⟩:=ι;refine⟨J,U,μ,w,λi e hi=>⟨(Ε i e hi).1,λj a δ=>?_⟩⟩;obtain⟨c1,c2,c3⟩:=(Ε i e hi).2 j a δ;exact⟨c1,c2.rH Β (hb e (cG hi) a (cG δ)),c3⟩
 | map es=>
  obtain⟨b,N,xs,clock,rfl,J,U,μ,Ε⟩:=ι;exact⟨b,N,xs,clock,rfl,J,U,λi e y a b=>by
   obtain⟨c1,c2,c3⟩:=μ i e y a b;exact⟨c1.rH Β (hb e (cG a)).1,c2.rH Β (hb e (cG a)).2,c3⟩,Ε⟩
 | iter m left cur=>
  obtain⟨hm,lu,gP⟩:=hb;obtain⟨b,N,aZ,kX,xs,clock,seen,rfl,J,U,μ,Ε,⟨cL,i1,i2,i3⟩,i4,i5⟩:=ι;refine⟨b,N,aZ,kX,xs,clock,seen,rfl,by rw[bj _ _ hm];exact J,by rw[bj _ _ hm];exact U,μ,Ε,⟨cL,i1,i2,λi e y a b=>?_⟩,i4,λe he=>?_⟩
  ·obtain⟨c1,c2⟩:=i3 i e y a b;exact⟨c1.rH Β (lu e (cG a)).1,c2.rH Β (lu e (cG a)).2⟩
  ·obtain⟨st,y,a,b,c,d⟩:=i5 e he;exact⟨st,y,a,b,c.rH Β (gP e he).1,d.rH Β (gP e he).2⟩
 | dead=>trivial
theorem Holds.close (Β:Holds S B σ H) (hb:∀(id:Nat) (r:Row),id<h->σ[id]?=some r->e3 h r) :
  Holds (S.close B σ H h) (B.take h) (σ.take h) H/\Ext S B H (S.close B σ H h) (B.take h) H:=by
 have bj:∀{α:Type} (l:List α) (i:Nat) (x:α),(l.take h)[i]?=some x->i<h/\l[i]?=some x:=λl i x hi=>by
  rw[List.getElem?_take] at hi;split at hi
  ·exact⟨‹_›,hi⟩
  ·cases hi
 refine⟨⟨λb o v hv=>?_,by simp[Β.len],λid r bo ι ey=>?_,λi j ew cj b gC gD fz hi δ h9 d' gQ cO=>?_,λid r b N ι ξ ey o=>?_⟩,⟨D4 Β,λb _ _=>nJ.of ⟨λ_=>rfl,rfl,rfl⟩,λb ⟨N,ck⟩=>.inl ⟨N,List.mem_of_mem_take ck⟩,λb o v hv=>?_,λ_ h=>h⟩⟩
 ·unfold aL.close at hv;split at hv
  ·cases ε:H.aP b o with
   | none=>rw[ε] at hv;cases hv
   | some x=>rw[ε] at hv;cases hv;exact⟨x.2,rfl⟩
  ·exact Β.dm b o v hv
 ·obtain⟨J,U⟩:=bj _ _ _ ι;obtain⟨_,μ⟩:=bj _ _ _ ey;exact(Β.row id r bo U μ).rH Β (hb id r J U)
 ·exact Β.inj i j ew cj b gC gD fz (bj _ _ _ hi).2 (bj _ _ _ δ).2 h9 d' (bj _ _ _ gQ).2 (bj _ _ _ cO).2
 ·obtain⟨J,U⟩:=bj _ _ _ ι;obtain⟨_,μ⟩:=bj _ _ _ ey;unfold aL.close;rw[if_neg]
  ·exact Β.sep id r b N U ξ μ o
  ·rintro⟨D6,t,k,l,e',Ρ,aa,aX⟩;exact Β.inj id D6 r _ b N e' R U aa ξ trivial μ aX
 ·unfold aL.close at hv;split at hv
  ·rename_i ξ;obtain⟨id,t,k,l,N,_,_,μ⟩:=ξ;exact .inr (.inl (pf μ))
  ·exact .inl hv
theorem b3.close {fu:aL} {eH:aW} {σ0:List Row} (Β:Holds S B σ H) (ξ:b3 fu S eH B σ0 σ) (aY:σ0.length<=h):b3 fu (S.close B σ H h) eH (B.take h) σ0 (σ.take h):=
 ⟨λb o v hv=>D4 Β b o v (ξ.dm b o v hv),λid r ι=>by
  have b5:id<h:=Nat.lt_of_lt_of_le (bX.1 ι).1 aY;obtain⟨r',J,U⟩:=ξ.rows id r ι;exact⟨r',by rw[List.getElem?_take_of_lt b5];exact J,by rw[List.getElem?_take_of_lt b5];exact U⟩⟩
end
end Go.TL
namespace Go.TL
open Go.Conc
variable [bp]
structure e4 (m:Nat) (S:aL) (B:aW) (H:Α) (σ:List Row) (aF:aL) (B':aW) (H':Α) (σ':List Row):Prop where
 ext:Ext S B H aF B' H'
 later:b3 S aF (B.take m) B' (σ.take m) σ'
structure fO (m nt:Nat) (S:aL) (B:aW) (H:Α) (σ:List Row) (env:Χ) (t:Array Value):Prop where
 holds:Holds S B σ H
 cx:dv S B σ env t
 size:t.size=nt
 rows:m<=σ.length
section
variable {m:Nat} {S aF z0:aL} {B B' z1:aW} {H H' M6:Α} {σ σ' z2:List Row}
theorem b3.left (h:b3 S aF B B' σ σ') (m:Nat):b3 S aF (B.take m) B' (σ.take m) σ':=
 ⟨h.dm,λid r ι=>by
  rw[List.getElem?_take] at ι;split at ι
  ·rename_i aO;rw[List.getElem?_take_of_lt aO];exact h.rows id r ι
  ·cases ι⟩
theorem b3.right (h:b3 S aF B B' σ σ') (hm:σ.length<=m):b3 S aF B (B'.take m) σ (σ'.take m):=
 ⟨h.dm,λid r ι=>by
  have aO:id<m:=Nat.lt_of_lt_of_le (bX.1 ι).1 hm;rw[List.getElem?_take_of_lt aO,List.getElem?_take_of_lt aO];exact h.rows id r ι⟩
theorem e4.of (h:Ext S B H aF B' H') (k:b3 S aF B B' σ σ'):e4 m S B H σ aF B' H' σ':=⟨h,k.left m⟩
theorem e4.refl:e4 m S B H σ S B H σ:=.of (.refl _ _ _) (.refl _ _ _)
theorem e4.trans (h:e4 m S B H σ aF B' H' σ') (k:e4 m aF B' H' σ' z0 z1 M6 z2):e4 m S B H σ z0 z1 M6 z2:=
 ⟨h.ext.trans k.ext,(h.later.right (m:=m) (by simp;omega)).trans k.later⟩
theorem b3.length (h:b3 S aF B B' σ σ'):σ.length<=σ'.length:=by
 apply Classical.byContradiction;intro Ζ;have aO:σ'.length<σ.length:=R;obtain⟨r',J,_⟩:=h.rows σ'.length _ (a8 aO);simp at J
end
def Leaves (j:List Item) (k:List Item):Prop:=k=j
def W (P:Program) (m nt:Nat) (k:List Item) (env:Χ) (σ:List Row) (Z:List Item->Χ->List Row->Prop) (E:η->Χ->List Row->Prop):Prop:=
 ∀(Q:Value->Prop) (mn:Bool) (x:g9) (cs:List Frame) (b:Frame) (S:aL) (B:aW) (H:Α) (t:Array Value),Seq x->b.mode=.run->fO m nt S B H σ env t->
  (∀(j:List Item) (env':Χ) (σ':List Row) (aF:aL) (B':aW) (H':Α) (t':Array Value) (af:List Item),Z j env' σ'->e4 m S B H σ aF B' H' σ'->fO m nt aF B' H' σ' env' t'->Leaves j af->aU P Q mn x (ax b t' af) cs H')->
  (∀(a:η) (env':Χ) (σ':List Row) (aF:aL) (B':aW) (H':Α) (t':Array Value) (af:List Item) (v:Value),E a env' σ'->e4 m S B H σ aF B' H' σ'->Holds aF B' σ' H'->dv aF B' σ' env' t'->av aF B' σ' a v->aU P Q mn x {ax b t' af with mode:=.panicking [{v,recovered:=false}]} cs H')->
  aU P Q mn x (ax b t k) cs H
section
variable {P:Program} {m nt:Nat} {k:List Item} {env:Χ} {σ:List Row} {Z:List Item->Χ->List Row->Prop} {E:η->Χ->List Row->Prop}
theorem W.stop (h:Z k env σ):W P m nt k env σ Z E:=λ_ _ _ _ _ S B H t _ _ π Φ _=>Φ k env σ S B H t k h .refl π rfl
theorem W.nil (h:Z [] env σ):W P m nt [] env σ Z E:=.stop h
theorem W.ret (h:Z (.code .ret::k) env σ):W P m nt (.code .ret::k) env σ Z E:=.stop h
theorem W.skip (h:W P m nt k env σ Z E):W P m nt (.code .skip::k) env σ Z E:=λQ mn x cs b S B H t γ hb π Φ he=>.skip γ hb (h Q mn x cs b S B H t γ hb π Φ he)
theorem W.inBlock {l:Nat} (h:W P m nt k env σ Z E):W P m nt (.inBlock l::k) env σ Z E:=λQ mn x cs b S B H t γ hb π Φ he=>.inBlock γ hb (h Q mn x cs b S B H t γ hb π Φ he)
theorem W.seq {a c:Code} (h:W P m nt (.code a::.code c::k) env σ Z E):W P m nt (.code (.seq a c)::k) env σ Z E:=λQ mn x cs b S B H t γ hb π Φ he=>.seq γ hb (h Q mn x cs b S B H t γ hb π Φ he)
theorem W.block {l:Nat} {c:Code} (h:W P m nt (.code c::.inBlock l::k) env σ Z E):W P m nt (.code (.block l c)::k) env σ Z E:=λQ mn x cs b S B H t γ hb π Φ he=>.block γ hb (h Q mn x cs b S B H t γ hb π Φ he)
theorem W.inLoop {c:Code} (h:W P m nt (.code c::.inLoop c::k) env σ Z E):W P m nt (.inLoop c::k) env σ Z E:=λQ mn x cs b S B H t γ hb π Φ he=>.inLoop γ hb (h Q mn x cs b S B H t γ hb π Φ he)
theorem W.loop {c:Code} (h:W P m nt (.code c::.inLoop c::k) env σ Z E):W P m nt (.code (.loop c)::k) env σ Z E:=λQ mn x cs b S B H t γ hb π Φ he=>.loop γ hb (h Q mn x cs b S B H t γ hb π Φ he)
theorem W.exit {id:Nat} {af:List Item} (χ:exitTo id k=some af) (h:W P m nt af env σ Z E):W P m nt (.code (.exit id)::k) env σ Z E:=λQ mn x cs b S B H t γ hb π Φ he=>.exit γ hb χ (h Q mn x cs b S B H t γ hb π Φ he)
theorem W.cond {c:Operand} {a e:Code} {v:Bool} (ε:aR env c=.z (.bool v)) (h:W P m nt (.code (if v then a else e)::k) env σ Z E):W P m nt (.code (.cond c a e)::k) env σ Z E:=λQ mn x cs b S B H t γ hb π Φ he=>by
 refine .cond (v:=v) γ hb ?_ (h Q mn x cs b S B H t γ hb π Φ he);have:=l' π.cx c;rw[ε] at this;rw[zY];generalize bl t c=u at this;cases this;rfl
theorem W.cut (h:Nat) (hm:m<=h) (env':Χ) (aY:h<=σ.length) (kE:∀(id:Nat) (r:Row),id<h->σ[id]?=some r->e3 h r) (cE:∀p∈env',eJ h σ (a5 env p.1) p.2) (hW:W P m nt k env' (σ.take h) Z E):W P m nt k env σ Z E:=
 λQ mn x cs b S B H t γ hb π Φ he=>by
 obtain⟨c1,c2⟩:=π.holds.close kE;have ξ:b3 S (S.close B σ H h) (B.take m) (B.take h) (σ.take m) (σ.take h):=by
  have:=b3.close (h:=h) π.holds ((b3.refl S B σ).left m) (by simp;omega);exact this
 have κ:e4 m S B H σ (S.close B σ H h) (B.take h) H (σ.take h):=⟨c2,ξ⟩
 have s5:∀(l:Χ),(∀p∈l,eJ h σ (a5 env p.1) p.2)->∀i,eJ h σ (a5 env i) (a5 l i):=by
  intro l
  induction l with
  | nil=>intro _ i;exact .cg _
  | cons p l ω=>
   intro ξ i;simp only[a5];split
   ·rename_i e;rw[<-e];exact ξ p ζ
   ·exact ω (λq Ξ=>ξ q (by simp[Ξ])) i
 refine hW Q mn x cs b _ _ H t γ hb ⟨c1,λi=>(π.cx i).VK π.holds (s5 env' cE i),π.size,by simp;omega⟩ (λj gF fP cU eQ bH t2 cp Ρ aa aX ca=>?_) (λa gF fP cU eQ bH t2 cp v Ρ aa aX ca gf=>?_)
 ·exact Φ j gF fP cU eQ bH t2 cp Ρ (κ.trans aa) aX ca
 ·exact he a gF fP cU eQ bH t2 cp v Ρ (κ.trans aa) aX ca gf
end
def fQ (S:aL) (B:aW) (σ:List Row) (as9:List η) (vs:Array Value):Prop:=as9.length=vs.size/\∀(i:Nat) (a:η) (v:Value),as9[i]?=some a->vs[i]?=some v->av S B σ a v
structure wy (P:Program) (Q:Value->Prop) (mn:Bool) (x:g9) (c:Frame) (rest:List Frame) (S:aL) (B:aW) (H:Α) (σ:List Row) (K:η->List Row->Prop) (E:η->List Row->Prop):Prop where
 ret:∀(a:η) (σ':List Row) (aF:aL) (B':aW) (H':Α) (v:Value),K a σ'->Ext S B H aF B' H'->b3 S aF B B' σ σ'->Holds aF B' σ' H'->av aF B' σ' a v->aU P Q mn x (c.finish v) rest H'
 yh:∀(a:η) (σ':List Row) (aF:aL) (B':aW) (H':Α) (v:Value),E a σ'->Ext S B H aF B' H'->b3 S aF B B' σ σ'->Holds aF B' σ' H'->av aF B' σ' a v->aU P Q mn x (c.raise [{v,recovered:=false}]) rest H'
def M7 (P:Program) (Q:Value->Prop) (mn:Bool) (x:g9) (c:Frame) (rest:List Frame):Next->Α->Prop
 | .enter g as9,H=>aU P Q mn x (Frame.enter P g as9 .normal) (c::rest) H
 | .round l f xW C3 sN,H=>aU P Q mn x (Frame.round l f xW C3 sN .normal) (c::rest) H
 | .value v,H=>aU P Q mn x (c.finish v) rest H
 | _,_=>False
def ha (P:Program) (f:η) (args:List η) (σ:List Row) (K:η->List Row->Prop) (E:η->List Row->Prop):Prop:=
 ∀(Q:Value->Prop) (mn:Bool) (x:g9) (c:Frame) (rest:List Frame) (S:aL) (B:aW) (H:Α) (ay:Value) (vs:Array Value),Seq x->Holds S B σ H->av S B σ f ay->fQ S B σ args vs->wy P Q mn x c rest S B H σ K E->
  ς P (do let d <-Deferred.ofValue ay vs;invoke d.target d.args) H (M7 P Q mn x c rest) (λ_ _=>False)
def Plain (P:Program) (g:FuncId):Prop:=∃fn,P.funcs[g]?=some fn/\(fn.name == "runtime.NumGoroutine")=false/\fn.body.isNone=false
def ab (P:Program) (g:FuncId) (args:List η) (σ:List Row) (K:η->List Row->Prop) (E:η->List Row->Prop):Prop:=
 Plain P g/\∀(Q:Value->Prop) (mn:Bool) (x:g9) (c:Frame) (rest:List Frame) (S:aL) (B:aW) (H:Α) (vs:Array Value),Seq x->Holds S B σ H->fQ S B σ args vs->wy P Q mn x c rest S B H σ K E->
  aU P Q mn x (Frame.enter P g vs .normal) (c::rest) H
section
variable {P:Program} {T:bb} {A:List Nat} {m nt:Nat} {k:List Item} {env:Χ} {σ:List Row} {Z:List Item->Χ->List Row->Prop} {E:η->List Row->Prop} {K:η->List Row->Prop} {F:η->Χ->List Row->Prop}
theorem fQ.append {S:aL} {B:aW} {as9 m3:List η} {vs ws:Array Value} (h:fQ S B σ as9 vs) (k:fQ S B σ m3 ws):fQ S B σ (as9++m3) (vs++ws):=by
 refine⟨by simp[h.1,k.1],λi a v J U=>?_⟩;by_cases aO:i<as9.length
 ·rw[dI aO] at J;rw[Array.getElem?_append_left (by rw[<-h.1];exact aO)] at U;exact h.2 i a v J U
 ·rw[hp R] at J;rw[Array.getElem?_append_right (by rw[<-h.1];omega),<-h.1] at U;exact k.2 _ a v J U
theorem ab.mono {g:FuncId} {args:List η} {K':η->List Row->Prop} {E':η->List Row->Prop} (h:ab P g args σ K E) (θ:∀a s,K a s->K' a s) (dz:∀a s,E a s->E' a s):ab P g args σ K' E':=
 ⟨h.1,λQ mn x c rest S B H vs γ Β hv hb=>h.2 Q mn x c rest S B H vs γ Β hv ⟨λa σ' aF B' H' v χ=>hb.ret a σ' aF B' H' v (θ _ _ χ),λa σ' aF B' H' v χ=>hb.yh a σ' aF B' H' v (dz _ _ χ)⟩⟩
theorem ha.mono {f:η} {args:List η} {K':η->List Row->Prop} {E':η->List Row->Prop} (h:ha P f args σ K E) (θ:∀a s,K a s->K' a s) (dz:∀a s,E a s->E' a s):ha P f args σ K' E':=
 λQ mn x c rest S B H ay vs γ Β Τ hv hb=>h Q mn x c rest S B H ay vs γ Β Τ hv ⟨λa σ' aF B' H' v χ=>hb.ret a σ' aF B' H' v (θ _ _ χ),λa σ' aF B' H' v χ=>hb.yh a σ' aF B' H' v (dz _ _ χ)⟩
theorem ab.call {g:FuncId} {first args captured:List η} (h:ab P g (first++args++captured) σ K E):ha P (.fn (.func g) first captured) args σ K E:=by
 intro Q mn x c rest S B H ay vs γ Β Τ hv hb;cases Τ with
 | fn v1 v2 J U μ Ε=>
  refine ς.bind' (ς.pure' ?_);obtain⟨⟨fn,bL,lB,D7⟩,HO⟩:=h;unfold invoke;simp only;unfold callFunc;refine ς.bind' ?_;show ς P (match P.funcs[g]? with|none=>_|some fn=>_) H _ _;rw[bL];simp only[lB,D7,Bool.false_eq_true,if_false];refine ς.pure' ?_;have r1:fQ S B σ first v1:=⟨J,μ⟩
  have r2:fQ S B σ captured v2:=⟨U,Ε⟩;exact HO Q mn x c rest S B H _ γ Β ((r1.append hv).append r2) hb
def fe (env:Χ) (ops:Array Oper) (o:Oper):Option Bool:=match o.guard with
 | none=>some true
 | some (j,want)=>match (ops[j]?).bind (·.dst) with
  | some d=>match a5 env d with
   | .z (.bool b)=>some (b==want)
   | _=>none
  | none=>none
theorem kF {S:aL} {B:aW} {t:Array Value} (h:dv S B σ env t) {ops:Array Oper} {o:Oper} {w:Bool} (hw:fe env ops o=some w):Region.wanted o (yielded ops t)=w:=by
 unfold fe at hw;unfold Region.wanted;split at hw
 ·rename_i Ο;rw[Ο];cases hw;rfl
 ·rename_i j want Ο;rw[Ο];split at hw
  ·rename_i d hd;split at hw
   ·rename_i b hb;cases hw;have ι:=h d;rw[hb] at ι;unfold yielded;rw[Array.getD_eq_getD_getElem?] at ι;cases Ν:t[d]? with
    | none=>rw[Ν] at ι;cases ι
    | some v=>
     rw[Ν] at ι;simp only[Option.getD_some] at ι;cases ι;simp only[hd,Option.bind_some,Ν];cases b<;>cases want<;>rfl
   ·cases hw
  ·cases hw
def b0 (o:Oper) (env:Χ) (a:η):Χ:=match o.dst with|some d=>(d,a)::env|none=>env
def hc (nt:Nat) (o:Oper):Bool:=match o.dst with|some d=>decide (d<nt)|none=>true
theorem rI {S:aL} {B:aW} {t:Array Value} (h:dv S B σ env t) {o:Oper} (hd:hc nt o=true) (Ν:t.size=nt) {a:η} {v:Value} (κ:av S B σ a v):dv S B σ (b0 o env a) (put o t v)/\(put o t v).size=nt:=by
 unfold b0 put;unfold hc at hd;cases rJ:o.dst with
 | none=>exact⟨h,Ν⟩
 | some d=>
  rw[rJ] at hd;simp only[decide_eq_true_eq] at hd;exact⟨h.put (by rw[Ν];exact hd) κ,by simp[Ν]⟩
theorem W.unwanted {ops:Array Oper} {i:Nat} {o:Oper} {rest:List Nat} (ψ:ops[i]?=some o) (hw:fe env ops o=some false) (hd:hc nt o=true) (h:W P m nt (.inRegion ops rest::k) (b0 o env .cg) σ Z F):W P m nt (.inRegion ops (i::rest)::k) env σ Z F:=
 λQ mn x cs b S B H t γ hb π Φ he=>by
 obtain⟨s1,s2⟩:=rI π.cx hd π.size (a:=.cg) (v:=undef) (.cg _);exact .unwanted γ hb ψ (kF π.cx hw) (h Q mn x cs b S B H _ γ hb ⟨π.holds,s1,s2,π.rows⟩ Φ he)
theorem W.op (Ι:bN P T) {ops:Array Oper} {i:Nat} {o:Oper} {rest:List Nat} (ψ:ops[i]?=some o) (hw:fe env ops o=some true) (hd:hc nt o=true) (kZ:∀c,o.op≠.defer c)
  (h:((jx T A env o).or σ (ib T A env σ o)).holds λa σ'=>W P m nt (.inRegion ops rest::k) (b0 o env a) σ' Z F):W P m nt (.inRegion ops (i::rest)::k) env σ Z F:=
 λQ mn x cs b S B H t γ hb π Φ he=>by
 refine .op γ hb ψ (kF π.cx hw) (.inr kZ) ?_;have VL:=cw.VC (VI (A:=A) Ι π.holds π.cx o) (VJ (A:=A) Ι π.holds π.cx o);refine ς.mono (λdZ H' ⟨v,hv,aF,B',σ',a,θ,pt,ja,ξ,ι⟩=>?_) (λ_ _ h=>h.elim) _ (VL _ h);obtain⟨s1,s2⟩:=rI (π.cx.later ξ) hd π.size ι;have κ:e4 m S B H σ aF B' H' σ':=.of pt ξ;have fin:aU P Q mn x (ax b (put o t v) (.inRegion ops rest::k)) cs H':=
  θ Q mn x cs b aF B' H' _ γ hb ⟨ja,s1,s2,Nat.le_trans π.rows ξ.length⟩ (λj gF fP cU eQ bH t2 cp Ρ aa aX ca=>Φ j gF fP cU eQ bH t2 cp Ρ (κ.trans aa) aX ca)
   (λa9 gF fP cU eQ bH t2 cp v2 Ρ aa aX ca gf=>he a9 gF fP cU eQ bH t2 cp v2 Ρ (κ.trans aa) aX ca gf)
 cases dZ<;>simp only[Mm,reduceCtorEq,Option.some.injEq] at hv<;>first|(subst hv;exact fin)|skip
theorem W.call {ops:Array Oper} {i:Nat} {o:Oper} {rest:List Nat} (ψ:ops[i]?=some o) (hw:fe env ops o=some true) (hd:hc nt o=true) {f:Operand} {args:Array Operand} {ej:Array TypeId} (Μ:o.op=.call ⟨.value f,args,ej⟩)
  (h:ha P (aR env f) (args.toList.map (aR env)) σ (λa σ'=>W P m nt (.inRegion ops rest::k) (b0 o env a) σ' Z F) (λa s=>F a env s)):W P m nt (.inRegion ops (i::rest)::k) env σ Z F:=
 λQ mn x cs b S B H t γ hb π Φ he=>by
 refine .op γ hb ψ (kF π.cx hw) (.inr λc=>by rw[Μ];simp) ?_;have m4:fQ S B σ (args.toList.map (aR env)) (args.map (bl t)):=by
  refine⟨ζ,λi a v J U=>?_⟩;rw[List.getElem?_map,Array.getElem?_toList] at J;rw[Array.getElem?_map] at U;cases γ:args[i]? with
  | none=>rw[γ] at J;cases J
  | some y=>rw[γ] at J U;cases J;cases U;exact l' π.cx y
 have HO:=h Q mn x (ax b t (.inRegion ops (i::rest)::k)) cs S B H (bl t f) (args.map (bl t)) γ π.holds (l' π.cx f) m4 ⟨λa σ' aF B' H' v θ pt ξ ja ι=>?_,λa σ' aF B' H' v dz pt ξ ja ι=>?_⟩
 ·have e:execOp (bl t) o=(do let d <-Deferred.ofValue (bl t f) (args.map (bl t));invoke d.target d.args):=by unfold execOp;rw[Μ];rfl
  rw[e];refine ς.mono (λdZ H' Ζ=>?_) (λ_ _ h=>h.elim) _ HO;cases dZ<;>first|exact Ζ.elim|exact Ζ|skip
  rename_i v;have:=iY (b:=b) (t:=t) (k:=k) (v:=v) ψ (rest:=rest);simp only[M7] at Ζ;rw[this] at Ζ;exact Ζ
 ·obtain⟨s1,s2⟩:=rI (π.cx.later ξ) hd π.size ι;have κ:e4 m S B H σ aF B' H' σ':=.of pt ξ;rw[iY ψ];exact θ Q mn x cs b aF B' H' _ γ hb ⟨ja,s1,s2,Nat.le_trans π.rows ξ.length⟩ (λj gF fP cU eQ bH t2 cp Ρ aa aX ca=>Φ j gF fP cU eQ bH t2 cp Ρ (κ.trans aa) aX ca)
   (λa9 gF fP cU eQ bH t2 cp v2 Ρ aa aX ca gf=>he a9 gF fP cU eQ bH t2 cp v2 Ρ (κ.trans aa) aX ca gf)
 ·have:=he a env σ' aF B' H' t (.inRegion ops (i::rest)::k) v dz (.of pt ξ) ja (π.cx.later ξ) ι
  have e:(ax b t (.inRegion ops (i::rest)::k)).raise [{v,recovered:=false}]={ax b t (.inRegion ops (i::rest)::k) with mode:=.panicking [{v,recovered:=false}]}:=by simp[Frame.raise,ax,hb]
  rw[e];exact this
theorem W.panic {ops:Array Oper} {i:Nat} {o:Oper} {rest:List Nat} (ψ:ops[i]?=some o) (hw:fe env ops o=some true) {y:Operand} (Μ:o.op=.panic y) {ty:TypeId} {a:η} (Κ:aR env y=.fY ty a) (h:F (.fY ty a) env σ):W P m nt (.inRegion ops (i::rest)::k) env σ Z F:=
 λQ mn x cs b S B H t γ hb π Φ he=>by
 refine .op γ hb ψ (kF π.cx hw) (.inr λc=>by rw[Μ];simp) ?_;have ι:=l' π.cx y;have e:execOp (bl t) o=(do pure (.value (<-Instr.panic (bl t y)))):=by unfold execOp;rw[Μ]
 rw[e];rw[Κ] at ι;generalize hv:bl t y=v at ι;refine ς.bind' ?_;cases ι with
 | fY fr J=>exact he (.fY ty a) env σ S B H t _ _ h .refl π.holds π.cx (.fY fr J)
end
def wz (P:Program) (T:bb) (A:List Nat) (env:Χ) (o:Oper) (σ:List Row) (K:η->List Row->Prop) (E:η->Χ->List Row->Prop):Prop:=match o.op with
 | .call ⟨.value f,args,_⟩=>ha P (aR env f) (args.toList.map (aR env)) σ K (λa s=>E a env s)
 | .panic y=>match aR env y with|.fY t a=>E (.fY t a) env σ|_=>False
 | .defer _=>False
 | _=>((jx T A env o).or σ (ib T A env σ o)).holds K
def ic (w:Bool) (a b:Prop):Prop:=(w=false->a)/\(w=true->b)
theorem VM {a b:Prop}:ic true a b=b:=by simp[ic]
theorem VN {a b:Prop}:ic false a b=a:=by simp[ic]
theorem VO {w w':Bool} {a b:Prop} (h:w=w'):ic w a b=ic w' a b:=by rw[h]
def gg {α:Type} (x:Option α) (f:α->Prop):Prop:=match x with|none=>False|some a=>f a
theorem VP {α:Type} {a:α} {f:α->Prop}:gg (some a) f=f a:=Eq.trans rfl rfl
theorem VQ {α:Type} {f:α->Prop}:gg none f=False:=rfl
theorem VR {α:Type} {x dj:Option α} {f:α->Prop} (h:x=dj):gg x f=gg dj f:=by rw[h]
theorem VS {K:η->List Row->Prop} {r r':cV} (h:r=r'):r.holds K=r'.holds K:=by rw[h]
theorem or_congr {r r':cw} {σ:List Row} {s:cV} (h:r=r'):r.or σ s=r'.or σ s:=by rw[h]
def run (P:Program) (T:bb) (A:List Nat) (nt:Nat) (ops:Array Oper):List Nat->Χ->List Row->(Χ->List Row->Prop)->(η->Χ->List Row->Prop)->Prop
 | [],env,σ,K,_=>K env σ
 | i::is,env,σ,K,E=>gg ops[i]? λo=>hc nt o=true/\gg (fe env ops o) λw=>
   ic w (run P T A nt ops is (b0 o env .cg) σ K E) (wz P T A env o σ (λa σ'=>run P T A nt ops is (b0 o env a) σ' K E) E)
def M8 (P:Program) (T:bb) (A:List Nat) (nt:Nat) (ops:Array Oper) (is:List Nat) (o:Oper) (env:Χ) (K:Χ->List Row->Prop) (E:η->Χ->List Row->Prop) (a:η) (σ':List Row):Prop:=run P T A nt ops is (b0 o env a) σ' K E
theorem pv {P:Program} {T:bb} {A:List Nat} {nt:Nat} {ops:Array Oper} {env:Χ} {σ:List Row} {K:Χ->List Row->Prop} {E:η->Χ->List Row->Prop}:run P T A nt ops [] env σ K E=K env σ:=Eq.trans rfl rfl
theorem al {P:Program} {T:bb} {A:List Nat} {nt:Nat} {ops:Array Oper} {i:Nat} {is:List Nat} {env:Χ} {σ:List Row} {K:Χ->List Row->Prop} {E:η->Χ->List Row->Prop} :
  run P T A nt ops (i::is) env σ K E=gg ops[i]? λo=>hc nt o=true/\gg (fe env ops o) λw=>
   ic w (run P T A nt ops is (b0 o env .cg) σ K E) (wz P T A env o σ (M8 P T A nt ops is o env K E) E):=Eq.trans rfl rfl
theorem M9 {P:Program} {T:bb} {A:List Nat} {nt:Nat} {ops:Array Oper} {is:List Nat} {o:Oper} {env:Χ} {σ:List Row} {K:Χ->List Row->Prop} {E:η->Χ->List Row->Prop} {a:η}:M8 P T A nt ops is o env K E a σ=run P T A nt ops is (b0 o env a) σ K E:=Eq.trans rfl rfl
section
variable {P:Program} {T:bb} {A:List Nat} {m nt:Nat} {k:List Item} {env:Χ} {σ:List Row} {Z:List Item->Χ->List Row->Prop} {E:η->Χ->List Row->Prop} {K:η->List Row->Prop}
theorem W.bF {ops:Array Oper} (h:W P m nt k env σ Z E):W P m nt (.inRegion ops []::k) env σ Z E:=λQ mn x cs b S B H t γ hb π Φ he=>.bF γ hb (h Q mn x cs b S B H t γ hb π Φ he)
theorem HP (Ι:bN P T) {ops:Array Oper} (kG:List Nat):∀(is:List Nat) (env:Χ) (σ:List Row),run P T A nt ops is env σ (λenv σ=>W P m nt (.inRegion ops kG::k) env σ Z E) E->W P m nt (.inRegion ops (is++kG)::k) env σ Z E:=by
 intro is
 induction is with
 | nil=>intro env σ h;exact h
 | cons i is ω=>
  intro env σ h;unfold run gg at h;split at h
  ·exact h.elim
  ·rename_i o ψ;obtain⟨hd,h⟩:=h;split at h
   ·exact h.elim
   rename_i w hw;unfold ic at h;cases w
   ·exact .unwanted ψ hw hd (ω _ _ (h.1 rfl))
   ·replace h:=h.2 rfl
    unfold wz at h;split at h
    ·rename_i f args ej Μ;exact .call ψ hw hd Μ (h.mono (λa s h=>ω _ _ h) (λ_ _ h=>h))
    ·rename_i y Μ;split at h
     ·rename_i ty a Κ;exact .panic ψ hw Μ Κ h
     ·exact h.elim
    ·exact h.elim
    ·rename_i J U μ;refine .op (A:=A) Ι ψ hw hd (λc ε=>μ c ε) ?_;generalize (jx T A env o).or σ (ib T A env σ o)=r at h;have key:∀r:cV,r.holds (λa σ'=>run P T A nt ops is (b0 o env a) σ' (λenv σ=>W P m nt (.inRegion ops kG::k) env σ Z E) E)->r.holds λa σ'=>W P m nt (.inRegion ops (is++kG)::k) (b0 o env a) σ' Z E:=by
      intro r
      induction r with
      | ok a s=>exact λh=>ω _ _ h
      | b6 p r mZ=>exact λh=>⟨h.1,mZ h.2⟩
      | all n f mZ=>exact λh i hi=>mZ i (h i hi)
      | bad=>exact λh=>h
     exact key r h
theorem cV.VT {K K':η->List Row->Prop} (θ:∀a s,K a s->K' a s):∀r:cV,r.holds K->r.holds K':=by
 intro r
 induction r with
 | ok a s=>exact λh=>θ _ _ h
 | b6 p r ω=>exact λh=>⟨h.1,ω h.2⟩
 | all n f ω=>exact λh i hi=>ω i (h i hi)
 | bad=>exact λh=>h
theorem VU {env:Χ} {o:Oper} {K K':η->List Row->Prop} (θ:∀a s,K a s->K' a s) (h:wz P T A env o σ K E):wz P T A env o σ K' E:=by
 unfold wz at h ⊢;split
 ·rename_i f args ej Μ;rw[Μ] at h;exact ha.mono h θ λ_ _ h=>h
 ·rename_i y Μ;rw[Μ] at h;exact h
 ·rename_i Μ;rw[Μ] at h;exact h
 ·rename_i J U μ;split at h
  ·rename_i f args ej Μ;exact absurd Μ (J f args ej)
  ·rename_i y Μ;exact absurd Μ (U y)
  ·rename_i y Μ;exact absurd Μ (μ y)
  ·exact cV.VT θ _ h
theorem D8 {ops:Array Oper} {nt:Nat} {K K':Χ->List Row->Prop} (θ:∀e s,K e s->K' e s):∀(is:List Nat) (env:Χ) (σ:List Row),run P T A nt ops is env σ K E->run P T A nt ops is env σ K' E:=by
 intro is
 induction is with
 | nil=>intro env σ h;exact θ _ _ h
 | cons i is ω=>
  intro env σ h;unfold run gg at h ⊢;cases ψ:ops[i]? with
  | none=>rw[ψ] at h;exact h.elim
  | some o=>
   rw[ψ] at h;simp only at h ⊢;refine⟨h.1,?_⟩
   replace h:=h.2
   cases hw:fe env ops o with
   | none=>rw[hw] at h;exact h.elim
   | some w=>
    rw[hw] at h;unfold ic at h ⊢;exact⟨λe=>ω _ _ (h.1 e),λe=>VU (λa s=>ω _ _) (h.2 e)⟩
theorem VV (Ι:bN P T) {ops:Array Oper} (is:List Nat) (env:Χ) (σ:List Row) (h:run P T A nt ops is env σ (λenv σ=>W P m nt k env σ Z E) E):W P m nt (.inRegion ops is::k) env σ Z E:=by
 have:=HP (A:=A) Ι [] is env σ (ops:=ops) (k:=k) (Z:=Z) (E:=E) (P:=P) (m:=m) (nt:=nt);rw[List.append_nil] at this;refine this ?_;have mono:∀(is:List Nat) (env:Χ) (σ:List Row) (K K':Χ->List Row->Prop),(∀e s,K e s->K' e s)->run P T A nt ops is env σ K E->run P T A nt ops is env σ K' E:=λis env σ K K' θ h=>D8 θ is env σ h;exact mono is env σ _ _ (λe s h=>.bF h) h
def idx:Nat->List Nat->List Nat
 | 0,l=>l
 | n+1,l=>idx n (n::l)
theorem idx_eq (n:Nat):idx n []=List.range n:=by
 have:∀(n:Nat) (l:List Nat),idx n l=List.range.loop n l:=by
  intro n
  induction n with
  | zero=>intro l;rfl
  | succ n ω=>intro l;exact ω _
 exact this n []
theorem dB (Ι:bN P T) {id:Nat} {ops:Array Oper} (h:∀Θ:Χ->List Row->Prop,(∀env σ,W P m nt k env σ Z E->Θ env σ)->run P T A nt ops (idx ops.size []) env σ Θ E):W P m nt (.code (.region id ops false)::k) env σ Z E:=
 λQ mn x cs b S B H t γ hb π Φ he=>.region γ hb (VV Ι _ _ _ (by rw[<-idx_eq];exact h _ λ_ _ h=>h) Q mn x cs b S B H t γ hb π Φ he)
theorem W.forget (env':Χ) (cE:∀p∈env',a5 env p.1=p.2) (h:W P m nt k env' σ Z E):W P m nt k env σ Z E:=
 λQ mn x cs b S B H t γ hb π Φ he=>by
 have s5:∀(l:Χ),(∀p∈l,a5 env p.1=p.2)->∀i,a5 l i=.cg\/a5 l i=a5 env i:=by
  intro l
  induction l with
  | nil=>intro _ i;exact .inl rfl
  | cons p l ω=>
   intro ξ i;simp only[a5];split
   ·rename_i e;subst e;exact .inr (ξ p ζ).symm
   ·exact ω (λq Ξ=>ξ q (by simp[Ξ])) i
 refine h Q mn x cs b S B H t γ hb ⟨π.holds,λi=>?_,π.size,π.rows⟩ Φ he;rcases s5 env' cE i with e|e
 ·rw[e];exact .cg _
 ·rw[e];exact π.cx i
theorem W.s6 (Ι:bN P T) (env':Χ) {id:Nat} {ops:Array Oper} (h:W P m nt k env' σ Z E) (ι:run P T A nt ops (idx ops.size []) env σ (λe s=>s=σ/\∀p∈env',a5 e p.1=p.2) E):W P m nt (.code (.region id ops false)::k) env σ Z E:=
 dB Ι λΘ θ=>D8 (λe s ⟨J,U⟩=>θ e s (J▸W.forget env' U h)) _ _ _ ι
def s7 (i:iC) (l:List η):Option η:=if i.agg then(if i.size<=l.length then some (.a0 (l.take i.size)) else none) else l.head?
def yi (T:bb) (ty:TypeId) (σ:List Row):η->Option η
 | .ao cells=>match T ty with|some i=>s7 i cells|none=>none
 | .ah id n i j=>match T ty,σ[id]? with
  | some lr,some (.cells _ _ l)=>if l.length=n then match l[i]? with
   | some e=>s7 lr (e.cells.drop j)
   | none=>none else none
  | _,_=>none
 | _=>none
def s8 (T:bb) (env:Χ) (σ:List Row):ResultVar->Option η
 | .tmp t=>some (a5 env t)
 | .cell a ty=>yi T ty σ (a5 env a)
def D9:List η->η
 | [a]=>a
 | l=>.bq l
def qq (T:bb) (rs:List ResultVar) (env:Χ) (σ:List Row):Option η:=(rs.mapM (s8 T env σ)).map D9
theorem M' {i:iC} {l:List η} {v:η} (h:s7 i l=some v):rA i l=.ok v:=by
 unfold s7 at h;unfold rA;cases z8:i.agg with
 | true=>
  rw[z8] at h;simp only[if_true] at h ⊢;split at h
  ·rename_i hle;cases h;rw[if_pos hle]
  ·cases h
 | false=>
  rw[z8] at h;simp only[Bool.false_eq_true,if_false] at h ⊢;cases l with
  | nil=>cases h
  | cons a l=>cases h;rfl
theorem VW (Ι:bN P T) {S:aL} {B:aW} {H:Α} (Β:Holds S B σ H) {ty:TypeId} {a v:η} {w:Value} (h:yi T ty σ a=some v) (ι:av S B σ a w):cS P (do loadVar ty (<-asAddr w)) S B H σ (.ok v σ):=by
 unfold yi at h;split at h
 ·rename_i cells;split at h
  ·rename_i i hi;cases ι with
   | ao b o w J U=>
    have:=Da Ι Β hi w (λj a δ=>Β.dm _ _ _ (J j a δ)) U;rw[M' h] at this;exact this
  ·cases h
 ·rename_i id n i j;split at h
  ·rename_i lr t k l hi ξ;split at h
   ·rename_i Ζ;split at h
    ·rename_i e he;cases ι with
     | ah J U μ=>
      rw[ξ] at J;cases J;obtain⟨χ,w,hw⟩:=Mn Β ξ μ he;have:=Da Ι Β hi (l:=e.cells.drop j) (b:=_) (o:=i*k+j) (λx=>w (j+x)) (λx a γ=>⟨true,by
       rw[List.getElem?_drop] at γ;rw[Nat.add_assoc];exact(hw _ a γ).1⟩) (λx a γ=>by
       rw[List.getElem?_drop] at γ;exact(hw _ a γ).2.1)
      rw[M' h] at this;exact this
     | j9 v J U=>rw[ξ] at J;cases J;simp only[Row.hx] at U;omega
    ·cases h
   ·cases h
  ·cases h
 ·cases h
theorem D' (Ι:bN P T) {fn:Func} {a:η} (h:qq T fn.results.toList env σ=some a) {S:aL} {B:aW} {H:Α} {t:Array Value} (Β:Holds S B σ H) (ν:dv S B σ env t) :
  ς P (results fn t) H (λv H'=>∃aF B',Ext S B H aF B' H'/\b3 S aF B B' σ σ/\Holds aF B' σ H'/\av aF B' σ a v) (λ_ _=>False):=by
 let f:ResultVar->Sem Value:=λr=>match r with
  | .tmp x=>pure (t.getD x undef)
  | .cell a ty=>do loadVar ty (<-asAddr (t.getD a undef))
 have key:∀(rs:List ResultVar) (as9:List η) (S:aL) (B:aW) (H:Α),rs.mapM (s8 T env σ)=some as9->Holds S B σ H->dv S B σ env t->
   ς P (rs.mapM f) H (λvs H'=>∃aF B',Ext S B H aF B' H'/\b3 S aF B B' σ σ/\Holds aF B' σ H'/\as9.length=vs.length/\∀(i:Nat) (a:η) (v:Value),as9[i]?=some a->vs[i]?=some v->av aF B' σ a v) (λ_ _=>False):=by
  intro rs
  induction rs with
  | nil=>intro as9 S B H h Β _;simp at h;subst h;exact ς.pure' ⟨S,B,.refl _ _ _,.refl _ _ _,Β,rfl,λi a v hi=>by simp at hi⟩
  | cons r rs ω=>
   intro as9 S B H h Β ν;rw[List.mapM_cons] at h ⊢;cases ι:s8 T env σ r with
   | none=>rw[ι] at h;cases h
   | some a=>
    rw[ι] at h;simp only[Option.bind_eq_bind,Option.bind_some] at h;cases Ο:rs.mapM (s8 T env σ) with
    | none=>rw[Ο] at h;cases h
    | some l2=>
     rw[Ο] at h;cases h;have step:ς P (f r) H (λv H'=>∃aF B',Ext S B H aF B' H'/\b3 S aF B B' σ σ/\Holds aF B' σ H'/\av aF B' σ a v) (λ_ _=>False):=by
      cases r with
      | tmp x=>simp only[s8,Option.some.injEq] at ι;subst ι;exact ς.pure' ⟨S,B,.refl _ _ _,.refl _ _ _,Β,ν x⟩
      | cell x ty=>
       refine ς.mono (λv H' ⟨aF,B',σ',bT,⟨J,U⟩,μ,Ε,au,bd⟩=>?_) (λ_ _ h=>h) _ (VW Ι Β ι (ν x) (λbT bk=>bT=a/\bk=σ) ⟨rfl,rfl⟩);subst J;subst U;exact⟨aF,B',μ,au,Ε,bd⟩
     refine ς.bind' (ς.mono (λv H1 ⟨bM,bS,Γ,l1,J,r1⟩=>?_) (λ_ _ h=>h) _ step);refine ς.bind' (ς.mono (λvs bH ⟨cU,eQ,Δ,Na,U,gm,r2⟩=>?_) (λ_ _ h=>h) _ (ω l2 bM bS H1 Ο J (ν.later l1)));refine ς.pure' ⟨cU,eQ,Γ.trans Δ,l1.trans Na,U,by simp[gm],λi bT fr hi hv=>?_⟩
     match i with
     | 0=>simp at hi hv;subst hi;subst hv;exact r1.later Na
     | i+1=>simp at hi hv;exact r2 i bT fr hi hv
 unfold qq at h;cases hm:fn.results.toList.mapM (s8 T env σ) with
 | none=>rw[hm] at h;cases h
 | some as9=>
  rw[hm] at h;cases h;have χ:=key fn.results.toList as9 S B H hm Β ν;unfold results;rw[Array.mapM_eq_mapM_toList];refine ς.bind' ?_;refine ς.bind (fn.results.toList.mapM f) (ς.mono (λvs H1 ⟨bM,bS,Γ,l1,J,h7,r1⟩=>?_) (λ_ _ h=>h) _ χ);refine ς.pure' ?_;refine ς.pure' ⟨bM,bS,Γ,l1,J,?_⟩;by_cases Ζ:vs.toArray.size=1
  ·rw[dif_pos Ζ];have wA:vs.length=1:=by simpa using Ζ
   obtain⟨v,rfl⟩:=List.length_eq_one_iff.1 wA;obtain⟨a,rfl⟩:=List.length_eq_one_iff.1 (h7.trans wA);exact r1 0 a v rfl rfl
  ·rw[dif_neg Ζ];have wA:as9.length≠1:=by rw[h7];simpa using Ζ
   have:D9 as9=.bq as9:=by
    match as9 with
    | []=>rfl
    | [a]=>simp at wA
    | a::b::l=>rfl
   rw[this];exact .bq _ (by simpa using h7) λi a v hi hv=>r1 i a v hi (by simpa using hv)
def entry:Nat->List η->Χ
 | _,[]=>[]
 | i,a::as9=>(i,a)::entry (i+1) as9
theorem Nb {S:aL} {B:aW} {as9:List η} {vs:Array Value} (h:fQ S B σ as9 vs) (n:Nat):dv S B σ (entry 0 as9) (vs++Array.replicate n undef):=by
 have key:∀(l:List η) (j i:Nat),a5 (entry j l) i=if j<=i then(l[i-j]?).getD .cg else .cg:=by
  intro l
  induction l with
  | nil=>intro j i;simp[entry,a5]
  | cons a l ω=>
   intro j i;simp only[entry,a5];by_cases e:j=i
   ·subst e;simp
   ·rw[if_neg e,ω];by_cases hle:j<=i
    ·rw[if_pos R,if_pos hle];have:i-j=(i-(j+1))+1:=R;rw[this,List.getElem?_cons_succ]
    ·rw[if_neg R,if_neg hle]
 intro i;rw[key,if_pos (Nat.zero_le _),Nat.sub_zero];by_cases aO:i<as9.length
 ·have κ:=a8 aO;rw[κ];have hv:i<vs.size:=by rw[<-h.1];exact aO
  rw[Array.getD_eq_getD_getElem?,Array.getElem?_append_left hv];exact h.2 i _ _ κ (by rw[ff hv];rfl)
 ·rw[List.getElem?_eq_none R];exact .cg _
def Ends (T:bb) (rs:List ResultVar) (K:η->List Row->Prop) (j:List Item) (env:Χ) (σ:List Row):Prop:=match j with
 | []=>∃a,qq T rs env σ=some a/\K a σ
 | .code .ret::_=>∃a,qq T rs env σ=some a/\K a σ
 | _=>False
theorem ab.VX {F:η->List Row->Prop} (Ι:bN P T) {g:FuncId} {fn:Func} {body:Code} (bL:P.funcs[g]?=some fn) (nR:fn.body=some body) (wh:(fn.name == "runtime.NumGoroutine")=false) {args:List η} (hlen:args.length<=fn.ntmps)
  (h:W P σ.length fn.ntmps [.code body] (entry 0 args) σ (Ends T fn.results.toList K) (λa _ s=>F a s)):ab P g args σ K F:=by
 refine⟨⟨fn,bL,wh,by rw[nR];rfl⟩,λQ mn x c rest S B H vs γ Β hv hb=>?_⟩;have lC:∀{α:Type} (l:List α),l.length=σ.length->l.take σ.length=l:=λl ξ=>List.take_of_length_le R;have cq:Frame.enter P g vs .normal=ax (Frame.enter P g vs .normal) (vs++Array.replicate (fn.ntmps-vs.size) undef) [.code body]:=by
  simp[Frame.enter,ax,bL,nR]
 rw[cq];have cv:(vs++Array.replicate (fn.ntmps-vs.size) undef).size=fn.ntmps:=by
  have:=hv.1;simp;omega
 refine h Q mn x (c::rest) _ S B H _ γ rfl ⟨Β,Nb hv _,cv,Nat.le_refl _⟩ (λj env' σ' aF B' H' t' af Φ κ π ξ=>?_) (λa env' σ' aF B' H' t' af v dz κ ja _ ι=>?_)
 ·have HQ:b3 S aF B B' σ σ':=by
   have:=κ.later
   rwa [lC B Β.len,lC σ rfl] at this
  have fin:(∃a,qq T fn.results.toList env' σ'=some a/\K a σ')->aU P Q mn x {ax (Frame.enter P g vs .normal) t' af with mode:=.returning} (c::rest) H':=λ⟨a,J,U⟩=>by
   refine .back γ rfl rfl (.inl rfl) bL ?_;refine ς.mono (λv bH ⟨cU,eQ,Δ,l2,μ,r2⟩=>?_) (λ_ _ h=>h) _ (D' Ι J π.holds π.cx);exact hb.ret a σ' cU eQ bH v U (κ.ext.trans Δ) (HQ.trans l2) μ r2
  have:af=j:=ξ;subst this;unfold Ends at Φ;split at Φ
  ·exact .sM γ rfl rfl (fin Φ)
  ·exact .ret γ rfl rfl (fin Φ)
  ·exact Φ.elim
 ·have HQ:b3 S aF B B' σ σ':=by
   have:=κ.later
   rwa [lC B Β.len,lC σ rfl] at this
  refine .raised γ rfl rfl ?_ (hb.yh a σ' aF B' H' v dz κ.ext HQ ja ι);simp[Frame.catches,ax,Frame.enter,bL]
end
section
variable {P:Program} {S aF:aL} {B:aW} {H H':Α} {σ:List Row}
theorem av.take {h:Nat} {a:η} {v:Value} (ι:av S B σ a v) (hb:aJ h a):av S (B.take h) (σ.take h) a v:=by
 have bj:∀{α:Type} (l:List α) (i:Nat),i<h->(l.take h)[i]?=l[i]?:=λl i hi=>List.getElem?_take_of_lt hi
 induction ι with
 | z v=>exact .z v
 | ao b o w J _ ω=>
  cases hb with
  | ao hb=>exact .ao b o w J λj a δ=>ω j a δ (hb a (cG δ))
 | iB base cap h=>exact .iB base cap h
 | sl b o cap w J U μ Ε _ ω=>
  cases hb with
  | sl hb=>exact .sl b o cap w J U μ Ε λi e hi j c δ=>ω i e hi j c δ (hb e (cG hi) c (cG δ))
 | a0 vs J _ ω=>
  cases hb with
  | a0 hb=>exact .a0 vs J λi a v hi hv=>ω i a v hi hv (hb a (cG hi))
 | bq vs J _ ω=>
  cases hb with
  | bq hb=>exact .bq vs J λi a v hi hv=>ω i a v hi hv (hb a (cG hi))
 | ah J U μ=>
  cases hb with
  | ah hb=>exact .ah (by rw[bj _ _ hb];exact J) U (by rw[bj _ _ hb];exact μ)
 | j9 v J U=>
  cases hb with
  | ah hb=>exact .j9 v (by rw[bj _ _ hb];exact J) U
 | ms cap J U μ Ε au bd=>
  cases hb with
  | ms hb=>exact .ms cap (by rw[bj _ _ hb];exact J) U (by rw[bj _ _ hb];exact μ) Ε au bd
 | jO v J U=>
  cases hb with
  | ms hb=>exact .jO v (by rw[bj _ _ hb];exact J) U
 | fn vs ws J U _ _ sP mZ=>
  cases hb with
  | fn lu gP=>exact .fn vs ws J U (λi a v hi hv=>sP i a v hi hv (lu a (cG hi))) λi a v hi hv=>mZ i a v hi hv (gP a (cG hi))
 | fY v _ ω=>
  cases hb with
  | fY hb=>exact .fY v (ω hb)
 | mp J U=>
  cases hb with
  | mp hb=>exact .mp (by rw[bj _ _ hb];exact J) (by rw[bj _ _ hb];exact U)
 | l8 v J=>
  cases hb with
  | mp hb=>exact .l8 v (by rw[bj _ _ hb];exact J)
 | it J U=>
  cases hb with
  | it hb=>exact .it (by rw[bj _ _ hb];exact J) (by rw[bj _ _ hb];exact U)
 | nI v J=>
  cases hb with
  | it hb=>exact .nI v (by rw[bj _ _ hb];exact J)
 | cg v=>exact .cg v
theorem av.any {a:η} {v:Value} (ι:av S B σ a v) (hb:aJ 0 a) (eQ:aW) (fP:List Row):av S eQ fP a v:=by
 have J:av S [] [] a v:=by simpa using ι.take hb
 exact J.later ⟨λ_ _ _ h=>h,λid r h=>by simp at h⟩
theorem Holds.bare (Β:Holds S B σ H):Holds S [] [] H:=
 ⟨Β.dm,rfl,λid r bo h=>by simp at h,λi j ew cj b gC gD fz h=>by simp at h,λid r b N h=>by simp at h⟩
theorem Holds.back (Β:Holds S B σ H) (he:Ext S [] H aF [] H') (an:Holds aF [] [] H'):Holds aF B σ H'/\Ext S B H aF B H'/\b3 S aF B B σ σ:=by
 have ξ:b3 S aF B B σ σ:=⟨he.dm,λid r h=>⟨r,h,r.sO _⟩⟩
 have yj:∀b,¬aW.has ([]:aW) b:=λb ⟨N,h⟩=>by simp at h
 have a0:∀(id:Nat) (r:Row) (b N:Nat),σ[id]?=some r->r.live->B[id]?=some (some (b,N))->kY H H' b:=λid r b N J U μ=>(he.fV b (yj b) (Β.ov J U μ)).sR λo=>Β.sep id r b N J U μ o;refine⟨⟨an.dm,Β.len,λid r bo ι ey=>?_,Β.inj,λid r b N ι fb ey o=>?_⟩,⟨he.dm,λb _ Τ=>he.fV b (yj b) Τ,λb hb=>.inl hb,λb o v hv=>?_,he.grow⟩,ξ⟩
 ·by_cases fb:r.live
  ·refine(Β.row id r bo ι ey).later ξ (λb N e=>a0 id r b N ι fb (by rw[ey,e])) λm left cur e=>?_;subst e;obtain⟨_,_,aZ,kX,xs,clock,seen,_,J,⟨es,U⟩,_⟩:=Β.row id _ bo ι ey;exact⟨rfl,rfl,λb N hb=>a0 m _ b N U trivial hb⟩
  ·cases r<;>first|exact absurd trivial fb|trivial
 ·cases hv:aF b o with
  | none=>rfl
  | some v=>
   rcases he.rv b o v hv with h|h|h
   ·rw[Β.sep id r b N ι fb ey o] at h;cases h
   ·exact absurd h (yj b)
   ·exact absurd h (Β.ov ι fb ey)
 ·rcases he.rv b o v hv with h|h|h
  ·exact .inl h
  ·exact absurd h (yj b)
  ·exact .inr (.inr h)
theorem ab.frame {g:FuncId} {args:List η} {K:η->Prop} {E:η->Prop} (h:ab P g args [] (λa s=>K a/\aJ 0 a/\s=[]) (λa s=>E a/\aJ 0 a/\s=[])) (hb:∀a∈args,aJ 0 a):ab P g args σ (λa s=>K a/\s=σ) (λa s=>E a/\s=σ):=by
 refine⟨h.1,λQ mn x c rest S B H vs γ Β hv mf=>?_⟩;refine h.2 Q mn x c rest S [] H vs γ Β.bare ⟨hv.1,λi a v J U=>(hv.2 i a v J U).any (hb a (cG J)) _ _⟩ ⟨λa σ' aF B' H' v ⟨χ,uL,ν⟩ he ξ ja ι=>?_,λa σ' aF B' H' v ⟨χ,uL,ν⟩ he ξ ja ι=>?_⟩
 all_goals
  subst ν;have dX:B'=[]:=dO.1 (by rw[ja.len];rfl);subst dX;obtain⟨dn,p2,p3⟩:=Β.back he ja
 ·exact mf.ret a σ aF B H' v ⟨χ,rfl⟩ p2 p3 dn (ι.any uL _ _)
 ·exact mf.yh a σ aF B H' v ⟨χ,rfl⟩ p2 p3 dn (ι.any uL _ _)
def Au (P:Program) (g:FuncId) (args:List η) (r:η):Prop:=ab P g args [] (λa s=>a=r/\s=[]) (λ_ _=>False)
theorem Au.call {g:FuncId} {first args captured:List η} {r:η} {K:η->List Row->Prop} {E:η->List Row->Prop} (h:Au P g (first++args++captured) r) (hb:∀a∈first++args++captured,aJ 0 a) (ι:aJ 0 r) (θ:K r σ) :
  ha P (.fn (.func g) first captured) args σ K E:=by
 have J:ab P g (first++args++captured) [] (λa s=>a=r/\aJ 0 a/\s=[]) (λa s=>False/\aJ 0 a/\s=[]):=h.mono (λa s ⟨Γ,Δ⟩=>⟨Γ,Γ▸ι,Δ⟩) (λ_ _ h=>h.elim);exact ab.call ((J.frame (σ:=σ) hb).mono (λa s ⟨Γ,Δ⟩=>by subst Γ;subst Δ;exact θ) (λ_ _ h=>h.1.elim))
end
theorem VY {h:Nat} {v:Value}:aJ h (.z v)↔True:=⟨λ_=>trivial,λ_=>.z v⟩
theorem VZ {h:Nat}:aJ h .cg↔True:=⟨λ_=>trivial,λ_=>.cg⟩
theorem HR {h:Nat} {l:List η}:aJ h (.ao l)↔∀a∈l,aJ h a:=⟨λx=>by cases x;assumption,.ao⟩
theorem V0 {h:Nat} {l:List η}:aJ h (.a0 l)↔∀a∈l,aJ h a:=⟨λx=>by cases x;assumption,.a0⟩
theorem V1 {h:Nat} {l:List η}:aJ h (.bq l)↔∀a∈l,aJ h a:=⟨λx=>by cases x;assumption,.bq⟩
theorem iG {h:Nat} {ex:Bool} {k:Nat} {l:List η}:aJ h (.sl ex k l)↔∀e∈l,∀a∈e.cells,aJ h a:=⟨λx=>by cases x;assumption,.sl⟩
theorem V2 {h:Nat} {t:TypeId} {a:η}:aJ h (.fY t a)↔aJ h a:=⟨λx=>by cases x;assumption,.fY⟩
theorem ki {h id n i j:Nat}:aJ h (.ah id n i j)↔id<h:=⟨λx=>by cases x;assumption,.ah⟩
theorem m5 {h id n i j:Nat}:aJ h (.ms id n i j)↔id<h:=⟨λx=>by cases x;assumption,.ms⟩
theorem s9 {h id:Nat}:aJ h (.mp id)↔id<h:=⟨λx=>by cases x;assumption,.mp⟩
theorem V3 {h id:Nat}:aJ h (.it id)↔id<h:=⟨λx=>by cases x;assumption,.it⟩
theorem mg {h:Nat} {f:Fn} {df cs:List η}:aJ h (.fn f df cs)↔(∀a∈df,aJ h a)/\∀a∈cs,aJ h a:=⟨λx=>by cases x;exact⟨by assumption,by assumption⟩,λx=>.fn x.1 x.2⟩
end Go.TL
