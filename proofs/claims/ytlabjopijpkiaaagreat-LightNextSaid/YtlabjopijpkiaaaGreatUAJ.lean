import Derived.Test.YtlabjopijpkiaaaGreatUAI
set_option maxHeartbeats 16000000
set_option maxRecDepth 20000
set_option linter.unusedSectionVars false
set_option linter.unusedSimpArgs false
set_option linter.unusedVariables false
namespace Go.TL
open Go.Conc
inductive ay (h:Nat):η->Prop where
 | z (v:Value):ay h (.z v)
 | ab {l:List η}:(∀a∈l,ay h a)->ay h (.ab l)
 | sl {ex:Bool} {k:Nat} {l:List η}:(∀e∈l,∀a∈e.cells,ay h a)->ay h (.sl ex k l)
 | aV {l:List η}:(∀a∈l,ay h a)->ay h (.aV l)
 | bw {l:List η}:(∀a∈l,ay h a)->ay h (.bw l)
 | an {id n i j:Nat}:id<h->ay h (.an id n i j)
 | ms {id n i len:Nat}:id<h->ay h (.ms id n i len)
 | fn {f:Fn} {dc cs:List η}:(∀a∈dc,ay h a)->(∀a∈cs,ay h a)->ay h (.fn f dc cs)
 | fS {t:TypeId} {a:η}:ay h a->ay h (.fS t a)
 | mp {id:Nat}:id<h->ay h (.mp id)
 | it {id:Nat}:id<h->ay h (.it id)
 | cp:ay h .cp
def eW (h:Nat):Row->Prop
 | .cells _ _ l=>∀e∈l,∀a∈e.cells,ay h a
 | .map es=>∀e∈es,ay h e.1/\ay h e.2
 | .iter m left cur=>m<h/\(∀e∈left,ay h e.1/\ay h e.2)/\∀e,cur=some e->ay h e.1/\ay h e.2
 | .dead=>True
inductive eD (h:Nat) (σ:List Row):η->η->Prop where
 | low {a:η}:ay h a->eD h σ a a
 | cp (a:η):eD h σ a .cp
 | ms {id n i len k:Nat} {t:TypeId} {l d':List η}:h<=id->σ[id]?=some (.cells t k l)->l.length=n->i+len<=n->d'.length=len->
   (∀(j:Nat) (e aM:η),l[i+j]?=some e->d'[j]?=some aM->aM.cells.length=e.cells.length)->(∀(j:Nat) (e aM:η),l[i+j]?=some e->d'[j]?=some aM->∀(x:Nat) (a cn:η),e.cells[x]?=some a->aM.cells[x]?=some cn->eD h σ a cn)->eD h σ (.ms id n i len) (.sl false k d')
 | an {id n i j k:Nat} {t:TypeId} {l cs:List η} {e:η}:h<=id->σ[id]?=some (.cells t k l)->l.length=n->l[i]?=some e->cs.length<=e.cells.length-j->
   (∀(x:Nat) (a cn:η),e.cells[j+x]?=some a->cs[x]?=some cn->eD h σ a cn)->eD h σ (.an id n i j) (.ab cs)
 | aV {l d':List η}:d'.length=l.length->(∀(x:Nat) (a cn:η),l[x]?=some a->d'[x]?=some cn->eD h σ a cn)->eD h σ (.aV l) (.aV d')
 | bw {l d':List η}:d'.length=l.length->(∀(x:Nat) (a cn:η),l[x]?=some a->d'[x]?=some cn->eD h σ a cn)->eD h σ (.bw l) (.bw d')
 | fn {f:Fn} {dc H8 cs cs':List η}:H8.length=dc.length->cs'.length=cs.length->(∀(x:Nat) (a cn:η),dc[x]?=some a->H8[x]?=some cn->eD h σ a cn)->(∀(x:Nat) (a cn:η),cs[x]?=some a->cs'[x]?=some cn->eD h σ a cn)->eD h σ (.fn f dc cs) (.fn f H8 cs')
section
variable {S:aH} {B:aU} {H:χ} {σ:List Row} {h:Nat}
def Late (B:aU) (σ:List Row) (h b:Nat):Prop:=∃id t k l N,h<=id/\σ[id]?=some (Row.cells t k l)/\B[id]?=some (some (b,N))
open Classical in
noncomputable def aH.close (S:aH) (B:aU) (σ:List Row) (H:χ) (h:Nat):aH:=λb o=>if Late B σ h b then(H.aL b o).map (·.1) else S b o
theorem D1 (ω:Holds S B σ H):∀b o v,S b o=some v->S.close B σ H h b o=some v:=λb o v hv=>by
 unfold aH.close;split
 ·rename_i υ;obtain⟨id,t,k,l,N,I,U,ξ⟩:=υ;have:=ω.sep id _ b N U trivial ξ o;rw[hv] at this;cases this
 ·exact hv
theorem av.ry (ω:Holds S B σ H) {a:η} {v:Value} (κ:av S B σ a v) (hb:ay h a):av (S.close B σ H h) (B.take h) (σ.take h) a v:=by
 have bj:∀{α:Type} (l:List α) (i:Nat),i<h->(l.take h)[i]?=l[i]?:=λl i hi=>List.getElem?_take_of_lt hi
 induction κ with
 | z v=>exact .z v
 | ab b o w I _ Β=>
  cases hb with
  | ab hb=>exact .ab b o w (λj a δ=>D1 ω _ _ _ (I j a δ)) λj a δ=>Β j a δ (hb a (cr δ))
 | iK base cap h=>exact .iK base cap h
 | sl b o cap w I U ξ Κ _ Β=>
  cases hb with
  | sl hb=>exact .sl b o cap w I U ξ (λi e hi j c δ=>D1 ω _ _ _ (Κ i e hi j c δ)) λi e hi j c δ=>Β i e hi j c δ (hb e (cr hi) c (cr δ))
 | aV vs I _ Β=>
  cases hb with
  | aV hb=>exact .aV vs I λi a v hi hv=>Β i a v hi hv (hb a (cr hi))
 | bw vs I _ Β=>
  cases hb with
  | bw hb=>exact .bw vs I λi a v hi hv=>Β i a v hi hv (hb a (cr hi))
 | an I U ξ=>
  cases hb with
  | an hb=>exact .an (by rw[bj _ _ hb];exact I) U (by rw[bj _ _ hb];exact ξ)
 | jO v I U=>
  cases hb with
  | an hb=>exact .jO v (by rw[bj _ _ hb];exact I) U
 | ms cap I U ξ Κ aE bd=>
  cases hb with
  | ms hb=>exact .ms cap (by rw[bj _ _ hb];exact I) U (by rw[bj _ _ hb];exact ξ) Κ aE bd
 | jg v I U=>
  cases hb with
  | ms hb=>exact .jg v (by rw[bj _ _ hb];exact I) U
 | fn vs ws I U _ _ sA mJ=>
  cases hb with
  | fn k4 gC=>exact .fn vs ws I U (λi a v hi hv=>sA i a v hi hv (k4 a (cr hi))) λi a v hi hv=>mJ i a v hi hv (gC a (cr hi))
 | fS v _ Β=>
  cases hb with
  | fS hb=>exact .fS v (Β hb)
 | mp I U=>
  cases hb with
  | mp hb=>exact .mp (by rw[bj _ _ hb];exact I) (by rw[bj _ _ hb];exact U)
 | lT v I=>
  cases hb with
  | mp hb=>exact .lT v (by rw[bj _ _ hb];exact I)
 | it I U=>
  cases hb with
  | it hb=>exact .it (by rw[bj _ _ hb];exact I) (by rw[bj _ _ hb];exact U)
 | ns v I=>
  cases hb with
  | it hb=>exact .ns v (by rw[bj _ _ hb];exact I)
 | cp v=>exact .cp v
theorem NW {id b N:Nat} {t:TypeId} {k:Nat} {l:List η} (ai:h<=id) (I:σ[id]?=some (.cells t k l)) (U:B[id]?=some (some (b,N))) {o:Nat} {v:Value} {p:Bool} (hv:H.aL b o=some (v,p)):S.close B σ H h b o=some v:=by
 unfold aH.close;rw[if_pos ⟨id,t,k,l,N,ai,I,U⟩,hv];rfl
theorem av.WZ (ω:Holds S B σ H) {a cn:η} (ν:eD h σ a cn):∀{v:Value},av S B σ a v->av (S.close B σ H h) (B.take h) (σ.take h) cn v:=by
 induction ν with
 | low hb=>intro v κ;exact κ.ry ω hb
 | cp a=>intro v _;exact .cp v
 | @ms id n i len k t l d' I U ξ Κ aE bd _ Β=>
  intro v κ;cases κ with
  | ms cap Τ af aZ cA gP iq=>
   rw[U] at Τ;cases Τ;by_cases Θ:d'=[]
   ·subst Θ;have:len=0:=by rw[<-aE];rfl
    subst this;exact .iK _ _ θ
   ·have qa:0<len:=by rw[<-aE];exact List.length_pos_iff.2 Θ
    rcases iq with iq|⟨b,N,rfl,rfl,iq⟩
    ·omega
    ·obtain⟨_,_,_,w,hw⟩:=ω.row id _ _ U aZ;have el:∀(j:Nat) (aM:η),d'[j]?=some aM->∃e,l[i+j]?=some e/\e.cells.length=k/\aM.cells.length=k:=λj aM δ=>by
      have aB:j<len:=by rw[<-aE];exact(cf.1 δ).1
      have he:l[i+j]?=some l[i+j]:=a5 R;exact⟨_,he,(hw _ _ he).1,(bd j _ aM he δ).trans (hw _ _ he).1⟩
     have:=av.sl (S:=S.close B σ H h) (B:=B.take h) (σ:=σ.take h) (ex:=false) (k:=k) (l:=d') b (i*k) cap (λj x=>w (i+j) x) θ R (λj aM δ=>(el j aM δ).choose_spec.2.2)
      (λj aM δ x cn γ=>by
       obtain⟨e,Δ,Γ,a0⟩:=el j aM δ;have D2:x<e.cells.length:=by rw[Γ,<-a0];exact(cf.1 γ).1
       have:=((hw _ e Δ).2 x _ (a5 D2)).1;rw[Nat.add_mul] at this;exact NW I U aZ this)
      (λj aM δ x cn γ=>by
       obtain⟨e,Δ,Γ,a0⟩:=el j aM δ;have D2:x<e.cells.length:=by rw[Γ,<-a0];exact(cf.1 γ).1
       exact Β j e aM Δ δ x _ cn (a5 D2) γ ((hw _ e Δ).2 x _ (a5 D2)).2.1)
     rw[aE] at this;exact this
  | jg v Τ af=>rw[U] at Τ;cases Τ;simp only[Row.hf] at af;omega
 | @an id n i j k t l cs e I U ξ Κ aE bd Β=>
  intro v κ;cases κ with
  | an Τ af aZ=>
   rw[U] at Τ;cases Τ;obtain⟨_,_,_,w,hw⟩:=ω.row id _ _ U aZ;have el:∀(x:Nat) (cn:η),cs[x]?=some cn->∃a,e.cells[j+x]?=some a:=λx cn γ=>by
    have:=(cf.1 γ).1;exact⟨_,a5 R⟩
   refine .ab _ _ (λx=>w i (j+x)) (λx cn γ=>?_) (λx cn γ=>?_)
   ·obtain⟨a,μ⟩:=el x cn γ;have:=((hw i e Κ).2 _ a μ).1;rw[<-Nat.add_assoc] at this;exact NW I U aZ this
   ·obtain⟨a,μ⟩:=el x cn γ;exact Β x a cn μ γ ((hw i e Κ).2 _ a μ).2.1
  | jO v Τ af=>rw[U] at Τ;cases Τ;simp only[Row.hf] at af;omega
 | aV I U Β=>
  intro v κ;cases κ with
  | aV vs Τ af=>
   refine .aV vs (by rw[I,Τ]) λi cn w hi hv=>?_;have aB:=(cf.1 hi).1;have μ:=a5 (I▸aB);exact Β i _ cn μ hi (af i _ w μ hv)
 | bw I U Β=>
  intro v κ;cases κ with
  | bw vs Τ af=>
   refine .bw vs (by rw[I,Τ]) λi cn w hi hv=>?_;have aB:=(cf.1 hi).1;have μ:=a5 (I▸aB);exact Β i _ cn μ hi (af i _ w μ hv)
 | fn I U _ _ sA mJ=>
  intro v κ;cases κ with
  | fn vs ws Τ af aZ cA=>
   refine .fn vs ws (by rw[I,Τ]) (by rw[U,af]) (λi cn w hi hv=>?_) (λi cn w hi hv=>?_)
   ·have aB:=(cf.1 hi).1
    have μ:=a5 (I▸aB);exact sA i _ cn μ hi (aZ i _ w μ hv)
   ·have aB:=(cf.1 hi).1
    have μ:=a5 (U▸aB);exact mJ i _ cn μ hi (cA i _ w μ hv)
theorem jP.ry (ω:Holds S B σ H) {r:Row} {bo:Option (Nat×Nat)} (κ:jP S B σ H r bo) (hb:eW h r):jP (S.close B σ H h) (B.take h) (σ.take h) H r bo:=by
 have bj:∀{α:Type} (l:List α) (i:Nat),i<h->(l.take h)[i]?=l[i]?:=λl i hi=>List.getElem?_take_of_lt hi;cases r with
 | cells t k l=>
  cases bo with
  | none=>exact κ
  | some x=>
   obtain⟨b,N⟩:=x;obtain⟨I,U,ξ,w,Κ⟩:=κ;refine⟨I,U,ξ,w,λi e hi=>⟨(Κ i e hi).1,λj a δ=>?_⟩⟩;obtain⟨c1,c2,c3⟩:=(Κ i e hi).2 j a δ;exact⟨c1,c2.ry ω (hb e (cr hi) a (cr δ)),c3⟩
 | map es=>
  obtain⟨b,N,xs,clock,rfl,I,U,ξ,Κ⟩:=κ;exact⟨b,N,xs,clock,rfl,I,U,λi e y a b=>by
   obtain⟨c1,c2,c3⟩:=ξ i e y a b;exact⟨c1.ry ω (hb e (cr a)).1,c2.ry ω (hb e (cr a)).2,c3⟩,Κ⟩
 | iter m left cur=>
  obtain⟨hm,k4,gC⟩:=hb;obtain⟨b,N,aW,k5,xs,clock,seen,rfl,I,U,ξ,Κ,⟨cE,i1,i2,i3⟩,i4,i5⟩:=κ;refine⟨b,N,aW,k5,xs,clock,seen,rfl,by rw[bj _ _ hm];exact I,by rw[bj _ _ hm];exact U,ξ,Κ,⟨cE,i1,i2,λi e y a b=>?_⟩,i4,λe he=>?_⟩
  ·obtain⟨c1,c2⟩:=i3 i e y a b;exact⟨c1.ry ω (k4 e (cr a)).1,c2.ry ω (k4 e (cr a)).2⟩
  ·obtain⟨st,y,a,b,c,d⟩:=i5 e he;exact⟨st,y,a,b,c.ry ω (gC e he).1,d.ry ω (gC e he).2⟩
 | dead=>trivial
theorem Holds.close (ω:Holds S B σ H) (hb:∀(id:Nat) (r:Row),id<h->σ[id]?=some r->eW h r) :
  Holds (S.close B σ H h) (B.take h) (σ.take h) H/\Ext S B H (S.close B σ H h) (B.take h) H:=by
 have bj:∀{α:Type} (l:List α) (i:Nat) (x:α),(l.take h)[i]?=some x->i<h/\l[i]?=some x:=λl i x hi=>by
  rw[List.getElem?_take] at hi;split at hi
  ·exact⟨‹_›,hi⟩
  ·cases hi
 refine⟨⟨λb o v hv=>?_,by simp[ω.len],λid r bo κ e6=>?_,λi j et cg b gN gO fP hi δ hy ek hz cS=>?_,λid r b N κ υ e6 o=>?_⟩,⟨D1 ω,λb _ _=>nu.of ⟨λ_=>rfl,rfl,rfl⟩,λb ⟨N,cl⟩=>.inl ⟨N,List.mem_of_mem_take cl⟩,λb o v hv=>?_,λ_ h=>h⟩⟩
 ·unfold aH.close at hv;split at hv
  ·cases ε:H.aL b o with
   | none=>rw[ε] at hv;cases hv
   | some x=>rw[ε] at hv;cases hv;exact⟨x.2,rfl⟩
  ·exact ω.di b o v hv
 ·obtain⟨I,U⟩:=bj _ _ _ κ;obtain⟨_,ξ⟩:=bj _ _ _ e6;exact(ω.row id r bo U ξ).ry ω (hb id r I U)
 ·exact ω.inj i j et cg b gN gO fP (bj _ _ _ hi).2 (bj _ _ _ δ).2 hy ek (bj _ _ _ hz).2 (bj _ _ _ cS).2
 ·obtain⟨I,U⟩:=bj _ _ _ κ;obtain⟨_,ξ⟩:=bj _ _ _ e6;unfold aH.close;rw[if_neg]
  ·exact ω.sep id r b N U υ ξ o
  ·rintro⟨D3,t,k,l,e1,Τ,af,aZ⟩;exact ω.inj id D3 r _ b N e1 R U af υ trivial ξ aZ
 ·unfold aH.close at hv;split at hv
  ·rename_i υ;obtain⟨id,t,k,l,N,_,_,ξ⟩:=υ;exact .inr (.inl (o3 ξ))
  ·exact .inl hv
theorem b'.close {fq:aH} {eC:aU} {σ0:List Row} (ω:Holds S B σ H) (υ:b' fq S eC B σ0 σ) (aY:σ0.length<=h):b' fq (S.close B σ H h) eC (B.take h) σ0 (σ.take h):=
 ⟨λb o v hv=>D1 ω b o v (υ.di b o v hv),λid r κ=>by
  have b0:id<h:=Nat.lt_of_lt_of_le (cf.1 κ).1 aY;obtain⟨r',I,U⟩:=υ.rows id r κ;exact⟨r',by rw[List.getElem?_take_of_lt b0];exact I,by rw[List.getElem?_take_of_lt b0];exact U⟩⟩
end
end Go.TL
namespace Go.TL
open Go.Conc
variable [bt]
structure e7 (m:Nat) (S:aH) (B:aU) (H:χ) (σ:List Row) (aA:aH) (B':aU) (H':χ) (σ':List Row):Prop where
 ext:Ext S B H aA B' H'
 later:b' S aA (B.take m) B' (σ.take m) σ'
structure fI (m nt:Nat) (S:aH) (B:aU) (H:χ) (σ:List Row) (env:aa) (t:Array Value):Prop where
 holds:Holds S B σ H
 cx:dj S B σ env t
 size:t.size=nt
 rows:m<=σ.length
section
variable {m:Nat} {S aA zM:aH} {B B' zN:aU} {H H' NX:χ} {σ σ' zO:List Row}
theorem b'.left (h:b' S aA B B' σ σ') (m:Nat):b' S aA (B.take m) B' (σ.take m) σ':=
 ⟨h.di,λid r κ=>by
  rw[List.getElem?_take] at κ;split at κ
  ·rename_i aB;rw[List.getElem?_take_of_lt aB];exact h.rows id r κ
  ·cases κ⟩
theorem b'.right (h:b' S aA B B' σ σ') (hm:σ.length<=m):b' S aA B (B'.take m) σ (σ'.take m):=
 ⟨h.di,λid r κ=>by
  have aB:id<m:=Nat.lt_of_lt_of_le (cf.1 κ).1 hm;rw[List.getElem?_take_of_lt aB,List.getElem?_take_of_lt aB];exact h.rows id r κ⟩
theorem e7.of (h:Ext S B H aA B' H') (k:b' S aA B B' σ σ'):e7 m S B H σ aA B' H' σ':=⟨h,k.left m⟩
theorem e7.refl:e7 m S B H σ S B H σ:=.of (.refl _ _ _) (.refl _ _ _)
theorem e7.trans (h:e7 m S B H σ aA B' H' σ') (k:e7 m aA B' H' σ' zM zN NX zO):e7 m S B H σ zM zN NX zO:=
 ⟨h.ext.trans k.ext,(h.later.right (m:=m) (by simp;omega)).trans k.later⟩
theorem b'.length (h:b' S aA B B' σ σ'):σ.length<=σ'.length:=by
 apply Classical.byContradiction;intro Η;have aB:σ'.length<σ.length:=R;obtain⟨r',I,_⟩:=h.rows σ'.length _ (a5 aB);simp at I
end
def Leaves (j:List Item) (k:List Item):Prop:=k=j
def W (P:Program) (m nt:Nat) (k:List Item) (env:aa) (σ:List Row) (Z:List Item->aa->List Row->Prop) (E:η->aa->List Row->Prop):Prop:=
 ∀(Q:Value->Prop) (mn:Bool) (x:gV) (cs:List Frame) (b:Frame) (S:aH) (B:aU) (H:χ) (t:Array Value),Seq x->b.mode=.run->fI m nt S B H σ env t->
  (∀(j:List Item) (env':aa) (σ':List Row) (aA:aH) (B':aU) (H':χ) (t':Array Value) (ae:List Item),Z j env' σ'->e7 m S B H σ aA B' H' σ'->fI m nt aA B' H' σ' env' t'->Leaves j ae->aO P Q mn x (ax b t' ae) cs H')->
  (∀(a:η) (env':aa) (σ':List Row) (aA:aH) (B':aU) (H':χ) (t':Array Value) (ae:List Item) (v:Value),E a env' σ'->e7 m S B H σ aA B' H' σ'->Holds aA B' σ' H'->dj aA B' σ' env' t'->av aA B' σ' a v->aO P Q mn x {ax b t' ae with mode:=.panicking [{v,recovered:=false}]} cs H')->
  aO P Q mn x (ax b t k) cs H
section
variable {P:Program} {m nt:Nat} {k:List Item} {env:aa} {σ:List Row} {Z:List Item->aa->List Row->Prop} {E:η->aa->List Row->Prop}
theorem W.stop (h:Z k env σ):W P m nt k env σ Z E:=λ_ _ _ _ _ S B H t _ _ ψ Θ _=>Θ k env σ S B H t k h .refl ψ rfl
theorem W.nil (h:Z [] env σ):W P m nt [] env σ Z E:=.stop h
theorem W.ret (h:Z (.code .ret::k) env σ):W P m nt (.code .ret::k) env σ Z E:=.stop h
theorem W.skip (h:W P m nt k env σ Z E):W P m nt (.code .skip::k) env σ Z E:=λQ mn x cs b S B H t γ hb ψ Θ he=>.skip γ hb (h Q mn x cs b S B H t γ hb ψ Θ he)
theorem W.inBlock {l:Nat} (h:W P m nt k env σ Z E):W P m nt (.inBlock l::k) env σ Z E:=λQ mn x cs b S B H t γ hb ψ Θ he=>.inBlock γ hb (h Q mn x cs b S B H t γ hb ψ Θ he)
theorem W.seq {a c:Code} (h:W P m nt (.code a::.code c::k) env σ Z E):W P m nt (.code (.seq a c)::k) env σ Z E:=λQ mn x cs b S B H t γ hb ψ Θ he=>.seq γ hb (h Q mn x cs b S B H t γ hb ψ Θ he)
theorem W.block {l:Nat} {c:Code} (h:W P m nt (.code c::.inBlock l::k) env σ Z E):W P m nt (.code (.block l c)::k) env σ Z E:=λQ mn x cs b S B H t γ hb ψ Θ he=>.block γ hb (h Q mn x cs b S B H t γ hb ψ Θ he)
theorem W.inLoop {c:Code} (h:W P m nt (.code c::.inLoop c::k) env σ Z E):W P m nt (.inLoop c::k) env σ Z E:=λQ mn x cs b S B H t γ hb ψ Θ he=>.inLoop γ hb (h Q mn x cs b S B H t γ hb ψ Θ he)
theorem W.loop {c:Code} (h:W P m nt (.code c::.inLoop c::k) env σ Z E):W P m nt (.code (.loop c)::k) env σ Z E:=λQ mn x cs b S B H t γ hb ψ Θ he=>.loop γ hb (h Q mn x cs b S B H t γ hb ψ Θ he)
theorem W.exit {id:Nat} {ae:List Item} (ς:exitTo id k=some ae) (h:W P m nt ae env σ Z E):W P m nt (.code (.exit id)::k) env σ Z E:=λQ mn x cs b S B H t γ hb ψ Θ he=>.exit γ hb ς (h Q mn x cs b S B H t γ hb ψ Θ he)
theorem W.cond {c:Operand} {a e:Code} {v:Bool} (ε:aT env c=.z (.bool v)) (h:W P m nt (.code (if v then a else e)::k) env σ Z E):W P m nt (.code (.cond c a e)::k) env σ Z E:=λQ mn x cs b S B H t γ hb ψ Θ he=>by
 refine .cond (v:=v) γ hb ?_ (h Q mn x cs b S B H t γ hb ψ Θ he);have:=lV ψ.cx c;rw[ε] at this;rw[zK];generalize br t c=u at this;cases this;rfl
theorem W.cut (h:Nat) (hm:m<=h) (env':aa) (aY:h<=σ.length) (ob:∀(id:Nat) (r:Row),id<h->σ[id]?=some r->eW h r) (cK:∀p∈env',eD h σ (a6 env p.1) p.2) (hW:W P m nt k env' (σ.take h) Z E):W P m nt k env σ Z E:=
 λQ mn x cs b S B H t γ hb ψ Θ he=>by
 obtain⟨c1,c2⟩:=ψ.holds.close ob;have υ:b' S (S.close B σ H h) (B.take m) (B.take h) (σ.take m) (σ.take h):=by
  have:=b'.close (h:=h) ψ.holds ((b'.refl S B σ).left m) (by simp;omega);exact this
 have μ:e7 m S B H σ (S.close B σ H h) (B.take h) H (σ.take h):=⟨c2,υ⟩
 have v3:∀(l:aa),(∀p∈l,eD h σ (a6 env p.1) p.2)->∀i,eD h σ (a6 env i) (a6 l i):=by
  intro l
  induction l with
  | nil=>intro _ i;exact .cp _
  | cons p l Β=>
   intro υ i;simp only[a6];split
   ·rename_i e;rw[<-e];exact υ p θ
   ·exact Β (λq Ψ=>υ q (by simp[Ψ])) i
 refine hW Q mn x cs b _ _ H t γ hb ⟨c1,λi=>(ψ.cx i).WZ ψ.holds (v3 env' cK i),ψ.size,by simp;omega⟩ (λj hg gE c0 fc bQ t2 cJ Τ af aZ cA=>?_) (λa hg gE c0 fc bQ t2 cJ v Τ af aZ cA gP=>?_)
 ·exact Θ j hg gE c0 fc bQ t2 cJ Τ (μ.trans af) aZ cA
 ·exact he a hg gE c0 fc bQ t2 cJ v Τ (μ.trans af) aZ cA gP
end
def fJ (S:aH) (B:aU) (σ:List Row) (as9:List η) (vs:Array Value):Prop:=as9.length=vs.size/\∀(i:Nat) (a:η) (v:Value),as9[i]?=some a->vs[i]?=some v->av S B σ a v
structure v5 (P:Program) (Q:Value->Prop) (mn:Bool) (x:gV) (c:Frame) (rest:List Frame) (S:aH) (B:aU) (H:χ) (σ:List Row) (K:η->List Row->Prop) (E:η->List Row->Prop):Prop where
 ret:∀(a:η) (σ':List Row) (aA:aH) (B':aU) (H':χ) (v:Value),K a σ'->Ext S B H aA B' H'->b' S aA B B' σ σ'->Holds aA B' σ' H'->av aA B' σ' a v->aO P Q mn x (c.finish v) rest H'
 xY:∀(a:η) (σ':List Row) (aA:aH) (B':aU) (H':χ) (v:Value),E a σ'->Ext S B H aA B' H'->b' S aA B B' σ σ'->Holds aA B' σ' H'->av aA B' σ' a v->aO P Q mn x (c.raise [{v,recovered:=false}]) rest H'
def NY (P:Program) (Q:Value->Prop) (mn:Bool) (x:gV) (c:Frame) (rest:List Frame):Next->χ->Prop
 | .enter g as9,H=>aO P Q mn x (Frame.enter P g as9 .normal) (c::rest) H
 | .round l f xC CX sz,H=>aO P Q mn x (Frame.round l f xC CX sz .normal) (c::rest) H
 | .value v,H=>aO P Q mn x (c.finish v) rest H
 | _,_=>False
def hE (P:Program) (f:η) (args:List η) (σ:List Row) (K:η->List Row->Prop) (E:η->List Row->Prop):Prop:=
 ∀(Q:Value->Prop) (mn:Bool) (x:gV) (c:Frame) (rest:List Frame) (S:aH) (B:aU) (H:χ) (au:Value) (vs:Array Value),Seq x->Holds S B σ H->av S B σ f au->fJ S B σ args vs->v5 P Q mn x c rest S B H σ K E->
  π P (do let d <-Deferred.ofValue au vs;invoke d.target d.args) H (NY P Q mn x c rest) (λ_ _=>False)
def Plain (P:Program) (g:FuncId):Prop:=∃fn,P.funcs[g]?=some fn/\(fn.name == "runtime.NumGoroutine")=false/\fn.body.isNone=false
def ao (P:Program) (g:FuncId) (args:List η) (σ:List Row) (K:η->List Row->Prop) (E:η->List Row->Prop):Prop:=
 Plain P g/\∀(Q:Value->Prop) (mn:Bool) (x:gV) (c:Frame) (rest:List Frame) (S:aH) (B:aU) (H:χ) (vs:Array Value),Seq x->Holds S B σ H->fJ S B σ args vs->v5 P Q mn x c rest S B H σ K E->
  aO P Q mn x (Frame.enter P g vs .normal) (c::rest) H
section
variable {P:Program} {T:bf} {A:List Nat} {m nt:Nat} {k:List Item} {env:aa} {σ:List Row} {Z:List Item->aa->List Row->Prop} {E:η->List Row->Prop} {K:η->List Row->Prop} {F:η->aa->List Row->Prop}
theorem fJ.append {S:aH} {B:aU} {as9 qh:List η} {vs ws:Array Value} (h:fJ S B σ as9 vs) (k:fJ S B σ qh ws):fJ S B σ (as9++qh) (vs++ws):=by
 refine⟨by simp[h.1,k.1],λi a v I U=>?_⟩;by_cases aB:i<as9.length
 ·rw[dE aB] at I;rw[Array.getElem?_append_left (by rw[<-h.1];exact aB)] at U;exact h.2 i a v I U
 ·rw[gl R] at I;rw[Array.getElem?_append_right (by rw[<-h.1];omega),<-h.1] at U;exact k.2 _ a v I U
theorem ao.mono {g:FuncId} {args:List η} {K':η->List Row->Prop} {E':η->List Row->Prop} (h:ao P g args σ K E) (ζ:∀a s,K a s->K' a s) (dn:∀a s,E a s->E' a s):ao P g args σ K' E':=
 ⟨h.1,λQ mn x c rest S B H vs γ ω hv hb=>h.2 Q mn x c rest S B H vs γ ω hv ⟨λa σ' aA B' H' v ς=>hb.ret a σ' aA B' H' v (ζ _ _ ς),λa σ' aA B' H' v ς=>hb.xY a σ' aA B' H' v (dn _ _ ς)⟩⟩
theorem hE.mono {f:η} {args:List η} {K':η->List Row->Prop} {E':η->List Row->Prop} (h:hE P f args σ K E) (ζ:∀a s,K a s->K' a s) (dn:∀a s,E a s->E' a s):hE P f args σ K' E':=
 λQ mn x c rest S B H au vs γ ω Χ hv hb=>h Q mn x c rest S B H au vs γ ω Χ hv ⟨λa σ' aA B' H' v ς=>hb.ret a σ' aA B' H' v (ζ _ _ ς),λa σ' aA B' H' v ς=>hb.xY a σ' aA B' H' v (dn _ _ ς)⟩
theorem ao.call {g:FuncId} {first args captured:List η} (h:ao P g (first++args++captured) σ K E):hE P (.fn (.func g) first captured) args σ K E:=by
 intro Q mn x c rest S B H au vs γ ω Χ hv hb;cases Χ with
 | fn v1 v2 I U ξ Κ=>
  refine π.bind' (π.pure' ?_);obtain⟨⟨fn,bY,k9,D4⟩,H9⟩:=h;unfold invoke;simp only;unfold callFunc;refine π.bind' ?_;show π P (match P.funcs[g]? with|none=>_|some fn=>_) H _ _;rw[bY];simp only[k9,D4,Bool.false_eq_true,if_false];refine π.pure' ?_;have r1:fJ S B σ first v1:=⟨I,ξ⟩
  have r2:fJ S B σ captured v2:=⟨U,Κ⟩;exact H9 Q mn x c rest S B H _ γ ω ((r1.append hv).append r2) hb
def fK (env:aa) (ops:Array Oper) (o:Oper):Option Bool:=match o.guard with
 | none=>some true
 | some (j,want)=>match (ops[j]?).bind (·.dst) with
  | some d=>match a6 env d with
   | .z (.bool b)=>some (b==want)
   | _=>none
  | none=>none
theorem j' {S:aH} {B:aU} {t:Array Value} (h:dj S B σ env t) {ops:Array Oper} {o:Oper} {w:Bool} (hw:fK env ops o=some w):Region.wanted o (yielded ops t)=w:=by
 unfold fK at hw;unfold Region.wanted;split at hw
 ·rename_i Ρ;rw[Ρ];cases hw;rfl
 ·rename_i j want Ρ;rw[Ρ];split at hw
  ·rename_i d hd;split at hw
   ·rename_i b hb;cases hw;have κ:=h d;rw[hb] at κ;unfold yielded;rw[Array.getD_eq_getD_getElem?] at κ;cases Ν:t[d]? with
    | none=>rw[Ν] at κ;cases κ
    | some v=>
     rw[Ν] at κ;simp only[Option.getD_some] at κ;cases κ;simp only[hd,Option.bind_some,Ν];cases b<;>cases want<;>rfl
   ·cases hw
  ·cases hw
def cj (o:Oper) (env:aa) (a:η):aa:=match o.dst with|some d=>(d,a)::env|none=>env
def h3 (nt:Nat) (o:Oper):Bool:=match o.dst with|some d=>decide (d<nt)|none=>true
theorem rz {S:aH} {B:aU} {t:Array Value} (h:dj S B σ env t) {o:Oper} (hd:h3 nt o=true) (Ν:t.size=nt) {a:η} {v:Value} (μ:av S B σ a v):dj S B σ (cj o env a) (put o t v)/\(put o t v).size=nt:=by
 unfold cj put;unfold h3 at hd;cases rA:o.dst with
 | none=>exact⟨h,Ν⟩
 | some d=>
  rw[rA] at hd;simp only[decide_eq_true_eq] at hd;exact⟨h.put (by rw[Ν];exact hd) μ,by simp[Ν]⟩
theorem W.unwanted {ops:Array Oper} {i:Nat} {o:Oper} {rest:List Nat} (Α:ops[i]?=some o) (hw:fK env ops o=some false) (hd:h3 nt o=true) (h:W P m nt (.inRegion ops rest::k) (cj o env .cp) σ Z F):W P m nt (.inRegion ops (i::rest)::k) env σ Z F:=
 λQ mn x cs b S B H t γ hb ψ Θ he=>by
 obtain⟨s1,s2⟩:=rz ψ.cx hd ψ.size (a:=.cp) (v:=undef) (.cp _);exact .unwanted γ hb Α (j' ψ.cx hw) (h Q mn x cs b S B H _ γ hb ⟨ψ.holds,s1,s2,ψ.rows⟩ Θ he)
theorem W.op (Ι:bV P T) {ops:Array Oper} {i:Nat} {o:Oper} {rest:List Nat} (Α:ops[i]?=some o) (hw:fK env ops o=some true) (hd:h3 nt o=true) (kJ:∀c,o.op≠.defer c)
  (h:((mN T A env o).or σ (kK T A env σ o)).holds λa σ'=>W P m nt (.inRegion ops rest::k) (cj o env a) σ' Z F):W P m nt (.inRegion ops (i::rest)::k) env σ Z F:=
 λQ mn x cs b S B H t γ hb ψ Θ he=>by
 refine .op γ hb Α (j' ψ.cx hw) (.inr kJ) ?_;have W0:=cF.WR (WX (A:=A) Ι ψ.holds ψ.cx o) (WY (A:=A) Ι ψ.holds ψ.cx o);refine π.mono (λgD H' ⟨v,hv,aA,B',σ',a,ζ,rB,jj,υ,κ⟩=>?_) (λ_ _ h=>h.elim) _ (W0 _ h);obtain⟨s1,s2⟩:=rz (ψ.cx.later υ) hd ψ.size κ;have μ:e7 m S B H σ aA B' H' σ':=.of rB υ;have fin:aO P Q mn x (ax b (put o t v) (.inRegion ops rest::k)) cs H':=
  ζ Q mn x cs b aA B' H' _ γ hb ⟨jj,s1,s2,Nat.le_trans ψ.rows υ.length⟩ (λj hg gE c0 fc bQ t2 cJ Τ af aZ cA=>Θ j hg gE c0 fc bQ t2 cJ Τ (μ.trans af) aZ cA)
   (λbk hg gE c0 fc bQ t2 cJ v2 Τ af aZ cA gP=>he bk hg gE c0 fc bQ t2 cJ v2 Τ (μ.trans af) aZ cA gP)
 cases gD<;>simp only[Nb,reduceCtorEq,Option.some.injEq] at hv<;>first|(subst hv;exact fin)|skip
theorem W.call {ops:Array Oper} {i:Nat} {o:Oper} {rest:List Nat} (Α:ops[i]?=some o) (hw:fK env ops o=some true) (hd:h3 nt o=true) {f:Operand} {args:Array Operand} {ea:Array TypeId} (Ξ:o.op=.call ⟨.value f,args,ea⟩)
  (h:hE P (aT env f) (args.toList.map (aT env)) σ (λa σ'=>W P m nt (.inRegion ops rest::k) (cj o env a) σ' Z F) (λa s=>F a env s)):W P m nt (.inRegion ops (i::rest)::k) env σ Z F:=
 λQ mn x cs b S B H t γ hb ψ Θ he=>by
 refine .op γ hb Α (j' ψ.cx hw) (.inr λc=>by rw[Ξ];simp) ?_;have mO:fJ S B σ (args.toList.map (aT env)) (args.map (br t)):=by
  refine⟨θ,λi a v I U=>?_⟩;rw[List.getElem?_map,Array.getElem?_toList] at I;rw[Array.getElem?_map] at U;cases γ:args[i]? with
  | none=>rw[γ] at I;cases I
  | some y=>rw[γ] at I U;cases I;cases U;exact lV ψ.cx y
 have H9:=h Q mn x (ax b t (.inRegion ops (i::rest)::k)) cs S B H (br t f) (args.map (br t)) γ ψ.holds (lV ψ.cx f) mO ⟨λa σ' aA B' H' v ζ rB υ jj κ=>?_,λa σ' aA B' H' v dn rB υ jj κ=>?_⟩
 ·have e:execOp (br t) o=(do let d <-Deferred.ofValue (br t f) (args.map (br t));invoke d.target d.args):=by unfold execOp;rw[Ξ];rfl
  rw[e];refine π.mono (λgD H' Η=>?_) (λ_ _ h=>h.elim) _ H9;cases gD<;>first|exact Η.elim|exact Η|skip
  rename_i v;have:=il (b:=b) (t:=t) (k:=k) (v:=v) Α (rest:=rest);simp only[NY] at Η;rw[this] at Η;exact Η
 ·obtain⟨s1,s2⟩:=rz (ψ.cx.later υ) hd ψ.size κ;have μ:e7 m S B H σ aA B' H' σ':=.of rB υ;rw[il Α];exact ζ Q mn x cs b aA B' H' _ γ hb ⟨jj,s1,s2,Nat.le_trans ψ.rows υ.length⟩ (λj hg gE c0 fc bQ t2 cJ Τ af aZ cA=>Θ j hg gE c0 fc bQ t2 cJ Τ (μ.trans af) aZ cA)
   (λbk hg gE c0 fc bQ t2 cJ v2 Τ af aZ cA gP=>he bk hg gE c0 fc bQ t2 cJ v2 Τ (μ.trans af) aZ cA gP)
 ·have:=he a env σ' aA B' H' t (.inRegion ops (i::rest)::k) v dn (.of rB υ) jj (ψ.cx.later υ) κ
  have e:(ax b t (.inRegion ops (i::rest)::k)).raise [{v,recovered:=false}]={ax b t (.inRegion ops (i::rest)::k) with mode:=.panicking [{v,recovered:=false}]}:=by simp[Frame.raise,ax,hb]
  rw[e];exact this
theorem W.panic {ops:Array Oper} {i:Nat} {o:Oper} {rest:List Nat} (Α:ops[i]?=some o) (hw:fK env ops o=some true) {y:Operand} (Ξ:o.op=.panic y) {ty:TypeId} {a:η} (Ο:aT env y=.fS ty a) (h:F (.fS ty a) env σ):W P m nt (.inRegion ops (i::rest)::k) env σ Z F:=
 λQ mn x cs b S B H t γ hb ψ Θ he=>by
 refine .op γ hb Α (j' ψ.cx hw) (.inr λc=>by rw[Ξ];simp) ?_;have κ:=lV ψ.cx y;have e:execOp (br t) o=(do pure (.value (<-Instr.panic (br t y)))):=by unfold execOp;rw[Ξ]
 rw[e];rw[Ο] at κ;generalize hv:br t y=v at κ;refine π.bind' ?_;cases κ with
 | fS fi I=>exact he (.fS ty a) env σ S B H t _ _ h .refl ψ.holds ψ.cx (.fS fi I)
end
def v7 (P:Program) (T:bf) (A:List Nat) (env:aa) (o:Oper) (σ:List Row) (K:η->List Row->Prop) (E:η->aa->List Row->Prop):Prop:=match o.op with
 | .call ⟨.value f,args,_⟩=>hE P (aT env f) (args.toList.map (aT env)) σ K (λa s=>E a env s)
 | .panic y=>match aT env y with|.fS t a=>E (.fS t a) env σ|_=>False
 | .defer _=>False
 | _=>((mN T A env o).or σ (kK T A env σ o)).holds K
def jR (w:Bool) (a b:Prop):Prop:=(w=false->a)/\(w=true->b)
theorem W1 {a b:Prop}:jR true a b=b:=by simp[jR]
theorem W2 {a b:Prop}:jR false a b=a:=by simp[jR]
theorem W3 {w w':Bool} {a b:Prop} (h:w=w'):jR w a b=jR w' a b:=by rw[h]
def gY {α:Type} (x:Option α) (f:α->Prop):Prop:=match x with|none=>False|some a=>f a
theorem W4 {α:Type} {a:α} {f:α->Prop}:gY (some a) f=f a:=Eq.trans rfl rfl
theorem W5 {α:Type} {f:α->Prop}:gY none f=False:=rfl
theorem W6 {α:Type} {x df:Option α} {f:α->Prop} (h:x=df):gY x f=gY df f:=by rw[h]
theorem W7 {K:η->List Row->Prop} {r r':da} (h:r=r'):r.holds K=r'.holds K:=by rw[h]
theorem or_congr {r r':cF} {σ:List Row} {s:da} (h:r=r'):r.or σ s=r'.or σ s:=by rw[h]
def run (P:Program) (T:bf) (A:List Nat) (nt:Nat) (ops:Array Oper):List Nat->aa->List Row->(aa->List Row->Prop)->(η->aa->List Row->Prop)->Prop
 | [],env,σ,K,_=>K env σ
 | i::is,env,σ,K,E=>gY ops[i]? λo=>h3 nt o=true/\gY (fK env ops o) λw=>
   jR w (run P T A nt ops is (cj o env .cp) σ K E) (v7 P T A env o σ (λa σ'=>run P T A nt ops is (cj o env a) σ' K E) E)
def NZ (P:Program) (T:bf) (A:List Nat) (nt:Nat) (ops:Array Oper) (is:List Nat) (o:Oper) (env:aa) (K:aa->List Row->Prop) (E:η->aa->List Row->Prop) (a:η) (σ':List Row):Prop:=run P T A nt ops is (cj o env a) σ' K E
theorem qi {P:Program} {T:bf} {A:List Nat} {nt:Nat} {ops:Array Oper} {env:aa} {σ:List Row} {K:aa->List Row->Prop} {E:η->aa->List Row->Prop}:run P T A nt ops [] env σ K E=K env σ:=Eq.trans rfl rfl
theorem Υ {P:Program} {T:bf} {A:List Nat} {nt:Nat} {ops:Array Oper} {i:Nat} {is:List Nat} {env:aa} {σ:List Row} {K:aa->List Row->Prop} {E:η->aa->List Row->Prop} :
  run P T A nt ops (i::is) env σ K E=gY ops[i]? λo=>h3 nt o=true/\gY (fK env ops o) λw=>
   jR w (run P T A nt ops is (cj o env .cp) σ K E) (v7 P T A env o σ (NZ P T A nt ops is o env K E) E):=Eq.trans rfl rfl
theorem N0 {P:Program} {T:bf} {A:List Nat} {nt:Nat} {ops:Array Oper} {is:List Nat} {o:Oper} {env:aa} {σ:List Row} {K:aa->List Row->Prop} {E:η->aa->List Row->Prop} {a:η}:NZ P T A nt ops is o env K E a σ=run P T A nt ops is (cj o env a) σ K E:=Eq.trans rfl rfl
section
variable {P:Program} {T:bf} {A:List Nat} {m nt:Nat} {k:List Item} {env:aa} {σ:List Row} {Z:List Item->aa->List Row->Prop} {E:η->aa->List Row->Prop} {K:η->List Row->Prop}
theorem W.bI {ops:Array Oper} (h:W P m nt k env σ Z E):W P m nt (.inRegion ops []::k) env σ Z E:=λQ mn x cs b S B H t γ hb ψ Θ he=>.bI γ hb (h Q mn x cs b S B H t γ hb ψ Θ he)
theorem Ia (Ι:bV P T) {ops:Array Oper} (kg:List Nat):∀(is:List Nat) (env:aa) (σ:List Row),run P T A nt ops is env σ (λenv σ=>W P m nt (.inRegion ops kg::k) env σ Z E) E->W P m nt (.inRegion ops (is++kg)::k) env σ Z E:=by
 intro is
 induction is with
 | nil=>intro env σ h;exact h
 | cons i is Β=>
  intro env σ h;unfold run gY at h;split at h
  ·exact h.elim
  ·rename_i o Α;obtain⟨hd,h⟩:=h;split at h
   ·exact h.elim
   rename_i w hw;unfold jR at h;cases w
   ·exact .unwanted Α hw hd (Β _ _ (h.1 rfl))
   ·replace h:=h.2 rfl
    unfold v7 at h;split at h
    ·rename_i f args ea Ξ;exact .call Α hw hd Ξ (h.mono (λa s h=>Β _ _ h) (λ_ _ h=>h))
    ·rename_i y Ξ;split at h
     ·rename_i ty a Ο;exact .panic Α hw Ξ Ο h
     ·exact h.elim
    ·exact h.elim
    ·rename_i I U ξ;refine .op (A:=A) Ι Α hw hd (λc ε=>ξ c ε) ?_;generalize (mN T A env o).or σ (kK T A env σ o)=r at h;have key:∀r:da,r.holds (λa σ'=>run P T A nt ops is (cj o env a) σ' (λenv σ=>W P m nt (.inRegion ops kg::k) env σ Z E) E)->r.holds λa σ'=>W P m nt (.inRegion ops (is++kg)::k) (cj o env a) σ' Z E:=by
      intro r
      induction r with
      | ok a s=>exact λh=>Β _ _ h
      | ca p r mJ=>exact λh=>⟨h.1,mJ h.2⟩
      | all n f mJ=>exact λh i hi=>mJ i (h i hi)
      | bad=>exact λh=>h
     exact key r h
theorem da.W8 {K K':η->List Row->Prop} (ζ:∀a s,K a s->K' a s):∀r:da,r.holds K->r.holds K':=by
 intro r
 induction r with
 | ok a s=>exact λh=>ζ _ _ h
 | ca p r Β=>exact λh=>⟨h.1,Β h.2⟩
 | all n f Β=>exact λh i hi=>Β i (h i hi)
 | bad=>exact λh=>h
theorem W9 {env:aa} {o:Oper} {K K':η->List Row->Prop} (ζ:∀a s,K a s->K' a s) (h:v7 P T A env o σ K E):v7 P T A env o σ K' E:=by
 unfold v7 at h ⊢;split
 ·rename_i f args ea Ξ;rw[Ξ] at h;exact hE.mono h ζ λ_ _ h=>h
 ·rename_i y Ξ;rw[Ξ] at h;exact h
 ·rename_i Ξ;rw[Ξ] at h;exact h
 ·rename_i I U ξ;split at h
  ·rename_i f args ea Ξ;exact absurd Ξ (I f args ea)
  ·rename_i y Ξ;exact absurd Ξ (U y)
  ·rename_i y Ξ;exact absurd Ξ (ξ y)
  ·exact da.W8 ζ _ h
theorem D5 {ops:Array Oper} {nt:Nat} {K K':aa->List Row->Prop} (ζ:∀e s,K e s->K' e s):∀(is:List Nat) (env:aa) (σ:List Row),run P T A nt ops is env σ K E->run P T A nt ops is env σ K' E:=by
 intro is
 induction is with
 | nil=>intro env σ h;exact ζ _ _ h
 | cons i is Β=>
  intro env σ h;unfold run gY at h ⊢;cases Α:ops[i]? with
  | none=>rw[Α] at h;exact h.elim
  | some o=>
   rw[Α] at h;simp only at h ⊢;refine⟨h.1,?_⟩
   replace h:=h.2
   cases hw:fK env ops o with
   | none=>rw[hw] at h;exact h.elim
   | some w=>
    rw[hw] at h;unfold jR at h ⊢;exact⟨λe=>Β _ _ (h.1 e),λe=>W9 (λa s=>Β _ _) (h.2 e)⟩
theorem W' (Ι:bV P T) {ops:Array Oper} (is:List Nat) (env:aa) (σ:List Row) (h:run P T A nt ops is env σ (λenv σ=>W P m nt k env σ Z E) E):W P m nt (.inRegion ops is::k) env σ Z E:=by
 have:=Ia (A:=A) Ι [] is env σ (ops:=ops) (k:=k) (Z:=Z) (E:=E) (P:=P) (m:=m) (nt:=nt);rw[List.append_nil] at this;refine this ?_;have mono:∀(is:List Nat) (env:aa) (σ:List Row) (K K':aa->List Row->Prop),(∀e s,K e s->K' e s)->run P T A nt ops is env σ K E->run P T A nt ops is env σ K' E:=λis env σ K K' ζ h=>D5 ζ is env σ h;exact mono is env σ _ _ (λe s h=>.bI h) h
def idx:Nat->List Nat->List Nat
 | 0,l=>l
 | n+1,l=>idx n (n::l)
theorem idx_eq (n:Nat):idx n []=List.range n:=by
 have:∀(n:Nat) (l:List Nat),idx n l=List.range.loop n l:=by
  intro n
  induction n with
  | zero=>intro l;rfl
  | succ n Β=>intro l;exact Β _
 exact this n []
theorem dG (Ι:bV P T) {id:Nat} {ops:Array Oper} (h:∀Ε:aa->List Row->Prop,(∀env σ,W P m nt k env σ Z E->Ε env σ)->run P T A nt ops (idx ops.size []) env σ Ε E):W P m nt (.code (.region id ops false)::k) env σ Z E:=
 λQ mn x cs b S B H t γ hb ψ Θ he=>.region γ hb (W' Ι _ _ _ (by rw[<-idx_eq];exact h _ λ_ _ h=>h) Q mn x cs b S B H t γ hb ψ Θ he)
theorem W.forget (env':aa) (cK:∀p∈env',a6 env p.1=p.2) (h:W P m nt k env' σ Z E):W P m nt k env σ Z E:=
 λQ mn x cs b S B H t γ hb ψ Θ he=>by
 have v3:∀(l:aa),(∀p∈l,a6 env p.1=p.2)->∀i,a6 l i=.cp\/a6 l i=a6 env i:=by
  intro l
  induction l with
  | nil=>intro _ i;exact .inl rfl
  | cons p l Β=>
   intro υ i;simp only[a6];split
   ·rename_i e;subst e;exact .inr (υ p θ).symm
   ·exact Β (λq Ψ=>υ q (by simp[Ψ])) i
 refine h Q mn x cs b S B H t γ hb ⟨ψ.holds,λi=>?_,ψ.size,ψ.rows⟩ Θ he;rcases v3 env' cK i with e|e
 ·rw[e];exact .cp _
 ·rw[e];exact ψ.cx i
theorem W.sQ (Ι:bV P T) (env':aa) {id:Nat} {ops:Array Oper} (h:W P m nt k env' σ Z E) (κ:run P T A nt ops (idx ops.size []) env σ (λe s=>s=σ/\∀p∈env',a6 e p.1=p.2) E):W P m nt (.code (.region id ops false)::k) env σ Z E:=
 dG Ι λΕ ζ=>D5 (λe s ⟨I,U⟩=>ζ e s (I▸W.forget env' U h)) _ _ _ κ
def v8 (i:im) (l:List η):Option η:=if i.agg then(if i.size<=l.length then some (.aV (l.take i.size)) else none) else l.head?
def xZ (T:bf) (ty:TypeId) (σ:List Row):η->Option η
 | .ab cells=>match T ty with|some i=>v8 i cells|none=>none
 | .an id n i j=>match T ty,σ[id]? with
  | some k0,some (.cells _ _ l)=>if l.length=n then match l[i]? with
   | some e=>v8 k0 (e.cells.drop j)
   | none=>none else none
  | _,_=>none
 | _=>none
def sR (T:bf) (env:aa) (σ:List Row):ResultVar->Option η
 | .tmp t=>some (a6 env t)
 | .cell a ty=>xZ T ty σ (a6 env a)
def D6:List η->η
 | [a]=>a
 | l=>.bw l
def qj (T:bf) (rs:List ResultVar) (env:aa) (σ:List Row):Option η:=(rs.mapM (sR T env σ)).map D6
theorem N1 {i:im} {l:List η} {v:η} (h:v8 i l=some v):tW i l=.ok v:=by
 unfold v8 at h;unfold tW;cases tX:i.agg with
 | true=>
  rw[tX] at h;simp only[if_true] at h ⊢;split at h
  ·rename_i hle;cases h;rw[if_pos hle]
  ·cases h
 | false=>
  rw[tX] at h;simp only[Bool.false_eq_true,if_false] at h ⊢;cases l with
  | nil=>cases h
  | cons a l=>cases h;rfl
theorem Xa (Ι:bV P T) {S:aH} {B:aU} {H:χ} (ω:Holds S B σ H) {ty:TypeId} {a v:η} {w:Value} (h:xZ T ty σ a=some v) (κ:av S B σ a w):cM P (do loadVar ty (<-asAddr w)) S B H σ (.ok v σ):=by
 unfold xZ at h;split at h
 ·rename_i cells;split at h
  ·rename_i i hi;cases κ with
   | ab b o w I U=>
    have:=C7 Ι ω hi w (λj a δ=>ω.di _ _ _ (I j a δ)) U;rw[N1 h] at this;exact this
  ·cases h
 ·rename_i id n i j;split at h
  ·rename_i k0 t k l hi υ;split at h
   ·rename_i Η;split at h
    ·rename_i e he;cases κ with
     | an I U ξ=>
      rw[υ] at I;cases I;obtain⟨ς,w,hw⟩:=Nc ω υ ξ he;have:=C7 Ι ω hi (l:=e.cells.drop j) (b:=_) (o:=i*k+j) (λx=>w (j+x)) (λx a γ=>⟨true,by
       rw[List.getElem?_drop] at γ;rw[Nat.add_assoc];exact(hw _ a γ).1⟩) (λx a γ=>by
       rw[List.getElem?_drop] at γ;exact(hw _ a γ).2.1)
      rw[N1 h] at this;exact this
     | jO v I U=>rw[υ] at I;cases I;simp only[Row.hf] at U;omega
    ·cases h
   ·cases h
  ·cases h
 ·cases h
theorem D7 (Ι:bV P T) {fn:Func} {a:η} (h:qj T fn.results.toList env σ=some a) {S:aH} {B:aU} {H:χ} {t:Array Value} (ω:Holds S B σ H) (ν:dj S B σ env t) :
  π P (results fn t) H (λv H'=>∃aA B',Ext S B H aA B' H'/\b' S aA B B' σ σ/\Holds aA B' σ H'/\av aA B' σ a v) (λ_ _=>False):=by
 let f:ResultVar->Sem Value:=λr=>match r with
  | .tmp x=>pure (t.getD x undef)
  | .cell a ty=>do loadVar ty (<-asAddr (t.getD a undef))
 have key:∀(rs:List ResultVar) (as9:List η) (S:aH) (B:aU) (H:χ),rs.mapM (sR T env σ)=some as9->Holds S B σ H->dj S B σ env t->
   π P (rs.mapM f) H (λvs H'=>∃aA B',Ext S B H aA B' H'/\b' S aA B B' σ σ/\Holds aA B' σ H'/\as9.length=vs.length/\∀(i:Nat) (a:η) (v:Value),as9[i]?=some a->vs[i]?=some v->av aA B' σ a v) (λ_ _=>False):=by
  intro rs
  induction rs with
  | nil=>intro as9 S B H h ω _;simp at h;subst h;exact π.pure' ⟨S,B,.refl _ _ _,.refl _ _ _,ω,rfl,λi a v hi=>by simp at hi⟩
  | cons r rs Β=>
   intro as9 S B H h ω ν;rw[List.mapM_cons] at h ⊢;cases κ:sR T env σ r with
   | none=>rw[κ] at h;cases h
   | some a=>
    rw[κ] at h;simp only[Option.bind_eq_bind,Option.bind_some] at h;cases Ρ:rs.mapM (sR T env σ) with
    | none=>rw[Ρ] at h;cases h
    | some l2=>
     rw[Ρ] at h;cases h;have step:π P (f r) H (λv H'=>∃aA B',Ext S B H aA B' H'/\b' S aA B B' σ σ/\Holds aA B' σ H'/\av aA B' σ a v) (λ_ _=>False):=by
      cases r with
      | tmp x=>simp only[sR,Option.some.injEq] at κ;subst κ;exact π.pure' ⟨S,B,.refl _ _ _,.refl _ _ _,ω,ν x⟩
      | cell x ty=>
       refine π.mono (λv H' ⟨aA,B',σ',cn,⟨I,U⟩,ξ,Κ,aE,bd⟩=>?_) (λ_ _ h=>h) _ (Xa Ι ω κ (ν x) (λcn bp=>cn=a/\bp=σ) ⟨rfl,rfl⟩);subst I;subst U;exact⟨aA,B',ξ,aE,Κ,bd⟩
     refine π.bind' (π.mono (λv H1 ⟨bM,bR,Δ,l1,I,r1⟩=>?_) (λ_ _ h=>h) _ step);refine π.bind' (π.mono (λvs bQ ⟨c0,fc,Γ,N2,U,gb,r2⟩=>?_) (λ_ _ h=>h) _ (Β l2 bM bR H1 Ρ I (ν.later l1)));refine π.pure' ⟨c0,fc,Δ.trans Γ,l1.trans N2,U,by simp[gb],λi cn fi hi hv=>?_⟩
     match i with
     | 0=>simp at hi hv;subst hi;subst hv;exact r1.later N2
     | i+1=>simp at hi hv;exact r2 i cn fi hi hv
 unfold qj at h;cases hm:fn.results.toList.mapM (sR T env σ) with
 | none=>rw[hm] at h;cases h
 | some as9=>
  rw[hm] at h;cases h;have ς:=key fn.results.toList as9 S B H hm ω ν;unfold results;rw[Array.mapM_eq_mapM_toList];refine π.bind' ?_;refine π.bind (fn.results.toList.mapM f) (π.mono (λvs H1 ⟨bM,bR,Δ,l1,I,hP,r1⟩=>?_) (λ_ _ h=>h) _ ς);refine π.pure' ?_;refine π.pure' ⟨bM,bR,Δ,l1,I,?_⟩;by_cases Η:vs.toArray.size=1
  ·rw[dif_pos Η];have v9:vs.length=1:=by simpa using Η
   obtain⟨v,rfl⟩:=List.length_eq_one_iff.1 v9;obtain⟨a,rfl⟩:=List.length_eq_one_iff.1 (hP.trans v9);exact r1 0 a v rfl rfl
  ·rw[dif_neg Η];have v9:as9.length≠1:=by rw[hP];simpa using Η
   have:D6 as9=.bw as9:=by
    match as9 with
    | []=>rfl
    | [a]=>simp at v9
    | a::b::l=>rfl
   rw[this];exact .bw _ (by simpa using hP) λi a v hi hv=>r1 i a v hi (by simpa using hv)
def entry:Nat->List η->aa
 | _,[]=>[]
 | i,a::as9=>(i,a)::entry (i+1) as9
theorem N3 {S:aH} {B:aU} {as9:List η} {vs:Array Value} (h:fJ S B σ as9 vs) (n:Nat):dj S B σ (entry 0 as9) (vs++Array.replicate n undef):=by
 have key:∀(l:List η) (j i:Nat),a6 (entry j l) i=if j<=i then(l[i-j]?).getD .cp else .cp:=by
  intro l
  induction l with
  | nil=>intro j i;simp[entry,a6]
  | cons a l Β=>
   intro j i;simp only[entry,a6];by_cases e:j=i
   ·subst e;simp
   ·rw[if_neg e,Β];by_cases hle:j<=i
    ·rw[if_pos R,if_pos hle];have:i-j=(i-(j+1))+1:=R;rw[this,List.getElem?_cons_succ]
    ·rw[if_neg R,if_neg hle]
 intro i;rw[key,if_pos (Nat.zero_le _),Nat.sub_zero];by_cases aB:i<as9.length
 ·have μ:=a5 aB;rw[μ];have hv:i<vs.size:=by rw[<-h.1];exact aB
  rw[Array.getD_eq_getD_getElem?,Array.getElem?_append_left hv];exact h.2 i _ _ μ (by rw[fh hv];rfl)
 ·rw[List.getElem?_eq_none R];exact .cp _
def Ends (T:bf) (rs:List ResultVar) (K:η->List Row->Prop) (j:List Item) (env:aa) (σ:List Row):Prop:=match j with
 | []=>∃a,qj T rs env σ=some a/\K a σ
 | .code .ret::_=>∃a,qj T rs env σ=some a/\K a σ
 | _=>False
theorem ao.Xb {F:η->List Row->Prop} (Ι:bV P T) {g:FuncId} {fn:Func} {body:Code} (bY:P.funcs[g]?=some fn) (nz:fn.body=some body) (vS:(fn.name == "runtime.NumGoroutine")=false) {args:List η} (hlen:args.length<=fn.ntmps)
  (h:W P σ.length fn.ntmps [.code body] (entry 0 args) σ (Ends T fn.results.toList K) (λa _ s=>F a s)):ao P g args σ K F:=by
 refine⟨⟨fn,bY,vS,by rw[nz];rfl⟩,λQ mn x c rest S B H vs γ ω hv hb=>?_⟩;have k':∀{α:Type} (l:List α),l.length=σ.length->l.take σ.length=l:=λl υ=>List.take_of_length_le R;have fe:Frame.enter P g vs .normal=ax (Frame.enter P g vs .normal) (vs++Array.replicate (fn.ntmps-vs.size) undef) [.code body]:=by
  simp[Frame.enter,ax,bY,nz]
 rw[fe];have cv:(vs++Array.replicate (fn.ntmps-vs.size) undef).size=fn.ntmps:=by
  have:=hv.1;simp;omega
 refine h Q mn x (c::rest) _ S B H _ γ rfl ⟨ω,N3 hv _,cv,Nat.le_refl _⟩ (λj env' σ' aA B' H' t' ae Θ μ ψ υ=>?_) (λa env' σ' aA B' H' t' ae v dn μ jj _ κ=>?_)
 ·have Ib:b' S aA B B' σ σ':=by
   have:=μ.later
   rwa [k' B ω.len,k' σ rfl] at this
  have fin:(∃a,qj T fn.results.toList env' σ'=some a/\K a σ')->aO P Q mn x {ax (Frame.enter P g vs .normal) t' ae with mode:=.returning} (c::rest) H':=λ⟨a,I,U⟩=>by
   refine .back γ rfl rfl (.inl rfl) bY ?_;refine π.mono (λv bQ ⟨c0,fc,Γ,l2,ξ,r2⟩=>?_) (λ_ _ h=>h) _ (D7 Ι I ψ.holds ψ.cx);exact hb.ret a σ' c0 fc bQ v U (μ.ext.trans Γ) (Ib.trans l2) ξ r2
  have:ae=j:=υ;subst this;unfold Ends at Θ;split at Θ
  ·exact .sy γ rfl rfl (fin Θ)
  ·exact .ret γ rfl rfl (fin Θ)
  ·exact Θ.elim
 ·have Ib:b' S aA B B' σ σ':=by
   have:=μ.later
   rwa [k' B ω.len,k' σ rfl] at this
  refine .raised γ rfl rfl ?_ (hb.xY a σ' aA B' H' v dn μ.ext Ib jj κ);simp[Frame.catches,ax,Frame.enter,bY]
end
section
variable {P:Program} {S aA:aH} {B:aU} {H H':χ} {σ:List Row}
theorem av.take {h:Nat} {a:η} {v:Value} (κ:av S B σ a v) (hb:ay h a):av S (B.take h) (σ.take h) a v:=by
 have bj:∀{α:Type} (l:List α) (i:Nat),i<h->(l.take h)[i]?=l[i]?:=λl i hi=>List.getElem?_take_of_lt hi
 induction κ with
 | z v=>exact .z v
 | ab b o w I _ Β=>
  cases hb with
  | ab hb=>exact .ab b o w I λj a δ=>Β j a δ (hb a (cr δ))
 | iK base cap h=>exact .iK base cap h
 | sl b o cap w I U ξ Κ _ Β=>
  cases hb with
  | sl hb=>exact .sl b o cap w I U ξ Κ λi e hi j c δ=>Β i e hi j c δ (hb e (cr hi) c (cr δ))
 | aV vs I _ Β=>
  cases hb with
  | aV hb=>exact .aV vs I λi a v hi hv=>Β i a v hi hv (hb a (cr hi))
 | bw vs I _ Β=>
  cases hb with
  | bw hb=>exact .bw vs I λi a v hi hv=>Β i a v hi hv (hb a (cr hi))
 | an I U ξ=>
  cases hb with
  | an hb=>exact .an (by rw[bj _ _ hb];exact I) U (by rw[bj _ _ hb];exact ξ)
 | jO v I U=>
  cases hb with
  | an hb=>exact .jO v (by rw[bj _ _ hb];exact I) U
 | ms cap I U ξ Κ aE bd=>
  cases hb with
  | ms hb=>exact .ms cap (by rw[bj _ _ hb];exact I) U (by rw[bj _ _ hb];exact ξ) Κ aE bd
 | jg v I U=>
  cases hb with
  | ms hb=>exact .jg v (by rw[bj _ _ hb];exact I) U
 | fn vs ws I U _ _ sA mJ=>
  cases hb with
  | fn k4 gC=>exact .fn vs ws I U (λi a v hi hv=>sA i a v hi hv (k4 a (cr hi))) λi a v hi hv=>mJ i a v hi hv (gC a (cr hi))
 | fS v _ Β=>
  cases hb with
  | fS hb=>exact .fS v (Β hb)
 | mp I U=>
  cases hb with
  | mp hb=>exact .mp (by rw[bj _ _ hb];exact I) (by rw[bj _ _ hb];exact U)
 | lT v I=>
  cases hb with
  | mp hb=>exact .lT v (by rw[bj _ _ hb];exact I)
 | it I U=>
  cases hb with
  | it hb=>exact .it (by rw[bj _ _ hb];exact I) (by rw[bj _ _ hb];exact U)
 | ns v I=>
  cases hb with
  | it hb=>exact .ns v (by rw[bj _ _ hb];exact I)
 | cp v=>exact .cp v
theorem av.any {a:η} {v:Value} (κ:av S B σ a v) (hb:ay 0 a) (fc:aU) (gE:List Row):av S fc gE a v:=by
 have I:av S [] [] a v:=by simpa using κ.take hb
 exact I.later ⟨λ_ _ _ h=>h,λid r h=>by simp at h⟩
theorem Holds.bare (ω:Holds S B σ H):Holds S [] [] H:=
 ⟨ω.di,rfl,λid r bo h=>by simp at h,λi j et cg b gN gO fP h=>by simp at h,λid r b N h=>by simp at h⟩
theorem Holds.back (ω:Holds S B σ H) (he:Ext S [] H aA [] H') (ai:Holds aA [] [] H'):Holds aA B σ H'/\Ext S B H aA B H'/\b' S aA B B σ σ:=by
 have υ:b' S aA B B σ σ:=⟨he.di,λid r h=>⟨r,h,r.tU _⟩⟩
 have x0:∀b,¬aU.has ([]:aU) b:=λb ⟨N,h⟩=>by simp at h
 have aV:∀(id:Nat) (r:Row) (b N:Nat),σ[id]?=some r->r.live->B[id]?=some (some (b,N))->kH H H' b:=λid r b N I U ξ=>(he.fQ b (x0 b) (ω.n6 I U ξ)).sD λo=>ω.sep id r b N I U ξ o;refine⟨⟨ai.di,ω.len,λid r bo κ e6=>?_,ω.inj,λid r b N κ fr e6 o=>?_⟩,⟨he.di,λb _ Χ=>he.fQ b (x0 b) Χ,λb hb=>.inl hb,λb o v hv=>?_,he.grow⟩,υ⟩
 ·by_cases fr:r.live
  ·refine(ω.row id r bo κ e6).later υ (λb N e=>aV id r b N κ fr (by rw[e6,e])) λm left cur e=>?_;subst e;obtain⟨_,_,aW,k5,xs,clock,seen,_,I,⟨es,U⟩,_⟩:=ω.row id _ bo κ e6;exact⟨rfl,rfl,λb N hb=>aV m _ b N U trivial hb⟩
  ·cases r<;>first|exact absurd trivial fr|trivial
 ·cases hv:aA b o with
  | none=>rfl
  | some v=>
   rcases he.rh b o v hv with h|h|h
   ·rw[ω.sep id r b N κ fr e6 o] at h;cases h
   ·exact absurd h (x0 b)
   ·exact absurd h (ω.n6 κ fr e6)
 ·rcases he.rh b o v hv with h|h|h
  ·exact .inl h
  ·exact absurd h (x0 b)
  ·exact .inr (.inr h)
theorem ao.frame {g:FuncId} {args:List η} {K:η->Prop} {E:η->Prop} (h:ao P g args [] (λa s=>K a/\ay 0 a/\s=[]) (λa s=>E a/\ay 0 a/\s=[])) (hb:∀a∈args,ay 0 a):ao P g args σ (λa s=>K a/\s=σ) (λa s=>E a/\s=σ):=by
 refine⟨h.1,λQ mn x c rest S B H vs γ ω hv l3=>?_⟩;refine h.2 Q mn x c rest S [] H vs γ ω.bare ⟨hv.1,λi a v I U=>(hv.2 i a v I U).any (hb a (cr I)) _ _⟩ ⟨λa σ' aA B' H' v ⟨ς,ru,ν⟩ he υ jj κ=>?_,λa σ' aA B' H' v ⟨ς,ru,ν⟩ he υ jj κ=>?_⟩
 all_goals
  subst ν;have fl:B'=[]:=dw.1 (by rw[jj.len];rfl);subst fl;obtain⟨dL,p2,p3⟩:=ω.back he jj
 ·exact l3.ret a σ aA B H' v ⟨ς,rfl⟩ p2 p3 dL (κ.any ru _ _)
 ·exact l3.xY a σ aA B H' v ⟨ς,rfl⟩ p2 p3 dL (κ.any ru _ _)
def Ac (P:Program) (g:FuncId) (args:List η) (r:η):Prop:=ao P g args [] (λa s=>a=r/\s=[]) (λ_ _=>False)
theorem Ac.call {g:FuncId} {first args captured:List η} {r:η} {K:η->List Row->Prop} {E:η->List Row->Prop} (h:Ac P g (first++args++captured) r) (hb:∀a∈first++args++captured,ay 0 a) (κ:ay 0 r) (ζ:K r σ) :
  hE P (.fn (.func g) first captured) args σ K E:=by
 have I:ao P g (first++args++captured) [] (λa s=>a=r/\ay 0 a/\s=[]) (λa s=>False/\ay 0 a/\s=[]):=h.mono (λa s ⟨Δ,Γ⟩=>⟨Δ,Δ▸κ,Γ⟩) (λ_ _ h=>h.elim);exact ao.call ((I.frame (σ:=σ) hb).mono (λa s ⟨Δ,Γ⟩=>by subst Δ;subst Γ;exact ζ) (λ_ _ h=>h.1.elim))
end
theorem Xc {h:Nat} {v:Value}:ay h (.z v)↔True:=⟨λ_=>trivial,λ_=>.z v⟩
theorem Xd {h:Nat}:ay h .cp↔True:=⟨λ_=>trivial,λ_=>.cp⟩
theorem N4 {h:Nat} {l:List η}:ay h (.ab l)↔∀a∈l,ay h a:=⟨λx=>by cases x;assumption,.ab⟩
theorem Xe {h:Nat} {l:List η}:ay h (.aV l)↔∀a∈l,ay h a:=⟨λx=>by cases x;assumption,.aV⟩
theorem Xf {h:Nat} {l:List η}:ay h (.bw l)↔∀a∈l,ay h a:=⟨λx=>by cases x;assumption,.bw⟩
theorem hh {h:Nat} {ex:Bool} {k:Nat} {l:List η}:ay h (.sl ex k l)↔∀e∈l,∀a∈e.cells,ay h a:=⟨λx=>by cases x;assumption,.sl⟩
theorem Xg {h:Nat} {t:TypeId} {a:η}:ay h (.fS t a)↔ay h a:=⟨λx=>by cases x;assumption,.fS⟩
theorem lb {h id n i j:Nat}:ay h (.an id n i j)↔id<h:=⟨λx=>by cases x;assumption,.an⟩
theorem oc {h id n i j:Nat}:ay h (.ms id n i j)↔id<h:=⟨λx=>by cases x;assumption,.ms⟩
theorem sS {h id:Nat}:ay h (.mp id)↔id<h:=⟨λx=>by cases x;assumption,.mp⟩
theorem Xh {h id:Nat}:ay h (.it id)↔id<h:=⟨λx=>by cases x;assumption,.it⟩
theorem l4 {h:Nat} {f:Fn} {dc cs:List η}:ay h (.fn f dc cs)↔(∀a∈dc,ay h a)/\∀a∈cs,ay h a:=⟨λx=>by cases x;exact⟨by assumption,by assumption⟩,λx=>.fn x.1 x.2⟩
end Go.TL
