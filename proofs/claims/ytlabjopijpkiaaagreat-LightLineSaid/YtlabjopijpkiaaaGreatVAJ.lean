import Derived.Test.YtlabjopijpkiaaaGreatVAI
set_option maxHeartbeats 16000000
set_option maxRecDepth 20000
set_option linter.unusedSectionVars false
set_option linter.unusedSimpArgs false
set_option linter.unusedVariables false
namespace Go.TL
open Go.Conc
inductive aG (h:Nat):θ->Prop where
 | z (v:Value):aG h (.z v)
 | ao {l:List θ}:(∀a∈l,aG h a)->aG h (.ao l)
 | sl {ex:Bool} {k:Nat} {l:List θ}:(∀e∈l,∀a∈e.cells,aG h a)->aG h (.sl ex k l)
 | a5 {l:List θ}:(∀a∈l,aG h a)->aG h (.a5 l)
 | bj {l:List θ}:(∀a∈l,aG h a)->aG h (.bj l)
 | ar {id n i j:Nat}:id<h->aG h (.ar id n i j)
 | ms {id n i len:Nat}:id<h->aG h (.ms id n i len)
 | fn {f:Fn} {dh cs:List θ}:(∀a∈dh,aG h a)->(∀a∈cs,aG h a)->aG h (.fn f dh cs)
 | fY {t:TypeId} {a:θ}:aG h a->aG h (.fY t a)
 | mp {id:Nat}:id<h->aG h (.mp id)
 | it {id:Nat}:id<h->aG h (.it id)
 | cH:aG h .cH
def fg (h:Nat):Row->Prop
 | .cells _ _ l=>∀e∈l,∀a∈e.cells,aG h a
 | .map es=>∀e∈es,aG h e.1/\aG h e.2
 | .iter m left cur=>m<h/\(∀e∈left,aG h e.1/\aG h e.2)/\∀e,cur=some e->aG h e.1/\aG h e.2
 | .dead=>True
inductive eT (h:Nat) (σ:List Row):θ->θ->Prop where
 | low {a:θ}:aG h a->eT h σ a a
 | cH (a:θ):eT h σ a .cH
 | ms {id n i len k:Nat} {t:TypeId} {l eg:List θ}:h<=id->σ[id]?=some (.cells t k l)->l.length=n->i+len<=n->eg.length=len->
   (∀(j:Nat) (e aQ:θ),l[i+j]?=some e->eg[j]?=some aQ->aQ.cells.length=e.cells.length)->(∀(j:Nat) (e aQ:θ),l[i+j]?=some e->eg[j]?=some aQ->∀(x:Nat) (a cz:θ),e.cells[x]?=some a->aQ.cells[x]?=some cz->eT h σ a cz)->eT h σ (.ms id n i len) (.sl false k eg)
 | ar {id n i j k:Nat} {t:TypeId} {l cs:List θ} {e:θ}:h<=id->σ[id]?=some (.cells t k l)->l.length=n->l[i]?=some e->cs.length<=e.cells.length-j->
   (∀(x:Nat) (a cz:θ),e.cells[j+x]?=some a->cs[x]?=some cz->eT h σ a cz)->eT h σ (.ar id n i j) (.ao cs)
 | a5 {l eg:List θ}:eg.length=l.length->(∀(x:Nat) (a cz:θ),l[x]?=some a->eg[x]?=some cz->eT h σ a cz)->eT h σ (.a5 l) (.a5 eg)
 | bj {l eg:List θ}:eg.length=l.length->(∀(x:Nat) (a cz:θ),l[x]?=some a->eg[x]?=some cz->eT h σ a cz)->eT h σ (.bj l) (.bj eg)
 | fn {f:Fn} {dh Hm cs cs':List θ}:Hm.length=dh.length->cs'.length=cs.length->(∀(x:Nat) (a cz:θ),dh[x]?=some a->Hm[x]?=some cz->eT h σ a cz)->(∀(x:Nat) (a cz:θ),cs[x]?=some a->cs'[x]?=some cz->eT h σ a cz)->eT h σ (.fn f dh cs) (.fn f Hm cs')
section
variable {S:aJ} {B:aV} {H:χ} {σ:List Row} {h:Nat}
def Late (B:aV) (σ:List Row) (h b:Nat):Prop:=∃id t k l N,h<=id/\σ[id]?=some (Row.cells t k l)/\B[id]?=some (some (b,N))
open Classical in
noncomputable def aJ.close (S:aJ) (B:aV) (σ:List Row) (H:χ) (h:Nat):aJ:=λb o=>if Late B σ h b then(H.aO b o).map (·.1) else S b o
theorem Dn (Α:Holds S B σ H):∀b o v,S b o=some v->S.close B σ H h b o=some v:=λb o v hv=>by
 unfold aJ.close;split
 ·rename_i ο;obtain⟨id,t,k,l,N,J,U,μ⟩:=ο;have:=Α.sep id _ b N U trivial μ o;rw[hv] at this;cases this
 ·exact hv
theorem ay.q' (Α:Holds S B σ H) {a:θ} {v:Value} (ι:ay S B σ a v) (hb:aG h a):ay (S.close B σ H h) (B.take h) (σ.take h) a v:=by
 have bh:∀{α:Type} (l:List α) (i:Nat),i<h->(l.take h)[i]?=l[i]?:=λl i hi=>List.getElem?_take_of_lt hi
 induction ι with
 | z v=>exact .z v
 | ao b o w J _ Β=>
  cases hb with
  | ao hb=>exact .ao b o w (λj a ε=>Dn Α _ _ _ (J j a ε)) λj a ε=>Β j a ε (hb a (cE ε))
 | i' base cap h=>exact .i' base cap h
 | sl b o cap w J U μ Θ _ Β=>
  cases hb with
  | sl hb=>exact .sl b o cap w J U μ (λi e hi j c ε=>Dn Α _ _ _ (Θ i e hi j c ε)) λi e hi j c ε=>Β i e hi j c ε (hb e (cE hi) c (cE ε))
 | a5 vs J _ Β=>
  cases hb with
  | a5 hb=>exact .a5 vs J λi a v hi hv=>Β i a v hi hv (hb a (cE hi))
 | bj vs J _ Β=>
  cases hb with
  | bj hb=>exact .bj vs J λi a v hi hv=>Β i a v hi hv (hb a (cE hi))
 | ar J U μ=>
  cases hb with
  | ar hb=>exact .ar (by rw[bh _ _ hb];exact J) U (by rw[bh _ _ hb];exact μ)
 | jY v J U=>
  cases hb with
  | ar hb=>exact .jY v (by rw[bh _ _ hb];exact J) U
 | ms cap J U μ Θ av ba=>
  cases hb with
  | ms hb=>exact .ms cap (by rw[bh _ _ hb];exact J) U (by rw[bh _ _ hb];exact μ) Θ av ba
 | jz v J U=>
  cases hb with
  | ms hb=>exact .jz v (by rw[bh _ _ hb];exact J) U
 | fn vs ws J U _ _ sh mF=>
  cases hb with
  | fn k7 fA=>exact .fn vs ws J U (λi a v hi hv=>sh i a v hi hv (k7 a (cE hi))) λi a v hi hv=>mF i a v hi hv (fA a (cE hi))
 | fY v _ Β=>
  cases hb with
  | fY hb=>exact .fY v (Β hb)
 | mp J U=>
  cases hb with
  | mp hb=>exact .mp (by rw[bh _ _ hb];exact J) (by rw[bh _ _ hb];exact U)
 | lV v J=>
  cases hb with
  | mp hb=>exact .lV v (by rw[bh _ _ hb];exact J)
 | it J U=>
  cases hb with
  | it hb=>exact .it (by rw[bh _ _ hb];exact J) (by rw[bh _ _ hb];exact U)
 | nu v J=>
  cases hb with
  | it hb=>exact .nu v (by rw[bh _ _ hb];exact J)
 | cH v=>exact .cH v
theorem MF {id b N:Nat} {t:TypeId} {k:Nat} {l:List θ} (aj:h<=id) (J:σ[id]?=some (.cells t k l)) (U:B[id]?=some (some (b,N))) {o:Nat} {v:Value} {p:Bool} (hv:H.aO b o=some (v,p)):S.close B σ H h b o=some v:=by
 unfold aJ.close;rw[if_pos ⟨id,t,k,l,N,aj,J,U⟩,hv];rfl
theorem ay.Va (Α:Holds S B σ H) {a cz:θ} (ν:eT h σ a cz):∀{v:Value},ay S B σ a v->ay (S.close B σ H h) (B.take h) (σ.take h) cz v:=by
 induction ν with
 | low hb=>intro v ι;exact ι.q' Α hb
 | cH a=>intro v _;exact .cH v
 | @ms id n i len k t l eg J U μ Θ av ba _ Β=>
  intro v ι;cases ι with
  | ms cap Χ ak aY cy gB iK=>
   rw[U] at Χ;cases Χ;by_cases Τ:eg=[]
   ·subst Τ;have:len=0:=by rw[<-av];rfl
    subst this;exact .i' _ _ η
   ·have pU:0<len:=by rw[<-av];exact List.length_pos_iff.2 Τ
    rcases iK with iK|⟨b,N,rfl,rfl,iK⟩
    ·omega
    ·obtain⟨_,_,_,w,hw⟩:=Α.row id _ _ U aY;have el:∀(j:Nat) (aQ:θ),eg[j]?=some aQ->∃e,l[i+j]?=some e/\e.cells.length=k/\aQ.cells.length=k:=λj aQ ε=>by
      have aP:j<len:=by rw[<-av];exact(cf.1 ε).1
      have he:l[i+j]?=some l[i+j]:=bg R;exact⟨_,he,(hw _ _ he).1,(ba j _ aQ he ε).trans (hw _ _ he).1⟩
     have:=ay.sl (S:=S.close B σ H h) (B:=B.take h) (σ:=σ.take h) (ex:=false) (k:=k) (l:=eg) b (i*k) cap (λj x=>w (i+j) x) η R (λj aQ ε=>(el j aQ ε).choose_spec.2.2)
      (λj aQ ε x cz γ=>by
       obtain⟨e,Δ,Γ,a2⟩:=el j aQ ε;have Dp:x<e.cells.length:=by rw[Γ,<-a2];exact(cf.1 γ).1
       have:=((hw _ e Δ).2 x _ (bg Dp)).1;rw[Nat.add_mul] at this;exact MF J U aY this)
      (λj aQ ε x cz γ=>by
       obtain⟨e,Δ,Γ,a2⟩:=el j aQ ε;have Dp:x<e.cells.length:=by rw[Γ,<-a2];exact(cf.1 γ).1
       exact Β j e aQ Δ ε x _ cz (bg Dp) γ ((hw _ e Δ).2 x _ (bg Dp)).2.1)
     rw[av] at this;exact this
  | jz v Χ ak=>rw[U] at Χ;cases Χ;simp only[Row.hh] at ak;omega
 | @ar id n i j k t l cs e J U μ Θ av ba Β=>
  intro v ι;cases ι with
  | ar Χ ak aY=>
   rw[U] at Χ;cases Χ;obtain⟨_,_,_,w,hw⟩:=Α.row id _ _ U aY;have el:∀(x:Nat) (cz:θ),cs[x]?=some cz->∃a,e.cells[j+x]?=some a:=λx cz γ=>by
    have:=(cf.1 γ).1;exact⟨_,bg R⟩
   refine .ao _ _ (λx=>w i (j+x)) (λx cz γ=>?_) (λx cz γ=>?_)
   ·obtain⟨a,κ⟩:=el x cz γ;have:=((hw i e Θ).2 _ a κ).1;rw[<-Nat.add_assoc] at this;exact MF J U aY this
   ·obtain⟨a,κ⟩:=el x cz γ;exact Β x a cz κ γ ((hw i e Θ).2 _ a κ).2.1
  | jY v Χ ak=>rw[U] at Χ;cases Χ;simp only[Row.hh] at ak;omega
 | a5 J U Β=>
  intro v ι;cases ι with
  | a5 vs Χ ak=>
   refine .a5 vs (by rw[J,Χ]) λi cz w hi hv=>?_;have aP:=(cf.1 hi).1;have κ:=bg (J▸aP);exact Β i _ cz κ hi (ak i _ w κ hv)
 | bj J U Β=>
  intro v ι;cases ι with
  | bj vs Χ ak=>
   refine .bj vs (by rw[J,Χ]) λi cz w hi hv=>?_;have aP:=(cf.1 hi).1;have κ:=bg (J▸aP);exact Β i _ cz κ hi (ak i _ w κ hv)
 | fn J U _ _ sh mF=>
  intro v ι;cases ι with
  | fn vs ws Χ ak aY cy=>
   refine .fn vs ws (by rw[J,Χ]) (by rw[U,ak]) (λi cz w hi hv=>?_) (λi cz w hi hv=>?_)
   ·have aP:=(cf.1 hi).1
    have κ:=bg (J▸aP);exact sh i _ cz κ hi (aY i _ w κ hv)
   ·have aP:=(cf.1 hi).1
    have κ:=bg (U▸aP);exact mF i _ cz κ hi (cy i _ w κ hv)
theorem jZ.q' (Α:Holds S B σ H) {r:Row} {bo:Option (Nat×Nat)} (ι:jZ S B σ H r bo) (hb:fg h r):jZ (S.close B σ H h) (B.take h) (σ.take h) H r bo:=by
 have bh:∀{α:Type} (l:List α) (i:Nat),i<h->(l.take h)[i]?=l[i]?:=λl i hi=>List.getElem?_take_of_lt hi;cases r with
 | cells t k l=>
  cases bo with
  | none=>exact ι
  | some x=>
   obtain⟨b,N⟩:=x;obtain⟨J,U,μ,w,Θ⟩:=ι;refine⟨J,U,μ,w,λi e hi=>⟨(Θ i e hi).1,λj a ε=>?_⟩⟩;obtain⟨c1,c2,c3⟩:=(Θ i e hi).2 j a ε;exact⟨c1,c2.q' Α (hb e (cE hi) a (cE ε)),c3⟩
 | map es=>
  obtain⟨b,N,xs,clock,rfl,J,U,μ,Θ⟩:=ι;exact⟨b,N,xs,clock,rfl,J,U,λi e y a b=>by
   obtain⟨c1,c2,c3⟩:=μ i e y a b;exact⟨c1.q' Α (hb e (cE a)).1,c2.q' Α (hb e (cE a)).2,c3⟩,Θ⟩
 | iter m left cur=>
  obtain⟨hm,k7,fA⟩:=hb;obtain⟨b,N,aW,k8,xs,clock,seen,rfl,J,U,μ,Θ,⟨cJ,i1,i2,i3⟩,i4,i5⟩:=ι;refine⟨b,N,aW,k8,xs,clock,seen,rfl,by rw[bh _ _ hm];exact J,by rw[bh _ _ hm];exact U,μ,Θ,⟨cJ,i1,i2,λi e y a b=>?_⟩,i4,λe he=>?_⟩
  ·obtain⟨c1,c2⟩:=i3 i e y a b;exact⟨c1.q' Α (k7 e (cE a)).1,c2.q' Α (k7 e (cE a)).2⟩
  ·obtain⟨st,y,a,b,c,d⟩:=i5 e he;exact⟨st,y,a,b,c.q' Α (fA e he).1,d.q' Α (fA e he).2⟩
 | dead=>trivial
theorem Holds.close (Α:Holds S B σ H) (hb:∀(id:Nat) (r:Row),id<h->σ[id]?=some r->fg h r) :
  Holds (S.close B σ H h) (B.take h) (σ.take h) H/\Ext S B H (S.close B σ H h) (B.take h) H:=by
 have bh:∀{α:Type} (l:List α) (i:Nat) (x:α),(l.take h)[i]?=some x->i<h/\l[i]?=some x:=λl i x hi=>by
  rw[List.getElem?_take] at hi;split at hi
  ·exact⟨‹_›,hi⟩
  ·cases hi
 refine⟨⟨λb o v hv=>?_,by simp[Α.len],λid r bo ι e7=>?_,λi j ez cg b gU gV fU hi ε iG eu hD cX=>?_,λid r b N ι ο e7 o=>?_⟩,⟨Dn Α,λb _ _=>nv.of ⟨λ_=>rfl,rfl,rfl⟩,λb ⟨N,cm⟩=>.inl ⟨N,List.mem_of_mem_take cm⟩,λb o v hv=>?_,λ_ h=>h⟩⟩
 ·unfold aJ.close at hv;split at hv
  ·cases δ:H.aO b o with
   | none=>rw[δ] at hv;cases hv
   | some x=>rw[δ] at hv;cases hv;exact⟨x.2,rfl⟩
  ·exact Α.dt b o v hv
 ·obtain⟨J,U⟩:=bh _ _ _ ι;obtain⟨_,μ⟩:=bh _ _ _ e7;exact(Α.row id r bo U μ).q' Α (hb id r J U)
 ·exact Α.inj i j ez cg b gU gV fU (bh _ _ _ hi).2 (bh _ _ _ ε).2 iG eu (bh _ _ _ hD).2 (bh _ _ _ cX).2
 ·obtain⟨J,U⟩:=bh _ _ _ ι;obtain⟨_,μ⟩:=bh _ _ _ e7;unfold aJ.close;rw[if_neg]
  ·exact Α.sep id r b N U ο μ o
  ·rintro⟨Dq,t,k,l,e4,Χ,ak,aY⟩;exact Α.inj id Dq r _ b N e4 R U ak ο trivial μ aY
 ·unfold aJ.close at hv;split at hv
  ·rename_i ο;obtain⟨id,t,k,l,N,_,_,μ⟩:=ο;exact .inr (.inl (oS μ))
  ·exact .inl hv
theorem b8.close {fu:aJ} {eG:aV} {σ0:List Row} (Α:Holds S B σ H) (ο:b8 fu S eG B σ0 σ) (a0:σ0.length<=h):b8 fu (S.close B σ H h) eG (B.take h) σ0 (σ.take h):=
 ⟨λb o v hv=>Dn Α b o v (ο.dt b o v hv),λid r ι=>by
  have b9:id<h:=Nat.lt_of_lt_of_le (cf.1 ι).1 a0;obtain⟨r',J,U⟩:=ο.rows id r ι;exact⟨r',by rw[List.getElem?_take_of_lt b9];exact J,by rw[List.getElem?_take_of_lt b9];exact U⟩⟩
end
end Go.TL
namespace Go.TL
open Go.Conc
variable [bn]
structure e8 (m:Nat) (S:aJ) (B:aV) (H:χ) (σ:List Row) (aE:aJ) (B':aV) (H':χ) (σ':List Row):Prop where
 ext:Ext S B H aE B' H'
 later:b8 S aE (B.take m) B' (σ.take m) σ'
structure fN (m nt:Nat) (S:aJ) (B:aV) (H:χ) (σ:List Row) (env:Ω) (t:Array Value):Prop where
 holds:Holds S B σ H
 cA:du S B σ env t
 size:t.size=nt
 rows:m<=σ.length
section
variable {m:Nat} {S aE zs:aJ} {B B' zt:aV} {H H' MG:χ} {σ σ' zu:List Row}
theorem b8.left (h:b8 S aE B B' σ σ') (m:Nat):b8 S aE (B.take m) B' (σ.take m) σ':=
 ⟨h.dt,λid r ι=>by
  rw[List.getElem?_take] at ι;split at ι
  ·rename_i aP;rw[List.getElem?_take_of_lt aP];exact h.rows id r ι
  ·cases ι⟩
theorem b8.right (h:b8 S aE B B' σ σ') (hm:σ.length<=m):b8 S aE B (B'.take m) σ (σ'.take m):=
 ⟨h.dt,λid r ι=>by
  have aP:id<m:=Nat.lt_of_lt_of_le (cf.1 ι).1 hm;rw[List.getElem?_take_of_lt aP,List.getElem?_take_of_lt aP];exact h.rows id r ι⟩
theorem e8.of (h:Ext S B H aE B' H') (k:b8 S aE B B' σ σ'):e8 m S B H σ aE B' H' σ':=⟨h,k.left m⟩
theorem e8.refl:e8 m S B H σ S B H σ:=.of (.refl _ _ _) (.refl _ _ _)
theorem e8.trans (h:e8 m S B H σ aE B' H' σ') (k:e8 m aE B' H' σ' zs zt MG zu):e8 m S B H σ zs zt MG zu:=
 ⟨h.ext.trans k.ext,(h.later.right (m:=m) (by simp;omega)).trans k.later⟩
theorem b8.length (h:b8 S aE B B' σ σ'):σ.length<=σ'.length:=by
 apply Classical.byContradiction;intro Ζ;have aP:σ'.length<σ.length:=R;obtain⟨r',J,_⟩:=h.rows σ'.length _ (bg aP);simp at J
end
def Leaves (j:List Item) (k:List Item):Prop:=k=j
def W (P:Program) (m nt:Nat) (k:List Item) (env:Ω) (σ:List Row) (Z:List Item->Ω->List Row->Prop) (E:θ->Ω->List Row->Prop):Prop:=
 ∀(Q:Value->Prop) (mn:Bool) (x:g1) (cs:List Frame) (b:Frame) (S:aJ) (B:aV) (H:χ) (t:Array Value),Seq x->b.mode=.run->fN m nt S B H σ env t->
  (∀(j:List Item) (env':Ω) (σ':List Row) (aE:aJ) (B':aV) (H':χ) (t':Array Value) (ag:List Item),Z j env' σ'->e8 m S B H σ aE B' H' σ'->fN m nt aE B' H' σ' env' t'->Leaves j ag->aR P Q mn x (aA b t' ag) cs H')->
  (∀(a:θ) (env':Ω) (σ':List Row) (aE:aJ) (B':aV) (H':χ) (t':Array Value) (ag:List Item) (v:Value),E a env' σ'->e8 m S B H σ aE B' H' σ'->Holds aE B' σ' H'->du aE B' σ' env' t'->ay aE B' σ' a v->aR P Q mn x {aA b t' ag with mode:=.panicking [{v,recovered:=false}]} cs H')->
  aR P Q mn x (aA b t k) cs H
section
variable {P:Program} {m nt:Nat} {k:List Item} {env:Ω} {σ:List Row} {Z:List Item->Ω->List Row->Prop} {E:θ->Ω->List Row->Prop}
theorem W.stop (h:Z k env σ):W P m nt k env σ Z E:=λ_ _ _ _ _ S B H t _ _ ψ Τ _=>Τ k env σ S B H t k h .refl ψ rfl
theorem W.nil (h:Z [] env σ):W P m nt [] env σ Z E:=.stop h
theorem W.ret (h:Z (.code .ret::k) env σ):W P m nt (.code .ret::k) env σ Z E:=.stop h
theorem W.skip (h:W P m nt k env σ Z E):W P m nt (.code .skip::k) env σ Z E:=λQ mn x cs b S B H t γ hb ψ Τ he=>.skip γ hb (h Q mn x cs b S B H t γ hb ψ Τ he)
theorem W.inBlock {l:Nat} (h:W P m nt k env σ Z E):W P m nt (.inBlock l::k) env σ Z E:=λQ mn x cs b S B H t γ hb ψ Τ he=>.inBlock γ hb (h Q mn x cs b S B H t γ hb ψ Τ he)
theorem W.seq {a c:Code} (h:W P m nt (.code a::.code c::k) env σ Z E):W P m nt (.code (.seq a c)::k) env σ Z E:=λQ mn x cs b S B H t γ hb ψ Τ he=>.seq γ hb (h Q mn x cs b S B H t γ hb ψ Τ he)
theorem W.block {l:Nat} {c:Code} (h:W P m nt (.code c::.inBlock l::k) env σ Z E):W P m nt (.code (.block l c)::k) env σ Z E:=λQ mn x cs b S B H t γ hb ψ Τ he=>.block γ hb (h Q mn x cs b S B H t γ hb ψ Τ he)
theorem W.inLoop {c:Code} (h:W P m nt (.code c::.inLoop c::k) env σ Z E):W P m nt (.inLoop c::k) env σ Z E:=λQ mn x cs b S B H t γ hb ψ Τ he=>.inLoop γ hb (h Q mn x cs b S B H t γ hb ψ Τ he)
theorem W.loop {c:Code} (h:W P m nt (.code c::.inLoop c::k) env σ Z E):W P m nt (.code (.loop c)::k) env σ Z E:=λQ mn x cs b S B H t γ hb ψ Τ he=>.loop γ hb (h Q mn x cs b S B H t γ hb ψ Τ he)
theorem W.exit {id:Nat} {ag:List Item} (ς:exitTo id k=some ag) (h:W P m nt ag env σ Z E):W P m nt (.code (.exit id)::k) env σ Z E:=λQ mn x cs b S B H t γ hb ψ Τ he=>.exit γ hb ς (h Q mn x cs b S B H t γ hb ψ Τ he)
theorem W.cond {c:Operand} {a e:Code} {v:Bool} (δ:aU env c=.z (.bool v)) (h:W P m nt (.code (if v then a else e)::k) env σ Z E):W P m nt (.code (.cond c a e)::k) env σ Z E:=λQ mn x cs b S B H t γ hb ψ Τ he=>by
 refine .cond (v:=v) γ hb ?_ (h Q mn x cs b S B H t γ hb ψ Τ he);have:=lX ψ.cA c;rw[δ] at this;rw[zq];generalize bp t c=u at this;cases this;rfl
theorem W.cut (h:Nat) (hm:m<=h) (env':Ω) (a0:h<=σ.length) (oc:∀(id:Nat) (r:Row),id<h->σ[id]?=some r->fg h r) (cT:∀p∈env',eT h σ (a9 env p.1) p.2) (hW:W P m nt k env' (σ.take h) Z E):W P m nt k env σ Z E:=
 λQ mn x cs b S B H t γ hb ψ Τ he=>by
 obtain⟨c1,c2⟩:=ψ.holds.close oc;have ο:b8 S (S.close B σ H h) (B.take m) (B.take h) (σ.take m) (σ.take h):=by
  have:=b8.close (h:=h) ψ.holds ((b8.refl S B σ).left m) (by simp;omega);exact this
 have κ:e8 m S B H σ (S.close B σ H h) (B.take h) H (σ.take h):=⟨c2,ο⟩
 have zT:∀(l:Ω),(∀p∈l,eT h σ (a9 env p.1) p.2)->∀i,eT h σ (a9 env i) (a9 l i):=by
  intro l
  induction l with
  | nil=>intro _ i;exact .cH _
  | cons p l Β=>
   intro ο i;simp only[a9];split
   ·rename_i e;rw[<-e];exact ο p η
   ·exact Β (λq Φ=>ο q (by simp[Φ])) i
 refine hW Q mn x cs b _ _ H t γ hb ⟨c1,λi=>(ψ.cA i).Va ψ.holds (zT env' cT i),ψ.size,by simp;omega⟩ (λj hj gK c9 ff bR t2 cN Χ ak aY cy=>?_) (λa hj gK c9 ff bR t2 cN v Χ ak aY cy gB=>?_)
 ·exact Τ j hj gK c9 ff bR t2 cN Χ (κ.trans ak) aY cy
 ·exact he a hj gK c9 ff bR t2 cN v Χ (κ.trans ak) aY cy gB
end
def fO (S:aJ) (B:aV) (σ:List Row) (as9:List θ) (vs:Array Value):Prop:=as9.length=vs.size/\∀(i:Nat) (a:θ) (v:Value),as9[i]?=some a->vs[i]?=some v->ay S B σ a v
structure vK (P:Program) (Q:Value->Prop) (mn:Bool) (x:g1) (c:Frame) (rest:List Frame) (S:aJ) (B:aV) (H:χ) (σ:List Row) (K:θ->List Row->Prop) (E:θ->List Row->Prop):Prop where
 ret:∀(a:θ) (σ':List Row) (aE:aJ) (B':aV) (H':χ) (v:Value),K a σ'->Ext S B H aE B' H'->b8 S aE B B' σ σ'->Holds aE B' σ' H'->ay aE B' σ' a v->aR P Q mn x (c.finish v) rest H'
 xI:∀(a:θ) (σ':List Row) (aE:aJ) (B':aV) (H':χ) (v:Value),E a σ'->Ext S B H aE B' H'->b8 S aE B B' σ σ'->Holds aE B' σ' H'->ay aE B' σ' a v->aR P Q mn x (c.raise [{v,recovered:=false}]) rest H'
def MH (P:Program) (Q:Value->Prop) (mn:Bool) (x:g1) (c:Frame) (rest:List Frame):Next->χ->Prop
 | .enter g as9,H=>aR P Q mn x (Frame.enter P g as9 .normal) (c::rest) H
 | .round l f xj Cq sg,H=>aR P Q mn x (Frame.round l f xj Cq sg .normal) (c::rest) H
 | .value v,H=>aR P Q mn x (c.finish v) rest H
 | _,_=>False
def hG (P:Program) (f:θ) (args:List θ) (σ:List Row) (K:θ->List Row->Prop) (E:θ->List Row->Prop):Prop:=
 ∀(Q:Value->Prop) (mn:Bool) (x:g1) (c:Frame) (rest:List Frame) (S:aJ) (B:aV) (H:χ) (ax:Value) (vs:Array Value),Seq x->Holds S B σ H->ay S B σ f ax->fO S B σ args vs->vK P Q mn x c rest S B H σ K E->
  π P (do let d <-Deferred.ofValue ax vs;invoke d.target d.args) H (MH P Q mn x c rest) (λ_ _=>False)
def Plain (P:Program) (g:FuncId):Prop:=∃fn,P.funcs[g]?=some fn/\(fn.name == "runtime.NumGoroutine")=false/\fn.body.isNone=false
def ae (P:Program) (g:FuncId) (args:List θ) (σ:List Row) (K:θ->List Row->Prop) (E:θ->List Row->Prop):Prop:=
 Plain P g/\∀(Q:Value->Prop) (mn:Bool) (x:g1) (c:Frame) (rest:List Frame) (S:aJ) (B:aV) (H:χ) (vs:Array Value),Seq x->Holds S B σ H->fO S B σ args vs->vK P Q mn x c rest S B H σ K E->
  aR P Q mn x (Frame.enter P g vs .normal) (c::rest) H
section
variable {P:Program} {T:bb} {A:List Nat} {m nt:Nat} {k:List Item} {env:Ω} {σ:List Row} {Z:List Item->Ω->List Row->Prop} {E:θ->List Row->Prop} {K:θ->List Row->Prop} {F:θ->Ω->List Row->Prop}
theorem fO.append {S:aJ} {B:aV} {as9 mL:List θ} {vs ws:Array Value} (h:fO S B σ as9 vs) (k:fO S B σ mL ws):fO S B σ (as9++mL) (vs++ws):=by
 refine⟨by simp[h.1,k.1],λi a v J U=>?_⟩;by_cases aP:i<as9.length
 ·rw[ev aP] at J;rw[Array.getElem?_append_left (by rw[<-h.1];exact aP)] at U;exact h.2 i a v J U
 ·rw[h6 R] at J;rw[Array.getElem?_append_right (by rw[<-h.1];omega),<-h.1] at U;exact k.2 _ a v J U
theorem ae.mono {g:FuncId} {args:List θ} {K':θ->List Row->Prop} {E':θ->List Row->Prop} (h:ae P g args σ K E) (ζ:∀a s,K a s->K' a s) (dw:∀a s,E a s->E' a s):ae P g args σ K' E':=
 ⟨h.1,λQ mn x c rest S B H vs γ Α hv hb=>h.2 Q mn x c rest S B H vs γ Α hv ⟨λa σ' aE B' H' v ς=>hb.ret a σ' aE B' H' v (ζ _ _ ς),λa σ' aE B' H' v ς=>hb.xI a σ' aE B' H' v (dw _ _ ς)⟩⟩
theorem hG.mono {f:θ} {args:List θ} {K':θ->List Row->Prop} {E':θ->List Row->Prop} (h:hG P f args σ K E) (ζ:∀a s,K a s->K' a s) (dw:∀a s,E a s->E' a s):hG P f args σ K' E':=
 λQ mn x c rest S B H ax vs γ Α Υ hv hb=>h Q mn x c rest S B H ax vs γ Α Υ hv ⟨λa σ' aE B' H' v ς=>hb.ret a σ' aE B' H' v (ζ _ _ ς),λa σ' aE B' H' v ς=>hb.xI a σ' aE B' H' v (dw _ _ ς)⟩
theorem ae.call {g:FuncId} {first args captured:List θ} (h:ae P g (first++args++captured) σ K E):hG P (.fn (.func g) first captured) args σ K E:=by
 intro Q mn x c rest S B H ax vs γ Α Υ hv hb;cases Υ with
 | fn v1 v2 J U μ Θ=>
  refine π.bind' (π.pure' ?_);obtain⟨⟨fn,bM,lb,Dr⟩,Hn⟩:=h;unfold invoke;simp only;unfold callFunc;refine π.bind' ?_;show π P (match P.funcs[g]? with|none=>_|some fn=>_) H _ _;rw[bM];simp only[lb,Dr,Bool.false_eq_true,if_false];refine π.pure' ?_;have r1:fO S B σ first v1:=⟨J,μ⟩
  have r2:fO S B σ captured v2:=⟨U,Θ⟩;exact Hn Q mn x c rest S B H _ γ Α ((r1.append hv).append r2) hb
def fP (env:Ω) (ops:Array Oper) (o:Oper):Option Bool:=match o.guard with
 | none=>some true
 | some (j,want)=>match (ops[j]?).bind (·.dst) with
  | some d=>match a9 env d with
   | .z (.bool b)=>some (b==want)
   | _=>none
  | none=>none
theorem ko {S:aJ} {B:aV} {t:Array Value} (h:du S B σ env t) {ops:Array Oper} {o:Oper} {w:Bool} (hw:fP env ops o=some w):Region.wanted o (yielded ops t)=w:=by
 unfold fP at hw;unfold Region.wanted;split at hw
 ·rename_i Ξ;rw[Ξ];cases hw;rfl
 ·rename_i j want Ξ;rw[Ξ];split at hw
  ·rename_i d hd;split at hw
   ·rename_i b hb;cases hw;have ι:=h d;rw[hb] at ι;unfold yielded;rw[Array.getD_eq_getD_getElem?] at ι;cases Ν:t[d]? with
    | none=>rw[Ν] at ι;cases ι
    | some v=>
     rw[Ν] at ι;simp only[Option.getD_some] at ι;cases ι;simp only[hd,Option.bind_some,Ν];cases b<;>cases want<;>rfl
   ·cases hw
  ·cases hw
def cj (o:Oper) (env:Ω) (a:θ):Ω:=match o.dst with|some d=>(d,a)::env|none=>env
def ik (nt:Nat) (o:Oper):Bool:=match o.dst with|some d=>decide (d<nt)|none=>true
theorem ra {S:aJ} {B:aV} {t:Array Value} (h:du S B σ env t) {o:Oper} (hd:ik nt o=true) (Ν:t.size=nt) {a:θ} {v:Value} (κ:ay S B σ a v):du S B σ (cj o env a) (put o t v)/\(put o t v).size=nt:=by
 unfold cj put;unfold ik at hd;cases rb:o.dst with
 | none=>exact⟨h,Ν⟩
 | some d=>
  rw[rb] at hd;simp only[decide_eq_true_eq] at hd;exact⟨h.put (by rw[Ν];exact hd) κ,by simp[Ν]⟩
theorem W.unwanted {ops:Array Oper} {i:Nat} {o:Oper} {rest:List Nat} (ω:ops[i]?=some o) (hw:fP env ops o=some false) (hd:ik nt o=true) (h:W P m nt (.inRegion ops rest::k) (cj o env .cH) σ Z F):W P m nt (.inRegion ops (i::rest)::k) env σ Z F:=
 λQ mn x cs b S B H t γ hb ψ Τ he=>by
 obtain⟨s1,s2⟩:=ra ψ.cA hd ψ.size (a:=.cH) (v:=undef) (.cH _);exact .unwanted γ hb ω (ko ψ.cA hw) (h Q mn x cs b S B H _ γ hb ⟨ψ.holds,s1,s2,ψ.rows⟩ Τ he)
theorem W.op (Κ:bV P T) {ops:Array Oper} {i:Nat} {o:Oper} {rest:List Nat} (ω:ops[i]?=some o) (hw:fP env ops o=some true) (hd:ik nt o=true) (kL:∀c,o.op≠.defer c)
  (h:((mK T A env o).or σ (kM T A env σ o)).holds λa σ'=>W P m nt (.inRegion ops rest::k) (cj o env a) σ' Z F):W P m nt (.inRegion ops (i::rest)::k) env σ Z F:=
 λQ mn x cs b S B H t γ hb ψ Τ he=>by
 refine .op γ hb ω (ko ψ.cA hw) (.inr kL) ?_;have Vb:=cK.U3 (U9 (A:=A) Κ ψ.holds ψ.cA o) (U' (A:=A) Κ ψ.holds ψ.cA o);refine π.mono (λgJ H' ⟨v,hv,aE,B',σ',a,ζ,re,jA,ο,ι⟩=>?_) (λ_ _ h=>h.elim) _ (Vb _ h);obtain⟨s1,s2⟩:=ra (ψ.cA.later ο) hd ψ.size ι;have κ:e8 m S B H σ aE B' H' σ':=.of re ο;have fin:aR P Q mn x (aA b (put o t v) (.inRegion ops rest::k)) cs H':=
  ζ Q mn x cs b aE B' H' _ γ hb ⟨jA,s1,s2,Nat.le_trans ψ.rows ο.length⟩ (λj hj gK c9 ff bR t2 cN Χ ak aY cy=>Τ j hj gK c9 ff bR t2 cN Χ (κ.trans ak) aY cy)
   (λbd hj gK c9 ff bR t2 cN v2 Χ ak aY cy gB=>he bd hj gK c9 ff bR t2 cN v2 Χ (κ.trans ak) aY cy gB)
 cases gJ<;>simp only[LY,reduceCtorEq,Option.some.injEq] at hv<;>first|(subst hv;exact fin)|skip
theorem W.call {ops:Array Oper} {i:Nat} {o:Oper} {rest:List Nat} (ω:ops[i]?=some o) (hw:fP env ops o=some true) (hd:ik nt o=true) {f:Operand} {args:Array Operand} {eh:Array TypeId} (Μ:o.op=.call ⟨.value f,args,eh⟩)
  (h:hG P (aU env f) (args.toList.map (aU env)) σ (λa σ'=>W P m nt (.inRegion ops rest::k) (cj o env a) σ' Z F) (λa s=>F a env s)):W P m nt (.inRegion ops (i::rest)::k) env σ Z F:=
 λQ mn x cs b S B H t γ hb ψ Τ he=>by
 refine .op γ hb ω (ko ψ.cA hw) (.inr λc=>by rw[Μ];simp) ?_;have mM:fO S B σ (args.toList.map (aU env)) (args.map (bp t)):=by
  refine⟨η,λi a v J U=>?_⟩;rw[List.getElem?_map,Array.getElem?_toList] at J;rw[Array.getElem?_map] at U;cases γ:args[i]? with
  | none=>rw[γ] at J;cases J
  | some y=>rw[γ] at J U;cases J;cases U;exact lX ψ.cA y
 have Hn:=h Q mn x (aA b t (.inRegion ops (i::rest)::k)) cs S B H (bp t f) (args.map (bp t)) γ ψ.holds (lX ψ.cA f) mM ⟨λa σ' aE B' H' v ζ re ο jA ι=>?_,λa σ' aE B' H' v dw re ο jA ι=>?_⟩
 ·have e:execOp (bp t) o=(do let d <-Deferred.ofValue (bp t f) (args.map (bp t));invoke d.target d.args):=by unfold execOp;rw[Μ];rfl
  rw[e];refine π.mono (λgJ H' Ζ=>?_) (λ_ _ h=>h.elim) _ Hn;cases gJ<;>first|exact Ζ.elim|exact Ζ|skip
  rename_i v;have:=iF (b:=b) (t:=t) (k:=k) (v:=v) ω (rest:=rest);simp only[MH] at Ζ;rw[this] at Ζ;exact Ζ
 ·obtain⟨s1,s2⟩:=ra (ψ.cA.later ο) hd ψ.size ι;have κ:e8 m S B H σ aE B' H' σ':=.of re ο;rw[iF ω];exact ζ Q mn x cs b aE B' H' _ γ hb ⟨jA,s1,s2,Nat.le_trans ψ.rows ο.length⟩ (λj hj gK c9 ff bR t2 cN Χ ak aY cy=>Τ j hj gK c9 ff bR t2 cN Χ (κ.trans ak) aY cy)
   (λbd hj gK c9 ff bR t2 cN v2 Χ ak aY cy gB=>he bd hj gK c9 ff bR t2 cN v2 Χ (κ.trans ak) aY cy gB)
 ·have:=he a env σ' aE B' H' t (.inRegion ops (i::rest)::k) v dw (.of re ο) jA (ψ.cA.later ο) ι
  have e:(aA b t (.inRegion ops (i::rest)::k)).raise [{v,recovered:=false}]={aA b t (.inRegion ops (i::rest)::k) with mode:=.panicking [{v,recovered:=false}]}:=by simp[Frame.raise,aA,hb]
  rw[e];exact this
theorem W.panic {ops:Array Oper} {i:Nat} {o:Oper} {rest:List Nat} (ω:ops[i]?=some o) (hw:fP env ops o=some true) {y:Operand} (Μ:o.op=.panic y) {ty:TypeId} {a:θ} (Ι:aU env y=.fY ty a) (h:F (.fY ty a) env σ):W P m nt (.inRegion ops (i::rest)::k) env σ Z F:=
 λQ mn x cs b S B H t γ hb ψ Τ he=>by
 refine .op γ hb ω (ko ψ.cA hw) (.inr λc=>by rw[Μ];simp) ?_;have ι:=lX ψ.cA y;have e:execOp (bp t) o=(do pure (.value (<-Instr.panic (bp t y)))):=by unfold execOp;rw[Μ]
 rw[e];rw[Ι] at ι;generalize hv:bp t y=v at ι;refine π.bind' ?_;cases ι with
 | fY fr J=>exact he (.fY ty a) env σ S B H t _ _ h .refl ψ.holds ψ.cA (.fY fr J)
end
def vL (P:Program) (T:bb) (A:List Nat) (env:Ω) (o:Oper) (σ:List Row) (K:θ->List Row->Prop) (E:θ->Ω->List Row->Prop):Prop:=match o.op with
 | .call ⟨.value f,args,_⟩=>hG P (aU env f) (args.toList.map (aU env)) σ K (λa s=>E a env s)
 | .panic y=>match aU env y with|.fY t a=>E (.fY t a) env σ|_=>False
 | .defer _=>False
 | _=>((mK T A env o).or σ (kM T A env σ o)).holds K
def j1 (w:Bool) (a b:Prop):Prop:=(w=false->a)/\(w=true->b)
theorem Vd {a b:Prop}:j1 true a b=b:=by simp[j1]
theorem Ve {a b:Prop}:j1 false a b=a:=by simp[j1]
theorem Vf {w w':Bool} {a b:Prop} (h:w=w'):j1 w a b=j1 w' a b:=by rw[h]
def g2 {α:Type} (x:Option α) (f:α->Prop):Prop:=match x with|none=>False|some a=>f a
theorem Vg {α:Type} {a:α} {f:α->Prop}:g2 (some a) f=f a:=Eq.trans rfl rfl
theorem Vh {α:Type} {f:α->Prop}:g2 none f=False:=rfl
theorem Vi {α:Type} {x dn:Option α} {f:α->Prop} (h:x=dn):g2 x f=g2 dn f:=by rw[h]
theorem Vj {K:θ->List Row->Prop} {r r':df} (h:r=r'):r.holds K=r'.holds K:=by rw[h]
theorem or_congr {r r':cK} {σ:List Row} {s:df} (h:r=r'):r.or σ s=r'.or σ s:=by rw[h]
def run (P:Program) (T:bb) (A:List Nat) (nt:Nat) (ops:Array Oper):List Nat->Ω->List Row->(Ω->List Row->Prop)->(θ->Ω->List Row->Prop)->Prop
 | [],env,σ,K,_=>K env σ
 | i::is,env,σ,K,E=>g2 ops[i]? λo=>ik nt o=true/\g2 (fP env ops o) λw=>
   j1 w (run P T A nt ops is (cj o env .cH) σ K E) (vL P T A env o σ (λa σ'=>run P T A nt ops is (cj o env a) σ' K E) E)
def MI (P:Program) (T:bb) (A:List Nat) (nt:Nat) (ops:Array Oper) (is:List Nat) (o:Oper) (env:Ω) (K:Ω->List Row->Prop) (E:θ->Ω->List Row->Prop) (a:θ) (σ':List Row):Prop:=run P T A nt ops is (cj o env a) σ' K E
theorem p5 {P:Program} {T:bb} {A:List Nat} {nt:Nat} {ops:Array Oper} {env:Ω} {σ:List Row} {K:Ω->List Row->Prop} {E:θ->Ω->List Row->Prop}:run P T A nt ops [] env σ K E=K env σ:=Eq.trans rfl rfl
theorem Ο {P:Program} {T:bb} {A:List Nat} {nt:Nat} {ops:Array Oper} {i:Nat} {is:List Nat} {env:Ω} {σ:List Row} {K:Ω->List Row->Prop} {E:θ->Ω->List Row->Prop} :
  run P T A nt ops (i::is) env σ K E=g2 ops[i]? λo=>ik nt o=true/\g2 (fP env ops o) λw=>
   j1 w (run P T A nt ops is (cj o env .cH) σ K E) (vL P T A env o σ (MI P T A nt ops is o env K E) E):=Eq.trans rfl rfl
theorem MJ {P:Program} {T:bb} {A:List Nat} {nt:Nat} {ops:Array Oper} {is:List Nat} {o:Oper} {env:Ω} {σ:List Row} {K:Ω->List Row->Prop} {E:θ->Ω->List Row->Prop} {a:θ}:MI P T A nt ops is o env K E a σ=run P T A nt ops is (cj o env a) σ K E:=Eq.trans rfl rfl
section
variable {P:Program} {T:bb} {A:List Nat} {m nt:Nat} {k:List Item} {env:Ω} {σ:List Row} {Z:List Item->Ω->List Row->Prop} {E:θ->Ω->List Row->Prop} {K:θ->List Row->Prop}
theorem W.bJ {ops:Array Oper} (h:W P m nt k env σ Z E):W P m nt (.inRegion ops []::k) env σ Z E:=λQ mn x cs b S B H t γ hb ψ Τ he=>.bJ γ hb (h Q mn x cs b S B H t γ hb ψ Τ he)
theorem Ho (Κ:bV P T) {ops:Array Oper} (kp:List Nat):∀(is:List Nat) (env:Ω) (σ:List Row),run P T A nt ops is env σ (λenv σ=>W P m nt (.inRegion ops kp::k) env σ Z E) E->W P m nt (.inRegion ops (is++kp)::k) env σ Z E:=by
 intro is
 induction is with
 | nil=>intro env σ h;exact h
 | cons i is Β=>
  intro env σ h;unfold run g2 at h;split at h
  ·exact h.elim
  ·rename_i o ω;obtain⟨hd,h⟩:=h;split at h
   ·exact h.elim
   rename_i w hw;unfold j1 at h;cases w
   ·exact .unwanted ω hw hd (Β _ _ (h.1 rfl))
   ·replace h:=h.2 rfl
    unfold vL at h;split at h
    ·rename_i f args eh Μ;exact .call ω hw hd Μ (h.mono (λa s h=>Β _ _ h) (λ_ _ h=>h))
    ·rename_i y Μ;split at h
     ·rename_i ty a Ι;exact .panic ω hw Μ Ι h
     ·exact h.elim
    ·exact h.elim
    ·rename_i J U μ;refine .op (A:=A) Κ ω hw hd (λc δ=>μ c δ) ?_;generalize (mK T A env o).or σ (kM T A env σ o)=r at h;have key:∀r:df,r.holds (λa σ'=>run P T A nt ops is (cj o env a) σ' (λenv σ=>W P m nt (.inRegion ops kp::k) env σ Z E) E)->r.holds λa σ'=>W P m nt (.inRegion ops (is++kp)::k) (cj o env a) σ' Z E:=by
      intro r
      induction r with
      | ok a s=>exact λh=>Β _ _ h
      | b' p r mF=>exact λh=>⟨h.1,mF h.2⟩
      | all n f mF=>exact λh i hi=>mF i (h i hi)
      | bad=>exact λh=>h
     exact key r h
theorem df.Vk {K K':θ->List Row->Prop} (ζ:∀a s,K a s->K' a s):∀r:df,r.holds K->r.holds K':=by
 intro r
 induction r with
 | ok a s=>exact λh=>ζ _ _ h
 | b' p r Β=>exact λh=>⟨h.1,Β h.2⟩
 | all n f Β=>exact λh i hi=>Β i (h i hi)
 | bad=>exact λh=>h
theorem Vl {env:Ω} {o:Oper} {K K':θ->List Row->Prop} (ζ:∀a s,K a s->K' a s) (h:vL P T A env o σ K E):vL P T A env o σ K' E:=by
 unfold vL at h ⊢;split
 ·rename_i f args eh Μ;rw[Μ] at h;exact hG.mono h ζ λ_ _ h=>h
 ·rename_i y Μ;rw[Μ] at h;exact h
 ·rename_i Μ;rw[Μ] at h;exact h
 ·rename_i J U μ;split at h
  ·rename_i f args eh Μ;exact absurd Μ (J f args eh)
  ·rename_i y Μ;exact absurd Μ (U y)
  ·rename_i y Μ;exact absurd Μ (μ y)
  ·exact df.Vk ζ _ h
theorem Ds {ops:Array Oper} {nt:Nat} {K K':Ω->List Row->Prop} (ζ:∀e s,K e s->K' e s):∀(is:List Nat) (env:Ω) (σ:List Row),run P T A nt ops is env σ K E->run P T A nt ops is env σ K' E:=by
 intro is
 induction is with
 | nil=>intro env σ h;exact ζ _ _ h
 | cons i is Β=>
  intro env σ h;unfold run g2 at h ⊢;cases ω:ops[i]? with
  | none=>rw[ω] at h;exact h.elim
  | some o=>
   rw[ω] at h;simp only at h ⊢;refine⟨h.1,?_⟩
   replace h:=h.2
   cases hw:fP env ops o with
   | none=>rw[hw] at h;exact h.elim
   | some w=>
    rw[hw] at h;unfold j1 at h ⊢;exact⟨λe=>Β _ _ (h.1 e),λe=>Vl (λa s=>Β _ _) (h.2 e)⟩
theorem Vm (Κ:bV P T) {ops:Array Oper} (is:List Nat) (env:Ω) (σ:List Row) (h:run P T A nt ops is env σ (λenv σ=>W P m nt k env σ Z E) E):W P m nt (.inRegion ops is::k) env σ Z E:=by
 have:=Ho (A:=A) Κ [] is env σ (ops:=ops) (k:=k) (Z:=Z) (E:=E) (P:=P) (m:=m) (nt:=nt);rw[List.append_nil] at this;refine this ?_;have mono:∀(is:List Nat) (env:Ω) (σ:List Row) (K K':Ω->List Row->Prop),(∀e s,K e s->K' e s)->run P T A nt ops is env σ K E->run P T A nt ops is env σ K' E:=λis env σ K K' ζ h=>Ds ζ is env σ h;exact mono is env σ _ _ (λe s h=>.bJ h) h
def idx:Nat->List Nat->List Nat
 | 0,l=>l
 | n+1,l=>idx n (n::l)
theorem idx_eq (n:Nat):idx n []=List.range n:=by
 have:∀(n:Nat) (l:List Nat),idx n l=List.range.loop n l:=by
  intro n
  induction n with
  | zero=>intro l;rfl
  | succ n Β=>intro l;exact Β _
 exact this n []
theorem dM (Κ:bV P T) {id:Nat} {ops:Array Oper} (h:∀Ε:Ω->List Row->Prop,(∀env σ,W P m nt k env σ Z E->Ε env σ)->run P T A nt ops (idx ops.size []) env σ Ε E):W P m nt (.code (.region id ops false)::k) env σ Z E:=
 λQ mn x cs b S B H t γ hb ψ Τ he=>.region γ hb (Vm Κ _ _ _ (by rw[<-idx_eq];exact h _ λ_ _ h=>h) Q mn x cs b S B H t γ hb ψ Τ he)
theorem W.forget (env':Ω) (cT:∀p∈env',a9 env p.1=p.2) (h:W P m nt k env' σ Z E):W P m nt k env σ Z E:=
 λQ mn x cs b S B H t γ hb ψ Τ he=>by
 have zT:∀(l:Ω),(∀p∈l,a9 env p.1=p.2)->∀i,a9 l i=.cH\/a9 l i=a9 env i:=by
  intro l
  induction l with
  | nil=>intro _ i;exact .inl rfl
  | cons p l Β=>
   intro ο i;simp only[a9];split
   ·rename_i e;subst e;exact .inr (ο p η).symm
   ·exact Β (λq Φ=>ο q (by simp[Φ])) i
 refine h Q mn x cs b S B H t γ hb ⟨ψ.holds,λi=>?_,ψ.size,ψ.rows⟩ Τ he;rcases zT env' cT i with e|e
 ·rw[e];exact .cH _
 ·rw[e];exact ψ.cA i
theorem W.rf (Κ:bV P T) (env':Ω) {id:Nat} {ops:Array Oper} (h:W P m nt k env' σ Z E) (ι:run P T A nt ops (idx ops.size []) env σ (λe s=>s=σ/\∀p∈env',a9 e p.1=p.2) E):W P m nt (.code (.region id ops false)::k) env σ Z E:=
 dM Κ λΕ ζ=>Ds (λe s ⟨J,U⟩=>ζ e s (J▸W.forget env' U h)) _ _ _ ι
def vM (i:iH) (l:List θ):Option θ:=if i.agg then(if i.size<=l.length then some (.a5 (l.take i.size)) else none) else l.head?
def xJ (T:bb) (ty:TypeId) (σ:List Row):θ->Option θ
 | .ao cells=>match T ty with|some i=>vM i cells|none=>none
 | .ar id n i j=>match T ty,σ[id]? with
  | some k6,some (.cells _ _ l)=>if l.length=n then match l[i]? with
   | some e=>vM k6 (e.cells.drop j)
   | none=>none else none
  | _,_=>none
 | _=>none
def sB (T:bb) (env:Ω) (σ:List Row):ResultVar->Option θ
 | .tmp t=>some (a9 env t)
 | .cell a ty=>xJ T ty σ (a9 env a)
def Dt:List θ->θ
 | [a]=>a
 | l=>.bj l
def p6 (T:bb) (rs:List ResultVar) (env:Ω) (σ:List Row):Option θ:=(rs.mapM (sB T env σ)).map Dt
theorem MK {i:iH} {l:List θ} {v:θ} (h:vM i l=some v):tK i l=.ok v:=by
 unfold vM at h;unfold tK;cases zz:i.agg with
 | true=>
  rw[zz] at h;simp only[if_true] at h ⊢;split at h
  ·rename_i hle;cases h;rw[if_pos hle]
  ·cases h
 | false=>
  rw[zz] at h;simp only[Bool.false_eq_true,if_false] at h ⊢;cases l with
  | nil=>cases h
  | cons a l=>cases h;rfl
theorem Vn (Κ:bV P T) {S:aJ} {B:aV} {H:χ} (Α:Holds S B σ H) {ty:TypeId} {a v:θ} {w:Value} (h:xJ T ty σ a=some v) (ι:ay S B σ a w):cR P (do loadVar ty (<-asAddr w)) S B H σ (.ok v σ):=by
 unfold xJ at h;split at h
 ·rename_i cells;split at h
  ·rename_i i hi;cases ι with
   | ao b o w J U=>
    have:=CA Κ Α hi w (λj a ε=>Α.dt _ _ _ (J j a ε)) U;rw[MK h] at this;exact this
  ·cases h
 ·rename_i id n i j;split at h
  ·rename_i k6 t k l hi ο;split at h
   ·rename_i Ζ;split at h
    ·rename_i e he;cases ι with
     | ar J U μ=>
      rw[ο] at J;cases J;obtain⟨ς,w,hw⟩:=LZ Α ο μ he;have:=CA Κ Α hi (l:=e.cells.drop j) (b:=_) (o:=i*k+j) (λx=>w (j+x)) (λx a γ=>⟨true,by
       rw[List.getElem?_drop] at γ;rw[Nat.add_assoc];exact(hw _ a γ).1⟩) (λx a γ=>by
       rw[List.getElem?_drop] at γ;exact(hw _ a γ).2.1)
      rw[MK h] at this;exact this
     | jY v J U=>rw[ο] at J;cases J;simp only[Row.hh] at U;omega
    ·cases h
   ·cases h
  ·cases h
 ·cases h
theorem Du (Κ:bV P T) {fn:Func} {a:θ} (h:p6 T fn.results.toList env σ=some a) {S:aJ} {B:aV} {H:χ} {t:Array Value} (Α:Holds S B σ H) (ν:du S B σ env t) :
  π P (results fn t) H (λv H'=>∃aE B',Ext S B H aE B' H'/\b8 S aE B B' σ σ/\Holds aE B' σ H'/\ay aE B' σ a v) (λ_ _=>False):=by
 let f:ResultVar->Sem Value:=λr=>match r with
  | .tmp x=>pure (t.getD x undef)
  | .cell a ty=>do loadVar ty (<-asAddr (t.getD a undef))
 have key:∀(rs:List ResultVar) (as9:List θ) (S:aJ) (B:aV) (H:χ),rs.mapM (sB T env σ)=some as9->Holds S B σ H->du S B σ env t->
   π P (rs.mapM f) H (λvs H'=>∃aE B',Ext S B H aE B' H'/\b8 S aE B B' σ σ/\Holds aE B' σ H'/\as9.length=vs.length/\∀(i:Nat) (a:θ) (v:Value),as9[i]?=some a->vs[i]?=some v->ay aE B' σ a v) (λ_ _=>False):=by
  intro rs
  induction rs with
  | nil=>intro as9 S B H h Α _;simp at h;subst h;exact π.pure' ⟨S,B,.refl _ _ _,.refl _ _ _,Α,rfl,λi a v hi=>by simp at hi⟩
  | cons r rs Β=>
   intro as9 S B H h Α ν;rw[List.mapM_cons] at h ⊢;cases ι:sB T env σ r with
   | none=>rw[ι] at h;cases h
   | some a=>
    rw[ι] at h;simp only[Option.bind_eq_bind,Option.bind_some] at h;cases Ξ:rs.mapM (sB T env σ) with
    | none=>rw[Ξ] at h;cases h
    | some l2=>
     rw[Ξ] at h;cases h;have step:π P (f r) H (λv H'=>∃aE B',Ext S B H aE B' H'/\b8 S aE B B' σ σ/\Holds aE B' σ H'/\ay aE B' σ a v) (λ_ _=>False):=by
      cases r with
      | tmp x=>simp only[sB,Option.some.injEq] at ι;subst ι;exact π.pure' ⟨S,B,.refl _ _ _,.refl _ _ _,Α,ν x⟩
      | cell x ty=>
       refine π.mono (λv H' ⟨aE,B',σ',cz,⟨J,U⟩,μ,Θ,av,ba⟩=>?_) (λ_ _ h=>h) _ (Vn Κ Α ι (ν x) (λcz bm=>cz=a/\bm=σ) ⟨rfl,rfl⟩);subst J;subst U;exact⟨aE,B',μ,av,Θ,ba⟩
     refine π.bind' (π.mono (λv H1 ⟨bN,bT,Δ,l1,J,r1⟩=>?_) (λ_ _ h=>h) _ step);refine π.bind' (π.mono (λvs bR ⟨c9,ff,Γ,ML,U,gl,r2⟩=>?_) (λ_ _ h=>h) _ (Β l2 bN bT H1 Ξ J (ν.later l1)));refine π.pure' ⟨c9,ff,Δ.trans Γ,l1.trans ML,U,by simp[gl],λi cz fr hi hv=>?_⟩
     match i with
     | 0=>simp at hi hv;subst hi;subst hv;exact r1.later ML
     | i+1=>simp at hi hv;exact r2 i cz fr hi hv
 unfold p6 at h;cases hm:fn.results.toList.mapM (sB T env σ) with
 | none=>rw[hm] at h;cases h
 | some as9=>
  rw[hm] at h;cases h;have ς:=key fn.results.toList as9 S B H hm Α ν;unfold results;rw[Array.mapM_eq_mapM_toList];refine π.bind' ?_;refine π.bind (fn.results.toList.mapM f) (π.mono (λvs H1 ⟨bN,bT,Δ,l1,J,hU,r1⟩=>?_) (λ_ _ h=>h) _ ς);refine π.pure' ?_;refine π.pure' ⟨bN,bT,Δ,l1,J,?_⟩;by_cases Ζ:vs.toArray.size=1
  ·rw[dif_pos Ζ];have vN:vs.length=1:=by simpa using Ζ
   obtain⟨v,rfl⟩:=List.length_eq_one_iff.1 vN;obtain⟨a,rfl⟩:=List.length_eq_one_iff.1 (hU.trans vN);exact r1 0 a v rfl rfl
  ·rw[dif_neg Ζ];have vN:as9.length≠1:=by rw[hU];simpa using Ζ
   have:Dt as9=.bj as9:=by
    match as9 with
    | []=>rfl
    | [a]=>simp at vN
    | a::b::l=>rfl
   rw[this];exact .bj _ (by simpa using hU) λi a v hi hv=>r1 i a v hi (by simpa using hv)
def entry:Nat->List θ->Ω
 | _,[]=>[]
 | i,a::as9=>(i,a)::entry (i+1) as9
theorem MM {S:aJ} {B:aV} {as9:List θ} {vs:Array Value} (h:fO S B σ as9 vs) (n:Nat):du S B σ (entry 0 as9) (vs++Array.replicate n undef):=by
 have key:∀(l:List θ) (j i:Nat),a9 (entry j l) i=if j<=i then(l[i-j]?).getD .cH else .cH:=by
  intro l
  induction l with
  | nil=>intro j i;simp[entry,a9]
  | cons a l Β=>
   intro j i;simp only[entry,a9];by_cases e:j=i
   ·subst e;simp
   ·rw[if_neg e,Β];by_cases hle:j<=i
    ·rw[if_pos R,if_pos hle];have:i-j=(i-(j+1))+1:=R;rw[this,List.getElem?_cons_succ]
    ·rw[if_neg R,if_neg hle]
 intro i;rw[key,if_pos (Nat.zero_le _),Nat.sub_zero];by_cases aP:i<as9.length
 ·have κ:=bg aP;rw[κ];have hv:i<vs.size:=by rw[<-h.1];exact aP
  rw[Array.getD_eq_getD_getElem?,Array.getElem?_append_left hv];exact h.2 i _ _ κ (by rw[fq hv];rfl)
 ·rw[List.getElem?_eq_none R];exact .cH _
def Ends (T:bb) (rs:List ResultVar) (K:θ->List Row->Prop) (j:List Item) (env:Ω) (σ:List Row):Prop:=match j with
 | []=>∃a,p6 T rs env σ=some a/\K a σ
 | .code .ret::_=>∃a,p6 T rs env σ=some a/\K a σ
 | _=>False
theorem ae.Vo {F:θ->List Row->Prop} (Κ:bV P T) {g:FuncId} {fn:Func} {body:Code} (bM:P.funcs[g]?=some fn) (nB:fn.body=some body) (vB:(fn.name == "runtime.NumGoroutine")=false) {args:List θ} (hlen:args.length<=fn.ntmps)
  (h:W P σ.length fn.ntmps [.code body] (entry 0 args) σ (Ends T fn.results.toList K) (λa _ s=>F a s)):ae P g args σ K F:=by
 refine⟨⟨fn,bM,vB,by rw[nB];rfl⟩,λQ mn x c rest S B H vs γ Α hv hb=>?_⟩;have lf:∀{α:Type} (l:List α),l.length=σ.length->l.take σ.length=l:=λl ο=>List.take_of_length_le R;have cp:Frame.enter P g vs .normal=aA (Frame.enter P g vs .normal) (vs++Array.replicate (fn.ntmps-vs.size) undef) [.code body]:=by
  simp[Frame.enter,aA,bM,nB]
 rw[cp];have cv:(vs++Array.replicate (fn.ntmps-vs.size) undef).size=fn.ntmps:=by
  have:=hv.1;simp;omega
 refine h Q mn x (c::rest) _ S B H _ γ rfl ⟨Α,MM hv _,cv,Nat.le_refl _⟩ (λj env' σ' aE B' H' t' ag Τ κ ψ ο=>?_) (λa env' σ' aE B' H' t' ag v dw κ jA _ ι=>?_)
 ·have Hp:b8 S aE B B' σ σ':=by
   have:=κ.later
   rwa [lf B Α.len,lf σ rfl] at this
  have fin:(∃a,p6 T fn.results.toList env' σ'=some a/\K a σ')->aR P Q mn x {aA (Frame.enter P g vs .normal) t' ag with mode:=.returning} (c::rest) H':=λ⟨a,J,U⟩=>by
   refine .back γ rfl rfl (.inl rfl) bM ?_;refine π.mono (λv bR ⟨c9,ff,Γ,l2,μ,r2⟩=>?_) (λ_ _ h=>h) _ (Du Κ J ψ.holds ψ.cA);exact hb.ret a σ' c9 ff bR v U (κ.ext.trans Γ) (Hp.trans l2) μ r2
  have:ag=j:=ο;subst this;unfold Ends at Τ;split at Τ
  ·exact .sf γ rfl rfl (fin Τ)
  ·exact .ret γ rfl rfl (fin Τ)
  ·exact Τ.elim
 ·have Hp:b8 S aE B B' σ σ':=by
   have:=κ.later
   rwa [lf B Α.len,lf σ rfl] at this
  refine .raised γ rfl rfl ?_ (hb.xI a σ' aE B' H' v dw κ.ext Hp jA ι);simp[Frame.catches,aA,Frame.enter,bM]
end
section
variable {P:Program} {S aE:aJ} {B:aV} {H H':χ} {σ:List Row}
theorem ay.take {h:Nat} {a:θ} {v:Value} (ι:ay S B σ a v) (hb:aG h a):ay S (B.take h) (σ.take h) a v:=by
 have bh:∀{α:Type} (l:List α) (i:Nat),i<h->(l.take h)[i]?=l[i]?:=λl i hi=>List.getElem?_take_of_lt hi
 induction ι with
 | z v=>exact .z v
 | ao b o w J _ Β=>
  cases hb with
  | ao hb=>exact .ao b o w J λj a ε=>Β j a ε (hb a (cE ε))
 | i' base cap h=>exact .i' base cap h
 | sl b o cap w J U μ Θ _ Β=>
  cases hb with
  | sl hb=>exact .sl b o cap w J U μ Θ λi e hi j c ε=>Β i e hi j c ε (hb e (cE hi) c (cE ε))
 | a5 vs J _ Β=>
  cases hb with
  | a5 hb=>exact .a5 vs J λi a v hi hv=>Β i a v hi hv (hb a (cE hi))
 | bj vs J _ Β=>
  cases hb with
  | bj hb=>exact .bj vs J λi a v hi hv=>Β i a v hi hv (hb a (cE hi))
 | ar J U μ=>
  cases hb with
  | ar hb=>exact .ar (by rw[bh _ _ hb];exact J) U (by rw[bh _ _ hb];exact μ)
 | jY v J U=>
  cases hb with
  | ar hb=>exact .jY v (by rw[bh _ _ hb];exact J) U
 | ms cap J U μ Θ av ba=>
  cases hb with
  | ms hb=>exact .ms cap (by rw[bh _ _ hb];exact J) U (by rw[bh _ _ hb];exact μ) Θ av ba
 | jz v J U=>
  cases hb with
  | ms hb=>exact .jz v (by rw[bh _ _ hb];exact J) U
 | fn vs ws J U _ _ sh mF=>
  cases hb with
  | fn k7 fA=>exact .fn vs ws J U (λi a v hi hv=>sh i a v hi hv (k7 a (cE hi))) λi a v hi hv=>mF i a v hi hv (fA a (cE hi))
 | fY v _ Β=>
  cases hb with
  | fY hb=>exact .fY v (Β hb)
 | mp J U=>
  cases hb with
  | mp hb=>exact .mp (by rw[bh _ _ hb];exact J) (by rw[bh _ _ hb];exact U)
 | lV v J=>
  cases hb with
  | mp hb=>exact .lV v (by rw[bh _ _ hb];exact J)
 | it J U=>
  cases hb with
  | it hb=>exact .it (by rw[bh _ _ hb];exact J) (by rw[bh _ _ hb];exact U)
 | nu v J=>
  cases hb with
  | it hb=>exact .nu v (by rw[bh _ _ hb];exact J)
 | cH v=>exact .cH v
theorem ay.any {a:θ} {v:Value} (ι:ay S B σ a v) (hb:aG 0 a) (ff:aV) (gK:List Row):ay S ff gK a v:=by
 have J:ay S [] [] a v:=by simpa using ι.take hb
 exact J.later ⟨λ_ _ _ h=>h,λid r h=>by simp at h⟩
theorem Holds.bare (Α:Holds S B σ H):Holds S [] [] H:=
 ⟨Α.dt,rfl,λid r bo h=>by simp at h,λi j ez cg b gU gV fU h=>by simp at h,λid r b N h=>by simp at h⟩
theorem Holds.back (Α:Holds S B σ H) (he:Ext S [] H aE [] H') (aj:Holds aE [] [] H'):Holds aE B σ H'/\Ext S B H aE B H'/\b8 S aE B B σ σ:=by
 have ο:b8 S aE B B σ σ:=⟨he.dt,λid r h=>⟨r,h,r.tI _⟩⟩
 have xK:∀b,¬aV.has ([]:aV) b:=λb ⟨N,h⟩=>by simp at h
 have a5:∀(id:Nat) (r:Row) (b N:Nat),σ[id]?=some r->r.live->B[id]?=some (some (b,N))->kJ H H' b:=λid r b N J U μ=>(he.fV b (xK b) (Α.n8 J U μ)).sk λo=>Α.sep id r b N J U μ o;refine⟨⟨aj.dt,Α.len,λid r bo ι e7=>?_,Α.inj,λid r b N ι fv e7 o=>?_⟩,⟨he.dt,λb _ Υ=>he.fV b (xK b) Υ,λb hb=>.inl hb,λb o v hv=>?_,he.grow⟩,ο⟩
 ·by_cases fv:r.live
  ·refine(Α.row id r bo ι e7).later ο (λb N e=>a5 id r b N ι fv (by rw[e7,e])) λm left cur e=>?_;subst e;obtain⟨_,_,aW,k8,xs,clock,seen,_,J,⟨es,U⟩,_⟩:=Α.row id _ bo ι e7;exact⟨rfl,rfl,λb N hb=>a5 m _ b N U trivial hb⟩
  ·cases r<;>first|exact absurd trivial fv|trivial
 ·cases hv:aE b o with
  | none=>rfl
  | some v=>
   rcases he.qZ b o v hv with h|h|h
   ·rw[Α.sep id r b N ι fv e7 o] at h;cases h
   ·exact absurd h (xK b)
   ·exact absurd h (Α.n8 ι fv e7)
 ·rcases he.qZ b o v hv with h|h|h
  ·exact .inl h
  ·exact absurd h (xK b)
  ·exact .inr (.inr h)
theorem ae.frame {g:FuncId} {args:List θ} {K:θ->Prop} {E:θ->Prop} (h:ae P g args [] (λa s=>K a/\aG 0 a/\s=[]) (λa s=>E a/\aG 0 a/\s=[])) (hb:∀a∈args,aG 0 a):ae P g args σ (λa s=>K a/\s=σ) (λa s=>E a/\s=σ):=by
 refine⟨h.1,λQ mn x c rest S B H vs γ Α hv l5=>?_⟩;refine h.2 Q mn x c rest S [] H vs γ Α.bare ⟨hv.1,λi a v J U=>(hv.2 i a v J U).any (hb a (cE J)) _ _⟩ ⟨λa σ' aE B' H' v ⟨ς,q8,ν⟩ he ο jA ι=>?_,λa σ' aE B' H' v ⟨ς,q8,ν⟩ he ο jA ι=>?_⟩
 all_goals
  subst ν;have dU:B'=[]:=dG.1 (by rw[jA.len];rfl);subst dU;obtain⟨dy,p2,p3⟩:=Α.back he jA
 ·exact l5.ret a σ aE B H' v ⟨ς,rfl⟩ p2 p3 dy (ι.any q8 _ _)
 ·exact l5.xI a σ aE B H' v ⟨ς,rfl⟩ p2 p3 dy (ι.any q8 _ _)
def zU (P:Program) (g:FuncId) (args:List θ) (r:θ):Prop:=ae P g args [] (λa s=>a=r/\s=[]) (λ_ _=>False)
theorem zU.call {g:FuncId} {first args captured:List θ} {r:θ} {K:θ->List Row->Prop} {E:θ->List Row->Prop} (h:zU P g (first++args++captured) r) (hb:∀a∈first++args++captured,aG 0 a) (ι:aG 0 r) (ζ:K r σ) :
  hG P (.fn (.func g) first captured) args σ K E:=by
 have J:ae P g (first++args++captured) [] (λa s=>a=r/\aG 0 a/\s=[]) (λa s=>False/\aG 0 a/\s=[]):=h.mono (λa s ⟨Δ,Γ⟩=>⟨Δ,Δ▸ι,Γ⟩) (λ_ _ h=>h.elim);exact ae.call ((J.frame (σ:=σ) hb).mono (λa s ⟨Δ,Γ⟩=>by subst Δ;subst Γ;exact ζ) (λ_ _ h=>h.1.elim))
end
theorem Vp {h:Nat} {v:Value}:aG h (.z v)↔True:=⟨λ_=>trivial,λ_=>.z v⟩
theorem Vq {h:Nat}:aG h .cH↔True:=⟨λ_=>trivial,λ_=>.cH⟩
theorem MN {h:Nat} {l:List θ}:aG h (.ao l)↔∀a∈l,aG h a:=⟨λx=>by cases x;assumption,.ao⟩
theorem Vr {h:Nat} {l:List θ}:aG h (.a5 l)↔∀a∈l,aG h a:=⟨λx=>by cases x;assumption,.a5⟩
theorem Vs {h:Nat} {l:List θ}:aG h (.bj l)↔∀a∈l,aG h a:=⟨λx=>by cases x;assumption,.bj⟩
theorem iL {h:Nat} {ex:Bool} {k:Nat} {l:List θ}:aG h (.sl ex k l)↔∀e∈l,∀a∈e.cells,aG h a:=⟨λx=>by cases x;assumption,.sl⟩
theorem Vt {h:Nat} {t:TypeId} {a:θ}:aG h (.fY t a)↔aG h a:=⟨λx=>by cases x;assumption,.fY⟩
theorem lg {h id n i j:Nat}:aG h (.ar id n i j)↔id<h:=⟨λx=>by cases x;assumption,.ar⟩
theorem rh {h id n i j:Nat}:aG h (.ms id n i j)↔id<h:=⟨λx=>by cases x;assumption,.ms⟩
theorem sC {h id:Nat}:aG h (.mp id)↔id<h:=⟨λx=>by cases x;assumption,.mp⟩
theorem Vu {h id:Nat}:aG h (.it id)↔id<h:=⟨λx=>by cases x;assumption,.it⟩
theorem l6 {h:Nat} {f:Fn} {dh cs:List θ}:aG h (.fn f dh cs)↔(∀a∈dh,aG h a)/\∀a∈cs,aG h a:=⟨λx=>by cases x;exact⟨by assumption,by assumption⟩,λx=>.fn x.1 x.2⟩
end Go.TL
