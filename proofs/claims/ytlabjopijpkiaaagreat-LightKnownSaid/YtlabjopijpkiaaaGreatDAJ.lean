import Derived.Test.YtlabjopijpkiaaaGreatDAI
set_option maxHeartbeats 16000000
set_option maxRecDepth 20000
set_option linter.unusedSectionVars false
set_option linter.unusedSimpArgs false
set_option linter.unusedVariables false
namespace Go.TL
open Go.Conc
inductive aK (h:Nat):θ->Prop where
 | z (v:Value):aK h (.z v)
 | aa {l:List θ}:(∀a∈l,aK h a)->aK h (.aa l)
 | sl {ex:Bool} {k:Nat} {l:List θ}:(∀e∈l,∀a∈e.cells,aK h a)->aK h (.sl ex k l)
 | a6 {l:List θ}:(∀a∈l,aK h a)->aK h (.a6 l)
 | a3 {l:List θ}:(∀a∈l,aK h a)->aK h (.a3 l)
 | an {id n i j:Nat}:id<h->aK h (.an id n i j)
 | ms {id n i len:Nat}:id<h->aK h (.ms id n i len)
 | fn {f:Fn} {db cs:List θ}:(∀a∈db,aK h a)->(∀a∈cs,aK h a)->aK h (.fn f db cs)
 | fJ {t:TypeId} {a:θ}:aK h a->aK h (.fJ t a)
 | mp {id:Nat}:id<h->aK h (.mp id)
 | it {id:Nat}:id<h->aK h (.it id)
 | cg:aK h .cg
def eV (h:Nat):Row->Prop
 | .cells _ _ l=>∀e∈l,∀a∈e.cells,aK h a
 | .map es=>∀e∈es,aK h e.1/\aK h e.2
 | .iter m left cur=>m<h/\(∀e∈left,aK h e.1/\aK h e.2)/\∀e,cur=some e->aK h e.1/\aK h e.2
 | .dead=>True
inductive eE (h:Nat) (σ:List Row):θ->θ->Prop where
 | low {a:θ}:aK h a->eE h σ a a
 | cg (a:θ):eE h σ a .cg
 | ms {id n i len k:Nat} {t:TypeId} {l dX:List θ}:h<=id->σ[id]?=some (.cells t k l)->l.length=n->i+len<=n->dX.length=len->
   (∀(j:Nat) (e aH:θ),l[i+j]?=some e->dX[j]?=some aH->aH.cells.length=e.cells.length)->(∀(j:Nat) (e aH:θ),l[i+j]?=some e->dX[j]?=some aH->∀(x:Nat) (a bP:θ),e.cells[x]?=some a->aH.cells[x]?=some bP->eE h σ a bP)->eE h σ (.ms id n i len) (.sl false k dX)
 | an {id n i j k:Nat} {t:TypeId} {l cs:List θ} {e:θ}:h<=id->σ[id]?=some (.cells t k l)->l.length=n->l[i]?=some e->cs.length<=e.cells.length-j->
   (∀(x:Nat) (a bP:θ),e.cells[j+x]?=some a->cs[x]?=some bP->eE h σ a bP)->eE h σ (.an id n i j) (.aa cs)
 | a6 {l dX:List θ}:dX.length=l.length->(∀(x:Nat) (a bP:θ),l[x]?=some a->dX[x]?=some bP->eE h σ a bP)->eE h σ (.a6 l) (.a6 dX)
 | a3 {l dX:List θ}:dX.length=l.length->(∀(x:Nat) (a bP:θ),l[x]?=some a->dX[x]?=some bP->eE h σ a bP)->eE h σ (.a3 l) (.a3 dX)
 | fn {f:Fn} {db GL cs cs':List θ}:GL.length=db.length->cs'.length=cs.length->(∀(x:Nat) (a bP:θ),db[x]?=some a->GL[x]?=some bP->eE h σ a bP)->(∀(x:Nat) (a bP:θ),cs[x]?=some a->cs'[x]?=some bP->eE h σ a bP)->eE h σ (.fn f db cs) (.fn f GL cs')
section
variable {S:aD} {B:aP} {H:π} {σ:List Row} {h:Nat}
def Late (B:aP) (σ:List Row) (h b:Nat):Prop:=∃id t k l N,h<=id/\σ[id]?=some (Row.cells t k l)/\B[id]?=some (some (b,N))
open Classical in
noncomputable def aD.close (S:aD) (B:aP) (σ:List Row) (H:π) (h:Nat):aD:=λb o=>if Late B σ h b then(H.aJ b o).map (·.1) else S b o
theorem C1 (χ:Holds S B σ H):∀b o v,S b o=some v->S.close B σ H h b o=some v:=λb o v hv=>by
 unfold aD.close;split
 ·rename_i υ;obtain⟨id,t,k,l,N,I,R,ν⟩:=υ;have:=χ.sep id _ b N R trivial ν o;rw[hv] at this;cases this
 ·exact hv
theorem au.q0 (χ:Holds S B σ H) {a:θ} {v:Value} (ι:au S B σ a v) (hb:aK h a):au (S.close B σ H h) (B.take h) (σ.take h) a v:=by
 have bh:∀{α:Type} (l:List α) (i:Nat),i<h->(l.take h)[i]?=l[i]?:=λl i hi=>List.getElem?_take_of_lt hi
 induction ι with
 | z v=>exact .z v
 | aa b o w I _ ω=>
  cases hb with
  | aa hb=>exact .aa b o w (λj a δ=>C1 χ _ _ _ (I j a δ)) λj a δ=>ω j a δ (hb a (cx δ))
 | ix base cap h=>exact .ix base cap h
 | sl b o cap w I R ν Ι _ ω=>
  cases hb with
  | sl hb=>exact .sl b o cap w I R ν (λi e hi j c δ=>C1 χ _ _ _ (Ι i e hi j c δ)) λi e hi j c δ=>ω i e hi j c δ (hb e (cx hi) c (cx δ))
 | a6 vs I _ ω=>
  cases hb with
  | a6 hb=>exact .a6 vs I λi a v hi hv=>ω i a v hi hv (hb a (cx hi))
 | a3 vs I _ ω=>
  cases hb with
  | a3 hb=>exact .a3 vs I λi a v hi hv=>ω i a v hi hv (hb a (cx hi))
 | an I R ν=>
  cases hb with
  | an hb=>exact .an (by rw[bh _ _ hb];exact I) R (by rw[bh _ _ hb];exact ν)
 | jG v I R=>
  cases hb with
  | an hb=>exact .jG v (by rw[bh _ _ hb];exact I) R
 | ms cap I R ν Ι aB bn=>
  cases hb with
  | ms hb=>exact .ms cap (by rw[bh _ _ hb];exact I) R (by rw[bh _ _ hb];exact ν) Ι aB bn
 | iY v I R=>
  cases hb with
  | ms hb=>exact .iY v (by rw[bh _ _ hb];exact I) R
 | fn vs ws I R _ _ rR me=>
  cases hb with
  | fn kN gv=>exact .fn vs ws I R (λi a v hi hv=>rR i a v hi hv (kN a (cx hi))) λi a v hi hv=>me i a v hi hv (gv a (cx hi))
 | fJ v _ ω=>
  cases hb with
  | fJ hb=>exact .fJ v (ω hb)
 | mp I R=>
  cases hb with
  | mp hb=>exact .mp (by rw[bh _ _ hb];exact I) (by rw[bh _ _ hb];exact R)
 | lA v I=>
  cases hb with
  | mp hb=>exact .lA v (by rw[bh _ _ hb];exact I)
 | it I R=>
  cases hb with
  | it hb=>exact .it (by rw[bh _ _ hb];exact I) (by rw[bh _ _ hb];exact R)
 | m0 v I=>
  cases hb with
  | it hb=>exact .m0 v (by rw[bh _ _ hb];exact I)
 | cg v=>exact .cg v
theorem Mj {id b N:Nat} {t:TypeId} {k:Nat} {l:List θ} (ao:h<=id) (I:σ[id]?=some (.cells t k l)) (R:B[id]?=some (some (b,N))) {o:Nat} {v:Value} {p:Bool} (hv:H.aJ b o=some (v,p)):S.close B σ H h b o=some v:=by
 unfold aD.close;rw[if_pos ⟨id,t,k,l,N,ao,I,R⟩,hv];rfl
theorem au.Ut (χ:Holds S B σ H) {a bP:θ} (μ:eE h σ a bP):∀{v:Value},au S B σ a v->au (S.close B σ H h) (B.take h) (σ.take h) bP v:=by
 induction μ with
 | low hb=>intro v ι;exact ι.q0 χ hb
 | cg a=>intro v _;exact .cg v
 | @ms id n i len k t l dX I R ν Ι aB bn _ ω=>
  intro v ι;cases ι with
  | ms cap Ξ ah aR ca iB j4=>
   rw[R] at Ξ;cases Ξ;by_cases Μ:dX=[]
   ·subst Μ;have:len=0:=by rw[<-aB];rfl
    subst this;exact .ix _ _ η
   ·have pG:0<len:=by rw[<-aB];exact List.length_pos_iff.2 Μ
    rcases j4 with j4|⟨b,N,rfl,rfl,j4⟩
    ·omega
    ·obtain⟨_,_,_,w,hw⟩:=χ.row id _ _ R aR;have el:∀(j:Nat) (aH:θ),dX[j]?=some aH->∃e,l[i+j]?=some e/\e.cells.length=k/\aH.cells.length=k:=λj aH δ=>by
      have aI:j<len:=by rw[<-aB];exact(bV.1 δ).1
      have he:l[i+j]?=some l[i+j]:=ba γ;exact⟨_,he,(hw _ _ he).1,(bn j _ aH he δ).trans (hw _ _ he).1⟩
     have:=au.sl (S:=S.close B σ H h) (B:=B.take h) (σ:=σ.take h) (ex:=false) (k:=k) (l:=dX) b (i*k) cap (λj x=>w (i+j) x) η γ (λj aH δ=>(el j aH δ).choose_spec.2.2)
      (λj aH δ x bP U=>by
       obtain⟨e,Γ,Θ,bO⟩:=el j aH δ;have C2:x<e.cells.length:=by rw[Θ,<-bO];exact(bV.1 U).1
       have:=((hw _ e Γ).2 x _ (ba C2)).1;rw[Nat.add_mul] at this;exact Mj I R aR this)
      (λj aH δ x bP U=>by
       obtain⟨e,Γ,Θ,bO⟩:=el j aH δ;have C2:x<e.cells.length:=by rw[Θ,<-bO];exact(bV.1 U).1
       exact ω j e aH Γ δ x _ bP (ba C2) U ((hw _ e Γ).2 x _ (ba C2)).2.1)
     rw[aB] at this;exact this
  | iY v Ξ ah=>rw[R] at Ξ;cases Ξ;simp only[Row.g1] at ah;omega
 | @an id n i j k t l cs e I R ν Ι aB bn ω=>
  intro v ι;cases ι with
  | an Ξ ah aR=>
   rw[R] at Ξ;cases Ξ;obtain⟨_,_,_,w,hw⟩:=χ.row id _ _ R aR;have el:∀(x:Nat) (bP:θ),cs[x]?=some bP->∃a,e.cells[j+x]?=some a:=λx bP U=>by
    have:=(bV.1 U).1;exact⟨_,ba γ⟩
   refine .aa _ _ (λx=>w i (j+x)) (λx bP U=>?_) (λx bP U=>?_)
   ·obtain⟨a,κ⟩:=el x bP U;have:=((hw i e Ι).2 _ a κ).1;rw[<-Nat.add_assoc] at this;exact Mj I R aR this
   ·obtain⟨a,κ⟩:=el x bP U;exact ω x a bP κ U ((hw i e Ι).2 _ a κ).2.1
  | jG v Ξ ah=>rw[R] at Ξ;cases Ξ;simp only[Row.g1] at ah;omega
 | a6 I R ω=>
  intro v ι;cases ι with
  | a6 vs Ξ ah=>
   refine .a6 vs (by rw[I,Ξ]) λi bP w hi hv=>?_;have aI:=(bV.1 hi).1;have κ:=ba (I▸aI);exact ω i _ bP κ hi (ah i _ w κ hv)
 | a3 I R ω=>
  intro v ι;cases ι with
  | a3 vs Ξ ah=>
   refine .a3 vs (by rw[I,Ξ]) λi bP w hi hv=>?_;have aI:=(bV.1 hi).1;have κ:=ba (I▸aI);exact ω i _ bP κ hi (ah i _ w κ hv)
 | fn I R _ _ rR me=>
  intro v ι;cases ι with
  | fn vs ws Ξ ah aR ca=>
   refine .fn vs ws (by rw[I,Ξ]) (by rw[R,ah]) (λi bP w hi hv=>?_) (λi bP w hi hv=>?_)
   ·have aI:=(bV.1 hi).1
    have κ:=ba (I▸aI);exact rR i _ bP κ hi (aR i _ w κ hv)
   ·have aI:=(bV.1 hi).1
    have κ:=ba (R▸aI);exact me i _ bP κ hi (ca i _ w κ hv)
theorem jH.q0 (χ:Holds S B σ H) {r:Row} {bo:Option (Nat×Nat)} (ι:jH S B σ H r bo) (hb:eV h r):jH (S.close B σ H h) (B.take h) (σ.take h) H r bo:=by
 have bh:∀{α:Type} (l:List α) (i:Nat),i<h->(l.take h)[i]?=l[i]?:=λl i hi=>List.getElem?_take_of_lt hi;cases r with
 | cells t k l=>
  cases bo with
  | none=>exact ι
  | some x=>
   obtain⟨b,N⟩:=x;obtain⟨I,R,ν,w,Ι⟩:=ι;refine⟨I,R,ν,w,λi e hi=>⟨(Ι i e hi).1,λj a δ=>?_⟩⟩;obtain⟨c1,c2,c3⟩:=(Ι i e hi).2 j a δ;exact⟨c1,c2.q0 χ (hb e (cx hi) a (cx δ)),c3⟩
 | map es=>
  obtain⟨b,N,xs,clock,rfl,I,R,ν,Ι⟩:=ι;exact⟨b,N,xs,clock,rfl,I,R,λi e y a b=>by
   obtain⟨c1,c2,c3⟩:=ν i e y a b;exact⟨c1.q0 χ (hb e (cx a)).1,c2.q0 χ (hb e (cx a)).2,c3⟩,Ι⟩
 | iter m left cur=>
  obtain⟨hm,kN,gv⟩:=hb;obtain⟨b,N,aU,kx,xs,clock,seen,rfl,I,R,ν,Ι,⟨cw,i1,i2,i3⟩,i4,i5⟩:=ι;refine⟨b,N,aU,kx,xs,clock,seen,rfl,by rw[bh _ _ hm];exact I,by rw[bh _ _ hm];exact R,ν,Ι,⟨cw,i1,i2,λi e y a b=>?_⟩,i4,λe he=>?_⟩
  ·obtain⟨c1,c2⟩:=i3 i e y a b;exact⟨c1.q0 χ (kN e (cx a)).1,c2.q0 χ (kN e (cx a)).2⟩
  ·obtain⟨st,y,a,b,c,d⟩:=i5 e he;exact⟨st,y,a,b,c.q0 χ (gv e he).1,d.q0 χ (gv e he).2⟩
 | dead=>trivial
theorem Holds.close (χ:Holds S B σ H) (hb:∀(id:Nat) (r:Row),id<h->σ[id]?=some r->eV h r) :
  Holds (S.close B σ H h) (B.take h) (σ.take h) H/\Ext S B H (S.close B σ H h) (B.take h) H:=by
 have bh:∀{α:Type} (l:List α) (i:Nat) (x:α),(l.take h)[i]?=some x->i<h/\l[i]?=some x:=λl i x hi=>by
  rw[List.getElem?_take] at hi;split at hi
  ·exact⟨‹_›,hi⟩
  ·cases hi
 refine⟨⟨λb o v hv=>?_,by simp[χ.len],λid r bo ι ek=>?_,λi j ef b8 b gh gi fZ hi δ hD eb gw cz=>?_,λid r b N ι υ ek o=>?_⟩,⟨C1 χ,λb _ _=>m1.of ⟨λ_=>rfl,rfl,rfl⟩,λb ⟨N,c5⟩=>.inl ⟨N,List.mem_of_mem_take c5⟩,λb o v hv=>?_,λ_ h=>h⟩⟩
 ·unfold aD.close at hv;split at hv
  ·cases ε:H.aJ b o with
   | none=>rw[ε] at hv;cases hv
   | some x=>rw[ε] at hv;cases hv;exact⟨x.2,rfl⟩
  ·exact χ.dc b o v hv
 ·obtain⟨I,R⟩:=bh _ _ _ ι;obtain⟨_,ν⟩:=bh _ _ _ ek;exact(χ.row id r bo R ν).q0 χ (hb id r I R)
 ·exact χ.inj i j ef b8 b gh gi fZ (bh _ _ _ hi).2 (bh _ _ _ δ).2 hD eb (bh _ _ _ gw).2 (bh _ _ _ cz).2
 ·obtain⟨I,R⟩:=bh _ _ _ ι;obtain⟨_,ν⟩:=bh _ _ _ ek;unfold aD.close;rw[if_neg]
  ·exact χ.sep id r b N R υ ν o
  ·rintro⟨C3,t,k,l,e2,Ξ,ah,aR⟩;exact χ.inj id C3 r _ b N e2 γ R ah υ trivial ν aR
 ·unfold aD.close at hv;split at hv
  ·rename_i υ;obtain⟨id,t,k,l,N,_,_,ν⟩:=υ;exact .inr (.inl (oE ν))
  ·exact .inl hv
theorem bQ.close {eg:aD} {eh:aP} {σ0:List Row} (χ:Holds S B σ H) (υ:bQ eg S eh B σ0 σ) (aX:σ0.length<=h):bQ eg (S.close B σ H h) eh (B.take h) σ0 (σ.take h):=
 ⟨λb o v hv=>C1 χ b o v (υ.dc b o v hv),λid r ι=>by
  have b7:id<h:=Nat.lt_of_lt_of_le (bV.1 ι).1 aX;obtain⟨r',I,R⟩:=υ.rows id r ι;exact⟨r',by rw[List.getElem?_take_of_lt b7];exact I,by rw[List.getElem?_take_of_lt b7];exact R⟩⟩
end
end Go.TL
namespace Go.TL
open Go.Conc
variable [bj]
structure eO (m:Nat) (S:aD) (B:aP) (H:π) (σ:List Row) (az:aD) (B':aP) (H':π) (σ':List Row):Prop where
 ext:Ext S B H az B' H'
 later:bQ S az (B.take m) B' (σ.take m) σ'
structure fi (m nt:Nat) (S:aD) (B:aP) (H:π) (σ:List Row) (env:ab) (t:Array Value):Prop where
 holds:Holds S B σ H
 b5:cX S B σ env t
 size:t.size=nt
 rows:m<=σ.length
section
variable {m:Nat} {S az y3:aD} {B B' y4:aP} {H H' Mk:π} {σ σ' y5:List Row}
theorem bQ.left (h:bQ S az B B' σ σ') (m:Nat):bQ S az (B.take m) B' (σ.take m) σ':=
 ⟨h.dc,λid r ι=>by
  rw[List.getElem?_take] at ι;split at ι
  ·rename_i aI;rw[List.getElem?_take_of_lt aI];exact h.rows id r ι
  ·cases ι⟩
theorem bQ.right (h:bQ S az B B' σ σ') (hm:σ.length<=m):bQ S az B (B'.take m) σ (σ'.take m):=
 ⟨h.dc,λid r ι=>by
  have aI:id<m:=Nat.lt_of_lt_of_le (bV.1 ι).1 hm;rw[List.getElem?_take_of_lt aI,List.getElem?_take_of_lt aI];exact h.rows id r ι⟩
theorem eO.of (h:Ext S B H az B' H') (k:bQ S az B B' σ σ'):eO m S B H σ az B' H' σ':=⟨h,k.left m⟩
theorem eO.refl:eO m S B H σ S B H σ:=.of (.refl _ _ _) (.refl _ _ _)
theorem eO.trans (h:eO m S B H σ az B' H' σ') (k:eO m az B' H' σ' y3 y4 Mk y5):eO m S B H σ y3 y4 Mk y5:=
 ⟨h.ext.trans k.ext,(h.later.right (m:=m) (by simp;omega)).trans k.later⟩
theorem bQ.length (h:bQ S az B B' σ σ'):σ.length<=σ'.length:=by
 apply Classical.byContradiction;intro Ε;have aI:σ'.length<σ.length:=γ;obtain⟨r',I,_⟩:=h.rows σ'.length _ (ba aI);simp at I
end
def Leaves (j:List Item) (k:List Item):Prop:=k=j
def W (P:Program) (m nt:Nat) (k:List Item) (env:ab) (σ:List Row) (Z:List Item->ab->List Row->Prop) (E:θ->ab->List Row->Prop):Prop:=
 ∀(Q:Value->Prop) (mn:Bool) (x:gJ) (cs:List Frame) (b:Frame) (S:aD) (B:aP) (H:π) (t:Array Value),Seq x->b.mode=.run->fi m nt S B H σ env t->
  (∀(j:List Item) (env':ab) (σ':List Row) (az:aD) (B':aP) (H':π) (t':Array Value) (af:List Item),Z j env' σ'->eO m S B H σ az B' H' σ'->fi m nt az B' H' σ' env' t'->Leaves j af->aE P Q mn x (ax b t' af) cs H')->
  (∀(a:θ) (env':ab) (σ':List Row) (az:aD) (B':aP) (H':π) (t':Array Value) (af:List Item) (v:Value),E a env' σ'->eO m S B H σ az B' H' σ'->Holds az B' σ' H'->cX az B' σ' env' t'->au az B' σ' a v->aE P Q mn x {ax b t' af with mode:=.panicking [{v,recovered:=false}]} cs H')->
  aE P Q mn x (ax b t k) cs H
section
variable {P:Program} {m nt:Nat} {k:List Item} {env:ab} {σ:List Row} {Z:List Item->ab->List Row->Prop} {E:θ->ab->List Row->Prop}
theorem W.stop (h:Z k env σ):W P m nt k env σ Z E:=λ_ _ _ _ _ S B H t _ _ ς Μ _=>Μ k env σ S B H t k h .refl ς rfl
theorem W.nil (h:Z [] env σ):W P m nt [] env σ Z E:=.stop h
theorem W.ret (h:Z (.code .ret::k) env σ):W P m nt (.code .ret::k) env σ Z E:=.stop h
theorem W.skip (h:W P m nt k env σ Z E):W P m nt (.code .skip::k) env σ Z E:=λQ mn x cs b S B H t U hb ς Μ he=>.skip U hb (h Q mn x cs b S B H t U hb ς Μ he)
theorem W.label {l:Nat} (h:W P m nt k env σ Z E):W P m nt (.code (.label l)::k) env σ Z E:=λQ mn x cs b S B H t U hb ς Μ he=>.label U hb (h Q mn x cs b S B H t U hb ς Μ he)
theorem W.inBlock {l:Nat} (h:W P m nt k env σ Z E):W P m nt (.inBlock l::k) env σ Z E:=λQ mn x cs b S B H t U hb ς Μ he=>.inBlock U hb (h Q mn x cs b S B H t U hb ς Μ he)
theorem W.seq {a c:Code} (h:W P m nt (.code a::.code c::k) env σ Z E):W P m nt (.code (.seq a c)::k) env σ Z E:=λQ mn x cs b S B H t U hb ς Μ he=>.seq U hb (h Q mn x cs b S B H t U hb ς Μ he)
theorem W.block {l:Nat} {c:Code} (h:W P m nt (.code c::.inBlock l::k) env σ Z E):W P m nt (.code (.block l c)::k) env σ Z E:=λQ mn x cs b S B H t U hb ς Μ he=>.block U hb (h Q mn x cs b S B H t U hb ς Μ he)
theorem W.inLoop {c:Code} (h:W P m nt (.code c::.inLoop c::k) env σ Z E):W P m nt (.inLoop c::k) env σ Z E:=λQ mn x cs b S B H t U hb ς Μ he=>.inLoop U hb (h Q mn x cs b S B H t U hb ς Μ he)
theorem W.loop {c:Code} (h:W P m nt (.code c::.inLoop c::k) env σ Z E):W P m nt (.code (.loop c)::k) env σ Z E:=λQ mn x cs b S B H t U hb ς Μ he=>.loop U hb (h Q mn x cs b S B H t U hb ς Μ he)
theorem W.scope {c:Code} (h:W P m nt (.code c::.inScope c::k) env σ Z E):W P m nt (.code (.scope c)::k) env σ Z E:=λQ mn x cs b S B H t U hb ς Μ he=>.scope U hb (h Q mn x cs b S B H t U hb ς Μ he)
theorem W.exit {id:Nat} {af:List Item} (ψ:exitTo id k=some af) (h:W P m nt af env σ Z E):W P m nt (.code (.exit id)::k) env σ Z E:=λQ mn x cs b S B H t U hb ς Μ he=>.exit U hb ψ (h Q mn x cs b S B H t U hb ς Μ he)
theorem W.cond {c:Operand} {a e:Code} {v:Bool} (ε:aM env c=.z (.bool v)) (h:W P m nt (.code (if v then a else e)::k) env σ Z E):W P m nt (.code (.cond c a e)::k) env σ Z E:=λQ mn x cs b S B H t U hb ς Μ he=>by
 refine .cond (v:=v) U hb ?_ (h Q mn x cs b S B H t U hb ς Μ he);have:=lB ς.b5 c;rw[ε] at this;rw[y1];generalize br t c=u at this;cases this;rfl
theorem W.cut (h:Nat) (hm:m<=h) (env':ab) (aX:h<=σ.length) (j5:∀(id:Nat) (r:Row),id<h->σ[id]?=some r->eV h r) (cU:∀p∈env',eE h σ (bc env p.1) p.2) (hW:W P m nt k env' (σ.take h) Z E):W P m nt k env σ Z E:=
 λQ mn x cs b S B H t U hb ς Μ he=>by
 obtain⟨c1,c2⟩:=ς.holds.close j5;have υ:bQ S (S.close B σ H h) (B.take m) (B.take h) (σ.take m) (σ.take h):=by
  have:=bQ.close (h:=h) ς.holds ((bQ.refl S B σ).left m) (by simp;omega);exact this
 have κ:eO m S B H σ (S.close B σ H h) (B.take h) H (σ.take h):=⟨c2,υ⟩
 have r6:∀(l:ab),(∀p∈l,eE h σ (bc env p.1) p.2)->∀i,eE h σ (bc env i) (bc l i):=by
  intro l
  induction l with
  | nil=>intro _ i;exact .cg _
  | cons p l ω=>
   intro υ i;simp only[bc];split
   ·rename_i e;rw[<-e];exact υ p η
   ·exact ω (λq Χ=>υ q (by simp[Χ])) i
 refine hW Q mn x cs b _ _ H t U hb ⟨c1,λi=>(ς.b5 i).Ut ς.holds (r6 env' cU i),ς.size,by simp;omega⟩ (λj g3 gk cL eL bH t2 bG Ξ ah aR ca=>?_) (λa g3 gk cL eL bH t2 bG v Ξ ah aR ca iB=>?_)
 ·exact Μ j g3 gk cL eL bH t2 bG Ξ (κ.trans ah) aR ca
 ·exact he a g3 gk cL eL bH t2 bG v Ξ (κ.trans ah) aR ca iB
end
def fj (S:aD) (B:aP) (σ:List Row) (as9:List θ) (vs:Array Value):Prop:=as9.length=vs.size/\∀(i:Nat) (a:θ) (v:Value),as9[i]?=some a->vs[i]?=some v->au S B σ a v
structure ts (P:Program) (Q:Value->Prop) (mn:Bool) (x:gJ) (c:Frame) (rest:List Frame) (S:aD) (B:aP) (H:π) (σ:List Row) (K:θ->List Row->Prop) (E:θ->List Row->Prop):Prop where
 ret:∀(a:θ) (σ':List Row) (az:aD) (B':aP) (H':π) (v:Value),K a σ'->Ext S B H az B' H'->bQ S az B B' σ σ'->Holds az B' σ' H'->au az B' σ' a v->aE P Q mn x (c.finish v) rest H'
 xg:∀(a:θ) (σ':List Row) (az:aD) (B':aP) (H':π) (v:Value),E a σ'->Ext S B H az B' H'->bQ S az B B' σ σ'->Holds az B' σ' H'->au az B' σ' a v->aE P Q mn x (c.raise [{v,recovered:=false}]) rest H'
def Ml (P:Program) (Q:Value->Prop) (mn:Bool) (x:gJ) (c:Frame) (rest:List Frame):Next->π->Prop
 | .enter g as9,H=>aE P Q mn x (Frame.enter P g as9 .normal) (c::rest) H
 | .round l f wP B2 rP,H=>aE P Q mn x (Frame.round l f wP B2 rP .normal) (c::rest) H
 | .value v,H=>aE P Q mn x (c.finish v) rest H
 | _,_=>False
def hV (P:Program) (f:θ) (args:List θ) (σ:List Row) (K:θ->List Row->Prop) (E:θ->List Row->Prop):Prop:=
 ∀(Q:Value->Prop) (mn:Bool) (x:gJ) (c:Frame) (rest:List Frame) (S:aD) (B:aP) (H:π) (ag:Value) (vs:Array Value),Seq x->Holds S B σ H->au S B σ f ag->fj S B σ args vs->ts P Q mn x c rest S B H σ K E->
  ξ P (do let d <-Deferred.ofValue ag vs;invoke d.target d.args) H (Ml P Q mn x c rest) (λ_ _=>False)
def Plain (P:Program) (g:FuncId):Prop:=∃fn,P.funcs[g]?=some fn/\(fn.name == "runtime.NumGoroutine")=false/\fn.body.isNone=false
def ak (P:Program) (g:FuncId) (args:List θ) (σ:List Row) (K:θ->List Row->Prop) (E:θ->List Row->Prop):Prop:=
 Plain P g/\∀(Q:Value->Prop) (mn:Bool) (x:gJ) (c:Frame) (rest:List Frame) (S:aD) (B:aP) (H:π) (vs:Array Value),Seq x->Holds S B σ H->fj S B σ args vs->ts P Q mn x c rest S B H σ K E->
  aE P Q mn x (Frame.enter P g vs .normal) (c::rest) H
section
variable {P:Program} {T:a9} {A:List Nat} {m nt:Nat} {k:List Item} {env:ab} {σ:List Row} {Z:List Item->ab->List Row->Prop} {E:θ->List Row->Prop} {K:θ->List Row->Prop} {F:θ->ab->List Row->Prop}
theorem fj.append {S:aD} {B:aP} {as9 pN:List θ} {vs ws:Array Value} (h:fj S B σ as9 vs) (k:fj S B σ pN ws):fj S B σ (as9++pN) (vs++ws):=by
 refine⟨by simp[h.1,k.1],λi a v I R=>?_⟩;by_cases aI:i<as9.length
 ·rw[dv aI] at I;rw[Array.getElem?_append_left (by rw[<-h.1];exact aI)] at R;exact h.2 i a v I R
 ·rw[h4 γ] at I;rw[Array.getElem?_append_right (by rw[<-h.1];omega),<-h.1] at R;exact k.2 _ a v I R
theorem ak.mono {g:FuncId} {args:List θ} {K':θ->List Row->Prop} {E':θ->List Row->Prop} (h:ak P g args σ K E) (ζ:∀a s,K a s->K' a s) (df:∀a s,E a s->E' a s):ak P g args σ K' E':=
 ⟨h.1,λQ mn x c rest S B H vs U χ hv hb=>h.2 Q mn x c rest S B H vs U χ hv ⟨λa σ' az B' H' v ψ=>hb.ret a σ' az B' H' v (ζ _ _ ψ),λa σ' az B' H' v ψ=>hb.xg a σ' az B' H' v (df _ _ ψ)⟩⟩
theorem hV.mono {f:θ} {args:List θ} {K':θ->List Row->Prop} {E':θ->List Row->Prop} (h:hV P f args σ K E) (ζ:∀a s,K a s->K' a s) (df:∀a s,E a s->E' a s):hV P f args σ K' E':=
 λQ mn x c rest S B H ag vs U χ Υ hv hb=>h Q mn x c rest S B H ag vs U χ Υ hv ⟨λa σ' az B' H' v ψ=>hb.ret a σ' az B' H' v (ζ _ _ ψ),λa σ' az B' H' v ψ=>hb.xg a σ' az B' H' v (df _ _ ψ)⟩
theorem ak.call {g:FuncId} {first args captured:List θ} (h:ak P g (first++args++captured) σ K E):hV P (.fn (.func g) first captured) args σ K E:=by
 intro Q mn x c rest S B H ag vs U χ Υ hv hb;cases Υ with
 | fn v1 v2 I R ν Ι=>
  refine ξ.bind' (ξ.pure' ?_);obtain⟨⟨fn,cf,oN,C4⟩,GM⟩:=h;unfold invoke;simp only;unfold callFunc;refine ξ.bind' ?_;show ξ P (match P.funcs[g]? with|none=>_|some fn=>_) H _ _;rw[cf];simp only[oN,C4,Bool.false_eq_true,if_false];refine ξ.pure' ?_;have r1:fj S B σ first v1:=⟨I,ν⟩
  have r2:fj S B σ captured v2:=⟨R,Ι⟩;exact GM Q mn x c rest S B H _ U χ ((r1.append hv).append r2) hb
def fl (env:ab) (ops:Array Oper) (o:Oper):Option Bool:=match o.guard with
 | none=>some true
 | some (j,want)=>match (ops[j]?).bind (·.dst) with
  | some d=>match bc env d with
   | .z (.bool b)=>some (b==want)
   | _=>none
  | none=>none
theorem j6 {S:aD} {B:aP} {t:Array Value} (h:cX S B σ env t) {ops:Array Oper} {o:Oper} {w:Bool} (hw:fl env ops o=some w):Region.wanted o (yielded ops t)=w:=by
 unfold fl at hw;unfold Region.wanted;split at hw
 ·rename_i Ο;rw[Ο];cases hw;rfl
 ·rename_i j want Ο;rw[Ο];split at hw
  ·rename_i d hd;split at hw
   ·rename_i b hb;cases hw;have ι:=h d;rw[hb] at ι;unfold yielded;rw[Array.getD_eq_getD_getElem?] at ι;cases Ν:t[d]? with
    | none=>rw[Ν] at ι;cases ι
    | some v=>
     rw[Ν] at ι;simp only[Option.getD_some] at ι;cases ι;simp only[hd,Option.bind_some,Ν];cases b<;>cases want<;>rfl
   ·cases hw
  ·cases hw
def b6 (o:Oper) (env:ab) (a:θ):ab:=match o.dst with|some d=>(d,a)::env|none=>env
def g4 (nt:Nat) (o:Oper):Bool:=match o.dst with|some d=>decide (d<nt)|none=>true
theorem q1 {S:aD} {B:aP} {t:Array Value} (h:cX S B σ env t) {o:Oper} (hd:g4 nt o=true) (Ν:t.size=nt) {a:θ} {v:Value} (κ:au S B σ a v):cX S B σ (b6 o env a) (put o t v)/\(put o t v).size=nt:=by
 unfold b6 put;unfold g4 at hd;cases q2:o.dst with
 | none=>exact⟨h,Ν⟩
 | some d=>
  rw[q2] at hd;simp only[decide_eq_true_eq] at hd;exact⟨h.put (by rw[Ν];exact hd) κ,by simp[Ν]⟩
theorem W.unwanted {ops:Array Oper} {i:Nat} {o:Oper} {rest:List Nat} (Α:ops[i]?=some o) (hw:fl env ops o=some false) (hd:g4 nt o=true) (h:W P m nt (.inRegion ops rest::k) (b6 o env .cg) σ Z F):W P m nt (.inRegion ops (i::rest)::k) env σ Z F:=
 λQ mn x cs b S B H t U hb ς Μ he=>by
 obtain⟨s1,s2⟩:=q1 ς.b5 hd ς.size (a:=.cg) (v:=undef) (.cg _);exact .unwanted U hb Α (j6 ς.b5 hw) (h Q mn x cs b S B H _ U hb ⟨ς.holds,s1,s2,ς.rows⟩ Μ he)
theorem W.op (Η:bT P T) {ops:Array Oper} {i:Nat} {o:Oper} {rest:List Nat} (Α:ops[i]?=some o) (hw:fl env ops o=some true) (hd:g4 nt o=true) (kR:∀c,o.op≠.defer c)
  (h:((iZ T A env o).or σ (hU T A env σ o)).holds λa σ'=>W P m nt (.inRegion ops rest::k) (b6 o env a) σ' Z F):W P m nt (.inRegion ops (i::rest)::k) env σ Z F:=
 λQ mn x cs b S B H t U hb ς Μ he=>by
 refine .op U hb Α (j6 ς.b5 hw) (.inr kR) ?_;have Uu:=cu.Ul (Ur (A:=A) Η ς.holds ς.b5 o) (Us (A:=A) Η ς.holds ς.b5 o);refine ξ.mono (λdS H' ⟨v,hv,az,B',σ',a,ζ,oO,ij,υ,ι⟩=>?_) (λ_ _ h=>h.elim) _ (Uu _ h);obtain⟨s1,s2⟩:=q1 (ς.b5.later υ) hd ς.size ι;have κ:eO m S B H σ az B' H' σ':=.of oO υ;have fin:aE P Q mn x (ax b (put o t v) (.inRegion ops rest::k)) cs H':=
  ζ Q mn x cs b az B' H' _ U hb ⟨ij,s1,s2,Nat.le_trans ς.rows υ.length⟩ (λj g3 gk cL eL bH t2 bG Ξ ah aR ca=>Μ j g3 gk cL eL bH t2 bG Ξ (κ.trans ah) aR ca)
   (λa2 g3 gk cL eL bH t2 bG v2 Ξ ah aR ca iB=>he a2 g3 gk cL eL bH t2 bG v2 Ξ (κ.trans ah) aR ca iB)
 cases dS<;>simp only[Lx,reduceCtorEq,Option.some.injEq] at hv<;>first|(subst hv;exact fin)|skip
theorem W.call {ops:Array Oper} {i:Nat} {o:Oper} {rest:List Nat} (Α:ops[i]?=some o) (hw:fl env ops o=some true) (hd:g4 nt o=true) {f:Operand} {args:Array Operand} {ej:Array TypeId} (Κ:o.op=.call ⟨.value f,args,ej⟩)
  (h:hV P (aM env f) (args.toList.map (aM env)) σ (λa σ'=>W P m nt (.inRegion ops rest::k) (b6 o env a) σ' Z F) (λa s=>F a env s)):W P m nt (.inRegion ops (i::rest)::k) env σ Z F:=
 λQ mn x cs b S B H t U hb ς Μ he=>by
 refine .op U hb Α (j6 ς.b5 hw) (.inr λc=>by rw[Κ];simp) ?_;have nI:fj S B σ (args.toList.map (aM env)) (args.map (br t)):=by
  refine⟨η,λi a v I R=>?_⟩;rw[List.getElem?_map,Array.getElem?_toList] at I;rw[Array.getElem?_map] at R;cases U:args[i]? with
  | none=>rw[U] at I;cases I
  | some y=>rw[U] at I R;cases I;cases R;exact lB ς.b5 y
 have GM:=h Q mn x (ax b t (.inRegion ops (i::rest)::k)) cs S B H (br t f) (args.map (br t)) U ς.holds (lB ς.b5 f) nI ⟨λa σ' az B' H' v ζ oO υ ij ι=>?_,λa σ' az B' H' v df oO υ ij ι=>?_⟩
 ·have e:execOp (br t) o=(do let d <-Deferred.ofValue (br t f) (args.map (br t));invoke d.target d.args):=by unfold execOp;rw[Κ];rfl
  rw[e];refine ξ.mono (λdS H' Ε=>?_) (λ_ _ h=>h.elim) _ GM;cases dS<;>first|exact Ε.elim|exact Ε|skip
  rename_i v;have:=ie (b:=b) (t:=t) (k:=k) (v:=v) Α (rest:=rest);simp only[Ml] at Ε;rw[this] at Ε;exact Ε
 ·obtain⟨s1,s2⟩:=q1 (ς.b5.later υ) hd ς.size ι;have κ:eO m S B H σ az B' H' σ':=.of oO υ;rw[ie Α];exact ζ Q mn x cs b az B' H' _ U hb ⟨ij,s1,s2,Nat.le_trans ς.rows υ.length⟩ (λj g3 gk cL eL bH t2 bG Ξ ah aR ca=>Μ j g3 gk cL eL bH t2 bG Ξ (κ.trans ah) aR ca)
   (λa2 g3 gk cL eL bH t2 bG v2 Ξ ah aR ca iB=>he a2 g3 gk cL eL bH t2 bG v2 Ξ (κ.trans ah) aR ca iB)
 ·have:=he a env σ' az B' H' t (.inRegion ops (i::rest)::k) v df (.of oO υ) ij (ς.b5.later υ) ι
  have e:(ax b t (.inRegion ops (i::rest)::k)).raise [{v,recovered:=false}]={ax b t (.inRegion ops (i::rest)::k) with mode:=.panicking [{v,recovered:=false}]}:=by simp[Frame.raise,ax,hb]
  rw[e];exact this
theorem W.panic {ops:Array Oper} {i:Nat} {o:Oper} {rest:List Nat} (Α:ops[i]?=some o) (hw:fl env ops o=some true) {y:Operand} (Κ:o.op=.panic y) {ty:TypeId} {a:θ} (Φ:aM env y=.fJ ty a) (h:F (.fJ ty a) env σ):W P m nt (.inRegion ops (i::rest)::k) env σ Z F:=
 λQ mn x cs b S B H t U hb ς Μ he=>by
 refine .op U hb Α (j6 ς.b5 hw) (.inr λc=>by rw[Κ];simp) ?_;have ι:=lB ς.b5 y;have e:execOp (br t) o=(do pure (.value (<-Instr.panic (br t y)))):=by unfold execOp;rw[Κ]
 rw[e];rw[Φ] at ι;generalize hv:br t y=v at ι;refine ξ.bind' ?_;cases ι with
 | fJ fc I=>exact he (.fJ ty a) env σ S B H t _ _ h .refl ς.holds ς.b5 (.fJ fc I)
end
def vc (P:Program) (T:a9) (A:List Nat) (env:ab) (o:Oper) (σ:List Row) (K:θ->List Row->Prop) (E:θ->ab->List Row->Prop):Prop:=match o.op with
 | .call ⟨.value f,args,_⟩=>hV P (aM env f) (args.toList.map (aM env)) σ K (λa s=>E a env s)
 | .panic y=>match aM env y with|.fJ t a=>E (.fJ t a) env σ|_=>False
 | .defer _=>False
 | _=>((iZ T A env o).or σ (hU T A env σ o)).holds K
def iC (w:Bool) (a b:Prop):Prop:=(w=false->a)/\(w=true->b)
theorem Uv {a b:Prop}:iC true a b=b:=by simp[iC]
theorem Uw {a b:Prop}:iC false a b=a:=by simp[iC]
theorem Ux {w w':Bool} {a b:Prop} (h:w=w'):iC w a b=iC w' a b:=by rw[h]
def gL {α:Type} (x:Option α) (f:α->Prop):Prop:=match x with|none=>False|some a=>f a
theorem Uy {α:Type} {a:α} {f:α->Prop}:gL (some a) f=f a:=Eq.trans rfl rfl
theorem Uz {α:Type} {f:α->Prop}:gL none f=False:=rfl
theorem UA {α:Type} {x de:Option α} {f:α->Prop} (h:x=de):gL x f=gL de f:=by rw[h]
theorem UB {K:θ->List Row->Prop} {r r':cH} (h:r=r'):r.holds K=r'.holds K:=by rw[h]
theorem or_congr {r r':cu} {σ:List Row} {s:cH} (h:r=r'):r.or σ s=r'.or σ s:=by rw[h]
def run (P:Program) (T:a9) (A:List Nat) (nt:Nat) (ops:Array Oper):List Nat->ab->List Row->(ab->List Row->Prop)->(θ->ab->List Row->Prop)->Prop
 | [],env,σ,K,_=>K env σ
 | i::is,env,σ,K,E=>gL ops[i]? λo=>g4 nt o=true/\gL (fl env ops o) λw=>
   iC w (run P T A nt ops is (b6 o env .cg) σ K E) (vc P T A env o σ (λa σ'=>run P T A nt ops is (b6 o env a) σ' K E) E)
def Mm (P:Program) (T:a9) (A:List Nat) (nt:Nat) (ops:Array Oper) (is:List Nat) (o:Oper) (env:ab) (K:ab->List Row->Prop) (E:θ->ab->List Row->Prop) (a:θ) (σ':List Row):Prop:=run P T A nt ops is (b6 o env a) σ' K E
theorem q3 {P:Program} {T:a9} {A:List Nat} {nt:Nat} {ops:Array Oper} {env:ab} {σ:List Row} {K:ab->List Row->Prop} {E:θ->ab->List Row->Prop}:run P T A nt ops [] env σ K E=K env σ:=Eq.trans rfl rfl
theorem ae {P:Program} {T:a9} {A:List Nat} {nt:Nat} {ops:Array Oper} {i:Nat} {is:List Nat} {env:ab} {σ:List Row} {K:ab->List Row->Prop} {E:θ->ab->List Row->Prop} :
  run P T A nt ops (i::is) env σ K E=gL ops[i]? λo=>g4 nt o=true/\gL (fl env ops o) λw=>
   iC w (run P T A nt ops is (b6 o env .cg) σ K E) (vc P T A env o σ (Mm P T A nt ops is o env K E) E):=Eq.trans rfl rfl
theorem UC {P:Program} {T:a9} {A:List Nat} {nt:Nat} {ops:Array Oper} {is:List Nat} {o:Oper} {env:ab} {σ:List Row} {K:ab->List Row->Prop} {E:θ->ab->List Row->Prop} {a:θ}:Mm P T A nt ops is o env K E a σ=run P T A nt ops is (b6 o env a) σ K E:=Eq.trans rfl rfl
section
variable {P:Program} {T:a9} {A:List Nat} {m nt:Nat} {k:List Item} {env:ab} {σ:List Row} {Z:List Item->ab->List Row->Prop} {E:θ->ab->List Row->Prop} {K:θ->List Row->Prop}
theorem W.bJ {ops:Array Oper} (h:W P m nt k env σ Z E):W P m nt (.inRegion ops []::k) env σ Z E:=λQ mn x cs b S B H t U hb ς Μ he=>.bJ U hb (h Q mn x cs b S B H t U hb ς Μ he)
theorem Mn (Η:bT P T) {ops:Array Oper} (j7:List Nat):∀(is:List Nat) (env:ab) (σ:List Row),run P T A nt ops is env σ (λenv σ=>W P m nt (.inRegion ops j7::k) env σ Z E) E->W P m nt (.inRegion ops (is++j7)::k) env σ Z E:=by
 intro is
 induction is with
 | nil=>intro env σ h;exact h
 | cons i is ω=>
  intro env σ h;unfold run gL at h;split at h
  ·exact h.elim
  ·rename_i o Α;obtain⟨hd,h⟩:=h;split at h
   ·exact h.elim
   rename_i w hw;unfold iC at h;cases w
   ·exact .unwanted Α hw hd (ω _ _ (h.1 rfl))
   ·replace h:=h.2 rfl
    unfold vc at h;split at h
    ·rename_i f args ej Κ;exact .call Α hw hd Κ (h.mono (λa s h=>ω _ _ h) (λ_ _ h=>h))
    ·rename_i y Κ;split at h
     ·rename_i ty a Φ;exact .panic Α hw Κ Φ h
     ·exact h.elim
    ·exact h.elim
    ·rename_i I R ν;refine .op (A:=A) Η Α hw hd (λc ε=>ν c ε) ?_;generalize (iZ T A env o).or σ (hU T A env σ o)=r at h;have key:∀r:cH,r.holds (λa σ'=>run P T A nt ops is (b6 o env a) σ' (λenv σ=>W P m nt (.inRegion ops j7::k) env σ Z E) E)->r.holds λa σ'=>W P m nt (.inRegion ops (is++j7)::k) (b6 o env a) σ' Z E:=by
      intro r
      induction r with
      | ok a s=>exact λh=>ω _ _ h
      | bX p r me=>exact λh=>⟨h.1,me h.2⟩
      | all n f me=>exact λh i hi=>me i (h i hi)
      | bad=>exact λh=>h
     exact key r h
theorem cH.UD {K K':θ->List Row->Prop} (ζ:∀a s,K a s->K' a s):∀r:cH,r.holds K->r.holds K':=by
 intro r
 induction r with
 | ok a s=>exact λh=>ζ _ _ h
 | bX p r ω=>exact λh=>⟨h.1,ω h.2⟩
 | all n f ω=>exact λh i hi=>ω i (h i hi)
 | bad=>exact λh=>h
theorem UE {env:ab} {o:Oper} {K K':θ->List Row->Prop} (ζ:∀a s,K a s->K' a s) (h:vc P T A env o σ K E):vc P T A env o σ K' E:=by
 unfold vc at h ⊢;split
 ·rename_i f args ej Κ;rw[Κ] at h;exact hV.mono h ζ λ_ _ h=>h
 ·rename_i y Κ;rw[Κ] at h;exact h
 ·rename_i Κ;rw[Κ] at h;exact h
 ·rename_i I R ν;split at h
  ·rename_i f args ej Κ;exact absurd Κ (I f args ej)
  ·rename_i y Κ;exact absurd Κ (R y)
  ·rename_i y Κ;exact absurd Κ (ν y)
  ·exact cH.UD ζ _ h
theorem GN {ops:Array Oper} {nt:Nat} {K K':ab->List Row->Prop} (ζ:∀e s,K e s->K' e s):∀(is:List Nat) (env:ab) (σ:List Row),run P T A nt ops is env σ K E->run P T A nt ops is env σ K' E:=by
 intro is
 induction is with
 | nil=>intro env σ h;exact ζ _ _ h
 | cons i is ω=>
  intro env σ h;unfold run gL at h ⊢;cases Α:ops[i]? with
  | none=>rw[Α] at h;exact h.elim
  | some o=>
   rw[Α] at h;simp only at h ⊢;refine⟨h.1,?_⟩
   replace h:=h.2
   cases hw:fl env ops o with
   | none=>rw[hw] at h;exact h.elim
   | some w=>
    rw[hw] at h;unfold iC at h ⊢;exact⟨λe=>ω _ _ (h.1 e),λe=>UE (λa s=>ω _ _) (h.2 e)⟩
theorem UF (Η:bT P T) {ops:Array Oper} (is:List Nat) (env:ab) (σ:List Row) (h:run P T A nt ops is env σ (λenv σ=>W P m nt k env σ Z E) E):W P m nt (.inRegion ops is::k) env σ Z E:=by
 have:=Mn (A:=A) Η [] is env σ (ops:=ops) (k:=k) (Z:=Z) (E:=E) (P:=P) (m:=m) (nt:=nt);rw[List.append_nil] at this;refine this ?_;have mono:∀(is:List Nat) (env:ab) (σ:List Row) (K K':ab->List Row->Prop),(∀e s,K e s->K' e s)->run P T A nt ops is env σ K E->run P T A nt ops is env σ K' E:=λis env σ K K' ζ h=>GN ζ is env σ h;exact mono is env σ _ _ (λe s h=>.bJ h) h
def idx:Nat->List Nat->List Nat
 | 0,l=>l
 | n+1,l=>idx n (n::l)
theorem idx_eq (n:Nat):idx n []=List.range n:=by
 have:∀(n:Nat) (l:List Nat),idx n l=List.range.loop n l:=by
  intro n
  induction n with
  | zero=>intro l;rfl
  | succ n ω=>intro l;exact ω _
 exact this n []
theorem cR (Η:bT P T) {id:Nat} {ops:Array Oper} (h:∀Δ:ab->List Row->Prop,(∀env σ,W P m nt k env σ Z E->Δ env σ)->run P T A nt ops (idx ops.size []) env σ Δ E):W P m nt (.code (.region id ops false)::k) env σ Z E:=
 λQ mn x cs b S B H t U hb ς Μ he=>.region U hb (UF Η _ _ _ (by rw[<-idx_eq];exact h _ λ_ _ h=>h) Q mn x cs b S B H t U hb ς Μ he)
theorem W.forget (env':ab) (cU:∀p∈env',bc env p.1=p.2) (h:W P m nt k env' σ Z E):W P m nt k env σ Z E:=
 λQ mn x cs b S B H t U hb ς Μ he=>by
 have r6:∀(l:ab),(∀p∈l,bc env p.1=p.2)->∀i,bc l i=.cg\/bc l i=bc env i:=by
  intro l
  induction l with
  | nil=>intro _ i;exact .inl rfl
  | cons p l ω=>
   intro υ i;simp only[bc];split
   ·rename_i e;subst e;exact .inr (υ p η).symm
   ·exact ω (λq Χ=>υ q (by simp[Χ])) i
 refine h Q mn x cs b S B H t U hb ⟨ς.holds,λi=>?_,ς.size,ς.rows⟩ Μ he;rcases r6 env' cU i with e|e
 ·rw[e];exact .cg _
 ·rw[e];exact ς.b5 i
theorem W.r7 (Η:bT P T) (env':ab) {id:Nat} {ops:Array Oper} (h:W P m nt k env' σ Z E) (ι:run P T A nt ops (idx ops.size []) env σ (λe s=>s=σ/\∀p∈env',bc e p.1=p.2) E):W P m nt (.code (.region id ops false)::k) env σ Z E:=
 cR Η λΔ ζ=>GN (λe s ⟨I,R⟩=>ζ e s (I▸W.forget env' R h)) _ _ _ ι
def r8 (i:hR) (l:List θ):Option θ:=if i.agg then(if i.size<=l.length then some (.a6 (l.take i.size)) else none) else l.head?
def xh (T:a9) (ty:TypeId) (σ:List Row):θ->Option θ
 | .aa cells=>match T ty with|some i=>r8 i cells|none=>none
 | .an id n i j=>match T ty,σ[id]? with
  | some kM,some (.cells _ _ l)=>if l.length=n then match l[i]? with
   | some e=>r8 kM (e.cells.drop j)
   | none=>none else none
  | _,_=>none
 | _=>none
def q4 (T:a9) (env:ab) (σ:List Row):ResultVar->Option θ
 | .tmp t=>some (bc env t)
 | .cell a ty=>xh T ty σ (bc env a)
def zu:List θ->θ
 | [a]=>a
 | l=>.a3 l
def nJ (T:a9) (rs:List ResultVar) (env:ab) (σ:List Row):Option θ:=(rs.mapM (q4 T env σ)).map zu
theorem Mo {i:hR} {l:List θ} {v:θ} (h:r8 i l=some v):qS i l=.ok v:=by
 unfold r8 at h;unfold qS;cases y':i.agg with
 | true=>
  rw[y'] at h;simp only[if_true] at h ⊢;split at h
  ·rename_i hle;cases h;rw[if_pos hle]
  ·cases h
 | false=>
  rw[y'] at h;simp only[Bool.false_eq_true,if_false] at h ⊢;cases l with
  | nil=>cases h
  | cons a l=>cases h;rfl
theorem UG (Η:bT P T) {S:aD} {B:aP} {H:π} (χ:Holds S B σ H) {ty:TypeId} {a v:θ} {w:Value} (h:xh T ty σ a=some v) (ι:au S B σ a w):cD P (do loadVar ty (<-asAddr w)) S B H σ (.ok v σ):=by
 unfold xh at h;split at h
 ·rename_i cells;split at h
  ·rename_i i hi;cases ι with
   | aa b o w I R=>
    have:=Cb Η χ hi w (λj a δ=>χ.dc _ _ _ (I j a δ)) R;rw[Mo h] at this;exact this
  ·cases h
 ·rename_i id n i j;split at h
  ·rename_i kM t k l hi υ;split at h
   ·rename_i Ε;split at h
    ·rename_i e he;cases ι with
     | an I R ν=>
      rw[υ] at I;cases I;obtain⟨ψ,w,hw⟩:=Ly χ υ ν he;have:=Cb Η χ hi (l:=e.cells.drop j) (b:=_) (o:=i*k+j) (λx=>w (j+x)) (λx a U=>⟨true,by
       rw[List.getElem?_drop] at U;rw[Nat.add_assoc];exact(hw _ a U).1⟩) (λx a U=>by
       rw[List.getElem?_drop] at U;exact(hw _ a U).2.1)
      rw[Mo h] at this;exact this
     | jG v I R=>rw[υ] at I;cases I;simp only[Row.g1] at R;omega
    ·cases h
   ·cases h
  ·cases h
 ·cases h
theorem zv (Η:bT P T) {fn:Func} {a:θ} (h:nJ T fn.results.toList env σ=some a) {S:aD} {B:aP} {H:π} {t:Array Value} (χ:Holds S B σ H) (μ:cX S B σ env t) :
  ξ P (results fn t) H (λv H'=>∃az B',Ext S B H az B' H'/\bQ S az B B' σ σ/\Holds az B' σ H'/\au az B' σ a v) (λ_ _=>False):=by
 let f:ResultVar->Sem Value:=λr=>match r with
  | .tmp x=>pure (t.getD x undef)
  | .cell a ty=>do loadVar ty (<-asAddr (t.getD a undef))
 have key:∀(rs:List ResultVar) (as9:List θ) (S:aD) (B:aP) (H:π),rs.mapM (q4 T env σ)=some as9->Holds S B σ H->cX S B σ env t->
   ξ P (rs.mapM f) H (λvs H'=>∃az B',Ext S B H az B' H'/\bQ S az B B' σ σ/\Holds az B' σ H'/\as9.length=vs.length/\∀(i:Nat) (a:θ) (v:Value),as9[i]?=some a->vs[i]?=some v->au az B' σ a v) (λ_ _=>False):=by
  intro rs
  induction rs with
  | nil=>intro as9 S B H h χ _;simp at h;subst h;exact ξ.pure' ⟨S,B,.refl _ _ _,.refl _ _ _,χ,rfl,λi a v hi=>by simp at hi⟩
  | cons r rs ω=>
   intro as9 S B H h χ μ;rw[List.mapM_cons] at h ⊢;cases ι:q4 T env σ r with
   | none=>rw[ι] at h;cases h
   | some a=>
    rw[ι] at h;simp only[Option.bind_eq_bind,Option.bind_some] at h;cases Ο:rs.mapM (q4 T env σ) with
    | none=>rw[Ο] at h;cases h
    | some l2=>
     rw[Ο] at h;cases h;have step:ξ P (f r) H (λv H'=>∃az B',Ext S B H az B' H'/\bQ S az B B' σ σ/\Holds az B' σ H'/\au az B' σ a v) (λ_ _=>False):=by
      cases r with
      | tmp x=>simp only[q4,Option.some.injEq] at ι;subst ι;exact ξ.pure' ⟨S,B,.refl _ _ _,.refl _ _ _,χ,μ x⟩
      | cell x ty=>
       refine ξ.mono (λv H' ⟨az,B',σ',bP,⟨I,R⟩,ν,Ι,aB,bn⟩=>?_) (λ_ _ h=>h) _ (UG Η χ ι (μ x) (λbP bq=>bP=a/\bq=σ) ⟨rfl,rfl⟩);subst I;subst R;exact⟨az,B',ν,aB,Ι,bn⟩
     refine ξ.bind' (ξ.mono (λv H1 ⟨bz,bB,Γ,l1,I,r1⟩=>?_) (λ_ _ h=>h) _ step);refine ξ.bind' (ξ.mono (λvs bH ⟨cL,eL,Θ,Mp,R,fT,r2⟩=>?_) (λ_ _ h=>h) _ (ω l2 bz bB H1 Ο I (μ.later l1)));refine ξ.pure' ⟨cL,eL,Γ.trans Θ,l1.trans Mp,R,by simp[fT],λi bP fc hi hv=>?_⟩
     match i with
     | 0=>simp at hi hv;subst hi;subst hv;exact r1.later Mp
     | i+1=>simp at hi hv;exact r2 i bP fc hi hv
 unfold nJ at h;cases hm:fn.results.toList.mapM (q4 T env σ) with
 | none=>rw[hm] at h;cases h
 | some as9=>
  rw[hm] at h;cases h;have ψ:=key fn.results.toList as9 S B H hm χ μ;unfold results;rw[Array.mapM_eq_mapM_toList];refine ξ.bind' ?_;refine ξ.bind (fn.results.toList.mapM f) (ξ.mono (λvs H1 ⟨bz,bB,Γ,l1,I,iR,r1⟩=>?_) (λ_ _ h=>h) _ ψ);refine ξ.pure' ?_;refine ξ.pure' ⟨bz,bB,Γ,l1,I,?_⟩;by_cases Ε:vs.toArray.size=1
  ·rw[dif_pos Ε];have vd:vs.length=1:=by simpa using Ε
   obtain⟨v,rfl⟩:=List.length_eq_one_iff.1 vd;obtain⟨a,rfl⟩:=List.length_eq_one_iff.1 (iR.trans vd);exact r1 0 a v rfl rfl
  ·rw[dif_neg Ε];have vd:as9.length≠1:=by rw[iR];simpa using Ε
   have:zu as9=.a3 as9:=by
    match as9 with
    | []=>rfl
    | [a]=>simp at vd
    | a::b::l=>rfl
   rw[this];exact .a3 _ (by simpa using iR) λi a v hi hv=>r1 i a v hi (by simpa using hv)
def entry:Nat->List θ->ab
 | _,[]=>[]
 | i,a::as9=>(i,a)::entry (i+1) as9
theorem Mq {S:aD} {B:aP} {as9:List θ} {vs:Array Value} (h:fj S B σ as9 vs) (n:Nat):cX S B σ (entry 0 as9) (vs++Array.replicate n undef):=by
 have key:∀(l:List θ) (j i:Nat),bc (entry j l) i=if j<=i then(l[i-j]?).getD .cg else .cg:=by
  intro l
  induction l with
  | nil=>intro j i;simp[entry,bc]
  | cons a l ω=>
   intro j i;simp only[entry,bc];by_cases e:j=i
   ·subst e;simp
   ·rw[if_neg e,ω];by_cases hle:j<=i
    ·rw[if_pos γ,if_pos hle];have:i-j=(i-(j+1))+1:=γ;rw[this,List.getElem?_cons_succ]
    ·rw[if_neg γ,if_neg hle]
 intro i;rw[key,if_pos (Nat.zero_le _),Nat.sub_zero];by_cases aI:i<as9.length
 ·have κ:=ba aI;rw[κ];have hv:i<vs.size:=by rw[<-h.1];exact aI
  rw[Array.getD_eq_getD_getElem?,Array.getElem?_append_left hv];exact h.2 i _ _ κ (by rw[gF hv];rfl)
 ·rw[List.getElem?_eq_none γ];exact .cg _
def Ends (T:a9) (rs:List ResultVar) (K:θ->List Row->Prop) (j:List Item) (env:ab) (σ:List Row):Prop:=match j with
 | []=>∃a,nJ T rs env σ=some a/\K a σ
 | .code .ret::_=>∃a,nJ T rs env σ=some a/\K a σ
 | _=>False
theorem ak.UH {F:θ->List Row->Prop} (Η:bT P T) {g:FuncId} {fn:Func} {body:Code} (cf:P.funcs[g]?=some fn) (m6:fn.body=some body) (u4:(fn.name == "runtime.NumGoroutine")=false) {args:List θ} (hlen:args.length<=fn.ntmps)
  (h:W P σ.length fn.ntmps [.code body] (entry 0 args) σ (Ends T fn.results.toList K) (λa _ s=>F a s)):ak P g args σ K F:=by
 refine⟨⟨fn,cf,u4,by rw[m6];rfl⟩,λQ mn x c rest S B H vs U χ hv hb=>?_⟩;have nK:∀{α:Type} (l:List α),l.length=σ.length->l.take σ.length=l:=λl υ=>List.take_of_length_le γ;have fa:Frame.enter P g vs .normal=ax (Frame.enter P g vs .normal) (vs++Array.replicate (fn.ntmps-vs.size) undef) [.code body]:=by
  simp[Frame.enter,ax,cf,m6]
 rw[fa];have cC:(vs++Array.replicate (fn.ntmps-vs.size) undef).size=fn.ntmps:=by
  have:=hv.1;simp;omega
 refine h Q mn x (c::rest) _ S B H _ U rfl ⟨χ,Mq hv _,cC,Nat.le_refl _⟩ (λj env' σ' az B' H' t' af Μ κ ς υ=>?_) (λa env' σ' az B' H' t' af v df κ ij _ ι=>?_)
 ·have GO:bQ S az B B' σ σ':=by
   have:=κ.later
   rwa [nK B χ.len,nK σ rfl] at this
  have fin:(∃a,nJ T fn.results.toList env' σ'=some a/\K a σ')->aE P Q mn x {ax (Frame.enter P g vs .normal) t' af with mode:=.returning} (c::rest) H':=λ⟨a,I,R⟩=>by
   refine .back U rfl rfl (.inl rfl) cf ?_;refine ξ.mono (λv bH ⟨cL,eL,Θ,l2,ν,r2⟩=>?_) (λ_ _ h=>h) _ (zv Η I ς.holds ς.b5);exact hb.ret a σ' cL eL bH v R (κ.ext.trans Θ) (GO.trans l2) ν r2
  have:af=j:=υ;subst this;unfold Ends at Μ;split at Μ
  ·exact .rO U rfl rfl (fin Μ)
  ·exact .ret U rfl rfl (fin Μ)
  ·exact Μ.elim
 ·have GO:bQ S az B B' σ σ':=by
   have:=κ.later
   rwa [nK B χ.len,nK σ rfl] at this
  refine .raised U rfl rfl ?_ (hb.xg a σ' az B' H' v df κ.ext GO ij ι);simp[Frame.catches,ax,Frame.enter,cf]
end
section
variable {P:Program} {S az:aD} {B:aP} {H H':π} {σ:List Row}
theorem au.take {h:Nat} {a:θ} {v:Value} (ι:au S B σ a v) (hb:aK h a):au S (B.take h) (σ.take h) a v:=by
 have bh:∀{α:Type} (l:List α) (i:Nat),i<h->(l.take h)[i]?=l[i]?:=λl i hi=>List.getElem?_take_of_lt hi
 induction ι with
 | z v=>exact .z v
 | aa b o w I _ ω=>
  cases hb with
  | aa hb=>exact .aa b o w I λj a δ=>ω j a δ (hb a (cx δ))
 | ix base cap h=>exact .ix base cap h
 | sl b o cap w I R ν Ι _ ω=>
  cases hb with
  | sl hb=>exact .sl b o cap w I R ν Ι λi e hi j c δ=>ω i e hi j c δ (hb e (cx hi) c (cx δ))
 | a6 vs I _ ω=>
  cases hb with
  | a6 hb=>exact .a6 vs I λi a v hi hv=>ω i a v hi hv (hb a (cx hi))
 | a3 vs I _ ω=>
  cases hb with
  | a3 hb=>exact .a3 vs I λi a v hi hv=>ω i a v hi hv (hb a (cx hi))
 | an I R ν=>
  cases hb with
  | an hb=>exact .an (by rw[bh _ _ hb];exact I) R (by rw[bh _ _ hb];exact ν)
 | jG v I R=>
  cases hb with
  | an hb=>exact .jG v (by rw[bh _ _ hb];exact I) R
 | ms cap I R ν Ι aB bn=>
  cases hb with
  | ms hb=>exact .ms cap (by rw[bh _ _ hb];exact I) R (by rw[bh _ _ hb];exact ν) Ι aB bn
 | iY v I R=>
  cases hb with
  | ms hb=>exact .iY v (by rw[bh _ _ hb];exact I) R
 | fn vs ws I R _ _ rR me=>
  cases hb with
  | fn kN gv=>exact .fn vs ws I R (λi a v hi hv=>rR i a v hi hv (kN a (cx hi))) λi a v hi hv=>me i a v hi hv (gv a (cx hi))
 | fJ v _ ω=>
  cases hb with
  | fJ hb=>exact .fJ v (ω hb)
 | mp I R=>
  cases hb with
  | mp hb=>exact .mp (by rw[bh _ _ hb];exact I) (by rw[bh _ _ hb];exact R)
 | lA v I=>
  cases hb with
  | mp hb=>exact .lA v (by rw[bh _ _ hb];exact I)
 | it I R=>
  cases hb with
  | it hb=>exact .it (by rw[bh _ _ hb];exact I) (by rw[bh _ _ hb];exact R)
 | m0 v I=>
  cases hb with
  | it hb=>exact .m0 v (by rw[bh _ _ hb];exact I)
 | cg v=>exact .cg v
theorem au.any {a:θ} {v:Value} (ι:au S B σ a v) (hb:aK 0 a) (eL:aP) (gk:List Row):au S eL gk a v:=by
 have I:au S [] [] a v:=by simpa using ι.take hb
 exact I.later ⟨λ_ _ _ h=>h,λid r h=>by simp at h⟩
theorem Holds.bare (χ:Holds S B σ H):Holds S [] [] H:=
 ⟨χ.dc,rfl,λid r bo h=>by simp at h,λi j ef b8 b gh gi fZ h=>by simp at h,λid r b N h=>by simp at h⟩
theorem Holds.back (χ:Holds S B σ H) (he:Ext S [] H az [] H') (ao:Holds az [] [] H'):Holds az B σ H'/\Ext S B H az B H'/\bQ S az B B σ σ:=by
 have υ:bQ S az B B σ σ:=⟨he.dc,λid r h=>⟨r,h,r.rQ _⟩⟩
 have xi:∀b,¬aP.has ([]:aP) b:=λb ⟨N,h⟩=>by simp at h
 have a6:∀(id:Nat) (r:Row) (b N:Nat),σ[id]?=some r->r.live->B[id]?=some (some (b,N))->ky H H' b:=λid r b N I R ν=>(he.fH b (xi b) (χ.ny I R ν)).pA λo=>χ.sep id r b N I R ν o;refine⟨⟨ao.dc,χ.len,λid r bo ι ek=>?_,χ.inj,λid r b N ι e4 ek o=>?_⟩,⟨he.dc,λb _ Υ=>he.fH b (xi b) Υ,λb hb=>.inl hb,λb o v hv=>?_,he.grow⟩,υ⟩
 ·by_cases e4:r.live
  ·refine(χ.row id r bo ι ek).later υ (λb N e=>a6 id r b N ι e4 (by rw[ek,e])) λm left cur e=>?_;subst e;obtain⟨_,_,aU,kx,xs,clock,seen,_,I,⟨es,R⟩,_⟩:=χ.row id _ bo ι ek;exact⟨rfl,rfl,λb N hb=>a6 m _ b N R trivial hb⟩
  ·cases r<;>first|exact absurd trivial e4|trivial
 ·cases hv:az b o with
  | none=>rfl
  | some v=>
   rcases he.qQ b o v hv with h|h|h
   ·rw[χ.sep id r b N ι e4 ek o] at h;cases h
   ·exact absurd h (xi b)
   ·exact absurd h (χ.ny ι e4 ek)
 ·rcases he.qQ b o v hv with h|h|h
  ·exact .inl h
  ·exact absurd h (xi b)
  ·exact .inr (.inr h)
theorem ak.frame {g:FuncId} {args:List θ} {K:θ->Prop} {E:θ->Prop} (h:ak P g args [] (λa s=>K a/\aK 0 a/\s=[]) (λa s=>E a/\aK 0 a/\s=[])) (hb:∀a∈args,aK 0 a):ak P g args σ (λa s=>K a/\s=σ) (λa s=>E a/\s=σ):=by
 refine⟨h.1,λQ mn x c rest S B H vs U χ hv hX=>?_⟩;refine h.2 Q mn x c rest S [] H vs U χ.bare ⟨hv.1,λi a v I R=>(hv.2 i a v I R).any (hb a (cx I)) _ _⟩ ⟨λa σ' az B' H' v ⟨ψ,CA,μ⟩ he υ ij ι=>?_,λa σ' az B' H' v ⟨ψ,CA,μ⟩ he υ ij ι=>?_⟩
 all_goals
  subst μ;have e1:B'=[]:=dB.1 (by rw[ij.len];rfl);subst e1;obtain⟨dD,p2,p3⟩:=χ.back he ij
 ·exact hX.ret a σ az B H' v ⟨ψ,rfl⟩ p2 p3 dD (ι.any CA _ _)
 ·exact hX.xg a σ az B H' v ⟨ψ,rfl⟩ p2 p3 dD (ι.any CA _ _)
def zw (P:Program) (g:FuncId) (args:List θ) (r:θ):Prop:=ak P g args [] (λa s=>a=r/\s=[]) (λ_ _=>False)
theorem zw.call {g:FuncId} {first args captured:List θ} {r:θ} {K:θ->List Row->Prop} {E:θ->List Row->Prop} (h:zw P g (first++args++captured) r) (hb:∀a∈first++args++captured,aK 0 a) (ι:aK 0 r) (ζ:K r σ) :
  hV P (.fn (.func g) first captured) args σ K E:=by
 have I:ak P g (first++args++captured) [] (λa s=>a=r/\aK 0 a/\s=[]) (λa s=>False/\aK 0 a/\s=[]):=h.mono (λa s ⟨Γ,Θ⟩=>⟨Γ,Γ▸ι,Θ⟩) (λ_ _ h=>h.elim);exact ak.call ((I.frame (σ:=σ) hb).mono (λa s ⟨Γ,Θ⟩=>by subst Γ;subst Θ;exact ζ) (λ_ _ h=>h.1.elim))
end
theorem UI {h:Nat} {v:Value}:aK h (.z v)↔True:=⟨λ_=>trivial,λ_=>.z v⟩
theorem UJ {h:Nat}:aK h .cg↔True:=⟨λ_=>trivial,λ_=>.cg⟩
theorem UK {h:Nat} {l:List θ}:aK h (.aa l)↔∀a∈l,aK h a:=⟨λx=>by cases x;assumption,.aa⟩
theorem UL {h:Nat} {l:List θ}:aK h (.a6 l)↔∀a∈l,aK h a:=⟨λx=>by cases x;assumption,.a6⟩
theorem UM {h:Nat} {l:List θ}:aK h (.a3 l)↔∀a∈l,aK h a:=⟨λx=>by cases x;assumption,.a3⟩
theorem j8 {h:Nat} {ex:Bool} {k:Nat} {l:List θ}:aK h (.sl ex k l)↔∀e∈l,∀a∈e.cells,aK h a:=⟨λx=>by cases x;assumption,.sl⟩
theorem UN {h:Nat} {t:TypeId} {a:θ}:aK h (.fJ t a)↔aK h a:=⟨λx=>by cases x;assumption,.fJ⟩
theorem kS {h id n i j:Nat}:aK h (.an id n i j)↔id<h:=⟨λx=>by cases x;assumption,.an⟩
theorem r9 {h id n i j:Nat}:aK h (.ms id n i j)↔id<h:=⟨λx=>by cases x;assumption,.ms⟩
theorem sa {h id:Nat}:aK h (.mp id)↔id<h:=⟨λx=>by cases x;assumption,.mp⟩
theorem UO {h id:Nat}:aK h (.it id)↔id<h:=⟨λx=>by cases x;assumption,.it⟩
theorem hG {h:Nat} {f:Fn} {db cs:List θ}:aK h (.fn f db cs)↔(∀a∈db,aK h a)/\∀a∈cs,aK h a:=⟨λx=>by cases x;exact⟨by assumption,by assumption⟩,λx=>.fn x.1 x.2⟩
end Go.TL
