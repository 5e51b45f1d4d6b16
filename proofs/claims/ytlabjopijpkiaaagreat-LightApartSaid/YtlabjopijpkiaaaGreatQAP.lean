import Derived.Test.YtlabjopijpkiaaaGreatQAO
set_option maxHeartbeats 16000000
set_option maxRecDepth 20000
set_option linter.unusedSectionVars false
set_option linter.unusedSimpArgs false
set_option linter.unusedVariables false
namespace Go.TL
open Go.Conc
inductive az (h:Nat):θ→Prop where
 | z (v:Value):az h (.z v)
 | aa {l:List θ}:(∀a∈l,az h a)→az h (.aa l)
 | sl {ex:Bool} {k:Nat} {l:List θ}:(∀e∈l,∀a∈e.cells,az h a)→az h (.sl ex k l)
 | aU {l:List θ}:(∀a∈l,az h a)→az h (.aU l)
 | bt {l:List θ}:(∀a∈l,az h a)→az h (.bt l)
 | ag {id n i j:Nat}:id<h→az h (.ag id n i j)
 | ms {id n i len:Nat}:id<h→az h (.ms id n i len)
 | fn {f:Fn} {cV cs:List θ}:(∀a∈cV,az h a)→(∀a∈cs,az h a)→az h (.fn f cV cs)
 | fv {t:TypeId} {a:θ}:az h a→az h (.fv t a)
 | mp {id:Nat}:id<h→az h (.mp id)
 | it {id:Nat}:id<h→az h (.it id)
 | cp:az h .cp
def eN (h:Nat):Row→Prop
 | .cells _ _ l=>∀e∈l,∀a∈e.cells,az h a
 | .map es=>∀e∈es,az h e.1∧az h e.2
 | .iter m left cur=>m<h∧(∀e∈left,az h e.1∧az h e.2)∧∀e,cur=some e→az h e.1∧az h e.2
 | .dead=>True
inductive ey (h:Nat) (σ:List Row):θ→θ→Prop where
 | low {a:θ}:az h a→ey h σ a a
 | cp (a:θ):ey h σ a .cp
 | ms {id n i len k:Nat} {t:TypeId} {l dK:List θ}:h≤id→σ[id]?=some (.cells t k l)→l.length=n→i+len≤n→dK.length=len→
   (∀(j:Nat) (e aH:θ),l[i+j]?=some e→dK[j]?=some aH→aH.cells.length=e.cells.length)→(∀(j:Nat) (e aH:θ),l[i+j]?=some e→dK[j]?=some aH→∀(x:Nat) (a b9:θ),e.cells[x]?=some a→aH.cells[x]?=some b9→ey h σ a b9)→ey h σ (.ms id n i len) (.sl false k dK)
 | ag {id n i j k:Nat} {t:TypeId} {l cs:List θ} {e:θ}:h≤id→σ[id]?=some (.cells t k l)→l.length=n→l[i]?=some e→cs.length≤e.cells.length-j→
   (∀(x:Nat) (a b9:θ),e.cells[j+x]?=some a→cs[x]?=some b9→ey h σ a b9)→ey h σ (.ag id n i j) (.aa cs)
 | aU {l dK:List θ}:dK.length=l.length→(∀(x:Nat) (a b9:θ),l[x]?=some a→dK[x]?=some b9→ey h σ a b9)→ey h σ (.aU l) (.aU dK)
 | bt {l dK:List θ}:dK.length=l.length→(∀(x:Nat) (a b9:θ),l[x]?=some a→dK[x]?=some b9→ey h σ a b9)→ey h σ (.bt l) (.bt dK)
 | fn {f:Fn} {cV Gc cs cs':List θ}:Gc.length=cV.length→cs'.length=cs.length→(∀(x:Nat) (a b9:θ),cV[x]?=some a→Gc[x]?=some b9→ey h σ a b9)→(∀(x:Nat) (a b9:θ),cs[x]?=some a→cs'[x]?=some b9→ey h σ a b9)→ey h σ (.fn f cV cs) (.fn f Gc cs')
section
variable {S:aA} {B:aN} {H:ψ} {σ:List Row} {h:Nat}
def Late (B:aN) (σ:List Row) (h b:Nat):Prop:=∃id t k l N,h≤id∧σ[id]?=some (Row.cells t k l)∧B[id]?=some (some (b,N))
open Classical in
noncomputable def aA.close (S:aA) (B:aN) (σ:List Row) (H:ψ) (h:Nat):aA:=fun b o=>if Late B σ h b then(H.aF b o).map (·.1) else S b o
theorem Cf (Α:Holds S B σ H):∀b o v,S b o=some v→S.close B σ H h b o=some v:=fun b o v hv=>by
 unfold aA.close;split
 ·rename_i ω;obtain⟨id,t,k,l,N,R,γ,ο⟩:=ω;have:=Α.sep id _ b N γ trivial ο o;rw[hv] at this;cases this
 ·exact hv
theorem aj.ql (Α:Holds S B σ H) {a:θ} {v:Value} (κ:aj S B σ a v) (hb:az h a):aj (S.close B σ H h) (B.take h) (σ.take h) a v:=by
 have ba:∀{α:Type} (l:List α) (i:Nat),i<h→(l.take h)[i]?=l[i]?:=fun l i hi=>List.getElem?_take_of_lt hi
 induction κ with
 | z v=>exact .z v
 | aa b o w R _ Γ=>
  cases hb with
  | aa hb=>exact .aa b o w (fun j a ε=>Cf Α _ _ _ (R j a ε)) fun j a ε=>Γ j a ε (hb a (cl ε))
 | h7 base cap h=>exact .h7 base cap h
 | sl b o cap w R γ ο Ι _ Γ=>
  cases hb with
  | sl hb=>exact .sl b o cap w R γ ο (fun i e hi j c ε=>Cf Α _ _ _ (Ι i e hi j c ε)) fun i e hi j c ε=>Γ i e hi j c ε (hb e (cl hi) c (cl ε))
 | aU vs R _ Γ=>
  cases hb with
  | aU hb=>exact .aU vs R fun i a v hi hv=>Γ i a v hi hv (hb a (cl hi))
 | bt vs R _ Γ=>
  cases hb with
  | bt hb=>exact .bt vs R fun i a v hi hv=>Γ i a v hi hv (hb a (cl hi))
 | ag R γ ο=>
  cases hb with
  | ag hb=>exact .ag (by rw[ba _ _ hb];exact R) γ (by rw[ba _ _ hb];exact ο)
 | ja v R γ=>
  cases hb with
  | ag hb=>exact .ja v (by rw[ba _ _ hb];exact R) γ
 | ms cap R γ ο Ι ay a6=>
  cases hb with
  | ms hb=>exact .ms cap (by rw[ba _ _ hb];exact R) γ (by rw[ba _ _ hb];exact ο) Ι ay a6
 | iC v R γ=>
  cases hb with
  | ms hb=>exact .iC v (by rw[ba _ _ hb];exact R) γ
 | fn vs ws R γ _ _ rf lH=>
  cases hb with
  | fn j9 fY=>exact .fn vs ws R γ (fun i a v hi hv=>rf i a v hi hv (j9 a (cl hi))) fun i a v hi hv=>lH i a v hi hv (fY a (cl hi))
 | fv v _ Γ=>
  cases hb with
  | fv hb=>exact .fv v (Γ hb)
 | mp R γ=>
  cases hb with
  | mp hb=>exact .mp (by rw[ba _ _ hb];exact R) (by rw[ba _ _ hb];exact γ)
 | kT v R=>
  cases hb with
  | mp hb=>exact .kT v (by rw[ba _ _ hb];exact R)
 | it R γ=>
  cases hb with
  | it hb=>exact .it (by rw[ba _ _ hb];exact R) (by rw[ba _ _ hb];exact γ)
 | mw v R=>
  cases hb with
  | it hb=>exact .mw v (by rw[ba _ _ hb];exact R)
 | cp v=>exact .cp v
theorem Lr {id b N:Nat} {t:TypeId} {k:Nat} {l:List θ} (ae:h≤id) (R:σ[id]?=some (.cells t k l)) (γ:B[id]?=some (some (b,N))) {o:Nat} {v:Value} {p:Bool} (hv:H.aF b o=some (v,p)):S.close B σ H h b o=some v:=by
 unfold aA.close;rw[if_pos ⟨id,t,k,l,N,ae,R,γ⟩,hv];rfl
theorem aj.TM (Α:Holds S B σ H) {a b9:θ} (ξ:ey h σ a b9):∀{v:Value},aj S B σ a v→aj (S.close B σ H h) (B.take h) (σ.take h) b9 v:=by
 induction ξ with
 | low hb=>intro v κ;exact κ.ql Α hb
 | cp a=>intro v _;exact .cp v
 | @ms id n i len k t l dK R γ ο Ι ay a6 _ Γ=>
  intro v κ;cases κ with
  | ms cap Ξ ad aT ck gm hQ=>
   rw[γ] at Ξ;cases Ξ;by_cases Ν:dK=[]
   ·subst Ν;have:len=0:=by rw[←ay];rfl
    subst this;exact .h7 _ _ (by simp)
   ·have o6:0<len:=by rw[←ay];exact List.length_pos_iff.2 Ν
    rcases hQ with hQ|⟨b,N,rfl,rfl,hQ⟩
    ·omega
    ·obtain⟨_,_,_,w,hw⟩:=Α.row id _ _ γ aT;have el:∀(j:Nat) (aH:θ),dK[j]?=some aH→∃e,l[i+j]?=some e∧e.cells.length=k∧aH.cells.length=k:=fun j aH ε=>by
      have aE:j<len:=by rw[←ay];exact(b3.1 ε).1
      have he:l[i+j]?=some l[i+j]:=bc (by omega);exact⟨_,he,(hw _ _ he).1,(a6 j _ aH he ε).trans (hw _ _ he).1⟩
     have:=aj.sl (S:=S.close B σ H h) (B:=B.take h) (σ:=σ.take h) (ex:=false) (k:=k) (l:=dK) b (i*k) cap (fun j x=>w (i+j) x) (by simp) (by omega) (fun j aH ε=>(el j aH ε).choose_spec.2.2)
      (fun j aH ε x b9 δ=>by
       obtain⟨e,Ε,Δ,a4⟩:=el j aH ε;have Cg:x<e.cells.length:=by rw[Δ,←a4];exact(b3.1 δ).1
       have:=((hw _ e Ε).2 x _ (bc Cg)).1;rw[Nat.add_mul] at this;exact Lr R γ aT this)
      (fun j aH ε x b9 δ=>by
       obtain⟨e,Ε,Δ,a4⟩:=el j aH ε;have Cg:x<e.cells.length:=by rw[Δ,←a4];exact(b3.1 δ).1
       exact Γ j e aH Ε ε x _ b9 (bc Cg) δ ((hw _ e Ε).2 x _ (bc Cg)).2.1)
     rw[ay] at this;exact this
  | iC v Ξ ad=>rw[γ] at Ξ;cases Ξ;simp only[Row.gN] at ad;omega
 | @ag id n i j k t l cs e R γ ο Ι ay a6 Γ=>
  intro v κ;cases κ with
  | ag Ξ ad aT=>
   rw[γ] at Ξ;cases Ξ;obtain⟨_,_,_,w,hw⟩:=Α.row id _ _ γ aT;have el:∀(x:Nat) (b9:θ),cs[x]?=some b9→∃a,e.cells[j+x]?=some a:=fun x b9 δ=>by
    have:=(b3.1 δ).1;exact⟨_,bc (by omega)⟩
   refine .aa _ _ (fun x=>w i (j+x)) (fun x b9 δ=>?_) (fun x b9 δ=>?_)
   ·obtain⟨a,μ⟩:=el x b9 δ;have:=((hw i e Ι).2 _ a μ).1;rw[←Nat.add_assoc] at this;exact Lr R γ aT this
   ·obtain⟨a,μ⟩:=el x b9 δ;exact Γ x a b9 μ δ ((hw i e Ι).2 _ a μ).2.1
  | ja v Ξ ad=>rw[γ] at Ξ;cases Ξ;simp only[Row.gN] at ad;omega
 | aU R γ Γ=>
  intro v κ;cases κ with
  | aU vs Ξ ad=>
   refine .aU vs (by rw[R,Ξ]) fun i b9 w hi hv=>?_;have aE:=(b3.1 hi).1;have μ:=bc (R▸aE);exact Γ i _ b9 μ hi (ad i _ w μ hv)
 | bt R γ Γ=>
  intro v κ;cases κ with
  | bt vs Ξ ad=>
   refine .bt vs (by rw[R,Ξ]) fun i b9 w hi hv=>?_;have aE:=(b3.1 hi).1;have μ:=bc (R▸aE);exact Γ i _ b9 μ hi (ad i _ w μ hv)
 | fn R γ _ _ rf lH=>
  intro v κ;cases κ with
  | fn vs ws Ξ ad aT ck=>
   refine .fn vs ws (by rw[R,Ξ]) (by rw[γ,ad]) (fun i b9 w hi hv=>?_) (fun i b9 w hi hv=>?_)
   ·have aE:=(b3.1 hi).1
    have μ:=bc (R▸aE);exact rf i _ b9 μ hi (aT i _ w μ hv)
   ·have aE:=(b3.1 hi).1
    have μ:=bc (γ▸aE);exact lH i _ b9 μ hi (ck i _ w μ hv)
theorem jb.ql (Α:Holds S B σ H) {r:Row} {bo:Option (Nat×Nat)} (κ:jb S B σ H r bo) (hb:eN h r):jb (S.close B σ H h) (B.take h) (σ.take h) H r bo:=by
 have ba:∀{α:Type} (l:List α) (i:Nat),i<h→(l.take h)[i]?=l[i]?:=fun l i hi=>List.getElem?_take_of_lt hi;cases r with
 | cells t k l=>
  cases bo with
  | none=>exact κ
  | some x=>
   obtain⟨b,N⟩:=x;obtain⟨R,γ,ο,w,Ι⟩:=κ;refine⟨R,γ,ο,w,fun i e hi=>⟨(Ι i e hi).1,fun j a ε=>?_⟩⟩;obtain⟨c1,c2,c3⟩:=(Ι i e hi).2 j a ε;exact⟨c1,c2.ql Α (hb e (cl hi) a (cl ε)),c3⟩
 | map es=>
  obtain⟨b,N,xs,clock,rfl,R,γ,ο,Ι⟩:=κ;exact⟨b,N,xs,clock,rfl,R,γ,fun i e y a b=>by
   obtain⟨c1,c2,c3⟩:=ο i e y a b;exact⟨c1.ql Α (hb e (cl a)).1,c2.ql Α (hb e (cl a)).2,c3⟩,Ι⟩
 | iter m left cur=>
  obtain⟨hm,j9,fY⟩:=hb;obtain⟨b,N,aQ,j',xs,clock,seen,rfl,R,γ,ο,Ι,⟨cq,i1,i2,i3⟩,i4,i5⟩:=κ;refine⟨b,N,aQ,j',xs,clock,seen,rfl,by rw[ba _ _ hm];exact R,by rw[ba _ _ hm];exact γ,ο,Ι,⟨cq,i1,i2,fun i e y a b=>?_⟩,i4,fun e he=>?_⟩
  ·obtain⟨c1,c2⟩:=i3 i e y a b;exact⟨c1.ql Α (j9 e (cl a)).1,c2.ql Α (j9 e (cl a)).2⟩
  ·obtain⟨st,y,a,b,c,d⟩:=i5 e he;exact⟨st,y,a,b,c.ql Α (fY e he).1,d.ql Α (fY e he).2⟩
 | dead=>trivial
theorem Holds.close (Α:Holds S B σ H) (hb:∀(id:Nat) (r:Row),id<h→σ[id]?=some r→eN h r) :
  Holds (S.close B σ H h) (B.take h) (σ.take h) H∧Ext S B H (S.close B σ H h) (B.take h) H:=by
 have ba:∀{α:Type} (l:List α) (i:Nat) (x:α),(l.take h)[i]?=some x→i<h∧l[i]?=some x:=fun l i x hi=>by
  rw[List.getElem?_take] at hi;split at hi
  ·exact⟨‹_›,hi⟩
  ·cases hi
 refine⟨⟨fun b o v hv=>?_,by simp[Α.len],fun id r bo κ eM=>?_,fun i j dX b4 b gk gl fs hi ε g0 dS g1 cG=>?_,fun id r b N κ ω eM o=>?_⟩,⟨Cf Α,fun b _ _=>mx.of ⟨fun _=>rfl,rfl,rfl⟩,fun b ⟨N,cm⟩=>.inl ⟨N,List.mem_of_mem_take cm⟩,fun b o v hv=>?_,fun _ h=>h⟩⟩
 ·unfold aA.close at hv;split at hv
  ·cases η:H.aF b o with
   | none=>rw[η] at hv;cases hv
   | some x=>rw[η] at hv;cases hv;exact⟨x.2,rfl⟩
  ·exact Α.c6 b o v hv
 ·obtain⟨R,γ⟩:=ba _ _ _ κ;obtain⟨_,ο⟩:=ba _ _ _ eM;exact(Α.row id r bo γ ο).ql Α (hb id r R γ)
 ·exact Α.inj i j dX b4 b gk gl fs (ba _ _ _ hi).2 (ba _ _ _ ε).2 g0 dS (ba _ _ _ g1).2 (ba _ _ _ cG).2
 ·obtain⟨R,γ⟩:=ba _ _ _ κ;obtain⟨_,ο⟩:=ba _ _ _ eM;unfold aA.close;rw[if_neg]
  ·exact Α.sep id r b N γ ω ο o
  ·rintro⟨Ch,t,k,l,eJ,Ξ,ad,aT⟩;exact Α.inj id Ch r _ b N eJ (by omega) γ ad ω trivial ο aT
 ·unfold aA.close at hv;split at hv
  ·rename_i ω;obtain⟨id,t,k,l,N,_,_,ο⟩:=ω;exact .inr (.inl (n3 ο))
  ·exact .inl hv
theorem b0.close {e3:aA} {eg:aN} {σ0:List Row} (Α:Holds S B σ H) (ω:b0 e3 S eg B σ0 σ) (aS:σ0.length≤h):b0 e3 (S.close B σ H h) eg (B.take h) σ0 (σ.take h):=
 ⟨fun b o v hv=>Cf Α b o v (ω.c6 b o v hv),fun id r κ=>by
  have bU:id<h:=Nat.lt_of_lt_of_le (b3.1 κ).1 aS;obtain⟨r',R,γ⟩:=ω.rows id r κ;exact⟨r',by rw[List.getElem?_take_of_lt bU];exact R,by rw[List.getElem?_take_of_lt bU];exact γ⟩⟩
end
end Go.TL
namespace Go.TL
open Go.Conc
variable [bd]
structure eO (m:Nat) (S:aA) (B:aN) (H:ψ) (σ:List Row) (au:aA) (B':aN) (H':ψ) (σ':List Row):Prop where
 ext:Ext S B H au B' H'
 later:b0 S au (B.take m) B' (σ.take m) σ'
structure fj (m nt:Nat) (S:aA) (B:aN) (H:ψ) (σ:List Row) (env:Χ) (t:Array Value):Prop where
 holds:Holds S B σ H
 cj:c7 S B σ env t
 size:t.size=nt
 rows:m≤σ.length
section
variable {m:Nat} {S au yr:aA} {B B' ys:aN} {H H' Ls:ψ} {σ σ' yt:List Row}
theorem b0.left (h:b0 S au B B' σ σ') (m:Nat):b0 S au (B.take m) B' (σ.take m) σ':=
 ⟨h.c6,fun id r κ=>by
  rw[List.getElem?_take] at κ;split at κ
  ·rename_i aE;rw[List.getElem?_take_of_lt aE];exact h.rows id r κ
  ·cases κ⟩
theorem b0.right (h:b0 S au B B' σ σ') (hm:σ.length≤m):b0 S au B (B'.take m) σ (σ'.take m):=
 ⟨h.c6,fun id r κ=>by
  have aE:id<m:=Nat.lt_of_lt_of_le (b3.1 κ).1 hm;rw[List.getElem?_take_of_lt aE,List.getElem?_take_of_lt aE];exact h.rows id r κ⟩
theorem eO.of (h:Ext S B H au B' H') (k:b0 S au B B' σ σ'):eO m S B H σ au B' H' σ':=⟨h,k.left m⟩
theorem eO.refl:eO m S B H σ S B H σ:=.of (.refl _ _ _) (.refl _ _ _)
theorem eO.trans (h:eO m S B H σ au B' H' σ') (k:eO m au B' H' σ' yr ys Ls yt):eO m S B H σ yr ys Ls yt:=
 ⟨h.ext.trans k.ext,(h.later.right (m:=m) (by simp;omega)).trans k.later⟩
theorem b0.length (h:b0 S au B B' σ σ'):σ.length≤σ'.length:=by
 apply Classical.byContradiction;intro Η;have aE:σ'.length<σ.length:=by omega
 obtain⟨r',R,_⟩:=h.rows σ'.length _ (bc aE);simp at R
end
def Leaves (j:List Item) (k:List Item):Prop:=k=j
def W (P:Program) (m nt:Nat) (k:List Item) (env:Χ) (σ:List Row) (Z:List Item→Χ→List Row→Prop) (E:θ→Χ→List Row→Prop):Prop:=
 ∀(Q:Value→Prop) (mn:Bool) (x:gy) (cs:List Frame) (b:Frame) (S:aA) (B:aN) (H:ψ) (t:Array Value),Seq x→b.mode=.run→fj m nt S B H σ env t→
  (∀(j:List Item) (env':Χ) (σ':List Row) (au:aA) (B':aN) (H':ψ) (t':Array Value) (Ω:List Item),Z j env' σ'→eO m S B H σ au B' H' σ'→fj m nt au B' H' σ' env' t'→Leaves j Ω→aJ P Q mn x (ao b t' Ω) cs H')→
  (∀(a:θ) (env':Χ) (σ':List Row) (au:aA) (B':aN) (H':ψ) (t':Array Value) (Ω:List Item) (v:Value),E a env' σ'→eO m S B H σ au B' H' σ'→Holds au B' σ' H'→c7 au B' σ' env' t'→aj au B' σ' a v→aJ P Q mn x {ao b t' Ω with mode:=.panicking [{v,recovered:=false}]} cs H')→
  aJ P Q mn x (ao b t k) cs H
section
variable {P:Program} {m nt:Nat} {k:List Item} {env:Χ} {σ:List Row} {Z:List Item→Χ→List Row→Prop} {E:θ→Χ→List Row→Prop}
theorem W.stop (h:Z k env σ):W P m nt k env σ Z E:=fun _ _ _ _ _ S B H t _ _ χ Ν _=>Ν k env σ S B H t k h .refl χ rfl
theorem W.nil (h:Z [] env σ):W P m nt [] env σ Z E:=.stop h
theorem W.ret (h:Z (.code .ret::k) env σ):W P m nt (.code .ret::k) env σ Z E:=.stop h
theorem W.skip (h:W P m nt k env σ Z E):W P m nt (.code .skip::k) env σ Z E:=fun Q mn x cs b S B H t δ hb χ Ν he=>.skip δ hb (h Q mn x cs b S B H t δ hb χ Ν he)
theorem W.inBlock {l:Nat} (h:W P m nt k env σ Z E):W P m nt (.inBlock l::k) env σ Z E:=fun Q mn x cs b S B H t δ hb χ Ν he=>.inBlock δ hb (h Q mn x cs b S B H t δ hb χ Ν he)
theorem W.seq {a c:Code} (h:W P m nt (.code a::.code c::k) env σ Z E):W P m nt (.code (.seq a c)::k) env σ Z E:=fun Q mn x cs b S B H t δ hb χ Ν he=>.seq δ hb (h Q mn x cs b S B H t δ hb χ Ν he)
theorem W.block {l:Nat} {c:Code} (h:W P m nt (.code c::.inBlock l::k) env σ Z E):W P m nt (.code (.block l c)::k) env σ Z E:=fun Q mn x cs b S B H t δ hb χ Ν he=>.block δ hb (h Q mn x cs b S B H t δ hb χ Ν he)
theorem W.inLoop {c:Code} (h:W P m nt (.code c::.inLoop c::k) env σ Z E):W P m nt (.inLoop c::k) env σ Z E:=fun Q mn x cs b S B H t δ hb χ Ν he=>.inLoop δ hb (h Q mn x cs b S B H t δ hb χ Ν he)
theorem W.loop {c:Code} (h:W P m nt (.code c::.inLoop c::k) env σ Z E):W P m nt (.code (.loop c)::k) env σ Z E:=fun Q mn x cs b S B H t δ hb χ Ν he=>.loop δ hb (h Q mn x cs b S B H t δ hb χ Ν he)
theorem W.exit {id:Nat} {Ω:List Item} (υ:exitTo id k=some Ω) (h:W P m nt Ω env σ Z E):W P m nt (.code (.exit id)::k) env σ Z E:=fun Q mn x cs b S B H t δ hb χ Ν he=>.exit δ hb υ (h Q mn x cs b S B H t δ hb χ Ν he)
theorem W.cond {c:Operand} {a e:Code} {v:Bool} (η:aL env c=.z (.bool v)) (h:W P m nt (.code (if v then a else e)::k) env σ Z E):W P m nt (.code (.cond c a e)::k) env σ Z E:=fun Q mn x cs b S B H t δ hb χ Ν he=>by
 refine .cond (v:=v) δ hb ?_ (h Q mn x cs b S B H t δ hb χ Ν he);have:=kW χ.cj c;rw[η] at this;rw[yp];generalize bk t c=u at this;cases this;rfl
theorem W.cut (h:Nat) (hm:m≤h) (env':Χ) (aS:h≤σ.length) (nh:∀(id:Nat) (r:Row),id<h→σ[id]?=some r→eN h r) (cC:∀p∈env',ey h σ (a5 env p.1) p.2) (hW:W P m nt k env' (σ.take h) Z E):W P m nt k env σ Z E:=
 fun Q mn x cs b S B H t δ hb χ Ν he=>by
 obtain⟨c1,c2⟩:=χ.holds.close nh;have ω:b0 S (S.close B σ H h) (B.take m) (B.take h) (σ.take m) (σ.take h):=by
  have:=b0.close (h:=h) χ.holds ((b0.refl S B σ).left m) (by simp;omega);exact this
 have μ:eO m S B H σ (S.close B σ H h) (B.take h) H (σ.take h):=⟨c2,ω⟩
 have yV:∀(l:Χ),(∀p∈l,ey h σ (a5 env p.1) p.2)→∀i,ey h σ (a5 env i) (a5 l i):=by
  intro l
  induction l with
  | nil=>intro _ i;exact .cp _
  | cons p l Γ=>
   intro ω i;simp only[a5];split
   ·rename_i e;rw[←e];exact ω p (by simp)
   ·exact Γ (fun q Υ=>ω q (by simp[Υ])) i
 refine hW Q mn x cs b _ _ H t δ hb ⟨c1,fun i=>(χ.cj i).TM χ.holds (yV env' cC i),χ.size,by simp;omega⟩ (fun j gO ga cO eV bJ t2 cx Ξ ad aT ck=>?_) (fun a gO ga cO eV bJ t2 cx v Ξ ad aT ck gm=>?_)
 ·exact Ν j gO ga cO eV bJ t2 cx Ξ (μ.trans ad) aT ck
 ·exact he a gO ga cO eV bJ t2 cx v Ξ (μ.trans ad) aT ck gm
end
def fl (S:aA) (B:aN) (σ:List Row) (as9:List θ) (vs:Array Value):Prop:=as9.length=vs.size∧∀(i:Nat) (a:θ) (v:Value),as9[i]?=some a→vs[i]?=some v→aj S B σ a v
structure uG (P:Program) (Q:Value→Prop) (mn:Bool) (x:gy) (c:Frame) (rest:List Frame) (S:aA) (B:aN) (H:ψ) (σ:List Row) (K:θ→List Row→Prop) (E:θ→List Row→Prop):Prop where
 ret:∀(a:θ) (σ':List Row) (au:aA) (B':aN) (H':ψ) (v:Value),K a σ'→Ext S B H au B' H'→b0 S au B B' σ σ'→Holds au B' σ' H'→aj au B' σ' a v→aJ P Q mn x (c.finish v) rest H'
 wx:∀(a:θ) (σ':List Row) (au:aA) (B':aN) (H':ψ) (v:Value),E a σ'→Ext S B H au B' H'→b0 S au B B' σ σ'→Holds au B' σ' H'→aj au B' σ' a v→aJ P Q mn x (c.raise [{v,recovered:=false}]) rest H'
def Lt (P:Program) (Q:Value→Prop) (mn:Bool) (x:gy) (c:Frame) (rest:List Frame):Next→ψ→Prop
 | .enter g as9,H=>aJ P Q mn x (Frame.enter P g as9 .normal) (c::rest) H
 | .round l f vV Bi re,H=>aJ P Q mn x (Frame.round l f vV Bi re .normal) (c::rest) H
 | .value v,H=>aJ P Q mn x (c.finish v) rest H
 | _,_=>False
def hR (P:Program) (f:θ) (args:List θ) (σ:List Row) (K:θ→List Row→Prop) (E:θ→List Row→Prop):Prop:=
 ∀(Q:Value→Prop) (mn:Bool) (x:gy) (c:Frame) (rest:List Frame) (S:aA) (B:aN) (H:ψ) (ai:Value) (vs:Array Value),Seq x→Holds S B σ H→aj S B σ f ai→fl S B σ args vs→uG P Q mn x c rest S B H σ K E→
  ς P (do let d ←Deferred.ofValue ai vs;invoke d.target d.args) H (Lt P Q mn x c rest) (fun _ _=>False)
def Plain (P:Program) (g:FuncId):Prop:=∃fn,P.funcs[g]?=some fn∧(fn.name == "runtime.NumGoroutine")=false∧fn.body.isNone=false
def ak (P:Program) (g:FuncId) (args:List θ) (σ:List Row) (K:θ→List Row→Prop) (E:θ→List Row→Prop):Prop:=
 Plain P g∧∀(Q:Value→Prop) (mn:Bool) (x:gy) (c:Frame) (rest:List Frame) (S:aA) (B:aN) (H:ψ) (vs:Array Value),Seq x→Holds S B σ H→fl S B σ args vs→uG P Q mn x c rest S B H σ K E→
  aJ P Q mn x (Frame.enter P g vs .normal) (c::rest) H
section
variable {P:Program} {T:a7} {A:List Nat} {m nt:Nat} {k:List Item} {env:Χ} {σ:List Row} {Z:List Item→Χ→List Row→Prop} {E:θ→List Row→Prop} {K:θ→List Row→Prop} {F:θ→Χ→List Row→Prop}
theorem fl.append {S:aA} {B:aN} {as9 pe:List θ} {vs ws:Array Value} (h:fl S B σ as9 vs) (k:fl S B σ pe ws):fl S B σ (as9++pe) (vs++ws):=by
 refine⟨by simp[h.1,k.1],fun i a v R γ=>?_⟩;by_cases aE:i<as9.length
 ·rw[dU aE] at R;rw[Array.getElem?_append_left (by rw[←h.1];exact aE)] at γ;exact h.2 i a v R γ
 ·rw[hr (by omega)] at R;rw[Array.getElem?_append_right (by rw[←h.1];omega),←h.1] at γ;exact k.2 _ a v R γ
theorem ak.mono {g:FuncId} {args:List θ} {K':θ→List Row→Prop} {E':θ→List Row→Prop} (h:ak P g args σ K E) (I:∀a s,K a s→K' a s) (c9:∀a s,E a s→E' a s):ak P g args σ K' E':=
 ⟨h.1,fun Q mn x c rest S B H vs δ Α hv hb=>h.2 Q mn x c rest S B H vs δ Α hv ⟨fun a σ' au B' H' v υ=>hb.ret a σ' au B' H' v (I _ _ υ),fun a σ' au B' H' v υ=>hb.wx a σ' au B' H' v (c9 _ _ υ)⟩⟩
theorem hR.mono {f:θ} {args:List θ} {K':θ→List Row→Prop} {E':θ→List Row→Prop} (h:hR P f args σ K E) (I:∀a s,K a s→K' a s) (c9:∀a s,E a s→E' a s):hR P f args σ K' E':=
 fun Q mn x c rest S B H ai vs δ Α Ρ hv hb=>h Q mn x c rest S B H ai vs δ Α Ρ hv ⟨fun a σ' au B' H' v υ=>hb.ret a σ' au B' H' v (I _ _ υ),fun a σ' au B' H' v υ=>hb.wx a σ' au B' H' v (c9 _ _ υ)⟩
theorem ak.call {g:FuncId} {first args captured:List θ} (h:ak P g (first++args++captured) σ K E):hR P (.fn (.func g) first captured) args σ K E:=by
 intro Q mn x c rest S B H ai vs δ Α Ρ hv hb;cases Ρ with
 | fn v1 v2 R γ ο Ι=>
  refine ς.bind' (ς.pure' ?_);obtain⟨⟨fn,b',kj,Ci⟩,Gd⟩:=h;unfold invoke;simp only;unfold callFunc;refine ς.bind' ?_;show ς P (match P.funcs[g]? with|none=>_|some fn=>_) H _ _;rw[b'];simp only[kj,Ci,Bool.false_eq_true,if_false];refine ς.pure' ?_;have r1:fl S B σ first v1:=⟨R,ο⟩
  have r2:fl S B σ captured v2:=⟨γ,Ι⟩;exact Gd Q mn x c rest S B H _ δ Α ((r1.append hv).append r2) hb
def fp (env:Χ) (ops:Array Oper) (o:Oper):Option Bool:=match o.guard with
 | none=>some true
 | some (j,want)=>match (ops[j]?).bind (·.dst) with
  | some d=>match a5 env d with
   | .z (.bool b)=>some (b==want)
   | _=>none
  | none=>none
theorem jx {S:aA} {B:aN} {t:Array Value} (h:c7 S B σ env t) {ops:Array Oper} {o:Oper} {w:Bool} (hw:fp env ops o=some w):Region.wanted o (yielded ops t)=w:=by
 unfold fp at hw;unfold Region.wanted;split at hw
 ·rename_i Τ;rw[Τ];cases hw;rfl
 ·rename_i j want Τ;rw[Τ];split at hw
  ·rename_i d hd;split at hw
   ·rename_i b hb;cases hw;have κ:=h d;rw[hb] at κ;unfold yielded;rw[Array.getD_eq_getD_getElem?] at κ;cases Μ:t[d]? with
    | none=>rw[Μ] at κ;cases κ
    | some v=>
     rw[Μ] at κ;simp only[Option.getD_some] at κ;cases κ;simp only[hd,Option.bind_some,Μ];cases b<;>cases want<;>rfl
   ·cases hw
  ·cases hw
def b5 (o:Oper) (env:Χ) (a:θ):Χ:=match o.dst with|some d=>(d,a)::env|none=>env
def hB (nt:Nat) (o:Oper):Bool:=match o.dst with|some d=>decide (d<nt)|none=>true
theorem qm {S:aA} {B:aN} {t:Array Value} (h:c7 S B σ env t) {o:Oper} (hd:hB nt o=true) (Μ:t.size=nt) {a:θ} {v:Value} (μ:aj S B σ a v):c7 S B σ (b5 o env a) (put o t v)∧(put o t v).size=nt:=by
 unfold b5 put;unfold hB at hd;cases qn:o.dst with
 | none=>exact⟨h,Μ⟩
 | some d=>
  rw[qn] at hd;simp only[decide_eq_true_eq] at hd;exact⟨h.put (by rw[Μ];exact hd) μ,by simp[Μ]⟩
theorem W.unwanted {ops:Array Oper} {i:Nat} {o:Oper} {rest:List Nat} (Β:ops[i]?=some o) (hw:fp env ops o=some false) (hd:hB nt o=true) (h:W P m nt (.inRegion ops rest::k) (b5 o env .cp) σ Z F):W P m nt (.inRegion ops (i::rest)::k) env σ Z F:=
 fun Q mn x cs b S B H t δ hb χ Ν he=>by
 obtain⟨s1,s2⟩:=qm χ.cj hd χ.size (a:=.cp) (v:=undef) (.cp _);exact .unwanted δ hb Β (jx χ.cj hw) (h Q mn x cs b S B H _ δ hb ⟨χ.holds,s1,s2,χ.rows⟩ Ν he)
theorem W.op (Ζ:bN P T) {ops:Array Oper} {i:Nat} {o:Oper} {rest:List Nat} (Β:ops[i]?=some o) (hw:fp env ops o=some true) (hd:hB nt o=true) (jS:∀c,o.op≠.defer c)
  (h:((lL T A env o).or σ (jT T A env σ o)).holds fun a σ'=>W P m nt (.inRegion ops rest::k) (b5 o env a) σ' Z F):W P m nt (.inRegion ops (i::rest)::k) env σ Z F:=
 fun Q mn x cs b S B H t δ hb χ Ν he=>by
 refine .op δ hb Β (jx χ.cj hw) (.inr jS) ?_;have TN:=cr.TD (TJ (A:=A) Ζ χ.holds χ.cj o) (TK (A:=A) Ζ χ.holds χ.cj o);refine ς.mono (fun fZ H' ⟨v,hv,au,B',σ',a,I,qo,iD,ω,κ⟩=>?_) (fun _ _ h=>h.elim) _ (TN _ h);obtain⟨s1,s2⟩:=qm (χ.cj.later ω) hd χ.size κ;have μ:eO m S B H σ au B' H' σ':=.of qo ω;have fin:aJ P Q mn x (ao b (put o t v) (.inRegion ops rest::k)) cs H':=
  I Q mn x cs b au B' H' _ δ hb ⟨iD,s1,s2,Nat.le_trans χ.rows ω.length⟩ (fun j gO ga cO eV bJ t2 cx Ξ ad aT ck=>Ν j gO ga cO eV bJ t2 cx Ξ (μ.trans ad) aT ck)
   (fun bg gO ga cO eV bJ t2 cx v2 Ξ ad aT ck gm=>he bg gO ga cO eV bJ t2 cx v2 Ξ (μ.trans ad) aT ck gm)
 cases fZ<;>simp only[KI,reduceCtorEq,Option.some.injEq] at hv<;>first|(subst hv;exact fin)|skip
theorem W.call {ops:Array Oper} {i:Nat} {o:Oper} {rest:List Nat} (Β:ops[i]?=some o) (hw:fp env ops o=some true) (hd:hB nt o=true) {f:Operand} {args:Array Operand} {dL:Array TypeId} (Κ:o.op=.call ⟨.value f,args,dL⟩)
  (h:hR P (aL env f) (args.toList.map (aL env)) σ (fun a σ'=>W P m nt (.inRegion ops rest::k) (b5 o env a) σ' Z F) (fun a s=>F a env s)):W P m nt (.inRegion ops (i::rest)::k) env σ Z F:=
 fun Q mn x cs b S B H t δ hb χ Ν he=>by
 refine .op δ hb Β (jx χ.cj hw) (.inr fun c=>by rw[Κ];simp) ?_;have lM:fl S B σ (args.toList.map (aL env)) (args.map (bk t)):=by
  refine⟨by simp,fun i a v R γ=>?_⟩;rw[List.getElem?_map,Array.getElem?_toList] at R;rw[Array.getElem?_map] at γ;cases δ:args[i]? with
  | none=>rw[δ] at R;cases R
  | some y=>rw[δ] at R γ;cases R;cases γ;exact kW χ.cj y
 have Gd:=h Q mn x (ao b t (.inRegion ops (i::rest)::k)) cs S B H (bk t f) (args.map (bk t)) δ χ.holds (kW χ.cj f) lM ⟨fun a σ' au B' H' v I qo ω iD κ=>?_,fun a σ' au B' H' v c9 qo ω iD κ=>?_⟩
 ·have e:execOp (bk t) o=(do let d ←Deferred.ofValue (bk t f) (args.map (bk t));invoke d.target d.args):=by unfold execOp;rw[Κ];rfl
  rw[e];refine ς.mono (fun fZ H' Η=>?_) (fun _ _ h=>h.elim) _ Gd;cases fZ<;>first|exact Η.elim|exact Η|skip
  rename_i v;have:=hO (b:=b) (t:=t) (k:=k) (v:=v) Β (rest:=rest);simp only[Lt] at Η;rw[this] at Η;exact Η
 ·obtain⟨s1,s2⟩:=qm (χ.cj.later ω) hd χ.size κ;have μ:eO m S B H σ au B' H' σ':=.of qo ω;rw[hO Β];exact I Q mn x cs b au B' H' _ δ hb ⟨iD,s1,s2,Nat.le_trans χ.rows ω.length⟩ (fun j gO ga cO eV bJ t2 cx Ξ ad aT ck=>Ν j gO ga cO eV bJ t2 cx Ξ (μ.trans ad) aT ck)
   (fun bg gO ga cO eV bJ t2 cx v2 Ξ ad aT ck gm=>he bg gO ga cO eV bJ t2 cx v2 Ξ (μ.trans ad) aT ck gm)
 ·have:=he a env σ' au B' H' t (.inRegion ops (i::rest)::k) v c9 (.of qo ω) iD (χ.cj.later ω) κ
  have e:(ao b t (.inRegion ops (i::rest)::k)).raise [{v,recovered:=false}]={ao b t (.inRegion ops (i::rest)::k) with mode:=.panicking [{v,recovered:=false}]}:=by simp[Frame.raise,ao,hb]
  rw[e];exact this
theorem W.panic {ops:Array Oper} {i:Nat} {o:Oper} {rest:List Nat} (Β:ops[i]?=some o) (hw:fp env ops o=some true) {y:Operand} (Κ:o.op=.panic y) {ty:TypeId} {a:θ} (Ο:aL env y=.fv ty a) (h:F (.fv ty a) env σ):W P m nt (.inRegion ops (i::rest)::k) env σ Z F:=
 fun Q mn x cs b S B H t δ hb χ Ν he=>by
 refine .op δ hb Β (jx χ.cj hw) (.inr fun c=>by rw[Κ];simp) ?_;have κ:=kW χ.cj y;have e:execOp (bk t) o=(do pure (.value (←Instr.panic (bk t y)))):=by unfold execOp;rw[Κ]
 rw[e];rw[Ο] at κ;generalize hv:bk t y=v at κ;refine ς.bind' ?_;cases κ with
 | fv eZ R=>exact he (.fv ty a) env σ S B H t _ _ h .refl χ.holds χ.cj (.fv eZ R)
end
end Go.TL
