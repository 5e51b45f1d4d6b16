import Derived.Carry
import Derived.ChangeSlices
import Derived.Conc.HoldsTime
import Derived.OpenShut
import Derived.Test.YtlabjopijpkiaaaGreatCAF
import Derived.Test.YtlabjopijpkiaaaGreatCAK
import Derived.Test.YtlabjopijpkiaaaGreatCAL
import Derived.Test.YtlabjopijpkiaaaGreatCAR
import Derived.Test.YtlabjopijpkiaaaGreatCAS
import Derived.Test.YtlabjopijpkiaaaGreatCAY
import Derived.Test.YtlabjopijpkiaaaGreatRows
set_option maxHeartbeats 16000000
set_option maxRecDepth 20000
set_option linter.unusedSectionVars false
set_option linter.unusedSimpArgs false
set_option linter.unusedVariables false
namespace Go.TL
open Go.Proofs
variable [bp]
attribute [congr] cΒ
attribute [simp] cΓ cΔ cΗ cΘ cΙ cΚ
def ee (g:FuncId) (args:List η) (d:cz) (r:η) (cJ:cz):Prop:=ab Tryz.prog g (.ah 0 1 0 0::args) [bz d] (λa s=>c6 a r/\s=[bz cJ]) (λ_ _=>False)
theorem Qm {l:List η} (h:∀a∈l,aJ 0 a) (ρ:List Nat):l.map (ed ρ)=l:=by
 induction l with
 | nil=>rfl
 | cons a l ω=>rw[List.map_cons,(h a ζ).ed,ω λx γ=>h x (by simp[γ])]
theorem ee.c {g:FuncId} {args fB:List η} {d cJ:cz} {r:η} {σ:List Row} {K E:η->List Row->Prop} (h:ee g args d r cJ) (id:Nat) (b5:σ[id]?=some (bz d)) (he:bI fB args) (κ:∀a∈fB,aJ 0 a) (ι:aJ 0 r) (θ:K r (σ.set id (bz cJ))):ha Tryz.prog (.fn (.func g) [] []) (.ah id 1 0 0::fB) σ K E:=by
 refine ab.one (as0:=.ah 0 1 0 0::fB) (r:=r) (row':=bz cJ) (ab.m8 h (.cons (.refl _) he) λa s ⟨J,U⟩=>⟨r,J,rfl,U⟩) id b5 (n' d) (n' cJ) ?_ (ι.iM 1) ?_ ?_
 ·intro a hm;rcases List.mem_cons.1 hm with rfl|hm
  ·exact Nat.zero_lt_one
  ·exact(κ a hm).iM 1
 ·rw[List.map_cons,Qm κ];rfl
 ·rw[ι.ed];exact θ
theorem ee.e {g:FuncId} {args fB:List η} {d cJ:cz} {r:η} {fv:η->Prop} {lP:η->Row->Prop} (h:ee g args d r cJ) (he:bI fB args) (κ:∀a∈fB,aJ 0 a) (ι:aJ 0 r) (θ:lP r (bz cJ)):y5 Tryz.prog (.fn (.func g) [] []) (.ah 0 1 0 0::fB) (bz d) fv lP:=
 cΖ (λτ=>h.c 0 rfl he κ ι ⟨rfl,rfl⟩) θ
theorem ee.g {g:FuncId} {args:List η} {d cJ:cz} {r:η} {σ:List Row} {K E:η->List Row->Prop} (h:ee g args d r cJ) (θ:K r ((bz d::σ).set 0 (bz cJ))) (κ:∀a∈args,aJ 0 a:=by simp) (ι:aJ 0 r:=by simp):ha Tryz.prog (.fn (.func g) [] []) (.ah 0 1 0 0::args) (bz d::σ) K E:=h.c 0 rfl (bI.refl _) κ ι θ
theorem ee.h {g:FuncId} {args:List η} {d cJ:cz} {r:η} {fv:η->Prop} {lP:η->Row->Prop} (h:ee g args d r cJ) (θ:lP r (bz cJ)) (κ:∀a∈args,aJ 0 a:=by simp) (ι:aJ 0 r:=by simp):y5 Tryz.prog (.fn (.func g) [] []) (.ah 0 1 0 0::args) (bz d) fv lP:=h.e (bI.refl _) κ ι θ
theorem xe {p q:Prop} (k:q) (h:q->p:=by intro k;simp;(repeat (rw[oZ];simp));(try rw[oY]);exact k):p:=h k
theorem BM {p f:Prop} {q:f->Prop} (a:f) (k:q a) (h:∀a,q a->p:=by intro a1 k;simp[a1];(repeat (rw[oZ];simp[a1]));(try rw[oY]);exact k):p:=h a k
theorem ee.d {g:FuncId} {args fB:List η} {d cJ:cz} {r:η} {σ:List Row} {fv:η->Prop} {iH:η->List Row->Prop} (h:ee g args d r cJ) (id:Nat) (b5:σ[id]?=some (bz d)) (he:bI fB args) (κ:∀a∈fB,aJ 0 a) (ι:aJ 0 r) (θ:iH r (σ.set id (bz cJ))):dcall Tryz.prog (.fn (.func g) [] []) (.ah id 1 0 0::fB) σ fv iH:=
 Wd (h.c id b5 he κ ι ⟨rfl,rfl⟩) θ
@[simp] theorem k' (d:cz) (n:Int):(d.after n).a7.length<=d.a7.length:=by
 unfold cz.after;split
 ·exact Nat.le_refl _
 ·simp[cz.next]
theorem sm (d:cz) (hd:d.a7.length<2 ^ 63) (n:Int):ee 24 [I n] d (I (hD d n)) (d.after n):=(JG d hd n).mono (λa s ⟨J,U⟩=>⟨.of J,U⟩) (λ_ _ h=>h)
theorem BN (d:cz) (hd:d.a7.length<2 ^ 63) (a b:Int):ee 38 [I a,I b] d (I (oX d a b)) (d.after (IntKind.i64.wrap (b-a))):=(cπ d hd a b).mono (λa s ⟨J,U⟩=>⟨.of J,U⟩) (λ_ _ h=>h)
theorem cΡ (d:cz) (hd:d.a7.length<2 ^ 63) (l:List Int) (an:0<l.length) (ξ:l.length<1000000):ee 61 [bt I 1 l] d (I (l.getD (y2 d l) 0)) (d.after ((l.length:Int)-1)):=(cτ d hd l an ξ).mono (λa s ⟨J,U⟩=>⟨.of J,U⟩) (λ_ _ h=>h)
def xf (d:cz) (n:Int):Bool:=decide (hD d (n-1)=n.tdiv 2)
theorem JL (d:cz) (hd:d.a7.length<2 ^ 63) (n:Int) (J:1<=n) (U:n<1000):ee 156 [I n] d (a' (xf d n)) (d.after (n-1)):=by
 have hw:IntKind.i64.wrap (n-1)=n-1:=IntWalk.i64_in _ R;unfold ee;refine ab.body Υ Tryz.func156 rfl rfl Tryz.ntmps156 rfl rfl ζ ?_;refine Η ?_;refine hz hw λΘ θ=>?_;refine ee.g (sm d hd (n-1)) (gS hw ?_);apply θ;have Ν:IntKind.i64.wrap (n.tdiv 2)=n.tdiv 2:=by
  rw[Int.tdiv_eq_ediv_of_nonneg R];exact IntWalk.i64_in _ R
 rw[Ν];exact W.ret ⟨_,rfl,.refl _,rfl⟩
def pN (l:List Int) (k:Nat) (x:Int):List Int:=l.take k++x::l.drop k
def hE (d:cz):Nat->List Int×cz
 | 0=>([],d)
 | i+1=>(pN (hE d i).1 (hD (hE d i).2 i).toNat i,(hE d i).2.after i)
theorem JM (d:cz) (n:Nat):(hE d n).2.a7.length<=d.a7.length:=by
 induction n with
 | zero=>exact Nat.le_refl _
 | succ n ω=>exact Nat.le_trans (k' _ _) ω
theorem JN {l:List Int} {k:Nat} {x:Int}:(pN l k x).length=l.length+1:=by
 unfold pN;simp;omega
theorem JO (d:cz) (n:Nat):(hE d n).1.length=n:=by
 induction n with
 | zero=>rfl
 | succ n ω=>show(pN _ _ _).length=_;rw[JN,ω]
def jW (l:List Int) (k:Nat):List Int:=(l++[0]).take (k+1)++l.drop k
theorem cΤ (l:List Int):jW l l.length=l++[0]:=by unfold jW;rw[List.take_of_length_le ζ];simp
theorem Qn {l:List Int} {k:Nat} (h:k<=l.length):(jW l k).length=l.length+1:=by
 unfold jW;simp;omega
theorem cΥ {l:List Int} {k:Nat} (h:k<l.length):(jW l (k+1))[k]?=some l[k]:=by
 unfold jW;rw[dI (by simp;omega),List.getElem?_take_of_lt R,dI h,a8 h]
theorem cΦ {l:List Int} {k:Nat} (h:k<l.length):(jW l (k+1)).set (k+1) l[k]=jW l k:=by
 unfold jW;have Γ:((l++[0]).take (k+1+1))=(l++[0]).take (k+1)++[(l++[0])[k+1]'(by simp;omega)]:=List.take_succ_eq_append_getElem (by simp;omega);have Δ:l.drop k=l[k]::l.drop (k+1):=List.drop_eq_getElem_cons h;rw[Γ,Δ,List.append_assoc,List.set_append_right _ _ (by simp;omega)];congr 1;have:k+1-((l++[0]).take (k+1)).length=0:=by simp;omega
 rw[this];rfl
theorem cΧ {l:List Int} {k:Nat} {x:Int} (h:k<=l.length):(jW l k).set k x=pN l k x:=by
 unfold jW pN;have Γ:((l++[0]).take (k+1))=l.take k++[(l++[0])[k]'(by simp;omega)]:=by
  rw[List.take_succ_eq_append_getElem (by simp;omega),List.take_append_of_le_length h]
 rw[Γ,List.append_assoc,List.set_append_right _ _ (by rw[List.length_take];omega)];have:k-(l.take k).length=0:=by rw[List.length_take];omega
 rw[this];rfl
theorem Qo (d:cz) (hd:d.a7.length<2 ^ 63) (n:Nat) (Ζ:n<1000):ee 63 [I n] d (bt I 1 (hE d n).1) (hE d n).2:=by
 unfold ee;refine ab.body Υ Tryz.func63 rfl rfl Tryz.ntmps63 rfl rfl ζ ?_;refine Η ?_;refine W.iter (λi:Nat=>i<=n) (λi=>[(0,.ah 0 1 0 0),(1,I n),(5,dC 1 ((hE d i).1.map I)),(6,I i)]) (λi=>bz (hE d i).2::bW 3 1 ((hE d i).1.map I)) (λi=>n-i) 0 (Nat.zero_le _) rfl (by simp[dC,hE]) (λi hi ω=>?_);refine Η ?_;refine W.eS rfl (λε=>?_) (λε=>?_)
 ·have ε:i<n:=by simpa using ε
  have eW:hE d (i+1)=(pN (hE d i).1 (hD (hE d i).2 i).toNat i,(hE d i).2.after i):=rfl;obtain⟨L,ai⟩:=aK ((hE d i).1);obtain⟨D,cY⟩:=aK ((hE d i).2);have jh:L.length=i:=by rw[ai];exact JO d i
  have oa:D.a7.length<2 ^ 63:=by rw[cY];exact Nat.lt_of_le_of_lt (JM d i) hd
  rw[<-ai,<-cY] at eW;rw[<-ai,<-cY];obtain⟨t0,t1⟩:=qW D i R R;obtain⟨eN,jX⟩:∃k:Nat,hD D i=k:=⟨(hD D i).toNat,R⟩;rw[jX] at eW t1;have cΨ:eN<=i:=R;refine bh λΘ θ=>?_;refine ee.g (sm D oa i) (bD ?_);rw[jX];apply θ
  repeat apply Ω
  refine W.iN (A:=[19]) Υ [(0,.ah 0 1 0 0),(1,I n),(5,.ms 1 (i+1) 0 (i+1)),(6,I i),(7,I eN)] [bz (D.after i),.cells 3 1 ((jW L i).map I)] ?_ (by
    have Ι:(jW L i).map I=L.map I++[I 0]:=by rw[<-jh,cΤ];simp
    rw[Ι];by_cases Φ:L=[]
    ·subst Φ;have lk:i=0:=by simpa using jh.symm
     subst lk;(try simp);(repeat (rw[al];simp[k5,show dC 1 []=.sl true 0 [] from rfl]));(try simp[k5,show dC 1 []=.sl true 0 [] from rfl])
    ·have gu:L.map I≠[]:=by simpa using Φ
     (try simp);(repeat (rw[al];simp[h0 gu,e6 gu,jh]));(try simp[h0 gu,e6 gu,jh]);omega)
  refine Η ?_;refine W.iter (λk:Nat=>eN<=k/\k<=i) (λk=>[(0,.ah 0 1 0 0),(1,I n),(5,.ms 1 (i+1) 0 (i+1)),(6,I i),(7,I eN),(8,I k)]) (λk=>[bz (D.after i),.cells 3 1 ((jW L k).map I)]) (λk=>k) i ⟨cΨ,Nat.le_refl _⟩ rfl ζ (λk χ sK=>?_);refine Η ?_;refine W.eS rfl (λa3=>?_) (λa3=>?_)
  ·have ot:eN<k:=by simpa using a3
   obtain⟨j,Qp⟩:∃j,k=j+1:=⟨k-1,R⟩;have iK:j<L.length:=R;have hw:IntKind.i64.wrap ((k:Int)-1)=j:=by rw[IntWalk.i64_in _ R];omega
   have mr:(jW L k).length=i+1:=by rw[Qn R,jh]
   obtain⟨y,Κ⟩:∃y,(jW L k)[k]?=some y:=⟨_,a8 R⟩;obtain⟨ak,aI⟩:=aK ((jW L k).map I);have qX:ak.length=i+1:=by rw[aI,List.length_map,mr]
   have nv:ak[j]?=some (I L[j]):=by rw[aI,List.getElem?_map,Qp,cΥ iK];rfl
   have xg:ak[k]?=some (I y):=by rw[aI,List.getElem?_map,Κ];rfl
   have JP:ak.set k (I L[j])=(jW L j).map I:=by rw[aI,<-cΦ iK,List.map_set,Qp]
   have cΩ:∀h,ak[j]'h=I L[j]:=λh=>by rw[a8 h] at nv;exact Option.some.inj nv
   have JQ:∀h,ak[k]'h=I y:=λh=>by rw[a8 h] at xg;exact Option.some.inj xg
   refine W.to (σ':=[bz (D.after i),.cells 3 1 ak]) (env':=[(0,.ah 0 1 0 0),(1,I n),(5,.ms 1 (i+1) 0 (i+1)),(6,I i),(7,I eN),(8,I k)]) ?_ (by rw[aI]) ζ;refine hz (υ hw (υ qX (υ nv (υ xg (υ cΩ JQ))))) λΘ θ=>?_;refine⟨R,R,?_⟩;apply θ;refine aE hw ?_;refine W.to (sK j ⟨R,R⟩ R) ?_ ?_
   ·rw[JP]
   ·simp
  ·have ot:k=eN:=by simp at a3;omega
   subst ot;refine W.exit rfl ?_;have mr:(jW L k).length=i+1:=by rw[Qn R,jh]
   obtain⟨y,Κ⟩:∃y,(jW L k)[k]?=some y:=⟨_,a8 R⟩;obtain⟨ak,aI⟩:=aK ((jW L k).map I);have qX:ak.length=i+1:=by rw[aI,List.length_map,mr]
   have xg:ak[k]?=some (I y):=by rw[aI,List.getElem?_map,Κ];rfl
   have JP:ak.set k (I i)=(pN L k i).map I:=by rw[aI,<-cΧ R,List.map_set]
   have JQ:∀h,ak[k]'h=I y:=λh=>by rw[a8 h] at xg;exact Option.some.inj xg
   refine W.to (σ':=[bz (D.after i),.cells 3 1 ak]) (env':=[(0,.ah 0 1 0 0),(1,I n),(5,.ms 1 (i+1) 0 (i+1)),(6,I i),(7,I k)]) ?_ (by rw[aI]) ζ;refine hz (υ qX (υ xg JQ)) λΘ θ=>?_;refine⟨R,?_⟩;apply θ;have hw:=fl ε (show n<2 ^ 62 by omega);refine aE hw ?_;have gu:(pN L k i).map I≠[]:=λh=>by have:=congrArg List.length h;rw[List.length_map,JN] at this;simp at this
   refine W.to (ω (i+1) ε R) ?_ ?_
   ·rw[eW,JP,e6 (by simpa using gu)];rfl
   ·rw[eW];simp only[Int.toNat_natCast];rw[h0 gu];simp[hw,JN,jh]
 ·have ε:i=n:=by simp at ε;omega
  subst ε;refine W.exit rfl ?_;refine Η ?_;refine W.cut 1 ζ [(4,gV 1 ((hE d i).1.map I))] ζ (λid r b5 ι=>?_) ?_ ?_
  ·have:id=0:=by omega
   subst this;simp at ι;subst ι;exact λe he a κ=>by simp[η.cells] at he;subst he;simp[η.cells] at κ;rcases κ with rfl|rfl<;>simp[iG,η.cells]
  ·intro p π;simp at π;subst π;show eJ 1 _ (a5 _ 4) _;simp;refine EH (t:=3) (Nat.le_refl _) (λξ=>by rw[e6 ξ];rfl) (λe he a κ=>?_);obtain⟨x,_,rfl⟩:=List.mem_map.1 he;simp[η.cells] at κ;subst κ;exact .z _
  ·exact W.ret ⟨_,rfl,.acc,rfl⟩
theorem xh (d:cz) (h:Nat):e3 h (bz d):=λe he a κ=>by
 simp[η.cells] at he;subst he;simp[η.cells] at κ;rcases κ with rfl|rfl<;>simp[iG,η.cells]
section
variable {P:Program} {m nt:Nat} {k:List Item} {env:Χ} {Z:List Item->Χ->List Row->Prop} {E:η->Χ->List Row->Prop}
theorem W.dα {d:cz} {t kk:Nat} {l:List η} {x:Nat} (hm:m<=1) (hb:∀e∈l,∀a∈e.cells,aJ 0 a) (env':Χ) (hd:a5 env x=dC 1 l) (cE:∀p∈env',a5 env p.1=p.2/\aJ 1 p.2) (hW:W P m nt k ((x,gV kk l)::env') [bz d] Z E):W P m nt k env (bz d::bW t kk l) Z E:=
 W.cut 1 hm ((x,gV kk l)::env') ζ (λid r b5 ι=>by
  have:id=0:=R;subst this;simp at ι;subst ι;exact xh d 1) (λp π=>by
  rcases List.mem_cons.1 π with rfl|π
  ·show eJ 1 _ (a5 env x) _;rw[hd];exact EH (t:=t) (Nat.le_refl _) (λξ=>by rw[e6 ξ];rfl) (λe he a κ=>(hb e he a κ).mono (Nat.zero_le _))
  ·rw[(cE p π).1];exact .low (cE p π).2) (by simpa using hW)
end
theorem dβ {i n:Nat} (h:i<n) (Ζ:n<1000):IntKind.i64.wrap ((i:Int)+1)=((i+1:Nat):Int):=by
 rw[IntWalk.i64_in _ R];omega
def iQ (d:cz):Nat->List Int×cz
 | 0=>([],d)
 | i+1=>((iQ d i).1++(if xf (iQ d i).2 2 then [(i:Int)] else []),(iQ d i).2.after 1)
theorem Qq (d:cz) (n:Nat):(iQ d n).2.a7.length<=d.a7.length:=by
 induction n with
 | zero=>exact Nat.le_refl _
 | succ n ω=>exact Nat.le_trans (k' _ _) ω
theorem Qr (d:cz) (n:Nat):(iQ d n).1.length<=n:=by
 induction n with
 | zero=>exact Nat.le_refl _
 | succ n ω=>
  show((iQ d n).1++_).length<=_;rw[List.length_append];split<;>simp<;>omega
theorem dγ (d:cz) (hd:d.a7.length<2 ^ 63):ee 156 [I 2] d (a' (xf d 2)) (d.after 1):=JL d hd 2 br br
theorem dδ (d:cz) (hd:d.a7.length<2 ^ 63):ee 129 [] d (bt I 1 (iQ d 3).1) (iQ d 3).2:=by
 unfold ee;obtain⟨n,Ζ⟩:=aK 3;rw[<-Ζ];refine ab.body Υ Tryz.func129 rfl rfl Tryz.ntmps129 rfl rfl ζ ?_;refine Η ?_;refine W.iter (λi:Nat=>i<=n) (λi=>[(0,.ah 0 1 0 0),(3,dC 1 ((iQ d i).1.map I)),(4,I i)]) (λi=>bz (iQ d i).2::bW 3 1 ((iQ d i).1.map I)) (λi=>n-i) 0 (Nat.zero_le _) rfl (by simp[dC,iQ]) (λi hi ω=>?_);refine Η ?_;refine W.eS rfl (λε=>?_) (λε=>?_)
 ·have ε:i<n:=by simp at ε;omega
  have eW:iQ d (i+1)=((iQ d i).1++(if xf (iQ d i).2 2 then [(i:Int)] else []),(iQ d i).2.after 1):=rfl
  have jh:=Qr d i;obtain⟨L,ai⟩:=aK ((iQ d i).1);obtain⟨D,cY⟩:=aK ((iQ d i).2);have oa:D.a7.length<2 ^ 63:=by rw[cY];exact Nat.lt_of_le_of_lt (Qq d i) hd
  rw[<-ai,<-cY] at eW;rw[<-ai] at jh;rw[<-ai,<-cY];have hw:=dβ ε R;refine bh λΘ θ=>?_;refine ee.g (dγ D oa) (bD ?_);apply θ;cases hb:xf D 2
  ·refine aA rfl ?_;refine aE hw ?_;refine W.to (ω (i+1) ε R) ?_ ?_
   ·rw[eW,hb];simp
   ·rw[eW,hb];simp[hw]
  ·refine aD rfl ?_
   repeat apply Ω
   refine W.iN (A:=[14]) Υ [(0,.ah 0 1 0 0),(3,dC 1 ((L++[(i:Int)]).map I)),(4,I i)] (bz (D.after 1)::bW 3 1 ((L++[(i:Int)]).map I)) ?_ (by
    rw[List.map_append,List.map_cons,List.map_nil,tt,h0 (l:=L.map I++[I i]) ζ];by_cases Φ:L=[]
    ·subst Φ;(try simp);(repeat (rw[al];simp[k5,show dC 1 []=.sl true 0 [] from rfl]));(try simp[k5,show dC 1 []=.sl true 0 [] from rfl])
    ·have gu:L.map I≠[]:=by simpa using Φ
     (try simp);(repeat (rw[al];simp[h0 gu,e6 gu]));(try simp[h0 gu,e6 gu]);omega)
   refine aE hw ?_;refine W.to (ω (i+1) ε R) ?_ ?_
   ·rw[eW,hb];simp
   ·rw[eW,hb];simp[hw]
 ·have ε:i=n:=by simp at ε;omega
  subst ε;refine W.exit rfl ?_;refine Η ?_;refine W.dα (x:=2) ζ (λe he a κ=>?_) [] ζ ζ ?_
  ·obtain⟨x,_,rfl⟩:=List.mem_map.1 he;simp[η.cells] at κ;subst κ;exact .z _
  ·exact W.ret ⟨_,rfl,.acc,rfl⟩
end Go.TL
namespace Go.TL
open Go.Conc Go.Proofs
theorem JR:@Seq oV calm:=@Seq.mk oV calm rfl (λ_ h=>h.rel) (λ_ h=>h.aN)
theorem dε (w:World):Calm (a2.start w):=⟨rfl,rfl,rfl,λ_=>trivial⟩
def qY (w:World):aL:=λb o=>((Α.l7 w).aP b o).map (·.1)
theorem dζ (w:World):Holds (qY w) [] [] (Α.l7 w):=
 ⟨λb o v h=>by
  unfold qY at h;cases ε:(Α.l7 w).aP b o with
  | none=>rw[ε] at h;cases h
  | some x=>rw[ε] at h;cases h;exact⟨x.2,rfl⟩,rfl,λid r bo h=>by simp at h,λi j ew cj b gC gD _ h=>by simp at h,λid r b N h=>by simp at h⟩
theorem dη {P:Program} {f:FuncId} {fn:Func} {body:Code} {d:Nat} (bL:P.funcs[f]?=some fn) (nR:fn.body=some body) (fc:fn.results=#[.tmp d]) (bf:P.inits.idxOf? f=none) {w:World} {l:List η} {args:Array Value} (ι:fQ (qY w) [] [] l args) (Ζ:l.length<=fn.ntmps)
  (hW:@W oV P 0 fn.ntmps [.code body] (entry 0 l) [] (λj env _=>(∃k,j=.code .ret::k)/\a5 env d=a' true) (λ_ _ _=>False)):Comes P (λv=>v=.bool true) w (solo (Go.Conc.G (Frame.enter P f args .normal) []) w) #[]:=by
 letI:bp:=oV;refine Goes.comes ?_;show cC P _ true (a2.start w) (Frame.enter P f args .normal) [] (Α.l7 w);rw[qB bL nR];refine hW (λv=>v=.bool true) true calm [] (Frame.enter P f args .normal) (qY w) [] (Α.l7 w) _ JR rfl (fO.enter (dζ w) ι (Nat.le_refl _) Ζ) (λj env' σ' aF B' H' t' af Φ κ π ξ=>?_) (λa env' σ' aF B' H' t' af v he=>he.elim) (a2.start w) (dε w);obtain⟨⟨k,δ⟩,hd⟩:=Φ;have e:af=j:=ξ;subst e;subst δ;refine aU.ret JR rfl rfl (aU.done (v:=.bool true) JR (λy h=>h.shut) (λy h=>h.deaf) rfl rfl rfl bL bf ?_ rfl);have hv:t'.getD d undef=.bool true:=by
  have:=π.cx d;rw[hd] at this;generalize t'.getD d undef=u at this;cases this;rfl
 show results fn t'=_;unfold results;rw[fc];rw[Array.getD_eq_getD_getElem?] at hv;simp[hv]
end Go.TL
namespace Go.TL
open Go.Conc Go.ConcM Go.Proofs
open Go.ChangeShapes Go.WideShapes Go.ChangeAt Go.RowKit
theorem dθ:ownKnob Tryz.prog.godebug=none:=by kernel_rfl
theorem fI.below {W w:World} (h:fI (λ_ _=>False) (λ_=>False) W w):Below W.heap.size W {w with os:=W.os}:=by
 refine⟨rfl,h.tape,h.output,h.size,λk χ=>?_⟩;show w.heap[k]?=W.heap[k]?;have e:=ff χ;cases ε:Obj.sw W.heap[k] with
 | false=>rw[e];exact h.nz k _ e ε id
 | true=>
  cases γ:W.heap[k] with
  | cells c t ef=>
   rw[γ] at e;obtain⟨c',J,U,μ⟩:=h.cells k c t ef e;have:c'=c:=by
    apply Array.ext' ;apply List.ext_getElem?;intro o;have:=μ o id;simpa using this
   rw[e,J,this]
  | _=>rw[γ] at ε;simp[Obj.sw] at ε
theorem dι:laidOutB Tryz.prog=true:=by kernel_rfl
theorem dκ:Tryz.prog.cellsOf 3=1:=by kernel_rfl
theorem dμ {W:World} {b o:Nat} {v:Value} (h:W.cell? ⟨b,o,none⟩=some v):qY W b o=some v:=by
 unfold World.cell? at h;unfold qY Α.l7;simp only at h ⊢;split at h
 ·rename_i c t ef ε;rw[ε];simp at h ⊢;exact h
 ·cases h
theorem dν {W:World} {a:Addr} {len cap:Nat} {gp:List Int} (ξ:len<=cap) (Φ:len<=gp.length) (ε:∀i,i<gp.length->W.cell? (a.add i)=some (.int .i64 (gp.getD i 0))) :
  av (qY W) [] [] (bt I 1 (gp.take len)) (.slice (some a) len cap):=by
 by_cases an:len=0
 ·subst an;exact .iB _ _ ζ
 ·have ν:a.spot=none:=by
   have:=ε 0 R;unfold World.cell? Addr.add at this;rw[if_pos rfl] at this;cases b7:a.spot with
   | none=>rfl
   | some x=>
    rw[b7] at this;simp at this;split at this<;>simp at this
  obtain⟨b,o,sp⟩:=a;simp only at ν;subst ν;have hlen:(gp.take len).length=len:=by rw[List.length_take];omega
  have one:∀(i:Nat) (e:η),((gp.take len).map I)[i]?=some e->i<len/\e=I (gp.getD i 0):=λi e hi=>by
   have jw:i<len:=by have:=(bX.1 hi).1;rw[List.length_map,hlen] at this;exact this
   rw[List.getElem?_map,List.getElem?_take_of_lt jw,a8 R] at hi;refine⟨jw,?_⟩;rw[List.getD_eq_getElem?_getD,a8 R];simpa using hi.symm
  have:=av.sl (S:=qY W) (B:=[]) (σ:=[]) (ex:=false) (k:=1) (l:=(gp.take len).map I) b o cap (λi _=>.int .i64 (gp.getD i 0)) ζ (by rw[List.length_map,hlen];exact ξ)
   (λi e hi=>by rw[(one i e hi).2];rfl) (λi e hi j c δ=>by
    obtain⟨J,rfl⟩:=one i e hi
    match j with
    | 0=>
     refine dμ ?_;have:=ε i R;unfold Addr.add at this;rw[Nat.mul_one,Nat.add_zero];split at this
     ·rename_i cF;subst cF;exact this
     ·exact this
    | j+1=>simp[η.cells] at δ) (λi e hi j c δ=>by
    obtain⟨J,rfl⟩:=one i e hi
    match j with
    | 0=>simp[η.cells] at δ;subst δ;exact .z _
    | j+1=>simp[η.cells] at δ)
  rw[List.length_map,hlen] at this;exact this
end Go.TL
namespace Go.TL
open Go.Conc
variable [bp]
inductive sn (id k:Nat) (l:List η):η->η->Prop where
 | same (a:η):sn id k l a a
 | ms:sn id k l (.ms id l.length 0 l.length) (.sl false k l)
 | ah {e:η}:l=[e]->sn id k l (.ah id 1 0 0) (.ao e.cells)
def BO (id k:Nat) (l:List η) (r r':Row):Prop:=r'=r\/∃t n es es',r=.cells t n es/\r'=.cells t n es'/\es'.length=es.length/\
 ∀(i:Nat) (e aM:η),es[i]?=some e->es'[i]?=some aM->aM.cells.length=e.cells.length/\∀(x:Nat) (a bT:η),e.cells[x]?=some a->aM.cells[x]?=some bT->sn id k l a bT
section
variable {P:Program} {S:aL} {B:aW} {H:Α} {σ σ':List Row} {m nt id k:Nat} {t:TypeId} {l:List η} {kk:List Item} {env:Χ} {Z:List Item->Χ->List Row->Prop} {E:η->Χ->List Row->Prop}
def aL.set (S:aL) (B:aW) (H:Α) (id:Nat):aL:=λb o=>match B[id]? with
 | some (some (dd,_))=>if b=dd then(H.aP b o).map (·.1) else S b o
 | _=>S b o
theorem Qs {b N:Nat} (hb:B[id]?=some (some (b,N))) (o:Nat):S.set B H id b o=(H.aP b o).map (·.1):=by
 unfold aL.set;rw[hb];simp
theorem Qt (Β:Holds S B σ H) (bQ:σ[id]?=some (.cells t k l)):∀b o v,S b o=some v->S.set B H id b o=some v:=λb o v hv=>by
 unfold aL.set;split
 ·rename_i dd N hb;split
  ·rename_i e;subst e;rw[Β.sep id _ b N bQ trivial hb o] at hv;cases hv
  ·exact hv
 ·exact hv
theorem b3.qZ (Β:Holds S B σ H) (bQ:σ[id]?=some (.cells t k l)) (y6:σ'[id]?=some .dead) (kE:∀j r,j≠id->σ[j]?=some r->∃r',σ'[j]?=some r'/\BO id k l r r'):b3 S (S.set B H id) B B σ σ':=
 ⟨Qt Β bQ,λj r ι=>by
  by_cases e:j=id
  ·subst e;rw[bQ] at ι;cases ι;exact⟨.dead,y6,.inr λn _=>trivial⟩
  ·obtain⟨r',J,U⟩:=kE j r e ι;refine⟨r',J,?_⟩;rcases U with rfl|⟨t,n,es,es',rfl,rfl,μ,_⟩
   ·exact Row.sO _ _
   ·exact .inl ⟨es',rfl,μ,rfl⟩⟩
theorem av.Qu (Β:Holds S B σ H) (bQ:σ[id]?=some (.cells t k l)) (ξ:b3 S (S.set B H id) B B σ σ') {a bT:η} (ν:sn id k l a bT) {v:Value} (ι:av S B σ a v):av (S.set B H id) B σ' bT v:=by
 cases ν with
 | same=>exact ι.later ξ
 | ms=>
  cases ι with
  | ms cap Ρ aa aX ca gf i'=>
   rw[bQ] at Ρ;cases Ρ;by_cases Φ:l=[]
   ·subst Φ;exact .iB _ _ ζ
   ·have qj:0<l.length:=List.length_pos_iff.2 Φ;rcases i' with i'|⟨b,N,rfl,rfl,i'⟩
    ·omega
    ·obtain⟨_,_,_,w,hw⟩:=Β.row id _ _ bQ aX;rw[Nat.zero_mul];refine .sl b 0 cap (λj x=>w j x) ζ gf (λj e δ=>(hw j e δ).1) (λj e δ x c γ=>?_) (λj e δ x c γ=>?_)
     ·have:=((hw j e δ).2 x c γ).1;rw[Qs aX,Nat.zero_add,this];rfl
     ·exact(((hw j e δ).2 x c γ).2.1).later ξ
  | jO v Ρ aa=>rw[bQ] at Ρ;cases Ρ;simp only[Row.hx] at aa;omega
 | @ah e he=>
  subst he;cases ι with
  | ah Ρ aa aX=>
   rw[bQ] at Ρ;cases Ρ;obtain⟨_,_,_,w,hw⟩:=Β.row id _ _ bQ aX;have an:=hw 0 e rfl;refine .ao _ _ (λx=>w 0 x) (λx a γ=>?_) (λx a γ=>?_)
   ·have:=(an.2 x a γ).1;rw[Qs aX,Nat.add_zero,this];rfl
   ·exact((an.2 x a γ).2.1).later ξ
  | j9 v Ρ aa=>rw[bQ] at Ρ;cases Ρ;simp[Row.hx] at aa
theorem W.qZ (hm:m<=id) (bQ:σ[id]?=some (.cells t k l)) (hlen:σ'.length=σ.length) (y6:σ'[id]?=some .dead) (kE:∀j r,j≠id->σ[j]?=some r->∃r',σ'[j]?=some r'/\BO id k l r r') (env':Χ) (cE:∀p∈env',sn id k l (a5 env p.1) p.2)
  (hW:W P m nt kk env' σ' Z E):W P m nt kk env σ Z E:=by
 intro Q mn x cs b S B H bg γ hb π Φ he;have Β:=π.holds;have ξ:=b3.qZ Β bQ y6 kE;have back:∀j r',j≠id->σ'[j]?=some r'->∃r,σ[j]?=some r/\BO id k l r r':=λj r' δ h=>by
  have aO:j<σ.length:=by rw[<-hlen];exact(bX.1 h).1
  obtain⟨r2,J,U⟩:=kE j _ δ (a8 aO);rw[h] at J;cases J;exact⟨_,a8 aO,U⟩
 have live:∀{r r':Row},BO id k l r r'->r'.live->r.live:=λ{r r'} h hv=>by
  rcases h with rfl|⟨_,_,_,_,rfl,rfl,_⟩
  ·exact hv
  ·trivial
 have ja:Holds (S.set B H id) B σ' H:=by
  refine⟨λb o v h=>?_,by rw[hlen];exact Β.len,λj r bo ι ey=>?_,λi j ew cj b gC gD fz hi δ h9 d' gQ cO=>?_,λj r b N ι fb hb o=>?_⟩
  ·unfold aL.set at h;split at h
   ·split at h
    ·cases ε:H.aP b o with
     | none=>rw[ε] at h;cases h
     | some x=>rw[ε] at h;cases h;exact⟨x.2,rfl⟩
    ·exact Β.dm b o v h
   ·exact Β.dm b o v h
  ·by_cases e:j=id
   ·subst e;rw[y6] at ι;cases ι;trivial
   ·obtain⟨r0,J,U⟩:=back j r e ι;have μ:=Β.row j r0 bo J ey;rcases U with rfl|⟨t2,n,es,es',rfl,rfl,Ε,au⟩
    ·refine μ.later ξ (λb N _=>⟨λ_=>rfl,rfl,rfl⟩) λb4 left cur Δ=>?_;subst Δ;obtain⟨_,_,aZ,kX,xs,clock,seen,_,eP,⟨es,du⟩,_⟩:=μ;refine⟨?_,rfl,λb N _=>⟨λ_=>rfl,rfl,rfl⟩⟩;have bA:b4≠id:=λe=>by subst e;rw[bQ] at du;cases du
     obtain⟨r',dn,p2⟩:=kE b4 _ bA du;rcases p2 with rfl|⟨_,_,_,_,p3,_⟩
     ·rw[dn,du]
     ·cases p3
    ·cases bo with
     | none=>
      have:es=[]:=μ;subst this;exact dO.1 Ε
     | some y=>
      obtain⟨b,N⟩:=y;obtain⟨Ρ,aa,aX,w,ca⟩:=μ;refine⟨Ρ,by rw[Ε];exact aa,aX,w,λi aM hi=>?_⟩;have aO:i<es.length:=by rw[<-Ε];exact(bX.1 hi).1
      obtain⟨c1,c2⟩:=ca i _ (a8 aO);obtain⟨d1,d2⟩:=au i _ aM (a8 aO) hi;refine⟨d1.trans c1,λx bT γ=>?_⟩;have nN:x<(es[i]).cells.length:=by rw[<-d1];exact(bX.1 γ).1
      obtain⟨eP,du,gd⟩:=c2 x _ (a8 nN);exact⟨eP,du.Qu Β bQ ξ (d2 x _ bT (a8 nN) γ),gd⟩
  ·have Qv:∀j r,σ'[j]?=some r->r.live->j≠id:=λj r h hv e=>by subst e;rw[y6] at h;cases h;exact hv
   obtain⟨r1,a1,a9⟩:=back i ew (Qv i ew hi h9) hi;obtain⟨r2,bC,dt⟩:=back j cj (Qv j cj δ d') δ;exact Β.inj i j r1 r2 b gC gD fz a1 bC (live a9 h9) (live dt d') gQ cO
  ·have bA:j≠id:=λe=>by subst e;rw[y6] at ι;cases ι;exact fb
   obtain⟨r1,a1,a9⟩:=back j r bA ι;have ν:=Β.sep j r1 b N a1 (live a9 fb) hb o;unfold aL.set;split
   ·rename_i dd hJ j8;split
    ·rename_i e;subst e;exact(Β.inj j id r1 _ b N hJ bA a1 bQ (live a9 fb) trivial hb j8).elim
    ·exact ν
   ·exact ν
 have pt:Ext S B H (S.set B H id) B H:=by
  refine⟨Qt Β bQ,λ_ _ _=>nJ.of ⟨λ_=>rfl,rfl,rfl⟩,λ_ h=>.inl h,λb o v hv=>?_,λ_ h=>h⟩;unfold aL.set at hv;split at hv
  ·rename_i dd N j8;split at hv
   ·rename_i e;subst e;exact .inr (.inl ⟨N,cG j8⟩)
   ·exact .inl hv
  ·exact .inl hv
 have κ:e4 m S B H σ (S.set B H id) B H σ':=⟨pt,ξ.left m⟩
 have s5:∀(l2:Χ),(∀p∈l2,sn id k l (a5 env p.1) p.2)->∀i,av S B σ (a5 env i) (bg.getD i undef)->av (S.set B H id) B σ' (a5 l2 i) (bg.getD i undef):=by
  intro l2
  induction l2 with
  | nil=>intro _ i _;exact .cg _
  | cons p l2 ω=>
   intro nY i ι;simp only[a5];split
   ·rename_i e;subst e;exact ι.Qu Β bQ ξ (nY p ζ)
   ·exact ω (λq Ξ=>nY q (by simp[Ξ])) i ι
 refine hW Q mn x cs b _ _ H bg γ hb ⟨ja,λi=>s5 env' cE i (π.cx i),π.size,by rw[hlen];exact π.rows⟩ (λj gF fP cU eQ bH t2 cp Ρ aa aX ca=>?_) (λa gF fP cU eQ bH t2 cp v Ρ aa aX ca gf=>?_)
 ·exact Φ j gF fP cU eQ bH t2 cp Ρ (κ.trans aa) aX ca
 ·exact he a gF fP cU eQ bH t2 cp v Ρ (κ.trans aa) aX ca gf
end
inductive xi (id:Nat):η->η->Prop where
 | same (a:η):xi id a a
 | nil {k:Nat}:xi id (.sl true k []) (.ms id 0 0 0)
def y7 (id:Nat) (r r':Row):Prop:=r'=r\/∃t n es es',r=.cells t n es/\r'=.cells t n es'/\es'.length=es.length/\
 ∀(i:Nat) (e aM:η),es[i]?=some e->es'[i]?=some aM->aM.cells.length=e.cells.length/\∀(x:Nat) (a bT:η),e.cells[x]?=some a->aM.cells[x]?=some bT->xi id a bT
section
variable {P:Program} {S:aL} {B:aW} {H:Α} {σ σ':List Row} {m nt k:Nat} {t:TypeId} {kk:List Item} {env:Χ} {Z:List Item->Χ->List Row->Prop} {E:η->Χ->List Row->Prop}
theorem b3.pad (hlen:B.length=σ.length) (ν:σ'.length=σ.length) (kE:∀(j:Nat) (r:Row),σ[j]?=some r->∃r',σ'[j]?=some r'/\y7 σ.length r r'):b3 S S B (B++[none]) σ (σ'++[.cells t k []]):=
 ⟨λ_ _ _ h=>h,λj r ι=>by
  have aO:=(bX.1 ι).1;obtain⟨r',J,U⟩:=kE j r ι;have dX:(B++[none])[j]?=B[j]?:=dI R;refine⟨r',by rw[dI R];exact J,?_⟩;rw[dX];rcases U with rfl|⟨t,n,es,es',rfl,rfl,μ,_⟩
  ·exact Row.sO _ _
  ·exact .inl ⟨es',rfl,μ,rfl⟩⟩
theorem av.EM (hlen:B.length=σ.length) (ν:σ'.length=σ.length) (ξ:b3 S S B (B++[none]) σ (σ'++[.cells t k []])) {a bT:η} (h:xi σ.length a bT) {v:Value} (ι:av S B σ a v):av S (B++[none]) (σ'++[.cells t k []]) bT v:=by
 cases h with
 | same=>exact ι.later ξ
 | nil=>
  have J:(σ'++[Row.cells t k []])[σ.length]?=some (.cells t k []):=by rw[<-ν];simp
  have U:(B++[none])[σ.length]?=some none:=by rw[<-hlen];simp
  cases ι with
  | iB base cap g=>
   obtain rfl:=g rfl;exact .ms 0 J rfl U (Nat.le_refl _) (Nat.le_refl _) (.inl rfl)
  | sl b o cap w g=>
   obtain rfl:cap=0:=g rfl;exact .ms 0 J rfl U (Nat.le_refl _) (Nat.le_refl _) (.inl rfl)
theorem W.pad (t:TypeId) (k:Nat) (ν:σ'.length=σ.length) (kE:∀(j:Nat) (r:Row),σ[j]?=some r->∃r',σ'[j]?=some r'/\y7 σ.length r r') (env':Χ) (cE:∀p∈env',xi σ.length (a5 env p.1) p.2)
  (hW:W P m nt kk env' (σ'++[.cells t k []]) Z E):W P m nt kk env σ Z E:=by
 intro Q mn x cs b S B H bg γ hb π Φ he;have Β:=π.holds;have hlen:=Β.len;have ξ:b3 S S B (B++[none]) σ (σ'++[.cells t k []]):=b3.pad hlen ν kE;have Qw:∀j,j<σ.length->(σ'++[Row.cells t k []])[j]?=σ'[j]?:=λj h=>dI R;have BP:∀j,j<σ.length->(B++[none])[j]?=B[j]?:=λj h=>dI R;have back:∀j r',j<σ.length->(σ'++[Row.cells t k []])[j]?=some r'->∃r,σ[j]?=some r/\y7 σ.length r r':=λj r' δ h=>by
  rw[Qw j δ] at h;obtain⟨r2,J,U⟩:=kE j _ (a8 δ);rw[h] at J;cases J;exact⟨_,a8 δ,U⟩
 have live:∀{r r':Row},y7 σ.length r r'->r'.live->r.live:=λ{r r'} h hv=>by
  rcases h with rfl|⟨_,_,_,_,rfl,rfl,_⟩
  ·exact hv
  ·trivial
 have low:∀j y,(B++[none])[j]?=some (some y)->j<σ.length:=λj y h=>by
  have J:=(bX.1 h).1;simp at J;by_cases e:j=B.length
  ·subst e;simp at h
  ·omega
 have ja:Holds S (B++[none]) (σ'++[.cells t k []]) H:=by
  refine⟨Β.dm,by simp;omega,λj r bo ι ey=>?_,λi j ew cj b gC gD fz hi δ h9 d' gQ cO=>?_,λj r b N ι fb hb o=>?_⟩
  ·by_cases e:j<σ.length
   ·rw[BP j e] at ey;obtain⟨r0,J,U⟩:=back j r e ι;have μ:=Β.row j r0 bo J ey;rcases U with rfl|⟨t2,n,es,es',rfl,rfl,Ε,au⟩
    ·refine μ.later ξ (λb N _=>⟨λ_=>rfl,rfl,rfl⟩) λb4 left cur Δ=>?_;subst Δ;obtain⟨_,_,aZ,kX,xs,clock,seen,_,eP,⟨es,du⟩,_⟩:=μ;have hm:=(bX.1 du).1;refine⟨?_,BP b4 hm,λb N _=>⟨λ_=>rfl,rfl,rfl⟩⟩;obtain⟨r',dn,p2⟩:=kE b4 _ du;rcases p2 with rfl|⟨_,_,_,_,p3,_⟩
     ·rw[Qw b4 hm,dn,du]
     ·cases p3
    ·cases bo with
     | none=>
      have:es=[]:=μ;subst this;exact dO.1 Ε
     | some y=>
      obtain⟨b,N⟩:=y;obtain⟨Ρ,aa,aX,w,ca⟩:=μ;refine⟨Ρ,by rw[Ε];exact aa,aX,w,λi aM hi=>?_⟩;have aO:i<es.length:=by rw[<-Ε];exact(bX.1 hi).1
      obtain⟨c1,c2⟩:=ca i _ (a8 aO);obtain⟨d1,d2⟩:=au i _ aM (a8 aO) hi;refine⟨d1.trans c1,λx bT γ=>?_⟩;have nN:x<(es[i]).cells.length:=by rw[<-d1];exact(bX.1 γ).1
      obtain⟨eP,du,gd⟩:=c2 x _ (a8 nN);exact⟨eP,du.EM hlen ν ξ (d2 x _ bT (a8 nN) γ),gd⟩
   ·have J:=(bX.1 ι).1;simp at J;have lx:j=σ'.length:=R;subst lx;rw[ν,<-hlen] at ey;simp at ι ey;subst ι;subst ey;rfl
  ·have li:=low i _ gQ
   have pO:=low j _ cO;obtain⟨r1,a1,a9⟩:=back i ew li hi;obtain⟨r2,bC,dt⟩:=back j cj pO δ;rw[BP i li] at gQ;rw[BP j pO] at cO;exact Β.inj i j r1 r2 b gC gD fz a1 bC (live a9 h9) (live dt d') gQ cO
  ·have pO:=low j _ hb;obtain⟨r1,a1,a9⟩:=back j r pO ι;rw[BP j pO] at hb;exact Β.sep j r1 b N a1 (live a9 fb) hb o
 have pt:Ext S B H S (B++[none]) H:=(Β.push (r:=.cells t k []) (bo:=none) (λb N h=>by cases h) (λb _=>⟨λ_=>rfl,rfl,rfl⟩) (λ_=>rfl)).2.1
 have κ:e4 m S B H σ S (B++[none]) H (σ'++[.cells t k []]):=⟨pt,ξ.left m⟩
 have s5:∀(l2:Χ),(∀p∈l2,xi σ.length (a5 env p.1) p.2)->∀i,av S B σ (a5 env i) (bg.getD i undef)->av S (B++[none]) (σ'++[.cells t k []]) (a5 l2 i) (bg.getD i undef):=by
  intro l2
  induction l2 with
  | nil=>intro _ i _;exact .cg _
  | cons p l2 ω=>
   intro nY i ι;simp only[a5];split
   ·rename_i e;subst e;exact ι.EM hlen ν ξ (nY p ζ)
   ·exact ω (λq Ξ=>nY q (by simp[Ξ])) i ι
 refine hW Q mn x cs b _ _ H bg γ hb ⟨ja,λi=>s5 env' cE i (π.cx i),π.size,by have:=π.rows;simp;omega⟩ (λj gF fP cU eQ bH t2 cp Ρ aa aX ca=>?_) (λa gF fP cU eQ bH t2 cp v Ρ aa aX ca gf=>?_)
 ·exact Φ j gF fP cU eQ bH t2 cp Ρ (κ.trans aa) aX ca
 ·exact he a gF fP cU eQ bH t2 cp v Ρ (κ.trans aa) aX ca gf
theorem W.dξ (t:TypeId) (k:Nat) {i:Nat} {r r':Row} (hi:σ[i]?=some r) (ι:y7 σ.length r r') (env':Χ) (cE:∀p∈env',xi σ.length (a5 env p.1) p.2) (hW:W P m nt kk env' (σ.set i r'++[.cells t k []]) Z E):W P m nt kk env σ Z E:=
 W.pad t k ζ (λj q δ=>by
  by_cases e:j=i
  ·subst e;rw[hi] at δ;cases δ;exact⟨r',by rw[List.getElem?_set_self (bX.1 hi).1],ι⟩
  ·exact⟨q,by rw[List.getElem?_set_ne (Ne.symm e)];exact δ,.inl rfl⟩) env' cE hW
end
section
variable {P:Program} {T:bb} {A:List Nat} {m nt:Nat} {k:List Item} {env env':Χ} {σ:List Row} {Z:List Item->Χ->List Row->Prop} {E:η->Χ->List Row->Prop} {ops:Array Oper} {lo pu ids:List Nat}
def pP (ids:List Nat):η->Bool
 | .ah id _ _ _=>ids.contains id
 | .ms id _ _ _=>ids.contains id
 | _=>false
def seen (ids:List Nat) (σ:List Row):List (Option Row):=ids.map λid=>σ[id]?
def BQ (T:bb) (A:List Nat) (env:Χ) (o:Oper) (ids:List Nat) (σ:List Row) (K:η->Prop):Prop:=match o.op with
 | .load ty x=>pP ids (aR env x)=true/\(jx T A env o).dZ (λ_=>False) ((ow T ty σ (aR env x)).dZ λa _=>K a)
 | .fieldAddr ty x f=>pP ids (aR env x)=true/\(jx T A env o).dZ (λ_=>False) ((ox T ty f σ (aR env x)).dZ λa _=>K a)
 | .indexAddr ty x bB=>pP ids (aR env x)=true/\(jx T A env o).dZ (λ_=>False) ((oy T ty σ (aR env x) (aR env bB)).dZ λa _=>K a)
 | _=>False
theorem JS {o:Oper} {ids:List Nat} {K:η->Prop}:BQ T A env o ids σ K=match o.op with
 | .load ty x=>pP ids (aR env x)=true/\(jx T A env o).dZ (λ_=>False) ((ow T ty σ (aR env x)).dZ λa _=>K a)
 | .fieldAddr ty x f=>pP ids (aR env x)=true/\(jx T A env o).dZ (λ_=>False) ((ox T ty f σ (aR env x)).dZ λa _=>K a)
 | .indexAddr ty x bB=>pP ids (aR env x)=true/\(jx T A env o).dZ (λ_=>False) ((oy T ty σ (aR env x) (aR env bB)).dZ λa _=>K a)
 | _=>False:=Eq.trans rfl rfl
def mF (P:Program) (T:bb) (A:List Nat) (nt:Nat) (ops:Array Oper) (lo pu ids:List Nat):List Nat->Χ->List Row->List Bool->(Χ->List Row->Prop)->Prop
 | [],env,σ,tags,K=>s' (m7 lo pu) ops tags=true/\K env σ
 | i::is,env,σ,tags,K=>gg ops[i]? λo=>hc nt o=true/\gg (fe env ops o) λw=>
   ic w (mF P T A nt ops lo pu ids is (b0 o env .cg) σ (tags++[false]) K)
    (ic (!lo.contains i) (BQ T A env o ids σ λa=>mF P T A nt ops lo pu ids is (b0 o env a) σ (tags++[true]) K)
     (tg P T A env o σ (λa=>mF P T A nt ops lo pu ids is (b0 o env a) σ (tags++[false]) K) (λa σ'=>(pu.contains i=true->seen ids σ'=seen ids σ)/\mF P T A nt ops lo pu ids is (b0 o env a) σ' (tags++[true]) K)))
theorem Qx {tags:List Bool} {K:Χ->List Row->Prop}:mF P T A nt ops lo pu ids [] env σ tags K=(s' (m7 lo pu) ops tags=true/\K env σ):=Eq.trans rfl rfl
theorem JU {i:Nat} {is:List Nat} {tags:List Bool} {K:Χ->List Row->Prop}:mF P T A nt ops lo pu ids (i::is) env σ tags K=gg ops[i]? λo=>hc nt o=true/\gg (fe env ops o) λw=>
   ic w (mF P T A nt ops lo pu ids is (b0 o env .cg) σ (tags++[false]) K)
    (ic (!lo.contains i) (BQ T A env o ids σ λa=>mF P T A nt ops lo pu ids is (b0 o env a) σ (tags++[true]) K)
     (tg P T A env o σ (λa=>mF P T A nt ops lo pu ids is (b0 o env a) σ (tags++[false]) K) (λa σ'=>(pu.contains i=true->seen ids σ'=seen ids σ)/\mF P T A nt ops lo pu ids is (b0 o env a) σ' (tags++[true]) K))):=Eq.trans rfl rfl
theorem Qy {i:iC} {l:List η} (τ:List Row):(rA i l).dw τ=match s7 i l with|some a=>.ok a τ|none=>.bad:=by
 unfold rA s7;split
 ·split<;>rfl
 ·cases l<;>rfl
theorem FH {ids:List Nat} {τ:List Row} {id:Nat} (h:seen ids τ=seen ids σ) (hi:ids.contains id=true):τ[id]?=σ[id]?:=by
 have hm:=List.contains_iff_mem.1 hi;exact List.map_inj_left.1 h id hm
theorem Qz {ids:List Nat} {ty:TypeId} {x:η} {τ:List Row} (lq:seen ids τ=seen ids σ) (γ:pP ids x=true):(∀a σ',ow T ty σ x=.ok a σ'->ow T ty τ x=.ok a τ)/\∀p r,ow T ty σ x≠.b6 p r:=by
 unfold ow;split
 ·rename_i id n i j;rw[FH lq γ];split
  ·split
   ·split
    ·rw[Qy,Qy];split
     ·exact⟨λa σ' h=>(by cases h;rfl),nofun⟩
     ·exact⟨nofun,nofun⟩
    ·exact⟨nofun,nofun⟩
   ·exact⟨nofun,nofun⟩
  ·exact⟨nofun,nofun⟩
 ·exact⟨nofun,nofun⟩
theorem QA {ids:List Nat} {ty:TypeId} {f:Nat} {x:η} {τ:List Row} (lq:seen ids τ=seen ids σ) (γ:pP ids x=true):(∀a σ',ox T ty f σ x=.ok a σ'->ox T ty f τ x=.ok a τ)/\∀p r,ox T ty f σ x≠.b6 p r:=by
 unfold ox;split
 ·rename_i id n i j;rw[FH lq γ];split
  ·split
   ·exact⟨λa σ' h=>(by cases h;rfl),nofun⟩
   ·exact⟨nofun,nofun⟩
  ·exact⟨nofun,nofun⟩
 ·exact⟨nofun,nofun⟩
theorem QB {ids:List Nat} {ty:TypeId} {x bB:η} {τ:List Row} (lq:seen ids τ=seen ids σ) (γ:pP ids x=true):(∀a σ',oy T ty σ x bB≠.ok a σ')/\∀p a σ',oy T ty σ x bB=.b6 p (.ok a σ')->oy T ty τ x bB=.b6 p (.ok a τ):=by
 unfold oy;split
 ·split
  ·rename_i id m i len;rw[FH lq γ];split
   ·split
    ·exact⟨nofun,λp a σ' h=>(by cases h;rfl)⟩
    ·exact⟨nofun,nofun⟩
   ·exact⟨nofun,nofun⟩
  ·exact⟨nofun,nofun⟩
 ·split
  ·rename_i id m i j;rw[FH lq γ];split
   ·split
    ·exact⟨nofun,λp a σ' h=>(by cases h;rfl)⟩
    ·exact⟨nofun,nofun⟩
   ·exact⟨nofun,nofun⟩
  ·exact⟨nofun,nofun⟩
 ·exact⟨nofun,nofun⟩
theorem dο (Ι:bN P T) {i:Nat} {o:Oper} {K:η->Prop} (ψ:ops[i]?=some o) (hd:hc nt o=true) (hw:fe env ops o=some true) (h:BQ T A env o ids σ K) :
  ∃a,jb o=true/\(∀τ:List Row,seen ids τ=seen ids σ->uQ P m nt k Z E ops i o env τ a τ)/\K a:=by
 unfold BQ at h;split at h
 ·rename_i ty x Μ;obtain⟨bf,h⟩:=h;unfold cw.dZ at h;split at h
  ·exact h.elim
  ·exact h.2.elim
  ·exact h.elim
  ·rename_i nQ;unfold cV.dZ at h;split at h
   ·rename_i a σ' κ;refine⟨a,by unfold jb;rw[Μ],λτ lq env' rest ν hW=>?_,h⟩;refine .op (A:=A) Ι ψ (by rw[k0 ν];exact hw) hd (λc ε=>by rw[Μ] at ε;cases ε) ?_;have:ib T A env τ o=.ok a τ:=by unfold ib;rw[Μ];exact(Qz lq bf).1 a σ' κ
    rw[tf ν,yl ν,nQ,this];exact hW
   ·rename_i p a σ' κ;exact absurd κ ((Qz (σ:=σ) (τ:=σ) rfl bf).2 _ _)
   ·exact h.elim
 ·rename_i ty x f Μ;obtain⟨bf,h⟩:=h;unfold cw.dZ at h;split at h
  ·exact h.elim
  ·exact h.2.elim
  ·exact h.elim
  ·rename_i nQ;unfold cV.dZ at h;split at h
   ·rename_i a σ' κ;refine⟨a,by unfold jb;rw[Μ],λτ lq env' rest ν hW=>?_,h⟩;refine .op (A:=A) Ι ψ (by rw[k0 ν];exact hw) hd (λc ε=>by rw[Μ] at ε;cases ε) ?_;have:ib T A env τ o=.ok a τ:=by unfold ib;rw[Μ];exact(QA lq bf).1 a σ' κ
    rw[tf ν,yl ν,nQ,this];exact hW
   ·rename_i p a σ' κ;exact absurd κ ((QA (σ:=σ) (τ:=σ) rfl bf).2 _ _)
   ·exact h.elim
 ·rename_i ty x bB Μ;obtain⟨bf,h⟩:=h;unfold cw.dZ at h;split at h
  ·exact h.elim
  ·exact h.2.elim
  ·exact h.elim
  ·rename_i nQ;unfold cV.dZ at h;split at h
   ·rename_i a σ' κ;exact absurd κ ((QB (σ:=σ) (τ:=σ) rfl bf).1 _ _)
   ·rename_i p a σ' κ;refine⟨a,by unfold jb;rw[Μ],λτ lq env' rest ν hW=>?_,h.2⟩;refine .op (A:=A) Ι ψ (by rw[k0 ν];exact hw) hd (λc ε=>by rw[Μ] at ε;cases ε) ?_;have:ib T A env τ o=.b6 p (.ok a τ):=by unfold ib;rw[Μ];exact(QB lq bf).2 p a σ' κ
    rw[tf ν,yl ν,nQ,this];exact⟨h.1,hW⟩
   ·exact h.elim
 ·exact h.elim
theorem dπ (Ι:bN P T) {i:Nat} {o:Oper} {fv:η->Prop} {iH:η->List Row->Prop} (ψ:ops[i]?=some o) (hd:hc nt o=true) (hw:fe env ops o=some true) (h:tg P T A env o σ fv iH) :
  ∃a σ' tag,iI P m nt k Z E ops i o env σ tag a σ'/\(tag=false->fv a/\σ'=σ)/\(tag=true->iH a σ'):=by
 unfold tg at h;split at h
 ·rename_i f args ej Μ;have uT:∀env',oE ops o env env'->aR env' f=aR env f/\args.toList.map (aR env')=args.toList.map (aR env):=λenv' ν=>by
   have γ:=AF ν;rw[Μ] at γ;refine⟨γ f (by simp[Op.operands,Call.operands]),AG λx AH=>γ x (by simp[Op.operands,Call.operands,AH])⟩
  rcases h with⟨r,ε,h⟩|⟨r,σ',ε,h⟩
  ·refine⟨r,σ,false,?_,λ_=>⟨h,rfl⟩,nofun⟩;unfold iI;simp only[Bool.false_eq_true,if_false];refine⟨λenv' σ' rest ν hW=>.call ψ (by rw[k0 ν];exact hw) hd Μ ?_,trivial⟩;obtain⟨Γ,Δ⟩:=uT env' ν;rw[Γ,Δ];exact(ε σ').mono (λa s ⟨x,y⟩=>by subst x;subst y;exact hW) (λ_ _ h=>h.elim)
  ·refine⟨r,σ',true,?_,nofun,λ_=>h⟩;unfold iI;simp only[if_true];refine⟨?_,λι=>by unfold jb at ι;rw[Μ] at ι;cases ι⟩;refine λenv' rest ν hW=>.call ψ (by rw[k0 ν];exact hw) hd Μ ?_;obtain⟨Γ,Δ⟩:=uT env' ν;rw[Γ,Δ];exact ε.mono (λa s ⟨x,y⟩=>by subst x;subst y;exact hW) (λ_ _ h=>h.elim)
 ·exact h.elim
 ·exact h.elim
 ·rename_i J U μ;have uU:∀(r:cw) (a:η),jx T A env o=r->(∀K:η->List Row->Prop,∀s,K a s->(r.dw s).holds K)->(∀σ s,r.or σ s=r.dw σ)->uP P m nt k Z E ops i o env a:=λr a ι aY AI env' σ' rest ν hW=>by
   refine .op (A:=A) Ι ψ (by rw[k0 ν];exact hw) hd (λc ε=>μ c ε) ?_;rw[tf ν,ι,AI];exact aY _ _ hW
  unfold cw.dZ at h;split at h
  ·rename_i a κ;refine⟨a,σ,false,?_,λ_=>⟨h,rfl⟩,nofun⟩;unfold iI;simp only[Bool.false_eq_true,if_false];exact⟨uU _ a κ (λK s χ=>χ) (λ_ _=>rfl),trivial⟩
  ·rename_i p a κ;refine⟨a,σ,false,?_,λ_=>⟨h.2,rfl⟩,nofun⟩;unfold iI;simp only[Bool.false_eq_true,if_false];exact⟨uU _ a κ (λK s χ=>⟨h.1,χ⟩) (λ_ _=>rfl),trivial⟩
  ·exact h.elim
  ·rename_i nQ;have wF:∀(a:η) (σ':List Row) (r:cV),ib T A env σ o=r->(∀K:η->List Row->Prop,K a σ'->r.holds K)->uQ P m nt k Z E ops i o env σ a σ':=λa σ' r ι aY env' rest ν hW=>by
    refine .op (A:=A) Ι ψ (by rw[k0 ν];exact hw) hd (λc ε=>μ c ε) ?_;rw[tf ν,yl ν,nQ,ι];exact aY _ hW
   unfold cV.dZ at h;split at h
   ·rename_i a σ' κ;refine⟨a,σ',true,?_,nofun,λ_=>h⟩;unfold iI;simp only[if_true];exact⟨wF a σ' _ κ λK χ=>χ,λι=>ym (p:=True) ι (.inl κ)⟩
   ·rename_i p a σ' κ;refine⟨a,σ',true,?_,nofun,λ_=>h.2⟩;unfold iI;simp only[if_true];exact⟨wF a σ' _ κ λK χ=>⟨h.1,χ⟩,λι=>ym ι (.inr κ)⟩
   ·exact h.elim
def JV (lo pu ids:List Nat) (P:Program) (m nt:Nat) (k:List Item) (Z:List Item->Χ->List Row->Prop) (E:η->Χ->List Row->Prop) (ops:Array Oper) (i:Nat) (o:Oper) (env:Χ) (σ:List Row) (tag:Bool) (a:η) (σ':List Row):Prop:=
 iI P m nt k Z E ops i o env σ tag a σ'/\(lo.contains i=true->tag=true->jb o=true/\∀τ:List Row,seen ids τ=seen ids σ->uQ P m nt k Z E ops i o env τ a τ)/\(pu.contains i=true->seen ids σ'=seen ids σ)
theorem dρ (Ι:bN P T) {i:Nat} {is:List Nat} {tags:List Bool} {K:Χ->List Row->Prop} (h:mF P T A nt ops lo pu ids (i::is) env σ tags K) :
  ∃o a σ' tag,ops[i]?=some o/\JV lo pu ids P m nt k Z E ops i o env σ tag a σ'/\mF P T A nt ops lo pu ids is (b0 o env a) σ' (tags++[tag]) K:=by
 unfold mF gg at h;split at h
 ·exact h.elim
 ·rename_i o ψ;obtain⟨hd,h⟩:=h;split at h
  ·exact h.elim
  rename_i w hw;unfold ic at h;cases w
  ·replace h:=h.1 rfl
   refine⟨o,.cg,σ,false,ψ,⟨?_,λ_ h=>(by cases h),λ_=>rfl⟩,h⟩;unfold iI;simp only[Bool.false_eq_true,if_false];exact⟨λenv' σ' rest ν hW=>.unwanted ψ (by rw[k0 ν];exact hw) hd hW,trivial⟩
  ·replace h:=h.2 rfl
   cases ξ:lo.contains i with
   | true=>
    rw[ξ] at h;obtain⟨a,J,U,μ⟩:=dο (m:=m) (k:=k) (Z:=Z) (E:=E) Ι ψ hd hw (h.1 rfl);refine⟨o,a,σ,true,ψ,⟨?_,λ_ _=>⟨J,U⟩,λ_=>rfl⟩,μ⟩;unfold iI;simp only[if_true];exact⟨U σ rfl,λ_=>trivial⟩
   | false=>
    rw[ξ] at h;obtain⟨a,σ',tag,J,U,μ⟩:=dπ (m:=m) (k:=k) (Z:=Z) (E:=E) Ι ψ hd hw (h.2 rfl);cases tag with
    | false=>
     obtain⟨Ε,rfl⟩:=U rfl;exact⟨o,a,σ',false,ψ,⟨J,λγ=>(by rw[ξ] at γ;cases γ),λ_=>rfl⟩,Ε⟩
    | true=>
     obtain⟨Ε,au⟩:=μ rfl;exact⟨o,a,σ',true,ψ,⟨J,λγ=>(by rw[ξ] at γ;cases γ),Ε⟩,au⟩
theorem dς (Ι:bN P T) {K:Χ->List Row->Prop} {env0:Χ}:∀(d i:Nat) (tags:List Bool) (as9:Nat->η) (σs:Nat->List Row),i+d=ops.size->tags.length=i->
  (∀j o,j<i->ops[j]?=some o->JV lo pu ids P m nt k Z E ops j o (cD ops env0 as9 (λ_=>true) j) (σs j) (tags.getD j false) (as9 j) (σs (j+1)))->
  mF P T A nt ops lo pu ids (List.range' i d) (cD ops env0 as9 (λ_=>true) i) (σs i) tags K->
  ∃(tags:List Bool) (as9:Nat->η) (jQ:Nat->List Row),s' (m7 lo pu) ops tags=true/\jQ 0=σs 0/\(∀j o,ops[j]?=some o->JV lo pu ids P m nt k Z E ops j o (cD ops env0 as9 (λ_=>true) j) (jQ j) (tags.getD j false) (as9 j) (jQ (j+1)))/\K (cD ops env0 as9 (λ_=>true) ops.size) (jQ ops.size):=by
 intro d
 induction d with
 | zero=>
  intro i tags as9 σs hi Ν δ h;simp only[List.range'_zero,mF] at h;have:i=ops.size:=R;subst this;exact⟨tags,as9,σs,h.1,rfl,λj o ψ=>δ j o (Array.getElem?_eq_some_iff.1 ψ).1 ψ,h.2⟩
 | succ d ω=>
  intro i tags as9 σs hi Ν δ h;rw[List.range'_succ] at h;obtain⟨o,a,σ',tag,ψ,AJ,h⟩:=dρ (m:=m) (k:=k) (Z:=Z) (E:=E) Ι h;let hR:Nat->η:=λj=>if j=i then a else as9 j
  let jQ:Nat->List Row:=λj=>if j=i+1 then σ' else σs j
  have qu:∀j,j<=i->cD ops env0 as9 (λ_=>true) j=cD ops env0 hR (λ_=>true) j:=λj δ=>HZ j λx γ=>by simp only[hR];rw[if_neg R]
  have AK:cD ops env0 hR (λ_=>true) (i+1)=b0 o (cD ops env0 as9 (λ_=>true) i) a:=by
   simp only[cD,if_true,ψ];rw[<-qu i (Nat.le_refl i)];simp only[hR,if_true]
  have:=ω (i+1) (tags++[tag]) hR jQ R (by simp[Ν]) (λj bR aO de=>?_) ?_
  ·obtain⟨t2,a9,s2,Ρ,aa,aX,ca⟩:=this;exact⟨t2,a9,s2,Ρ,aa.trans (by simp only[jQ];rw[if_neg R]),aX,ca⟩
  ·by_cases e:j=i
   ·subst e;rw[ψ] at de;cases de;rw[<-qu j (Nat.le_refl j)];have Γ:(tags++[tag]).getD j false=tag:=by rw[List.getD_eq_getElem?_getD,hp R,Ν];simp
    rw[Γ];simp only[hR,jQ,if_true];rw[if_neg R];exact AJ
   ·have:=δ j bR R de;rw[<-qu j R];have Γ:(tags++[tag]).getD j false=tags.getD j false:=by rw[List.getD_eq_getElem?_getD,dI R,<-List.getD_eq_getElem?_getD]
    rw[Γ];simp only[hR,jQ];rw[if_neg R,if_neg R,if_neg R];exact this
  ·rw[AK];simp only[jQ,if_true];exact h
theorem W.QC (lo pu ids:List Nat) (Ι:bN P T) (qv:P.follows .mixedOrders=true) {id:Nat} (h:∀Θ:Χ->List Row->Prop,(∀env σ,W P m nt k env σ Z E->Θ env σ)->mF P T A nt ops lo pu ids (idx ops.size []) env σ [] Θ):W P m nt (.code (.region id ops true)::k) env σ Z E:=by
 have an:=h (λenv σ=>W P m nt k env σ Z E) λ_ _ h=>h;rw[idx_eq,List.range_eq_range'] at an;obtain⟨tags,as9,σs,Ρ,aa,aX,ca⟩:=dς (m:=m) (k:=k) (Z:=Z) (E:=E) (env0:=env) Ι ops.size 0 [] (λ_=>.cg) (λ_=>σ) R rfl (λj o δ=>R) an;intro Q mn x cs b S B H t γ hb π Φ he;refine .draw γ hb λn=>?_;have key:=W.Nf (lo:=lo) (pu:=pu) (v:=seen ids) (P:=P) (m:=m) (nt:=nt) (k:=k) (Z:=Z) (E:=E) (ops:=ops) (as9:=as9) (σs:=σs) (tags:=tags) (env0:=env) Ρ
  (λi o ψ Ν=>by have:=(aX i o ψ).1;unfold iI at this;rw[Ν] at this;simpa using this)
  (λi o ψ Ν=>by have:=(aX i o ψ).1;unfold iI at this;rw[Ν] at this;simpa using this)
  (λi o ψ ξ Ν=>(aX i o ψ).2.1 ξ Ν) (λi o ψ π=>(aX i o ψ).2.2 π)
  (.bF ca) ops.size n (Array.replicate ops.size false) env 0 ζ (λi=>?_) (λi o ψ ξ=>?_) (Nat.zero_le _) (λj δ _=>?_) ?_
 ·rw[aa] at key;rw[qv];simp only[Region.schedule,Bool.true_or,if_true,Region.linearise];exact key Q mn x cs b S B H t γ hb π Φ he
 ·have:∀n,cD ops env as9 (λi=>(Array.replicate ops.size false).getD i false) n=env:=by
   intro n
   induction n with
   | zero=>rfl
   | succ n ω=>
    simp only[cD];have:(Array.replicate ops.size false).getD n false=false:=by
     rw[Array.getD_eq_getD_getElem?,Array.getElem?_replicate];split<;>rfl
    rw[if_neg (by rw[this];simp)];exact ω
  rw[this]
 ·have:(Array.replicate ops.size false).getD i false=false:=by
   rw[Array.getD_eq_getD_getElem?,Array.getElem?_replicate];split<;>rfl
  rw[this] at ξ;cases ξ
 ·have:(Array.replicate ops.size false).getD j false=false:=by
   rw[Array.getD_eq_getD_getElem?,Array.getElem?_replicate];split<;>rfl
  rw[this];simp
 ·have:=List.length_filter_le (λi=>!(Array.replicate ops.size false).getD i false) (List.range ops.size);simpa using this
end
end Go.TL
namespace Go.TL
open Go.Proofs
variable [bp]
def gK (b:Nat):List (List c8)->List η
 | []=>[]
 | l::C=>.ms b l.length 0 l.length::gK (b+1) C
def gv (C:List (List c8)):List Row:=C.map λl=>.cells 28 3 (l.map eB)
theorem dτ (b:Nat) (C:List (List c8)) (l:List c8):gK b (C++[l])=gK b C++[.ms (b+C.length) l.length 0 l.length]:=by
 induction C generalizing b with
 | nil=>rfl
 | cons c C ω=>
  show _::gK (b+1) (C++[l])=_;rw[ω,show b+1+C.length=b+(c::C).length by simp;omega];rfl
theorem y8 (b:Nat) (C:List (List c8)):(gK b C).length=C.length:=by
 induction C generalizing b with
 | nil=>rfl
 | cons c C ω=>simp[gK,ω]
theorem QD (σ L:List Row) (k:Nat):(σ++L)[σ.length+k]?=L[k]?:=by rw[hp R];congr 1;omega
theorem dυ (σ L:List Row):(σ++L)[σ.length]?=L[0]?:=QD σ L 0
theorem QE (σ L:List Row) (k:Nat) (x:Row):(σ++L).set (σ.length+k) x=σ++L.set k x:=by rw[List.set_append_right _ _ R];congr 2;omega
theorem dφ (σ L:List Row) (x:Row):(σ++L).set σ.length x=σ++L.set 0 x:=QE σ L 0 x
theorem dχ (s:aS) (h:s.small) (σ:List Row):ab Tryz.prog 25 [fS s] σ (λa r=>a=.a0 [aT s.ae,a6 s.aj,.ms (σ.length+2) s.cells.length 0 s.cells.length]/\r=σ++(.dead::.dead::.cells 60 1 (gK (σ.length+3) s.cells)::gv s.cells)) (λ_ _=>False):=by
 obtain⟨J,U,μ,Ε,au⟩:=h;obtain⟨n,Ζ⟩:=aK σ.length;have Ο:=QD σ;have om:=dυ σ;have ν:=QE σ;have iz:=dφ σ;rw[<-Ζ] at Ο om ν iz ⊢;refine ab.body Υ Tryz.func25 rfl rfl Tryz.ntmps25 rfl rfl ζ ?_
 repeat apply Ω
 refine dB (A:=[2]) Υ λΘ θ=>?_;simp;(repeat (rw[al];simp[Ζ.symm]));apply θ;refine W.to (σ':=σ++[ek (.sl true 0 []) (.sl true 0 []) (.sl true 0 [])]) (env':=[(1,.ao [aT s.ae,a6 s.aj,bx s.cells]),(2,.ah n 1 0 0)]) ?_ ζ ζ
 repeat apply Ω
 refine W.draw (A:=[3]) Υ mixed λΘ θ=>?_;simp;(repeat (rw[dq];simp[Ζ.symm]));try rw[dp]
 refine⟨R,?_⟩;refine eZ (az.p (WE s.aj R (λx γ=>by have:=Ε x γ;omega)) (bI.refl _) ζ ζ) ?_;simp[Ζ.symm];(repeat (rw[dq];simp[Ζ.symm]));try rw[dp]
 refine e5 (θ _ _ ?_);refine W.to (σ':=σ++[ek (.sl true 0 []) (.sl true 0 []) (.sl true 0 []),ek (aT s.ae) (a6 s.aj) (.sl true 0 [])]) (env':=[(1,.ao [aT s.ae,a6 s.aj,bx s.cells]),(2,.ah n 1 0 0),(3,.ah (n+1) 1 0 0)]) ?_ ζ ζ;have dψ:y7 (n+2) (ek (aT s.ae) (a6 s.aj) (.sl true 0 [])) (ek (aT s.ae) (a6 s.aj) (.ms (n+2) 0 0 0)):=by
  refine .inr ⟨26,3,_,_,rfl,rfl,rfl,λi e aM J U=>?_⟩
  match i with
  | 0=>
   simp at J U;subst J;subst U;refine⟨rfl,λx a bT μ Ε=>?_⟩
   match x with
   | 0=>simp[η.cells] at μ Ε;subst μ;subst Ε;exact .same _
   | 1=>simp[η.cells] at μ Ε;subst μ;subst Ε;exact .same _
   | 2=>simp[η.cells] at μ Ε;subst μ;subst Ε;exact .nil
   | x+3=>simp[η.cells] at μ
  | i+1=>simp at J
 have dω:(σ++[ek (.sl true 0 []) (.sl true 0 []) (.sl true 0 []),ek (aT s.ae) (a6 s.aj) (.sl true 0 [])]).length=n+2:=by simp[<-Ζ]
 refine W.dξ 60 1 (i:=n+1) (r:=ek (aT s.ae) (a6 s.aj) (.sl true 0 [])) (r':=ek (aT s.ae) (a6 s.aj) (.ms (n+2) 0 0 0)) (by rw[Ο];rfl) (by rw[dω];exact dψ) [(1,.ao [aT s.ae,a6 s.aj,bx s.cells]),(2,.ah n 1 0 0),(3,.ah (n+1) 1 0 0)] (λp π=>by
  simp only[List.mem_cons,List.not_mem_nil,or_false] at π;rcases π with rfl|rfl|rfl<;>exact .same _) ?_
 rw[ν,List.append_assoc];refine Η ?_;refine W.iter (λi:Nat=>i<=s.cells.length) (λi=>[(1,.ao [aT s.ae,a6 s.aj,bx s.cells]),(2,.ah n 1 0 0),(3,.ah (n+1) 1 0 0),(4,I i)])
  (λi=>σ++(ek (.sl true 0 []) (.sl true 0 []) (.sl true 0 [])::ek (aT s.ae) (a6 s.aj) (.ms (n+2) i 0 i)::.cells 60 1 (gK (n+3) (s.cells.take i))::gv (s.cells.take i))) (λi=>s.cells.length-i) 0 (Nat.zero_le _) (by simp[gK,gv]) ζ (λi hi ω=>?_)
 refine Η ?_;refine W.eS rfl (λε=>?_) (λε=>?_)
 ·have ε:i<s.cells.length:=by simpa using ε
  have π:s.cells[i].length<2 ^ 30:=au _ (List.getElem_mem ε)
  have eW:s.cells.take (i+1)=s.cells.take i++[s.cells[i]]:=List.take_succ_eq_append_getElem ε
  have kj:=fl ε (show s.cells.length<2 ^ 62 by omega)
  have cm:=a8 ε;obtain⟨l,ξ⟩:=aK (s.cells[i]);have qt:∀h,s.cells[i]'h=l:=λh=>ξ.symm;rw[<-ξ] at eW cm π;have JW:(gK (n+3) (s.cells.take i)).length=i:=by rw[y8,List.length_take];omega
  have mr:(gv (s.cells.take i)).length=i:=by unfold gv;rw[List.length_map,List.length_take];omega
  have FI:=dτ (n+3) (s.cells.take i) l
  have zN:gv (s.cells.take i++[l])=gv (s.cells.take i)++[.cells 28 3 (l.map eB)]:=by simp[gv]
  have HH:(s.cells.take i).length=i:=by rw[List.length_take];omega
  rw[HH] at FI;rw[<-eW] at FI zN;have ω:=ω (i+1) ε R;rw[FI,zN] at ω;obtain⟨M,dG⟩:=aK (gK (n+3) (s.cells.take i));obtain⟨ak,aI⟩:=aK (gv (s.cells.take i));rw[<-dG] at JW ω ⊢;rw[<-aI] at mr ω ⊢;clear dG aI FI zN eW ξ;have jΦ:∀x,(σ++(ek (.sl true 0 []) (.sl true 0 []) (.sl true 0 [])::ek (aT s.ae) (a6 s.aj) (.ms (n+2) (i+1) 0 (i+1))::.cells 60 1 (M++[x])::ak))[n+2]?=some (.cells 60 1 (M++[x])):=λx=>by rw[Ο];rfl
  repeat apply Ω
  refine W.QC [0,1] [8,9] [n+1] (A:=[28,30]) Υ mixed λΘ θ=>?_;simp[Ζ.symm,Ο,om,ν,iz,ε,cm,qt,JW,mr]
  repeat (rw[JU];simp[JS,seen,pP,Ζ.symm,Ο,om,ν,iz,ε,cm,qt,JW,mr])
  try rw[Qx]
  refine⟨R,R,HY (by kernel_rfl),θ _ _ ?_⟩;refine Η ?_;refine W.to ω ?_ (by simp[kj]);simp;omega
 ·have ε:i=s.cells.length:=by simp at ε;omega
  subst ε;refine W.exit rfl ?_;rw[List.take_length];obtain⟨M,dG⟩:=aK (gK (n+3) s.cells);obtain⟨ak,aI⟩:=aK (gv s.cells);have tH:M.length<=s.cells.length:=by rw[dG,y8];exact Nat.le_refl _
  rw[<-dG,<-aI]
  repeat apply Ω
  refine W.iN (A:=[]) Υ [(2,.ah n 1 0 0)] (σ++(ek (aT s.ae) (a6 s.aj) (.ms (n+2) s.cells.length 0 s.cells.length)::ek (aT s.ae) (a6 s.aj) (.ms (n+2) s.cells.length 0 s.cells.length)::.cells 60 1 M::ak)) ?_ (by
   (try simp);(repeat (rw[al];simp[Ζ.symm,Ο,om,ν,iz,tH]));(try simp[Ζ.symm,Ο,om,ν,iz,tH]))
  refine W.qZ (σ':=σ++(ek (aT s.ae) (a6 s.aj) (.ms (n+2) s.cells.length 0 s.cells.length)::.dead::.cells 60 1 M::ak)) (id:=n+1) R (by rw[Ο];rfl) ζ (by rw[Ο];rfl) (λj r δ ι=>⟨r,?_,.inl rfl⟩) [(2,.ah n 1 0 0)] (λp π=>by simp at π;subst π;exact .same _) ?_
  ·by_cases e:j<n
   ·rw[dI R] at ι ⊢;exact ι
   ·obtain⟨k,rfl⟩:∃k,j=n+k:=⟨j-n,R⟩;rw[Ο] at ι ⊢
    match k,δ,ι with
    | 0,_,ι=>exact ι
    | 1,h,_=>exact absurd rfl h
    | k+2,_,ι=>exact ι
  refine W.qZ (σ':=σ++(.dead::.dead::.cells 60 1 M::ak)) (id:=n) R (by rw[om];rfl) ζ (by rw[om];rfl) (λj r δ ι=>⟨r,?_,.inl rfl⟩) [(2,.ao [aT s.ae,a6 s.aj,.ms (n+2) s.cells.length 0 s.cells.length])] (λp π=>by simp at π;subst π;exact .ah (e:=.a0 [aT s.ae,a6 s.aj,.ms (n+2) s.cells.length 0 s.cells.length]) rfl) ?_
  ·by_cases e:j<n
   ·rw[dI R] at ι ⊢;exact ι
   ·obtain⟨k,rfl⟩:∃k,j=n+k:=⟨j-n,R⟩;rw[Ο] at ι ⊢
    match k,δ,ι with
    | 0,h,_=>exact absurd rfl h
    | k+1,_,ι=>exact ι
  exact W.ret ⟨_,rfl,rfl,rfl⟩
theorem dΑ (s:aS) (h:s.small) {σ:List Row} {K E:η->List Row->Prop} {xj:η} (he:c6 xj (fS s)) (hb:aJ 0 xj) (θ:K (.a0 [aT s.ae,a6 s.aj,.ms (σ.length+2) s.cells.length 0 s.cells.length]) (σ++(.dead::.dead::.cells 60 1 (gK (σ.length+3) s.cells)::gv s.cells))) :
  ha Tryz.prog (.fn (.func 25) [] []) [xj] σ K E:=
 ab.call (first:=[]) (captured:=[]) (ab.mono (ab.m8 (dχ s h σ) (bI.cons he .nil) (K':=λa r=>a=.a0 [aT s.ae,a6 s.aj,.ms (σ.length+2) s.cells.length 0 s.cells.length]/\r=σ++(.dead::.dead::.cells 60 1 (gK (σ.length+3) s.cells)::gv s.cells)) (λa s h=>⟨_,.refl _,h⟩)) (λa r ⟨Γ,Δ⟩=>by rw[Γ,Δ];exact θ) (λa s h=>h.elim))
theorem BR (d:cz) {a b:Int} (h:a<=b) (κ:-1000<a) (hb:b<1000):a<=oX d a b/\oX d a b<=b:=by
 unfold oX;rw[IntWalk.i64_in (b-a) R];obtain⟨t0,t1⟩:=qW d (b-a) R R;generalize hD d (b-a)=x at t0 t1;rw[IntWalk.i64_in (a+x) R];omega
theorem dΒ (l:List Int) (k:Nat) (x:Int):(pN l k x).Perm (x::l):=by
 unfold pN;have h:(l.take k++x::l.drop k).Perm (x::(l.take k++l.drop k)):=List.perm_middle
 rwa [List.take_append_drop] at h
theorem QF (d:cz) (n:Nat):(hE d n).1.Perm ((List.range n).map λ(i:Nat)=>(i:Int)):=by
 induction n with
 | zero=>exact .refl _
 | succ n ω=>
  show(pN _ _ _).Perm _;refine(dΒ _ _ _).trans ?_;rw[List.range_succ,List.map_append];refine(List.Perm.cons _ ω).trans ?_;exact(List.perm_append_singleton _ _).symm
theorem QG {d:cz} {n:Nat} {x:Int} (h:x∈(hE d n).1):0<=x/\x<n:=by
 have:=(QF d n).mem_iff.1 h;obtain⟨i,hi,rfl⟩:=List.mem_map.1 this;have:=List.mem_range.1 hi;omega
theorem QH (d:cz) (n:Nat):(hE d n).1.Nodup:=by
 refine(QF d n).nodup_iff.2 ?_;unfold List.Nodup;rw[List.pairwise_map];exact List.nodup_range.imp λh e=>h R
structure pQ (l:List mm):Prop where
 lo:1<=l.length
 hi:l.length<=6
 each:∀g∈l,tk g.name=false/\1<=g.eT/\g.eT<=63
 QI:l.Pairwise λa b=>sU b.name a.name=false
 apart:l.Pairwise λa b=>a.eT≠b.eT
theorem BS {l:List Int} (h:∀x∈l,x=0):jz l=0:=by
 induction l with
 | nil=>rfl
 | cons x l ω=>
  have:=h x ζ;subst this;simp[jz];exact ω λy Κ=>h y (by simp[Κ])
theorem pQ.err {l:List mm} (h:pQ l):oK l=0:=by
 unfold oK;have J:=h.lo;have U:=h.hi;rw[if_neg R,if_neg R];refine BS λx γ=>?_;obtain⟨i,hi,rfl⟩:=List.mem_map.1 γ;have hi:=List.mem_range.1 hi;unfold qz;rw[a8 hi];obtain⟨Γ,Δ,a4⟩:=h.each _ (List.getElem_mem hi);simp only;rw[if_neg (by rw[Γ];simp),if_neg,if_neg R,if_neg]
 ·intro κ;obtain⟨y,Κ,he⟩:=List.any_eq_true.1 κ;obtain⟨j,δ,rfl⟩:=List.mem_take_iff_getElem.1 Κ;have:=List.pairwise_iff_getElem.1 h.apart j i R hi R;simp at he;exact this he
 ·rintro⟨lk,ν⟩;rw[a8 R] at ν;have:=List.pairwise_iff_getElem.1 h.QI (i-1) i R hi R;simp only[Option.map_some,Option.getD_some] at ν;rw[ν] at this;cases this
def nH (i:Nat):ByteArray:=⟨#[[97,98,99,100,111,122].getD i 0]⟩
def jY:List Int:=[4,9,6,12,48,8,3,16,5,10,20]
def lb (ord:List Int) (last:Int) (i:Nat):mm:=⟨nH i,(jY++[last]).getD ((ord.getD i 0).toNat) 0⟩
structure Made (ord:List Int):Prop where
 len:ord.length=11
 mem:∀x∈ord,0<=x/\x<11
 nodup:ord.Nodup
theorem dΓ (d:cz):Made (hE d 11).1:=⟨JO d 11,λ_ h=>QG h,QH d 11⟩
theorem Made.get {ord:List Int} (h:Made ord) {i:Nat} (hi:i<11):∃k:Nat,k<11/\ord[i]?=some (k:Int)/\∀last,(jY++[last])[k]?=some (jY.getD k 0)/\1<=jY.getD k 0/\jY.getD k 0<=63:=by
 have ξ:=h.len
 have hm:=h.mem _ (List.getElem_mem (l:=ord) (n:=i) R);refine⟨(ord[i]).toNat,R,by rw[a8 R];congr 1;omega,λlast=>?_⟩;have χ:(ord[i]).toNat<11:=R;generalize (ord[i]).toNat=k at χ;rw[dI (by simpa[jY] using χ)];have:∀k<11,jY[k]?=some (jY.getD k 0)/\1<=jY.getD k 0/\jY.getD k 0<=63:=br;exact this k χ
theorem dΔ:∀a<11,∀b<11,jY.getD a 0=jY.getD b 0->a=b:=br
theorem dΕ:∀i<6,tk (nH i)=false:=by decide +kernel
theorem dΖ:∀j<6,∀i<j,sU (nH j) (nH i)=false:=by decide +kernel
theorem FJ {ord:List Int} (h:Made ord) (last:Int) {i:Nat} (hi:i<11):∃k:Nat,k<11/\ord[i]?=some (k:Int)/\(lb ord last i).eT=jY.getD k 0/\1<=jY.getD k 0/\jY.getD k 0<=63:=by
 obtain⟨k,χ,ψ,ν⟩:=h.get hi;obtain⟨J,U,μ⟩:=ν last;refine⟨k,χ,ψ,?_,U,μ⟩;unfold lb;rw[show ord.getD i 0=(k:Int) from by rw[List.getD_eq_getElem?_getD,ψ];rfl,Int.toNat_natCast];show(jY++[last]).getD k 0=_;rw[List.getD_eq_getElem?_getD,J];rfl
theorem dΗ {ord:List Int} (h:Made ord) (last:Int) {i j:Nat} (hi:i<11) (δ:j<11) (e:(lb ord last i).eT=(lb ord last j).eT):i=j:=by
 obtain⟨a,κ,lF,dΘ,_⟩:=FJ h last hi;obtain⟨b,hb,js,EI,_⟩:=FJ h last δ;rw[dΘ,EI] at e;have:=dΔ a κ b hb e;subst this;have ξ:=h.len;exact(List.getElem?_inj R h.nodup).1 (lF.trans js.symm)
theorem dΙ {ord:List Int} (h:Made ord) (last:Int) {ar:List Nat} (cR:ar.Pairwise (· < ·)) (bd:∀j∈ar,j<6) (J:1<=ar.length) (Ζ:ar.length<=6):pQ (ar.map (lb ord last)):=by
 refine⟨by simpa using J,by simpa using Ζ,λg Ο=>?_,?_,?_⟩
 ·obtain⟨j,δ,rfl⟩:=List.mem_map.1 Ο;have:=bd j δ;obtain⟨k,_,_,e,Γ,Δ⟩:=FJ h last (i:=j) R;exact⟨dΕ j this,R,R⟩
 ·rw[List.pairwise_map];refine(List.pairwise_iff_forall_sublist.2 λ{a b} ν=>?_);have eO:=(List.pairwise_iff_forall_sublist.1 cR) ν;exact dΖ b (bd b (ν.subset ζ)) a eO
 ·rw[List.pairwise_map];refine(List.pairwise_iff_forall_sublist.2 λ{a b} ν=>λe=>?_);have eO:=(List.pairwise_iff_forall_sublist.1 cR) ν;have κ:=bd a (ν.subset ζ);have hb:=bd b (ν.subset ζ);have:=dΗ h last R R e;omega
theorem pQ.set {l:List mm} (h:pQ l) {k:Nat} (χ:k<l.length) {x:Int} (J:1<=x) (U:x<=63) (Τ:∀g∈l,g.eT≠x):pQ (l.set k ⟨l[k].name,x⟩):=by
 have get:∀(i:Nat) (hi:i<(l.set k ⟨l[k].name,x⟩).length),(l.set k ⟨l[k].name,x⟩)[i].name=(l[i]'(by simpa using hi)).name/\((l.set k ⟨l[k].name,x⟩)[i].eT=x/\i=k\/(l.set k ⟨l[k].name,x⟩)[i].eT=(l[i]'(by simpa using hi)).eT/\i≠k):=by
  intro i hi;rw[List.getElem_set];split
  ·rename_i e;subst e;exact⟨rfl,.inl ⟨rfl,rfl⟩⟩
  ·rename_i e;exact⟨rfl,.inr ⟨rfl,λh=>e h.symm⟩⟩
 refine⟨by simpa using h.lo,by simpa using h.hi,λg Ο=>?_,?_,?_⟩
 ·obtain⟨i,hi,rfl⟩:=List.getElem_of_mem Ο;obtain⟨Γ,Δ⟩:=get i hi;obtain⟨a,b,c⟩:=h.each _ (List.getElem_mem (l:=l) (n:=i) (by simpa using hi));rw[Γ];rcases Δ with⟨Δ,_⟩|⟨Δ,_⟩<;>rw[Δ]
  ·exact⟨a,J,U⟩
  ·exact⟨a,b,c⟩
 ·rw[List.pairwise_iff_getElem];intro i j hi δ fz;rw[(get i hi).1,(get j δ).1];exact List.pairwise_iff_getElem.1 h.QI i j (by simpa using hi) (by simpa using δ) fz
 ·rw[List.pairwise_iff_getElem];intro i j hi δ fz;have aC:i<l.length:=by simpa using hi
  have aH:j<l.length:=by simpa using δ
  rcases(get i hi).2 with⟨Γ,Δ⟩|⟨Γ,Δ⟩<;>rcases(get j δ).2 with⟨a4,cM⟩|⟨a4,cM⟩<;>rw[Γ,a4]
  ·omega
  ·exact λe=>Τ _ (List.getElem_mem aH) e.symm
  ·exact λe=>Τ _ (List.getElem_mem aC) e
  ·exact List.pairwise_iff_getElem.1 h.apart i j aC aH fz
end Go.TL
