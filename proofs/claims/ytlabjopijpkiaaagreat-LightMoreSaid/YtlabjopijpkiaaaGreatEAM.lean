import Derived.Test.YtlabjopijpkiaaaGreatEAL
set_option maxHeartbeats 16000000
set_option maxRecDepth 20000
set_option linter.unusedSectionVars false
set_option linter.unusedSimpArgs false
set_option linter.unusedVariables false
namespace Go.TL
open Go.Proofs
variable [bq]
def jO:List Int->Int
 | []=>0
 | e::l=>if e=0 then jO l else e
theorem Yf {l:List Int} {i:Nat} (h:i<l.length) (U:l[i]≠0) (γ:∀j,j<i->(ζ:j<l.length)->l[j]=0):jO l=l[i]:=by
 induction l generalizing i with
 | nil=>cases h
 | cons e l Α=>
  cases i with
  | zero=>simp at U;simp[jO,U]
  | succ i=>
   have ao:e=0:=γ 0 J η;simp only[jO,ao,if_true,List.getElem_cons_succ];exact Α (by simpa using h) (by simpa using U) λj ζ iZ=>γ (j+1) J (by simpa using iZ)
theorem Yg {l:List Int} (h:∀j,(ζ:j<l.length)->l[j]=0):jO l=0:=by
 induction l with
 | nil=>rfl
 | cons e l Α=>
  have ao:e=0:=h 0 η;simp only[jO,ao,if_true];exact Α λj ζ=>h (j+1) (by simpa using ζ)
theorem Bf {f:Nat->Int} {n i:Nat} {e:Int} (h:i<n) (he:f i=e) (ao:e≠0) (γ:∀j,j<i->f j=0):jO ((List.range n).map f)=e:=by
 rw[Yf (i:=i) (by simpa using h) (by simp[he,ao]) (λj ζ π=>by simpa using γ j ζ)];simp[he]
theorem Bg {f:Nat->Int} {n:Nat} (h:∀j,j<n->f j=0):jO ((List.range n).map f)=0:=
 Yg λj ζ=>by simpa using h j (by simpa using ζ)
def yT (n:ByteArray):Bool:=n.size != 1||Dy n ⟨#[97]⟩||!tj n ⟨#[122]⟩
def q4 (l:List mU) (i:Nat):Int:=match l[i]? with
 | none=>0
 | some g=>if yT g.name then 2 else if 0<i/\tj g.name ((l[i-1]?.map (·.name)).getD ⟨#[]⟩)=true then 5 else if g.strokes<1\/63<g.strokes then 1 else if(l.take i).any (λx=>x.strokes==g.strokes) then 4 else 0
def pg (l:List mU):Int:=if l.length=0 then 7 else if 6<l.length then 6 else jO ((List.range l.length).map (q4 l))
theorem Yh (g x:mU):aB Tryz.prog 136 [e5 x,.au [ou g.name,I g.strokes]] (ba (x.strokes==g.strokes)):=by
 refine af.body Φ Tryz.func136 rfl rfl Tryz.ntmps136 rfl rfl η ?_;refine Η ?_;refine W.rt ?_;exact .of (by simp)
theorem Yi (s:aU) (ξ:s.small):aB Tryz.prog 103 [fu s] (I (pg s.ar)):=by
 refine af.body Φ Tryz.func103 rfl rfl Tryz.ntmps103 rfl rfl η ?_;have π:=ξ.1;by_cases iB:s.ar.length=0
 ·refine aE iB ?_;refine aC η ?_;refine Η ?_;refine W.rt ?_;exact .of (by rw[show pg s.ar=7 by simp[pg,iB]];rfl)
 by_cases p7:(6:Int)<s.ar.length
 ·refine aE (ς iB p7) ?_;refine ay (by simp[iB]) ?_;refine aE (ς iB p7) ?_;refine aC η ?_;refine Η ?_;refine W.rt ?_;exact .of (by rw[show pg s.ar=6 by simp[pg,iB];omega];rfl)
 have Bh:pg s.ar=jO ((List.range s.ar.length).map (q4 s.ar)):=by
  unfold pg;rw[if_neg iB,if_neg J]
 rw[Bh];refine aE (ς iB p7) ?_;refine ay (by simp[iB]) ?_;refine aE (ς iB p7) ?_;refine ay η ?_;refine Η ?_;refine W.iter (λi:Nat=>i<=s.ar.length/\∀j,j<i->q4 s.ar j=0) (λi=>[(1,.au [aY s.ar,aX s.az,bO s.cells]),(17,aY s.ar),(18,I s.ar.length),(19,I i)]) (λ_=>[]) (λi=>s.ar.length-i) 0 ⟨J,λj ζ=>J⟩ rfl η (λi hi Α=>?_);refine Η ?_;refine W.ey rfl (λε=>?_) (λε=>?_)
 ·have ε:i<s.ar.length:=by simpa using ε
  have lh:s.ar[i]?=some s.ar[i]:=a6 ε
  have fin:∀e:Int,q4 s.ar i=e->e≠0->jO ((List.range s.ar.length).map (q4 s.ar))=e:=λe he ao=>Bf ε he ao hi.2
  repeat apply ae
  refine dj (A:=[4]) Φ λΚ κ=>gh ε ?_;apply κ;refine W.fix (id:=0) (σ':=[]) (Nat.zero_le _) rfl η η rfl [(1,.au [aY s.ar,aX s.az,bO s.cells]),(17,aY s.ar),(18,I s.ar.length),(19,I i),(3,I i),(4,.au [ou s.ar[i].name,I s.ar[i].strokes])] η ?_
  repeat apply ae
  refine W.ts (A:=[]) Φ [(1,.au [aY s.ar,aX s.az,bO s.cells]),(17,aY s.ar),(18,I s.ar.length),(19,I i),(3,I i),(4,.au [ou s.ar[i].name,I s.ar[i].strokes]),(5,aY (s.ar.take i))] ?_ (by simp[ah,pY,Nat.le_of_lt ε])
  repeat apply ae
  refine W.ts (A:=[]) Φ [(28,ba (yT s.ar[i].name)),(1,.au [aY s.ar,aX s.az,bO s.cells]),(17,aY s.ar),(18,I s.ar.length),(19,I i),(3,I i),(4,.au [ou s.ar[i].name,I s.ar[i].strokes]),(5,aY (s.ar.take i))] ?_ (by
   unfold yT;by_cases bE:(s.ar[i].name.size:Int)=1
   ·have I1:s.ar[i].name.size=1:=J
    cases c6:Dy s.ar[i].name ⟨#[97]⟩<;>simp[ah,pY,bE,c6,I1]
   ·have I1:¬s.ar[i].name.size=1:=J
    simp[ah,pY,bE,I1])
  cases vh:yT s.ar[i].name
  case true=>
   refine aC rfl ?_;refine Η ?_;refine W.rt ?_;exact .of (by rw[fin 2 (by simp[q4,lh,vh]) br];rfl)
  refine ay rfl ?_
  repeat apply ae
  refine W.yP (A:=[]) Φ mixed [(43,ba (decide (0<i)&&tj s.ar[i].name ((s.ar[i-1]?.map (·.name)).getD ⟨#[]⟩))),(1,.au [aY s.ar,aX s.az,bO s.cells]),(17,aY s.ar),(18,I s.ar.length),(19,I i),(3,I i),(4,.au [ou s.ar[i].name,I s.ar[i].strokes]),(5,aY (s.ar.take i))] ?_ (by
   cases i with
   | zero=>simp[cY,cX];exact hX (by kernel_rfl)
   | succ n=>
    have Θ:n<s.ar.length:=J
    have Ζ:=eY (show n<2 ^ 62 by omega)
    have ao:(0:Int)<(n:Int)+1:=J
    have hm:n<min (n+1) s.ar.length:=J;simp[cY,cX,ao,Θ,Ζ,hm];exact hX (by kernel_rfl))
  cases bo:decide (0<i)&&tj s.ar[i].name ((s.ar[i-1]?.map (·.name)).getD ⟨#[]⟩)
  case true=>
   refine aC rfl ?_;refine Η ?_;refine W.rt ?_;exact .of (by rw[fin 5 (by simp at bo;simp[q4,lh,vh,bo]) br];rfl)
  refine ay rfl ?_
  repeat apply ae
  refine W.ts (A:=[]) Φ [(57,ba (decide (s.ar[i].strokes<1)||decide (63<s.ar[i].strokes))),(1,.au [aY s.ar,aX s.az,bO s.cells]),(17,aY s.ar),(18,I s.ar.length),(19,I i),(3,I i),(4,.au [ou s.ar[i].name,I s.ar[i].strokes]),(5,aY (s.ar.take i))] ?_ (by by_cases q:s.ar[i].strokes<1<;>simp[ah,pY,q]);have bo':¬(0<i/\tj s.ar[i].name ((s.ar[i-1]?.map (·.name)).getD ⟨#[]⟩)=true):=λh=>by simp[h] at bo
  by_cases nC:s.ar[i].strokes<1\/63<s.ar[i].strokes
  case pos=>
   refine aC (by simpa using nC) ?_;refine Η ?_;refine W.rt ?_;exact .of (by rw[fin 1 (by simp only[q4,lh,vh];rw[if_neg bo',if_pos nC];rfl) br];rfl)
  refine ay (by simpa using nC) ?_;refine bc λΚ κ=>?_;refine aB.c (Yc (s.ar.take i) (.fn (.func 136) [] [.au [ou s.ar[i].name,I s.ar[i].strokes]]) (λx=>x.strokes==s.ar[i].strokes) (by simp;omega) (by simp[kG]) (λx _=>λ_=>(Yh s.ar[i] x).cc (by simp;exact b2.refl _) η η ⟨rfl,rfl⟩)) (b2.refl _) (by simp[kG]) η ?_;simp;(repeat (rw[ah];simp));apply κ;cases CU:(s.ar.take i).any (λx=>x.strokes==s.ar[i].strokes)
  case true=>
   refine aC η ?_;refine Η ?_;refine W.rt ?_;exact .of (by rw[fin 4 (by simp only[q4,lh,vh];rw[if_neg bo',if_neg nC,CU];rfl) br];rfl)
  refine ay η ?_;refine Η ?_;refine W.forget _ ?_ (Α (i+1) ⟨ε,λj ζ=>?_⟩ J)
  ·simp[eX ε (show s.ar.length<2 ^ 62 by omega)]
  ·by_cases e:j=i
   ·subst e;simp only[q4,lh,vh];rw[if_neg bo',if_neg nC,CU];rfl
   ·exact hi.2 j J
 ·have ε:s.ar.length<=i:=by simpa using ε
  refine W.exit rfl ?_;refine Η ?_;refine W.rt ?_;exact .of (by rw[Bg λj ζ=>hi.2 j J];rfl)
end Go.TL
