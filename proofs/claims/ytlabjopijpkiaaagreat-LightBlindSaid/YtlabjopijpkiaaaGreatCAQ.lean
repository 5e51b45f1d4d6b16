import Derived.Test.YtlabjopijpkiaaaGreatCAP
set_option maxHeartbeats 16000000
set_option maxRecDepth 20000
set_option linter.unusedSectionVars false
set_option linter.unusedSimpArgs false
set_option linter.unusedVariables false
namespace Go.TL
open Go.Proofs
variable [bp]
def jz:List Int->Int
 | []=>0
 | e::l=>if e=0 then jz l else e
theorem W2 {l:List Int} {i:Nat} (h:i<l.length) (J:l[i]≠0) (U:∀j,j<i->(δ:j<l.length)->l[j]=0):jz l=l[i]:=by
 induction l generalizing i with
 | nil=>cases h
 | cons e l ω=>
  cases i with
  | zero=>simp at J;simp[jz,J]
  | succ i=>
   have an:e=0:=U 0 R ζ;simp only[jz,an,if_true,List.getElem_cons_succ];exact ω (by simpa using h) (by simpa using J) λj δ iK=>U (j+1) R (by simpa using iK)
theorem W3 {l:List Int} (h:∀j,(δ:j<l.length)->l[j]=0):jz l=0:=by
 induction l with
 | nil=>rfl
 | cons e l ω=>
  have an:e=0:=h 0 ζ;simp only[jz,an,if_true];exact ω λj δ=>h (j+1) (by simpa using δ)
theorem AV {f:Nat->Int} {n i:Nat} {e:Int} (h:i<n) (he:f i=e) (an:e≠0) (U:∀j,j<i->f j=0):jz ((List.range n).map f)=e:=by
 rw[W2 (i:=i) (by simpa using h) (by simp[he,an]) (λj δ ξ=>by simpa using U j δ)];simp[he]
theorem AW {f:Nat->Int} {n:Nat} (h:∀j,j<n->f j=0):jz ((List.range n).map f)=0:=
 W3 λj δ=>by simpa using h j (by simpa using δ)
def tk (n:ByteArray):Bool:=n.size != 1||C7 n ⟨#[97]⟩||!sU n ⟨#[122]⟩
def qz (l:List mm) (i:Nat):Int:=match l[i]? with
 | none=>0
 | some g=>if tk g.name then 2 else if 0<i/\sU g.name ((l[i-1]?.map (·.name)).getD ⟨#[]⟩)=true then 5 else if g.eT<1\/63<g.eT then 1 else if(l.take i).any (λx=>x.eT==g.eT) then 4 else 0
def oK (l:List mm):Int:=if l.length=0 then 7 else if 6<l.length then 6 else jz ((List.range l.length).map (qz l))
theorem W4 (g x:mm):az Tryz.prog 136 [eU x,.ao [nT g.name,I g.eT]] (a' (x.eT==g.eT)):=by
 refine ab.body Υ Tryz.func136 rfl rfl Tryz.ntmps136 rfl rfl ζ ?_;refine Η ?_;refine W.rt ?_;exact .of (by simp[])
theorem W5 (s:aS) (ν:s.small):az Tryz.prog 103 [fS s] (I (oK s.ae)):=by
 refine ab.body Υ Tryz.func103 rfl rfl Tryz.ntmps103 rfl rfl ζ ?_;have ξ:=ν.1;by_cases h':s.ae.length=0
 ·refine aE h' ?_;refine aD ζ ?_;refine Η ?_;refine W.rt ?_;exact .of (by rw[show oK s.ae=7 by simp[oK,h']];rfl)
 by_cases pA:(6:Int)<s.ae.length
 ·refine aE (υ h' pA) ?_;refine aA (by simp[h']) ?_;refine aE (υ h' pA) ?_;refine aD ζ ?_;refine Η ?_;refine W.rt ?_;exact .of (by rw[show oK s.ae=6 by simp[oK,h'];omega];rfl)
 have AX:oK s.ae=jz ((List.range s.ae.length).map (qz s.ae)):=by
  unfold oK;rw[if_neg h',if_neg R]
 rw[AX];refine aE (υ h' pA) ?_;refine aA (by simp[h']) ?_;refine aE (υ h' pA) ?_;refine aA ζ ?_;refine Η ?_;refine W.iter (λi:Nat=>i<=s.ae.length/\∀j,j<i->qz s.ae j=0) (λi=>[(1,.ao [aT s.ae,a6 s.aj,bx s.cells]),(17,aT s.ae),(18,I s.ae.length),(19,I i)]) (λ_=>[]) (λi=>s.ae.length-i) 0 ⟨R,λj δ=>R⟩ rfl ζ (λi hi ω=>?_);refine Η ?_;refine W.eS rfl (λε=>?_) (λε=>?_)
 ·have ε:i<s.ae.length:=by simpa using ε
  have qA:s.ae[i]?=some s.ae[i]:=a8 ε
  have fin:∀e:Int,qz s.ae i=e->e≠0->jz ((List.range s.ae.length).map (qz s.ae))=e:=λe he an=>AV ε he an hi.2
  repeat apply Ω
  refine dB (A:=[4]) Υ λΘ θ=>gS ε ?_;apply θ;refine W.fix (id:=0) (σ':=[]) (Nat.zero_le _) rfl ζ ζ rfl [(1,.ao [aT s.ae,a6 s.aj,bx s.cells]),(17,aT s.ae),(18,I s.ae.length),(19,I i),(3,I i),(4,.ao [nT s.ae[i].name,I s.ae[i].eT])] ζ ?_
  repeat apply Ω
  refine W.s6 (A:=[]) Υ [(1,.ao [aT s.ae,a6 s.aj,bx s.cells]),(17,aT s.ae),(18,I s.ae.length),(19,I i),(3,I i),(4,.ao [nT s.ae[i].name,I s.ae[i].eT]),(5,aT (s.ae.take i))] ?_ (by simp[al,pv,Nat.le_of_lt ε])
  repeat apply Ω
  refine W.s6 (A:=[]) Υ [(28,a' (tk s.ae[i].name)),(1,.ao [aT s.ae,a6 s.aj,bx s.cells]),(17,aT s.ae),(18,I s.ae.length),(19,I i),(3,I i),(4,.ao [nT s.ae[i].name,I s.ae[i].eT]),(5,aT (s.ae.take i))] ?_ (by
   unfold tk;by_cases bC:(s.ae[i].name.size:Int)=1
   ·have Ih:s.ae[i].name.size=1:=by omega
    cases dt:C7 s.ae[i].name ⟨#[97]⟩<;>simp[al,pv,bC,dt,Ih]
   ·have Ih:¬s.ae[i].name.size=1:=by omega
    simp[al,pv,bC,Ih])
  cases uZ:tk s.ae[i].name
  case true=>
   refine aD rfl ?_;refine Η ?_;refine W.rt ?_;exact .of (by rw[fin 2 (by simp[qz,qA,uZ]) br];rfl)
  refine aA rfl ?_
  repeat apply Ω
  refine W.yn (A:=[]) Υ mixed [(43,a' (decide (0<i)&&sU s.ae[i].name ((s.ae[i-1]?.map (·.name)).getD ⟨#[]⟩))),(1,.ao [aT s.ae,a6 s.aj,bx s.cells]),(17,aT s.ae),(18,I s.ae.length),(19,I i),(3,I i),(4,.ao [nT s.ae[i].name,I s.ae[i].eT]),(5,aT (s.ae.take i))] ?_ (by
   cases i with
   | zero=>simp[dq,dp];exact hg (by kernel_rfl)
   | succ n=>
    have Ζ:n<s.ae.length:=R
    have Γ:=gq (show n<2 ^ 62 by omega)
    have an:(0:Int)<(n:Int)+1:=R
    have hm:n<min (n+1) s.ae.length:=R;simp[dq,dp,an,Ζ,Γ,hm];exact hg (by kernel_rfl))
  cases bo:decide (0<i)&&sU s.ae[i].name ((s.ae[i-1]?.map (·.name)).getD ⟨#[]⟩)
  case true=>
   refine aD rfl ?_;refine Η ?_;refine W.rt ?_;exact .of (by rw[fin 5 (by simp at bo;simp[qz,qA,uZ,bo]) br];rfl)
  refine aA rfl ?_
  repeat apply Ω
  refine W.s6 (A:=[]) Υ [(57,a' (decide (s.ae[i].eT<1)||decide (63<s.ae[i].eT))),(1,.ao [aT s.ae,a6 s.aj,bx s.cells]),(17,aT s.ae),(18,I s.ae.length),(19,I i),(3,I i),(4,.ao [nT s.ae[i].name,I s.ae[i].eT]),(5,aT (s.ae.take i))] ?_ (by by_cases q:s.ae[i].eT<1<;>simp[al,pv,q]);have bo':¬(0<i/\sU s.ae[i].name ((s.ae[i-1]?.map (·.name)).getD ⟨#[]⟩)=true):=λh=>by simp[h] at bo
  by_cases m3:s.ae[i].eT<1\/63<s.ae[i].eT
  case pos=>
   refine aD (by simpa using m3) ?_;refine Η ?_;refine W.rt ?_;exact .of (by rw[fin 1 (by simp only[qz,qA,uZ];rw[if_neg bo',if_pos m3];rfl) br];rfl)
  refine aA (by simpa using m3) ?_;refine bh λΘ θ=>?_;refine az.c (WZ (s.ae.take i) (.fn (.func 136) [] [.ao [nT s.ae[i].name,I s.ae[i].eT]]) (λx=>x.eT==s.ae[i].eT) (by simp;omega) (by simp[mg]) (λx _=>λ_=>(W4 s.ae[i] x).cc (by simp;exact bI.refl _) ζ ζ ⟨rfl,rfl⟩)) (bI.refl _) (by simp[mg]) ζ ?_;simp;(repeat (rw[al];simp[]));apply θ;cases Cs:(s.ae.take i).any (λx=>x.eT==s.ae[i].eT)
  case true=>
   refine aD ζ ?_;refine Η ?_;refine W.rt ?_;exact .of (by rw[fin 4 (by simp only[qz,qA,uZ];rw[if_neg bo',if_neg m3,Cs];rfl) br];rfl)
  refine aA ζ ?_;refine Η ?_;refine W.forget _ ?_ (ω (i+1) ⟨ε,λj δ=>?_⟩ R)
  ·simp[fl ε (show s.ae.length<2 ^ 62 by omega)]
  ·by_cases e:j=i
   ·subst e;simp only[qz,qA,uZ];rw[if_neg bo',if_neg m3,Cs];rfl
   ·exact hi.2 j R
 ·have ε:s.ae.length<=i:=by simpa using ε
  refine W.exit rfl ?_;refine Η ?_;refine W.rt ?_;exact .of (by rw[AW λj δ=>hi.2 j R];rfl)
end Go.TL
