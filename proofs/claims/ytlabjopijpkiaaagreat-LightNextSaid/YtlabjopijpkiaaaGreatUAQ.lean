import Derived.Test.YtlabjopijpkiaaaGreatUAP
set_option maxHeartbeats 16000000
set_option maxRecDepth 20000
set_option linter.unusedSectionVars false
set_option linter.unusedSimpArgs false
set_option linter.unusedVariables false
namespace Go.TL
open Go.Proofs
variable [bt]
def iV:List Int->Int
 | []=>0
 | e::l=>if e=0 then iV l else e
theorem X8 {l:List Int} {i:Nat} (h:i<l.length) (I:l[i]≠0) (U:∀j,j<i->(δ:j<l.length)->l[j]=0):iV l=l[i]:=by
 induction l generalizing i with
 | nil=>cases h
 | cons e l Β=>
  cases i with
  | zero=>simp at I;simp[iV,I]
  | succ i=>
   have ai:e=0:=U 0 R θ;simp only[iV,ai,if_true,List.getElem_cons_succ];exact Β (by simpa using h) (by simpa using I) λj δ hF=>U (j+1) R (by simpa using hF)
theorem X9 {l:List Int} (h:∀j,(δ:j<l.length)->l[j]=0):iV l=0:=by
 induction l with
 | nil=>rfl
 | cons e l Β=>
  have ai:e=0:=h 0 θ;simp only[iV,ai,if_true];exact Β λj δ=>h (j+1) (by simpa using δ)
theorem Aw {f:Nat->Int} {n i:Nat} {e:Int} (h:i<n) (he:f i=e) (ai:e≠0) (U:∀j,j<i->f j=0):iV ((List.range n).map f)=e:=by
 rw[X8 (i:=i) (by simpa using h) (by simp[he,ai]) (λj δ υ=>by simpa using U j δ)];simp[he]
theorem Ax {f:Nat->Int} {n:Nat} (h:∀j,j<n->f j=0):iV ((List.range n).map f)=0:=
 X9 λj δ=>by simpa using h j (by simpa using δ)
def x8 (n:ByteArray):Bool:=n.size != 1||C3 n ⟨#[97]⟩||!sF n ⟨#[122]⟩
def qn (l:List l6) (i:Nat):Int:=match l[i]? with
 | none=>0
 | some g=>if x8 g.name then 2 else if 0<i/\sF g.name ((l[i-1]?.map (·.name)).getD ⟨#[]⟩)=true then 5 else if g.eE<1\/63<g.eE then 1 else if(l.take i).any (λx=>x.eE==g.eE) then 4 else 0
def oo (l:List l6):Int:=if l.length=0 then 7 else if 6<l.length then 6 else iV ((List.range l.length).map (qn l))
theorem X' (g x:l6):aD Tryz.prog 136 [eN x,.ab [nE g.name,J g.eE]] (bm (x.eE==g.eE)):=by
 refine ao.body Φ Tryz.func136 rfl rfl Tryz.ntmps136 rfl rfl θ ?_;refine Ζ ?_;refine W.rt ?_;exact .of (by simp[])
theorem Ya (s:aI) (ν:s.small):aD Tryz.prog 103 [fs s] (J (oo s.ag)):=by
 refine ao.body Φ Tryz.func103 rfl rfl Tryz.ntmps103 rfl rfl θ ?_;have υ:=ν.1;by_cases hQ:s.ag.length=0
 ·refine aR hQ ?_;refine al θ ?_;refine Ζ ?_;refine W.rt ?_;exact .of (by rw[show oo s.ag=7 by simp[oo,hQ]];rfl)
 by_cases pn:(6:Int)<s.ag.length
 ·refine aR (Μ hQ pn) ?_;refine aj (by simp[hQ]) ?_;refine aR (Μ hQ pn) ?_;refine al θ ?_;refine Ζ ?_;refine W.rt ?_;exact .of (by rw[show oo s.ag=6 by simp[oo,hQ];omega];rfl)
 have Ay:oo s.ag=iV ((List.range s.ag.length).map (qn s.ag)):=by
  unfold oo;rw[if_neg hQ,if_neg R]
 rw[Ay];refine aR (Μ hQ pn) ?_;refine aj (by simp[hQ]) ?_;refine aR (Μ hQ pn) ?_;refine aj θ ?_;refine Ζ ?_;refine W.iter (λi:Nat=>i<=s.ag.length/\∀j,j<i->qn s.ag j=0) (λi=>[(1,.ab [aS s.ag,aQ s.ak,bl s.cells]),(17,aS s.ag),(18,J s.ag.length),(19,J i)]) (λ_=>[]) (λi=>s.ag.length-i) 0 ⟨R,λj δ=>R⟩ rfl θ (λi hi Β=>?_);refine Ζ ?_;refine W.eM rfl (λε=>?_) (λε=>?_)
 ·have ε:i<s.ag.length:=by simpa using ε
  have qo:s.ag[i]?=some s.ag[i]:=a5 ε
  have fin:∀e:Int,qn s.ag i=e->e≠0->iV ((List.range s.ag.length).map (qn s.ag))=e:=λe he ai=>Aw ε he ai hi.2
  repeat apply ar
  refine dG (A:=[4]) Φ λΕ ζ=>gQ ε ?_;apply ζ;refine W.fix (id:=0) (σ':=[]) (Nat.zero_le _) rfl θ θ rfl [(1,.ab [aS s.ag,aQ s.ak,bl s.cells]),(17,aS s.ag),(18,J s.ag.length),(19,J i),(3,J i),(4,.ab [nE s.ag[i].name,J s.ag[i].eE])] θ ?_
  repeat apply ar
  refine W.sQ (A:=[]) Φ [(1,.ab [aS s.ag,aQ s.ak,bl s.cells]),(17,aS s.ag),(18,J s.ag.length),(19,J i),(3,J i),(4,.ab [nE s.ag[i].name,J s.ag[i].eE]),(5,aS (s.ag.take i))] ?_ (by simp[Υ,qi,Nat.le_of_lt ε])
  repeat apply ar
  refine W.sQ (A:=[]) Φ [(28,bm (x8 s.ag[i].name)),(1,.ab [aS s.ag,aQ s.ak,bl s.cells]),(17,aS s.ag),(18,J s.ag.length),(19,J i),(3,J i),(4,.ab [nE s.ag[i].name,J s.ag[i].eE]),(5,aS (s.ag.take i))] ?_ (by
   unfold x8;by_cases bJ:(s.ag[i].name.size:Int)=1
   ·have IE:s.ag[i].name.size=1:=by omega
    cases c8:C3 s.ag[i].name ⟨#[97]⟩<;>simp[Υ,qi,bJ,c8,IE]
   ·have IE:¬s.ag[i].name.size=1:=by omega
    simp[Υ,qi,bJ,IE])
  cases uz:x8 s.ag[i].name
  case true=>
   refine al rfl ?_;refine Ζ ?_;refine W.rt ?_;exact .of (by rw[fin 2 (by simp[qn,qo,uz]) bD];rfl)
  refine aj rfl ?_
  repeat apply ar
  refine W.El (A:=[]) Φ mixed [(43,bm (decide (0<i)&&sF s.ag[i].name ((s.ag[i-1]?.map (·.name)).getD ⟨#[]⟩))),(1,.ab [aS s.ag,aQ s.ak,bl s.cells]),(17,aS s.ag),(18,J s.ag.length),(19,J i),(3,J i),(4,.ab [nE s.ag[i].name,J s.ag[i].eE]),(5,aS (s.ag.take i))] ?_ (by
   cases i with
   | zero=>simp[dN,dM];exact jk (by kernel_rfl)
   | succ n=>
    have Η:n<s.ag.length:=R
    have Δ:=fV (show n<2 ^ 62 by omega)
    have ai:(0:Int)<(n:Int)+1:=R
    have hm:n<min (n+1) s.ag.length:=R;simp[dN,dM,ai,Η,Δ,hm];exact jk (by kernel_rfl))
  cases bo:decide (0<i)&&sF s.ag[i].name ((s.ag[i-1]?.map (·.name)).getD ⟨#[]⟩)
  case true=>
   refine al rfl ?_;refine Ζ ?_;refine W.rt ?_;exact .of (by rw[fin 5 (by simp at bo;simp[qn,qo,uz,bo]) bD];rfl)
  refine aj rfl ?_
  repeat apply ar
  refine W.sQ (A:=[]) Φ [(57,bm (decide (s.ag[i].eE<1)||decide (63<s.ag[i].eE))),(1,.ab [aS s.ag,aQ s.ak,bl s.cells]),(17,aS s.ag),(18,J s.ag.length),(19,J i),(3,J i),(4,.ab [nE s.ag[i].name,J s.ag[i].eE]),(5,aS (s.ag.take i))] ?_ (by by_cases q:s.ag[i].eE<1<;>simp[Υ,qi,q]);have bo':¬(0<i/\sF s.ag[i].name ((s.ag[i-1]?.map (·.name)).getD ⟨#[]⟩)=true):=λh=>by simp[h] at bo
  by_cases qh:s.ag[i].eE<1\/63<s.ag[i].eE
  case pos=>
   refine al (by simpa using qh) ?_;refine Ζ ?_;refine W.rt ?_;exact .of (by rw[fin 1 (by simp only[qn,qo,uz];rw[if_neg bo',if_pos qh];rfl) bD];rfl)
  refine aj (by simpa using qh) ?_;refine bN λΕ ζ=>?_;refine aD.c (X5 (s.ag.take i) (.fn (.func 136) [] [.ab [nE s.ag[i].name,J s.ag[i].eE]]) (λx=>x.eE==s.ag[i].eE) (by simp;omega) (by simp[l4]) (λx _=>λ_=>(X' s.ag[i] x).cc (by simp;exact bS.refl _) θ θ ⟨rfl,rfl⟩)) (bS.refl _) (by simp[l4]) θ ?_;simp;(repeat (rw[Υ];simp[]));apply ζ;cases Ck:(s.ag.take i).any (λx=>x.eE==s.ag[i].eE)
  case true=>
   refine al θ ?_;refine Ζ ?_;refine W.rt ?_;exact .of (by rw[fin 4 (by simp only[qn,qo,uz];rw[if_neg bo',if_neg qh,Ck];rfl) bD];rfl)
  refine aj θ ?_;refine Ζ ?_;refine W.forget _ ?_ (Β (i+1) ⟨ε,λj δ=>?_⟩ R)
  ·simp[fz ε (show s.ag.length<2 ^ 62 by omega)]
  ·by_cases e:j=i
   ·subst e;simp only[qn,qo,uz];rw[if_neg bo',if_neg qh,Ck];rfl
   ·exact hi.2 j R
 ·have ε:s.ag.length<=i:=by simpa using ε
  refine W.exit rfl ?_;refine Ζ ?_;refine W.rt ?_;exact .of (by rw[Ax λj δ=>hi.2 j R];rfl)
end Go.TL
