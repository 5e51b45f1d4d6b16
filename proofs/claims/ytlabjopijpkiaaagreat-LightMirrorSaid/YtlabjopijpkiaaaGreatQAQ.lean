import Derived.Test.YtlabjopijpkiaaaGreatQAP
set_option maxHeartbeats 16000000
set_option maxRecDepth 20000
set_option linter.unusedSectionVars false
set_option linter.unusedSimpArgs false
set_option linter.unusedVariables false
namespace Go.TL
open Go.Proofs
variable [bh]
def hU:List Int->Int
 | []=>0
 | e::l=>if e=0 then hU l else e
theorem Tg {l:List Int} {i:Nat} (h:i<l.length) (J:l[i]≠0) (R:∀j,j<i->(γ:j<l.length)->l[j]=0):hU l=l[i]:=by
 induction l generalizing i with
 | nil=>cases h
 | cons e l Γ=>
  cases i with
  | zero=>simp at J;simp[hU,J]
  | succ i=>
   have af:e=0:=R 0 (by omega) (by simp);simp only[hU,af,if_true,List.getElem_cons_succ];exact Γ (by simpa using h) (by simpa using J) λj γ g6=>R (j+1) (by omega) (by simpa using g6)
theorem Ti {l:List Int} (h:∀j,(γ:j<l.length)->l[j]=0):hU l=0:=by
 induction l with
 | nil=>rfl
 | cons e l Γ=>
  have af:e=0:=h 0 (by simp);simp only[hU,af,if_true];exact Γ λj γ=>h (j+1) (by simpa using γ)
theorem yo {f:Nat->Int} {n i:Nat} {e:Int} (h:i<n) (he:f i=e) (af:e≠0) (R:∀j,j<i->f j=0):hU ((List.range n).map f)=e:=by
 rw[Tg (i:=i) (by simpa using h) (by simp[he,af]) (λj γ Β=>by simpa using R j γ)];simp[he]
theorem yp {f:Nat->Int} {n:Nat} (h:∀j,j<n->f j=0):hU ((List.range n).map f)=0:=
 Ti λj γ=>by simpa using h j (by simpa using γ)
def vF (n:ByteArray):Bool:=n.size != 1||Ar n ⟨#[97]⟩||!qE n ⟨#[122]⟩
def ox (l:List gb) (i:Nat):Int:=match l[i]? with
 | none=>0
 | some g=>if vF g.name then 2 else if 0<i/\qE g.name ((l[i-1]?.map (·.name)).getD ⟨#[]⟩)=true then 5 else if g.bR<1\/63<g.bR then 1 else if(l.take i).any (λx=>x.bR==g.bR) then 4 else 0
def mQ (l:List gb):Int:=if l.length=0 then 7 else if 6<l.length then 6 else hU ((List.range l.length).map (ox l))
theorem Tj (g x:gb):an Tryz.prog 136 [eb x,.Ω [ln g.name,δ g.bR]] (bJ (x.bR==g.bR)):=by
 refine aC.body Μ Tryz.func136 rfl rfl Tryz.ntmps136 rfl rfl (by simp) ?_;(repeat (first|apply μ|(refine ξ λθ I=>?_;simp;(repeat (rw[ε];simp));apply I)));refine W.ret ⟨_,rfl,?_,rfl⟩;exact .of (by simp[])
theorem Tk (s:a9) (ν:s.small):an Tryz.prog 103 [e8 s] (δ (mQ s.Τ)):=by
 refine aC.body Μ Tryz.func103 rfl rfl Tryz.ntmps103 rfl rfl (by simp) ?_;have Β:=ν.1;by_cases gR:s.Τ.length=0
 ·(repeat (first|apply μ|(refine ξ λθ I=>?_;simp;(repeat (rw[ε];simp[gR]));apply I)));refine ax (by simp) ?_;(repeat (first|apply μ|(refine ξ λθ I=>?_;simp;(repeat (rw[ε];simp));apply I)));refine W.ret ⟨_,rfl,?_,rfl⟩;exact .of (by rw[show mQ s.Τ=7 by simp[mQ,gR]];rfl)
 by_cases nD:(6:Int)<s.Τ.length
 ·(repeat (first|apply μ|(refine ξ λθ I=>?_;simp;(repeat (rw[ε];simp[gR,nD]));apply I)));refine au (by simp[gR]) ?_;(repeat (first|apply μ|(refine ξ λθ I=>?_;simp;(repeat (rw[ε];simp[gR,nD]));apply I)));refine ax (by simp) ?_;(repeat (first|apply μ|(refine ξ λθ I=>?_;simp;(repeat (rw[ε];simp));apply I)));refine W.ret ⟨_,rfl,?_,rfl⟩;exact .of (by rw[show mQ s.Τ=6 by simp[mQ,gR];omega];rfl)
 have yq:mQ s.Τ=hU ((List.range s.Τ.length).map (ox s.Τ)):=by
  unfold mQ;rw[if_neg gR,if_neg (by omega)]
 rw[yq];(repeat (first|apply μ|(refine ξ λθ I=>?_;simp;(repeat (rw[ε];simp[gR,nD]));apply I)));refine au (by simp[gR]) ?_;(repeat (first|apply μ|(refine ξ λθ I=>?_;simp;(repeat (rw[ε];simp[gR,nD]));apply I)));refine au (by simp) ?_;(repeat (first|apply μ|(refine ξ λθ I=>?_;simp;(repeat (rw[ε];simp));apply I)));refine W.iter (λi:Nat=>i<=s.Τ.length/\∀j,j<i->ox s.Τ j=0) (λi=>[(1,.Ω [aJ s.Τ,aL s.ak,bx s.cells]),(17,aJ s.Τ),(18,δ s.Τ.length),(19,δ i)]) (λ_=>[]) (λi=>s.Τ.length-i) 0 ⟨by omega,λj γ=>by omega⟩ rfl (by simp) (λi hi Γ=>?_);(repeat (first|apply μ|(refine ξ λθ I=>?_;simp;(repeat (rw[ε];simp));apply I)));refine W.dR rfl (λη=>?_) (λη=>?_)
 ·have η:i<s.Τ.length:=by simpa using η
  have oy:s.Τ[i]?=some s.Τ[i]:=aX η
  have fin:∀e:Int,ox s.Τ i=e->e≠0->hU ((List.range s.Τ.length).map (ox s.Τ))=e:=λe he af=>yo η he af hi.2
  repeat apply μ
  refine dy (A:=[4]) Μ λθ I=>?_;simp;(repeat (rw[ε];simp[η]));apply I;refine W.fix (id:=0) (σ':=[]) (Nat.zero_le _) rfl (by simp) (by simp) rfl [(1,.Ω [aJ s.Τ,aL s.ak,bx s.cells]),(17,aJ s.Τ),(18,δ s.Τ.length),(19,δ i),(3,δ i),(4,.Ω [ln s.Τ[i].name,δ s.Τ[i].bR])] (by simp) ?_
  repeat apply μ
  refine W.tD (A:=[]) Μ [(1,.Ω [aJ s.Τ,aL s.ak,bx s.cells]),(17,aJ s.Τ),(18,δ s.Τ.length),(19,δ i),(3,δ i),(4,.Ω [ln s.Τ[i].name,δ s.Τ[i].bR]),(5,aJ (s.Τ.take i))] ?_ (by simp[ε,qP,Nat.le_of_lt η])
  repeat apply μ
  refine W.tD (A:=[]) Μ [(28,bJ (vF s.Τ[i].name)),(1,.Ω [aJ s.Τ,aL s.ak,bx s.cells]),(17,aJ s.Τ),(18,δ s.Τ.length),(19,δ i),(3,δ i),(4,.Ω [ln s.Τ[i].name,δ s.Τ[i].bR]),(5,aJ (s.Τ.take i))] ?_ (by
   unfold vF;by_cases bs:(s.Τ[i].name.size:Int)=1
   ·have FG:s.Τ[i].name.size=1:=by omega
    cases cF:Ar s.Τ[i].name ⟨#[97]⟩<;>simp[ε,qP,bs,cF,FG]
   ·have FG:¬s.Τ[i].name.size=1:=by omega
    simp[ε,qP,bs,FG])
  cases r8:vF s.Τ[i].name
  case true=>
   refine ax rfl ?_;(repeat (first|apply μ|(refine ξ λθ I=>?_;simp;(repeat (rw[ε];simp));apply I)));refine W.ret ⟨_,rfl,?_,rfl⟩;exact .of (by rw[fin 2 (by simp[ox,oy,r8]) (by decide)];rfl)
  refine au rfl ?_
  repeat apply μ
  refine W.Kd (A:=[]) Μ mixed [(43,bJ (decide (0<i)&&qE s.Τ[i].name ((s.Τ[i-1]?.map (·.name)).getD ⟨#[]⟩))),(1,.Ω [aJ s.Τ,aL s.ak,bx s.cells]),(17,aJ s.Τ),(18,δ s.Τ.length),(19,δ i),(3,δ i),(4,.Ω [ln s.Τ[i].name,δ s.Τ[i].bR]),(5,aJ (s.Τ.take i))] ?_ (by
   cases i with
   | zero=>simp[cz,cy];exact cZ (by kernel_rfl)
   | succ n=>
    have Ι:n<s.Τ.length:=by omega
    have Δ:=fI (show n<2 ^ 62 by omega)
    have af:(0:Int)<(n:Int)+1:=by omega
    have hm:n<min (n+1) s.Τ.length:=by omega
    simp[cz,cy,af,Ι,Δ,hm];exact cZ (by kernel_rfl))
  cases bo:decide (0<i)&&qE s.Τ[i].name ((s.Τ[i-1]?.map (·.name)).getD ⟨#[]⟩)
  case true=>
   refine ax rfl ?_;(repeat (first|apply μ|(refine ξ λθ I=>?_;simp;(repeat (rw[ε];simp));apply I)));refine W.ret ⟨_,rfl,?_,rfl⟩;exact .of (by rw[fin 5 (by simp at bo;simp[ox,oy,r8,bo]) (by decide)];rfl)
  refine au rfl ?_
  repeat apply μ
  refine W.tD (A:=[]) Μ [(57,bJ (decide (s.Τ[i].bR<1)||decide (63<s.Τ[i].bR))),(1,.Ω [aJ s.Τ,aL s.ak,bx s.cells]),(17,aJ s.Τ),(18,δ s.Τ.length),(19,δ i),(3,δ i),(4,.Ω [ln s.Τ[i].name,δ s.Τ[i].bR]),(5,aJ (s.Τ.take i))] ?_ (by by_cases q:s.Τ[i].bR<1<;>simp[ε,qP,q]);have bo':¬(0<i/\qE s.Τ[i].name ((s.Τ[i-1]?.map (·.name)).getD ⟨#[]⟩)=true):=λh=>by simp[h] at bo
  by_cases oq:s.Τ[i].bR<1\/63<s.Τ[i].bR
  case pos=>
   refine ax (by simpa using oq) ?_;(repeat (first|apply μ|(refine ξ λθ I=>?_;simp;(repeat (rw[ε];simp));apply I)));refine W.ret ⟨_,rfl,?_,rfl⟩;exact .of (by rw[fin 1 (by simp only[ox,oy,r8];rw[if_neg bo',if_pos oq];rfl) (by decide)];rfl)
  refine au (by simpa using oq) ?_;(repeat apply μ);refine ξ λθ I=>?_;simp;(repeat (rw[ε];simp));refine an.c (Td (s.Τ.take i) (.fn (.func 136) [] [.Ω [ln s.Τ[i].name,δ s.Τ[i].bR]]) (λx=>x.bR==s.Τ[i].bR) (by simp;omega) (by simp[iH]) (λx _=>λ_=>(Tj s.Τ[i] x).cc (by simp;exact aE.refl _) (by simp) (by simp) ⟨rfl,rfl⟩)) (aE.refl _) (by simp[iH]) (by simp) ?_;simp;(repeat (rw[ε];simp));apply I;cases zK:(s.Τ.take i).any (λx=>x.bR==s.Τ[i].bR)
  case true=>
   refine ax (by simp) ?_;(repeat (first|apply μ|(refine ξ λθ I=>?_;simp;(repeat (rw[ε];simp));apply I)));refine W.ret ⟨_,rfl,?_,rfl⟩;exact .of (by rw[fin 4 (by simp only[ox,oy,r8];rw[if_neg bo',if_neg oq,zK];rfl) (by decide)];rfl)
  refine au (by simp) ?_;(repeat (first|apply μ|(refine ξ λθ I=>?_;simp;(repeat (rw[ε];simp));apply I)));refine W.forget _ ?_ (Γ (i+1) ⟨η,λj γ=>?_⟩ (by omega))
  ·simp[eK η (show s.Τ.length<2 ^ 62 by omega)]
  ·by_cases e:j=i
   ·subst e;simp only[ox,oy,r8];rw[if_neg bo',if_neg oq,zK];rfl
   ·exact hi.2 j (by omega)
 ·have η:s.Τ.length<=i:=by simpa using η
  refine W.exit rfl ?_;(repeat (first|apply μ|(refine ξ λθ I=>?_;simp;(repeat (rw[ε];simp));apply I)));refine W.ret ⟨_,rfl,?_,rfl⟩;exact .of (by rw[yp λj γ=>hi.2 j (by omega)];rfl)
end Go.TL
