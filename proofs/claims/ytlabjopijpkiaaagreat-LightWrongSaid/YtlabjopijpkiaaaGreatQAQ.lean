import Derived.Test.YtlabjopijpkiaaaGreatQAP
set_option maxHeartbeats 16000000
set_option maxRecDepth 20000
set_option linter.unusedSectionVars false
set_option linter.unusedSimpArgs false
set_option linter.unusedVariables false
namespace Go.TL
open Go.Proofs
variable [bn]
def iO:List Int->Int
 | []=>0
 | e::l=>if e=0 then iO l else e
theorem WM {l:List Int} {i:Nat} (h:i<l.length) (J:l[i]≠0) (γ:∀j,j<i->(ε:j<l.length)->l[j]=0):iO l=l[i]:=by
 induction l generalizing i with
 | nil=>cases h
 | cons e l Δ=>
  cases i with
  | zero=>simp at J;simp[iO,J]
  | succ i=>
   have ah:e=0:=γ 0 (by omega) (by simp);simp only[iO,ah,if_true,List.getElem_cons_succ];exact Δ (by simpa using h) (by simpa using J) λj ε gV=>γ (j+1) (by omega) (by simpa using gV)
theorem WN {l:List Int} (h:∀j,(ε:j<l.length)->l[j]=0):iO l=0:=by
 induction l with
 | nil=>rfl
 | cons e l Δ=>
  have ah:e=0:=h 0 (by simp);simp only[iO,ah,if_true];exact Δ λj ε=>h (j+1) (by simpa using ε)
theorem Az {f:Nat->Int} {n i:Nat} {e:Int} (h:i<n) (he:f i=e) (ah:e≠0) (γ:∀j,j<i->f j=0):iO ((List.range n).map f)=e:=by
 rw[WM (i:=i) (by simpa using h) (by simp[he,ah]) (λj ε Α=>by simpa using γ j ε)];simp[he]
theorem AA {f:Nat->Int} {n:Nat} (h:∀j,j<n->f j=0):iO ((List.range n).map f)=0:=
 WN λj ε=>by simpa using h j (by simpa using ε)
def x9 (n:ByteArray):Bool:=n.size != 1||CM n ⟨#[97]⟩||!sf n ⟨#[122]⟩
def pW (l:List lH) (i:Nat):Int:=match l[i]? with
 | none=>0
 | some g=>if x9 g.name then 2 else if 0<i/\sf g.name ((l[i-1]?.map (·.name)).getD ⟨#[]⟩)=true then 5 else if g.eF<1\/63<g.eF then 1 else if(l.take i).any (λx=>x.eF==g.eF) then 4 else 0
def n3 (l:List lH):Int:=if l.length=0 then 7 else if 6<l.length then 6 else iO ((List.range l.length).map (pW l))
theorem WO (g x:lH):az Tryz.prog 136 [eG x,.ad [nj g.name,R g.eF]] (bA (x.eF==g.eF)):=by
 refine ak.body Κ Tryz.func136 rfl rfl Tryz.ntmps136 rfl rfl (by simp) ?_;(repeat (first|apply κ|(refine ξ λη I=>?_;simp;(repeat (rw[δ];simp));apply I)));refine W.ret ⟨_,rfl,?_,rfl⟩;exact .of (by simp[])
theorem WQ (s:aR) (ο:s.small):az Tryz.prog 103 [d' s] (R (n3 s.ai)):=by
 refine ak.body Κ Tryz.func103 rfl rfl Tryz.ntmps103 rfl rfl (by simp) ?_;have Α:=ο.1;by_cases hK:s.ai.length=0
 ·(repeat (first|apply κ|(refine ξ λη I=>?_;simp;(repeat (rw[δ];simp[hK]));apply I)));refine al (by simp) ?_;(repeat (first|apply κ|(refine ξ λη I=>?_;simp;(repeat (rw[δ];simp));apply I)));refine W.ret ⟨_,rfl,?_,rfl⟩;exact .of (by rw[show n3 s.ai=7 by simp[n3,hK]];rfl)
 by_cases oV:(6:Int)<s.ai.length
 ·(repeat (first|apply κ|(refine ξ λη I=>?_;simp;(repeat (rw[δ];simp[hK,oV]));apply I)));refine aj (by simp[hK]) ?_;(repeat (first|apply κ|(refine ξ λη I=>?_;simp;(repeat (rw[δ];simp[hK,oV]));apply I)));refine al (by simp) ?_;(repeat (first|apply κ|(refine ξ λη I=>?_;simp;(repeat (rw[δ];simp));apply I)));refine W.ret ⟨_,rfl,?_,rfl⟩;exact .of (by rw[show n3 s.ai=6 by simp[n3,hK];omega];rfl)
 have AB:n3 s.ai=iO ((List.range s.ai.length).map (pW s.ai)):=by
  unfold n3;rw[if_neg hK,if_neg (by omega)]
 rw[AB];(repeat (first|apply κ|(refine ξ λη I=>?_;simp;(repeat (rw[δ];simp[hK,oV]));apply I)));refine aj (by simp[hK]) ?_;(repeat (first|apply κ|(refine ξ λη I=>?_;simp;(repeat (rw[δ];simp[hK,oV]));apply I)));refine aj (by simp) ?_;(repeat (first|apply κ|(refine ξ λη I=>?_;simp;(repeat (rw[δ];simp));apply I)));refine W.iter (λi:Nat=>i<=s.ai.length/\∀j,j<i->pW s.ai j=0) (λi=>[(1,.ad [aQ s.ai,aN s.ao,bl s.cells]),(17,aQ s.ai),(18,R s.ai.length),(19,R i)]) (λ_=>[]) (λi=>s.ai.length-i) 0 ⟨by omega,λj ε=>by omega⟩ rfl (by simp) (λi hi Δ=>?_);(repeat (first|apply κ|(refine ξ λη I=>?_;simp;(repeat (rw[δ];simp));apply I)));refine W.en rfl (λζ=>?_) (λζ=>?_)
 ·have ζ:i<s.ai.length:=by simpa using ζ
  have pX:s.ai[i]?=some s.ai[i]:=a2 ζ
  have fin:∀e:Int,pW s.ai i=e->e≠0->iO ((List.range s.ai.length).map (pW s.ai))=e:=λe he ah=>Az ζ he ah hi.2
  repeat apply κ
  refine c7 (A:=[4]) Κ λη I=>?_;simp;(repeat (rw[δ];simp[ζ]));apply I;refine W.fix (id:=0) (σ':=[]) (Nat.zero_le _) rfl (by simp) (by simp) rfl [(1,.ad [aQ s.ai,aN s.ao,bl s.cells]),(17,aQ s.ai),(18,R s.ai.length),(19,R i),(3,R i),(4,.ad [nj s.ai[i].name,R s.ai[i].eF])] (by simp) ?_
  repeat apply κ
  refine W.tU (A:=[]) Κ [(1,.ad [aQ s.ai,aN s.ao,bl s.cells]),(17,aQ s.ai),(18,R s.ai.length),(19,R i),(3,R i),(4,.ad [nj s.ai[i].name,R s.ai[i].eF]),(5,aQ (s.ai.take i))] ?_ (by simp[δ,q6,Nat.le_of_lt ζ])
  repeat apply κ
  refine W.tU (A:=[]) Κ [(28,bA (x9 s.ai[i].name)),(1,.ad [aQ s.ai,aN s.ao,bl s.cells]),(17,aQ s.ai),(18,R s.ai.length),(19,R i),(3,R i),(4,.ad [nj s.ai[i].name,R s.ai[i].eF]),(5,aQ (s.ai.take i))] ?_ (by
   unfold x9;by_cases bP:(s.ai[i].name.size:Int)=1
   ·have Ia:s.ai[i].name.size=1:=by omega
    cases dw:CM s.ai[i].name ⟨#[97]⟩<;>simp[δ,q6,bP,dw,Ia]
   ·have Ia:¬s.ai[i].name.size=1:=by omega
    simp[δ,q6,bP,Ia])
  cases uf:x9 s.ai[i].name
  case true=>
   refine al rfl ?_;(repeat (first|apply κ|(refine ξ λη I=>?_;simp;(repeat (rw[δ];simp));apply I)));refine W.ret ⟨_,rfl,?_,rfl⟩;exact .of (by rw[fin 2 (by simp[pW,pX,uf]) (by decide)];rfl)
  refine aj rfl ?_
  repeat apply κ
  refine W.D2 (A:=[]) Κ mixed [(43,bA (decide (0<i)&&sf s.ai[i].name ((s.ai[i-1]?.map (·.name)).getD ⟨#[]⟩))),(1,.ad [aQ s.ai,aN s.ao,bl s.cells]),(17,aQ s.ai),(18,R s.ai.length),(19,R i),(3,R i),(4,.ad [nj s.ai[i].name,R s.ai[i].eF]),(5,aQ (s.ai.take i))] ?_ (by
   cases i with
   | zero=>simp[bD,bC];exact bW (by kernel_rfl)
   | succ n=>
    have Ι:n<s.ai.length:=by omega
    have Ε:=gl (show n<2 ^ 62 by omega)
    have ah:(0:Int)<(n:Int)+1:=by omega
    have hm:n<min (n+1) s.ai.length:=by omega
    simp[bD,bC,ah,Ι,Ε,hm];exact bW (by kernel_rfl))
  cases bo:decide (0<i)&&sf s.ai[i].name ((s.ai[i-1]?.map (·.name)).getD ⟨#[]⟩)
  case true=>
   refine al rfl ?_;(repeat (first|apply κ|(refine ξ λη I=>?_;simp;(repeat (rw[δ];simp));apply I)));refine W.ret ⟨_,rfl,?_,rfl⟩;exact .of (by rw[fin 5 (by simp at bo;simp[pW,pX,uf,bo]) (by decide)];rfl)
  refine aj rfl ?_
  repeat apply κ
  refine W.tU (A:=[]) Κ [(57,bA (decide (s.ai[i].eF<1)||decide (63<s.ai[i].eF))),(1,.ad [aQ s.ai,aN s.ao,bl s.cells]),(17,aQ s.ai),(18,R s.ai.length),(19,R i),(3,R i),(4,.ad [nj s.ai[i].name,R s.ai[i].eF]),(5,aQ (s.ai.take i))] ?_ (by by_cases q:s.ai[i].eF<1<;>simp[δ,q6,q]);have bo':¬(0<i/\sf s.ai[i].name ((s.ai[i-1]?.map (·.name)).getD ⟨#[]⟩)=true):=λh=>by simp[h] at bo
  by_cases pS:s.ai[i].eF<1\/63<s.ai[i].eF
  case pos=>
   refine al (by simpa using pS) ?_;(repeat (first|apply κ|(refine ξ λη I=>?_;simp;(repeat (rw[δ];simp));apply I)));refine W.ret ⟨_,rfl,?_,rfl⟩;exact .of (by rw[fin 1 (by simp only[pW,pX,uf];rw[if_neg bo',if_pos pS];rfl) (by decide)];rfl)
  refine aj (by simpa using pS) ?_;(repeat apply κ);refine ξ λη I=>?_;simp;(repeat (rw[δ];simp));refine az.c (WJ (s.ai.take i) (.fn (.func 136) [] [.ad [nj s.ai[i].name,R s.ai[i].eF]]) (λx=>x.eF==s.ai[i].eF) (by simp;omega) (by simp[lE]) (λx _=>λ_=>(WO s.ai[i] x).cc (by simp;exact aK.refl _) (by simp) (by simp) ⟨rfl,rfl⟩)) (aK.refl _) (by simp[lE]) (by simp) ?_;simp;(repeat (rw[δ];simp));apply I;cases B6:(s.ai.take i).any (λx=>x.eF==s.ai[i].eF)
  case true=>
   refine al (by simp) ?_;(repeat (first|apply κ|(refine ξ λη I=>?_;simp;(repeat (rw[δ];simp));apply I)));refine W.ret ⟨_,rfl,?_,rfl⟩;exact .of (by rw[fin 4 (by simp only[pW,pX,uf];rw[if_neg bo',if_neg pS,B6];rfl) (by decide)];rfl)
  refine aj (by simp) ?_;(repeat (first|apply κ|(refine ξ λη I=>?_;simp;(repeat (rw[δ];simp));apply I)));refine W.forget _ ?_ (Δ (i+1) ⟨ζ,λj ε=>?_⟩ (by omega))
  ·simp[e6 ζ (show s.ai.length<2 ^ 62 by omega)]
  ·by_cases e:j=i
   ·subst e;simp only[pW,pX,uf];rw[if_neg bo',if_neg pS,B6];rfl
   ·exact hi.2 j (by omega)
 ·have ζ:s.ai.length<=i:=by simpa using ζ
  refine W.exit rfl ?_;(repeat (first|apply κ|(refine ξ λη I=>?_;simp;(repeat (rw[δ];simp));apply I)));refine W.ret ⟨_,rfl,?_,rfl⟩;exact .of (by rw[AA λj ε=>hi.2 j (by omega)];rfl)
end Go.TL
