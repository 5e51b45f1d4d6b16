import Derived.Test.YtlabjopijpkiaaaGreatSAP
set_option maxHeartbeats 16000000
set_option maxRecDepth 20000
set_option linter.unusedSectionVars false
set_option linter.unusedSimpArgs false
set_option linter.unusedVariables false
namespace Go.TL
open Go.Proofs
variable [bm]
def iI:List Int->Int
 | []=>0
 | e::l=>if e=0 then iI l else e
theorem X5 {l:List Int} {i:Nat} (h:i<l.length) (J:l[i]≠0) (γ:∀j,j<i->(ε:j<l.length)->l[j]=0):iI l=l[i]:=by
 induction l generalizing i with
 | nil=>cases h
 | cons e l Δ=>
  cases i with
  | zero=>simp at J;simp[iI,J]
  | succ i=>
   have ag:e=0:=γ 0 (by omega) (by simp);simp only[iI,ag,if_true,List.getElem_cons_succ];exact Δ (by simpa using h) (by simpa using J) λj ε gx=>γ (j+1) (by omega) (by simpa using gx)
theorem X6 {l:List Int} (h:∀j,(ε:j<l.length)->l[j]=0):iI l=0:=by
 induction l with
 | nil=>rfl
 | cons e l Δ=>
  have ag:e=0:=h 0 (by simp);simp only[iI,ag,if_true];exact Δ λj ε=>h (j+1) (by simpa using ε)
theorem Ah {f:Nat->Int} {n i:Nat} {e:Int} (h:i<n) (he:f i=e) (ag:e≠0) (γ:∀j,j<i->f j=0):iI ((List.range n).map f)=e:=by
 rw[X5 (i:=i) (by simpa using h) (by simp[he,ag]) (λj ε ω=>by simpa using γ j ε)];simp[he]
theorem Ai {f:Nat->Int} {n:Nat} (h:∀j,j<n->f j=0):iI ((List.range n).map f)=0:=
 X6 λj ε=>by simpa using h j (by simpa using ε)
def x1 (n:ByteArray):Bool:=n.size != 1||CB n ⟨#[97]⟩||!sx n ⟨#[122]⟩
def qh (l:List lS) (i:Nat):Int:=match l[i]? with
 | none=>0
 | some g=>if x1 g.name then 2 else if 0<i/\sx g.name ((l[i-1]?.map (·.name)).getD ⟨#[]⟩)=true then 5 else if g.eo<1\/63<g.eo then 1 else if(l.take i).any (λx=>x.eo==g.eo) then 4 else 0
def oh (l:List lS):Int:=if l.length=0 then 7 else if 6<l.length then 6 else iI ((List.range l.length).map (qh l))
theorem X7 (g x:lS):ay Tryz.prog 136 [eA x,.Ψ [nA g.name,R g.eo]] (a4 (x.eo==g.eo)):=by
 refine ak.body Ι Tryz.func136 rfl rfl Tryz.ntmps136 rfl rfl (by simp) ?_;(repeat (first|apply κ|(refine ν λη I=>?_;simp;(repeat (rw[δ];simp));apply I)));refine W.ret ⟨_,rfl,?_,rfl⟩;exact .of (by simp[])
theorem X8 (s:aL) (ο:s.small):ay Tryz.prog 103 [eV s] (R (oh s.ae)):=by
 refine ak.body Ι Tryz.func103 rfl rfl Tryz.ntmps103 rfl rfl (by simp) ?_;have ω:=ο.1;by_cases hE:s.ae.length=0
 ·(repeat (first|apply κ|(refine ν λη I=>?_;simp;(repeat (rw[δ];simp[hE]));apply I)));refine aj (by simp) ?_;(repeat (first|apply κ|(refine ν λη I=>?_;simp;(repeat (rw[δ];simp));apply I)));refine W.ret ⟨_,rfl,?_,rfl⟩;exact .of (by rw[show oh s.ae=7 by simp[oh,hE]];rfl)
 by_cases pe:(6:Int)<s.ae.length
 ·(repeat (first|apply κ|(refine ν λη I=>?_;simp;(repeat (rw[δ];simp[hE,pe]));apply I)));refine ah (by simp[hE]) ?_;(repeat (first|apply κ|(refine ν λη I=>?_;simp;(repeat (rw[δ];simp[hE,pe]));apply I)));refine aj (by simp) ?_;(repeat (first|apply κ|(refine ν λη I=>?_;simp;(repeat (rw[δ];simp));apply I)));refine W.ret ⟨_,rfl,?_,rfl⟩;exact .of (by rw[show oh s.ae=6 by simp[oh,hE];omega];rfl)
 have Aj:oh s.ae=iI ((List.range s.ae.length).map (qh s.ae)):=by
  unfold oh;rw[if_neg hE,if_neg (by omega)]
 rw[Aj];(repeat (first|apply κ|(refine ν λη I=>?_;simp;(repeat (rw[δ];simp[hE,pe]));apply I)));refine ah (by simp[hE]) ?_;(repeat (first|apply κ|(refine ν λη I=>?_;simp;(repeat (rw[δ];simp[hE,pe]));apply I)));refine ah (by simp) ?_;(repeat (first|apply κ|(refine ν λη I=>?_;simp;(repeat (rw[δ];simp));apply I)));refine W.iter (λi:Nat=>i<=s.ae.length/\∀j,j<i->qh s.ae j=0) (λi=>[(1,.Ψ [aO s.ae,aI s.ai,bf s.cells]),(17,aO s.ae),(18,R s.ae.length),(19,R i)]) (λ_=>[]) (λi=>s.ae.length-i) 0 ⟨by omega,λj ε=>by omega⟩ rfl (by simp) (λi hi Δ=>?_);(repeat (first|apply κ|(refine ν λη I=>?_;simp;(repeat (rw[δ];simp));apply I)));refine W.en rfl (λζ=>?_) (λζ=>?_)
 ·have ζ:i<s.ae.length:=by simpa using ζ
  have qi:s.ae[i]?=some s.ae[i]:=aW ζ
  have fin:∀e:Int,qh s.ae i=e->e≠0->iI ((List.range s.ae.length).map (qh s.ae))=e:=λe he ag=>Ah ζ he ag hi.2
  repeat apply κ
  refine dw (A:=[4]) Ι λη I=>?_;simp;(repeat (rw[δ];simp[ζ]));apply I;refine W.fix (id:=0) (σ':=[]) (Nat.zero_le _) rfl (by simp) (by simp) rfl [(1,.Ψ [aO s.ae,aI s.ai,bf s.cells]),(17,aO s.ae),(18,R s.ae.length),(19,R i),(3,R i),(4,.Ψ [nA s.ae[i].name,R s.ae[i].eo])] (by simp) ?_
  repeat apply κ
  refine W.sJ (A:=[]) Ι [(1,.Ψ [aO s.ae,aI s.ai,bf s.cells]),(17,aO s.ae),(18,R s.ae.length),(19,R i),(3,R i),(4,.Ψ [nA s.ae[i].name,R s.ae[i].eo]),(5,aO (s.ae.take i))] ?_ (by simp[δ,qc,Nat.le_of_lt ζ])
  repeat apply κ
  refine W.sJ (A:=[]) Ι [(28,a4 (x1 s.ae[i].name)),(1,.Ψ [aO s.ae,aI s.ai,bf s.cells]),(17,aO s.ae),(18,R s.ae.length),(19,R i),(3,R i),(4,.Ψ [nA s.ae[i].name,R s.ae[i].eo]),(5,aO (s.ae.take i))] ?_ (by
   unfold x1;by_cases bG:(s.ae[i].name.size:Int)=1
   ·have Ip:s.ae[i].name.size=1:=by omega
    cases dj:CB s.ae[i].name ⟨#[97]⟩<;>simp[δ,qc,bG,dj,Ip]
   ·have Ip:¬s.ae[i].name.size=1:=by omega
    simp[δ,qc,bG,Ip])
  cases uj:x1 s.ae[i].name
  case true=>
   refine aj rfl ?_;(repeat (first|apply κ|(refine ν λη I=>?_;simp;(repeat (rw[δ];simp));apply I)));refine W.ret ⟨_,rfl,?_,rfl⟩;exact .of (by rw[fin 2 (by simp[qh,qi,uj]) (by decide)];rfl)
  refine ah rfl ?_
  repeat apply κ
  refine W.DU (A:=[]) Ι mixed [(43,a4 (decide (0<i)&&sx s.ae[i].name ((s.ae[i-1]?.map (·.name)).getD ⟨#[]⟩))),(1,.Ψ [aO s.ae,aI s.ai,bf s.cells]),(17,aO s.ae),(18,R s.ae.length),(19,R i),(3,R i),(4,.Ψ [nA s.ae[i].name,R s.ae[i].eo]),(5,aO (s.ae.take i))] ?_ (by
   cases i with
   | zero=>simp[ba,a'];exact bK (by kernel_rfl)
   | succ n=>
    have Η:n<s.ae.length:=by omega
    have Ζ:=fJ (show n<2 ^ 62 by omega)
    have ag:(0:Int)<(n:Int)+1:=by omega
    have hm:n<min (n+1) s.ae.length:=by omega
    simp[ba,a',ag,Η,Ζ,hm];exact bK (by kernel_rfl))
  cases bo:decide (0<i)&&sx s.ae[i].name ((s.ae[i-1]?.map (·.name)).getD ⟨#[]⟩)
  case true=>
   refine aj rfl ?_;(repeat (first|apply κ|(refine ν λη I=>?_;simp;(repeat (rw[δ];simp));apply I)));refine W.ret ⟨_,rfl,?_,rfl⟩;exact .of (by rw[fin 5 (by simp at bo;simp[qh,qi,uj,bo]) (by decide)];rfl)
  refine ah rfl ?_
  repeat apply κ
  refine W.sJ (A:=[]) Ι [(57,a4 (decide (s.ae[i].eo<1)||decide (63<s.ae[i].eo))),(1,.Ψ [aO s.ae,aI s.ai,bf s.cells]),(17,aO s.ae),(18,R s.ae.length),(19,R i),(3,R i),(4,.Ψ [nA s.ae[i].name,R s.ae[i].eo]),(5,aO (s.ae.take i))] ?_ (by by_cases q:s.ae[i].eo<1<;>simp[δ,qc,q]);have bo':¬(0<i/\sx s.ae[i].name ((s.ae[i-1]?.map (·.name)).getD ⟨#[]⟩)=true):=λh=>by simp[h] at bo
  by_cases qb:s.ae[i].eo<1\/63<s.ae[i].eo
  case pos=>
   refine aj (by simpa using qb) ?_;(repeat (first|apply κ|(refine ν λη I=>?_;simp;(repeat (rw[δ];simp));apply I)));refine W.ret ⟨_,rfl,?_,rfl⟩;exact .of (by rw[fin 1 (by simp only[qh,qi,uj];rw[if_neg bo',if_pos qb];rfl) (by decide)];rfl)
  refine ah (by simpa using qb) ?_;(repeat apply κ);refine ν λη I=>?_;simp;(repeat (rw[δ];simp));refine ay.c (X2 (s.ae.take i) (.fn (.func 136) [] [.Ψ [nA s.ae[i].name,R s.ae[i].eo]]) (λx=>x.eo==s.ae[i].eo) (by simp;omega) (by simp[lP]) (λx _=>λ_=>(X7 s.ae[i] x).cc (by simp;exact aK.refl _) (by simp) (by simp) ⟨rfl,rfl⟩)) (aK.refl _) (by simp[lP]) (by simp) ?_;simp;(repeat (rw[δ];simp));apply I;cases BV:(s.ae.take i).any (λx=>x.eo==s.ae[i].eo)
  case true=>
   refine aj (by simp) ?_;(repeat (first|apply κ|(refine ν λη I=>?_;simp;(repeat (rw[δ];simp));apply I)));refine W.ret ⟨_,rfl,?_,rfl⟩;exact .of (by rw[fin 4 (by simp only[qh,qi,uj];rw[if_neg bo',if_neg qb,BV];rfl) (by decide)];rfl)
  refine ah (by simp) ?_;(repeat (first|apply κ|(refine ν λη I=>?_;simp;(repeat (rw[δ];simp));apply I)));refine W.forget _ ?_ (Δ (i+1) ⟨ζ,λj ε=>?_⟩ (by omega))
  ·simp[fe ζ (show s.ae.length<2 ^ 62 by omega)]
  ·by_cases e:j=i
   ·subst e;simp only[qh,qi,uj];rw[if_neg bo',if_neg qb,BV];rfl
   ·exact hi.2 j (by omega)
 ·have ζ:s.ae.length<=i:=by simpa using ζ
  refine W.exit rfl ?_;(repeat (first|apply κ|(refine ν λη I=>?_;simp;(repeat (rw[δ];simp));apply I)));refine W.ret ⟨_,rfl,?_,rfl⟩;exact .of (by rw[Ai λj ε=>hi.2 j (by omega)];rfl)
end Go.TL
