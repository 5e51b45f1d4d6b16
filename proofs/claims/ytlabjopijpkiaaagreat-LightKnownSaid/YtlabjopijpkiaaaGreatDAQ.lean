import Derived.Test.YtlabjopijpkiaaaGreatDAP
set_option maxHeartbeats 16000000
set_option maxRecDepth 20000
set_option linter.unusedSectionVars false
set_option linter.unusedSimpArgs false
set_option linter.unusedVariables false
namespace Go.TL
open Go.Proofs
variable [bj]
def iH:List Int->Int
 | []=>0
 | e::l=>if e=0 then iH l else e
theorem VQ {l:List Int} {i:Nat} (h:i<l.length) (I:l[i]≠0) (R:∀j,j<i->(δ:j<l.length)->l[j]=0):iH l=l[i]:=by
 induction l generalizing i with
 | nil=>cases h
 | cons e l ω=>
  cases i with
  | zero=>simp at I;simp[iH,I]
  | succ i=>
   have ao:e=0:=R 0 γ η;simp only[iH,ao,if_true,List.getElem_cons_succ];exact ω (by simpa using h) (by simpa using I) λj δ j'=>R (j+1) γ (by simpa using j')
theorem VR {l:List Int} (h:∀j,(δ:j<l.length)->l[j]=0):iH l=0:=by
 induction l with
 | nil=>rfl
 | cons e l ω=>
  have ao:e=0:=h 0 η;simp only[iH,ao,if_true];exact ω λj δ=>h (j+1) (by simpa using δ)
theorem zU {f:Nat->Int} {n i:Nat} {e:Int} (h:i<n) (he:f i=e) (ao:e≠0) (R:∀j,j<i->f j=0):iH ((List.range n).map f)=e:=by
 rw[VQ (i:=i) (by simpa using h) (by simp[he,ao]) (λj δ υ=>by simpa using R j δ)];simp[he]
theorem zV {f:Nat->Int} {n:Nat} (h:∀j,j<n->f j=0):iH ((List.range n).map f)=0:=
 VR λj δ=>by simpa using h j (by simpa using δ)
def zW (n:ByteArray):Bool:=n.size != 1||B7 n ⟨#[97]⟩||!tj n ⟨#[122]⟩
def pV (l:List kA) (i:Nat):Int:=match l[i]? with
 | none=>0
 | some g=>if zW g.name then 2 else if 0<i/\tj g.name ((l[i-1]?.map (·.name)).getD ⟨#[]⟩)=true then 5 else if g.er<1\/63<g.er then 1 else if(l.take i).any (λx=>x.er==g.er) then 4 else 0
def nQ (l:List kA):Int:=if l.length=0 then 7 else if 6<l.length then 6 else iH ((List.range l.length).map (pV l))
theorem VS (g x:kA):Ω Tryz.prog 136 [hI x,.aa [oT g.name,J g.er]] (bs (x.er==g.er)):=by
 refine ak.body Ρ Tryz.func136 rfl rfl Tryz.ntmps136 rfl rfl η ?_;refine Β ?_;refine W.rt ?_;exact .of (by simp[])
theorem VT (s:aL) (μ:s.small):Ω Tryz.prog 103 [dH s] (J (nQ s.Τ)):=by
 refine ak.body Ρ Tryz.func103 rfl rfl Tryz.ntmps103 rfl rfl η ?_;have υ:=μ.1;by_cases hE:s.Τ.length=0
 ·refine aT hE ?_;refine aA η ?_;refine Β ?_;refine W.rt ?_;exact .of (by rw[show nQ s.Τ=7 by simp[nQ,hE]];rfl)
 by_cases oY:(6:Int)<s.Τ.length
 ·refine aT (Ζ hE oY) ?_;refine ay (by simp[hE]) ?_;refine aT (Ζ hE oY) ?_;refine aA η ?_;refine Β ?_;refine W.rt ?_;exact .of (by rw[show nQ s.Τ=6 by simp[nQ,hE];omega];rfl)
 have zX:nQ s.Τ=iH ((List.range s.Τ.length).map (pV s.Τ)):=by
  unfold nQ;rw[if_neg hE,if_neg γ]
 rw[zX];refine aT (Ζ hE oY) ?_;refine ay (by simp[hE]) ?_;refine aT (Ζ hE oY) ?_;refine ay η ?_;refine Β ?_;refine W.iter (λi:Nat=>i<=s.Τ.length/\∀j,j<i->pV s.Τ j=0) (λi=>[(1,.aa [aS s.Τ,aY s.ai,a7 s.cells]),(17,aS s.Τ),(18,J s.Τ.length),(19,J i)]) (λ_=>[]) (λi=>s.Τ.length-i) 0 ⟨γ,λj δ=>γ⟩ rfl η (λi hi ω=>?_);refine Β ?_;refine W.fL rfl (λε=>?_) (λε=>?_)
 ·have ε:i<s.Τ.length:=by simpa using ε
  have pW:s.Τ[i]?=some s.Τ[i]:=ba ε
  have fin:∀e:Int,pV s.Τ i=e->e≠0->iH ((List.range s.Τ.length).map (pV s.Τ))=e:=λe he ao=>zU ε he ao hi.2
  repeat apply al
  refine cR (A:=[4]) Ρ λΔ ζ=>fV ε ?_;apply ζ;refine W.fix (id:=0) (σ':=[]) (Nat.zero_le _) rfl η η rfl [(1,.aa [aS s.Τ,aY s.ai,a7 s.cells]),(17,aS s.Τ),(18,J s.Τ.length),(19,J i),(3,J i),(4,.aa [oT s.Τ[i].name,J s.Τ[i].er])] η ?_
  repeat apply al
  refine W.r7 (A:=[]) Ρ [(1,.aa [aS s.Τ,aY s.ai,a7 s.cells]),(17,aS s.Τ),(18,J s.Τ.length),(19,J i),(3,J i),(4,.aa [oT s.Τ[i].name,J s.Τ[i].er]),(5,aS (s.Τ.take i))] ?_ (by simp[ae,q3,Nat.le_of_lt ε])
  repeat apply al
  refine W.r7 (A:=[]) Ρ [(28,bs (zW s.Τ[i].name)),(1,.aa [aS s.Τ,aY s.ai,a7 s.cells]),(17,aS s.Τ),(18,J s.Τ.length),(19,J i),(3,J i),(4,.aa [oT s.Τ[i].name,J s.Τ[i].er]),(5,aS (s.Τ.take i))] ?_ (by
   unfold zW;by_cases bK:(s.Τ[i].name.size:Int)=1
   ·have Hl:s.Τ[i].name.size=1:=by omega
    cases da:B7 s.Τ[i].name ⟨#[97]⟩<;>simp[ae,q3,bK,da,Hl]
   ·have Hl:¬s.Τ[i].name.size=1:=by omega
    simp[ae,q3,bK,Hl])
  cases tC:zW s.Τ[i].name
  case true=>
   refine aA rfl ?_;refine Β ?_;refine W.rt ?_;exact .of (by rw[fin 2 (by simp[pV,pW,tC]) a0];rfl)
  refine ay rfl ?_
  repeat apply al
  refine W.Df (A:=[]) Ρ mixed [(43,bs (decide (0<i)&&tj s.Τ[i].name ((s.Τ[i-1]?.map (·.name)).getD ⟨#[]⟩))),(1,.aa [aS s.Τ,aY s.ai,a7 s.cells]),(17,aS s.Τ),(18,J s.Τ.length),(19,J i),(3,J i),(4,.aa [oT s.Τ[i].name,J s.Τ[i].er]),(5,aS (s.Τ.take i))] ?_ (by
   cases i with
   | zero=>simp[dZ,dY];exact oQ (by kernel_rfl)
   | succ n=>
    have Ε:n<s.Τ.length:=γ
    have Γ:=et (show n<2 ^ 62 by omega)
    have ao:(0:Int)<(n:Int)+1:=γ
    have hm:n<min (n+1) s.Τ.length:=γ;simp[dZ,dY,ao,Ε,Γ,hm];exact oQ (by kernel_rfl))
  cases bo:decide (0<i)&&tj s.Τ[i].name ((s.Τ[i-1]?.map (·.name)).getD ⟨#[]⟩)
  case true=>
   refine aA rfl ?_;refine Β ?_;refine W.rt ?_;exact .of (by rw[fin 5 (by simp at bo;simp[pV,pW,tC,bo]) a0];rfl)
  refine ay rfl ?_
  repeat apply al
  refine W.r7 (A:=[]) Ρ [(57,bs (decide (s.Τ[i].er<1)||decide (63<s.Τ[i].er))),(1,.aa [aS s.Τ,aY s.ai,a7 s.cells]),(17,aS s.Τ),(18,J s.Τ.length),(19,J i),(3,J i),(4,.aa [oT s.Τ[i].name,J s.Τ[i].er]),(5,aS (s.Τ.take i))] ?_ (by by_cases q:s.Τ[i].er<1<;>simp[ae,q3,q]);have bo':¬(0<i/\tj s.Τ[i].name ((s.Τ[i-1]?.map (·.name)).getD ⟨#[]⟩)=true):=λh=>by simp[h] at bo
  by_cases pN:s.Τ[i].er<1\/63<s.Τ[i].er
  case pos=>
   refine aA (by simpa using pN) ?_;refine Β ?_;refine W.rt ?_;exact .of (by rw[fin 1 (by simp only[pV,pW,tC];rw[if_neg bo',if_pos pN];rfl) a0];rfl)
  refine ay (by simpa using pN) ?_;refine a5 λΔ ζ=>?_;refine Ω.c (VN (s.Τ.take i) (.fn (.func 136) [] [.aa [oT s.Τ[i].name,J s.Τ[i].er]]) (λx=>x.er==s.Τ[i].er) (by simp;omega) (by simp[hG]) (λx _=>λ_=>(VS s.Τ[i] x).cc (by simp;exact b9.refl _) η η ⟨rfl,rfl⟩)) (b9.refl _) (by simp[hG]) η ?_;simp;(repeat (rw[ae];simp[]));apply ζ;cases Bp:(s.Τ.take i).any (λx=>x.er==s.Τ[i].er)
  case true=>
   refine aA η ?_;refine Β ?_;refine W.rt ?_;exact .of (by rw[fin 4 (by simp only[pV,pW,tC];rw[if_neg bo',if_neg pN,Bp];rfl) a0];rfl)
  refine ay η ?_;refine Β ?_;refine W.forget _ ?_ (ω (i+1) ⟨ε,λj δ=>?_⟩ γ)
  ·simp[eX ε (show s.Τ.length<2 ^ 62 by omega)]
  ·by_cases e:j=i
   ·subst e;simp only[pV,pW,tC];rw[if_neg bo',if_neg pN,Bp];rfl
   ·exact hi.2 j γ
 ·have ε:s.Τ.length<=i:=by simpa using ε
  refine W.exit rfl ?_;refine Β ?_;refine W.rt ?_;exact .of (by rw[zV λj δ=>hi.2 j γ];rfl)
end Go.TL
