import Derived.Test.YtlabjopijpkiaaaGreatVAP
set_option maxHeartbeats 16000000
set_option maxRecDepth 20000
set_option linter.unusedSectionVars false
set_option linter.unusedSimpArgs false
set_option linter.unusedVariables false
namespace Go.TL
open Go.Proofs
variable [bn]
def ji:List Int->Int
 | []=>0
 | e::l=>if e=0 then ji l else e
theorem Wk {l:List Int} {i:Nat} (h:i<l.length) (J:l[i]≠0) (U:∀j,j<i->(ε:j<l.length)->l[j]=0):ji l=l[i]:=by
 induction l generalizing i with
 | nil=>cases h
 | cons e l Β=>
  cases i with
  | zero=>simp at J;simp[ji,J]
  | succ i=>
   have aj:e=0:=U 0 R η;simp only[ji,aj,if_true,List.getElem_cons_succ];exact Β (by simpa using h) (by simpa using J) λj ε im=>U (j+1) R (by simpa using im)
theorem Wl {l:List Int} (h:∀j,(ε:j<l.length)->l[j]=0):ji l=0:=by
 induction l with
 | nil=>rfl
 | cons e l Β=>
  have aj:e=0:=h 0 η;simp only[ji,aj,if_true];exact Β λj ε=>h (j+1) (by simpa using ε)
theorem Ad {f:Nat->Int} {n i:Nat} {e:Int} (h:i<n) (he:f i=e) (aj:e≠0) (U:∀j,j<i->f j=0):ji ((List.range n).map f)=e:=by
 rw[Wk (i:=i) (by simpa using h) (by simp[he,aj]) (λj ε ο=>by simpa using U j ε)];simp[he]
theorem Ae {f:Nat->Int} {n:Nat} (h:∀j,j<n->f j=0):ji ((List.range n).map f)=0:=
 Wl λj ε=>by simpa using h j (by simpa using ε)
def sK (n:ByteArray):Bool:=n.size != 1||Cw n ⟨#[97]⟩||!sn n ⟨#[122]⟩
def qa (l:List l8) (i:Nat):Int:=match l[i]? with
 | none=>0
 | some g=>if sK g.name then 2 else if 0<i/\sn g.name ((l[i-1]?.map (·.name)).getD ⟨#[]⟩)=true then 5 else if g.eI<1\/63<g.eI then 1 else if(l.take i).any (λx=>x.eI==g.eI) then 4 else 0
def oj (l:List l8):Int:=if l.length=0 then 7 else if 6<l.length then 6 else ji ((List.range l.length).map (qa l))
theorem Wm (g x:l8):az Tryz.prog 136 [eP x,.ao [mP g.name,I g.eI]] (a6 (x.eI==g.eI)):=by
 refine ae.body Ρ Tryz.func136 rfl rfl Tryz.ntmps136 rfl rfl η ?_;refine Η ?_;refine W.rt ?_;exact .of (by simp[])
theorem Wn (s:aT) (ν:s.small):az Tryz.prog 103 [fD s] (I (oj s.au)):=by
 refine ae.body Ρ Tryz.func103 rfl rfl Tryz.ntmps103 rfl rfl η ?_;have ο:=ν.1;by_cases hV:s.au.length=0
 ·refine aB hV ?_;refine ai η ?_;refine Η ?_;refine W.rt ?_;exact .of (by rw[show oj s.au=7 by simp[oj,hV]];rfl)
 by_cases o6:(6:Int)<s.au.length
 ·refine aB (υ hV o6) ?_;refine aa (by simp[hV]) ?_;refine aB (υ hV o6) ?_;refine ai η ?_;refine Η ?_;refine W.rt ?_;exact .of (by rw[show oj s.au=6 by simp[oj,hV];omega];rfl)
 have Af:oj s.au=ji ((List.range s.au.length).map (qa s.au)):=by
  unfold oj;rw[if_neg hV,if_neg R]
 rw[Af];refine aB (υ hV o6) ?_;refine aa (by simp[hV]) ?_;refine aB (υ hV o6) ?_;refine aa η ?_;refine Η ?_;refine W.iter (λi:Nat=>i<=s.au.length/\∀j,j<i->qa s.au j=0) (λi=>[(1,.ao [a7 s.au,bc s.aI,ca s.cells]),(17,a7 s.au),(18,I s.au.length),(19,I i)]) (λ_=>[]) (λi=>s.au.length-i) 0 ⟨R,λj ε=>R⟩ rfl η (λi hi Β=>?_);refine Η ?_;refine W.eU rfl (λδ=>?_) (λδ=>?_)
 ·have δ:i<s.au.length:=by simpa using δ
  have qb:s.au[i]?=some s.au[i]:=bg δ
  have fin:∀e:Int,qa s.au i=e->e≠0->ji ((List.range s.au.length).map (qa s.au))=e:=λe he aj=>Ad δ he aj hi.2
  repeat apply ad
  refine dM (A:=[4]) Ρ λΕ ζ=>gW δ ?_;apply ζ;refine W.fix (id:=0) (σ':=[]) (Nat.zero_le _) rfl η η rfl [(1,.ao [a7 s.au,bc s.aI,ca s.cells]),(17,a7 s.au),(18,I s.au.length),(19,I i),(3,I i),(4,.ao [mP s.au[i].name,I s.au[i].eI])] η ?_
  repeat apply ad
  refine W.rf (A:=[]) Ρ [(1,.ao [a7 s.au,bc s.aI,ca s.cells]),(17,a7 s.au),(18,I s.au.length),(19,I i),(3,I i),(4,.ao [mP s.au[i].name,I s.au[i].eI]),(5,a7 (s.au.take i))] ?_ (by simp[Ο,p5,Nat.le_of_lt δ])
  repeat apply ad
  refine W.rf (A:=[]) Ρ [(28,a6 (sK s.au[i].name)),(1,.ao [a7 s.au,bc s.aI,ca s.cells]),(17,a7 s.au),(18,I s.au.length),(19,I i),(3,I i),(4,.ao [mP s.au[i].name,I s.au[i].eI]),(5,a7 (s.au.take i))] ?_ (by
   unfold sK;by_cases bw:(s.au[i].name.size:Int)=1
   ·have HP:s.au[i].name.size=1:=by omega
    cases dm:Cw s.au[i].name ⟨#[97]⟩<;>simp[Ο,p5,bw,dm,HP]
   ·have HP:¬s.au[i].name.size=1:=by omega
    simp[Ο,p5,bw,HP])
  cases ub:sK s.au[i].name
  case true=>
   refine ai rfl ?_;refine Η ?_;refine W.rt ?_;exact .of (by rw[fin 2 (by simp[qa,qb,ub]) bu];rfl)
  refine aa rfl ?_
  repeat apply ad
  refine W.xO (A:=[]) Ρ mixed [(43,a6 (decide (0<i)&&sn s.au[i].name ((s.au[i-1]?.map (·.name)).getD ⟨#[]⟩))),(1,.ao [a7 s.au,bc s.aI,ca s.cells]),(17,a7 s.au),(18,I s.au.length),(19,I i),(3,I i),(4,.ao [mP s.au[i].name,I s.au[i].eI]),(5,a7 (s.au.take i))] ?_ (by
   cases i with
   | zero=>simp[c7,c6];exact iN (by kernel_rfl)
   | succ n=>
    have Ζ:n<s.au.length:=R
    have Δ:=gr (show n<2 ^ 62 by omega)
    have aj:(0:Int)<(n:Int)+1:=R
    have hm:n<min (n+1) s.au.length:=R;simp[c7,c6,aj,Ζ,Δ,hm];exact iN (by kernel_rfl))
  cases bo:decide (0<i)&&sn s.au[i].name ((s.au[i-1]?.map (·.name)).getD ⟨#[]⟩)
  case true=>
   refine ai rfl ?_;refine Η ?_;refine W.rt ?_;exact .of (by rw[fin 5 (by simp at bo;simp[qa,qb,ub,bo]) bu];rfl)
  refine aa rfl ?_
  repeat apply ad
  refine W.rf (A:=[]) Ρ [(57,a6 (decide (s.au[i].eI<1)||decide (63<s.au[i].eI))),(1,.ao [a7 s.au,bc s.aI,ca s.cells]),(17,a7 s.au),(18,I s.au.length),(19,I i),(3,I i),(4,.ao [mP s.au[i].name,I s.au[i].eI]),(5,a7 (s.au.take i))] ?_ (by by_cases q:s.au[i].eI<1<;>simp[Ο,p5,q]);have bo':¬(0<i/\sn s.au[i].name ((s.au[i-1]?.map (·.name)).getD ⟨#[]⟩)=true):=λh=>by simp[h] at bo
  by_cases mL:s.au[i].eI<1\/63<s.au[i].eI
  case pos=>
   refine ai (by simpa using mL) ?_;refine Η ?_;refine W.rt ?_;exact .of (by rw[fin 1 (by simp only[qa,qb,ub];rw[if_neg bo',if_pos mL];rfl) bu];rfl)
  refine aa (by simpa using mL) ?_;refine bl λΕ ζ=>?_;refine az.c (Wh (s.au.take i) (.fn (.func 136) [] [.ao [mP s.au[i].name,I s.au[i].eI]]) (λx=>x.eI==s.au[i].eI) (by simp;omega) (by simp[l6]) (λx _=>λ_=>(Wm s.au[i] x).cc (by simp;exact bF.refl _) η η ⟨rfl,rfl⟩)) (bF.refl _) (by simp[l6]) η ?_;simp;(repeat (rw[Ο];simp[]));apply ζ;cases BP:(s.au.take i).any (λx=>x.eI==s.au[i].eI)
  case true=>
   refine ai η ?_;refine Η ?_;refine W.rt ?_;exact .of (by rw[fin 4 (by simp only[qa,qb,ub];rw[if_neg bo',if_neg mL,BP];rfl) bu];rfl)
  refine aa η ?_;refine Η ?_;refine W.forget _ ?_ (Β (i+1) ⟨δ,λj ε=>?_⟩ R)
  ·simp[fC δ (show s.au.length<2 ^ 62 by omega)]
  ·by_cases e:j=i
   ·subst e;simp only[qa,qb,ub];rw[if_neg bo',if_neg mL,BP];rfl
   ·exact hi.2 j R
 ·have δ:s.au.length<=i:=by simpa using δ
  refine W.exit rfl ?_;refine Η ?_;refine W.rt ?_;exact .of (by rw[Ae λj ε=>hi.2 j R];rfl)
end Go.TL
