import Derived.Test.YtlabjopijpkiaaaGreatQAY
set_option maxHeartbeats 16000000
set_option maxRecDepth 20000
set_option linter.unusedSectionVars false
set_option linter.unusedSimpArgs false
set_option linter.unusedVariables false
namespace Go.TL
open Go.Proofs
variable [bd]
def ij:List Int→Int
 | []=>0
 | e::l=>if e=0 then ij l else e
theorem UY {l:List Int} {i:Nat} (h:i<l.length) (R:l[i]≠0) (γ:∀j,j<i→(ε:j<l.length)→l[j]=0):ij l=l[i]:=by
 induction l generalizing i with
 | nil=>cases h
 | cons e l Γ=>
  cases i with
  | zero=>simp at R;simp[ij,R]
  | succ i=>
   have ae:e=0:=γ 0 (by omega) (by simp);simp only[ij,ae,if_true,List.getElem_cons_succ];exact Γ (by simpa using h) (by simpa using R) fun j ε g4=>γ (j+1) (by omega) (by simpa using g4)
theorem UZ {l:List Int} (h:∀j,(ε:j<l.length)→l[j]=0):ij l=0:=by
 induction l with
 | nil=>rfl
 | cons e l Γ=>
  have ae:e=0:=h 0 (by simp);simp only[ij,ae,if_true];exact Γ fun j ε=>h (j+1) (by simpa using ε)
theorem zf {f:Nat→Int} {n i:Nat} {e:Int} (h:i<n) (he:f i=e) (ae:e≠0) (γ:∀j,j<i→f j=0):ij ((List.range n).map f)=e:=by
 rw[UY (i:=i) (by simpa using h) (by simp[he,ae]) (fun j ε ω=>by simpa using γ j ε)];simp[he]
theorem zg {f:Nat→Int} {n:Nat} (h:∀j,j<n→f j=0):ij ((List.range n).map f)=0:=
 UZ fun j ε=>by simpa using h j (by simpa using ε)
def wH (n:ByteArray):Bool:=n.size != 1||Bo n ⟨#[97]⟩||!rk n ⟨#[122]⟩
def pg (l:List k4) (i:Nat):Int:=match l[i]? with
 | none=>0
 | some g=>if wH g.name then 2 else if 0<i∧rk g.name ((l[i-1]?.map (·.name)).getD ⟨#[]⟩)=true then 5 else if g.ep<1∨63<g.ep then 1 else if(l.take i).any (fun x=>x.ep==g.ep) then 4 else 0
def nv (l:List k4):Int:=if l.length=0 then 7 else if 6<l.length then 6 else ij ((List.range l.length).map (pg l))
theorem U0 (g x:k4):av Tryz.prog 136 [er x,.aa [mG g.name,U g.ep]] (bm (x.ep==g.ep)):=by
 refine ak.body Θ Tryz.func136 rfl rfl Tryz.ntmps136 rfl rfl (by simp) ?_;(repeat (first|apply ι|(refine ν fun J I=>?_;simp;(repeat (rw[ζ];simp));apply I;clear I J)));refine W.ret ⟨_,rfl,?_,rfl⟩;exact .of (by simp[])
theorem U1 (s:aM) (ξ:s.small):av Tryz.prog 103 [eP s] (U (nv s.af)):=by
 refine ak.body Θ Tryz.func103 rfl rfl Tryz.ntmps103 rfl rfl (by simp) ?_;have ω:=ξ.1;by_cases hh:s.af.length=0
 ·(repeat (first|apply ι|(refine ν fun J I=>?_;simp;(repeat (rw[ζ];simp[hh]));apply I;clear I J)));refine al (by simp) ?_;(repeat (first|apply ι|(refine ν fun J I=>?_;simp;(repeat (rw[ζ];simp));apply I;clear I J)));refine W.ret ⟨_,rfl,?_,rfl⟩;exact .of (by rw[show nv s.af=7 by simp[nv,hh]];rfl)
 by_cases oo:(6:Int)<s.af.length
 ·(repeat (first|apply ι|(refine ν fun J I=>?_;simp;(repeat (rw[ζ];simp[hh,oo]));apply I;clear I J)));refine ah (by simp[hh]) ?_;(repeat (first|apply ι|(refine ν fun J I=>?_;simp;(repeat (rw[ζ];simp[hh,oo]));apply I;clear I J)));refine al (by simp) ?_;(repeat (first|apply ι|(refine ν fun J I=>?_;simp;(repeat (rw[ζ];simp));apply I;clear I J)));refine W.ret ⟨_,rfl,?_,rfl⟩;exact .of (by rw[show nv s.af=6 by simp[nv,hh];omega];rfl)
 have zh:nv s.af=ij ((List.range s.af.length).map (pg s.af)):=by
  unfold nv;rw[if_neg hh,if_neg (by omega)]
 rw[zh];(repeat (first|apply ι|(refine ν fun J I=>?_;simp;(repeat (rw[ζ];simp[hh,oo]));apply I;clear I J)));refine ah (by simp[hh]) ?_;(repeat (first|apply ι|(refine ν fun J I=>?_;simp;(repeat (rw[ζ];simp[hh,oo]));apply I;clear I J)));refine ah (by simp) ?_;(repeat (first|apply ι|(refine ν fun J I=>?_;simp;(repeat (rw[ζ];simp));apply I;clear I J)));refine W.iter (fun i:Nat=>i≤s.af.length∧∀j,j<i→pg s.af j=0) (fun i=>[(1,.aa [aP s.af,aO s.an,bz s.cells]),(17,aP s.af),(18,U s.af.length),(19,U i)]) (fun _=>[]) (fun i=>s.af.length-i) 0 ⟨by omega,fun j ε=>by omega⟩ rfl (by simp) (fun i hi Γ=>?_);(repeat (first|apply ι|(refine ν fun J I=>?_;simp;(repeat (rw[ζ];simp));apply I;clear I J)));refine W.dY rfl (fun η=>?_) (fun η=>?_)
 ·have η:i<s.af.length:=by simpa using η
  have ph:s.af[i]?=some s.af[i]:=bc η
  have fin:∀e:Int,pg s.af i=e→e≠0→ij ((List.range s.af.length).map (pg s.af))=e:=fun e he ae=>zf η he ae hi.2
  repeat first|apply ι
  refine de (A:=[4]) Θ fun J I=>?_;simp;(repeat (rw[ζ];simp[η]));apply I;clear I J;refine W.fix (id:=0) (σ':=[]) (Nat.zero_le _) rfl (by simp) (by simp) rfl [(1,.aa [aP s.af,aO s.an,bz s.cells]),(17,aP s.af),(18,U s.af.length),(19,U i),(3,U i),(4,.aa [mG s.af[i].name,U s.af[i].ep])] (by simp) ?_
  repeat first|apply ι
  refine W.rA (A:=[]) Θ [(1,.aa [aP s.af,aO s.an,bz s.cells]),(17,aP s.af),(18,U s.af.length),(19,U i),(3,U i),(4,.aa [mG s.af[i].name,U s.af[i].ep]),(5,aP (s.af.take i))] ?_ (by simp[ζ,oc,Nat.le_of_lt η])
  repeat first|apply ι
  refine W.rA (A:=[]) Θ [(28,bm (wH s.af[i].name)),(1,.aa [aP s.af,aO s.an,bz s.cells]),(17,aP s.af),(18,U s.af.length),(19,U i),(3,U i),(4,.aa [mG s.af[i].name,U s.af[i].ep]),(5,aP (s.af.take i))] ?_ (by
   unfold wH;by_cases bI:(s.af[i].name.size:Int)=1
   ·have GL:s.af[i].name.size=1:=by omega
    cases dc:Bo s.af[i].name ⟨#[97]⟩<;>simp[ζ,oc,bI,dc,GL]
   ·have GL:¬s.af[i].name.size=1:=by omega
    simp[ζ,oc,bI,GL])
  cases sX:wH s.af[i].name
  case true=>
   refine al rfl ?_;(repeat (first|apply ι|(refine ν fun J I=>?_;simp;(repeat (rw[ζ];simp));apply I;clear I J)));refine W.ret ⟨_,rfl,?_,rfl⟩;exact .of (by rw[fin 2 (by simp[pg,ph,sX]) (by decide)];rfl)
  refine ah rfl ?_
  repeat first|apply ι
  refine W.CA (A:=[]) Θ mixed [(43,bm (decide (0<i)&&rk s.af[i].name ((s.af[i-1]?.map (·.name)).getD ⟨#[]⟩))),(1,.aa [aP s.af,aO s.an,bz s.cells]),(17,aP s.af),(18,U s.af.length),(19,U i),(3,U i),(4,.aa [mG s.af[i].name,U s.af[i].ep]),(5,aP (s.af.take i))] ?_ (by
   cases i with
   | zero=>simp[bp,Cx];exact bL (by kernel_rfl)
   | succ n=>
    have Η:n<s.af.length:=by omega
    have Ε:=fy (show n<2 ^ 62 by omega)
    have ae:(0:Int)<(n:Int)+1:=by omega
    have hm:n<min (n+1) s.af.length:=by omega
    simp[bp,Cx,ae,Η,Ε,hm];exact bL (by kernel_rfl))
  cases bo:decide (0<i)&&rk s.af[i].name ((s.af[i-1]?.map (·.name)).getD ⟨#[]⟩)
  case true=>
   refine al rfl ?_;(repeat (first|apply ι|(refine ν fun J I=>?_;simp;(repeat (rw[ζ];simp));apply I;clear I J)));refine W.ret ⟨_,rfl,?_,rfl⟩;exact .of (by rw[fin 5 (by simp at bo;simp[pg,ph,sX,bo]) (by decide)];rfl)
  refine ah rfl ?_
  repeat first|apply ι
  refine W.rA (A:=[]) Θ [(57,bm (decide (s.af[i].ep<1)||decide (63<s.af[i].ep))),(1,.aa [aP s.af,aO s.an,bz s.cells]),(17,aP s.af),(18,U s.af.length),(19,U i),(3,U i),(4,.aa [mG s.af[i].name,U s.af[i].ep]),(5,aP (s.af.take i))] ?_ (by by_cases q:s.af[i].ep<1<;>simp[ζ,oc,q]);have bo':¬(0<i∧rk s.af[i].name ((s.af[i-1]?.map (·.name)).getD ⟨#[]⟩)=true):=fun h=>by simp[h] at bo
  by_cases pe:s.af[i].ep<1∨63<s.af[i].ep
  case pos=>
   refine al (by simpa using pe) ?_;(repeat (first|apply ι|(refine ν fun J I=>?_;simp;(repeat (rw[ζ];simp));apply I;clear I J)));refine W.ret ⟨_,rfl,?_,rfl⟩;exact .of (by rw[fin 1 (by simp only[pg,ph,sX];rw[if_neg bo',if_pos pe];rfl) (by decide)];rfl)
  refine ah (by simpa using pe) ?_;(repeat (first|apply ι));refine ν fun J I=>?_;simp;(repeat (rw[ζ];simp));refine av.c (UU (s.af.take i) (.fn (.func 136) [] [.aa [mG s.af[i].name,U s.af[i].ep]]) (fun x=>x.ep==s.af[i].ep) (by simp;omega) (by simp[k2]) (fun x _=>fun _=>(U0 s.af[i] x).cc (by simp;exact aI.refl _) (by simp) (by simp) ⟨rfl,rfl⟩)) (aI.refl _) (by simp[k2]) (by simp) ?_;simp;(repeat (rw[ζ];simp));apply I;clear I J;cases AI:(s.af.take i).any (fun x=>x.ep==s.af[i].ep)
  case true=>
   refine al (by simp) ?_;(repeat (first|apply ι|(refine ν fun J I=>?_;simp;(repeat (rw[ζ];simp));apply I;clear I J)));refine W.ret ⟨_,rfl,?_,rfl⟩;exact .of (by rw[fin 4 (by simp only[pg,ph,sX];rw[if_neg bo',if_neg pe,AI];rfl) (by decide)];rfl)
  refine ah (by simp) ?_;(repeat (first|apply ι|(refine ν fun J I=>?_;simp;(repeat (rw[ζ];simp));apply I;clear I J)));refine W.forget _ ?_ (Γ (i+1) ⟨η,fun j ε=>?_⟩ (by omega))
  ·simp[eD η (show s.af.length<2 ^ 62 by omega)]
  ·by_cases e:j=i
   ·subst e;simp only[pg,ph,sX];rw[if_neg bo',if_neg pe,AI];rfl
   ·exact hi.2 j (by omega)
 ·have η:s.af.length≤i:=by simpa using η
  refine W.exit rfl ?_;(repeat (first|apply ι|(refine ν fun J I=>?_;simp;(repeat (rw[ζ];simp));apply I;clear I J)));refine W.ret ⟨_,rfl,?_,rfl⟩;exact .of (by rw[zg fun j ε=>hi.2 j (by omega)];rfl)
end Go.TL
