import Derived.Sort.AssemblyPlain
import Derived.Test.YtlabjopijpkiaaaGreatQAM
set_option maxHeartbeats 16000000
set_option maxRecDepth 20000
set_option linter.unusedSectionVars false
set_option linter.unusedSimpArgs false
set_option linter.unusedVariables false
namespace Go.TL
open Go.Proofs
variable [bn]
theorem H5:IntKind.i64.wrap 1=1:=by decide
theorem H6:IntKind.i64.wrap 2=2:=by decide
theorem e6 {i n:Nat} (h:i<n) (Ι:n<2 ^ 62):IntKind.i64.wrap ((i:Int)+1)=((i+1:Nat):Int):=by
 rw[IntWalk.i64_in _ (by omega)];rfl
theorem Wm (l:List Int) (n:Int) (Α:l.length<2 ^ 62):ak Tryz.prog 112 [bf R 1 l,R n] [] (λa σ=>a=bA (l.contains n)/\σ=[]) (λ_ _=>False):=by
 refine ak.body Κ Tryz.func112 rfl rfl Tryz.ntmps112 rfl rfl (by simp) ?_
 repeat apply κ
 refine ξ λη I=>?_;simp;(repeat (rw[δ];simp));apply I
 repeat apply κ
 refine ξ λη I=>?_;simp;(repeat (rw[δ];simp));apply I
 repeat apply κ
 refine W.iter (λi:Nat=>i<=l.length/\∀j,j<i->(h:j<l.length)->l[j]≠n) (λi=>[(0,bf R 1 l),(1,R n),(5,R i)]) (λ_=>[]) (λi=>l.length-i) 0 ⟨Nat.zero_le _,λj ε=>by omega⟩ rfl (by simp) (λi hi Δ=>?_)
 repeat apply κ
 refine ξ λη I=>?_;simp;(repeat (rw[δ];simp));apply I;refine W.en rfl (λζ=>?_) (λζ=>?_)
 ·have ζ:i<l.length:=by simpa using ζ
  repeat apply κ
  refine ξ λη I=>?_;simp;(repeat (rw[δ];simp[ζ]));apply I;refine W.en rfl (λa4=>?_) (λa4=>?_)
  ·have kG:l[i]=n:=by simpa using a4
   repeat apply κ
   refine ξ λη I=>?_;simp;(repeat (rw[δ];simp));apply I;refine W.ret ?_;simp;exact kG▸List.getElem_mem _
  ·have kG:l[i]≠n:=by simpa using a4
   repeat apply κ
   refine ξ λη I=>?_;simp;(repeat (rw[δ];simp));apply I;refine W.forget _ ?_ (Δ (i+1) ⟨by omega,λj ε h=>?_⟩ (by omega))
   ·simp[e6 ζ Α]
   ·by_cases e:j=i
    ·subst e;exact kG
    ·exact hi.2 j (by omega) h
 ·have ζ:i=l.length:=by simp at ζ;omega
  subst ζ;refine W.exit rfl ?_
  repeat apply κ
  refine ξ λη I=>?_;simp;(repeat (rw[δ];simp));apply I;refine W.ret ?_;simp;intro h;obtain⟨j,ε,e⟩:=List.getElem_of_mem h;exact hi.2 j ε ε e
theorem Wn {α:Type} (f:α->θ) (z:θ) (l:List α) {i:Nat} (h:i<l.length) (cW:i<(fill f z l i).length):(fill f z l i)[i]=z:=by
 have:=Wf f z l h;rw[a2 cW] at this;exact Option.some.inj this
theorem Nx (a b:List Int) (ν:a.length<2 ^ 62):az Tryz.prog 30 [bf R 1 a,bf R 1 b] (bA (a==b)):=by
 refine ak.body Κ Tryz.func30 rfl rfl Tryz.ntmps30 rfl rfl (by simp) ?_;(repeat (first|apply κ|(refine ξ λη I=>?_;simp;(repeat (rw[δ];simp));apply I)));refine W.iter (λp:Nat×Bool=>p.1<=a.length/\(p.2=true->a.length=b.length/\∀j,j<p.1->a[j]?=b[j]?)/\(p.2=false->a≠b)) (λp=>[(0,bf R 1 a),(1,bf R 1 b),(5,bA p.2),(6,R p.1)]) (λ_=>[]) (λp=>a.length-p.1) (0,decide (a.length=b.length)) ⟨Nat.zero_le _,by simp,by simp;exact λh e=>h (by rw[e])⟩ rfl (by simp) (λi hi Δ=>?_);rcases i with⟨i,_|_⟩
 ·(repeat (first|apply κ|(refine ξ λη I=>?_;simp;(repeat (rw[δ];simp));apply I)));refine aj rfl ?_;refine W.exit rfl ?_;(repeat (first|apply κ|(refine ξ λη I=>?_;simp;(repeat (rw[δ];simp));apply I)));refine W.ret ⟨_,rfl,?_,rfl⟩;exact .of (by simp[hi.2.2 rfl])
 ·(repeat (first|apply κ|(refine ξ λη I=>?_;simp;(repeat (rw[δ];simp));apply I)));have Α:=(hi.2.1 rfl).1;refine W.en rfl (λζ=>?_) (λζ=>?_)
  ·have ζ:i<a.length:=by simpa using ζ
   have a4:i<b.length:=by omega
   (repeat (first|apply κ|(refine ξ λη I=>?_;simp;(repeat (rw[δ];simp));apply I)));refine W.draw (A:=[]) Κ mixed λη I=>?_;simp;(repeat (rw[bD];simp[ζ,a4]));try rw[bC]
   refine⟨bW (by kernel_rfl),I _ _ ?_⟩;(repeat (first|apply κ|(refine ξ λη I=>?_;simp;(repeat (rw[δ];simp));apply I)));refine W.forget _ ?_ (Δ (i+1,decide (a[i]=b[i])) ⟨by simp;omega,λh=>⟨Α,λj ε=>?_⟩,λh e=>?_⟩ (by simp;omega))
   ·simp[e6 ζ ν]
   ·by_cases e:j=i
    ·subst e;rw[a2 ζ,a2 a4];simpa using h
    ·exact(hi.2.1 rfl).2 j (by simp at ε;omega)
   ·subst e;simp at h
  ·have ζ:a.length<=i:=by simpa using ζ
   refine W.exit rfl ?_;(repeat (first|apply κ|(refine ξ λη I=>?_;simp;(repeat (rw[δ];simp));apply I)));refine W.ret ⟨_,rfl,?_,rfl⟩;refine .of ?_;have:a=b:=List.ext_getElem? λj=>by
    by_cases ε:j<i
    ·exact(hi.2.1 rfl).2 j ε
    ·rw[List.getElem?_eq_none (by omega),List.getElem?_eq_none (by omega)]
   simp[this]
abbrev aN (l:List (List Int)):θ:=bf (bf R 1) 1 l
theorem Ny (a b:List (List Int)) (ν:a.length<2 ^ 40) (ο:∀x∈a,x.length<2 ^ 40):az Tryz.prog 50 [aN a,aN b] (bA (a==b)):=by
 refine ak.body Κ Tryz.func50 rfl rfl Tryz.ntmps50 rfl rfl (by simp) ?_;(repeat (first|apply κ|(refine ξ λη I=>?_;simp;(repeat (rw[δ];simp));apply I)));refine W.iter (λp:Nat×Bool=>p.1<=a.length/\(p.2=true->a.length=b.length/\∀j,j<p.1->a[j]?=b[j]?)/\(p.2=false->a≠b)) (λp=>[(0,aN a),(1,aN b),(5,bA p.2),(6,R p.1)]) (λ_=>[]) (λp=>a.length-p.1) (0,decide (a.length=b.length)) ⟨Nat.zero_le _,by simp,by simp;exact λh e=>h (by rw[e])⟩ rfl (by simp) (λi hi Δ=>?_);rcases i with⟨i,_|_⟩
 ·(repeat (first|apply κ|(refine ξ λη I=>?_;simp;(repeat (rw[δ];simp));apply I)));refine aj rfl ?_;refine W.exit rfl ?_;(repeat (first|apply κ|(refine ξ λη I=>?_;simp;(repeat (rw[δ];simp));apply I)));refine W.ret ⟨_,rfl,?_,rfl⟩;exact .of (by simp[hi.2.2 rfl])
 ·(repeat (first|apply κ|(refine ξ λη I=>?_;simp;(repeat (rw[δ];simp));apply I)));have Α:=(hi.2.1 rfl).1;refine W.en rfl (λζ=>?_) (λζ=>?_)
  ·have ζ:i<a.length:=by simpa using ζ
   have a4:i<b.length:=by omega
   (repeat (first|apply κ|(refine ξ λη I=>?_;simp;(repeat (rw[δ];simp));apply I)));refine W.draw (A:=[]) Κ mixed λη I=>?_;simp;(repeat (rw[bD];simp[ζ,a4]));try rw[bC]
   refine gU (az.p (Nx a[i] b[i] (by have:=ο _ (List.getElem_mem ζ);omega)) (aK.refl _) (by simp) (by simp)) ?_;simp;(repeat (rw[bD];simp));try rw[bC]
   refine⟨bW (by kernel_rfl),I _ _ ?_⟩;(repeat (first|apply κ|(refine ξ λη I=>?_;simp;(repeat (rw[δ];simp));apply I)));refine W.forget _ ?_ (Δ (i+1,a[i]==b[i]) ⟨by simp;omega,λh=>⟨Α,λj ε=>?_⟩,λh e=>?_⟩ (by simp;omega))
   ·simp[e6 ζ (show a.length<2 ^ 62 by omega)]
   ·by_cases e:j=i
    ·subst e;rw[a2 ζ,a2 a4];simpa using h
    ·exact(hi.2.1 rfl).2 j (by simp at ε;omega)
   ·subst e;simp at h
  ·have ζ:a.length<=i:=by simpa using ζ
   refine W.exit rfl ?_;(repeat (first|apply κ|(refine ξ λη I=>?_;simp;(repeat (rw[δ];simp));apply I)));refine W.ret ⟨_,rfl,?_,rfl⟩;refine .of ?_;have:a=b:=List.ext_getElem? λj=>by
    by_cases ε:j<i
    ·exact(hi.2.1 rfl).2 j ε
    ·rw[List.getElem?_eq_none (by omega),List.getElem?_eq_none (by omega)]
   simp[this]
structure lH where
 name:ByteArray
 eF:Int
deriving DecidableEq
structure di where
 cV:Int
 seen:Int
 bare:Int
deriving DecidableEq
structure aR where
 ai:List lH
 ao:List (List Int)
 cells:List (List di)
deriving DecidableEq
abbrev eG (g:lH):θ:=.aW [nj g.name,R g.eF]
abbrev cw (p:di):θ:=.aW [R p.cV,R p.seen,R p.bare]
abbrev aQ (l:List lH):θ:=bf eG 2 l
abbrev je (l:List di):θ:=bf cw 3 l
abbrev bl (l:List (List di)):θ:=bf je 1 l
abbrev d' (s:aR):θ:=.aW [aQ s.ai,aN s.ao,bl s.cells]
def aR.small (s:aR):Prop:=s.ai.length<2 ^ 30/\s.ao.length<2 ^ 30/\s.cells.length<2 ^ 30/\(∀x∈s.ao,x.length<2 ^ 30)/\∀x∈s.cells,x.length<2 ^ 30
@[simp] theorem iΖ (x y:Int):(x != y) = !decide (x=y):=by rw[Bool.eq_iff_iff];simp
section
variable {P:Program} {m nt:Nat} {k:List Item} {env:Ω} {σ σ':List Row} {Z:List Item->Ω->List Row->Prop} {E:θ->Ω->List Row->Prop}
theorem W.drop {h:Nat} (hm:m<=h) (aS:h<=σ.length) (nX:∀(id:Nat) (r:Row),id<h->σ[id]?=some r->ek h r) (lG:σ.take h=σ') (env':Ω) (cL:∀p∈env',a5 env p.1=p.2/\av h p.2) (hW:W P m nt k env' σ' Z E):W P m nt k env σ Z E:=
 W.cut h hm env' aS nX (λp ω=>by rw[(cL p ω).1];exact .low (cL p ω).2) (by rw[lG];exact hW)
theorem W.fix {id:Nat} {t:TypeId} {e:θ} {kk:Nat} (hm:m<=id) (bL:σ[id]?=some (.cells t kk [e])) (he:∀a∈e.cells,av id a) (nX:∀(DJ:Nat) (r:Row),DJ<id->σ[DJ]?=some r->ek id r) (lG:σ.take id=σ') (env':Ω)
  (cL:∀p∈env',(a5 env p.1=p.2/\av id p.2)\/(a5 env p.1=.Ψ id 1 0 0/\p.2=.ad e.cells)) (hW:W P m nt k env' σ' Z E):W P m nt k env σ Z E:=
 W.cut id hm env' (Nat.le_of_lt (b7.1 bL).1) nX (λp ω=>by
  rcases cL p ω with⟨J,γ⟩|⟨J,γ⟩
  ·rw[J];exact .low γ
  ·rw[J,γ];refine .Ψ (Nat.le_refl _) bL rfl (e:=e) rfl (by simp) λx a b9 Ρ ag=>?_;rw[Nat.zero_add] at Ρ;rw[Ρ] at ag;cases ag;exact .low (he a (cv Ρ))) (by rw[lG];exact hW)
theorem W.to {env':Ω} (h:W P m nt k env' σ' Z E) (lG:σ=σ') (cL:∀p∈env',a5 env p.1=p.2):W P m nt k env σ Z E:=lG▸W.forget env' cL h
end
abbrev rb (a b:Int):Int:=gz .i64 a b
abbrev vY (a b:Int):Int:=xI .i64 a b
abbrev Aq (a b:Int):Int:=qS .i64 a b
section
variable {P:Program} {σ:List Row}
theorem gj.c {f:θ} {args:List θ} {r:θ} {K E:θ->List Row->Prop} (h:gj P f args r) (I:K r σ):h1 P f args σ K E:=
 h1.mono (h σ) (λa s ⟨J,γ⟩=>by subst J;subst γ;exact I) (λ_ _ h=>h.elim)
end
def nk (n:Int):Bool:=decide (0<=n)&&decide (n<=2)
theorem oS (n:Int):az Tryz.prog 93 [R n] (bA (nk n)):=by
 refine ak.body Κ Tryz.func93 rfl rfl Tryz.ntmps93 rfl rfl (by simp) ?_;by_cases h:0<=n
 ·(repeat (first|apply κ|(refine ξ λη I=>?_;simp;(repeat (rw[δ];simp[h]));apply I)));refine W.ret ⟨_,rfl,?_,rfl⟩;exact .of (by simp[nk,h])
 ·(repeat (first|apply κ|(refine ξ λη I=>?_;simp;(repeat (rw[δ];simp[h]));apply I)));refine W.ret ⟨_,rfl,?_,rfl⟩;exact .of (by simp[nk,h])
def valid (n:Int):Bool:=decide (0<=n)&&decide (n<=63)
theorem x7 (n:Int):az Tryz.prog 109 [R n] (bA (valid n)):=by
 refine ak.body Κ Tryz.func109 rfl rfl Tryz.ntmps109 rfl rfl (by simp) ?_;by_cases h:0<=n
 ·(repeat (first|apply κ|(refine ξ λη I=>?_;simp;(repeat (rw[δ];simp[h]));apply I)));refine W.ret ⟨_,rfl,?_,rfl⟩;exact .of (by simp[valid,h])
 ·(repeat (first|apply κ|(refine ξ λη I=>?_;simp;(repeat (rw[δ];simp[h]));apply I)));refine W.ret ⟨_,rfl,?_,rfl⟩;exact .of (by simp[valid,h])
theorem Nz (a b:Int):az Tryz.prog 196 [R a,R b] (bA (rb a b==0)):=by
 refine ak.body Κ Tryz.func196 rfl rfl Tryz.ntmps196 rfl rfl (by simp) ?_;(repeat (first|apply κ|(refine ξ λη I=>?_;simp;(repeat (rw[δ];simp));apply I)));refine W.ret ⟨_,rfl,?_,rfl⟩;exact .of (by simp)
theorem NA (a b:Int):az Tryz.prog 210 [R a,R b] (bA (Aq a b==0)):=by
 refine ak.body Κ Tryz.func210 rfl rfl Tryz.ntmps210 rfl rfl (by simp) ?_;(repeat (first|apply κ|(refine ξ λη I=>?_;simp;(repeat (rw[δ];simp));apply I)));refine W.ret ⟨_,rfl,?_,rfl⟩;exact .of (by simp)
theorem H7 (b:Bool):az Tryz.prog 127 [bA b] (R (if b then 1 else 0)):=by
 refine ak.body Κ Tryz.func127 rfl rfl Tryz.ntmps127 rfl rfl (by simp) ?_;cases b
 ·(repeat (first|apply κ|(refine ξ λη I=>?_;simp;(repeat (rw[δ];simp));apply I)));refine aj rfl ?_;(repeat (first|apply κ|(refine ξ λη I=>?_;simp;(repeat (rw[δ];simp));apply I)));refine W.ret ⟨_,rfl,?_,rfl⟩;exact .refl _
 ·(repeat (first|apply κ|(refine ξ λη I=>?_;simp;(repeat (rw[δ];simp));apply I)));refine al rfl ?_;(repeat (first|apply κ|(refine ξ λη I=>?_;simp;(repeat (rw[δ];simp));apply I)));refine W.ret ⟨_,rfl,?_,rfl⟩;exact .refl _
theorem H8 (n:Int):az Tryz.prog 193 [R n] (bA false):=by
 refine ak.body Κ Tryz.func193 rfl rfl Tryz.ntmps193 rfl rfl (by simp) ?_;(repeat (first|apply κ|(refine ξ λη I=>?_;simp;(repeat (rw[δ];simp));apply I)));refine W.ret ⟨_,rfl,?_,rfl⟩;exact .of (by simp)
def Eb (n:Int):Int:=vY (vY (Aq n 15) (IntKind.i64.wrap (rb n 5*2))) ((rb n 10).fdiv 2)
theorem Wo (n:Int):az Tryz.prog 99 [R n] (R (Eb n)):=by
 refine ak.body Κ Tryz.func99 rfl rfl Tryz.ntmps99 rfl rfl (by simp) ?_;(repeat (first|apply κ|(refine ξ λη I=>?_;simp;(repeat (rw[δ];simp));apply I)));refine W.ret ⟨_,rfl,?_,rfl⟩;exact .of (by simp[Eb,IntKind.bits])
def idxOf {α:Type} (p:α->Bool) (l:List α):Int:=if l.any p then(l.findIdx p:Nat) else -1
theorem Ar {α:Type} {p:α->Bool} {l:List α} {i:Nat} (h:i<l.length) (J:p l[i]=true) (γ:∀j,j<i->(ε:j<l.length)->p l[j]=false):idxOf p l=(i:Nat):=by
 have ν:l.any p=true:=List.any_eq_true.2 ⟨_,List.getElem_mem h,J⟩
 have:l.findIdx p=i:=by
  have π:¬l.findIdx p<i:=λaH=>by
   have Α:l.findIdx p<l.length:=by omega
   have:=List.findIdx_getElem (p:=p) (w:=Α);rw[γ _ aH Α] at this;cases this
  have Μ:¬i<l.findIdx p:=λaH=>by
   have:=List.not_of_lt_findIdx aH;rw[J] at this;simp at this
  omega
 unfold idxOf;rw[if_pos ν,this]
theorem As {α:Type} {p:α->Bool} {l:List α} (h:∀j,(ε:j<l.length)->p l[j]=false):idxOf p l=-1:=by
 have:l.any p=false:=by
  rw[List.any_eq_false];intro x U;obtain⟨j,ε,rfl⟩:=List.getElem_of_mem U;simp[h j ε]
 unfold idxOf;rw[this];rfl
theorem Au {α:Type} {p:α->Bool} {l:List α}:decide (idxOf p l>=0)=l.any p:=by
 unfold idxOf;cases h:l.any p<;>simp
theorem Wp (l:List Int) (n:Int) (Α:l.length<2 ^ 62):az Tryz.prog 137 [bf R 1 l,R n] (R (idxOf (·==n) l)):=by
 refine ak.body Κ Tryz.func137 rfl rfl Tryz.ntmps137 rfl rfl (by simp) ?_;(repeat (first|apply κ|(refine ξ λη I=>?_;simp;(repeat (rw[δ];simp));apply I)));refine W.iter (λi:Nat=>i<=l.length/\∀j,j<i->(h:j<l.length)->(l[j]==n)=false) (λi=>[(0,bf R 1 l),(1,R n),(6,bf R 1 l),(7,R l.length),(8,R i)]) (λ_=>[]) (λi=>l.length-i) 0 ⟨Nat.zero_le _,λj ε=>by omega⟩ rfl (by simp) (λi hi Δ=>?_);(repeat (first|apply κ|(refine ξ λη I=>?_;simp;(repeat (rw[δ];simp));apply I)));refine W.en rfl (λζ=>?_) (λζ=>?_)
 ·have ζ:i<l.length:=by simpa using ζ
  (repeat (first|apply κ|(refine ξ λη I=>?_;simp;(repeat (rw[δ];simp[ζ]));apply I)));refine W.en rfl (λa4=>?_) (λa4=>?_)
  ·have Ι:n=l[i]:=by simpa using a4
   (repeat (first|apply κ|(refine ξ λη I=>?_;simp;(repeat (rw[δ];simp));apply I)));refine W.ret ⟨_,rfl,?_,rfl⟩;exact .of (by rw[Ar ζ (by simp[Ι]) hi.2];rfl)
  ·have Ι:¬n=l[i]:=by simpa using a4
   (repeat (first|apply κ|(refine ξ λη I=>?_;simp;(repeat (rw[δ];simp));apply I)));refine W.forget _ ?_ (Δ (i+1) ⟨by omega,λj ε h=>?_⟩ (by omega))
   ·simp[e6 ζ Α]
   ·by_cases e:j=i
    ·subst e;simpa using λx=>Ι x.symm
    ·exact hi.2 j (by omega) h
 ·have ζ:l.length<=i:=by simpa using ζ
  refine W.exit rfl ?_;(repeat (first|apply κ|(refine ξ λη I=>?_;simp;(repeat (rw[δ];simp));apply I)));refine W.ret ⟨_,rfl,?_,rfl⟩;exact .of (by rw[As λj ε=>hi.2 j (by omega) ε];rfl)
theorem any_beq (l:List Int) (n:Int):(l.any λx=>x==n)=l.contains n:=by
 rw[Bool.eq_iff_iff];simp
theorem NB (l:List Int) (n:Int) (Α:l.length<2 ^ 62):az Tryz.prog 110 [bf R 1 l,R n] (bA (l.contains n)):=by
 refine ak.body Κ Tryz.func110 rfl rfl Tryz.ntmps110 rfl rfl (by simp) ?_;(repeat (first|apply κ|(refine ξ λη I=>?_;simp;(repeat (rw[δ];simp));apply I)));(repeat apply κ);refine ξ λη I=>?_;simp;(repeat (rw[δ];simp));refine az.c (Wp l n Α) (aK.refl _) (by simp) (by simp) ?_;simp;(repeat (rw[δ];simp));apply I;(repeat (first|apply κ|(refine ξ λη I=>?_;simp;(repeat (rw[δ];simp));apply I)));refine W.ret ⟨_,rfl,?_,rfl⟩;exact .of (by rw[<-any_beq,<-Au];rfl)
@[simp high] theorem Wq {h:Nat} {e:Bool} {k:Nat} {α:Type} {f:α->θ} {l:List α}:av h (.sl e k (l.map f))↔∀x∈l,∀a∈(f x).cells,av h a:=by
 rw[fJ];simp only[List.mem_map];exact⟨λH x U=>H _ ⟨x,U,rfl⟩,λH e ⟨x,U,he⟩=>he▸H x U⟩
@[simp high] theorem iΗ {h:Nat} {e:Bool} {k n:Nat} {α:Type} {f:α->θ} {l:List α}:av h (.sl e k ((l.map f).take n))↔∀x∈l.take n,∀a∈(f x).cells,av h a:=by
 rw[<-List.map_take];exact Wq
abbrev aA (r:Int×Int):θ:=.aW [R r.1,R r.2]
abbrev mx (l:List (Int×Int)):θ:=bf aA 2 l
abbrev my (l:List (List (Int×Int))):θ:=bf mx 1 l
structure Found where
 u:Int
 v:Int
 cells:List (List (Int×Int))
deriving DecidableEq
abbrev db (f:Found):θ:=.aW [R f.u,R f.v,my f.cells]
abbrev cR (l:List Found):θ:=bf db 3 l
def aR.of (s:aR) (g:Int):Int:=if g<0 then 0 else((s.ai[g.toNat]?).map (·.eF)).getD 0
theorem D' (s:aR) (g:Int) (Υ:g<s.ai.length):az Tryz.prog 125 [d' s,R g] (R (s.of g)):=by
 refine ak.body Κ Tryz.func125 rfl rfl Tryz.ntmps125 rfl rfl (by simp) ?_;(repeat (first|apply κ|(refine ξ λη I=>?_;simp;(repeat (rw[δ];simp));apply I)));refine W.en rfl (λζ=>?_) (λζ=>?_)
 ·have ζ:g<0:=by simpa using ζ
  (repeat (first|apply κ|(refine ξ λη I=>?_;simp;(repeat (rw[δ];simp));apply I)));refine W.ret ⟨_,rfl,?_,rfl⟩;exact .of (by rw[show s.of g=0 by simp[aR.of,ζ]];rfl)
 ·have ζ:¬g<0:=by simpa using ζ
  obtain⟨n,rfl⟩:∃n:Nat,g=n:=⟨g.toNat,by omega⟩;have Ι:n<s.ai.length:=by omega
  (repeat (first|apply κ|(refine ξ λη I=>?_;simp;(repeat (rw[δ];simp[Ι]));apply I)));refine W.ret ⟨_,rfl,?_,rfl⟩;exact .of (by rw[show s.of n=s.ai[n].eF by simp[aR.of,Ι];intro h;omega];rfl)
def aR.iN (s:aR) (p r:Int×Int) (cV:Nat):Int:=
 let l:=(s.ao[cV]?).getD []
 let a:=if l.contains p.1 then vY 0 (s.of r.1) else 0
 if l.contains p.2 then vY a (s.of r.2) else a
theorem Av (s:aR) (ο:s.small) (p r:Int×Int) (n:Nat) (Ι:n<s.ao.length) (J:r.1<s.ai.length) (γ:r.2<s.ai.length) :
  az Tryz.prog 77 [d' s,aA p,aA r,R n] (R (s.iN p r n)):=by
 refine ak.body Κ Tryz.func77 rfl rfl Tryz.ntmps77 rfl rfl (by simp) ?_;have Α:s.ao[n].length<2 ^ 62:=by have:=ο.2.2.2.1 _ (List.getElem_mem Ι);omega
 (repeat (first|apply κ|(refine ξ λη I=>?_;simp;(repeat (rw[δ];simp));apply I)));refine W.iter (λq:Nat×Int=>q.1<=2/\(q.1=0->q.2=0)/\(q.1=1->q.2=if s.ao[n].contains p.1 then vY 0 (s.of r.1) else 0)/\(q.1=2->q.2=s.iN p r n))
  (λq=>[(3,R n),(4,.ad [aQ s.ai,aN s.ao,bl s.cells]),(5,.ad [R p.1,R p.2]),(6,.ad [R r.1,R r.2]),(9,R q.2),(12,aA p),(13,R q.1)]) (λ_=>[]) (λq=>2-q.1) (0,0) ⟨by omega,by simp,by simp,by simp⟩ rfl (by simp) (λq hi Δ=>?_)
 rcases q with⟨i,x⟩
 match i,hi,Δ with
 | 0,hi,Δ=>
  have U:x=0:=hi.2.1 rfl;subst U;(repeat (first|apply κ|(refine ξ λη I=>?_;simp;(repeat (rw[δ];simp));apply I)));refine al rfl ?_;(repeat (first|apply κ|(refine ξ λη I=>?_;simp;(repeat (rw[δ];simp));apply I)));(repeat apply κ);refine ξ λη I=>?_;simp;(repeat (rw[δ];simp[Ι]));refine az.c (NB s.ao[n] p.1 Α) (aK.refl _) (by simp) (by simp) ?_;simp;(repeat (rw[δ];simp));apply I;by_cases ζ:p.1∈s.ao[n]
  ·refine al (by simp[ζ]) ?_;(repeat (first|apply κ|(refine ξ λη I=>?_;simp;(repeat (rw[δ];simp));apply I)));refine W.draw (A:=[]) Κ mixed λη I=>?_;simp;(repeat (rw[bD];simp));try rw[bC]
   refine gU (az.p (D' s r.1 J) (aK.refl _) (by simp) (by simp)) ?_;simp;(repeat (rw[bD];simp));try rw[bC]
   refine⟨bW (by kernel_rfl),I _ _ ?_⟩;(repeat (first|apply κ|(refine ξ λη I=>?_;simp;(repeat (rw[δ];simp));apply I)));refine W.forget _ ?_ (Δ (1,vY 0 (s.of r.1)) ⟨by simp,by simp,by simp[ζ],by simp⟩ (by simp));simp[H5]
  ·refine aj (by simp[ζ]) ?_;(repeat (first|apply κ|(refine ξ λη I=>?_;simp;(repeat (rw[δ];simp));apply I)));refine W.forget _ ?_ (Δ (1,0) ⟨by simp,by simp,by simp[ζ],by simp⟩ (by simp));simp[H5]
 | 1,hi,Δ=>
  have U:=hi.2.2.1 rfl;simp at U;(repeat (first|apply κ|(refine ξ λη I=>?_;simp;(repeat (rw[δ];simp));apply I)));refine al rfl ?_;(repeat (first|apply κ|(refine ξ λη I=>?_;simp;(repeat (rw[δ];simp));apply I)));(repeat apply κ);refine ξ λη I=>?_;simp;(repeat (rw[δ];simp[Ι]));refine az.c (NB s.ao[n] p.2 Α) (aK.refl _) (by simp) (by simp) ?_;simp;(repeat (rw[δ];simp));apply I;by_cases ζ:p.2∈s.ao[n]
  ·refine al (by simp[ζ]) ?_;(repeat (first|apply κ|(refine ξ λη I=>?_;simp;(repeat (rw[δ];simp));apply I)));refine W.draw (A:=[]) Κ mixed λη I=>?_;simp;(repeat (rw[bD];simp));try rw[bC]
   refine gU (az.p (D' s r.2 γ) (aK.refl _) (by simp) (by simp)) ?_;simp;(repeat (rw[bD];simp));try rw[bC]
   refine⟨bW (by kernel_rfl),I _ _ ?_⟩;(repeat (first|apply κ|(refine ξ λη I=>?_;simp;(repeat (rw[δ];simp));apply I)));refine W.forget _ ?_ (Δ (2,vY x (s.of r.2)) ⟨by simp,by simp,by simp,λ_=>by simp only[aR.iN,a2 Ι];simp[ζ,U]⟩ (by simp));simp[H6]
  ·refine aj (by simp[ζ]) ?_;(repeat (first|apply κ|(refine ξ λη I=>?_;simp;(repeat (rw[δ];simp));apply I)));refine W.forget _ ?_ (Δ (2,x) ⟨by simp,by simp,by simp,λ_=>by simp only[aR.iN,a2 Ι];simp[ζ,U]⟩ (by simp));simp[H6]
 | 2,hi,Δ=>
  have U:=hi.2.2.2 rfl;(repeat (first|apply κ|(refine ξ λη I=>?_;simp;(repeat (rw[δ];simp));apply I)));refine aj rfl ?_;refine W.exit rfl ?_;(repeat (first|apply κ|(refine ξ λη I=>?_;simp;(repeat (rw[δ];simp));apply I)));refine W.ret ⟨_,rfl,?_,rfl⟩;exact .of (by rw[<-show x=s.iN p r n from U];rfl)
 | i+3,hi,Δ=>exact absurd hi.1 (by simp)
def aR.tY (s:aR) (p r:Int×Int) (x:di):Bool:=Aq x.seen (s.iN p r x.cV.toNat)==0&&rb (s.iN p r x.cV.toNat) x.bare==0
def aR.re (s:aR) (p r:Int×Int) (c:Nat):Bool:=((s.cells[c]?).getD []).all (s.tY p r)
theorem Wr (s:aR) (ο:s.small) (p r:Int×Int) (c:Nat) (Ι:c<s.cells.length) (hv:∀x∈s.cells[c],0<=x.cV/\x.cV<s.ao.length) (J:r.1<s.ai.length) (γ:r.2<s.ai.length) :
  az Tryz.prog 172 [d' s,aA p,aA r,R c] (bA (s.re p r c)):=by
 refine ak.body Κ Tryz.func172 rfl rfl Tryz.ntmps172 rfl rfl (by simp) ?_;have Α:s.cells[c].length<2 ^ 62:=by have:=ο.2.2.2.2 _ (List.getElem_mem Ι);omega
 have fz:s.re p r c=s.cells[c].all (s.tY p r):=by simp[aR.re,Ι]
 rw[fz];(repeat (first|apply κ|(refine ξ λη I=>?_;simp;(repeat (rw[δ];simp[Ι]));apply I)));refine W.iter (λi:Nat=>i<=s.cells[c].length/\∀j,j<i->(h:j<s.cells[c].length)->s.tY p r s.cells[c][j]=true)
  (λi=>[(4,.ad [aQ s.ai,aN s.ao,bl s.cells]),(5,.ad [R p.1,R p.2]),(6,.ad [R r.1,R r.2]),(17,je s.cells[c]),(18,R s.cells[c].length),(19,R i)]) (λ_=>[]) (λi=>s.cells[c].length-i) 0 ⟨by omega,λj ε=>by omega⟩ rfl (by simp) (λi hi Δ=>?_)
 (repeat (first|apply κ|(refine ξ λη I=>?_;simp;(repeat (rw[δ];simp));apply I)));refine W.en rfl (λζ=>?_) (λζ=>?_)
 ·have ζ:i<s.cells[c].length:=by simpa using ζ
  have U:=hv _ (List.getElem_mem ζ);obtain⟨n,sy⟩:∃n:Nat,s.cells[c][i].cV=n:=⟨s.cells[c][i].cV.toNat,by omega⟩;have nN:n<s.ao.length:=by omega
  have br:s.tY p r s.cells[c][i]=(Aq s.cells[c][i].seen (s.iN p r n)==0&&rb (s.iN p r n) s.cells[c][i].bare==0):=by simp[aR.tY,sy]
  repeat apply κ
  refine c7 (A:=[10]) Κ λη I=>?_;simp;(repeat (rw[δ];simp[ζ]));apply I
  repeat apply κ
  (repeat apply κ);refine ξ λη I=>?_;simp;(repeat (rw[δ];simp[sy]));refine az.c (Av s ο p r n nN J γ) (aK.refl _) (by simp) (by simp) ?_;simp;(repeat (rw[δ];simp));apply I
  repeat apply κ
  by_cases Ρ:Aq s.cells[c][i].seen (s.iN p r n)=0
  ·(repeat apply κ);refine ξ λη I=>?_;simp;(repeat (rw[δ];simp[Ρ]));refine az.c (NA s.cells[c][i].seen (s.iN p r n)) (aK.refl _) (by simp) (by simp) ?_;simp[Ρ];(repeat (rw[δ];simp[Ρ]));refine az.c (Nz (s.iN p r n) s.cells[c][i].bare) (aK.refl _) (by simp) (by simp) ?_;simp;(repeat (rw[δ];simp));apply I;by_cases ag:rb (s.iN p r n) s.cells[c][i].bare=0
   ·refine aj (by simp[ag]) ?_;(repeat (first|apply κ|(refine ξ λη I=>?_;simp;(repeat (rw[δ];simp));apply I)));refine W.drop (h:=0) (Nat.zero_le _) (Nat.zero_le _) (by simp) rfl _ ?_ (Δ (i+1) ⟨by omega,λj ε h=>?_⟩ (by omega))
    ·simp[e6 ζ Α]
    ·by_cases e:j=i
     ·subst e;rw[br];simp[Ρ,ag]
     ·exact hi.2 j (by omega) h
   ·refine al (by simp[ag]) ?_;(repeat (first|apply κ|(refine ξ λη I=>?_;simp;(repeat (rw[δ];simp));apply I)));refine W.drop (h:=0) (Nat.zero_le _) (Nat.zero_le _) (by simp) rfl [(8,bA false)] (by simp) ?_;refine W.ret ⟨_,rfl,?_,rfl⟩;exact .of (by rw[show s.cells[c].all (s.tY p r)=false from List.all_eq_false.2 ⟨_,List.getElem_mem ζ,by rw[br];simp[ag]⟩];rfl)
  ·(repeat apply κ);refine ξ λη I=>?_;simp;(repeat (rw[δ];simp[Ρ]));refine az.c (NA s.cells[c][i].seen (s.iN p r n)) (aK.refl _) (by simp) (by simp) ?_;simp[Ρ];(repeat (rw[δ];simp[Ρ]));apply I;refine al (by simp) ?_;(repeat (first|apply κ|(refine ξ λη I=>?_;simp;(repeat (rw[δ];simp));apply I)));refine W.drop (h:=0) (Nat.zero_le _) (Nat.zero_le _) (by simp) rfl [(8,bA false)] (by simp) ?_;refine W.ret ⟨_,rfl,?_,rfl⟩;exact .of (by rw[show s.cells[c].all (s.tY p r)=false from List.all_eq_false.2 ⟨_,List.getElem_mem ζ,by rw[br];simp[Ρ]⟩];rfl)
 ·have ζ:s.cells[c].length<=i:=by simpa using ζ
  refine W.exit rfl ?_;(repeat (first|apply κ|(refine ξ λη I=>?_;simp;(repeat (rw[δ];simp));apply I)));refine W.ret ⟨_,rfl,?_,rfl⟩;refine .of ?_;rw[show s.cells[c].all (s.tY p r)=true from List.all_eq_true.2 λx U=>by
   obtain⟨j,ε,rfl⟩:=List.getElem_of_mem U;exact hi.2 j (by omega) ε]
  rfl
def h5 (l:List (List (Int×Int))) (gB:Int) (i:Nat):Nat:=((List.range i).map λj:Nat=>if(j:Int)=gB then 1 else((l[j]?).getD []).length).prod
theorem Ec (l:List (List (Int×Int))) (gB:Int) (i:Nat):h5 l gB (i+1)=h5 l gB i*(if(i:Int)=gB then 1 else((l[i]?).getD []).length):=by
 unfold h5;rw[List.range_succ,List.map_append,List.prod_append];simp
def Found.many (f:Found) (gB:Int):Nat:=h5 f.cells gB f.cells.length
theorem gl {n:Nat} (h:n<2 ^ 62):IntKind.i64.wrap (n:Int)=n:=IntWalk.i64_in _ (by omega)
theorem Ed (f:Found) (gB:Int) (Α:f.cells.length<2 ^ 62) (hm:∀i,i<=f.cells.length->h5 f.cells gB i<2 ^ 62) :
  az Tryz.prog 78 [db f,R gB] (R (f.many gB)):=by
 refine ak.body Κ Tryz.func78 rfl rfl Tryz.ntmps78 rfl rfl (by simp) ?_;(repeat (first|apply κ|(refine ξ λη I=>?_;simp;(repeat (rw[δ];simp));apply I)));refine W.iter (λi:Nat=>i<=f.cells.length) (λi=>[(1,R gB),(5,R (h5 f.cells gB i)),(9,my f.cells),(10,R f.cells.length),(11,R i)]) (λ_=>[]) (λi=>f.cells.length-i) 0 (Nat.zero_le _) rfl (by simp[h5]) (λi hi Δ=>?_);(repeat (first|apply κ|(refine ξ λη I=>?_;simp;(repeat (rw[δ];simp));apply I)));refine W.en rfl (λζ=>?_) (λζ=>?_)
 ·have ζ:i<f.cells.length:=by simpa using ζ
  have ο:=Ec f.cells gB i
  have aH:=hm (i+1) ζ;(repeat (first|apply κ|(refine ξ λη I=>?_;simp;(repeat (rw[δ];simp[ζ]));apply I)));by_cases g:(i:Int)=gB
  ·refine aj (by simp[g]) ?_;(repeat (first|apply κ|(refine ξ λη I=>?_;simp;(repeat (rw[δ];simp));apply I)));refine W.forget _ ?_ (Δ (i+1) ζ (by omega));rw[ο,if_pos g];simp[e6 ζ Α]
  ·refine al (by simp[g]) ?_;have hv:h5 f.cells gB i*f.cells[i].length<2 ^ 62:=by rw[ο,if_neg g] at aH;simpa[ζ] using aH
   (repeat (first|apply κ|(refine ξ λη I=>?_;simp;(repeat (rw[δ];simp[ζ]));apply I)));refine W.forget _ ?_ (Δ (i+1) ζ (by omega));rw[ο,if_neg g];simp only[a2 ζ,Option.getD_some];have:=gl hv;simp[e6 ζ Α] at this ⊢;simp[this]
 ·have ζ:i=f.cells.length:=by simp at ζ;omega
  subst ζ;refine W.exit rfl ?_;(repeat (first|apply κ|(refine ξ λη I=>?_;simp;(repeat (rw[δ];simp));apply I)));refine W.ret ⟨_,rfl,?_,rfl⟩;exact .of rfl
def oT (a b:Int):Int:=if a<b then -1 else if b<a then 1 else 0
theorem Ws (a b:Int):az Tryz.prog 151 [R a,R b] (R (oT a b)):=by
 refine ak.body Κ Tryz.func151 rfl rfl Tryz.ntmps151 rfl rfl (by simp) ?_;(repeat (first|apply κ|(refine ξ λη I=>?_;simp;(repeat (rw[δ];simp));apply I)));(repeat apply κ);refine ξ λη I=>?_;simp;(repeat (rw[δ];simp));refine az.c (H8 a) (aK.refl _) (by simp) (by simp) ?_;simp;(repeat (rw[δ];simp));apply I;(repeat apply κ);refine ξ λη I=>?_;simp;(repeat (rw[δ];simp));refine az.c (H8 b) (aK.refl _) (by simp) (by simp) ?_;simp;(repeat (rw[δ];simp));apply I;(repeat (first|apply κ|(refine ξ λη I=>?_;simp;(repeat (rw[δ];simp));apply I)));refine aj rfl ?_;(repeat (first|apply κ|(refine ξ λη I=>?_;simp;(repeat (rw[δ];simp));apply I)));refine aj rfl ?_;(repeat (first|apply κ|(refine ξ λη I=>?_;simp;(repeat (rw[δ];simp));apply I)));refine W.en rfl (λζ=>?_) (λζ=>?_)
 ·have ζ:a<b:=by simpa using ζ
  (repeat (first|apply κ|(refine ξ λη I=>?_;simp;(repeat (rw[δ];simp));apply I)));refine W.ret ⟨_,rfl,?_,rfl⟩;exact .of (by rw[show oT a b=-1 by simp[oT,ζ]];rfl)
 ·have ζ:¬a<b:=by simpa using ζ
  (repeat (first|apply κ|(refine ξ λη I=>?_;simp;(repeat (rw[δ];simp));apply I)));refine W.en rfl (λa4=>?_) (λa4=>?_)
  ·have a4:b<a:=by simpa using a4
   (repeat (first|apply κ|(refine ξ λη I=>?_;simp;(repeat (rw[δ];simp));apply I)));refine W.ret ⟨_,rfl,?_,rfl⟩;exact .of (by rw[show oT a b=1 by simp[oT,ζ,a4]];rfl)
  ·have a4:¬b<a:=by simpa using a4
   (repeat (first|apply κ|(refine ξ λη I=>?_;simp;(repeat (rw[δ];simp));apply I)));refine W.ret ⟨_,rfl,?_,rfl⟩;exact .of (by rw[show oT a b=0 by simp[oT,ζ,a4]];rfl)
theorem Wt (a b:Int):az Tryz.prog 203 [R a,R b] (bA (decide (a<b))):=by
 refine ak.body Κ Tryz.func203 rfl rfl Tryz.ntmps203 rfl rfl (by simp) ?_;(repeat (first|apply κ|(refine ξ λη I=>?_;simp;(repeat (rw[δ];simp));apply I)));(repeat apply κ);refine ξ λη I=>?_;simp;(repeat (rw[δ];simp));refine az.c (H8 a) (aK.refl _) (by simp) (by simp) ?_;simp;(repeat (rw[δ];simp));apply I;(repeat (first|apply κ|(refine ξ λη I=>?_;simp;(repeat (rw[δ];simp));apply I)));refine W.ret ⟨_,rfl,?_,rfl⟩;exact .of (by rw[show decide (a<b)=decide (a<b) from rfl];rfl)
def oU:List Int->List Int->Int
 | [],[]=>0
 | [],_::_=>-1
 | _::_,[]=>1
 | a::l,b::m=>if oT a b≠0 then oT a b else oU l m
theorem NC (a b:List Int) (ν:a.length<2 ^ 62):az Tryz.prog 118 [bf R 1 a,bf R 1 b] (R (oU a b)):=by
 refine ak.body Κ Tryz.func118 rfl rfl Tryz.ntmps118 rfl rfl (by simp) ?_;(repeat (first|apply κ|(refine ξ λη I=>?_;simp;(repeat (rw[δ];simp));apply I)));refine W.iter (λi:Nat=>i<=a.length/\i<=b.length/\oU a b=oU (a.drop i) (b.drop i)) (λi=>[(0,bf R 1 a),(1,bf R 1 b),(9,bf R 1 a),(10,R a.length),(11,R i)]) (λ_=>[]) (λi=>a.length-i) 0 ⟨by omega,by omega,by simp⟩ rfl (by simp) (λi hi Δ=>?_);obtain⟨J,γ,π⟩:=hi;(repeat (first|apply κ|(refine ξ λη I=>?_;simp;(repeat (rw[δ];simp));apply I)));refine W.en rfl (λζ=>?_) (λζ=>?_)
 ·have ζ:i<a.length:=by simpa using ζ
  have kR:a.drop i=a[i]::a.drop (i+1):=List.drop_eq_getElem_cons ζ;(repeat (first|apply κ|(refine ξ λη I=>?_;simp;(repeat (rw[δ];simp[ζ]));apply I)));refine W.en rfl (λa4=>?_) (λa4=>?_)
  ·have a4:b.length<=i:=by simp at a4;omega
   (repeat (first|apply κ|(refine ξ λη I=>?_;simp;(repeat (rw[δ];simp));apply I)));have iH:b.drop i=[]:=List.drop_eq_nil_of_le a4;refine W.ret ⟨_,rfl,?_,rfl⟩;exact .of (by rw[show oU a b=1 by rw[π,kR,iH];rfl];rfl)
  ·have a4:i<b.length:=by simp at a4;omega
   have iH:b.drop i=b[i]::b.drop (i+1):=List.drop_eq_getElem_cons a4
   repeat apply κ
   refine ξ λη I=>?_;simp;(repeat (rw[δ];simp[a4]));apply I;(repeat apply κ);refine ξ λη I=>?_;simp;(repeat (rw[δ];simp));refine az.c (Ws a[i] b[i]) (aK.refl _) (by simp) (by simp) ?_;simp;(repeat (rw[δ];simp));apply I;(repeat (first|apply κ|(refine ξ λη I=>?_;simp;(repeat (rw[δ];simp));apply I)));by_cases g:oT a[i] b[i]=0
   ·refine aj (by simp[g]) ?_;(repeat (first|apply κ|(refine ξ λη I=>?_;simp;(repeat (rw[δ];simp));apply I)));refine W.forget _ ?_ (Δ (i+1) ⟨ζ,a4,?_⟩ (by omega))
    ·simp[e6 ζ ν]
    ·rw[π,kR,iH,oU,if_neg (by simpa using g)]
   ·refine al (by simp[g]) ?_;(repeat (first|apply κ|(refine ξ λη I=>?_;simp;(repeat (rw[δ];simp));apply I)));refine W.ret ⟨_,rfl,?_,rfl⟩;exact .of (by rw[show oU a b=oT a[i] b[i] by rw[π,kR,iH,oU,if_pos g]];rfl)
 ·have ζ:i=a.length:=by simp at ζ;omega
  have kR:a.drop i=[]:=List.drop_eq_nil_of_le (by omega);refine W.exit rfl ?_;(repeat (first|apply κ|(refine ξ λη I=>?_;simp;(repeat (rw[δ];simp));apply I)));by_cases g:a.length<b.length
  ·refine al (by simp[g]) ?_;(repeat (first|apply κ|(refine ξ λη I=>?_;simp;(repeat (rw[δ];simp));apply I)));have iH:b.drop i=b[i]::b.drop (i+1):=List.drop_eq_getElem_cons (by omega);refine W.ret ⟨_,rfl,?_,rfl⟩;exact .of (by rw[show oU a b=-1 by rw[π,kR,iH];rfl];rfl)
  ·refine aj (by simp[g]) ?_;(repeat (first|apply κ|(refine ξ λη I=>?_;simp;(repeat (rw[δ];simp));apply I)));have iH:b.drop i=[]:=List.drop_eq_nil_of_le (by omega);refine W.ret ⟨_,rfl,?_,rfl⟩;exact .of (by rw[show oU a b=0 by rw[π,kR,iH];rfl];rfl)
def nm (x y:Int×Int):Int:=oU [x.1,x.2] [y.1,y.2]
theorem ND (x y:Int×Int):az Tryz.prog 174 [aA x,aA y] (R (nm x y)):=by
 refine ak.body Κ Tryz.func174 rfl rfl Tryz.ntmps174 rfl rfl (by simp) ?_;(repeat (first|apply κ|(refine ξ λη I=>?_;simp;(repeat (rw[δ];simp));apply I)));refine W.draw (A:=[]) Κ mixed λη I=>?_;simp;(repeat (rw[bD];simp));try rw[bC]
 refine gU (az.p (NC [x.1,x.2] [y.1,y.2] (by simp)) (.cons .ex (.cons .ex .nil)) (by simp) (by simp)) ?_;simp;(repeat (rw[bD];simp));try rw[bC]
 refine⟨bW (by kernel_rfl),I _ _ ?_⟩;(repeat (first|apply κ|(refine ξ λη I=>?_;simp;(repeat (rw[δ];simp));apply I)));refine W.ret ⟨_,rfl,?_,rfl⟩;exact .of rfl
theorem Wu (x y:Found):az Tryz.prog 148 [db x,db y] (R (nm (x.u,x.v) (y.u,y.v))):=by
 refine ak.body Κ Tryz.func148 rfl rfl Tryz.ntmps148 rfl rfl (by simp) ?_;(repeat (first|apply κ|(refine ξ λη I=>?_;simp;(repeat (rw[δ];simp));apply I)));refine W.draw (A:=[]) Κ mixed λη I=>?_;simp;(repeat (rw[bD];simp));try rw[bC]
 refine gU (az.p (NC [x.u,x.v] [y.u,y.v] (by simp)) (.cons .ex (.cons .ex .nil)) (by simp) (by simp)) ?_;simp;(repeat (rw[bD];simp));try rw[bC]
 refine⟨bW (by kernel_rfl),I _ _ ?_⟩;(repeat (first|apply κ|(refine ξ λη I=>?_;simp;(repeat (rw[δ];simp));apply I)));refine W.ret ⟨_,rfl,?_,rfl⟩;exact .of rfl
def gm (l:List Found):Nat:=(l.map (·.many (-1))).sum
theorem NF (l:List Found) (Α:l.length<2 ^ 62) (J:∀f∈l,f.cells.length<2 ^ 62/\∀i,i<=f.cells.length->h5 f.cells (-1) i<2 ^ 62) (γ:gm l<2 ^ 62) :
  az Tryz.prog 79 [cR l] (R (gm l)):=by
 refine ak.body Κ Tryz.func79 rfl rfl Tryz.ntmps79 rfl rfl (by simp) ?_;(repeat (first|apply κ|(refine ξ λη I=>?_;simp;(repeat (rw[δ];simp));apply I)));refine W.iter (λi:Nat=>i<=l.length) (λi=>[(3,R (gm (l.take i))),(6,cR l),(7,R l.length),(8,R i)]) (λ_=>[]) (λi=>l.length-i) 0 (Nat.zero_le _) rfl (by simp[gm]) (λi hi Δ=>?_);(repeat (first|apply κ|(refine ξ λη I=>?_;simp;(repeat (rw[δ];simp));apply I)));refine W.en rfl (λζ=>?_) (λζ=>?_)
 ·have ζ:i<l.length:=by simpa using ζ
  obtain⟨Ρ,ag⟩:=J _ (List.getElem_mem ζ);have ο:gm (l.take (i+1))=gm (l.take i)+l[i].many (-1):=by
   unfold gm;rw[List.take_succ_eq_append_getElem ζ,List.map_append,List.sum_append];simp only[List.map_cons,List.map_nil,List.sum_cons,List.sum_nil,Nat.add_zero]
  have aH:gm (l.take i)+l[i].many (-1)<2 ^ 62:=by
   rw[<-ο];have e:gm l=gm (l.take (i+1))+gm (l.drop (i+1)):=by
    conv=>lhs;rw[<-List.take_append_drop (i+1) l]
    simp only[gm,List.map_append,List.sum_append]
   omega
  repeat apply κ
  refine c7 (A:=[5]) Κ λη I=>?_;simp;(repeat (rw[δ];simp[ζ]));apply I;(repeat apply κ);refine ξ λη I=>?_;simp;(repeat (rw[δ];simp));refine az.c (Ed l[i] (-1) Ρ ag) (aK.refl _) (by simp) (by simp) ?_;simp;(repeat (rw[δ];simp));apply I;(repeat (first|apply κ|(refine ξ λη I=>?_;simp;(repeat (rw[δ];simp));apply I)));refine W.drop (h:=0) (Nat.zero_le _) (Nat.zero_le _) (by simp) rfl _ ?_ (Δ (i+1) ζ (by omega));rw[ο];have:=gl aH;simp[e6 ζ Α] at this ⊢;exact this
 ·have ζ:i=l.length:=by simp at ζ;omega
  subst ζ;refine W.exit rfl ?_;(repeat (first|apply κ|(refine ξ λη I=>?_;simp;(repeat (rw[δ];simp));apply I)));refine W.ret ⟨_,rfl,?_,rfl⟩;exact .of (by rw[show gm l=gm (l.take l.length) by simp];rfl)
theorem av.hN {a:θ} (h:av 0 a) (ρ:List Nat):hN ρ a=a:=by
 cases h with
 | Ψ h=>omega
 | ms h=>omega
 | mp h=>omega
 | it h=>omega
 | _=>rfl
theorem Ee {l:List θ} (h:∀a∈l,av 0 a) (ρ:List Nat):l.map (hN ρ)=l:=by
 induction l with
 | nil=>rfl
 | cons a l Δ=>rw[List.map_cons,(h a (by simp)).hN,Δ λx U=>h x (by simp[U])]
theorem av.dI {a:θ} (h:av 0 a) (ρ:List Nat):dI ρ a=a:=by
 have ah:=h;cases h with
 | aW h=>simp only[Go.TL.dI];rw[Ee h]
 | bu h=>simp only[Go.TL.dI];rw[Ee h]
 | fn J γ=>simp only[Go.TL.dI];rw[Ee J,Ee γ]
 | _=>exact ah.hN ρ
theorem av.top {a:θ} (h:av 0 a) (n:Nat):oR n a:=by
 have ah:=h;cases h with
 | Ψ h=>omega
 | ms h=>omega
 | mp h=>omega
 | it h=>omega
 | _=>exact ah
theorem av.hf {a:θ} (h:av 0 a) (n:Nat):fS n a:=by
 have ah:=h;cases h with
 | aW h=>exact λa ν=>(h a ν).top n
 | bu h=>exact λa ν=>(h a ν).top n
 | fn J γ=>exact⟨λa ν=>(J a ν).top n,λa ν=>(γ a ν).top n⟩
 | _=>exact ah.top n
theorem lI {h id n i len:Nat}:fS h (.ms id n i len)↔id<h:=Iff.rfl
theorem vZ {h:Nat} {v:Value}:fS h (.z v)↔True:=⟨λ_=>trivial,λ_=>(av.z v).hf h⟩
theorem lJ {ρ:List Nat} {id n i len:Nat}:dI ρ (.ms id n i len)=.ms (ρ.getD id 0) n i len:=rfl
theorem mz {ρ:List Nat} {v:Value}:dI ρ (.z v)=.z v:=rfl
section
variable {P:Program} {σ:List Row}
theorem ak.one {g:FuncId} {as0:List θ} {row row':Row} {r:θ} {K E:θ->List Row->Prop} (h:ak P g as0 [row] (λa s=>a=r/\s=[row']) (λ_ _=>False)) (id:Nat) (bS:σ[id]?=some row) (ω:iv row) (hU:iv row') (ν:∀a∈as0,fS 1 a) (μ:fS 1 r)
  {args:List θ} (mq:args=as0.map (dI [id])) (I:K (dI [id] r) (σ.set id row')):h1 P (.fn (.func g) [] []) args σ K E:=by
 subst mq;have aS:=ak.rows (σ:=σ) h [id] (by simp) rfl (λj i ε=>by
  cases j with
  | zero=>simp at ε;subst ε;exact bS
  | succ j=>simp at ε) (λr μ=>by simp at μ;subst μ;exact ω) (by simpa using ν) (K':=K) (E':=E) (λa s ⟨J,γ⟩=>by
   subst J;subst γ;refine⟨λx U=>by simp at U;subst U;exact hU,μ,?_⟩;simpa[names,pT,iu] using I) (λa s h=>h.elim)
 exact ak.call (first:=[]) (captured:=[]) (by simpa using aS)
end
section
variable {P:Program} {σ:List Row}
theorem ak.H9 {g:FuncId} {as0:List θ} {row:Row} {K0 K E:θ->List Row->Prop} (h:ak P g as0 [row] K0 (λ_ _=>False)) (id:Nat) (bS:σ[id]?=some row) (ω:iv row) (ν:∀a∈as0,fS 1 a)
  {args:List θ} (mq:args=as0.map (dI [id])) (I:∀a s,K0 a s->∃row',s=[row']/\iv row'/\fS 1 a/\K (dI [id] a) (σ.set id row')):h1 P (.fn (.func g) [] []) args σ K E:=by
 subst mq;have aS:=ak.rows (σ:=σ) h [id] (by simp) rfl (λj i ε=>by
  cases j with
  | zero=>simp at ε;subst ε;exact bS
  | succ j=>simp at ε) (λr μ=>by simp at μ;subst μ;exact ω) (by simpa using ν) (K':=K) (E':=E) (λa s ah=>by
   obtain⟨row',rfl,hU,μ,χ⟩:=I a s ah;refine⟨λx U=>by simp at U;subst U;exact hU,μ,?_⟩;simpa[names,pT,iu] using χ) (λa s h=>h.elim)
 exact ak.call (first:=[]) (captured:=[]) (by simpa using aS)
end
theorem pU {α:Type} {f:α->θ} {t k:Nat} {l:List α} (h:∀x,∀a∈(f x).cells,av 0 a):iv (.cells t k (l.map f)):=λe he a ν=>by
 obtain⟨x,_,rfl⟩:=List.mem_map.1 he;exact h x a ν
theorem eE.part {id k m:Nat} {σ:List Row} {t:TypeId} {l l2:List θ} (bL:σ[id]?=some (.cells t k (l++l2))) (hm:l.length=m) (hb:∀e∈l,∀a∈e.cells,av 0 a):eE 0 σ (.ms id (l++l2).length 0 m) (.sl false k l):=by
 subst hm;refine .ms (Nat.zero_le _) bL rfl (by simp) rfl (λj e aJ J γ=>?_) (λj e aJ J γ x a b9 π Μ=>?_)
 ·have ε:=(b7.1 γ).1;rw[Nat.zero_add,ea ε] at J;rw[J] at γ;cases γ;rfl
 ·have ε:=(b7.1 γ).1;rw[Nat.zero_add,ea ε] at J;rw[J] at γ;cases γ;rw[π] at Μ;cases Μ;exact .low (hb e (cv J) a (cv π))
theorem sz {α:Type} [Inhabited α] {d:Array α} {i:Nat} (h:i<d.size):d[i]?=some d[i]!:=by simp[h]
def ax {α:Type} (cmp:α->α->Int) (x y:α):Bool:=decide (cmp x y<0)
end Go.TL
