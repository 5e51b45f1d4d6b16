import Derived.Sort.AssemblyPlain
import Derived.Test.YtlabjopijpkiaaaGreatSAM
set_option maxHeartbeats 16000000
set_option maxRecDepth 20000
set_option linter.unusedSectionVars false
set_option linter.unusedSimpArgs false
set_option linter.unusedVariables false
namespace Go.TL
open Go.Proofs
variable [bm]
theorem Ih:IntKind.i64.wrap 1=1:=by decide
theorem Ii:IntKind.i64.wrap 2=2:=by decide
theorem fe {i n:Nat} (h:i<n) (Η:n<2 ^ 62):IntKind.i64.wrap ((i:Int)+1)=((i+1:Nat):Int):=by
 rw[IntWalk.i64_in _ (by omega)];rfl
theorem XG {α:Type} (f:α->θ) (z:θ) (l:List α) {i:Nat} (h:i<l.length) (cJ:i<(fill f z l i).length):(fill f z l i)[i]=z:=by
 have:=Xz f z l h;rw[aW cJ] at this;exact Option.some.inj this
theorem Ij (a b:List Int) (ξ:a.length<2 ^ 62):ay Tryz.prog 30 [aP R 1 a,aP R 1 b] (a4 (a==b)):=by
 refine ak.body Ι Tryz.func30 rfl rfl Tryz.ntmps30 rfl rfl (by simp) ?_;(repeat (first|apply κ|(refine ν λη I=>?_;simp;(repeat (rw[δ];simp));apply I)));refine W.iter (λp:Nat×Bool=>p.1<=a.length/\(p.2=true->a.length=b.length/\∀j,j<p.1->a[j]?=b[j]?)/\(p.2=false->a≠b)) (λp=>[(0,aP R 1 a),(1,aP R 1 b),(5,a4 p.2),(6,R p.1)]) (λ_=>[]) (λp=>a.length-p.1) (0,decide (a.length=b.length)) ⟨Nat.zero_le _,by simp,by simp;exact λh e=>h (by rw[e])⟩ rfl (by simp) (λi hi Δ=>?_);rcases i with⟨i,_|_⟩
 ·(repeat (first|apply κ|(refine ν λη I=>?_;simp;(repeat (rw[δ];simp));apply I)));refine ah rfl ?_;refine W.exit rfl ?_;(repeat (first|apply κ|(refine ν λη I=>?_;simp;(repeat (rw[δ];simp));apply I)));refine W.ret ⟨_,rfl,?_,rfl⟩;exact .of (by simp[hi.2.2 rfl])
 ·(repeat (first|apply κ|(refine ν λη I=>?_;simp;(repeat (rw[δ];simp));apply I)));have ω:=(hi.2.1 rfl).1;refine W.en rfl (λζ=>?_) (λζ=>?_)
  ·have ζ:i<a.length:=by simpa using ζ
   have a5:i<b.length:=by omega
   (repeat (first|apply κ|(refine ν λη I=>?_;simp;(repeat (rw[δ];simp));apply I)));refine W.draw (A:=[]) Ι mixed λη I=>?_;simp;(repeat (rw[ba];simp[ζ,a5]));try rw[a']
   refine⟨bK (by kernel_rfl),I _ _ ?_⟩;(repeat (first|apply κ|(refine ν λη I=>?_;simp;(repeat (rw[δ];simp));apply I)));refine W.forget _ ?_ (Δ (i+1,decide (a[i]=b[i])) ⟨by simp;omega,λh=>⟨ω,λj ε=>?_⟩,λh e=>?_⟩ (by simp;omega))
   ·simp[fe ζ ξ]
   ·by_cases e:j=i
    ·subst e;rw[aW ζ,aW a5];simpa using h
    ·exact(hi.2.1 rfl).2 j (by simp at ε;omega)
   ·subst e;simp at h
  ·have ζ:a.length<=i:=by simpa using ζ
   refine W.exit rfl ?_;(repeat (first|apply κ|(refine ν λη I=>?_;simp;(repeat (rw[δ];simp));apply I)));refine W.ret ⟨_,rfl,?_,rfl⟩;refine .of ?_;have:a=b:=List.ext_getElem? λj=>by
    by_cases ε:j<i
    ·exact(hi.2.1 rfl).2 j ε
    ·rw[List.getElem?_eq_none (by omega),List.getElem?_eq_none (by omega)]
   simp[this]
abbrev aI (l:List (List Int)):θ:=aP (aP R 1) 1 l
theorem Ik (l:List Int) (n:Int) (ω:l.length<2 ^ 62):ay Tryz.prog 71 [aP R 1 l,R n] (R (if n∈l then(l.idxOf n:Nat) else -1)):=by
 refine ak.body Ι Tryz.func71 rfl rfl Tryz.ntmps71 rfl rfl (by simp) ?_;(repeat (first|apply κ|(refine ν λη I=>?_;simp;(repeat (rw[δ];simp));apply I)));refine W.iter (λi:Nat=>i<=l.length/\∀j,j<i->(h:j<l.length)->l[j]≠n) (λi=>[(0,aP R 1 l),(1,R n),(5,R i)]) (λ_=>[]) (λi=>l.length-i) 0 ⟨Nat.zero_le _,λj ε=>by omega⟩ rfl (by simp) (λi hi Δ=>?_)
 repeat apply κ
 by_cases ζ:i<l.length
 ·(repeat (first|apply κ|(refine ν λη I=>?_;simp;(repeat (rw[δ];simp[ζ]));apply I)));refine W.en rfl (λa5=>?_) (λa5=>?_)
  ·have Η:l[i]≠n:=by simpa using a5
   (repeat (first|apply κ|(refine ν λη I=>?_;simp;(repeat (rw[δ];simp));apply I)));refine W.forget _ ?_ (Δ (i+1) ⟨ζ,λj ε h=>?_⟩ (by omega))
   ·simp[fe ζ ω]
   ·by_cases e:j=i
    ·subst e;exact Η
    ·exact hi.2 j (by omega) h
  ·have Η:l[i]=n:=by simpa using a5
   refine W.exit rfl ?_;(repeat (first|apply κ|(refine ν λη I=>?_;simp;(repeat (rw[δ];simp));apply I)));have bz:¬i=l.length:=by omega
   refine ah (by simp[bz]) ?_;(repeat (first|apply κ|(refine ν λη I=>?_;simp;(repeat (rw[δ];simp));apply I)));refine W.ret ⟨_,rfl,?_,rfl⟩;have hm:n∈l:=Η▸List.getElem_mem _;refine .of ?_;rw[if_pos hm];have:l.idxOf n=i:=by
    have aD:l.idxOf n<l.length:=List.idxOf_lt_length_of_mem hm
    have Ζ:l[l.idxOf n]=n:=List.getElem_idxOf aD
    have J:¬l.idxOf n<i:=λh=>hi.2 _ h aD Ζ
    have γ:¬i<l.idxOf n:=λh=>by
     have:=List.not_of_lt_findIdx (p:=(·==n)) (xs:=l) (i:=i) h;simp[Η] at this
    omega
   rw[this];rfl
 ·(repeat (first|apply κ|(refine ν λη I=>?_;simp;(repeat (rw[δ];simp[ζ]));apply I)));refine ah rfl ?_;refine W.exit rfl ?_;(repeat (first|apply κ|(refine ν λη I=>?_;simp;(repeat (rw[δ];simp));apply I)));have he:i=l.length:=by omega
  refine aj (by simp[he]) ?_;(repeat (first|apply κ|(refine ν λη I=>?_;simp;(repeat (rw[δ];simp));apply I)));refine W.ret ⟨_,rfl,?_,rfl⟩;have hm:n∉l:=λh=>by
   obtain⟨j,ε,e⟩:=List.getElem_of_mem h;exact hi.2 j (by omega) ε e
  exact .of (by simp[hm])
theorem XH (a b:List (List Int)) (ξ:a.length<2 ^ 40) (ο:∀x∈a,x.length<2 ^ 40):ay Tryz.prog 50 [aI a,aI b] (a4 (a==b)):=by
 refine ak.body Ι Tryz.func50 rfl rfl Tryz.ntmps50 rfl rfl (by simp) ?_;(repeat (first|apply κ|(refine ν λη I=>?_;simp;(repeat (rw[δ];simp));apply I)));refine W.iter (λp:Nat×Bool=>p.1<=a.length/\(p.2=true->a.length=b.length/\∀j,j<p.1->a[j]?=b[j]?)/\(p.2=false->a≠b)) (λp=>[(0,aI a),(1,aI b),(5,a4 p.2),(6,R p.1)]) (λ_=>[]) (λp=>a.length-p.1) (0,decide (a.length=b.length)) ⟨Nat.zero_le _,by simp,by simp;exact λh e=>h (by rw[e])⟩ rfl (by simp) (λi hi Δ=>?_);rcases i with⟨i,_|_⟩
 ·(repeat (first|apply κ|(refine ν λη I=>?_;simp;(repeat (rw[δ];simp));apply I)));refine ah rfl ?_;refine W.exit rfl ?_;(repeat (first|apply κ|(refine ν λη I=>?_;simp;(repeat (rw[δ];simp));apply I)));refine W.ret ⟨_,rfl,?_,rfl⟩;exact .of (by simp[hi.2.2 rfl])
 ·(repeat (first|apply κ|(refine ν λη I=>?_;simp;(repeat (rw[δ];simp));apply I)));have ω:=(hi.2.1 rfl).1;refine W.en rfl (λζ=>?_) (λζ=>?_)
  ·have ζ:i<a.length:=by simpa using ζ
   have a5:i<b.length:=by omega
   (repeat (first|apply κ|(refine ν λη I=>?_;simp;(repeat (rw[δ];simp));apply I)));refine W.draw (A:=[]) Ι mixed λη I=>?_;simp;(repeat (rw[ba];simp[ζ,a5]));try rw[a']
   refine fI (ay.p (Ij a[i] b[i] (by have:=ο _ (List.getElem_mem ζ);omega)) (aK.refl _) (by simp) (by simp)) ?_;simp;(repeat (rw[ba];simp));try rw[a']
   refine⟨bK (by kernel_rfl),I _ _ ?_⟩;(repeat (first|apply κ|(refine ν λη I=>?_;simp;(repeat (rw[δ];simp));apply I)));refine W.forget _ ?_ (Δ (i+1,a[i]==b[i]) ⟨by simp;omega,λh=>⟨ω,λj ε=>?_⟩,λh e=>?_⟩ (by simp;omega))
   ·simp[fe ζ (show a.length<2 ^ 62 by omega)]
   ·by_cases e:j=i
    ·subst e;rw[aW ζ,aW a5];simpa using h
    ·exact(hi.2.1 rfl).2 j (by simp at ε;omega)
   ·subst e;simp at h
  ·have ζ:a.length<=i:=by simpa using ζ
   refine W.exit rfl ?_;(repeat (first|apply κ|(refine ν λη I=>?_;simp;(repeat (rw[δ];simp));apply I)));refine W.ret ⟨_,rfl,?_,rfl⟩;refine .of ?_;have:a=b:=List.ext_getElem? λj=>by
    by_cases ε:j<i
    ·exact(hi.2.1 rfl).2 j ε
    ·rw[List.getElem?_eq_none (by omega),List.getElem?_eq_none (by omega)]
   simp[this]
structure lS where
 name:ByteArray
 eo:Int
deriving DecidableEq
structure eF where
 cL:Int
 seen:Int
 bare:Int
deriving DecidableEq
structure aL where
 ae:List lS
 ai:List (List Int)
 cells:List (List eF)
deriving DecidableEq
abbrev eA (g:lS):θ:=.aS [nA g.name,R g.eo]
abbrev eB (p:eF):θ:=.aS [R p.cL,R p.seen,R p.bare]
abbrev aO (l:List lS):θ:=aP eA 2 l
abbrev qe (l:List eF):θ:=aP eB 3 l
abbrev bf (l:List (List eF)):θ:=aP qe 1 l
abbrev eV (s:aL):θ:=.aS [aO s.ae,aI s.ai,bf s.cells]
def aL.small (s:aL):Prop:=s.ae.length<2 ^ 30/\s.ai.length<2 ^ 30/\s.cells.length<2 ^ 30/\(∀x∈s.ai,x.length<2 ^ 30)/\∀x∈s.cells,x.length<2 ^ 30
@[simp] theorem lς (x y:Int):(x != y) = !decide (x=y):=by rw[Bool.eq_iff_iff];simp
section
variable {P:Program} {m nt:Nat} {k:List Item} {env:aa} {σ σ':List Row} {Z:List Item->aa->List Row->Prop} {E:θ->aa->List Row->Prop}
theorem W.drop {h:Nat} (hm:m<=h) (aU:h<=σ.length) (n':∀(id:Nat) (r:Row),id<h->σ[id]?=some r->eK h r) (lR:σ.take h=σ') (env':aa) (cD:∀p∈env',a3 env p.1=p.2/\au h p.2) (hW:W P m nt k env' σ' Z E):W P m nt k env σ Z E:=
 W.cut h hm env' aU n' (λp ψ=>by rw[(cD p ψ).1];exact .low (cD p ψ).2) (by rw[lR];exact hW)
theorem W.fix {id:Nat} {t:TypeId} {e:θ} {kk:Nat} (hm:m<=id) (bC:σ[id]?=some (.cells t kk [e])) (he:∀a∈e.cells,au id a) (n':∀(Dw:Nat) (r:Row),Dw<id->σ[Dw]?=some r->eK id r) (lR:σ.take id=σ') (env':aa)
  (cD:∀p∈env',(a3 env p.1=p.2/\au id p.2)\/(a3 env p.1=.al id 1 0 0/\p.2=.Ψ e.cells)) (hW:W P m nt k env' σ' Z E):W P m nt k env σ Z E:=
 W.cut id hm env' (Nat.le_of_lt (b7.1 bC).1) n' (λp ψ=>by
  rcases cD p ψ with⟨J,γ⟩|⟨J,γ⟩
  ·rw[J];exact .low γ
  ·rw[J,γ];refine .al (Nat.le_refl _) bC rfl (e:=e) rfl (by simp) λx a b1 Τ af=>?_;rw[Nat.zero_add] at Τ;rw[Τ] at af;cases af;exact .low (he a (ck Τ))) (by rw[lR];exact hW)
theorem W.to {env':aa} (h:W P m nt k env' σ' Z E) (lR:σ=σ') (cD:∀p∈env',a3 env p.1=p.2):W P m nt k env σ Z E:=lR▸W.forget env' cD h
end
abbrev lT (a b:Int):Int:=eS .i64 a b
abbrev o9 (a b:Int):Int:=q5 .i64 a b
abbrev v9 (a b:Int):Int:=kQ .i64 a b
section
variable {P:Program} {σ:List Row}
theorem gj.c {f:θ} {args:List θ} {r:θ} {K E:θ->List Row->Prop} (h:gj P f args r) (I:K r σ):hG P f args σ K E:=
 hG.mono (h σ) (λa s ⟨J,γ⟩=>by subst J;subst γ;exact I) (λ_ _ h=>h.elim)
end
def j6 (n:Int):Bool:=decide (0<=n)&&decide (n<=2)
theorem pa (n:Int):ay Tryz.prog 93 [R n] (a4 (j6 n)):=by
 refine ak.body Ι Tryz.func93 rfl rfl Tryz.ntmps93 rfl rfl (by simp) ?_;by_cases h:0<=n
 ·(repeat (first|apply κ|(refine ν λη I=>?_;simp;(repeat (rw[δ];simp[h]));apply I)));refine W.ret ⟨_,rfl,?_,rfl⟩;exact .of (by simp[j6,h])
 ·(repeat (first|apply κ|(refine ν λη I=>?_;simp;(repeat (rw[δ];simp[h]));apply I)));refine W.ret ⟨_,rfl,?_,rfl⟩;exact .of (by simp[j6,h])
def valid (n:Int):Bool:=decide (0<=n)&&decide (n<=63)
theorem xZ (n:Int):ay Tryz.prog 109 [R n] (a4 (valid n)):=by
 refine ak.body Ι Tryz.func109 rfl rfl Tryz.ntmps109 rfl rfl (by simp) ?_;by_cases h:0<=n
 ·(repeat (first|apply κ|(refine ν λη I=>?_;simp;(repeat (rw[δ];simp[h]));apply I)));refine W.ret ⟨_,rfl,?_,rfl⟩;exact .of (by simp[valid,h])
 ·(repeat (first|apply κ|(refine ν λη I=>?_;simp;(repeat (rw[δ];simp[h]));apply I)));refine W.ret ⟨_,rfl,?_,rfl⟩;exact .of (by simp[valid,h])
theorem Od (a b:Int):ay Tryz.prog 196 [R a,R b] (a4 (lT a b==0)):=by
 refine ak.body Ι Tryz.func196 rfl rfl Tryz.ntmps196 rfl rfl (by simp) ?_;(repeat (first|apply κ|(refine ν λη I=>?_;simp;(repeat (rw[δ];simp));apply I)));refine W.ret ⟨_,rfl,?_,rfl⟩;exact .of (by simp)
theorem Oe (a b:Int):ay Tryz.prog 210 [R a,R b] (a4 (v9 a b==0)):=by
 refine ak.body Ι Tryz.func210 rfl rfl Tryz.ntmps210 rfl rfl (by simp) ?_;(repeat (first|apply κ|(refine ν λη I=>?_;simp;(repeat (rw[δ];simp));apply I)));refine W.ret ⟨_,rfl,?_,rfl⟩;exact .of (by simp)
theorem Il (b:Bool):ay Tryz.prog 127 [a4 b] (R (if b then 1 else 0)):=by
 refine ak.body Ι Tryz.func127 rfl rfl Tryz.ntmps127 rfl rfl (by simp) ?_;cases b
 ·(repeat (first|apply κ|(refine ν λη I=>?_;simp;(repeat (rw[δ];simp));apply I)));refine ah rfl ?_;(repeat (first|apply κ|(refine ν λη I=>?_;simp;(repeat (rw[δ];simp));apply I)));refine W.ret ⟨_,rfl,?_,rfl⟩;exact .refl _
 ·(repeat (first|apply κ|(refine ν λη I=>?_;simp;(repeat (rw[δ];simp));apply I)));refine aj rfl ?_;(repeat (first|apply κ|(refine ν λη I=>?_;simp;(repeat (rw[δ];simp));apply I)));refine W.ret ⟨_,rfl,?_,rfl⟩;exact .refl _
theorem Im (n:Int):ay Tryz.prog 193 [R n] (a4 false):=by
 refine ak.body Ι Tryz.func193 rfl rfl Tryz.ntmps193 rfl rfl (by simp) ?_;(repeat (first|apply κ|(refine ν λη I=>?_;simp;(repeat (rw[δ];simp));apply I)));refine W.ret ⟨_,rfl,?_,rfl⟩;exact .of (by simp)
def D5 (n:Int):Int:=o9 (o9 (v9 n 15) (IntKind.i64.wrap (lT n 5*2))) ((lT n 10).fdiv 2)
theorem XI (n:Int):ay Tryz.prog 99 [R n] (R (D5 n)):=by
 refine ak.body Ι Tryz.func99 rfl rfl Tryz.ntmps99 rfl rfl (by simp) ?_;(repeat (first|apply κ|(refine ν λη I=>?_;simp;(repeat (rw[δ];simp));apply I)));refine W.ret ⟨_,rfl,?_,rfl⟩;exact .of (by simp[D5,IntKind.bits])
def idxOf {α:Type} (p:α->Bool) (l:List α):Int:=if l.any p then(l.findIdx p:Nat) else -1
theorem D6 {α:Type} {p:α->Bool} {l:List α} {i:Nat} (h:i<l.length) (J:p l[i]=true) (γ:∀j,j<i->(ε:j<l.length)->p l[j]=false):idxOf p l=(i:Nat):=by
 have ξ:l.any p=true:=List.any_eq_true.2 ⟨_,List.getElem_mem h,J⟩
 have:l.findIdx p=i:=by
  have π:¬l.findIdx p<i:=λaD=>by
   have ω:l.findIdx p<l.length:=by omega
   have:=List.findIdx_getElem (p:=p) (w:=ω);rw[γ _ aD ω] at this;cases this
  have Μ:¬i<l.findIdx p:=λaD=>by
   have:=List.not_of_lt_findIdx aD;rw[J] at this;simp at this
  omega
 unfold idxOf;rw[if_pos ξ,this]
theorem D7 {α:Type} {p:α->Bool} {l:List α} (h:∀j,(ε:j<l.length)->p l[j]=false):idxOf p l=-1:=by
 have:l.any p=false:=by
  rw[List.any_eq_false];intro x U;obtain⟨j,ε,rfl⟩:=List.getElem_of_mem U;simp[h j ε]
 unfold idxOf;rw[this];rfl
theorem D8 {α:Type} {p:α->Bool} {l:List α}:decide (idxOf p l>=0)=l.any p:=by
 unfold idxOf;cases h:l.any p<;>simp
theorem XJ (l:List Int) (n:Int) (ω:l.length<2 ^ 62):ay Tryz.prog 137 [aP R 1 l,R n] (R (idxOf (·==n) l)):=by
 refine ak.body Ι Tryz.func137 rfl rfl Tryz.ntmps137 rfl rfl (by simp) ?_;(repeat (first|apply κ|(refine ν λη I=>?_;simp;(repeat (rw[δ];simp));apply I)));refine W.iter (λi:Nat=>i<=l.length/\∀j,j<i->(h:j<l.length)->(l[j]==n)=false) (λi=>[(0,aP R 1 l),(1,R n),(6,aP R 1 l),(7,R l.length),(8,R i)]) (λ_=>[]) (λi=>l.length-i) 0 ⟨Nat.zero_le _,λj ε=>by omega⟩ rfl (by simp) (λi hi Δ=>?_);(repeat (first|apply κ|(refine ν λη I=>?_;simp;(repeat (rw[δ];simp));apply I)));refine W.en rfl (λζ=>?_) (λζ=>?_)
 ·have ζ:i<l.length:=by simpa using ζ
  (repeat (first|apply κ|(refine ν λη I=>?_;simp;(repeat (rw[δ];simp[ζ]));apply I)));refine W.en rfl (λa5=>?_) (λa5=>?_)
  ·have Η:n=l[i]:=by simpa using a5
   (repeat (first|apply κ|(refine ν λη I=>?_;simp;(repeat (rw[δ];simp));apply I)));refine W.ret ⟨_,rfl,?_,rfl⟩;exact .of (by rw[D6 ζ (by simp[Η]) hi.2];rfl)
  ·have Η:¬n=l[i]:=by simpa using a5
   (repeat (first|apply κ|(refine ν λη I=>?_;simp;(repeat (rw[δ];simp));apply I)));refine W.forget _ ?_ (Δ (i+1) ⟨by omega,λj ε h=>?_⟩ (by omega))
   ·simp[fe ζ ω]
   ·by_cases e:j=i
    ·subst e;simpa using λx=>Η x.symm
    ·exact hi.2 j (by omega) h
 ·have ζ:l.length<=i:=by simpa using ζ
  refine W.exit rfl ?_;(repeat (first|apply κ|(refine ν λη I=>?_;simp;(repeat (rw[δ];simp));apply I)));refine W.ret ⟨_,rfl,?_,rfl⟩;exact .of (by rw[D7 λj ε=>hi.2 j (by omega) ε];rfl)
theorem any_beq (l:List Int) (n:Int):(l.any λx=>x==n)=l.contains n:=by
 rw[Bool.eq_iff_iff];simp
theorem Of (l:List Int) (n:Int) (ω:l.length<2 ^ 62):ay Tryz.prog 110 [aP R 1 l,R n] (a4 (l.contains n)):=by
 refine ak.body Ι Tryz.func110 rfl rfl Tryz.ntmps110 rfl rfl (by simp) ?_;(repeat (first|apply κ|(refine ν λη I=>?_;simp;(repeat (rw[δ];simp));apply I)));(repeat apply κ);refine ν λη I=>?_;simp;(repeat (rw[δ];simp));refine ay.c (XJ l n ω) (aK.refl _) (by simp) (by simp) ?_;simp;(repeat (rw[δ];simp));apply I;(repeat (first|apply κ|(refine ν λη I=>?_;simp;(repeat (rw[δ];simp));apply I)));refine W.ret ⟨_,rfl,?_,rfl⟩;exact .of (by rw[<-any_beq,<-D8];rfl)
@[simp high] theorem XK {h:Nat} {e:Bool} {k:Nat} {α:Type} {f:α->θ} {l:List α}:au h (.sl e k (l.map f))↔∀x∈l,∀a∈(f x).cells,au h a:=by
 rw[fZ];simp only[List.mem_map];exact⟨λH x U=>H _ ⟨x,U,rfl⟩,λH e ⟨x,U,he⟩=>he▸H x U⟩
@[simp high] theorem lτ {h:Nat} {e:Bool} {k n:Nat} {α:Type} {f:α->θ} {l:List α}:au h (.sl e k ((l.map f).take n))↔∀x∈l.take n,∀a∈(f x).cells,au h a:=by
 rw[<-List.map_take];exact XK
abbrev az (r:Int×Int):θ:=.aS [R r.1,R r.2]
abbrev mK (l:List (Int×Int)):θ:=aP az 2 l
abbrev mL (l:List (List (Int×Int))):θ:=aP mK 1 l
structure Found where
 u:Int
 v:Int
 cells:List (List (Int×Int))
deriving DecidableEq
abbrev c7 (f:Found):θ:=.aS [R f.u,R f.v,mL f.cells]
abbrev cQ (l:List Found):θ:=aP c7 3 l
def aL.of (s:aL) (g:Int):Int:=if g<0 then 0 else((s.ae[g.toNat]?).map (·.eo)).getD 0
theorem D3 (s:aL) (g:Int) (Υ:g<s.ae.length):ay Tryz.prog 125 [eV s,R g] (R (s.of g)):=by
 refine ak.body Ι Tryz.func125 rfl rfl Tryz.ntmps125 rfl rfl (by simp) ?_;(repeat (first|apply κ|(refine ν λη I=>?_;simp;(repeat (rw[δ];simp));apply I)));refine W.en rfl (λζ=>?_) (λζ=>?_)
 ·have ζ:g<0:=by simpa using ζ
  (repeat (first|apply κ|(refine ν λη I=>?_;simp;(repeat (rw[δ];simp));apply I)));refine W.ret ⟨_,rfl,?_,rfl⟩;exact .of (by rw[show s.of g=0 by simp[aL.of,ζ]];rfl)
 ·have ζ:¬g<0:=by simpa using ζ
  obtain⟨n,rfl⟩:∃n:Nat,g=n:=⟨g.toNat,by omega⟩;have Η:n<s.ae.length:=by omega
  (repeat (first|apply κ|(refine ν λη I=>?_;simp;(repeat (rw[δ];simp[Η]));apply I)));refine W.ret ⟨_,rfl,?_,rfl⟩;exact .of (by rw[show s.of n=s.ae[n].eo by simp[aL.of,Η];intro h;omega];rfl)
def aL.di (s:aL) (p r:Int×Int) (cL:Nat):Int:=
 let l:=(s.ai[cL]?).getD []
 let a:=if l.contains p.1 then o9 0 (s.of r.1) else 0
 if l.contains p.2 then o9 a (s.of r.2) else a
theorem Ae (s:aL) (ο:s.small) (p r:Int×Int) (n:Nat) (Η:n<s.ai.length) (J:r.1<s.ae.length) (γ:r.2<s.ae.length) :
  ay Tryz.prog 77 [eV s,az p,az r,R n] (R (s.di p r n)):=by
 refine ak.body Ι Tryz.func77 rfl rfl Tryz.ntmps77 rfl rfl (by simp) ?_;have ω:s.ai[n].length<2 ^ 62:=by have:=ο.2.2.2.1 _ (List.getElem_mem Η);omega
 (repeat (first|apply κ|(refine ν λη I=>?_;simp;(repeat (rw[δ];simp));apply I)));refine W.iter (λq:Nat×Int=>q.1<=2/\(q.1=0->q.2=0)/\(q.1=1->q.2=if s.ai[n].contains p.1 then o9 0 (s.of r.1) else 0)/\(q.1=2->q.2=s.di p r n))
  (λq=>[(3,R n),(4,.Ψ [aO s.ae,aI s.ai,bf s.cells]),(5,.Ψ [R p.1,R p.2]),(6,.Ψ [R r.1,R r.2]),(9,R q.2),(12,az p),(13,R q.1)]) (λ_=>[]) (λq=>2-q.1) (0,0) ⟨by omega,by simp,by simp,by simp⟩ rfl (by simp) (λq hi Δ=>?_)
 rcases q with⟨i,x⟩
 match i,hi,Δ with
 | 0,hi,Δ=>
  have U:x=0:=hi.2.1 rfl;subst U;(repeat (first|apply κ|(refine ν λη I=>?_;simp;(repeat (rw[δ];simp));apply I)));refine aj rfl ?_;(repeat (first|apply κ|(refine ν λη I=>?_;simp;(repeat (rw[δ];simp));apply I)));(repeat apply κ);refine ν λη I=>?_;simp;(repeat (rw[δ];simp[Η]));refine ay.c (Of s.ai[n] p.1 ω) (aK.refl _) (by simp) (by simp) ?_;simp;(repeat (rw[δ];simp));apply I;by_cases ζ:p.1∈s.ai[n]
  ·refine aj (by simp[ζ]) ?_;(repeat (first|apply κ|(refine ν λη I=>?_;simp;(repeat (rw[δ];simp));apply I)));refine W.draw (A:=[]) Ι mixed λη I=>?_;simp;(repeat (rw[ba];simp));try rw[a']
   refine fI (ay.p (D3 s r.1 J) (aK.refl _) (by simp) (by simp)) ?_;simp;(repeat (rw[ba];simp));try rw[a']
   refine⟨bK (by kernel_rfl),I _ _ ?_⟩;(repeat (first|apply κ|(refine ν λη I=>?_;simp;(repeat (rw[δ];simp));apply I)));refine W.forget _ ?_ (Δ (1,o9 0 (s.of r.1)) ⟨by simp,by simp,by simp[ζ],by simp⟩ (by simp));simp[Ih]
  ·refine ah (by simp[ζ]) ?_;(repeat (first|apply κ|(refine ν λη I=>?_;simp;(repeat (rw[δ];simp));apply I)));refine W.forget _ ?_ (Δ (1,0) ⟨by simp,by simp,by simp[ζ],by simp⟩ (by simp));simp[Ih]
 | 1,hi,Δ=>
  have U:=hi.2.2.1 rfl;simp at U;(repeat (first|apply κ|(refine ν λη I=>?_;simp;(repeat (rw[δ];simp));apply I)));refine aj rfl ?_;(repeat (first|apply κ|(refine ν λη I=>?_;simp;(repeat (rw[δ];simp));apply I)));(repeat apply κ);refine ν λη I=>?_;simp;(repeat (rw[δ];simp[Η]));refine ay.c (Of s.ai[n] p.2 ω) (aK.refl _) (by simp) (by simp) ?_;simp;(repeat (rw[δ];simp));apply I;by_cases ζ:p.2∈s.ai[n]
  ·refine aj (by simp[ζ]) ?_;(repeat (first|apply κ|(refine ν λη I=>?_;simp;(repeat (rw[δ];simp));apply I)));refine W.draw (A:=[]) Ι mixed λη I=>?_;simp;(repeat (rw[ba];simp));try rw[a']
   refine fI (ay.p (D3 s r.2 γ) (aK.refl _) (by simp) (by simp)) ?_;simp;(repeat (rw[ba];simp));try rw[a']
   refine⟨bK (by kernel_rfl),I _ _ ?_⟩;(repeat (first|apply κ|(refine ν λη I=>?_;simp;(repeat (rw[δ];simp));apply I)));refine W.forget _ ?_ (Δ (2,o9 x (s.of r.2)) ⟨by simp,by simp,by simp,λ_=>by simp only[aL.di,aW Η];simp[ζ,U]⟩ (by simp));simp[Ii]
  ·refine ah (by simp[ζ]) ?_;(repeat (first|apply κ|(refine ν λη I=>?_;simp;(repeat (rw[δ];simp));apply I)));refine W.forget _ ?_ (Δ (2,x) ⟨by simp,by simp,by simp,λ_=>by simp only[aL.di,aW Η];simp[ζ,U]⟩ (by simp));simp[Ii]
 | 2,hi,Δ=>
  have U:=hi.2.2.2 rfl;(repeat (first|apply κ|(refine ν λη I=>?_;simp;(repeat (rw[δ];simp));apply I)));refine ah rfl ?_;refine W.exit rfl ?_;(repeat (first|apply κ|(refine ν λη I=>?_;simp;(repeat (rw[δ];simp));apply I)));refine W.ret ⟨_,rfl,?_,rfl⟩;exact .of (by rw[<-show x=s.di p r n from U];rfl)
 | i+3,hi,Δ=>exact absurd hi.1 (by simp)
def aL.jF (s:aL) (p r:Int×Int) (x:eF):Bool:=v9 x.seen (s.di p r x.cL.toNat)==0&&lT (s.di p r x.cL.toNat) x.bare==0
def aL.mM (s:aL) (p r:Int×Int) (c:Nat):Bool:=((s.cells[c]?).getD []).all (s.jF p r)
theorem XL (s:aL) (ο:s.small) (p r:Int×Int) (c:Nat) (Η:c<s.cells.length) (hv:∀x∈s.cells[c],0<=x.cL/\x.cL<s.ai.length) (J:r.1<s.ae.length) (γ:r.2<s.ae.length) :
  ay Tryz.prog 172 [eV s,az p,az r,R c] (a4 (s.mM p r c)):=by
 refine ak.body Ι Tryz.func172 rfl rfl Tryz.ntmps172 rfl rfl (by simp) ?_;have ω:s.cells[c].length<2 ^ 62:=by have:=ο.2.2.2.2 _ (List.getElem_mem Η);omega
 have eE:s.mM p r c=s.cells[c].all (s.jF p r):=by simp[aL.mM,Η]
 rw[eE];(repeat (first|apply κ|(refine ν λη I=>?_;simp;(repeat (rw[δ];simp[Η]));apply I)));refine W.iter (λi:Nat=>i<=s.cells[c].length/\∀j,j<i->(h:j<s.cells[c].length)->s.jF p r s.cells[c][j]=true)
  (λi=>[(4,.Ψ [aO s.ae,aI s.ai,bf s.cells]),(5,.Ψ [R p.1,R p.2]),(6,.Ψ [R r.1,R r.2]),(17,qe s.cells[c]),(18,R s.cells[c].length),(19,R i)]) (λ_=>[]) (λi=>s.cells[c].length-i) 0 ⟨by omega,λj ε=>by omega⟩ rfl (by simp) (λi hi Δ=>?_)
 (repeat (first|apply κ|(refine ν λη I=>?_;simp;(repeat (rw[δ];simp));apply I)));refine W.en rfl (λζ=>?_) (λζ=>?_)
 ·have ζ:i<s.cells[c].length:=by simpa using ζ
  have U:=hv _ (List.getElem_mem ζ);obtain⟨n,oc⟩:∃n:Nat,s.cells[c][i].cL=n:=⟨s.cells[c][i].cL.toNat,by omega⟩;have n2:n<s.ai.length:=by omega
  have bs:s.jF p r s.cells[c][i]=(v9 s.cells[c][i].seen (s.di p r n)==0&&lT (s.di p r n) s.cells[c][i].bare==0):=by simp[aL.jF,oc]
  repeat apply κ
  refine dw (A:=[10]) Ι λη I=>?_;simp;(repeat (rw[δ];simp[ζ]));apply I
  repeat apply κ
  (repeat apply κ);refine ν λη I=>?_;simp;(repeat (rw[δ];simp[oc]));refine ay.c (Ae s ο p r n n2 J γ) (aK.refl _) (by simp) (by simp) ?_;simp;(repeat (rw[δ];simp));apply I
  repeat apply κ
  by_cases Τ:v9 s.cells[c][i].seen (s.di p r n)=0
  ·(repeat apply κ);refine ν λη I=>?_;simp;(repeat (rw[δ];simp[Τ]));refine ay.c (Oe s.cells[c][i].seen (s.di p r n)) (aK.refl _) (by simp) (by simp) ?_;simp[Τ];(repeat (rw[δ];simp[Τ]));refine ay.c (Od (s.di p r n) s.cells[c][i].bare) (aK.refl _) (by simp) (by simp) ?_;simp;(repeat (rw[δ];simp));apply I;by_cases af:lT (s.di p r n) s.cells[c][i].bare=0
   ·refine ah (by simp[af]) ?_;(repeat (first|apply κ|(refine ν λη I=>?_;simp;(repeat (rw[δ];simp));apply I)));refine W.drop (h:=0) (Nat.zero_le _) (Nat.zero_le _) (by simp) rfl _ ?_ (Δ (i+1) ⟨by omega,λj ε h=>?_⟩ (by omega))
    ·simp[fe ζ ω]
    ·by_cases e:j=i
     ·subst e;rw[bs];simp[Τ,af]
     ·exact hi.2 j (by omega) h
   ·refine aj (by simp[af]) ?_;(repeat (first|apply κ|(refine ν λη I=>?_;simp;(repeat (rw[δ];simp));apply I)));refine W.drop (h:=0) (Nat.zero_le _) (Nat.zero_le _) (by simp) rfl [(8,a4 false)] (by simp) ?_;refine W.ret ⟨_,rfl,?_,rfl⟩;exact .of (by rw[show s.cells[c].all (s.jF p r)=false from List.all_eq_false.2 ⟨_,List.getElem_mem ζ,by rw[bs];simp[af]⟩];rfl)
  ·(repeat apply κ);refine ν λη I=>?_;simp;(repeat (rw[δ];simp[Τ]));refine ay.c (Oe s.cells[c][i].seen (s.di p r n)) (aK.refl _) (by simp) (by simp) ?_;simp[Τ];(repeat (rw[δ];simp[Τ]));apply I;refine aj (by simp) ?_;(repeat (first|apply κ|(refine ν λη I=>?_;simp;(repeat (rw[δ];simp));apply I)));refine W.drop (h:=0) (Nat.zero_le _) (Nat.zero_le _) (by simp) rfl [(8,a4 false)] (by simp) ?_;refine W.ret ⟨_,rfl,?_,rfl⟩;exact .of (by rw[show s.cells[c].all (s.jF p r)=false from List.all_eq_false.2 ⟨_,List.getElem_mem ζ,by rw[bs];simp[Τ]⟩];rfl)
 ·have ζ:s.cells[c].length<=i:=by simpa using ζ
  refine W.exit rfl ?_;(repeat (first|apply κ|(refine ν λη I=>?_;simp;(repeat (rw[δ];simp));apply I)));refine W.ret ⟨_,rfl,?_,rfl⟩;refine .of ?_;rw[show s.cells[c].all (s.jF p r)=true from List.all_eq_true.2 λx U=>by
   obtain⟨j,ε,rfl⟩:=List.getElem_of_mem U;exact hi.2 j (by omega) ε]
  rfl
def ig (l:List (List (Int×Int))) (gQ:Int) (i:Nat):Nat:=((List.range i).map λj:Nat=>if(j:Int)=gQ then 1 else((l[j]?).getD []).length).prod
theorem D9 (l:List (List (Int×Int))) (gQ:Int) (i:Nat):ig l gQ (i+1)=ig l gQ i*(if(i:Int)=gQ then 1 else((l[i]?).getD []).length):=by
 unfold ig;rw[List.range_succ,List.map_append,List.prod_append];simp
def Found.many (f:Found) (gQ:Int):Nat:=ig f.cells gQ f.cells.length
theorem fJ {n:Nat} (h:n<2 ^ 62):IntKind.i64.wrap (n:Int)=n:=IntWalk.i64_in _ (by omega)
theorem D' (f:Found) (gQ:Int) (ω:f.cells.length<2 ^ 62) (hm:∀i,i<=f.cells.length->ig f.cells gQ i<2 ^ 62) :
  ay Tryz.prog 78 [c7 f,R gQ] (R (f.many gQ)):=by
 refine ak.body Ι Tryz.func78 rfl rfl Tryz.ntmps78 rfl rfl (by simp) ?_;(repeat (first|apply κ|(refine ν λη I=>?_;simp;(repeat (rw[δ];simp));apply I)));refine W.iter (λi:Nat=>i<=f.cells.length) (λi=>[(1,R gQ),(5,R (ig f.cells gQ i)),(9,mL f.cells),(10,R f.cells.length),(11,R i)]) (λ_=>[]) (λi=>f.cells.length-i) 0 (Nat.zero_le _) rfl (by simp[ig]) (λi hi Δ=>?_);(repeat (first|apply κ|(refine ν λη I=>?_;simp;(repeat (rw[δ];simp));apply I)));refine W.en rfl (λζ=>?_) (λζ=>?_)
 ·have ζ:i<f.cells.length:=by simpa using ζ
  have ο:=D9 f.cells gQ i
  have aD:=hm (i+1) ζ;(repeat (first|apply κ|(refine ν λη I=>?_;simp;(repeat (rw[δ];simp[ζ]));apply I)));by_cases g:(i:Int)=gQ
  ·refine ah (by simp[g]) ?_;(repeat (first|apply κ|(refine ν λη I=>?_;simp;(repeat (rw[δ];simp));apply I)));refine W.forget _ ?_ (Δ (i+1) ζ (by omega));rw[ο,if_pos g];simp[fe ζ ω]
  ·refine aj (by simp[g]) ?_;have hv:ig f.cells gQ i*f.cells[i].length<2 ^ 62:=by rw[ο,if_neg g] at aD;simpa[ζ] using aD
   (repeat (first|apply κ|(refine ν λη I=>?_;simp;(repeat (rw[δ];simp[ζ]));apply I)));refine W.forget _ ?_ (Δ (i+1) ζ (by omega));rw[ο,if_neg g];simp only[aW ζ,Option.getD_some];have:=fJ hv;simp[fe ζ ω] at this ⊢;simp[this]
 ·have ζ:i=f.cells.length:=by simp at ζ;omega
  subst ζ;refine W.exit rfl ?_;(repeat (first|apply κ|(refine ν λη I=>?_;simp;(repeat (rw[δ];simp));apply I)));refine W.ret ⟨_,rfl,?_,rfl⟩;exact .of rfl
def pb (a b:Int):Int:=if a<b then -1 else if b<a then 1 else 0
theorem XM (a b:Int):ay Tryz.prog 151 [R a,R b] (R (pb a b)):=by
 refine ak.body Ι Tryz.func151 rfl rfl Tryz.ntmps151 rfl rfl (by simp) ?_;(repeat (first|apply κ|(refine ν λη I=>?_;simp;(repeat (rw[δ];simp));apply I)));(repeat apply κ);refine ν λη I=>?_;simp;(repeat (rw[δ];simp));refine ay.c (Im a) (aK.refl _) (by simp) (by simp) ?_;simp;(repeat (rw[δ];simp));apply I;(repeat apply κ);refine ν λη I=>?_;simp;(repeat (rw[δ];simp));refine ay.c (Im b) (aK.refl _) (by simp) (by simp) ?_;simp;(repeat (rw[δ];simp));apply I;(repeat (first|apply κ|(refine ν λη I=>?_;simp;(repeat (rw[δ];simp));apply I)));refine ah rfl ?_;(repeat (first|apply κ|(refine ν λη I=>?_;simp;(repeat (rw[δ];simp));apply I)));refine ah rfl ?_;(repeat (first|apply κ|(refine ν λη I=>?_;simp;(repeat (rw[δ];simp));apply I)));refine W.en rfl (λζ=>?_) (λζ=>?_)
 ·have ζ:a<b:=by simpa using ζ
  (repeat (first|apply κ|(refine ν λη I=>?_;simp;(repeat (rw[δ];simp));apply I)));refine W.ret ⟨_,rfl,?_,rfl⟩;exact .of (by rw[show pb a b=-1 by simp[pb,ζ]];rfl)
 ·have ζ:¬a<b:=by simpa using ζ
  (repeat (first|apply κ|(refine ν λη I=>?_;simp;(repeat (rw[δ];simp));apply I)));refine W.en rfl (λa5=>?_) (λa5=>?_)
  ·have a5:b<a:=by simpa using a5
   (repeat (first|apply κ|(refine ν λη I=>?_;simp;(repeat (rw[δ];simp));apply I)));refine W.ret ⟨_,rfl,?_,rfl⟩;exact .of (by rw[show pb a b=1 by simp[pb,ζ,a5]];rfl)
  ·have a5:¬b<a:=by simpa using a5
   (repeat (first|apply κ|(refine ν λη I=>?_;simp;(repeat (rw[δ];simp));apply I)));refine W.ret ⟨_,rfl,?_,rfl⟩;exact .of (by rw[show pb a b=0 by simp[pb,ζ,a5]];rfl)
theorem XN (a b:Int):ay Tryz.prog 203 [R a,R b] (a4 (decide (a<b))):=by
 refine ak.body Ι Tryz.func203 rfl rfl Tryz.ntmps203 rfl rfl (by simp) ?_;(repeat (first|apply κ|(refine ν λη I=>?_;simp;(repeat (rw[δ];simp));apply I)));(repeat apply κ);refine ν λη I=>?_;simp;(repeat (rw[δ];simp));refine ay.c (Im a) (aK.refl _) (by simp) (by simp) ?_;simp;(repeat (rw[δ];simp));apply I;(repeat (first|apply κ|(refine ν λη I=>?_;simp;(repeat (rw[δ];simp));apply I)));refine W.ret ⟨_,rfl,?_,rfl⟩;exact .of (by rw[show decide (a<b)=decide (a<b) from rfl];rfl)
def pd:List Int->List Int->Int
 | [],[]=>0
 | [],_::_=>-1
 | _::_,[]=>1
 | a::l,b::m=>if pb a b≠0 then pb a b else pd l m
theorem Og (a b:List Int) (ξ:a.length<2 ^ 62):ay Tryz.prog 118 [aP R 1 a,aP R 1 b] (R (pd a b)):=by
 refine ak.body Ι Tryz.func118 rfl rfl Tryz.ntmps118 rfl rfl (by simp) ?_;(repeat (first|apply κ|(refine ν λη I=>?_;simp;(repeat (rw[δ];simp));apply I)));refine W.iter (λi:Nat=>i<=a.length/\i<=b.length/\pd a b=pd (a.drop i) (b.drop i)) (λi=>[(0,aP R 1 a),(1,aP R 1 b),(9,aP R 1 a),(10,R a.length),(11,R i)]) (λ_=>[]) (λi=>a.length-i) 0 ⟨by omega,by omega,by simp⟩ rfl (by simp) (λi hi Δ=>?_);obtain⟨J,γ,π⟩:=hi;(repeat (first|apply κ|(refine ν λη I=>?_;simp;(repeat (rw[δ];simp));apply I)));refine W.en rfl (λζ=>?_) (λζ=>?_)
 ·have ζ:i<a.length:=by simpa using ζ
  have jG:a.drop i=a[i]::a.drop (i+1):=List.drop_eq_getElem_cons ζ;(repeat (first|apply κ|(refine ν λη I=>?_;simp;(repeat (rw[δ];simp[ζ]));apply I)));refine W.en rfl (λa5=>?_) (λa5=>?_)
  ·have a5:b.length<=i:=by simp at a5;omega
   (repeat (first|apply κ|(refine ν λη I=>?_;simp;(repeat (rw[δ];simp));apply I)));have iz:b.drop i=[]:=List.drop_eq_nil_of_le a5;refine W.ret ⟨_,rfl,?_,rfl⟩;exact .of (by rw[show pd a b=1 by rw[π,jG,iz];rfl];rfl)
  ·have a5:i<b.length:=by simp at a5;omega
   have iz:b.drop i=b[i]::b.drop (i+1):=List.drop_eq_getElem_cons a5
   repeat apply κ
   refine ν λη I=>?_;simp;(repeat (rw[δ];simp[a5]));apply I;(repeat apply κ);refine ν λη I=>?_;simp;(repeat (rw[δ];simp));refine ay.c (XM a[i] b[i]) (aK.refl _) (by simp) (by simp) ?_;simp;(repeat (rw[δ];simp));apply I;(repeat (first|apply κ|(refine ν λη I=>?_;simp;(repeat (rw[δ];simp));apply I)));by_cases g:pb a[i] b[i]=0
   ·refine ah (by simp[g]) ?_;(repeat (first|apply κ|(refine ν λη I=>?_;simp;(repeat (rw[δ];simp));apply I)));refine W.forget _ ?_ (Δ (i+1) ⟨ζ,a5,?_⟩ (by omega))
    ·simp[fe ζ ξ]
    ·rw[π,jG,iz,pd,if_neg (by simpa using g)]
   ·refine aj (by simp[g]) ?_;(repeat (first|apply κ|(refine ν λη I=>?_;simp;(repeat (rw[δ];simp));apply I)));refine W.ret ⟨_,rfl,?_,rfl⟩;exact .of (by rw[show pd a b=pb a[i] b[i] by rw[π,jG,iz,pd,if_pos g]];rfl)
 ·have ζ:i=a.length:=by simp at ζ;omega
  have jG:a.drop i=[]:=List.drop_eq_nil_of_le (by omega);refine W.exit rfl ?_;(repeat (first|apply κ|(refine ν λη I=>?_;simp;(repeat (rw[δ];simp));apply I)));by_cases g:a.length<b.length
  ·refine aj (by simp[g]) ?_;(repeat (first|apply κ|(refine ν λη I=>?_;simp;(repeat (rw[δ];simp));apply I)));have iz:b.drop i=b[i]::b.drop (i+1):=List.drop_eq_getElem_cons (by omega);refine W.ret ⟨_,rfl,?_,rfl⟩;exact .of (by rw[show pd a b=-1 by rw[π,jG,iz];rfl];rfl)
  ·refine ah (by simp[g]) ?_;(repeat (first|apply κ|(refine ν λη I=>?_;simp;(repeat (rw[δ];simp));apply I)));have iz:b.drop i=[]:=List.drop_eq_nil_of_le (by omega);refine W.ret ⟨_,rfl,?_,rfl⟩;exact .of (by rw[show pd a b=0 by rw[π,jG,iz];rfl];rfl)
def nB (x y:Int×Int):Int:=pd [x.1,x.2] [y.1,y.2]
theorem Oh (x y:Int×Int):ay Tryz.prog 174 [az x,az y] (R (nB x y)):=by
 refine ak.body Ι Tryz.func174 rfl rfl Tryz.ntmps174 rfl rfl (by simp) ?_;(repeat (first|apply κ|(refine ν λη I=>?_;simp;(repeat (rw[δ];simp));apply I)));refine W.draw (A:=[]) Ι mixed λη I=>?_;simp;(repeat (rw[ba];simp));try rw[a']
 refine fI (ay.p (Og [x.1,x.2] [y.1,y.2] (by simp)) (.cons .ex (.cons .ex .nil)) (by simp) (by simp)) ?_;simp;(repeat (rw[ba];simp));try rw[a']
 refine⟨bK (by kernel_rfl),I _ _ ?_⟩;(repeat (first|apply κ|(refine ν λη I=>?_;simp;(repeat (rw[δ];simp));apply I)));refine W.ret ⟨_,rfl,?_,rfl⟩;exact .of rfl
theorem XO (x y:Found):ay Tryz.prog 148 [c7 x,c7 y] (R (nB (x.u,x.v) (y.u,y.v))):=by
 refine ak.body Ι Tryz.func148 rfl rfl Tryz.ntmps148 rfl rfl (by simp) ?_;(repeat (first|apply κ|(refine ν λη I=>?_;simp;(repeat (rw[δ];simp));apply I)));refine W.draw (A:=[]) Ι mixed λη I=>?_;simp;(repeat (rw[ba];simp));try rw[a']
 refine fI (ay.p (Og [x.u,x.v] [y.u,y.v] (by simp)) (.cons .ex (.cons .ex .nil)) (by simp) (by simp)) ?_;simp;(repeat (rw[ba];simp));try rw[a']
 refine⟨bK (by kernel_rfl),I _ _ ?_⟩;(repeat (first|apply κ|(refine ν λη I=>?_;simp;(repeat (rw[δ];simp));apply I)));refine W.ret ⟨_,rfl,?_,rfl⟩;exact .of rfl
def ja (l:List Found):Nat:=(l.map (·.many (-1))).sum
theorem XP (l:List Found) (ω:l.length<2 ^ 62) (J:∀f∈l,f.cells.length<2 ^ 62/\∀i,i<=f.cells.length->ig f.cells (-1) i<2 ^ 62) (γ:ja l<2 ^ 62) :
  ay Tryz.prog 79 [cQ l] (R (ja l)):=by
 refine ak.body Ι Tryz.func79 rfl rfl Tryz.ntmps79 rfl rfl (by simp) ?_;(repeat (first|apply κ|(refine ν λη I=>?_;simp;(repeat (rw[δ];simp));apply I)));refine W.iter (λi:Nat=>i<=l.length) (λi=>[(3,R (ja (l.take i))),(6,cQ l),(7,R l.length),(8,R i)]) (λ_=>[]) (λi=>l.length-i) 0 (Nat.zero_le _) rfl (by simp[ja]) (λi hi Δ=>?_);(repeat (first|apply κ|(refine ν λη I=>?_;simp;(repeat (rw[δ];simp));apply I)));refine W.en rfl (λζ=>?_) (λζ=>?_)
 ·have ζ:i<l.length:=by simpa using ζ
  obtain⟨Τ,af⟩:=J _ (List.getElem_mem ζ);have ο:ja (l.take (i+1))=ja (l.take i)+l[i].many (-1):=by
   unfold ja;rw[List.take_succ_eq_append_getElem ζ,List.map_append,List.sum_append];simp only[List.map_cons,List.map_nil,List.sum_cons,List.sum_nil,Nat.add_zero]
  have aD:ja (l.take i)+l[i].many (-1)<2 ^ 62:=by
   rw[<-ο];have e:ja l=ja (l.take (i+1))+ja (l.drop (i+1)):=by
    conv=>lhs;rw[<-List.take_append_drop (i+1) l]
    simp only[ja,List.map_append,List.sum_append]
   omega
  repeat apply κ
  refine dw (A:=[5]) Ι λη I=>?_;simp;(repeat (rw[δ];simp[ζ]));apply I;(repeat apply κ);refine ν λη I=>?_;simp;(repeat (rw[δ];simp));refine ay.c (D' l[i] (-1) Τ af) (aK.refl _) (by simp) (by simp) ?_;simp;(repeat (rw[δ];simp));apply I;(repeat (first|apply κ|(refine ν λη I=>?_;simp;(repeat (rw[δ];simp));apply I)));refine W.drop (h:=0) (Nat.zero_le _) (Nat.zero_le _) (by simp) rfl _ ?_ (Δ (i+1) ζ (by omega));rw[ο];have:=fJ aD;simp[fe ζ ω] at this ⊢;exact this
 ·have ζ:i=l.length:=by simp at ζ;omega
  subst ζ;refine W.exit rfl ?_;(repeat (first|apply κ|(refine ν λη I=>?_;simp;(repeat (rw[δ];simp));apply I)));refine W.ret ⟨_,rfl,?_,rfl⟩;exact .of (by rw[show ja l=ja (l.take l.length) by simp];rfl)
theorem au.hH {a:θ} (h:au 0 a) (ρ:List Nat):hH ρ a=a:=by
 cases h with
 | al h=>omega
 | ms h=>omega
 | mp h=>omega
 | it h=>omega
 | _=>rfl
theorem Ea {l:List θ} (h:∀a∈l,au 0 a) (ρ:List Nat):l.map (hH ρ)=l:=by
 induction l with
 | nil=>rfl
 | cons a l Δ=>rw[List.map_cons,(h a (by simp)).hH,Δ λx U=>h x (by simp[U])]
theorem au.dM {a:θ} (h:au 0 a) (ρ:List Nat):dM ρ a=a:=by
 have ag:=h;cases h with
 | aS h=>simp only[Go.TL.dM];rw[Ea h]
 | bn h=>simp only[Go.TL.dM];rw[Ea h]
 | fn J γ=>simp only[Go.TL.dM];rw[Ea J,Ea γ]
 | _=>exact ag.hH ρ
theorem au.top {a:θ} (h:au 0 a) (n:Nat):o8 n a:=by
 have ag:=h;cases h with
 | al h=>omega
 | ms h=>omega
 | mp h=>omega
 | it h=>omega
 | _=>exact ag
theorem au.ih {a:θ} (h:au 0 a) (n:Nat):ga n a:=by
 have ag:=h;cases h with
 | aS h=>exact λa ξ=>(h a ξ).top n
 | bn h=>exact λa ξ=>(h a ξ).top n
 | fn J γ=>exact⟨λa ξ=>(J a ξ).top n,λa ξ=>(γ a ξ).top n⟩
 | _=>exact ag.top n
theorem nC {h id n i len:Nat}:ga h (.ms id n i len)↔id<h:=Iff.rfl
theorem v' {h:Nat} {v:Value}:ga h (.z v)↔True:=⟨λ_=>trivial,λ_=>(au.z v).ih h⟩
theorem nD {ρ:List Nat} {id n i len:Nat}:dM ρ (.ms id n i len)=.ms (ρ.getD id 0) n i len:=rfl
theorem od {ρ:List Nat} {v:Value}:dM ρ (.z v)=.z v:=rfl
section
variable {P:Program} {σ:List Row}
theorem ak.one {g:FuncId} {as0:List θ} {row row':Row} {r:θ} {K E:θ->List Row->Prop} (h:ak P g as0 [row] (λa s=>a=r/\s=[row']) (λ_ _=>False)) (id:Nat) (bW:σ[id]?=some row) (ψ:iG row) (fX:iG row') (ξ:∀a∈as0,ga 1 a) (μ:ga 1 r)
  {args:List θ} (mG:args=as0.map (dM [id])) (I:K (dM [id] r) (σ.set id row')):hG P (.fn (.func g) [] []) args σ K E:=by
 subst mG;have aU:=ak.rows (σ:=σ) h [id] (by simp) rfl (λj i ε=>by
  cases j with
  | zero=>simp at ε;subst ε;exact bW
  | succ j=>simp at ε) (λr μ=>by simp at μ;subst μ;exact ψ) (by simpa using ξ) (K':=K) (E':=E) (λa s ⟨J,γ⟩=>by
   subst J;subst γ;refine⟨λx U=>by simp at U;subst U;exact fX,μ,?_⟩;simpa[names,qd,ie] using I) (λa s h=>h.elim)
 exact ak.call (first:=[]) (captured:=[]) (by simpa using aU)
end
section
variable {P:Program} {σ:List Row}
theorem ak.Io {g:FuncId} {as0:List θ} {row:Row} {K0 K E:θ->List Row->Prop} (h:ak P g as0 [row] K0 (λ_ _=>False)) (id:Nat) (bW:σ[id]?=some row) (ψ:iG row) (ξ:∀a∈as0,ga 1 a)
  {args:List θ} (mG:args=as0.map (dM [id])) (I:∀a s,K0 a s->∃row',s=[row']/\iG row'/\ga 1 a/\K (dM [id] a) (σ.set id row')):hG P (.fn (.func g) [] []) args σ K E:=by
 subst mG;have aU:=ak.rows (σ:=σ) h [id] (by simp) rfl (λj i ε=>by
  cases j with
  | zero=>simp at ε;subst ε;exact bW
  | succ j=>simp at ε) (λr μ=>by simp at μ;subst μ;exact ψ) (by simpa using ξ) (K':=K) (E':=E) (λa s ag=>by
   obtain⟨row',rfl,fX,μ,χ⟩:=I a s ag;refine⟨λx U=>by simp at U;subst U;exact fX,μ,?_⟩;simpa[names,qd,ie] using χ) (λa s h=>h.elim)
 exact ak.call (first:=[]) (captured:=[]) (by simpa using aU)
end
theorem uf {α:Type} {f:α->θ} {t k:Nat} {l:List α} (h:∀x,∀a∈(f x).cells,au 0 a):iG (.cells t k (l.map f)):=λe he a ξ=>by
 obtain⟨x,_,rfl⟩:=List.mem_map.1 he;exact h x a ξ
theorem ed.part {id k m:Nat} {σ:List Row} {t:TypeId} {l l2:List θ} (bC:σ[id]?=some (.cells t k (l++l2))) (hm:l.length=m) (hb:∀e∈l,∀a∈e.cells,au 0 a):ed 0 σ (.ms id (l++l2).length 0 m) (.sl false k l):=by
 subst hm;refine .ms (Nat.zero_le _) bC rfl (by simp) rfl (λj e aJ J γ=>?_) (λj e aJ J γ x a b1 π Μ=>?_)
 ·have ε:=(b7.1 γ).1;rw[Nat.zero_add,dB ε] at J;rw[J] at γ;cases γ;rfl
 ·have ε:=(b7.1 γ).1;rw[Nat.zero_add,dB ε] at J;rw[J] at γ;cases γ;rw[π] at Μ;cases Μ;exact .low (hb e (ck J) a (ck π))
theorem sQ {α:Type} [Inhabited α] {d:Array α} {i:Nat} (h:i<d.size):d[i]?=some d[i]!:=by simp[h]
def av {α:Type} (cmp:α->α->Int) (x y:α):Bool:=decide (cmp x y<0)
end Go.TL
