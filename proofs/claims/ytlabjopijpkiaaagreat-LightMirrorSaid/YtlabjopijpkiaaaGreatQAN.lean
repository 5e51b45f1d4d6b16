import Derived.Sort.AssemblyPlain
import Derived.Test.YtlabjopijpkiaaaGreatQAM
set_option maxHeartbeats 16000000
set_option maxRecDepth 20000
set_option linter.unusedSectionVars false
set_option linter.unusedSimpArgs false
set_option linter.unusedVariables false
namespace Go.TL
open Go.Proofs
variable [bh]
theorem FA:IntKind.i64.wrap 1=1:=by decide
theorem FB:IntKind.i64.wrap 2=2:=by decide
theorem eK {i n:Nat} (h:i<n) (Ι:n<2 ^ 62):IntKind.i64.wrap ((i:Int)+1)=((i+1:Nat):Int):=by
 rw[IntWalk.i64_in _ (by omega)];rfl
theorem FC (a b:List Int) (κ:a.length<2 ^ 62):an Tryz.prog 30 [bC δ 1 a,bC δ 1 b] (bJ (a==b)):=by
 refine aC.body Μ Tryz.func30 rfl rfl Tryz.ntmps30 rfl rfl (by simp) ?_;(repeat (first|apply μ|(refine ξ λθ I=>?_;simp;(repeat (rw[ε];simp));apply I)));refine W.iter (λp:Nat×Bool=>p.1<=a.length/\(p.2=true->a.length=b.length/\∀j,j<p.1->a[j]?=b[j]?)/\(p.2=false->a≠b)) (λp=>[(0,bC δ 1 a),(1,bC δ 1 b),(5,bJ p.2),(6,δ p.1)]) (λ_=>[]) (λp=>a.length-p.1) (0,decide (a.length=b.length)) ⟨Nat.zero_le _,by simp,by simp;exact λh e=>h (by rw[e])⟩ rfl (by simp) (λi hi Γ=>?_);rcases i with⟨i,_|_⟩
 ·(repeat (first|apply μ|(refine ξ λθ I=>?_;simp;(repeat (rw[ε];simp));apply I)));refine au rfl ?_;refine W.exit rfl ?_;(repeat (first|apply μ|(refine ξ λθ I=>?_;simp;(repeat (rw[ε];simp));apply I)));refine W.ret ⟨_,rfl,?_,rfl⟩;exact .of (by simp[hi.2.2 rfl])
 ·(repeat (first|apply μ|(refine ξ λθ I=>?_;simp;(repeat (rw[ε];simp));apply I)));have Β:=(hi.2.1 rfl).1;refine W.dR rfl (λη=>?_) (λη=>?_)
  ·have η:i<a.length:=by simpa using η
   have a6:i<b.length:=by omega
   (repeat (first|apply μ|(refine ξ λθ I=>?_;simp;(repeat (rw[ε];simp));apply I)));refine W.draw (A:=[]) Μ mixed λθ I=>?_;simp;(repeat (rw[cz];simp[η,a6]));try rw[cy]
   refine⟨cZ (by kernel_rfl),I _ _ ?_⟩;(repeat (first|apply μ|(refine ξ λθ I=>?_;simp;(repeat (rw[ε];simp));apply I)));refine W.forget _ ?_ (Γ (i+1,decide (a[i]=b[i])) ⟨by simp;omega,λh=>⟨Β,λj γ=>?_⟩,λh e=>?_⟩ (by simp;omega))
   ·simp[eK η κ]
   ·by_cases e:j=i
    ·subst e;rw[aX η,aX a6];simpa using h
    ·exact(hi.2.1 rfl).2 j (by simp at γ;omega)
   ·subst e;simp at h
  ·have η:a.length<=i:=by simpa using η
   refine W.exit rfl ?_;(repeat (first|apply μ|(refine ξ λθ I=>?_;simp;(repeat (rw[ε];simp));apply I)));refine W.ret ⟨_,rfl,?_,rfl⟩;refine .of ?_;have:a=b:=List.ext_getElem? λj=>by
    by_cases γ:j<i
    ·exact(hi.2.1 rfl).2 j γ
    ·rw[List.getElem?_eq_none (by omega),List.getElem?_eq_none (by omega)]
   simp[this]
abbrev aL (l:List (List Int)):ζ:=bC (bC δ 1) 1 l
theorem SS (a b:List (List Int)) (κ:a.length<2 ^ 40) (ν:∀x∈a,x.length<2 ^ 40):an Tryz.prog 50 [aL a,aL b] (bJ (a==b)):=by
 refine aC.body Μ Tryz.func50 rfl rfl Tryz.ntmps50 rfl rfl (by simp) ?_;(repeat (first|apply μ|(refine ξ λθ I=>?_;simp;(repeat (rw[ε];simp));apply I)));refine W.iter (λp:Nat×Bool=>p.1<=a.length/\(p.2=true->a.length=b.length/\∀j,j<p.1->a[j]?=b[j]?)/\(p.2=false->a≠b)) (λp=>[(0,aL a),(1,aL b),(5,bJ p.2),(6,δ p.1)]) (λ_=>[]) (λp=>a.length-p.1) (0,decide (a.length=b.length)) ⟨Nat.zero_le _,by simp,by simp;exact λh e=>h (by rw[e])⟩ rfl (by simp) (λi hi Γ=>?_);rcases i with⟨i,_|_⟩
 ·(repeat (first|apply μ|(refine ξ λθ I=>?_;simp;(repeat (rw[ε];simp));apply I)));refine au rfl ?_;refine W.exit rfl ?_;(repeat (first|apply μ|(refine ξ λθ I=>?_;simp;(repeat (rw[ε];simp));apply I)));refine W.ret ⟨_,rfl,?_,rfl⟩;exact .of (by simp[hi.2.2 rfl])
 ·(repeat (first|apply μ|(refine ξ λθ I=>?_;simp;(repeat (rw[ε];simp));apply I)));have Β:=(hi.2.1 rfl).1;refine W.dR rfl (λη=>?_) (λη=>?_)
  ·have η:i<a.length:=by simpa using η
   have a6:i<b.length:=by omega
   (repeat (first|apply μ|(refine ξ λθ I=>?_;simp;(repeat (rw[ε];simp));apply I)));refine W.draw (A:=[]) Μ mixed λθ I=>?_;simp;(repeat (rw[cz];simp[η,a6]));try rw[cy]
   refine iI (an.p (FC a[i] b[i] (by have:=ν _ (List.getElem_mem η);omega)) (aE.refl _) (by simp) (by simp)) ?_;simp;(repeat (rw[cz];simp));try rw[cy]
   refine⟨cZ (by kernel_rfl),I _ _ ?_⟩;(repeat (first|apply μ|(refine ξ λθ I=>?_;simp;(repeat (rw[ε];simp));apply I)));refine W.forget _ ?_ (Γ (i+1,a[i]==b[i]) ⟨by simp;omega,λh=>⟨Β,λj γ=>?_⟩,λh e=>?_⟩ (by simp;omega))
   ·simp[eK η (show a.length<2 ^ 62 by omega)]
   ·by_cases e:j=i
    ·subst e;rw[aX η,aX a6];simpa using h
    ·exact(hi.2.1 rfl).2 j (by simp at γ;omega)
   ·subst e;simp at h
  ·have η:a.length<=i:=by simpa using η
   refine W.exit rfl ?_;(repeat (first|apply μ|(refine ξ λθ I=>?_;simp;(repeat (rw[ε];simp));apply I)));refine W.ret ⟨_,rfl,?_,rfl⟩;refine .of ?_;have:a=b:=List.ext_getElem? λj=>by
    by_cases γ:j<i
    ·exact(hi.2.1 rfl).2 j γ
    ·rw[List.getElem?_eq_none (by omega),List.getElem?_eq_none (by omega)]
   simp[this]
structure gb where
 name:ByteArray
 bR:Int
deriving DecidableEq
structure eS where
 cK:Int
 seen:Int
 bare:Int
deriving DecidableEq
structure a9 where
 Τ:List gb
 ak:List (List Int)
 cells:List (List eS)
deriving DecidableEq
abbrev eb (g:gb):ζ:=.aR [ln g.name,δ g.bR]
abbrev eT (p:eS):ζ:=.aR [δ p.cK,δ p.seen,δ p.bare]
abbrev aJ (l:List gb):ζ:=bC eb 2 l
abbrev ou (l:List eS):ζ:=bC eT 3 l
abbrev bx (l:List (List eS)):ζ:=bC ou 1 l
abbrev e8 (s:a9):ζ:=.aR [aJ s.Τ,aL s.ak,bx s.cells]
def a9.small (s:a9):Prop:=s.Τ.length<2 ^ 30/\s.ak.length<2 ^ 30/\s.cells.length<2 ^ 30/\(∀x∈s.ak,x.length<2 ^ 30)/\∀x∈s.cells,x.length<2 ^ 30
@[simp] theorem cΒ (x y:Int):(x != y) = !decide (x=y):=by rw[Bool.eq_iff_iff];simp
section
variable {P:Program} {m nt:Nat} {k:List Item} {env:Φ} {σ σ':List Row} {Z:List Item->Φ->List Row->Prop} {E:ζ->Φ->List Row->Prop}
theorem W.drop {h:Nat} (hm:m<=h) (aN:h<=σ.length) (mI:∀(id:Nat) (r:Row),id<h->σ[id]?=some r->eJ h r) (kC:σ.take h=σ') (env':Φ) (cq:∀p∈env',aW env p.1=p.2/\az h p.2) (hW:W P m nt k env' σ' Z E):W P m nt k env σ Z E:=
 W.cut h hm env' aN mI (λp χ=>by rw[(cq p χ).1];exact .low (cq p χ).2) (by rw[kC];exact hW)
theorem W.fix {id:Nat} {t:TypeId} {e:ζ} {kk:Nat} (hm:m<=id) (bA:σ[id]?=some (.cells t kk [e])) (he:∀a∈e.cells,az id a) (mI:∀(Bl:Nat) (r:Row),Bl<id->σ[Bl]?=some r->eJ id r) (kC:σ.take id=σ') (env':Φ)
  (cq:∀p∈env',(aW env p.1=p.2/\az id p.2)\/(aW env p.1=.ae id 1 0 0/\p.2=.Ω e.cells)) (hW:W P m nt k env' σ' Z E):W P m nt k env σ Z E:=
 W.cut id hm env' (Nat.le_of_lt (bU.1 bA).1) mI (λp χ=>by
  rcases cq p χ with⟨J,R⟩|⟨J,R⟩
  ·rw[J];exact .low R
  ·rw[J,R];refine .ae (Nat.le_refl _) bA rfl (e:=e) rfl (by simp) λx a b6 Ξ aa=>?_;rw[Nat.zero_add] at Ξ;rw[Ξ] at aa;cases aa;exact .low (he a (cf Ξ))) (by rw[kC];exact hW)
theorem W.to {env':Φ} (h:W P m nt k env' σ' Z E) (kC:σ=σ') (cq:∀p∈env',aW env p.1=p.2):W P m nt k env σ Z E:=kC▸W.forget env' cq h
end
abbrev pJ (a b:Int):Int:=ff .i64 a b
abbrev tO (a b:Int):Int:=u9 .i64 a b
abbrev yh (a b:Int):Int:=po .i64 a b
section
variable {P:Program} {σ:List Row}
theorem ja.c {f:ζ} {args:List ζ} {r:ζ} {K E:ζ->List Row->Prop} (h:ja P f args r) (I:K r σ):ht P f args σ K E:=
 ht.mono (h σ) (λa s ⟨J,R⟩=>by subst J;subst R;exact I) (λ_ _ h=>h.elim)
end
def l' (n:Int):Bool:=decide (0<=n)&&decide (n<=2)
theorem nA (n:Int):an Tryz.prog 93 [δ n] (bJ (l' n)):=by
 refine aC.body Μ Tryz.func93 rfl rfl Tryz.ntmps93 rfl rfl (by simp) ?_;by_cases h:0<=n
 ·(repeat (first|apply μ|(refine ξ λθ I=>?_;simp;(repeat (rw[ε];simp[h]));apply I)));refine W.ret ⟨_,rfl,?_,rfl⟩;exact .of (by simp[l',h])
 ·(repeat (first|apply μ|(refine ξ λθ I=>?_;simp;(repeat (rw[ε];simp[h]));apply I)));refine W.ret ⟨_,rfl,?_,rfl⟩;exact .of (by simp[l',h])
def valid (n:Int):Bool:=decide (0<=n)&&decide (n<=63)
theorem vB (n:Int):an Tryz.prog 109 [δ n] (bJ (valid n)):=by
 refine aC.body Μ Tryz.func109 rfl rfl Tryz.ntmps109 rfl rfl (by simp) ?_;by_cases h:0<=n
 ·(repeat (first|apply μ|(refine ξ λθ I=>?_;simp;(repeat (rw[ε];simp[h]));apply I)));refine W.ret ⟨_,rfl,?_,rfl⟩;exact .of (by simp[valid,h])
 ·(repeat (first|apply μ|(refine ξ λθ I=>?_;simp;(repeat (rw[ε];simp[h]));apply I)));refine W.ret ⟨_,rfl,?_,rfl⟩;exact .of (by simp[valid,h])
theorem Ko (a b:Int):an Tryz.prog 196 [δ a,δ b] (bJ (pJ a b==0)):=by
 refine aC.body Μ Tryz.func196 rfl rfl Tryz.ntmps196 rfl rfl (by simp) ?_;(repeat (first|apply μ|(refine ξ λθ I=>?_;simp;(repeat (rw[ε];simp));apply I)));refine W.ret ⟨_,rfl,?_,rfl⟩;exact .of (by simp)
theorem Kp (a b:Int):an Tryz.prog 210 [δ a,δ b] (bJ (yh a b==0)):=by
 refine aC.body Μ Tryz.func210 rfl rfl Tryz.ntmps210 rfl rfl (by simp) ?_;(repeat (first|apply μ|(refine ξ λθ I=>?_;simp;(repeat (rw[ε];simp));apply I)));refine W.ret ⟨_,rfl,?_,rfl⟩;exact .of (by simp)
theorem FD (b:Bool):an Tryz.prog 127 [bJ b] (δ (if b then 1 else 0)):=by
 refine aC.body Μ Tryz.func127 rfl rfl Tryz.ntmps127 rfl rfl (by simp) ?_;cases b
 ·(repeat (first|apply μ|(refine ξ λθ I=>?_;simp;(repeat (rw[ε];simp));apply I)));refine au rfl ?_;(repeat (first|apply μ|(refine ξ λθ I=>?_;simp;(repeat (rw[ε];simp));apply I)));refine W.ret ⟨_,rfl,?_,rfl⟩;exact .refl _
 ·(repeat (first|apply μ|(refine ξ λθ I=>?_;simp;(repeat (rw[ε];simp));apply I)));refine ax rfl ?_;(repeat (first|apply μ|(refine ξ λθ I=>?_;simp;(repeat (rw[ε];simp));apply I)));refine W.ret ⟨_,rfl,?_,rfl⟩;exact .refl _
theorem FE (n:Int):an Tryz.prog 193 [δ n] (bJ false):=by
 refine aC.body Μ Tryz.func193 rfl rfl Tryz.ntmps193 rfl rfl (by simp) ?_;(repeat (first|apply μ|(refine ξ λθ I=>?_;simp;(repeat (rw[ε];simp));apply I)));refine W.ret ⟨_,rfl,?_,rfl⟩;exact .of (by simp)
def fA (n:Int):Int:=tO (tO (yh n 15) (IntKind.i64.wrap (pJ n 5*2))) ((pJ n 10).fdiv 2)
theorem Kq (n:Int):an Tryz.prog 99 [δ n] (δ (fA n)):=by
 refine aC.body Μ Tryz.func99 rfl rfl Tryz.ntmps99 rfl rfl (by simp) ?_;(repeat (first|apply μ|(refine ξ λθ I=>?_;simp;(repeat (rw[ε];simp));apply I)));refine W.ret ⟨_,rfl,?_,rfl⟩;exact .of (by simp[fA,IntKind.bits])
def idxOf {α:Type} (p:α->Bool) (l:List α):Int:=if l.any p then(l.findIdx p:Nat) else -1
theorem BM {α:Type} {p:α->Bool} {l:List α} {i:Nat} (h:i<l.length) (J:p l[i]=true) (R:∀j,j<i->(γ:j<l.length)->p l[j]=false):idxOf p l=(i:Nat):=by
 have κ:l.any p=true:=List.any_eq_true.2 ⟨_,List.getElem_mem h,J⟩
 have:l.findIdx p=i:=by
  have ς:¬l.findIdx p<i:=λar=>by
   have Β:l.findIdx p<l.length:=by omega
   have:=List.findIdx_getElem (p:=p) (w:=Β);rw[R _ ar Β] at this;cases this
  have Κ:¬i<l.findIdx p:=λar=>by
   have:=List.not_of_lt_findIdx ar;rw[J] at this;simp at this
  omega
 unfold idxOf;rw[if_pos κ,this]
theorem BN {α:Type} {p:α->Bool} {l:List α} (h:∀j,(γ:j<l.length)->p l[j]=false):idxOf p l=-1:=by
 have:l.any p=false:=by
  rw[List.any_eq_false];intro x U;obtain⟨j,γ,rfl⟩:=List.getElem_of_mem U;simp[h j γ]
 unfold idxOf;rw[this];rfl
theorem BO {α:Type} {p:α->Bool} {l:List α}:decide (idxOf p l>=0)=l.any p:=by
 unfold idxOf;cases h:l.any p<;>simp
theorem SU (l:List Int) (n:Int) (Β:l.length<2 ^ 62):an Tryz.prog 137 [bC δ 1 l,δ n] (δ (idxOf (·==n) l)):=by
 refine aC.body Μ Tryz.func137 rfl rfl Tryz.ntmps137 rfl rfl (by simp) ?_;(repeat (first|apply μ|(refine ξ λθ I=>?_;simp;(repeat (rw[ε];simp));apply I)));refine W.iter (λi:Nat=>i<=l.length/\∀j,j<i->(h:j<l.length)->(l[j]==n)=false) (λi=>[(0,bC δ 1 l),(1,δ n),(6,bC δ 1 l),(7,δ l.length),(8,δ i)]) (λ_=>[]) (λi=>l.length-i) 0 ⟨Nat.zero_le _,λj γ=>by omega⟩ rfl (by simp) (λi hi Γ=>?_);(repeat (first|apply μ|(refine ξ λθ I=>?_;simp;(repeat (rw[ε];simp));apply I)));refine W.dR rfl (λη=>?_) (λη=>?_)
 ·have η:i<l.length:=by simpa using η
  (repeat (first|apply μ|(refine ξ λθ I=>?_;simp;(repeat (rw[ε];simp[η]));apply I)));refine W.dR rfl (λa6=>?_) (λa6=>?_)
  ·have Ι:n=l[i]:=by simpa using a6
   (repeat (first|apply μ|(refine ξ λθ I=>?_;simp;(repeat (rw[ε];simp));apply I)));refine W.ret ⟨_,rfl,?_,rfl⟩;exact .of (by rw[BM η (by simp[Ι]) hi.2];rfl)
  ·have Ι:¬n=l[i]:=by simpa using a6
   (repeat (first|apply μ|(refine ξ λθ I=>?_;simp;(repeat (rw[ε];simp));apply I)));refine W.forget _ ?_ (Γ (i+1) ⟨by omega,λj γ h=>?_⟩ (by omega))
   ·simp[eK η Β]
   ·by_cases e:j=i
    ·subst e;simpa using λx=>Ι x.symm
    ·exact hi.2 j (by omega) h
 ·have η:l.length<=i:=by simpa using η
  refine W.exit rfl ?_;(repeat (first|apply μ|(refine ξ λθ I=>?_;simp;(repeat (rw[ε];simp));apply I)));refine W.ret ⟨_,rfl,?_,rfl⟩;exact .of (by rw[BN λj γ=>hi.2 j (by omega) γ];rfl)
theorem any_beq (l:List Int) (n:Int):(l.any λx=>x==n)=l.contains n:=by
 rw[Bool.eq_iff_iff];simp
theorem Kr (l:List Int) (n:Int) (Β:l.length<2 ^ 62):an Tryz.prog 110 [bC δ 1 l,δ n] (bJ (l.contains n)):=by
 refine aC.body Μ Tryz.func110 rfl rfl Tryz.ntmps110 rfl rfl (by simp) ?_;(repeat (first|apply μ|(refine ξ λθ I=>?_;simp;(repeat (rw[ε];simp));apply I)));(repeat apply μ);refine ξ λθ I=>?_;simp;(repeat (rw[ε];simp));refine an.c (SU l n Β) (aE.refl _) (by simp) (by simp) ?_;simp;(repeat (rw[ε];simp));apply I;(repeat (first|apply μ|(refine ξ λθ I=>?_;simp;(repeat (rw[ε];simp));apply I)));refine W.ret ⟨_,rfl,?_,rfl⟩;exact .of (by rw[<-any_beq,<-BO];rfl)
@[simp high] theorem SV {h:Nat} {e:Bool} {k:Nat} {α:Type} {f:α->ζ} {l:List α}:az h (.sl e k (l.map f))↔∀x∈l,∀a∈(f x).cells,az h a:=by
 rw[gH];simp only[List.mem_map];exact⟨λH x U=>H _ ⟨x,U,rfl⟩,λH e ⟨x,U,he⟩=>he▸H x U⟩
@[simp high] theorem cΓ {h:Nat} {e:Bool} {k n:Nat} {α:Type} {f:α->ζ} {l:List α}:az h (.sl e k ((l.map f).take n))↔∀x∈l.take n,∀a∈(f x).cells,az h a:=by
 rw[<-List.map_take];exact SV
abbrev b5 (r:Int×Int):ζ:=.aR [δ r.1,δ r.2]
abbrev lp (l:List (Int×Int)):ζ:=bC b5 2 l
abbrev lq (l:List (List (Int×Int))):ζ:=bC lp 1 l
structure Found where
 u:Int
 v:Int
 cells:List (List (Int×Int))
deriving DecidableEq
abbrev cR (f:Found):ζ:=.aR [δ f.u,δ f.v,lq f.cells]
abbrev cD (l:List Found):ζ:=bC cR 3 l
def a9.of (s:a9) (g:Int):Int:=if g<0 then 0 else((s.Τ[g.toNat]?).map (·.bR)).getD 0
theorem BK (s:a9) (g:Int) (Ο:g<s.Τ.length):an Tryz.prog 125 [e8 s,δ g] (δ (s.of g)):=by
 refine aC.body Μ Tryz.func125 rfl rfl Tryz.ntmps125 rfl rfl (by simp) ?_;(repeat (first|apply μ|(refine ξ λθ I=>?_;simp;(repeat (rw[ε];simp));apply I)));refine W.dR rfl (λη=>?_) (λη=>?_)
 ·have η:g<0:=by simpa using η
  (repeat (first|apply μ|(refine ξ λθ I=>?_;simp;(repeat (rw[ε];simp));apply I)));refine W.ret ⟨_,rfl,?_,rfl⟩;exact .of (by rw[show s.of g=0 by simp[a9.of,η]];rfl)
 ·have η:¬g<0:=by simpa using η
  obtain⟨n,rfl⟩:∃n:Nat,g=n:=⟨g.toNat,by omega⟩;have Ι:n<s.Τ.length:=by omega
  (repeat (first|apply μ|(refine ξ λθ I=>?_;simp;(repeat (rw[ε];simp[Ι]));apply I)));refine W.ret ⟨_,rfl,?_,rfl⟩;exact .of (by rw[show s.of n=s.Τ[n].bR by simp[a9.of,Ι];intro h;omega];rfl)
def a9.hS (s:a9) (p r:Int×Int) (cK:Nat):Int:=
 let l:=(s.ak[cK]?).getD []
 let a:=if l.contains p.1 then tO 0 (s.of r.1) else 0
 if l.contains p.2 then tO a (s.of r.2) else a
theorem yi (s:a9) (ν:s.small) (p r:Int×Int) (n:Nat) (Ι:n<s.ak.length) (J:r.1<s.Τ.length) (R:r.2<s.Τ.length) :
  an Tryz.prog 77 [e8 s,b5 p,b5 r,δ n] (δ (s.hS p r n)):=by
 refine aC.body Μ Tryz.func77 rfl rfl Tryz.ntmps77 rfl rfl (by simp) ?_;have Β:s.ak[n].length<2 ^ 62:=by have:=ν.2.2.2.1 _ (List.getElem_mem Ι);omega
 (repeat (first|apply μ|(refine ξ λθ I=>?_;simp;(repeat (rw[ε];simp));apply I)));refine W.iter (λq:Nat×Int=>q.1<=2/\(q.1=0->q.2=0)/\(q.1=1->q.2=if s.ak[n].contains p.1 then tO 0 (s.of r.1) else 0)/\(q.1=2->q.2=s.hS p r n))
  (λq=>[(3,δ n),(4,.Ω [aJ s.Τ,aL s.ak,bx s.cells]),(5,.Ω [δ p.1,δ p.2]),(6,.Ω [δ r.1,δ r.2]),(9,δ q.2),(12,b5 p),(13,δ q.1)]) (λ_=>[]) (λq=>2-q.1) (0,0) ⟨by omega,by simp,by simp,by simp⟩ rfl (by simp) (λq hi Γ=>?_)
 rcases q with⟨i,x⟩
 match i,hi,Γ with
 | 0,hi,Γ=>
  have U:x=0:=hi.2.1 rfl;subst U;(repeat (first|apply μ|(refine ξ λθ I=>?_;simp;(repeat (rw[ε];simp));apply I)));refine ax rfl ?_;(repeat (first|apply μ|(refine ξ λθ I=>?_;simp;(repeat (rw[ε];simp));apply I)));(repeat apply μ);refine ξ λθ I=>?_;simp;(repeat (rw[ε];simp[Ι]));refine an.c (Kr s.ak[n] p.1 Β) (aE.refl _) (by simp) (by simp) ?_;simp;(repeat (rw[ε];simp));apply I;by_cases η:p.1∈s.ak[n]
  ·refine ax (by simp[η]) ?_;(repeat (first|apply μ|(refine ξ λθ I=>?_;simp;(repeat (rw[ε];simp));apply I)));refine W.draw (A:=[]) Μ mixed λθ I=>?_;simp;(repeat (rw[cz];simp));try rw[cy]
   refine iI (an.p (BK s r.1 J) (aE.refl _) (by simp) (by simp)) ?_;simp;(repeat (rw[cz];simp));try rw[cy]
   refine⟨cZ (by kernel_rfl),I _ _ ?_⟩;(repeat (first|apply μ|(refine ξ λθ I=>?_;simp;(repeat (rw[ε];simp));apply I)));refine W.forget _ ?_ (Γ (1,tO 0 (s.of r.1)) ⟨by simp,by simp,by simp[η],by simp⟩ (by simp));simp[FA]
  ·refine au (by simp[η]) ?_;(repeat (first|apply μ|(refine ξ λθ I=>?_;simp;(repeat (rw[ε];simp));apply I)));refine W.forget _ ?_ (Γ (1,0) ⟨by simp,by simp,by simp[η],by simp⟩ (by simp));simp[FA]
 | 1,hi,Γ=>
  have U:=hi.2.2.1 rfl;simp at U;(repeat (first|apply μ|(refine ξ λθ I=>?_;simp;(repeat (rw[ε];simp));apply I)));refine ax rfl ?_;(repeat (first|apply μ|(refine ξ λθ I=>?_;simp;(repeat (rw[ε];simp));apply I)));(repeat apply μ);refine ξ λθ I=>?_;simp;(repeat (rw[ε];simp[Ι]));refine an.c (Kr s.ak[n] p.2 Β) (aE.refl _) (by simp) (by simp) ?_;simp;(repeat (rw[ε];simp));apply I;by_cases η:p.2∈s.ak[n]
  ·refine ax (by simp[η]) ?_;(repeat (first|apply μ|(refine ξ λθ I=>?_;simp;(repeat (rw[ε];simp));apply I)));refine W.draw (A:=[]) Μ mixed λθ I=>?_;simp;(repeat (rw[cz];simp));try rw[cy]
   refine iI (an.p (BK s r.2 R) (aE.refl _) (by simp) (by simp)) ?_;simp;(repeat (rw[cz];simp));try rw[cy]
   refine⟨cZ (by kernel_rfl),I _ _ ?_⟩;(repeat (first|apply μ|(refine ξ λθ I=>?_;simp;(repeat (rw[ε];simp));apply I)));refine W.forget _ ?_ (Γ (2,tO x (s.of r.2)) ⟨by simp,by simp,by simp,λ_=>by simp only[a9.hS,aX Ι];simp[η,U]⟩ (by simp));simp[FB]
  ·refine au (by simp[η]) ?_;(repeat (first|apply μ|(refine ξ λθ I=>?_;simp;(repeat (rw[ε];simp));apply I)));refine W.forget _ ?_ (Γ (2,x) ⟨by simp,by simp,by simp,λ_=>by simp only[a9.hS,aX Ι];simp[η,U]⟩ (by simp));simp[FB]
 | 2,hi,Γ=>
  have U:=hi.2.2.2 rfl;(repeat (first|apply μ|(refine ξ λθ I=>?_;simp;(repeat (rw[ε];simp));apply I)));refine au rfl ?_;refine W.exit rfl ?_;(repeat (first|apply μ|(refine ξ λθ I=>?_;simp;(repeat (rw[ε];simp));apply I)));refine W.ret ⟨_,rfl,?_,rfl⟩;exact .of (by rw[<-show x=s.hS p r n from U];rfl)
 | i+3,hi,Γ=>exact absurd hi.1 (by simp)
def a9.rZ (s:a9) (p r:Int×Int) (x:eS):Bool:=yh x.seen (s.hS p r x.cK.toNat)==0&&pJ (s.hS p r x.cK.toNat) x.bare==0
def a9.vC (s:a9) (p r:Int×Int) (c:Nat):Bool:=((s.cells[c]?).getD []).all (s.rZ p r)
theorem SW (s:a9) (ν:s.small) (p r:Int×Int) (c:Nat) (Ι:c<s.cells.length) (hv:∀x∈s.cells[c],0<=x.cK/\x.cK<s.ak.length) (J:r.1<s.Τ.length) (R:r.2<s.Τ.length) :
  an Tryz.prog 172 [e8 s,b5 p,b5 r,δ c] (bJ (s.vC p r c)):=by
 refine aC.body Μ Tryz.func172 rfl rfl Tryz.ntmps172 rfl rfl (by simp) ?_;have Β:s.cells[c].length<2 ^ 62:=by have:=ν.2.2.2.2 _ (List.getElem_mem Ι);omega
 have fr:s.vC p r c=s.cells[c].all (s.rZ p r):=by simp[a9.vC,Ι]
 rw[fr];(repeat (first|apply μ|(refine ξ λθ I=>?_;simp;(repeat (rw[ε];simp[Ι]));apply I)));refine W.iter (λi:Nat=>i<=s.cells[c].length/\∀j,j<i->(h:j<s.cells[c].length)->s.rZ p r s.cells[c][j]=true)
  (λi=>[(4,.Ω [aJ s.Τ,aL s.ak,bx s.cells]),(5,.Ω [δ p.1,δ p.2]),(6,.Ω [δ r.1,δ r.2]),(17,ou s.cells[c]),(18,δ s.cells[c].length),(19,δ i)]) (λ_=>[]) (λi=>s.cells[c].length-i) 0 ⟨by omega,λj γ=>by omega⟩ rfl (by simp) (λi hi Γ=>?_)
 (repeat (first|apply μ|(refine ξ λθ I=>?_;simp;(repeat (rw[ε];simp));apply I)));refine W.dR rfl (λη=>?_) (λη=>?_)
 ·have η:i<s.cells[c].length:=by simpa using η
  have U:=hv _ (List.getElem_mem η);obtain⟨n,qW⟩:∃n:Nat,s.cells[c][i].cK=n:=⟨s.cells[c][i].cK.toNat,by omega⟩;have my:n<s.ak.length:=by omega
  have a8:s.rZ p r s.cells[c][i]=(yh s.cells[c][i].seen (s.hS p r n)==0&&pJ (s.hS p r n) s.cells[c][i].bare==0):=by simp[a9.rZ,qW]
  repeat apply μ
  refine dy (A:=[10]) Μ λθ I=>?_;simp;(repeat (rw[ε];simp[η]));apply I
  repeat apply μ
  (repeat apply μ);refine ξ λθ I=>?_;simp;(repeat (rw[ε];simp[qW]));refine an.c (yi s ν p r n my J R) (aE.refl _) (by simp) (by simp) ?_;simp;(repeat (rw[ε];simp));apply I
  repeat apply μ
  by_cases Ξ:yh s.cells[c][i].seen (s.hS p r n)=0
  ·(repeat apply μ);refine ξ λθ I=>?_;simp;(repeat (rw[ε];simp[Ξ]));refine an.c (Kp s.cells[c][i].seen (s.hS p r n)) (aE.refl _) (by simp) (by simp) ?_;simp[Ξ];(repeat (rw[ε];simp[Ξ]));refine an.c (Ko (s.hS p r n) s.cells[c][i].bare) (aE.refl _) (by simp) (by simp) ?_;simp;(repeat (rw[ε];simp));apply I;by_cases aa:pJ (s.hS p r n) s.cells[c][i].bare=0
   ·refine au (by simp[aa]) ?_;(repeat (first|apply μ|(refine ξ λθ I=>?_;simp;(repeat (rw[ε];simp));apply I)));refine W.drop (h:=0) (Nat.zero_le _) (Nat.zero_le _) (by simp) rfl _ ?_ (Γ (i+1) ⟨by omega,λj γ h=>?_⟩ (by omega))
    ·simp[eK η Β]
    ·by_cases e:j=i
     ·subst e;rw[a8];simp[Ξ,aa]
     ·exact hi.2 j (by omega) h
   ·refine ax (by simp[aa]) ?_;(repeat (first|apply μ|(refine ξ λθ I=>?_;simp;(repeat (rw[ε];simp));apply I)));refine W.drop (h:=0) (Nat.zero_le _) (Nat.zero_le _) (by simp) rfl [(8,bJ false)] (by simp) ?_;refine W.ret ⟨_,rfl,?_,rfl⟩;exact .of (by rw[show s.cells[c].all (s.rZ p r)=false from List.all_eq_false.2 ⟨_,List.getElem_mem η,by rw[a8];simp[aa]⟩];rfl)
  ·(repeat apply μ);refine ξ λθ I=>?_;simp;(repeat (rw[ε];simp[Ξ]));refine an.c (Kp s.cells[c][i].seen (s.hS p r n)) (aE.refl _) (by simp) (by simp) ?_;simp[Ξ];(repeat (rw[ε];simp[Ξ]));apply I;refine ax (by simp) ?_;(repeat (first|apply μ|(refine ξ λθ I=>?_;simp;(repeat (rw[ε];simp));apply I)));refine W.drop (h:=0) (Nat.zero_le _) (Nat.zero_le _) (by simp) rfl [(8,bJ false)] (by simp) ?_;refine W.ret ⟨_,rfl,?_,rfl⟩;exact .of (by rw[show s.cells[c].all (s.rZ p r)=false from List.all_eq_false.2 ⟨_,List.getElem_mem η,by rw[a8];simp[Ξ]⟩];rfl)
 ·have η:s.cells[c].length<=i:=by simpa using η
  refine W.exit rfl ?_;(repeat (first|apply μ|(refine ξ λθ I=>?_;simp;(repeat (rw[ε];simp));apply I)));refine W.ret ⟨_,rfl,?_,rfl⟩;refine .of ?_;rw[show s.cells[c].all (s.rZ p r)=true from List.all_eq_true.2 λx U=>by
   obtain⟨j,γ,rfl⟩:=List.getElem_of_mem U;exact hi.2 j (by omega) γ]
  rfl
def lr (l:List (List (Int×Int))) (ib:Int) (i:Nat):Nat:=((List.range i).map λj:Nat=>if(j:Int)=ib then 1 else((l[j]?).getD []).length).prod
theorem Ks (l:List (List (Int×Int))) (ib:Int) (i:Nat):lr l ib (i+1)=lr l ib i*(if(i:Int)=ib then 1 else((l[i]?).getD []).length):=by
 unfold lr;rw[List.range_succ,List.map_append,List.prod_append];simp
def Found.many (f:Found) (ib:Int):Nat:=lr f.cells ib f.cells.length
theorem fI {n:Nat} (h:n<2 ^ 62):IntKind.i64.wrap (n:Int)=n:=IntWalk.i64_in _ (by omega)
theorem BP (f:Found) (ib:Int) (Β:f.cells.length<2 ^ 62) (hm:∀i,i<=f.cells.length->lr f.cells ib i<2 ^ 62) :
  an Tryz.prog 78 [cR f,δ ib] (δ (f.many ib)):=by
 refine aC.body Μ Tryz.func78 rfl rfl Tryz.ntmps78 rfl rfl (by simp) ?_;(repeat (first|apply μ|(refine ξ λθ I=>?_;simp;(repeat (rw[ε];simp));apply I)));refine W.iter (λi:Nat=>i<=f.cells.length) (λi=>[(1,δ ib),(5,δ (lr f.cells ib i)),(9,lq f.cells),(10,δ f.cells.length),(11,δ i)]) (λ_=>[]) (λi=>f.cells.length-i) 0 (Nat.zero_le _) rfl (by simp[lr]) (λi hi Γ=>?_);(repeat (first|apply μ|(refine ξ λθ I=>?_;simp;(repeat (rw[ε];simp));apply I)));refine W.dR rfl (λη=>?_) (λη=>?_)
 ·have η:i<f.cells.length:=by simpa using η
  have ν:=Ks f.cells ib i
  have ar:=hm (i+1) η;(repeat (first|apply μ|(refine ξ λθ I=>?_;simp;(repeat (rw[ε];simp[η]));apply I)));by_cases g:(i:Int)=ib
  ·refine au (by simp[g]) ?_;(repeat (first|apply μ|(refine ξ λθ I=>?_;simp;(repeat (rw[ε];simp));apply I)));refine W.forget _ ?_ (Γ (i+1) η (by omega));rw[ν,if_pos g];simp[eK η Β]
  ·refine ax (by simp[g]) ?_;have hv:lr f.cells ib i*f.cells[i].length<2 ^ 62:=by rw[ν,if_neg g] at ar;simpa[η] using ar
   (repeat (first|apply μ|(refine ξ λθ I=>?_;simp;(repeat (rw[ε];simp[η]));apply I)));refine W.forget _ ?_ (Γ (i+1) η (by omega));rw[ν,if_neg g];simp only[aX η,Option.getD_some];have:=fI hv;simp[eK η Β] at this ⊢;simp[this]
 ·have η:i=f.cells.length:=by simp at η;omega
  subst η;refine W.exit rfl ?_;(repeat (first|apply μ|(refine ξ λθ I=>?_;simp;(repeat (rw[ε];simp));apply I)));refine W.ret ⟨_,rfl,?_,rfl⟩;exact .of rfl
def nB (a b:Int):Int:=if a<b then -1 else if b<a then 1 else 0
theorem SX (a b:Int):an Tryz.prog 151 [δ a,δ b] (δ (nB a b)):=by
 refine aC.body Μ Tryz.func151 rfl rfl Tryz.ntmps151 rfl rfl (by simp) ?_;(repeat (first|apply μ|(refine ξ λθ I=>?_;simp;(repeat (rw[ε];simp));apply I)));(repeat apply μ);refine ξ λθ I=>?_;simp;(repeat (rw[ε];simp));refine an.c (FE a) (aE.refl _) (by simp) (by simp) ?_;simp;(repeat (rw[ε];simp));apply I;(repeat apply μ);refine ξ λθ I=>?_;simp;(repeat (rw[ε];simp));refine an.c (FE b) (aE.refl _) (by simp) (by simp) ?_;simp;(repeat (rw[ε];simp));apply I;(repeat (first|apply μ|(refine ξ λθ I=>?_;simp;(repeat (rw[ε];simp));apply I)));refine au rfl ?_;(repeat (first|apply μ|(refine ξ λθ I=>?_;simp;(repeat (rw[ε];simp));apply I)));refine au rfl ?_;(repeat (first|apply μ|(refine ξ λθ I=>?_;simp;(repeat (rw[ε];simp));apply I)));refine W.dR rfl (λη=>?_) (λη=>?_)
 ·have η:a<b:=by simpa using η
  (repeat (first|apply μ|(refine ξ λθ I=>?_;simp;(repeat (rw[ε];simp));apply I)));refine W.ret ⟨_,rfl,?_,rfl⟩;exact .of (by rw[show nB a b=-1 by simp[nB,η]];rfl)
 ·have η:¬a<b:=by simpa using η
  (repeat (first|apply μ|(refine ξ λθ I=>?_;simp;(repeat (rw[ε];simp));apply I)));refine W.dR rfl (λa6=>?_) (λa6=>?_)
  ·have a6:b<a:=by simpa using a6
   (repeat (first|apply μ|(refine ξ λθ I=>?_;simp;(repeat (rw[ε];simp));apply I)));refine W.ret ⟨_,rfl,?_,rfl⟩;exact .of (by rw[show nB a b=1 by simp[nB,η,a6]];rfl)
  ·have a6:¬b<a:=by simpa using a6
   (repeat (first|apply μ|(refine ξ λθ I=>?_;simp;(repeat (rw[ε];simp));apply I)));refine W.ret ⟨_,rfl,?_,rfl⟩;exact .of (by rw[show nB a b=0 by simp[nB,η,a6]];rfl)
theorem SY (a b:Int):an Tryz.prog 203 [δ a,δ b] (bJ (decide (a<b))):=by
 refine aC.body Μ Tryz.func203 rfl rfl Tryz.ntmps203 rfl rfl (by simp) ?_;(repeat (first|apply μ|(refine ξ λθ I=>?_;simp;(repeat (rw[ε];simp));apply I)));(repeat apply μ);refine ξ λθ I=>?_;simp;(repeat (rw[ε];simp));refine an.c (FE a) (aE.refl _) (by simp) (by simp) ?_;simp;(repeat (rw[ε];simp));apply I;(repeat (first|apply μ|(refine ξ λθ I=>?_;simp;(repeat (rw[ε];simp));apply I)));refine W.ret ⟨_,rfl,?_,rfl⟩;exact .of (by rw[show decide (a<b)=decide (a<b) from rfl];rfl)
def nC:List Int->List Int->Int
 | [],[]=>0
 | [],_::_=>-1
 | _::_,[]=>1
 | a::l,b::m=>if nB a b≠0 then nB a b else nC l m
theorem Kt (a b:List Int) (κ:a.length<2 ^ 62):an Tryz.prog 118 [bC δ 1 a,bC δ 1 b] (δ (nC a b)):=by
 refine aC.body Μ Tryz.func118 rfl rfl Tryz.ntmps118 rfl rfl (by simp) ?_;(repeat (first|apply μ|(refine ξ λθ I=>?_;simp;(repeat (rw[ε];simp));apply I)));refine W.iter (λi:Nat=>i<=a.length/\i<=b.length/\nC a b=nC (a.drop i) (b.drop i)) (λi=>[(0,bC δ 1 a),(1,bC δ 1 b),(9,bC δ 1 a),(10,δ a.length),(11,δ i)]) (λ_=>[]) (λi=>a.length-i) 0 ⟨by omega,by omega,by simp⟩ rfl (by simp) (λi hi Γ=>?_);obtain⟨J,R,ς⟩:=hi;(repeat (first|apply μ|(refine ξ λθ I=>?_;simp;(repeat (rw[ε];simp));apply I)));refine W.dR rfl (λη=>?_) (λη=>?_)
 ·have η:i<a.length:=by simpa using η
  have jX:a.drop i=a[i]::a.drop (i+1):=List.drop_eq_getElem_cons η;(repeat (first|apply μ|(refine ξ λθ I=>?_;simp;(repeat (rw[ε];simp[η]));apply I)));refine W.dR rfl (λa6=>?_) (λa6=>?_)
  ·have a6:b.length<=i:=by simp at a6;omega
   (repeat (first|apply μ|(refine ξ λθ I=>?_;simp;(repeat (rw[ε];simp));apply I)));have hM:b.drop i=[]:=List.drop_eq_nil_of_le a6;refine W.ret ⟨_,rfl,?_,rfl⟩;exact .of (by rw[show nC a b=1 by rw[ς,jX,hM];rfl];rfl)
  ·have a6:i<b.length:=by simp at a6;omega
   have hM:b.drop i=b[i]::b.drop (i+1):=List.drop_eq_getElem_cons a6
   repeat apply μ
   refine ξ λθ I=>?_;simp;(repeat (rw[ε];simp[a6]));apply I;(repeat apply μ);refine ξ λθ I=>?_;simp;(repeat (rw[ε];simp));refine an.c (SX a[i] b[i]) (aE.refl _) (by simp) (by simp) ?_;simp;(repeat (rw[ε];simp));apply I;(repeat (first|apply μ|(refine ξ λθ I=>?_;simp;(repeat (rw[ε];simp));apply I)));by_cases g:nB a[i] b[i]=0
   ·refine au (by simp[g]) ?_;(repeat (first|apply μ|(refine ξ λθ I=>?_;simp;(repeat (rw[ε];simp));apply I)));refine W.forget _ ?_ (Γ (i+1) ⟨η,a6,?_⟩ (by omega))
    ·simp[eK η κ]
    ·rw[ς,jX,hM,nC,if_neg (by simpa using g)]
   ·refine ax (by simp[g]) ?_;(repeat (first|apply μ|(refine ξ λθ I=>?_;simp;(repeat (rw[ε];simp));apply I)));refine W.ret ⟨_,rfl,?_,rfl⟩;exact .of (by rw[show nC a b=nB a[i] b[i] by rw[ς,jX,hM,nC,if_pos g]];rfl)
 ·have η:i=a.length:=by simp at η;omega
  have jX:a.drop i=[]:=List.drop_eq_nil_of_le (by omega);refine W.exit rfl ?_;(repeat (first|apply μ|(refine ξ λθ I=>?_;simp;(repeat (rw[ε];simp));apply I)));by_cases g:a.length<b.length
  ·refine ax (by simp[g]) ?_;(repeat (first|apply μ|(refine ξ λθ I=>?_;simp;(repeat (rw[ε];simp));apply I)));have hM:b.drop i=b[i]::b.drop (i+1):=List.drop_eq_getElem_cons (by omega);refine W.ret ⟨_,rfl,?_,rfl⟩;exact .of (by rw[show nC a b=-1 by rw[ς,jX,hM];rfl];rfl)
  ·refine au (by simp[g]) ?_;(repeat (first|apply μ|(refine ξ λθ I=>?_;simp;(repeat (rw[ε];simp));apply I)));have hM:b.drop i=[]:=List.drop_eq_nil_of_le (by omega);refine W.ret ⟨_,rfl,?_,rfl⟩;exact .of (by rw[show nC a b=0 by rw[ς,jX,hM];rfl];rfl)
def ov (x y:Int×Int):Int:=nC [x.1,x.2] [y.1,y.2]
theorem SZ (x y:Int×Int):an Tryz.prog 174 [b5 x,b5 y] (δ (ov x y)):=by
 refine aC.body Μ Tryz.func174 rfl rfl Tryz.ntmps174 rfl rfl (by simp) ?_;(repeat (first|apply μ|(refine ξ λθ I=>?_;simp;(repeat (rw[ε];simp));apply I)));refine W.draw (A:=[]) Μ mixed λθ I=>?_;simp;(repeat (rw[cz];simp));try rw[cy]
 refine iI (an.p (Kt [x.1,x.2] [y.1,y.2] (by simp)) (.cons .ex (.cons .ex .nil)) (by simp) (by simp)) ?_;simp;(repeat (rw[cz];simp));try rw[cy]
 refine⟨cZ (by kernel_rfl),I _ _ ?_⟩;(repeat (first|apply μ|(refine ξ λθ I=>?_;simp;(repeat (rw[ε];simp));apply I)));refine W.ret ⟨_,rfl,?_,rfl⟩;exact .of rfl
theorem S0 (x y:Found):an Tryz.prog 148 [cR x,cR y] (δ (ov (x.u,x.v) (y.u,y.v))):=by
 refine aC.body Μ Tryz.func148 rfl rfl Tryz.ntmps148 rfl rfl (by simp) ?_;(repeat (first|apply μ|(refine ξ λθ I=>?_;simp;(repeat (rw[ε];simp));apply I)));refine W.draw (A:=[]) Μ mixed λθ I=>?_;simp;(repeat (rw[cz];simp));try rw[cy]
 refine iI (an.p (Kt [x.u,x.v] [y.u,y.v] (by simp)) (.cons .ex (.cons .ex .nil)) (by simp) (by simp)) ?_;simp;(repeat (rw[cz];simp));try rw[cy]
 refine⟨cZ (by kernel_rfl),I _ _ ?_⟩;(repeat (first|apply μ|(refine ξ λθ I=>?_;simp;(repeat (rw[ε];simp));apply I)));refine W.ret ⟨_,rfl,?_,rfl⟩;exact .of rfl
def jx (l:List Found):Nat:=(l.map (·.many (-1))).sum
theorem S1 (l:List Found) (Β:l.length<2 ^ 62) (J:∀f∈l,f.cells.length<2 ^ 62/\∀i,i<=f.cells.length->lr f.cells (-1) i<2 ^ 62) (R:jx l<2 ^ 62) :
  an Tryz.prog 79 [cD l] (δ (jx l)):=by
 refine aC.body Μ Tryz.func79 rfl rfl Tryz.ntmps79 rfl rfl (by simp) ?_;(repeat (first|apply μ|(refine ξ λθ I=>?_;simp;(repeat (rw[ε];simp));apply I)));refine W.iter (λi:Nat=>i<=l.length) (λi=>[(3,δ (jx (l.take i))),(6,cD l),(7,δ l.length),(8,δ i)]) (λ_=>[]) (λi=>l.length-i) 0 (Nat.zero_le _) rfl (by simp[jx]) (λi hi Γ=>?_);(repeat (first|apply μ|(refine ξ λθ I=>?_;simp;(repeat (rw[ε];simp));apply I)));refine W.dR rfl (λη=>?_) (λη=>?_)
 ·have η:i<l.length:=by simpa using η
  obtain⟨Ξ,aa⟩:=J _ (List.getElem_mem η);have ν:jx (l.take (i+1))=jx (l.take i)+l[i].many (-1):=by
   unfold jx;rw[List.take_succ_eq_append_getElem η,List.map_append,List.sum_append];simp only[List.map_cons,List.map_nil,List.sum_cons,List.sum_nil,Nat.add_zero]
  have ar:jx (l.take i)+l[i].many (-1)<2 ^ 62:=by
   rw[<-ν];have e:jx l=jx (l.take (i+1))+jx (l.drop (i+1)):=by
    conv=>lhs;rw[<-List.take_append_drop (i+1) l]
    simp only[jx,List.map_append,List.sum_append]
   omega
  repeat apply μ
  refine dy (A:=[5]) Μ λθ I=>?_;simp;(repeat (rw[ε];simp[η]));apply I;(repeat apply μ);refine ξ λθ I=>?_;simp;(repeat (rw[ε];simp));refine an.c (BP l[i] (-1) Ξ aa) (aE.refl _) (by simp) (by simp) ?_;simp;(repeat (rw[ε];simp));apply I;(repeat (first|apply μ|(refine ξ λθ I=>?_;simp;(repeat (rw[ε];simp));apply I)));refine W.drop (h:=0) (Nat.zero_le _) (Nat.zero_le _) (by simp) rfl _ ?_ (Γ (i+1) η (by omega));rw[ν];have:=fI ar;simp[eK η Β] at this ⊢;exact this
 ·have η:i=l.length:=by simp at η;omega
  subst η;refine W.exit rfl ?_;(repeat (first|apply μ|(refine ξ λθ I=>?_;simp;(repeat (rw[ε];simp));apply I)));refine W.ret ⟨_,rfl,?_,rfl⟩;exact .of (by rw[show jx l=jx (l.take l.length) by simp];rfl)
theorem az.hy {a:ζ} (h:az 0 a) (ρ:List Nat):hy ρ a=a:=by
 cases h with
 | ae h=>omega
 | ms h=>omega
 | mp h=>omega
 | it h=>omega
 | _=>rfl
theorem BQ {l:List ζ} (h:∀a∈l,az 0 a) (ρ:List Nat):l.map (hy ρ)=l:=by
 induction l with
 | nil=>rfl
 | cons a l Γ=>rw[List.map_cons,(h a (by simp)).hy,Γ λx U=>h x (by simp[U])]
theorem az.dP {a:ζ} (h:az 0 a) (ρ:List Nat):dP ρ a=a:=by
 have af:=h;cases h with
 | aR h=>simp only[Go.TL.dP];rw[BQ h]
 | bn h=>simp only[Go.TL.dP];rw[BQ h]
 | fn J R=>simp only[Go.TL.dP];rw[BQ J,BQ R]
 | _=>exact af.hy ρ
theorem az.top {a:ζ} (h:az 0 a) (n:Nat):pH n a:=by
 have af:=h;cases h with
 | ae h=>omega
 | ms h=>omega
 | mp h=>omega
 | it h=>omega
 | _=>exact af
theorem az.hT {a:ζ} (h:az 0 a) (n:Nat):fH n a:=by
 have af:=h;cases h with
 | aR h=>exact λa κ=>(h a κ).top n
 | bn h=>exact λa κ=>(h a κ).top n
 | fn J R=>exact⟨λa κ=>(J a κ).top n,λa κ=>(R a κ).top n⟩
 | _=>exact af.top n
theorem mM {h id n i len:Nat}:fH h (.ms id n i len)↔id<h:=Iff.rfl
theorem tP {h:Nat} {v:Value}:fH h (.z v)↔True:=⟨λ_=>trivial,λ_=>(az.z v).hT h⟩
theorem mN {ρ:List Nat} {id n i len:Nat}:dP ρ (.ms id n i len)=.ms (ρ.getD id 0) n i len:=rfl
theorem mO {ρ:List Nat} {v:Value}:dP ρ (.z v)=.z v:=rfl
section
variable {P:Program} {σ:List Row}
theorem aC.one {g:FuncId} {as0:List ζ} {row row':Row} {r:ζ} {K E:ζ->List Row->Prop} (h:aC P g as0 [row] (λa s=>a=r/\s=[row']) (λ_ _=>False)) (id:Nat) (bS:σ[id]?=some row) (χ:iJ row) (hl:iJ row') (κ:∀a∈as0,fH 1 a) (ι:fH 1 r)
  {args:List ζ} (lh:args=as0.map (dP [id])) (I:K (dP [id] r) (σ.set id row')):ht P (.fn (.func g) [] []) args σ K E:=by
 subst lh;have aN:=aC.rows (σ:=σ) h [id] (by simp) rfl (λj i γ=>by
  cases j with
  | zero=>simp at γ;subst γ;exact bS
  | succ j=>simp at γ) (λr ι=>by simp at ι;subst ι;exact χ) (by simpa using κ) (K':=K) (E':=E) (λa s ⟨J,R⟩=>by
   subst J;subst R;refine⟨λx U=>by simp at U;subst U;exact hl,ι,?_⟩;simpa[names,qV,hQ] using I) (λa s h=>h.elim)
 exact aC.call (first:=[]) (captured:=[]) (by simpa using aN)
end
section
variable {P:Program} {σ:List Row}
theorem aC.FF {g:FuncId} {as0:List ζ} {row:Row} {K0 K E:ζ->List Row->Prop} (h:aC P g as0 [row] K0 (λ_ _=>False)) (id:Nat) (bS:σ[id]?=some row) (χ:iJ row) (κ:∀a∈as0,fH 1 a)
  {args:List ζ} (lh:args=as0.map (dP [id])) (I:∀a s,K0 a s->∃row',s=[row']/\iJ row'/\fH 1 a/\K (dP [id] a) (σ.set id row')):ht P (.fn (.func g) [] []) args σ K E:=by
 subst lh;have aN:=aC.rows (σ:=σ) h [id] (by simp) rfl (λj i γ=>by
  cases j with
  | zero=>simp at γ;subst γ;exact bS
  | succ j=>simp at γ) (λr ι=>by simp at ι;subst ι;exact χ) (by simpa using κ) (K':=K) (E':=E) (λa s af=>by
   obtain⟨row',rfl,hl,ι,Α⟩:=I a s af;refine⟨λx U=>by simp at U;subst U;exact hl,ι,?_⟩;simpa[names,qV,hQ] using Α) (λa s h=>h.elim)
 exact aC.call (first:=[]) (captured:=[]) (by simpa using aN)
end
theorem tQ {α:Type} {f:α->ζ} {t k:Nat} {l:List α} (h:∀x,∀a∈(f x).cells,az 0 a):iJ (.cells t k (l.map f)):=λe he a κ=>by
 obtain⟨x,_,rfl⟩:=List.mem_map.1 he;exact h x a κ
theorem et.part {id k m:Nat} {σ:List Row} {t:TypeId} {l l2:List ζ} (bA:σ[id]?=some (.cells t k (l++l2))) (hm:l.length=m) (hb:∀e∈l,∀a∈e.cells,az 0 a):et 0 σ (.ms id (l++l2).length 0 m) (.sl false k l):=by
 subst hm;refine .ms (Nat.zero_le _) bA rfl (by simp) rfl (λj e aA J R=>?_) (λj e aA J R x a b6 ς Κ=>?_)
 ·have γ:=(bU.1 R).1;rw[Nat.zero_add,dW γ] at J;rw[J] at R;cases R;rfl
 ·have γ:=(bU.1 R).1;rw[Nat.zero_add,dW γ] at J;rw[J] at R;cases R;rw[ς] at Κ;cases Κ;exact .low (hb e (cf J) a (cf ς))
theorem vD {α:Type} [Inhabited α] {d:Array α} {i:Nat} (h:i<d.size):d[i]?=some d[i]!:=by simp[h]
def dt {α:Type} (cmp:α->α->Int) (x y:α):Bool:=decide (cmp x y<0)
end Go.TL
