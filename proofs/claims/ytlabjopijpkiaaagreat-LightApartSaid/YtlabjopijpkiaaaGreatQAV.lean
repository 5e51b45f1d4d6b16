import Derived.Test.YtlabjopijpkiaaaGreatQAU
set_option maxHeartbeats 16000000
set_option maxRecDepth 20000
set_option linter.unusedSectionVars false
set_option linter.unusedSimpArgs false
set_option linter.unusedVariables false
namespace Go.TL
open Go.Proofs
variable [bd]
theorem CK:IntKind.i64.wrap 1=1:=by decide
theorem GF:IntKind.i64.wrap 2=2:=by decide
theorem eD {i n:Nat} (h:i<n) (Η:n<2 ^ 62):IntKind.i64.wrap ((i:Int)+1)=((i+1:Nat):Int):=by
 rw[IntWalk.i64_in _ (by omega)];rfl
theorem GG {α:Type} (f:α→θ) (z:θ) (l:List α) {i:Nat} (h:i<l.length) (cP:i<(fill f z l i).length):(fill f z l i)[i]=z:=by
 have:=Ut f z l h;rw[bc cP] at this;exact Option.some.inj this
theorem GH (a b:List Int) (μ:a.length<2 ^ 62):av Tryz.prog 30 [a3 U 1 a,a3 U 1 b] (bm (a==b)):=by
 refine ak.body Θ Tryz.func30 rfl rfl Tryz.ntmps30 rfl rfl (by simp) ?_;(repeat (first|apply ι|(refine ν fun J I=>?_;simp;(repeat (rw[ζ];simp));apply I;clear I J)));refine W.iter (fun p:Nat×Bool=>p.1≤a.length∧(p.2=true→a.length=b.length∧∀j,j<p.1→a[j]?=b[j]?)∧(p.2=false→a≠b)) (fun p=>[(0,a3 U 1 a),(1,a3 U 1 b),(5,bm p.2),(6,U p.1)]) (fun _=>[]) (fun p=>a.length-p.1) (0,decide (a.length=b.length)) ⟨Nat.zero_le _,by simp,by simp;exact fun h e=>h (by rw[e])⟩ rfl (by simp) (fun i hi Γ=>?_);rcases i with⟨i,_|_⟩
 ·(repeat (first|apply ι|(refine ν fun J I=>?_;simp;(repeat (rw[ζ];simp));apply I;clear I J)));refine ah rfl ?_;refine W.exit rfl ?_;(repeat (first|apply ι|(refine ν fun J I=>?_;simp;(repeat (rw[ζ];simp));apply I;clear I J)));refine W.ret ⟨_,rfl,?_,rfl⟩;exact .of (by simp[hi.2.2 rfl])
 ·(repeat (first|apply ι|(refine ν fun J I=>?_;simp;(repeat (rw[ζ];simp));apply I;clear I J)));have ω:=(hi.2.1 rfl).1;refine W.dY rfl (fun η=>?_) (fun η=>?_)
  ·have η:i<a.length:=by simpa using η
   have aZ:i<b.length:=by omega
   (repeat (first|apply ι|(refine ν fun J I=>?_;simp;(repeat (rw[ζ];simp));apply I;clear I J)));refine W.draw (A:=[]) Θ mixed fun J I=>?_;simp;(repeat (rw[bp];simp[η,aZ]));refine⟨bL (by kernel_rfl),I _ _ ?_⟩;clear I J;(repeat (first|apply ι|(refine ν fun J I=>?_;simp;(repeat (rw[ζ];simp));apply I;clear I J)));refine W.forget _ ?_ (Γ (i+1,decide (a[i]=b[i])) ⟨by simp;omega,fun h=>⟨ω,fun j ε=>?_⟩,fun h e=>?_⟩ (by simp;omega))
   ·simp[eD η μ]
   ·by_cases e:j=i
    ·subst e;rw[bc η,bc aZ];simpa using h
    ·exact(hi.2.1 rfl).2 j (by simp at ε;omega)
   ·subst e;simp at h
  ·have η:a.length≤i:=by simpa using η
   refine W.exit rfl ?_;(repeat (first|apply ι|(refine ν fun J I=>?_;simp;(repeat (rw[ζ];simp));apply I;clear I J)));refine W.ret ⟨_,rfl,?_,rfl⟩;refine .of ?_;have:a=b:=List.ext_getElem? fun j=>by
    by_cases ε:j<i
    ·exact(hi.2.1 rfl).2 j ε
    ·rw[List.getElem?_eq_none (by omega),List.getElem?_eq_none (by omega)]
   simp[this]
theorem Uy (l:List Int) (ω:l.length<2 ^ 44):av Tryz.prog 44 [a3 U 1 l] (a3 U 1 l):=by
 refine ak.body Θ Tryz.func44 rfl rfl Tryz.ntmps44 rfl rfl (by simp) ?_
 repeat first|apply ι
 refine ν fun J I=>?_;simp;(repeat (rw[ζ];simp));apply I;clear I J
 repeat first|apply ι
 refine de (A:=[7]) Θ fun J I=>?_;simp;(repeat (rw[ζ];simp));refine⟨by omega,?_⟩;apply I;clear I J;(repeat (first|apply ι|(refine ν fun J I=>?_;simp;(repeat (rw[ζ];simp));apply I;clear I J)));refine W.iter (fun i:Nat=>i≤l.length) (fun i=>[(0,a3 U 1 l),(3,.ms 0 l.length 0 l.length),(4,U i)]) (fun i=>[.cells 3 1 (fill U (U 0) l i)]) (fun i=>l.length-i) 0 (Nat.zero_le _) (by simp[LS]) (by simp) (fun i hi Γ=>?_);(repeat (first|apply ι|(refine ν fun J I=>?_;simp;(repeat (rw[ζ];simp));apply I;clear I J)));refine W.dY rfl (fun η=>?_) (fun η=>?_)
 ·have η:i<l.length:=by simpa using η
  (repeat (first|apply ι|(refine ν fun J I=>?_;simp;(repeat (rw[ζ];simp[η,Gx U (U 0) l hi,GG U (U 0) l η,Gy U (U 0) l η]));apply I;clear I J)));refine W.forget _ ?_ (Γ (i+1) η (by omega));simp[eD η (show l.length<2 ^ 62 by omega)]
 ·have η:l.length≤i:=by simpa using η
  refine W.exit rfl ?_;(repeat (first|apply ι|(refine ν fun J I=>?_;simp;(repeat (rw[ζ];simp));apply I;clear I J)));refine W.cut 0 (Nat.zero_le _) [(2,a3 U 1 l)] (by simp) (by simp) (by simp;rw[LU _ _ _ η];exact .own (Nat.zero_le _) rfl (by simp) (by simp)) ?_;refine W.ret ⟨_,rfl,?_,rfl⟩;exact .refl _
abbrev aO (l:List (List Int)):θ:=a3 (a3 U 1) 1 l
theorem Uz (l:List (List Int)) (ω:l.length<2 ^ 40) (ξ:∀x∈l,x.length<2 ^ 44):av Tryz.prog 74 [aO l] (aO l):=by
 refine ak.body Θ Tryz.func74 rfl rfl Tryz.ntmps74 rfl rfl (by simp) ?_
 repeat first|apply ι
 refine ν fun J I=>?_;simp;(repeat (rw[ζ];simp));apply I;clear I J
 repeat first|apply ι
 refine de (A:=[7]) Θ fun J I=>?_;simp;(repeat (rw[ζ];simp));refine⟨by omega,?_⟩;apply I;clear I J;(repeat (first|apply ι|(refine ν fun J I=>?_;simp;(repeat (rw[ζ];simp));apply I;clear I J)));refine W.iter (fun i:Nat=>i≤l.length) (fun i=>[(0,aO l),(3,.ms 0 l.length 0 l.length),(4,U i)]) (fun i=>[.cells 29 1 (fill (a3 U 1) (.sl true 0 []) l i)]) (fun i=>l.length-i) 0 (Nat.zero_le _) (by simp[LS]) (by simp) (fun i hi Γ=>?_);(repeat (first|apply ι|(refine ν fun J I=>?_;simp;(repeat (rw[ζ];simp));apply I;clear I J)));refine W.dY rfl (fun η=>?_) (fun η=>?_)
 ·have η:i<l.length:=by simpa using η
  (repeat (first|apply ι));refine ν fun J I=>?_;simp;(repeat (rw[ζ];simp[η]));refine av.c (Uy _ (ξ _ (List.getElem_mem _))) (aI.refl _) (by simp) (by simp) ?_;simp[η,Gx (a3 U 1) (.sl true 0 []) l hi,GG (a3 U 1) (.sl true 0 []) l η,Gy (a3 U 1) (.sl true 0 []) l η];(repeat (rw[ζ];simp[η,Gx (a3 U 1) (.sl true 0 []) l hi,GG (a3 U 1) (.sl true 0 []) l η,Gy (a3 U 1) (.sl true 0 []) l η]));apply I;clear I J;(repeat (first|apply ι|(refine ν fun J I=>?_;simp;(repeat (rw[ζ];simp));apply I;clear I J)));refine W.forget _ ?_ (Γ (i+1) η (by omega));simp[eD η (show l.length<2 ^ 62 by omega)]
 ·have η:l.length≤i:=by simpa using η
  refine W.exit rfl ?_;(repeat (first|apply ι|(refine ν fun J I=>?_;simp;(repeat (rw[ζ];simp));apply I;clear I J)));refine W.cut 0 (Nat.zero_le _) [(2,aO l)] (by simp) (by simp) (by simp;rw[LU _ _ _ η];exact .own (Nat.zero_le _) rfl (by simp) (by simp)) ?_;refine W.ret ⟨_,rfl,?_,rfl⟩;exact .refl _
theorem UA (a b:List (List Int)) (μ:a.length<2 ^ 40) (ξ:∀x∈a,x.length<2 ^ 40):av Tryz.prog 50 [aO a,aO b] (bm (a==b)):=by
 refine ak.body Θ Tryz.func50 rfl rfl Tryz.ntmps50 rfl rfl (by simp) ?_;(repeat (first|apply ι|(refine ν fun J I=>?_;simp;(repeat (rw[ζ];simp));apply I;clear I J)));refine W.iter (fun p:Nat×Bool=>p.1≤a.length∧(p.2=true→a.length=b.length∧∀j,j<p.1→a[j]?=b[j]?)∧(p.2=false→a≠b)) (fun p=>[(0,aO a),(1,aO b),(5,bm p.2),(6,U p.1)]) (fun _=>[]) (fun p=>a.length-p.1) (0,decide (a.length=b.length)) ⟨Nat.zero_le _,by simp,by simp;exact fun h e=>h (by rw[e])⟩ rfl (by simp) (fun i hi Γ=>?_);rcases i with⟨i,_|_⟩
 ·(repeat (first|apply ι|(refine ν fun J I=>?_;simp;(repeat (rw[ζ];simp));apply I;clear I J)));refine ah rfl ?_;refine W.exit rfl ?_;(repeat (first|apply ι|(refine ν fun J I=>?_;simp;(repeat (rw[ζ];simp));apply I;clear I J)));refine W.ret ⟨_,rfl,?_,rfl⟩;exact .of (by simp[hi.2.2 rfl])
 ·(repeat (first|apply ι|(refine ν fun J I=>?_;simp;(repeat (rw[ζ];simp));apply I;clear I J)));have ω:=(hi.2.1 rfl).1;refine W.dY rfl (fun η=>?_) (fun η=>?_)
  ·have η:i<a.length:=by simpa using η
   have aZ:i<b.length:=by omega
   (repeat (first|apply ι|(refine ν fun J I=>?_;simp;(repeat (rw[ζ];simp));apply I;clear I J)));refine W.draw (A:=[]) Θ mixed fun J I=>?_;simp;(repeat (rw[bp];simp[η,aZ]));refine gn (av.p (GH a[i] b[i] (by have:=ξ _ (List.getElem_mem η);omega)) (aI.refl _) (by simp) (by simp)) ?_;simp;(repeat (rw[bp];simp));refine⟨bL (by kernel_rfl),I _ _ ?_⟩;clear I J;(repeat (first|apply ι|(refine ν fun J I=>?_;simp;(repeat (rw[ζ];simp));apply I;clear I J)));refine W.forget _ ?_ (Γ (i+1,a[i]==b[i]) ⟨by simp;omega,fun h=>⟨ω,fun j ε=>?_⟩,fun h e=>?_⟩ (by simp;omega))
   ·simp[eD η (show a.length<2 ^ 62 by omega)]
   ·by_cases e:j=i
    ·subst e;rw[bc η,bc aZ];simpa using h
    ·exact(hi.2.1 rfl).2 j (by simp at ε;omega)
   ·subst e;simp at h
  ·have η:a.length≤i:=by simpa using η
   refine W.exit rfl ?_;(repeat (first|apply ι|(refine ν fun J I=>?_;simp;(repeat (rw[ζ];simp));apply I;clear I J)));refine W.ret ⟨_,rfl,?_,rfl⟩;refine .of ?_;have:a=b:=List.ext_getElem? fun j=>by
    by_cases ε:j<i
    ·exact(hi.2.1 rfl).2 j ε
    ·rw[List.getElem?_eq_none (by omega),List.getElem?_eq_none (by omega)]
   simp[this]
structure k4 where
 name:ByteArray
 ep:Int
deriving DecidableEq
structure dZ where
 cE:Int
 seen:Int
 bare:Int
deriving DecidableEq
structure aM where
 af:List k4
 an:List (List Int)
 cells:List (List dZ)
deriving DecidableEq
abbrev er (g:k4):θ:=.aU [mG g.name,U g.ep]
abbrev e5 (p:dZ):θ:=.aU [U p.cE,U p.seen,U p.bare]
abbrev aP (l:List k4):θ:=a3 er 2 l
abbrev k5 (l:List dZ):θ:=a3 e5 3 l
abbrev bz (l:List (List dZ)):θ:=a3 k5 1 l
abbrev eP (s:aM):θ:=.aU [aP s.af,aO s.an,bz s.cells]
def aM.small (s:aM):Prop:=s.af.length<2 ^ 30∧s.an.length<2 ^ 30∧s.cells.length<2 ^ 30∧(∀x∈s.an,x.length<2 ^ 30)∧∀x∈s.cells,x.length<2 ^ 30
@[simp] theorem gα (x y:Int):(x != y) = !decide (x=y):=by rw[Bool.eq_iff_iff];simp
section
variable {P:Program} {m nt:Nat} {k:List Item} {env:Χ} {σ σ':List Row} {Z:List Item→Χ→List Row→Prop} {E:θ→Χ→List Row→Prop}
theorem W.drop {h:Nat} (hm:m≤h) (aS:h≤σ.length) (nh:∀(id:Nat) (r:Row),id<h→σ[id]?=some r→eN h r) (k3:σ.take h=σ') (env':Χ) (cC:∀p∈env',a5 env p.1=p.2∧az h p.2) (hW:W P m nt k env' σ' Z E):W P m nt k env σ Z E:=
 W.cut h hm env' aS nh (fun p χ=>by rw[(cC p χ).1];exact .low (cC p χ).2) (by rw[k3];exact hW)
theorem W.fix {id:Nat} {t:TypeId} {e:θ} {kk:Nat} (hm:m≤id) (bH:σ[id]?=some (.cells t kk [e])) (he:∀a∈e.cells,az id a) (nh:∀(Ch:Nat) (r:Row),Ch<id→σ[Ch]?=some r→eN id r) (k3:σ.take id=σ') (env':Χ)
  (cC:∀p∈env',(a5 env p.1=p.2∧az id p.2)∨(a5 env p.1=.ag id 1 0 0∧p.2=.aa e.cells)) (hW:W P m nt k env' σ' Z E):W P m nt k env σ Z E:=
 W.cut id hm env' (Nat.le_of_lt (b3.1 bH).1) nh (fun p χ=>by
  rcases cC p χ with⟨R,γ⟩|⟨R,γ⟩
  ·rw[R];exact .low γ
  ·rw[R,γ];refine .ag (Nat.le_refl _) bH rfl (e:=e) rfl (by simp) fun x a b9 Ξ ad=>?_;rw[Nat.zero_add] at Ξ;rw[Ξ] at ad;cases ad;exact .low (he a (cl Ξ))) (by rw[k3];exact hW)
theorem W.to {env':Χ} (h:W P m nt k env' σ' Z E) (k3:σ=σ') (cC:∀p∈env',a5 env p.1=p.2):W P m nt k env σ Z E:=k3▸W.forget env' cC h
end
abbrev mH (a b:Int):Int:=fH .i64 a b
abbrev rH (a b:Int):Int:=qd .i64 a b
abbrev za (a b:Int):Int:=n6 .i64 a b
section
variable {P:Program} {σ:List Row}
theorem fT.c {f:θ} {args:List θ} {r:θ} {K E:θ→List Row→Prop} (h:fT P f args r) (I:K r σ):hR P f args σ K E:=
 hR.mono (h σ) (fun a s ⟨R,γ⟩=>by subst R;subst γ;exact I) (fun _ _ h=>h.elim)
end
def jV (n:Int):Bool:=decide (0≤n)&&decide (n≤2)
theorem oi (n:Int):av Tryz.prog 93 [U n] (bm (jV n)):=by
 refine ak.body Θ Tryz.func93 rfl rfl Tryz.ntmps93 rfl rfl (by simp) ?_;by_cases h:0≤n
 ·(repeat (first|apply ι|(refine ν fun J I=>?_;simp;(repeat (rw[ζ];simp[h]));apply I;clear I J)));refine W.ret ⟨_,rfl,?_,rfl⟩;exact .of (by simp[jV,h])
 ·(repeat (first|apply ι|(refine ν fun J I=>?_;simp;(repeat (rw[ζ];simp[h]));apply I;clear I J)));refine W.ret ⟨_,rfl,?_,rfl⟩;exact .of (by simp[jV,h])
def valid (n:Int):Bool:=decide (0≤n)&&decide (n≤63)
theorem wF (n:Int):av Tryz.prog 109 [U n] (bm (valid n)):=by
 refine ak.body Θ Tryz.func109 rfl rfl Tryz.ntmps109 rfl rfl (by simp) ?_;by_cases h:0≤n
 ·(repeat (first|apply ι|(refine ν fun J I=>?_;simp;(repeat (rw[ζ];simp[h]));apply I;clear I J)));refine W.ret ⟨_,rfl,?_,rfl⟩;exact .of (by simp[valid,h])
 ·(repeat (first|apply ι|(refine ν fun J I=>?_;simp;(repeat (rw[ζ];simp[h]));apply I;clear I J)));refine W.ret ⟨_,rfl,?_,rfl⟩;exact .of (by simp[valid,h])
theorem LY (a b:Int):av Tryz.prog 196 [U a,U b] (bm (mH a b==0)):=by
 refine ak.body Θ Tryz.func196 rfl rfl Tryz.ntmps196 rfl rfl (by simp) ?_;(repeat (first|apply ι|(refine ν fun J I=>?_;simp;(repeat (rw[ζ];simp));apply I;clear I J)));refine W.ret ⟨_,rfl,?_,rfl⟩;exact .of (by simp)
theorem LZ (a b:Int):av Tryz.prog 210 [U a,U b] (bm (za a b==0)):=by
 refine ak.body Θ Tryz.func210 rfl rfl Tryz.ntmps210 rfl rfl (by simp) ?_;(repeat (first|apply ι|(refine ν fun J I=>?_;simp;(repeat (rw[ζ];simp));apply I;clear I J)));refine W.ret ⟨_,rfl,?_,rfl⟩;exact .of (by simp)
theorem GI (b:Bool):av Tryz.prog 127 [bm b] (U (if b then 1 else 0)):=by
 refine ak.body Θ Tryz.func127 rfl rfl Tryz.ntmps127 rfl rfl (by simp) ?_;cases b
 ·(repeat (first|apply ι|(refine ν fun J I=>?_;simp;(repeat (rw[ζ];simp));apply I;clear I J)));refine ah rfl ?_;(repeat (first|apply ι|(refine ν fun J I=>?_;simp;(repeat (rw[ζ];simp));apply I;clear I J)));refine W.ret ⟨_,rfl,?_,rfl⟩;exact .refl _
 ·(repeat (first|apply ι|(refine ν fun J I=>?_;simp;(repeat (rw[ζ];simp));apply I;clear I J)));refine al rfl ?_;(repeat (first|apply ι|(refine ν fun J I=>?_;simp;(repeat (rw[ζ];simp));apply I;clear I J)));refine W.ret ⟨_,rfl,?_,rfl⟩;exact .refl _
theorem GJ (n:Int):av Tryz.prog 193 [U n] (bm false):=by
 refine ak.body Θ Tryz.func193 rfl rfl Tryz.ntmps193 rfl rfl (by simp) ?_;(repeat (first|apply ι|(refine ν fun J I=>?_;simp;(repeat (rw[ζ];simp));apply I;clear I J)));refine W.ret ⟨_,rfl,?_,rfl⟩;exact .of (by simp)
def CL (n:Int):Int:=rH (rH (za n 15) (IntKind.i64.wrap (mH n 5*2))) ((mH n 10).fdiv 2)
theorem UB (n:Int):av Tryz.prog 99 [U n] (U (CL n)):=by
 refine ak.body Θ Tryz.func99 rfl rfl Tryz.ntmps99 rfl rfl (by simp) ?_;(repeat (first|apply ι|(refine ν fun J I=>?_;simp;(repeat (rw[ζ];simp));apply I;clear I J)));refine W.ret ⟨_,rfl,?_,rfl⟩;exact .of (by simp[CL,IntKind.bits])
def idxOf {α:Type} (p:α→Bool) (l:List α):Int:=if l.any p then(l.findIdx p:Nat) else -1
theorem CM {α:Type} {p:α→Bool} {l:List α} {i:Nat} (h:i<l.length) (R:p l[i]=true) (γ:∀j,j<i→(ε:j<l.length)→p l[j]=false):idxOf p l=(i:Nat):=by
 have μ:l.any p=true:=List.any_eq_true.2 ⟨_,List.getElem_mem h,R⟩
 have:l.findIdx p=i:=by
  have ο:¬l.findIdx p<i:=fun aE=>by
   have ω:l.findIdx p<l.length:=by omega
   have:=List.findIdx_getElem (p:=p) (w:=ω);rw[γ _ aE ω] at this;cases this
  have Ι:¬i<l.findIdx p:=fun aE=>by
   have:=List.not_of_lt_findIdx aE;rw[R] at this;simp at this
  omega
 unfold idxOf;rw[if_pos μ,this]
theorem CN {α:Type} {p:α→Bool} {l:List α} (h:∀j,(ε:j<l.length)→p l[j]=false):idxOf p l=-1:=by
 have:l.any p=false:=by
  rw[List.any_eq_false];intro x δ;obtain⟨j,ε,rfl⟩:=List.getElem_of_mem δ;simp[h j ε]
 unfold idxOf;rw[this];rfl
theorem CO {α:Type} {p:α→Bool} {l:List α}:decide (idxOf p l≥0)=l.any p:=by
 unfold idxOf;cases h:l.any p<;>simp
theorem UC (l:List Int) (n:Int) (ω:l.length<2 ^ 62):av Tryz.prog 137 [a3 U 1 l,U n] (U (idxOf (·==n) l)):=by
 refine ak.body Θ Tryz.func137 rfl rfl Tryz.ntmps137 rfl rfl (by simp) ?_;(repeat (first|apply ι|(refine ν fun J I=>?_;simp;(repeat (rw[ζ];simp));apply I;clear I J)));refine W.iter (fun i:Nat=>i≤l.length∧∀j,j<i→(h:j<l.length)→(l[j]==n)=false) (fun i=>[(0,a3 U 1 l),(1,U n),(6,a3 U 1 l),(7,U l.length),(8,U i)]) (fun _=>[]) (fun i=>l.length-i) 0 ⟨Nat.zero_le _,fun j ε=>by omega⟩ rfl (by simp) (fun i hi Γ=>?_);(repeat (first|apply ι|(refine ν fun J I=>?_;simp;(repeat (rw[ζ];simp));apply I;clear I J)));refine W.dY rfl (fun η=>?_) (fun η=>?_)
 ·have η:i<l.length:=by simpa using η
  (repeat (first|apply ι|(refine ν fun J I=>?_;simp;(repeat (rw[ζ];simp[η]));apply I;clear I J)));refine W.dY rfl (fun aZ=>?_) (fun aZ=>?_)
  ·have Η:n=l[i]:=by simpa using aZ
   (repeat (first|apply ι|(refine ν fun J I=>?_;simp;(repeat (rw[ζ];simp));apply I;clear I J)));refine W.ret ⟨_,rfl,?_,rfl⟩;exact .of (by rw[CM η (by simp[Η]) hi.2];rfl)
  ·have Η:¬n=l[i]:=by simpa using aZ
   (repeat (first|apply ι|(refine ν fun J I=>?_;simp;(repeat (rw[ζ];simp));apply I;clear I J)));refine W.forget _ ?_ (Γ (i+1) ⟨by omega,fun j ε h=>?_⟩ (by omega))
   ·simp[eD η ω]
   ·by_cases e:j=i
    ·subst e;simpa using fun x=>Η x.symm
    ·exact hi.2 j (by omega) h
 ·have η:l.length≤i:=by simpa using η
  refine W.exit rfl ?_;(repeat (first|apply ι|(refine ν fun J I=>?_;simp;(repeat (rw[ζ];simp));apply I;clear I J)));refine W.ret ⟨_,rfl,?_,rfl⟩;exact .of (by rw[CN fun j ε=>hi.2 j (by omega) ε];rfl)
theorem any_beq (l:List Int) (n:Int):(l.any fun x=>x==n)=l.contains n:=by
 rw[Bool.eq_iff_iff];simp
theorem L0 (l:List Int) (n:Int) (ω:l.length<2 ^ 62):av Tryz.prog 110 [a3 U 1 l,U n] (bm (l.contains n)):=by
 refine ak.body Θ Tryz.func110 rfl rfl Tryz.ntmps110 rfl rfl (by simp) ?_;(repeat (first|apply ι|(refine ν fun J I=>?_;simp;(repeat (rw[ζ];simp));apply I;clear I J)));(repeat (first|apply ι));refine ν fun J I=>?_;simp;(repeat (rw[ζ];simp));refine av.c (UC l n ω) (aI.refl _) (by simp) (by simp) ?_;simp;(repeat (rw[ζ];simp));apply I;clear I J;(repeat (first|apply ι|(refine ν fun J I=>?_;simp;(repeat (rw[ζ];simp));apply I;clear I J)));refine W.ret ⟨_,rfl,?_,rfl⟩;exact .of (by rw[←any_beq,←CO];rfl)
@[simp high] theorem UD {h:Nat} {e:Bool} {k:Nat} {α:Type} {f:α→θ} {l:List α}:az h (.sl e k (l.map f))↔∀x∈l,∀a∈(f x).cells,az h a:=by
 rw[gA];simp only[List.mem_map];exact⟨fun H x δ=>H _ ⟨x,δ,rfl⟩,fun H e ⟨x,δ,he⟩=>he▸H x δ⟩
@[simp high] theorem gβ {h:Nat} {e:Bool} {k n:Nat} {α:Type} {f:α→θ} {l:List α}:az h (.sl e k ((l.map f).take n))↔∀x∈l.take n,∀a∈(f x).cells,az h a:=by
 rw[←List.map_take];exact UD
abbrev ax (r:Int×Int):θ:=.aU [U r.1,U r.2]
abbrev lP (l:List (Int×Int)):θ:=a3 ax 2 l
abbrev lQ (l:List (List (Int×Int))):θ:=a3 lP 1 l
structure Found where
 u:Int
 v:Int
 cells:List (List (Int×Int))
deriving DecidableEq
abbrev cX (f:Found):θ:=.aU [U f.u,U f.v,lQ f.cells]
abbrev cJ (l:List Found):θ:=a3 cX 3 l
def aM.of (s:aM) (g:Int):Int:=if g<0 then 0 else((s.af[g.toNat]?).map (·.ep)).getD 0
theorem CI (s:aM) (g:Int) (Τ:g<s.af.length):av Tryz.prog 125 [eP s,U g] (U (s.of g)):=by
 refine ak.body Θ Tryz.func125 rfl rfl Tryz.ntmps125 rfl rfl (by simp) ?_;(repeat (first|apply ι|(refine ν fun J I=>?_;simp;(repeat (rw[ζ];simp));apply I;clear I J)));refine W.dY rfl (fun η=>?_) (fun η=>?_)
 ·have η:g<0:=by simpa using η
  (repeat (first|apply ι|(refine ν fun J I=>?_;simp;(repeat (rw[ζ];simp));apply I;clear I J)));refine W.ret ⟨_,rfl,?_,rfl⟩;exact .of (by rw[show s.of g=0 by simp[aM.of,η]];rfl)
 ·have η:¬g<0:=by simpa using η
  obtain⟨n,rfl⟩:∃n:Nat,g=n:=⟨g.toNat,by omega⟩;have Η:n<s.af.length:=by omega
  (repeat (first|apply ι|(refine ν fun J I=>?_;simp;(repeat (rw[ζ];simp[Η]));apply I;clear I J)));refine W.ret ⟨_,rfl,?_,rfl⟩;exact .of (by rw[show s.of n=s.af[n].ep by simp[aM.of,Η];intro h;omega];rfl)
def aM.gp (s:aM) (p r:Int×Int) (cE:Nat):Int:=
 let l:=(s.an[cE]?).getD []
 let a:=if l.contains p.1 then rH 0 (s.of r.1) else 0
 if l.contains p.2 then rH a (s.of r.2) else a
theorem zb (s:aM) (ξ:s.small) (p r:Int×Int) (n:Nat) (Η:n<s.an.length) (R:r.1<s.af.length) (γ:r.2<s.af.length) :
  av Tryz.prog 77 [eP s,ax p,ax r,U n] (U (s.gp p r n)):=by
 refine ak.body Θ Tryz.func77 rfl rfl Tryz.ntmps77 rfl rfl (by simp) ?_;have ω:s.an[n].length<2 ^ 62:=by have:=ξ.2.2.2.1 _ (List.getElem_mem Η);omega
 (repeat (first|apply ι|(refine ν fun J I=>?_;simp;(repeat (rw[ζ];simp));apply I;clear I J)));refine W.iter (fun q:Nat×Int=>q.1≤2∧(q.1=0→q.2=0)∧(q.1=1→q.2=if s.an[n].contains p.1 then rH 0 (s.of r.1) else 0)∧(q.1=2→q.2=s.gp p r n))
  (fun q=>[(3,U n),(4,.aa [aP s.af,aO s.an,bz s.cells]),(5,.aa [U p.1,U p.2]),(6,.aa [U r.1,U r.2]),(9,U q.2),(12,ax p),(13,U q.1)]) (fun _=>[]) (fun q=>2-q.1) (0,0) ⟨by omega,by simp,by simp,by simp⟩ rfl (by simp) (fun q hi Γ=>?_)
 rcases q with⟨i,x⟩
 match i,hi,Γ with
 | 0,hi,Γ=>
  have δ:x=0:=hi.2.1 rfl;subst δ;(repeat (first|apply ι|(refine ν fun J I=>?_;simp;(repeat (rw[ζ];simp));apply I;clear I J)));refine al rfl ?_;(repeat (first|apply ι|(refine ν fun J I=>?_;simp;(repeat (rw[ζ];simp));apply I;clear I J)));(repeat (first|apply ι));refine ν fun J I=>?_;simp;(repeat (rw[ζ];simp[Η]));refine av.c (L0 s.an[n] p.1 ω) (aI.refl _) (by simp) (by simp) ?_;simp;(repeat (rw[ζ];simp));apply I;clear I J;by_cases η:p.1∈s.an[n]
  ·refine al (by simp[η]) ?_;(repeat (first|apply ι|(refine ν fun J I=>?_;simp;(repeat (rw[ζ];simp));apply I;clear I J)));refine W.draw (A:=[]) Θ mixed fun J I=>?_;simp;(repeat (rw[bp];simp));refine gn (av.p (CI s r.1 R) (aI.refl _) (by simp) (by simp)) ?_;simp;(repeat (rw[bp];simp));refine⟨bL (by kernel_rfl),I _ _ ?_⟩;clear I J;(repeat (first|apply ι|(refine ν fun J I=>?_;simp;(repeat (rw[ζ];simp));apply I;clear I J)));refine W.forget _ ?_ (Γ (1,rH 0 (s.of r.1)) ⟨by simp,by simp,by simp[η],by simp⟩ (by simp));simp[CK]
  ·refine ah (by simp[η]) ?_;(repeat (first|apply ι|(refine ν fun J I=>?_;simp;(repeat (rw[ζ];simp));apply I;clear I J)));refine W.forget _ ?_ (Γ (1,0) ⟨by simp,by simp,by simp[η],by simp⟩ (by simp));simp[CK]
 | 1,hi,Γ=>
  have δ:=hi.2.2.1 rfl;simp at δ;(repeat (first|apply ι|(refine ν fun J I=>?_;simp;(repeat (rw[ζ];simp));apply I;clear I J)));refine al rfl ?_;(repeat (first|apply ι|(refine ν fun J I=>?_;simp;(repeat (rw[ζ];simp));apply I;clear I J)));(repeat (first|apply ι));refine ν fun J I=>?_;simp;(repeat (rw[ζ];simp[Η]));refine av.c (L0 s.an[n] p.2 ω) (aI.refl _) (by simp) (by simp) ?_;simp;(repeat (rw[ζ];simp));apply I;clear I J;by_cases η:p.2∈s.an[n]
  ·refine al (by simp[η]) ?_;(repeat (first|apply ι|(refine ν fun J I=>?_;simp;(repeat (rw[ζ];simp));apply I;clear I J)));refine W.draw (A:=[]) Θ mixed fun J I=>?_;simp;(repeat (rw[bp];simp));refine gn (av.p (CI s r.2 γ) (aI.refl _) (by simp) (by simp)) ?_;simp;(repeat (rw[bp];simp));refine⟨bL (by kernel_rfl),I _ _ ?_⟩;clear I J;(repeat (first|apply ι|(refine ν fun J I=>?_;simp;(repeat (rw[ζ];simp));apply I;clear I J)));refine W.forget _ ?_ (Γ (2,rH x (s.of r.2)) ⟨by simp,by simp,by simp,fun _=>by simp only[aM.gp,bc Η];simp[η,δ]⟩ (by simp));simp[GF]
  ·refine ah (by simp[η]) ?_;(repeat (first|apply ι|(refine ν fun J I=>?_;simp;(repeat (rw[ζ];simp));apply I;clear I J)));refine W.forget _ ?_ (Γ (2,x) ⟨by simp,by simp,by simp,fun _=>by simp only[aM.gp,bc Η];simp[η,δ]⟩ (by simp));simp[GF]
 | 2,hi,Γ=>
  have δ:=hi.2.2.2 rfl;(repeat (first|apply ι|(refine ν fun J I=>?_;simp;(repeat (rw[ζ];simp));apply I;clear I J)));refine ah rfl ?_;refine W.exit rfl ?_;(repeat (first|apply ι|(refine ν fun J I=>?_;simp;(repeat (rw[ζ];simp));apply I;clear I J)));refine W.ret ⟨_,rfl,?_,rfl⟩;exact .of (by rw[←show x=s.gp p r n from δ];rfl)
 | i+3,hi,Γ=>exact absurd hi.1 (by simp)
def aM.k6 (s:aM) (p r:Int×Int) (x:dZ):Bool:=za x.seen (s.gp p r x.cE.toNat)==0&&mH (s.gp p r x.cE.toNat) x.bare==0
def aM.lR (s:aM) (p r:Int×Int) (c:Nat):Bool:=((s.cells[c]?).getD []).all (s.k6 p r)
theorem UE (s:aM) (ξ:s.small) (p r:Int×Int) (c:Nat) (Η:c<s.cells.length) (hv:∀x∈s.cells[c],0≤x.cE∧x.cE<s.an.length) (R:r.1<s.af.length) (γ:r.2<s.af.length) :
  av Tryz.prog 172 [eP s,ax p,ax r,U c] (bm (s.lR p r c)):=by
 refine ak.body Θ Tryz.func172 rfl rfl Tryz.ntmps172 rfl rfl (by simp) ?_;have ω:s.cells[c].length<2 ^ 62:=by have:=ξ.2.2.2.2 _ (List.getElem_mem Η);omega
 have fG:s.lR p r c=s.cells[c].all (s.k6 p r):=by simp[aM.lR,Η]
 rw[fG];(repeat (first|apply ι|(refine ν fun J I=>?_;simp;(repeat (rw[ζ];simp[Η]));apply I;clear I J)));refine W.iter (fun i:Nat=>i≤s.cells[c].length∧∀j,j<i→(h:j<s.cells[c].length)→s.k6 p r s.cells[c][j]=true)
  (fun i=>[(4,.aa [aP s.af,aO s.an,bz s.cells]),(5,.aa [U p.1,U p.2]),(6,.aa [U r.1,U r.2]),(17,k5 s.cells[c]),(18,U s.cells[c].length),(19,U i)]) (fun _=>[]) (fun i=>s.cells[c].length-i) 0 ⟨by omega,fun j ε=>by omega⟩ rfl (by simp) (fun i hi Γ=>?_)
 (repeat (first|apply ι|(refine ν fun J I=>?_;simp;(repeat (rw[ζ];simp));apply I;clear I J)));refine W.dY rfl (fun η=>?_) (fun η=>?_)
 ·have η:i<s.cells[c].length:=by simpa using η
  have δ:=hv _ (List.getElem_mem η);obtain⟨n,rI⟩:∃n:Nat,s.cells[c][i].cE=n:=⟨s.cells[c][i].cE.toNat,by omega⟩;have m4:n<s.an.length:=by omega
  have bk:s.k6 p r s.cells[c][i]=(za s.cells[c][i].seen (s.gp p r n)==0&&mH (s.gp p r n) s.cells[c][i].bare==0):=by simp[aM.k6,rI]
  repeat first|apply ι
  refine de (A:=[10]) Θ fun J I=>?_;simp;(repeat (rw[ζ];simp[η]));apply I;clear I J
  repeat first|apply ι
  (repeat (first|apply ι));refine ν fun J I=>?_;simp;(repeat (rw[ζ];simp[rI]));refine av.c (zb s ξ p r n m4 R γ) (aI.refl _) (by simp) (by simp) ?_;simp;(repeat (rw[ζ];simp));apply I;clear I J
  repeat first|apply ι
  by_cases Ξ:za s.cells[c][i].seen (s.gp p r n)=0
  ·(repeat (first|apply ι));refine ν fun J I=>?_;simp;(repeat (rw[ζ];simp[Ξ]));refine av.c (LZ s.cells[c][i].seen (s.gp p r n)) (aI.refl _) (by simp) (by simp) ?_;simp[Ξ];(repeat (rw[ζ];simp[Ξ]));refine av.c (LY (s.gp p r n) s.cells[c][i].bare) (aI.refl _) (by simp) (by simp) ?_;simp;(repeat (rw[ζ];simp));apply I;clear I J;by_cases ad:mH (s.gp p r n) s.cells[c][i].bare=0
   ·refine ah (by simp[ad]) ?_;(repeat (first|apply ι|(refine ν fun J I=>?_;simp;(repeat (rw[ζ];simp));apply I;clear I J)));refine W.drop (h:=0) (Nat.zero_le _) (Nat.zero_le _) (by simp) rfl _ ?_ (Γ (i+1) ⟨by omega,fun j ε h=>?_⟩ (by omega))
    ·simp[eD η ω]
    ·by_cases e:j=i
     ·subst e;rw[bk];simp[Ξ,ad]
     ·exact hi.2 j (by omega) h
   ·refine al (by simp[ad]) ?_;(repeat (first|apply ι|(refine ν fun J I=>?_;simp;(repeat (rw[ζ];simp));apply I;clear I J)));refine W.drop (h:=0) (Nat.zero_le _) (Nat.zero_le _) (by simp) rfl [(8,bm false)] (by simp) ?_;refine W.ret ⟨_,rfl,?_,rfl⟩;exact .of (by rw[show s.cells[c].all (s.k6 p r)=false from List.all_eq_false.2 ⟨_,List.getElem_mem η,by rw[bk];simp[ad]⟩];rfl)
  ·(repeat (first|apply ι));refine ν fun J I=>?_;simp;(repeat (rw[ζ];simp[Ξ]));refine av.c (LZ s.cells[c][i].seen (s.gp p r n)) (aI.refl _) (by simp) (by simp) ?_;simp[Ξ];(repeat (rw[ζ];simp[Ξ]));apply I;clear I J;refine al (by simp) ?_;(repeat (first|apply ι|(refine ν fun J I=>?_;simp;(repeat (rw[ζ];simp));apply I;clear I J)));refine W.drop (h:=0) (Nat.zero_le _) (Nat.zero_le _) (by simp) rfl [(8,bm false)] (by simp) ?_;refine W.ret ⟨_,rfl,?_,rfl⟩;exact .of (by rw[show s.cells[c].all (s.k6 p r)=false from List.all_eq_false.2 ⟨_,List.getElem_mem η,by rw[bk];simp[Ξ]⟩];rfl)
 ·have η:s.cells[c].length≤i:=by simpa using η
  refine W.exit rfl ?_;(repeat (first|apply ι|(refine ν fun J I=>?_;simp;(repeat (rw[ζ];simp));apply I;clear I J)));refine W.ret ⟨_,rfl,?_,rfl⟩;refine .of ?_;rw[show s.cells[c].all (s.k6 p r)=true from List.all_eq_true.2 fun x δ=>by
   obtain⟨j,ε,rfl⟩:=List.getElem_of_mem δ;exact hi.2 j (by omega) ε]
  rfl
def fx (l:List (List (Int×Int))) (gb:Int) (i:Nat):Nat:=((List.range i).map fun j:Nat=>if(j:Int)=gb then 1 else((l[j]?).getD []).length).prod
theorem CP (l:List (List (Int×Int))) (gb:Int) (i:Nat):fx l gb (i+1)=fx l gb i*(if(i:Int)=gb then 1 else((l[i]?).getD []).length):=by
 unfold fx;rw[List.range_succ,List.map_append,List.prod_append];simp
def Found.many (f:Found) (gb:Int):Nat:=fx f.cells gb f.cells.length
theorem fy {n:Nat} (h:n<2 ^ 62):IntKind.i64.wrap (n:Int)=n:=IntWalk.i64_in _ (by omega)
theorem CQ (f:Found) (gb:Int) (ω:f.cells.length<2 ^ 62) (hm:∀i,i≤f.cells.length→fx f.cells gb i<2 ^ 62) :
  av Tryz.prog 78 [cX f,U gb] (U (f.many gb)):=by
 refine ak.body Θ Tryz.func78 rfl rfl Tryz.ntmps78 rfl rfl (by simp) ?_;(repeat (first|apply ι|(refine ν fun J I=>?_;simp;(repeat (rw[ζ];simp));apply I;clear I J)));refine W.iter (fun i:Nat=>i≤f.cells.length) (fun i=>[(1,U gb),(5,U (fx f.cells gb i)),(9,lQ f.cells),(10,U f.cells.length),(11,U i)]) (fun _=>[]) (fun i=>f.cells.length-i) 0 (Nat.zero_le _) rfl (by simp[fx]) (fun i hi Γ=>?_);(repeat (first|apply ι|(refine ν fun J I=>?_;simp;(repeat (rw[ζ];simp));apply I;clear I J)));refine W.dY rfl (fun η=>?_) (fun η=>?_)
 ·have η:i<f.cells.length:=by simpa using η
  have ξ:=CP f.cells gb i
  have aE:=hm (i+1) η;(repeat (first|apply ι|(refine ν fun J I=>?_;simp;(repeat (rw[ζ];simp[η]));apply I;clear I J)));by_cases g:(i:Int)=gb
  ·refine ah (by simp[g]) ?_;(repeat (first|apply ι|(refine ν fun J I=>?_;simp;(repeat (rw[ζ];simp));apply I;clear I J)));refine W.forget _ ?_ (Γ (i+1) η (by omega));rw[ξ,if_pos g];simp[eD η ω]
  ·refine al (by simp[g]) ?_;have hv:fx f.cells gb i*f.cells[i].length<2 ^ 62:=by rw[ξ,if_neg g] at aE;simpa[η] using aE
   (repeat (first|apply ι|(refine ν fun J I=>?_;simp;(repeat (rw[ζ];simp[η]));apply I;clear I J)));refine W.forget _ ?_ (Γ (i+1) η (by omega));rw[ξ,if_neg g];simp only[bc η,Option.getD_some];have:=fy hv;simp[eD η ω] at this ⊢;simp[this]
 ·have η:i=f.cells.length:=by simp at η;omega
  subst η;refine W.exit rfl ?_;(repeat (first|apply ι|(refine ν fun J I=>?_;simp;(repeat (rw[ζ];simp));apply I;clear I J)));refine W.ret ⟨_,rfl,?_,rfl⟩;exact .of rfl
def oj (a b:Int):Int:=if a<b then -1 else if b<a then 1 else 0
theorem UF (a b:Int):av Tryz.prog 151 [U a,U b] (U (oj a b)):=by
 refine ak.body Θ Tryz.func151 rfl rfl Tryz.ntmps151 rfl rfl (by simp) ?_;(repeat (first|apply ι|(refine ν fun J I=>?_;simp;(repeat (rw[ζ];simp));apply I;clear I J)));(repeat (first|apply ι));refine ν fun J I=>?_;simp;(repeat (rw[ζ];simp));refine av.c (GJ a) (aI.refl _) (by simp) (by simp) ?_;simp;(repeat (rw[ζ];simp));apply I;clear I J;(repeat (first|apply ι));refine ν fun J I=>?_;simp;(repeat (rw[ζ];simp));refine av.c (GJ b) (aI.refl _) (by simp) (by simp) ?_;simp;(repeat (rw[ζ];simp));apply I;clear I J;(repeat (first|apply ι|(refine ν fun J I=>?_;simp;(repeat (rw[ζ];simp));apply I;clear I J)));refine ah rfl ?_;(repeat (first|apply ι|(refine ν fun J I=>?_;simp;(repeat (rw[ζ];simp));apply I;clear I J)));refine ah rfl ?_;(repeat (first|apply ι|(refine ν fun J I=>?_;simp;(repeat (rw[ζ];simp));apply I;clear I J)));refine W.dY rfl (fun η=>?_) (fun η=>?_)
 ·have η:a<b:=by simpa using η
  (repeat (first|apply ι|(refine ν fun J I=>?_;simp;(repeat (rw[ζ];simp));apply I;clear I J)));refine W.ret ⟨_,rfl,?_,rfl⟩;exact .of (by rw[show oj a b=-1 by simp[oj,η]];rfl)
 ·have η:¬a<b:=by simpa using η
  (repeat (first|apply ι|(refine ν fun J I=>?_;simp;(repeat (rw[ζ];simp));apply I;clear I J)));refine W.dY rfl (fun aZ=>?_) (fun aZ=>?_)
  ·have aZ:b<a:=by simpa using aZ
   (repeat (first|apply ι|(refine ν fun J I=>?_;simp;(repeat (rw[ζ];simp));apply I;clear I J)));refine W.ret ⟨_,rfl,?_,rfl⟩;exact .of (by rw[show oj a b=1 by simp[oj,η,aZ]];rfl)
  ·have aZ:¬b<a:=by simpa using aZ
   (repeat (first|apply ι|(refine ν fun J I=>?_;simp;(repeat (rw[ζ];simp));apply I;clear I J)));refine W.ret ⟨_,rfl,?_,rfl⟩;exact .of (by rw[show oj a b=0 by simp[oj,η,aZ]];rfl)
theorem UG (a b:Int):av Tryz.prog 203 [U a,U b] (bm (decide (a<b))):=by
 refine ak.body Θ Tryz.func203 rfl rfl Tryz.ntmps203 rfl rfl (by simp) ?_;(repeat (first|apply ι|(refine ν fun J I=>?_;simp;(repeat (rw[ζ];simp));apply I;clear I J)));(repeat (first|apply ι));refine ν fun J I=>?_;simp;(repeat (rw[ζ];simp));refine av.c (GJ a) (aI.refl _) (by simp) (by simp) ?_;simp;(repeat (rw[ζ];simp));apply I;clear I J;(repeat (first|apply ι|(refine ν fun J I=>?_;simp;(repeat (rw[ζ];simp));apply I;clear I J)));refine W.ret ⟨_,rfl,?_,rfl⟩;exact .of (by rw[show decide (a<b)=decide (a<b) from rfl];rfl)
def om:List Int→List Int→Int
 | [],[]=>0
 | [],_::_=>-1
 | _::_,[]=>1
 | a::l,b::m=>if oj a b≠0 then oj a b else om l m
theorem L1 (a b:List Int) (μ:a.length<2 ^ 62):av Tryz.prog 118 [a3 U 1 a,a3 U 1 b] (U (om a b)):=by
 refine ak.body Θ Tryz.func118 rfl rfl Tryz.ntmps118 rfl rfl (by simp) ?_;(repeat (first|apply ι|(refine ν fun J I=>?_;simp;(repeat (rw[ζ];simp));apply I;clear I J)));refine W.iter (fun i:Nat=>i≤a.length∧i≤b.length∧om a b=om (a.drop i) (b.drop i)) (fun i=>[(0,a3 U 1 a),(1,a3 U 1 b),(9,a3 U 1 a),(10,U a.length),(11,U i)]) (fun _=>[]) (fun i=>a.length-i) 0 ⟨by omega,by omega,by simp⟩ rfl (by simp) (fun i hi Γ=>?_);obtain⟨R,γ,ο⟩:=hi;(repeat (first|apply ι|(refine ν fun J I=>?_;simp;(repeat (rw[ζ];simp));apply I;clear I J)));refine W.dY rfl (fun η=>?_) (fun η=>?_)
 ·have η:i<a.length:=by simpa using η
  have kp:a.drop i=a[i]::a.drop (i+1):=List.drop_eq_getElem_cons η;(repeat (first|apply ι|(refine ν fun J I=>?_;simp;(repeat (rw[ζ];simp[η]));apply I;clear I J)));refine W.dY rfl (fun aZ=>?_) (fun aZ=>?_)
  ·have aZ:b.length≤i:=by simp at aZ;omega
   (repeat (first|apply ι|(refine ν fun J I=>?_;simp;(repeat (rw[ζ];simp));apply I;clear I J)));have h6:b.drop i=[]:=List.drop_eq_nil_of_le aZ;refine W.ret ⟨_,rfl,?_,rfl⟩;exact .of (by rw[show om a b=1 by rw[ο,kp,h6];rfl];rfl)
  ·have aZ:i<b.length:=by simp at aZ;omega
   have h6:b.drop i=b[i]::b.drop (i+1):=List.drop_eq_getElem_cons aZ
   repeat first|apply ι
   refine ν fun J I=>?_;simp;(repeat (rw[ζ];simp[aZ]));apply I;clear I J;(repeat (first|apply ι));refine ν fun J I=>?_;simp;(repeat (rw[ζ];simp));refine av.c (UF a[i] b[i]) (aI.refl _) (by simp) (by simp) ?_;simp;(repeat (rw[ζ];simp));apply I;clear I J;(repeat (first|apply ι|(refine ν fun J I=>?_;simp;(repeat (rw[ζ];simp));apply I;clear I J)));by_cases g:oj a[i] b[i]=0
   ·refine ah (by simp[g]) ?_;(repeat (first|apply ι|(refine ν fun J I=>?_;simp;(repeat (rw[ζ];simp));apply I;clear I J)));refine W.forget _ ?_ (Γ (i+1) ⟨η,aZ,?_⟩ (by omega))
    ·simp[eD η μ]
    ·rw[ο,kp,h6,om,if_neg (by simpa using g)]
   ·refine al (by simp[g]) ?_;(repeat (first|apply ι|(refine ν fun J I=>?_;simp;(repeat (rw[ζ];simp));apply I;clear I J)));refine W.ret ⟨_,rfl,?_,rfl⟩;exact .of (by rw[show om a b=oj a[i] b[i] by rw[ο,kp,h6,om,if_pos g]];rfl)
 ·have η:i=a.length:=by simp at η;omega
  have kp:a.drop i=[]:=List.drop_eq_nil_of_le (by omega);refine W.exit rfl ?_;(repeat (first|apply ι|(refine ν fun J I=>?_;simp;(repeat (rw[ζ];simp));apply I;clear I J)));by_cases g:a.length<b.length
  ·refine al (by simp[g]) ?_;(repeat (first|apply ι|(refine ν fun J I=>?_;simp;(repeat (rw[ζ];simp));apply I;clear I J)));have h6:b.drop i=b[i]::b.drop (i+1):=List.drop_eq_getElem_cons (by omega);refine W.ret ⟨_,rfl,?_,rfl⟩;exact .of (by rw[show om a b=-1 by rw[ο,kp,h6];rfl];rfl)
  ·refine ah (by simp[g]) ?_;(repeat (first|apply ι|(refine ν fun J I=>?_;simp;(repeat (rw[ζ];simp));apply I;clear I J)));have h6:b.drop i=[]:=List.drop_eq_nil_of_le (by omega);refine W.ret ⟨_,rfl,?_,rfl⟩;exact .of (by rw[show om a b=0 by rw[ο,kp,h6];rfl];rfl)
def mI (x y:Int×Int):Int:=om [x.1,x.2] [y.1,y.2]
theorem L2 (x y:Int×Int):av Tryz.prog 174 [ax x,ax y] (U (mI x y)):=by
 refine ak.body Θ Tryz.func174 rfl rfl Tryz.ntmps174 rfl rfl (by simp) ?_;(repeat (first|apply ι|(refine ν fun J I=>?_;simp;(repeat (rw[ζ];simp));apply I;clear I J)));refine W.draw (A:=[]) Θ mixed fun J I=>?_;simp;(repeat (rw[bp];simp));refine gn (av.p (L1 [x.1,x.2] [y.1,y.2] (by simp)) (.cons .ex (.cons .ex .nil)) (by simp) (by simp)) ?_;simp;(repeat (rw[bp];simp));refine⟨bL (by kernel_rfl),I _ _ ?_⟩;clear I J;(repeat (first|apply ι|(refine ν fun J I=>?_;simp;(repeat (rw[ζ];simp));apply I;clear I J)));refine W.ret ⟨_,rfl,?_,rfl⟩;exact .of rfl
theorem UH (x y:Found):av Tryz.prog 148 [cX x,cX y] (U (mI (x.u,x.v) (y.u,y.v))):=by
 refine ak.body Θ Tryz.func148 rfl rfl Tryz.ntmps148 rfl rfl (by simp) ?_;(repeat (first|apply ι|(refine ν fun J I=>?_;simp;(repeat (rw[ζ];simp));apply I;clear I J)));refine W.draw (A:=[]) Θ mixed fun J I=>?_;simp;(repeat (rw[bp];simp));refine gn (av.p (L1 [x.u,x.v] [y.u,y.v] (by simp)) (.cons .ex (.cons .ex .nil)) (by simp) (by simp)) ?_;simp;(repeat (rw[bp];simp));refine⟨bL (by kernel_rfl),I _ _ ?_⟩;clear I J;(repeat (first|apply ι|(refine ν fun J I=>?_;simp;(repeat (rw[ζ];simp));apply I;clear I J)));refine W.ret ⟨_,rfl,?_,rfl⟩;exact .of rfl
def gB (l:List Found):Nat:=(l.map (·.many (-1))).sum
theorem L3 (l:List Found) (ω:l.length<2 ^ 62) (R:∀f∈l,f.cells.length<2 ^ 62∧∀i,i≤f.cells.length→fx f.cells (-1) i<2 ^ 62) (γ:gB l<2 ^ 62) :
  av Tryz.prog 79 [cJ l] (U (gB l)):=by
 refine ak.body Θ Tryz.func79 rfl rfl Tryz.ntmps79 rfl rfl (by simp) ?_;(repeat (first|apply ι|(refine ν fun J I=>?_;simp;(repeat (rw[ζ];simp));apply I;clear I J)));refine W.iter (fun i:Nat=>i≤l.length) (fun i=>[(3,U (gB (l.take i))),(6,cJ l),(7,U l.length),(8,U i)]) (fun _=>[]) (fun i=>l.length-i) 0 (Nat.zero_le _) rfl (by simp[gB]) (fun i hi Γ=>?_);(repeat (first|apply ι|(refine ν fun J I=>?_;simp;(repeat (rw[ζ];simp));apply I;clear I J)));refine W.dY rfl (fun η=>?_) (fun η=>?_)
 ·have η:i<l.length:=by simpa using η
  obtain⟨Ξ,ad⟩:=R _ (List.getElem_mem η);have ξ:gB (l.take (i+1))=gB (l.take i)+l[i].many (-1):=by
   unfold gB;rw[List.take_succ_eq_append_getElem η,List.map_append,List.sum_append];simp only[List.map_cons,List.map_nil,List.sum_cons,List.sum_nil,Nat.add_zero]
  have aE:gB (l.take i)+l[i].many (-1)<2 ^ 62:=by
   rw[←ξ];have e:gB l=gB (l.take (i+1))+gB (l.drop (i+1)):=by
    conv=>lhs;rw[←List.take_append_drop (i+1) l]
    simp only[gB,List.map_append,List.sum_append]
   omega
  repeat first|apply ι
  refine de (A:=[5]) Θ fun J I=>?_;simp;(repeat (rw[ζ];simp[η]));apply I;clear I J;(repeat (first|apply ι));refine ν fun J I=>?_;simp;(repeat (rw[ζ];simp));refine av.c (CQ l[i] (-1) Ξ ad) (aI.refl _) (by simp) (by simp) ?_;simp;(repeat (rw[ζ];simp));apply I;clear I J;(repeat (first|apply ι|(refine ν fun J I=>?_;simp;(repeat (rw[ζ];simp));apply I;clear I J)));refine W.drop (h:=0) (Nat.zero_le _) (Nat.zero_le _) (by simp) rfl _ ?_ (Γ (i+1) η (by omega));rw[ξ];have:=fy aE;simp[eD η ω] at this ⊢;exact this
 ·have η:i=l.length:=by simp at η;omega
  subst η;refine W.exit rfl ?_;(repeat (first|apply ι|(refine ν fun J I=>?_;simp;(repeat (rw[ζ];simp));apply I;clear I J)));refine W.ret ⟨_,rfl,?_,rfl⟩;exact .of (by rw[show gB l=gB (l.take l.length) by simp];rfl)
end Go.TL
