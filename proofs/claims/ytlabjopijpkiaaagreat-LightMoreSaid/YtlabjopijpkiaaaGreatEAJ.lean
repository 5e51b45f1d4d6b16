import Derived.Sort.AssemblyPlain
import Derived.Test.YtlabjopijpkiaaaGreatEAI
set_option maxHeartbeats 16000000
set_option maxRecDepth 20000
set_option linter.unusedSectionVars false
set_option linter.unusedSimpArgs false
set_option linter.unusedVariables false
namespace Go.TL
open Go.Proofs
variable [bq]
theorem IU:IntKind.i64.wrap 1=1:=br
theorem IV:IntKind.i64.wrap 2=2:=br
theorem eX {i n:Nat} (h:i<n) (Θ:n<2 ^ 62):IntKind.i64.wrap ((i:Int)+1)=((i+1:Nat):Int):=by
 rw[IntWalk.i64_in _ J];rfl
theorem Ox {α:Type} (f:α->θ) (z:θ) (l:List α) {i:Nat} (h:i<l.length) (dh:i<(fill f z l i).length):(fill f z l i)[i]=z:=by
 have:=XK f z l h;rw[a6 dh] at this;exact Option.some.inj this
theorem IW (a b:List Int) (ν:a.length<2 ^ 62):aB Tryz.prog 30 [bD I 1 a,bD I 1 b] (ba (a==b)):=by
 refine af.body Φ Tryz.func30 rfl rfl Tryz.ntmps30 rfl rfl η ?_;refine Η ?_;refine W.iter (λp:Nat×Bool=>p.1<=a.length/\(p.2=true->a.length=b.length/\∀j,j<p.1->a[j]?=b[j]?)/\(p.2=false->a≠b)) (λp=>[(0,bD I 1 a),(1,bD I 1 b),(5,ba p.2),(6,I p.1)]) (λ_=>[]) (λp=>a.length-p.1) (0,decide (a.length=b.length)) ⟨Nat.zero_le _,η,by simp;exact λh e=>h (by rw[e])⟩ rfl η (λi hi Α=>?_);rcases i with⟨i,_|_⟩
 ·refine Η ?_;refine ay rfl ?_;refine W.exit rfl ?_;refine Η ?_;refine W.rt ?_;exact .of (by simp[hi.2.2 rfl])
 ·refine Η ?_;have π:=(hi.2.1 rfl).1;refine W.ey rfl (λε=>?_) (λε=>?_)
  ·have ε:i<a.length:=by simpa using ε
   have a2:i<b.length:=J;refine Η ?_;refine dH (ς ε a2) ?_;refine Η ?_;refine W.forget _ ?_ (Α (i+1,decide (a[i]=b[i])) ⟨by simp;omega,λh=>⟨π,λj ζ=>?_⟩,λh e=>?_⟩ (by simp;omega))
   ·simp[eX ε ν]
   ·by_cases e:j=i
    ·subst e;rw[a6 ε,a6 a2];simpa using h
    ·exact(hi.2.1 rfl).2 j (by simp at ζ;omega)
   ·subst e;simp at h
  ·have ε:a.length<=i:=by simpa using ε
   refine W.exit rfl ?_;refine Η ?_;refine W.rt ?_;refine .of ?_;have:a=b:=List.ext_getElem? λj=>by
    by_cases ζ:j<i
    ·exact(hi.2.1 rfl).2 j ζ
    ·rw[List.getElem?_eq_none J,List.getElem?_eq_none J]
   simp[this]
theorem XQ (l:List Int) (π:l.length<2 ^ 44):aB Tryz.prog 44 [bD I 1 l] (bD I 1 l):=by
 refine af.body Φ Tryz.func44 rfl rfl Tryz.ntmps44 rfl rfl η ?_
 repeat apply ae
 refine l9 ?_
 repeat apply ae
 refine dj (A:=[7]) Φ λΚ κ=>bp ?_;refine⟨J,?_⟩;apply κ;refine Η ?_;refine W.iter (λi:Nat=>i<=l.length) (λi=>[(0,bD I 1 l),(3,.ms 0 l.length 0 l.length),(4,I i)]) (λi=>[.cells 3 1 (fill I (I 0) l i)]) (λi=>l.length-i) 0 (Nat.zero_le _) (by simp[On]) η (λi hi Α=>?_);refine Η ?_;refine W.ey rfl (λε=>?_) (λε=>?_)
 ·have ε:i<l.length:=by simpa using ε
  refine aE (ς ε (ς (Oq I (I 0) l hi) (ς (Ox I (I 0) l ε) (Ot I (I 0) l ε)))) ?_;refine W.forget _ ?_ (Α (i+1) ε J);simp[eX ε (show l.length<2 ^ 62 by omega)]
 ·have ε:l.length<=i:=by simpa using ε
  refine W.exit rfl ?_;refine Η ?_;refine W.cut 0 (Nat.zero_le _) [(2,bD I 1 l)] η η (by simp;rw[Oo _ _ _ ε];exact .own (Nat.zero_le _) rfl η η) ?_;refine W.rt ?_;exact .refl _
abbrev aX (l:List (List Int)):θ:=bD (bD I 1) 1 l
theorem XR (l:List (List Int)) (π:l.length<2 ^ 40) (ξ:∀x∈l,x.length<2 ^ 44):aB Tryz.prog 74 [aX l] (aX l):=by
 refine af.body Φ Tryz.func74 rfl rfl Tryz.ntmps74 rfl rfl η ?_
 repeat apply ae
 refine l9 ?_
 repeat apply ae
 refine dj (A:=[7]) Φ λΚ κ=>bp ?_;refine⟨J,?_⟩;apply κ;refine Η ?_;refine W.iter (λi:Nat=>i<=l.length) (λi=>[(0,aX l),(3,.ms 0 l.length 0 l.length),(4,I i)]) (λi=>[.cells 29 1 (fill (bD I 1) (.sl true 0 []) l i)]) (λi=>l.length-i) 0 (Nat.zero_le _) (by simp[On]) η (λi hi Α=>?_);refine Η ?_;refine W.ey rfl (λε=>?_) (λε=>?_)
 ·have ε:i<l.length:=by simpa using ε
  refine g9 ε λΚ κ=>?_;refine aB.d (XQ _ (ξ _ (List.getElem_mem _))) (gh (ς ε (ς (Oq (bD I 1) (.sl true 0 []) l hi) (ς (Ox (bD I 1) (.sl true 0 []) l ε) (Ot (bD I 1) (.sl true 0 []) l ε)))) ?_);apply κ;refine Η ?_;refine W.forget _ ?_ (Α (i+1) ε J);simp[eX ε (show l.length<2 ^ 62 by omega)]
 ·have ε:l.length<=i:=by simpa using ε
  refine W.exit rfl ?_;refine Η ?_;refine W.cut 0 (Nat.zero_le _) [(2,aX l)] η η (by simp;rw[Oo _ _ _ ε];exact .own (Nat.zero_le _) rfl η η) ?_;refine W.rt ?_;exact .refl _
theorem IX (l:List Int) (n:Int) (π:l.length<2 ^ 62):aB Tryz.prog 71 [bD I 1 l,I n] (I (if n∈l then(l.idxOf n:Nat) else -1)):=by
 refine af.body Φ Tryz.func71 rfl rfl Tryz.ntmps71 rfl rfl η ?_;refine Η ?_;refine W.iter (λi:Nat=>i<=l.length/\∀j,j<i->(h:j<l.length)->l[j]≠n) (λi=>[(0,bD I 1 l),(1,I n),(5,I i)]) (λ_=>[]) (λi=>l.length-i) 0 ⟨Nat.zero_le _,λj ζ=>J⟩ rfl η (λi hi Α=>?_)
 repeat apply ae
 by_cases ε:i<l.length
 ·refine aE ε ?_;refine W.ey rfl (λa2=>?_) (λa2=>?_)
  ·have Θ:l[i]≠n:=by simpa using a2
   refine Η ?_;refine W.forget _ ?_ (Α (i+1) ⟨ε,λj ζ h=>?_⟩ J)
   ·simp[eX ε π]
   ·by_cases e:j=i
    ·subst e;exact Θ
    ·exact hi.2 j J h
  ·have Θ:l[i]=n:=by simpa using a2
   refine W.exit rfl ?_;refine Η ?_;have bx:¬i=l.length:=J;refine ay (by simp[bx]) ?_;refine Η ?_;refine W.rt ?_;have hm:n∈l:=Θ▸List.getElem_mem _;refine .of ?_;rw[if_pos hm];have:l.idxOf n=i:=by
    have aN:l.idxOf n<l.length:=List.idxOf_lt_length_of_mem hm
    have Ζ:l[l.idxOf n]=n:=List.getElem_idxOf aN
    have U:¬l.idxOf n<i:=λh=>hi.2 _ h aN Ζ
    have γ:¬i<l.idxOf n:=λh=>by
     have:=List.not_of_lt_findIdx (p:=(·==n)) (xs:=l) (i:=i) h;simp[Θ] at this
    omega
   rw[this];rfl
 ·refine aE ε ?_;refine ay rfl ?_;refine W.exit rfl ?_;refine Η ?_;have he:i=l.length:=J;refine aC (by simp[he]) ?_;refine Η ?_;refine W.rt ?_;have hm:n∉l:=λh=>by
   obtain⟨j,ζ,e⟩:=List.getElem_of_mem h;exact hi.2 j J ζ e
  exact .of (by simp[hm])
theorem XS (a b:List (List Int)) (ν:a.length<2 ^ 40) (ξ:∀x∈a,x.length<2 ^ 40):aB Tryz.prog 50 [aX a,aX b] (ba (a==b)):=by
 refine af.body Φ Tryz.func50 rfl rfl Tryz.ntmps50 rfl rfl η ?_;refine Η ?_;refine W.iter (λp:Nat×Bool=>p.1<=a.length/\(p.2=true->a.length=b.length/\∀j,j<p.1->a[j]?=b[j]?)/\(p.2=false->a≠b)) (λp=>[(0,aX a),(1,aX b),(5,ba p.2),(6,I p.1)]) (λ_=>[]) (λp=>a.length-p.1) (0,decide (a.length=b.length)) ⟨Nat.zero_le _,η,by simp;exact λh e=>h (by rw[e])⟩ rfl η (λi hi Α=>?_);rcases i with⟨i,_|_⟩
 ·refine Η ?_;refine ay rfl ?_;refine W.exit rfl ?_;refine Η ?_;refine W.rt ?_;exact .of (by simp[hi.2.2 rfl])
 ·refine Η ?_;have π:=(hi.2.1 rfl).1;refine W.ey rfl (λε=>?_) (λε=>?_)
  ·have ε:i<a.length:=by simpa using ε
   have a2:i<b.length:=J;refine Η ?_;refine W.draw (A:=[]) Φ mixed λΚ κ=>gi (ς ε a2) ?_;refine eD (aB.q (IW a[i] b[i] (by have:=ξ _ (List.getElem_mem ε);omega))) (sm ?_);refine en (κ _ _ ?_);refine Η ?_;refine W.forget _ ?_ (Α (i+1,a[i]==b[i]) ⟨by simp;omega,λh=>⟨π,λj ζ=>?_⟩,λh e=>?_⟩ (by simp;omega))
   ·simp[eX ε (show a.length<2 ^ 62 by omega)]
   ·by_cases e:j=i
    ·subst e;rw[a6 ε,a6 a2];simpa using h
    ·exact(hi.2.1 rfl).2 j (by simp at ζ;omega)
   ·subst e;simp at h
  ·have ε:a.length<=i:=by simpa using ε
   refine W.exit rfl ?_;refine Η ?_;refine W.rt ?_;refine .of ?_;have:a=b:=List.ext_getElem? λj=>by
    by_cases ζ:j<i
    ·exact(hi.2.1 rfl).2 j ζ
    ·rw[List.getElem?_eq_none J,List.getElem?_eq_none J]
   simp[this]
structure mU where
 name:ByteArray
 strokes:Int
deriving DecidableEq
structure cZ where
 cd:Int
 seen:Int
 bare:Int
deriving DecidableEq
structure aU where
 ar:List mU
 az:List (List Int)
 cells:List (List cZ)
deriving DecidableEq
abbrev e5 (g:mU):θ:=.a3 [ou g.name,I g.strokes]
abbrev dX (p:cZ):θ:=.a3 [I p.cd,I p.seen,I p.bare]
abbrev aY (l:List mU):θ:=bD e5 2 l
abbrev pd (l:List cZ):θ:=bD dX 3 l
abbrev bO (l:List (List cZ)):θ:=bD pd 1 l
abbrev fu (s:aU):θ:=.a3 [aY s.ar,aX s.az,bO s.cells]
def aU.small (s:aU):Prop:=s.ar.length<2 ^ 30/\s.az.length<2 ^ 30/\s.cells.length<2 ^ 30/\(∀x∈s.az,x.length<2 ^ 30)/\∀x∈s.cells,x.length<2 ^ 30
@[simp] theorem lΥ (x y:Int):(x != y) = !decide (x=y):=by rw[Bool.eq_iff_iff];simp
section
variable {P:Program} {m nt:Nat} {k:List Item} {env:ab} {σ σ':ac} {Z:be} {E:aq}
theorem W.drop {h:Nat} (hm:m<=h) (a5:h<=σ.length) (k4:∀(id:Nat) (r:Row),id<h->σ[id]?=some r->fC h r) (mT:σ.take h=σ') (env':ab) (cO:∀p∈env',a' env p.1=p.2/\aG h p.2) (hW:W P m nt k env' σ' Z E):W P m nt k env σ Z E:=
 W.cut h hm env' a5 k4 (λp ω=>by rw[(cO p ω).1];exact .low (cO p ω).2) (by rw[mT];exact hW)
theorem W.fix {id:Nat} {t:TypeId} {e:θ} {kk:Nat} (hm:m<=id) (bX:σ[id]?=some (.cells t kk [e])) (he:∀a∈e.cells,aG id a) (k4:∀(Ey:Nat) (r:Row),Ey<id->σ[Ey]?=some r->fC id r) (mT:σ.take id=σ') (env':ab)
  (cO:∀p∈env',(a' env p.1=p.2/\aG id p.2)\/(a' env p.1=.ak id 1 0 0/\p.2=.au e.cells)) (hW:W P m nt k env' σ' Z E):W P m nt k env σ Z E:=
 W.cut id hm env' (Nat.le_of_lt (b0.1 bX).1) k4 (λp ω=>by
  rcases cO p ω with⟨U,γ⟩|⟨U,γ⟩
  ·rw[U];exact .low γ
  ·rw[U,γ];refine .ak (Nat.le_refl _) bX rfl (e:=e) rfl η λx a cj aa ai=>?_;rw[Nat.zero_add] at aa;rw[aa] at ai;cases ai;exact .low (he a (cy aa))) (by rw[mT];exact hW)
theorem W.to {env':ab} (h:W P m nt k env' σ' Z E) (mT:σ=σ') (cO:∀p∈env',a' env p.1=p.2):W P m nt k env σ Z E:=mT▸W.forget env' cO h
end
abbrev ow (a b:Int):Int:=eG .i64 a b
abbrev pZ (a b:Int):Int:=fB .i64 a b
abbrev xd (a b:Int):Int:=eP .i64 a b
section
variable {P:Program} {σ:ac}
theorem ef.c {f:θ} {args:am} {r:θ} {K E:θ->ac->Prop} (h:ef P f args r) (κ:K r σ):hV P f args σ K E:=
 hV.mono (h σ) (λa s ⟨U,γ⟩=>by subst U;subst γ;exact κ) (λ_ _ h=>h.elim)
end
def ox (n:Int):Bool:=decide (0<=n)&&decide (n<=2)
theorem p0 (n:Int):aB Tryz.prog 93 [I n] (ba (ox n)):=by
 refine af.body Φ Tryz.func93 rfl rfl Tryz.ntmps93 rfl rfl η ?_;by_cases h:0<=n
 ·refine aE h ?_;refine W.rt ?_;exact .of (by simp[ox,h])
 ·refine aE h ?_;refine W.rt ?_;exact .of (by simp[ox,h])
def valid (n:Int):Bool:=decide (0<=n)&&decide (n<=63)
theorem yR (n:Int):aB Tryz.prog 109 [I n] (ba (valid n)):=by
 refine af.body Φ Tryz.func109 rfl rfl Tryz.ntmps109 rfl rfl η ?_;by_cases h:0<=n
 ·refine aE h ?_;refine W.rt ?_;exact .of (by simp[valid,h])
 ·refine aE h ?_;refine W.rt ?_;exact .of (by simp[valid,h])
theorem Oy (a b:Int):aB Tryz.prog 196 [I a,I b] (ba (ow a b==0)):=by
 refine af.body Φ Tryz.func196 rfl rfl Tryz.ntmps196 rfl rfl η ?_;refine Η ?_;refine W.rt ?_;exact .of η
theorem Oz (a b:Int):aB Tryz.prog 210 [I a,I b] (ba (xd a b==0)):=by
 refine af.body Φ Tryz.func210 rfl rfl Tryz.ntmps210 rfl rfl η ?_;refine Η ?_;refine W.rt ?_;exact .of η
theorem IY (b:Bool):aB Tryz.prog 127 [ba b] (I (if b then 1 else 0)):=by
 refine af.body Φ Tryz.func127 rfl rfl Tryz.ntmps127 rfl rfl η ?_;cases b
 ·refine Η ?_;refine ay rfl ?_;refine Η ?_;refine W.rt ?_;exact .refl _
 ·refine Η ?_;refine aC rfl ?_;refine Η ?_;refine W.rt ?_;exact .refl _
theorem IZ (n:Int):aB Tryz.prog 193 [I n] (ba false):=by
 refine af.body Φ Tryz.func193 rfl rfl Tryz.ntmps193 rfl rfl η ?_;refine Η ?_;refine W.rt ?_;exact .of η
def EX (n:Int):Int:=pZ (pZ (xd n 15) (IntKind.i64.wrap (ow n 5*2))) ((ow n 10).fdiv 2)
theorem XT (n:Int):aB Tryz.prog 99 [I n] (I (EX n)):=by
 refine af.body Φ Tryz.func99 rfl rfl Tryz.ntmps99 rfl rfl η ?_;refine Η ?_;refine W.rt ?_;exact .of (by simp[EX,IntKind.bits])
def idxOf {α:Type} (p:α->Bool) (l:List α):Int:=if l.any p then(l.findIdx p:Nat) else -1
theorem EY {α:Type} {p:α->Bool} {l:List α} {i:Nat} (h:i<l.length) (U:p l[i]=true) (γ:∀j,j<i->(ζ:j<l.length)->p l[j]=false):idxOf p l=(i:Nat):=by
 have ν:l.any p=true:=List.any_eq_true.2 ⟨_,List.getElem_mem h,U⟩
 have:l.findIdx p=i:=by
  have ο:¬l.findIdx p<i:=λaN=>by
   have π:l.findIdx p<l.length:=J
   have:=List.findIdx_getElem (p:=p) (w:=π);rw[γ _ aN π] at this;cases this
  have Ι:¬i<l.findIdx p:=λaN=>by
   have:=List.not_of_lt_findIdx aN;rw[U] at this;simp at this
  omega
 unfold idxOf;rw[if_pos ν,this]
theorem EZ {α:Type} {p:α->Bool} {l:List α} (h:∀j,(ζ:j<l.length)->p l[j]=false):idxOf p l=-1:=by
 have:l.any p=false:=by
  rw[List.any_eq_false];intro x δ;obtain⟨j,ζ,rfl⟩:=List.getElem_of_mem δ;simp[h j ζ]
 unfold idxOf;rw[this];rfl
theorem E0 {α:Type} {p:α->Bool} {l:List α}:decide (idxOf p l>=0)=l.any p:=by
 unfold idxOf;cases h:l.any p<;>simp
theorem XU (l:List Int) (n:Int) (π:l.length<2 ^ 62):aB Tryz.prog 137 [bD I 1 l,I n] (I (idxOf (·==n) l)):=by
 refine af.body Φ Tryz.func137 rfl rfl Tryz.ntmps137 rfl rfl η ?_;refine Η ?_;refine W.iter (λi:Nat=>i<=l.length/\∀j,j<i->(h:j<l.length)->(l[j]==n)=false) (λi=>[(0,bD I 1 l),(1,I n),(6,bD I 1 l),(7,I l.length),(8,I i)]) (λ_=>[]) (λi=>l.length-i) 0 ⟨Nat.zero_le _,λj ζ=>J⟩ rfl η (λi hi Α=>?_);refine Η ?_;refine W.ey rfl (λε=>?_) (λε=>?_)
 ·have ε:i<l.length:=by simpa using ε
  refine aE ε ?_;refine W.ey rfl (λa2=>?_) (λa2=>?_)
  ·have Θ:n=l[i]:=by simpa using a2
   refine Η ?_;refine W.rt ?_;exact .of (by rw[EY ε (by simp[Θ]) hi.2];rfl)
  ·have Θ:¬n=l[i]:=by simpa using a2
   refine Η ?_;refine W.forget _ ?_ (Α (i+1) ⟨J,λj ζ h=>?_⟩ J)
   ·simp[eX ε π]
   ·by_cases e:j=i
    ·subst e;simpa using λx=>Θ x.symm
    ·exact hi.2 j J h
 ·have ε:l.length<=i:=by simpa using ε
  refine W.exit rfl ?_;refine Η ?_;refine W.rt ?_;exact .of (by rw[EZ λj ζ=>hi.2 j J ζ];rfl)
theorem any_beq (l:List Int) (n:Int):(l.any λx=>x==n)=l.contains n:=by
 rw[Bool.eq_iff_iff];simp
theorem OA (l:List Int) (n:Int) (π:l.length<2 ^ 62):aB Tryz.prog 110 [bD I 1 l,I n] (ba (l.contains n)):=by
 refine af.body Φ Tryz.func110 rfl rfl Tryz.ntmps110 rfl rfl η ?_;refine Η ?_;refine bc λΚ κ=>?_;refine aB.d (XU l n π) (bp ?_);apply κ;refine Η ?_;refine W.rt ?_;exact .of (by rw[<-any_beq,<-E0];rfl)
@[simp high] theorem XV {h:Nat} {e:Bool} {k:Nat} {α:Type} {f:α->θ} {l:List α}:aG h (.sl e k (l.map f))↔∀x∈l,∀a∈(f x).cells,aG h a:=by
 rw[g7];simp only[List.mem_map];exact⟨λH x δ=>H _ ⟨x,δ,rfl⟩,λH e ⟨x,δ,he⟩=>he▸H x δ⟩
@[simp high] theorem lΦ {h:Nat} {e:Bool} {k n:Nat} {α:Type} {f:α->θ} {l:List α}:aG h (.sl e k ((l.map f).take n))↔∀x∈l.take n,∀a∈(f x).cells,aG h a:=by
 rw[<-List.map_take];exact XV
abbrev aK (r:Int×Int):θ:=.a3 [I r.1,I r.2]
abbrev k' (l:List (Int×Int)):θ:=bD aK 2 l
abbrev mV (l:List (List (Int×Int))):θ:=bD k' 1 l
structure Found where
 u:Int
 v:Int
 cells:List (List (Int×Int))
deriving DecidableEq
abbrev du (f:Found):θ:=.a3 [I f.u,I f.v,mV f.cells]
abbrev cL (l:List Found):θ:=bD du 3 l
def aU.of (s:aU) (g:Int):Int:=if g<0 then 0 else((s.ar[g.toNat]?).map (·.strokes)).getD 0
theorem EV (s:aU) (g:Int) (Ω:g<s.ar.length):aB Tryz.prog 125 [fu s,I g] (I (s.of g)):=by
 refine af.body Φ Tryz.func125 rfl rfl Tryz.ntmps125 rfl rfl η ?_;refine Η ?_;refine W.ey rfl (λε=>?_) (λε=>?_)
 ·have ε:g<0:=by simpa using ε
  refine Η ?_;refine W.rt ?_;exact .of (by rw[show s.of g=0 by simp[aU.of,ε]];rfl)
 ·have ε:¬g<0:=by simpa using ε
  obtain⟨n,rfl⟩:∃n:Nat,g=n:=⟨g.toNat,J⟩;have Θ:n<s.ar.length:=J;refine aE Θ ?_;refine W.rt ?_;exact .of (by rw[show s.of n=s.ar[n].strokes by simp[aU.of,Θ];intro h;omega];rfl)
def aU.gv (s:aU) (p r:Int×Int) (cd:Nat):Int:=
 let l:=(s.az[cd]?).getD []
 let a:=if l.contains p.1 then pZ 0 (s.of r.1) else 0
 if l.contains p.2 then pZ a (s.of r.2) else a
theorem Bd (s:aU) (ξ:s.small) (p r:Int×Int) (n:Nat) (Θ:n<s.az.length) (U:r.1<s.ar.length) (γ:r.2<s.ar.length) :
  aB Tryz.prog 77 [fu s,aK p,aK r,I n] (I (s.gv p r n)):=by
 refine af.body Φ Tryz.func77 rfl rfl Tryz.ntmps77 rfl rfl η ?_;have π:s.az[n].length<2 ^ 62:=by have:=ξ.2.2.2.1 _ (List.getElem_mem Θ);omega
 refine Η ?_;refine W.iter (λq:Nat×Int=>q.1<=2/\(q.1=0->q.2=0)/\(q.1=1->q.2=if s.az[n].contains p.1 then pZ 0 (s.of r.1) else 0)/\(q.1=2->q.2=s.gv p r n))
  (λq=>[(3,I n),(4,.au [aY s.ar,aX s.az,bO s.cells]),(5,.au [I p.1,I p.2]),(6,.au [I r.1,I r.2]),(9,I q.2),(12,aK p),(13,I q.1)]) (λ_=>[]) (λq=>2-q.1) (0,0) ⟨J,η,η,η⟩ rfl η (λq hi Α=>?_)
 rcases q with⟨i,x⟩
 match i,hi,Α with
 | 0,hi,Α=>
  have δ:x=0:=hi.2.1 rfl;subst δ;refine Η ?_;refine aC rfl ?_;refine Η ?_;refine g9 Θ λΚ κ=>?_;refine aB.d (OA s.az[n] p.1 π) (bp ?_);apply κ;by_cases ε:p.1∈s.az[n]
  ·refine aC (by simp[ε]) ?_;refine Η ?_;refine W.draw (A:=[]) Φ mixed λΚ κ=>sm ?_;refine eD (aB.q (EV s r.1 U)) (sm ?_);refine en (κ _ _ ?_);refine Η ?_;refine W.forget _ ?_ (Α (1,pZ 0 (s.of r.1)) ⟨η,η,by simp[ε],η⟩ η);simp[IU]
  ·refine ay (by simp[ε]) ?_;refine Η ?_;refine W.forget _ ?_ (Α (1,0) ⟨η,η,by simp[ε],η⟩ η);simp[IU]
 | 1,hi,Α=>
  have δ:=hi.2.2.1 rfl;simp at δ;refine Η ?_;refine aC rfl ?_;refine Η ?_;refine g9 Θ λΚ κ=>?_;refine aB.d (OA s.az[n] p.2 π) (bp ?_);apply κ;by_cases ε:p.2∈s.az[n]
  ·refine aC (by simp[ε]) ?_;refine Η ?_;refine W.draw (A:=[]) Φ mixed λΚ κ=>sm ?_;refine eD (aB.q (EV s r.2 γ)) (sm ?_);refine en (κ _ _ ?_);refine Η ?_;refine W.forget _ ?_ (Α (2,pZ x (s.of r.2)) ⟨η,η,η,λ_=>by simp only[aU.gv,a6 Θ];simp[ε,δ]⟩ η);simp[IV]
  ·refine ay (by simp[ε]) ?_;refine Η ?_;refine W.forget _ ?_ (Α (2,x) ⟨η,η,η,λ_=>by simp only[aU.gv,a6 Θ];simp[ε,δ]⟩ η);simp[IV]
 | 2,hi,Α=>
  have δ:=hi.2.2.2 rfl;refine Η ?_;refine ay rfl ?_;refine W.exit rfl ?_;refine Η ?_;refine W.rt ?_;exact .of (by rw[<-show x=s.gv p r n from δ];rfl)
 | i+3,hi,Α=>exact absurd hi.1 η
def aU.kH (s:aU) (p r:Int×Int) (x:cZ):Bool:=xd x.seen (s.gv p r x.cd.toNat)==0&&ow (s.gv p r x.cd.toNat) x.bare==0
def aU.p1 (s:aU) (p r:Int×Int) (c:Nat):Bool:=((s.cells[c]?).getD []).all (s.kH p r)
theorem XW (s:aU) (ξ:s.small) (p r:Int×Int) (c:Nat) (Θ:c<s.cells.length) (hv:∀x∈s.cells[c],0<=x.cd/\x.cd<s.az.length) (U:r.1<s.ar.length) (γ:r.2<s.ar.length) :
  aB Tryz.prog 172 [fu s,aK p,aK r,I c] (ba (s.p1 p r c)):=by
 refine af.body Φ Tryz.func172 rfl rfl Tryz.ntmps172 rfl rfl η ?_;have π:s.cells[c].length<2 ^ 62:=by have:=ξ.2.2.2.2 _ (List.getElem_mem Θ);omega
 have fK:s.p1 p r c=s.cells[c].all (s.kH p r):=by simp[aU.p1,Θ]
 rw[fK];refine aE Θ ?_;refine W.iter (λi:Nat=>i<=s.cells[c].length/\∀j,j<i->(h:j<s.cells[c].length)->s.kH p r s.cells[c][j]=true)
  (λi=>[(4,.au [aY s.ar,aX s.az,bO s.cells]),(5,.au [I p.1,I p.2]),(6,.au [I r.1,I r.2]),(17,pd s.cells[c]),(18,I s.cells[c].length),(19,I i)]) (λ_=>[]) (λi=>s.cells[c].length-i) 0 ⟨J,λj ζ=>J⟩ rfl η (λi hi Α=>?_)
 refine Η ?_;refine W.ey rfl (λε=>?_) (λε=>?_)
 ·have ε:i<s.cells[c].length:=by simpa using ε
  have δ:=hv _ (List.getElem_mem ε);obtain⟨n,tF⟩:∃n:Nat,s.cells[c][i].cd=n:=⟨s.cells[c][i].cd.toNat,J⟩;have oW:n<s.az.length:=J;have bt:s.kH p r s.cells[c][i]=(xd s.cells[c][i].seen (s.gv p r n)==0&&ow (s.gv p r n) s.cells[c][i].bare==0):=by simp[aU.kH,tF]
  repeat apply ae
  refine dj (A:=[10]) Φ λΚ κ=>gh ε ?_;apply κ
  repeat apply ae
  refine g9 tF λΚ κ=>?_;refine aB.d (Bd s ξ p r n oW U γ) (bp ?_);apply κ
  repeat apply ae
  by_cases aa:xd s.cells[c][i].seen (s.gv p r n)=0
  ·refine g9 @aa λΚ κ=>?_;refine aB.d (Oz s.cells[c][i].seen (s.gv p r n)) (gh @aa ?_);refine aB.d (Oy (s.gv p r n) s.cells[c][i].bare) (bp ?_);apply κ;by_cases ai:ow (s.gv p r n) s.cells[c][i].bare=0
   ·refine ay (by simp[ai]) ?_;refine Η ?_;refine W.drop (h:=0) (Nat.zero_le _) (Nat.zero_le _) η rfl _ ?_ (Α (i+1) ⟨J,λj ζ h=>?_⟩ J)
    ·simp[eX ε π]
    ·by_cases e:j=i
     ·subst e;rw[bt];simp[aa,ai]
     ·exact hi.2 j J h
   ·refine aC (by simp[ai]) ?_;refine Η ?_;refine W.drop (h:=0) (Nat.zero_le _) (Nat.zero_le _) η rfl [(8,ba false)] η ?_;refine W.rt ?_;exact .of (by rw[show s.cells[c].all (s.kH p r)=false from List.all_eq_false.2 ⟨_,List.getElem_mem ε,by rw[bt];simp[ai]⟩];rfl)
  ·refine g9 @aa λΚ κ=>?_;refine aB.d (Oz s.cells[c][i].seen (s.gv p r n)) (gh @aa ?_);apply κ;refine aC η ?_;refine Η ?_;refine W.drop (h:=0) (Nat.zero_le _) (Nat.zero_le _) η rfl [(8,ba false)] η ?_;refine W.rt ?_;exact .of (by rw[show s.cells[c].all (s.kH p r)=false from List.all_eq_false.2 ⟨_,List.getElem_mem ε,by rw[bt];simp[aa]⟩];rfl)
 ·have ε:s.cells[c].length<=i:=by simpa using ε
  refine W.exit rfl ?_;refine Η ?_;refine W.ret ⟨_,rfl,?_,rfl⟩;refine .of ?_;rw[show s.cells[c].all (s.kH p r)=true from List.all_eq_true.2 λx δ=>by
   obtain⟨j,ζ,rfl⟩:=List.getElem_of_mem δ;exact hi.2 j J ζ]
  rfl
def hG (l:List (List (Int×Int))) (ha:Int) (i:Nat):Nat:=((List.range i).map λj:Nat=>if(j:Int)=ha then 1 else((l[j]?).getD []).length).prod
theorem E1 (l:List (List (Int×Int))) (ha:Int) (i:Nat):hG l ha (i+1)=hG l ha i*(if(i:Int)=ha then 1 else((l[i]?).getD []).length):=by
 unfold hG;rw[List.range_succ,List.map_append,List.prod_append];simp
def Found.many (f:Found) (ha:Int):Nat:=hG f.cells ha f.cells.length
theorem eY {n:Nat} (h:n<2 ^ 62):IntKind.i64.wrap (n:Int)=n:=IntWalk.i64_in _ J
theorem E2 (f:Found) (ha:Int) (π:f.cells.length<2 ^ 62) (hm:∀i,i<=f.cells.length->hG f.cells ha i<2 ^ 62) :
  aB Tryz.prog 78 [du f,I ha] (I (f.many ha)):=by
 refine af.body Φ Tryz.func78 rfl rfl Tryz.ntmps78 rfl rfl η ?_;refine Η ?_;refine W.iter (λi:Nat=>i<=f.cells.length) (λi=>[(1,I ha),(5,I (hG f.cells ha i)),(9,mV f.cells),(10,I f.cells.length),(11,I i)]) (λ_=>[]) (λi=>f.cells.length-i) 0 (Nat.zero_le _) rfl (by simp[hG]) (λi hi Α=>?_);refine Η ?_;refine W.ey rfl (λε=>?_) (λε=>?_)
 ·have ε:i<f.cells.length:=by simpa using ε
  have ξ:=E1 f.cells ha i
  have aN:=hm (i+1) ε;refine aE ε ?_;by_cases g:(i:Int)=ha
  ·refine ay (by simp[g]) ?_;refine Η ?_;refine W.forget _ ?_ (Α (i+1) ε J);rw[ξ,if_pos g];simp[eX ε π]
  ·refine aC (by simp[g]) ?_;have hv:hG f.cells ha i*f.cells[i].length<2 ^ 62:=by rw[ξ,if_neg g] at aN;simpa[ε] using aN
   refine aE ε ?_;refine W.forget _ ?_ (Α (i+1) ε J);rw[ξ,if_neg g];simp only[a6 ε,Option.getD_some];have:=eY hv;simp[eX ε π] at this ⊢;simp[this]
 ·have ε:i=f.cells.length:=by simp at ε;omega
  subst ε;refine W.exit rfl ?_;refine Η ?_;refine W.rt ?_;exact .of rfl
def p5 (a b:Int):Int:=if a<b then -1 else if b<a then 1 else 0
theorem XX (a b:Int):aB Tryz.prog 151 [I a,I b] (I (p5 a b)):=by
 refine af.body Φ Tryz.func151 rfl rfl Tryz.ntmps151 rfl rfl η ?_;refine Η ?_;refine bc λΚ κ=>?_;refine aB.d (IZ a) (bp ?_);apply κ;refine bc λΚ κ=>?_;refine aB.d (IZ b) (bp ?_);apply κ;refine Η ?_;refine ay rfl ?_;refine Η ?_;refine ay rfl ?_;refine Η ?_;refine W.ey rfl (λε=>?_) (λε=>?_)
 ·have ε:a<b:=by simpa using ε
  refine Η ?_;refine W.rt ?_;exact .of (by rw[show p5 a b=-1 by simp[p5,ε]];rfl)
 ·have ε:¬a<b:=by simpa using ε
  refine Η ?_;refine W.ey rfl (λa2=>?_) (λa2=>?_)
  ·have a2:b<a:=by simpa using a2
   refine Η ?_;refine W.rt ?_;exact .of (by rw[show p5 a b=1 by simp[p5,ε,a2]];rfl)
  ·have a2:¬b<a:=by simpa using a2
   refine Η ?_;refine W.rt ?_;exact .of (by rw[show p5 a b=0 by simp[p5,ε,a2]];rfl)
theorem XY (a b:Int):aB Tryz.prog 203 [I a,I b] (ba (decide (a<b))):=by
 refine af.body Φ Tryz.func203 rfl rfl Tryz.ntmps203 rfl rfl η ?_;refine Η ?_;refine bc λΚ κ=>?_;refine aB.d (IZ a) (bp ?_);apply κ;refine Η ?_;refine W.rt ?_;exact .of (by rw[show decide (a<b)=decide (a<b) from rfl];rfl)
def p6:List Int->List Int->Int
 | [],[]=>0
 | [],_::_=>-1
 | _::_,[]=>1
 | a::l,b::m=>if p5 a b≠0 then p5 a b else p6 l m
theorem I0 (a b:List Int) (ν:a.length<2 ^ 62):aB Tryz.prog 118 [bD I 1 a,bD I 1 b] (I (p6 a b)):=by
 refine af.body Φ Tryz.func118 rfl rfl Tryz.ntmps118 rfl rfl η ?_;refine Η ?_;refine W.iter (λi:Nat=>i<=a.length/\i<=b.length/\p6 a b=p6 (a.drop i) (b.drop i)) (λi=>[(0,bD I 1 a),(1,bD I 1 b),(9,bD I 1 a),(10,I a.length),(11,I i)]) (λ_=>[]) (λi=>a.length-i) 0 ⟨J,J,η⟩ rfl η (λi hi Α=>?_);obtain⟨U,γ,ο⟩:=hi;refine Η ?_;refine W.ey rfl (λε=>?_) (λε=>?_)
 ·have ε:i<a.length:=by simpa using ε
  have lb:a.drop i=a[i]::a.drop (i+1):=List.drop_eq_getElem_cons ε;refine aE ε ?_;refine W.ey rfl (λa2=>?_) (λa2=>?_)
  ·have a2:b.length<=i:=by simp at a2;omega
   refine Η ?_;have jE:b.drop i=[]:=List.drop_eq_nil_of_le a2;refine W.rt ?_;exact .of (by rw[show p6 a b=1 by rw[ο,lb,jE];rfl];rfl)
  ·have a2:i<b.length:=by simp at a2;omega
   have jE:b.drop i=b[i]::b.drop (i+1):=List.drop_eq_getElem_cons a2
   repeat apply ae
   refine ov a2 ?_;refine bc λΚ κ=>?_;refine aB.d (XX a[i] b[i]) (bp ?_);apply κ;refine Η ?_;by_cases g:p5 a[i] b[i]=0
   ·refine ay (by simp[g]) ?_;refine Η ?_;refine W.forget _ ?_ (Α (i+1) ⟨ε,a2,?_⟩ J)
    ·simp[eX ε ν]
    ·rw[ο,lb,jE,p6,if_neg (by simpa using g)]
   ·refine aC (by simp[g]) ?_;refine Η ?_;refine W.rt ?_;exact .of (by rw[show p6 a b=p5 a[i] b[i] by rw[ο,lb,jE,p6,if_pos g]];rfl)
 ·have ε:i=a.length:=by simp at ε;omega
  have lb:a.drop i=[]:=List.drop_eq_nil_of_le J;refine W.exit rfl ?_;refine Η ?_;by_cases g:a.length<b.length
  ·refine aC (by simp[g]) ?_;refine Η ?_;have jE:b.drop i=b[i]::b.drop (i+1):=List.drop_eq_getElem_cons J;refine W.rt ?_;exact .of (by rw[show p6 a b=-1 by rw[ο,lb,jE];rfl];rfl)
  ·refine ay (by simp[g]) ?_;refine Η ?_;have jE:b.drop i=[]:=List.drop_eq_nil_of_le J;refine W.rt ?_;exact .of (by rw[show p6 a b=0 by rw[ο,lb,jE];rfl];rfl)
def lH (x y:Int×Int):Int:=p6 [x.1,x.2] [y.1,y.2]
theorem OB (x y:Int×Int):aB Tryz.prog 174 [aK x,aK y] (I (lH x y)):=by
 refine af.body Φ Tryz.func174 rfl rfl Tryz.ntmps174 rfl rfl η ?_;refine Η ?_;refine W.draw (A:=[]) Φ mixed λΚ κ=>sm ?_;refine eD (aB.p (I0 [x.1,x.2] [y.1,y.2] η) (.cons .ex (.cons .ex .nil)) η η) ?_;simp;(repeat (rw[cY];simp));try rw[cX]
 refine en (κ _ _ ?_);refine Η ?_;refine W.rt ?_;exact .of rfl
theorem XZ (x y:Found):aB Tryz.prog 148 [du x,du y] (I (lH (x.u,x.v) (y.u,y.v))):=by
 refine af.body Φ Tryz.func148 rfl rfl Tryz.ntmps148 rfl rfl η ?_;refine Η ?_;refine W.draw (A:=[]) Φ mixed λΚ κ=>sm ?_;refine eD (aB.p (I0 [x.u,x.v] [y.u,y.v] η) (.cons .ex (.cons .ex .nil)) η η) ?_;simp;(repeat (rw[cY];simp));try rw[cX]
 refine en (κ _ _ ?_);refine Η ?_;refine W.rt ?_;exact .of rfl
def fR (l:List Found):Nat:=(l.map (·.many (-1))).sum
theorem OC (l:List Found) (π:l.length<2 ^ 62) (U:∀f∈l,f.cells.length<2 ^ 62/\∀i,i<=f.cells.length->hG f.cells (-1) i<2 ^ 62) (γ:fR l<2 ^ 62) :
  aB Tryz.prog 79 [cL l] (I (fR l)):=by
 refine af.body Φ Tryz.func79 rfl rfl Tryz.ntmps79 rfl rfl η ?_;refine Η ?_;refine W.iter (λi:Nat=>i<=l.length) (λi=>[(3,I (fR (l.take i))),(6,cL l),(7,I l.length),(8,I i)]) (λ_=>[]) (λi=>l.length-i) 0 (Nat.zero_le _) rfl (by simp[fR]) (λi hi Α=>?_);refine Η ?_;refine W.ey rfl (λε=>?_) (λε=>?_)
 ·have ε:i<l.length:=by simpa using ε
  obtain⟨aa,ai⟩:=U _ (List.getElem_mem ε);have ξ:fR (l.take (i+1))=fR (l.take i)+l[i].many (-1):=by
   unfold fR;rw[List.take_succ_eq_append_getElem ε,List.map_append,List.sum_append];simp only[List.map_cons,List.map_nil,List.sum_cons,List.sum_nil,Nat.add_zero]
  have aN:fR (l.take i)+l[i].many (-1)<2 ^ 62:=by
   rw[<-ξ];have e:fR l=fR (l.take (i+1))+fR (l.drop (i+1)):=by
    conv=>lhs;rw[<-List.take_append_drop (i+1) l]
    simp only[fR,List.map_append,List.sum_append]
   omega
  repeat apply ae
  refine dj (A:=[5]) Φ λΚ κ=>gh ε ?_;apply κ;refine bc λΚ κ=>?_;refine aB.d (E2 l[i] (-1) aa ai) (bp ?_);apply κ;refine Η ?_;refine W.drop (h:=0) (Nat.zero_le _) (Nat.zero_le _) η rfl _ ?_ (Α (i+1) ε J);rw[ξ];have:=eY aN;simp[eX ε π] at this ⊢;exact this
 ·have ε:i=l.length:=by simp at ε;omega
  subst ε;refine W.exit rfl ?_;refine Η ?_;refine W.rt ?_;exact .of (by rw[show fR l=fR (l.take l.length) by simp];rfl)
theorem aG.hF {a:θ} (h:aG 0 a) (ρ:List Nat):hF ρ a=a:=by
 cases h with
 | ak h=>omega
 | ms h=>omega
 | mp h=>omega
 | it h=>omega
 | _=>rfl
theorem E3 {l:am} (h:∀a∈l,aG 0 a) (ρ:List Nat):l.map (hF ρ)=l:=by
 induction l with
 | nil=>rfl
 | cons a l Α=>rw[List.map_cons,(h a η).hF,Α λx δ=>h x (by simp[δ])]
theorem aG.eg {a:θ} (h:aG 0 a) (ρ:List Nat):eg ρ a=a:=by
 have ao:=h;cases h with
 | a3 h=>simp only[Go.TL.eg];rw[E3 h]
 | bj h=>simp only[Go.TL.eg];rw[E3 h]
 | fn U γ=>simp only[Go.TL.eg];rw[E3 U,E3 γ]
 | _=>exact ao.hF ρ
theorem aG.top {a:θ} (h:aG 0 a) (n:Nat):mS n a:=by
 have ao:=h;cases h with
 | ak h=>omega
 | ms h=>omega
 | mp h=>omega
 | it h=>omega
 | _=>exact ao
theorem aG.jN {a:θ} (h:aG 0 a) (n:Nat):fD n a:=by
 have ao:=h;cases h with
 | a3 h=>exact λa ν=>(h a ν).top n
 | bj h=>exact λa ν=>(h a ν).top n
 | fn U γ=>exact⟨λa ν=>(U a ν).top n,λa ν=>(γ a ν).top n⟩
 | _=>exact ao.top n
theorem mW {h id n i len:Nat}:fD h (.ms id n i len)↔id<h:=Iff.rfl
theorem xe {h:Nat} {v:Value}:fD h (.z v)↔True:=⟨λ_=>trivial,λ_=>(aG.z v).jN h⟩
theorem mX {ρ:List Nat} {id n i len:Nat}:eg ρ (.ms id n i len)=.ms (ρ.getD id 0) n i len:=rfl
theorem pe {ρ:List Nat} {v:Value}:eg ρ (.z v)=.z v:=rfl
section
variable {P:Program} {σ:ac}
theorem af.one {g:FuncId} {as0:am} {row row':Row} {r:θ} {K E:θ->ac->Prop} (h:af P g as0 [row] (λa s=>a=r/\s=[row']) (λ_ _=>False)) (id:Nat) (cb:σ[id]?=some row) (ω:iY row) (iP:iY row') (ν:∀a∈as0,fD 1 a) (μ:fD 1 r)
  {args:am} (nD:args=as0.map (eg [id])) (κ:K (eg [id] r) (σ.set id row')):hV P (.fn (.func g) [] []) args σ K E:=by
 subst nD;have a5:=af.rows (σ:=σ) h [id] η rfl (λj i ζ=>by
  cases j with
  | zero=>simp at ζ;subst ζ;exact cb
  | succ j=>simp at ζ) (λr μ=>by simp at μ;subst μ;exact ω) (by simpa using ν) (K':=K) (E':=E) (λa s ⟨U,γ⟩=>by
   subst U;subst γ;refine⟨λx δ=>by simp at δ;subst δ;exact iP,μ,?_⟩;simpa[names,tE,jL] using κ) (λa s h=>h.elim)
 exact af.call (first:=[]) (captured:=[]) (by simpa using a5)
end
section
variable {P:Program} {σ:ac}
theorem af.E4 {g:FuncId} {as0:am} {row:Row} {K0 K E:θ->ac->Prop} (h:af P g as0 [row] K0 (λ_ _=>False)) (id:Nat) (cb:σ[id]?=some row) (ω:iY row) (ν:∀a∈as0,fD 1 a)
  {args:am} (nD:args=as0.map (eg [id])) (κ:∀a s,K0 a s->∃row',s=[row']/\iY row'/\fD 1 a/\K (eg [id] a) (σ.set id row')):hV P (.fn (.func g) [] []) args σ K E:=by
 subst nD;have a5:=af.rows (σ:=σ) h [id] η rfl (λj i ζ=>by
  cases j with
  | zero=>simp at ζ;subst ζ;exact cb
  | succ j=>simp at ζ) (λr μ=>by simp at μ;subst μ;exact ω) (by simpa using ν) (K':=K) (E':=E) (λa s ao=>by
   obtain⟨row',rfl,iP,μ,ψ⟩:=κ a s ao;refine⟨λx δ=>by simp at δ;subst δ;exact iP,μ,?_⟩;simpa[names,tE,jL] using ψ) (λa s h=>h.elim)
 exact af.call (first:=[]) (captured:=[]) (by simpa using a5)
end
theorem sn {α:Type} {f:α->θ} {t k:Nat} {l:List α} (h:∀x,∀a∈(f x).cells,aG 0 a):iY (.cells t k (l.map f)):=λe he a ν=>by
 obtain⟨x,_,rfl⟩:=List.mem_map.1 he;exact h x a ν
theorem eK.part {id k m:Nat} {σ:ac} {t:TypeId} {l l2:am} (bX:σ[id]?=some (.cells t k (l++l2))) (hm:l.length=m) (hb:∀e∈l,∀a∈e.cells,aG 0 a):eK 0 σ (.ms id (l++l2).length 0 m) (.sl false k l):=by
 subst hm;refine .ms (Nat.zero_le _) bX rfl η rfl (λj e aP U γ=>?_) (λj e aP U γ x a cj ο Ι=>?_)
 ·have ζ:=(b0.1 γ).1;rw[Nat.zero_add,dM ζ] at U;rw[U] at γ;cases γ;rfl
 ·have ζ:=(b0.1 γ).1;rw[Nat.zero_add,dM ζ] at U;rw[U] at γ;cases γ;rw[ο] at Ι;cases Ι;exact .low (hb e (cy U) a (cy ο))
theorem pf {α:Type} [Inhabited α] {d:Array α} {i:Nat} (h:i<d.size):d[i]?=some d[i]!:=by simp[h]
def Ξ {α:Type} (cmp:α->α->Int) (x y:α):Bool:=decide (cmp x y<0)
end Go.TL
