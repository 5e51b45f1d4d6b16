import Derived.Sort.AssemblyPlain
import Derived.Test.YtlabjopijpkiaaaGreatCAM
set_option maxHeartbeats 16000000
set_option maxRecDepth 20000
set_option linter.unusedSectionVars false
set_option linter.unusedSimpArgs false
set_option linter.unusedVariables false
namespace Go.TL
open Go.Proofs
variable [bp]
theorem Ia:IntKind.i64.wrap 1=1:=br
theorem Ib:IntKind.i64.wrap 2=2:=br
theorem fl {i n:Nat} (h:i<n) (Ζ:n<2 ^ 62):IntKind.i64.wrap ((i:Int)+1)=((i+1:Nat):Int):=by
 rw[IntWalk.i64_in _ R];rfl
theorem Nz {α:Type} (f:α->η) (z:η) (l:List α) {i:Nat} (h:i<l.length) (c9:i<(fill f z l i).length):(fill f z l i)[i]=z:=by
 have:=Ww f z l h;rw[a8 c9] at this;exact Option.some.inj this
theorem NA (a b:List Int) (κ:a.length<2 ^ 62):az Tryz.prog 30 [bt I 1 a,bt I 1 b] (a' (a==b)):=by
 refine ab.body Υ Tryz.func30 rfl rfl Tryz.ntmps30 rfl rfl ζ ?_;refine Η ?_;refine W.iter (λp:Nat×Bool=>p.1<=a.length/\(p.2=true->a.length=b.length/\∀j,j<p.1->a[j]?=b[j]?)/\(p.2=false->a≠b)) (λp=>[(0,bt I 1 a),(1,bt I 1 b),(5,a' p.2),(6,I p.1)]) (λ_=>[]) (λp=>a.length-p.1) (0,decide (a.length=b.length)) ⟨Nat.zero_le _,ζ,by simp;exact λh e=>h (by rw[e])⟩ rfl ζ (λi hi ω=>?_);rcases i with⟨i,_|_⟩
 ·refine Η ?_;refine aA rfl ?_;refine W.exit rfl ?_;refine Η ?_;refine W.rt ?_;exact .of (by simp[hi.2.2 rfl])
 ·refine Η ?_;have ξ:=(hi.2.1 rfl).1;refine W.eS rfl (λε=>?_) (λε=>?_)
  ·have ε:i<a.length:=by simpa using ε
   have a3:i<b.length:=R;refine Η ?_;refine dR (υ ε a3) ?_;refine Η ?_;refine W.forget _ ?_ (ω (i+1,decide (a[i]=b[i])) ⟨by simp;omega,λh=>⟨ξ,λj δ=>?_⟩,λh e=>?_⟩ (by simp;omega))
   ·simp[fl ε κ]
   ·by_cases e:j=i
    ·subst e;rw[a8 ε,a8 a3];simpa using h
    ·exact(hi.2.1 rfl).2 j (by simp at δ;omega)
   ·subst e;simp at h
  ·have ε:a.length<=i:=by simpa using ε
   refine W.exit rfl ?_;refine Η ?_;refine W.rt ?_;refine .of ?_;have:a=b:=List.ext_getElem? λj=>by
    by_cases δ:j<i
    ·exact(hi.2.1 rfl).2 j δ
    ·rw[List.getElem?_eq_none R,List.getElem?_eq_none R]
   simp[this]
theorem WC (l:List Int) (ξ:l.length<2 ^ 44):az Tryz.prog 44 [bt I 1 l] (bt I 1 l):=by
 refine ab.body Υ Tryz.func44 rfl rfl Tryz.ntmps44 rfl rfl ζ ?_
 repeat apply Ω
 refine lE ?_
 repeat apply Ω
 refine dB (A:=[7]) Υ λΘ θ=>bD ?_;refine⟨R,?_⟩;apply θ;refine Η ?_;refine W.iter (λi:Nat=>i<=l.length) (λi=>[(0,bt I 1 l),(3,.ms 0 l.length 0 l.length),(4,I i)]) (λi=>[.cells 3 1 (fill I (I 0) l i)]) (λi=>l.length-i) 0 (Nat.zero_le _) (by simp[Ns]) ζ (λi hi ω=>?_);refine Η ?_;refine W.eS rfl (λε=>?_) (λε=>?_)
 ·have ε:i<l.length:=by simpa using ε
  refine aE (υ ε (υ (Nu I (I 0) l hi) (υ (Nz I (I 0) l ε) (Nv I (I 0) l ε)))) ?_;refine W.forget _ ?_ (ω (i+1) ε R);simp[fl ε (show l.length<2 ^ 62 by omega)]
 ·have ε:l.length<=i:=by simpa using ε
  refine W.exit rfl ?_;refine Η ?_;refine W.cut 0 (Nat.zero_le _) [(2,bt I 1 l)] ζ ζ (by simp;rw[Nt _ _ _ ε];exact .own (Nat.zero_le _) rfl ζ ζ) ?_;refine W.rt ?_;exact .refl _
abbrev a6 (l:List (List Int)):η:=bt (bt I 1) 1 l
theorem WE (l:List (List Int)) (ξ:l.length<2 ^ 40) (ν:∀x∈l,x.length<2 ^ 44):az Tryz.prog 74 [a6 l] (a6 l):=by
 refine ab.body Υ Tryz.func74 rfl rfl Tryz.ntmps74 rfl rfl ζ ?_
 repeat apply Ω
 refine lE ?_
 repeat apply Ω
 refine dB (A:=[7]) Υ λΘ θ=>bD ?_;refine⟨R,?_⟩;apply θ;refine Η ?_;refine W.iter (λi:Nat=>i<=l.length) (λi=>[(0,a6 l),(3,.ms 0 l.length 0 l.length),(4,I i)]) (λi=>[.cells 29 1 (fill (bt I 1) (.sl true 0 []) l i)]) (λi=>l.length-i) 0 (Nat.zero_le _) (by simp[Ns]) ζ (λi hi ω=>?_);refine Η ?_;refine W.eS rfl (λε=>?_) (λε=>?_)
 ·have ε:i<l.length:=by simpa using ε
  refine hz ε λΘ θ=>?_;refine az.d (WC _ (ν _ (List.getElem_mem _))) (gS (υ ε (υ (Nu (bt I 1) (.sl true 0 []) l hi) (υ (Nz (bt I 1) (.sl true 0 []) l ε) (Nv (bt I 1) (.sl true 0 []) l ε)))) ?_);apply θ;refine Η ?_;refine W.forget _ ?_ (ω (i+1) ε R);simp[fl ε (show l.length<2 ^ 62 by omega)]
 ·have ε:l.length<=i:=by simpa using ε
  refine W.exit rfl ?_;refine Η ?_;refine W.cut 0 (Nat.zero_le _) [(2,a6 l)] ζ ζ (by simp;rw[Nt _ _ _ ε];exact .own (Nat.zero_le _) rfl ζ ζ) ?_;refine W.rt ?_;exact .refl _
theorem WG (a b:List (List Int)) (κ:a.length<2 ^ 40) (ν:∀x∈a,x.length<2 ^ 40):az Tryz.prog 50 [a6 a,a6 b] (a' (a==b)):=by
 refine ab.body Υ Tryz.func50 rfl rfl Tryz.ntmps50 rfl rfl ζ ?_;refine Η ?_;refine W.iter (λp:Nat×Bool=>p.1<=a.length/\(p.2=true->a.length=b.length/\∀j,j<p.1->a[j]?=b[j]?)/\(p.2=false->a≠b)) (λp=>[(0,a6 a),(1,a6 b),(5,a' p.2),(6,I p.1)]) (λ_=>[]) (λp=>a.length-p.1) (0,decide (a.length=b.length)) ⟨Nat.zero_le _,ζ,by simp;exact λh e=>h (by rw[e])⟩ rfl ζ (λi hi ω=>?_);rcases i with⟨i,_|_⟩
 ·refine Η ?_;refine aA rfl ?_;refine W.exit rfl ?_;refine Η ?_;refine W.rt ?_;exact .of (by simp[hi.2.2 rfl])
 ·refine Η ?_;have ξ:=(hi.2.1 rfl).1;refine W.eS rfl (λε=>?_) (λε=>?_)
  ·have ε:i<a.length:=by simpa using ε
   have a3:i<b.length:=R;refine Η ?_;refine W.draw (A:=[]) Υ mixed λΘ θ=>hV (υ ε a3) ?_;refine eZ (az.q (NA a[i] b[i] (by have:=ν _ (List.getElem_mem ε);omega))) (rM ?_);refine e5 (θ _ _ ?_);refine Η ?_;refine W.forget _ ?_ (ω (i+1,a[i]==b[i]) ⟨by simp;omega,λh=>⟨ξ,λj δ=>?_⟩,λh e=>?_⟩ (by simp;omega))
   ·simp[fl ε (show a.length<2 ^ 62 by omega)]
   ·by_cases e:j=i
    ·subst e;rw[a8 ε,a8 a3];simpa using h
    ·exact(hi.2.1 rfl).2 j (by simp at δ;omega)
   ·subst e;simp at h
  ·have ε:a.length<=i:=by simpa using ε
   refine W.exit rfl ?_;refine Η ?_;refine W.rt ?_;refine .of ?_;have:a=b:=List.ext_getElem? λj=>by
    by_cases δ:j<i
    ·exact(hi.2.1 rfl).2 j δ
    ·rw[List.getElem?_eq_none R,List.getElem?_eq_none R]
   simp[this]
structure mm where
 name:ByteArray
 eT:Int
deriving DecidableEq
structure c8 where
 light:Int
 seen:Int
 bare:Int
deriving DecidableEq
structure aS where
 ae:List mm
 aj:List (List Int)
 cells:List (List c8)
deriving DecidableEq
abbrev eU (g:mm):η:=.a0 [nT g.name,I g.eT]
abbrev eB (p:c8):η:=.a0 [I p.light,I p.seen,I p.bare]
abbrev aT (l:List mm):η:=bt eU 2 l
abbrev oG (l:List c8):η:=bt eB 3 l
abbrev bx (l:List (List c8)):η:=bt oG 1 l
abbrev fS (s:aS):η:=.a0 [aT s.ae,a6 s.aj,bx s.cells]
def aS.small (s:aS):Prop:=s.ae.length<2 ^ 30/\s.aj.length<2 ^ 30/\s.cells.length<2 ^ 30/\(∀x∈s.aj,x.length<2 ^ 30)/\∀x∈s.cells,x.length<2 ^ 30
@[simp] theorem jπ (x y:Int):(x != y) = !decide (x=y):=by rw[Bool.eq_iff_iff];simp
section
variable {P:Program} {m nt:Nat} {k:List Item} {env:Χ} {σ σ':List Row} {Z:List Item->Χ->List Row->Prop} {E:η->Χ->List Row->Prop}
theorem W.drop {h:Nat} (hm:m<=h) (aY:h<=σ.length) (kE:∀(id:Nat) (r:Row),id<h->σ[id]?=some r->e3 h r) (ml:σ.take h=σ') (env':Χ) (cE:∀p∈env',a5 env p.1=p.2/\aJ h p.2) (hW:W P m nt k env' σ' Z E):W P m nt k env σ Z E:=
 W.cut h hm env' aY kE (λp π=>by rw[(cE p π).1];exact .low (cE p π).2) (by rw[ml];exact hW)
theorem W.fix {id:Nat} {t:TypeId} {e:η} {kk:Nat} (hm:m<=id) (bQ:σ[id]?=some (.cells t kk [e])) (he:∀a∈e.cells,aJ id a) (kE:∀(D6:Nat) (r:Row),D6<id->σ[D6]?=some r->e3 id r) (ml:σ.take id=σ') (env':Χ)
  (cE:∀p∈env',(a5 env p.1=p.2/\aJ id p.2)\/(a5 env p.1=.ah id 1 0 0/\p.2=.ao e.cells)) (hW:W P m nt k env' σ' Z E):W P m nt k env σ Z E:=
 W.cut id hm env' (Nat.le_of_lt (bX.1 bQ).1) kE (λp π=>by
  rcases cE p π with⟨J,U⟩|⟨J,U⟩
  ·rw[J];exact .low U
  ·rw[J,U];refine .ah (Nat.le_refl _) bQ rfl (e:=e) rfl ζ λx a bT Ρ aa=>?_;rw[Nat.zero_add] at Ρ;rw[Ρ] at aa;cases aa;exact .low (he a (cG Ρ))) (by rw[ml];exact hW)
theorem W.to {env':Χ} (h:W P m nt k env' σ' Z E) (ml:σ=σ') (cE:∀p∈env',a5 env p.1=p.2):W P m nt k env σ Z E:=ml▸W.forget env' cE h
end
abbrev rN (a b:Int):Int:=ga .i64 a b
abbrev wH (a b:Int):Int:=x0 .i64 a b
abbrev AQ (a b:Int):Int:=pj .i64 a b
section
variable {P:Program} {σ:List Row}
theorem gi.c {f:η} {args:List η} {r:η} {K E:η->List Row->Prop} (h:gi P f args r) (θ:K r σ):ha P f args σ K E:=
 ha.mono (h σ) (λa s ⟨J,U⟩=>by subst J;subst U;exact θ) (λ_ _ h=>h.elim)
end
def k2 (n:Int):Bool:=decide (0<=n)&&decide (n<=2)
theorem pw (n:Int):az Tryz.prog 93 [I n] (a' (k2 n)):=by
 refine ab.body Υ Tryz.func93 rfl rfl Tryz.ntmps93 rfl rfl ζ ?_;by_cases h:0<=n
 ·refine aE h ?_;refine W.rt ?_;exact .of (by simp[k2,h])
 ·refine aE h ?_;refine W.rt ?_;exact .of (by simp[k2,h])
def valid (n:Int):Bool:=decide (0<=n)&&decide (n<=63)
theorem yq (n:Int):az Tryz.prog 109 [I n] (a' (valid n)):=by
 refine ab.body Υ Tryz.func109 rfl rfl Tryz.ntmps109 rfl rfl ζ ?_;by_cases h:0<=n
 ·refine aE h ?_;refine W.rt ?_;exact .of (by simp[valid,h])
 ·refine aE h ?_;refine W.rt ?_;exact .of (by simp[valid,h])
theorem NB (a b:Int):az Tryz.prog 196 [I a,I b] (a' (rN a b==0)):=by
 refine ab.body Υ Tryz.func196 rfl rfl Tryz.ntmps196 rfl rfl ζ ?_;refine Η ?_;refine W.rt ?_;exact .of ζ
theorem NC (a b:Int):az Tryz.prog 210 [I a,I b] (a' (AQ a b==0)):=by
 refine ab.body Υ Tryz.func210 rfl rfl Tryz.ntmps210 rfl rfl ζ ?_;refine Η ?_;refine W.rt ?_;exact .of ζ
theorem Ic (b:Bool):az Tryz.prog 127 [a' b] (I (if b then 1 else 0)):=by
 refine ab.body Υ Tryz.func127 rfl rfl Tryz.ntmps127 rfl rfl ζ ?_;cases b
 ·refine Η ?_;refine aA rfl ?_;refine Η ?_;refine W.rt ?_;exact .refl _
 ·refine Η ?_;refine aD rfl ?_;refine Η ?_;refine W.rt ?_;exact .refl _
theorem Ie (n:Int):az Tryz.prog 193 [I n] (a' false):=by
 refine ab.body Υ Tryz.func193 rfl rfl Tryz.ntmps193 rfl rfl ζ ?_;refine Η ?_;refine W.rt ?_;exact .of ζ
def Et (n:Int):Int:=wH (wH (AQ n 15) (IntKind.i64.wrap (rN n 5*2))) ((rN n 10).fdiv 2)
theorem WH (n:Int):az Tryz.prog 99 [I n] (I (Et n)):=by
 refine ab.body Υ Tryz.func99 rfl rfl Tryz.ntmps99 rfl rfl ζ ?_;refine Η ?_;refine W.rt ?_;exact .of (by simp[Et,IntKind.bits])
def idxOf {α:Type} (p:α->Bool) (l:List α):Int:=if l.any p then(l.findIdx p:Nat) else -1
theorem Eu {α:Type} {p:α->Bool} {l:List α} {i:Nat} (h:i<l.length) (J:p l[i]=true) (U:∀j,j<i->(δ:j<l.length)->p l[j]=false):idxOf p l=(i:Nat):=by
 have κ:l.any p=true:=List.any_eq_true.2 ⟨_,List.getElem_mem h,J⟩
 have:l.findIdx p=i:=by
  have μ:¬l.findIdx p<i:=λaO=>by
   have ξ:l.findIdx p<l.length:=R
   have:=List.findIdx_getElem (p:=p) (w:=ξ);rw[U _ aO ξ] at this;cases this
  have Ε:¬i<l.findIdx p:=λaO=>by
   have:=List.not_of_lt_findIdx aO;rw[J] at this;simp at this
  omega
 unfold idxOf;rw[if_pos κ,this]
theorem Ev {α:Type} {p:α->Bool} {l:List α} (h:∀j,(δ:j<l.length)->p l[j]=false):idxOf p l=-1:=by
 have:l.any p=false:=by
  rw[List.any_eq_false];intro x γ;obtain⟨j,δ,rfl⟩:=List.getElem_of_mem γ;simp[h j δ]
 unfold idxOf;rw[this];rfl
theorem Ew {α:Type} {p:α->Bool} {l:List α}:decide (idxOf p l>=0)=l.any p:=by
 unfold idxOf;cases h:l.any p<;>simp
theorem WI (l:List Int) (n:Int) (ξ:l.length<2 ^ 62):az Tryz.prog 137 [bt I 1 l,I n] (I (idxOf (·==n) l)):=by
 refine ab.body Υ Tryz.func137 rfl rfl Tryz.ntmps137 rfl rfl ζ ?_;refine Η ?_;refine W.iter (λi:Nat=>i<=l.length/\∀j,j<i->(h:j<l.length)->(l[j]==n)=false) (λi=>[(0,bt I 1 l),(1,I n),(6,bt I 1 l),(7,I l.length),(8,I i)]) (λ_=>[]) (λi=>l.length-i) 0 ⟨Nat.zero_le _,λj δ=>R⟩ rfl ζ (λi hi ω=>?_);refine Η ?_;refine W.eS rfl (λε=>?_) (λε=>?_)
 ·have ε:i<l.length:=by simpa using ε
  refine aE ε ?_;refine W.eS rfl (λa3=>?_) (λa3=>?_)
  ·have Ζ:n=l[i]:=by simpa using a3
   refine Η ?_;refine W.rt ?_;exact .of (by rw[Eu ε (by simp[Ζ]) hi.2];rfl)
  ·have Ζ:¬n=l[i]:=by simpa using a3
   refine Η ?_;refine W.forget _ ?_ (ω (i+1) ⟨R,λj δ h=>?_⟩ R)
   ·simp[fl ε ξ]
   ·by_cases e:j=i
    ·subst e;simpa using λx=>Ζ x.symm
    ·exact hi.2 j R h
 ·have ε:l.length<=i:=by simpa using ε
  refine W.exit rfl ?_;refine Η ?_;refine W.rt ?_;exact .of (by rw[Ev λj δ=>hi.2 j R δ];rfl)
theorem any_beq (l:List Int) (n:Int):(l.any λx=>x==n)=l.contains n:=by
 rw[Bool.eq_iff_iff];simp
theorem ND (l:List Int) (n:Int) (ξ:l.length<2 ^ 62):az Tryz.prog 110 [bt I 1 l,I n] (a' (l.contains n)):=by
 refine ab.body Υ Tryz.func110 rfl rfl Tryz.ntmps110 rfl rfl ζ ?_;refine Η ?_;refine bh λΘ θ=>?_;refine az.d (WI l n ξ) (bD ?_);apply θ;refine Η ?_;refine W.rt ?_;exact .of (by rw[<-any_beq,<-Ew];rfl)
@[simp high] theorem WJ {h:Nat} {e:Bool} {k:Nat} {α:Type} {f:α->η} {l:List α}:aJ h (.sl e k (l.map f))↔∀x∈l,∀a∈(f x).cells,aJ h a:=by
 rw[iG];simp only[List.mem_map];exact⟨λH x γ=>H _ ⟨x,γ,rfl⟩,λH e ⟨x,γ,he⟩=>he▸H x γ⟩
@[simp high] theorem jρ {h:Nat} {e:Bool} {k n:Nat} {α:Type} {f:α->η} {l:List α}:aJ h (.sl e k ((l.map f).take n))↔∀x∈l.take n,∀a∈(f x).cells,aJ h a:=by
 rw[<-List.map_take];exact WJ
abbrev aG (r:Int×Int):η:=.a0 [I r.1,I r.2]
abbrev m9 (l:List (Int×Int)):η:=bt aG 2 l
abbrev m' (l:List (List (Int×Int))):η:=bt m9 1 l
structure Found where
 u:Int
 v:Int
 cells:List (List (Int×Int))
deriving DecidableEq
abbrev dg (f:Found):η:=.a0 [I f.u,I f.v,m' f.cells]
abbrev cW (l:List Found):η:=bt dg 3 l
def aS.of (s:aS) (g:Int):Int:=if g<0 then 0 else((s.ae[g.toNat]?).map (·.eT)).getD 0
theorem Er (s:aS) (g:Int) (Ο:g<s.ae.length):az Tryz.prog 125 [fS s,I g] (I (s.of g)):=by
 refine ab.body Υ Tryz.func125 rfl rfl Tryz.ntmps125 rfl rfl ζ ?_;refine Η ?_;refine W.eS rfl (λε=>?_) (λε=>?_)
 ·have ε:g<0:=by simpa using ε
  refine Η ?_;refine W.rt ?_;exact .of (by rw[show s.of g=0 by simp[aS.of,ε]];rfl)
 ·have ε:¬g<0:=by simpa using ε
  obtain⟨n,rfl⟩:∃n:Nat,g=n:=⟨g.toNat,R⟩;have Ζ:n<s.ae.length:=R;refine aE Ζ ?_;refine W.rt ?_;exact .of (by rw[show s.of n=s.ae[n].eT by simp[aS.of,Ζ];intro h;omega];rfl)
def aS.hA (s:aS) (p r:Int×Int) (light:Nat):Int:=
 let l:=(s.aj[light]?).getD []
 let a:=if l.contains p.1 then wH 0 (s.of r.1) else 0
 if l.contains p.2 then wH a (s.of r.2) else a
theorem AR (s:aS) (ν:s.small) (p r:Int×Int) (n:Nat) (Ζ:n<s.aj.length) (J:r.1<s.ae.length) (U:r.2<s.ae.length) :
  az Tryz.prog 77 [fS s,aG p,aG r,I n] (I (s.hA p r n)):=by
 refine ab.body Υ Tryz.func77 rfl rfl Tryz.ntmps77 rfl rfl ζ ?_;have ξ:s.aj[n].length<2 ^ 62:=by have:=ν.2.2.2.1 _ (List.getElem_mem Ζ);omega
 refine Η ?_;refine W.iter (λq:Nat×Int=>q.1<=2/\(q.1=0->q.2=0)/\(q.1=1->q.2=if s.aj[n].contains p.1 then wH 0 (s.of r.1) else 0)/\(q.1=2->q.2=s.hA p r n))
  (λq=>[(3,I n),(4,.ao [aT s.ae,a6 s.aj,bx s.cells]),(5,.ao [I p.1,I p.2]),(6,.ao [I r.1,I r.2]),(9,I q.2),(12,aG p),(13,I q.1)]) (λ_=>[]) (λq=>2-q.1) (0,0) ⟨R,ζ,ζ,ζ⟩ rfl ζ (λq hi ω=>?_)
 rcases q with⟨i,x⟩
 match i,hi,ω with
 | 0,hi,ω=>
  have γ:x=0:=hi.2.1 rfl;subst γ;refine Η ?_;refine aD rfl ?_;refine Η ?_;refine hz Ζ λΘ θ=>?_;refine az.d (ND s.aj[n] p.1 ξ) (bD ?_);apply θ;by_cases ε:p.1∈s.aj[n]
  ·refine aD (by simp[ε]) ?_;refine Η ?_;refine W.draw (A:=[]) Υ mixed λΘ θ=>rM ?_;refine eZ (az.q (Er s r.1 J)) (rM ?_);refine e5 (θ _ _ ?_);refine Η ?_;refine W.forget _ ?_ (ω (1,wH 0 (s.of r.1)) ⟨ζ,ζ,by simp[ε],ζ⟩ ζ);simp[Ia]
  ·refine aA (by simp[ε]) ?_;refine Η ?_;refine W.forget _ ?_ (ω (1,0) ⟨ζ,ζ,by simp[ε],ζ⟩ ζ);simp[Ia]
 | 1,hi,ω=>
  have γ:=hi.2.2.1 rfl;simp at γ;refine Η ?_;refine aD rfl ?_;refine Η ?_;refine hz Ζ λΘ θ=>?_;refine az.d (ND s.aj[n] p.2 ξ) (bD ?_);apply θ;by_cases ε:p.2∈s.aj[n]
  ·refine aD (by simp[ε]) ?_;refine Η ?_;refine W.draw (A:=[]) Υ mixed λΘ θ=>rM ?_;refine eZ (az.q (Er s r.2 U)) (rM ?_);refine e5 (θ _ _ ?_);refine Η ?_;refine W.forget _ ?_ (ω (2,wH x (s.of r.2)) ⟨ζ,ζ,ζ,λ_=>by simp only[aS.hA,a8 Ζ];simp[ε,γ]⟩ ζ);simp[Ib]
  ·refine aA (by simp[ε]) ?_;refine Η ?_;refine W.forget _ ?_ (ω (2,x) ⟨ζ,ζ,ζ,λ_=>by simp only[aS.hA,a8 Ζ];simp[ε,γ]⟩ ζ);simp[Ib]
 | 2,hi,ω=>
  have γ:=hi.2.2.2 rfl;refine Η ?_;refine aA rfl ?_;refine W.exit rfl ?_;refine Η ?_;refine W.rt ?_;exact .of (by rw[<-show x=s.hA p r n from γ];rfl)
 | i+3,hi,ω=>exact absurd hi.1 ζ
def aS.px (s:aS) (p r:Int×Int) (x:c8):Bool:=AQ x.seen (s.hA p r x.light.toNat)==0&&rN (s.hA p r x.light.toNat) x.bare==0
def aS.rO (s:aS) (p r:Int×Int) (c:Nat):Bool:=((s.cells[c]?).getD []).all (s.px p r)
theorem WK (s:aS) (ν:s.small) (p r:Int×Int) (c:Nat) (Ζ:c<s.cells.length) (hv:∀x∈s.cells[c],0<=x.light/\x.light<s.aj.length) (J:r.1<s.ae.length) (U:r.2<s.ae.length) :
  az Tryz.prog 172 [fS s,aG p,aG r,I c] (a' (s.rO p r c)):=by
 refine ab.body Υ Tryz.func172 rfl rfl Tryz.ntmps172 rfl rfl ζ ?_;have ξ:s.cells[c].length<2 ^ 62:=by have:=ν.2.2.2.2 _ (List.getElem_mem Ζ);omega
 have fZ:s.rO p r c=s.cells[c].all (s.px p r):=by simp[aS.rO,Ζ]
 rw[fZ];refine aE Ζ ?_;refine W.iter (λi:Nat=>i<=s.cells[c].length/\∀j,j<i->(h:j<s.cells[c].length)->s.px p r s.cells[c][j]=true)
  (λi=>[(4,.ao [aT s.ae,a6 s.aj,bx s.cells]),(5,.ao [I p.1,I p.2]),(6,.ao [I r.1,I r.2]),(17,oG s.cells[c]),(18,I s.cells[c].length),(19,I i)]) (λ_=>[]) (λi=>s.cells[c].length-i) 0 ⟨R,λj δ=>R⟩ rfl ζ (λi hi ω=>?_)
 refine Η ?_;refine W.eS rfl (λε=>?_) (λε=>?_)
 ·have ε:i<s.cells[c].length:=by simpa using ε
  have γ:=hv _ (List.getElem_mem ε);obtain⟨n,ti⟩:∃n:Nat,s.cells[c][i].light=n:=⟨s.cells[c][i].light.toNat,R⟩;have oo:n<s.aj.length:=R;have bl:s.px p r s.cells[c][i]=(AQ s.cells[c][i].seen (s.hA p r n)==0&&rN (s.hA p r n) s.cells[c][i].bare==0):=by simp[aS.px,ti]
  repeat apply Ω
  refine dB (A:=[10]) Υ λΘ θ=>gS ε ?_;apply θ
  repeat apply Ω
  refine hz ti λΘ θ=>?_;refine az.d (AR s ν p r n oo J U) (bD ?_);apply θ
  repeat apply Ω
  by_cases Ρ:AQ s.cells[c][i].seen (s.hA p r n)=0
  ·refine hz @Ρ λΘ θ=>?_;refine az.d (NC s.cells[c][i].seen (s.hA p r n)) (gS @Ρ ?_);refine az.d (NB (s.hA p r n) s.cells[c][i].bare) (bD ?_);apply θ;by_cases aa:rN (s.hA p r n) s.cells[c][i].bare=0
   ·refine aA (by simp[aa]) ?_;refine Η ?_;refine W.drop (h:=0) (Nat.zero_le _) (Nat.zero_le _) ζ rfl _ ?_ (ω (i+1) ⟨R,λj δ h=>?_⟩ R)
    ·simp[fl ε ξ]
    ·by_cases e:j=i
     ·subst e;rw[bl];simp[Ρ,aa]
     ·exact hi.2 j R h
   ·refine aD (by simp[aa]) ?_;refine Η ?_;refine W.drop (h:=0) (Nat.zero_le _) (Nat.zero_le _) ζ rfl [(8,a' false)] ζ ?_;refine W.rt ?_;exact .of (by rw[show s.cells[c].all (s.px p r)=false from List.all_eq_false.2 ⟨_,List.getElem_mem ε,by rw[bl];simp[aa]⟩];rfl)
  ·refine hz @Ρ λΘ θ=>?_;refine az.d (NC s.cells[c][i].seen (s.hA p r n)) (gS @Ρ ?_);apply θ;refine aD ζ ?_;refine Η ?_;refine W.drop (h:=0) (Nat.zero_le _) (Nat.zero_le _) ζ rfl [(8,a' false)] ζ ?_;refine W.rt ?_;exact .of (by rw[show s.cells[c].all (s.px p r)=false from List.all_eq_false.2 ⟨_,List.getElem_mem ε,by rw[bl];simp[Ρ]⟩];rfl)
 ·have ε:s.cells[c].length<=i:=by simpa using ε
  refine W.exit rfl ?_;refine Η ?_;refine W.ret ⟨_,rfl,?_,rfl⟩;refine .of ?_;rw[show s.cells[c].all (s.px p r)=true from List.all_eq_true.2 λx γ=>by
   obtain⟨j,δ,rfl⟩:=List.getElem_of_mem γ;exact hi.2 j R δ]
  rfl
def je (l:List (List (Int×Int))) (gT:Int) (i:Nat):Nat:=((List.range i).map λj:Nat=>if(j:Int)=gT then 1 else((l[j]?).getD []).length).prod
theorem Ex (l:List (List (Int×Int))) (gT:Int) (i:Nat):je l gT (i+1)=je l gT i*(if(i:Int)=gT then 1 else((l[i]?).getD []).length):=by
 unfold je;rw[List.range_succ,List.map_append,List.prod_append];simp
def Found.many (f:Found) (gT:Int):Nat:=je f.cells gT f.cells.length
theorem gq {n:Nat} (h:n<2 ^ 62):IntKind.i64.wrap (n:Int)=n:=IntWalk.i64_in _ R
theorem Ey (f:Found) (gT:Int) (ξ:f.cells.length<2 ^ 62) (hm:∀i,i<=f.cells.length->je f.cells gT i<2 ^ 62) :
  az Tryz.prog 78 [dg f,I gT] (I (f.many gT)):=by
 refine ab.body Υ Tryz.func78 rfl rfl Tryz.ntmps78 rfl rfl ζ ?_;refine Η ?_;refine W.iter (λi:Nat=>i<=f.cells.length) (λi=>[(1,I gT),(5,I (je f.cells gT i)),(9,m' f.cells),(10,I f.cells.length),(11,I i)]) (λ_=>[]) (λi=>f.cells.length-i) 0 (Nat.zero_le _) rfl (by simp[je]) (λi hi ω=>?_);refine Η ?_;refine W.eS rfl (λε=>?_) (λε=>?_)
 ·have ε:i<f.cells.length:=by simpa using ε
  have ν:=Ex f.cells gT i
  have aO:=hm (i+1) ε;refine aE ε ?_;by_cases g:(i:Int)=gT
  ·refine aA (by simp[g]) ?_;refine Η ?_;refine W.forget _ ?_ (ω (i+1) ε R);rw[ν,if_pos g];simp[fl ε ξ]
  ·refine aD (by simp[g]) ?_;have hv:je f.cells gT i*f.cells[i].length<2 ^ 62:=by rw[ν,if_neg g] at aO;simpa[ε] using aO
   refine aE ε ?_;refine W.forget _ ?_ (ω (i+1) ε R);rw[ν,if_neg g];simp only[a8 ε,Option.getD_some];have:=gq hv;simp[fl ε ξ] at this ⊢;simp[this]
 ·have ε:i=f.cells.length:=by simp at ε;omega
  subst ε;refine W.exit rfl ?_;refine Η ?_;refine W.rt ?_;exact .of rfl
def py (a b:Int):Int:=if a<b then -1 else if b<a then 1 else 0
theorem WL (a b:Int):az Tryz.prog 151 [I a,I b] (I (py a b)):=by
 refine ab.body Υ Tryz.func151 rfl rfl Tryz.ntmps151 rfl rfl ζ ?_;refine Η ?_;refine bh λΘ θ=>?_;refine az.d (Ie a) (bD ?_);apply θ;refine bh λΘ θ=>?_;refine az.d (Ie b) (bD ?_);apply θ;refine Η ?_;refine aA rfl ?_;refine Η ?_;refine aA rfl ?_;refine Η ?_;refine W.eS rfl (λε=>?_) (λε=>?_)
 ·have ε:a<b:=by simpa using ε
  refine Η ?_;refine W.rt ?_;exact .of (by rw[show py a b=-1 by simp[py,ε]];rfl)
 ·have ε:¬a<b:=by simpa using ε
  refine Η ?_;refine W.eS rfl (λa3=>?_) (λa3=>?_)
  ·have a3:b<a:=by simpa using a3
   refine Η ?_;refine W.rt ?_;exact .of (by rw[show py a b=1 by simp[py,ε,a3]];rfl)
  ·have a3:¬b<a:=by simpa using a3
   refine Η ?_;refine W.rt ?_;exact .of (by rw[show py a b=0 by simp[py,ε,a3]];rfl)
theorem nV (a b:Int):az Tryz.prog 203 [I a,I b] (a' (decide (a<b))):=by
 refine ab.body Υ Tryz.func203 rfl rfl Tryz.ntmps203 rfl rfl ζ ?_;refine Η ?_;refine bh λΘ θ=>?_;refine az.d (Ie a) (bD ?_);apply θ;refine Η ?_;refine W.rt ?_;exact .of (by rw[show decide (a<b)=decide (a<b) from rfl];rfl)
def pz:List Int->List Int->Int
 | [],[]=>0
 | [],_::_=>-1
 | _::_,[]=>1
 | a::l,b::m=>if py a b≠0 then py a b else pz l m
theorem NF (a b:List Int) (κ:a.length<2 ^ 62):az Tryz.prog 118 [bt I 1 a,bt I 1 b] (I (pz a b)):=by
 refine ab.body Υ Tryz.func118 rfl rfl Tryz.ntmps118 rfl rfl ζ ?_;refine Η ?_;refine W.iter (λi:Nat=>i<=a.length/\i<=b.length/\pz a b=pz (a.drop i) (b.drop i)) (λi=>[(0,bt I 1 a),(1,bt I 1 b),(9,bt I 1 a),(10,I a.length),(11,I i)]) (λ_=>[]) (λi=>a.length-i) 0 ⟨R,R,ζ⟩ rfl ζ (λi hi ω=>?_);obtain⟨J,U,μ⟩:=hi;refine Η ?_;refine W.eS rfl (λε=>?_) (λε=>?_)
 ·have ε:i<a.length:=by simpa using ε
  have lF:a.drop i=a[i]::a.drop (i+1):=List.drop_eq_getElem_cons ε;refine aE ε ?_;refine W.eS rfl (λa3=>?_) (λa3=>?_)
  ·have a3:b.length<=i:=by simp at a3;omega
   refine Η ?_;have js:b.drop i=[]:=List.drop_eq_nil_of_le a3;refine W.rt ?_;exact .of (by rw[show pz a b=1 by rw[μ,lF,js];rfl];rfl)
  ·have a3:i<b.length:=by simp at a3;omega
   have js:b.drop i=b[i]::b.drop (i+1):=List.drop_eq_getElem_cons a3
   repeat apply Ω
   refine nU a3 ?_;refine bh λΘ θ=>?_;refine az.d (WL a[i] b[i]) (bD ?_);apply θ;refine Η ?_;by_cases g:py a[i] b[i]=0
   ·refine aA (by simp[g]) ?_;refine Η ?_;refine W.forget _ ?_ (ω (i+1) ⟨ε,a3,?_⟩ R)
    ·simp[fl ε κ]
    ·rw[μ,lF,js,pz,if_neg (by simpa using g)]
   ·refine aD (by simp[g]) ?_;refine Η ?_;refine W.rt ?_;exact .of (by rw[show pz a b=py a[i] b[i] by rw[μ,lF,js,pz,if_pos g]];rfl)
 ·have ε:i=a.length:=by simp at ε;omega
  have lF:a.drop i=[]:=List.drop_eq_nil_of_le R;refine W.exit rfl ?_;refine Η ?_;by_cases g:a.length<b.length
  ·refine aD (by simp[g]) ?_;refine Η ?_;have js:b.drop i=b[i]::b.drop (i+1):=List.drop_eq_getElem_cons R;refine W.rt ?_;exact .of (by rw[show pz a b=-1 by rw[μ,lF,js];rfl];rfl)
  ·refine aA (by simp[g]) ?_;refine Η ?_;have js:b.drop i=[]:=List.drop_eq_nil_of_le R;refine W.rt ?_;exact .of (by rw[show pz a b=0 by rw[μ,lF,js];rfl];rfl)
def nW (x y:Int×Int):Int:=pz [x.1,x.2] [y.1,y.2]
theorem NG (x y:Int×Int):az Tryz.prog 174 [aG x,aG y] (I (nW x y)):=by
 refine ab.body Υ Tryz.func174 rfl rfl Tryz.ntmps174 rfl rfl ζ ?_;refine Η ?_;refine W.draw (A:=[]) Υ mixed λΘ θ=>rM ?_;refine eZ (az.p (NF [x.1,x.2] [y.1,y.2] ζ) (.cons .ex (.cons .ex .nil)) ζ ζ) ?_;simp;(repeat (rw[dq];simp[]));try rw[dp]
 refine e5 (θ _ _ ?_);refine Η ?_;refine W.rt ?_;exact .of rfl
theorem WM (x y:Found):az Tryz.prog 148 [dg x,dg y] (I (nW (x.u,x.v) (y.u,y.v))):=by
 refine ab.body Υ Tryz.func148 rfl rfl Tryz.ntmps148 rfl rfl ζ ?_;refine Η ?_;refine W.draw (A:=[]) Υ mixed λΘ θ=>rM ?_;refine eZ (az.p (NF [x.u,x.v] [y.u,y.v] ζ) (.cons .ex (.cons .ex .nil)) ζ ζ) ?_;simp;(repeat (rw[dq];simp[]));try rw[dp]
 refine e5 (θ _ _ ?_);refine Η ?_;refine W.rt ?_;exact .of rfl
def g3 (l:List Found):Nat:=(l.map (·.many (-1))).sum
theorem NH (l:List Found) (ξ:l.length<2 ^ 62) (J:∀f∈l,f.cells.length<2 ^ 62/\∀i,i<=f.cells.length->je f.cells (-1) i<2 ^ 62) (U:g3 l<2 ^ 62) :
  az Tryz.prog 79 [cW l] (I (g3 l)):=by
 refine ab.body Υ Tryz.func79 rfl rfl Tryz.ntmps79 rfl rfl ζ ?_;refine Η ?_;refine W.iter (λi:Nat=>i<=l.length) (λi=>[(3,I (g3 (l.take i))),(6,cW l),(7,I l.length),(8,I i)]) (λ_=>[]) (λi=>l.length-i) 0 (Nat.zero_le _) rfl (by simp[g3]) (λi hi ω=>?_);refine Η ?_;refine W.eS rfl (λε=>?_) (λε=>?_)
 ·have ε:i<l.length:=by simpa using ε
  obtain⟨Ρ,aa⟩:=J _ (List.getElem_mem ε);have ν:g3 (l.take (i+1))=g3 (l.take i)+l[i].many (-1):=by
   unfold g3;rw[List.take_succ_eq_append_getElem ε,List.map_append,List.sum_append];simp only[List.map_cons,List.map_nil,List.sum_cons,List.sum_nil,Nat.add_zero]
  have aO:g3 (l.take i)+l[i].many (-1)<2 ^ 62:=by
   rw[<-ν];have e:g3 l=g3 (l.take (i+1))+g3 (l.drop (i+1)):=by
    conv=>lhs;rw[<-List.take_append_drop (i+1) l]
    simp only[g3,List.map_append,List.sum_append]
   omega
  repeat apply Ω
  refine dB (A:=[5]) Υ λΘ θ=>gS ε ?_;apply θ;refine bh λΘ θ=>?_;refine az.d (Ey l[i] (-1) Ρ aa) (bD ?_);apply θ;refine Η ?_;refine W.drop (h:=0) (Nat.zero_le _) (Nat.zero_le _) ζ rfl _ ?_ (ω (i+1) ε R);rw[ν];have:=gq aO;simp[fl ε ξ] at this ⊢;exact this
 ·have ε:i=l.length:=by simp at ε;omega
  subst ε;refine W.exit rfl ?_;refine Η ?_;refine W.rt ?_;exact .of (by rw[show g3 l=g3 (l.take l.length) by simp];rfl)
theorem aJ.hS {a:η} (h:aJ 0 a) (ρ:List Nat):hS ρ a=a:=by
 cases h with
 | ah h=>omega
 | ms h=>omega
 | mp h=>omega
 | it h=>omega
 | _=>rfl
theorem Ez {l:List η} (h:∀a∈l,aJ 0 a) (ρ:List Nat):l.map (hS ρ)=l:=by
 induction l with
 | nil=>rfl
 | cons a l ω=>rw[List.map_cons,(h a ζ).hS,ω λx γ=>h x (by simp[γ])]
theorem aJ.ed {a:η} (h:aJ 0 a) (ρ:List Nat):ed ρ a=a:=by
 have an:=h;cases h with
 | a0 h=>simp only[Go.TL.ed];rw[Ez h]
 | bq h=>simp only[Go.TL.ed];rw[Ez h]
 | fn J U=>simp only[Go.TL.ed];rw[Ez J,Ez U]
 | _=>exact an.hS ρ
theorem aJ.top {a:η} (h:aJ 0 a) (n:Nat):nS n a:=by
 have an:=h;cases h with
 | ah h=>omega
 | ms h=>omega
 | mp h=>omega
 | it h=>omega
 | _=>exact an
theorem aJ.iM {a:η} (h:aJ 0 a) (n:Nat):fR n a:=by
 have an:=h;cases h with
 | a0 h=>exact λa κ=>(h a κ).top n
 | bq h=>exact λa κ=>(h a κ).top n
 | fn J U=>exact⟨λa κ=>(J a κ).top n,λa κ=>(U a κ).top n⟩
 | _=>exact an.top n
theorem oH {h id n i len:Nat}:fR h (.ms id n i len)↔id<h:=Iff.rfl
theorem wI {h:Nat} {v:Value}:fR h (.z v)↔True:=⟨λ_=>trivial,λ_=>(aJ.z v).iM h⟩
theorem oI {ρ:List Nat} {id n i len:Nat}:ed ρ (.ms id n i len)=.ms (ρ.getD id 0) n i len:=rfl
theorem nX {ρ:List Nat} {v:Value}:ed ρ (.z v)=.z v:=rfl
section
variable {P:Program} {σ:List Row}
theorem ab.one {g:FuncId} {as0:List η} {row row':Row} {r:η} {K E:η->List Row->Prop} (h:ab P g as0 [row] (λa s=>a=r/\s=[row']) (λ_ _=>False)) (id:Nat) (b5:σ[id]?=some row) (π:iJ row) (iw:iJ row') (κ:∀a∈as0,fR 1 a) (ι:fR 1 r)
  {args:List η} (m4:args=as0.map (ed [id])) (θ:K (ed [id] r) (σ.set id row')):ha P (.fn (.func g) [] []) args σ K E:=by
 subst m4;have aY:=ab.rows (σ:=σ) h [id] ζ rfl (λj i δ=>by
  cases j with
  | zero=>simp at δ;subst δ;exact b5
  | succ j=>simp at δ) (λr ι=>by simp at ι;subst ι;exact π) (by simpa using κ) (K':=K) (E':=E) (λa s ⟨J,U⟩=>by
   subst J;subst U;refine⟨λx γ=>by simp at γ;subst γ;exact iw,ι,?_⟩;simpa[names,qw,jd] using θ) (λa s h=>h.elim)
 exact ab.call (first:=[]) (captured:=[]) (by simpa using aY)
end
section
variable {P:Program} {σ:List Row}
theorem ab.Ig {g:FuncId} {as0:List η} {row:Row} {K0 K E:η->List Row->Prop} (h:ab P g as0 [row] K0 (λ_ _=>False)) (id:Nat) (b5:σ[id]?=some row) (π:iJ row) (κ:∀a∈as0,fR 1 a)
  {args:List η} (m4:args=as0.map (ed [id])) (θ:∀a s,K0 a s->∃row',s=[row']/\iJ row'/\fR 1 a/\K (ed [id] a) (σ.set id row')):ha P (.fn (.func g) [] []) args σ K E:=by
 subst m4;have aY:=ab.rows (σ:=σ) h [id] ζ rfl (λj i δ=>by
  cases j with
  | zero=>simp at δ;subst δ;exact b5
  | succ j=>simp at δ) (λr ι=>by simp at ι;subst ι;exact π) (by simpa using κ) (K':=K) (E':=E) (λa s an=>by
   obtain⟨row',rfl,iw,ι,χ⟩:=θ a s an;refine⟨λx γ=>by simp at γ;subst γ;exact iw,ι,?_⟩;simpa[names,qw,jd] using χ) (λa s h=>h.elim)
 exact ab.call (first:=[]) (captured:=[]) (by simpa using aY)
end
theorem wJ {α:Type} {f:α->η} {t k:Nat} {l:List α} (h:∀x,∀a∈(f x).cells,aJ 0 a):iJ (.cells t k (l.map f)):=λe he a κ=>by
 obtain⟨x,_,rfl⟩:=List.mem_map.1 he;exact h x a κ
theorem eJ.part {id k m:Nat} {σ:List Row} {t:TypeId} {l l2:List η} (bQ:σ[id]?=some (.cells t k (l++l2))) (hm:l.length=m) (hb:∀e∈l,∀a∈e.cells,aJ 0 a):eJ 0 σ (.ms id (l++l2).length 0 m) (.sl false k l):=by
 subst hm;refine .ms (Nat.zero_le _) bQ rfl ζ rfl (λj e aM J U=>?_) (λj e aM J U x a bT μ Ε=>?_)
 ·have δ:=(bX.1 U).1;rw[Nat.zero_add,dI δ] at J;rw[J] at U;cases U;rfl
 ·have δ:=(bX.1 U).1;rw[Nat.zero_add,dI δ] at J;rw[J] at U;cases U;rw[μ] at Ε;cases Ε;exact .low (hb e (cG J) a (cG μ))
theorem qx {α:Type} [Inhabited α] {d:Array α} {i:Nat} (h:i<d.size):d[i]?=some d[i]!:=by simp[h]
def aB {α:Type} (cmp:α->α->Int) (x y:α):Bool:=decide (cmp x y<0)
end Go.TL
