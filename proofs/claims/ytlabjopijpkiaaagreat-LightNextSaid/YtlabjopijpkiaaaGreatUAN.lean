import Derived.Sort.AssemblyPlain
import Derived.Test.YtlabjopijpkiaaaGreatUAM
set_option maxHeartbeats 16000000
set_option maxRecDepth 20000
set_option linter.unusedSectionVars false
set_option linter.unusedSimpArgs false
set_option linter.unusedVariables false
namespace Go.TL
open Go.Proofs
variable [bt]
theorem Iy:IntKind.i64.wrap 1=1:=bD
theorem Iz:IntKind.i64.wrap 2=2:=bD
theorem fz {i n:Nat} (h:i<n) (Η:n<2 ^ 62):IntKind.i64.wrap ((i:Int)+1)=((i+1:Nat):Int):=by
 rw[IntWalk.i64_in _ R];rfl
theorem Ou (a b:List Int) (μ:a.length<2 ^ 62):aD Tryz.prog 30 [a2 J 1 a,a2 J 1 b] (bm (a==b)):=by
 refine ao.body Φ Tryz.func30 rfl rfl Tryz.ntmps30 rfl rfl θ ?_;refine Ζ ?_;refine W.iter (λp:Nat×Bool=>p.1<=a.length/\(p.2=true->a.length=b.length/\∀j,j<p.1->a[j]?=b[j]?)/\(p.2=false->a≠b)) (λp=>[(0,a2 J 1 a),(1,a2 J 1 b),(5,bm p.2),(6,J p.1)]) (λ_=>[]) (λp=>a.length-p.1) (0,decide (a.length=b.length)) ⟨Nat.zero_le _,θ,by simp;exact λh e=>h (by rw[e])⟩ rfl θ (λi hi Β=>?_);rcases i with⟨i,_|_⟩
 ·refine Ζ ?_;refine aj rfl ?_;refine W.exit rfl ?_;refine Ζ ?_;refine W.rt ?_;exact .of (by simp[hi.2.2 rfl])
 ·refine Ζ ?_;have υ:=(hi.2.1 rfl).1;refine W.eM rfl (λε=>?_) (λε=>?_)
  ·have ε:i<a.length:=by simpa using ε
   have a8:i<b.length:=R;refine Ζ ?_;refine gx (Μ ε a8) ?_;refine Ζ ?_;refine W.forget _ ?_ (Β (i+1,decide (a[i]=b[i])) ⟨by simp;omega,λh=>⟨υ,λj δ=>?_⟩,λh e=>?_⟩ (by simp;omega))
   ·simp[fz ε μ]
   ·by_cases e:j=i
    ·subst e;rw[a5 ε,a5 a8];simpa using h
    ·exact(hi.2.1 rfl).2 j (by simp at δ;omega)
   ·subst e;simp at h
  ·have ε:a.length<=i:=by simpa using ε
   refine W.exit rfl ?_;refine Ζ ?_;refine W.rt ?_;refine .of ?_;have:a=b:=List.ext_getElem? λj=>by
    by_cases δ:j<i
    ·exact(hi.2.1 rfl).2 j δ
    ·rw[List.getElem?_eq_none R,List.getElem?_eq_none R]
   simp[this]
abbrev aQ (l:List (List Int)):η:=a2 (a2 J 1) 1 l
theorem IA (l:List Int) (n:Int) (υ:l.length<2 ^ 62):aD Tryz.prog 71 [a2 J 1 l,J n] (J (if n∈l then(l.idxOf n:Nat) else -1)):=by
 refine ao.body Φ Tryz.func71 rfl rfl Tryz.ntmps71 rfl rfl θ ?_;refine Ζ ?_;refine W.iter (λi:Nat=>i<=l.length/\∀j,j<i->(h:j<l.length)->l[j]≠n) (λi=>[(0,a2 J 1 l),(1,J n),(5,J i)]) (λ_=>[]) (λi=>l.length-i) 0 ⟨Nat.zero_le _,λj δ=>R⟩ rfl θ (λi hi Β=>?_)
 repeat apply ar
 by_cases ε:i<l.length
 ·refine aR ε ?_;refine W.eM rfl (λa8=>?_) (λa8=>?_)
  ·have Η:l[i]≠n:=by simpa using a8
   refine Ζ ?_;refine W.forget _ ?_ (Β (i+1) ⟨ε,λj δ h=>?_⟩ R)
   ·simp[fz ε υ]
   ·by_cases e:j=i
    ·subst e;exact Η
    ·exact hi.2 j R h
  ·have Η:l[i]=n:=by simpa using a8
   refine W.exit rfl ?_;refine Ζ ?_;have bA:¬i=l.length:=R;refine aj (by simp[bA]) ?_;refine Ζ ?_;refine W.rt ?_;have hm:n∈l:=Η▸List.getElem_mem _;refine .of ?_;rw[if_pos hm];have:l.idxOf n=i:=by
    have aB:l.idxOf n<l.length:=List.idxOf_lt_length_of_mem hm
    have Δ:l[l.idxOf n]=n:=List.getElem_idxOf aB
    have I:¬l.idxOf n<i:=λh=>hi.2 _ h aB Δ
    have U:¬i<l.idxOf n:=λh=>by
     have:=List.not_of_lt_findIdx (p:=(·==n)) (xs:=l) (i:=i) h;simp[Η] at this
    omega
   rw[this];rfl
 ·refine aR ε ?_;refine aj rfl ?_;refine W.exit rfl ?_;refine Ζ ?_;have he:i=l.length:=R;refine al (by simp[he]) ?_;refine Ζ ?_;refine W.rt ?_;have hm:n∉l:=λh=>by
   obtain⟨j,δ,e⟩:=List.getElem_of_mem h;exact hi.2 j R δ e
  exact .of (by simp[hm])
theorem XK (a b:List (List Int)) (μ:a.length<2 ^ 40) (ν:∀x∈a,x.length<2 ^ 40):aD Tryz.prog 50 [aQ a,aQ b] (bm (a==b)):=by
 refine ao.body Φ Tryz.func50 rfl rfl Tryz.ntmps50 rfl rfl θ ?_;refine Ζ ?_;refine W.iter (λp:Nat×Bool=>p.1<=a.length/\(p.2=true->a.length=b.length/\∀j,j<p.1->a[j]?=b[j]?)/\(p.2=false->a≠b)) (λp=>[(0,aQ a),(1,aQ b),(5,bm p.2),(6,J p.1)]) (λ_=>[]) (λp=>a.length-p.1) (0,decide (a.length=b.length)) ⟨Nat.zero_le _,θ,by simp;exact λh e=>h (by rw[e])⟩ rfl θ (λi hi Β=>?_);rcases i with⟨i,_|_⟩
 ·refine Ζ ?_;refine aj rfl ?_;refine W.exit rfl ?_;refine Ζ ?_;refine W.rt ?_;exact .of (by simp[hi.2.2 rfl])
 ·refine Ζ ?_;have υ:=(hi.2.1 rfl).1;refine W.eM rfl (λε=>?_) (λε=>?_)
  ·have ε:i<a.length:=by simpa using ε
   have a8:i<b.length:=R;refine Ζ ?_;refine W.draw (A:=[]) Φ mixed λΕ ζ=>iu (Μ ε a8) ?_;refine gv (aD.q (Ou a[i] b[i] (by have:=ν _ (List.getElem_mem ε);omega))) (rG ?_);refine fy (ζ _ _ ?_);refine Ζ ?_;refine W.forget _ ?_ (Β (i+1,a[i]==b[i]) ⟨by simp;omega,λh=>⟨υ,λj δ=>?_⟩,λh e=>?_⟩ (by simp;omega))
   ·simp[fz ε (show a.length<2 ^ 62 by omega)]
   ·by_cases e:j=i
    ·subst e;rw[a5 ε,a5 a8];simpa using h
    ·exact(hi.2.1 rfl).2 j (by simp at δ;omega)
   ·subst e;simp at h
  ·have ε:a.length<=i:=by simpa using ε
   refine W.exit rfl ?_;refine Ζ ?_;refine W.rt ?_;refine .of ?_;have:a=b:=List.ext_getElem? λj=>by
    by_cases δ:j<i
    ·exact(hi.2.1 rfl).2 j δ
    ·rw[List.getElem?_eq_none R,List.getElem?_eq_none R]
   simp[this]
structure l6 where
 name:ByteArray
 eE:Int
deriving DecidableEq
structure eR where
 cQ:Int
 seen:Int
 bare:Int
deriving DecidableEq
structure aI where
 ag:List l6
 ak:List (List Int)
 cells:List (List eR)
deriving DecidableEq
abbrev eN (g:l6):η:=.aV [nE g.name,J g.eE]
abbrev eO (p:eR):η:=.aV [J p.cQ,J p.seen,J p.bare]
abbrev aS (l:List l6):η:=a2 eN 2 l
abbrev qk (l:List eR):η:=a2 eO 3 l
abbrev bl (l:List (List eR)):η:=a2 qk 1 l
abbrev fs (s:aI):η:=.aV [aS s.ag,aQ s.ak,bl s.cells]
def aI.small (s:aI):Prop:=s.ag.length<2 ^ 30/\s.ak.length<2 ^ 30/\s.cells.length<2 ^ 30/\(∀x∈s.ak,x.length<2 ^ 30)/\∀x∈s.cells,x.length<2 ^ 30
@[simp] theorem lη (x y:Int):(x != y) = !decide (x=y):=by rw[Bool.eq_iff_iff];simp
section
variable {P:Program} {m nt:Nat} {k:List Item} {env:aa} {σ σ':List Row} {Z:List Item->aa->List Row->Prop} {E:η->aa->List Row->Prop}
theorem W.drop {h:Nat} (hm:m<=h) (aY:h<=σ.length) (ob:∀(id:Nat) (r:Row),id<h->σ[id]?=some r->eW h r) (l5:σ.take h=σ') (env':aa) (cK:∀p∈env',a6 env p.1=p.2/\ay h p.2) (hW:W P m nt k env' σ' Z E):W P m nt k env σ Z E:=
 W.cut h hm env' aY ob (λp ψ=>by rw[(cK p ψ).1];exact .low (cK p ψ).2) (by rw[l5];exact hW)
theorem W.fix {id:Nat} {t:TypeId} {e:η} {kk:Nat} (hm:m<=id) (bF:σ[id]?=some (.cells t kk [e])) (he:∀a∈e.cells,ay id a) (ob:∀(D3:Nat) (r:Row),D3<id->σ[D3]?=some r->eW id r) (l5:σ.take id=σ') (env':aa)
  (cK:∀p∈env',(a6 env p.1=p.2/\ay id p.2)\/(a6 env p.1=.an id 1 0 0/\p.2=.ab e.cells)) (hW:W P m nt k env' σ' Z E):W P m nt k env σ Z E:=
 W.cut id hm env' (Nat.le_of_lt (cf.1 bF).1) ob (λp ψ=>by
  rcases cK p ψ with⟨I,U⟩|⟨I,U⟩
  ·rw[I];exact .low U
  ·rw[I,U];refine .an (Nat.le_refl _) bF rfl (e:=e) rfl θ λx a cn Τ af=>?_;rw[Nat.zero_add] at Τ;rw[Τ] at af;cases af;exact .low (he a (cr Τ))) (by rw[l5];exact hW)
theorem W.to {env':aa} (h:W P m nt k env' σ' Z E) (l5:σ=σ') (cK:∀p∈env',a6 env p.1=p.2):W P m nt k env σ Z E:=l5▸W.forget env' cK h
end
abbrev l7 (a b:Int):Int:=e4 .i64 a b
abbrev pf (a b:Int):Int:=rj .i64 a b
abbrev wq (a b:Int):Int:=k7 .i64 a b
section
variable {P:Program} {σ:List Row}
theorem gi.c {f:η} {args:List η} {r:η} {K E:η->List Row->Prop} (h:gi P f args r) (ζ:K r σ):hE P f args σ K E:=
 hE.mono (h σ) (λa s ⟨I,U⟩=>by subst I;subst U;exact ζ) (λ_ _ h=>h.elim)
end
def kl (n:Int):Bool:=decide (0<=n)&&decide (n<=2)
theorem pg (n:Int):aD Tryz.prog 93 [J n] (bm (kl n)):=by
 refine ao.body Φ Tryz.func93 rfl rfl Tryz.ntmps93 rfl rfl θ ?_;by_cases h:0<=n
 ·refine aR h ?_;refine W.rt ?_;exact .of (by simp[kl,h])
 ·refine aR h ?_;refine W.rt ?_;exact .of (by simp[kl,h])
def valid (n:Int):Bool:=decide (0<=n)&&decide (n<=63)
theorem x6 (n:Int):aD Tryz.prog 109 [J n] (bm (valid n)):=by
 refine ao.body Φ Tryz.func109 rfl rfl Tryz.ntmps109 rfl rfl θ ?_;by_cases h:0<=n
 ·refine aR h ?_;refine W.rt ?_;exact .of (by simp[valid,h])
 ·refine aR h ?_;refine W.rt ?_;exact .of (by simp[valid,h])
theorem Ov (a b:Int):aD Tryz.prog 196 [J a,J b] (bm (l7 a b==0)):=by
 refine ao.body Φ Tryz.func196 rfl rfl Tryz.ntmps196 rfl rfl θ ?_;refine Ζ ?_;refine W.rt ?_;exact .of θ
theorem Ow (a b:Int):aD Tryz.prog 210 [J a,J b] (bm (wq a b==0)):=by
 refine ao.body Φ Tryz.func210 rfl rfl Tryz.ntmps210 rfl rfl θ ?_;refine Ζ ?_;refine W.rt ?_;exact .of θ
theorem IB (b:Bool):aD Tryz.prog 127 [bm b] (J (if b then 1 else 0)):=by
 refine ao.body Φ Tryz.func127 rfl rfl Tryz.ntmps127 rfl rfl θ ?_;cases b
 ·refine Ζ ?_;refine aj rfl ?_;refine Ζ ?_;refine W.rt ?_;exact .refl _
 ·refine Ζ ?_;refine al rfl ?_;refine Ζ ?_;refine W.rt ?_;exact .refl _
theorem IC (n:Int):aD Tryz.prog 193 [J n] (bm false):=by
 refine ao.body Φ Tryz.func193 rfl rfl Tryz.ntmps193 rfl rfl θ ?_;refine Ζ ?_;refine W.rt ?_;exact .of θ
def Ew (n:Int):Int:=pf (pf (wq n 15) (IntKind.i64.wrap (l7 n 5*2))) ((l7 n 10).fdiv 2)
theorem XL (n:Int):aD Tryz.prog 99 [J n] (J (Ew n)):=by
 refine ao.body Φ Tryz.func99 rfl rfl Tryz.ntmps99 rfl rfl θ ?_;refine Ζ ?_;refine W.rt ?_;exact .of (by simp[Ew,IntKind.bits])
def idxOf {α:Type} (p:α->Bool) (l:List α):Int:=if l.any p then(l.findIdx p:Nat) else -1
theorem Ex {α:Type} {p:α->Bool} {l:List α} {i:Nat} (h:i<l.length) (I:p l[i]=true) (U:∀j,j<i->(δ:j<l.length)->p l[j]=false):idxOf p l=(i:Nat):=by
 have μ:l.any p=true:=List.any_eq_true.2 ⟨_,List.getElem_mem h,I⟩
 have:l.findIdx p=i:=by
  have ξ:¬l.findIdx p<i:=λaB=>by
   have υ:l.findIdx p<l.length:=R
   have:=List.findIdx_getElem (p:=p) (w:=υ);rw[U _ aB υ] at this;cases this
  have Κ:¬i<l.findIdx p:=λaB=>by
   have:=List.not_of_lt_findIdx aB;rw[I] at this;simp at this
  omega
 unfold idxOf;rw[if_pos μ,this]
theorem Ey {α:Type} {p:α->Bool} {l:List α} (h:∀j,(δ:j<l.length)->p l[j]=false):idxOf p l=-1:=by
 have:l.any p=false:=by
  rw[List.any_eq_false];intro x γ;obtain⟨j,δ,rfl⟩:=List.getElem_of_mem γ;simp[h j δ]
 unfold idxOf;rw[this];rfl
theorem Ez {α:Type} {p:α->Bool} {l:List α}:decide (idxOf p l>=0)=l.any p:=by
 unfold idxOf;cases h:l.any p<;>simp
theorem XM (l:List Int) (n:Int) (υ:l.length<2 ^ 62):aD Tryz.prog 137 [a2 J 1 l,J n] (J (idxOf (·==n) l)):=by
 refine ao.body Φ Tryz.func137 rfl rfl Tryz.ntmps137 rfl rfl θ ?_;refine Ζ ?_;refine W.iter (λi:Nat=>i<=l.length/\∀j,j<i->(h:j<l.length)->(l[j]==n)=false) (λi=>[(0,a2 J 1 l),(1,J n),(6,a2 J 1 l),(7,J l.length),(8,J i)]) (λ_=>[]) (λi=>l.length-i) 0 ⟨Nat.zero_le _,λj δ=>R⟩ rfl θ (λi hi Β=>?_);refine Ζ ?_;refine W.eM rfl (λε=>?_) (λε=>?_)
 ·have ε:i<l.length:=by simpa using ε
  refine aR ε ?_;refine W.eM rfl (λa8=>?_) (λa8=>?_)
  ·have Η:n=l[i]:=by simpa using a8
   refine Ζ ?_;refine W.rt ?_;exact .of (by rw[Ex ε (by simp[Η]) hi.2];rfl)
  ·have Η:¬n=l[i]:=by simpa using a8
   refine Ζ ?_;refine W.forget _ ?_ (Β (i+1) ⟨R,λj δ h=>?_⟩ R)
   ·simp[fz ε υ]
   ·by_cases e:j=i
    ·subst e;simpa using λx=>Η x.symm
    ·exact hi.2 j R h
 ·have ε:l.length<=i:=by simpa using ε
  refine W.exit rfl ?_;refine Ζ ?_;refine W.rt ?_;exact .of (by rw[Ey λj δ=>hi.2 j R δ];rfl)
theorem any_beq (l:List Int) (n:Int):(l.any λx=>x==n)=l.contains n:=by
 rw[Bool.eq_iff_iff];simp
theorem Ox (l:List Int) (n:Int) (υ:l.length<2 ^ 62):aD Tryz.prog 110 [a2 J 1 l,J n] (bm (l.contains n)):=by
 refine ao.body Φ Tryz.func110 rfl rfl Tryz.ntmps110 rfl rfl θ ?_;refine Ζ ?_;refine bN λΕ ζ=>?_;refine aD.d (XM l n υ) (bT ?_);apply ζ;refine Ζ ?_;refine W.rt ?_;exact .of (by rw[<-any_beq,<-Ez];rfl)
@[simp high] theorem XN {h:Nat} {e:Bool} {k:Nat} {α:Type} {f:α->η} {l:List α}:ay h (.sl e k (l.map f))↔∀x∈l,∀a∈(f x).cells,ay h a:=by
 rw[hh];simp only[List.mem_map];exact⟨λH x γ=>H _ ⟨x,γ,rfl⟩,λH e ⟨x,γ,he⟩=>he▸H x γ⟩
@[simp high] theorem lθ {h:Nat} {e:Bool} {k n:Nat} {α:Type} {f:α->η} {l:List α}:ay h (.sl e k ((l.map f).take n))↔∀x∈l.take n,∀a∈(f x).cells,ay h a:=by
 rw[<-List.map_take];exact XN
abbrev aC (r:Int×Int):η:=.aV [J r.1,J r.2]
abbrev mQ (l:List (Int×Int)):η:=a2 aC 2 l
abbrev mR (l:List (List (Int×Int))):η:=a2 mQ 1 l
structure Found where
 u:Int
 v:Int
 cells:List (List (Int×Int))
deriving DecidableEq
abbrev de (f:Found):η:=.aV [J f.u,J f.v,mR f.cells]
abbrev cX (l:List Found):η:=a2 de 3 l
def aI.of (s:aI) (g:Int):Int:=if g<0 then 0 else((s.ag[g.toNat]?).map (·.eE)).getD 0
theorem Eu (s:aI) (g:Int) (Ρ:g<s.ag.length):aD Tryz.prog 125 [fs s,J g] (J (s.of g)):=by
 refine ao.body Φ Tryz.func125 rfl rfl Tryz.ntmps125 rfl rfl θ ?_;refine Ζ ?_;refine W.eM rfl (λε=>?_) (λε=>?_)
 ·have ε:g<0:=by simpa using ε
  refine Ζ ?_;refine W.rt ?_;exact .of (by rw[show s.of g=0 by simp[aI.of,ε]];rfl)
 ·have ε:¬g<0:=by simpa using ε
  obtain⟨n,rfl⟩:∃n:Nat,g=n:=⟨g.toNat,R⟩;have Η:n<s.ag.length:=R;refine aR Η ?_;refine W.rt ?_;exact .of (by rw[show s.of n=s.ag[n].eE by simp[aI.of,Η];intro h;omega];rfl)
def aI.dU (s:aI) (p r:Int×Int) (cQ:Nat):Int:=
 let l:=(s.ak[cQ]?).getD []
 let a:=if l.contains p.1 then pf 0 (s.of r.1) else 0
 if l.contains p.2 then pf a (s.of r.2) else a
theorem As (s:aI) (ν:s.small) (p r:Int×Int) (n:Nat) (Η:n<s.ak.length) (I:r.1<s.ag.length) (U:r.2<s.ag.length) :
  aD Tryz.prog 77 [fs s,aC p,aC r,J n] (J (s.dU p r n)):=by
 refine ao.body Φ Tryz.func77 rfl rfl Tryz.ntmps77 rfl rfl θ ?_;have υ:s.ak[n].length<2 ^ 62:=by have:=ν.2.2.2.1 _ (List.getElem_mem Η);omega
 refine Ζ ?_;refine W.iter (λq:Nat×Int=>q.1<=2/\(q.1=0->q.2=0)/\(q.1=1->q.2=if s.ak[n].contains p.1 then pf 0 (s.of r.1) else 0)/\(q.1=2->q.2=s.dU p r n))
  (λq=>[(3,J n),(4,.ab [aS s.ag,aQ s.ak,bl s.cells]),(5,.ab [J p.1,J p.2]),(6,.ab [J r.1,J r.2]),(9,J q.2),(12,aC p),(13,J q.1)]) (λ_=>[]) (λq=>2-q.1) (0,0) ⟨R,θ,θ,θ⟩ rfl θ (λq hi Β=>?_)
 rcases q with⟨i,x⟩
 match i,hi,Β with
 | 0,hi,Β=>
  have γ:x=0:=hi.2.1 rfl;subst γ;refine Ζ ?_;refine al rfl ?_;refine Ζ ?_;refine h5 Η λΕ ζ=>?_;refine aD.d (Ox s.ak[n] p.1 υ) (bT ?_);apply ζ;by_cases ε:p.1∈s.ak[n]
  ·refine al (by simp[ε]) ?_;refine Ζ ?_;refine W.draw (A:=[]) Φ mixed λΕ ζ=>rG ?_;refine gv (aD.q (Eu s r.1 I)) (rG ?_);refine fy (ζ _ _ ?_);refine Ζ ?_;refine W.forget _ ?_ (Β (1,pf 0 (s.of r.1)) ⟨θ,θ,by simp[ε],θ⟩ θ);simp[Iy]
  ·refine aj (by simp[ε]) ?_;refine Ζ ?_;refine W.forget _ ?_ (Β (1,0) ⟨θ,θ,by simp[ε],θ⟩ θ);simp[Iy]
 | 1,hi,Β=>
  have γ:=hi.2.2.1 rfl;simp at γ;refine Ζ ?_;refine al rfl ?_;refine Ζ ?_;refine h5 Η λΕ ζ=>?_;refine aD.d (Ox s.ak[n] p.2 υ) (bT ?_);apply ζ;by_cases ε:p.2∈s.ak[n]
  ·refine al (by simp[ε]) ?_;refine Ζ ?_;refine W.draw (A:=[]) Φ mixed λΕ ζ=>rG ?_;refine gv (aD.q (Eu s r.2 U)) (rG ?_);refine fy (ζ _ _ ?_);refine Ζ ?_;refine W.forget _ ?_ (Β (2,pf x (s.of r.2)) ⟨θ,θ,θ,λ_=>by simp only[aI.dU,a5 Η];simp[ε,γ]⟩ θ);simp[Iz]
  ·refine aj (by simp[ε]) ?_;refine Ζ ?_;refine W.forget _ ?_ (Β (2,x) ⟨θ,θ,θ,λ_=>by simp only[aI.dU,a5 Η];simp[ε,γ]⟩ θ);simp[Iz]
 | 2,hi,Β=>
  have γ:=hi.2.2.2 rfl;refine Ζ ?_;refine aj rfl ?_;refine W.exit rfl ?_;refine Ζ ?_;refine W.rt ?_;exact .of (by rw[<-show x=s.dU p r n from γ];rfl)
 | i+3,hi,Β=>exact absurd hi.1 θ
def aI.jS (s:aI) (p r:Int×Int) (x:eR):Bool:=wq x.seen (s.dU p r x.cQ.toNat)==0&&l7 (s.dU p r x.cQ.toNat) x.bare==0
def aI.nF (s:aI) (p r:Int×Int) (c:Nat):Bool:=((s.cells[c]?).getD []).all (s.jS p r)
theorem XO (s:aI) (ν:s.small) (p r:Int×Int) (c:Nat) (Η:c<s.cells.length) (hv:∀x∈s.cells[c],0<=x.cQ/\x.cQ<s.ak.length) (I:r.1<s.ag.length) (U:r.2<s.ag.length) :
  aD Tryz.prog 172 [fs s,aC p,aC r,J c] (bm (s.nF p r c)):=by
 refine ao.body Φ Tryz.func172 rfl rfl Tryz.ntmps172 rfl rfl θ ?_;have υ:s.cells[c].length<2 ^ 62:=by have:=ν.2.2.2.2 _ (List.getElem_mem Η);omega
 have gg:s.nF p r c=s.cells[c].all (s.jS p r):=by simp[aI.nF,Η]
 rw[gg];refine aR Η ?_;refine W.iter (λi:Nat=>i<=s.cells[c].length/\∀j,j<i->(h:j<s.cells[c].length)->s.jS p r s.cells[c][j]=true)
  (λi=>[(4,.ab [aS s.ag,aQ s.ak,bl s.cells]),(5,.ab [J p.1,J p.2]),(6,.ab [J r.1,J r.2]),(17,qk s.cells[c]),(18,J s.cells[c].length),(19,J i)]) (λ_=>[]) (λi=>s.cells[c].length-i) 0 ⟨R,λj δ=>R⟩ rfl θ (λi hi Β=>?_)
 refine Ζ ?_;refine W.eM rfl (λε=>?_) (λε=>?_)
 ·have ε:i<s.cells[c].length:=by simpa using ε
  have γ:=hv _ (List.getElem_mem ε);obtain⟨n,ph⟩:∃n:Nat,s.cells[c][i].cQ=n:=⟨s.cells[c][i].cQ.toNat,R⟩;have n3:n<s.ak.length:=R;have br:s.jS p r s.cells[c][i]=(wq s.cells[c][i].seen (s.dU p r n)==0&&l7 (s.dU p r n) s.cells[c][i].bare==0):=by simp[aI.jS,ph]
  repeat apply ar
  refine dG (A:=[10]) Φ λΕ ζ=>gQ ε ?_;apply ζ
  repeat apply ar
  refine h5 ph λΕ ζ=>?_;refine aD.d (As s ν p r n n3 I U) (bT ?_);apply ζ
  repeat apply ar
  by_cases Τ:wq s.cells[c][i].seen (s.dU p r n)=0
  ·refine h5 @Τ λΕ ζ=>?_;refine aD.d (Ow s.cells[c][i].seen (s.dU p r n)) (gQ @Τ ?_);refine aD.d (Ov (s.dU p r n) s.cells[c][i].bare) (bT ?_);apply ζ;by_cases af:l7 (s.dU p r n) s.cells[c][i].bare=0
   ·refine aj (by simp[af]) ?_;refine Ζ ?_;refine W.drop (h:=0) (Nat.zero_le _) (Nat.zero_le _) θ rfl _ ?_ (Β (i+1) ⟨R,λj δ h=>?_⟩ R)
    ·simp[fz ε υ]
    ·by_cases e:j=i
     ·subst e;rw[br];simp[Τ,af]
     ·exact hi.2 j R h
   ·refine al (by simp[af]) ?_;refine Ζ ?_;refine W.drop (h:=0) (Nat.zero_le _) (Nat.zero_le _) θ rfl [(8,bm false)] θ ?_;refine W.rt ?_;exact .of (by rw[show s.cells[c].all (s.jS p r)=false from List.all_eq_false.2 ⟨_,List.getElem_mem ε,by rw[br];simp[af]⟩];rfl)
  ·refine h5 @Τ λΕ ζ=>?_;refine aD.d (Ow s.cells[c][i].seen (s.dU p r n)) (gQ @Τ ?_);apply ζ;refine al θ ?_;refine Ζ ?_;refine W.drop (h:=0) (Nat.zero_le _) (Nat.zero_le _) θ rfl [(8,bm false)] θ ?_;refine W.rt ?_;exact .of (by rw[show s.cells[c].all (s.jS p r)=false from List.all_eq_false.2 ⟨_,List.getElem_mem ε,by rw[br];simp[Τ]⟩];rfl)
 ·have ε:s.cells[c].length<=i:=by simpa using ε
  refine W.exit rfl ?_;refine Ζ ?_;refine W.ret ⟨_,rfl,?_,rfl⟩;refine .of ?_;rw[show s.cells[c].all (s.jS p r)=true from List.all_eq_true.2 λx γ=>by
   obtain⟨j,δ,rfl⟩:=List.getElem_of_mem γ;exact hi.2 j R δ]
  rfl
def gF (l:List (List (Int×Int))) (g0:Int) (i:Nat):Nat:=((List.range i).map λj:Nat=>if(j:Int)=g0 then 1 else((l[j]?).getD []).length).prod
theorem uu (l:List (List (Int×Int))) (g0:Int) (i:Nat):gF l g0 (i+1)=gF l g0 i*(if(i:Int)=g0 then 1 else((l[i]?).getD []).length):=by
 unfold gF;rw[List.range_succ,List.map_append,List.prod_append];simp
def Found.many (f:Found) (g0:Int):Nat:=gF f.cells g0 f.cells.length
theorem fV {n:Nat} (h:n<2 ^ 62):IntKind.i64.wrap (n:Int)=n:=IntWalk.i64_in _ R
theorem EA (f:Found) (g0:Int) (υ:f.cells.length<2 ^ 62) (hm:∀i,i<=f.cells.length->gF f.cells g0 i<2 ^ 62) :
  aD Tryz.prog 78 [de f,J g0] (J (f.many g0)):=by
 refine ao.body Φ Tryz.func78 rfl rfl Tryz.ntmps78 rfl rfl θ ?_;refine Ζ ?_;refine W.iter (λi:Nat=>i<=f.cells.length) (λi=>[(1,J g0),(5,J (gF f.cells g0 i)),(9,mR f.cells),(10,J f.cells.length),(11,J i)]) (λ_=>[]) (λi=>f.cells.length-i) 0 (Nat.zero_le _) rfl (by simp[gF]) (λi hi Β=>?_);refine Ζ ?_;refine W.eM rfl (λε=>?_) (λε=>?_)
 ·have ε:i<f.cells.length:=by simpa using ε
  have ν:=uu f.cells g0 i
  have aB:=hm (i+1) ε;refine aR ε ?_;by_cases g:(i:Int)=g0
  ·refine aj (by simp[g]) ?_;refine Ζ ?_;refine W.forget _ ?_ (Β (i+1) ε R);rw[ν,if_pos g];simp[fz ε υ]
  ·refine al (by simp[g]) ?_;have hv:gF f.cells g0 i*f.cells[i].length<2 ^ 62:=by rw[ν,if_neg g] at aB;simpa[ε] using aB
   refine aR ε ?_;refine W.forget _ ?_ (Β (i+1) ε R);rw[ν,if_neg g];simp only[a5 ε,Option.getD_some];have:=fV hv;simp[fz ε υ] at this ⊢;simp[this]
 ·have ε:i=f.cells.length:=by simp at ε;omega
  subst ε;refine W.exit rfl ?_;refine Ζ ?_;refine W.rt ?_;exact .of rfl
def pj (a b:Int):Int:=if a<b then -1 else if b<a then 1 else 0
theorem XP (a b:Int):aD Tryz.prog 151 [J a,J b] (J (pj a b)):=by
 refine ao.body Φ Tryz.func151 rfl rfl Tryz.ntmps151 rfl rfl θ ?_;refine Ζ ?_;refine bN λΕ ζ=>?_;refine aD.d (IC a) (bT ?_);apply ζ;refine bN λΕ ζ=>?_;refine aD.d (IC b) (bT ?_);apply ζ;refine Ζ ?_;refine aj rfl ?_;refine Ζ ?_;refine aj rfl ?_;refine Ζ ?_;refine W.eM rfl (λε=>?_) (λε=>?_)
 ·have ε:a<b:=by simpa using ε
  refine Ζ ?_;refine W.rt ?_;exact .of (by rw[show pj a b=-1 by simp[pj,ε]];rfl)
 ·have ε:¬a<b:=by simpa using ε
  refine Ζ ?_;refine W.eM rfl (λa8=>?_) (λa8=>?_)
  ·have a8:b<a:=by simpa using a8
   refine Ζ ?_;refine W.rt ?_;exact .of (by rw[show pj a b=1 by simp[pj,ε,a8]];rfl)
  ·have a8:¬b<a:=by simpa using a8
   refine Ζ ?_;refine W.rt ?_;exact .of (by rw[show pj a b=0 by simp[pj,ε,a8]];rfl)
theorem XQ (a b:Int):aD Tryz.prog 203 [J a,J b] (bm (decide (a<b))):=by
 refine ao.body Φ Tryz.func203 rfl rfl Tryz.ntmps203 rfl rfl θ ?_;refine Ζ ?_;refine bN λΕ ζ=>?_;refine aD.d (IC a) (bT ?_);apply ζ;refine Ζ ?_;refine W.rt ?_;exact .of (by rw[show decide (a<b)=decide (a<b) from rfl];rfl)
def pk:List Int->List Int->Int
 | [],[]=>0
 | [],_::_=>-1
 | _::_,[]=>1
 | a::l,b::m=>if pj a b≠0 then pj a b else pk l m
theorem Oy (a b:List Int) (μ:a.length<2 ^ 62):aD Tryz.prog 118 [a2 J 1 a,a2 J 1 b] (J (pk a b)):=by
 refine ao.body Φ Tryz.func118 rfl rfl Tryz.ntmps118 rfl rfl θ ?_;refine Ζ ?_;refine W.iter (λi:Nat=>i<=a.length/\i<=b.length/\pk a b=pk (a.drop i) (b.drop i)) (λi=>[(0,a2 J 1 a),(1,a2 J 1 b),(9,a2 J 1 a),(10,J a.length),(11,J i)]) (λ_=>[]) (λi=>a.length-i) 0 ⟨R,R,θ⟩ rfl θ (λi hi Β=>?_);obtain⟨I,U,ξ⟩:=hi;refine Ζ ?_;refine W.eM rfl (λε=>?_) (λε=>?_)
 ·have ε:i<a.length:=by simpa using ε
  have lh:a.drop i=a[i]::a.drop (i+1):=List.drop_eq_getElem_cons ε;refine aR ε ?_;refine W.eM rfl (λa8=>?_) (λa8=>?_)
  ·have a8:b.length<=i:=by simp at a8;omega
   refine Ζ ?_;have iJ:b.drop i=[]:=List.drop_eq_nil_of_le a8;refine W.rt ?_;exact .of (by rw[show pk a b=1 by rw[ξ,lh,iJ];rfl];rfl)
  ·have a8:i<b.length:=by simp at a8;omega
   have iJ:b.drop i=b[i]::b.drop (i+1):=List.drop_eq_getElem_cons a8
   repeat apply ar
   refine uo a8 ?_;refine bN λΕ ζ=>?_;refine aD.d (XP a[i] b[i]) (bT ?_);apply ζ;refine Ζ ?_;by_cases g:pj a[i] b[i]=0
   ·refine aj (by simp[g]) ?_;refine Ζ ?_;refine W.forget _ ?_ (Β (i+1) ⟨ε,a8,?_⟩ R)
    ·simp[fz ε μ]
    ·rw[ξ,lh,iJ,pk,if_neg (by simpa using g)]
   ·refine al (by simp[g]) ?_;refine Ζ ?_;refine W.rt ?_;exact .of (by rw[show pk a b=pj a[i] b[i] by rw[ξ,lh,iJ,pk,if_pos g]];rfl)
 ·have ε:i=a.length:=by simp at ε;omega
  have lh:a.drop i=[]:=List.drop_eq_nil_of_le R;refine W.exit rfl ?_;refine Ζ ?_;by_cases g:a.length<b.length
  ·refine al (by simp[g]) ?_;refine Ζ ?_;have iJ:b.drop i=b[i]::b.drop (i+1):=List.drop_eq_getElem_cons R;refine W.rt ?_;exact .of (by rw[show pk a b=-1 by rw[ξ,lh,iJ];rfl];rfl)
  ·refine aj (by simp[g]) ?_;refine Ζ ?_;have iJ:b.drop i=[]:=List.drop_eq_nil_of_le R;refine W.rt ?_;exact .of (by rw[show pk a b=0 by rw[ξ,lh,iJ];rfl];rfl)
def nG (x y:Int×Int):Int:=pk [x.1,x.2] [y.1,y.2]
theorem Oz (x y:Int×Int):aD Tryz.prog 174 [aC x,aC y] (J (nG x y)):=by
 refine ao.body Φ Tryz.func174 rfl rfl Tryz.ntmps174 rfl rfl θ ?_;refine Ζ ?_;refine W.draw (A:=[]) Φ mixed λΕ ζ=>rG ?_;refine gv (aD.p (Oy [x.1,x.2] [y.1,y.2] θ) (.cons .ex (.cons .ex .nil)) θ θ) ?_;simp;(repeat (rw[dN];simp[]));try rw[dM]
 refine fy (ζ _ _ ?_);refine Ζ ?_;refine W.rt ?_;exact .of rfl
theorem XR (x y:Found):aD Tryz.prog 148 [de x,de y] (J (nG (x.u,x.v) (y.u,y.v))):=by
 refine ao.body Φ Tryz.func148 rfl rfl Tryz.ntmps148 rfl rfl θ ?_;refine Ζ ?_;refine W.draw (A:=[]) Φ mixed λΕ ζ=>rG ?_;refine gv (aD.p (Oy [x.u,x.v] [y.u,y.v] θ) (.cons .ex (.cons .ex .nil)) θ θ) ?_;simp;(repeat (rw[dN];simp[]));try rw[dM]
 refine fy (ζ _ _ ?_);refine Ζ ?_;refine W.rt ?_;exact .of rfl
def iT (l:List Found):Nat:=(l.map (·.many (-1))).sum
theorem XS (l:List Found) (υ:l.length<2 ^ 62) (I:∀f∈l,f.cells.length<2 ^ 62/\∀i,i<=f.cells.length->gF f.cells (-1) i<2 ^ 62) (U:iT l<2 ^ 62) :
  aD Tryz.prog 79 [cX l] (J (iT l)):=by
 refine ao.body Φ Tryz.func79 rfl rfl Tryz.ntmps79 rfl rfl θ ?_;refine Ζ ?_;refine W.iter (λi:Nat=>i<=l.length) (λi=>[(3,J (iT (l.take i))),(6,cX l),(7,J l.length),(8,J i)]) (λ_=>[]) (λi=>l.length-i) 0 (Nat.zero_le _) rfl (by simp[iT]) (λi hi Β=>?_);refine Ζ ?_;refine W.eM rfl (λε=>?_) (λε=>?_)
 ·have ε:i<l.length:=by simpa using ε
  obtain⟨Τ,af⟩:=I _ (List.getElem_mem ε);have ν:iT (l.take (i+1))=iT (l.take i)+l[i].many (-1):=by
   unfold iT;rw[List.take_succ_eq_append_getElem ε,List.map_append,List.sum_append];simp only[List.map_cons,List.map_nil,List.sum_cons,List.sum_nil,Nat.add_zero]
  have aB:iT (l.take i)+l[i].many (-1)<2 ^ 62:=by
   rw[<-ν];have e:iT l=iT (l.take (i+1))+iT (l.drop (i+1)):=by
    conv=>lhs;rw[<-List.take_append_drop (i+1) l]
    simp only[iT,List.map_append,List.sum_append]
   omega
  repeat apply ar
  refine dG (A:=[5]) Φ λΕ ζ=>gQ ε ?_;apply ζ;refine bN λΕ ζ=>?_;refine aD.d (EA l[i] (-1) Τ af) (bT ?_);apply ζ;refine Ζ ?_;refine W.drop (h:=0) (Nat.zero_le _) (Nat.zero_le _) θ rfl _ ?_ (Β (i+1) ε R);rw[ν];have:=fV aB;simp[fz ε υ] at this ⊢;exact this
 ·have ε:i=l.length:=by simp at ε;omega
  subst ε;refine W.exit rfl ?_;refine Ζ ?_;refine W.rt ?_;exact .of (by rw[show iT l=iT (l.take l.length) by simp];rfl)
theorem ay.h4 {a:η} (h:ay 0 a) (ρ:List Nat):h4 ρ a=a:=by
 cases h with
 | an h=>omega
 | ms h=>omega
 | mp h=>omega
 | it h=>omega
 | _=>rfl
theorem EB {l:List η} (h:∀a∈l,ay 0 a) (ρ:List Nat):l.map (h4 ρ)=l:=by
 induction l with
 | nil=>rfl
 | cons a l Β=>rw[List.map_cons,(h a θ).h4,Β λx γ=>h x (by simp[γ])]
theorem ay.ed {a:η} (h:ay 0 a) (ρ:List Nat):ed ρ a=a:=by
 have ai:=h;cases h with
 | aV h=>simp only[Go.TL.ed];rw[EB h]
 | bw h=>simp only[Go.TL.ed];rw[EB h]
 | fn I U=>simp only[Go.TL.ed];rw[EB I,EB U]
 | _=>exact ai.h4 ρ
theorem ay.top {a:η} (h:ay 0 a) (n:Nat):pe n a:=by
 have ai:=h;cases h with
 | an h=>omega
 | ms h=>omega
 | mp h=>omega
 | it h=>omega
 | _=>exact ai
theorem ay.iU {a:η} (h:ay 0 a) (n:Nat):gj n a:=by
 have ai:=h;cases h with
 | aV h=>exact λa μ=>(h a μ).top n
 | bw h=>exact λa μ=>(h a μ).top n
 | fn I U=>exact⟨λa μ=>(I a μ).top n,λa μ=>(U a μ).top n⟩
 | _=>exact ai.top n
theorem og {h id n i len:Nat}:gj h (.ms id n i len)↔id<h:=Iff.rfl
theorem wu {h:Nat} {v:Value}:gj h (.z v)↔True:=⟨λ_=>trivial,λ_=>(ay.z v).iU h⟩
theorem oh {ρ:List Nat} {id n i len:Nat}:ed ρ (.ms id n i len)=.ms (ρ.getD id 0) n i len:=rfl
theorem oi {ρ:List Nat} {v:Value}:ed ρ (.z v)=.z v:=rfl
section
variable {P:Program} {σ:List Row}
theorem ao.one {g:FuncId} {as0:List η} {row row':Row} {r:η} {K E:η->List Row->Prop} (h:ao P g as0 [row] (λa s=>a=r/\s=[row']) (λ_ _=>False)) (id:Nat) (b0:σ[id]?=some row) (ψ:iR row) (gf:iR row') (μ:∀a∈as0,gj 1 a) (κ:gj 1 r)
  {args:List η} (mO:args=as0.map (ed [id])) (ζ:K (ed [id] r) (σ.set id row')):hE P (.fn (.func g) [] []) args σ K E:=by
 subst mO;have aY:=ao.rows (σ:=σ) h [id] θ rfl (λj i δ=>by
  cases j with
  | zero=>simp at δ;subst δ;exact b0
  | succ j=>simp at δ) (λr κ=>by simp at κ;subst κ;exact ψ) (by simpa using μ) (K':=K) (E':=E) (λa s ⟨I,U⟩=>by
   subst I;subst U;refine⟨λx γ=>by simp at γ;subst γ;exact gf,κ,?_⟩;simpa[names,sW,iQ] using ζ) (λa s h=>h.elim)
 exact ao.call (first:=[]) (captured:=[]) (by simpa using aY)
end
section
variable {P:Program} {σ:List Row}
theorem ao.ID {g:FuncId} {as0:List η} {row:Row} {K0 K E:η->List Row->Prop} (h:ao P g as0 [row] K0 (λ_ _=>False)) (id:Nat) (b0:σ[id]?=some row) (ψ:iR row) (μ:∀a∈as0,gj 1 a)
  {args:List η} (mO:args=as0.map (ed [id])) (ζ:∀a s,K0 a s->∃row',s=[row']/\iR row'/\gj 1 a/\K (ed [id] a) (σ.set id row')):hE P (.fn (.func g) [] []) args σ K E:=by
 subst mO;have aY:=ao.rows (σ:=σ) h [id] θ rfl (λj i δ=>by
  cases j with
  | zero=>simp at δ;subst δ;exact b0
  | succ j=>simp at δ) (λr κ=>by simp at κ;subst κ;exact ψ) (by simpa using μ) (K':=K) (E':=E) (λa s ai=>by
   obtain⟨row',rfl,gf,κ,ς⟩:=ζ a s ai;refine⟨λx γ=>by simp at γ;subst γ;exact gf,κ,?_⟩;simpa[names,sW,iQ] using ς) (λa s h=>h.elim)
 exact ao.call (first:=[]) (captured:=[]) (by simpa using aY)
end
theorem wv {α:Type} {f:α->η} {t k:Nat} {l:List α} (h:∀x,∀a∈(f x).cells,ay 0 a):iR (.cells t k (l.map f)):=λe he a μ=>by
 obtain⟨x,_,rfl⟩:=List.mem_map.1 he;exact h x a μ
theorem eD.part {id k m:Nat} {σ:List Row} {t:TypeId} {l l2:List η} (bF:σ[id]?=some (.cells t k (l++l2))) (hm:l.length=m) (hb:∀e∈l,∀a∈e.cells,ay 0 a):eD 0 σ (.ms id (l++l2).length 0 m) (.sl false k l):=by
 subst hm;refine .ms (Nat.zero_le _) bF rfl θ rfl (λj e aM I U=>?_) (λj e aM I U x a cn ξ Κ=>?_)
 ·have δ:=(cf.1 U).1;rw[Nat.zero_add,dE δ] at I;rw[I] at U;cases U;rfl
 ·have δ:=(cf.1 U).1;rw[Nat.zero_add,dE δ] at I;rw[I] at U;cases U;rw[ξ] at Κ;cases Κ;exact .low (hb e (cr I) a (cr ξ))
theorem sX {α:Type} [Inhabited α] {d:Array α} {i:Nat} (h:i<d.size):d[i]?=some d[i]!:=by simp[h]
def az {α:Type} (cmp:α->α->Int) (x y:α):Bool:=decide (cmp x y<0)
end Go.TL
