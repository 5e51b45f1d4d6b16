import Derived.Sort.AssemblyPlain
import Derived.Test.YtlabjopijpkiaaaGreatDAM
set_option maxHeartbeats 16000000
set_option maxRecDepth 20000
set_option linter.unusedSectionVars false
set_option linter.unusedSimpArgs false
set_option linter.unusedVariables false
namespace Go.TL
open Go.Proofs
variable [bj]
theorem He:IntKind.i64.wrap 1=1:=a0
theorem Hf:IntKind.i64.wrap 2=2:=a0
theorem eX {i n:Nat} (h:i<n) (Ε:n<2 ^ 62):IntKind.i64.wrap ((i:Int)+1)=((i+1:Nat):Int):=by
 rw[IntWalk.i64_in _ γ];rfl
theorem zN (a b:List Int) (κ:a.length<2 ^ 62):Ω Tryz.prog 30 [cS J 1 a,cS J 1 b] (bs (a==b)):=by
 refine ak.body Ρ Tryz.func30 rfl rfl Tryz.ntmps30 rfl rfl η ?_;refine Β ?_;refine W.iter (λp:Nat×Bool=>p.1<=a.length/\(p.2=true->a.length=b.length/\∀j,j<p.1->a[j]?=b[j]?)/\(p.2=false->a≠b)) (λp=>[(0,cS J 1 a),(1,cS J 1 b),(5,bs p.2),(6,J p.1)]) (λ_=>[]) (λp=>a.length-p.1) (0,decide (a.length=b.length)) ⟨Nat.zero_le _,η,by simp;exact λh e=>h (by rw[e])⟩ rfl η (λi hi ω=>?_);rcases i with⟨i,_|_⟩
 ·refine Β ?_;refine ay rfl ?_;refine W.exit rfl ?_;refine Β ?_;refine W.rt ?_;exact .of (by simp[hi.2.2 rfl])
 ·refine Β ?_;have υ:=(hi.2.1 rfl).1;refine W.fL rfl (λε=>?_) (λε=>?_)
  ·have ε:i<a.length:=by simpa using ε
   have bg:i<b.length:=γ;refine Β ?_;refine fD (Ζ ε bg) ?_;refine Β ?_;refine W.forget _ ?_ (ω (i+1,decide (a[i]=b[i])) ⟨by simp;omega,λh=>⟨υ,λj δ=>?_⟩,λh e=>?_⟩ (by simp;omega))
   ·simp[eX ε κ]
   ·by_cases e:j=i
    ·subst e;rw[ba ε,ba bg];simpa using h
    ·exact(hi.2.1 rfl).2 j (by simp at δ;omega)
   ·subst e;simp at h
  ·have ε:a.length<=i:=by simpa using ε
   refine W.exit rfl ?_;refine Β ?_;refine W.rt ?_;refine .of ?_;have:a=b:=List.ext_getElem? λj=>by
    by_cases δ:j<i
    ·exact(hi.2.1 rfl).2 j δ
    ·rw[List.getElem?_eq_none γ,List.getElem?_eq_none γ]
   simp[this]
abbrev aY (l:List (List Int)):θ:=cS (cS J 1) 1 l
theorem zO (a b:List (List Int)) (κ:a.length<2 ^ 40) (μ:∀x∈a,x.length<2 ^ 40):Ω Tryz.prog 50 [aY a,aY b] (bs (a==b)):=by
 refine ak.body Ρ Tryz.func50 rfl rfl Tryz.ntmps50 rfl rfl η ?_;refine Β ?_;refine W.iter (λp:Nat×Bool=>p.1<=a.length/\(p.2=true->a.length=b.length/\∀j,j<p.1->a[j]?=b[j]?)/\(p.2=false->a≠b)) (λp=>[(0,aY a),(1,aY b),(5,bs p.2),(6,J p.1)]) (λ_=>[]) (λp=>a.length-p.1) (0,decide (a.length=b.length)) ⟨Nat.zero_le _,η,by simp;exact λh e=>h (by rw[e])⟩ rfl η (λi hi ω=>?_);rcases i with⟨i,_|_⟩
 ·refine Β ?_;refine ay rfl ?_;refine W.exit rfl ?_;refine Β ?_;refine W.rt ?_;exact .of (by simp[hi.2.2 rfl])
 ·refine Β ?_;have υ:=(hi.2.1 rfl).1;refine W.fL rfl (λε=>?_) (λε=>?_)
  ·have ε:i<a.length:=by simpa using ε
   have bg:i<b.length:=γ;refine Β ?_;refine W.draw (A:=[]) Ρ mixed λΔ ζ=>mj (Ζ ε bg) ?_;refine eS (Ω.q (zN a[i] b[i] (by have:=μ _ (List.getElem_mem ε);omega))) (hZ ?_);refine fC (ζ _ _ ?_);refine Β ?_;refine W.forget _ ?_ (ω (i+1,a[i]==b[i]) ⟨by simp;omega,λh=>⟨υ,λj δ=>?_⟩,λh e=>?_⟩ (by simp;omega))
   ·simp[eX ε (show a.length<2 ^ 62 by omega)]
   ·by_cases e:j=i
    ·subst e;rw[ba ε,ba bg];simpa using h
    ·exact(hi.2.1 rfl).2 j (by simp at δ;omega)
   ·subst e;simp at h
  ·have ε:a.length<=i:=by simpa using ε
   refine W.exit rfl ?_;refine Β ?_;refine W.rt ?_;refine .of ?_;have:a=b:=List.ext_getElem? λj=>by
    by_cases δ:j<i
    ·exact(hi.2.1 rfl).2 j δ
    ·rw[List.getElem?_eq_none γ,List.getElem?_eq_none γ]
   simp[this]
structure kA where
 name:ByteArray
 er:Int
deriving DecidableEq
structure cG where
 c8:Int
 seen:Int
 bare:Int
deriving DecidableEq
structure aL where
 Τ:List kA
 ai:List (List Int)
 cells:List (List cG)
deriving DecidableEq
abbrev hI (g:kA):θ:=.a6 [oT g.name,J g.er]
abbrev cA (p:cG):θ:=.a6 [J p.c8,J p.seen,J p.bare]
abbrev aS (l:List kA):θ:=cS hI 2 l
abbrev h0 (l:List cG):θ:=cS cA 3 l
abbrev a7 (l:List (List cG)):θ:=cS h0 1 l
abbrev dH (s:aL):θ:=.a6 [aS s.Τ,aY s.ai,a7 s.cells]
def aL.small (s:aL):Prop:=s.Τ.length<2 ^ 30/\s.ai.length<2 ^ 30/\s.cells.length<2 ^ 30/\(∀x∈s.ai,x.length<2 ^ 30)/\∀x∈s.cells,x.length<2 ^ 30
@[simp] theorem gΕ (x y:Int):(x != y) = !decide (x=y):=by rw[Bool.eq_iff_iff];simp
section
variable {P:Program} {m nt:Nat} {k:List Item} {env:ab} {σ σ':List Row} {Z:List Item->ab->List Row->Prop} {E:θ->ab->List Row->Prop}
theorem W.drop {h:Nat} (hm:m<=h) (aX:h<=σ.length) (j5:∀(id:Nat) (r:Row),id<h->σ[id]?=some r->eV h r) (lI:σ.take h=σ') (env':ab) (cU:∀p∈env',bc env p.1=p.2/\aK h p.2) (hW:W P m nt k env' σ' Z E):W P m nt k env σ Z E:=
 W.cut h hm env' aX j5 (λp ς=>by rw[(cU p ς).1];exact .low (cU p ς).2) (by rw[lI];exact hW)
theorem W.fix {id:Nat} {t:TypeId} {e:θ} {kk:Nat} (hm:m<=id) (bN:σ[id]?=some (.cells t kk [e])) (he:∀a∈e.cells,aK id a) (j5:∀(C3:Nat) (r:Row),C3<id->σ[C3]?=some r->eV id r) (lI:σ.take id=σ') (env':ab)
  (cU:∀p∈env',(bc env p.1=p.2/\aK id p.2)\/(bc env p.1=.an id 1 0 0/\p.2=.aa e.cells)) (hW:W P m nt k env' σ' Z E):W P m nt k env σ Z E:=
 W.cut id hm env' (Nat.le_of_lt (bV.1 bN).1) j5 (λp ς=>by
  rcases cU p ς with⟨I,R⟩|⟨I,R⟩
  ·rw[I];exact .low R
  ·rw[I,R];refine .an (Nat.le_refl _) bN rfl (e:=e) rfl η λx a bP Ξ ah=>?_;rw[Nat.zero_add] at Ξ;rw[Ξ] at ah;cases ah;exact .low (he a (cx Ξ))) (by rw[lI];exact hW)
theorem W.to {env':ab} (h:W P m nt k env' σ' Z E) (lI:σ=σ') (cU:∀p∈env',bc env p.1=p.2):W P m nt k env σ Z E:=lI▸W.forget env' cU h
end
abbrev sf (a b:Int):Int:=iA .i64 a b
abbrev vm (a b:Int):Int:=wS .i64 a b
abbrev zP (a b:Int):Int:=F9 .i64 a b
section
variable {P:Program} {σ:List Row}
theorem eW.c {f:θ} {args:List θ} {r:θ} {K E:θ->List Row->Prop} (h:eW P f args r) (ζ:K r σ):hV P f args σ K E:=
 hV.mono (h σ) (λa s ⟨I,R⟩=>by subst I;subst R;exact ζ) (λ_ _ h=>h.elim)
end
def m7 (n:Int):Bool:=decide (0<=n)&&decide (n<=2)
theorem oU (n:Int):Ω Tryz.prog 93 [J n] (bs (m7 n)):=by
 refine ak.body Ρ Tryz.func93 rfl rfl Tryz.ntmps93 rfl rfl η ?_;by_cases h:0<=n
 ·refine aT h ?_;refine W.rt ?_;exact .of (by simp[m7,h])
 ·refine aT h ?_;refine W.rt ?_;exact .of (by simp[m7,h])
def valid (n:Int):Bool:=decide (0<=n)&&decide (n<=63)
theorem xm (n:Int):Ω Tryz.prog 109 [J n] (bs (valid n)):=by
 refine ak.body Ρ Tryz.func109 rfl rfl Tryz.ntmps109 rfl rfl η ?_;by_cases h:0<=n
 ·refine aT h ?_;refine W.rt ?_;exact .of (by simp[valid,h])
 ·refine aT h ?_;refine W.rt ?_;exact .of (by simp[valid,h])
theorem MO (a b:Int):Ω Tryz.prog 196 [J a,J b] (bs (sf a b==0)):=by
 refine ak.body Ρ Tryz.func196 rfl rfl Tryz.ntmps196 rfl rfl η ?_;refine Β ?_;refine W.rt ?_;exact .of η
theorem MP (a b:Int):Ω Tryz.prog 210 [J a,J b] (bs (zP a b==0)):=by
 refine ak.body Ρ Tryz.func210 rfl rfl Tryz.ntmps210 rfl rfl η ?_;refine Β ?_;refine W.rt ?_;exact .of η
theorem Hg (b:Bool):Ω Tryz.prog 127 [bs b] (J (if b then 1 else 0)):=by
 refine ak.body Ρ Tryz.func127 rfl rfl Tryz.ntmps127 rfl rfl η ?_;cases b
 ·refine Β ?_;refine ay rfl ?_;refine Β ?_;refine W.rt ?_;exact .refl _
 ·refine Β ?_;refine aA rfl ?_;refine Β ?_;refine W.rt ?_;exact .refl _
theorem Hh (n:Int):Ω Tryz.prog 193 [J n] (bs false):=by
 refine ak.body Ρ Tryz.func193 rfl rfl Tryz.ntmps193 rfl rfl η ?_;refine Β ?_;refine W.rt ?_;exact .of η
def q5 (n:Int):Int:=vm (vm (zP n 15) (IntKind.i64.wrap (sf n 5*2))) ((sf n 10).fdiv 2)
theorem MQ (n:Int):Ω Tryz.prog 99 [J n] (J (q5 n)):=by
 refine ak.body Ρ Tryz.func99 rfl rfl Tryz.ntmps99 rfl rfl η ?_;refine Β ?_;refine W.rt ?_;exact .of (by simp[q5,IntKind.bits])
def idxOf {α:Type} (p:α->Bool) (l:List α):Int:=if l.any p then(l.findIdx p:Nat) else -1
theorem zQ {α:Type} {p:α->Bool} {l:List α} {i:Nat} (h:i<l.length) (I:p l[i]=true) (R:∀j,j<i->(δ:j<l.length)->p l[j]=false):idxOf p l=(i:Nat):=by
 have κ:l.any p=true:=List.any_eq_true.2 ⟨_,List.getElem_mem h,I⟩
 have:l.findIdx p=i:=by
  have ν:¬l.findIdx p<i:=λaI=>by
   have υ:l.findIdx p<l.length:=γ
   have:=List.findIdx_getElem (p:=p) (w:=υ);rw[R _ aI υ] at this;cases this
  have Ι:¬i<l.findIdx p:=λaI=>by
   have:=List.not_of_lt_findIdx aI;rw[I] at this;simp at this
  omega
 unfold idxOf;rw[if_pos κ,this]
theorem zR {α:Type} {p:α->Bool} {l:List α} (h:∀j,(δ:j<l.length)->p l[j]=false):idxOf p l=-1:=by
 have:l.any p=false:=by
  rw[List.any_eq_false];intro x U;obtain⟨j,δ,rfl⟩:=List.getElem_of_mem U;simp[h j δ]
 unfold idxOf;rw[this];rfl
theorem zS {α:Type} {p:α->Bool} {l:List α}:decide (idxOf p l>=0)=l.any p:=by
 unfold idxOf;cases h:l.any p<;>simp
theorem Vt (l:List Int) (n:Int) (υ:l.length<2 ^ 62):Ω Tryz.prog 137 [cS J 1 l,J n] (J (idxOf (·==n) l)):=by
 refine ak.body Ρ Tryz.func137 rfl rfl Tryz.ntmps137 rfl rfl η ?_;refine Β ?_;refine W.iter (λi:Nat=>i<=l.length/\∀j,j<i->(h:j<l.length)->(l[j]==n)=false) (λi=>[(0,cS J 1 l),(1,J n),(6,cS J 1 l),(7,J l.length),(8,J i)]) (λ_=>[]) (λi=>l.length-i) 0 ⟨Nat.zero_le _,λj δ=>γ⟩ rfl η (λi hi ω=>?_);refine Β ?_;refine W.fL rfl (λε=>?_) (λε=>?_)
 ·have ε:i<l.length:=by simpa using ε
  refine aT ε ?_;refine W.fL rfl (λbg=>?_) (λbg=>?_)
  ·have Ε:n=l[i]:=by simpa using bg
   refine Β ?_;refine W.rt ?_;exact .of (by rw[zQ ε (by simp[Ε]) hi.2];rfl)
  ·have Ε:¬n=l[i]:=by simpa using bg
   refine Β ?_;refine W.forget _ ?_ (ω (i+1) ⟨γ,λj δ h=>?_⟩ γ)
   ·simp[eX ε υ]
   ·by_cases e:j=i
    ·subst e;simpa using λx=>Ε x.symm
    ·exact hi.2 j γ h
 ·have ε:l.length<=i:=by simpa using ε
  refine W.exit rfl ?_;refine Β ?_;refine W.rt ?_;exact .of (by rw[zR λj δ=>hi.2 j γ δ];rfl)
theorem any_beq (l:List Int) (n:Int):(l.any λx=>x==n)=l.contains n:=by
 rw[Bool.eq_iff_iff];simp
theorem Hi (l:List Int) (n:Int) (υ:l.length<2 ^ 62):Ω Tryz.prog 110 [cS J 1 l,J n] (bs (l.contains n)):=by
 refine ak.body Ρ Tryz.func110 rfl rfl Tryz.ntmps110 rfl rfl η ?_;refine Β ?_;refine a5 λΔ ζ=>?_;refine Ω.d (Vt l n υ) (aV ?_);apply ζ;refine Β ?_;refine W.rt ?_;exact .of (by rw[<-any_beq,<-zS];rfl)
@[simp high] theorem Vu {h:Nat} {e:Bool} {k:Nat} {α:Type} {f:α->θ} {l:List α}:aK h (.sl e k (l.map f))↔∀x∈l,∀a∈(f x).cells,aK h a:=by
 rw[j8];simp only[List.mem_map];exact⟨λH x U=>H _ ⟨x,U,rfl⟩,λH e ⟨x,U,he⟩=>he▸H x U⟩
@[simp high] theorem gΖ {h:Nat} {e:Bool} {k n:Nat} {α:Type} {f:α->θ} {l:List α}:aK h (.sl e k ((l.map f).take n))↔∀x∈l.take n,∀a∈(f x).cells,aK h a:=by
 rw[<-List.map_take];exact Vu
abbrev aC (r:Int×Int):θ:=.a6 [J r.1,J r.2]
abbrev kg (l:List (Int×Int)):θ:=cS aC 2 l
abbrev lJ (l:List (List (Int×Int))):θ:=cS kg 1 l
structure Found where
 u:Int
 v:Int
 cells:List (List (Int×Int))
deriving DecidableEq
abbrev dd (f:Found):θ:=.a6 [J f.u,J f.v,lJ f.cells]
abbrev cj (l:List Found):θ:=cS dd 3 l
def aL.of (s:aL) (g:Int):Int:=if g<0 then 0 else((s.Τ[g.toNat]?).map (·.er)).getD 0
theorem Dp (s:aL) (g:Int) (Ο:g<s.Τ.length):Ω Tryz.prog 125 [dH s,J g] (J (s.of g)):=by
 refine ak.body Ρ Tryz.func125 rfl rfl Tryz.ntmps125 rfl rfl η ?_;refine Β ?_;refine W.fL rfl (λε=>?_) (λε=>?_)
 ·have ε:g<0:=by simpa using ε
  refine Β ?_;refine W.rt ?_;exact .of (by rw[show s.of g=0 by simp[aL.of,ε]];rfl)
 ·have ε:¬g<0:=by simpa using ε
  obtain⟨n,rfl⟩:∃n:Nat,g=n:=⟨g.toNat,γ⟩;have Ε:n<s.Τ.length:=γ;refine aT Ε ?_;refine W.rt ?_;exact .of (by rw[show s.of n=s.Τ[n].er by simp[aL.of,Ε];intro h;omega];rfl)
def aL.iF (s:aL) (p r:Int×Int) (c8:Nat):Int:=
 let l:=(s.ai[c8]?).getD []
 let a:=if l.contains p.1 then vm 0 (s.of r.1) else 0
 if l.contains p.2 then vm a (s.of r.2) else a
theorem zT (s:aL) (μ:s.small) (p r:Int×Int) (n:Nat) (Ε:n<s.ai.length) (I:r.1<s.Τ.length) (R:r.2<s.Τ.length) :
  Ω Tryz.prog 77 [dH s,aC p,aC r,J n] (J (s.iF p r n)):=by
 refine ak.body Ρ Tryz.func77 rfl rfl Tryz.ntmps77 rfl rfl η ?_;have υ:s.ai[n].length<2 ^ 62:=by have:=μ.2.2.2.1 _ (List.getElem_mem Ε);omega
 refine Β ?_;refine W.iter (λq:Nat×Int=>q.1<=2/\(q.1=0->q.2=0)/\(q.1=1->q.2=if s.ai[n].contains p.1 then vm 0 (s.of r.1) else 0)/\(q.1=2->q.2=s.iF p r n))
  (λq=>[(3,J n),(4,.aa [aS s.Τ,aY s.ai,a7 s.cells]),(5,.aa [J p.1,J p.2]),(6,.aa [J r.1,J r.2]),(9,J q.2),(12,aC p),(13,J q.1)]) (λ_=>[]) (λq=>2-q.1) (0,0) ⟨γ,η,η,η⟩ rfl η (λq hi ω=>?_)
 rcases q with⟨i,x⟩
 match i,hi,ω with
 | 0,hi,ω=>
  have U:x=0:=hi.2.1 rfl;subst U;refine Β ?_;refine aA rfl ?_;refine Β ?_;refine iE Ε λΔ ζ=>?_;refine Ω.d (Hi s.ai[n] p.1 υ) (aV ?_);apply ζ;by_cases ε:p.1∈s.ai[n]
  ·refine aA (by simp[ε]) ?_;refine Β ?_;refine W.draw (A:=[]) Ρ mixed λΔ ζ=>hZ ?_;refine eS (Ω.q (Dp s r.1 I)) (hZ ?_);refine fC (ζ _ _ ?_);refine Β ?_;refine W.forget _ ?_ (ω (1,vm 0 (s.of r.1)) ⟨η,η,by simp[ε],η⟩ η);simp[He]
  ·refine ay (by simp[ε]) ?_;refine Β ?_;refine W.forget _ ?_ (ω (1,0) ⟨η,η,by simp[ε],η⟩ η);simp[He]
 | 1,hi,ω=>
  have U:=hi.2.2.1 rfl;simp at U;refine Β ?_;refine aA rfl ?_;refine Β ?_;refine iE Ε λΔ ζ=>?_;refine Ω.d (Hi s.ai[n] p.2 υ) (aV ?_);apply ζ;by_cases ε:p.2∈s.ai[n]
  ·refine aA (by simp[ε]) ?_;refine Β ?_;refine W.draw (A:=[]) Ρ mixed λΔ ζ=>hZ ?_;refine eS (Ω.q (Dp s r.2 R)) (hZ ?_);refine fC (ζ _ _ ?_);refine Β ?_;refine W.forget _ ?_ (ω (2,vm x (s.of r.2)) ⟨η,η,η,λ_=>by simp only[aL.iF,ba Ε];simp[ε,U]⟩ η);simp[Hf]
  ·refine ay (by simp[ε]) ?_;refine Β ?_;refine W.forget _ ?_ (ω (2,x) ⟨η,η,η,λ_=>by simp only[aL.iF,ba Ε];simp[ε,U]⟩ η);simp[Hf]
 | 2,hi,ω=>
  have U:=hi.2.2.2 rfl;refine Β ?_;refine ay rfl ?_;refine W.exit rfl ?_;refine Β ?_;refine W.rt ?_;exact .of (by rw[<-show x=s.iF p r n from U];rfl)
 | i+3,hi,ω=>exact absurd hi.1 η
def aL.tA (s:aL) (p r:Int×Int) (x:cG):Bool:=zP x.seen (s.iF p r x.c8.toNat)==0&&sf (s.iF p r x.c8.toNat) x.bare==0
def aL.vn (s:aL) (p r:Int×Int) (c:Nat):Bool:=((s.cells[c]?).getD []).all (s.tA p r)
theorem Vv (s:aL) (μ:s.small) (p r:Int×Int) (c:Nat) (Ε:c<s.cells.length) (hv:∀x∈s.cells[c],0<=x.c8/\x.c8<s.ai.length) (I:r.1<s.Τ.length) (R:r.2<s.Τ.length) :
  Ω Tryz.prog 172 [dH s,aC p,aC r,J c] (bs (s.vn p r c)):=by
 refine ak.body Ρ Tryz.func172 rfl rfl Tryz.ntmps172 rfl rfl η ?_;have υ:s.cells[c].length<2 ^ 62:=by have:=μ.2.2.2.2 _ (List.getElem_mem Ε);omega
 have eM:s.vn p r c=s.cells[c].all (s.tA p r):=by simp[aL.vn,Ε]
 rw[eM];refine aT Ε ?_;refine W.iter (λi:Nat=>i<=s.cells[c].length/\∀j,j<i->(h:j<s.cells[c].length)->s.tA p r s.cells[c][j]=true)
  (λi=>[(4,.aa [aS s.Τ,aY s.ai,a7 s.cells]),(5,.aa [J p.1,J p.2]),(6,.aa [J r.1,J r.2]),(17,h0 s.cells[c]),(18,J s.cells[c].length),(19,J i)]) (λ_=>[]) (λi=>s.cells[c].length-i) 0 ⟨γ,λj δ=>γ⟩ rfl η (λi hi ω=>?_)
 refine Β ?_;refine W.fL rfl (λε=>?_) (λε=>?_)
 ·have ε:i<s.cells[c].length:=by simpa using ε
  have U:=hv _ (List.getElem_mem ε);obtain⟨n,kW⟩:∃n:Nat,s.cells[c][i].c8=n:=⟨s.cells[c][i].c8.toNat,γ⟩;have BI:n<s.ai.length:=γ;have br:s.tA p r s.cells[c][i]=(zP s.cells[c][i].seen (s.iF p r n)==0&&sf (s.iF p r n) s.cells[c][i].bare==0):=by simp[aL.tA,kW]
  repeat apply al
  refine cR (A:=[10]) Ρ λΔ ζ=>fV ε ?_;apply ζ
  repeat apply al
  refine iE kW λΔ ζ=>?_;refine Ω.d (zT s μ p r n BI I R) (aV ?_);apply ζ
  repeat apply al
  by_cases Ξ:zP s.cells[c][i].seen (s.iF p r n)=0
  ·refine iE @Ξ λΔ ζ=>?_;refine Ω.d (MP s.cells[c][i].seen (s.iF p r n)) (fV @Ξ ?_);refine Ω.d (MO (s.iF p r n) s.cells[c][i].bare) (aV ?_);apply ζ;by_cases ah:sf (s.iF p r n) s.cells[c][i].bare=0
   ·refine ay (by simp[ah]) ?_;refine Β ?_;refine W.drop (h:=0) (Nat.zero_le _) (Nat.zero_le _) η rfl _ ?_ (ω (i+1) ⟨γ,λj δ h=>?_⟩ γ)
    ·simp[eX ε υ]
    ·by_cases e:j=i
     ·subst e;rw[br];simp[Ξ,ah]
     ·exact hi.2 j γ h
   ·refine aA (by simp[ah]) ?_;refine Β ?_;refine W.drop (h:=0) (Nat.zero_le _) (Nat.zero_le _) η rfl [(8,bs false)] η ?_;refine W.rt ?_;exact .of (by rw[show s.cells[c].all (s.tA p r)=false from List.all_eq_false.2 ⟨_,List.getElem_mem ε,by rw[br];simp[ah]⟩];rfl)
  ·refine iE @Ξ λΔ ζ=>?_;refine Ω.d (MP s.cells[c][i].seen (s.iF p r n)) (fV @Ξ ?_);apply ζ;refine aA η ?_;refine Β ?_;refine W.drop (h:=0) (Nat.zero_le _) (Nat.zero_le _) η rfl [(8,bs false)] η ?_;refine W.rt ?_;exact .of (by rw[show s.cells[c].all (s.tA p r)=false from List.all_eq_false.2 ⟨_,List.getElem_mem ε,by rw[br];simp[Ξ]⟩];rfl)
 ·have ε:s.cells[c].length<=i:=by simpa using ε
  refine W.exit rfl ?_;refine Β ?_;refine W.ret ⟨_,rfl,?_,rfl⟩;refine .of ?_;rw[show s.cells[c].all (s.tA p r)=true from List.all_eq_true.2 λx U=>by
   obtain⟨j,δ,rfl⟩:=List.getElem_of_mem U;exact hi.2 j γ δ]
  rfl
def ik (l:List (List (Int×Int))) (gy:Int) (i:Nat):Nat:=((List.range i).map λj:Nat=>if(j:Int)=gy then 1 else((l[j]?).getD []).length).prod
theorem Dr (l:List (List (Int×Int))) (gy:Int) (i:Nat):ik l gy (i+1)=ik l gy i*(if(i:Int)=gy then 1 else((l[i]?).getD []).length):=by
 unfold ik;rw[List.range_succ,List.map_append,List.prod_append];simp
def Found.many (f:Found) (gy:Int):Nat:=ik f.cells gy f.cells.length
theorem et {n:Nat} (h:n<2 ^ 62):IntKind.i64.wrap (n:Int)=n:=IntWalk.i64_in _ γ
theorem Ds (f:Found) (gy:Int) (υ:f.cells.length<2 ^ 62) (hm:∀i,i<=f.cells.length->ik f.cells gy i<2 ^ 62) :
  Ω Tryz.prog 78 [dd f,J gy] (J (f.many gy)):=by
 refine ak.body Ρ Tryz.func78 rfl rfl Tryz.ntmps78 rfl rfl η ?_;refine Β ?_;refine W.iter (λi:Nat=>i<=f.cells.length) (λi=>[(1,J gy),(5,J (ik f.cells gy i)),(9,lJ f.cells),(10,J f.cells.length),(11,J i)]) (λ_=>[]) (λi=>f.cells.length-i) 0 (Nat.zero_le _) rfl (by simp[ik]) (λi hi ω=>?_);refine Β ?_;refine W.fL rfl (λε=>?_) (λε=>?_)
 ·have ε:i<f.cells.length:=by simpa using ε
  have μ:=Dr f.cells gy i
  have aI:=hm (i+1) ε;refine aT ε ?_;by_cases g:(i:Int)=gy
  ·refine ay (by simp[g]) ?_;refine Β ?_;refine W.forget _ ?_ (ω (i+1) ε γ);rw[μ,if_pos g];simp[eX ε υ]
  ·refine aA (by simp[g]) ?_;have hv:ik f.cells gy i*f.cells[i].length<2 ^ 62:=by rw[μ,if_neg g] at aI;simpa[ε] using aI
   refine aT ε ?_;refine W.forget _ ?_ (ω (i+1) ε γ);rw[μ,if_neg g];simp only[ba ε,Option.getD_some];have:=et hv;simp[eX ε υ] at this ⊢;simp[this]
 ·have ε:i=f.cells.length:=by simp at ε;omega
  subst ε;refine W.exit rfl ?_;refine Β ?_;refine W.rt ?_;exact .of rfl
def oV (a b:Int):Int:=if a<b then -1 else if b<a then 1 else 0
theorem Vw (a b:Int):Ω Tryz.prog 151 [J a,J b] (J (oV a b)):=by
 refine ak.body Ρ Tryz.func151 rfl rfl Tryz.ntmps151 rfl rfl η ?_;refine Β ?_;refine a5 λΔ ζ=>?_;refine Ω.d (Hh a) (aV ?_);apply ζ;refine a5 λΔ ζ=>?_;refine Ω.d (Hh b) (aV ?_);apply ζ;refine Β ?_;refine ay rfl ?_;refine Β ?_;refine ay rfl ?_;refine Β ?_;refine W.fL rfl (λε=>?_) (λε=>?_)
 ·have ε:a<b:=by simpa using ε
  refine Β ?_;refine W.rt ?_;exact .of (by rw[show oV a b=-1 by simp[oV,ε]];rfl)
 ·have ε:¬a<b:=by simpa using ε
  refine Β ?_;refine W.fL rfl (λbg=>?_) (λbg=>?_)
  ·have bg:b<a:=by simpa using bg
   refine Β ?_;refine W.rt ?_;exact .of (by rw[show oV a b=1 by simp[oV,ε,bg]];rfl)
  ·have bg:¬b<a:=by simpa using bg
   refine Β ?_;refine W.rt ?_;exact .of (by rw[show oV a b=0 by simp[oV,ε,bg]];rfl)
theorem Vx (a b:Int):Ω Tryz.prog 203 [J a,J b] (bs (decide (a<b))):=by
 refine ak.body Ρ Tryz.func203 rfl rfl Tryz.ntmps203 rfl rfl η ?_;refine Β ?_;refine a5 λΔ ζ=>?_;refine Ω.d (Hh a) (aV ?_);apply ζ;refine Β ?_;refine W.rt ?_;exact .of (by rw[show decide (a<b)=decide (a<b) from rfl];rfl)
def oW:List Int->List Int->Int
 | [],[]=>0
 | [],_::_=>-1
 | _::_,[]=>1
 | a::l,b::m=>if oV a b≠0 then oV a b else oW l m
theorem Hj (a b:List Int) (κ:a.length<2 ^ 62):Ω Tryz.prog 118 [cS J 1 a,cS J 1 b] (J (oW a b)):=by
 refine ak.body Ρ Tryz.func118 rfl rfl Tryz.ntmps118 rfl rfl η ?_;refine Β ?_;refine W.iter (λi:Nat=>i<=a.length/\i<=b.length/\oW a b=oW (a.drop i) (b.drop i)) (λi=>[(0,cS J 1 a),(1,cS J 1 b),(9,cS J 1 a),(10,J a.length),(11,J i)]) (λ_=>[]) (λi=>a.length-i) 0 ⟨γ,γ,η⟩ rfl η (λi hi ω=>?_);obtain⟨I,R,ν⟩:=hi;refine Β ?_;refine W.fL rfl (λε=>?_) (λε=>?_)
 ·have ε:i<a.length:=by simpa using ε
  have kX:a.drop i=a[i]::a.drop (i+1):=List.drop_eq_getElem_cons ε;refine aT ε ?_;refine W.fL rfl (λbg=>?_) (λbg=>?_)
  ·have bg:b.length<=i:=by simp at bg;omega
   refine Β ?_;have jD:b.drop i=[]:=List.drop_eq_nil_of_le bg;refine W.rt ?_;exact .of (by rw[show oW a b=1 by rw[ν,kX,jD];rfl];rfl)
  ·have bg:i<b.length:=by simp at bg;omega
   have jD:b.drop i=b[i]::b.drop (i+1):=List.drop_eq_getElem_cons bg
   repeat apply al
   refine tz bg ?_;refine a5 λΔ ζ=>?_;refine Ω.d (Vw a[i] b[i]) (aV ?_);apply ζ;refine Β ?_;by_cases g:oV a[i] b[i]=0
   ·refine ay (by simp[g]) ?_;refine Β ?_;refine W.forget _ ?_ (ω (i+1) ⟨ε,bg,?_⟩ γ)
    ·simp[eX ε κ]
    ·rw[ν,kX,jD,oW,if_neg (by simpa using g)]
   ·refine aA (by simp[g]) ?_;refine Β ?_;refine W.rt ?_;exact .of (by rw[show oW a b=oV a[i] b[i] by rw[ν,kX,jD,oW,if_pos g]];rfl)
 ·have ε:i=a.length:=by simp at ε;omega
  have kX:a.drop i=[]:=List.drop_eq_nil_of_le γ;refine W.exit rfl ?_;refine Β ?_;by_cases g:a.length<b.length
  ·refine aA (by simp[g]) ?_;refine Β ?_;have jD:b.drop i=b[i]::b.drop (i+1):=List.drop_eq_getElem_cons γ;refine W.rt ?_;exact .of (by rw[show oW a b=-1 by rw[ν,kX,jD];rfl];rfl)
  ·refine ay (by simp[g]) ?_;refine Β ?_;have jD:b.drop i=[]:=List.drop_eq_nil_of_le γ;refine W.rt ?_;exact .of (by rw[show oW a b=0 by rw[ν,kX,jD];rfl];rfl)
def lK (x y:Int×Int):Int:=oW [x.1,x.2] [y.1,y.2]
theorem MR (x y:Int×Int):Ω Tryz.prog 174 [aC x,aC y] (J (lK x y)):=by
 refine ak.body Ρ Tryz.func174 rfl rfl Tryz.ntmps174 rfl rfl η ?_;refine Β ?_;refine W.draw (A:=[]) Ρ mixed λΔ ζ=>hZ ?_;refine eS (Ω.p (Hj [x.1,x.2] [y.1,y.2] η) (.cons .ex (.cons .ex .nil)) η η) ?_;simp;(repeat (rw[dZ];simp[]));try rw[dY]
 refine fC (ζ _ _ ?_);refine Β ?_;refine W.rt ?_;exact .of rfl
theorem Vy (x y:Found):Ω Tryz.prog 148 [dd x,dd y] (J (lK (x.u,x.v) (y.u,y.v))):=by
 refine ak.body Ρ Tryz.func148 rfl rfl Tryz.ntmps148 rfl rfl η ?_;refine Β ?_;refine W.draw (A:=[]) Ρ mixed λΔ ζ=>hZ ?_;refine eS (Ω.p (Hj [x.u,x.v] [y.u,y.v] η) (.cons .ex (.cons .ex .nil)) η η) ?_;simp;(repeat (rw[dZ];simp[]));try rw[dY]
 refine fC (ζ _ _ ?_);refine Β ?_;refine W.rt ?_;exact .of rfl
def g7 (l:List Found):Nat:=(l.map (·.many (-1))).sum
theorem MS (l:List Found) (υ:l.length<2 ^ 62) (I:∀f∈l,f.cells.length<2 ^ 62/\∀i,i<=f.cells.length->ik f.cells (-1) i<2 ^ 62) (R:g7 l<2 ^ 62) :
  Ω Tryz.prog 79 [cj l] (J (g7 l)):=by
 refine ak.body Ρ Tryz.func79 rfl rfl Tryz.ntmps79 rfl rfl η ?_;refine Β ?_;refine W.iter (λi:Nat=>i<=l.length) (λi=>[(3,J (g7 (l.take i))),(6,cj l),(7,J l.length),(8,J i)]) (λ_=>[]) (λi=>l.length-i) 0 (Nat.zero_le _) rfl (by simp[g7]) (λi hi ω=>?_);refine Β ?_;refine W.fL rfl (λε=>?_) (λε=>?_)
 ·have ε:i<l.length:=by simpa using ε
  obtain⟨Ξ,ah⟩:=I _ (List.getElem_mem ε);have μ:g7 (l.take (i+1))=g7 (l.take i)+l[i].many (-1):=by
   unfold g7;rw[List.take_succ_eq_append_getElem ε,List.map_append,List.sum_append];simp only[List.map_cons,List.map_nil,List.sum_cons,List.sum_nil,Nat.add_zero]
  have aI:g7 (l.take i)+l[i].many (-1)<2 ^ 62:=by
   rw[<-μ];have e:g7 l=g7 (l.take (i+1))+g7 (l.drop (i+1)):=by
    conv=>lhs;rw[<-List.take_append_drop (i+1) l]
    simp only[g7,List.map_append,List.sum_append]
   omega
  repeat apply al
  refine cR (A:=[5]) Ρ λΔ ζ=>fV ε ?_;apply ζ;refine a5 λΔ ζ=>?_;refine Ω.d (Ds l[i] (-1) Ξ ah) (aV ?_);apply ζ;refine Β ?_;refine W.drop (h:=0) (Nat.zero_le _) (Nat.zero_le _) η rfl _ ?_ (ω (i+1) ε γ);rw[μ];have:=et aI;simp[eX ε υ] at this ⊢;exact this
 ·have ε:i=l.length:=by simp at ε;omega
  subst ε;refine W.exit rfl ?_;refine Β ?_;refine W.rt ?_;exact .of (by rw[show g7 l=g7 (l.take l.length) by simp];rfl)
theorem aK.g5 {a:θ} (h:aK 0 a) (ρ:List Nat):g5 ρ a=a:=by
 cases h with
 | an h=>omega
 | ms h=>omega
 | mp h=>omega
 | it h=>omega
 | _=>rfl
theorem Dt {l:List θ} (h:∀a∈l,aK 0 a) (ρ:List Nat):l.map (g5 ρ)=l:=by
 induction l with
 | nil=>rfl
 | cons a l ω=>rw[List.map_cons,(h a η).g5,ω λx U=>h x (by simp[U])]
theorem aK.dO {a:θ} (h:aK 0 a) (ρ:List Nat):dO ρ a=a:=by
 have ao:=h;cases h with
 | a6 h=>simp only[Go.TL.dO];rw[Dt h]
 | a3 h=>simp only[Go.TL.dO];rw[Dt h]
 | fn I R=>simp only[Go.TL.dO];rw[Dt I,Dt R]
 | _=>exact ao.g5 ρ
theorem aK.top {a:θ} (h:aK 0 a) (n:Nat):pR n a:=by
 have ao:=h;cases h with
 | an h=>omega
 | ms h=>omega
 | mp h=>omega
 | it h=>omega
 | _=>exact ao
theorem aK.kh {a:θ} (h:aK 0 a) (n:Nat):fB n a:=by
 have ao:=h;cases h with
 | a6 h=>exact λa κ=>(h a κ).top n
 | a3 h=>exact λa κ=>(h a κ).top n
 | fn I R=>exact⟨λa κ=>(I a κ).top n,λa κ=>(R a κ).top n⟩
 | _=>exact ao.top n
theorem jL {h id n i len:Nat}:fB h (.ms id n i len)↔id<h:=Iff.rfl
theorem sg {h:Nat} {v:Value}:fB h (.z v)↔True:=⟨λ_=>trivial,λ_=>(aK.z v).kh h⟩
theorem jM {ρ:List Nat} {id n i len:Nat}:dO ρ (.ms id n i len)=.ms (ρ.getD id 0) n i len:=rfl
theorem nO {ρ:List Nat} {v:Value}:dO ρ (.z v)=.z v:=rfl
section
variable {P:Program} {σ:List Row}
theorem ak.one {g:FuncId} {as0:List θ} {row oX:Row} {r:θ} {K E:θ->List Row->Prop} (h:ak P g as0 [row] (λa s=>a=r/\s=[oX]) (λ_ _=>False)) (id:Nat) (b7:σ[id]?=some row) (ς:jf row) (hO:jf oX) (κ:∀a∈as0,fB 1 a) (ι:fB 1 r)
  {args:List θ} (nI:args=as0.map (dO [id])) (ζ:K (dO [id] r) (σ.set id oX)):hV P (.fn (.func g) [] []) args σ K E:=by
 subst nI;have aX:=ak.rows (σ:=σ) h [id] η rfl (λj i δ=>by
  cases j with
  | zero=>simp at δ;subst δ;exact b7
  | succ j=>simp at δ) (λr ι=>by simp at ι;subst ι;exact ς) (by simpa using κ) (K':=K) (E':=E) (λa s ⟨I,R⟩=>by
   subst I;subst R;refine⟨λx U=>by simp at U;subst U;exact hO,ι,?_⟩;simpa[names,vj,je] using ζ) (λa s h=>h.elim)
 exact ak.call (first:=[]) (captured:=[]) (by simpa using aX)
end
section
variable {P:Program} {σ:List Row}
theorem ak.Hk {g:FuncId} {as0:List θ} {row:Row} {MT K E:θ->List Row->Prop} (h:ak P g as0 [row] MT (λ_ _=>False)) (id:Nat) (b7:σ[id]?=some row) (ς:jf row) (κ:∀a∈as0,fB 1 a)
  {args:List θ} (nI:args=as0.map (dO [id])) (ζ:∀a s,MT a s->∃oX,s=[oX]/\jf oX/\fB 1 a/\K (dO [id] a) (σ.set id oX)):hV P (.fn (.func g) [] []) args σ K E:=by
 subst nI;have aX:=ak.rows (σ:=σ) h [id] η rfl (λj i δ=>by
  cases j with
  | zero=>simp at δ;subst δ;exact b7
  | succ j=>simp at δ) (λr ι=>by simp at ι;subst ι;exact ς) (by simpa using κ) (K':=K) (E':=E) (λa s ao=>by
   obtain⟨oX,rfl,hO,ι,ψ⟩:=ζ a s ao;refine⟨λx U=>by simp at U;subst U;exact hO,ι,?_⟩;simpa[names,vj,je] using ψ) (λa s h=>h.elim)
 exact ak.call (first:=[]) (captured:=[]) (by simpa using aX)
end
theorem nP {α:Type} {f:α->θ} {t k:Nat} {l:List α} (h:∀x,∀a∈(f x).cells,aK 0 a):jf (.cells t k (l.map f)):=λe he a κ=>by
 obtain⟨x,_,rfl⟩:=List.mem_map.1 he;exact h x a κ
theorem eE.part {id k m:Nat} {σ:List Row} {t:TypeId} {l l2:List θ} (bN:σ[id]?=some (.cells t k (l++l2))) (hm:l.length=m) (hb:∀e∈l,∀a∈e.cells,aK 0 a):eE 0 σ (.ms id (l++l2).length 0 m) (.sl false k l):=by
 subst hm;refine .ms (Nat.zero_le _) bN rfl η rfl (λj e aH I R=>?_) (λj e aH I R x a bP ν Ι=>?_)
 ·have δ:=(bV.1 R).1;rw[Nat.zero_add,dv δ] at I;rw[I] at R;cases R;rfl
 ·have δ:=(bV.1 R).1;rw[Nat.zero_add,dv δ] at I;rw[I] at R;cases R;rw[ν] at Ι;cases Ι;exact .low (hb e (cx I) a (cx ν))
theorem pS {α:Type} [Inhabited α] {d:Array α} {i:Nat} (h:i<d.size):d[i]?=some d[i]!:=by simp[h]
def ar {α:Type} (cmp:α->α->Int) (x y:α):Bool:=decide (cmp x y<0)
end Go.TL
