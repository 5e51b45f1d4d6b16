import Derived.Sort.AssemblyPlain
import Derived.Test.YtlabjopijpkiaaaGreatVAM
set_option maxHeartbeats 16000000
set_option maxRecDepth 20000
set_option linter.unusedSectionVars false
set_option linter.unusedSimpArgs false
set_option linter.unusedVariables false
namespace Go.TL
open Go.Proofs
variable [bn]
theorem HI:IntKind.i64.wrap 1=1:=bu
theorem HJ:IntKind.i64.wrap 2=2:=bu
theorem fC {i n:Nat} (h:i<n) (Ζ:n<2 ^ 62):IntKind.i64.wrap ((i:Int)+1)=((i+1:Nat):Int):=by
 rw[IntWalk.i64_in _ R];rfl
theorem M' (a b:List Int) (κ:a.length<2 ^ 62):az Tryz.prog 30 [bO I 1 a,bO I 1 b] (a6 (a==b)):=by
 refine ae.body Ρ Tryz.func30 rfl rfl Tryz.ntmps30 rfl rfl η ?_;refine Η ?_;refine W.iter (λp:Nat×Bool=>p.1<=a.length/\(p.2=true->a.length=b.length/\∀j,j<p.1->a[j]?=b[j]?)/\(p.2=false->a≠b)) (λp=>[(0,bO I 1 a),(1,bO I 1 b),(5,a6 p.2),(6,I p.1)]) (λ_=>[]) (λp=>a.length-p.1) (0,decide (a.length=b.length)) ⟨Nat.zero_le _,η,by simp;exact λh e=>h (by rw[e])⟩ rfl η (λi hi Β=>?_);rcases i with⟨i,_|_⟩
 ·refine Η ?_;refine aa rfl ?_;refine W.exit rfl ?_;refine Η ?_;refine W.rt ?_;exact .of (by simp[hi.2.2 rfl])
 ·refine Η ?_;have ο:=(hi.2.1 rfl).1;refine W.eU rfl (λδ=>?_) (λδ=>?_)
  ·have δ:i<a.length:=by simpa using δ
   have aX:i<b.length:=R;refine Η ?_;refine dF (υ δ aX) ?_;refine Η ?_;refine W.forget _ ?_ (Β (i+1,decide (a[i]=b[i])) ⟨by simp;omega,λh=>⟨ο,λj ε=>?_⟩,λh e=>?_⟩ (by simp;omega))
   ·simp[fC δ κ]
   ·by_cases e:j=i
    ·subst e;rw[bg δ,bg aX];simpa using h
    ·exact(hi.2.1 rfl).2 j (by simp at ε;omega)
   ·subst e;simp at h
  ·have δ:a.length<=i:=by simpa using δ
   refine W.exit rfl ?_;refine Η ?_;refine W.rt ?_;refine .of ?_;have:a=b:=List.ext_getElem? λj=>by
    by_cases ε:j<i
    ·exact(hi.2.1 rfl).2 j ε
    ·rw[List.getElem?_eq_none R,List.getElem?_eq_none R]
   simp[this]
abbrev bc (l:List (List Int)):θ:=bO (bO I 1) 1 l
theorem HK (l:List Int) (n:Int) (ο:l.length<2 ^ 62):az Tryz.prog 71 [bO I 1 l,I n] (I (if n∈l then(l.idxOf n:Nat) else -1)):=by
 refine ae.body Ρ Tryz.func71 rfl rfl Tryz.ntmps71 rfl rfl η ?_;refine Η ?_;refine W.iter (λi:Nat=>i<=l.length/\∀j,j<i->(h:j<l.length)->l[j]≠n) (λi=>[(0,bO I 1 l),(1,I n),(5,I i)]) (λ_=>[]) (λi=>l.length-i) 0 ⟨Nat.zero_le _,λj ε=>R⟩ rfl η (λi hi Β=>?_)
 repeat apply ad
 by_cases δ:i<l.length
 ·refine aB δ ?_;refine W.eU rfl (λaX=>?_) (λaX=>?_)
  ·have Ζ:l[i]≠n:=by simpa using aX
   refine Η ?_;refine W.forget _ ?_ (Β (i+1) ⟨δ,λj ε h=>?_⟩ R)
   ·simp[fC δ ο]
   ·by_cases e:j=i
    ·subst e;exact Ζ
    ·exact hi.2 j R h
  ·have Ζ:l[i]=n:=by simpa using aX
   refine W.exit rfl ?_;refine Η ?_;have bA:¬i=l.length:=R;refine aa (by simp[bA]) ?_;refine Η ?_;refine W.rt ?_;have hm:n∈l:=Ζ▸List.getElem_mem _;refine .of ?_;rw[if_pos hm];have:l.idxOf n=i:=by
    have aP:l.idxOf n<l.length:=List.idxOf_lt_length_of_mem hm
    have Δ:l[l.idxOf n]=n:=List.getElem_idxOf aP
    have J:¬l.idxOf n<i:=λh=>hi.2 _ h aP Δ
    have U:¬i<l.idxOf n:=λh=>by
     have:=List.not_of_lt_findIdx (p:=(·==n)) (xs:=l) (i:=i) h;simp[Ζ] at this
    omega
   rw[this];rfl
 ·refine aB δ ?_;refine aa rfl ?_;refine W.exit rfl ?_;refine Η ?_;have he:i=l.length:=R;refine ai (by simp[he]) ?_;refine Η ?_;refine W.rt ?_;have hm:n∉l:=λh=>by
   obtain⟨j,ε,e⟩:=List.getElem_of_mem h;exact hi.2 j R ε e
  exact .of (by simp[hm])
theorem VY (a b:List (List Int)) (κ:a.length<2 ^ 40) (ν:∀x∈a,x.length<2 ^ 40):az Tryz.prog 50 [bc a,bc b] (a6 (a==b)):=by
 refine ae.body Ρ Tryz.func50 rfl rfl Tryz.ntmps50 rfl rfl η ?_;refine Η ?_;refine W.iter (λp:Nat×Bool=>p.1<=a.length/\(p.2=true->a.length=b.length/\∀j,j<p.1->a[j]?=b[j]?)/\(p.2=false->a≠b)) (λp=>[(0,bc a),(1,bc b),(5,a6 p.2),(6,I p.1)]) (λ_=>[]) (λp=>a.length-p.1) (0,decide (a.length=b.length)) ⟨Nat.zero_le _,η,by simp;exact λh e=>h (by rw[e])⟩ rfl η (λi hi Β=>?_);rcases i with⟨i,_|_⟩
 ·refine Η ?_;refine aa rfl ?_;refine W.exit rfl ?_;refine Η ?_;refine W.rt ?_;exact .of (by simp[hi.2.2 rfl])
 ·refine Η ?_;have ο:=(hi.2.1 rfl).1;refine W.eU rfl (λδ=>?_) (λδ=>?_)
  ·have δ:i<a.length:=by simpa using δ
   have aX:i<b.length:=R;refine Η ?_;refine W.draw (A:=[]) Ρ mixed λΕ ζ=>gq (υ δ aX) ?_;refine eA (az.q (M' a[i] b[i] (by have:=ν _ (List.getElem_mem δ);omega))) (p7 ?_);refine er (ζ _ _ ?_);refine Η ?_;refine W.forget _ ?_ (Β (i+1,a[i]==b[i]) ⟨by simp;omega,λh=>⟨ο,λj ε=>?_⟩,λh e=>?_⟩ (by simp;omega))
   ·simp[fC δ (show a.length<2 ^ 62 by omega)]
   ·by_cases e:j=i
    ·subst e;rw[bg δ,bg aX];simpa using h
    ·exact(hi.2.1 rfl).2 j (by simp at ε;omega)
   ·subst e;simp at h
  ·have δ:a.length<=i:=by simpa using δ
   refine W.exit rfl ?_;refine Η ?_;refine W.rt ?_;refine .of ?_;have:a=b:=List.ext_getElem? λj=>by
    by_cases ε:j<i
    ·exact(hi.2.1 rfl).2 j ε
    ·rw[List.getElem?_eq_none R,List.getElem?_eq_none R]
   simp[this]
structure l8 where
 name:ByteArray
 eI:Int
deriving DecidableEq
structure fi where
 db:Int
 seen:Int
 bare:Int
deriving DecidableEq
structure aT where
 au:List l8
 aI:List (List Int)
 cells:List (List fi)
deriving DecidableEq
abbrev eP (g:l8):θ:=.a5 [mP g.name,I g.eI]
abbrev eQ (p:fi):θ:=.a5 [I p.db,I p.seen,I p.bare]
abbrev a7 (l:List l8):θ:=bO eP 2 l
abbrev p8 (l:List fi):θ:=bO eQ 3 l
abbrev ca (l:List (List fi)):θ:=bO p8 1 l
abbrev fD (s:aT):θ:=.a5 [a7 s.au,bc s.aI,ca s.cells]
def aT.small (s:aT):Prop:=s.au.length<2 ^ 30/\s.aI.length<2 ^ 30/\s.cells.length<2 ^ 30/\(∀x∈s.aI,x.length<2 ^ 30)/\∀x∈s.cells,x.length<2 ^ 30
@[simp] theorem iφ (x y:Int):(x != y) = !decide (x=y):=by rw[Bool.eq_iff_iff];simp
section
variable {P:Program} {m nt:Nat} {k:List Item} {env:Ω} {σ σ':List Row} {Z:List Item->Ω->List Row->Prop} {E:θ->Ω->List Row->Prop}
theorem W.drop {h:Nat} (hm:m<=h) (a0:h<=σ.length) (oc:∀(id:Nat) (r:Row),id<h->σ[id]?=some r->fg h r) (l7:σ.take h=σ') (env':Ω) (cT:∀p∈env',a9 env p.1=p.2/\aG h p.2) (hW:W P m nt k env' σ' Z E):W P m nt k env σ Z E:=
 W.cut h hm env' a0 oc (λp ψ=>by rw[(cT p ψ).1];exact .low (cT p ψ).2) (by rw[l7];exact hW)
theorem W.fix {id:Nat} {t:TypeId} {e:θ} {kk:Nat} (hm:m<=id) (bS:σ[id]?=some (.cells t kk [e])) (he:∀a∈e.cells,aG id a) (oc:∀(Dq:Nat) (r:Row),Dq<id->σ[Dq]?=some r->fg id r) (l7:σ.take id=σ') (env':Ω)
  (cT:∀p∈env',(a9 env p.1=p.2/\aG id p.2)\/(a9 env p.1=.ar id 1 0 0/\p.2=.ao e.cells)) (hW:W P m nt k env' σ' Z E):W P m nt k env σ Z E:=
 W.cut id hm env' (Nat.le_of_lt (cf.1 bS).1) oc (λp ψ=>by
  rcases cT p ψ with⟨J,U⟩|⟨J,U⟩
  ·rw[J];exact .low U
  ·rw[J,U];refine .ar (Nat.le_refl _) bS rfl (e:=e) rfl η λx a cz Χ ak=>?_;rw[Nat.zero_add] at Χ;rw[Χ] at ak;cases ak;exact .low (he a (cE Χ))) (by rw[l7];exact hW)
theorem W.to {env':Ω} (h:W P m nt k env' σ' Z E) (l7:σ=σ') (cT:∀p∈env',a9 env p.1=p.2):W P m nt k env σ Z E:=l7▸W.forget env' cT h
end
abbrev o0 (a b:Int):Int:=eY .i64 a b
abbrev o1 (a b:Int):Int:=q1 .i64 a b
abbrev vW (a b:Int):Int:=k9 .i64 a b
section
variable {P:Program} {σ:List Row}
theorem gp.c {f:θ} {args:List θ} {r:θ} {K E:θ->List Row->Prop} (h:gp P f args r) (ζ:K r σ):hG P f args σ K E:=
 hG.mono (h σ) (λa s ⟨J,U⟩=>by subst J;subst U;exact ζ) (λ_ _ h=>h.elim)
end
def nH (n:Int):Bool:=decide (0<=n)&&decide (n<=2)
theorem o2 (n:Int):az Tryz.prog 93 [I n] (a6 (nH n)):=by
 refine ae.body Ρ Tryz.func93 rfl rfl Tryz.ntmps93 rfl rfl η ?_;by_cases h:0<=n
 ·refine aB h ?_;refine W.rt ?_;exact .of (by simp[nH,h])
 ·refine aB h ?_;refine W.rt ?_;exact .of (by simp[nH,h])
def valid (n:Int):Bool:=decide (0<=n)&&decide (n<=63)
theorem xR (n:Int):az Tryz.prog 109 [I n] (a6 (valid n)):=by
 refine ae.body Ρ Tryz.func109 rfl rfl Tryz.ntmps109 rfl rfl η ?_;by_cases h:0<=n
 ·refine aB h ?_;refine W.rt ?_;exact .of (by simp[valid,h])
 ·refine aB h ?_;refine W.rt ?_;exact .of (by simp[valid,h])
theorem Na (a b:Int):az Tryz.prog 196 [I a,I b] (a6 (o0 a b==0)):=by
 refine ae.body Ρ Tryz.func196 rfl rfl Tryz.ntmps196 rfl rfl η ?_;refine Η ?_;refine W.rt ?_;exact .of η
theorem Nb (a b:Int):az Tryz.prog 210 [I a,I b] (a6 (vW a b==0)):=by
 refine ae.body Ρ Tryz.func210 rfl rfl Tryz.ntmps210 rfl rfl η ?_;refine Η ?_;refine W.rt ?_;exact .of η
theorem HL (b:Bool):az Tryz.prog 127 [a6 b] (I (if b then 1 else 0)):=by
 refine ae.body Ρ Tryz.func127 rfl rfl Tryz.ntmps127 rfl rfl η ?_;cases b
 ·refine Η ?_;refine aa rfl ?_;refine Η ?_;refine W.rt ?_;exact .refl _
 ·refine Η ?_;refine ai rfl ?_;refine Η ?_;refine W.rt ?_;exact .refl _
theorem HM (n:Int):az Tryz.prog 193 [I n] (a6 false):=by
 refine ae.body Ρ Tryz.func193 rfl rfl Tryz.ntmps193 rfl rfl η ?_;refine Η ?_;refine W.rt ?_;exact .of η
def DY (n:Int):Int:=o1 (o1 (vW n 15) (IntKind.i64.wrap (o0 n 5*2))) ((o0 n 10).fdiv 2)
theorem VZ (n:Int):az Tryz.prog 99 [I n] (I (DY n)):=by
 refine ae.body Ρ Tryz.func99 rfl rfl Tryz.ntmps99 rfl rfl η ?_;refine Η ?_;refine W.rt ?_;exact .of (by simp[DY,IntKind.bits])
def idxOf {α:Type} (p:α->Bool) (l:List α):Int:=if l.any p then(l.findIdx p:Nat) else -1
theorem DZ {α:Type} {p:α->Bool} {l:List α} {i:Nat} (h:i<l.length) (J:p l[i]=true) (U:∀j,j<i->(ε:j<l.length)->p l[j]=false):idxOf p l=(i:Nat):=by
 have κ:l.any p=true:=List.any_eq_true.2 ⟨_,List.getElem_mem h,J⟩
 have:l.findIdx p=i:=by
  have μ:¬l.findIdx p<i:=λaP=>by
   have ο:l.findIdx p<l.length:=R
   have:=List.findIdx_getElem (p:=p) (w:=ο);rw[U _ aP ο] at this;cases this
  have Θ:¬i<l.findIdx p:=λaP=>by
   have:=List.not_of_lt_findIdx aP;rw[J] at this;simp at this
  omega
 unfold idxOf;rw[if_pos κ,this]
theorem D1 {α:Type} {p:α->Bool} {l:List α} (h:∀j,(ε:j<l.length)->p l[j]=false):idxOf p l=-1:=by
 have:l.any p=false:=by
  rw[List.any_eq_false];intro x γ;obtain⟨j,ε,rfl⟩:=List.getElem_of_mem γ;simp[h j ε]
 unfold idxOf;rw[this];rfl
theorem D2 {α:Type} {p:α->Bool} {l:List α}:decide (idxOf p l>=0)=l.any p:=by
 unfold idxOf;cases h:l.any p<;>simp
theorem V0 (l:List Int) (n:Int) (ο:l.length<2 ^ 62):az Tryz.prog 137 [bO I 1 l,I n] (I (idxOf (·==n) l)):=by
 refine ae.body Ρ Tryz.func137 rfl rfl Tryz.ntmps137 rfl rfl η ?_;refine Η ?_;refine W.iter (λi:Nat=>i<=l.length/\∀j,j<i->(h:j<l.length)->(l[j]==n)=false) (λi=>[(0,bO I 1 l),(1,I n),(6,bO I 1 l),(7,I l.length),(8,I i)]) (λ_=>[]) (λi=>l.length-i) 0 ⟨Nat.zero_le _,λj ε=>R⟩ rfl η (λi hi Β=>?_);refine Η ?_;refine W.eU rfl (λδ=>?_) (λδ=>?_)
 ·have δ:i<l.length:=by simpa using δ
  refine aB δ ?_;refine W.eU rfl (λaX=>?_) (λaX=>?_)
  ·have Ζ:n=l[i]:=by simpa using aX
   refine Η ?_;refine W.rt ?_;exact .of (by rw[DZ δ (by simp[Ζ]) hi.2];rfl)
  ·have Ζ:¬n=l[i]:=by simpa using aX
   refine Η ?_;refine W.forget _ ?_ (Β (i+1) ⟨R,λj ε h=>?_⟩ R)
   ·simp[fC δ ο]
   ·by_cases e:j=i
    ·subst e;simpa using λx=>Ζ x.symm
    ·exact hi.2 j R h
 ·have δ:l.length<=i:=by simpa using δ
  refine W.exit rfl ?_;refine Η ?_;refine W.rt ?_;exact .of (by rw[D1 λj ε=>hi.2 j R ε];rfl)
theorem any_beq (l:List Int) (n:Int):(l.any λx=>x==n)=l.contains n:=by
 rw[Bool.eq_iff_iff];simp
theorem HN (l:List Int) (n:Int) (ο:l.length<2 ^ 62):az Tryz.prog 110 [bO I 1 l,I n] (a6 (l.contains n)):=by
 refine ae.body Ρ Tryz.func110 rfl rfl Tryz.ntmps110 rfl rfl η ?_;refine Η ?_;refine bl λΕ ζ=>?_;refine az.d (V0 l n ο) (bD ?_);apply ζ;refine Η ?_;refine W.rt ?_;exact .of (by rw[<-any_beq,<-D2];rfl)
@[simp high] theorem V1 {h:Nat} {e:Bool} {k:Nat} {α:Type} {f:α->θ} {l:List α}:aG h (.sl e k (l.map f))↔∀x∈l,∀a∈(f x).cells,aG h a:=by
 rw[iL];simp only[List.mem_map];exact⟨λH x γ=>H _ ⟨x,γ,rfl⟩,λH e ⟨x,γ,he⟩=>he▸H x γ⟩
@[simp high] theorem iχ {h:Nat} {e:Bool} {k n:Nat} {α:Type} {f:α->θ} {l:List α}:aG h (.sl e k ((l.map f).take n))↔∀x∈l.take n,∀a∈(f x).cells,aG h a:=by
 rw[<-List.map_take];exact V1
abbrev aF (r:Int×Int):θ:=.a5 [I r.1,I r.2]
abbrev mR (l:List (Int×Int)):θ:=bO aF 2 l
abbrev mS (l:List (List (Int×Int))):θ:=bO mR 1 l
structure Found where
 u:Int
 v:Int
 cells:List (List (Int×Int))
deriving DecidableEq
abbrev dj (f:Found):θ:=.a5 [I f.u,I f.v,mS f.cells]
abbrev cZ (l:List Found):θ:=bO dj 3 l
def aT.of (s:aT) (g:Int):Int:=if g<0 then 0 else((s.au[g.toNat]?).map (·.eI)).getD 0
theorem DW (s:aT) (g:Int) (Ξ:g<s.au.length):az Tryz.prog 125 [fD s,I g] (I (s.of g)):=by
 refine ae.body Ρ Tryz.func125 rfl rfl Tryz.ntmps125 rfl rfl η ?_;refine Η ?_;refine W.eU rfl (λδ=>?_) (λδ=>?_)
 ·have δ:g<0:=by simpa using δ
  refine Η ?_;refine W.rt ?_;exact .of (by rw[show s.of g=0 by simp[aT.of,δ]];rfl)
 ·have δ:¬g<0:=by simpa using δ
  obtain⟨n,rfl⟩:∃n:Nat,g=n:=⟨g.toNat,R⟩;have Ζ:n<s.au.length:=R;refine aB Ζ ?_;refine W.rt ?_;exact .of (by rw[show s.of n=s.au[n].eI by simp[aT.of,Ζ];intro h;omega];rfl)
def aT.gb (s:aT) (p r:Int×Int) (db:Nat):Int:=
 let l:=(s.aI[db]?).getD []
 let a:=if l.contains p.1 then o1 0 (s.of r.1) else 0
 if l.contains p.2 then o1 a (s.of r.2) else a
theorem z' (s:aT) (ν:s.small) (p r:Int×Int) (n:Nat) (Ζ:n<s.aI.length) (J:r.1<s.au.length) (U:r.2<s.au.length) :
  az Tryz.prog 77 [fD s,aF p,aF r,I n] (I (s.gb p r n)):=by
 refine ae.body Ρ Tryz.func77 rfl rfl Tryz.ntmps77 rfl rfl η ?_;have ο:s.aI[n].length<2 ^ 62:=by have:=ν.2.2.2.1 _ (List.getElem_mem Ζ);omega
 refine Η ?_;refine W.iter (λq:Nat×Int=>q.1<=2/\(q.1=0->q.2=0)/\(q.1=1->q.2=if s.aI[n].contains p.1 then o1 0 (s.of r.1) else 0)/\(q.1=2->q.2=s.gb p r n))
  (λq=>[(3,I n),(4,.ao [a7 s.au,bc s.aI,ca s.cells]),(5,.ao [I p.1,I p.2]),(6,.ao [I r.1,I r.2]),(9,I q.2),(12,aF p),(13,I q.1)]) (λ_=>[]) (λq=>2-q.1) (0,0) ⟨R,η,η,η⟩ rfl η (λq hi Β=>?_)
 rcases q with⟨i,x⟩
 match i,hi,Β with
 | 0,hi,Β=>
  have γ:x=0:=hi.2.1 rfl;subst γ;refine Η ?_;refine ai rfl ?_;refine Η ?_;refine hI Ζ λΕ ζ=>?_;refine az.d (HN s.aI[n] p.1 ο) (bD ?_);apply ζ;by_cases δ:p.1∈s.aI[n]
  ·refine ai (by simp[δ]) ?_;refine Η ?_;refine W.draw (A:=[]) Ρ mixed λΕ ζ=>p7 ?_;refine eA (az.q (DW s r.1 J)) (p7 ?_);refine er (ζ _ _ ?_);refine Η ?_;refine W.forget _ ?_ (Β (1,o1 0 (s.of r.1)) ⟨η,η,by simp[δ],η⟩ η);simp[HI]
  ·refine aa (by simp[δ]) ?_;refine Η ?_;refine W.forget _ ?_ (Β (1,0) ⟨η,η,by simp[δ],η⟩ η);simp[HI]
 | 1,hi,Β=>
  have γ:=hi.2.2.1 rfl;simp at γ;refine Η ?_;refine ai rfl ?_;refine Η ?_;refine hI Ζ λΕ ζ=>?_;refine az.d (HN s.aI[n] p.2 ο) (bD ?_);apply ζ;by_cases δ:p.2∈s.aI[n]
  ·refine ai (by simp[δ]) ?_;refine Η ?_;refine W.draw (A:=[]) Ρ mixed λΕ ζ=>p7 ?_;refine eA (az.q (DW s r.2 U)) (p7 ?_);refine er (ζ _ _ ?_);refine Η ?_;refine W.forget _ ?_ (Β (2,o1 x (s.of r.2)) ⟨η,η,η,λ_=>by simp only[aT.gb,bg Ζ];simp[δ,γ]⟩ η);simp[HJ]
  ·refine aa (by simp[δ]) ?_;refine Η ?_;refine W.forget _ ?_ (Β (2,x) ⟨η,η,η,λ_=>by simp only[aT.gb,bg Ζ];simp[δ,γ]⟩ η);simp[HJ]
 | 2,hi,Β=>
  have γ:=hi.2.2.2 rfl;refine Η ?_;refine aa rfl ?_;refine W.exit rfl ?_;refine Η ?_;refine W.rt ?_;exact .of (by rw[<-show x=s.gb p r n from γ];rfl)
 | i+3,hi,Β=>exact absurd hi.1 η
def aT.o3 (s:aT) (p r:Int×Int) (x:fi):Bool:=vW x.seen (s.gb p r x.db.toNat)==0&&o0 (s.gb p r x.db.toNat) x.bare==0
def aT.sH (s:aT) (p r:Int×Int) (c:Nat):Bool:=((s.cells[c]?).getD []).all (s.o3 p r)
theorem V2 (s:aT) (ν:s.small) (p r:Int×Int) (c:Nat) (Ζ:c<s.cells.length) (hv:∀x∈s.cells[c],0<=x.db/\x.db<s.aI.length) (J:r.1<s.au.length) (U:r.2<s.au.length) :
  az Tryz.prog 172 [fD s,aF p,aF r,I c] (a6 (s.sH p r c)):=by
 refine ae.body Ρ Tryz.func172 rfl rfl Tryz.ntmps172 rfl rfl η ?_;have ο:s.cells[c].length<2 ^ 62:=by have:=ν.2.2.2.2 _ (List.getElem_mem Ζ);omega
 have fB:s.sH p r c=s.cells[c].all (s.o3 p r):=by simp[aT.sH,Ζ]
 rw[fB];refine aB Ζ ?_;refine W.iter (λi:Nat=>i<=s.cells[c].length/\∀j,j<i->(h:j<s.cells[c].length)->s.o3 p r s.cells[c][j]=true)
  (λi=>[(4,.ao [a7 s.au,bc s.aI,ca s.cells]),(5,.ao [I p.1,I p.2]),(6,.ao [I r.1,I r.2]),(17,p8 s.cells[c]),(18,I s.cells[c].length),(19,I i)]) (λ_=>[]) (λi=>s.cells[c].length-i) 0 ⟨R,λj ε=>R⟩ rfl η (λi hi Β=>?_)
 refine Η ?_;refine W.eU rfl (λδ=>?_) (λδ=>?_)
 ·have δ:i<s.cells[c].length:=by simpa using δ
  have γ:=hv _ (List.getElem_mem δ);obtain⟨n,sI⟩:∃n:Nat,s.cells[c][i].db=n:=⟨s.cells[c][i].db.toNat,R⟩;have n4:n<s.aI.length:=R;have bp:s.o3 p r s.cells[c][i]=(vW s.cells[c][i].seen (s.gb p r n)==0&&o0 (s.gb p r n) s.cells[c][i].bare==0):=by simp[aT.o3,sI]
  repeat apply ad
  refine dM (A:=[10]) Ρ λΕ ζ=>gW δ ?_;apply ζ
  repeat apply ad
  refine hI sI λΕ ζ=>?_;refine az.d (z' s ν p r n n4 J U) (bD ?_);apply ζ
  repeat apply ad
  by_cases Χ:vW s.cells[c][i].seen (s.gb p r n)=0
  ·refine hI @Χ λΕ ζ=>?_;refine az.d (Nb s.cells[c][i].seen (s.gb p r n)) (gW @Χ ?_);refine az.d (Na (s.gb p r n) s.cells[c][i].bare) (bD ?_);apply ζ;by_cases ak:o0 (s.gb p r n) s.cells[c][i].bare=0
   ·refine aa (by simp[ak]) ?_;refine Η ?_;refine W.drop (h:=0) (Nat.zero_le _) (Nat.zero_le _) η rfl _ ?_ (Β (i+1) ⟨R,λj ε h=>?_⟩ R)
    ·simp[fC δ ο]
    ·by_cases e:j=i
     ·subst e;rw[bp];simp[Χ,ak]
     ·exact hi.2 j R h
   ·refine ai (by simp[ak]) ?_;refine Η ?_;refine W.drop (h:=0) (Nat.zero_le _) (Nat.zero_le _) η rfl [(8,a6 false)] η ?_;refine W.rt ?_;exact .of (by rw[show s.cells[c].all (s.o3 p r)=false from List.all_eq_false.2 ⟨_,List.getElem_mem δ,by rw[bp];simp[ak]⟩];rfl)
  ·refine hI @Χ λΕ ζ=>?_;refine az.d (Nb s.cells[c][i].seen (s.gb p r n)) (gW @Χ ?_);apply ζ;refine ai η ?_;refine Η ?_;refine W.drop (h:=0) (Nat.zero_le _) (Nat.zero_le _) η rfl [(8,a6 false)] η ?_;refine W.rt ?_;exact .of (by rw[show s.cells[c].all (s.o3 p r)=false from List.all_eq_false.2 ⟨_,List.getElem_mem δ,by rw[bp];simp[Χ]⟩];rfl)
 ·have δ:s.cells[c].length<=i:=by simpa using δ
  refine W.exit rfl ?_;refine Η ?_;refine W.ret ⟨_,rfl,?_,rfl⟩;refine .of ?_;rw[show s.cells[c].all (s.o3 p r)=true from List.all_eq_true.2 λx γ=>by
   obtain⟨j,ε,rfl⟩:=List.getElem_of_mem γ;exact hi.2 j R ε]
  rfl
def ir (l:List (List (Int×Int))) (hJ:Int) (i:Nat):Nat:=((List.range i).map λj:Nat=>if(j:Int)=hJ then 1 else((l[j]?).getD []).length).prod
theorem D3 (l:List (List (Int×Int))) (hJ:Int) (i:Nat):ir l hJ (i+1)=ir l hJ i*(if(i:Int)=hJ then 1 else((l[i]?).getD []).length):=by
 unfold ir;rw[List.range_succ,List.map_append,List.prod_append];simp
def Found.many (f:Found) (hJ:Int):Nat:=ir f.cells hJ f.cells.length
theorem gr {n:Nat} (h:n<2 ^ 62):IntKind.i64.wrap (n:Int)=n:=IntWalk.i64_in _ R
theorem D4 (f:Found) (hJ:Int) (ο:f.cells.length<2 ^ 62) (hm:∀i,i<=f.cells.length->ir f.cells hJ i<2 ^ 62) :
  az Tryz.prog 78 [dj f,I hJ] (I (f.many hJ)):=by
 refine ae.body Ρ Tryz.func78 rfl rfl Tryz.ntmps78 rfl rfl η ?_;refine Η ?_;refine W.iter (λi:Nat=>i<=f.cells.length) (λi=>[(1,I hJ),(5,I (ir f.cells hJ i)),(9,mS f.cells),(10,I f.cells.length),(11,I i)]) (λ_=>[]) (λi=>f.cells.length-i) 0 (Nat.zero_le _) rfl (by simp[ir]) (λi hi Β=>?_);refine Η ?_;refine W.eU rfl (λδ=>?_) (λδ=>?_)
 ·have δ:i<f.cells.length:=by simpa using δ
  have ν:=D3 f.cells hJ i
  have aP:=hm (i+1) δ;refine aB δ ?_;by_cases g:(i:Int)=hJ
  ·refine aa (by simp[g]) ?_;refine Η ?_;refine W.forget _ ?_ (Β (i+1) δ R);rw[ν,if_pos g];simp[fC δ ο]
  ·refine ai (by simp[g]) ?_;have hv:ir f.cells hJ i*f.cells[i].length<2 ^ 62:=by rw[ν,if_neg g] at aP;simpa[δ] using aP
   refine aB δ ?_;refine W.forget _ ?_ (Β (i+1) δ R);rw[ν,if_neg g];simp only[bg δ,Option.getD_some];have:=gr hv;simp[fC δ ο] at this ⊢;simp[this]
 ·have δ:i=f.cells.length:=by simp at δ;omega
  subst δ;refine W.exit rfl ?_;refine Η ?_;refine W.rt ?_;exact .of rfl
def o4 (a b:Int):Int:=if a<b then -1 else if b<a then 1 else 0
theorem V3 (a b:Int):az Tryz.prog 151 [I a,I b] (I (o4 a b)):=by
 refine ae.body Ρ Tryz.func151 rfl rfl Tryz.ntmps151 rfl rfl η ?_;refine Η ?_;refine bl λΕ ζ=>?_;refine az.d (HM a) (bD ?_);apply ζ;refine bl λΕ ζ=>?_;refine az.d (HM b) (bD ?_);apply ζ;refine Η ?_;refine aa rfl ?_;refine Η ?_;refine aa rfl ?_;refine Η ?_;refine W.eU rfl (λδ=>?_) (λδ=>?_)
 ·have δ:a<b:=by simpa using δ
  refine Η ?_;refine W.rt ?_;exact .of (by rw[show o4 a b=-1 by simp[o4,δ]];rfl)
 ·have δ:¬a<b:=by simpa using δ
  refine Η ?_;refine W.eU rfl (λaX=>?_) (λaX=>?_)
  ·have aX:b<a:=by simpa using aX
   refine Η ?_;refine W.rt ?_;exact .of (by rw[show o4 a b=1 by simp[o4,δ,aX]];rfl)
  ·have aX:¬b<a:=by simpa using aX
   refine Η ?_;refine W.rt ?_;exact .of (by rw[show o4 a b=0 by simp[o4,δ,aX]];rfl)
theorem nI (a b:Int):az Tryz.prog 203 [I a,I b] (a6 (decide (a<b))):=by
 refine ae.body Ρ Tryz.func203 rfl rfl Tryz.ntmps203 rfl rfl η ?_;refine Η ?_;refine bl λΕ ζ=>?_;refine az.d (HM a) (bD ?_);apply ζ;refine Η ?_;refine W.rt ?_;exact .of (by rw[show decide (a<b)=decide (a<b) from rfl];rfl)
def o5:List Int->List Int->Int
 | [],[]=>0
 | [],_::_=>-1
 | _::_,[]=>1
 | a::l,b::m=>if o4 a b≠0 then o4 a b else o5 l m
theorem Nc (a b:List Int) (κ:a.length<2 ^ 62):az Tryz.prog 118 [bO I 1 a,bO I 1 b] (I (o5 a b)):=by
 refine ae.body Ρ Tryz.func118 rfl rfl Tryz.ntmps118 rfl rfl η ?_;refine Η ?_;refine W.iter (λi:Nat=>i<=a.length/\i<=b.length/\o5 a b=o5 (a.drop i) (b.drop i)) (λi=>[(0,bO I 1 a),(1,bO I 1 b),(9,bO I 1 a),(10,I a.length),(11,I i)]) (λ_=>[]) (λi=>a.length-i) 0 ⟨R,R,η⟩ rfl η (λi hi Β=>?_);obtain⟨J,U,μ⟩:=hi;refine Η ?_;refine W.eU rfl (λδ=>?_) (λδ=>?_)
 ·have δ:i<a.length:=by simpa using δ
  have lk:a.drop i=a[i]::a.drop (i+1):=List.drop_eq_getElem_cons δ;refine aB δ ?_;refine W.eU rfl (λaX=>?_) (λaX=>?_)
  ·have aX:b.length<=i:=by simp at aX;omega
   refine Η ?_;have iZ:b.drop i=[]:=List.drop_eq_nil_of_le aX;refine W.rt ?_;exact .of (by rw[show o5 a b=1 by rw[μ,lk,iZ];rfl];rfl)
  ·have aX:i<b.length:=by simp at aX;omega
   have iZ:b.drop i=b[i]::b.drop (i+1):=List.drop_eq_getElem_cons aX
   repeat apply ad
   refine nG aX ?_;refine bl λΕ ζ=>?_;refine az.d (V3 a[i] b[i]) (bD ?_);apply ζ;refine Η ?_;by_cases g:o4 a[i] b[i]=0
   ·refine aa (by simp[g]) ?_;refine Η ?_;refine W.forget _ ?_ (Β (i+1) ⟨δ,aX,?_⟩ R)
    ·simp[fC δ κ]
    ·rw[μ,lk,iZ,o5,if_neg (by simpa using g)]
   ·refine ai (by simp[g]) ?_;refine Η ?_;refine W.rt ?_;exact .of (by rw[show o5 a b=o4 a[i] b[i] by rw[μ,lk,iZ,o5,if_pos g]];rfl)
 ·have δ:i=a.length:=by simp at δ;omega
  have lk:a.drop i=[]:=List.drop_eq_nil_of_le R;refine W.exit rfl ?_;refine Η ?_;by_cases g:a.length<b.length
  ·refine ai (by simp[g]) ?_;refine Η ?_;have iZ:b.drop i=b[i]::b.drop (i+1):=List.drop_eq_getElem_cons R;refine W.rt ?_;exact .of (by rw[show o5 a b=-1 by rw[μ,lk,iZ];rfl];rfl)
  ·refine aa (by simp[g]) ?_;refine Η ?_;have iZ:b.drop i=[]:=List.drop_eq_nil_of_le R;refine W.rt ?_;exact .of (by rw[show o5 a b=0 by rw[μ,lk,iZ];rfl];rfl)
def nJ (x y:Int×Int):Int:=o5 [x.1,x.2] [y.1,y.2]
theorem Nd (x y:Int×Int):az Tryz.prog 174 [aF x,aF y] (I (nJ x y)):=by
 refine ae.body Ρ Tryz.func174 rfl rfl Tryz.ntmps174 rfl rfl η ?_;refine Η ?_;refine W.draw (A:=[]) Ρ mixed λΕ ζ=>p7 ?_;refine eA (az.p (Nc [x.1,x.2] [y.1,y.2] η) (.cons .ex (.cons .ex .nil)) η η) ?_;simp;(repeat (rw[c7];simp[]));try rw[c6]
 refine er (ζ _ _ ?_);refine Η ?_;refine W.rt ?_;exact .of rfl
theorem V4 (x y:Found):az Tryz.prog 148 [dj x,dj y] (I (nJ (x.u,x.v) (y.u,y.v))):=by
 refine ae.body Ρ Tryz.func148 rfl rfl Tryz.ntmps148 rfl rfl η ?_;refine Η ?_;refine W.draw (A:=[]) Ρ mixed λΕ ζ=>p7 ?_;refine eA (az.p (Nc [x.u,x.v] [y.u,y.v] η) (.cons .ex (.cons .ex .nil)) η η) ?_;simp;(repeat (rw[c7];simp[]));try rw[c6]
 refine er (ζ _ _ ?_);refine Η ?_;refine W.rt ?_;exact .of rfl
def kP (l:List Found):Nat:=(l.map (·.many (-1))).sum
theorem V5 (l:List Found) (ο:l.length<2 ^ 62) (J:∀f∈l,f.cells.length<2 ^ 62/\∀i,i<=f.cells.length->ir f.cells (-1) i<2 ^ 62) (U:kP l<2 ^ 62) :
  az Tryz.prog 79 [cZ l] (I (kP l)):=by
 refine ae.body Ρ Tryz.func79 rfl rfl Tryz.ntmps79 rfl rfl η ?_;refine Η ?_;refine W.iter (λi:Nat=>i<=l.length) (λi=>[(3,I (kP (l.take i))),(6,cZ l),(7,I l.length),(8,I i)]) (λ_=>[]) (λi=>l.length-i) 0 (Nat.zero_le _) rfl (by simp[kP]) (λi hi Β=>?_);refine Η ?_;refine W.eU rfl (λδ=>?_) (λδ=>?_)
 ·have δ:i<l.length:=by simpa using δ
  obtain⟨Χ,ak⟩:=J _ (List.getElem_mem δ);have ν:kP (l.take (i+1))=kP (l.take i)+l[i].many (-1):=by
   unfold kP;rw[List.take_succ_eq_append_getElem δ,List.map_append,List.sum_append];simp only[List.map_cons,List.map_nil,List.sum_cons,List.sum_nil,Nat.add_zero]
  have aP:kP (l.take i)+l[i].many (-1)<2 ^ 62:=by
   rw[<-ν];have e:kP l=kP (l.take (i+1))+kP (l.drop (i+1)):=by
    conv=>lhs;rw[<-List.take_append_drop (i+1) l]
    simp only[kP,List.map_append,List.sum_append]
   omega
  repeat apply ad
  refine dM (A:=[5]) Ρ λΕ ζ=>gW δ ?_;apply ζ;refine bl λΕ ζ=>?_;refine az.d (D4 l[i] (-1) Χ ak) (bD ?_);apply ζ;refine Η ?_;refine W.drop (h:=0) (Nat.zero_le _) (Nat.zero_le _) η rfl _ ?_ (Β (i+1) δ R);rw[ν];have:=gr aP;simp[fC δ ο] at this ⊢;exact this
 ·have δ:i=l.length:=by simp at δ;omega
  subst δ;refine W.exit rfl ?_;refine Η ?_;refine W.rt ?_;exact .of (by rw[show kP l=kP (l.take l.length) by simp];rfl)
theorem aG.hY {a:θ} (h:aG 0 a) (ρ:List Nat):hY ρ a=a:=by
 cases h with
 | ar h=>omega
 | ms h=>omega
 | mp h=>omega
 | it h=>omega
 | _=>rfl
theorem D5 {l:List θ} (h:∀a∈l,aG 0 a) (ρ:List Nat):l.map (hY ρ)=l:=by
 induction l with
 | nil=>rfl
 | cons a l Β=>rw[List.map_cons,(h a η).hY,Β λx γ=>h x (by simp[γ])]
theorem aG.ei {a:θ} (h:aG 0 a) (ρ:List Nat):ei ρ a=a:=by
 have aj:=h;cases h with
 | a5 h=>simp only[Go.TL.ei];rw[D5 h]
 | bj h=>simp only[Go.TL.ei];rw[D5 h]
 | fn J U=>simp only[Go.TL.ei];rw[D5 J,D5 U]
 | _=>exact aj.hY ρ
theorem aG.top {a:θ} (h:aG 0 a) (n:Nat):nE n a:=by
 have aj:=h;cases h with
 | ar h=>omega
 | ms h=>omega
 | mp h=>omega
 | it h=>omega
 | _=>exact aj
theorem aG.jg {a:θ} (h:aG 0 a) (n:Nat):fQ n a:=by
 have aj:=h;cases h with
 | a5 h=>exact λa κ=>(h a κ).top n
 | bj h=>exact λa κ=>(h a κ).top n
 | fn J U=>exact⟨λa κ=>(J a κ).top n,λa κ=>(U a κ).top n⟩
 | _=>exact aj.top n
theorem oe {h id n i len:Nat}:fQ h (.ms id n i len)↔id<h:=Iff.rfl
theorem vX {h:Nat} {v:Value}:fQ h (.z v)↔True:=⟨λ_=>trivial,λ_=>(aG.z v).jg h⟩
theorem og {ρ:List Nat} {id n i len:Nat}:ei ρ (.ms id n i len)=.ms (ρ.getD id 0) n i len:=rfl
theorem oh {ρ:List Nat} {v:Value}:ei ρ (.z v)=.z v:=rfl
section
variable {P:Program} {σ:List Row}
theorem ae.one {g:FuncId} {as0:List θ} {row row':Row} {r:θ} {K E:θ->List Row->Prop} (h:ae P g as0 [row] (λa s=>a=r/\s=[row']) (λ_ _=>False)) (id:Nat) (b9:σ[id]?=some row) (ψ:il row) (h9:il row') (κ:∀a∈as0,fQ 1 a) (ι:fQ 1 r)
  {args:List θ} (mM:args=as0.map (ei [id])) (ζ:K (ei [id] r) (σ.set id row')):hG P (.fn (.func g) [] []) args σ K E:=by
 subst mM;have a0:=ae.rows (σ:=σ) h [id] η rfl (λj i ε=>by
  cases j with
  | zero=>simp at ε;subst ε;exact b9
  | succ j=>simp at ε) (λr ι=>by simp at ι;subst ι;exact ψ) (by simpa using κ) (K':=K) (E':=E) (λa s ⟨J,U⟩=>by
   subst J;subst U;refine⟨λx γ=>by simp at γ;subst γ;exact h9,ι,?_⟩;simpa[names,sG,je] using ζ) (λa s h=>h.elim)
 exact ae.call (first:=[]) (captured:=[]) (by simpa using a0)
end
section
variable {P:Program} {σ:List Row}
theorem ae.HO {g:FuncId} {as0:List θ} {row:Row} {K0 K E:θ->List Row->Prop} (h:ae P g as0 [row] K0 (λ_ _=>False)) (id:Nat) (b9:σ[id]?=some row) (ψ:il row) (κ:∀a∈as0,fQ 1 a)
  {args:List θ} (mM:args=as0.map (ei [id])) (ζ:∀a s,K0 a s->∃row',s=[row']/\il row'/\fQ 1 a/\K (ei [id] a) (σ.set id row')):hG P (.fn (.func g) [] []) args σ K E:=by
 subst mM;have a0:=ae.rows (σ:=σ) h [id] η rfl (λj i ε=>by
  cases j with
  | zero=>simp at ε;subst ε;exact b9
  | succ j=>simp at ε) (λr ι=>by simp at ι;subst ι;exact ψ) (by simpa using κ) (K':=K) (E':=E) (λa s aj=>by
   obtain⟨row',rfl,h9,ι,ς⟩:=ζ a s aj;refine⟨λx γ=>by simp at γ;subst γ;exact h9,ι,?_⟩;simpa[names,sG,je] using ς) (λa s h=>h.elim)
 exact ae.call (first:=[]) (captured:=[]) (by simpa using a0)
end
theorem vY {α:Type} {f:α->θ} {t k:Nat} {l:List α} (h:∀x,∀a∈(f x).cells,aG 0 a):il (.cells t k (l.map f)):=λe he a κ=>by
 obtain⟨x,_,rfl⟩:=List.mem_map.1 he;exact h x a κ
theorem eT.part {id k m:Nat} {σ:List Row} {t:TypeId} {l l2:List θ} (bS:σ[id]?=some (.cells t k (l++l2))) (hm:l.length=m) (hb:∀e∈l,∀a∈e.cells,aG 0 a):eT 0 σ (.ms id (l++l2).length 0 m) (.sl false k l):=by
 subst hm;refine .ms (Nat.zero_le _) bS rfl η rfl (λj e aQ J U=>?_) (λj e aQ J U x a cz μ Θ=>?_)
 ·have ε:=(cf.1 U).1;rw[Nat.zero_add,ev ε] at J;rw[J] at U;cases U;rfl
 ·have ε:=(cf.1 U).1;rw[Nat.zero_add,ev ε] at J;rw[J] at U;cases U;rw[μ] at Θ;cases Θ;exact .low (hb e (cE J) a (cE μ))
theorem p9 {α:Type} [Inhabited α] {d:Array α} {i:Nat} (h:i<d.size):d[i]?=some d[i]!:=by simp[h]
def aC {α:Type} (cmp:α->α->Int) (x y:α):Bool:=decide (cmp x y<0)
end Go.TL
