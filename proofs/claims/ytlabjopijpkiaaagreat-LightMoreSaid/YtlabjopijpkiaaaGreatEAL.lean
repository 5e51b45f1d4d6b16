import Derived.Test.YtlabjopijpkiaaaGreatEAJ
import Derived.Test.YtlabjopijpkiaaaGreatEAK
set_option maxHeartbeats 16000000
set_option maxRecDepth 20000
set_option linter.unusedSectionVars false
set_option linter.unusedSimpArgs false
set_option linter.unusedVariables false
namespace Go.TL
open Go.Proofs
variable [bq]
theorem X3 (n:Nat) (h:n<256):aB Tryz.prog 192 [.z (.int .u64 n)] (I (Go.Sort.bitsLen n)):=by
 refine af.body Φ Tryz.func192 rfl rfl Tryz.ntmps192 rfl rfl η ?_;have U:¬(n:Int)>=4294967296:=J;have γ:¬(n:Int)>=65536:=J;have ο:¬(n:Int)>=256:=J;have aa:¬(4294967296:Int)<=n:=J;have ai:¬(65536:Int)<=n:=J;have aZ:¬(256:Int)<=n:=J;refine aE @aa ?_;refine ay rfl ?_;refine aE ai ?_;refine ay rfl ?_;refine aE aZ ?_;refine ay rfl ?_;have hw:IntKind.u8.wrap (n:Int)=n:=by unfold IntKind.wrap;simp[IntKind.bits,IntKind.signed];omega
 refine g9 hw λΚ κ=>?_;refine⟨Nat.lt_of_lt_of_eq h (by kernel_rfl),?_⟩;apply κ;refine Η ?_;refine W.ret ⟨_,rfl,?_,rfl⟩;refine .of (congrArg (λi=>θ.z (.int .i64 i)) ?_);apply XO n h;decide +kernel
theorem tG (n:Nat) (h:n<256):aB Tryz.prog 150 [.z (.int .u64 n)] (I (Go.Sort.bitsLen n)):=by
 refine af.body Φ Tryz.func150 rfl rfl Tryz.ntmps150 rfl rfl η ?_;refine Η ?_;refine ay rfl ?_;refine bc λΚ κ=>?_;refine aB.d (X3 n h) (bp ?_);apply κ;refine Η ?_;refine W.rt ?_;exact .of rfl
theorem tH (y:Int×Int):∀a∈(aK y).cells,aG 0 a:=by simp[θ.cells]
theorem yS (y:Found):∀a∈(du y).cells,aG 0 a:=by simp[θ.cells]
theorem Be (y:Int×Int):∀a∈(aL y).cells,aG 0 a:=by simp[θ.cells]
theorem vg (y:Int):∀a∈(I y).cells,aG 0 a:=by simp[θ.cells]
theorem X4 (d:Array (Int×Int)) (n lim:Nat) (Θ:d.size=n) (hf:n<=12) (Ο:θ) (cmp:Int×Int->Int×Int->Int) (a9:aG 0 Ο) (Ρ:∀x y,ef Tryz.prog Ο [aK x,aK y] (I (cmp x y))) :
  af Tryz.prog 211 [.ms 0 n 0 n,I 0,I n,I lim,Ο] [.cells 112 2 (d.toList.map aK)] (λr s=>r=.bj []/\s=[.cells 112 2 ((Go.Sort.insertionSort (Ξ cmp) d 0 n).toList.map aK)]) (λ_ _=>False):=by
 refine af.body Φ Tryz.func211 rfl rfl Tryz.ntmps211 rfl rfl η ?_;have Ζ:=eY (show n<2 ^ 62 by omega);have Ε:(n:Int)<=12:=J;refine Η ?_;refine .loop ?_;refine aE Ζ ?_;refine aC (by simp;omega) ?_;refine bc λΚ κ=>?_;refine af.one (OD d n 0 n Θ (Nat.zero_le _) (Nat.le_refl _) J Ο cmp a9 Ρ) 0 rfl (λe he a ν=>by
  obtain⟨y,Μ,rfl⟩:=List.mem_map.1 he;exact tH y a ν) (λe he a ν=>by
  obtain⟨y,Μ,rfl⟩:=List.mem_map.1 he;exact tH y a ν) (by simp[mW,xe,a9.jN 1]) (by simp[fD]) (by simp[mX,pe,a9.eg [0]]) ?_
 simp[eg,hF];(repeat (rw[ah];simp));apply κ;exact W.ret ⟨_,rfl,rfl,rfl⟩
theorem X5 (d:Array (Int×Int)) (n:Nat) (Θ:d.size=n) (hf:n<=12) (Ο:θ) (cmp:Int×Int->Int×Int->Int) (a9:aG 0 Ο) (Ρ:∀x y,ef Tryz.prog Ο [aK x,aK y] (I (cmp x y))) :
  af Tryz.prog 173 [.ms 0 n 0 n,Ο] [.cells 112 2 (d.toList.map aK)] (λr s=>r=.bj []/\s=[.cells 112 2 ((Go.Sort.insertionSort (Ξ cmp) d 0 n).toList.map aK)]) (λ_ _=>False):=by
 refine af.body Φ Tryz.func173 rfl rfl Tryz.ntmps173 rfl rfl η ?_;have Ζ:=eY (show n<2 ^ 62 by omega);have Ε:IntKind.u64.wrap (n:Int)=n:=by unfold IntKind.wrap;simp[IntKind.bits,IntKind.signed];omega
 refine aE Θ ?_;(repeat apply ae);refine dt λΚ κ=>?_;simp;(repeat (rw[ah];simp[Θ,Ζ,Ε]));refine aB.d (tG n J) (bp ?_);refine af.one (X4 d n (Go.Sort.bitsLen n) Θ hf Ο cmp a9 Ρ) 0 rfl (λe he a ν=>by
  obtain⟨y,Μ,rfl⟩:=List.mem_map.1 he;exact tH y a ν) (λe he a ν=>by
  obtain⟨y,Μ,rfl⟩:=List.mem_map.1 he;exact tH y a ν) (by simp[mW,xe,a9.jN 1]) (by simp[fD]) (by simp[mX,pe,a9.eg [0]]) ?_
 simp[eg,hF];(repeat (rw[ah];simp));apply κ;exact W.nil ⟨_,rfl,rfl,rfl⟩
theorem X6 (d:Array (Found)) (n lim:Nat) (Θ:d.size=n) (hf:n<=12) (Ο:θ) (cmp:Found->Found->Int) (a9:aG 0 Ο) (Ρ:∀x y,ef Tryz.prog Ο [du x,du y] (I (cmp x y))) :
  af Tryz.prog 182 [.ms 0 n 0 n,I 0,I n,I lim,Ο] [.cells 110 3 (d.toList.map du)] (λr s=>r=.bj []/\s=[.cells 110 3 ((Go.Sort.insertionSort (Ξ cmp) d 0 n).toList.map du)]) (λ_ _=>False):=by
 refine af.body Φ Tryz.func182 rfl rfl Tryz.ntmps182 rfl rfl η ?_;have Ζ:=eY (show n<2 ^ 62 by omega);have Ε:(n:Int)<=12:=J;refine Η ?_;refine .loop ?_;refine aE Ζ ?_;refine aC (by simp;omega) ?_;refine bc λΚ κ=>?_;refine af.one (X0 d n 0 n Θ (Nat.zero_le _) (Nat.le_refl _) J Ο cmp a9 Ρ) 0 rfl (λe he a ν=>by
  obtain⟨y,Μ,rfl⟩:=List.mem_map.1 he;exact yS y a ν) (λe he a ν=>by
  obtain⟨y,Μ,rfl⟩:=List.mem_map.1 he;exact yS y a ν) (by simp[mW,xe,a9.jN 1]) (by simp[fD]) (by simp[mX,pe,a9.eg [0]]) ?_
 simp[eg,hF];(repeat (rw[ah];simp));apply κ;exact W.ret ⟨_,rfl,rfl,rfl⟩
theorem X7 (d:Array (Found)) (n:Nat) (Θ:d.size=n) (hf:n<=12) (Ο:θ) (cmp:Found->Found->Int) (a9:aG 0 Ο) (Ρ:∀x y,ef Tryz.prog Ο [du x,du y] (I (cmp x y))) :
  af Tryz.prog 147 [.ms 0 n 0 n,Ο] [.cells 110 3 (d.toList.map du)] (λr s=>r=.bj []/\s=[.cells 110 3 ((Go.Sort.insertionSort (Ξ cmp) d 0 n).toList.map du)]) (λ_ _=>False):=by
 refine af.body Φ Tryz.func147 rfl rfl Tryz.ntmps147 rfl rfl η ?_;have Ζ:=eY (show n<2 ^ 62 by omega);have Ε:IntKind.u64.wrap (n:Int)=n:=by unfold IntKind.wrap;simp[IntKind.bits,IntKind.signed];omega
 refine aE Θ ?_;(repeat apply ae);refine dt λΚ κ=>?_;simp;(repeat (rw[ah];simp[Θ,Ζ,Ε]));refine aB.d (tG n J) (bp ?_);refine af.one (X6 d n (Go.Sort.bitsLen n) Θ hf Ο cmp a9 Ρ) 0 rfl (λe he a ν=>by
  obtain⟨y,Μ,rfl⟩:=List.mem_map.1 he;exact yS y a ν) (λe he a ν=>by
  obtain⟨y,Μ,rfl⟩:=List.mem_map.1 he;exact yS y a ν) (by simp[mW,xe,a9.jN 1]) (by simp[fD]) (by simp[mX,pe,a9.eg [0]]) ?_
 simp[eg,hF];(repeat (rw[ah];simp));apply κ;exact W.nil ⟨_,rfl,rfl,rfl⟩
theorem X8 (d:Array (Int)) (n lim:Nat) (Θ:d.size=n) (hf:n<=12)  :
  af Tryz.prog 157 [.ms 0 n 0 n,I 0,I n,I lim] [.cells 3 1 (d.toList.map I)] (λr s=>r=.bj []/\s=[.cells 3 1 ((Go.Sort.insertionSort (Go.Sort.ltInt) d 0 n).toList.map I)]) (λ_ _=>False):=by
 refine af.body Φ Tryz.func157 rfl rfl Tryz.ntmps157 rfl rfl η ?_;have Ζ:=eY (show n<2 ^ 62 by omega);have Ε:(n:Int)<=12:=J;refine Η ?_;refine .loop ?_;refine aE Ζ ?_;refine aC (by simp;omega) ?_;refine bc λΚ κ=>?_;refine af.one (X2 d n 0 n Θ (Nat.zero_le _) (Nat.le_refl _) J) 0 rfl (λe he a ν=>by
  obtain⟨y,Μ,rfl⟩:=List.mem_map.1 he;exact vg y a ν) (λe he a ν=>by
  obtain⟨y,Μ,rfl⟩:=List.mem_map.1 he;exact vg y a ν) (by simp[mW,xe]) (by simp[fD]) (by simp[mX,pe]) ?_
 simp[eg,hF];(repeat (rw[ah];simp));apply κ;exact W.ret ⟨_,rfl,rfl,rfl⟩
theorem X9 (d:Array (Int)) (n:Nat) (Θ:d.size=n) (hf:n<=12)  :
  af Tryz.prog 132 [.ms 0 n 0 n] [.cells 3 1 (d.toList.map I)] (λr s=>r=.bj []/\s=[.cells 3 1 ((Go.Sort.insertionSort (Go.Sort.ltInt) d 0 n).toList.map I)]) (λ_ _=>False):=by
 refine af.body Φ Tryz.func132 rfl rfl Tryz.ntmps132 rfl rfl η ?_;have Ζ:=eY (show n<2 ^ 62 by omega);have Ε:IntKind.u64.wrap (n:Int)=n:=by unfold IntKind.wrap;simp[IntKind.bits,IntKind.signed];omega
 refine aE Θ ?_;(repeat apply ae);refine dt λΚ κ=>?_;simp;(repeat (rw[ah];simp[Θ,Ζ,Ε]));refine aB.d (tG n J) (bp ?_);refine af.one (X8 d n (Go.Sort.bitsLen n) Θ hf) 0 rfl (λe he a ν=>by
  obtain⟨y,Μ,rfl⟩:=List.mem_map.1 he;exact vg y a ν) (λe he a ν=>by
  obtain⟨y,Μ,rfl⟩:=List.mem_map.1 he;exact vg y a ν) (by simp[mW,xe]) (by simp[fD]) (by simp[mX,pe]) ?_
 simp[eg,hF];(repeat (rw[ah];simp));apply κ;exact W.nil ⟨_,rfl,rfl,rfl⟩
theorem X' (l:List Int) (Ο:θ) (p:Int->Bool) (π:l.length<2 ^ 62) (hb:aG 0 Ο) (Ρ:∀x∈l,ef Tryz.prog Ο [I x] (ba (p x))):aB Tryz.prog 131 [bD I 1 l,Ο] (I (idxOf p l)):=by
 refine af.body Φ Tryz.func131 rfl rfl Tryz.ntmps131 rfl rfl η ?_;refine Η ?_;refine W.iter (λi:Nat=>i<=l.length/\∀j,j<i->(h:j<l.length)->p l[j]=false) (λi=>[(0,bD I 1 l),(1,Ο),(6,bD I 1 l),(7,I l.length),(8,I i)]) (λ_=>[]) (λi=>l.length-i) 0 ⟨Nat.zero_le _,λj ζ=>J⟩ rfl η (λi hi Α=>?_);refine Η ?_;refine W.ey rfl (λε=>?_) (λε=>?_)
 ·have ε:i<l.length:=by simpa using ε
  refine aE ε ?_;refine g9 ε λΚ κ=>?_;refine(Ρ _ (List.getElem_mem ε)).c ?_;simp;(repeat (rw[ah];simp));apply κ;cases ω:p l[i]
  ·refine ay (by simp[ω]) ?_;refine Η ?_;refine W.forget _ ?_ (Α (i+1) ⟨J,λj ζ h=>?_⟩ J)
   ·simp[eX ε π]
   ·by_cases e:j=i
    ·subst e;exact ω
    ·exact hi.2 j J h
  ·refine aC (by simp[ω]) ?_;refine Η ?_;refine W.rt ?_;exact .of (by rw[EY ε ω hi.2];rfl)
 ·have ε:l.length<=i:=by simpa using ε
  refine W.exit rfl ?_;refine Η ?_;refine W.rt ?_;exact .of (by rw[EZ λj ζ=>hi.2 j J ζ];rfl)
theorem Ya (l:List Int) (Ο:θ) (p:Int->Bool) (π:l.length<2 ^ 62) (hb:aG 0 Ο) (Ρ:∀x∈l,ef Tryz.prog Ο [I x] (ba (p x))):aB Tryz.prog 94 [bD I 1 l,Ο] (ba (l.any p)):=by
 refine af.body Φ Tryz.func94 rfl rfl Tryz.ntmps94 rfl rfl η ?_;refine Η ?_;refine bc λΚ κ=>?_;refine aB.c (X' l Ο p π hb Ρ) (b2.refl _) (by simp[hb]) η ?_;simp;(repeat (rw[ah];simp));apply κ;refine Η ?_;refine W.rt ?_;exact .of (by rw[<-E0 (p:=p)];rfl)
theorem Yb (l:List mU) (Ο:θ) (p:mU->Bool) (π:l.length<2 ^ 62) (hb:aG 0 Ο) (Ρ:∀x∈l,ef Tryz.prog Ο [e5 x] (ba (p x))):aB Tryz.prog 100 [bD e5 2 l,Ο] (I (idxOf p l)):=by
 refine af.body Φ Tryz.func100 rfl rfl Tryz.ntmps100 rfl rfl η ?_;refine Η ?_;refine W.iter (λi:Nat=>i<=l.length/\∀j,j<i->(h:j<l.length)->p l[j]=false) (λi=>[(0,bD e5 2 l),(1,Ο),(6,bD e5 2 l),(7,I l.length),(8,I i)]) (λ_=>[]) (λi=>l.length-i) 0 ⟨Nat.zero_le _,λj ζ=>J⟩ rfl η (λi hi Α=>?_);refine Η ?_;refine W.ey rfl (λε=>?_) (λε=>?_)
 ·have ε:i<l.length:=by simpa using ε
  refine aE ε ?_;refine g9 ε λΚ κ=>?_;refine(Ρ _ (List.getElem_mem ε)).c ?_;simp;(repeat (rw[ah];simp));apply κ;cases ω:p l[i]
  ·refine ay (by simp[ω]) ?_;refine Η ?_;refine W.forget _ ?_ (Α (i+1) ⟨J,λj ζ h=>?_⟩ J)
   ·simp[eX ε π]
   ·by_cases e:j=i
    ·subst e;exact ω
    ·exact hi.2 j J h
  ·refine aC (by simp[ω]) ?_;refine Η ?_;refine W.rt ?_;exact .of (by rw[EY ε ω hi.2];rfl)
 ·have ε:l.length<=i:=by simpa using ε
  refine W.exit rfl ?_;refine Η ?_;refine W.rt ?_;exact .of (by rw[EZ λj ζ=>hi.2 j J ζ];rfl)
theorem Yc (l:List mU) (Ο:θ) (p:mU->Bool) (π:l.length<2 ^ 62) (hb:aG 0 Ο) (Ρ:∀x∈l,ef Tryz.prog Ο [e5 x] (ba (p x))):aB Tryz.prog 135 [bD e5 2 l,Ο] (ba (l.any p)):=by
 refine af.body Φ Tryz.func135 rfl rfl Tryz.ntmps135 rfl rfl η ?_;refine Η ?_;refine bc λΚ κ=>?_;refine aB.c (Yb l Ο p π hb Ρ) (b2.refl _) (by simp[hb]) η ?_;simp;(repeat (rw[ah];simp));apply κ;refine Η ?_;refine W.rt ?_;exact .of (by rw[<-E0 (p:=p)];rfl)
theorem Yd (l:List cZ) (Ο:θ) (p:cZ->Bool) (π:l.length<2 ^ 62) (hb:aG 0 Ο) (Ρ:∀x∈l,ef Tryz.prog Ο [dX x] (ba (p x))):aB Tryz.prog 230 [bD dX 3 l,Ο] (I (idxOf p l)):=by
 refine af.body Φ Tryz.func230 rfl rfl Tryz.ntmps230 rfl rfl η ?_;refine Η ?_;refine W.iter (λi:Nat=>i<=l.length/\∀j,j<i->(h:j<l.length)->p l[j]=false) (λi=>[(0,bD dX 3 l),(1,Ο),(6,bD dX 3 l),(7,I l.length),(8,I i)]) (λ_=>[]) (λi=>l.length-i) 0 ⟨Nat.zero_le _,λj ζ=>J⟩ rfl η (λi hi Α=>?_);refine Η ?_;refine W.ey rfl (λε=>?_) (λε=>?_)
 ·have ε:i<l.length:=by simpa using ε
  refine aE ε ?_;refine g9 ε λΚ κ=>?_;refine(Ρ _ (List.getElem_mem ε)).c ?_;simp;(repeat (rw[ah];simp));apply κ;cases ω:p l[i]
  ·refine ay (by simp[ω]) ?_;refine Η ?_;refine W.forget _ ?_ (Α (i+1) ⟨J,λj ζ h=>?_⟩ J)
   ·simp[eX ε π]
   ·by_cases e:j=i
    ·subst e;exact ω
    ·exact hi.2 j J h
  ·refine aC (by simp[ω]) ?_;refine Η ?_;refine W.rt ?_;exact .of (by rw[EY ε ω hi.2];rfl)
 ·have ε:l.length<=i:=by simpa using ε
  refine W.exit rfl ?_;refine Η ?_;refine W.rt ?_;exact .of (by rw[EZ λj ζ=>hi.2 j J ζ];rfl)
theorem Ye (l:List cZ) (Ο:θ) (p:cZ->Bool) (π:l.length<2 ^ 62) (hb:aG 0 Ο) (Ρ:∀x∈l,ef Tryz.prog Ο [dX x] (ba (p x))):aB Tryz.prog 194 [bD dX 3 l,Ο] (ba (l.any p)):=by
 refine af.body Φ Tryz.func194 rfl rfl Tryz.ntmps194 rfl rfl η ?_;refine Η ?_;refine bc λΚ κ=>?_;refine aB.c (Yd l Ο p π hb Ρ) (b2.refl _) (by simp[hb]) η ?_;simp;(repeat (rw[ah];simp));apply κ;refine Η ?_;refine W.rt ?_;exact .of (by rw[<-E0 (p:=p)];rfl)
end Go.TL
