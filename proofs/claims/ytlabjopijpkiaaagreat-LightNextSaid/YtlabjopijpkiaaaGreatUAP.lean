import Derived.Test.YtlabjopijpkiaaaGreatUAN
import Derived.Test.YtlabjopijpkiaaaGreatUAO
set_option maxHeartbeats 16000000
set_option maxRecDepth 20000
set_option linter.unusedSectionVars false
set_option linter.unusedSimpArgs false
set_option linter.unusedVariables false
namespace Go.TL
open Go.Proofs
variable [bt]
theorem XV (n:Nat) (h:n<256):aD Tryz.prog 192 [.z (.int .u64 n)] (J (Go.Sort.bitsLen n)):=by
 refine ao.body Φ Tryz.func192 rfl rfl Tryz.ntmps192 rfl rfl θ ?_;have I:¬(n:Int)>=4294967296:=R;have U:¬(n:Int)>=65536:=R;have ξ:¬(n:Int)>=256:=R;have Τ:¬(4294967296:Int)<=n:=R;have af:¬(65536:Int)<=n:=R;have aZ:¬(256:Int)<=n:=R;refine aR @Τ ?_;refine aj rfl ?_;refine aR af ?_;refine aj rfl ?_;refine aR aZ ?_;refine aj rfl ?_;have hw:IntKind.u8.wrap (n:Int)=n:=by unfold IntKind.wrap;simp[IntKind.bits,IntKind.signed];omega
 refine h5 hw λΕ ζ=>?_;refine⟨Nat.lt_of_lt_of_eq h (by kernel_rfl),?_⟩;apply ζ;refine Ζ ?_;refine W.ret ⟨_,rfl,?_,rfl⟩;refine .of (congrArg (λi=>η.z (.int .i64 i)) ?_);apply XI n h;decide +kernel
theorem wx (n:Nat) (h:n<256):aD Tryz.prog 150 [.z (.int .u64 n)] (J (Go.Sort.bitsLen n)):=by
 refine ao.body Φ Tryz.func150 rfl rfl Tryz.ntmps150 rfl rfl θ ?_;refine Ζ ?_;refine aj rfl ?_;refine bN λΕ ζ=>?_;refine aD.d (XV n h) (bT ?_);apply ζ;refine Ζ ?_;refine W.rt ?_;exact .of rfl
theorem sY (y:Int×Int):∀a∈(aC y).cells,ay 0 a:=by simp[η.cells]
theorem x7 (y:Found):∀a∈(de y).cells,ay 0 a:=by simp[η.cells]
theorem uy (y:Int):∀a∈(J y).cells,ay 0 a:=by simp[η.cells]
theorem XW (d:Array (Int×Int)) (n lim:Nat) (Η:d.size=n) (kn:n<=12) (au:η) (cmp:Int×Int->Int×Int->Int) (b3:ay 0 au) (Χ:∀x y,gi Tryz.prog au [aC x,aC y] (J (cmp x y))) :
  ao Tryz.prog 211 [.ms 0 n 0 n,J 0,J n,J lim,au] [.cells 112 2 (d.toList.map aC)] (λr s=>r=.bw []/\s=[.cells 112 2 ((Go.Sort.insertionSort (az cmp) d 0 n).toList.map aC)]) (λ_ _=>False):=by
 refine ao.body Φ Tryz.func211 rfl rfl Tryz.ntmps211 rfl rfl θ ?_;have Δ:=fV (show n<2 ^ 62 by omega);have Γ:(n:Int)<=12:=R;refine Ζ ?_;refine .loop ?_;refine aR Δ ?_;refine al (by simp;omega) ?_;refine bN λΕ ζ=>?_;refine ao.one (OA d n 0 n Η (Nat.zero_le _) (Nat.le_refl _) R au cmp b3 Χ) 0 rfl (λe he a μ=>by
  obtain⟨y,Ο,rfl⟩:=List.mem_map.1 he;exact sY y a μ) (λe he a μ=>by
  obtain⟨y,Ο,rfl⟩:=List.mem_map.1 he;exact sY y a μ) (by simp[og,wu,b3.iU 1]) (by simp[gj]) (by simp[oh,oi,b3.ed [0]]) ?_
 simp[ed,h4];(repeat (rw[Υ];simp[]));apply ζ;exact W.ret ⟨_,rfl,rfl,rfl⟩
theorem XX (d:Array (Int×Int)) (n:Nat) (Η:d.size=n) (kn:n<=12) (au:η) (cmp:Int×Int->Int×Int->Int) (b3:ay 0 au) (Χ:∀x y,gi Tryz.prog au [aC x,aC y] (J (cmp x y))) :
  ao Tryz.prog 173 [.ms 0 n 0 n,au] [.cells 112 2 (d.toList.map aC)] (λr s=>r=.bw []/\s=[.cells 112 2 ((Go.Sort.insertionSort (az cmp) d 0 n).toList.map aC)]) (λ_ _=>False):=by
 refine ao.body Φ Tryz.func173 rfl rfl Tryz.ntmps173 rfl rfl θ ?_;have Δ:=fV (show n<2 ^ 62 by omega);have Γ:IntKind.u64.wrap (n:Int)=n:=by unfold IntKind.wrap;simp[IntKind.bits,IntKind.signed];omega
 refine aR Η ?_;(repeat apply ar);refine bC λΕ ζ=>?_;simp;(repeat (rw[Υ];simp[Η,Δ,Γ]));refine aD.d (wx n R) (bT ?_);refine ao.one (XW d n (Go.Sort.bitsLen n) Η kn au cmp b3 Χ) 0 rfl (λe he a μ=>by
  obtain⟨y,Ο,rfl⟩:=List.mem_map.1 he;exact sY y a μ) (λe he a μ=>by
  obtain⟨y,Ο,rfl⟩:=List.mem_map.1 he;exact sY y a μ) (by simp[og,wu,b3.iU 1]) (by simp[gj]) (by simp[oh,oi,b3.ed [0]]) ?_
 simp[ed,h4];(repeat (rw[Υ];simp[]));apply ζ;exact W.nil ⟨_,rfl,rfl,rfl⟩
theorem XY (d:Array (Found)) (n lim:Nat) (Η:d.size=n) (kn:n<=12) (au:η) (cmp:Found->Found->Int) (b3:ay 0 au) (Χ:∀x y,gi Tryz.prog au [de x,de y] (J (cmp x y))) :
  ao Tryz.prog 182 [.ms 0 n 0 n,J 0,J n,J lim,au] [.cells 110 3 (d.toList.map de)] (λr s=>r=.bw []/\s=[.cells 110 3 ((Go.Sort.insertionSort (az cmp) d 0 n).toList.map de)]) (λ_ _=>False):=by
 refine ao.body Φ Tryz.func182 rfl rfl Tryz.ntmps182 rfl rfl θ ?_;have Δ:=fV (show n<2 ^ 62 by omega);have Γ:(n:Int)<=12:=R;refine Ζ ?_;refine .loop ?_;refine aR Δ ?_;refine al (by simp;omega) ?_;refine bN λΕ ζ=>?_;refine ao.one (XT d n 0 n Η (Nat.zero_le _) (Nat.le_refl _) R au cmp b3 Χ) 0 rfl (λe he a μ=>by
  obtain⟨y,Ο,rfl⟩:=List.mem_map.1 he;exact x7 y a μ) (λe he a μ=>by
  obtain⟨y,Ο,rfl⟩:=List.mem_map.1 he;exact x7 y a μ) (by simp[og,wu,b3.iU 1]) (by simp[gj]) (by simp[oh,oi,b3.ed [0]]) ?_
 simp[ed,h4];(repeat (rw[Υ];simp[]));apply ζ;exact W.ret ⟨_,rfl,rfl,rfl⟩
theorem XZ (d:Array (Found)) (n:Nat) (Η:d.size=n) (kn:n<=12) (au:η) (cmp:Found->Found->Int) (b3:ay 0 au) (Χ:∀x y,gi Tryz.prog au [de x,de y] (J (cmp x y))) :
  ao Tryz.prog 147 [.ms 0 n 0 n,au] [.cells 110 3 (d.toList.map de)] (λr s=>r=.bw []/\s=[.cells 110 3 ((Go.Sort.insertionSort (az cmp) d 0 n).toList.map de)]) (λ_ _=>False):=by
 refine ao.body Φ Tryz.func147 rfl rfl Tryz.ntmps147 rfl rfl θ ?_;have Δ:=fV (show n<2 ^ 62 by omega);have Γ:IntKind.u64.wrap (n:Int)=n:=by unfold IntKind.wrap;simp[IntKind.bits,IntKind.signed];omega
 refine aR Η ?_;(repeat apply ar);refine bC λΕ ζ=>?_;simp;(repeat (rw[Υ];simp[Η,Δ,Γ]));refine aD.d (wx n R) (bT ?_);refine ao.one (XY d n (Go.Sort.bitsLen n) Η kn au cmp b3 Χ) 0 rfl (λe he a μ=>by
  obtain⟨y,Ο,rfl⟩:=List.mem_map.1 he;exact x7 y a μ) (λe he a μ=>by
  obtain⟨y,Ο,rfl⟩:=List.mem_map.1 he;exact x7 y a μ) (by simp[og,wu,b3.iU 1]) (by simp[gj]) (by simp[oh,oi,b3.ed [0]]) ?_
 simp[ed,h4];(repeat (rw[Υ];simp[]));apply ζ;exact W.nil ⟨_,rfl,rfl,rfl⟩
theorem X0 (d:Array (Int)) (n lim:Nat) (Η:d.size=n) (kn:n<=12)  :
  ao Tryz.prog 157 [.ms 0 n 0 n,J 0,J n,J lim] [.cells 3 1 (d.toList.map J)] (λr s=>r=.bw []/\s=[.cells 3 1 ((Go.Sort.insertionSort (Go.Sort.ltInt) d 0 n).toList.map J)]) (λ_ _=>False):=by
 refine ao.body Φ Tryz.func157 rfl rfl Tryz.ntmps157 rfl rfl θ ?_;have Δ:=fV (show n<2 ^ 62 by omega);have Γ:(n:Int)<=12:=R;refine Ζ ?_;refine .loop ?_;refine aR Δ ?_;refine al (by simp;omega) ?_;refine bN λΕ ζ=>?_;refine ao.one (XU d n 0 n Η (Nat.zero_le _) (Nat.le_refl _) R) 0 rfl (λe he a μ=>by
  obtain⟨y,Ο,rfl⟩:=List.mem_map.1 he;exact uy y a μ) (λe he a μ=>by
  obtain⟨y,Ο,rfl⟩:=List.mem_map.1 he;exact uy y a μ) (by simp[og,wu]) (by simp[gj]) (by simp[oh,oi]) ?_
 simp[ed,h4];(repeat (rw[Υ];simp[]));apply ζ;exact W.ret ⟨_,rfl,rfl,rfl⟩
theorem X1 (d:Array (Int)) (n:Nat) (Η:d.size=n) (kn:n<=12)  :
  ao Tryz.prog 132 [.ms 0 n 0 n] [.cells 3 1 (d.toList.map J)] (λr s=>r=.bw []/\s=[.cells 3 1 ((Go.Sort.insertionSort (Go.Sort.ltInt) d 0 n).toList.map J)]) (λ_ _=>False):=by
 refine ao.body Φ Tryz.func132 rfl rfl Tryz.ntmps132 rfl rfl θ ?_;have Δ:=fV (show n<2 ^ 62 by omega);have Γ:IntKind.u64.wrap (n:Int)=n:=by unfold IntKind.wrap;simp[IntKind.bits,IntKind.signed];omega
 refine aR Η ?_;(repeat apply ar);refine bC λΕ ζ=>?_;simp;(repeat (rw[Υ];simp[Η,Δ,Γ]));refine aD.d (wx n R) (bT ?_);refine ao.one (X0 d n (Go.Sort.bitsLen n) Η kn) 0 rfl (λe he a μ=>by
  obtain⟨y,Ο,rfl⟩:=List.mem_map.1 he;exact uy y a μ) (λe he a μ=>by
  obtain⟨y,Ο,rfl⟩:=List.mem_map.1 he;exact uy y a μ) (by simp[og,wu]) (by simp[gj]) (by simp[oh,oi]) ?_
 simp[ed,h4];(repeat (rw[Υ];simp[]));apply ζ;exact W.nil ⟨_,rfl,rfl,rfl⟩
theorem X2 (l:List Int) (au:η) (p:Int->Bool) (υ:l.length<2 ^ 62) (hb:ay 0 au) (Χ:∀x∈l,gi Tryz.prog au [J x] (bm (p x))):aD Tryz.prog 131 [a2 J 1 l,au] (J (idxOf p l)):=by
 refine ao.body Φ Tryz.func131 rfl rfl Tryz.ntmps131 rfl rfl θ ?_;refine Ζ ?_;refine W.iter (λi:Nat=>i<=l.length/\∀j,j<i->(h:j<l.length)->p l[j]=false) (λi=>[(0,a2 J 1 l),(1,au),(6,a2 J 1 l),(7,J l.length),(8,J i)]) (λ_=>[]) (λi=>l.length-i) 0 ⟨Nat.zero_le _,λj δ=>R⟩ rfl θ (λi hi Β=>?_);refine Ζ ?_;refine W.eM rfl (λε=>?_) (λε=>?_)
 ·have ε:i<l.length:=by simpa using ε
  refine aR ε ?_;refine h5 ε λΕ ζ=>?_;refine(Χ _ (List.getElem_mem ε)).c ?_;simp;(repeat (rw[Υ];simp[]));apply ζ;cases ψ:p l[i]
  ·refine aj (by simp[ψ]) ?_;refine Ζ ?_;refine W.forget _ ?_ (Β (i+1) ⟨R,λj δ h=>?_⟩ R)
   ·simp[fz ε υ]
   ·by_cases e:j=i
    ·subst e;exact ψ
    ·exact hi.2 j R h
  ·refine al (by simp[ψ]) ?_;refine Ζ ?_;refine W.rt ?_;exact .of (by rw[Ex ε ψ hi.2];rfl)
 ·have ε:l.length<=i:=by simpa using ε
  refine W.exit rfl ?_;refine Ζ ?_;refine W.rt ?_;exact .of (by rw[Ey λj δ=>hi.2 j R δ];rfl)
theorem X3 (l:List Int) (au:η) (p:Int->Bool) (υ:l.length<2 ^ 62) (hb:ay 0 au) (Χ:∀x∈l,gi Tryz.prog au [J x] (bm (p x))):aD Tryz.prog 94 [a2 J 1 l,au] (bm (l.any p)):=by
 refine ao.body Φ Tryz.func94 rfl rfl Tryz.ntmps94 rfl rfl θ ?_;refine Ζ ?_;refine bN λΕ ζ=>?_;refine aD.c (X2 l au p υ hb Χ) (bS.refl _) (by simp[hb]) θ ?_;simp;(repeat (rw[Υ];simp[]));apply ζ;refine Ζ ?_;refine W.rt ?_;exact .of (by rw[<-Ez (p:=p)];rfl)
theorem X4 (l:List l6) (au:η) (p:l6->Bool) (υ:l.length<2 ^ 62) (hb:ay 0 au) (Χ:∀x∈l,gi Tryz.prog au [eN x] (bm (p x))):aD Tryz.prog 100 [a2 eN 2 l,au] (J (idxOf p l)):=by
 refine ao.body Φ Tryz.func100 rfl rfl Tryz.ntmps100 rfl rfl θ ?_;refine Ζ ?_;refine W.iter (λi:Nat=>i<=l.length/\∀j,j<i->(h:j<l.length)->p l[j]=false) (λi=>[(0,a2 eN 2 l),(1,au),(6,a2 eN 2 l),(7,J l.length),(8,J i)]) (λ_=>[]) (λi=>l.length-i) 0 ⟨Nat.zero_le _,λj δ=>R⟩ rfl θ (λi hi Β=>?_);refine Ζ ?_;refine W.eM rfl (λε=>?_) (λε=>?_)
 ·have ε:i<l.length:=by simpa using ε
  refine aR ε ?_;refine h5 ε λΕ ζ=>?_;refine(Χ _ (List.getElem_mem ε)).c ?_;simp;(repeat (rw[Υ];simp[]));apply ζ;cases ψ:p l[i]
  ·refine aj (by simp[ψ]) ?_;refine Ζ ?_;refine W.forget _ ?_ (Β (i+1) ⟨R,λj δ h=>?_⟩ R)
   ·simp[fz ε υ]
   ·by_cases e:j=i
    ·subst e;exact ψ
    ·exact hi.2 j R h
  ·refine al (by simp[ψ]) ?_;refine Ζ ?_;refine W.rt ?_;exact .of (by rw[Ex ε ψ hi.2];rfl)
 ·have ε:l.length<=i:=by simpa using ε
  refine W.exit rfl ?_;refine Ζ ?_;refine W.rt ?_;exact .of (by rw[Ey λj δ=>hi.2 j R δ];rfl)
theorem X5 (l:List l6) (au:η) (p:l6->Bool) (υ:l.length<2 ^ 62) (hb:ay 0 au) (Χ:∀x∈l,gi Tryz.prog au [eN x] (bm (p x))):aD Tryz.prog 135 [a2 eN 2 l,au] (bm (l.any p)):=by
 refine ao.body Φ Tryz.func135 rfl rfl Tryz.ntmps135 rfl rfl θ ?_;refine Ζ ?_;refine bN λΕ ζ=>?_;refine aD.c (X4 l au p υ hb Χ) (bS.refl _) (by simp[hb]) θ ?_;simp;(repeat (rw[Υ];simp[]));apply ζ;refine Ζ ?_;refine W.rt ?_;exact .of (by rw[<-Ez (p:=p)];rfl)
theorem X6 (l:List eR) (au:η) (p:eR->Bool) (υ:l.length<2 ^ 62) (hb:ay 0 au) (Χ:∀x∈l,gi Tryz.prog au [eO x] (bm (p x))):aD Tryz.prog 230 [a2 eO 3 l,au] (J (idxOf p l)):=by
 refine ao.body Φ Tryz.func230 rfl rfl Tryz.ntmps230 rfl rfl θ ?_;refine Ζ ?_;refine W.iter (λi:Nat=>i<=l.length/\∀j,j<i->(h:j<l.length)->p l[j]=false) (λi=>[(0,a2 eO 3 l),(1,au),(6,a2 eO 3 l),(7,J l.length),(8,J i)]) (λ_=>[]) (λi=>l.length-i) 0 ⟨Nat.zero_le _,λj δ=>R⟩ rfl θ (λi hi Β=>?_);refine Ζ ?_;refine W.eM rfl (λε=>?_) (λε=>?_)
 ·have ε:i<l.length:=by simpa using ε
  refine aR ε ?_;refine h5 ε λΕ ζ=>?_;refine(Χ _ (List.getElem_mem ε)).c ?_;simp;(repeat (rw[Υ];simp[]));apply ζ;cases ψ:p l[i]
  ·refine aj (by simp[ψ]) ?_;refine Ζ ?_;refine W.forget _ ?_ (Β (i+1) ⟨R,λj δ h=>?_⟩ R)
   ·simp[fz ε υ]
   ·by_cases e:j=i
    ·subst e;exact ψ
    ·exact hi.2 j R h
  ·refine al (by simp[ψ]) ?_;refine Ζ ?_;refine W.rt ?_;exact .of (by rw[Ex ε ψ hi.2];rfl)
 ·have ε:l.length<=i:=by simpa using ε
  refine W.exit rfl ?_;refine Ζ ?_;refine W.rt ?_;exact .of (by rw[Ey λj δ=>hi.2 j R δ];rfl)
theorem X7 (l:List eR) (au:η) (p:eR->Bool) (υ:l.length<2 ^ 62) (hb:ay 0 au) (Χ:∀x∈l,gi Tryz.prog au [eO x] (bm (p x))):aD Tryz.prog 194 [a2 eO 3 l,au] (bm (l.any p)):=by
 refine ao.body Φ Tryz.func194 rfl rfl Tryz.ntmps194 rfl rfl θ ?_;refine Ζ ?_;refine bN λΕ ζ=>?_;refine aD.c (X6 l au p υ hb Χ) (bS.refl _) (by simp[hb]) θ ?_;simp;(repeat (rw[Υ];simp[]));apply ζ;refine Ζ ?_;refine W.rt ?_;exact .of (by rw[<-Ez (p:=p)];rfl)
end Go.TL
