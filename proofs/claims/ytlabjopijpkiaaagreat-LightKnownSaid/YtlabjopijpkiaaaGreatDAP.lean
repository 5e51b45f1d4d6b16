import Derived.Test.YtlabjopijpkiaaaGreatDAN
import Derived.Test.YtlabjopijpkiaaaGreatDAO
set_option maxHeartbeats 16000000
set_option maxRecDepth 20000
set_option linter.unusedSectionVars false
set_option linter.unusedSimpArgs false
set_option linter.unusedVariables false
namespace Go.TL
open Go.Proofs
variable [bj]
theorem VC (n:Nat) (h:n<256):Ω Tryz.prog 192 [.z (.int .u64 n)] (J (Go.Sort.bitsLen n)):=by
 refine ak.body Ρ Tryz.func192 rfl rfl Tryz.ntmps192 rfl rfl η ?_;have I:¬(n:Int)>=4294967296:=γ;have R:¬(n:Int)>=65536:=γ;have ν:¬(n:Int)>=256:=γ;have Ξ:¬(4294967296:Int)<=n:=γ;have ah:¬(65536:Int)<=n:=γ;have aR:¬(256:Int)<=n:=γ;refine aT @Ξ ?_;refine ay rfl ?_;refine aT ah ?_;refine ay rfl ?_;refine aT aR ?_;refine ay rfl ?_;have hw:IntKind.u8.wrap (n:Int)=n:=by unfold IntKind.wrap;simp[IntKind.bits,IntKind.signed];omega
 refine iE hw λΔ ζ=>?_;refine⟨Nat.lt_of_lt_of_eq h (by kernel_rfl),?_⟩;apply ζ;refine Β ?_;refine W.ret ⟨_,rfl,?_,rfl⟩;refine .of (congrArg (λi=>θ.z (.int .i64 i)) ?_);apply Vr n h;decide +kernel
theorem sh (n:Nat) (h:n<256):Ω Tryz.prog 150 [.z (.int .u64 n)] (J (Go.Sort.bitsLen n)):=by
 refine ak.body Ρ Tryz.func150 rfl rfl Tryz.ntmps150 rfl rfl η ?_;refine Β ?_;refine ay rfl ?_;refine a5 λΔ ζ=>?_;refine Ω.d (VC n h) (aV ?_);apply ζ;refine Β ?_;refine W.rt ?_;exact .of rfl
theorem si (y:Int×Int):∀a∈(aC y).cells,aK 0 a:=by simp[θ.cells]
theorem xn (y:Found):∀a∈(dd y).cells,aK 0 a:=by simp[θ.cells]
theorem vr (y:Int×Int):∀a∈(cN y).cells,aK 0 a:=by simp[θ.cells]
theorem tB (y:Int):∀a∈(J y).cells,aK 0 a:=by simp[θ.cells]
theorem VD (d:Array (Int×Int)) (n lim:Nat) (Ε:d.size=n) (iG:n<=12) (ag:θ) (cmp:Int×Int->Int×Int->Int) (bu:aK 0 ag) (Υ:∀x y,eW Tryz.prog ag [aC x,aC y] (J (cmp x y))) :
  ak Tryz.prog 211 [.ms 0 n 0 n,J 0,J n,J lim,ag] [.cells 112 2 (d.toList.map aC)] (λr s=>r=.a3 []/\s=[.cells 112 2 ((Go.Sort.insertionSort (ar cmp) d 0 n).toList.map aC)]) (λ_ _=>False):=by
 refine ak.body Ρ Tryz.func211 rfl rfl Tryz.ntmps211 rfl rfl η ?_;have Γ:=et (show n<2 ^ 62 by omega);have Θ:(n:Int)<=12:=γ;refine Β ?_;refine .loop ?_;refine aT Γ ?_;refine aA (by simp;omega) ?_;refine a5 λΔ ζ=>?_;refine ak.one (MU d n 0 n Ε (Nat.zero_le _) (Nat.le_refl _) γ ag cmp bu Υ) 0 rfl (λe he a κ=>by
  obtain⟨y,Φ,rfl⟩:=List.mem_map.1 he;exact si y a κ) (λe he a κ=>by
  obtain⟨y,Φ,rfl⟩:=List.mem_map.1 he;exact si y a κ) (by simp[jL,sg,bu.kh 1]) (by simp[fB]) (by simp[jM,nO,bu.dO [0]]) ?_
 simp[dO,g5];(repeat (rw[ae];simp[]));apply ζ;exact W.ret ⟨_,rfl,rfl,rfl⟩
theorem VE (d:Array (Int×Int)) (n:Nat) (Ε:d.size=n) (iG:n<=12) (ag:θ) (cmp:Int×Int->Int×Int->Int) (bu:aK 0 ag) (Υ:∀x y,eW Tryz.prog ag [aC x,aC y] (J (cmp x y))) :
  ak Tryz.prog 173 [.ms 0 n 0 n,ag] [.cells 112 2 (d.toList.map aC)] (λr s=>r=.a3 []/\s=[.cells 112 2 ((Go.Sort.insertionSort (ar cmp) d 0 n).toList.map aC)]) (λ_ _=>False):=by
 refine ak.body Ρ Tryz.func173 rfl rfl Tryz.ntmps173 rfl rfl η ?_;have Γ:=et (show n<2 ^ 62 by omega);have Θ:IntKind.u64.wrap (n:Int)=n:=by unfold IntKind.wrap;simp[IntKind.bits,IntKind.signed];omega
 refine aT Ε ?_;(repeat apply al);refine cM λΔ ζ=>?_;simp;(repeat (rw[ae];simp[Ε,Γ,Θ]));refine Ω.d (sh n γ) (aV ?_);refine ak.one (VD d n (Go.Sort.bitsLen n) Ε iG ag cmp bu Υ) 0 rfl (λe he a κ=>by
  obtain⟨y,Φ,rfl⟩:=List.mem_map.1 he;exact si y a κ) (λe he a κ=>by
  obtain⟨y,Φ,rfl⟩:=List.mem_map.1 he;exact si y a κ) (by simp[jL,sg,bu.kh 1]) (by simp[fB]) (by simp[jM,nO,bu.dO [0]]) ?_
 simp[dO,g5];(repeat (rw[ae];simp[]));apply ζ;exact W.nil ⟨_,rfl,rfl,rfl⟩
theorem VF (d:Array (Found)) (n lim:Nat) (Ε:d.size=n) (iG:n<=12) (ag:θ) (cmp:Found->Found->Int) (bu:aK 0 ag) (Υ:∀x y,eW Tryz.prog ag [dd x,dd y] (J (cmp x y))) :
  ak Tryz.prog 182 [.ms 0 n 0 n,J 0,J n,J lim,ag] [.cells 110 3 (d.toList.map dd)] (λr s=>r=.a3 []/\s=[.cells 110 3 ((Go.Sort.insertionSort (ar cmp) d 0 n).toList.map dd)]) (λ_ _=>False):=by
 refine ak.body Ρ Tryz.func182 rfl rfl Tryz.ntmps182 rfl rfl η ?_;have Γ:=et (show n<2 ^ 62 by omega);have Θ:(n:Int)<=12:=γ;refine Β ?_;refine .loop ?_;refine aT Γ ?_;refine aA (by simp;omega) ?_;refine a5 λΔ ζ=>?_;refine ak.one (Vz d n 0 n Ε (Nat.zero_le _) (Nat.le_refl _) γ ag cmp bu Υ) 0 rfl (λe he a κ=>by
  obtain⟨y,Φ,rfl⟩:=List.mem_map.1 he;exact xn y a κ) (λe he a κ=>by
  obtain⟨y,Φ,rfl⟩:=List.mem_map.1 he;exact xn y a κ) (by simp[jL,sg,bu.kh 1]) (by simp[fB]) (by simp[jM,nO,bu.dO [0]]) ?_
 simp[dO,g5];(repeat (rw[ae];simp[]));apply ζ;exact W.ret ⟨_,rfl,rfl,rfl⟩
theorem VG (d:Array (Found)) (n:Nat) (Ε:d.size=n) (iG:n<=12) (ag:θ) (cmp:Found->Found->Int) (bu:aK 0 ag) (Υ:∀x y,eW Tryz.prog ag [dd x,dd y] (J (cmp x y))) :
  ak Tryz.prog 147 [.ms 0 n 0 n,ag] [.cells 110 3 (d.toList.map dd)] (λr s=>r=.a3 []/\s=[.cells 110 3 ((Go.Sort.insertionSort (ar cmp) d 0 n).toList.map dd)]) (λ_ _=>False):=by
 refine ak.body Ρ Tryz.func147 rfl rfl Tryz.ntmps147 rfl rfl η ?_;have Γ:=et (show n<2 ^ 62 by omega);have Θ:IntKind.u64.wrap (n:Int)=n:=by unfold IntKind.wrap;simp[IntKind.bits,IntKind.signed];omega
 refine aT Ε ?_;(repeat apply al);refine cM λΔ ζ=>?_;simp;(repeat (rw[ae];simp[Ε,Γ,Θ]));refine Ω.d (sh n γ) (aV ?_);refine ak.one (VF d n (Go.Sort.bitsLen n) Ε iG ag cmp bu Υ) 0 rfl (λe he a κ=>by
  obtain⟨y,Φ,rfl⟩:=List.mem_map.1 he;exact xn y a κ) (λe he a κ=>by
  obtain⟨y,Φ,rfl⟩:=List.mem_map.1 he;exact xn y a κ) (by simp[jL,sg,bu.kh 1]) (by simp[fB]) (by simp[jM,nO,bu.dO [0]]) ?_
 simp[dO,g5];(repeat (rw[ae];simp[]));apply ζ;exact W.nil ⟨_,rfl,rfl,rfl⟩
theorem VH (d:Array (Int×Int)) (n lim:Nat) (Ε:d.size=n) (iG:n<=12) (ag:θ) (cmp:Int×Int->Int×Int->Int) (bu:aK 0 ag) (Υ:∀x y,eW Tryz.prog ag [cN x,cN y] (J (cmp x y))) :
  ak Tryz.prog 149 [.ms 0 n 0 n,J 0,J n,J lim,ag] [.cells 29 1 (d.toList.map cN)] (λr s=>r=.a3 []/\s=[.cells 29 1 ((Go.Sort.insertionSort (ar cmp) d 0 n).toList.map cN)]) (λ_ _=>False):=by
 refine ak.body Ρ Tryz.func149 rfl rfl Tryz.ntmps149 rfl rfl η ?_;have Γ:=et (show n<2 ^ 62 by omega);have Θ:(n:Int)<=12:=γ;refine Β ?_;refine .loop ?_;refine aT Γ ?_;refine aA (by simp;omega) ?_;refine a5 λΔ ζ=>?_;refine ak.one (VA d n 0 n Ε (Nat.zero_le _) (Nat.le_refl _) γ ag cmp bu Υ) 0 rfl (λe he a κ=>by
  obtain⟨y,Φ,rfl⟩:=List.mem_map.1 he;exact vr y a κ) (λe he a κ=>by
  obtain⟨y,Φ,rfl⟩:=List.mem_map.1 he;exact vr y a κ) (by simp[jL,sg,bu.kh 1]) (by simp[fB]) (by simp[jM,nO,bu.dO [0]]) ?_
 simp[dO,g5];(repeat (rw[ae];simp[]));apply ζ;exact W.ret ⟨_,rfl,rfl,rfl⟩
theorem VI (d:Array (Int×Int)) (n:Nat) (Ε:d.size=n) (iG:n<=12) (ag:θ) (cmp:Int×Int->Int×Int->Int) (bu:aK 0 ag) (Υ:∀x y,eW Tryz.prog ag [cN x,cN y] (J (cmp x y))) :
  ak Tryz.prog 117 [.ms 0 n 0 n,ag] [.cells 29 1 (d.toList.map cN)] (λr s=>r=.a3 []/\s=[.cells 29 1 ((Go.Sort.insertionSort (ar cmp) d 0 n).toList.map cN)]) (λ_ _=>False):=by
 refine ak.body Ρ Tryz.func117 rfl rfl Tryz.ntmps117 rfl rfl η ?_;have Γ:=et (show n<2 ^ 62 by omega);have Θ:IntKind.u64.wrap (n:Int)=n:=by unfold IntKind.wrap;simp[IntKind.bits,IntKind.signed];omega
 refine aT Ε ?_;(repeat apply al);refine cM λΔ ζ=>?_;simp;(repeat (rw[ae];simp[Ε,Γ,Θ]));refine Ω.d (sh n γ) (aV ?_);refine ak.one (VH d n (Go.Sort.bitsLen n) Ε iG ag cmp bu Υ) 0 rfl (λe he a κ=>by
  obtain⟨y,Φ,rfl⟩:=List.mem_map.1 he;exact vr y a κ) (λe he a κ=>by
  obtain⟨y,Φ,rfl⟩:=List.mem_map.1 he;exact vr y a κ) (by simp[jL,sg,bu.kh 1]) (by simp[fB]) (by simp[jM,nO,bu.dO [0]]) ?_
 simp[dO,g5];(repeat (rw[ae];simp[]));apply ζ;exact W.nil ⟨_,rfl,rfl,rfl⟩
theorem VJ (d:Array (Int)) (n lim:Nat) (Ε:d.size=n) (iG:n<=12)  :
  ak Tryz.prog 157 [.ms 0 n 0 n,J 0,J n,J lim] [.cells 3 1 (d.toList.map J)] (λr s=>r=.a3 []/\s=[.cells 3 1 ((Go.Sort.insertionSort (Go.Sort.ltInt) d 0 n).toList.map J)]) (λ_ _=>False):=by
 refine ak.body Ρ Tryz.func157 rfl rfl Tryz.ntmps157 rfl rfl η ?_;have Γ:=et (show n<2 ^ 62 by omega);have Θ:(n:Int)<=12:=γ;refine Β ?_;refine .loop ?_;refine aT Γ ?_;refine aA (by simp;omega) ?_;refine a5 λΔ ζ=>?_;refine ak.one (VB d n 0 n Ε (Nat.zero_le _) (Nat.le_refl _) γ) 0 rfl (λe he a κ=>by
  obtain⟨y,Φ,rfl⟩:=List.mem_map.1 he;exact tB y a κ) (λe he a κ=>by
  obtain⟨y,Φ,rfl⟩:=List.mem_map.1 he;exact tB y a κ) (by simp[jL,sg]) (by simp[fB]) (by simp[jM,nO]) ?_
 simp[dO,g5];(repeat (rw[ae];simp[]));apply ζ;exact W.ret ⟨_,rfl,rfl,rfl⟩
theorem VK (d:Array (Int)) (n:Nat) (Ε:d.size=n) (iG:n<=12)  :
  ak Tryz.prog 132 [.ms 0 n 0 n] [.cells 3 1 (d.toList.map J)] (λr s=>r=.a3 []/\s=[.cells 3 1 ((Go.Sort.insertionSort (Go.Sort.ltInt) d 0 n).toList.map J)]) (λ_ _=>False):=by
 refine ak.body Ρ Tryz.func132 rfl rfl Tryz.ntmps132 rfl rfl η ?_;have Γ:=et (show n<2 ^ 62 by omega);have Θ:IntKind.u64.wrap (n:Int)=n:=by unfold IntKind.wrap;simp[IntKind.bits,IntKind.signed];omega
 refine aT Ε ?_;(repeat apply al);refine cM λΔ ζ=>?_;simp;(repeat (rw[ae];simp[Ε,Γ,Θ]));refine Ω.d (sh n γ) (aV ?_);refine ak.one (VJ d n (Go.Sort.bitsLen n) Ε iG) 0 rfl (λe he a κ=>by
  obtain⟨y,Φ,rfl⟩:=List.mem_map.1 he;exact tB y a κ) (λe he a κ=>by
  obtain⟨y,Φ,rfl⟩:=List.mem_map.1 he;exact tB y a κ) (by simp[jL,sg]) (by simp[fB]) (by simp[jM,nO]) ?_
 simp[dO,g5];(repeat (rw[ae];simp[]));apply ζ;exact W.nil ⟨_,rfl,rfl,rfl⟩
theorem VL (l:List Int) (ag:θ) (p:Int->Bool) (υ:l.length<2 ^ 62) (hb:aK 0 ag) (Υ:∀x∈l,eW Tryz.prog ag [J x] (bs (p x))):Ω Tryz.prog 131 [cS J 1 l,ag] (J (idxOf p l)):=by
 refine ak.body Ρ Tryz.func131 rfl rfl Tryz.ntmps131 rfl rfl η ?_;refine Β ?_;refine W.iter (λi:Nat=>i<=l.length/\∀j,j<i->(h:j<l.length)->p l[j]=false) (λi=>[(0,cS J 1 l),(1,ag),(6,cS J 1 l),(7,J l.length),(8,J i)]) (λ_=>[]) (λi=>l.length-i) 0 ⟨Nat.zero_le _,λj δ=>γ⟩ rfl η (λi hi ω=>?_);refine Β ?_;refine W.fL rfl (λε=>?_) (λε=>?_)
 ·have ε:i<l.length:=by simpa using ε
  refine aT ε ?_;refine iE ε λΔ ζ=>?_;refine(Υ _ (List.getElem_mem ε)).c ?_;simp;(repeat (rw[ae];simp[]));apply ζ;cases ς:p l[i]
  ·refine ay (by simp[ς]) ?_;refine Β ?_;refine W.forget _ ?_ (ω (i+1) ⟨γ,λj δ h=>?_⟩ γ)
   ·simp[eX ε υ]
   ·by_cases e:j=i
    ·subst e;exact ς
    ·exact hi.2 j γ h
  ·refine aA (by simp[ς]) ?_;refine Β ?_;refine W.rt ?_;exact .of (by rw[zQ ε ς hi.2];rfl)
 ·have ε:l.length<=i:=by simpa using ε
  refine W.exit rfl ?_;refine Β ?_;refine W.rt ?_;exact .of (by rw[zR λj δ=>hi.2 j γ δ];rfl)
theorem VM (l:List Int) (ag:θ) (p:Int->Bool) (υ:l.length<2 ^ 62) (hb:aK 0 ag) (Υ:∀x∈l,eW Tryz.prog ag [J x] (bs (p x))):Ω Tryz.prog 94 [cS J 1 l,ag] (bs (l.any p)):=by
 refine ak.body Ρ Tryz.func94 rfl rfl Tryz.ntmps94 rfl rfl η ?_;refine Β ?_;refine a5 λΔ ζ=>?_;refine Ω.c (VL l ag p υ hb Υ) (b9.refl _) (by simp[hb]) η ?_;simp;(repeat (rw[ae];simp[]));apply ζ;refine Β ?_;refine W.rt ?_;exact .of (by rw[<-zS (p:=p)];rfl)
theorem MV (l:List kA) (ag:θ) (p:kA->Bool) (υ:l.length<2 ^ 62) (hb:aK 0 ag) (Υ:∀x∈l,eW Tryz.prog ag [hI x] (bs (p x))):Ω Tryz.prog 100 [cS hI 2 l,ag] (J (idxOf p l)):=by
 refine ak.body Ρ Tryz.func100 rfl rfl Tryz.ntmps100 rfl rfl η ?_;refine Β ?_;refine W.iter (λi:Nat=>i<=l.length/\∀j,j<i->(h:j<l.length)->p l[j]=false) (λi=>[(0,cS hI 2 l),(1,ag),(6,cS hI 2 l),(7,J l.length),(8,J i)]) (λ_=>[]) (λi=>l.length-i) 0 ⟨Nat.zero_le _,λj δ=>γ⟩ rfl η (λi hi ω=>?_);refine Β ?_;refine W.fL rfl (λε=>?_) (λε=>?_)
 ·have ε:i<l.length:=by simpa using ε
  refine aT ε ?_;refine iE ε λΔ ζ=>?_;refine(Υ _ (List.getElem_mem ε)).c ?_;simp;(repeat (rw[ae];simp[]));apply ζ;cases ς:p l[i]
  ·refine ay (by simp[ς]) ?_;refine Β ?_;refine W.forget _ ?_ (ω (i+1) ⟨γ,λj δ h=>?_⟩ γ)
   ·simp[eX ε υ]
   ·by_cases e:j=i
    ·subst e;exact ς
    ·exact hi.2 j γ h
  ·refine aA (by simp[ς]) ?_;refine Β ?_;refine W.rt ?_;exact .of (by rw[zQ ε ς hi.2];rfl)
 ·have ε:l.length<=i:=by simpa using ε
  refine W.exit rfl ?_;refine Β ?_;refine W.rt ?_;exact .of (by rw[zR λj δ=>hi.2 j γ δ];rfl)
theorem VN (l:List kA) (ag:θ) (p:kA->Bool) (υ:l.length<2 ^ 62) (hb:aK 0 ag) (Υ:∀x∈l,eW Tryz.prog ag [hI x] (bs (p x))):Ω Tryz.prog 135 [cS hI 2 l,ag] (bs (l.any p)):=by
 refine ak.body Ρ Tryz.func135 rfl rfl Tryz.ntmps135 rfl rfl η ?_;refine Β ?_;refine a5 λΔ ζ=>?_;refine Ω.c (MV l ag p υ hb Υ) (b9.refl _) (by simp[hb]) η ?_;simp;(repeat (rw[ae];simp[]));apply ζ;refine Β ?_;refine W.rt ?_;exact .of (by rw[<-zS (p:=p)];rfl)
theorem VO (l:List cG) (ag:θ) (p:cG->Bool) (υ:l.length<2 ^ 62) (hb:aK 0 ag) (Υ:∀x∈l,eW Tryz.prog ag [cA x] (bs (p x))):Ω Tryz.prog 230 [cS cA 3 l,ag] (J (idxOf p l)):=by
 refine ak.body Ρ Tryz.func230 rfl rfl Tryz.ntmps230 rfl rfl η ?_;refine Β ?_;refine W.iter (λi:Nat=>i<=l.length/\∀j,j<i->(h:j<l.length)->p l[j]=false) (λi=>[(0,cS cA 3 l),(1,ag),(6,cS cA 3 l),(7,J l.length),(8,J i)]) (λ_=>[]) (λi=>l.length-i) 0 ⟨Nat.zero_le _,λj δ=>γ⟩ rfl η (λi hi ω=>?_);refine Β ?_;refine W.fL rfl (λε=>?_) (λε=>?_)
 ·have ε:i<l.length:=by simpa using ε
  refine aT ε ?_;refine iE ε λΔ ζ=>?_;refine(Υ _ (List.getElem_mem ε)).c ?_;simp;(repeat (rw[ae];simp[]));apply ζ;cases ς:p l[i]
  ·refine ay (by simp[ς]) ?_;refine Β ?_;refine W.forget _ ?_ (ω (i+1) ⟨γ,λj δ h=>?_⟩ γ)
   ·simp[eX ε υ]
   ·by_cases e:j=i
    ·subst e;exact ς
    ·exact hi.2 j γ h
  ·refine aA (by simp[ς]) ?_;refine Β ?_;refine W.rt ?_;exact .of (by rw[zQ ε ς hi.2];rfl)
 ·have ε:l.length<=i:=by simpa using ε
  refine W.exit rfl ?_;refine Β ?_;refine W.rt ?_;exact .of (by rw[zR λj δ=>hi.2 j γ δ];rfl)
theorem VP (l:List cG) (ag:θ) (p:cG->Bool) (υ:l.length<2 ^ 62) (hb:aK 0 ag) (Υ:∀x∈l,eW Tryz.prog ag [cA x] (bs (p x))):Ω Tryz.prog 194 [cS cA 3 l,ag] (bs (l.any p)):=by
 refine ak.body Ρ Tryz.func194 rfl rfl Tryz.ntmps194 rfl rfl η ?_;refine Β ?_;refine a5 λΔ ζ=>?_;refine Ω.c (VO l ag p υ hb Υ) (b9.refl _) (by simp[hb]) η ?_;simp;(repeat (rw[ae];simp[]));apply ζ;refine Β ?_;refine W.rt ?_;exact .of (by rw[<-zS (p:=p)];rfl)
end Go.TL
