import Derived.Test.YtlabjopijpkiaaaGreatCAN
import Derived.Test.YtlabjopijpkiaaaGreatCAO
set_option maxHeartbeats 16000000
set_option maxRecDepth 20000
set_option linter.unusedSectionVars false
set_option linter.unusedSimpArgs false
set_option linter.unusedVariables false
namespace Go.TL
open Go.Proofs
variable [bp]
theorem WO (n:Nat) (h:n<256):az Tryz.prog 192 [.z (.int .u64 n)] (I (Go.Sort.bitsLen n)):=by
 refine ab.body Υ Tryz.func192 rfl rfl Tryz.ntmps192 rfl rfl ζ ?_;have J:¬(n:Int)>=4294967296:=R;have U:¬(n:Int)>=65536:=R;have μ:¬(n:Int)>=256:=R;have Ρ:¬(4294967296:Int)<=n:=R;have aa:¬(65536:Int)<=n:=R;have aX:¬(256:Int)<=n:=R;refine aE @Ρ ?_;refine aA rfl ?_;refine aE aa ?_;refine aA rfl ?_;refine aE aX ?_;refine aA rfl ?_;have hw:IntKind.u8.wrap (n:Int)=n:=by unfold IntKind.wrap;simp[IntKind.bits,IntKind.signed];omega
 refine hz hw λΘ θ=>?_;refine⟨Nat.lt_of_lt_of_eq h (by kernel_rfl),?_⟩;apply θ;refine Η ?_;refine W.ret ⟨_,rfl,?_,rfl⟩;refine .of (congrArg (λi=>η.z (.int .i64 i)) ?_);apply WA n h;decide +kernel
theorem uY (n:Nat) (h:n<256):az Tryz.prog 150 [.z (.int .u64 n)] (I (Go.Sort.bitsLen n)):=by
 refine ab.body Υ Tryz.func150 rfl rfl Tryz.ntmps150 rfl rfl ζ ?_;refine Η ?_;refine aA rfl ?_;refine bh λΘ θ=>?_;refine az.d (WO n h) (bD ?_);apply θ;refine Η ?_;refine W.rt ?_;exact .of rfl
theorem tj (y:Int×Int):∀a∈(aG y).cells,aJ 0 a:=by simp[η.cells]
theorem yr (y:Found):∀a∈(dg y).cells,aJ 0 a:=by simp[η.cells]
theorem rQ (y:Int):∀a∈(I y).cells,aJ 0 a:=by simp[η.cells]
theorem WQ (d:Array (Int×Int)) (n lim:Nat) (Ζ:d.size=n) (gU:n<=12) (ay:η) (cmp:Int×Int->Int×Int->Int) (b8:aJ 0 ay) (Τ:∀x y,gi Tryz.prog ay [aG x,aG y] (I (cmp x y))) :
  ab Tryz.prog 211 [.ms 0 n 0 n,I 0,I n,I lim,ay] [.cells 112 2 (d.toList.map aG)] (λr s=>r=.bq []/\s=[.cells 112 2 ((Go.Sort.insertionSort (aB cmp) d 0 n).toList.map aG)]) (λ_ _=>False):=by
 refine ab.body Υ Tryz.func211 rfl rfl Tryz.ntmps211 rfl rfl ζ ?_;have Γ:=gq (show n<2 ^ 62 by omega);have Δ:(n:Int)<=12:=R;refine Η ?_;refine .loop ?_;refine aE Γ ?_;refine aD (by simp;omega) ?_;refine bh λΘ θ=>?_;refine ab.one (NI d n 0 n Ζ (Nat.zero_le _) (Nat.le_refl _) R ay cmp b8 Τ) 0 rfl (λe he a κ=>by
  obtain⟨y,Κ,rfl⟩:=List.mem_map.1 he;exact tj y a κ) (λe he a κ=>by
  obtain⟨y,Κ,rfl⟩:=List.mem_map.1 he;exact tj y a κ) (by simp[oH,wI,b8.iM 1]) (by simp[fR]) (by simp[oI,nX,b8.ed [0]]) ?_
 simp[ed,hS];(repeat (rw[al];simp[]));apply θ;exact W.ret ⟨_,rfl,rfl,rfl⟩
theorem WR (d:Array (Int×Int)) (n:Nat) (Ζ:d.size=n) (gU:n<=12) (ay:η) (cmp:Int×Int->Int×Int->Int) (b8:aJ 0 ay) (Τ:∀x y,gi Tryz.prog ay [aG x,aG y] (I (cmp x y))) :
  ab Tryz.prog 173 [.ms 0 n 0 n,ay] [.cells 112 2 (d.toList.map aG)] (λr s=>r=.bq []/\s=[.cells 112 2 ((Go.Sort.insertionSort (aB cmp) d 0 n).toList.map aG)]) (λ_ _=>False):=by
 refine ab.body Υ Tryz.func173 rfl rfl Tryz.ntmps173 rfl rfl ζ ?_;have Γ:=gq (show n<2 ^ 62 by omega);have Δ:IntKind.u64.wrap (n:Int)=n:=by unfold IntKind.wrap;simp[IntKind.bits,IntKind.signed];omega
 refine aE Ζ ?_;(repeat apply Ω);refine dx λΘ θ=>?_;simp;(repeat (rw[al];simp[Ζ,Γ,Δ]));refine az.d (uY n R) (bD ?_);refine ab.one (WQ d n (Go.Sort.bitsLen n) Ζ gU ay cmp b8 Τ) 0 rfl (λe he a κ=>by
  obtain⟨y,Κ,rfl⟩:=List.mem_map.1 he;exact tj y a κ) (λe he a κ=>by
  obtain⟨y,Κ,rfl⟩:=List.mem_map.1 he;exact tj y a κ) (by simp[oH,wI,b8.iM 1]) (by simp[fR]) (by simp[oI,nX,b8.ed [0]]) ?_
 simp[ed,hS];(repeat (rw[al];simp[]));apply θ;exact W.nil ⟨_,rfl,rfl,rfl⟩
theorem WS (d:Array (Found)) (n lim:Nat) (Ζ:d.size=n) (gU:n<=12) (ay:η) (cmp:Found->Found->Int) (b8:aJ 0 ay) (Τ:∀x y,gi Tryz.prog ay [dg x,dg y] (I (cmp x y))) :
  ab Tryz.prog 182 [.ms 0 n 0 n,I 0,I n,I lim,ay] [.cells 110 3 (d.toList.map dg)] (λr s=>r=.bq []/\s=[.cells 110 3 ((Go.Sort.insertionSort (aB cmp) d 0 n).toList.map dg)]) (λ_ _=>False):=by
 refine ab.body Υ Tryz.func182 rfl rfl Tryz.ntmps182 rfl rfl ζ ?_;have Γ:=gq (show n<2 ^ 62 by omega);have Δ:(n:Int)<=12:=R;refine Η ?_;refine .loop ?_;refine aE Γ ?_;refine aD (by simp;omega) ?_;refine bh λΘ θ=>?_;refine ab.one (WN d n 0 n Ζ (Nat.zero_le _) (Nat.le_refl _) R ay cmp b8 Τ) 0 rfl (λe he a κ=>by
  obtain⟨y,Κ,rfl⟩:=List.mem_map.1 he;exact yr y a κ) (λe he a κ=>by
  obtain⟨y,Κ,rfl⟩:=List.mem_map.1 he;exact yr y a κ) (by simp[oH,wI,b8.iM 1]) (by simp[fR]) (by simp[oI,nX,b8.ed [0]]) ?_
 simp[ed,hS];(repeat (rw[al];simp[]));apply θ;exact W.ret ⟨_,rfl,rfl,rfl⟩
theorem WT (d:Array (Found)) (n:Nat) (Ζ:d.size=n) (gU:n<=12) (ay:η) (cmp:Found->Found->Int) (b8:aJ 0 ay) (Τ:∀x y,gi Tryz.prog ay [dg x,dg y] (I (cmp x y))) :
  ab Tryz.prog 147 [.ms 0 n 0 n,ay] [.cells 110 3 (d.toList.map dg)] (λr s=>r=.bq []/\s=[.cells 110 3 ((Go.Sort.insertionSort (aB cmp) d 0 n).toList.map dg)]) (λ_ _=>False):=by
 refine ab.body Υ Tryz.func147 rfl rfl Tryz.ntmps147 rfl rfl ζ ?_;have Γ:=gq (show n<2 ^ 62 by omega);have Δ:IntKind.u64.wrap (n:Int)=n:=by unfold IntKind.wrap;simp[IntKind.bits,IntKind.signed];omega
 refine aE Ζ ?_;(repeat apply Ω);refine dx λΘ θ=>?_;simp;(repeat (rw[al];simp[Ζ,Γ,Δ]));refine az.d (uY n R) (bD ?_);refine ab.one (WS d n (Go.Sort.bitsLen n) Ζ gU ay cmp b8 Τ) 0 rfl (λe he a κ=>by
  obtain⟨y,Κ,rfl⟩:=List.mem_map.1 he;exact yr y a κ) (λe he a κ=>by
  obtain⟨y,Κ,rfl⟩:=List.mem_map.1 he;exact yr y a κ) (by simp[oH,wI,b8.iM 1]) (by simp[fR]) (by simp[oI,nX,b8.ed [0]]) ?_
 simp[ed,hS];(repeat (rw[al];simp[]));apply θ;exact W.nil ⟨_,rfl,rfl,rfl⟩
theorem WU (d:Array (Int)) (n lim:Nat) (Ζ:d.size=n) (gU:n<=12)  :
  ab Tryz.prog 157 [.ms 0 n 0 n,I 0,I n,I lim] [.cells 3 1 (d.toList.map I)] (λr s=>r=.bq []/\s=[.cells 3 1 ((Go.Sort.insertionSort (Go.Sort.ltInt) d 0 n).toList.map I)]) (λ_ _=>False):=by
 refine ab.body Υ Tryz.func157 rfl rfl Tryz.ntmps157 rfl rfl ζ ?_;have Γ:=gq (show n<2 ^ 62 by omega);have Δ:(n:Int)<=12:=R;refine Η ?_;refine .loop ?_;refine aE Γ ?_;refine aD (by simp;omega) ?_;refine bh λΘ θ=>?_;refine ab.one (NJ d n 0 n Ζ (Nat.zero_le _) (Nat.le_refl _) R) 0 rfl (λe he a κ=>by
  obtain⟨y,Κ,rfl⟩:=List.mem_map.1 he;exact rQ y a κ) (λe he a κ=>by
  obtain⟨y,Κ,rfl⟩:=List.mem_map.1 he;exact rQ y a κ) (by simp[oH,wI]) (by simp[fR]) (by simp[oI,nX]) ?_
 simp[ed,hS];(repeat (rw[al];simp[]));apply θ;exact W.ret ⟨_,rfl,rfl,rfl⟩
theorem WV (d:Array (Int)) (n:Nat) (Ζ:d.size=n) (gU:n<=12)  :
  ab Tryz.prog 132 [.ms 0 n 0 n] [.cells 3 1 (d.toList.map I)] (λr s=>r=.bq []/\s=[.cells 3 1 ((Go.Sort.insertionSort (Go.Sort.ltInt) d 0 n).toList.map I)]) (λ_ _=>False):=by
 refine ab.body Υ Tryz.func132 rfl rfl Tryz.ntmps132 rfl rfl ζ ?_;have Γ:=gq (show n<2 ^ 62 by omega);have Δ:IntKind.u64.wrap (n:Int)=n:=by unfold IntKind.wrap;simp[IntKind.bits,IntKind.signed];omega
 refine aE Ζ ?_;(repeat apply Ω);refine dx λΘ θ=>?_;simp;(repeat (rw[al];simp[Ζ,Γ,Δ]));refine az.d (uY n R) (bD ?_);refine ab.one (WU d n (Go.Sort.bitsLen n) Ζ gU) 0 rfl (λe he a κ=>by
  obtain⟨y,Κ,rfl⟩:=List.mem_map.1 he;exact rQ y a κ) (λe he a κ=>by
  obtain⟨y,Κ,rfl⟩:=List.mem_map.1 he;exact rQ y a κ) (by simp[oH,wI]) (by simp[fR]) (by simp[oI,nX]) ?_
 simp[ed,hS];(repeat (rw[al];simp[]));apply θ;exact W.nil ⟨_,rfl,rfl,rfl⟩
theorem WW (l:List Int) (ay:η) (p:Int->Bool) (ξ:l.length<2 ^ 62) (hb:aJ 0 ay) (Τ:∀x∈l,gi Tryz.prog ay [I x] (a' (p x))):az Tryz.prog 131 [bt I 1 l,ay] (I (idxOf p l)):=by
 refine ab.body Υ Tryz.func131 rfl rfl Tryz.ntmps131 rfl rfl ζ ?_;refine Η ?_;refine W.iter (λi:Nat=>i<=l.length/\∀j,j<i->(h:j<l.length)->p l[j]=false) (λi=>[(0,bt I 1 l),(1,ay),(6,bt I 1 l),(7,I l.length),(8,I i)]) (λ_=>[]) (λi=>l.length-i) 0 ⟨Nat.zero_le _,λj δ=>R⟩ rfl ζ (λi hi ω=>?_);refine Η ?_;refine W.eS rfl (λε=>?_) (λε=>?_)
 ·have ε:i<l.length:=by simpa using ε
  refine aE ε ?_;refine hz ε λΘ θ=>?_;refine(Τ _ (List.getElem_mem ε)).c ?_;simp;(repeat (rw[al];simp[]));apply θ;cases π:p l[i]
  ·refine aA (by simp[π]) ?_;refine Η ?_;refine W.forget _ ?_ (ω (i+1) ⟨R,λj δ h=>?_⟩ R)
   ·simp[fl ε ξ]
   ·by_cases e:j=i
    ·subst e;exact π
    ·exact hi.2 j R h
  ·refine aD (by simp[π]) ?_;refine Η ?_;refine W.rt ?_;exact .of (by rw[Eu ε π hi.2];rfl)
 ·have ε:l.length<=i:=by simpa using ε
  refine W.exit rfl ?_;refine Η ?_;refine W.rt ?_;exact .of (by rw[Ev λj δ=>hi.2 j R δ];rfl)
theorem WX (l:List Int) (ay:η) (p:Int->Bool) (ξ:l.length<2 ^ 62) (hb:aJ 0 ay) (Τ:∀x∈l,gi Tryz.prog ay [I x] (a' (p x))):az Tryz.prog 94 [bt I 1 l,ay] (a' (l.any p)):=by
 refine ab.body Υ Tryz.func94 rfl rfl Tryz.ntmps94 rfl rfl ζ ?_;refine Η ?_;refine bh λΘ θ=>?_;refine az.c (WW l ay p ξ hb Τ) (bI.refl _) (by simp[hb]) ζ ?_;simp;(repeat (rw[al];simp[]));apply θ;refine Η ?_;refine W.rt ?_;exact .of (by rw[<-Ew (p:=p)];rfl)
theorem WY (l:List mm) (ay:η) (p:mm->Bool) (ξ:l.length<2 ^ 62) (hb:aJ 0 ay) (Τ:∀x∈l,gi Tryz.prog ay [eU x] (a' (p x))):az Tryz.prog 100 [bt eU 2 l,ay] (I (idxOf p l)):=by
 refine ab.body Υ Tryz.func100 rfl rfl Tryz.ntmps100 rfl rfl ζ ?_;refine Η ?_;refine W.iter (λi:Nat=>i<=l.length/\∀j,j<i->(h:j<l.length)->p l[j]=false) (λi=>[(0,bt eU 2 l),(1,ay),(6,bt eU 2 l),(7,I l.length),(8,I i)]) (λ_=>[]) (λi=>l.length-i) 0 ⟨Nat.zero_le _,λj δ=>R⟩ rfl ζ (λi hi ω=>?_);refine Η ?_;refine W.eS rfl (λε=>?_) (λε=>?_)
 ·have ε:i<l.length:=by simpa using ε
  refine aE ε ?_;refine hz ε λΘ θ=>?_;refine(Τ _ (List.getElem_mem ε)).c ?_;simp;(repeat (rw[al];simp[]));apply θ;cases π:p l[i]
  ·refine aA (by simp[π]) ?_;refine Η ?_;refine W.forget _ ?_ (ω (i+1) ⟨R,λj δ h=>?_⟩ R)
   ·simp[fl ε ξ]
   ·by_cases e:j=i
    ·subst e;exact π
    ·exact hi.2 j R h
  ·refine aD (by simp[π]) ?_;refine Η ?_;refine W.rt ?_;exact .of (by rw[Eu ε π hi.2];rfl)
 ·have ε:l.length<=i:=by simpa using ε
  refine W.exit rfl ?_;refine Η ?_;refine W.rt ?_;exact .of (by rw[Ev λj δ=>hi.2 j R δ];rfl)
theorem WZ (l:List mm) (ay:η) (p:mm->Bool) (ξ:l.length<2 ^ 62) (hb:aJ 0 ay) (Τ:∀x∈l,gi Tryz.prog ay [eU x] (a' (p x))):az Tryz.prog 135 [bt eU 2 l,ay] (a' (l.any p)):=by
 refine ab.body Υ Tryz.func135 rfl rfl Tryz.ntmps135 rfl rfl ζ ?_;refine Η ?_;refine bh λΘ θ=>?_;refine az.c (WY l ay p ξ hb Τ) (bI.refl _) (by simp[hb]) ζ ?_;simp;(repeat (rw[al];simp[]));apply θ;refine Η ?_;refine W.rt ?_;exact .of (by rw[<-Ew (p:=p)];rfl)
theorem W0 (l:List c8) (ay:η) (p:c8->Bool) (ξ:l.length<2 ^ 62) (hb:aJ 0 ay) (Τ:∀x∈l,gi Tryz.prog ay [eB x] (a' (p x))):az Tryz.prog 230 [bt eB 3 l,ay] (I (idxOf p l)):=by
 refine ab.body Υ Tryz.func230 rfl rfl Tryz.ntmps230 rfl rfl ζ ?_;refine Η ?_;refine W.iter (λi:Nat=>i<=l.length/\∀j,j<i->(h:j<l.length)->p l[j]=false) (λi=>[(0,bt eB 3 l),(1,ay),(6,bt eB 3 l),(7,I l.length),(8,I i)]) (λ_=>[]) (λi=>l.length-i) 0 ⟨Nat.zero_le _,λj δ=>R⟩ rfl ζ (λi hi ω=>?_);refine Η ?_;refine W.eS rfl (λε=>?_) (λε=>?_)
 ·have ε:i<l.length:=by simpa using ε
  refine aE ε ?_;refine hz ε λΘ θ=>?_;refine(Τ _ (List.getElem_mem ε)).c ?_;simp;(repeat (rw[al];simp[]));apply θ;cases π:p l[i]
  ·refine aA (by simp[π]) ?_;refine Η ?_;refine W.forget _ ?_ (ω (i+1) ⟨R,λj δ h=>?_⟩ R)
   ·simp[fl ε ξ]
   ·by_cases e:j=i
    ·subst e;exact π
    ·exact hi.2 j R h
  ·refine aD (by simp[π]) ?_;refine Η ?_;refine W.rt ?_;exact .of (by rw[Eu ε π hi.2];rfl)
 ·have ε:l.length<=i:=by simpa using ε
  refine W.exit rfl ?_;refine Η ?_;refine W.rt ?_;exact .of (by rw[Ev λj δ=>hi.2 j R δ];rfl)
theorem W1 (l:List c8) (ay:η) (p:c8->Bool) (ξ:l.length<2 ^ 62) (hb:aJ 0 ay) (Τ:∀x∈l,gi Tryz.prog ay [eB x] (a' (p x))):az Tryz.prog 194 [bt eB 3 l,ay] (a' (l.any p)):=by
 refine ab.body Υ Tryz.func194 rfl rfl Tryz.ntmps194 rfl rfl ζ ?_;refine Η ?_;refine bh λΘ θ=>?_;refine az.c (W0 l ay p ξ hb Τ) (bI.refl _) (by simp[hb]) ζ ?_;simp;(repeat (rw[al];simp[]));apply θ;refine Η ?_;refine W.rt ?_;exact .of (by rw[<-Ew (p:=p)];rfl)
end Go.TL
