import Derived.Test.YtlabjopijpkiaaaGreatVAN
import Derived.Test.YtlabjopijpkiaaaGreatVAO
set_option maxHeartbeats 16000000
set_option maxRecDepth 20000
set_option linter.unusedSectionVars false
set_option linter.unusedSimpArgs false
set_option linter.unusedVariables false
namespace Go.TL
open Go.Proofs
variable [bn]
theorem V7 (n:Nat) (h:n<256):az Tryz.prog 192 [.z (.int .u64 n)] (I (Go.Sort.bitsLen n)):=by
 refine ae.body Ρ Tryz.func192 rfl rfl Tryz.ntmps192 rfl rfl η ?_;have J:¬(n:Int)>=4294967296:=R;have U:¬(n:Int)>=65536:=R;have μ:¬(n:Int)>=256:=R;have Χ:¬(4294967296:Int)<=n:=R;have ak:¬(65536:Int)<=n:=R;have aY:¬(256:Int)<=n:=R;refine aB @Χ ?_;refine aa rfl ?_;refine aB ak ?_;refine aa rfl ?_;refine aB aY ?_;refine aa rfl ?_;have hw:IntKind.u8.wrap (n:Int)=n:=by unfold IntKind.wrap;simp[IntKind.bits,IntKind.signed];omega
 refine hI hw λΕ ζ=>?_;refine⟨Nat.lt_of_lt_of_eq h (by kernel_rfl),?_⟩;apply ζ;refine Η ?_;refine W.ret ⟨_,rfl,?_,rfl⟩;refine .of (congrArg (λi=>θ.z (.int .i64 i)) ?_);apply VW n h;decide +kernel
theorem ua (n:Nat) (h:n<256):az Tryz.prog 150 [.z (.int .u64 n)] (I (Go.Sort.bitsLen n)):=by
 refine ae.body Ρ Tryz.func150 rfl rfl Tryz.ntmps150 rfl rfl η ?_;refine Η ?_;refine aa rfl ?_;refine bl λΕ ζ=>?_;refine az.d (V7 n h) (bD ?_);apply ζ;refine Η ?_;refine W.rt ?_;exact .of rfl
theorem sJ (y:Int×Int):∀a∈(aF y).cells,aG 0 a:=by simp[θ.cells]
theorem xS (y:Found):∀a∈(dj y).cells,aG 0 a:=by simp[θ.cells]
theorem rn (y:Int):∀a∈(I y).cells,aG 0 a:=by simp[θ.cells]
theorem V8 (d:Array (Int×Int)) (n lim:Nat) (Ζ:d.size=n) (gL:n<=12) (ax:θ) (cmp:Int×Int->Int×Int->Int) (b1:aG 0 ax) (Υ:∀x y,gp Tryz.prog ax [aF x,aF y] (I (cmp x y))) :
  ae Tryz.prog 211 [.ms 0 n 0 n,I 0,I n,I lim,ax] [.cells 112 2 (d.toList.map aF)] (λr s=>r=.bj []/\s=[.cells 112 2 ((Go.Sort.insertionSort (aC cmp) d 0 n).toList.map aF)]) (λ_ _=>False):=by
 refine ae.body Ρ Tryz.func211 rfl rfl Tryz.ntmps211 rfl rfl η ?_;have Δ:=gr (show n<2 ^ 62 by omega);have Γ:(n:Int)<=12:=R;refine Η ?_;refine .loop ?_;refine aB Δ ?_;refine ai (by simp;omega) ?_;refine bl λΕ ζ=>?_;refine ae.one (Nf d n 0 n Ζ (Nat.zero_le _) (Nat.le_refl _) R ax cmp b1 Υ) 0 rfl (λe he a κ=>by
  obtain⟨y,Ι,rfl⟩:=List.mem_map.1 he;exact sJ y a κ) (λe he a κ=>by
  obtain⟨y,Ι,rfl⟩:=List.mem_map.1 he;exact sJ y a κ) (by simp[oe,vX,b1.jg 1]) (by simp[fQ]) (by simp[og,oh,b1.ei [0]]) ?_
 simp[ei,hY];(repeat (rw[Ο];simp[]));apply ζ;exact W.ret ⟨_,rfl,rfl,rfl⟩
theorem V9 (d:Array (Int×Int)) (n:Nat) (Ζ:d.size=n) (gL:n<=12) (ax:θ) (cmp:Int×Int->Int×Int->Int) (b1:aG 0 ax) (Υ:∀x y,gp Tryz.prog ax [aF x,aF y] (I (cmp x y))) :
  ae Tryz.prog 173 [.ms 0 n 0 n,ax] [.cells 112 2 (d.toList.map aF)] (λr s=>r=.bj []/\s=[.cells 112 2 ((Go.Sort.insertionSort (aC cmp) d 0 n).toList.map aF)]) (λ_ _=>False):=by
 refine ae.body Ρ Tryz.func173 rfl rfl Tryz.ntmps173 rfl rfl η ?_;have Δ:=gr (show n<2 ^ 62 by omega);have Γ:IntKind.u64.wrap (n:Int)=n:=by unfold IntKind.wrap;simp[IntKind.bits,IntKind.signed];omega
 refine aB Ζ ?_;(repeat apply ad);refine bs λΕ ζ=>?_;simp;(repeat (rw[Ο];simp[Ζ,Δ,Γ]));refine az.d (ua n R) (bD ?_);refine ae.one (V8 d n (Go.Sort.bitsLen n) Ζ gL ax cmp b1 Υ) 0 rfl (λe he a κ=>by
  obtain⟨y,Ι,rfl⟩:=List.mem_map.1 he;exact sJ y a κ) (λe he a κ=>by
  obtain⟨y,Ι,rfl⟩:=List.mem_map.1 he;exact sJ y a κ) (by simp[oe,vX,b1.jg 1]) (by simp[fQ]) (by simp[og,oh,b1.ei [0]]) ?_
 simp[ei,hY];(repeat (rw[Ο];simp[]));apply ζ;exact W.nil ⟨_,rfl,rfl,rfl⟩
theorem Wa (d:Array (Found)) (n lim:Nat) (Ζ:d.size=n) (gL:n<=12) (ax:θ) (cmp:Found->Found->Int) (b1:aG 0 ax) (Υ:∀x y,gp Tryz.prog ax [dj x,dj y] (I (cmp x y))) :
  ae Tryz.prog 182 [.ms 0 n 0 n,I 0,I n,I lim,ax] [.cells 110 3 (d.toList.map dj)] (λr s=>r=.bj []/\s=[.cells 110 3 ((Go.Sort.insertionSort (aC cmp) d 0 n).toList.map dj)]) (λ_ _=>False):=by
 refine ae.body Ρ Tryz.func182 rfl rfl Tryz.ntmps182 rfl rfl η ?_;have Δ:=gr (show n<2 ^ 62 by omega);have Γ:(n:Int)<=12:=R;refine Η ?_;refine .loop ?_;refine aB Δ ?_;refine ai (by simp;omega) ?_;refine bl λΕ ζ=>?_;refine ae.one (V6 d n 0 n Ζ (Nat.zero_le _) (Nat.le_refl _) R ax cmp b1 Υ) 0 rfl (λe he a κ=>by
  obtain⟨y,Ι,rfl⟩:=List.mem_map.1 he;exact xS y a κ) (λe he a κ=>by
  obtain⟨y,Ι,rfl⟩:=List.mem_map.1 he;exact xS y a κ) (by simp[oe,vX,b1.jg 1]) (by simp[fQ]) (by simp[og,oh,b1.ei [0]]) ?_
 simp[ei,hY];(repeat (rw[Ο];simp[]));apply ζ;exact W.ret ⟨_,rfl,rfl,rfl⟩
theorem Wb (d:Array (Found)) (n:Nat) (Ζ:d.size=n) (gL:n<=12) (ax:θ) (cmp:Found->Found->Int) (b1:aG 0 ax) (Υ:∀x y,gp Tryz.prog ax [dj x,dj y] (I (cmp x y))) :
  ae Tryz.prog 147 [.ms 0 n 0 n,ax] [.cells 110 3 (d.toList.map dj)] (λr s=>r=.bj []/\s=[.cells 110 3 ((Go.Sort.insertionSort (aC cmp) d 0 n).toList.map dj)]) (λ_ _=>False):=by
 refine ae.body Ρ Tryz.func147 rfl rfl Tryz.ntmps147 rfl rfl η ?_;have Δ:=gr (show n<2 ^ 62 by omega);have Γ:IntKind.u64.wrap (n:Int)=n:=by unfold IntKind.wrap;simp[IntKind.bits,IntKind.signed];omega
 refine aB Ζ ?_;(repeat apply ad);refine bs λΕ ζ=>?_;simp;(repeat (rw[Ο];simp[Ζ,Δ,Γ]));refine az.d (ua n R) (bD ?_);refine ae.one (Wa d n (Go.Sort.bitsLen n) Ζ gL ax cmp b1 Υ) 0 rfl (λe he a κ=>by
  obtain⟨y,Ι,rfl⟩:=List.mem_map.1 he;exact xS y a κ) (λe he a κ=>by
  obtain⟨y,Ι,rfl⟩:=List.mem_map.1 he;exact xS y a κ) (by simp[oe,vX,b1.jg 1]) (by simp[fQ]) (by simp[og,oh,b1.ei [0]]) ?_
 simp[ei,hY];(repeat (rw[Ο];simp[]));apply ζ;exact W.nil ⟨_,rfl,rfl,rfl⟩
theorem Wc (d:Array (Int)) (n lim:Nat) (Ζ:d.size=n) (gL:n<=12)  :
  ae Tryz.prog 157 [.ms 0 n 0 n,I 0,I n,I lim] [.cells 3 1 (d.toList.map I)] (λr s=>r=.bj []/\s=[.cells 3 1 ((Go.Sort.insertionSort (Go.Sort.ltInt) d 0 n).toList.map I)]) (λ_ _=>False):=by
 refine ae.body Ρ Tryz.func157 rfl rfl Tryz.ntmps157 rfl rfl η ?_;have Δ:=gr (show n<2 ^ 62 by omega);have Γ:(n:Int)<=12:=R;refine Η ?_;refine .loop ?_;refine aB Δ ?_;refine ai (by simp;omega) ?_;refine bl λΕ ζ=>?_;refine ae.one (Ng d n 0 n Ζ (Nat.zero_le _) (Nat.le_refl _) R) 0 rfl (λe he a κ=>by
  obtain⟨y,Ι,rfl⟩:=List.mem_map.1 he;exact rn y a κ) (λe he a κ=>by
  obtain⟨y,Ι,rfl⟩:=List.mem_map.1 he;exact rn y a κ) (by simp[oe,vX]) (by simp[fQ]) (by simp[og,oh]) ?_
 simp[ei,hY];(repeat (rw[Ο];simp[]));apply ζ;exact W.ret ⟨_,rfl,rfl,rfl⟩
theorem Wd (d:Array (Int)) (n:Nat) (Ζ:d.size=n) (gL:n<=12)  :
  ae Tryz.prog 132 [.ms 0 n 0 n] [.cells 3 1 (d.toList.map I)] (λr s=>r=.bj []/\s=[.cells 3 1 ((Go.Sort.insertionSort (Go.Sort.ltInt) d 0 n).toList.map I)]) (λ_ _=>False):=by
 refine ae.body Ρ Tryz.func132 rfl rfl Tryz.ntmps132 rfl rfl η ?_;have Δ:=gr (show n<2 ^ 62 by omega);have Γ:IntKind.u64.wrap (n:Int)=n:=by unfold IntKind.wrap;simp[IntKind.bits,IntKind.signed];omega
 refine aB Ζ ?_;(repeat apply ad);refine bs λΕ ζ=>?_;simp;(repeat (rw[Ο];simp[Ζ,Δ,Γ]));refine az.d (ua n R) (bD ?_);refine ae.one (Wc d n (Go.Sort.bitsLen n) Ζ gL) 0 rfl (λe he a κ=>by
  obtain⟨y,Ι,rfl⟩:=List.mem_map.1 he;exact rn y a κ) (λe he a κ=>by
  obtain⟨y,Ι,rfl⟩:=List.mem_map.1 he;exact rn y a κ) (by simp[oe,vX]) (by simp[fQ]) (by simp[og,oh]) ?_
 simp[ei,hY];(repeat (rw[Ο];simp[]));apply ζ;exact W.nil ⟨_,rfl,rfl,rfl⟩
theorem We (l:List Int) (ax:θ) (p:Int->Bool) (ο:l.length<2 ^ 62) (hb:aG 0 ax) (Υ:∀x∈l,gp Tryz.prog ax [I x] (a6 (p x))):az Tryz.prog 131 [bO I 1 l,ax] (I (idxOf p l)):=by
 refine ae.body Ρ Tryz.func131 rfl rfl Tryz.ntmps131 rfl rfl η ?_;refine Η ?_;refine W.iter (λi:Nat=>i<=l.length/\∀j,j<i->(h:j<l.length)->p l[j]=false) (λi=>[(0,bO I 1 l),(1,ax),(6,bO I 1 l),(7,I l.length),(8,I i)]) (λ_=>[]) (λi=>l.length-i) 0 ⟨Nat.zero_le _,λj ε=>R⟩ rfl η (λi hi Β=>?_);refine Η ?_;refine W.eU rfl (λδ=>?_) (λδ=>?_)
 ·have δ:i<l.length:=by simpa using δ
  refine aB δ ?_;refine hI δ λΕ ζ=>?_;refine(Υ _ (List.getElem_mem δ)).c ?_;simp;(repeat (rw[Ο];simp[]));apply ζ;cases ψ:p l[i]
  ·refine aa (by simp[ψ]) ?_;refine Η ?_;refine W.forget _ ?_ (Β (i+1) ⟨R,λj ε h=>?_⟩ R)
   ·simp[fC δ ο]
   ·by_cases e:j=i
    ·subst e;exact ψ
    ·exact hi.2 j R h
  ·refine ai (by simp[ψ]) ?_;refine Η ?_;refine W.rt ?_;exact .of (by rw[DZ δ ψ hi.2];rfl)
 ·have δ:l.length<=i:=by simpa using δ
  refine W.exit rfl ?_;refine Η ?_;refine W.rt ?_;exact .of (by rw[D1 λj ε=>hi.2 j R ε];rfl)
theorem Wf (l:List Int) (ax:θ) (p:Int->Bool) (ο:l.length<2 ^ 62) (hb:aG 0 ax) (Υ:∀x∈l,gp Tryz.prog ax [I x] (a6 (p x))):az Tryz.prog 94 [bO I 1 l,ax] (a6 (l.any p)):=by
 refine ae.body Ρ Tryz.func94 rfl rfl Tryz.ntmps94 rfl rfl η ?_;refine Η ?_;refine bl λΕ ζ=>?_;refine az.c (We l ax p ο hb Υ) (bF.refl _) (by simp[hb]) η ?_;simp;(repeat (rw[Ο];simp[]));apply ζ;refine Η ?_;refine W.rt ?_;exact .of (by rw[<-D2 (p:=p)];rfl)
theorem Wg (l:List l8) (ax:θ) (p:l8->Bool) (ο:l.length<2 ^ 62) (hb:aG 0 ax) (Υ:∀x∈l,gp Tryz.prog ax [eP x] (a6 (p x))):az Tryz.prog 100 [bO eP 2 l,ax] (I (idxOf p l)):=by
 refine ae.body Ρ Tryz.func100 rfl rfl Tryz.ntmps100 rfl rfl η ?_;refine Η ?_;refine W.iter (λi:Nat=>i<=l.length/\∀j,j<i->(h:j<l.length)->p l[j]=false) (λi=>[(0,bO eP 2 l),(1,ax),(6,bO eP 2 l),(7,I l.length),(8,I i)]) (λ_=>[]) (λi=>l.length-i) 0 ⟨Nat.zero_le _,λj ε=>R⟩ rfl η (λi hi Β=>?_);refine Η ?_;refine W.eU rfl (λδ=>?_) (λδ=>?_)
 ·have δ:i<l.length:=by simpa using δ
  refine aB δ ?_;refine hI δ λΕ ζ=>?_;refine(Υ _ (List.getElem_mem δ)).c ?_;simp;(repeat (rw[Ο];simp[]));apply ζ;cases ψ:p l[i]
  ·refine aa (by simp[ψ]) ?_;refine Η ?_;refine W.forget _ ?_ (Β (i+1) ⟨R,λj ε h=>?_⟩ R)
   ·simp[fC δ ο]
   ·by_cases e:j=i
    ·subst e;exact ψ
    ·exact hi.2 j R h
  ·refine ai (by simp[ψ]) ?_;refine Η ?_;refine W.rt ?_;exact .of (by rw[DZ δ ψ hi.2];rfl)
 ·have δ:l.length<=i:=by simpa using δ
  refine W.exit rfl ?_;refine Η ?_;refine W.rt ?_;exact .of (by rw[D1 λj ε=>hi.2 j R ε];rfl)
theorem Wh (l:List l8) (ax:θ) (p:l8->Bool) (ο:l.length<2 ^ 62) (hb:aG 0 ax) (Υ:∀x∈l,gp Tryz.prog ax [eP x] (a6 (p x))):az Tryz.prog 135 [bO eP 2 l,ax] (a6 (l.any p)):=by
 refine ae.body Ρ Tryz.func135 rfl rfl Tryz.ntmps135 rfl rfl η ?_;refine Η ?_;refine bl λΕ ζ=>?_;refine az.c (Wg l ax p ο hb Υ) (bF.refl _) (by simp[hb]) η ?_;simp;(repeat (rw[Ο];simp[]));apply ζ;refine Η ?_;refine W.rt ?_;exact .of (by rw[<-D2 (p:=p)];rfl)
theorem Wi (l:List fi) (ax:θ) (p:fi->Bool) (ο:l.length<2 ^ 62) (hb:aG 0 ax) (Υ:∀x∈l,gp Tryz.prog ax [eQ x] (a6 (p x))):az Tryz.prog 230 [bO eQ 3 l,ax] (I (idxOf p l)):=by
 refine ae.body Ρ Tryz.func230 rfl rfl Tryz.ntmps230 rfl rfl η ?_;refine Η ?_;refine W.iter (λi:Nat=>i<=l.length/\∀j,j<i->(h:j<l.length)->p l[j]=false) (λi=>[(0,bO eQ 3 l),(1,ax),(6,bO eQ 3 l),(7,I l.length),(8,I i)]) (λ_=>[]) (λi=>l.length-i) 0 ⟨Nat.zero_le _,λj ε=>R⟩ rfl η (λi hi Β=>?_);refine Η ?_;refine W.eU rfl (λδ=>?_) (λδ=>?_)
 ·have δ:i<l.length:=by simpa using δ
  refine aB δ ?_;refine hI δ λΕ ζ=>?_;refine(Υ _ (List.getElem_mem δ)).c ?_;simp;(repeat (rw[Ο];simp[]));apply ζ;cases ψ:p l[i]
  ·refine aa (by simp[ψ]) ?_;refine Η ?_;refine W.forget _ ?_ (Β (i+1) ⟨R,λj ε h=>?_⟩ R)
   ·simp[fC δ ο]
   ·by_cases e:j=i
    ·subst e;exact ψ
    ·exact hi.2 j R h
  ·refine ai (by simp[ψ]) ?_;refine Η ?_;refine W.rt ?_;exact .of (by rw[DZ δ ψ hi.2];rfl)
 ·have δ:l.length<=i:=by simpa using δ
  refine W.exit rfl ?_;refine Η ?_;refine W.rt ?_;exact .of (by rw[D1 λj ε=>hi.2 j R ε];rfl)
theorem Wj (l:List fi) (ax:θ) (p:fi->Bool) (ο:l.length<2 ^ 62) (hb:aG 0 ax) (Υ:∀x∈l,gp Tryz.prog ax [eQ x] (a6 (p x))):az Tryz.prog 194 [bO eQ 3 l,ax] (a6 (l.any p)):=by
 refine ae.body Ρ Tryz.func194 rfl rfl Tryz.ntmps194 rfl rfl η ?_;refine Η ?_;refine bl λΕ ζ=>?_;refine az.c (Wi l ax p ο hb Υ) (bF.refl _) (by simp[hb]) η ?_;simp;(repeat (rw[Ο];simp[]));apply ζ;refine Η ?_;refine W.rt ?_;exact .of (by rw[<-D2 (p:=p)];rfl)
end Go.TL
