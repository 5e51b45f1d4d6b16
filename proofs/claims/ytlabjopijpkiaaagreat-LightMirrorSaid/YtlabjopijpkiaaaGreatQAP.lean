import Derived.Test.YtlabjopijpkiaaaGreatQAN
import Derived.Test.YtlabjopijpkiaaaGreatQAO
set_option maxHeartbeats 16000000
set_option maxRecDepth 20000
set_option linter.unusedSectionVars false
set_option linter.unusedSimpArgs false
set_option linter.unusedVariables false
namespace Go.TL
open Go.Proofs
variable [bh]
theorem all256 {P:Nat->Prop} (n:Nat) (h:n<256) (hP:∀m,m<256->P m):P n:=hP n h
theorem S5 (n:Nat) (h:n<256):an Tryz.prog 192 [.z (.int .u64 n)] (δ (Go.Sort.bitsLen n)):=by
 refine aC.body Μ Tryz.func192 rfl rfl Tryz.ntmps192 rfl rfl (by simp) ?_;have J:¬(n:Int)>=4294967296:=by omega
 have R:¬(n:Int)>=65536:=by omega
 have ς:¬(n:Int)>=256:=by omega
 have Ξ:¬(4294967296:Int)<=n:=by omega
 have aa:¬(65536:Int)<=n:=by omega
 have aM:¬(256:Int)<=n:=by omega
 (repeat (first|apply μ|(refine ξ λθ I=>?_;simp;(repeat (rw[ε];simp[Ξ]));apply I)));refine au rfl ?_;(repeat (first|apply μ|(refine ξ λθ I=>?_;simp;(repeat (rw[ε];simp[aa]));apply I)));refine au rfl ?_;(repeat (first|apply μ|(refine ξ λθ I=>?_;simp;(repeat (rw[ε];simp[aM]));apply I)));refine au rfl ?_;have hw:IntKind.u8.wrap (n:Int)=n:=by unfold IntKind.wrap;simp[IntKind.bits,IntKind.signed];omega
 (repeat apply μ);refine ξ λθ I=>?_;simp;(repeat (rw[ε];simp[hw]));refine⟨Nat.lt_of_lt_of_eq h (by kernel_rfl),?_⟩;apply I;(repeat (first|apply μ|(refine ξ λθ I=>?_;simp;(repeat (rw[ε];simp));apply I)));refine W.ret ⟨_,rfl,?_,rfl⟩;refine .of (congrArg (λi=>ζ.z (.int .i64 i)) ?_);apply all256 n h;decide +kernel
theorem yn (n:Nat) (h:n<256):an Tryz.prog 150 [.z (.int .u64 n)] (δ (Go.Sort.bitsLen n)):=by
 refine aC.body Μ Tryz.func150 rfl rfl Tryz.ntmps150 rfl rfl (by simp) ?_;(repeat (first|apply μ|(refine ξ λθ I=>?_;simp;(repeat (rw[ε];simp));apply I)));refine au rfl ?_;(repeat apply μ);refine ξ λθ I=>?_;simp;(repeat (rw[ε];simp));refine an.c (S5 n h) (aE.refl _) (by simp) (by simp) ?_;simp;(repeat (rw[ε];simp));apply I;(repeat (first|apply μ|(refine ξ λθ I=>?_;simp;(repeat (rw[ε];simp));apply I)));refine W.ret ⟨_,rfl,?_,rfl⟩;exact .of rfl
theorem tR (y:Int×Int):∀a∈(b5 y).cells,az 0 a:=by simp[ζ.cells]
theorem vE (y:Found):∀a∈(cR y).cells,az 0 a:=by simp[ζ.cells]
theorem r6 (y:Int):∀a∈(δ y).cells,az 0 a:=by simp[ζ.cells]
theorem S6 (d:Array (Int×Int)) (n qX:Nat) (Ι:d.size=n) (r7:n<=12) (bj:ζ) (cmp:Int×Int->Int×Int->Int) (c6:az 0 bj) (ab:∀x y,ja Tryz.prog bj [b5 x,b5 y] (δ (cmp x y))) :
  aC Tryz.prog 211 [.ms 0 n 0 n,δ 0,δ n,δ qX,bj] [.cells 112 2 (d.toList.map b5)] (λr s=>r=.bn []/\s=[.cells 112 2 ((Go.Sort.insertionSort (dt cmp) d 0 n).toList.map b5)]) (λ_ _=>False):=by
 refine aC.body Μ Tryz.func211 rfl rfl Tryz.ntmps211 rfl rfl (by simp) ?_;have Δ:=fI (show n<2 ^ 62 by omega);have Ε:(n:Int)<=12:=by omega
 (repeat (first|apply μ|(refine ξ λθ I=>?_;simp;(repeat (rw[ε];simp));apply I)));refine .loop ?_;(repeat (first|apply μ|(refine ξ λθ I=>?_;simp;(repeat (rw[ε];simp[Δ]));apply I)));refine ax (by simp;omega) ?_;(repeat apply μ);refine ξ λθ I=>?_;simp;(repeat (rw[ε];simp));refine aC.one (S2 d n 0 n Ι (Nat.zero_le _) (Nat.le_refl _) (by omega) bj cmp c6 ab) 0 rfl (λe he a κ=>by
  obtain⟨y,ad,rfl⟩:=List.mem_map.1 he;exact tR y a κ) (λe he a κ=>by
  obtain⟨y,ad,rfl⟩:=List.mem_map.1 he;exact tR y a κ) (by simp[mM,tP,c6.hT 1]) (by simp[fH]) (by simp[mN,mO,c6.dP [0]]) ?_
 simp[dP,hy];(repeat (rw[ε];simp));apply I;exact W.ret ⟨_,rfl,rfl,rfl⟩
theorem S7 (d:Array (Int×Int)) (n:Nat) (Ι:d.size=n) (r7:n<=12) (bj:ζ) (cmp:Int×Int->Int×Int->Int) (c6:az 0 bj) (ab:∀x y,ja Tryz.prog bj [b5 x,b5 y] (δ (cmp x y))) :
  aC Tryz.prog 173 [.ms 0 n 0 n,bj] [.cells 112 2 (d.toList.map b5)] (λr s=>r=.bn []/\s=[.cells 112 2 ((Go.Sort.insertionSort (dt cmp) d 0 n).toList.map b5)]) (λ_ _=>False):=by
 refine aC.body Μ Tryz.func173 rfl rfl Tryz.ntmps173 rfl rfl (by simp) ?_;have Δ:=fI (show n<2 ^ 62 by omega);have Ε:IntKind.u64.wrap (n:Int)=n:=by unfold IntKind.wrap;simp[IntKind.bits,IntKind.signed];omega
 (repeat (first|apply μ|(refine ξ λθ I=>?_;simp;(repeat (rw[ε];simp[Ι]));apply I)));(repeat apply μ);refine ξ λθ I=>?_;simp;(repeat (rw[ε];simp[Ι,Δ,Ε]));refine an.c (yn n (by omega)) (aE.refl _) (by simp) (by simp) ?_;simp;(repeat (rw[ε];simp));refine aC.one (S6 d n (Go.Sort.bitsLen n) Ι r7 bj cmp c6 ab) 0 rfl (λe he a κ=>by
  obtain⟨y,ad,rfl⟩:=List.mem_map.1 he;exact tR y a κ) (λe he a κ=>by
  obtain⟨y,ad,rfl⟩:=List.mem_map.1 he;exact tR y a κ) (by simp[mM,tP,c6.hT 1]) (by simp[fH]) (by simp[mN,mO,c6.dP [0]]) ?_
 simp[dP,hy];(repeat (rw[ε];simp));apply I;exact W.nil ⟨_,rfl,rfl,rfl⟩
theorem S8 (d:Array (Found)) (n qX:Nat) (Ι:d.size=n) (r7:n<=12) (bj:ζ) (cmp:Found->Found->Int) (c6:az 0 bj) (ab:∀x y,ja Tryz.prog bj [cR x,cR y] (δ (cmp x y))) :
  aC Tryz.prog 182 [.ms 0 n 0 n,δ 0,δ n,δ qX,bj] [.cells 110 3 (d.toList.map cR)] (λr s=>r=.bn []/\s=[.cells 110 3 ((Go.Sort.insertionSort (dt cmp) d 0 n).toList.map cR)]) (λ_ _=>False):=by
 refine aC.body Μ Tryz.func182 rfl rfl Tryz.ntmps182 rfl rfl (by simp) ?_;have Δ:=fI (show n<2 ^ 62 by omega);have Ε:(n:Int)<=12:=by omega
 (repeat (first|apply μ|(refine ξ λθ I=>?_;simp;(repeat (rw[ε];simp));apply I)));refine .loop ?_;(repeat (first|apply μ|(refine ξ λθ I=>?_;simp;(repeat (rw[ε];simp[Δ]));apply I)));refine ax (by simp;omega) ?_;(repeat apply μ);refine ξ λθ I=>?_;simp;(repeat (rw[ε];simp));refine aC.one (S3 d n 0 n Ι (Nat.zero_le _) (Nat.le_refl _) (by omega) bj cmp c6 ab) 0 rfl (λe he a κ=>by
  obtain⟨y,ad,rfl⟩:=List.mem_map.1 he;exact vE y a κ) (λe he a κ=>by
  obtain⟨y,ad,rfl⟩:=List.mem_map.1 he;exact vE y a κ) (by simp[mM,tP,c6.hT 1]) (by simp[fH]) (by simp[mN,mO,c6.dP [0]]) ?_
 simp[dP,hy];(repeat (rw[ε];simp));apply I;exact W.ret ⟨_,rfl,rfl,rfl⟩
theorem S9 (d:Array (Found)) (n:Nat) (Ι:d.size=n) (r7:n<=12) (bj:ζ) (cmp:Found->Found->Int) (c6:az 0 bj) (ab:∀x y,ja Tryz.prog bj [cR x,cR y] (δ (cmp x y))) :
  aC Tryz.prog 147 [.ms 0 n 0 n,bj] [.cells 110 3 (d.toList.map cR)] (λr s=>r=.bn []/\s=[.cells 110 3 ((Go.Sort.insertionSort (dt cmp) d 0 n).toList.map cR)]) (λ_ _=>False):=by
 refine aC.body Μ Tryz.func147 rfl rfl Tryz.ntmps147 rfl rfl (by simp) ?_;have Δ:=fI (show n<2 ^ 62 by omega);have Ε:IntKind.u64.wrap (n:Int)=n:=by unfold IntKind.wrap;simp[IntKind.bits,IntKind.signed];omega
 (repeat (first|apply μ|(refine ξ λθ I=>?_;simp;(repeat (rw[ε];simp[Ι]));apply I)));(repeat apply μ);refine ξ λθ I=>?_;simp;(repeat (rw[ε];simp[Ι,Δ,Ε]));refine an.c (yn n (by omega)) (aE.refl _) (by simp) (by simp) ?_;simp;(repeat (rw[ε];simp));refine aC.one (S8 d n (Go.Sort.bitsLen n) Ι r7 bj cmp c6 ab) 0 rfl (λe he a κ=>by
  obtain⟨y,ad,rfl⟩:=List.mem_map.1 he;exact vE y a κ) (λe he a κ=>by
  obtain⟨y,ad,rfl⟩:=List.mem_map.1 he;exact vE y a κ) (by simp[mM,tP,c6.hT 1]) (by simp[fH]) (by simp[mN,mO,c6.dP [0]]) ?_
 simp[dP,hy];(repeat (rw[ε];simp));apply I;exact W.nil ⟨_,rfl,rfl,rfl⟩
theorem S' (d:Array (Int)) (n qX:Nat) (Ι:d.size=n) (r7:n<=12)  :
  aC Tryz.prog 157 [.ms 0 n 0 n,δ 0,δ n,δ qX] [.cells 3 1 (d.toList.map δ)] (λr s=>r=.bn []/\s=[.cells 3 1 ((Go.Sort.insertionSort (Go.Sort.ltInt) d 0 n).toList.map δ)]) (λ_ _=>False):=by
 refine aC.body Μ Tryz.func157 rfl rfl Tryz.ntmps157 rfl rfl (by simp) ?_;have Δ:=fI (show n<2 ^ 62 by omega);have Ε:(n:Int)<=12:=by omega
 (repeat (first|apply μ|(refine ξ λθ I=>?_;simp;(repeat (rw[ε];simp));apply I)));refine .loop ?_;(repeat (first|apply μ|(refine ξ λθ I=>?_;simp;(repeat (rw[ε];simp[Δ]));apply I)));refine ax (by simp;omega) ?_;(repeat apply μ);refine ξ λθ I=>?_;simp;(repeat (rw[ε];simp));refine aC.one (S4 d n 0 n Ι (Nat.zero_le _) (Nat.le_refl _) (by omega)) 0 rfl (λe he a κ=>by
  obtain⟨y,ad,rfl⟩:=List.mem_map.1 he;exact r6 y a κ) (λe he a κ=>by
  obtain⟨y,ad,rfl⟩:=List.mem_map.1 he;exact r6 y a κ) (by simp[mM,tP]) (by simp[fH]) (by simp[mN,mO]) ?_
 simp[dP,hy];(repeat (rw[ε];simp));apply I;exact W.ret ⟨_,rfl,rfl,rfl⟩
theorem Ta (d:Array (Int)) (n:Nat) (Ι:d.size=n) (r7:n<=12)  :
  aC Tryz.prog 132 [.ms 0 n 0 n] [.cells 3 1 (d.toList.map δ)] (λr s=>r=.bn []/\s=[.cells 3 1 ((Go.Sort.insertionSort (Go.Sort.ltInt) d 0 n).toList.map δ)]) (λ_ _=>False):=by
 refine aC.body Μ Tryz.func132 rfl rfl Tryz.ntmps132 rfl rfl (by simp) ?_;have Δ:=fI (show n<2 ^ 62 by omega);have Ε:IntKind.u64.wrap (n:Int)=n:=by unfold IntKind.wrap;simp[IntKind.bits,IntKind.signed];omega
 (repeat (first|apply μ|(refine ξ λθ I=>?_;simp;(repeat (rw[ε];simp[Ι]));apply I)));(repeat apply μ);refine ξ λθ I=>?_;simp;(repeat (rw[ε];simp[Ι,Δ,Ε]));refine an.c (yn n (by omega)) (aE.refl _) (by simp) (by simp) ?_;simp;(repeat (rw[ε];simp));refine aC.one (S' d n (Go.Sort.bitsLen n) Ι r7) 0 rfl (λe he a κ=>by
  obtain⟨y,ad,rfl⟩:=List.mem_map.1 he;exact r6 y a κ) (λe he a κ=>by
  obtain⟨y,ad,rfl⟩:=List.mem_map.1 he;exact r6 y a κ) (by simp[mM,tP]) (by simp[fH]) (by simp[mN,mO]) ?_
 simp[dP,hy];(repeat (rw[ε];simp));apply I;exact W.nil ⟨_,rfl,rfl,rfl⟩
theorem Tb (l:List Int) (bj:ζ) (p:Int->Bool) (Β:l.length<2 ^ 62) (hb:az 0 bj) (ab:∀x∈l,ja Tryz.prog bj [δ x] (bJ (p x))):an Tryz.prog 131 [bC δ 1 l,bj] (δ (idxOf p l)):=by
 refine aC.body Μ Tryz.func131 rfl rfl Tryz.ntmps131 rfl rfl (by simp) ?_;(repeat (first|apply μ|(refine ξ λθ I=>?_;simp;(repeat (rw[ε];simp));apply I)));refine W.iter (λi:Nat=>i<=l.length/\∀j,j<i->(h:j<l.length)->p l[j]=false) (λi=>[(0,bC δ 1 l),(1,bj),(6,bC δ 1 l),(7,δ l.length),(8,δ i)]) (λ_=>[]) (λi=>l.length-i) 0 ⟨Nat.zero_le _,λj γ=>by omega⟩ rfl (by simp) (λi hi Γ=>?_);(repeat (first|apply μ|(refine ξ λθ I=>?_;simp;(repeat (rw[ε];simp));apply I)));refine W.dR rfl (λη=>?_) (λη=>?_)
 ·have η:i<l.length:=by simpa using η
  (repeat (first|apply μ|(refine ξ λθ I=>?_;simp;(repeat (rw[ε];simp[η]));apply I)));(repeat apply μ);refine ξ λθ I=>?_;simp;(repeat (rw[ε];simp[η]));refine(ab _ (List.getElem_mem η)).c ?_;simp;(repeat (rw[ε];simp));apply I;cases χ:p l[i]
  ·refine au (by simp[χ]) ?_;(repeat (first|apply μ|(refine ξ λθ I=>?_;simp;(repeat (rw[ε];simp));apply I)));refine W.forget _ ?_ (Γ (i+1) ⟨by omega,λj γ h=>?_⟩ (by omega))
   ·simp[eK η Β]
   ·by_cases e:j=i
    ·subst e;exact χ
    ·exact hi.2 j (by omega) h
  ·refine ax (by simp[χ]) ?_;(repeat (first|apply μ|(refine ξ λθ I=>?_;simp;(repeat (rw[ε];simp));apply I)));refine W.ret ⟨_,rfl,?_,rfl⟩;exact .of (by rw[BM η χ hi.2];rfl)
 ·have η:l.length<=i:=by simpa using η
  refine W.exit rfl ?_;(repeat (first|apply μ|(refine ξ λθ I=>?_;simp;(repeat (rw[ε];simp));apply I)));refine W.ret ⟨_,rfl,?_,rfl⟩;exact .of (by rw[BN λj γ=>hi.2 j (by omega) γ];rfl)
theorem Tc (l:List Int) (bj:ζ) (p:Int->Bool) (Β:l.length<2 ^ 62) (hb:az 0 bj) (ab:∀x∈l,ja Tryz.prog bj [δ x] (bJ (p x))):an Tryz.prog 94 [bC δ 1 l,bj] (bJ (l.any p)):=by
 refine aC.body Μ Tryz.func94 rfl rfl Tryz.ntmps94 rfl rfl (by simp) ?_;(repeat (first|apply μ|(refine ξ λθ I=>?_;simp;(repeat (rw[ε];simp));apply I)));(repeat apply μ);refine ξ λθ I=>?_;simp;(repeat (rw[ε];simp));refine an.c (Tb l bj p Β hb ab) (aE.refl _) (by simp[hb]) (by simp) ?_;simp;(repeat (rw[ε];simp));apply I;(repeat (first|apply μ|(refine ξ λθ I=>?_;simp;(repeat (rw[ε];simp));apply I)));refine W.ret ⟨_,rfl,?_,rfl⟩;exact .of (by rw[<-BO (p:=p)];rfl)
theorem Ku (l:List gb) (bj:ζ) (p:gb->Bool) (Β:l.length<2 ^ 62) (hb:az 0 bj) (ab:∀x∈l,ja Tryz.prog bj [eb x] (bJ (p x))):an Tryz.prog 100 [bC eb 2 l,bj] (δ (idxOf p l)):=by
 refine aC.body Μ Tryz.func100 rfl rfl Tryz.ntmps100 rfl rfl (by simp) ?_;(repeat (first|apply μ|(refine ξ λθ I=>?_;simp;(repeat (rw[ε];simp));apply I)));refine W.iter (λi:Nat=>i<=l.length/\∀j,j<i->(h:j<l.length)->p l[j]=false) (λi=>[(0,bC eb 2 l),(1,bj),(6,bC eb 2 l),(7,δ l.length),(8,δ i)]) (λ_=>[]) (λi=>l.length-i) 0 ⟨Nat.zero_le _,λj γ=>by omega⟩ rfl (by simp) (λi hi Γ=>?_);(repeat (first|apply μ|(refine ξ λθ I=>?_;simp;(repeat (rw[ε];simp));apply I)));refine W.dR rfl (λη=>?_) (λη=>?_)
 ·have η:i<l.length:=by simpa using η
  (repeat (first|apply μ|(refine ξ λθ I=>?_;simp;(repeat (rw[ε];simp[η]));apply I)));(repeat apply μ);refine ξ λθ I=>?_;simp;(repeat (rw[ε];simp[η]));refine(ab _ (List.getElem_mem η)).c ?_;simp;(repeat (rw[ε];simp));apply I;cases χ:p l[i]
  ·refine au (by simp[χ]) ?_;(repeat (first|apply μ|(refine ξ λθ I=>?_;simp;(repeat (rw[ε];simp));apply I)));refine W.forget _ ?_ (Γ (i+1) ⟨by omega,λj γ h=>?_⟩ (by omega))
   ·simp[eK η Β]
   ·by_cases e:j=i
    ·subst e;exact χ
    ·exact hi.2 j (by omega) h
  ·refine ax (by simp[χ]) ?_;(repeat (first|apply μ|(refine ξ λθ I=>?_;simp;(repeat (rw[ε];simp));apply I)));refine W.ret ⟨_,rfl,?_,rfl⟩;exact .of (by rw[BM η χ hi.2];rfl)
 ·have η:l.length<=i:=by simpa using η
  refine W.exit rfl ?_;(repeat (first|apply μ|(refine ξ λθ I=>?_;simp;(repeat (rw[ε];simp));apply I)));refine W.ret ⟨_,rfl,?_,rfl⟩;exact .of (by rw[BN λj γ=>hi.2 j (by omega) γ];rfl)
theorem Td (l:List gb) (bj:ζ) (p:gb->Bool) (Β:l.length<2 ^ 62) (hb:az 0 bj) (ab:∀x∈l,ja Tryz.prog bj [eb x] (bJ (p x))):an Tryz.prog 135 [bC eb 2 l,bj] (bJ (l.any p)):=by
 refine aC.body Μ Tryz.func135 rfl rfl Tryz.ntmps135 rfl rfl (by simp) ?_;(repeat (first|apply μ|(refine ξ λθ I=>?_;simp;(repeat (rw[ε];simp));apply I)));(repeat apply μ);refine ξ λθ I=>?_;simp;(repeat (rw[ε];simp));refine an.c (Ku l bj p Β hb ab) (aE.refl _) (by simp[hb]) (by simp) ?_;simp;(repeat (rw[ε];simp));apply I;(repeat (first|apply μ|(refine ξ λθ I=>?_;simp;(repeat (rw[ε];simp));apply I)));refine W.ret ⟨_,rfl,?_,rfl⟩;exact .of (by rw[<-BO (p:=p)];rfl)
theorem Te (l:List eS) (bj:ζ) (p:eS->Bool) (Β:l.length<2 ^ 62) (hb:az 0 bj) (ab:∀x∈l,ja Tryz.prog bj [eT x] (bJ (p x))):an Tryz.prog 230 [bC eT 3 l,bj] (δ (idxOf p l)):=by
 refine aC.body Μ Tryz.func230 rfl rfl Tryz.ntmps230 rfl rfl (by simp) ?_;(repeat (first|apply μ|(refine ξ λθ I=>?_;simp;(repeat (rw[ε];simp));apply I)));refine W.iter (λi:Nat=>i<=l.length/\∀j,j<i->(h:j<l.length)->p l[j]=false) (λi=>[(0,bC eT 3 l),(1,bj),(6,bC eT 3 l),(7,δ l.length),(8,δ i)]) (λ_=>[]) (λi=>l.length-i) 0 ⟨Nat.zero_le _,λj γ=>by omega⟩ rfl (by simp) (λi hi Γ=>?_);(repeat (first|apply μ|(refine ξ λθ I=>?_;simp;(repeat (rw[ε];simp));apply I)));refine W.dR rfl (λη=>?_) (λη=>?_)
 ·have η:i<l.length:=by simpa using η
  (repeat (first|apply μ|(refine ξ λθ I=>?_;simp;(repeat (rw[ε];simp[η]));apply I)));(repeat apply μ);refine ξ λθ I=>?_;simp;(repeat (rw[ε];simp[η]));refine(ab _ (List.getElem_mem η)).c ?_;simp;(repeat (rw[ε];simp));apply I;cases χ:p l[i]
  ·refine au (by simp[χ]) ?_;(repeat (first|apply μ|(refine ξ λθ I=>?_;simp;(repeat (rw[ε];simp));apply I)));refine W.forget _ ?_ (Γ (i+1) ⟨by omega,λj γ h=>?_⟩ (by omega))
   ·simp[eK η Β]
   ·by_cases e:j=i
    ·subst e;exact χ
    ·exact hi.2 j (by omega) h
  ·refine ax (by simp[χ]) ?_;(repeat (first|apply μ|(refine ξ λθ I=>?_;simp;(repeat (rw[ε];simp));apply I)));refine W.ret ⟨_,rfl,?_,rfl⟩;exact .of (by rw[BM η χ hi.2];rfl)
 ·have η:l.length<=i:=by simpa using η
  refine W.exit rfl ?_;(repeat (first|apply μ|(refine ξ λθ I=>?_;simp;(repeat (rw[ε];simp));apply I)));refine W.ret ⟨_,rfl,?_,rfl⟩;exact .of (by rw[BN λj γ=>hi.2 j (by omega) γ];rfl)
theorem Tf (l:List eS) (bj:ζ) (p:eS->Bool) (Β:l.length<2 ^ 62) (hb:az 0 bj) (ab:∀x∈l,ja Tryz.prog bj [eT x] (bJ (p x))):an Tryz.prog 194 [bC eT 3 l,bj] (bJ (l.any p)):=by
 refine aC.body Μ Tryz.func194 rfl rfl Tryz.ntmps194 rfl rfl (by simp) ?_;(repeat (first|apply μ|(refine ξ λθ I=>?_;simp;(repeat (rw[ε];simp));apply I)));(repeat apply μ);refine ξ λθ I=>?_;simp;(repeat (rw[ε];simp));refine an.c (Te l bj p Β hb ab) (aE.refl _) (by simp[hb]) (by simp) ?_;simp;(repeat (rw[ε];simp));apply I;(repeat (first|apply μ|(refine ξ λθ I=>?_;simp;(repeat (rw[ε];simp));apply I)));refine W.ret ⟨_,rfl,?_,rfl⟩;exact .of (by rw[<-BO (p:=p)];rfl)
end Go.TL
