import Derived.Test.YtlabjopijpkiaaaGreatQAN
import Derived.Test.YtlabjopijpkiaaaGreatQAO
set_option maxHeartbeats 16000000
set_option maxRecDepth 20000
set_option linter.unusedSectionVars false
set_option linter.unusedSimpArgs false
set_option linter.unusedVariables false
namespace Go.TL
open Go.Proofs
variable [bn]
theorem Wx (n:Nat) (h:n<256):az Tryz.prog 192 [.z (.int .u64 n)] (R (Go.Sort.bitsLen n)):=by
 refine ak.body Κ Tryz.func192 rfl rfl Tryz.ntmps192 rfl rfl (by simp) ?_;have J:¬(n:Int)>=4294967296:=by omega
 have γ:¬(n:Int)>=65536:=by omega
 have π:¬(n:Int)>=256:=by omega
 have Ρ:¬(4294967296:Int)<=n:=by omega
 have ag:¬(65536:Int)<=n:=by omega
 have aV:¬(256:Int)<=n:=by omega
 (repeat (first|apply κ|(refine ξ λη I=>?_;simp;(repeat (rw[δ];simp[Ρ]));apply I)));refine aj rfl ?_;(repeat (first|apply κ|(refine ξ λη I=>?_;simp;(repeat (rw[δ];simp[ag]));apply I)));refine aj rfl ?_;(repeat (first|apply κ|(refine ξ λη I=>?_;simp;(repeat (rw[δ];simp[aV]));apply I)));refine aj rfl ?_;have hw:IntKind.u8.wrap (n:Int)=n:=by unfold IntKind.wrap;simp[IntKind.bits,IntKind.signed];omega
 (repeat apply κ);refine ξ λη I=>?_;simp;(repeat (rw[δ];simp[hw]));refine⟨Nat.lt_of_lt_of_eq h (by kernel_rfl),?_⟩;apply I;(repeat (first|apply κ|(refine ξ λη I=>?_;simp;(repeat (rw[δ];simp));apply I)));refine W.ret ⟨_,rfl,?_,rfl⟩;refine .of (congrArg (λi=>θ.z (.int .i64 i)) ?_);apply Wk n h;decide +kernel
theorem v3 (n:Nat) (h:n<256):az Tryz.prog 150 [.z (.int .u64 n)] (R (Go.Sort.bitsLen n)):=by
 refine ak.body Κ Tryz.func150 rfl rfl Tryz.ntmps150 rfl rfl (by simp) ?_;(repeat (first|apply κ|(refine ξ λη I=>?_;simp;(repeat (rw[δ];simp));apply I)));refine aj rfl ?_;(repeat apply κ);refine ξ λη I=>?_;simp;(repeat (rw[δ];simp));refine az.c (Wx n h) (aK.refl _) (by simp) (by simp) ?_;simp;(repeat (rw[δ];simp));apply I;(repeat (first|apply κ|(refine ξ λη I=>?_;simp;(repeat (rw[δ];simp));apply I)));refine W.ret ⟨_,rfl,?_,rfl⟩;exact .of rfl
theorem sA (y:Int×Int):∀a∈(aA y).cells,av 0 a:=by simp[θ.cells]
theorem x8 (y:Found):∀a∈(db y).cells,av 0 a:=by simp[θ.cells]
theorem ub (y:Int):∀a∈(R y).cells,av 0 a:=by simp[θ.cells]
theorem Wy (d:Array (Int×Int)) (n lim:Nat) (Ι:d.size=n) (j1:n<=12) (an:θ) (cmp:Int×Int->Int×Int->Int) (bR:av 0 an) (Τ:∀x y,gj Tryz.prog an [aA x,aA y] (R (cmp x y))) :
  ak Tryz.prog 211 [.ms 0 n 0 n,R 0,R n,R lim,an] [.cells 112 2 (d.toList.map aA)] (λr s=>r=.bu []/\s=[.cells 112 2 ((Go.Sort.insertionSort (ax cmp) d 0 n).toList.map aA)]) (λ_ _=>False):=by
 refine ak.body Κ Tryz.func211 rfl rfl Tryz.ntmps211 rfl rfl (by simp) ?_;have Ε:=gl (show n<2 ^ 62 by omega);have Ζ:(n:Int)<=12:=by omega
 (repeat (first|apply κ|(refine ξ λη I=>?_;simp;(repeat (rw[δ];simp));apply I)));refine .loop ?_;(repeat (first|apply κ|(refine ξ λη I=>?_;simp;(repeat (rw[δ];simp[Ε]));apply I)));refine al (by simp;omega) ?_;(repeat apply κ);refine ξ λη I=>?_;simp;(repeat (rw[δ];simp));refine ak.one (NG d n 0 n Ι (Nat.zero_le _) (Nat.le_refl _) (by omega) an cmp bR Τ) 0 rfl (λe he a ν=>by
  obtain⟨y,Ο,rfl⟩:=List.mem_map.1 he;exact sA y a ν) (λe he a ν=>by
  obtain⟨y,Ο,rfl⟩:=List.mem_map.1 he;exact sA y a ν) (by simp[lI,vZ,bR.hf 1]) (by simp[fS]) (by simp[lJ,mz,bR.dI [0]]) ?_
 simp[dI,hN];(repeat (rw[δ];simp));apply I;exact W.ret ⟨_,rfl,rfl,rfl⟩
theorem Wz (d:Array (Int×Int)) (n:Nat) (Ι:d.size=n) (j1:n<=12) (an:θ) (cmp:Int×Int->Int×Int->Int) (bR:av 0 an) (Τ:∀x y,gj Tryz.prog an [aA x,aA y] (R (cmp x y))) :
  ak Tryz.prog 173 [.ms 0 n 0 n,an] [.cells 112 2 (d.toList.map aA)] (λr s=>r=.bu []/\s=[.cells 112 2 ((Go.Sort.insertionSort (ax cmp) d 0 n).toList.map aA)]) (λ_ _=>False):=by
 refine ak.body Κ Tryz.func173 rfl rfl Tryz.ntmps173 rfl rfl (by simp) ?_;have Ε:=gl (show n<2 ^ 62 by omega);have Ζ:IntKind.u64.wrap (n:Int)=n:=by unfold IntKind.wrap;simp[IntKind.bits,IntKind.signed];omega
 (repeat (first|apply κ|(refine ξ λη I=>?_;simp;(repeat (rw[δ];simp[Ι]));apply I)));(repeat apply κ);refine ξ λη I=>?_;simp;(repeat (rw[δ];simp[Ι,Ε,Ζ]));refine az.c (v3 n (by omega)) (aK.refl _) (by simp) (by simp) ?_;simp;(repeat (rw[δ];simp));refine ak.one (Wy d n (Go.Sort.bitsLen n) Ι j1 an cmp bR Τ) 0 rfl (λe he a ν=>by
  obtain⟨y,Ο,rfl⟩:=List.mem_map.1 he;exact sA y a ν) (λe he a ν=>by
  obtain⟨y,Ο,rfl⟩:=List.mem_map.1 he;exact sA y a ν) (by simp[lI,vZ,bR.hf 1]) (by simp[fS]) (by simp[lJ,mz,bR.dI [0]]) ?_
 simp[dI,hN];(repeat (rw[δ];simp));apply I;exact W.nil ⟨_,rfl,rfl,rfl⟩
theorem WA (d:Array (Found)) (n lim:Nat) (Ι:d.size=n) (j1:n<=12) (an:θ) (cmp:Found->Found->Int) (bR:av 0 an) (Τ:∀x y,gj Tryz.prog an [db x,db y] (R (cmp x y))) :
  ak Tryz.prog 182 [.ms 0 n 0 n,R 0,R n,R lim,an] [.cells 110 3 (d.toList.map db)] (λr s=>r=.bu []/\s=[.cells 110 3 ((Go.Sort.insertionSort (ax cmp) d 0 n).toList.map db)]) (λ_ _=>False):=by
 refine ak.body Κ Tryz.func182 rfl rfl Tryz.ntmps182 rfl rfl (by simp) ?_;have Ε:=gl (show n<2 ^ 62 by omega);have Ζ:(n:Int)<=12:=by omega
 (repeat (first|apply κ|(refine ξ λη I=>?_;simp;(repeat (rw[δ];simp));apply I)));refine .loop ?_;(repeat (first|apply κ|(refine ξ λη I=>?_;simp;(repeat (rw[δ];simp[Ε]));apply I)));refine al (by simp;omega) ?_;(repeat apply κ);refine ξ λη I=>?_;simp;(repeat (rw[δ];simp));refine ak.one (Wv d n 0 n Ι (Nat.zero_le _) (Nat.le_refl _) (by omega) an cmp bR Τ) 0 rfl (λe he a ν=>by
  obtain⟨y,Ο,rfl⟩:=List.mem_map.1 he;exact x8 y a ν) (λe he a ν=>by
  obtain⟨y,Ο,rfl⟩:=List.mem_map.1 he;exact x8 y a ν) (by simp[lI,vZ,bR.hf 1]) (by simp[fS]) (by simp[lJ,mz,bR.dI [0]]) ?_
 simp[dI,hN];(repeat (rw[δ];simp));apply I;exact W.ret ⟨_,rfl,rfl,rfl⟩
theorem WB (d:Array (Found)) (n:Nat) (Ι:d.size=n) (j1:n<=12) (an:θ) (cmp:Found->Found->Int) (bR:av 0 an) (Τ:∀x y,gj Tryz.prog an [db x,db y] (R (cmp x y))) :
  ak Tryz.prog 147 [.ms 0 n 0 n,an] [.cells 110 3 (d.toList.map db)] (λr s=>r=.bu []/\s=[.cells 110 3 ((Go.Sort.insertionSort (ax cmp) d 0 n).toList.map db)]) (λ_ _=>False):=by
 refine ak.body Κ Tryz.func147 rfl rfl Tryz.ntmps147 rfl rfl (by simp) ?_;have Ε:=gl (show n<2 ^ 62 by omega);have Ζ:IntKind.u64.wrap (n:Int)=n:=by unfold IntKind.wrap;simp[IntKind.bits,IntKind.signed];omega
 (repeat (first|apply κ|(refine ξ λη I=>?_;simp;(repeat (rw[δ];simp[Ι]));apply I)));(repeat apply κ);refine ξ λη I=>?_;simp;(repeat (rw[δ];simp[Ι,Ε,Ζ]));refine az.c (v3 n (by omega)) (aK.refl _) (by simp) (by simp) ?_;simp;(repeat (rw[δ];simp));refine ak.one (WA d n (Go.Sort.bitsLen n) Ι j1 an cmp bR Τ) 0 rfl (λe he a ν=>by
  obtain⟨y,Ο,rfl⟩:=List.mem_map.1 he;exact x8 y a ν) (λe he a ν=>by
  obtain⟨y,Ο,rfl⟩:=List.mem_map.1 he;exact x8 y a ν) (by simp[lI,vZ,bR.hf 1]) (by simp[fS]) (by simp[lJ,mz,bR.dI [0]]) ?_
 simp[dI,hN];(repeat (rw[δ];simp));apply I;exact W.nil ⟨_,rfl,rfl,rfl⟩
theorem WC (d:Array (Int)) (n lim:Nat) (Ι:d.size=n) (j1:n<=12)  :
  ak Tryz.prog 157 [.ms 0 n 0 n,R 0,R n,R lim] [.cells 3 1 (d.toList.map R)] (λr s=>r=.bu []/\s=[.cells 3 1 ((Go.Sort.insertionSort (Go.Sort.ltInt) d 0 n).toList.map R)]) (λ_ _=>False):=by
 refine ak.body Κ Tryz.func157 rfl rfl Tryz.ntmps157 rfl rfl (by simp) ?_;have Ε:=gl (show n<2 ^ 62 by omega);have Ζ:(n:Int)<=12:=by omega
 (repeat (first|apply κ|(refine ξ λη I=>?_;simp;(repeat (rw[δ];simp));apply I)));refine .loop ?_;(repeat (first|apply κ|(refine ξ λη I=>?_;simp;(repeat (rw[δ];simp[Ε]));apply I)));refine al (by simp;omega) ?_;(repeat apply κ);refine ξ λη I=>?_;simp;(repeat (rw[δ];simp));refine ak.one (Ww d n 0 n Ι (Nat.zero_le _) (Nat.le_refl _) (by omega)) 0 rfl (λe he a ν=>by
  obtain⟨y,Ο,rfl⟩:=List.mem_map.1 he;exact ub y a ν) (λe he a ν=>by
  obtain⟨y,Ο,rfl⟩:=List.mem_map.1 he;exact ub y a ν) (by simp[lI,vZ]) (by simp[fS]) (by simp[lJ,mz]) ?_
 simp[dI,hN];(repeat (rw[δ];simp));apply I;exact W.ret ⟨_,rfl,rfl,rfl⟩
theorem WE (d:Array (Int)) (n:Nat) (Ι:d.size=n) (j1:n<=12)  :
  ak Tryz.prog 132 [.ms 0 n 0 n] [.cells 3 1 (d.toList.map R)] (λr s=>r=.bu []/\s=[.cells 3 1 ((Go.Sort.insertionSort (Go.Sort.ltInt) d 0 n).toList.map R)]) (λ_ _=>False):=by
 refine ak.body Κ Tryz.func132 rfl rfl Tryz.ntmps132 rfl rfl (by simp) ?_;have Ε:=gl (show n<2 ^ 62 by omega);have Ζ:IntKind.u64.wrap (n:Int)=n:=by unfold IntKind.wrap;simp[IntKind.bits,IntKind.signed];omega
 (repeat (first|apply κ|(refine ξ λη I=>?_;simp;(repeat (rw[δ];simp[Ι]));apply I)));(repeat apply κ);refine ξ λη I=>?_;simp;(repeat (rw[δ];simp[Ι,Ε,Ζ]));refine az.c (v3 n (by omega)) (aK.refl _) (by simp) (by simp) ?_;simp;(repeat (rw[δ];simp));refine ak.one (WC d n (Go.Sort.bitsLen n) Ι j1) 0 rfl (λe he a ν=>by
  obtain⟨y,Ο,rfl⟩:=List.mem_map.1 he;exact ub y a ν) (λe he a ν=>by
  obtain⟨y,Ο,rfl⟩:=List.mem_map.1 he;exact ub y a ν) (by simp[lI,vZ]) (by simp[fS]) (by simp[lJ,mz]) ?_
 simp[dI,hN];(repeat (rw[δ];simp));apply I;exact W.nil ⟨_,rfl,rfl,rfl⟩
theorem WG (l:List Int) (an:θ) (p:Int->Bool) (Α:l.length<2 ^ 62) (hb:av 0 an) (Τ:∀x∈l,gj Tryz.prog an [R x] (bA (p x))):az Tryz.prog 131 [bf R 1 l,an] (R (idxOf p l)):=by
 refine ak.body Κ Tryz.func131 rfl rfl Tryz.ntmps131 rfl rfl (by simp) ?_;(repeat (first|apply κ|(refine ξ λη I=>?_;simp;(repeat (rw[δ];simp));apply I)));refine W.iter (λi:Nat=>i<=l.length/\∀j,j<i->(h:j<l.length)->p l[j]=false) (λi=>[(0,bf R 1 l),(1,an),(6,bf R 1 l),(7,R l.length),(8,R i)]) (λ_=>[]) (λi=>l.length-i) 0 ⟨Nat.zero_le _,λj ε=>by omega⟩ rfl (by simp) (λi hi Δ=>?_);(repeat (first|apply κ|(refine ξ λη I=>?_;simp;(repeat (rw[δ];simp));apply I)));refine W.en rfl (λζ=>?_) (λζ=>?_)
 ·have ζ:i<l.length:=by simpa using ζ
  (repeat (first|apply κ|(refine ξ λη I=>?_;simp;(repeat (rw[δ];simp[ζ]));apply I)));(repeat apply κ);refine ξ λη I=>?_;simp;(repeat (rw[δ];simp[ζ]));refine(Τ _ (List.getElem_mem ζ)).c ?_;simp;(repeat (rw[δ];simp));apply I;cases ω:p l[i]
  ·refine aj (by simp[ω]) ?_;(repeat (first|apply κ|(refine ξ λη I=>?_;simp;(repeat (rw[δ];simp));apply I)));refine W.forget _ ?_ (Δ (i+1) ⟨by omega,λj ε h=>?_⟩ (by omega))
   ·simp[e6 ζ Α]
   ·by_cases e:j=i
    ·subst e;exact ω
    ·exact hi.2 j (by omega) h
  ·refine al (by simp[ω]) ?_;(repeat (first|apply κ|(refine ξ λη I=>?_;simp;(repeat (rw[δ];simp));apply I)));refine W.ret ⟨_,rfl,?_,rfl⟩;exact .of (by rw[Ar ζ ω hi.2];rfl)
 ·have ζ:l.length<=i:=by simpa using ζ
  refine W.exit rfl ?_;(repeat (first|apply κ|(refine ξ λη I=>?_;simp;(repeat (rw[δ];simp));apply I)));refine W.ret ⟨_,rfl,?_,rfl⟩;exact .of (by rw[As λj ε=>hi.2 j (by omega) ε];rfl)
theorem WH (l:List Int) (an:θ) (p:Int->Bool) (Α:l.length<2 ^ 62) (hb:av 0 an) (Τ:∀x∈l,gj Tryz.prog an [R x] (bA (p x))):az Tryz.prog 94 [bf R 1 l,an] (bA (l.any p)):=by
 refine ak.body Κ Tryz.func94 rfl rfl Tryz.ntmps94 rfl rfl (by simp) ?_;(repeat (first|apply κ|(refine ξ λη I=>?_;simp;(repeat (rw[δ];simp));apply I)));(repeat apply κ);refine ξ λη I=>?_;simp;(repeat (rw[δ];simp));refine az.c (WG l an p Α hb Τ) (aK.refl _) (by simp[hb]) (by simp) ?_;simp;(repeat (rw[δ];simp));apply I;(repeat (first|apply κ|(refine ξ λη I=>?_;simp;(repeat (rw[δ];simp));apply I)));refine W.ret ⟨_,rfl,?_,rfl⟩;exact .of (by rw[<-Au (p:=p)];rfl)
theorem WI (l:List lH) (an:θ) (p:lH->Bool) (Α:l.length<2 ^ 62) (hb:av 0 an) (Τ:∀x∈l,gj Tryz.prog an [eG x] (bA (p x))):az Tryz.prog 100 [bf eG 2 l,an] (R (idxOf p l)):=by
 refine ak.body Κ Tryz.func100 rfl rfl Tryz.ntmps100 rfl rfl (by simp) ?_;(repeat (first|apply κ|(refine ξ λη I=>?_;simp;(repeat (rw[δ];simp));apply I)));refine W.iter (λi:Nat=>i<=l.length/\∀j,j<i->(h:j<l.length)->p l[j]=false) (λi=>[(0,bf eG 2 l),(1,an),(6,bf eG 2 l),(7,R l.length),(8,R i)]) (λ_=>[]) (λi=>l.length-i) 0 ⟨Nat.zero_le _,λj ε=>by omega⟩ rfl (by simp) (λi hi Δ=>?_);(repeat (first|apply κ|(refine ξ λη I=>?_;simp;(repeat (rw[δ];simp));apply I)));refine W.en rfl (λζ=>?_) (λζ=>?_)
 ·have ζ:i<l.length:=by simpa using ζ
  (repeat (first|apply κ|(refine ξ λη I=>?_;simp;(repeat (rw[δ];simp[ζ]));apply I)));(repeat apply κ);refine ξ λη I=>?_;simp;(repeat (rw[δ];simp[ζ]));refine(Τ _ (List.getElem_mem ζ)).c ?_;simp;(repeat (rw[δ];simp));apply I;cases ω:p l[i]
  ·refine aj (by simp[ω]) ?_;(repeat (first|apply κ|(refine ξ λη I=>?_;simp;(repeat (rw[δ];simp));apply I)));refine W.forget _ ?_ (Δ (i+1) ⟨by omega,λj ε h=>?_⟩ (by omega))
   ·simp[e6 ζ Α]
   ·by_cases e:j=i
    ·subst e;exact ω
    ·exact hi.2 j (by omega) h
  ·refine al (by simp[ω]) ?_;(repeat (first|apply κ|(refine ξ λη I=>?_;simp;(repeat (rw[δ];simp));apply I)));refine W.ret ⟨_,rfl,?_,rfl⟩;exact .of (by rw[Ar ζ ω hi.2];rfl)
 ·have ζ:l.length<=i:=by simpa using ζ
  refine W.exit rfl ?_;(repeat (first|apply κ|(refine ξ λη I=>?_;simp;(repeat (rw[δ];simp));apply I)));refine W.ret ⟨_,rfl,?_,rfl⟩;exact .of (by rw[As λj ε=>hi.2 j (by omega) ε];rfl)
theorem WJ (l:List lH) (an:θ) (p:lH->Bool) (Α:l.length<2 ^ 62) (hb:av 0 an) (Τ:∀x∈l,gj Tryz.prog an [eG x] (bA (p x))):az Tryz.prog 135 [bf eG 2 l,an] (bA (l.any p)):=by
 refine ak.body Κ Tryz.func135 rfl rfl Tryz.ntmps135 rfl rfl (by simp) ?_;(repeat (first|apply κ|(refine ξ λη I=>?_;simp;(repeat (rw[δ];simp));apply I)));(repeat apply κ);refine ξ λη I=>?_;simp;(repeat (rw[δ];simp));refine az.c (WI l an p Α hb Τ) (aK.refl _) (by simp[hb]) (by simp) ?_;simp;(repeat (rw[δ];simp));apply I;(repeat (first|apply κ|(refine ξ λη I=>?_;simp;(repeat (rw[δ];simp));apply I)));refine W.ret ⟨_,rfl,?_,rfl⟩;exact .of (by rw[<-Au (p:=p)];rfl)
theorem WK (l:List di) (an:θ) (p:di->Bool) (Α:l.length<2 ^ 62) (hb:av 0 an) (Τ:∀x∈l,gj Tryz.prog an [cw x] (bA (p x))):az Tryz.prog 230 [bf cw 3 l,an] (R (idxOf p l)):=by
 refine ak.body Κ Tryz.func230 rfl rfl Tryz.ntmps230 rfl rfl (by simp) ?_;(repeat (first|apply κ|(refine ξ λη I=>?_;simp;(repeat (rw[δ];simp));apply I)));refine W.iter (λi:Nat=>i<=l.length/\∀j,j<i->(h:j<l.length)->p l[j]=false) (λi=>[(0,bf cw 3 l),(1,an),(6,bf cw 3 l),(7,R l.length),(8,R i)]) (λ_=>[]) (λi=>l.length-i) 0 ⟨Nat.zero_le _,λj ε=>by omega⟩ rfl (by simp) (λi hi Δ=>?_);(repeat (first|apply κ|(refine ξ λη I=>?_;simp;(repeat (rw[δ];simp));apply I)));refine W.en rfl (λζ=>?_) (λζ=>?_)
 ·have ζ:i<l.length:=by simpa using ζ
  (repeat (first|apply κ|(refine ξ λη I=>?_;simp;(repeat (rw[δ];simp[ζ]));apply I)));(repeat apply κ);refine ξ λη I=>?_;simp;(repeat (rw[δ];simp[ζ]));refine(Τ _ (List.getElem_mem ζ)).c ?_;simp;(repeat (rw[δ];simp));apply I;cases ω:p l[i]
  ·refine aj (by simp[ω]) ?_;(repeat (first|apply κ|(refine ξ λη I=>?_;simp;(repeat (rw[δ];simp));apply I)));refine W.forget _ ?_ (Δ (i+1) ⟨by omega,λj ε h=>?_⟩ (by omega))
   ·simp[e6 ζ Α]
   ·by_cases e:j=i
    ·subst e;exact ω
    ·exact hi.2 j (by omega) h
  ·refine al (by simp[ω]) ?_;(repeat (first|apply κ|(refine ξ λη I=>?_;simp;(repeat (rw[δ];simp));apply I)));refine W.ret ⟨_,rfl,?_,rfl⟩;exact .of (by rw[Ar ζ ω hi.2];rfl)
 ·have ζ:l.length<=i:=by simpa using ζ
  refine W.exit rfl ?_;(repeat (first|apply κ|(refine ξ λη I=>?_;simp;(repeat (rw[δ];simp));apply I)));refine W.ret ⟨_,rfl,?_,rfl⟩;exact .of (by rw[As λj ε=>hi.2 j (by omega) ε];rfl)
theorem WL (l:List di) (an:θ) (p:di->Bool) (Α:l.length<2 ^ 62) (hb:av 0 an) (Τ:∀x∈l,gj Tryz.prog an [cw x] (bA (p x))):az Tryz.prog 194 [bf cw 3 l,an] (bA (l.any p)):=by
 refine ak.body Κ Tryz.func194 rfl rfl Tryz.ntmps194 rfl rfl (by simp) ?_;(repeat (first|apply κ|(refine ξ λη I=>?_;simp;(repeat (rw[δ];simp));apply I)));(repeat apply κ);refine ξ λη I=>?_;simp;(repeat (rw[δ];simp));refine az.c (WK l an p Α hb Τ) (aK.refl _) (by simp[hb]) (by simp) ?_;simp;(repeat (rw[δ];simp));apply I;(repeat (first|apply κ|(refine ξ λη I=>?_;simp;(repeat (rw[δ];simp));apply I)));refine W.ret ⟨_,rfl,?_,rfl⟩;exact .of (by rw[<-Au (p:=p)];rfl)
end Go.TL
