import Derived.Test.YtlabjopijpkiaaaGreatSAN
import Derived.Test.YtlabjopijpkiaaaGreatSAO
set_option maxHeartbeats 16000000
set_option maxRecDepth 20000
set_option linter.unusedSectionVars false
set_option linter.unusedSimpArgs false
set_option linter.unusedVariables false
namespace Go.TL
open Go.Proofs
variable [bm]
theorem XS (n:Nat) (h:n<256):ay Tryz.prog 192 [.z (.int .u64 n)] (R (Go.Sort.bitsLen n)):=by
 refine ak.body Ι Tryz.func192 rfl rfl Tryz.ntmps192 rfl rfl (by simp) ?_;have J:¬(n:Int)>=4294967296:=by omega
 have γ:¬(n:Int)>=65536:=by omega
 have π:¬(n:Int)>=256:=by omega
 have Τ:¬(4294967296:Int)<=n:=by omega
 have af:¬(65536:Int)<=n:=by omega
 have aX:¬(256:Int)<=n:=by omega
 (repeat (first|apply κ|(refine ν λη I=>?_;simp;(repeat (rw[δ];simp[Τ]));apply I)));refine ah rfl ?_;(repeat (first|apply κ|(refine ν λη I=>?_;simp;(repeat (rw[δ];simp[af]));apply I)));refine ah rfl ?_;(repeat (first|apply κ|(refine ν λη I=>?_;simp;(repeat (rw[δ];simp[aX]));apply I)));refine ah rfl ?_;have hw:IntKind.u8.wrap (n:Int)=n:=by unfold IntKind.wrap;simp[IntKind.bits,IntKind.signed];omega
 (repeat apply κ);refine ν λη I=>?_;simp;(repeat (rw[δ];simp[hw]));refine⟨Nat.lt_of_lt_of_eq h (by kernel_rfl),?_⟩;apply I;(repeat (first|apply κ|(refine ν λη I=>?_;simp;(repeat (rw[δ];simp));apply I)));refine W.ret ⟨_,rfl,?_,rfl⟩;refine .of (congrArg (λi=>θ.z (.int .i64 i)) ?_);apply XE n h;decide +kernel
theorem wa (n:Nat) (h:n<256):ay Tryz.prog 150 [.z (.int .u64 n)] (R (Go.Sort.bitsLen n)):=by
 refine ak.body Ι Tryz.func150 rfl rfl Tryz.ntmps150 rfl rfl (by simp) ?_;(repeat (first|apply κ|(refine ν λη I=>?_;simp;(repeat (rw[δ];simp));apply I)));refine ah rfl ?_;(repeat apply κ);refine ν λη I=>?_;simp;(repeat (rw[δ];simp));refine ay.c (XS n h) (aK.refl _) (by simp) (by simp) ?_;simp;(repeat (rw[δ];simp));apply I;(repeat (first|apply κ|(refine ν λη I=>?_;simp;(repeat (rw[δ];simp));apply I)));refine W.ret ⟨_,rfl,?_,rfl⟩;exact .of rfl
theorem sR (y:Int×Int):∀a∈(az y).cells,au 0 a:=by simp[θ.cells]
theorem x0 (y:Found):∀a∈(c7 y).cells,au 0 a:=by simp[θ.cells]
theorem ui (y:Int):∀a∈(R y).cells,au 0 a:=by simp[θ.cells]
theorem XT (d:Array (Int×Int)) (n lim:Nat) (Η:d.size=n) (j7:n<=12) (an:θ) (cmp:Int×Int->Int×Int->Int) (bV:au 0 an) (Φ:∀x y,gj Tryz.prog an [az x,az y] (R (cmp x y))) :
  ak Tryz.prog 211 [.ms 0 n 0 n,R 0,R n,R lim,an] [.cells 112 2 (d.toList.map az)] (λr s=>r=.bn []/\s=[.cells 112 2 ((Go.Sort.insertionSort (av cmp) d 0 n).toList.map az)]) (λ_ _=>False):=by
 refine ak.body Ι Tryz.func211 rfl rfl Tryz.ntmps211 rfl rfl (by simp) ?_;have Ζ:=fJ (show n<2 ^ 62 by omega);have Ε:(n:Int)<=12:=by omega
 (repeat (first|apply κ|(refine ν λη I=>?_;simp;(repeat (rw[δ];simp));apply I)));refine .loop ?_;(repeat (first|apply κ|(refine ν λη I=>?_;simp;(repeat (rw[δ];simp[Ζ]));apply I)));refine aj (by simp;omega) ?_;(repeat apply κ);refine ν λη I=>?_;simp;(repeat (rw[δ];simp));refine ak.one (Oi d n 0 n Η (Nat.zero_le _) (Nat.le_refl _) (by omega) an cmp bV Φ) 0 rfl (λe he a ξ=>by
  obtain⟨y,Ξ,rfl⟩:=List.mem_map.1 he;exact sR y a ξ) (λe he a ξ=>by
  obtain⟨y,Ξ,rfl⟩:=List.mem_map.1 he;exact sR y a ξ) (by simp[nC,v',bV.ih 1]) (by simp[ga]) (by simp[nD,od,bV.dM [0]]) ?_
 simp[dM,hH];(repeat (rw[δ];simp));apply I;exact W.ret ⟨_,rfl,rfl,rfl⟩
theorem XU (d:Array (Int×Int)) (n:Nat) (Η:d.size=n) (j7:n<=12) (an:θ) (cmp:Int×Int->Int×Int->Int) (bV:au 0 an) (Φ:∀x y,gj Tryz.prog an [az x,az y] (R (cmp x y))) :
  ak Tryz.prog 173 [.ms 0 n 0 n,an] [.cells 112 2 (d.toList.map az)] (λr s=>r=.bn []/\s=[.cells 112 2 ((Go.Sort.insertionSort (av cmp) d 0 n).toList.map az)]) (λ_ _=>False):=by
 refine ak.body Ι Tryz.func173 rfl rfl Tryz.ntmps173 rfl rfl (by simp) ?_;have Ζ:=fJ (show n<2 ^ 62 by omega);have Ε:IntKind.u64.wrap (n:Int)=n:=by unfold IntKind.wrap;simp[IntKind.bits,IntKind.signed];omega
 (repeat (first|apply κ|(refine ν λη I=>?_;simp;(repeat (rw[δ];simp[Η]));apply I)));(repeat apply κ);refine ν λη I=>?_;simp;(repeat (rw[δ];simp[Η,Ζ,Ε]));refine ay.c (wa n (by omega)) (aK.refl _) (by simp) (by simp) ?_;simp;(repeat (rw[δ];simp));refine ak.one (XT d n (Go.Sort.bitsLen n) Η j7 an cmp bV Φ) 0 rfl (λe he a ξ=>by
  obtain⟨y,Ξ,rfl⟩:=List.mem_map.1 he;exact sR y a ξ) (λe he a ξ=>by
  obtain⟨y,Ξ,rfl⟩:=List.mem_map.1 he;exact sR y a ξ) (by simp[nC,v',bV.ih 1]) (by simp[ga]) (by simp[nD,od,bV.dM [0]]) ?_
 simp[dM,hH];(repeat (rw[δ];simp));apply I;exact W.nil ⟨_,rfl,rfl,rfl⟩
theorem XV (d:Array (Found)) (n lim:Nat) (Η:d.size=n) (j7:n<=12) (an:θ) (cmp:Found->Found->Int) (bV:au 0 an) (Φ:∀x y,gj Tryz.prog an [c7 x,c7 y] (R (cmp x y))) :
  ak Tryz.prog 182 [.ms 0 n 0 n,R 0,R n,R lim,an] [.cells 110 3 (d.toList.map c7)] (λr s=>r=.bn []/\s=[.cells 110 3 ((Go.Sort.insertionSort (av cmp) d 0 n).toList.map c7)]) (λ_ _=>False):=by
 refine ak.body Ι Tryz.func182 rfl rfl Tryz.ntmps182 rfl rfl (by simp) ?_;have Ζ:=fJ (show n<2 ^ 62 by omega);have Ε:(n:Int)<=12:=by omega
 (repeat (first|apply κ|(refine ν λη I=>?_;simp;(repeat (rw[δ];simp));apply I)));refine .loop ?_;(repeat (first|apply κ|(refine ν λη I=>?_;simp;(repeat (rw[δ];simp[Ζ]));apply I)));refine aj (by simp;omega) ?_;(repeat apply κ);refine ν λη I=>?_;simp;(repeat (rw[δ];simp));refine ak.one (XQ d n 0 n Η (Nat.zero_le _) (Nat.le_refl _) (by omega) an cmp bV Φ) 0 rfl (λe he a ξ=>by
  obtain⟨y,Ξ,rfl⟩:=List.mem_map.1 he;exact x0 y a ξ) (λe he a ξ=>by
  obtain⟨y,Ξ,rfl⟩:=List.mem_map.1 he;exact x0 y a ξ) (by simp[nC,v',bV.ih 1]) (by simp[ga]) (by simp[nD,od,bV.dM [0]]) ?_
 simp[dM,hH];(repeat (rw[δ];simp));apply I;exact W.ret ⟨_,rfl,rfl,rfl⟩
theorem XW (d:Array (Found)) (n:Nat) (Η:d.size=n) (j7:n<=12) (an:θ) (cmp:Found->Found->Int) (bV:au 0 an) (Φ:∀x y,gj Tryz.prog an [c7 x,c7 y] (R (cmp x y))) :
  ak Tryz.prog 147 [.ms 0 n 0 n,an] [.cells 110 3 (d.toList.map c7)] (λr s=>r=.bn []/\s=[.cells 110 3 ((Go.Sort.insertionSort (av cmp) d 0 n).toList.map c7)]) (λ_ _=>False):=by
 refine ak.body Ι Tryz.func147 rfl rfl Tryz.ntmps147 rfl rfl (by simp) ?_;have Ζ:=fJ (show n<2 ^ 62 by omega);have Ε:IntKind.u64.wrap (n:Int)=n:=by unfold IntKind.wrap;simp[IntKind.bits,IntKind.signed];omega
 (repeat (first|apply κ|(refine ν λη I=>?_;simp;(repeat (rw[δ];simp[Η]));apply I)));(repeat apply κ);refine ν λη I=>?_;simp;(repeat (rw[δ];simp[Η,Ζ,Ε]));refine ay.c (wa n (by omega)) (aK.refl _) (by simp) (by simp) ?_;simp;(repeat (rw[δ];simp));refine ak.one (XV d n (Go.Sort.bitsLen n) Η j7 an cmp bV Φ) 0 rfl (λe he a ξ=>by
  obtain⟨y,Ξ,rfl⟩:=List.mem_map.1 he;exact x0 y a ξ) (λe he a ξ=>by
  obtain⟨y,Ξ,rfl⟩:=List.mem_map.1 he;exact x0 y a ξ) (by simp[nC,v',bV.ih 1]) (by simp[ga]) (by simp[nD,od,bV.dM [0]]) ?_
 simp[dM,hH];(repeat (rw[δ];simp));apply I;exact W.nil ⟨_,rfl,rfl,rfl⟩
theorem XX (d:Array (Int)) (n lim:Nat) (Η:d.size=n) (j7:n<=12)  :
  ak Tryz.prog 157 [.ms 0 n 0 n,R 0,R n,R lim] [.cells 3 1 (d.toList.map R)] (λr s=>r=.bn []/\s=[.cells 3 1 ((Go.Sort.insertionSort (Go.Sort.ltInt) d 0 n).toList.map R)]) (λ_ _=>False):=by
 refine ak.body Ι Tryz.func157 rfl rfl Tryz.ntmps157 rfl rfl (by simp) ?_;have Ζ:=fJ (show n<2 ^ 62 by omega);have Ε:(n:Int)<=12:=by omega
 (repeat (first|apply κ|(refine ν λη I=>?_;simp;(repeat (rw[δ];simp));apply I)));refine .loop ?_;(repeat (first|apply κ|(refine ν λη I=>?_;simp;(repeat (rw[δ];simp[Ζ]));apply I)));refine aj (by simp;omega) ?_;(repeat apply κ);refine ν λη I=>?_;simp;(repeat (rw[δ];simp));refine ak.one (XR d n 0 n Η (Nat.zero_le _) (Nat.le_refl _) (by omega)) 0 rfl (λe he a ξ=>by
  obtain⟨y,Ξ,rfl⟩:=List.mem_map.1 he;exact ui y a ξ) (λe he a ξ=>by
  obtain⟨y,Ξ,rfl⟩:=List.mem_map.1 he;exact ui y a ξ) (by simp[nC,v']) (by simp[ga]) (by simp[nD,od]) ?_
 simp[dM,hH];(repeat (rw[δ];simp));apply I;exact W.ret ⟨_,rfl,rfl,rfl⟩
theorem XY (d:Array (Int)) (n:Nat) (Η:d.size=n) (j7:n<=12)  :
  ak Tryz.prog 132 [.ms 0 n 0 n] [.cells 3 1 (d.toList.map R)] (λr s=>r=.bn []/\s=[.cells 3 1 ((Go.Sort.insertionSort (Go.Sort.ltInt) d 0 n).toList.map R)]) (λ_ _=>False):=by
 refine ak.body Ι Tryz.func132 rfl rfl Tryz.ntmps132 rfl rfl (by simp) ?_;have Ζ:=fJ (show n<2 ^ 62 by omega);have Ε:IntKind.u64.wrap (n:Int)=n:=by unfold IntKind.wrap;simp[IntKind.bits,IntKind.signed];omega
 (repeat (first|apply κ|(refine ν λη I=>?_;simp;(repeat (rw[δ];simp[Η]));apply I)));(repeat apply κ);refine ν λη I=>?_;simp;(repeat (rw[δ];simp[Η,Ζ,Ε]));refine ay.c (wa n (by omega)) (aK.refl _) (by simp) (by simp) ?_;simp;(repeat (rw[δ];simp));refine ak.one (XX d n (Go.Sort.bitsLen n) Η j7) 0 rfl (λe he a ξ=>by
  obtain⟨y,Ξ,rfl⟩:=List.mem_map.1 he;exact ui y a ξ) (λe he a ξ=>by
  obtain⟨y,Ξ,rfl⟩:=List.mem_map.1 he;exact ui y a ξ) (by simp[nC,v']) (by simp[ga]) (by simp[nD,od]) ?_
 simp[dM,hH];(repeat (rw[δ];simp));apply I;exact W.nil ⟨_,rfl,rfl,rfl⟩
theorem XZ (l:List Int) (an:θ) (p:Int->Bool) (ω:l.length<2 ^ 62) (hb:au 0 an) (Φ:∀x∈l,gj Tryz.prog an [R x] (a4 (p x))):ay Tryz.prog 131 [aP R 1 l,an] (R (idxOf p l)):=by
 refine ak.body Ι Tryz.func131 rfl rfl Tryz.ntmps131 rfl rfl (by simp) ?_;(repeat (first|apply κ|(refine ν λη I=>?_;simp;(repeat (rw[δ];simp));apply I)));refine W.iter (λi:Nat=>i<=l.length/\∀j,j<i->(h:j<l.length)->p l[j]=false) (λi=>[(0,aP R 1 l),(1,an),(6,aP R 1 l),(7,R l.length),(8,R i)]) (λ_=>[]) (λi=>l.length-i) 0 ⟨Nat.zero_le _,λj ε=>by omega⟩ rfl (by simp) (λi hi Δ=>?_);(repeat (first|apply κ|(refine ν λη I=>?_;simp;(repeat (rw[δ];simp));apply I)));refine W.en rfl (λζ=>?_) (λζ=>?_)
 ·have ζ:i<l.length:=by simpa using ζ
  (repeat (first|apply κ|(refine ν λη I=>?_;simp;(repeat (rw[δ];simp[ζ]));apply I)));(repeat apply κ);refine ν λη I=>?_;simp;(repeat (rw[δ];simp[ζ]));refine(Φ _ (List.getElem_mem ζ)).c ?_;simp;(repeat (rw[δ];simp));apply I;cases ψ:p l[i]
  ·refine ah (by simp[ψ]) ?_;(repeat (first|apply κ|(refine ν λη I=>?_;simp;(repeat (rw[δ];simp));apply I)));refine W.forget _ ?_ (Δ (i+1) ⟨by omega,λj ε h=>?_⟩ (by omega))
   ·simp[fe ζ ω]
   ·by_cases e:j=i
    ·subst e;exact ψ
    ·exact hi.2 j (by omega) h
  ·refine aj (by simp[ψ]) ?_;(repeat (first|apply κ|(refine ν λη I=>?_;simp;(repeat (rw[δ];simp));apply I)));refine W.ret ⟨_,rfl,?_,rfl⟩;exact .of (by rw[D6 ζ ψ hi.2];rfl)
 ·have ζ:l.length<=i:=by simpa using ζ
  refine W.exit rfl ?_;(repeat (first|apply κ|(refine ν λη I=>?_;simp;(repeat (rw[δ];simp));apply I)));refine W.ret ⟨_,rfl,?_,rfl⟩;exact .of (by rw[D7 λj ε=>hi.2 j (by omega) ε];rfl)
theorem X0 (l:List Int) (an:θ) (p:Int->Bool) (ω:l.length<2 ^ 62) (hb:au 0 an) (Φ:∀x∈l,gj Tryz.prog an [R x] (a4 (p x))):ay Tryz.prog 94 [aP R 1 l,an] (a4 (l.any p)):=by
 refine ak.body Ι Tryz.func94 rfl rfl Tryz.ntmps94 rfl rfl (by simp) ?_;(repeat (first|apply κ|(refine ν λη I=>?_;simp;(repeat (rw[δ];simp));apply I)));(repeat apply κ);refine ν λη I=>?_;simp;(repeat (rw[δ];simp));refine ay.c (XZ l an p ω hb Φ) (aK.refl _) (by simp[hb]) (by simp) ?_;simp;(repeat (rw[δ];simp));apply I;(repeat (first|apply κ|(refine ν λη I=>?_;simp;(repeat (rw[δ];simp));apply I)));refine W.ret ⟨_,rfl,?_,rfl⟩;exact .of (by rw[<-D8 (p:=p)];rfl)
theorem X1 (l:List lS) (an:θ) (p:lS->Bool) (ω:l.length<2 ^ 62) (hb:au 0 an) (Φ:∀x∈l,gj Tryz.prog an [eA x] (a4 (p x))):ay Tryz.prog 100 [aP eA 2 l,an] (R (idxOf p l)):=by
 refine ak.body Ι Tryz.func100 rfl rfl Tryz.ntmps100 rfl rfl (by simp) ?_;(repeat (first|apply κ|(refine ν λη I=>?_;simp;(repeat (rw[δ];simp));apply I)));refine W.iter (λi:Nat=>i<=l.length/\∀j,j<i->(h:j<l.length)->p l[j]=false) (λi=>[(0,aP eA 2 l),(1,an),(6,aP eA 2 l),(7,R l.length),(8,R i)]) (λ_=>[]) (λi=>l.length-i) 0 ⟨Nat.zero_le _,λj ε=>by omega⟩ rfl (by simp) (λi hi Δ=>?_);(repeat (first|apply κ|(refine ν λη I=>?_;simp;(repeat (rw[δ];simp));apply I)));refine W.en rfl (λζ=>?_) (λζ=>?_)
 ·have ζ:i<l.length:=by simpa using ζ
  (repeat (first|apply κ|(refine ν λη I=>?_;simp;(repeat (rw[δ];simp[ζ]));apply I)));(repeat apply κ);refine ν λη I=>?_;simp;(repeat (rw[δ];simp[ζ]));refine(Φ _ (List.getElem_mem ζ)).c ?_;simp;(repeat (rw[δ];simp));apply I;cases ψ:p l[i]
  ·refine ah (by simp[ψ]) ?_;(repeat (first|apply κ|(refine ν λη I=>?_;simp;(repeat (rw[δ];simp));apply I)));refine W.forget _ ?_ (Δ (i+1) ⟨by omega,λj ε h=>?_⟩ (by omega))
   ·simp[fe ζ ω]
   ·by_cases e:j=i
    ·subst e;exact ψ
    ·exact hi.2 j (by omega) h
  ·refine aj (by simp[ψ]) ?_;(repeat (first|apply κ|(refine ν λη I=>?_;simp;(repeat (rw[δ];simp));apply I)));refine W.ret ⟨_,rfl,?_,rfl⟩;exact .of (by rw[D6 ζ ψ hi.2];rfl)
 ·have ζ:l.length<=i:=by simpa using ζ
  refine W.exit rfl ?_;(repeat (first|apply κ|(refine ν λη I=>?_;simp;(repeat (rw[δ];simp));apply I)));refine W.ret ⟨_,rfl,?_,rfl⟩;exact .of (by rw[D7 λj ε=>hi.2 j (by omega) ε];rfl)
theorem X2 (l:List lS) (an:θ) (p:lS->Bool) (ω:l.length<2 ^ 62) (hb:au 0 an) (Φ:∀x∈l,gj Tryz.prog an [eA x] (a4 (p x))):ay Tryz.prog 135 [aP eA 2 l,an] (a4 (l.any p)):=by
 refine ak.body Ι Tryz.func135 rfl rfl Tryz.ntmps135 rfl rfl (by simp) ?_;(repeat (first|apply κ|(refine ν λη I=>?_;simp;(repeat (rw[δ];simp));apply I)));(repeat apply κ);refine ν λη I=>?_;simp;(repeat (rw[δ];simp));refine ay.c (X1 l an p ω hb Φ) (aK.refl _) (by simp[hb]) (by simp) ?_;simp;(repeat (rw[δ];simp));apply I;(repeat (first|apply κ|(refine ν λη I=>?_;simp;(repeat (rw[δ];simp));apply I)));refine W.ret ⟨_,rfl,?_,rfl⟩;exact .of (by rw[<-D8 (p:=p)];rfl)
theorem X3 (l:List eF) (an:θ) (p:eF->Bool) (ω:l.length<2 ^ 62) (hb:au 0 an) (Φ:∀x∈l,gj Tryz.prog an [eB x] (a4 (p x))):ay Tryz.prog 230 [aP eB 3 l,an] (R (idxOf p l)):=by
 refine ak.body Ι Tryz.func230 rfl rfl Tryz.ntmps230 rfl rfl (by simp) ?_;(repeat (first|apply κ|(refine ν λη I=>?_;simp;(repeat (rw[δ];simp));apply I)));refine W.iter (λi:Nat=>i<=l.length/\∀j,j<i->(h:j<l.length)->p l[j]=false) (λi=>[(0,aP eB 3 l),(1,an),(6,aP eB 3 l),(7,R l.length),(8,R i)]) (λ_=>[]) (λi=>l.length-i) 0 ⟨Nat.zero_le _,λj ε=>by omega⟩ rfl (by simp) (λi hi Δ=>?_);(repeat (first|apply κ|(refine ν λη I=>?_;simp;(repeat (rw[δ];simp));apply I)));refine W.en rfl (λζ=>?_) (λζ=>?_)
 ·have ζ:i<l.length:=by simpa using ζ
  (repeat (first|apply κ|(refine ν λη I=>?_;simp;(repeat (rw[δ];simp[ζ]));apply I)));(repeat apply κ);refine ν λη I=>?_;simp;(repeat (rw[δ];simp[ζ]));refine(Φ _ (List.getElem_mem ζ)).c ?_;simp;(repeat (rw[δ];simp));apply I;cases ψ:p l[i]
  ·refine ah (by simp[ψ]) ?_;(repeat (first|apply κ|(refine ν λη I=>?_;simp;(repeat (rw[δ];simp));apply I)));refine W.forget _ ?_ (Δ (i+1) ⟨by omega,λj ε h=>?_⟩ (by omega))
   ·simp[fe ζ ω]
   ·by_cases e:j=i
    ·subst e;exact ψ
    ·exact hi.2 j (by omega) h
  ·refine aj (by simp[ψ]) ?_;(repeat (first|apply κ|(refine ν λη I=>?_;simp;(repeat (rw[δ];simp));apply I)));refine W.ret ⟨_,rfl,?_,rfl⟩;exact .of (by rw[D6 ζ ψ hi.2];rfl)
 ·have ζ:l.length<=i:=by simpa using ζ
  refine W.exit rfl ?_;(repeat (first|apply κ|(refine ν λη I=>?_;simp;(repeat (rw[δ];simp));apply I)));refine W.ret ⟨_,rfl,?_,rfl⟩;exact .of (by rw[D7 λj ε=>hi.2 j (by omega) ε];rfl)
theorem X4 (l:List eF) (an:θ) (p:eF->Bool) (ω:l.length<2 ^ 62) (hb:au 0 an) (Φ:∀x∈l,gj Tryz.prog an [eB x] (a4 (p x))):ay Tryz.prog 194 [aP eB 3 l,an] (a4 (l.any p)):=by
 refine ak.body Ι Tryz.func194 rfl rfl Tryz.ntmps194 rfl rfl (by simp) ?_;(repeat (first|apply κ|(refine ν λη I=>?_;simp;(repeat (rw[δ];simp));apply I)));(repeat apply κ);refine ν λη I=>?_;simp;(repeat (rw[δ];simp));refine ay.c (X3 l an p ω hb Φ) (aK.refl _) (by simp[hb]) (by simp) ?_;simp;(repeat (rw[δ];simp));apply I;(repeat (first|apply κ|(refine ν λη I=>?_;simp;(repeat (rw[δ];simp));apply I)));refine W.ret ⟨_,rfl,?_,rfl⟩;exact .of (by rw[<-D8 (p:=p)];rfl)
end Go.TL
