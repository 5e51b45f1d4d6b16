import Derived.Test.YtlabjopijpkiaaaGreatQAV
import Derived.Test.YtlabjopijpkiaaaGreatQAX
set_option maxHeartbeats 16000000
set_option maxRecDepth 20000
set_option linter.unusedSectionVars false
set_option linter.unusedSimpArgs false
set_option linter.unusedVariables false
namespace Go.TL
open Go.Proofs
variable [bd]
theorem UK (n:Nat) (h:n<256):av Tryz.prog 192 [.z (.int .u64 n)] (U (Go.Sort.bitsLen n)):=by
 refine ak.body Θ Tryz.func192 rfl rfl Tryz.ntmps192 rfl rfl (by simp) ?_;have R:¬(n:Int)≥4294967296:=by omega
 have γ:¬(n:Int)≥65536:=by omega
 have ο:¬(n:Int)≥256:=by omega
 have Ξ:¬(4294967296:Int)≤n:=by omega
 have ad:¬(65536:Int)≤n:=by omega
 have aT:¬(256:Int)≤n:=by omega
 (repeat (first|apply ι|(refine ν fun J I=>?_;simp;(repeat (rw[ζ];simp[Ξ]));apply I;clear I J)));refine ah rfl ?_;(repeat (first|apply ι|(refine ν fun J I=>?_;simp;(repeat (rw[ζ];simp[ad]));apply I;clear I J)));refine ah rfl ?_;(repeat (first|apply ι|(refine ν fun J I=>?_;simp;(repeat (rw[ζ];simp[aT]));apply I;clear I J)));refine ah rfl ?_;have hw:IntKind.u8.wrap (n:Int)=n:=by unfold IntKind.wrap;simp[IntKind.bits,IntKind.signed];omega
 (repeat (first|apply ι));refine ν fun J I=>?_;simp;(repeat (rw[ζ];simp[hw]));refine⟨Nat.lt_of_lt_of_eq h (by kernel_rfl),?_⟩;apply I;clear I J;(repeat (first|apply ι|(refine ν fun J I=>?_;simp;(repeat (rw[ζ];simp));apply I;clear I J)));refine W.ret ⟨_,rfl,?_,rfl⟩;refine .of (congrArg (fun i=>θ.z (.int .i64 i)) ?_);clear R γ ο Ξ ad aT hw;revert n;decide +kernel
theorem uU (n:Nat) (h:n<256):av Tryz.prog 150 [.z (.int .u64 n)] (U (Go.Sort.bitsLen n)):=by
 refine ak.body Θ Tryz.func150 rfl rfl Tryz.ntmps150 rfl rfl (by simp) ?_;(repeat (first|apply ι|(refine ν fun J I=>?_;simp;(repeat (rw[ζ];simp));apply I;clear I J)));refine ah rfl ?_;(repeat (first|apply ι));refine ν fun J I=>?_;simp;(repeat (rw[ζ];simp));refine av.c (UK n h) (aI.refl _) (by simp) (by simp) ?_;simp;(repeat (rw[ζ];simp));apply I;clear I J;(repeat (first|apply ι|(refine ν fun J I=>?_;simp;(repeat (rw[ζ];simp));apply I;clear I J)));refine W.ret ⟨_,rfl,?_,rfl⟩;exact .of rfl
theorem rK (y:Int×Int):∀a∈(ax y).cells,az 0 a:=by simp[θ.cells]
theorem wG (y:Found):∀a∈(cX y).cells,az 0 a:=by simp[θ.cells]
theorem sW (y:Int):∀a∈(U y).cells,az 0 a:=by simp[θ.cells]
theorem UL (d:Array (Int×Int)) (n lim:Nat) (Η:d.size=n) (jB:n≤12) (ai:θ) (cmp:Int×Int→Int×Int→Int) (bR:az 0 ai) (Ρ:∀x y,fT Tryz.prog ai [ax x,ax y] (U (cmp x y))) :
  ak Tryz.prog 211 [.ms 0 n 0 n,U 0,U n,U lim,ai] [.cells 112 2 (d.toList.map ax)] (fun r s=>r=.bt []∧s=[.cells 112 2 ((Go.Sort.insertionSort (ar cmp) d 0 n).toList.map ax)]) (fun _ _=>False):=by
 refine ak.body Θ Tryz.func211 rfl rfl Tryz.ntmps211 rfl rfl (by simp) ?_;have Ε:=fy (show n<2 ^ 62 by omega);have Δ:(n:Int)≤12:=by omega
 (repeat (first|apply ι|(refine ν fun J I=>?_;simp;(repeat (rw[ζ];simp));apply I;clear I J)));refine .loop ?_;(repeat (first|apply ι|(refine ν fun J I=>?_;simp;(repeat (rw[ζ];simp[Ε]));apply I;clear I J)));refine al (by simp;omega) ?_;(repeat (first|apply ι));refine ν fun J I=>?_;simp;(repeat (rw[ζ];simp));refine ak.one (L4 d n 0 n Η (Nat.zero_le _) (Nat.le_refl _) (by omega) ai cmp bR Ρ) 0 rfl (fun e he a μ=>by
  obtain⟨y,Ο,rfl⟩:=List.mem_map.1 he;exact rK y a μ) (fun e he a μ=>by
  obtain⟨y,Ο,rfl⟩:=List.mem_map.1 he;exact rK y a μ) (by simp[nn,uS,bR.ih 1]) (by simp[fJ]) (by simp[np,nq,bR.dP [0]]) ?_
 simp[dP,hE];(repeat (rw[ζ];simp));apply I;clear I J;exact W.ret ⟨_,rfl,rfl,rfl⟩
theorem UM (d:Array (Int×Int)) (n:Nat) (Η:d.size=n) (jB:n≤12) (ai:θ) (cmp:Int×Int→Int×Int→Int) (bR:az 0 ai) (Ρ:∀x y,fT Tryz.prog ai [ax x,ax y] (U (cmp x y))) :
  ak Tryz.prog 173 [.ms 0 n 0 n,ai] [.cells 112 2 (d.toList.map ax)] (fun r s=>r=.bt []∧s=[.cells 112 2 ((Go.Sort.insertionSort (ar cmp) d 0 n).toList.map ax)]) (fun _ _=>False):=by
 refine ak.body Θ Tryz.func173 rfl rfl Tryz.ntmps173 rfl rfl (by simp) ?_;have Ε:=fy (show n<2 ^ 62 by omega);have Δ:IntKind.u64.wrap (n:Int)=n:=by unfold IntKind.wrap;simp[IntKind.bits,IntKind.signed];omega
 (repeat (first|apply ι|(refine ν fun J I=>?_;simp;(repeat (rw[ζ];simp[Η]));apply I;clear I J)));(repeat (first|apply ι));refine ν fun J I=>?_;simp;(repeat (rw[ζ];simp[Η,Ε,Δ]));refine av.c (uU n (by omega)) (aI.refl _) (by simp) (by simp) ?_;simp;(repeat (rw[ζ];simp));refine ak.one (UL d n (Go.Sort.bitsLen n) Η jB ai cmp bR Ρ) 0 rfl (fun e he a μ=>by
  obtain⟨y,Ο,rfl⟩:=List.mem_map.1 he;exact rK y a μ) (fun e he a μ=>by
  obtain⟨y,Ο,rfl⟩:=List.mem_map.1 he;exact rK y a μ) (by simp[nn,uS,bR.ih 1]) (by simp[fJ]) (by simp[np,nq,bR.dP [0]]) ?_
 simp[dP,hE];(repeat (rw[ζ];simp));apply I;clear I J;exact W.nil ⟨_,rfl,rfl,rfl⟩
theorem UN (d:Array (Found)) (n lim:Nat) (Η:d.size=n) (jB:n≤12) (ai:θ) (cmp:Found→Found→Int) (bR:az 0 ai) (Ρ:∀x y,fT Tryz.prog ai [cX x,cX y] (U (cmp x y))) :
  ak Tryz.prog 182 [.ms 0 n 0 n,U 0,U n,U lim,ai] [.cells 110 3 (d.toList.map cX)] (fun r s=>r=.bt []∧s=[.cells 110 3 ((Go.Sort.insertionSort (ar cmp) d 0 n).toList.map cX)]) (fun _ _=>False):=by
 refine ak.body Θ Tryz.func182 rfl rfl Tryz.ntmps182 rfl rfl (by simp) ?_;have Ε:=fy (show n<2 ^ 62 by omega);have Δ:(n:Int)≤12:=by omega
 (repeat (first|apply ι|(refine ν fun J I=>?_;simp;(repeat (rw[ζ];simp));apply I;clear I J)));refine .loop ?_;(repeat (first|apply ι|(refine ν fun J I=>?_;simp;(repeat (rw[ζ];simp[Ε]));apply I;clear I J)));refine al (by simp;omega) ?_;(repeat (first|apply ι));refine ν fun J I=>?_;simp;(repeat (rw[ζ];simp));refine ak.one (UI d n 0 n Η (Nat.zero_le _) (Nat.le_refl _) (by omega) ai cmp bR Ρ) 0 rfl (fun e he a μ=>by
  obtain⟨y,Ο,rfl⟩:=List.mem_map.1 he;exact wG y a μ) (fun e he a μ=>by
  obtain⟨y,Ο,rfl⟩:=List.mem_map.1 he;exact wG y a μ) (by simp[nn,uS,bR.ih 1]) (by simp[fJ]) (by simp[np,nq,bR.dP [0]]) ?_
 simp[dP,hE];(repeat (rw[ζ];simp));apply I;clear I J;exact W.ret ⟨_,rfl,rfl,rfl⟩
theorem UO (d:Array (Found)) (n:Nat) (Η:d.size=n) (jB:n≤12) (ai:θ) (cmp:Found→Found→Int) (bR:az 0 ai) (Ρ:∀x y,fT Tryz.prog ai [cX x,cX y] (U (cmp x y))) :
  ak Tryz.prog 147 [.ms 0 n 0 n,ai] [.cells 110 3 (d.toList.map cX)] (fun r s=>r=.bt []∧s=[.cells 110 3 ((Go.Sort.insertionSort (ar cmp) d 0 n).toList.map cX)]) (fun _ _=>False):=by
 refine ak.body Θ Tryz.func147 rfl rfl Tryz.ntmps147 rfl rfl (by simp) ?_;have Ε:=fy (show n<2 ^ 62 by omega);have Δ:IntKind.u64.wrap (n:Int)=n:=by unfold IntKind.wrap;simp[IntKind.bits,IntKind.signed];omega
 (repeat (first|apply ι|(refine ν fun J I=>?_;simp;(repeat (rw[ζ];simp[Η]));apply I;clear I J)));(repeat (first|apply ι));refine ν fun J I=>?_;simp;(repeat (rw[ζ];simp[Η,Ε,Δ]));refine av.c (uU n (by omega)) (aI.refl _) (by simp) (by simp) ?_;simp;(repeat (rw[ζ];simp));refine ak.one (UN d n (Go.Sort.bitsLen n) Η jB ai cmp bR Ρ) 0 rfl (fun e he a μ=>by
  obtain⟨y,Ο,rfl⟩:=List.mem_map.1 he;exact wG y a μ) (fun e he a μ=>by
  obtain⟨y,Ο,rfl⟩:=List.mem_map.1 he;exact wG y a μ) (by simp[nn,uS,bR.ih 1]) (by simp[fJ]) (by simp[np,nq,bR.dP [0]]) ?_
 simp[dP,hE];(repeat (rw[ζ];simp));apply I;clear I J;exact W.nil ⟨_,rfl,rfl,rfl⟩
theorem UP (d:Array (Int)) (n lim:Nat) (Η:d.size=n) (jB:n≤12)  :
  ak Tryz.prog 157 [.ms 0 n 0 n,U 0,U n,U lim] [.cells 3 1 (d.toList.map U)] (fun r s=>r=.bt []∧s=[.cells 3 1 ((Go.Sort.insertionSort (Go.Sort.ltInt) d 0 n).toList.map U)]) (fun _ _=>False):=by
 refine ak.body Θ Tryz.func157 rfl rfl Tryz.ntmps157 rfl rfl (by simp) ?_;have Ε:=fy (show n<2 ^ 62 by omega);have Δ:(n:Int)≤12:=by omega
 (repeat (first|apply ι|(refine ν fun J I=>?_;simp;(repeat (rw[ζ];simp));apply I;clear I J)));refine .loop ?_;(repeat (first|apply ι|(refine ν fun J I=>?_;simp;(repeat (rw[ζ];simp[Ε]));apply I;clear I J)));refine al (by simp;omega) ?_;(repeat (first|apply ι));refine ν fun J I=>?_;simp;(repeat (rw[ζ];simp));refine ak.one (UJ d n 0 n Η (Nat.zero_le _) (Nat.le_refl _) (by omega)) 0 rfl (fun e he a μ=>by
  obtain⟨y,Ο,rfl⟩:=List.mem_map.1 he;exact sW y a μ) (fun e he a μ=>by
  obtain⟨y,Ο,rfl⟩:=List.mem_map.1 he;exact sW y a μ) (by simp[nn,uS]) (by simp[fJ]) (by simp[np,nq]) ?_
 simp[dP,hE];(repeat (rw[ζ];simp));apply I;clear I J;exact W.ret ⟨_,rfl,rfl,rfl⟩
theorem UQ (d:Array (Int)) (n:Nat) (Η:d.size=n) (jB:n≤12)  :
  ak Tryz.prog 132 [.ms 0 n 0 n] [.cells 3 1 (d.toList.map U)] (fun r s=>r=.bt []∧s=[.cells 3 1 ((Go.Sort.insertionSort (Go.Sort.ltInt) d 0 n).toList.map U)]) (fun _ _=>False):=by
 refine ak.body Θ Tryz.func132 rfl rfl Tryz.ntmps132 rfl rfl (by simp) ?_;have Ε:=fy (show n<2 ^ 62 by omega);have Δ:IntKind.u64.wrap (n:Int)=n:=by unfold IntKind.wrap;simp[IntKind.bits,IntKind.signed];omega
 (repeat (first|apply ι|(refine ν fun J I=>?_;simp;(repeat (rw[ζ];simp[Η]));apply I;clear I J)));(repeat (first|apply ι));refine ν fun J I=>?_;simp;(repeat (rw[ζ];simp[Η,Ε,Δ]));refine av.c (uU n (by omega)) (aI.refl _) (by simp) (by simp) ?_;simp;(repeat (rw[ζ];simp));refine ak.one (UP d n (Go.Sort.bitsLen n) Η jB) 0 rfl (fun e he a μ=>by
  obtain⟨y,Ο,rfl⟩:=List.mem_map.1 he;exact sW y a μ) (fun e he a μ=>by
  obtain⟨y,Ο,rfl⟩:=List.mem_map.1 he;exact sW y a μ) (by simp[nn,uS]) (by simp[fJ]) (by simp[np,nq]) ?_
 simp[dP,hE];(repeat (rw[ζ];simp));apply I;clear I J;exact W.nil ⟨_,rfl,rfl,rfl⟩
theorem UR (l:List Int) (ai:θ) (p:Int→Bool) (ω:l.length<2 ^ 62) (hb:az 0 ai) (Ρ:∀x∈l,fT Tryz.prog ai [U x] (bm (p x))):av Tryz.prog 131 [a3 U 1 l,ai] (U (idxOf p l)):=by
 refine ak.body Θ Tryz.func131 rfl rfl Tryz.ntmps131 rfl rfl (by simp) ?_;(repeat (first|apply ι|(refine ν fun J I=>?_;simp;(repeat (rw[ζ];simp));apply I;clear I J)));refine W.iter (fun i:Nat=>i≤l.length∧∀j,j<i→(h:j<l.length)→p l[j]=false) (fun i=>[(0,a3 U 1 l),(1,ai),(6,a3 U 1 l),(7,U l.length),(8,U i)]) (fun _=>[]) (fun i=>l.length-i) 0 ⟨Nat.zero_le _,fun j ε=>by omega⟩ rfl (by simp) (fun i hi Γ=>?_);(repeat (first|apply ι|(refine ν fun J I=>?_;simp;(repeat (rw[ζ];simp));apply I;clear I J)));refine W.dY rfl (fun η=>?_) (fun η=>?_)
 ·have η:i<l.length:=by simpa using η
  (repeat (first|apply ι|(refine ν fun J I=>?_;simp;(repeat (rw[ζ];simp[η]));apply I;clear I J)));(repeat (first|apply ι));refine ν fun J I=>?_;simp;(repeat (rw[ζ];simp[η]));refine(Ρ _ (List.getElem_mem η)).c ?_;simp;(repeat (rw[ζ];simp));apply I;clear I J;cases χ:p l[i]
  ·refine ah (by simp[χ]) ?_;(repeat (first|apply ι|(refine ν fun J I=>?_;simp;(repeat (rw[ζ];simp));apply I;clear I J)));refine W.forget _ ?_ (Γ (i+1) ⟨by omega,fun j ε h=>?_⟩ (by omega))
   ·simp[eD η ω]
   ·by_cases e:j=i
    ·subst e;exact χ
    ·exact hi.2 j (by omega) h
  ·refine al (by simp[χ]) ?_;(repeat (first|apply ι|(refine ν fun J I=>?_;simp;(repeat (rw[ζ];simp));apply I;clear I J)));refine W.ret ⟨_,rfl,?_,rfl⟩;exact .of (by rw[CM η χ hi.2];rfl)
 ·have η:l.length≤i:=by simpa using η
  refine W.exit rfl ?_;(repeat (first|apply ι|(refine ν fun J I=>?_;simp;(repeat (rw[ζ];simp));apply I;clear I J)));refine W.ret ⟨_,rfl,?_,rfl⟩;exact .of (by rw[CN fun j ε=>hi.2 j (by omega) ε];rfl)
theorem US (l:List Int) (ai:θ) (p:Int→Bool) (ω:l.length<2 ^ 62) (hb:az 0 ai) (Ρ:∀x∈l,fT Tryz.prog ai [U x] (bm (p x))):av Tryz.prog 94 [a3 U 1 l,ai] (bm (l.any p)):=by
 refine ak.body Θ Tryz.func94 rfl rfl Tryz.ntmps94 rfl rfl (by simp) ?_;(repeat (first|apply ι|(refine ν fun J I=>?_;simp;(repeat (rw[ζ];simp));apply I;clear I J)));(repeat (first|apply ι));refine ν fun J I=>?_;simp;(repeat (rw[ζ];simp));refine av.c (UR l ai p ω hb Ρ) (aI.refl _) (by simp[hb]) (by simp) ?_;simp;(repeat (rw[ζ];simp));apply I;clear I J;(repeat (first|apply ι|(refine ν fun J I=>?_;simp;(repeat (rw[ζ];simp));apply I;clear I J)));refine W.ret ⟨_,rfl,?_,rfl⟩;exact .of (by rw[←CO (p:=p)];rfl)
theorem UT (l:List k4) (ai:θ) (p:k4→Bool) (ω:l.length<2 ^ 62) (hb:az 0 ai) (Ρ:∀x∈l,fT Tryz.prog ai [er x] (bm (p x))):av Tryz.prog 100 [a3 er 2 l,ai] (U (idxOf p l)):=by
 refine ak.body Θ Tryz.func100 rfl rfl Tryz.ntmps100 rfl rfl (by simp) ?_;(repeat (first|apply ι|(refine ν fun J I=>?_;simp;(repeat (rw[ζ];simp));apply I;clear I J)));refine W.iter (fun i:Nat=>i≤l.length∧∀j,j<i→(h:j<l.length)→p l[j]=false) (fun i=>[(0,a3 er 2 l),(1,ai),(6,a3 er 2 l),(7,U l.length),(8,U i)]) (fun _=>[]) (fun i=>l.length-i) 0 ⟨Nat.zero_le _,fun j ε=>by omega⟩ rfl (by simp) (fun i hi Γ=>?_);(repeat (first|apply ι|(refine ν fun J I=>?_;simp;(repeat (rw[ζ];simp));apply I;clear I J)));refine W.dY rfl (fun η=>?_) (fun η=>?_)
 ·have η:i<l.length:=by simpa using η
  (repeat (first|apply ι|(refine ν fun J I=>?_;simp;(repeat (rw[ζ];simp[η]));apply I;clear I J)));(repeat (first|apply ι));refine ν fun J I=>?_;simp;(repeat (rw[ζ];simp[η]));refine(Ρ _ (List.getElem_mem η)).c ?_;simp;(repeat (rw[ζ];simp));apply I;clear I J;cases χ:p l[i]
  ·refine ah (by simp[χ]) ?_;(repeat (first|apply ι|(refine ν fun J I=>?_;simp;(repeat (rw[ζ];simp));apply I;clear I J)));refine W.forget _ ?_ (Γ (i+1) ⟨by omega,fun j ε h=>?_⟩ (by omega))
   ·simp[eD η ω]
   ·by_cases e:j=i
    ·subst e;exact χ
    ·exact hi.2 j (by omega) h
  ·refine al (by simp[χ]) ?_;(repeat (first|apply ι|(refine ν fun J I=>?_;simp;(repeat (rw[ζ];simp));apply I;clear I J)));refine W.ret ⟨_,rfl,?_,rfl⟩;exact .of (by rw[CM η χ hi.2];rfl)
 ·have η:l.length≤i:=by simpa using η
  refine W.exit rfl ?_;(repeat (first|apply ι|(refine ν fun J I=>?_;simp;(repeat (rw[ζ];simp));apply I;clear I J)));refine W.ret ⟨_,rfl,?_,rfl⟩;exact .of (by rw[CN fun j ε=>hi.2 j (by omega) ε];rfl)
theorem UU (l:List k4) (ai:θ) (p:k4→Bool) (ω:l.length<2 ^ 62) (hb:az 0 ai) (Ρ:∀x∈l,fT Tryz.prog ai [er x] (bm (p x))):av Tryz.prog 135 [a3 er 2 l,ai] (bm (l.any p)):=by
 refine ak.body Θ Tryz.func135 rfl rfl Tryz.ntmps135 rfl rfl (by simp) ?_;(repeat (first|apply ι|(refine ν fun J I=>?_;simp;(repeat (rw[ζ];simp));apply I;clear I J)));(repeat (first|apply ι));refine ν fun J I=>?_;simp;(repeat (rw[ζ];simp));refine av.c (UT l ai p ω hb Ρ) (aI.refl _) (by simp[hb]) (by simp) ?_;simp;(repeat (rw[ζ];simp));apply I;clear I J;(repeat (first|apply ι|(refine ν fun J I=>?_;simp;(repeat (rw[ζ];simp));apply I;clear I J)));refine W.ret ⟨_,rfl,?_,rfl⟩;exact .of (by rw[←CO (p:=p)];rfl)
theorem UW (l:List dZ) (ai:θ) (p:dZ→Bool) (ω:l.length<2 ^ 62) (hb:az 0 ai) (Ρ:∀x∈l,fT Tryz.prog ai [e5 x] (bm (p x))):av Tryz.prog 230 [a3 e5 3 l,ai] (U (idxOf p l)):=by
 refine ak.body Θ Tryz.func230 rfl rfl Tryz.ntmps230 rfl rfl (by simp) ?_;(repeat (first|apply ι|(refine ν fun J I=>?_;simp;(repeat (rw[ζ];simp));apply I;clear I J)));refine W.iter (fun i:Nat=>i≤l.length∧∀j,j<i→(h:j<l.length)→p l[j]=false) (fun i=>[(0,a3 e5 3 l),(1,ai),(6,a3 e5 3 l),(7,U l.length),(8,U i)]) (fun _=>[]) (fun i=>l.length-i) 0 ⟨Nat.zero_le _,fun j ε=>by omega⟩ rfl (by simp) (fun i hi Γ=>?_);(repeat (first|apply ι|(refine ν fun J I=>?_;simp;(repeat (rw[ζ];simp));apply I;clear I J)));refine W.dY rfl (fun η=>?_) (fun η=>?_)
 ·have η:i<l.length:=by simpa using η
  (repeat (first|apply ι|(refine ν fun J I=>?_;simp;(repeat (rw[ζ];simp[η]));apply I;clear I J)));(repeat (first|apply ι));refine ν fun J I=>?_;simp;(repeat (rw[ζ];simp[η]));refine(Ρ _ (List.getElem_mem η)).c ?_;simp;(repeat (rw[ζ];simp));apply I;clear I J;cases χ:p l[i]
  ·refine ah (by simp[χ]) ?_;(repeat (first|apply ι|(refine ν fun J I=>?_;simp;(repeat (rw[ζ];simp));apply I;clear I J)));refine W.forget _ ?_ (Γ (i+1) ⟨by omega,fun j ε h=>?_⟩ (by omega))
   ·simp[eD η ω]
   ·by_cases e:j=i
    ·subst e;exact χ
    ·exact hi.2 j (by omega) h
  ·refine al (by simp[χ]) ?_;(repeat (first|apply ι|(refine ν fun J I=>?_;simp;(repeat (rw[ζ];simp));apply I;clear I J)));refine W.ret ⟨_,rfl,?_,rfl⟩;exact .of (by rw[CM η χ hi.2];rfl)
 ·have η:l.length≤i:=by simpa using η
  refine W.exit rfl ?_;(repeat (first|apply ι|(refine ν fun J I=>?_;simp;(repeat (rw[ζ];simp));apply I;clear I J)));refine W.ret ⟨_,rfl,?_,rfl⟩;exact .of (by rw[CN fun j ε=>hi.2 j (by omega) ε];rfl)
theorem UX (l:List dZ) (ai:θ) (p:dZ→Bool) (ω:l.length<2 ^ 62) (hb:az 0 ai) (Ρ:∀x∈l,fT Tryz.prog ai [e5 x] (bm (p x))):av Tryz.prog 194 [a3 e5 3 l,ai] (bm (l.any p)):=by
 refine ak.body Θ Tryz.func194 rfl rfl Tryz.ntmps194 rfl rfl (by simp) ?_;(repeat (first|apply ι|(refine ν fun J I=>?_;simp;(repeat (rw[ζ];simp));apply I;clear I J)));(repeat (first|apply ι));refine ν fun J I=>?_;simp;(repeat (rw[ζ];simp));refine av.c (UW l ai p ω hb Ρ) (aI.refl _) (by simp[hb]) (by simp) ?_;simp;(repeat (rw[ζ];simp));apply I;clear I J;(repeat (first|apply ι|(refine ν fun J I=>?_;simp;(repeat (rw[ζ];simp));apply I;clear I J)));refine W.ret ⟨_,rfl,?_,rfl⟩;exact .of (by rw[←CO (p:=p)];rfl)
end Go.TL
