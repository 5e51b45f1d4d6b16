import Derived.Test.YtlabjopijpkiaaaGreatDAZ
import Derived.Test.YtlabjopijpkiaaaGreatDBA
import Derived.Test.YtlabjopijpkiaaaGreatDBB
set_option maxHeartbeats 16000000
set_option maxRecDepth 20000
set_option linter.unusedSectionVars false
set_option linter.unusedSimpArgs false
set_option linter.unusedVariables false
namespace Go.TL
open Go.Proofs
variable [bj]
theorem P6 {s:aL} (h:lV s) (p:Int×Int) (c:Nat):(ji s p c).length<=49:=by
 have I:=aΚ (λr=>s.vn p r c) s.Τ.length (s.Τ.length+1) 0;rw[Nh] at I;have R:=h.Τ.hi;have ν:(s.Τ.length+1)*(s.Τ.length+1)<=7*7:=Nat.mul_le_mul γ γ;unfold ji;omega
theorem cε {l:List (List (Int×Int))} (h:∀c∈l,c.length<=49) (gy:Int) (i:Nat):ik l gy i<=49 ^ i:=by
 induction i with
 | zero=>simp[ik]
 | succ i ω=>
  rw[Dr,Nat.pow_succ];refine Nat.mul_le_mul ω ?_;split
  ·omega
  ·cases ε:l[i]? with
   | none=>simp
   | some c=>simpa using h c (cx ε)
theorem P7 {s:aL} (h:lV s) (p:Int×Int):∀c∈(ha s p).cells,c.length<=49:=λc ε=>by
 obtain⟨i,_,rfl⟩:=List.mem_map.1 ε;exact P6 h p i
theorem P8 {s:aL} (h:lV s) (p:Int×Int) (gy:Int) {i:Nat} (hi:i<=s.cells.length):ik (ha s p).cells gy i<=5764801:=by
 have:=h.many;exact Nat.le_trans (cε (P7 h p) gy i) (Nat.le_trans (Nat.pow_le_pow_right a0 (show i<=4 by omega)) a0)
theorem cζ {s:aL} (h:lV s):I5 49 s where
 small:=h.small
 Τ:=by have:=h.Τ.hi;omega
 lit c ε x U:=((h.cells c ε).each x U).1
 reads k _ c _:=P6 h _ c
 many k _ i hi:=by have:=P8 h (gV k) (-1) hi;omega
theorem A5 {s:aL} (h:lV s):@m' n4 s (bW s):=O7 a0 (λc=>@cγ c) (cζ h)
theorem P9 {s:aL} {f:Found}:f∈bW s↔∃k,k<3/\0<(ha s (gV k)).many (-1)/\f=ha s (gV k):=by
 unfold bW;rw[List.mem_filterMap];constructor
 ·rintro⟨k,ψ,h⟩;unfold k' at h;split at h
  ·rename_i ε;exact⟨k,ε.1,ε.2,(Option.some.inj h).symm⟩
  ·cases h
 ·rintro⟨k,ψ,I,rfl⟩;exact⟨k,List.mem_range.2 ψ,by unfold k';rw[if_pos ⟨ψ,I⟩]⟩
theorem EK (s:aL):(bW s).length<=3:=by
 unfold bW;exact Nat.le_trans (List.length_filterMap_le _ _) η
theorem P' {s:aL} (h:lV s):Small (bW s):=by
 have Ι:=h.many;refine⟨by have:=EK s;omega,λf Υ=>?_⟩;obtain⟨k,_,_,rfl⟩:=P9.1 Υ;have υ:(ha s (gV k)).cells.length=s.cells.length:=by simp[ha]
 refine⟨by rw[υ];omega,λi hi gy=>?_,λc ε=>?_⟩
 ·have:=P8 h (gV k) gy (show i<=s.cells.length by omega);omega
 ·have:=P7 h (gV k) c ε;omega
theorem cη {s:aL} (p:Int×Int):(ha s p).many (-1)=ik (ha s p).cells (-1) s.cells.length:=by
 unfold Found.many;simp[ha]
theorem cθ {s:aL} (p:Int×Int) {c:Nat} (ε:c<s.cells.length):ik (ha s p).cells (-1) (c+1)=ik (ha s p).cells (-1) c*(ji s p c).length:=by
 rw[Dr,if_neg γ];have:(ha s p).cells[c]?=some (ji s p c):=by
  unfold ha;simp[ε]
 rw[this];rfl
def cnt (x n:Int):Nat->Int
 | 0=>0
 | k+1=>cnt x n k+(if iA .i64 x (2 ^ k)≠0 then 1 else 0)-(if iA .i64 n (2 ^ k)≠0 then 1 else 0)
end Go.TL
