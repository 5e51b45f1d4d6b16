import Derived.Test.YtlabjopijpkiaaaGreatVAY
import Derived.Test.YtlabjopijpkiaaaGreatVBA
import Derived.Test.YtlabjopijpkiaaaGreatVBB
set_option maxHeartbeats 16000000
set_option maxRecDepth 20000
set_option linter.unusedSectionVars false
set_option linter.unusedSimpArgs false
set_option linter.unusedVariables false
namespace Go.TL
open Go.Proofs
variable [bn]
theorem J2 {s:aT} (h:jm s) (p:Int×Int) (c:Nat):(jj s p c).length<=49:=by
 have J:=dβ (λr=>s.sH p r c) s.au.length (s.au.length+1) 0;rw[ND] at J;have U:=h.au.hi;have μ:(s.au.length+1)*(s.au.length+1)<=7*7:=Nat.mul_le_mul R R;unfold jj;omega
theorem dΘ {l:List (List (Int×Int))} (h:∀c∈l,c.length<=49) (hJ:Int) (i:Nat):ir l hJ i<=49 ^ i:=by
 induction i with
 | zero=>simp[ir]
 | succ i Β=>
  rw[D3,Nat.pow_succ];refine Nat.mul_le_mul Β ?_;split
  ·omega
  ·cases δ:l[i]? with
   | none=>simp
   | some c=>simpa using h c (cE δ)
theorem QD {s:aT} (h:jm s) (p:Int×Int):∀c∈(ho s p).cells,c.length<=49:=λc δ=>by
 obtain⟨i,_,rfl⟩:=List.mem_map.1 δ;exact J2 h p i
theorem dΙ {s:aT} (h:jm s) (p:Int×Int) (hJ:Int) {i:Nat} (hi:i<=s.cells.length):ir (ho s p).cells hJ i<=5764801:=by
 have:=h.many;exact Nat.le_trans (dΘ (QD h p) hJ i) (Nat.le_trans (Nat.pow_le_pow_right bu (show i<=4 by omega)) bu)
theorem dΚ {s:aT} (h:jm s):Jd 49 s where
 small:=h.small
 au:=by have:=h.au.hi;omega
 lit c δ x γ:=((h.cells c δ).each x γ).1
 reads k _ c _:=J2 h _ c
 many k _ i hi:=by have:=dΙ h (fl k) (-1) hi;omega
theorem dΜ {s:aT} (h:jm s):@qi oA s (cV s):=Px bu (λc=>@dΖ c) (dΚ h)
theorem J3 {s:aT} {f:Found}:f∈cV s↔∃k,k<3/\0<(ho s (fl k)).many (-1)/\f=ho s (fl k):=by
 unfold cV;rw[List.mem_filterMap];constructor
 ·rintro⟨k,ς,h⟩;unfold lC at h;split at h
  ·rename_i δ;exact⟨k,δ.1,δ.2,(Option.some.inj h).symm⟩
  ·cases h
 ·rintro⟨k,ς,J,rfl⟩;exact⟨k,List.mem_range.2 ς,by unfold lC;rw[if_pos ⟨ς,J⟩]⟩
theorem QE (s:aT):(cV s).length<=3:=by
 unfold cV;exact Nat.le_trans (List.length_filterMap_le _ _) η
theorem QF {s:aT} (p:Int×Int):(ho s p).many (-1)=ir (ho s p).cells (-1) s.cells.length:=by
 unfold Found.many;simp[ho]
theorem QG {s:aT} (p:Int×Int) {c:Nat} (δ:c<s.cells.length):ir (ho s p).cells (-1) (c+1)=ir (ho s p).cells (-1) c*(jj s p c).length:=by
 rw[D3,if_neg R];have:(ho s p).cells[c]?=some (jj s p c):=by
  unfold ho;simp[δ]
 rw[this];rfl
def cnt (x n:Int):Nat->Int
 | 0=>0
 | k+1=>cnt x n k+(if eY .i64 x (2 ^ k)≠0 then 1 else 0)-(if eY .i64 n (2 ^ k)≠0 then 1 else 0)
end Go.TL
