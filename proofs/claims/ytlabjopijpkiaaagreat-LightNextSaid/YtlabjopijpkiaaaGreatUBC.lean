import Derived.Test.YtlabjopijpkiaaaGreatUAY
import Derived.Test.YtlabjopijpkiaaaGreatUBA
import Derived.Test.YtlabjopijpkiaaaGreatUBB
set_option maxHeartbeats 16000000
set_option maxRecDepth 20000
set_option linter.unusedSectionVars false
set_option linter.unusedSimpArgs false
set_option linter.unusedVariables false
namespace Go.TL
open Go.Proofs
variable [bt]
theorem KV:∀k,k<3->0<=(cd k).2/\(cd k).2<(cd k).1/\(cd k).1<=2:=bD
theorem BL {s:aI} (h:hX s) (p:Int×Int) (c:Nat):(ev s p c).length<=49:=by
 have I:=RI (λr=>s.nF p r c) s.ag.length (s.ag.length+1) 0;rw[IT] at I;have U:=h.ag.hi;have ξ:(s.ag.length+1)*(s.ag.length+1)<=7*7:=Nat.mul_le_mul R R;unfold ev;omega
theorem gυ {l:List (List (Int×Int))} (h:∀c∈l,c.length<=49) (g0:Int) (i:Nat):gF l g0 i<=49 ^ i:=by
 induction i with
 | zero=>simp[gF]
 | succ i Β=>
  rw[uu,Nat.pow_succ];refine Nat.mul_le_mul Β ?_;split
  ·omega
  ·cases ε:l[i]? with
   | none=>simp
   | some c=>simpa using h c (cr ε)
theorem R1 {s:aI} (h:hX s) (p:Int×Int):∀c∈(dW s p).cells,c.length<=49:=λc ε=>by
 obtain⟨i,_,rfl⟩:=List.mem_map.1 ε;exact BL h p i
theorem F2 {s:aI} (h:hX s) (p:Int×Int) (g0:Int) {i:Nat} (hi:i<=s.cells.length):gF (dW s p).cells g0 i<=5764801:=by
 have:=h.many;exact Nat.le_trans (gυ (R1 h p) g0 i) (Nat.le_trans (Nat.pow_le_pow_right bD (show i<=4 by omega)) bD)
theorem gφ {s:aI} (h:hX s):J8 49 s where
 small:=h.small
 ag:=by have:=h.ag.hi;omega
 lit c ε x γ:=((h.cells c ε).each x γ).1
 reads k _ c _:=BL h _ c
 many k _ i hi:=by have:=F2 h (cd k) (-1) hi;omega
theorem gχ {s:aI} (h:hX s):@s7 oD s (en s):=QO bD (λc=>@gς c) (gφ h)
theorem KW {s:aI} {f:Found}:f∈en s↔∃k,k<3/\0<(dW s (cd k)).many (-1)/\f=dW s (cd k):=by
 unfold en;rw[List.mem_filterMap];constructor
 ·rintro⟨k,ς,h⟩;unfold gS at h;split at h
  ·rename_i ε;exact⟨k,ε.1,ε.2,(Option.some.inj h).symm⟩
  ·cases h
 ·rintro⟨k,ς,I,rfl⟩;exact⟨k,List.mem_range.2 ς,by unfold gS;rw[if_pos ⟨ς,I⟩]⟩
theorem gψ (s:aI):(en s).length<=3:=by
 unfold en;exact Nat.le_trans (List.length_filterMap_le _ _) θ
def tv (s:aI) (i:Nat):Nat:=((List.range i).map λk=>(dW s (cd k)).many (-1)).sum
theorem KX (s:aI) (i:Nat):tv s (i+1)=tv s i+(dW s (cd i)).many (-1):=by simp[tv,List.range_succ]
theorem R2 (s:aI):iT (en s)=tv s 3:=by
 have key:∀i,i<=3->iT ((List.range i).filterMap (gS s))=tv s i:=by
  intro i
  induction i with
  | zero=>intro _;rfl
  | succ i Β=>
   intro hi;rw[KX,<-Β R,List.range_succ,List.filterMap_append];unfold iT;rw[List.map_append,List.sum_append];congr 1;unfold gS;by_cases hm:0<(dW s (cd i)).many (-1)
   ·have:i<3/\0<(dW s (cd i)).many (-1):=⟨R,hm⟩;simp[this]
   ·have:¬(i<3/\0<(dW s (cd i)).many (-1)):=λh=>hm h.2;simp[this];omega
 exact key 3 (Nat.le_refl _)
theorem F3 {s:aI} (p:Int×Int):(dW s p).many (-1)=gF (dW s p).cells (-1) s.cells.length:=by
 unfold Found.many;simp[dW]
theorem gω {s:aI} (p:Int×Int) {c:Nat} (ε:c<s.cells.length):gF (dW s p).cells (-1) (c+1)=gF (dW s p).cells (-1) c*(ev s p c).length:=by
 rw[uu,if_neg R];have:(dW s p).cells[c]?=some (ev s p c):=by
  unfold dW;simp[ε]
 rw[this];rfl
def cnt (x n:Int):Nat->Int
 | 0=>0
 | k+1=>cnt x n k+(if e4 .i64 x (2 ^ k)≠0 then 1 else 0)-(if e4 .i64 n (2 ^ k)≠0 then 1 else 0)
end Go.TL
