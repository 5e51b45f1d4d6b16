import Derived.Test.YtlabjopijpkiaaaGreatQAZ
import Derived.Test.YtlabjopijpkiaaaGreatQBB
set_option maxHeartbeats 16000000
set_option maxRecDepth 20000
set_option linter.unusedSectionVars false
set_option linter.unusedSimpArgs false
set_option linter.unusedVariables false
namespace Go.TL
open Go.Proofs
variable [bn]
theorem dη (l:List Int) (n:Int) (Α:l.length<2 ^ 62):ak Tryz.prog 137 [.ms 0 l.length 0 l.length,R n] [.cells 3 1 (l.map R)] (λa s=>a=R (idxOf (·==n) l)/\s=[.cells 3 1 (l.map R)]) (λ_ _=>False):=by
 refine ak.body Κ Tryz.func137 rfl rfl Tryz.ntmps137 rfl rfl (by simp) ?_;(repeat (first|apply κ|(refine ξ λη I=>?_;simp;(repeat (rw[δ];simp));apply I)));refine W.iter (λi:Nat=>i<=l.length/\∀j,j<i->(h:j<l.length)->(l[j]==n)=false) (λi=>[(0,.ms 0 l.length 0 l.length),(1,R n),(6,.ms 0 l.length 0 l.length),(7,R l.length),(8,R i)]) (λ_=>[.cells 3 1 (l.map R)]) (λi=>l.length-i) 0 ⟨Nat.zero_le _,λj ε=>by omega⟩ rfl (by simp) (λi hi Δ=>?_);(repeat (first|apply κ|(refine ξ λη I=>?_;simp;(repeat (rw[δ];simp));apply I)));refine W.en rfl (λζ=>?_) (λζ=>?_)
 ·have ζ:i<l.length:=by simpa using ζ
  (repeat (first|apply κ|(refine ξ λη I=>?_;simp;(repeat (rw[δ];simp[ζ]));apply I)));refine W.en rfl (λa4=>?_) (λa4=>?_)
  ·have Ι:n=l[i]:=by simpa using a4
   (repeat (first|apply κ|(refine ξ λη I=>?_;simp;(repeat (rw[δ];simp));apply I)));refine W.ret ⟨_,rfl,?_,rfl⟩;show R i=_;rw[Ar ζ (by simp[Ι]) hi.2]
  ·have Ι:¬n=l[i]:=by simpa using a4
   have hw:=e6 ζ Α;(repeat (first|apply κ|(refine ξ λη I=>?_;simp;(repeat (rw[δ];simp[hw]));apply I)));refine W.to (Δ (i+1) ⟨by omega,λj ε h=>?_⟩ (by omega)) rfl (by simp[hw]);by_cases e:j=i
   ·subst e;simpa using λx=>Ι x.symm
   ·exact hi.2 j (by omega) h
 ·have ζ:l.length<=i:=by simpa using ζ
  refine W.exit rfl ?_;(repeat (first|apply κ|(refine ξ λη I=>?_;simp;(repeat (rw[δ];simp));apply I)));refine W.ret ⟨_,rfl,?_,rfl⟩;show R (-1)=_;rw[As λj ε=>hi.2 j (by omega) ε]
theorem dθ (l:List Int) (n:Int) (Α:l.length<2 ^ 62):ak Tryz.prog 110 [.ms 0 l.length 0 l.length,R n] [.cells 3 1 (l.map R)] (λa s=>a=bA (l.contains n)/\s=[.cells 3 1 (l.map R)]) (λ_ _=>False):=by
 refine ak.body Κ Tryz.func110 rfl rfl Tryz.ntmps110 rfl rfl (by simp) ?_;(repeat (first|apply κ|(refine ξ λη I=>?_;simp;(repeat (rw[δ];simp));apply I)));(repeat apply κ);refine ξ λη I=>?_;simp;(repeat (rw[δ];simp));refine ak.call (first:=[]) (captured:=[]) ((dη l n Α).mono (λa s ⟨J,γ⟩=>?_) (λ_ _ h=>h.elim));subst J;subst γ;simp;(repeat (rw[δ];simp));apply I;(repeat (first|apply κ|(refine ξ λη I=>?_;simp;(repeat (rw[δ];simp));apply I)));refine W.ret ⟨_,rfl,?_,rfl⟩;rw[<-any_beq,<-Au];simp
def hT (l:List Int) (n:Nat) (ae:List di) (i:Nat):List di:=(List.range i).filterMap λk=>if l.contains ((n+k:Nat):Int) then none else ae[k]?
def fs (C:List (List di)) (c:Nat):Nat:=((C.take c).map List.length).sum
def rN (l:List Int) (C:List (List di)) (c:Nat):List di:=hT l (fs C c) (C.getD c []) (C.getD c []).length
def aR.lW (s:aR) (l:List Int):aR:=⟨s.ai,s.ao,(List.range s.cells.length).map (rN l s.cells)⟩
theorem Fv (l:List Int) (n:Nat) (ae:List di):hT l n ae 0=[]:=rfl
theorem Fw (l:List Int) (n:Nat) (ae:List di) {i:Nat} (h:i<ae.length):hT l n ae (i+1)=hT l n ae i++if l.contains ((n+i:Nat):Int) then [] else [ae[i]]:=by
 unfold hT;rw[List.range_succ,List.filterMap_append];congr 1;cases ζ:l.contains ((n+i:Nat):Int)<;>simp only[List.filterMap_cons,List.filterMap_nil,ζ]<;>simp[h]
theorem QF (l:List Int) (n:Nat) (ae:List di) (i:Nat):(hT l n ae i).length<=i:=by
 unfold hT;exact Nat.le_trans (List.length_filterMap_le _ _) (by simp)
theorem yT (C:List (List di)) {c:Nat} (h:c<C.length):fs C (c+1)=fs C c+C[c].length:=by
 unfold fs;rw[List.take_succ_eq_append_getElem h];simp only[List.map_append,List.sum_append,List.map_cons,List.map_nil,List.sum_cons,List.sum_nil,Nat.add_zero]
theorem Fx (C:List (List di)) {m:Nat} (h:∀x∈C,x.length<m) (c:Nat):fs C c<=c*m:=by
 unfold fs
 induction c with
 | zero=>simp
 | succ c Δ=>
  by_cases ζ:c<C.length
  ·rw[List.take_succ_eq_append_getElem ζ];have:=h _ (List.getElem_mem ζ);simp only[List.map_append,List.sum_append,List.map_cons,List.map_nil,List.sum_cons,List.sum_nil,Nat.add_zero,Nat.succ_mul];omega
  ·rw[List.take_of_length_le (by omega)];rw[List.take_of_length_le (by omega)] at Δ;exact Nat.le_trans Δ (Nat.mul_le_mul_right _ (Nat.le_succ c))
abbrev jP (l:List Int) (C:List (List di)) (c:Nat):θ:=dk 3 ((rN l C c).map cw)
theorem Fy {L:List di}:∀e∈L.map cw,∀a∈e.cells,av 0 a:=λe he a ν=>by
 obtain⟨x,_,rfl⟩:=List.mem_map.1 he;simp[θ.cells] at ν;rcases ν with rfl|rfl|rfl<;>exact .z _
theorem QG {l:List Int} {C:List (List di)} {r:List Nat}:∀e∈r.map (jP l C),∀a∈e.cells,av 0 a:=λe he a ν=>by
 obtain⟨x,_,rfl⟩:=List.mem_map.1 he;unfold jP dk at ν;split at ν
 ·simp[θ.cells] at ν;subst ν;simp
 ·simp[θ.cells] at ν;subst ν;exact fJ.2 Fy
abbrev mQ (l:List Int) (s:aR):List Row:=[.cells 3 1 (l.map R),eH (aQ s.ai) (aN s.ao) (bl s.cells),eH bE bE bE]
theorem QH (l:List Int) (s:aR) (h:Nat):∀r∈mQ l s,ek h r:=λr μ=>by
 simp only[List.mem_cons,List.not_mem_nil,or_false] at μ;rcases μ with rfl|rfl|rfl
 ·intro e he a ν;obtain⟨x,_,rfl⟩:=List.mem_map.1 he;simp[θ.cells] at ν;subst ν;exact .z _
 ·intro e he a ν;simp[θ.cells] at he;subst he;simp[θ.cells] at ν;rcases ν with rfl|rfl|rfl<;>simp
 ·intro e he a ν;simp[θ.cells] at he;subst he;simp[θ.cells] at ν;subst ν;simp
theorem dι (s:aR) (ο:s.small) (l:List Int) (Α:l.length<2 ^ 20) (Ke:s.cells.length<2 ^ 20) (pg:∀x∈s.cells,x.length<2 ^ 20) :
  ak Tryz.prog 115 [d' s,.ms 0 l.length 0 l.length] [.cells 3 1 (l.map R)] (λa r=>cC a (d' (s.lW l))/\r=[.cells 3 1 (l.map R)]) (λ_ _=>False):=by
 refine ak.body Κ Tryz.func115 rfl rfl Tryz.ntmps115 rfl rfl (by simp) ?_
 repeat apply κ
 refine c7 (A:=[2,4]) Κ λη I=>?_;simp;(repeat (rw[δ];simp));apply I;(repeat (first|apply κ|(refine ξ λη I=>?_;simp;(repeat (rw[δ];simp));apply I)));have kz:=λc=>Fx s.cells pg c;refine W.iter (λc:Nat=>c<=s.cells.length) (λc=>[(1,.ms 0 l.length 0 l.length),(2,.Ψ 1 1 0 0),(4,.Ψ 2 1 0 0),(5,R (fs s.cells c)),(6,aX 3 ((List.range c).map (jP l s.cells))),(13,bl s.cells),(14,R s.cells.length),(15,R c)]) (λc=>mQ l s++aL 60 1 ((List.range c).map (jP l s.cells))) (λc=>s.cells.length-c) 0 (Nat.zero_le _) (by simp[h6]) (by simp[aX,fs]) (λc ζ Δ=>?_);obtain⟨O,cj⟩:∃O,O=(List.range c).map (jP l s.cells):=⟨_,rfl⟩;have yU:∀e∈O,∀a∈e.cells,av 0 a:=by rw[cj];exact QG
 refine W.to (σ':=mQ l s++aL 60 1 O) (env':=[(1,.ms 0 l.length 0 l.length),(2,.Ψ 1 1 0 0),(4,.Ψ 2 1 0 0),(5,R (fs s.cells c)),(6,aX 3 O),(13,bl s.cells),(14,R s.cells.length),(15,R c)]) ?_ (by rw[cj]) (by rw[cj];simp);(repeat (first|apply κ|(refine ξ λη I=>?_;simp;(repeat (rw[δ];simp));apply I)));by_cases bj:c<s.cells.length
 ·refine al (by simp[bj]) ?_;have fV:=a2 bj;have eX:=pg _ (List.getElem_mem bj);have BC:=yT s.cells bj;have rF:=kz c;have wX:rN l s.cells c=hT l (fs s.cells c) s.cells[c] s.cells[c].length:=by
   unfold rN;rw[List.getD_eq_getElem?_getD,fV];rfl
  obtain⟨ae,g7⟩:∃x,x=s.cells[c]:=⟨_,rfl⟩;rw[<-g7] at fV eX BC wX;have kx:∀h,s.cells[c]'h=ae:=λh=>g7.symm;obtain⟨o,Γ⟩:∃x,x=fs s.cells c:=⟨_,rfl⟩;have py:c*2 ^ 20<2 ^ 40:=by
   have:c*2 ^ 20<2 ^ 20*2 ^ 20:=Nat.mul_lt_mul_of_pos_right (by omega) (by decide);exact this
  rw[<-Γ] at BC wX rF ⊢;have hw:=gH (i:=c) (by omega);obtain⟨k,χ⟩:∃k,k=(mQ l s++aL 60 1 O).length:=⟨_,rfl⟩;(repeat (first|apply κ|(refine ξ λη I=>?_;simp;(repeat (rw[δ];simp[bj,fV,kx]));apply I)));refine W.iter (λi:Nat=>i<=ae.length) (λi=>[(1,.ms 0 l.length 0 l.length),(2,.Ψ 1 1 0 0),(4,.Ψ 2 1 0 0),(5,R ((o+i:Nat))),(6,aX 3 O),(13,bl s.cells),(14,R s.cells.length),(15,R c),(9,aX k ((hT l o ae i).map cw)),(19,je ae),(20,R ae.length),(21,R i)]) (λi=>mQ l s++aL 60 1 O++aL 28 3 ((hT l o ae i).map cw)) (λi=>ae.length-i) 0 (Nat.zero_le _) (by rw[Fv];simp[h6]) (by rw[Fv];simp[aX]) (λi hi eg=>?_);have wY:=QF l o ae i;obtain⟨M,cd⟩:∃M,M=hT l o ae i:=⟨_,rfl⟩;rw[<-cd] at wY;obtain⟨q,Χ⟩:∃q,q=o+i:=⟨_,rfl⟩;refine W.to (σ':=mQ l s++aL 60 1 O++aL 28 3 (M.map cw)) (env':=[(1,.ms 0 l.length 0 l.length),(2,.Ψ 1 1 0 0),(4,.Ψ 2 1 0 0),(5,R q),(6,aX 3 O),(13,bl s.cells),(14,R s.cells.length),(15,R c),(9,aX k (M.map cw)),(19,je ae),(20,R ae.length),(21,R i)]) ?_ (by rw[cd]) (by rw[cd,Χ];simp);(repeat (first|apply κ|(refine ξ λη I=>?_;simp;(repeat (rw[δ];simp));apply I)));by_cases e8:i<ae.length
  ·refine al (by simp[e8]) ?_;have dc:=Fw l o ae e8;rw[<-cd,<-Χ] at dc;have uT:=a2 e8;obtain⟨x,U⟩:∃x,x=ae[i]:=⟨_,rfl⟩;rw[<-U] at uT dc;have yV:∀h,ae[i]'h=x:=λh=>U.symm;obtain⟨Y,lT⟩:∃Y,Y=mQ l s++aL 60 1 O++aL 28 3 (M.map cw):=⟨_,rfl⟩;have dκ:Y[0]?=some (.cells 3 1 (l.map R)):=by rw[lT];rfl
   have jθ:3<=Y.length:=by rw[lT];simp
   have dμ:Y.set 0 (.cells 3 1 (l.map R))=Y:=by rw[lT];rfl
   have dν:∀h,∀r∈Y,ek h r:=λh r μ=>by
    rw[lT] at μ;rcases List.mem_append.1 μ with μ|μ
    ·rcases List.mem_append.1 μ with μ|μ
     ·exact QH l s h r μ
     ·exact sI yU r μ
    ·exact sI Fy r μ
   have Kf:av Y.length (aX 3 O):=AI λΗ=>by rw[lT,c8 Η];simp
   have dξ:av Y.length (aX k (M.map cw)):=AI λΗ=>by rw[lT,c8 Η,χ];simp
   refine W.to (σ':=Y) (env':=[(1,.ms 0 l.length 0 l.length),(2,.Ψ 1 1 0 0),(4,.Ψ 2 1 0 0),(5,R q),(6,aX 3 O),(13,bl s.cells),(14,R s.cells.length),(15,R c),(9,aX k (M.map cw)),(19,je ae),(20,R ae.length),(21,R i)]) ?_ (by rw[lT];simp) (by simp);have fL:=gH (i:=i) (by omega);have gw:=gH (i:=q) (by omega)
   repeat apply κ
   refine c7 (A:=[11]) Κ λη I=>?_;simp;(repeat (rw[δ];simp[e8,uT,yV]));apply I;refine W.nn (σ0:=Y) (by simp;omega) (dν _) (by simp[θ.cells]) [(1,.ms 0 l.length 0 l.length),(2,.Ψ 1 1 0 0),(4,.Ψ 2 1 0 0),(5,R q),(6,aX 3 O),(13,bl s.cells),(14,R s.cells.length),(15,R c),(9,aX k (M.map cw)),(19,je ae),(20,R ae.length),(21,R i),(11,.ad [R x.cV,R x.seen,R x.bare])] (by
    have J:0<Y.length:=by omega
    have γ:1<Y.length:=by omega
    have π:2<Y.length:=by omega
    simp[hM,ng,θ.cells,J,γ,π,Kf,dξ]) ?_
   (repeat apply κ);refine ξ λη I=>?_;simp;(repeat (rw[δ];simp));refine ak.one (as0:=[.ms 0 l.length 0 l.length,R q]) (dθ l q (by omega)) 0 dκ (pU (f:=R) λx=>by simp[θ.cells]) (pU (f:=R) λx=>by simp[θ.cells]) (by simp[lI,av.hf]) ((av.z _).hf 1) (by simp[lJ,mz]) ?_;simp[mz];(repeat (rw[δ];simp));rw[dμ];apply I;have tg:q+1=o+(i+1):=by omega
   by_cases bb:(q:Int)∈l
   ·refine aj (by simp[bb]) ?_;have hr:l.contains (q:Int)=true:=by simpa using bb
    rw[if_pos hr,List.append_nil] at dc;(repeat (first|apply κ|(refine ξ λη I=>?_;simp;(repeat (rw[δ];simp[fL,gw]));apply I)));refine W.to (eg (i+1) (by omega) (by omega)) (by rw[dc,lT]) ?_;rw[dc,<-tg];simp
   ·refine al (by simp[bb]) ?_;have hr:¬l.contains (q:Int)=true:=by simpa using bb
    rw[if_neg hr] at dc
    repeat apply κ
    refine W.fC (A:=[32]) Κ [(1,.ms 0 l.length 0 l.length),(2,.Ψ 1 1 0 0),(4,.Ψ 2 1 0 0),(5,R q),(6,aX 3 O),(13,bl s.cells),(14,R s.cells.length),(15,R c),(9,aX k ((M++[x]).map cw)),(19,je ae),(20,R ae.length),(21,R i)] (mQ l s++aL 60 1 O++aL 28 3 ((M++[x]).map cw)) ?_ (by
     clear eg Δ;by_cases Η:M=[]
     ·subst Η;have Ε:aX k (([]:List di).map cw)=.sl true 0 []:=rfl;have Ζ:Y=mQ l s++aL 60 1 O:=by rw[lT];simp[h6]
      rw[Ε,Ζ];simp;(repeat (rw[δ];simp));(try simp[aX,aL,χ])
     ·have gK:M.map cw≠[]:=by simpa using Η
      rw[fi gK,lT,c8 gK];have bL:(mQ l s++aL 60 1 O++[Row.cells 28 3 (M.map cw)])[k]?=some (Row.cells 28 3 (M.map cw)):=by rw[χ];simp
      have k5:M.length<=4294967295:=by omega
      simp;(repeat (rw[δ];simp[bL,k5]));(try simp[aX,aL,χ]);(try (rw[δ];simp)))
    (repeat (first|apply κ|(refine ξ λη I=>?_;simp;(repeat (rw[δ];simp[fL,gw]));apply I)));refine W.to (eg (i+1) (by omega) (by omega)) (by rw[dc];simp) ?_;rw[dc,<-tg];simp
  ·refine aj (by simp[e8]) ?_;have dA:i=ae.length:=by omega
   subst dA;refine W.exit rfl ?_;refine W.to (σ':=mQ l s++aL 60 1 O++aL 28 3 (M.map cw)) (env':=[(1,.ms 0 l.length 0 l.length),(2,.Ψ 1 1 0 0),(4,.Ψ 2 1 0 0),(5,R q),(6,aX 3 O),(13,bl s.cells),(14,R s.cells.length),(15,R c),(9,aX k (M.map cw))]) ?_ (by simp) (by simp);refine W.cut (mQ l s++aL 60 1 O).length (by simp) [(1,.ms 0 l.length 0 l.length),(2,.Ψ 1 1 0 0),(4,.Ψ 2 1 0 0),(5,R q),(6,aX 3 O),(13,bl s.cells),(14,R s.cells.length),(15,R c),(9,dk 3 (M.map cw))] (by simp) ?_ ?_ ?_
   ·intro id r bS μ;rw[ea bS] at μ;have μ:=cv μ;rcases List.mem_append.1 μ with μ|μ
    ·exact QH l s _ r μ
    ·exact sI yU r μ
   ·have Kf:av (mQ l s++aL 60 1 O).length (aX 3 O):=AI λΗ=>by rw[c8 Η];simp
    intro z Η;simp only[List.mem_cons,List.not_mem_nil,or_false] at Η;rcases Η with rfl|rfl|rfl|rfl|rfl|rfl|rfl|rfl|rfl
    ·exact .low (ng.2 (by simp))
    ·exact .low (hM.2 (by simp))
    ·exact .low (hM.2 (by simp))
    ·exact .low (by simp)
    ·exact .low Kf
    ·exact .low (by simp)
    ·exact .low (by simp)
    ·exact .low (by simp)
    ·refine p6 (t:=28) (by rw[χ];exact Nat.le_refl _) (λΗ=>?_) (λe he a ν=>av.mono (Fy e he a ν) (Nat.zero_le _));rw[c8 Η,χ];simp
   have BD:q=fs s.cells (c+1):=by omega
   have mh:O++[jP l s.cells c]=(List.range (c+1)).map (jP l s.cells):=by rw[cj,List.range_succ,List.map_append];rfl
   have Kg:jP l s.cells c=dk 3 (M.map cw):=by unfold jP;rw[wX,cd]
   rw[Kg] at mh;rw[List.take_left];obtain⟨x,U⟩:∃x,x=dk 3 (M.map cw):=⟨_,rfl⟩;obtain⟨ph,wZ,nC,w5⟩:=yh 3 (M.map cw);rw[<-U] at mh w5 ⊢
   repeat apply κ
   refine W.fC (A:=[39]) Κ [(1,.ms 0 l.length 0 l.length),(2,.Ψ 1 1 0 0),(4,.Ψ 2 1 0 0),(5,R q),(6,aX 3 (O++[x])),(13,bl s.cells),(14,R s.cells.length),(15,R c)] (mQ l s++aL 60 1 (O++[x])) ?_ (by
    have Fz:O.length<=4294967295:=by rw[cj];simp;omega
    clear Δ eg mh;by_cases Η:O=[]
    ·rw[Η,w5];have Ε:aX 3 ([]:List θ)=.sl true 0 []:=rfl;rw[Ε];simp only[h6,List.append_nil];simp;(repeat (rw[δ];simp));(try simp[aX,aL])
    ·rw[fi Η,c8 Η,w5];have bL:(mQ l s++[Row.cells 60 1 O])[3]?=some (Row.cells 60 1 O):=rfl;simp;(repeat (rw[δ];simp[Fz,bL]));(try simp[aX,aL]))
   (repeat (first|apply κ|(refine ξ λη I=>?_;simp;(repeat (rw[δ];simp[hw]));apply I)));exact W.to (Δ (c+1) (by omega) (by omega)) (by rw[mh];simp) (by rw[mh,<-BD];simp)
 ·refine aj (by simp[bj]) ?_;have n9:c=s.cells.length:=by omega
  refine W.exit rfl ?_
  repeat apply κ
  obtain⟨V,hp⟩:∃V,V=aX 3 O:=⟨_,rfl⟩;have uU:(V=.sl true 0 []/\aL 60 1 O=[])\/(V=.ms 3 O.length 0 O.length/\aL 60 1 O=[.cells 60 1 O]):=by
   by_cases Η:O=[]
   ·exact .inl ⟨by rw[hp,Η];rfl,by rw[Η];rfl⟩
   ·exact .inr ⟨by rw[hp,fi Η],c8 Η⟩
  obtain⟨X,hh⟩:∃X,X=aL 60 1 O:=⟨_,rfl⟩;rw[<-hh] at uU;rw[<-hp,<-hh];refine W.fC (A:=[]) Κ [(2,.Ψ 1 1 0 0),(4,.Ψ 2 1 0 0)] (.cells 3 1 (l.map R)::eH (aQ s.ai) (aN s.ao) V::eH bE bE bE::X) ?_ (by
   rcases uU with⟨Ε,Ζ⟩|⟨Ε,Ζ⟩<;>(rw[Ε,Ζ];(try simp);(repeat (rw[δ];simp));(try simp[])))
  repeat apply κ
  refine W.fC (A:=[]) Κ [(4,.Ψ 2 1 0 0)] (.cells 3 1 (l.map R)::eH (aQ s.ai) (aN s.ao) V::eH (aQ s.ai) (aN s.ao) V::X) ?_ (by
   rcases uU with⟨Ε,Ζ⟩|⟨Ε,Ζ⟩<;>(rw[Ε,Ζ];(try simp);(repeat (rw[δ];simp));(try simp[])))
  refine W.cut 1 (by simp) [(4,.ad [aQ s.ai,aN s.ao,dk 1 O])] (by simp) ?_ ?_ ?_
  ·intro id r bS μ;obtain rfl:id=0:=by omega
   simp at μ;subst μ;intro e he a ν;obtain⟨x,_,rfl⟩:=List.mem_map.1 he;simp[θ.cells] at ν;subst ν;exact .z _
  ·intro z Η;simp only[List.mem_cons,List.not_mem_nil,or_false] at Η;subst Η;refine .struct (id:=2) (by decide) (show _=some (Row.cells _ _ [.aW _]) from rfl) rfl λx a b9 J γ=>?_
   match x with
   | 0=>simp at J γ;subst J;subst γ;exact .low (by simp)
   | 1=>simp at J γ;subst J;subst γ;exact .low (by simp)
   | 2=>
    simp at J γ;subst J;subst γ;rw[hp];refine p6 (t:=60) (by decide) (λΗ=>?_) (λe he a ν=>av.mono (yU e he a ν) (Nat.zero_le _));rw[hh,c8 Η];rfl
   | x+3=>simp at γ
  ·repeat apply κ
   refine W.ret ⟨_,rfl,?_,rfl⟩;show cC (.aW [aQ s.ai,aN s.ao,dk 1 O]) _;refine .aW (.cons (.refl _) (.cons (.refl _) (.cons ?_ .nil)));rw[cj,n9];refine .trans cC.acc ?_;show cC (.sl false 1 ((List.range s.cells.length).map (jP l s.cells))) (.sl false 1 (((List.range s.cells.length).map (rN l s.cells)).map je));rw[List.map_map];exact .map λc _=>.one cC.acc (by unfold jP dk;split<;>rfl) rfl
end Go.TL
namespace Go.TL
open Go.Conc Go.Proofs
variable [bn]
def jq (c i:Nat):List (List Int):=(List.range i).map λj:Nat=>[(c:Int),(j:Int)]
def pj (C:List (List di)) (c:Nat):List (List Int):=(List.range c).flatMap λc=>jq c (C.getD c []).length
def placesOf (C:List (List di)):List (List Int):=pj C C.length
theorem Kh (C:List (List di)) (c:Nat):pj C (c+1)=pj C c++jq c (C.getD c []).length:=by
 simp[pj,List.range_succ]
theorem QI (c i:Nat):jq c (i+1)=jq c i++[[(c:Int),(i:Int)]]:=by simp[jq,List.range_succ]
theorem Ki (C:List (List di)) (c:Nat) (h:c<=C.length):(pj C c).length=fs C c:=by
 induction c with
 | zero=>rfl
 | succ c Δ=>
  rw[Kh,yT C (by omega),List.length_append,Δ (by omega)];simp[jq,List.getD_eq_getElem?_getD,show c<C.length by omega]
def uV (C:List (List di)) (F:List Nat->List Found):List (List Int):=
 match (iQ (fs C C.length) 0).find? (λl=>!(F l).isEmpty) with
 | some l=>l.map λk=>(placesOf C).getD k []
 | none=>[]
abbrev iC (s:aR):Row:=eH (aQ s.ai) (aN s.ao) (bl s.cells)
abbrev qp:Row:=.cells 23 1 [bE]
theorem QJ (s:aR) (h:Nat):ek h (iC s):=λe he a ν=>by
 simp[θ.cells] at he;subst he;simp[θ.cells] at ν;rcases ν with rfl|rfl|rfl<;>simp
noncomputable abbrev QK (vs:Array Value):Frame:=Frame.enter Tryz.prog 58 vs .normal
abbrev BE (P:List (List Int)):Ω:=[(1,.Ψ 0 1 0 0),(5,.ad [dk 1 (P.map cu)]),(9,.Ψ 1 1 0 0)]
section
variable {Q:Value->Prop} {mn:Bool} {c:Frame} {rest:List Frame}
theorem QL {x:gL} {ee S:aC} {B:aP} {dh H:ψ} {af ba cm:θ} {b:Frame} {env:Ω} (U:Seq x) (h3:tT Tryz.prog Q mn x c rest ee [] dh [] (λa s=>cC a af/\s=[]) (λ_ _=>False)) (bY:b.fn=58) (gq:b.kind=.normal) (eo:b.defers=[]) (Jf:b.mode=.returning)
  (he:Ext ee [] dh S B H) (Β:Holds S B [] H) (ο:cY S B [] env b.tmps) (γ:a5 env 2=ba) (π:a5 env 3=cm) (de:cC (.bu [ba,cm]) af):aE Tryz.prog Q mn x b (c::rest) H:=by
 refine aE.back U Jf eo (.inl gq) (fn:=Tryz.f58) (by rw[bY];exact Tryz.func58) ?_;refine υ.mono (λv fB ⟨gn,gP,eN,tm,aB,u9⟩=>?_) (λ_ _ h=>h) _ (Aa Κ (a:=.bu [ba,cm]) (show oO bk [.tmp 2,.tmp 3] env []=some (.bu [ba,cm]) by simp[oO,q7,γ,π,z']) Β ο);obtain rfl:gP=[]:=dp.1 aB.len;have wL:=he.trans eN;exact h3.ret _ [] _ [] fB v ⟨de,rfl⟩ wL ⟨wL.dg,λid r h=>by simp at h⟩ aB u9
theorem dο (s:aR) (ο:s.small) (Ke:s.cells.length<2 ^ 10) (pg:∀x∈s.cells,x.length<2 ^ 10) (Ι:s.err=0->fs s.cells s.cells.length<=10) (F:List Nat->List Found)
  (Θ:s.err=0->∀l:List Nat,(∀x∈l,x<fs s.cells s.cells.length)->az Tryz.prog 116 [d' (s.lW (l.map λn:Nat=>(n:Int)))] (cR (F l))/\(F l).length<2 ^ 20) :
  az Tryz.prog 58 [d' s] (.bu [aN (if s.err=0 then uV s.cells F else []),R s.err]):=by
 refine⟨⟨_,Tryz.func58,rfl,rfl⟩,λQ mn x c rest ee ef dh vs U oE Bb h3=>?_⟩;obtain rfl:ef=[]:=dp.1 oE.len;rw[n4 (body:=Tryz.f58.body.getD .skip) Tryz.func58 rfl];refine V.here (x:=x) (m:=0) (nt:=65) (S:=ee) (B:=[]) (H:=dh) (σ:=[]) (env:=entry 0 [d' s]) ?_ (ff.enter oE Bb (Nat.le_refl _) (by simp));refine V.a' U rfl ?_;simp only[Tryz.f58,Option.getD_some]
 repeat apply κ
 refine c7 (A:=[1]) Κ λη I=>?_;simp;(repeat (rw[δ];simp));apply I;refine W.scope ?_;(repeat apply κ);refine ξ λη I=>?_;simp;(repeat (rw[δ];simp));refine az.c (Ef s ο) (aK.refl _) (by simp) (by simp) ?_;simp;(repeat (rw[δ];simp));apply I;(repeat (first|apply κ|(refine ξ λη I=>?_;simp;(repeat (rw[δ];simp));apply I)));by_cases cK:s.err=0
 case neg=>
  rw[if_neg cK] at h3;generalize s.err=fz at cK h3 ⊢;refine al (by simp[cK]) ?_;(repeat (first|apply κ|(refine ξ λη I=>?_;simp;(repeat (rw[δ];simp));apply I)));refine W.cut 0 (Nat.zero_le _) [(2,.sl true 0 []),(3,R fz)] (by simp) (λid r h=>by omega) (λz Η=>by
   simp only[List.mem_cons,List.not_mem_nil,or_false] at Η;rcases Η with rfl|rfl<;>exact .low (by simp)) ?_
  refine W.stop ?_;intro gn gP fB t5 fM hg;refine aE.ret U rfl rfl ?_;exact QL U h3 rfl rfl rfl rfl fM.ext hg.holds hg.b6 rfl rfl (.bu (.cons .nil (.cons (.refl _) .nil)))
 rw[if_pos cK,cK] at h3;have Ι:=Ι cK;have Θ:=Θ cK;rw[cK];refine aj (by simp) ?_
 repeat apply κ
 refine c7 (A:=[5]) Κ λη I=>?_;simp;(repeat (rw[δ];simp));apply I;(repeat (first|apply κ|(refine ξ λη I=>?_;simp;(repeat (rw[δ];simp));apply I)));have kz:=λc=>Fx s.cells pg c;refine W.iter (λc:Nat=>c<=s.cells.length) (λc=>[(1,.Ψ 0 1 0 0),(5,.Ψ 1 1 0 0),(19,bl s.cells),(20,R s.cells.length),(21,R c)]) (λc=>[iC s,.cells 23 1 [aX 2 ((pj s.cells c).map cu)]]++aL 29 1 ((pj s.cells c).map cu)) (λc=>s.cells.length-c) 0 (Nat.zero_le _) rfl (by simp) (λc ζ Δ=>?_);have BF:=Ki s.cells c ζ;have mR:=Kh s.cells c;have Γ:=kz c;have py:c*2 ^ 10<=2 ^ 20:=Nat.mul_le_mul_right (2 ^ 10) (show c<=2 ^ 10 by omega);obtain⟨O,cj⟩:∃O,O=pj s.cells c:=⟨_,rfl⟩;rw[<-cj] at BF mR;refine W.to (σ':=[iC s,.cells 23 1 [aX 2 (O.map cu)]]++aL 29 1 (O.map cu)) (env':=[(1,.Ψ 0 1 0 0),(5,.Ψ 1 1 0 0),(19,bl s.cells),(20,R s.cells.length),(21,R c)]) ?_ (by rw[cj]) (by simp);(repeat (first|apply κ|(refine ξ λη I=>?_;simp;(repeat (rw[δ];simp));apply I)));by_cases bj:c<s.cells.length
 ·refine al (by simp[bj]) ?_;have fV:=a2 bj;have eX:=pg _ (List.getElem_mem bj);rw[List.getD_eq_getElem?_getD,fV] at mR;obtain⟨ae,g7⟩:∃x,x=s.cells[c]:=⟨_,rfl⟩;rw[<-g7] at fV eX mR;simp only[Option.getD_some] at mR;have kx:∀h,s.cells[c]'h=ae:=λh=>g7.symm;have hw:=gH (i:=c) (by omega);(repeat (first|apply κ|(refine ξ λη I=>?_;simp;(repeat (rw[δ];simp[bj,fV,kx]));apply I)));refine W.iter (λi:Nat=>i<=ae.length) (λi=>[(1,.Ψ 0 1 0 0),(5,.Ψ 1 1 0 0),(19,bl s.cells),(20,R s.cells.length),(21,R c),(6,R c),(7,je ae),(27,R ae.length),(28,R i)]) (λi=>[iC s,.cells 23 1 [aX 2 ((O++jq c i).map cu)]]++aL 29 1 ((O++jq c i).map cu)) (λi=>ae.length-i) 0 (Nat.zero_le _) (by simp[jq]) (by simp) (λi hi eg=>?_);have dc:=QI c i;have wY:(O++jq c i).length<=2 ^ 21:=by simp[jq];omega
  obtain⟨M,cd⟩:∃M,M=O++jq c i:=⟨_,rfl⟩;rw[<-cd] at wY;have jL:O++jq c (i+1)=M++[[(c:Int),(i:Int)]]:=by rw[dc,cd,List.append_assoc]
  refine W.to (σ':=[iC s,.cells 23 1 [aX 2 (M.map cu)]]++aL 29 1 (M.map cu)) (env':=[(1,.Ψ 0 1 0 0),(5,.Ψ 1 1 0 0),(19,bl s.cells),(20,R s.cells.length),(21,R c),(6,R c),(7,je ae),(27,R ae.length),(28,R i)]) ?_ (by rw[cd]) (by simp);(repeat (first|apply κ|(refine ξ λη I=>?_;simp;(repeat (rw[δ];simp));apply I)));by_cases e8:i<ae.length
  ·refine al (by simp[e8]) ?_;have fL:=gH (i:=i) (by omega);(repeat (first|apply κ|(refine ξ λη I=>?_;simp;(repeat (rw[δ];simp));apply I)));refine W.fC (A:=[36]) Κ [(1,.Ψ 0 1 0 0),(5,.Ψ 1 1 0 0),(19,bl s.cells),(20,R s.cells.length),(21,R c),(6,R c),(7,je ae),(27,R ae.length),(28,R i)] ([iC s,.cells 23 1 [aX 2 ((M++[[(c:Int),(i:Int)]]).map cu)]]++aL 29 1 ((M++[[(c:Int),(i:Int)]]).map cu)) ?_ (by
    clear eg Δ;by_cases Η:M=[]
    ·subst Η;have Ε:aX 2 (([]:List (List Int)).map cu)=.sl true 0 []:=rfl;have Ζ:aL 29 1 (([]:List (List Int)).map cu)=[]:=rfl;rw[Ε,Ζ];(try simp);(repeat (rw[δ];simp));(try simp[]);simp[aX,aL]
    ·have gK:M.map cu≠[]:=by simpa using Η
     rw[fi gK,c8 gK];have k5:M.length<=4294967295:=by omega
     (try simp);(repeat (rw[δ];simp[k5]));(try simp[k5]);simp[aX,aL])
   (repeat (first|apply κ|(refine ξ λη I=>?_;simp;(repeat (rw[δ];simp[fL]));apply I)));exact W.to (eg (i+1) (by omega) (by omega)) (by rw[jL];simp) (by simp)
  ·refine aj (by simp[e8]) ?_;have dA:i=ae.length:=by omega
   subst dA;refine W.exit rfl ?_;(repeat (first|apply κ|(refine ξ λη I=>?_;simp;(repeat (rw[δ];simp[hw]));apply I)));rw[<-cd] at mR;exact W.to (Δ (c+1) (by omega) (by omega)) (by rw[mR];simp) (by simp)
 ·refine aj (by simp[bj]) ?_;have n9:c=s.cells.length:=by omega
  refine W.exit rfl ?_
  repeat apply κ
  refine W.cut 1 (Nat.zero_le _) [(1,.Ψ 0 1 0 0),(5,.ad [dk 1 (O.map cu)])] (by simp) ?_ ?_ ?_
  ·intro id r bS μ;obtain rfl:id=0:=by omega
   simp at μ;subst μ;exact QJ s 1
  ·intro z Η;simp only[List.mem_cons,List.not_mem_nil,or_false] at Η;rcases Η with rfl|rfl
   ·exact .low (hM.2 (by decide))
   ·refine .Ψ (id:=1) (t:=23) (k:=1) (l:=[aX 2 (O.map cu)]) (e:=aX 2 (O.map cu)) (by decide) rfl rfl rfl (by unfold aX;split<;>simp[θ.cells]) λx a b9 J γ=>?_
    match x with
    | 0=>
     have Ε:(aX 2 (O.map cu)).cells=[aX 2 (O.map cu)]:=by unfold aX;split<;>rfl
     rw[Ε] at J;simp at J γ;subst J;subst γ;refine p6 (t:=29) (by decide) (λΗ=>?_) (λe he a ν=>av.mono (AE e he a ν) (Nat.zero_le _));rw[c8 Η];rfl
    | x+1=>simp at γ
  obtain⟨n,bw⟩:∃n,n=O.length:=⟨_,rfl⟩;have QM:n=fs s.cells s.cells.length:=by rw[bw,BF,n9]
  have BG:∃b kk l,dk 1 (O.map cu)=.sl b kk l/\l.length=n:=by
   unfold dk;split
   ·rename_i h;exact⟨_,_,_,rfl,by rw[bw];simp at h;simp[h]⟩
   ·exact⟨_,_,_,rfl,by rw[bw];simp⟩
  rw[<-QM] at Ι Θ;have QN:O=placesOf s.cells:=by rw[cj,n9];rfl
  have Ζ:uV s.cells F=match (iQ n 0).find? (λl=>!(F l).isEmpty) with|some l=>l.map (λk=>O.getD k [])|none=>[]:=by unfold uV;rw[<-QM,<-QN]
  clear QN mR BF cj Δ Γ py n9 ζ bj
  repeat apply κ
  simp only[List.take_succ_cons,List.take_zero];refine c7 (A:=[9]) Κ λη I=>?_;simp;(repeat (rw[δ];simp));apply I
  repeat apply κ
  refine W.label ?_;obtain⟨jι,jκ,jμ,FA,Kj⟩:=BG;(repeat apply κ);refine ξ λη I=>?_;simp;(repeat (rw[δ];simp[FA,Kj]));refine az.c (Pu n) (aK.refl _) (by simp) (by simp) ?_;simp[FA,Kj];(repeat (rw[δ];simp[FA,Kj]));apply I
  repeat apply κ
  refine W.forget ((41,.fn (.func 126) [] [.ad [R n]])::BE O) (by simp[FA]) ?_;refine W.stop ?_;intro bB bG H1 t1 lK hP;have sO:∀r∈[iC s,qp],wG r:=λr μ=>by
   simp only[List.mem_cons,List.not_mem_nil,or_false] at μ;rcases μ with rfl|rfl<;>exact⟨_,_,_,rfl⟩
  have bR:=hP.b6 41;simp only[a5,if_true] at bR;obtain⟨an,uN⟩:∃an,an=t1.getD 41 undef:=⟨_,rfl⟩;rw[<-uN] at bR;cases bR with
  | fn w1 kV Ρ ag aV cr=>
  have Jh:w1=#[]:=Array.eq_empty_of_size_eq_zero (by rw[<-Ρ];rfl);subst Jh;refine aE.rangeFunc U rfl rfl (fo:=.tmp 41) uN.symm ⟨_,Tryz.func126,rfl,rfl⟩ λr1 L J γ=>?_;have wM:¬bG.has r1:=hP.holds.E4 sO J;have sX:=hP.holds.aY (y:=.deferred (some [])) wM;have sY:Ext bB bG H1 bB bG (H1.aY r1 (.deferred (some []))):=Ext.E3 J;have qi:(H1.aY r1 (.deferred (some []))).obj r1=some (.deferred (some [])):=by simp[ψ.aY]
  have Ji:dh.fresh r1:=lK.ext.grow _ J
  have sZ:dh.fresh L:=lK.ext.grow _ (sY.grow _ γ);generalize aθ:H1.aY r1 (.deferred (some []))=Bc at γ sX sY qi;have s0:r1≠L:=λe=>by rw[e,γ.2.2.1] at qi;cases qi
  have Bd:¬bG.has L:=sX.E4 sO γ
  have Be:∀(S:aC) (B:aP) (H:ψ) (σ:List Row),eJ 2 bB bG Bc [iC s,qp] S B H σ->bZ bB S bG B [iC s,qp] σ:=λS B H σ ν=>ν.all sX (by simp)
  have Bf:∀(k2:Frame) (S:aC) (B:aP) (H:ψ) (env:Ω) (ba:θ),k2.fn=58->k2.kind=.normal->k2.mode=.returning->k2.defers=[⟨.collected r1,#[]⟩]->Ext ee [] dh S B H->Holds S B [] H->H.obj r1=some (.deferred (some []))->
    cY S B [] env k2.tmps->a5 env 2=ba->a5 env 3=R 0->cC ba (aN (uV s.cells F))->aE Tryz.prog Q mn x k2 (_::rest) H:=
   λk2 S B H env ba dZ dM h0 qY qZ E5 qf Jj Jk Jl Jm=>by
   obtain rfl:B=[]:=dp.1 E5.len;refine aE.collected U h0 qY qf ?_;exact QL U h3 (b:={k2 with defers:=[]}) dZ dM rfl h0 (qZ.aY Ji ⟨_,qf⟩) (E5.aY (λ⟨_,h⟩=>by cases h)) Jj Jk Jl (.bu (.cons Jm (.cons (.refl _) .nil)))
  rw[n4 (body:=Tryz.f126.body.getD .skip) Tryz.func126 rfl];have Bg:fg bB bG [iC s,qp] ([qh L]++[.ad [R n]]) (#[.func (.yield L) #[] #[]]++kV):=by
   refine fg.append ⟨rfl,λi a v dZ dM=>?_⟩ ⟨ag,cr⟩
   match i with
   | 0=>simp at dZ dM;subst dZ;subst dM;exact .fn #[] #[] rfl rfl (λi a v hi=>by simp at hi) (λi a v hi=>by simp at hi)
   | i+1=>simp at dZ
  refine Pm (o:=⟨bB,bG,Bc,[iC s,qp],2⟩) (L:=L) (Fnd:=λrem=>(iQ n 0).find? (λl=>!(F l).isEmpty)=rem.find? (λl=>!(F l).isEmpty)) U Ι ?_ rfl bB bG _ _ (eJ.of (Ext.E3 γ) (bZ.refl ..)) (ff.enter (sX.aY Bd) Bg (Nat.le_refl _) (by simp)) Bd (by simp[ψ.aY];rfl);refine⟨rfl,QJ s 2,by simp[ek,θ.cells],rfl,λl rem s3 Px aH S B H ws aξ ν Β jg aD hv Jn Jo=>?_,λs3 S B H ν Β jg aD=>?_⟩
  ·obtain⟨wN,qO⟩:=iP ν.ext wM qi;have Jp:=Be _ _ _ _ ν;have mE:=hP.b6.later Jp;have wO:Ext ee [] dh S B H:=lK.ext.trans (sY.trans ν.ext);obtain⟨w0,rfl⟩:∃w0,ws=#[w0]:=by
    have J:=hv.1;clear hv;obtain⟨wl⟩:=ws
    match wl,J with
    | [w0],_=>exact⟨w0,rfl⟩
   have Jq:((#[42]:Array Tmp).zip #[w0]).foldl (λtmps (t,a)=>tmps.setIfInBounds t a) t1=t1.setIfInBounds 42 w0:=by simp
   change aE Tryz.prog Q mn x (Frame.round L 58 (((#[42]:Array Tmp).zip #[w0]).foldl (λtmps (t,a)=>tmps.setIfInBounds t a) t1) _ _ .normal) _ _;rw[Jq];have yv:ar S B [iC s,qp,dQ l] (.ms 2 l.length 0 l.length) w0:=hv.2 0 _ _ rfl rfl;have Py:l.length<2 ^ 30:=by omega
   have wK:cY S B [iC s,qp,dQ l] ((42,.ms 2 l.length 0 l.length)::BE O) (t1.setIfInBounds 42 w0):=rD (cY.put mE (d:=42) (by rw[hP.size];omega) yv) (by simp);refine V.here (b:=Frame.round L 58 t1 .skip .skip .normal) (t:=t1.setIfInBounds 42 w0) (m:=3) (nt:=65) (S:=S) (B:=B) (H:=H) (σ:=[iC s,qp,dQ l]) (env:=(42,.ms 2 l.length 0 l.length)::BE O) ?_ ⟨Β,wK,Eq.trans (Array.size_setIfInBounds ..) hP.size,Nat.le_refl _⟩;refine V.a' U rfl ?_;(repeat (first|apply κ|(refine ξ λη I=>?_;simp;(repeat (rw[δ];simp));apply I)));refine W.stop ?_;intro jH jI hO t3 fT ey;obtain⟨qj,s4⟩:=iP fT.ext jg aD;obtain⟨Jr,Js⟩:=iP fT.ext wN qO;refine aE.beginRound U rfl rfl s4 rfl ?_;refine V.here (b:=Frame.round L 58 t1 .skip .skip .normal) (m:=3) (nt:=65) ?_ ⟨ey.holds.aY qj,ey.b6,ey.size,ey.rows⟩;refine V.a' U rfl ?_;obtain⟨z,Η⟩:∃z,z=l.map λn:Nat=>(n:Int):=⟨_,rfl⟩;have Ju:dQ l=.cells 3 1 (z.map R):=by rw[Η,List.map_map];rfl
   have nd:z.length=l.length:=by rw[Η,List.length_map]
   have FB:=ak.kQ (dι s ο z (by omega) (by omega) (λx U=>by have:=pg x U;omega)) (aK.refl _) (K':=λa r=>a=d' (s.lW z)/\r=[.cells 3 1 (z.map R)]) (λa r ⟨J,γ⟩=>⟨_,J,rfl,γ⟩);obtain⟨QO,EZ⟩:=Θ l aH;rw[<-Η] at QO;rw[nd,<-Ju] at FB;have cQ:av 0 (d' s):=by simp
   have er:av 0 (d' (s.lW z)):=by simp
   have eX:iv (dQ l):=pU (f:=λn:Nat=>R n) λx=>by simp[θ.cells]
   (repeat apply κ);refine ξ λη I=>?_;simp;(repeat (rw[δ];simp));refine ak.one (as0:=[d' s,.ms 0 l.length 0 l.length]) FB 2 rfl eX eX (λa ν=>by
    simp only[List.mem_cons,List.not_mem_nil,or_false] at ν;rcases ν with rfl|rfl
    ·exact cQ.hf 1
    ·exact lI.2 (by omega)) (er.hf 1) (by simp[lJ,cQ.dI [2]]) ?_
   rw[er.dI [2]];simp;(repeat (rw[δ];simp));refine az.c QO (aK.refl _) (by simp) (by simp) ?_;simp;(repeat (rw[δ];simp));apply I;have wP:bZ S jH B jI [iC s,qp,dQ l] [iC s,qp,dQ l]:=fT.all Β (Nat.le_refl _);have wQ:=λy=>(ν.ext.trans fT.ext).aY γ (y:=y) ⟨_,s4⟩;have Jt:=λy=>(wO.trans fT.ext).aY sZ (y:=y) ⟨_,s4⟩;by_cases q2:F l=[]
   ·refine aj (by simp[q2]) ?_
    repeat apply κ
    refine W.stop ?_;intro gn gP fB t5 fM hg;obtain⟨qk,ql⟩:=iP fM.ext qj (show(hO.aY L _).obj L=some (.loop _) by simp[ψ.aY];rfl);have s5:=fM.all (ey.holds.aY qj) (Nat.le_refl _);refine aE.endRound U rfl rfl rfl ql (jump:=none) (.inl ⟨rfl,rfl⟩) (Jn (by rw[s3,List.find?_cons,q2];rfl) gn gP _ ⟨((wQ _).trans fM.ext).aY γ ⟨_,ql⟩,?_⟩ (wP.trans s5) (hg.holds.aY qk) qk (by simp[ψ.aY]));exact ν.later.trans (wP.trans s5)
   ·refine al (by
     have:0<(F l).length:=List.length_pos_iff.2 q2;simp;omega) ?_
    (repeat (first|apply κ|(refine ξ λη I=>?_;simp;(repeat (rw[δ];simp));apply I)));obtain⟨k6,qq⟩:∃q:Nat->List (List Int),q=λk=>(l.take k).map λj=>O.getD j []:=⟨_,rfl⟩;have sW:k6 0=[]:=by rw[qq];simp
    have Kk:∀k,(h:k<l.length)->k6 (k+1)=k6 k++[O.getD l[k] []]:=λk h=>by
     rw[qq];simp only;rw[List.take_succ_eq_append_getElem h,List.map_append];rfl
    have Kl:∀k,(k6 k).length<=k:=λk=>by rw[qq];simp;omega
    have FC:k6 l.length=uV s.cells F:=by
     rw[Ζ,s3,List.find?_cons];have:(!(F l).isEmpty)=true:=by simpa using q2
     rw[this,qq];simp
    clear qq;refine W.iter (λk:Nat=>k<=l.length) (λk=>[(1,.Ψ 0 1 0 0),(5,.ad [dk 1 (O.map cu)]),(9,.Ψ 1 1 0 0),(50,.ms 2 l.length 0 l.length),(51,R l.length),(52,R k)]) (λk=>[iC s,.cells 23 1 [aX 3 ((k6 k).map cu)],dQ l]++aL 29 1 ((k6 k).map cu)) (λk=>l.length-k) 0 (Nat.zero_le _) (by rw[sW];rfl) (by simp) (λk χ lM=>?_);have nD:=Kk k;have Km:=Kl k;obtain⟨M,cd⟩:∃M,M=k6 k:=⟨_,rfl⟩;rw[<-cd] at nD Km;refine W.to (σ':=[iC s,.cells 23 1 [aX 3 (M.map cu)],dQ l]++aL 29 1 (M.map cu)) (env':=[(1,.Ψ 0 1 0 0),(5,.ad [dk 1 (O.map cu)]),(9,.Ψ 1 1 0 0),(50,.ms 2 l.length 0 l.length),(51,R l.length),(52,R k)]) ?_ (by rw[cd]) (by simp);(repeat (first|apply κ|(refine ξ λη I=>?_;simp;(repeat (rw[δ];simp));apply I)));by_cases e4:k<l.length
    ·refine al (by simp[e4]) ?_;have th:=a2 e4;have uG:=aH _ (List.getElem_mem e4);have nD:=nD e4;obtain⟨p,ω⟩:∃p,p=l[k]:=⟨_,rfl⟩;rw[<-ω] at th uG nD;have w6:∀h,l[k]'h=p:=λh=>ω.symm;have qs:p<O.length:=by omega
     have dπ:O.map cu≠[]:=by
      intro h;have:O=[]:=by simpa using h
      rw[this] at qs;simp at qs
     have BG:dk 1 (O.map cu)=.sl false 1 (O.map cu):=by unfold dk;rw[if_neg (by simpa using dπ)]
     have oj:O[p]?=some (O.getD p []):=by rw[List.getD_eq_getElem?_getD,a2 qs];rfl
     obtain⟨y,Ο⟩:∃y,y=O.getD p []:=⟨_,rfl⟩;rw[<-Ο] at oj nD;have w7:∀h,O[p]'h=y:=λh=>by rw[a2 h] at oj;simpa using oj
     have hw:=gH (i:=k) (by omega)
     have J7:(dQ l)=.cells 3 1 (l.map λn:Nat=>R n):=rfl;obtain⟨X,hh⟩:∃X,X=aL 29 1 (M.map cu):=⟨_,rfl⟩;obtain⟨V,hp⟩:∃V,V=aX 3 (M.map cu):=⟨_,rfl⟩;rw[<-hh,<-hp]
     repeat apply κ
     refine W.fC (A:=[]) Κ [(1,.Ψ 0 1 0 0),(5,.ad [dk 1 (O.map cu)]),(9,.Ψ 1 1 0 0),(50,.ms 2 l.length 0 l.length),(51,R l.length),(52,R k),(12,R p)] ([iC s,.cells 23 1 [V],dQ l]++X) ?_ (by
      (try simp);(repeat (rw[δ];simp[e4,th,w6]));(try simp[e4,th,w6]))
     repeat apply κ
     refine W.JR (A:=[62]) Κ mixed [(1,.Ψ 0 1 0 0),(5,.ad [dk 1 (O.map cu)]),(9,.Ψ 1 1 0 0),(50,.ms 2 l.length 0 l.length),(51,R l.length),(52,R k)] ([iC s,.cells 23 1 [aX 3 ((M++[y]).map cu)],dQ l]++aL 29 1 ((M++[y]).map cu)) ?_ (by
      rw[BG,hh,hp];clear lM;by_cases Η:M=[]
      ·subst Η;have Ε:aX 3 (([]:List (List Int)).map cu)=.sl true 0 []:=rfl;have Ζ:aL 29 1 (([]:List (List Int)).map cu)=[]:=rfl;rw[Ε,Ζ];simp;(repeat (rw[bD];simp[qs,oj,w7]));(try rw[bC]);refine⟨bW (by kernel_rfl),?_⟩;simp[aX,aL,BG]
      ·have gK:M.map cu≠[]:=by simpa using Η
       rw[fi gK,c8 gK];have k5:M.length<=4294967295:=by omega
       simp;(repeat (rw[bD];simp[qs,oj,w7,k5]));(try rw[bC]);refine⟨bW (by kernel_rfl),?_⟩;simp[aX,aL,BG])
     (repeat (first|apply κ|(refine ξ λη I=>?_;simp;(repeat (rw[δ];simp[hw]));apply I)));exact W.to (lM (k+1) (by omega) (by omega)) (by rw[nD];simp) (by simp)
    ·refine aj (by simp[e4]) ?_;have wx:k=l.length:=by omega
     subst wx;refine W.exit rfl ?_
     repeat apply κ
     refine W.stop ?_;rw[<-cd] at FC;intro gn gP fB t5 fM hg;obtain⟨qk,ql⟩:=iP fM.ext qj (show(hO.aY L _).obj L=some (.loop _) by simp[ψ.aY];rfl);obtain⟨E6,Jv⟩:=iP fM.ext Jr (show(hO.aY L _).obj r1=some (.deferred (some [])) by simp[ψ.aY,s0,Js]);have s5:=fM.all (ey.holds.aY qj) (Nat.le_refl _);refine aE.endRound U rfl rfl rfl ql (jump:=some (.exit 4)) (.inr (.inr ⟨4,_,rfl,rfl,rfl⟩)) (Jo _ λaο PC Bh=>?_);obtain⟨dZ,dM⟩:=(hg.holds.aY (y:=.loop _) qk).pE (λb hb=>Bh.pE hb) Bh.grow;obtain⟨Jw,Bi⟩:=iP dM qk (show(fB.aY L _).obj L=some (.loop _) by simp[ψ.aY];rfl);obtain⟨dρ,Jx⟩:=iP dM E6 (show(fB.aY L _).obj r1=some (.deferred (some [])) by simp[ψ.aY,s0,Jv]);refine aE.Er (b:={QK vs with defers:=[⟨.collected r1,#[]⟩]}) (t:=t1) U rfl Bi (by simp) ?_;refine V.here (m:=0) (nt:=65) (S:=gn) (B:=gP) (σ:=[iC s,.cells 23 1 [aX 3 (M.map cu)],dQ l]++aL 29 1 (M.map cu)) (env:=BE O) ?_ ⟨dZ.aY Jw,rD (mE.later (wP.trans s5)) (by simp),hP.size,Nat.zero_le _⟩;refine V.a' U rfl ?_;simp only[Option.map_some,Option.toList_some,List.singleton_append];refine W.exit rfl ?_;obtain⟨X,hh⟩:∃X,X=aL 29 1 (M.map cu):=⟨_,rfl⟩;obtain⟨V,hp⟩:∃V,V=aX 3 (M.map cu):=⟨_,rfl⟩;rw[<-hh,<-hp]
     repeat apply κ
     refine W.fC (A:=[]) Κ [(2,V),(3,R 0)] ([iC s,.cells 23 1 [V],dQ l]++X) ?_ (by
      by_cases Η:M.map cu=[]
      ·have Ε:V=.sl true 0 []:=by rw[hp,Η];rfl
       rw[Ε];(try simp);(repeat (rw[δ];simp));(try simp[])
      ·rw[hp,fi Η];(try simp);(repeat (rw[δ];simp));(try simp[]))
     refine W.cut 0 (Nat.zero_le _) [(2,dk 1 (M.map cu)),(3,R 0)] (by simp) (λid r h=>by omega) (λz Η=>by
      simp only[List.mem_cons,List.not_mem_nil,or_false] at Η;rcases Η with rfl|rfl
      ·show eE 0 _ V _;rw[hp];refine p6 (t:=29) (Nat.zero_le _) (λΗ=>?_) (λe he a ν=>AE e he a ν);rw[hh,c8 Η];rfl
      ·exact .low (by simp)) ?_
     repeat apply κ
     refine W.stop ?_;intro dς dτ dυ t9 QP QQ;obtain⟨_,dφ⟩:=iP QP.ext dρ (show(PC.aY L _).obj r1=some (.deferred (some [])) by simp[ψ.aY,s0,Jx]);refine aE.ret U rfl rfl ?_;refine Bf _ dς dτ dυ _ _ rfl rfl rfl rfl (((((((Jt _).trans fM.ext).aY sZ ⟨_,ql⟩)).trans dM).aY sZ ⟨_,Bi⟩).trans QP.ext) QQ.holds dφ QQ.b6 rfl rfl ?_;rw[<-FC];exact cC.Ie
  ·obtain⟨wN,qO⟩:=iP ν.ext wM qi;have mE:=hP.b6.later (Be _ _ _ _ ν);have m6:Ext ee [] dh S B H:=lK.ext.trans (sY.trans ν.ext);refine aE.Er (b:={QK vs with defers:=[⟨.collected r1,#[]⟩]}) (t:=t1) U rfl aD (by simp) ?_;refine V.here (m:=0) (nt:=65) (S:=S) (B:=B) (σ:=[iC s,qp]) (env:=BE O) ?_ ⟨Β.aY jg,rD mE (by simp),hP.size,Nat.zero_le _⟩;refine V.a' U rfl ?_;simp only[Option.map_none,Option.toList_none,List.nil_append];(repeat (first|apply κ|(refine ξ λη I=>?_;simp;(repeat (rw[δ];simp));apply I)));refine W.cut 0 (Nat.zero_le _) [(2,.sl true 0 []),(3,R 0)] (by simp) (λid r h=>by omega) (λz Η=>by
    simp only[List.mem_cons,List.not_mem_nil,or_false] at Η;rcases Η with rfl|rfl<;>exact .low (by simp)) ?_
   refine W.stop ?_;intro gn gP fB t5 fM hg;have Jy:∀y,(H.aY L y).obj r1=some (.deferred (some [])):=λy=>by simp[ψ.aY,s0,qO]
   obtain⟨k1,cy⟩:=iP fM.ext wN (Jy _);refine aE.ret U rfl rfl ?_;refine Bf _ gn gP fB _ _ rfl rfl rfl rfl ((m6.aY sZ ⟨_,aD⟩).trans fM.ext) hg.holds cy hg.b6 rfl rfl ?_;rw[Ζ,s3];exact .nil
end
end Go.TL
namespace Go.TL
open Go.Proofs
variable [bn]
theorem dχ (s:aR) (Ke:s.cells.length<2 ^ 10) (pg:∀x∈s.cells,x.length<2 ^ 10):az Tryz.prog 59 [d' s] (aN (placesOf s.cells)):=by
 refine ak.body Κ Tryz.func59 rfl rfl Tryz.ntmps59 rfl rfl (by simp) ?_;(repeat (first|apply κ|(refine ξ λη I=>?_;simp;(repeat (rw[δ];simp));apply I)));have kz:=λc=>Fx s.cells pg c;refine W.iter (λc:Nat=>c<=s.cells.length) (λc=>[(1,.ad [aQ s.ai,aN s.ao,bl s.cells]),(3,eQ ((pj s.cells c).map cu)),(4,R c)]) (λc=>aL 29 1 ((pj s.cells c).map cu)) (λc=>s.cells.length-c) 0 (Nat.zero_le _) rfl (by simp[pj,p1]) (λc ζ Δ=>?_);have BF:=Ki s.cells c ζ;have mR:=Kh s.cells c;have Γ:=kz c;have py:c*2 ^ 10<=2 ^ 20:=Nat.mul_le_mul_right (2 ^ 10) (show c<=2 ^ 10 by omega);obtain⟨O,cj⟩:∃O,O=pj s.cells c:=⟨_,rfl⟩;rw[<-cj] at BF mR;refine W.to (σ':=aL 29 1 (O.map cu)) (env':=[(1,.ad [aQ s.ai,aN s.ao,bl s.cells]),(3,eQ (O.map cu)),(4,R c)]) ?_ (by rw[cj]) (by rw[cj];simp);(repeat (first|apply κ|(refine ξ λη I=>?_;simp;(repeat (rw[δ];simp));apply I)));by_cases bj:c<s.cells.length
 ·refine al (by simp[bj]) ?_;have fV:=a2 bj;have eX:=pg _ (List.getElem_mem bj);rw[List.getD_eq_getElem?_getD,fV] at mR;obtain⟨ae,g7⟩:∃x,x=s.cells[c]:=⟨_,rfl⟩;rw[<-g7] at fV eX mR;simp only[Option.getD_some] at mR;have kx:∀h,s.cells[c]'h=ae:=λh=>g7.symm;have hw:=gH (i:=c) (by omega);(repeat (first|apply κ|(refine ξ λη I=>?_;simp;(repeat (rw[δ];simp));apply I)));refine W.iter (λi:Nat=>i<=ae.length) (λi=>[(1,.ad [aQ s.ai,aN s.ao,bl s.cells]),(4,R c),(3,eQ ((O++jq c i).map cu)),(5,R i)]) (λi=>aL 29 1 ((O++jq c i).map cu)) (λi=>ae.length-i) 0 (Nat.zero_le _) (by simp[jq]) (by simp[jq]) (λi hi eg=>?_);have dc:=QI c i;have wY:(O++jq c i).length<=2 ^ 21:=by simp[jq];omega
  obtain⟨M,cd⟩:∃M,M=O++jq c i:=⟨_,rfl⟩;rw[<-cd] at wY;have jL:O++jq c (i+1)=M++[[(c:Int),(i:Int)]]:=by rw[dc,cd,List.append_assoc]
  refine W.to (σ':=aL 29 1 (M.map cu)) (env':=[(1,.ad [aQ s.ai,aN s.ao,bl s.cells]),(4,R c),(3,eQ (M.map cu)),(5,R i)]) ?_ (by rw[cd]) (by rw[cd];simp);(repeat (first|apply κ|(refine ξ λη I=>?_;simp;(repeat (rw[δ];simp[bj,fV,kx]));apply I)));by_cases e8:i<ae.length
  ·refine al (by simp[e8]) ?_;have fL:=gH (i:=i) (by omega);(repeat (first|apply κ|(refine ξ λη I=>?_;simp;(repeat (rw[δ];simp));apply I)));refine W.fC (A:=[28]) Κ [(1,.ad [aQ s.ai,aN s.ao,bl s.cells]),(4,R c),(3,eQ ((M++[[(c:Int),(i:Int)]]).map cu)),(5,R i)] (aL 29 1 ((M++[[(c:Int),(i:Int)]]).map cu)) ?_ (by
    clear eg Δ;by_cases Η:M=[]
    ·subst Η;have Ε:eQ (([]:List (List Int)).map cu)=.sl true 0 []:=rfl;have Ζ:aL 29 1 (([]:List (List Int)).map cu)=[]:=rfl;rw[Ε,Ζ];(try simp);(repeat (rw[δ];simp));(try simp[]);simp[eQ,aL]
    ·have gK:M.map cu≠[]:=by simpa using Η
     rw[ri gK,c8 gK];have k5:M.length<=4294967295:=by omega
     (try simp);(repeat (rw[δ];simp[k5]));(try simp[k5]);simp[eQ,aL])
   (repeat (first|apply κ|(refine ξ λη I=>?_;simp;(repeat (rw[δ];simp[fL]));apply I)));exact W.to (eg (i+1) (by omega) (by omega)) (by rw[jL];simp) (by rw[jL];simp)
  ·refine aj (by simp[e8]) ?_;have dA:i=ae.length:=by omega
   subst dA;refine W.exit rfl ?_;(repeat (first|apply κ|(refine ξ λη I=>?_;simp;(repeat (rw[δ];simp[hw]));apply I)));rw[<-cd] at mR;exact W.to (Δ (c+1) (by omega) (by omega)) (by rw[mR]) (by rw[mR];simp)
 ·refine aj (by simp[bj]) ?_;have n9:c=s.cells.length:=by omega
  refine W.exit rfl ?_;refine W.NN (d:=3) AE [] (by simp) (λp h=>by cases h) ?_;obtain⟨b,kk,l,ο⟩:=yh 1 (O.map cu);rw[ο];(repeat (first|apply κ|(refine ξ λη I=>?_;simp;(repeat (rw[δ];simp));apply I)));refine W.ret ⟨_,rfl,?_,rfl⟩;show cC (.sl b kk l) _;rw[<-ο,cj,n9];exact cC.Ie
theorem dψ (l:List Int) (Α:l.length<2 ^ 44):ak Tryz.prog 44 [bf R 1 l] [] (λa s=>a=.ms 0 l.length 0 l.length/\s=[.cells 3 1 (l.map R)]) (λ_ _=>False):=by
 refine ak.body Κ Tryz.func44 rfl rfl Tryz.ntmps44 rfl rfl (by simp) ?_
 repeat apply κ
 refine ξ λη I=>?_;simp;(repeat (rw[δ];simp));apply I
 repeat apply κ
 refine c7 (A:=[7]) Κ λη I=>?_;simp;(repeat (rw[δ];simp));refine⟨by omega,?_⟩;apply I;(repeat (first|apply κ|(refine ξ λη I=>?_;simp;(repeat (rw[δ];simp));apply I)));refine W.iter (λi:Nat=>i<=l.length) (λi=>[(0,bf R 1 l),(3,.ms 0 l.length 0 l.length),(4,R i)]) (λi=>[.cells 3 1 (fill R (R 0) l i)]) (λi=>l.length-i) 0 (Nat.zero_le _) (by simp[Wc]) (by simp) (λi hi Δ=>?_);(repeat (first|apply κ|(refine ξ λη I=>?_;simp;(repeat (rw[δ];simp));apply I)));refine W.en rfl (λζ=>?_) (λζ=>?_)
 ·have ζ:i<l.length:=by simpa using ζ
  (repeat (first|apply κ|(refine ξ λη I=>?_;simp;(repeat (rw[δ];simp[ζ,We R (R 0) l hi,Wn R (R 0) l ζ,Wg R (R 0) l ζ]));apply I)));refine W.forget _ ?_ (Δ (i+1) ζ (by omega));simp[e6 ζ (show l.length<2 ^ 62 by omega)]
 ·have ζ:l.length<=i:=by simpa using ζ
  refine W.exit rfl ?_;(repeat (first|apply κ|(refine ξ λη I=>?_;simp;(repeat (rw[δ];simp));apply I)));refine W.ret ⟨_,rfl,rfl,?_⟩;rw[Wd _ _ _ ζ]
theorem QR (l:List Int) (Α:l.length<2 ^ 44) {σ:List Row} {K E:θ->List Row->Prop} {w8:θ} (he:cC w8 (bf R 1 l)) (hb:av 0 w8) (I:K (.ms σ.length l.length 0 l.length) (σ++[.cells 3 1 (l.map R)])) :
  h1 Tryz.prog (.fn (.func 44) [] []) [w8] σ K E:=by
 have ah:=ak.kQ (dψ l Α) (aK.cons he .nil) (K':=λa s=>a=.ms 0 l.length 0 l.length/\s=[.cells 3 1 (l.map R)]) (λa s h=>⟨_,.refl _,h⟩)
 have aS:=ak.HY (σ:=σ) ah [] (by simp) rfl (λj i ε=>by simp at ε) (λr μ=>by cases μ) (by
   intro a ν;simp at ν;subst ν;exact hb.hf 0) (K':=K) (E':=E) (λa s=>by
   rintro⟨rfl,rfl⟩;refine⟨λr μ=>?_,?_,?_⟩
   ·simp only[List.mem_cons,List.not_mem_nil,or_false] at μ;subst μ;exact .inl (pU (f:=R) λx=>by simp[θ.cells])
   ·exact lI.2 (by simp)
   ·have Ε:pT σ [] [Row.cells 3 1 (l.map R)]=σ++[.cells 3 1 (l.map R)]:=by simp[pT,iu]
    have Ζ:dI (names [] σ.length [Row.cells 3 1 (l.map R)]) (.ms 0 l.length 0 l.length)=.ms σ.length l.length 0 l.length:=by
     rw[lJ];simp[hN,names]
    rw[Ε,Ζ];exact I) (λa s h=>h.elim)
 exact ak.call (first:=[]) (captured:=[]) (by simpa[hb.dI []] using aS)
theorem tf.last {id k kk:Nat} {t:TypeId} {M l:List θ} {n:Nat} (Ι:n=l.length):tf id k l (.cells t kk (M++[.ms id n 0 n])) (.cells t kk (M++[.sl false k l])):=by
 subst Ι;refine .inr ⟨t,kk,_,_,rfl,rfl,by simp,λi e aJ J γ=>?_⟩;by_cases hi:i<M.length
 ·rw[ea hi] at J γ;rw[J] at γ;cases γ;exact⟨rfl,λx a b9 π Μ=>by rw[π] at Μ;cases Μ;exact .same _⟩
 ·rw[hE (by omega)] at J γ;obtain⟨j,ε⟩:∃j,j=i-M.length:=⟨_,rfl⟩;rw[<-ε] at J γ
  match j with
  | 0=>
   simp at J γ;subst J;subst γ;refine⟨rfl,λx a b9 π Μ=>?_⟩
   match x with
   | 0=>simp[θ.cells] at π Μ;subst π;subst Μ;exact .ms
   | x+1=>simp[θ.cells] at π
  | j+1=>simp at J
def ti (c:List Nat):Nat:=match c.getLast? with|none=>0|some x=>x+1
def jQ (n:Nat) (c:List Nat) (v:Nat):List (List Nat):=(List.range' (ti c) (v-ti c)).map λx=>c++[x]
def fW (n:Nat):Nat->List (List Nat)
 | 0=>[[]]
 | i+1=>(fW n i).flatMap λc=>jQ n c n
abbrev mS (l:List Nat):θ:=bf R 1 (l.map λx:Nat=>(x:Int))
abbrev w9 (L:List (List Nat)):θ:=.sl false 1 (L.map mS)
theorem Kn (n:Nat):∀i,∀c∈fW n i,c.length=i
 | 0=>by simp[fW]
 | i+1=>λc ζ=>by
  obtain⟨d,hd,ζ⟩:=List.mem_flatMap.1 ζ;obtain⟨x,_,rfl⟩:=List.mem_map.1 ζ;have:=Kn n i d hd;simp[this]
theorem dω (n:Nat) (c:List Nat) {v:Nat} (h:ti c<=v):jQ n c (v+1)=jQ n c v++[c++[v]]:=by
 unfold jQ;have e:v+1-ti c=(v-ti c)+1:=by omega
 rw[e,List.range'_concat,List.map_append];simp;omega
theorem QS (n:Nat) (c:List Nat):jQ n c (ti c)=[]:=by simp[jQ]
theorem Ko {L:List (List Nat)}:∀e∈L.map mS,∀a∈e.cells,av 0 a:=λe he a ν=>by
 obtain⟨x,_,rfl⟩:=List.mem_map.1 he;simp[θ.cells] at ν;subst ν;refine fJ.2 λb hb c ζ=>?_;obtain⟨y,_,rfl⟩:=List.mem_map.1 hb;simp[θ.cells] at ζ;subst ζ;exact .z _
structure QT (L:List (List Nat)) (X:θ):Prop where
 sl:∃b kk l,X=.sl b kk l/\l.length=L.length/\(L≠[]->kk=1)/\(∀(j:Nat) (c:List Nat),L[j]?=some c->∃e,l[j]?=some e/\cC e (mS c)/\av 0 e/\(e=.sl true 0 []/\c=[]\/e=mS c))
 pR:av 0 X
 kQ:cC X (w9 L)
def uW (L:List (List Nat)):List Row:=if L.isEmpty then [] else [.dead,.cells 29 1 (L.map mS)]
def rO (L:List (List Nat)):θ:=if L.isEmpty then .sl true 0 [] else .ms 1 L.length 0 L.length
theorem FD {L:List (List Nat)} (h:L≠[]):uW L=[.dead,.cells 29 1 (L.map mS)]:=by unfold uW;rw[if_neg (by simpa using h)]
theorem FE {L:List (List Nat)} (h:L≠[]):rO L=.ms 1 L.length 0 L.length:=by unfold rO;rw[if_neg (by simpa using h)]
theorem dΑ (n m:Nat) (Ι:n<2 ^ 20) (hm:m<=n+1) (aH:∀i,i<=m->∀c∈fW n i,∀x∈c,x<n) (hle:∀i,i<=m->(fW n i).length<2 ^ 30):az Tryz.prog 35 [R n,R m] (w9 (fW n m)):=by
 refine ak.body Κ Tryz.func35 rfl rfl Tryz.ntmps35 rfl rfl (by simp) ?_;(repeat (first|apply κ|(refine ξ λη I=>?_;simp;(repeat (rw[δ];simp));apply I)));refine W.iter (ι:=Nat×θ) (λx=>x.1<=m/\QT (fW n x.1) x.2) (λx=>[(0,R n),(1,R m),(5,x.2),(6,R x.1)]) (λ_=>[]) (λx=>m-x.1) (0,.sl true 1 [.sl true 0 []]) ⟨Nat.zero_le _,?_,by simp,?_⟩ rfl (by simp) (λx U Δ=>?_)
 ·refine⟨_,_,_,rfl,rfl,λ_=>rfl,λj c ε=>?_⟩
  match j with
  | 0=>simp[fW] at ε;subst ε;exact⟨_,rfl,.nil,by simp,.inl ⟨rfl,rfl⟩⟩
  | j+1=>simp[fW] at ε
 ·exact .sl rfl λi a b J γ=>by
   match i with
   | 0=>simp[fW] at J γ;subst J;subst γ;exact .one .nil rfl rfl
   | i+1=>simp at J
 obtain⟨i,X⟩:=x;obtain⟨hi,hh⟩:=U;simp only at hi hh Δ ⊢;(repeat (first|apply κ|(refine ξ λη I=>?_;simp;(repeat (rw[δ];simp));apply I)));by_cases Kp:i<m
 ·refine al (by simp[Kp]) ?_;obtain⟨C,hC⟩:∃C,C=fW n i:=⟨_,rfl⟩;have wm:=Kn n i;have BH:=aH i (by omega);have Kq:=hle i (by omega);have QU:fW n (i+1)=C.flatMap λc=>jQ n c n:=by rw[hC];rfl
  have QV:=hle (i+1) (by omega);rw[<-hC] at hh wm BH Kq;rw[QU] at QV;obtain⟨⟨ph,wZ,nC,Kr,FF,dΒ,dΓ⟩,FG,jν⟩:=hh;have hw:=gH (i:=i) (by omega);(repeat (first|apply κ|(refine ξ λη I=>?_;simp;(repeat (rw[δ];simp));apply I)));refine W.iter (λj:Nat=>j<=C.length) (λj=>[(0,R n),(1,R m),(5,X),(6,R i),(7,rO ((C.take j).flatMap λc=>jQ n c n)),(8,R j)]) (λj=>uW ((C.take j).flatMap λc=>jQ n c n)) (λj=>C.length-j) 0 (Nat.zero_le _) (by simp[uW]) (by simp[rO]) (λj ε eg=>?_);obtain⟨M,cd⟩:∃M,M=(C.take j).flatMap λc=>jQ n c n:=⟨_,rfl⟩;refine W.to (σ':=uW M) (env':=[(0,R n),(1,R m),(5,.sl ph wZ nC),(6,R i),(7,rO M),(8,R j)]) ?_ (by rw[cd]) (by rw[cd,<-Kr];simp);(repeat (first|apply κ|(refine ξ λη I=>?_;simp;(repeat (rw[δ];simp[FF]));apply I)));by_cases h7:j<C.length
  ·refine al (by simp[h7]) ?_;have ih:wZ=1:=dΒ (λh=>by rw[h] at h7;simp at h7);subst ih;have fV:=a2 h7;have j6:=List.getElem_mem h7;obtain⟨c,ζ⟩:∃c,c=C[j]:=⟨_,rfl⟩;rw[<-ζ] at fV j6;have bj:=wm c j6;have hr:=BH c j6;obtain⟨e,q8,lF,QW,QX⟩:=dΓ j c fV;have gV:j<nC.length:=by omega
   have FH:∀h,nC[j]'h=e:=λh=>by rw[a2 h] at q8;simpa using q8
   have jL:(C.take (j+1)).flatMap (λc=>jQ n c n)=M++jQ n c n:=by
    rw[List.take_succ_eq_append_getElem h7,List.flatMap_append,<-cd,<-ζ];simp
   have k5:(M++jQ n c n).length<2 ^ 30:=by
    rw[<-jL];refine Nat.lt_of_le_of_lt ?_ QV;rw[List.length_flatMap,List.length_flatMap];have:C.take (j+1)++C.drop (j+1)=C:=List.take_append_drop ..
    conv=>rhs;rw[<-this]
    rw[List.map_append,List.sum_append];omega
   obtain⟨f,Τ⟩:∃f,f=ti c:=⟨_,rfl⟩;have bY:f<=n:=by
    rw[Τ];unfold ti;split
    ·omega
    ·rename_i x U;have:=hr x (List.mem_of_getLast? U);omega
   have o0:=gH (i:=j) (by omega);(repeat (first|apply κ|(refine ξ λη I=>?_;simp;(repeat (rw[δ];simp));apply I)));refine W.upto [(0,R n),(1,R m),(5,.sl ph 1 nC),(6,R i),(7,rO M),(8,R j),(9,R f)] (uW M) ?_ ?_
   ·by_cases kh:i=0
    ·subst kh;have Bn:f=0:=by rw[Τ,dp.1 bj];rfl
     refine aj rfl ?_
     first|apply κ
     exact W.stop ⟨rfl,rfl,by simp[Bn]⟩
    ·refine al (by simp;omega) ?_;obtain⟨p,ω⟩:∃p,i=p+1:=⟨i-1,by omega⟩;have dΔ:e=mS c:=by
      rcases QX with⟨_,h⟩|h
      ·rw[h] at bj;simp at bj;omega
      ·exact h
     have Ks:p<c.length:=by omega
     have sK:=a2 Ks
     have dΕ:=hr _ (List.getElem_mem Ks);obtain⟨y,Ο⟩:∃y,y=c[p]:=⟨_,rfl⟩;rw[<-Ο] at sK dΕ;have dΖ:∀h,c[p]'h=y:=λh=>Ο.symm;have dΗ:f=y+1:=by
      rw[Τ];unfold ti;rw[List.getLast?_eq_getElem?,bj,ω,Nat.add_sub_cancel,sK]
     have fL:IntKind.i64.wrap ((i:Int)-1)=(p:Int):=by rw[IntWalk.i64_in _ (by omega)];omega
     have gw:=gH (i:=y) (by omega);rw[dΔ] at q8 FH;refine ξ λη I=>?_;simp;(repeat (rw[δ];simp[gV,q8,FH,fL,Ks,sK,dΖ,gw]));apply I;exact W.stop ⟨rfl,rfl,by simp[dΗ]⟩
   (repeat (first|apply κ|(refine ξ λη I=>?_;simp;(repeat (rw[δ];simp));apply I)));refine W.iter (λv:Nat=>f<=v/\v<=n) (λv=>[(0,R n),(1,R m),(5,.sl ph 1 nC),(6,R i),(7,rO (M++jQ n c v)),(8,R j),(10,R v)]) (λv=>uW (M++jQ n c v)) (λv=>n-v) f ⟨Nat.le_refl _,bY⟩ (by rw[Τ,QS];simp) (by rw[Τ,QS];simp) (λv hv QY=>?_);obtain⟨tV,v7⟩:=hv;(repeat (first|apply κ|(refine ξ λη I=>?_;simp;(repeat (rw[δ];simp));apply I)));by_cases QZ:v<n
   ·refine al (by simp[QZ]) ?_;have fx:=dω n c (v:=v) (by omega);have dΘ:(c.map λx:Nat=>(x:Int)).length=i:=by rw[List.length_map,bj]
    obtain⟨fX,xa⟩:∃fX,fX=c.map λx:Nat=>(x:Int):=⟨_,rfl⟩;have uX:(fX++[(v:Int)])=(c++[v]).map λx:Nat=>(x:Int):=by rw[xa,List.map_append];rfl
    rw[<-xa] at dΘ;have Q0:cC e (bf R 1 fX):=by rw[xa];exact lF
    have dΙ:(M++jQ n c v).length<2 ^ 30:=by
     refine Nat.lt_of_le_of_lt ?_ k5;simp[jQ];omega
    have Q1:=gH (i:=v) (by omega)
    have kW:M++jQ n c (v+1)=(M++jQ n c v)++[c++[v]]:=by rw[fx,List.append_assoc]
    obtain⟨N,ck⟩:∃N,N=M++jQ n c v:=⟨_,rfl⟩;rw[<-ck] at kW dΙ ⊢;have Q2:fX.length<=4294967295:=by omega
    obtain⟨be,ke,le,wL⟩:∃be ke le,e=.sl be ke le:=by
     rcases QX with⟨h,_⟩|h
     ·exact⟨_,_,_,h⟩
     ·exact⟨_,_,_,h⟩
    subst wL;by_cases Η:N=[]
    ·subst Η;have Ε:rO []=.sl true 0 []:=rfl;have Ζ:uW []=[]:=rfl;rw[Ε,Ζ];(repeat apply κ);refine c7 (A:=[48,50]) Κ λη I=>?_;simp;(repeat (rw[δ];simp[gV,q8,FH]));refine QR fX (by omega) Q0 QW ?_;simp;(repeat (rw[δ];simp[Q2]));apply I;have g4:(List.map R fX++[R v])=(fX++[(v:Int)]).map R:=by rw[List.map_append];rfl
     rw[g4];have vD:fX.length+1=((fX++[(v:Int)]).map R).length:=by simp
     refine W.uS (σ':=[.dead,.cells 29 1 [.sl false 1 ((fX++[(v:Int)]).map R)]]) (id:=0) (by simp) rfl rfl rfl (λx r U μ=>?_) [(0,R n),(1,R m),(5,.sl ph 1 nC),(6,R i),(7,.ms 1 1 0 1),(8,R j),(10,R v)] (λp ω=>by
      simp only[List.mem_cons,List.not_mem_nil,or_false] at ω;rcases ω with rfl|rfl|rfl|rfl|rfl|rfl|rfl<;>exact .same _) ?_
     ·match x,U,μ with
      | 0,h,_=>exact absurd rfl h
      | 1,_,μ=>simp at μ;subst μ;exact⟨_,rfl,tf.last (M:=[]) vD⟩
      | x+2,_,μ=>simp at μ
     have Kt:[θ.sl false 1 ((fX++[(v:Int)]).map R)]=[c++[v]].map mS:=by rw[uX];rfl
     rw[Kt];(repeat (first|apply κ|(refine ξ λη I=>?_;simp;(repeat (rw[δ];simp[Q1]));apply I)));refine W.to (QY (v+1) ⟨by omega,by omega⟩ (by omega)) ?_ ?_
     ·rw[kW,FD (by simp)];simp
     ·rw[kW,FE (by simp)];simp
    ·rw[FE Η,FD Η];(repeat apply κ);refine c7 (A:=[48,50]) Κ λη I=>?_;simp;(repeat (rw[δ];simp[gV,q8,FH]));refine QR fX (by omega) Q0 QW ?_;simp;(repeat (rw[δ];simp[Q2]));refine⟨by omega,?_⟩;apply I;have g4:(List.map R fX++[R v])=(fX++[(v:Int)]).map R:=by rw[List.map_append];rfl
     rw[g4];have vD:fX.length+1=((fX++[(v:Int)]).map R).length:=by simp
     have jξ:N.length=(N.map mS).length:=by simp
     refine W.uS (σ':=[.dead,.cells 29 1 (N.map mS++[.sl false 1 ((fX++[(v:Int)]).map R)]),.dead]) (id:=2) (by simp) rfl rfl rfl (λx r U μ=>?_) [(0,R n),(1,R m),(5,.sl ph 1 nC),(6,R i),(7,.ms 1 (N.length+1) 0 (N.length+1)),(8,R j),(10,R v)] (λp ω=>by
      simp only[List.mem_cons,List.not_mem_nil,or_false] at ω;rcases ω with rfl|rfl|rfl|rfl|rfl|rfl|rfl<;>exact .same _) ?_
     ·match x,U,μ with
      | 0,_,μ=>exact⟨r,μ,.inl rfl⟩
      | 1,_,μ=>simp at μ;subst μ;exact⟨_,rfl,tf.last vD⟩
      | 2,h,_=>exact absurd rfl h
      | x+3,_,μ=>simp at μ
     have Kt:(N.map mS++[θ.sl false 1 ((fX++[(v:Int)]).map R)])=(N++[c++[v]]).map mS:=by rw[uX,List.map_append (l₁:=N)];rfl
     rw[Kt];refine W.drop (h:=2) (by simp) (by simp) (λx r U μ=>?_) rfl [(0,R n),(1,R m),(5,.sl ph 1 nC),(6,R i),(7,.ms 1 (N.length+1) 0 (N.length+1)),(8,R j),(10,R v)] (by
      simp[ng];exact fJ.1 ((Kr▸FG:av 0 (θ.sl ph 1 nC)).mono (Nat.zero_le 2))) ?_
     ·match x,U,μ with
      | 0,_,μ=>simp at μ;subst μ;trivial
      | 1,_,μ=>cases μ;exact λe he a ν=>av.mono (Ko e he a ν) (Nat.zero_le _)
     (repeat (first|apply κ|(refine ξ λη I=>?_;simp;(repeat (rw[δ];simp[Q1]));apply I)));refine W.to (QY (v+1) ⟨by omega,by omega⟩ (by omega)) ?_ ?_
     ·rw[kW,FD (by simp)];simp
     ·rw[kW,FE (by simp)];simp
   ·refine aj (by simp[QZ]) ?_;have dΚ:v=n:=by omega
    subst dΚ;refine W.exit rfl ?_;(repeat (first|apply κ|(refine ξ λη I=>?_;simp;(repeat (rw[δ];simp[o0]));apply I)));exact W.to (eg (j+1) (by omega) (by omega)) (by rw[jL]) (by rw[jL,Kr];simp)
  ·refine aj (by simp[h7]) ?_;have v':j=C.length:=by omega
   subst v';rw[List.take_length,<-QU] at cd;refine W.exit rfl ?_;obtain⟨yW,Ku⟩:∃yW,yW=if M=[] then θ.sl true 0 [] else .sl false 1 (M.map mS):=⟨_,rfl⟩
   refine W.cut 0 (Nat.zero_le _) [(0,R n),(1,R m),(6,R i),(7,yW)] (by simp) (λid r h=>by omega) (λz Η=>by
    simp only[List.mem_cons,List.not_mem_nil,or_false] at Η;rcases Η with rfl|rfl|rfl|rfl
    ·exact .low (by simp)
    ·exact .low (by simp)
    ·exact .low (by simp)
    ·show eE 0 _ (rO M) yW;rw[Ku];by_cases Η:M=[]
     ·rw[Η,if_pos rfl];exact .low (by simp[rO])
     ·rw[if_neg Η,FE Η,FD Η];exact .own (Nat.zero_le _) rfl (by simp) Ko) ?_
   have Q3:QT (fW n (i+1)) yW:=by
    rw[<-cd,Ku];by_cases Η:M=[]
    ·rw[if_pos Η,Η];exact⟨⟨_,_,_,rfl,rfl,λh=>absurd rfl h,λj c h=>by simp at h⟩,by simp,.nil⟩
    ·rw[if_neg Η];refine⟨⟨_,_,_,rfl,by simp,λ_=>rfl,λj c h=>⟨mS c,by rw[List.getElem?_map,h];rfl,.refl _,?_,.inr rfl⟩⟩,fJ.2 Ko,.refl _⟩;exact fJ.2 λb hb d hd=>by
      obtain⟨y,_,rfl⟩:=List.mem_map.1 hb;simp[θ.cells] at hd;subst hd;exact .z _
   clear Ku;obtain⟨bP,k1,l1,jο,_⟩:=Q3.sl;(repeat (first|apply κ|(refine ξ λη I=>?_;simp;(repeat (rw[δ];simp[hw]));apply I)));exact W.to (Δ (i+1,yW) ⟨Kp,Q3⟩ (by show m-(i+1)<m-i;omega)) rfl (by simp)
 ·refine aj (by simp[Kp]) ?_;have dA:i=m:=by omega
  subst dA;refine W.exit rfl ?_;(repeat (first|apply κ|(refine ξ λη I=>?_;simp;(repeat (rw[δ];simp));apply I)));refine W.ret ⟨_,rfl,?_,rfl⟩;exact hh.kQ
end Go.TL
