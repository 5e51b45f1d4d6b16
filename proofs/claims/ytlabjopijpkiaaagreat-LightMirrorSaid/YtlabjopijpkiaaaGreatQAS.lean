import Derived.Sort.LotA
import Derived.Test.YtlabjopijpkiaaaGreatQAN
import Derived.Test.YtlabjopijpkiaaaGreatQAP
import Derived.Test.YtlabjopijpkiaaaGreatQAR
set_option maxHeartbeats 16000000
set_option maxRecDepth 20000
set_option linter.unusedSectionVars false
set_option linter.unusedSimpArgs false
set_option linter.unusedVariables false
namespace Go.TL
open Go.Proofs
variable [bh]
abbrev nG (l:List Int):List Int:=l.mergeSort (λx y=>decide (x<=y))
def FN (N:Nat):Prop:=∀(l:List Int),l.length<=N->aC Tryz.prog 132 [.ms 0 l.length 0 l.length] [.cells 3 1 (l.map δ)] (λr s=>r=.bn []/\s=[.cells 3 1 ((nG l).map δ)]) (λ_ _=>False)
def ly (lower:Bool) (r:Int×Int):Int:=if lower then r.2 else r.1
def mU (lower:Bool) (A:List Int) (C:List (Int×Int)) (j:Nat):List Int:=A++(C.take j).map (ly lower)
theorem KH {lower:Bool} {A:List Int} {C:List (Int×Int)}:mU lower A C 0=A:=by simp[mU]
theorem TD {lower:Bool} {A:List Int} {C:List (Int×Int)} {j:Nat} (h:j<C.length):mU lower A C (j+1)=mU lower A C j++[ly lower C[j]]:=by
 unfold mU;rw[KG _ _ h,List.append_assoc]
theorem KI {lower:Bool} {A:List Int} {C:List (Int×Int)} {j:Nat} (h:C.length<=j):mU lower A C j=A++C.map (ly lower):=by
 unfold mU;rw[List.take_of_length_le h]
theorem TE {lower:Bool} {A:List Int} {C:List (Int×Int)} {j:Nat}:(mU lower A C j).length<=A.length+j:=by
 unfold mU;simp;omega
def KJ (f:Found) (cell:Nat) (lower:Bool):List Int:=((f.cells[cell]?).getD []).map (ly lower)
def jd (F:List Found) (cell:Nat) (lower:Bool):List Int:=F.flatMap λf=>KJ f cell lower
def oF (F:List Found) (cell:Nat) (lower:Bool):List Int:=hE (nG (jd F cell lower))
theorem FO {l:List Int}:∀e∈l.map δ,∀a∈e.cells,az 0 a:=by
 intro e he a κ;obtain⟨x,_,rfl⟩:=List.mem_map.1 he;simp[ζ.cells] at κ;subst κ;simp
theorem TF (F:List Found) (cell:Nat) (lower:Bool) (gC:F.length<2 ^ 20) (hr:∀f∈F,cell<f.cells.length/\∀c∈f.cells,c.length<2 ^ 20) (N:Nat) (b8:N<2 ^ 20) (gT:FN N) (bd:jd F cell lower≠[]) (hle:(jd F cell lower).length<=N) :
  an Tryz.prog 95 [cD F,δ cell,bJ lower] (bC δ 1 (oF F cell lower)):=by
 refine aC.body Μ Tryz.func95 rfl rfl Tryz.ntmps95 rfl rfl (by simp) ?_;(repeat (first|apply μ|(refine ξ λθ I=>?_;simp;(repeat (rw[ε];simp));apply I)));refine W.iter (λi:Nat=>i<=F.length) (λi=>[(1,δ cell),(2,bJ lower),(7,eU ((jd (F.take i) cell lower).map δ)),(12,cD F),(13,δ F.length),(14,δ i)])
  (λi=>bz 3 1 ((jd (F.take i) cell lower).map δ)) (λi=>F.length-i) 0 (Nat.zero_le _) rfl (by simp[jd,mS]) (λi hi Γ=>?_)
 (repeat (first|apply μ|(refine ξ λθ I=>?_;simp;(repeat (rw[ε];simp));apply I)));have TG:∀i,(jd (F.take i) cell lower).length<=N:=λi=>by
  have e:jd F cell lower=jd (F.take i) cell lower++jd (F.drop i) cell lower:=by
   conv=>lhs;rw[<-List.take_append_drop i F]
   simp only[jd,List.flatMap_append]
  rw[e,List.length_append] at hle;omega
 refine W.dR rfl (λη=>?_) (λη=>?_)
 ·have dj:i<F.length:=by simpa using η
  obtain⟨b3,lb⟩:=hr _ (List.getElem_mem dj);have hC:F[i].cells[cell].length<2 ^ 20:=lb _ (List.getElem_mem b3);obtain⟨A,bG⟩:∃A,A=jd (F.take i) cell lower:=⟨_,rfl⟩;have dJ:jd (F.take (i+1)) cell lower=A++F[i].cells[cell].map (ly lower):=by
   rw[bG];unfold jd;rw[List.take_succ_eq_append_getElem dj,List.flatMap_append];simp[KJ,b3]
  have KL:(A++F[i].cells[cell].map (ly lower)).length<=N:=by rw[<-dJ];exact TG _
  rw[List.length_append,List.length_map] at KL;refine W.to (σ':=bz 3 1 (A.map δ)) (env':=[(1,δ cell),(2,bJ lower),(7,eU (A.map δ)),(12,cD F),(13,δ F.length),(14,δ i)]) ?_ (by rw[bG]) (by rw[bG];simp)
  repeat apply μ
  refine dy (A:=[9]) Μ λθ I=>?_;simp;(repeat (rw[ε];simp[dj]));apply I;refine W.lu (Nat.zero_le _) (vJ FO) (by simp) [(9,.Ω [δ F[i].u,δ F[i].v,lq F[i].cells]),(1,δ cell),(2,bJ lower),(7,eU (A.map δ)),(12,cD F),(13,δ F.length),(14,δ i)] (by simp) ?_;(repeat (first|apply μ|(refine ξ λθ I=>?_;simp;(repeat (rw[ε];simp[b3]));apply I)));generalize cΘ:F[i].cells[cell]=C at hC dJ KL;refine W.iter (λj:Nat=>j<=C.length) (λj=>[(1,δ cell),(2,bJ lower),(7,eU ((mU lower A C j).map δ)),(12,cD F),(13,δ F.length),(14,δ i),(22,lp C),(23,δ C.length),(24,δ j)])
   (λj=>bz 3 1 ((mU lower A C j).map δ)) (λj=>C.length-j) 0 (Nat.zero_le _) (by rw[KH]) (by simp[KH]) (λj γ hz=>?_)
  (repeat (first|apply μ|(refine ξ λθ I=>?_;simp;(repeat (rw[ε];simp));apply I)));refine W.dR rfl (λa6=>?_) (λa6=>?_)
  ·have dE:j<C.length:=by simpa using a6
   obtain⟨L,aS⟩:∃L,L=mU lower A C j:=⟨_,rfl⟩;have lz:L.length<=A.length+j:=by rw[aS];exact TE
   have ys:mU lower A C (j+1)=L++[ly lower C[j]]:=by rw[aS];exact TD dE
   refine W.to (σ':=bz 3 1 (L.map δ)) (env':=[(1,δ cell),(2,bJ lower),(7,eU (L.map δ)),(12,cD F),(13,δ F.length),(14,δ i),(22,lp C),(23,δ C.length),(24,δ j)]) ?_ (by rw[aS]) (by rw[aS];simp)
   repeat apply μ
   refine dy (A:=[11]) Μ λθ I=>?_;simp;(repeat (rw[ε];simp[dE]));apply I;refine W.lu (Nat.zero_le _) (vJ FO) (by simp) [(11,.Ω [δ C[j].1,δ C[j].2]),(1,δ cell),(2,bJ lower),(7,eU (L.map δ)),(12,cD F),(13,δ F.length),(14,δ i),(22,lp C),(23,δ C.length),(24,δ j)] (by simp) ?_
   repeat apply μ
   generalize C[j]=r at ys;refine W.hD (A:=[34]) Μ [(1,δ cell),(2,bJ lower),(7,eU ((L++[ly lower r]).map δ)),(12,cD F),(13,δ F.length),(14,δ i),(22,lp C),(23,δ C.length),(24,δ j)] (bz 3 1 ((L++[ly lower r]).map δ)) ?_ (by
    have jY:L.length<=4294967295:=by omega
    rw[List.map_append];cases lower
    all_goals
     by_cases Ν:L.map δ=[]
     ·rw[Ν,mS,iN];(try simp);(repeat (rw[ε];simp));(try simp[]);refine an.c (FD _) (aE.refl _) (by simp) (by simp) ?_;simp;(repeat (rw[ε];simp));(try simp[bz,eU,ly])
     ·rw[oD Ν,ei Ν];(try simp);(repeat (rw[ε];simp));(try simp[]);refine an.c (FD _) (aE.refl _) (by simp) (by simp) ?_;simp;(repeat (rw[ε];simp));(try simp[oE,sb,ly,jY]))
   (repeat (first|apply μ|(refine ξ λθ I=>?_;simp;(repeat (rw[ε];simp));apply I)));refine W.to (hz (j+1) dE (by omega)) ?_ ?_
   ·rw[ys,List.map_append];rfl
   ·rw[ys];simp[eK dE (show C.length<2 ^ 62 by omega)]
  ·have dE:C.length<=j:=by simpa using a6
   refine W.exit rfl ?_;(repeat (first|apply μ|(refine ξ λθ I=>?_;simp;(repeat (rw[ε];simp));apply I)));refine W.to (Γ (i+1) dj (by omega)) ?_ ?_
   ·rw[dJ,KI dE]
   ·rw[dJ,KI dE];simp[eK dj (show F.length<2 ^ 62 by omega)]
 ·have dj:i=F.length:=by simp at η;omega
  refine W.exit rfl ?_;rw[dj,List.take_length];obtain⟨M,dM⟩:∃M,M=jd F cell lower:=⟨_,rfl⟩;rw[<-dM] at bd hle ⊢;have BY:M.map δ≠[]:=by simpa using bd
  have k':oF F cell lower=hE (nG M):=by rw[dM];rfl
  have pM:(nG M).length=M.length:=by simp[nG]
  refine W.to (σ':=[.cells 3 1 (M.map δ)]) (env':=[(7,.ms 0 M.length 0 M.length)]) ?_ (ei BY) (by simp[oD BY]);(repeat apply μ);refine ξ λθ I=>?_;simp;(repeat (rw[ε];simp));refine aC.one (gT M hle) 0 rfl (tQ r6) (tQ r6) (by simp[mM]) (by simp[fH]) (by simp[mN]) ?_;simp[dP,hy];(repeat (rw[ε];simp));apply I;(repeat apply μ);refine ξ λθ I=>?_;simp;(repeat (rw[ε];simp));have TH:=Tx (nG M) M.length pM (by omega);refine aC.FF TH 0 rfl (tQ r6) (by simp[mM]) (by simp[mN]) (λa s ⟨tail,J,R,ς⟩=>⟨_,ς,tQ r6,by subst R;simp[mM],?_⟩);subst R;simp[mN];(repeat (rw[ε];simp));apply I;refine W.cut 0 (Nat.zero_le _) [(6,bC δ 1 (hE (nG M)))] (by simp) (by simp) ?_ ?_
  ·intro p χ;simp at χ;subst χ;have χ:=et.part (σ:=[.cells 3 1 ((hE (nG M)).map δ++tail.map δ)]) (id:=0) (t:=3) (k:=1) (l:=(hE (nG M)).map δ) (l2:=tail.map δ) (m:=(hE (nG M)).length) rfl (by simp) FO;have e:((hE (nG M)).map δ++tail.map δ).length=M.length:=by rw[<-List.map_append,List.length_map];exact J
   rw[e] at χ;exact χ
  ·rw[k'];refine W.ret ⟨_,rfl,?_,rfl⟩;exact .refl _
abbrev iP (n:Int):ζ:=.z (.int .i32 n)
theorem TI (l:List Int):qM (l.map iP)=some l:=by
 induction l with
 | nil=>rfl
 | cons a l Γ=>simp[qM,Γ]
def sf (s:a9) (F:List Found) (lower:Bool) (ez:ByteArray->Int) (c:Nat):Int:=
 let l:=oF F c lower
 if 1<l.length then 63 else if l.headD 0<0 then 45 else match s.Τ[(l.headD 0).toNat]? with|some g=>ez g.name|none=>0
def nH (s:a9) (F:List Found) (lower:Bool) (ez:ByteArray->Int) (c:Nat):List Int:=(List.range c).map (sf s F lower ez)
def sg (s:a9) (F:List Found) (lower:Bool) (ez:ByteArray->Int):ByteArray×Int:=
 if(ft s true F).2.2=0 then(spell (nH s F lower ez s.cells.length),0) else(⟨#[]⟩,(ft s true F).2.2)
structure KM (s:a9) (F:List Found) (lower:Bool) (ez:ByteArray->Int) (N:Nat):Prop where
 sh:F.length<2 ^ 20
 cells:∀f∈F,f.cells.length=s.cells.length/\∀c∈f.cells,c.length<2 ^ 20
 some:∀c,c<s.cells.length->jd F c lower≠[]/\(jd F c lower).length<=N/\oF F c lower≠[]/\(oF F c lower).length<2 ^ 30/\∀x∈oF F c lower,x<s.Τ.length
 name:∀g∈s.Τ,(Conv.runesFrom g.name g.name.size 0 #[])[0]?=Option.some (.int .i32 (ez g.name))
theorem TJ (s:a9) (ν:s.small) (F:List Found) (gC:se s F) (lower:Bool) (ez:ByteArray->Int) (N:Nat) (b8:N<2 ^ 20) (gT:FN N) (aS:KM s F lower ez N) :
  an Tryz.prog 40 [e8 s,bJ lower] (.bn [ln (sg s F lower ez).1,δ (sg s F lower ez).2]):=by
 refine aC.body Μ Tryz.func40 rfl rfl Tryz.ntmps40 rfl rfl (by simp) ?_;(repeat (first|apply μ|(refine ξ λθ I=>?_;simp;(repeat (rw[ε];simp));apply I)));(repeat apply μ);refine dy (A:=[6]) Μ λθ I=>?_;simp;(repeat (rw[ε];simp));refine an.c (BX s ν true F gC) (aE.refl _) (by simp) (by simp) ?_;simp;(repeat (rw[ε];simp));apply I;by_cases b:(ft s true F).2.2=0
 case neg=>
  have e:sg s F lower ez=(⟨#[]⟩,(ft s true F).2.2):=by unfold sg;rw[if_neg b]
  rw[e];generalize (ft s true F).2.2=fr at b;(repeat (first|apply μ|(refine ξ λθ I=>?_;simp;(repeat (rw[ε];simp));apply I)));refine ax (by simp[b]) ?_;(repeat (first|apply μ|(refine ξ λθ I=>?_;simp;(repeat (rw[ε];simp));apply I)));refine W.drop (h:=0) (σ':=[]) (Nat.zero_le _) (Nat.zero_le _) (by simp) rfl [(4,ln ⟨#[]⟩),(5,δ fr)] (by simp) ?_;refine W.ret ⟨_,rfl,?_,rfl⟩;exact .refl _
 have e:ft s true F=(s,F,0):=by
  unfold ft at b ⊢;split at b
  ·rename_i h;simp at b;exact absurd b h
  ·split at b
   ·simp at b
   ·rename_i J R;rw[if_neg J,if_neg R]
 have Ε:sg s F lower ez=(spell (nH s F lower ez s.cells.length),0):=by unfold sg;rw[if_pos b]
 rw[Ε,e];refine W.fix (id:=0) (σ':=[]) (Nat.zero_le _) rfl (by simp) (by simp) rfl [(1,bJ lower),(6,.Ω [aJ s.Τ,aL s.ak,bx s.cells]),(7,cD F),(8,δ 0)] (by simp) ?_;(repeat (first|apply μ|(refine ξ λθ I=>?_;simp;(repeat (rw[ε];simp));apply I)));refine au rfl ?_;(repeat (first|apply μ|(refine ξ λθ I=>?_;simp;(repeat (rw[ε];simp));apply I)));have hr:s.cells.length<2 ^ 30:=ν.2.2.1;refine W.iter (λc:Nat=>c<=s.cells.length) (λc=>[(1,bJ lower),(6,.Ω [aJ s.Τ,aL s.ak,bx s.cells]),(7,cD F),(9,eU ((nH s F lower ez c).map iP)),(25,δ s.cells.length),(26,δ c)])
  (λc=>bz 21 1 ((nH s F lower ez c).map iP)) (λc=>s.cells.length-c) 0 (Nat.zero_le _) rfl (by simp[nH,mS]) (λc k7 Γ=>?_)
 (repeat (first|apply μ|(refine ξ λθ I=>?_;simp;(repeat (rw[ε];simp));apply I)));refine W.dR rfl (λη=>?_) (λη=>?_)
 ·have a6:c<s.cells.length:=by simpa using η
  obtain⟨J,R,ς,Κ,aF⟩:=aS.some c a6;obtain⟨ag,ck⟩:∃ag,ag=nH s F lower ez c:=⟨_,rfl⟩;have vL:ag.length=c:=by rw[ck];simp[nH]
  have dJ:nH s F lower ez (c+1)=ag++[sf s F lower ez c]:=by rw[ck];unfold nH;rw[List.range_succ,List.map_append];rfl
  refine W.to (σ':=bz 21 1 (ag.map iP)) (env':=[(1,bJ lower),(6,.Ω [aJ s.Τ,aL s.ak,bx s.cells]),(7,cD F),(9,eU (ag.map iP)),(25,δ s.cells.length),(26,δ c)]) ?_ (by rw[ck]) (by rw[ck];simp);(repeat (first|apply μ|(refine ξ λθ I=>?_;simp;(repeat (rw[ε];simp));apply I)));(repeat apply μ);refine ξ λθ I=>?_;simp;(repeat (rw[ε];simp));refine an.c (TF F c lower aS.sh (λf ab=>⟨by rw[(aS.cells f ab).1];exact a6,(aS.cells f ab).2⟩) N b8 gT J R) (aE.refl _) (by simp) (by simp) ?_;simp;(repeat (rw[ε];simp));apply I;have jY:ag.length<=4294967295:=by omega
  obtain⟨l,Β⟩:∃l,l=oF F c lower:=⟨_,rfl⟩;have FP:sf s F lower ez c=if 1<l.length then 63 else if l.headD 0<0 then 45 else match s.Τ[(l.headD 0).toNat]? with|some g=>ez g.name|none=>0:=by rw[Β];rfl
  rw[<-Β] at ς Κ aF ⊢;clear Β ck;(repeat (first|apply μ|(refine ξ λθ I=>?_;simp;(repeat (rw[ε];simp));apply I)));by_cases q:1<l.length
  ·have ι:sf s F lower ez c=63:=by rw[FP,if_pos q]
   refine ax (by simp;omega) ?_
   repeat apply μ
   refine W.hD (A:=[57]) Μ [(1,bJ lower),(6,.Ω [aJ s.Τ,aL s.ak,bx s.cells]),(7,cD F),(9,eU ((ag++[63]).map iP)),(25,δ s.cells.length),(26,δ c)] (bz 21 1 ((ag++[63]).map iP)) ?_ (by
    rw[List.map_append];by_cases Ν:ag.map iP=[]
    ·rw[Ν,mS,iN];(try simp);(repeat (rw[ε];simp));(try simp[]);simp[bz,eU]
    ·rw[oD Ν,ei Ν];(try simp);(repeat (rw[ε];simp));(try simp[]);simp[oE,sb,jY])
   (repeat (first|apply μ|(refine ξ λθ I=>?_;simp;(repeat (rw[ε];simp));apply I)));refine W.to (Γ (c+1) a6 (by omega)) ?_ ?_
   ·simp only[dJ,ι,List.map_append,List.map_cons,List.map_nil]
   ·rw[dJ,ι];simp[eK a6 (show s.cells.length<2 ^ 62 by omega)]
  ·obtain⟨x,U⟩:∃x,l=[x]:=by
    match l,ς,q with
    | [x],_,_=>exact⟨x,rfl⟩
    | x::y::z,_,q=>simp at q
   subst U;refine au (by simp) ?_;(repeat (first|apply μ|(refine ξ λθ I=>?_;simp;(repeat (rw[ε];simp));apply I)));by_cases g:x<0
   ·have ι:sf s F lower ez c=45:=by rw[FP];simp[g]
    refine ax (by simp[g]) ?_;(repeat (first|apply μ|(refine ξ λθ I=>?_;simp;(repeat (rw[ε];simp));apply I)));refine W.hD (A:=[57]) Μ [(1,bJ lower),(6,.Ω [aJ s.Τ,aL s.ak,bx s.cells]),(7,cD F),(9,eU ((ag++[45]).map iP)),(25,δ s.cells.length),(26,δ c)] (bz 21 1 ((ag++[45]).map iP)) ?_ (by
     rw[List.map_append];by_cases Ν:ag.map iP=[]
     ·rw[Ν,mS,iN];(try simp);(repeat (rw[ε];simp));(try simp[]);simp[bz,eU]
     ·rw[oD Ν,ei Ν];(try simp);(repeat (rw[ε];simp));(try simp[]);simp[oE,sb,jY])
    (repeat (first|apply μ|(refine ξ λθ I=>?_;simp;(repeat (rw[ε];simp));apply I)));refine W.to (Γ (c+1) a6 (by omega)) ?_ ?_
    ·simp only[dJ,ι,List.map_append,List.map_cons,List.map_nil]
    ·rw[dJ,ι];simp[eK a6 (show s.cells.length<2 ^ 62 by omega)]
   ·obtain⟨k,rfl⟩:∃k:Nat,x=k:=⟨x.toNat,by omega⟩;have Α:k<s.Τ.length:=by have:=aF (k:Int) (by simp);omega
    have ι:sf s F lower ez c=ez s.Τ[k].name:=by rw[FP];simp[g,Α]
    have jS:=aS.name _ (List.getElem_mem Α)
    have yt:∀h:0<(Conv.runesFrom s.Τ[k].name s.Τ[k].name.size 0 #[]).size,(Conv.runesFrom s.Τ[k].name s.Τ[k].name.size 0 #[])[0]'h=.int .i32 (ez s.Τ[k].name):=λh=>by
     rw[eM h] at jS;exact Option.some.inj jS
    have BZ:0<(Conv.runesFrom s.Τ[k].name s.Τ[k].name.size 0 #[]).size:=(Array.getElem?_eq_some_iff.1 jS).1;refine au (by simp) ?_;refine W.draw (A:=[]) Μ mixed λθ I=>?_;simp;(repeat (rw[cz];simp[Α,jS,BZ]));try rw[cy]
    refine⟨cZ (by kernel_rfl),I _ _ ?_⟩
    repeat apply μ
    refine W.forget [(1,bJ lower),(6,.Ω [aJ s.Τ,aL s.ak,bx s.cells]),(7,cD F),(9,eU (ag.map iP)),(11,iP (ez s.Τ[k].name)),(25,δ s.cells.length),(26,δ c)] (by simp[yt BZ]) ?_;refine W.hD (A:=[57]) Μ [(1,bJ lower),(6,.Ω [aJ s.Τ,aL s.ak,bx s.cells]),(7,cD F),(9,eU ((ag++[(ez s.Τ[k].name)]).map iP)),(25,δ s.cells.length),(26,δ c)] (bz 21 1 ((ag++[(ez s.Τ[k].name)]).map iP)) ?_ (by
     rw[List.map_append];by_cases Ν:ag.map iP=[]
     ·rw[Ν,mS,iN];(try simp);(repeat (rw[ε];simp));(try simp[]);simp[bz,eU]
     ·rw[oD Ν,ei Ν];(try simp);(repeat (rw[ε];simp));(try simp[]);simp[oE,sb,jY])
    (repeat (first|apply μ|(refine ξ λθ I=>?_;simp;(repeat (rw[ε];simp));apply I)));refine W.to (Γ (c+1) a6 (by omega)) ?_ ?_
    ·simp only[dJ,ι,List.map_append,List.map_cons,List.map_nil]
    ·rw[dJ,ι];simp[eK a6 (show s.cells.length<2 ^ 62 by omega)]
 ·have η:c=s.cells.length:=by simp at η;omega
  subst η;refine W.exit rfl ?_;(repeat (first|apply μ|(refine ξ λθ I=>?_;simp;(repeat (rw[ε];simp));apply I)));obtain⟨ag,ck⟩:∃ag,ag=nH s F lower ez s.cells.length:=⟨_,rfl⟩;rw[<-ck];refine W.to (σ':=bz 21 1 (ag.map iP)) (env':=[(9,eU (ag.map iP))]) ?_ rfl (by simp);by_cases Ν:ag.map iP=[]
  ·have n2:ag=[]:=by simpa using Ν
   rw[Ν,mS,iN,n2];have hm:qM []=some []:=rfl;(repeat apply μ);refine ξ λθ I=>?_;simp;(repeat (rw[ε];simp[hm]));apply I;refine W.ret ⟨_,rfl,?_,rfl⟩;exact .refl _
  ·have hm:qM (List.take ag.length (ag.map iP))=some ag:=by
    rw[List.take_of_length_le (by simp)];exact TI ag
   rw[oD Ν,ei Ν];(repeat apply μ);refine ξ λθ I=>?_;simp;(repeat (rw[ε];simp[hm]));apply I;refine W.drop (h:=0) (σ':=[]) (Nat.zero_le _) (Nat.zero_le _) (by simp) rfl [(4,ln (spell ag)),(5,δ 0)] (by simp) ?_;refine W.ret ⟨_,rfl,?_,rfl⟩;exact .refl _
theorem KN {α:Type} [Inhabited α] {lt:α->α->Bool} (ν:Go.Sort.SWO lt) (κ:∀x y,lt x y=false->lt y x=false->x=y) (l:List α):(Go.Sort.insertionSort lt l.toArray 0 l.length).toList=l.mergeSort (λx y=>!lt y x):=by
 obtain⟨J,R⟩:=Go.Sort.insertionSort_holds (lt:=lt) ν l.toArray 0 l.length (Nat.zero_le _) (by simp);exact Go.Sort.sorted_unique_holds (lt:=lt) ν κ l.toArray _ (by simpa using J) (by simpa using R)
theorem TK (x y:Int) (h:Go.Sort.ltInt x y=false) (k:Go.Sort.ltInt y x=false):x=y:=by
 simp[Go.Sort.ltInt] at h k;omega
theorem TM:FN 12:=λl Β=>by
 have h:=Ta l.toArray l.length (by simp) Β;rw[KN Go.Sort.swo_ltInt TK l] at h;have e:(λx y:Int=>!Go.Sort.ltInt y x)=λx y=>decide (x<=y):=by
  funext x y;rw[Bool.eq_iff_iff];simp[Go.Sort.ltInt]
 rw[e] at h;exact h
theorem q3 (x y:Int×Int):dt ov x y=decide (x.1<y.1\/(x.1=y.1/\x.2<y.2)):=by
 unfold dt ov;simp only[nC,nB];by_cases J:x.1<y.1
 ·simp[J]
 ·by_cases R:y.1<x.1
  ·have:¬x.1=y.1:=by omega
   simp[J,R,this]
  ·have ς:x.1=y.1:=by omega
   by_cases Κ:x.2<y.2
   ·simp[ς,Κ]
   ·by_cases aF:y.2<x.2
    ·simp[ς,Κ,aF]
    ·simp[ς,Κ,aF]
theorem B0:Go.Sort.SWO (dt ov) where
 irrefl x:=by rw[q3];simp
 trans x y z h k:=by
  rw[q3] at *;simp at *;omega
 ntrans x y z h k:=by
  rw[q3] at *;simp at *;omega
theorem TN (x y:Int×Int) (h:dt ov x y=false) (k:dt ov y x=false):x=y:=by
 rw[q3] at *;simp at h k;apply Prod.ext<;>omega
abbrev kE (x y:Int×Int):Bool:=!dt ov y x
theorem TO {l m:List (Int×Int)} (χ:l.Perm m) (hm:m.Pairwise λx y=>x.1<y.1\/(x.1=y.1/\x.2<y.2)):l.mergeSort kE=m:=by
 have FQ:∀a b c:Int×Int,kE a b=true->kE b c=true->kE a c=true:=λa b c h k=>by
  simp only[kE,q3] at *;simp at *;omega
 have FR:∀a b:Int×Int,(kE a b||kE b a)=true:=λa b=>by
  simp only[kE,q3];simp;omega
 have s1:=List.pairwise_mergeSort (le:=kE) FQ FR l
 have dU:(l.mergeSort kE).Perm m:=(List.mergeSort_perm l kE).trans χ;refine List.Perm.eq_of_pairwise (le:=λa b=>kE a b=true) (λa b _ _ h k=>?_) s1 (hm.imp λ{a b} h=>?_) dU
 ·simp only[kE,q3] at h k;simp at h k;apply Prod.ext<;>omega
 ·simp only[kE,q3];simp;omega
theorem TP (bj:ζ) (c6:az 0 bj):an Tryz.prog 234 [.sl true 0 [],δ 0,δ 0,bj] (.bn []):=by
 refine aC.body Μ Tryz.func234 rfl rfl Tryz.ntmps234 rfl rfl (by simp) ?_;(repeat (first|apply μ|(refine ξ λθ I=>?_;simp;(repeat (rw[ε];simp));apply I)));refine .loop ?_;(repeat (first|apply μ|(refine ξ λθ I=>?_;simp;(repeat (rw[ε];simp));apply I)));refine au rfl ?_;refine W.exit rfl ?_;exact W.nil ⟨_,rfl,dr.refl _,rfl⟩
theorem TQ (qX:Nat) (bj:ζ) (c6:az 0 bj):an Tryz.prog 211 [.sl true 0 [],δ 0,δ 0,δ qX,bj] (.bn []):=by
 refine aC.body Μ Tryz.func211 rfl rfl Tryz.ntmps211 rfl rfl (by simp) ?_;(repeat (first|apply μ|(refine ξ λθ I=>?_;simp;(repeat (rw[ε];simp));apply I)));refine .loop ?_;(repeat (first|apply μ|(refine ξ λθ I=>?_;simp;(repeat (rw[ε];simp));apply I)));refine ax rfl ?_;(repeat apply μ);refine ξ λθ I=>?_;simp;(repeat (rw[ε];simp));refine an.c (TP bj c6) (aE.refl _) (by simp[c6]) (by simp) ?_;simp;(repeat (rw[ε];simp));apply I;exact W.ret ⟨_,rfl,dr.refl _,rfl⟩
theorem TR (bj:ζ) (c6:az 0 bj):an Tryz.prog 173 [.sl true 0 [],bj] (.bn []):=by
 refine aC.body Μ Tryz.func173 rfl rfl Tryz.ntmps173 rfl rfl (by simp) ?_;have Ε:IntKind.u64.wrap (0:Int)=0:=by decide
 (repeat (first|apply μ|(refine ξ λθ I=>?_;simp;(repeat (rw[ε];simp));apply I)));(repeat apply μ);refine ξ λθ I=>?_;simp;(repeat (rw[ε];simp[Ε]));refine an.c (yn 0 (by omega)) (aE.refl _) (by simp) (by simp) ?_;simp;(repeat (rw[ε];simp));refine an.c (TQ (Go.Sort.bitsLen 0) bj c6) (aE.refl _) (by simp[c6]) (by simp) ?_;simp;(repeat (rw[ε];simp));apply I;exact W.nil ⟨_,rfl,dr.refl _,rfl⟩
theorem TS (bj:ζ) (c6:az 0 bj):an Tryz.prog 217 [.sl true 0 [],δ 0,δ 0,bj] (.bn []):=by
 refine aC.body Μ Tryz.func217 rfl rfl Tryz.ntmps217 rfl rfl (by simp) ?_;(repeat (first|apply μ|(refine ξ λθ I=>?_;simp;(repeat (rw[ε];simp));apply I)));refine .loop ?_;(repeat (first|apply μ|(refine ξ λθ I=>?_;simp;(repeat (rw[ε];simp));apply I)));refine au rfl ?_;refine W.exit rfl ?_;exact W.nil ⟨_,rfl,dr.refl _,rfl⟩
theorem TT (qX:Nat) (bj:ζ) (c6:az 0 bj):an Tryz.prog 182 [.sl true 0 [],δ 0,δ 0,δ qX,bj] (.bn []):=by
 refine aC.body Μ Tryz.func182 rfl rfl Tryz.ntmps182 rfl rfl (by simp) ?_;(repeat (first|apply μ|(refine ξ λθ I=>?_;simp;(repeat (rw[ε];simp));apply I)));refine .loop ?_;(repeat (first|apply μ|(refine ξ λθ I=>?_;simp;(repeat (rw[ε];simp));apply I)));refine ax rfl ?_;(repeat apply μ);refine ξ λθ I=>?_;simp;(repeat (rw[ε];simp));refine an.c (TS bj c6) (aE.refl _) (by simp[c6]) (by simp) ?_;simp;(repeat (rw[ε];simp));apply I;exact W.ret ⟨_,rfl,dr.refl _,rfl⟩
theorem TU (bj:ζ) (c6:az 0 bj):an Tryz.prog 147 [.sl true 0 [],bj] (.bn []):=by
 refine aC.body Μ Tryz.func147 rfl rfl Tryz.ntmps147 rfl rfl (by simp) ?_;have Ε:IntKind.u64.wrap (0:Int)=0:=by decide
 (repeat (first|apply μ|(refine ξ λθ I=>?_;simp;(repeat (rw[ε];simp));apply I)));(repeat apply μ);refine ξ λθ I=>?_;simp;(repeat (rw[ε];simp[Ε]));refine an.c (yn 0 (by omega)) (aE.refl _) (by simp) (by simp) ?_;simp;(repeat (rw[ε];simp));refine an.c (TT (Go.Sort.bitsLen 0) bj c6) (aE.refl _) (by simp[c6]) (by simp) ?_;simp;(repeat (rw[ε];simp));apply I;exact W.nil ⟨_,rfl,dr.refl _,rfl⟩
theorem et.struct {h id k:Nat} {σ:List Row} {t:TypeId} {l cs:List ζ} (bS:h<=id) (bA:σ[id]?=some (.cells t k [.aR l])) (hlen:cs.length=l.length) (H:∀(x:Nat) (a b6:ζ),l[x]?=some a->cs[x]?=some b6->et h σ a b6):et h σ (.ae id 1 0 0) (.Ω cs):=
 .ae bS bA rfl rfl (by simp[ζ.cells,hlen]) λx a b6 J R=>H x a b6 (by simpa[ζ.cells] using J) R
abbrev g7 (a b c:ζ):Row:=.cells 26 3 [.aR [a,b,c]]
abbrev di (r:Int×Int):ζ×ζ:=(b5 r,bJ true)
theorem TV (x y:Int×Int):aeqv a4 112 (b5 x) (b5 y)=some (decide (x=y)):=by
 simp[aeqv,iF,lf];rw[Bool.eq_iff_iff];simp[Prod.ext_iff]
theorem TW (r:Int×Int):∀(l:List (Int×Int)) (n:Nat),r∉l->gS a4 112 (b5 r) (l.map di) n=some none:=by
 intro l
 induction l with
 | nil=>intro n _;rfl
 | cons x l Γ=>
  intro n h;simp only[List.map_cons,gS];have J:¬r=x:=λe=>h (by simp[e]);have:=TV r x;rw[this,decide_eq_false J];exact Γ (n+1) λhm=>h (by simp[hm])
def mV (i j:Nat):List (Int×Int):=(List.range j).map λy:Nat=>((i:Int)-1,(y:Int)-1)
def pN (n i:Nat):List (Int×Int):=(List.range i).flatMap λx=>mV x (n+1)
def FT (n:Nat):List (Int×Int):=pN n (n+1)
theorem KO (i j:Nat):mV i (j+1)=mV i j++[((i:Int)-1,(j:Int)-1)]:=by simp[mV,List.range_succ]
theorem KP (n i:Nat):pN n (i+1)=pN n i++mV i (n+1):=by simp[pN,List.range_succ]
theorem B1 {i j:Nat} {r:Int×Int} (h:r∈mV i j):r.1=(i:Int)-1/\r.2<(j:Int)-1:=by
 unfold mV at h;obtain⟨y,ad,rfl⟩:=List.mem_map.1 h;have:=List.mem_range.1 ad;exact⟨rfl,by simp;omega⟩
theorem KQ {n i:Nat} {r:Int×Int} (h:r∈pN n i):r.1<(i:Int)-1:=by
 unfold pN at h;obtain⟨x,U,R⟩:=List.mem_flatMap.1 h;have:=List.mem_range.1 U;have:=(B1 R).1;omega
def mW (s:a9) (p:Int×Int) (c:Nat):List (Int×Int):=(FT s.Τ.length).filter λr=>s.vC p r c
theorem TX (i j:Nat):(mV i j).Pairwise λx y=>x.1<y.1\/(x.1=y.1/\x.2<y.2):=by
 induction j with
 | zero=>simp[mV]
 | succ j Γ=>
  rw[KO,List.pairwise_append];refine⟨Γ,by simp,λa κ b hb=>?_⟩;simp at hb;subst hb;have:=B1 κ;exact .inr ⟨this.1,by simpa using this.2⟩
theorem TY (n i:Nat):(pN n i).Pairwise λx y=>x.1<y.1\/(x.1=y.1/\x.2<y.2):=by
 induction i with
 | zero=>simp[pN]
 | succ i Γ=>
  rw[KP,List.pairwise_append];refine⟨Γ,TX _ _,λa κ b hb=>.inl ?_⟩;have:=KQ κ;have:=(B1 hb).1;omega
theorem TZ (s:a9) (p:Int×Int) (c:Nat):(mW s p c).Pairwise λx y=>x.1<y.1\/(x.1=y.1/\x.2<y.2):=(TY _ _).filter _
def FU (N:Nat):Prop:=∀(l:List (Int×Int)),l.length<=N->aC Tryz.prog 173 [.ms 0 l.length 0 l.length,.fn (.func 174) [] []] [.cells 112 2 (l.map b5)] (λr s=>r=.bn []/\s=[.cells 112 2 ((l.mergeSort kE).map b5)]) (λ_ _=>False)
theorem T0:FU 12:=λl Β=>by
 have h:=S7 l.toArray l.length (by simp) Β (.fn (.func 174) [] []) ov (by simp[iH]) (λx y=>an.p (SZ x y) (aE.refl _) (by simp) (by simp));rw[KN B0 TN l] at h;exact h
def kF (q:Int×Int->Bool) (n i j:Nat):List (Int×Int):=(pN n i++mV i j).filter q
theorem T1 {q:Int×Int->Bool} {n:Nat}:kF q n 0 0=[]:=by simp[kF,pN,mV]
theorem T2 {q:Int×Int->Bool} {n i:Nat}:kF q n i (n+1)=kF q n (i+1) 0:=by simp[kF,KP,mV]
theorem T3 {q:Int×Int->Bool} {n i j:Nat}:kF q n i (j+1)=kF q n i j++if q ((i:Int)-1,(j:Int)-1) then [((i:Int)-1,(j:Int)-1)] else []:=by
 unfold kF;rw[KO,<-List.append_assoc,List.filter_append];simp[List.filter_cons]
theorem T4 {q:Int×Int->Bool} {n:Nat}:kF q n (n+1) 0=(FT n).filter q:=by simp[kF,mV,FT]
theorem T5 {q:Int×Int->Bool} {n i j:Nat}:((i:Int)-1,(j:Int)-1)∉kF q n i j:=by
 unfold kF;rw[List.mem_filter,List.mem_append];rintro⟨h|h,_⟩
 ·have:=KQ h;simp at this
 ·have:=(B1 h).2;simp at this
def mb (l:List ζ):ζ:=if l.isEmpty then .sl true 0 [] else .ms 3 l.length 0 l.length
def cL (l:List ζ):List Row:=if l.isEmpty then [] else [.cells 111 1 l]
abbrev gJ:Row:=.cells 110 3 [.aR [δ 0,δ 0,.sl true 0 []]]
abbrev fK (p:Int×Int) (L:List ζ):Row:=.cells 110 3 [.aR [δ p.1,δ p.2,mb L]]
def c8 (id:Nat) (l:List ζ):ζ:=if l.isEmpty then .sl true 0 [] else .ms id l.length 0 l.length
theorem gK {id:Nat} {l:List ζ} (h:l≠[]):c8 id l=.ms id l.length 0 l.length:=by unfold c8;rw[if_neg (by simpa using h)]
theorem T6 {l:List ζ}:az ((cL l).length+3) (mb l):=by
 unfold mb cL;cases l.isEmpty<;>simp[ot]
theorem T7 {h:Nat} {l:List ζ} (hb:∀e∈l,∀a∈e.cells,az 0 a):∀r∈cL l,eJ h r:=by
 intro r ι;unfold cL at ι;cases Β:l.isEmpty with
 | true=>rw[Β] at ι;simp at ι
 | false=>
  rw[Β] at ι;simp at ι;subst ι;exact λe he a κ=>(hb e he a κ).mono (Nat.zero_le _)
theorem eJ.mono {h c0:Nat} {r:Row} (hb:eJ h r) (aN:h<=c0):eJ c0 r:=by
 cases r with
 | cells t k l=>exact λe he a κ=>(hb e he a κ).mono aN
 | map es=>exact λe he=>⟨(hb e he).1.mono aN,(hb e he).2.mono aN⟩
 | iter m left cur=>exact⟨Nat.lt_of_lt_of_le hb.1 aN,λe he=>⟨(hb.2.1 e he).1.mono aN,(hb.2.1 e he).2.mono aN⟩,λe he=>⟨(hb.2.2 e he).1.mono aN,(hb.2.2 e he).2.mono aN⟩⟩
 | dead=>trivial
theorem T8 {h id:Nat} {l:List ζ} (aN:l≠[]->id<h):az h (c8 id l):=by
 by_cases Β:l=[]
 ·subst Β;unfold c8;simp
 ·rw[gK Β];exact ot.2 (aN Β)
theorem KR {α:Type} (l:List α) (i:Nat) (h:i<l.length):(l[i]::l.eraseIdx i).Perm l:=by
 induction l generalizing i with
 | nil=>simp at h
 | cons a l Γ=>
  cases i with
  | zero=>exact .refl _
  | succ i=>
   simp only[List.getElem_cons_succ,List.eraseIdx_cons_succ];exact(List.Perm.swap _ _ _).trans (.cons a (Γ i (by simpa using h)))
theorem B2 {h id k:Nat} {t:TypeId} {l:List ζ} {σ:List Row} (bS:h<=id) (ι:l≠[]->σ[id]?=some (.cells t k l)) (hb:∀e∈l,∀a∈e.cells,az h a):et h σ (c8 id l) (fJ k l):=by
 by_cases Β:l=[]
 ·subst Β;exact .low (by unfold c8;simp)
 ·have e:fJ k l=.sl false k l:=by unfold fJ;rw[if_neg (by simpa using Β)]
  rw[gK Β,e];exact .own bS (ι Β) rfl hb
theorem KS (k:Nat) (m:List ζ):∃b kk l,fJ k m=.sl b kk l:=by
 unfold fJ;split
 ·exact⟨_,_,_,rfl⟩
 ·exact⟨_,_,_,rfl⟩
theorem KT {α β:Type} (f:α->β) (l:List α) (i:Nat):(l.map f).eraseIdx i=(l.eraseIdx i).map f:=by
 induction l generalizing i with
 | nil=>rfl
 | cons a l Γ=>cases i<;>simp[Γ]
theorem T9 (s:a9) (ν:s.small) (Ο:s.Τ.length<2 ^ 20) (p:Int×Int) (hv:∀c∈s.cells,∀x∈c,0<=x.cK/\x.cK<s.ak.length) (N:Nat) (b8:N<2 ^ 20) (gT:FU N) (hle:∀c,c<s.cells.length->(mW s p c).length<=N) :
  an Tryz.prog 143 [e8 s,b5 p] (cR ⟨p.1,p.2,(List.range s.cells.length).map (mW s p)⟩):=by
 refine aC.body Μ Tryz.func143 rfl rfl Tryz.ntmps143 rfl rfl (by simp) ?_
 repeat apply μ
 refine dy (A:=[4]) Μ λθ I=>?_;simp;(repeat (rw[ε];simp));apply I
 repeat apply μ
 refine dy (A:=[5]) Μ λθ I=>?_;simp;(repeat (rw[ε];simp));apply I
 repeat apply μ
 (repeat apply μ);refine ξ λθ I=>?_;simp;(repeat (rw[ε];simp));apply I;(repeat (first|apply μ|(refine ξ λθ I=>?_;simp;(repeat (rw[ε];simp));apply I)));have hr:s.cells.length<2 ^ 30:=ν.2.2.1;refine W.iter (λc:Nat=>c<=s.cells.length) (λc=>[(2,.Ω [aJ s.Τ,aL s.ak,bx s.cells]),(3,.Ω [δ p.1,δ p.2]),(4,.ae 0 1 0 0),(5,.ae 1 1 0 0),(6,.mp 2),(19,δ s.cells.length),(20,δ c)])
  (λc=>gJ::fK p ((List.range c).map λc=>fJ 2 ((mW s p c).map b5))::.map []::cL ((List.range c).map λc=>fJ 2 ((mW s p c).map b5))) (λc=>s.cells.length-c) 0 (Nat.zero_le _) (by simp[mb,cL]) (by simp) (λc η Γ=>?_)
 obtain⟨L,aS⟩:∃L,L=(List.range c).map λc=>fJ 2 ((mW s p c).map b5):=⟨_,rfl⟩;refine W.to (σ':=gJ::fK p L::.map []::cL L) (env':=[(2,.Ω [aJ s.Τ,aL s.ak,bx s.cells]),(3,.Ω [δ p.1,δ p.2]),(4,.ae 0 1 0 0),(5,.ae 1 1 0 0),(6,.mp 2),(19,δ s.cells.length),(20,δ c)]) ?_ (by rw[aS]) (by simp);(repeat (first|apply μ|(refine ξ λθ I=>?_;simp;(repeat (rw[ε];simp));apply I)));refine W.dR rfl (λη=>?_) (λη=>?_)
 ·have a6:c<s.cells.length:=by simpa using η
  (repeat (first|apply μ|(refine ξ λθ I=>?_;simp;(repeat (rw[ε];simp));apply I)));obtain⟨n,Ι⟩:∃n,n=s.Τ.length:=⟨_,rfl⟩;have pn:n<2 ^ 20:=by omega
  obtain⟨q,Ψ⟩:∃q:Int×Int->Bool,q=λr=>s.vC p r c:=⟨_,rfl⟩;have vM:∀e∈L,∀a∈e.cells,az 0 a:=by
   rw[aS];intro e he a κ;obtain⟨x,_,rfl⟩:=List.mem_map.1 he;unfold fJ at κ;split at κ<;>simp[ζ.cells] at κ<;>subst κ<;>simp
  have fj:∀(M:List (Int×Int)) (h:Nat),eJ h (.map (M.map di)):=λM h e he=>by
   obtain⟨x,_,rfl⟩:=List.mem_map.1 he;simp
  have iV:∀M:List (Int×Int),∀r∈gJ::fK p L::.map (M.map di)::cL L,eJ (gJ::fK p L::.map (M.map di)::cL L).length r:=λM r ι=>by
   simp only[List.mem_cons] at ι;rcases ι with rfl|rfl|rfl|ι
   ·simp[eJ,ζ.cells]
   ·simp[eJ,ζ.cells];exact T6
   ·exact fj M _
   ·exact T7 vM r ι
  refine W.iter (λi:Nat=>i<=n+1) (λi=>[(2,.Ω [aJ s.Τ,aL s.ak,bx s.cells]),(3,.Ω [δ p.1,δ p.2]),(4,.ae 0 1 0 0),(5,.ae 1 1 0 0),(6,.mp 2),(19,δ s.cells.length),(20,δ c),(7,δ c),(8,δ ((i:Int)-1))])
   (λi=>gJ::fK p L::.map ((kF q n i 0).map di)::cL L) (λi=>n+1-i) 0 (Nat.zero_le _) (by rw[T1];rfl) (by simp) (λi hi hz=>?_)
  (repeat (first|apply μ|(refine ξ λθ I=>?_;simp;(repeat (rw[ε];simp));apply I)));by_cases aY:i<n+1
  ·refine ax (by simp[<-Ι];omega) ?_;(repeat (first|apply μ|(refine ξ λθ I=>?_;simp;(repeat (rw[ε];simp));apply I)));refine W.iter (λj:Nat=>j<=n+1) (λj=>[(2,.Ω [aJ s.Τ,aL s.ak,bx s.cells]),(3,.Ω [δ p.1,δ p.2]),(4,.ae 0 1 0 0),(5,.ae 1 1 0 0),(6,.mp 2),(19,δ s.cells.length),(20,δ c),(7,δ c),(8,δ ((i:Int)-1)),(9,δ ((j:Int)-1))])
    (λj=>gJ::fK p L::.map ((kF q n i j).map di)::cL L) (λj=>n+1-j) 0 (Nat.zero_le _) rfl (by simp) (λj γ pO=>?_)
   (repeat (first|apply μ|(refine ξ λθ I=>?_;simp;(repeat (rw[ε];simp));apply I)));by_cases eH:j<n+1
   ·refine ax (by simp[<-Ι];omega) ?_
    repeat apply μ
    obtain⟨M,dM⟩:∃M,M=kF q n i j:=⟨_,rfl⟩;refine W.to (σ':=gJ::fK p L::.map (M.map di)::cL L) (env':=[(2,.Ω [aJ s.Τ,aL s.ak,bx s.cells]),(3,.Ω [δ p.1,δ p.2]),(4,.ae 0 1 0 0),(5,.ae 1 1 0 0),(6,.mp 2),(19,δ s.cells.length),(20,δ c),(7,δ c),(8,δ ((i:Int)-1)),(9,δ ((j:Int)-1))]) ?_ (by rw[dM]) (by simp);have T':gS a4 112 (.aR [δ ((i:Int)-1),δ ((j:Int)-1)]) (M.map di) 0=some none:=TW _ M 0 (by rw[dM];exact T5);have jK:∀es,mH (gJ::fK p L::.map es::cL L) 2=true:=λes=>by unfold cL;cases L.isEmpty<;>simp[mH]
    refine dy (A:=[10]) Μ λθ I=>?_;simp;(repeat (rw[ε];simp));apply I;refine W.lu (σ0:=gJ::fK p L::.map (M.map di)::cL L) (Nat.zero_le _) (iV M) (by simp) [(10,.Ω [δ ((i:Int)-1),δ ((j:Int)-1)]),(2,.Ω [aJ s.Τ,aL s.ak,bx s.cells]),(3,.Ω [δ p.1,δ p.2]),(4,.ae 0 1 0 0),(5,.ae 1 1 0 0),(6,.mp 2),(19,δ s.cells.length),(20,δ c),(7,δ c),(8,δ ((i:Int)-1)),(9,δ ((j:Int)-1))] (by simp[iZ,qR]) ?_;have mX:=fI (show j<2 ^ 62 by omega);(repeat apply μ);refine ξ λθ I=>?_;simp;(repeat (rw[ε];simp));refine an.c (SW s ν p ((i:Int)-1,(j:Int)-1) c a6 (hv _ (List.getElem_mem a6)) (by simp;omega) (by simp;omega)) (aE.refl _) (by simp) (by simp) ?_;simp;(repeat (rw[ε];simp));apply I;have Ua:s.vC p ((i:Int)-1,(j:Int)-1) c=q ((i:Int)-1,(j:Int)-1):=by rw[Ψ]
    rw[Ua];have dJ:=T3 (q:=q) (n:=n) (i:=i) (j:=j);cases KU:q ((i:Int)-1,(j:Int)-1)
    ·refine au rfl ?_;(repeat (first|apply μ|(refine ξ λθ I=>?_;simp;(repeat (rw[ε];simp[mX]));apply I)));rw[KU] at dJ;refine W.to (pO (j+1) (by omega) (by omega)) ?_ ?_
     ·rw[dJ,dM];simp
     ·simp
    ·refine ax rfl ?_
     repeat apply μ
     refine ξ λθ I=>?_;simp;(repeat (rw[ε];simp[T',jK,-mH]));apply I;(repeat (first|apply μ|(refine ξ λθ I=>?_;simp;(repeat (rw[ε];simp[mX]));apply I)));rw[KU] at dJ;refine W.to (pO (j+1) (by omega) (by omega)) ?_ ?_
     ·rw[dJ,dM];simp
     ·simp
   ·refine au (by simp[<-Ι];omega) ?_;refine W.exit rfl ?_;have yu:j=n+1:=by omega
    subst yu;(repeat (first|apply μ|(refine ξ λθ I=>?_;simp;(repeat (rw[ε];simp));apply I)));refine W.to (hz (i+1) (by omega) (by omega)) ?_ ?_
    ·rw[T2]
    ·have:=fI (show i<2 ^ 62 by omega);simp[this]
  ·refine au (by simp[<-Ι];omega) ?_;refine W.exit rfl ?_;have ea:i=n+1:=by omega
   subst ea;obtain⟨D,dQ⟩:∃D,D=mW s p c:=⟨_,rfl⟩;have Ub:kF q n (n+1) 0=D:=by rw[T4,dQ,Ψ,Ι];rfl
   rw[Ub];have tW:D.length<=N:=by rw[dQ];exact hle c a6
   refine W.to (σ':=gJ::fK p L::.map (D.map di)::cL L) (env':=[(2,.Ω [aJ s.Τ,aL s.ak,bx s.cells]),(3,.Ω [δ p.1,δ p.2]),(4,.ae 0 1 0 0),(5,.ae 1 1 0 0),(6,.mp 2),(19,δ s.cells.length),(20,δ c),(7,δ c)]) ?_ rfl (by simp);(repeat (first|apply μ|(refine ξ λθ I=>?_;simp;(repeat (rw[ε];simp));apply I)));refine W.iter (λx:List (Int×Int)×List (Int×Int)×Option (ζ×ζ)=>(x.1++x.2.1).Perm D/\(x.2.2=none\/∃y,x.2.2=some (di y)))
    (λx=>[(2,.Ω [aJ s.Τ,aL s.ak,bx s.cells]),(3,.Ω [δ p.1,δ p.2]),(4,.ae 0 1 0 0),(5,.ae 1 1 0 0),(6,.mp 2),(19,δ s.cells.length),(20,δ c),(7,δ c),(11,c8 ((cL L).length+1+1+1+1) (x.1.map b5)),(50,.it ((cL L).length+1+1+1))])
    (λx=>gJ::fK p L::.map (D.map di)::(cL L++(.iter 2 (x.2.1.map di) x.2.2::bz 112 2 (x.1.map b5)))) (λx=>x.2.1.length) ([],D,none) ⟨by simp,.inl rfl⟩ (by simp[bz]) (by simp[c8]) (λx U tX=>?_)
   obtain⟨K,ag,cur⟩:=x;obtain⟨χ,A6⟩:=U;simp only at χ A6
   repeat apply μ
   cases ag with
   | nil=>
    (repeat apply μ);refine ξ λθ I=>?_;simp;(repeat (rw[ε];simp));apply I
    repeat apply μ
    refine au rfl ?_;refine W.exit rfl ?_;have tY:K.Perm D:=by simpa using χ
    repeat apply μ
    have KV:K.length<=N:=by rw[tY.length_eq];exact tW
    have Uc:K.mergeSort kE=D:=by
     rw[dQ] at tY ⊢;exact TO tY (TZ s p c)
    refine W.hD (A:=[]) Μ [(2,.Ω [aJ s.Τ,aL s.ak,bx s.cells]),(3,.Ω [δ p.1,δ p.2]),(4,.ae 0 1 0 0),(5,.ae 1 1 0 0),(6,.mp 2),(19,δ s.cells.length),(20,δ c),(11,c8 ((cL L).length+1+1+1+1) (D.map b5))]
     (gJ::fK p L::.map (D.map di)::(cL L++(.iter 2 [] cur::bz 112 2 (D.map b5)))) ?_ (by
     clear tX hz Γ iV fj hle hv vM;by_cases Ν:K=[]
     ·subst Ν;have Ud:D=[]:=tY.symm.eq_nil;rw[Ud];simp only[List.map_nil,iN,show c8 ((cL L).length+1+1+1+1) []=.sl true 0 [] from rfl];simp;(repeat (rw[ε];simp));refine an.c (TR _ (by simp[iH])) (aE.refl _) (by simp[iH]) (by simp) ?_;simp;(repeat (rw[ε];simp));(try simp)
     ·have fL:K.map b5≠[]:=by simpa using Ν
      have Ue:D≠[]:=λe=>Ν (by rw[e] at tY;exact tY.eq_nil)
      have KW:D.map b5≠[]:=by simpa using Ue
      rw[gK fL,ei fL,gK KW,ei KW];simp;(repeat (rw[ε];simp));have nq:az 0 (.fn (.func 174) [] []):=by simp[iH]
      refine aC.one (gT K KV) ((cL L).length+1+1+1+1) (by simp) (tQ tR) (tQ tR) (by simp[mM,nq.hT 1]) (by simp[fH]) (by simp[mN,nq.dP [(cL L).length+1+1+1+1]]) ?_;simp[dP,hy];(repeat (rw[ε];simp));(try simp[Uc,tY.length_eq]))
    refine W.cut ((cL L).length+1+1+1) (Nat.zero_le _) [(2,.Ω [aJ s.Τ,aL s.ak,bx s.cells]),(3,.Ω [δ p.1,δ p.2]),(4,.ae 0 1 0 0),(5,.ae 1 1 0 0),(6,.mp 2),(19,δ s.cells.length),(20,δ c),(11,fJ 2 (D.map b5))] (by simp) (λid r bS ι=>?_) ?_ ?_
    ·refine iV D r ?_;have e:gJ::fK p L::.map (D.map di)::(cL L++(.iter 2 [] cur::bz 112 2 (D.map b5)))=(gJ::fK p L::.map (D.map di)::cL L)++(.iter 2 [] cur::bz 112 2 (D.map b5)):=by simp
     rw[e,dW (by simpa using bS)] at ι;exact cf ι
    ·have Uf:et ((cL L).length+1+1+1) (gJ::fK p L::.map (D.map di)::(cL L++(.iter 2 [] cur::bz 112 2 (D.map b5)))) (c8 ((cL L).length+1+1+1+1) (D.map b5)) (fJ 2 (D.map b5)):=B2 (t:=112) (by omega) (λΒ=>by rw[ei Β];simp) (λe he a κ=>by
      obtain⟨z,_,rfl⟩:=List.mem_map.1 he;exact(tR z a κ).mono (Nat.zero_le _))
     intro z Ν;simp only[List.mem_cons,List.not_mem_nil,or_false] at Ν;rcases Ν with rfl|rfl|rfl|rfl|rfl|rfl|rfl|rfl
     all_goals first|exact Uf|exact .low (by simp[iZ,qR])
    ·obtain⟨iw,tZ⟩:∃iw,iw=L++[fJ 2 (D.map b5)]:=⟨_,rfl⟩;have lz:L.length<2 ^ 30:=by rw[aS];simp;omega
     refine W.to (σ':=gJ::fK p L::.map (D.map di)::cL L) (env':=[(2,.Ω [aJ s.Τ,aL s.ak,bx s.cells]),(3,.Ω [δ p.1,δ p.2]),(4,.ae 0 1 0 0),(5,.ae 1 1 0 0),(6,.mp 2),(19,δ s.cells.length),(20,δ c),(11,fJ 2 (D.map b5))]) ?_ (by simp) (by simp)
     repeat apply μ
     refine W.hD (A:=[65]) Μ [(2,.Ω [aJ s.Τ,aL s.ak,bx s.cells]),(3,.Ω [δ p.1,δ p.2]),(4,.ae 0 1 0 0),(5,.ae 1 1 0 0),(6,.mp 2),(19,δ s.cells.length),(20,δ c)] (gJ::fK p iw::.map (D.map di)::cL iw) ?_ (by
      clear tX hz Γ iV fj hle hv;obtain⟨B3,KX,sl,pM⟩:=KS 2 (D.map b5);rw[pM] at tZ ⊢;by_cases Ν:L=[]
      ·have FV:iw=[.sl B3 KX sl]:=by rw[tZ,Ν];rfl
       rw[FV];subst Ν;simp only[fK,cL,mb,List.isEmpty_nil,List.isEmpty_cons,if_true,if_false];(try simp);(repeat (rw[ε];simp));(try simp[])
      ·have jY:L.length<=4294967295:=by omega
       have c1:mb L=.ms 3 L.length 0 L.length:=by unfold mb;rw[if_neg (by simpa using Ν)]
       have c2:cL L=[.cells 111 1 L]:=by unfold cL;rw[if_neg (by simpa using Ν)]
       have c3:mb iw=.ms 3 (L.length+1) 0 (L.length+1):=by rw[tZ];unfold mb;rw[if_neg (by simp)];simp
       have c4:cL iw=[.cells 111 1 (L++[.sl B3 KX sl])]:=by rw[tZ];unfold cL;rw[if_neg (by simp)]
       simp only[fK];rw[c1,c2,c3,c4];(try simp);(repeat (rw[ε];simp[jY]));(try simp[jY]))
     have jK:∀es,mH (gJ::fK p iw::.map es::cL iw) 2=true:=λes=>by unfold cL;cases iw.isEmpty<;>simp[mH]
     repeat apply μ
     refine ξ λθ I=>?_;simp;(repeat (rw[ε];simp[jK,-mH]));apply I;(repeat (first|apply μ|(refine ξ λθ I=>?_;simp;(repeat (rw[ε];simp));apply I)));have ys:iw=(List.range (c+1)).map λc=>fJ 2 ((mW s p c).map b5):=by rw[tZ,aS,dQ,List.range_succ];simp
     refine W.to (Γ (c+1) (by omega) (by omega)) ?_ ?_
     ·rw[<-ys]
     ·simp[eK a6 (show s.cells.length<2 ^ 62 by omega)]
   | cons y ag=>
    (repeat apply μ);refine ξ λθ I=>?_;simp;(repeat (rw[ε];simp));intro i hi;obtain⟨x,U⟩:∃x,x=(y::ag)[i]'(by simpa using hi):=⟨_,rfl⟩;have FW:(di y::List.map di ag)[i]?=some (di x):=by
     have:(List.map di (y::ag))[i]?=some (di x):=by
      rw[List.getElem?_map,aX (by simpa using hi),U];rfl
     simpa using this
    have FX:(di y::List.map di ag).eraseIdx i=((y::ag).eraseIdx i).map di:=by
     exact KT di (y::ag) i
    rw[FW,FX];simp;(repeat (rw[ε];simp));apply I
    repeat apply μ
    refine ax rfl ?_
    repeat apply μ
    refine dy (A:=[12]) Μ λθ I=>?_;simp;(repeat (rw[ε];simp));apply I;have n6:∀r∈gJ::fK p L::.map (D.map di)::(cL L++(.iter 2 (((y::ag).eraseIdx i).map di) (some (di x))::bz 112 2 (K.map b5))),eJ (gJ::fK p L::.map (D.map di)::(cL L++(.iter 2 (((y::ag).eraseIdx i).map di) (some (di x))::bz 112 2 (K.map b5)))).length r:=by
     intro r ι;have eP:r∈gJ::fK p L::.map (D.map di)::cL L\/r∈(.iter 2 (((y::ag).eraseIdx i).map di) (some (di x))::bz 112 2 (K.map b5)):=by
      have:r∈(gJ::fK p L::.map (D.map di)::cL L)++(.iter 2 (((y::ag).eraseIdx i).map di) (some (di x))::bz 112 2 (K.map b5)):=by simpa using ι
      exact List.mem_append.1 this
     rcases eP with eP|eP
     ·exact eJ.mono (iV D r eP) (by simp)
     ·rcases List.mem_cons.1 eP with rfl|eP
      ·refine⟨by simp,λe he=>?_,λe he=>?_⟩
       ·obtain⟨z,_,rfl⟩:=List.mem_map.1 he;simp
       ·cases he;simp
      ·unfold bz at eP;split at eP
       ·simp at eP
       ·simp at eP;subst eP;intro e he a κ;obtain⟨z,_,rfl⟩:=List.mem_map.1 he;simp[ζ.cells] at κ;rcases κ with rfl|rfl<;>simp
    refine W.to (σ':=(gJ::fK p L::.map (D.map di)::(cL L++(.iter 2 (((y::ag).eraseIdx i).map di) (some (di x))::bz 112 2 (K.map b5))))++[.cells 112 2 [b5 x]]) (env':=[(12,.ae (gJ::fK p L::.map (D.map di)::(cL L++(.iter 2 (((y::ag).eraseIdx i).map di) (some (di x))::bz 112 2 (K.map b5)))).length 1 0 0),(2,.Ω [aJ s.Τ,aL s.ak,bx s.cells]),(3,.Ω [δ p.1,δ p.2]),(4,.ae 0 1 0 0),(5,.ae 1 1 0 0),(6,.mp 2),(19,δ s.cells.length),(20,δ c),(7,δ c),(11,c8 ((cL L).length+1+1+1+1) (K.map b5)),(50,.it ((cL L).length+1+1+1))]) ?_ (by simp) (by simp);refine W.lu (σ0:=gJ::fK p L::.map (D.map di)::(cL L++(.iter 2 (((y::ag).eraseIdx i).map di) (some (di x))::bz 112 2 (K.map b5)))) (Nat.zero_le _) n6 (by simp) [(12,.Ω [δ x.1,δ x.2]),(2,.Ω [aJ s.Τ,aL s.ak,bx s.cells]),(3,.Ω [δ p.1,δ p.2]),(4,.ae 0 1 0 0),(5,.ae 1 1 0 0),(6,.mp 2),(19,δ s.cells.length),(20,δ c),(7,δ c),(11,c8 ((cL L).length+1+1+1+1) (K.map b5)),(50,.it ((cL L).length+1+1+1))] (by
     have hb:=T8 (h:=(cL L).length+((bz 112 2 (K.map b5)).length+1)+1+1+1) (id:=(cL L).length+1+1+1+1) (l:=K.map b5) (λΒ=>by rw[ei Β];simp);clear tX hz Γ iV n6 fj hle hv vM;simp[iZ,qR,Sp,hb]
     ) ?_
    repeat apply μ
    have KV:K.length<2 ^ 20:=by
     have:=χ.length_eq;simp at this;omega
    refine W.hD (A:=[58]) Μ [(2,.Ω [aJ s.Τ,aL s.ak,bx s.cells]),(3,.Ω [δ p.1,δ p.2]),(4,.ae 0 1 0 0),(5,.ae 1 1 0 0),(6,.mp 2),(19,δ s.cells.length),(20,δ c),(7,δ c),(11,c8 ((cL L).length+1+1+1+1) ((K++[x]).map b5)),(50,.it ((cL L).length+1+1+1))]
     (gJ::fK p L::.map (D.map di)::(cL L++(.iter 2 (((y::ag).eraseIdx i).map di) (some (di x))::bz 112 2 ((K++[x]).map b5)))) ?_ (by
     clear tX hz Γ iV n6 fj hle hv vM;by_cases Ν:K=[]
     ·subst Ν;simp only[List.map_nil,iN,show c8 ((cL L).length+1+1+1+1) []=.sl true 0 [] from rfl];(try simp);(repeat (rw[ε];simp[iN]));(try simp[iN]);exact⟨rfl,rfl⟩
     ·have jY:K.length<=4294967295:=by omega
      have fL:K.map b5≠[]:=by simpa using Ν
      rw[gK fL,ei fL];(try simp);(repeat (rw[ε];simp[jY]));(try simp[jY]);rw[ei (by simp),gK (by simp)];simp)
    (repeat (first|apply μ|(refine ξ λθ I=>?_;simp;(repeat (rw[ε];simp));apply I)));have KY:(x::(y::ag).eraseIdx i).Perm (y::ag):=by
     rw[U];exact KR _ _ _
    refine W.to (tX (K++[x],(y::ag).eraseIdx i,some (di x)) ⟨?_,.inr ⟨x,rfl⟩⟩ ?_) (by simp) (by simp)
    ·simp only[List.append_assoc,List.singleton_append];exact(KY.append_left K).trans χ
    ·have:=KY.length_eq;simp at this;simp only[List.length_cons];omega
 ·have FY:c=s.cells.length:=by simp at η;omega
  subst FY;refine W.exit rfl ?_
  repeat apply μ
  clear Γ;have vM:∀e∈L,∀a∈e.cells,az 0 a:=by
   rw[aS];intro e he a κ;obtain⟨x,_,rfl⟩:=List.mem_map.1 he;unfold fJ at κ;split at κ<;>simp[ζ.cells] at κ<;>subst κ<;>simp
  refine W.hD (A:=[]) Μ [(4,.ae 0 1 0 0)] (.cells 110 3 [.aR [δ p.1,δ p.2,mb L]]::fK p L::.map []::cL L) ?_ (by
   simp only[fK];by_cases Ν:L=[]
   ·rw[show mb L=.sl true 0 [] by rw[Ν];rfl];(try simp);(repeat (rw[ε];simp));(try simp[])
   ·rw[show mb L=.ms 3 L.length 0 L.length by unfold mb;rw[if_neg (by simpa using Ν)],show cL L=[.cells 111 1 L] by unfold cL;rw[if_neg (by simpa using Ν)]];(try simp);(repeat (rw[ε];simp));(try simp[]))
  refine W.cut 0 (Nat.zero_le _) [(4,.Ω [δ p.1,δ p.2,fJ 1 L])] (Nat.zero_le _) (λid r bS=>by omega) (λz Ν=>by
   simp at Ν;subst Ν;exact et.struct (k:=3) (t:=110) (l:=[δ p.1,δ p.2,mb L]) (Nat.zero_le _) rfl rfl (λx a b6 J R=>by
    match x with
    | 0=>simp at J R;subst J;subst R;exact .low (by simp)
    | 1=>simp at J R;subst J;subst R;exact .low (by simp)
    | 2=>
     simp at J R;subst J;subst R;exact B2 (id:=3) (t:=111) (l:=L) (Nat.zero_le _) (λΒ=>by
      have:cL L=[.cells 111 1 L]:=by unfold cL;rw[if_neg (by simpa using Β)]
      simp[this]) vM
    | x+3=>simp at J)) ?_
  (repeat (first|apply μ|(refine ξ λθ I=>?_;simp;(repeat (rw[ε];simp));apply I)));refine W.ret ⟨_,rfl,?_,rfl⟩;refine dr.aR (aE.cons (.refl _) (aE.cons (.refl _) (aE.cons (.trans dr.acc ?_) .nil)));rw[aS];show dr _ (.sl false 1 (((List.range s.cells.length).map (mW s p)).map lp));rw[List.map_map];refine dr.map λx _=>.one dr.acc ?_ rfl;obtain⟨b,k,l,he⟩:=KS 2 ((mW s p x).map b5);rw[he];rfl
structure kG where
 c:Int
 n:Int
 least:Int
 some:Bool
def kG.take (b:kG) (c n m:Int):kG:=if b.some=false\/m<b.least then⟨c,n,m,true⟩ else b
abbrev kH (b:kG):ζ:=.aR [δ b.c,δ b.n,δ b.least,bJ b.some]
theorem Ug (b:kG) (c n m:Int):aC Tryz.prog 76 [.ae 0 1 0 0,.aR [δ c,δ n],δ m] [.cells 104 4 [kH b]] (λr s=>r=.bn []/\s=[.cells 104 4 [kH (b.take c n m)]]) (λ_ _=>False):=by
 obtain⟨dA,mA,l0,Dl⟩:=b;refine aC.body Μ Tryz.func76 rfl rfl Tryz.ntmps76 rfl rfl (by simp) ?_;(repeat (first|apply μ|(refine ξ λθ I=>?_;simp;(repeat (rw[ε];simp));apply I)));cases Dl
 ·have e:kG.take ⟨dA,mA,l0,false⟩ c n m=⟨c,n,m,true⟩:=by simp[kG.take]
  rw[e];(repeat (first|apply μ|(refine ξ λθ I=>?_;simp;(repeat (rw[ε];simp));apply I)));refine ax rfl ?_;(repeat (first|apply μ|(refine ξ λθ I=>?_;simp;(repeat (rw[ε];simp));apply I)));exact W.nil ⟨_,rfl,rfl,rfl⟩
 ·(repeat (first|apply μ|(refine ξ λθ I=>?_;simp;(repeat (rw[ε];simp));apply I)));by_cases h:m<l0
  ·have e:kG.take ⟨dA,mA,l0,true⟩ c n m=⟨c,n,m,true⟩:=by simp[kG.take,h]
   rw[e];refine ax (by simp[h]) ?_;(repeat (first|apply μ|(refine ξ λθ I=>?_;simp;(repeat (rw[ε];simp));apply I)));exact W.nil ⟨_,rfl,rfl,rfl⟩
  ·have e:kG.take ⟨dA,mA,l0,true⟩ c n m=⟨dA,mA,l0,true⟩:=by simp[kG.take,h]
   rw[e];refine au (by simp[h]) ?_;(repeat (first|apply μ|(refine ξ λθ I=>?_;simp;(repeat (rw[ε];simp));apply I)));exact W.nil ⟨_,rfl,rfl,rfl⟩
abbrev hF (e:Int×Int):ζ×ζ:=(δ e.1,δ e.2)
def si:List (Int×Int)->Int->Int->List (Int×Int)
 | [],k,n=>[(k,IntKind.i64.wrap (0+n))]
 | e::r,k,n=>if k=e.1 then(k,IntKind.i64.wrap (e.2+n))::r else e::si r k n
theorem Uh (k n:Int):∀(m:List (Int×Int)) (d:Nat),(gS a4 113 (δ k) (m.map hF) d=some none/\si m k n=m++[(k,IntKind.i64.wrap (0+n))])\/∃i v,i<m.length/\gS a4 113 (δ k) (m.map hF) d=some (some (d+i,δ v))/\si m k n=m.set i (k,IntKind.i64.wrap (v+n)):=by
 intro m
 induction m with
 | nil=>intro d;exact .inl ⟨rfl,rfl⟩
 | cons e r Γ=>
  intro d;have Ψ:aeqv a4 113 (δ k) (δ e.1)=some (k==e.1):=by simp[aeqv,iF,lf,h9]
  by_cases h:k=e.1
  ·refine .inr ⟨0,e.2,by simp,?_,by simp[si,h]⟩;simp only[List.map_cons,gS,Ψ];simp[h]
  ·have hb:(k==e.1)=false:=by simpa using h
   rcases Γ (d+1) with⟨J,R⟩|⟨i,v,J,R,ς⟩
   ·refine .inl ⟨?_,by simp[si,h,R]⟩;simp only[List.map_cons,gS,Ψ,hb,cond_false];exact J
   ·refine .inr ⟨i+1,v,by simp;omega,?_,by simp[si,h,ς]⟩;simp only[List.map_cons,gS,Ψ,hb,cond_false];rw[R];have:d+1+i=d+(i+1):=by omega
    rw[this]
end Go.TL
