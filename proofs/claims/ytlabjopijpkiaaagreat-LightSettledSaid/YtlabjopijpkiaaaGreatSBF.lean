import Derived.Test.YtlabjopijpkiaaaGreatSBC
import Derived.Test.YtlabjopijpkiaaaGreatSBD
import Derived.Test.YtlabjopijpkiaaaGreatSBE
set_option maxHeartbeats 16000000
set_option maxRecDepth 20000
set_option linter.unusedSectionVars false
set_option linter.unusedSimpArgs false
set_option linter.unusedVariables false
namespace Go.TL
open Go.Proofs
abbrev Bz:List θ:=[eG [1,0],eG [2,0],eG [2,1]]
theorem R1:∀i,i<3->Bz[i]?=some (eG [(cS i).1,(cS i).2])/\∀h,Bz[i]'h=eG [(cS i).1,(cS i).2]:=λi hi=>by
 match i with
 | 0=>exact⟨rfl,λ_=>rfl⟩
 | 1=>exact⟨rfl,λ_=>rfl⟩
 | 2=>exact⟨rfl,λ_=>rfl⟩
theorem gΚ [bm] {s:aL} (h:gX s) (i:Nat):w5 s i<=i*5764801:=by
 induction i with
 | zero=>simp[w5]
 | succ i Δ=>
  rw[RZ,KP];have:=KN h (cS i) (-1) (Nat.le_refl s.cells.length);omega
end Go.TL
namespace Go.TL
open Go.Proofs
variable [bm]
theorem gΜ:∀n<64,∀s<64,kQ .i64 (s:Nat) (n:Nat)=0->∀o<64,eS .i64 (s:Nat) (kQ .i64 (o:Nat) (n:Nat))=0:=by decide +kernel
theorem gΝ:∀n<64,∀o<64,kQ .i64 (eS .i64 (n:Nat) (o:Nat)) (n:Nat)=0:=by decide +kernel
theorem gΞ {n a b:Int} (Η:0<=n/\n<=63) (ξ:0<=a/\a<=63) (hb:0<=b/\b<=63):kQ .i64 (eS .i64 n a) n=0/\eS .i64 (eS .i64 n a) (kQ .i64 b n)=0:=by
 obtain⟨⟨J,γ⟩,_,_⟩:=Ka Η ξ;obtain⟨x,rfl⟩:∃x:Nat,n=x:=⟨n.toNat,by omega⟩;obtain⟨y,rfl⟩:∃y:Nat,a=y:=⟨a.toNat,by omega⟩;obtain⟨z,rfl⟩:∃z:Nat,b=z:=⟨b.toNat,by omega⟩;have e:=gΝ x (by omega) y (by omega);refine⟨e,?_⟩;obtain⟨w,hw⟩:∃w:Nat,eS .i64 (x:Int) (y:Int)=w:=⟨(eS .i64 (x:Int) (y:Int)).toNat,by omega⟩;rw[hw] at e γ ⊢;exact gΜ x (by omega) w (by omega) e z (by omega)
structure KQ (fO cells:Nat) (s:aL) (p:Int×Int) (rd:List (Int×Int)):Prop where
 gΟ:∃k,k<3/\p=cS k
 gΡ:gX s
 many:s.cells.length<=cells
 rv:s.ae.length<=fO
 len:rd.length=s.cells.length
 each:∀r∈rd,(-1<=r.1/\r.1<s.ae.length)/\(-1<=r.2/\r.2<s.ae.length)
 right:∀(c:Nat) (r:Int×Int),rd[c]?=some r->s.mM p r c=true
structure gΤ where
 d:cx
 done:List (List eF)
 rd:List (Int×Int)
theorem gΥ (d:cx) (hd:d.bg.length<2 ^ 63) (fO cells:Nat) (hX:1<=fO) (yA:fO<=6) (Fp:cells<=4) :
  uU 32 [R fO,R cells] d (λr=>∃s p rd,r=.bn [eV s,aP R 1 [p.1,p.2],aI (fP rd)]/\KQ fO cells s p rd):=by
 unfold uU;refine ak.body Ι Tryz.func32 rfl rfl Tryz.ntmps32 rfl rfl (by simp) ?_
 repeat apply κ
 refine dw (A:=[6]) Ι λη I=>?_;simp;(repeat (rw[δ];simp));apply I
 repeat apply κ
 refine W.cj ?_;refine W.part (A:=[9]) Ι [0,1,2,3] [4,5] rfl λη I=>?_;(try simp);(repeat (rw[δ];simp));refine fα d hd fO cells hX yA Fp rfl ?_;intro G L nc d1 cU aC ⟨sB,J9⟩ j8;simp only[List.length_cons,List.length_nil,Nat.reduceAdd,List.set_cons_zero,List.cons_append,List.nil_append];obtain⟨w6,KR⟩:∃x,x=cq 5 (List.replicate nc bE):=⟨_,rfl⟩;have tl:(nc=0/\w6=bE)\/(0<nc/\w6=.ms 5 nc 0 nc):=by
  by_cases Θ:nc=0
  ·subst Θ;exact .inl ⟨rfl,KR⟩
  ·exact .inr ⟨by omega,by rw[KR,gz (by simp[Θ]),List.length_replicate]⟩
 have yN:∀done:List (List eF),done.length<=nc->(nc=0/\bj 60 1 (bA done nc)=[])\/(0<nc/\bj 60 1 (bA done nc)=[.cells 60 1 (bA done nc)]):=λdone kM=>by
  by_cases Θ:nc=0
  ·subst Θ;have:=dp.1 (wW kM);exact .inl ⟨rfl,by rw[this];rfl⟩
  ·exact .inr ⟨by omega,dY (λh=>by have:=wW kM;rw[h] at this;simp at this;omega)⟩
 rw[<-KR,<-fΗ];rw[NP,qc];apply I;clear I η;have yO:au ([b6 d1,gR bE bE bE,.dead,.dead,.dead]++bj 60 1 (bA [] nc)).length w6:=by
  rcases tl with⟨_,e⟩|⟨cv,e⟩
  ·rw[e];simp
  ·rcases yN [] (Nat.zero_le _) with⟨ag,_⟩|⟨_,Ε⟩
   ·omega
   ·rw[e,Ε];exact nx.2 (by simp)
 refine W.fΖ (A:=[9]) Ι [(0,.al 0 1 0 0),(6,.al 1 1 0 0),(9,.Ψ [aO G,aI L,w6])] ([b6 d1,gR bE bE bE,.dead,.dead,.dead]++bj 60 1 (bA [] nc)) ?_ (by
  have bC:∀h,∀r∈[b6 d1,gR bE bE bE,.dead,.dead,.dead]++bj 60 1 (bA [] nc),eK h r:=λh r μ=>by
   rcases List.mem_append.1 μ with μ|μ
   ·simp only[List.mem_cons,List.not_mem_nil,or_false] at μ;rcases μ with rfl|rfl|rfl|rfl|rfl
    ·exact wS d1 h
    ·intro e he a ξ;simp[θ.cells] at he;subst he;simp[θ.cells] at ξ;subst ξ;simp
    ·trivial
    ·trivial
    ·trivial
   ·exact Al (λe he a ξ=>by obtain⟨J,γ⟩:=Kx e he;rw[J] at ξ;simp at ξ;subst ξ;exact γ) r μ
  rcases tl with⟨cv,e⟩|⟨cv,e⟩<;>rcases yN [] (Nat.zero_le _) with⟨ag,Ε⟩|⟨ag,Ε⟩
  ·rw[Ε] at bC yO;rw[e] at yO;rw[e,Ε];(try simp);(repeat (rw[δ];simp));(try simp[]);intro hW;exact W.pk (σ0:=[b6 d1,gR bE bE bE,.dead,.dead,.dead]) (by simp) (bC _) (λa ξ=>by
    simp[θ.cells] at ξ;rcases ξ with rfl|rfl|rfl
    ·exact(fZ.2 th:au 0 _).mono (Nat.zero_le _)
    ·exact(fZ.2 rV:au 0 _).mono (Nat.zero_le _)
    ·exact yO) [(0,.al 0 1 0 0),(6,.al 1 1 0 0),(9,.Ψ [aO G,aI L,bE])] (by simp[kU,θ.cells]) hW
  ·omega
  ·omega
  ·rw[Ε] at bC yO;rw[e] at yO;rw[e,Ε];have nH:(bA [] nc).length=nc:=wW (Nat.zero_le _);(try simp);(repeat (rw[δ];simp[nH]));(try simp[nH]);intro hW;exact W.pk (σ0:=[b6 d1,gR bE bE bE,.dead,.dead,.dead,.cells 60 1 (bA [] nc)]) (by simp) (bC _) (λa ξ=>by
    simp[θ.cells] at ξ;rcases ξ with rfl|rfl|rfl
    ·exact(fZ.2 th:au 0 _).mono (Nat.zero_le _)
    ·exact(fZ.2 rV:au 0 _).mono (Nat.zero_le _)
    ·exact yO) [(0,.al 0 1 0 0),(6,.al 1 1 0 0),(9,.Ψ [aO G,aI L,.ms 5 nc 0 nc])] (by simp[kU,θ.cells]) hW)
 obtain⟨l7,FK⟩:∃n,n=L.length:=⟨_,rfl⟩;have IF:=aC.lo;have A3:=aC.hi;have Rt:=cU.hi;have FL:=cU.lo;obtain⟨g,Υ⟩:∃g,g=G.length:=⟨_,rfl⟩;rw[<-Υ] at Rt FL;rw[<-FK] at IF A3;have KC:(L.map (aP R 1)).length=l7:=by rw[List.length_map,FK]
 have Ο:=wO d1 (by omega) 2;obtain⟨t0,t1⟩:=uS d1 2 (by decide) (by decide);obtain⟨R2,R3⟩:∃z,ir d1 2=z:=⟨_,rfl⟩;rw[R3] at Ο t0 t1;clear R3;obtain⟨n1,w7⟩:∃k:Nat,R2=k:=⟨R2.toNat,by omega⟩;obtain⟨d2,k'⟩:∃x,d1.after 2=x:=⟨_,rfl⟩;have gΦ:d2.bg.length<=d.bg.length:=by rw[<-k'];exact Nat.le_trans (lj _ _) j8
 rw[w7,k'] at Ο;rw[w7] at t1;have eW:n1<3:=by omega
 obtain⟨yP,KS⟩:=R1 n1 eW;obtain⟨p,ψ⟩:∃p,p=cS n1:=⟨_,rfl⟩;rw[<-ψ] at yP KS
 repeat apply κ
 refine W.fL (A:=[]) Ι [(0,.al 0 1 0 0),(6,.al 1 1 0 0),(9,.Ψ [aO G,aI L,w6]),(10,eG [p.1,p.2])] ([b6 d2,gR bE bE bE,.dead,.dead,.dead]++bj 60 1 (bA [] nc)) ?_ (by
  have mκ:(n1:Int)<3:=by omega
  rcases tl with⟨cv,e⟩|⟨cv,e⟩<;>rcases yN [] (Nat.zero_le _) with⟨ag,Ε⟩|⟨ag,Ε⟩
  ·rw[e,Ε];(try simp);(repeat (rw[δ];simp));(try simp[]);refine er.c Ο 0 rfl (aK.refl _) (by simp) (by simp) ?_;clear Ο yP KS w7;obtain rfl|rfl|rfl:n1=0\/n1=1\/n1=2:=by omega
   all_goals
    subst ψ;simp;(repeat (rw[δ];simp));(try simp[cS])
  ·omega
  ·omega
  ·rw[e,Ε];(try simp);(repeat (rw[δ];simp));(try simp[]);refine er.c Ο 0 rfl (aK.refl _) (by simp) (by simp) ?_;clear Ο yP KS w7;obtain rfl|rfl|rfl:n1=0\/n1=1\/n1=2:=by omega
   all_goals
    subst ψ;simp;(repeat (rw[δ];simp));(try simp[cS]))
 obtain⟨nX,hj⟩:∃s:aL,s=⟨G,L,[]⟩:=⟨_,rfl⟩;(repeat (first|apply κ|(refine ν λη I=>?_;simp;(repeat (rw[δ];simp));apply I)));refine W.iter (λx:gΤ=>x.done.length<=nc/\x.d.bg.length<=d.bg.length/\(∀c∈x.done,yF l7 c)/\x.rd.length=x.done.length/\(∀r∈x.rd,(-1<=r.1/\r.1<g)/\(-1<=r.2/\r.2<g))/\∀(c:Nat) (r:Int×Int) (aE:List eF),x.rd[c]?=some r->x.done[c]?=some aE->∀y∈aE,nX.jF p r y=true)
  (λx=>[(0,.al 0 1 0 0),(6,.al 1 1 0 0),(9,.Ψ [aO G,aI L,w6]),(10,eG [p.1,p.2]),(11,cq 6 (x.rd.map Ε)),(12,R x.done.length)])
  (λx=>[b6 x.d,gR bE bE bE,.dead,.dead,.dead]++bj 60 1 (bA x.done nc)++bj 29 1 (x.rd.map Ε)) (λx=>nc-x.done.length) ⟨d2,[],[]⟩ ⟨by simp,gΦ,by simp,rfl,by simp,by simp⟩ (by simp[iJ]) (by simp[cq]) (λx U Δ=>?_)
 obtain⟨D,done,rd⟩:=x;obtain⟨kM,m3,Bu,lD,KT,u3⟩:=U;simp only at kM m3 Bu lD KT u3 Δ ⊢;obtain⟨c,w8⟩:∃c,c=done.length:=⟨_,rfl⟩;rw[<-w8] at kM Δ lD;rw[<-w8];have gΧ:(nc=0/\rd=[])\/0<nc:=by
  by_cases Θ:nc=0
  ·exact .inl ⟨Θ,dp.1 (by omega)⟩
  ·exact .inr (by omega)
 repeat apply κ
 refine W.fL (A:=[]) Ι [(33,a4 (decide (c<nc))),(0,.al 0 1 0 0),(6,.al 1 1 0 0),(9,.Ψ [aO G,aI L,w6]),(10,eG [p.1,p.2]),(11,cq 6 (rd.map Ε)),(12,R c)] ([b6 D,gR bE bE bE,.dead,.dead,.dead]++bj 60 1 (bA done nc)++bj 29 1 (rd.map Ε)) ?_ (by
  have nH:(bA done nc).length=nc:=wW (by omega);obtain⟨R4,FM⟩:∃x,x=bj 29 1 (rd.map Ε):=⟨_,rfl⟩;obtain⟨R5,FN⟩:∃x,x=cq 6 (rd.map Ε):=⟨_,rfl⟩;rw[<-FM,<-FN];rcases tl with⟨cv,e⟩|⟨cv,e⟩<;>rcases yN done (by omega) with⟨ag,Ε⟩|⟨ag,Ε⟩
  ·rw[e,Ε,ag];(try simp);(repeat (rw[δ];simp));(try simp[])
  ·omega
  ·omega
  ·rw[e,Ε];(try simp);(repeat (rw[δ];simp[nH]));(try simp[nH]))
 refine W.en rfl (λζ=>?_) (λζ=>?_)
 ·have ζ:c<nc:=by simpa using ζ
  rcases tl with⟨cv,_⟩|⟨cv,e⟩
  ·omega
  rcases yN done (by omega) with⟨ag,_⟩|⟨ag,BA⟩
  ·omega
  obtain⟨X,gn⟩:∃X,X=bA done nc:=⟨_,rfl⟩;have tk:X.length=nc:=by rw[gn];exact wW (by omega)
  have KU:X[c]?=some bE:=by rw[gn,w8];exact fΙ (by omega)
  have gΨ:∀aE,X.set c (nR aE)=bA (done++[aE]) nc:=λaE=>by rw[gn,w8];exact fΚ (by omega) aE
  have Kt:∀e∈X,e.cells=[e]/\au 0 e:=by rw[gn];exact Kx
  have FO:X.set c bE=X:=by
   apply List.ext_getElem?;intro i;rw[List.getElem?_set];split
   ·rename_i e;subst e;split
    ·exact KU.symm
    ·rename_i h;exact(h (by omega)).elim
   ·rfl
  have jH:L.length=l7:=FK.symm
  have uV:G.length=g:=Υ.symm;rw[e,BA,<-gn];simp only[List.cons_append,List.nil_append];obtain⟨tm,gΩ⟩:∃z:Int,z=(g:Int)-1:=⟨_,rfl⟩;have wg:IntKind.i64.wrap ((g:Int)-1)=tm:=by rw[gΩ];exact IntWalk.i64_in _ (by omega)
  have Cy:=yx D (by omega) (-1) tm;obtain⟨qF,a1⟩:=yy D (a:=-1) (b:=tm) (by omega) (by decide) (by omega);obtain⟨KV,Bq⟩:∃x,nO D (-1) tm=x:=⟨_,rfl⟩;obtain⟨BB,R6⟩:∃x,D.after (IntKind.i64.wrap (tm- -1))=x:=⟨_,rfl⟩;have hα:BB.bg.length<=d.bg.length:=by rw[<-R6];exact Nat.le_trans (lj _ _) m3
  rw[Bq,R6] at Cy;rw[Bq] at qF a1;have CX:=yx BB (by omega) (-1) tm;obtain⟨cV,bG⟩:=yy BB (a:=-1) (b:=tm) (by omega) (by decide) (by omega);obtain⟨KW,Am⟩:∃x,nO BB (-1) tm=x:=⟨_,rfl⟩;obtain⟨jP,qD⟩:∃x,BB.after (IntKind.i64.wrap (tm- -1))=x:=⟨_,rfl⟩;have Rc:jP.bg.length<=d.bg.length:=by rw[<-qD];exact Nat.le_trans (lj _ _) hα
  rw[Am,qD] at CX;rw[Am] at cV bG;obtain⟨r,μ⟩:∃r:Int×Int,r=(KV,KW):=⟨_,rfl⟩;have pQ:r.1=KV:=by rw[μ]
  have rq:r.2=KW:=by rw[μ]
  obtain⟨R4,FM⟩:∃x,x=bj 29 1 (rd.map Ε):=⟨_,rfl⟩;obtain⟨R5,FN⟩:∃x,x=cq 6 (rd.map Ε):=⟨_,rfl⟩;rw[<-FM,<-FN]
  repeat apply κ
  refine W.QX (A:=[]) Ι mixed [(0,.al 0 1 0 0),(6,.al 1 1 0 0),(9,.Ψ [aO G,aI L,.ms 5 nc 0 nc]),(10,eG [p.1,p.2]),(11,R5),(12,R c),(13,Ε r)] (b6 jP::gR bE bE bE::.dead::.dead::.dead::.cells 60 1 X::R4) ?_ (by
   simp;(repeat (rw[lh];simp[uV,wg]));(try rw[lg]);refine er.e Cy (aK.refl _) (by simp) (by simp) ?_;simp;(repeat (rw[lh];simp[uV,wg]));(try rw[lg]);refine er.e CX (aK.refl _) (by simp) (by simp) ?_;simp;(repeat (rw[lh];simp[uV,wg]));(try rw[lg]);refine⟨bK (by kernel_rfl),bK (by kernel_rfl),?_⟩;simp[μ])
  obtain⟨u4,FP⟩:∃x,x=(rd++[r]).map Ε:=⟨_,rfl⟩;have mμ:u4.length=c+1:=by rw[FP];simp[lD]
  have hβ:∀e∈u4,∀a∈e.cells,au 0 a:=by rw[FP];exact Kj
  repeat apply κ
  refine W.fL (A:=[52]) Ι [(0,.al 0 1 0 0),(6,.al 1 1 0 0),(9,.Ψ [aO G,aI L,.ms 5 nc 0 nc]),(10,eG [p.1,p.2]),(11,.ms 6 (c+1) 0 (c+1)),(12,R c),(13,Ε r)] (b6 jP::gR bE bE bE::.dead::.dead::.dead::.cells 60 1 X::[.cells 29 1 u4]) ?_ (by
   rw[FP,FM,FN];by_cases Θ:rd=[]
   ·subst Θ;have jz:c=0:=by simpa using lD.symm
    subst jz;have Ζ:cq 6 (([]:List (Int×Int)).map Ε)=.sl true 0 []:=rfl;have aY:bj 29 1 (([]:List (Int×Int)).map Ε)=[]:=rfl;rw[Ζ,aY];(try simp);(repeat (rw[δ];simp));(try simp[])
   ·have jY:rd.map Ε≠[]:=by simpa using Θ
    rw[gz jY,dY jY];have hle:c<=4294967295:=by omega
    (try simp);(repeat (rw[δ];simp[lD,hle]));(try simp[lD,hle]))
  have Γ:=Q1 jP (by omega) l7 (by omega)
  have wN:=J0 jP l7
  have vA:∀x∈(g9 jP l7).1,0<=x/\x<l7:=λx h=>Q6 h
  have ti:=Q7 jP l7
  have hγ:=JY jP l7;obtain⟨ord,uQ⟩:∃x,(g9 jP l7).1=x:=⟨_,rfl⟩;obtain⟨jj,qE⟩:∃x,(g9 jP l7).2=x:=⟨_,rfl⟩;rw[uQ] at Γ wN vA ti;rw[qE] at Γ hγ;(repeat apply κ);refine ν λη I=>?_;simp;(repeat (rw[δ];simp[jH]));refine er.c (Γ) 0 rfl (aK.refl _) (by simp) (by simp) ?_;simp;(repeat (rw[δ];simp));apply I;have KX:=wO jj (by omega) l7;obtain⟨hδ,R7⟩:=uS jj l7 (by omega) (by omega);obtain⟨R8,R9⟩:∃z,ir jj l7=z:=⟨_,rfl⟩;rw[R9] at KX hδ R7;clear R9;obtain⟨ev,lk⟩:∃k:Nat,R8=k:=⟨R8.toNat,by omega⟩;obtain⟨yD,Bn⟩:∃x,jj.after l7=x:=⟨_,rfl⟩;have J7:yD.bg.length<=d.bg.length:=by rw[<-Bn];exact Nat.le_trans (lj _ _) (by omega)
  rw[lk,Bn] at KX;rw[lk] at R7;(repeat apply κ);refine ν λη I=>?_;simp;(repeat (rw[δ];simp[jH]));refine er.c (KX) 0 rfl (aK.refl _) (by simp) (by simp) ?_;simp;(repeat (rw[δ];simp));apply I
  repeat apply κ
  refine W.iter (λx:fΜ=>x.aE.length+x.k=ev/\x.d.bg.length<=d.bg.length/\x.aE.map (·.cL)=((ord.take ev).drop x.k).reverse/\∀y∈x.aE,((0<=y.seen/\y.seen<=63)/\(0<=y.bare/\y.bare<=63)/\lT y.seen y.bare=0)/\nX.jF p r y=true)
   (λx=>[(0,.al 0 1 0 0),(6,.al 1 1 0 0),(9,.Ψ [aO G,aI L,.ms 5 nc 0 nc]),(10,eG [p.1,p.2]),(11,.ms 6 (c+1) 0 (c+1)),(12,R c),(13,Ε r),(14,aP R 1 ord),(15,R x.k)])
   (λx=>b6 x.d::gR bE bE bE::.dead::.dead::.dead::.cells 60 1 (X.set c (cq 7 (x.aE.map eB)))::.cells 29 1 u4::bj 28 3 (x.aE.map eB)) (λx=>x.k) ⟨ev,yD,[]⟩
   ⟨by simp,J7,by simp,by simp⟩ (by simp only[List.map_nil];rw[show cq 7 []=bE from rfl,FO];rfl) (by simp) (λx U Bm=>?_)
  obtain⟨k,E,aE⟩:=x;obtain⟨χ,KY,gO,FQ⟩:=U;simp only at χ KY gO FQ Bm ⊢;(repeat (first|apply κ|(refine ν λη I=>?_;simp;(repeat (rw[δ];simp));apply I)));refine W.en rfl (λa5=>?_) (λa5=>?_)
  ·have lk:0<k:=by simpa using a5
   obtain⟨j,ε⟩:∃j,k=j+1:=⟨k-1,by omega⟩;have hw:IntKind.i64.wrap ((k:Int)-1)=j:=by rw[IntWalk.i64_in _ (by omega)];omega
   have EW:j<ord.length:=by omega
   have dh:ord[j]?=some ord[j]:=aW EW
   have oo:=vA _ (List.getElem_mem EW);obtain⟨KZ,j9⟩:∃x,x=ord[j]:=⟨_,rfl⟩;rw[<-j9] at dh oo;have FR:∀h,ord[j]'h=KZ:=λh=>j9.symm;obtain⟨qI,d'⟩:∃n:Nat,KZ=n:=⟨KZ.toNat,by omega⟩;rw[d'] at dh FR oo;have hε:(cq 7 (aE.map eB)=bE/\bj 28 3 (aE.map eB)=[]/\aE=[])\/(cq 7 (aE.map eB)=.ms 7 aE.length 0 aE.length/\bj 28 3 (aE.map eB)=[.cells 28 3 (aE.map eB)]/\0<aE.length):=by
    by_cases Θ:aE=[]
    ·subst Θ;exact .inl ⟨rfl,rfl,rfl⟩
    ·have gl:aE.map eB≠[]:=by simpa using Θ
     exact .inr ⟨by rw[gz gl,List.length_map],dY gl,List.length_pos_iff.2 Θ⟩
   have cH:=fΝ nX p r qI (by rw[hj];show qI<L.length;omega) (λx U=>by rw[hj] at U;have:=(aC.each x U).1;omega) (by rw[hj,μ];show KV<G.length;omega) (by rw[hj,μ];show KW<G.length;omega) (b6 E::gR bE bE bE::.dead::.dead::.dead::.cells 60 1 (X.set c (cq 7 (aE.map eB)))::.cells 29 1 u4::bj 28 3 (aE.map eB)) 5 nc (X.set c (cq 7 (aE.map eB))) (by rw[List.length_set];exact tk) rfl
   have FT:0<=nX.di p r qI/\nX.di p r qI<=63:=by
    have Φ:gX ⟨G,L,[]⟩:=⟨cU,aC,by simp,by simp⟩;rw[hj];exact Rs Φ p r qI
   have R':∀a b:Int,nX.jF p r ⟨qI,a,b⟩=(v9 a (nX.di p r qI)==0&&lT (nX.di p r qI) b==0):=λa b=>by unfold aL.jF;simp
   obtain⟨BC,Bs⟩:∃x,x=nX.di p r qI:=⟨_,rfl⟩;rw[<-Bs] at cH FT;simp only[<-Bs] at R';rw[hj] at cH
   repeat apply κ
   refine W.yw (A:=[]) Ι mixed [(0,.al 0 1 0 0),(6,.al 1 1 0 0),(9,.Ψ [aO G,aI L,.ms 5 nc 0 nc]),(10,eG [p.1,p.2]),(11,.ms 6 (c+1) 0 (c+1)),(12,R c),(13,Ε r),(14,aP R 1 ord),(15,R k),(16,R BC)] (b6 E::gR bE bE bE::.dead::.dead::.dead::.cells 60 1 (X.set c (cq 7 (aE.map eB)))::.cells 29 1 u4::bj 28 3 (aE.map eB)) ?_ (by
    obtain⟨hζ,Sa⟩:∃x,x=bj 28 3 (aE.map eB):=⟨_,rfl⟩;obtain⟨mν,Sb⟩:∃x,x=cq 7 (aE.map eB):=⟨_,rfl⟩;rw[<-Sa,<-Sb] at cH;rw[<-Sa,<-Sb,μ];rw[μ] at cH;simp;(repeat (rw[ba];simp[hw,dh,FR,wN]));(try rw[a']);refine⟨by omega,?_⟩;refine DR (ak.call (first:=[]) (captured:=[]) (ak.kX cH (.cons (.refl _) (.cons .ex (.cons .ex (.cons (.refl _) .nil)))) (λa s h=>⟨_,.refl _,h⟩))) ?_;simp;(repeat (rw[ba];simp));(try rw[a']);refine⟨bK (by kernel_rfl),?_⟩;simp)
   have K1:=wO E (by omega) 63;obtain⟨qF,a1⟩:=uS E 63 (by decide) (by decide);obtain⟨pT,ql⟩:∃x,ir E 63=x:=⟨_,rfl⟩;obtain⟨pJ,Sc⟩:∃x,E.after 63=x:=⟨_,rfl⟩;have hη:pJ.bg.length<=d.bg.length:=by rw[<-Sc];exact Nat.le_trans (lj _ _) KY
   rw[ql,Sc] at K1;rw[ql] at qF a1;have pick:∀(F:cx) (x:Int),0<=x->x<=63->0<=([63,x]:List Int).getD (tf F [63,x]) 0/\([63,x]:List Int).getD (tf F [63,x]) 0<=63:=λF x J γ=>by
    match tf F [63,x] with
    | 0=>simp
    | 1=>simp;omega
    | n+2=>simp
   have k6:=QZ pJ (by omega) [63,pT] (by simp) (by simp)
   have K2:=pick pJ pT qF a1;obtain⟨du,Sd⟩:∃x,([63,pT]:List Int).getD (tf pJ [63,pT]) 0=x:=⟨_,rfl⟩;obtain⟨pK,Se⟩:∃x,pJ.after ((([63,pT]:List Int).length:Int)-1)=x:=⟨_,rfl⟩;have hθ:pK.bg.length<=d.bg.length:=by rw[<-Se];exact Nat.le_trans (lj _ _) hη
   rw[Sd,Se] at k6;rw[Sd] at K2;have A4:=wO pK (by omega) 63;obtain⟨cV,bG⟩:=uS pK 63 (by decide) (by decide);obtain⟨kO,my⟩:∃x,ir pK 63=x:=⟨_,rfl⟩;obtain⟨BD,Sf⟩:∃x,pK.after 63=x:=⟨_,rfl⟩;have hι:BD.bg.length<=d.bg.length:=by rw[<-Sf];exact Nat.le_trans (lj _ _) hθ
   rw[my,Sf] at A4;rw[my] at cV bG;have ov:=QZ BD (by omega) [63,kO] (by simp) (by simp);have K3:=pick BD kO cV bG;obtain⟨hN,Sg⟩:∃x,([63,kO]:List Int).getD (tf BD [63,kO]) 0=x:=⟨_,rfl⟩;obtain⟨K4,Si⟩:∃x,BD.after ((([63,kO]:List Int).length:Int)-1)=x:=⟨_,rfl⟩;have hκ:K4.bg.length<=d.bg.length:=by rw[<-Si];exact Nat.le_trans (lj _ _) hι
   rw[Sg,Si] at ov;rw[Sg] at K3;obtain⟨Sj,_,_⟩:=Ka FT K2;obtain⟨_,rz,pX⟩:=Ka K3 FT;obtain⟨tT,K5⟩:=gΞ FT K2 K3;obtain⟨Sk,dU⟩:∃x,eS .i64 BC du=x:=⟨_,rfl⟩;obtain⟨BW,j2⟩:∃x,kQ .i64 hN BC=x:=⟨_,rfl⟩;rw[dU] at Sj tT K5;rw[j2] at rz pX K5;obtain⟨vf,K6⟩:∃p:eF,p=⟨qI,Sk,BW⟩:=⟨_,rfl⟩;have bz:(aE++[vf]).map eB≠[]:=by simp
   repeat apply κ
   refine W.QX (A:=[105]) Ι mixed [(0,.al 0 1 0 0),(6,.al 1 1 0 0),(9,.Ψ [aO G,aI L,.ms 5 nc 0 nc]),(10,eG [p.1,p.2]),(11,.ms 6 (c+1) 0 (c+1)),(12,R c),(13,Ε r),(14,aP R 1 ord),(15,R k)] (b6 K4::gR bE bE bE::.dead::.dead::.dead::.cells 60 1 (X.set c (cq 7 ((aE++[vf]).map eB)))::.cells 29 1 u4::bj 28 3 ((aE++[vf]).map eB)) ?_ (by
    rw[gz bz,dY bz,List.length_map,List.length_append,List.map_append,List.map_cons,List.map_nil,K6];rcases hε with⟨f1,f2,f3⟩|⟨f1,f2,f3⟩
    ·rw[f1,f2,FO,f3];simp;(repeat (rw[lh];simp[hw,dh,FR,wN,tk,KU]));(try rw[lg]);refine⟨by omega,by omega,?_⟩;refine er.e (K1) (aK.refl _) (by simp) (by simp) ?_;simp[];(repeat (rw[lh];simp[]));(try rw[lg]);refine er.e k6 (.cons .ex .nil) (by simp) (by simp) ?_;simp[dU];(repeat (rw[lh];simp[dU]));(try rw[lg]);refine er.e (A4) (aK.refl _) (by simp) (by simp) ?_;simp[];(repeat (rw[lh];simp[]));(try rw[lg]);refine er.e ov (.cons .ex .nil) (by simp) (by simp) ?_;simp[j2];(repeat (rw[lh];simp[j2,tk,KU]));(try rw[lg]);refine⟨by omega,?_⟩;refine⟨bK (by kernel_rfl),bK (by kernel_rfl),?_⟩;simp
    ·rw[f1,f2];have Sl:∀v,(X.set c v)[c]?=some v:=λv=>by rw[List.getElem?_set_self (by omega)]
     have Sm:∀v h,(X.set c v)[c]'h=v:=λv h=>List.getElem_set_self h;simp;(repeat (rw[lh];simp[hw,dh,FR,wN,tk,Sl,Sm]));(try rw[lg]);refine⟨by omega,by omega,?_⟩;refine er.e (K1) (aK.refl _) (by simp) (by simp) ?_;simp[];(repeat (rw[lh];simp[]));(try rw[lg]);refine er.e k6 (.cons .ex .nil) (by simp) (by simp) ?_;simp[dU];(repeat (rw[lh];simp[dU]));(try rw[lg]);refine er.e (A4) (aK.refl _) (by simp) (by simp) ?_;simp[];(repeat (rw[lh];simp[]));(try rw[lg]);refine er.e ov (.cons .ex .nil) (by simp) (by simp) ?_;simp[j2];(repeat (rw[lh];simp[j2,tk,Sl,Sm]));(try rw[lg]);refine⟨by omega,by omega,?_⟩;refine⟨bK (by kernel_rfl),bK (by kernel_rfl),?_⟩;simp)
   (repeat (first|apply κ|(refine ν λη I=>?_;simp;(repeat (rw[δ];simp[hw]));apply I)));have kT:(ord.take ev).drop j=(qI:Int)::(ord.take ev).drop k:=by
    have gx:j<(ord.take ev).length:=by rw[List.length_take];omega
    rw[List.drop_eq_getElem_cons gx,ε,List.getElem_take,<-j9,d']
   refine W.to (Bm ⟨j,K4,aE++[vf]⟩ ⟨by show(aE++[vf]).length+j=ev;rw[List.length_append];simp;omega,hκ,?_,λy Ξ=>?_⟩ (by show j<k;omega)) (by simp) (by simp[hw])
   ·show(aE++[vf]).map (·.cL)=((ord.take ev).drop j).reverse;rw[kT,List.map_append,gO,List.reverse_cons,K6];rfl
   ·rcases List.mem_append.1 Ξ with Ξ|Ξ
    ·exact FQ y Ξ
    ·simp at Ξ;subst Ξ;subst K6;refine⟨⟨Sj,rz,K5⟩,?_⟩;rw[R'];have vx:v9 Sk BC=0:=tT;have qY:lT BC BW=0:=pX;rw[vx,qY];rfl
  ·have lk:k=0:=by simp at a5;omega
   subst lk;have mξ:aE.length=ev:=by omega
   rw[List.drop_zero] at gO;have oW:yF l7 aE:=by
    refine⟨by omega,?_,λy Ξ=>?_⟩
    ·rw[gO];unfold List.Nodup;rw[List.pairwise_reverse];exact(ti.sublist (List.take_sublist _ _)).imp Ne.symm
    ·have hm:y.cL∈aE.map (·.cL):=List.mem_map.2 ⟨y,Ξ,rfl⟩;rw[gO,List.mem_reverse] at hm;have:=vA _ (List.mem_of_mem_take hm);obtain⟨⟨Τ,af,aX⟩,_⟩:=FQ y Ξ;exact⟨this,Τ,af,aX⟩
   have hw:IntKind.i64.wrap ((c:Int)+1)=((c+1:Nat):Int):=by rw[IntWalk.i64_in _ (by omega)];omega
   have hμ:(done++[aE]).length=c+1:=by simp;omega
   have yQ:=Δ ⟨E,done++[aE],rd++[r]⟩ ⟨by show(done++[aE]).length<=nc;omega,KY,λx U=>by
    rcases List.mem_append.1 U with U|U
    ·exact Bu x U
    ·simp at U;subst U;exact oW,by show(rd++[r]).length=_;simp[lD,w8],λy Ξ=>by
    rcases List.mem_append.1 Ξ with Ξ|Ξ
    ·exact KT y Ξ
    ·simp at Ξ;subst Ξ;rw[pQ,rq];omega,λx y z J γ=>by
    by_cases U:x<c
    ·rw[dB (by omega)] at J γ;exact u3 x y z J γ
    ·rw[fS (by omega)] at J γ;have Ζ:x-rd.length=x-c:=by rw[lD]
     rw[Ζ] at J;rw[<-w8] at γ;cases yR:x-c with
     | zero=>rw[yR] at J γ;simp at J γ;subst J;subst γ;exact λy Ξ=>(FQ y Ξ).2
     | succ q=>rw[yR] at J;simp at J⟩ (by show nc-(done++[aE]).length<nc-c;omega)
   have hν:bA (done++[aE]) nc≠[]:=λh=>by
    have:=wW (done:=done++[aE]) (nc:=nc) (by omega);rw[h] at this;simp at this;omega
   have Sn:(rd++[r]).map Ε≠[]:=by simp
   have hξ:((rd++[r]).map Ε).length=c+1:=by simp[lD]
   simp only[hμ] at yQ;rw[dY hν,dY Sn,gz Sn,hξ,<-FP,<-gΨ aE,e] at yQ;refine W.exit rfl ?_;by_cases Θ:aE=[]
   ·subst Θ;rw[show nR []=bE from rfl,FO] at yQ;rw[show cq 7 (([]:List eF).map eB)=bE from rfl,show bj 28 3 (([]:List eF).map eB)=[] from rfl,FO];(repeat (first|apply κ|(refine ν λη I=>?_;simp;(repeat (rw[δ];simp[hw]));apply I)));exact W.to yQ rfl (by simp[hw])
   ·have gl:aE.map eB≠[]:=by simpa using Θ
    have yP:nR aE=.sl false 3 (aE.map eB):=by unfold nR fA;rw[if_neg (by simpa using Θ)]
    rw[yP] at yQ;rw[gz gl,dY gl];refine W.rU (σ':=b6 E::gR bE bE bE::.dead::.dead::.dead::.cells 60 1 (X.set c (.sl false 3 (aE.map eB)))::.cells 29 1 u4::[.dead]) (id:=7) (by simp) rfl rfl rfl (λi r hi μ=>?_) [(0,.al 0 1 0 0),(6,.al 1 1 0 0),(9,.Ψ [aO G,aI L,.ms 5 nc 0 nc]),(10,eG [p.1,p.2]),(11,.ms 6 (c+1) 0 (c+1)),(12,R c)] (λp ψ=>by
     simp only[List.mem_cons,List.not_mem_nil,or_false] at ψ;rcases ψ with rfl|rfl|rfl|rfl|rfl|rfl<;>exact .same _) ?_
    ·match i,hi,μ with
     | 0,_,μ=>exact⟨r,μ,.inl rfl⟩
     | 1,_,μ=>exact⟨r,μ,.inl rfl⟩
     | 2,_,μ=>exact⟨r,μ,.inl rfl⟩
     | 3,_,μ=>exact⟨r,μ,.inl rfl⟩
     | 4,_,μ=>exact⟨r,μ,.inl rfl⟩
     | 5,_,μ=>
      simp at μ;subst μ;refine⟨_,rfl,.inr ⟨60,1,_,_,rfl,rfl,by simp,λy e aJ J γ=>?_⟩⟩;by_cases Ξ:y=c
      ·subst Ξ;rw[List.getElem?_set_self (by omega)] at J γ;cases J;cases γ;refine⟨rfl,λx a b1 π Μ=>?_⟩
       match x with
       | 0=>simp[θ.cells] at π Μ;subst π;subst Μ;have:=rT.ms (id:=7) (k:=3) (l:=aE.map eB);rwa [List.length_map] at this
       | x+1=>simp[θ.cells] at π
      ·rw[List.getElem?_set_ne (Ne.symm Ξ)] at J γ;rw[J] at γ;cases γ;exact⟨rfl,λx a b1 π Μ=>by rw[π] at Μ;cases Μ;exact .same _⟩
     | 6,_,μ=>exact⟨r,μ,.inl rfl⟩
     | 7,h,_=>exact absurd rfl h
     | i+8,_,μ=>simp at μ
    refine W.drop (h:=7) (by simp) (by simp) (λi r hi μ=>?_) rfl [(0,.al 0 1 0 0),(6,.al 1 1 0 0),(9,.Ψ [aO G,aI L,.ms 5 nc 0 nc]),(10,eG [p.1,p.2]),(11,.ms 6 (c+1) 0 (c+1)),(12,R c)] ?_ ?_
    ·match i,hi,μ with
     | 0,_,μ=>simp at μ;subst μ;exact wS E 7
     | 1,_,μ=>simp at μ;subst μ;intro e he a ξ;simp[θ.cells] at he;subst he;simp[θ.cells] at ξ;subst ξ;simp
     | 2,_,μ=>simp at μ;subst μ;trivial
     | 3,_,μ=>simp at μ;subst μ;trivial
     | 4,_,μ=>simp at μ;subst μ;trivial
     | 5,_,μ=>
      simp at μ;subst μ;intro e he a ξ;rcases List.mem_or_eq_of_mem_set he with he|rfl
      ·obtain⟨J,γ⟩:=Kt e he;rw[J] at ξ;simp at ξ;subst ξ;exact γ.mono (Nat.zero_le _)
      ·simp[θ.cells] at ξ;subst ξ;have:=RJ aE;rw[yP] at this;exact this.mono (Nat.zero_le _)
     | 6,_,μ=>simp at μ;subst μ;exact λe he a ξ=>(hβ e he a ξ).mono (Nat.zero_le _)
     | i+7,h,_=>omega
    ·intro p ψ;simp only[List.mem_cons,List.not_mem_nil,or_false] at ψ;rcases ψ with rfl|rfl|rfl|rfl|rfl|rfl
     ·exact⟨rfl,kU.2 (by omega)⟩
     ·exact⟨rfl,kU.2 (by omega)⟩
     ·refine⟨rfl,NT.2 λa ξ=>?_⟩;simp only[List.mem_cons,List.not_mem_nil,or_false] at ξ;rcases ξ with rfl|rfl|rfl
      ·exact(fZ.2 th:au 0 _).mono (Nat.zero_le _)
      ·exact(fZ.2 rV:au 0 _).mono (Nat.zero_le _)
      ·exact nx.2 (by omega)
     ·exact⟨rfl,by simp⟩
     ·exact⟨rfl,nx.2 (by omega)⟩
     ·exact⟨rfl,.z _⟩
    (repeat (first|apply κ|(refine ν λη I=>?_;simp;(repeat (rw[δ];simp[hw]));apply I)));exact W.to yQ rfl (by simp[hw])
 ·have ζ:c=nc:=by simp at ζ;omega
  subst ζ;refine W.exit rfl ?_;have p6:gX ⟨G,L,done⟩:=⟨cU,aC,by show done.length<=4;omega,λx U=>by show yF L.length x;rw[<-FK];exact Bu x U⟩;have hο:bA done c=done.map nR:=by rw[w8];exact fΘ
  have AT:KQ fO cells ⟨G,L,done⟩ p rd:=⟨⟨n1,eW,ψ⟩,p6,by show done.length<=cells;omega,J9,by show rd.length=done.length;omega,λr μ=>by show(-1<=r.1/\r.1<G.length)/\_;rw[<-Υ];exact KT r μ,λx y h=>by
   unfold aL.mM;show((done[x]?).getD []).all _=true;cases U:done[x]? with
   | none=>rfl
   | some aE=>
    refine List.all_eq_true.2 λz Θ=>?_;have:=u3 x y aE h U z Θ;rw[hj] at this;exact this⟩
  have hπ:cG (.aS [aO G,aI L,.sl false 1 (done.map nR)]) (eV ⟨G,L,done⟩):=by
   refine .aS (.cons (.refl _) (.cons (.refl _) (.cons ?_ .nil)));exact .map λx _=>.one .acc (RK x) rfl
  have hρ:cG (.sl false 1 (rd.map Ε)) (aI (fP rd)):=by
   show cG (.sl false 1 (rd.map Ε)) (.sl false 1 ((fP rd).map (aP R 1)));rw[List.map_map];exact .map λr _=>.one .ex rfl rfl
  rcases tl with⟨cv,e⟩|⟨cv,e⟩<;>rcases yN done (by omega) with⟨ag,BA⟩|⟨ag,BA⟩
  ·have BE:rd=[]:=by rcases gΧ with⟨_,h⟩|h;exact h;omega
   have hς:done=[]:=dp.1 (by omega);rw[e,BA,BE];rw[show cq 6 (([]:List (Int×Int)).map Ε)=bE from rfl,show bj 29 1 (([]:List (Int×Int)).map Ε)=[] from rfl];(repeat (first|apply κ|(refine ν λη I=>?_;simp;(repeat (rw[δ];simp));apply I)));refine W.cut 1 (by simp) [(6,.Ψ [aO G,aI L,bE]),(7,eG [p.1,p.2]),(8,bE)] (by simp) (λid r bW μ=>?_) (λz Θ=>?_) ?_
   ·have:id=0:=by omega
    subst this;simp at μ;subst μ;exact wS D 1
   ·simp only[List.mem_cons,List.not_mem_nil,or_false] at Θ;rcases Θ with rfl|rfl|rfl
    ·show ed 1 _ (a3 _ 6) _;simp;refine .struct (by simp) (show _=some (Row.cells _ _ [.aS _]) from rfl) rfl λx a b1 J γ=>?_
     match x with
     | 0=>simp at J γ;subst J;subst γ;exact .low ((fZ.2 th:au 0 _).mono (Nat.zero_le _))
     | 1=>simp at J γ;subst J;subst γ;exact .low ((fZ.2 rV:au 0 _).mono (Nat.zero_le _))
     | 2=>simp at J γ;subst J;subst γ;exact .low (by simp)
     | x+3=>simp at γ
    ·exact .low (by simp)
    ·exact .low (by simp)
   ·refine W.ret ⟨_,rfl,_,D,?_,⟨_,p,rd,rfl,AT⟩,rfl,m3⟩;rw[hς,BE];exact .bn (.cons (.aS (.cons (.refl _) (.cons (.refl _) (.cons .nil .nil)))) (.cons .ex (.cons .nil .nil)))
  ·omega
  ·omega
  ·have nH:(bA done c).length=c:=wW (by omega)
   have BE:rd.map Ε≠[]:=λh=>by
    have:(rd.map Ε).length=0:=by rw[h];rfl
    rw[List.length_map] at this;omega
   rw[e,BA,gz BE,dY BE,List.length_map,lD];(repeat (first|apply κ|(refine ν λη I=>?_;simp;(repeat (rw[δ];simp[nH]));apply I)));refine W.cut 1 (by simp) [(6,.Ψ [aO G,aI L,.sl false 1 (bA done c)]),(7,eG [p.1,p.2]),(8,.sl false 1 (rd.map Ε))] (by simp) (λid r bW μ=>?_) (λz Θ=>?_) ?_
   ·have:id=0:=by omega
    subst this;simp at μ;subst μ;exact wS D 1
   ·simp only[List.mem_cons,List.not_mem_nil,or_false] at Θ;rcases Θ with rfl|rfl|rfl
    ·show ed 1 _ (a3 _ 6) _;simp;refine .struct (by simp) (show _=some (Row.cells _ _ [.aS _]) from rfl) rfl λx a b1 J γ=>?_
     match x with
     | 0=>simp at J γ;subst J;subst γ;exact .low ((fZ.2 th:au 0 _).mono (Nat.zero_le _))
     | 1=>simp at J γ;subst J;subst γ;exact .low ((fZ.2 rV:au 0 _).mono (Nat.zero_le _))
     | 2=>simp at J γ;subst J;subst γ;exact .own (t:=60) (by simp) rfl nH (λe he a ξ=>by
       obtain⟨eR,ew⟩:=Kx e he;rw[eR] at ξ;simp at ξ;subst ξ;exact ew.mono (Nat.zero_le _))
     | x+3=>simp at γ
    ·exact .low (by simp)
    ·show ed 1 _ (a3 _ 8) _;simp;exact .own (t:=29) (id:=6) (by simp) rfl (by simp[lD]) (λe he a ξ=>(Kj e he a ξ).mono (Nat.zero_le _))
   ·rw[hο];exact W.ret ⟨_,rfl,_,D,.bn (.cons hπ (.cons .ex (.cons hρ .nil))),⟨_,p,rd,rfl,AT⟩,rfl,m3⟩
end Go.TL
namespace Go.TL
open Go.Conc Go.Proofs
variable [bm]
theorem W.ep {P:Program} {m nt:Nat} {k:List Item} {env:aa} {σ:List Row} {Z:List Item->aa->List Row->Prop} {E:θ->aa->List Row->Prop} (env':aa) (cD:∀p∈env',cG (a3 env p.1) p.2) (hW:W P m nt k env' σ Z E):W P m nt k env σ Z E:=
 λQ mn x cs b S B H t U hb ψ Θ he=>by
 have vT:∀(l:aa),(∀p∈l,cG (a3 env p.1) p.2)->∀i,cG (a3 env i) (a3 l i):=by
  intro l
  induction l with
  | nil=>intro _ i;exact .cg _
  | cons p l Δ=>
   intro ω i;simp only[a3];split
   ·rename_i e;rw[<-e];exact ω p (by simp)
   ·exact Δ (λq Ρ=>ω q (by simp[Ρ])) i
 exact hW Q mn x cs b S B H t U hb ⟨ψ.holds,λi=>vT env' cD i S B σ _ (ψ.cp i),ψ.size,ψ.rows⟩ Θ he
theorem oB.So {id k kk:Nat} {t:TypeId} {M l:List θ} {a:θ} {n:Nat} (Η:n=l.length):oB id k l (.cells t kk (M++[.aS [a,.ms id n 0 n]])) (.cells t kk (M++[.aS [a,.sl false k l]])):=by
 subst Η;refine .inr ⟨t,kk,_,_,rfl,rfl,by simp,λi e aJ J γ=>?_⟩;by_cases hi:i<M.length
 ·rw[dB hi] at J γ;rw[J] at γ;cases γ;exact⟨rfl,λx a b1 π Μ=>by rw[π] at Μ;cases Μ;exact .same _⟩
 ·rw[fS (by omega)] at J γ;obtain⟨j,ε⟩:∃j,j=i-M.length:=⟨_,rfl⟩;rw[<-ε] at J γ
  match j with
  | 0=>
   simp at J γ;subst J;subst γ;refine⟨rfl,λx a b1 π Μ=>?_⟩
   match x with
   | 0=>simp[θ.cells] at π Μ;subst π;subst Μ;exact .same _
   | 1=>simp[θ.cells] at π Μ;subst π;subst Μ;exact .ms
   | x+2=>simp[θ.cells] at π
  | j+1=>simp at J
abbrev fQ:=(Int×Int)×List (Int×Int)
abbrev iL (x:fQ):θ:=.aS [aP R 1 [x.1.1,x.1.2],aI (fP x.2)]
abbrev jl (l:List fQ):θ:=.sl false 2 (l.map iL)
def oF (p:Int×Int) (C:List (Int×Int)):List fQ->List fQ->List fQ
 | acc,[]=>acc
 | acc,x::xs=>if acc.length<=400 then oF p C (acc++C.map λr=>(p,x.2++[r])) xs else acc
def lp (s:aL) (p:Int×Int):Nat->List fQ
 | 0=>[(p,[])]
 | c+1=>oF p (ff s p c) [] (lp s p c)
def jT (s:aL) (i:Nat):List fQ:=(List.range i).flatMap λk=>lp s (cS k) s.cells.length
theorem Sp (p:Int×Int) (C:List (Int×Int)):∀(xs acc:List fQ) (m:Nat),acc.length<=400+m->C.length<=m->(oF p C acc xs).length<=400+m
 | [],acc,m,h,_=>h
 | x::xs,acc,m,h,ζ=>by
  unfold oF;split
  ·exact Sp p C xs _ m (by simp;omega) ζ
  ·exact h
theorem K7 {s:aL} (h:gX s) (p:Int×Int) (c:Nat):(lp s p c).length<=449:=by
 cases c with
 | zero=>simp[lp]
 | succ c=>exact Sp p _ _ _ 49 (by simp) (FJ h p c)
theorem hτ {s:aL} (h:gX s) (i:Nat):(jT s i).length<=i*449:=by
 induction i with
 | zero=>simp[jT]
 | succ i Δ=>
  have:jT s (i+1)=jT s i++lp s (cS i) s.cells.length:=by simp[jT,List.range_succ]
  rw[this,List.length_append];have:=K7 h (cS i) s.cells.length;omega
theorem hυ (p:Int×Int) (C:List (Int×Int)) (acc xs:List fQ) (h:¬acc.length<=400):oF p C acc xs=acc:=by
 cases xs with
 | nil=>rfl
 | cons x xs=>unfold oF;rw[if_neg h]
theorem hφ {s:aL} {p:Int×Int}:∀(c:Nat) (x:fQ),x∈lp s p c->x.1=p/\x.2.length=c:=by
 have key:∀(C:List (Int×Int)) (c:Nat) (xs acc:List fQ),(∀x∈xs,x.1=p/\x.2.length=c)->(∀x∈acc,x.1=p/\x.2.length=c+1)->∀x∈oF p C acc xs,x.1=p/\x.2.length=c+1:=by
  intro C c xs
  induction xs with
  | nil=>intro acc _ γ x U;exact γ x U
  | cons y xs Δ=>
   intro acc J γ;unfold oF;split
   ·refine Δ _ (λx U=>J x (by simp[U])) λx U=>?_;rcases List.mem_append.1 U with U|U
    ·exact γ x U
    ·obtain⟨r,_,rfl⟩:=List.mem_map.1 U;have:=(J y (by simp)).2;simp[this]
   ·exact γ
 intro c
 induction c with
 | zero=>intro x U;simp[lp] at U;subst U;exact⟨rfl,rfl⟩
 | succ c Δ=>exact key _ c _ _ Δ (by simp)
end Go.TL
namespace Go.TL
open Go.Proofs
variable [bm]
theorem K8 {L:List fQ}:∀e∈L.map iL,∀a∈e.cells,au 0 a:=λe he a ξ=>by
 obtain⟨x,_,rfl⟩:=List.mem_map.1 he;simp[θ.cells] at ξ;rcases ξ with rfl|rfl
 ·simp
 ·exact fZ.2 rV
abbrev lq (x:fQ):θ:=.aS [eG [x.1.1,x.1.2],aI (fP x.2)]
theorem Sq {L:List fQ}:∀e∈L.map lq,∀a∈e.cells,au 0 a:=λe he a ξ=>by
 obtain⟨x,_,rfl⟩:=List.mem_map.1 he;simp[θ.cells] at ξ;rcases ξ with rfl|rfl
 ·simp
 ·exact fZ.2 rV
theorem hχ {M:List fQ}:cG (.sl false 2 (M.map lq)) (jl M):=.map λx _=>.cons .ex (.cons (.refl _) .nil)
def rZ (M:List fQ):List Row:=if M.isEmpty then [] else [.dead,.cells 54 2 (M.map lq)]
def r4 (q:Nat) (M:List fQ):θ:=if M.isEmpty then .sl true 0 [] else .ms (q+1) M.length 0 M.length
theorem FU {M:List fQ} (h:M≠[]):rZ M=[.dead,.cells 54 2 (M.map lq)]:=by unfold rZ;rw[if_neg (by simpa using h)]
theorem FV {q:Nat} {M:List fQ} (h:M≠[]):r4 q M=.ms (q+1) M.length 0 M.length:=by unfold r4;rw[if_neg (by simpa using h)]
def oG (i:Nat) (L:List fQ):θ:=if i=0 then .sl true 0 [] else .ms 0 L.length 0 L.length
def m6 (i:Nat) (L:List fQ):List Row:=if i=0 then [] else [.cells 54 2 (L.map iL)]
theorem hψ {i h:Nat} {L:List fQ}:∀r∈m6 i L,eK h r:=λr μ=>by
 unfold m6 at μ;split at μ
 ·cases μ
 ·simp at μ;subst μ;exact λe he a ξ=>(K8 e (by simpa using he) a ξ).mono (Nat.zero_le _)
theorem hω {i:Nat} {L:List fQ}:au (m6 i L).length (oG i L):=by
 unfold oG m6;split
 ·simp
 ·exact nx.2 (by simp)
theorem hΑ (s:aL) (h:gX s):ay Tryz.prog 33 [eV s] (.bn [jl (jT s 3),a4 (decide ((jT s 3).length<=400)),a4 true]):=by
 refine ak.body Ι Tryz.func33 rfl rfl Tryz.ntmps33 rfl rfl (by simp) ?_;(repeat (first|apply κ|(refine ν λη I=>?_;simp;(repeat (rw[δ];simp));apply I)));have mο:=h.many;refine W.iter (λi:Nat=>i<=3) (λi=>[(1,.Ψ [aO s.ae,aI s.ai,bf s.cells]),(5,.sl true 1 Bz),(6,oG i (jT s i)),(7,R i)]) (λi=>m6 i (jT s i)) (λi=>3-i) 0 (by decide) (by simp[m6]) (by simp[oG]) (λi hi Δ=>?_);have Ko:=hτ h i;have mx:jT s (i+1)=jT s i++lp s (cS i) s.cells.length:=by simp[jT,List.range_succ]
 obtain⟨O,cI⟩:∃O,O=jT s i:=⟨_,rfl⟩;rw[<-cI] at Ko mx;refine W.to (σ':=m6 i O) (env':=[(1,.Ψ [aO s.ae,aI s.ai,bf s.cells]),(5,.sl true 1 Bz),(6,oG i O),(7,R i)]) ?_ (by rw[cI]) (by rw[cI];simp);(repeat (first|apply κ|(refine ν λη I=>?_;simp;(repeat (rw[δ];simp));apply I)));refine W.en rfl (λζ=>?_) (λζ=>?_)
 ·have fp:i<3:=by simp at ζ;omega
  obtain⟨ψ,fX⟩:=R1 i fp;have w7:=RX i fp;obtain⟨p,Jx⟩:∃p,p=cS i:=⟨_,rfl⟩;rw[<-Jx] at ψ fX w7 mx;have Sr:=fρ s h p w7;obtain⟨ko,K9⟩:∃x,x=(List.range s.cells.length).map λc=>fP (ff s p c):=⟨_,rfl⟩;rw[<-K9] at Sr;have hΒ:ko.length=s.cells.length:=by rw[K9];simp
  obtain⟨kE,FW⟩:∃x,x=Bz:=⟨_,rfl⟩;have BF:kE.length=3:=by rw[FW];rfl
  have Ss:au 0 (.sl true 1 kE):=by rw[FW];simp
  rw[<-FW] at ψ fX ⊢;obtain⟨l8,La⟩:∃x,x=oG i O:=⟨_,rfl⟩;obtain⟨fR,FX⟩:∃x,x=m6 i O:=⟨_,rfl⟩;have St:∀h,∀r∈fR,eK h r:=λh=>by rw[FX];exact hψ
  have Su:au fR.length l8:=by rw[La,FX];exact hω
  rw[<-La,<-FX]
  repeat apply κ
  refine W.yw (A:=[]) Ι mixed [(1,.Ψ [aO s.ae,aI s.ai,bf s.cells]),(5,.sl true 1 kE),(6,l8),(7,R i),(8,l5 ko),(9,a4 true)] fR ?_ (by
   simp;(repeat (rw[ba];simp[ψ,fX,BF]));(try rw[a']);refine⟨by omega,?_⟩;refine fI (ay.p Sr (.cons (.refl _) (.cons .ex .nil)) (by simp) (by simp)) ?_;simp;(repeat (rw[ba];simp));(try rw[a']);refine⟨bK (by kernel_rfl),?_⟩;simp)
  (repeat (first|apply κ|(refine ν λη I=>?_;simp;(repeat (rw[δ];simp));apply I)));refine ah rfl ?_
  repeat apply κ
  refine W.fL (A:=[]) Ι [(1,.Ψ [aO s.ae,aI s.ai,bf s.cells]),(5,.sl true 1 kE),(6,l8),(7,R i),(8,l5 ko),(10,.sl true 2 [.aS [eG [p.1,p.2],.sl true 0 []]])] fR ?_ (by
   (try simp);(repeat (rw[δ];simp[ψ,fX,BF]));(try simp[ψ,fX,BF]);omega)
  refine W.ep [(1,.Ψ [aO s.ae,aI s.ai,bf s.cells]),(5,.sl true 1 kE),(6,l8),(7,R i),(8,l5 ko),(10,jl (lp s p 0))] ?_ ?_
  ·intro z Θ;simp only[List.mem_cons,List.not_mem_nil,or_false] at Θ;rcases Θ with rfl|rfl|rfl|rfl|rfl|rfl
   ·exact .refl _
   ·exact .refl _
   ·exact .refl _
   ·exact .refl _
   ·exact .refl _
   ·show cG (.sl true 2 [.aS [eG [p.1,p.2],.sl true 0 []]]) (.sl false 2 ([(p,[])].map iL));refine .sl rfl λi a b J γ=>?_
    match i with
    | 0=>simp at J γ;subst J;subst γ;exact .cons .ex (.cons .nil .nil)
    | i+1=>simp at J
  (repeat (first|apply κ|(refine ν λη I=>?_;simp;(repeat (rw[δ];simp));apply I)));refine W.iter (λc:Nat=>c<=s.cells.length) (λc=>[(1,.Ψ [aO s.ae,aI s.ai,bf s.cells]),(5,.sl true 1 kE),(6,l8),(7,R i),(8,l5 ko),(10,jl (lp s p c)),(11,R c)]) (λ_=>fR) (λc=>s.cells.length-c) 0 (Nat.zero_le _) rfl (by simp) (λc ns fK=>?_);have hΓ:=K7 h p c;have Lb:lp s p (c+1)=oF p (ff s p c) [] (lp s p c):=rfl;have mπ:=K7 h p (c+1);obtain⟨S,e5⟩:∃S,S=lp s p c:=⟨_,rfl⟩;rw[<-e5] at hΓ Lb;refine W.to (σ':=fR) (env':=[(1,.Ψ [aO s.ae,aI s.ai,bf s.cells]),(5,.sl true 1 kE),(6,l8),(7,R i),(8,l5 ko),(10,jl S),(11,R c)]) ?_ rfl (by rw[e5];simp);(repeat (first|apply κ|(refine ν λη I=>?_;simp;(repeat (rw[δ];simp[hΒ]));apply I)));by_cases ζ:c<s.cells.length
  ·refine aj (by simp[ζ]) ?_;have sZ:ko[c]?=some (fP (ff s p c)):=by rw[K9];simp[ζ]
   have uw:=FJ h p c;obtain⟨Ω,bb⟩:∃Ω,Ω=ff s p c:=⟨_,rfl⟩;rw[<-bb] at sZ Lb uw;have FY:∀h,ko[c]'h=fP Ω:=λh=>by rw[aW h] at sZ;simpa using sZ
   have Lc:c<ko.length:=by omega
   have wy:=gY (i:=c) (by omega);obtain⟨q,Ρ⟩:∃q,q=fR.length:=⟨_,rfl⟩;(repeat (first|apply κ|(refine ν λη I=>?_;simp;(repeat (rw[δ];simp));apply I)));refine W.iter (ι:=Nat×List fQ) (λx=>x.1<=S.length/\oF p Ω x.2 (S.drop x.1)=lp s p (c+1)/\x.2.length<=449) (λx=>[(1,.Ψ [aO s.ae,aI s.ai,bf s.cells]),(5,.sl true 1 kE),(6,l8),(7,R i),(8,l5 ko),(10,jl S),(11,R c),(12,r4 q x.2),(13,R x.1)]) (λx=>fR++rZ x.2) (λx=>S.length-x.1) (0,[]) ⟨Nat.zero_le _,Lb.symm,by simp⟩ (by simp[rZ]) (by simp[r4]) (λx U jM=>?_);obtain⟨k,M⟩:=x;obtain⟨hB,dW,jv⟩:=U;simp only at hB dW jv jM ⊢;have FZ:(M=[]/\r4 q M=.sl true 0 []/\rZ M=[])\/(M≠[]/\r4 q M=.ms (q+1) M.length 0 M.length/\rZ M=[.dead,.cells 54 2 (M.map lq)]):=by
    by_cases Θ:M=[]
    ·exact .inl ⟨Θ,by rw[Θ];rfl,by rw[Θ];rfl⟩
    ·exact .inr ⟨Θ,FV Θ,FU Θ⟩
   obtain⟨F0,Ld⟩:∃x,x=r4 q M:=⟨_,rfl⟩;obtain⟨Sv,Le⟩:∃x,x=rZ M:=⟨_,rfl⟩;rw[<-Ld,<-Le] at FZ;rw[<-Ld,<-Le]
   repeat apply κ
   refine W.fL (A:=[]) Ι [(56,a4 (decide (k<S.length)&&decide (M.length<=400))),(1,.Ψ [aO s.ae,aI s.ai,bf s.cells]),(5,.sl true 1 kE),(6,l8),(7,R i),(8,l5 ko),(10,jl S),(11,R c),(12,F0),(13,R k)] (fR++Sv) ?_ (by
    by_cases l9:k<S.length
    ·rcases FZ with⟨Ζ,Ε,aY⟩|⟨Ζ,Ε,aY⟩
     ·rw[Ε,aY];(try simp);(repeat (rw[δ];simp[l9]));(try simp[l9]);simp[Ζ]
     ·rw[Ε,aY];have bC:(fR++[Row.dead,Row.cells 54 2 (M.map lq)])[q+1]?=some (Row.cells 54 2 (M.map lq)):=by rw[Ρ];simp
      (try simp);(repeat (rw[δ];simp[l9,bC]));(try simp[l9,bC]);omega
    ·obtain⟨mρ,mς⟩:∃x,x=F0:=⟨_,rfl⟩;(try simp);(repeat (rw[δ];simp[l9]));(try simp[l9]))
   by_cases hgo:k<S.length/\M.length<=400
   ·obtain⟨l9,Sw⟩:=hgo;refine aj (by simp[l9,Sw]) ?_;have Sx:=aW l9;have Lf:=List.getElem_mem l9;have Sy:=List.drop_eq_getElem_cons l9;obtain⟨x,U⟩:∃x,x=S[k]:=⟨_,rfl⟩;rw[<-U] at Sx Lf Sy;have mτ:∀h,S[k]'h=x:=λh=>U.symm;rw[e5] at Lf;obtain⟨ql,my⟩:=hφ c x Lf;have hΔ:oF p Ω (M++Ω.map λr=>(p,x.2++[r])) (S.drop (k+1))=lp s p (c+1):=by
     rw[Sy] at dW;unfold oF at dW;rw[if_pos Sw] at dW;exact dW
    have wB:=gY (i:=k) (by omega);obtain⟨u5,BG⟩:∃f:Nat->List fQ,f=λj=>M++(Ω.take j).map λr=>(p,x.2++[r]):=⟨_,rfl⟩;have Sz:u5 0=M:=by rw[BG];simp
    have k0:∀j,(ε:j<Ω.length)->u5 (j+1)=u5 j++[(p,x.2++[Ω[j]])]:=λj ε=>by
     rw[BG];simp only;rw[List.take_succ_eq_append_getElem ε,List.map_append,List.append_assoc];rfl
    have Kl:∀j,(u5 j).length<=400+j:=λj=>by rw[BG];simp;omega
    have F1:u5 Ω.length=M++Ω.map λr=>(p,x.2++[r]):=by rw[BG];simp
    clear BG;rw[Ld,Le];(repeat (first|apply κ|(refine ν λη I=>?_;simp;(repeat (rw[δ];simp));apply I)));refine W.iter (λj:Nat=>j<=Ω.length) (λj=>[(1,.Ψ [aO s.ae,aI s.ai,bf s.cells]),(5,.sl true 1 kE),(6,l8),(7,R i),(8,l5 ko),(10,jl S),(11,R c),(13,R k),(12,r4 q (u5 j)),(14,R j)]) (λj=>fR++rZ (u5 j)) (λj=>Ω.length-j) 0 (Nat.zero_le _) (by rw[Sz]) (by rw[Sz];simp) (λj ε SA=>?_);have u6:=k0 j;have Kw:=Kl j;obtain⟨N,b8⟩:∃N,N=u5 j:=⟨_,rfl⟩;rw[<-b8] at u6 Kw;refine W.to (σ':=fR++rZ N) (env':=[(1,.Ψ [aO s.ae,aI s.ai,bf s.cells]),(5,.sl true 1 kE),(6,l8),(7,R i),(8,l5 ko),(10,jl S),(11,R c),(13,R k),(12,r4 q N),(14,R j)]) ?_ (by rw[b8]) (by rw[b8];simp);(repeat (first|apply κ|(refine ν λη I=>?_;simp;(repeat (rw[δ];simp[sZ,FY,Lc]));apply I)));by_cases yS:j<Ω.length
    ·refine aj (by simp[yS]) ?_;have SB:=aW yS;have u6:=u6 yS;obtain⟨r,μ⟩:∃r,r=Ω[j]:=⟨_,rfl⟩;rw[<-μ] at SB u6;have qf:(fP Ω)[j]?=some [r.1,r.2]:=by rw[List.getElem?_map,SB];rfl
     have Lg:∀h,(fP Ω)[j]'h=[r.1,r.2]:=λh=>by rw[aW h] at qf;simpa using qf
     have gO:(fP Ω).length=Ω.length:=by simp
     obtain⟨m7,Lh⟩:∃y,y=fP x.2:=⟨_,rfl⟩;have F2:m7.length=c:=by rw[Lh];simp[my]
     have gr:m7++[[r.1,r.2]]=fP (x.2++[r]):=by rw[Lh];simp[fP]
     obtain⟨hζ,hΕ⟩:∃y,y=fP Ω:=⟨_,rfl⟩;rw[<-hΕ] at qf Lg gO sZ FY;have tr:iL x=.aS [aP R 1 [p.1,p.2],aI m7]:=by rw[Lh];show θ.aS [aP R 1 [x.1.1,x.1.2],aI (fP x.2)]=_;rw[ql]
     have BH:(S.map iL)[k]?=some (.aS [aP R 1 [p.1,p.2],aI m7]):=by rw[List.getElem?_map,Sx,<-tr];rfl
     have Li:∀h,(S.map iL)[k]'h=.aS [aP R 1 [p.1,p.2],aI m7]:=λh=>by rw[aW h] at BH;simpa using BH
     have Lj:(S.map iL).length=S.length:=by simp
     obtain⟨BI,Lk⟩:∃y,y=S.map iL:=⟨_,rfl⟩;rw[<-Lk] at BH Li Lj;have Ll:jl S=.sl false 2 BI:=by rw[Lk]
     rw[Ll]
     repeat apply κ
     by_cases Θ:N=[]
     ·have Ζ:r4 q N=.sl true 0 []:=by rw[Θ];rfl
      have aY:rZ N=[]:=by rw[Θ];rfl
      rw[Ζ,aY];refine W.draw (A:=[79,88,91]) Ι mixed λη I=>?_;simp;(repeat (rw[ba];simp[ψ,fX,BF,sZ,FY,Lc,qf,Lg,gO,yS,BH,Li,Lj,l9,F2]));try rw[a']
      refine⟨by omega,by omega,by omega,?_⟩;refine⟨bK (by kernel_rfl),I _ _ ?_⟩;have oo:m7.map (aP R 1)++[aP R 1 [r.1,r.2]]=(m7++[[r.1,r.2]]).map (aP R 1):=by simp
      rw[oo];have p0:c+1=((m7++[[r.1,r.2]]).map (aP R 1)).length:=by simp[F2]
      refine W.rU (σ':=fR++[.dead,.cells 54 2 [.aS [eG [p.1,p.2],.sl false 1 ((m7++[[r.1,r.2]]).map (aP R 1))]]]) (id:=fR.length) (t:=29) (k:=1) (l:=(m7++[[r.1,r.2]]).map (aP R 1)) (by simp) (by rw[fS (Nat.le_refl _),Nat.sub_self];rfl) (by simp) (by simp) (λy yT Ξ h3=>?_) [(1,.Ψ [aO s.ae,aI s.ai,bf s.cells]),(5,.sl true 1 kE),(6,l8),(7,R i),(8,l5 ko),(10,.sl false 2 BI),(11,R c),(13,R k),(12,.ms (fR.length+1) 1 0 1),(14,R j)] (λz Θ=>by
       simp only[List.mem_cons,List.not_mem_nil,or_false] at Θ;rcases Θ with rfl|rfl|rfl|rfl|rfl|rfl|rfl|rfl|rfl|rfl<;>exact .same _) ?_
      ·by_cases vX:y<fR.length
       ·rw[dB vX] at h3 ⊢;exact⟨yT,h3,.inl rfl⟩
       ·rw[fS (by omega)] at h3 ⊢;obtain⟨u,hu⟩:∃u,u=y-fR.length:=⟨_,rfl⟩;rw[<-hu] at h3 ⊢
        match u with
        | 0=>omega
        | 1=>simp at h3;subst h3;exact⟨_,rfl,oB.So (M:=[]) p0⟩
        | u+2=>simp at h3
      rw[gr];have wV:[θ.aS [eG [p.1,p.2],.sl false 1 ((fP (x.2++[r])).map (aP R 1))]]=[((p,x.2++[r]):fQ)].map lq:=rfl;rw[wV];have kg:=gY (i:=j) (by omega);(repeat (first|apply κ|(refine ν λη I=>?_;simp;(repeat (rw[δ];simp[kg]));apply I)));refine W.to (SA (j+1) (by omega) (by omega)) ?_ ?_
      ·rw[u6,Θ,FU (by simp)];simp
      ·rw[u6,Θ,FV (by simp),Ρ,Ll];simp
     ·rw[FV Θ,FU Θ,Ρ];have bC:∀y:Row,(fR++[Row.dead,Row.cells 54 2 (N.map lq),y])[fR.length+1]?=some (Row.cells 54 2 (N.map lq)):=λy=>by simp
      have ra:∀y z:Row,(fR++[Row.dead,Row.cells 54 2 (N.map lq),y]).set (fR.length+1) z=fR++[Row.dead,z,y]:=λy z=>by simp
      refine W.draw (A:=[79,88,91]) Ι mixed λη I=>?_;simp;(repeat (rw[ba];simp[ψ,fX,BF,sZ,FY,Lc,qf,Lg,gO,yS,BH,Li,Lj,l9,F2,bC,ra]));try rw[a']
      refine⟨by omega,by omega,by omega,by omega,?_⟩;refine⟨bK (by kernel_rfl),I _ _ ?_⟩;have oo:m7.map (aP R 1)++[aP R 1 [r.1,r.2]]=(m7++[[r.1,r.2]]).map (aP R 1):=by simp
      rw[oo];have p0:c+1=((m7++[[r.1,r.2]]).map (aP R 1)).length:=by simp[F2]
      refine W.rU (σ':=fR++[.dead,.cells 54 2 (N.map lq++[.aS [eG [p.1,p.2],.sl false 1 ((m7++[[r.1,r.2]]).map (aP R 1))]]),.dead]) (id:=fR.length+2) (t:=29) (k:=1) (l:=(m7++[[r.1,r.2]]).map (aP R 1)) (by simp) (by rw[fS (by omega),Nat.add_sub_cancel_left];rfl) (by simp) (by simp) (λy yT Ξ h3=>?_) [(1,.Ψ [aO s.ae,aI s.ai,bf s.cells]),(5,.sl true 1 kE),(6,l8),(7,R i),(8,l5 ko),(10,.sl false 2 BI),(11,R c),(13,R k),(12,.ms (fR.length+1) (N.length+1) 0 (N.length+1)),(14,R j)] (λz Θ=>by
       simp only[List.mem_cons,List.not_mem_nil,or_false] at Θ;rcases Θ with rfl|rfl|rfl|rfl|rfl|rfl|rfl|rfl|rfl|rfl<;>exact .same _) ?_
      ·by_cases vX:y<fR.length
       ·rw[dB vX] at h3 ⊢;exact⟨yT,h3,.inl rfl⟩
       ·rw[fS (by omega)] at h3 ⊢;obtain⟨u,hu⟩:∃u,u=y-fR.length:=⟨_,rfl⟩;rw[<-hu] at h3 ⊢
        match u with
        | 0=>exact⟨yT,h3,.inl rfl⟩
        | 1=>simp at h3;subst h3;exact⟨_,rfl,oB.So p0⟩
        | 2=>omega
        | u+3=>simp at h3
      rw[gr];have wV:N.map lq++[θ.aS [eG [p.1,p.2],.sl false 1 ((fP (x.2++[r])).map (aP R 1))]]=(N++[((p,x.2++[r]):fQ)]).map lq:=by rw[List.map_append];rfl
      rw[wV];have kg:=gY (i:=j) (by omega);refine W.drop (h:=fR.length+2) (by simp) (by simp) (λy yT Ξ h3=>?_) (show _=fR++[.dead,.cells 54 2 ((N++[((p,x.2++[r]):fQ)]).map lq)] by
       rw[List.take_append];simp[List.take_of_length_le]) [(1,.Ψ [aO s.ae,aI s.ai,bf s.cells]),(5,.sl true 1 kE),(6,l8),(7,R i),(8,l5 ko),(10,.sl false 2 BI),(11,R c),(13,R k),(12,.ms (fR.length+1) (N.length+1) 0 (N.length+1)),(14,R j)] (λz Θ=>?_) ?_
      ·by_cases vX:y<fR.length
       ·rw[dB vX] at h3;exact St _ yT (ck h3)
       ·rw[fS (by omega)] at h3;obtain⟨u,hu⟩:∃u,u=y-fR.length:=⟨_,rfl⟩;rw[<-hu] at h3
        match u with
        | 0=>simp at h3;subst h3;trivial
        | 1=>cases h3;exact λe he a ξ=>(Sq e he a ξ).mono (Nat.zero_le _)
        | u+2=>omega
      ·have hΖ:au 0 (.sl false 2 BI):=by rw[Lk];exact fZ.2 K8
       simp only[List.mem_cons,List.not_mem_nil,or_false] at Θ;rcases Θ with rfl|rfl|rfl|rfl|rfl|rfl|rfl|rfl|rfl|rfl
       ·exact⟨rfl,by simp⟩
       ·exact⟨rfl,Ss.mono (Nat.zero_le _)⟩
       ·exact⟨rfl,Su.mono (by omega)⟩
       ·exact⟨rfl,.z _⟩
       ·exact⟨rfl,by simp⟩
       ·exact⟨rfl,hΖ.mono (Nat.zero_le _)⟩
       ·exact⟨rfl,.z _⟩
       ·exact⟨rfl,.z _⟩
       ·exact⟨rfl,nx.2 (by omega)⟩
       ·exact⟨rfl,.z _⟩
      (repeat (first|apply κ|(refine ν λη I=>?_;simp;(repeat (rw[δ];simp[kg]));apply I)));refine W.to (SA (j+1) (by omega) (by omega)) ?_ ?_
      ·rw[u6,FU (by simp)];simp
      ·rw[u6,FV (by simp),Ρ,Ll];simp
    ·refine ah (by simp[yS]) ?_;have pq:j=Ω.length:=by omega
     refine W.exit rfl ?_;(repeat (first|apply κ|(refine ν λη I=>?_;simp;(repeat (rw[δ];simp[wB]));apply I)));refine W.to (jM (k+1,M++Ω.map λr=>(p,x.2++[r])) ⟨l9,hΔ,by simp;omega⟩ (by show S.length-(k+1)<S.length-k;omega)) ?_ ?_
     ·rw[b8,pq,F1]
     ·rw[b8,pq,F1];simp
   ·refine ah (by simp;omega) ?_;refine W.exit rfl ?_;have F1:M=lp s p (c+1):=by
     rw[<-dW];by_cases l9:k<S.length
     ·rw[hυ _ _ _ _ (λh=>hgo ⟨l9,h⟩)]
     ·rw[List.drop_eq_nil_of_le (by omega)];rfl
    repeat apply κ
    refine W.fL (A:=[]) Ι [(1,.Ψ [aO s.ae,aI s.ai,bf s.cells]),(5,.sl true 1 kE),(6,l8),(7,R i),(8,l5 ko),(10,F0),(11,R c)] (fR++Sv) ?_ (by
     rcases FZ with⟨Ζ,Ε,aY⟩|⟨Ζ,Ε,aY⟩<;>(rw[Ε];(try simp);(repeat (rw[δ];simp));(try simp[])))
    refine W.cut q (Nat.zero_le _) [(1,.Ψ [aO s.ae,aI s.ai,bf s.cells]),(5,.sl true 1 kE),(6,l8),(7,R i),(8,l5 ko),(10,if M=[] then .sl true 0 [] else .sl false 2 (M.map lq)),(11,R c)] (by rw[Ρ];simp) (λid r bW μ=>by
     rw[dB (by omega)] at μ;exact St q r (ck μ)) (λz Θ=>by
     simp only[List.mem_cons,List.not_mem_nil,or_false] at Θ;rcases Θ with rfl|rfl|rfl|rfl|rfl|rfl|rfl
     ·exact .low (by simp)
     ·exact .low (Ss.mono (Nat.zero_le _))
     ·exact .low (by rw[Ρ];exact Su)
     ·exact .low (by simp)
     ·exact .low (by simp)
     ·show ed q _ F0 _;rcases FZ with⟨Ζ,Ε,aY⟩|⟨Ζ,Ε,aY⟩
      ·rw[Ε,if_pos Ζ];exact .low (by simp)
      ·rw[Ε,aY,if_neg Ζ];exact .own (t:=54) (by omega) (by rw[Ρ];simp) (by simp) (λe he a ξ=>(Sq e he a ξ).mono (Nat.zero_le _))
     ·exact .low (by simp)) ?_
    rw[Ρ,List.take_left];refine W.ep [(1,.Ψ [aO s.ae,aI s.ai,bf s.cells]),(5,.sl true 1 kE),(6,l8),(7,R i),(8,l5 ko),(10,jl M),(11,R c)] (λz Θ=>by
     simp only[List.mem_cons,List.not_mem_nil,or_false] at Θ;rcases Θ with rfl|rfl|rfl|rfl|rfl|rfl|rfl
     ·exact .refl _
     ·exact .refl _
     ·exact .refl _
     ·exact .refl _
     ·exact .refl _
     ·show cG (if M=[] then .sl true 0 [] else .sl false 2 (M.map lq)) (jl M);by_cases Θ:M=[]
      ·rw[if_pos Θ,Θ];exact .nil
      ·rw[if_neg Θ];exact hχ
     ·exact .refl _) ?_
    (repeat (first|apply κ|(refine ν λη I=>?_;simp;(repeat (rw[δ];simp[wy]));apply I)));exact W.to (fK (c+1) (by omega) (by omega)) rfl (by rw[F1];simp)
  ·refine ah (by simp[ζ]) ?_;have wq:c=s.cells.length:=by omega
   rw[wq] at e5;rw[<-e5] at mx;refine W.exit rfl ?_;rw[La,FX];have iZ:=gY (i:=i) (by omega)
   repeat apply κ
   refine W.fL (A:=[95]) Ι [(1,.Ψ [aO s.ae,aI s.ai,bf s.cells]),(5,.sl true 1 kE),(6,oG (i+1) (O++S)),(7,R i)] (m6 (i+1) (O++S)) ?_ (by
    have Ζ:oG (i+1) (O++S)=.ms 0 (O++S).length 0 (O++S).length:=rfl
    have Ε:m6 (i+1) (O++S)=[.cells 54 2 ((O++S).map iL)]:=rfl;rw[Ζ,Ε];have hle:S.length<=4294967296:=by omega
    by_cases Θ:i=0
    ·have hΗ:O=[]:=by rw[cI,Θ];rfl
     rw[hΗ,Θ];rw[show oG 0 []=.sl true 0 [] from rfl,show m6 0 []=[] from rfl];(try simp);(repeat (rw[δ];simp[hle]));(try simp[hle])
    ·rw[show oG i O=.ms 0 O.length 0 O.length from by unfold oG;rw[if_neg Θ],show m6 i O=[.cells 54 2 (O.map iL)] from by unfold m6;rw[if_neg Θ]];have SC:O.length<=4294967295:=by omega
     (try simp);(repeat (rw[δ];simp[hle,SC]));(try simp[hle,SC]);omega)
   (repeat (first|apply κ|(refine ν λη I=>?_;simp;(repeat (rw[δ];simp[iZ]));apply I)));refine W.to (Δ (i+1) fp (by omega)) ?_ ?_
   ·rw[mx]
   ·rw[mx,FW];simp
 ·have dL:i=3:=by simp at ζ;omega
  refine W.exit rfl ?_;have iR:i≠0:=by omega
  rw[show oG i O=.ms 0 O.length 0 O.length from by unfold oG;rw[if_neg iR],show m6 i O=[.cells 54 2 (O.map iL)] from by unfold m6;rw[if_neg iR]];refine W.cut 0 (Nat.zero_le _) [(6,jl O)] (by simp) (λid r h=>by omega) (λz Θ=>by
   simp only[List.mem_cons,List.not_mem_nil,or_false] at Θ;subst Θ;exact .own (t:=54) (Nat.zero_le _) rfl (by simp) K8) ?_
  simp only[List.take_zero];have hΘ:jT s 3=O:=by rw[cI,dL]
  rw[hΘ]
  repeat apply κ
  refine W.fL (A:=[]) Ι [(2,jl O),(3,a4 (decide (O.length<=400))),(4,a4 true)] [] ?_ (by
   (try simp);(repeat (rw[δ];simp));(try simp[]);omega)
  refine W.ret ⟨_,rfl,?_,rfl⟩;exact .refl _
theorem SD:∀n<10,h1 n 0=(List.range (n+1)).flatMap (gp n):=by decide +kernel
theorem SE:∀n<10,∀i<n+1,∀c∈gp n i,∀x∈c,x<n:=by decide +kernel
theorem SF:∀n<10,∀i<n+1,(gp n i).length<1000:=by decide +kernel
end Go.TL
namespace Go.TL
open Go.Proofs
theorem SG {α:Type} {p:α->Bool} {a b:List α} (h:∀x∈a,p x=false):(a++b).find? p=b.find? p:=by
 induction a with
 | nil=>rfl
 | cons x a Δ=>rw[List.cons_append,List.find?_cons,h x (by simp)];exact Δ λy Ξ=>h y (by simp[Ξ])
end Go.TL
namespace Go.TL
open Go.Proofs
variable [bm]
theorem F3 (k:List Int) (v:Int) (ab:List Int):∀m:List (List Int×Int),k2 (hJ m k v) ab=if ab=k then some v else k2 m ab
 | []=>by by_cases h:ab=k<;>simp[hJ,k2,h]
 | e::r=>by
  have Δ:=F3 k v ab r;by_cases h:k=e.1
  ·subst h;by_cases cJ:ab=e.1<;>simp[hJ,k2,cJ]
  ·by_cases cJ:ab=e.1
   ·have:¬ab=k:=λΕ=>h (Ε▸cJ);simp[hJ,k2,h,cJ,Ne.symm h]
   ·simp[hJ,k2,h,cJ,Δ]
section
variable {α:Type} (key:α->List Int) (v:α->Int)
theorem SH:∀(l:List α) (m:List (List Int×Int)),(l.foldl (λm e=>mS m (key e) (v e)) (some m)).isSome=true↔(∀x∈l,∀y∈l,key x=key y->v x=v y)/\∀x∈l,∀w,k2 m (key x)=some w->w=v x
 | [],m=>by simp
 | e::l,m=>by
  have off:∀l:List α,(l.foldl (λm e=>mS m (key e) (v e)) none)=none:=λl=>by
   induction l with
   | nil=>rfl
   | cons a l Δ=>exact Δ
  rw[List.foldl_cons];by_cases Ρ:∃w,k2 m (key e)=some w/\w≠v e
  ·obtain⟨w,J,γ⟩:=Ρ;have:mS (some m) (key e) (v e)=none:=by simp[mS,J,γ]
   rw[this,off];simp only[Option.isSome_none,Bool.false_eq_true,false_iff,not_and];intro _ π;exact γ (π e (by simp) w J)
  ·have he:mS (some m) (key e) (v e)=some (hJ m (key e) (v e)):=by
    cases h:k2 m (key e) with
    | none=>simp[mS,h]
    | some w=>
     have:w=v e:=Classical.byContradiction λγ=>Ρ ⟨w,h,γ⟩;simp[mS,h,this]
   rw[he,SH l];constructor
   ·rintro⟨J,γ⟩;have π:∀x∈l,key x=key e->v e=v x:=λx U χ=>γ x U (v e) (by rw[F3,if_pos χ]);refine⟨λx U y Ξ χ=>?_,λx U w hw=>?_⟩
    ·rcases List.mem_cons.1 U with U|U<;>rcases List.mem_cons.1 Ξ with Ξ|Ξ
     ·rw[U,Ξ]
     ·rw[U] at χ ⊢;exact π y Ξ χ.symm
     ·rw[Ξ] at χ ⊢;exact(π x U χ).symm
     ·exact J x U y Ξ χ
    ·rcases List.mem_cons.1 U with rfl|U
     ·exact Classical.byContradiction λγ=>Ρ ⟨w,hw,λe=>γ e⟩
     ·by_cases χ:key x=key e
      ·rw[χ] at hw;have:w=v e:=Classical.byContradiction λγ=>Ρ ⟨w,hw,γ⟩;rw[this];exact π x U χ
      ·exact γ x U w (by rw[F3,if_neg χ];exact hw)
   ·rintro⟨J,γ⟩;refine⟨λx U y Ξ=>J x (by simp[U]) y (by simp[Ξ]),λx U w hw=>?_⟩;rw[F3] at hw;split at hw
    ·rename_i χ;cases hw;exact J e (by simp) x (by simp[U]) χ.symm
    ·exact γ x (by simp[U]) w hw
end
abbrev tn:=(Int×Int)×(Int×Int)
def r5 (s:aL):List tn:=(List.range 3).flatMap λk=>(ff s (cS k) 0).map λr=>(cS k,r)
theorem hΙ {s:aL} (J:s.cells.length=1) (L:List Nat):lX s (eX s) 0 true L=true↔∀x∈r5 s,∀y∈r5 s,(∀k∈L,s.di x.1 x.2 k=s.di y.1 y.2 k)->x.2.2=y.2.2:=by
 have e:rA s (eX s) 0 true L (eX s).length=(r5 s).foldl (λm (e:tn)=>mS m (kC s e.1 e.2 L L.length) e.2.2) (some []):=by
  unfold rA eX r5;rw[List.take_length,List.foldl_filterMap,List.foldl_flatMap];have χ:∀(k:Nat),k<3->∀a:wz,(match g8 s k with|some b=>k3 s b 0 true L a ((b.cells[0]?).getD []).length|none=>a)=((ff s (cS k) 0).map λr=>((cS k,r):tn)).foldl (λm (e:tn)=>mS m (kC s e.1 e.2 L L.length) e.2.2) a:=λk χ a=>by
   have ζ:(fC s (cS k)).cells[0]?=some (ff s (cS k) 0):=by simp[fC,J]
   rw[List.foldl_map];by_cases hm:0<(fC s (cS k)).many (-1)
   ·have:g8 s k=some (fC s (cS k)):=by unfold g8;rw[if_pos ⟨χ,hm⟩]
    rw[this];simp only[ζ,Option.getD_some];unfold k3;simp only[ζ,Option.getD_some,List.take_length];rfl
   ·have:g8 s k=none:=by unfold g8;rw[if_neg (λh=>hm h.2)]
    rw[this];have Θ:ff s (cS k) 0=[]:=by
     rw[KP,J,R0 _ (by omega)] at hm;simp[ig] at hm;exact hm
    rw[Θ];rfl
  have μ:List.range 3=[0,1,2]:=rfl;rw[μ];simp only[List.foldl_cons,List.foldl_nil];have qF:=χ 0 (by decide);have a1:=χ 1 (by decide);have bl:=χ 2 (by decide);simp only[<-qF,<-a1,<-bl];cases g8 s 0<;>cases g8 s 1<;>cases g8 s 2<;>rfl
 have mE:∀x y:tn,kC s x.1 x.2 L L.length=kC s y.1 y.2 L L.length↔∀k∈L,s.di x.1 x.2 k=s.di y.1 y.2 k:=λx y=>by
  unfold kC;rw[List.take_length,List.append_cancel_right_eq,List.map_inj_left]
 unfold lX;rw[e,SH (λe:tn=>kC s e.1 e.2 L L.length) (λe:tn=>e.2.2)];simp only[mE];constructor
 ·intro h x U y Ξ χ;exact h.1 x U y Ξ χ
 ·intro h;exact⟨h,λx _ w hw=>by simp[k2] at hw⟩
def tp (x:fQ) (c:Nat):Int×Int:=x.2.getD c (0,0)
def tq (s:aL) (x y:fQ) (c:Nat) (L:List Nat):Bool:=decide ((tp x c).2≠(tp y c).2)&&L.all λk=>decide (s.di x.1 (tp x c) k=s.di y.1 (tp y c) k)
theorem Lm {s:aL} (h:gX s) (J:s.cells.length=1):jT s 3=(r5 s).map λe=>(e.1,[e.2]):=by
 unfold jT r5;rw[J,List.map_flatMap];congr 1
 funext k
 simp[lp,oF]
def SI (s:aL) (T:List fQ) (L:List Nat):Prop:=∀a (ξ:a<T.length) b (hb:b<a),tq s T[a] (T[b]'(by omega)) 0 L=false
theorem hΚ {s:aL} (h:gX s) (J:s.cells.length=1) (L:List Nat):lX s (eX s) 0 true L=true↔SI s (jT s 3) L:=by
 rw[hΙ J,Lm h J];obtain⟨E,c9⟩:∃E,E=r5 s:=⟨_,rfl⟩;rw[<-c9];have ξ:∀x y:tn,tq s (x.1,[x.2]) (y.1,[y.2]) 0 L=false↔((∀k∈L,s.di x.1 x.2 k=s.di y.1 y.2 k)->x.2.2=y.2.2):=λx y=>by
  rw[Bool.eq_false_iff];simp only[tq,tp,List.getD_cons_zero,ne_eq,Bool.and_eq_true,decide_eq_true_eq,List.all_eq_true];constructor
  ·intro h χ;exact Classical.byContradiction λγ=>h ⟨γ,χ⟩
  ·intro h ⟨γ,χ⟩;exact γ (h χ)
 unfold SI;constructor
 ·intro h a mυ b hb;simp only[List.getElem_map];exact(ξ _ _).2 λχ=>h _ (List.getElem_mem _) _ (List.getElem_mem _) χ
 ·intro h x U y Ξ χ;obtain⟨i,hi,rfl⟩:=List.getElem_of_mem U;obtain⟨j,ε,rfl⟩:=List.getElem_of_mem Ξ;rcases Nat.lt_trichotomy i j with e0|rfl|e0
  ·have:=h j (by simpa using ε) i e0;simp only[List.getElem_map] at this;exact((ξ _ _).1 this λk gM=>(χ k gM).symm).symm
  ·rfl
  ·have:=h i (by simpa using hi) j e0;simp only[List.getElem_map] at this;exact(ξ _ _).1 this χ
theorem hΜ {P:List Nat->Bool} {n m i:Nat} {c:List Nat} (y':n<10) (hm:m<=n) (J:∀j,j<m->∀c∈gp n j,P c=false)
  (ζ:(gp n m)[i]?=some c) (γ:∀k,k<i->∀d,(gp n m)[k]?=some d->P d=false) (π:P c=true):(h1 n 0).find? P=some c:=by
 rw[SD n y'];have e:(List.range (n+1)).flatMap (gp n)=(List.range m).flatMap (gp n)++(gp n m++((List.range' (m+1) (n-m)).flatMap (gp n))):=by
  have:List.range (n+1)=List.range m++(m::List.range' (m+1) (n-m)):=by
   rw[List.range_eq_range',List.range_eq_range'];have Ζ:=List.range'_append (s:=0) (m:=m) (n:=n+1-m) (step:=1);simp at Ζ;rw[show m+(n+1-m)=n+1 by omega] at Ζ;rw[<-Ζ,show n+1-m=(n-m)+1 by omega,List.range'_succ]
  rw[this,List.flatMap_append,List.flatMap_cons]
 have hi:=(b7.1 ζ).1
 have Ε:gp n m=(gp n m).take i++c::(gp n m).drop (i+1):=by
  have aA:(gp n m)[i]=c:=by rw[aW hi] at ζ;simpa using ζ
  rw[<-aA,<-List.drop_eq_getElem_cons hi,List.take_append_drop]
 rw[e,SG,Ε,List.append_assoc,SG,List.cons_append,List.find?_cons]
 ·rw[π]
 ·intro x U;obtain⟨k,χ,rfl⟩:=List.getElem_of_mem U;rw[List.getElem_take];have dW:k<(gp n m).length:=by simp at χ;omega
  exact γ k (by simp at χ;omega) _ (aW dW)
 ·intro x U;obtain⟨j,ε,U⟩:=List.mem_flatMap.1 U;exact J j (by simpa using ε) x U
theorem hΝ {P:List Nat->Bool} {n:Nat} (y':n<10) (J:∀j,j<n+1->∀c∈gp n j,P c=false):(h1 n 0).find? P=none:=by
 rw[SD n y',List.find?_eq_none];intro x U;obtain⟨j,ε,U⟩:=List.mem_flatMap.1 U;rw[J j (by simpa using ε) x U];simp
end Go.TL
