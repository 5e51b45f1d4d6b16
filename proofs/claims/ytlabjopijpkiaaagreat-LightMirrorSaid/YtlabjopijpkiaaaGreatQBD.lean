import Derived.Test.YtlabjopijpkiaaaGreatQBC
set_option maxHeartbeats 16000000
set_option maxRecDepth 20000
set_option linter.unusedSectionVars false
set_option linter.unusedSimpArgs false
set_option linter.unusedVariables false
namespace Go.TL
open Go.Proofs
section
variable [bh]
theorem ZJ (l:List Int):aC Tryz.prog 22 [bC δ 1 l] [] (λr s=>r=.ae 0 1 0 0/\s=[bK ⟨l,1⟩]) (λ_ _=>False):=by
 refine aC.body Μ Tryz.func22 rfl rfl Tryz.ntmps22 rfl rfl (by simp) ?_
 repeat apply μ
 refine ξ λθ I=>?_;simp;(repeat (rw[ε];simp));apply I
 repeat apply μ
 refine dy (A:=[5]) Μ λθ I=>?_;simp;(repeat (rw[ε];simp));apply I;(repeat (first|apply μ|(refine ξ λθ I=>?_;simp;(repeat (rw[ε];simp));apply I)));exact W.ret ⟨_,rfl,rfl,rfl⟩
end
theorem kO.bR {l:List gb} (h:kO l) {i:Nat} (hi:i<l.length):0<=l[i].bR/\l[i].bR<=63:=by
 obtain⟨_,a,b⟩:=h.each _ (List.getElem_mem hi);exact⟨by omega,b⟩
theorem ZK (l:List Int) (Β:l.length<2 ^ 63):@W nN Tryz.prog 0 256 [.code (Tryz.f9.body.getD .skip)] (entry 0 [bC δ 1 l]) [] (λj env _=>(∃k,j=.code .ret::k)/\aW env 2=bJ true) (λ_ _ _=>False):=by
 letI:bh:=nN;show W Tryz.prog 0 256 [.code _] _ _ _ _;refine W.seq ?_
 repeat apply μ
 refine ξ λθ I=>?_;simp;(repeat (rw[ε];simp));apply I;(repeat apply μ);refine ξ λθ I=>?_;simp;(repeat (rw[ε];simp));refine aC.call (first:=[]) (captured:=[]) ((ZJ l).mono (λa s ⟨J,R⟩=>?_) (λ_ _ h=>h.elim));subst J;subst R;simp;(repeat (rw[ε];simp));apply I;have NP:(⟨l,1⟩:cm).a5.length<2 ^ 63:=Β;generalize (⟨l,1⟩:cm)=d0 at NP
 repeat apply μ
 refine dy (A:=[4]) Μ λθ I=>?_;simp;(repeat (rw[ε];simp));refine sK.c (Zn d0 NP 6 1 (by decide) (by decide) (by decide)) 0 rfl (aE.refl _) (by simp) (by
  rintro r ⟨s,rfl,_⟩;simp[gH,ζ.cells]) ?_
 rintro r d1 ⟨s,rfl,ν,_⟩ jc;simp;(repeat (rw[ε];simp));apply I;clear I θ;refine W.lu (σ0:=[bK d1]) (Nat.zero_le _) (λr ι=>by simp at ι;subst ι;exact sJ d1 _) (λa κ=>by simp[ζ.cells] at κ;rcases κ with rfl|rfl|rfl<;>simp[gH,ζ.cells]) [(0,bC δ 1 l),(3,.ae 0 1 0 0),(4,.Ω [aJ s.Τ,aL s.ak,bx s.cells])] (by simp[iZ,ζ.cells,gH]) ?_;have qv:=ν.small;have ZL:=ν.err;have Ζ:=ZH ν.Τ;have dν:=ν.Τ.hi;have dξ:=ν.Τ.lo;have Η:=ri d1 (by omega) 63;obtain⟨wm,n9⟩:=p' d1 63 (by decide) (by decide);obtain⟨x,U⟩:∃x,gM d1 63=x:=⟨_,rfl⟩;obtain⟨d2,kN⟩:∃x,d1.after 63=x:=⟨_,rfl⟩;rw[U,kN] at Η;rw[U] at wm n9;obtain⟨fR,⟨fq,BR⟩,BS⟩:=NN ⟨wm,n9⟩;have v1:=Dd ⟨wm,n9⟩;have v2:=Dd ⟨fq,BR⟩;obtain⟨n,Ι⟩:∃n,fA x=n:=⟨_,rfl⟩;have c1:=yr x;have c2:=yr n;rw[v1,Ι] at c1;rw[Ι] at fR fq BR BS v2;rw[v2,fR] at c2;simp only[if_true] at c1 c2;(repeat apply μ);refine ξ λθ I=>?_;simp;(repeat (rw[ε];simp));refine ej.c (Η) 0 rfl (aE.refl _) (by simp) (by simp) ?_;simp;(repeat (rw[ε];simp));apply I;(repeat apply μ);refine ξ λθ I=>?_;simp;(repeat (rw[ε];simp));refine an.c (c1) (aE.refl _) (by simp) (by simp) ?_;simp;(repeat (rw[ε];simp));apply I;(repeat apply μ);refine ξ λθ I=>?_;simp;(repeat (rw[ε];simp));refine an.c (c2) (aE.refl _) (by simp) (by simp) ?_;simp;(repeat (rw[ε];simp));apply I;have mA:¬n<0:=by omega
 have ZM:¬63<n:=by omega
 (repeat apply μ);refine ξ λθ I=>?_;simp;(repeat (rw[ε];simp[mA,ZM]));apply I;refine au (by simp) ?_;(repeat (first|apply μ|(refine ξ λθ I=>?_;simp;(repeat (rw[ε];simp));apply I)));have Ci:∀k<7,(2:Int) ^ k<=64/\1<=(2:Int) ^ k/\(k<6->(2:Int) ^ k<=32)/\IntKind.i64.wrap (2*2 ^ k)=2 ^ (k+1):=by decide
 have NQ:∀k,k<7->-7<cnt x n k/\cnt x n k<7:=by
  intro k;have:-(k:Int)<=cnt x n k/\cnt x n k<=k:=by
   induction k with
   | zero=>simp[cnt]
   | succ k Γ=>
    unfold cnt;split<;>split<;>omega
  omega
 refine W.to (env':=[(3,.ae 0 1 0 0),(4,.Ω [aJ s.Τ,aL s.ak,bx s.cells]),(5,δ x),(6,δ n),(10,δ 0),(11,δ 1)]) (σ':=[bK d2]) ?_ rfl (by simp);refine W.iter (λk:Nat=>k<=6) (λk=>[(3,.ae 0 1 0 0),(4,.Ω [aJ s.Τ,aL s.ak,bx s.cells]),(5,δ x),(6,δ n),(10,δ (cnt x n k)),(11,δ (2 ^ k))]) (λ_=>[bK d2]) (λk=>6-k) 0 (by decide) rfl (by simp[cnt]) (λk Α Γ=>?_);obtain⟨dU,p2,p3,p4⟩:=Ci k (by omega);have er:=NQ k (by omega);(repeat (first|apply μ|(refine ξ λθ I=>?_;simp;(repeat (rw[ε];simp));apply I)));refine W.dR rfl (λη=>?_) (λη=>?_)
 ·have ra:k<6:=by
   apply Classical.byContradiction;intro h;have:k=6:=by omega
   subst this;simp at η
  have fb:=NQ (k+1) (by omega)
  have dJ:cnt x n (k+1)=cnt x n k+(if ff .i64 x (2 ^ k)≠0 then 1 else 0)-(if ff .i64 n (2 ^ k)≠0 then 1 else 0):=rfl
  have w1:IntKind.i64.wrap (cnt x n k+1)=cnt x n k+1:=IntWalk.i64_in _ (by omega)
  have w2:IntKind.i64.wrap (cnt x n k-1)=cnt x n k-1:=IntWalk.i64_in _ (by omega)
  have w3:IntKind.i64.wrap (cnt x n k)=cnt x n k:=IntWalk.i64_in _ (by omega);(repeat (first|apply μ|(refine ξ λθ I=>?_;simp;(repeat (rw[ε];simp));apply I)));by_cases bs:ff .i64 x (2 ^ k)=0
  ·refine au (by simp[bs]) ?_;(repeat (first|apply μ|(refine ξ λθ I=>?_;simp;(repeat (rw[ε];simp));apply I)));by_cases cF:ff .i64 n (2 ^ k)=0
   ·refine au (by simp[cF]) ?_;(repeat (first|apply μ|(refine ξ λθ I=>?_;simp;(repeat (rw[ε];simp[p4]));apply I)));exact W.to (Γ (k+1) ra (by omega)) rfl (by rw[dJ];simp[bs,cF,p4])
   ·refine ax (by simp[cF]) ?_;(repeat (first|apply μ|(refine ξ λθ I=>?_;simp;(repeat (rw[ε];simp[w2]));apply I)));(repeat (first|apply μ|(refine ξ λθ I=>?_;simp;(repeat (rw[ε];simp[p4]));apply I)));exact W.to (Γ (k+1) ra (by omega)) rfl (by rw[dJ];simp[bs,cF,p4])
  ·refine ax (by simp[bs]) ?_;(repeat (first|apply μ|(refine ξ λθ I=>?_;simp;(repeat (rw[ε];simp[w1]));apply I)));by_cases cF:ff .i64 n (2 ^ k)=0
   ·refine au (by simp[cF]) ?_;(repeat (first|apply μ|(refine ξ λθ I=>?_;simp;(repeat (rw[ε];simp[p4]));apply I)));exact W.to (Γ (k+1) ra (by omega)) rfl (by rw[dJ];simp[bs,cF,p4])
   ·refine ax (by simp[cF]) ?_;(repeat (first|apply μ|(refine ξ λθ I=>?_;simp;(repeat (rw[ε];simp[w3]));apply I)));(repeat (first|apply μ|(refine ξ λθ I=>?_;simp;(repeat (rw[ε];simp[p4]));apply I)));exact W.to (Γ (k+1) ra (by omega)) rfl (by rw[dJ];simp[bs,cF,p4,w3])
 have ra:k=6:=by
  apply Classical.byContradiction;intro h;have:=p3 (by omega);simp at η;omega
 subst ra;refine W.exit rfl ?_;rw[BS];have c3:=Tv s qv;rw[ZL] at c3;simp only[if_true] at c3;obtain⟨T,ZN⟩:∃T,T=twins s.Τ:=⟨_,rfl⟩;rw[<-ZN] at Ζ c3;have dο:=Ζ.many;(repeat apply μ);refine ξ λθ I=>?_;simp;(repeat (rw[ε];simp));refine an.c (c3) (aE.refl _) (by simp) (by simp) ?_;simp;(repeat (rw[ε];simp));apply I;have ZO:¬(s.Τ.length<T.length):=by omega
 (repeat apply μ);refine ξ λθ I=>?_;simp;(repeat (rw[ε];simp[ZO]));apply I;refine au (by simp) ?_;(repeat (first|apply μ|(refine ξ λθ I=>?_;simp;(repeat (rw[ε];simp));apply I)));refine W.to (env':=[(3,.ae 0 1 0 0),(4,.Ω [aJ s.Τ,aL s.ak,bx s.cells]),(12,aL T),(14,δ 0)]) (σ':=[bK d2]) ?_ rfl (by simp);refine W.iter (λi:Nat=>i<=T.length) (λi=>[(3,.ae 0 1 0 0),(4,.Ω [aJ s.Τ,aL s.ak,bx s.cells]),(12,aL T),(14,δ i)]) (λ_=>[bK d2]) (λi=>T.length-i) 0 (Nat.zero_le _) rfl (by simp) (λi hi Γ=>?_);(repeat (first|apply μ|(refine ξ λθ I=>?_;simp;(repeat (rw[ε];simp));apply I)));refine W.dR rfl (λη=>?_) (λη=>?_)
 ·have hi:i<T.length:=by simpa using η
  have hw:=CZ hi (by omega)
  have sL:=aX hi;obtain⟨p,q,χ,Ψ,NR,oU,Gz⟩:=Ζ.each i _ sL;rw[NR] at sL;have zx:∀h,T[i]'h=[(p:Int),(q:Int)]:=λh=>NR;have aY:=MQ T [(q:Int),(p:Int)] (by omega) (λy ad=>by
   obtain⟨j,γ,rfl⟩:=List.getElem_of_mem ad;obtain⟨_,_,_,_,e,_⟩:=Ζ.each j _ (aX γ);rw[e];simp)
  rw[List.contains_iff_mem.2 Gz] at aY;have NS:¬(p:Int)<0:=by omega
  have uv:¬(q:Int)<0:=by omega
  have NT:¬s.Τ.length<=p:=by omega
  have NU:¬s.Τ.length<=q:=by omega
  have base:∀ef∈[(3,ζ.ae 0 1 0 0)],True:=λ_ _=>trivial
  repeat apply μ
  refine W.zg (A:=[]) Μ mixed [(182,bJ false),(3,.ae 0 1 0 0),(4,.Ω [aJ s.Τ,aL s.ak,bx s.cells]),(12,aL T),(14,δ i)] [bK d2] ?_ (by
   by_cases Ν:i=0
   ·subst Ν;simp;(repeat (rw[cz];simp[sL,zx,NS,uv,NT,NU]));(try rw[cy]);refine⟨hi,?_⟩;refine iI (an.p aY (.cons (.refl _) (.cons .ex .nil)) (by simp) (by simp)) ?_;simp;(repeat (rw[cz];simp));(try rw[cy]);refine⟨cZ (by kernel_rfl),?_⟩;simp
   ·obtain⟨j,γ⟩:∃j,i=j+1:=⟨i-1,by omega⟩;have dE:T[j]?=some (T[j]'(by omega)):=aX (by omega);obtain⟨ef,hn,hl,bV,NV,ts,dπ⟩:=Ζ.each j _ dE;rw[NV] at dE;have ZP:∀h,T[j]'h=[(ef:Int),(hn:Int)]:=λh=>NV;have ZQ:=Ζ.C1 j _ _ dE (by rw[<-γ];exact sL);have ZR:¬(p:Int)<=ef:=by simpa using ZQ
    have jm:(0:Int)<i:=by omega
    have Fu:0<i:=by omega
    have jl:IntKind.i64.wrap ((i:Int)-1)=j:=by rw[IntWalk.i64_in _ (by omega)];omega
    simp;(repeat (rw[cz];simp[sL,zx,NS,uv,NT,NU]));(try rw[cy]);refine⟨hi,?_⟩;refine iI (an.p aY (.cons (.refl _) (.cons .ex .nil)) (by simp) (by simp)) ?_;simp;(repeat (rw[cz];simp[jm,Fu,jl,dE,ZP,sL,zx,ZR]));(try rw[cy]);refine⟨hi,by omega,?_⟩;refine⟨cZ (by kernel_rfl),?_⟩;simp)
  refine au rfl ?_
  repeat apply μ
  have NW:=aX χ
  have NX:=aX Ψ;obtain⟨NY,NZ⟩:∃g,g=s.Τ[p]:=⟨_,rfl⟩;obtain⟨N0,N1⟩:∃g,g=s.Τ[q]:=⟨_,rfl⟩;have bF:=ν.Τ.bR χ;rw[<-NZ] at NW oU bF;rw[<-N1] at NX oU;have ZS:∀h,s.Τ[p]'h=NY:=λh=>NZ.symm;have ZT:∀h,s.Τ[q]'h=N0:=λh=>N1.symm;have uG:=yr NY.bR;rw[Dd bF,oU] at uG;simp only[if_true] at uG;refine W.zg (A:=[]) Μ mixed [(15,δ N0.bR),(16,δ 0),(3,.ae 0 1 0 0),(4,.Ω [aJ s.Τ,aL s.ak,bx s.cells]),(12,aL T),(14,δ i)] [bK d2] ?_ (by
   simp;(repeat (rw[cz];simp[sL,zx,NW,ZS]));(try rw[cy]);refine⟨hi,χ,?_⟩;refine iI (an.p uG (aE.refl _) (by simp) (by simp)) ?_;simp;(repeat (rw[cz];simp));(try rw[cy]);refine⟨cZ (by kernel_rfl),?_⟩;simp)
  repeat apply μ
  refine W.zg (A:=[]) Μ mixed [(214,bJ false),(3,.ae 0 1 0 0),(4,.Ω [aJ s.Τ,aL s.ak,bx s.cells]),(12,aL T),(14,δ i)] [bK d2] ?_ (by
   simp;(repeat (rw[cz];simp[sL,zx,NX,ZT]));(try rw[cy]);refine⟨hi,Ψ,?_⟩;refine⟨cZ (by kernel_rfl),?_⟩;simp)
  refine au rfl ?_;(repeat (first|apply μ|(refine ξ λθ I=>?_;simp;(repeat (rw[ε];simp[hw]));apply I)));exact W.to (Γ (i+1) hi (by omega)) rfl (by simp[hw])
 have hi:i=T.length:=by simp at η;omega
 subst hi;refine W.exit rfl ?_;(repeat (first|apply μ|(refine ξ λθ I=>?_;simp;(repeat (rw[ε];simp));apply I)));refine W.iter (λi:Nat=>i<=s.Τ.length) (λi=>[(3,.ae 0 1 0 0),(4,.Ω [aJ s.Τ,aL s.ak,bx s.cells]),(12,aL T),(17,δ i)]) (λ_=>[bK d2]) (λi=>s.Τ.length-i) 0 (Nat.zero_le _) rfl (by simp) (λi hi Γ=>?_);(repeat (first|apply μ|(refine ξ λθ I=>?_;simp;(repeat (rw[ε];simp));apply I)));refine W.dR rfl (λη=>?_) (λη=>?_)
 ·have hi:i<s.Τ.length:=by simpa using η
  have hw:=CZ hi (by omega)
  have N2:=aX hi;obtain⟨g,Ο⟩:∃g,g=s.Τ[i]:=⟨_,rfl⟩;have N3:=ν.Τ.bR hi;rw[<-Ο] at N2 N3;have ZU:∀h,s.Τ[i]'h=g:=λh=>Ο.symm;have uG:=yr g.bR;rw[Dd N3] at uG;simp only[if_true] at uG;(repeat apply μ);refine ξ λθ I=>?_;simp;(repeat (rw[ε];simp[N2,ZU]));refine⟨hi,?_⟩;refine an.c (uG) (aE.refl _) (by simp) (by simp) ?_;simp;(repeat (rw[ε];simp));apply I;(repeat (first|apply μ|(refine ξ λθ I=>?_;simp;(repeat (rw[ε];simp));apply I)));refine au (by simp) ?_;(repeat (first|apply μ|(refine ξ λθ I=>?_;simp;(repeat (rw[ε];simp));apply I)));refine W.iter (λj:Nat=>j<=s.Τ.length) (λj=>[(3,.ae 0 1 0 0),(4,.Ω [aJ s.Τ,aL s.ak,bx s.cells]),(12,aL T),(17,δ i),(18,δ (fA g.bR)),(20,δ j)]) (λ_=>[bK d2]) (λj=>s.Τ.length-j) 0 (Nat.zero_le _) rfl (by simp) (λj γ ZV=>?_);(repeat (first|apply μ|(refine ξ λθ I=>?_;simp;(repeat (rw[ε];simp));apply I)));refine W.dR rfl (λa6=>?_) (λa6=>?_)
  ·have γ:j<s.Τ.length:=by simpa using a6
   have mX:=CZ γ (by omega)
   have wE:=aX γ;obtain⟨N4,HD⟩:∃g,g=s.Τ[j]:=⟨_,rfl⟩;have jR:=Ζ.mem i j hi γ;rw[<-HD] at wE;rw[<-HD,<-Ο] at jR;have C8:∀h,s.Τ[j]'h=N4:=λh=>HD.symm;have aY:=MQ T [(i:Int),(j:Int)] (by omega) (λy ad=>by
    obtain⟨j,γ,rfl⟩:=List.getElem_of_mem ad;obtain⟨_,_,_,_,e,_⟩:=Ζ.each j _ (aX γ);rw[e];simp)
   have ZW:T.contains [(i:Int),(j:Int)]=decide (N4.bR=fA g.bR):=by
    rw[Bool.eq_iff_iff,List.contains_iff_mem,jR];simp
   rw[ZW] at aY
   repeat apply μ
   refine W.zg (A:=[]) Μ mixed [(254,bJ false),(3,.ae 0 1 0 0),(4,.Ω [aJ s.Τ,aL s.ak,bx s.cells]),(12,aL T),(17,δ i),(18,δ (fA g.bR)),(20,δ j)] [bK d2] ?_ (by
    simp;(repeat (rw[cz];simp[wE,C8]));(try rw[cy]);refine⟨γ,?_⟩;refine iI (an.p aY (.cons (.refl _) (.cons .ex .nil)) (by simp) (by simp)) ?_;simp;(repeat (rw[cz];simp));(try rw[cy]);refine⟨cZ (by kernel_rfl),?_⟩;simp)
   refine au rfl ?_;(repeat (first|apply μ|(refine ξ λθ I=>?_;simp;(repeat (rw[ε];simp[mX]));apply I)));exact W.to (ZV (j+1) γ (by omega)) rfl (by simp[mX])
  ·have γ:j=s.Τ.length:=by simp at a6;omega
   subst γ;refine W.exit rfl ?_;(repeat (first|apply μ|(refine ξ λθ I=>?_;simp;(repeat (rw[ε];simp[hw]));apply I)));exact W.to (Γ (i+1) hi (by omega)) rfl (by simp[hw])
 have hi:i=s.Τ.length:=by simp at η;omega
 subst hi;refine W.exit rfl ?_;(repeat apply μ);refine ξ λθ I=>?_;simp;(repeat (rw[ε];simp));refine an.c (Yb) (aE.refl _) (by simp) (by simp) ?_;simp;(repeat (rw[ε];simp));apply I;exact W.stop ⟨⟨_,rfl⟩,rfl⟩
end Go.TL
