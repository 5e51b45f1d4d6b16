import Derived.Test.YtlabjopijpkiaaaGreatEAL
import Derived.Test.YtlabjopijpkiaaaGreatEAS
set_option maxHeartbeats 16000000
set_option maxRecDepth 20000
set_option linter.unusedSectionVars false
set_option linter.unusedSimpArgs false
set_option linter.unusedVariables false
namespace Go.TL
open Go.Proofs
variable [bq]
theorem Rp (d:Array (Int×Int)) (n lo hi first:Nat) (Θ:d.size=n) (ξ:n<2 ^ 40) (fι:first+hi<=n) (hB:lo<=n) (Ο:θ) (cmp:Int×Int->Int×Int->Int) (a9:aG 0 Ο) (Ρ:∀x y,ef Tryz.prog Ο [aL x,aL y] (I (cmp x y))) :
  af Tryz.prog 225 [.ms 0 n 0 n,I lo,I hi,I first,Ο] [.cells 29 1 ((d).toList.map aL)] (λr s=>r=.bj []/\s=[.cells 29 1 ((Go.Sort.siftDown (Ξ cmp) hi first lo d).toList.map aL)]) (λ_ _=>False):=by
 refine af.body Φ Tryz.func225 rfl rfl Tryz.ntmps225 rfl rfl η ?_;refine Η ?_;obtain⟨R,fF⟩:=bG (Go.Sort.siftDown (Ξ cmp) hi first lo d);rw[fF];refine W.iter (λq:Nat×Array (Int×Int)=>q.2.size=n/\q.1<=n/\Go.Sort.siftDown (Ξ cmp) hi first q.1 q.2=R) (λq=>[(0,.ms 0 n 0 n),(2,I hi),(3,I first),(4,Ο),(10,I (q.1:Nat))]) (λq=>[.cells 29 1 ((q.2).toList.map aL)]) (λq=>hi-q.1) (lo,d) ⟨Θ,hB,fF⟩ rfl η (λq Χ Α=>?_);obtain⟨r,e⟩:=q;obtain⟨cw,μ,aM⟩:=Χ;simp only at cw μ aM;obtain⟨c,ε⟩:=aF (2*r+1);obtain⟨c1,lE⟩:=aF (c+1);obtain⟨aD,hy⟩:=aF (first+r);obtain⟨xK,xL⟩:=aF (first+c);obtain⟨fd,vD⟩:=aF (first+(c+1));have w1:IntKind.i64.wrap (2*(r:Int))=2*(r:Int):=by rw[IntWalk.i64_in _ J]
 have w2:IntKind.i64.wrap (2*(r:Int)+1)=(c:Int):=by rw[IntWalk.i64_in _ J];omega
 have w3:IntKind.i64.wrap ((c:Int)+1)=(c1:Int):=by rw[IntWalk.i64_in _ J];omega
 have w4:IntKind.i64.wrap ((first:Int)+(c:Int))=(xK:Int):=by rw[IntWalk.i64_in _ J];omega
 have kR:IntKind.i64.wrap ((xK:Int)+1)=(fd:Int):=by rw[IntWalk.i64_in _ J];omega
 have iI:IntKind.i64.wrap ((first:Int)+(r:Int))=(aD:Int):=by rw[IntWalk.i64_in _ J];omega
 refine W.to (σ':=[.cells 29 1 ((e).toList.map aL)]) (env':=[(0,.ms 0 n 0 n),(2,I hi),(3,I first),(4,Ο),(10,I (r:Nat))]) ?_ rfl η;refine aE (ς w1 w2) ?_;by_cases Cg:hi<=c
 ·refine aC (by simp[Cg]) ?_;refine W.exit rfl ?_;exact W.nil ⟨_,rfl,rfl,by rw[<-aM,Go.Sort.siftDown,dif_pos J]⟩
 refine ay (by simp[Cg]) ?_;obtain⟨B,dV⟩:=aF ((decide (c+1<hi)&&Ξ cmp e[first+c]! e[first+(c+1)]!):Bool);obtain⟨k,ψ⟩:∃k,k=if B=true then c+1 else c:=⟨_,rfl⟩
 have fκ:k<hi:=by
  rw[ψ];split
  ·rename_i h;rw[h] at dV;have:=dV.symm;simp at this;omega
  ·omega
 have un:=Rl (Ξ cmp) hi first r e (k:=k) ε J (by rw[<-dV];exact ψ)
 rw[un] at aM
 repeat apply ae
 refine W.yP (A:=[]) Φ mixed [(40,ba B),(0,.ms 0 n 0 n),(2,I hi),(3,I first),(4,Ο),(10,I r),(11,I c)] ?_ (by
  by_cases lR:c1<hi
  ·have aH:xK<n:=J
   have aI:fd<n:=J;obtain⟨L,x,y,ad,δ,Μ,π,⟨U,γ⟩,⟨ο,Ι⟩,-,-⟩:=eQ aL cw aH aI;have xM:B=Ξ cmp x y:=by rw[dV,<-δ,<-Μ,xL,vD];simp[<-lE,lR]
   have KE:(c1:Int)<hi:=J;rw[ad];clear δ Μ;simp;(repeat (rw[cY];simp[w3,w4,kR,lR,KE,π,U,γ,ο,Ι,aH,aI]));(try rw[cX]);refine eD (Ρ x y) ?_;simp;(repeat (rw[cY];simp));(try rw[cX]);refine⟨hX (by kernel_rfl),?_⟩;simp[xM,Ξ]
  ·have xM:B=false:=by rw[dV];simp[<-lE,lR]
   simp;(repeat (rw[cY];simp[w3,lR]));(try rw[cX]);refine⟨hX (by kernel_rfl),?_⟩;simp[xM])
 have fμ:r<k:=by rw[ψ];split<;>omega
 repeat apply ae
 refine W.upto [(0,.ms 0 n 0 n),(2,I hi),(3,I first),(4,Ο),(10,I (r:Nat)),(11,I (k:Nat))] [.cells 29 1 ((e).toList.map aL)] ?_ ?_
 ·cases B with
  | true=>
   refine aC rfl ?_;refine ov w3 ?_;exact W.stop ⟨rfl,rfl,by simp[ψ,lE]⟩
  | false=>
   refine ay rfl ?_;refine W.skip ?_;exact W.stop ⟨rfl,rfl,by simp[ψ]⟩
 obtain⟨fk,KF⟩:=aF (first+k);rw[<-hy,<-KF] at aM;have iJ:IntKind.i64.wrap ((first:Int)+(k:Int))=(fk:Int):=by rw[IntWalk.i64_in _ J];omega
 have aH:aD<n:=J
 have aI:fk<n:=J;obtain⟨L,x,y,ad,δ,Μ,π,⟨U,γ⟩,⟨ο,Ι⟩,cx,eR,ax⟩:=eQ aL cw aH aI;rw[δ,Μ] at aM;refine W.to (σ':=[.cells 29 1 L]) (env':=[(0,.ms 0 n 0 n),(2,I hi),(3,I first),(4,Ο),(10,I (r:Nat)),(11,I (k:Nat))]) ?_ (by rw[ad]) η;clear δ Μ
 repeat apply ae
 refine W.draw (A:=[]) Φ mixed λΚ κ=>gi (ς iI (ς iJ (ς π (ς U (ς γ (ς ο (ς Ι (ς aH aI)))))))) ?_;refine eD (Ρ x y) ?_;simp;(repeat (rw[cY];simp));try rw[cX]
 refine en (κ _ _ ?_);by_cases hm:cmp x y<0
 ·refine ay (by simp[hm]) ?_
  repeat apply ae
  refine dH (ς iI (ς iJ (ς π (ς U (ς γ (ς ο (ς Ι (ς ax (ς aH aI))))))))) ?_;refine Η ?_;refine W.to (Α (k,Go.Sort.swp e aD fk) ⟨swp_size cw aD fk,bi,?_⟩ bi) (by rw[cx]) η;rw[<-aM];simp[hm,Ξ]
 ·refine aC (by simp[hm]) ?_;refine Η ?_;exact W.ret ⟨_,rfl,rfl,by rw[<-ad,<-aM];simp[hm,Ξ]⟩
theorem fν (d:Array (Int×Int)) (n a b:Nat) (Θ:d.size=n) (ξ:n<2 ^ 40) (e':a<b) (hb:b<=n) (Ο:θ) (cmp:Int×Int->Int×Int->Int) (a9:aG 0 Ο) (Ρ:∀x y,ef Tryz.prog Ο [aL x,aL y] (I (cmp x y))) :
  af Tryz.prog 184 [.ms 0 n 0 n,I a,I b,Ο] [.cells 29 1 ((d).toList.map aL)] (λr s=>r=.bj []/\s=[.cells 29 1 ((Go.Sort.heapSort (Ξ cmp) d a b).toList.map aL)]) (λ_ _=>False):=by
 refine af.body Φ Tryz.func184 rfl rfl Tryz.ntmps184 rfl rfl η ?_;obtain⟨m,hm⟩:=bG (b-a);have w1:IntKind.i64.wrap ((b:Int)-(a:Int))=(m:Int):=by rw[IntWalk.i64_in _ J];omega
 have w2:IntKind.i64.wrap ((m:Int)-1)=((m-1:Nat):Int):=ir J J
 have w3:IntKind.i64.wrap (((m-1:Nat):Int) / 2)=(((m-1) / 2:Nat):Int):=vN (m:=2) J;obtain⟨d',hZ⟩:=aF (m-1);obtain⟨dG,jw⟩:=aF ((m-1) / 2);rw[<-jw,<-hZ] at w3;rw[<-hZ] at w2;have wp:∀k:Nat,k<=n->IntKind.i64.wrap ((k:Int)-1)=(k:Int)-1:=λk ψ=>by rw[IntWalk.i64_in _ J]
 obtain⟨iK,rz⟩:=bG (Go.Sort.heapBuild (Ξ cmp) m a (dG+1) d);have cF:Go.Sort.heapSort (Ξ cmp) d a b=Go.Sort.heapPop (Ξ cmp) a m iK:=by unfold Go.Sort.heapSort;rw[hm,<-jw,rz]
 refine aE (ς w1 (ς w2 w3)) ?_;refine W.kQ [(0,.ms 0 n 0 n),(3,Ο),(8,I a),(9,I 0),(10,I m)] [.cells 29 1 ((iK).toList.map aL)] ?_ ?_
 ·refine W.iter (λq:Nat×Array (Int×Int)=>q.2.size=n/\q.1<=dG+1/\Go.Sort.heapBuild (Ξ cmp) m a q.1 q.2=iK) (λq=>[(0,.ms 0 n 0 n),(3,Ο),(8,I a),(9,I 0),(10,I m),(11,.z (.int .i64 ((q.1:Int)-1)))]) (λq=>[.cells 29 1 ((q.2).toList.map aL)]) (λq=>q.1) (dG+1,d) ⟨Θ,Nat.le_refl _,rz⟩ rfl η (λq Χ Α=>?_);obtain⟨k,e⟩:=q;obtain⟨cw,ψ,aM⟩:=Χ;simp only at cw ψ aM;cases k with
  | zero=>
   refine Η ?_;refine ay rfl ?_;refine W.exit rfl ?_;exact W.stop ⟨rfl,by rw[<-aM];rfl,η⟩
  | succ k=>
   have kj:(0:Int)<=(k:Int):=J;refine W.to (σ':=[.cells 29 1 ((e).toList.map aL)]) (env':=[(0,.ms 0 n 0 n),(3,Ο),(8,I a),(9,I 0),(10,I m),(11,.z (.int .i64 ((k:Int))))]) ?_ rfl η;refine aE kj ?_;refine aC η ?_;refine bc λΚ κ=>?_;refine af.call (first:=[]) (captured:=[]) ((Rp e n k m a cw ξ J J Ο cmp a9 Ρ).mono (λr s ⟨bI,bw⟩=>?_) (λ_ _ h=>h.elim));subst bI;subst bw;simp;(repeat (rw[ah];simp));apply κ;refine aE (wp k J) ?_;exact W.to (Α (k,Go.Sort.siftDown (Ξ cmp) m a k e) ⟨Cf cw,bi,aM⟩ η) rfl (by simp[wp k J])
 obtain⟨g0,n0⟩:=bG (Go.Sort.heapPop (Ξ cmp) a m iK);have KG:iK.size=n:=by rw[<-rz];exact Kz Θ
 rw[n0] at cF;refine aE w2 ?_;refine W.iter (λq:Nat×Array (Int×Int)=>q.2.size=n/\q.1<=m/\Go.Sort.heapPop (Ξ cmp) a q.1 q.2=g0) (λq=>[(0,.ms 0 n 0 n),(3,Ο),(8,I a),(9,I 0),(10,I m),(12,.z (.int .i64 ((q.1:Int)-1)))]) (λq=>[.cells 29 1 ((q.2).toList.map aL)]) (λq=>q.1) (m,iK) ⟨KG,Nat.le_refl _,n0⟩ rfl (by simp[hZ];omega) (λq Χ Α=>?_);obtain⟨k,e⟩:=q;obtain⟨cw,ψ,aM⟩:=Χ;simp only at cw ψ aM;cases k with
 | zero=>
  refine Η ?_;refine ay rfl ?_;refine W.exit rfl ?_;exact W.nil ⟨_,rfl,rfl,by rw[cF,<-aM];rfl⟩
 | succ k=>
  have kj:(0:Int)<=(k:Int):=J;obtain⟨lj,KH⟩:=aF (a+k);have iJ:IntKind.i64.wrap ((a:Int)+(k:Int))=(lj:Int):=by rw[IntWalk.i64_in _ J];omega
  refine W.to (σ':=[.cells 29 1 ((e).toList.map aL)]) (env':=[(0,.ms 0 n 0 n),(3,Ο),(8,I a),(9,I 0),(10,I m),(12,.z (.int .i64 ((k:Int))))]) ?_ rfl η;refine aE kj ?_;refine aC η ?_;have aH:a<n:=J;have aI:lj<n:=J;obtain⟨L,x,y,ad,δ,Μ,π,⟨U,γ⟩,⟨ο,Ι⟩,cx,eR,ax⟩:=eQ aL cw aH aI;refine W.to (σ':=[.cells 29 1 L]) (env':=[(0,.ms 0 n 0 n),(3,Ο),(8,I a),(9,I 0),(10,I m),(12,.z (.int .i64 ((k:Int))))]) ?_ (by rw[ad]) η;clear δ Μ
  repeat apply ae
  refine dH (ς π (ς U (ς γ (ς ο (ς Ι (ς ax (ς aH (ς aI iJ)))))))) ?_;refine W.to (σ':=[.cells 29 1 ((Go.Sort.swp e a lj).toList.map aL)]) (env':=[(0,.ms 0 n 0 n),(3,Ο),(8,I a),(9,I 0),(10,I m),(12,.z (.int .i64 ((k:Int))))]) ?_ (by rw[cx]) η;clear aH aI U γ ο Ι ax cx π ad L x y eR;refine bc λΚ κ=>?_;refine af.call (first:=[]) (captured:=[]) ((Rp (Go.Sort.swp e a lj) n 0 k a (swp_size cw a lj) ξ J J Ο cmp a9 Ρ).mono (λr s ⟨bI,bw⟩=>?_) (λ_ _ h=>h.elim));subst bI;subst bw;simp;(repeat (rw[ah];simp));apply κ;refine aE (wp k J) ?_;exact W.to (Α (k,Go.Sort.siftDown (Ξ cmp) k a 0 (Go.Sort.swp e a lj)) ⟨Cf (swp_size cw a lj),bi,by rw[KH];exact aM⟩ η) rfl (by simp[wp k J])
theorem fξ (d:Array (Int×Int)) (n a b:Nat) (Θ:d.size=n) (ξ:n<2 ^ 40) (e':a<b) (hb:b<=n) (Ο:θ) (cmp:Int×Int->Int×Int->Int) (a9:aG 0 Ο) (Ρ:∀x y,ef Tryz.prog Ο [aL x,aL y] (I (cmp x y))) :
  af Tryz.prog 187 [.ms 0 n 0 n,I a,I b,Ο] [.cells 29 1 ((d).toList.map aL)] (λr s=>r=.bj []/\s=[.cells 29 1 ((Go.Sort.reverseRange d a b).toList.map aL)]) (λ_ _=>False):=by
 refine af.body Φ Tryz.func187 rfl rfl Tryz.ntmps187 rfl rfl η ?_;have w1:=ir (i:=b) J J;refine aE w1 ?_;refine W.iter (λq:Nat×Nat×Array (Int×Int)=>q.2.2.size=n/\q.1<n/\q.2.1<n/\Go.Sort.reverseLoop q.1 q.2.1 q.2.2=Go.Sort.reverseRange d a b) (λq=>[(0,.ms 0 n 0 n),(8,I (q.1:Nat)),(9,I (q.2.1:Nat))]) (λq=>[.cells 29 1 ((q.2.2).toList.map aL)]) (λq=>q.2.1-q.1) (a,b-1,d) ⟨Θ,bi,bi,rfl⟩ rfl (by simp[w1]) (λq Χ Α=>?_);obtain⟨i,j,e⟩:=q;obtain⟨cw,hi,ζ,aM⟩:=Χ;simp only at cw hi ζ aM;rw[Go.Sort.reverseLoop] at aM;refine W.to (σ':=[.cells 29 1 ((e).toList.map aL)]) (env':=[(0,.ms 0 n 0 n),(8,I (i:Nat)),(9,I (j:Nat))]) ?_ rfl η;refine Η ?_;by_cases ε:i<j
 ·refine aC (by simp[ε]) ?_;rw[if_pos ε] at aM;have w2:=hn (i:=i) J;have w3:=ir (i:=j) J J;have aH:i<n:=J;have aI:j<n:=J;obtain⟨L,x,y,ad,δ,Μ,π,⟨U,γ⟩,⟨ο,Ι⟩,cx,eR,ax⟩:=eQ aL cw aH aI;refine W.to (σ':=[.cells 29 1 L]) (env':=[(0,.ms 0 n 0 n),(8,I (i:Nat)),(9,I (j:Nat))]) ?_ (by rw[ad]) η;clear δ Μ
  repeat apply ae
  refine dH (ς π (ς U (ς γ (ς ο (ς Ι (ς ax (ς aH aI))))))) ?_;refine W.to (σ':=[.cells 29 1 ((Go.Sort.swp e i j).toList.map aL)]) (env':=[(0,.ms 0 n 0 n),(8,I (i:Nat)),(9,I (j:Nat))]) ?_ (by rw[cx]) η;clear aH aI U γ ο Ι ax cx π ad L x y eR;refine aE (ς w2 w3) ?_;exact W.to (Α (i+1,j-1,Go.Sort.swp e i j) ⟨swp_size cw i j,bi,bi,aM⟩ bi) rfl (by simp[w2,w3])
 ·refine ay (by simp[ε]) ?_;refine W.exit rfl ?_;rw[if_neg ε] at aM;exact W.nil ⟨_,rfl,rfl,by rw[aM]⟩
section
variable {α:Type} [Inhabited α]
theorem fο (lt:α->α->Bool) (d:Array α) {b:Nat}:∀(m i:Nat),b-i<=m->i<=b->i<=Go.Sort.scanSorted lt d b i/\Go.Sort.scanSorted lt d b i<=b:=by
 intro m
 induction m with
 | zero=>intro i h hi;rw[Go.Sort.scanSorted,if_neg (by simp;omega)];omega
 | succ m Α=>
  intro i h hi;rw[Go.Sort.scanSorted];split
  ·rename_i ε;simp only[Bool.and_eq_true,decide_eq_true_eq] at ε;have:=Α (i+1) J J;omega
  ·omega
theorem fπ (lt:α->α->Bool) {n:Nat}:∀(j:Nat) (d:Array α),d.size=n->(Go.Sort.shiftDown lt j d).size=n:=by
 intro j
 induction j with
 | zero=>intro d h;exact h
 | succ j Α=>
  intro d h;rw[Go.Sort.shiftDown];split
  ·exact h
  ·exact Α _ (swp_size h _ _)
theorem fρ (lt:α->α->Bool) {b n:Nat}:∀(m j:Nat) (d:Array α),b-j<=m->d.size=n->(Go.Sort.shiftUp lt b j d).size=n:=by
 intro m
 induction m with
 | zero=>intro j d h hd;rw[Go.Sort.shiftUp,if_neg J];exact hd
 | succ m Α=>
  intro j d h hd;rw[Go.Sort.shiftUp];split
  ·split
   ·exact hd
   ·exact Α _ _ J (swp_size hd _ _)
  ·exact hd
theorem KI (lt:α->α->Bool) (d:Array α) {i n:Nat} (ao:1<=i) (hi:i+1<n) (s:Nat):(Go.Sort.medianAdjacent lt d i s).1<n/\(Go.Sort.medianAdjacent lt d i s).2<=s+3:=by
 unfold Go.Sort.medianAdjacent Go.Sort.median;have f1:=ua lt d (a:=i-1) (b:=i) (n:=n) J J s;generalize Go.Sort.order2 lt d (i-1) i s=r1 at f1 ⊢;have f2:=ua lt d (a:=r1.2.1) (b:=i+1) (n:=n) J hi r1.2.2;simp only;generalize Go.Sort.order2 lt d r1.2.1 (i+1) r1.2.2=r2 at f2 ⊢;have f3:=ua lt d (a:=r1.1) (b:=r2.1) (n:=n) J J r2.2.2;generalize Go.Sort.order2 lt d r1.1 r2.1 r2.2.2=r3 at f3 ⊢;omega
end
theorem KJ (d:Array (Int×Int)) (n a b s:Nat) (Θ:d.size=n) (ν:a<n) (hb:b<n) (ξ:s<2 ^ 40) (Ο:θ) (cmp:Int×Int->Int×Int->Int) (a9:aG 0 Ο) (Ρ:∀x y,ef Tryz.prog Ο [aL x,aL y] (I (cmp x y))) :
  af Tryz.prog 252 [.ms 0 n 0 n,I a,I b,.ak 1 1 0 0,Ο] [.cells 29 1 (d.toList.map aL),.cells 3 1 [I s]] (λr σ=>r=.bj [I (Go.Sort.order2 (Ξ cmp) d a b s).1,I (Go.Sort.order2 (Ξ cmp) d a b s).2.1]/\σ=[.cells 29 1 (d.toList.map aL),.cells 3 1 [I (Go.Sort.order2 (Ξ cmp) d a b s).2.2]]) (λ_ _=>False):=by
 refine af.body Φ Tryz.func252 rfl rfl Tryz.ntmps252 rfl rfl η ?_;obtain⟨L,ad⟩:=aF (d.toList.map aL);have hc:L.length=n:=by rw[ad];simpa using Θ
 obtain⟨x,δ⟩:=aF (d[a]!);obtain⟨y,Μ⟩:=aF (d[b]!);have zw:L[a]?=some (aL x):=by rw[ad,δ,List.getElem?_map,Array.getElem?_toList,pf J];rfl
 have qg:L[b]?=some (aL y):=by rw[ad,Μ,List.getElem?_map,Array.getElem?_toList,pf J];rfl
 have KL:∀h:a<L.length,L[a]=aL x:=λh=>by have:=zw;rw[a6 h] at this;exact Option.some.inj this
 have KM:∀h:b<L.length,L[b]=aL y:=λh=>by have:=qg;rw[a6 h] at this;exact Option.some.inj this
 have hw:IntKind.i64.wrap ((s:Int)+1)=((s+1:Nat):Int):=by rw[IntWalk.i64_in _ J];omega
 have Β:Go.Sort.order2 (Ξ cmp) d a b s=if Ξ cmp y x=true then(b,a,s+1) else(a,b,s):=by unfold Go.Sort.order2;rw[<-δ,<-Μ]
 rw[Β,<-ad];clear ad δ Μ Β;refine Η ?_;refine W.draw (A:=[]) Φ mixed λΚ κ=>gi (ς hc (ς zw (ς qg (ς KL KM)))) ?_;refine⟨hb,ν,?_⟩;refine eD (Ρ y x) ?_;simp;(repeat (rw[cY];simp));try rw[cX]
 refine en (κ _ _ ?_);by_cases hm:cmp y x<0
 ·refine aC (by simp[hm]) ?_;refine aE hw ?_;exact W.ret ⟨_,rfl,by simp[Ξ,Go.Sort.ltInt,hm],by simp[Ξ,Go.Sort.ltInt,hm]⟩
 ·refine ay (by simp[hm]) ?_;refine aE hw ?_;exact W.ret ⟨_,rfl,by simp[Ξ,Go.Sort.ltInt,hm],by simp[Ξ,Go.Sort.ltInt,hm]⟩
theorem Rq (d:Array (Int×Int)) (n a b c s:Nat) (Θ:d.size=n) (ν:a<n) (hb:b<n) (ε:c<n) (ξ:s<2 ^ 39) (Ο:θ) (cmp:Int×Int->Int×Int->Int) (a9:aG 0 Ο) (Ρ:∀x y,ef Tryz.prog Ο [aL x,aL y] (I (cmp x y))) :
  af Tryz.prog 229 [.ms 0 n 0 n,I a,I b,I c,.ak 1 1 0 0,Ο] [.cells 29 1 ((d).toList.map aL),.cells 3 1 [I (s:Nat)]] (λr σ=>r=I (Go.Sort.median (Ξ cmp) d a b c s).1/\σ=[.cells 29 1 ((d).toList.map aL),.cells 3 1 [I ((Go.Sort.median (Ξ cmp) d a b c s).2:Nat)]]) (λ_ _=>False):=by
 refine af.body Φ Tryz.func229 rfl rfl Tryz.ntmps229 rfl rfl η ?_;obtain⟨r1,Ζ⟩:=bG (Go.Sort.order2 (Ξ cmp) d a b s);have f1:=ua (Ξ cmp) d (a:=a) (b:=b) (n:=n) J J s;have c1:=KJ d n a b s Θ J J J Ο cmp a9 Ρ;rw[Ζ] at f1 c1;obtain⟨a1,bE,s1⟩:=r1;simp only at f1 c1;obtain⟨r2,Ε⟩:=bG (Go.Sort.order2 (Ξ cmp) d bE c s1);have f2:=ua (Ξ cmp) d (a:=bE) (b:=c) (n:=n) J J s1;have c2:=KJ d n bE c s1 Θ J J J Ο cmp a9 Ρ;rw[Ε] at f2 c2;obtain⟨bb,c6,s2⟩:=r2;simp only at f2 c2;obtain⟨r3,a8⟩:=bG (Go.Sort.order2 (Ξ cmp) d a1 bb s2);have f3:=ua (Ξ cmp) d (a:=a1) (b:=bb) (n:=n) J J s2;have c3:=KJ d n a1 bb s2 Θ J J J Ο cmp a9 Ρ;rw[a8] at f3 c3;obtain⟨cP,fX,lu⟩:=r3;simp only at f3 c3;have hm:Go.Sort.median (Ξ cmp) d a b c s=(fX,lu):=by unfold Go.Sort.median;simp only[Ζ,Ε,a8]
 rw[hm]
 repeat apply ae
 refine l9 ?_;refine bc λΚ κ=>?_;refine af.call (first:=[]) (captured:=[]) ((c1).mono (λr s ⟨bI,bw⟩=>?_) (λ_ _ h=>h.elim));subst bI;subst bw;simp;(repeat (rw[ah];simp));apply κ;refine bc λΚ κ=>?_;refine af.call (first:=[]) (captured:=[]) ((c2).mono (λr s ⟨bI,bw⟩=>?_) (λ_ _ h=>h.elim));subst bI;subst bw;simp;(repeat (rw[ah];simp));apply κ;refine bc λΚ κ=>?_;refine af.call (first:=[]) (captured:=[]) ((c3).mono (λr s ⟨bI,bw⟩=>?_) (λ_ _ h=>h.elim));subst bI;subst bw;simp;(repeat (rw[ah];simp));apply κ;refine Η ?_;exact W.ret ⟨_,rfl,rfl,rfl⟩
theorem KN (d:Array (Int×Int)) (n i s:Nat) (Θ:d.size=n) (lS:1<=i) (hi:i+1<n) (de:n<2 ^ 40) (ξ:s<2 ^ 39) (Ο:θ) (cmp:Int×Int->Int×Int->Int) (a9:aG 0 Ο) (Ρ:∀x y,ef Tryz.prog Ο [aL x,aL y] (I (cmp x y))) :
  af Tryz.prog 228 [.ms 0 n 0 n,I i,.ak 1 1 0 0,Ο] [.cells 29 1 ((d).toList.map aL),.cells 3 1 [I (s:Nat)]] (λr σ=>r=I (Go.Sort.medianAdjacent (Ξ cmp) d i s).1/\σ=[.cells 29 1 ((d).toList.map aL),.cells 3 1 [I ((Go.Sort.medianAdjacent (Ξ cmp) d i s).2:Nat)]]) (λ_ _=>False):=by
 refine af.body Φ Tryz.func228 rfl rfl Tryz.ntmps228 rfl rfl η ?_;obtain⟨p,ω⟩:=aF (i-1);obtain⟨q,Χ⟩:=aF (i+1);have w1:IntKind.i64.wrap ((i:Int)-1)=(p:Int):=by rw[IntWalk.i64_in _ J];omega
 have w2:IntKind.i64.wrap ((i:Int)+1)=(q:Int):=by rw[IntWalk.i64_in _ J];omega
 have c:=Rq d n p i q s Θ J J J ξ Ο cmp a9 Ρ
 have e:Go.Sort.medianAdjacent (Ξ cmp) d i s=Go.Sort.median (Ξ cmp) d p i q s:=by rw[ω,Χ];rfl
 rw[e]
 repeat apply ae
 refine l9 ?_;refine g9 (ς w1 w2) λΚ κ=>?_;refine af.call (first:=[]) (captured:=[]) ((c).mono (λr s ⟨bI,bw⟩=>?_) (λ_ _ h=>h.elim));subst bI;subst bw;simp;(repeat (rw[ah];simp));apply κ;refine Η ?_;exact W.ret ⟨_,rfl,rfl,rfl⟩
theorem fς (d:Array (Int×Int)) (n a b:Nat) (Θ:d.size=n) (ξ:n<2 ^ 38) (e':a+12<b) (hb:b<=n) (Ο:θ) (cmp:Int×Int->Int×Int->Int) (a9:aG 0 Ο) (Ρ:∀x y,ef Tryz.prog Ο [aL x,aL y] (I (cmp x y))) :
  af Tryz.prog 186 [.ms 0 n 0 n,I a,I b,Ο] [.cells 29 1 ((d).toList.map aL)] (λr s=>r=.bj [I (Go.Sort.choosePivot (Ξ cmp) d a b).1,I (qt (Go.Sort.choosePivot (Ξ cmp) d a b).2)]/\s=[.cells 29 1 ((d).toList.map aL)]) (λ_ _=>False):=by
 refine af.body Φ Tryz.func186 rfl rfl Tryz.ntmps186 rfl rfl η ?_;obtain⟨l,π⟩:=aF (b-a);obtain⟨q,Χ⟩:=aF (l / 4);obtain⟨dq,vP⟩:=aF (q*2);obtain⟨hU,Gf⟩:=aF (q*3);obtain⟨i,hi⟩:=aF (a+q);obtain⟨j,ζ⟩:=aF (a+dq);obtain⟨k,ψ⟩:=aF (a+hU);have ps:(8:Int)<=(l:Int):=J;have w1:IntKind.i64.wrap ((b:Int)-(a:Int))=(l:Int):=by rw[IntWalk.i64_in _ J];omega
 have w2:IntKind.i64.wrap ((l:Int) / 4)=(q:Int):=by rw[Χ];exact vN (m:=4) J
 have w3:IntKind.i64.wrap (q:Int)=(q:Int):=IntWalk.i64_in _ J
 have w4:IntKind.i64.wrap ((q:Int)*2)=(dq:Int):=by rw[IntWalk.i64_in _ J];omega
 have kR:IntKind.i64.wrap ((q:Int)*3)=(hU:Int):=by rw[IntWalk.i64_in _ J];omega
 have iI:IntKind.i64.wrap ((a:Int)+(q:Int))=(i:Int):=by rw[IntWalk.i64_in _ J];omega
 have iJ:IntKind.i64.wrap ((a:Int)+(dq:Int))=(j:Int):=by rw[IntWalk.i64_in _ J];omega
 have lN:IntKind.i64.wrap ((a:Int)+(hU:Int))=(k:Int):=by rw[IntWalk.i64_in _ J];omega
 obtain⟨an,av,K,s1,Ν,fτ,fυ,fφ,nC⟩:∃an av K s1:Nat,Go.Sort.choosePivot (Ξ cmp) d a b=((Go.Sort.median (Ξ cmp) d an av K s1).1,if(Go.Sort.median (Ξ cmp) d an av K s1).2=0 then .increasing else if(Go.Sort.median (Ξ cmp) d an av K s1).2=12 then .decreasing else .unknown)/\an<n/\av<n/\K<n/\(s1<=9/\((l<50/\an=i/\av=j/\K=k/\s1=0)\/(50<=l/\∃t1 t2,Go.Sort.medianAdjacent (Ξ cmp) d i 0=(an,t1)/\t1<=3/\Go.Sort.medianAdjacent (Ξ cmp) d j t1=(av,t2)/\t2<=6/\Go.Sort.medianAdjacent (Ξ cmp) d k t2=(K,s1)))):=by
  have mz:8<=l:=J;by_cases uf:50<=l
  ·have d':=KI (Ξ cmp) d (n:=n) (i:=i) J J 0;obtain⟨⟨an,t1⟩,Ζ⟩:∃r,Go.Sort.medianAdjacent (Ξ cmp) d i 0=r:=⟨_,rfl⟩;rw[Ζ] at d';have dG:=KI (Ξ cmp) d (n:=n) (i:=j) J J t1;obtain⟨⟨av,t2⟩,Ε⟩:∃r,Go.Sort.medianAdjacent (Ξ cmp) d j t1=r:=⟨_,rfl⟩;rw[Ε] at dG;have mY:=KI (Ξ cmp) d (n:=n) (i:=k) J J t2;obtain⟨⟨K,s1⟩,a8⟩:∃r,Go.Sort.medianAdjacent (Ξ cmp) d k t2=r:=⟨_,rfl⟩;rw[a8] at mY;simp only at d' dG mY;refine⟨an,av,K,s1,?_,d'.1,dG.1,mY.1,J,.inr ⟨uf,t1,t2,Ζ,J,Ε,J,a8⟩⟩;simp only[Go.Sort.choosePivot,<-π,<-Χ,Nat.mul_one,<-vP,<-Gf,<-hi,<-ζ,<-ψ,ge_iff_le,if_pos mz,if_pos uf,Ζ,Ε,a8]
  ·refine⟨i,j,k,0,?_,J,J,J,J,.inl ⟨J,rfl,rfl,rfl,rfl⟩⟩;simp only[Go.Sort.choosePivot,<-π,<-Χ,Nat.mul_one,<-vP,<-Gf,<-hi,<-ζ,<-ψ,ge_iff_le,if_pos mz,if_neg uf]
 obtain⟨gm,em⟩:=bG (Go.Sort.median (Ξ cmp) d an av K s1);have vQ:=Rq d n an av K s1 Θ fτ fυ fφ (Nat.lt_of_le_of_lt nC.1 br) Ο cmp a9 Ρ;rw[em] at vQ Ν;obtain⟨iu,j3⟩:=gm;simp only at vQ Ν;rw[Ν]
 repeat apply ae
 refine l9 ?_
 repeat apply ae
 refine ov w1 ?_
 repeat apply ae
 refine dj (A:=[11]) Φ λΚ κ=>bp ?_;apply κ;refine aE (ς w2 (ς w3 (ς w4 (ς kR (ς iI (ς iJ (ς lN @ps))))))) ?_;refine aC η ?_;refine Η ?_;refine W.upto [(0,.ms 0 n 0 n),(3,Ο),(11,.ak 1 1 0 0),(12,I (an:Nat)),(13,I (av:Nat)),(14,I (K:Nat))] [.cells 29 1 ((d).toList.map aL),.cells 3 1 [I (s1:Nat)]] ?_ ?_
 ·clear Ν vQ;rcases nC with⟨-,⟨bE,rfl,rfl,rfl,rfl⟩|⟨bE,t1,t2,Ζ,ο,Ε,bf,a8⟩⟩
  ·have g:¬(50:Int)<=(l:Int):=J
   refine ay (by simp[g]) ?_;refine W.skip ?_;exact W.stop ⟨rfl,rfl,η⟩
  ·have g:(50:Int)<=(l:Int):=J
   have c1:=KN d n i 0 Θ J J J J Ο cmp a9 Ρ
   have c2:=KN d n j t1 Θ J J J J Ο cmp a9 Ρ
   have c3:=KN d n k t2 Θ J J J J Ο cmp a9 Ρ;rw[Ζ] at c1;rw[Ε] at c2;rw[a8] at c3;refine aC (by simp[g]) ?_;refine bc λΚ κ=>?_;refine af.call (first:=[]) (captured:=[]) ((c1).mono (λr s ⟨bI,bw⟩=>?_) (λ_ _ h=>h.elim));subst bI;subst bw;simp;(repeat (rw[ah];simp));apply κ;refine bc λΚ κ=>?_;refine af.call (first:=[]) (captured:=[]) ((c2).mono (λr s ⟨bI,bw⟩=>?_) (λ_ _ h=>h.elim));subst bI;subst bw;simp;(repeat (rw[ah];simp));apply κ;refine bc λΚ κ=>?_;refine af.call (first:=[]) (captured:=[]) ((c3).mono (λr s ⟨bI,bw⟩=>?_) (λ_ _ h=>h.elim));subst bI;subst bw;simp;(repeat (rw[ah];simp));apply κ;exact W.stop ⟨rfl,rfl,η⟩
 clear nC;refine bc λΚ κ=>?_;refine af.call (first:=[]) (captured:=[]) ((vQ).mono (λr s ⟨bI,bw⟩=>?_) (λ_ _ h=>h.elim));subst bI;subst bw;simp;(repeat (rw[ah];simp));apply κ
 repeat apply ae
 refine l9 ?_;refine W.drop (h:=1) η η (Ge Be) rfl [(13,I (iu:Nat)),(55,I (j3:Nat))] η ?_;by_cases ao:j3=0
 ·subst ao;refine Η ?_;refine aC rfl ?_;refine Η ?_;exact W.ret ⟨_,rfl,rfl,rfl⟩
 have KO:¬(j3:Int)=0:=J;refine aE KO ?_;refine ay (by simp[ao]) ?_;by_cases hf:j3=12
 ·subst hf;refine Η ?_;refine aC rfl ?_;refine Η ?_;exact W.ret ⟨_,rfl,rfl,rfl⟩
 have KP:¬(j3:Int)=12:=J;refine aE KP ?_;refine ay (by simp[hf]) ?_;refine Η ?_;exact W.ret ⟨_,rfl,by simp[ao,hf,qt],rfl⟩
theorem Rr (l:Nat) (π:l<256):aB Tryz.prog 226 [I l] (kl ((1 <<< Go.Sort.bitsLen l:Nat):Int)):=by
 refine af.body Φ Tryz.func226 rfl rfl Tryz.ntmps226 rfl rfl η ?_;have Ε:IntKind.u64.wrap (l:Int)=l:=ub J;(repeat (first|apply ae|(refine dt λΚ κ=>?_;simp;(repeat (rw[ah];simp[Ε]));apply κ)));(repeat apply ae);refine dt λΚ κ=>?_;simp;(repeat (rw[ah];simp[Ε]));refine aB.d (tG l π) (bp ?_);apply κ;refine Η ?_;refine W.ret ⟨_,rfl,.of ?_,rfl⟩;have hb:=(Go.Sort.bitsLen_le_iff l 8).2 π;have e:=KB 1 (Go.Sort.bitsLen l) J;have a8:1*2 ^ Go.Sort.bitsLen l % 18446744073709551616=1 <<< Go.Sort.bitsLen l:=by
  rw[Nat.one_mul,Nat.one_shiftLeft,Nat.mod_eq_of_lt (Nat.lt_of_le_of_lt (Nat.pow_le_pow_right J hb) br)]
 rw[a8] at e;show kl (IntKind.u64.wrap (2 ^ min (Go.Sort.bitsLen l) IntKind.u64.bits))=_;rw[<-e];simp
theorem Rs (x:Nat) (δ:x<2 ^ 64):af Tryz.prog 227 [.ak 0 1 0 0] [.cells 248 1 [kl (x:Int)]] (λr s=>r=kl ((Go.Sort.xorNextN x:Nat):Int)/\s=[.cells 248 1 [kl ((Go.Sort.xorNextN x:Nat):Int)]]) (λ_ _=>False):=by
 refine af.body Φ Tryz.func227 rfl rfl Tryz.ntmps227 rfl rfl η ?_;obtain⟨d',hZ⟩:=aF (x*2 ^ 13 % 18446744073709551616);obtain⟨lC,qn⟩:=aF (x^^^d');obtain⟨dG,jw⟩:=aF (lC / 2 ^ 7);obtain⟨tg,Gg⟩:=aF (lC^^^dG);obtain⟨mY,KQ⟩:=aF (tg*2 ^ 17 % 18446744073709551616);obtain⟨HO,KR⟩:=aF (tg^^^mY);have cF:Go.Sort.xorNextN x=HO:=by rw[KR,KQ,Gg,jw,qn,hZ];rfl
 rw[cF];have l1:d'<2 ^ 64:=J;have k1:lC<2 ^ 64:=by rw[qn];exact Nat.xor_lt_two_pow δ l1
 have l2:dG<2 ^ 64:=J
 have bT:tg<2 ^ 64:=by rw[Gg];exact Nat.xor_lt_two_pow k1 l2
 have pD:mY<2 ^ 64:=J
 have a1:=KB x 13 J;rw[<-hZ] at a1;have bb:=KA δ l1;rw[<-qn] at bb;have cP:=fγ lC 7 J;rw[<-jw] at cP;have gJ:=KA k1 l2;rw[<-Gg] at gJ;have ix:=KB tg 17 J;rw[<-KQ] at ix;have nh:=KA bT pD;rw[<-KR] at nh;clear KR KQ Gg jw qn hZ l1 k1 l2 bT pD cF;refine Η ?_;refine dH (ς a1 bb) ?_;refine Η ?_;refine dH (ς cP gJ) ?_;refine Η ?_;refine dH (ς ix nh) ?_;refine Η ?_;exact W.ret ⟨_,rfl,rfl,rfl⟩
theorem fχ (d:Array (Int×Int)) (n a b:Nat) (Θ:d.size=n) (ξ:n<2 ^ 40) (e':a+12<b) (uf:b<a+50) (hb:b<=n) (Ο:θ) (cmp:Int×Int->Int×Int->Int) (a9:aG 0 Ο) (Ρ:∀x y,ef Tryz.prog Ο [aK x,aK y] (I (cmp x y))) :
  af Tryz.prog 236 [.ms 0 n 0 n,I a,I b,Ο] [.cells 112 2 ((d).toList.map aK)] (λr s=>r=.bj []/\s=[.cells 112 2 ((Go.Sort.breakPatterns d a b).toList.map aK)]) (λ_ _=>False):=by
 refine af.body Φ Tryz.func236 rfl rfl Tryz.ntmps236 rfl rfl η ?_;obtain⟨l,π⟩:=aF (b-a);obtain⟨q,Χ⟩:=aF (l / 4);obtain⟨dq,vP⟩:=aF (q*2);obtain⟨c,ε⟩:=aF (a+dq);obtain⟨ed,iS⟩:=aF (c-1);obtain⟨c1,lE⟩:=aF (c+1);obtain⟨m,hm⟩:=aF (1 <<< Go.Sort.bitsLen l);have KS:Go.Sort.bitsLen l<=6:=(Go.Sort.bitsLen_le_iff l 6).2 J;have EU:l<m/\m<=64/\m<=2*l:=by
  have U:=Go.Sort.lt_two_pow_bitsLen l
  have γ:=Go.Sort.two_pow_bitsLen_le (n:=l) J;rw[hm,Nat.one_shiftLeft];exact⟨U,Nat.le_trans (Nat.pow_le_pow_right J KS) br,γ⟩
 obtain⟨R,fF⟩:=bG (sP a l m 3 ed (UInt64.ofNat l,d));have cF:Go.Sort.breakPatterns d a b=R.2:=by rw[Rn (c:=c) π J (by rw[ε,vP,Χ]),<-hm,<-iS,fF]
 rw[cF];have w1:IntKind.i64.wrap ((b:Int)-(a:Int))=(l:Int):=by rw[IntWalk.i64_in _ J];omega
 have w2:IntKind.i64.wrap ((l:Int) / 4)=(q:Int):=by rw[Χ];exact vN (m:=4) J
 have w4:IntKind.i64.wrap ((q:Int)*2)=(dq:Int):=by rw[IntWalk.i64_in _ J];omega
 have iI:IntKind.i64.wrap ((a:Int)+(dq:Int))=(c:Int):=by rw[IntWalk.i64_in _ J];omega
 have iJ:IntKind.i64.wrap ((c:Int)-1)=(ed:Int):=by rw[IntWalk.i64_in _ J];omega
 have lN:IntKind.i64.wrap ((c:Int)+1)=(c1:Int):=by rw[IntWalk.i64_in _ J];omega
 have KT:IntKind.u64.wrap (l:Int)=(l:Int):=ub J
 have KU:IntKind.u64.wrap ((m:Int)-1)=((m-1:Nat):Int):=by
  have e:(m:Int)-1=((m-1:Nat):Int):=J;rw[e];exact ub J
 have ps:(8:Int)<=(l:Int):=J
 have cu:(UInt64.ofNat l).toNat=l:=by rw[UInt64.toNat_ofNat'];exact Nat.mod_eq_of_lt J
 refine aE (ς w1 @ps) ?_;refine aC η ?_
 repeat apply ae
 refine dj (A:=[9]) Φ λΚ κ=>gh KT ?_;apply κ;have wV:=Rr l J;rw[<-hm] at wV;refine bc λΚ κ=>?_;refine aB.c wV (b2.refl _) η η ?_;simp;(repeat (rw[ah];simp));apply κ;refine aE (ς w2 (ς w4 (ς iI iJ))) ?_;refine W.iter (λy:Nat×UInt64×Array (Int×Int)=>y.1<=3/\y.2.2.size=n/\sP a l m y.1 (c+2-y.1) y.2=R) (λy=>[(0,.ms 0 n 0 n),(1,I a),(8,I (l:Nat)),(9,.ak 1 1 0 0),(10,kl (m:Nat)),(11,I (c+2-y.1:Nat))]) (λy=>[.cells 112 2 ((y.2.2).toList.map aK),.cells 248 1 [kl ((y.2.1.toNat:Nat):Int)]]) (λy=>y.1) (3,UInt64.ofNat l,d) ⟨Nat.le_refl _,Θ,by simp only;rw[<-fF,show c+2-3=ed by omega]⟩ (by simp only;rw[cu]) (by simp[iS]) (λy Μ Α=>?_);obtain⟨t,st,e⟩:=y;obtain⟨Υ,cw,aM⟩:=Μ;simp only at Υ cw aM;obtain⟨bz,k2⟩:=aF (c+2-t);obtain⟨x,δ⟩:=aF st.toNat;have o6:x<2 ^ 64:=by rw[δ];exact st.toNat_lt
 rw[<-k2] at aM;refine W.to (σ':=[.cells 112 2 ((e).toList.map aK),.cells 248 1 [kl ((x:Nat):Int)]]) (env':=[(0,.ms 0 n 0 n),(1,I a),(8,I (l:Nat)),(9,.ak 1 1 0 0),(10,kl (m:Nat)),(11,I (bz:Nat))]) ?_ (by rw[δ]) (by simp[k2]);cases t with
 | zero=>
  have g:¬(bz:Int)<=(c1:Int):=J;refine aE (ς w2 (ς w4 (ς iI (ς lN g)))) ?_;refine ay η ?_;refine W.exit rfl ?_;refine W.drop (h:=1) η η (Ge tH) rfl [] η ?_;exact W.nil ⟨_,rfl,rfl,by rw[<-aM];rfl⟩
 | succ t=>
  have g:(bz:Int)<=(c1:Int):=J;obtain⟨ug,wE⟩:=aF (Go.Sort.xorNext st);obtain⟨h9,jF⟩:=aF ug.toNat;have KV:h9=Go.Sort.xorNextN x:=by rw[jF,wE,Go.Sort.xorNext_toNat,δ]
  have KW:h9<2 ^ 64:=by rw[jF];exact ug.toNat_lt
  have Ch:=Rs x o6;rw[<-KV] at Ch;obtain⟨z,Ψ⟩:=aF (h9&&&(m-1));have gI:z<=m-1:=by rw[Ψ];exact Nat.and_le_right
  have gW:eG .u64 (h9:Int) ((m-1:Nat):Int)=(z:Int):=by rw[Ψ];exact Ro KW J
  have KX:IntKind.i64.wrap (z:Int)=(z:Int):=IntWalk.i64_in _ J;obtain⟨o,Β⟩:=aF (if z>=l then z-l else z);have yC:o<l:=by rw[Β];split<;>omega
  have n0:sP a l m t (bz+1) (ug,Go.Sort.swp e bz (a+o))=R:=by
   rw[<-aM];show _=sP a l m t (bz+1) (Go.Sort.breakStep a l m (st,e) bz);unfold Go.Sort.breakStep;simp only;rw[<-wE,<-jF,<-Ψ,<-Β]
  obtain⟨uh,KY⟩:=aF (a+o);rw[<-KY] at n0;refine aE (ς w2 (ς w4 (ς iI (ς lN g)))) ?_;refine aC η ?_;refine bc λΚ κ=>?_;refine af.one Ch 1 rfl (by simp[iY]) (by simp[iY]) (by simp[fD,mS]) (by simp[fD,mS]) rfl ?_;simp[eg,hF];(repeat (rw[ah];simp[KU,gW,KX]));apply κ;refine W.to (σ':=[.cells 112 2 ((e).toList.map aK),.cells 248 1 [kl ((h9:Nat):Int)]]) (env':=[(0,.ms 0 n 0 n),(1,I a),(8,I (l:Nat)),(9,.ak 1 1 0 0),(10,kl (m:Nat)),(11,I (bz:Nat)),(12,I (z:Nat))]) ?_ rfl η;refine Η ?_;refine W.upto [(0,.ms 0 n 0 n),(1,I a),(8,I (l:Nat)),(9,.ak 1 1 0 0),(10,kl (m:Nat)),(11,I (bz:Nat)),(12,I (o:Nat))] [.cells 112 2 ((e).toList.map aK),.cells 248 1 [kl ((h9:Nat):Int)]] ?_ ?_
  ·by_cases l3:l<=z
   ·have wo:IntKind.i64.wrap ((z:Int)-(l:Int))=(o:Int):=by rw[IntWalk.i64_in _ J,Β,if_pos l3];omega
    refine aC (by simp[l3]) ?_;refine aE wo ?_;exact W.stop ⟨rfl,rfl,η⟩
   ·refine ay (by simp[l3]) ?_
    repeat apply ae
    exact W.stop ⟨rfl,rfl,by simp[Β,l3]⟩
  have KZ:IntKind.i64.wrap ((a:Int)+(o:Int))=(uh:Int):=by rw[IntWalk.i64_in _ J];omega
  have aH:bz<n:=J
  have aI:uh<n:=J;obtain⟨L,x,y,ad,δ,Μ,π,⟨U,γ⟩,⟨ο,Ι⟩,cx,eR,ax⟩:=eQ aK cw aH aI;rw[ad];clear δ Μ
  repeat apply ae
  refine dH (ς π (ς U (ς γ (ς ο (ς Ι (ς ax (ς aH (ς aI KZ)))))))) ?_;have K1:=hn (i:=bz) J;refine aE K1 ?_;refine W.to (Α (t,ug,Go.Sort.swp e bz uh) ⟨bi,swp_size cw bz uh,?_⟩ η) (by rw[cx,jF]) (by simp[show c+2-t=bz+1 by omega]);have Ζ:c+2-t=bz+1:=J;simp only;rw[Ζ];exact n0
theorem fψ (d:Array (Int×Int)) (n a b:Nat) (Θ:d.size=n) (ξ:n<2 ^ 40) (e':a+12<b) (mχ:b<a+256) (hb:b<=n) (Ο:θ) (cmp:Int×Int->Int×Int->Int) (a9:aG 0 Ο) (Ρ:∀x y,ef Tryz.prog Ο [aL x,aL y] (I (cmp x y))) :
  af Tryz.prog 185 [.ms 0 n 0 n,I a,I b,Ο] [.cells 29 1 ((d).toList.map aL)] (λr s=>r=.bj []/\s=[.cells 29 1 ((Go.Sort.breakPatterns d a b).toList.map aL)]) (λ_ _=>False):=by
 refine af.body Φ Tryz.func185 rfl rfl Tryz.ntmps185 rfl rfl η ?_;obtain⟨l,π⟩:=aF (b-a);obtain⟨q,Χ⟩:=aF (l / 4);obtain⟨dq,vP⟩:=aF (q*2);obtain⟨c,ε⟩:=aF (a+dq);obtain⟨ed,iS⟩:=aF (c-1);obtain⟨c1,lE⟩:=aF (c+1);obtain⟨m,hm⟩:=aF (1 <<< Go.Sort.bitsLen l);have KS:Go.Sort.bitsLen l<=8:=(Go.Sort.bitsLen_le_iff l 8).2 J;have EU:l<m/\m<=256/\m<=2*l:=by
  have U:=Go.Sort.lt_two_pow_bitsLen l
  have γ:=Go.Sort.two_pow_bitsLen_le (n:=l) J;rw[hm,Nat.one_shiftLeft];exact⟨U,Nat.le_trans (Nat.pow_le_pow_right J KS) br,γ⟩
 obtain⟨R,fF⟩:=bG (sP a l m 3 ed (UInt64.ofNat l,d));have cF:Go.Sort.breakPatterns d a b=R.2:=by rw[Rn (c:=c) π J (by rw[ε,vP,Χ]),<-hm,<-iS,fF]
 rw[cF];have w1:IntKind.i64.wrap ((b:Int)-(a:Int))=(l:Int):=by rw[IntWalk.i64_in _ J];omega
 have w2:IntKind.i64.wrap ((l:Int) / 4)=(q:Int):=by rw[Χ];exact vN (m:=4) J
 have w4:IntKind.i64.wrap ((q:Int)*2)=(dq:Int):=by rw[IntWalk.i64_in _ J];omega
 have iI:IntKind.i64.wrap ((a:Int)+(dq:Int))=(c:Int):=by rw[IntWalk.i64_in _ J];omega
 have iJ:IntKind.i64.wrap ((c:Int)-1)=(ed:Int):=by rw[IntWalk.i64_in _ J];omega
 have lN:IntKind.i64.wrap ((c:Int)+1)=(c1:Int):=by rw[IntWalk.i64_in _ J];omega
 have KT:IntKind.u64.wrap (l:Int)=(l:Int):=ub J
 have KU:IntKind.u64.wrap ((m:Int)-1)=((m-1:Nat):Int):=by
  have e:(m:Int)-1=((m-1:Nat):Int):=J;rw[e];exact ub J
 have ps:(8:Int)<=(l:Int):=J
 have cu:(UInt64.ofNat l).toNat=l:=by rw[UInt64.toNat_ofNat'];exact Nat.mod_eq_of_lt J
 refine aE (ς w1 @ps) ?_;refine aC η ?_
 repeat apply ae
 refine dj (A:=[9]) Φ λΚ κ=>gh KT ?_;apply κ;have wV:=Rr l J;rw[<-hm] at wV;refine bc λΚ κ=>?_;refine aB.c wV (b2.refl _) η η ?_;simp;(repeat (rw[ah];simp));apply κ;refine aE (ς w2 (ς w4 (ς iI iJ))) ?_;refine W.iter (λy:Nat×UInt64×Array (Int×Int)=>y.1<=3/\y.2.2.size=n/\sP a l m y.1 (c+2-y.1) y.2=R) (λy=>[(0,.ms 0 n 0 n),(1,I a),(8,I (l:Nat)),(9,.ak 1 1 0 0),(10,kl (m:Nat)),(11,I (c+2-y.1:Nat))]) (λy=>[.cells 29 1 ((y.2.2).toList.map aL),.cells 248 1 [kl ((y.2.1.toNat:Nat):Int)]]) (λy=>y.1) (3,UInt64.ofNat l,d) ⟨Nat.le_refl _,Θ,by simp only;rw[<-fF,show c+2-3=ed by omega]⟩ (by simp only;rw[cu]) (by simp[iS]) (λy Μ Α=>?_);obtain⟨t,st,e⟩:=y;obtain⟨Υ,cw,aM⟩:=Μ;simp only at Υ cw aM;obtain⟨bz,k2⟩:=aF (c+2-t);obtain⟨x,δ⟩:=aF st.toNat;have o6:x<2 ^ 64:=by rw[δ];exact st.toNat_lt
 rw[<-k2] at aM;refine W.to (σ':=[.cells 29 1 ((e).toList.map aL),.cells 248 1 [kl ((x:Nat):Int)]]) (env':=[(0,.ms 0 n 0 n),(1,I a),(8,I (l:Nat)),(9,.ak 1 1 0 0),(10,kl (m:Nat)),(11,I (bz:Nat))]) ?_ (by rw[δ]) (by simp[k2]);cases t with
 | zero=>
  have g:¬(bz:Int)<=(c1:Int):=J;refine aE (ς w2 (ς w4 (ς iI (ς lN g)))) ?_;refine ay η ?_;refine W.exit rfl ?_;refine W.drop (h:=1) η η (Ge Be) rfl [] η ?_;exact W.nil ⟨_,rfl,rfl,by rw[<-aM];rfl⟩
 | succ t=>
  have g:(bz:Int)<=(c1:Int):=J;obtain⟨ug,wE⟩:=aF (Go.Sort.xorNext st);obtain⟨h9,jF⟩:=aF ug.toNat;have KV:h9=Go.Sort.xorNextN x:=by rw[jF,wE,Go.Sort.xorNext_toNat,δ]
  have KW:h9<2 ^ 64:=by rw[jF];exact ug.toNat_lt
  have Ch:=Rs x o6;rw[<-KV] at Ch;obtain⟨z,Ψ⟩:=aF (h9&&&(m-1));have gI:z<=m-1:=by rw[Ψ];exact Nat.and_le_right
  have gW:eG .u64 (h9:Int) ((m-1:Nat):Int)=(z:Int):=by rw[Ψ];exact Ro KW J
  have KX:IntKind.i64.wrap (z:Int)=(z:Int):=IntWalk.i64_in _ J;obtain⟨o,Β⟩:=aF (if z>=l then z-l else z);have yC:o<l:=by rw[Β];split<;>omega
  have n0:sP a l m t (bz+1) (ug,Go.Sort.swp e bz (a+o))=R:=by
   rw[<-aM];show _=sP a l m t (bz+1) (Go.Sort.breakStep a l m (st,e) bz);unfold Go.Sort.breakStep;simp only;rw[<-wE,<-jF,<-Ψ,<-Β]
  obtain⟨uh,KY⟩:=aF (a+o);rw[<-KY] at n0;refine aE (ς w2 (ς w4 (ς iI (ς lN g)))) ?_;refine aC η ?_;refine bc λΚ κ=>?_;refine af.one Ch 1 rfl (by simp[iY]) (by simp[iY]) (by simp[fD,mS]) (by simp[fD,mS]) rfl ?_;simp[eg,hF];(repeat (rw[ah];simp[KU,gW,KX]));apply κ;refine W.to (σ':=[.cells 29 1 ((e).toList.map aL),.cells 248 1 [kl ((h9:Nat):Int)]]) (env':=[(0,.ms 0 n 0 n),(1,I a),(8,I (l:Nat)),(9,.ak 1 1 0 0),(10,kl (m:Nat)),(11,I (bz:Nat)),(12,I (z:Nat))]) ?_ rfl η;refine Η ?_;refine W.upto [(0,.ms 0 n 0 n),(1,I a),(8,I (l:Nat)),(9,.ak 1 1 0 0),(10,kl (m:Nat)),(11,I (bz:Nat)),(12,I (o:Nat))] [.cells 29 1 ((e).toList.map aL),.cells 248 1 [kl ((h9:Nat):Int)]] ?_ ?_
  ·by_cases l3:l<=z
   ·have wo:IntKind.i64.wrap ((z:Int)-(l:Int))=(o:Int):=by rw[IntWalk.i64_in _ J,Β,if_pos l3];omega
    refine aC (by simp[l3]) ?_;refine aE wo ?_;exact W.stop ⟨rfl,rfl,η⟩
   ·refine ay (by simp[l3]) ?_
    repeat apply ae
    exact W.stop ⟨rfl,rfl,by simp[Β,l3]⟩
  have KZ:IntKind.i64.wrap ((a:Int)+(o:Int))=(uh:Int):=by rw[IntWalk.i64_in _ J];omega
  have aH:bz<n:=J
  have aI:uh<n:=J;obtain⟨L,x,y,ad,δ,Μ,π,⟨U,γ⟩,⟨ο,Ι⟩,cx,eR,ax⟩:=eQ aL cw aH aI;rw[ad];clear δ Μ
  repeat apply ae
  refine dH (ς π (ς U (ς γ (ς ο (ς Ι (ς ax (ς aH (ς aI KZ)))))))) ?_;have K1:=hn (i:=bz) J;refine aE K1 ?_;refine W.to (Α (t,ug,Go.Sort.swp e bz uh) ⟨bi,swp_size cw bz uh,?_⟩ η) (by rw[cx,jF]) (by simp[show c+2-t=bz+1 by omega]);have Ζ:c+2-t=bz+1:=J;simp only;rw[Ζ];exact n0
theorem Rt (d:Array (Int×Int)) (n a b:Nat) (Θ:d.size=n) (ξ:n<2 ^ 40) (e':a<b) (hb:b<=n) (Ο:θ) (cmp:Int×Int->Int×Int->Int) (a9:aG 0 Ο) (Ρ:∀x y,ef Tryz.prog Ο [aL x,aL y] (I (cmp x y))) :
  af Tryz.prog 188 [.ms 0 n 0 n,I a,I b,Ο] [.cells 29 1 ((d).toList.map aL)] (λr s=>r=ba (Go.Sort.partialInsertionSort (Ξ cmp) d a b).2/\s=[.cells 29 1 (((Go.Sort.partialInsertionSort (Ξ cmp) d a b).1).toList.map aL)]) (λ_ _=>False):=by
 refine af.body Φ Tryz.func188 rfl rfl Tryz.ntmps188 rfl rfl η ?_;obtain⟨R,fF⟩:=bG (Go.Sort.partialIns (Ξ cmp) a b 5 (a+1) d);have cF:Go.Sort.partialInsertionSort (Ξ cmp) d a b=R:=fF;rw[cF];have w1:=hn (i:=a) J;refine aE w1 ?_;refine W.iter (λq:Nat×Nat×Array (Int×Int)=>q.1<=5/\a+1<=q.2.1/\q.2.1<=b/\q.2.2.size=n/\Go.Sort.partialIns (Ξ cmp) a b (5-q.1) q.2.1 q.2.2=R) (λq=>[(0,.ms 0 n 0 n),(1,I a),(2,I b),(3,Ο),(9,I (q.2.1:Nat)),(10,I (q.1:Nat))]) (λq=>[.cells 29 1 ((q.2.2).toList.map aL)]) (λq=>5-q.1) (0,a+1,d) ⟨Nat.zero_le _,Nat.le_refl _,e',Θ,fF⟩ rfl (by simp[w1]) (λq Χ Α=>?_);clear fF cF Θ w1;obtain⟨st,i,e⟩:=q;obtain⟨cD,i',jd,cw,aM⟩:=Χ;simp only at cD i' jd cw aM;refine W.to (σ':=[.cells 29 1 ((e).toList.map aL)]) (env':=[(0,.ms 0 n 0 n),(1,I a),(2,I b),(3,Ο),(9,I (i:Nat)),(10,I (st:Nat))]) ?_ rfl η;by_cases ax:st<5
 case neg=>
  have g:¬(st:Int)<5:=J;refine aE g ?_;refine ay η ?_;refine W.exit rfl ?_;refine Η ?_;obtain rfl:st=5:=J;exact W.ret ⟨_,rfl,by rw[<-aM];rfl,by rw[<-aM];rfl⟩
 have gr:(st:Int)<5:=J;refine aE gr ?_;refine aC η ?_;obtain⟨an,dW⟩:=bG (Go.Sort.scanSorted (Ξ cmp) e b i);have fω:=fο (Ξ cmp) e (b:=b) (b-i) i (Nat.le_refl _) jd;rw[dW] at fω;rw[show 5-st=(4-st)+1 by omega,Go.Sort.partialIns] at aM;simp only[dW] at aM
 repeat apply ae
 refine W.kQ [(0,.ms 0 n 0 n),(1,I a),(2,I b),(3,Ο),(9,I (an:Nat)),(10,I (st:Nat))] [.cells 29 1 ((e).toList.map aL)] ?_ ?_
 ·clear aM;refine W.iter (λk:Nat=>i<=k/\k<=b/\Go.Sort.scanSorted (Ξ cmp) e b k=an) (λk=>[(0,.ms 0 n 0 n),(1,I a),(2,I b),(3,Ο),(9,I (k:Nat)),(10,I (st:Nat))]) (λ_=>[.cells 29 1 ((e).toList.map aL)]) (λk=>b-k) i ⟨Nat.le_refl _,jd,dW⟩ rfl η (λk ψ fL=>?_);obtain⟨jC,fl,iN⟩:=ψ;by_cases ε:k<b
  ·obtain⟨p,ω⟩:=aF (k-1);have aH:k<n:=J;have aI:p<n:=J;obtain⟨L,x,y,ad,δ,Μ,π,⟨U,γ⟩,⟨ο,Ι⟩,-,-⟩:=eQ aL cw aH aI;have un:Go.Sort.scanSorted (Ξ cmp) e b k=if(!Ξ cmp x y)=true then Go.Sort.scanSorted (Ξ cmp) e b (k+1) else k:=by rw[Go.Sort.scanSorted];simp[ε,δ,<-ω,Μ]
   have hw:=hn (i:=k) J
   have g4:IntKind.i64.wrap ((k:Int)-1)=(p:Int):=by rw[IntWalk.i64_in _ J];omega
   refine W.to (σ':=[.cells 29 1 L]) (env':=[(0,.ms 0 n 0 n),(1,I a),(2,I b),(3,Ο),(9,I (k:Nat)),(10,I (st:Nat))]) ?_ (by rw[ad]) η;clear δ Μ
   repeat apply ae
   refine W.draw (A:=[]) Φ mixed λΚ κ=>gi (ς ε (ς g4 (ς π (ς U (ς γ (ς ο (ς Ι (ς aH aI)))))))) ?_;refine eD (Ρ x y) ?_;simp;(repeat (rw[cY];simp));try rw[cX]
   refine en (κ _ _ ?_);by_cases hm:cmp x y<0
   ·refine ay (by simp[hm]) ?_;refine W.exit rfl ?_;exact W.stop ⟨rfl,by rw[ad],by rw[<-iN,un];simp[hm,Ξ]⟩
   ·refine aC (by simp[hm]) ?_;refine aE hw ?_;exact W.to (fL (k+1) ⟨J,J,by rw[<-iN,un];simp[hm,Ξ]⟩ bi) (by rw[ad]) (by simp[hw])
  ·repeat apply ae
   refine dH ε ?_;refine ay rfl ?_;refine W.exit rfl ?_;have e:Go.Sort.scanSorted (Ξ cmp) e b k=k:=by rw[Go.Sort.scanSorted];simp[ε]
   exact W.stop ⟨rfl,rfl,by rw[<-iN,e];simp⟩
 by_cases ui:an=b
 ·have g:(an:Int)=(b:Int):=J
  rw[if_pos ui] at aM;refine aE g ?_;refine aC (by simp[ui]) ?_;refine Η ?_;exact W.ret ⟨_,rfl,by rw[<-aM];rfl,by rw[<-aM]⟩
 have g:¬(an:Int)=(b:Int):=J
 have w2:=vO (a:=a) (b:=b) J J;rw[if_neg ui] at aM;refine aE g ?_;refine ay (by simp[ui]) ?_;by_cases uf:b-a<50
 ·have ai:((b-a:Nat):Int)<50:=J
  rw[if_pos uf] at aM;refine aE (ς w2 ai) ?_;refine aC η ?_;refine Η ?_;exact W.ret ⟨_,rfl,by rw[<-aM];rfl,by rw[<-aM]⟩
 have ai:¬((b-a:Nat):Int)<50:=J;rw[if_neg uf] at aM;refine aE (ς w2 ai) ?_;refine ay η ?_;obtain⟨p,ω⟩:=aF (an-1);have w3:IntKind.i64.wrap ((an:Int)-1)=(p:Int):=by rw[IntWalk.i64_in _ J];omega
 rw[<-ω] at aM;have aH:an<n:=J;have aI:p<n:=J;obtain⟨L,x,y,ad,δ,Μ,π,⟨U,γ⟩,⟨ο,Ι⟩,cx,eR,ax⟩:=eQ aL cw aH aI;refine W.to (σ':=[.cells 29 1 L]) (env':=[(0,.ms 0 n 0 n),(1,I a),(2,I b),(3,Ο),(9,I (an:Nat)),(10,I (st:Nat))]) ?_ (by rw[ad]) η;clear δ Μ
 repeat apply ae
 refine dH (ς π (ς U (ς γ (ς ο (ς Ι (ς ax (ς aH (ς aI w3)))))))) ?_;refine W.to (σ':=[.cells 29 1 ((Go.Sort.swp e an p).toList.map aL)]) (env':=[(0,.ms 0 n 0 n),(1,I a),(2,I b),(3,Ο),(9,I (an:Nat)),(10,I (st:Nat))]) ?_ (by rw[cx]) η;clear aH aI U γ ο Ι ax cx π ad L x y eR;obtain⟨Ζ,yM⟩:=aF (Go.Sort.swp e an p);have K2:Ζ.size=n:=by rw[yM];exact swp_size cw an p
 rw[<-yM] at aM ⊢;have w4:=vO (a:=a) (b:=an) J J;obtain⟨Ε,ie⟩:=aF (if an-a>=2 then Go.Sort.shiftDown (Ξ cmp) p Ζ else Ζ);rw[<-ie] at aM;have K3:Ε.size=n:=by rw[ie];split;exact fπ (Ξ cmp) p Ζ K2;exact K2
 refine aE w4 ?_;refine W.upto [(0,.ms 0 n 0 n),(1,I a),(2,I b),(3,Ο),(9,I (an:Nat)),(10,I (st:Nat))] [.cells 29 1 ((Ε).toList.map aL)] ?_ ?_
 ·clear aM;by_cases c2:2<=an-a
  ·rw[if_pos c2] at ie;refine aC (by simp;omega) ?_;refine aE w3 ?_;subst ie;refine W.iter (λq:Nat×Array (Int×Int)=>q.1<=p/\q.2.size=n/\Go.Sort.shiftDown (Ξ cmp) q.1 q.2=Go.Sort.shiftDown (Ξ cmp) p Ζ) (λq=>[(0,.ms 0 n 0 n),(1,I a),(2,I b),(3,Ο),(9,I (an:Nat)),(10,I (st:Nat)),(11,I (q.1:Nat))]) (λq=>[.cells 29 1 ((q.2).toList.map aL)]) (λq=>q.1) (p,Ζ) ⟨Nat.le_refl _,K2,rfl⟩ rfl η (λq Χ fL=>?_);obtain⟨j,f⟩:=q;obtain⟨sk,bR,uj⟩:=Χ;simp only at sk bR uj;refine W.to (σ':=[.cells 29 1 ((f).toList.map aL)]) (env':=[(0,.ms 0 n 0 n),(1,I a),(2,I b),(3,Ο),(9,I (an:Nat)),(10,I (st:Nat)),(11,I (j:Nat))]) ?_ rfl η;by_cases ε:1<=j
   ·have g:(1:Int)<=(j:Int):=J
    refine aE g ?_;refine aC η ?_;obtain⟨q,Χ⟩:=aF (j-1);have kR:IntKind.i64.wrap ((j:Int)-1)=(q:Int):=by rw[IntWalk.i64_in _ J];omega
    have wn:IntKind.i64.wrap ((j:Int)-1)=(q:Int):=kR
    have aH:j<n:=J
    have aI:q<n:=J;obtain⟨L,x,y,ad,δ,Μ,π,⟨U,γ⟩,⟨ο,Ι⟩,cx,eR,ax⟩:=eQ aL bR aH aI;have un:Go.Sort.shiftDown (Ξ cmp) j f=if(!Ξ cmp x y)=true then f else Go.Sort.shiftDown (Ξ cmp) q (Go.Sort.swp f j q):=by
     obtain rfl:j=q+1:=J;rw[Go.Sort.shiftDown,δ,Μ]
    refine W.to (σ':=[.cells 29 1 L]) (env':=[(0,.ms 0 n 0 n),(1,I a),(2,I b),(3,Ο),(9,I (an:Nat)),(10,I (st:Nat)),(11,I (j:Nat))]) ?_ (by rw[ad]) η;clear δ Μ
    repeat apply ae
    refine W.draw (A:=[]) Φ mixed λΚ κ=>gi (ς kR (ς π (ς U (ς γ (ς ο (ς Ι (ς aH aI))))))) ?_;refine eD (Ρ x y) ?_;simp;(repeat (rw[cY];simp));try rw[cX]
    refine en (κ _ _ ?_);by_cases hm:cmp x y<0
    ·refine ay (by simp[hm]) ?_;refine W.to (σ':=[.cells 29 1 L]) (env':=[(0,.ms 0 n 0 n),(1,I a),(2,I b),(3,Ο),(9,I (an:Nat)),(10,I (st:Nat)),(11,I (j:Nat))]) ?_ rfl η
     repeat apply ae
     refine dH (ς kR (ς π (ς U (ς γ (ς ο (ς Ι (ς ax (ς aH aI)))))))) ?_;refine aE wn ?_;exact W.to (fL (q,Go.Sort.swp f j q) ⟨J,swp_size bR j q,by rw[<-uj,un];simp[hm,Ξ]⟩ bi) (by rw[cx]) (by simp[wn])
    ·refine aC (by simp[hm]) ?_;refine W.exit rfl ?_;exact W.stop ⟨rfl,by rw[<-ad,<-uj,un];simp[hm,Ξ],η⟩
   ·have g:¬(1:Int)<=(j:Int):=J
    refine aE g ?_;refine ay η ?_;refine W.exit rfl ?_;have e:Go.Sort.shiftDown (Ξ cmp) j f=f:=by
     obtain rfl:j=0:=J;rfl
    exact W.stop ⟨rfl,by rw[<-uj,e],η⟩
  ·rw[if_neg c2] at ie;refine ay (by simp;omega) ?_;refine W.skip ?_;exact W.stop ⟨rfl,by rw[ie],η⟩
 clear ie;have iI:=vO (a:=an) (b:=b) J J;have iJ:=hn (i:=an) J;have lN:=hn (i:=st) J;obtain⟨a8,zx⟩:=aF (if b-an>=2 then Go.Sort.shiftUp (Ξ cmp) b (an+1) Ε else Ε);rw[<-zx] at aM;have fΑ:a8.size=n:=by rw[zx];split;exact fρ (Ξ cmp) (b-(an+1)) (an+1) Ε (Nat.le_refl _) K3;exact K3
 refine aE iI ?_;refine W.upto [(0,.ms 0 n 0 n),(1,I a),(2,I b),(3,Ο),(9,I (an:Nat)),(10,I (st:Nat))] [.cells 29 1 ((a8).toList.map aL)] ?_ ?_
 ·clear aM;by_cases c2:2<=b-an
  ·rw[if_pos c2] at zx;refine aC (by simp;omega) ?_;refine aE iJ ?_;subst zx;refine W.iter (λq:Nat×Array (Int×Int)=>an+1<=q.1/\q.1<=b/\q.2.size=n/\Go.Sort.shiftUp (Ξ cmp) b q.1 q.2=Go.Sort.shiftUp (Ξ cmp) b (an+1) Ε) (λq=>[(0,.ms 0 n 0 n),(1,I a),(2,I b),(3,Ο),(9,I (an:Nat)),(10,I (st:Nat)),(12,I (q.1:Nat))]) (λq=>[.cells 29 1 ((q.2).toList.map aL)]) (λq=>b-q.1) (an+1,Ε) ⟨Nat.le_refl _,J,K3,rfl⟩ rfl η (λq Χ fL=>?_);obtain⟨j,f⟩:=q;obtain⟨sk,A2,bR,uj⟩:=Χ;simp only at sk A2 bR uj;refine W.to (σ':=[.cells 29 1 ((f).toList.map aL)]) (env':=[(0,.ms 0 n 0 n),(1,I a),(2,I b),(3,Ο),(9,I (an:Nat)),(10,I (st:Nat)),(12,I (j:Nat))]) ?_ rfl η;by_cases ε:j<b
   ·have g:(j:Int)<(b:Int):=J
    refine aE g ?_;refine aC η ?_;obtain⟨q,Χ⟩:=aF (j-1);have kR:IntKind.i64.wrap ((j:Int)-1)=(q:Int):=by rw[IntWalk.i64_in _ J];omega
    have wn:=hn (i:=j) J
    have aH:j<n:=J
    have aI:q<n:=J;obtain⟨L,x,y,ad,δ,Μ,π,⟨U,γ⟩,⟨ο,Ι⟩,cx,eR,ax⟩:=eQ aL bR aH aI;have un:Go.Sort.shiftUp (Ξ cmp) b j f=if(!Ξ cmp x y)=true then f else Go.Sort.shiftUp (Ξ cmp) b (j+1) (Go.Sort.swp f j q):=by
     rw[Go.Sort.shiftUp,if_pos ε,<-Χ,δ,Μ]
    refine W.to (σ':=[.cells 29 1 L]) (env':=[(0,.ms 0 n 0 n),(1,I a),(2,I b),(3,Ο),(9,I (an:Nat)),(10,I (st:Nat)),(12,I (j:Nat))]) ?_ (by rw[ad]) η;clear δ Μ
    repeat apply ae
    refine W.draw (A:=[]) Φ mixed λΚ κ=>gi (ς kR (ς π (ς U (ς γ (ς ο (ς Ι (ς aH aI))))))) ?_;refine eD (Ρ x y) ?_;simp;(repeat (rw[cY];simp));try rw[cX]
    refine en (κ _ _ ?_);by_cases hm:cmp x y<0
    ·refine ay (by simp[hm]) ?_;refine W.to (σ':=[.cells 29 1 L]) (env':=[(0,.ms 0 n 0 n),(1,I a),(2,I b),(3,Ο),(9,I (an:Nat)),(10,I (st:Nat)),(12,I (j:Nat))]) ?_ rfl η
     repeat apply ae
     refine dH (ς kR (ς π (ς U (ς γ (ς ο (ς Ι (ς ax (ς aH aI)))))))) ?_;refine aE wn ?_;exact W.to (fL (j+1,Go.Sort.swp f j q) ⟨J,J,swp_size bR j q,by rw[<-uj,un];simp[hm,Ξ]⟩ bi) (by rw[cx]) (by simp[wn])
    ·refine aC (by simp[hm]) ?_;refine W.exit rfl ?_;exact W.stop ⟨rfl,by rw[<-ad,<-uj,un];simp[hm,Ξ],η⟩
   ·have g:¬(j:Int)<(b:Int):=J
    refine aE g ?_;refine ay η ?_;refine W.exit rfl ?_;have e:Go.Sort.shiftUp (Ξ cmp) b j f=f:=by rw[Go.Sort.shiftUp,if_neg ε]
    exact W.stop ⟨rfl,by rw[<-uj,e],η⟩
  ·rw[if_neg c2] at zx;refine ay (by simp;omega) ?_;refine W.skip ?_;exact W.stop ⟨rfl,by rw[zx],η⟩
 refine aE lN ?_;exact W.to (Α (st+1,an,a8) ⟨bi,bi,bi,fΑ,by simp only;rw[show 5-(st+1)=4-st by omega];exact aM⟩ bi) rfl (by simp[lN])
theorem fΒ (n:Nat) (ξ:n<256) (Ο:θ) (cmp:Int×Int->Int×Int->Int) (a9:aG 0 Ο) (Ρ:∀x y,ef Tryz.prog Ο [aL x,aL y] (I (cmp x y))) (eC:Go.Sort.SWO (Ξ cmp)):∀(k:Nat) (d:Array (Int×Int)) (a b lim:Nat),d.size=n->b-a<=k->a<=b->b<=n->lim<2 ^ 40->Go.Sort.Below (Ξ cmp) a b d->
  af Tryz.prog 149 [.ms 0 n 0 n,I a,I b,I lim,Ο] [.cells 29 1 ((d).toList.map aL)] (λr s=>r=.bj []/\s=[.cells 29 1 ((Go.Sort.pdq (Ξ cmp) d a b lim true true).toList.map aL)]) (λ_ _=>False):=by
 intro k
 induction k using Nat.strongRecOn with
 | _ k s8=>
 intro d a b lim Θ ψ e' hb uk dV;refine af.body Φ Tryz.func149 rfl rfl Tryz.ntmps149 rfl rfl η ?_;obtain⟨R,fF⟩:=bG (Go.Sort.pdq (Ξ cmp) d a b lim true true);rw[fF];refine Η ?_;refine W.iter (λq:Rm (Int×Int)=>q.e.size=n/\q.a<=q.b/\q.b<=n/\q.b-q.a<=k/\q.lim<2 ^ 40/\Go.Sort.Below (Ξ cmp) q.a q.b q.e/\Go.Sort.pdq (Ξ cmp) q.e q.a q.b q.lim q.wb q.wp=R) (λq=>[(0,.ms 0 n 0 n),(1,I (q.a:Nat)),(2,I (q.b:Nat)),(3,I (q.lim:Nat)),(4,Ο),(10,ba q.wb),(11,ba q.wp)]) (λq=>[.cells 29 1 ((q.e).toList.map aL)]) (λq=>q.b-q.a) ⟨a,b,lim,true,true,d⟩ ⟨Θ,e',hb,ψ,uk,dV,fF⟩ rfl η (λq Χ Α=>?_);clear fF dV uk hb e' ψ;obtain⟨a,b,lim,wb,wp,e⟩:=q;obtain⟨cw,e',hb,ψ,uk,dV,aM⟩:=Χ;simp only at cw e' hb ψ uk dV aM;obtain⟨l,π⟩:=aF (b-a);have w1:IntKind.i64.wrap ((b:Int)-(a:Int))=(l:Int):=by rw[IntWalk.i64_in _ J];omega
 refine W.to (σ':=[.cells 29 1 ((e).toList.map aL)]) (env':=[(0,.ms 0 n 0 n),(1,I (a:Nat)),(2,I (b:Nat)),(3,I (lim:Nat)),(4,Ο),(10,ba wb),(11,ba wp)]) ?_ rfl η;by_cases hf:b-a<=12
 ·have g:(l:Int)<=12:=J
  refine aE (ς w1 g) ?_;refine aC η ?_;refine bc λΚ κ=>?_;refine af.call (first:=[]) (captured:=[]) ((X1 e n a b cw e' hb J Ο cmp a9 Ρ).mono (λr s ⟨bI,bw⟩=>?_) (λ_ _ h=>h.elim));subst bI;subst bw;simp;(repeat (rw[ah];simp));apply κ;rw[Go.Sort.pdq_small hf] at aM;exact W.ret ⟨_,rfl,rfl,by rw[<-aM]⟩
 have g:¬(l:Int)<=12:=J;refine aE (ς w1 g) ?_;refine ay η ?_;by_cases ao:lim=0
 ·have cN:(lim:Int)=0:=J
  refine aE cN ?_;refine aC (by simp[ao]) ?_;refine bc λΚ κ=>?_;refine af.call (first:=[]) (captured:=[]) ((fν e n a b cw J J hb Ο cmp a9 Ρ).mono (λr s ⟨bI,bw⟩=>?_) (λ_ _ h=>h.elim));subst bI;subst bw;simp;(repeat (rw[ah];simp));apply κ;rw[Go.Sort.pdq_heap hf ao] at aM;exact W.ret ⟨_,rfl,rfl,by rw[<-aM]⟩
 have cN:¬(lim:Int)=0:=J;refine aE cN ?_;refine ay (by simp[ao]) ?_;refine Η ?_;have F:=Go.Sort.rd_facts (limit:=lim) (wb:=wb) (wp:=wp) eC Go.Sort.partialInsertionSort_holds Go.Sort.reverseRange_holds (by omega:a<b) J dV;have Ci:=Go.Sort.rd_lim_le (lt:=(Ξ cmp)) (d:=e) (a:=a) (b:=b) (limit:=lim) (wb:=wb) (wp:=wp);have um:=λh:wb=false=>show(Go.Sort.rd (Ξ cmp) e a b lim wb wp).d1=Go.Sort.breakPatterns e a b/\(Go.Sort.rd (Ξ cmp) e a b lim wb wp).lim=lim-1 by subst h;exact Go.Sort.rd_false
 have uo:=λh:wb=true=>show(Go.Sort.rd (Ξ cmp) e a b lim wb wp).d1=e/\(Go.Sort.rd (Ξ cmp) e a b lim wb wp).lim=lim by subst h;exact Go.Sort.rd_true
 have uq:=Go.Sort.rd_c (lt:=(Ξ cmp)) (d:=e) (a:=a) (b:=b) (limit:=lim) (wb:=wb) (wp:=wp)
 have Fd:=Go.Sort.rd_dec (lt:=(Ξ cmp)) (d:=e) (a:=a) (b:=b) (limit:=lim) (wb:=wb) (wp:=wp)
 have Fn:=Go.Sort.rd_not (lt:=(Ξ cmp)) (d:=e) (a:=a) (b:=b) (limit:=lim) (wb:=wb) (wp:=wp)
 have rB:=Go.Sort.rd_pi_yes (lt:=(Ξ cmp)) (d:=e) (a:=a) (b:=b) (limit:=lim) (wb:=wb) (wp:=wp)
 have rC:=Go.Sort.rd_pi_no (lt:=(Ξ cmp)) (d:=e) (a:=a) (b:=b) (limit:=lim) (wb:=wb) (wp:=wp)
 have iK:=Go.Sort.pdq_done (lt:=(Ξ cmp)) (d:=e) (wb:=wb) (wp:=wp) hf ao
 have g0:=Go.Sort.pdq_eq (lt:=(Ξ cmp)) (d:=e) (wb:=wb) (wp:=wp) hf ao
 have fT:=Go.Sort.pdq_left (lt:=(Ξ cmp)) (d:=e) (wb:=wb) (wp:=wp) hf ao
 have fU:=Go.Sort.pdq_right (lt:=(Ξ cmp)) (d:=e) (wb:=wb) (wp:=wp) hf ao;rw[aM] at iK g0 fT fU;obtain⟨r,μ⟩:=bG (Go.Sort.rd (Ξ cmp) e a b lim wb wp);rw[μ] at F Ci um uo uq Fd Fn rB rC iK g0 fT fU;clear μ;obtain⟨d1,eO,⟨xN,ch⟩,d2,iu,rD,d3,done⟩:=r;simp only at F Ci um uo uq Fd Fn rB rC iK g0 fT fU;obtain⟨xO,fΓ,fΔ,xP,fΕ,mh,mi,Cj⟩:=F;rw[cw] at xO xP mi;refine W.upto [(0,.ms 0 n 0 n),(1,I (a:Nat)),(2,I (b:Nat)),(3,I (eO:Nat)),(4,Ο),(10,ba wb),(11,ba wp),(12,I (l:Nat))] [.cells 29 1 ((d1).toList.map aL)] ?_ ?_
 ·cases wb with
  | false=>
   obtain⟨f1,f2⟩:=um rfl;refine aC rfl ?_;refine bc λΚ κ=>?_;refine af.call (first:=[]) (captured:=[]) ((fψ e n a b cw J J J hb Ο cmp a9 Ρ).mono (λr s ⟨bI,bw⟩=>?_) (λ_ _ h=>h.elim));subst bI;subst bw;simp;(repeat (rw[ah];simp));apply κ;have w2:=ir (i:=lim) J J;refine ov w2 ?_;exact W.stop ⟨rfl,by rw[f1],by simp[f2]⟩
  | true=>
   obtain⟨f1,f2⟩:=uo rfl;refine ay rfl ?_;refine W.skip ?_;exact W.stop ⟨rfl,by rw[f1],by simp[f2]⟩
 have xQ:=fς d1 n a b xO J J hb Ο cmp a9 Ρ;rw[<-uq] at xQ;simp only at xQ;refine bc λΚ κ=>?_;refine af.call (first:=[]) (captured:=[]) ((xQ).mono (λr s ⟨bI,bw⟩=>?_) (λ_ _ h=>h.elim));subst bI;subst bw;simp;(repeat (rw[ah];simp));apply κ;refine W.to (σ':=[.cells 29 1 ((d1).toList.map aL)]) (env':=[(0,.ms 0 n 0 n),(1,I (a:Nat)),(2,I (b:Nat)),(3,I (eO:Nat)),(4,Ο),(10,ba wb),(11,ba wp),(12,I (l:Nat)),(13,I (xN:Nat)),(14,I (qt ch))]) ?_ rfl η;refine Η ?_;refine W.upto [(0,.ms 0 n 0 n),(1,I (a:Nat)),(2,I (b:Nat)),(3,I (eO:Nat)),(4,Ο),(10,ba wb),(11,ba wp),(12,I (l:Nat)),(13,I (iu:Nat)),(14,I (qt rD))] [.cells 29 1 ((d2).toList.map aL)] ?_ ?_
 ·by_cases hd:ch=.decreasing
  ·obtain⟨f1,f2,f3⟩:=Fd hd;subst hd;refine aC rfl ?_;refine bc λΚ κ=>?_;refine af.call (first:=[]) (captured:=[]) ((fξ d1 n a b xO J J hb Ο cmp a9 Ρ).mono (λr s ⟨bI,bw⟩=>?_) (λ_ _ h=>h.elim));subst bI;subst bw;simp;(repeat (rw[ah];simp));apply κ;have w2:=ir (i:=b) J J;have w3:=vO (a:=a) (b:=xN) J J;have w4:=vO (a:=xN-a) (b:=b-1) J J;rw[<-f2] at w4;refine W.seq ?_;refine ov (ς w2 (ς w3 w4)) ?_;refine l9 ?_;exact W.stop ⟨rfl,by rw[f1],by simp[f3,qt]⟩
  ·obtain⟨f1,f2,f3⟩:=Fn hd;refine ay (by cases ch with
    | decreasing=>exact absurd rfl hd
    | unknown=>rfl
    | increasing=>rfl) ?_
   refine W.skip ?_;exact W.stop ⟨rfl,by rw[f1],by simp[f2,f3]⟩
 repeat apply ae
 refine W.ts (A:=[]) Φ [(75,ba (wb&&wp&&decide (rD=.increasing))),(0,.ms 0 n 0 n),(1,I (a:Nat)),(2,I (b:Nat)),(3,I (eO:Nat)),(4,Ο),(10,ba wb),(11,ba wp),(12,I (l:Nat)),(13,I (iu:Nat))] ?_ (by cases wb<;>cases wp<;>cases rD<;>simp[ah,pY,qt])
 repeat apply ae
 rcases Bool.eq_false_or_eq_true done with h8|h8
 ·cases ε:(wb&&wp&&decide (rD=.increasing)) with
  | true=>
   have f:=rB ε;refine aC rfl ?_;have g1:=Rt d2 n a b xP J J hb Ο cmp a9 Ρ;rw[<-f] at g1;simp only[h8] at g1;refine bc λΚ κ=>?_;refine af.call (first:=[]) (captured:=[]) ((g1).mono (λr s ⟨bI,bw⟩=>?_) (λ_ _ h=>h.elim));subst bI;subst bw;simp;(repeat (rw[ah];simp));apply κ;refine aC rfl ?_;exact W.ret ⟨_,rfl,rfl,by rw[iK h8]⟩
  | false=>
   have f:=(Prod.mk.inj (rC ε)).2;rw[h8] at f;cases f
 refine W.upto [(0,.ms 0 n 0 n),(1,I (a:Nat)),(2,I (b:Nat)),(3,I (eO:Nat)),(4,Ο),(10,ba wb),(11,ba wp),(12,I (l:Nat)),(13,I (iu:Nat))] [.cells 29 1 ((d3).toList.map aL)] ?_ ?_
 ·cases ε:(wb&&wp&&decide (rD=.increasing)) with
  | true=>
   have f:=rB ε;refine aC rfl ?_;have g1:=Rt d2 n a b xP J J hb Ο cmp a9 Ρ;rw[<-f] at g1;simp only[h8] at g1;refine bc λΚ κ=>?_;refine af.call (first:=[]) (captured:=[]) ((g1).mono (λr s ⟨bI,bw⟩=>?_) (λ_ _ h=>h.elim));subst bI;subst bw;simp;(repeat (rw[ah];simp));apply κ;refine ay rfl ?_;refine W.skip ?_;exact W.stop ⟨rfl,rfl,η⟩
  | false=>
   have f1:=(Prod.mk.inj (rC ε)).1;refine ay rfl ?_;refine W.skip ?_;exact W.stop ⟨rfl,by rw[f1],η⟩
 clear iK rB rC Fd Fn uq um uo;have g0:=g0 h8;have fT:=fT h8;have fU:=fU h8;obtain⟨P,n1⟩:=bG ((decide (a > 0)&&!Ξ cmp d3[a-1]! d3[iu]!):Bool);rw[n1] at g0 fT fU
 repeat apply ae
 refine W.yP (A:=[]) Φ mixed [(97,ba P),(0,.ms 0 n 0 n),(1,I (a:Nat)),(2,I (b:Nat)),(3,I (eO:Nat)),(4,Ο),(10,ba wb),(11,ba wp),(12,I (l:Nat)),(13,I (iu:Nat))] ?_ (by
  by_cases ν:0<a
  ·obtain⟨p,ω⟩:=aF (a-1);have aH:p<n:=J;have aI:iu<n:=J;obtain⟨L,x,y,ad,δ,Μ,π,⟨U,γ⟩,⟨ο,Ι⟩,-,-⟩:=eQ aL mi aH aI;have xR:P = !Ξ cmp x y:=by rw[<-n1,<-ω,δ,Μ];simp[ν]
   have ew:(0:Int)<(a:Int):=J
   have w2:IntKind.i64.wrap ((a:Int)-1)=(p:Int):=by rw[IntWalk.i64_in _ J];omega
   rw[ad];clear δ Μ;simp;(repeat (rw[cY];simp[ν,ew,w2,π,U,γ,ο,Ι,aH,aI]));(try rw[cX]);refine eD (Ρ x y) ?_;simp;(repeat (rw[cY];simp));(try rw[cX]);refine⟨hX (by kernel_rfl),?_⟩;simp[xR,Ξ]
  ·have xR:P=false:=by rw[<-n1];simp[ν]
   have ew:a=0:=J;subst ew;simp;(repeat (rw[cY];simp));(try rw[cX]);refine⟨hX (by kernel_rfl),?_⟩;simp[xR])
 repeat apply ae
 rcases Bool.eq_false_or_eq_true P with n2|n2
 ·refine aC (by simp[n2]) ?_;rw[n2] at n1;simp only[Bool.and_eq_true,decide_eq_true_eq,Bool.not_eq_true'] at n1;obtain⟨⟨mid,d4⟩,δ⟩:∃r,Go.Sort.partitionEqual (Ξ cmp) d3 a b iu=r:=⟨_,rfl⟩;obtain⟨d',dG,mY,q6,-⟩:=Go.Sort.round_eq eC (Go.Sort.partitionEqual_holds _) n1.1 mh.1 mh.2 (by rw[mi];exact hb) Cj n1.2 δ;have g0:=g0 n2;rw[δ] at g0;have g0:=g0 ⟨d',dG⟩;simp only at g0;have g1:=fθ d3 n a b iu mi J mh.1 mh.2 hb Ο cmp a9 Ρ;rw[δ] at g1;simp only at g1;refine bc λΚ κ=>?_;refine af.call (first:=[]) (captured:=[]) ((g1).mono (λr s ⟨bI,bw⟩=>?_) (λ_ _ h=>h.elim));subst bI;subst bw;simp;(repeat (rw[ah];simp));apply κ;refine Η ?_;refine W.exit rfl ?_;exact W.to (Α ⟨mid,b,eO,wb,wp,d4⟩ ⟨mY.trans mi,dG,hb,bi,bi,q6,g0.symm⟩ bi) rfl η
 refine ay (by simp[n2]) ?_;obtain⟨⟨mid,ap,d4⟩,δ⟩:∃r,Go.Sort.partition (Ξ cmp) d3 a b iu=r:=⟨_,rfl⟩;obtain⟨d',dG,mY,q6,tJ,K4,Ck⟩:=Go.Sort.round_part eC (Go.Sort.partition_holds _) mh.1 mh.2 (by rw[mi];exact hb) Cj δ;have fT:=fT n2;have fU:=fU n2;rw[δ] at fT fU;have fT:=fT ⟨d',dG⟩;have fU:=fU ⟨d',dG⟩;simp only at fT fU;have g1:=fδ d3 n a b iu mi J mh.1 mh.2 hb Ο cmp a9 Ρ;rw[δ] at g1;simp only at g1;have uu:d4.size=n:=mY.trans mi;obtain⟨u,hu⟩:=aF (mid-a);obtain⟨v,hv⟩:=aF (b-mid);obtain⟨qz,Cl⟩:=aF (l / 8);obtain⟨b9,g8⟩:=aF (mid+1);have kR:IntKind.i64.wrap ((mid:Int)-(a:Int))=(u:Int):=by rw[IntWalk.i64_in _ J];omega
 have iI:IntKind.i64.wrap ((b:Int)-(mid:Int))=(v:Int):=by rw[IntWalk.i64_in _ J];omega
 have iJ:IntKind.i64.wrap ((l:Int) / 8)=(qz:Int):=by rw[Cl];exact vN (m:=8) J
 have lN:IntKind.i64.wrap ((mid:Int)+1)=(b9:Int):=by rw[IntWalk.i64_in _ J];omega
 rw[<-hu,<-hv,<-π,<-Cl,<-g8] at fT fU;refine bc λΚ κ=>?_;refine af.call (first:=[]) (captured:=[]) ((g1).mono (λr s ⟨bI,bw⟩=>?_) (λ_ _ h=>h.elim));subst bI;subst bw;simp;(repeat (rw[ah];simp));apply κ;by_cases qe:u<v
 ·have aa:(u:Int)<(v:Int):=J
  refine aE (ς kR (ς iI (ς iJ @aa))) ?_;refine aC η ?_;obtain⟨dz,p2⟩:=Go.Sort.pdq_sorts (Ξ cmp) eC d4 a mid eO true true d' J q6;have rE:=s8 (mid-a) J d4 a mid eO uu (Nat.le_refl _) d' J J q6;have fT:=fT qe;obtain⟨B',-⟩:=K4 _ dz p2;have s1:=dz.1.trans uu;obtain⟨Ε,ie⟩:=bG (Go.Sort.pdq (Ξ cmp) d4 a mid eO true true);rw[ie] at rE fT B' s1;refine bc λΚ κ=>?_;apply κ;refine bc λΚ κ=>?_;refine af.call (first:=[]) (captured:=[]) ((rE).mono (λr s ⟨bI,bw⟩=>?_) (λ_ _ h=>h.elim));subst bI;subst bw;simp;(repeat (rw[ah];simp));apply κ;refine aE lN ?_;exact W.to (Α ⟨b9,b,eO,decide (u>=qz),ap,Ε⟩ ⟨s1,bi,hb,bi,bi,by simp only;rw[g8];exact B',fT.symm⟩ bi) rfl η
 ·have aa:¬(u:Int)<(v:Int):=J
  refine aE (ς kR (ς iI (ς iJ @aa))) ?_;refine ay η ?_;obtain⟨dz,p2⟩:=Go.Sort.pdq_sorts (Ξ cmp) eC d4 (mid+1) b eO true true J J tJ;rw[<-g8] at dz p2 tJ;have rE:=s8 (b-b9) J d4 b9 b eO uu (Nat.le_refl _) J hb J tJ;have fU:=fU qe;rw[<-g8] at Ck;obtain⟨B',-⟩:=Ck _ dz p2;have s1:=dz.1.trans uu;obtain⟨Ε,ie⟩:=bG (Go.Sort.pdq (Ξ cmp) d4 b9 b eO true true);rw[ie] at rE fU B' s1;refine bc λΚ κ=>?_;apply κ;refine g9 lN λΚ κ=>?_;refine af.call (first:=[]) (captured:=[]) ((rE).mono (λr s ⟨bI,bw⟩=>?_) (λ_ _ h=>h.elim));subst bI;subst bw;simp;(repeat (rw[ah];simp));apply κ;refine Η ?_;exact W.to (Α ⟨a,mid,eO,decide (v>=qz),ap,Ε⟩ ⟨s1,d',bi,bi,bi,B',fU.symm⟩ bi) rfl η
theorem fΖ (d:Array (Int×Int)) (n a b p:Nat) (Θ:d.size=n) (ξ:n<2 ^ 40) (iR:a<=p) (KC:p<b) (hb:b<=n) (Ο:θ) (cmp:Int×Int->Int×Int->Int) (a9:aG 0 Ο) (Ρ:∀x y,ef Tryz.prog Ο [aK x,aK y] (I (cmp x y))) :
  af Tryz.prog 241 [.ms 0 n 0 n,I a,I b,I p,Ο] [.cells 112 2 ((d).toList.map aK)] (λr s=>r=.bj [I (Go.Sort.partition (Ξ cmp) d a b p).1,ba (Go.Sort.partition (Ξ cmp) d a b p).2.1]/\s=[.cells 112 2 (((Go.Sort.partition (Ξ cmp) d a b p).2.2).toList.map aK)]) (λ_ _=>False):=by
 refine af.body Φ Tryz.func241 rfl rfl Tryz.ntmps241 rfl rfl η ?_;have h0:=hn (i:=a) J;have g4:=ir (i:=b) J J
 repeat apply ae
 refine l9 ?_;have aH:a<n:=J;have aI:p<n:=J;obtain⟨L,x,y,ad,δ,Μ,π,⟨U,γ⟩,⟨ο,Ι⟩,cx,eR,ax⟩:=eQ aK Θ aH aI;refine W.to (σ':=[.cells 112 2 L]) (env':=[(0,.ms 0 n 0 n),(1,I a),(2,I b),(3,I p),(4,Ο)]) ?_ (by rw[ad]) η;clear δ Μ
 repeat apply ae
 refine dH (ς π (ς U (ς γ (ς ο (ς Ι (ς ax (ς aH aI))))))) ?_;refine W.to (σ':=[.cells 112 2 ((Go.Sort.swp d a p).toList.map aK)]) (env':=[(0,.ms 0 n 0 n),(1,I a),(2,I b),(3,I p),(4,Ο)]) ?_ (by rw[cx]) η;clear aH aI U γ ο Ι ax cx π ad L x y eR;obtain⟨e,he⟩:=aF (Go.Sort.swp d a p);have cw:e.size=n:=by rw[he];exact swp_size Θ a p
 rw[<-he]
 repeat apply ae
 refine ov (ς h0 g4) ?_;refine W.to (σ':=[.cells 112 2 ((e).toList.map aK)]) (env':=[(0,.ms 0 n 0 n),(1,I a),(4,Ο),(12,I (a+1:Nat)),(13,I (b-1:Nat))]) ?_ rfl η;obtain⟨an,dW⟩:=bG (Go.Sort.scanUp (λx=>Ξ cmp x e[a]!) e (b-1) (a+1));obtain⟨av,cV⟩:=bG (Go.Sort.scanDown (λx=>!Ξ cmp x e[a]!) e an (b-1));obtain⟨s1,s2,lu,qA,kV⟩:=vM (λx=>Ξ cmp x e[a]!) (λx=>!Ξ cmp x e[a]!) (λx=>rfl) e J J dW cV;have cF:Go.Sort.partition (Ξ cmp) d a b p=if an > av then(av,true,Go.Sort.swp e av a) else((Go.Sort.partLoop (Ξ cmp) a (an+1) (av-1) (Go.Sort.swp e an av)).1,false,Go.Sort.swp (Go.Sort.partLoop (Ξ cmp) a (an+1) (av-1) (Go.Sort.swp e an av)).2 (Go.Sort.partLoop (Ξ cmp) a (an+1) (av-1) (Go.Sort.swp e an av)).1 a):=by
  unfold Go.Sort.partition;simp only[<-he,dW,cV]
 repeat apply ae
 repeat apply ae
 refine W.kQ [(0,.ms 0 n 0 n),(1,I a),(4,Ο),(12,I (an:Nat)),(13,I (b-1:Nat))] [.cells 112 2 ((e).toList.map aK)] ?_ ?_
 ·refine W.iter (λi:Nat=>(a+1)<=i/\i<=(b-1)+1/\Go.Sort.scanUp (λx=>Ξ cmp x e[a]!) e (b-1) i=an) (λi=>[(0,.ms 0 n 0 n),(1,I a),(4,Ο),(12,I (i:Nat)),(13,I (b-1:Nat))]) (λ_=>[.cells 112 2 ((e).toList.map aK)]) (λi=>(b-1)+1-i) ((a+1)) ⟨Nat.le_refl _,J,dW⟩ rfl η (λi hi Α=>?_);obtain⟨i',jd,dv⟩:=hi;by_cases ε:i<=(b-1)
  ·have aH:i<n:=J
   have aI:a<n:=J;obtain⟨L,x,y,ad,δ,Μ,π,⟨U,γ⟩,⟨ο,Ι⟩,-,-⟩:=eQ aK cw aH aI;have un:Go.Sort.scanUp (λx=>Ξ cmp x e[a]!) e (b-1) i=if(Ξ cmp x y)=true then Go.Sort.scanUp (λx=>Ξ cmp x e[a]!) e (b-1) (i+1) else i:=by rw[Go.Sort.scanUp];simp[ε,δ,Μ]
   have hw:=hn (i:=i) J;refine W.to (σ':=[.cells 112 2 L]) (env':=[(0,.ms 0 n 0 n),(1,I a),(4,Ο),(12,I (i:Nat)),(13,I (b-1:Nat))]) ?_ (by rw[ad]) η;clear δ Μ
   repeat apply ae
   refine W.draw (A:=[]) Φ mixed λΚ κ=>gi (ς ε (ς π (ς U (ς γ (ς ο (ς Ι (ς aH aI))))))) ?_;refine eD (Ρ x y) ?_;simp;(repeat (rw[cY];simp));try rw[cX]
   refine en (κ _ _ ?_);by_cases hm:cmp x y<0
   ·refine aC (by simp[hm]) ?_;refine aE hw ?_;exact W.to (Α (i+1) ⟨J,J,by rw[<-dv,un];simp[hm,Ξ]⟩ bi) (by rw[ad]) (by simp[hw])
   ·refine ay (by simp[hm]) ?_;refine W.exit rfl ?_;exact W.stop ⟨rfl,by rw[ad],by rw[<-dv,un];simp[hm,Ξ]⟩
  ·repeat apply ae
   refine dH ε ?_;refine ay rfl ?_;refine W.exit rfl ?_;have e:Go.Sort.scanUp (λx=>Ξ cmp x e[a]!) e (b-1) i=i:=by rw[Go.Sort.scanUp];simp[ε]
   exact W.stop ⟨rfl,rfl,by rw[<-dv,e];simp⟩
 repeat apply ae
 refine W.kQ [(0,.ms 0 n 0 n),(1,I a),(4,Ο),(12,I (an:Nat)),(13,I (av:Nat))] [.cells 112 2 ((e).toList.map aK)] ?_ ?_
 ·refine W.iter (λi:Nat=>i<=(b-1)/\an<=i+1/\Go.Sort.scanDown (λx=>!Ξ cmp x e[a]!) e an i=av) (λi=>[(0,.ms 0 n 0 n),(1,I a),(4,Ο),(12,I (an:Nat)),(13,I (i:Nat))]) (λ_=>[.cells 112 2 ((e).toList.map aK)]) (λi=>i+1-an) ((b-1)) ⟨Nat.le_refl _,J,cV⟩ rfl η (λi hi Α=>?_);obtain⟨i',jd,dv⟩:=hi;by_cases ε:an<=i
  ·have aH:i<n:=J
   have aI:a<n:=J;obtain⟨L,x,y,ad,δ,Μ,π,⟨U,γ⟩,⟨ο,Ι⟩,-,-⟩:=eQ aK cw aH aI;obtain⟨q,Χ⟩:∃q,i=q+1:=⟨i-1,J⟩;have un:Go.Sort.scanDown (λx=>!Ξ cmp x e[a]!) e an i=if(!Ξ cmp x y)=true then Go.Sort.scanDown (λx=>!Ξ cmp x e[a]!) e an (i-1) else i:=by subst Χ;rw[Go.Sort.scanDown];simp[ε,δ,Μ]
   have hw:=ir (i:=i) J J;refine W.to (σ':=[.cells 112 2 L]) (env':=[(0,.ms 0 n 0 n),(1,I a),(4,Ο),(12,I (an:Nat)),(13,I (i:Nat))]) ?_ (by rw[ad]) η;clear δ Μ
   repeat apply ae
   refine W.draw (A:=[]) Φ mixed λΚ κ=>gi (ς ε (ς π (ς U (ς γ (ς ο (ς Ι (ς aH aI))))))) ?_;refine eD (Ρ x y) ?_;simp;(repeat (rw[cY];simp));try rw[cX]
   refine en (κ _ _ ?_);by_cases hm:cmp x y<0
   ·refine ay (by simp[hm]) ?_;refine W.exit rfl ?_;exact W.stop ⟨rfl,by rw[ad],by rw[<-dv,un];simp[hm,Ξ]⟩
   ·refine aC (by simp[hm]) ?_;refine aE hw ?_;exact W.to (Α (i-1) ⟨J,J,by rw[<-dv,un];simp[hm,Ξ]⟩ bi) (by rw[ad]) (by simp[hw])
  ·repeat apply ae
   refine dH ε ?_;refine ay rfl ?_;refine W.exit rfl ?_;have e:Go.Sort.scanDown (λx=>!Ξ cmp x e[a]!) e an i=i:=by exact zv _ _ J
   exact W.stop ⟨rfl,rfl,by rw[<-dv,e];simp⟩
 repeat apply ae
 by_cases ε:an > av
 ·have a2:((av:Nat):Int)<(an:Nat):=J
  refine aE a2 ?_;refine aC (by simp[ε]) ?_;have aH:av<n:=J;have aI:a<n:=J;obtain⟨L,x,y,ad,δ,Μ,π,⟨U,γ⟩,⟨ο,Ι⟩,cx,eR,ax⟩:=eQ aK cw aH aI;refine W.to (σ':=[.cells 112 2 L]) (env':=[(0,.ms 0 n 0 n),(1,I a),(4,Ο),(12,I (an:Nat)),(13,I (av:Nat))]) ?_ (by rw[ad]) η;clear δ Μ
  repeat apply ae
  refine dH (ς π (ς U (ς γ (ς ο (ς Ι (ς ax (ς aH aI))))))) ?_;refine W.to (σ':=[.cells 112 2 ((Go.Sort.swp e av a).toList.map aK)]) (env':=[(0,.ms 0 n 0 n),(1,I a),(4,Ο),(12,I (an:Nat)),(13,I (av:Nat))]) ?_ (by rw[cx]) η;clear aH aI U γ ο Ι ax cx π ad L x y eR;refine Η ?_;exact W.ret ⟨_,rfl,by rw[cF,if_pos ε];rfl,by rw[cF,if_pos ε]⟩
 have a2:¬((av:Nat):Int)<(an:Nat):=J
 have wa:=kV J
 have gZ:=hn (i:=an) J
 have jQ:=ir (i:=av) J J;refine aE a2 ?_;refine ay (by simp[ε]) ?_;have aH:an<n:=J;have aI:av<n:=J;obtain⟨L,x,y,ad,δ,Μ,π,⟨U,γ⟩,⟨ο,Ι⟩,cx,eR,ax⟩:=eQ aK cw aH aI;refine W.to (σ':=[.cells 112 2 L]) (env':=[(0,.ms 0 n 0 n),(1,I a),(4,Ο),(12,I (an:Nat)),(13,I (av:Nat))]) ?_ (by rw[ad]) η;clear δ Μ
 repeat apply ae
 refine dH (ς π (ς U (ς γ (ς ο (ς Ι (ς ax (ς aH aI))))))) ?_;refine W.to (σ':=[.cells 112 2 ((Go.Sort.swp e an av).toList.map aK)]) (env':=[(0,.ms 0 n 0 n),(1,I a),(4,Ο),(12,I (an:Nat)),(13,I (av:Nat))]) ?_ (by rw[cx]) η;clear aH aI U γ ο Ι ax cx π ad L x y eR;have qG:=swp_size cw an av;rw[if_neg ε] at cF;obtain⟨g,Ω⟩:=aF (Go.Sort.swp e an av);rw[<-Ω] at cF qG;rw[<-Ω];refine aE (ς gZ jQ) ?_;refine W.to (σ':=[.cells 112 2 ((g).toList.map aK)]) (env':=[(0,.ms 0 n 0 n),(1,I a),(4,Ο),(12,I (an+1:Nat)),(13,I (av-1:Nat))]) ?_ rfl (by simp[gZ,jQ]);have fε:a<an:=J;have fζ:av<b:=J;have fη:an+1<=av-1+1:=J;clear dW cV a2 ε s1 s2 lu qA kV Ω gZ jQ;obtain⟨R,fF⟩:=bG (Go.Sort.partLoop (Ξ cmp) a (an+1) (av-1) g)
 repeat apply ae
 refine W.kQ [(0,.ms 0 n 0 n),(1,I a),(13,I R.1)] [.cells 112 2 ((R.2).toList.map aK)] ?_ ?_
 ·refine W.iter (λq:Nat×Nat×Array (Int×Int)=>q.2.2.size=n/\a<q.1/\q.1<=q.2.1+1/\q.2.1<b/\Go.Sort.partLoop (Ξ cmp) a q.1 q.2.1 q.2.2=R) (λq=>[(0,.ms 0 n 0 n),(1,I a),(4,Ο),(12,I (q.1:Nat)),(13,I (q.2.1:Nat))]) (λq=>[.cells 112 2 ((q.2.2).toList.map aK)]) (λq=>q.2.1+1-q.1) (an+1,av-1,g) ⟨qG,bi,bi,bi,fF⟩ rfl η (λq hi Α=>?_);obtain⟨i,j,f⟩:=q;obtain⟨bR,i',jd,dv,aM⟩:=hi;simp only at bR i' jd dv aM;obtain⟨an,dW⟩:=bG (Go.Sort.scanUp (λx=>Ξ cmp x f[a]!) f (j) (i));obtain⟨av,cV⟩:=bG (Go.Sort.scanDown (λx=>!Ξ cmp x f[a]!) f an (j));obtain⟨s1,s2,lu,qA,kV⟩:=vM (λx=>Ξ cmp x f[a]!) (λx=>!Ξ cmp x f[a]!) (λx=>rfl) f J J dW cV;have cF:Go.Sort.partLoop (Ξ cmp) a i j f=if an > av then(av,f) else Go.Sort.partLoop (Ξ cmp) a (an+1) (av-1) (Go.Sort.swp f an av):=by
   rw[Go.Sort.partLoop_eq];simp only[dW,cV]
  refine W.to (σ':=[.cells 112 2 ((f).toList.map aK)]) (env':=[(0,.ms 0 n 0 n),(1,I a),(4,Ο),(12,I (i:Nat)),(13,I (j:Nat))]) ?_ rfl η;refine W.block ?_
  repeat apply ae
  refine W.kQ [(0,.ms 0 n 0 n),(1,I a),(4,Ο),(12,I (an:Nat)),(13,I (j:Nat))] [.cells 112 2 ((f).toList.map aK)] ?_ ?_
  ·refine W.iter (λi:Nat=>(i)<=i/\i<=(j)+1/\Go.Sort.scanUp (λx=>Ξ cmp x f[a]!) f (j) i=an) (λi=>[(0,.ms 0 n 0 n),(1,I a),(4,Ο),(12,I (i:Nat)),(13,I (j:Nat))]) (λ_=>[.cells 112 2 ((f).toList.map aK)]) (λi=>(j)+1-i) ((i)) ⟨Nat.le_refl _,J,dW⟩ rfl η (λi hi Α=>?_);obtain⟨i',jd,dv⟩:=hi;by_cases ε:i<=(j)
   ·have aH:i<n:=J
    have aI:a<n:=J;obtain⟨L,x,y,ad,δ,Μ,π,⟨U,γ⟩,⟨ο,Ι⟩,-,-⟩:=eQ aK bR aH aI;have un:Go.Sort.scanUp (λx=>Ξ cmp x f[a]!) f (j) i=if(Ξ cmp x y)=true then Go.Sort.scanUp (λx=>Ξ cmp x f[a]!) f (j) (i+1) else i:=by rw[Go.Sort.scanUp];simp[ε,δ,Μ]
    have hw:=hn (i:=i) J;refine W.to (σ':=[.cells 112 2 L]) (env':=[(0,.ms 0 n 0 n),(1,I a),(4,Ο),(12,I (i:Nat)),(13,I (j:Nat))]) ?_ (by rw[ad]) η;clear δ Μ
    repeat apply ae
    refine W.draw (A:=[]) Φ mixed λΚ κ=>gi (ς ε (ς π (ς U (ς γ (ς ο (ς Ι (ς aH aI))))))) ?_;refine eD (Ρ x y) ?_;simp;(repeat (rw[cY];simp));try rw[cX]
    refine en (κ _ _ ?_);by_cases hm:cmp x y<0
    ·refine aC (by simp[hm]) ?_;refine aE hw ?_;exact W.to (Α (i+1) ⟨J,J,by rw[<-dv,un];simp[hm,Ξ]⟩ bi) (by rw[ad]) (by simp[hw])
    ·refine ay (by simp[hm]) ?_;refine W.exit rfl ?_;exact W.stop ⟨rfl,by rw[ad],by rw[<-dv,un];simp[hm,Ξ]⟩
   ·repeat apply ae
    refine dH ε ?_;refine ay rfl ?_;refine W.exit rfl ?_;have e:Go.Sort.scanUp (λx=>Ξ cmp x f[a]!) f (j) i=i:=by rw[Go.Sort.scanUp];simp[ε]
    exact W.stop ⟨rfl,rfl,by rw[<-dv,e];simp⟩
  repeat apply ae
  refine W.kQ [(0,.ms 0 n 0 n),(1,I a),(4,Ο),(12,I (an:Nat)),(13,I (av:Nat))] [.cells 112 2 ((f).toList.map aK)] ?_ ?_
  ·refine W.iter (λi:Nat=>i<=(j)/\an<=i+1/\Go.Sort.scanDown (λx=>!Ξ cmp x f[a]!) f an i=av) (λi=>[(0,.ms 0 n 0 n),(1,I a),(4,Ο),(12,I (an:Nat)),(13,I (i:Nat))]) (λ_=>[.cells 112 2 ((f).toList.map aK)]) (λi=>i+1-an) ((j)) ⟨Nat.le_refl _,J,cV⟩ rfl η (λi hi Α=>?_);obtain⟨i',jd,dv⟩:=hi;by_cases ε:an<=i
   ·have aH:i<n:=J
    have aI:a<n:=J;obtain⟨L,x,y,ad,δ,Μ,π,⟨U,γ⟩,⟨ο,Ι⟩,-,-⟩:=eQ aK bR aH aI;obtain⟨q,Χ⟩:∃q,i=q+1:=⟨i-1,J⟩;have un:Go.Sort.scanDown (λx=>!Ξ cmp x f[a]!) f an i=if(!Ξ cmp x y)=true then Go.Sort.scanDown (λx=>!Ξ cmp x f[a]!) f an (i-1) else i:=by subst Χ;rw[Go.Sort.scanDown];simp[ε,δ,Μ]
    have hw:=ir (i:=i) J J;refine W.to (σ':=[.cells 112 2 L]) (env':=[(0,.ms 0 n 0 n),(1,I a),(4,Ο),(12,I (an:Nat)),(13,I (i:Nat))]) ?_ (by rw[ad]) η;clear δ Μ
    repeat apply ae
    refine W.draw (A:=[]) Φ mixed λΚ κ=>gi (ς ε (ς π (ς U (ς γ (ς ο (ς Ι (ς aH aI))))))) ?_;refine eD (Ρ x y) ?_;simp;(repeat (rw[cY];simp));try rw[cX]
    refine en (κ _ _ ?_);by_cases hm:cmp x y<0
    ·refine ay (by simp[hm]) ?_;refine W.exit rfl ?_;exact W.stop ⟨rfl,by rw[ad],by rw[<-dv,un];simp[hm,Ξ]⟩
    ·refine aC (by simp[hm]) ?_;refine aE hw ?_;exact W.to (Α (i-1) ⟨J,J,by rw[<-dv,un];simp[hm,Ξ]⟩ bi) (by rw[ad]) (by simp[hw])
   ·repeat apply ae
    refine dH ε ?_;refine ay rfl ?_;refine W.exit rfl ?_;have e:Go.Sort.scanDown (λx=>!Ξ cmp x f[a]!) f an i=i:=by exact zv _ _ J
    exact W.stop ⟨rfl,rfl,by rw[<-dv,e];simp⟩
  repeat apply ae
  by_cases ε:an > av
  ·have a2:((av:Nat):Int)<(an:Nat):=J
   refine aE a2 ?_;refine aC (by simp[ε]) ?_;refine W.exit rfl ?_;rw[cF,if_pos ε] at aM;exact W.stop ⟨rfl,by rw[<-aM],by rw[<-aM];simp⟩
  ·have a2:¬((av:Nat):Int)<(an:Nat):=J
   have wa:=kV J
   have gZ:=hn (i:=an) J
   have jQ:=ir (i:=av) J J;refine aE a2 ?_;refine ay (by simp[ε]) ?_;have aH:an<n:=J;have aI:av<n:=J;obtain⟨L,x,y,ad,δ,Μ,π,⟨U,γ⟩,⟨ο,Ι⟩,cx,eR,ax⟩:=eQ aK bR aH aI;refine W.to (σ':=[.cells 112 2 L]) (env':=[(0,.ms 0 n 0 n),(1,I a),(4,Ο),(12,I (an:Nat)),(13,I (av:Nat))]) ?_ (by rw[ad]) η;clear δ Μ
   repeat apply ae
   refine dH (ς π (ς U (ς γ (ς ο (ς Ι (ς ax (ς aH aI))))))) ?_;refine W.to (σ':=[.cells 112 2 ((Go.Sort.swp f an av).toList.map aK)]) (env':=[(0,.ms 0 n 0 n),(1,I a),(4,Ο),(12,I (an:Nat)),(13,I (av:Nat))]) ?_ (by rw[cx]) η;clear aH aI U γ ο Ι ax cx π ad L x y eR;refine aE (ς gZ jQ) ?_;exact W.to (Α (an+1,av-1,Go.Sort.swp f an av) ⟨swp_size bR an av,bi,bi,bi,by simp;rw[<-aM,cF,if_neg ε]⟩ bi) rfl (by simp[gZ,jQ])
 rw[fF] at cF;have Χ:=Rk (Ξ cmp) (a:=a) (b:=b) _ (an+1) (av-1) g (Nat.le_refl _) qG J J J;rw[fF] at Χ;obtain⟨zk,KD⟩:=Χ;obtain⟨j,h⟩:=R;simp only at zk KD cF;have aH:j<n:=J;have aI:a<n:=J;obtain⟨L,x,y,ad,δ,Μ,π,⟨U,γ⟩,⟨ο,Ι⟩,cx,eR,ax⟩:=eQ aK zk aH aI;refine W.to (σ':=[.cells 112 2 L]) (env':=[(0,.ms 0 n 0 n),(1,I a),(13,I (j:Nat))]) ?_ (by rw[ad]) η;clear δ Μ
 repeat apply ae
 refine dH (ς π (ς U (ς γ (ς ο (ς Ι (ς ax (ς aH aI))))))) ?_;refine W.to (σ':=[.cells 112 2 ((Go.Sort.swp h j a).toList.map aK)]) (env':=[(0,.ms 0 n 0 n),(1,I a),(13,I (j:Nat))]) ?_ (by rw[cx]) η;clear aH aI U γ ο Ι ax cx π ad L x y eR;refine Η ?_;exact W.ret ⟨_,rfl,by rw[cF];rfl,by rw[cF]⟩
theorem fΗ (d:Array (Int×Int)) (n a b p:Nat) (Θ:d.size=n) (ξ:n<2 ^ 40) (iR:a<=p) (KC:p<b) (hb:b<=n) (Ο:θ) (cmp:Int×Int->Int×Int->Int) (a9:aG 0 Ο) (Ρ:∀x y,ef Tryz.prog Ο [aK x,aK y] (I (cmp x y))) :
  af Tryz.prog 240 [.ms 0 n 0 n,I a,I b,I p,Ο] [.cells 112 2 ((d).toList.map aK)] (λr s=>r=I (Go.Sort.partitionEqual (Ξ cmp) d a b p).1/\s=[.cells 112 2 (((Go.Sort.partitionEqual (Ξ cmp) d a b p).2).toList.map aK)]) (λ_ _=>False):=by
 refine af.body Φ Tryz.func240 rfl rfl Tryz.ntmps240 rfl rfl η ?_;have h0:=hn (i:=a) J;have g4:=ir (i:=b) J J
 repeat apply ae
 refine l9 ?_;have aH:a<n:=J;have aI:p<n:=J;obtain⟨L,x,y,ad,δ,Μ,π,⟨U,γ⟩,⟨ο,Ι⟩,cx,eR,ax⟩:=eQ aK Θ aH aI;refine W.to (σ':=[.cells 112 2 L]) (env':=[(0,.ms 0 n 0 n),(1,I a),(2,I b),(3,I p),(4,Ο)]) ?_ (by rw[ad]) η;clear δ Μ
 repeat apply ae
 refine dH (ς π (ς U (ς γ (ς ο (ς Ι (ς ax (ς aH aI))))))) ?_;refine W.to (σ':=[.cells 112 2 ((Go.Sort.swp d a p).toList.map aK)]) (env':=[(0,.ms 0 n 0 n),(1,I a),(2,I b),(3,I p),(4,Ο)]) ?_ (by rw[cx]) η;clear aH aI U γ ο Ι ax cx π ad L x y eR;obtain⟨e,he⟩:=aF (Go.Sort.swp d a p);have cw:e.size=n:=by rw[he];exact swp_size Θ a p
 rw[<-he]
 repeat apply ae
 refine ov (ς h0 g4) ?_;refine W.to (σ':=[.cells 112 2 ((e).toList.map aK)]) (env':=[(0,.ms 0 n 0 n),(1,I a),(4,Ο),(11,I (a+1:Nat)),(12,I (b-1:Nat))]) ?_ rfl η;obtain⟨R,fF⟩:=bG (Go.Sort.partEqLoop (Ξ cmp) a (a+1) (b-1) e)
 repeat apply ae
 refine W.kQ [(11,I R.1)] [.cells 112 2 ((R.2).toList.map aK)] ?_ ?_
 ·refine W.iter (λq:Nat×Nat×Array (Int×Int)=>q.2.2.size=n/\a<q.1/\q.1<=q.2.1+1/\q.2.1<b/\Go.Sort.partEqLoop (Ξ cmp) a q.1 q.2.1 q.2.2=R) (λq=>[(0,.ms 0 n 0 n),(1,I a),(4,Ο),(11,I (q.1:Nat)),(12,I (q.2.1:Nat))]) (λq=>[.cells 112 2 ((q.2.2).toList.map aK)]) (λq=>q.2.1+1-q.1) (a+1,b-1,e) ⟨cw,bi,bi,bi,fF⟩ rfl η (λq hi Α=>?_);obtain⟨i,j,f⟩:=q;obtain⟨bR,i',jd,dv,aM⟩:=hi;simp only at bR i' jd dv aM;obtain⟨an,dW⟩:=bG (Go.Sort.scanUp (λx=>!Ξ cmp f[a]! x) f (j) (i));obtain⟨av,cV⟩:=bG (Go.Sort.scanDown (λx=>Ξ cmp f[a]! x) f an (j));obtain⟨s1,s2,lu,qA,kV⟩:=vM (λx=>!Ξ cmp f[a]! x) (λx=>Ξ cmp f[a]! x) (λx=>η) f J J dW cV;have cF:Go.Sort.partEqLoop (Ξ cmp) a i j f=if an > av then(an,f) else Go.Sort.partEqLoop (Ξ cmp) a (an+1) (av-1) (Go.Sort.swp f an av):=by
   rw[Go.Sort.partEqLoop_eq];simp only[dW,cV]
  refine W.to (σ':=[.cells 112 2 ((f).toList.map aK)]) (env':=[(0,.ms 0 n 0 n),(1,I a),(4,Ο),(11,I (i:Nat)),(12,I (j:Nat))]) ?_ rfl η;refine W.block ?_
  repeat apply ae
  refine W.kQ [(0,.ms 0 n 0 n),(1,I a),(4,Ο),(11,I (an:Nat)),(12,I (j:Nat))] [.cells 112 2 ((f).toList.map aK)] ?_ ?_
  ·refine W.iter (λi:Nat=>(i)<=i/\i<=(j)+1/\Go.Sort.scanUp (λx=>!Ξ cmp f[a]! x) f (j) i=an) (λi=>[(0,.ms 0 n 0 n),(1,I a),(4,Ο),(11,I (i:Nat)),(12,I (j:Nat))]) (λ_=>[.cells 112 2 ((f).toList.map aK)]) (λi=>(j)+1-i) ((i)) ⟨Nat.le_refl _,J,dW⟩ rfl η (λi hi Α=>?_);obtain⟨i',jd,dv⟩:=hi;by_cases ε:i<=(j)
   ·have aH:i<n:=J
    have aI:a<n:=J;obtain⟨L,x,y,ad,δ,Μ,π,⟨U,γ⟩,⟨ο,Ι⟩,-,-⟩:=eQ aK bR aH aI;have un:Go.Sort.scanUp (λx=>!Ξ cmp f[a]! x) f (j) i=if(!Ξ cmp y x)=true then Go.Sort.scanUp (λx=>!Ξ cmp f[a]! x) f (j) (i+1) else i:=by rw[Go.Sort.scanUp];simp[ε,δ,Μ]
    have hw:=hn (i:=i) J;refine W.to (σ':=[.cells 112 2 L]) (env':=[(0,.ms 0 n 0 n),(1,I a),(4,Ο),(11,I (i:Nat)),(12,I (j:Nat))]) ?_ (by rw[ad]) η;clear δ Μ
    repeat apply ae
    refine W.draw (A:=[]) Φ mixed λΚ κ=>gi (ς ε (ς π (ς U (ς γ (ς ο (ς Ι (ς aH aI))))))) ?_;refine eD (Ρ y x) ?_;simp;(repeat (rw[cY];simp));try rw[cX]
    refine en (κ _ _ ?_);by_cases hm:cmp y x<0
    ·refine ay (by simp[hm]) ?_;refine W.exit rfl ?_;exact W.stop ⟨rfl,by rw[ad],by rw[<-dv,un];simp[hm,Ξ]⟩
    ·refine aC (by simp[hm]) ?_;refine aE hw ?_;exact W.to (Α (i+1) ⟨J,J,by rw[<-dv,un];simp[hm,Ξ]⟩ bi) (by rw[ad]) (by simp[hw])
   ·repeat apply ae
    refine dH ε ?_;refine ay rfl ?_;refine W.exit rfl ?_;have e:Go.Sort.scanUp (λx=>!Ξ cmp f[a]! x) f (j) i=i:=by rw[Go.Sort.scanUp];simp[ε]
    exact W.stop ⟨rfl,rfl,by rw[<-dv,e];simp⟩
  repeat apply ae
  refine W.kQ [(0,.ms 0 n 0 n),(1,I a),(4,Ο),(11,I (an:Nat)),(12,I (av:Nat))] [.cells 112 2 ((f).toList.map aK)] ?_ ?_
  ·refine W.iter (λi:Nat=>i<=(j)/\an<=i+1/\Go.Sort.scanDown (λx=>Ξ cmp f[a]! x) f an i=av) (λi=>[(0,.ms 0 n 0 n),(1,I a),(4,Ο),(11,I (an:Nat)),(12,I (i:Nat))]) (λ_=>[.cells 112 2 ((f).toList.map aK)]) (λi=>i+1-an) ((j)) ⟨Nat.le_refl _,J,cV⟩ rfl η (λi hi Α=>?_);obtain⟨i',jd,dv⟩:=hi;by_cases ε:an<=i
   ·have aH:i<n:=J
    have aI:a<n:=J;obtain⟨L,x,y,ad,δ,Μ,π,⟨U,γ⟩,⟨ο,Ι⟩,-,-⟩:=eQ aK bR aH aI;obtain⟨q,Χ⟩:∃q,i=q+1:=⟨i-1,J⟩;have un:Go.Sort.scanDown (λx=>Ξ cmp f[a]! x) f an i=if(Ξ cmp y x)=true then Go.Sort.scanDown (λx=>Ξ cmp f[a]! x) f an (i-1) else i:=by subst Χ;rw[Go.Sort.scanDown];simp[ε,δ,Μ]
    have hw:=ir (i:=i) J J;refine W.to (σ':=[.cells 112 2 L]) (env':=[(0,.ms 0 n 0 n),(1,I a),(4,Ο),(11,I (an:Nat)),(12,I (i:Nat))]) ?_ (by rw[ad]) η;clear δ Μ
    repeat apply ae
    refine W.draw (A:=[]) Φ mixed λΚ κ=>gi (ς ε (ς π (ς U (ς γ (ς ο (ς Ι (ς aH aI))))))) ?_;refine eD (Ρ y x) ?_;simp;(repeat (rw[cY];simp));try rw[cX]
    refine en (κ _ _ ?_);by_cases hm:cmp y x<0
    ·refine aC (by simp[hm]) ?_;refine aE hw ?_;exact W.to (Α (i-1) ⟨J,J,by rw[<-dv,un];simp[hm,Ξ]⟩ bi) (by rw[ad]) (by simp[hw])
    ·refine ay (by simp[hm]) ?_;refine W.exit rfl ?_;exact W.stop ⟨rfl,by rw[ad],by rw[<-dv,un];simp[hm,Ξ]⟩
   ·repeat apply ae
    refine dH ε ?_;refine ay rfl ?_;refine W.exit rfl ?_;have e:Go.Sort.scanDown (λx=>Ξ cmp f[a]! x) f an i=i:=by exact zv _ _ J
    exact W.stop ⟨rfl,rfl,by rw[<-dv,e];simp⟩
  repeat apply ae
  by_cases ε:an > av
  ·have a2:((av:Nat):Int)<(an:Nat):=J
   refine aE a2 ?_;refine aC (by simp[ε]) ?_;refine W.exit rfl ?_;rw[cF,if_pos ε] at aM;exact W.stop ⟨rfl,by rw[<-aM],by rw[<-aM];simp⟩
  ·have a2:¬((av:Nat):Int)<(an:Nat):=J
   have wa:=kV J
   have gZ:=hn (i:=an) J
   have jQ:=ir (i:=av) J J;refine aE a2 ?_;refine ay (by simp[ε]) ?_;have aH:an<n:=J;have aI:av<n:=J;obtain⟨L,x,y,ad,δ,Μ,π,⟨U,γ⟩,⟨ο,Ι⟩,cx,eR,ax⟩:=eQ aK bR aH aI;refine W.to (σ':=[.cells 112 2 L]) (env':=[(0,.ms 0 n 0 n),(1,I a),(4,Ο),(11,I (an:Nat)),(12,I (av:Nat))]) ?_ (by rw[ad]) η;clear δ Μ
   repeat apply ae
   refine dH (ς π (ς U (ς γ (ς ο (ς Ι (ς ax (ς aH aI))))))) ?_;refine W.to (σ':=[.cells 112 2 ((Go.Sort.swp f an av).toList.map aK)]) (env':=[(0,.ms 0 n 0 n),(1,I a),(4,Ο),(11,I (an:Nat)),(12,I (av:Nat))]) ?_ (by rw[cx]) η;clear aH aI U γ ο Ι ax cx π ad L x y eR;refine aE (ς gZ jQ) ?_;exact W.to (Α (an+1,av-1,Go.Sort.swp f an av) ⟨swp_size bR an av,bi,bi,bi,by simp;rw[<-aM,cF,if_neg ε]⟩ bi) rfl (by simp[gZ,jQ])
 refine Η ?_;have cF:Go.Sort.partitionEqual (Ξ cmp) d a b p=R:=by unfold Go.Sort.partitionEqual;rw[<-he,fF]
 exact W.ret ⟨_,rfl,by rw[cF];rfl,by rw[cF]⟩
theorem Ru (d:Array (Int×Int)) (n lo hi first:Nat) (Θ:d.size=n) (ξ:n<2 ^ 40) (fι:first+hi<=n) (hB:lo<=n) (Ο:θ) (cmp:Int×Int->Int×Int->Int) (a9:aG 0 Ο) (Ρ:∀x y,ef Tryz.prog Ο [aK x,aK y] (I (cmp x y))) :
  af Tryz.prog 254 [.ms 0 n 0 n,I lo,I hi,I first,Ο] [.cells 112 2 ((d).toList.map aK)] (λr s=>r=.bj []/\s=[.cells 112 2 ((Go.Sort.siftDown (Ξ cmp) hi first lo d).toList.map aK)]) (λ_ _=>False):=by
 refine af.body Φ Tryz.func254 rfl rfl Tryz.ntmps254 rfl rfl η ?_;refine Η ?_;obtain⟨R,fF⟩:=bG (Go.Sort.siftDown (Ξ cmp) hi first lo d);rw[fF];refine W.iter (λq:Nat×Array (Int×Int)=>q.2.size=n/\q.1<=n/\Go.Sort.siftDown (Ξ cmp) hi first q.1 q.2=R) (λq=>[(0,.ms 0 n 0 n),(2,I hi),(3,I first),(4,Ο),(10,I (q.1:Nat))]) (λq=>[.cells 112 2 ((q.2).toList.map aK)]) (λq=>hi-q.1) (lo,d) ⟨Θ,hB,fF⟩ rfl η (λq Χ Α=>?_);obtain⟨r,e⟩:=q;obtain⟨cw,μ,aM⟩:=Χ;simp only at cw μ aM;obtain⟨c,ε⟩:=aF (2*r+1);obtain⟨c1,lE⟩:=aF (c+1);obtain⟨aD,hy⟩:=aF (first+r);obtain⟨xK,xL⟩:=aF (first+c);obtain⟨fd,vD⟩:=aF (first+(c+1));have w1:IntKind.i64.wrap (2*(r:Int))=2*(r:Int):=by rw[IntWalk.i64_in _ J]
 have w2:IntKind.i64.wrap (2*(r:Int)+1)=(c:Int):=by rw[IntWalk.i64_in _ J];omega
 have w3:IntKind.i64.wrap ((c:Int)+1)=(c1:Int):=by rw[IntWalk.i64_in _ J];omega
 have w4:IntKind.i64.wrap ((first:Int)+(c:Int))=(xK:Int):=by rw[IntWalk.i64_in _ J];omega
 have kR:IntKind.i64.wrap ((xK:Int)+1)=(fd:Int):=by rw[IntWalk.i64_in _ J];omega
 have iI:IntKind.i64.wrap ((first:Int)+(r:Int))=(aD:Int):=by rw[IntWalk.i64_in _ J];omega
 refine W.to (σ':=[.cells 112 2 ((e).toList.map aK)]) (env':=[(0,.ms 0 n 0 n),(2,I hi),(3,I first),(4,Ο),(10,I (r:Nat))]) ?_ rfl η;refine aE (ς w1 w2) ?_;by_cases Cg:hi<=c
 ·refine aC (by simp[Cg]) ?_;refine W.exit rfl ?_;exact W.nil ⟨_,rfl,rfl,by rw[<-aM,Go.Sort.siftDown,dif_pos J]⟩
 refine ay (by simp[Cg]) ?_;obtain⟨B,dV⟩:=aF ((decide (c+1<hi)&&Ξ cmp e[first+c]! e[first+(c+1)]!):Bool);obtain⟨k,ψ⟩:∃k,k=if B=true then c+1 else c:=⟨_,rfl⟩
 have fκ:k<hi:=by
  rw[ψ];split
  ·rename_i h;rw[h] at dV;have:=dV.symm;simp at this;omega
  ·omega
 have un:=Rl (Ξ cmp) hi first r e (k:=k) ε J (by rw[<-dV];exact ψ)
 rw[un] at aM
 repeat apply ae
 refine W.yP (A:=[]) Φ mixed [(40,ba B),(0,.ms 0 n 0 n),(2,I hi),(3,I first),(4,Ο),(10,I r),(11,I c)] ?_ (by
  by_cases lR:c1<hi
  ·have aH:xK<n:=J
   have aI:fd<n:=J;obtain⟨L,x,y,ad,δ,Μ,π,⟨U,γ⟩,⟨ο,Ι⟩,-,-⟩:=eQ aK cw aH aI;have xM:B=Ξ cmp x y:=by rw[dV,<-δ,<-Μ,xL,vD];simp[<-lE,lR]
   have KE:(c1:Int)<hi:=J;rw[ad];clear δ Μ;simp;(repeat (rw[cY];simp[w3,w4,kR,lR,KE,π,U,γ,ο,Ι,aH,aI]));(try rw[cX]);refine eD (Ρ x y) ?_;simp;(repeat (rw[cY];simp));(try rw[cX]);refine⟨hX (by kernel_rfl),?_⟩;simp[xM,Ξ]
  ·have xM:B=false:=by rw[dV];simp[<-lE,lR]
   simp;(repeat (rw[cY];simp[w3,lR]));(try rw[cX]);refine⟨hX (by kernel_rfl),?_⟩;simp[xM])
 have fμ:r<k:=by rw[ψ];split<;>omega
 repeat apply ae
 refine W.upto [(0,.ms 0 n 0 n),(2,I hi),(3,I first),(4,Ο),(10,I (r:Nat)),(11,I (k:Nat))] [.cells 112 2 ((e).toList.map aK)] ?_ ?_
 ·cases B with
  | true=>
   refine aC rfl ?_;refine ov w3 ?_;exact W.stop ⟨rfl,rfl,by simp[ψ,lE]⟩
  | false=>
   refine ay rfl ?_;refine W.skip ?_;exact W.stop ⟨rfl,rfl,by simp[ψ]⟩
 obtain⟨fk,KF⟩:=aF (first+k);rw[<-hy,<-KF] at aM;have iJ:IntKind.i64.wrap ((first:Int)+(k:Int))=(fk:Int):=by rw[IntWalk.i64_in _ J];omega
 have aH:aD<n:=J
 have aI:fk<n:=J;obtain⟨L,x,y,ad,δ,Μ,π,⟨U,γ⟩,⟨ο,Ι⟩,cx,eR,ax⟩:=eQ aK cw aH aI;rw[δ,Μ] at aM;refine W.to (σ':=[.cells 112 2 L]) (env':=[(0,.ms 0 n 0 n),(2,I hi),(3,I first),(4,Ο),(10,I (r:Nat)),(11,I (k:Nat))]) ?_ (by rw[ad]) η;clear δ Μ
 repeat apply ae
 refine W.draw (A:=[]) Φ mixed λΚ κ=>gi (ς iI (ς iJ (ς π (ς U (ς γ (ς ο (ς Ι (ς aH aI)))))))) ?_;refine eD (Ρ x y) ?_;simp;(repeat (rw[cY];simp));try rw[cX]
 refine en (κ _ _ ?_);by_cases hm:cmp x y<0
 ·refine ay (by simp[hm]) ?_
  repeat apply ae
  refine dH (ς iI (ς iJ (ς π (ς U (ς γ (ς ο (ς Ι (ς ax (ς aH aI))))))))) ?_;refine Η ?_;refine W.to (Α (k,Go.Sort.swp e aD fk) ⟨swp_size cw aD fk,bi,?_⟩ bi) (by rw[cx]) η;rw[<-aM];simp[hm,Ξ]
 ·refine aC (by simp[hm]) ?_;refine Η ?_;exact W.ret ⟨_,rfl,rfl,by rw[<-ad,<-aM];simp[hm,Ξ]⟩
theorem fΘ (d:Array (Int×Int)) (n a b:Nat) (Θ:d.size=n) (ξ:n<2 ^ 40) (e':a<b) (hb:b<=n) (Ο:θ) (cmp:Int×Int->Int×Int->Int) (a9:aG 0 Ο) (Ρ:∀x y,ef Tryz.prog Ο [aK x,aK y] (I (cmp x y))) :
  af Tryz.prog 235 [.ms 0 n 0 n,I a,I b,Ο] [.cells 112 2 ((d).toList.map aK)] (λr s=>r=.bj []/\s=[.cells 112 2 ((Go.Sort.heapSort (Ξ cmp) d a b).toList.map aK)]) (λ_ _=>False):=by
 refine af.body Φ Tryz.func235 rfl rfl Tryz.ntmps235 rfl rfl η ?_;obtain⟨m,hm⟩:=bG (b-a);have w1:IntKind.i64.wrap ((b:Int)-(a:Int))=(m:Int):=by rw[IntWalk.i64_in _ J];omega
 have w2:IntKind.i64.wrap ((m:Int)-1)=((m-1:Nat):Int):=ir J J
 have w3:IntKind.i64.wrap (((m-1:Nat):Int) / 2)=(((m-1) / 2:Nat):Int):=vN (m:=2) J;obtain⟨d',hZ⟩:=aF (m-1);obtain⟨dG,jw⟩:=aF ((m-1) / 2);rw[<-jw,<-hZ] at w3;rw[<-hZ] at w2;have wp:∀k:Nat,k<=n->IntKind.i64.wrap ((k:Int)-1)=(k:Int)-1:=λk ψ=>by rw[IntWalk.i64_in _ J]
 obtain⟨iK,rz⟩:=bG (Go.Sort.heapBuild (Ξ cmp) m a (dG+1) d);have cF:Go.Sort.heapSort (Ξ cmp) d a b=Go.Sort.heapPop (Ξ cmp) a m iK:=by unfold Go.Sort.heapSort;rw[hm,<-jw,rz]
 refine aE (ς w1 (ς w2 w3)) ?_;refine W.kQ [(0,.ms 0 n 0 n),(3,Ο),(8,I a),(9,I 0),(10,I m)] [.cells 112 2 ((iK).toList.map aK)] ?_ ?_
 ·refine W.iter (λq:Nat×Array (Int×Int)=>q.2.size=n/\q.1<=dG+1/\Go.Sort.heapBuild (Ξ cmp) m a q.1 q.2=iK) (λq=>[(0,.ms 0 n 0 n),(3,Ο),(8,I a),(9,I 0),(10,I m),(11,.z (.int .i64 ((q.1:Int)-1)))]) (λq=>[.cells 112 2 ((q.2).toList.map aK)]) (λq=>q.1) (dG+1,d) ⟨Θ,Nat.le_refl _,rz⟩ rfl η (λq Χ Α=>?_);obtain⟨k,e⟩:=q;obtain⟨cw,ψ,aM⟩:=Χ;simp only at cw ψ aM;cases k with
  | zero=>
   refine Η ?_;refine ay rfl ?_;refine W.exit rfl ?_;exact W.stop ⟨rfl,by rw[<-aM];rfl,η⟩
  | succ k=>
   have kj:(0:Int)<=(k:Int):=J;refine W.to (σ':=[.cells 112 2 ((e).toList.map aK)]) (env':=[(0,.ms 0 n 0 n),(3,Ο),(8,I a),(9,I 0),(10,I m),(11,.z (.int .i64 ((k:Int))))]) ?_ rfl η;refine aE kj ?_;refine aC η ?_;refine bc λΚ κ=>?_;refine af.call (first:=[]) (captured:=[]) ((Ru e n k m a cw ξ J J Ο cmp a9 Ρ).mono (λr s ⟨bI,bw⟩=>?_) (λ_ _ h=>h.elim));subst bI;subst bw;simp;(repeat (rw[ah];simp));apply κ;refine aE (wp k J) ?_;exact W.to (Α (k,Go.Sort.siftDown (Ξ cmp) m a k e) ⟨Cf cw,bi,aM⟩ η) rfl (by simp[wp k J])
 obtain⟨g0,n0⟩:=bG (Go.Sort.heapPop (Ξ cmp) a m iK);have KG:iK.size=n:=by rw[<-rz];exact Kz Θ
 rw[n0] at cF;refine aE w2 ?_;refine W.iter (λq:Nat×Array (Int×Int)=>q.2.size=n/\q.1<=m/\Go.Sort.heapPop (Ξ cmp) a q.1 q.2=g0) (λq=>[(0,.ms 0 n 0 n),(3,Ο),(8,I a),(9,I 0),(10,I m),(12,.z (.int .i64 ((q.1:Int)-1)))]) (λq=>[.cells 112 2 ((q.2).toList.map aK)]) (λq=>q.1) (m,iK) ⟨KG,Nat.le_refl _,n0⟩ rfl (by simp[hZ];omega) (λq Χ Α=>?_);obtain⟨k,e⟩:=q;obtain⟨cw,ψ,aM⟩:=Χ;simp only at cw ψ aM;cases k with
 | zero=>
  refine Η ?_;refine ay rfl ?_;refine W.exit rfl ?_;exact W.nil ⟨_,rfl,rfl,by rw[cF,<-aM];rfl⟩
 | succ k=>
  have kj:(0:Int)<=(k:Int):=J;obtain⟨lj,KH⟩:=aF (a+k);have iJ:IntKind.i64.wrap ((a:Int)+(k:Int))=(lj:Int):=by rw[IntWalk.i64_in _ J];omega
  refine W.to (σ':=[.cells 112 2 ((e).toList.map aK)]) (env':=[(0,.ms 0 n 0 n),(3,Ο),(8,I a),(9,I 0),(10,I m),(12,.z (.int .i64 ((k:Int))))]) ?_ rfl η;refine aE kj ?_;refine aC η ?_;have aH:a<n:=J;have aI:lj<n:=J;obtain⟨L,x,y,ad,δ,Μ,π,⟨U,γ⟩,⟨ο,Ι⟩,cx,eR,ax⟩:=eQ aK cw aH aI;refine W.to (σ':=[.cells 112 2 L]) (env':=[(0,.ms 0 n 0 n),(3,Ο),(8,I a),(9,I 0),(10,I m),(12,.z (.int .i64 ((k:Int))))]) ?_ (by rw[ad]) η;clear δ Μ
  repeat apply ae
  refine dH (ς π (ς U (ς γ (ς ο (ς Ι (ς ax (ς aH (ς aI iJ)))))))) ?_;refine W.to (σ':=[.cells 112 2 ((Go.Sort.swp e a lj).toList.map aK)]) (env':=[(0,.ms 0 n 0 n),(3,Ο),(8,I a),(9,I 0),(10,I m),(12,.z (.int .i64 ((k:Int))))]) ?_ (by rw[cx]) η;clear aH aI U γ ο Ι ax cx π ad L x y eR;refine bc λΚ κ=>?_;refine af.call (first:=[]) (captured:=[]) ((Ru (Go.Sort.swp e a lj) n 0 k a (swp_size cw a lj) ξ J J Ο cmp a9 Ρ).mono (λr s ⟨bI,bw⟩=>?_) (λ_ _ h=>h.elim));subst bI;subst bw;simp;(repeat (rw[ah];simp));apply κ;refine aE (wp k J) ?_;exact W.to (Α (k,Go.Sort.siftDown (Ξ cmp) k a 0 (Go.Sort.swp e a lj)) ⟨Cf (swp_size cw a lj),bi,by rw[KH];exact aM⟩ η) rfl (by simp[wp k J])
theorem fΙ (d:Array (Int×Int)) (n a b:Nat) (Θ:d.size=n) (ξ:n<2 ^ 40) (e':a<b) (hb:b<=n) (Ο:θ) (cmp:Int×Int->Int×Int->Int) (a9:aG 0 Ο) (Ρ:∀x y,ef Tryz.prog Ο [aK x,aK y] (I (cmp x y))) :
  af Tryz.prog 238 [.ms 0 n 0 n,I a,I b,Ο] [.cells 112 2 ((d).toList.map aK)] (λr s=>r=.bj []/\s=[.cells 112 2 ((Go.Sort.reverseRange d a b).toList.map aK)]) (λ_ _=>False):=by
 refine af.body Φ Tryz.func238 rfl rfl Tryz.ntmps238 rfl rfl η ?_;have w1:=ir (i:=b) J J;refine aE w1 ?_;refine W.iter (λq:Nat×Nat×Array (Int×Int)=>q.2.2.size=n/\q.1<n/\q.2.1<n/\Go.Sort.reverseLoop q.1 q.2.1 q.2.2=Go.Sort.reverseRange d a b) (λq=>[(0,.ms 0 n 0 n),(8,I (q.1:Nat)),(9,I (q.2.1:Nat))]) (λq=>[.cells 112 2 ((q.2.2).toList.map aK)]) (λq=>q.2.1-q.1) (a,b-1,d) ⟨Θ,bi,bi,rfl⟩ rfl (by simp[w1]) (λq Χ Α=>?_);obtain⟨i,j,e⟩:=q;obtain⟨cw,hi,ζ,aM⟩:=Χ;simp only at cw hi ζ aM;rw[Go.Sort.reverseLoop] at aM;refine W.to (σ':=[.cells 112 2 ((e).toList.map aK)]) (env':=[(0,.ms 0 n 0 n),(8,I (i:Nat)),(9,I (j:Nat))]) ?_ rfl η;refine Η ?_;by_cases ε:i<j
 ·refine aC (by simp[ε]) ?_;rw[if_pos ε] at aM;have w2:=hn (i:=i) J;have w3:=ir (i:=j) J J;have aH:i<n:=J;have aI:j<n:=J;obtain⟨L,x,y,ad,δ,Μ,π,⟨U,γ⟩,⟨ο,Ι⟩,cx,eR,ax⟩:=eQ aK cw aH aI;refine W.to (σ':=[.cells 112 2 L]) (env':=[(0,.ms 0 n 0 n),(8,I (i:Nat)),(9,I (j:Nat))]) ?_ (by rw[ad]) η;clear δ Μ
  repeat apply ae
  refine dH (ς π (ς U (ς γ (ς ο (ς Ι (ς ax (ς aH aI))))))) ?_;refine W.to (σ':=[.cells 112 2 ((Go.Sort.swp e i j).toList.map aK)]) (env':=[(0,.ms 0 n 0 n),(8,I (i:Nat)),(9,I (j:Nat))]) ?_ (by rw[cx]) η;clear aH aI U γ ο Ι ax cx π ad L x y eR;refine aE (ς w2 w3) ?_;exact W.to (Α (i+1,j-1,Go.Sort.swp e i j) ⟨swp_size cw i j,bi,bi,aM⟩ bi) rfl (by simp[w2,w3])
 ·refine ay (by simp[ε]) ?_;refine W.exit rfl ?_;rw[if_neg ε] at aM;exact W.nil ⟨_,rfl,rfl,by rw[aM]⟩
theorem K5 (d:Array (Int×Int)) (n a b s:Nat) (Θ:d.size=n) (ν:a<n) (hb:b<n) (ξ:s<2 ^ 40) (Ο:θ) (cmp:Int×Int->Int×Int->Int) (a9:aG 0 Ο) (Ρ:∀x y,ef Tryz.prog Ο [aK x,aK y] (I (cmp x y))) :
  af Tryz.prog 258 [.ms 0 n 0 n,I a,I b,.ak 1 1 0 0,Ο] [.cells 112 2 (d.toList.map aK),.cells 3 1 [I s]] (λr σ=>r=.bj [I (Go.Sort.order2 (Ξ cmp) d a b s).1,I (Go.Sort.order2 (Ξ cmp) d a b s).2.1]/\σ=[.cells 112 2 (d.toList.map aK),.cells 3 1 [I (Go.Sort.order2 (Ξ cmp) d a b s).2.2]]) (λ_ _=>False):=by
 refine af.body Φ Tryz.func258 rfl rfl Tryz.ntmps258 rfl rfl η ?_;obtain⟨L,ad⟩:=aF (d.toList.map aK);have hc:L.length=n:=by rw[ad];simpa using Θ
 obtain⟨x,δ⟩:=aF (d[a]!);obtain⟨y,Μ⟩:=aF (d[b]!);have zw:L[a]?=some (aK x):=by rw[ad,δ,List.getElem?_map,Array.getElem?_toList,pf J];rfl
 have qg:L[b]?=some (aK y):=by rw[ad,Μ,List.getElem?_map,Array.getElem?_toList,pf J];rfl
 have KL:∀h:a<L.length,L[a]=aK x:=λh=>by have:=zw;rw[a6 h] at this;exact Option.some.inj this
 have KM:∀h:b<L.length,L[b]=aK y:=λh=>by have:=qg;rw[a6 h] at this;exact Option.some.inj this
 have hw:IntKind.i64.wrap ((s:Int)+1)=((s+1:Nat):Int):=by rw[IntWalk.i64_in _ J];omega
 have Β:Go.Sort.order2 (Ξ cmp) d a b s=if Ξ cmp y x=true then(b,a,s+1) else(a,b,s):=by unfold Go.Sort.order2;rw[<-δ,<-Μ]
 rw[Β,<-ad];clear ad δ Μ Β;refine Η ?_;refine W.draw (A:=[]) Φ mixed λΚ κ=>gi (ς hc (ς zw (ς qg (ς KL KM)))) ?_;refine⟨hb,ν,?_⟩;refine eD (Ρ y x) ?_;simp;(repeat (rw[cY];simp));try rw[cX]
 refine en (κ _ _ ?_);by_cases hm:cmp y x<0
 ·refine aC (by simp[hm]) ?_;refine aE hw ?_;exact W.ret ⟨_,rfl,by simp[Ξ,Go.Sort.ltInt,hm],by simp[Ξ,Go.Sort.ltInt,hm]⟩
 ·refine ay (by simp[hm]) ?_;refine aE hw ?_;exact W.ret ⟨_,rfl,by simp[Ξ,Go.Sort.ltInt,hm],by simp[Ξ,Go.Sort.ltInt,hm]⟩
theorem fΚ (d:Array (Int×Int)) (n a b c s:Nat) (Θ:d.size=n) (ν:a<n) (hb:b<n) (ε:c<n) (ξ:s<2 ^ 39) (Ο:θ) (cmp:Int×Int->Int×Int->Int) (a9:aG 0 Ο) (Ρ:∀x y,ef Tryz.prog Ο [aK x,aK y] (I (cmp x y))) :
  af Tryz.prog 256 [.ms 0 n 0 n,I a,I b,I c,.ak 1 1 0 0,Ο] [.cells 112 2 ((d).toList.map aK),.cells 3 1 [I (s:Nat)]] (λr σ=>r=I (Go.Sort.median (Ξ cmp) d a b c s).1/\σ=[.cells 112 2 ((d).toList.map aK),.cells 3 1 [I ((Go.Sort.median (Ξ cmp) d a b c s).2:Nat)]]) (λ_ _=>False):=by
 refine af.body Φ Tryz.func256 rfl rfl Tryz.ntmps256 rfl rfl η ?_;obtain⟨r1,Ζ⟩:=bG (Go.Sort.order2 (Ξ cmp) d a b s);have f1:=ua (Ξ cmp) d (a:=a) (b:=b) (n:=n) J J s;have c1:=K5 d n a b s Θ J J J Ο cmp a9 Ρ;rw[Ζ] at f1 c1;obtain⟨a1,bE,s1⟩:=r1;simp only at f1 c1;obtain⟨r2,Ε⟩:=bG (Go.Sort.order2 (Ξ cmp) d bE c s1);have f2:=ua (Ξ cmp) d (a:=bE) (b:=c) (n:=n) J J s1;have c2:=K5 d n bE c s1 Θ J J J Ο cmp a9 Ρ;rw[Ε] at f2 c2;obtain⟨bb,c6,s2⟩:=r2;simp only at f2 c2;obtain⟨r3,a8⟩:=bG (Go.Sort.order2 (Ξ cmp) d a1 bb s2);have f3:=ua (Ξ cmp) d (a:=a1) (b:=bb) (n:=n) J J s2;have c3:=K5 d n a1 bb s2 Θ J J J Ο cmp a9 Ρ;rw[a8] at f3 c3;obtain⟨cP,fX,lu⟩:=r3;simp only at f3 c3;have hm:Go.Sort.median (Ξ cmp) d a b c s=(fX,lu):=by unfold Go.Sort.median;simp only[Ζ,Ε,a8]
 rw[hm]
 repeat apply ae
 refine l9 ?_;refine bc λΚ κ=>?_;refine af.call (first:=[]) (captured:=[]) ((c1).mono (λr s ⟨bI,bw⟩=>?_) (λ_ _ h=>h.elim));subst bI;subst bw;simp;(repeat (rw[ah];simp));apply κ;refine bc λΚ κ=>?_;refine af.call (first:=[]) (captured:=[]) ((c2).mono (λr s ⟨bI,bw⟩=>?_) (λ_ _ h=>h.elim));subst bI;subst bw;simp;(repeat (rw[ah];simp));apply κ;refine bc λΚ κ=>?_;refine af.call (first:=[]) (captured:=[]) ((c3).mono (λr s ⟨bI,bw⟩=>?_) (λ_ _ h=>h.elim));subst bI;subst bw;simp;(repeat (rw[ah];simp));apply κ;refine Η ?_;exact W.ret ⟨_,rfl,rfl,rfl⟩
theorem fΜ (d:Array (Int×Int)) (n a b:Nat) (Θ:d.size=n) (ξ:n<2 ^ 38) (e':a+12<b) (uf:b<a+50) (hb:b<=n) (Ο:θ) (cmp:Int×Int->Int×Int->Int) (a9:aG 0 Ο) (Ρ:∀x y,ef Tryz.prog Ο [aK x,aK y] (I (cmp x y))) :
  af Tryz.prog 237 [.ms 0 n 0 n,I a,I b,Ο] [.cells 112 2 ((d).toList.map aK)] (λr s=>r=.bj [I (Go.Sort.choosePivot (Ξ cmp) d a b).1,I (qt (Go.Sort.choosePivot (Ξ cmp) d a b).2)]/\s=[.cells 112 2 ((d).toList.map aK)]) (λ_ _=>False):=by
 refine af.body Φ Tryz.func237 rfl rfl Tryz.ntmps237 rfl rfl η ?_;obtain⟨l,π⟩:=aF (b-a);obtain⟨q,Χ⟩:=aF (l / 4);obtain⟨dq,vP⟩:=aF (q*2);obtain⟨hU,Gf⟩:=aF (q*3);obtain⟨i,hi⟩:=aF (a+q);obtain⟨j,ζ⟩:=aF (a+dq);obtain⟨k,ψ⟩:=aF (a+hU);obtain⟨gm,em⟩:=bG (Go.Sort.median (Ξ cmp) d i j k 0);have vQ:=fΚ d n i j k 0 Θ J J J J Ο cmp a9 Ρ;rw[em] at vQ;obtain⟨iu,j3⟩:=gm;simp only at vQ;have cF:Go.Sort.choosePivot (Ξ cmp) d a b=(iu,if j3=0 then .increasing else if j3=12 then .decreasing else .unknown):=by
  have mz:8<=l:=J
  have fΝ:¬50<=l:=J;simp only[Go.Sort.choosePivot,<-π,<-Χ,Nat.mul_one,<-vP,<-Gf,<-hi,<-ζ,<-ψ,ge_iff_le,if_pos mz,if_neg fΝ,em]
 rw[cF];have ps:(8:Int)<=(l:Int):=J;have fΞ:¬(50:Int)<=(l:Int):=J;have w1:IntKind.i64.wrap ((b:Int)-(a:Int))=(l:Int):=by rw[IntWalk.i64_in _ J];omega
 have w2:IntKind.i64.wrap ((l:Int) / 4)=(q:Int):=by rw[Χ];exact vN (m:=4) J
 have w3:IntKind.i64.wrap (q:Int)=(q:Int):=IntWalk.i64_in _ J
 have w4:IntKind.i64.wrap ((q:Int)*2)=(dq:Int):=by rw[IntWalk.i64_in _ J];omega
 have kR:IntKind.i64.wrap ((q:Int)*3)=(hU:Int):=by rw[IntWalk.i64_in _ J];omega
 have iI:IntKind.i64.wrap ((a:Int)+(q:Int))=(i:Int):=by rw[IntWalk.i64_in _ J];omega
 have iJ:IntKind.i64.wrap ((a:Int)+(dq:Int))=(j:Int):=by rw[IntWalk.i64_in _ J];omega
 have lN:IntKind.i64.wrap ((a:Int)+(hU:Int))=(k:Int):=by rw[IntWalk.i64_in _ J];omega
 repeat apply ae
 refine l9 ?_
 repeat apply ae
 refine ov w1 ?_
 repeat apply ae
 refine dj (A:=[11]) Φ λΚ κ=>bp ?_;apply κ;refine aE (ς w2 (ς w3 (ς w4 (ς kR (ς iI (ς iJ (ς lN @ps))))))) ?_;refine aC η ?_;refine aE @fΞ ?_;refine ay η ?_;refine bc λΚ κ=>?_;refine af.call (first:=[]) (captured:=[]) ((vQ).mono (λr s ⟨bI,bw⟩=>?_) (λ_ _ h=>h.elim));subst bI;subst bw;simp;(repeat (rw[ah];simp));apply κ
 repeat apply ae
 refine l9 ?_;refine W.drop (h:=1) η η (Ge tH) rfl [(13,I (iu:Nat)),(55,I (j3:Nat))] η ?_;by_cases ao:j3=0
 ·subst ao;refine Η ?_;refine aC rfl ?_;refine Η ?_;exact W.ret ⟨_,rfl,rfl,rfl⟩
 have KO:¬(j3:Int)=0:=J;refine aE KO ?_;refine ay (by simp[ao]) ?_;by_cases hf:j3=12
 ·subst hf;refine Η ?_;refine aC rfl ?_;refine Η ?_;exact W.ret ⟨_,rfl,rfl,rfl⟩
 have KP:¬(j3:Int)=12:=J;refine aE KP ?_;refine ay (by simp[hf]) ?_;refine Η ?_;exact W.ret ⟨_,rfl,by simp[ao,hf,qt],rfl⟩
theorem Rv (d:Array (Int×Int)) (n a b:Nat) (Θ:d.size=n) (ξ:n<2 ^ 40) (e':a<b) (uf:b<a+50) (hb:b<=n) (Ο:θ) (cmp:Int×Int->Int×Int->Int) (a9:aG 0 Ο) (Ρ:∀x y,ef Tryz.prog Ο [aK x,aK y] (I (cmp x y))) :
  af Tryz.prog 239 [.ms 0 n 0 n,I a,I b,Ο] [.cells 112 2 ((d).toList.map aK)] (λr s=>r=ba (Go.Sort.partialInsertionSort (Ξ cmp) d a b).2/\s=[.cells 112 2 (((Go.Sort.partialInsertionSort (Ξ cmp) d a b).1).toList.map aK)]) (λ_ _=>False):=by
 refine af.body Φ Tryz.func239 rfl rfl Tryz.ntmps239 rfl rfl η ?_;obtain⟨an,dW⟩:=bG (Go.Sort.scanSorted (Ξ cmp) d b (a+1));have cF:Go.Sort.partialInsertionSort (Ξ cmp) d a b=(d,decide (an=b)):=by
  unfold Go.Sort.partialInsertionSort;rw[Go.Sort.partialIns,dW];by_cases h:an=b
  ·simp[h]
  ·simp[h];omega
 rw[cF];have w1:=hn (i:=a) J;refine aE w1 ?_;refine .loop ?_;refine Η ?_;refine aC rfl ?_
 repeat apply ae
 refine W.kQ [(0,.ms 0 n 0 n),(1,I a),(2,I b),(3,Ο),(9,I (an:Nat))] [.cells 112 2 ((d).toList.map aK)] ?_ ?_
 ·refine W.iter (λi:Nat=>a+1<=i/\i<=b/\Go.Sort.scanSorted (Ξ cmp) d b i=an) (λi=>[(0,.ms 0 n 0 n),(1,I a),(2,I b),(3,Ο),(9,I (i:Nat))]) (λ_=>[.cells 112 2 ((d).toList.map aK)]) (λi=>b-i) (a+1) ⟨Nat.le_refl _,J,dW⟩ rfl (by simp[w1]) (λi hi Α=>?_);obtain⟨i',jd,dv⟩:=hi;by_cases ε:i<b
  ·obtain⟨p,ω⟩:=aF (i-1);have aH:i<n:=J;have aI:p<n:=J;obtain⟨L,x,y,ad,δ,Μ,π,⟨U,γ⟩,⟨ο,Ι⟩,-,-⟩:=eQ aK Θ aH aI;have un:Go.Sort.scanSorted (Ξ cmp) d b i=if(!Ξ cmp x y)=true then Go.Sort.scanSorted (Ξ cmp) d b (i+1) else i:=by rw[Go.Sort.scanSorted];simp[ε,δ,<-ω,Μ]
   have hw:=hn (i:=i) J
   have g4:IntKind.i64.wrap ((i:Int)-1)=(p:Int):=by rw[IntWalk.i64_in _ J];omega
   refine W.to (σ':=[.cells 112 2 L]) (env':=[(0,.ms 0 n 0 n),(1,I a),(2,I b),(3,Ο),(9,I (i:Nat))]) ?_ (by rw[ad]) η;clear δ Μ
   repeat apply ae
   refine W.draw (A:=[]) Φ mixed λΚ κ=>gi (ς ε (ς g4 (ς π (ς U (ς γ (ς ο (ς Ι (ς aH aI)))))))) ?_;refine eD (Ρ x y) ?_;simp;(repeat (rw[cY];simp));try rw[cX]
   refine en (κ _ _ ?_);by_cases hm:cmp x y<0
   ·refine ay (by simp[hm]) ?_;refine W.exit rfl ?_;exact W.stop ⟨rfl,by rw[ad],by rw[<-dv,un];simp[hm,Ξ]⟩
   ·refine aC (by simp[hm]) ?_;refine aE hw ?_;exact W.to (Α (i+1) ⟨J,J,by rw[<-dv,un];simp[hm,Ξ]⟩ bi) (by rw[ad]) (by simp[hw])
  ·repeat apply ae
   refine dH ε ?_;refine ay rfl ?_;refine W.exit rfl ?_;have e:Go.Sort.scanSorted (Ξ cmp) d b i=i:=by rw[Go.Sort.scanSorted];simp[ε]
   exact W.stop ⟨rfl,rfl,by rw[<-dv,e];simp⟩
 by_cases ui:an=b
 ·have g:(an:Int)=(b:Int):=J
  refine aE g ?_;refine aC (by simp[ui]) ?_;refine Η ?_;exact W.ret ⟨_,rfl,by simp[ui],rfl⟩
 ·have g:¬(an:Int)=(b:Int):=J
  have ai:((b-a:Nat):Int)<50:=J
  have w2:=vO (a:=a) (b:=b) J J;refine aE g ?_;refine ay (by simp[ui]) ?_;refine aE (ς w2 ai) ?_;refine aC η ?_;refine Η ?_;exact W.ret ⟨_,rfl,by simp[ui],rfl⟩
end Go.TL
