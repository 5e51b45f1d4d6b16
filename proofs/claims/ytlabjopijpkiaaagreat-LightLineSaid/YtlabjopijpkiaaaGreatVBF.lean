import Derived.Test.YtlabjopijpkiaaaGreatVAP
import Derived.Test.YtlabjopijpkiaaaGreatVBA
import Derived.Test.YtlabjopijpkiaaaGreatVBB
import Derived.Test.YtlabjopijpkiaaaGreatVBE
set_option maxHeartbeats 16000000
set_option maxRecDepth 20000
set_option linter.unusedSectionVars false
set_option linter.unusedSimpArgs false
set_option linter.unusedVariables false
namespace Go.TL
open Go.Proofs
variable [bn]
theorem Q8 (d:Array (Int)) (n lo hi first:Nat) (Ζ:d.size=n) (ν:n<2 ^ 40) (dπ:first+hi<=n) (iJ:lo<=n)  :
  ae Tryz.prog 231 [.ms 0 n 0 n,I lo,I hi,I first] [.cells 3 1 ((d).toList.map I)] (λr s=>r=.bj []/\s=[.cells 3 1 ((Go.Sort.siftDown (Go.Sort.ltInt) hi first lo d).toList.map I)]) (λ_ _=>False):=by
 refine ae.body Ρ Tryz.func231 rfl rfl Tryz.ntmps231 rfl rfl η ?_;refine Η ?_;obtain⟨al,fp⟩:=bZ (Go.Sort.siftDown (Go.Sort.ltInt) hi first lo d);rw[fp];refine W.iter (λq:Nat×Array (Int)=>q.2.size=n/\q.1<=n/\Go.Sort.siftDown (Go.Sort.ltInt) hi first q.1 q.2=al) (λq=>[(0,.ms 0 n 0 n),(2,I hi),(3,I first),(8,I (q.1:Nat))]) (λq=>[.cells 3 1 ((q.2).toList.map I)]) (λq=>hi-q.1) (lo,d) ⟨Ζ,iJ,fp⟩ rfl η (λq Φ Β=>?_);obtain⟨r,e⟩:=q;obtain⟨cp,ι,aN⟩:=Φ;simp only at cp ι aN;obtain⟨c,δ⟩:=aK (2*r+1);obtain⟨c1,kK⟩:=aK (c+1);obtain⟨aA,lT⟩:=aK (first+r);obtain⟨wL,wM⟩:=aK (first+c);obtain⟨fd,uE⟩:=aK (first+(c+1));have w1:IntKind.i64.wrap (2*(r:Int))=2*(r:Int):=by rw[IntWalk.i64_in _ R]
 have w2:IntKind.i64.wrap (2*(r:Int)+1)=(c:Int):=by rw[IntWalk.i64_in _ R];omega
 have w3:IntKind.i64.wrap ((c:Int)+1)=(c1:Int):=by rw[IntWalk.i64_in _ R];omega
 have w4:IntKind.i64.wrap ((first:Int)+(c:Int))=(wL:Int):=by rw[IntWalk.i64_in _ R];omega
 have j':IntKind.i64.wrap ((wL:Int)+1)=(fd:Int):=by rw[IntWalk.i64_in _ R];omega
 have h3:IntKind.i64.wrap ((first:Int)+(r:Int))=(aA:Int):=by rw[IntWalk.i64_in _ R];omega
 refine W.to (σ':=[.cells 3 1 ((e).toList.map I)]) (env':=[(0,.ms 0 n 0 n),(2,I hi),(3,I first),(8,I (r:Nat))]) ?_ rfl η;refine aB (υ w1 w2) ?_;by_cases Bl:hi<=c
 ·refine ai (by simp[Bl]) ?_;refine W.exit rfl ?_;exact W.nil ⟨_,rfl,rfl,by rw[<-aN,Go.Sort.siftDown,dif_pos R]⟩
 refine aa (by simp[Bl]) ?_;obtain⟨B,dU⟩:=aK ((decide (c+1<hi)&&Go.Sort.ltInt e[first+c]! e[first+(c+1)]!):Bool);obtain⟨k,ς⟩:∃k,k=if B=true then c+1 else c:=⟨_,rfl⟩
 have dρ:k<hi:=by
  rw[ς];split
  ·rename_i h;rw[h] at dU;have:=dU.symm;simp at this;omega
  ·omega
 have un:=Qq (Go.Sort.ltInt) hi first r e (k:=k) δ R (by rw[<-dU];exact ς)
 rw[un] at aN
 repeat apply ad
 refine W.xO (A:=[]) Ρ mixed [(36,a6 B),(0,.ms 0 n 0 n),(2,I hi),(3,I first),(8,I r),(9,I c)] ?_ (by
  by_cases k0:c1<hi
  ·have aD:wL<n:=by omega
   have aH:fd<n:=R;obtain⟨L,x,y,ab,γ,Ι,ο,⟨J,U⟩,⟨μ,Θ⟩,-,-⟩:=eB I cp aD aH;have wN:B=Go.Sort.ltInt x y:=by rw[dU,<-γ,<-Ι,wM,uE];simp[<-kK,k0]
   have JG:(c1:Int)<hi:=R;rw[ab];clear γ Ι;simp;(repeat (rw[c7];simp[w3,w4,j',k0,JG,ο,J,U,μ,Θ,aD,aH]));(try rw[c6]);refine eA (az.p (nI x y) (bF.refl _) η η) ?_;simp;(repeat (rw[c7];simp[]));(try rw[c6]);refine⟨iN (by kernel_rfl),?_⟩;simp[wN,Go.Sort.ltInt]
  ·have wN:B=false:=by rw[dU];simp[<-kK,k0]
   simp;(repeat (rw[c7];simp[w3,k0]));(try rw[c6]);refine⟨iN (by kernel_rfl),?_⟩;simp[wN])
 have dς:r<k:=by rw[ς];split<;>omega
 repeat apply ad
 refine W.upto [(0,.ms 0 n 0 n),(2,I hi),(3,I first),(8,I (r:Nat)),(9,I (k:Nat))] [.cells 3 1 ((e).toList.map I)] ?_ ?_
 ·cases B with
  | true=>
   refine ai rfl ?_;refine nG w3 ?_;exact W.stop ⟨rfl,rfl,by simp[ς,kK]⟩
  | false=>
   refine aa rfl ?_;refine W.skip ?_;exact W.stop ⟨rfl,rfl,by simp[ς]⟩
 obtain⟨fk,JH⟩:=aK (first+k);rw[<-lT,<-JH] at aN;have h4:IntKind.i64.wrap ((first:Int)+(k:Int))=(fk:Int):=by rw[IntWalk.i64_in _ R];omega
 have aD:aA<n:=R
 have aH:fk<n:=R;obtain⟨L,x,y,ab,γ,Ι,ο,⟨J,U⟩,⟨μ,Θ⟩,cq,eC,av⟩:=eB I cp aD aH;rw[γ,Ι] at aN;refine W.to (σ':=[.cells 3 1 L]) (env':=[(0,.ms 0 n 0 n),(2,I hi),(3,I first),(8,I (r:Nat)),(9,I (k:Nat))]) ?_ (by rw[ab]) η;clear γ Ι
 repeat apply ad
 refine W.draw (A:=[]) Ρ mixed λΕ ζ=>gq (υ h3 (υ h4 (υ ο (υ J (υ U (υ μ (υ Θ (υ aD aH)))))))) ?_;refine eA (az.p (nI x y) (bF.refl _) η η) ?_;simp;(repeat (rw[c7];simp[]));try rw[c6]
 refine er (ζ _ _ ?_);by_cases hm:x<y
 ·refine aa (by simp[hm]) ?_
  repeat apply ad
  refine dF (υ h3 (υ h4 (υ ο (υ J (υ U (υ μ (υ Θ (υ av (υ aD aH))))))))) ?_;refine Η ?_;refine W.to (Β (k,Go.Sort.swp e aA fk) ⟨swp_size cp aA fk,by(try simp only);omega,?_⟩ (by(try simp only);omega)) (by rw[cq]) η;rw[<-aN];simp[hm,Go.Sort.ltInt]
 ·refine ai (by simp[hm]) ?_;refine Η ?_;exact W.ret ⟨_,rfl,rfl,by rw[<-ab,<-aN];simp[hm,Go.Sort.ltInt]⟩
theorem eΗ (d:Array (Int)) (n a b:Nat) (Ζ:d.size=n) (ν:n<2 ^ 40) (eN:a<b) (hb:b<=n)  :
  ae Tryz.prog 198 [.ms 0 n 0 n,I a,I b] [.cells 3 1 ((d).toList.map I)] (λr s=>r=.bj []/\s=[.cells 3 1 ((Go.Sort.heapSort (Go.Sort.ltInt) d a b).toList.map I)]) (λ_ _=>False):=by
 refine ae.body Ρ Tryz.func198 rfl rfl Tryz.ntmps198 rfl rfl η ?_;obtain⟨m,hm⟩:=bZ (b-a);have w1:IntKind.i64.wrap ((b:Int)-(a:Int))=(m:Int):=by rw[IntWalk.i64_in _ R];omega
 have w2:IntKind.i64.wrap ((m:Int)-1)=((m-1:Nat):Int):=hP R R
 have w3:IntKind.i64.wrap (((m-1:Nat):Int) / 2)=(((m-1) / 2:Nat):Int):=uR (m:=2) R;obtain⟨dS,hn⟩:=aK (m-1);obtain⟨dx,iR⟩:=aK ((m-1) / 2);rw[<-iR,<-hn] at w3;rw[<-hn] at w2;have wp:∀k:Nat,k<=n->IntKind.i64.wrap ((k:Int)-1)=(k:Int)-1:=λk ς=>by rw[IntWalk.i64_in _ R]
 obtain⟨h5,qx⟩:=bZ (Go.Sort.heapBuild (Go.Sort.ltInt) m a (dx+1) d);have cB:Go.Sort.heapSort (Go.Sort.ltInt) d a b=Go.Sort.heapPop (Go.Sort.ltInt) a m h5:=by unfold Go.Sort.heapSort;rw[hm,<-iR,qx]
 refine aB (υ w1 (υ w2 w3)) ?_;refine W.j9 [(0,.ms 0 n 0 n),(6,I a),(7,I 0),(8,I m)] [.cells 3 1 ((h5).toList.map I)] ?_ ?_
 ·refine W.iter (λq:Nat×Array (Int)=>q.2.size=n/\q.1<=dx+1/\Go.Sort.heapBuild (Go.Sort.ltInt) m a q.1 q.2=h5) (λq=>[(0,.ms 0 n 0 n),(6,I a),(7,I 0),(8,I m),(9,.z (.int .i64 ((q.1:Int)-1)))]) (λq=>[.cells 3 1 ((q.2).toList.map I)]) (λq=>q.1) (dx+1,d) ⟨Ζ,Nat.le_refl _,qx⟩ rfl η (λq Φ Β=>?_);obtain⟨k,e⟩:=q;obtain⟨cp,ς,aN⟩:=Φ;simp only at cp ς aN;cases k with
  | zero=>
   refine Η ?_;refine aa rfl ?_;refine W.exit rfl ?_;exact W.stop ⟨rfl,by rw[<-aN];rfl,η⟩
  | succ k=>
   have jK:(0:Int)<=(k:Int):=R;refine W.to (σ':=[.cells 3 1 ((e).toList.map I)]) (env':=[(0,.ms 0 n 0 n),(6,I a),(7,I 0),(8,I m),(9,.z (.int .i64 ((k:Int))))]) ?_ rfl η;refine aB jK ?_;refine ai η ?_;refine bl λΕ ζ=>?_;refine ae.call (first:=[]) (captured:=[]) ((Q8 e n k m a cp ν R R).mono (λr s ⟨b3,bX⟩=>?_) (λ_ _ h=>h.elim));subst b3;subst bX;simp;(repeat (rw[Ο];simp[]));apply ζ;refine aB (wp k R) ?_;exact W.to (Β (k,Go.Sort.siftDown (Go.Sort.ltInt) m a k e) ⟨Bi cp,by(try simp only);omega,aN⟩ η) rfl (by simp[wp k R])
 obtain⟨gG,na⟩:=bZ (Go.Sort.heapPop (Go.Sort.ltInt) a m h5);have JI:h5.size=n:=by rw[<-qx];exact Jw Ζ
 rw[na] at cB;refine aB w2 ?_;refine W.iter (λq:Nat×Array (Int)=>q.2.size=n/\q.1<=m/\Go.Sort.heapPop (Go.Sort.ltInt) a q.1 q.2=gG) (λq=>[(0,.ms 0 n 0 n),(6,I a),(7,I 0),(8,I m),(10,.z (.int .i64 ((q.1:Int)-1)))]) (λq=>[.cells 3 1 ((q.2).toList.map I)]) (λq=>q.1) (m,h5) ⟨JI,Nat.le_refl _,na⟩ rfl (by simp[hn];omega) (λq Φ Β=>?_);obtain⟨k,e⟩:=q;obtain⟨cp,ς,aN⟩:=Φ;simp only at cp ς aN;cases k with
 | zero=>
  refine Η ?_;refine aa rfl ?_;refine W.exit rfl ?_;exact W.nil ⟨_,rfl,rfl,by rw[cB,<-aN];rfl⟩
 | succ k=>
  have jK:(0:Int)<=(k:Int):=R;obtain⟨ku,JJ⟩:=aK (a+k);have h4:IntKind.i64.wrap ((a:Int)+(k:Int))=(ku:Int):=by rw[IntWalk.i64_in _ R];omega
  refine W.to (σ':=[.cells 3 1 ((e).toList.map I)]) (env':=[(0,.ms 0 n 0 n),(6,I a),(7,I 0),(8,I m),(10,.z (.int .i64 ((k:Int))))]) ?_ rfl η;refine aB jK ?_;refine ai η ?_;have aD:a<n:=R;have aH:ku<n:=R;obtain⟨L,x,y,ab,γ,Ι,ο,⟨J,U⟩,⟨μ,Θ⟩,cq,eC,av⟩:=eB I cp aD aH;refine W.to (σ':=[.cells 3 1 L]) (env':=[(0,.ms 0 n 0 n),(6,I a),(7,I 0),(8,I m),(10,.z (.int .i64 ((k:Int))))]) ?_ (by rw[ab]) η;clear γ Ι
  repeat apply ad
  refine dF (υ ο (υ J (υ U (υ μ (υ Θ (υ av (υ aD (υ aH h4)))))))) ?_;refine W.to (σ':=[.cells 3 1 ((Go.Sort.swp e a ku).toList.map I)]) (env':=[(0,.ms 0 n 0 n),(6,I a),(7,I 0),(8,I m),(10,.z (.int .i64 ((k:Int))))]) ?_ (by rw[cq]) η;clear aD aH J U μ Θ av cq ο ab L x y eC;refine bl λΕ ζ=>?_;refine ae.call (first:=[]) (captured:=[]) ((Q8 (Go.Sort.swp e a ku) n 0 k a (swp_size cp a ku) ν R R).mono (λr s ⟨b3,bX⟩=>?_) (λ_ _ h=>h.elim));subst b3;subst bX;simp;(repeat (rw[Ο];simp[]));apply ζ;refine aB (wp k R) ?_;exact W.to (Β (k,Go.Sort.siftDown (Go.Sort.ltInt) k a 0 (Go.Sort.swp e a ku)) ⟨Bi (swp_size cp a ku),by(try simp only);omega,by rw[JJ];exact aN⟩ η) rfl (by simp[wp k R])
theorem eΘ (d:Array (Int)) (n a b:Nat) (Ζ:d.size=n) (ν:n<2 ^ 40) (eN:a<b) (hb:b<=n)  :
  ae Tryz.prog 201 [.ms 0 n 0 n,I a,I b] [.cells 3 1 ((d).toList.map I)] (λr s=>r=.bj []/\s=[.cells 3 1 ((Go.Sort.reverseRange d a b).toList.map I)]) (λ_ _=>False):=by
 refine ae.body Ρ Tryz.func201 rfl rfl Tryz.ntmps201 rfl rfl η ?_;have w1:=hP (i:=b) R R;refine aB w1 ?_;refine W.iter (λq:Nat×Nat×Array (Int)=>q.2.2.size=n/\q.1<n/\q.2.1<n/\Go.Sort.reverseLoop q.1 q.2.1 q.2.2=Go.Sort.reverseRange d a b) (λq=>[(0,.ms 0 n 0 n),(6,I (q.1:Nat)),(7,I (q.2.1:Nat))]) (λq=>[.cells 3 1 ((q.2.2).toList.map I)]) (λq=>q.2.1-q.1) (a,b-1,d) ⟨Ζ,by(try simp only);omega,by(try simp only);omega,rfl⟩ rfl (by simp[w1]) (λq Φ Β=>?_);obtain⟨i,j,e⟩:=q;obtain⟨cp,hi,ε,aN⟩:=Φ;simp only at cp hi ε aN;rw[Go.Sort.reverseLoop] at aN;refine W.to (σ':=[.cells 3 1 ((e).toList.map I)]) (env':=[(0,.ms 0 n 0 n),(6,I (i:Nat)),(7,I (j:Nat))]) ?_ rfl η;refine Η ?_;by_cases δ:i<j
 ·refine ai (by simp[δ]) ?_;rw[if_pos δ] at aN;have w2:=gR (i:=i) R;have w3:=hP (i:=j) R R;have aD:i<n:=R;have aH:j<n:=R;obtain⟨L,x,y,ab,γ,Ι,ο,⟨J,U⟩,⟨μ,Θ⟩,cq,eC,av⟩:=eB I cp aD aH;refine W.to (σ':=[.cells 3 1 L]) (env':=[(0,.ms 0 n 0 n),(6,I (i:Nat)),(7,I (j:Nat))]) ?_ (by rw[ab]) η;clear γ Ι
  repeat apply ad
  refine dF (υ ο (υ J (υ U (υ μ (υ Θ (υ av (υ aD aH))))))) ?_;refine W.to (σ':=[.cells 3 1 ((Go.Sort.swp e i j).toList.map I)]) (env':=[(0,.ms 0 n 0 n),(6,I (i:Nat)),(7,I (j:Nat))]) ?_ (by rw[cq]) η;clear aD aH J U μ Θ av cq ο ab L x y eC;refine aB (υ w2 w3) ?_;exact W.to (Β (i+1,j-1,Go.Sort.swp e i j) ⟨swp_size cp i j,by(try simp only);omega,by(try simp only);omega,aN⟩ (by(try simp only);omega)) rfl (by simp[w2,w3])
 ·refine aa (by simp[δ]) ?_;refine W.exit rfl ?_;rw[if_neg δ] at aN;exact W.nil ⟨_,rfl,rfl,by rw[aN]⟩
section
variable {α:Type} [Inhabited α]
theorem eΙ (lt:α->α->Bool) (d:Array α) {b:Nat}:∀(m i:Nat),b-i<=m->i<=b->i<=Go.Sort.scanSorted lt d b i/\Go.Sort.scanSorted lt d b i<=b:=by
 intro m
 induction m with
 | zero=>intro i h hi;rw[Go.Sort.scanSorted,if_neg (by simp;omega)];omega
 | succ m Β=>
  intro i h hi;rw[Go.Sort.scanSorted];split
  ·rename_i δ;simp only[Bool.and_eq_true,decide_eq_true_eq] at δ;have:=Β (i+1) R R;omega
  ·omega
theorem eΚ (lt:α->α->Bool) {n:Nat}:∀(j:Nat) (d:Array α),d.size=n->(Go.Sort.shiftDown lt j d).size=n:=by
 intro j
 induction j with
 | zero=>intro d h;exact h
 | succ j Β=>
  intro d h;rw[Go.Sort.shiftDown];split
  ·exact h
  ·exact Β _ (swp_size h _ _)
theorem eΜ (lt:α->α->Bool) {b n:Nat}:∀(m j:Nat) (d:Array α),b-j<=m->d.size=n->(Go.Sort.shiftUp lt b j d).size=n:=by
 intro m
 induction m with
 | zero=>intro j d h hd;rw[Go.Sort.shiftUp,if_neg R];exact hd
 | succ m Β=>
  intro j d h hd;rw[Go.Sort.shiftUp];split
  ·split
   ·exact hd
   ·exact Β _ _ R (swp_size hd _ _)
  ·exact hd
theorem Kk (lt:α->α->Bool) (d:Array α) {i n:Nat} (aj:1<=i) (hi:i+1<n) (s:Nat):(Go.Sort.medianAdjacent lt d i s).1<n/\(Go.Sort.medianAdjacent lt d i s).2<=s+3:=by
 unfold Go.Sort.medianAdjacent Go.Sort.median;have f1:=s9 lt d (a:=i-1) (b:=i) (n:=n) R R s;generalize Go.Sort.order2 lt d (i-1) i s=r1 at f1 ⊢;have f2:=s9 lt d (a:=r1.2.1) (b:=i+1) (n:=n) R hi r1.2.2;simp only;generalize Go.Sort.order2 lt d r1.2.1 (i+1) r1.2.2=r2 at f2 ⊢;have f3:=s9 lt d (a:=r1.1) (b:=r2.1) (n:=n) R R r2.2.2;generalize Go.Sort.order2 lt d r1.1 r2.1 r2.2.2=r3 at f3 ⊢;omega
end
theorem Kl (d:Array (Int)) (n a b s:Nat) (Ζ:d.size=n) (κ:a<n) (hb:b<n) (ν:s<2 ^ 40)  :
  ae Tryz.prog 253 [.ms 0 n 0 n,I a,I b,.ar 1 1 0 0] [.cells 3 1 (d.toList.map I),.cells 3 1 [I s]] (λr σ=>r=.bj [I (Go.Sort.order2 (Go.Sort.ltInt) d a b s).1,I (Go.Sort.order2 (Go.Sort.ltInt) d a b s).2.1]/\σ=[.cells 3 1 (d.toList.map I),.cells 3 1 [I (Go.Sort.order2 (Go.Sort.ltInt) d a b s).2.2]]) (λ_ _=>False):=by
 refine ae.body Ρ Tryz.func253 rfl rfl Tryz.ntmps253 rfl rfl η ?_;obtain⟨L,ab⟩:=aK (d.toList.map I);have jh:L.length=n:=by rw[ab];simpa using Ζ
 obtain⟨x,γ⟩:=aK (d[a]!);obtain⟨y,Ι⟩:=aK (d[b]!);have yF:L[a]?=some (I x):=by rw[ab,γ,List.getElem?_map,Array.getElem?_toList,p9 R];rfl
 have pb:L[b]?=some (I y):=by rw[ab,Ι,List.getElem?_map,Array.getElem?_toList,p9 R];rfl
 have JL:∀h:a<L.length,L[a]=I x:=λh=>by have:=yF;rw[bg h] at this;exact Option.some.inj this
 have JM:∀h:b<L.length,L[b]=I y:=λh=>by have:=pb;rw[bg h] at this;exact Option.some.inj this
 have hw:IntKind.i64.wrap ((s:Int)+1)=((s+1:Nat):Int):=by rw[IntWalk.i64_in _ R];omega
 have ω:Go.Sort.order2 (Go.Sort.ltInt) d a b s=if Go.Sort.ltInt y x=true then(b,a,s+1) else(a,b,s):=by unfold Go.Sort.order2;rw[<-γ,<-Ι]
 rw[ω,<-ab];clear ab γ Ι ω;refine Η ?_;refine W.draw (A:=[]) Ρ mixed λΕ ζ=>gq (υ jh (υ yF (υ pb (υ JL JM)))) ?_;refine⟨hb,κ,?_⟩;refine eA (az.p (nI y x) (bF.refl _) η η) ?_;simp;(repeat (rw[c7];simp[]));try rw[c6]
 refine er (ζ _ _ ?_);by_cases hm:y<x
 ·refine ai (by simp[hm]) ?_;refine aB hw ?_;exact W.ret ⟨_,rfl,by simp[aC,Go.Sort.ltInt,hm],by simp[aC,Go.Sort.ltInt,hm]⟩
 ·refine aa (by simp[hm]) ?_;refine aB hw ?_;exact W.ret ⟨_,rfl,by simp[aC,Go.Sort.ltInt,hm],by simp[aC,Go.Sort.ltInt,hm]⟩
theorem Q9 (d:Array (Int)) (n a b c s:Nat) (Ζ:d.size=n) (κ:a<n) (hb:b<n) (δ:c<n) (ν:s<2 ^ 39)  :
  ae Tryz.prog 233 [.ms 0 n 0 n,I a,I b,I c,.ar 1 1 0 0] [.cells 3 1 ((d).toList.map I),.cells 3 1 [I (s:Nat)]] (λr σ=>r=I (Go.Sort.median (Go.Sort.ltInt) d a b c s).1/\σ=[.cells 3 1 ((d).toList.map I),.cells 3 1 [I ((Go.Sort.median (Go.Sort.ltInt) d a b c s).2:Nat)]]) (λ_ _=>False):=by
 refine ae.body Ρ Tryz.func233 rfl rfl Tryz.ntmps233 rfl rfl η ?_;obtain⟨r1,Δ⟩:=bZ (Go.Sort.order2 (Go.Sort.ltInt) d a b s);have f1:=s9 (Go.Sort.ltInt) d (a:=a) (b:=b) (n:=n) R R s;have c1:=Kl d n a b s Ζ R R R;rw[Δ] at f1 c1;obtain⟨a1,bw,s1⟩:=r1;simp only at f1 c1;obtain⟨r2,Γ⟩:=bZ (Go.Sort.order2 (Go.Sort.ltInt) d bw c s1);have f2:=s9 (Go.Sort.ltInt) d (a:=bw) (b:=c) (n:=n) R R s1;have c2:=Kl d n bw c s1 Ζ R R R;rw[Γ] at f2 c2;obtain⟨bd,dm,s2⟩:=r2;simp only at f2 c2;obtain⟨r3,a2⟩:=bZ (Go.Sort.order2 (Go.Sort.ltInt) d a1 bd s2);have f3:=s9 (Go.Sort.ltInt) d (a:=a1) (b:=bd) (n:=n) R R s2;have c3:=Kl d n a1 bd s2 Ζ R R R;rw[a2] at f3 c3;obtain⟨cI,fJ,kD⟩:=r3;simp only at f3 c3;have hm:Go.Sort.median (Go.Sort.ltInt) d a b c s=(fJ,kD):=by unfold Go.Sort.median;simp only[Δ,Γ,a2]
 rw[hm]
 repeat apply ad
 refine mQ ?_;refine bl λΕ ζ=>?_;refine ae.call (first:=[]) (captured:=[]) ((c1).mono (λr s ⟨b3,bX⟩=>?_) (λ_ _ h=>h.elim));subst b3;subst bX;simp;(repeat (rw[Ο];simp[]));apply ζ;refine bl λΕ ζ=>?_;refine ae.call (first:=[]) (captured:=[]) ((c2).mono (λr s ⟨b3,bX⟩=>?_) (λ_ _ h=>h.elim));subst b3;subst bX;simp;(repeat (rw[Ο];simp[]));apply ζ;refine bl λΕ ζ=>?_;refine ae.call (first:=[]) (captured:=[]) ((c3).mono (λr s ⟨b3,bX⟩=>?_) (λ_ _ h=>h.elim));subst b3;subst bX;simp;(repeat (rw[Ο];simp[]));apply ζ;refine Η ?_;exact W.ret ⟨_,rfl,rfl,rfl⟩
theorem Km (d:Array (Int)) (n i s:Nat) (Ζ:d.size=n) (k2:1<=i) (hi:i+1<n) (ea:n<2 ^ 40) (ν:s<2 ^ 39)  :
  ae Tryz.prog 232 [.ms 0 n 0 n,I i,.ar 1 1 0 0] [.cells 3 1 ((d).toList.map I),.cells 3 1 [I (s:Nat)]] (λr σ=>r=I (Go.Sort.medianAdjacent (Go.Sort.ltInt) d i s).1/\σ=[.cells 3 1 ((d).toList.map I),.cells 3 1 [I ((Go.Sort.medianAdjacent (Go.Sort.ltInt) d i s).2:Nat)]]) (λ_ _=>False):=by
 refine ae.body Ρ Tryz.func232 rfl rfl Tryz.ntmps232 rfl rfl η ?_;obtain⟨p,ψ⟩:=aK (i-1);obtain⟨q,Φ⟩:=aK (i+1);have w1:IntKind.i64.wrap ((i:Int)-1)=(p:Int):=by rw[IntWalk.i64_in _ R];omega
 have w2:IntKind.i64.wrap ((i:Int)+1)=(q:Int):=by rw[IntWalk.i64_in _ R];omega
 have c:=Q9 d n p i q s Ζ R R R ν
 have e:Go.Sort.medianAdjacent (Go.Sort.ltInt) d i s=Go.Sort.median (Go.Sort.ltInt) d p i q s:=by rw[ψ,Φ];rfl
 rw[e]
 repeat apply ad
 refine mQ ?_;refine hI (υ w1 w2) λΕ ζ=>?_;refine ae.call (first:=[]) (captured:=[]) ((c).mono (λr s ⟨b3,bX⟩=>?_) (λ_ _ h=>h.elim));subst b3;subst bX;simp;(repeat (rw[Ο];simp[]));apply ζ;refine Η ?_;exact W.ret ⟨_,rfl,rfl,rfl⟩
theorem eΝ (d:Array (Int)) (n a b:Nat) (Ζ:d.size=n) (ν:n<2 ^ 38) (eN:a+12<b) (hb:b<=n)  :
  ae Tryz.prog 200 [.ms 0 n 0 n,I a,I b] [.cells 3 1 ((d).toList.map I)] (λr s=>r=.bj [I (Go.Sort.choosePivot (Go.Sort.ltInt) d a b).1,I (pv (Go.Sort.choosePivot (Go.Sort.ltInt) d a b).2)]/\s=[.cells 3 1 ((d).toList.map I)]) (λ_ _=>False):=by
 refine ae.body Ρ Tryz.func200 rfl rfl Tryz.ntmps200 rfl rfl η ?_;obtain⟨l,ο⟩:=aK (b-a);obtain⟨q,Φ⟩:=aK (l / 4);obtain⟨dq,uT⟩:=aK (q*2);obtain⟨ga,Fl⟩:=aK (q*3);obtain⟨i,hi⟩:=aK (a+q);obtain⟨j,ε⟩:=aK (a+dq);obtain⟨k,ς⟩:=aK (a+ga);have ow:(8:Int)<=(l:Int):=R;have w1:IntKind.i64.wrap ((b:Int)-(a:Int))=(l:Int):=by rw[IntWalk.i64_in _ R];omega
 have w2:IntKind.i64.wrap ((l:Int) / 4)=(q:Int):=by rw[Φ];exact uR (m:=4) R
 have w3:IntKind.i64.wrap (q:Int)=(q:Int):=IntWalk.i64_in _ R
 have w4:IntKind.i64.wrap ((q:Int)*2)=(dq:Int):=by rw[IntWalk.i64_in _ R];omega
 have j':IntKind.i64.wrap ((q:Int)*3)=(ga:Int):=by rw[IntWalk.i64_in _ R];omega
 have h3:IntKind.i64.wrap ((a:Int)+(q:Int))=(i:Int):=by rw[IntWalk.i64_in _ R];omega
 have h4:IntKind.i64.wrap ((a:Int)+(dq:Int))=(j:Int):=by rw[IntWalk.i64_in _ R];omega
 have kX:IntKind.i64.wrap ((a:Int)+(ga:Int))=(k:Int):=by rw[IntWalk.i64_in _ R];omega
 obtain⟨ah,an,K,s1,Κ,eΞ,eΟ,eΡ,mL⟩:∃ah an K s1:Nat,Go.Sort.choosePivot (Go.Sort.ltInt) d a b=((Go.Sort.median (Go.Sort.ltInt) d ah an K s1).1,if(Go.Sort.median (Go.Sort.ltInt) d ah an K s1).2=0 then .increasing else if(Go.Sort.median (Go.Sort.ltInt) d ah an K s1).2=12 then .decreasing else .unknown)/\ah<n/\an<n/\K<n/\(s1<=9/\((l<50/\ah=i/\an=j/\K=k/\s1=0)\/(50<=l/\∃t1 t2,Go.Sort.medianAdjacent (Go.Sort.ltInt) d i 0=(ah,t1)/\t1<=3/\Go.Sort.medianAdjacent (Go.Sort.ltInt) d j t1=(an,t2)/\t2<=6/\Go.Sort.medianAdjacent (Go.Sort.ltInt) d k t2=(K,s1)))):=by
  have lO:8<=l:=R;by_cases ta:50<=l
  ·have dS:=Kk (Go.Sort.ltInt) d (n:=n) (i:=i) R R 0;obtain⟨⟨ah,t1⟩,Δ⟩:∃r,Go.Sort.medianAdjacent (Go.Sort.ltInt) d i 0=r:=⟨_,rfl⟩;rw[Δ] at dS;have dx:=Kk (Go.Sort.ltInt) d (n:=n) (i:=j) R R t1;obtain⟨⟨an,t2⟩,Γ⟩:∃r,Go.Sort.medianAdjacent (Go.Sort.ltInt) d j t1=r:=⟨_,rfl⟩;rw[Γ] at dx;have l9:=Kk (Go.Sort.ltInt) d (n:=n) (i:=k) R R t2;obtain⟨⟨K,s1⟩,a2⟩:∃r,Go.Sort.medianAdjacent (Go.Sort.ltInt) d k t2=r:=⟨_,rfl⟩;rw[a2] at l9;simp only at dS dx l9;refine⟨ah,an,K,s1,?_,dS.1,dx.1,l9.1,R,.inr ⟨ta,t1,t2,Δ,R,Γ,R,a2⟩⟩;simp only[Go.Sort.choosePivot,<-ο,<-Φ,Nat.mul_one,<-uT,<-Fl,<-hi,<-ε,<-ς,ge_iff_le,if_pos lO,if_pos ta,Δ,Γ,a2]
  ·refine⟨i,j,k,0,?_,R,R,R,R,.inl ⟨R,rfl,rfl,rfl,rfl⟩⟩;simp only[Go.Sort.choosePivot,<-ο,<-Φ,Nat.mul_one,<-uT,<-Fl,<-hi,<-ε,<-ς,ge_iff_le,if_pos lO,if_neg ta]
 obtain⟨fW,em⟩:=bZ (Go.Sort.median (Go.Sort.ltInt) d ah an K s1);have uU:=Q9 d n ah an K s1 Ζ eΞ eΟ eΡ (Nat.lt_of_le_of_lt mL.1 bu);rw[em] at uU Κ;obtain⟨hQ,ks⟩:=fW;simp only at uU Κ;rw[Κ]
 repeat apply ad
 refine mQ ?_
 repeat apply ad
 refine nG w1 ?_
 repeat apply ad
 refine dM (A:=[9]) Ρ λΕ ζ=>bD ?_;apply ζ;refine aB (υ w2 (υ w3 (υ w4 (υ j' (υ h3 (υ h4 (υ kX @ow))))))) ?_;refine ai η ?_;refine Η ?_;refine W.upto [(0,.ms 0 n 0 n),(9,.ar 1 1 0 0),(10,I (ah:Nat)),(11,I (an:Nat)),(12,I (K:Nat))] [.cells 3 1 ((d).toList.map I),.cells 3 1 [I (s1:Nat)]] ?_ ?_
 ·clear Κ uU;rcases mL with⟨-,⟨bw,rfl,rfl,rfl,rfl⟩|⟨bw,t1,t2,Δ,μ,Γ,ba,a2⟩⟩
  ·have g:¬(50:Int)<=(l:Int):=by omega
   refine aa (by simp[g]) ?_;refine W.skip ?_;exact W.stop ⟨rfl,rfl,η⟩
  ·have g:(50:Int)<=(l:Int):=by omega
   have c1:=Km d n i 0 Ζ R R R R
   have c2:=Km d n j t1 Ζ R R R R
   have c3:=Km d n k t2 Ζ R R R R;rw[Δ] at c1;rw[Γ] at c2;rw[a2] at c3;refine ai (by simp[g]) ?_;refine bl λΕ ζ=>?_;refine ae.call (first:=[]) (captured:=[]) ((c1).mono (λr s ⟨b3,bX⟩=>?_) (λ_ _ h=>h.elim));subst b3;subst bX;simp;(repeat (rw[Ο];simp[]));apply ζ;refine bl λΕ ζ=>?_;refine ae.call (first:=[]) (captured:=[]) ((c2).mono (λr s ⟨b3,bX⟩=>?_) (λ_ _ h=>h.elim));subst b3;subst bX;simp;(repeat (rw[Ο];simp[]));apply ζ;refine bl λΕ ζ=>?_;refine ae.call (first:=[]) (captured:=[]) ((c3).mono (λr s ⟨b3,bX⟩=>?_) (λ_ _ h=>h.elim));subst b3;subst bX;simp;(repeat (rw[Ο];simp[]));apply ζ;exact W.stop ⟨rfl,rfl,η⟩
 clear mL;refine bl λΕ ζ=>?_;refine ae.call (first:=[]) (captured:=[]) ((uU).mono (λr s ⟨b3,bX⟩=>?_) (λ_ _ h=>h.elim));subst b3;subst bX;simp;(repeat (rw[Ο];simp[]));apply ζ
 repeat apply ad
 refine mQ ?_;refine W.drop (h:=1) η η (Fj rn) rfl [(11,I (hQ:Nat)),(49,I (ks:Nat))] η ?_;by_cases aj:ks=0
 ·subst aj;refine Η ?_;refine ai rfl ?_;refine Η ?_;exact W.ret ⟨_,rfl,rfl,rfl⟩
 have JN:¬(ks:Int)=0:=R;refine aB JN ?_;refine aa (by simp[aj]) ?_;by_cases gL:ks=12
 ·subst gL;refine Η ?_;refine ai rfl ?_;refine Η ?_;exact W.ret ⟨_,rfl,rfl,rfl⟩
 have JO:¬(ks:Int)=12:=R;refine aB JO ?_;refine aa (by simp[gL]) ?_;refine Η ?_;exact W.ret ⟨_,rfl,by simp[aj,gL,pv],rfl⟩
theorem eΤ (d:Array (Int)) (n a b:Nat) (Ζ:d.size=n) (ν:n<2 ^ 40) (eN:a+12<b) (jθ:b<a+256) (hb:b<=n)  :
  ae Tryz.prog 199 [.ms 0 n 0 n,I a,I b] [.cells 3 1 ((d).toList.map I)] (λr s=>r=.bj []/\s=[.cells 3 1 ((Go.Sort.breakPatterns d a b).toList.map I)]) (λ_ _=>False):=by
 refine ae.body Ρ Tryz.func199 rfl rfl Tryz.ntmps199 rfl rfl η ?_;obtain⟨l,ο⟩:=aK (b-a);obtain⟨q,Φ⟩:=aK (l / 4);obtain⟨dq,uT⟩:=aK (q*2);obtain⟨c,δ⟩:=aK (a+dq);obtain⟨ef,ic⟩:=aK (c-1);obtain⟨c1,kK⟩:=aK (c+1);obtain⟨m,hm⟩:=aK (1 <<< Go.Sort.bitsLen l);have JR:Go.Sort.bitsLen l<=8:=(Go.Sort.bitsLen_le_iff l 8).2 R;have DV:l<m/\m<=256/\m<=2*l:=by
  have J:=Go.Sort.lt_two_pow_bitsLen l
  have U:=Go.Sort.two_pow_bitsLen_le (n:=l) R;rw[hm,Nat.one_shiftLeft];exact⟨J,Nat.le_trans (Nat.pow_le_pow_right R JR) bu,U⟩
 obtain⟨al,fp⟩:=bZ (rV a l m 3 ef (UInt64.ofNat l,d));have cB:Go.Sort.breakPatterns d a b=al.2:=by rw[Qs (c:=c) ο R (by rw[δ,uT,Φ]),<-hm,<-ic,fp]
 rw[cB];have w1:IntKind.i64.wrap ((b:Int)-(a:Int))=(l:Int):=by rw[IntWalk.i64_in _ R];omega
 have w2:IntKind.i64.wrap ((l:Int) / 4)=(q:Int):=by rw[Φ];exact uR (m:=4) R
 have w4:IntKind.i64.wrap ((q:Int)*2)=(dq:Int):=by rw[IntWalk.i64_in _ R];omega
 have h3:IntKind.i64.wrap ((a:Int)+(dq:Int))=(c:Int):=by rw[IntWalk.i64_in _ R];omega
 have h4:IntKind.i64.wrap ((c:Int)-1)=(ef:Int):=by rw[IntWalk.i64_in _ R];omega
 have kX:IntKind.i64.wrap ((c:Int)+1)=(c1:Int):=by rw[IntWalk.i64_in _ R];omega
 have JS:IntKind.u64.wrap (l:Int)=(l:Int):=s' R
 have JU:IntKind.u64.wrap ((m:Int)-1)=((m-1:Nat):Int):=by
  have e:(m:Int)-1=((m-1:Nat):Int):=R;rw[e];exact s' R
 have ow:(8:Int)<=(l:Int):=R
 have cl:(UInt64.ofNat l).toNat=l:=by rw[UInt64.toNat_ofNat'];exact Nat.mod_eq_of_lt R
 refine aB (υ w1 @ow) ?_;refine ai η ?_
 repeat apply ad
 refine dM (A:=[7]) Ρ λΕ ζ=>gW JS ?_;apply ζ;have vH:=QA l R;rw[<-hm] at vH;refine bl λΕ ζ=>?_;refine az.c vH (bF.refl _) η η ?_;simp;(repeat (rw[Ο];simp[]));apply ζ;refine aB (υ w2 (υ w4 (υ h3 h4))) ?_;refine W.iter (λy:Nat×UInt64×Array (Int)=>y.1<=3/\y.2.2.size=n/\rV a l m y.1 (c+2-y.1) y.2=al) (λy=>[(0,.ms 0 n 0 n),(1,I a),(6,I (l:Nat)),(7,.ar 1 1 0 0),(8,jN (m:Nat)),(9,I (c+2-y.1:Nat))]) (λy=>[.cells 3 1 ((y.2.2).toList.map I),.cells 248 1 [jN ((y.2.1.toNat:Nat):Int)]]) (λy=>y.1) (3,UInt64.ofNat l,d) ⟨Nat.le_refl _,Ζ,by simp only;rw[<-fp,show c+2-3=ef by omega]⟩ (by simp only;rw[cl]) (by simp[ic]) (λy Ι Β=>?_);obtain⟨t,st,e⟩:=y;obtain⟨Ν,cp,aN⟩:=Ι;simp only at Ν cp aN;obtain⟨bC,mH⟩:=aK (c+2-t);obtain⟨x,γ⟩:=aK st.toNat;have q7:x<2 ^ 64:=by rw[γ];exact st.toNat_lt
 rw[<-mH] at aN;refine W.to (σ':=[.cells 3 1 ((e).toList.map I),.cells 248 1 [jN ((x:Nat):Int)]]) (env':=[(0,.ms 0 n 0 n),(1,I a),(6,I (l:Nat)),(7,.ar 1 1 0 0),(8,jN (m:Nat)),(9,I (bC:Nat))]) ?_ (by rw[γ]) (by simp[mH]);cases t with
 | zero=>
  have g:¬(bC:Int)<=(c1:Int):=R;refine aB (υ w2 (υ w4 (υ h3 (υ kX g)))) ?_;refine aa η ?_;refine W.exit rfl ?_;refine W.drop (h:=1) η η (Fj rn) rfl [] η ?_;exact W.nil ⟨_,rfl,rfl,by rw[<-aN];rfl⟩
 | succ t=>
  have g:(bC:Int)<=(c1:Int):=R;obtain⟨te,vk⟩:=aK (Go.Sort.xorNext st);obtain⟨ie,kI⟩:=aK te.toNat;have JV:ie=Go.Sort.xorNextN x:=by rw[kI,vk,Go.Sort.xorNext_toNat,γ]
  have JW:ie<2 ^ 64:=by rw[kI];exact te.toNat_lt
  have Bm:=QB x q7;rw[<-JV] at Bm;obtain⟨z,Τ⟩:=aK (ie&&&(m-1));have gu:z<=m-1:=by rw[Τ];exact Nat.and_le_right
  have a3:eY .u64 (ie:Int) ((m-1:Nat):Int)=(z:Int):=by rw[Τ];exact Qt JW R
  have JX:IntKind.i64.wrap (z:Int)=(z:Int):=IntWalk.i64_in _ R;obtain⟨o,ω⟩:=aK (if z>=l then z-l else z);have xC:o<l:=by rw[ω];split<;>omega
  have na:rV a l m t (bC+1) (te,Go.Sort.swp e bC (a+o))=al:=by
   rw[<-aN];show _=rV a l m t (bC+1) (Go.Sort.breakStep a l m (st,e) bC);unfold Go.Sort.breakStep;simp only;rw[<-vk,<-kI,<-Τ,<-ω]
  obtain⟨tf,JY⟩:=aK (a+o);rw[<-JY] at na;refine aB (υ w2 (υ w4 (υ h3 (υ kX g)))) ?_;refine ai η ?_;refine bl λΕ ζ=>?_;refine ae.one Bm 1 rfl (by simp[il]) (by simp[il]) (by simp[fQ,nE]) (by simp[fQ,nE]) rfl ?_;simp[ei,hY];(repeat (rw[Ο];simp[JU,a3,JX]));apply ζ;refine W.to (σ':=[.cells 3 1 ((e).toList.map I),.cells 248 1 [jN ((ie:Nat):Int)]]) (env':=[(0,.ms 0 n 0 n),(1,I a),(6,I (l:Nat)),(7,.ar 1 1 0 0),(8,jN (m:Nat)),(9,I (bC:Nat)),(10,I (z:Nat))]) ?_ rfl η;refine Η ?_;refine W.upto [(0,.ms 0 n 0 n),(1,I a),(6,I (l:Nat)),(7,.ar 1 1 0 0),(8,jN (m:Nat)),(9,I (bC:Nat)),(10,I (o:Nat))] [.cells 3 1 ((e).toList.map I),.cells 248 1 [jN ((ie:Nat):Int)]] ?_ ?_
  ·by_cases k':l<=z
   ·have wo:IntKind.i64.wrap ((z:Int)-(l:Int))=(o:Int):=by rw[IntWalk.i64_in _ R,ω,if_pos k'];omega
    refine ai (by simp[k']) ?_;refine aB wo ?_;exact W.stop ⟨rfl,rfl,η⟩
   ·refine aa (by simp[k']) ?_
    repeat apply ad
    exact W.stop ⟨rfl,rfl,by simp[ω,k']⟩
  have JZ:IntKind.i64.wrap ((a:Int)+(o:Int))=(tf:Int):=by rw[IntWalk.i64_in _ R];omega
  have aD:bC<n:=R
  have aH:tf<n:=R;obtain⟨L,x,y,ab,γ,Ι,ο,⟨J,U⟩,⟨μ,Θ⟩,cq,eC,av⟩:=eB I cp aD aH;rw[ab];clear γ Ι
  repeat apply ad
  refine dF (υ ο (υ J (υ U (υ μ (υ Θ (υ av (υ aD (υ aH JZ)))))))) ?_;have J0:=gR (i:=bC) R;refine aB J0 ?_;refine W.to (Β (t,te,Go.Sort.swp e bC tf) ⟨by(try simp only);omega,swp_size cp bC tf,?_⟩ η) (by rw[cq,kI]) (by simp[show c+2-t=bC+1 by omega]);have Δ:c+2-t=bC+1:=R;simp only;rw[Δ];exact na
theorem Q' (d:Array (Int)) (n a b:Nat) (Ζ:d.size=n) (ν:n<2 ^ 40) (eN:a<b) (hb:b<=n)  :
  ae Tryz.prog 202 [.ms 0 n 0 n,I a,I b] [.cells 3 1 ((d).toList.map I)] (λr s=>r=a6 (Go.Sort.partialInsertionSort (Go.Sort.ltInt) d a b).2/\s=[.cells 3 1 (((Go.Sort.partialInsertionSort (Go.Sort.ltInt) d a b).1).toList.map I)]) (λ_ _=>False):=by
 refine ae.body Ρ Tryz.func202 rfl rfl Tryz.ntmps202 rfl rfl η ?_;obtain⟨al,fp⟩:=bZ (Go.Sort.partialIns (Go.Sort.ltInt) a b 5 (a+1) d);have cB:Go.Sort.partialInsertionSort (Go.Sort.ltInt) d a b=al:=fp;rw[cB];have w1:=gR (i:=a) R;refine aB w1 ?_;refine W.iter (λq:Nat×Nat×Array (Int)=>q.1<=5/\a+1<=q.2.1/\q.2.1<=b/\q.2.2.size=n/\Go.Sort.partialIns (Go.Sort.ltInt) a b (5-q.1) q.2.1 q.2.2=al) (λq=>[(0,.ms 0 n 0 n),(1,I a),(2,I b),(7,I (q.2.1:Nat)),(8,I (q.1:Nat))]) (λq=>[.cells 3 1 ((q.2.2).toList.map I)]) (λq=>5-q.1) (0,a+1,d) ⟨Nat.zero_le _,Nat.le_refl _,eN,Ζ,fp⟩ rfl (by simp[w1]) (λq Φ Β=>?_);clear fp cB Ζ w1;obtain⟨st,i,e⟩:=q;obtain⟨cF,iq,ix,cp,aN⟩:=Φ;simp only at cF iq ix cp aN;refine W.to (σ':=[.cells 3 1 ((e).toList.map I)]) (env':=[(0,.ms 0 n 0 n),(1,I a),(2,I b),(7,I (i:Nat)),(8,I (st:Nat))]) ?_ rfl η;by_cases av:st<5
 case neg=>
  have g:¬(st:Int)<5:=R;refine aB g ?_;refine aa η ?_;refine W.exit rfl ?_;refine Η ?_;obtain rfl:st=5:=R;exact W.ret ⟨_,rfl,by rw[<-aN];rfl,by rw[<-aN];rfl⟩
 have gB:(st:Int)<5:=R;refine aB gB ?_;refine ai η ?_;obtain⟨ah,dO⟩:=bZ (Go.Sort.scanSorted (Go.Sort.ltInt) e b i);have eΥ:=eΙ (Go.Sort.ltInt) e (b:=b) (b-i) i (Nat.le_refl _) ix;rw[dO] at eΥ;rw[show 5-st=(4-st)+1 by omega,Go.Sort.partialIns] at aN;simp only[dO] at aN
 repeat apply ad
 refine W.j9 [(0,.ms 0 n 0 n),(1,I a),(2,I b),(7,I (ah:Nat)),(8,I (st:Nat))] [.cells 3 1 ((e).toList.map I)] ?_ ?_
 ·clear aN;refine W.iter (λk:Nat=>i<=k/\k<=b/\Go.Sort.scanSorted (Go.Sort.ltInt) e b k=ah) (λk=>[(0,.ms 0 n 0 n),(1,I a),(2,I b),(7,I (k:Nat)),(8,I (st:Nat))]) (λ_=>[.cells 3 1 ((e).toList.map I)]) (λk=>b-k) i ⟨Nat.le_refl _,ix,dO⟩ rfl η (λk ς gd=>?_);obtain⟨iW,e3,iX⟩:=ς;by_cases δ:k<b
  ·obtain⟨p,ψ⟩:=aK (k-1);have aD:k<n:=R;have aH:p<n:=R;obtain⟨L,x,y,ab,γ,Ι,ο,⟨J,U⟩,⟨μ,Θ⟩,-,-⟩:=eB I cp aD aH;have un:Go.Sort.scanSorted (Go.Sort.ltInt) e b k=if(!Go.Sort.ltInt x y)=true then Go.Sort.scanSorted (Go.Sort.ltInt) e b (k+1) else k:=by rw[Go.Sort.scanSorted];simp[δ,γ,<-ψ,Ι]
   have hw:=gR (i:=k) R
   have g0:IntKind.i64.wrap ((k:Int)-1)=(p:Int):=by rw[IntWalk.i64_in _ R];omega
   refine W.to (σ':=[.cells 3 1 L]) (env':=[(0,.ms 0 n 0 n),(1,I a),(2,I b),(7,I (k:Nat)),(8,I (st:Nat))]) ?_ (by rw[ab]) η;clear γ Ι
   repeat apply ad
   refine W.draw (A:=[]) Ρ mixed λΕ ζ=>gq (υ δ (υ g0 (υ ο (υ J (υ U (υ μ (υ Θ (υ aD aH)))))))) ?_;refine eA (az.p (nI x y) (bF.refl _) η η) ?_;simp;(repeat (rw[c7];simp[]));try rw[c6]
   refine er (ζ _ _ ?_);by_cases hm:x<y
   ·refine aa (by simp[hm]) ?_;refine W.exit rfl ?_;exact W.stop ⟨rfl,by rw[ab],by rw[<-iX,un];simp[hm,Go.Sort.ltInt]⟩
   ·refine ai (by simp[hm]) ?_;refine aB hw ?_;exact W.to (gd (k+1) ⟨R,R,by rw[<-iX,un];simp[hm,Go.Sort.ltInt]⟩ (by(try simp only);omega)) (by rw[ab]) (by simp[hw])
  ·repeat apply ad
   refine dF δ ?_;refine aa rfl ?_;refine W.exit rfl ?_;have e:Go.Sort.scanSorted (Go.Sort.ltInt) e b k=k:=by rw[Go.Sort.scanSorted];simp[δ]
   exact W.stop ⟨rfl,rfl,by rw[<-iX,e];simp⟩
 by_cases tc:ah=b
 ·have g:(ah:Int)=(b:Int):=by omega
  rw[if_pos tc] at aN;refine aB g ?_;refine ai (by simp[tc]) ?_;refine Η ?_;exact W.ret ⟨_,rfl,by rw[<-aN];rfl,by rw[<-aN]⟩
 have g:¬(ah:Int)=(b:Int):=R
 have w2:=uS (a:=a) (b:=b) R R;rw[if_neg tc] at aN;refine aB g ?_;refine aa (by simp[tc]) ?_;by_cases ta:b-a<50
 ·have ak:((b-a:Nat):Int)<50:=by omega
  rw[if_pos ta] at aN;refine aB (υ w2 ak) ?_;refine ai η ?_;refine Η ?_;exact W.ret ⟨_,rfl,by rw[<-aN];rfl,by rw[<-aN]⟩
 have ak:¬((b-a:Nat):Int)<50:=R;rw[if_neg ta] at aN;refine aB (υ w2 ak) ?_;refine aa η ?_;obtain⟨p,ψ⟩:=aK (ah-1);have w3:IntKind.i64.wrap ((ah:Int)-1)=(p:Int):=by rw[IntWalk.i64_in _ R];omega
 rw[<-ψ] at aN;have aD:ah<n:=R;have aH:p<n:=R;obtain⟨L,x,y,ab,γ,Ι,ο,⟨J,U⟩,⟨μ,Θ⟩,cq,eC,av⟩:=eB I cp aD aH;refine W.to (σ':=[.cells 3 1 L]) (env':=[(0,.ms 0 n 0 n),(1,I a),(2,I b),(7,I (ah:Nat)),(8,I (st:Nat))]) ?_ (by rw[ab]) η;clear γ Ι
 repeat apply ad
 refine dF (υ ο (υ J (υ U (υ μ (υ Θ (υ av (υ aD (υ aH w3)))))))) ?_;refine W.to (σ':=[.cells 3 1 ((Go.Sort.swp e ah p).toList.map I)]) (env':=[(0,.ms 0 n 0 n),(1,I a),(2,I b),(7,I (ah:Nat)),(8,I (st:Nat))]) ?_ (by rw[cq]) η;clear aD aH J U μ Θ av cq ο ab L x y eC;obtain⟨Δ,xN⟩:=aK (Go.Sort.swp e ah p);have Kn:Δ.size=n:=by rw[xN];exact swp_size cp ah p
 rw[<-xN] at aN ⊢;have w4:=uS (a:=a) (b:=ah) R R;obtain⟨Γ,hH⟩:=aK (if ah-a>=2 then Go.Sort.shiftDown (Go.Sort.ltInt) p Δ else Δ);rw[<-hH] at aN;have Ko:Γ.size=n:=by rw[hH];split;exact eΚ (Go.Sort.ltInt) p Δ Kn;exact Kn
 refine aB w4 ?_;refine W.upto [(0,.ms 0 n 0 n),(1,I a),(2,I b),(7,I (ah:Nat)),(8,I (st:Nat))] [.cells 3 1 ((Γ).toList.map I)] ?_ ?_
 ·clear aN;by_cases c2:2<=ah-a
  ·rw[if_pos c2] at hH;refine ai (by simp;omega) ?_;refine aB w3 ?_;subst hH;refine W.iter (λq:Nat×Array (Int)=>q.1<=p/\q.2.size=n/\Go.Sort.shiftDown (Go.Sort.ltInt) q.1 q.2=Go.Sort.shiftDown (Go.Sort.ltInt) p Δ) (λq=>[(0,.ms 0 n 0 n),(1,I a),(2,I b),(7,I (ah:Nat)),(8,I (st:Nat)),(9,I (q.1:Nat))]) (λq=>[.cells 3 1 ((q.2).toList.map I)]) (λq=>q.1) (p,Δ) ⟨Nat.le_refl _,Kn,rfl⟩ rfl η (λq Φ gd=>?_);obtain⟨j,f⟩:=q;obtain⟨ri,bM,Υ⟩:=Φ;simp only at ri bM Υ;refine W.to (σ':=[.cells 3 1 ((f).toList.map I)]) (env':=[(0,.ms 0 n 0 n),(1,I a),(2,I b),(7,I (ah:Nat)),(8,I (st:Nat)),(9,I (j:Nat))]) ?_ rfl η;by_cases δ:1<=j
   ·have g:(1:Int)<=(j:Int):=by omega
    refine aB g ?_;refine ai η ?_;obtain⟨q,Φ⟩:=aK (j-1);have j':IntKind.i64.wrap ((j:Int)-1)=(q:Int):=by rw[IntWalk.i64_in _ R];omega
    have wn:IntKind.i64.wrap ((j:Int)-1)=(q:Int):=j'
    have aD:j<n:=R
    have aH:q<n:=R;obtain⟨L,x,y,ab,γ,Ι,ο,⟨J,U⟩,⟨μ,Θ⟩,cq,eC,av⟩:=eB I bM aD aH;have un:Go.Sort.shiftDown (Go.Sort.ltInt) j f=if(!Go.Sort.ltInt x y)=true then f else Go.Sort.shiftDown (Go.Sort.ltInt) q (Go.Sort.swp f j q):=by
     obtain rfl:j=q+1:=R;rw[Go.Sort.shiftDown,γ,Ι]
    refine W.to (σ':=[.cells 3 1 L]) (env':=[(0,.ms 0 n 0 n),(1,I a),(2,I b),(7,I (ah:Nat)),(8,I (st:Nat)),(9,I (j:Nat))]) ?_ (by rw[ab]) η;clear γ Ι
    repeat apply ad
    refine W.draw (A:=[]) Ρ mixed λΕ ζ=>gq (υ j' (υ ο (υ J (υ U (υ μ (υ Θ (υ aD aH))))))) ?_;refine eA (az.p (nI x y) (bF.refl _) η η) ?_;simp;(repeat (rw[c7];simp[]));try rw[c6]
    refine er (ζ _ _ ?_);by_cases hm:x<y
    ·refine aa (by simp[hm]) ?_;refine W.to (σ':=[.cells 3 1 L]) (env':=[(0,.ms 0 n 0 n),(1,I a),(2,I b),(7,I (ah:Nat)),(8,I (st:Nat)),(9,I (j:Nat))]) ?_ rfl η
     repeat apply ad
     refine dF (υ j' (υ ο (υ J (υ U (υ μ (υ Θ (υ av (υ aD aH)))))))) ?_;refine aB wn ?_;exact W.to (gd (q,Go.Sort.swp f j q) ⟨R,swp_size bM j q,by rw[<-Υ,un];simp[hm,Go.Sort.ltInt]⟩ (by(try simp only);omega)) (by rw[cq]) (by simp[wn])
    ·refine ai (by simp[hm]) ?_;refine W.exit rfl ?_;exact W.stop ⟨rfl,by rw[<-ab,<-Υ,un];simp[hm,Go.Sort.ltInt],η⟩
   ·have g:¬(1:Int)<=(j:Int):=by omega
    refine aB g ?_;refine aa η ?_;refine W.exit rfl ?_;have e:Go.Sort.shiftDown (Go.Sort.ltInt) j f=f:=by
     obtain rfl:j=0:=R;rfl
    exact W.stop ⟨rfl,by rw[<-Υ,e],η⟩
  ·rw[if_neg c2] at hH;refine aa (by simp;omega) ?_;refine W.skip ?_;exact W.stop ⟨rfl,by rw[hH],η⟩
 clear hH;have h3:=uS (a:=ah) (b:=b) R R;have h4:=gR (i:=ah) R;have kX:=gR (i:=st) R;obtain⟨a2,yN⟩:=aK (if b-ah>=2 then Go.Sort.shiftUp (Go.Sort.ltInt) b (ah+1) Γ else Γ);rw[<-yN] at aN;have eΦ:a2.size=n:=by rw[yN];split;exact eΜ (Go.Sort.ltInt) (b-(ah+1)) (ah+1) Γ (Nat.le_refl _) Ko;exact Ko
 refine aB h3 ?_;refine W.upto [(0,.ms 0 n 0 n),(1,I a),(2,I b),(7,I (ah:Nat)),(8,I (st:Nat))] [.cells 3 1 ((a2).toList.map I)] ?_ ?_
 ·clear aN;by_cases c2:2<=b-ah
  ·rw[if_pos c2] at yN;refine ai (by simp;omega) ?_;refine aB h4 ?_;subst yN;refine W.iter (λq:Nat×Array (Int)=>ah+1<=q.1/\q.1<=b/\q.2.size=n/\Go.Sort.shiftUp (Go.Sort.ltInt) b q.1 q.2=Go.Sort.shiftUp (Go.Sort.ltInt) b (ah+1) Γ) (λq=>[(0,.ms 0 n 0 n),(1,I a),(2,I b),(7,I (ah:Nat)),(8,I (st:Nat)),(10,I (q.1:Nat))]) (λq=>[.cells 3 1 ((q.2).toList.map I)]) (λq=>b-q.1) (ah+1,Γ) ⟨Nat.le_refl _,R,Ko,rfl⟩ rfl η (λq Φ gd=>?_);obtain⟨j,f⟩:=q;obtain⟨ri,z1,bM,Υ⟩:=Φ;simp only at ri z1 bM Υ;refine W.to (σ':=[.cells 3 1 ((f).toList.map I)]) (env':=[(0,.ms 0 n 0 n),(1,I a),(2,I b),(7,I (ah:Nat)),(8,I (st:Nat)),(10,I (j:Nat))]) ?_ rfl η;by_cases δ:j<b
   ·have g:(j:Int)<(b:Int):=by omega
    refine aB g ?_;refine ai η ?_;obtain⟨q,Φ⟩:=aK (j-1);have j':IntKind.i64.wrap ((j:Int)-1)=(q:Int):=by rw[IntWalk.i64_in _ R];omega
    have wn:=gR (i:=j) R
    have aD:j<n:=R
    have aH:q<n:=R;obtain⟨L,x,y,ab,γ,Ι,ο,⟨J,U⟩,⟨μ,Θ⟩,cq,eC,av⟩:=eB I bM aD aH;have un:Go.Sort.shiftUp (Go.Sort.ltInt) b j f=if(!Go.Sort.ltInt x y)=true then f else Go.Sort.shiftUp (Go.Sort.ltInt) b (j+1) (Go.Sort.swp f j q):=by
     rw[Go.Sort.shiftUp,if_pos δ,<-Φ,γ,Ι]
    refine W.to (σ':=[.cells 3 1 L]) (env':=[(0,.ms 0 n 0 n),(1,I a),(2,I b),(7,I (ah:Nat)),(8,I (st:Nat)),(10,I (j:Nat))]) ?_ (by rw[ab]) η;clear γ Ι
    repeat apply ad
    refine W.draw (A:=[]) Ρ mixed λΕ ζ=>gq (υ j' (υ ο (υ J (υ U (υ μ (υ Θ (υ aD aH))))))) ?_;refine eA (az.p (nI x y) (bF.refl _) η η) ?_;simp;(repeat (rw[c7];simp[]));try rw[c6]
    refine er (ζ _ _ ?_);by_cases hm:x<y
    ·refine aa (by simp[hm]) ?_;refine W.to (σ':=[.cells 3 1 L]) (env':=[(0,.ms 0 n 0 n),(1,I a),(2,I b),(7,I (ah:Nat)),(8,I (st:Nat)),(10,I (j:Nat))]) ?_ rfl η
     repeat apply ad
     refine dF (υ j' (υ ο (υ J (υ U (υ μ (υ Θ (υ av (υ aD aH)))))))) ?_;refine aB wn ?_;exact W.to (gd (j+1,Go.Sort.swp f j q) ⟨R,R,swp_size bM j q,by rw[<-Υ,un];simp[hm,Go.Sort.ltInt]⟩ (by(try simp only);omega)) (by rw[cq]) (by simp[wn])
    ·refine ai (by simp[hm]) ?_;refine W.exit rfl ?_;exact W.stop ⟨rfl,by rw[<-ab,<-Υ,un];simp[hm,Go.Sort.ltInt],η⟩
   ·have g:¬(j:Int)<(b:Int):=by omega
    refine aB g ?_;refine aa η ?_;refine W.exit rfl ?_;have e:Go.Sort.shiftUp (Go.Sort.ltInt) b j f=f:=by rw[Go.Sort.shiftUp,if_neg δ]
    exact W.stop ⟨rfl,by rw[<-Υ,e],η⟩
  ·rw[if_neg c2] at yN;refine aa (by simp;omega) ?_;refine W.skip ?_;exact W.stop ⟨rfl,by rw[yN],η⟩
 refine aB kX ?_;exact W.to (Β (st+1,ah,a2) ⟨by(try simp only);omega,by(try simp only);omega,by(try simp only);omega,eΦ,by simp only;rw[show 5-(st+1)=4-st by omega];exact aN⟩ (by(try simp only);omega)) rfl (by simp[kX])
theorem eΧ (n:Nat) (ν:n<256)  : ∀(k:Nat) (d:Array (Int)) (a b lim:Nat),d.size=n->b-a<=k->a<=b->b<=n->lim<2 ^ 40->Go.Sort.Below (Go.Sort.ltInt) a b d->
  ae Tryz.prog 157 [.ms 0 n 0 n,I a,I b,I lim] [.cells 3 1 ((d).toList.map I)] (λr s=>r=.bj []/\s=[.cells 3 1 ((Go.Sort.pdq (Go.Sort.ltInt) d a b lim true true).toList.map I)]) (λ_ _=>False):=by
 intro k
 induction k using Nat.strongRecOn with
 | _ k sd=>
 intro d a b lim Ζ ς eN hb tg dU;refine ae.body Ρ Tryz.func157 rfl rfl Tryz.ntmps157 rfl rfl η ?_;obtain⟨al,fp⟩:=bZ (Go.Sort.pdq (Go.Sort.ltInt) d a b lim true true);rw[fp];refine Η ?_;refine W.iter (λq:Qr (Int)=>q.e.size=n/\q.a<=q.b/\q.b<=n/\q.b-q.a<=k/\q.lim<2 ^ 40/\Go.Sort.Below (Go.Sort.ltInt) q.a q.b q.e/\Go.Sort.pdq (Go.Sort.ltInt) q.e q.a q.b q.lim q.wb q.wp=al) (λq=>[(0,.ms 0 n 0 n),(1,I (q.a:Nat)),(2,I (q.b:Nat)),(3,I (q.lim:Nat)),(8,a6 q.wb),(9,a6 q.wp)]) (λq=>[.cells 3 1 ((q.e).toList.map I)]) (λq=>q.b-q.a) ⟨a,b,lim,true,true,d⟩ ⟨Ζ,eN,hb,ς,tg,dU,fp⟩ rfl η (λq Φ Β=>?_);clear fp dU tg hb eN ς;obtain⟨a,b,lim,wb,wp,e⟩:=q;obtain⟨cp,eN,hb,ς,tg,dU,aN⟩:=Φ;simp only at cp eN hb ς tg dU aN;obtain⟨l,ο⟩:=aK (b-a);have w1:IntKind.i64.wrap ((b:Int)-(a:Int))=(l:Int):=by rw[IntWalk.i64_in _ R];omega
 refine W.to (σ':=[.cells 3 1 ((e).toList.map I)]) (env':=[(0,.ms 0 n 0 n),(1,I (a:Nat)),(2,I (b:Nat)),(3,I (lim:Nat)),(8,a6 wb),(9,a6 wp)]) ?_ rfl η;by_cases gL:b-a<=12
 ·have g:(l:Int)<=12:=by omega
  refine aB (υ w1 g) ?_;refine ai η ?_;refine bl λΕ ζ=>?_;refine ae.call (first:=[]) (captured:=[]) ((Ng e n a b cp eN hb R).mono (λr s ⟨b3,bX⟩=>?_) (λ_ _ h=>h.elim));subst b3;subst bX;simp;(repeat (rw[Ο];simp[]));apply ζ;rw[Go.Sort.pdq_small gL] at aN;exact W.ret ⟨_,rfl,rfl,by rw[<-aN]⟩
 have g:¬(l:Int)<=12:=R;refine aB (υ w1 g) ?_;refine aa η ?_;by_cases aj:lim=0
 ·have cP:(lim:Int)=0:=by omega
  refine aB cP ?_;refine ai (by simp[aj]) ?_;refine bl λΕ ζ=>?_;refine ae.call (first:=[]) (captured:=[]) ((eΗ e n a b cp R R hb).mono (λr s ⟨b3,bX⟩=>?_) (λ_ _ h=>h.elim));subst b3;subst bX;simp;(repeat (rw[Ο];simp[]));apply ζ;rw[Go.Sort.pdq_heap gL aj] at aN;exact W.ret ⟨_,rfl,rfl,by rw[<-aN]⟩
 have cP:¬(lim:Int)=0:=R;refine aB cP ?_;refine aa (by simp[aj]) ?_;refine Η ?_;have F:=Go.Sort.rd_facts (limit:=lim) (wb:=wb) (wp:=wp) Go.Sort.swo_ltInt Go.Sort.partialInsertionSort_holds Go.Sort.reverseRange_holds (by omega:a<b) R dU;have Bn:=Go.Sort.rd_lim_le (lt:=(Go.Sort.ltInt)) (d:=e) (a:=a) (b:=b) (limit:=lim) (wb:=wb) (wp:=wp);have th:=λh:wb=false=>show(Go.Sort.rd (Go.Sort.ltInt) e a b lim wb wp).d1=Go.Sort.breakPatterns e a b/\(Go.Sort.rd (Go.Sort.ltInt) e a b lim wb wp).lim=lim-1 by subst h;exact Go.Sort.rd_false
 have ti:=λh:wb=true=>show(Go.Sort.rd (Go.Sort.ltInt) e a b lim wb wp).d1=e/\(Go.Sort.rd (Go.Sort.ltInt) e a b lim wb wp).lim=lim by subst h;exact Go.Sort.rd_true
 have tj:=Go.Sort.rd_c (lt:=(Go.Sort.ltInt)) (d:=e) (a:=a) (b:=b) (limit:=lim) (wb:=wb) (wp:=wp)
 have Fd:=Go.Sort.rd_dec (lt:=(Go.Sort.ltInt)) (d:=e) (a:=a) (b:=b) (limit:=lim) (wb:=wb) (wp:=wp)
 have Fn:=Go.Sort.rd_not (lt:=(Go.Sort.ltInt)) (d:=e) (a:=a) (b:=b) (limit:=lim) (wb:=wb) (wp:=wp)
 have qB:=Go.Sort.rd_pi_yes (lt:=(Go.Sort.ltInt)) (d:=e) (a:=a) (b:=b) (limit:=lim) (wb:=wb) (wp:=wp)
 have qC:=Go.Sort.rd_pi_no (lt:=(Go.Sort.ltInt)) (d:=e) (a:=a) (b:=b) (limit:=lim) (wb:=wb) (wp:=wp)
 have h5:=Go.Sort.pdq_done (lt:=(Go.Sort.ltInt)) (d:=e) (wb:=wb) (wp:=wp) gL aj
 have gG:=Go.Sort.pdq_eq (lt:=(Go.Sort.ltInt)) (d:=e) (wb:=wb) (wp:=wp) gL aj
 have fF:=Go.Sort.pdq_left (lt:=(Go.Sort.ltInt)) (d:=e) (wb:=wb) (wp:=wp) gL aj
 have fG:=Go.Sort.pdq_right (lt:=(Go.Sort.ltInt)) (d:=e) (wb:=wb) (wp:=wp) gL aj;rw[aN] at h5 gG fF fG;obtain⟨r,ι⟩:=bZ (Go.Sort.rd (Go.Sort.ltInt) e a b lim wb wp);rw[ι] at F Bn th ti tj Fd Fn qB qC h5 gG fF fG;clear ι;obtain⟨d1,ey,⟨wO,ch⟩,d2,hQ,qD,d3,done⟩:=r;simp only at F Bn th ti tj Fd Fn qB qC h5 gG fF fG;obtain⟨wP,dΓ,dΔ,wQ,dΕ,lE,lF,Bo⟩:=F;rw[cp] at wP wQ lF;refine W.upto [(0,.ms 0 n 0 n),(1,I (a:Nat)),(2,I (b:Nat)),(3,I (ey:Nat)),(8,a6 wb),(9,a6 wp),(10,I (l:Nat))] [.cells 3 1 ((d1).toList.map I)] ?_ ?_
 ·cases wb with
  | false=>
   obtain⟨f1,f2⟩:=th rfl;refine ai rfl ?_;refine bl λΕ ζ=>?_;refine ae.call (first:=[]) (captured:=[]) ((eΤ e n a b cp R R R hb).mono (λr s ⟨b3,bX⟩=>?_) (λ_ _ h=>h.elim));subst b3;subst bX;simp;(repeat (rw[Ο];simp[]));apply ζ;have w2:=hP (i:=lim) R R;refine nG w2 ?_;exact W.stop ⟨rfl,by rw[f1],by simp[f2]⟩
  | true=>
   obtain⟨f1,f2⟩:=ti rfl;refine aa rfl ?_;refine W.skip ?_;exact W.stop ⟨rfl,by rw[f1],by simp[f2]⟩
 have wR:=eΝ d1 n a b wP R R hb;rw[<-tj] at wR;simp only at wR;refine bl λΕ ζ=>?_;refine ae.call (first:=[]) (captured:=[]) ((wR).mono (λr s ⟨b3,bX⟩=>?_) (λ_ _ h=>h.elim));subst b3;subst bX;simp;(repeat (rw[Ο];simp[]));apply ζ;refine W.to (σ':=[.cells 3 1 ((d1).toList.map I)]) (env':=[(0,.ms 0 n 0 n),(1,I (a:Nat)),(2,I (b:Nat)),(3,I (ey:Nat)),(8,a6 wb),(9,a6 wp),(10,I (l:Nat)),(11,I (wO:Nat)),(12,I (pv ch))]) ?_ rfl η;refine Η ?_;refine W.upto [(0,.ms 0 n 0 n),(1,I (a:Nat)),(2,I (b:Nat)),(3,I (ey:Nat)),(8,a6 wb),(9,a6 wp),(10,I (l:Nat)),(11,I (hQ:Nat)),(12,I (pv qD))] [.cells 3 1 ((d2).toList.map I)] ?_ ?_
 ·by_cases hd:ch=.decreasing
  ·obtain⟨f1,f2,f3⟩:=Fd hd;subst hd;refine ai rfl ?_;refine bl λΕ ζ=>?_;refine ae.call (first:=[]) (captured:=[]) ((eΘ d1 n a b wP R R hb).mono (λr s ⟨b3,bX⟩=>?_) (λ_ _ h=>h.elim));subst b3;subst bX;simp;(repeat (rw[Ο];simp[]));apply ζ;have w2:=hP (i:=b) R R;have w3:=uS (a:=a) (b:=wO) R R;have w4:=uS (a:=wO-a) (b:=b-1) R R;rw[<-f2] at w4;refine W.seq ?_;refine nG (υ w2 (υ w3 w4)) ?_;refine mQ ?_;exact W.stop ⟨rfl,by rw[f1],by simp[f3,pv]⟩
  ·obtain⟨f1,f2,f3⟩:=Fn hd;refine aa (by cases ch with
    | decreasing=>exact absurd rfl hd
    | unknown=>rfl
    | increasing=>rfl) ?_
   refine W.skip ?_;exact W.stop ⟨rfl,by rw[f1],by simp[f2,f3]⟩
 repeat apply ad
 refine W.rf (A:=[]) Ρ [(68,a6 (wb&&wp&&decide (qD=.increasing))),(0,.ms 0 n 0 n),(1,I (a:Nat)),(2,I (b:Nat)),(3,I (ey:Nat)),(8,a6 wb),(9,a6 wp),(10,I (l:Nat)),(11,I (hQ:Nat))] ?_ (by cases wb<;>cases wp<;>cases qD<;>simp[Ο,p5,pv])
 repeat apply ad
 rcases Bool.eq_false_or_eq_true done with hA|hA
 ·cases δ:(wb&&wp&&decide (qD=.increasing)) with
  | true=>
   have f:=qB δ;refine ai rfl ?_;have gH:=Q' d2 n a b wQ R R hb;rw[<-f] at gH;simp only[hA] at gH;refine bl λΕ ζ=>?_;refine ae.call (first:=[]) (captured:=[]) ((gH).mono (λr s ⟨b3,bX⟩=>?_) (λ_ _ h=>h.elim));subst b3;subst bX;simp;(repeat (rw[Ο];simp[]));apply ζ;refine ai rfl ?_;exact W.ret ⟨_,rfl,rfl,by rw[h5 hA]⟩
  | false=>
   have f:=(Prod.mk.inj (qC δ)).2;rw[hA] at f;cases f
 refine W.upto [(0,.ms 0 n 0 n),(1,I (a:Nat)),(2,I (b:Nat)),(3,I (ey:Nat)),(8,a6 wb),(9,a6 wp),(10,I (l:Nat)),(11,I (hQ:Nat))] [.cells 3 1 ((d3).toList.map I)] ?_ ?_
 ·cases δ:(wb&&wp&&decide (qD=.increasing)) with
  | true=>
   have f:=qB δ;refine ai rfl ?_;have gH:=Q' d2 n a b wQ R R hb;rw[<-f] at gH;simp only[hA] at gH;refine bl λΕ ζ=>?_;refine ae.call (first:=[]) (captured:=[]) ((gH).mono (λr s ⟨b3,bX⟩=>?_) (λ_ _ h=>h.elim));subst b3;subst bX;simp;(repeat (rw[Ο];simp[]));apply ζ;refine aa rfl ?_;refine W.skip ?_;exact W.stop ⟨rfl,rfl,η⟩
  | false=>
   have f1:=(Prod.mk.inj (qC δ)).1;refine aa rfl ?_;refine W.skip ?_;exact W.stop ⟨rfl,by rw[f1],η⟩
 clear h5 qB qC Fd Fn tj th ti;have gG:=gG hA;have fF:=fF hA;have fG:=fG hA;obtain⟨P,nb⟩:=bZ ((decide (a > 0)&&!Go.Sort.ltInt d3[a-1]! d3[hQ]!):Bool);rw[nb] at gG fF fG
 repeat apply ad
 refine W.xO (A:=[]) Ρ mixed [(87,a6 P),(0,.ms 0 n 0 n),(1,I (a:Nat)),(2,I (b:Nat)),(3,I (ey:Nat)),(8,a6 wb),(9,a6 wp),(10,I (l:Nat)),(11,I (hQ:Nat))] ?_ (by
  by_cases κ:0<a
  ·obtain⟨p,ψ⟩:=aK (a-1);have aD:p<n:=R;have aH:hQ<n:=R;obtain⟨L,x,y,ab,γ,Ι,ο,⟨J,U⟩,⟨μ,Θ⟩,-,-⟩:=eB I lF aD aH;have wS:P = !Go.Sort.ltInt x y:=by rw[<-nb,<-ψ,γ,Ι];simp[κ]
   have ee:(0:Int)<(a:Int):=R
   have w2:IntKind.i64.wrap ((a:Int)-1)=(p:Int):=by rw[IntWalk.i64_in _ R];omega
   rw[ab];clear γ Ι;simp;(repeat (rw[c7];simp[κ,ee,w2,ο,J,U,μ,Θ,aD,aH]));(try rw[c6]);refine eA (az.p (nI x y) (bF.refl _) η η) ?_;simp;(repeat (rw[c7];simp[]));(try rw[c6]);refine⟨iN (by kernel_rfl),?_⟩;simp[wS,Go.Sort.ltInt]
  ·have wS:P=false:=by rw[<-nb];simp[κ]
   have ee:a=0:=R;subst ee;simp;(repeat (rw[c7];simp[]));(try rw[c6]);refine⟨iN (by kernel_rfl),?_⟩;simp[wS])
 repeat apply ad
 rcases Bool.eq_false_or_eq_true P with nd|nd
 ·refine ai (by simp[nd]) ?_;rw[nd] at nb;simp only[Bool.and_eq_true,decide_eq_true_eq,Bool.not_eq_true'] at nb;obtain⟨⟨mid,d4⟩,γ⟩:∃r,Go.Sort.partitionEqual (Go.Sort.ltInt) d3 a b hQ=r:=⟨_,rfl⟩;obtain⟨dS,dx,l9,qd,-⟩:=Go.Sort.round_eq Go.Sort.swo_ltInt (Go.Sort.partitionEqual_holds _) nb.1 lE.1 lE.2 (by rw[lF];exact hb) Bo nb.2 γ;have gG:=gG nd;rw[γ] at gG;have gG:=gG ⟨dS,dx⟩;simp only at gG;have gH:=eΖ d3 n a b hQ lF R lE.1 lE.2 hb;rw[γ] at gH;simp only at gH;refine bl λΕ ζ=>?_;refine ae.call (first:=[]) (captured:=[]) ((gH).mono (λr s ⟨b3,bX⟩=>?_) (λ_ _ h=>h.elim));subst b3;subst bX;simp;(repeat (rw[Ο];simp[]));apply ζ;refine Η ?_;refine W.exit rfl ?_;exact W.to (Β ⟨mid,b,ey,wb,wp,d4⟩ ⟨l9.trans lF,dx,hb,by(try simp only);omega,by(try simp only);omega,qd,gG.symm⟩ (by(try simp only);omega)) rfl η
 refine aa (by simp[nd]) ?_;obtain⟨⟨mid,ap,d4⟩,γ⟩:∃r,Go.Sort.partition (Go.Sort.ltInt) d3 a b hQ=r:=⟨_,rfl⟩;obtain⟨dS,dx,l9,qd,sN,J1,Bp⟩:=Go.Sort.round_part Go.Sort.swo_ltInt (Go.Sort.partition_holds _) lE.1 lE.2 (by rw[lF];exact hb) Bo γ;have fF:=fF nd;have fG:=fG nd;rw[γ] at fF fG;have fF:=fF ⟨dS,dx⟩;have fG:=fG ⟨dS,dx⟩;simp only at fF fG;have gH:=eΕ d3 n a b hQ lF R lE.1 lE.2 hb;rw[γ] at gH;simp only at gH;have tk:d4.size=n:=l9.trans lF;obtain⟨u,hu⟩:=aK (mid-a);obtain⟨v,hv⟩:=aK (b-mid);obtain⟨pA,Bq⟩:=aK (l / 8);obtain⟨cC,hl⟩:=aK (mid+1);have j':IntKind.i64.wrap ((mid:Int)-(a:Int))=(u:Int):=by rw[IntWalk.i64_in _ R];omega
 have h3:IntKind.i64.wrap ((b:Int)-(mid:Int))=(v:Int):=by rw[IntWalk.i64_in _ R];omega
 have h4:IntKind.i64.wrap ((l:Int) / 8)=(pA:Int):=by rw[Bq];exact uR (m:=8) R
 have kX:IntKind.i64.wrap ((mid:Int)+1)=(cC:Int):=by rw[IntWalk.i64_in _ R];omega
 rw[<-hu,<-hv,<-ο,<-Bq,<-hl] at fF fG;refine bl λΕ ζ=>?_;refine ae.call (first:=[]) (captured:=[]) ((gH).mono (λr s ⟨b3,bX⟩=>?_) (λ_ _ h=>h.elim));subst b3;subst bX;simp;(repeat (rw[Ο];simp[]));apply ζ;by_cases pa:u<v
 ·have Χ:(u:Int)<(v:Int):=by omega
  refine aB (υ j' (υ h3 (υ h4 @Χ))) ?_;refine ai η ?_;obtain⟨dy,p2⟩:=Go.Sort.pdq_sorts (Go.Sort.ltInt) Go.Sort.swo_ltInt d4 a mid ey true true dS R qd;have qE:=sd (mid-a) R d4 a mid ey tk (Nat.le_refl _) dS R R qd;have fF:=fF pa;obtain⟨B',-⟩:=J1 _ dy p2;have s1:=dy.1.trans tk;obtain⟨Γ,hH⟩:=bZ (Go.Sort.pdq (Go.Sort.ltInt) d4 a mid ey true true);rw[hH] at qE fF B' s1;refine bl λΕ ζ=>?_;apply ζ;refine bl λΕ ζ=>?_;refine ae.call (first:=[]) (captured:=[]) ((qE).mono (λr s ⟨b3,bX⟩=>?_) (λ_ _ h=>h.elim));subst b3;subst bX;simp;(repeat (rw[Ο];simp[]));apply ζ;refine aB kX ?_;exact W.to (Β ⟨cC,b,ey,decide (u>=pA),ap,Γ⟩ ⟨s1,by(try simp only);omega,hb,by(try simp only);omega,by(try simp only);omega,by simp only;rw[hl];exact B',fF.symm⟩ (by(try simp only);omega)) rfl η
 ·have Χ:¬(u:Int)<(v:Int):=by omega
  refine aB (υ j' (υ h3 (υ h4 @Χ))) ?_;refine aa η ?_;obtain⟨dy,p2⟩:=Go.Sort.pdq_sorts (Go.Sort.ltInt) Go.Sort.swo_ltInt d4 (mid+1) b ey true true R R sN;rw[<-hl] at dy p2 sN;have qE:=sd (b-cC) R d4 cC b ey tk (Nat.le_refl _) R hb R sN;have fG:=fG pa;rw[<-hl] at Bp;obtain⟨B',-⟩:=Bp _ dy p2;have s1:=dy.1.trans tk;obtain⟨Γ,hH⟩:=bZ (Go.Sort.pdq (Go.Sort.ltInt) d4 cC b ey true true);rw[hH] at qE fG B' s1;refine bl λΕ ζ=>?_;apply ζ;refine hI kX λΕ ζ=>?_;refine ae.call (first:=[]) (captured:=[]) ((qE).mono (λr s ⟨b3,bX⟩=>?_) (λ_ _ h=>h.elim));subst b3;subst bX;simp;(repeat (rw[Ο];simp[]));apply ζ;refine Η ?_;exact W.to (Β ⟨a,mid,ey,decide (v>=pA),ap,Γ⟩ ⟨s1,dS,by(try simp only);omega,by(try simp only);omega,by(try simp only);omega,B',fG.symm⟩ (by(try simp only);omega)) rfl η
theorem Kp:v7 255:=λl ο=>by
 obtain⟨n,Ζ⟩:=aK l.length;have hb:Go.Sort.bitsLen n<=8:=(Go.Sort.bitsLen_le_iff n 8).2 R;have h:=eΧ n R n l.toArray 0 n (Go.Sort.bitsLen n) (by simp[Ζ]) R R (Nat.le_refl _) R (.inl rfl);have ψ:=QC Go.Sort.swo_ltInt (λx y J U=>by simp[Go.Sort.ltInt] at J U;omega) l;rw[<-Ζ] at ψ;have e:(λx y:Int=>!Go.Sort.ltInt y x)=λx y=>decide (x<=y):=by
  funext x y
  show(!decide (y<x))=decide (x<=y);by_cases q:y<x
  ·rw[decide_eq_true q,decide_eq_false R];rfl
  ·rw[decide_eq_false q,decide_eq_true R];rfl
 rw[ψ,e] at h;rw[<-Ζ];clear ψ e;have jh:(l.map I).length=n:=by rw[List.length_map,Ζ]
 have cl:l.toArray.toList=l:=rfl;rw[cl] at h;refine ae.body Ρ Tryz.func132 rfl rfl Tryz.ntmps132 rfl rfl η ?_;have Δ:=gr (show n<2 ^ 62 by omega);have Γ:IntKind.u64.wrap (n:Int)=n:=s' R;have qg:=Ζ.symm;refine aB qg ?_;(repeat apply ad);refine bs λΕ ζ=>?_;simp;(repeat (rw[Ο];simp[Δ,Γ]));refine az.d (ua n R) (bD ?_);refine ae.call (first:=[]) (captured:=[]) (h.mono (λr s ⟨b3,bX⟩=>?_) (λ_ _ h=>h.elim));subst b3;subst bX;simp;(repeat (rw[Ο];simp[]));apply ζ;exact W.nil ⟨_,rfl,rfl,rfl⟩
theorem eΨ {s:aT} {p:Int×Int}:∀{n:Nat},n<=s.cells.length->0<ir (ho s p).cells (-1) n->∀c,c<n->0<(jj s p c).length:=by
 intro n
 induction n with
 | zero=>intro _ _ c δ;omega
 | succ n Β=>
  intro Ζ h c δ;rw[QG p R] at h;by_cases e:c=n
  ·subst e;exact Nat.pos_of_mul_pos_left h
  ·exact Β R (Nat.pos_of_mul_pos_right h) c R
theorem Bz {s:aT} {f:Found} (Υ:f∈cV s):f.cells.length=s.cells.length/\∀c,c<s.cells.length->∃k,k<3/\f=ho s (fl k)/\f.cells[c]?=some (jj s (fl k) c)/\0<(jj s (fl k) c).length:=by
 obtain⟨k,ς,hm,rfl⟩:=J3.1 Υ;refine⟨by simp[ho],λc δ=>⟨k,ς,rfl,by simp[ho,δ],?_⟩⟩;rw[QF] at hm;exact eΨ (Nat.le_refl _) hm c δ
theorem eΩ {s:aT} {p r:Int×Int} {c:Nat} (h:r∈jj s p c):(-1<=r.1/\r.1<s.au.length)/\(-1<=r.2/\r.2<s.au.length):=Q7.1 (List.mem_filter.1 h).1
theorem Ra {s:aT} {c:Nat} {lower:Bool} {x:Int} (δ:c<s.cells.length):x∈gg (cV s) c lower↔∃f∈cV s,∃r∈(f.cells[c]?).getD [],x=kS lower r:=by
 unfold gg v8;constructor
 ·intro h;obtain⟨f,Υ,γ⟩:=List.mem_flatMap.1 h;obtain⟨r,ι,rfl⟩:=List.mem_map.1 γ;exact⟨f,Υ,r,ι,rfl⟩
 ·rintro⟨f,Υ,r,ι,rfl⟩;exact List.mem_flatMap.2 ⟨f,Υ,List.mem_map.2 ⟨r,ι,rfl⟩⟩
theorem fα {s:aT} {c:Nat} {lower:Bool} (δ:c<s.cells.length) {x:Int} (h:x∈gg (cV s) c lower):-1<=x/\x<s.au.length:=by
 obtain⟨f,Υ,r,ι,rfl⟩:=(Ra δ).1 h;obtain⟨k,_,_,Ξ,_⟩:=(Bz Υ).2 c δ;rw[Ξ] at ι;have:=eΩ ι;unfold kS;cases lower<;>simp<;>omega
theorem Rb {s:aT} {c:Nat} {lower:Bool} (δ:c<s.cells.length) (c0:cV s≠[]):gg (cV s) c lower≠[]:=by
 obtain⟨f,Υ⟩:=List.exists_mem_of_ne_nil _ c0;obtain⟨k,_,_,Ξ,ψ⟩:=(Bz Υ).2 c δ;obtain⟨r,ι⟩:=List.exists_mem_of_ne_nil _ (List.length_pos_iff.1 ψ);have:kS lower r∈gg (cV s) c lower:=(Ra δ).2 ⟨f,Υ,r,by rw[Ξ];exact ι,rfl⟩;intro h;rw[h] at this;cases this
theorem fβ {s:aT} (h:jm s) (c:Nat) (lower:Bool) (δ:c<s.cells.length):(gg (cV s) c lower).length<=147:=by
 have key:∀F:List Found,(∀f∈F,f∈cV s)->(gg F c lower).length<=F.length*49:=by
  intro F
  induction F with
  | nil=>intro _;simp[gg]
  | cons f F Β=>
   intro c0;have J:=Β λg Ξ=>c0 g (by simp[Ξ]);obtain⟨k,_,_,Ξ,_⟩:=(Bz (c0 f η)).2 c δ;have U:=J2 h (fl k) c;have e:gg (f::F) c lower=v8 f c lower++gg F c lower:=rfl;rw[e,List.length_append,List.length_cons];have:(v8 f c lower).length<=49:=by unfold v8;rw[Ξ];simpa using U
   omega
 have J:=key (cV s) λ_ h=>h
 have:=QE s;omega
theorem yO {s:aT} (h:jm s) (c0:cV s≠[]) (lower:Bool):By s (cV s) lower 255 where
 nK:=Nat.lt_of_le_of_lt (QE s) bu
 cells f Υ:=⟨(Bz Υ).1,λc δ=>by
  obtain⟨k,_,_,rfl⟩:=J3.1 Υ;have:=QD h _ c δ;omega⟩
 some c δ:=⟨Rb δ c0,by have:=fβ h c lower δ;omega⟩
theorem fγ {x:Int}:∀{l:List Int} {a:Int},x∈mV a l\/x=a↔x∈l\/x=a:=by
 intro l
 induction l with
 | nil=>intro a;simp[mV]
 | cons b l Β=>
  intro a;unfold mV;split
  ·rename_i h;have h:b=a:=by simpa using h
   subst h;rw[Β];simp only[List.mem_cons];exact⟨λh=>h.elim (λh=>.inl (.inr h)) .inr,λh=>h.elim (λh=>h.elim .inr .inl) .inr⟩
  ·have:=Β (a:=b);simp only[List.mem_cons] at this ⊢;constructor
   ·rintro((h|h)|h)
    ·exact .inl (.inl h)
    ·rcases this.1 (.inl h) with h|h
     ·exact .inl (.inr h)
     ·exact .inl (.inl h)
    ·exact .inr h
   ·rintro((h|h)|h)
    ·exact .inl (.inl h)
    ·rcases this.2 (.inl h) with h|h
     ·exact .inl (.inr h)
     ·exact .inl (.inl h)
    ·exact .inr h
theorem fδ {x:Int} {l:List Int}:x∈hL l↔x∈l:=by
 cases l with
 | nil=>exact Iff.rfl
 | cons a l=>
  show x∈a::mV a l↔_
  have:=fγ (x:=x) (l:=l) (a:=a);simp only[List.mem_cons];constructor
  ·rintro(h|h)
   ·exact .inl h
   ·rcases this.1 (.inl h) with h|h
    ·exact .inr h
    ·exact .inl h
  ·rintro(h|h)
   ·exact .inl h
   ·rcases this.2 (.inl h) with h|h
    ·exact .inr h
    ·exact .inl h
theorem fε:∀{l:List Int} {a:Int},(a::l).Pairwise (·<=·)->(a::mV a l).Pairwise (· < ·):=by
 intro l
 induction l with
 | nil=>intro a _;simp[mV]
 | cons b l Β=>
  intro a h;obtain⟨J,U⟩:=List.pairwise_cons.1 h;have eN:=J b η;unfold mV;split
  ·rename_i q;have q:b=a:=by simpa using q
   subst q;exact Β U
  ·rename_i q;have q:b≠a:=by simpa using q
   have μ:=Β U;refine List.pairwise_cons.2 ⟨λy Ι=>?_,μ⟩;rcases List.mem_cons.1 Ι with rfl|Ι
   ·omega
   ·have:=(List.pairwise_cons.1 μ).1 y Ι;omega
theorem fζ {l:List Int} (h:l.Pairwise (·<=·)):(hL l).Pairwise (· < ·):=by
 cases l with
 | nil=>exact .nil
 | cons a l=>exact fε h
theorem fη {n:Nat}:∀{l:List Int} {a:Int},l.Pairwise (· < ·)->(∀x∈l,a<=x/\x<a+n)->l.length<=n:=by
 induction n with
 | zero=>
  intro l a _ h;cases l with
  | nil=>simp
  | cons x l=>have:=h x η;omega
 | succ n Β=>
  intro l a ψ h;cases l with
  | nil=>simp
  | cons x l=>
   obtain⟨J,U⟩:=List.pairwise_cons.1 ψ;have γ:=h x η;have:=Β (a:=a+1) U λy Ι=>by have:=J y Ι;have:=h y (by simp[Ι]);omega
   simp only[List.length_cons];omega
theorem fθ (l:List Int):(mW l).Pairwise (·<=·):=by
 have:=List.pairwise_mergeSort (le:=λx y:Int=>decide (x<=y)) (λa b c J U=>by simp at J U ⊢;omega) (λa b=>by simp;omega) l;exact this.imp λh=>by simpa using h
theorem fι {x:Int} {l:List Int}:x∈mW l↔x∈l:=(List.mergeSort_perm _ _).mem_iff
theorem Rc {F:List Found} {c:Nat} {lower:Bool} {x:Int}:x∈fS F c lower↔x∈gg F c lower:=by unfold fS;rw[fδ,fι]
theorem fκ (F:List Found) (c:Nat) (lower:Bool):(fS F c lower).Pairwise (· < ·):=fζ (fθ _)
theorem Kq {s:aT} {c:Nat} {lower:Bool} (δ:c<s.cells.length) (c0:cV s≠[]):fS (cV s) c lower≠[]:=by
 obtain⟨x,γ⟩:=List.exists_mem_of_ne_nil _ (Rb (lower:=lower) δ c0);intro h;have:=Rc.2 γ;rw[h] at this;cases this
theorem BA {s:aT} {c:Nat} {lower:Bool} (δ:c<s.cells.length) {x:Int} (h:x∈fS (cV s) c lower):-1<=x/\x<s.au.length:=fα δ (Rc.1 h)
theorem Kr {s:aT} {c:Nat} {lower:Bool} (δ:c<s.cells.length):(fS (cV s) c lower).length<=s.au.length+1:=
 fη (a:=-1) (fκ _ _ _) λx h=>by have:=BA δ h;omega
theorem fμ {s:aT} {c:Nat} {lower:Bool} (δ:¬c<s.cells.length):fS (cV s) c lower=[]:=by
 have:gg (cV s) c lower=[]:=by
  refine List.flatMap_eq_nil_iff.2 λf Υ=>?_;unfold v8;rw[List.getElem?_eq_none (by rw[(Bz Υ).1];omega)];rfl
 unfold fS;rw[this];simp[mW,hL]
theorem fν:∀k<256,sK ⟨#[UInt8.ofNat k]⟩=false->97<=k/\k<=122:=by decide +kernel
theorem Re {n:ByteArray} (h:sK n=false):∃b:UInt8,n=⟨#[b]⟩/\97<=b.toNat/\b.toNat<=122:=by
 have ν:n.size=1:=by
  unfold sK at h;simp only[Bool.or_eq_false_iff] at h;have:=h.1.1;simpa using this
 obtain⟨d⟩:=n;have hd:d=#[d[0]'(by show 0<ByteArray.size ⟨d⟩;omega)]:=by
  apply Array.ext
  ·exact ν
  ·intro i J U;have:i=0:=by simp at U;exact U
   subst this;rfl
 generalize d[0]'_=b at hd;subst hd;refine⟨b,rfl,fν b.toNat b.toNat_lt ?_⟩;rw[UInt8.ofNat_toNat];exact h
def pw (n:ByteArray):Int:=((n.data.toList.headD 0).toNat:Nat)
theorem fξ {b:UInt8} (h:b.toNat<128):Utf8.decode ⟨#[b]⟩ 0=(b.toNat,1):=by
 unfold Utf8.decode;have e:(ByteArray.get! ⟨#[b]⟩ 0)=b:=rfl;simp only[Nat.add_zero,e];rw[if_pos h]
theorem fο {b:UInt8} (h:b.toNat<128):(Conv.runesFrom ⟨#[b]⟩ (ByteArray.size ⟨#[b]⟩) 0 #[])[0]?=some (.int .i32 (pw ⟨#[b]⟩)):=by
 have e:ByteArray.size ⟨#[b]⟩=1:=rfl;rw[e,Conv.runesFrom,if_pos (by rw[e];omega),fξ h];rfl
def qG (n:Int):UInt8:=UInt8.ofNat n.toNat
theorem fπ {n:Int} (aj:0<=n) (h:n<128):Utf8.encode n=⟨#[qG n]⟩:=by
 have key:∀k<128,Utf8.encode ((k:Nat):Int)=⟨#[qG (k:Nat)]⟩:=by decide +kernel
 obtain⟨k,rfl⟩:∃k:Nat,n=k:=⟨n.toNat,R⟩;exact key k R
theorem fρ:∀{l:List Int},(∀x∈l,0<=x/\x<128)->spell l=⟨(l.map qG).toArray⟩:=by
 have key:∀(l:List Int) (a:List UInt8),(∀x∈l,0<=x/\x<128)->l.foldl (λs n=>s++Utf8.encode n) (⟨a.toArray⟩:ByteArray)=⟨(a++l.map qG).toArray⟩:=by
  intro l
  induction l with
  | nil=>intro a _;simp
  | cons x l Β=>
   intro a h;obtain⟨aj,J⟩:=h x η;have e:(⟨a.toArray⟩:ByteArray)++Utf8.encode x=⟨(a++[qG x]).toArray⟩:=by
    rw[fπ aj J];apply ByteArray.ext;rw[ByteArray.data_append];simp
   rw[List.foldl_cons,e,Β _ λy Ι=>h y (by simp[Ι])];simp
 intro l h;have:=key l [] h;rw[List.nil_append] at this;exact this
structure Rf (s:aT) (L:List Int) (b:UInt8):Prop where
 ask:(b.toNat=63)↔1<L.length
 none:L=[-1]->b.toNat=45
 name:∀k:Nat,L=[(k:Int)]->∃g,s.au[k]?=some g/\(⟨#[b]⟩:ByteArray)=g.name
theorem Rg {s:aT} (h:jm s) (c0:cV s≠[]) {lower:Bool} {c:Nat} (δ:c<s.cells.length):(0<=oq s (cV s) lower pw c/\oq s (cV s) lower pw c<128)/\Rf s (fS (cV s) c lower) (qG (oq s (cV s) lower pw c)):=by
 have J:=Kq (lower:=lower) δ c0
 have U:=λx=>BA (lower:=lower) (x:=x) δ;unfold oq;generalize fS (cV s) c lower=L at J U;simp only;by_cases q:1<L.length
 ·rw[if_pos q];exact⟨bu,⟨λ_=>q,λ_=>rfl⟩,λe=>by rw[e] at q;simp at q,λk e=>by rw[e] at q;simp at q⟩
 rw[if_neg q];obtain⟨x,rfl⟩:∃x,L=[x]:=by
  match L,J,q with
  | [x],_,_=>exact⟨x,rfl⟩
  | x::y::z,_,q=>simp at q
 have γ:=U x η;rw[show([x]:List Int).headD 0=x from rfl];by_cases g:x<0
 ·rw[if_pos g];obtain rfl:x=-1:=R;exact⟨bu,⟨λe=>absurd e bu,λe=>absurd e q⟩,λ_=>rfl,λk e=>by simp at e⟩
 rw[if_neg g];obtain⟨k,rfl⟩:∃k:Nat,x=k:=⟨x.toNat,R⟩;have ς:k<s.au.length:=R;rw[Int.toNat_natCast,bg ς];simp only;obtain⟨b,hb,bw,dm⟩:=Re (h.au.each _ (List.getElem_mem ς)).1;rw[hb];have e:pw ⟨#[b]⟩=(b.toNat:Int):=rfl;have Γ:qG (b.toNat:Int)=b:=by unfold qG;rw[Int.toNat_natCast,UInt8.ofNat_toNat]
 rw[e,Γ];refine⟨R,⟨λe=>R,λe=>absurd e q⟩,λe=>by simp at e,λj e=>?_⟩;have:k=j:=by simp at e;omega
 subst this;exact⟨_,bg ς,hb.symm⟩
theorem fς {s:aT} (h:jm s) (c0:cV s≠[]) (lower:Bool):HV s (cV s) lower pw 255 where
 nK:=(yO h c0 lower).nK
 cells:=(yO h c0 lower).cells
 some c δ:=⟨(yO h c0 lower).some c δ |>.1,(yO h c0 lower).some c δ |>.2,Kq δ c0,by have:=Kr (lower:=lower) δ;have:=h.au.hi;omega,λx γ=>(BA δ γ).2⟩
 name g Ξ:=by
  obtain⟨b,hb,bw,dm⟩:=Re (h.au.each g Ξ).1;rw[hb];exact fο R
structure fτ (s:aT) (lower:Bool) (B:ByteArray):Prop where
 size:B.size=s.cells.length
 each:∀c,c<s.cells.length->∃b,B.data.toList.getD c 0=b/\B.extract c (c+1)=⟨#[b]⟩/\Rf s (fS (cV s) c lower) b
theorem fυ {s:aT} (h:jm s) (c0:cV s≠[]) (lower:Bool):∃B,rv s (cV s) lower pw=(B,0)/\fτ s lower B:=by
 have hb:(eZ s true (cV s)).2.2=0:=by
  unfold eZ;rw[if_neg (by rw[h.err];simp),if_neg (λq=>c0 q.2)]
 have aj:∀x∈kT s (cV s) lower pw s.cells.length,0<=x/\x<128:=λx γ=>by
  obtain⟨c,δ,rfl⟩:=List.mem_map.1 γ;exact(Rg h c0 (List.mem_range.1 δ)).1
 refine⟨⟨((kT s (cV s) lower pw s.cells.length).map qG).toArray⟩,?_,?_,λc δ=>⟨qG (oq s (cV s) lower pw c),?_,?_,(Rg h c0 δ).2⟩⟩
 ·unfold rv;rw[if_pos hb,fρ aj]
 ·show((kT s (cV s) lower pw s.cells.length).map qG).toArray.size=_;simp[kT]
 ·simp[kT,List.getD_eq_getElem?_getD,δ]
 ·apply ByteArray.ext;rw[ByteArray.data_extract];apply Array.ext';simp[kT];apply List.ext_getElem?;intro i
  match i with
  | 0=>simp[δ]
  | i+1=>simp;omega
end Go.TL
