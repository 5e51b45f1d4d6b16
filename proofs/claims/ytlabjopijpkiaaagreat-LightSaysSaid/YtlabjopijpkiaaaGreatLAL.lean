import Derived.Test.YtlabjopijpkiaaaGreatLAK
set_option maxHeartbeats 16000000
set_option maxRecDepth 20000
set_option linter.unusedSectionVars false
set_option linter.unusedSimpArgs false
set_option linter.unusedVariables false
namespace Go.TL
open Go.IntWalk (i64_in)
open Go.IntKind (i64 u64)
open Go.Proofs.Tryz
open Go.Proofs
variable [ZP]
theorem Bf (d:Array (Int)) (n lo hi first:Nat) (V:d.size=n) (ap:n<2 ^ 40) (aq:first+hi<=n) (X:lo<=n)  :
  Μ prog 231 [.ms 0 n 0 n,I lo,I hi,I first] [.cells 3 1 ((d).toList.map I)] (λr s=>r=.ZY []/\s=[.cells 3 1 ((Go.Sort.siftDown (Go.Sort.ltInt) hi first lo d).toList.map I)]) (λ_ _=>False):=by
 refine Μ.body Ο func231 U U ntmps231 U U Ω ?_;refine Χ ?_;obtain⟨R,P⟩:=ZG (Go.Sort.siftDown (Go.Sort.ltInt) hi first lo d);rw[P];refine W.iter (λq:Nat×Array (Int)=>q.2.size=n/\q.1<=n/\Go.Sort.siftDown (Go.Sort.ltInt) hi first q.1 q.2=R) (λq=>[(0,.ms 0 n 0 n),(2,I hi),(3,I first),(8,I (q.1:Nat))]) (λq=>[.cells 3 1 ((q.2).toList.map I)]) (λq=>hi-q.1) (lo,d) ⟨V,X,P⟩ U Ω (λq Y Z=>?_);obtain⟨r,e⟩:=q;obtain⟨m,aa,a⟩:=Y;simp only at m aa a;obtain⟨c,ab⟩:=Ε (2*r+1);obtain⟨H,K⟩:=Ε (c+1);obtain⟨π,ad⟩:=Ε (first+r);obtain⟨M,ae⟩:=Ε (first+c);obtain⟨fd,af⟩:=Ε (first+(c+1));have w1:i64.wrap (2*(r:Int))=2*(r:Int):=by rw[i64_in _ J]
 have ag:i64.wrap (2*(r:Int)+1)=(c:Int):=by rw[i64_in _ J];omega
 have N:i64.wrap ((c:Int)+1)=(H:Int):=by rw[i64_in _ J];omega
 have ah:i64.wrap ((first:Int)+(c:Int))=(M:Int):=by rw[i64_in _ J];omega
 have ai:i64.wrap ((M:Int)+1)=(fd:Int):=by rw[i64_in _ J];omega
 have Q:i64.wrap ((first:Int)+(r:Int))=(π:Int):=by rw[i64_in _ J];omega
 refine W.to (σ':=[.cells 3 1 ((e).toList.map I)]) (env':=[(0,.ms 0 n 0 n),(2,I hi),(3,I first),(8,I (r:Nat))]) ?_ U Ω;refine Ι (Υ w1 ag) ?_;by_cases S:hi<=c
 .refine Ζ (by simp[S]) ?_;refine W.exit U ?_;exact W.nil ⟨_,U,U,by rw[<-a,Go.Sort.siftDown,dif_pos J]⟩
 refine Η (by simp[S]) ?_;obtain⟨B,g⟩:=Ε ((decide (c+1<hi)&&Go.Sort.ltInt e[first+c]! e[first+(c+1)]!):Bool);obtain⟨k,i⟩:∃k,k=if B=true then c+1 else c:=⟨_,U⟩
 have ar:k<hi:=by
  rw[i];split
  .rename_i h;rw[h] at g;have:=g.symm;simp at this;omega
  .omega
 have aj:=BJ (Go.Sort.ltInt) hi first r e (k:=k) ab J (by rw[<-g];exact i)
 rw[aj] at a
 repeat apply Ν
 refine W.Pf (A:=[]) Ο mixed [(36,ν B),(0,.ms 0 n 0 n),(2,I hi),(3,I first),(8,I r),(9,I c)] ?_ (by
  by_cases o:H<hi
  .have b:M<n:=J
   have f:fd<n:=J;obtain⟨L,x,y,t,j,l,u,⟨v,w⟩,⟨C,D⟩,-,-⟩:=TN I m b f;have O:B=Go.Sort.ltInt x y:=by rw[g,<-j,<-l,ae,af];simp[<-K,o]
   have ak:(H:Int)<hi:=J;rw[t];clear j l;simp;(repeat (rw[Z1];simp[N,ah,ai,o,ak,u,v,w,C,D,b,f]));(try rw[Z2]);refine Zc (Κ.p (SX x y) (ZN.refl _) Ω Ω) ?_;simp;(repeat (rw[Z1];simp));(try rw[Z2]);refine⟨Yq Zr,?_⟩;simp[O,Go.Sort.ltInt]
  .have O:B=false:=by rw[g];simp[<-K,o]
   simp;(repeat (rw[Z1];simp[N,o]));(try rw[Z2]);refine⟨Yq Zr,?_⟩;simp[O])
 have au:r<k:=by rw[i];split<;>omega
 repeat apply Ν
 refine W.upto [(0,.ms 0 n 0 n),(2,I hi),(3,I first),(8,I (r:Nat)),(9,I (k:Nat))] [.cells 3 1 ((e).toList.map I)] ?_ ?_
 .cases B with
  | true=>
   refine Ζ U ?_;refine Ts N ?_;exact W.stop ⟨U,U,by simp[i,K]⟩
  | false=>
   refine Η U ?_;refine W.skip ?_;exact W.stop ⟨U,U,by simp[i]⟩
 obtain⟨E,al⟩:=Ε (first+k);rw[<-ad,<-al] at a;have T:i64.wrap ((first:Int)+(k:Int))=(E:Int):=by rw[i64_in _ J];omega
 have b:π<n:=J
 have f:E<n:=J;obtain⟨L,x,y,t,j,l,u,⟨v,w⟩,⟨C,D⟩,am,av,an⟩:=TN I m b f;rw[j,l] at a;refine W.to (σ':=[.cells 3 1 L]) (env':=[(0,.ms 0 n 0 n),(2,I hi),(3,I first),(8,I (r:Nat)),(9,I (k:Nat))]) ?_ (by rw[t]) Ω;clear j l
 repeat apply Ν
 refine W.draw (A:=[]) Ο mixed λaw ao=>V8 (Υ Q (Υ T (Υ u (Υ v (Υ w (Υ C (Υ D (Υ b f)))))))) ?_;refine Zc (Κ.p (SX x y) (ZN.refl _) Ω Ω) ?_;simp;(repeat (rw[Z1];simp));try rw[Z2]
 refine Zf (ao _ _ ?_);by_cases F:x<y
 .refine Η (by simp[F]) ?_
  repeat apply Ν
  refine XJ (Υ Q (Υ T (Υ u (Υ v (Υ w (Υ C (Υ D (Υ an (Υ b f))))))))) ?_;refine Χ ?_;refine W.to (Z (k,Go.Sort.swp e π E) ⟨swp_size m π E,Zy,?_⟩ Zy) (by rw[am]) Ω;rw[<-a];simp[F,Go.Sort.ltInt]
 .refine Ζ (by simp[F]) ?_;refine Χ ?_;exact W.ret ⟨_,U,U,by rw[<-t,<-a];simp[F,Go.Sort.ltInt]⟩
theorem rD (d:Array (Int)) (n a b:Nat) (K:d.size=n) (M:n<2 ^ 40) (ae:a<b) (af:b<=n)  :
  Μ prog 198 [.ms 0 n 0 n,I a,I b] [.cells 3 1 ((d).toList.map I)] (λr s=>r=.ZY []/\s=[.cells 3 1 ((Go.Sort.heapSort (Go.Sort.ltInt) d a b).toList.map I)]) (λ_ _=>False):=by
 refine Μ.body Ο func198 U U ntmps198 U U Ω ?_;obtain⟨m,T⟩:=ZG (b-a);have w1:i64.wrap ((b:Int)-(a:Int))=(m:Int):=by rw[i64_in _ J];omega
 have t:i64.wrap ((m:Int)-1)=((m-1:Nat):Int):=V6 J J
 have N:i64.wrap (((m-1:Nat):Int) / 2)=(((m-1) / 2:Nat):Int):=OO (m:=2) J;obtain⟨ag,u⟩:=Ε (m-1);obtain⟨v,O⟩:=Ε ((m-1) / 2);rw[<-O,<-u] at N;rw[<-u] at t;have wp:∀k:Nat,k<=n->i64.wrap ((k:Int)-1)=(k:Int)-1:=λk p=>by rw[i64_in _ J]
 obtain⟨g,w⟩:=ZG (Go.Sort.heapBuild (Go.Sort.ltInt) m a (v+1) d);have P:Go.Sort.heapSort (Go.Sort.ltInt) d a b=Go.Sort.heapPop (Go.Sort.ltInt) a m g:=by unfold Go.Sort.heapSort;rw[T,<-O,w]
 refine Ι (Υ w1 (Υ t N)) ?_;refine W.Ib [(0,.ms 0 n 0 n),(6,I a),(7,I 0),(8,I m)] [.cells 3 1 ((g).toList.map I)] ?_ ?_
 .refine W.iter (λq:Nat×Array (Int)=>q.2.size=n/\q.1<=v+1/\Go.Sort.heapBuild (Go.Sort.ltInt) m a q.1 q.2=g) (λq=>[(0,.ms 0 n 0 n),(6,I a),(7,I 0),(8,I m),(9,.z (.int .i64 ((q.1:Int)-1)))]) (λq=>[.cells 3 1 ((q.2).toList.map I)]) (λq=>q.1) (v+1,d) ⟨K,Z6 _,w⟩ U Ω (λq B C=>?_);obtain⟨k,e⟩:=q;obtain⟨c,p,f⟩:=B;simp only at c p f;cases k with
  | zero=>
   refine Χ ?_;refine Η U ?_;refine W.exit U ?_;exact W.stop ⟨U,by rw[<-f];rfl,Ω⟩
  | succ k=>
   have D:(0:Int)<=(k:Int):=J;refine W.to (σ':=[.cells 3 1 ((e).toList.map I)]) (env':=[(0,.ms 0 n 0 n),(6,I a),(7,I 0),(8,I m),(9,.z (.int .i64 ((k:Int))))]) ?_ U Ω;refine Ι D ?_;refine Ζ Ω ?_;refine Z8 λQ o=>?_;refine Μ.call (first:=[]) (captured:=[]) ((Bf e n k m a c M J J).mono (λr s ⟨E,H⟩=>?_) (λ_ _ h=>h.elim));subst E;subst H;simp;(repeat (rw[Θ];simp));apply o;refine Ι (wp k J) ?_;exact W.to (C (k,Go.Sort.siftDown (Go.Sort.ltInt) m a k e) ⟨K1 c,Zy,f⟩ Ω) U (by simp[wp k J])
 obtain⟨V,R⟩:=ZG (Go.Sort.heapPop (Go.Sort.ltInt) a m g);have X:g.size=n:=by rw[<-w];exact FV K
 rw[R] at P;refine Ι t ?_;refine W.iter (λq:Nat×Array (Int)=>q.2.size=n/\q.1<=m/\Go.Sort.heapPop (Go.Sort.ltInt) a q.1 q.2=V) (λq=>[(0,.ms 0 n 0 n),(6,I a),(7,I 0),(8,I m),(10,.z (.int .i64 ((q.1:Int)-1)))]) (λq=>[.cells 3 1 ((q.2).toList.map I)]) (λq=>q.1) (m,g) ⟨X,Z6 _,R⟩ U (by simp[u];omega) (λq B C=>?_);obtain⟨k,e⟩:=q;obtain⟨c,p,f⟩:=B;simp only at c p f;cases k with
 | zero=>
  refine Χ ?_;refine Η U ?_;refine W.exit U ?_;exact W.nil ⟨_,U,U,by rw[P,<-f];rfl⟩
 | succ k=>
  have D:(0:Int)<=(k:Int):=J;obtain⟨l,Y⟩:=Ε (a+k);have Z:i64.wrap ((a:Int)+(k:Int))=(l:Int):=by rw[i64_in _ J];omega
  refine W.to (σ':=[.cells 3 1 ((e).toList.map I)]) (env':=[(0,.ms 0 n 0 n),(6,I a),(7,I 0),(8,I m),(10,.z (.int .i64 ((k:Int))))]) ?_ U Ω;refine Ι D ?_;refine Ζ Ω ?_;refine W.two I c (i:=a) (j:=l) J J λL x y z aa ab F ad S=>?_
  repeat apply Ν
  refine W.draw (A:=[]) Ο mixed λQ o=>?_;simp;(repeat (rw[Z1];simp[F,Z]));try rw[Z2];refine Zf (o _ _ ?_)
  refine W.back S [(0,.ms 0 n 0 n),(6,I a),(7,I 0),(8,I m),(10,.z (.int .i64 ((k:Int))))] Ω ?_;clear F S ad aa ab L x y z;refine Z8 λQ o=>?_;refine Μ.call (first:=[]) (captured:=[]) ((Bf (Go.Sort.swp e a l) n 0 k a (swp_size c a l) M J J).mono (λr s ⟨E,H⟩=>?_) (λ_ _ h=>h.elim));subst E;subst H;simp;(repeat (rw[Θ];simp));apply o;refine Ι (wp k J) ?_;exact W.to (C (k,Go.Sort.siftDown (Go.Sort.ltInt) k a 0 (Go.Sort.swp e a l)) ⟨K1 (swp_size c a l),Zy,by rw[Y];exact f⟩ Ω) U (by simp[wp k J])
theorem rC (d:Array (Int)) (n a b:Nat) (m:d.size=n) (C:n<2 ^ 40) (D:a<b) (E:b<=n)  :
  Μ prog 201 [.ms 0 n 0 n,I a,I b] [.cells 3 1 ((d).toList.map I)] (λr s=>r=.ZY []/\s=[.cells 3 1 ((Go.Sort.reverseRange d a b).toList.map I)]) (λ_ _=>False):=by
 refine Μ.body Ο func201 U U ntmps201 U U Ω ?_;have w1:=V6 (i:=b) J J;refine Ι w1 ?_;refine W.iter (λq:Nat×Nat×Array (Int)=>q.2.2.size=n/\q.1<n/\q.2.1<n/\Go.Sort.reverseLoop q.1 q.2.1 q.2.2=Go.Sort.reverseRange d a b) (λq=>[(0,.ms 0 n 0 n),(6,I (q.1:Nat)),(7,I (q.2.1:Nat))]) (λq=>[.cells 3 1 ((q.2.2).toList.map I)]) (λq=>q.2.1-q.1) (a,b-1,d) ⟨m,Zy,Zy,U⟩ U (by simp[w1]) (λq o p=>?_);obtain⟨i,j,e⟩:=q;obtain⟨g,hi,t,c⟩:=o;simp only at g hi t c;rw[Go.Sort.reverseLoop] at c;refine W.to (σ':=[.cells 3 1 ((e).toList.map I)]) (env':=[(0,.ms 0 n 0 n),(6,I (i:Nat)),(7,I (j:Nat))]) ?_ U Ω;refine Χ ?_;by_cases f:i<j
 .refine Ζ (by simp[f]) ?_;rw[if_pos f] at c;have h:=X3 (i:=i) J;have k:=V6 (i:=j) J J;refine W.two I g (i:=i) (j:=j) J J λL x y z u v F w l=>?_
  repeat apply Ν
  refine W.draw (A:=[]) Ο mixed λH B=>?_;simp;(repeat (rw[Z1];simp[F]));try rw[Z2];refine Zf (B _ _ ?_)
  refine W.back l [(0,.ms 0 n 0 n),(6,I (i:Nat)),(7,I (j:Nat))] Ω ?_;clear F l w u v L x y z;refine Ι (Υ h k) ?_;exact W.to (p (i+1,j-1,Go.Sort.swp e i j) ⟨swp_size g i j,Zy,Zy,c⟩ Zy) U (by simp[h,k])
 .refine Η (by simp[f]) ?_;refine W.exit U ?_;rw[if_neg f] at c;exact W.nil ⟨_,U,U,by rw[c]⟩
theorem FF (d:Array (Int)) (n a b s:Nat) (m:d.size=n) (o:a<n) (t:b<n) (C:s<2 ^ 40)  :
  Μ prog 253 [.ms 0 n 0 n,I a,I b,.Δ 1 1 0 0] [.cells 3 1 (d.toList.map I),.cells 3 1 [I s]] (λr σ=>r=.ZY [I (Go.Sort.order2 (Go.Sort.ltInt) d a b s).1,I (Go.Sort.order2 (Go.Sort.ltInt) d a b s).2.1]/\σ=[.cells 3 1 (d.toList.map I),.cells 3 1 [I (Go.Sort.order2 (Go.Sort.ltInt) d a b s).2.2]]) (λ_ _=>False):=by
 refine Μ.body Ο func253 U U ntmps253 U U Ω ?_;obtain⟨L,e⟩:=Ε (d.toList.map I);have u:L.length=n:=by rw[e];simpa using m
 obtain⟨x,f⟩:=Ε (d[a]!);obtain⟨y,g⟩:=Ε (d[b]!);have i:L[a]?=some (I x):=by rw[e,f,Yc,Wh,Rx J];rfl
 have j:L[b]?=some (I y):=by rw[e,g,Yc,Wh,Rx J];rfl
 have v:∀h:a<L.length,L[a]=I x:=λh=>by have:=i;rw[Z7 h] at this;exact WW this
 have w:∀h:b<L.length,L[b]=I y:=λh=>by have:=j;rw[Z7 h] at this;exact WW this
 have k:i64.wrap ((s:Int)+1)=((s+1:Nat):Int):=by rw[i64_in _ J];omega
 have l:Go.Sort.order2 (Go.Sort.ltInt) d a b s=if Go.Sort.ltInt y x=true then(b,a,s+1) else(a,b,s):=by unfold Go.Sort.order2;rw[<-f,<-g]
 rw[l,<-e];clear e f g l;refine Χ ?_;refine W.draw (A:=[]) Ο mixed λD B=>V8 (Υ u (Υ i (Υ j (Υ v w)))) ?_;refine⟨t,o,?_⟩;refine Zc (Κ.p (SX y x) (ZN.refl _) Ω Ω) ?_;simp;(repeat (rw[Z1];simp));try rw[Z2]
 refine Zf (B _ _ ?_);by_cases c:y<x
 .refine Ζ (by simp[c]) ?_;refine Ι k ?_;exact W.ret ⟨_,U,by simp[ψ,Go.Sort.ltInt,c],by simp[ψ,Go.Sort.ltInt,c]⟩
 .refine Η (by simp[c]) ?_;refine Ι k ?_;exact W.ret ⟨_,U,by simp[ψ,Go.Sort.ltInt,c],by simp[ψ,Go.Sort.ltInt,c]⟩
theorem Be (d:Array (Int)) (n a b c s:Nat) (i:d.size=n) (F:a<n) (H:b<n) (K:c<n) (L:s<2 ^ 39)  :
  Μ prog 233 [.ms 0 n 0 n,I a,I b,I c,.Δ 1 1 0 0] [.cells 3 1 ((d).toList.map I),.cells 3 1 [I (s:Nat)]] (λr σ=>r=I (Go.Sort.median (Go.Sort.ltInt) d a b c s).1/\σ=[.cells 3 1 ((d).toList.map I),.cells 3 1 [I ((Go.Sort.median (Go.Sort.ltInt) d a b c s).2:Nat)]]) (λ_ _=>False):=by
 refine Μ.body Ο func233 U U ntmps233 U U Ω ?_;obtain⟨y,v⟩:=ZG (Go.Sort.order2 (Go.Sort.ltInt) d a b s);have f1:=PC (Go.Sort.ltInt) d (a:=a) (b:=b) (n:=n) J J s;have j:=FF d n a b s i J J J;rw[v] at f1 j;obtain⟨k,l,m⟩:=y;simp only at f1 j;obtain⟨A,Ρ⟩:=ZG (Go.Sort.order2 (Go.Sort.ltInt) d l c m);have f2:=PC (Go.Sort.ltInt) d (a:=l) (b:=c) (n:=n) J J m;have o:=FF d n l c m i J J J;rw[Ρ] at f2 o;obtain⟨p,M,t⟩:=A;simp only at f2 o;obtain⟨B,w⟩:=ZG (Go.Sort.order2 (Go.Sort.ltInt) d k p t);have f3:=PC (Go.Sort.ltInt) d (a:=k) (b:=p) (n:=n) J J t;have u:=FF d n k p t i J J J;rw[w] at f3 u;obtain⟨N,C,D⟩:=B;simp only at f3 u;have E:Go.Sort.median (Go.Sort.ltInt) d a b c s=(C,D):=by unfold Go.Sort.median;simp only[v,Ρ,w]
 rw[E]
 repeat apply Ν
 refine Xh ?_;refine Z8 λx e=>?_;refine Μ.call (first:=[]) (captured:=[]) ((j).mono (λr s ⟨f,g⟩=>?_) (λ_ _ h=>h.elim));subst f;subst g;simp;(repeat (rw[Θ];simp));apply e;refine Z8 λx e=>?_;refine Μ.call (first:=[]) (captured:=[]) ((o).mono (λr s ⟨f,g⟩=>?_) (λ_ _ h=>h.elim));subst f;subst g;simp;(repeat (rw[Θ];simp));apply e;refine Z8 λx e=>?_;refine Μ.call (first:=[]) (captured:=[]) ((u).mono (λr s ⟨f,g⟩=>?_) (λ_ _ h=>h.elim));subst f;subst g;simp;(repeat (rw[Θ];simp));apply e;refine Χ ?_;exact W.ret ⟨_,U,U,U⟩
theorem FE (d:Array (Int)) (n i s:Nat) (a:d.size=n) (o:1<=i) (hi:i+1<n) (t:n<2 ^ 40) (b:s<2 ^ 39)  :
  Μ prog 232 [.ms 0 n 0 n,I i,.Δ 1 1 0 0] [.cells 3 1 ((d).toList.map I),.cells 3 1 [I (s:Nat)]] (λr σ=>r=I (Go.Sort.medianAdjacent (Go.Sort.ltInt) d i s).1/\σ=[.cells 3 1 ((d).toList.map I),.cells 3 1 [I ((Go.Sort.medianAdjacent (Go.Sort.ltInt) d i s).2:Nat)]]) (λ_ _=>False):=by
 refine Μ.body Ο func232 U U ntmps232 U U Ω ?_;obtain⟨p,f⟩:=Ε (i-1);obtain⟨q,g⟩:=Ε (i+1);have w1:i64.wrap ((i:Int)-1)=(p:Int):=by rw[i64_in _ J];omega
 have j:i64.wrap ((i:Int)+1)=(q:Int):=by rw[i64_in _ J];omega
 have c:=Be d n p i q s a J J J b
 have e:Go.Sort.medianAdjacent (Go.Sort.ltInt) d i s=Go.Sort.median (Go.Sort.ltInt) d p i q s:=by rw[f,g];rfl
 rw[e]
 repeat apply Ν
 refine Xh ?_;refine XD (Υ w1 j) λu k=>?_;refine Μ.call (first:=[]) (captured:=[]) ((c).mono (λr s ⟨l,m⟩=>?_) (λ_ _ h=>h.elim));subst l;subst m;simp;(repeat (rw[Θ];simp));apply k;refine Χ ?_;exact W.ret ⟨_,U,U,U⟩
theorem rB (d:Array (Int)) (n a b:Nat) (x:d.size=n) (av:n<2 ^ 38) (aw:a+12<b) (ax:b<=n)  :
  Μ prog 200 [.ms 0 n 0 n,I a,I b] [.cells 3 1 ((d).toList.map I)] (λr s=>r=.ZY [I (Go.Sort.choosePivot (Go.Sort.ltInt) d a b).1,I (RP (Go.Sort.choosePivot (Go.Sort.ltInt) d a b).2)]/\s=[.cells 3 1 ((d).toList.map I)]) (λ_ _=>False):=by
 refine Μ.body Ο func200 U U ntmps200 U U Ω ?_;obtain⟨l,R⟩:=Ε (b-a);obtain⟨q,D⟩:=Ε (l / 4);obtain⟨E,S⟩:=Ε (q*2);obtain⟨F,T⟩:=Ε (q*3);obtain⟨i,hi⟩:=Ε (a+q);obtain⟨j,V⟩:=Ε (a+E);obtain⟨k,X⟩:=Ε (a+F);have ad:(8:Int)<=(l:Int):=J;have w1:i64.wrap ((b:Int)-(a:Int))=(l:Int):=by rw[i64_in _ J];omega
 have ae:i64.wrap ((l:Int) / 4)=(q:Int):=by rw[D];exact OO (m:=4) J
 have af:i64.wrap (q:Int)=(q:Int):=i64_in _ J
 have ag:i64.wrap ((q:Int)*2)=(E:Int):=by rw[i64_in _ J];omega
 have ah:i64.wrap ((q:Int)*3)=(F:Int):=by rw[i64_in _ J];omega
 have ai:i64.wrap ((a:Int)+(q:Int))=(i:Int):=by rw[i64_in _ J];omega
 have aj:i64.wrap ((a:Int)+(E:Int))=(j:Int):=by rw[i64_in _ J];omega
 have ak:i64.wrap ((a:Int)+(F:Int))=(k:Int):=by rw[i64_in _ J];omega
 obtain⟨c,e,K,f,y,al,am,an,H⟩:∃c e K f:Nat,Go.Sort.choosePivot (Go.Sort.ltInt) d a b=((Go.Sort.median (Go.Sort.ltInt) d c e K f).1,if(Go.Sort.median (Go.Sort.ltInt) d c e K f).2=0 then .increasing else if(Go.Sort.median (Go.Sort.ltInt) d c e K f).2=12 then .decreasing else .unknown)/\c<n/\e<n/\K<n/\(f<=9/\((l<50/\c=i/\e=j/\K=k/\f=0)\/(50<=l/\∃t1 t2,Go.Sort.medianAdjacent (Go.Sort.ltInt) d i 0=(c,t1)/\t1<=3/\Go.Sort.medianAdjacent (Go.Sort.ltInt) d j t1=(e,t2)/\t2<=6/\Go.Sort.medianAdjacent (Go.Sort.ltInt) d k t2=(K,f)))):=by
  have Y:8<=l:=J;by_cases L:50<=l
  .have M:=Ms (Go.Sort.ltInt) d (n:=n) (i:=i) J J 0;obtain⟨⟨c,t1⟩,u⟩:∃r,Go.Sort.medianAdjacent (Go.Sort.ltInt) d i 0=r:=⟨_,U⟩;rw[u] at M;have N:=Ms (Go.Sort.ltInt) d (n:=n) (i:=j) J J t1;obtain⟨⟨e,t2⟩,Ρ⟩:∃r,Go.Sort.medianAdjacent (Go.Sort.ltInt) d j t1=r:=⟨_,U⟩;rw[Ρ] at N;have O:=Ms (Go.Sort.ltInt) d (n:=n) (i:=k) J J t2;obtain⟨⟨K,f⟩,v⟩:∃r,Go.Sort.medianAdjacent (Go.Sort.ltInt) d k t2=r:=⟨_,U⟩;rw[v] at O;simp only at M N O;refine⟨c,e,K,f,?_,M.1,N.1,O.1,J,.inr ⟨L,t1,t2,u,J,Ρ,J,v⟩⟩;simp only[Go.Sort.choosePivot,<-R,<-D,RL,<-S,<-T,<-hi,<-V,<-X,ge_iff_le,if_pos Y,if_pos L,u,Ρ,v]
  .refine⟨i,j,k,0,?_,J,J,J,J,.inl ⟨J,U,U,U,U⟩⟩;simp only[Go.Sort.choosePivot,<-R,<-D,RL,<-S,<-T,<-hi,<-V,<-X,ge_iff_le,if_pos Y,if_neg L]
 obtain⟨ao,em⟩:=ZG (Go.Sort.median (Go.Sort.ltInt) d c e K f);have B:=Be d n c e K f x al am an (Qp H.1 ZT);rw[em] at B y;obtain⟨ap,w⟩:=ao;simp only at B y;rw[y]
 repeat apply Ν
 refine Xh ?_
 repeat apply Ν
 refine Ts w1 ?_
 repeat apply Ν
 refine YY (A:=[9]) Ο λC o=>Z9 ?_;apply o;refine Ι (Υ ae (Υ af (Υ ag (Υ ah (Υ ai (Υ aj (Υ ak @ad))))))) ?_;refine Ζ Ω ?_;refine Χ ?_;refine W.upto [(0,.ms 0 n 0 n),(9,.Δ 1 1 0 0),(10,I (c:Nat)),(11,I (e:Nat)),(12,I (K:Nat))] [.cells 3 1 ((d).toList.map I),.cells 3 1 [I (f:Nat)]] ?_ ?_
 .clear y B;rcases H with⟨-,⟨aq,rfl,rfl,rfl,rfl⟩|⟨aq,t1,t2,u,ay,Ρ,az,v⟩⟩
  .have g:¬(50:Int)<=(l:Int):=J
   refine Η (by simp[g]) ?_;refine W.skip ?_;exact W.stop ⟨U,U,Ω⟩
  .have g:(50:Int)<=(l:Int):=J
   have Z:=FE d n i 0 x J J J J
   have aa:=FE d n j t1 x J J J J
   have ab:=FE d n k t2 x J J J J;rw[u] at Z;rw[Ρ] at aa;rw[v] at ab;refine Ζ (by simp[g]) ?_;refine Z8 λC o=>?_;refine Μ.call (first:=[]) (captured:=[]) ((Z).mono (λr s ⟨p,t⟩=>?_) (λ_ _ h=>h.elim));subst p;subst t;simp;(repeat (rw[Θ];simp));apply o;refine Z8 λC o=>?_;refine Μ.call (first:=[]) (captured:=[]) ((aa).mono (λr s ⟨p,t⟩=>?_) (λ_ _ h=>h.elim));subst p;subst t;simp;(repeat (rw[Θ];simp));apply o;refine Z8 λC o=>?_;refine Μ.call (first:=[]) (captured:=[]) ((ab).mono (λr s ⟨p,t⟩=>?_) (λ_ _ h=>h.elim));subst p;subst t;simp;(repeat (rw[Θ];simp));apply o;exact W.stop ⟨U,U,Ω⟩
 clear H;refine Z8 λC o=>?_;refine Μ.call (first:=[]) (captured:=[]) ((B).mono (λr s ⟨p,t⟩=>?_) (λ_ _ h=>h.elim));subst p;subst t;simp;(repeat (rw[Θ];simp));apply o
 repeat apply Ν
 refine Xh ?_;refine W.drop (h:=1) Ω Ω (H9 QQ) U [(11,I (ap:Nat)),(49,I (w:Nat))] Ω ?_;by_cases P:w=0
 .subst P;refine Χ ?_;refine Ζ U ?_;refine Χ ?_;exact W.ret ⟨_,U,U,U⟩
 have ar:¬(w:Int)=0:=J;refine Ι ar ?_;refine Η (by simp[P]) ?_;by_cases Q:w=12
 .subst Q;refine Χ ?_;refine Ζ U ?_;refine Χ ?_;exact W.ret ⟨_,U,U,U⟩
 have au:¬(w:Int)=12:=J;refine Ι au ?_;refine Η (by simp[Q]) ?_;refine Χ ?_;exact W.ret ⟨_,U,by simp[P,Q,RP],U⟩
theorem rA (d:Array (Int)) (n a b:Nat) (al:d.size=n) (aM:n<2 ^ 40) (aN:a+12<b) (aO:b<a+256) (aP:b<=n)  :
  Μ prog 199 [.ms 0 n 0 n,I a,I b] [.cells 3 1 ((d).toList.map I)] (λr s=>r=.ZY []/\s=[.cells 3 1 ((Go.Sort.breakPatterns d a b).toList.map I)]) (λ_ _=>False):=by
 refine Μ.body Ο func199 U U ntmps199 U U Ω ?_;obtain⟨l,E⟩:=Ε (b-a);obtain⟨q,Y⟩:=Ε (l / 4);obtain⟨F,am⟩:=Ε (q*2);obtain⟨c,an⟩:=Ε (a+F);obtain⟨H,Z⟩:=Ε (c-1);obtain⟨K,aQ⟩:=Ε (c+1);obtain⟨m,M⟩:=Ε (1 <<< Go.Sort.bitsLen l);have ao:Go.Sort.bitsLen l<=8:=(Go.Sort.bitsLen_le_iff l 8).2 J;have aR:l<m/\m<=256/\m<=2*l:=by
  have N:=Go.Sort.lt_two_pow_bitsLen l
  have O:=Go.Sort.two_pow_bitsLen_le (n:=l) J;rw[M,KB];exact⟨N,XQ (Mi J ao) ZT,O⟩
 obtain⟨R,aa⟩:=ZG (Qv a l m 3 H (UInt64.ofNat l,d));have ap:Go.Sort.breakPatterns d a b=R.2:=by rw[BH (c:=c) E J (by rw[an,am,Y]),<-M,<-Z,aa]
 rw[ap];have w1:i64.wrap ((b:Int)-(a:Int))=(l:Int):=by rw[i64_in _ J];omega
 have P:i64.wrap ((l:Int) / 4)=(q:Int):=by rw[Y];exact OO (m:=4) J
 have Q:i64.wrap ((q:Int)*2)=(F:Int):=by rw[i64_in _ J];omega
 have S:i64.wrap ((a:Int)+(F:Int))=(c:Int):=by rw[i64_in _ J];omega
 have aq:i64.wrap ((c:Int)-1)=(H:Int):=by rw[i64_in _ J];omega
 have ab:i64.wrap ((c:Int)+1)=(K:Int):=by rw[i64_in _ J];omega
 have ar:u64.wrap (l:Int)=(l:Int):=Qu J
 have au:u64.wrap ((m:Int)-1)=((m-1:Nat):Int):=by
  have e:(m:Int)-1=((m-1:Nat):Int):=J;rw[e];exact Qu J
 have av:(8:Int)<=(l:Int):=J
 have aw:(UInt64.ofNat l).toNat=l:=by rw[UInt64.toNat_ofNat'];exact Ql J
 refine Ι (Υ w1 @av) ?_;refine Ζ Ω ?_
 repeat apply Ν
 refine YY (A:=[7]) Ο λad k=>XK ar ?_;apply k;have ae:=BA l J;rw[<-M] at ae;refine Z8 λad k=>?_;refine Κ.c ae (ZN.refl _) Ω Ω ?_;simp;(repeat (rw[Θ];simp));apply k;refine Ι (Υ P (Υ Q (Υ S aq))) ?_;refine W.iter (λy:Nat×UInt64×Array (Int)=>y.1<=3/\y.2.2.size=n/\Qv a l m y.1 (c+2-y.1) y.2=R) (λy=>[(0,.ms 0 n 0 n),(1,I a),(6,I (l:Nat)),(7,.Δ 1 1 0 0),(8,Vd (m:Nat)),(9,I (c+2-y.1:Nat))]) (λy=>[.cells 3 1 ((y.2.2).toList.map I),.cells 248 1 [Vd ((y.2.1.toNat:Nat):Int)]]) (λy=>y.1) (3,UInt64.ofNat l,d) ⟨Z6 _,al,by simp only;rw[<-aa,show c+2-3=H by omega]⟩ (by simp only;rw[aw]) (by simp[Z]) (λy T ax=>?_);obtain⟨t,st,e⟩:=y;obtain⟨ay,V,u⟩:=T;simp only at ay V u;obtain⟨f,af⟩:=Ε (c+2-t);obtain⟨x,p⟩:=Ε st.toNat;have az:x<2 ^ 64:=by rw[p];exact st.toNat_lt
 rw[<-af] at u;refine W.to (σ':=[.cells 3 1 ((e).toList.map I),.cells 248 1 [Vd ((x:Nat):Int)]]) (env':=[(0,.ms 0 n 0 n),(1,I a),(6,I (l:Nat)),(7,.Δ 1 1 0 0),(8,Vd (m:Nat)),(9,I (f:Nat))]) ?_ (by rw[p]) (by simp[af]);cases t with
 | zero=>
  have g:¬(f:Int)<=(K:Int):=J;refine Ι (Υ P (Υ Q (Υ S (Υ ab g)))) ?_;refine Η Ω ?_;refine W.exit U ?_;refine W.drop (h:=1) Ω Ω (H9 QQ) U [] Ω ?_;exact W.nil ⟨_,U,U,by rw[<-u];rfl⟩
 | succ t=>
  have g:(f:Int)<=(K:Int):=J;obtain⟨v,ag⟩:=Ε (Go.Sort.xorNext st);obtain⟨j,w⟩:=Ε v.toNat;have aA:j=Go.Sort.xorNextN x:=by rw[w,ag,Go.Sort.xorNext_toNat,p]
  have aB:j<2 ^ 64:=by rw[w];exact v.toNat_lt
  have ah:=Bz x az;rw[<-aA] at ah;obtain⟨z,X⟩:=Ε (j&&&(m-1));have aS:z<=m-1:=by rw[X];exact Nat.and_le_right
  have WU:XT .u64 (j:Int) ((m-1:Nat):Int)=(z:Int):=by rw[X];exact BG aB J
  have aC:i64.wrap (z:Int)=(z:Int):=i64_in _ J;obtain⟨o,B⟩:=Ε (if z>=l then z-l else z);have aT:o<l:=by rw[B];split<;>omega
  have ai:Qv a l m t (f+1) (v,Go.Sort.swp e f (a+o))=R:=by
   rw[<-u];show _=Qv a l m t (f+1) (Go.Sort.breakStep a l m (st,e) f);unfold Go.Sort.breakStep;simp only;rw[<-ag,<-w,<-X,<-B]
  obtain⟨C,aD⟩:=Ε (a+o);rw[<-aD] at ai;refine Ι (Υ P (Υ Q (Υ S (Υ ab g)))) ?_;refine Ζ Ω ?_;refine Z8 λad k=>?_;refine Μ.one ah 1 U (by simp[VU]) (by simp[VU]) (by simp[Xr,T0]) (by simp[Xr,T0]) U ?_;simp[Yh,Wx];(repeat (rw[Θ];simp[au,WU,aC]));apply k;refine W.to (σ':=[.cells 3 1 ((e).toList.map I),.cells 248 1 [Vd ((j:Nat):Int)]]) (env':=[(0,.ms 0 n 0 n),(1,I a),(6,I (l:Nat)),(7,.Δ 1 1 0 0),(8,Vd (m:Nat)),(9,I (f:Nat)),(10,I (z:Nat))]) ?_ U Ω;refine Χ ?_;refine W.upto [(0,.ms 0 n 0 n),(1,I a),(6,I (l:Nat)),(7,.Δ 1 1 0 0),(8,Vd (m:Nat)),(9,I (f:Nat)),(10,I (o:Nat))] [.cells 3 1 ((e).toList.map I),.cells 248 1 [Vd ((j:Nat):Int)]] ?_ ?_
  .by_cases D:l<=z
   .have wo:i64.wrap ((z:Int)-(l:Int))=(o:Int):=by rw[i64_in _ J,B,if_pos D];omega
    refine Ζ (by simp[D]) ?_;refine Ι wo ?_;exact W.stop ⟨U,U,Ω⟩
   .refine Η (by simp[D]) ?_
    repeat apply Ν
    exact W.stop ⟨U,U,by simp[B,D]⟩
  have aE:i64.wrap ((a:Int)+(o:Int))=(C:Int):=by rw[i64_in _ J];omega
  have aj:f<n:=J
  have ak:C<n:=J;obtain⟨L,x,y,aF,p,T,E,⟨N,O⟩,⟨aG,aH⟩,aI,aU,aJ⟩:=TN I V aj ak;rw[aF];clear p T
  repeat apply Ν
  refine XJ (Υ E (Υ N (Υ O (Υ aG (Υ aH (Υ aJ (Υ aj (Υ ak aE)))))))) ?_;have aK:=X3 (i:=f) J;refine Ι aK ?_;refine W.to (ax (t,v,Go.Sort.swp e f C) ⟨Zy,swp_size V f C,?_⟩ Ω) (by rw[aI,w]) (by simp[show c+2-t=f+1 by omega]);have aL:c+2-t=f+1:=J;simp only;rw[aL];exact ai
theorem Bd (d:Array (Int)) (n a b:Nat) (aq:d.size=n) (aO:n<2 ^ 40) (aA:a<b) (aP:b<=n)  :
  Μ prog 202 [.ms 0 n 0 n,I a,I b] [.cells 3 1 ((d).toList.map I)] (λr s=>r=ν (Go.Sort.partialInsertionSort (Go.Sort.ltInt) d a b).2/\s=[.cells 3 1 (((Go.Sort.partialInsertionSort (Go.Sort.ltInt) d a b).1).toList.map I)]) (λ_ _=>False):=by
 refine Μ.body Ο func202 U U ntmps202 U U Ω ?_;obtain⟨R,af⟩:=ZG (Go.Sort.partialIns (Go.Sort.ltInt) a b 5 (a+1) d);have ar:Go.Sort.partialInsertionSort (Go.Sort.ltInt) d a b=R:=af;rw[ar];have w1:=X3 (i:=a) J;refine Ι w1 ?_;refine W.iter (λq:Nat×Nat×Array (Int)=>q.1<=5/\a+1<=q.2.1/\q.2.1<=b/\q.2.2.size=n/\Go.Sort.partialIns (Go.Sort.ltInt) a b (5-q.1) q.2.1 q.2.2=R) (λq=>[(0,.ms 0 n 0 n),(1,I a),(2,I b),(7,I (q.2.1:Nat)),(8,I (q.1:Nat))]) (λq=>[.cells 3 1 ((q.2.2).toList.map I)]) (λq=>5-q.1) (0,a+1,d) ⟨Α _,Z6 _,aA,aq,af⟩ U (by simp[w1]) (λq B aB=>?_);clear af ar aq w1;obtain⟨st,i,e⟩:=q;obtain⟨aC,aD,ag,ab,h⟩:=B;simp only at aC aD ag ab h;refine W.to (σ':=[.cells 3 1 ((e).toList.map I)]) (env':=[(0,.ms 0 n 0 n),(1,I a),(2,I b),(7,I (i:Nat)),(8,I (st:Nat))]) ?_ U Ω;by_cases ad:st<5
 case neg=>
  have g:¬(st:Int)<5:=J;refine Ι g ?_;refine Η Ω ?_;refine W.exit U ?_;refine Χ ?_;obtain rfl:st=5:=J;exact W.ret ⟨_,U,by rw[<-h];rfl,by rw[<-h];rfl⟩
 have aE:(st:Int)<5:=J;refine Ι aE ?_;refine Ζ Ω ?_;obtain⟨c,ah⟩:=ZG (Go.Sort.scanSorted (Go.Sort.ltInt) e b i);have aF:=BE (Go.Sort.ltInt) e (b:=b) (b-i) i (Z6 _) ag;rw[ah] at aF;rw[show 5-st=(4-st)+1 by omega,Go.Sort.partialIns] at h;simp only[ah] at h
 repeat apply Ν
 refine W.Ib [(0,.ms 0 n 0 n),(1,I a),(2,I b),(7,I (c:Nat)),(8,I (st:Nat))] [.cells 3 1 ((e).toList.map I)] ?_ ?_
 .clear h;refine W.iter (λk:Nat=>i<=k/\k<=b/\Go.Sort.scanSorted (Go.Sort.ltInt) e b k=c) (λk=>[(0,.ms 0 n 0 n),(1,I a),(2,I b),(7,I (k:Nat)),(8,I (st:Nat))]) (λ_=>[.cells 3 1 ((e).toList.map I)]) (λk=>b-k) i ⟨Z6 _,ag,ah⟩ U Ω (λk aG Y=>?_);obtain⟨aQ,aR,ai⟩:=aG;by_cases C:k<b
  .obtain⟨p,aj⟩:=Ε (k-1);have o:k<n:=J;have t:p<n:=J;obtain⟨L,x,y,m,u,v,E,⟨H,K⟩,⟨M,N⟩,-,-⟩:=TN I ab o t;have D:Go.Sort.scanSorted (Go.Sort.ltInt) e b k=if(!Go.Sort.ltInt x y)=true then Go.Sort.scanSorted (Go.Sort.ltInt) e b (k+1) else k:=by rw[Go.Sort.scanSorted];simp[C,u,<-aj,v]
   have au:=X3 (i:=k) J
   have aH:i64.wrap ((k:Int)-1)=(p:Int):=by rw[i64_in _ J];omega
   refine W.to (σ':=[.cells 3 1 L]) (env':=[(0,.ms 0 n 0 n),(1,I a),(2,I b),(7,I (k:Nat)),(8,I (st:Nat))]) ?_ (by rw[m]) Ω;clear u v
   repeat apply Ν
   refine W.draw (A:=[]) Ο mixed λak O=>V8 (Υ C (Υ aH (Υ E (Υ H (Υ K (Υ M (Υ N (Υ o t)))))))) ?_;refine Zc (Κ.p (SX x y) (ZN.refl _) Ω Ω) ?_;simp;(repeat (rw[Z1];simp));try rw[Z2]
   refine Zf (O _ _ ?_);by_cases l:x<y
   .refine Η (by simp[l]) ?_;refine W.exit U ?_;exact W.stop ⟨U,by rw[m],by rw[<-ai,D];simp[l,Go.Sort.ltInt]⟩
   .refine Ζ (by simp[l]) ?_;refine Ι au ?_;exact W.to (Y (k+1) ⟨J,J,by rw[<-ai,D];simp[l,Go.Sort.ltInt]⟩ Zy) (by rw[m]) (by simp[au])
  .repeat apply Ν
   refine XJ C ?_;refine Η U ?_;refine W.exit U ?_;have e:Go.Sort.scanSorted (Go.Sort.ltInt) e b k=k:=by rw[Go.Sort.scanSorted];simp[C]
   exact W.stop ⟨U,U,by rw[<-ai,e];simp⟩
 by_cases ae:c=b
 .have g:(c:Int)=(b:Int):=J
  rw[if_pos ae] at h;refine Ι g ?_;refine Ζ (by simp[ae]) ?_;refine Χ ?_;exact W.ret ⟨_,U,by rw[<-h];rfl,by rw[<-h]⟩
 have g:¬(c:Int)=(b:Int):=J
 have av:=Qt (a:=a) (b:=b) J J;rw[if_neg ae] at h;refine Ι g ?_;refine Η (by simp[ae]) ?_;by_cases aw:b-a<50
 .have al:((b-a:Nat):Int)<50:=J
  rw[if_pos aw] at h;refine Ι (Υ av al) ?_;refine Ζ Ω ?_;refine Χ ?_;exact W.ret ⟨_,U,by rw[<-h];rfl,by rw[<-h]⟩
 have al:¬((b-a:Nat):Int)<50:=J;rw[if_neg aw] at h;refine Ι (Υ av al) ?_;refine Η Ω ?_;obtain⟨p,aj⟩:=Ε (c-1);have ax:i64.wrap ((c:Int)-1)=(p:Int):=by rw[i64_in _ J];omega
 rw[<-aj] at h;refine W.two I ab (i:=c) (j:=p) J J λL x y z u v F m S=>?_
 repeat apply Ν
 refine W.draw (A:=[]) Ο mixed λak O=>?_;simp;(repeat (rw[Z1];simp[F,ax]));try rw[Z2];refine Zf (O _ _ ?_)
 refine W.back S [(0,.ms 0 n 0 n),(1,I a),(2,I b),(7,I (c:Nat)),(8,I (st:Nat))] Ω ?_;clear F S m u v L x y z;obtain⟨T,ay⟩:=Ε (Go.Sort.swp e c p);have am:T.size=n:=by rw[ay];exact swp_size ab c p
 rw[<-ay] at h ⊢;have aI:=Qt (a:=a) (b:=c) J J;obtain⟨Ρ,P⟩:=Ε (if c-a>=2 then Go.Sort.shiftDown (Go.Sort.ltInt) p T else T);rw[<-P] at h;have an:Ρ.size=n:=by rw[P];split;exact BD (Go.Sort.ltInt) p T am;exact am
 refine Ι aI ?_;refine W.upto [(0,.ms 0 n 0 n),(1,I a),(2,I b),(7,I (c:Nat)),(8,I (st:Nat))] [.cells 3 1 ((Ρ).toList.map I)] ?_ ?_
 .clear h;by_cases Z:2<=c-a
  .rw[if_pos Z] at P;refine Ζ (by simp;omega) ?_;refine Ι ax ?_;subst P;refine W.iter (λq:Nat×Array (Int)=>q.1<=p/\q.2.size=n/\Go.Sort.shiftDown (Go.Sort.ltInt) q.1 q.2=Go.Sort.shiftDown (Go.Sort.ltInt) p T) (λq=>[(0,.ms 0 n 0 n),(1,I a),(2,I b),(7,I (c:Nat)),(8,I (st:Nat)),(9,I (q.1:Nat))]) (λq=>[.cells 3 1 ((q.2).toList.map I)]) (λq=>q.1) (p,T) ⟨Z6 _,am,U⟩ U Ω (λq B Y=>?_);obtain⟨j,f⟩:=q;obtain⟨ao,Q,w⟩:=B;simp only at ao Q w;refine W.to (σ':=[.cells 3 1 ((f).toList.map I)]) (env':=[(0,.ms 0 n 0 n),(1,I a),(2,I b),(7,I (c:Nat)),(8,I (st:Nat)),(9,I (j:Nat))]) ?_ U Ω;by_cases C:1<=j
   .have g:(1:Int)<=(j:Int):=J
    refine Ι g ?_;refine Ζ Ω ?_;obtain⟨q,B⟩:=Ε (j-1);have V:i64.wrap ((j:Int)-1)=(q:Int):=by rw[i64_in _ J];omega
    have aa:i64.wrap ((j:Int)-1)=(q:Int):=V
    have o:j<n:=J
    have t:q<n:=J;obtain⟨L,x,y,m,u,v,E,⟨H,K⟩,⟨M,N⟩,S,aJ,ad⟩:=TN I Q o t;have D:Go.Sort.shiftDown (Go.Sort.ltInt) j f=if(!Go.Sort.ltInt x y)=true then f else Go.Sort.shiftDown (Go.Sort.ltInt) q (Go.Sort.swp f j q):=by
     obtain rfl:j=q+1:=J;rw[Go.Sort.shiftDown,u,v]
    refine W.to (σ':=[.cells 3 1 L]) (env':=[(0,.ms 0 n 0 n),(1,I a),(2,I b),(7,I (c:Nat)),(8,I (st:Nat)),(9,I (j:Nat))]) ?_ (by rw[m]) Ω;clear u v
    repeat apply Ν
    refine W.draw (A:=[]) Ο mixed λak O=>V8 (Υ V (Υ E (Υ H (Υ K (Υ M (Υ N (Υ o t))))))) ?_;refine Zc (Κ.p (SX x y) (ZN.refl _) Ω Ω) ?_;simp;(repeat (rw[Z1];simp));try rw[Z2]
    refine Zf (O _ _ ?_);by_cases l:x<y
    .refine Η (by simp[l]) ?_;refine W.to (σ':=[.cells 3 1 L]) (env':=[(0,.ms 0 n 0 n),(1,I a),(2,I b),(7,I (c:Nat)),(8,I (st:Nat)),(9,I (j:Nat))]) ?_ U Ω
     repeat apply Ν
     refine XJ (Υ V (Υ E (Υ H (Υ K (Υ M (Υ N (Υ ad (Υ o t)))))))) ?_;refine Ι aa ?_;exact W.to (Y (q,Go.Sort.swp f j q) ⟨J,swp_size Q j q,by rw[<-w,D];simp[l,Go.Sort.ltInt]⟩ Zy) (by rw[S]) (by simp[aa])
    .refine Ζ (by simp[l]) ?_;refine W.exit U ?_;exact W.stop ⟨U,by rw[<-m,<-w,D];simp[l,Go.Sort.ltInt],Ω⟩
   .have g:¬(1:Int)<=(j:Int):=J
    refine Ι g ?_;refine Η Ω ?_;refine W.exit U ?_;have e:Go.Sort.shiftDown (Go.Sort.ltInt) j f=f:=by
     obtain rfl:j=0:=J;rfl
    exact W.stop ⟨U,by rw[<-w,e],Ω⟩
  .rw[if_neg Z] at P;refine Η (by simp;omega) ?_;refine W.skip ?_;exact W.stop ⟨U,by rw[P],Ω⟩
 clear P;have aK:=Qt (a:=c) (b:=b) J J;have aL:=X3 (i:=c) J;have az:=X3 (i:=st) J;obtain⟨ap,X⟩:=Ε (if b-c>=2 then Go.Sort.shiftUp (Go.Sort.ltInt) b (c+1) Ρ else Ρ);rw[<-X] at h;have aM:ap.size=n:=by rw[X];split;exact BC (Go.Sort.ltInt) (b-(c+1)) (c+1) Ρ (Z6 _) an;exact an
 refine Ι aK ?_;refine W.upto [(0,.ms 0 n 0 n),(1,I a),(2,I b),(7,I (c:Nat)),(8,I (st:Nat))] [.cells 3 1 ((ap).toList.map I)] ?_ ?_
 .clear h;by_cases Z:2<=b-c
  .rw[if_pos Z] at X;refine Ζ (by simp;omega) ?_;refine Ι aL ?_;subst X;refine W.iter (λq:Nat×Array (Int)=>c+1<=q.1/\q.1<=b/\q.2.size=n/\Go.Sort.shiftUp (Go.Sort.ltInt) b q.1 q.2=Go.Sort.shiftUp (Go.Sort.ltInt) b (c+1) Ρ) (λq=>[(0,.ms 0 n 0 n),(1,I a),(2,I b),(7,I (c:Nat)),(8,I (st:Nat)),(10,I (q.1:Nat))]) (λq=>[.cells 3 1 ((q.2).toList.map I)]) (λq=>b-q.1) (c+1,Ρ) ⟨Z6 _,J,an,U⟩ U Ω (λq B Y=>?_);obtain⟨j,f⟩:=q;obtain⟨ao,aN,Q,w⟩:=B;simp only at ao aN Q w;refine W.to (σ':=[.cells 3 1 ((f).toList.map I)]) (env':=[(0,.ms 0 n 0 n),(1,I a),(2,I b),(7,I (c:Nat)),(8,I (st:Nat)),(10,I (j:Nat))]) ?_ U Ω;by_cases C:j<b
   .have g:(j:Int)<(b:Int):=J
    refine Ι g ?_;refine Ζ Ω ?_;obtain⟨q,B⟩:=Ε (j-1);have V:i64.wrap ((j:Int)-1)=(q:Int):=by rw[i64_in _ J];omega
    have aa:=X3 (i:=j) J
    have o:j<n:=J
    have t:q<n:=J;obtain⟨L,x,y,m,u,v,E,⟨H,K⟩,⟨M,N⟩,S,aJ,ad⟩:=TN I Q o t;have D:Go.Sort.shiftUp (Go.Sort.ltInt) b j f=if(!Go.Sort.ltInt x y)=true then f else Go.Sort.shiftUp (Go.Sort.ltInt) b (j+1) (Go.Sort.swp f j q):=by
     rw[Go.Sort.shiftUp,if_pos C,<-B,u,v]
    refine W.to (σ':=[.cells 3 1 L]) (env':=[(0,.ms 0 n 0 n),(1,I a),(2,I b),(7,I (c:Nat)),(8,I (st:Nat)),(10,I (j:Nat))]) ?_ (by rw[m]) Ω;clear u v
    repeat apply Ν
    refine W.draw (A:=[]) Ο mixed λak O=>V8 (Υ V (Υ E (Υ H (Υ K (Υ M (Υ N (Υ o t))))))) ?_;refine Zc (Κ.p (SX x y) (ZN.refl _) Ω Ω) ?_;simp;(repeat (rw[Z1];simp));try rw[Z2]
    refine Zf (O _ _ ?_);by_cases l:x<y
    .refine Η (by simp[l]) ?_;refine W.to (σ':=[.cells 3 1 L]) (env':=[(0,.ms 0 n 0 n),(1,I a),(2,I b),(7,I (c:Nat)),(8,I (st:Nat)),(10,I (j:Nat))]) ?_ U Ω
     repeat apply Ν
     refine XJ (Υ V (Υ E (Υ H (Υ K (Υ M (Υ N (Υ ad (Υ o t)))))))) ?_;refine Ι aa ?_;exact W.to (Y (j+1,Go.Sort.swp f j q) ⟨J,J,swp_size Q j q,by rw[<-w,D];simp[l,Go.Sort.ltInt]⟩ Zy) (by rw[S]) (by simp[aa])
    .refine Ζ (by simp[l]) ?_;refine W.exit U ?_;exact W.stop ⟨U,by rw[<-m,<-w,D];simp[l,Go.Sort.ltInt],Ω⟩
   .have g:¬(j:Int)<(b:Int):=J
    refine Ι g ?_;refine Η Ω ?_;refine W.exit U ?_;have e:Go.Sort.shiftUp (Go.Sort.ltInt) b j f=f:=by rw[Go.Sort.shiftUp,if_neg C]
    exact W.stop ⟨U,by rw[<-w,e],Ω⟩
  .rw[if_neg Z] at X;refine Η (by simp;omega) ?_;refine W.skip ?_;exact W.stop ⟨U,by rw[X],Ω⟩
 refine Ι az ?_;exact W.to (aB (st+1,c,ap) ⟨Zy,Zy,Zy,aM,by simp only;rw[show 5-(st+1)=4-st by omega];exact h⟩ Zy) U (by simp[az])
theorem rz (n:Nat) (bi:n<256)  : ∀(k:Nat) (d:Array (Int)) (a b c:Nat),d.size=n->b-a<=k->a<=b->b<=n->c<2 ^ 40->Go.Sort.Below (Go.Sort.ltInt) a b d->
  Μ prog 157 [.ms 0 n 0 n,I a,I b,I c] [.cells 3 1 ((d).toList.map I)] (λr s=>r=.ZY []/\s=[.cells 3 1 ((Go.Sort.pdq (Go.Sort.ltInt) d a b c true true).toList.map I)]) (λ_ _=>False):=by
 intro k
 induction k using Nat.strongRecOn with
 | _ k aS=>
 intro d a b c a8 aq ad w ar ae;refine Μ.body Ο func157 U U ntmps157 U U Ω ?_;obtain⟨R,aB⟩:=ZG (Go.Sort.pdq (Go.Sort.ltInt) d a b c true true);rw[aB];refine Χ ?_;refine W.iter (λq:BI (Int)=>q.e.size=n/\q.a<=q.b/\q.b<=n/\q.b-q.a<=k/\q.lim<2 ^ 40/\Go.Sort.Below (Go.Sort.ltInt) q.a q.b q.e/\Go.Sort.pdq (Go.Sort.ltInt) q.e q.a q.b q.lim q.wb q.wp=R) (λq=>[(0,.ms 0 n 0 n),(1,I (q.a:Nat)),(2,I (q.b:Nat)),(3,I (q.lim:Nat)),(8,ν q.wb),(9,ν q.wp)]) (λq=>[.cells 3 1 ((q.e).toList.map I)]) (λq=>q.b-q.a) ⟨a,b,c,true,true,d⟩ ⟨a8,ad,w,aq,ar,ae,aB⟩ U Ω (λq a9 aC=>?_);clear aB ae ar w ad aq;obtain⟨a,b,c,wb,wp,e⟩:=q;obtain⟨af,ad,w,aq,ar,ae,Z⟩:=a9;simp only at af ad w aq ar ae Z;obtain⟨l,aD⟩:=Ε (b-a);have w1:i64.wrap ((b:Int)-(a:Int))=(l:Int):=by rw[i64_in _ J];omega
 refine W.to (σ':=[.cells 3 1 ((e).toList.map I)]) (env':=[(0,.ms 0 n 0 n),(1,I (a:Nat)),(2,I (b:Nat)),(3,I (c:Nat)),(8,ν wb),(9,ν wp)]) ?_ U Ω;by_cases aa:b-a<=12
 .have g:(l:Int)<=12:=J
  refine Ι (Υ w1 g) ?_;refine Ζ Ω ?_;refine Z8 λK j=>?_;refine Μ.call (first:=[]) (captured:=[]) ((DK e n a b af ad w J).mono (λr s ⟨o,t⟩=>?_) (λ_ _ h=>h.elim));subst o;subst t;simp;(repeat (rw[Θ];simp));apply j;rw[Go.Sort.pdq_small aa] at Z;exact W.ret ⟨_,U,U,by rw[<-Z]⟩
 have g:¬(l:Int)<=12:=J;refine Ι (Υ w1 g) ?_;refine Η Ω ?_;by_cases T:c=0
 .have aE:(c:Int)=0:=J
  refine Ι aE ?_;refine Ζ (by simp[T]) ?_;refine Z8 λK j=>?_;refine Μ.call (first:=[]) (captured:=[]) ((rD e n a b af J J w).mono (λr s ⟨o,t⟩=>?_) (λ_ _ h=>h.elim));subst o;subst t;simp;(repeat (rw[Θ];simp));apply j;rw[Go.Sort.pdq_heap aa T] at Z;exact W.ret ⟨_,U,U,by rw[<-Z]⟩
 have aE:¬(c:Int)=0:=J;refine Ι aE ?_;refine Η (by simp[T]) ?_;refine Χ ?_;have F:=Go.Sort.rd_facts (limit:=c) (wb:=wb) (wp:=wp) Go.Sort.swo_ltInt Go.Sort.partialInsertionSort_holds Go.Sort.reverseRange_holds (by omega:a<b) J ae;have aT:=Go.Sort.rd_lim_le (lt:=(Go.Sort.ltInt)) (d:=e) (a:=a) (b:=b) (limit:=c) (wb:=wb) (wp:=wp);have au:=λh:wb=false=>show(Go.Sort.rd (Go.Sort.ltInt) e a b c wb wp).d1=Go.Sort.breakPatterns e a b/\(Go.Sort.rd (Go.Sort.ltInt) e a b c wb wp).lim=c-1 by subst h;exact Go.Sort.rd_false
 have av:=λh:wb=true=>show(Go.Sort.rd (Go.Sort.ltInt) e a b c wb wp).d1=e/\(Go.Sort.rd (Go.Sort.ltInt) e a b c wb wp).lim=c by subst h;exact Go.Sort.rd_true
 have aw:=Go.Sort.rd_c (lt:=(Go.Sort.ltInt)) (d:=e) (a:=a) (b:=b) (limit:=c) (wb:=wb) (wp:=wp)
 have Fd:=Go.Sort.rd_dec (lt:=(Go.Sort.ltInt)) (d:=e) (a:=a) (b:=b) (limit:=c) (wb:=wb) (wp:=wp)
 have Fn:=Go.Sort.rd_not (lt:=(Go.Sort.ltInt)) (d:=e) (a:=a) (b:=b) (limit:=c) (wb:=wb) (wp:=wp)
 have ag:=Go.Sort.rd_pi_yes (lt:=(Go.Sort.ltInt)) (d:=e) (a:=a) (b:=b) (limit:=c) (wb:=wb) (wp:=wp)
 have ah:=Go.Sort.rd_pi_no (lt:=(Go.Sort.ltInt)) (d:=e) (a:=a) (b:=b) (limit:=c) (wb:=wb) (wp:=wp)
 have ai:=Go.Sort.pdq_done (lt:=(Go.Sort.ltInt)) (d:=e) (wb:=wb) (wp:=wp) aa T
 have H:=Go.Sort.pdq_eq (lt:=(Go.Sort.ltInt)) (d:=e) (wb:=wb) (wp:=wp) aa T
 have B:=Go.Sort.pdq_left (lt:=(Go.Sort.ltInt)) (d:=e) (wb:=wb) (wp:=wp) aa T
 have C:=Go.Sort.pdq_right (lt:=(Go.Sort.ltInt)) (d:=e) (wb:=wb) (wp:=wp) aa T;rw[Z] at ai H B C;obtain⟨r,aU⟩:=ZG (Go.Sort.rd (Go.Sort.ltInt) e a b c wb wp);rw[aU] at F aT au av aw Fd Fn ag ah ai H B C;clear aU;obtain⟨d1,D,⟨aF,aG⟩,d2,M,aj,d3,done⟩:=r;simp only at F aT au av aw Fd Fn ag ah ai H B C;obtain⟨aH,bj,bk,aI,bl,O,Q,aV⟩:=F;rw[af] at aH aI Q;refine W.upto [(0,.ms 0 n 0 n),(1,I (a:Nat)),(2,I (b:Nat)),(3,I (D:Nat)),(8,ν wb),(9,ν wp),(10,I (l:Nat))] [.cells 3 1 ((d1).toList.map I)] ?_ ?_
 .cases wb with
  | false=>
   obtain⟨f1,f2⟩:=au U;refine Ζ U ?_;refine Z8 λK j=>?_;refine Μ.call (first:=[]) (captured:=[]) ((rA e n a b af J J J w).mono (λr s ⟨o,t⟩=>?_) (λ_ _ h=>h.elim));subst o;subst t;simp;(repeat (rw[Θ];simp));apply j;have ak:=V6 (i:=c) J J;refine Ts ak ?_;exact W.stop ⟨U,by rw[f1],by simp[f2]⟩
  | true=>
   obtain⟨f1,f2⟩:=av U;refine Η U ?_;refine W.skip ?_;exact W.stop ⟨U,by rw[f1],by simp[f2]⟩
 have aJ:=rB d1 n a b aH J J w;rw[<-aw] at aJ;simp only at aJ;refine Z8 λK j=>?_;refine Μ.call (first:=[]) (captured:=[]) ((aJ).mono (λr s ⟨o,t⟩=>?_) (λ_ _ h=>h.elim));subst o;subst t;simp;(repeat (rw[Θ];simp));apply j;refine W.to (σ':=[.cells 3 1 ((d1).toList.map I)]) (env':=[(0,.ms 0 n 0 n),(1,I (a:Nat)),(2,I (b:Nat)),(3,I (D:Nat)),(8,ν wb),(9,ν wp),(10,I (l:Nat)),(11,I (aF:Nat)),(12,I (RP aG))]) ?_ U Ω;refine Χ ?_;refine W.upto [(0,.ms 0 n 0 n),(1,I (a:Nat)),(2,I (b:Nat)),(3,I (D:Nat)),(8,ν wb),(9,ν wp),(10,I (l:Nat)),(11,I (M:Nat)),(12,I (RP aj))] [.cells 3 1 ((d2).toList.map I)] ?_ ?_
 .by_cases hd:aG=.decreasing
  .obtain⟨f1,f2,f3⟩:=Fd hd;subst hd;refine Ζ U ?_;refine Z8 λK j=>?_;refine Μ.call (first:=[]) (captured:=[]) ((rC d1 n a b aH J J w).mono (λr s ⟨o,t⟩=>?_) (λ_ _ h=>h.elim));subst o;subst t;simp;(repeat (rw[Θ];simp));apply j;have ak:=V6 (i:=b) J J;have a':=Qt (a:=a) (b:=aF) J J;have aW:=Qt (a:=aF-a) (b:=b-1) J J;rw[<-f2] at aW;refine W.seq ?_;refine Ts (Υ ak (Υ a' aW)) ?_;refine Xh ?_;exact W.stop ⟨U,by rw[f1],by simp[f3,RP]⟩
  .obtain⟨f1,f2,f3⟩:=Fn hd;refine Η (by cases aG with
    | decreasing=>exact absurd rfl hd
    | unknown=>rfl
    | increasing=>rfl) ?_
   refine W.skip ?_;exact W.stop ⟨U,by rw[f1],by simp[f2,f3]⟩
 repeat apply Ν
 refine W.Ry (A:=[]) Ο [(68,ν (wb&&wp&&decide (aj=.increasing))),(0,.ms 0 n 0 n),(1,I (a:Nat)),(2,I (b:Nat)),(3,I (D:Nat)),(8,ν wb),(9,ν wp),(10,I (l:Nat)),(11,I (M:Nat))] ?_ (by cases wb<;>cases wp<;>cases aj<;>simp[Θ,Sy,RP])
 repeat apply Ν
 rcases KN done with S|S
 .cases al:(wb&&wp&&decide (aj=.increasing)) with
  | true=>
   have f:=ag al;refine Ζ U ?_;have E:=Bd d2 n a b aI J J w;rw[<-f] at E;simp only[S] at E;refine Z8 λK j=>?_;refine Μ.call (first:=[]) (captured:=[]) ((E).mono (λr s ⟨o,t⟩=>?_) (λ_ _ h=>h.elim));subst o;subst t;simp;(repeat (rw[Θ];simp));apply j;refine Ζ U ?_;exact W.ret ⟨_,U,U,by rw[ai S]⟩
  | false=>
   have f:=(Prod.mk.inj (ah al)).2;rw[S] at f;cases f
 refine W.upto [(0,.ms 0 n 0 n),(1,I (a:Nat)),(2,I (b:Nat)),(3,I (D:Nat)),(8,ν wb),(9,ν wp),(10,I (l:Nat)),(11,I (M:Nat))] [.cells 3 1 ((d3).toList.map I)] ?_ ?_
 .cases al:(wb&&wp&&decide (aj=.increasing)) with
  | true=>
   have f:=ag al;refine Ζ U ?_;have E:=Bd d2 n a b aI J J w;rw[<-f] at E;simp only[S] at E;refine Z8 λK j=>?_;refine Μ.call (first:=[]) (captured:=[]) ((E).mono (λr s ⟨o,t⟩=>?_) (λ_ _ h=>h.elim));subst o;subst t;simp;(repeat (rw[Θ];simp));apply j;refine Η U ?_;refine W.skip ?_;exact W.stop ⟨U,U,Ω⟩
  | false=>
   have f1:=(Prod.mk.inj (ah al)).1;refine Η U ?_;refine W.skip ?_;exact W.stop ⟨U,by rw[f1],Ω⟩
 clear ai ag ah Fd Fn aw au av;have H:=H S;have B:=B S;have C:=C S;obtain⟨P,V⟩:=ZG ((decide (a > 0)&&!Go.Sort.ltInt d3[a-1]! d3[M]!):Bool);rw[V] at H B C
 repeat apply Ν
 refine W.Pf (A:=[]) Ο mixed [(87,ν P),(0,.ms 0 n 0 n),(1,I (a:Nat)),(2,I (b:Nat)),(3,I (D:Nat)),(8,ν wb),(9,ν wp),(10,I (l:Nat)),(11,I (M:Nat))] ?_ (by
  by_cases aK:0<a
  .obtain⟨p,ba⟩:=Ε (a-1);have aX:p<n:=J;have aY:M<n:=J;obtain⟨L,x,y,bb,N,aZ,aD,⟨bc,bd⟩,⟨be,bf⟩,-,-⟩:=TN I Q aX aY;have aL:P = !Go.Sort.ltInt x y:=by rw[<-V,<-ba,N,aZ];simp[aK]
   have aM:(0:Int)<(a:Int):=J
   have ak:i64.wrap ((a:Int)-1)=(p:Int):=by rw[i64_in _ J];omega
   rw[bb];clear N aZ;simp;(repeat (rw[Z1];simp[aK,aM,ak,aD,bc,bd,be,bf,aX,aY]));(try rw[Z2]);refine Zc (Κ.p (SX x y) (ZN.refl _) Ω Ω) ?_;simp;(repeat (rw[Z1];simp));(try rw[Z2]);refine⟨Yq Zr,?_⟩;simp[aL,Go.Sort.ltInt]
  .have aL:P=false:=by rw[<-V];simp[aK]
   have aM:a=0:=J;subst aM;simp;(repeat (rw[Z1];simp));(try rw[Z2]);refine⟨Yq Zr,?_⟩;simp[aL])
 repeat apply Ν
 rcases KN P with X|X
 .refine Ζ (by simp[X]) ?_;rw[X] at V;simp only[VO,decide_eq_true_eq,KC] at V;obtain⟨⟨mid,d4⟩,N⟩:∃r,Go.Sort.partitionEqual (Go.Sort.ltInt) d3 a b M=r:=⟨_,U⟩;obtain⟨Y,am,aN,ax,-⟩:=Go.Sort.round_eq Go.Sort.swo_ltInt (Go.Sort.partitionEqual_holds _) V.1 O.1 O.2 (by rw[Q];exact w) aV V.2 N;have H:=H X;rw[N] at H;have H:=H ⟨Y,am⟩;simp only at H;have E:=rE d3 n a b M Q J O.1 O.2 w;rw[N] at E;simp only at E;refine Z8 λK j=>?_;refine Μ.call (first:=[]) (captured:=[]) ((E).mono (λr s ⟨o,t⟩=>?_) (λ_ _ h=>h.elim));subst o;subst t;simp;(repeat (rw[Θ];simp));apply j;refine Χ ?_;refine W.exit U ?_;exact W.to (aC ⟨mid,b,D,wb,wp,d4⟩ ⟨aN.trans Q,am,w,Zy,Zy,ax,H.symm⟩ Zy) U Ω
 refine Η (by simp[X]) ?_;obtain⟨⟨mid,a0,d4⟩,N⟩:∃r,Go.Sort.partition (Go.Sort.ltInt) d3 a b M=r:=⟨_,U⟩;obtain⟨Y,am,aN,ax,aO,bg,a1⟩:=Go.Sort.round_part Go.Sort.swo_ltInt (Go.Sort.partition_holds _) O.1 O.2 (by rw[Q];exact w) aV N;have B:=B X;have C:=C X;rw[N] at B C;have B:=B ⟨Y,am⟩;have C:=C ⟨Y,am⟩;simp only at B C;have E:=rF d3 n a b M Q J O.1 O.2 w;rw[N] at E;simp only at E;have ay:d4.size=n:=aN.trans Q;obtain⟨u,bh⟩:=Ε (mid-a);obtain⟨v,hv⟩:=Ε (b-mid);obtain⟨aP,a2⟩:=Ε (l / 8);obtain⟨an,az⟩:=Ε (mid+1);have a3:i64.wrap ((mid:Int)-(a:Int))=(u:Int):=by rw[i64_in _ J];omega
 have a4:i64.wrap ((b:Int)-(mid:Int))=(v:Int):=by rw[i64_in _ J];omega
 have a5:i64.wrap ((l:Int) / 8)=(aP:Int):=by rw[a2];exact OO (m:=8) J
 have a6:i64.wrap ((mid:Int)+1)=(an:Int):=by rw[i64_in _ J];omega
 rw[<-bh,<-hv,<-aD,<-a2,<-az] at B C;refine Z8 λK j=>?_;refine Μ.call (first:=[]) (captured:=[]) ((E).mono (λr s ⟨o,t⟩=>?_) (λ_ _ h=>h.elim));subst o;subst t;simp;(repeat (rw[Θ];simp));apply j;by_cases a7:u<v
 .have aQ:(u:Int)<(v:Int):=J
  refine Ι (Υ a3 (Υ a4 (Υ a5 @aQ))) ?_;refine Ζ Ω ?_;obtain⟨ab,aA⟩:=Go.Sort.pdq_sorts (Go.Sort.ltInt) Go.Sort.swo_ltInt d4 a mid D true true Y J ax;have ao:=aS (mid-a) J d4 a mid D ay (Z6 _) Y J J ax;have B:=B a7;obtain⟨B',-⟩:=bg _ ab aA;have ap:=ab.1.trans ay;obtain⟨Ρ,aR⟩:=ZG (Go.Sort.pdq (Go.Sort.ltInt) d4 a mid D true true);rw[aR] at ao B B' ap;refine Z8 λK j=>?_;apply j;refine Z8 λK j=>?_;refine Μ.call (first:=[]) (captured:=[]) ((ao).mono (λr s ⟨o,t⟩=>?_) (λ_ _ h=>h.elim));subst o;subst t;simp;(repeat (rw[Θ];simp));apply j;refine Ι a6 ?_;exact W.to (aC ⟨an,b,D,decide (u>=aP),a0,Ρ⟩ ⟨ap,Zy,w,Zy,Zy,by simp only;rw[az];exact B',B.symm⟩ Zy) U Ω
 .have aQ:¬(u:Int)<(v:Int):=J
  refine Ι (Υ a3 (Υ a4 (Υ a5 @aQ))) ?_;refine Η Ω ?_;obtain⟨ab,aA⟩:=Go.Sort.pdq_sorts (Go.Sort.ltInt) Go.Sort.swo_ltInt d4 (mid+1) b D true true J J aO;rw[<-az] at ab aA aO;have ao:=aS (b-an) J d4 an b D ay (Z6 _) J w J aO;have C:=C a7;rw[<-az] at a1;obtain⟨B',-⟩:=a1 _ ab aA;have ap:=ab.1.trans ay;obtain⟨Ρ,aR⟩:=ZG (Go.Sort.pdq (Go.Sort.ltInt) d4 an b D true true);rw[aR] at ao C B' ap;refine Z8 λK j=>?_;apply j;refine XD a6 λK j=>?_;refine Μ.call (first:=[]) (captured:=[]) ((ao).mono (λr s ⟨o,t⟩=>?_) (λ_ _ h=>h.elim));subst o;subst t;simp;(repeat (rw[Θ];simp));apply j;refine Χ ?_;exact W.to (aC ⟨a,mid,D,decide (v>=aP),a0,Ρ⟩ ⟨ap,Y,Zy,Zy,Zy,B',C.symm⟩ Zy) U Ω
theorem FD:N5 255:=λl p=>by
 obtain⟨n,a⟩:=Ε l.length;have t:Go.Sort.bitsLen n<=8:=(Go.Sort.bitsLen_le_iff n 8).2 J;have h:=rz n J n l.toArray 0 n (Go.Sort.bitsLen n) (by simp[a]) J J (Z6 _) J (.inl U);have b:=FN Go.Sort.swo_ltInt (λx y c f=>by simp[Go.Sort.ltInt] at c f;omega) l;rw[<-a] at b;have e:(λx y:Int=>!Go.Sort.ltInt y x)=λx y=>decide (x<=y):=by
  funext x y
  show(!decide (y<x))=decide (x<=y);by_cases q:y<x
  .rw[decide_eq_true q,decide_eq_false J];rfl
  .rw[decide_eq_false q,decide_eq_true J];rfl
 rw[b,e] at h;rw[<-a];clear b e;have u:(l.map I).length=n:=by rw[X2,a]
 have g:l.toArray.toList=l:=rfl;rw[g] at h;refine Μ.body Ο func132 U U ntmps132 U U Ω ?_;have i:=Yi (show n<2 ^ 62 by omega);have Ρ:u64.wrap (n:Int)=n:=Qu J;have j:=a.symm;refine Ι j ?_;(repeat apply Ν);refine YZ λv k=>?_;simp;(repeat (rw[Θ];simp[i,Ρ]));refine Κ.d (QR n J) (Z9 ?_);refine Μ.call (first:=[]) (captured:=[]) (h.mono (λr s ⟨m,o⟩=>?_) (λ_ _ h=>h.elim));subst m;subst o;simp;(repeat (rw[Θ];simp));apply k;exact W.nil ⟨_,U,U,U⟩
theorem ry {s:ω} {p:Int×Int}:∀{n:Nat},n<=s.cells.length->0<WG (X6 s p).cells (-1) n->∀c,c<n->0<(Wk s p c).length:=by
 intro n
 induction n with
 | zero=>intro _ _ c a;omega
 | succ n b=>
  intro d h c a;rw[rY p J] at h;by_cases e:c=n
  .subst e;exact Nat.pos_of_mul_pos_left h
  .exact b J (Nat.pos_of_mul_pos_right h) c J
theorem Mq {s:ω} {f:Found} (d:f∈Y' s):f.cells.length=s.cells.length/\∀c,c<s.cells.length->∃k,k<3/\f=X6 s (Yt k)/\f.cells[c]?=some (Wk s (Yt k) c)/\0<(Wk s (Yt k) c).length:=by
 obtain⟨k,e,a,rfl⟩:=H5.1 d;refine⟨by simp[X6],λc b=>⟨k,e,U,by simp[X6,b],?_⟩⟩;rw[Bx] at a;exact ry (Z6 _) a c b
theorem Bc {s:ω} {p r:Int×Int} {c:Nat} (h:r∈Wk s p c):(-1<=r.1/\r.1<s.χ.length)/\(-1<=r.2/\r.2<s.χ.length):=Bg.1 (TG.1 h).1
theorem Bb {s:ω} {c:Nat} {lower:Bool} {x:Int} (e:c<s.cells.length):x∈X4 (Y' s) c lower↔∃f∈Y' s,∃r∈(f.cells[c]?).getD [],x=WR lower r:=by
 unfold X4 Pa;constructor
 .intro h;obtain⟨f,a,d⟩:=Pv.1 h;obtain⟨r,b,rfl⟩:=YO.1 d;exact⟨f,a,r,b,U⟩
 .rintro⟨f,a,r,b,rfl⟩;exact Pv.2 ⟨f,a,YO.2 ⟨r,b,U⟩⟩
theorem Ba {s:ω} {c:Nat} {lower:Bool} (a:c<s.cells.length) {x:Int} (h:x∈X4 (Y' s) c lower):-1<=x/\x<s.χ.length:=by
 obtain⟨f,d,r,b,rfl⟩:=(Bb a).1 h;obtain⟨k,_,_,e,_⟩:=(Mq d).2 c a;rw[e] at b;have:=Bc b;unfold WR;cases lower<;>simp<;>omega
theorem FC {s:ω} {c:Nat} {lower:Bool} (a:c<s.cells.length) (d:Y' s≠[]):X4 (Y' s) c lower≠[]:=by
 obtain⟨f,b⟩:=HV _ d;obtain⟨k,_,_,e,g⟩:=(Mq b).2 c a;obtain⟨r,i⟩:=HV _ (RN.1 g);have:WR lower r∈X4 (Y' s) c lower:=(Bb a).2 ⟨f,b,r,by rw[e];exact i,U⟩;intro h;rw[h] at this;cases this
theorem A' {s:ω} (h:W0 s) (c:Nat) (lower:Bool) (d:c<s.cells.length):(X4 (Y' s) c lower).length<=147:=by
 have i:∀F:Zj,(∀f∈F,f∈Y' s)->(X4 F c lower).length<=F.length*49:=by
  intro F
  induction F with
  | nil=>intro _;simp[X4]
  | cons f F j=>
   intro b;have l:=j λg a=>b g (by simp[a]);obtain⟨k,_,_,a,_⟩:=(Mq (b f Ω)).2 c d;have m:=FM h (Yt k) c;have e:X4 (f::F) c lower=Pa f c lower++X4 F c lower:=rfl;rw[e,Vz,List.length_cons];have:(Pa f c lower).length<=49:=by unfold Pa;rw[a];simpa using m
   omega
 have l:=i (Y' s) λ_ h=>h
 have:=PB s;omega
theorem Mp {s:ω} (h:W0 s) (d:Y' s≠[]) (lower:Bool):NM s (Y' s) lower 255 where
 Tr:=Qp (PB s) ZT
 cells f b:=⟨(Mq b).1,λc a=>by
  obtain⟨k,_,_,rfl⟩:=H5.1 b;have:=H6 h _ c a;omega⟩
 some c a:=⟨FC a d,by have:=A' h c lower a;omega⟩
theorem A9 {c:Type} [DecidableEq c] {x:c}:∀{l:List c} {a:c},x∈Vj a l\/x=a↔x∈l\/x=a:=by
 intro l
 induction l with
 | nil=>intro a;simp[Vj]
 | cons b l d=>
  intro a;unfold Vj;split
  .rename_i h;have h:b=a:=by simpa using h
   subst h;rw[d];simp only[Y9];exact⟨λh=>h.elim (λh=>.inl (.inr h)) .inr,λh=>h.elim (λh=>h.elim .inr .inl) .inr⟩
  .have:=d (a:=b);simp only[Y9] at this ⊢;constructor
   .rintro((h|h)|h)
    .exact .inl (.inl h)
    .rcases this.1 (.inl h) with h|h
     .exact .inl (.inr h)
     .exact .inl (.inl h)
    .exact .inr h
   .rintro((h|h)|h)
    .exact .inl (.inl h)
    .rcases this.2 (.inl h) with h|h
     .exact .inl (.inr h)
     .exact .inl (.inl h)
    .exact .inr h
theorem FB {b:Type} [DecidableEq b] {x:b} {l:List b}:x∈Yg l↔x∈l:=by
 cases l with
 | nil=>exact Iff.rfl
 | cons a l=>
  show x∈a::Vj a l↔_
  have:=A9 (x:=x) (l:=l) (a:=a);simp only[Y9];constructor
  .rintro(h|h)
   .exact .inl h
   .rcases this.1 (.inl h) with h|h
    .exact .inr h
    .exact .inl h
  .rintro(h|h)
   .exact .inl h
   .rcases this.2 (.inl h) with h|h
    .exact .inr h
    .exact .inl h
theorem rv:∀{l:ZZ} {a:Int},(a::l).Pairwise (·<=·)->(a::Vj a l).Pairwise (· < ·):=by
 intro l
 induction l with
 | nil=>intro a _;simp[Vj]
 | cons b l d=>
  intro a h;obtain⟨g,e⟩:=OG.1 h;have i:=g b Ω;unfold Vj;split
  .rename_i q;have q:b=a:=by simpa using q
   subst q;exact d e
  .rename_i q;have q:b≠a:=by simpa using q
   have f:=d e;refine OG.2 ⟨λy c=>?_,f⟩;rcases Y9.1 c with rfl|c
   .omega
   .have:=(OG.1 f).1 y c;omega
theorem ru {l:ZZ} (h:l.Pairwise (·<=·)):(Yg l).Pairwise (· < ·):=by
 cases l with
 | nil=>exact .nil
 | cons a l=>exact rv h
theorem A8 {n:Nat}:∀{l:ZZ} {a:Int},l.Pairwise (· < ·)->(∀x∈l,a<=x/\x<a+n)->l.length<=n:=by
 induction n with
 | zero=>
  intro l a _ h;cases l with
  | nil=>simp
  | cons x l=>have:=h x Ω;omega
 | succ n c=>
  intro l a d h;cases l with
  | nil=>simp
  | cons x l=>
   obtain⟨e,f⟩:=OG.1 d;have g:=h x Ω;have:=c (a:=a+1) f λy b=>by have:=e y b;have:=h y (by simp[b]);omega
   simp only[List.length_cons];omega
theorem rr (l:ZZ):(TW l).Pairwise (·<=·):=by
 have:=KM (le:=λx y:Int=>decide (x<=y)) (λa b c d e=>by simp at d e ⊢;omega) (λa b=>by simp;omega) l;exact this.imp λh=>by simpa using h
theorem rq {x:Int} {l:ZZ}:x∈TW l↔x∈l:=(Mf _ _).mem_iff
theorem FA {F:Zj} {c:Nat} {lower:Bool} {x:Int}:x∈X0 F c lower↔x∈X4 F c lower:=by unfold X0;rw[FB,rq]
theorem A7 (F:Zj) (c:Nat) (lower:Bool):(X0 F c lower).Pairwise (· < ·):=ru (rr _)
theorem Fz {s:ω} {c:Nat} {lower:Bool} (a:c<s.cells.length) {x:Int} (h:x∈X0 (Y' s) c lower):-1<=x/\x<s.χ.length:=Ba a (FA.1 h)
theorem H3 {s:ω} {c:Nat} {lower:Bool} (b:c<s.cells.length):(X0 (Y' s) c lower).length<=s.χ.length+1:=
 A8 (a:=-1) (A7 _ _ _) λx h=>by have:=Fz b h;omega
theorem rp {s:ω} {c:Nat} {lower:Bool} (b:¬c<s.cells.length):X0 (Y' s) c lower=[]:=by
 have:X4 (Y' s) c lower=[]:=by
  refine List.flatMap_eq_nil_iff.2 λf a=>?_;unfold Pa;rw[Uc (by rw[(Mq a).1];omega)];rfl
 unfold X0;rw[this];simp[TW,Yg]
end Go.TL
namespace Go.TL
open Go.IntWalk (i64_in)
open Go.IntKind (i64 u64)
open Go.Proofs.Tryz
open Go.Conc
variable [ZP]
section
variable {P:Program} {T:ZR} {A:ο} {m nt:Nat} {k:Zz} {env env':Β} {σ:Ξ} {Z:XO} {E:Ya} {ops:ZC} {lo pu ids:ο}
def Re (ids:ο):Ψ->Bool
 | .Δ id _ _ _=>ids.contains id
 | .ms id _ _ _=>ids.contains id
 | _=>false
def seen (ids:ο) (σ:Ξ):List (Option Row):=ids.map λid=>σ[id]?
def KY (T:ZR) (A:ο) (env:Β) (o:Oper) (ids:ο) (σ:Ξ) (K:Ψ->Prop):Prop:=match o.op with
 | .load b x=>Re ids (ε env x)=true/\(Vt T A env o).XX (λ_=>False) ((SD T b σ (ε env x)).XX λa _=>K a)
 | .fieldAddr b x f=>Re ids (ε env x)=true/\(Vt T A env o).XX (λ_=>False) ((SC T b f σ (ε env x)).XX λa _=>K a)
 | .indexAddr b x c=>Re ids (ε env x)=true/\(Vt T A env o).XX (λ_=>False) ((SB T b σ (ε env x) (ε env c)).XX λa _=>K a)
 | _=>False
theorem A6 {o:Oper} {ids:ο} {K:Ψ->Prop}:KY T A env o ids σ K=match o.op with
 | .load b x=>Re ids (ε env x)=true/\(Vt T A env o).XX (λ_=>False) ((SD T b σ (ε env x)).XX λa _=>K a)
 | .fieldAddr b x f=>Re ids (ε env x)=true/\(Vt T A env o).XX (λ_=>False) ((SC T b f σ (ε env x)).XX λa _=>K a)
 | .indexAddr b x c=>Re ids (ε env x)=true/\(Vt T A env o).XX (λ_=>False) ((SB T b σ (ε env x) (ε env c)).XX λa _=>K a)
 | _=>False:=Xk rfl rfl
def TM (P:Program) (T:ZR) (A:ο) (nt:Nat) (ops:ZC) (lo pu ids:ο):ο->Β->Ξ->List Bool->(Β->Ξ->Prop)->Prop
 | [],env,σ,tags,K=>PZ (Tu lo pu) ops tags=true/\K env σ
 | i::is,env,σ,tags,K=>W3 ops[i]? λo=>Wz nt o=true/\W3 (Xx env ops o) λw=>
   V1 w (TM P T A nt ops lo pu ids is (Zn o env .Ze) σ (tags++[false]) K)
    (V1 (!lo.contains i) (KY T A env o ids σ λa=>TM P T A nt ops lo pu ids is (Zn o env a) σ (tags++[true]) K)
     (PW P T A env o σ (λa=>TM P T A nt ops lo pu ids is (Zn o env a) σ (tags++[false]) K) (λa σ'=>(pu.contains i=true->seen ids σ'=seen ids σ)/\TM P T A nt ops lo pu ids is (Zn o env a) σ' (tags++[true]) K)))
theorem A5 {tags:List Bool} {K:Β->Ξ->Prop}:TM P T A nt ops lo pu ids [] env σ tags K=(PZ (Tu lo pu) ops tags=true/\K env σ):=Xk rfl rfl
theorem A4 {i:Nat} {is:ο} {tags:List Bool} {K:Β->Ξ->Prop}:TM P T A nt ops lo pu ids (i::is) env σ tags K=W3 ops[i]? λo=>Wz nt o=true/\W3 (Xx env ops o) λw=>
   V1 w (TM P T A nt ops lo pu ids is (Zn o env .Ze) σ (tags++[false]) K)
    (V1 (!lo.contains i) (KY T A env o ids σ λa=>TM P T A nt ops lo pu ids is (Zn o env a) σ (tags++[true]) K)
     (PW P T A env o σ (λa=>TM P T A nt ops lo pu ids is (Zn o env a) σ (tags++[false]) K) (λa σ'=>(pu.contains i=true->seen ids σ'=seen ids σ)/\TM P T A nt ops lo pu ids is (Zn o env a) σ' (tags++[true]) K))):=Xk U U
theorem A3 {i:VX} {l:μ} (τ:Ξ):(QX i l).Yo τ=match P2 i l with|some a=>.ok a τ|none=>.bad:=by
 unfold QX P2;split
 .split<;>rfl
 .cases l<;>rfl
theorem H2 {ids:ο} {τ:Ξ} {id:Nat} (h:seen ids τ=seen ids σ) (hi:ids.contains id=true):τ[id]?=σ[id]?:=by
 have a:=KJ.1 hi;exact List.map_inj_left.1 h id a
theorem A2 {ids:ο} {b:TypeId} {x:Ψ} {τ:Ξ} (c:seen ids τ=seen ids σ) (d:Re ids x=true):(∀a σ',SD T b σ x=.ok a σ'->SD T b τ x=.ok a τ)/\∀p r,SD T b σ x≠.Y0 p r:=by
 unfold SD;split
 .rename_i id n i j;rw[H2 c d];split
  .split
   .split
    .rw[A3,A3];split
     .exact⟨λa σ' h=>(by cases h;rfl),nofun⟩
     .exact⟨nofun,nofun⟩
    .exact⟨nofun,nofun⟩
   .exact⟨nofun,nofun⟩
  .exact⟨nofun,nofun⟩
 .exact⟨nofun,nofun⟩
theorem A1 {ids:ο} {b:TypeId} {f:Nat} {x:Ψ} {τ:Ξ} (c:seen ids τ=seen ids σ) (d:Re ids x=true):(∀a σ',SC T b f σ x=.ok a σ'->SC T b f τ x=.ok a τ)/\∀p r,SC T b f σ x≠.Y0 p r:=by
 unfold SC;split
 .rename_i id n i j;rw[H2 c d];split
  .split
   .exact⟨λa σ' h=>(by cases h;rfl),nofun⟩
   .exact⟨nofun,nofun⟩
  .exact⟨nofun,nofun⟩
 .exact⟨nofun,nofun⟩
theorem A0 {ids:ο} {b:TypeId} {x c:Ψ} {τ:Ξ} (d:seen ids τ=seen ids σ) (e:Re ids x=true):(∀a σ',SB T b σ x c≠.ok a σ')/\∀p a σ',SB T b σ x c=.Y0 p (.ok a σ')->SB T b τ x c=.Y0 p (.ok a τ):=by
 unfold SB;split
 .split
  .rename_i id m i len;rw[H2 d e];split
   .split
    .exact⟨nofun,λp a σ' h=>(by cases h;rfl)⟩
    .exact⟨nofun,nofun⟩
   .exact⟨nofun,nofun⟩
  .exact⟨nofun,nofun⟩
 .split
  .rename_i id m i j;rw[H2 d e];split
   .split
    .exact⟨nofun,λp a σ' h=>(by cases h;rfl)⟩
    .exact⟨nofun,nofun⟩
   .exact⟨nofun,nofun⟩
  .exact⟨nofun,nofun⟩
 .exact⟨nofun,nofun⟩
theorem rn (s:Zv P T) {i:Nat} {o:Oper} {K:Ψ->Prop} (t:ops[i]?=some o) (hd:Wz nt o=true) (u:Xx env ops o=some true) (h:KY T A env o ids σ K) :
  ∃a,VI o=true/\(∀τ:Ξ,seen ids τ=seen ids σ->Pg P m nt k Z E ops i o env τ a τ)/\K a:=by
 unfold KY at h;split at h
 .rename_i v x b;obtain⟨g,h⟩:=h;unfold Y8.XX at h;split at h
  .exact h.elim
  .exact h.2.elim
  .exact h.elim
  .rename_i l;unfold YP.XX at h;split at h
   .rename_i a σ' d;refine⟨a,by unfold VI;rw[b],λτ n env' rest e r=>?_,h⟩;refine .op (A:=A) s t (by rw[Us e];exact u) hd (λc j=>by rw[b] at j;cases j) ?_;have:V2 T A env τ o=.ok a τ:=by unfold V2;rw[b];exact(A2 n g).1 a σ' d
    rw[PX e,M8 e,l,this];exact r
   .rename_i p a σ' d;exact absurd d ((A2 (σ:=σ) (τ:=σ) U g).2 _ _)
   .exact h.elim
 .rename_i v x f b;obtain⟨g,h⟩:=h;unfold Y8.XX at h;split at h
  .exact h.elim
  .exact h.2.elim
  .exact h.elim
  .rename_i l;unfold YP.XX at h;split at h
   .rename_i a σ' d;refine⟨a,by unfold VI;rw[b],λτ n env' rest e r=>?_,h⟩;refine .op (A:=A) s t (by rw[Us e];exact u) hd (λc j=>by rw[b] at j;cases j) ?_;have:V2 T A env τ o=.ok a τ:=by unfold V2;rw[b];exact(A1 n g).1 a σ' d
    rw[PX e,M8 e,l,this];exact r
   .rename_i p a σ' d;exact absurd d ((A1 (σ:=σ) (τ:=σ) U g).2 _ _)
   .exact h.elim
 .rename_i v x w b;obtain⟨g,h⟩:=h;unfold Y8.XX at h;split at h
  .exact h.elim
  .exact h.2.elim
  .exact h.elim
  .rename_i l;unfold YP.XX at h;split at h
   .rename_i a σ' d;exact absurd d ((A0 (σ:=σ) (τ:=σ) U g).1 _ _)
   .rename_i p a σ' d;refine⟨a,by unfold VI;rw[b],λτ n env' rest e r=>?_,h.2⟩;refine .op (A:=A) s t (by rw[Us e];exact u) hd (λc j=>by rw[b] at j;cases j) ?_;have:V2 T A env τ o=.Y0 p (.ok a τ):=by unfold V2;rw[b];exact(A0 n g).2 p a σ' d
    rw[PX e,M8 e,l,this];exact⟨h.1,r⟩
   .exact h.elim
 .exact h.elim
theorem rm (D:Zv P T) {i:Nat} {o:Oper} {F:Ψ->Prop} {H:Ψ->Ξ->Prop} (n:ops[i]?=some o) (hd:Wz nt o=true) (t:Xx env ops o=some true) (h:PW P T A env o σ F H) :
  ∃a σ' v,VV P m nt k Z E ops i o env σ v a σ'/\(v=false->F a/\σ'=σ)/\(v=true->H a σ'):=by
 unfold PW at h;split at h
 .rename_i f args R u;have I:∀env',Sw ops o env env'->ε env' f=ε env f/\args.toList.map (ε env')=args.toList.map (ε env):=λenv' b=>by
   have w:=Lz b;rw[u] at w;refine⟨w f (by simp[Op.operands,Call.operands]),Ly λx N=>w x (by simp[Op.operands,Call.operands,N])⟩
  rcases h with⟨r,g,h⟩|⟨r,σ',g,h⟩
  .refine⟨r,σ,false,?_,λ_=>⟨h,U⟩,nofun⟩;unfold VV;simp only[WX,if_false];refine⟨λenv' σ' rest b j=>.call n (by rw[Us b];exact t) hd u ?_,trivial⟩;obtain⟨B,Ρ⟩:=I env' b;rw[B,Ρ];exact(g σ').mono (λa s ⟨x,y⟩=>by subst x;subst y;exact j) (λ_ _ h=>h.elim)
  .refine⟨r,σ',true,?_,nofun,λ_=>h⟩;unfold VV;simp only[if_true];refine⟨?_,λd=>by unfold VI at d;rw[u] at d;cases d⟩;refine λenv' rest b j=>.call n (by rw[Us b];exact t) hd u ?_;obtain⟨B,Ρ⟩:=I env' b;rw[B,Ρ];exact g.mono (λa s ⟨x,y⟩=>by subst x;subst y;exact j) (λ_ _ h=>h.elim)
 .exact h.elim
 .exact h.elim
 .rename_i S V J;have L:∀(r:Y8) (a:Ψ),Vt T A env o=r->(∀K:Ψ->Ξ->Prop,∀s,K a s->(r.Yo s).holds K)->(∀σ s,r.or σ s=r.Yo σ)->Ph P m nt k Z E ops i o env a:=λr a d C O env' σ' rest b j=>by
   refine .op (A:=A) D n (by rw[Us b];exact t) hd (λc g=>J c g) ?_;rw[PX b,d,O];exact C _ _ j
  unfold Y8.XX at h;split at h
  .rename_i a e;refine⟨a,σ,false,?_,λ_=>⟨h,U⟩,nofun⟩;unfold VV;simp only[WX,if_false];exact⟨L _ a e (λK s l=>l) (λ_ _=>rfl),trivial⟩
  .rename_i p a e;refine⟨a,σ,false,?_,λ_=>⟨h.2,U⟩,nofun⟩;unfold VV;simp only[WX,if_false];exact⟨L _ a e (λK s l=>⟨h.1,l⟩) (λ_ _=>rfl),trivial⟩
  .exact h.elim
  .rename_i Q;have M:∀(a:Ψ) (σ':Ξ) (r:YP),V2 T A env σ o=r->(∀K:Ψ->Ξ->Prop,K a σ'->r.holds K)->Pg P m nt k Z E ops i o env σ a σ':=λa σ' r d C env' rest b j=>by
    refine .op (A:=A) D n (by rw[Us b];exact t) hd (λc g=>J c g) ?_;rw[PX b,M8 b,Q,d];exact C _ j
   unfold YP.XX at h;split at h
   .rename_i a σ' e;refine⟨a,σ',true,?_,nofun,λ_=>h⟩;unfold VV;simp only[if_true];exact⟨M a σ' _ e λK l=>l,λd=>M7 (p:=True) d (.inl e)⟩
   .rename_i p a σ' e;refine⟨a,σ',true,?_,nofun,λ_=>h.2⟩;unfold VV;simp only[if_true];exact⟨M a σ' _ e λK l=>⟨h.1,l⟩,λd=>M7 d (.inr e)⟩
   .exact h.elim
def Fy (lo pu ids:ο) (P:Program) (m nt:Nat) (k:Zz) (Z:XO) (E:Ya) (ops:ZC) (i:Nat) (o:Oper) (env:Β) (σ:Ξ) (b:Bool) (a:Ψ) (σ':Ξ):Prop:=
 VV P m nt k Z E ops i o env σ b a σ'/\(lo.contains i=true->b=true->VI o=true/\∀τ:Ξ,seen ids τ=seen ids σ->Pg P m nt k Z E ops i o env τ a τ)/\(pu.contains i=true->seen ids σ'=seen ids σ)
theorem rl (p:Zv P T) {i:Nat} {is:ο} {tags:List Bool} {K:Β->Ξ->Prop} (h:TM P T A nt ops lo pu ids (i::is) env σ tags K) :
  ∃o a σ' d,ops[i]?=some o/\Fy lo pu ids P m nt k Z E ops i o env σ d a σ'/\TM P T A nt ops lo pu ids is (Zn o env a) σ' (tags++[d]) K:=by
 unfold TM W3 at h;split at h
 .exact h.elim
 .rename_i o b;obtain⟨hd,h⟩:=h;split at h
  .exact h.elim
  rename_i w j;unfold V1 at h;cases w
  .replace h:=h.1 U
   refine⟨o,.Ze,σ,false,b,⟨?_,λ_ h=>(by cases h),λ_=>rfl⟩,h⟩;unfold VV;simp only[WX,if_false];exact⟨λenv' σ' rest r s=>.unwanted b (by rw[Us r];exact j) hd s,trivial⟩
  .replace h:=h.2 U
   cases e:lo.contains i with
   | true=>
    rw[e] at h;obtain⟨a,f,g,l⟩:=rn (m:=m) (k:=k) (Z:=Z) (E:=E) p b hd j (h.1 U);refine⟨o,a,σ,true,b,⟨?_,λ_ _=>⟨f,g⟩,λ_=>rfl⟩,l⟩;unfold VV;simp only[if_true];exact⟨g σ U,λ_=>trivial⟩
   | false=>
    rw[e] at h;obtain⟨a,σ',d,f,g,l⟩:=rm (m:=m) (k:=k) (Z:=Z) (E:=E) p b hd j (h.2 U);cases d with
    | false=>
     obtain⟨n,rfl⟩:=g U;exact⟨o,a,σ',false,b,⟨f,λc=>(by rw[e] at c;cases c),λ_=>rfl⟩,n⟩
    | true=>
     obtain⟨n,t⟩:=l U;exact⟨o,a,σ',true,b,⟨f,λc=>(by rw[e] at c;cases c),n⟩,t⟩
theorem rk (t:Zv P T) {K:Β->Ξ->Prop} {env0:Β}:∀(d i:Nat) (tags:List Bool) (as9:Nat->Ψ) (σs:Nat->Ξ),i+d=ops.size->tags.length=i->
  (∀j o,j<i->ops[j]?=some o->Fy lo pu ids P m nt k Z E ops j o (Y5 ops env0 as9 (λ_=>true) j) (σs j) (tags.getD j false) (as9 j) (σs (j+1)))->
  TM P T A nt ops lo pu ids (List.range' i d) (Y5 ops env0 as9 (λ_=>true) i) (σs i) tags K->
  ∃(tags:List Bool) (as9:Nat->Ψ) (b:Nat->Ξ),PZ (Tu lo pu) ops tags=true/\b 0=σs 0/\(∀j o,ops[j]?=some o->Fy lo pu ids P m nt k Z E ops j o (Y5 ops env0 as9 (λ_=>true) j) (b j) (tags.getD j false) (as9 j) (b (j+1)))/\K (Y5 ops env0 as9 (λ_=>true) ops.size) (b ops.size):=by
 intro d
 induction d with
 | zero=>
  intro i tags as9 σs hi n g h;simp only[List.range'_zero,TM] at h;have:i=ops.size:=J;subst this;exact⟨tags,as9,σs,h.1,U,λj o f=>g j o (TJ.1 f).1 f,h.2⟩
 | succ d u=>
  intro i tags as9 σs hi n g h;rw[Ky] at h;obtain⟨o,a,σ',l,f,v,h⟩:=rl (m:=m) (k:=k) (Z:=Z) (E:=E) t h;let c:Nat->Ψ:=λj=>if j=i then a else as9 j
  let b:Nat->Ξ:=λj=>if j=i+1 then σ' else σs j
  have p:∀j,j<=i->Y5 ops env0 as9 (λ_=>true) j=Y5 ops env0 c (λ_=>true) j:=λj g=>Ha j λx L=>by simp only[c];rw[if_neg J]
  have w:Y5 ops env0 c (λ_=>true) (i+1)=Zn o (Y5 ops env0 as9 (λ_=>true) i) a:=by
   simp only[Y5,if_true,f];rw[<-p i (Z6 i)];simp only[c,if_true]
  have:=u (i+1) (tags++[l]) c b J (by simp[n]) (λj y M r=>?_) ?_
  .obtain⟨t2,B,C,D,F,H,I⟩:=this;exact⟨t2,B,C,D,F.trans (by simp only[b];rw[if_neg J]),H,I⟩
  .by_cases e:j=i
   .subst e;rw[f] at r;cases r;rw[<-p j (Z6 j)];have s:(tags++[l]).getD j false=l:=by rw[WB,Xj J,n];simp
    rw[s];simp only[c,b,if_true];rw[if_neg J];exact v
   .have:=g j y J r;rw[<-p j J];have s:(tags++[l]).getD j false=tags.getD j false:=by rw[WB,Yz J,<-WB]
    rw[s];simp only[c,b];rw[if_neg J,if_neg J,if_neg J];exact this
  .rw[w];simp only[b,if_true];exact h
theorem W.AZ (lo pu ids:ο) (u:Zv P T) (w:P.follows .mixedOrders=true) {id:Nat} (h:∀g:Β->Ξ->Prop,(∀env σ,W P m nt k env σ Z E->g env σ)->TM P T A nt ops lo pu ids (idx ops.size []) env σ [] g):W P m nt (.code (.region id ops true)::k) env σ Z E:=by
 have l:=h (λenv σ=>W P m nt k env σ Z E) λ_ _ h=>h;rw[idx_eq,KI] at l;obtain⟨tags,as9,σs,y,C,d,D⟩:=rk (m:=m) (k:=k) (Z:=Z) (E:=E) (env0:=env) u ops.size 0 [] (λ_=>.Ze) (λ_=>σ) J U (λj o F=>J) l;intro I mn x cs b S B H t p r f K L;refine .draw p r λn=>?_;have s:=W.D9 (lo:=lo) (pu:=pu) (v:=seen ids) (P:=P) (m:=m) (nt:=nt) (k:=k) (Z:=Z) (E:=E) (ops:=ops) (as9:=as9) (σs:=σs) (tags:=tags) (env0:=env) y
  (λi o a c=>by have:=(d i o a).1;unfold VV at this;rw[c] at this;simpa using this)
  (λi o a c=>by have:=(d i o a).1;unfold VV at this;rw[c] at this;simpa using this)
  (λi o a e c=>(d i o a).2.1 e c) (λi o a f=>(d i o a).2.2 f)
  (.ZB D) ops.size n (Array.replicate ops.size false) env 0 Ω (λi=>?_) (λi o a e=>?_) (Α _) (λj F _=>?_) ?_
 .rw[C] at s;rw[w];simp only[Region.schedule,Bool.true_or,if_true,Region.linearise];exact s I mn x cs b S B H t p r f K L
 .have:∀n,Y5 ops env as9 (λi=>(Array.replicate ops.size false).getD i false) n=env:=by
   intro n
   induction n with
   | zero=>rfl
   | succ n M=>
    simp only[Y5];have:(Array.replicate ops.size false).getD n false=false:=by
     rw[Wr,OL];split<;>rfl
    rw[if_neg (by rw[this];simp)];exact M
  rw[this]
 .have:(Array.replicate ops.size false).getD i false=false:=by
   rw[Wr,OL];split<;>rfl
  rw[this] at e;cases e
 .have:(Array.replicate ops.size false).getD j false=false:=by
   rw[Wr,OL];split<;>rfl
  rw[this];simp
 .have:=Mk (λi=>!(Array.replicate ops.size false).getD i false) (List.range ops.size);simpa using this
end
end Go.TL
namespace Go.TL
open Go.IntWalk (i64_in)
open Go.IntKind (i64 u64)
open Go.Proofs.Tryz
open Go.Proofs
variable [ZP]
def W8 {a:Type} (b:Nat):List (List a)->μ
 | []=>[]
 | l::C=>.ms b l.length 0 l.length::W8 (b+1) C
def WC (C:List (List YV)):Ξ:=C.map λl=>.cells 28 3 (l.map Zi)
theorem rj {a:Type} (b:Nat) (C:List (List a)) (l:List a):W8 b (C++[l])=W8 b C++[.ms (b+C.length) l.length 0 l.length]:=by
 induction C generalizing b with
 | nil=>rfl
 | cons c C d=>
  show _::W8 (b+1) (C++[l])=_;rw[d,show b+1+C.length=b+(c::C).length by simp;omega];rfl
theorem Mo {a:Type} (b:Nat) (C:List (List a)):(W8 b C).length=C.length:=by
 induction C generalizing b with
 | nil=>rfl
 | cons c C d=>simp[W8,d]
theorem AY (σ L:Ξ) (k:Nat):(σ++L)[σ.length+k]?=L[k]?:=by rw[Xj J];congr 1;omega
theorem ri (σ L:Ξ):(σ++L)[σ.length]?=L[0]?:=AY σ L 0
theorem AX (σ L:Ξ) (k:Nat) (x:Row):(σ++L).set (σ.length+k) x=σ++L.set k x:=by rw[Py _ _ J];congr 2;omega
theorem rh (σ L:Ξ) (x:Row):(σ++L).set σ.length x=σ++L.set 0 x:=AX σ L 0 x
theorem rf (s:ω) (h:s.small) (σ:Ξ):Μ prog 25 [Zq s] σ (λa r=>a=.ZW [ZD s.χ,ZM s.θ,.ms (σ.length+2) s.cells.length 0 s.cells.length]/\r=σ++(.dead::.dead::.cells 60 1 (W8 (σ.length+3) s.cells)::WC s.cells)) (λ_ _=>False):=by
 obtain⟨D,H,m,o,X⟩:=h;obtain⟨n,f⟩:=Ε σ.length;have d:=AY σ;have t:=ri σ;have v:=AX σ;have y:=rh σ;rw[<-f] at d t v y ⊢;refine Μ.body Ο func25 U U ntmps25 U U Ω ?_
 repeat apply Ν
 refine YY (A:=[2]) Ο λS B=>?_;simp;(repeat (rw[Θ];simp[f.symm]));apply B;refine W.to (σ':=σ++[YI (.sl true 0 []) (.sl true 0 []) (.sl true 0 [])]) (env':=[(1,ZV s),(2,.Δ n 1 0 0)]) ?_ Ω Ω
 repeat apply Ν
 refine W.draw (A:=[3]) Ο mixed λS B=>?_;simp;(repeat (rw[Z1];simp[f.symm]));try rw[Z2]
 refine⟨J,?_⟩;refine Zc (Κ.p (DS s.θ J (λx Y=>by have:=o x Y;omega)) (ZN.refl _) Ω Ω) ?_;simp[f.symm];(repeat (rw[Z1];simp[f.symm]));try rw[Z2]
 refine Zf (B _ _ ?_);refine W.to (σ':=σ++[YI (.sl true 0 []) (.sl true 0 []) (.sl true 0 []),YI (ZD s.χ) (ZM s.θ) (.sl true 0 [])]) (env':=[(1,ZV s),(2,.Δ n 1 0 0),(3,.Δ (n+1) 1 0 0)]) ?_ Ω Ω;have Z:NO (n+2) (YI (ZD s.χ) (ZM s.θ) (.sl true 0 [])) (YI (ZD s.χ) (ZM s.θ) (.ms (n+2) 0 0 0)):=by
  refine .inr ⟨26,3,_,_,U,U,U,λi e ae D H=>?_⟩
  match i with
  | 0=>
   simp at D H;subst D;subst H;refine⟨U,λx a af m o=>?_⟩
   match x with
   | 0=>simp[Ψ.cells] at m o;subst m;subst o;exact .same _
   | 1=>simp[Ψ.cells] at m o;subst m;subst o;exact .same _
   | 2=>simp[Ψ.cells] at m o;subst m;subst o;exact .nil
   | x+3=>simp[Ψ.cells] at m
  | i+1=>simp at D
 have aa:(σ++[YI (.sl true 0 []) (.sl true 0 []) (.sl true 0 []),YI (ZD s.χ) (ZM s.θ) (.sl true 0 [])]).length=n+2:=by simp[<-f]
 refine W.Bv 60 1 (i:=n+1) (r:=YI (ZD s.χ) (ZM s.θ) (.sl true 0 [])) (r':=YI (ZD s.χ) (ZM s.θ) (.ms (n+2) 0 0 0)) (by rw[d];rfl) (by rw[aa];exact Z) [(1,ZV s),(2,.Δ n 1 0 0),(3,.Δ (n+1) 1 0 0)] (λp g=>by
  simp only[Y9,Yb,or_false] at g;rcases g with rfl|rfl|rfl<;>exact .same _) ?_
 rw[v,TH];refine Χ ?_;refine W.iter (λi:Nat=>i<=s.cells.length) (λi=>[(1,ZV s),(2,.Δ n 1 0 0),(3,.Δ (n+1) 1 0 0),(4,I i)])
  (λi=>σ++(YI (.sl true 0 []) (.sl true 0 []) (.sl true 0 [])::YI (ZD s.χ) (ZM s.θ) (.ms (n+2) i 0 i)::.cells 60 1 (W8 (n+3) (s.cells.take i))::WC (s.cells.take i))) (λi=>s.cells.length-i) 0 (Α _) (by simp[W8,WC]) Ω (λi hi w=>?_)
 refine Χ ?_;refine W.YH U (λc=>?_) (λc=>?_)
 .have c:i<s.cells.length:=by simpa using c
  have g:s.cells[i].length<2 ^ 30:=X _ (Yx c)
  have K:s.cells.take (i+1)=s.cells.take i++[s.cells[i]]:=Ws c
  have ab:=Yn c (show s.cells.length<2 ^ 62 by omega)
  have L:=Z7 c;obtain⟨l,M⟩:=Ε (s.cells[i]);have T:∀h,s.cells[i]'h=l:=λh=>M.symm;rw[<-M] at K L g;have N:(W8 (n+3) (s.cells.take i)).length=i:=by rw[Mo,Qm];omega
  have O:(WC (s.cells.take i)).length=i:=by unfold WC;rw[X2,Qm];omega
  have E:=rj (n+3) (s.cells.take i) l
  have P:WC (s.cells.take i++[l])=WC (s.cells.take i)++[.cells 28 3 (l.map Zi)]:=by simp[WC]
  have ad:(s.cells.take i).length=i:=by rw[Qm];omega
  rw[ad] at E;rw[<-K] at E P;have w:=w (i+1) c J;rw[E,P] at w;obtain⟨u,C⟩:=Ε (W8 (n+3) (s.cells.take i));obtain⟨R,F⟩:=Ε (WC (s.cells.take i));rw[<-C] at N w ⊢;rw[<-F] at O w ⊢;clear C F E P K M;have ag:∀x,(σ++(YI (.sl true 0 []) (.sl true 0 []) (.sl true 0 [])::YI (ZD s.χ) (ZM s.θ) (.ms (n+2) (i+1) 0 (i+1))::.cells 60 1 (u++[x])::R))[n+2]?=some (.cells 60 1 (u++[x])):=λx=>by rw[d];rfl
  repeat apply Ν
  refine W.AZ [0,1] [8,9] [n+1] (A:=[28,30]) Ο mixed λS B=>?_;simp[f.symm,d,t,v,y,c,L,T,N,O]
  repeat (rw[A4];simp[A6,seen,Re,f.symm,d,t,v,y,c,L,T,N,O])
  try rw[A5]
  refine⟨J,J,Hb Zr,B _ _ ?_⟩;refine Χ ?_;refine W.to w ?_ (by simp[ab]);simp;omega
 .have c:i=s.cells.length:=by simp at c;omega
  subst c;refine W.exit U ?_;rw[NB];obtain⟨u,C⟩:=Ε (W8 (n+3) s.cells);obtain⟨R,F⟩:=Ε (WC s.cells);have V:u.length<=s.cells.length:=by rw[C,Mo];exact Z6 _
  rw[<-C,<-F]
  repeat apply Ν
  refine W.Xq (A:=[]) Ο [(2,.Δ n 1 0 0)] (σ++(YI (ZD s.χ) (ZM s.θ) (.ms (n+2) s.cells.length 0 s.cells.length)::YI (ZD s.χ) (ZM s.θ) (.ms (n+2) s.cells.length 0 s.cells.length)::.cells 60 1 u::R)) ?_ (by
   (try simp);(repeat (rw[Θ];simp[f.symm,d,t,v,y,V]));(try simp[f.symm,d,t,v,y,V]))
  refine W.PD (σ':=σ++(YI (ZD s.χ) (ZM s.θ) (.ms (n+2) s.cells.length 0 s.cells.length)::.dead::.cells 60 1 u::R)) (id:=n+1) J (by rw[d];rfl) Ω (by rw[d];rfl) (λj r Q b=>⟨r,?_,.inl U⟩) [(2,.Δ n 1 0 0)] (λp g=>by simp at g;subst g;exact .same _) ?_
  .by_cases e:j<n
   .rw[Yz J] at b ⊢;exact b
   .obtain⟨k,rfl⟩:∃k,j=n+k:=⟨j-n,J⟩;rw[d] at b ⊢
    match k,Q,b with
    | 0,_,b=>exact b
    | 1,h,_=>exact absurd rfl h
    | k+2,_,b=>exact b
  refine W.PD (σ':=σ++(.dead::.dead::.cells 60 1 u::R)) (id:=n) J (by rw[t];rfl) Ω (by rw[t];rfl) (λj r Q b=>⟨r,?_,.inl U⟩) [(2,.ξ [ZD s.χ,ZM s.θ,.ms (n+2) s.cells.length 0 s.cells.length])] (λp g=>by simp at g;subst g;exact .Δ (e:=.ZW [ZD s.χ,ZM s.θ,.ms (n+2) s.cells.length 0 s.cells.length]) U) ?_
  .by_cases e:j<n
   .rw[Yz J] at b ⊢;exact b
   .obtain⟨k,rfl⟩:∃k,j=n+k:=⟨j-n,J⟩;rw[d] at b ⊢
    match k,Q,b with
    | 0,h,_=>exact absurd rfl h
    | k+1,_,b=>exact b
  exact W.ret ⟨_,U,U,U⟩
theorem re (s:ω) (h:s.small) {σ:Ξ} {K E:Ψ->Ξ->Prop} {b:Ψ} (c:YR b (Zq s)) (f:ς 0 b) (d:K (.ZW [ZD s.χ,ZM s.θ,.ms (σ.length+2) s.cells.length 0 s.cells.length]) (σ++(.dead::.dead::.cells 60 1 (W8 (σ.length+3) s.cells)::WC s.cells))) :
  Wm prog (.fn (.func 25) [] []) [b] σ K E:=
 Μ.call (first:=[]) (captured:=[]) (Μ.mono (Μ.Tt (rf s h σ) (ZN.cons c .nil) (K':=λa r=>a=.ZW [ZD s.χ,ZM s.θ,.ms (σ.length+2) s.cells.length 0 s.cells.length]/\r=σ++(.dead::.dead::.cells 60 1 (W8 (σ.length+3) s.cells)::WC s.cells)) (λa s h=>⟨_,.refl _,h⟩)) (λa r ⟨e,Ρ⟩=>by rw[e,Ρ];exact d) (λa s h=>h.elim))
theorem rb:∀k<256,UJ ⟨#[UInt8.ofNat k]⟩=false->97<=k/\k<=122:=by decide +kernel
theorem H0 {n:ByteArray} (h:UJ n=false):∃b:UInt8,n=⟨#[b]⟩/\97<=b.toNat/\b.toNat<=122:=by
 have c:n.size=1:=by
  unfold UJ at h;simp only[Bool.or_eq_false_iff] at h;have:=h.1.1;simpa using this
 obtain⟨d⟩:=n;have hd:d=#[d[0]'(by show 0<ByteArray.size ⟨d⟩;omega)]:=by
  apply Array.ext
  .exact c
  .intro i e a;have:i=0:=by simp at a;exact a
   subst this;rfl
 generalize d[0]'_=b at hd;subst hd;refine⟨b,U,rb b.toNat b.toNat_lt ?_⟩;rw[UInt8.ofNat_toNat];exact h
end Go.TL
namespace Go.TL
open Go.IntWalk (i64_in)
open Go.IntKind (i64 u64)
open Go.Proofs.Tryz
open Go.Proofs
@[simp] theorem np:Vv .bool=true:=rfl
theorem ra [ZP] {s:ω} (h:W0 s) (lower:Bool) (c:Nat):(X0 (Y' s) c lower).length<2 ^ 40:=by
 by_cases a:c<s.cells.length
 .have:=H3 (lower:=lower) a
  have:=h.χ.hi;omega
 .rw[rp a];decide
section
variable [ZP]
theorem AW {a:Type} (b:Nat) (L:List (List a)) (j:Nat):(W8 b L)[j]?=L[j]?.map λl=>.ms (b+j) l.length 0 l.length:=by
 induction L generalizing b j with
 | nil=>simp[W8]
 | cons l L c=>
  cases j with
  | zero=>simp[W8]
  | succ j=>simp only[W8,List.getElem?_cons_succ];rw[c,show b+1+j=b+(j+1) by omega]
theorem q' {a:Type} (b:Nat) (L:List (List a)) (c:Nat) (x:List a):W8 b (L.set c x)=(W8 b L).set c (.ms (b+c) x.length 0 x.length):=by
 induction L generalizing b c with
 | nil=>simp[W8]
 | cons l L d=>
  cases c with
  | zero=>simp[W8]
  | succ c=>simp only[W8,List.set_cons_succ];rw[d,show b+1+c=b+(c+1) by omega]
theorem q9 (L:List (List YV)) (c:Nat) (x:List YV):WC (L.set c x)=(WC L).set c (.cells 28 3 (x.map Zi)):=by
 unfold WC;rw[Ma]
theorem AV (L:List (List YV)) (c:Nat):(WC L)[c]?=L[c]?.map λl=>.cells 28 3 (l.map Zi):=by unfold WC;rw[Yc]
theorem Mn (L:List (List YV)):(WC L).length=L.length:=by unfold WC;rw[X2]
theorem q8 {i:Type} {f:i->Ψ} {T t:TypeId} {k h b id:Nat} {σ:Ξ} {L:List (List i)} (B:h<=b) (s:h<=id) (u:∀(j:Nat) (l:List i),L[j]?=some l->σ[b+j]?=some (.cells t k (l.map f))) (v:σ[id]?=some (.cells T 1 (W8 b L))) (w:∀p,∀a∈(f p).cells,ς h a):X' h σ (.ms id L.length 0 L.length) (.sl false 1 (L.map λl=>.sl false k (l.map f))):=by
 have o:∀(j:Nat) (e d:Ψ),(W8 b L)[0+j]?=some e->(L.map λl=>Ψ.sl false k (l.map f))[j]?=some d->∃l:List i,L[j]?=some l/\e=.ms (b+j) l.length 0 l.length/\d=.sl false k (l.map f):=λj e d c g=>by
  rw[US,AW] at c;rw[Yc] at g;cases m:L[j]? with
  | none=>rw[m] at c;cases c
  | some l=>rw[m] at c g;cases c;cases g;exact⟨l,rfl,rfl,rfl⟩
 refine .ms s v (Mo b L) (by rw[US];exact Z6 _) Ω (λj e d c g=>?_) (λj e d c g x a C n r=>?_)
 .obtain⟨l,_,rfl,rfl⟩:=o j e d c g;rfl
 .obtain⟨l,m,rfl,rfl⟩:=o j e d c g
  match x with
  | 0=>
   simp[Ψ.cells] at n r;subst n;subst r;refine X'.own J (u j l m) Ω (λe y a A=>?_);obtain⟨p,_,rfl⟩:=YO.1 y;exact w p a A
  | x+1=>simp[Ψ.cells] at n
theorem q7 {h b id:Nat} {σ:Ξ} {L:List (List YV)} (d:h<=b) (e:h<=id) (g:∀(j:Nat) (l:List YV),L[j]?=some l->σ[b+j]?=some (.cells 28 3 (l.map Zi))) (i:σ[id]?=some (.cells 60 1 (W8 b L))):X' h σ (.ms id L.length 0 L.length) (Sv L):=
 q8 (f:=Zi) d e g i λp a c=>by
  simp[Ψ.cells] at c;rcases c with rfl|rfl|rfl<;>simp
end
end Go.TL
namespace Go.TL
open Go.IntWalk (i64_in)
open Go.IntKind (i64 u64)
open Go.Proofs.Tryz
open Go.Proofs
variable [ZP]
def NL (s:ω) (F:Zj):Prop:=s.err=0->W0 s/\F=Y' s
theorem Fx {s:ω} (h:W0 s) {f:Found} (d:f∈Y' s):f.cells.length=s.cells.length/\(∀c∈f.cells,c.length<=49)/\∀a i,i<=f.cells.length->WG f.cells a i<=5764801:=by
 obtain⟨k,_,_,rfl⟩:=H5.1 d;have b:(X6 s (Yt k)).cells.length=s.cells.length:=by simp[X6]
 exact⟨b,H6 h _,λa i hi=>KZ h _ a (by rw[<-b];exact hi)⟩
def TK (F:Zj) (c:Nat) (lower:Bool) (g:Nat):ZZ:=((List.range g).map λk:Nat=>(k:Int)-1).filter λx=>decide (x∈X4 F c lower)
theorem q6 (F:Zj) (c:Nat) (lower:Bool) (g:Nat):TK F c lower (g+1)=TK F c lower g++if(g:Int)-1∈X4 F c lower then [(g:Int)-1] else []:=by
 unfold TK;rw[UB,XA,List.filter_append];by_cases h:(g:Int)-1∈X4 F c lower<;>simp[h]
theorem q5 {s:ω} {c:Nat} (i:c<s.cells.length) (lower:Bool):TK (Y' s) c lower (s.χ.length+1)=X0 (Y' s) c lower:=by
 have d:(TK (Y' s) c lower (s.χ.length+1)).Pairwise (· < ·):=by
  unfold TK;refine List.Pairwise.filter _ ?_;exact List.Pairwise.map _ (λa b (h:a<b)=>J) List.pairwise_lt_range
 have f:=A7 (Y' s) c lower
 have g:∀{l:ZZ},l.Pairwise (· < ·)->l.Nodup:=λh=>h.imp λ{a b} h e=>by subst e;omega
 refine Mm (le:=λx y:Int=>x<y) (λa b _ _ h k=>J) d f ((KR (g d) (g f)).2 λx=>?_);rw[FA];unfold TK;rw[TG,decide_eq_true_eq,YO];constructor
 .exact λh=>h.2
 .intro h;have:=Ba i h;exact⟨⟨(x+1).toNat,UT.2 J,J⟩,h⟩
theorem Fw (s:ω) (w:W0 s) (c:Nat) (ag:c<s.cells.length) (lower:Bool):Κ prog 111 [Zq s,VA (Y' s),I c,I (if lower then 1 else 0)] (δ I 1 (X0 (Y' s) c lower)):=by
 rw[<-q5 ag lower];have aF:=w.χ.hi;have aG:=PB s;have ao:∀f∈Y' s,c<f.cells.length/\∀d∈f.cells,d.length<2 ^ 40:=λf h=>by
  obtain⟨p,X,_⟩:=Fx w (f:=f) h;exact⟨by rw[p];exact ag,λd hd=>by have:=X d hd;omega⟩
 obtain⟨n,Y⟩:=Ε s.χ.length;rw[<-Y];generalize Y' s=F at *;obtain⟨E,Z⟩:=Ε (if lower then 1 else 0:Int);have y:∀x:Int×Int,[I x.1,I x.2][E.toNat]?=some (I (WR lower x)):=λx=>by rw[Z];cases lower<;>rfl
 have aH:0<=E/\E<2:=by rw[Z];cases lower<;>simp
 rw[<-Z];obtain⟨o,rfl⟩:∃o:Nat,E=o:=⟨E.toNat,J⟩;have ah:o<2:=J;simp only[Int.toNat_natCast] at y;have O:∀(x:Int×Int) (h:o<[I x.1,I x.2].length),[I x.1,I x.2][o]=I (WR lower x):=λx h=>by
  have:=y x;rw[Z7 h] at this;exact WW this
 refine Μ.body Ο func111 U U ntmps111 U U Ω ?_
 repeat apply Ν
 refine Xh ?_
 repeat apply Ν
 refine Xh ?_;refine W.pad 3 1 (σ':=[]) U (λj r h=>⟨r,h,.inl U⟩) [(1,VA F),(2,I c),(3,I o),(4,ZV s),(9,.ms 0 0 0 0)] (λz H=>by
  simp only[Y9,Yb,or_false] at H;rcases H with rfl|rfl|rfl|rfl|rfl
  .exact .same _
  .exact .same _
  .exact .same _
  .exact .same _
  .exact .nil) ?_
 rw[List.nil_append];refine Χ ?_;refine W.iter (λg:Nat=>g<=n+1) (λg=>[(1,VA F),(2,I c),(3,I o),(4,ZV s),(9,.ms 0 (TK F c lower g).length 0 (TK F c lower g).length),(10,I ((g:Int)-1))])
  (λg=>[.cells 3 1 ((TK F c lower g).map I)]) (λg=>n+1-g) 0 (Α _) (by simp[TK]) (by simp[TK]) (λg aI P=>?_)
 by_cases aJ:g<n+1
 .have Q:(g:Int)-1<(n:Int):=J
  have ap:=Yi (show g<2 ^ 62 by omega)
  have u:=q6 F c lower g
  have aq:(TK F c lower g).length<=g:=by
   unfold TK;exact XQ (Mk _ _) Ω
  have P:=P (g+1) J J;obtain⟨l,ar⟩:=Ε (TK F c lower g);rw[<-ar] at u aq ⊢;obtain⟨m,ai⟩:=Ε ((g:Int)-1:Int);rw[<-ai] at u Q ⊢;have S:i64.wrap (m+1)=(g:Int):=by rw[ai];rw[show(g:Int)-1+1=g by omega];exact ap
  (repeat (first|apply Ν|(refine YZ λaj K=>?_;simp;(repeat (rw[Θ];simp[Y.symm,Q]));apply K)));refine Ζ Ω ?_;refine Χ ?_;refine W.iter (λi:Nat=>i<=F.length) (λi=>[(1,VA F),(2,I c),(3,I o),(4,ZV s),(9,.ms 0 l.length 0 l.length),(10,I m),(11,ν (decide (m∈X4 (F.take i) c lower))),(12,I i)])
   (λ_=>[.cells 3 1 (l.map I)]) (λi=>F.length-i) 0 (Α _) U (by simp[X4]) (λi hi L=>?_)
  by_cases v:i<F.length
  .have aa:(i:Int)<(F.length:Int):=J
   have M:=Z7 v;obtain⟨f,w⟩:=Ε (F[i]);have au:f∈F:=w▸Yx v;rw[<-w] at M;have T:∀h,F[i]'h=f:=λh=>w.symm;obtain⟨p,X⟩:=ao f au;have B:=Z7 p;obtain⟨R,ab⟩:=Ε (f.cells[c]);have aK:R.length<2 ^ 40:=X R (ab▸Yx p);rw[<-ab] at B;have V:∀h,f.cells[c]'h=R:=λh=>ab.symm;have av:X4 (F.take (i+1)) c lower=X4 (F.take i) c lower++R.map (WR lower):=by
    rw[Ws v,<-w];unfold X4;rw[Mg];simp[Pa,B]
   have ak:=X3 (i:=i) J
   have L:=L (i+1) v J;rw[av] at L;obtain⟨A,aw⟩:=Ε (X4 (F.take i) c lower);rw[<-aw] at L ⊢;refine Ι aa ?_;refine Ζ Ω ?_;refine Χ ?_;refine W.iter (λk:Nat=>k<=R.length) (λk=>[(1,VA F),(2,I c),(3,I o),(4,ZV s),(9,.ms 0 l.length 0 l.length),(10,I m),(11,ν (decide (m∈A++(R.take k).map (WR lower)))),(12,I i),(13,I k)])
    (λ_=>[.cells 3 1 (l.map I)]) (λk=>R.length-k) 0 (Α _) U Ω (λk aL N=>?_)
   by_cases C:k<R.length
   .have ad:(k:Int)<(R.length:Int):=J
    have ae:=Z7 C;obtain⟨x,af⟩:=Ε (R[k]);rw[<-af] at ae;have al:∀h,R[k]'h=x:=λh=>af.symm;have ax:(R.take (k+1)).map (WR lower)=(R.take k).map (WR lower)++[WR lower x]:=by rw[Ws C,<-af];simp
    have am:=X3 (i:=k) J
    have N:=N (k+1) J J
    have ay:decide (m∈A++(R.take (k+1)).map (WR lower))=(decide (m∈A++(R.take k).map (WR lower))||decide (WR lower x=m)):=by
     rw[ax,Pu];simp only[Md,decide_eq_true_eq,V4,List.mem_singleton];constructor
     .rintro(h|h|h)
      .exact .inl (.inl h)
      .exact .inl (.inr h)
      .exact .inr h.symm
     .rintro((h|h)|h)
      .exact .inl h
      .exact .inr (.inl h)
      .exact .inr (.inr h.symm)
    rw[ay] at N;have y:=y x;have O:=O x;obtain⟨b,D⟩:=Ε (decide (m∈A++(R.take k).map (WR lower)));rw[<-D] at N ⊢;refine Ι (Υ M (Υ T (Υ v (Υ B (Υ V (Υ p ad)))))) ?_;refine Ζ (by simp[C]) ?_
    repeat apply Ν
    refine W.Xq (A:=[]) Ο [(1,VA F),(2,I c),(3,I o),(4,ZV s),(9,.ms 0 l.length 0 l.length),(10,I m),(11,ν (b||decide (WR lower x=m))),(12,I i),(13,I k)] [.cells 3 1 (l.map I)] ?_ (by
     cases b
     ·(try simp);(repeat (rw[Θ];simp[M,T,v,B,V,p,C,ae,al,y,O,ah]));(try simp[M,T,v,B,V,p,C,ae,al,y,O,ah]);omega
     ·(try simp);(repeat (rw[Θ];simp));(try simp))
    refine Ι am ?_;exact W.to N U (by simp[am])
   have ad:¬(k:Int)<(R.length:Int):=J;rw[VP J];refine Ι (Υ M (Υ T (Υ v (Υ B (Υ V (Υ p ad)))))) ?_;refine Η (by simp[C]) ?_;refine W.exit U ?_;refine Ι ak ?_;exact W.to L U (by simp[ak])
  have aa:¬(i:Int)<(F.length:Int):=J;rw[VP J];refine Ι aa ?_;refine Η Ω ?_;refine W.exit U ?_;refine Χ ?_;by_cases D:m∈X4 F c lower
  .rw[if_pos D] at u;refine Ζ (by simp[D]) ?_;have az:(l.map I).length=l.length:=Ω;have aA:l.length<=4294967295:=J
   repeat apply Ν
   refine YY (A:=[63]) Ο λaj K=>XK (Υ az aA) ?_;apply K;refine Ι S ?_;refine W.to P ?_ ?_
   .rw[u];simp
   .rw[u];simp[S]
  .rw[if_neg D] at u;refine Η (by simp[D]) ?_;refine Ι S ?_;refine W.to P ?_ ?_
   .rw[u];simp
   .rw[u];simp[S]
 have aB:g=n+1:=J;subst aB;have Q:¬((n+1:Nat):Int)-1<(n:Int):=J;obtain⟨aC,aD⟩:=Ε (TK F c lower (n+1));rw[<-aD];(repeat (first|apply Ν|(refine YZ λaj K=>?_;simp;(repeat (rw[Θ];simp[Y.symm,Q]));apply K)));refine Η Ω ?_;refine W.exit U ?_;refine W.cut 0 (Α _) [(9,.sl false 1 (aC.map I))] (Α _) (λid r h=>absurd h (Qi _)) (λz H=>by
  simp only[Y9,Yb,or_false] at H;subst H;exact .own (t:=3) (Α _) U Ω (λe aE a an=>by
   obtain⟨x,_,rfl⟩:=YO.1 aE;simp[Ψ.cells] at an;subst an;simp)) ?_
 rw[List.take_zero];refine Χ ?_;refine W.ret ⟨_,U,?_,U⟩;exact .refl _
theorem q4 {l:ZZ} (h:WM l=0):∀x∈l,x=0:=by
 induction l with
 | nil=>simp
 | cons e l c=>
  unfold WM at h;by_cases a:e=0
  .rw[if_pos a] at h;intro x b;rcases Y9.1 b with rfl|b
   .exact a
   .exact c h x b
  .rw[if_neg a] at h;exact absurd h a
theorem KX {f:Nat->Int} {n:Nat} (h:WM ((List.range n).map f)=0):∀i,i<n->f i=0:=λi hi=>
 q4 h _ (YO.2 ⟨i,UT.2 hi,U⟩)
theorem Fv:∀a<26,∀b<26,Vl ⟨#[UInt8.ofNat (97+a)]⟩ ⟨#[UInt8.ofNat (97+b)]⟩=decide (a<=b):=by decide +kernel
theorem Fu {n:ByteArray} (h:UJ n=false):∃a,a<26/\n=⟨#[UInt8.ofNat (97+a)]⟩:=by
 obtain⟨b,rfl,c,d⟩:=H0 h;refine⟨b.toNat-97,J,?_⟩;rw[show 97+(b.toNat-97)=b.toNat by omega,UInt8.ofNat_toNat]
theorem q3 {a b c:ByteArray} (g:UJ a=false) (h:UJ b=false) (i:UJ c=false) (j:Vl b a=false) (k:Vl c b=false):Vl c a=false:=by
 obtain⟨x,d,rfl⟩:=Fu g;obtain⟨y,e,rfl⟩:=Fu h;obtain⟨z,f,rfl⟩:=Fu i;rw[Fv y e x d,decide_eq_false_iff_not] at j;rw[Fv z f y e,decide_eq_false_iff_not] at k;rw[Fv z f x d,decide_eq_false_iff_not];omega
theorem q2 {l:List U3} (h:VG l=0):Rh l:=by
 unfold VG at h;by_cases o:l.length=0
 .rw[if_pos o] at h;cases h
 rw[if_neg o] at h;by_cases p:6<l.length
 .rw[if_pos p] at h;cases h
 rw[if_neg p] at h;have s:=KX h;have b:∀i (hi:i<l.length),UJ l[i].name=false/\¬(0<i/\Vl l[i].name ((l[i-1]?.map (·.name)).getD ⟨#[]⟩)=true)/\¬(l[i].YJ<1\/63<l[i].YJ)/\(l.take i).any (λx=>x.YJ==l[i].YJ)=false:=λi hi=>by
  have a:=s i hi;unfold U2 at a;rw[Z7 hi] at a;simp only at a;cases r:UJ l[i].name
  .rw[r,if_neg Ω] at a;by_cases c:0<i/\Vl l[i].name ((l[i-1]?.map (·.name)).getD ⟨#[]⟩)=true
   .rw[if_pos c] at a;cases a
   rw[if_neg c] at a;by_cases f:l[i].YJ<1\/63<l[i].YJ
   .rw[if_pos f] at a;cases a
   rw[if_neg f] at a;cases t:(l.take i).any (λx=>x.YJ==l[i].YJ)
   .exact⟨U,c,f,U⟩
   .rw[t,if_pos U] at a;cases a
  .rw[r,if_pos U] at a;cases a
 refine⟨J,J,λg u=>?_,?_,?_⟩
 .obtain⟨i,hi,rfl⟩:=S8 u;obtain⟨v,_,D,_⟩:=b i hi;exact⟨v,J,J⟩
 .refine Rc.2 λi j hi m w=>?_;have next:∀k (a:k+1<l.length),Vl l[k+1].name (l[k]'J).name=false:=λk a=>by
   obtain⟨_,n,_⟩:=b (k+1) a;rw[KE,Z7 J] at n;simp only[Option.map_some,Option.getD_some] at n;cases y:Vl l[k+1].name (l[k]'J).name
   .rfl
   .exact absurd ⟨J,y⟩ n
  have A:∀d (hd:i+d+1<l.length),Vl l[i+d+1].name l[i].name=false:=λd=>by
   induction d with
   | zero=>intro hd;exact next i hd
   | succ d B=>intro hd;exact q3 (b i J).1 (b (i+d+1) J).1 (b (i+(d+1)+1) hd).1 (B J) (next (i+d+1) hd)
  obtain⟨d,rfl⟩:∃d,j=i+d+1:=⟨j-i-1,J⟩;exact A d m
 .refine Rc.2 λi j hi m w e=>?_;obtain⟨_,_,_,C⟩:=b j m;have:=Pw.1 C l[i] (KQ.2 ⟨i,J,U⟩);simp[e] at this
theorem q1 {l:ZZ} (h:∀k (e:k+1<l.length),l[k]'J<l[k+1]):l.Pairwise (· < ·):=by
 refine Rc.2 λi j hi a f=>?_;have b:∀d (hd:i+d+1<l.length),l[i]<l[i+d+1]:=λd=>by
  induction d with
  | zero=>intro hd;exact h i hd
  | succ d c=>intro hd;exact Int.lt_trans (c J) (h (i+d+1) hd)
 obtain⟨d,rfl⟩:∃d,j=i+d+1:=⟨j-i-1,J⟩;exact b d a
theorem q0 {L:List (ZZ)} (h:VF L=0):MA L:=by
 unfold VF at h;by_cases g:L.length=0
 .rw[if_pos g] at h;cases h
 rw[if_neg g] at h;by_cases m:4<L.length
 .rw[if_pos m] at h;cases h
 rw[if_neg m] at h;have t:=KX (f:=λi=>QN ((L[i]?).getD [])) h;refine⟨J,J,λl u=>?_⟩;obtain⟨i,hi,rfl⟩:=S8 u;have c:=t i hi;simp only[Z7 hi,Option.getD_some] at c;have v:=KX (f:=St L[i]) c;generalize L[i]=l at *;have one:∀j (b:j<l.length),UL l[j]=true/\¬(0<j/\l[j]<=(l[j-1]?).getD 0):=λj b=>by
  have e:=v j b;unfold St at e;rw[Z7 b] at e;simp only at e;cases o:UL l[j]
  .rw[o,if_pos U] at e;cases e
  rw[o,if_neg Ω] at e;by_cases p:0<j/\l[j]<=(l[j-1]?).getD 0
  .rw[if_pos p] at e;cases e
  exact⟨U,p⟩
 have r:l.Pairwise (· < ·):=q1 λk c=>by
  have:=(one (k+1) c).2;rw[Z7 J,Option.getD_some] at this;exact Int.not_le.1 λq=>this ⟨J,q⟩
 have s:∀x∈l,0<=x/\x<3:=λx d=>by
  obtain⟨j,b,rfl⟩:=S8 d;have:=(one j b).1;unfold UL at this;simp at this;omega
 exact⟨A8 (n:=3) (a:=0) r (λx d=>by have:=s x d;omega),r,s⟩
theorem qZ {s:ω} {c:List YV} (h:U1 s c=0):OQ s.θ.length c:=by
 unfold U1 at h;by_cases b:4<c.length
 .rw[if_pos b] at h;cases h
 rw[if_neg b] at h;have o:=KX (f:=λi=>match c[i]? with|none=>0|some p=>Xw s (c.take i) p) h;have one:∀i (hi:i<c.length),(0<=c[i].YX/\c[i].YX<s.θ.length)/\(c.take i).any (λx=>x.YX==c[i].YX)=false/\(valid c[i].seen=true/\valid c[i].bare=true)/\UM c[i].seen c[i].bare=0:=λi hi=>by
  have e:=o i hi;rw[Z7 hi] at e;simp only at e;unfold Xw at e;by_cases d:c[i].YX<0\/(s.θ.length:Int)<=c[i].YX
  .rw[if_pos d] at e;cases e
  rw[if_neg d] at e;cases g:(c.take i).any (λx=>x.YX==c[i].YX)
  .rw[g,if_neg Ω] at e;by_cases a:valid c[i].seen=false\/valid c[i].bare=false
   .rw[if_pos a] at e;cases e
   rw[if_neg a] at e;by_cases k:UM c[i].seen c[i].bare=0
   .refine⟨J,U,?_,k⟩;cases r:valid c[i].seen<;>cases t:valid c[i].bare<;>simp[r,t] at a ⊢
   .rw[if_neg k] at e;cases e
  .rw[g,if_pos U] at e;cases e
 refine⟨J,?_,λp u=>?_⟩
 .refine Rc.2 λi j hi l y e=>?_;simp only[X2] at hi l;simp only[List.getElem_map] at e;have:=Pw.1 (one j l).2.1 c[i] (KQ.2 ⟨i,J,U⟩);simp[e] at this
 .obtain⟨i,hi,rfl⟩:=S8 u;obtain⟨v,_,⟨m,n⟩,w⟩:=one i hi;unfold valid at m n;simp at m n;exact⟨v,J,J,w⟩
theorem ON {s:ω} (h:s.err=0):W0 s:=by
 unfold ω.err at h;by_cases g:VG s.χ=0
 .rw[if_neg (λq=>q g)] at h;by_cases l:VF s.θ=0
  .rw[if_neg (λq=>q l)] at h;unfold SW at h;by_cases a:4<s.cells.length
   .rw[if_pos a] at h;cases h
   rw[if_neg a] at h;have b:=KX (f:=λi=>U1 s ((s.cells[i]?).getD [])) h;refine⟨q2 g,q0 l,J,λc d=>?_⟩;obtain⟨i,hi,rfl⟩:=S8 d;have:=b i hi;simp only[Z7 hi,Option.getD_some] at this;exact qZ this
  .rw[if_pos l] at h;exact absurd h l
 .rw[if_pos g] at h;exact absurd h g
def Xl (s:ω):Zj:=if s.err=0 then Y' s else []
end Go.TL
namespace Go.TL
open Go.IntWalk (i64_in)
open Go.IntKind (i64 u64)
open Go.Proofs.Tryz
open Go.Proofs
section
variable [ZP]
variable {P:Program} {m nt:Nat} {k:Zz} {env:Β} {σ:Ξ} {Z:XO} {E:Ya}
theorem W.qY {ι:Type} {a:Item} (p:ι->Prop) (env':ι->Β) (σ':ι->Ξ) (b:W P m nt (a::k) env σ (λj e s=>j=k/\∃i,p i/\s=σ' i/\∀q∈env' i,Z3 e q.1=q.2) E) (c:∀i,p i->W P m nt k (env' i) (σ' i) Z E):W P m nt (a::k) env σ Z E:=
 .bind b λj e s ⟨d,i,hi,f,g⟩=>by
  subst d;subst f;exact .forget (env' i) g (c i hi)
end
end Go.TL
namespace Go.TL
open Go.IntWalk (i64_in)
open Go.IntKind (i64 u64)
open Go.Proofs.Tryz
open Go.Proofs
variable [ZP]
def ω.more (s:ω) (c:Nat) (p:YV):ω:=⟨s.χ,s.θ,s.cells.set c ((s.cells[c]?).getD []++[p])⟩
def Room (s:ω) (x:ω):Prop:=x=s\/W0 x\/∃y c p,W0 y/\c<y.cells.length/\x=y.more c p
theorem qX {y:ω} (h:W0 y) {c:Nat} (p:YV):(y.more c p).small:=by
 have b:=h.small;obtain⟨d,e,f,g,i⟩:=b;refine⟨d,e,by unfold ω.more;rw[Mc];exact f,g,λx a=>?_⟩;unfold ω.more at a;rcases KP a with a|rfl
 .exact i x a
 .cases j:y.cells[c]? with
  | none=>simp
  | some l=>have:=(h.cells l (Y1 j)).hi;simp;omega
theorem Room.small {s x:ω} (h:Room s x) (a:s.small):x.small:=by
 rcases h with rfl|h|⟨y,c,p,h,_,rfl⟩
 .exact a
 .exact h.small
 .exact qX h p
theorem AU (s:ω) (aN:s.small) (p:YV) (d:Zd) (hd:d.Z0.length<2 ^ 63) :
  Μ prog 23 [Zq s,Zi p,.Δ 0 1 0 0] [ZF d] (λa σ=>∃(L:List ω) (ae:Zd),YR a (.sl true 3 (L.map Zq))/\L.length=4/\(∀x∈L,Room s x)/\σ=[ZF ae]/\ae.Z0.length<=d.Z0.length) (λ_ _=>False):=by
 refine Μ.body Ο func23 U U ntmps23 U U Ω ?_
 repeat apply Ν
 refine Xh ?_;refine YQ ?_;refine YY (A:=[7]) Ο λw i=>Z9 ?_;refine Rg.c (rO d hd 4 3 ZT ZT ZT) 0 U (ZN.refl _) Ω (by
  rintro r ⟨s,rfl,_⟩;simp[YD,Ψ.cells]) ?_
 rintro r d1 ⟨B,rfl,au,_,_⟩ aO;simp;(repeat (rw[Θ];simp));apply i;clear i w;refine W.UZ (σ0:=[ZF d1]) (Z6 _) (λr u=>by simp at u;subst u;exact SP d1 _) (λa E=>by simp[Ψ.cells] at E;rcases E with rfl|rfl|rfl<;>simp[YD,Ψ.cells]) [(2,.Δ 0 1 0 0),(3,ZV s),(4,.ξ [I p.YX,I p.seen,I p.bare]),(7,ZV B)] (by simp[Wb,Ψ.cells,YD]) ?_;have av:d1.Z0.length<2 ^ 63:=J;refine YQ ?_;refine YY (A:=[8]) Ο λw i=>Z9 ?_;refine Rg.c (rG d1 av 5 3 ZT ZT ZT) 0 U (ZN.refl _) Ω (by
  rintro r ⟨s,p,rd,rfl,_⟩;simp[YD,Ψ.cells]) ?_
 rintro r d2 ⟨e,aP,aQ,rfl,aw⟩ aR;have C:=aw.rI;simp;(repeat (rw[Θ];simp));apply i;clear i w;refine W.UZ (σ0:=[ZF d2]) (Z6 _) (λr u=>by simp at u;subst u;exact SP d2 _) (λa E=>by simp[Ψ.cells] at E;rcases E with rfl|rfl|rfl<;>simp[YD,Ψ.cells]) [(2,.Δ 0 1 0 0),(3,ZV s),(4,.ξ [I p.YX,I p.seen,I p.bare]),(7,ZV B),(8,ZV e)] (by simp[Wb,Ψ.cells,YD]) ?_;have ax:d2.Z0.length<2 ^ 63:=J;have ay:=C.many;have az:=C.small;obtain⟨nc,v⟩:=Ε e.cells.length;rw[<-v] at ay;obtain⟨T,V⟩:=Ε ([ZD s.χ,ZM s.θ,Sv s.cells]);obtain⟨X,Y⟩:=Ε ([ZD B.χ,ZM B.θ,Sv B.cells]);obtain⟨Z,aa⟩:=Ε ([ZD e.χ,ZM e.θ,Sv e.cells]);refine YQ ?_;refine YY (A:=[11]) Ο λw i=>Z9 ?_;refine re e az (.refl _) (by simp[Ψ.cells,YD]) ?_;simp[Mo,Mn]
 repeat (rw[Θ];simp[Mo,Mn])
 try rw[Sy]
 apply i;obtain⟨o,af⟩:=Ε (YI (ZD e.χ) (ZM e.θ) (.ms 3 nc 0 nc));refine W.to (σ':=ZF d2::.dead::.dead::.cells 60 1 (W8 4 e.cells)::(WC e.cells++[o])) (env':=[(2,.Δ 0 1 0 0),(3,.ξ T),(4,.ξ [I p.YX,I p.seen,I p.bare]),(7,.ξ X),(8,.ξ Z),(11,.Δ (nc+4) 1 0 0)]) ?_ (by rw[af];simp[v]) (by simp[v,Mn,V,Y,aa]);have ab:∀(R:Ξ),R.length=nc->(R++[o])[nc]?=some (YI (ZD e.χ) (ZM e.θ) (.ms 3 nc 0 nc)):=λR h=>by rw[<-h,Xj (Z6 _),Ps,af,<-h];rfl
 have ad:(WC e.cells).length=nc:=by rw[Mn,v]
 have F:=ab _ ad
 have M:(W8 4 e.cells).length=nc:=by rw[Mo,v]
 refine Ι (Υ F M) ?_;refine W.qY (ι:=List (List YV)×Zd) (λq=>q.1.length=nc/\q.2.Z0.length<=d.Z0.length/\Room s ⟨e.χ,e.θ,q.1⟩)
  (λq=>[(3,.ξ T),(7,.ξ X),(8,.ξ Z),(11,.Δ (nc+4) 1 0 0)]) (λq=>ZF q.2::.dead::.dead::.cells 60 1 (W8 4 q.1)::(WC q.1++[o])) ?_ (λq N=>?_)
 .by_cases aA:nc=0
  .refine Η (by simp[aA]) ?_;refine W.skip ?_;refine W.stop ⟨U,(e.cells,d2),⟨v.symm,by simp only;omega,.inr (.inl C)⟩,U,Ω⟩
  refine Ζ (by simp;omega) ?_;have aB:i64.wrap ((nc:Int)-1)=(nc:Int)-1:=i64_in _ J;have m:=Ud d2 ax ((nc:Int)-1);obtain⟨ag,ah⟩:=SQ d2 ((nc:Int)-1) J J;obtain⟨ai,aj⟩:=ZG (W9 d2 ((nc:Int)-1));rw[aj] at m ag ah;obtain⟨c,rfl⟩:∃c:Nat,ai=c:=⟨ai.toNat,J⟩;have aC:=WE d2 ((nc:Int)-1);obtain⟨d3,O⟩:=ZG (d2.after ((nc:Int)-1));rw[O] at m aC;have aD:c<nc:=J;clear aj O ag ah;refine XD (Υ F (Υ M aB)) λw i=>?_;refine YM.g (m) (Z9 ?_);apply i;have ak:c<e.cells.length:=J;have H:=Z7 ak;obtain⟨n,aE⟩:=Ε (e.cells[c]);rw[<-aE] at H;have aS:=(C.cells n (Y1 H)).hi;obtain⟨f,P⟩:=Ε (e.cells.set c (n++[p]));have K:f.length=nc:=by rw[P,Mc,v]
  have Q:Room s ⟨e.χ,e.θ,f⟩:=.inr (.inr ⟨e,c,p,C,ak,by unfold ω.more;rw[H,P];rfl⟩)
  have S:(W8 4 e.cells)[c]?=some (.ms (c+4) n.length 0 n.length):=by rw[AW,H,Mb];rfl
  have al:(WC e.cells++[o])[c]?=some (.cells 28 3 (n.map Zi)):=by rw[Yz J,AV,H];rfl
  have am:(W8 4 e.cells).set c (.ms (c+4) (n.length+1) 0 (n.length+1))=W8 4 f:=by rw[P,q',Mb 4 c,Vz];rfl
  have an:(WC e.cells).set c (.cells 28 3 (n.map Zi++[Zi p]))=WC f:=by rw[P,q9,XA];rfl
  obtain⟨aF,ao⟩:=Ε (W8 4 e.cells);obtain⟨R,ap⟩:=Ε (WC e.cells);rw[<-ao] at M S am ⊢;rw[<-ap] at ad F al an ⊢;clear ao ap;have aG:∀z,(R++[o]).set c z=R.set c z++[o]:=λz=>List.set_append_left _ _ J;have aH:∀z,(R.set c z++[o])[c]?=some z:=λz=>by rw[Yz (by rw[Mc];omega),V0 J]
  have aI:∀z,(R.set c z++[o])[nc]?=some (YI (ZD e.χ) (ZM e.θ) (.ms 3 nc 0 nc)):=λz=>ab _ (by simpa using ad)
  have aJ:∀h,aF[c]'h=.ms (c+4) n.length 0 n.length:=λh=>by rw[Z7 h] at S;exact WW S
  repeat apply Ν
  refine W.AZ [0,1,3,4,6,7] [10] [3,nc+4] (A:=[43]) Ο mixed λw i=>?_;simp[F]
  repeat (rw[A4];simp[A6,seen,Re,F,aI,M,S,aJ,al,aG,aH,aD])
  try rw[A5]
  refine⟨J,Hb Zr,i _ _ ?_⟩;refine W.stop ⟨U,(f,d3),⟨K,by simp only;omega,Q⟩,by rw[<-am,<-an];(try simp[Zi]),Ω⟩
 obtain⟨f,d3⟩:=q;obtain⟨K,O,Q⟩:=N;simp only at K O Q ⊢;have aK:(WC f).length=nc:=by rw[Mn,K]
 have aL:=ab _ aK;refine W.cut 1 (Z6 _) [(3,.ξ T),(7,.ξ X),(8,.ξ Z),(11,.ξ [ZD e.χ,ZM e.θ,Sv f])] Ω (λid r aT u=>by
  obtain rfl:id=0:=J;simp at u;subst u;exact SP d3 _) (λq N=>by
  simp only[Y9,Yb,or_false] at N;rcases N with rfl|rfl|rfl|rfl
  .exact .low (by simp[V,Ψ.cells,YD])
  .exact .low (by simp[Y,Ψ.cells,YD])
  .exact .low (by simp[aa,Ψ.cells,YD])
  .refine X'.struct (id:=nc+4) (t:=26) (k:=3) (l:=[ZD e.χ,ZM e.θ,.ms 3 nc 0 nc]) J (by simp[aL]) U (λy a aU m D=>?_)
   match y with
   | 0=>simp at m D;subst m;subst D;exact .low (by simp[Ψ.cells,YD])
   | 1=>simp at m D;subst m;subst D;exact .low (by simp[Ψ.cells,YD])
   | 2=>
    simp at m D;subst m;subst D;have:=q7 (h:=1) (b:=4) (id:=3) (σ:=ZF d3::.dead::.dead::.cells 60 1 (W8 4 f)::(WC f++[o])) (L:=f) ZT ZT (λj l aq=>by
     have aM:j<(WC f).length:=by rw[Mn];exact(Zo.1 aq).1
     rw[show 4+j=j+4 by omega];simp only[List.getElem?_cons_succ];rw[Yz aM,AV,aq];rfl) U
    rw[K] at this;exact this
   | y+3=>simp at m) ?_
 rw[List.take_succ_cons,List.take_zero,V,Y,aa];refine Χ ?_;refine W.ret ⟨_,U,[s,B,e,⟨e.χ,e.θ,f⟩],d3,.refl _,U,λx ar=>?_,U,J⟩;simp only[Y9,Yb,or_false] at ar;rcases ar with rfl|rfl|rfl|rfl
 .exact .inl U
 .exact .inr (.inl au)
 .exact .inr (.inl C)
 .exact Q
theorem AT (s:ω) (v:s.small):Κ prog 31 [Zq s,Zq s] (ν true):=by
 obtain⟨F,H,K,w,y⟩:=v;have o:=Jc s.θ s.θ J (λx B=>by have:=w x B;omega);simp only[beq_self_eq_true] at o;refine Μ.body Ο func31 U U ntmps31 U U Ω ?_
 repeat apply Ν
 refine Xh ?_
 repeat apply Ν
 refine W.Xq (A:=[]) Ο [(31,ν false),(2,ZV s),(3,ZV s)] [] ?_ (by
  (try simp);(repeat (rw[Θ];simp));(try simp);refine Κ.c o (ZN.refl _) Ω Ω ?_;(try simp);(repeat (rw[Θ];simp));(try simp))
 refine Η U ?_;refine Χ ?_;refine W.iter (λi:Nat=>i<=s.χ.length) (λi=>[(2,ZV s),(3,ZV s),(5,I i)]) (λ_=>[]) (λi=>s.χ.length-i) 0 (Α _) U Ω (λi hi m=>?_);by_cases a:i<s.χ.length
 .have d:(i:Int)<(s.χ.length:Int):=J
  have b:=Z7 a;obtain⟨g,e⟩:=Ε (s.χ[i]);rw[<-e] at b;have f:∀h,s.χ[i]'h=g:=λh=>e.symm;have j:=X3 (i:=i) J;refine Ι d ?_;refine Ζ Ω ?_
  repeat apply Ν
  refine W.Uo (A:=[]) Ο mixed [(49,ν false),(2,ZV s),(3,ZV s),(5,I i)] [] ?_ (by
   have C:(g.name==g.name)=true:=by
    show(g.name.data==g.name.data)=true;simp
   simp;(repeat (rw[Z1];simp[b,f,a,C]));(try rw[Z2]);refine⟨Yq Zr,?_⟩;simp)
  refine Η U ?_;refine Ι j ?_;exact W.to (m (i+1) a J) U (by simp[j])
 have d:¬(i:Int)<(s.χ.length:Int):=J;clear m;refine Ι d ?_;refine Η Ω ?_;refine W.exit U ?_;refine Χ ?_;refine W.iter (λi:Nat=>i<=s.cells.length) (λi=>[(2,ZV s),(3,ZV s),(6,I i)]) (λ_=>[]) (λi=>s.cells.length-i) 0 (Α _) U Ω (λi hi m=>?_);by_cases a:i<s.cells.length
 .have d:(i:Int)<(s.cells.length:Int):=J
  have b:=Z7 a;obtain⟨g,e⟩:=Ε (s.cells[i]);have L:=y g (e▸Yx a);rw[<-e] at b;have f:∀h,s.cells[i]'h=g:=λh=>e.symm;have j:=X3 (i:=i) J;refine Ι d ?_;refine Ζ Ω ?_
  repeat apply Ν
  refine W.Uo (A:=[]) Ο mixed [(69,ν false),(2,ZV s),(3,ZV s),(6,I i)] [] ?_ (by
   simp;(repeat (rw[Z1];simp[b,f,a]));(try rw[Z2]);refine⟨Yq Zr,?_⟩;simp)
  refine Η U ?_;refine Χ ?_;refine W.iter (λk:Nat=>k<=g.length) (λk=>[(2,ZV s),(3,ZV s),(6,I i),(7,I k)]) (λ_=>[]) (λk=>g.length-k) 0 (Α _) U Ω (λk M D=>?_);by_cases l:k<g.length
  .have n:(k:Int)<(g.length:Int):=J
   have r:=Z7 l;obtain⟨p,t⟩:=Ε (g[k]);rw[<-t] at r;have E:∀h,g[k]'h=p:=λh=>t.symm;have u:=X3 (i:=k) J;refine Ι (Υ b (Υ f (Υ a n))) ?_;refine Ζ (by simp[l]) ?_
   repeat apply Ν
   refine W.Uo (A:=[]) Ο mixed [(96,ν false),(2,ZV s),(3,ZV s),(6,I i),(7,I k)] [] ?_ (by
    simp;(repeat (rw[Z1];simp[b,f,a,r,E,l]));(try rw[Z2]);refine⟨Yq Zr,?_⟩;simp)
   refine Η U ?_;refine Ι u ?_;exact W.to (D (k+1) l J) U (by simp[u])
  have n:¬(k:Int)<(g.length:Int):=J;refine Ι (Υ b (Υ f (Υ a n))) ?_;refine Η (by simp[l]) ?_;refine W.exit U ?_;refine Ι j ?_;exact W.to (m (i+1) a J) U (by simp[j])
 have d:¬(i:Int)<(s.cells.length:Int):=J;refine Ι d ?_;refine Η Ω ?_;refine W.exit U ?_;refine Χ ?_;refine W.rt ?_;exact .of U
end Go.TL
namespace Go.TL
open Go.IntWalk (i64_in)
open Go.IntKind (i64 u64)
open Go.Proofs.Tryz
open Go.Proofs
theorem AS (s:ω):@SV Ue s (Xl s):=λh=>by
 letI:ZP:=Ue;have:=rZ (ON h) h;unfold Xl;rw[if_pos h];exact this
variable [ZP]
theorem AR (s:ω):NL s (Xl s):=λh=>⟨ON h,by unfold Xl;rw[if_pos h]⟩
theorem Ft {s:ω} (h:Xl s≠[]):s.err=0/\Xl s=Y' s/\Y' s≠[]:=by
 unfold Xl at h ⊢;by_cases b:s.err=0
 .rw[if_pos b] at h ⊢;exact⟨b,U,h⟩
 .rw[if_neg b] at h;exact absurd U h
theorem AQ {s:ω} (h:Xl s≠[]) (lower:Bool):NM s (Xl s) lower 255:=by
 obtain⟨a,b,c⟩:=Ft h;rw[b];exact Mp (ON a) c lower
theorem AP (s:ω) (lower:Bool) (c:Nat):(X0 (Xl s) c lower).length<2 ^ 40:=by
 unfold Xl;split
 .rename_i h;exact ra (ON h) lower c
 .rw[show X0 [] c lower=[] by unfold X0 X4;simp[TW,Yg]];decide
end Go.TL
namespace Go.TL
open Go.IntWalk (i64_in)
open Go.IntKind (i64 u64)
open Go.Proofs.Tryz
open Go.Proofs
variable [ZP]
theorem AO (s:ω):Κ prog 20 [Zq s] (ν s.PS):=by
 refine Μ.body Ο func20 U U ntmps20 U U Ω ?_;by_cases g:(20:Int)<s.χ.length\/(20:Int)<s.θ.length\/(20:Int)<s.cells.length
 .have n:s.PS=true:=by
   unfold ω.PS;have:20<s.χ.length\/20<s.θ.length\/20<s.cells.length:=J;rcases this with h|h|h<;>simp[h]
  rw[n];by_cases d:(20:Int)<s.χ.length
  .refine Ι @d ?_;refine Ζ U ?_;refine Χ ?_;exact W.XL
  by_cases f:(20:Int)<s.θ.length
  .refine Ι (Υ @d f) ?_;refine Ζ U ?_;refine Χ ?_;exact W.XL
  have k:(20:Int)<s.cells.length:=J;refine Ι (Υ @d (Υ f k)) ?_;refine Ζ U ?_;refine Χ ?_;exact W.XL
 have d:¬(20:Int)<s.χ.length:=λh=>g (.inl h)
 have f:¬(20:Int)<s.θ.length:=λh=>g (.inr (.inl h))
 have k:¬(20:Int)<s.cells.length:=λh=>g (.inr (.inr h))
 have el:s.PS=(s.θ.any (λx=>decide (20<x.length))||s.cells.any λx=>decide (20<x.length)):=by
  unfold ω.PS;have o:¬20<s.χ.length:=J;have p:¬20<s.θ.length:=J;have r:¬20<s.cells.length:=J;simp only[o,p,r,decide_false,Bool.false_or]
 rw[el];clear el;refine Ι (Υ @d (Υ f k)) ?_;refine Η U ?_;refine Χ ?_;refine W.iter (λi:Nat=>i<=s.θ.length/\∀j,j<i->(h:j<s.θ.length)->¬20<s.θ[j].length) (λi=>[(1,ZV s),(3,I i)]) (λ_=>[]) (λi=>s.θ.length-i) 0 ⟨Α _,λj c=>J⟩ U Ω (λi hi l=>?_);refine Χ ?_;refine W.YH U (λa=>?_) (λa=>?_)
 .have a:i<s.θ.length:=by simpa using a
  refine Ι a ?_;refine W.YH U (λb=>?_) (λb=>?_)
  .have b:20<s.θ[i].length:=by simp at b;omega
   refine Χ ?_;refine W.rt ?_;refine .of ?_;have:(s.θ.any λx=>decide (20<x.length))=true:=Me.2 ⟨_,Yx a,by simpa using b⟩;rw[this,Bool.true_or];rfl
  .have b:¬20<s.θ[i].length:=by simp at b;omega
   refine Χ ?_;refine W.forget _ ?_ (l (i+1) ⟨a,λj c h=>?_⟩ J)
   .simp[Yn a (show s.θ.length<2 ^ 62 by omega)]
   .by_cases e:j=i
    .subst e;exact b
    .exact hi.2 j J h
 have a:i=s.θ.length:=by simp at a;omega
 have el:(s.θ.any λx=>decide (20<x.length))=false:=by
  rw[Pw];intro x m;obtain⟨j,c,rfl⟩:=S8 m;simpa using hi.2 j J c
 rw[el,Bool.false_or];refine W.exit U ?_;refine Χ ?_;refine W.iter (λi:Nat=>i<=s.cells.length/\∀j,j<i->(h:j<s.cells.length)->¬20<s.cells[j].length) (λi=>[(1,ZV s),(4,I i)]) (λ_=>[]) (λi=>s.cells.length-i) 0 ⟨Α _,λj c=>J⟩ U Ω (λi hi l=>?_);refine Χ ?_;refine W.YH U (λa=>?_) (λa=>?_)
 .have a:i<s.cells.length:=by simpa using a
  refine Ι a ?_;refine W.YH U (λb=>?_) (λb=>?_)
  .have b:20<s.cells[i].length:=by simp at b;omega
   refine Χ ?_;refine W.rt ?_;refine .of ?_;have:(s.cells.any λx=>decide (20<x.length))=true:=Me.2 ⟨_,Yx a,by simpa using b⟩;rw[this];rfl
  .have b:¬20<s.cells[i].length:=by simp at b;omega
   refine Χ ?_;refine W.forget _ ?_ (l (i+1) ⟨a,λj c h=>?_⟩ J)
   .simp[Yn a (show s.cells.length<2 ^ 62 by omega)]
   .by_cases e:j=i
    .subst e;exact b
    .exact hi.2 j J h
 have a:i=s.cells.length:=by simp at a;omega
 have el:(s.cells.any λx=>decide (20<x.length))=false:=by
  rw[Pw];intro x m;obtain⟨j,c,rfl⟩:=S8 m;simpa using hi.2 j J c
 rw[el];refine W.exit U ?_;refine Χ ?_;exact W.XL
theorem AN {s:ω} (h:s.PS=false):s.small:=by
 unfold ω.PS at h;simp only[Bool.or_eq_false_iff,decide_eq_false_iff_not,Pw,decide_eq_true_eq] at h;obtain⟨⟨⟨⟨d,e⟩,f⟩,b⟩,c⟩:=h;exact⟨J,J,J,λx a=>by have:=b x a;omega,λx a=>by have:=c x a;omega⟩
end Go.TL
