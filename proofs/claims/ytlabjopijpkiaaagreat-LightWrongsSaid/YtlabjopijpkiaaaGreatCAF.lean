import Derived.Sort.LotA
import Derived.Test.YtlabjopijpkiaaaGreatCAE
set_option maxHeartbeats 16000000
set_option maxRecDepth 20000
set_option linter.unusedSectionVars false
set_option linter.unusedSimpArgs false
set_option linter.unusedVariables false
namespace Go.TL
open Go.Proofs.Tryz
open Go.Sort (SWO bitsLen insInner insOuter insertionSort_holds ltInt sorted_unique_holds swo_ltInt swp)
open Go.Proofs
variable [ZN]
instance:Inhabited Found:=⟨⟨0,0,[]⟩⟩
abbrev Uj (r:Int×Int):I:=.sl true 1 [R r.1,R r.2]
theorem Ej (d:Array (Int×Int)) (n a b:Nat) (V:d.size=n) (ah:a<=b) (ai:b<=n) (aj:n<2 ^ 40) (l:I) (c:Int×Int->Int×Int->Int) (ak:ψ 0 l) (X:∀x y,Xu prog l [Zh x,Zh y] (R (c x y))) :
  Μ prog 234 [.ms 0 n 0 n,R a,R b,l] [.cells 112 2 (d.toList.map Zh)] (λr s=>r=.ZV []/\s=[.cells 112 2 ((Go.Sort.insertionSort (χ c) d a b).toList.map Zh)]) (λ_ _=>False):=by
 refine Μ.body Υ func234 rfl rfl ntmps234 rfl rfl J ?_;refine Χ ?_;have Y:=XW (show a+1<2 ^ 62 by omega);refine W.iter (λq:Nat×Array (Int×Int)=>q.2.size=n/\insOuter (χ c) a b q.1 q.2=Go.Sort.insertionSort (χ c) d a b) (λq=>[(0,.ms 0 n 0 n),(1,R a),(2,R b),(3,l),(8,R q.1)]) (λq=>[.cells 112 2 (q.2.toList.map Zh)]) (λq=>b-q.1) (a+1,d) ⟨V,rfl⟩ rfl (by simpa using Y) (λq hi H=>?_);obtain⟨i,e⟩:=q;obtain⟨K,B⟩:=hi;simp only at K B;refine Χ ?_;by_cases o:i<b
 .refine Γ (by simp[o]) ?_;refine Χ ?_;refine W.iter (λq:Nat×Array (Int×Int)=>q.2.size=n/\q.1<=i/\insInner (χ c) a q.1 q.2=insInner (χ c) a i e) (λq=>[(0,.ms 0 n 0 n),(1,R a),(2,R b),(3,l),(8,R i),(9,R q.1)]) (λq=>[.cells 112 2 (q.2.toList.map Zh)]) (λq=>q.1) (i,e) ⟨K,Z1 _,rfl⟩ rfl J (λq g Z=>?_);obtain⟨j,f⟩:=q;obtain⟨m,aa,C⟩:=g;simp only at m aa C;have M:insInner (χ c) a j f=f->insOuter (χ c) a b (i+1) f=Go.Sort.insertionSort (χ c) d a b:=λhd=>by
   rw[<-B,<-hd,C];conv=>rhs;rw[insOuter,if_pos o]
  obtain⟨L,k⟩:=Ι (f.toList.map Zh);have N:L.length=n:=by rw[k];simpa using m
  refine W.to (σ':=[.cells 112 2 L]) (env':=[(0,.ms 0 n 0 n),(1,R a),(2,R b),(3,l),(8,R i),(9,R j)]) ?_ (by rw[k]) J
  repeat apply Ξ
  by_cases g:a<j
  .obtain⟨p,O⟩:∃p,j=p+1:=⟨j-1,U⟩;have D:IntKind.i64.wrap ((j:Int)-1)=(p:Int):=by have:=XW (show p<2 ^ 62 by omega);rw[O];simpa using this
   have P:j<n:=U
   have Q:p<n:=U
   have ab:¬j=p:=U;obtain⟨x,t⟩:=Ι (f[j]!);obtain⟨y,u⟩:=Ι (f[p]!);have E:L[j]?=some (Zh x):=by rw[k,t,Yh,Wl,P3 U];rfl
   have F:L[p]?=some (Zh y):=by rw[k,u,Yh,Wl,P3 U];rfl
   have S:∀h:j<L.length,L[j]=Zh x:=λh=>by have:=E;rw[ε h] at this;exact W3 this
   have T:∀h:p<L.length,L[p]=Zh y:=λh=>by have:=F;rw[ε h] at this;exact W3 this
   have v:insInner (χ c) a j f=if χ c x y=true then insInner (χ c) a p (swp f j p) else f:=by
    subst O;rw[insInner,t,u];simp[g]
   have ad:(swp f j p).toList.map Zh=(L.set j (Zh y)).set p (Zh x):=by rw[k,t,u];simp[swp]
   have ae:(swp f j p).size=n:=by simp[swp,m]
   have af:=k;clear t u;refine W.draw (A:=[]) Υ mixed λal ag=>Ve (Τ g (Τ D (Τ N (Τ P (Τ Q (Τ E (Τ F (Τ S T)))))))) ?_;refine Ys (X x y) ?_;simp;(repeat (rw[ZG];simp));try rw[ZH]
   refine YF (ag _ _ ?_);by_cases w:c x y<0
   .refine Γ (by simp[w]) ?_
    repeat apply Ξ
    refine W0 (Τ g (Τ D (Τ N (Τ P (Τ Q (Τ E (Τ F (Τ S (Τ T ab))))))))) ?_;refine Χ ?_;refine W.to (Z (p,swp f j p) ⟨ae,by simp;omega,?_⟩ (by simp;omega)) ?_ ?_
    .rw[<-C,v,if_pos (by simp[χ,ltInt,w])]
    .rw[ad]
    .simp[D]
   .refine Η (by simp[w]) ?_;refine W.exit rfl ?_;refine Χ ?_;refine W.to (H (i+1,f) ⟨m,M (by rw[v,if_neg (by simp[χ,ltInt,w])])⟩ (by simp;omega)) (by rw[af]) ?_;have:=XW (show i+1<2 ^ 62 by omega);simpa using this
  .have v:insInner (χ c) a j f=f:=by
    cases j with
    | zero=>rfl
    | succ p=>rw[insInner];simp[g]
   refine W0 g ?_;refine Η rfl ?_;refine W.exit rfl ?_;refine Χ ?_;refine W.to (H (i+1,f) ⟨m,M v⟩ (by simp;omega)) (by rw[k]) ?_;have:=XW (show i+1<2 ^ 62 by omega);simpa using this
 .refine Η (by simp[o]) ?_;refine W.exit rfl ?_;have Φ:insOuter (χ c) a b i e=e:=by rw[insOuter,if_neg o]
  exact W.nil ⟨_,rfl,rfl,by rw[<-B,Φ]⟩
theorem yp (d:Array (Found)) (n a b:Nat) (V:d.size=n) (ah:a<=b) (ai:b<=n) (aj:n<2 ^ 40) (l:I) (c:Found->Found->Int) (ak:ψ 0 l) (X:∀x y,Xu prog l [YK x,YK y] (R (c x y))) :
  Μ prog 217 [.ms 0 n 0 n,R a,R b,l] [.cells 110 3 (d.toList.map YK)] (λr s=>r=.ZV []/\s=[.cells 110 3 ((Go.Sort.insertionSort (χ c) d a b).toList.map YK)]) (λ_ _=>False):=by
 refine Μ.body Υ func217 rfl rfl ntmps217 rfl rfl J ?_;refine Χ ?_;have Y:=XW (show a+1<2 ^ 62 by omega);refine W.iter (λq:Nat×Array (Found)=>q.2.size=n/\insOuter (χ c) a b q.1 q.2=Go.Sort.insertionSort (χ c) d a b) (λq=>[(0,.ms 0 n 0 n),(1,R a),(2,R b),(3,l),(8,R q.1)]) (λq=>[.cells 110 3 (q.2.toList.map YK)]) (λq=>b-q.1) (a+1,d) ⟨V,rfl⟩ rfl (by simpa using Y) (λq hi H=>?_);obtain⟨i,e⟩:=q;obtain⟨K,B⟩:=hi;simp only at K B;refine Χ ?_;by_cases o:i<b
 .refine Γ (by simp[o]) ?_;refine Χ ?_;refine W.iter (λq:Nat×Array (Found)=>q.2.size=n/\q.1<=i/\insInner (χ c) a q.1 q.2=insInner (χ c) a i e) (λq=>[(0,.ms 0 n 0 n),(1,R a),(2,R b),(3,l),(8,R i),(9,R q.1)]) (λq=>[.cells 110 3 (q.2.toList.map YK)]) (λq=>q.1) (i,e) ⟨K,Z1 _,rfl⟩ rfl J (λq g Z=>?_);obtain⟨j,f⟩:=q;obtain⟨m,aa,C⟩:=g;simp only at m aa C;have M:insInner (χ c) a j f=f->insOuter (χ c) a b (i+1) f=Go.Sort.insertionSort (χ c) d a b:=λhd=>by
   rw[<-B,<-hd,C];conv=>rhs;rw[insOuter,if_pos o]
  obtain⟨L,k⟩:=Ι (f.toList.map YK);have N:L.length=n:=by rw[k];simpa using m
  refine W.to (σ':=[.cells 110 3 L]) (env':=[(0,.ms 0 n 0 n),(1,R a),(2,R b),(3,l),(8,R i),(9,R j)]) ?_ (by rw[k]) J
  repeat apply Ξ
  by_cases g:a<j
  .obtain⟨p,O⟩:∃p,j=p+1:=⟨j-1,U⟩;have D:IntKind.i64.wrap ((j:Int)-1)=(p:Int):=by have:=XW (show p<2 ^ 62 by omega);rw[O];simpa using this
   have P:j<n:=U
   have Q:p<n:=U
   have ab:¬j=p:=U;obtain⟨x,t⟩:=Ι (f[j]!);obtain⟨y,u⟩:=Ι (f[p]!);have E:L[j]?=some (YK x):=by rw[k,t,Yh,Wl,P3 U];rfl
   have F:L[p]?=some (YK y):=by rw[k,u,Yh,Wl,P3 U];rfl
   have S:∀h:j<L.length,L[j]=YK x:=λh=>by have:=E;rw[ε h] at this;exact W3 this
   have T:∀h:p<L.length,L[p]=YK y:=λh=>by have:=F;rw[ε h] at this;exact W3 this
   have v:insInner (χ c) a j f=if χ c x y=true then insInner (χ c) a p (swp f j p) else f:=by
    subst O;rw[insInner,t,u];simp[g]
   have ad:(swp f j p).toList.map YK=(L.set j (YK y)).set p (YK x):=by rw[k,t,u];simp[swp]
   have ae:(swp f j p).size=n:=by simp[swp,m]
   have af:=k;clear t u;refine W.draw (A:=[]) Υ mixed λal ag=>Ve (Τ g (Τ D (Τ N (Τ P (Τ Q (Τ E (Τ F (Τ S T)))))))) ?_;refine Ys (X x y) ?_;simp;(repeat (rw[ZG];simp));try rw[ZH]
   refine YF (ag _ _ ?_);by_cases w:c x y<0
   .refine Γ (by simp[w]) ?_
    repeat apply Ξ
    refine W0 (Τ g (Τ D (Τ N (Τ P (Τ Q (Τ E (Τ F (Τ S (Τ T ab))))))))) ?_;refine Χ ?_;refine W.to (Z (p,swp f j p) ⟨ae,by simp;omega,?_⟩ (by simp;omega)) ?_ ?_
    .rw[<-C,v,if_pos (by simp[χ,ltInt,w])]
    .rw[ad]
    .simp[D]
   .refine Η (by simp[w]) ?_;refine W.exit rfl ?_;refine Χ ?_;refine W.to (H (i+1,f) ⟨m,M (by rw[v,if_neg (by simp[χ,ltInt,w])])⟩ (by simp;omega)) (by rw[af]) ?_;have:=XW (show i+1<2 ^ 62 by omega);simpa using this
  .have v:insInner (χ c) a j f=f:=by
    cases j with
    | zero=>rfl
    | succ p=>rw[insInner];simp[g]
   refine W0 g ?_;refine Η rfl ?_;refine W.exit rfl ?_;refine Χ ?_;refine W.to (H (i+1,f) ⟨m,M v⟩ (by simp;omega)) (by rw[k]) ?_;have:=XW (show i+1<2 ^ 62 by omega);simpa using this
 .refine Η (by simp[o]) ?_;refine W.exit rfl ?_;have Φ:insOuter (χ c) a b i e=e:=by rw[insOuter,if_neg o]
  exact W.nil ⟨_,rfl,rfl,by rw[<-B,Φ]⟩
theorem yo (d:Array (Int×Int)) (n a b:Nat) (V:d.size=n) (ah:a<=b) (ai:b<=n) (aj:n<2 ^ 40) (l:I) (c:Int×Int->Int×Int->Int) (ak:ψ 0 l) (X:∀x y,Xu prog l [Uj x,Uj y] (R (c x y))) :
  Μ prog 183 [.ms 0 n 0 n,R a,R b,l] [.cells 29 1 (d.toList.map Uj)] (λr s=>r=.ZV []/\s=[.cells 29 1 ((Go.Sort.insertionSort (χ c) d a b).toList.map Uj)]) (λ_ _=>False):=by
 refine Μ.body Υ func183 rfl rfl ntmps183 rfl rfl J ?_;refine Χ ?_;have Y:=XW (show a+1<2 ^ 62 by omega);refine W.iter (λq:Nat×Array (Int×Int)=>q.2.size=n/\insOuter (χ c) a b q.1 q.2=Go.Sort.insertionSort (χ c) d a b) (λq=>[(0,.ms 0 n 0 n),(1,R a),(2,R b),(3,l),(8,R q.1)]) (λq=>[.cells 29 1 (q.2.toList.map Uj)]) (λq=>b-q.1) (a+1,d) ⟨V,rfl⟩ rfl (by simpa using Y) (λq hi H=>?_);obtain⟨i,e⟩:=q;obtain⟨K,B⟩:=hi;simp only at K B;refine Χ ?_;by_cases o:i<b
 .refine Γ (by simp[o]) ?_;refine Χ ?_;refine W.iter (λq:Nat×Array (Int×Int)=>q.2.size=n/\q.1<=i/\insInner (χ c) a q.1 q.2=insInner (χ c) a i e) (λq=>[(0,.ms 0 n 0 n),(1,R a),(2,R b),(3,l),(8,R i),(9,R q.1)]) (λq=>[.cells 29 1 (q.2.toList.map Uj)]) (λq=>q.1) (i,e) ⟨K,Z1 _,rfl⟩ rfl J (λq g Z=>?_);obtain⟨j,f⟩:=q;obtain⟨m,aa,C⟩:=g;simp only at m aa C;have M:insInner (χ c) a j f=f->insOuter (χ c) a b (i+1) f=Go.Sort.insertionSort (χ c) d a b:=λhd=>by
   rw[<-B,<-hd,C];conv=>rhs;rw[insOuter,if_pos o]
  obtain⟨L,k⟩:=Ι (f.toList.map Uj);have N:L.length=n:=by rw[k];simpa using m
  refine W.to (σ':=[.cells 29 1 L]) (env':=[(0,.ms 0 n 0 n),(1,R a),(2,R b),(3,l),(8,R i),(9,R j)]) ?_ (by rw[k]) J
  repeat apply Ξ
  by_cases g:a<j
  .obtain⟨p,O⟩:∃p,j=p+1:=⟨j-1,U⟩;have D:IntKind.i64.wrap ((j:Int)-1)=(p:Int):=by have:=XW (show p<2 ^ 62 by omega);rw[O];simpa using this
   have P:j<n:=U
   have Q:p<n:=U
   have ab:¬j=p:=U;obtain⟨x,t⟩:=Ι (f[j]!);obtain⟨y,u⟩:=Ι (f[p]!);have E:L[j]?=some (Uj x):=by rw[k,t,Yh,Wl,P3 U];rfl
   have F:L[p]?=some (Uj y):=by rw[k,u,Yh,Wl,P3 U];rfl
   have S:∀h:j<L.length,L[j]=Uj x:=λh=>by have:=E;rw[ε h] at this;exact W3 this
   have T:∀h:p<L.length,L[p]=Uj y:=λh=>by have:=F;rw[ε h] at this;exact W3 this
   have v:insInner (χ c) a j f=if χ c x y=true then insInner (χ c) a p (swp f j p) else f:=by
    subst O;rw[insInner,t,u];simp[g]
   have ad:(swp f j p).toList.map Uj=(L.set j (Uj y)).set p (Uj x):=by rw[k,t,u];simp[swp]
   have ae:(swp f j p).size=n:=by simp[swp,m]
   have af:=k;clear t u;refine W.draw (A:=[]) Υ mixed λal ag=>Ve (Τ g (Τ D (Τ N (Τ P (Τ Q (Τ E (Τ F (Τ S T)))))))) ?_;refine Ys (X x y) ?_;simp;(repeat (rw[ZG];simp));try rw[ZH]
   refine YF (ag _ _ ?_);by_cases w:c x y<0
   .refine Γ (by simp[w]) ?_
    repeat apply Ξ
    refine W0 (Τ g (Τ D (Τ N (Τ P (Τ Q (Τ E (Τ F (Τ S (Τ T ab))))))))) ?_;refine Χ ?_;refine W.to (Z (p,swp f j p) ⟨ae,by simp;omega,?_⟩ (by simp;omega)) ?_ ?_
    .rw[<-C,v,if_pos (by simp[χ,ltInt,w])]
    .rw[ad]
    .simp[D]
   .refine Η (by simp[w]) ?_;refine W.exit rfl ?_;refine Χ ?_;refine W.to (H (i+1,f) ⟨m,M (by rw[v,if_neg (by simp[χ,ltInt,w])])⟩ (by simp;omega)) (by rw[af]) ?_;have:=XW (show i+1<2 ^ 62 by omega);simpa using this
  .have v:insInner (χ c) a j f=f:=by
    cases j with
    | zero=>rfl
    | succ p=>rw[insInner];simp[g]
   refine W0 g ?_;refine Η rfl ?_;refine W.exit rfl ?_;refine Χ ?_;refine W.to (H (i+1,f) ⟨m,M v⟩ (by simp;omega)) (by rw[k]) ?_;have:=XW (show i+1<2 ^ 62 by omega);simpa using this
 .refine Η (by simp[o]) ?_;refine W.exit rfl ?_;have Φ:insOuter (χ c) a b i e=e:=by rw[insOuter,if_neg o]
  exact W.nil ⟨_,rfl,rfl,by rw[<-B,Φ]⟩
theorem yn (d:Array (Int)) (n a b:Nat) (Q:d.size=n) (ad:a<=b) (ae:b<=n) (af:n<2 ^ 40)  :
  Μ prog 197 [.ms 0 n 0 n,R a,R b] [.cells 3 1 (d.toList.map R)] (λr s=>r=.ZV []/\s=[.cells 3 1 ((Go.Sort.insertionSort (ltInt) d a b).toList.map R)]) (λ_ _=>False):=by
 refine Μ.body Υ func197 rfl rfl ntmps197 rfl rfl J ?_;refine Χ ?_;have S:=XW (show a+1<2 ^ 62 by omega);refine W.iter (λq:Nat×Array (Int)=>q.2.size=n/\insOuter (ltInt) a b q.1 q.2=Go.Sort.insertionSort (ltInt) d a b) (λq=>[(0,.ms 0 n 0 n),(1,R a),(2,R b),(6,R q.1)]) (λq=>[.cells 3 1 (q.2.toList.map R)]) (λq=>b-q.1) (a+1,d) ⟨Q,rfl⟩ rfl (by simpa using S) (λq hi E=>?_);obtain⟨i,e⟩:=q;obtain⟨F,v⟩:=hi;simp only at F v;refine Χ ?_;by_cases l:i<b
 .refine Γ (by simp[l]) ?_;refine Χ ?_;refine W.iter (λq:Nat×Array (Int)=>q.2.size=n/\q.1<=i/\insInner (ltInt) a q.1 q.2=insInner (ltInt) a i e) (λq=>[(0,.ms 0 n 0 n),(1,R a),(2,R b),(6,R i),(7,R q.1)]) (λq=>[.cells 3 1 (q.2.toList.map R)]) (λq=>q.1) (i,e) ⟨F,Z1 _,rfl⟩ rfl J (λq c T=>?_);obtain⟨j,f⟩:=q;obtain⟨k,V,w⟩:=c;simp only at k V w;have H:insInner (ltInt) a j f=f->insOuter (ltInt) a b (i+1) f=Go.Sort.insertionSort (ltInt) d a b:=λhd=>by
   rw[<-v,<-hd,w];conv=>rhs;rw[insOuter,if_pos l]
  obtain⟨L,g⟩:=Ι (f.toList.map R);have I:L.length=n:=by rw[g];simpa using k
  refine W.to (σ':=[.cells 3 1 L]) (env':=[(0,.ms 0 n 0 n),(1,R a),(2,R b),(6,R i),(7,R j)]) ?_ (by rw[g]) J
  repeat apply Ξ
  by_cases c:a<j
  .obtain⟨p,K⟩:∃p,j=p+1:=⟨j-1,U⟩;have B:IntKind.i64.wrap ((j:Int)-1)=(p:Int):=by have:=XW (show p<2 ^ 62 by omega);rw[K];simpa using this
   have M:j<n:=U
   have N:p<n:=U
   have X:¬j=p:=U;obtain⟨x,m⟩:=Ι (f[j]!);obtain⟨y,o⟩:=Ι (f[p]!);have C:L[j]?=some (R x):=by rw[g,m,Yh,Wl,P3 U];rfl
   have D:L[p]?=some (R y):=by rw[g,o,Yh,Wl,P3 U];rfl
   have O:∀h:j<L.length,L[j]=R x:=λh=>by have:=C;rw[ε h] at this;exact W3 this
   have P:∀h:p<L.length,L[p]=R y:=λh=>by have:=D;rw[ε h] at this;exact W3 this
   have t:insInner (ltInt) a j f=if ltInt x y=true then insInner (ltInt) a p (swp f j p) else f:=by
    subst K;rw[insInner,m,o];simp[c]
   have Y:(swp f j p).toList.map R=(L.set j (R y)).set p (R x):=by rw[g,m,o];simp[swp]
   have Z:(swp f j p).size=n:=by simp[swp,k]
   have aa:=g;clear m o;refine W.draw (A:=[]) Υ mixed λag ab=>Ve (Τ c (Τ B (Τ I (Τ M (Τ N (Τ C (Τ D (Τ O P)))))))) ?_;refine Ys (Κ.p (ys x y) (ZT.refl _) J J) ?_;simp;(repeat (rw[ZG];simp));try rw[ZH]
   refine YF (ab _ _ ?_);by_cases u:x<y
   .refine Γ (by simp[u]) ?_
    repeat apply Ξ
    refine W0 (Τ c (Τ B (Τ I (Τ M (Τ N (Τ C (Τ D (Τ O (Τ P X))))))))) ?_;refine Χ ?_;refine W.to (T (p,swp f j p) ⟨Z,by simp;omega,?_⟩ (by simp;omega)) ?_ ?_
    .rw[<-w,t,if_pos (by simp[χ,ltInt,u])]
    .rw[Y]
    .simp[B]
   .refine Η (by simp[u]) ?_;refine W.exit rfl ?_;refine Χ ?_;refine W.to (E (i+1,f) ⟨k,H (by rw[t,if_neg (by simp[χ,ltInt,u])])⟩ (by simp;omega)) (by rw[aa]) ?_;have:=XW (show i+1<2 ^ 62 by omega);simpa using this
  .have t:insInner (ltInt) a j f=f:=by
    cases j with
    | zero=>rfl
    | succ p=>rw[insInner];simp[c]
   refine W0 c ?_;refine Η rfl ?_;refine W.exit rfl ?_;refine Χ ?_;refine W.to (E (i+1,f) ⟨k,H t⟩ (by simp;omega)) (by rw[g]) ?_;have:=XW (show i+1<2 ^ 62 by omega);simpa using this
 .refine Η (by simp[l]) ?_;refine W.exit rfl ?_;have Φ:insOuter (ltInt) a b i e=e:=by rw[insOuter,if_neg l]
  exact W.nil ⟨_,rfl,rfl,by rw[<-v,Φ]⟩
theorem ym (n:Nat) (h:n<256):Κ prog 192 [.z (.int .u64 n)] (R (bitsLen n)):=by
 refine Μ.body Υ func192 rfl rfl ntmps192 rfl rfl J ?_;have f:¬(n:Int)>=4294967296:=U;have g:¬(n:Int)>=65536:=U;have j:¬(n:Int)>=256:=U;have a:¬(4294967296:Int)<=n:=U;have b:¬(65536:Int)<=n:=U;have c:¬(256:Int)<=n:=U;refine Ζ @a ?_;refine Η rfl ?_;refine Ζ b ?_;refine Η rfl ?_;refine Ζ c ?_;refine Η rfl ?_;have d:IntKind.u8.wrap (n:Int)=n:=by unfold IntKind.wrap;simp[IntKind.bits,IntKind.signed];omega
 refine XX d λk e=>?_;refine⟨Nat.lt_of_lt_of_eq h (by kernel_rfl),?_⟩;apply e;refine Χ ?_;refine W.ret ⟨_,rfl,?_,rfl⟩;refine .of (congrArg (λi=>I.z (.int .i64 i)) ?_);apply yB n h;decide +kernel
theorem Of (n:Nat) (h:n<256):Κ prog 150 [.z (.int .u64 n)] (R (bitsLen n)):=by
 refine Μ.body Υ func150 rfl rfl ntmps150 rfl rfl J ?_;refine Χ ?_;refine Η rfl ?_;refine ZP λb a=>?_;refine Κ.d (ym n h) (ZY ?_);apply a;refine Χ ?_;refine W.rt ?_;exact .of rfl
theorem P2 (y:Int×Int):∀a∈(Zh y).cells,ψ 0 a:=by simp[I.cells]
theorem Ng (y:Found):∀a∈(YK y).cells,ψ 0 a:=by simp[I.cells]
theorem Ei (y:Int×Int):∀a∈(Uj y).cells,ψ 0 a:=by simp[I.cells]
theorem Pj (y:Int):∀a∈(R y).cells,ψ 0 a:=by simp[I.cells]
theorem yl (d:Array (Int×Int)) (n i:Nat) (j:d.size=n) (p:n<=12) (b:I) (c:Int×Int->Int×Int->Int) (f:ψ 0 b) (k:∀x y,Xu prog b [Zh x,Zh y] (R (c x y))) :
  Μ prog 211 [.ms 0 n 0 n,R 0,R n,R i,b] [.cells 112 2 (d.toList.map Zh)] (λr s=>r=.ZV []/\s=[.cells 112 2 ((Go.Sort.insertionSort (χ c) d 0 n).toList.map Zh)]) (λ_ _=>False):=by
 refine Μ.body Υ func211 rfl rfl ntmps211 rfl rfl J ?_;have l:=XW (show n<2 ^ 62 by omega);have Φ:(n:Int)<=12:=U;refine Χ ?_;refine .loop ?_;refine Ζ l ?_;refine Γ (by simp;omega) ?_;refine ZP λt m=>?_;refine Μ.one (Ej d n 0 n j (Ε _) (Z1 _) U b c f k) 0 rfl (λe g a h=>by
  obtain⟨y,o,rfl⟩:=Zd.1 g;exact P2 y a h) (λe g a h=>by
  obtain⟨y,o,rfl⟩:=Zd.1 g;exact P2 y a h) (by simp[TS,Og,f.WA 1]) (by simp[Xh]) (by simp[TR,TQ,f.Yk [0]]) ?_
 simp[Yk,Wf];(repeat (rw[Ν];simp));apply m;exact W.ret ⟨_,rfl,rfl,rfl⟩
theorem yk (d:Array (Int×Int)) (n:Nat) (c:d.size=n) (j:n<=12) (b:I) (f:Int×Int->Int×Int->Int) (g:ψ 0 b) (k:∀x y,Xu prog b [Zh x,Zh y] (R (f x y))) :
  Μ prog 173 [.ms 0 n 0 n,b] [.cells 112 2 (d.toList.map Zh)] (λr s=>r=.ZV []/\s=[.cells 112 2 ((Go.Sort.insertionSort (χ f) d 0 n).toList.map Zh)]) (λ_ _=>False):=by
 refine Μ.body Υ func173 rfl rfl ntmps173 rfl rfl J ?_;have l:=XW (show n<2 ^ 62 by omega);have Φ:IntKind.u64.wrap (n:Int)=n:=by unfold IntKind.wrap;simp[IntKind.bits,IntKind.signed];omega
 refine Ζ c ?_;(repeat apply Ξ);refine Y8 λp m=>?_;simp;(repeat (rw[Ν];simp[c,l,Φ]));refine Κ.d (Of n U) (ZY ?_);refine Μ.one (yl d n (bitsLen n) c j b f g k) 0 rfl (λe h a i=>by
  obtain⟨y,o,rfl⟩:=Zd.1 h;exact P2 y a i) (λe h a i=>by
  obtain⟨y,o,rfl⟩:=Zd.1 h;exact P2 y a i) (by simp[TS,Og,g.WA 1]) (by simp[Xh]) (by simp[TR,TQ,g.Yk [0]]) ?_
 simp[Yk,Wf];(repeat (rw[Ν];simp));apply m;exact W.nil ⟨_,rfl,rfl,rfl⟩
theorem yj (d:Array (Found)) (n i:Nat) (j:d.size=n) (p:n<=12) (b:I) (c:Found->Found->Int) (f:ψ 0 b) (k:∀x y,Xu prog b [YK x,YK y] (R (c x y))) :
  Μ prog 182 [.ms 0 n 0 n,R 0,R n,R i,b] [.cells 110 3 (d.toList.map YK)] (λr s=>r=.ZV []/\s=[.cells 110 3 ((Go.Sort.insertionSort (χ c) d 0 n).toList.map YK)]) (λ_ _=>False):=by
 refine Μ.body Υ func182 rfl rfl ntmps182 rfl rfl J ?_;have l:=XW (show n<2 ^ 62 by omega);have Φ:(n:Int)<=12:=U;refine Χ ?_;refine .loop ?_;refine Ζ l ?_;refine Γ (by simp;omega) ?_;refine ZP λt m=>?_;refine Μ.one (yp d n 0 n j (Ε _) (Z1 _) U b c f k) 0 rfl (λe g a h=>by
  obtain⟨y,o,rfl⟩:=Zd.1 g;exact Ng y a h) (λe g a h=>by
  obtain⟨y,o,rfl⟩:=Zd.1 g;exact Ng y a h) (by simp[TS,Og,f.WA 1]) (by simp[Xh]) (by simp[TR,TQ,f.Yk [0]]) ?_
 simp[Yk,Wf];(repeat (rw[Ν];simp));apply m;exact W.ret ⟨_,rfl,rfl,rfl⟩
theorem yi (d:Array (Found)) (n:Nat) (c:d.size=n) (j:n<=12) (b:I) (f:Found->Found->Int) (g:ψ 0 b) (k:∀x y,Xu prog b [YK x,YK y] (R (f x y))) :
  Μ prog 147 [.ms 0 n 0 n,b] [.cells 110 3 (d.toList.map YK)] (λr s=>r=.ZV []/\s=[.cells 110 3 ((Go.Sort.insertionSort (χ f) d 0 n).toList.map YK)]) (λ_ _=>False):=by
 refine Μ.body Υ func147 rfl rfl ntmps147 rfl rfl J ?_;have l:=XW (show n<2 ^ 62 by omega);have Φ:IntKind.u64.wrap (n:Int)=n:=by unfold IntKind.wrap;simp[IntKind.bits,IntKind.signed];omega
 refine Ζ c ?_;(repeat apply Ξ);refine Y8 λp m=>?_;simp;(repeat (rw[Ν];simp[c,l,Φ]));refine Κ.d (Of n U) (ZY ?_);refine Μ.one (yj d n (bitsLen n) c j b f g k) 0 rfl (λe h a i=>by
  obtain⟨y,o,rfl⟩:=Zd.1 h;exact Ng y a i) (λe h a i=>by
  obtain⟨y,o,rfl⟩:=Zd.1 h;exact Ng y a i) (by simp[TS,Og,g.WA 1]) (by simp[Xh]) (by simp[TR,TQ,g.Yk [0]]) ?_
 simp[Yk,Wf];(repeat (rw[Ν];simp));apply m;exact W.nil ⟨_,rfl,rfl,rfl⟩
theorem yh (d:Array (Int)) (n f:Nat) (g:d.size=n) (k:n<=12)  :
  Μ prog 157 [.ms 0 n 0 n,R 0,R n,R f] [.cells 3 1 (d.toList.map R)] (λr s=>r=.ZV []/\s=[.cells 3 1 ((Go.Sort.insertionSort (ltInt) d 0 n).toList.map R)]) (λ_ _=>False):=by
 refine Μ.body Υ func157 rfl rfl ntmps157 rfl rfl J ?_;have h:=XW (show n<2 ^ 62 by omega);have Φ:(n:Int)<=12:=U;refine Χ ?_;refine .loop ?_;refine Ζ h ?_;refine Γ (by simp;omega) ?_;refine ZP λl i=>?_;refine Μ.one (yn d n 0 n g (Ε _) (Z1 _) U) 0 rfl (λe b a c=>by
  obtain⟨y,j,rfl⟩:=Zd.1 b;exact Pj y a c) (λe b a c=>by
  obtain⟨y,j,rfl⟩:=Zd.1 b;exact Pj y a c) (by simp[TS,Og]) (by simp[Xh]) (by simp[TR,TQ]) ?_
 simp[Yk,Wf];(repeat (rw[Ν];simp));apply i;exact W.ret ⟨_,rfl,rfl,rfl⟩
theorem yg (d:Array (Int)) (n:Nat) (b:d.size=n) (g:n<=12)  :
  Μ prog 132 [.ms 0 n 0 n] [.cells 3 1 (d.toList.map R)] (λr s=>r=.ZV []/\s=[.cells 3 1 ((Go.Sort.insertionSort (ltInt) d 0 n).toList.map R)]) (λ_ _=>False):=by
 refine Μ.body Υ func132 rfl rfl ntmps132 rfl rfl J ?_;have h:=XW (show n<2 ^ 62 by omega);have Φ:IntKind.u64.wrap (n:Int)=n:=by unfold IntKind.wrap;simp[IntKind.bits,IntKind.signed];omega
 refine Ζ b ?_;(repeat apply Ξ);refine Y8 λk i=>?_;simp;(repeat (rw[Ν];simp[b,h,Φ]));refine Κ.d (Of n U) (ZY ?_);refine Μ.one (yh d n (bitsLen n) b g) 0 rfl (λe c a f=>by
  obtain⟨y,j,rfl⟩:=Zd.1 c;exact Pj y a f) (λe c a f=>by
  obtain⟨y,j,rfl⟩:=Zd.1 c;exact Pj y a f) (by simp[TS,Og]) (by simp[Xh]) (by simp[TR,TQ]) ?_
 simp[Yk,Wf];(repeat (rw[Ν];simp));apply i;exact W.nil ⟨_,rfl,rfl,rfl⟩
theorem yf (l:List Int) (b:I) (p:Int->Bool) (g:l.length<2 ^ 62) (o:ψ 0 b) (k:∀x∈l,Xu prog b [R x] (ZU (p x))):Κ prog 131 [ζ R 1 l,b] (R (idxOf p l)):=by
 refine Μ.body Υ func131 rfl rfl ntmps131 rfl rfl J ?_;refine Χ ?_;refine W.iter (λi:Nat=>i<=l.length/\∀j,j<i->(h:j<l.length)->p l[j]=false) (λi=>[(0,ζ R 1 l),(1,b),(6,ζ R 1 l),(7,R l.length),(8,R i)]) (λ_=>[]) (λi=>l.length-i) 0 ⟨Ε _,λj f=>U⟩ rfl J (λi hi m=>?_);refine Χ ?_;refine W.YN rfl (λa=>?_) (λa=>?_)
 .have a:i<l.length:=by simpa using a
  refine Ζ a ?_;refine XX a λr n=>?_;refine(k _ (Y2 a)).c ?_;simp;(repeat (rw[Ν];simp));apply n;cases d:p l[i]
  .refine Η (by simp[d]) ?_;refine Χ ?_;refine W.forget _ ?_ (m (i+1) ⟨U,λj f h=>?_⟩ U)
   .simp[Yw a g]
   .by_cases e:j=i
    .subst e;exact d
    .exact hi.2 j U h
  .refine Γ (by simp[d]) ?_;refine Χ ?_;refine W.rt ?_;exact .of (by rw[LO a d hi.2];rfl)
 .have a:l.length<=i:=by simpa using a
  refine W.exit rfl ?_;refine Χ ?_;refine W.rt ?_;exact .of (by rw[LN λj f=>hi.2 j U f];rfl)
theorem ye (l:List Int) (a:I) (p:Int->Bool) (d:l.length<2 ^ 62) (b:ψ 0 a) (e:∀x∈l,Xu prog a [R x] (ZU (p x))):Κ prog 94 [ζ R 1 l,a] (ZU (l.any p)):=by
 refine Μ.body Υ func94 rfl rfl ntmps94 rfl rfl J ?_;refine Χ ?_;refine ZP λg f=>?_;refine Κ.c (yf l a p d b e) (ZT.refl _) (by simp[b]) J ?_;simp;(repeat (rw[Ν];simp));apply f;refine Χ ?_;refine W.rt ?_;exact .of (by rw[<-LM (p:=p)];rfl)
theorem yd (l:List VL) (b:I) (p:VL->Bool) (g:l.length<2 ^ 62) (o:ψ 0 b) (k:∀x∈l,Xu prog b [X9 x] (ZU (p x))):Κ prog 100 [ζ X9 2 l,b] (R (idxOf p l)):=by
 refine Μ.body Υ func100 rfl rfl ntmps100 rfl rfl J ?_;refine Χ ?_;refine W.iter (λi:Nat=>i<=l.length/\∀j,j<i->(h:j<l.length)->p l[j]=false) (λi=>[(0,ζ X9 2 l),(1,b),(6,ζ X9 2 l),(7,R l.length),(8,R i)]) (λ_=>[]) (λi=>l.length-i) 0 ⟨Ε _,λj f=>U⟩ rfl J (λi hi m=>?_);refine Χ ?_;refine W.YN rfl (λa=>?_) (λa=>?_)
 .have a:i<l.length:=by simpa using a
  refine Ζ a ?_;refine XX a λr n=>?_;refine(k _ (Y2 a)).c ?_;simp;(repeat (rw[Ν];simp));apply n;cases d:p l[i]
  .refine Η (by simp[d]) ?_;refine Χ ?_;refine W.forget _ ?_ (m (i+1) ⟨U,λj f h=>?_⟩ U)
   .simp[Yw a g]
   .by_cases e:j=i
    .subst e;exact d
    .exact hi.2 j U h
  .refine Γ (by simp[d]) ?_;refine Χ ?_;refine W.rt ?_;exact .of (by rw[LO a d hi.2];rfl)
 .have a:l.length<=i:=by simpa using a
  refine W.exit rfl ?_;refine Χ ?_;refine W.rt ?_;exact .of (by rw[LN λj f=>hi.2 j U f];rfl)
theorem yc (l:List VL) (a:I) (p:VL->Bool) (d:l.length<2 ^ 62) (b:ψ 0 a) (e:∀x∈l,Xu prog a [X9 x] (ZU (p x))):Κ prog 135 [ζ X9 2 l,a] (ZU (l.any p)):=by
 refine Μ.body Υ func135 rfl rfl ntmps135 rfl rfl J ?_;refine Χ ?_;refine ZP λg f=>?_;refine Κ.c (yd l a p d b e) (ZT.refl _) (by simp[b]) J ?_;simp;(repeat (rw[Ν];simp));apply f;refine Χ ?_;refine W.rt ?_;exact .of (by rw[<-LM (p:=p)];rfl)
theorem yb (l:List ZF) (b:I) (p:ZF->Bool) (g:l.length<2 ^ 62) (o:ψ 0 b) (k:∀x∈l,Xu prog b [Z2 x] (ZU (p x))):Κ prog 230 [ζ Z2 3 l,b] (R (idxOf p l)):=by
 refine Μ.body Υ func230 rfl rfl ntmps230 rfl rfl J ?_;refine Χ ?_;refine W.iter (λi:Nat=>i<=l.length/\∀j,j<i->(h:j<l.length)->p l[j]=false) (λi=>[(0,ζ Z2 3 l),(1,b),(6,ζ Z2 3 l),(7,R l.length),(8,R i)]) (λ_=>[]) (λi=>l.length-i) 0 ⟨Ε _,λj f=>U⟩ rfl J (λi hi m=>?_);refine Χ ?_;refine W.YN rfl (λa=>?_) (λa=>?_)
 .have a:i<l.length:=by simpa using a
  refine Ζ a ?_;refine XX a λr n=>?_;refine(k _ (Y2 a)).c ?_;simp;(repeat (rw[Ν];simp));apply n;cases d:p l[i]
  .refine Η (by simp[d]) ?_;refine Χ ?_;refine W.forget _ ?_ (m (i+1) ⟨U,λj f h=>?_⟩ U)
   .simp[Yw a g]
   .by_cases e:j=i
    .subst e;exact d
    .exact hi.2 j U h
  .refine Γ (by simp[d]) ?_;refine Χ ?_;refine W.rt ?_;exact .of (by rw[LO a d hi.2];rfl)
 .have a:l.length<=i:=by simpa using a
  refine W.exit rfl ?_;refine Χ ?_;refine W.rt ?_;exact .of (by rw[LN λj f=>hi.2 j U f];rfl)
theorem ya (l:List ZF) (a:I) (p:ZF->Bool) (d:l.length<2 ^ 62) (b:ψ 0 a) (e:∀x∈l,Xu prog a [Z2 x] (ZU (p x))):Κ prog 194 [ζ Z2 3 l,a] (ZU (l.any p)):=by
 refine Μ.body Υ func194 rfl rfl ntmps194 rfl rfl J ?_;refine Χ ?_;refine ZP λg f=>?_;refine Κ.c (yb l a p d b e) (ZT.refl _) (by simp[b]) J ?_;simp;(repeat (rw[Ν];simp));apply f;refine Χ ?_;refine W.rt ?_;exact .of (by rw[<-LM (p:=p)];rfl)
def Xg:List Int->Int
 | []=>0
 | e::l=>if e=0 then Xg l else e
theorem x' {l:List Int} {i:Nat} (h:i<l.length) (a:l[i]≠0) (b:∀j,j<i->(c:j<l.length)->l[j]=0):Xg l=l[i]:=by
 induction l generalizing i with
 | nil=>cases h
 | cons e l d=>
  cases i with
  | zero=>simp at a;simp[Xg,a]
  | succ i=>
   have f:e=0:=b 0 U J;simp only[Xg,f,if_true,List.getElem_cons_succ];exact d (by simpa using h) (by simpa using a) λj c g=>b (j+1) U (by simpa using g)
theorem x9 {l:List Int} (h:∀j,(a:j<l.length)->l[j]=0):Xg l=0:=by
 induction l with
 | nil=>rfl
 | cons e l b=>
  have c:e=0:=h 0 J;simp only[Xg,c,if_true];exact b λj a=>h (j+1) (by simpa using a)
theorem QV {f:Nat->Int} {n i:Nat} {e:Int} (h:i<n) (a:f i=e) (b:e≠0) (c:∀j,j<i->f j=0):Xg ((List.range n).map f)=e:=by
 rw[x' (i:=i) (by simpa using h) (by simp[a,b]) (λj d g=>by simpa using c j d)];simp[a]
theorem QU {f:Nat->Int} {n:Nat} (h:∀j,j<n->f j=0):Xg ((List.range n).map f)=0:=
 x9 λj a=>by simpa using h j (by simpa using a)
def UK (n:ByteArray):Bool:=n.size != 1||Mc n ⟨#[97]⟩||!Vw n ⟨#[122]⟩
def Vu (l:List VL) (i:Nat):Int:=match l[i]? with
 | none=>0
 | some g=>if UK g.name then 2 else if 0<i/\Vw g.name ((l[i-1]?.map (·.name)).getD ⟨#[]⟩)=true then 5 else if g.YT<1\/63<g.YT then 1 else if(l.take i).any (λx=>x.YT==g.YT) then 4 else 0
def Wq (l:List VL):Int:=if l.length=0 then 7 else if 6<l.length then 6 else Xg ((List.range l.length).map (Vu l))
theorem x8 (g x:VL):Κ prog 136 [X9 x,.ω [TV g.name,R g.YT]] (ZU (x.YT==g.YT)):=by
 refine Μ.body Υ func136 rfl rfl ntmps136 rfl rfl J ?_;refine Χ ?_;refine W.rt ?_;exact .of (by simp)
theorem x7 (s:υ) (v:s.small):Κ prog 103 [ZB s] (R (Wq s.Α)):=by
 refine Μ.body Υ func103 rfl rfl ntmps103 rfl rfl J ?_;have I:=v.1;by_cases b:s.Α.length=0
 .refine Ζ b ?_;refine Γ J ?_;refine Χ ?_;refine W.rt ?_;exact .of (by rw[show Wq s.Α=7 by simp[Wq,b]];rfl)
 by_cases k:(6:Int)<s.Α.length
 .refine Ζ (Τ b k) ?_;refine Η (by simp[b]) ?_;refine Ζ (Τ b k) ?_;refine Γ J ?_;refine Χ ?_;refine W.rt ?_;exact .of (by rw[show Wq s.Α=6 by simp[Wq,b];omega];rfl)
 have w:Wq s.Α=Xg ((List.range s.Α.length).map (Vu s.Α)):=by
  unfold Wq;rw[if_neg b,if_neg U]
 rw[w];refine Ζ (Τ b k) ?_;refine Η (by simp[b]) ?_;refine Ζ (Τ b k) ?_;refine Η J ?_;refine Χ ?_;refine W.iter (λi:Nat=>i<=s.Α.length/\∀j,j<i->Vu s.Α j=0) (λi=>[(1,Z9 s),(17,Z6 s.Α),(18,R s.Α.length),(19,R i)]) (λ_=>[]) (λi=>s.Α.length-i) 0 ⟨U,λj r=>U⟩ rfl J (λi hi y=>?_);refine Χ ?_;refine W.YN rfl (λa=>?_) (λa=>?_)
 .have a:i<s.Α.length:=by simpa using a
  have d:s.Α[i]?=some s.Α[i]:=ε a
  have l:∀e:Int,Vu s.Α i=e->e≠0->Xg ((List.range s.Α.length).map (Vu s.Α))=e:=λe B m=>QV a B m hi.2
  repeat apply Ξ
  refine Zj (A:=[4]) Υ λC o=>XF a ?_;apply o;refine W.fix (id:=0) (σ':=[]) (Ε _) rfl J J rfl [(1,Z9 s),(17,Z6 s.Α),(18,R s.Α.length),(19,R i),(3,R i),(4,.ω [TV s.Α[i].name,R s.Α[i].YT])] J ?_
  repeat apply Ξ
  refine W.Qd (A:=[]) Υ [(1,Z9 s),(17,Z6 s.Α),(18,R s.Α.length),(19,R i),(3,R i),(4,.ω [TV s.Α[i].name,R s.Α[i].YT]),(5,Z6 (s.Α.take i))] ?_ (by simp[Ν,SK,RP a])
  repeat apply Ξ
  refine W.Qd (A:=[]) Υ [(28,ZU (UK s.Α[i].name)),(1,Z9 s),(17,Z6 s.Α),(18,R s.Α.length),(19,R i),(3,R i),(4,.ω [TV s.Α[i].name,R s.Α[i].YT]),(5,Z6 (s.Α.take i))] ?_ (by
   unfold UK;by_cases t:(s.Α[i].name.size:Int)=1
   .have p:s.Α[i].name.size=1:=U
    cases D:Mc s.Α[i].name ⟨#[97]⟩<;>simp[Ν,SK,t,D,p]
   .have p:¬s.Α[i].name.size=1:=U
    simp[Ν,SK,t,p])
  cases f:UK s.Α[i].name
  case true=>
   refine Γ rfl ?_;refine Χ ?_;refine W.rt ?_;exact .of (by rw[l 2 (by simp[Vu,d,f]) Z0];rfl)
  refine Η rfl ?_
  repeat apply Ξ
  refine W.Nj (A:=[]) Υ mixed [(43,ZU (decide (0<i)&&Vw s.Α[i].name ((s.Α[i-1]?.map (·.name)).getD ⟨#[]⟩))),(1,Z9 s),(17,Z6 s.Α),(18,R s.Α.length),(19,R i),(3,R i),(4,.ω [TV s.Α[i].name,R s.Α[i].YT]),(5,Z6 (s.Α.take i))] ?_ (by
   cases i with
   | zero=>simp[ZG,ZH];exact Yt (by kernel_rfl)
   | succ n=>
    have E:n<s.Α.length:=U
    have F:=XW (show n<2 ^ 62 by omega)
    have m:(0:Int)<(n:Int)+1:=U
    have H:n<min (n+1) s.Α.length:=U;simp[ZG,ZH,m,E,F,H];exact Yt (by kernel_rfl))
  cases bo:decide (0<i)&&Vw s.Α[i].name ((s.Α[i-1]?.map (·.name)).getD ⟨#[]⟩)
  case true=>
   refine Γ rfl ?_;refine Χ ?_;refine W.rt ?_;exact .of (by rw[l 5 (by simp at bo;simp[Vu,d,f,bo]) Z0];rfl)
  refine Η rfl ?_
  repeat apply Ξ
  refine W.Qd (A:=[]) Υ [(57,ZU (decide (s.Α[i].YT<1)||decide (63<s.Α[i].YT))),(1,Z9 s),(17,Z6 s.Α),(18,R s.Α.length),(19,R i),(3,R i),(4,.ω [TV s.Α[i].name,R s.Α[i].YT]),(5,Z6 (s.Α.take i))] ?_ (by by_cases q:s.Α[i].YT<1<;>simp[Ν,SK,q]);have bo':¬(0<i/\Vw s.Α[i].name ((s.Α[i-1]?.map (·.name)).getD ⟨#[]⟩)=true):=λh=>by simp[h] at bo
  by_cases g:s.Α[i].YT<1\/63<s.Α[i].YT
  case pos=>
   refine Γ (by simpa using g) ?_;refine Χ ?_;refine W.rt ?_;exact .of (by rw[l 1 (by simp only[Vu,d,f];rw[if_neg bo',if_pos g];rfl) Z0];rfl)
  refine Η (by simpa using g) ?_;refine ZP λC o=>?_;refine Κ.c (yc (s.Α.take i) (.fn (.func 136) [] [.ω [TV s.Α[i].name,R s.Α[i].YT]]) (λx=>x.YT==s.Α[i].YT) (by simp;omega) (by simp[Ul]) (λx _=>λ_=>(x8 s.Α[i] x).cc (by simp;exact ZT.refl _) J J ⟨rfl,rfl⟩)) (ZT.refl _) (by simp[Ul]) J ?_;simp;(repeat (rw[Ν];simp));apply o;cases u:(s.Α.take i).any (λx=>x.YT==s.Α[i].YT)
  case true=>
   refine Γ J ?_;refine Χ ?_;refine W.rt ?_;exact .of (by rw[l 4 (by simp only[Vu,d,f];rw[if_neg bo',if_neg g,u];rfl) Z0];rfl)
  refine Η J ?_;refine Χ ?_;refine W.forget _ ?_ (y (i+1) ⟨a,λj r=>?_⟩ U)
  .simp[Yw a (show s.Α.length<2 ^ 62 by omega)]
  .by_cases e:j=i
   .subst e;simp only[Vu,d,f];rw[if_neg bo',if_neg g,u];rfl
   .exact hi.2 j U
 .have a:s.Α.length<=i:=by simpa using a
  refine W.exit rfl ?_;refine Χ ?_;refine W.rt ?_;exact .of (by rw[QU λj r=>hi.2 j U];rfl)
end Go.TL
namespace Go.TL
open Go.Proofs.Tryz
open Go.Sort (SWO bitsLen insInner insOuter insertionSort_holds ltInt sorted_unique_holds swo_ltInt swp)
open Go.Conc
variable [ZN]
structure Base where
 S:ο
 B:Z8
 H:Ψ
 σ:Ρ
 m:Nat
def V (P:Program) (a:Value->Prop) (mn:Bool) (x:W6) (b:Frame) (cs:List Frame) (nt:Nat) (o:Base) (k:List Item) (env:Δ) (σ:Ρ):Prop:=
 ∀(S:ο) (B:Z8) (H:Ψ) (t:Array Value),X5 o.m o.S o.B o.H o.σ S B H σ->XA o.m nt S B H σ env t->ν P a mn x (π b t k) cs H
def Eh (P:Program) (c:Value->Prop) (mn:Bool) (x:W6) (b:Frame) (cs:List Frame) (o:Base) (a:I) (env:Δ) (σ:Ρ):Prop:=
 ∀(S:ο) (B:Z8) (H:Ψ) (t:Array Value) (k:List Item) (v:Value),X5 o.m o.S o.B o.H o.σ S B H σ->Holds S B σ H->YS S B σ env t->ς S B σ a v->ν P c mn x {π b t k with mode:=.panicking [{v,recovered:=false}]} cs H
structure Oe (P:Program) (d:Deferred) (g:FuncId) (vs:Array Value):Prop where
 t1:∀r,d.target≠.collected r
 t2:d.target≠.nil
 run:∀w,(invoke d.target d.args).runT P w #[]=(.ok (.enter g vs) w,#[])
section
variable {P:Program} {T:ZR} {A:List Nat} {Q:Value->Prop} {mn:Bool} {x:W6} {b:Frame} {cs:List Frame} {m nt:Nat} {o:Base} {k:List Item} {env:Δ} {σ:Ρ} {S YA:ο} {B B':Z8} {H H':Ψ} {σ':Ρ} {t:Array Value} {Z:XZ} {E:Yf}
theorem V.XS (g:Seq x) (i:b.mode=.run) (h:W P o.m nt k env σ (V P Q mn x b cs nt o) (Eh P Q mn x b cs o)):V P Q mn x b cs nt o k env σ:=
 λS B H t f l=>h Q mn x cs b S B H t g i l (λj env' σ' YA B' H' t' c n d p r=>by
  have e:c=j:=r;subst e;exact n YA B' H' t' (f.trans d) p) (λa env' σ' YA B' H' t' c v s d u w y=>s YA B' H' t' c v (f.trans d) u w y)
theorem V.Zp (a:Seq x) (h:W P o.m nt k env σ (V P Q mn x b cs nt o) (Eh P Q mn x b cs o)) (c:b.mode=.run:=by rfl):V P Q mn x b cs nt o k env σ:=.XS a c h
theorem V.here (h:V P Q mn x b cs nt ⟨S,B,H,σ,m⟩ k env σ) (a:XA m nt S B H σ env t):ν P Q mn x (π b t k) cs H:=h S B H t .refl a
theorem W.Ze {id:Nat} {ops:Array Oper} (h:W P m nt (.inRegion ops (idx ops.size [])::k) env σ Z E):W P m nt (.code (.region id ops false)::k) env σ Z E:=
 λQ mn x cs b S B H t a c d e f=>.region a c (by rw[<-idx_eq];exact h Q mn x cs b S B H t a c d e f)
theorem W.part (c:Zz P T) (is a:List Nat) {ops:Array Oper} {l:List Nat} (d:l=is++a) (h:∀b:Δ->Ρ->Prop,(∀env σ,W P m nt (.inRegion ops a::k) env σ Z E->b env σ)->run P T A nt ops is env σ b E):W P m nt (.inRegion ops l::k) env σ Z E:=
 d▸HI c a is env σ (h _ λ_ _ h=>h)
theorem Ht (e:YS S B σ env t) (args:Array Operand):XT S B σ (args.toList.map (η env)) (args.map (ZM t)):=by
 refine⟨J,λi a v b c=>?_⟩;rw[Yh,Wl] at b;rw[PE] at c;cases d:args[i]? with
 | none=>rw[d] at b;cases b
 | some y=>rw[d] at b c;cases b;cases c;exact Un e y
theorem Plain.enter {g:FuncId} (h:Plain P g) (vs:Array Value) (w:World):(callFunc g vs).runT P w #[]=(.ok (.enter g vs) w,#[]):=by
 obtain⟨fn,a,b,c⟩:=h;unfold callFunc;show Sem.runT P (Sem.bind program λp=>_) w #[]=_;simp only[program,Sem.bind];show Sem.runT P (match P.funcs[g]? with|none=>_|some fn=>_) w #[]=_;rw[a];simp only[b,c,Xf,if_false];rfl
theorem XA.put {c:Oper} {a:I} {v:Value} (b:XA m nt S B H σ env t) (hd:W2 nt c=true) (d:ς S B σ a v):XA m nt S B H σ (Zt c env a) (put c t v):=
 ⟨b.holds,(QY b.Zn hd b.size d).1,(QY b.Zn hd b.size d).2,b.rows⟩
theorem X5.all (h:X5 m S B H σ YA B' H' σ') (b:Holds S B σ H) (a:σ.length<=m):Zw S YA B B' σ σ':=by
 have:=h.later
 rwa [VB (by rw[b.len];exact a),VB a] at this
theorem V.defer (p:Seq x) (r:b.mode=.run) (s:b.roundOf=none) {ops:Array Oper} {i:Nat} {rest:List Nat} {a:Oper} (u:ops[i]?=some a) (v:XM env ops a=some true) (y:a.dst=none) {f:Operand} {args:Array Operand} {A:Array TypeId} (C:a.op=.defer ⟨.value f,args,A⟩)
  {g:FuncId} {first captured:ξ} (D:η env f=.fn (.func g) first captured) (E:Plain P g)
  (h:∀(S:ο) (B:Z8) (H:Ψ) (t:Array Value) (d:Deferred) (vs:Array Value),X5 o.m o.S o.B o.H o.σ S B H σ->XA o.m nt S B H σ env t->XT S B σ (first++args.toList.map (η env)++captured) vs->Oe P d g vs->
   ν P Q mn x (π {b with defers:=d::b.defers} t (.inRegion ops rest::k)) cs H):V P Q mn x b cs nt o (.inRegion ops (i::rest)::k) env σ:=by
 intro S B H t F c;refine .op p r u (U1 c.Zn v) (.inl s) ?_;have j:=Un c.Zn f;rw[D] at j;have I:=Ht c.Zn args;have e:execOp (ZM t) a=(do pure (.defer (<-Deferred.ofValue (ZM t f) (args.map (ZM t))))):=by unfold execOp;rw[C];rfl
 rw[e];generalize ZM t f=T at j;cases j with
 | fn l n J K L M=>
  refine Ω.bind' (Ω.pure' (Ω.pure' ?_));have N:put a t undef=t:=by unfold put;rw[y]
  simp only[Ft,N];have O:XT S B σ first l:=⟨J,L⟩
  have R:XT S B σ captured n:=⟨K,M⟩;exact h S B H t ⟨.fn (.func g) n,l++args.map (ZM t)⟩ (l++args.map (ZM t)++n) F c ((O.append I).append R) ⟨λ_ h=>(by cases h),λh=>(by cases h),λw=>E.enter _ w⟩
theorem ν.recovered (d:Seq x) (f:b.mode=.run) (c:b.roundOf=none) {ops:Array Oper} {i:Nat} {rest:List Nat} {op:Oper} (g:ops[i]?=some op) (j:op.guard=none) {l:Array TypeId} (m:op.op=.call ⟨.builtin .recover,#[],l⟩) {v:Value} {cs':List Frame}
  (a:(tryRecover (π b t (.inRegion ops (i::rest)::k)) cs=some (v,cs'))\/(tryRecover (π b t (.inRegion ops (i::rest)::k)) cs=none/\v=.nilIface/\cs'=cs))
  (h:ν P Q mn x (π b (put op t v) (.inRegion ops rest::k)) cs' H):ν P Q mn x (π b t (.inRegion ops (i::rest)::k)) cs H:=by
 refine .op d f g (by unfold Region.wanted;rw[j]) (.inl c) ?_;have e:execOp (ZM t) op=pure .recover:=by unfold execOp;rw[m];rfl
 rw[e];refine Ω.pure' ⟨c,?_⟩;rcases a with a|⟨a,rfl,rfl⟩
 .rw[a];exact h
 .rw[a];exact h
end
theorem results_none {fn:Func} (h:fn.results=#[]) (t:Array Value):results fn t=pure (.tuple #[]):=by
 unfold results;rw[h];simp
theorem SG {P:Program} {g:FuncId} {fn:Func} {body:Code} (b:P.funcs[g]?=some fn) (c:fn.body=some body) (vs:Array Value) (a:CallKind):Frame.enter P g vs a=π (Frame.enter P g vs a) (vs++Array.replicate (fn.ntmps-vs.size) undef) [.code body]:=by
 simp[Frame.enter,π,b,c]
theorem XA.enter {S:ο} {B:Z8} {H:Ψ} {σ:Ρ} {a:ξ} {vs:Array Value} {nt m:Nat} (b:Holds S B σ H) (hv:XT S B σ a vs) (c:m<=σ.length) (d:a.length<=nt):XA m nt S B H σ (entry 0 a) (vs++Array.replicate (nt-vs.size) undef):=
 ⟨b,EJ hv _,by have:=hv.1;simp;omega,c⟩
end Go.TL
namespace Go.TL
open Go.Proofs.Tryz
open Go.Sort (SWO bitsLen insInner insOuter insertionSort_holds ltInt sorted_unique_holds swo_ltInt swp)
open Go.Proofs
variable [ZN]
def Yy (s:υ) (a:List ZF) (p:ZF):Int:=
 if p.Zs<0\/(s.Β.length:Int)<=p.Zs then 3 else if a.any (λx=>x.Zs==p.Zs) then 4 else if valid p.seen=false\/valid p.bare=false then 1 else if WB p.seen p.bare=0 then 0 else 9
theorem x6 (p x:ZF):Κ prog 195 [Z2 x,.ω [R p.Zs,R p.seen,R p.bare]] (ZU (x.Zs==p.Zs)):=by
 refine Μ.body Υ func195 rfl rfl ntmps195 rfl rfl J ?_;(repeat (first|apply Ξ|(refine Y8 λb a=>?_;simp;(repeat (rw[Ν];simp));apply a)));refine W.ret ⟨_,rfl,?_,rfl⟩;exact .of (by simp)
theorem x5 (s:υ) (d:List ZF) (n:d.length<2 ^ 62) (p:ZF):Μ prog 153 [ZB s,Xt d,Z2 p] [] (λa σ=>Yy s d p=0/\a=.ZV []/\σ=[]) (λa σ=>Yy s d p≠0/\a=.Xo 38 (R (Yy s d p))/\σ=[]):=by
 refine Μ.body Υ func153 rfl rfl ntmps153 rfl rfl J ?_;(repeat (first|apply Ξ|(refine Y8 λf b=>?_;simp;(repeat (rw[Ν];simp));apply b)));refine W.Nj (A:=[]) Υ mixed [(6,R p.seen),(7,R p.bare),(1,Xt d),(3,Z9 s),(5,.ω [R p.Zs,R p.seen,R p.bare])] ?_ (by simp[ZG,ZH];exact Yt (by kernel_rfl))
 repeat apply Ξ
 refine W.Qd (A:=[]) Υ [(12,ZU (decide (p.Zs<0)||decide ((s.Β.length:Int)<=p.Zs))),(6,R p.seen),(7,R p.bare),(1,Xt d),(3,Z9 s),(5,.ω [R p.Zs,R p.seen,R p.bare])] ?_ (by by_cases q:p.Zs<0<;>simp[Ν,SK,q]);by_cases i:p.Zs<0\/(s.Β.length:Int)<=p.Zs
 case pos=>
  have e:Yy s d p=3:=by unfold Yy;rw[if_pos i]
  rw[e];refine Γ (by simpa using i) ?_;(repeat apply Ξ);refine Y8 λf b=>?_;simp;(repeat (rw[Ν];simp))
 refine Η (by simpa using i) ?_;(repeat apply Ξ);refine Y8 λf b=>?_;simp;(repeat (rw[Ν];simp));refine Κ.c (ya d (.fn (.func 195) [] [.ω [R p.Zs,R p.seen,R p.bare]]) (λx=>x.Zs==p.Zs) n (by simp[Ul]) (λx _=>λ_=>(x6 p x).cc (by simp;exact ZT.refl _) J J ⟨rfl,rfl⟩)) (ZT.refl _) (by simp[Ul]) J ?_;simp;(repeat (rw[Ν];simp));apply b;cases k:d.any (λx=>x.Zs==p.Zs)
 case true=>
  have e:Yy s d p=4:=by unfold Yy;rw[if_neg i,if_pos k]
  rw[e];refine Γ J ?_;(repeat apply Ξ);refine Y8 λf b=>?_;simp;(repeat (rw[Ν];simp))
 refine Η J ?_
 repeat apply Ξ
 have m:(valid p.seen=false\/valid p.bare=false)->Yy s d p=1:=λh=>by unfold Yy;rw[if_neg i,k];simp[h]
 cases g:valid p.seen
 case false=>
  rw[m (.inl g)];(repeat apply Ξ);refine Y8 λf b=>?_;simp;(repeat (rw[Ν];simp));refine Κ.c (Nh p.seen) (ZT.refl _) J J ?_;simp[g];(repeat (rw[Ν];simp[g]));apply b;refine Γ rfl ?_;(repeat apply Ξ);refine Y8 λf b=>?_;simp;(repeat (rw[Ν];simp))
 cases j:valid p.bare
 case false=>
  rw[m (.inr j)];(repeat apply Ξ);refine Y8 λf b=>?_;simp;(repeat (rw[Ν];simp));refine Κ.c (Nh p.seen) (ZT.refl _) J J ?_;simp[g];(repeat (rw[Ν];simp[g]));refine Κ.c (Nh p.bare) (ZT.refl _) J J ?_;simp[j];(repeat (rw[Ν];simp[j]));apply b;refine Γ rfl ?_;(repeat apply Ξ);refine Y8 λf b=>?_;simp;(repeat (rw[Ν];simp))
 (repeat apply Ξ);refine Y8 λf b=>?_;simp;(repeat (rw[Ν];simp));refine Κ.c (Nh p.seen) (ZT.refl _) J J ?_;simp[g];(repeat (rw[Ν];simp[g]));refine Κ.c (Nh p.bare) (ZT.refl _) J J ?_;simp[j];(repeat (rw[Ν];simp[j]));apply b;refine Η rfl ?_;(repeat apply Ξ);refine Y8 λf b=>?_;simp;(repeat (rw[Ν];simp));refine Κ.c (Eo p.seen p.bare) (ZT.refl _) J J ?_;simp;(repeat (rw[Ν];simp));apply b;by_cases l:WB p.seen p.bare=0
 .have e:Yy s d p=0:=by unfold Yy;rw[if_neg i,k];simp[g,j,l]
  refine Η (by simp[l]) ?_;(repeat (first|apply Ξ|(refine Y8 λf b=>?_;simp;(repeat (rw[Ν];simp));apply b)));exact W.nil ⟨_,rfl,e,rfl,rfl⟩
 .have e:Yy s d p=9:=by unfold Yy;rw[if_neg i,k];simp[g,j,l]
  rw[e];refine Γ (by simp[l]) ?_;(repeat apply Ξ);refine Y8 λf b=>?_;simp;(repeat (rw[Ν];simp))
end Go.TL
namespace Go.TL
open Go.Proofs.Tryz
open Go.Sort (SWO bitsLen insInner insOuter insertionSort_holds ltInt sorted_unique_holds swo_ltInt swp)
open Go.Proofs Go.Conc
variable [ZN]
theorem XT.later {S b:ο} {B B':Z8} {σ σ':Ρ} {l:ξ} {vs:Array Value} (h:XT S B σ l vs) (c:Zw S b B B' σ σ'):XT b B' σ' l vs:=⟨h.1,λi a v d e=>(h.2 i a v d e).later c⟩
theorem Po.fin {P:Program} {e:Value->Prop} {mn:Bool} {x:W6} {c:Frame} {rest:List Frame} {S f:ο} {H H':Ψ} {B':Z8} {σ':Ρ} {v:Value} {r:I} (j:Po P e mn x c rest S [] H [] (λa s=>Zi a r/\s=[]) (λ_ _=>False))
  (g:Ext S [] H f B' H') (k:Holds f B' σ' H') (l:∀S B σ,ς S B σ r v):ν P e mn x (c.finish v) rest H':=by
 obtain⟨i,d⟩:=k.close (h:=0) (λid r m=>U);simp only[List.take_zero] at i d;exact j.ret r [] _ [] H' v ⟨.refl _,rfl⟩ (g.trans d) ⟨λb o v hv=>d.YL _ _ _ (g.YL _ _ _ hv),λid r h=>by simp at h⟩ i (l _ _ _)
abbrev P1 (e:Int):Ρ:=[.cells 38 1 [R e]]
section
variable {Q:Value->Prop} {mn:Bool} {x:W6} {c f:Frame} {rest:List Frame} {S XK:ο} {Sc:Z8} {H H1:Ψ} {Od e:Int} {Eg:Array Value} {t:Array Value} {env:Δ} {err:Int}
theorem Ef (b:Seq x) (w:Po prog Q mn x c rest S [] H [] (λa s=>Zi a (R err)/\s=[]) (λ_ _=>False)) {d:Deferred} (hd:Oe prog d 152 Eg)
  (y:f.fn=122) (B:f.defers=[d]) (r:f.kind=.normal) (af:f.roundOf=none) (j:(f.mode=.returning/\Od=err)\/∃v,f.mode=.panicking [{v,recovered:=false}]/\ς XK Sc (P1 Od) (.Xo 38 (R err)) v)
  (C:Ext S [] H XK Sc H1) (n:Holds XK Sc (P1 Od) H1) (hv:XT XK Sc (P1 Od) [.Ο 0 1 0 0] Eg) (D:YS XK Sc (P1 Od) env f.tmps) (E:Z7 env 6=.Ο 0 1 0 0):ν prog Q mn x f (c::rest) H1:=by
 have F:f.mode≠.run:=by rcases j with⟨h,_⟩|⟨v,h,_⟩<;>rw[h]<;>simp
 refine ν.deferred b F B hd.t1 hd.t2 hd.run ?_;rw[SG func152 rfl];have t:∀(f':Frame) (e:ο) (g:Z8) (i:Ψ),f'.mode=.returning->f'.defers=[]->f'.kind=.normal->f'.fn=f.fn->f'.tmps=f.tmps->Ext XK Sc H1 e g i->Zw XK e Sc g (P1 Od) (P1 err)->Holds e g (P1 err) i->ν prog Q mn x f' (c::rest) i:=λf' e g i I K L M N O P T=>by
  refine ν.back b I K (.inl L) (fn:=f122) (by rw[M,y];exact func122) ?_;rw[N];refine Ω.mono (λv ag ⟨ah,ai,U,aj,X,Y⟩=>?_) (λ_ _ h=>h) _ (LX Υ (a:=R err) (show SJ ZW [.cell 6 38] env (P1 err)=some (R err) by simp[SJ,QX,No,E,Qc,Wi.agg]) T (D.later P));cases Y;exact w.fin (C.trans (O.trans U)) X λ_ _ _=>.z _
 refine V.here (m:=1) (nt:=10) (env:=entry 0 [.Ο 0 1 0 0]) ?_ (XA.enter n hv J J);refine V.XS b rfl ?_
 repeat apply Ξ
 refine W.Ze ?_;refine W.stop ?_;intro Z aa ak t3 k u;rcases j with⟨j,rfl⟩|⟨v,j,ab⟩
 .refine ν.recovered b rfl rfl rfl rfl rfl (v:=.nilIface) (.inr ⟨?_,rfl,rfl⟩) ?_
  .simp[tryRecover,π,Frame.enter,j]
  .refine V.here (m:=1) ?_ (u.put rfl (.z .nilIface));refine V.XS b rfl ?_;refine W.part (A:=[]) Υ [1,2,3,4,5,6] [] rfl λad o=>?_;simp[Ow];(repeat (rw[Ν];simp[Ow]));apply o;refine W.ZC ?_;refine Χ ?_;refine Η rfl ?_;refine Χ ?_;refine W.stop ?_;intro e g i t4 l p;refine .Qm b rfl rfl ?_;refine ν.H4 b rfl rfl rfl func152 ?_;rw[results_none rfl];refine Ω.pure' ?_;simp only[j];exact t _ e g i rfl rfl r rfl rfl (k.ext.trans l.ext) ((k.trans l).all n J) p.holds
 .have ae:ς Z aa (P1 Od) (.Xo 38 (R err)) v:=ab.later (k.all n J);refine ν.recovered b rfl rfl rfl rfl rfl (v:=v) (cs':={f with defers:=[],mode:=.panicking [{v,recovered:=true}]}::c::rest) (.inl ?_) ?_
  .simp[tryRecover,π,Frame.enter,j]
  .refine V.here (m:=1) ?_ (u.put rfl ae);refine V.XS b rfl ?_;refine W.part (A:=[]) Υ [1,2,3,4,5,6] [] rfl λad o=>?_;simp[Ow];(repeat (rw[Ν];simp[Ow]));apply o;refine W.ZC ?_;refine Χ ?_;refine Γ rfl ?_;refine Χ ?_;refine W.stop ?_;intro e g i t4 l p;refine .Qm b rfl rfl ?_;refine ν.H4 b rfl rfl rfl func152 ?_;rw[results_none rfl];refine Ω.pure' ?_;exact t _ e g i rfl rfl r rfl rfl (k.ext.trans l.ext) ((k.trans l).all n J) p.holds
end
theorem Ee (s:υ) (e:List ZF) (E:e.length<2 ^ 62) (p:ZF):Κ prog 122 [ZB s,Xt e,Z2 p] (R (Yy s e p)):=by
 refine⟨⟨_,func122,rfl,rfl⟩,λT mn x c rest S B H vs g r hv t=>?_⟩;have F:B=[]:=YP.1 (by have:=r.len;simpa using this);subst F;rw[SG func122 rfl];refine V.here (m:=0) (nt:=12) (env:=entry 0 [ZB s,Xt e,Z2 p]) ?_ (XA.enter r hv J J);refine V.XS g rfl ?_
 repeat apply Ξ
 refine Zj (A:=[6]) Υ λu h=>ZY ?_;apply h
 repeat apply Ξ
 refine W.Ze ?_;refine W.part (A:=[]) Υ [0] [1] rfl λu h=>?_;(try simp);(repeat (rw[Ν];simp));apply h;refine W.stop ?_;refine V.defer g rfl rfl rfl rfl rfl rfl rfl ⟨_,func152,rfl,rfl⟩ λU X Y t1 d Z w i y hd=>?_;refine V.here (m:=1) ?_ ⟨i.holds,i.Zn,i.size,J⟩;refine V.XS g rfl ?_;refine W.ZC ?_;refine ZP λu h=>?_;refine W5.mono (Μ.call (first:=[]) (captured:=[]) ((x5 s e E p).mono (K':=λa f=>Yy s e p=0/\ψ 0 a/\f=[]) (E':=λa f=>(Yy s e p≠0/\a=.Xo 38 (R (Yy s e p)))/\ψ 0 a/\f=[]) (λa f ⟨l,k,n⟩=>⟨l,by subst k;simp,n⟩) (λa f ⟨l,k,n⟩=>⟨⟨l,k⟩,by subst k;simp,n⟩) |>.frame J)) (λa f ⟨C,o⟩=>?_) (λa f ⟨⟨C,I⟩,o⟩=>?_)
 .subst o;(try simp);(repeat (rw[Ν];simp));apply h;refine Χ ?_;refine W.stop ?_;intro K L M t2 j D;refine ν.ret (b:={Frame.enter prog 122 vs .normal with defers:=[d]}) g rfl rfl ?_;exact Ef g t hd rfl rfl rfl rfl (.inl ⟨rfl,C.symm⟩) (w.ext.trans j.ext) D.holds (y.later (j.all i.holds J)) D.Zn rfl
 .subst o;subst I;intro K L M t2 aa v j N O P;have Q:=j.all i.holds J;refine Ef g t hd rfl rfl rfl rfl (.inr ⟨v,rfl,P⟩) (w.ext.trans j.ext) N (y.later Q) O ?_;rfl
end Go.TL
namespace Go.TL
open Go.Proofs.Tryz
open Go.Sort (SWO bitsLen insInner insOuter insertionSort_holds ltInt sorted_unique_holds swo_ltInt swp)
open Go.Proofs
variable [ZN]
theorem Ed:IntKind.i64.wrap 3=3:=Z0
def Ta (l:List Int) (i:Nat):Int:=match l[i]? with
 | none=>0
 | some n=>if Vd n=false then 3 else if 0<i/\n<=(l[i-1]?).getD 0 then 5 else 0
def RA (l:List Int):Int:=Xg ((List.range l.length).map (Ta l))
def Wp (a:List (List Int)):Int:=if a.length=0 then 7 else if 4<a.length then 6 else Xg ((List.range a.length).map λi=>RA ((a[i]?).getD []))
theorem x4 (s:υ) (r:s.small):Κ prog 104 [ZB s] (R (Wp s.Β)):=by
 refine Μ.body Υ func104 rfl rfl ntmps104 rfl rfl J ?_;have E:=r.2.1;by_cases b:s.Β.length=0
 .refine Ζ b ?_;refine Γ J ?_;refine Χ ?_;refine W.rt ?_;exact .of (by rw[show Wp s.Β=7 by simp[Wp,b]];rfl)
 by_cases g:(4:Int)<s.Β.length
 .refine Ζ (Τ b g) ?_;refine Η (by simp[b]) ?_;refine Ζ (Τ b g) ?_;refine Γ J ?_;refine Χ ?_;refine W.rt ?_;exact .of (by rw[show Wp s.Β=6 by simp[Wp,b];omega];rfl)
 have v:Wp s.Β=Xg ((List.range s.Β.length).map λi=>RA ((s.Β[i]?).getD [])):=by
  unfold Wp;rw[if_neg b,if_neg U]
 rw[v];refine Ζ (Τ b g) ?_;refine Η (by simp[b]) ?_;refine Ζ (Τ b g) ?_;refine Η J ?_;refine Χ ?_;refine W.iter (λi:Nat=>i<=s.Β.length/\∀j,j<i->RA ((s.Β[j]?).getD [])=0) (λi=>[(1,Z9 s),(18,θ s.Β),(19,R s.Β.length),(20,R i)]) (λ_=>[]) (λi=>s.Β.length-i) 0 ⟨U,λj c=>U⟩ rfl J (λi hi w=>?_);refine Χ ?_;refine W.YN rfl (λa=>?_) (λa=>?_)
 .have a:i<s.Β.length:=by simpa using a
  have t:(s.Β[i]?).getD []=s.Β[i]:=by simp[a]
  have F:s.Β[i].length<2 ^ 30:=r.2.2.2.1 _ (Y2 a);refine Ζ a ?_;refine W.iter (λn:Nat=>n<=s.Β[i].length/\∀j,j<n->Ta s.Β[i] j=0) (λn=>[(1,Z9 s),(18,θ s.Β),(19,R s.Β.length),(20,R i),(4,ζ R 1 s.Β[i]),(24,ζ R 1 s.Β[i]),(25,R s.Β[i].length),(26,R n)]) (λ_=>[]) (λn=>s.Β[i].length-n) 0 ⟨U,λj c=>U⟩ rfl J (λn l x=>?_);refine Χ ?_;refine W.YN rfl (λm=>?_) (λm=>?_)
  .have hd:n<s.Β[i].length:=by simpa using m
   have o:s.Β[i][n]?=some s.Β[i][n]:=ε hd
   have u:∀e:Int,Ta s.Β[i] n=e->e≠0->Xg ((List.range s.Β.length).map λi=>RA ((s.Β[i]?).getD []))=e:=λe y h=>
    QV (i:=i) a (by rw[t];exact QV hd y h l.2) h hi.2
   repeat apply Ξ
   refine P5 hd ?_;refine ZP λH B=>?_;refine Κ.d (Sb s.Β[i][n]) (ZY ?_);apply B;cases p:Vd s.Β[i][n]
   .refine Γ J ?_;refine Χ ?_;refine W.rt ?_;exact .of (by rw[u 3 (by simp[Ta,o,p]) Z0];rfl)
   refine Η J ?_
   repeat apply Ξ
   refine W.Qd (A:=[]) Υ [(35,ZU (decide (0<n/\s.Β[i][n]<=(s.Β[i][n-1]?).getD 0))),(1,Z9 s),(18,θ s.Β),(19,R s.Β.length),(20,R i),(4,ζ R 1 s.Β[i]),(24,ζ R 1 s.Β[i]),(25,R s.Β[i].length),(26,R n)] ?_ (by
    cases n with
    | zero=>simp[Ν,SK]
    | succ n=>
     have C:n<s.Β[i].length:=U
     have D:=XW (show n<2 ^ 62 by omega)
     have h:(0:Int)<(n:Int)+1:=U;simp[Ν,SK,h,C,D])
   by_cases k:0<n/\s.Β[i][n]<=(s.Β[i][n-1]?).getD 0
   .refine Γ (by simp only[k];rfl) ?_;refine Χ ?_;refine W.rt ?_;exact .of (by rw[u 5 (by simp only[Ta,o,p];rw[if_neg J,if_pos k]) Z0];rfl)
   .refine Η (by simp only[k];rfl) ?_;refine Χ ?_;refine W.forget _ ?_ (x (n+1) ⟨hd,λj c=>?_⟩ U)
    .simp[Yw hd (show s.Β[i].length<2 ^ 62 by omega)]
    .by_cases e:j=n
     .subst e;simp only[Ta,o,p];rw[if_neg J,if_neg k]
     .exact l.2 j U
  .have hd:s.Β[i].length<=n:=by simpa using m
   refine W.exit rfl ?_;refine Χ ?_;refine W.forget _ ?_ (w (i+1) ⟨a,λj c=>?_⟩ U)
   .simp[Yw a (show s.Β.length<2 ^ 62 by omega)]
   .by_cases e:j=i
    .subst e;rw[t];exact QU λj c=>l.2 j U
    .exact hi.2 j U
 .have a:s.Β.length<=i:=by simpa using a
  refine W.exit rfl ?_;refine Χ ?_;refine W.rt ?_;exact .of (by rw[QU (f:=λi=>RA ((s.Β[i]?).getD [])) λj c=>hi.2 j U];rfl)
def VJ (s:υ) (c:List ZF):Int:=if 4<c.length then 6 else Xg ((List.range c.length).map λi=>match c[i]? with|none=>0|some p=>Yy s (c.take i) p)
def TP (s:υ):Int:=if 4<s.cells.length then 6 else Xg ((List.range s.cells.length).map λi=>VJ s ((s.cells[i]?).getD []))
theorem x3 (s:υ) (k:s.small):Κ prog 105 [ZB s] (R (TP s)):=by
 refine Μ.body Υ func105 rfl rfl ntmps105 rfl rfl J ?_;have D:=k.2.2.1;by_cases l:(4:Int)<s.cells.length
 .refine Ζ l ?_;refine Γ J ?_;refine Χ ?_;refine W.rt ?_;exact .of (by rw[show TP s=6 by simp[TP];omega];rfl)
 have v:TP s=Xg ((List.range s.cells.length).map λi=>VJ s ((s.cells[i]?).getD [])):=by
  unfold TP;rw[if_neg U]
 rw[v];refine Ζ l ?_;refine Η J ?_;refine Χ ?_;refine W.iter (λi:Nat=>i<=s.cells.length/\∀j,j<i->VJ s ((s.cells[j]?).getD [])=0) (λi=>[(1,Z9 s),(13,XL s.cells),(14,R s.cells.length),(15,R i)]) (λ_=>[]) (λi=>s.cells.length-i) 0 ⟨U,λj c=>U⟩ rfl J (λi hi w=>?_);refine Χ ?_;refine W.YN rfl (λa=>?_) (λa=>?_)
 .have a:i<s.cells.length:=by simpa using a
  have m:(s.cells[i]?).getD []=s.cells[i]:=by simp[a]
  have E:s.cells[i].length<2 ^ 30:=k.2.2.2.2 _ (Y2 a)
  have o:∀e:Int,VJ s s.cells[i]=e->e≠0->Xg ((List.range s.cells.length).map λi=>VJ s ((s.cells[i]?).getD []))=e:=λe x y=>
   QV (i:=i) a (by rw[m];exact x) y hi.2
  by_cases r:(4:Int)<s.cells[i].length
  .refine Ζ (Τ a r) ?_;refine Γ J ?_;refine Χ ?_;refine W.rt ?_;exact .of (by rw[o 6 (by unfold VJ;rw[if_pos U]) Z0];rfl)
  refine Ζ (Τ a r) ?_;refine Η J ?_;refine Χ ?_;have t:VJ s s.cells[i]=Xg ((List.range s.cells[i].length).map λn=>match s.cells[i][n]? with|none=>0|some p=>Yy s (s.cells[i].take n) p):=by unfold VJ;rw[if_neg U]
  refine W.iter (λn:Nat=>n<=s.cells[i].length/\∀j,j<n->(match s.cells[i][j]? with|none=>0|some p=>Yy s (s.cells[i].take j) p)=0) (λn=>[(1,Z9 s),(13,XL s.cells),(14,R s.cells.length),(15,R i),(4,Xt s.cells[i]),(22,Xt s.cells[i]),(23,R s.cells[i].length),(24,R n)]) (λ_=>[]) (λn=>s.cells[i].length-n) 0 ⟨U,λj c=>U⟩ rfl J (λn d B=>?_);refine Χ ?_;refine W.YN rfl (λg=>?_) (λg=>?_)
  .have hd:n<s.cells[i].length:=by simpa using g
   have u:s.cells[i][n]?=some s.cells[i][n]:=ε hd
   repeat apply Ξ
   refine Zj (A:=[6]) Υ λC h=>XF hd ?_;apply h;refine W.fix (id:=0) (σ':=[]) (Ε _) rfl J J rfl [(5,R n),(6,.ω [R s.cells[i][n].Zs,R s.cells[i][n].seen,R s.cells[i][n].bare]),(1,Z9 s),(13,XL s.cells),(14,R s.cells.length),(15,R i),(4,Xt s.cells[i]),(22,Xt s.cells[i]),(23,R s.cells[i].length),(24,R n)] J ?_
   repeat apply Ξ
   refine W.draw (A:=[]) Υ mixed λC h=>?_;simp;(repeat (rw[ZG];simp[hd,RP hd]));try rw[ZH]
   (try simp only[<-Mw]);refine Ys (Κ.q (Ee s (s.cells[i].take n) (by simp;omega) s.cells[i][n])) (Vf ?_);refine YF (h _ _ ?_)
   repeat apply Ξ
   refine Χ ?_;by_cases b:Yy s (s.cells[i].take n) s.cells[i][n]=0
   .refine Η (by simp[b]) ?_;refine Χ ?_;refine W.forget _ ?_ (B (n+1) ⟨hd,λj c=>?_⟩ U)
    .simp[Yw hd (show s.cells[i].length<2 ^ 62 by omega)]
    .by_cases e:j=n
     .subst e;rw[u];exact b
     .exact d.2 j U
   .refine Γ (by simp[b]) ?_;refine Χ ?_;refine W.rt ?_;exact .of (by rw[o (Yy s (s.cells[i].take n) s.cells[i][n]) (by rw[t];exact QV hd (by rw[u]) b d.2) b];rfl)
  .have hd:s.cells[i].length<=n:=by simpa using g
   refine W.exit rfl ?_;refine Χ ?_;refine W.forget _ ?_ (w (i+1) ⟨a,λj c=>?_⟩ U)
   .simp[Yw a (show s.cells.length<2 ^ 62 by omega)]
   .by_cases e:j=i
    .subst e;rw[m,t];exact QU λj c=>d.2 j U
    .exact hi.2 j U
 .have a:s.cells.length<=i:=by simpa using a
  refine W.exit rfl ?_;refine Χ ?_;refine W.rt ?_;exact .of (by rw[QU (f:=λi=>VJ s ((s.cells[i]?).getD [])) λj c=>hi.2 j U];rfl)
def υ.err (s:υ):Int:=if Wq s.Α≠0 then Wq s.Α else if Wp s.Β≠0 then Wp s.Β else TP s
theorem LK (s:υ) (f:s.small):Κ prog 48 [ZB s] (R s.err):=by
 refine Μ.body Υ func48 rfl rfl ntmps48 rfl rfl J ?_;refine Χ ?_;refine .loop ?_;refine Χ ?_;refine Γ rfl ?_;refine Χ ?_;refine ZP λh a=>?_;refine Κ.d (x7 s f) (ZY ?_);apply a;refine Χ ?_;by_cases b:Wq s.Α=0
 case neg=>
  refine Γ (by simp[b]) ?_;refine Χ ?_;refine W.rt ?_;exact .of (by rw[show s.err=Wq s.Α by unfold υ.err;rw[if_pos b]];rfl)
 refine Η (by simp[b]) ?_;refine Ζ @P4 ?_;refine .inLoop ?_;refine Χ ?_;refine Γ rfl ?_;refine Χ ?_;refine ZP λh a=>?_;refine Κ.d (x4 s f) (ZY ?_);apply a;refine Χ ?_;by_cases c:Wp s.Β=0
 case neg=>
  refine Γ (by simp[c]) ?_;refine Χ ?_;refine W.rt ?_;exact .of (by rw[show s.err=Wp s.Β by unfold υ.err;rw[if_neg (by simp[b]),if_pos c]];rfl)
 refine Η (by simp[c]) ?_;refine Ζ @Oi ?_;refine .inLoop ?_;refine Χ ?_;refine Γ rfl ?_;refine Χ ?_;refine ZP λh a=>?_;refine Κ.d (x3 s f) (ZY ?_);apply a;refine Χ ?_;have e:s.err=TP s:=by unfold υ.err;rw[if_neg (by simp[b]),if_neg (by simp[c])]
 rw[e];by_cases g:TP s=0
 case neg=>
  refine Γ (by simp[g]) ?_;refine Χ ?_;refine W.rt ?_;exact .of rfl
 refine Η (by simp[g]) ?_;refine Ζ @Ed ?_;refine .inLoop ?_;refine Χ ?_;refine Η rfl ?_;refine W.exit rfl ?_;refine Χ ?_;refine W.rt ?_;exact .of (by rw[g];rfl)
section
variable {P:Program} {T:ZR} {A:List Nat} {m nt:Nat} {k:List Item} {env:Δ} {σ:Ρ} {Z:XZ} {E:Yf}
theorem W.Yn (a:Zz P T) (env':Δ) (σ':Ρ) {id:Nat} {ops:Array Oper} (h:W P m nt k env' σ' Z E) (b:run P T A nt ops (idx ops.size []) env σ (λe s=>s=σ'/\∀p∈env',Z7 e p.1=p.2) E):W P m nt (.code (.region id ops false)::k) env σ Z E:=
 Zj a λg c=>JK (λe s ⟨d,f⟩=>c e s (d▸W.forget env' f h)) _ _ _ b
end
def XR (l:ξ):I:=if l.isEmpty then .sl true 0 [] else .ms 0 l.length 0 l.length
def μ (t:TypeId) (k:Nat) (l:ξ):Ρ:=if l.isEmpty then [] else [.cells t k l]
def YE (k:Nat) (l:ξ):I:=if l.isEmpty then .sl true 0 [] else .sl false k l
theorem Rz:XR []=.sl true 0 []:=rfl
theorem Wo {t k:Nat}:μ t k []=[]:=rfl
theorem QT {l:ξ} (h:l≠[]):XR l=.ms 0 l.length 0 l.length:=by unfold XR;rw[if_neg (by simpa using h)]
theorem YY {t k:Nat} {l:ξ} (h:l≠[]):μ t k l=[.cells t k l]:=by unfold μ;rw[if_neg (by simpa using h)]
theorem Nf {l:ξ} {x:I}:XR (l++[x])=.ms 0 (l.length+1) 0 (l.length+1):=by rw[QT J];simp
theorem P0 {t k:Nat} {l:ξ} {x:I}:μ t k (l++[x])=[.cells t k (l++[x])]:=YY J
theorem Yz.acc {t k:Nat} {l:ξ} (b:∀e∈l,∀a∈e.cells,ψ 0 a):Yz 0 (μ t k l) (XR l) (YE k l):=by
 unfold μ XR YE;cases h:l.isEmpty with
 | true=>exact .low J
 | false=>exact .own (Ε _) rfl rfl b
theorem Zi.acc {k:Nat} {l:ξ}:Zi (YE k l) (.sl false k l):=by
 unfold YE;cases h:l.isEmpty with
 | true=>rw[Qv.1 h];exact .nil
 | false=>exact .refl _
@[simp] theorem o8 {c:Type} {l:List c} {a b:c}:(l++[a]).set l.length b=l++[b]:=by rw[PF _ _ (Z1 _),Py];rfl
@[simp] theorem o7 {t k:Nat} {l:ξ}:ψ (μ t k l).length (XR l):=by
 unfold XR μ;cases l.isEmpty<;>simp[UF]
theorem ψ.mono {h c:Nat} {a:I} (d:ψ h a) (g:h<=c):ψ c a:=by
 induction d with
 | z v=>exact .z v
 | Zk=>exact .Zk
 | ω _ b=>exact .ω b
 | sl _ b=>exact .sl b
 | Z' _ b=>exact .Z' b
 | ZV _ b=>exact .ZV b
 | fn _ _ e f=>exact .fn e f
 | Xo _ b=>exact .Xo b
 | Ο h=>exact .Ο U
 | ms h=>exact .ms U
 | mp h=>exact .mp U
 | it h=>exact .it U
theorem QS {t k h:Nat} {l:ξ} (d:∀e∈l,∀a∈e.cells,ψ 0 a):∀r∈μ t k l,Yc h r:=by
 intro r b;unfold μ at b;cases c:l.isEmpty with
 | true=>rw[c] at b;simp at b
 | false=>
  rw[c] at b;simp at b;subst b;exact λe f a g=>(d e f a g).mono (Ε _)
section
variable {P:Program} {m nt:Nat} {k:List Item} {env:Δ} {Z:XZ} {E:Yf}
theorem W.VI {σ0:Ρ} {t:TypeId} {e:I} {kk:Nat} (c:m<=σ0.length) (d:∀r∈σ0,Yc σ0.length r) (f:∀a∈e.cells,ψ σ0.length a) (env':Δ)
  (g:∀p∈env',(Z7 env p.1=p.2/\ψ σ0.length p.2)\/(Z7 env p.1=.Ο σ0.length 1 0 0/\p.2=.ω e.cells)) (h:W P m nt k env' σ0 Z E):W P m nt k env (σ0++[.cells t kk [e]]) Z E:=
 W.fix (t:=t) (kk:=kk) (e:=e) c J f (λid r i b=>d r (by
  rw[Y0 i] at b;exact Zf b)) J env' g h
theorem W.Ec {t kk:Nat} {l:ξ} {d:Nat} (f:∀e∈l,∀a∈e.cells,ψ 0 a) (env':Δ) (hd:Z7 env d=XR l) (c:∀p∈env',Z7 env p.1=p.2/\ψ 0 p.2) (g:W P 0 nt k ((d,YE kk l)::env') [] Z E):W P 0 nt k env (μ t kk l) Z E:=
 W.cut 0 (Ε _) ((d,YE kk l)::env') (Ε _) (λid r h=>U) (λp b=>by
  rcases Zm.1 b with rfl|b
  .show Yz 0 _ (Z7 env d) _;rw[hd];exact .acc f
  .rw[(c p b).1];exact .low (c p b).2) (by simpa using g)
end
abbrev ZE (l:List Int):I:=.sl true 1 (l.map R)
theorem Zi.Hs {L:List (List Int)}:Zi (YE 1 (L.map ZE)) (θ L):=.trans .acc (.map λx _=>.one .ex rfl rfl)
theorem LJ {L:List (List Int)}:∀e∈L.map ZE,∀a∈e.cells,ψ 0 a:=by
 intro e c a b;obtain⟨x,_,rfl⟩:=Zd.1 c;simp[I.cells] at b;subst b;simp
theorem x2 (n:Int):Κ prog 51 [R n] (.ZV [R (if valid n then Jx n else 0),R (if valid n then 0 else 1)]):=by
 refine Μ.body Υ func51 rfl rfl ntmps51 rfl rfl J ?_;refine Χ ?_;refine ZP λc a=>?_;refine Κ.d (Nh n) (ZY ?_);apply a;cases b:valid n
 .refine Γ rfl ?_;refine Χ ?_;refine W.rt ?_;exact .of rfl
 .refine Η rfl ?_;refine ZP λc a=>?_;refine Κ.d (yx n) (ZY ?_);apply a;refine Χ ?_;refine W.rt ?_;exact .of rfl
def Ph {c:Type} [DecidableEq c]:c->List c->List c
 | _,[]=>[]
 | a,b::l=>if b=a then Ph a l else b::Ph b l
def V2 {b:Type} [DecidableEq b]:List b->List b
 | []=>[]
 | a::l=>a::Ph a l
theorem Eb {c:Type} [DecidableEq c] (l:List c) {p:Nat} (g:0<p) (h:p<l.length) (i:p-1<l.length):V2 (l.take (p+1))=V2 (l.take p)++if l[p]=l[p-1] then [] else [l[p]]:=by
 have gen:∀(l:List c) (a:c) (p:Nat) (h:p<l.length),Ph a (l.take (p+1))=Ph a (l.take p)++if l[p]=(a::l)[p]'(by simp;omega) then [] else [l[p]]:=by
  intro l
  induction l with
  | nil=>intro a p h;cases h
  | cons b l f=>
   intro a p h;cases p with
   | zero=>by_cases e:b=a<;>simp[Ph,e]
   | succ p=>
    have d:p<l.length:=by simpa using h
    by_cases e:b=a
    .subst e;have:=f b p d;simp only[List.take_succ_cons,Ph,if_true,List.getElem_cons_succ] at this ⊢;exact this
    .have:=f b p d;simp only[List.take_succ_cons,Ph,e,if_false,List.getElem_cons_succ,List.cons_append] at this ⊢;rw[this]
 cases l with
 | nil=>cases h
 | cons a l=>
  obtain⟨q,rfl⟩:∃q,p=q+1:=⟨p-1,U⟩;have d:q<l.length:=by simpa using h
  have:=gen l a q d;simp only[List.take_succ_cons,V2,List.getElem_cons_succ,Nat.add_sub_cancel] at this ⊢;rw[this];rfl
theorem Jt {f:List Int} {L:ξ} (a:L=f.map R) {j:Nat} {x:Int} (h:f[j]?=some x):L[j]?=some (R x)/\∀h:j<L.length,L[j]=R x:=by
 have e:L[j]?=some (R x):=by rw[a,Yh,h];rfl
 exact⟨e,λb=>by rw[ε b] at e;exact W3 e⟩
theorem x1 (l:List Int) (n:Nat) (d:l.length=n) (aF:n<2 ^ 40):Μ prog 133 [.ms 0 n 0 n] [.cells 3 1 (l.map R)]
  (λr s=>∃aa:List Int,(V2 l++aa).length=n/\r=.ms 0 n 0 (V2 l).length/\s=[.cells 3 1 ((V2 l++aa).map R)]) (λ_ _=>False):=by
 refine Μ.body Υ func133 rfl rfl ntmps133 rfl rfl J ?_;by_cases t:(n:Int)<2
 .refine Ζ (Τ d t) ?_;refine Γ rfl ?_;refine Ζ d ?_;refine W.ret ⟨_,rfl,[],?_⟩;have e:V2 l=l:=by
   match l,d with
   | [],_=>rfl
   | [a],_=>rfl
   | a::b::l,d=>simp at d;omega
  rw[e,Tn,d];exact⟨rfl,rfl,rfl⟩
 refine Ζ (Τ d t) ?_;refine Η rfl ?_;refine Χ ?_;refine W.iter (λk:Nat=>1<=k/\k<=n/\V2 (l.take k)=l.take k) (λk=>[(0,.ms 0 n 0 n),(3,R k)]) (λ_=>[.cells 3 1 (l.map R)]) (λk=>n-k) 1 ⟨Z1 _,U,by
  match l,d with
  | [],d=>rfl
  | a::l,d=>rfl⟩ rfl J (λk aj ak=>?_)
 obtain⟨aG,c,H⟩:=aj;refine Ζ d ?_;by_cases C:k<n
 .refine Γ (by simp[C]) ?_
  repeat apply Ξ
  obtain⟨p,ab⟩:∃p,k=p+1:=⟨k-1,U⟩;have al:IntKind.i64.wrap ((k:Int)-1)=(p:Int):=by have:=XW (show p<2 ^ 62 by omega);rw[ab];simpa using this
  have am:p<n:=U
  have N:k<l.length:=U
  have an:p<l.length:=U;obtain⟨L,h⟩:=Ι (l.map R);have I:L.length=n:=by rw[h];simpa using d
  obtain⟨O,P⟩:=Jt h (ε N);obtain⟨Q,S⟩:=Jt h (ε an);refine W.to (σ':=[.cells 3 1 L]) (env':=[(0,.ms 0 n 0 n),(3,R k)]) ?_ (by rw[h]) J;generalize T:l[k]=x at O P;generalize ao:l[p]=y at Q S;refine W0 (Τ C (Τ al (Τ I (Τ am (Τ O (Τ P (Τ Q S))))))) ?_;have ad:V2 (l.take (k+1))=V2 (l.take k)++if x=y then [] else [x]:=by
   rw[Eb l U N U];simp only[ab,Nat.add_sub_cancel] at T ⊢;rw[T,ao]
  by_cases K:x=y
  .refine Γ (by simp[K]) ?_
   repeat apply Ξ
   refine W.Yn (A:=[]) Υ [(0,.ms 0 n 0 n),(3,R k),(4,.ms 0 n k (n-k))] [.cells 3 1 L] ?_ (by
    (try simp);(repeat (rw[Ν];simp[I,RP C]));(try simp[I,RP C]))
   refine Χ ?_;have ae:V2 (l.take (k+1))=l.take k:=by rw[ad,if_pos K,Tn,H]
   refine W.iter (λq:Nat×Nat×List Int=>1<=q.2.1/\k+q.2.1<=n/\q.2.2.length=n/\q.1<k+q.2.1/\q.1=(V2 (l.take (k+q.2.1))).length/\q.2.2.take q.1=V2 (l.take (k+q.2.1))/\∀j,k+q.2.1-1<=j->j<n->q.2.2[j]?=l[j]?)
    (λq=>[(0,.ms 0 n 0 n),(3,R q.1),(4,.ms 0 n k (n-k)),(5,R q.2.1)]) (λq=>[.cells 3 1 (q.2.2.map R)]) (λq=>n-q.2.1) (k,1,l) ⟨Z1 _,by simp;omega,d,J,by simp only[ae];simp;omega,by simp only[ae],λj _ _=>rfl⟩ (by rw[h]) J (λq ap af=>?_)
   obtain⟨m,c,f⟩:=q;obtain⟨aq,ar,i,au,D,E,F⟩:=ap;simp only at aq ar i au D E F;clear h I O P Q S;refine Ζ i ?_;by_cases hd:c<n-k
   .have aH:(c:Int)<((n-k:Nat):Int):=U
    refine Γ (by simp[hd]) ?_
    repeat apply Ξ
    obtain⟨o,av⟩:∃r,c=r+1:=⟨c-1,U⟩;have aw:IntKind.i64.wrap ((c:Int)-1)=(o:Int):=by have:=XW (show o<2 ^ 62 by omega);rw[av];simpa using this
    have ax:o<n-k:=U;obtain⟨ag,w⟩:=Ι (f.map R);have V:ag.length=n:=by rw[w];simpa using i
    have ah:f[k+c]?=some (l[k+c]'U):=by rw[F _ U U,ε]
    have hv:f[k+o]?=some (l[k+o]'U):=by rw[F _ U U,ε]
    have g:=Eb l (p:=k+c) U U U
    have ay:l[k+c-1]'U=l[k+o]'U:=by congr 1;omega
    rw[ay] at g;generalize l[k+c]'U=u at ah g;generalize l[k+o]'U=v at hv g;obtain⟨X,Y⟩:=Jt w ah;obtain⟨az,aA⟩:=Jt w hv;refine W.to (σ':=[.cells 3 1 ag]) (env':=[(0,.ms 0 n 0 n),(3,R m),(4,.ms 0 n k (n-k)),(5,R c)]) ?_ (by rw[w]) J;have B:m<n:=U;refine W.draw (A:=[]) Υ mixed λaI aB=>?_;simp;(repeat (rw[ZG];simp[hd,aw,ax,V,X,Y,az,aA]));try rw[ZH];refine YF (aB _ _ ?_)
    by_cases M:u=v
    .refine Η (by simp[M]) ?_;refine Χ ?_;rw[if_pos M,Tn] at g;refine W.to (af (m,c+1,f) ⟨J,by simp;omega,i,by simp;omega,by simp only[<-SZ,g];exact D,by simp only[<-SZ,g];exact E,λj Z t=>F j (by simp at Z;omega) t⟩ (by simp;omega)) (by rw[w]) ?_;have:=XW (show c+1<2 ^ 62 by omega);simpa using this
    .refine Γ (by simp[M]) ?_;rw[if_neg M] at g
     repeat apply Ξ
     refine W.Yn (A:=[]) Υ [(0,.ms 0 n 0 n),(3,R m),(4,.ms 0 n k (n-k)),(5,R c)] [.cells 3 1 ((f.set m u).map R)] ?_ (by
      (try simp);(repeat (rw[Ν];simp[hd,V,B,X,Y]));(try simp[hd,V,B,X,Y]);subst w;simp)
     refine Χ ?_;refine W.to (af (m+1,c+1,f.set m u) ⟨J,by simp;omega,by simpa using i,by simp;omega,by simp only[<-SZ,g];simp;exact D,?_,λj Z t=>?_⟩ (by simp;omega)) J ?_
     .simp only[<-SZ,g];rw[<-E,Wx (by simp;omega),List.take_set_of_le (Z1 _)];simp
     .simp at Z;rw[Vm U];exact F j U t
     .have ai:=XW (show c+1<2 ^ 62 by omega)
      have Φ:=XW (show m+1<2 ^ 62 by omega);simp at ai Φ ⊢;exact⟨Φ,ai⟩
   .refine Η (by simp[hd]) ?_;refine W.exit rfl ?_;have aC:k+c=n:=U;have aD:l.take n=l:=VB U;rw[aC,aD] at D E
    repeat apply Ξ
    have B:m<=n:=U;refine W.Yn (A:=[]) Υ [(0,.ms 0 n 0 n),(3,R m)] [.cells 3 1 ((V2 l++List.replicate (n-m) 0).map R)] ?_ (by
     (try simp);(repeat (rw[Ν];simp[i,B]));(try simp[i,B]);rw[<-Mw,E,NU (by simp;omega),Tn])
    have aE:(V2 l).length+(n-m)=n:=U;refine Ζ (Τ aE B) ?_;refine W.ret ⟨_,rfl,List.replicate (n-m) 0,by simp;omega,?_,J⟩;rw[<-D];rfl
  .refine Η (by simp[K]) ?_;refine Χ ?_;refine W.to (ak (k+1) ⟨U,U,?_⟩ U) (by rw[h]) ?_
   .rw[ad,if_neg K,H,<-T,<-Wx N]
   .have:=XW (show k+1<2 ^ 62 by omega);simpa using this
 .refine Η (by simp[C]) ?_;refine W.exit rfl ?_;refine Χ ?_;refine W.ret ⟨_,rfl,[],?_⟩;have e:V2 l=l:=by rw[VB U] at H;exact H
  rw[e,Tn,d];exact⟨rfl,rfl,rfl⟩
def Wz:υ:=⟨[],[],[]⟩
theorem S' {e f g:Bool} {a b c:Nat}:Zi (.Z' [.sl e a [],.sl f b [],.sl g c []]) (ZB Wz):=.Z' (.cons .nil (.cons .nil (.cons .nil .nil)))
abbrev Ea (r:υ×List Found×Int):I:=.ZV [ZB r.1,YW r.2.1,R r.2.2]
def Xl (s:υ) (a:Bool) (F:List Found):υ×List Found×Int:=
 if s.err≠0 then(Wz,[],s.err) else if a=true/\F=[] then(s,[],9) else(s,F,0)
def SF (s:υ) (a:Int) (F:List Found):υ×List Found×Int:=
 if s.err≠0 then(Wz,[],s.err) else if a<0\/(s.cells.length:Int)<=a then(Wz,[],3) else Xl s true F
def Ry (s:υ) (F:List Found):Prop:=s.err=0->Κ prog 116 [ZB s] (YW F)
theorem Js (s:υ) (g:s.small) (c:Bool) (F:List Found) (h:Ry s F):Κ prog 75 [ZB s,ZU c] (Ea (Xl s c F)):=by
 refine Μ.body Υ func75 rfl rfl ntmps75 rfl rfl J ?_
 repeat apply Ξ
 refine Zj (A:=[4]) Υ λf a=>ZY ?_;apply a;refine ZP λf a=>?_;refine Κ.d (LK s g) (ZY ?_);apply a;refine Χ ?_;by_cases b:s.err=0
 case neg=>
  have e:Xl s c F=(Wz,[],s.err):=by unfold Xl;rw[if_pos b]
  rw[e];refine Γ (by simp[b]) ?_;refine Χ ?_;refine W.fix (id:=0) (σ':=[]) (Ε _) rfl J J rfl [(4,.ω [.sl true 0 [],.sl true 0 [],.sl true 0 []]),(5,.sl true 0 []),(6,R s.err)] J ?_;refine W.rt ?_;exact .ZV (.cons S' (.cons .nil (.cons (.refl _) .nil)))
 refine Η (by simp[b]) ?_
 repeat apply Ξ
 refine Zj (A:=[8]) Υ λf a=>ZY ?_;apply a;refine ZP λf a=>?_;refine Κ.d (h b) (ZY ?_);apply a
 repeat apply Ξ
 cases c
 case false=>
  have e:Xl s false F=(s,F,0):=by unfold Xl;rw[if_neg (by simpa using b),if_neg J]
  rw[e];refine Χ ?_;refine Η rfl ?_;refine Χ ?_;refine W.fix (id:=0) (σ':=[]) (Ε _) rfl J J rfl [(4,Z9 s),(5,YW F),(6,R 0)] J ?_;refine W.rt ?_;exact .refl _
 case true=>
  refine Χ ?_;by_cases z:F=[]
  .have e:Xl s true F=(s,[],9):=by unfold Xl;rw[if_neg (by simpa using b),if_pos ⟨rfl,z⟩]
   rw[e];refine Γ (by simp[z]) ?_;refine Χ ?_;refine W.fix (id:=0) (σ':=[]) (Ε _) rfl J J rfl [(4,Z9 s),(5,.sl true 0 []),(6,R 9)] J ?_;refine W.rt ?_;exact .ZV (.cons (.refl _) (.cons .nil (.cons (.refl _) .nil)))
  .have e:Xl s true F=(s,F,0):=by unfold Xl;rw[if_neg (by simpa using b),if_neg (by simp[z])]
   rw[e];refine Η (by simp[z]) ?_;refine Χ ?_;refine W.fix (id:=0) (σ':=[]) (Ε _) rfl J J rfl [(4,Z9 s),(5,YW F),(6,R 0)] J ?_;refine W.rt ?_;exact .refl _
theorem x0 (s:υ) (g:s.small) (a:Int) (F:List Found) (j:Ry s F):Κ prog 82 [ZB s,R a] (Ea (SF s a F)):=by
 refine Μ.body Υ func82 rfl rfl ntmps82 rfl rfl J ?_
 repeat apply Ξ
 refine Zj (A:=[4]) Υ λh b=>ZY ?_;apply b;refine ZP λh b=>?_;refine Κ.d (LK s g) (ZY ?_);apply b;refine Χ ?_;by_cases c:s.err=0
 case neg=>
  have e:SF s a F=(Wz,[],s.err):=by unfold SF;rw[if_pos c]
  rw[e];refine Γ (by simp[c]) ?_;refine Χ ?_;refine W.fix (id:=0) (σ':=[]) (Ε _) rfl J J rfl [(4,.ω [.sl true 0 [],.sl true 0 [],.sl true 0 []]),(5,.sl true 0 []),(6,R s.err)] J ?_;refine W.rt ?_;exact .ZV (.cons S' (.cons .nil (.cons (.refl _) .nil)))
 refine Η (by simp[c]) ?_;have i:SF s a F=if a<0\/(s.cells.length:Int)<=a then(Wz,[],3) else Xl s true F:=by unfold SF;rw[if_neg (by simpa using c)]
 repeat apply Ξ
 refine W.Qd (A:=[]) Υ [(22,ZU (decide (a<0)||decide ((s.cells.length:Int)<=a))),(2,Z9 s),(4,.Ο 0 1 0 0),(1,R a)] ?_ (by
  by_cases q:a<0
  ·(try simp);(repeat (rw[Ν];simp[q]));(try simp[q])
  ·(try simp);(repeat (rw[Ν];simp[q]));(try simp[q]))
 by_cases f:a<0\/(s.cells.length:Int)<=a
 .rw[i,if_pos f];refine Γ (by simpa using f) ?_;refine Χ ?_;refine W.fix (id:=0) (σ':=[]) (Ε _) rfl J J rfl [(4,.ω [.sl true 0 [],.sl true 0 [],.sl true 0 []]),(5,.sl true 0 []),(6,R 3)] J ?_;refine W.rt ?_;exact .ZV (.cons S' (.cons .nil (.cons (.refl _) .nil)))
 .rw[i,if_neg f];refine Η (by simpa using f) ?_;refine ZP λh b=>?_;refine Κ.d (Js s g true F j) (ZY ?_);apply b;refine Χ ?_;generalize Xl s true F=r;refine W.fix (id:=0) (σ':=[]) (Ε _) rfl J J rfl [(4,.ω [Z6 r.1.Α,θ r.1.Β,XL r.1.cells]),(5,YW r.2.1),(6,R r.2.2)] J ?_;refine W.rt ?_;exact .refl _
def UC (F:List Found):List (List Int):=F.map λf=>[f.u,f.v]
theorem D' {a b:Type} (f:a->b) (l:List a) {i:Nat} (h:i<l.length):(l.take (i+1)).map f=(l.take i).map f++[f l[i]]:=by
 rw[Wx h,Yd];rfl
theorem xZ (s:υ) (r:s.small) (F:List Found) (w:Ry s F) (x:F.length<2 ^ 20):Κ prog 42 [ZB s] (.ZV [θ (if s.err=0 then UC F else []),R s.err]):=by
 refine Μ.body Υ func42 rfl rfl ntmps42 rfl rfl J ?_;refine Χ ?_;refine Y1 ?_;refine Zj (A:=[4]) Υ λy j=>ZY ?_;refine Κ.d (Js s r false F w) (ZY ?_);apply j;have e:Xl s false F=if s.err=0 then(s,F,0) else(Wz,[],s.err):=by
  unfold Xl;by_cases b:s.err=0
  .rw[if_neg (by simpa using b),if_neg J,if_pos b]
  .rw[if_pos b,if_neg b]
 have n:(Xl s false F).2.1=if s.err=0 then F else []:=by rw[e];split<;>rfl
 have Φ:(Xl s false F).2.2=s.err:=by rw[e];split<;>simp[*]
 obtain⟨G,g⟩:∃G,G=if s.err=0 then F else []:=⟨_,rfl⟩
 have E:G.length<2 ^ 20:=by rw[g];split;exact x;simp
 have o:(if s.err=0 then UC F else [])=UC G:=by rw[g];split<;>rfl
 rw[n,Φ,o,<-g];clear g o e n Φ;generalize s.err=c;refine W.drop (h:=0) (σ':=[]) (Ε _) (Ε _) J rfl [(5,YW G),(6,R c)] J ?_;refine Χ ?_;have H:∀i,(UC G).take i=UC (G.take i):=λi=>by simp[UC]
 refine W.iter (λi:Nat=>i<=G.length) (λi=>[(6,R c),(7,XR ((UC (G.take i)).map ZE)),(16,YW G),(17,R G.length),(18,R i)])
  (λi=>μ 29 1 ((UC (G.take i)).map ZE)) (λi=>G.length-i) 0 (Ε _) rfl (by simp[Rz,UC]) (λi hi B=>?_)
 refine Χ ?_;refine W.YN rfl (λa=>?_) (λa=>?_)
 .have a:i<G.length:=by simpa using a
  have l:(UC (G.take (i+1))).map ZE=(UC (G.take i)).map ZE++[ZE [G[i].u,G[i].v]]:=by
   unfold UC;rw[Sq,Sq,D' _ _ a];rfl
  have p:=λh=>QS (t:=29) (k:=1) (h:=h) (LJ (L:=UC (G.take i)))
  have C:((UC (G.take i)).map ZE).length<=i:=by simp[UC];omega
  obtain⟨L,m⟩:=Ι ((UC (G.take i)).map ZE);rw[<-m] at p C l;refine W.to (σ':=μ 29 1 L) (env':=[(6,R c),(7,XR L),(16,YW G),(17,R G.length),(18,R i)]) ?_ (by rw[m]) (by rw[m];simp)
  repeat apply Ξ
  refine Zj (A:=[9]) Υ λy j=>XF a ?_;apply j;refine W.VI (Ε _) (p _) J [(9,.ω [R G[i].u,R G[i].v,TT G[i].cells]),(6,R c),(7,XR L),(16,YW G),(17,R G.length),(18,R i)] J ?_
  repeat apply Ξ
  refine W.Yn (A:=[26]) Υ [(6,R c),(7,XR (L++[ZE [G[i].u,G[i].v]])),(16,YW G),(17,R G.length),(18,R i)] (μ 29 1 (L++[ZE [G[i].u,G[i].v]])) ?_ (by
   by_cases f:L=[]
   .subst f;(try simp);(repeat (rw[Ν];simp[Rz,Wo]));(try simp[Rz,Wo]);exact⟨rfl,rfl⟩
   .have D:L.length<=4294967295:=U
    (try simp);(repeat (rw[Ν];simp[QT f,YY f,Nf,P0]));(try simp[QT f,YY f,Nf,P0]);exact D)
  refine Χ ?_;refine W.to (B (i+1) a U) ?_ ?_
  .rw[l]
  .rw[l];simp[Yw a (show G.length<2 ^ 62 by omega)]
 .have a:i=G.length:=by simp at a;omega
  subst a;refine W.exit rfl ?_;refine Χ ?_;refine W.Ec (d:=2) LJ [(3,R c)] J J ?_;refine W.rt ?_;exact .ZV (.cons .Hs (.cons (.refl _) .nil))
abbrev R8 (l:List Int):List Int:=l.mergeSort (λx y=>decide (x<=y))
def Hr (N:Nat):Prop:=∀(l:List Int),l.length<=N->Μ prog 132 [.ms 0 l.length 0 l.length] [.cells 3 1 (l.map R)] (λr s=>r=.ZV []/\s=[.cells 3 1 ((R8 l).map R)]) (λ_ _=>False)
def TO (a:Bool) (r:Int×Int):Int:=if a then r.2 else r.1
def SE (a:Bool) (A:List Int) (C:List (Int×Int)) (j:Nat):List Int:=A++(C.take j).map (TO a)
theorem D9 {a:Bool} {A:List Int} {C:List (Int×Int)}:SE a A C 0=A:=by simp[SE]
theorem xY {a:Bool} {A:List Int} {C:List (Int×Int)} {j:Nat} (h:j<C.length):SE a A C (j+1)=SE a A C j++[TO a C[j]]:=by
 unfold SE;rw[D' _ _ h,U6]
theorem D8 {a:Bool} {A:List Int} {C:List (Int×Int)} {j:Nat} (h:C.length<=j):SE a A C j=A++C.map (TO a):=by
 unfold SE;rw[VB h]
theorem xX {a:Bool} {A:List Int} {C:List (Int×Int)} {j:Nat}:(SE a A C j).length<=A.length+j:=by
 unfold SE;simp;omega
def D7 (f:Found) (a:Nat) (b:Bool):List Int:=((f.cells[a]?).getD []).map (TO b)
def U0 (F:List Found) (a:Nat) (b:Bool):List Int:=F.flatMap λf=>D7 f a b
def Rx (F:List Found) (a:Nat) (b:Bool):List Int:=V2 (R8 (U0 F a b))
theorem Hq {l:List Int}:∀e∈l.map R,∀a∈e.cells,ψ 0 a:=by
 intro e c a b;obtain⟨x,_,rfl⟩:=Zd.1 c;simp[I.cells] at b;subst b;simp
theorem xW (F:List Found) (g:Nat) (b:Bool) (an:F.length<2 ^ 20) (Z:∀f∈F,g<f.cells.length/\∀c∈f.cells,c.length<2 ^ 20) (N:Nat) (ao:N<2 ^ 20) (aa:Hr N) (S:U0 F g b≠[]) (D:(U0 F g b).length<=N) :
  Κ prog 95 [YW F,R g,ZU b] (ζ R 1 (Rx F g b)):=by
 refine Μ.body Υ func95 rfl rfl ntmps95 rfl rfl J ?_;refine Χ ?_;refine W.iter (λi:Nat=>i<=F.length) (λi=>[(1,R g),(2,ZU b),(7,XR ((U0 (F.take i) g b).map R)),(12,YW F),(13,R F.length),(14,R i)])
  (λi=>μ 3 1 ((U0 (F.take i) g b).map R)) (λi=>F.length-i) 0 (Ε _) rfl (by simp[U0,Rz]) (λi hi ab=>?_)
 refine Χ ?_;have ad:∀i,(U0 (F.take i) g b).length<=N:=λi=>by
  have e:U0 F g b=U0 (F.take i) g b++U0 (F.drop i) g b:=by
   conv=>lhs;rw[<-NT i F]
   simp only[U0,List.flatMap_append]
  rw[e,Wc] at D;omega
 refine W.YN rfl (λE=>?_) (λE=>?_)
 .have n:i<F.length:=by simpa using E
  obtain⟨H,ae⟩:=Z _ (Y2 n);have af:F[i].cells[g].length<2 ^ 20:=ae _ (Y2 H);obtain⟨A,I⟩:=Ι (U0 (F.take i) g b);have y:U0 (F.take (i+1)) g b=A++F[i].cells[g].map (TO b):=by
   rw[I];unfold U0;rw[Wx n,List.flatMap_append];simp[D7,H]
  have T:(A++F[i].cells[g].map (TO b)).length<=N:=by rw[<-y];exact ad _
  rw[Wc,Yp] at T;refine W.to (σ':=μ 3 1 (A.map R)) (env':=[(1,R g),(2,ZU b),(7,XR (A.map R)),(12,YW F),(13,R F.length),(14,R i)]) ?_ (by rw[I]) (by rw[I];simp)
  repeat apply Ξ
  refine Zj (A:=[9]) Υ λK o=>XF n ?_;apply o;refine W.VI (Ε _) (QS Hq) J [(9,.ω [R F[i].u,R F[i].v,TT F[i].cells]),(1,R g),(2,ZU b),(7,XR (A.map R)),(12,YW F),(13,R F.length),(14,R i)] J ?_;refine Ζ H ?_;generalize ap:F[i].cells[g]=C at af y T;refine W.iter (λj:Nat=>j<=C.length) (λj=>[(1,R g),(2,ZU b),(7,XR ((SE b A C j).map R)),(12,YW F),(13,R F.length),(14,R i),(22,TU C),(23,R C.length),(24,R j)])
   (λj=>μ 3 1 ((SE b A C j).map R)) (λj=>C.length-j) 0 (Ε _) (by rw[D9]) (by simp[D9]) (λj aq ag=>?_)
  refine Χ ?_;refine W.YN rfl (λM=>?_) (λM=>?_)
  .have w:j<C.length:=by simpa using M
   obtain⟨L,B⟩:=Ι (SE b A C j);have ar:L.length<=A.length+j:=by rw[B];exact xX
   have O:SE b A C (j+1)=L++[TO b C[j]]:=by rw[B];exact xY w
   refine W.to (σ':=μ 3 1 (L.map R)) (env':=[(1,R g),(2,ZU b),(7,XR (L.map R)),(12,YW F),(13,R F.length),(14,R i),(22,TU C),(23,R C.length),(24,R j)]) ?_ (by rw[B]) (by rw[B];simp)
   repeat apply Ξ
   refine Zj (A:=[11]) Υ λK o=>XF w ?_;apply o;refine W.VI (Ε _) (QS Hq) J [(11,.ω [R C[j].1,R C[j].2]),(1,R g),(2,ZU b),(7,XR (L.map R)),(12,YW F),(13,R F.length),(14,R i),(22,TU C),(23,R C.length),(24,R j)] J ?_
   repeat apply Ξ
   generalize C[j]=r at O;refine W.Yn (A:=[34]) Υ [(1,R g),(2,ZU b),(7,XR ((L++[TO b r]).map R)),(12,YW F),(13,R F.length),(14,R i),(22,TU C),(23,R C.length),(24,R j)] (μ 3 1 ((L++[TO b r]).map R)) ?_ (by
    have ah:L.length<=4294967295:=U;rw[Yd];cases b
    all_goals
     by_cases P:L.map R=[]
     .rw[P,Rz,Wo];(try simp);(repeat (rw[Ν];simp));(try simp);refine Κ.d (Hw _) (ZY ?_);simp[μ,XR,TO]
     .rw[QT P,YY P];(try simp);(repeat (rw[Ν];simp));(try simp);refine Κ.d (Hw _) (ZY ?_);simp[P0,Nf,TO,ah])
   refine Χ ?_;refine W.to (ag (j+1) w U) ?_ ?_
   .rw[O,Yd];rfl
   .rw[O];simp[Yw w (show C.length<2 ^ 62 by omega)]
  .have w:C.length<=j:=by simpa using M
   refine W.exit rfl ?_;refine Χ ?_;refine W.to (ab (i+1) n U) ?_ ?_
   .rw[y,D8 w]
   .rw[y,D8 w];simp[Yw n (show F.length<2 ^ 62 by omega)]
 .have n:i=F.length:=by simp at E;omega
  refine W.exit rfl ?_;rw[n,Mx];obtain⟨h,V⟩:=Ι (U0 F g b);rw[<-V] at S D ⊢;have X:h.map R≠[]:=by simpa using S
  have ai:Rx F g b=V2 (R8 h):=by rw[V];rfl
  have aj:(R8 h).length=h.length:=by simp[R8]
  refine W.to (σ':=[.cells 3 1 (h.map R)]) (env':=[(7,.ms 0 h.length 0 h.length)]) ?_ (YY X) (by simp[QT X]);refine ZP λK o=>?_;refine Μ.one (aa h D) 0 rfl (QW Pj) (QW Pj) (by simp[TS]) (by simp[Xh]) (by simp[TR]) ?_;simp[Yk,Wf];(repeat (rw[Ν];simp));apply o;refine ZP λK o=>?_;have ak:=x1 (R8 h) h.length aj U;refine Μ.Hu ak 0 rfl (QW Pj) (by simp[TS]) (by simp[TR]) (λa s ⟨Q,al,Y,am⟩=>⟨_,am,QW Pj,by subst Y;simp[TS],?_⟩);subst Y;simp[TR];(repeat (rw[Ν];simp));apply o;refine W.cut 0 (Ε _) [(6,ζ R 1 (V2 (R8 h)))] J J ?_ ?_
  .intro p x;simp at x;subst x;have x:=Yz.part (σ:=[.cells 3 1 ((V2 (R8 h)).map R++Q.map R)]) (id:=0) (t:=3) (k:=1) (l:=(V2 (R8 h)).map R) (l2:=Q.map R) (m:=(V2 (R8 h)).length) rfl J Hq;have e:((V2 (R8 h)).map R++Q.map R).length=h.length:=by rw[<-Yd,Yp];exact al
   rw[e] at x;exact x
  .rw[ai];refine W.rt ?_;exact .refl _
abbrev Vb (n:Int):I:=.z (.int .i32 n)
theorem xV (l:List Int):Qg (l.map Vb)=some l:=by
 induction l with
 | nil=>rfl
 | cons a l b=>simp[Qg,b]
def Pg (s:υ) (F:List Found) (a:Bool) (b:ByteArray->Int) (c:Nat):Int:=
 let l:=Rx F c a
 if 1<l.length then 63 else if l.headD 0<0 then 45 else match s.Α[(l.headD 0).toNat]? with|some g=>b g.name|none=>0
def R7 (s:υ) (F:List Found) (a:Bool) (b:ByteArray->Int) (c:Nat):List Int:=(List.range c).map (Pg s F a b)
def Pf (s:υ) (F:List Found) (a:Bool) (b:ByteArray->Int):ByteArray×Int:=
 if(Xl s true F).2.2=0 then(spell (R7 s F a b s.cells.length),0) else(⟨#[]⟩,(Xl s true F).2.2)
structure D6 (s:υ) (F:List Found) (a:Bool) (b:ByteArray->Int) (N:Nat):Prop where
 Rw:F.length<2 ^ 20
 cells:∀f∈F,f.cells.length=s.cells.length/\∀c∈f.cells,c.length<2 ^ 20
 some:∀c,c<s.cells.length->U0 F c a≠[]/\(U0 F c a).length<=N/\Rx F c a≠[]/\(Rx F c a).length<2 ^ 30/\∀x∈Rx F c a,x<s.Α.length
 name:∀g∈s.Α,(Conv.runesFrom g.name g.name.size 0 #[])[0]?=Option.some (.int .i32 (b g.name))
theorem xU (s:υ) (O:s.small) (F:List Found) (V:Ry s F) (a:Bool) (j:ByteArray->Int) (N:Nat) (X:N<2 ^ 20) (Y:Hr N) (p:(Xl s true F).2.2=0->D6 s F a j N) :
  Κ prog 40 [ZB s,ZU a] (.ZV [TV (Pf s F a j).1,R (Pf s F a j).2]):=by
 refine Μ.body Υ func40 rfl rfl ntmps40 rfl rfl J ?_;refine Χ ?_;refine Y1 ?_;refine Zj (A:=[6]) Υ λB r=>ZY ?_;refine Κ.d (Js s O true F V) (ZY ?_);apply r;by_cases b:(Xl s true F).2.2=0
 case neg=>
  have e:Pf s F a j=(⟨#[]⟩,(Xl s true F).2.2):=by unfold Pf;rw[if_neg b]
  rw[e];generalize (Xl s true F).2.2=Z at b;refine Χ ?_;refine Γ (by simp[b]) ?_;refine Χ ?_;refine W.drop (h:=0) (σ':=[]) (Ε _) (Ε _) J rfl [(4,TV ⟨#[]⟩),(5,R Z)] J ?_;refine W.rt ?_;exact .refl _
 have p:=p b
 have e:Xl s true F=(s,F,0):=by
  unfold Xl at b ⊢;split at b
  .rename_i h;simp at b;exact absurd b h
  .split at b
   .simp at b
   .rename_i C D;rw[if_neg C,if_neg D]
 have Φ:Pf s F a j=(spell (R7 s F a j s.cells.length),0):=by unfold Pf;rw[if_pos b]
 rw[Φ,e];refine W.fix (id:=0) (σ':=[]) (Ε _) rfl J J rfl [(1,ZU a),(6,Z9 s),(7,YW F),(8,R 0)] J ?_;refine Χ ?_;refine Η rfl ?_;refine Χ ?_;have af:s.cells.length<2 ^ 30:=O.2.2.1;refine W.iter (λc:Nat=>c<=s.cells.length) (λc=>[(1,ZU a),(6,Z9 s),(7,YW F),(9,XR ((R7 s F a j c).map Vb)),(25,R s.cells.length),(26,R c)])
  (λc=>μ 21 1 ((R7 s F a j c).map Vb)) (λc=>s.cells.length-c) 0 (Ε _) rfl (by simp[R7,Rz]) (λc ag E=>?_)
 refine Χ ?_;refine W.YN rfl (λv=>?_) (λv=>?_)
 .have n:c<s.cells.length:=by simpa using v
  obtain⟨C,D,P,aa,Q⟩:=p.some c n;obtain⟨i,t⟩:=Ι (R7 s F a j c);have ah:i.length=c:=by rw[t];simp[R7]
  have u:R7 s F a j (c+1)=i++[Pg s F a j c]:=by rw[t];unfold R7;rw[VA,Yd];rfl
  refine W.to (σ':=μ 21 1 (i.map Vb)) (env':=[(1,ZU a),(6,Z9 s),(7,YW F),(9,XR (i.map Vb)),(25,R s.cells.length),(26,R c)]) ?_ (by rw[t]) (by rw[t];simp);refine Χ ?_;refine ZP λB r=>?_;refine Κ.d (xW F c a p.Rw (λf S=>⟨by rw[(p.cells f S).1];exact n,(p.cells f S).2⟩) N X Y C D) (ZY ?_);apply r;have H:i.length<=4294967295:=U;obtain⟨l,I⟩:=Ι (Rx F c a);have K:Pg s F a j c=if 1<l.length then 63 else if l.headD 0<0 then 45 else match s.Α[(l.headD 0).toNat]? with|some g=>j g.name|none=>0:=by rw[I];rfl
  rw[<-I] at P aa Q ⊢;clear I t;refine Χ ?_;by_cases q:1<l.length
  .have o:Pg s F a j c=63:=by rw[K,if_pos q]
   refine Γ (by simp;omega) ?_
   repeat apply Ξ
   refine W.Yn (A:=[57]) Υ [(1,ZU a),(6,Z9 s),(7,YW F),(9,XR ((i++[63]).map Vb)),(25,R s.cells.length),(26,R c)] (μ 21 1 ((i++[63]).map Vb)) ?_ (by
    rw[Yd];by_cases m:i.map Vb=[]
    .rw[m,Rz,Wo];(try simp);(repeat (rw[Ν];simp));(try simp);simp[μ,XR]
    .rw[QT m,YY m];(try simp);(repeat (rw[Ν];simp));(try simp);simp[P0,Nf,H])
   refine Χ ?_;refine W.to (E (c+1) n U) ?_ ?_
   .simp only[u,o,Yd,XC,UU]
   .rw[u,o];simp[Yw n (show s.cells.length<2 ^ 62 by omega)]
  .obtain⟨x,ab⟩:∃x,l=[x]:=by
    match l,P,q with
    | [x],_,_=>exact⟨x,rfl⟩
    | x::y::z,_,q=>simp at q
   subst ab;refine Η J ?_;refine Χ ?_;by_cases g:x<0
   .have o:Pg s F a j c=45:=by rw[K];simp[g]
    refine Γ (by simp[g]) ?_;refine Χ ?_;refine W.Yn (A:=[57]) Υ [(1,ZU a),(6,Z9 s),(7,YW F),(9,XR ((i++[45]).map Vb)),(25,R s.cells.length),(26,R c)] (μ 21 1 ((i++[45]).map Vb)) ?_ (by
     rw[Yd];by_cases m:i.map Vb=[]
     .rw[m,Rz,Wo];(try simp);(repeat (rw[Ν];simp));(try simp);simp[μ,XR]
     .rw[QT m,YY m];(try simp);(repeat (rw[Ν];simp));(try simp);simp[P0,Nf,H])
    refine Χ ?_;refine W.to (E (c+1) n U) ?_ ?_
    .simp only[u,o,Yd,XC,UU]
    .rw[u,o];simp[Yw n (show s.cells.length<2 ^ 62 by omega)]
   .obtain⟨k,rfl⟩:∃k:Nat,x=k:=⟨x.toNat,U⟩;have L:k<s.Α.length:=by have:=Q (k:Int) J;omega
    have o:Pg s F a j c=j s.Α[k].name:=by rw[K];simp[g,L]
    have w:=p.name _ (Y2 L)
    have ad:∀h:0<(Conv.runesFrom s.Α[k].name s.Α[k].name.size 0 #[]).size,(Conv.runesFrom s.Α[k].name s.Α[k].name.size 0 #[])[0]'h=.int .i32 (j s.Α[k].name):=λh=>by
     rw[XI h] at w;exact W3 w
    have T:0<(Conv.runesFrom s.Α[k].name s.Α[k].name.size 0 #[]).size:=(T'.1 w).1;refine Η J ?_;refine W0 (Τ L (Τ w T)) ?_
    repeat apply Ξ
    refine W.forget [(1,ZU a),(6,Z9 s),(7,YW F),(9,XR (i.map Vb)),(11,Vb (j s.Α[k].name)),(25,R s.cells.length),(26,R c)] (by simp[ad T]) ?_;refine W.Yn (A:=[57]) Υ [(1,ZU a),(6,Z9 s),(7,YW F),(9,XR ((i++[(j s.Α[k].name)]).map Vb)),(25,R s.cells.length),(26,R c)] (μ 21 1 ((i++[(j s.Α[k].name)]).map Vb)) ?_ (by
     rw[Yd];by_cases m:i.map Vb=[]
     .rw[m,Rz,Wo];(try simp);(repeat (rw[Ν];simp));(try simp);simp[μ,XR]
     .rw[QT m,YY m];(try simp);(repeat (rw[Ν];simp));(try simp);simp[P0,Nf,H])
    refine Χ ?_;refine W.to (E (c+1) n U) ?_ ?_
    .simp only[u,o,Yd,XC,UU]
    .rw[u,o];simp[Yw n (show s.cells.length<2 ^ 62 by omega)]
 .have v:c=s.cells.length:=by simp at v;omega
  subst v;refine W.exit rfl ?_;refine Χ ?_;obtain⟨i,t⟩:=Ι (R7 s F a j s.cells.length);rw[<-t];refine W.to (σ':=μ 21 1 (i.map Vb)) (env':=[(9,XR (i.map Vb))]) ?_ rfl J;by_cases m:i.map Vb=[]
  .have ae:i=[]:=by simpa using m
   rw[m,Rz,Wo,ae];have M:Qg []=some []:=rfl;refine XX M λB r=>?_;apply r;refine W.rt ?_;exact .refl _
  .have M:Qg (List.take i.length (i.map Vb))=some i:=by
    rw[VB J];exact xV i
   rw[QT m,YY m];refine XX M λB r=>?_;apply r;refine W.drop (h:=0) (σ':=[]) (Ε _) (Ε _) J rfl [(4,TV (spell i)),(5,R 0)] J ?_;refine W.rt ?_;exact .refl _
theorem D5 {a:Type} [Inhabited a] {lt:a->a->Bool} (b:SWO lt) (c:∀x y,lt x y=false->lt y x=false->x=y) (l:List a):(Go.Sort.insertionSort lt l.toArray 0 l.length).toList=l.mergeSort (λx y=>!lt y x):=by
 obtain⟨d,e⟩:=insertionSort_holds (lt:=lt) b l.toArray 0 l.length (Ε _) J;exact sorted_unique_holds (lt:=lt) b c l.toArray _ (by simpa using d) (by simpa using e)
theorem xT (x y:Int) (h:ltInt x y=false) (k:ltInt y x=false):x=y:=by
 simp[ltInt] at h k;omega
theorem xS:Hr 12:=λl a=>by
 have h:=yg l.toArray l.length J a;rw[D5 swo_ltInt xT l] at h;have e:(λx y:Int=>!ltInt y x)=λx y=>decide (x<=y):=by
  funext x y;rw[OQ];simp[ltInt]
 rw[e] at h;exact h
theorem PZ (x y:Int×Int):χ Tb x y=decide (x.1<y.1\/(x.1=y.1/\x.2<y.2)):=by
 unfold χ Tb;simp only[R9,R'];by_cases c:x.1<y.1
 .simp[c]
 .by_cases e:y.1<x.1
  .have:¬x.1=y.1:=U
   simp[c,e,this]
  .have a:x.1=y.1:=U
   by_cases b:x.2<y.2
   .simp[a,b]
   .by_cases d:y.2<x.2
    .simp[a,b,d]
    .simp[a,b,d]
theorem Nd:SWO (χ Tb) where
 irrefl x:=by rw[PZ];simp
 trans x y z h k:=by
  rw[PZ] at *;simp at *;omega
 ntrans x y z h k:=by
  rw[PZ] at *;simp at *;omega
theorem D4 (x y:Int×Int) (h:χ Tb x y=false) (k:χ Tb y x=false):x=y:=by
 rw[PZ] at *;simp at h k;apply Prod.ext<;>omega
abbrev UB (x y:Int×Int):Bool:=!χ Tb y x
theorem xR {l m:List (Int×Int)} (d:l.Perm m) (e:m.Pairwise λx y=>x.1<y.1\/(x.1=y.1/\x.2<y.2)):l.mergeSort UB=m:=by
 have f:∀a b c:Int×Int,UB a b=true->UB b c=true->UB a c=true:=λa b c h k=>by
  simp only[UB,PZ] at *;simp at *;omega
 have g:∀a b:Int×Int,(UB a b||UB b a)=true:=λa b=>by
  simp only[UB,PZ];simp;omega
 have i:=List.pairwise_mergeSort (le:=UB) f g l
 have j:(l.mergeSort UB).Perm m:=(List.mergeSort_perm l UB).trans d;refine Ir (le:=λa b=>UB a b=true) (λa b _ _ h k=>?_) i (e.imp λ{a b} h=>?_) j
 .simp only[UB,PZ] at h k;simp at h k;apply Prod.ext<;>omega
 .simp only[UB,PZ];simp;omega
theorem xQ (a:I) (b:ψ 0 a):Κ prog 234 [.sl true 0 [],R 0,R 0,a] (.ZV []):=by
 refine Μ.body Υ func234 rfl rfl ntmps234 rfl rfl J ?_;refine Χ ?_;refine .loop ?_;refine Χ ?_;refine Η rfl ?_;refine W.exit rfl ?_;exact W.nil ⟨_,rfl,Zi.refl _,rfl⟩
theorem xP (d:Nat) (a:I) (b:ψ 0 a):Κ prog 211 [.sl true 0 [],R 0,R 0,R d,a] (.ZV []):=by
 refine Μ.body Υ func211 rfl rfl ntmps211 rfl rfl J ?_;refine Χ ?_;refine .loop ?_;refine Χ ?_;refine Γ rfl ?_;refine ZP λf e=>?_;refine Κ.c (xQ a b) (ZT.refl _) (by simp[b]) J ?_;simp;(repeat (rw[Ν];simp));apply e;exact W.ret ⟨_,rfl,Zi.refl _,rfl⟩
theorem xO (a:I) (b:ψ 0 a):Κ prog 173 [.sl true 0 [],a] (.ZV []):=by
 refine Μ.body Υ func173 rfl rfl ntmps173 rfl rfl J ?_;have Φ:IntKind.u64.wrap (0:Int)=0:=Z0;refine Χ ?_;(repeat apply Ξ);refine Y8 λf e=>?_;simp;(repeat (rw[Ν];simp[Φ]));refine Κ.d (Of 0 U) (ZY ?_);refine Κ.c (xP (bitsLen 0) a b) (ZT.refl _) (by simp[b]) J ?_;simp;(repeat (rw[Ν];simp));apply e;exact W.nil ⟨_,rfl,Zi.refl _,rfl⟩
theorem xN (a:I) (b:ψ 0 a):Κ prog 217 [.sl true 0 [],R 0,R 0,a] (.ZV []):=by
 refine Μ.body Υ func217 rfl rfl ntmps217 rfl rfl J ?_;refine Χ ?_;refine .loop ?_;refine Χ ?_;refine Η rfl ?_;refine W.exit rfl ?_;exact W.nil ⟨_,rfl,Zi.refl _,rfl⟩
theorem xM (d:Nat) (a:I) (b:ψ 0 a):Κ prog 182 [.sl true 0 [],R 0,R 0,R d,a] (.ZV []):=by
 refine Μ.body Υ func182 rfl rfl ntmps182 rfl rfl J ?_;refine Χ ?_;refine .loop ?_;refine Χ ?_;refine Γ rfl ?_;refine ZP λf e=>?_;refine Κ.c (xN a b) (ZT.refl _) (by simp[b]) J ?_;simp;(repeat (rw[Ν];simp));apply e;exact W.ret ⟨_,rfl,Zi.refl _,rfl⟩
theorem xL (a:I) (b:ψ 0 a):Κ prog 147 [.sl true 0 [],a] (.ZV []):=by
 refine Μ.body Υ func147 rfl rfl ntmps147 rfl rfl J ?_;have Φ:IntKind.u64.wrap (0:Int)=0:=Z0;refine Χ ?_;(repeat apply Ξ);refine Y8 λf e=>?_;simp;(repeat (rw[Ν];simp[Φ]));refine Κ.d (Of 0 U) (ZY ?_);refine Κ.c (xM (bitsLen 0) a b) (ZT.refl _) (by simp[b]) J ?_;simp;(repeat (rw[Ν];simp));apply e;exact W.nil ⟨_,rfl,Zi.refl _,rfl⟩
theorem Yz.struct {h id k:Nat} {σ:Ρ} {t:TypeId} {l cs:ξ} (c:h<=id) (d:σ[id]?=some (.cells t k [.Z' l])) (e:cs.length=l.length) (H:∀(x:Nat) (a b:I),l[x]?=some a->cs[x]?=some b->Yz h σ a b):Yz h σ (.Ο id 1 0 0) (.ω cs):=
 .Ο c d rfl rfl (by simp[I.cells,e]) λx a b f g=>H x a b (by simpa[I.cells] using f) g
abbrev ZI (a b c:I):Row:=.cells 26 3 [.Z' [a,b,c]]
def Oc (s:υ) (i:Nat):Ρ:=if i=0 then [ZI (.sl true 0 []) (.sl true 0 []) (.sl true 0 []),ZI (Z6 s.Α) (θ s.Β) (.sl true 0 [])] else
 [ZI (.sl true 0 []) (.sl true 0 []) (.sl true 0 []),ZI (Z6 s.Α) (θ s.Β) (.ms 2 i 0 i),.cells 60 1 ((s.cells.take i).map Xt)]
theorem xK (s:υ) (h:s.small):Κ prog 25 [ZB s] (ZB s):=by
 refine Μ.body Υ func25 rfl rfl ntmps25 rfl rfl J ?_;obtain⟨c,b,r,l,m⟩:=h
 repeat apply Ξ
 refine Zj (A:=[2]) Υ λg e=>ZY ?_;apply e
 repeat apply Ξ
 refine W.draw (A:=[3]) Υ mixed λg e=>Vf ?_;refine⟨U,?_⟩;refine Ys (Κ.q (Ep s.Β U (λx n=>by have:=l x n;omega))) (Vf ?_);refine YF (e _ _ ?_);refine Χ ?_;refine W.iter (λi:Nat=>i<=s.cells.length) (λi=>[(1,Z9 s),(2,.Ο 0 1 0 0),(3,.Ο 1 1 0 0),(4,R i)]) (λi=>Oc s i) (λi=>s.cells.length-i) 0 (Ε _) rfl J (λi hi j=>?_);refine Χ ?_;refine W.YN rfl (λd=>?_) (λd=>?_)
 .have d:i<s.cells.length:=by simpa using d
  have t:s.cells[i].length<2 ^ 30:=m _ (Y2 d)
  have k:(s.cells.map Xt).take (i+1)=(s.cells.map Xt).take i++[Xt s.cells[i]]:=by rw[Wx (by simpa using d)];simp
  by_cases f:i=0
  .subst f
   repeat apply Ξ
   refine W.draw (A:=[30]) Υ mixed λg e=>?_;simp;(repeat (rw[ZG];simp[Oc,d]));try rw[ZH]
   refine⟨U,?_⟩;refine YF (e _ _ ?_);refine Χ ?_;refine W.to (j 1 d U) ?_ ?_
   .simp only[Oc,Mw,k];simp
   .simp[P4,Yw d (show s.cells.length<2 ^ 62 by omega)]
  .repeat apply Ξ
   refine W.draw (A:=[30]) Υ mixed λg e=>?_;simp;(repeat (rw[ZG];simp[Oc,d,f,Nat.min_eq_left hi]));try rw[ZH]
   refine⟨U,U,?_⟩;refine YF (e _ _ ?_);refine Χ ?_;refine W.to (j (i+1) d U) ?_ ?_
   .simp[Oc,k]
   .simp[Yw d (show s.cells.length<2 ^ 62 by omega)]
 .have d:i=s.cells.length:=by simp at d;omega
  subst d;refine W.exit rfl ?_;by_cases f:s.cells.length=0
  ·(repeat (first|apply Ξ|(refine Y8 λg e=>?_;simp;(repeat (rw[Ν];simp[Oc,f]));apply e)));have o:s.cells=[]:=YP.1 f;refine W.cut 0 (Ε _) [(2,.ω [Z6 s.Α,θ s.Β,.sl true 0 []])] J J ?_ ?_
   .simp;refine .struct (Ε _) (show _=some (Row.cells _ _ [.Z' _]) from rfl) rfl λx a p c b=>?_
    match x with
    | 0=>simp at c b;subst c;subst b;exact .low J
    | 1=>simp at c b;subst c;subst b;exact .low J
    | 2=>simp at c b;subst c;subst b;exact .low J
    | x+3=>simp at b
   .refine W.ret ?_;refine⟨_,by simp;rfl,?_,rfl⟩;show Zi _ (.Z' [Z6 s.Α,θ s.Β,.sl false 1 (s.cells.map Xt)]);rw[o];exact .Z' (.cons (.refl _) (.cons (.refl _) (.cons .nil .nil)))
  ·(repeat (first|apply Ξ|(refine Y8 λg e=>?_;simp;(repeat (rw[Ν];simp[Oc,f]));apply e)));refine W.cut 0 (Ε _) [(2,Z9 s)] J J ?_ ?_
   .simp;refine .struct (Ε _) (show _=some (Row.cells _ _ [.Z' _]) from rfl) rfl λx a p c b=>?_
    match x with
    | 0=>simp at c b;subst c;subst b;exact .low J
    | 1=>simp at c b;subst c;subst b;exact .low J
    | 2=>simp at c b;subst c;subst b;exact .own (Ε _) rfl J J
    | x+3=>simp at b
   .refine W.ret ?_;refine⟨_,by simp;rfl,?_,rfl⟩;exact .refl _
abbrev Yx (r:Int×Int):I×I:=(Zh r,ZU true)
theorem xJ (x y:Int×Int):aeqv ZW 112 (Zh x) (Zh y)=some (decide (x=y)):=by
 simp[aeqv,Vg,TY];rw[OQ];simp[Prod.ext_iff]
theorem xI (r:Int×Int):∀(l:List (Int×Int)) (n:Nat),r∉l->Wu ZW 112 (Zh r) (l.map Yx) n=some none:=by
 intro l
 induction l with
 | nil=>intro n _;rfl
 | cons x l a=>
  intro n h;simp only[XC,Wu];have b:¬r=x:=λe=>h (by simp[e]);have:=xJ r x;rw[this,decide_eq_false b];exact a (n+1) λc=>h (by simp[c])
def TN (i j:Nat):List (Int×Int):=(List.range j).map λy:Nat=>((i:Int)-1,(y:Int)-1)
def VH (n i:Nat):List (Int×Int):=(List.range i).flatMap λx=>TN x (n+1)
def Hp (n:Nat):List (Int×Int):=VH n (n+1)
theorem D3 (i j:Nat):TN i (j+1)=TN i j++[((i:Int)-1,(j:Int)-1)]:=by simp[TN,VA]
theorem Ho (n i:Nat):VH n (i+1)=VH n i++TN i (n+1):=by simp[VH,VA]
theorem Jr {i j:Nat} {r:Int×Int} (h:r∈TN i j):r.1=(i:Int)-1/\r.2<(j:Int)-1:=by
 unfold TN at h;obtain⟨y,a,rfl⟩:=Zd.1 h;have:=Wb.1 a;exact⟨rfl,by simp;omega⟩
theorem D2 {n i:Nat} {r:Int×Int} (h:r∈VH n i):r.1<(i:Int)-1:=by
 unfold VH at h;obtain⟨x,a,b⟩:=NO.1 h;have:=Wb.1 a;have:=(Jr b).1;omega
def Vt (s:υ) (p:Int×Int) (c:Nat):List (Int×Int):=(Hp s.Α.length).filter λr=>s.Sa p r c
theorem xH (i j:Nat):(TN i j).Pairwise λx y=>x.1<y.1\/(x.1=y.1/\x.2<y.2):=by
 induction j with
 | zero=>simp[TN]
 | succ j d=>
  rw[D3,NR];refine⟨d,J,λa e b c=>?_⟩;simp at c;subst c;have:=Jr e;exact .inr ⟨this.1,by simpa using this.2⟩
theorem xG (n i:Nat):(VH n i).Pairwise λx y=>x.1<y.1\/(x.1=y.1/\x.2<y.2):=by
 induction i with
 | zero=>simp[VH]
 | succ i c=>
  rw[Ho,NR];refine⟨c,xH _ _,λa d b e=>.inl ?_⟩;have:=D2 d;have:=(Jr e).1;omega
theorem xF (s:υ) (p:Int×Int) (c:Nat):(Vt s p c).Pairwise λx y=>x.1<y.1\/(x.1=y.1/\x.2<y.2):=(xG _ _).filter _
def Jq (N:Nat):Prop:=∀(l:List (Int×Int)),l.length<=N->Μ prog 173 [.ms 0 l.length 0 l.length,.fn (.func 174) [] []] [.cells 112 2 (l.map Zh)] (λr s=>r=.ZV []/\s=[.cells 112 2 ((l.mergeSort UB).map Zh)]) (λ_ _=>False)
theorem xE:Jq 12:=λl a=>by
 have h:=yk l.toArray l.length J a (.fn (.func 174) [] []) Tb (by simp[Ul]) (λx y=>Κ.p (Ek x y) (ZT.refl _) J J);rw[D5 Nd D4 l] at h;exact h
def WM (q:Int×Int->Bool) (n i j:Nat):List (Int×Int):=(VH n i++TN i j).filter q
theorem Hn {q:Int×Int->Bool} {n:Nat}:WM q n 0 0=[]:=by simp[WM,VH,TN]
theorem Hm {q:Int×Int->Bool} {n i:Nat}:WM q n i (n+1)=WM q n (i+1) 0:=by simp[WM,Ho,TN]
theorem D1 {q:Int×Int->Bool} {n i j:Nat}:WM q n i (j+1)=WM q n i j++if q ((i:Int)-1,(j:Int)-1) then [((i:Int)-1,(j:Int)-1)] else []:=by
 unfold WM;rw[D3,<-U6,List.filter_append];simp[KS]
theorem Hl {q:Int×Int->Bool} {n:Nat}:WM q n (n+1) 0=(Hp n).filter q:=by simp[WM,TN,Hp]
theorem xD {q:Int×Int->Bool} {n i j:Nat}:((i:Int)-1,(j:Int)-1)∉WM q n i j:=by
 unfold WM;rw[Ss,WK];rintro⟨h|h,_⟩
 .have:=D2 h;simp at this
 .have:=(Jr h).2;simp at this
def S9 (l:ξ):I:=if l.isEmpty then .sl true 0 [] else .ms 3 l.length 0 l.length
def YR (l:ξ):Ρ:=if l.isEmpty then [] else [.cells 111 1 l]
abbrev Wy:Row:=.cells 110 3 [.Z' [R 0,R 0,.sl true 0 []]]
abbrev Xa (p:Int×Int) (L:ξ):Row:=.cells 110 3 [.Z' [R p.1,R p.2,S9 L]]
def Z4 (id:Nat) (l:ξ):I:=if l.isEmpty then .sl true 0 [] else .ms id l.length 0 l.length
theorem X8 {id:Nat} {l:ξ} (h:l≠[]):Z4 id l=.ms id l.length 0 l.length:=by unfold Z4;rw[if_neg (by simpa using h)]
theorem xC {l:ξ}:ψ ((YR l).length+3) (S9 l):=by
 unfold S9 YR;cases l.isEmpty<;>simp[UF]
theorem xB {h:Nat} {l:ξ} (d:∀e∈l,∀a∈e.cells,ψ 0 a):∀r∈YR l,Yc h r:=by
 intro r b;unfold YR at b;cases c:l.isEmpty with
 | true=>rw[c] at b;simp at b
 | false=>
  rw[c] at b;simp at b;subst b;exact λe f a g=>(d e f a g).mono (Ε _)
theorem Yc.mono {h f:Nat} {r:Row} (c:Yc h r) (d:h<=f):Yc f r:=by
 cases r with
 | cells t k l=>exact λe b a g=>(c e b a g).mono d
 | map es=>exact λe b=>⟨(c e b).1.mono d,(c e b).2.mono d⟩
 | iter m left i=>exact⟨KY c.1 d,λe b=>⟨(c.2.1 e b).1.mono d,(c.2.1 e b).2.mono d⟩,λe b=>⟨(c.2.2 e b).1.mono d,(c.2.2 e b).2.mono d⟩⟩
 | dead=>trivial
theorem LI {h id:Nat} {l:ξ} (b:l≠[]->id<h):ψ h (Z4 id l):=by
 by_cases a:l=[]
 .subst a;unfold Z4;simp
 .rw[X8 a];exact UF.2 (b a)
theorem DZ {b:Type} (l:List b) (i:Nat) (h:i<l.length):(l[i]::l.eraseIdx i).Perm l:=by
 induction l generalizing i with
 | nil=>simp at h
 | cons a l c=>
  cases i with
  | zero=>exact .refl _
  | succ i=>
   simp only[List.getElem_cons_succ,List.eraseIdx_cons_succ];exact(List.Perm.swap _ _ _).trans (.cons a (c i (by simpa using h)))
theorem QR {h id k:Nat} {t:TypeId} {l:ξ} {σ:Ρ} (c:h<=id) (d:l≠[]->σ[id]?=some (.cells t k l)) (f:∀e∈l,∀a∈e.cells,ψ h a):Yz h σ (Z4 id l) (YE k l):=by
 by_cases b:l=[]
 .subst b;exact .low (by unfold Z4;simp)
 .have e:YE k l=.sl false k l:=by unfold YE;rw[if_neg (by simpa using b)]
  rw[X8 b,e];exact .own c (d b) rfl f
theorem LH (k:Nat) (m:ξ):∃b kk l,YE k m=.sl b kk l:=by
 unfold YE;split
 .exact⟨_,_,_,rfl⟩
 .exact⟨_,_,_,rfl⟩
theorem DY {b c:Type} (f:b->c) (l:List b) (i:Nat):(l.map f).eraseIdx i=(l.eraseIdx i).map f:=by
 induction l generalizing i with
 | nil=>rfl
 | cons a l d=>cases i<;>simp[d]
theorem xA (s:υ) (ao:s.small) (aZ:s.Α.length<2 ^ 20) (p:Int×Int) (hv:∀c∈s.cells,∀x∈c,0<=x.Zs/\x.Zs<s.Β.length) (N:Nat) (a0:N<2 ^ 20) (aC:Jq N) (S:∀c,c<s.cells.length->(Vt s p c).length<=N) :
  Κ prog 143 [ZB s,Zh p] (YK ⟨p.1,p.2,(List.range s.cells.length).map (Vt s p)⟩):=by
 refine Μ.body Υ func143 rfl rfl ntmps143 rfl rfl J ?_
 repeat apply Ξ
 refine Zj (A:=[4]) Υ λB g=>ZY ?_;apply g
 repeat apply Ξ
 refine Zj (A:=[5]) Υ λB g=>ZY ?_;apply g
 repeat apply Ξ
 refine ZP λB g=>?_;apply g;refine Χ ?_;have a1:s.cells.length<2 ^ 30:=ao.2.2.1;refine W.iter (λc:Nat=>c<=s.cells.length) (λc=>[(2,Z9 s),(3,.ω [R p.1,R p.2]),(4,.Ο 0 1 0 0),(5,.Ο 1 1 0 0),(6,.mp 2),(19,R s.cells.length),(20,R c)])
  (λc=>Wy::Xa p ((List.range c).map λc=>YE 2 ((Vt s p c).map Zh))::.map []::YR ((List.range c).map λc=>YE 2 ((Vt s p c).map Zh))) (λc=>s.cells.length-c) 0 (Ε _) (by simp[S9,YR]) J (λc ae M=>?_)
 obtain⟨L,O⟩:=Ι ((List.range c).map λc=>YE 2 ((Vt s p c).map Zh));refine W.to (σ':=Wy::Xa p L::.map []::YR L) (env':=[(2,Z9 s),(3,.ω [R p.1,R p.2]),(4,.Ο 0 1 0 0),(5,.Ο 1 1 0 0),(6,.mp 2),(19,R s.cells.length),(20,R c)]) ?_ (by rw[O]) J;refine Χ ?_;refine W.YN rfl (λae=>?_) (λae=>?_)
 .have af:c<s.cells.length:=by simpa using ae
  refine Χ ?_;obtain⟨n,T⟩:=Ι s.Α.length;have a2:n<2 ^ 20:=U;obtain⟨q,ap⟩:=Ι (λr=>s.Sa p r c:Int×Int->Bool);have P:∀e∈L,∀a∈e.cells,ψ 0 a:=by
   rw[O];intro e o a u;obtain⟨x,_,rfl⟩:=Zd.1 o;unfold YE at u;split at u<;>simp[I.cells] at u<;>subst u<;>simp
  have V:∀(v:List (Int×Int)) (h:Nat),Yc h (.map (v.map Yx)):=λv h e o=>by
   obtain⟨x,_,rfl⟩:=Zd.1 o;simp
  have E:∀v:List (Int×Int),∀r∈Wy::Xa p L::.map (v.map Yx)::YR L,Yc (Wy::Xa p L::.map (v.map Yx)::YR L).length r:=λv r C=>by
   simp only[Zm] at C;rcases C with rfl|rfl|rfl|C
   .simp[Yc,I.cells]
   .simp[Yc,I.cells];exact xC
   .exact V v _
   .exact xB P r C
  refine W.iter (λi:Nat=>i<=n+1) (λi=>[(2,Z9 s),(3,.ω [R p.1,R p.2]),(4,.Ο 0 1 0 0),(5,.Ο 1 1 0 0),(6,.mp 2),(19,R s.cells.length),(20,R c),(7,R c),(8,R ((i:Int)-1))])
   (λi=>Wy::Xa p L::.map ((WM q n i 0).map Yx)::YR L) (λi=>n+1-i) 0 (Ε _) (by rw[Hn];rfl) J (λi hi X=>?_)
  refine Χ ?_;by_cases a3:i<n+1
  .refine Γ (by simp[<-T];omega) ?_;refine Χ ?_;refine W.iter (λj:Nat=>j<=n+1) (λj=>[(2,Z9 s),(3,.ω [R p.1,R p.2]),(4,.Ο 0 1 0 0),(5,.Ο 1 1 0 0),(6,.mp 2),(19,R s.cells.length),(20,R c),(7,R c),(8,R ((i:Int)-1)),(9,R ((j:Int)-1))])
    (λj=>Wy::Xa p L::.map ((WM q n i j).map Yx)::YR L) (λj=>n+1-j) 0 (Ε _) rfl J (λj a4 aq=>?_)
   refine Χ ?_;by_cases a5:j<n+1
   .refine Γ (by simp[<-T];omega) ?_
    repeat apply Ξ
    obtain⟨v,ag⟩:=Ι (WM q n i j);refine W.to (σ':=Wy::Xa p L::.map (v.map Yx)::YR L) (env':=[(2,Z9 s),(3,.ω [R p.1,R p.2]),(4,.Ο 0 1 0 0),(5,.Ο 1 1 0 0),(6,.mp 2),(19,R s.cells.length),(20,R c),(7,R c),(8,R ((i:Int)-1)),(9,R ((j:Int)-1))]) ?_ (by rw[ag]) J;have aD:Wu ZW 112 (.Z' [R ((i:Int)-1),R ((j:Int)-1)]) (v.map Yx) 0=some none:=xI _ v 0 (by rw[ag];exact xD);have am:∀es,SL (Wy::Xa p L::.map es::YR L) 2=true:=λes=>by unfold YR;cases L.isEmpty<;>simp[SL]
    refine Zj (A:=[10]) Υ λB g=>ZY ?_;apply g;refine W.VI (σ0:=Wy::Xa p L::.map (v.map Yx)::YR L) (Ε _) (E v) J [(10,.ω [R ((i:Int)-1),R ((j:Int)-1)]),(2,Z9 s),(3,.ω [R p.1,R p.2]),(4,.Ο 0 1 0 0),(5,.Ο 1 1 0 0),(6,.mp 2),(19,R s.cells.length),(20,R c),(7,R c),(8,R ((i:Int)-1)),(9,R ((j:Int)-1))] (by simp[Xz,Qb]) ?_;have ar:=XW (show j<2 ^ 62 by omega);refine ZP λB g=>?_;refine Κ.c (yu s ao p ((i:Int)-1,(j:Int)-1) c af (hv _ (Y2 af)) (by simp;omega) (by simp;omega)) (ZT.refl _) J J ?_;simp;(repeat (rw[Ν];simp));apply g;have aE:s.Sa p ((i:Int)-1,(j:Int)-1) c=q ((i:Int)-1,(j:Int)-1):=by rw[ap]
    rw[aE];have ah:=D1 (q:=q) (n:=n) (i:=i) (j:=j);cases au:q ((i:Int)-1,(j:Int)-1)
    .refine Η rfl ?_;refine Ζ ar ?_;rw[au] at ah;refine W.to (aq (j+1) U U) ?_ ?_
     .rw[ah,ag];simp
     .simp
    .refine Γ rfl ?_
     repeat apply Ξ
     refine Y8 λB g=>?_;simp;(repeat (rw[Ν];simp[aD,am,-SL]));apply g;refine Ζ ar ?_;rw[au] at ah;refine W.to (aq (j+1) U U) ?_ ?_
     .rw[ah,ag];simp
     .simp
   .refine Η (by simp[<-T];omega) ?_;refine W.exit rfl ?_;have aF:j=n+1:=U;subst aF;refine Χ ?_;refine W.to (X (i+1) U U) ?_ ?_
    .rw[Hm]
    .have:=XW (show i<2 ^ 62 by omega);simp[this]
  .refine Η (by simp[<-T];omega) ?_;refine W.exit rfl ?_;have aG:i=n+1:=U;subst aG;obtain⟨d,ai⟩:=Ι (Vt s p c);have aH:WM q n (n+1) 0=d:=by rw[Hl,ai,ap,T];rfl
   rw[aH];have aI:d.length<=N:=by rw[ai];exact S c af
   refine W.to (σ':=Wy::Xa p L::.map (d.map Yx)::YR L) (env':=[(2,Z9 s),(3,.ω [R p.1,R p.2]),(4,.Ο 0 1 0 0),(5,.Ο 1 1 0 0),(6,.mp 2),(19,R s.cells.length),(20,R c),(7,R c)]) ?_ rfl J;refine Χ ?_;refine W.iter (λx:List (Int×Int)×List (Int×Int)×Option (I×I)=>(x.1++x.2.1).Perm d/\(x.2.2=none\/∃y,x.2.2=some (Yx y)))
    (λx=>[(2,Z9 s),(3,.ω [R p.1,R p.2]),(4,.Ο 0 1 0 0),(5,.Ο 1 1 0 0),(6,.mp 2),(19,R s.cells.length),(20,R c),(7,R c),(11,Z4 ((YR L).length+1+1+1+1) (x.1.map Zh)),(50,.it ((YR L).length+1+1+1))])
    (λx=>Wy::Xa p L::.map (d.map Yx)::(YR L++(.iter 2 (x.2.1.map Yx) x.2.2::μ 112 2 (x.1.map Zh)))) (λx=>x.2.1.length) ([],d,none) ⟨J,.inl rfl⟩ (by simp[μ]) (by simp[Z4]) (λx aj Y=>?_)
   obtain⟨K,m,ak⟩:=x;obtain⟨al,aJ⟩:=aj;simp only at al aJ
   repeat apply Ξ
   cases m with
   | nil=>
    refine ZP λB g=>?_;apply g
    repeat apply Ξ
    refine Η rfl ?_;refine W.exit rfl ?_;have F:K.Perm d:=by simpa using al
    repeat apply Ξ
    have av:K.length<=N:=by rw[F.length_eq];exact aI
    have aK:K.mergeSort UB=d:=by
     rw[ai] at F ⊢;exact xR F (xF s p c)
    refine W.Yn (A:=[]) Υ [(2,Z9 s),(3,.ω [R p.1,R p.2]),(4,.Ο 0 1 0 0),(5,.Ο 1 1 0 0),(6,.mp 2),(19,R s.cells.length),(20,R c),(11,Z4 ((YR L).length+1+1+1+1) (d.map Zh))]
     (Wy::Xa p L::.map (d.map Yx)::(YR L++(.iter 2 [] ak::μ 112 2 (d.map Zh)))) ?_ (by
     clear Y X M E V S hv P;by_cases f:K=[]
     .subst f;have aL:d=[]:=F.symm.eq_nil;rw[aL];simp only[UU,Wo,show Z4 ((YR L).length+1+1+1+1) []=.sl true 0 [] from rfl];simp;(repeat (rw[Ν];simp));refine Κ.c (xO _ (by simp[Ul])) (ZT.refl _) (by simp[Ul]) J ?_;simp;(repeat (rw[Ν];simp));(try simp)
     .have Z:K.map Zh≠[]:=by simpa using f
      have aM:d≠[]:=λe=>f (by rw[e] at F;exact F.eq_nil)
      have aw:d.map Zh≠[]:=by simpa using aM
      rw[X8 Z,YY Z,X8 aw,YY aw];simp;(repeat (rw[Ν];simp));have ax:ψ 0 (.fn (.func 174) [] []):=by simp[Ul]
      refine Μ.one (aC K av) ((YR L).length+1+1+1+1) J (QW P2) (QW P2) (by simp[TS,ax.WA 1]) (by simp[Xh]) (by simp[TR,ax.Yk [(YR L).length+1+1+1+1]]) ?_;simp[Yk,Wf];(repeat (rw[Ν];simp));(try simp[aK,F.length_eq]))
    refine W.cut ((YR L).length+1+1+1) (Ε _) [(2,Z9 s),(3,.ω [R p.1,R p.2]),(4,.Ο 0 1 0 0),(5,.Ο 1 1 0 0),(6,.mp 2),(19,R s.cells.length),(20,R c),(11,YE 2 (d.map Zh))] J (λid r ay C=>?_) ?_ ?_
    .refine E d r ?_;have e:Wy::Xa p L::.map (d.map Yx)::(YR L++(.iter 2 [] ak::μ 112 2 (d.map Zh)))=(Wy::Xa p L::.map (d.map Yx)::YR L)++(.iter 2 [] ak::μ 112 2 (d.map Zh)):=J;rw[e,Y0 (by simpa using ay)] at C;exact Zf C
    .have aN:Yz ((YR L).length+1+1+1) (Wy::Xa p L::.map (d.map Yx)::(YR L++(.iter 2 [] ak::μ 112 2 (d.map Zh)))) (Z4 ((YR L).length+1+1+1+1) (d.map Zh)) (YE 2 (d.map Zh)):=QR (t:=112) U (λaa=>by rw[YY aa];simp) (λe o a u=>by
      obtain⟨z,_,rfl⟩:=Zd.1 o;exact(P2 z a u).mono (Ε _))
     intro z f;simp only[Zm,YM,or_false] at f;rcases f with rfl|rfl|rfl|rfl|rfl|rfl|rfl|rfl
     all_goals first|exact aN|exact .low (by simp[Xz,Qb])
    .obtain⟨D,ab⟩:=Ι (L++[YE 2 (d.map Zh)]);have a6:L.length<2 ^ 30:=by rw[O];simp;omega
     refine W.to (σ':=Wy::Xa p L::.map (d.map Yx)::YR L) (env':=[(2,Z9 s),(3,.ω [R p.1,R p.2]),(4,.Ο 0 1 0 0),(5,.Ο 1 1 0 0),(6,.mp 2),(19,R s.cells.length),(20,R c),(11,YE 2 (d.map Zh))]) ?_ J J
     repeat apply Ξ
     refine W.Yn (A:=[65]) Υ [(2,Z9 s),(3,.ω [R p.1,R p.2]),(4,.Ο 0 1 0 0),(5,.Ο 1 1 0 0),(6,.mp 2),(19,R s.cells.length),(20,R c)] (Wy::Xa p D::.map (d.map Yx)::YR D) ?_ (by
      clear Y X M E V S hv;obtain⟨az,aA,sl,aO⟩:=LH 2 (d.map Zh);rw[aO] at ab ⊢;by_cases f:L=[]
      .have aP:D=[.sl az aA sl]:=by rw[ab,f];rfl
       rw[aP];subst f;simp only[Xa,YR,S9,List.isEmpty_nil,List.isEmpty_cons,if_true,if_false];(try simp);(repeat (rw[Ν];simp));(try simp)
      .have ad:L.length<=4294967295:=U
       have aQ:S9 L=.ms 3 L.length 0 L.length:=by unfold S9;rw[if_neg (by simpa using f)]
       have aR:YR L=[.cells 111 1 L]:=by unfold YR;rw[if_neg (by simpa using f)]
       have aS:S9 D=.ms 3 (L.length+1) 0 (L.length+1):=by rw[ab];unfold S9;rw[if_neg J];simp
       have aT:YR D=[.cells 111 1 (L++[.sl az aA sl])]:=by rw[ab];unfold YR;rw[if_neg J]
       simp only[Xa];rw[aQ,aR,aS,aT];(try simp);(repeat (rw[Ν];simp[ad]));(try simp[ad]))
     have am:∀es,SL (Wy::Xa p D::.map es::YR D) 2=true:=λes=>by unfold YR;cases D.isEmpty<;>simp[SL]
     repeat apply Ξ
     refine Y8 λB g=>?_;simp;(repeat (rw[Ν];simp[am,-SL]));apply g;refine Χ ?_;have aU:D=(List.range (c+1)).map λc=>YE 2 ((Vt s p c).map Zh):=by rw[ab,O,ai,VA];simp
     refine W.to (M (c+1) U U) ?_ ?_
     .rw[<-aU]
     .simp[Yw af (show s.cells.length<2 ^ 62 by omega)]
   | cons y m=>
    refine ZP λB g=>?_;intro i hi;obtain⟨x,aj⟩:=Ι ((y::m)[i]'(by simpa using hi));have aV:(Yx y::List.map Yx m)[i]?=some (Yx x):=by
     have:(List.map Yx (y::m))[i]?=some (Yx x):=by
      rw[Yh,ε (by simpa using hi),aj];rfl
     simpa using this
    have aW:(Yx y::List.map Yx m).eraseIdx i=((y::m).eraseIdx i).map Yx:=by
     exact DY Yx (y::m) i
    rw[aV,aW];simp;(repeat (rw[Ν];simp));apply g
    repeat apply Ξ
    refine Γ rfl ?_
    repeat apply Ξ
    refine Zj (A:=[12]) Υ λB g=>ZY ?_;apply g;have an:∀r∈Wy::Xa p L::.map (d.map Yx)::(YR L++(.iter 2 (((y::m).eraseIdx i).map Yx) (some (Yx x))::μ 112 2 (K.map Zh))),Yc (Wy::Xa p L::.map (d.map Yx)::(YR L++(.iter 2 (((y::m).eraseIdx i).map Yx) (some (Yx x))::μ 112 2 (K.map Zh)))).length r:=by
     intro r C;have w:r∈Wy::Xa p L::.map (d.map Yx)::YR L\/r∈(.iter 2 (((y::m).eraseIdx i).map Yx) (some (Yx x))::μ 112 2 (K.map Zh)):=by
      have:r∈(Wy::Xa p L::.map (d.map Yx)::YR L)++(.iter 2 (((y::m).eraseIdx i).map Yx) (some (Yx x))::μ 112 2 (K.map Zh)):=by simpa using C
      exact WK.1 this
     rcases w with w|w
     .exact Yc.mono (E d r w) J
     .rcases Zm.1 w with rfl|w
      .refine⟨J,λe o=>?_,λe o=>?_⟩
       .obtain⟨z,_,rfl⟩:=Zd.1 o;simp
       .cases o;simp
      .unfold μ at w;split at w
       .simp at w
       .simp at w;subst w;intro e o a u;obtain⟨z,_,rfl⟩:=Zd.1 o;simp[I.cells] at u;rcases u with rfl|rfl<;>simp
    refine W.to (σ':=(Wy::Xa p L::.map (d.map Yx)::(YR L++(.iter 2 (((y::m).eraseIdx i).map Yx) (some (Yx x))::μ 112 2 (K.map Zh))))++[.cells 112 2 [Zh x]]) (env':=[(12,.Ο (Wy::Xa p L::.map (d.map Yx)::(YR L++(.iter 2 (((y::m).eraseIdx i).map Yx) (some (Yx x))::μ 112 2 (K.map Zh)))).length 1 0 0),(2,Z9 s),(3,.ω [R p.1,R p.2]),(4,.Ο 0 1 0 0),(5,.Ο 1 1 0 0),(6,.mp 2),(19,R s.cells.length),(20,R c),(7,R c),(11,Z4 ((YR L).length+1+1+1+1) (K.map Zh)),(50,.it ((YR L).length+1+1+1))]) ?_ J J;refine W.VI (σ0:=Wy::Xa p L::.map (d.map Yx)::(YR L++(.iter 2 (((y::m).eraseIdx i).map Yx) (some (Yx x))::μ 112 2 (K.map Zh)))) (Ε _) an J [(12,.ω [R x.1,R x.2]),(2,Z9 s),(3,.ω [R p.1,R p.2]),(4,.Ο 0 1 0 0),(5,.Ο 1 1 0 0),(6,.mp 2),(19,R s.cells.length),(20,R c),(7,R c),(11,Z4 ((YR L).length+1+1+1+1) (K.map Zh)),(50,.it ((YR L).length+1+1+1))] (by
     have aX:=LI (h:=(YR L).length+((μ 112 2 (K.map Zh)).length+1)+1+1+1) (id:=(YR L).length+1+1+1+1) (l:=K.map Zh) (λaa=>by rw[YY aa];simp);clear Y X M E an V S hv P;simp[Xz,Qb,yY,aX]
     ) ?_
    repeat apply Ξ
    have av:K.length<2 ^ 20:=by
     have:=al.length_eq;simp at this;omega
    refine W.Yn (A:=[58]) Υ [(2,Z9 s),(3,.ω [R p.1,R p.2]),(4,.Ο 0 1 0 0),(5,.Ο 1 1 0 0),(6,.mp 2),(19,R s.cells.length),(20,R c),(7,R c),(11,Z4 ((YR L).length+1+1+1+1) ((K++[x]).map Zh)),(50,.it ((YR L).length+1+1+1))]
     (Wy::Xa p L::.map (d.map Yx)::(YR L++(.iter 2 (((y::m).eraseIdx i).map Yx) (some (Yx x))::μ 112 2 ((K++[x]).map Zh)))) ?_ (by
     clear Y X M E an V S hv P;by_cases f:K=[]
     .subst f;simp only[UU,Wo,show Z4 ((YR L).length+1+1+1+1) []=.sl true 0 [] from rfl];(try simp);(repeat (rw[Ν];simp[Wo]));(try simp[Wo]);exact⟨rfl,rfl⟩
     .have ad:K.length<=4294967295:=U
      have Z:K.map Zh≠[]:=by simpa using f
      rw[X8 Z,YY Z];(try simp);(repeat (rw[Ν];simp[ad]));(try simp[ad]);rw[YY J,X8 J];simp)
    refine Χ ?_;have aB:(x::(y::m).eraseIdx i).Perm (y::m):=by
     rw[aj];exact DZ _ _ _
    refine W.to (Y (K++[x],(y::m).eraseIdx i,some (Yx x)) ⟨?_,.inr ⟨x,rfl⟩⟩ ?_) J J
    .simp only[U6,List.singleton_append];exact(aB.append_left K).trans al
    .have:=aB.length_eq;simp at this;simp only[List.length_cons];omega
 .have aY:c=s.cells.length:=by simp at ae;omega
  subst aY;refine W.exit rfl ?_
  repeat apply Ξ
  clear M;have P:∀e∈L,∀a∈e.cells,ψ 0 a:=by
   rw[O];intro e o a u;obtain⟨x,_,rfl⟩:=Zd.1 o;unfold YE at u;split at u<;>simp[I.cells] at u<;>subst u<;>simp
  refine W.Yn (A:=[]) Υ [(4,.Ο 0 1 0 0)] (.cells 110 3 [.Z' [R p.1,R p.2,S9 L]]::Xa p L::.map []::YR L) ?_ (by
   simp only[Xa];by_cases f:L=[]
   .rw[show S9 L=.sl true 0 [] by rw[f];rfl];(try simp);(repeat (rw[Ν];simp));(try simp)
   .rw[show S9 L=.ms 3 L.length 0 L.length by unfold S9;rw[if_neg (by simpa using f)],show YR L=[.cells 111 1 L] by unfold YR;rw[if_neg (by simpa using f)]];(try simp);(repeat (rw[Ν];simp));(try simp))
  refine W.cut 0 (Ε _) [(4,.ω [R p.1,R p.2,YE 1 L])] (Ε _) (λid r ay=>U) (λz f=>by
   simp at f;subst f;exact Yz.struct (k:=3) (t:=110) (l:=[R p.1,R p.2,S9 L]) (Ε _) rfl rfl (λx a a7 H Q=>by
    match x with
    | 0=>simp at H Q;subst H;subst Q;exact .low J
    | 1=>simp at H Q;subst H;subst Q;exact .low J
    | 2=>
     simp at H Q;subst H;subst Q;exact QR (id:=3) (t:=111) (l:=L) (Ε _) (λaa=>by
      have:YR L=[.cells 111 1 L]:=by unfold YR;rw[if_neg (by simpa using aa)]
      simp[this]) P
    | x+3=>simp at H)) ?_
  refine Χ ?_;refine W.rt ?_;refine Zi.Z' (ZT.cons (.refl _) (ZT.cons (.refl _) (ZT.cons (.trans Zi.acc ?_) .nil)));rw[O];show Zi _ (.sl false 1 (((List.range s.cells.length).map (Vt s p)).map TU));rw[Sq];refine Zi.map λx _=>.one Zi.acc ?_ rfl;obtain⟨b,k,l,o⟩:=LH 2 ((Vt s p x).map Zh);rw[o];rfl
structure Ui where
 c:Int
 n:Int
 least:Int
 some:Bool
def Ui.take (b:Ui) (c n m:Int):Ui:=if b.some=false\/m<b.least then⟨c,n,m,true⟩ else b
abbrev Uh (b:Ui):I:=.Z' [R b.c,R b.n,R b.least,ZU b.some]
theorem xz (b:Ui) (c n m:Int):Μ prog 76 [.Ο 0 1 0 0,.Z' [R c,R n],R m] [.cells 104 4 [Uh b]] (λr s=>r=.ZV []/\s=[.cells 104 4 [Uh (b.take c n m)]]) (λ_ _=>False):=by
 obtain⟨d,f,a,g⟩:=b;refine Μ.body Υ func76 rfl rfl ntmps76 rfl rfl J ?_;refine Χ ?_;cases g
 .have e:Ui.take ⟨d,f,a,false⟩ c n m=⟨c,n,m,true⟩:=by simp[Ui.take]
  rw[e];refine Χ ?_;refine Γ rfl ?_;refine Χ ?_;exact W.nil ⟨_,rfl,rfl,rfl⟩
 .refine Χ ?_;by_cases h:m<a
  .have e:Ui.take ⟨d,f,a,true⟩ c n m=⟨c,n,m,true⟩:=by simp[Ui.take,h]
   rw[e];refine Γ (by simp[h]) ?_;refine Χ ?_;exact W.nil ⟨_,rfl,rfl,rfl⟩
  .have e:Ui.take ⟨d,f,a,true⟩ c n m=⟨d,f,a,true⟩:=by simp[Ui.take,h]
   rw[e];refine Η (by simp[h]) ?_;refine Χ ?_;exact W.nil ⟨_,rfl,rfl,rfl⟩
abbrev V1 (e:Int×Int):I×I:=(R e.1,R e.2)
def Pe:List (Int×Int)->Int->Int->List (Int×Int)
 | [],k,n=>[(k,IntKind.i64.wrap (0+n))]
 | e::r,k,n=>if k=e.1 then(k,IntKind.i64.wrap (e.2+n))::r else e::Pe r k n
theorem xy (k n:Int):∀(m:List (Int×Int)) (d:Nat),(Wu ZW 113 (R k) (m.map V1) d=some none/\Pe m k n=m++[(k,IntKind.i64.wrap (0+n))])\/∃i v,i<m.length/\Wu ZW 113 (R k) (m.map V1) d=some (some (d+i,R v))/\Pe m k n=m.set i (k,IntKind.i64.wrap (v+n)):=by
 intro m
 induction m with
 | nil=>intro d;exact .inl ⟨rfl,rfl⟩
 | cons e r g=>
  intro d;have a:aeqv ZW 113 (R k) (R e.1)=some (k==e.1):=by simp[aeqv,Vg,TY,VP]
  by_cases h:k=e.1
  .refine .inr ⟨0,e.2,J,?_,by simp[Pe,h]⟩;simp only[XC,Wu,a];simp[h]
  .have c:(k==e.1)=false:=by simpa using h
   rcases g (d+1) with⟨f,b⟩|⟨i,v,f,b,j⟩
   .refine .inl ⟨?_,by simp[Pe,h,b]⟩;simp only[XC,Wu,a,c,cond_false];exact f
   .refine .inr ⟨i+1,v,by simp;omega,?_,by simp[Pe,h,j]⟩;simp only[XC,Wu,a,c,cond_false];rw[b];have:d+1+i=d+(i+1):=U;rw[this]
end Go.TL
