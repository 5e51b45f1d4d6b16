import Derived.Sort.LotA
import Derived.Test.YtlabjopijpkiaaaGreatHAE
set_option maxHeartbeats 16000000
set_option maxRecDepth 20000
set_option linter.unusedSectionVars false
set_option linter.unusedSimpArgs false
set_option linter.unusedVariables false
namespace Go.TL
open Go.Proofs.Tryz
open Go.Sort (SWO bitsLen insInner insOuter insertionSort_holds ltInt sorted_unique_holds swo_ltInt swp)
open Go.Proofs
variable [ZV]
instance:Inhabited Found:=⟨⟨0,0,[]⟩⟩
abbrev Ud (r:Int×Int):I:=.sl true 1 [R r.1,R r.2]
theorem Ep (d:Array (Int×Int)) (n a b:Nat) (V:d.size=n) (ah:a<=b) (ai:b<=n) (aj:n<2 ^ 40) (l:I) (c:Int×Int->Int×Int->Int) (ak:χ 0 l) (X:∀x y,XD prog l [Zq x,Zq y] (R (c x y))) :
  Ξ prog 234 [.ms 0 n 0 n,R a,R b,l] [.cells 112 2 (d.toList.map Zq)] (λr s=>r=.ZX []/\s=[.cells 112 2 ((Go.Sort.insertionSort (Γ c) d a b).toList.map Zq)]) (λ_ _=>False):=by
 refine Ξ.body Ρ func234 rfl rfl ntmps234 rfl rfl J ?_;refine Χ ?_;have Y:=X7 (show a+1<2 ^ 62 by omega);refine W.iter (λq:Nat×Array (Int×Int)=>q.2.size=n/\insOuter (Γ c) a b q.1 q.2=Go.Sort.insertionSort (Γ c) d a b) (λq=>[(0,.ms 0 n 0 n),(1,R a),(2,R b),(3,l),(8,R q.1)]) (λq=>[.cells 112 2 (q.2.toList.map Zq)]) (λq=>b-q.1) (a+1,d) ⟨V,rfl⟩ rfl (by simpa using Y) (λq hi H=>?_);obtain⟨i,e⟩:=q;obtain⟨K,B⟩:=hi;simp only at K B;refine Χ ?_;by_cases o:i<b
 .refine Ε (by simp[o]) ?_;refine Χ ?_;refine W.iter (λq:Nat×Array (Int×Int)=>q.2.size=n/\q.1<=i/\insInner (Γ c) a q.1 q.2=insInner (Γ c) a i e) (λq=>[(0,.ms 0 n 0 n),(1,R a),(2,R b),(3,l),(8,R i),(9,R q.1)]) (λq=>[.cells 112 2 (q.2.toList.map Zq)]) (λq=>q.1) (i,e) ⟨K,Z5 _,rfl⟩ rfl J (λq g Z=>?_);obtain⟨j,f⟩:=q;obtain⟨m,aa,C⟩:=g;simp only at m aa C;have M:insInner (Γ c) a j f=f->insOuter (Γ c) a b (i+1) f=Go.Sort.insertionSort (Γ c) d a b:=λhd=>by
   rw[<-B,<-hd,C];conv=>rhs;rw[insOuter,if_pos o]
  obtain⟨L,k⟩:=ψ (f.toList.map Zq);have N:L.length=n:=by rw[k];simpa using m
  refine W.to (σ':=[.cells 112 2 L]) (env':=[(0,.ms 0 n 0 n),(1,R a),(2,R b),(3,l),(8,R i),(9,R j)]) ?_ (by rw[k]) J
  repeat apply Ο
  by_cases g:a<j
  .obtain⟨p,O⟩:∃p,j=p+1:=⟨j-1,U⟩;have D:IntKind.i64.wrap ((j:Int)-1)=(p:Int):=by have:=X7 (show p<2 ^ 62 by omega);rw[O];simpa using this
   have P:j<n:=U
   have Q:p<n:=U
   have ab:¬j=p:=U;obtain⟨x,t⟩:=ψ (f[j]!);obtain⟨y,u⟩:=ψ (f[p]!);have E:L[j]?=some (Zq x):=by rw[k,t,Yl,Wn,P1 U];rfl
   have F:L[p]?=some (Zq y):=by rw[k,u,Yl,Wn,P1 U];rfl
   have S:∀h:j<L.length,L[j]=Zq x:=λh=>by have:=E;rw[ζ h] at this;exact W4 this
   have T:∀h:p<L.length,L[p]=Zq y:=λh=>by have:=F;rw[ζ h] at this;exact W4 this
   have v:insInner (Γ c) a j f=if Γ c x y=true then insInner (Γ c) a p (swp f j p) else f:=by
    subst O;rw[insInner,t,u];simp[g]
   have ad:(swp f j p).toList.map Zq=(L.set j (Zq y)).set p (Zq x):=by rw[k,t,u];simp[swp]
   have ae:(swp f j p).size=n:=by simp[swp,m]
   have af:=k;clear t u;refine W.draw (A:=[]) Ρ mixed λal ag=>Vj (Υ g (Υ D (Υ N (Υ P (Υ Q (Υ E (Υ F (Υ S T)))))))) ?_;refine YD (X x y) ?_;simp;(repeat (rw[ZL];simp));try rw[ZM]
   refine YG (ag _ _ ?_);by_cases w:c x y<0
   .refine Ε (by simp[w]) ?_
    repeat apply Ο
    refine W0 (Υ g (Υ D (Υ N (Υ P (Υ Q (Υ E (Υ F (Υ S (Υ T ab))))))))) ?_;refine Χ ?_;refine W.to (Z (p,swp f j p) ⟨ae,by simp;omega,?_⟩ (by simp;omega)) ?_ ?_
    .rw[<-C,v,if_pos (by simp[Γ,ltInt,w])]
    .rw[ad]
    .simp[D]
   .refine Η (by simp[w]) ?_;refine W.exit rfl ?_;refine Χ ?_;refine W.to (H (i+1,f) ⟨m,M (by rw[v,if_neg (by simp[Γ,ltInt,w])])⟩ (by simp;omega)) (by rw[af]) ?_;have:=X7 (show i+1<2 ^ 62 by omega);simpa using this
  .have v:insInner (Γ c) a j f=f:=by
    cases j with
    | zero=>rfl
    | succ p=>rw[insInner];simp[g]
   refine W0 g ?_;refine Η rfl ?_;refine W.exit rfl ?_;refine Χ ?_;refine W.to (H (i+1,f) ⟨m,M v⟩ (by simp;omega)) (by rw[k]) ?_;have:=X7 (show i+1<2 ^ 62 by omega);simpa using this
 .refine Η (by simp[o]) ?_;refine W.exit rfl ?_;have Φ:insOuter (Γ c) a b i e=e:=by rw[insOuter,if_neg o]
  exact W.nil ⟨_,rfl,rfl,by rw[<-B,Φ]⟩
theorem yn (d:Array (Found)) (n a b:Nat) (V:d.size=n) (ah:a<=b) (ai:b<=n) (aj:n<2 ^ 40) (l:I) (c:Found->Found->Int) (ak:χ 0 l) (X:∀x y,XD prog l [YQ x,YQ y] (R (c x y))) :
  Ξ prog 217 [.ms 0 n 0 n,R a,R b,l] [.cells 110 3 (d.toList.map YQ)] (λr s=>r=.ZX []/\s=[.cells 110 3 ((Go.Sort.insertionSort (Γ c) d a b).toList.map YQ)]) (λ_ _=>False):=by
 refine Ξ.body Ρ func217 rfl rfl ntmps217 rfl rfl J ?_;refine Χ ?_;have Y:=X7 (show a+1<2 ^ 62 by omega);refine W.iter (λq:Nat×Array (Found)=>q.2.size=n/\insOuter (Γ c) a b q.1 q.2=Go.Sort.insertionSort (Γ c) d a b) (λq=>[(0,.ms 0 n 0 n),(1,R a),(2,R b),(3,l),(8,R q.1)]) (λq=>[.cells 110 3 (q.2.toList.map YQ)]) (λq=>b-q.1) (a+1,d) ⟨V,rfl⟩ rfl (by simpa using Y) (λq hi H=>?_);obtain⟨i,e⟩:=q;obtain⟨K,B⟩:=hi;simp only at K B;refine Χ ?_;by_cases o:i<b
 .refine Ε (by simp[o]) ?_;refine Χ ?_;refine W.iter (λq:Nat×Array (Found)=>q.2.size=n/\q.1<=i/\insInner (Γ c) a q.1 q.2=insInner (Γ c) a i e) (λq=>[(0,.ms 0 n 0 n),(1,R a),(2,R b),(3,l),(8,R i),(9,R q.1)]) (λq=>[.cells 110 3 (q.2.toList.map YQ)]) (λq=>q.1) (i,e) ⟨K,Z5 _,rfl⟩ rfl J (λq g Z=>?_);obtain⟨j,f⟩:=q;obtain⟨m,aa,C⟩:=g;simp only at m aa C;have M:insInner (Γ c) a j f=f->insOuter (Γ c) a b (i+1) f=Go.Sort.insertionSort (Γ c) d a b:=λhd=>by
   rw[<-B,<-hd,C];conv=>rhs;rw[insOuter,if_pos o]
  obtain⟨L,k⟩:=ψ (f.toList.map YQ);have N:L.length=n:=by rw[k];simpa using m
  refine W.to (σ':=[.cells 110 3 L]) (env':=[(0,.ms 0 n 0 n),(1,R a),(2,R b),(3,l),(8,R i),(9,R j)]) ?_ (by rw[k]) J
  repeat apply Ο
  by_cases g:a<j
  .obtain⟨p,O⟩:∃p,j=p+1:=⟨j-1,U⟩;have D:IntKind.i64.wrap ((j:Int)-1)=(p:Int):=by have:=X7 (show p<2 ^ 62 by omega);rw[O];simpa using this
   have P:j<n:=U
   have Q:p<n:=U
   have ab:¬j=p:=U;obtain⟨x,t⟩:=ψ (f[j]!);obtain⟨y,u⟩:=ψ (f[p]!);have E:L[j]?=some (YQ x):=by rw[k,t,Yl,Wn,P1 U];rfl
   have F:L[p]?=some (YQ y):=by rw[k,u,Yl,Wn,P1 U];rfl
   have S:∀h:j<L.length,L[j]=YQ x:=λh=>by have:=E;rw[ζ h] at this;exact W4 this
   have T:∀h:p<L.length,L[p]=YQ y:=λh=>by have:=F;rw[ζ h] at this;exact W4 this
   have v:insInner (Γ c) a j f=if Γ c x y=true then insInner (Γ c) a p (swp f j p) else f:=by
    subst O;rw[insInner,t,u];simp[g]
   have ad:(swp f j p).toList.map YQ=(L.set j (YQ y)).set p (YQ x):=by rw[k,t,u];simp[swp]
   have ae:(swp f j p).size=n:=by simp[swp,m]
   have af:=k;clear t u;refine W.draw (A:=[]) Ρ mixed λal ag=>Vj (Υ g (Υ D (Υ N (Υ P (Υ Q (Υ E (Υ F (Υ S T)))))))) ?_;refine YD (X x y) ?_;simp;(repeat (rw[ZL];simp));try rw[ZM]
   refine YG (ag _ _ ?_);by_cases w:c x y<0
   .refine Ε (by simp[w]) ?_
    repeat apply Ο
    refine W0 (Υ g (Υ D (Υ N (Υ P (Υ Q (Υ E (Υ F (Υ S (Υ T ab))))))))) ?_;refine Χ ?_;refine W.to (Z (p,swp f j p) ⟨ae,by simp;omega,?_⟩ (by simp;omega)) ?_ ?_
    .rw[<-C,v,if_pos (by simp[Γ,ltInt,w])]
    .rw[ad]
    .simp[D]
   .refine Η (by simp[w]) ?_;refine W.exit rfl ?_;refine Χ ?_;refine W.to (H (i+1,f) ⟨m,M (by rw[v,if_neg (by simp[Γ,ltInt,w])])⟩ (by simp;omega)) (by rw[af]) ?_;have:=X7 (show i+1<2 ^ 62 by omega);simpa using this
  .have v:insInner (Γ c) a j f=f:=by
    cases j with
    | zero=>rfl
    | succ p=>rw[insInner];simp[g]
   refine W0 g ?_;refine Η rfl ?_;refine W.exit rfl ?_;refine Χ ?_;refine W.to (H (i+1,f) ⟨m,M v⟩ (by simp;omega)) (by rw[k]) ?_;have:=X7 (show i+1<2 ^ 62 by omega);simpa using this
 .refine Η (by simp[o]) ?_;refine W.exit rfl ?_;have Φ:insOuter (Γ c) a b i e=e:=by rw[insOuter,if_neg o]
  exact W.nil ⟨_,rfl,rfl,by rw[<-B,Φ]⟩
theorem ym (d:Array (Int×Int)) (n a b:Nat) (V:d.size=n) (ah:a<=b) (ai:b<=n) (aj:n<2 ^ 40) (l:I) (c:Int×Int->Int×Int->Int) (ak:χ 0 l) (X:∀x y,XD prog l [Ud x,Ud y] (R (c x y))) :
  Ξ prog 183 [.ms 0 n 0 n,R a,R b,l] [.cells 29 1 (d.toList.map Ud)] (λr s=>r=.ZX []/\s=[.cells 29 1 ((Go.Sort.insertionSort (Γ c) d a b).toList.map Ud)]) (λ_ _=>False):=by
 refine Ξ.body Ρ func183 rfl rfl ntmps183 rfl rfl J ?_;refine Χ ?_;have Y:=X7 (show a+1<2 ^ 62 by omega);refine W.iter (λq:Nat×Array (Int×Int)=>q.2.size=n/\insOuter (Γ c) a b q.1 q.2=Go.Sort.insertionSort (Γ c) d a b) (λq=>[(0,.ms 0 n 0 n),(1,R a),(2,R b),(3,l),(8,R q.1)]) (λq=>[.cells 29 1 (q.2.toList.map Ud)]) (λq=>b-q.1) (a+1,d) ⟨V,rfl⟩ rfl (by simpa using Y) (λq hi H=>?_);obtain⟨i,e⟩:=q;obtain⟨K,B⟩:=hi;simp only at K B;refine Χ ?_;by_cases o:i<b
 .refine Ε (by simp[o]) ?_;refine Χ ?_;refine W.iter (λq:Nat×Array (Int×Int)=>q.2.size=n/\q.1<=i/\insInner (Γ c) a q.1 q.2=insInner (Γ c) a i e) (λq=>[(0,.ms 0 n 0 n),(1,R a),(2,R b),(3,l),(8,R i),(9,R q.1)]) (λq=>[.cells 29 1 (q.2.toList.map Ud)]) (λq=>q.1) (i,e) ⟨K,Z5 _,rfl⟩ rfl J (λq g Z=>?_);obtain⟨j,f⟩:=q;obtain⟨m,aa,C⟩:=g;simp only at m aa C;have M:insInner (Γ c) a j f=f->insOuter (Γ c) a b (i+1) f=Go.Sort.insertionSort (Γ c) d a b:=λhd=>by
   rw[<-B,<-hd,C];conv=>rhs;rw[insOuter,if_pos o]
  obtain⟨L,k⟩:=ψ (f.toList.map Ud);have N:L.length=n:=by rw[k];simpa using m
  refine W.to (σ':=[.cells 29 1 L]) (env':=[(0,.ms 0 n 0 n),(1,R a),(2,R b),(3,l),(8,R i),(9,R j)]) ?_ (by rw[k]) J
  repeat apply Ο
  by_cases g:a<j
  .obtain⟨p,O⟩:∃p,j=p+1:=⟨j-1,U⟩;have D:IntKind.i64.wrap ((j:Int)-1)=(p:Int):=by have:=X7 (show p<2 ^ 62 by omega);rw[O];simpa using this
   have P:j<n:=U
   have Q:p<n:=U
   have ab:¬j=p:=U;obtain⟨x,t⟩:=ψ (f[j]!);obtain⟨y,u⟩:=ψ (f[p]!);have E:L[j]?=some (Ud x):=by rw[k,t,Yl,Wn,P1 U];rfl
   have F:L[p]?=some (Ud y):=by rw[k,u,Yl,Wn,P1 U];rfl
   have S:∀h:j<L.length,L[j]=Ud x:=λh=>by have:=E;rw[ζ h] at this;exact W4 this
   have T:∀h:p<L.length,L[p]=Ud y:=λh=>by have:=F;rw[ζ h] at this;exact W4 this
   have v:insInner (Γ c) a j f=if Γ c x y=true then insInner (Γ c) a p (swp f j p) else f:=by
    subst O;rw[insInner,t,u];simp[g]
   have ad:(swp f j p).toList.map Ud=(L.set j (Ud y)).set p (Ud x):=by rw[k,t,u];simp[swp]
   have ae:(swp f j p).size=n:=by simp[swp,m]
   have af:=k;clear t u;refine W.draw (A:=[]) Ρ mixed λal ag=>Vj (Υ g (Υ D (Υ N (Υ P (Υ Q (Υ E (Υ F (Υ S T)))))))) ?_;refine YD (X x y) ?_;simp;(repeat (rw[ZL];simp));try rw[ZM]
   refine YG (ag _ _ ?_);by_cases w:c x y<0
   .refine Ε (by simp[w]) ?_
    repeat apply Ο
    refine W0 (Υ g (Υ D (Υ N (Υ P (Υ Q (Υ E (Υ F (Υ S (Υ T ab))))))))) ?_;refine Χ ?_;refine W.to (Z (p,swp f j p) ⟨ae,by simp;omega,?_⟩ (by simp;omega)) ?_ ?_
    .rw[<-C,v,if_pos (by simp[Γ,ltInt,w])]
    .rw[ad]
    .simp[D]
   .refine Η (by simp[w]) ?_;refine W.exit rfl ?_;refine Χ ?_;refine W.to (H (i+1,f) ⟨m,M (by rw[v,if_neg (by simp[Γ,ltInt,w])])⟩ (by simp;omega)) (by rw[af]) ?_;have:=X7 (show i+1<2 ^ 62 by omega);simpa using this
  .have v:insInner (Γ c) a j f=f:=by
    cases j with
    | zero=>rfl
    | succ p=>rw[insInner];simp[g]
   refine W0 g ?_;refine Η rfl ?_;refine W.exit rfl ?_;refine Χ ?_;refine W.to (H (i+1,f) ⟨m,M v⟩ (by simp;omega)) (by rw[k]) ?_;have:=X7 (show i+1<2 ^ 62 by omega);simpa using this
 .refine Η (by simp[o]) ?_;refine W.exit rfl ?_;have Φ:insOuter (Γ c) a b i e=e:=by rw[insOuter,if_neg o]
  exact W.nil ⟨_,rfl,rfl,by rw[<-B,Φ]⟩
theorem yl (d:Array (Int)) (n a b:Nat) (Q:d.size=n) (ad:a<=b) (ae:b<=n) (af:n<2 ^ 40)  :
  Ξ prog 197 [.ms 0 n 0 n,R a,R b] [.cells 3 1 (d.toList.map R)] (λr s=>r=.ZX []/\s=[.cells 3 1 ((Go.Sort.insertionSort (ltInt) d a b).toList.map R)]) (λ_ _=>False):=by
 refine Ξ.body Ρ func197 rfl rfl ntmps197 rfl rfl J ?_;refine Χ ?_;have S:=X7 (show a+1<2 ^ 62 by omega);refine W.iter (λq:Nat×Array (Int)=>q.2.size=n/\insOuter (ltInt) a b q.1 q.2=Go.Sort.insertionSort (ltInt) d a b) (λq=>[(0,.ms 0 n 0 n),(1,R a),(2,R b),(6,R q.1)]) (λq=>[.cells 3 1 (q.2.toList.map R)]) (λq=>b-q.1) (a+1,d) ⟨Q,rfl⟩ rfl (by simpa using S) (λq hi E=>?_);obtain⟨i,e⟩:=q;obtain⟨F,v⟩:=hi;simp only at F v;refine Χ ?_;by_cases l:i<b
 .refine Ε (by simp[l]) ?_;refine Χ ?_;refine W.iter (λq:Nat×Array (Int)=>q.2.size=n/\q.1<=i/\insInner (ltInt) a q.1 q.2=insInner (ltInt) a i e) (λq=>[(0,.ms 0 n 0 n),(1,R a),(2,R b),(6,R i),(7,R q.1)]) (λq=>[.cells 3 1 (q.2.toList.map R)]) (λq=>q.1) (i,e) ⟨F,Z5 _,rfl⟩ rfl J (λq c T=>?_);obtain⟨j,f⟩:=q;obtain⟨k,V,w⟩:=c;simp only at k V w;have H:insInner (ltInt) a j f=f->insOuter (ltInt) a b (i+1) f=Go.Sort.insertionSort (ltInt) d a b:=λhd=>by
   rw[<-v,<-hd,w];conv=>rhs;rw[insOuter,if_pos l]
  obtain⟨L,g⟩:=ψ (f.toList.map R);have I:L.length=n:=by rw[g];simpa using k
  refine W.to (σ':=[.cells 3 1 L]) (env':=[(0,.ms 0 n 0 n),(1,R a),(2,R b),(6,R i),(7,R j)]) ?_ (by rw[g]) J
  repeat apply Ο
  by_cases c:a<j
  .obtain⟨p,K⟩:∃p,j=p+1:=⟨j-1,U⟩;have B:IntKind.i64.wrap ((j:Int)-1)=(p:Int):=by have:=X7 (show p<2 ^ 62 by omega);rw[K];simpa using this
   have M:j<n:=U
   have N:p<n:=U
   have X:¬j=p:=U;obtain⟨x,m⟩:=ψ (f[j]!);obtain⟨y,o⟩:=ψ (f[p]!);have C:L[j]?=some (R x):=by rw[g,m,Yl,Wn,P1 U];rfl
   have D:L[p]?=some (R y):=by rw[g,o,Yl,Wn,P1 U];rfl
   have O:∀h:j<L.length,L[j]=R x:=λh=>by have:=C;rw[ζ h] at this;exact W4 this
   have P:∀h:p<L.length,L[p]=R y:=λh=>by have:=D;rw[ζ h] at this;exact W4 this
   have t:insInner (ltInt) a j f=if ltInt x y=true then insInner (ltInt) a p (swp f j p) else f:=by
    subst K;rw[insInner,m,o];simp[c]
   have Y:(swp f j p).toList.map R=(L.set j (R y)).set p (R x):=by rw[g,m,o];simp[swp]
   have Z:(swp f j p).size=n:=by simp[swp,k]
   have aa:=g;clear m o;refine W.draw (A:=[]) Ρ mixed λag ab=>Vj (Υ c (Υ B (Υ I (Υ M (Υ N (Υ C (Υ D (Υ O P)))))))) ?_;refine YD (Κ.p (yq x y) (ZO.refl _) J J) ?_;simp;(repeat (rw[ZL];simp));try rw[ZM]
   refine YG (ab _ _ ?_);by_cases u:x<y
   .refine Ε (by simp[u]) ?_
    repeat apply Ο
    refine W0 (Υ c (Υ B (Υ I (Υ M (Υ N (Υ C (Υ D (Υ O (Υ P X))))))))) ?_;refine Χ ?_;refine W.to (T (p,swp f j p) ⟨Z,by simp;omega,?_⟩ (by simp;omega)) ?_ ?_
    .rw[<-w,t,if_pos (by simp[Γ,ltInt,u])]
    .rw[Y]
    .simp[B]
   .refine Η (by simp[u]) ?_;refine W.exit rfl ?_;refine Χ ?_;refine W.to (E (i+1,f) ⟨k,H (by rw[t,if_neg (by simp[Γ,ltInt,u])])⟩ (by simp;omega)) (by rw[aa]) ?_;have:=X7 (show i+1<2 ^ 62 by omega);simpa using this
  .have t:insInner (ltInt) a j f=f:=by
    cases j with
    | zero=>rfl
    | succ p=>rw[insInner];simp[c]
   refine W0 c ?_;refine Η rfl ?_;refine W.exit rfl ?_;refine Χ ?_;refine W.to (E (i+1,f) ⟨k,H t⟩ (by simp;omega)) (by rw[g]) ?_;have:=X7 (show i+1<2 ^ 62 by omega);simpa using this
 .refine Η (by simp[l]) ?_;refine W.exit rfl ?_;have Φ:insOuter (ltInt) a b i e=e:=by rw[insOuter,if_neg l]
  exact W.nil ⟨_,rfl,rfl,by rw[<-v,Φ]⟩
theorem yk (n:Nat) (h:n<256):Κ prog 192 [.z (.int .u64 n)] (R (bitsLen n)):=by
 refine Ξ.body Ρ func192 rfl rfl ntmps192 rfl rfl J ?_;have f:¬(n:Int)>=4294967296:=U;have g:¬(n:Int)>=65536:=U;have j:¬(n:Int)>=256:=U;have a:¬(4294967296:Int)<=n:=U;have b:¬(65536:Int)<=n:=U;have c:¬(256:Int)<=n:=U;refine Ι @a ?_;refine Η rfl ?_;refine Ι b ?_;refine Η rfl ?_;refine Ι c ?_;refine Η rfl ?_;have d:IntKind.u8.wrap (n:Int)=n:=by unfold IntKind.wrap;simp[IntKind.bits,IntKind.signed];omega
 refine XM d λk e=>?_;refine⟨Nat.lt_of_lt_of_eq h (by kernel_rfl),?_⟩;apply e;refine Χ ?_;refine W.ret ⟨_,rfl,?_,rfl⟩;refine .of (congrArg (λi=>I.z (.int .i64 i)) ?_);apply yz n h;decide +kernel
theorem Oh (n:Nat) (h:n<256):Κ prog 150 [.z (.int .u64 n)] (R (bitsLen n)):=by
 refine Ξ.body Ρ func150 rfl rfl ntmps150 rfl rfl J ?_;refine Χ ?_;refine Η rfl ?_;refine ZU λb a=>?_;refine Κ.d (yk n h) (Z1 ?_);apply a;refine Χ ?_;refine W.rt ?_;exact .of rfl
theorem P0 (y:Int×Int):∀a∈(Zq y).cells,χ 0 a:=by simp[I.cells]
theorem Nk (y:Found):∀a∈(YQ y).cells,χ 0 a:=by simp[I.cells]
theorem Eo (y:Int×Int):∀a∈(Ud y).cells,χ 0 a:=by simp[I.cells]
theorem Pk (y:Int):∀a∈(R y).cells,χ 0 a:=by simp[I.cells]
theorem yj (d:Array (Int×Int)) (n i:Nat) (j:d.size=n) (p:n<=12) (b:I) (c:Int×Int->Int×Int->Int) (f:χ 0 b) (k:∀x y,XD prog b [Zq x,Zq y] (R (c x y))) :
  Ξ prog 211 [.ms 0 n 0 n,R 0,R n,R i,b] [.cells 112 2 (d.toList.map Zq)] (λr s=>r=.ZX []/\s=[.cells 112 2 ((Go.Sort.insertionSort (Γ c) d 0 n).toList.map Zq)]) (λ_ _=>False):=by
 refine Ξ.body Ρ func211 rfl rfl ntmps211 rfl rfl J ?_;have l:=X7 (show n<2 ^ 62 by omega);have Φ:(n:Int)<=12:=U;refine Χ ?_;refine .loop ?_;refine Ι l ?_;refine Ε (by simp;omega) ?_;refine ZU λt m=>?_;refine Ξ.one (Ep d n 0 n j (ω _) (Z5 _) U b c f k) 0 rfl (λe g a h=>by
  obtain⟨y,o,rfl⟩:=Zc.1 g;exact P0 y a h) (λe g a h=>by
  obtain⟨y,o,rfl⟩:=Zc.1 g;exact P0 y a h) (by simp[SJ,Oj,f.VL 1]) (by simp[Xm]) (by simp[SI,SH,f.Ym [0]]) ?_
 simp[Ym,Wg];(repeat (rw[Μ];simp));apply m;exact W.ret ⟨_,rfl,rfl,rfl⟩
theorem yi (d:Array (Int×Int)) (n:Nat) (c:d.size=n) (j:n<=12) (b:I) (f:Int×Int->Int×Int->Int) (g:χ 0 b) (k:∀x y,XD prog b [Zq x,Zq y] (R (f x y))) :
  Ξ prog 173 [.ms 0 n 0 n,b] [.cells 112 2 (d.toList.map Zq)] (λr s=>r=.ZX []/\s=[.cells 112 2 ((Go.Sort.insertionSort (Γ f) d 0 n).toList.map Zq)]) (λ_ _=>False):=by
 refine Ξ.body Ρ func173 rfl rfl ntmps173 rfl rfl J ?_;have l:=X7 (show n<2 ^ 62 by omega);have Φ:IntKind.u64.wrap (n:Int)=n:=by unfold IntKind.wrap;simp[IntKind.bits,IntKind.signed];omega
 refine Ι c ?_;(repeat apply Ο);refine YX λp m=>?_;simp;(repeat (rw[Μ];simp[c,l,Φ]));refine Κ.d (Oh n U) (Z1 ?_);refine Ξ.one (yj d n (bitsLen n) c j b f g k) 0 rfl (λe h a i=>by
  obtain⟨y,o,rfl⟩:=Zc.1 h;exact P0 y a i) (λe h a i=>by
  obtain⟨y,o,rfl⟩:=Zc.1 h;exact P0 y a i) (by simp[SJ,Oj,g.VL 1]) (by simp[Xm]) (by simp[SI,SH,g.Ym [0]]) ?_
 simp[Ym,Wg];(repeat (rw[Μ];simp));apply m;exact W.nil ⟨_,rfl,rfl,rfl⟩
theorem yh (d:Array (Found)) (n i:Nat) (j:d.size=n) (p:n<=12) (b:I) (c:Found->Found->Int) (f:χ 0 b) (k:∀x y,XD prog b [YQ x,YQ y] (R (c x y))) :
  Ξ prog 182 [.ms 0 n 0 n,R 0,R n,R i,b] [.cells 110 3 (d.toList.map YQ)] (λr s=>r=.ZX []/\s=[.cells 110 3 ((Go.Sort.insertionSort (Γ c) d 0 n).toList.map YQ)]) (λ_ _=>False):=by
 refine Ξ.body Ρ func182 rfl rfl ntmps182 rfl rfl J ?_;have l:=X7 (show n<2 ^ 62 by omega);have Φ:(n:Int)<=12:=U;refine Χ ?_;refine .loop ?_;refine Ι l ?_;refine Ε (by simp;omega) ?_;refine ZU λt m=>?_;refine Ξ.one (yn d n 0 n j (ω _) (Z5 _) U b c f k) 0 rfl (λe g a h=>by
  obtain⟨y,o,rfl⟩:=Zc.1 g;exact Nk y a h) (λe g a h=>by
  obtain⟨y,o,rfl⟩:=Zc.1 g;exact Nk y a h) (by simp[SJ,Oj,f.VL 1]) (by simp[Xm]) (by simp[SI,SH,f.Ym [0]]) ?_
 simp[Ym,Wg];(repeat (rw[Μ];simp));apply m;exact W.ret ⟨_,rfl,rfl,rfl⟩
theorem yg (d:Array (Found)) (n:Nat) (c:d.size=n) (j:n<=12) (b:I) (f:Found->Found->Int) (g:χ 0 b) (k:∀x y,XD prog b [YQ x,YQ y] (R (f x y))) :
  Ξ prog 147 [.ms 0 n 0 n,b] [.cells 110 3 (d.toList.map YQ)] (λr s=>r=.ZX []/\s=[.cells 110 3 ((Go.Sort.insertionSort (Γ f) d 0 n).toList.map YQ)]) (λ_ _=>False):=by
 refine Ξ.body Ρ func147 rfl rfl ntmps147 rfl rfl J ?_;have l:=X7 (show n<2 ^ 62 by omega);have Φ:IntKind.u64.wrap (n:Int)=n:=by unfold IntKind.wrap;simp[IntKind.bits,IntKind.signed];omega
 refine Ι c ?_;(repeat apply Ο);refine YX λp m=>?_;simp;(repeat (rw[Μ];simp[c,l,Φ]));refine Κ.d (Oh n U) (Z1 ?_);refine Ξ.one (yh d n (bitsLen n) c j b f g k) 0 rfl (λe h a i=>by
  obtain⟨y,o,rfl⟩:=Zc.1 h;exact Nk y a i) (λe h a i=>by
  obtain⟨y,o,rfl⟩:=Zc.1 h;exact Nk y a i) (by simp[SJ,Oj,g.VL 1]) (by simp[Xm]) (by simp[SI,SH,g.Ym [0]]) ?_
 simp[Ym,Wg];(repeat (rw[Μ];simp));apply m;exact W.nil ⟨_,rfl,rfl,rfl⟩
theorem yf (d:Array (Int)) (n f:Nat) (g:d.size=n) (k:n<=12)  :
  Ξ prog 157 [.ms 0 n 0 n,R 0,R n,R f] [.cells 3 1 (d.toList.map R)] (λr s=>r=.ZX []/\s=[.cells 3 1 ((Go.Sort.insertionSort (ltInt) d 0 n).toList.map R)]) (λ_ _=>False):=by
 refine Ξ.body Ρ func157 rfl rfl ntmps157 rfl rfl J ?_;have h:=X7 (show n<2 ^ 62 by omega);have Φ:(n:Int)<=12:=U;refine Χ ?_;refine .loop ?_;refine Ι h ?_;refine Ε (by simp;omega) ?_;refine ZU λl i=>?_;refine Ξ.one (yl d n 0 n g (ω _) (Z5 _) U) 0 rfl (λe b a c=>by
  obtain⟨y,j,rfl⟩:=Zc.1 b;exact Pk y a c) (λe b a c=>by
  obtain⟨y,j,rfl⟩:=Zc.1 b;exact Pk y a c) (by simp[SJ,Oj]) (by simp[Xm]) (by simp[SI,SH]) ?_
 simp[Ym,Wg];(repeat (rw[Μ];simp));apply i;exact W.ret ⟨_,rfl,rfl,rfl⟩
theorem ye (d:Array (Int)) (n:Nat) (b:d.size=n) (g:n<=12)  :
  Ξ prog 132 [.ms 0 n 0 n] [.cells 3 1 (d.toList.map R)] (λr s=>r=.ZX []/\s=[.cells 3 1 ((Go.Sort.insertionSort (ltInt) d 0 n).toList.map R)]) (λ_ _=>False):=by
 refine Ξ.body Ρ func132 rfl rfl ntmps132 rfl rfl J ?_;have h:=X7 (show n<2 ^ 62 by omega);have Φ:IntKind.u64.wrap (n:Int)=n:=by unfold IntKind.wrap;simp[IntKind.bits,IntKind.signed];omega
 refine Ι b ?_;(repeat apply Ο);refine YX λk i=>?_;simp;(repeat (rw[Μ];simp[b,h,Φ]));refine Κ.d (Oh n U) (Z1 ?_);refine Ξ.one (yf d n (bitsLen n) b g) 0 rfl (λe c a f=>by
  obtain⟨y,j,rfl⟩:=Zc.1 c;exact Pk y a f) (λe c a f=>by
  obtain⟨y,j,rfl⟩:=Zc.1 c;exact Pk y a f) (by simp[SJ,Oj]) (by simp[Xm]) (by simp[SI,SH]) ?_
 simp[Ym,Wg];(repeat (rw[Μ];simp));apply i;exact W.nil ⟨_,rfl,rfl,rfl⟩
theorem yd (l:List Int) (b:I) (p:Int->Bool) (g:l.length<2 ^ 62) (o:χ 0 b) (k:∀x∈l,XD prog b [R x] (ε (p x))):Κ prog 131 [ν R 1 l,b] (R (idxOf p l)):=by
 refine Ξ.body Ρ func131 rfl rfl ntmps131 rfl rfl J ?_;refine Χ ?_;refine W.iter (λi:Nat=>i<=l.length/\∀j,j<i->(h:j<l.length)->p l[j]=false) (λi=>[(0,ν R 1 l),(1,b),(6,ν R 1 l),(7,R l.length),(8,R i)]) (λ_=>[]) (λi=>l.length-i) 0 ⟨ω _,λj f=>U⟩ rfl J (λi hi m=>?_);refine Χ ?_;refine W.YM rfl (λa=>?_) (λa=>?_)
 .have a:i<l.length:=by simpa using a
  refine Ι a ?_;refine XM a λr n=>?_;refine(k _ (Y7 a)).c ?_;simp;(repeat (rw[Μ];simp));apply n;cases d:p l[i]
  .refine Η (by simp[d]) ?_;refine Χ ?_;refine W.forget _ ?_ (m (i+1) ⟨U,λj f h=>?_⟩ U)
   .simp[Yx a g]
   .by_cases e:j=i
    .subst e;exact d
    .exact hi.2 j U h
  .refine Ε (by simp[d]) ?_;refine Χ ?_;refine W.rt ?_;exact .of (by rw[JG a d hi.2];rfl)
 .have a:l.length<=i:=by simpa using a
  refine W.exit rfl ?_;refine Χ ?_;refine W.rt ?_;exact .of (by rw[JF λj f=>hi.2 j U f];rfl)
theorem yc (l:List Int) (a:I) (p:Int->Bool) (d:l.length<2 ^ 62) (b:χ 0 a) (e:∀x∈l,XD prog a [R x] (ε (p x))):Κ prog 94 [ν R 1 l,a] (ε (l.any p)):=by
 refine Ξ.body Ρ func94 rfl rfl ntmps94 rfl rfl J ?_;refine Χ ?_;refine ZU λg f=>?_;refine Κ.c (yd l a p d b e) (ZO.refl _) (by simp[b]) J ?_;simp;(repeat (rw[Μ];simp));apply f;refine Χ ?_;refine W.rt ?_;exact .of (by rw[<-JE (p:=p)];rfl)
theorem yb (l:List VA) (b:I) (p:VA->Bool) (g:l.length<2 ^ 62) (o:χ 0 b) (k:∀x∈l,XD prog b [Ye x] (ε (p x))):Κ prog 100 [ν Ye 2 l,b] (R (idxOf p l)):=by
 refine Ξ.body Ρ func100 rfl rfl ntmps100 rfl rfl J ?_;refine Χ ?_;refine W.iter (λi:Nat=>i<=l.length/\∀j,j<i->(h:j<l.length)->p l[j]=false) (λi=>[(0,ν Ye 2 l),(1,b),(6,ν Ye 2 l),(7,R l.length),(8,R i)]) (λ_=>[]) (λi=>l.length-i) 0 ⟨ω _,λj f=>U⟩ rfl J (λi hi m=>?_);refine Χ ?_;refine W.YM rfl (λa=>?_) (λa=>?_)
 .have a:i<l.length:=by simpa using a
  refine Ι a ?_;refine XM a λr n=>?_;refine(k _ (Y7 a)).c ?_;simp;(repeat (rw[Μ];simp));apply n;cases d:p l[i]
  .refine Η (by simp[d]) ?_;refine Χ ?_;refine W.forget _ ?_ (m (i+1) ⟨U,λj f h=>?_⟩ U)
   .simp[Yx a g]
   .by_cases e:j=i
    .subst e;exact d
    .exact hi.2 j U h
  .refine Ε (by simp[d]) ?_;refine Χ ?_;refine W.rt ?_;exact .of (by rw[JG a d hi.2];rfl)
 .have a:l.length<=i:=by simpa using a
  refine W.exit rfl ?_;refine Χ ?_;refine W.rt ?_;exact .of (by rw[JF λj f=>hi.2 j U f];rfl)
theorem ya (l:List VA) (a:I) (p:VA->Bool) (d:l.length<2 ^ 62) (b:χ 0 a) (e:∀x∈l,XD prog a [Ye x] (ε (p x))):Κ prog 135 [ν Ye 2 l,a] (ε (l.any p)):=by
 refine Ξ.body Ρ func135 rfl rfl ntmps135 rfl rfl J ?_;refine Χ ?_;refine ZU λg f=>?_;refine Κ.c (yb l a p d b e) (ZO.refl _) (by simp[b]) J ?_;simp;(repeat (rw[Μ];simp));apply f;refine Χ ?_;refine W.rt ?_;exact .of (by rw[<-JE (p:=p)];rfl)
theorem x' (l:List Y9) (b:I) (p:Y9->Bool) (g:l.length<2 ^ 62) (o:χ 0 b) (k:∀x∈l,XD prog b [Zr x] (ε (p x))):Κ prog 230 [ν Zr 3 l,b] (R (idxOf p l)):=by
 refine Ξ.body Ρ func230 rfl rfl ntmps230 rfl rfl J ?_;refine Χ ?_;refine W.iter (λi:Nat=>i<=l.length/\∀j,j<i->(h:j<l.length)->p l[j]=false) (λi=>[(0,ν Zr 3 l),(1,b),(6,ν Zr 3 l),(7,R l.length),(8,R i)]) (λ_=>[]) (λi=>l.length-i) 0 ⟨ω _,λj f=>U⟩ rfl J (λi hi m=>?_);refine Χ ?_;refine W.YM rfl (λa=>?_) (λa=>?_)
 .have a:i<l.length:=by simpa using a
  refine Ι a ?_;refine XM a λr n=>?_;refine(k _ (Y7 a)).c ?_;simp;(repeat (rw[Μ];simp));apply n;cases d:p l[i]
  .refine Η (by simp[d]) ?_;refine Χ ?_;refine W.forget _ ?_ (m (i+1) ⟨U,λj f h=>?_⟩ U)
   .simp[Yx a g]
   .by_cases e:j=i
    .subst e;exact d
    .exact hi.2 j U h
  .refine Ε (by simp[d]) ?_;refine Χ ?_;refine W.rt ?_;exact .of (by rw[JG a d hi.2];rfl)
 .have a:l.length<=i:=by simpa using a
  refine W.exit rfl ?_;refine Χ ?_;refine W.rt ?_;exact .of (by rw[JF λj f=>hi.2 j U f];rfl)
theorem x9 (l:List Y9) (a:I) (p:Y9->Bool) (d:l.length<2 ^ 62) (b:χ 0 a) (e:∀x∈l,XD prog a [Zr x] (ε (p x))):Κ prog 194 [ν Zr 3 l,a] (ε (l.any p)):=by
 refine Ξ.body Ρ func194 rfl rfl ntmps194 rfl rfl J ?_;refine Χ ?_;refine ZU λg f=>?_;refine Κ.c (x' l a p d b e) (ZO.refl _) (by simp[b]) J ?_;simp;(repeat (rw[Μ];simp));apply f;refine Χ ?_;refine W.rt ?_;exact .of (by rw[<-JE (p:=p)];rfl)
def Xl:List Int->Int
 | []=>0
 | e::l=>if e=0 then Xl l else e
theorem x8 {l:List Int} {i:Nat} (h:i<l.length) (a:l[i]≠0) (b:∀j,j<i->(c:j<l.length)->l[j]=0):Xl l=l[i]:=by
 induction l generalizing i with
 | nil=>cases h
 | cons e l d=>
  cases i with
  | zero=>simp at a;simp[Xl,a]
  | succ i=>
   have f:e=0:=b 0 U J;simp only[Xl,f,if_true,List.getElem_cons_succ];exact d (by simpa using h) (by simpa using a) λj c g=>b (j+1) U (by simpa using g)
theorem x7 {l:List Int} (h:∀j,(a:j<l.length)->l[j]=0):Xl l=0:=by
 induction l with
 | nil=>rfl
 | cons e l b=>
  have c:e=0:=h 0 J;simp only[Xl,c,if_true];exact b λj a=>h (j+1) (by simpa using a)
theorem QV {f:Nat->Int} {n i:Nat} {e:Int} (h:i<n) (a:f i=e) (b:e≠0) (c:∀j,j<i->f j=0):Xl ((List.range n).map f)=e:=by
 rw[x8 (i:=i) (by simpa using h) (by simp[a,b]) (λj d g=>by simpa using c j d)];simp[a]
theorem QU {f:Nat->Int} {n:Nat} (h:∀j,j<n->f j=0):Xl ((List.range n).map f)=0:=
 x7 λj a=>by simpa using h j (by simpa using a)
def UI (n:ByteArray):Bool:=n.size != 1||Me n ⟨#[97]⟩||!VC n ⟨#[122]⟩
def Vz (l:List VA) (i:Nat):Int:=match l[i]? with
 | none=>0
 | some g=>if UI g.name then 2 else if 0<i/\VC g.name ((l[i-1]?.map (·.name)).getD ⟨#[]⟩)=true then 5 else if g.YW<1\/63<g.YW then 1 else if(l.take i).any (λx=>x.YW==g.YW) then 4 else 0
def Wv (l:List VA):Int:=if l.length=0 then 7 else if 6<l.length then 6 else Xl ((List.range l.length).map (Vz l))
theorem x6 (g x:VA):Κ prog 136 [Ye x,.π [TO g.name,R g.YW]] (ε (x.YW==g.YW)):=by
 refine Ξ.body Ρ func136 rfl rfl ntmps136 rfl rfl J ?_;refine Χ ?_;refine W.rt ?_;exact .of (by simp)
theorem x5 (s:Δ) (v:s.small):Κ prog 103 [Zh s] (R (Wv s.ς)):=by
 refine Ξ.body Ρ func103 rfl rfl ntmps103 rfl rfl J ?_;have I:=v.1;by_cases b:s.ς.length=0
 .refine Ι b ?_;refine Ε J ?_;refine Χ ?_;refine W.rt ?_;exact .of (by rw[show Wv s.ς=7 by simp[Wv,b]];rfl)
 by_cases k:(6:Int)<s.ς.length
 .refine Ι (Υ b k) ?_;refine Η (by simp[b]) ?_;refine Ι (Υ b k) ?_;refine Ε J ?_;refine Χ ?_;refine W.rt ?_;exact .of (by rw[show Wv s.ς=6 by simp[Wv,b];omega];rfl)
 have w:Wv s.ς=Xl ((List.range s.ς.length).map (Vz s.ς)):=by
  unfold Wv;rw[if_neg b,if_neg U]
 rw[w];refine Ι (Υ b k) ?_;refine Η (by simp[b]) ?_;refine Ι (Υ b k) ?_;refine Η J ?_;refine Χ ?_;refine W.iter (λi:Nat=>i<=s.ς.length/\∀j,j<i->Vz s.ς j=0) (λi=>[(1,Z6 s),(17,ZI s.ς),(18,R s.ς.length),(19,R i)]) (λ_=>[]) (λi=>s.ς.length-i) 0 ⟨U,λj r=>U⟩ rfl J (λi hi y=>?_);refine Χ ?_;refine W.YM rfl (λa=>?_) (λa=>?_)
 .have a:i<s.ς.length:=by simpa using a
  have d:s.ς[i]?=some s.ς[i]:=ζ a
  have l:∀e:Int,Vz s.ς i=e->e≠0->Xl ((List.range s.ς.length).map (Vz s.ς))=e:=λe B m=>QV a B m hi.2
  repeat apply Ο
  refine Y4 (A:=[4]) Ρ λC o=>XC a ?_;apply o;refine W.fix (id:=0) (σ':=[]) (ω _) rfl J J rfl [(1,Z6 s),(17,ZI s.ς),(18,R s.ς.length),(19,R i),(3,R i),(4,.π [TO s.ς[i].name,R s.ς[i].YW])] J ?_
  repeat apply Ο
  refine W.Qc (A:=[]) Ρ [(1,Z6 s),(17,ZI s.ς),(18,R s.ς.length),(19,R i),(3,R i),(4,.π [TO s.ς[i].name,R s.ς[i].YW]),(5,ZI (s.ς.take i))] ?_ (by simp[Μ,Si,RP a])
  repeat apply Ο
  refine W.Qc (A:=[]) Ρ [(28,ε (UI s.ς[i].name)),(1,Z6 s),(17,ZI s.ς),(18,R s.ς.length),(19,R i),(3,R i),(4,.π [TO s.ς[i].name,R s.ς[i].YW]),(5,ZI (s.ς.take i))] ?_ (by
   unfold UI;by_cases t:(s.ς[i].name.size:Int)=1
   .have p:s.ς[i].name.size=1:=U
    cases D:Me s.ς[i].name ⟨#[97]⟩<;>simp[Μ,Si,t,D,p]
   .have p:¬s.ς[i].name.size=1:=U
    simp[Μ,Si,t,p])
  cases f:UI s.ς[i].name
  case true=>
   refine Ε rfl ?_;refine Χ ?_;refine W.rt ?_;exact .of (by rw[l 2 (by simp[Vz,d,f]) Z3];rfl)
  refine Η rfl ?_
  repeat apply Ο
  refine W.Nn (A:=[]) Ρ mixed [(43,ε (decide (0<i)&&VC s.ς[i].name ((s.ς[i-1]?.map (·.name)).getD ⟨#[]⟩))),(1,Z6 s),(17,ZI s.ς),(18,R s.ς.length),(19,R i),(3,R i),(4,.π [TO s.ς[i].name,R s.ς[i].YW]),(5,ZI (s.ς.take i))] ?_ (by
   cases i with
   | zero=>simp[ZL,ZM];exact Yw (by kernel_rfl)
   | succ n=>
    have E:n<s.ς.length:=U
    have F:=X7 (show n<2 ^ 62 by omega)
    have m:(0:Int)<(n:Int)+1:=U
    have H:n<min (n+1) s.ς.length:=U;simp[ZL,ZM,m,E,F,H];exact Yw (by kernel_rfl))
  cases bo:decide (0<i)&&VC s.ς[i].name ((s.ς[i-1]?.map (·.name)).getD ⟨#[]⟩)
  case true=>
   refine Ε rfl ?_;refine Χ ?_;refine W.rt ?_;exact .of (by rw[l 5 (by simp at bo;simp[Vz,d,f,bo]) Z3];rfl)
  refine Η rfl ?_
  repeat apply Ο
  refine W.Qc (A:=[]) Ρ [(57,ε (decide (s.ς[i].YW<1)||decide (63<s.ς[i].YW))),(1,Z6 s),(17,ZI s.ς),(18,R s.ς.length),(19,R i),(3,R i),(4,.π [TO s.ς[i].name,R s.ς[i].YW]),(5,ZI (s.ς.take i))] ?_ (by by_cases q:s.ς[i].YW<1<;>simp[Μ,Si,q]);have bo':¬(0<i/\VC s.ς[i].name ((s.ς[i-1]?.map (·.name)).getD ⟨#[]⟩)=true):=λh=>by simp[h] at bo
  by_cases g:s.ς[i].YW<1\/63<s.ς[i].YW
  case pos=>
   refine Ε (by simpa using g) ?_;refine Χ ?_;refine W.rt ?_;exact .of (by rw[l 1 (by simp only[Vz,d,f];rw[if_neg bo',if_pos g];rfl) Z3];rfl)
  refine Η (by simpa using g) ?_;refine ZU λC o=>?_;refine Κ.c (ya (s.ς.take i) (.fn (.func 136) [] [.π [TO s.ς[i].name,R s.ς[i].YW]]) (λx=>x.YW==s.ς[i].YW) (by simp;omega) (by simp[Uf]) (λx _=>λ_=>(x6 s.ς[i] x).cc (by simp;exact ZO.refl _) J J ⟨rfl,rfl⟩)) (ZO.refl _) (by simp[Uf]) J ?_;simp;(repeat (rw[Μ];simp));apply o;cases u:(s.ς.take i).any (λx=>x.YW==s.ς[i].YW)
  case true=>
   refine Ε J ?_;refine Χ ?_;refine W.rt ?_;exact .of (by rw[l 4 (by simp only[Vz,d,f];rw[if_neg bo',if_neg g,u];rfl) Z3];rfl)
  refine Η J ?_;refine Χ ?_;refine W.forget _ ?_ (y (i+1) ⟨a,λj r=>?_⟩ U)
  .simp[Yx a (show s.ς.length<2 ^ 62 by omega)]
  .by_cases e:j=i
   .subst e;simp only[Vz,d,f];rw[if_neg bo',if_neg g,u];rfl
   .exact hi.2 j U
 .have a:s.ς.length<=i:=by simpa using a
  refine W.exit rfl ?_;refine Χ ?_;refine W.rt ?_;exact .of (by rw[QU λj r=>hi.2 j U];rfl)
end Go.TL
namespace Go.TL
open Go.Proofs.Tryz
open Go.Sort (SWO bitsLen insInner insOuter insertionSort_holds ltInt sorted_unique_holds swo_ltInt swp)
open Go.Conc
variable [ZV]
structure Base where
 S:ο
 B:δ
 H:Ψ
 σ:Τ
 m:Nat
def V (P:Program) (a:Value->Prop) (mn:Bool) (x:W3) (b:Frame) (cs:List Frame) (nt:Nat) (o:Base) (k:List Item) (env:Ζ) (σ:Τ):Prop:=
 ∀(S:ο) (B:δ) (H:Ψ) (t:Array Value),XY o.m o.S o.B o.H o.σ S B H σ->XE o.m nt S B H σ env t->θ P a mn x (υ b t k) cs H
def En (P:Program) (c:Value->Prop) (mn:Bool) (x:W3) (b:Frame) (cs:List Frame) (o:Base) (a:I) (env:Ζ) (σ:Τ):Prop:=
 ∀(S:ο) (B:δ) (H:Ψ) (t:Array Value) (k:List Item) (v:Value),XY o.m o.S o.B o.H o.σ S B H σ->Holds S B σ H->YJ S B σ env t->Α S B σ a v->θ P c mn x {υ b t k with mode:=.panicking [{v,recovered:=false}]} cs H
structure Og (P:Program) (d:Deferred) (g:FuncId) (vs:Array Value):Prop where
 t1:∀r,d.target≠.collected r
 t2:d.target≠.nil
 run:∀w,(invoke d.target d.args).runT P w #[]=(.ok (.enter g vs) w,#[])
section
variable {P:Program} {T:ZZ} {A:List Nat} {Q:Value->Prop} {mn:Bool} {x:W3} {b:Frame} {cs:List Frame} {m nt:Nat} {o:Base} {k:List Item} {env:Ζ} {σ:Τ} {S YB:ο} {B B':δ} {H H':Ψ} {σ':Τ} {t:Array Value} {Z:X9} {E:Yn}
theorem V.XB (g:Seq x) (i:b.mode=.run) (h:W P o.m nt k env σ (V P Q mn x b cs nt o) (En P Q mn x b cs o)):V P Q mn x b cs nt o k env σ:=
 λS B H t f l=>h Q mn x cs b S B H t g i l (λj env' σ' YB B' H' t' c n d p r=>by
  have e:c=j:=r;subst e;exact n YB B' H' t' (f.trans d) p) (λa env' σ' YB B' H' t' c v s d u w y=>s YB B' H' t' c v (f.trans d) u w y)
theorem V.Zv (a:Seq x) (h:W P o.m nt k env σ (V P Q mn x b cs nt o) (En P Q mn x b cs o)) (c:b.mode=.run:=by rfl):V P Q mn x b cs nt o k env σ:=.XB a c h
theorem V.here (h:V P Q mn x b cs nt ⟨S,B,H,σ,m⟩ k env σ) (a:XE m nt S B H σ env t):θ P Q mn x (υ b t k) cs H:=h S B H t .refl a
theorem W.Zm {id:Nat} {ops:Array Oper} (h:W P m nt (.inRegion ops (idx ops.size [])::k) env σ Z E):W P m nt (.code (.region id ops false)::k) env σ Z E:=
 λQ mn x cs b S B H t a c d e f=>.region a c (by rw[<-idx_eq];exact h Q mn x cs b S B H t a c d e f)
theorem W.part (c:ZE P T) (is a:List Nat) {ops:Array Oper} {l:List Nat} (d:l=is++a) (h:∀b:Ζ->Τ->Prop,(∀env σ,W P m nt (.inRegion ops a::k) env σ Z E->b env σ)->run P T A nt ops is env σ b E):W P m nt (.inRegion ops l::k) env σ Z E:=
 d▸HU c a is env σ (h _ λ_ _ h=>h)
theorem HE (e:YJ S B σ env t) (args:Array Operand):XN S B σ (args.toList.map (κ env)) (args.map (ZS t)):=by
 refine⟨J,λi a v b c=>?_⟩;rw[Yl,Wn] at b;rw[PE] at c;cases d:args[i]? with
 | none=>rw[d] at b;cases b
 | some y=>rw[d] at b c;cases b;cases c;exact Uh e y
theorem Plain.enter {g:FuncId} (h:Plain P g) (vs:Array Value) (w:World):(callFunc g vs).runT P w #[]=(.ok (.enter g vs) w,#[]):=by
 obtain⟨fn,a,b,c⟩:=h;unfold callFunc;show Sem.runT P (Sem.bind program λp=>_) w #[]=_;simp only[program,Sem.bind];show Sem.runT P (match P.funcs[g]? with|none=>_|some fn=>_) w #[]=_;rw[a];simp only[b,c,Xo,if_false];rfl
theorem XE.put {c:Oper} {a:I} {v:Value} (b:XE m nt S B H σ env t) (hd:W2 nt c=true) (d:Α S B σ a v):XE m nt S B H σ (Zz c env a) (put c t v):=
 ⟨b.holds,(QW b.Zn hd b.size d).1,(QW b.Zn hd b.size d).2,b.rows⟩
theorem XY.all (h:XY m S B H σ YB B' H' σ') (b:Holds S B σ H) (a:σ.length<=m):Zy S YB B B' σ σ':=by
 have:=h.later
 rwa [US (by rw[b.len];exact a),US a] at this
theorem V.defer (p:Seq x) (r:b.mode=.run) (s:b.roundOf=none) {ops:Array Oper} {i:Nat} {rest:List Nat} {a:Oper} (u:ops[i]?=some a) (v:XT env ops a=some true) (y:a.dst=none) {f:Operand} {args:Array Operand} {A:Array TypeId} (C:a.op=.defer ⟨.value f,args,A⟩)
  {g:FuncId} {first captured:ξ} (D:κ env f=.fn (.func g) first captured) (E:Plain P g)
  (h:∀(S:ο) (B:δ) (H:Ψ) (t:Array Value) (d:Deferred) (vs:Array Value),XY o.m o.S o.B o.H o.σ S B H σ->XE o.m nt S B H σ env t->XN S B σ (first++args.toList.map (κ env)++captured) vs->Og P d g vs->
   θ P Q mn x (υ {b with defers:=d::b.defers} t (.inRegion ops rest::k)) cs H):V P Q mn x b cs nt o (.inRegion ops (i::rest)::k) env σ:=by
 intro S B H t F c;refine .op p r u (U6 c.Zn v) (.inl s) ?_;have j:=Uh c.Zn f;rw[D] at j;have I:=HE c.Zn args;have e:execOp (ZS t) a=(do pure (.defer (<-Deferred.ofValue (ZS t f) (args.map (ZS t))))):=by unfold execOp;rw[C];rfl
 rw[e];generalize ZS t f=T at j;cases j with
 | fn l n J K L M=>
  refine Ω.bind' (Ω.pure' (Ω.pure' ?_));have N:put a t undef=t:=by unfold put;rw[y]
  simp only[Fz,N];have O:XN S B σ first l:=⟨J,L⟩
  have R:XN S B σ captured n:=⟨K,M⟩;exact h S B H t ⟨.fn (.func g) n,l++args.map (ZS t)⟩ (l++args.map (ZS t)++n) F c ((O.append I).append R) ⟨λ_ h=>(by cases h),λh=>(by cases h),λw=>E.enter _ w⟩
theorem θ.recovered (d:Seq x) (f:b.mode=.run) (c:b.roundOf=none) {ops:Array Oper} {i:Nat} {rest:List Nat} {op:Oper} (g:ops[i]?=some op) (j:op.guard=none) {l:Array TypeId} (m:op.op=.call ⟨.builtin .recover,#[],l⟩) {v:Value} {cs':List Frame}
  (a:(tryRecover (υ b t (.inRegion ops (i::rest)::k)) cs=some (v,cs'))\/(tryRecover (υ b t (.inRegion ops (i::rest)::k)) cs=none/\v=.nilIface/\cs'=cs))
  (h:θ P Q mn x (υ b (put op t v) (.inRegion ops rest::k)) cs' H):θ P Q mn x (υ b t (.inRegion ops (i::rest)::k)) cs H:=by
 refine .op d f g (by unfold Region.wanted;rw[j]) (.inl c) ?_;have e:execOp (ZS t) op=pure .recover:=by unfold execOp;rw[m];rfl
 rw[e];refine Ω.pure' ⟨c,?_⟩;rcases a with a|⟨a,rfl,rfl⟩
 .rw[a];exact h
 .rw[a];exact h
end
theorem results_none {fn:Func} (h:fn.results=#[]) (t:Array Value):results fn t=pure (.tuple #[]):=by
 unfold results;rw[h];simp
theorem Sa {P:Program} {g:FuncId} {fn:Func} {body:Code} (b:P.funcs[g]?=some fn) (c:fn.body=some body) (vs:Array Value) (a:CallKind):Frame.enter P g vs a=υ (Frame.enter P g vs a) (vs++Array.replicate (fn.ntmps-vs.size) undef) [.code body]:=by
 simp[Frame.enter,υ,b,c]
theorem XE.enter {S:ο} {B:δ} {H:Ψ} {σ:Τ} {a:ξ} {vs:Array Value} {nt m:Nat} (b:Holds S B σ H) (hv:XN S B σ a vs) (c:m<=σ.length) (d:a.length<=nt):XE m nt S B H σ (entry 0 a) (vs++Array.replicate (nt-vs.size) undef):=
 ⟨b,EP hv _,by have:=hv.1;simp;omega,c⟩
end Go.TL
namespace Go.TL
open Go.Proofs.Tryz
open Go.Sort (SWO bitsLen insInner insOuter insertionSort_holds ltInt sorted_unique_holds swo_ltInt swp)
open Go.Proofs
variable [ZV]
def XX (s:Δ) (a:List Y9) (p:Y9):Int:=
 if p.Zd<0\/(s.Β.length:Int)<=p.Zd then 3 else if a.any (λx=>x.Zd==p.Zd) then 4 else if valid p.seen=false\/valid p.bare=false then 1 else if U3 p.seen p.bare=0 then 0 else 9
theorem x4 (p x:Y9):Κ prog 195 [Zr x,.π [R p.Zd,R p.seen,R p.bare]] (ε (x.Zd==p.Zd)):=by
 refine Ξ.body Ρ func195 rfl rfl ntmps195 rfl rfl J ?_;(repeat (first|apply Ο|(refine YX λb a=>?_;simp;(repeat (rw[Μ];simp));apply a)));refine W.ret ⟨_,rfl,?_,rfl⟩;exact .of (by simp)
theorem x3 (s:Δ) (d:List Y9) (n:d.length<2 ^ 62) (p:Y9):Ξ prog 153 [Zh s,U4 d,Zr p] [] (λa σ=>XX s d p=0/\a=.ZX []/\σ=[]) (λa σ=>XX s d p≠0/\a=.Xu 38 (R (XX s d p))/\σ=[]):=by
 refine Ξ.body Ρ func153 rfl rfl ntmps153 rfl rfl J ?_;(repeat (first|apply Ο|(refine YX λf b=>?_;simp;(repeat (rw[Μ];simp));apply b)));refine W.Nn (A:=[]) Ρ mixed [(6,R p.seen),(7,R p.bare),(1,U4 d),(3,Z6 s),(5,.π [R p.Zd,R p.seen,R p.bare])] ?_ (by simp[ZL,ZM];exact Yw (by kernel_rfl))
 repeat apply Ο
 refine W.Qc (A:=[]) Ρ [(12,ε (decide (p.Zd<0)||decide ((s.Β.length:Int)<=p.Zd))),(6,R p.seen),(7,R p.bare),(1,U4 d),(3,Z6 s),(5,.π [R p.Zd,R p.seen,R p.bare])] ?_ (by by_cases q:p.Zd<0<;>simp[Μ,Si,q]);by_cases i:p.Zd<0\/(s.Β.length:Int)<=p.Zd
 case pos=>
  have e:XX s d p=3:=by unfold XX;rw[if_pos i]
  rw[e];refine Ε (by simpa using i) ?_;(repeat apply Ο);refine YX λf b=>?_;simp;(repeat (rw[Μ];simp))
 refine Η (by simpa using i) ?_;(repeat apply Ο);refine YX λf b=>?_;simp;(repeat (rw[Μ];simp));refine Κ.c (x9 d (.fn (.func 195) [] [.π [R p.Zd,R p.seen,R p.bare]]) (λx=>x.Zd==p.Zd) n (by simp[Uf]) (λx _=>λ_=>(x4 p x).cc (by simp;exact ZO.refl _) J J ⟨rfl,rfl⟩)) (ZO.refl _) (by simp[Uf]) J ?_;simp;(repeat (rw[Μ];simp));apply b;cases k:d.any (λx=>x.Zd==p.Zd)
 case true=>
  have e:XX s d p=4:=by unfold XX;rw[if_neg i,if_pos k]
  rw[e];refine Ε J ?_;(repeat apply Ο);refine YX λf b=>?_;simp;(repeat (rw[Μ];simp))
 refine Η J ?_
 repeat apply Ο
 have m:(valid p.seen=false\/valid p.bare=false)->XX s d p=1:=λh=>by unfold XX;rw[if_neg i,k];simp[h]
 cases g:valid p.seen
 case false=>
  rw[m (.inl g)];(repeat apply Ο);refine YX λf b=>?_;simp;(repeat (rw[Μ];simp));refine Κ.c (Nl p.seen) (ZO.refl _) J J ?_;simp[g];(repeat (rw[Μ];simp[g]));apply b;refine Ε rfl ?_;(repeat apply Ο);refine YX λf b=>?_;simp;(repeat (rw[Μ];simp))
 cases j:valid p.bare
 case false=>
  rw[m (.inr j)];(repeat apply Ο);refine YX λf b=>?_;simp;(repeat (rw[Μ];simp));refine Κ.c (Nl p.seen) (ZO.refl _) J J ?_;simp[g];(repeat (rw[Μ];simp[g]));refine Κ.c (Nl p.bare) (ZO.refl _) J J ?_;simp[j];(repeat (rw[Μ];simp[j]));apply b;refine Ε rfl ?_;(repeat apply Ο);refine YX λf b=>?_;simp;(repeat (rw[Μ];simp))
 (repeat apply Ο);refine YX λf b=>?_;simp;(repeat (rw[Μ];simp));refine Κ.c (Nl p.seen) (ZO.refl _) J J ?_;simp[g];(repeat (rw[Μ];simp[g]));refine Κ.c (Nl p.bare) (ZO.refl _) J J ?_;simp[j];(repeat (rw[Μ];simp[j]));apply b;refine Η rfl ?_;(repeat apply Ο);refine YX λf b=>?_;simp;(repeat (rw[Μ];simp));refine Κ.c (Ev p.seen p.bare) (ZO.refl _) J J ?_;simp;(repeat (rw[Μ];simp));apply b;by_cases l:U3 p.seen p.bare=0
 .have e:XX s d p=0:=by unfold XX;rw[if_neg i,k];simp[g,j,l]
  refine Η (by simp[l]) ?_;(repeat (first|apply Ο|(refine YX λf b=>?_;simp;(repeat (rw[Μ];simp));apply b)));exact W.nil ⟨_,rfl,e,rfl,rfl⟩
 .have e:XX s d p=9:=by unfold XX;rw[if_neg i,k];simp[g,j,l]
  rw[e];refine Ε (by simp[l]) ?_;(repeat apply Ο);refine YX λf b=>?_;simp;(repeat (rw[Μ];simp))
end Go.TL
namespace Go.TL
open Go.Proofs.Tryz
open Go.Sort (SWO bitsLen insInner insOuter insertionSort_holds ltInt sorted_unique_holds swo_ltInt swp)
open Go.Proofs Go.Conc
variable [ZV]
theorem XN.later {S b:ο} {B B':δ} {σ σ':Τ} {l:ξ} {vs:Array Value} (h:XN S B σ l vs) (c:Zy S b B B' σ σ'):XN b B' σ' l vs:=⟨h.1,λi a v d e=>(h.2 i a v d e).later c⟩
theorem Oq.fin {P:Program} {e:Value->Prop} {mn:Bool} {x:W3} {c:Frame} {rest:List Frame} {S f:ο} {H H':Ψ} {B':δ} {σ':Τ} {v:Value} {r:I} (j:Oq P e mn x c rest S [] H [] (λa s=>Y3 a r/\s=[]) (λ_ _=>False))
  (g:Ext S [] H f B' H') (k:Holds f B' σ' H') (l:∀S B σ,Α S B σ r v):θ P e mn x (c.finish v) rest H':=by
 obtain⟨i,d⟩:=k.close (h:=0) (λid r m=>U);simp only[List.take_zero] at i d;exact j.ret r [] _ [] H' v ⟨.refl _,rfl⟩ (g.trans d) ⟨λb o v hv=>d.YO _ _ _ (g.YO _ _ _ hv),λid r h=>by simp at h⟩ i (l _ _ _)
abbrev PZ (e:Int):Τ:=[.cells 38 1 [R e]]
section
variable {Q:Value->Prop} {mn:Bool} {x:W3} {c f:Frame} {rest:List Frame} {S XS:ο} {Sf:δ} {H H1:Ψ} {Of e:Int} {Em:Array Value} {t:Array Value} {env:Ζ} {err:Int}
theorem El (b:Seq x) (w:Oq prog Q mn x c rest S [] H [] (λa s=>Y3 a (R err)/\s=[]) (λ_ _=>False)) {d:Deferred} (hd:Og prog d 152 Em)
  (y:f.fn=122) (B:f.defers=[d]) (r:f.kind=.normal) (af:f.roundOf=none) (j:(f.mode=.returning/\Of=err)\/∃v,f.mode=.panicking [{v,recovered:=false}]/\Α XS Sf (PZ Of) (.Xu 38 (R err)) v)
  (C:Ext S [] H XS Sf H1) (n:Holds XS Sf (PZ Of) H1) (hv:XN XS Sf (PZ Of) [.Ν 0 1 0 0] Em) (D:YJ XS Sf (PZ Of) env f.tmps) (E:Z' env 6=.Ν 0 1 0 0):θ prog Q mn x f (c::rest) H1:=by
 have F:f.mode≠.run:=by rcases j with⟨h,_⟩|⟨v,h,_⟩<;>rw[h]<;>simp
 refine θ.deferred b F B hd.t1 hd.t2 hd.run ?_;rw[Sa func152 rfl];have t:∀(f':Frame) (e:ο) (g:δ) (i:Ψ),f'.mode=.returning->f'.defers=[]->f'.kind=.normal->f'.fn=f.fn->f'.tmps=f.tmps->Ext XS Sf H1 e g i->Zy XS e Sf g (PZ Of) (PZ err)->Holds e g (PZ err) i->θ prog Q mn x f' (c::rest) i:=λf' e g i I K L M N O P T=>by
  refine θ.back b I K (.inl L) (fn:=f122) (by rw[M,y];exact func122) ?_;rw[N];refine Ω.mono (λv ag ⟨ah,ai,U,aj,X,Y⟩=>?_) (λ_ _ h=>h) _ (JW Ρ (a:=R err) (show RB Z2 [.cell 6 38] env (PZ err)=some (R err) by simp[RB,Qa,Nr,E,Qb,Wj.agg]) T (D.later P));cases Y;exact w.fin (C.trans (O.trans U)) X λ_ _ _=>.z _
 refine V.here (m:=1) (nt:=10) (env:=entry 0 [.Ν 0 1 0 0]) ?_ (XE.enter n hv J J);refine V.XB b rfl ?_
 repeat apply Ο
 refine W.Zm ?_;refine W.stop ?_;intro Z aa ak t3 k u;rcases j with⟨j,rfl⟩|⟨v,j,ab⟩
 .refine θ.recovered b rfl rfl rfl rfl rfl (v:=.nilIface) (.inr ⟨?_,rfl,rfl⟩) ?_
  .simp[tryRecover,υ,Frame.enter,j]
  .refine V.here (m:=1) ?_ (u.put rfl (.z .nilIface));refine V.XB b rfl ?_;refine W.part (A:=[]) Ρ [1,2,3,4,5,6] [] rfl λad o=>?_;simp[Oz];(repeat (rw[Μ];simp[Oz]));apply o;refine W.ZH ?_;refine Χ ?_;refine Η rfl ?_;refine Χ ?_;refine W.stop ?_;intro e g i t4 l p;refine .Qm b rfl rfl ?_;refine θ.Ii b rfl rfl rfl func152 ?_;rw[results_none rfl];refine Ω.pure' ?_;simp only[j];exact t _ e g i rfl rfl r rfl rfl (k.ext.trans l.ext) ((k.trans l).all n J) p.holds
 .have ae:Α Z aa (PZ Of) (.Xu 38 (R err)) v:=ab.later (k.all n J);refine θ.recovered b rfl rfl rfl rfl rfl (v:=v) (cs':={f with defers:=[],mode:=.panicking [{v,recovered:=true}]}::c::rest) (.inl ?_) ?_
  .simp[tryRecover,υ,Frame.enter,j]
  .refine V.here (m:=1) ?_ (u.put rfl ae);refine V.XB b rfl ?_;refine W.part (A:=[]) Ρ [1,2,3,4,5,6] [] rfl λad o=>?_;simp[Oz];(repeat (rw[Μ];simp[Oz]));apply o;refine W.ZH ?_;refine Χ ?_;refine Ε rfl ?_;refine Χ ?_;refine W.stop ?_;intro e g i t4 l p;refine .Qm b rfl rfl ?_;refine θ.Ii b rfl rfl rfl func152 ?_;rw[results_none rfl];refine Ω.pure' ?_;exact t _ e g i rfl rfl r rfl rfl (k.ext.trans l.ext) ((k.trans l).all n J) p.holds
end
theorem x2 (s:Δ) (e:List Y9) (E:e.length<2 ^ 62) (p:Y9):Κ prog 122 [Zh s,U4 e,Zr p] (R (XX s e p)):=by
 refine⟨⟨_,func122,rfl,rfl⟩,λT mn x c rest S B H vs g r hv t=>?_⟩;have F:B=[]:=YR.1 (by have:=r.len;simpa using this);subst F;rw[Sa func122 rfl];refine V.here (m:=0) (nt:=12) (env:=entry 0 [Zh s,U4 e,Zr p]) ?_ (XE.enter r hv J J);refine V.XB g rfl ?_
 repeat apply Ο
 refine Y4 (A:=[6]) Ρ λu h=>Z1 ?_;apply h
 repeat apply Ο
 refine W.Zm ?_;refine W.part (A:=[]) Ρ [0] [1] rfl λu h=>?_;(try simp);(repeat (rw[Μ];simp));apply h;refine W.stop ?_;refine V.defer g rfl rfl rfl rfl rfl rfl rfl ⟨_,func152,rfl,rfl⟩ λU X Y t1 d Z w i y hd=>?_;refine V.here (m:=1) ?_ ⟨i.holds,i.Zn,i.size,J⟩;refine V.XB g rfl ?_;refine W.ZH ?_;refine ZU λu h=>?_;refine WO.mono (Ξ.call (first:=[]) (captured:=[]) ((x3 s e E p).mono (K':=λa f=>XX s e p=0/\χ 0 a/\f=[]) (E':=λa f=>(XX s e p≠0/\a=.Xu 38 (R (XX s e p)))/\χ 0 a/\f=[]) (λa f ⟨l,k,n⟩=>⟨l,by subst k;simp,n⟩) (λa f ⟨l,k,n⟩=>⟨⟨l,k⟩,by subst k;simp,n⟩) |>.frame J)) (λa f ⟨C,o⟩=>?_) (λa f ⟨⟨C,I⟩,o⟩=>?_)
 .subst o;(try simp);(repeat (rw[Μ];simp));apply h;refine Χ ?_;refine W.stop ?_;intro K L M t2 j D;refine θ.ret (b:={Frame.enter prog 122 vs .normal with defers:=[d]}) g rfl rfl ?_;exact El g t hd rfl rfl rfl rfl (.inl ⟨rfl,C.symm⟩) (w.ext.trans j.ext) D.holds (y.later (j.all i.holds J)) D.Zn rfl
 .subst o;subst I;intro K L M t2 aa v j N O P;have Q:=j.all i.holds J;refine El g t hd rfl rfl rfl rfl (.inr ⟨v,rfl,P⟩) (w.ext.trans j.ext) N (y.later Q) O ?_;rfl
end Go.TL
namespace Go.TL
open Go.Proofs.Tryz
open Go.Sort (SWO bitsLen insInner insOuter insertionSort_holds ltInt sorted_unique_holds swo_ltInt swp)
open Go.Proofs
variable [ZV]
theorem Ek:IntKind.i64.wrap 3=3:=Z3
def Td (l:List Int) (i:Nat):Int:=match l[i]? with
 | none=>0
 | some n=>if Vi n=false then 3 else if 0<i/\n<=(l[i-1]?).getD 0 then 5 else 0
def RA (l:List Int):Int:=Xl ((List.range l.length).map (Td l))
def Wu (a:List (List Int)):Int:=if a.length=0 then 7 else if 4<a.length then 6 else Xl ((List.range a.length).map λi=>RA ((a[i]?).getD []))
theorem x1 (s:Δ) (r:s.small):Κ prog 104 [Zh s] (R (Wu s.Β)):=by
 refine Ξ.body Ρ func104 rfl rfl ntmps104 rfl rfl J ?_;have E:=r.2.1;by_cases b:s.Β.length=0
 .refine Ι b ?_;refine Ε J ?_;refine Χ ?_;refine W.rt ?_;exact .of (by rw[show Wu s.Β=7 by simp[Wu,b]];rfl)
 by_cases g:(4:Int)<s.Β.length
 .refine Ι (Υ b g) ?_;refine Η (by simp[b]) ?_;refine Ι (Υ b g) ?_;refine Ε J ?_;refine Χ ?_;refine W.rt ?_;exact .of (by rw[show Wu s.Β=6 by simp[Wu,b];omega];rfl)
 have v:Wu s.Β=Xl ((List.range s.Β.length).map λi=>RA ((s.Β[i]?).getD [])):=by
  unfold Wu;rw[if_neg b,if_neg U]
 rw[v];refine Ι (Υ b g) ?_;refine Η (by simp[b]) ?_;refine Ι (Υ b g) ?_;refine Η J ?_;refine Χ ?_;refine W.iter (λi:Nat=>i<=s.Β.length/\∀j,j<i->RA ((s.Β[j]?).getD [])=0) (λi=>[(1,Z6 s),(18,ZT s.Β),(19,R s.Β.length),(20,R i)]) (λ_=>[]) (λi=>s.Β.length-i) 0 ⟨U,λj c=>U⟩ rfl J (λi hi w=>?_);refine Χ ?_;refine W.YM rfl (λa=>?_) (λa=>?_)
 .have a:i<s.Β.length:=by simpa using a
  have t:(s.Β[i]?).getD []=s.Β[i]:=by simp[a]
  have F:s.Β[i].length<2 ^ 30:=r.2.2.2.1 _ (Y7 a);refine Ι a ?_;refine W.iter (λn:Nat=>n<=s.Β[i].length/\∀j,j<n->Td s.Β[i] j=0) (λn=>[(1,Z6 s),(18,ZT s.Β),(19,R s.Β.length),(20,R i),(4,ν R 1 s.Β[i]),(24,ν R 1 s.Β[i]),(25,R s.Β[i].length),(26,R n)]) (λ_=>[]) (λn=>s.Β[i].length-n) 0 ⟨U,λj c=>U⟩ rfl J (λn l x=>?_);refine Χ ?_;refine W.YM rfl (λm=>?_) (λm=>?_)
  .have hd:n<s.Β[i].length:=by simpa using m
   have o:s.Β[i][n]?=some s.Β[i][n]:=ζ hd
   have u:∀e:Int,Td s.Β[i] n=e->e≠0->Xl ((List.range s.Β.length).map λi=>RA ((s.Β[i]?).getD []))=e:=λe y h=>
    QV (i:=i) a (by rw[t];exact QV hd y h l.2) h hi.2
   repeat apply Ο
   refine P3 hd ?_;refine ZU λH B=>?_;refine Κ.d (Se s.Β[i][n]) (Z1 ?_);apply B;cases p:Vi s.Β[i][n]
   .refine Ε J ?_;refine Χ ?_;refine W.rt ?_;exact .of (by rw[u 3 (by simp[Td,o,p]) Z3];rfl)
   refine Η J ?_
   repeat apply Ο
   refine W.Qc (A:=[]) Ρ [(35,ε (decide (0<n/\s.Β[i][n]<=(s.Β[i][n-1]?).getD 0))),(1,Z6 s),(18,ZT s.Β),(19,R s.Β.length),(20,R i),(4,ν R 1 s.Β[i]),(24,ν R 1 s.Β[i]),(25,R s.Β[i].length),(26,R n)] ?_ (by
    cases n with
    | zero=>simp[Μ,Si]
    | succ n=>
     have C:n<s.Β[i].length:=U
     have D:=X7 (show n<2 ^ 62 by omega)
     have h:(0:Int)<(n:Int)+1:=U;simp[Μ,Si,h,C,D])
   by_cases k:0<n/\s.Β[i][n]<=(s.Β[i][n-1]?).getD 0
   .refine Ε (by simp only[k];rfl) ?_;refine Χ ?_;refine W.rt ?_;exact .of (by rw[u 5 (by simp only[Td,o,p];rw[if_neg J,if_pos k]) Z3];rfl)
   .refine Η (by simp only[k];rfl) ?_;refine Χ ?_;refine W.forget _ ?_ (x (n+1) ⟨hd,λj c=>?_⟩ U)
    .simp[Yx hd (show s.Β[i].length<2 ^ 62 by omega)]
    .by_cases e:j=n
     .subst e;simp only[Td,o,p];rw[if_neg J,if_neg k]
     .exact l.2 j U
  .have hd:s.Β[i].length<=n:=by simpa using m
   refine W.exit rfl ?_;refine Χ ?_;refine W.forget _ ?_ (w (i+1) ⟨a,λj c=>?_⟩ U)
   .simp[Yx a (show s.Β.length<2 ^ 62 by omega)]
   .by_cases e:j=i
    .subst e;rw[t];exact QU λj c=>l.2 j U
    .exact hi.2 j U
 .have a:s.Β.length<=i:=by simpa using a
  refine W.exit rfl ?_;refine Χ ?_;refine W.rt ?_;exact .of (by rw[QU (f:=λi=>RA ((s.Β[i]?).getD [])) λj c=>hi.2 j U];rfl)
def VK (s:Δ) (c:List Y9):Int:=if 4<c.length then 6 else Xl ((List.range c.length).map λi=>match c[i]? with|none=>0|some p=>XX s (c.take i) p)
def TK (s:Δ):Int:=if 4<s.cells.length then 6 else Xl ((List.range s.cells.length).map λi=>VK s ((s.cells[i]?).getD []))
theorem x0 (s:Δ) (k:s.small):Κ prog 105 [Zh s] (R (TK s)):=by
 refine Ξ.body Ρ func105 rfl rfl ntmps105 rfl rfl J ?_;have D:=k.2.2.1;by_cases l:(4:Int)<s.cells.length
 .refine Ι l ?_;refine Ε J ?_;refine Χ ?_;refine W.rt ?_;exact .of (by rw[show TK s=6 by simp[TK];omega];rfl)
 have v:TK s=Xl ((List.range s.cells.length).map λi=>VK s ((s.cells[i]?).getD [])):=by
  unfold TK;rw[if_neg U]
 rw[v];refine Ι l ?_;refine Η J ?_;refine Χ ?_;refine W.iter (λi:Nat=>i<=s.cells.length/\∀j,j<i->VK s ((s.cells[j]?).getD [])=0) (λi=>[(1,Z6 s),(13,SK s.cells),(14,R s.cells.length),(15,R i)]) (λ_=>[]) (λi=>s.cells.length-i) 0 ⟨U,λj c=>U⟩ rfl J (λi hi w=>?_);refine Χ ?_;refine W.YM rfl (λa=>?_) (λa=>?_)
 .have a:i<s.cells.length:=by simpa using a
  have m:(s.cells[i]?).getD []=s.cells[i]:=by simp[a]
  have E:s.cells[i].length<2 ^ 30:=k.2.2.2.2 _ (Y7 a)
  have o:∀e:Int,VK s s.cells[i]=e->e≠0->Xl ((List.range s.cells.length).map λi=>VK s ((s.cells[i]?).getD []))=e:=λe x y=>
   QV (i:=i) a (by rw[m];exact x) y hi.2
  by_cases r:(4:Int)<s.cells[i].length
  .refine Ι (Υ a r) ?_;refine Ε J ?_;refine Χ ?_;refine W.rt ?_;exact .of (by rw[o 6 (by unfold VK;rw[if_pos U]) Z3];rfl)
  refine Ι (Υ a r) ?_;refine Η J ?_;refine Χ ?_;have t:VK s s.cells[i]=Xl ((List.range s.cells[i].length).map λn=>match s.cells[i][n]? with|none=>0|some p=>XX s (s.cells[i].take n) p):=by unfold VK;rw[if_neg U]
  refine W.iter (λn:Nat=>n<=s.cells[i].length/\∀j,j<n->(match s.cells[i][j]? with|none=>0|some p=>XX s (s.cells[i].take j) p)=0) (λn=>[(1,Z6 s),(13,SK s.cells),(14,R s.cells.length),(15,R i),(4,U4 s.cells[i]),(22,U4 s.cells[i]),(23,R s.cells[i].length),(24,R n)]) (λ_=>[]) (λn=>s.cells[i].length-n) 0 ⟨U,λj c=>U⟩ rfl J (λn d B=>?_);refine Χ ?_;refine W.YM rfl (λg=>?_) (λg=>?_)
  .have hd:n<s.cells[i].length:=by simpa using g
   have u:s.cells[i][n]?=some s.cells[i][n]:=ζ hd
   repeat apply Ο
   refine Y4 (A:=[6]) Ρ λC h=>XC hd ?_;apply h;refine W.fix (id:=0) (σ':=[]) (ω _) rfl J J rfl [(5,R n),(6,.π [R s.cells[i][n].Zd,R s.cells[i][n].seen,R s.cells[i][n].bare]),(1,Z6 s),(13,SK s.cells),(14,R s.cells.length),(15,R i),(4,U4 s.cells[i]),(22,U4 s.cells[i]),(23,R s.cells[i].length),(24,R n)] J ?_
   repeat apply Ο
   refine W.draw (A:=[]) Ρ mixed λC h=>?_;simp;(repeat (rw[ZL];simp[hd,RP hd]));try rw[ZM]
   (try simp only[<-Mz]);refine YD (Κ.q (x2 s (s.cells[i].take n) (by simp;omega) s.cells[i][n])) (U5 ?_);refine YG (h _ _ ?_)
   repeat apply Ο
   refine Χ ?_;by_cases b:XX s (s.cells[i].take n) s.cells[i][n]=0
   .refine Η (by simp[b]) ?_;refine Χ ?_;refine W.forget _ ?_ (B (n+1) ⟨hd,λj c=>?_⟩ U)
    .simp[Yx hd (show s.cells[i].length<2 ^ 62 by omega)]
    .by_cases e:j=n
     .subst e;rw[u];exact b
     .exact d.2 j U
   .refine Ε (by simp[b]) ?_;refine Χ ?_;refine W.rt ?_;exact .of (by rw[o (XX s (s.cells[i].take n) s.cells[i][n]) (by rw[t];exact QV hd (by rw[u]) b d.2) b];rfl)
  .have hd:s.cells[i].length<=n:=by simpa using g
   refine W.exit rfl ?_;refine Χ ?_;refine W.forget _ ?_ (w (i+1) ⟨a,λj c=>?_⟩ U)
   .simp[Yx a (show s.cells.length<2 ^ 62 by omega)]
   .by_cases e:j=i
    .subst e;rw[m,t];exact QU λj c=>d.2 j U
    .exact hi.2 j U
 .have a:s.cells.length<=i:=by simpa using a
  refine W.exit rfl ?_;refine Χ ?_;refine W.rt ?_;exact .of (by rw[QU (f:=λi=>VK s ((s.cells[i]?).getD [])) λj c=>hi.2 j U];rfl)
def Δ.err (s:Δ):Int:=if Wv s.ς≠0 then Wv s.ς else if Wu s.Β≠0 then Wu s.Β else TK s
theorem HD (s:Δ) (f:s.small):Κ prog 48 [Zh s] (R s.err):=by
 refine Ξ.body Ρ func48 rfl rfl ntmps48 rfl rfl J ?_;refine Χ ?_;refine .loop ?_;refine Χ ?_;refine Ε rfl ?_;refine Χ ?_;refine ZU λh a=>?_;refine Κ.d (x5 s f) (Z1 ?_);apply a;refine Χ ?_;by_cases b:Wv s.ς=0
 case neg=>
  refine Ε (by simp[b]) ?_;refine Χ ?_;refine W.rt ?_;exact .of (by rw[show s.err=Wv s.ς by unfold Δ.err;rw[if_pos b]];rfl)
 refine Η (by simp[b]) ?_;refine Ι @P2 ?_;refine .inLoop ?_;refine Χ ?_;refine Ε rfl ?_;refine Χ ?_;refine ZU λh a=>?_;refine Κ.d (x1 s f) (Z1 ?_);apply a;refine Χ ?_;by_cases c:Wu s.Β=0
 case neg=>
  refine Ε (by simp[c]) ?_;refine Χ ?_;refine W.rt ?_;exact .of (by rw[show s.err=Wu s.Β by unfold Δ.err;rw[if_neg (by simp[b]),if_pos c]];rfl)
 refine Η (by simp[c]) ?_;refine Ι @Om ?_;refine .inLoop ?_;refine Χ ?_;refine Ε rfl ?_;refine Χ ?_;refine ZU λh a=>?_;refine Κ.d (x0 s f) (Z1 ?_);apply a;refine Χ ?_;have e:s.err=TK s:=by unfold Δ.err;rw[if_neg (by simp[b]),if_neg (by simp[c])]
 rw[e];by_cases g:TK s=0
 case neg=>
  refine Ε (by simp[g]) ?_;refine Χ ?_;refine W.rt ?_;exact .of rfl
 refine Η (by simp[g]) ?_;refine Ι @Ek ?_;refine .inLoop ?_;refine Χ ?_;refine Η rfl ?_;refine W.exit rfl ?_;refine Χ ?_;refine W.rt ?_;exact .of (by rw[g];rfl)
section
variable {P:Program} {T:ZZ} {A:List Nat} {m nt:Nat} {k:List Item} {env:Ζ} {σ:Τ} {Z:X9} {E:Yn}
theorem W.Xk (a:ZE P T) (env':Ζ) (σ':Τ) {id:Nat} {ops:Array Oper} (h:W P m nt k env' σ' Z E) (b:run P T A nt ops (idx ops.size []) env σ (λe s=>s=σ'/\∀p∈env',Z' e p.1=p.2) E):W P m nt (.code (.region id ops false)::k) env σ Z E:=
 Y4 a λg c=>JY (λe s ⟨d,f⟩=>c e s (d▸W.forget env' f h)) _ _ _ b
end
def Xg (l:ξ):I:=if l.isEmpty then .sl true 0 [] else .ms 0 l.length 0 l.length
def ZR (t:TypeId) (k:Nat) (l:ξ):Τ:=if l.isEmpty then [] else [.cells t k l]
def Xf (k:Nat) (l:ξ):I:=if l.isEmpty then .sl true 0 [] else .sl false k l
theorem QT:Xg []=.sl true 0 []:=rfl
theorem U2 {t k:Nat}:ZR t k []=[]:=rfl
theorem PY {l:ξ} (h:l≠[]):Xg l=.ms 0 l.length 0 l.length:=by unfold Xg;rw[if_neg (by simpa using h)]
theorem Yq {t k:Nat} {l:ξ} (h:l≠[]):ZR t k l=[.cells t k l]:=by unfold ZR;rw[if_neg (by simpa using h)]
theorem Nj {l:ξ} {x:I}:Xg (l++[x])=.ms 0 (l.length+1) 0 (l.length+1):=by rw[PY J];simp
theorem PX {t k:Nat} {l:ξ} {x:I}:ZR t k (l++[x])=[.cells t k (l++[x])]:=Yq J
theorem Yr.acc {t k:Nat} {l:ξ} (b:∀e∈l,∀a∈e.cells,χ 0 a):Yr 0 (ZR t k l) (Xg l) (Xf k l):=by
 unfold ZR Xg Xf;cases h:l.isEmpty with
 | true=>exact .low J
 | false=>exact .own (ω _) rfl rfl b
theorem Y3.acc {k:Nat} {l:ξ}:Y3 (Xf k l) (.sl false k l):=by
 unfold Xf;cases h:l.isEmpty with
 | true=>rw[Qw.1 h];exact .nil
 | false=>exact .refl _
@[simp] theorem oJ {c:Type} {l:List c} {a b:c}:(l++[a]).set l.length b=l++[b]:=by rw[PF _ _ (Z5 _),PB];rfl
@[simp] theorem oI {t k:Nat} {l:ξ}:χ (ZR t k l).length (Xg l):=by
 unfold Xg ZR;cases l.isEmpty<;>simp[TS]
theorem χ.mono {h c:Nat} {a:I} (d:χ h a) (g:h<=c):χ c a:=by
 induction d with
 | z v=>exact .z v
 | Zs=>exact .Zs
 | π _ b=>exact .π b
 | sl _ b=>exact .sl b
 | Z7 _ b=>exact .Z7 b
 | ZX _ b=>exact .ZX b
 | fn _ _ e f=>exact .fn e f
 | Xu _ b=>exact .Xu b
 | Ν h=>exact .Ν U
 | ms h=>exact .ms U
 | mp h=>exact .mp U
 | it h=>exact .it U
theorem Ni {t k h:Nat} {l:ξ} (d:∀e∈l,∀a∈e.cells,χ 0 a):∀r∈ZR t k l,XZ h r:=by
 intro r b;unfold ZR at b;cases c:l.isEmpty with
 | true=>rw[c] at b;simp at b
 | false=>
  rw[c] at b;simp at b;subst b;exact λe f a g=>(d e f a g).mono (ω _)
section
variable {P:Program} {m nt:Nat} {k:List Item} {env:Ζ} {Z:X9} {E:Yn}
theorem W.UC {σ0:Τ} {t:TypeId} {e:I} {kk:Nat} (c:m<=σ0.length) (d:∀r∈σ0,XZ σ0.length r) (f:∀a∈e.cells,χ σ0.length a) (env':Ζ)
  (g:∀p∈env',(Z' env p.1=p.2/\χ σ0.length p.2)\/(Z' env p.1=.Ν σ0.length 1 0 0/\p.2=.π e.cells)) (h:W P m nt k env' σ0 Z E):W P m nt k env (σ0++[.cells t kk [e]]) Z E:=
 W.fix (t:=t) (kk:=kk) (e:=e) c J f (λid r i b=>d r (by
  rw[YL i] at b;exact Zp b)) J env' g h
theorem W.xZ {t kk:Nat} {l:ξ} {d:Nat} (f:∀e∈l,∀a∈e.cells,χ 0 a) (env':Ζ) (hd:Z' env d=Xg l) (c:∀p∈env',Z' env p.1=p.2/\χ 0 p.2) (g:W P 0 nt k ((d,Xf kk l)::env') [] Z E):W P 0 nt k env (ZR t kk l) Z E:=
 W.cut 0 (ω _) ((d,Xf kk l)::env') (ω _) (λid r h=>U) (λp b=>by
  rcases Zf.1 b with rfl|b
  .show Yr 0 _ (Z' env d) _;rw[hd];exact .acc f
  .rw[(c p b).1];exact .low (c p b).2) (by simpa using g)
end
abbrev Yi (l:List Int):I:=.sl true 1 (l.map R)
theorem Y3.xY {L:List (List Int)}:Y3 (Xf 1 (L.map Yi)) (ZT L):=.trans .acc (.map λx _=>.one .ex rfl rfl)
theorem Ej {L:List (List Int)}:∀e∈L.map Yi,∀a∈e.cells,χ 0 a:=by
 intro e c a b;obtain⟨x,_,rfl⟩:=Zc.1 c;simp[I.cells] at b;subst b;simp
theorem xX (n:Int):Κ prog 51 [R n] (.ZX [R (if valid n then JH n else 0),R (if valid n then 0 else 1)]):=by
 refine Ξ.body Ρ func51 rfl rfl ntmps51 rfl rfl J ?_;refine Χ ?_;refine ZU λc a=>?_;refine Κ.d (Nl n) (Z1 ?_);apply a;cases b:valid n
 .refine Ε rfl ?_;refine Χ ?_;refine W.rt ?_;exact .of rfl
 .refine Η rfl ?_;refine ZU λc a=>?_;refine Κ.d (yv n) (Z1 ?_);apply a;refine Χ ?_;refine W.rt ?_;exact .of rfl
def Pj {c:Type} [DecidableEq c]:c->List c->List c
 | _,[]=>[]
 | a,b::l=>if b=a then Pj a l else b::Pj b l
def V1 {b:Type} [DecidableEq b]:List b->List b
 | []=>[]
 | a::l=>a::Pj a l
theorem Ei {c:Type} [DecidableEq c] (l:List c) {p:Nat} (g:0<p) (h:p<l.length) (i:p-1<l.length):V1 (l.take (p+1))=V1 (l.take p)++if l[p]=l[p-1] then [] else [l[p]]:=by
 have gen:∀(l:List c) (a:c) (p:Nat) (h:p<l.length),Pj a (l.take (p+1))=Pj a (l.take p)++if l[p]=(a::l)[p]'(by simp;omega) then [] else [l[p]]:=by
  intro l
  induction l with
  | nil=>intro a p h;cases h
  | cons b l f=>
   intro a p h;cases p with
   | zero=>by_cases e:b=a<;>simp[Pj,e]
   | succ p=>
    have d:p<l.length:=by simpa using h
    by_cases e:b=a
    .subst e;have:=f b p d;simp only[List.take_succ_cons,Pj,if_true,List.getElem_cons_succ] at this ⊢;exact this
    .have:=f b p d;simp only[List.take_succ_cons,Pj,e,if_false,List.getElem_cons_succ,List.cons_append] at this ⊢;rw[this]
 cases l with
 | nil=>cases h
 | cons a l=>
  obtain⟨q,rfl⟩:∃q,p=q+1:=⟨p-1,U⟩;have d:q<l.length:=by simpa using h
  have:=gen l a q d;simp only[List.take_succ_cons,V1,List.getElem_cons_succ,Nat.add_sub_cancel] at this ⊢;rw[this];rfl
theorem JB {f:List Int} {L:ξ} (a:L=f.map R) {j:Nat} {x:Int} (h:f[j]?=some x):L[j]?=some (R x)/\∀h:j<L.length,L[j]=R x:=by
 have e:L[j]?=some (R x):=by rw[a,Yl,h];rfl
 exact⟨e,λb=>by rw[ζ b] at e;exact W4 e⟩
theorem xW (l:List Int) (n:Nat) (d:l.length=n) (aF:n<2 ^ 40):Ξ prog 133 [.ms 0 n 0 n] [.cells 3 1 (l.map R)]
  (λr s=>∃aa:List Int,(V1 l++aa).length=n/\r=.ms 0 n 0 (V1 l).length/\s=[.cells 3 1 ((V1 l++aa).map R)]) (λ_ _=>False):=by
 refine Ξ.body Ρ func133 rfl rfl ntmps133 rfl rfl J ?_;by_cases t:(n:Int)<2
 .refine Ι (Υ d t) ?_;refine Ε rfl ?_;refine Ι d ?_;refine W.ret ⟨_,rfl,[],?_⟩;have e:V1 l=l:=by
   match l,d with
   | [],_=>rfl
   | [a],_=>rfl
   | a::b::l,d=>simp at d;omega
  rw[e,Rg,d];exact⟨rfl,rfl,rfl⟩
 refine Ι (Υ d t) ?_;refine Η rfl ?_;refine Χ ?_;refine W.iter (λk:Nat=>1<=k/\k<=n/\V1 (l.take k)=l.take k) (λk=>[(0,.ms 0 n 0 n),(3,R k)]) (λ_=>[.cells 3 1 (l.map R)]) (λk=>n-k) 1 ⟨Z5 _,U,by
  match l,d with
  | [],d=>rfl
  | a::l,d=>rfl⟩ rfl J (λk aj ak=>?_)
 obtain⟨aG,c,H⟩:=aj;refine Ι d ?_;by_cases C:k<n
 .refine Ε (by simp[C]) ?_
  repeat apply Ο
  obtain⟨p,ab⟩:∃p,k=p+1:=⟨k-1,U⟩;have al:IntKind.i64.wrap ((k:Int)-1)=(p:Int):=by have:=X7 (show p<2 ^ 62 by omega);rw[ab];simpa using this
  have am:p<n:=U
  have N:k<l.length:=U
  have an:p<l.length:=U;obtain⟨L,h⟩:=ψ (l.map R);have I:L.length=n:=by rw[h];simpa using d
  obtain⟨O,P⟩:=JB h (ζ N);obtain⟨Q,S⟩:=JB h (ζ an);refine W.to (σ':=[.cells 3 1 L]) (env':=[(0,.ms 0 n 0 n),(3,R k)]) ?_ (by rw[h]) J;generalize T:l[k]=x at O P;generalize ao:l[p]=y at Q S;refine W0 (Υ C (Υ al (Υ I (Υ am (Υ O (Υ P (Υ Q S))))))) ?_;have ad:V1 (l.take (k+1))=V1 (l.take k)++if x=y then [] else [x]:=by
   rw[Ei l U N U];simp only[ab,Nat.add_sub_cancel] at T ⊢;rw[T,ao]
  by_cases K:x=y
  .refine Ε (by simp[K]) ?_
   repeat apply Ο
   refine W.Xk (A:=[]) Ρ [(0,.ms 0 n 0 n),(3,R k),(4,.ms 0 n k (n-k))] [.cells 3 1 L] ?_ (by
    (try simp);(repeat (rw[Μ];simp[I,RP C]));(try simp[I,RP C]))
   refine Χ ?_;have ae:V1 (l.take (k+1))=l.take k:=by rw[ad,if_pos K,Rg,H]
   refine W.iter (λq:Nat×Nat×List Int=>1<=q.2.1/\k+q.2.1<=n/\q.2.2.length=n/\q.1<k+q.2.1/\q.1=(V1 (l.take (k+q.2.1))).length/\q.2.2.take q.1=V1 (l.take (k+q.2.1))/\∀j,k+q.2.1-1<=j->j<n->q.2.2[j]?=l[j]?)
    (λq=>[(0,.ms 0 n 0 n),(3,R q.1),(4,.ms 0 n k (n-k)),(5,R q.2.1)]) (λq=>[.cells 3 1 (q.2.2.map R)]) (λq=>n-q.2.1) (k,1,l) ⟨Z5 _,by simp;omega,d,J,by simp only[ae];simp;omega,by simp only[ae],λj _ _=>rfl⟩ (by rw[h]) J (λq ap af=>?_)
   obtain⟨m,c,f⟩:=q;obtain⟨aq,ar,i,au,D,E,F⟩:=ap;simp only at aq ar i au D E F;clear h I O P Q S;refine Ι i ?_;by_cases hd:c<n-k
   .have aH:(c:Int)<((n-k:Nat):Int):=U
    refine Ε (by simp[hd]) ?_
    repeat apply Ο
    obtain⟨o,av⟩:∃r,c=r+1:=⟨c-1,U⟩;have aw:IntKind.i64.wrap ((c:Int)-1)=(o:Int):=by have:=X7 (show o<2 ^ 62 by omega);rw[av];simpa using this
    have ax:o<n-k:=U;obtain⟨ag,w⟩:=ψ (f.map R);have V:ag.length=n:=by rw[w];simpa using i
    have ah:f[k+c]?=some (l[k+c]'U):=by rw[F _ U U,ζ]
    have hv:f[k+o]?=some (l[k+o]'U):=by rw[F _ U U,ζ]
    have g:=Ei l (p:=k+c) U U U
    have ay:l[k+c-1]'U=l[k+o]'U:=by congr 1;omega
    rw[ay] at g;generalize l[k+c]'U=u at ah g;generalize l[k+o]'U=v at hv g;obtain⟨X,Y⟩:=JB w ah;obtain⟨az,aA⟩:=JB w hv;refine W.to (σ':=[.cells 3 1 ag]) (env':=[(0,.ms 0 n 0 n),(3,R m),(4,.ms 0 n k (n-k)),(5,R c)]) ?_ (by rw[w]) J;have B:m<n:=U;refine W.draw (A:=[]) Ρ mixed λaI aB=>?_;simp;(repeat (rw[ZL];simp[hd,aw,ax,V,X,Y,az,aA]));try rw[ZM];refine YG (aB _ _ ?_)
    by_cases M:u=v
    .refine Η (by simp[M]) ?_;refine Χ ?_;rw[if_pos M,Rg] at g;refine W.to (af (m,c+1,f) ⟨J,by simp;omega,i,by simp;omega,by simp only[<-Su,g];exact D,by simp only[<-Su,g];exact E,λj Z t=>F j (by simp at Z;omega) t⟩ (by simp;omega)) (by rw[w]) ?_;have:=X7 (show c+1<2 ^ 62 by omega);simpa using this
    .refine Ε (by simp[M]) ?_;rw[if_neg M] at g
     repeat apply Ο
     refine W.Xk (A:=[]) Ρ [(0,.ms 0 n 0 n),(3,R m),(4,.ms 0 n k (n-k)),(5,R c)] [.cells 3 1 ((f.set m u).map R)] ?_ (by
      (try simp);(repeat (rw[Μ];simp[hd,V,B,X,Y]));(try simp[hd,V,B,X,Y]);subst w;simp)
     refine Χ ?_;refine W.to (af (m+1,c+1,f.set m u) ⟨J,by simp;omega,by simpa using i,by simp;omega,by simp only[<-Su,g];simp;exact D,?_,λj Z t=>?_⟩ (by simp;omega)) J ?_
     .simp only[<-Su,g];rw[<-E,Wp (by simp;omega),List.take_set_of_le (Z5 _)];simp
     .simp at Z;rw[Vq U];exact F j U t
     .have ai:=X7 (show c+1<2 ^ 62 by omega)
      have Φ:=X7 (show m+1<2 ^ 62 by omega);simp at ai Φ ⊢;exact⟨Φ,ai⟩
   .refine Η (by simp[hd]) ?_;refine W.exit rfl ?_;have aC:k+c=n:=U;have aD:l.take n=l:=US U;rw[aC,aD] at D E
    repeat apply Ο
    have B:m<=n:=U;refine W.Xk (A:=[]) Ρ [(0,.ms 0 n 0 n),(3,R m)] [.cells 3 1 ((V1 l++List.replicate (n-m) 0).map R)] ?_ (by
     (try simp);(repeat (rw[Μ];simp[i,B]));(try simp[i,B]);rw[<-Mz,E,NX (by simp;omega),Rg])
    have aE:(V1 l).length+(n-m)=n:=U;refine Ι (Υ aE B) ?_;refine W.ret ⟨_,rfl,List.replicate (n-m) 0,by simp;omega,?_,J⟩;rw[<-D];rfl
  .refine Η (by simp[K]) ?_;refine Χ ?_;refine W.to (ak (k+1) ⟨U,U,?_⟩ U) (by rw[h]) ?_
   .rw[ad,if_neg K,H,<-T,<-Wp N]
   .have:=X7 (show k+1<2 ^ 62 by omega);simpa using this
 .refine Η (by simp[C]) ?_;refine W.exit rfl ?_;refine Χ ?_;refine W.ret ⟨_,rfl,[],?_⟩;have e:V1 l=l:=by rw[US U] at H;exact H
  rw[e,Rg,d];exact⟨rfl,rfl,rfl⟩
def PW:Δ:=⟨[],[],[]⟩
theorem HC {e f g:Bool} {a b c:Nat}:Y3 (.Z7 [.sl e a [],.sl f b [],.sl g c []]) (Zh PW):=.Z7 (.cons .nil (.cons .nil (.cons .nil .nil)))
abbrev Eh (r:Δ×List Found×Int):I:=.ZX [Zh r.1,Y2 r.2.1,R r.2.2]
def X5 (s:Δ) (a:Bool) (F:List Found):Δ×List Found×Int:=
 if s.err≠0 then(PW,[],s.err) else if a=true/\F=[] then(s,[],9) else(s,F,0)
def U1 (s:Δ) (a:Int) (F:List Found):Δ×List Found×Int:=
 if s.err≠0 then(PW,[],s.err) else if a<0\/(s.cells.length:Int)<=a then(PW,[],3) else X5 s true F
def Rz (s:Δ) (F:List Found):Prop:=s.err=0->Κ prog 116 [Zh s] (Y2 F)
theorem JA (s:Δ) (g:s.small) (c:Bool) (F:List Found) (h:Rz s F):Κ prog 75 [Zh s,ε c] (Eh (X5 s c F)):=by
 refine Ξ.body Ρ func75 rfl rfl ntmps75 rfl rfl J ?_
 repeat apply Ο
 refine Y4 (A:=[4]) Ρ λf a=>Z1 ?_;apply a;refine ZU λf a=>?_;refine Κ.d (HD s g) (Z1 ?_);apply a;refine Χ ?_;by_cases b:s.err=0
 case neg=>
  have e:X5 s c F=(PW,[],s.err):=by unfold X5;rw[if_pos b]
  rw[e];refine Ε (by simp[b]) ?_;refine Χ ?_;refine W.fix (id:=0) (σ':=[]) (ω _) rfl J J rfl [(4,.π [.sl true 0 [],.sl true 0 [],.sl true 0 []]),(5,.sl true 0 []),(6,R s.err)] J ?_;refine W.rt ?_;exact .ZX (.cons HC (.cons .nil (.cons (.refl _) .nil)))
 refine Η (by simp[b]) ?_
 repeat apply Ο
 refine Y4 (A:=[8]) Ρ λf a=>Z1 ?_;apply a;refine ZU λf a=>?_;refine Κ.d (h b) (Z1 ?_);apply a
 repeat apply Ο
 cases c
 case false=>
  have e:X5 s false F=(s,F,0):=by unfold X5;rw[if_neg (by simpa using b),if_neg J]
  rw[e];refine Χ ?_;refine Η rfl ?_;refine Χ ?_;refine W.fix (id:=0) (σ':=[]) (ω _) rfl J J rfl [(4,Z6 s),(5,Y2 F),(6,R 0)] J ?_;refine W.rt ?_;exact .refl _
 case true=>
  refine Χ ?_;by_cases z:F=[]
  .have e:X5 s true F=(s,[],9):=by unfold X5;rw[if_neg (by simpa using b),if_pos ⟨rfl,z⟩]
   rw[e];refine Ε (by simp[z]) ?_;refine Χ ?_;refine W.fix (id:=0) (σ':=[]) (ω _) rfl J J rfl [(4,Z6 s),(5,.sl true 0 []),(6,R 9)] J ?_;refine W.rt ?_;exact .ZX (.cons (.refl _) (.cons .nil (.cons (.refl _) .nil)))
  .have e:X5 s true F=(s,F,0):=by unfold X5;rw[if_neg (by simpa using b),if_neg (by simp[z])]
   rw[e];refine Η (by simp[z]) ?_;refine Χ ?_;refine W.fix (id:=0) (σ':=[]) (ω _) rfl J J rfl [(4,Z6 s),(5,Y2 F),(6,R 0)] J ?_;refine W.rt ?_;exact .refl _
theorem Eg (s:Δ) (g:s.small) (a:Int) (F:List Found) (j:Rz s F):Κ prog 82 [Zh s,R a] (Eh (U1 s a F)):=by
 refine Ξ.body Ρ func82 rfl rfl ntmps82 rfl rfl J ?_
 repeat apply Ο
 refine Y4 (A:=[4]) Ρ λh b=>Z1 ?_;apply b;refine ZU λh b=>?_;refine Κ.d (HD s g) (Z1 ?_);apply b;refine Χ ?_;by_cases c:s.err=0
 case neg=>
  have e:U1 s a F=(PW,[],s.err):=by unfold U1;rw[if_pos c]
  rw[e];refine Ε (by simp[c]) ?_;refine Χ ?_;refine W.fix (id:=0) (σ':=[]) (ω _) rfl J J rfl [(4,.π [.sl true 0 [],.sl true 0 [],.sl true 0 []]),(5,.sl true 0 []),(6,R s.err)] J ?_;refine W.rt ?_;exact .ZX (.cons HC (.cons .nil (.cons (.refl _) .nil)))
 refine Η (by simp[c]) ?_;have i:U1 s a F=if a<0\/(s.cells.length:Int)<=a then(PW,[],3) else X5 s true F:=by unfold U1;rw[if_neg (by simpa using c)]
 repeat apply Ο
 refine W.Qc (A:=[]) Ρ [(22,ε (decide (a<0)||decide ((s.cells.length:Int)<=a))),(2,Z6 s),(4,.Ν 0 1 0 0),(1,R a)] ?_ (by
  by_cases q:a<0
  ·(try simp);(repeat (rw[Μ];simp[q]));(try simp[q])
  ·(try simp);(repeat (rw[Μ];simp[q]));(try simp[q]))
 by_cases f:a<0\/(s.cells.length:Int)<=a
 .rw[i,if_pos f];refine Ε (by simpa using f) ?_;refine Χ ?_;refine W.fix (id:=0) (σ':=[]) (ω _) rfl J J rfl [(4,.π [.sl true 0 [],.sl true 0 [],.sl true 0 []]),(5,.sl true 0 []),(6,R 3)] J ?_;refine W.rt ?_;exact .ZX (.cons HC (.cons .nil (.cons (.refl _) .nil)))
 .rw[i,if_neg f];refine Η (by simpa using f) ?_;refine ZU λh b=>?_;refine Κ.d (JA s g true F j) (Z1 ?_);apply b;refine Χ ?_;generalize X5 s true F=r;refine W.fix (id:=0) (σ':=[]) (ω _) rfl J J rfl [(4,.π [ZI r.1.ς,ZT r.1.Β,SK r.1.cells]),(5,Y2 r.2.1),(6,R r.2.2)] J ?_;refine W.rt ?_;exact .refl _
def UB (F:List Found):List (List Int):=F.map λf=>[f.u,f.v]
theorem Ef {a b:Type} (f:a->b) (l:List a) {i:Nat} (h:i<l.length):(l.take (i+1)).map f=(l.take i).map f++[f l[i]]:=by
 rw[Wp h,XR];rfl
theorem xV (s:Δ) (r:s.small) (F:List Found) (w:Rz s F) (x:F.length<2 ^ 20):Κ prog 42 [Zh s] (.ZX [ZT (if s.err=0 then UB F else []),R s.err]):=by
 refine Ξ.body Ρ func42 rfl rfl ntmps42 rfl rfl J ?_;refine Χ ?_;refine Y5 ?_;refine Y4 (A:=[4]) Ρ λy j=>Z1 ?_;refine Κ.d (JA s r false F w) (Z1 ?_);apply j;have e:X5 s false F=if s.err=0 then(s,F,0) else(PW,[],s.err):=by
  unfold X5;by_cases b:s.err=0
  .rw[if_neg (by simpa using b),if_neg J,if_pos b]
  .rw[if_pos b,if_neg b]
 have n:(X5 s false F).2.1=if s.err=0 then F else []:=by rw[e];split<;>rfl
 have Φ:(X5 s false F).2.2=s.err:=by rw[e];split<;>simp[*]
 obtain⟨G,g⟩:∃G,G=if s.err=0 then F else []:=⟨_,rfl⟩
 have E:G.length<2 ^ 20:=by rw[g];split;exact x;simp
 have o:(if s.err=0 then UB F else [])=UB G:=by rw[g];split<;>rfl
 rw[n,Φ,o,<-g];clear g o e n Φ;generalize s.err=c;refine W.drop (h:=0) (σ':=[]) (ω _) (ω _) J rfl [(5,Y2 G),(6,R c)] J ?_;refine Χ ?_;have H:∀i,(UB G).take i=UB (G.take i):=λi=>by simp[UB]
 refine W.iter (λi:Nat=>i<=G.length) (λi=>[(6,R c),(7,Xg ((UB (G.take i)).map Yi)),(16,Y2 G),(17,R G.length),(18,R i)])
  (λi=>ZR 29 1 ((UB (G.take i)).map Yi)) (λi=>G.length-i) 0 (ω _) rfl (by simp[QT,UB]) (λi hi B=>?_)
 refine Χ ?_;refine W.YM rfl (λa=>?_) (λa=>?_)
 .have a:i<G.length:=by simpa using a
  have l:(UB (G.take (i+1))).map Yi=(UB (G.take i)).map Yi++[Yi [G[i].u,G[i].v]]:=by
   unfold UB;rw[Qt,Qt,Ef _ _ a];rfl
  have p:=λh=>Ni (t:=29) (k:=1) (h:=h) (Ej (L:=UB (G.take i)))
  have C:((UB (G.take i)).map Yi).length<=i:=by simp[UB];omega
  obtain⟨L,m⟩:=ψ ((UB (G.take i)).map Yi);rw[<-m] at p C l;refine W.to (σ':=ZR 29 1 L) (env':=[(6,R c),(7,Xg L),(16,Y2 G),(17,R G.length),(18,R i)]) ?_ (by rw[m]) (by rw[m];simp)
  repeat apply Ο
  refine Y4 (A:=[9]) Ρ λy j=>XC a ?_;apply j;refine W.UC (ω _) (p _) J [(9,.π [R G[i].u,R G[i].v,TM G[i].cells]),(6,R c),(7,Xg L),(16,Y2 G),(17,R G.length),(18,R i)] J ?_
  repeat apply Ο
  refine W.Xk (A:=[26]) Ρ [(6,R c),(7,Xg (L++[Yi [G[i].u,G[i].v]])),(16,Y2 G),(17,R G.length),(18,R i)] (ZR 29 1 (L++[Yi [G[i].u,G[i].v]])) ?_ (by
   by_cases f:L=[]
   .subst f;(try simp);(repeat (rw[Μ];simp[QT,U2]));(try simp[QT,U2]);exact⟨rfl,rfl⟩
   .have D:L.length<=4294967295:=U
    (try simp);(repeat (rw[Μ];simp[PY f,Yq f,Nj,PX]));(try simp[PY f,Yq f,Nj,PX]);exact D)
  refine Χ ?_;refine W.to (B (i+1) a U) ?_ ?_
  .rw[l]
  .rw[l];simp[Yx a (show G.length<2 ^ 62 by omega)]
 .have a:i=G.length:=by simp at a;omega
  subst a;refine W.exit rfl ?_;refine Χ ?_;refine W.xZ (d:=2) Ej [(3,R c)] J J ?_;refine W.rt ?_;exact .ZX (.cons .xY (.cons (.refl _) .nil))
abbrev R' (l:List Int):List Int:=l.mergeSort (λx y=>decide (x<=y))
def HB (N:Nat):Prop:=∀(l:List Int),l.length<=N->Ξ prog 132 [.ms 0 l.length 0 l.length] [.cells 3 1 (l.map R)] (λr s=>r=.ZX []/\s=[.cells 3 1 ((R' l).map R)]) (λ_ _=>False)
def W6 (lower:Bool) (r:Int×Int):Int:=if lower then r.2 else r.1
def SG (lower:Bool) (A:List Int) (C:List (Int×Int)) (j:Nat):List Int:=A++(C.take j).map (W6 lower)
theorem Ee {lower:Bool} {A:List Int} {C:List (Int×Int)}:SG lower A C 0=A:=by simp[SG]
theorem xU {lower:Bool} {A:List Int} {C:List (Int×Int)} {j:Nat} (h:j<C.length):SG lower A C (j+1)=SG lower A C j++[W6 lower C[j]]:=by
 unfold SG;rw[Ef _ _ h,Ur]
theorem Ed {lower:Bool} {A:List Int} {C:List (Int×Int)} {j:Nat} (h:C.length<=j):SG lower A C j=A++C.map (W6 lower):=by
 unfold SG;rw[US h]
theorem xT {lower:Bool} {A:List Int} {C:List (Int×Int)} {j:Nat}:(SG lower A C j).length<=A.length+j:=by
 unfold SG;simp;omega
def Ec (f:Found) (a:Nat) (lower:Bool):List Int:=((f.cells[a]?).getD []).map (W6 lower)
def U0 (F:List Found) (a:Nat) (lower:Bool):List Int:=F.flatMap λf=>Ec f a lower
def Ry (F:List Found) (a:Nat) (lower:Bool):List Int:=V1 (R' (U0 F a lower))
theorem HA {l:List Int}:∀e∈l.map R,∀a∈e.cells,χ 0 a:=by
 intro e c a b;obtain⟨x,_,rfl⟩:=Zc.1 c;simp[I.cells] at b;subst b;simp
theorem xS (F:List Found) (b:Nat) (lower:Bool) (am:F.length<2 ^ 20) (Y:∀f∈F,b<f.cells.length/\∀c∈f.cells,c.length<2 ^ 20) (N:Nat) (an:N<2 ^ 20) (Z:HB N) (Q:U0 F b lower≠[]) (B:(U0 F b lower).length<=N) :
  Κ prog 95 [Y2 F,R b,ε lower] (ν R 1 (Ry F b lower)):=by
 refine Ξ.body Ρ func95 rfl rfl ntmps95 rfl rfl J ?_;refine Χ ?_;refine W.iter (λi:Nat=>i<=F.length) (λi=>[(1,R b),(2,ε lower),(7,Xg ((U0 (F.take i) b lower).map R)),(12,Y2 F),(13,R F.length),(14,R i)])
  (λi=>ZR 3 1 ((U0 (F.take i) b lower).map R)) (λi=>F.length-i) 0 (ω _) rfl (by simp[U0,QT]) (λi hi aa=>?_)
 refine Χ ?_;have ab:∀i,(U0 (F.take i) b lower).length<=N:=λi=>by
  have e:U0 F b lower=U0 (F.take i) b lower++U0 (F.drop i) b lower:=by
   conv=>lhs;rw[<-NW i F]
   simp only[U0,La]
  rw[e,VU] at B;omega
 refine W.YM rfl (λD=>?_) (λD=>?_)
 .have h:i<F.length:=by simpa using D
  obtain⟨E,ad⟩:=Y _ (Y7 h);have ae:F[i].cells[b].length<2 ^ 20:=ad _ (Y7 E);obtain⟨A,H⟩:=ψ (U0 (F.take i) b lower);have x:U0 (F.take (i+1)) b lower=A++F[i].cells[b].map (W6 lower):=by
   rw[H];unfold U0;rw[Wp h,La];simp[Ec,E]
  have S:(A++F[i].cells[b].map (W6 lower)).length<=N:=by rw[<-x];exact ab _
  rw[VU,Yh] at S;refine W.to (σ':=ZR 3 1 (A.map R)) (env':=[(1,R b),(2,ε lower),(7,Xg (A.map R)),(12,Y2 F),(13,R F.length),(14,R i)]) ?_ (by rw[H]) (by rw[H];simp)
  repeat apply Ο
  refine Y4 (A:=[9]) Ρ λI n=>XC h ?_;apply n;refine W.UC (ω _) (Ni HA) J [(9,.π [R F[i].u,R F[i].v,TM F[i].cells]),(1,R b),(2,ε lower),(7,Xg (A.map R)),(12,Y2 F),(13,R F.length),(14,R i)] J ?_;refine Ι E ?_;generalize ao:F[i].cells[b]=C at ae x S;refine W.iter (λj:Nat=>j<=C.length) (λj=>[(1,R b),(2,ε lower),(7,Xg ((SG lower A C j).map R)),(12,Y2 F),(13,R F.length),(14,R i),(22,TN C),(23,R C.length),(24,R j)])
   (λj=>ZR 3 1 ((SG lower A C j).map R)) (λj=>C.length-j) 0 (ω _) (by rw[Ee]) (by simp[Ee]) (λj ap af=>?_)
  refine Χ ?_;refine W.YM rfl (λK=>?_) (λK=>?_)
  .have o:j<C.length:=by simpa using K
   obtain⟨L,y⟩:=ψ (SG lower A C j);have aq:L.length<=A.length+j:=by rw[y];exact xT
   have M:SG lower A C (j+1)=L++[W6 lower C[j]]:=by rw[y];exact xU o
   refine W.to (σ':=ZR 3 1 (L.map R)) (env':=[(1,R b),(2,ε lower),(7,Xg (L.map R)),(12,Y2 F),(13,R F.length),(14,R i),(22,TN C),(23,R C.length),(24,R j)]) ?_ (by rw[y]) (by rw[y];simp)
   repeat apply Ο
   refine Y4 (A:=[11]) Ρ λI n=>XC o ?_;apply n;refine W.UC (ω _) (Ni HA) J [(11,.π [R C[j].1,R C[j].2]),(1,R b),(2,ε lower),(7,Xg (L.map R)),(12,Y2 F),(13,R F.length),(14,R i),(22,TN C),(23,R C.length),(24,R j)] J ?_
   repeat apply Ο
   generalize C[j]=r at M;refine W.Xk (A:=[34]) Ρ [(1,R b),(2,ε lower),(7,Xg ((L++[W6 lower r]).map R)),(12,Y2 F),(13,R F.length),(14,R i),(22,TN C),(23,R C.length),(24,R j)] (ZR 3 1 ((L++[W6 lower r]).map R)) ?_ (by
    have ag:L.length<=4294967295:=U;rw[XR];cases lower
    all_goals
     by_cases O:L.map R=[]
     .rw[O,QT,U2];(try simp);(repeat (rw[Μ];simp));(try simp);refine Κ.d (HH _) (Z1 ?_);simp[ZR,Xg,W6]
     .rw[PY O,Yq O];(try simp);(repeat (rw[Μ];simp));(try simp);refine Κ.d (HH _) (Z1 ?_);simp[PX,Nj,W6,ag])
   refine Χ ?_;refine W.to (af (j+1) o U) ?_ ?_
   .rw[M,XR];rfl
   .rw[M];simp[Yx o (show C.length<2 ^ 62 by omega)]
  .have o:C.length<=j:=by simpa using K
   refine W.exit rfl ?_;refine Χ ?_;refine W.to (aa (i+1) h U) ?_ ?_
   .rw[x,Ed o]
   .rw[x,Ed o];simp[Yx h (show F.length<2 ^ 62 by omega)]
 .have h:i=F.length:=by simp at D;omega
  refine W.exit rfl ?_;rw[h,RR];obtain⟨g,T⟩:=ψ (U0 F b lower);rw[<-T] at Q B ⊢;have V:g.map R≠[]:=by simpa using Q
  have ah:Ry F b lower=V1 (R' g):=by rw[T];rfl
  have ai:(R' g).length=g.length:=by simp[R']
  refine W.to (σ':=[.cells 3 1 (g.map R)]) (env':=[(7,.ms 0 g.length 0 g.length)]) ?_ (Yq V) (by simp[PY V]);refine ZU λI n=>?_;refine Ξ.one (Z g B) 0 rfl (Oi Pk) (Oi Pk) (by simp[SJ]) (by simp[Xm]) (by simp[SI]) ?_;simp[Ym,Wg];(repeat (rw[Μ];simp));apply n;refine ZU λI n=>?_;have aj:=xW (R' g) g.length ai U;refine Ξ.HF aj 0 rfl (Oi Pk) (by simp[SJ]) (by simp[SI]) (λa s ⟨P,ak,X,al⟩=>⟨_,al,Oi Pk,by subst X;simp[SJ],?_⟩);subst X;simp[SI];(repeat (rw[Μ];simp));apply n;refine W.cut 0 (ω _) [(6,ν R 1 (V1 (R' g)))] J J ?_ ?_
  .intro p w;simp at w;subst w;have w:=Yr.part (σ:=[.cells 3 1 ((V1 (R' g)).map R++P.map R)]) (id:=0) (t:=3) (k:=1) (l:=(V1 (R' g)).map R) (l2:=P.map R) (m:=(V1 (R' g)).length) rfl J HA;have e:((V1 (R' g)).map R++P.map R).length=g.length:=by rw[<-XR,Yh];exact ak
   rw[e] at w;exact w
  .rw[ah];refine W.rt ?_;exact .refl _
abbrev Vh (n:Int):I:=.z (.int .i32 n)
theorem xR (l:List Int):Qf (l.map Vh)=some l:=by
 induction l with
 | nil=>rfl
 | cons a l b=>simp[Qf,b]
def Ph (s:Δ) (F:List Found) (lower:Bool) (a:ByteArray->Int) (c:Nat):Int:=
 let l:=Ry F c lower
 if 1<l.length then 63 else if l.headD 0<0 then 45 else match s.ς[(l.headD 0).toNat]? with|some g=>a g.name|none=>0
def R9 (s:Δ) (F:List Found) (lower:Bool) (a:ByteArray->Int) (c:Nat):List Int:=(List.range c).map (Ph s F lower a)
def Pg (s:Δ) (F:List Found) (lower:Bool) (a:ByteArray->Int):ByteArray×Int:=
 if(X5 s true F).2.2=0 then(spell (R9 s F lower a s.cells.length),0) else(⟨#[]⟩,(X5 s true F).2.2)
structure Eb (s:Δ) (F:List Found) (lower:Bool) (a:ByteArray->Int) (N:Nat):Prop where
 PV:F.length<2 ^ 20
 cells:∀f∈F,f.cells.length=s.cells.length/\∀c∈f.cells,c.length<2 ^ 20
 some:∀c,c<s.cells.length->U0 F c lower≠[]/\(U0 F c lower).length<=N/\Ry F c lower≠[]/\(Ry F c lower).length<2 ^ 30/\∀x∈Ry F c lower,x<s.ς.length
 name:∀g∈s.ς,(Conv.runesFrom g.name g.name.size 0 #[])[0]?=Option.some (.int .i32 (a g.name))
theorem xQ (s:Δ) (M:s.small) (F:List Found) (T:Rz s F) (lower:Bool) (i:ByteArray->Int) (N:Nat) (V:N<2 ^ 20) (X:HB N) (o:(X5 s true F).2.2=0->Eb s F lower i N) :
  Κ prog 40 [Zh s,ε lower] (.ZX [TO (Pg s F lower i).1,R (Pg s F lower i).2]):=by
 refine Ξ.body Ρ func40 rfl rfl ntmps40 rfl rfl J ?_;refine Χ ?_;refine Y5 ?_;refine Y4 (A:=[6]) Ρ λw p=>Z1 ?_;refine Κ.d (JA s M true F T) (Z1 ?_);apply p;by_cases b:(X5 s true F).2.2=0
 case neg=>
  have e:Pg s F lower i=(⟨#[]⟩,(X5 s true F).2.2):=by unfold Pg;rw[if_neg b]
  rw[e];generalize (X5 s true F).2.2=Y at b;refine Χ ?_;refine Ε (by simp[b]) ?_;refine Χ ?_;refine W.drop (h:=0) (σ':=[]) (ω _) (ω _) J rfl [(4,TO ⟨#[]⟩),(5,R Y)] J ?_;refine W.rt ?_;exact .refl _
 have o:=o b
 have e:X5 s true F=(s,F,0):=by
  unfold X5 at b ⊢;split at b
  .rename_i h;simp at b;exact absurd b h
  .split at b
   .simp at b
   .rename_i B C;rw[if_neg B,if_neg C]
 have Φ:Pg s F lower i=(spell (R9 s F lower i s.cells.length),0):=by unfold Pg;rw[if_pos b]
 rw[Φ,e];refine W.fix (id:=0) (σ':=[]) (ω _) rfl J J rfl [(1,ε lower),(6,Z6 s),(7,Y2 F),(8,R 0)] J ?_;refine Χ ?_;refine Η rfl ?_;refine Χ ?_;have ae:s.cells.length<2 ^ 30:=M.2.2.1;refine W.iter (λc:Nat=>c<=s.cells.length) (λc=>[(1,ε lower),(6,Z6 s),(7,Y2 F),(9,Xg ((R9 s F lower i c).map Vh)),(25,R s.cells.length),(26,R c)])
  (λc=>ZR 21 1 ((R9 s F lower i c).map Vh)) (λc=>s.cells.length-c) 0 (ω _) rfl (by simp[R9,QT]) (λc af D=>?_)
 refine Χ ?_;refine W.YM rfl (λu=>?_) (λu=>?_)
 .have m:c<s.cells.length:=by simpa using u
  obtain⟨B,C,O,Z,P⟩:=o.some c m;obtain⟨a,r⟩:=ψ (R9 s F lower i c);have ag:a.length=c:=by rw[r];simp[R9]
  have t:R9 s F lower i (c+1)=a++[Ph s F lower i c]:=by rw[r];unfold R9;rw[Vp,XR];rfl
  refine W.to (σ':=ZR 21 1 (a.map Vh)) (env':=[(1,ε lower),(6,Z6 s),(7,Y2 F),(9,Xg (a.map Vh)),(25,R s.cells.length),(26,R c)]) ?_ (by rw[r]) (by rw[r];simp);refine Χ ?_;refine ZU λw p=>?_;refine Κ.d (xS F c lower o.PV (λf Q=>⟨by rw[(o.cells f Q).1];exact m,(o.cells f Q).2⟩) N V X B C) (Z1 ?_);apply p;have E:a.length<=4294967295:=U;obtain⟨l,H⟩:=ψ (Ry F c lower);have I:Ph s F lower i c=if 1<l.length then 63 else if l.headD 0<0 then 45 else match s.ς[(l.headD 0).toNat]? with|some g=>i g.name|none=>0:=by rw[H];rfl
  rw[<-H] at O Z P ⊢;clear H r;refine Χ ?_;by_cases q:1<l.length
  .have n:Ph s F lower i c=63:=by rw[I,if_pos q]
   refine Ε (by simp;omega) ?_
   repeat apply Ο
   refine W.Xk (A:=[57]) Ρ [(1,ε lower),(6,Z6 s),(7,Y2 F),(9,Xg ((a++[63]).map Vh)),(25,R s.cells.length),(26,R c)] (ZR 21 1 ((a++[63]).map Vh)) ?_ (by
    rw[XR];by_cases j:a.map Vh=[]
    .rw[j,QT,U2];(try simp);(repeat (rw[Μ];simp));(try simp);simp[ZR,Xg]
    .rw[PY j,Yq j];(try simp);(repeat (rw[Μ];simp));(try simp);simp[PX,Nj,E])
   refine Χ ?_;refine W.to (D (c+1) m U) ?_ ?_
   .simp only[t,n,XR,X3,T1]
   .rw[t,n];simp[Yx m (show s.cells.length<2 ^ 62 by omega)]
  .obtain⟨x,aa⟩:∃x,l=[x]:=by
    match l,O,q with
    | [x],_,_=>exact⟨x,rfl⟩
    | x::y::z,_,q=>simp at q
   subst aa;refine Η J ?_;refine Χ ?_;by_cases g:x<0
   .have n:Ph s F lower i c=45:=by rw[I];simp[g]
    refine Ε (by simp[g]) ?_;refine Χ ?_;refine W.Xk (A:=[57]) Ρ [(1,ε lower),(6,Z6 s),(7,Y2 F),(9,Xg ((a++[45]).map Vh)),(25,R s.cells.length),(26,R c)] (ZR 21 1 ((a++[45]).map Vh)) ?_ (by
     rw[XR];by_cases j:a.map Vh=[]
     .rw[j,QT,U2];(try simp);(repeat (rw[Μ];simp));(try simp);simp[ZR,Xg]
     .rw[PY j,Yq j];(try simp);(repeat (rw[Μ];simp));(try simp);simp[PX,Nj,E])
    refine Χ ?_;refine W.to (D (c+1) m U) ?_ ?_
    .simp only[t,n,XR,X3,T1]
    .rw[t,n];simp[Yx m (show s.cells.length<2 ^ 62 by omega)]
   .obtain⟨k,rfl⟩:∃k:Nat,x=k:=⟨x.toNat,U⟩;have K:k<s.ς.length:=by have:=P (k:Int) J;omega
    have n:Ph s F lower i c=i s.ς[k].name:=by rw[I];simp[g,K]
    have v:=o.name _ (Y7 K)
    have ab:∀h:0<(Conv.runesFrom s.ς[k].name s.ς[k].name.size 0 #[]).size,(Conv.runesFrom s.ς[k].name s.ς[k].name.size 0 #[])[0]'h=.int .i32 (i s.ς[k].name):=λh=>by
     rw[XQ h] at v;exact W4 v
    have S:0<(Conv.runesFrom s.ς[k].name s.ς[k].name.size 0 #[]).size:=(T3.1 v).1;refine Η J ?_;refine W0 (Υ K (Υ v S)) ?_
    repeat apply Ο
    refine W.forget [(1,ε lower),(6,Z6 s),(7,Y2 F),(9,Xg (a.map Vh)),(11,Vh (i s.ς[k].name)),(25,R s.cells.length),(26,R c)] (by simp[ab S]) ?_;refine W.Xk (A:=[57]) Ρ [(1,ε lower),(6,Z6 s),(7,Y2 F),(9,Xg ((a++[(i s.ς[k].name)]).map Vh)),(25,R s.cells.length),(26,R c)] (ZR 21 1 ((a++[(i s.ς[k].name)]).map Vh)) ?_ (by
     rw[XR];by_cases j:a.map Vh=[]
     .rw[j,QT,U2];(try simp);(repeat (rw[Μ];simp));(try simp);simp[ZR,Xg]
     .rw[PY j,Yq j];(try simp);(repeat (rw[Μ];simp));(try simp);simp[PX,Nj,E])
    refine Χ ?_;refine W.to (D (c+1) m U) ?_ ?_
    .simp only[t,n,XR,X3,T1]
    .rw[t,n];simp[Yx m (show s.cells.length<2 ^ 62 by omega)]
 .have u:c=s.cells.length:=by simp at u;omega
  subst u;refine W.exit rfl ?_;refine Χ ?_;obtain⟨a,r⟩:=ψ (R9 s F lower i s.cells.length);rw[<-r];refine W.to (σ':=ZR 21 1 (a.map Vh)) (env':=[(9,Xg (a.map Vh))]) ?_ rfl J;by_cases j:a.map Vh=[]
  .have ad:a=[]:=by simpa using j
   rw[j,QT,U2,ad];have L:Qf []=some []:=rfl;refine XM L λw p=>?_;apply p;refine W.rt ?_;exact .refl _
  .have L:Qf (List.take a.length (a.map Vh))=some a:=by
    rw[US J];exact xR a
   rw[PY j,Yq j];refine XM L λw p=>?_;apply p;refine W.drop (h:=0) (σ':=[]) (ω _) (ω _) J rfl [(4,TO (spell a)),(5,R 0)] J ?_;refine W.rt ?_;exact .refl _
theorem Ea {a:Type} [Inhabited a] {lt:a->a->Bool} (b:SWO lt) (c:∀x y,lt x y=false->lt y x=false->x=y) (l:List a):(Go.Sort.insertionSort lt l.toArray 0 l.length).toList=l.mergeSort (λx y=>!lt y x):=by
 obtain⟨d,e⟩:=insertionSort_holds (lt:=lt) b l.toArray 0 l.length (ω _) J;exact sorted_unique_holds (lt:=lt) b c l.toArray _ (by simpa using d) (by simpa using e)
theorem xP (x y:Int) (h:ltInt x y=false) (k:ltInt y x=false):x=y:=by
 simp[ltInt] at h k;omega
theorem xO:HB 12:=λl a=>by
 have h:=ye l.toArray l.length J a;rw[Ea swo_ltInt xP l] at h;have e:(λx y:Int=>!ltInt y x)=λx y=>decide (x<=y):=by
  funext x y;rw[OR];simp[ltInt]
 rw[e] at h;exact h
theorem PU (x y:Int×Int):Γ Te x y=decide (x.1<y.1\/(x.1=y.1/\x.2<y.2)):=by
 unfold Γ Te;simp only[Sb,Sc];by_cases c:x.1<y.1
 .simp[c]
 .by_cases e:y.1<x.1
  .have:¬x.1=y.1:=U
   simp[c,e,this]
  .have a:x.1=y.1:=U
   by_cases b:x.2<y.2
   .simp[a,b]
   .by_cases d:y.2<x.2
    .simp[a,b,d]
    .simp[a,b,d]
theorem Nh:SWO (Γ Te) where
 irrefl x:=by rw[PU];simp
 trans x y z h k:=by
  rw[PU] at *;simp at *;omega
 ntrans x y z h k:=by
  rw[PU] at *;simp at *;omega
theorem D' (x y:Int×Int) (h:Γ Te x y=false) (k:Γ Te y x=false):x=y:=by
 rw[PU] at *;simp at h k;apply Prod.ext<;>omega
abbrev UA (x y:Int×Int):Bool:=!Γ Te y x
theorem xN {l m:List (Int×Int)} (d:l.Perm m) (e:m.Pairwise λx y=>x.1<y.1\/(x.1=y.1/\x.2<y.2)):l.mergeSort UA=m:=by
 have f:∀a b c:Int×Int,UA a b=true->UA b c=true->UA a c=true:=λa b c h k=>by
  simp only[UA,PU] at *;simp at *;omega
 have g:∀a b:Int×Int,(UA a b||UA b a)=true:=λa b=>by
  simp only[UA,PU];simp;omega
 have i:=List.pairwise_mergeSort (le:=UA) f g l
 have j:(l.mergeSort UA).Perm m:=(List.mergeSort_perm l UA).trans d;refine IE (le:=λa b=>UA a b=true) (λa b _ _ h k=>?_) i (e.imp λ{a b} h=>?_) j
 .simp only[UA,PU] at h k;simp at h k;apply Prod.ext<;>omega
 .simp only[UA,PU];simp;omega
theorem xM (a:I) (b:χ 0 a):Κ prog 234 [.sl true 0 [],R 0,R 0,a] (.ZX []):=by
 refine Ξ.body Ρ func234 rfl rfl ntmps234 rfl rfl J ?_;refine Χ ?_;refine .loop ?_;refine Χ ?_;refine Η rfl ?_;refine W.exit rfl ?_;exact W.nil ⟨_,rfl,Y3.refl _,rfl⟩
theorem xL (d:Nat) (a:I) (b:χ 0 a):Κ prog 211 [.sl true 0 [],R 0,R 0,R d,a] (.ZX []):=by
 refine Ξ.body Ρ func211 rfl rfl ntmps211 rfl rfl J ?_;refine Χ ?_;refine .loop ?_;refine Χ ?_;refine Ε rfl ?_;refine ZU λf e=>?_;refine Κ.c (xM a b) (ZO.refl _) (by simp[b]) J ?_;simp;(repeat (rw[Μ];simp));apply e;exact W.ret ⟨_,rfl,Y3.refl _,rfl⟩
theorem xK (a:I) (b:χ 0 a):Κ prog 173 [.sl true 0 [],a] (.ZX []):=by
 refine Ξ.body Ρ func173 rfl rfl ntmps173 rfl rfl J ?_;have Φ:IntKind.u64.wrap (0:Int)=0:=Z3;refine Χ ?_;(repeat apply Ο);refine YX λf e=>?_;simp;(repeat (rw[Μ];simp[Φ]));refine Κ.d (Oh 0 U) (Z1 ?_);refine Κ.c (xL (bitsLen 0) a b) (ZO.refl _) (by simp[b]) J ?_;simp;(repeat (rw[Μ];simp));apply e;exact W.nil ⟨_,rfl,Y3.refl _,rfl⟩
theorem xJ (a:I) (b:χ 0 a):Κ prog 217 [.sl true 0 [],R 0,R 0,a] (.ZX []):=by
 refine Ξ.body Ρ func217 rfl rfl ntmps217 rfl rfl J ?_;refine Χ ?_;refine .loop ?_;refine Χ ?_;refine Η rfl ?_;refine W.exit rfl ?_;exact W.nil ⟨_,rfl,Y3.refl _,rfl⟩
theorem xI (d:Nat) (a:I) (b:χ 0 a):Κ prog 182 [.sl true 0 [],R 0,R 0,R d,a] (.ZX []):=by
 refine Ξ.body Ρ func182 rfl rfl ntmps182 rfl rfl J ?_;refine Χ ?_;refine .loop ?_;refine Χ ?_;refine Ε rfl ?_;refine ZU λf e=>?_;refine Κ.c (xJ a b) (ZO.refl _) (by simp[b]) J ?_;simp;(repeat (rw[Μ];simp));apply e;exact W.ret ⟨_,rfl,Y3.refl _,rfl⟩
theorem xH (a:I) (b:χ 0 a):Κ prog 147 [.sl true 0 [],a] (.ZX []):=by
 refine Ξ.body Ρ func147 rfl rfl ntmps147 rfl rfl J ?_;have Φ:IntKind.u64.wrap (0:Int)=0:=Z3;refine Χ ?_;(repeat apply Ο);refine YX λf e=>?_;simp;(repeat (rw[Μ];simp[Φ]));refine Κ.d (Oh 0 U) (Z1 ?_);refine Κ.c (xI (bitsLen 0) a b) (ZO.refl _) (by simp[b]) J ?_;simp;(repeat (rw[Μ];simp));apply e;exact W.nil ⟨_,rfl,Y3.refl _,rfl⟩
theorem Yr.struct {h id k:Nat} {σ:Τ} {t:TypeId} {l cs:ξ} (c:h<=id) (d:σ[id]?=some (.cells t k [.Z7 l])) (e:cs.length=l.length) (H:∀(x:Nat) (a b:I),l[x]?=some a->cs[x]?=some b->Yr h σ a b):Yr h σ (.Ν id 1 0 0) (.π cs):=
 .Ν c d rfl rfl (by simp[I.cells,e]) λx a b f g=>H x a b (by simpa[I.cells] using f) g
abbrev YV (a b c:I):Row:=.cells 26 3 [.Z7 [a,b,c]]
def Oe (s:Δ) (i:Nat):Τ:=if i=0 then [YV (.sl true 0 []) (.sl true 0 []) (.sl true 0 []),YV (ZI s.ς) (ZT s.Β) (.sl true 0 [])] else
 [YV (.sl true 0 []) (.sl true 0 []) (.sl true 0 []),YV (ZI s.ς) (ZT s.Β) (.ms 2 i 0 i),.cells 60 1 ((s.cells.take i).map U4)]
theorem xG (s:Δ) (h:s.small):Κ prog 25 [Zh s] (Zh s):=by
 refine Ξ.body Ρ func25 rfl rfl ntmps25 rfl rfl J ?_;obtain⟨c,b,r,l,m⟩:=h
 repeat apply Ο
 refine Y4 (A:=[2]) Ρ λg e=>Z1 ?_;apply e
 repeat apply Ο
 refine W.draw (A:=[3]) Ρ mixed λg e=>U5 ?_;refine⟨U,?_⟩;refine YD (Κ.q (Ex s.Β U (λx n=>by have:=l x n;omega))) (U5 ?_);refine YG (e _ _ ?_);refine Χ ?_;refine W.iter (λi:Nat=>i<=s.cells.length) (λi=>[(1,Z6 s),(2,.Ν 0 1 0 0),(3,.Ν 1 1 0 0),(4,R i)]) (λi=>Oe s i) (λi=>s.cells.length-i) 0 (ω _) rfl J (λi hi j=>?_);refine Χ ?_;refine W.YM rfl (λd=>?_) (λd=>?_)
 .have d:i<s.cells.length:=by simpa using d
  have t:s.cells[i].length<2 ^ 30:=m _ (Y7 d)
  have k:(s.cells.map U4).take (i+1)=(s.cells.map U4).take i++[U4 s.cells[i]]:=by rw[Wp (by simpa using d)];simp
  by_cases f:i=0
  .subst f
   repeat apply Ο
   refine W.draw (A:=[30]) Ρ mixed λg e=>?_;simp;(repeat (rw[ZL];simp[Oe,d]));try rw[ZM]
   refine⟨U,?_⟩;refine YG (e _ _ ?_);refine Χ ?_;refine W.to (j 1 d U) ?_ ?_
   .simp only[Oe,Mz,k];simp
   .simp[P2,Yx d (show s.cells.length<2 ^ 62 by omega)]
  .repeat apply Ο
   refine W.draw (A:=[30]) Ρ mixed λg e=>?_;simp;(repeat (rw[ZL];simp[Oe,d,f,Nat.min_eq_left hi]));try rw[ZM]
   refine⟨U,U,?_⟩;refine YG (e _ _ ?_);refine Χ ?_;refine W.to (j (i+1) d U) ?_ ?_
   .simp[Oe,k]
   .simp[Yx d (show s.cells.length<2 ^ 62 by omega)]
 .have d:i=s.cells.length:=by simp at d;omega
  subst d;refine W.exit rfl ?_;by_cases f:s.cells.length=0
  ·(repeat (first|apply Ο|(refine YX λg e=>?_;simp;(repeat (rw[Μ];simp[Oe,f]));apply e)));have o:s.cells=[]:=YR.1 f;refine W.cut 0 (ω _) [(2,.π [ZI s.ς,ZT s.Β,.sl true 0 []])] J J ?_ ?_
   .simp;refine .struct (ω _) (show _=some (Row.cells _ _ [.Z7 _]) from rfl) rfl λx a p c b=>?_
    match x with
    | 0=>simp at c b;subst c;subst b;exact .low J
    | 1=>simp at c b;subst c;subst b;exact .low J
    | 2=>simp at c b;subst c;subst b;exact .low J
    | x+3=>simp at b
   .refine W.ret ?_;refine⟨_,by simp;rfl,?_,rfl⟩;show Y3 _ (.Z7 [ZI s.ς,ZT s.Β,.sl false 1 (s.cells.map U4)]);rw[o];exact .Z7 (.cons (.refl _) (.cons (.refl _) (.cons .nil .nil)))
  ·(repeat (first|apply Ο|(refine YX λg e=>?_;simp;(repeat (rw[Μ];simp[Oe,f]));apply e)));refine W.cut 0 (ω _) [(2,Z6 s)] J J ?_ ?_
   .simp;refine .struct (ω _) (show _=some (Row.cells _ _ [.Z7 _]) from rfl) rfl λx a p c b=>?_
    match x with
    | 0=>simp at c b;subst c;subst b;exact .low J
    | 1=>simp at c b;subst c;subst b;exact .low J
    | 2=>simp at c b;subst c;subst b;exact .own (ω _) rfl J J
    | x+3=>simp at b
   .refine W.ret ?_;refine⟨_,by simp;rfl,?_,rfl⟩;exact .refl _
abbrev YA (r:Int×Int):I×I:=(Zq r,ε true)
theorem xF (x y:Int×Int):aeqv Z2 112 (Zq x) (Zq y)=some (decide (x=y)):=by
 simp[aeqv,Vk,TT];rw[OR];simp[Prod.ext_iff]
theorem xE (r:Int×Int):∀(l:List (Int×Int)) (n:Nat),r∉l->Wz Z2 112 (Zq r) (l.map YA) n=some none:=by
 intro l
 induction l with
 | nil=>intro n _;rfl
 | cons x l a=>
  intro n h;simp only[X3,Wz];have b:¬r=x:=λe=>h (by simp[e]);have:=xF r x;rw[this,decide_eq_false b];exact a (n+1) λc=>h (by simp[c])
def Uc (i j:Nat):List (Int×Int):=(List.range j).map λy:Nat=>((i:Int)-1,(y:Int)-1)
def V0 (n i:Nat):List (Int×Int):=(List.range i).flatMap λx=>Uc x (n+1)
def LS (n:Nat):List (Int×Int):=V0 n (n+1)
theorem D9 (i j:Nat):Uc i (j+1)=Uc i j++[((i:Int)-1,(j:Int)-1)]:=by simp[Uc,Vp]
theorem Hz (n i:Nat):V0 n (i+1)=V0 n i++Uc i (n+1):=by simp[V0,Vp]
theorem Jz {i j:Nat} {r:Int×Int} (h:r∈Uc i j):r.1=(i:Int)-1/\r.2<(j:Int)-1:=by
 unfold Uc at h;obtain⟨y,a,rfl⟩:=Zc.1 h;have:=Wm.1 a;exact⟨rfl,by simp;omega⟩
theorem D8 {n i:Nat} {r:Int×Int} (h:r∈V0 n i):r.1<(i:Int)-1:=by
 unfold V0 at h;obtain⟨x,a,b⟩:=OT.1 h;have:=Wm.1 a;have:=(Jz b).1;omega
def Vy (s:Δ) (p:Int×Int) (c:Nat):List (Int×Int):=(LS s.ς.length).filter λr=>s.Sd p r c
theorem xD (i j:Nat):(Uc i j).Pairwise λx y=>x.1<y.1\/(x.1=y.1/\x.2<y.2):=by
 induction j with
 | zero=>simp[Uc]
 | succ j d=>
  rw[D9,NU];refine⟨d,J,λa e b c=>?_⟩;simp at c;subst c;have:=Jz e;exact .inr ⟨this.1,by simpa using this.2⟩
theorem xC (n i:Nat):(V0 n i).Pairwise λx y=>x.1<y.1\/(x.1=y.1/\x.2<y.2):=by
 induction i with
 | zero=>simp[V0]
 | succ i c=>
  rw[Hz,NU];refine⟨c,xD _ _,λa d b e=>.inl ?_⟩;have:=D8 d;have:=(Jz e).1;omega
theorem xB (s:Δ) (p:Int×Int) (c:Nat):(Vy s p c).Pairwise λx y=>x.1<y.1\/(x.1=y.1/\x.2<y.2):=(xC _ _).filter _
def Jy (N:Nat):Prop:=∀(l:List (Int×Int)),l.length<=N->Ξ prog 173 [.ms 0 l.length 0 l.length,.fn (.func 174) [] []] [.cells 112 2 (l.map Zq)] (λr s=>r=.ZX []/\s=[.cells 112 2 ((l.mergeSort UA).map Zq)]) (λ_ _=>False)
theorem xA:Jy 12:=λl a=>by
 have h:=yi l.toArray l.length J a (.fn (.func 174) [] []) Te (by simp[Uf]) (λx y=>Κ.p (Er x y) (ZO.refl _) J J);rw[Ea Nh D' l] at h;exact h
def WM (q:Int×Int->Bool) (n i j:Nat):List (Int×Int):=(V0 n i++Uc i j).filter q
theorem Hy {q:Int×Int->Bool} {n:Nat}:WM q n 0 0=[]:=by simp[WM,V0,Uc]
theorem Hx {q:Int×Int->Bool} {n i:Nat}:WM q n i (n+1)=WM q n (i+1) 0:=by simp[WM,Hz,Uc]
theorem D7 {q:Int×Int->Bool} {n i j:Nat}:WM q n i (j+1)=WM q n i j++if q ((i:Int)-1,(j:Int)-1) then [((i:Int)-1,(j:Int)-1)] else []:=by
 unfold WM;rw[D9,<-Ur,List.filter_append];simp[K6]
theorem Hw {q:Int×Int->Bool} {n:Nat}:WM q n (n+1) 0=(LS n).filter q:=by simp[WM,Uc,LS]
theorem xz {q:Int×Int->Bool} {n i j:Nat}:((i:Int)-1,(j:Int)-1)∉WM q n i j:=by
 unfold WM;rw[S0,VG];rintro⟨h|h,_⟩
 .have:=D8 h;simp at this
 .have:=(Jz h).2;simp at this
def Tc (l:ξ):I:=if l.isEmpty then .sl true 0 [] else .ms 3 l.length 0 l.length
def YU (l:ξ):Τ:=if l.isEmpty then [] else [.cells 111 1 l]
abbrev WA:Row:=.cells 110 3 [.Z7 [R 0,R 0,.sl true 0 []]]
abbrev Xa (p:Int×Int) (L:ξ):Row:=.cells 110 3 [.Z7 [R p.1,R p.2,Tc L]]
def Zg (id:Nat) (l:ξ):I:=if l.isEmpty then .sl true 0 [] else .ms id l.length 0 l.length
theorem Xq {id:Nat} {l:ξ} (h:l≠[]):Zg id l=.ms id l.length 0 l.length:=by unfold Zg;rw[if_neg (by simpa using h)]
theorem xy {l:ξ}:χ ((YU l).length+3) (Tc l):=by
 unfold Tc YU;cases l.isEmpty<;>simp[TS]
theorem xx {h:Nat} {l:ξ} (d:∀e∈l,∀a∈e.cells,χ 0 a):∀r∈YU l,XZ h r:=by
 intro r b;unfold YU at b;cases c:l.isEmpty with
 | true=>rw[c] at b;simp at b
 | false=>
  rw[c] at b;simp at b;subst b;exact λe f a g=>(d e f a g).mono (ω _)
theorem XZ.mono {h f:Nat} {r:Row} (c:XZ h r) (d:h<=f):XZ f r:=by
 cases r with
 | cells t k l=>exact λe b a g=>(c e b a g).mono d
 | map es=>exact λe b=>⟨(c e b).1.mono d,(c e b).2.mono d⟩
 | iter m left i=>exact⟨K9 c.1 d,λe b=>⟨(c.2.1 e b).1.mono d,(c.2.1 e b).2.mono d⟩,λe b=>⟨(c.2.2 e b).1.mono d,(c.2.2 e b).2.mono d⟩⟩
 | dead=>trivial
theorem xw {h id:Nat} {l:ξ} (b:l≠[]->id<h):χ h (Zg id l):=by
 by_cases a:l=[]
 .subst a;unfold Zg;simp
 .rw[Xq a];exact TS.2 (b a)
theorem D6 {b:Type} (l:List b) (i:Nat) (h:i<l.length):(l[i]::l.eraseIdx i).Perm l:=by
 induction l generalizing i with
 | nil=>simp at h
 | cons a l c=>
  cases i with
  | zero=>exact .refl _
  | succ i=>
   simp only[List.getElem_cons_succ,List.eraseIdx_cons_succ];exact(List.Perm.swap _ _ _).trans (.cons a (c i (by simpa using h)))
theorem Jx {h id k:Nat} {t:TypeId} {l:ξ} {σ:Τ} (c:h<=id) (d:l≠[]->σ[id]?=some (.cells t k l)) (f:∀e∈l,∀a∈e.cells,χ h a):Yr h σ (Zg id l) (Xf k l):=by
 by_cases b:l=[]
 .subst b;exact .low (by unfold Zg;simp)
 .have e:Xf k l=.sl false k l:=by unfold Xf;rw[if_neg (by simpa using b)]
  rw[Xq b,e];exact .own c (d b) rfl f
theorem D5 (k:Nat) (m:ξ):∃b kk l,Xf k m=.sl b kk l:=by
 unfold Xf;split
 .exact⟨_,_,_,rfl⟩
 .exact⟨_,_,_,rfl⟩
theorem D4 {b c:Type} (f:b->c) (l:List b) (i:Nat):(l.map f).eraseIdx i=(l.eraseIdx i).map f:=by
 induction l generalizing i with
 | nil=>rfl
 | cons a l d=>cases i<;>simp[d]
theorem xv (s:Δ) (ao:s.small) (aZ:s.ς.length<2 ^ 20) (p:Int×Int) (hv:∀c∈s.cells,∀x∈c,0<=x.Zd/\x.Zd<s.Β.length) (N:Nat) (a0:N<2 ^ 20) (aC:Jy N) (S:∀c,c<s.cells.length->(Vy s p c).length<=N) :
  Κ prog 143 [Zh s,Zq p] (YQ ⟨p.1,p.2,(List.range s.cells.length).map (Vy s p)⟩):=by
 refine Ξ.body Ρ func143 rfl rfl ntmps143 rfl rfl J ?_
 repeat apply Ο
 refine Y4 (A:=[4]) Ρ λB g=>Z1 ?_;apply g
 repeat apply Ο
 refine Y4 (A:=[5]) Ρ λB g=>Z1 ?_;apply g
 repeat apply Ο
 refine ZU λB g=>?_;apply g;refine Χ ?_;have a1:s.cells.length<2 ^ 30:=ao.2.2.1;refine W.iter (λc:Nat=>c<=s.cells.length) (λc=>[(2,Z6 s),(3,.π [R p.1,R p.2]),(4,.Ν 0 1 0 0),(5,.Ν 1 1 0 0),(6,.mp 2),(19,R s.cells.length),(20,R c)])
  (λc=>WA::Xa p ((List.range c).map λc=>Xf 2 ((Vy s p c).map Zq))::.map []::YU ((List.range c).map λc=>Xf 2 ((Vy s p c).map Zq))) (λc=>s.cells.length-c) 0 (ω _) (by simp[Tc,YU]) J (λc ae M=>?_)
 obtain⟨L,O⟩:=ψ ((List.range c).map λc=>Xf 2 ((Vy s p c).map Zq));refine W.to (σ':=WA::Xa p L::.map []::YU L) (env':=[(2,Z6 s),(3,.π [R p.1,R p.2]),(4,.Ν 0 1 0 0),(5,.Ν 1 1 0 0),(6,.mp 2),(19,R s.cells.length),(20,R c)]) ?_ (by rw[O]) J;refine Χ ?_;refine W.YM rfl (λae=>?_) (λae=>?_)
 .have af:c<s.cells.length:=by simpa using ae
  refine Χ ?_;obtain⟨n,T⟩:=ψ s.ς.length;have a2:n<2 ^ 20:=U;obtain⟨q,ap⟩:=ψ (λr=>s.Sd p r c:Int×Int->Bool);have P:∀e∈L,∀a∈e.cells,χ 0 a:=by
   rw[O];intro e o a u;obtain⟨x,_,rfl⟩:=Zc.1 o;unfold Xf at u;split at u<;>simp[I.cells] at u<;>subst u<;>simp
  have V:∀(v:List (Int×Int)) (h:Nat),XZ h (.map (v.map YA)):=λv h e o=>by
   obtain⟨x,_,rfl⟩:=Zc.1 o;simp
  have E:∀v:List (Int×Int),∀r∈WA::Xa p L::.map (v.map YA)::YU L,XZ (WA::Xa p L::.map (v.map YA)::YU L).length r:=λv r C=>by
   simp only[Zf] at C;rcases C with rfl|rfl|rfl|C
   .simp[XZ,I.cells]
   .simp[XZ,I.cells];exact xy
   .exact V v _
   .exact xx P r C
  refine W.iter (λi:Nat=>i<=n+1) (λi=>[(2,Z6 s),(3,.π [R p.1,R p.2]),(4,.Ν 0 1 0 0),(5,.Ν 1 1 0 0),(6,.mp 2),(19,R s.cells.length),(20,R c),(7,R c),(8,R ((i:Int)-1))])
   (λi=>WA::Xa p L::.map ((WM q n i 0).map YA)::YU L) (λi=>n+1-i) 0 (ω _) (by rw[Hy];rfl) J (λi hi X=>?_)
  refine Χ ?_;by_cases a3:i<n+1
  .refine Ε (by simp[<-T];omega) ?_;refine Χ ?_;refine W.iter (λj:Nat=>j<=n+1) (λj=>[(2,Z6 s),(3,.π [R p.1,R p.2]),(4,.Ν 0 1 0 0),(5,.Ν 1 1 0 0),(6,.mp 2),(19,R s.cells.length),(20,R c),(7,R c),(8,R ((i:Int)-1)),(9,R ((j:Int)-1))])
    (λj=>WA::Xa p L::.map ((WM q n i j).map YA)::YU L) (λj=>n+1-j) 0 (ω _) rfl J (λj a4 aq=>?_)
   refine Χ ?_;by_cases a5:j<n+1
   .refine Ε (by simp[<-T];omega) ?_
    repeat apply Ο
    obtain⟨v,ag⟩:=ψ (WM q n i j);refine W.to (σ':=WA::Xa p L::.map (v.map YA)::YU L) (env':=[(2,Z6 s),(3,.π [R p.1,R p.2]),(4,.Ν 0 1 0 0),(5,.Ν 1 1 0 0),(6,.mp 2),(19,R s.cells.length),(20,R c),(7,R c),(8,R ((i:Int)-1)),(9,R ((j:Int)-1))]) ?_ (by rw[ag]) J;have aD:Wz Z2 112 (.Z7 [R ((i:Int)-1),R ((j:Int)-1)]) (v.map YA) 0=some none:=xE _ v 0 (by rw[ag];exact xz);have am:∀es,SM (WA::Xa p L::.map es::YU L) 2=true:=λes=>by unfold YU;cases L.isEmpty<;>simp[SM]
    refine Y4 (A:=[10]) Ρ λB g=>Z1 ?_;apply g;refine W.UC (σ0:=WA::Xa p L::.map (v.map YA)::YU L) (ω _) (E v) J [(10,.π [R ((i:Int)-1),R ((j:Int)-1)]),(2,Z6 s),(3,.π [R p.1,R p.2]),(4,.Ν 0 1 0 0),(5,.Ν 1 1 0 0),(6,.mp 2),(19,R s.cells.length),(20,R c),(7,R c),(8,R ((i:Int)-1)),(9,R ((j:Int)-1))] (by simp[Ww,P']) ?_;have ar:=X7 (show j<2 ^ 62 by omega);refine ZU λB g=>?_;refine Κ.c (ys s ao p ((i:Int)-1,(j:Int)-1) c af (hv _ (Y7 af)) (by simp;omega) (by simp;omega)) (ZO.refl _) J J ?_;simp;(repeat (rw[Μ];simp));apply g;have aE:s.Sd p ((i:Int)-1,(j:Int)-1) c=q ((i:Int)-1,(j:Int)-1):=by rw[ap]
    rw[aE];have ah:=D7 (q:=q) (n:=n) (i:=i) (j:=j);cases au:q ((i:Int)-1,(j:Int)-1)
    .refine Η rfl ?_;refine Ι ar ?_;rw[au] at ah;refine W.to (aq (j+1) U U) ?_ ?_
     .rw[ah,ag];simp
     .simp
    .refine Ε rfl ?_
     repeat apply Ο
     refine YX λB g=>?_;simp;(repeat (rw[Μ];simp[aD,am,-SM]));apply g;refine Ι ar ?_;rw[au] at ah;refine W.to (aq (j+1) U U) ?_ ?_
     .rw[ah,ag];simp
     .simp
   .refine Η (by simp[<-T];omega) ?_;refine W.exit rfl ?_;have aF:j=n+1:=U;subst aF;refine Χ ?_;refine W.to (X (i+1) U U) ?_ ?_
    .rw[Hx]
    .have:=X7 (show i<2 ^ 62 by omega);simp[this]
  .refine Η (by simp[<-T];omega) ?_;refine W.exit rfl ?_;have aG:i=n+1:=U;subst aG;obtain⟨d,ai⟩:=ψ (Vy s p c);have aH:WM q n (n+1) 0=d:=by rw[Hw,ai,ap,T];rfl
   rw[aH];have aI:d.length<=N:=by rw[ai];exact S c af
   refine W.to (σ':=WA::Xa p L::.map (d.map YA)::YU L) (env':=[(2,Z6 s),(3,.π [R p.1,R p.2]),(4,.Ν 0 1 0 0),(5,.Ν 1 1 0 0),(6,.mp 2),(19,R s.cells.length),(20,R c),(7,R c)]) ?_ rfl J;refine Χ ?_;refine W.iter (λx:List (Int×Int)×List (Int×Int)×Option (I×I)=>(x.1++x.2.1).Perm d/\(x.2.2=none\/∃y,x.2.2=some (YA y)))
    (λx=>[(2,Z6 s),(3,.π [R p.1,R p.2]),(4,.Ν 0 1 0 0),(5,.Ν 1 1 0 0),(6,.mp 2),(19,R s.cells.length),(20,R c),(7,R c),(11,Zg ((YU L).length+1+1+1+1) (x.1.map Zq)),(50,.it ((YU L).length+1+1+1))])
    (λx=>WA::Xa p L::.map (d.map YA)::(YU L++(.iter 2 (x.2.1.map YA) x.2.2::ZR 112 2 (x.1.map Zq)))) (λx=>x.2.1.length) ([],d,none) ⟨J,.inl rfl⟩ (by simp[ZR]) (by simp[Zg]) (λx aj Y=>?_)
   obtain⟨K,m,ak⟩:=x;obtain⟨al,aJ⟩:=aj;simp only at al aJ
   repeat apply Ο
   cases m with
   | nil=>
    refine ZU λB g=>?_;apply g
    repeat apply Ο
    refine Η rfl ?_;refine W.exit rfl ?_;have F:K.Perm d:=by simpa using al
    repeat apply Ο
    have av:K.length<=N:=by rw[F.length_eq];exact aI
    have aK:K.mergeSort UA=d:=by
     rw[ai] at F ⊢;exact xN F (xB s p c)
    refine W.Xk (A:=[]) Ρ [(2,Z6 s),(3,.π [R p.1,R p.2]),(4,.Ν 0 1 0 0),(5,.Ν 1 1 0 0),(6,.mp 2),(19,R s.cells.length),(20,R c),(11,Zg ((YU L).length+1+1+1+1) (d.map Zq))]
     (WA::Xa p L::.map (d.map YA)::(YU L++(.iter 2 [] ak::ZR 112 2 (d.map Zq)))) ?_ (by
     clear Y X M E V S hv P;by_cases f:K=[]
     .subst f;have aL:d=[]:=F.symm.eq_nil;rw[aL];simp only[T1,U2,show Zg ((YU L).length+1+1+1+1) []=.sl true 0 [] from rfl];simp;(repeat (rw[Μ];simp));refine Κ.c (xK _ (by simp[Uf])) (ZO.refl _) (by simp[Uf]) J ?_;simp;(repeat (rw[Μ];simp));(try simp)
     .have Z:K.map Zq≠[]:=by simpa using f
      have aM:d≠[]:=λe=>f (by rw[e] at F;exact F.eq_nil)
      have aw:d.map Zq≠[]:=by simpa using aM
      rw[Xq Z,Yq Z,Xq aw,Yq aw];simp;(repeat (rw[Μ];simp));have ax:χ 0 (.fn (.func 174) [] []):=by simp[Uf]
      refine Ξ.one (aC K av) ((YU L).length+1+1+1+1) J (Oi P0) (Oi P0) (by simp[SJ,ax.VL 1]) (by simp[Xm]) (by simp[SI,ax.Ym [(YU L).length+1+1+1+1]]) ?_;simp[Ym,Wg];(repeat (rw[Μ];simp));(try simp[aK,F.length_eq]))
    refine W.cut ((YU L).length+1+1+1) (ω _) [(2,Z6 s),(3,.π [R p.1,R p.2]),(4,.Ν 0 1 0 0),(5,.Ν 1 1 0 0),(6,.mp 2),(19,R s.cells.length),(20,R c),(11,Xf 2 (d.map Zq))] J (λid r ay C=>?_) ?_ ?_
    .refine E d r ?_;have e:WA::Xa p L::.map (d.map YA)::(YU L++(.iter 2 [] ak::ZR 112 2 (d.map Zq)))=(WA::Xa p L::.map (d.map YA)::YU L)++(.iter 2 [] ak::ZR 112 2 (d.map Zq)):=J;rw[e,YL (by simpa using ay)] at C;exact Zp C
    .have aN:Yr ((YU L).length+1+1+1) (WA::Xa p L::.map (d.map YA)::(YU L++(.iter 2 [] ak::ZR 112 2 (d.map Zq)))) (Zg ((YU L).length+1+1+1+1) (d.map Zq)) (Xf 2 (d.map Zq)):=Jx (t:=112) U (λaa=>by rw[Yq aa];simp) (λe o a u=>by
      obtain⟨z,_,rfl⟩:=Zc.1 o;exact(P0 z a u).mono (ω _))
     intro z f;simp only[Zf,Yk,or_false] at f;rcases f with rfl|rfl|rfl|rfl|rfl|rfl|rfl|rfl
     all_goals first|exact aN|exact .low (by simp[Ww,P'])
    .obtain⟨D,ab⟩:=ψ (L++[Xf 2 (d.map Zq)]);have a6:L.length<2 ^ 30:=by rw[O];simp;omega
     refine W.to (σ':=WA::Xa p L::.map (d.map YA)::YU L) (env':=[(2,Z6 s),(3,.π [R p.1,R p.2]),(4,.Ν 0 1 0 0),(5,.Ν 1 1 0 0),(6,.mp 2),(19,R s.cells.length),(20,R c),(11,Xf 2 (d.map Zq))]) ?_ J J
     repeat apply Ο
     refine W.Xk (A:=[65]) Ρ [(2,Z6 s),(3,.π [R p.1,R p.2]),(4,.Ν 0 1 0 0),(5,.Ν 1 1 0 0),(6,.mp 2),(19,R s.cells.length),(20,R c)] (WA::Xa p D::.map (d.map YA)::YU D) ?_ (by
      clear Y X M E V S hv;obtain⟨az,aA,sl,aO⟩:=D5 2 (d.map Zq);rw[aO] at ab ⊢;by_cases f:L=[]
      .have aP:D=[.sl az aA sl]:=by rw[ab,f];rfl
       rw[aP];subst f;simp only[Xa,YU,Tc,List.isEmpty_nil,List.isEmpty_cons,if_true,if_false];(try simp);(repeat (rw[Μ];simp));(try simp)
      .have ad:L.length<=4294967295:=U
       have aQ:Tc L=.ms 3 L.length 0 L.length:=by unfold Tc;rw[if_neg (by simpa using f)]
       have aR:YU L=[.cells 111 1 L]:=by unfold YU;rw[if_neg (by simpa using f)]
       have aS:Tc D=.ms 3 (L.length+1) 0 (L.length+1):=by rw[ab];unfold Tc;rw[if_neg J];simp
       have aT:YU D=[.cells 111 1 (L++[.sl az aA sl])]:=by rw[ab];unfold YU;rw[if_neg J]
       simp only[Xa];rw[aQ,aR,aS,aT];(try simp);(repeat (rw[Μ];simp[ad]));(try simp[ad]))
     have am:∀es,SM (WA::Xa p D::.map es::YU D) 2=true:=λes=>by unfold YU;cases D.isEmpty<;>simp[SM]
     repeat apply Ο
     refine YX λB g=>?_;simp;(repeat (rw[Μ];simp[am,-SM]));apply g;refine Χ ?_;have aU:D=(List.range (c+1)).map λc=>Xf 2 ((Vy s p c).map Zq):=by rw[ab,O,ai,Vp];simp
     refine W.to (M (c+1) U U) ?_ ?_
     .rw[<-aU]
     .simp[Yx af (show s.cells.length<2 ^ 62 by omega)]
   | cons y m=>
    refine ZU λB g=>?_;intro i hi;obtain⟨x,aj⟩:=ψ ((y::m)[i]'(by simpa using hi));have aV:(YA y::List.map YA m)[i]?=some (YA x):=by
     have:(List.map YA (y::m))[i]?=some (YA x):=by
      rw[Yl,ζ (by simpa using hi),aj];rfl
     simpa using this
    have aW:(YA y::List.map YA m).eraseIdx i=((y::m).eraseIdx i).map YA:=by
     exact D4 YA (y::m) i
    rw[aV,aW];simp;(repeat (rw[Μ];simp));apply g
    repeat apply Ο
    refine Ε rfl ?_
    repeat apply Ο
    refine Y4 (A:=[12]) Ρ λB g=>Z1 ?_;apply g;have an:∀r∈WA::Xa p L::.map (d.map YA)::(YU L++(.iter 2 (((y::m).eraseIdx i).map YA) (some (YA x))::ZR 112 2 (K.map Zq))),XZ (WA::Xa p L::.map (d.map YA)::(YU L++(.iter 2 (((y::m).eraseIdx i).map YA) (some (YA x))::ZR 112 2 (K.map Zq)))).length r:=by
     intro r C;have w:r∈WA::Xa p L::.map (d.map YA)::YU L\/r∈(.iter 2 (((y::m).eraseIdx i).map YA) (some (YA x))::ZR 112 2 (K.map Zq)):=by
      have:r∈(WA::Xa p L::.map (d.map YA)::YU L)++(.iter 2 (((y::m).eraseIdx i).map YA) (some (YA x))::ZR 112 2 (K.map Zq)):=by simpa using C
      exact VG.1 this
     rcases w with w|w
     .exact XZ.mono (E d r w) J
     .rcases Zf.1 w with rfl|w
      .refine⟨J,λe o=>?_,λe o=>?_⟩
       .obtain⟨z,_,rfl⟩:=Zc.1 o;simp
       .cases o;simp
      .unfold ZR at w;split at w
       .simp at w
       .simp at w;subst w;intro e o a u;obtain⟨z,_,rfl⟩:=Zc.1 o;simp[I.cells] at u;rcases u with rfl|rfl<;>simp
    refine W.to (σ':=(WA::Xa p L::.map (d.map YA)::(YU L++(.iter 2 (((y::m).eraseIdx i).map YA) (some (YA x))::ZR 112 2 (K.map Zq))))++[.cells 112 2 [Zq x]]) (env':=[(12,.Ν (WA::Xa p L::.map (d.map YA)::(YU L++(.iter 2 (((y::m).eraseIdx i).map YA) (some (YA x))::ZR 112 2 (K.map Zq)))).length 1 0 0),(2,Z6 s),(3,.π [R p.1,R p.2]),(4,.Ν 0 1 0 0),(5,.Ν 1 1 0 0),(6,.mp 2),(19,R s.cells.length),(20,R c),(7,R c),(11,Zg ((YU L).length+1+1+1+1) (K.map Zq)),(50,.it ((YU L).length+1+1+1))]) ?_ J J;refine W.UC (σ0:=WA::Xa p L::.map (d.map YA)::(YU L++(.iter 2 (((y::m).eraseIdx i).map YA) (some (YA x))::ZR 112 2 (K.map Zq)))) (ω _) an J [(12,.π [R x.1,R x.2]),(2,Z6 s),(3,.π [R p.1,R p.2]),(4,.Ν 0 1 0 0),(5,.Ν 1 1 0 0),(6,.mp 2),(19,R s.cells.length),(20,R c),(7,R c),(11,Zg ((YU L).length+1+1+1+1) (K.map Zq)),(50,.it ((YU L).length+1+1+1))] (by
     have aX:=xw (h:=(YU L).length+((ZR 112 2 (K.map Zq)).length+1)+1+1+1) (id:=(YU L).length+1+1+1+1) (l:=K.map Zq) (λaa=>by rw[Yq aa];simp);clear Y X M E an V S hv P;simp[Ww,P',yW,aX]
     ) ?_
    repeat apply Ο
    have av:K.length<2 ^ 20:=by
     have:=al.length_eq;simp at this;omega
    refine W.Xk (A:=[58]) Ρ [(2,Z6 s),(3,.π [R p.1,R p.2]),(4,.Ν 0 1 0 0),(5,.Ν 1 1 0 0),(6,.mp 2),(19,R s.cells.length),(20,R c),(7,R c),(11,Zg ((YU L).length+1+1+1+1) ((K++[x]).map Zq)),(50,.it ((YU L).length+1+1+1))]
     (WA::Xa p L::.map (d.map YA)::(YU L++(.iter 2 (((y::m).eraseIdx i).map YA) (some (YA x))::ZR 112 2 ((K++[x]).map Zq)))) ?_ (by
     clear Y X M E an V S hv P;by_cases f:K=[]
     .subst f;simp only[T1,U2,show Zg ((YU L).length+1+1+1+1) []=.sl true 0 [] from rfl];(try simp);(repeat (rw[Μ];simp[U2]));(try simp[U2]);exact⟨rfl,rfl⟩
     .have ad:K.length<=4294967295:=U
      have Z:K.map Zq≠[]:=by simpa using f
      rw[Xq Z,Yq Z];(try simp);(repeat (rw[Μ];simp[ad]));(try simp[ad]);rw[Yq J,Xq J];simp)
    refine Χ ?_;have aB:(x::(y::m).eraseIdx i).Perm (y::m):=by
     rw[aj];exact D6 _ _ _
    refine W.to (Y (K++[x],(y::m).eraseIdx i,some (YA x)) ⟨?_,.inr ⟨x,rfl⟩⟩ ?_) J J
    .simp only[Ur,List.singleton_append];exact(aB.append_left K).trans al
    .have:=aB.length_eq;simp at this;simp only[List.length_cons];omega
 .have aY:c=s.cells.length:=by simp at ae;omega
  subst aY;refine W.exit rfl ?_
  repeat apply Ο
  clear M;have P:∀e∈L,∀a∈e.cells,χ 0 a:=by
   rw[O];intro e o a u;obtain⟨x,_,rfl⟩:=Zc.1 o;unfold Xf at u;split at u<;>simp[I.cells] at u<;>subst u<;>simp
  refine W.Xk (A:=[]) Ρ [(4,.Ν 0 1 0 0)] (.cells 110 3 [.Z7 [R p.1,R p.2,Tc L]]::Xa p L::.map []::YU L) ?_ (by
   simp only[Xa];by_cases f:L=[]
   .rw[show Tc L=.sl true 0 [] by rw[f];rfl];(try simp);(repeat (rw[Μ];simp));(try simp)
   .rw[show Tc L=.ms 3 L.length 0 L.length by unfold Tc;rw[if_neg (by simpa using f)],show YU L=[.cells 111 1 L] by unfold YU;rw[if_neg (by simpa using f)]];(try simp);(repeat (rw[Μ];simp));(try simp))
  refine W.cut 0 (ω _) [(4,.π [R p.1,R p.2,Xf 1 L])] (ω _) (λid r ay=>U) (λz f=>by
   simp at f;subst f;exact Yr.struct (k:=3) (t:=110) (l:=[R p.1,R p.2,Tc L]) (ω _) rfl rfl (λx a a7 H Q=>by
    match x with
    | 0=>simp at H Q;subst H;subst Q;exact .low J
    | 1=>simp at H Q;subst H;subst Q;exact .low J
    | 2=>
     simp at H Q;subst H;subst Q;exact Jx (id:=3) (t:=111) (l:=L) (ω _) (λaa=>by
      have:YU L=[.cells 111 1 L]:=by unfold YU;rw[if_neg (by simpa using aa)]
      simp[this]) P
    | x+3=>simp at H)) ?_
  refine Χ ?_;refine W.rt ?_;refine Y3.Z7 (ZO.cons (.refl _) (ZO.cons (.refl _) (ZO.cons (.trans Y3.acc ?_) .nil)));rw[O];show Y3 _ (.sl false 1 (((List.range s.cells.length).map (Vy s p)).map TN));rw[Qt];refine Y3.map λx _=>.one Y3.acc ?_ rfl;obtain⟨b,k,l,o⟩:=D5 2 ((Vy s p x).map Zq);rw[o];rfl
structure Vg where
 c:Int
 n:Int
 least:Int
 some:Bool
def Vg.take (b:Vg) (c n m:Int):Vg:=if b.some=false\/m<b.least then⟨c,n,m,true⟩ else b
abbrev Ub (b:Vg):I:=.Z7 [R b.c,R b.n,R b.least,ε b.some]
theorem xu (b:Vg) (c n m:Int):Ξ prog 76 [.Ν 0 1 0 0,.Z7 [R c,R n],R m] [.cells 104 4 [Ub b]] (λr s=>r=.ZX []/\s=[.cells 104 4 [Ub (b.take c n m)]]) (λ_ _=>False):=by
 obtain⟨d,f,a,g⟩:=b;refine Ξ.body Ρ func76 rfl rfl ntmps76 rfl rfl J ?_;refine Χ ?_;cases g
 .have e:Vg.take ⟨d,f,a,false⟩ c n m=⟨c,n,m,true⟩:=by simp[Vg.take]
  rw[e];refine Χ ?_;refine Ε rfl ?_;refine Χ ?_;exact W.nil ⟨_,rfl,rfl,rfl⟩
 .refine Χ ?_;by_cases h:m<a
  .have e:Vg.take ⟨d,f,a,true⟩ c n m=⟨c,n,m,true⟩:=by simp[Vg.take,h]
   rw[e];refine Ε (by simp[h]) ?_;refine Χ ?_;exact W.nil ⟨_,rfl,rfl,rfl⟩
  .have e:Vg.take ⟨d,f,a,true⟩ c n m=⟨d,f,a,true⟩:=by simp[Vg.take,h]
   rw[e];refine Η (by simp[h]) ?_;refine Χ ?_;exact W.nil ⟨_,rfl,rfl,rfl⟩
abbrev VZ (e:Int×Int):I×I:=(R e.1,R e.2)
def Wf:List (Int×Int)->Int->Int->List (Int×Int)
 | [],k,n=>[(k,IntKind.i64.wrap (0+n))]
 | e::r,k,n=>if k=e.1 then(k,IntKind.i64.wrap (e.2+n))::r else e::Wf r k n
theorem xr (k n:Int):∀(m:List (Int×Int)) (d:Nat),(Wz Z2 113 (R k) (m.map VZ) d=some none/\Wf m k n=m++[(k,IntKind.i64.wrap (0+n))])\/∃i v,i<m.length/\Wz Z2 113 (R k) (m.map VZ) d=some (some (d+i,R v))/\Wf m k n=m.set i (k,IntKind.i64.wrap (v+n)):=by
 intro m
 induction m with
 | nil=>intro d;exact .inl ⟨rfl,rfl⟩
 | cons e r g=>
  intro d;have a:aeqv Z2 113 (R k) (R e.1)=some (k==e.1):=by simp[aeqv,Vk,TT,VQ]
  by_cases h:k=e.1
  .refine .inr ⟨0,e.2,J,?_,by simp[Wf,h]⟩;simp only[X3,Wz,a];simp[h]
  .have c:(k==e.1)=false:=by simpa using h
   rcases g (d+1) with⟨f,b⟩|⟨i,v,f,b,j⟩
   .refine .inl ⟨?_,by simp[Wf,h,b]⟩;simp only[X3,Wz,a,c,cond_false];exact f
   .refine .inr ⟨i+1,v,by simp;omega,?_,by simp[Wf,h,j]⟩;simp only[X3,Wz,a,c,cond_false];rw[b];have:d+1+i=d+(i+1):=U;rw[this]
end Go.TL
