import Derived.Test.YtlabjopijpkiaaaGreatJAK
set_option maxHeartbeats 16000000
set_option maxRecDepth 20000
set_option linter.unusedSectionVars false
set_option linter.unusedSimpArgs false
set_option linter.unusedVariables false
namespace Go.TL
open Go.Proofs.Tryz
open Go.Sort (bitsLen insInner insOuter ltInt swp)
open Go.Proofs
variable [ZX]
instance:Inhabited Found:=⟨⟨0,0,[]⟩⟩
abbrev YP (r:Int×Int):Ω:=.sl true 1 [J r.1,J r.2]
theorem Dv (d:Array (Int×Int)) (n a b:Nat) (T:d.size=n) (ag:a<=b) (ah:b<=n) (ai:n<2 ^ 40) (l:Ω) (c:Int×Int->Int×Int->Int) (aj:ς 0 l) (V:∀x y,XS prog l [Zj x,Zj y] (J (c x y))) :
  Μ prog 234 [.ms 0 n 0 n,J a,J b,l] [.cells 112 2 (d.toList.map Zj)] (λr s=>r=.ZW []/\s=[.cells 112 2 ((Go.Sort.insertionSort (υ c) d a b).toList.map Zj)]) (λ_ _=>False):=by
 refine Μ.body Ρ func234 rfl rfl ntmps234 rfl rfl I ?_;refine Τ ?_;have X:=Yg (show a+1<2 ^ 62 by omega);refine W.iter (λq:Nat×Array (Int×Int)=>q.2.size=n/\insOuter (υ c) a b q.1 q.2=Go.Sort.insertionSort (υ c) d a b) (λq=>[(0,.ms 0 n 0 n),(1,J a),(2,J b),(3,l),(8,J q.1)]) (λq=>[.cells 112 2 (q.2.toList.map Zj)]) (λq=>b-q.1) (a+1,d) ⟨T,rfl⟩ rfl (by simpa using X) (λq hi H=>?_);obtain⟨i,e⟩:=q;obtain⟨K,B⟩:=hi;simp only at K B;refine Τ ?_;by_cases o:i<b
 .refine Α (by simp[o]) ?_;refine Τ ?_;refine W.iter (λq:Nat×Array (Int×Int)=>q.2.size=n/\q.1<=i/\insInner (υ c) a q.1 q.2=insInner (υ c) a i e) (λq=>[(0,.ms 0 n 0 n),(1,J a),(2,J b),(3,l),(8,J i),(9,J q.1)]) (λq=>[.cells 112 2 (q.2.toList.map Zj)]) (λq=>q.1) (i,e) ⟨K,γ _,rfl⟩ rfl I (λq g Y=>?_);obtain⟨j,f⟩:=q;obtain⟨m,Z,C⟩:=g;simp only at m Z C;have M:insInner (υ c) a j f=f->insOuter (υ c) a b (i+1) f=Go.Sort.insertionSort (υ c) d a b:=λhd=>by
   rw[<-B,<-hd,C];conv=>rhs;rw[insOuter,if_pos o]
  obtain⟨L,k⟩:=Η (f.toList.map Zj);have N:L.length=n:=by rw[k];simpa using m
  refine W.to (σ':=[.cells 112 2 L]) (env':=[(0,.ms 0 n 0 n),(1,J a),(2,J b),(3,l),(8,J i),(9,J j)]) ?_ (by rw[k]) I
  repeat apply Ξ
  by_cases g:a<j
  .obtain⟨p,O⟩:∃p,j=p+1:=⟨j-1,U⟩;have D:IntKind.i64.wrap ((j:Int)-1)=(p:Int):=by have:=Yg (show p<2 ^ 62 by omega);rw[O];simpa using this
   have P:j<n:=U
   have Q:p<n:=U
   have aa:¬j=p:=U;obtain⟨x,t⟩:=Η (f[j]!);obtain⟨y,u⟩:=Η (f[p]!);have E:L[j]?=some (Zj x):=by rw[k,t,YU,Wv,Rz U];rfl
   have F:L[p]?=some (Zj y):=by rw[k,u,YU,Wv,Rz U];rfl
   have R:∀h:j<L.length,L[j]=Zj x:=λh=>by have:=E;rw[δ h] at this;exact Xk this
   have S:∀h:p<L.length,L[p]=Zj y:=λh=>by have:=F;rw[δ h] at this;exact Xk this
   have v:insInner (υ c) a j f=if υ c x y=true then insInner (υ c) a p (swp f j p) else f:=by
    subst O;rw[insInner,t,u];simp[g]
   have ab:(swp f j p).toList.map Zj=(L.set j (Zj y)).set p (Zj x):=by rw[k,t,u];simp[swp]
   have ad:(swp f j p).size=n:=by simp[swp,m]
   have ae:=k;clear t u;refine W.draw (A:=[]) Ρ mixed λak af=>V8 (Υ g (Υ D (Υ N (Υ P (Υ Q (Υ E (Υ F (Υ R S)))))))) ?_;refine Yl (V x y) ?_;simp;(repeat (rw[ZK];simp));try rw[ZL]
   refine Y8 (af _ _ ?_);by_cases w:c x y<0
   .refine Α (by simp[w]) ?_
    repeat apply Ξ
    refine XI (Υ g (Υ D (Υ N (Υ P (Υ Q (Υ E (Υ F (Υ R (Υ S aa))))))))) ?_;refine Τ ?_;refine W.to (Y (p,swp f j p) ⟨ad,by simp;omega,?_⟩ (by simp;omega)) ?_ ?_
    .rw[<-C,v,if_pos (by simp[υ,ltInt,w])]
    .rw[ab]
    .simp[D]
   .refine Ζ (by simp[w]) ?_;refine W.exit rfl ?_;refine Τ ?_;refine W.to (H (i+1,f) ⟨m,M (by rw[v,if_neg (by simp[υ,ltInt,w])])⟩ (by simp;omega)) (by rw[ae]) ?_;have:=Yg (show i+1<2 ^ 62 by omega);simpa using this
  .have v:insInner (υ c) a j f=f:=by
    cases j with
    | zero=>rfl
    | succ p=>rw[insInner];simp[g]
   refine XI g ?_;refine Ζ rfl ?_;refine W.exit rfl ?_;refine Τ ?_;refine W.to (H (i+1,f) ⟨m,M v⟩ (by simp;omega)) (by rw[k]) ?_;have:=Yg (show i+1<2 ^ 62 by omega);simpa using this
 .refine Ζ (by simp[o]) ?_;refine W.exit rfl ?_;have Φ:insOuter (υ c) a b i e=e:=by rw[insOuter,if_neg o]
  exact W.nil ⟨_,rfl,rfl,by rw[<-B,Φ]⟩
theorem xA (d:Array (Found)) (n a b:Nat) (T:d.size=n) (ag:a<=b) (ah:b<=n) (ai:n<2 ^ 40) (l:Ω) (c:Found->Found->Int) (aj:ς 0 l) (V:∀x y,XS prog l [YN x,YN y] (J (c x y))) :
  Μ prog 217 [.ms 0 n 0 n,J a,J b,l] [.cells 110 3 (d.toList.map YN)] (λr s=>r=.ZW []/\s=[.cells 110 3 ((Go.Sort.insertionSort (υ c) d a b).toList.map YN)]) (λ_ _=>False):=by
 refine Μ.body Ρ func217 rfl rfl ntmps217 rfl rfl I ?_;refine Τ ?_;have X:=Yg (show a+1<2 ^ 62 by omega);refine W.iter (λq:Nat×Array (Found)=>q.2.size=n/\insOuter (υ c) a b q.1 q.2=Go.Sort.insertionSort (υ c) d a b) (λq=>[(0,.ms 0 n 0 n),(1,J a),(2,J b),(3,l),(8,J q.1)]) (λq=>[.cells 110 3 (q.2.toList.map YN)]) (λq=>b-q.1) (a+1,d) ⟨T,rfl⟩ rfl (by simpa using X) (λq hi H=>?_);obtain⟨i,e⟩:=q;obtain⟨K,B⟩:=hi;simp only at K B;refine Τ ?_;by_cases o:i<b
 .refine Α (by simp[o]) ?_;refine Τ ?_;refine W.iter (λq:Nat×Array (Found)=>q.2.size=n/\q.1<=i/\insInner (υ c) a q.1 q.2=insInner (υ c) a i e) (λq=>[(0,.ms 0 n 0 n),(1,J a),(2,J b),(3,l),(8,J i),(9,J q.1)]) (λq=>[.cells 110 3 (q.2.toList.map YN)]) (λq=>q.1) (i,e) ⟨K,γ _,rfl⟩ rfl I (λq g Y=>?_);obtain⟨j,f⟩:=q;obtain⟨m,Z,C⟩:=g;simp only at m Z C;have M:insInner (υ c) a j f=f->insOuter (υ c) a b (i+1) f=Go.Sort.insertionSort (υ c) d a b:=λhd=>by
   rw[<-B,<-hd,C];conv=>rhs;rw[insOuter,if_pos o]
  obtain⟨L,k⟩:=Η (f.toList.map YN);have N:L.length=n:=by rw[k];simpa using m
  refine W.to (σ':=[.cells 110 3 L]) (env':=[(0,.ms 0 n 0 n),(1,J a),(2,J b),(3,l),(8,J i),(9,J j)]) ?_ (by rw[k]) I
  repeat apply Ξ
  by_cases g:a<j
  .obtain⟨p,O⟩:∃p,j=p+1:=⟨j-1,U⟩;have D:IntKind.i64.wrap ((j:Int)-1)=(p:Int):=by have:=Yg (show p<2 ^ 62 by omega);rw[O];simpa using this
   have P:j<n:=U
   have Q:p<n:=U
   have aa:¬j=p:=U;obtain⟨x,t⟩:=Η (f[j]!);obtain⟨y,u⟩:=Η (f[p]!);have E:L[j]?=some (YN x):=by rw[k,t,YU,Wv,Rz U];rfl
   have F:L[p]?=some (YN y):=by rw[k,u,YU,Wv,Rz U];rfl
   have R:∀h:j<L.length,L[j]=YN x:=λh=>by have:=E;rw[δ h] at this;exact Xk this
   have S:∀h:p<L.length,L[p]=YN y:=λh=>by have:=F;rw[δ h] at this;exact Xk this
   have v:insInner (υ c) a j f=if υ c x y=true then insInner (υ c) a p (swp f j p) else f:=by
    subst O;rw[insInner,t,u];simp[g]
   have ab:(swp f j p).toList.map YN=(L.set j (YN y)).set p (YN x):=by rw[k,t,u];simp[swp]
   have ad:(swp f j p).size=n:=by simp[swp,m]
   have ae:=k;clear t u;refine W.draw (A:=[]) Ρ mixed λak af=>V8 (Υ g (Υ D (Υ N (Υ P (Υ Q (Υ E (Υ F (Υ R S)))))))) ?_;refine Yl (V x y) ?_;simp;(repeat (rw[ZK];simp));try rw[ZL]
   refine Y8 (af _ _ ?_);by_cases w:c x y<0
   .refine Α (by simp[w]) ?_
    repeat apply Ξ
    refine XI (Υ g (Υ D (Υ N (Υ P (Υ Q (Υ E (Υ F (Υ R (Υ S aa))))))))) ?_;refine Τ ?_;refine W.to (Y (p,swp f j p) ⟨ad,by simp;omega,?_⟩ (by simp;omega)) ?_ ?_
    .rw[<-C,v,if_pos (by simp[υ,ltInt,w])]
    .rw[ab]
    .simp[D]
   .refine Ζ (by simp[w]) ?_;refine W.exit rfl ?_;refine Τ ?_;refine W.to (H (i+1,f) ⟨m,M (by rw[v,if_neg (by simp[υ,ltInt,w])])⟩ (by simp;omega)) (by rw[ae]) ?_;have:=Yg (show i+1<2 ^ 62 by omega);simpa using this
  .have v:insInner (υ c) a j f=f:=by
    cases j with
    | zero=>rfl
    | succ p=>rw[insInner];simp[g]
   refine XI g ?_;refine Ζ rfl ?_;refine W.exit rfl ?_;refine Τ ?_;refine W.to (H (i+1,f) ⟨m,M v⟩ (by simp;omega)) (by rw[k]) ?_;have:=Yg (show i+1<2 ^ 62 by omega);simpa using this
 .refine Ζ (by simp[o]) ?_;refine W.exit rfl ?_;have Φ:insOuter (υ c) a b i e=e:=by rw[insOuter,if_neg o]
  exact W.nil ⟨_,rfl,rfl,by rw[<-B,Φ]⟩
theorem xz (d:Array (Int×Int)) (n a b:Nat) (T:d.size=n) (ag:a<=b) (ah:b<=n) (ai:n<2 ^ 40) (l:Ω) (c:Int×Int->Int×Int->Int) (aj:ς 0 l) (V:∀x y,XS prog l [YP x,YP y] (J (c x y))) :
  Μ prog 183 [.ms 0 n 0 n,J a,J b,l] [.cells 29 1 (d.toList.map YP)] (λr s=>r=.ZW []/\s=[.cells 29 1 ((Go.Sort.insertionSort (υ c) d a b).toList.map YP)]) (λ_ _=>False):=by
 refine Μ.body Ρ func183 rfl rfl ntmps183 rfl rfl I ?_;refine Τ ?_;have X:=Yg (show a+1<2 ^ 62 by omega);refine W.iter (λq:Nat×Array (Int×Int)=>q.2.size=n/\insOuter (υ c) a b q.1 q.2=Go.Sort.insertionSort (υ c) d a b) (λq=>[(0,.ms 0 n 0 n),(1,J a),(2,J b),(3,l),(8,J q.1)]) (λq=>[.cells 29 1 (q.2.toList.map YP)]) (λq=>b-q.1) (a+1,d) ⟨T,rfl⟩ rfl (by simpa using X) (λq hi H=>?_);obtain⟨i,e⟩:=q;obtain⟨K,B⟩:=hi;simp only at K B;refine Τ ?_;by_cases o:i<b
 .refine Α (by simp[o]) ?_;refine Τ ?_;refine W.iter (λq:Nat×Array (Int×Int)=>q.2.size=n/\q.1<=i/\insInner (υ c) a q.1 q.2=insInner (υ c) a i e) (λq=>[(0,.ms 0 n 0 n),(1,J a),(2,J b),(3,l),(8,J i),(9,J q.1)]) (λq=>[.cells 29 1 (q.2.toList.map YP)]) (λq=>q.1) (i,e) ⟨K,γ _,rfl⟩ rfl I (λq g Y=>?_);obtain⟨j,f⟩:=q;obtain⟨m,Z,C⟩:=g;simp only at m Z C;have M:insInner (υ c) a j f=f->insOuter (υ c) a b (i+1) f=Go.Sort.insertionSort (υ c) d a b:=λhd=>by
   rw[<-B,<-hd,C];conv=>rhs;rw[insOuter,if_pos o]
  obtain⟨L,k⟩:=Η (f.toList.map YP);have N:L.length=n:=by rw[k];simpa using m
  refine W.to (σ':=[.cells 29 1 L]) (env':=[(0,.ms 0 n 0 n),(1,J a),(2,J b),(3,l),(8,J i),(9,J j)]) ?_ (by rw[k]) I
  repeat apply Ξ
  by_cases g:a<j
  .obtain⟨p,O⟩:∃p,j=p+1:=⟨j-1,U⟩;have D:IntKind.i64.wrap ((j:Int)-1)=(p:Int):=by have:=Yg (show p<2 ^ 62 by omega);rw[O];simpa using this
   have P:j<n:=U
   have Q:p<n:=U
   have aa:¬j=p:=U;obtain⟨x,t⟩:=Η (f[j]!);obtain⟨y,u⟩:=Η (f[p]!);have E:L[j]?=some (YP x):=by rw[k,t,YU,Wv,Rz U];rfl
   have F:L[p]?=some (YP y):=by rw[k,u,YU,Wv,Rz U];rfl
   have R:∀h:j<L.length,L[j]=YP x:=λh=>by have:=E;rw[δ h] at this;exact Xk this
   have S:∀h:p<L.length,L[p]=YP y:=λh=>by have:=F;rw[δ h] at this;exact Xk this
   have v:insInner (υ c) a j f=if υ c x y=true then insInner (υ c) a p (swp f j p) else f:=by
    subst O;rw[insInner,t,u];simp[g]
   have ab:(swp f j p).toList.map YP=(L.set j (YP y)).set p (YP x):=by rw[k,t,u];simp[swp]
   have ad:(swp f j p).size=n:=by simp[swp,m]
   have ae:=k;clear t u;refine W.draw (A:=[]) Ρ mixed λak af=>V8 (Υ g (Υ D (Υ N (Υ P (Υ Q (Υ E (Υ F (Υ R S)))))))) ?_;refine Yl (V x y) ?_;simp;(repeat (rw[ZK];simp));try rw[ZL]
   refine Y8 (af _ _ ?_);by_cases w:c x y<0
   .refine Α (by simp[w]) ?_
    repeat apply Ξ
    refine XI (Υ g (Υ D (Υ N (Υ P (Υ Q (Υ E (Υ F (Υ R (Υ S aa))))))))) ?_;refine Τ ?_;refine W.to (Y (p,swp f j p) ⟨ad,by simp;omega,?_⟩ (by simp;omega)) ?_ ?_
    .rw[<-C,v,if_pos (by simp[υ,ltInt,w])]
    .rw[ab]
    .simp[D]
   .refine Ζ (by simp[w]) ?_;refine W.exit rfl ?_;refine Τ ?_;refine W.to (H (i+1,f) ⟨m,M (by rw[v,if_neg (by simp[υ,ltInt,w])])⟩ (by simp;omega)) (by rw[ae]) ?_;have:=Yg (show i+1<2 ^ 62 by omega);simpa using this
  .have v:insInner (υ c) a j f=f:=by
    cases j with
    | zero=>rfl
    | succ p=>rw[insInner];simp[g]
   refine XI g ?_;refine Ζ rfl ?_;refine W.exit rfl ?_;refine Τ ?_;refine W.to (H (i+1,f) ⟨m,M v⟩ (by simp;omega)) (by rw[k]) ?_;have:=Yg (show i+1<2 ^ 62 by omega);simpa using this
 .refine Ζ (by simp[o]) ?_;refine W.exit rfl ?_;have Φ:insOuter (υ c) a b i e=e:=by rw[insOuter,if_neg o]
  exact W.nil ⟨_,rfl,rfl,by rw[<-B,Φ]⟩
theorem Du (d:Array (Int)) (n a b:Nat) (R:d.size=n) (ad:a<=b) (ae:b<=n) (af:n<2 ^ 40)  :
  Μ prog 197 [.ms 0 n 0 n,J a,J b] [.cells 3 1 (d.toList.map J)] (λr s=>r=.ZW []/\s=[.cells 3 1 ((Go.Sort.insertionSort (ltInt) d a b).toList.map J)]) (λ_ _=>False):=by
 refine Μ.body Ρ func197 rfl rfl ntmps197 rfl rfl I ?_;refine Τ ?_;have S:=Yg (show a+1<2 ^ 62 by omega);refine W.iter (λq:Nat×Array (Int)=>q.2.size=n/\insOuter (ltInt) a b q.1 q.2=Go.Sort.insertionSort (ltInt) d a b) (λq=>[(0,.ms 0 n 0 n),(1,J a),(2,J b),(6,J q.1)]) (λq=>[.cells 3 1 (q.2.toList.map J)]) (λq=>b-q.1) (a+1,d) ⟨R,rfl⟩ rfl (by simpa using S) (λq hi E=>?_);obtain⟨i,e⟩:=q;obtain⟨F,v⟩:=hi;simp only at F v;refine Τ ?_;by_cases l:i<b
 .refine Α (by simp[l]) ?_;refine Τ ?_;refine W.iter (λq:Nat×Array (Int)=>q.2.size=n/\q.1<=i/\insInner (ltInt) a q.1 q.2=insInner (ltInt) a i e) (λq=>[(0,.ms 0 n 0 n),(1,J a),(2,J b),(6,J i),(7,J q.1)]) (λq=>[.cells 3 1 (q.2.toList.map J)]) (λq=>q.1) (i,e) ⟨F,γ _,rfl⟩ rfl I (λq c T=>?_);obtain⟨j,f⟩:=q;obtain⟨k,V,w⟩:=c;simp only at k V w;have H:insInner (ltInt) a j f=f->insOuter (ltInt) a b (i+1) f=Go.Sort.insertionSort (ltInt) d a b:=λhd=>by
   rw[<-v,<-hd,w];conv=>rhs;rw[insOuter,if_pos l]
  obtain⟨L,g⟩:=Η (f.toList.map J);have K:L.length=n:=by rw[g];simpa using k
  refine W.to (σ':=[.cells 3 1 L]) (env':=[(0,.ms 0 n 0 n),(1,J a),(2,J b),(6,J i),(7,J j)]) ?_ (by rw[g]) I
  repeat apply Ξ
  by_cases c:a<j
  .obtain⟨p,M⟩:∃p,j=p+1:=⟨j-1,U⟩;have B:IntKind.i64.wrap ((j:Int)-1)=(p:Int):=by have:=Yg (show p<2 ^ 62 by omega);rw[M];simpa using this
   have N:j<n:=U
   have O:p<n:=U
   have X:¬j=p:=U;obtain⟨x,m⟩:=Η (f[j]!);obtain⟨y,o⟩:=Η (f[p]!);have C:L[j]?=some (J x):=by rw[g,m,YU,Wv,Rz U];rfl
   have D:L[p]?=some (J y):=by rw[g,o,YU,Wv,Rz U];rfl
   have P:∀h:j<L.length,L[j]=J x:=λh=>by have:=C;rw[δ h] at this;exact Xk this
   have Q:∀h:p<L.length,L[p]=J y:=λh=>by have:=D;rw[δ h] at this;exact Xk this
   have t:insInner (ltInt) a j f=if ltInt x y=true then insInner (ltInt) a p (swp f j p) else f:=by
    subst M;rw[insInner,m,o];simp[c]
   have Y:(swp f j p).toList.map J=(L.set j (J y)).set p (J x):=by rw[g,m,o];simp[swp]
   have Z:(swp f j p).size=n:=by simp[swp,k]
   have aa:=g;clear m o;refine W.draw (A:=[]) Ρ mixed λag ab=>V8 (Υ c (Υ B (Υ K (Υ N (Υ O (Υ C (Υ D (Υ P Q)))))))) ?_;refine Yl (Ε.p (Ta x y) (ZM.refl _) I I) ?_;simp;(repeat (rw[ZK];simp));try rw[ZL]
   refine Y8 (ab _ _ ?_);by_cases u:x<y
   .refine Α (by simp[u]) ?_
    repeat apply Ξ
    refine XI (Υ c (Υ B (Υ K (Υ N (Υ O (Υ C (Υ D (Υ P (Υ Q X))))))))) ?_;refine Τ ?_;refine W.to (T (p,swp f j p) ⟨Z,by simp;omega,?_⟩ (by simp;omega)) ?_ ?_
    .rw[<-w,t,if_pos (by simp[υ,ltInt,u])]
    .rw[Y]
    .simp[B]
   .refine Ζ (by simp[u]) ?_;refine W.exit rfl ?_;refine Τ ?_;refine W.to (E (i+1,f) ⟨k,H (by rw[t,if_neg (by simp[υ,ltInt,u])])⟩ (by simp;omega)) (by rw[aa]) ?_;have:=Yg (show i+1<2 ^ 62 by omega);simpa using this
  .have t:insInner (ltInt) a j f=f:=by
    cases j with
    | zero=>rfl
    | succ p=>rw[insInner];simp[c]
   refine XI c ?_;refine Ζ rfl ?_;refine W.exit rfl ?_;refine Τ ?_;refine W.to (E (i+1,f) ⟨k,H t⟩ (by simp;omega)) (by rw[g]) ?_;have:=Yg (show i+1<2 ^ 62 by omega);simpa using this
 .refine Ζ (by simp[l]) ?_;refine W.exit rfl ?_;have Φ:insOuter (ltInt) a b i e=e:=by rw[insOuter,if_neg l]
  exact W.nil ⟨_,rfl,rfl,by rw[<-v,Φ]⟩
theorem xy (n:Nat) (h:n<256):Ε prog 192 [.z (.int .u64 n)] (J (bitsLen n)):=by
 refine Μ.body Ρ func192 rfl rfl ntmps192 rfl rfl I ?_;have f:¬(n:Int)>=4294967296:=U;have g:¬(n:Int)>=65536:=U;have j:¬(n:Int)>=256:=U;have a:¬(4294967296:Int)<=n:=U;have b:¬(65536:Int)<=n:=U;have c:¬(256:Int)<=n:=U;refine Γ @a ?_;refine Ζ rfl ?_;refine Γ b ?_;refine Ζ rfl ?_;refine Γ c ?_;refine Ζ rfl ?_;have d:IntKind.u8.wrap (n:Int)=n:=by unfold IntKind.wrap;simp[IntKind.bits,IntKind.signed];omega
 refine XB d λk e=>?_;refine⟨Nat.lt_of_lt_of_eq h (by kernel_rfl),?_⟩;apply e;refine Τ ?_;refine W.ret ⟨_,rfl,?_,rfl⟩;refine .of (congrArg (λi=>Ω.z (.int .i64 i)) ?_);apply xI n h;decide +kernel
theorem QK (n:Nat) (h:n<256):Ε prog 150 [.z (.int .u64 n)] (J (bitsLen n)):=by
 refine Μ.body Ρ func150 rfl rfl ntmps150 rfl rfl I ?_;refine Τ ?_;refine Ζ rfl ?_;refine Z' λb a=>?_;refine Ε.d (xy n h) (Z6 ?_);apply a;refine Τ ?_;refine W.rt ?_;exact .of rfl
theorem PR (y:Int×Int):∀a∈(Zj y).cells,ς 0 a:=by simp[Ω.cells]
theorem M7 (y:Found):∀a∈(YN y).cells,ς 0 a:=by simp[Ω.cells]
theorem Lz (y:Int×Int):∀a∈(YP y).cells,ς 0 a:=by simp[Ω.cells]
theorem QJ (y:Int):∀a∈(J y).cells,ς 0 a:=by simp[Ω.cells]
theorem xx (d:Array (Int×Int)) (n i:Nat) (j:d.size=n) (p:n<=12) (b:Ω) (c:Int×Int->Int×Int->Int) (f:ς 0 b) (k:∀x y,XS prog b [Zj x,Zj y] (J (c x y))) :
  Μ prog 211 [.ms 0 n 0 n,J 0,J n,J i,b] [.cells 112 2 (d.toList.map Zj)] (λr s=>r=.ZW []/\s=[.cells 112 2 ((Go.Sort.insertionSort (υ c) d 0 n).toList.map Zj)]) (λ_ _=>False):=by
 refine Μ.body Ρ func211 rfl rfl ntmps211 rfl rfl I ?_;have l:=Yg (show n<2 ^ 62 by omega);have Φ:(n:Int)<=12:=U;refine Τ ?_;refine .loop ?_;refine Γ l ?_;refine Α (by simp;omega) ?_;refine Z' λt m=>?_;refine Μ.one (Dv d n 0 n j (χ _) (γ _) U b c f k) 0 rfl (λe g a h=>by
  obtain⟨y,o,rfl⟩:=Zq.1 g;exact PR y a h) (λe g a h=>by
  obtain⟨y,o,rfl⟩:=Zq.1 g;exact PR y a h) (by simp[UG,N',f.Wh 1]) (by simp[XC]) (by simp[UF,TN,f.Yx [0]]) ?_
 simp[Yx,WM];(repeat (rw[Ν];simp));apply m;exact W.ret ⟨_,rfl,rfl,rfl⟩
theorem xw (d:Array (Int×Int)) (n:Nat) (c:d.size=n) (j:n<=12) (b:Ω) (f:Int×Int->Int×Int->Int) (g:ς 0 b) (k:∀x y,XS prog b [Zj x,Zj y] (J (f x y))) :
  Μ prog 173 [.ms 0 n 0 n,b] [.cells 112 2 (d.toList.map Zj)] (λr s=>r=.ZW []/\s=[.cells 112 2 ((Go.Sort.insertionSort (υ f) d 0 n).toList.map Zj)]) (λ_ _=>False):=by
 refine Μ.body Ρ func173 rfl rfl ntmps173 rfl rfl I ?_;have l:=Yg (show n<2 ^ 62 by omega);have Φ:IntKind.u64.wrap (n:Int)=n:=by unfold IntKind.wrap;simp[IntKind.bits,IntKind.signed];omega
 refine Γ c ?_;(repeat apply Ξ);refine Y9 λp m=>?_;simp;(repeat (rw[Ν];simp[c,l,Φ]));refine Ε.d (QK n U) (Z6 ?_);refine Μ.one (xx d n (bitsLen n) c j b f g k) 0 rfl (λe h a i=>by
  obtain⟨y,o,rfl⟩:=Zq.1 h;exact PR y a i) (λe h a i=>by
  obtain⟨y,o,rfl⟩:=Zq.1 h;exact PR y a i) (by simp[UG,N',g.Wh 1]) (by simp[XC]) (by simp[UF,TN,g.Yx [0]]) ?_
 simp[Yx,WM];(repeat (rw[Ν];simp));apply m;exact W.nil ⟨_,rfl,rfl,rfl⟩
theorem xv (d:Array (Found)) (n i:Nat) (j:d.size=n) (p:n<=12) (b:Ω) (c:Found->Found->Int) (f:ς 0 b) (k:∀x y,XS prog b [YN x,YN y] (J (c x y))) :
  Μ prog 182 [.ms 0 n 0 n,J 0,J n,J i,b] [.cells 110 3 (d.toList.map YN)] (λr s=>r=.ZW []/\s=[.cells 110 3 ((Go.Sort.insertionSort (υ c) d 0 n).toList.map YN)]) (λ_ _=>False):=by
 refine Μ.body Ρ func182 rfl rfl ntmps182 rfl rfl I ?_;have l:=Yg (show n<2 ^ 62 by omega);have Φ:(n:Int)<=12:=U;refine Τ ?_;refine .loop ?_;refine Γ l ?_;refine Α (by simp;omega) ?_;refine Z' λt m=>?_;refine Μ.one (xA d n 0 n j (χ _) (γ _) U b c f k) 0 rfl (λe g a h=>by
  obtain⟨y,o,rfl⟩:=Zq.1 g;exact M7 y a h) (λe g a h=>by
  obtain⟨y,o,rfl⟩:=Zq.1 g;exact M7 y a h) (by simp[UG,N',f.Wh 1]) (by simp[XC]) (by simp[UF,TN,f.Yx [0]]) ?_
 simp[Yx,WM];(repeat (rw[Ν];simp));apply m;exact W.ret ⟨_,rfl,rfl,rfl⟩
theorem xu (d:Array (Found)) (n:Nat) (c:d.size=n) (j:n<=12) (b:Ω) (f:Found->Found->Int) (g:ς 0 b) (k:∀x y,XS prog b [YN x,YN y] (J (f x y))) :
  Μ prog 147 [.ms 0 n 0 n,b] [.cells 110 3 (d.toList.map YN)] (λr s=>r=.ZW []/\s=[.cells 110 3 ((Go.Sort.insertionSort (υ f) d 0 n).toList.map YN)]) (λ_ _=>False):=by
 refine Μ.body Ρ func147 rfl rfl ntmps147 rfl rfl I ?_;have l:=Yg (show n<2 ^ 62 by omega);have Φ:IntKind.u64.wrap (n:Int)=n:=by unfold IntKind.wrap;simp[IntKind.bits,IntKind.signed];omega
 refine Γ c ?_;(repeat apply Ξ);refine Y9 λp m=>?_;simp;(repeat (rw[Ν];simp[c,l,Φ]));refine Ε.d (QK n U) (Z6 ?_);refine Μ.one (xv d n (bitsLen n) c j b f g k) 0 rfl (λe h a i=>by
  obtain⟨y,o,rfl⟩:=Zq.1 h;exact M7 y a i) (λe h a i=>by
  obtain⟨y,o,rfl⟩:=Zq.1 h;exact M7 y a i) (by simp[UG,N',g.Wh 1]) (by simp[XC]) (by simp[UF,TN,g.Yx [0]]) ?_
 simp[Yx,WM];(repeat (rw[Ν];simp));apply m;exact W.nil ⟨_,rfl,rfl,rfl⟩
theorem xr (d:Array (Int)) (n f:Nat) (g:d.size=n) (k:n<=12)  :
  Μ prog 157 [.ms 0 n 0 n,J 0,J n,J f] [.cells 3 1 (d.toList.map J)] (λr s=>r=.ZW []/\s=[.cells 3 1 ((Go.Sort.insertionSort (ltInt) d 0 n).toList.map J)]) (λ_ _=>False):=by
 refine Μ.body Ρ func157 rfl rfl ntmps157 rfl rfl I ?_;have h:=Yg (show n<2 ^ 62 by omega);have Φ:(n:Int)<=12:=U;refine Τ ?_;refine .loop ?_;refine Γ h ?_;refine Α (by simp;omega) ?_;refine Z' λl i=>?_;refine Μ.one (Du d n 0 n g (χ _) (γ _) U) 0 rfl (λe b a c=>by
  obtain⟨y,j,rfl⟩:=Zq.1 b;exact QJ y a c) (λe b a c=>by
  obtain⟨y,j,rfl⟩:=Zq.1 b;exact QJ y a c) (by simp[UG,N']) (by simp[XC]) (by simp[UF,TN]) ?_
 simp[Yx,WM];(repeat (rw[Ν];simp));apply i;exact W.ret ⟨_,rfl,rfl,rfl⟩
theorem xq (d:Array (Int)) (n:Nat) (b:d.size=n) (g:n<=12)  :
  Μ prog 132 [.ms 0 n 0 n] [.cells 3 1 (d.toList.map J)] (λr s=>r=.ZW []/\s=[.cells 3 1 ((Go.Sort.insertionSort (ltInt) d 0 n).toList.map J)]) (λ_ _=>False):=by
 refine Μ.body Ρ func132 rfl rfl ntmps132 rfl rfl I ?_;have h:=Yg (show n<2 ^ 62 by omega);have Φ:IntKind.u64.wrap (n:Int)=n:=by unfold IntKind.wrap;simp[IntKind.bits,IntKind.signed];omega
 refine Γ b ?_;(repeat apply Ξ);refine Y9 λk i=>?_;simp;(repeat (rw[Ν];simp[b,h,Φ]));refine Ε.d (QK n U) (Z6 ?_);refine Μ.one (xr d n (bitsLen n) b g) 0 rfl (λe c a f=>by
  obtain⟨y,j,rfl⟩:=Zq.1 c;exact QJ y a f) (λe c a f=>by
  obtain⟨y,j,rfl⟩:=Zq.1 c;exact QJ y a f) (by simp[UG,N']) (by simp[XC]) (by simp[UF,TN]) ?_
 simp[Yx,WM];(repeat (rw[Ν];simp));apply i;exact W.nil ⟨_,rfl,rfl,rfl⟩
theorem xp (l:List Int) (b:Ω) (p:Int->Bool) (g:l.length<2 ^ 62) (o:ς 0 b) (k:∀x∈l,XS prog b [J x] (Z4 (p x))):Ε prog 131 [Z9 J 1 l,b] (J (idxOf p l)):=by
 refine Μ.body Ρ func131 rfl rfl ntmps131 rfl rfl I ?_;refine Τ ?_;refine W.iter (λi:Nat=>i<=l.length/\∀j,j<i->(h:j<l.length)->p l[j]=false) (λi=>[(0,Z9 J 1 l),(1,b),(6,Z9 J 1 l),(7,J l.length),(8,J i)]) (λ_=>[]) (λi=>l.length-i) 0 ⟨χ _,λj f=>U⟩ rfl I (λi hi m=>?_);refine Τ ?_;refine W.Yv rfl (λa=>?_) (λa=>?_)
 .have a:i<l.length:=by simpa using a
  refine Γ a ?_;refine XB a λr n=>?_;refine(k _ (YF a)).c ?_;simp;(repeat (rw[Ν];simp));apply n;cases d:p l[i]
  .refine Ζ (by simp[d]) ?_;refine Τ ?_;refine W.forget _ ?_ (m (i+1) ⟨U,λj f h=>?_⟩ U)
   .simp[X5 a g]
   .by_cases e:j=i
    .subst e;exact d
    .exact hi.2 j U h
  .refine Α (by simp[d]) ?_;refine Τ ?_;refine W.rt ?_;exact .of (by rw[LD a d hi.2];rfl)
 .have a:l.length<=i:=by simpa using a
  refine W.exit rfl ?_;refine Τ ?_;refine W.rt ?_;exact .of (by rw[LC λj f=>hi.2 j U f];rfl)
theorem xo (l:List Int) (a:Ω) (p:Int->Bool) (d:l.length<2 ^ 62) (b:ς 0 a) (e:∀x∈l,XS prog a [J x] (Z4 (p x))):Ε prog 94 [Z9 J 1 l,a] (Z4 (l.any p)):=by
 refine Μ.body Ρ func94 rfl rfl ntmps94 rfl rfl I ?_;refine Τ ?_;refine Z' λg f=>?_;refine Ε.c (xp l a p d b e) (ZM.refl _) (by simp[b]) I ?_;simp;(repeat (rw[Ν];simp));apply f;refine Τ ?_;refine W.rt ?_;exact .of (by rw[<-LB (p:=p)];rfl)
theorem xn (l:List T9) (b:Ω) (p:T9->Bool) (g:l.length<2 ^ 62) (o:ς 0 b) (k:∀x∈l,XS prog b [XW x] (Z4 (p x))):Ε prog 100 [Z9 XW 2 l,b] (J (idxOf p l)):=by
 refine Μ.body Ρ func100 rfl rfl ntmps100 rfl rfl I ?_;refine Τ ?_;refine W.iter (λi:Nat=>i<=l.length/\∀j,j<i->(h:j<l.length)->p l[j]=false) (λi=>[(0,Z9 XW 2 l),(1,b),(6,Z9 XW 2 l),(7,J l.length),(8,J i)]) (λ_=>[]) (λi=>l.length-i) 0 ⟨χ _,λj f=>U⟩ rfl I (λi hi m=>?_);refine Τ ?_;refine W.Yv rfl (λa=>?_) (λa=>?_)
 .have a:i<l.length:=by simpa using a
  refine Γ a ?_;refine XB a λr n=>?_;refine(k _ (YF a)).c ?_;simp;(repeat (rw[Ν];simp));apply n;cases d:p l[i]
  .refine Ζ (by simp[d]) ?_;refine Τ ?_;refine W.forget _ ?_ (m (i+1) ⟨U,λj f h=>?_⟩ U)
   .simp[X5 a g]
   .by_cases e:j=i
    .subst e;exact d
    .exact hi.2 j U h
  .refine Α (by simp[d]) ?_;refine Τ ?_;refine W.rt ?_;exact .of (by rw[LD a d hi.2];rfl)
 .have a:l.length<=i:=by simpa using a
  refine W.exit rfl ?_;refine Τ ?_;refine W.rt ?_;exact .of (by rw[LC λj f=>hi.2 j U f];rfl)
theorem xm (l:List T9) (a:Ω) (p:T9->Bool) (d:l.length<2 ^ 62) (b:ς 0 a) (e:∀x∈l,XS prog a [XW x] (Z4 (p x))):Ε prog 135 [Z9 XW 2 l,a] (Z4 (l.any p)):=by
 refine Μ.body Ρ func135 rfl rfl ntmps135 rfl rfl I ?_;refine Τ ?_;refine Z' λg f=>?_;refine Ε.c (xn l a p d b e) (ZM.refl _) (by simp[b]) I ?_;simp;(repeat (rw[Ν];simp));apply f;refine Τ ?_;refine W.rt ?_;exact .of (by rw[<-LB (p:=p)];rfl)
theorem xl (l:List Zw) (b:Ω) (p:Zw->Bool) (g:l.length<2 ^ 62) (o:ς 0 b) (k:∀x∈l,XS prog b [Zv x] (Z4 (p x))):Ε prog 230 [Z9 Zv 3 l,b] (J (idxOf p l)):=by
 refine Μ.body Ρ func230 rfl rfl ntmps230 rfl rfl I ?_;refine Τ ?_;refine W.iter (λi:Nat=>i<=l.length/\∀j,j<i->(h:j<l.length)->p l[j]=false) (λi=>[(0,Z9 Zv 3 l),(1,b),(6,Z9 Zv 3 l),(7,J l.length),(8,J i)]) (λ_=>[]) (λi=>l.length-i) 0 ⟨χ _,λj f=>U⟩ rfl I (λi hi m=>?_);refine Τ ?_;refine W.Yv rfl (λa=>?_) (λa=>?_)
 .have a:i<l.length:=by simpa using a
  refine Γ a ?_;refine XB a λr n=>?_;refine(k _ (YF a)).c ?_;simp;(repeat (rw[Ν];simp));apply n;cases d:p l[i]
  .refine Ζ (by simp[d]) ?_;refine Τ ?_;refine W.forget _ ?_ (m (i+1) ⟨U,λj f h=>?_⟩ U)
   .simp[X5 a g]
   .by_cases e:j=i
    .subst e;exact d
    .exact hi.2 j U h
  .refine Α (by simp[d]) ?_;refine Τ ?_;refine W.rt ?_;exact .of (by rw[LD a d hi.2];rfl)
 .have a:l.length<=i:=by simpa using a
  refine W.exit rfl ?_;refine Τ ?_;refine W.rt ?_;exact .of (by rw[LC λj f=>hi.2 j U f];rfl)
theorem xk (l:List Zw) (a:Ω) (p:Zw->Bool) (d:l.length<2 ^ 62) (b:ς 0 a) (e:∀x∈l,XS prog a [Zv x] (Z4 (p x))):Ε prog 194 [Z9 Zv 3 l,a] (Z4 (l.any p)):=by
 refine Μ.body Ρ func194 rfl rfl ntmps194 rfl rfl I ?_;refine Τ ?_;refine Z' λg f=>?_;refine Ε.c (xl l a p d b e) (ZM.refl _) (by simp[b]) I ?_;simp;(repeat (rw[Ν];simp));apply f;refine Τ ?_;refine W.rt ?_;exact .of (by rw[<-LB (p:=p)];rfl)
def VA:List Int->Int
 | []=>0
 | e::l=>if e=0 then VA l else e
theorem xj {l:List Int} {i:Nat} (h:i<l.length) (a:l[i]≠0) (b:∀j,j<i->(c:j<l.length)->l[j]=0):VA l=l[i]:=by
 induction l generalizing i with
 | nil=>cases h
 | cons e l d=>
  cases i with
  | zero=>simp at a;simp[VA,a]
  | succ i=>
   have f:e=0:=b 0 U I;simp only[VA,f,if_true,List.getElem_cons_succ];exact d (by simpa using h) (by simpa using a) λj c g=>b (j+1) U (by simpa using g)
theorem xi {l:List Int} (h:∀j,(a:j<l.length)->l[j]=0):VA l=0:=by
 induction l with
 | nil=>rfl
 | cons e l b=>
  have c:e=0:=h 0 I;simp only[VA,c,if_true];exact b λj a=>h (j+1) (by simpa using a)
theorem Ly {f:Nat->Int} {n i:Nat} {e:Int} (h:i<n) (a:f i=e) (b:e≠0) (c:∀j,j<i->f j=0):VA ((List.range n).map f)=e:=by
 rw[xj (i:=i) (by simpa using h) (by simp[a,b]) (λj d g=>by simpa using c j d)];simp[a]
theorem Lx {f:Nat->Int} {n:Nat} (h:∀j,j<n->f j=0):VA ((List.range n).map f)=0:=
 xi λj a=>by simpa using h j (by simpa using a)
def PQ (n:ByteArray):Bool:=n.size != 1||J2 n ⟨#[97]⟩||!P6 n ⟨#[122]⟩
def Ry (l:List T9) (i:Nat):Int:=match l[i]? with
 | none=>0
 | some g=>if PQ g.name then 2 else if 0<i/\P6 g.name ((l[i-1]?.map (·.name)).getD ⟨#[]⟩)=true then 5 else if g.X0<1\/63<g.X0 then 1 else if(l.take i).any (λx=>x.X0==g.X0) then 4 else 0
def SG (l:List T9):Int:=if l.length=0 then 7 else if 6<l.length then 6 else VA ((List.range l.length).map (Ry l))
theorem xh (g x:T9):Ε prog 136 [XW x,.Θ [Tc g.name,J g.X0]] (Z4 (x.X0==g.X0)):=by
 refine Μ.body Ρ func136 rfl rfl ntmps136 rfl rfl I ?_;refine Τ ?_;refine W.rt ?_;exact .of (by simp)
theorem xg (s:ψ) (v:s.small):Ε prog 103 [Yz s] (J (SG s.Ι)):=by
 refine Μ.body Ρ func103 rfl rfl ntmps103 rfl rfl I ?_;have K:=v.1;by_cases b:s.Ι.length=0
 .refine Γ b ?_;refine Α I ?_;refine Τ ?_;refine W.rt ?_;exact .of (by rw[show SG s.Ι=7 by simp[SG,b]];rfl)
 by_cases k:(6:Int)<s.Ι.length
 .refine Γ (Υ b k) ?_;refine Ζ (by simp[b]) ?_;refine Γ (Υ b k) ?_;refine Α I ?_;refine Τ ?_;refine W.rt ?_;exact .of (by rw[show SG s.Ι=6 by simp[SG,b];omega];rfl)
 have w:SG s.Ι=VA ((List.range s.Ι.length).map (Ry s.Ι)):=by
  unfold SG;rw[if_neg b,if_neg U]
 rw[w];refine Γ (Υ b k) ?_;refine Ζ (by simp[b]) ?_;refine Γ (Υ b k) ?_;refine Ζ I ?_;refine Τ ?_;refine W.iter (λi:Nat=>i<=s.Ι.length/\∀j,j<i->Ry s.Ι j=0) (λi=>[(1,.Θ [ν s.Ι,ξ s.Δ,Z2 s.cells]),(17,ν s.Ι),(18,J s.Ι.length),(19,J i)]) (λ_=>[]) (λi=>s.Ι.length-i) 0 ⟨U,λj r=>U⟩ rfl I (λi hi y=>?_);refine Τ ?_;refine W.Yv rfl (λa=>?_) (λa=>?_)
 .have a:i<s.Ι.length:=by simpa using a
  have d:s.Ι[i]?=some s.Ι[i]:=δ a
  have l:∀e:Int,Ry s.Ι i=e->e≠0->VA ((List.range s.Ι.length).map (Ry s.Ι))=e:=λe B m=>Ly a B m hi.2
  repeat apply Ξ
  refine Y4 (A:=[4]) Ρ λC o=>XJ a ?_;apply o;refine W.fix (id:=0) (σ':=[]) (χ _) rfl I I rfl [(1,.Θ [ν s.Ι,ξ s.Δ,Z2 s.cells]),(17,ν s.Ι),(18,J s.Ι.length),(19,J i),(3,J i),(4,.Θ [Tc s.Ι[i].name,J s.Ι[i].X0])] I ?_
  repeat apply Ξ
  refine W.RA (A:=[]) Ρ [(1,.Θ [ν s.Ι,ξ s.Δ,Z2 s.cells]),(17,ν s.Ι),(18,J s.Ι.length),(19,J i),(3,J i),(4,.Θ [Tc s.Ι[i].name,J s.Ι[i].X0]),(5,ν (s.Ι.take i))] ?_ (by simp[Ν,Td,Sr a])
  repeat apply Ξ
  refine W.RA (A:=[]) Ρ [(28,Z4 (PQ s.Ι[i].name)),(1,.Θ [ν s.Ι,ξ s.Δ,Z2 s.cells]),(17,ν s.Ι),(18,J s.Ι.length),(19,J i),(3,J i),(4,.Θ [Tc s.Ι[i].name,J s.Ι[i].X0]),(5,ν (s.Ι.take i))] ?_ (by
   unfold PQ;by_cases t:(s.Ι[i].name.size:Int)=1
   .have p:s.Ι[i].name.size=1:=U
    cases D:J2 s.Ι[i].name ⟨#[97]⟩<;>simp[Ν,Td,t,D,p]
   .have p:¬s.Ι[i].name.size=1:=U
    simp[Ν,Td,t,p])
  cases f:PQ s.Ι[i].name
  case true=>
   refine Α rfl ?_;refine Τ ?_;refine W.rt ?_;exact .of (by rw[l 2 (by simp[Ry,d,f]) ZY];rfl)
  refine Ζ rfl ?_
  repeat apply Ξ
  refine W.M' (A:=[]) Ρ mixed [(43,Z4 (decide (0<i)&&P6 s.Ι[i].name ((s.Ι[i-1]?.map (·.name)).getD ⟨#[]⟩))),(1,.Θ [ν s.Ι,ξ s.Δ,Z2 s.cells]),(17,ν s.Ι),(18,J s.Ι.length),(19,J i),(3,J i),(4,.Θ [Tc s.Ι[i].name,J s.Ι[i].X0]),(5,ν (s.Ι.take i))] ?_ (by
   cases i with
   | zero=>simp[ZK,ZL];exact XD (by kernel_rfl)
   | succ n=>
    have E:n<s.Ι.length:=U
    have F:=Yg (show n<2 ^ 62 by omega)
    have m:(0:Int)<(n:Int)+1:=U
    have H:n<min (n+1) s.Ι.length:=U;simp[ZK,ZL,m,E,F,H];exact XD (by kernel_rfl))
  cases bo:decide (0<i)&&P6 s.Ι[i].name ((s.Ι[i-1]?.map (·.name)).getD ⟨#[]⟩)
  case true=>
   refine Α rfl ?_;refine Τ ?_;refine W.rt ?_;exact .of (by rw[l 5 (by simp at bo;simp[Ry,d,f,bo]) ZY];rfl)
  refine Ζ rfl ?_
  repeat apply Ξ
  refine W.RA (A:=[]) Ρ [(57,Z4 (decide (s.Ι[i].X0<1)||decide (63<s.Ι[i].X0))),(1,.Θ [ν s.Ι,ξ s.Δ,Z2 s.cells]),(17,ν s.Ι),(18,J s.Ι.length),(19,J i),(3,J i),(4,.Θ [Tc s.Ι[i].name,J s.Ι[i].X0]),(5,ν (s.Ι.take i))] ?_ (by by_cases q:s.Ι[i].X0<1<;>simp[Ν,Td,q]);have bo':¬(0<i/\P6 s.Ι[i].name ((s.Ι[i-1]?.map (·.name)).getD ⟨#[]⟩)=true):=λh=>by simp[h] at bo
  by_cases g:s.Ι[i].X0<1\/63<s.Ι[i].X0
  case pos=>
   refine Α (by simpa using g) ?_;refine Τ ?_;refine W.rt ?_;exact .of (by rw[l 1 (by simp only[Ry,d,f];rw[if_neg bo',if_pos g];rfl) ZY];rfl)
  refine Ζ (by simpa using g) ?_;refine Z' λC o=>?_;refine Ε.c (xm (s.Ι.take i) (.fn (.func 136) [] [.Θ [Tc s.Ι[i].name,J s.Ι[i].X0]]) (λx=>x.X0==s.Ι[i].X0) (by simp;omega) (by simp[Va]) (λx _=>λ_=>(xh s.Ι[i] x).cc (by simp;exact ZM.refl _) I I ⟨rfl,rfl⟩)) (ZM.refl _) (by simp[Va]) I ?_;simp;(repeat (rw[Ν];simp));apply o;cases u:(s.Ι.take i).any (λx=>x.X0==s.Ι[i].X0)
  case true=>
   refine Α I ?_;refine Τ ?_;refine W.rt ?_;exact .of (by rw[l 4 (by simp only[Ry,d,f];rw[if_neg bo',if_neg g,u];rfl) ZY];rfl)
  refine Ζ I ?_;refine Τ ?_;refine W.forget _ ?_ (y (i+1) ⟨a,λj r=>?_⟩ U)
  .simp[X5 a (show s.Ι.length<2 ^ 62 by omega)]
  .by_cases e:j=i
   .subst e;simp only[Ry,d,f];rw[if_neg bo',if_neg g,u];rfl
   .exact hi.2 j U
 .have a:s.Ι.length<=i:=by simpa using a
  refine W.exit rfl ?_;refine Τ ?_;refine W.rt ?_;exact .of (by rw[Lx λj r=>hi.2 j U];rfl)
end Go.TL
namespace Go.TL
open Go.Proofs.Tryz
open Go.Sort (bitsLen insInner insOuter ltInt swp)
open Go.Conc
variable [ZX]
structure Base where
 S:μ
 B:Z8
 H:Χ
 σ:Ο
 m:Nat
def V (P:Program) (a:Value->Prop) (mn:Bool) (x:W2) (b:Frame) (cs:List Frame) (nt:Nat) (o:Base) (k:List Item) (env:ω) (σ:Ο):Prop:=
 ∀(S:μ) (B:Z8) (H:Χ) (t:Array Value),XX o.m o.S o.B o.H o.σ S B H σ->Xw o.m nt S B H σ env t->ι P a mn x (ο b t k) cs H
def Dt (P:Program) (c:Value->Prop) (mn:Bool) (x:W2) (b:Frame) (cs:List Frame) (o:Base) (a:Ω) (env:ω) (σ:Ο):Prop:=
 ∀(S:μ) (B:Z8) (H:Χ) (t:Array Value) (k:List Item) (v:Value),XX o.m o.S o.B o.H o.σ S B H σ->Holds S B σ H->YT S B σ env t->π S B σ a v->ι P c mn x {ο b t k with mode:=.panicking [{v,recovered:=false}]} cs H
structure N9 (P:Program) (d:Deferred) (g:FuncId) (vs:Array Value):Prop where
 t1:∀r,d.target≠.collected r
 t2:d.target≠.nil
 run:∀w,(invoke d.target d.args).runT P w #[]=(.ok (.enter g vs) w,#[])
section
variable {P:Program} {T:ZR} {A:List Nat} {Q:Value->Prop} {mn:Bool} {x:W2} {b:Frame} {cs:List Frame} {m nt:Nat} {o:Base} {k:List Item} {env:ω} {σ:Ο} {S YA:μ} {B B':Z8} {H H':Χ} {σ':Ο} {t:Array Value} {Z:X7} {E:Yn}
theorem V.XO (g:Seq x) (i:b.mode=.run) (h:W P o.m nt k env σ (V P Q mn x b cs nt o) (Dt P Q mn x b cs o)):V P Q mn x b cs nt o k env σ:=
 λS B H t f l=>h Q mn x cs b S B H t g i l (λj env' σ' YA B' H' t' c n d p r=>by
  have e:c=j:=r;subst e;exact n YA B' H' t' (f.trans d) p) (λa env' σ' YA B' H' t' c v s d u w y=>s YA B' H' t' c v (f.trans d) u w y)
theorem V.Zo (a:Seq x) (h:W P o.m nt k env σ (V P Q mn x b cs nt o) (Dt P Q mn x b cs o)) (c:b.mode=.run:=by rfl):V P Q mn x b cs nt o k env σ:=.XO a c h
theorem V.here (h:V P Q mn x b cs nt ⟨S,B,H,σ,m⟩ k env σ) (a:Xw m nt S B H σ env t):ι P Q mn x (ο b t k) cs H:=h S B H t .refl a
theorem W.Zg {id:Nat} {ops:Array Oper} (h:W P m nt (.inRegion ops (idx ops.size [])::k) env σ Z E):W P m nt (.code (.region id ops false)::k) env σ Z E:=
 λQ mn x cs b S B H t a c d e f=>.region a c (by rw[<-idx_eq];exact h Q mn x cs b S B H t a c d e f)
theorem W.part (c:ZB P T) (is a:List Nat) {ops:Array Oper} {l:List Nat} (d:l=is++a) (h:∀b:ω->Ο->Prop,(∀env σ,W P m nt (.inRegion ops a::k) env σ Z E->b env σ)->run P T A nt ops is env σ b E):W P m nt (.inRegion ops l::k) env σ Z E:=
 d▸G3 c a is env σ (h _ λ_ _ h=>h)
theorem GL (e:YT S B σ env t) (args:Array Operand):Xv S B σ (args.toList.map (ζ env)) (args.map (ZN t)):=by
 refine⟨I,λi a v b c=>?_⟩;rw[YU,Wv] at b;rw[Py] at c;cases d:args[i]? with
 | none=>rw[d] at b;cases b
 | some y=>rw[d] at b c;cases b;cases c;exact Ud e y
theorem Plain.enter {g:FuncId} (h:Plain P g) (vs:Array Value) (w:World):(callFunc g vs).runT P w #[]=(.ok (.enter g vs) w,#[]):=by
 obtain⟨fn,a,b,c⟩:=h;unfold callFunc;show Sem.runT P (Sem.bind program λp=>_) w #[]=_;simp only[program,Sem.bind];show Sem.runT P (match P.funcs[g]? with|none=>_|some fn=>_) w #[]=_;rw[a];simp only[b,c,W',if_false];rfl
theorem Xw.put {c:Oper} {a:Ω} {v:Value} (b:Xw m nt S B H σ env t) (hd:WO nt c=true) (d:π S B σ a v):Xw m nt S B H σ (Zt c env a) (put c t v):=
 ⟨b.holds,(QN b.Zm hd b.size d).1,(QN b.Zm hd b.size d).2,b.rows⟩
theorem XX.all (h:XX m S B H σ YA B' H' σ') (b:Holds S B σ H) (a:σ.length<=m):Zx S YA B B' σ σ':=by
 have:=h.later
 rwa [U4 (by rw[b.len];exact a),U4 a] at this
theorem V.defer (p:Seq x) (r:b.mode=.run) (s:b.roundOf=none) {ops:Array Oper} {i:Nat} {rest:List Nat} {a:Oper} (u:ops[i]?=some a) (v:XK env ops a=some true) (y:a.dst=none) {f:Operand} {args:Array Operand} {A:Array TypeId} (C:a.op=.defer ⟨.value f,args,A⟩)
  {g:FuncId} {first captured:κ} (D:ζ env f=.fn (.func g) first captured) (E:Plain P g)
  (h:∀(S:μ) (B:Z8) (H:Χ) (t:Array Value) (d:Deferred) (vs:Array Value),XX o.m o.S o.B o.H o.σ S B H σ->Xw o.m nt S B H σ env t->Xv S B σ (first++args.toList.map (ζ env)++captured) vs->N9 P d g vs->
   ι P Q mn x (ο {b with defers:=d::b.defers} t (.inRegion ops rest::k)) cs H):V P Q mn x b cs nt o (.inRegion ops (i::rest)::k) env σ:=by
 intro S B H t F c;refine .op p r u (U0 c.Zm v) (.inl s) ?_;have j:=Ud c.Zm f;rw[D] at j;have I:=GL c.Zm args;have e:execOp (ZN t) a=(do pure (.defer (<-Deferred.ofValue (ZN t f) (args.map (ZN t))))):=by unfold execOp;rw[C];rfl
 rw[e];generalize ZN t f=T at j;cases j with
 | fn l n J K L M=>
  refine Ψ.bind' (Ψ.pure' (Ψ.pure' ?_));have N:put a t undef=t:=by unfold put;rw[y]
  simp only[Ex,N];have O:Xv S B σ first l:=⟨J,L⟩
  have R:Xv S B σ captured n:=⟨K,M⟩;exact h S B H t ⟨.fn (.func g) n,l++args.map (ZN t)⟩ (l++args.map (ZN t)++n) F c ((O.append I).append R) ⟨λ_ h=>(by cases h),λh=>(by cases h),λw=>E.enter _ w⟩
theorem ι.recovered (d:Seq x) (f:b.mode=.run) (c:b.roundOf=none) {ops:Array Oper} {i:Nat} {rest:List Nat} {op:Oper} (g:ops[i]?=some op) (j:op.guard=none) {l:Array TypeId} (m:op.op=.call ⟨.builtin .recover,#[],l⟩) {v:Value} {cs':List Frame}
  (a:(tryRecover (ο b t (.inRegion ops (i::rest)::k)) cs=some (v,cs'))\/(tryRecover (ο b t (.inRegion ops (i::rest)::k)) cs=none/\v=.nilIface/\cs'=cs))
  (h:ι P Q mn x (ο b (put op t v) (.inRegion ops rest::k)) cs' H):ι P Q mn x (ο b t (.inRegion ops (i::rest)::k)) cs H:=by
 refine .op d f g (by unfold Region.wanted;rw[j]) (.inl c) ?_;have e:execOp (ZN t) op=pure .recover:=by unfold execOp;rw[m];rfl
 rw[e];refine Ψ.pure' ⟨c,?_⟩;rcases a with a|⟨a,rfl,rfl⟩
 .rw[a];exact h
 .rw[a];exact h
end
theorem results_none {fn:Func} (h:fn.results=#[]) (t:Array Value):results fn t=pure (.tuple #[]):=by
 unfold results;rw[h];simp
theorem SF {P:Program} {g:FuncId} {fn:Func} {body:Code} (b:P.funcs[g]?=some fn) (c:fn.body=some body) (vs:Array Value) (a:CallKind):Frame.enter P g vs a=ο (Frame.enter P g vs a) (vs++Array.replicate (fn.ntmps-vs.size) undef) [.code body]:=by
 simp[Frame.enter,ο,b,c]
theorem Xw.enter {S:μ} {B:Z8} {H:Χ} {σ:Ο} {a:κ} {vs:Array Value} {nt m:Nat} (b:Holds S B σ H) (hv:Xv S B σ a vs) (c:m<=σ.length) (d:a.length<=nt):Xw m nt S B H σ (entry 0 a) (vs++Array.replicate (nt-vs.size) undef):=
 ⟨b,DS hv _,by have:=hv.1;simp;omega,c⟩
end Go.TL
namespace Go.TL
open Go.Proofs.Tryz
open Go.Sort (bitsLen insInner insOuter ltInt swp)
open Go.Proofs
variable [ZX]
def VS (s:ψ) (a:List Zw) (p:Zw):Int:=
 if p.Ys<0\/(s.Δ.length:Int)<=p.Ys then 3 else if a.any (λx=>x.Ys==p.Ys) then 4 else if valid p.seen=false\/valid p.bare=false then 1 else if Uv p.seen p.bare=0 then 0 else 9
theorem xf (p x:Zw):Ε prog 195 [Zv x,.Θ [J p.Ys,J p.seen,J p.bare]] (Z4 (x.Ys==p.Ys)):=by
 refine Μ.body Ρ func195 rfl rfl ntmps195 rfl rfl I ?_;(repeat (first|apply Ξ|(refine Y9 λb a=>?_;simp;(repeat (rw[Ν];simp));apply a)));refine W.ret ⟨_,rfl,?_,rfl⟩;exact .of (by simp)
theorem xe (s:ψ) (d:List Zw) (n:d.length<2 ^ 62) (p:Zw):Μ prog 153 [Yz s,U' d,Zv p] [] (λa σ=>VS s d p=0/\a=.ZW []/\σ=[]) (λa σ=>VS s d p≠0/\a=.Xe 38 (J (VS s d p))/\σ=[]):=by
 refine Μ.body Ρ func153 rfl rfl ntmps153 rfl rfl I ?_;(repeat (first|apply Ξ|(refine Y9 λf b=>?_;simp;(repeat (rw[Ν];simp));apply b)));refine W.M' (A:=[]) Ρ mixed [(6,J p.seen),(7,J p.bare),(1,U' d),(3,.Θ [ν s.Ι,ξ s.Δ,Z2 s.cells]),(5,.Θ [J p.Ys,J p.seen,J p.bare])] ?_ (by simp[ZK,ZL];exact XD (by kernel_rfl))
 repeat apply Ξ
 refine W.RA (A:=[]) Ρ [(12,Z4 (decide (p.Ys<0)||decide ((s.Δ.length:Int)<=p.Ys))),(6,J p.seen),(7,J p.bare),(1,U' d),(3,.Θ [ν s.Ι,ξ s.Δ,Z2 s.cells]),(5,.Θ [J p.Ys,J p.seen,J p.bare])] ?_ (by by_cases q:p.Ys<0<;>simp[Ν,Td,q]);by_cases i:p.Ys<0\/(s.Δ.length:Int)<=p.Ys
 case pos=>
  have e:VS s d p=3:=by unfold VS;rw[if_pos i]
  rw[e];refine Α (by simpa using i) ?_;(repeat apply Ξ);refine Y9 λf b=>?_;simp;(repeat (rw[Ν];simp))
 refine Ζ (by simpa using i) ?_;(repeat apply Ξ);refine Y9 λf b=>?_;simp;(repeat (rw[Ν];simp));refine Ε.c (xk d (.fn (.func 195) [] [.Θ [J p.Ys,J p.seen,J p.bare]]) (λx=>x.Ys==p.Ys) n (by simp[Va]) (λx _=>λ_=>(xf p x).cc (by simp;exact ZM.refl _) I I ⟨rfl,rfl⟩)) (ZM.refl _) (by simp[Va]) I ?_;simp;(repeat (rw[Ν];simp));apply b;cases k:d.any (λx=>x.Ys==p.Ys)
 case true=>
  have e:VS s d p=4:=by unfold VS;rw[if_neg i,if_pos k]
  rw[e];refine Α I ?_;(repeat apply Ξ);refine Y9 λf b=>?_;simp;(repeat (rw[Ν];simp))
 refine Ζ I ?_
 repeat apply Ξ
 have m:(valid p.seen=false\/valid p.bare=false)->VS s d p=1:=λh=>by unfold VS;rw[if_neg i,k];simp[h]
 cases g:valid p.seen
 case false=>
  rw[m (.inl g)];(repeat apply Ξ);refine Y9 λf b=>?_;simp;(repeat (rw[Ν];simp));refine Ε.c (M8 p.seen) (ZM.refl _) I I ?_;simp[g];(repeat (rw[Ν];simp[g]));apply b;refine Α rfl ?_;(repeat apply Ξ);refine Y9 λf b=>?_;simp;(repeat (rw[Ν];simp))
 cases j:valid p.bare
 case false=>
  rw[m (.inr j)];(repeat apply Ξ);refine Y9 λf b=>?_;simp;(repeat (rw[Ν];simp));refine Ε.c (M8 p.seen) (ZM.refl _) I I ?_;simp[g];(repeat (rw[Ν];simp[g]));refine Ε.c (M8 p.bare) (ZM.refl _) I I ?_;simp[j];(repeat (rw[Ν];simp[j]));apply b;refine Α rfl ?_;(repeat apply Ξ);refine Y9 λf b=>?_;simp;(repeat (rw[Ν];simp))
 (repeat apply Ξ);refine Y9 λf b=>?_;simp;(repeat (rw[Ν];simp));refine Ε.c (M8 p.seen) (ZM.refl _) I I ?_;simp[g];(repeat (rw[Ν];simp[g]));refine Ε.c (M8 p.bare) (ZM.refl _) I I ?_;simp[j];(repeat (rw[Ν];simp[j]));apply b;refine Ζ rfl ?_;(repeat apply Ξ);refine Y9 λf b=>?_;simp;(repeat (rw[Ν];simp));refine Ε.c (Dz p.seen p.bare) (ZM.refl _) I I ?_;simp;(repeat (rw[Ν];simp));apply b;by_cases l:Uv p.seen p.bare=0
 .have e:VS s d p=0:=by unfold VS;rw[if_neg i,k];simp[g,j,l]
  refine Ζ (by simp[l]) ?_;(repeat (first|apply Ξ|(refine Y9 λf b=>?_;simp;(repeat (rw[Ν];simp));apply b)));exact W.nil ⟨_,rfl,e,rfl,rfl⟩
 .have e:VS s d p=9:=by unfold VS;rw[if_neg i,k];simp[g,j,l]
  rw[e];refine Α (by simp[l]) ?_;(repeat apply Ξ);refine Y9 λf b=>?_;simp;(repeat (rw[Ν];simp))
end Go.TL
namespace Go.TL
open Go.Proofs.Tryz
open Go.Sort (bitsLen insInner insOuter ltInt swp)
open Go.Proofs Go.Conc
variable [ZX]
theorem Xv.later {S b:μ} {B B':Z8} {σ σ':Ο} {l:κ} {vs:Array Value} (h:Xv S B σ l vs) (c:Zx S b B B' σ σ'):Xv b B' σ' l vs:=⟨h.1,λi a v d e=>(h.2 i a v d e).later c⟩
theorem Pm.fin {P:Program} {e:Value->Prop} {mn:Bool} {x:W2} {c:Frame} {rest:List Frame} {S f:μ} {H H':Χ} {B':Z8} {σ':Ο} {v:Value} {r:Ω} (j:Pm P e mn x c rest S [] H [] (λa s=>Zh a r/\s=[]) (λ_ _=>False))
  (g:Ext S [] H f B' H') (k:Holds f B' σ' H') (l:∀S B σ,π S B σ r v):ι P e mn x (c.finish v) rest H':=by
 obtain⟨i,d⟩:=k.close (h:=0) (λid r m=>U);simp only[List.take_zero] at i d;exact j.ret r [] _ [] H' v ⟨.refl _,rfl⟩ (g.trans d) ⟨λb o v hv=>d.YO _ _ _ (g.YO _ _ _ hv),λid r h=>by simp at h⟩ i (l _ _ _)
abbrev PO (e:Int):Ο:=[.cells 38 1 [J e]]
section
variable {Q:Value->Prop} {mn:Bool} {x:W2} {c f:Frame} {rest:List Frame} {S XH:μ} {Sc:Z8} {H H1:Χ} {N8 e:Int} {Ds:Array Value} {t:Array Value} {env:ω} {err:Int}
theorem Dr (b:Seq x) (w:Pm prog Q mn x c rest S [] H [] (λa s=>Zh a (J err)/\s=[]) (λ_ _=>False)) {d:Deferred} (hd:N9 prog d 152 Ds)
  (y:f.fn=122) (B:f.defers=[d]) (r:f.kind=.normal) (af:f.roundOf=none) (j:(f.mode=.returning/\N8=err)\/∃v,f.mode=.panicking [{v,recovered:=false}]/\π XH Sc (PO N8) (.Xe 38 (J err)) v)
  (C:Ext S [] H XH Sc H1) (n:Holds XH Sc (PO N8) H1) (hv:Xv XH Sc (PO N8) [.Κ 0 1 0 0] Ds) (D:YT XH Sc (PO N8) env f.tmps) (E:Z7 env 6=.Κ 0 1 0 0):ι prog Q mn x f (c::rest) H1:=by
 have F:f.mode≠.run:=by rcases j with⟨h,_⟩|⟨v,h,_⟩<;>rw[h]<;>simp
 refine ι.deferred b F B hd.t1 hd.t2 hd.run ?_;rw[SF func152 rfl];have t:∀(f':Frame) (e:μ) (g:Z8) (i:Χ),f'.mode=.returning->f'.defers=[]->f'.kind=.normal->f'.fn=f.fn->f'.tmps=f.tmps->Ext XH Sc H1 e g i->Zx XH e Sc g (PO N8) (PO err)->Holds e g (PO err) i->ι prog Q mn x f' (c::rest) i:=λf' e g i K L M N O P R T=>by
  refine ι.back b K L (.inl M) (fn:=f122) (by rw[N,y];exact func122) ?_;rw[O];refine Ψ.mono (λv ag ⟨ah,ai,U,aj,X,Y⟩=>?_) (λ_ _ h=>h) _ (LN Ρ (a:=J err) (show SJ ZS [.cell 6 38] env (PO err)=some (J err) by simp[SJ,QM,Nd,E,PZ,V5.agg]) T (D.later R));cases Y;exact w.fin (C.trans (P.trans U)) X λ_ _ _=>.z _
 refine V.here (m:=1) (nt:=10) (env:=entry 0 [.Κ 0 1 0 0]) ?_ (Xw.enter n hv I I);refine V.XO b rfl ?_
 repeat apply Ξ
 refine W.Zg ?_;refine W.stop ?_;intro Z aa ak t3 k u;rcases j with⟨j,rfl⟩|⟨v,j,ab⟩
 .refine ι.recovered b rfl rfl rfl rfl rfl (v:=.nilIface) (.inr ⟨?_,rfl,rfl⟩) ?_
  .simp[tryRecover,ο,Frame.enter,j]
  .refine V.here (m:=1) ?_ (u.put rfl (.z .nilIface));refine V.XO b rfl ?_;refine W.part (A:=[]) Ρ [1,2,3,4,5,6] [] rfl λad o=>?_;simp[Ol];(repeat (rw[Ν];simp[Ol]));apply o;refine W.ZF ?_;refine Τ ?_;refine Ζ rfl ?_;refine Τ ?_;refine W.stop ?_;intro e g i t4 l p;refine .P9 b rfl rfl ?_;refine ι.Hp b rfl rfl rfl func152 ?_;rw[results_none rfl];refine Ψ.pure' ?_;simp only[j];exact t _ e g i rfl rfl r rfl rfl (k.ext.trans l.ext) ((k.trans l).all n I) p.holds
 .have ae:π Z aa (PO N8) (.Xe 38 (J err)) v:=ab.later (k.all n I);refine ι.recovered b rfl rfl rfl rfl rfl (v:=v) (cs':={f with defers:=[],mode:=.panicking [{v,recovered:=true}]}::c::rest) (.inl ?_) ?_
  .simp[tryRecover,ο,Frame.enter,j]
  .refine V.here (m:=1) ?_ (u.put rfl ae);refine V.XO b rfl ?_;refine W.part (A:=[]) Ρ [1,2,3,4,5,6] [] rfl λad o=>?_;simp[Ol];(repeat (rw[Ν];simp[Ol]));apply o;refine W.ZF ?_;refine Τ ?_;refine Α rfl ?_;refine Τ ?_;refine W.stop ?_;intro e g i t4 l p;refine .P9 b rfl rfl ?_;refine ι.Hp b rfl rfl rfl func152 ?_;rw[results_none rfl];refine Ψ.pure' ?_;exact t _ e g i rfl rfl r rfl rfl (k.ext.trans l.ext) ((k.trans l).all n I) p.holds
end
theorem xd (s:ψ) (e:List Zw) (E:e.length<2 ^ 62) (p:Zw):Ε prog 122 [Yz s,U' e,Zv p] (J (VS s e p)):=by
 refine⟨⟨_,func122,rfl,rfl⟩,λT mn x c rest S B H vs g r hv t=>?_⟩;have F:B=[]:=YL.1 (by have:=r.len;simpa using this);subst F;rw[SF func122 rfl];refine V.here (m:=0) (nt:=12) (env:=entry 0 [Yz s,U' e,Zv p]) ?_ (Xw.enter r hv I I);refine V.XO g rfl ?_
 repeat apply Ξ
 refine Y4 (A:=[6]) Ρ λu h=>Z6 ?_;apply h
 repeat apply Ξ
 refine W.Zg ?_;refine W.part (A:=[]) Ρ [0] [1] rfl λu h=>?_;(try simp);(repeat (rw[Ν];simp));apply h;refine W.stop ?_;refine V.defer g rfl rfl rfl rfl rfl rfl rfl ⟨_,func152,rfl,rfl⟩ λU X Y t1 d Z w i y hd=>?_;refine V.here (m:=1) ?_ ⟨i.holds,i.Zm,i.size,I⟩;refine V.XO g rfl ?_;refine W.ZF ?_;refine Z' λu h=>?_;refine WA.mono (Μ.call (first:=[]) (captured:=[]) ((xe s e E p).mono (K':=λa f=>VS s e p=0/\ς 0 a/\f=[]) (E':=λa f=>(VS s e p≠0/\a=.Xe 38 (J (VS s e p)))/\ς 0 a/\f=[]) (λa f ⟨l,k,n⟩=>⟨l,by subst k;simp,n⟩) (λa f ⟨l,k,n⟩=>⟨⟨l,k⟩,by subst k;simp,n⟩) |>.frame I)) (λa f ⟨C,o⟩=>?_) (λa f ⟨⟨C,K⟩,o⟩=>?_)
 .subst o;(try simp);(repeat (rw[Ν];simp));apply h;refine Τ ?_;refine W.stop ?_;intro L M N t2 j D;refine ι.ret (b:={Frame.enter prog 122 vs .normal with defers:=[d]}) g rfl rfl ?_;exact Dr g t hd rfl rfl rfl rfl (.inl ⟨rfl,C.symm⟩) (w.ext.trans j.ext) D.holds (y.later (j.all i.holds I)) D.Zm rfl
 .subst o;subst K;intro L M N t2 aa v j O P Q;have R:=j.all i.holds I;refine Dr g t hd rfl rfl rfl rfl (.inr ⟨v,rfl,Q⟩) (w.ext.trans j.ext) O (y.later R) P ?_;rfl
end Go.TL
namespace Go.TL
open Go.Proofs.Tryz
open Go.Sort (bitsLen insInner insOuter ltInt swp)
open Go.Proofs
variable [ZX]
theorem xc:IntKind.i64.wrap 3=3:=ZY
def N7 (l:List Int) (i:Nat):Int:=match l[i]? with
 | none=>0
 | some n=>if UI n=false then 3 else if 0<i/\n<=(l[i-1]?).getD 0 then 5 else 0
def M6 (l:List Int):Int:=VA ((List.range l.length).map (N7 l))
def SE (a:List (List Int)):Int:=if a.length=0 then 7 else if 4<a.length then 6 else VA ((List.range a.length).map λi=>M6 ((a[i]?).getD []))
theorem xb (s:ψ) (r:s.small):Ε prog 104 [Yz s] (J (SE s.Δ)):=by
 refine Μ.body Ρ func104 rfl rfl ntmps104 rfl rfl I ?_;have E:=r.2.1;by_cases b:s.Δ.length=0
 .refine Γ b ?_;refine Α I ?_;refine Τ ?_;refine W.rt ?_;exact .of (by rw[show SE s.Δ=7 by simp[SE,b]];rfl)
 by_cases g:(4:Int)<s.Δ.length
 .refine Γ (Υ b g) ?_;refine Ζ (by simp[b]) ?_;refine Γ (Υ b g) ?_;refine Α I ?_;refine Τ ?_;refine W.rt ?_;exact .of (by rw[show SE s.Δ=6 by simp[SE,b];omega];rfl)
 have v:SE s.Δ=VA ((List.range s.Δ.length).map λi=>M6 ((s.Δ[i]?).getD [])):=by
  unfold SE;rw[if_neg b,if_neg U]
 rw[v];refine Γ (Υ b g) ?_;refine Ζ (by simp[b]) ?_;refine Γ (Υ b g) ?_;refine Ζ I ?_;refine Τ ?_;refine W.iter (λi:Nat=>i<=s.Δ.length/\∀j,j<i->M6 ((s.Δ[j]?).getD [])=0) (λi=>[(1,.Θ [ν s.Ι,ξ s.Δ,Z2 s.cells]),(18,ξ s.Δ),(19,J s.Δ.length),(20,J i)]) (λ_=>[]) (λi=>s.Δ.length-i) 0 ⟨U,λj c=>U⟩ rfl I (λi hi w=>?_);refine Τ ?_;refine W.Yv rfl (λa=>?_) (λa=>?_)
 .have a:i<s.Δ.length:=by simpa using a
  have t:(s.Δ[i]?).getD []=s.Δ[i]:=by simp[a]
  have F:s.Δ[i].length<2 ^ 30:=r.2.2.2.1 _ (YF a);refine Γ a ?_;refine W.iter (λn:Nat=>n<=s.Δ[i].length/\∀j,j<n->N7 s.Δ[i] j=0) (λn=>[(1,.Θ [ν s.Ι,ξ s.Δ,Z2 s.cells]),(18,ξ s.Δ),(19,J s.Δ.length),(20,J i),(4,Z9 J 1 s.Δ[i]),(24,Z9 J 1 s.Δ[i]),(25,J s.Δ[i].length),(26,J n)]) (λ_=>[]) (λn=>s.Δ[i].length-n) 0 ⟨U,λj c=>U⟩ rfl I (λn l x=>?_);refine Τ ?_;refine W.Yv rfl (λm=>?_) (λm=>?_)
  .have hd:n<s.Δ[i].length:=by simpa using m
   have o:s.Δ[i][n]?=some s.Δ[i][n]:=δ hd
   have u:∀e:Int,N7 s.Δ[i] n=e->e≠0->VA ((List.range s.Δ.length).map λi=>M6 ((s.Δ[i]?).getD []))=e:=λe y h=>
    Ly (i:=i) a (by rw[t];exact Ly hd y h l.2) h hi.2
   repeat apply Ξ
   refine Tb hd ?_;refine Z' λH B=>?_;refine Ε.d (Sa s.Δ[i][n]) (Z6 ?_);apply B;cases p:UI s.Δ[i][n]
   .refine Α I ?_;refine Τ ?_;refine W.rt ?_;exact .of (by rw[u 3 (by simp[N7,o,p]) ZY];rfl)
   refine Ζ I ?_
   repeat apply Ξ
   refine W.RA (A:=[]) Ρ [(35,Z4 (decide (0<n/\s.Δ[i][n]<=(s.Δ[i][n-1]?).getD 0))),(1,.Θ [ν s.Ι,ξ s.Δ,Z2 s.cells]),(18,ξ s.Δ),(19,J s.Δ.length),(20,J i),(4,Z9 J 1 s.Δ[i]),(24,Z9 J 1 s.Δ[i]),(25,J s.Δ[i].length),(26,J n)] ?_ (by
    cases n with
    | zero=>simp[Ν,Td]
    | succ n=>
     have C:n<s.Δ[i].length:=U
     have D:=Yg (show n<2 ^ 62 by omega)
     have h:(0:Int)<(n:Int)+1:=U;simp[Ν,Td,h,C,D])
   by_cases k:0<n/\s.Δ[i][n]<=(s.Δ[i][n-1]?).getD 0
   .refine Α (by simp only[k];rfl) ?_;refine Τ ?_;refine W.rt ?_;exact .of (by rw[u 5 (by simp only[N7,o,p];rw[if_neg I,if_pos k]) ZY];rfl)
   .refine Ζ (by simp only[k];rfl) ?_;refine Τ ?_;refine W.forget _ ?_ (x (n+1) ⟨hd,λj c=>?_⟩ U)
    .simp[X5 hd (show s.Δ[i].length<2 ^ 62 by omega)]
    .by_cases e:j=n
     .subst e;simp only[N7,o,p];rw[if_neg I,if_neg k]
     .exact l.2 j U
  .have hd:s.Δ[i].length<=n:=by simpa using m
   refine W.exit rfl ?_;refine Τ ?_;refine W.forget _ ?_ (w (i+1) ⟨a,λj c=>?_⟩ U)
   .simp[X5 a (show s.Δ.length<2 ^ 62 by omega)]
   .by_cases e:j=i
    .subst e;rw[t];exact Lx λj c=>l.2 j U
    .exact hi.2 j U
 .have a:s.Δ.length<=i:=by simpa using a
  refine W.exit rfl ?_;refine Τ ?_;refine W.rt ?_;exact .of (by rw[Lx (f:=λi=>M6 ((s.Δ[i]?).getD [])) λj c=>hi.2 j U];rfl)
def Rx (s:ψ) (c:List Zw):Int:=if 4<c.length then 6 else VA ((List.range c.length).map λi=>match c[i]? with|none=>0|some p=>VS s (c.take i) p)
def PN (s:ψ):Int:=if 4<s.cells.length then 6 else VA ((List.range s.cells.length).map λi=>Rx s ((s.cells[i]?).getD []))
theorem xa (s:ψ) (k:s.small):Ε prog 105 [Yz s] (J (PN s)):=by
 refine Μ.body Ρ func105 rfl rfl ntmps105 rfl rfl I ?_;have D:=k.2.2.1;by_cases l:(4:Int)<s.cells.length
 .refine Γ l ?_;refine Α I ?_;refine Τ ?_;refine W.rt ?_;exact .of (by rw[show PN s=6 by simp[PN];omega];rfl)
 have v:PN s=VA ((List.range s.cells.length).map λi=>Rx s ((s.cells[i]?).getD [])):=by
  unfold PN;rw[if_neg U]
 rw[v];refine Γ l ?_;refine Ζ I ?_;refine Τ ?_;refine W.iter (λi:Nat=>i<=s.cells.length/\∀j,j<i->Rx s ((s.cells[j]?).getD [])=0) (λi=>[(1,.Θ [ν s.Ι,ξ s.Δ,Z2 s.cells]),(13,Z2 s.cells),(14,J s.cells.length),(15,J i)]) (λ_=>[]) (λi=>s.cells.length-i) 0 ⟨U,λj c=>U⟩ rfl I (λi hi w=>?_);refine Τ ?_;refine W.Yv rfl (λa=>?_) (λa=>?_)
 .have a:i<s.cells.length:=by simpa using a
  have m:(s.cells[i]?).getD []=s.cells[i]:=by simp[a]
  have E:s.cells[i].length<2 ^ 30:=k.2.2.2.2 _ (YF a)
  have o:∀e:Int,Rx s s.cells[i]=e->e≠0->VA ((List.range s.cells.length).map λi=>Rx s ((s.cells[i]?).getD []))=e:=λe x y=>
   Ly (i:=i) a (by rw[m];exact x) y hi.2
  by_cases r:(4:Int)<s.cells[i].length
  .refine Γ (Υ a r) ?_;refine Α I ?_;refine Τ ?_;refine W.rt ?_;exact .of (by rw[o 6 (by unfold Rx;rw[if_pos U]) ZY];rfl)
  refine Γ (Υ a r) ?_;refine Ζ I ?_;refine Τ ?_;have t:Rx s s.cells[i]=VA ((List.range s.cells[i].length).map λn=>match s.cells[i][n]? with|none=>0|some p=>VS s (s.cells[i].take n) p):=by unfold Rx;rw[if_neg U]
  refine W.iter (λn:Nat=>n<=s.cells[i].length/\∀j,j<n->(match s.cells[i][j]? with|none=>0|some p=>VS s (s.cells[i].take j) p)=0) (λn=>[(1,.Θ [ν s.Ι,ξ s.Δ,Z2 s.cells]),(13,Z2 s.cells),(14,J s.cells.length),(15,J i),(4,U' s.cells[i]),(22,U' s.cells[i]),(23,J s.cells[i].length),(24,J n)]) (λ_=>[]) (λn=>s.cells[i].length-n) 0 ⟨U,λj c=>U⟩ rfl I (λn d B=>?_);refine Τ ?_;refine W.Yv rfl (λg=>?_) (λg=>?_)
  .have hd:n<s.cells[i].length:=by simpa using g
   have u:s.cells[i][n]?=some s.cells[i][n]:=δ hd
   repeat apply Ξ
   refine Y4 (A:=[6]) Ρ λC h=>XJ hd ?_;apply h;refine W.fix (id:=0) (σ':=[]) (χ _) rfl I I rfl [(5,J n),(6,.Θ [J s.cells[i][n].Ys,J s.cells[i][n].seen,J s.cells[i][n].bare]),(1,.Θ [ν s.Ι,ξ s.Δ,Z2 s.cells]),(13,Z2 s.cells),(14,J s.cells.length),(15,J i),(4,U' s.cells[i]),(22,U' s.cells[i]),(23,J s.cells[i].length),(24,J n)] I ?_
   repeat apply Ξ
   refine W.draw (A:=[]) Ρ mixed λC h=>?_;simp;(repeat (rw[ZK];simp[hd,Sr hd]));try rw[ZL]
   (try simp only[<-List.map_take]);refine Yl (Ε.q (xd s (s.cells[i].take n) (by simp;omega) s.cells[i][n])) (QL ?_);refine Y8 (h _ _ ?_)
   repeat apply Ξ
   refine Τ ?_;by_cases b:VS s (s.cells[i].take n) s.cells[i][n]=0
   .refine Ζ (by simp[b]) ?_;refine Τ ?_;refine W.forget _ ?_ (B (n+1) ⟨hd,λj c=>?_⟩ U)
    .simp[X5 hd (show s.cells[i].length<2 ^ 62 by omega)]
    .by_cases e:j=n
     .subst e;rw[u];exact b
     .exact d.2 j U
   .refine Α (by simp[b]) ?_;refine Τ ?_;refine W.rt ?_;exact .of (by rw[o (VS s (s.cells[i].take n) s.cells[i][n]) (by rw[t];exact Ly hd (by rw[u]) b d.2) b];rfl)
  .have hd:s.cells[i].length<=n:=by simpa using g
   refine W.exit rfl ?_;refine Τ ?_;refine W.forget _ ?_ (w (i+1) ⟨a,λj c=>?_⟩ U)
   .simp[X5 a (show s.cells.length<2 ^ 62 by omega)]
   .by_cases e:j=i
    .subst e;rw[m,t];exact Lx λj c=>d.2 j U
    .exact hi.2 j U
 .have a:s.cells.length<=i:=by simpa using a
  refine W.exit rfl ?_;refine Τ ?_;refine W.rt ?_;exact .of (by rw[Lx (f:=λi=>Rx s ((s.cells[i]?).getD [])) λj c=>hi.2 j U];rfl)
def ψ.err (s:ψ):Int:=if SG s.Ι≠0 then SG s.Ι else if SE s.Δ≠0 then SE s.Δ else PN s
theorem Lw (s:ψ) (f:s.small):Ε prog 48 [Yz s] (J s.err):=by
 refine Μ.body Ρ func48 rfl rfl ntmps48 rfl rfl I ?_;refine Τ ?_;refine .loop ?_;refine Τ ?_;refine Α rfl ?_;refine Τ ?_;refine Z' λh a=>?_;refine Ε.d (xg s f) (Z6 ?_);apply a;refine Τ ?_;by_cases b:SG s.Ι=0
 case neg=>
  refine Α (by simp[b]) ?_;refine Τ ?_;refine W.rt ?_;exact .of (by rw[show s.err=SG s.Ι by unfold ψ.err;rw[if_pos b]];rfl)
 refine Ζ (by simp[b]) ?_;refine Γ @GR ?_;refine .inLoop ?_;refine Τ ?_;refine Α rfl ?_;refine Τ ?_;refine Z' λh a=>?_;refine Ε.d (xb s f) (Z6 ?_);apply a;refine Τ ?_;by_cases c:SE s.Δ=0
 case neg=>
  refine Α (by simp[c]) ?_;refine Τ ?_;refine W.rt ?_;exact .of (by rw[show s.err=SE s.Δ by unfold ψ.err;rw[if_neg (by simp[b]),if_pos c]];rfl)
 refine Ζ (by simp[c]) ?_;refine Γ @GQ ?_;refine .inLoop ?_;refine Τ ?_;refine Α rfl ?_;refine Τ ?_;refine Z' λh a=>?_;refine Ε.d (xa s f) (Z6 ?_);apply a;refine Τ ?_;have e:s.err=PN s:=by unfold ψ.err;rw[if_neg (by simp[b]),if_neg (by simp[c])]
 rw[e];by_cases g:PN s=0
 case neg=>
  refine Α (by simp[g]) ?_;refine Τ ?_;refine W.rt ?_;exact .of rfl
 refine Ζ (by simp[g]) ?_;refine Γ @xc ?_;refine .inLoop ?_;refine Τ ?_;refine Ζ rfl ?_;refine W.exit rfl ?_;refine Τ ?_;refine W.rt ?_;exact .of (by rw[g];rfl)
end Go.TL
