import Derived.Sort.LotA
import Derived.Test.YtlabjopijpkiaaaGreatLAE
set_option maxHeartbeats 16000000
set_option maxRecDepth 20000
set_option linter.unusedSectionVars false
set_option linter.unusedSimpArgs false
set_option linter.unusedVariables false
namespace Go.TL
open Go.Proofs.Tryz
open Go.Sort (SWO bitsLen insInner insOuter insertionSort_holds ltInt sorted_unique_holds swo_ltInt swp)
open Go.Proofs
variable [ZP]
instance:Inhabited Found:=⟨⟨0,0,[]⟩⟩
abbrev YC (r:Int×Int):Ψ:=.sl true 1 [I r.1,I r.2]
theorem DL (d:Array Zu) (n a b:Nat) (T:d.size=n) (ag:a<=b) (ah:b<=n) (ai:n<2 ^ 40) (l:Ψ) (c:Int×Int->Int×Int->Int) (aj:ς 0 l) (V:∀x y,XM prog l [Zb x,Zb y] (I (c x y))) :
  Μ prog 234 [.ms 0 n 0 n,I a,I b,l] [.cells 112 2 (d.toList.map Zb)] (λr s=>r=.ZY []/\s=[.cells 112 2 ((Go.Sort.insertionSort (ψ c) d a b).toList.map Zb)]) (λ_ _=>False):=by
 refine Μ.body Ο func234 U U ntmps234 U U Ω ?_;refine Χ ?_;have X:=Yi (show a+1<2 ^ 62 by omega);refine W.iter (λq:Nat×Array Zu=>q.2.size=n/\insOuter (ψ c) a b q.1 q.2=Go.Sort.insertionSort (ψ c) d a b) (λq=>[(0,.ms 0 n 0 n),(1,I a),(2,I b),(3,l),(8,I q.1)]) (λq=>[.cells 112 2 (q.2.toList.map Zb)]) (λq=>b-q.1) (a+1,d) ⟨T,U⟩ U (by simpa using X) (λq hi H=>?_);obtain⟨i,e⟩:=q;obtain⟨K,B⟩:=hi;simp only at K B;refine Χ ?_;by_cases o:i<b
 .refine Ζ (by simp[o]) ?_;refine Χ ?_;refine W.iter (λq:Nat×Array Zu=>q.2.size=n/\q.1<=i/\insInner (ψ c) a q.1 q.2=insInner (ψ c) a i e) (λq=>[(0,.ms 0 n 0 n),(1,I a),(2,I b),(3,l),(8,I i),(9,I q.1)]) (λq=>[.cells 112 2 (q.2.toList.map Zb)]) (λq=>q.1) (i,e) ⟨K,Z6 _,U⟩ U Ω (λq g Y=>?_);obtain⟨j,f⟩:=q;obtain⟨m,Z,C⟩:=g;simp only at m Z C;have M:insInner (ψ c) a j f=f->insOuter (ψ c) a b (i+1) f=Go.Sort.insertionSort (ψ c) d a b:=λhd=>by
   rw[<-B,<-hd,C];conv=>rhs;rw[insOuter,if_pos o]
  obtain⟨L,k⟩:=Ε (f.toList.map Zb);have N:L.length=n:=by rw[k];simpa using m
  refine W.to (σ':=[.cells 112 2 L]) (env':=[(0,.ms 0 n 0 n),(1,I a),(2,I b),(3,l),(8,I i),(9,I j)]) ?_ (by rw[k]) Ω
  repeat apply Ν
  by_cases g:a<j
  .obtain⟨p,O⟩:∃p,j=p+1:=⟨j-1,J⟩;have D:IntKind.i64.wrap ((j:Int)-1)=(p:Int):=by have:=Yi (show p<2 ^ 62 by omega);rw[O];simpa using this
   have P:j<n:=J
   have Q:p<n:=J
   have aa:¬j=p:=J;obtain⟨x,t⟩:=Ε (f[j]!);obtain⟨y,u⟩:=Ε (f[p]!);have E:L[j]?=some (Zb x):=by rw[k,t,Yc,Wh,Rx J];rfl
   have F:L[p]?=some (Zb y):=by rw[k,u,Yc,Wh,Rx J];rfl
   have R:∀h:j<L.length,L[j]=Zb x:=λh=>by have:=E;rw[Z7 h] at this;exact WW this
   have S:∀h:p<L.length,L[p]=Zb y:=λh=>by have:=F;rw[Z7 h] at this;exact WW this
   have v:insInner (ψ c) a j f=if ψ c x y=true then insInner (ψ c) a p (swp f j p) else f:=by
    subst O;rw[insInner,t,u];simp[g]
   have ab:(swp f j p).toList.map Zb=(L.set j (Zb y)).set p (Zb x):=by rw[k,t,u];simp[swp]
   have ad:(swp f j p).size=n:=by simp[swp,m]
   have ae:=k;clear t u;refine W.draw (A:=[]) Ο mixed λak af=>V8 (Υ g (Υ D (Υ N (Υ P (Υ Q (Υ E (Υ F (Υ R S)))))))) ?_;refine Zc (V x y) ?_;simp;(repeat (rw[Z1];simp));try rw[Z2]
   refine Zf (af _ _ ?_);by_cases w:c x y<0
   .refine Ζ (by simp[w]) ?_
    repeat apply Ν
    refine XJ (Υ g (Υ D (Υ N (Υ P (Υ Q (Υ E (Υ F (Υ R (Υ S aa))))))))) ?_;refine Χ ?_;refine W.to (Y (p,swp f j p) ⟨ad,by simp;omega,?_⟩ (by simp;omega)) ?_ ?_
    .rw[<-C,v,if_pos (by simp[ψ,ltInt,w])]
    .rw[ab]
    .simp[D]
   .refine Η (by simp[w]) ?_;refine W.exit U ?_;refine Χ ?_;refine W.to (H (i+1,f) ⟨m,M (by rw[v,if_neg (by simp[ψ,ltInt,w])])⟩ (by simp;omega)) (by rw[ae]) ?_;have:=Yi (show i+1<2 ^ 62 by omega);simpa using this
  .have v:insInner (ψ c) a j f=f:=by
    cases j with
    | zero=>rfl
    | succ p=>rw[insInner];simp[g]
   refine XJ g ?_;refine Η U ?_;refine W.exit U ?_;refine Χ ?_;refine W.to (H (i+1,f) ⟨m,M v⟩ (by simp;omega)) (by rw[k]) ?_;have:=Yi (show i+1<2 ^ 62 by omega);simpa using this
 .refine Η (by simp[o]) ?_;refine W.exit U ?_;have Ρ:insOuter (ψ c) a b i e=e:=by rw[insOuter,if_neg o]
  exact W.nil ⟨_,U,U,by rw[<-B,Ρ]⟩
theorem xD (d:Array (Found)) (n a b:Nat) (T:d.size=n) (ag:a<=b) (ah:b<=n) (ai:n<2 ^ 40) (l:Ψ) (c:Found->Found->Int) (aj:ς 0 l) (V:∀x y,XM prog l [YB x,YB y] (I (c x y))) :
  Μ prog 217 [.ms 0 n 0 n,I a,I b,l] [.cells 110 3 (d.toList.map YB)] (λr s=>r=.ZY []/\s=[.cells 110 3 ((Go.Sort.insertionSort (ψ c) d a b).toList.map YB)]) (λ_ _=>False):=by
 refine Μ.body Ο func217 U U ntmps217 U U Ω ?_;refine Χ ?_;have X:=Yi (show a+1<2 ^ 62 by omega);refine W.iter (λq:Nat×Array (Found)=>q.2.size=n/\insOuter (ψ c) a b q.1 q.2=Go.Sort.insertionSort (ψ c) d a b) (λq=>[(0,.ms 0 n 0 n),(1,I a),(2,I b),(3,l),(8,I q.1)]) (λq=>[.cells 110 3 (q.2.toList.map YB)]) (λq=>b-q.1) (a+1,d) ⟨T,U⟩ U (by simpa using X) (λq hi H=>?_);obtain⟨i,e⟩:=q;obtain⟨K,B⟩:=hi;simp only at K B;refine Χ ?_;by_cases o:i<b
 .refine Ζ (by simp[o]) ?_;refine Χ ?_;refine W.iter (λq:Nat×Array (Found)=>q.2.size=n/\q.1<=i/\insInner (ψ c) a q.1 q.2=insInner (ψ c) a i e) (λq=>[(0,.ms 0 n 0 n),(1,I a),(2,I b),(3,l),(8,I i),(9,I q.1)]) (λq=>[.cells 110 3 (q.2.toList.map YB)]) (λq=>q.1) (i,e) ⟨K,Z6 _,U⟩ U Ω (λq g Y=>?_);obtain⟨j,f⟩:=q;obtain⟨m,Z,C⟩:=g;simp only at m Z C;have M:insInner (ψ c) a j f=f->insOuter (ψ c) a b (i+1) f=Go.Sort.insertionSort (ψ c) d a b:=λhd=>by
   rw[<-B,<-hd,C];conv=>rhs;rw[insOuter,if_pos o]
  obtain⟨L,k⟩:=Ε (f.toList.map YB);have N:L.length=n:=by rw[k];simpa using m
  refine W.to (σ':=[.cells 110 3 L]) (env':=[(0,.ms 0 n 0 n),(1,I a),(2,I b),(3,l),(8,I i),(9,I j)]) ?_ (by rw[k]) Ω
  repeat apply Ν
  by_cases g:a<j
  .obtain⟨p,O⟩:∃p,j=p+1:=⟨j-1,J⟩;have D:IntKind.i64.wrap ((j:Int)-1)=(p:Int):=by have:=Yi (show p<2 ^ 62 by omega);rw[O];simpa using this
   have P:j<n:=J
   have Q:p<n:=J
   have aa:¬j=p:=J;obtain⟨x,t⟩:=Ε (f[j]!);obtain⟨y,u⟩:=Ε (f[p]!);have E:L[j]?=some (YB x):=by rw[k,t,Yc,Wh,Rx J];rfl
   have F:L[p]?=some (YB y):=by rw[k,u,Yc,Wh,Rx J];rfl
   have R:∀h:j<L.length,L[j]=YB x:=λh=>by have:=E;rw[Z7 h] at this;exact WW this
   have S:∀h:p<L.length,L[p]=YB y:=λh=>by have:=F;rw[Z7 h] at this;exact WW this
   have v:insInner (ψ c) a j f=if ψ c x y=true then insInner (ψ c) a p (swp f j p) else f:=by
    subst O;rw[insInner,t,u];simp[g]
   have ab:(swp f j p).toList.map YB=(L.set j (YB y)).set p (YB x):=by rw[k,t,u];simp[swp]
   have ad:(swp f j p).size=n:=by simp[swp,m]
   have ae:=k;clear t u;refine W.draw (A:=[]) Ο mixed λak af=>V8 (Υ g (Υ D (Υ N (Υ P (Υ Q (Υ E (Υ F (Υ R S)))))))) ?_;refine Zc (V x y) ?_;simp;(repeat (rw[Z1];simp));try rw[Z2]
   refine Zf (af _ _ ?_);by_cases w:c x y<0
   .refine Ζ (by simp[w]) ?_
    repeat apply Ν
    refine XJ (Υ g (Υ D (Υ N (Υ P (Υ Q (Υ E (Υ F (Υ R (Υ S aa))))))))) ?_;refine Χ ?_;refine W.to (Y (p,swp f j p) ⟨ad,by simp;omega,?_⟩ (by simp;omega)) ?_ ?_
    .rw[<-C,v,if_pos (by simp[ψ,ltInt,w])]
    .rw[ab]
    .simp[D]
   .refine Η (by simp[w]) ?_;refine W.exit U ?_;refine Χ ?_;refine W.to (H (i+1,f) ⟨m,M (by rw[v,if_neg (by simp[ψ,ltInt,w])])⟩ (by simp;omega)) (by rw[ae]) ?_;have:=Yi (show i+1<2 ^ 62 by omega);simpa using this
  .have v:insInner (ψ c) a j f=f:=by
    cases j with
    | zero=>rfl
    | succ p=>rw[insInner];simp[g]
   refine XJ g ?_;refine Η U ?_;refine W.exit U ?_;refine Χ ?_;refine W.to (H (i+1,f) ⟨m,M v⟩ (by simp;omega)) (by rw[k]) ?_;have:=Yi (show i+1<2 ^ 62 by omega);simpa using this
 .refine Η (by simp[o]) ?_;refine W.exit U ?_;have Ρ:insOuter (ψ c) a b i e=e:=by rw[insOuter,if_neg o]
  exact W.nil ⟨_,U,U,by rw[<-B,Ρ]⟩
theorem xC (d:Array Zu) (n a b:Nat) (T:d.size=n) (ag:a<=b) (ah:b<=n) (ai:n<2 ^ 40) (l:Ψ) (c:Int×Int->Int×Int->Int) (aj:ς 0 l) (V:∀x y,XM prog l [YC x,YC y] (I (c x y))) :
  Μ prog 183 [.ms 0 n 0 n,I a,I b,l] [.cells 29 1 (d.toList.map YC)] (λr s=>r=.ZY []/\s=[.cells 29 1 ((Go.Sort.insertionSort (ψ c) d a b).toList.map YC)]) (λ_ _=>False):=by
 refine Μ.body Ο func183 U U ntmps183 U U Ω ?_;refine Χ ?_;have X:=Yi (show a+1<2 ^ 62 by omega);refine W.iter (λq:Nat×Array Zu=>q.2.size=n/\insOuter (ψ c) a b q.1 q.2=Go.Sort.insertionSort (ψ c) d a b) (λq=>[(0,.ms 0 n 0 n),(1,I a),(2,I b),(3,l),(8,I q.1)]) (λq=>[.cells 29 1 (q.2.toList.map YC)]) (λq=>b-q.1) (a+1,d) ⟨T,U⟩ U (by simpa using X) (λq hi H=>?_);obtain⟨i,e⟩:=q;obtain⟨K,B⟩:=hi;simp only at K B;refine Χ ?_;by_cases o:i<b
 .refine Ζ (by simp[o]) ?_;refine Χ ?_;refine W.iter (λq:Nat×Array Zu=>q.2.size=n/\q.1<=i/\insInner (ψ c) a q.1 q.2=insInner (ψ c) a i e) (λq=>[(0,.ms 0 n 0 n),(1,I a),(2,I b),(3,l),(8,I i),(9,I q.1)]) (λq=>[.cells 29 1 (q.2.toList.map YC)]) (λq=>q.1) (i,e) ⟨K,Z6 _,U⟩ U Ω (λq g Y=>?_);obtain⟨j,f⟩:=q;obtain⟨m,Z,C⟩:=g;simp only at m Z C;have M:insInner (ψ c) a j f=f->insOuter (ψ c) a b (i+1) f=Go.Sort.insertionSort (ψ c) d a b:=λhd=>by
   rw[<-B,<-hd,C];conv=>rhs;rw[insOuter,if_pos o]
  obtain⟨L,k⟩:=Ε (f.toList.map YC);have N:L.length=n:=by rw[k];simpa using m
  refine W.to (σ':=[.cells 29 1 L]) (env':=[(0,.ms 0 n 0 n),(1,I a),(2,I b),(3,l),(8,I i),(9,I j)]) ?_ (by rw[k]) Ω
  repeat apply Ν
  by_cases g:a<j
  .obtain⟨p,O⟩:∃p,j=p+1:=⟨j-1,J⟩;have D:IntKind.i64.wrap ((j:Int)-1)=(p:Int):=by have:=Yi (show p<2 ^ 62 by omega);rw[O];simpa using this
   have P:j<n:=J
   have Q:p<n:=J
   have aa:¬j=p:=J;obtain⟨x,t⟩:=Ε (f[j]!);obtain⟨y,u⟩:=Ε (f[p]!);have E:L[j]?=some (YC x):=by rw[k,t,Yc,Wh,Rx J];rfl
   have F:L[p]?=some (YC y):=by rw[k,u,Yc,Wh,Rx J];rfl
   have R:∀h:j<L.length,L[j]=YC x:=λh=>by have:=E;rw[Z7 h] at this;exact WW this
   have S:∀h:p<L.length,L[p]=YC y:=λh=>by have:=F;rw[Z7 h] at this;exact WW this
   have v:insInner (ψ c) a j f=if ψ c x y=true then insInner (ψ c) a p (swp f j p) else f:=by
    subst O;rw[insInner,t,u];simp[g]
   have ab:(swp f j p).toList.map YC=(L.set j (YC y)).set p (YC x):=by rw[k,t,u];simp[swp]
   have ad:(swp f j p).size=n:=by simp[swp,m]
   have ae:=k;clear t u;refine W.draw (A:=[]) Ο mixed λak af=>V8 (Υ g (Υ D (Υ N (Υ P (Υ Q (Υ E (Υ F (Υ R S)))))))) ?_;refine Zc (V x y) ?_;simp;(repeat (rw[Z1];simp));try rw[Z2]
   refine Zf (af _ _ ?_);by_cases w:c x y<0
   .refine Ζ (by simp[w]) ?_
    repeat apply Ν
    refine XJ (Υ g (Υ D (Υ N (Υ P (Υ Q (Υ E (Υ F (Υ R (Υ S aa))))))))) ?_;refine Χ ?_;refine W.to (Y (p,swp f j p) ⟨ad,by simp;omega,?_⟩ (by simp;omega)) ?_ ?_
    .rw[<-C,v,if_pos (by simp[ψ,ltInt,w])]
    .rw[ab]
    .simp[D]
   .refine Η (by simp[w]) ?_;refine W.exit U ?_;refine Χ ?_;refine W.to (H (i+1,f) ⟨m,M (by rw[v,if_neg (by simp[ψ,ltInt,w])])⟩ (by simp;omega)) (by rw[ae]) ?_;have:=Yi (show i+1<2 ^ 62 by omega);simpa using this
  .have v:insInner (ψ c) a j f=f:=by
    cases j with
    | zero=>rfl
    | succ p=>rw[insInner];simp[g]
   refine XJ g ?_;refine Η U ?_;refine W.exit U ?_;refine Χ ?_;refine W.to (H (i+1,f) ⟨m,M v⟩ (by simp;omega)) (by rw[k]) ?_;have:=Yi (show i+1<2 ^ 62 by omega);simpa using this
 .refine Η (by simp[o]) ?_;refine W.exit U ?_;have Ρ:insOuter (ψ c) a b i e=e:=by rw[insOuter,if_neg o]
  exact W.nil ⟨_,U,U,by rw[<-B,Ρ]⟩
theorem DK (d:Array (Int)) (n a b:Nat) (R:d.size=n) (ad:a<=b) (ae:b<=n) (af:n<2 ^ 40)  :
  Μ prog 197 [.ms 0 n 0 n,I a,I b] [.cells 3 1 (d.toList.map I)] (λr s=>r=.ZY []/\s=[.cells 3 1 ((Go.Sort.insertionSort (ltInt) d a b).toList.map I)]) (λ_ _=>False):=by
 refine Μ.body Ο func197 U U ntmps197 U U Ω ?_;refine Χ ?_;have S:=Yi (show a+1<2 ^ 62 by omega);refine W.iter (λq:Nat×Array (Int)=>q.2.size=n/\insOuter (ltInt) a b q.1 q.2=Go.Sort.insertionSort (ltInt) d a b) (λq=>[(0,.ms 0 n 0 n),(1,I a),(2,I b),(6,I q.1)]) (λq=>[.cells 3 1 (q.2.toList.map I)]) (λq=>b-q.1) (a+1,d) ⟨R,U⟩ U (by simpa using S) (λq hi E=>?_);obtain⟨i,e⟩:=q;obtain⟨F,v⟩:=hi;simp only at F v;refine Χ ?_;by_cases l:i<b
 .refine Ζ (by simp[l]) ?_;refine Χ ?_;refine W.iter (λq:Nat×Array (Int)=>q.2.size=n/\q.1<=i/\insInner (ltInt) a q.1 q.2=insInner (ltInt) a i e) (λq=>[(0,.ms 0 n 0 n),(1,I a),(2,I b),(6,I i),(7,I q.1)]) (λq=>[.cells 3 1 (q.2.toList.map I)]) (λq=>q.1) (i,e) ⟨F,Z6 _,U⟩ U Ω (λq c T=>?_);obtain⟨j,f⟩:=q;obtain⟨k,V,w⟩:=c;simp only at k V w;have H:insInner (ltInt) a j f=f->insOuter (ltInt) a b (i+1) f=Go.Sort.insertionSort (ltInt) d a b:=λhd=>by
   rw[<-v,<-hd,w];conv=>rhs;rw[insOuter,if_pos l]
  obtain⟨L,g⟩:=Ε (f.toList.map I);have K:L.length=n:=by rw[g];simpa using k
  refine W.to (σ':=[.cells 3 1 L]) (env':=[(0,.ms 0 n 0 n),(1,I a),(2,I b),(6,I i),(7,I j)]) ?_ (by rw[g]) Ω
  repeat apply Ν
  by_cases c:a<j
  .obtain⟨p,M⟩:∃p,j=p+1:=⟨j-1,J⟩;have B:IntKind.i64.wrap ((j:Int)-1)=(p:Int):=by have:=Yi (show p<2 ^ 62 by omega);rw[M];simpa using this
   have N:j<n:=J
   have O:p<n:=J
   have X:¬j=p:=J;obtain⟨x,m⟩:=Ε (f[j]!);obtain⟨y,o⟩:=Ε (f[p]!);have C:L[j]?=some (I x):=by rw[g,m,Yc,Wh,Rx J];rfl
   have D:L[p]?=some (I y):=by rw[g,o,Yc,Wh,Rx J];rfl
   have P:∀h:j<L.length,L[j]=I x:=λh=>by have:=C;rw[Z7 h] at this;exact WW this
   have Q:∀h:p<L.length,L[p]=I y:=λh=>by have:=D;rw[Z7 h] at this;exact WW this
   have t:insInner (ltInt) a j f=if ltInt x y=true then insInner (ltInt) a p (swp f j p) else f:=by
    subst M;rw[insInner,m,o];simp[c]
   have Y:(swp f j p).toList.map I=(L.set j (I y)).set p (I x):=by rw[g,m,o];simp[swp]
   have Z:(swp f j p).size=n:=by simp[swp,k]
   have aa:=g;clear m o;refine W.draw (A:=[]) Ο mixed λag ab=>V8 (Υ c (Υ B (Υ K (Υ N (Υ O (Υ C (Υ D (Υ P Q)))))))) ?_;refine Zc (Κ.p (SX x y) (ZN.refl _) Ω Ω) ?_;simp;(repeat (rw[Z1];simp));try rw[Z2]
   refine Zf (ab _ _ ?_);by_cases u:x<y
   .refine Ζ (by simp[u]) ?_
    repeat apply Ν
    refine XJ (Υ c (Υ B (Υ K (Υ N (Υ O (Υ C (Υ D (Υ P (Υ Q X))))))))) ?_;refine Χ ?_;refine W.to (T (p,swp f j p) ⟨Z,by simp;omega,?_⟩ (by simp;omega)) ?_ ?_
    .rw[<-w,t,if_pos (by simp[ψ,ltInt,u])]
    .rw[Y]
    .simp[B]
   .refine Η (by simp[u]) ?_;refine W.exit U ?_;refine Χ ?_;refine W.to (E (i+1,f) ⟨k,H (by rw[t,if_neg (by simp[ψ,ltInt,u])])⟩ (by simp;omega)) (by rw[aa]) ?_;have:=Yi (show i+1<2 ^ 62 by omega);simpa using this
  .have t:insInner (ltInt) a j f=f:=by
    cases j with
    | zero=>rfl
    | succ p=>rw[insInner];simp[c]
   refine XJ c ?_;refine Η U ?_;refine W.exit U ?_;refine Χ ?_;refine W.to (E (i+1,f) ⟨k,H t⟩ (by simp;omega)) (by rw[g]) ?_;have:=Yi (show i+1<2 ^ 62 by omega);simpa using this
 .refine Η (by simp[l]) ?_;refine W.exit U ?_;have Ρ:insOuter (ltInt) a b i e=e:=by rw[insOuter,if_neg l]
  exact W.nil ⟨_,U,U,by rw[<-v,Ρ]⟩
theorem xB (n:Nat) (h:n<256):Κ prog 192 [.z (.int .u64 n)] (I (bitsLen n)):=by
 refine Μ.body Ο func192 U U ntmps192 U U Ω ?_;have f:¬(n:Int)>=4294967296:=J;have g:¬(n:Int)>=65536:=J;have j:¬(n:Int)>=256:=J;have a:¬(4294967296:Int)<=n:=J;have b:¬(65536:Int)<=n:=J;have c:¬(256:Int)<=n:=J;refine Ι @a ?_;refine Η U ?_;refine Ι b ?_;refine Η U ?_;refine Ι c ?_;refine Η U ?_;have d:IntKind.u8.wrap (n:Int)=n:=by unfold IntKind.wrap;simp[IntKind.bits,IntKind.signed];omega
 refine XD d λk e=>?_;refine⟨Nat.lt_of_lt_of_eq h Zr,?_⟩;apply e;refine Χ ?_;refine W.ret ⟨_,U,?_,U⟩;refine .of (congrArg (λi=>Ψ.z (.int .i64 i)) ?_);apply xN n h;decide +kernel
theorem QR (n:Nat) (h:n<256):Κ prog 150 [.z (.int .u64 n)] (I (bitsLen n)):=by
 refine Μ.body Ο func150 U U ntmps150 U U Ω ?_;refine Χ ?_;refine Η U ?_;refine Z8 λb a=>?_;refine Κ.d (xB n h) (Z9 ?_);apply a;refine Χ ?_;refine W.rt ?_;exact .of U
theorem PR (y:Int×Int):∀a∈(Zb y).cells,ς 0 a:=by simp[Ψ.cells]
theorem M4 (y:Found):∀a∈(YB y).cells,ς 0 a:=by simp[Ψ.cells]
theorem Lt (y:Int×Int):∀a∈(YC y).cells,ς 0 a:=by simp[Ψ.cells]
theorem QQ (y:Int):∀a∈(I y).cells,ς 0 a:=by simp[Ψ.cells]
theorem xA (d:Array Zu) (n i:Nat) (j:d.size=n) (p:n<=12) (b:Ψ) (c:Int×Int->Int×Int->Int) (f:ς 0 b) (k:∀x y,XM prog b [Zb x,Zb y] (I (c x y))) :
  Μ prog 211 [.ms 0 n 0 n,I 0,I n,I i,b] [.cells 112 2 (d.toList.map Zb)] (λr s=>r=.ZY []/\s=[.cells 112 2 ((Go.Sort.insertionSort (ψ c) d 0 n).toList.map Zb)]) (λ_ _=>False):=by
 refine Μ.body Ο func211 U U ntmps211 U U Ω ?_;have l:=Yi (show n<2 ^ 62 by omega);have Ρ:(n:Int)<=12:=J;refine Χ ?_;refine .loop ?_;refine Ι l ?_;refine Ζ (by simp;omega) ?_;refine Z8 λt m=>?_;refine Μ.one (DL d n 0 n j (Α _) (Z6 _) J b c f k) 0 U (λe g a h=>by
  obtain⟨y,o,rfl⟩:=YO.1 g;exact PR y a h) (λe g a h=>by
  obtain⟨y,o,rfl⟩:=YO.1 g;exact PR y a h) (by simp[TY,N9,f.Vr 1]) (by simp[Xr]) (by simp[TX,Su,f.Yh [0]]) ?_
 simp[Yh,Wx];(repeat (rw[Θ];simp));apply m;exact W.ret ⟨_,U,U,U⟩
theorem xz (d:Array Zu) (n:Nat) (c:d.size=n) (j:n<=12) (b:Ψ) (f:Int×Int->Int×Int->Int) (g:ς 0 b) (k:∀x y,XM prog b [Zb x,Zb y] (I (f x y))) :
  Μ prog 173 [.ms 0 n 0 n,b] [.cells 112 2 (d.toList.map Zb)] (λr s=>r=.ZY []/\s=[.cells 112 2 ((Go.Sort.insertionSort (ψ f) d 0 n).toList.map Zb)]) (λ_ _=>False):=by
 refine Μ.body Ο func173 U U ntmps173 U U Ω ?_;have l:=Yi (show n<2 ^ 62 by omega);have Ρ:IntKind.u64.wrap (n:Int)=n:=by unfold IntKind.wrap;simp[IntKind.bits,IntKind.signed];omega
 refine Ι c ?_;(repeat apply Ν);refine YZ λp m=>?_;simp;(repeat (rw[Θ];simp[c,l,Ρ]));refine Κ.d (QR n J) (Z9 ?_);refine Μ.one (xA d n (bitsLen n) c j b f g k) 0 U (λe h a i=>by
  obtain⟨y,o,rfl⟩:=YO.1 h;exact PR y a i) (λe h a i=>by
  obtain⟨y,o,rfl⟩:=YO.1 h;exact PR y a i) (by simp[TY,N9,g.Vr 1]) (by simp[Xr]) (by simp[TX,Su,g.Yh [0]]) ?_
 simp[Yh,Wx];(repeat (rw[Θ];simp));apply m;exact W.nil ⟨_,U,U,U⟩
theorem xy (d:Array (Found)) (n i:Nat) (j:d.size=n) (p:n<=12) (b:Ψ) (c:Found->Found->Int) (f:ς 0 b) (k:∀x y,XM prog b [YB x,YB y] (I (c x y))) :
  Μ prog 182 [.ms 0 n 0 n,I 0,I n,I i,b] [.cells 110 3 (d.toList.map YB)] (λr s=>r=.ZY []/\s=[.cells 110 3 ((Go.Sort.insertionSort (ψ c) d 0 n).toList.map YB)]) (λ_ _=>False):=by
 refine Μ.body Ο func182 U U ntmps182 U U Ω ?_;have l:=Yi (show n<2 ^ 62 by omega);have Ρ:(n:Int)<=12:=J;refine Χ ?_;refine .loop ?_;refine Ι l ?_;refine Ζ (by simp;omega) ?_;refine Z8 λt m=>?_;refine Μ.one (xD d n 0 n j (Α _) (Z6 _) J b c f k) 0 U (λe g a h=>by
  obtain⟨y,o,rfl⟩:=YO.1 g;exact M4 y a h) (λe g a h=>by
  obtain⟨y,o,rfl⟩:=YO.1 g;exact M4 y a h) (by simp[TY,N9,f.Vr 1]) (by simp[Xr]) (by simp[TX,Su,f.Yh [0]]) ?_
 simp[Yh,Wx];(repeat (rw[Θ];simp));apply m;exact W.ret ⟨_,U,U,U⟩
theorem xx (d:Array (Found)) (n:Nat) (c:d.size=n) (j:n<=12) (b:Ψ) (f:Found->Found->Int) (g:ς 0 b) (k:∀x y,XM prog b [YB x,YB y] (I (f x y))) :
  Μ prog 147 [.ms 0 n 0 n,b] [.cells 110 3 (d.toList.map YB)] (λr s=>r=.ZY []/\s=[.cells 110 3 ((Go.Sort.insertionSort (ψ f) d 0 n).toList.map YB)]) (λ_ _=>False):=by
 refine Μ.body Ο func147 U U ntmps147 U U Ω ?_;have l:=Yi (show n<2 ^ 62 by omega);have Ρ:IntKind.u64.wrap (n:Int)=n:=by unfold IntKind.wrap;simp[IntKind.bits,IntKind.signed];omega
 refine Ι c ?_;(repeat apply Ν);refine YZ λp m=>?_;simp;(repeat (rw[Θ];simp[c,l,Ρ]));refine Κ.d (QR n J) (Z9 ?_);refine Μ.one (xy d n (bitsLen n) c j b f g k) 0 U (λe h a i=>by
  obtain⟨y,o,rfl⟩:=YO.1 h;exact M4 y a i) (λe h a i=>by
  obtain⟨y,o,rfl⟩:=YO.1 h;exact M4 y a i) (by simp[TY,N9,g.Vr 1]) (by simp[Xr]) (by simp[TX,Su,g.Yh [0]]) ?_
 simp[Yh,Wx];(repeat (rw[Θ];simp));apply m;exact W.nil ⟨_,U,U,U⟩
theorem xw (d:Array (Int)) (n f:Nat) (g:d.size=n) (k:n<=12)  :
  Μ prog 157 [.ms 0 n 0 n,I 0,I n,I f] [.cells 3 1 (d.toList.map I)] (λr s=>r=.ZY []/\s=[.cells 3 1 ((Go.Sort.insertionSort (ltInt) d 0 n).toList.map I)]) (λ_ _=>False):=by
 refine Μ.body Ο func157 U U ntmps157 U U Ω ?_;have h:=Yi (show n<2 ^ 62 by omega);have Ρ:(n:Int)<=12:=J;refine Χ ?_;refine .loop ?_;refine Ι h ?_;refine Ζ (by simp;omega) ?_;refine Z8 λl i=>?_;refine Μ.one (DK d n 0 n g (Α _) (Z6 _) J) 0 U (λe b a c=>by
  obtain⟨y,j,rfl⟩:=YO.1 b;exact QQ y a c) (λe b a c=>by
  obtain⟨y,j,rfl⟩:=YO.1 b;exact QQ y a c) (by simp[TY,N9]) (by simp[Xr]) (by simp[TX,Su]) ?_
 simp[Yh,Wx];(repeat (rw[Θ];simp));apply i;exact W.ret ⟨_,U,U,U⟩
theorem xv (d:Array (Int)) (n:Nat) (b:d.size=n) (g:n<=12)  :
  Μ prog 132 [.ms 0 n 0 n] [.cells 3 1 (d.toList.map I)] (λr s=>r=.ZY []/\s=[.cells 3 1 ((Go.Sort.insertionSort (ltInt) d 0 n).toList.map I)]) (λ_ _=>False):=by
 refine Μ.body Ο func132 U U ntmps132 U U Ω ?_;have h:=Yi (show n<2 ^ 62 by omega);have Ρ:IntKind.u64.wrap (n:Int)=n:=by unfold IntKind.wrap;simp[IntKind.bits,IntKind.signed];omega
 refine Ι b ?_;(repeat apply Ν);refine YZ λk i=>?_;simp;(repeat (rw[Θ];simp[b,h,Ρ]));refine Κ.d (QR n J) (Z9 ?_);refine Μ.one (xw d n (bitsLen n) b g) 0 U (λe c a f=>by
  obtain⟨y,j,rfl⟩:=YO.1 c;exact QQ y a f) (λe c a f=>by
  obtain⟨y,j,rfl⟩:=YO.1 c;exact QQ y a f) (by simp[TY,N9]) (by simp[Xr]) (by simp[TX,Su]) ?_
 simp[Yh,Wx];(repeat (rw[Θ];simp));apply i;exact W.nil ⟨_,U,U,U⟩
theorem xu (l:ZZ) (b:Ψ) (p:Int->Bool) (g:l.length<2 ^ 62) (o:ς 0 b) (k:∀x∈l,XM prog b [I x] (ν (p x))):Κ prog 131 [δ I 1 l,b] (I (idxOf p l)):=by
 refine Μ.body Ο func131 U U ntmps131 U U Ω ?_;refine Χ ?_;refine W.iter (λi:Nat=>i<=l.length/\∀j,j<i->(h:j<l.length)->p l[j]=false) (λi=>[(0,δ I 1 l),(1,b),(6,δ I 1 l),(7,I l.length),(8,I i)]) (λ_=>[]) (λi=>l.length-i) 0 ⟨Α _,λj f=>J⟩ U Ω (λi hi m=>?_);refine Χ ?_;refine W.YH U (λa=>?_) (λa=>?_)
 .have a:i<l.length:=by simpa using a
  refine Ι a ?_;refine XD a λr n=>?_;refine(k _ (Yx a)).c ?_;simp;(repeat (rw[Θ];simp));apply n;cases d:p l[i]
  .refine Η (by simp[d]) ?_;refine Χ ?_;refine W.forget _ ?_ (m (i+1) ⟨J,λj f h=>?_⟩ J)
   .simp[Yn a g]
   .by_cases e:j=i
    .subst e;exact d
    .exact hi.2 j J h
  .refine Ζ (by simp[d]) ?_;refine Χ ?_;refine W.ZA ?_;rw[Ja a d hi.2];rfl
 .have a:l.length<=i:=by simpa using a
  refine W.exit U ?_;refine Χ ?_;refine W.ZA ?_;rw[I' λj f=>hi.2 j J f];rfl
theorem xr (l:ZZ) (a:Ψ) (p:Int->Bool) (d:l.length<2 ^ 62) (b:ς 0 a) (e:∀x∈l,XM prog a [I x] (ν (p x))):Κ prog 94 [δ I 1 l,a] (ν (l.any p)):=by
 refine Μ.body Ο func94 U U ntmps94 U U Ω ?_;refine Χ ?_;refine Z8 λg f=>?_;refine Κ.c (xu l a p d b e) (ZN.refl _) (by simp[b]) Ω ?_;simp;(repeat (rw[Θ];simp));apply f;refine Χ ?_;refine W.ZA ?_;rw[<-I9 (p:=p)];rfl
theorem xq (l:List U3) (b:Ψ) (p:U3->Bool) (g:l.length<2 ^ 62) (o:ς 0 b) (k:∀x∈l,XM prog b [XW x] (ν (p x))):Κ prog 100 [δ XW 2 l,b] (I (idxOf p l)):=by
 refine Μ.body Ο func100 U U ntmps100 U U Ω ?_;refine Χ ?_;refine W.iter (λi:Nat=>i<=l.length/\∀j,j<i->(h:j<l.length)->p l[j]=false) (λi=>[(0,δ XW 2 l),(1,b),(6,δ XW 2 l),(7,I l.length),(8,I i)]) (λ_=>[]) (λi=>l.length-i) 0 ⟨Α _,λj f=>J⟩ U Ω (λi hi m=>?_);refine Χ ?_;refine W.YH U (λa=>?_) (λa=>?_)
 .have a:i<l.length:=by simpa using a
  refine Ι a ?_;refine XD a λr n=>?_;refine(k _ (Yx a)).c ?_;simp;(repeat (rw[Θ];simp));apply n;cases d:p l[i]
  .refine Η (by simp[d]) ?_;refine Χ ?_;refine W.forget _ ?_ (m (i+1) ⟨J,λj f h=>?_⟩ J)
   .simp[Yn a g]
   .by_cases e:j=i
    .subst e;exact d
    .exact hi.2 j J h
  .refine Ζ (by simp[d]) ?_;refine Χ ?_;refine W.ZA ?_;rw[Ja a d hi.2];rfl
 .have a:l.length<=i:=by simpa using a
  refine W.exit U ?_;refine Χ ?_;refine W.ZA ?_;rw[I' λj f=>hi.2 j J f];rfl
theorem xp (l:List U3) (a:Ψ) (p:U3->Bool) (d:l.length<2 ^ 62) (b:ς 0 a) (e:∀x∈l,XM prog a [XW x] (ν (p x))):Κ prog 135 [δ XW 2 l,a] (ν (l.any p)):=by
 refine Μ.body Ο func135 U U ntmps135 U U Ω ?_;refine Χ ?_;refine Z8 λg f=>?_;refine Κ.c (xq l a p d b e) (ZN.refl _) (by simp[b]) Ω ?_;simp;(repeat (rw[Θ];simp));apply f;refine Χ ?_;refine W.ZA ?_;rw[<-I9 (p:=p)];rfl
theorem xo (l:List YV) (b:Ψ) (p:YV->Bool) (g:l.length<2 ^ 62) (o:ς 0 b) (k:∀x∈l,XM prog b [Zi x] (ν (p x))):Κ prog 230 [δ Zi 3 l,b] (I (idxOf p l)):=by
 refine Μ.body Ο func230 U U ntmps230 U U Ω ?_;refine Χ ?_;refine W.iter (λi:Nat=>i<=l.length/\∀j,j<i->(h:j<l.length)->p l[j]=false) (λi=>[(0,δ Zi 3 l),(1,b),(6,δ Zi 3 l),(7,I l.length),(8,I i)]) (λ_=>[]) (λi=>l.length-i) 0 ⟨Α _,λj f=>J⟩ U Ω (λi hi m=>?_);refine Χ ?_;refine W.YH U (λa=>?_) (λa=>?_)
 .have a:i<l.length:=by simpa using a
  refine Ι a ?_;refine XD a λr n=>?_;refine(k _ (Yx a)).c ?_;simp;(repeat (rw[Θ];simp));apply n;cases d:p l[i]
  .refine Η (by simp[d]) ?_;refine Χ ?_;refine W.forget _ ?_ (m (i+1) ⟨J,λj f h=>?_⟩ J)
   .simp[Yn a g]
   .by_cases e:j=i
    .subst e;exact d
    .exact hi.2 j J h
  .refine Ζ (by simp[d]) ?_;refine Χ ?_;refine W.ZA ?_;rw[Ja a d hi.2];rfl
 .have a:l.length<=i:=by simpa using a
  refine W.exit U ?_;refine Χ ?_;refine W.ZA ?_;rw[I' λj f=>hi.2 j J f];rfl
theorem xn (l:List YV) (a:Ψ) (p:YV->Bool) (d:l.length<2 ^ 62) (b:ς 0 a) (e:∀x∈l,XM prog a [Zi x] (ν (p x))):Κ prog 194 [δ Zi 3 l,a] (ν (l.any p)):=by
 refine Μ.body Ο func194 U U ntmps194 U U Ω ?_;refine Χ ?_;refine Z8 λg f=>?_;refine Κ.c (xo l a p d b e) (ZN.refl _) (by simp[b]) Ω ?_;simp;(repeat (rw[Θ];simp));apply f;refine Χ ?_;refine W.ZA ?_;rw[<-I9 (p:=p)];rfl
def WM:ZZ->Int
 | []=>0
 | e::l=>if e=0 then WM l else e
theorem xm {l:ZZ} {i:Nat} (h:i<l.length) (a:l[i]≠0) (b:∀j,j<i->(c:j<l.length)->l[j]=0):WM l=l[i]:=by
 induction l generalizing i with
 | nil=>cases h
 | cons e l d=>
  cases i with
  | zero=>simp at a;simp[WM,a]
  | succ i=>
   have f:e=0:=b 0 J Ω;simp only[WM,f,if_true,List.getElem_cons_succ];exact d (by simpa using h) (by simpa using a) λj c g=>b (j+1) J (by simpa using g)
theorem xl {l:ZZ} (h:∀j,(a:j<l.length)->l[j]=0):WM l=0:=by
 induction l with
 | nil=>rfl
 | cons e l b=>
  have c:e=0:=h 0 Ω;simp only[WM,c,if_true];exact b λj a=>h (j+1) (by simpa using a)
theorem QP {f:Nat->Int} {n i:Nat} {e:Int} (h:i<n) (a:f i=e) (b:e≠0) (c:∀j,j<i->f j=0):WM ((List.range n).map f)=e:=by
 rw[xm (i:=i) (by simpa using h) (by simp[a,b]) (λj d g=>by simpa using c j d)];simp[a]
theorem QO {f:Nat->Int} {n:Nat} (h:∀j,j<n->f j=0):WM ((List.range n).map f)=0:=
 xl λj a=>by simpa using h j (by simpa using a)
def UJ (n:ByteArray):Bool:=n.size != 1||LR n ⟨#[97]⟩||!Vl n ⟨#[122]⟩
def U2 (l:List U3) (i:Nat):Int:=match l[i]? with
 | none=>0
 | some g=>if UJ g.name then 2 else if 0<i/\Vl g.name ((l[i-1]?.map (·.name)).getD ⟨#[]⟩)=true then 5 else if g.YJ<1\/63<g.YJ then 1 else if(l.take i).any (λx=>x.YJ==g.YJ) then 4 else 0
def VG (l:List U3):Int:=if l.length=0 then 7 else if 6<l.length then 6 else WM ((List.range l.length).map (U2 l))
theorem xk (g x:U3):Κ prog 136 [XW x,.ξ [U4 g.name,I g.YJ]] (ν (x.YJ==g.YJ)):=by
 refine Μ.body Ο func136 U U ntmps136 U U Ω ?_;refine Χ ?_;refine W.ZA ?_;simp
theorem xj (s:ω) (v:s.small):Κ prog 103 [Zq s] (I (VG s.χ)):=by
 refine Μ.body Ο func103 U U ntmps103 U U Ω ?_;have K:=v.1;by_cases b:s.χ.length=0
 .refine Ι b ?_;refine Ζ Ω ?_;refine Χ ?_;refine W.ZA ?_;rw[show VG s.χ=7 by simp[VG,b]];rfl
 by_cases k:(6:Int)<s.χ.length
 .refine Ι (Υ b k) ?_;refine Η (by simp[b]) ?_;refine Ι (Υ b k) ?_;refine Ζ Ω ?_;refine Χ ?_;refine W.ZA ?_;rw[show VG s.χ=6 by simp[VG,b];omega];rfl
 have w:VG s.χ=WM ((List.range s.χ.length).map (U2 s.χ)):=by
  unfold VG;rw[if_neg b,if_neg J]
 rw[w];refine Ι (Υ b k) ?_;refine Η (by simp[b]) ?_;refine Ι (Υ b k) ?_;refine Η Ω ?_;refine Χ ?_;refine W.iter (λi:Nat=>i<=s.χ.length/\∀j,j<i->U2 s.χ j=0) (λi=>[(1,ZV s),(17,ZD s.χ),(18,I s.χ.length),(19,I i)]) (λ_=>[]) (λi=>s.χ.length-i) 0 ⟨J,λj r=>J⟩ U Ω (λi hi y=>?_);refine Χ ?_;refine W.YH U (λa=>?_) (λa=>?_)
 .have a:i<s.χ.length:=by simpa using a
  have d:s.χ[i]?=some s.χ[i]:=Z7 a
  have l:∀e:Int,U2 s.χ i=e->e≠0->WM ((List.range s.χ.length).map (U2 s.χ))=e:=λe B m=>QP a B m hi.2
  repeat apply Ν
  refine YY (A:=[4]) Ο λC o=>XK a ?_;apply o;refine W.fix (id:=0) (σ':=[]) (Α _) U Ω Ω U [(1,ZV s),(17,ZD s.χ),(18,I s.χ.length),(19,I i),(3,I i),(4,.ξ [U4 s.χ[i].name,I s.χ[i].YJ])] Ω ?_
  repeat apply Ν
  refine W.Ry (A:=[]) Ο [(1,ZV s),(17,ZD s.χ),(18,I s.χ.length),(19,I i),(3,I i),(4,.ξ [U4 s.χ[i].name,I s.χ[i].YJ]),(5,ZD (s.χ.take i))] ?_ (by simp[Θ,Sy,SM a])
  repeat apply Ν
  refine W.Ry (A:=[]) Ο [(28,ν (UJ s.χ[i].name)),(1,ZV s),(17,ZD s.χ),(18,I s.χ.length),(19,I i),(3,I i),(4,.ξ [U4 s.χ[i].name,I s.χ[i].YJ]),(5,ZD (s.χ.take i))] ?_ (by
   unfold UJ;by_cases t:(s.χ[i].name.size:Int)=1
   .have p:s.χ[i].name.size=1:=J
    cases D:LR s.χ[i].name ⟨#[97]⟩<;>simp[Θ,Sy,t,D,p]
   .have p:¬s.χ[i].name.size=1:=J
    simp[Θ,Sy,t,p])
  cases f:UJ s.χ[i].name
  case true=>
   refine Ζ U ?_;refine Χ ?_;refine W.ZA ?_;rw[l 2 (by simp[U2,d,f]) ZT];rfl
  refine Η U ?_
  repeat apply Ν
  refine W.Pf (A:=[]) Ο mixed [(43,ν (decide (0<i)&&Vl s.χ[i].name ((s.χ[i-1]?.map (·.name)).getD ⟨#[]⟩))),(1,ZV s),(17,ZD s.χ),(18,I s.χ.length),(19,I i),(3,I i),(4,.ξ [U4 s.χ[i].name,I s.χ[i].YJ]),(5,ZD (s.χ.take i))] ?_ (by
   cases i with
   | zero=>simp[Z1,Z2];exact Yq Zr
   | succ n=>
    have E:n<s.χ.length:=J
    have F:=Yi (show n<2 ^ 62 by omega)
    have m:(0:Int)<(n:Int)+1:=J
    have H:n<min (n+1) s.χ.length:=J;simp[Z1,Z2,m,E,F,H];exact Yq Zr)
  cases bo:decide (0<i)&&Vl s.χ[i].name ((s.χ[i-1]?.map (·.name)).getD ⟨#[]⟩)
  case true=>
   refine Ζ U ?_;refine Χ ?_;refine W.ZA ?_;rw[l 5 (by simp at bo;simp[U2,d,f,bo]) ZT];rfl
  refine Η U ?_
  repeat apply Ν
  refine W.Ry (A:=[]) Ο [(57,ν (decide (s.χ[i].YJ<1)||decide (63<s.χ[i].YJ))),(1,ZV s),(17,ZD s.χ),(18,I s.χ.length),(19,I i),(3,I i),(4,.ξ [U4 s.χ[i].name,I s.χ[i].YJ]),(5,ZD (s.χ.take i))] ?_ (by by_cases q:s.χ[i].YJ<1<;>simp[Θ,Sy,q]);have bo':¬(0<i/\Vl s.χ[i].name ((s.χ[i-1]?.map (·.name)).getD ⟨#[]⟩)=true):=λh=>by simp[h] at bo
  by_cases g:s.χ[i].YJ<1\/63<s.χ[i].YJ
  case pos=>
   refine Ζ (by simpa using g) ?_;refine Χ ?_;refine W.ZA ?_;rw[l 1 (by simp only[U2,d,f];rw[if_neg bo',if_pos g];rfl) ZT];rfl
  refine Η (by simpa using g) ?_;refine Z8 λC o=>?_;refine Κ.c (xp (s.χ.take i) (.fn (.func 136) [] [.ξ [U4 s.χ[i].name,I s.χ[i].YJ]]) (λx=>x.YJ==s.χ[i].YJ) (by simp;omega) (by simp[U5]) (λx _=>λ_=>(xk s.χ[i] x).cc (by simp;exact ZN.refl _) Ω Ω ⟨U,U⟩)) (ZN.refl _) (by simp[U5]) Ω ?_;simp;(repeat (rw[Θ];simp));apply o;cases u:(s.χ.take i).any (λx=>x.YJ==s.χ[i].YJ)
  case true=>
   refine Ζ Ω ?_;refine Χ ?_;refine W.ZA ?_;rw[l 4 (by simp only[U2,d,f];rw[if_neg bo',if_neg g,u];rfl) ZT];rfl
  refine Η Ω ?_;refine Χ ?_;refine W.forget _ ?_ (y (i+1) ⟨a,λj r=>?_⟩ J)
  .simp[Yn a (show s.χ.length<2 ^ 62 by omega)]
  .by_cases e:j=i
   .subst e;simp only[U2,d,f];rw[if_neg bo',if_neg g,u];rfl
   .exact hi.2 j J
 .have a:s.χ.length<=i:=by simpa using a
  refine W.exit U ?_;refine Χ ?_;refine W.ZA ?_;rw[QO λj r=>hi.2 j J];rfl
end Go.TL
namespace Go.TL
open Go.Proofs.Tryz
open Go.Sort (SWO bitsLen insInner insOuter insertionSort_holds ltInt sorted_unique_holds swo_ltInt swp)
open Go.Conc
variable [ZP]
structure Base where
 S:κ
 B:Z5
 H:Τ
 σ:Ξ
 m:Nat
def V (P:Program) (a:Value->Prop) (mn:Bool) (x:WA) (b:Frame) (cs:YU) (nt:Nat) (o:Base) (k:Zz) (env:Β) (σ:Ξ):Prop:=
 ∀(S:κ) (B:Z5) (H:Τ) (t:ζ),XE o.m o.S o.B o.H o.σ S B H σ->Xb o.m nt S B H σ env t->γ P a mn x (π b t k) cs H
def DJ (P:Program) (c:Value->Prop) (mn:Bool) (x:WA) (b:Frame) (cs:YU) (o:Base) (a:Ψ) (env:Β) (σ:Ξ):Prop:=
 ∀(S:κ) (B:Z5) (H:Τ) (t:ζ) (k:Zz) (v:Value),XE o.m o.S o.B o.H o.σ S B H σ->Holds S B σ H->Yv S B σ env t->υ S B σ a v->γ P c mn x {π b t k with mode:=.panicking [{v,recovered:=false}]} cs H
structure N8 (P:Program) (d:Deferred) (g:FuncId) (vs:ζ):Prop where
 t1:∀r,d.target≠.collected r
 t2:d.target≠.nil
 run:∀w,(invoke d.target d.args).runT P w #[]=(.ok (.enter g vs) w,#[])
section
variable {P:Program} {T:ZR} {A:ο} {Q:Value->Prop} {mn:Bool} {x:WA} {b:Frame} {cs:YU} {m nt:Nat} {o:Base} {k:Zz} {env:Β} {σ:Ξ} {S Yl:κ} {B B':Z5} {H H':Τ} {σ':Ξ} {t:ζ} {Z:XO} {E:Ya}
theorem V.W' (g:Seq x) (i:b.mode=.run) (h:W P o.m nt k env σ (V P Q mn x b cs nt o) (DJ P Q mn x b cs o)):V P Q mn x b cs nt o k env σ:=
 λS B H t f l=>h Q mn x cs b S B H t g i l (λj env' σ' Yl B' H' t' c n d p r=>by
  have e:c=j:=r;subst e;exact n Yl B' H' t' (f.trans d) p) (λa env' σ' Yl B' H' t' c v s d u w y=>s Yl B' H' t' c v (f.trans d) u w y)
theorem V.Zh (a:Seq x) (h:W P o.m nt k env σ (V P Q mn x b cs nt o) (DJ P Q mn x b cs o)) (c:b.mode=.run:=by rfl):V P Q mn x b cs nt o k env σ:=.W' a c h
theorem V.here (h:V P Q mn x b cs nt ⟨S,B,H,σ,m⟩ k env σ) (a:Xb m nt S B H σ env t):γ P Q mn x (π b t k) cs H:=h S B H t .refl a
theorem W.Za {id:Nat} {ops:ZC} (h:W P m nt (.inRegion ops (idx ops.size [])::k) env σ Z E):W P m nt (.code (.region id ops false)::k) env σ Z E:=
 λQ mn x cs b S B H t a c d e f=>.region a c (by rw[<-idx_eq];exact h Q mn x cs b S B H t a c d e f)
theorem W.part (c:Zv P T) (is a:ο) {ops:ZC} {l:ο} (d:l=is++a) (h:∀b:Β->Ξ->Prop,(∀env σ,W P m nt (.inRegion ops a::k) env σ Z E->b env σ)->run P T A nt ops is env σ b E):W P m nt (.inRegion ops l::k) env σ Z E:=
 d▸Hd c a is env σ (h _ λ_ _ h=>h)
theorem GV (e:Yv S B σ env t) (args:Array Operand):XN S B σ (args.toList.map (ε env)) (args.map (ZJ t)):=by
 refine⟨Ω,λi a v b c=>?_⟩;rw[Yc,Wh] at b;rw[Px] at c;cases d:args[i]? with
 | none=>rw[d] at b;cases b
 | some y=>rw[d] at b c;cases b;cases c;exact T3 e y
theorem Plain.enter {g:FuncId} (h:Plain P g) (vs:ζ) (w:World):(callFunc g vs).runT P w #[]=(.ok (.enter g vs) w,#[]):=by
 obtain⟨fn,a,b,c⟩:=h;unfold callFunc;show Sem.runT P (Sem.bind program λp=>_) w #[]=_;simp only[program,Sem.bind];show Sem.runT P (match P.funcs[g]? with|none=>_|some fn=>_) w #[]=_;rw[a];simp only[b,c,WX,if_false];rfl
theorem Xb.put {c:Oper} {a:Ψ} {v:Value} (b:Xb m nt S B H σ env t) (hd:Wz nt c=true) (d:υ S B σ a v):Xb m nt S B H σ (Zn c env a) (put c t v):=
 ⟨b.holds,(QT b.Y7 hd b.size d).1,(QT b.Y7 hd b.size d).2,b.rows⟩
theorem XE.all (h:XE m S B H σ Yl B' H' σ') (b:Holds S B σ H) (a:σ.length<=m):Zm S Yl B B' σ σ':=by
 have:=h.later
 rwa [VP (by rw[b.len];exact a),VP a] at this
theorem V.defer (p:Seq x) (r:b.mode=.run) (s:b.roundOf=none) {ops:ZC} {i:Nat} {rest:ο} {a:Oper} (u:ops[i]?=some a) (v:Xx env ops a=some true) (y:a.dst=none) {f:Operand} {args:Array Operand} {A:Array TypeId} (C:a.op=.defer ⟨.value f,args,A⟩)
  {g:FuncId} {first captured:μ} (D:ε env f=.fn (.func g) first captured) (E:Plain P g)
  (h:∀(S:κ) (B:Z5) (H:Τ) (t:ζ) (d:Deferred) (vs:ζ),XE o.m o.S o.B o.H o.σ S B H σ->Xb o.m nt S B H σ env t->XN S B σ (first++args.toList.map (ε env)++captured) vs->N8 P d g vs->
   γ P Q mn x (π {b with defers:=d::b.defers} t (.inRegion ops rest::k)) cs H):V P Q mn x b cs nt o (.inRegion ops (i::rest)::k) env σ:=by
 intro S B H t F c;refine .op p r u (UO c.Y7 v) (.inl s) ?_;have j:=T3 c.Y7 f;rw[D] at j;have I:=GV c.Y7 args;have e:execOp (ZJ t) a=(do pure (.defer (<-Deferred.ofValue (ZJ t f) (args.map (ZJ t))))):=by unfold execOp;rw[C];rfl
 rw[e];generalize ZJ t f=T at j;cases j with
 | fn l n J K L M=>
  refine Φ.bind' (Φ.pure' (Φ.pure' ?_));have N:put a t undef=t:=by unfold put;rw[y]
  simp only[EP,N];have O:XN S B σ first l:=⟨J,L⟩
  have R:XN S B σ captured n:=⟨K,M⟩;exact h S B H t ⟨.fn (.func g) n,l++args.map (ZJ t)⟩ (l++args.map (ZJ t)++n) F c ((O.append I).append R) ⟨λ_ h=>(by cases h),λh=>(by cases h),λw=>E.enter _ w⟩
theorem γ.recovered (d:Seq x) (f:b.mode=.run) (c:b.roundOf=none) {ops:ZC} {i:Nat} {rest:ο} {op:Oper} (g:ops[i]?=some op) (j:op.guard=none) {l:Array TypeId} (m:op.op=.call ⟨.builtin .recover,#[],l⟩) {v:Value} {cs':YU}
  (a:(tryRecover (π b t (.inRegion ops (i::rest)::k)) cs=some (v,cs'))\/(tryRecover (π b t (.inRegion ops (i::rest)::k)) cs=none/\v=.nilIface/\cs'=cs))
  (h:γ P Q mn x (π b (put op t v) (.inRegion ops rest::k)) cs' H):γ P Q mn x (π b t (.inRegion ops (i::rest)::k)) cs H:=by
 refine .op d f g (by unfold Region.wanted;rw[j]) (.inl c) ?_;have e:execOp (ZJ t) op=pure .recover:=by unfold execOp;rw[m];rfl
 rw[e];refine Φ.pure' ⟨c,?_⟩;rcases a with a|⟨a,rfl,rfl⟩
 .rw[a];exact h
 .rw[a];exact h
end
theorem results_none {fn:Func} (h:fn.results=#[]) (t:ζ):results fn t=pure (.tuple #[]):=by
 unfold results;rw[h];simp
theorem Rw {P:Program} {g:FuncId} {fn:Func} {body:Code} (b:P.funcs[g]?=some fn) (c:fn.body=some body) (vs:ζ) (a:CallKind):Frame.enter P g vs a=π (Frame.enter P g vs a) (vs++Array.replicate (fn.ntmps-vs.size) undef) [.code body]:=by
 simp[Frame.enter,π,b,c]
theorem Xb.enter {S:κ} {B:Z5} {H:Τ} {σ:Ξ} {a:μ} {vs:ζ} {nt m:Nat} (b:Holds S B σ H) (hv:XN S B σ a vs) (c:m<=σ.length) (d:a.length<=nt):Xb m nt S B H σ (entry 0 a) (vs++Array.replicate (nt-vs.size) undef):=
 ⟨b,Ea hv _,by have:=hv.1;simp;omega,c⟩
end Go.TL
namespace Go.TL
open Go.Proofs.Tryz
open Go.Sort (SWO bitsLen insInner insOuter insertionSort_holds ltInt sorted_unique_holds swo_ltInt swp)
open Go.Proofs
variable [ZP]
def Xw (s:ω) (a:List YV) (p:YV):Int:=
 if p.YX<0\/(s.θ.length:Int)<=p.YX then 3 else if a.any (λx=>x.YX==p.YX) then 4 else if valid p.seen=false\/valid p.bare=false then 1 else if UM p.seen p.bare=0 then 0 else 9
theorem xi (p x:YV):Κ prog 195 [Zi x,.ξ [I p.YX,I p.seen,I p.bare]] (ν (x.YX==p.YX)):=by
 refine Μ.body Ο func195 U U ntmps195 U U Ω ?_;(repeat (first|apply Ν|(refine YZ λb a=>?_;simp;(repeat (rw[Θ];simp));apply a)));refine W.ret ⟨_,U,?_,U⟩;exact .of (by simp)
theorem xh (s:ω) (d:List YV) (n:d.length<2 ^ 62) (p:YV):Μ prog 153 [Zq s,UN d,Zi p] [] (λa σ=>Xw s d p=0/\a=.ZY []/\σ=[]) (λa σ=>Xw s d p≠0/\a=.W6 38 (I (Xw s d p))/\σ=[]):=by
 refine Μ.body Ο func153 U U ntmps153 U U Ω ?_;(repeat (first|apply Ν|(refine YZ λf b=>?_;simp;(repeat (rw[Θ];simp));apply b)));refine W.Pf (A:=[]) Ο mixed [(6,I p.seen),(7,I p.bare),(1,UN d),(3,ZV s),(5,.ξ [I p.YX,I p.seen,I p.bare])] ?_ (by simp[Z1,Z2];exact Yq Zr)
 repeat apply Ν
 refine W.Ry (A:=[]) Ο [(12,ν (decide (p.YX<0)||decide ((s.θ.length:Int)<=p.YX))),(6,I p.seen),(7,I p.bare),(1,UN d),(3,ZV s),(5,.ξ [I p.YX,I p.seen,I p.bare])] ?_ (by by_cases q:p.YX<0<;>simp[Θ,Sy,q]);by_cases i:p.YX<0\/(s.θ.length:Int)<=p.YX
 case pos=>
  have e:Xw s d p=3:=by unfold Xw;rw[if_pos i]
  rw[e];refine Ζ (by simpa using i) ?_;(repeat apply Ν);refine YZ λf b=>?_;simp;(repeat (rw[Θ];simp))
 refine Η (by simpa using i) ?_;(repeat apply Ν);refine YZ λf b=>?_;simp;(repeat (rw[Θ];simp));refine Κ.c (xn d (.fn (.func 195) [] [.ξ [I p.YX,I p.seen,I p.bare]]) (λx=>x.YX==p.YX) n (by simp[U5]) (λx _=>λ_=>(xi p x).cc (by simp;exact ZN.refl _) Ω Ω ⟨U,U⟩)) (ZN.refl _) (by simp[U5]) Ω ?_;simp;(repeat (rw[Θ];simp));apply b;cases k:d.any (λx=>x.YX==p.YX)
 case true=>
  have e:Xw s d p=4:=by unfold Xw;rw[if_neg i,if_pos k]
  rw[e];refine Ζ Ω ?_;(repeat apply Ν);refine YZ λf b=>?_;simp;(repeat (rw[Θ];simp))
 refine Η Ω ?_
 repeat apply Ν
 have m:(valid p.seen=false\/valid p.bare=false)->Xw s d p=1:=λh=>by unfold Xw;rw[if_neg i,k];simp[h]
 cases g:valid p.seen
 case false=>
  rw[m (.inl g)];(repeat apply Ν);refine YZ λf b=>?_;simp;(repeat (rw[Θ];simp));refine Κ.c (M5 p.seen) (ZN.refl _) Ω Ω ?_;simp[g];(repeat (rw[Θ];simp[g]));apply b;refine Ζ U ?_;(repeat apply Ν);refine YZ λf b=>?_;simp;(repeat (rw[Θ];simp))
 cases j:valid p.bare
 case false=>
  rw[m (.inr j)];(repeat apply Ν);refine YZ λf b=>?_;simp;(repeat (rw[Θ];simp));refine Κ.c (M5 p.seen) (ZN.refl _) Ω Ω ?_;simp[g];(repeat (rw[Θ];simp[g]));refine Κ.c (M5 p.bare) (ZN.refl _) Ω Ω ?_;simp[j];(repeat (rw[Θ];simp[j]));apply b;refine Ζ U ?_;(repeat apply Ν);refine YZ λf b=>?_;simp;(repeat (rw[Θ];simp))
 (repeat apply Ν);refine YZ λf b=>?_;simp;(repeat (rw[Θ];simp));refine Κ.c (M5 p.seen) (ZN.refl _) Ω Ω ?_;simp[g];(repeat (rw[Θ];simp[g]));refine Κ.c (M5 p.bare) (ZN.refl _) Ω Ω ?_;simp[j];(repeat (rw[Θ];simp[j]));apply b;refine Η U ?_;(repeat apply Ν);refine YZ λf b=>?_;simp;(repeat (rw[Θ];simp));refine Κ.c (DR p.seen p.bare) (ZN.refl _) Ω Ω ?_;simp;(repeat (rw[Θ];simp));apply b;by_cases l:UM p.seen p.bare=0
 .have e:Xw s d p=0:=by unfold Xw;rw[if_neg i,k];simp[g,j,l]
  refine Η (by simp[l]) ?_;(repeat (first|apply Ν|(refine YZ λf b=>?_;simp;(repeat (rw[Θ];simp));apply b)));exact W.nil ⟨_,U,e,U,U⟩
 .have e:Xw s d p=9:=by unfold Xw;rw[if_neg i,k];simp[g,j,l]
  rw[e];refine Ζ (by simp[l]) ?_;(repeat apply Ν);refine YZ λf b=>?_;simp;(repeat (rw[Θ];simp))
end Go.TL
namespace Go.TL
open Go.Proofs.Tryz
open Go.Sort (SWO bitsLen insInner insOuter insertionSort_holds ltInt sorted_unique_holds swo_ltInt swp)
open Go.Proofs Go.Conc
variable [ZP]
theorem XN.later {S b:κ} {B B':Z5} {σ σ':Ξ} {l:μ} {vs:ζ} (h:XN S B σ l vs) (c:Zm S b B B' σ σ'):XN b B' σ' l vs:=⟨h.1,λi a v d e=>(h.2 i a v d e).later c⟩
theorem Od.fin {P:Program} {e:Value->Prop} {mn:Bool} {x:WA} {c:Frame} {rest:YU} {S f:κ} {H H':Τ} {B':Z5} {σ':Ξ} {v:Value} {r:Ψ} (j:Od P e mn x c rest S [] H [] (λa s=>YR a r/\s=[]) (λ_ _=>False))
  (g:Ext S [] H f B' H') (k:Holds f B' σ' H') (l:∀S B σ,υ S B σ r v):γ P e mn x (c.finish v) rest H':=by
 obtain⟨i,d⟩:=k.close (h:=0) (λid r m=>J);simp only[List.take_zero] at i d;exact j.ret r [] _ [] H' v ⟨.refl _,U⟩ (g.trans d) ⟨λb o v hv=>d.Yy _ _ _ (g.Yy _ _ _ hv),λid r h=>by simp at h⟩ i (l _ _ _)
abbrev PQ (e:Int):Ξ:=[.cells 38 1 [I e]]
section
variable {Q:Value->Prop} {mn:Bool} {x:WA} {c f:Frame} {rest:YU} {S Xv:κ} {R6:Z5} {H H1:Τ} {N7 e:Int} {DI:ζ} {t:ζ} {env:Β} {err:Int}
theorem DH (b:Seq x) (w:Od prog Q mn x c rest S [] H [] (λa s=>YR a (I err)/\s=[]) (λ_ _=>False)) {d:Deferred} (hd:N8 prog d 152 DI)
  (y:f.fn=122) (B:f.defers=[d]) (r:f.kind=.normal) (af:f.roundOf=none) (j:(f.mode=.returning/\N7=err)\/∃v,f.mode=.panicking [{v,recovered:=false}]/\υ Xv R6 (PQ N7) (.W6 38 (I err)) v)
  (C:Ext S [] H Xv R6 H1) (n:Holds Xv R6 (PQ N7) H1) (hv:XN Xv R6 (PQ N7) [.Δ 0 1 0 0] DI) (D:Yv Xv R6 (PQ N7) env f.tmps) (E:Z3 env 6=.Δ 0 1 0 0):γ prog Q mn x f (c::rest) H1:=by
 have F:f.mode≠.run:=by rcases j with⟨h,_⟩|⟨v,h,_⟩<;>rw[h]<;>simp
 refine γ.deferred b F B hd.t1 hd.t2 hd.run ?_;rw[Rw func152 U];have t:∀(f':Frame) (e:κ) (g:Z5) (i:Τ),f'.mode=.returning->f'.defers=[]->f'.kind=.normal->f'.fn=f.fn->f'.tmps=f.tmps->Ext Xv R6 H1 e g i->Zm Xv e R6 g (PQ N7) (PQ err)->Holds e g (PQ err) i->γ prog Q mn x f' (c::rest) i:=λf' e g i J K L M N O P R=>by
  refine γ.back b J K (.inl L) (fn:=f122) (by rw[M,y];exact func122) ?_;rw[N];refine Φ.mono (λv ag ⟨ah,ai,T,aj,X,Y⟩=>?_) (λ_ _ h=>h) _ (Jq Ο (a:=I err) (show Sx ZS [.cell 6 38] env (PQ err)=some (I err) by simp[Sx,P1,M',E,P2,VX.agg]) R (D.later P));cases Y;exact w.fin (C.trans (O.trans T)) X λ_ _ _=>.z _
 refine V.here (m:=1) (nt:=10) (env:=entry 0 [.Δ 0 1 0 0]) ?_ (Xb.enter n hv Ω Ω);refine V.W' b U ?_
 repeat apply Ν
 refine W.Za ?_;refine W.stop ?_;intro Z aa ak t3 k u;rcases j with⟨j,rfl⟩|⟨v,j,ab⟩
 .refine γ.recovered b U U U U U (v:=.nilIface) (.inr ⟨?_,U,U⟩) ?_
  .simp[tryRecover,π,Frame.enter,j]
  .refine V.here (m:=1) ?_ (u.put U (.z .nilIface));refine V.W' b U ?_;refine W.part (A:=[]) Ο [1,2,3,4,5,6] [] U λad o=>?_;simp[Ol];(repeat (rw[Θ];simp[Ol]));apply o;refine W.ZB ?_;refine Χ ?_;refine Η U ?_;refine Χ ?_;refine W.stop ?_;intro e g i t4 l p;refine .Qb b U U ?_;refine γ.Hz b U U U func152 ?_;rw[results_none U];refine Φ.pure' ?_;simp only[j];exact t _ e g i U U r U U (k.ext.trans l.ext) ((k.trans l).all n Ω) p.holds
 .have ae:υ Z aa (PQ N7) (.W6 38 (I err)) v:=ab.later (k.all n Ω);refine γ.recovered b U U U U U (v:=v) (cs':={f with defers:=[],mode:=.panicking [{v,recovered:=true}]}::c::rest) (.inl ?_) ?_
  .simp[tryRecover,π,Frame.enter,j]
  .refine V.here (m:=1) ?_ (u.put U ae);refine V.W' b U ?_;refine W.part (A:=[]) Ο [1,2,3,4,5,6] [] U λad o=>?_;simp[Ol];(repeat (rw[Θ];simp[Ol]));apply o;refine W.ZB ?_;refine Χ ?_;refine Ζ U ?_;refine Χ ?_;refine W.stop ?_;intro e g i t4 l p;refine .Qb b U U ?_;refine γ.Hz b U U U func152 ?_;rw[results_none U];refine Φ.pure' ?_;exact t _ e g i U U r U U (k.ext.trans l.ext) ((k.trans l).all n Ω) p.holds
end
theorem xg (s:ω) (e:List YV) (E:e.length<2 ^ 62) (p:YV):Κ prog 122 [Zq s,UN e,Zi p] (I (Xw s e p)):=by
 refine⟨⟨_,func122,U,U⟩,λR mn x c rest S B H vs g r hv t=>?_⟩;have F:B=[]:=YA.1 (by have:=r.len;simpa using this);subst F;rw[Rw func122 U];refine V.here (m:=0) (nt:=12) (env:=entry 0 [Zq s,UN e,Zi p]) ?_ (Xb.enter r hv Ω Ω);refine V.W' g U ?_
 repeat apply Ν
 refine YY (A:=[6]) Ο λu h=>Z9 ?_;apply h
 repeat apply Ν
 refine W.Za ?_;refine W.part (A:=[]) Ο [0] [1] U λu h=>?_;(try simp);(repeat (rw[Θ];simp));apply h;refine W.stop ?_;refine V.defer g U U U U U U U ⟨_,func152,U,U⟩ λT X Y t1 d Z w i y hd=>?_;refine V.here (m:=1) ?_ ⟨i.holds,i.Y7,i.size,Ω⟩;refine V.W' g U ?_;refine W.ZB ?_;refine Z8 λu h=>?_;refine Wm.mono (Μ.call (first:=[]) (captured:=[]) ((xh s e E p).mono (K':=λa f=>Xw s e p=0/\ς 0 a/\f=[]) (E':=λa f=>(Xw s e p≠0/\a=.W6 38 (I (Xw s e p)))/\ς 0 a/\f=[]) (λa f ⟨l,k,n⟩=>⟨l,by subst k;simp,n⟩) (λa f ⟨l,k,n⟩=>⟨⟨l,k⟩,by subst k;simp,n⟩) |>.frame Ω)) (λa f ⟨C,o⟩=>?_) (λa f ⟨⟨C,J⟩,o⟩=>?_)
 .subst o;(try simp);(repeat (rw[Θ];simp));apply h;refine Χ ?_;refine W.stop ?_;intro K L M t2 j D;refine γ.ret (b:={Frame.enter prog 122 vs .normal with defers:=[d]}) g U U ?_;exact DH g t hd U U U U (.inl ⟨U,C.symm⟩) (w.ext.trans j.ext) D.holds (y.later (j.all i.holds Ω)) D.Y7 U
 .subst o;subst J;intro K L M t2 aa v j N O P;have Q:=j.all i.holds Ω;refine DH g t hd U U U U (.inr ⟨v,U,P⟩) (w.ext.trans j.ext) N (y.later Q) O ?_;rfl
end Go.TL
namespace Go.TL
open Go.Proofs.Tryz
open Go.Sort (SWO bitsLen insInner insOuter insertionSort_holds ltInt sorted_unique_holds swo_ltInt swp)
open Go.Proofs
variable [ZP]
theorem DG:IntKind.i64.wrap 3=3:=ZT
def St (l:ZZ) (i:Nat):Int:=match l[i]? with
 | none=>0
 | some n=>if UL n=false then 3 else if 0<i/\n<=(l[i-1]?).getD 0 then 5 else 0
def QN (l:ZZ):Int:=WM ((List.range l.length).map (St l))
def VF (a:List (ZZ)):Int:=if a.length=0 then 7 else if 4<a.length then 6 else WM ((List.range a.length).map λi=>QN ((a[i]?).getD []))
theorem xf (s:ω) (r:s.small):Κ prog 104 [Zq s] (I (VF s.θ)):=by
 refine Μ.body Ο func104 U U ntmps104 U U Ω ?_;have E:=r.2.1;by_cases b:s.θ.length=0
 .refine Ι b ?_;refine Ζ Ω ?_;refine Χ ?_;refine W.ZA ?_;rw[show VF s.θ=7 by simp[VF,b]];rfl
 by_cases g:(4:Int)<s.θ.length
 .refine Ι (Υ b g) ?_;refine Η (by simp[b]) ?_;refine Ι (Υ b g) ?_;refine Ζ Ω ?_;refine Χ ?_;refine W.ZA ?_;rw[show VF s.θ=6 by simp[VF,b];omega];rfl
 have v:VF s.θ=WM ((List.range s.θ.length).map λi=>QN ((s.θ[i]?).getD [])):=by
  unfold VF;rw[if_neg b,if_neg J]
 rw[v];refine Ι (Υ b g) ?_;refine Η (by simp[b]) ?_;refine Ι (Υ b g) ?_;refine Η Ω ?_;refine Χ ?_;refine W.iter (λi:Nat=>i<=s.θ.length/\∀j,j<i->QN ((s.θ[j]?).getD [])=0) (λi=>[(1,ZV s),(18,ZM s.θ),(19,I s.θ.length),(20,I i)]) (λ_=>[]) (λi=>s.θ.length-i) 0 ⟨J,λj c=>J⟩ U Ω (λi hi w=>?_);refine Χ ?_;refine W.YH U (λa=>?_) (λa=>?_)
 .have a:i<s.θ.length:=by simpa using a
  have t:(s.θ[i]?).getD []=s.θ[i]:=by simp[a]
  have F:s.θ[i].length<2 ^ 30:=r.2.2.2.1 _ (Yx a);refine Ι a ?_;refine W.iter (λn:Nat=>n<=s.θ[i].length/\∀j,j<n->St s.θ[i] j=0) (λn=>[(1,ZV s),(18,ZM s.θ),(19,I s.θ.length),(20,I i),(4,δ I 1 s.θ[i]),(24,δ I 1 s.θ[i]),(25,I s.θ[i].length),(26,I n)]) (λ_=>[]) (λn=>s.θ[i].length-n) 0 ⟨J,λj c=>J⟩ U Ω (λn l x=>?_);refine Χ ?_;refine W.YH U (λm=>?_) (λm=>?_)
  .have hd:n<s.θ[i].length:=by simpa using m
   have o:s.θ[i][n]?=some s.θ[i][n]:=Z7 hd
   have u:∀e:Int,St s.θ[i] n=e->e≠0->WM ((List.range s.θ.length).map λi=>QN ((s.θ[i]?).getD []))=e:=λe y h=>
    QP (i:=i) a (by rw[t];exact QP hd y h l.2) h hi.2
   repeat apply Ν
   refine Ts hd ?_;refine Z8 λH B=>?_;refine Κ.d (R5 s.θ[i][n]) (Z9 ?_);apply B;cases p:UL s.θ[i][n]
   .refine Ζ Ω ?_;refine Χ ?_;refine W.ZA ?_;rw[u 3 (by simp[St,o,p]) ZT];rfl
   refine Η Ω ?_
   repeat apply Ν
   refine W.Ry (A:=[]) Ο [(35,ν (decide (0<n/\s.θ[i][n]<=(s.θ[i][n-1]?).getD 0))),(1,ZV s),(18,ZM s.θ),(19,I s.θ.length),(20,I i),(4,δ I 1 s.θ[i]),(24,δ I 1 s.θ[i]),(25,I s.θ[i].length),(26,I n)] ?_ (by
    cases n with
    | zero=>simp[Θ,Sy]
    | succ n=>
     have C:n<s.θ[i].length:=J
     have D:=Yi (show n<2 ^ 62 by omega)
     have h:(0:Int)<(n:Int)+1:=J;simp[Θ,Sy,h,C,D])
   by_cases k:0<n/\s.θ[i][n]<=(s.θ[i][n-1]?).getD 0
   .refine Ζ (by simp only[k];rfl) ?_;refine Χ ?_;refine W.ZA ?_;rw[u 5 (by simp only[St,o,p];rw[if_neg Ω,if_pos k]) ZT];rfl
   .refine Η (by simp only[k];rfl) ?_;refine Χ ?_;refine W.forget _ ?_ (x (n+1) ⟨hd,λj c=>?_⟩ J)
    .simp[Yn hd (show s.θ[i].length<2 ^ 62 by omega)]
    .by_cases e:j=n
     .subst e;simp only[St,o,p];rw[if_neg Ω,if_neg k]
     .exact l.2 j J
  .have hd:s.θ[i].length<=n:=by simpa using m
   refine W.exit U ?_;refine Χ ?_;refine W.forget _ ?_ (w (i+1) ⟨a,λj c=>?_⟩ J)
   .simp[Yn a (show s.θ.length<2 ^ 62 by omega)]
   .by_cases e:j=i
    .subst e;rw[t];exact QO λj c=>l.2 j J
    .exact hi.2 j J
 .have a:s.θ.length<=i:=by simpa using a
  refine W.exit U ?_;refine Χ ?_;refine W.ZA ?_;rw[QO (f:=λi=>QN ((s.θ[i]?).getD [])) λj c=>hi.2 j J];rfl
def U1 (s:ω) (c:List YV):Int:=if 4<c.length then 6 else WM ((List.range c.length).map λi=>match c[i]? with|none=>0|some p=>Xw s (c.take i) p)
def SW (s:ω):Int:=if 4<s.cells.length then 6 else WM ((List.range s.cells.length).map λi=>U1 s ((s.cells[i]?).getD []))
theorem xe (s:ω) (k:s.small):Κ prog 105 [Zq s] (I (SW s)):=by
 refine Μ.body Ο func105 U U ntmps105 U U Ω ?_;have D:=k.2.2.1;by_cases l:(4:Int)<s.cells.length
 .refine Ι l ?_;refine Ζ Ω ?_;refine Χ ?_;refine W.ZA ?_;rw[show SW s=6 by simp[SW];omega];rfl
 have v:SW s=WM ((List.range s.cells.length).map λi=>U1 s ((s.cells[i]?).getD [])):=by
  unfold SW;rw[if_neg J]
 rw[v];refine Ι l ?_;refine Η Ω ?_;refine Χ ?_;refine W.iter (λi:Nat=>i<=s.cells.length/\∀j,j<i->U1 s ((s.cells[j]?).getD [])=0) (λi=>[(1,ZV s),(13,Sv s.cells),(14,I s.cells.length),(15,I i)]) (λ_=>[]) (λi=>s.cells.length-i) 0 ⟨J,λj c=>J⟩ U Ω (λi hi w=>?_);refine Χ ?_;refine W.YH U (λa=>?_) (λa=>?_)
 .have a:i<s.cells.length:=by simpa using a
  have m:(s.cells[i]?).getD []=s.cells[i]:=by simp[a]
  have E:s.cells[i].length<2 ^ 30:=k.2.2.2.2 _ (Yx a)
  have o:∀e:Int,U1 s s.cells[i]=e->e≠0->WM ((List.range s.cells.length).map λi=>U1 s ((s.cells[i]?).getD []))=e:=λe x y=>
   QP (i:=i) a (by rw[m];exact x) y hi.2
  by_cases r:(4:Int)<s.cells[i].length
  .refine Ι (Υ a r) ?_;refine Ζ Ω ?_;refine Χ ?_;refine W.ZA ?_;rw[o 6 (by unfold U1;rw[if_pos J]) ZT];rfl
  refine Ι (Υ a r) ?_;refine Η Ω ?_;refine Χ ?_;have t:U1 s s.cells[i]=WM ((List.range s.cells[i].length).map λn=>match s.cells[i][n]? with|none=>0|some p=>Xw s (s.cells[i].take n) p):=by unfold U1;rw[if_neg J]
  refine W.iter (λn:Nat=>n<=s.cells[i].length/\∀j,j<n->(match s.cells[i][j]? with|none=>0|some p=>Xw s (s.cells[i].take j) p)=0) (λn=>[(1,ZV s),(13,Sv s.cells),(14,I s.cells.length),(15,I i),(4,UN s.cells[i]),(22,UN s.cells[i]),(23,I s.cells[i].length),(24,I n)]) (λ_=>[]) (λn=>s.cells[i].length-n) 0 ⟨J,λj c=>J⟩ U Ω (λn d B=>?_);refine Χ ?_;refine W.YH U (λg=>?_) (λg=>?_)
  .have hd:n<s.cells[i].length:=by simpa using g
   have u:s.cells[i][n]?=some s.cells[i][n]:=Z7 hd
   repeat apply Ν
   refine YY (A:=[6]) Ο λC h=>XK hd ?_;apply h;refine W.fix (id:=0) (σ':=[]) (Α _) U Ω Ω U [(5,I n),(6,.ξ [I s.cells[i][n].YX,I s.cells[i][n].seen,I s.cells[i][n].bare]),(1,ZV s),(13,Sv s.cells),(14,I s.cells.length),(15,I i),(4,UN s.cells[i]),(22,UN s.cells[i]),(23,I s.cells[i].length),(24,I n)] Ω ?_
   repeat apply Ν
   refine W.draw (A:=[]) Ο mixed λC h=>?_;simp;(repeat (rw[Z1];simp[hd,SM hd]));try rw[Z2]
   (try simp only[<-Ny]);refine Zc (Κ.q (xg s (s.cells[i].take n) (by simp;omega) s.cells[i][n])) (Xa ?_);refine Zf (h _ _ ?_)
   repeat apply Ν
   refine Χ ?_;by_cases b:Xw s (s.cells[i].take n) s.cells[i][n]=0
   .refine Η (by simp[b]) ?_;refine Χ ?_;refine W.forget _ ?_ (B (n+1) ⟨hd,λj c=>?_⟩ J)
    .simp[Yn hd (show s.cells[i].length<2 ^ 62 by omega)]
    .by_cases e:j=n
     .subst e;rw[u];exact b
     .exact d.2 j J
   .refine Ζ (by simp[b]) ?_;refine Χ ?_;refine W.ZA ?_;rw[o (Xw s (s.cells[i].take n) s.cells[i][n]) (by rw[t];exact QP hd (by rw[u]) b d.2) b];rfl
  .have hd:s.cells[i].length<=n:=by simpa using g
   refine W.exit U ?_;refine Χ ?_;refine W.forget _ ?_ (w (i+1) ⟨a,λj c=>?_⟩ J)
   .simp[Yn a (show s.cells.length<2 ^ 62 by omega)]
   .by_cases e:j=i
    .subst e;rw[m,t];exact QO λj c=>d.2 j J
    .exact hi.2 j J
 .have a:s.cells.length<=i:=by simpa using a
  refine W.exit U ?_;refine Χ ?_;refine W.ZA ?_;rw[QO (f:=λi=>U1 s ((s.cells[i]?).getD [])) λj c=>hi.2 j J];rfl
def ω.err (s:ω):Int:=if VG s.χ≠0 then VG s.χ else if VF s.θ≠0 then VF s.θ else SW s
theorem I5 (s:ω) (f:s.small):Κ prog 48 [Zq s] (I s.err):=by
 refine Μ.body Ο func48 U U ntmps48 U U Ω ?_;refine Χ ?_;refine .loop ?_;refine Χ ?_;refine Ζ U ?_;refine Χ ?_;refine Z8 λh a=>?_;refine Κ.d (xj s f) (Z9 ?_);apply a;refine Χ ?_;by_cases b:VG s.χ=0
 case neg=>
  refine Ζ (by simp[b]) ?_;refine Χ ?_;refine W.ZA ?_;rw[show s.err=VG s.χ by unfold ω.err;rw[if_pos b]];rfl
 refine Η (by simp[b]) ?_;refine Ι @PT ?_;refine .inLoop ?_;refine Χ ?_;refine Ζ U ?_;refine Χ ?_;refine Z8 λh a=>?_;refine Κ.d (xf s f) (Z9 ?_);apply a;refine Χ ?_;by_cases c:VF s.θ=0
 case neg=>
  refine Ζ (by simp[c]) ?_;refine Χ ?_;refine W.ZA ?_;rw[show s.err=VF s.θ by unfold ω.err;rw[if_neg (by simp[b]),if_pos c]];rfl
 refine Η (by simp[c]) ?_;refine Ι @Oa ?_;refine .inLoop ?_;refine Χ ?_;refine Ζ U ?_;refine Χ ?_;refine Z8 λh a=>?_;refine Κ.d (xe s f) (Z9 ?_);apply a;refine Χ ?_;have e:s.err=SW s:=by unfold ω.err;rw[if_neg (by simp[b]),if_neg (by simp[c])]
 rw[e];by_cases g:SW s=0
 case neg=>
  refine Ζ (by simp[g]) ?_;refine Χ ?_;refine W.rt ?_;exact .of U
 refine Η (by simp[g]) ?_;refine Ι @DG ?_;refine .inLoop ?_;refine Χ ?_;refine Η U ?_;refine W.exit U ?_;refine Χ ?_;refine W.ZA ?_;rw[g];rfl
section
variable {P:Program} {T:ZR} {A:ο} {m nt:Nat} {k:Zz} {env:Β} {σ:Ξ} {Z:XO} {E:Ya}
theorem W.Xq (a:Zv P T) (env':Β) (σ':Ξ) {id:Nat} {ops:ZC} (h:W P m nt k env' σ' Z E) (b:run P T A nt ops (idx ops.size []) env σ (λe s=>s=σ'/\∀p∈env',Z3 e p.1=p.2) E):W P m nt (.code (.region id ops false)::k) env σ Z E:=
 YY a λg c=>Js (λe s ⟨d,f⟩=>c e s (d▸W.forget env' f h)) _ _ _ b
end
def XC (l:μ):Ψ:=if l.isEmpty then .sl true 0 [] else .ms 0 l.length 0 l.length
def ZL (t:TypeId) (k:Nat) (l:μ):Ξ:=if l.isEmpty then [] else [.cells t k l]
def WT (k:Nat) (l:μ):Ψ:=if l.isEmpty then .sl true 0 [] else .sl false k l
theorem R1:XC []=.sl true 0 []:=rfl
theorem U0 {t k:Nat}:ZL t k []=[]:=rfl
theorem Rv {l:μ} (h:l≠[]):XC l=.ms 0 l.length 0 l.length:=by unfold XC;rw[if_neg (by simpa using h)]
theorem Yd {t k:Nat} {l:μ} (h:l≠[]):ZL t k l=[.cells t k l]:=by unfold ZL;rw[if_neg (by simpa using h)]
theorem N6 {l:μ} {x:Ψ}:XC (l++[x])=.ms 0 (l.length+1) 0 (l.length+1):=by rw[Rv Ω];simp
theorem QM {t k:Nat} {l:μ} {x:Ψ}:ZL t k (l++[x])=[.cells t k (l++[x])]:=Yd Ω
theorem X'.acc {t k:Nat} {l:μ} (b:∀e∈l,∀a∈e.cells,ς 0 a):X' 0 (ZL t k l) (XC l) (WT k l):=by
 unfold ZL XC WT;cases h:l.isEmpty with
 | true=>exact .low Ω
 | false=>exact .own (Α _) rfl rfl b
theorem YR.acc {k:Nat} {l:μ}:YR (WT k l) (.sl false k l):=by
 unfold WT;cases h:l.isEmpty with
 | true=>rw[Qk.1 h];exact .nil
 | false=>exact .refl _
@[simp] theorem nx {c:Type} {l:List c} {a b:c}:(l++[a]).set l.length b=l++[b]:=by rw[Py _ _ (Z6 _),Ps];rfl
@[simp] theorem nv {t k:Nat} {l:μ}:ς (ZL t k l).length (XC l):=by
 unfold XC ZL;cases l.isEmpty<;>simp[Tw]
theorem ς.mono {h c:Nat} {a:Ψ} (d:ς h a) (g:h<=c):ς c a:=by
 induction d with
 | z v=>exact .z v
 | Ze=>exact .Ze
 | ξ _ b=>exact .ξ b
 | sl _ b=>exact .sl b
 | ZW _ b=>exact .ZW b
 | ZY _ b=>exact .ZY b
 | fn _ _ e f=>exact .fn e f
 | W6 _ b=>exact .W6 b
 | Δ h=>exact .Δ J
 | ms h=>exact .ms J
 | mp h=>exact .mp J
 | it h=>exact .it J
theorem Pb {t k h:Nat} {l:μ} (d:∀e∈l,∀a∈e.cells,ς 0 a):∀r∈ZL t k l,XF h r:=by
 intro r b;unfold ZL at b;cases c:l.isEmpty with
 | true=>rw[c] at b;simp at b
 | false=>
  rw[c] at b;simp at b;subst b;exact λe f a g=>(d e f a g).mono (Α _)
section
variable {P:Program} {m nt:Nat} {k:Zz} {env:Β} {Z:XO} {E:Ya}
theorem W.UZ {σ0:Ξ} {t:TypeId} {e:Ψ} {kk:Nat} (c:m<=σ0.length) (d:∀r∈σ0,XF σ0.length r) (f:∀a∈e.cells,ς σ0.length a) (env':Β)
  (g:∀p∈env',(Z3 env p.1=p.2/\ς σ0.length p.2)\/(Z3 env p.1=.Δ σ0.length 1 0 0/\p.2=.ξ e.cells)) (h:W P m nt k env' σ0 Z E):W P m nt k env (σ0++[.cells t kk [e]]) Z E:=
 W.fix (t:=t) (kk:=kk) (e:=e) c Ω f (λid r i b=>d r (by
  rw[Yz i] at b;exact Y1 b)) Ω env' g h
theorem W.xd {t kk:Nat} {l:μ} {d:Nat} (f:∀e∈l,∀a∈e.cells,ς 0 a) (env':Β) (hd:Z3 env d=XC l) (c:∀p∈env',Z3 env p.1=p.2/\ς 0 p.2) (g:W P 0 nt k ((d,WT kk l)::env') [] Z E):W P 0 nt k env (ZL t kk l) Z E:=
 W.cut 0 (Α _) ((d,WT kk l)::env') (Α _) (λid r h=>J) (λp b=>by
  rcases Y9.1 b with rfl|b
  .show X' 0 _ (Z3 env d) _;rw[hd];exact .acc f
  .rw[(c p b).1];exact .low (c p b).2) (by simpa using g)
end
abbrev Yu (l:ZZ):Ψ:=.sl true 1 (l.map I)
theorem YR.xc {L:List (ZZ)}:YR (WT 1 (L.map Yu)) (ZM L):=.trans .acc (.map λx _=>.one .ex rfl rfl)
theorem DF {L:List (ZZ)}:∀e∈L.map Yu,∀a∈e.cells,ς 0 a:=by
 intro e c a b;obtain⟨x,_,rfl⟩:=YO.1 c;simp[Ψ.cells] at b;subst b;simp
theorem xb (n:Int):Κ prog 51 [I n] (.ZY [I (if valid n then Jb n else 0),I (if valid n then 0 else 1)]):=by
 refine Μ.body Ο func51 U U ntmps51 U U Ω ?_;refine Χ ?_;refine Z8 λc a=>?_;refine Κ.d (M5 n) (Z9 ?_);apply a;cases b:valid n
 .refine Ζ U ?_;refine Χ ?_;refine W.rt ?_;exact .of U
 .refine Η U ?_;refine Z8 λc a=>?_;refine Κ.d (xJ n) (Z9 ?_);apply a;refine Χ ?_;refine W.rt ?_;exact .of U
def Vj {c:Type} [DecidableEq c]:c->List c->List c
 | _,[]=>[]
 | a,b::l=>if b=a then Vj a l else b::Vj b l
def Yg {b:Type} [DecidableEq b]:List b->List b
 | []=>[]
 | a::l=>a::Vj a l
theorem I4 {c:Type} [DecidableEq c] (l:List c) {p:Nat} (g:0<p) (h:p<l.length) (i:p-1<l.length):Yg (l.take (p+1))=Yg (l.take p)++if l[p]=l[p-1] then [] else [l[p]]:=by
 have gen:∀(l:List c) (a:c) (p:Nat) (h:p<l.length),Vj a (l.take (p+1))=Vj a (l.take p)++if l[p]=(a::l)[p]'(by simp;omega) then [] else [l[p]]:=by
  intro l
  induction l with
  | nil=>intro a p h;cases h
  | cons b l f=>
   intro a p h;cases p with
   | zero=>by_cases e:b=a<;>simp[Vj,e]
   | succ p=>
    have d:p<l.length:=by simpa using h
    by_cases e:b=a
    .subst e;have:=f b p d;simp only[List.take_succ_cons,Vj,if_true,List.getElem_cons_succ] at this ⊢;exact this
    .have:=f b p d;simp only[List.take_succ_cons,Vj,e,if_false,List.getElem_cons_succ,List.cons_append] at this ⊢;rw[this]
 cases l with
 | nil=>cases h
 | cons a l=>
  obtain⟨q,rfl⟩:∃q,p=q+1:=⟨p-1,J⟩;have d:q<l.length:=by simpa using h
  have:=gen l a q d;simp only[List.take_succ_cons,Yg,List.getElem_cons_succ,KE] at this ⊢;rw[this];rfl
theorem I3 {f:ZZ} {L:μ} (a:L=f.map I) {j:Nat} {x:Int} (h:f[j]?=some x):L[j]?=some (I x)/\∀h:j<L.length,L[j]=I x:=by
 have e:L[j]?=some (I x):=by rw[a,Yc,h];rfl
 exact⟨e,λb=>by rw[Z7 b] at e;exact WW e⟩
theorem xa (l:ZZ) (n:Nat) (d:l.length=n) (aF:n<2 ^ 40):Μ prog 133 [.ms 0 n 0 n] [.cells 3 1 (l.map I)]
  (λr s=>∃aa:ZZ,(Yg l++aa).length=n/\r=.ms 0 n 0 (Yg l).length/\s=[.cells 3 1 ((Yg l++aa).map I)]) (λ_ _=>False):=by
 refine Μ.body Ο func133 U U ntmps133 U U Ω ?_;by_cases t:(n:Int)<2
 .refine Ι (Υ d t) ?_;refine Ζ U ?_;refine Ι d ?_;refine W.ret ⟨_,U,[],?_⟩;have e:Yg l=l:=by
   match l,d with
   | [],_=>rfl
   | [a],_=>rfl
   | a::b::l,d=>simp at d;omega
  rw[e,Ul,d];exact⟨U,U,U⟩
 refine Ι (Υ d t) ?_;refine Η U ?_;refine Χ ?_;refine W.iter (λk:Nat=>1<=k/\k<=n/\Yg (l.take k)=l.take k) (λk=>[(0,.ms 0 n 0 n),(3,I k)]) (λ_=>[.cells 3 1 (l.map I)]) (λk=>n-k) 1 ⟨Z6 _,J,by
  match l,d with
  | [],d=>rfl
  | a::l,d=>rfl⟩ rfl Ω (λk aj ak=>?_)
 obtain⟨aG,c,H⟩:=aj;refine Ι d ?_;by_cases C:k<n
 .refine Ζ (by simp[C]) ?_
  repeat apply Ν
  obtain⟨p,ab⟩:∃p,k=p+1:=⟨k-1,J⟩;have al:IntKind.i64.wrap ((k:Int)-1)=(p:Int):=by have:=Yi (show p<2 ^ 62 by omega);rw[ab];simpa using this
  have am:p<n:=J
  have O:k<l.length:=J
  have an:p<l.length:=J;obtain⟨L,h⟩:=Ε (l.map I);have K:L.length=n:=by rw[h];simpa using d
  obtain⟨P,Q⟩:=I3 h (Z7 O);obtain⟨R,S⟩:=I3 h (Z7 an);refine W.to (σ':=[.cells 3 1 L]) (env':=[(0,.ms 0 n 0 n),(3,I k)]) ?_ (by rw[h]) Ω;generalize T:l[k]=x at P Q;generalize ao:l[p]=y at R S;refine XJ (Υ C (Υ al (Υ K (Υ am (Υ P (Υ Q (Υ R S))))))) ?_;have ad:Yg (l.take (k+1))=Yg (l.take k)++if x=y then [] else [x]:=by
   rw[I4 l J O J];simp only[ab,KE] at T ⊢;rw[T,ao]
  by_cases M:x=y
  .refine Ζ (by simp[M]) ?_
   repeat apply Ν
   refine W.Xq (A:=[]) Ο [(0,.ms 0 n 0 n),(3,I k),(4,.ms 0 n k (n-k))] [.cells 3 1 L] ?_ (by
    (try simp);(repeat (rw[Θ];simp[K,SM C]));(try simp[K,SM C]))
   refine Χ ?_;have ae:Yg (l.take (k+1))=l.take k:=by rw[ad,if_pos M,Ul,H]
   refine W.iter (λq:Nat×Nat×ZZ=>1<=q.2.1/\k+q.2.1<=n/\q.2.2.length=n/\q.1<k+q.2.1/\q.1=(Yg (l.take (k+q.2.1))).length/\q.2.2.take q.1=Yg (l.take (k+q.2.1))/\∀j,k+q.2.1-1<=j->j<n->q.2.2[j]?=l[j]?)
    (λq=>[(0,.ms 0 n 0 n),(3,I q.1),(4,.ms 0 n k (n-k)),(5,I q.2.1)]) (λq=>[.cells 3 1 (q.2.2.map I)]) (λq=>n-q.2.1) (k,1,l) ⟨Z6 _,by simp;omega,d,Ω,by simp only[ae];simp;omega,by simp only[ae],λj _ _=>rfl⟩ (by rw[h]) Ω (λq ap af=>?_)
   obtain⟨m,c,f⟩:=q;obtain⟨aq,ar,i,au,D,E,F⟩:=ap;simp only at aq ar i au D E F;clear h K P Q R S;refine Ι i ?_;by_cases hd:c<n-k
   .have aH:(c:Int)<((n-k:Nat):Int):=J
    refine Ζ (by simp[hd]) ?_
    repeat apply Ν
    obtain⟨o,av⟩:∃r,c=r+1:=⟨c-1,J⟩;have aw:IntKind.i64.wrap ((c:Int)-1)=(o:Int):=by have:=Yi (show o<2 ^ 62 by omega);rw[av];simpa using this
    have ax:o<n-k:=J;obtain⟨ag,w⟩:=Ε (f.map I);have V:ag.length=n:=by rw[w];simpa using i
    have ah:f[k+c]?=some (l[k+c]'J):=by rw[F _ J J,Z7]
    have hv:f[k+o]?=some (l[k+o]'J):=by rw[F _ J J,Z7]
    have g:=I4 l (p:=k+c) J J J
    have ay:l[k+c-1]'J=l[k+o]'J:=by congr 1;omega
    rw[ay] at g;generalize l[k+c]'J=u at ah g;generalize l[k+o]'J=v at hv g;obtain⟨X,Y⟩:=I3 w ah;obtain⟨az,aA⟩:=I3 w hv;refine W.to (σ':=[.cells 3 1 ag]) (env':=[(0,.ms 0 n 0 n),(3,I m),(4,.ms 0 n k (n-k)),(5,I c)]) ?_ (by rw[w]) Ω;have B:m<n:=J;refine W.draw (A:=[]) Ο mixed λaI aB=>?_;simp;(repeat (rw[Z1];simp[hd,aw,ax,V,X,Y,az,aA]));try rw[Z2];refine Zf (aB _ _ ?_)
    by_cases N:u=v
    .refine Η (by simp[N]) ?_;refine Χ ?_;rw[if_pos N,Ul] at g;refine W.to (af (m,c+1,f) ⟨Ω,by simp;omega,i,by simp;omega,by simp only[<-Ub,g];exact D,by simp only[<-Ub,g];exact E,λj Z t=>F j (by simp at Z;omega) t⟩ (by simp;omega)) (by rw[w]) ?_;have:=Yi (show c+1<2 ^ 62 by omega);simpa using this
    .refine Ζ (by simp[N]) ?_;rw[if_neg N] at g
     repeat apply Ν
     refine W.Xq (A:=[]) Ο [(0,.ms 0 n 0 n),(3,I m),(4,.ms 0 n k (n-k)),(5,I c)] [.cells 3 1 ((f.set m u).map I)] ?_ (by
      (try simp);(repeat (rw[Θ];simp[hd,V,B,X,Y]));(try simp[hd,V,B,X,Y]);subst w;simp)
     refine Χ ?_;refine W.to (af (m+1,c+1,f.set m u) ⟨Ω,by simp;omega,by simpa using i,by simp;omega,by simp only[<-Ub,g];simp;exact D,?_,λj Z t=>?_⟩ (by simp;omega)) Ω ?_
     .simp only[<-Ub,g];rw[<-E,Ws (by simp;omega),List.take_set_of_le (Z6 _)];simp
     .simp at Z;rw[Vp J];exact F j J t
     .have ai:=Yi (show c+1<2 ^ 62 by omega)
      have Ρ:=Yi (show m+1<2 ^ 62 by omega);simp at ai Ρ ⊢;exact⟨Ρ,ai⟩
   .refine Η (by simp[hd]) ?_;refine W.exit U ?_;have aC:k+c=n:=J;have aD:l.take n=l:=VP J;rw[aC,aD] at D E
    repeat apply Ν
    have B:m<=n:=J;refine W.Xq (A:=[]) Ο [(0,.ms 0 n 0 n),(3,I m)] [.cells 3 1 ((Yg l++List.replicate (n-m) 0).map I)] ?_ (by
     (try simp);(repeat (rw[Θ];simp[i,B]));(try simp[i,B]);rw[<-Ny,E,NG (by simp;omega),Ul])
    have aE:(Yg l).length+(n-m)=n:=J;refine Ι (Υ aE B) ?_;refine W.ret ⟨_,U,List.replicate (n-m) 0,by simp;omega,?_,Ω⟩;rw[<-D];rfl
  .refine Η (by simp[M]) ?_;refine Χ ?_;refine W.to (ak (k+1) ⟨J,J,?_⟩ J) (by rw[h]) ?_
   .rw[ad,if_neg M,H,<-T,<-Ws O]
   .have:=Yi (show k+1<2 ^ 62 by omega);simpa using this
 .refine Η (by simp[C]) ?_;refine W.exit U ?_;refine Χ ?_;refine W.ret ⟨_,U,[],?_⟩;have e:Yg l=l:=by rw[VP J] at H;exact H
  rw[e,Ul,d];exact⟨U,U,U⟩
def PO:ω:=⟨[],[],[]⟩
theorem GU {e f g:Bool} {a b c:Nat}:YR (.ZW [.sl e a [],.sl f b [],.sl g c []]) (Zq PO):=.ZW (.cons .nil (.cons .nil (.cons .nil .nil)))
abbrev DD (r:ω×Zj×Int):Ψ:=.ZY [Zq r.1,Y3 r.2.1,I r.2.2]
def X9 (s:ω) (a:Bool) (F:Zj):ω×Zj×Int:=
 if s.err≠0 then(PO,[],s.err) else if a=true/\F=[] then(s,[],9) else(s,F,0)
def WS (s:ω) (cell:Int) (F:Zj):ω×Zj×Int:=
 if s.err≠0 then(PO,[],s.err) else if cell<0\/(s.cells.length:Int)<=cell then(PO,[],3) else X9 s true F
def SV (s:ω) (F:Zj):Prop:=s.err=0->Κ prog 116 [Zq s] (Y3 F)
theorem M3 (s:ω) (g:s.small) (c:Bool) (F:Zj) (h:SV s F):Κ prog 75 [Zq s,ν c] (DD (X9 s c F)):=by
 refine Μ.body Ο func75 U U ntmps75 U U Ω ?_
 repeat apply Ν
 refine YY (A:=[4]) Ο λf a=>Z9 ?_;apply a;refine Z8 λf a=>?_;refine Κ.d (I5 s g) (Z9 ?_);apply a;refine Χ ?_;by_cases b:s.err=0
 case neg=>
  have e:X9 s c F=(PO,[],s.err):=by unfold X9;rw[if_pos b]
  rw[e];refine Ζ (by simp[b]) ?_;refine Χ ?_;refine W.fix (id:=0) (σ':=[]) (Α _) U Ω Ω U [(4,.ξ [.sl true 0 [],.sl true 0 [],.sl true 0 []]),(5,.sl true 0 []),(6,I s.err)] Ω ?_;refine W.rt ?_;exact .ZY (.cons GU (.cons .nil (.cons (.refl _) .nil)))
 refine Η (by simp[b]) ?_
 repeat apply Ν
 refine YY (A:=[8]) Ο λf a=>Z9 ?_;apply a;refine Z8 λf a=>?_;refine Κ.d (h b) (Z9 ?_);apply a
 repeat apply Ν
 cases c
 case false=>
  have e:X9 s false F=(s,F,0):=by unfold X9;rw[if_neg (by simpa using b),if_neg Ω]
  rw[e];refine Χ ?_;refine Η U ?_;refine Χ ?_;refine W.fix (id:=0) (σ':=[]) (Α _) U Ω Ω U [(4,ZV s),(5,Y3 F),(6,I 0)] Ω ?_;exact W.XL
 case true=>
  refine Χ ?_;by_cases z:F=[]
  .have e:X9 s true F=(s,[],9):=by unfold X9;rw[if_neg (by simpa using b),if_pos ⟨U,z⟩]
   rw[e];refine Ζ (by simp[z]) ?_;refine Χ ?_;refine W.fix (id:=0) (σ':=[]) (Α _) U Ω Ω U [(4,ZV s),(5,.sl true 0 []),(6,I 9)] Ω ?_;refine W.rt ?_;exact .ZY (.cons (.refl _) (.cons .nil (.cons (.refl _) .nil)))
  .have e:X9 s true F=(s,F,0):=by unfold X9;rw[if_neg (by simpa using b),if_neg (by simp[z])]
   rw[e];refine Η (by simp[z]) ?_;refine Χ ?_;refine W.fix (id:=0) (σ':=[]) (Α _) U Ω Ω U [(4,ZV s),(5,Y3 F),(6,I 0)] Ω ?_;exact W.XL
theorem GR (s:ω) (f:s.small) (cell:Int) (F:Zj) (i:SV s F):Κ prog 82 [Zq s,I cell] (DD (WS s cell F)):=by
 refine Μ.body Ο func82 U U ntmps82 U U Ω ?_
 repeat apply Ν
 refine YY (A:=[4]) Ο λg a=>Z9 ?_;apply a;refine Z8 λg a=>?_;refine Κ.d (I5 s f) (Z9 ?_);apply a;refine Χ ?_;by_cases b:s.err=0
 case neg=>
  have e:WS s cell F=(PO,[],s.err):=by unfold WS;rw[if_pos b]
  rw[e];refine Ζ (by simp[b]) ?_;refine Χ ?_;refine W.fix (id:=0) (σ':=[]) (Α _) U Ω Ω U [(4,.ξ [.sl true 0 [],.sl true 0 [],.sl true 0 []]),(5,.sl true 0 []),(6,I s.err)] Ω ?_;refine W.rt ?_;exact .ZY (.cons GU (.cons .nil (.cons (.refl _) .nil)))
 refine Η (by simp[b]) ?_;have h:WS s cell F=if cell<0\/(s.cells.length:Int)<=cell then(PO,[],3) else X9 s true F:=by unfold WS;rw[if_neg (by simpa using b)]
 repeat apply Ν
 refine W.Ry (A:=[]) Ο [(22,ν (decide (cell<0)||decide ((s.cells.length:Int)<=cell))),(2,ZV s),(4,.Δ 0 1 0 0),(1,I cell)] ?_ (by
  by_cases q:cell<0
  ·(try simp);(repeat (rw[Θ];simp[q]));(try simp[q])
  ·(try simp);(repeat (rw[Θ];simp[q]));(try simp[q]))
 by_cases c:cell<0\/(s.cells.length:Int)<=cell
 .rw[h,if_pos c];refine Ζ (by simpa using c) ?_;refine Χ ?_;refine W.fix (id:=0) (σ':=[]) (Α _) U Ω Ω U [(4,.ξ [.sl true 0 [],.sl true 0 [],.sl true 0 []]),(5,.sl true 0 []),(6,I 3)] Ω ?_;refine W.rt ?_;exact .ZY (.cons GU (.cons .nil (.cons (.refl _) .nil)))
 .rw[h,if_neg c];refine Η (by simpa using c) ?_;refine Z8 λg a=>?_;refine Κ.d (M3 s f true F i) (Z9 ?_);apply a;refine Χ ?_;generalize X9 s true F=r;refine W.fix (id:=0) (σ':=[]) (Α _) U Ω Ω U [(4,.ξ [ZD r.1.χ,ZM r.1.θ,Sv r.1.cells]),(5,Y3 r.2.1),(6,I r.2.2)] Ω ?_;exact W.XL
def WL (F:Zj):List (ZZ):=F.map λf=>[f.u,f.v]
theorem DC {a b:Type} (f:a->b) (l:List a) {i:Nat} (h:i<l.length):(l.take (i+1)).map f=(l.take i).map f++[f l[i]]:=by
 rw[Ws h,XA];rfl
theorem Dz (s:ω) (r:s.small) (F:Zj) (w:SV s F) (x:F.length<2 ^ 20):Κ prog 42 [Zq s] (.ZY [ZM (if s.err=0 then WL F else []),I s.err]):=by
 refine Μ.body Ο func42 U U ntmps42 U U Ω ?_;refine Χ ?_;refine YQ ?_;refine YY (A:=[4]) Ο λy j=>Z9 ?_;refine Κ.d (M3 s r false F w) (Z9 ?_);apply j;have e:X9 s false F=if s.err=0 then(s,F,0) else(PO,[],s.err):=by
  unfold X9;by_cases b:s.err=0
  .rw[if_neg (by simpa using b),if_neg Ω,if_pos b]
  .rw[if_pos b,if_neg b]
 have n:(X9 s false F).2.1=if s.err=0 then F else []:=by rw[e];split<;>rfl
 have Ρ:(X9 s false F).2.2=s.err:=by rw[e];split<;>simp[*]
 obtain⟨G,g⟩:∃G,G=if s.err=0 then F else []:=⟨_,U⟩
 have E:G.length<2 ^ 20:=by rw[g];split;exact x;simp
 have o:(if s.err=0 then WL F else [])=WL G:=by rw[g];split<;>rfl
 rw[n,Ρ,o,<-g];clear g o e n Ρ;generalize s.err=c;refine W.drop (h:=0) (σ':=[]) (Α _) (Α _) Ω U [(5,Y3 G),(6,I c)] Ω ?_;refine Χ ?_;have H:∀i,(WL G).take i=WL (G.take i):=λi=>by simp[WL]
 refine W.iter (λi:Nat=>i<=G.length) (λi=>[(6,I c),(7,XC ((WL (G.take i)).map Yu)),(16,Y3 G),(17,I G.length),(18,I i)])
  (λi=>ZL 29 1 ((WL (G.take i)).map Yu)) (λi=>G.length-i) 0 (Α _) U (by simp[R1,WL]) (λi hi B=>?_)
 refine Χ ?_;refine W.YH U (λa=>?_) (λa=>?_)
 .have a:i<G.length:=by simpa using a
  have l:(WL (G.take (i+1))).map Yu=(WL (G.take i)).map Yu++[Yu [G[i].u,G[i].v]]:=by
   unfold WL;rw[Ra,Ra,DC _ _ a];rfl
  have p:=λh=>Pb (t:=29) (k:=1) (h:=h) (DF (L:=WL (G.take i)))
  have C:((WL (G.take i)).map Yu).length<=i:=by simp[WL];omega
  obtain⟨L,m⟩:=Ε ((WL (G.take i)).map Yu);rw[<-m] at p C l;refine W.to (σ':=ZL 29 1 L) (env':=[(6,I c),(7,XC L),(16,Y3 G),(17,I G.length),(18,I i)]) ?_ (by rw[m]) (by rw[m];simp)
  repeat apply Ν
  refine YY (A:=[9]) Ο λy j=>XK a ?_;apply j;refine W.UZ (Α _) (p _) Ω [(9,.ξ [I G[i].u,I G[i].v,TZ G[i].cells]),(6,I c),(7,XC L),(16,Y3 G),(17,I G.length),(18,I i)] Ω ?_
  repeat apply Ν
  refine W.Xq (A:=[26]) Ο [(6,I c),(7,XC (L++[Yu [G[i].u,G[i].v]])),(16,Y3 G),(17,I G.length),(18,I i)] (ZL 29 1 (L++[Yu [G[i].u,G[i].v]])) ?_ (by
   by_cases f:L=[]
   .subst f;(try simp);(repeat (rw[Θ];simp[R1,U0]));(try simp[R1,U0]);exact⟨U,U⟩
   .have D:L.length<=4294967295:=J
    (try simp);(repeat (rw[Θ];simp[Rv f,Yd f,N6,QM]));(try simp[Rv f,Yd f,N6,QM]);exact D)
  refine Χ ?_;refine W.to (B (i+1) a J) ?_ ?_
  .rw[l]
  .rw[l];simp[Yn a (show G.length<2 ^ 62 by omega)]
 .have a:i=G.length:=by simp at a;omega
  subst a;refine W.exit U ?_;refine Χ ?_;refine W.xd (d:=2) DF [(3,I c)] Ω Ω ?_;refine W.rt ?_;exact .ZY (.cons .xc (.cons (.refl _) .nil))
abbrev TW (l:ZZ):ZZ:=l.mergeSort (λx y=>decide (x<=y))
def N5 (N:Nat):Prop:=∀(l:ZZ),l.length<=N->Μ prog 132 [.ms 0 l.length 0 l.length] [.cells 3 1 (l.map I)] (λr s=>r=.ZY []/\s=[.cells 3 1 ((TW l).map I)]) (λ_ _=>False)
def WR (lower:Bool) (r:Int×Int):Int:=if lower then r.2 else r.1
def Ss (lower:Bool) (A:ZZ) (C:List Zu) (j:Nat):ZZ:=A++(C.take j).map (WR lower)
theorem Dy {lower:Bool} {A:ZZ} {C:List Zu}:Ss lower A C 0=A:=by simp[Ss]
theorem w9 {lower:Bool} {A:ZZ} {C:List Zu} {j:Nat} (h:j<C.length):Ss lower A C (j+1)=Ss lower A C j++[WR lower C[j]]:=by
 unfold Ss;rw[DC _ _ h,TH]
theorem Dx {lower:Bool} {A:ZZ} {C:List Zu} {j:Nat} (h:C.length<=j):Ss lower A C j=A++C.map (WR lower):=by
 unfold Ss;rw[VP h]
theorem w8 {lower:Bool} {A:ZZ} {C:List Zu} {j:Nat}:(Ss lower A C j).length<=A.length+j:=by
 unfold Ss;simp;omega
def Pa (f:Found) (cell:Nat) (lower:Bool):ZZ:=((f.cells[cell]?).getD []).map (WR lower)
def X4 (F:Zj) (cell:Nat) (lower:Bool):ZZ:=F.flatMap λf=>Pa f cell lower
def X0 (F:Zj) (cell:Nat) (lower:Bool):ZZ:=Yg (TW (X4 F cell lower))
theorem GQ {l:ZZ}:∀e∈l.map I,∀a∈e.cells,ς 0 a:=by
 intro e c a b;obtain⟨x,_,rfl⟩:=YO.1 c;simp[Ψ.cells] at b;subst b;simp
theorem Dw (F:Zj) (cell:Nat) (lower:Bool) (al:F.length<2 ^ 20) (X:∀f∈F,cell<f.cells.length/\∀c∈f.cells,c.length<2 ^ 20) (N:Nat) (am:N<2 ^ 20) (Y:N5 N) (Q:X4 F cell lower≠[]) (y:(X4 F cell lower).length<=N) :
  Κ prog 95 [Y3 F,I cell,ν lower] (δ I 1 (X0 F cell lower)):=by
 refine Μ.body Ο func95 U U ntmps95 U U Ω ?_;refine Χ ?_;refine W.iter (λi:Nat=>i<=F.length) (λi=>[(1,I cell),(2,ν lower),(7,XC ((X4 (F.take i) cell lower).map I)),(12,Y3 F),(13,I F.length),(14,I i)])
  (λi=>ZL 3 1 ((X4 (F.take i) cell lower).map I)) (λi=>F.length-i) 0 (Α _) U (by simp[X4,R1]) (λi hi Z=>?_)
 refine Χ ?_;have aa:∀i,(X4 (F.take i) cell lower).length<=N:=λi=>by
  have e:X4 F cell lower=X4 (F.take i) cell lower++X4 (F.drop i) cell lower:=by
   conv=>lhs;rw[<-OK i F]
   simp only[X4,Mg]
  rw[e,Vz] at y;omega
 refine W.YH U (λB=>?_) (λB=>?_)
 .have g:i<F.length:=by simpa using B
  obtain⟨D,ab⟩:=X _ (Yx g);have ad:F[i].cells[cell].length<2 ^ 20:=ab _ (Yx D);obtain⟨A,E⟩:=Ε (X4 (F.take i) cell lower);have w:X4 (F.take (i+1)) cell lower=A++F[i].cells[cell].map (WR lower):=by
   rw[E];unfold X4;rw[Ws g,Mg];simp[Pa,D]
  have R:(A++F[i].cells[cell].map (WR lower)).length<=N:=by rw[<-w];exact aa _
  rw[Vz,X2] at R;refine W.to (σ':=ZL 3 1 (A.map I)) (env':=[(1,I cell),(2,ν lower),(7,XC (A.map I)),(12,Y3 F),(13,I F.length),(14,I i)]) ?_ (by rw[E]) (by rw[E];simp)
  repeat apply Ν
  refine YY (A:=[9]) Ο λH h=>XK g ?_;apply h;refine W.UZ (Α _) (Pb GQ) Ω [(9,.ξ [I F[i].u,I F[i].v,TZ F[i].cells]),(1,I cell),(2,ν lower),(7,XC (A.map I)),(12,Y3 F),(13,I F.length),(14,I i)] Ω ?_;refine Ι D ?_;generalize an:F[i].cells[cell]=C at ad w R;refine W.iter (λj:Nat=>j<=C.length) (λj=>[(1,I cell),(2,ν lower),(7,XC ((Ss lower A C j).map I)),(12,Y3 F),(13,I F.length),(14,I i),(22,UK C),(23,I C.length),(24,I j)])
   (λj=>ZL 3 1 ((Ss lower A C j).map I)) (λj=>C.length-j) 0 (Α _) (by rw[Dy]) (by simp[Dy]) (λj ao ae=>?_)
  refine Χ ?_;refine W.YH U (λK=>?_) (λK=>?_)
  .have n:j<C.length:=by simpa using K
   obtain⟨L,x⟩:=Ε (Ss lower A C j);have ap:L.length<=A.length+j:=by rw[x];exact w8
   have M:Ss lower A C (j+1)=L++[WR lower C[j]]:=by rw[x];exact w9 n
   refine W.to (σ':=ZL 3 1 (L.map I)) (env':=[(1,I cell),(2,ν lower),(7,XC (L.map I)),(12,Y3 F),(13,I F.length),(14,I i),(22,UK C),(23,I C.length),(24,I j)]) ?_ (by rw[x]) (by rw[x];simp)
   repeat apply Ν
   refine YY (A:=[11]) Ο λH h=>XK n ?_;apply h;refine W.UZ (Α _) (Pb GQ) Ω [(11,.ξ [I C[j].1,I C[j].2]),(1,I cell),(2,ν lower),(7,XC (L.map I)),(12,Y3 F),(13,I F.length),(14,I i),(22,UK C),(23,I C.length),(24,I j)] Ω ?_
   repeat apply Ν
   generalize C[j]=r at M;refine W.Xq (A:=[34]) Ο [(1,I cell),(2,ν lower),(7,XC ((L++[WR lower r]).map I)),(12,Y3 F),(13,I F.length),(14,I i),(22,UK C),(23,I C.length),(24,I j)] (ZL 3 1 ((L++[WR lower r]).map I)) ?_ (by
    have af:L.length<=4294967295:=J;rw[XA];cases lower
    all_goals
     by_cases O:L.map I=[]
     .rw[O,R1,U0];(try simp);(repeat (rw[Θ];simp));(try simp);refine Κ.d (GZ _) (Z9 ?_);simp[ZL,XC,WR]
     .rw[Rv O,Yd O];(try simp);(repeat (rw[Θ];simp));(try simp);refine Κ.d (GZ _) (Z9 ?_);simp[QM,N6,WR,af])
   refine Χ ?_;refine W.to (ae (j+1) n J) ?_ ?_
   .rw[M,XA];rfl
   .rw[M];simp[Yn n (show C.length<2 ^ 62 by omega)]
  .have n:C.length<=j:=by simpa using K
   refine W.exit U ?_;refine Χ ?_;refine W.to (Z (i+1) g J) ?_ ?_
   .rw[w,Dx n]
   .rw[w,Dx n];simp[Yn g (show F.length<2 ^ 62 by omega)]
 .have g:i=F.length:=by simp at B;omega
  refine W.exit U ?_;rw[g,NB];obtain⟨b,S⟩:=Ε (X4 F cell lower);rw[<-S] at Q y ⊢;have T:b.map I≠[]:=by simpa using Q
  have ag:X0 F cell lower=Yg (TW b):=by rw[S];rfl
  have ah:(TW b).length=b.length:=by simp[TW]
  refine W.to (σ':=[.cells 3 1 (b.map I)]) (env':=[(7,.ms 0 b.length 0 b.length)]) ?_ (Yd T) (by simp[Rv T]);refine Z8 λH h=>?_;refine Μ.one (Y b y) 0 U (QS QQ) (QS QQ) (by simp[TY]) (by simp[Xr]) (by simp[TX]) ?_;simp[Yh,Wx];(repeat (rw[Θ];simp));apply h;refine Z8 λH h=>?_;have ai:=xa (TW b) b.length ah J;refine Μ.I6 ai 0 U (QS QQ) (by simp[TY]) (by simp[TX]) (λa s ⟨P,aj,V,ak⟩=>⟨_,ak,QS QQ,by subst V;simp[TY],?_⟩);subst V;simp[TX];(repeat (rw[Θ];simp));apply h;refine W.cut 0 (Α _) [(6,δ I 1 (Yg (TW b)))] Ω Ω ?_ ?_
  .intro p o;simp at o;subst o;have o:=X'.part (σ:=[.cells 3 1 ((Yg (TW b)).map I++P.map I)]) (id:=0) (t:=3) (k:=1) (l:=(Yg (TW b)).map I) (l2:=P.map I) (m:=(Yg (TW b)).length) U Ω GQ;have e:((Yg (TW b)).map I++P.map I).length=b.length:=by rw[<-XA,X2];exact aj
   rw[e] at o;exact o
  .rw[ag];exact W.XL
abbrev UY (n:Int):Ψ:=.z (.int .i32 n)
theorem w7 (l:ZZ):P5 (l.map UY)=some l:=by
 induction l with
 | nil=>rfl
 | cons a l b=>simp[P5,b]
def Ru (s:ω) (F:Zj) (lower:Bool) (a:ByteArray->Int) (c:Nat):Int:=
 let l:=X0 F c lower
 if 1<l.length then 63 else if l.headD 0<0 then 45 else match s.χ[(l.headD 0).toNat]? with|some g=>a g.name|none=>0
def UI (s:ω) (F:Zj) (lower:Bool) (a:ByteArray->Int) (c:Nat):ZZ:=(List.range c).map (Ru s F lower a)
def Uh (s:ω) (F:Zj) (lower:Bool) (a:ByteArray->Int):ByteArray×Int:=
 if(X9 s true F).2.2=0 then(spell (UI s F lower a s.cells.length),0) else(⟨#[]⟩,(X9 s true F).2.2)
structure GP (s:ω) (F:Zj) (lower:Bool) (a:ByteArray->Int) (N:Nat):Prop where
 Tr:F.length<2 ^ 20
 cells:∀f∈F,f.cells.length=s.cells.length/\∀c∈f.cells,c.length<2 ^ 20
 some:∀c,c<s.cells.length->X4 F c lower≠[]/\(X4 F c lower).length<=N/\X0 F c lower≠[]/\(X0 F c lower).length<2 ^ 30/\∀x∈X0 F c lower,x<s.χ.length
 name:∀g∈s.χ,(Conv.runesFrom g.name g.name.size 0 #[])[0]?=Option.some (.int .i32 (a g.name))
theorem Dv (s:ω) (M:s.small) (F:Zj) (T:SV s F) (lower:Bool) (a:ByteArray->Int) (N:Nat) (V:N<2 ^ 20) (X:N5 N) (n:(X9 s true F).2.2=0->GP s F lower a N) :
  Κ prog 40 [Zq s,ν lower] (.ZY [U4 (Uh s F lower a).1,I (Uh s F lower a).2]):=by
 refine Μ.body Ο func40 U U ntmps40 U U Ω ?_;refine Χ ?_;refine YQ ?_;refine YY (A:=[6]) Ο λv o=>Z9 ?_;refine Κ.d (M3 s M true F T) (Z9 ?_);apply o;by_cases b:(X9 s true F).2.2=0
 case neg=>
  have e:Uh s F lower a=(⟨#[]⟩,(X9 s true F).2.2):=by unfold Uh;rw[if_neg b]
  rw[e];generalize (X9 s true F).2.2=Y at b;refine Χ ?_;refine Ζ (by simp[b]) ?_;refine Χ ?_;refine W.drop (h:=0) (σ':=[]) (Α _) (Α _) Ω U [(4,U4 ⟨#[]⟩),(5,I Y)] Ω ?_;exact W.XL
 have n:=n b
 have e:X9 s true F=(s,F,0):=by
  unfold X9 at b ⊢;split at b
  .rename_i h;simp at b;exact absurd b h
  .split at b
   .simp at b
   .rename_i w B;rw[if_neg w,if_neg B]
 have Ρ:Uh s F lower a=(spell (UI s F lower a s.cells.length),0):=by unfold Uh;rw[if_pos b]
 rw[Ρ,e];refine W.fix (id:=0) (σ':=[]) (Α _) U Ω Ω U [(1,ν lower),(6,ZV s),(7,Y3 F),(8,I 0)] Ω ?_;refine Χ ?_;refine Η U ?_;refine Χ ?_;have ae:s.cells.length<2 ^ 30:=M.2.2.1;refine W.iter (λc:Nat=>c<=s.cells.length) (λc=>[(1,ν lower),(6,ZV s),(7,Y3 F),(9,XC ((UI s F lower a c).map UY)),(25,I s.cells.length),(26,I c)])
  (λc=>ZL 21 1 ((UI s F lower a c).map UY)) (λc=>s.cells.length-c) 0 (Α _) U (by simp[UI,R1]) (λc af C=>?_)
 refine Χ ?_;refine W.YH U (λt=>?_) (λt=>?_)
 .have j:c<s.cells.length:=by simpa using t
  obtain⟨w,B,O,Z,P⟩:=n.some c j;obtain⟨R,p⟩:=Ε (UI s F lower a c);have ag:R.length=c:=by rw[p];simp[UI]
  have r:UI s F lower a (c+1)=R++[Ru s F lower a c]:=by rw[p];unfold UI;rw[UB,XA];rfl
  refine W.to (σ':=ZL 21 1 (R.map UY)) (env':=[(1,ν lower),(6,ZV s),(7,Y3 F),(9,XC (R.map UY)),(25,I s.cells.length),(26,I c)]) ?_ (by rw[p]) (by rw[p];simp);refine Χ ?_;refine Z8 λv o=>?_;refine Κ.d (Dw F c lower n.Tr (λf Q=>⟨by rw[(n.cells f Q).1];exact j,(n.cells f Q).2⟩) N V X w B) (Z9 ?_);apply o;have D:R.length<=4294967295:=J;obtain⟨l,E⟩:=Ε (X0 F c lower);have H:Ru s F lower a c=if 1<l.length then 63 else if l.headD 0<0 then 45 else match s.χ[(l.headD 0).toNat]? with|some g=>a g.name|none=>0:=by rw[E];rfl
  rw[<-E] at O Z P ⊢;clear E p;refine Χ ?_;by_cases q:1<l.length
  .have m:Ru s F lower a c=63:=by rw[H,if_pos q]
   refine Ζ (by simp;omega) ?_
   repeat apply Ν
   refine W.Xq (A:=[57]) Ο [(1,ν lower),(6,ZV s),(7,Y3 F),(9,XC ((R++[63]).map UY)),(25,I s.cells.length),(26,I c)] (ZL 21 1 ((R++[63]).map UY)) ?_ (by
    rw[XA];by_cases i:R.map UY=[]
    .rw[i,R1,U0];(try simp);(repeat (rw[Θ];simp));(try simp);simp[ZL,XC]
    .rw[Rv i,Yd i];(try simp);(repeat (rw[Θ];simp));(try simp);simp[QM,N6,D])
   refine Χ ?_;refine W.to (C (c+1) j J) ?_ ?_
   .simp only[r,m,XA,WZ,TF]
   .rw[r,m];simp[Yn j (show s.cells.length<2 ^ 62 by omega)]
  .obtain⟨x,aa⟩:∃x,l=[x]:=by
    match l,O,q with
    | [x],_,_=>exact⟨x,rfl⟩
    | x::y::z,_,q=>simp at q
   subst aa;refine Η Ω ?_;refine Χ ?_;by_cases g:x<0
   .have m:Ru s F lower a c=45:=by rw[H];simp[g]
    refine Ζ (by simp[g]) ?_;refine Χ ?_;refine W.Xq (A:=[57]) Ο [(1,ν lower),(6,ZV s),(7,Y3 F),(9,XC ((R++[45]).map UY)),(25,I s.cells.length),(26,I c)] (ZL 21 1 ((R++[45]).map UY)) ?_ (by
     rw[XA];by_cases i:R.map UY=[]
     .rw[i,R1,U0];(try simp);(repeat (rw[Θ];simp));(try simp);simp[ZL,XC]
     .rw[Rv i,Yd i];(try simp);(repeat (rw[Θ];simp));(try simp);simp[QM,N6,D])
    refine Χ ?_;refine W.to (C (c+1) j J) ?_ ?_
    .simp only[r,m,XA,WZ,TF]
    .rw[r,m];simp[Yn j (show s.cells.length<2 ^ 62 by omega)]
   .obtain⟨k,rfl⟩:∃k:Nat,x=k:=⟨x.toNat,J⟩;have K:k<s.χ.length:=by have:=P (k:Int) Ω;omega
    have m:Ru s F lower a c=a s.χ[k].name:=by rw[H];simp[g,K]
    have u:=n.name _ (Yx K)
    have ab:∀h:0<(Conv.runesFrom s.χ[k].name s.χ[k].name.size 0 #[]).size,(Conv.runesFrom s.χ[k].name s.χ[k].name.size 0 #[])[0]'h=.int .i32 (a s.χ[k].name):=λh=>by
     rw[Xu h] at u;exact WW u
    have S:0<(Conv.runesFrom s.χ[k].name s.χ[k].name.size 0 #[]).size:=(TJ.1 u).1;refine Η Ω ?_;refine XJ (Υ K (Υ u S)) ?_
    repeat apply Ν
    refine W.forget [(1,ν lower),(6,ZV s),(7,Y3 F),(9,XC (R.map UY)),(11,UY (a s.χ[k].name)),(25,I s.cells.length),(26,I c)] (by simp[ab S]) ?_;refine W.Xq (A:=[57]) Ο [(1,ν lower),(6,ZV s),(7,Y3 F),(9,XC ((R++[(a s.χ[k].name)]).map UY)),(25,I s.cells.length),(26,I c)] (ZL 21 1 ((R++[(a s.χ[k].name)]).map UY)) ?_ (by
     rw[XA];by_cases i:R.map UY=[]
     .rw[i,R1,U0];(try simp);(repeat (rw[Θ];simp));(try simp);simp[ZL,XC]
     .rw[Rv i,Yd i];(try simp);(repeat (rw[Θ];simp));(try simp);simp[QM,N6,D])
    refine Χ ?_;refine W.to (C (c+1) j J) ?_ ?_
    .simp only[r,m,XA,WZ,TF]
    .rw[r,m];simp[Yn j (show s.cells.length<2 ^ 62 by omega)]
 .have t:c=s.cells.length:=by simp at t;omega
  subst t;refine W.exit U ?_;refine Χ ?_;obtain⟨R,p⟩:=Ε (UI s F lower a s.cells.length);rw[<-p];refine W.to (σ':=ZL 21 1 (R.map UY)) (env':=[(9,XC (R.map UY))]) ?_ U Ω;by_cases i:R.map UY=[]
  .have ad:R=[]:=by simpa using i
   rw[i,R1,U0,ad];have L:P5 []=some []:=rfl;refine XD L λv o=>?_;apply o;exact W.XL
  .have L:P5 (List.take R.length (R.map UY))=some R:=by
    rw[VP Ω];exact w7 R
   rw[Rv i,Yd i];refine XD L λv o=>?_;apply o;refine W.drop (h:=0) (σ':=[]) (Α _) (Α _) Ω U [(4,U4 (spell R)),(5,I 0)] Ω ?_;exact W.XL
theorem Du {a:Type} [Inhabited a] {lt:a->a->Bool} (b:SWO lt) (c:∀x y,lt x y=false->lt y x=false->x=y) (l:List a):(Go.Sort.insertionSort lt l.toArray 0 l.length).toList=l.mergeSort (λx y=>!lt y x):=by
 obtain⟨d,e⟩:=insertionSort_holds (lt:=lt) b l.toArray 0 l.length (Α _) Ω;exact sorted_unique_holds (lt:=lt) b c l.toArray _ (by simpa using d) (by simpa using e)
theorem w6 (x y:Int) (h:ltInt x y=false) (k:ltInt y x=false):x=y:=by
 simp[ltInt] at h k;omega
theorem w5:N5 12:=λl a=>by
 have h:=xv l.toArray l.length Ω a;rw[Du swo_ltInt w6 l] at h;have e:(λx y:Int=>!ltInt y x)=λx y=>decide (x<=y):=by
  funext x y;rw[Pu];simp[ltInt]
 rw[e] at h;exact h
theorem R0 (x y:Int×Int):ψ Uq x y=decide (x.1<y.1\/(x.1=y.1/\x.2<y.2)):=by
 unfold ψ Uq;simp only[R2,R3];by_cases c:x.1<y.1
 .simp[c]
 .by_cases e:y.1<x.1
  .have:¬x.1=y.1:=J
   simp[c,e,this]
  .have a:x.1=y.1:=J
   by_cases b:x.2<y.2
   .simp[a,b]
   .by_cases d:y.2<x.2
    .simp[a,b,d]
    .simp[a,b,d]
theorem O9:SWO (ψ Uq) where
 irrefl x:=by rw[R0];simp
 trans x y z h k:=by
  rw[R0] at *;simp at *;omega
 ntrans x y z h k:=by
  rw[R0] at *;simp at *;omega
theorem I2 (x y:Int×Int) (h:ψ Uq x y=false) (k:ψ Uq y x=false):x=y:=by
 rw[R0] at *;simp at h k;apply Prod.ext<;>omega
abbrev XZ (x y:Int×Int):Bool:=!ψ Uq y x
theorem wZ {l m:List Zu} (d:l.Perm m) (e:m.Pairwise λx y=>x.1<y.1\/(x.1=y.1/\x.2<y.2)):l.mergeSort XZ=m:=by
 have f:∀a b c:Int×Int,XZ a b=true->XZ b c=true->XZ a c=true:=λa b c h k=>by
  simp only[XZ,R0] at *;simp at *;omega
 have g:∀a b:Int×Int,(XZ a b||XZ b a)=true:=λa b=>by
  simp only[XZ,R0];simp;omega
 have i:=KM (le:=XZ) f g l
 have j:(l.mergeSort XZ).Perm m:=(Mf l XZ).trans d;refine Mm (le:=λa b=>XZ a b=true) (λa b _ _ h k=>?_) i (e.imp λ{a b} h=>?_) j
 .simp only[XZ,R0] at h k;simp at h k;apply Prod.ext<;>omega
 .simp only[XZ,R0];simp;omega
theorem wY (a:Ψ) (b:ς 0 a):Κ prog 234 [.sl true 0 [],I 0,I 0,a] (.ZY []):=by
 refine Μ.body Ο func234 U U ntmps234 U U Ω ?_;refine Χ ?_;refine .loop ?_;refine Χ ?_;refine Η U ?_;refine W.exit U ?_;exact W.nil ⟨_,U,YR.refl _,U⟩
theorem wX (d:Nat) (a:Ψ) (b:ς 0 a):Κ prog 211 [.sl true 0 [],I 0,I 0,I d,a] (.ZY []):=by
 refine Μ.body Ο func211 U U ntmps211 U U Ω ?_;refine Χ ?_;refine .loop ?_;refine Χ ?_;refine Ζ U ?_;refine Z8 λf e=>?_;refine Κ.c (wY a b) (ZN.refl _) (by simp[b]) Ω ?_;simp;(repeat (rw[Θ];simp));apply e;exact W.ret ⟨_,U,YR.refl _,U⟩
theorem wW (a:Ψ) (b:ς 0 a):Κ prog 173 [.sl true 0 [],a] (.ZY []):=by
 refine Μ.body Ο func173 U U ntmps173 U U Ω ?_;have Ρ:IntKind.u64.wrap (0:Int)=0:=ZT;refine Χ ?_;(repeat apply Ν);refine YZ λf e=>?_;simp;(repeat (rw[Θ];simp[Ρ]));refine Κ.d (QR 0 J) (Z9 ?_);refine Κ.c (wX (bitsLen 0) a b) (ZN.refl _) (by simp[b]) Ω ?_;simp;(repeat (rw[Θ];simp));apply e;exact W.nil ⟨_,U,YR.refl _,U⟩
theorem wV (a:Ψ) (b:ς 0 a):Κ prog 217 [.sl true 0 [],I 0,I 0,a] (.ZY []):=by
 refine Μ.body Ο func217 U U ntmps217 U U Ω ?_;refine Χ ?_;refine .loop ?_;refine Χ ?_;refine Η U ?_;refine W.exit U ?_;exact W.nil ⟨_,U,YR.refl _,U⟩
theorem wU (d:Nat) (a:Ψ) (b:ς 0 a):Κ prog 182 [.sl true 0 [],I 0,I 0,I d,a] (.ZY []):=by
 refine Μ.body Ο func182 U U ntmps182 U U Ω ?_;refine Χ ?_;refine .loop ?_;refine Χ ?_;refine Ζ U ?_;refine Z8 λf e=>?_;refine Κ.c (wV a b) (ZN.refl _) (by simp[b]) Ω ?_;simp;(repeat (rw[Θ];simp));apply e;exact W.ret ⟨_,U,YR.refl _,U⟩
theorem wT (a:Ψ) (b:ς 0 a):Κ prog 147 [.sl true 0 [],a] (.ZY []):=by
 refine Μ.body Ο func147 U U ntmps147 U U Ω ?_;have Ρ:IntKind.u64.wrap (0:Int)=0:=ZT;refine Χ ?_;(repeat apply Ν);refine YZ λf e=>?_;simp;(repeat (rw[Θ];simp[Ρ]));refine Κ.d (QR 0 J) (Z9 ?_);refine Κ.c (wU (bitsLen 0) a b) (ZN.refl _) (by simp[b]) Ω ?_;simp;(repeat (rw[Θ];simp));apply e;exact W.nil ⟨_,U,YR.refl _,U⟩
theorem X'.struct {h id k:Nat} {σ:Ξ} {t:TypeId} {l cs:μ} (c:h<=id) (d:σ[id]?=some (.cells t k [.ZW l])) (e:cs.length=l.length) (H:∀(x:Nat) (a b:Ψ),l[x]?=some a->cs[x]?=some b->X' h σ a b):X' h σ (.Δ id 1 0 0) (.ξ cs):=
 .Δ c d U U (by simp[Ψ.cells,e]) λx a b f g=>H x a b (by simpa[Ψ.cells] using f) g
abbrev YI (a b c:Ψ):Row:=.cells 26 3 [.ZW [a,b,c]]
def N4 (s:ω) (i:Nat):Ξ:=if i=0 then [YI (.sl true 0 []) (.sl true 0 []) (.sl true 0 []),YI (ZD s.χ) (ZM s.θ) (.sl true 0 [])] else
 [YI (.sl true 0 []) (.sl true 0 []) (.sl true 0 []),YI (ZD s.χ) (ZM s.θ) (.ms 2 i 0 i),.cells 60 1 ((s.cells.take i).map UN)]
theorem Dt (s:ω) (h:s.small):Κ prog 25 [Zq s] (Zq s):=by
 refine Μ.body Ο func25 U U ntmps25 U U Ω ?_;obtain⟨c,b,r,l,m⟩:=h
 repeat apply Ν
 refine YY (A:=[2]) Ο λg e=>Z9 ?_;apply e
 repeat apply Ν
 refine W.draw (A:=[3]) Ο mixed λg e=>Xa ?_;refine⟨J,?_⟩;refine Zc (Κ.q (DS s.θ J (λx n=>by have:=l x n;omega))) (Xa ?_);refine Zf (e _ _ ?_);refine Χ ?_;refine W.iter (λi:Nat=>i<=s.cells.length) (λi=>[(1,ZV s),(2,.Δ 0 1 0 0),(3,.Δ 1 1 0 0),(4,I i)]) (λi=>N4 s i) (λi=>s.cells.length-i) 0 (Α _) U Ω (λi hi j=>?_);refine Χ ?_;refine W.YH U (λd=>?_) (λd=>?_)
 .have d:i<s.cells.length:=by simpa using d
  have t:s.cells[i].length<2 ^ 30:=m _ (Yx d)
  have k:(s.cells.map UN).take (i+1)=(s.cells.map UN).take i++[UN s.cells[i]]:=by rw[Ws (by simpa using d)];simp
  by_cases f:i=0
  .subst f
   repeat apply Ν
   refine W.draw (A:=[30]) Ο mixed λg e=>?_;simp;(repeat (rw[Z1];simp[N4,d]));try rw[Z2]
   refine⟨J,?_⟩;refine Zf (e _ _ ?_);refine Χ ?_;refine W.to (j 1 d J) ?_ ?_
   .simp only[N4,Ny,k];simp
   .simp[PT,Yn d (show s.cells.length<2 ^ 62 by omega)]
  .repeat apply Ν
   refine W.draw (A:=[30]) Ο mixed λg e=>?_;simp;(repeat (rw[Z1];simp[N4,d,f,Nat.min_eq_left hi]));try rw[Z2]
   refine⟨J,J,?_⟩;refine Zf (e _ _ ?_);refine Χ ?_;refine W.to (j (i+1) d J) ?_ ?_
   .simp[N4,k]
   .simp[Yn d (show s.cells.length<2 ^ 62 by omega)]
 .have d:i=s.cells.length:=by simp at d;omega
  subst d;refine W.exit U ?_;by_cases f:s.cells.length=0
  ·(repeat (first|apply Ν|(refine YZ λg e=>?_;simp;(repeat (rw[Θ];simp[N4,f]));apply e)));have o:s.cells=[]:=YA.1 f;refine W.cut 0 (Α _) [(2,.ξ [ZD s.χ,ZM s.θ,.sl true 0 []])] Ω Ω ?_ ?_
   .simp;refine .struct (Α _) (show _=some (Row.cells _ _ [.ZW _]) from rfl) U λx a p c b=>?_
    match x with
    | 0=>simp at c b;subst c;subst b;exact .low Ω
    | 1=>simp at c b;subst c;subst b;exact .low Ω
    | 2=>simp at c b;subst c;subst b;exact .low Ω
    | x+3=>simp at b
   .refine W.ret ?_;refine⟨_,by simp;rfl,?_,U⟩;show YR _ (.ZW [ZD s.χ,ZM s.θ,.sl false 1 (s.cells.map UN)]);rw[o];exact .ZW (.cons (.refl _) (.cons (.refl _) (.cons .nil .nil)))
  ·(repeat (first|apply Ν|(refine YZ λg e=>?_;simp;(repeat (rw[Θ];simp[N4,f]));apply e)));refine W.cut 0 (Α _) [(2,ZV s)] Ω Ω ?_ ?_
   .simp;refine .struct (Α _) (show _=some (Row.cells _ _ [.ZW _]) from rfl) U λx a p c b=>?_
    match x with
    | 0=>simp at c b;subst c;subst b;exact .low Ω
    | 1=>simp at c b;subst c;subst b;exact .low Ω
    | 2=>simp at c b;subst c;subst b;exact .own (Α _) rfl Ω Ω
    | x+3=>simp at b
   .refine W.ret ?_;refine⟨_,by simp;rfl,?_,U⟩;exact .refl _
abbrev Yk (r:Int×Int):Ψ×Ψ:=(Zb r,ν true)
theorem wS (x y:Int×Int):aeqv ZS 112 (Zb x) (Zb y)=some (decide (x=y)):=by
 simp[aeqv,U6,Tx];rw[Pu];simp[Prod.ext_iff]
theorem wR (r:Int×Int):∀(l:List Zu) (n:Nat),r∉l->V3 ZS 112 (Zb r) (l.map Yk) n=some none:=by
 intro l
 induction l with
 | nil=>intro n _;rfl
 | cons x l a=>
  intro n h;simp only[WZ,V3];have b:¬r=x:=λe=>h (by simp[e]);have:=wS r x;rw[this,decide_eq_false b];exact a (n+1) λc=>h (by simp[c])
def TV (i j:Nat):List Zu:=(List.range j).map λy:Nat=>((i:Int)-1,(y:Int)-1)
def WQ (n i:Nat):List Zu:=(List.range i).flatMap λx=>TV x (n+1)
def N3 (n:Nat):List Zu:=WQ n (n+1)
theorem Ds (i j:Nat):TV i (j+1)=TV i j++[((i:Int)-1,(j:Int)-1)]:=by simp[TV,UB]
theorem GO (n i:Nat):WQ n (i+1)=WQ n i++TV i (n+1):=by simp[WQ,UB]
theorem I1 {i j:Nat} {r:Int×Int} (h:r∈TV i j):r.1=(i:Int)-1/\r.2<(j:Int)-1:=by
 unfold TV at h;obtain⟨y,a,rfl⟩:=YO.1 h;have:=UT.1 a;exact⟨U,by simp;omega⟩
theorem Dr {n i:Nat} {r:Int×Int} (h:r∈WQ n i):r.1<(i:Int)-1:=by
 unfold WQ at h;obtain⟨x,a,b⟩:=Pv.1 h;have:=UT.1 a;have:=(I1 b).1;omega
def Wk (s:ω) (p:Int×Int) (c:Nat):List Zu:=(N3 s.χ.length).filter λr=>s.R4 p r c
theorem wQ (i j:Nat):(TV i j).Pairwise λx y=>x.1<y.1\/(x.1=y.1/\x.2<y.2):=by
 induction j with
 | zero=>simp[TV]
 | succ j d=>
  rw[Ds,NF];refine⟨d,Ω,λa e b c=>?_⟩;simp at c;subst c;have:=I1 e;exact .inr ⟨this.1,by simpa using this.2⟩
theorem Dq (n i:Nat):(WQ n i).Pairwise λx y=>x.1<y.1\/(x.1=y.1/\x.2<y.2):=by
 induction i with
 | zero=>simp[WQ]
 | succ i c=>
  rw[GO,NF];refine⟨c,wQ _ _,λa d b e=>.inl ?_⟩;have:=Dr d;have:=(I1 e).1;omega
theorem wP (s:ω) (p:Int×Int) (c:Nat):(Wk s p c).Pairwise λx y=>x.1<y.1\/(x.1=y.1/\x.2<y.2):=(Dq _ _).filter _
def I0 (N:Nat):Prop:=∀(l:List Zu),l.length<=N->Μ prog 173 [.ms 0 l.length 0 l.length,.fn (.func 174) [] []] [.cells 112 2 (l.map Zb)] (λr s=>r=.ZY []/\s=[.cells 112 2 ((l.mergeSort XZ).map Zb)]) (λ_ _=>False)
theorem wO:I0 12:=λl a=>by
 have h:=xz l.toArray l.length Ω a (.fn (.func 174) [] []) Uq (by simp[U5]) (λx y=>Κ.p (DO x y) (ZN.refl _) Ω Ω);rw[Du O9 I2 l] at h;exact h
def Xo (q:Int×Int->Bool) (n i j:Nat):List Zu:=(WQ n i++TV i j).filter q
theorem Ls {q:Int×Int->Bool} {n:Nat}:Xo q n 0 0=[]:=by simp[Xo,WQ,TV]
theorem Lr {q:Int×Int->Bool} {n i:Nat}:Xo q n i (n+1)=Xo q n (i+1) 0:=by simp[Xo,GO,TV]
theorem GN {q:Int×Int->Bool} {n i j:Nat}:Xo q n i (j+1)=Xo q n i j++if q ((i:Int)-1,(j:Int)-1) then [((i:Int)-1,(j:Int)-1)] else []:=by
 unfold Xo;rw[Ds,<-TH,List.filter_append];simp[KA]
theorem IZ {q:Int×Int->Bool} {n:Nat}:Xo q n (n+1) 0=(N3 n).filter q:=by simp[Xo,TV,N3]
theorem wN {q:Int×Int->Bool} {n i j:Nat}:((i:Int)-1,(j:Int)-1)∉Xo q n i j:=by
 unfold Xo;rw[TG,V4];rintro⟨h|h,_⟩
 .have:=Dr h;simp at this
 .have:=(I1 h).2;simp at this
def SU (l:μ):Ψ:=if l.isEmpty then .sl true 0 [] else .ms 3 l.length 0 l.length
def YG (l:μ):Ξ:=if l.isEmpty then [] else [.cells 111 1 l]
abbrev V7:Row:=.cells 110 3 [.ZW [I 0,I 0,.sl true 0 []]]
abbrev WK (p:Int×Int) (L:μ):Row:=.cells 110 3 [.ZW [I p.1,I p.2,SU L]]
def Y2 (id:Nat) (l:μ):Ψ:=if l.isEmpty then .sl true 0 [] else .ms id l.length 0 l.length
theorem W2 {id:Nat} {l:μ} (h:l≠[]):Y2 id l=.ms id l.length 0 l.length:=by unfold Y2;rw[if_neg (by simpa using h)]
theorem wM {l:μ}:ς ((YG l).length+3) (SU l):=by
 unfold SU YG;cases l.isEmpty<;>simp[Tw]
theorem wL {h:Nat} {l:μ} (d:∀e∈l,∀a∈e.cells,ς 0 a):∀r∈YG l,XF h r:=by
 intro r b;unfold YG at b;cases c:l.isEmpty with
 | true=>rw[c] at b;simp at b
 | false=>
  rw[c] at b;simp at b;subst b;exact λe f a g=>(d e f a g).mono (Α _)
theorem XF.mono {h f:Nat} {r:Row} (c:XF h r) (d:h<=f):XF f r:=by
 cases r with
 | cells t k l=>exact λe b a g=>(c e b a g).mono d
 | map es=>exact λe b=>⟨(c e b).1.mono d,(c e b).2.mono d⟩
 | iter m left i=>exact⟨KG c.1 d,λe b=>⟨(c.2.1 e b).1.mono d,(c.2.1 e b).2.mono d⟩,λe b=>⟨(c.2.2 e b).1.mono d,(c.2.2 e b).2.mono d⟩⟩
 | dead=>trivial
theorem wK {h id:Nat} {l:μ} (b:l≠[]->id<h):ς h (Y2 id l):=by
 by_cases a:l=[]
 .subst a;unfold Y2;simp
 .rw[W2 a];exact Tw.2 (b a)
theorem Dp {b:Type} (l:List b) (i:Nat) (h:i<l.length):(l[i]::l.eraseIdx i).Perm l:=by
 induction l generalizing i with
 | nil=>simp at h
 | cons a l c=>
  cases i with
  | zero=>exact .refl _
  | succ i=>
   simp only[List.getElem_cons_succ,List.eraseIdx_cons_succ];exact(List.Perm.swap _ _ _).trans (.cons a (c i (by simpa using h)))
theorem IY {h id k:Nat} {t:TypeId} {l:μ} {σ:Ξ} (c:h<=id) (d:l≠[]->σ[id]?=some (.cells t k l)) (f:∀e∈l,∀a∈e.cells,ς h a):X' h σ (Y2 id l) (WT k l):=by
 by_cases b:l=[]
 .subst b;exact .low (by unfold Y2;simp)
 .have e:WT k l=.sl false k l:=by unfold WT;rw[if_neg (by simpa using b)]
  rw[W2 b,e];exact .own c (d b) U f
theorem Dn (k:Nat) (m:μ):∃b kk l,WT k m=.sl b kk l:=by
 unfold WT;split
 .exact⟨_,_,_,U⟩
 .exact⟨_,_,_,U⟩
theorem Dm {b c:Type} (f:b->c) (l:List b) (i:Nat):(l.map f).eraseIdx i=(l.eraseIdx i).map f:=by
 induction l generalizing i with
 | nil=>rfl
 | cons a l d=>cases i<;>simp[d]
theorem wJ (s:ω) (an:s.small) (aY:s.χ.length<2 ^ 20) (p:Int×Int) (hv:∀c∈s.cells,∀x∈c,0<=x.YX/\x.YX<s.θ.length) (N:Nat) (aZ:N<2 ^ 20) (aB:I0 N) (Q:∀c,c<s.cells.length->(Wk s p c).length<=N) :
  Κ prog 143 [Zq s,Zb p] (YB ⟨p.1,p.2,(List.range s.cells.length).map (Wk s p)⟩):=by
 refine Μ.body Ο func143 U U ntmps143 U U Ω ?_
 repeat apply Ν
 refine YY (A:=[4]) Ο λw g=>Z9 ?_;apply g
 repeat apply Ν
 refine YY (A:=[5]) Ο λw g=>Z9 ?_;apply g
 repeat apply Ν
 refine Z8 λw g=>?_;apply g;refine Χ ?_;have a0:s.cells.length<2 ^ 30:=an.2.2.1;refine W.iter (λc:Nat=>c<=s.cells.length) (λc=>[(2,ZV s),(3,.ξ [I p.1,I p.2]),(4,.Δ 0 1 0 0),(5,.Δ 1 1 0 0),(6,.mp 2),(19,I s.cells.length),(20,I c)])
  (λc=>V7::WK p ((List.range c).map λc=>WT 2 ((Wk s p c).map Zb))::.map []::YG ((List.range c).map λc=>WT 2 ((Wk s p c).map Zb))) (λc=>s.cells.length-c) 0 (Α _) (by simp[SU,YG]) Ω (λc ad H=>?_)
 obtain⟨L,M⟩:=Ε ((List.range c).map λc=>WT 2 ((Wk s p c).map Zb));refine W.to (σ':=V7::WK p L::.map []::YG L) (env':=[(2,ZV s),(3,.ξ [I p.1,I p.2]),(4,.Δ 0 1 0 0),(5,.Δ 1 1 0 0),(6,.mp 2),(19,I s.cells.length),(20,I c)]) ?_ (by rw[M]) Ω;refine Χ ?_;refine W.YH U (λad=>?_) (λad=>?_)
 .have ae:c<s.cells.length:=by simpa using ad
  refine Χ ?_;obtain⟨n,S⟩:=Ε s.χ.length;have a1:n<2 ^ 20:=J;obtain⟨q,ao⟩:=Ε (λr=>s.R4 p r c:Int×Int->Bool);have O:∀e∈L,∀a∈e.cells,ς 0 a:=by
   rw[M];intro e m a o;obtain⟨x,_,rfl⟩:=YO.1 m;unfold WT at o;split at o<;>simp[Ψ.cells] at o<;>subst o<;>simp
  have T:∀(u:List Zu) (h:Nat),XF h (.map (u.map Yk)):=λu h e m=>by
   obtain⟨x,_,rfl⟩:=YO.1 m;simp
  have D:∀u:List Zu,∀r∈V7::WK p L::.map (u.map Yk)::YG L,XF (V7::WK p L::.map (u.map Yk)::YG L).length r:=λu r B=>by
   simp only[Y9] at B;rcases B with rfl|rfl|rfl|B
   .simp[XF,Ψ.cells]
   .simp[XF,Ψ.cells];exact wM
   .exact T u _
   .exact wL O r B
  refine W.iter (λi:Nat=>i<=n+1) (λi=>[(2,ZV s),(3,.ξ [I p.1,I p.2]),(4,.Δ 0 1 0 0),(5,.Δ 1 1 0 0),(6,.mp 2),(19,I s.cells.length),(20,I c),(7,I c),(8,I ((i:Int)-1))])
   (λi=>V7::WK p L::.map ((Xo q n i 0).map Yk)::YG L) (λi=>n+1-i) 0 (Α _) (by rw[Ls];rfl) Ω (λi hi V=>?_)
  refine Χ ?_;by_cases a2:i<n+1
  .refine Ζ (by simp[<-S];omega) ?_;refine Χ ?_;refine W.iter (λj:Nat=>j<=n+1) (λj=>[(2,ZV s),(3,.ξ [I p.1,I p.2]),(4,.Δ 0 1 0 0),(5,.Δ 1 1 0 0),(6,.mp 2),(19,I s.cells.length),(20,I c),(7,I c),(8,I ((i:Int)-1)),(9,I ((j:Int)-1))])
    (λj=>V7::WK p L::.map ((Xo q n i j).map Yk)::YG L) (λj=>n+1-j) 0 (Α _) U Ω (λj a3 ap=>?_)
   refine Χ ?_;by_cases a4:j<n+1
   .refine Ζ (by simp[<-S];omega) ?_
    repeat apply Ν
    obtain⟨u,af⟩:=Ε (Xo q n i j);refine W.to (σ':=V7::WK p L::.map (u.map Yk)::YG L) (env':=[(2,ZV s),(3,.ξ [I p.1,I p.2]),(4,.Δ 0 1 0 0),(5,.Δ 1 1 0 0),(6,.mp 2),(19,I s.cells.length),(20,I c),(7,I c),(8,I ((i:Int)-1)),(9,I ((j:Int)-1))]) ?_ (by rw[af]) Ω;have aC:V3 ZS 112 (.ZW [I ((i:Int)-1),I ((j:Int)-1)]) (u.map Yk) 0=some none:=wR _ u 0 (by rw[af];exact wN);have al:∀es,Sz (V7::WK p L::.map es::YG L) 2=true:=λes=>by unfold YG;cases L.isEmpty<;>simp[Sz]
    refine YY (A:=[10]) Ο λw g=>Z9 ?_;apply g;refine W.UZ (σ0:=V7::WK p L::.map (u.map Yk)::YG L) (Α _) (D u) Ω [(10,.ξ [I ((i:Int)-1),I ((j:Int)-1)]),(2,ZV s),(3,.ξ [I p.1,I p.2]),(4,.Δ 0 1 0 0),(5,.Δ 1 1 0 0),(6,.mp 2),(19,I s.cells.length),(20,I c),(7,I c),(8,I ((i:Int)-1)),(9,I ((j:Int)-1))] (by simp[Wb,P0]) ?_;have aq:=Yi (show j<2 ^ 62 by omega);refine Z8 λw g=>?_;refine Κ.c (xG s an p ((i:Int)-1,(j:Int)-1) c ae (hv _ (Yx ae)) (by simp;omega) (by simp;omega)) (ZN.refl _) Ω Ω ?_;simp;(repeat (rw[Θ];simp));apply g;have aD:s.R4 p ((i:Int)-1,(j:Int)-1) c=q ((i:Int)-1,(j:Int)-1):=by rw[ao]
    rw[aD];have ag:=GN (q:=q) (n:=n) (i:=i) (j:=j);cases ar:q ((i:Int)-1,(j:Int)-1)
    .refine Η U ?_;refine Ι aq ?_;rw[ar] at ag;refine W.to (ap (j+1) J J) ?_ ?_
     .rw[ag,af];simp
     .simp
    .refine Ζ U ?_
     repeat apply Ν
     refine YZ λw g=>?_;simp;(repeat (rw[Θ];simp[aC,al,-Sz]));apply g;refine Ι aq ?_;rw[ar] at ag;refine W.to (ap (j+1) J J) ?_ ?_
     .rw[ag,af];simp
     .simp
   .refine Η (by simp[<-S];omega) ?_;refine W.exit U ?_;have aE:j=n+1:=J;subst aE;refine Χ ?_;refine W.to (V (i+1) J J) ?_ ?_
    .rw[Lr]
    .have:=Yi (show i<2 ^ 62 by omega);simp[this]
  .refine Η (by simp[<-S];omega) ?_;refine W.exit U ?_;have aF:i=n+1:=J;subst aF;obtain⟨d,ah⟩:=Ε (Wk s p c);have aG:Xo q n (n+1) 0=d:=by rw[IZ,ah,ao,S];rfl
   rw[aG];have aH:d.length<=N:=by rw[ah];exact Q c ae
   refine W.to (σ':=V7::WK p L::.map (d.map Yk)::YG L) (env':=[(2,ZV s),(3,.ξ [I p.1,I p.2]),(4,.Δ 0 1 0 0),(5,.Δ 1 1 0 0),(6,.mp 2),(19,I s.cells.length),(20,I c),(7,I c)]) ?_ U Ω;refine Χ ?_;refine W.iter (λx:List Zu×List Zu×Option (Ψ×Ψ)=>(x.1++x.2.1).Perm d/\(x.2.2=none\/∃y,x.2.2=some (Yk y)))
    (λx=>[(2,ZV s),(3,.ξ [I p.1,I p.2]),(4,.Δ 0 1 0 0),(5,.Δ 1 1 0 0),(6,.mp 2),(19,I s.cells.length),(20,I c),(7,I c),(11,Y2 ((YG L).length+1+1+1+1) (x.1.map Zb)),(50,.it ((YG L).length+1+1+1))])
    (λx=>V7::WK p L::.map (d.map Yk)::(YG L++(.iter 2 (x.2.1.map Yk) x.2.2::ZL 112 2 (x.1.map Zb)))) (λx=>x.2.1.length) ([],d,none) ⟨Ω,.inl U⟩ (by simp[ZL]) (by simp[Y2]) (λx ai X=>?_)
   obtain⟨K,R,aj⟩:=x;obtain⟨ak,aI⟩:=ai;simp only at ak aI
   repeat apply Ν
   cases R with
   | nil=>
    refine Z8 λw g=>?_;apply g
    repeat apply Ν
    refine Η U ?_;refine W.exit U ?_;have E:K.Perm d:=by simpa using ak
    repeat apply Ν
    have au:K.length<=N:=by rw[E.length_eq];exact aH
    have aJ:K.mergeSort XZ=d:=by
     rw[ah] at E ⊢;exact wZ E (wP s p c)
    refine W.Xq (A:=[]) Ο [(2,ZV s),(3,.ξ [I p.1,I p.2]),(4,.Δ 0 1 0 0),(5,.Δ 1 1 0 0),(6,.mp 2),(19,I s.cells.length),(20,I c),(11,Y2 ((YG L).length+1+1+1+1) (d.map Zb))]
     (V7::WK p L::.map (d.map Yk)::(YG L++(.iter 2 [] aj::ZL 112 2 (d.map Zb)))) ?_ (by
     clear X V H D T Q hv O;by_cases f:K=[]
     .subst f;have aK:d=[]:=E.symm.eq_nil;rw[aK];simp only[TF,U0,show Y2 ((YG L).length+1+1+1+1) []=.sl true 0 [] from rfl];simp;(repeat (rw[Θ];simp));refine Κ.c (wW _ (by simp[U5])) (ZN.refl _) (by simp[U5]) Ω ?_;simp;(repeat (rw[Θ];simp));(try simp)
     .have Y:K.map Zb≠[]:=by simpa using f
      have aL:d≠[]:=λe=>f (by rw[e] at E;exact E.eq_nil)
      have av:d.map Zb≠[]:=by simpa using aL
      rw[W2 Y,Yd Y,W2 av,Yd av];simp;(repeat (rw[Θ];simp));have aw:ς 0 (.fn (.func 174) [] []):=by simp[U5]
      refine Μ.one (aB K au) ((YG L).length+1+1+1+1) Ω (QS PR) (QS PR) (by simp[TY,aw.Vr 1]) (by simp[Xr]) (by simp[TX,aw.Yh [(YG L).length+1+1+1+1]]) ?_;simp[Yh,Wx];(repeat (rw[Θ];simp));(try simp[aJ,E.length_eq]))
    refine W.cut ((YG L).length+1+1+1) (Α _) [(2,ZV s),(3,.ξ [I p.1,I p.2]),(4,.Δ 0 1 0 0),(5,.Δ 1 1 0 0),(6,.mp 2),(19,I s.cells.length),(20,I c),(11,WT 2 (d.map Zb))] Ω (λid r ax B=>?_) ?_ ?_
    .refine D d r ?_;have e:V7::WK p L::.map (d.map Yk)::(YG L++(.iter 2 [] aj::ZL 112 2 (d.map Zb)))=(V7::WK p L::.map (d.map Yk)::YG L)++(.iter 2 [] aj::ZL 112 2 (d.map Zb)):=Ω;rw[e,Yz (by simpa using ax)] at B;exact Y1 B
    .have aM:X' ((YG L).length+1+1+1) (V7::WK p L::.map (d.map Yk)::(YG L++(.iter 2 [] aj::ZL 112 2 (d.map Zb)))) (Y2 ((YG L).length+1+1+1+1) (d.map Zb)) (WT 2 (d.map Zb)):=IY (t:=112) J (λZ=>by rw[Yd Z];simp) (λe m a o=>by
      obtain⟨z,_,rfl⟩:=YO.1 m;exact(PR z a o).mono (Α _))
     intro z f;simp only[Y9,Yb,or_false] at f;rcases f with rfl|rfl|rfl|rfl|rfl|rfl|rfl|rfl
     all_goals first|exact aM|exact .low (by simp[Wb,P0])
    .obtain⟨C,aa⟩:=Ε (L++[WT 2 (d.map Zb)]);have a5:L.length<2 ^ 30:=by rw[M];simp;omega
     refine W.to (σ':=V7::WK p L::.map (d.map Yk)::YG L) (env':=[(2,ZV s),(3,.ξ [I p.1,I p.2]),(4,.Δ 0 1 0 0),(5,.Δ 1 1 0 0),(6,.mp 2),(19,I s.cells.length),(20,I c),(11,WT 2 (d.map Zb))]) ?_ Ω Ω
     repeat apply Ν
     refine W.Xq (A:=[65]) Ο [(2,ZV s),(3,.ξ [I p.1,I p.2]),(4,.Δ 0 1 0 0),(5,.Δ 1 1 0 0),(6,.mp 2),(19,I s.cells.length),(20,I c)] (V7::WK p C::.map (d.map Yk)::YG C) ?_ (by
      clear X V H D T Q hv;obtain⟨ay,az,sl,aN⟩:=Dn 2 (d.map Zb);rw[aN] at aa ⊢;by_cases f:L=[]
      .have aO:C=[.sl ay az sl]:=by rw[aa,f];rfl
       rw[aO];subst f;simp only[WK,YG,SU,List.isEmpty_nil,List.isEmpty_cons,if_true,if_false];(try simp);(repeat (rw[Θ];simp));(try simp)
      .have ab:L.length<=4294967295:=J
       have aP:SU L=.ms 3 L.length 0 L.length:=by unfold SU;rw[if_neg (by simpa using f)]
       have aQ:YG L=[.cells 111 1 L]:=by unfold YG;rw[if_neg (by simpa using f)]
       have aR:SU C=.ms 3 (L.length+1) 0 (L.length+1):=by rw[aa];unfold SU;rw[if_neg Ω];simp
       have aS:YG C=[.cells 111 1 (L++[.sl ay az sl])]:=by rw[aa];unfold YG;rw[if_neg Ω]
       simp only[WK];rw[aP,aQ,aR,aS];(try simp);(repeat (rw[Θ];simp[ab]));(try simp[ab]))
     have al:∀es,Sz (V7::WK p C::.map es::YG C) 2=true:=λes=>by unfold YG;cases C.isEmpty<;>simp[Sz]
     repeat apply Ν
     refine YZ λw g=>?_;simp;(repeat (rw[Θ];simp[al,-Sz]));apply g;refine Χ ?_;have aT:C=(List.range (c+1)).map λc=>WT 2 ((Wk s p c).map Zb):=by rw[aa,M,ah,UB];simp
     refine W.to (H (c+1) J J) ?_ ?_
     .rw[<-aT]
     .simp[Yn ae (show s.cells.length<2 ^ 62 by omega)]
   | cons y R=>
    refine Z8 λw g=>?_;intro i hi;obtain⟨x,ai⟩:=Ε ((y::R)[i]'(by simpa using hi));have aU:(Yk y::List.map Yk R)[i]?=some (Yk x):=by
     have:(List.map Yk (y::R))[i]?=some (Yk x):=by
      rw[Yc,Z7 (by simpa using hi),ai];rfl
     simpa using this
    have aV:(Yk y::List.map Yk R).eraseIdx i=((y::R).eraseIdx i).map Yk:=by
     exact Dm Yk (y::R) i
    rw[aU,aV];simp;(repeat (rw[Θ];simp));apply g
    repeat apply Ν
    refine Ζ U ?_
    repeat apply Ν
    refine YY (A:=[12]) Ο λw g=>Z9 ?_;apply g;have am:∀r∈V7::WK p L::.map (d.map Yk)::(YG L++(.iter 2 (((y::R).eraseIdx i).map Yk) (some (Yk x))::ZL 112 2 (K.map Zb))),XF (V7::WK p L::.map (d.map Yk)::(YG L++(.iter 2 (((y::R).eraseIdx i).map Yk) (some (Yk x))::ZL 112 2 (K.map Zb)))).length r:=by
     intro r B;have v:r∈V7::WK p L::.map (d.map Yk)::YG L\/r∈(.iter 2 (((y::R).eraseIdx i).map Yk) (some (Yk x))::ZL 112 2 (K.map Zb)):=by
      have:r∈(V7::WK p L::.map (d.map Yk)::YG L)++(.iter 2 (((y::R).eraseIdx i).map Yk) (some (Yk x))::ZL 112 2 (K.map Zb)):=by simpa using B
      exact V4.1 this
     rcases v with v|v
     .exact XF.mono (D d r v) Ω
     .rcases Y9.1 v with rfl|v
      .refine⟨Ω,λe m=>?_,λe m=>?_⟩
       .obtain⟨z,_,rfl⟩:=YO.1 m;simp
       .cases m;simp
      .unfold ZL at v;split at v
       .simp at v
       .simp at v;subst v;intro e m a o;obtain⟨z,_,rfl⟩:=YO.1 m;simp[Ψ.cells] at o;rcases o with rfl|rfl<;>simp
    refine W.to (σ':=(V7::WK p L::.map (d.map Yk)::(YG L++(.iter 2 (((y::R).eraseIdx i).map Yk) (some (Yk x))::ZL 112 2 (K.map Zb))))++[.cells 112 2 [Zb x]]) (env':=[(12,.Δ (V7::WK p L::.map (d.map Yk)::(YG L++(.iter 2 (((y::R).eraseIdx i).map Yk) (some (Yk x))::ZL 112 2 (K.map Zb)))).length 1 0 0),(2,ZV s),(3,.ξ [I p.1,I p.2]),(4,.Δ 0 1 0 0),(5,.Δ 1 1 0 0),(6,.mp 2),(19,I s.cells.length),(20,I c),(7,I c),(11,Y2 ((YG L).length+1+1+1+1) (K.map Zb)),(50,.it ((YG L).length+1+1+1))]) ?_ Ω Ω;refine W.UZ (σ0:=V7::WK p L::.map (d.map Yk)::(YG L++(.iter 2 (((y::R).eraseIdx i).map Yk) (some (Yk x))::ZL 112 2 (K.map Zb)))) (Α _) am Ω [(12,.ξ [I x.1,I x.2]),(2,ZV s),(3,.ξ [I p.1,I p.2]),(4,.Δ 0 1 0 0),(5,.Δ 1 1 0 0),(6,.mp 2),(19,I s.cells.length),(20,I c),(7,I c),(11,Y2 ((YG L).length+1+1+1+1) (K.map Zb)),(50,.it ((YG L).length+1+1+1))] (by
     have aW:=wK (h:=(YG L).length+((ZL 112 2 (K.map Zb)).length+1)+1+1+1) (id:=(YG L).length+1+1+1+1) (l:=K.map Zb) (λZ=>by rw[Yd Z];simp);clear X V H D am T Q hv O;simp[Wb,P0,x',aW]
     ) ?_
    repeat apply Ν
    have au:K.length<2 ^ 20:=by
     have:=ak.length_eq;simp at this;omega
    refine W.Xq (A:=[58]) Ο [(2,ZV s),(3,.ξ [I p.1,I p.2]),(4,.Δ 0 1 0 0),(5,.Δ 1 1 0 0),(6,.mp 2),(19,I s.cells.length),(20,I c),(7,I c),(11,Y2 ((YG L).length+1+1+1+1) ((K++[x]).map Zb)),(50,.it ((YG L).length+1+1+1))]
     (V7::WK p L::.map (d.map Yk)::(YG L++(.iter 2 (((y::R).eraseIdx i).map Yk) (some (Yk x))::ZL 112 2 ((K++[x]).map Zb)))) ?_ (by
     clear X V H D am T Q hv O;by_cases f:K=[]
     .subst f;simp only[TF,U0,show Y2 ((YG L).length+1+1+1+1) []=.sl true 0 [] from rfl];(try simp);(repeat (rw[Θ];simp[U0]));(try simp[U0]);exact⟨U,U⟩
     .have ab:K.length<=4294967295:=J
      have Y:K.map Zb≠[]:=by simpa using f
      rw[W2 Y,Yd Y];(try simp);(repeat (rw[Θ];simp[ab]));(try simp[ab]);rw[Yd Ω,W2 Ω];simp)
    refine Χ ?_;have aA:(x::(y::R).eraseIdx i).Perm (y::R):=by
     rw[ai];exact Dp _ _ _
    refine W.to (X (K++[x],(y::R).eraseIdx i,some (Yk x)) ⟨?_,.inr ⟨x,U⟩⟩ ?_) Ω Ω
    .simp only[TH,List.singleton_append];exact(aA.append_left K).trans ak
    .have:=aA.length_eq;simp at this;simp only[List.length_cons];omega
 .have aX:c=s.cells.length:=by simp at ad;omega
  subst aX;refine W.exit U ?_
  repeat apply Ν
  clear H;have O:∀e∈L,∀a∈e.cells,ς 0 a:=by
   rw[M];intro e m a o;obtain⟨x,_,rfl⟩:=YO.1 m;unfold WT at o;split at o<;>simp[Ψ.cells] at o<;>subst o<;>simp
  refine W.Xq (A:=[]) Ο [(4,.Δ 0 1 0 0)] (.cells 110 3 [.ZW [I p.1,I p.2,SU L]]::WK p L::.map []::YG L) ?_ (by
   simp only[WK];by_cases f:L=[]
   .rw[show SU L=.sl true 0 [] by rw[f];rfl];(try simp);(repeat (rw[Θ];simp));(try simp)
   .rw[show SU L=.ms 3 L.length 0 L.length by unfold SU;rw[if_neg (by simpa using f)],show YG L=[.cells 111 1 L] by unfold YG;rw[if_neg (by simpa using f)]];(try simp);(repeat (rw[Θ];simp));(try simp))
  refine W.cut 0 (Α _) [(4,.ξ [I p.1,I p.2,WT 1 L])] (Α _) (λid r ax=>J) (λz f=>by
   simp at f;subst f;exact X'.struct (k:=3) (t:=110) (l:=[I p.1,I p.2,SU L]) (Α _) U U (λx a a6 F P=>by
    match x with
    | 0=>simp at F P;subst F;subst P;exact .low Ω
    | 1=>simp at F P;subst F;subst P;exact .low Ω
    | 2=>
     simp at F P;subst F;subst P;exact IY (id:=3) (t:=111) (l:=L) (Α _) (λZ=>by
      have:YG L=[.cells 111 1 L]:=by unfold YG;rw[if_neg (by simpa using Z)]
      simp[this]) O
    | x+3=>simp at F)) ?_
  refine Χ ?_;refine W.rt ?_;refine YR.ZW (ZN.cons (.refl _) (ZN.cons (.refl _) (ZN.cons (.trans YR.acc ?_) .nil)));rw[M];show YR _ (.sl false 1 (((List.range s.cells.length).map (Wk s p)).map UK));rw[Ra];refine YR.map λx _=>.one YR.acc ?_ U;obtain⟨b,k,l,m⟩:=Dn 2 ((Wk s p x).map Zb);rw[m];rfl
structure TU where
 c:Int
 n:Int
 least:Int
 some:Bool
def TU.take (b:TU) (c n m:Int):TU:=if b.some=false\/m<b.least then⟨c,n,m,true⟩ else b
abbrev TT (b:TU):Ψ:=.ZW [I b.c,I b.n,I b.least,ν b.some]
theorem wI (b:TU) (c n m:Int):Μ prog 76 [.Δ 0 1 0 0,.ZW [I c,I n],I m] [.cells 104 4 [TT b]] (λr s=>r=.ZY []/\s=[.cells 104 4 [TT (b.take c n m)]]) (λ_ _=>False):=by
 obtain⟨d,f,a,g⟩:=b;refine Μ.body Ο func76 U U ntmps76 U U Ω ?_;refine Χ ?_;cases g
 .have e:TU.take ⟨d,f,a,false⟩ c n m=⟨c,n,m,true⟩:=by simp[TU.take]
  rw[e];refine Χ ?_;refine Ζ U ?_;refine Χ ?_;exact W.nil ⟨_,U,U,U⟩
 .refine Χ ?_;by_cases h:m<a
  .have e:TU.take ⟨d,f,a,true⟩ c n m=⟨c,n,m,true⟩:=by simp[TU.take,h]
   rw[e];refine Ζ (by simp[h]) ?_;refine Χ ?_;exact W.nil ⟨_,U,U,U⟩
  .have e:TU.take ⟨d,f,a,true⟩ c n m=⟨d,f,a,true⟩:=by simp[TU.take,h]
   rw[e];refine Η (by simp[h]) ?_;refine Χ ?_;exact W.nil ⟨_,U,U,U⟩
abbrev VE (e:Int×Int):Ψ×Ψ:=(I e.1,I e.2)
def O8:List Zu->Int->Int->List Zu
 | [],k,n=>[(k,IntKind.i64.wrap (0+n))]
 | e::r,k,n=>if k=e.1 then(k,IntKind.i64.wrap (e.2+n))::r else e::O8 r k n
theorem wH (k n:Int):∀(m:List Zu) (d:Nat),(V3 ZS 113 (I k) (m.map VE) d=some none/\O8 m k n=m++[(k,IntKind.i64.wrap (0+n))])\/∃i v,i<m.length/\V3 ZS 113 (I k) (m.map VE) d=some (some (d+i,I v))/\O8 m k n=m.set i (k,IntKind.i64.wrap (v+n)):=by
 intro m
 induction m with
 | nil=>intro d;exact .inl ⟨rfl,rfl⟩
 | cons e r g=>
  intro d;have a:aeqv ZS 113 (I k) (I e.1)=some (k==e.1):=by simp[aeqv,U6,Tx,Vv]
  by_cases h:k=e.1
  .refine .inr ⟨0,e.2,Ω,?_,by simp[O8,h]⟩;simp only[WZ,V3,a];simp[h]
  .have c:(k==e.1)=false:=by simpa using h
   rcases g (d+1) with⟨f,b⟩|⟨i,v,f,b,j⟩
   .refine .inl ⟨?_,by simp[O8,h,b]⟩;simp only[WZ,V3,a,c,cond_false];exact f
   .refine .inr ⟨i+1,v,by simp;omega,?_,by simp[O8,h,j]⟩;simp only[WZ,V3,a,c,cond_false];rw[b];have:d+1+i=d+(i+1):=J;rw[this]
end Go.TL
