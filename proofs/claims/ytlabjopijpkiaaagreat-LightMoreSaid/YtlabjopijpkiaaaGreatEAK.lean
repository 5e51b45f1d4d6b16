import Derived.Test.YtlabjopijpkiaaaGreatEAJ
set_option maxHeartbeats 16000000
set_option maxRecDepth 20000
set_option linter.unusedSectionVars false
set_option linter.unusedSimpArgs false
set_option linter.unusedVariables false
namespace Go.TL
open Go.Proofs
variable [bq]
instance:Inhabited Found:=⟨⟨0,0,[]⟩⟩
abbrev aL (r:Int×Int):θ:=.sl true 1 [I r.1,I r.2]
theorem OD (d:Array (Int×Int)) (n a b:Nat) (Θ:d.size=n) (ν:a<=b) (hb:b<=n) (ξ:n<2 ^ 40) (Ο:θ) (cmp:Int×Int->Int×Int->Int) (a9:aG 0 Ο) (Ρ:∀x y,ef Tryz.prog Ο [aK x,aK y] (I (cmp x y))) :
  af Tryz.prog 234 [.ms 0 n 0 n,I a,I b,Ο] [.cells 112 2 (d.toList.map aK)] (λr s=>r=.bj []/\s=[.cells 112 2 ((Go.Sort.insertionSort (Ξ cmp) d a b).toList.map aK)]) (λ_ _=>False):=by
 refine af.body Φ Tryz.func234 rfl rfl Tryz.ntmps234 rfl rfl η ?_;refine Η ?_;have lb:=eY (show a+1<2 ^ 62 by omega);refine W.iter (λq:Nat×Array (Int×Int)=>q.2.size=n/\Go.Sort.insOuter (Ξ cmp) a b q.1 q.2=Go.Sort.insertionSort (Ξ cmp) d a b) (λq=>[(0,.ms 0 n 0 n),(1,I a),(2,I b),(3,Ο),(8,I q.1)]) (λq=>[.cells 112 2 (q.2.toList.map aK)]) (λq=>b-q.1) (a+1,d) ⟨Θ,rfl⟩ rfl (by simpa using lb) (λq hi Α=>?_);obtain⟨i,e⟩:=q;obtain⟨U,γ⟩:=hi;simp only at U γ;refine Η ?_;by_cases ε:i<b
 ·refine aC (by simp[ε]) ?_;refine Η ?_;refine W.iter (λq:Nat×Array (Int×Int)=>q.2.size=n/\q.1<=i/\Go.Sort.insInner (Ξ cmp) a q.1 q.2=Go.Sort.insInner (Ξ cmp) a i e) (λq=>[(0,.ms 0 n 0 n),(1,I a),(2,I b),(3,Ο),(8,I i),(9,I q.1)]) (λq=>[.cells 112 2 (q.2.toList.map aK)]) (λq=>q.1) (i,e) ⟨U,Nat.le_refl _,rfl⟩ rfl η (λq ζ fL=>?_);obtain⟨j,f⟩:=q;obtain⟨aa,ai,aZ⟩:=ζ;simp only at aa ai aZ;have go:Go.Sort.insInner (Ξ cmp) a j f=f->Go.Sort.insOuter (Ξ cmp) a b (i+1) f=Go.Sort.insertionSort (Ξ cmp) d a b:=λhd=>by
   rw[<-γ,<-hd,aZ];conv=>rhs;rw[Go.Sort.insOuter,if_pos ε]
  obtain⟨L,ad⟩:=aF (f.toList.map aK);have hc:L.length=n:=by rw[ad];simpa using aa
  refine W.to (σ':=[.cells 112 2 L]) (env':=[(0,.ms 0 n 0 n),(1,I a),(2,I b),(3,Ο),(8,I i),(9,I j)]) ?_ (by rw[ad]) η
  repeat apply ae
  by_cases ζ:a<j
  ·obtain⟨p,ω⟩:∃p,j=p+1:=⟨j-1,J⟩;have lf:IntKind.i64.wrap ((j:Int)-1)=(p:Int):=by have:=eY (show p<2 ^ 62 by omega);rw[ω];simpa using this
   have aN:j<n:=J
   have lg:p<n:=J
   have xf:¬j=p:=J;obtain⟨x,δ⟩:=aF (f[j]!);obtain⟨y,Μ⟩:=aF (f[p]!);have nH:L[j]?=some (aK x):=by rw[ad,δ,List.getElem?_map,Array.getElem?_toList,pf J];rfl
   have ky:L[p]?=some (aK y):=by rw[ad,Μ,List.getElem?_map,Array.getElem?_toList,pf J];rfl
   have q2:∀h:j<L.length,L[j]=aK x:=λh=>by have:=nH;rw[a6 h] at this;exact Option.some.inj this
   have q3:∀h:p<L.length,L[p]=aK y:=λh=>by have:=ky;rw[a6 h] at this;exact Option.some.inj this
   have un:Go.Sort.insInner (Ξ cmp) a j f=if Ξ cmp x y=true then Go.Sort.insInner (Ξ cmp) a p (Go.Sort.swp f j p) else f:=by
    subst ω;rw[Go.Sort.insInner,δ,Μ];simp[ζ]
   have j3:(Go.Sort.swp f j p).toList.map aK=(L.set j (aK y)).set p (aK x):=by rw[ad,δ,Μ];simp[Go.Sort.swp]
   have xg:(Go.Sort.swp f j p).size=n:=by simp[Go.Sort.swp,aa]
   have xh:=ad;clear δ Μ;refine W.draw (A:=[]) Φ mixed λΚ κ=>gi (ς ζ (ς lf (ς hc (ς aN (ς lg (ς nH (ς ky (ς q2 q3)))))))) ?_;refine eD (Ρ x y) ?_;simp;(repeat (rw[cY];simp));try rw[cX]
   refine en (κ _ _ ?_);by_cases hm:cmp x y<0
   ·refine aC (by simp[hm]) ?_
    repeat apply ae
    refine dH (ς ζ (ς lf (ς hc (ς aN (ς lg (ς nH (ς ky (ς q2 (ς q3 xf))))))))) ?_;refine Η ?_;refine W.to (fL (p,Go.Sort.swp f j p) ⟨xg,by simp;omega,?_⟩ (by simp;omega)) ?_ ?_
    ·rw[<-aZ,un,if_pos (by simp[Ξ,Go.Sort.ltInt,hm])]
    ·rw[j3]
    ·simp[lf]
   ·refine ay (by simp[hm]) ?_;refine W.exit rfl ?_;refine Η ?_;refine W.to (Α (i+1,f) ⟨aa,go (by rw[un,if_neg (by simp[Ξ,Go.Sort.ltInt,hm])])⟩ (by simp;omega)) (by rw[xh]) ?_;have:=eY (show i+1<2 ^ 62 by omega);simpa using this
  ·have un:Go.Sort.insInner (Ξ cmp) a j f=f:=by
    cases j with
    | zero=>rfl
    | succ p=>rw[Go.Sort.insInner];simp[ζ]
   refine dH ζ ?_;refine ay rfl ?_;refine W.exit rfl ?_;refine Η ?_;refine W.to (Α (i+1,f) ⟨aa,go un⟩ (by simp;omega)) (by rw[ad]) ?_;have:=eY (show i+1<2 ^ 62 by omega);simpa using this
 ·refine ay (by simp[ε]) ?_;refine W.exit rfl ?_;have Ε:Go.Sort.insOuter (Ξ cmp) a b i e=e:=by rw[Go.Sort.insOuter,if_neg ε]
  exact W.nil ⟨_,rfl,rfl,by rw[<-γ,Ε]⟩
theorem X0 (d:Array (Found)) (n a b:Nat) (Θ:d.size=n) (ν:a<=b) (hb:b<=n) (ξ:n<2 ^ 40) (Ο:θ) (cmp:Found->Found->Int) (a9:aG 0 Ο) (Ρ:∀x y,ef Tryz.prog Ο [du x,du y] (I (cmp x y))) :
  af Tryz.prog 217 [.ms 0 n 0 n,I a,I b,Ο] [.cells 110 3 (d.toList.map du)] (λr s=>r=.bj []/\s=[.cells 110 3 ((Go.Sort.insertionSort (Ξ cmp) d a b).toList.map du)]) (λ_ _=>False):=by
 refine af.body Φ Tryz.func217 rfl rfl Tryz.ntmps217 rfl rfl η ?_;refine Η ?_;have lb:=eY (show a+1<2 ^ 62 by omega);refine W.iter (λq:Nat×Array (Found)=>q.2.size=n/\Go.Sort.insOuter (Ξ cmp) a b q.1 q.2=Go.Sort.insertionSort (Ξ cmp) d a b) (λq=>[(0,.ms 0 n 0 n),(1,I a),(2,I b),(3,Ο),(8,I q.1)]) (λq=>[.cells 110 3 (q.2.toList.map du)]) (λq=>b-q.1) (a+1,d) ⟨Θ,rfl⟩ rfl (by simpa using lb) (λq hi Α=>?_);obtain⟨i,e⟩:=q;obtain⟨U,γ⟩:=hi;simp only at U γ;refine Η ?_;by_cases ε:i<b
 ·refine aC (by simp[ε]) ?_;refine Η ?_;refine W.iter (λq:Nat×Array (Found)=>q.2.size=n/\q.1<=i/\Go.Sort.insInner (Ξ cmp) a q.1 q.2=Go.Sort.insInner (Ξ cmp) a i e) (λq=>[(0,.ms 0 n 0 n),(1,I a),(2,I b),(3,Ο),(8,I i),(9,I q.1)]) (λq=>[.cells 110 3 (q.2.toList.map du)]) (λq=>q.1) (i,e) ⟨U,Nat.le_refl _,rfl⟩ rfl η (λq ζ fL=>?_);obtain⟨j,f⟩:=q;obtain⟨aa,ai,aZ⟩:=ζ;simp only at aa ai aZ;have go:Go.Sort.insInner (Ξ cmp) a j f=f->Go.Sort.insOuter (Ξ cmp) a b (i+1) f=Go.Sort.insertionSort (Ξ cmp) d a b:=λhd=>by
   rw[<-γ,<-hd,aZ];conv=>rhs;rw[Go.Sort.insOuter,if_pos ε]
  obtain⟨L,ad⟩:=aF (f.toList.map du);have hc:L.length=n:=by rw[ad];simpa using aa
  refine W.to (σ':=[.cells 110 3 L]) (env':=[(0,.ms 0 n 0 n),(1,I a),(2,I b),(3,Ο),(8,I i),(9,I j)]) ?_ (by rw[ad]) η
  repeat apply ae
  by_cases ζ:a<j
  ·obtain⟨p,ω⟩:∃p,j=p+1:=⟨j-1,J⟩;have lf:IntKind.i64.wrap ((j:Int)-1)=(p:Int):=by have:=eY (show p<2 ^ 62 by omega);rw[ω];simpa using this
   have aN:j<n:=J
   have lg:p<n:=J
   have xf:¬j=p:=J;obtain⟨x,δ⟩:=aF (f[j]!);obtain⟨y,Μ⟩:=aF (f[p]!);have nH:L[j]?=some (du x):=by rw[ad,δ,List.getElem?_map,Array.getElem?_toList,pf J];rfl
   have ky:L[p]?=some (du y):=by rw[ad,Μ,List.getElem?_map,Array.getElem?_toList,pf J];rfl
   have q2:∀h:j<L.length,L[j]=du x:=λh=>by have:=nH;rw[a6 h] at this;exact Option.some.inj this
   have q3:∀h:p<L.length,L[p]=du y:=λh=>by have:=ky;rw[a6 h] at this;exact Option.some.inj this
   have un:Go.Sort.insInner (Ξ cmp) a j f=if Ξ cmp x y=true then Go.Sort.insInner (Ξ cmp) a p (Go.Sort.swp f j p) else f:=by
    subst ω;rw[Go.Sort.insInner,δ,Μ];simp[ζ]
   have j3:(Go.Sort.swp f j p).toList.map du=(L.set j (du y)).set p (du x):=by rw[ad,δ,Μ];simp[Go.Sort.swp]
   have xg:(Go.Sort.swp f j p).size=n:=by simp[Go.Sort.swp,aa]
   have xh:=ad;clear δ Μ;refine W.draw (A:=[]) Φ mixed λΚ κ=>gi (ς ζ (ς lf (ς hc (ς aN (ς lg (ς nH (ς ky (ς q2 q3)))))))) ?_;refine eD (Ρ x y) ?_;simp;(repeat (rw[cY];simp));try rw[cX]
   refine en (κ _ _ ?_);by_cases hm:cmp x y<0
   ·refine aC (by simp[hm]) ?_
    repeat apply ae
    refine dH (ς ζ (ς lf (ς hc (ς aN (ς lg (ς nH (ς ky (ς q2 (ς q3 xf))))))))) ?_;refine Η ?_;refine W.to (fL (p,Go.Sort.swp f j p) ⟨xg,by simp;omega,?_⟩ (by simp;omega)) ?_ ?_
    ·rw[<-aZ,un,if_pos (by simp[Ξ,Go.Sort.ltInt,hm])]
    ·rw[j3]
    ·simp[lf]
   ·refine ay (by simp[hm]) ?_;refine W.exit rfl ?_;refine Η ?_;refine W.to (Α (i+1,f) ⟨aa,go (by rw[un,if_neg (by simp[Ξ,Go.Sort.ltInt,hm])])⟩ (by simp;omega)) (by rw[xh]) ?_;have:=eY (show i+1<2 ^ 62 by omega);simpa using this
  ·have un:Go.Sort.insInner (Ξ cmp) a j f=f:=by
    cases j with
    | zero=>rfl
    | succ p=>rw[Go.Sort.insInner];simp[ζ]
   refine dH ζ ?_;refine ay rfl ?_;refine W.exit rfl ?_;refine Η ?_;refine W.to (Α (i+1,f) ⟨aa,go un⟩ (by simp;omega)) (by rw[ad]) ?_;have:=eY (show i+1<2 ^ 62 by omega);simpa using this
 ·refine ay (by simp[ε]) ?_;refine W.exit rfl ?_;have Ε:Go.Sort.insOuter (Ξ cmp) a b i e=e:=by rw[Go.Sort.insOuter,if_neg ε]
  exact W.nil ⟨_,rfl,rfl,by rw[<-γ,Ε]⟩
theorem X1 (d:Array (Int×Int)) (n a b:Nat) (Θ:d.size=n) (ν:a<=b) (hb:b<=n) (ξ:n<2 ^ 40) (Ο:θ) (cmp:Int×Int->Int×Int->Int) (a9:aG 0 Ο) (Ρ:∀x y,ef Tryz.prog Ο [aL x,aL y] (I (cmp x y))) :
  af Tryz.prog 183 [.ms 0 n 0 n,I a,I b,Ο] [.cells 29 1 (d.toList.map aL)] (λr s=>r=.bj []/\s=[.cells 29 1 ((Go.Sort.insertionSort (Ξ cmp) d a b).toList.map aL)]) (λ_ _=>False):=by
 refine af.body Φ Tryz.func183 rfl rfl Tryz.ntmps183 rfl rfl η ?_;refine Η ?_;have lb:=eY (show a+1<2 ^ 62 by omega);refine W.iter (λq:Nat×Array (Int×Int)=>q.2.size=n/\Go.Sort.insOuter (Ξ cmp) a b q.1 q.2=Go.Sort.insertionSort (Ξ cmp) d a b) (λq=>[(0,.ms 0 n 0 n),(1,I a),(2,I b),(3,Ο),(8,I q.1)]) (λq=>[.cells 29 1 (q.2.toList.map aL)]) (λq=>b-q.1) (a+1,d) ⟨Θ,rfl⟩ rfl (by simpa using lb) (λq hi Α=>?_);obtain⟨i,e⟩:=q;obtain⟨U,γ⟩:=hi;simp only at U γ;refine Η ?_;by_cases ε:i<b
 ·refine aC (by simp[ε]) ?_;refine Η ?_;refine W.iter (λq:Nat×Array (Int×Int)=>q.2.size=n/\q.1<=i/\Go.Sort.insInner (Ξ cmp) a q.1 q.2=Go.Sort.insInner (Ξ cmp) a i e) (λq=>[(0,.ms 0 n 0 n),(1,I a),(2,I b),(3,Ο),(8,I i),(9,I q.1)]) (λq=>[.cells 29 1 (q.2.toList.map aL)]) (λq=>q.1) (i,e) ⟨U,Nat.le_refl _,rfl⟩ rfl η (λq ζ fL=>?_);obtain⟨j,f⟩:=q;obtain⟨aa,ai,aZ⟩:=ζ;simp only at aa ai aZ;have go:Go.Sort.insInner (Ξ cmp) a j f=f->Go.Sort.insOuter (Ξ cmp) a b (i+1) f=Go.Sort.insertionSort (Ξ cmp) d a b:=λhd=>by
   rw[<-γ,<-hd,aZ];conv=>rhs;rw[Go.Sort.insOuter,if_pos ε]
  obtain⟨L,ad⟩:=aF (f.toList.map aL);have hc:L.length=n:=by rw[ad];simpa using aa
  refine W.to (σ':=[.cells 29 1 L]) (env':=[(0,.ms 0 n 0 n),(1,I a),(2,I b),(3,Ο),(8,I i),(9,I j)]) ?_ (by rw[ad]) η
  repeat apply ae
  by_cases ζ:a<j
  ·obtain⟨p,ω⟩:∃p,j=p+1:=⟨j-1,J⟩;have lf:IntKind.i64.wrap ((j:Int)-1)=(p:Int):=by have:=eY (show p<2 ^ 62 by omega);rw[ω];simpa using this
   have aN:j<n:=J
   have lg:p<n:=J
   have xf:¬j=p:=J;obtain⟨x,δ⟩:=aF (f[j]!);obtain⟨y,Μ⟩:=aF (f[p]!);have nH:L[j]?=some (aL x):=by rw[ad,δ,List.getElem?_map,Array.getElem?_toList,pf J];rfl
   have ky:L[p]?=some (aL y):=by rw[ad,Μ,List.getElem?_map,Array.getElem?_toList,pf J];rfl
   have q2:∀h:j<L.length,L[j]=aL x:=λh=>by have:=nH;rw[a6 h] at this;exact Option.some.inj this
   have q3:∀h:p<L.length,L[p]=aL y:=λh=>by have:=ky;rw[a6 h] at this;exact Option.some.inj this
   have un:Go.Sort.insInner (Ξ cmp) a j f=if Ξ cmp x y=true then Go.Sort.insInner (Ξ cmp) a p (Go.Sort.swp f j p) else f:=by
    subst ω;rw[Go.Sort.insInner,δ,Μ];simp[ζ]
   have j3:(Go.Sort.swp f j p).toList.map aL=(L.set j (aL y)).set p (aL x):=by rw[ad,δ,Μ];simp[Go.Sort.swp]
   have xg:(Go.Sort.swp f j p).size=n:=by simp[Go.Sort.swp,aa]
   have xh:=ad;clear δ Μ;refine W.draw (A:=[]) Φ mixed λΚ κ=>gi (ς ζ (ς lf (ς hc (ς aN (ς lg (ς nH (ς ky (ς q2 q3)))))))) ?_;refine eD (Ρ x y) ?_;simp;(repeat (rw[cY];simp));try rw[cX]
   refine en (κ _ _ ?_);by_cases hm:cmp x y<0
   ·refine aC (by simp[hm]) ?_
    repeat apply ae
    refine dH (ς ζ (ς lf (ς hc (ς aN (ς lg (ς nH (ς ky (ς q2 (ς q3 xf))))))))) ?_;refine Η ?_;refine W.to (fL (p,Go.Sort.swp f j p) ⟨xg,by simp;omega,?_⟩ (by simp;omega)) ?_ ?_
    ·rw[<-aZ,un,if_pos (by simp[Ξ,Go.Sort.ltInt,hm])]
    ·rw[j3]
    ·simp[lf]
   ·refine ay (by simp[hm]) ?_;refine W.exit rfl ?_;refine Η ?_;refine W.to (Α (i+1,f) ⟨aa,go (by rw[un,if_neg (by simp[Ξ,Go.Sort.ltInt,hm])])⟩ (by simp;omega)) (by rw[xh]) ?_;have:=eY (show i+1<2 ^ 62 by omega);simpa using this
  ·have un:Go.Sort.insInner (Ξ cmp) a j f=f:=by
    cases j with
    | zero=>rfl
    | succ p=>rw[Go.Sort.insInner];simp[ζ]
   refine dH ζ ?_;refine ay rfl ?_;refine W.exit rfl ?_;refine Η ?_;refine W.to (Α (i+1,f) ⟨aa,go un⟩ (by simp;omega)) (by rw[ad]) ?_;have:=eY (show i+1<2 ^ 62 by omega);simpa using this
 ·refine ay (by simp[ε]) ?_;refine W.exit rfl ?_;have Ε:Go.Sort.insOuter (Ξ cmp) a b i e=e:=by rw[Go.Sort.insOuter,if_neg ε]
  exact W.nil ⟨_,rfl,rfl,by rw[<-γ,Ε]⟩
theorem X2 (d:Array (Int)) (n a b:Nat) (Θ:d.size=n) (ν:a<=b) (hb:b<=n) (ξ:n<2 ^ 40)  :
  af Tryz.prog 197 [.ms 0 n 0 n,I a,I b] [.cells 3 1 (d.toList.map I)] (λr s=>r=.bj []/\s=[.cells 3 1 ((Go.Sort.insertionSort (Go.Sort.ltInt) d a b).toList.map I)]) (λ_ _=>False):=by
 refine af.body Φ Tryz.func197 rfl rfl Tryz.ntmps197 rfl rfl η ?_;refine Η ?_;have lb:=eY (show a+1<2 ^ 62 by omega);refine W.iter (λq:Nat×Array (Int)=>q.2.size=n/\Go.Sort.insOuter (Go.Sort.ltInt) a b q.1 q.2=Go.Sort.insertionSort (Go.Sort.ltInt) d a b) (λq=>[(0,.ms 0 n 0 n),(1,I a),(2,I b),(6,I q.1)]) (λq=>[.cells 3 1 (q.2.toList.map I)]) (λq=>b-q.1) (a+1,d) ⟨Θ,rfl⟩ rfl (by simpa using lb) (λq hi Α=>?_);obtain⟨i,e⟩:=q;obtain⟨U,γ⟩:=hi;simp only at U γ;refine Η ?_;by_cases ε:i<b
 ·refine aC (by simp[ε]) ?_;refine Η ?_;refine W.iter (λq:Nat×Array (Int)=>q.2.size=n/\q.1<=i/\Go.Sort.insInner (Go.Sort.ltInt) a q.1 q.2=Go.Sort.insInner (Go.Sort.ltInt) a i e) (λq=>[(0,.ms 0 n 0 n),(1,I a),(2,I b),(6,I i),(7,I q.1)]) (λq=>[.cells 3 1 (q.2.toList.map I)]) (λq=>q.1) (i,e) ⟨U,Nat.le_refl _,rfl⟩ rfl η (λq ζ fL=>?_);obtain⟨j,f⟩:=q;obtain⟨aa,ai,aZ⟩:=ζ;simp only at aa ai aZ;have go:Go.Sort.insInner (Go.Sort.ltInt) a j f=f->Go.Sort.insOuter (Go.Sort.ltInt) a b (i+1) f=Go.Sort.insertionSort (Go.Sort.ltInt) d a b:=λhd=>by
   rw[<-γ,<-hd,aZ];conv=>rhs;rw[Go.Sort.insOuter,if_pos ε]
  obtain⟨L,ad⟩:=aF (f.toList.map I);have hc:L.length=n:=by rw[ad];simpa using aa
  refine W.to (σ':=[.cells 3 1 L]) (env':=[(0,.ms 0 n 0 n),(1,I a),(2,I b),(6,I i),(7,I j)]) ?_ (by rw[ad]) η
  repeat apply ae
  by_cases ζ:a<j
  ·obtain⟨p,ω⟩:∃p,j=p+1:=⟨j-1,J⟩;have lf:IntKind.i64.wrap ((j:Int)-1)=(p:Int):=by have:=eY (show p<2 ^ 62 by omega);rw[ω];simpa using this
   have aN:j<n:=J
   have lg:p<n:=J
   have xf:¬j=p:=J;obtain⟨x,δ⟩:=aF (f[j]!);obtain⟨y,Μ⟩:=aF (f[p]!);have nH:L[j]?=some (I x):=by rw[ad,δ,List.getElem?_map,Array.getElem?_toList,pf J];rfl
   have ky:L[p]?=some (I y):=by rw[ad,Μ,List.getElem?_map,Array.getElem?_toList,pf J];rfl
   have q2:∀h:j<L.length,L[j]=I x:=λh=>by have:=nH;rw[a6 h] at this;exact Option.some.inj this
   have q3:∀h:p<L.length,L[p]=I y:=λh=>by have:=ky;rw[a6 h] at this;exact Option.some.inj this
   have un:Go.Sort.insInner (Go.Sort.ltInt) a j f=if Go.Sort.ltInt x y=true then Go.Sort.insInner (Go.Sort.ltInt) a p (Go.Sort.swp f j p) else f:=by
    subst ω;rw[Go.Sort.insInner,δ,Μ];simp[ζ]
   have j3:(Go.Sort.swp f j p).toList.map I=(L.set j (I y)).set p (I x):=by rw[ad,δ,Μ];simp[Go.Sort.swp]
   have xg:(Go.Sort.swp f j p).size=n:=by simp[Go.Sort.swp,aa]
   have xh:=ad;clear δ Μ;refine W.draw (A:=[]) Φ mixed λΚ κ=>gi (ς ζ (ς lf (ς hc (ς aN (ς lg (ς nH (ς ky (ς q2 q3)))))))) ?_;refine eD (aB.p (XY x y) (b2.refl _) η η) ?_;simp;(repeat (rw[cY];simp));try rw[cX]
   refine en (κ _ _ ?_);by_cases hm:x<y
   ·refine aC (by simp[hm]) ?_
    repeat apply ae
    refine dH (ς ζ (ς lf (ς hc (ς aN (ς lg (ς nH (ς ky (ς q2 (ς q3 xf))))))))) ?_;refine Η ?_;refine W.to (fL (p,Go.Sort.swp f j p) ⟨xg,by simp;omega,?_⟩ (by simp;omega)) ?_ ?_
    ·rw[<-aZ,un,if_pos (by simp[Ξ,Go.Sort.ltInt,hm])]
    ·rw[j3]
    ·simp[lf]
   ·refine ay (by simp[hm]) ?_;refine W.exit rfl ?_;refine Η ?_;refine W.to (Α (i+1,f) ⟨aa,go (by rw[un,if_neg (by simp[Ξ,Go.Sort.ltInt,hm])])⟩ (by simp;omega)) (by rw[xh]) ?_;have:=eY (show i+1<2 ^ 62 by omega);simpa using this
  ·have un:Go.Sort.insInner (Go.Sort.ltInt) a j f=f:=by
    cases j with
    | zero=>rfl
    | succ p=>rw[Go.Sort.insInner];simp[ζ]
   refine dH ζ ?_;refine ay rfl ?_;refine W.exit rfl ?_;refine Η ?_;refine W.to (Α (i+1,f) ⟨aa,go un⟩ (by simp;omega)) (by rw[ad]) ?_;have:=eY (show i+1<2 ^ 62 by omega);simpa using this
 ·refine ay (by simp[ε]) ?_;refine W.exit rfl ?_;have Ε:Go.Sort.insOuter (Go.Sort.ltInt) a b i e=e:=by rw[Go.Sort.insOuter,if_neg ε]
  exact W.nil ⟨_,rfl,rfl,by rw[<-γ,Ε]⟩
end Go.TL
