import Derived.Test.YtlabjopijpkiaaaGreatDAN
set_option maxHeartbeats 16000000
set_option maxRecDepth 20000
set_option linter.unusedSectionVars false
set_option linter.unusedSimpArgs false
set_option linter.unusedVariables false
namespace Go.TL
open Go.Proofs
variable [bj]
instance:Inhabited Found:=⟨⟨0,0,[]⟩⟩
abbrev cN (r:Int×Int):θ:=.sl true 1 [J r.1,J r.2]
theorem MU (d:Array (Int×Int)) (n a b:Nat) (Ε:d.size=n) (κ:a<=b) (hb:b<=n) (μ:n<2 ^ 40) (ag:θ) (cmp:Int×Int->Int×Int->Int) (bu:aK 0 ag) (Υ:∀x y,eW Tryz.prog ag [aC x,aC y] (J (cmp x y))) :
  ak Tryz.prog 234 [.ms 0 n 0 n,J a,J b,ag] [.cells 112 2 (d.toList.map aC)] (λr s=>r=.a3 []/\s=[.cells 112 2 ((Go.Sort.insertionSort (ar cmp) d a b).toList.map aC)]) (λ_ _=>False):=by
 refine ak.body Ρ Tryz.func234 rfl rfl Tryz.ntmps234 rfl rfl η ?_;refine Β ?_;have kX:=et (show a+1<2 ^ 62 by omega);refine W.iter (λq:Nat×Array (Int×Int)=>q.2.size=n/\Go.Sort.insOuter (ar cmp) a b q.1 q.2=Go.Sort.insertionSort (ar cmp) d a b) (λq=>[(0,.ms 0 n 0 n),(1,J a),(2,J b),(3,ag),(8,J q.1)]) (λq=>[.cells 112 2 (q.2.toList.map aC)]) (λq=>b-q.1) (a+1,d) ⟨Ε,rfl⟩ rfl (by simpa using kX) (λq hi ω=>?_);obtain⟨i,e⟩:=q;obtain⟨I,R⟩:=hi;simp only at I R;refine Β ?_;by_cases ε:i<b
 ·refine aA (by simp[ε]) ?_;refine Β ?_;refine W.iter (λq:Nat×Array (Int×Int)=>q.2.size=n/\q.1<=i/\Go.Sort.insInner (ar cmp) a q.1 q.2=Go.Sort.insInner (ar cmp) a i e) (λq=>[(0,.ms 0 n 0 n),(1,J a),(2,J b),(3,ag),(8,J i),(9,J q.1)]) (λq=>[.cells 112 2 (q.2.toList.map aC)]) (λq=>q.1) (i,e) ⟨I,Nat.le_refl _,rfl⟩ rfl η (λq δ e6=>?_);obtain⟨j,f⟩:=q;obtain⟨Ξ,ah,aR⟩:=δ;simp only at Ξ ah aR;have go:Go.Sort.insInner (ar cmp) a j f=f->Go.Sort.insOuter (ar cmp) a b (i+1) f=Go.Sort.insertionSort (ar cmp) d a b:=λhd=>by
   rw[<-R,<-hd,aR];conv=>rhs;rw[Go.Sort.insOuter,if_pos ε]
  obtain⟨L,av⟩:=aO (f.toList.map aC);have h1:L.length=n:=by rw[av];simpa using Ξ
  refine W.to (σ':=[.cells 112 2 L]) (env':=[(0,.ms 0 n 0 n),(1,J a),(2,J b),(3,ag),(8,J i),(9,J j)]) ?_ (by rw[av]) η
  repeat apply al
  by_cases δ:a<j
  ·obtain⟨p,ς⟩:∃p,j=p+1:=⟨j-1,γ⟩;have ki:IntKind.i64.wrap ((j:Int)-1)=(p:Int):=by have:=et (show p<2 ^ 62 by omega);rw[ς];simpa using this
   have aI:j<n:=γ
   have ml:p<n:=γ
   have vo:¬j=p:=γ;obtain⟨x,U⟩:=aO (f[j]!);obtain⟨y,Φ⟩:=aO (f[p]!);have mm:L[j]?=some (aC x):=by rw[av,U,List.getElem?_map,Array.getElem?_toList,pS γ];rfl
   have jB:L[p]?=some (aC y):=by rw[av,Φ,List.getElem?_map,Array.getElem?_toList,pS γ];rfl
   have pT:∀h:j<L.length,L[j]=aC x:=λh=>by have:=mm;rw[ba h] at this;exact Option.some.inj this
   have pU:∀h:p<L.length,L[p]=aC y:=λh=>by have:=jB;rw[ba h] at this;exact Option.some.inj this
   have un:Go.Sort.insInner (ar cmp) a j f=if ar cmp x y=true then Go.Sort.insInner (ar cmp) a p (Go.Sort.swp f j p) else f:=by
    subst ς;rw[Go.Sort.insInner,U,Φ];simp[δ]
   have mo:(Go.Sort.swp f j p).toList.map aC=(L.set j (aC y)).set p (aC x):=by rw[av,U,Φ];simp[Go.Sort.swp]
   have vp:(Go.Sort.swp f j p).size=n:=by simp[Go.Sort.swp,Ξ]
   have vq:=av;clear U Φ;refine W.draw (A:=[]) Ρ mixed λΔ ζ=>mj (Ζ δ (Ζ ki (Ζ h1 (Ζ aI (Ζ ml (Ζ mm (Ζ jB (Ζ pT pU)))))))) ?_;refine eS (Υ x y) ?_;simp;(repeat (rw[dZ];simp[]));try rw[dY]
   refine fC (ζ _ _ ?_);by_cases hm:cmp x y<0
   ·refine aA (by simp[hm]) ?_
    repeat apply al
    refine fD (Ζ δ (Ζ ki (Ζ h1 (Ζ aI (Ζ ml (Ζ mm (Ζ jB (Ζ pT (Ζ pU vo))))))))) ?_;refine Β ?_;refine W.to (e6 (p,Go.Sort.swp f j p) ⟨vp,by simp;omega,?_⟩ (by simp;omega)) ?_ ?_
    ·rw[<-aR,un,if_pos (by simp[ar,Go.Sort.ltInt,hm])]
    ·rw[mo]
    ·simp[ki]
   ·refine ay (by simp[hm]) ?_;refine W.exit rfl ?_;refine Β ?_;refine W.to (ω (i+1,f) ⟨Ξ,go (by rw[un,if_neg (by simp[ar,Go.Sort.ltInt,hm])])⟩ (by simp;omega)) (by rw[vq]) ?_;have:=et (show i+1<2 ^ 62 by omega);simpa using this
  ·have un:Go.Sort.insInner (ar cmp) a j f=f:=by
    cases j with
    | zero=>rfl
    | succ p=>rw[Go.Sort.insInner];simp[δ]
   refine fD δ ?_;refine ay rfl ?_;refine W.exit rfl ?_;refine Β ?_;refine W.to (ω (i+1,f) ⟨Ξ,go un⟩ (by simp;omega)) (by rw[av]) ?_;have:=et (show i+1<2 ^ 62 by omega);simpa using this
 ·refine ay (by simp[ε]) ?_;refine W.exit rfl ?_;have Θ:Go.Sort.insOuter (ar cmp) a b i e=e:=by rw[Go.Sort.insOuter,if_neg ε]
  exact W.nil ⟨_,rfl,rfl,by rw[<-R,Θ]⟩
theorem Vz (d:Array (Found)) (n a b:Nat) (Ε:d.size=n) (κ:a<=b) (hb:b<=n) (μ:n<2 ^ 40) (ag:θ) (cmp:Found->Found->Int) (bu:aK 0 ag) (Υ:∀x y,eW Tryz.prog ag [dd x,dd y] (J (cmp x y))) :
  ak Tryz.prog 217 [.ms 0 n 0 n,J a,J b,ag] [.cells 110 3 (d.toList.map dd)] (λr s=>r=.a3 []/\s=[.cells 110 3 ((Go.Sort.insertionSort (ar cmp) d a b).toList.map dd)]) (λ_ _=>False):=by
 refine ak.body Ρ Tryz.func217 rfl rfl Tryz.ntmps217 rfl rfl η ?_;refine Β ?_;have kX:=et (show a+1<2 ^ 62 by omega);refine W.iter (λq:Nat×Array (Found)=>q.2.size=n/\Go.Sort.insOuter (ar cmp) a b q.1 q.2=Go.Sort.insertionSort (ar cmp) d a b) (λq=>[(0,.ms 0 n 0 n),(1,J a),(2,J b),(3,ag),(8,J q.1)]) (λq=>[.cells 110 3 (q.2.toList.map dd)]) (λq=>b-q.1) (a+1,d) ⟨Ε,rfl⟩ rfl (by simpa using kX) (λq hi ω=>?_);obtain⟨i,e⟩:=q;obtain⟨I,R⟩:=hi;simp only at I R;refine Β ?_;by_cases ε:i<b
 ·refine aA (by simp[ε]) ?_;refine Β ?_;refine W.iter (λq:Nat×Array (Found)=>q.2.size=n/\q.1<=i/\Go.Sort.insInner (ar cmp) a q.1 q.2=Go.Sort.insInner (ar cmp) a i e) (λq=>[(0,.ms 0 n 0 n),(1,J a),(2,J b),(3,ag),(8,J i),(9,J q.1)]) (λq=>[.cells 110 3 (q.2.toList.map dd)]) (λq=>q.1) (i,e) ⟨I,Nat.le_refl _,rfl⟩ rfl η (λq δ e6=>?_);obtain⟨j,f⟩:=q;obtain⟨Ξ,ah,aR⟩:=δ;simp only at Ξ ah aR;have go:Go.Sort.insInner (ar cmp) a j f=f->Go.Sort.insOuter (ar cmp) a b (i+1) f=Go.Sort.insertionSort (ar cmp) d a b:=λhd=>by
   rw[<-R,<-hd,aR];conv=>rhs;rw[Go.Sort.insOuter,if_pos ε]
  obtain⟨L,av⟩:=aO (f.toList.map dd);have h1:L.length=n:=by rw[av];simpa using Ξ
  refine W.to (σ':=[.cells 110 3 L]) (env':=[(0,.ms 0 n 0 n),(1,J a),(2,J b),(3,ag),(8,J i),(9,J j)]) ?_ (by rw[av]) η
  repeat apply al
  by_cases δ:a<j
  ·obtain⟨p,ς⟩:∃p,j=p+1:=⟨j-1,γ⟩;have ki:IntKind.i64.wrap ((j:Int)-1)=(p:Int):=by have:=et (show p<2 ^ 62 by omega);rw[ς];simpa using this
   have aI:j<n:=γ
   have ml:p<n:=γ
   have vo:¬j=p:=γ;obtain⟨x,U⟩:=aO (f[j]!);obtain⟨y,Φ⟩:=aO (f[p]!);have mm:L[j]?=some (dd x):=by rw[av,U,List.getElem?_map,Array.getElem?_toList,pS γ];rfl
   have jB:L[p]?=some (dd y):=by rw[av,Φ,List.getElem?_map,Array.getElem?_toList,pS γ];rfl
   have pT:∀h:j<L.length,L[j]=dd x:=λh=>by have:=mm;rw[ba h] at this;exact Option.some.inj this
   have pU:∀h:p<L.length,L[p]=dd y:=λh=>by have:=jB;rw[ba h] at this;exact Option.some.inj this
   have un:Go.Sort.insInner (ar cmp) a j f=if ar cmp x y=true then Go.Sort.insInner (ar cmp) a p (Go.Sort.swp f j p) else f:=by
    subst ς;rw[Go.Sort.insInner,U,Φ];simp[δ]
   have mo:(Go.Sort.swp f j p).toList.map dd=(L.set j (dd y)).set p (dd x):=by rw[av,U,Φ];simp[Go.Sort.swp]
   have vp:(Go.Sort.swp f j p).size=n:=by simp[Go.Sort.swp,Ξ]
   have vq:=av;clear U Φ;refine W.draw (A:=[]) Ρ mixed λΔ ζ=>mj (Ζ δ (Ζ ki (Ζ h1 (Ζ aI (Ζ ml (Ζ mm (Ζ jB (Ζ pT pU)))))))) ?_;refine eS (Υ x y) ?_;simp;(repeat (rw[dZ];simp[]));try rw[dY]
   refine fC (ζ _ _ ?_);by_cases hm:cmp x y<0
   ·refine aA (by simp[hm]) ?_
    repeat apply al
    refine fD (Ζ δ (Ζ ki (Ζ h1 (Ζ aI (Ζ ml (Ζ mm (Ζ jB (Ζ pT (Ζ pU vo))))))))) ?_;refine Β ?_;refine W.to (e6 (p,Go.Sort.swp f j p) ⟨vp,by simp;omega,?_⟩ (by simp;omega)) ?_ ?_
    ·rw[<-aR,un,if_pos (by simp[ar,Go.Sort.ltInt,hm])]
    ·rw[mo]
    ·simp[ki]
   ·refine ay (by simp[hm]) ?_;refine W.exit rfl ?_;refine Β ?_;refine W.to (ω (i+1,f) ⟨Ξ,go (by rw[un,if_neg (by simp[ar,Go.Sort.ltInt,hm])])⟩ (by simp;omega)) (by rw[vq]) ?_;have:=et (show i+1<2 ^ 62 by omega);simpa using this
  ·have un:Go.Sort.insInner (ar cmp) a j f=f:=by
    cases j with
    | zero=>rfl
    | succ p=>rw[Go.Sort.insInner];simp[δ]
   refine fD δ ?_;refine ay rfl ?_;refine W.exit rfl ?_;refine Β ?_;refine W.to (ω (i+1,f) ⟨Ξ,go un⟩ (by simp;omega)) (by rw[av]) ?_;have:=et (show i+1<2 ^ 62 by omega);simpa using this
 ·refine ay (by simp[ε]) ?_;refine W.exit rfl ?_;have Θ:Go.Sort.insOuter (ar cmp) a b i e=e:=by rw[Go.Sort.insOuter,if_neg ε]
  exact W.nil ⟨_,rfl,rfl,by rw[<-R,Θ]⟩
theorem VA (d:Array (Int×Int)) (n a b:Nat) (Ε:d.size=n) (κ:a<=b) (hb:b<=n) (μ:n<2 ^ 40) (ag:θ) (cmp:Int×Int->Int×Int->Int) (bu:aK 0 ag) (Υ:∀x y,eW Tryz.prog ag [cN x,cN y] (J (cmp x y))) :
  ak Tryz.prog 183 [.ms 0 n 0 n,J a,J b,ag] [.cells 29 1 (d.toList.map cN)] (λr s=>r=.a3 []/\s=[.cells 29 1 ((Go.Sort.insertionSort (ar cmp) d a b).toList.map cN)]) (λ_ _=>False):=by
 refine ak.body Ρ Tryz.func183 rfl rfl Tryz.ntmps183 rfl rfl η ?_;refine Β ?_;have kX:=et (show a+1<2 ^ 62 by omega);refine W.iter (λq:Nat×Array (Int×Int)=>q.2.size=n/\Go.Sort.insOuter (ar cmp) a b q.1 q.2=Go.Sort.insertionSort (ar cmp) d a b) (λq=>[(0,.ms 0 n 0 n),(1,J a),(2,J b),(3,ag),(8,J q.1)]) (λq=>[.cells 29 1 (q.2.toList.map cN)]) (λq=>b-q.1) (a+1,d) ⟨Ε,rfl⟩ rfl (by simpa using kX) (λq hi ω=>?_);obtain⟨i,e⟩:=q;obtain⟨I,R⟩:=hi;simp only at I R;refine Β ?_;by_cases ε:i<b
 ·refine aA (by simp[ε]) ?_;refine Β ?_;refine W.iter (λq:Nat×Array (Int×Int)=>q.2.size=n/\q.1<=i/\Go.Sort.insInner (ar cmp) a q.1 q.2=Go.Sort.insInner (ar cmp) a i e) (λq=>[(0,.ms 0 n 0 n),(1,J a),(2,J b),(3,ag),(8,J i),(9,J q.1)]) (λq=>[.cells 29 1 (q.2.toList.map cN)]) (λq=>q.1) (i,e) ⟨I,Nat.le_refl _,rfl⟩ rfl η (λq δ e6=>?_);obtain⟨j,f⟩:=q;obtain⟨Ξ,ah,aR⟩:=δ;simp only at Ξ ah aR;have go:Go.Sort.insInner (ar cmp) a j f=f->Go.Sort.insOuter (ar cmp) a b (i+1) f=Go.Sort.insertionSort (ar cmp) d a b:=λhd=>by
   rw[<-R,<-hd,aR];conv=>rhs;rw[Go.Sort.insOuter,if_pos ε]
  obtain⟨L,av⟩:=aO (f.toList.map cN);have h1:L.length=n:=by rw[av];simpa using Ξ
  refine W.to (σ':=[.cells 29 1 L]) (env':=[(0,.ms 0 n 0 n),(1,J a),(2,J b),(3,ag),(8,J i),(9,J j)]) ?_ (by rw[av]) η
  repeat apply al
  by_cases δ:a<j
  ·obtain⟨p,ς⟩:∃p,j=p+1:=⟨j-1,γ⟩;have ki:IntKind.i64.wrap ((j:Int)-1)=(p:Int):=by have:=et (show p<2 ^ 62 by omega);rw[ς];simpa using this
   have aI:j<n:=γ
   have ml:p<n:=γ
   have vo:¬j=p:=γ;obtain⟨x,U⟩:=aO (f[j]!);obtain⟨y,Φ⟩:=aO (f[p]!);have mm:L[j]?=some (cN x):=by rw[av,U,List.getElem?_map,Array.getElem?_toList,pS γ];rfl
   have jB:L[p]?=some (cN y):=by rw[av,Φ,List.getElem?_map,Array.getElem?_toList,pS γ];rfl
   have pT:∀h:j<L.length,L[j]=cN x:=λh=>by have:=mm;rw[ba h] at this;exact Option.some.inj this
   have pU:∀h:p<L.length,L[p]=cN y:=λh=>by have:=jB;rw[ba h] at this;exact Option.some.inj this
   have un:Go.Sort.insInner (ar cmp) a j f=if ar cmp x y=true then Go.Sort.insInner (ar cmp) a p (Go.Sort.swp f j p) else f:=by
    subst ς;rw[Go.Sort.insInner,U,Φ];simp[δ]
   have mo:(Go.Sort.swp f j p).toList.map cN=(L.set j (cN y)).set p (cN x):=by rw[av,U,Φ];simp[Go.Sort.swp]
   have vp:(Go.Sort.swp f j p).size=n:=by simp[Go.Sort.swp,Ξ]
   have vq:=av;clear U Φ;refine W.draw (A:=[]) Ρ mixed λΔ ζ=>mj (Ζ δ (Ζ ki (Ζ h1 (Ζ aI (Ζ ml (Ζ mm (Ζ jB (Ζ pT pU)))))))) ?_;refine eS (Υ x y) ?_;simp;(repeat (rw[dZ];simp[]));try rw[dY]
   refine fC (ζ _ _ ?_);by_cases hm:cmp x y<0
   ·refine aA (by simp[hm]) ?_
    repeat apply al
    refine fD (Ζ δ (Ζ ki (Ζ h1 (Ζ aI (Ζ ml (Ζ mm (Ζ jB (Ζ pT (Ζ pU vo))))))))) ?_;refine Β ?_;refine W.to (e6 (p,Go.Sort.swp f j p) ⟨vp,by simp;omega,?_⟩ (by simp;omega)) ?_ ?_
    ·rw[<-aR,un,if_pos (by simp[ar,Go.Sort.ltInt,hm])]
    ·rw[mo]
    ·simp[ki]
   ·refine ay (by simp[hm]) ?_;refine W.exit rfl ?_;refine Β ?_;refine W.to (ω (i+1,f) ⟨Ξ,go (by rw[un,if_neg (by simp[ar,Go.Sort.ltInt,hm])])⟩ (by simp;omega)) (by rw[vq]) ?_;have:=et (show i+1<2 ^ 62 by omega);simpa using this
  ·have un:Go.Sort.insInner (ar cmp) a j f=f:=by
    cases j with
    | zero=>rfl
    | succ p=>rw[Go.Sort.insInner];simp[δ]
   refine fD δ ?_;refine ay rfl ?_;refine W.exit rfl ?_;refine Β ?_;refine W.to (ω (i+1,f) ⟨Ξ,go un⟩ (by simp;omega)) (by rw[av]) ?_;have:=et (show i+1<2 ^ 62 by omega);simpa using this
 ·refine ay (by simp[ε]) ?_;refine W.exit rfl ?_;have Θ:Go.Sort.insOuter (ar cmp) a b i e=e:=by rw[Go.Sort.insOuter,if_neg ε]
  exact W.nil ⟨_,rfl,rfl,by rw[<-R,Θ]⟩
theorem VB (d:Array (Int)) (n a b:Nat) (Ε:d.size=n) (κ:a<=b) (hb:b<=n) (μ:n<2 ^ 40)  :
  ak Tryz.prog 197 [.ms 0 n 0 n,J a,J b] [.cells 3 1 (d.toList.map J)] (λr s=>r=.a3 []/\s=[.cells 3 1 ((Go.Sort.insertionSort (Go.Sort.ltInt) d a b).toList.map J)]) (λ_ _=>False):=by
 refine ak.body Ρ Tryz.func197 rfl rfl Tryz.ntmps197 rfl rfl η ?_;refine Β ?_;have kX:=et (show a+1<2 ^ 62 by omega);refine W.iter (λq:Nat×Array (Int)=>q.2.size=n/\Go.Sort.insOuter (Go.Sort.ltInt) a b q.1 q.2=Go.Sort.insertionSort (Go.Sort.ltInt) d a b) (λq=>[(0,.ms 0 n 0 n),(1,J a),(2,J b),(6,J q.1)]) (λq=>[.cells 3 1 (q.2.toList.map J)]) (λq=>b-q.1) (a+1,d) ⟨Ε,rfl⟩ rfl (by simpa using kX) (λq hi ω=>?_);obtain⟨i,e⟩:=q;obtain⟨I,R⟩:=hi;simp only at I R;refine Β ?_;by_cases ε:i<b
 ·refine aA (by simp[ε]) ?_;refine Β ?_;refine W.iter (λq:Nat×Array (Int)=>q.2.size=n/\q.1<=i/\Go.Sort.insInner (Go.Sort.ltInt) a q.1 q.2=Go.Sort.insInner (Go.Sort.ltInt) a i e) (λq=>[(0,.ms 0 n 0 n),(1,J a),(2,J b),(6,J i),(7,J q.1)]) (λq=>[.cells 3 1 (q.2.toList.map J)]) (λq=>q.1) (i,e) ⟨I,Nat.le_refl _,rfl⟩ rfl η (λq δ e6=>?_);obtain⟨j,f⟩:=q;obtain⟨Ξ,ah,aR⟩:=δ;simp only at Ξ ah aR;have go:Go.Sort.insInner (Go.Sort.ltInt) a j f=f->Go.Sort.insOuter (Go.Sort.ltInt) a b (i+1) f=Go.Sort.insertionSort (Go.Sort.ltInt) d a b:=λhd=>by
   rw[<-R,<-hd,aR];conv=>rhs;rw[Go.Sort.insOuter,if_pos ε]
  obtain⟨L,av⟩:=aO (f.toList.map J);have h1:L.length=n:=by rw[av];simpa using Ξ
  refine W.to (σ':=[.cells 3 1 L]) (env':=[(0,.ms 0 n 0 n),(1,J a),(2,J b),(6,J i),(7,J j)]) ?_ (by rw[av]) η
  repeat apply al
  by_cases δ:a<j
  ·obtain⟨p,ς⟩:∃p,j=p+1:=⟨j-1,γ⟩;have ki:IntKind.i64.wrap ((j:Int)-1)=(p:Int):=by have:=et (show p<2 ^ 62 by omega);rw[ς];simpa using this
   have aI:j<n:=γ
   have ml:p<n:=γ
   have vo:¬j=p:=γ;obtain⟨x,U⟩:=aO (f[j]!);obtain⟨y,Φ⟩:=aO (f[p]!);have mm:L[j]?=some (J x):=by rw[av,U,List.getElem?_map,Array.getElem?_toList,pS γ];rfl
   have jB:L[p]?=some (J y):=by rw[av,Φ,List.getElem?_map,Array.getElem?_toList,pS γ];rfl
   have pT:∀h:j<L.length,L[j]=J x:=λh=>by have:=mm;rw[ba h] at this;exact Option.some.inj this
   have pU:∀h:p<L.length,L[p]=J y:=λh=>by have:=jB;rw[ba h] at this;exact Option.some.inj this
   have un:Go.Sort.insInner (Go.Sort.ltInt) a j f=if Go.Sort.ltInt x y=true then Go.Sort.insInner (Go.Sort.ltInt) a p (Go.Sort.swp f j p) else f:=by
    subst ς;rw[Go.Sort.insInner,U,Φ];simp[δ]
   have mo:(Go.Sort.swp f j p).toList.map J=(L.set j (J y)).set p (J x):=by rw[av,U,Φ];simp[Go.Sort.swp]
   have vp:(Go.Sort.swp f j p).size=n:=by simp[Go.Sort.swp,Ξ]
   have vq:=av;clear U Φ;refine W.draw (A:=[]) Ρ mixed λΔ ζ=>mj (Ζ δ (Ζ ki (Ζ h1 (Ζ aI (Ζ ml (Ζ mm (Ζ jB (Ζ pT pU)))))))) ?_;refine eS (Ω.p (Vx x y) (b9.refl _) η η) ?_;simp;(repeat (rw[dZ];simp[]));try rw[dY]
   refine fC (ζ _ _ ?_);by_cases hm:x<y
   ·refine aA (by simp[hm]) ?_
    repeat apply al
    refine fD (Ζ δ (Ζ ki (Ζ h1 (Ζ aI (Ζ ml (Ζ mm (Ζ jB (Ζ pT (Ζ pU vo))))))))) ?_;refine Β ?_;refine W.to (e6 (p,Go.Sort.swp f j p) ⟨vp,by simp;omega,?_⟩ (by simp;omega)) ?_ ?_
    ·rw[<-aR,un,if_pos (by simp[ar,Go.Sort.ltInt,hm])]
    ·rw[mo]
    ·simp[ki]
   ·refine ay (by simp[hm]) ?_;refine W.exit rfl ?_;refine Β ?_;refine W.to (ω (i+1,f) ⟨Ξ,go (by rw[un,if_neg (by simp[ar,Go.Sort.ltInt,hm])])⟩ (by simp;omega)) (by rw[vq]) ?_;have:=et (show i+1<2 ^ 62 by omega);simpa using this
  ·have un:Go.Sort.insInner (Go.Sort.ltInt) a j f=f:=by
    cases j with
    | zero=>rfl
    | succ p=>rw[Go.Sort.insInner];simp[δ]
   refine fD δ ?_;refine ay rfl ?_;refine W.exit rfl ?_;refine Β ?_;refine W.to (ω (i+1,f) ⟨Ξ,go un⟩ (by simp;omega)) (by rw[av]) ?_;have:=et (show i+1<2 ^ 62 by omega);simpa using this
 ·refine ay (by simp[ε]) ?_;refine W.exit rfl ?_;have Θ:Go.Sort.insOuter (Go.Sort.ltInt) a b i e=e:=by rw[Go.Sort.insOuter,if_neg ε]
  exact W.nil ⟨_,rfl,rfl,by rw[<-R,Θ]⟩
end Go.TL
