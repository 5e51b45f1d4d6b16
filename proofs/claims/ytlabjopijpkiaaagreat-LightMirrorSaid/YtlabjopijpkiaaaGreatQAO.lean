import Derived.Test.YtlabjopijpkiaaaGreatQAN
set_option maxHeartbeats 16000000
set_option maxRecDepth 20000
set_option linter.unusedSectionVars false
set_option linter.unusedSimpArgs false
set_option linter.unusedVariables false
namespace Go.TL
open Go.Proofs
variable [bh]
instance:Inhabited Found:=⟨⟨0,0,[]⟩⟩
theorem S2 (d:Array (Int×Int)) (n a b:Nat) (Ι:d.size=n) (κ:a<=b) (hb:b<=n) (ν:n<2 ^ 40) (bj:ζ) (cmp:Int×Int->Int×Int->Int) (c6:az 0 bj) (ab:∀x y,ja Tryz.prog bj [b5 x,b5 y] (δ (cmp x y))) :
  aC Tryz.prog 234 [.ms 0 n 0 n,δ a,δ b,bj] [.cells 112 2 (d.toList.map b5)] (λr s=>r=.bn []/\s=[.cells 112 2 ((Go.Sort.insertionSort (dt cmp) d a b).toList.map b5)]) (λ_ _=>False):=by
 refine aC.body Μ Tryz.func234 rfl rfl Tryz.ntmps234 rfl rfl (by simp) ?_;(repeat (first|apply μ|(refine ξ λθ I=>?_;simp;(repeat (rw[ε];simp));apply I)));have jX:=fI (show a+1<2 ^ 62 by omega);refine W.iter (λq:Nat×Array (Int×Int)=>q.2.size=n/\Go.Sort.insOuter (dt cmp) a b q.1 q.2=Go.Sort.insertionSort (dt cmp) d a b) (λq=>[(0,.ms 0 n 0 n),(1,δ a),(2,δ b),(3,bj),(8,δ q.1)]) (λq=>[.cells 112 2 (q.2.toList.map b5)]) (λq=>b-q.1) (a+1,d) ⟨Ι,rfl⟩ rfl (by simpa using jX) (λq hi Γ=>?_);obtain⟨i,e⟩:=q;obtain⟨J,R⟩:=hi;simp only at J R;(repeat (first|apply μ|(refine ξ λθ I=>?_;simp;(repeat (rw[ε];simp));apply I)));by_cases η:i<b
 ·refine ax (by simp[η]) ?_;(repeat (first|apply μ|(refine ξ λθ I=>?_;simp;(repeat (rw[ε];simp));apply I)));refine W.iter (λq:Nat×Array (Int×Int)=>q.2.size=n/\q.1<=i/\Go.Sort.insInner (dt cmp) a q.1 q.2=Go.Sort.insInner (dt cmp) a i e) (λq=>[(0,.ms 0 n 0 n),(1,δ a),(2,δ b),(3,bj),(8,δ i),(9,δ q.1)]) (λq=>[.cells 112 2 (q.2.toList.map b5)]) (λq=>q.1) (i,e) ⟨J,Nat.le_refl _,rfl⟩ rfl (by simp) (λq γ hz=>?_);obtain⟨j,f⟩:=q;obtain⟨Ξ,aa,aM⟩:=γ;simp only at Ξ aa aM;have go:Go.Sort.insInner (dt cmp) a j f=f->Go.Sort.insOuter (dt cmp) a b (i+1) f=Go.Sort.insertionSort (dt cmp) d a b:=λhd=>by
   rw[<-R,<-hd,aM];conv=>rhs;rw[Go.Sort.insOuter,if_pos η]
  obtain⟨L,aS⟩:∃L,L=f.toList.map b5:=⟨_,rfl⟩;have kD:L.length=n:=by rw[aS];simpa using Ξ
  refine W.to (σ':=[.cells 112 2 L]) (env':=[(0,.ms 0 n 0 n),(1,δ a),(2,δ b),(3,bj),(8,δ i),(9,δ j)]) ?_ (by rw[aS]) (by simp)
  repeat apply μ
  by_cases γ:a<j
  ·obtain⟨p,χ⟩:∃p,j=p+1:=⟨j-1,by omega⟩;have mP:IntKind.i64.wrap ((j:Int)-1)=(p:Int):=by have:=fI (show p<2 ^ 62 by omega);rw[χ];simpa using this
   have ar:j<n:=by omega
   have pK:p<n:=by omega
   have yj:¬j=p:=by omega
   obtain⟨x,U⟩:∃x,x=f[j]!:=⟨_,rfl⟩;obtain⟨y,ad⟩:∃y,y=f[p]!:=⟨_,rfl⟩;have ow:L[j]?=some (b5 x):=by rw[aS,U,List.getElem?_map,Array.getElem?_toList,vD (by omega)];rfl
   have kr:L[p]?=some (b5 y):=by rw[aS,ad,List.getElem?_map,Array.getElem?_toList,vD (by omega)];rfl
   have r4:∀h:j<L.length,L[j]=b5 x:=λh=>by have:=ow;rw[aX h] at this;exact Option.some.inj this
   have r5:∀h:p<L.length,L[p]=b5 y:=λh=>by have:=kr;rw[aX h] at this;exact Option.some.inj this
   have un:Go.Sort.insInner (dt cmp) a j f=if dt cmp x y=true then Go.Sort.insInner (dt cmp) a p (Go.Sort.swp f j p) else f:=by
    subst χ;rw[Go.Sort.insInner,U,ad];simp[γ]
   have yk:(Go.Sort.swp f j p).toList.map b5=(L.set j (b5 y)).set p (b5 x):=by rw[aS,U,ad];simp[Go.Sort.swp]
   have yl:(Go.Sort.swp f j p).size=n:=by simp[Go.Sort.swp,Ξ]
   have ym:=aS;clear U ad;refine W.draw (A:=[]) Μ mixed λθ I=>?_;simp;(repeat (rw[cz];simp[γ,mP,kD,ar,pK,ow,kr,r4,r5]));try rw[cy]
   refine iI (ab x y) ?_;simp;(repeat (rw[cz];simp));try rw[cy]
   refine⟨cZ (by kernel_rfl),I _ _ ?_⟩;by_cases hm:cmp x y<0
   ·refine ax (by simp[hm]) ?_
    repeat apply μ
    refine W.draw (A:=[]) Μ mixed λθ I=>?_;simp;(repeat (rw[cz];simp[γ,mP,kD,ar,pK,ow,kr,r4,r5,yj]));try rw[cy]
    refine⟨cZ (by kernel_rfl),I _ _ ?_⟩;(repeat (first|apply μ|(refine ξ λθ I=>?_;simp;(repeat (rw[ε];simp));apply I)));refine W.to (hz (p,Go.Sort.swp f j p) ⟨yl,by simp;omega,?_⟩ (by simp;omega)) ?_ ?_
    ·rw[<-aM,un,if_pos (by simp[dt,Go.Sort.ltInt,hm])]
    ·rw[yk]
    ·simp[mP]
   ·refine au (by simp[hm]) ?_;refine W.exit rfl ?_;(repeat (first|apply μ|(refine ξ λθ I=>?_;simp;(repeat (rw[ε];simp));apply I)));refine W.to (Γ (i+1,f) ⟨Ξ,go (by rw[un,if_neg (by simp[dt,Go.Sort.ltInt,hm])])⟩ (by simp;omega)) (by rw[ym]) ?_;have:=fI (show i+1<2 ^ 62 by omega);simpa using this
  ·have un:Go.Sort.insInner (dt cmp) a j f=f:=by
    cases j with
    | zero=>rfl
    | succ p=>rw[Go.Sort.insInner];simp[γ]
   refine W.draw (A:=[]) Μ mixed λθ I=>?_;simp;(repeat (rw[cz];simp[γ]));try rw[cy]
   refine⟨cZ (by kernel_rfl),I _ _ ?_⟩;refine au rfl ?_;refine W.exit rfl ?_;(repeat (first|apply μ|(refine ξ λθ I=>?_;simp;(repeat (rw[ε];simp));apply I)));refine W.to (Γ (i+1,f) ⟨Ξ,go un⟩ (by simp;omega)) (by rw[aS]) ?_;have:=fI (show i+1<2 ^ 62 by omega);simpa using this
 ·refine au (by simp[η]) ?_;refine W.exit rfl ?_;have Ε:Go.Sort.insOuter (dt cmp) a b i e=e:=by rw[Go.Sort.insOuter,if_neg η]
  exact W.nil ⟨_,rfl,rfl,by rw[<-R,Ε]⟩
theorem S3 (d:Array (Found)) (n a b:Nat) (Ι:d.size=n) (κ:a<=b) (hb:b<=n) (ν:n<2 ^ 40) (bj:ζ) (cmp:Found->Found->Int) (c6:az 0 bj) (ab:∀x y,ja Tryz.prog bj [cR x,cR y] (δ (cmp x y))) :
  aC Tryz.prog 217 [.ms 0 n 0 n,δ a,δ b,bj] [.cells 110 3 (d.toList.map cR)] (λr s=>r=.bn []/\s=[.cells 110 3 ((Go.Sort.insertionSort (dt cmp) d a b).toList.map cR)]) (λ_ _=>False):=by
 refine aC.body Μ Tryz.func217 rfl rfl Tryz.ntmps217 rfl rfl (by simp) ?_;(repeat (first|apply μ|(refine ξ λθ I=>?_;simp;(repeat (rw[ε];simp));apply I)));have jX:=fI (show a+1<2 ^ 62 by omega);refine W.iter (λq:Nat×Array (Found)=>q.2.size=n/\Go.Sort.insOuter (dt cmp) a b q.1 q.2=Go.Sort.insertionSort (dt cmp) d a b) (λq=>[(0,.ms 0 n 0 n),(1,δ a),(2,δ b),(3,bj),(8,δ q.1)]) (λq=>[.cells 110 3 (q.2.toList.map cR)]) (λq=>b-q.1) (a+1,d) ⟨Ι,rfl⟩ rfl (by simpa using jX) (λq hi Γ=>?_);obtain⟨i,e⟩:=q;obtain⟨J,R⟩:=hi;simp only at J R;(repeat (first|apply μ|(refine ξ λθ I=>?_;simp;(repeat (rw[ε];simp));apply I)));by_cases η:i<b
 ·refine ax (by simp[η]) ?_;(repeat (first|apply μ|(refine ξ λθ I=>?_;simp;(repeat (rw[ε];simp));apply I)));refine W.iter (λq:Nat×Array (Found)=>q.2.size=n/\q.1<=i/\Go.Sort.insInner (dt cmp) a q.1 q.2=Go.Sort.insInner (dt cmp) a i e) (λq=>[(0,.ms 0 n 0 n),(1,δ a),(2,δ b),(3,bj),(8,δ i),(9,δ q.1)]) (λq=>[.cells 110 3 (q.2.toList.map cR)]) (λq=>q.1) (i,e) ⟨J,Nat.le_refl _,rfl⟩ rfl (by simp) (λq γ hz=>?_);obtain⟨j,f⟩:=q;obtain⟨Ξ,aa,aM⟩:=γ;simp only at Ξ aa aM;have go:Go.Sort.insInner (dt cmp) a j f=f->Go.Sort.insOuter (dt cmp) a b (i+1) f=Go.Sort.insertionSort (dt cmp) d a b:=λhd=>by
   rw[<-R,<-hd,aM];conv=>rhs;rw[Go.Sort.insOuter,if_pos η]
  obtain⟨L,aS⟩:∃L,L=f.toList.map cR:=⟨_,rfl⟩;have kD:L.length=n:=by rw[aS];simpa using Ξ
  refine W.to (σ':=[.cells 110 3 L]) (env':=[(0,.ms 0 n 0 n),(1,δ a),(2,δ b),(3,bj),(8,δ i),(9,δ j)]) ?_ (by rw[aS]) (by simp)
  repeat apply μ
  by_cases γ:a<j
  ·obtain⟨p,χ⟩:∃p,j=p+1:=⟨j-1,by omega⟩;have mP:IntKind.i64.wrap ((j:Int)-1)=(p:Int):=by have:=fI (show p<2 ^ 62 by omega);rw[χ];simpa using this
   have ar:j<n:=by omega
   have pK:p<n:=by omega
   have yj:¬j=p:=by omega
   obtain⟨x,U⟩:∃x,x=f[j]!:=⟨_,rfl⟩;obtain⟨y,ad⟩:∃y,y=f[p]!:=⟨_,rfl⟩;have ow:L[j]?=some (cR x):=by rw[aS,U,List.getElem?_map,Array.getElem?_toList,vD (by omega)];rfl
   have kr:L[p]?=some (cR y):=by rw[aS,ad,List.getElem?_map,Array.getElem?_toList,vD (by omega)];rfl
   have r4:∀h:j<L.length,L[j]=cR x:=λh=>by have:=ow;rw[aX h] at this;exact Option.some.inj this
   have r5:∀h:p<L.length,L[p]=cR y:=λh=>by have:=kr;rw[aX h] at this;exact Option.some.inj this
   have un:Go.Sort.insInner (dt cmp) a j f=if dt cmp x y=true then Go.Sort.insInner (dt cmp) a p (Go.Sort.swp f j p) else f:=by
    subst χ;rw[Go.Sort.insInner,U,ad];simp[γ]
   have yk:(Go.Sort.swp f j p).toList.map cR=(L.set j (cR y)).set p (cR x):=by rw[aS,U,ad];simp[Go.Sort.swp]
   have yl:(Go.Sort.swp f j p).size=n:=by simp[Go.Sort.swp,Ξ]
   have ym:=aS;clear U ad;refine W.draw (A:=[]) Μ mixed λθ I=>?_;simp;(repeat (rw[cz];simp[γ,mP,kD,ar,pK,ow,kr,r4,r5]));try rw[cy]
   refine iI (ab x y) ?_;simp;(repeat (rw[cz];simp));try rw[cy]
   refine⟨cZ (by kernel_rfl),I _ _ ?_⟩;by_cases hm:cmp x y<0
   ·refine ax (by simp[hm]) ?_
    repeat apply μ
    refine W.draw (A:=[]) Μ mixed λθ I=>?_;simp;(repeat (rw[cz];simp[γ,mP,kD,ar,pK,ow,kr,r4,r5,yj]));try rw[cy]
    refine⟨cZ (by kernel_rfl),I _ _ ?_⟩;(repeat (first|apply μ|(refine ξ λθ I=>?_;simp;(repeat (rw[ε];simp));apply I)));refine W.to (hz (p,Go.Sort.swp f j p) ⟨yl,by simp;omega,?_⟩ (by simp;omega)) ?_ ?_
    ·rw[<-aM,un,if_pos (by simp[dt,Go.Sort.ltInt,hm])]
    ·rw[yk]
    ·simp[mP]
   ·refine au (by simp[hm]) ?_;refine W.exit rfl ?_;(repeat (first|apply μ|(refine ξ λθ I=>?_;simp;(repeat (rw[ε];simp));apply I)));refine W.to (Γ (i+1,f) ⟨Ξ,go (by rw[un,if_neg (by simp[dt,Go.Sort.ltInt,hm])])⟩ (by simp;omega)) (by rw[ym]) ?_;have:=fI (show i+1<2 ^ 62 by omega);simpa using this
  ·have un:Go.Sort.insInner (dt cmp) a j f=f:=by
    cases j with
    | zero=>rfl
    | succ p=>rw[Go.Sort.insInner];simp[γ]
   refine W.draw (A:=[]) Μ mixed λθ I=>?_;simp;(repeat (rw[cz];simp[γ]));try rw[cy]
   refine⟨cZ (by kernel_rfl),I _ _ ?_⟩;refine au rfl ?_;refine W.exit rfl ?_;(repeat (first|apply μ|(refine ξ λθ I=>?_;simp;(repeat (rw[ε];simp));apply I)));refine W.to (Γ (i+1,f) ⟨Ξ,go un⟩ (by simp;omega)) (by rw[aS]) ?_;have:=fI (show i+1<2 ^ 62 by omega);simpa using this
 ·refine au (by simp[η]) ?_;refine W.exit rfl ?_;have Ε:Go.Sort.insOuter (dt cmp) a b i e=e:=by rw[Go.Sort.insOuter,if_neg η]
  exact W.nil ⟨_,rfl,rfl,by rw[<-R,Ε]⟩
theorem S4 (d:Array (Int)) (n a b:Nat) (Ι:d.size=n) (κ:a<=b) (hb:b<=n) (ν:n<2 ^ 40)  :
  aC Tryz.prog 197 [.ms 0 n 0 n,δ a,δ b] [.cells 3 1 (d.toList.map δ)] (λr s=>r=.bn []/\s=[.cells 3 1 ((Go.Sort.insertionSort (Go.Sort.ltInt) d a b).toList.map δ)]) (λ_ _=>False):=by
 refine aC.body Μ Tryz.func197 rfl rfl Tryz.ntmps197 rfl rfl (by simp) ?_;(repeat (first|apply μ|(refine ξ λθ I=>?_;simp;(repeat (rw[ε];simp));apply I)));have jX:=fI (show a+1<2 ^ 62 by omega);refine W.iter (λq:Nat×Array (Int)=>q.2.size=n/\Go.Sort.insOuter (Go.Sort.ltInt) a b q.1 q.2=Go.Sort.insertionSort (Go.Sort.ltInt) d a b) (λq=>[(0,.ms 0 n 0 n),(1,δ a),(2,δ b),(6,δ q.1)]) (λq=>[.cells 3 1 (q.2.toList.map δ)]) (λq=>b-q.1) (a+1,d) ⟨Ι,rfl⟩ rfl (by simpa using jX) (λq hi Γ=>?_);obtain⟨i,e⟩:=q;obtain⟨J,R⟩:=hi;simp only at J R;(repeat (first|apply μ|(refine ξ λθ I=>?_;simp;(repeat (rw[ε];simp));apply I)));by_cases η:i<b
 ·refine ax (by simp[η]) ?_;(repeat (first|apply μ|(refine ξ λθ I=>?_;simp;(repeat (rw[ε];simp));apply I)));refine W.iter (λq:Nat×Array (Int)=>q.2.size=n/\q.1<=i/\Go.Sort.insInner (Go.Sort.ltInt) a q.1 q.2=Go.Sort.insInner (Go.Sort.ltInt) a i e) (λq=>[(0,.ms 0 n 0 n),(1,δ a),(2,δ b),(6,δ i),(7,δ q.1)]) (λq=>[.cells 3 1 (q.2.toList.map δ)]) (λq=>q.1) (i,e) ⟨J,Nat.le_refl _,rfl⟩ rfl (by simp) (λq γ hz=>?_);obtain⟨j,f⟩:=q;obtain⟨Ξ,aa,aM⟩:=γ;simp only at Ξ aa aM;have go:Go.Sort.insInner (Go.Sort.ltInt) a j f=f->Go.Sort.insOuter (Go.Sort.ltInt) a b (i+1) f=Go.Sort.insertionSort (Go.Sort.ltInt) d a b:=λhd=>by
   rw[<-R,<-hd,aM];conv=>rhs;rw[Go.Sort.insOuter,if_pos η]
  obtain⟨L,aS⟩:∃L,L=f.toList.map δ:=⟨_,rfl⟩;have kD:L.length=n:=by rw[aS];simpa using Ξ
  refine W.to (σ':=[.cells 3 1 L]) (env':=[(0,.ms 0 n 0 n),(1,δ a),(2,δ b),(6,δ i),(7,δ j)]) ?_ (by rw[aS]) (by simp)
  repeat apply μ
  by_cases γ:a<j
  ·obtain⟨p,χ⟩:∃p,j=p+1:=⟨j-1,by omega⟩;have mP:IntKind.i64.wrap ((j:Int)-1)=(p:Int):=by have:=fI (show p<2 ^ 62 by omega);rw[χ];simpa using this
   have ar:j<n:=by omega
   have pK:p<n:=by omega
   have yj:¬j=p:=by omega
   obtain⟨x,U⟩:∃x,x=f[j]!:=⟨_,rfl⟩;obtain⟨y,ad⟩:∃y,y=f[p]!:=⟨_,rfl⟩;have ow:L[j]?=some (δ x):=by rw[aS,U,List.getElem?_map,Array.getElem?_toList,vD (by omega)];rfl
   have kr:L[p]?=some (δ y):=by rw[aS,ad,List.getElem?_map,Array.getElem?_toList,vD (by omega)];rfl
   have r4:∀h:j<L.length,L[j]=δ x:=λh=>by have:=ow;rw[aX h] at this;exact Option.some.inj this
   have r5:∀h:p<L.length,L[p]=δ y:=λh=>by have:=kr;rw[aX h] at this;exact Option.some.inj this
   have un:Go.Sort.insInner (Go.Sort.ltInt) a j f=if Go.Sort.ltInt x y=true then Go.Sort.insInner (Go.Sort.ltInt) a p (Go.Sort.swp f j p) else f:=by
    subst χ;rw[Go.Sort.insInner,U,ad];simp[γ]
   have yk:(Go.Sort.swp f j p).toList.map δ=(L.set j (δ y)).set p (δ x):=by rw[aS,U,ad];simp[Go.Sort.swp]
   have yl:(Go.Sort.swp f j p).size=n:=by simp[Go.Sort.swp,Ξ]
   have ym:=aS;clear U ad;refine W.draw (A:=[]) Μ mixed λθ I=>?_;simp;(repeat (rw[cz];simp[γ,mP,kD,ar,pK,ow,kr,r4,r5]));try rw[cy]
   refine iI (an.p (SY x y) (aE.refl _) (by simp) (by simp)) ?_;simp;(repeat (rw[cz];simp));try rw[cy]
   refine⟨cZ (by kernel_rfl),I _ _ ?_⟩;by_cases hm:x<y
   ·refine ax (by simp[hm]) ?_
    repeat apply μ
    refine W.draw (A:=[]) Μ mixed λθ I=>?_;simp;(repeat (rw[cz];simp[γ,mP,kD,ar,pK,ow,kr,r4,r5,yj]));try rw[cy]
    refine⟨cZ (by kernel_rfl),I _ _ ?_⟩;(repeat (first|apply μ|(refine ξ λθ I=>?_;simp;(repeat (rw[ε];simp));apply I)));refine W.to (hz (p,Go.Sort.swp f j p) ⟨yl,by simp;omega,?_⟩ (by simp;omega)) ?_ ?_
    ·rw[<-aM,un,if_pos (by simp[dt,Go.Sort.ltInt,hm])]
    ·rw[yk]
    ·simp[mP]
   ·refine au (by simp[hm]) ?_;refine W.exit rfl ?_;(repeat (first|apply μ|(refine ξ λθ I=>?_;simp;(repeat (rw[ε];simp));apply I)));refine W.to (Γ (i+1,f) ⟨Ξ,go (by rw[un,if_neg (by simp[dt,Go.Sort.ltInt,hm])])⟩ (by simp;omega)) (by rw[ym]) ?_;have:=fI (show i+1<2 ^ 62 by omega);simpa using this
  ·have un:Go.Sort.insInner (Go.Sort.ltInt) a j f=f:=by
    cases j with
    | zero=>rfl
    | succ p=>rw[Go.Sort.insInner];simp[γ]
   refine W.draw (A:=[]) Μ mixed λθ I=>?_;simp;(repeat (rw[cz];simp[γ]));try rw[cy]
   refine⟨cZ (by kernel_rfl),I _ _ ?_⟩;refine au rfl ?_;refine W.exit rfl ?_;(repeat (first|apply μ|(refine ξ λθ I=>?_;simp;(repeat (rw[ε];simp));apply I)));refine W.to (Γ (i+1,f) ⟨Ξ,go un⟩ (by simp;omega)) (by rw[aS]) ?_;have:=fI (show i+1<2 ^ 62 by omega);simpa using this
 ·refine au (by simp[η]) ?_;refine W.exit rfl ?_;have Ε:Go.Sort.insOuter (Go.Sort.ltInt) a b i e=e:=by rw[Go.Sort.insOuter,if_neg η]
  exact W.nil ⟨_,rfl,rfl,by rw[<-R,Ε]⟩
end Go.TL
