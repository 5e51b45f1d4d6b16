import Derived.Test.YtlabjopijpkiaaaGreatQAN
set_option maxHeartbeats 16000000
set_option maxRecDepth 20000
set_option linter.unusedSectionVars false
set_option linter.unusedSimpArgs false
set_option linter.unusedVariables false
namespace Go.TL
open Go.Proofs
variable [bn]
instance:Inhabited Found:=⟨⟨0,0,[]⟩⟩
theorem NG (d:Array (Int×Int)) (n a b:Nat) (Ι:d.size=n) (ν:a<=b) (hb:b<=n) (ο:n<2 ^ 40) (an:θ) (cmp:Int×Int->Int×Int->Int) (bR:av 0 an) (Τ:∀x y,gj Tryz.prog an [aA x,aA y] (R (cmp x y))) :
  ak Tryz.prog 234 [.ms 0 n 0 n,R a,R b,an] [.cells 112 2 (d.toList.map aA)] (λr s=>r=.bu []/\s=[.cells 112 2 ((Go.Sort.insertionSort (ax cmp) d a b).toList.map aA)]) (λ_ _=>False):=by
 refine ak.body Κ Tryz.func234 rfl rfl Tryz.ntmps234 rfl rfl (by simp) ?_;(repeat (first|apply κ|(refine ξ λη I=>?_;simp;(repeat (rw[δ];simp));apply I)));have kR:=gl (show a+1<2 ^ 62 by omega);refine W.iter (λq:Nat×Array (Int×Int)=>q.2.size=n/\Go.Sort.insOuter (ax cmp) a b q.1 q.2=Go.Sort.insertionSort (ax cmp) d a b) (λq=>[(0,.ms 0 n 0 n),(1,R a),(2,R b),(3,an),(8,R q.1)]) (λq=>[.cells 112 2 (q.2.toList.map aA)]) (λq=>b-q.1) (a+1,d) ⟨Ι,rfl⟩ rfl (by simpa using kR) (λq hi Δ=>?_);obtain⟨i,e⟩:=q;obtain⟨J,γ⟩:=hi;simp only at J γ;(repeat (first|apply κ|(refine ξ λη I=>?_;simp;(repeat (rw[δ];simp));apply I)));by_cases ζ:i<b
 ·refine al (by simp[ζ]) ?_;(repeat (first|apply κ|(refine ξ λη I=>?_;simp;(repeat (rw[δ];simp));apply I)));refine W.iter (λq:Nat×Array (Int×Int)=>q.2.size=n/\q.1<=i/\Go.Sort.insInner (ax cmp) a q.1 q.2=Go.Sort.insInner (ax cmp) a i e) (λq=>[(0,.ms 0 n 0 n),(1,R a),(2,R b),(3,an),(8,R i),(9,R q.1)]) (λq=>[.cells 112 2 (q.2.toList.map aA)]) (λq=>q.1) (i,e) ⟨J,Nat.le_refl _,rfl⟩ rfl (by simp) (λq ε eg=>?_);obtain⟨j,f⟩:=q;obtain⟨Ρ,ag,aV⟩:=ε;simp only at Ρ ag aV;have go:Go.Sort.insInner (ax cmp) a j f=f->Go.Sort.insOuter (ax cmp) a b (i+1) f=Go.Sort.insertionSort (ax cmp) d a b:=λhd=>by
   rw[<-γ,<-hd,aV];conv=>rhs;rw[Go.Sort.insOuter,if_pos ζ]
  obtain⟨L,aD⟩:∃L,L=f.toList.map aA:=⟨_,rfl⟩;have j0:L.length=n:=by rw[aD];simpa using Ρ
  refine W.to (σ':=[.cells 112 2 L]) (env':=[(0,.ms 0 n 0 n),(1,R a),(2,R b),(3,an),(8,R i),(9,R j)]) ?_ (by rw[aD]) (by simp)
  repeat apply κ
  by_cases ε:a<j
  ·obtain⟨p,ω⟩:∃p,j=p+1:=⟨j-1,by omega⟩;have n1:IntKind.i64.wrap ((j:Int)-1)=(p:Int):=by have:=gl (show p<2 ^ 62 by omega);rw[ω];simpa using this
   have aH:j<n:=by omega
   have rf:p<n:=by omega
   have Aw:¬j=p:=by omega
   obtain⟨x,U⟩:∃x,x=f[j]!:=⟨_,rfl⟩;obtain⟨y,Ο⟩:∃y,y=f[p]!:=⟨_,rfl⟩;have pV:L[j]?=some (aA x):=by rw[aD,U,List.getElem?_map,Array.getElem?_toList,sz (by omega)];rfl
   have lq:L[p]?=some (aA y):=by rw[aD,Ο,List.getElem?_map,Array.getElem?_toList,sz (by omega)];rfl
   have tZ:∀h:j<L.length,L[j]=aA x:=λh=>by have:=pV;rw[a2 h] at this;exact Option.some.inj this
   have ua:∀h:p<L.length,L[p]=aA y:=λh=>by have:=lq;rw[a2 h] at this;exact Option.some.inj this
   have un:Go.Sort.insInner (ax cmp) a j f=if ax cmp x y=true then Go.Sort.insInner (ax cmp) a p (Go.Sort.swp f j p) else f:=by
    subst ω;rw[Go.Sort.insInner,U,Ο];simp[ε]
   have n2:(Go.Sort.swp f j p).toList.map aA=(L.set j (aA y)).set p (aA x):=by rw[aD,U,Ο];simp[Go.Sort.swp]
   have Ax:(Go.Sort.swp f j p).size=n:=by simp[Go.Sort.swp,Ρ]
   have Ay:=aD;clear U Ο;refine W.draw (A:=[]) Κ mixed λη I=>?_;simp;(repeat (rw[bD];simp[ε,n1,j0,aH,rf,pV,lq,tZ,ua]));try rw[bC]
   refine gU (Τ x y) ?_;simp;(repeat (rw[bD];simp));try rw[bC]
   refine⟨bW (by kernel_rfl),I _ _ ?_⟩;by_cases hm:cmp x y<0
   ·refine al (by simp[hm]) ?_
    repeat apply κ
    refine W.draw (A:=[]) Κ mixed λη I=>?_;simp;(repeat (rw[bD];simp[ε,n1,j0,aH,rf,pV,lq,tZ,ua,Aw]));try rw[bC]
    refine⟨bW (by kernel_rfl),I _ _ ?_⟩;(repeat (first|apply κ|(refine ξ λη I=>?_;simp;(repeat (rw[δ];simp));apply I)));refine W.to (eg (p,Go.Sort.swp f j p) ⟨Ax,by simp;omega,?_⟩ (by simp;omega)) ?_ ?_
    ·rw[<-aV,un,if_pos (by simp[ax,Go.Sort.ltInt,hm])]
    ·rw[n2]
    ·simp[n1]
   ·refine aj (by simp[hm]) ?_;refine W.exit rfl ?_;(repeat (first|apply κ|(refine ξ λη I=>?_;simp;(repeat (rw[δ];simp));apply I)));refine W.to (Δ (i+1,f) ⟨Ρ,go (by rw[un,if_neg (by simp[ax,Go.Sort.ltInt,hm])])⟩ (by simp;omega)) (by rw[Ay]) ?_;have:=gl (show i+1<2 ^ 62 by omega);simpa using this
  ·have un:Go.Sort.insInner (ax cmp) a j f=f:=by
    cases j with
    | zero=>rfl
    | succ p=>rw[Go.Sort.insInner];simp[ε]
   refine W.draw (A:=[]) Κ mixed λη I=>?_;simp;(repeat (rw[bD];simp[ε]));try rw[bC]
   refine⟨bW (by kernel_rfl),I _ _ ?_⟩;refine aj rfl ?_;refine W.exit rfl ?_;(repeat (first|apply κ|(refine ξ λη I=>?_;simp;(repeat (rw[δ];simp));apply I)));refine W.to (Δ (i+1,f) ⟨Ρ,go un⟩ (by simp;omega)) (by rw[aD]) ?_;have:=gl (show i+1<2 ^ 62 by omega);simpa using this
 ·refine aj (by simp[ζ]) ?_;refine W.exit rfl ?_;have Ζ:Go.Sort.insOuter (ax cmp) a b i e=e:=by rw[Go.Sort.insOuter,if_neg ζ]
  exact W.nil ⟨_,rfl,rfl,by rw[<-γ,Ζ]⟩
theorem Wv (d:Array (Found)) (n a b:Nat) (Ι:d.size=n) (ν:a<=b) (hb:b<=n) (ο:n<2 ^ 40) (an:θ) (cmp:Found->Found->Int) (bR:av 0 an) (Τ:∀x y,gj Tryz.prog an [db x,db y] (R (cmp x y))) :
  ak Tryz.prog 217 [.ms 0 n 0 n,R a,R b,an] [.cells 110 3 (d.toList.map db)] (λr s=>r=.bu []/\s=[.cells 110 3 ((Go.Sort.insertionSort (ax cmp) d a b).toList.map db)]) (λ_ _=>False):=by
 refine ak.body Κ Tryz.func217 rfl rfl Tryz.ntmps217 rfl rfl (by simp) ?_;(repeat (first|apply κ|(refine ξ λη I=>?_;simp;(repeat (rw[δ];simp));apply I)));have kR:=gl (show a+1<2 ^ 62 by omega);refine W.iter (λq:Nat×Array (Found)=>q.2.size=n/\Go.Sort.insOuter (ax cmp) a b q.1 q.2=Go.Sort.insertionSort (ax cmp) d a b) (λq=>[(0,.ms 0 n 0 n),(1,R a),(2,R b),(3,an),(8,R q.1)]) (λq=>[.cells 110 3 (q.2.toList.map db)]) (λq=>b-q.1) (a+1,d) ⟨Ι,rfl⟩ rfl (by simpa using kR) (λq hi Δ=>?_);obtain⟨i,e⟩:=q;obtain⟨J,γ⟩:=hi;simp only at J γ;(repeat (first|apply κ|(refine ξ λη I=>?_;simp;(repeat (rw[δ];simp));apply I)));by_cases ζ:i<b
 ·refine al (by simp[ζ]) ?_;(repeat (first|apply κ|(refine ξ λη I=>?_;simp;(repeat (rw[δ];simp));apply I)));refine W.iter (λq:Nat×Array (Found)=>q.2.size=n/\q.1<=i/\Go.Sort.insInner (ax cmp) a q.1 q.2=Go.Sort.insInner (ax cmp) a i e) (λq=>[(0,.ms 0 n 0 n),(1,R a),(2,R b),(3,an),(8,R i),(9,R q.1)]) (λq=>[.cells 110 3 (q.2.toList.map db)]) (λq=>q.1) (i,e) ⟨J,Nat.le_refl _,rfl⟩ rfl (by simp) (λq ε eg=>?_);obtain⟨j,f⟩:=q;obtain⟨Ρ,ag,aV⟩:=ε;simp only at Ρ ag aV;have go:Go.Sort.insInner (ax cmp) a j f=f->Go.Sort.insOuter (ax cmp) a b (i+1) f=Go.Sort.insertionSort (ax cmp) d a b:=λhd=>by
   rw[<-γ,<-hd,aV];conv=>rhs;rw[Go.Sort.insOuter,if_pos ζ]
  obtain⟨L,aD⟩:∃L,L=f.toList.map db:=⟨_,rfl⟩;have j0:L.length=n:=by rw[aD];simpa using Ρ
  refine W.to (σ':=[.cells 110 3 L]) (env':=[(0,.ms 0 n 0 n),(1,R a),(2,R b),(3,an),(8,R i),(9,R j)]) ?_ (by rw[aD]) (by simp)
  repeat apply κ
  by_cases ε:a<j
  ·obtain⟨p,ω⟩:∃p,j=p+1:=⟨j-1,by omega⟩;have n1:IntKind.i64.wrap ((j:Int)-1)=(p:Int):=by have:=gl (show p<2 ^ 62 by omega);rw[ω];simpa using this
   have aH:j<n:=by omega
   have rf:p<n:=by omega
   have Aw:¬j=p:=by omega
   obtain⟨x,U⟩:∃x,x=f[j]!:=⟨_,rfl⟩;obtain⟨y,Ο⟩:∃y,y=f[p]!:=⟨_,rfl⟩;have pV:L[j]?=some (db x):=by rw[aD,U,List.getElem?_map,Array.getElem?_toList,sz (by omega)];rfl
   have lq:L[p]?=some (db y):=by rw[aD,Ο,List.getElem?_map,Array.getElem?_toList,sz (by omega)];rfl
   have tZ:∀h:j<L.length,L[j]=db x:=λh=>by have:=pV;rw[a2 h] at this;exact Option.some.inj this
   have ua:∀h:p<L.length,L[p]=db y:=λh=>by have:=lq;rw[a2 h] at this;exact Option.some.inj this
   have un:Go.Sort.insInner (ax cmp) a j f=if ax cmp x y=true then Go.Sort.insInner (ax cmp) a p (Go.Sort.swp f j p) else f:=by
    subst ω;rw[Go.Sort.insInner,U,Ο];simp[ε]
   have n2:(Go.Sort.swp f j p).toList.map db=(L.set j (db y)).set p (db x):=by rw[aD,U,Ο];simp[Go.Sort.swp]
   have Ax:(Go.Sort.swp f j p).size=n:=by simp[Go.Sort.swp,Ρ]
   have Ay:=aD;clear U Ο;refine W.draw (A:=[]) Κ mixed λη I=>?_;simp;(repeat (rw[bD];simp[ε,n1,j0,aH,rf,pV,lq,tZ,ua]));try rw[bC]
   refine gU (Τ x y) ?_;simp;(repeat (rw[bD];simp));try rw[bC]
   refine⟨bW (by kernel_rfl),I _ _ ?_⟩;by_cases hm:cmp x y<0
   ·refine al (by simp[hm]) ?_
    repeat apply κ
    refine W.draw (A:=[]) Κ mixed λη I=>?_;simp;(repeat (rw[bD];simp[ε,n1,j0,aH,rf,pV,lq,tZ,ua,Aw]));try rw[bC]
    refine⟨bW (by kernel_rfl),I _ _ ?_⟩;(repeat (first|apply κ|(refine ξ λη I=>?_;simp;(repeat (rw[δ];simp));apply I)));refine W.to (eg (p,Go.Sort.swp f j p) ⟨Ax,by simp;omega,?_⟩ (by simp;omega)) ?_ ?_
    ·rw[<-aV,un,if_pos (by simp[ax,Go.Sort.ltInt,hm])]
    ·rw[n2]
    ·simp[n1]
   ·refine aj (by simp[hm]) ?_;refine W.exit rfl ?_;(repeat (first|apply κ|(refine ξ λη I=>?_;simp;(repeat (rw[δ];simp));apply I)));refine W.to (Δ (i+1,f) ⟨Ρ,go (by rw[un,if_neg (by simp[ax,Go.Sort.ltInt,hm])])⟩ (by simp;omega)) (by rw[Ay]) ?_;have:=gl (show i+1<2 ^ 62 by omega);simpa using this
  ·have un:Go.Sort.insInner (ax cmp) a j f=f:=by
    cases j with
    | zero=>rfl
    | succ p=>rw[Go.Sort.insInner];simp[ε]
   refine W.draw (A:=[]) Κ mixed λη I=>?_;simp;(repeat (rw[bD];simp[ε]));try rw[bC]
   refine⟨bW (by kernel_rfl),I _ _ ?_⟩;refine aj rfl ?_;refine W.exit rfl ?_;(repeat (first|apply κ|(refine ξ λη I=>?_;simp;(repeat (rw[δ];simp));apply I)));refine W.to (Δ (i+1,f) ⟨Ρ,go un⟩ (by simp;omega)) (by rw[aD]) ?_;have:=gl (show i+1<2 ^ 62 by omega);simpa using this
 ·refine aj (by simp[ζ]) ?_;refine W.exit rfl ?_;have Ζ:Go.Sort.insOuter (ax cmp) a b i e=e:=by rw[Go.Sort.insOuter,if_neg ζ]
  exact W.nil ⟨_,rfl,rfl,by rw[<-γ,Ζ]⟩
theorem Ww (d:Array (Int)) (n a b:Nat) (Ι:d.size=n) (ν:a<=b) (hb:b<=n) (ο:n<2 ^ 40)  :
  ak Tryz.prog 197 [.ms 0 n 0 n,R a,R b] [.cells 3 1 (d.toList.map R)] (λr s=>r=.bu []/\s=[.cells 3 1 ((Go.Sort.insertionSort (Go.Sort.ltInt) d a b).toList.map R)]) (λ_ _=>False):=by
 refine ak.body Κ Tryz.func197 rfl rfl Tryz.ntmps197 rfl rfl (by simp) ?_;(repeat (first|apply κ|(refine ξ λη I=>?_;simp;(repeat (rw[δ];simp));apply I)));have kR:=gl (show a+1<2 ^ 62 by omega);refine W.iter (λq:Nat×Array (Int)=>q.2.size=n/\Go.Sort.insOuter (Go.Sort.ltInt) a b q.1 q.2=Go.Sort.insertionSort (Go.Sort.ltInt) d a b) (λq=>[(0,.ms 0 n 0 n),(1,R a),(2,R b),(6,R q.1)]) (λq=>[.cells 3 1 (q.2.toList.map R)]) (λq=>b-q.1) (a+1,d) ⟨Ι,rfl⟩ rfl (by simpa using kR) (λq hi Δ=>?_);obtain⟨i,e⟩:=q;obtain⟨J,γ⟩:=hi;simp only at J γ;(repeat (first|apply κ|(refine ξ λη I=>?_;simp;(repeat (rw[δ];simp));apply I)));by_cases ζ:i<b
 ·refine al (by simp[ζ]) ?_;(repeat (first|apply κ|(refine ξ λη I=>?_;simp;(repeat (rw[δ];simp));apply I)));refine W.iter (λq:Nat×Array (Int)=>q.2.size=n/\q.1<=i/\Go.Sort.insInner (Go.Sort.ltInt) a q.1 q.2=Go.Sort.insInner (Go.Sort.ltInt) a i e) (λq=>[(0,.ms 0 n 0 n),(1,R a),(2,R b),(6,R i),(7,R q.1)]) (λq=>[.cells 3 1 (q.2.toList.map R)]) (λq=>q.1) (i,e) ⟨J,Nat.le_refl _,rfl⟩ rfl (by simp) (λq ε eg=>?_);obtain⟨j,f⟩:=q;obtain⟨Ρ,ag,aV⟩:=ε;simp only at Ρ ag aV;have go:Go.Sort.insInner (Go.Sort.ltInt) a j f=f->Go.Sort.insOuter (Go.Sort.ltInt) a b (i+1) f=Go.Sort.insertionSort (Go.Sort.ltInt) d a b:=λhd=>by
   rw[<-γ,<-hd,aV];conv=>rhs;rw[Go.Sort.insOuter,if_pos ζ]
  obtain⟨L,aD⟩:∃L,L=f.toList.map R:=⟨_,rfl⟩;have j0:L.length=n:=by rw[aD];simpa using Ρ
  refine W.to (σ':=[.cells 3 1 L]) (env':=[(0,.ms 0 n 0 n),(1,R a),(2,R b),(6,R i),(7,R j)]) ?_ (by rw[aD]) (by simp)
  repeat apply κ
  by_cases ε:a<j
  ·obtain⟨p,ω⟩:∃p,j=p+1:=⟨j-1,by omega⟩;have n1:IntKind.i64.wrap ((j:Int)-1)=(p:Int):=by have:=gl (show p<2 ^ 62 by omega);rw[ω];simpa using this
   have aH:j<n:=by omega
   have rf:p<n:=by omega
   have Aw:¬j=p:=by omega
   obtain⟨x,U⟩:∃x,x=f[j]!:=⟨_,rfl⟩;obtain⟨y,Ο⟩:∃y,y=f[p]!:=⟨_,rfl⟩;have pV:L[j]?=some (R x):=by rw[aD,U,List.getElem?_map,Array.getElem?_toList,sz (by omega)];rfl
   have lq:L[p]?=some (R y):=by rw[aD,Ο,List.getElem?_map,Array.getElem?_toList,sz (by omega)];rfl
   have tZ:∀h:j<L.length,L[j]=R x:=λh=>by have:=pV;rw[a2 h] at this;exact Option.some.inj this
   have ua:∀h:p<L.length,L[p]=R y:=λh=>by have:=lq;rw[a2 h] at this;exact Option.some.inj this
   have un:Go.Sort.insInner (Go.Sort.ltInt) a j f=if Go.Sort.ltInt x y=true then Go.Sort.insInner (Go.Sort.ltInt) a p (Go.Sort.swp f j p) else f:=by
    subst ω;rw[Go.Sort.insInner,U,Ο];simp[ε]
   have n2:(Go.Sort.swp f j p).toList.map R=(L.set j (R y)).set p (R x):=by rw[aD,U,Ο];simp[Go.Sort.swp]
   have Ax:(Go.Sort.swp f j p).size=n:=by simp[Go.Sort.swp,Ρ]
   have Ay:=aD;clear U Ο;refine W.draw (A:=[]) Κ mixed λη I=>?_;simp;(repeat (rw[bD];simp[ε,n1,j0,aH,rf,pV,lq,tZ,ua]));try rw[bC]
   refine gU (az.p (Wt x y) (aK.refl _) (by simp) (by simp)) ?_;simp;(repeat (rw[bD];simp));try rw[bC]
   refine⟨bW (by kernel_rfl),I _ _ ?_⟩;by_cases hm:x<y
   ·refine al (by simp[hm]) ?_
    repeat apply κ
    refine W.draw (A:=[]) Κ mixed λη I=>?_;simp;(repeat (rw[bD];simp[ε,n1,j0,aH,rf,pV,lq,tZ,ua,Aw]));try rw[bC]
    refine⟨bW (by kernel_rfl),I _ _ ?_⟩;(repeat (first|apply κ|(refine ξ λη I=>?_;simp;(repeat (rw[δ];simp));apply I)));refine W.to (eg (p,Go.Sort.swp f j p) ⟨Ax,by simp;omega,?_⟩ (by simp;omega)) ?_ ?_
    ·rw[<-aV,un,if_pos (by simp[ax,Go.Sort.ltInt,hm])]
    ·rw[n2]
    ·simp[n1]
   ·refine aj (by simp[hm]) ?_;refine W.exit rfl ?_;(repeat (first|apply κ|(refine ξ λη I=>?_;simp;(repeat (rw[δ];simp));apply I)));refine W.to (Δ (i+1,f) ⟨Ρ,go (by rw[un,if_neg (by simp[ax,Go.Sort.ltInt,hm])])⟩ (by simp;omega)) (by rw[Ay]) ?_;have:=gl (show i+1<2 ^ 62 by omega);simpa using this
  ·have un:Go.Sort.insInner (Go.Sort.ltInt) a j f=f:=by
    cases j with
    | zero=>rfl
    | succ p=>rw[Go.Sort.insInner];simp[ε]
   refine W.draw (A:=[]) Κ mixed λη I=>?_;simp;(repeat (rw[bD];simp[ε]));try rw[bC]
   refine⟨bW (by kernel_rfl),I _ _ ?_⟩;refine aj rfl ?_;refine W.exit rfl ?_;(repeat (first|apply κ|(refine ξ λη I=>?_;simp;(repeat (rw[δ];simp));apply I)));refine W.to (Δ (i+1,f) ⟨Ρ,go un⟩ (by simp;omega)) (by rw[aD]) ?_;have:=gl (show i+1<2 ^ 62 by omega);simpa using this
 ·refine aj (by simp[ζ]) ?_;refine W.exit rfl ?_;have Ζ:Go.Sort.insOuter (Go.Sort.ltInt) a b i e=e:=by rw[Go.Sort.insOuter,if_neg ζ]
  exact W.nil ⟨_,rfl,rfl,by rw[<-γ,Ζ]⟩
end Go.TL
