import Derived.Test.YtlabjopijpkiaaaGreatSAN
set_option maxHeartbeats 16000000
set_option maxRecDepth 20000
set_option linter.unusedSectionVars false
set_option linter.unusedSimpArgs false
set_option linter.unusedVariables false
namespace Go.TL
open Go.Proofs
variable [bm]
instance:Inhabited Found:=⟨⟨0,0,[]⟩⟩
theorem Oi (d:Array (Int×Int)) (n a b:Nat) (Η:d.size=n) (ξ:a<=b) (hb:b<=n) (ο:n<2 ^ 40) (an:θ) (cmp:Int×Int->Int×Int->Int) (bV:au 0 an) (Φ:∀x y,gj Tryz.prog an [az x,az y] (R (cmp x y))) :
  ak Tryz.prog 234 [.ms 0 n 0 n,R a,R b,an] [.cells 112 2 (d.toList.map az)] (λr s=>r=.bn []/\s=[.cells 112 2 ((Go.Sort.insertionSort (av cmp) d a b).toList.map az)]) (λ_ _=>False):=by
 refine ak.body Ι Tryz.func234 rfl rfl Tryz.ntmps234 rfl rfl (by simp) ?_;(repeat (first|apply κ|(refine ν λη I=>?_;simp;(repeat (rw[δ];simp));apply I)));have jG:=fJ (show a+1<2 ^ 62 by omega);refine W.iter (λq:Nat×Array (Int×Int)=>q.2.size=n/\Go.Sort.insOuter (av cmp) a b q.1 q.2=Go.Sort.insertionSort (av cmp) d a b) (λq=>[(0,.ms 0 n 0 n),(1,R a),(2,R b),(3,an),(8,R q.1)]) (λq=>[.cells 112 2 (q.2.toList.map az)]) (λq=>b-q.1) (a+1,d) ⟨Η,rfl⟩ rfl (by simpa using jG) (λq hi Δ=>?_);obtain⟨i,e⟩:=q;obtain⟨J,γ⟩:=hi;simp only at J γ;(repeat (first|apply κ|(refine ν λη I=>?_;simp;(repeat (rw[δ];simp));apply I)));by_cases ζ:i<b
 ·refine aj (by simp[ζ]) ?_;(repeat (first|apply κ|(refine ν λη I=>?_;simp;(repeat (rw[δ];simp));apply I)));refine W.iter (λq:Nat×Array (Int×Int)=>q.2.size=n/\q.1<=i/\Go.Sort.insInner (av cmp) a q.1 q.2=Go.Sort.insInner (av cmp) a i e) (λq=>[(0,.ms 0 n 0 n),(1,R a),(2,R b),(3,an),(8,R i),(9,R q.1)]) (λq=>[.cells 112 2 (q.2.toList.map az)]) (λq=>q.1) (i,e) ⟨J,Nat.le_refl _,rfl⟩ rfl (by simp) (λq ε fK=>?_);obtain⟨j,f⟩:=q;obtain⟨Τ,af,aX⟩:=ε;simp only at Τ af aX;have go:Go.Sort.insInner (av cmp) a j f=f->Go.Sort.insOuter (av cmp) a b (i+1) f=Go.Sort.insertionSort (av cmp) d a b:=λhd=>by
   rw[<-γ,<-hd,aX];conv=>rhs;rw[Go.Sort.insOuter,if_pos ζ]
  obtain⟨L,aC⟩:∃L,L=f.toList.map az:=⟨_,rfl⟩;have jH:L.length=n:=by rw[aC];simpa using Τ
  refine W.to (σ':=[.cells 112 2 L]) (env':=[(0,.ms 0 n 0 n),(1,R a),(2,R b),(3,an),(8,R i),(9,R j)]) ?_ (by rw[aC]) (by simp)
  repeat apply κ
  by_cases ε:a<j
  ·obtain⟨p,ψ⟩:∃p,j=p+1:=⟨j-1,by omega⟩;have oe:IntKind.i64.wrap ((j:Int)-1)=(p:Int):=by have:=fJ (show p<2 ^ 62 by omega);rw[ψ];simpa using this
   have aD:j<n:=by omega
   have rp:p<n:=by omega
   have qf:¬j=p:=by omega
   obtain⟨x,U⟩:∃x,x=f[j]!:=⟨_,rfl⟩;obtain⟨y,Ξ⟩:∃y,y=f[p]!:=⟨_,rfl⟩;have qg:L[j]?=some (az x):=by rw[aC,U,List.getElem?_map,Array.getElem?_toList,sQ (by omega)];rfl
   have lG:L[p]?=some (az y):=by rw[aC,Ξ,List.getElem?_map,Array.getElem?_toList,sQ (by omega)];rfl
   have ug:∀h:j<L.length,L[j]=az x:=λh=>by have:=qg;rw[aW h] at this;exact Option.some.inj this
   have uh:∀h:p<L.length,L[p]=az y:=λh=>by have:=lG;rw[aW h] at this;exact Option.some.inj this
   have un:Go.Sort.insInner (av cmp) a j f=if av cmp x y=true then Go.Sort.insInner (av cmp) a p (Go.Sort.swp f j p) else f:=by
    subst ψ;rw[Go.Sort.insInner,U,Ξ];simp[ε]
   have og:(Go.Sort.swp f j p).toList.map az=(L.set j (az y)).set p (az x):=by rw[aC,U,Ξ];simp[Go.Sort.swp]
   have Af:(Go.Sort.swp f j p).size=n:=by simp[Go.Sort.swp,Τ]
   have Ag:=aC;clear U Ξ;refine W.draw (A:=[]) Ι mixed λη I=>?_;simp;(repeat (rw[ba];simp[ε,oe,jH,aD,rp,qg,lG,ug,uh]));try rw[a']
   refine fI (Φ x y) ?_;simp;(repeat (rw[ba];simp));try rw[a']
   refine⟨bK (by kernel_rfl),I _ _ ?_⟩;by_cases hm:cmp x y<0
   ·refine aj (by simp[hm]) ?_
    repeat apply κ
    refine W.draw (A:=[]) Ι mixed λη I=>?_;simp;(repeat (rw[ba];simp[ε,oe,jH,aD,rp,qg,lG,ug,uh,qf]));try rw[a']
    refine⟨bK (by kernel_rfl),I _ _ ?_⟩;(repeat (first|apply κ|(refine ν λη I=>?_;simp;(repeat (rw[δ];simp));apply I)));refine W.to (fK (p,Go.Sort.swp f j p) ⟨Af,by simp;omega,?_⟩ (by simp;omega)) ?_ ?_
    ·rw[<-aX,un,if_pos (by simp[av,Go.Sort.ltInt,hm])]
    ·rw[og]
    ·simp[oe]
   ·refine ah (by simp[hm]) ?_;refine W.exit rfl ?_;(repeat (first|apply κ|(refine ν λη I=>?_;simp;(repeat (rw[δ];simp));apply I)));refine W.to (Δ (i+1,f) ⟨Τ,go (by rw[un,if_neg (by simp[av,Go.Sort.ltInt,hm])])⟩ (by simp;omega)) (by rw[Ag]) ?_;have:=fJ (show i+1<2 ^ 62 by omega);simpa using this
  ·have un:Go.Sort.insInner (av cmp) a j f=f:=by
    cases j with
    | zero=>rfl
    | succ p=>rw[Go.Sort.insInner];simp[ε]
   refine W.draw (A:=[]) Ι mixed λη I=>?_;simp;(repeat (rw[ba];simp[ε]));try rw[a']
   refine⟨bK (by kernel_rfl),I _ _ ?_⟩;refine ah rfl ?_;refine W.exit rfl ?_;(repeat (first|apply κ|(refine ν λη I=>?_;simp;(repeat (rw[δ];simp));apply I)));refine W.to (Δ (i+1,f) ⟨Τ,go un⟩ (by simp;omega)) (by rw[aC]) ?_;have:=fJ (show i+1<2 ^ 62 by omega);simpa using this
 ·refine ah (by simp[ζ]) ?_;refine W.exit rfl ?_;have Ε:Go.Sort.insOuter (av cmp) a b i e=e:=by rw[Go.Sort.insOuter,if_neg ζ]
  exact W.nil ⟨_,rfl,rfl,by rw[<-γ,Ε]⟩
theorem XQ (d:Array (Found)) (n a b:Nat) (Η:d.size=n) (ξ:a<=b) (hb:b<=n) (ο:n<2 ^ 40) (an:θ) (cmp:Found->Found->Int) (bV:au 0 an) (Φ:∀x y,gj Tryz.prog an [c7 x,c7 y] (R (cmp x y))) :
  ak Tryz.prog 217 [.ms 0 n 0 n,R a,R b,an] [.cells 110 3 (d.toList.map c7)] (λr s=>r=.bn []/\s=[.cells 110 3 ((Go.Sort.insertionSort (av cmp) d a b).toList.map c7)]) (λ_ _=>False):=by
 refine ak.body Ι Tryz.func217 rfl rfl Tryz.ntmps217 rfl rfl (by simp) ?_;(repeat (first|apply κ|(refine ν λη I=>?_;simp;(repeat (rw[δ];simp));apply I)));have jG:=fJ (show a+1<2 ^ 62 by omega);refine W.iter (λq:Nat×Array (Found)=>q.2.size=n/\Go.Sort.insOuter (av cmp) a b q.1 q.2=Go.Sort.insertionSort (av cmp) d a b) (λq=>[(0,.ms 0 n 0 n),(1,R a),(2,R b),(3,an),(8,R q.1)]) (λq=>[.cells 110 3 (q.2.toList.map c7)]) (λq=>b-q.1) (a+1,d) ⟨Η,rfl⟩ rfl (by simpa using jG) (λq hi Δ=>?_);obtain⟨i,e⟩:=q;obtain⟨J,γ⟩:=hi;simp only at J γ;(repeat (first|apply κ|(refine ν λη I=>?_;simp;(repeat (rw[δ];simp));apply I)));by_cases ζ:i<b
 ·refine aj (by simp[ζ]) ?_;(repeat (first|apply κ|(refine ν λη I=>?_;simp;(repeat (rw[δ];simp));apply I)));refine W.iter (λq:Nat×Array (Found)=>q.2.size=n/\q.1<=i/\Go.Sort.insInner (av cmp) a q.1 q.2=Go.Sort.insInner (av cmp) a i e) (λq=>[(0,.ms 0 n 0 n),(1,R a),(2,R b),(3,an),(8,R i),(9,R q.1)]) (λq=>[.cells 110 3 (q.2.toList.map c7)]) (λq=>q.1) (i,e) ⟨J,Nat.le_refl _,rfl⟩ rfl (by simp) (λq ε fK=>?_);obtain⟨j,f⟩:=q;obtain⟨Τ,af,aX⟩:=ε;simp only at Τ af aX;have go:Go.Sort.insInner (av cmp) a j f=f->Go.Sort.insOuter (av cmp) a b (i+1) f=Go.Sort.insertionSort (av cmp) d a b:=λhd=>by
   rw[<-γ,<-hd,aX];conv=>rhs;rw[Go.Sort.insOuter,if_pos ζ]
  obtain⟨L,aC⟩:∃L,L=f.toList.map c7:=⟨_,rfl⟩;have jH:L.length=n:=by rw[aC];simpa using Τ
  refine W.to (σ':=[.cells 110 3 L]) (env':=[(0,.ms 0 n 0 n),(1,R a),(2,R b),(3,an),(8,R i),(9,R j)]) ?_ (by rw[aC]) (by simp)
  repeat apply κ
  by_cases ε:a<j
  ·obtain⟨p,ψ⟩:∃p,j=p+1:=⟨j-1,by omega⟩;have oe:IntKind.i64.wrap ((j:Int)-1)=(p:Int):=by have:=fJ (show p<2 ^ 62 by omega);rw[ψ];simpa using this
   have aD:j<n:=by omega
   have rp:p<n:=by omega
   have qf:¬j=p:=by omega
   obtain⟨x,U⟩:∃x,x=f[j]!:=⟨_,rfl⟩;obtain⟨y,Ξ⟩:∃y,y=f[p]!:=⟨_,rfl⟩;have qg:L[j]?=some (c7 x):=by rw[aC,U,List.getElem?_map,Array.getElem?_toList,sQ (by omega)];rfl
   have lG:L[p]?=some (c7 y):=by rw[aC,Ξ,List.getElem?_map,Array.getElem?_toList,sQ (by omega)];rfl
   have ug:∀h:j<L.length,L[j]=c7 x:=λh=>by have:=qg;rw[aW h] at this;exact Option.some.inj this
   have uh:∀h:p<L.length,L[p]=c7 y:=λh=>by have:=lG;rw[aW h] at this;exact Option.some.inj this
   have un:Go.Sort.insInner (av cmp) a j f=if av cmp x y=true then Go.Sort.insInner (av cmp) a p (Go.Sort.swp f j p) else f:=by
    subst ψ;rw[Go.Sort.insInner,U,Ξ];simp[ε]
   have og:(Go.Sort.swp f j p).toList.map c7=(L.set j (c7 y)).set p (c7 x):=by rw[aC,U,Ξ];simp[Go.Sort.swp]
   have Af:(Go.Sort.swp f j p).size=n:=by simp[Go.Sort.swp,Τ]
   have Ag:=aC;clear U Ξ;refine W.draw (A:=[]) Ι mixed λη I=>?_;simp;(repeat (rw[ba];simp[ε,oe,jH,aD,rp,qg,lG,ug,uh]));try rw[a']
   refine fI (Φ x y) ?_;simp;(repeat (rw[ba];simp));try rw[a']
   refine⟨bK (by kernel_rfl),I _ _ ?_⟩;by_cases hm:cmp x y<0
   ·refine aj (by simp[hm]) ?_
    repeat apply κ
    refine W.draw (A:=[]) Ι mixed λη I=>?_;simp;(repeat (rw[ba];simp[ε,oe,jH,aD,rp,qg,lG,ug,uh,qf]));try rw[a']
    refine⟨bK (by kernel_rfl),I _ _ ?_⟩;(repeat (first|apply κ|(refine ν λη I=>?_;simp;(repeat (rw[δ];simp));apply I)));refine W.to (fK (p,Go.Sort.swp f j p) ⟨Af,by simp;omega,?_⟩ (by simp;omega)) ?_ ?_
    ·rw[<-aX,un,if_pos (by simp[av,Go.Sort.ltInt,hm])]
    ·rw[og]
    ·simp[oe]
   ·refine ah (by simp[hm]) ?_;refine W.exit rfl ?_;(repeat (first|apply κ|(refine ν λη I=>?_;simp;(repeat (rw[δ];simp));apply I)));refine W.to (Δ (i+1,f) ⟨Τ,go (by rw[un,if_neg (by simp[av,Go.Sort.ltInt,hm])])⟩ (by simp;omega)) (by rw[Ag]) ?_;have:=fJ (show i+1<2 ^ 62 by omega);simpa using this
  ·have un:Go.Sort.insInner (av cmp) a j f=f:=by
    cases j with
    | zero=>rfl
    | succ p=>rw[Go.Sort.insInner];simp[ε]
   refine W.draw (A:=[]) Ι mixed λη I=>?_;simp;(repeat (rw[ba];simp[ε]));try rw[a']
   refine⟨bK (by kernel_rfl),I _ _ ?_⟩;refine ah rfl ?_;refine W.exit rfl ?_;(repeat (first|apply κ|(refine ν λη I=>?_;simp;(repeat (rw[δ];simp));apply I)));refine W.to (Δ (i+1,f) ⟨Τ,go un⟩ (by simp;omega)) (by rw[aC]) ?_;have:=fJ (show i+1<2 ^ 62 by omega);simpa using this
 ·refine ah (by simp[ζ]) ?_;refine W.exit rfl ?_;have Ε:Go.Sort.insOuter (av cmp) a b i e=e:=by rw[Go.Sort.insOuter,if_neg ζ]
  exact W.nil ⟨_,rfl,rfl,by rw[<-γ,Ε]⟩
theorem XR (d:Array (Int)) (n a b:Nat) (Η:d.size=n) (ξ:a<=b) (hb:b<=n) (ο:n<2 ^ 40)  :
  ak Tryz.prog 197 [.ms 0 n 0 n,R a,R b] [.cells 3 1 (d.toList.map R)] (λr s=>r=.bn []/\s=[.cells 3 1 ((Go.Sort.insertionSort (Go.Sort.ltInt) d a b).toList.map R)]) (λ_ _=>False):=by
 refine ak.body Ι Tryz.func197 rfl rfl Tryz.ntmps197 rfl rfl (by simp) ?_;(repeat (first|apply κ|(refine ν λη I=>?_;simp;(repeat (rw[δ];simp));apply I)));have jG:=fJ (show a+1<2 ^ 62 by omega);refine W.iter (λq:Nat×Array (Int)=>q.2.size=n/\Go.Sort.insOuter (Go.Sort.ltInt) a b q.1 q.2=Go.Sort.insertionSort (Go.Sort.ltInt) d a b) (λq=>[(0,.ms 0 n 0 n),(1,R a),(2,R b),(6,R q.1)]) (λq=>[.cells 3 1 (q.2.toList.map R)]) (λq=>b-q.1) (a+1,d) ⟨Η,rfl⟩ rfl (by simpa using jG) (λq hi Δ=>?_);obtain⟨i,e⟩:=q;obtain⟨J,γ⟩:=hi;simp only at J γ;(repeat (first|apply κ|(refine ν λη I=>?_;simp;(repeat (rw[δ];simp));apply I)));by_cases ζ:i<b
 ·refine aj (by simp[ζ]) ?_;(repeat (first|apply κ|(refine ν λη I=>?_;simp;(repeat (rw[δ];simp));apply I)));refine W.iter (λq:Nat×Array (Int)=>q.2.size=n/\q.1<=i/\Go.Sort.insInner (Go.Sort.ltInt) a q.1 q.2=Go.Sort.insInner (Go.Sort.ltInt) a i e) (λq=>[(0,.ms 0 n 0 n),(1,R a),(2,R b),(6,R i),(7,R q.1)]) (λq=>[.cells 3 1 (q.2.toList.map R)]) (λq=>q.1) (i,e) ⟨J,Nat.le_refl _,rfl⟩ rfl (by simp) (λq ε fK=>?_);obtain⟨j,f⟩:=q;obtain⟨Τ,af,aX⟩:=ε;simp only at Τ af aX;have go:Go.Sort.insInner (Go.Sort.ltInt) a j f=f->Go.Sort.insOuter (Go.Sort.ltInt) a b (i+1) f=Go.Sort.insertionSort (Go.Sort.ltInt) d a b:=λhd=>by
   rw[<-γ,<-hd,aX];conv=>rhs;rw[Go.Sort.insOuter,if_pos ζ]
  obtain⟨L,aC⟩:∃L,L=f.toList.map R:=⟨_,rfl⟩;have jH:L.length=n:=by rw[aC];simpa using Τ
  refine W.to (σ':=[.cells 3 1 L]) (env':=[(0,.ms 0 n 0 n),(1,R a),(2,R b),(6,R i),(7,R j)]) ?_ (by rw[aC]) (by simp)
  repeat apply κ
  by_cases ε:a<j
  ·obtain⟨p,ψ⟩:∃p,j=p+1:=⟨j-1,by omega⟩;have oe:IntKind.i64.wrap ((j:Int)-1)=(p:Int):=by have:=fJ (show p<2 ^ 62 by omega);rw[ψ];simpa using this
   have aD:j<n:=by omega
   have rp:p<n:=by omega
   have qf:¬j=p:=by omega
   obtain⟨x,U⟩:∃x,x=f[j]!:=⟨_,rfl⟩;obtain⟨y,Ξ⟩:∃y,y=f[p]!:=⟨_,rfl⟩;have qg:L[j]?=some (R x):=by rw[aC,U,List.getElem?_map,Array.getElem?_toList,sQ (by omega)];rfl
   have lG:L[p]?=some (R y):=by rw[aC,Ξ,List.getElem?_map,Array.getElem?_toList,sQ (by omega)];rfl
   have ug:∀h:j<L.length,L[j]=R x:=λh=>by have:=qg;rw[aW h] at this;exact Option.some.inj this
   have uh:∀h:p<L.length,L[p]=R y:=λh=>by have:=lG;rw[aW h] at this;exact Option.some.inj this
   have un:Go.Sort.insInner (Go.Sort.ltInt) a j f=if Go.Sort.ltInt x y=true then Go.Sort.insInner (Go.Sort.ltInt) a p (Go.Sort.swp f j p) else f:=by
    subst ψ;rw[Go.Sort.insInner,U,Ξ];simp[ε]
   have og:(Go.Sort.swp f j p).toList.map R=(L.set j (R y)).set p (R x):=by rw[aC,U,Ξ];simp[Go.Sort.swp]
   have Af:(Go.Sort.swp f j p).size=n:=by simp[Go.Sort.swp,Τ]
   have Ag:=aC;clear U Ξ;refine W.draw (A:=[]) Ι mixed λη I=>?_;simp;(repeat (rw[ba];simp[ε,oe,jH,aD,rp,qg,lG,ug,uh]));try rw[a']
   refine fI (ay.p (XN x y) (aK.refl _) (by simp) (by simp)) ?_;simp;(repeat (rw[ba];simp));try rw[a']
   refine⟨bK (by kernel_rfl),I _ _ ?_⟩;by_cases hm:x<y
   ·refine aj (by simp[hm]) ?_
    repeat apply κ
    refine W.draw (A:=[]) Ι mixed λη I=>?_;simp;(repeat (rw[ba];simp[ε,oe,jH,aD,rp,qg,lG,ug,uh,qf]));try rw[a']
    refine⟨bK (by kernel_rfl),I _ _ ?_⟩;(repeat (first|apply κ|(refine ν λη I=>?_;simp;(repeat (rw[δ];simp));apply I)));refine W.to (fK (p,Go.Sort.swp f j p) ⟨Af,by simp;omega,?_⟩ (by simp;omega)) ?_ ?_
    ·rw[<-aX,un,if_pos (by simp[av,Go.Sort.ltInt,hm])]
    ·rw[og]
    ·simp[oe]
   ·refine ah (by simp[hm]) ?_;refine W.exit rfl ?_;(repeat (first|apply κ|(refine ν λη I=>?_;simp;(repeat (rw[δ];simp));apply I)));refine W.to (Δ (i+1,f) ⟨Τ,go (by rw[un,if_neg (by simp[av,Go.Sort.ltInt,hm])])⟩ (by simp;omega)) (by rw[Ag]) ?_;have:=fJ (show i+1<2 ^ 62 by omega);simpa using this
  ·have un:Go.Sort.insInner (Go.Sort.ltInt) a j f=f:=by
    cases j with
    | zero=>rfl
    | succ p=>rw[Go.Sort.insInner];simp[ε]
   refine W.draw (A:=[]) Ι mixed λη I=>?_;simp;(repeat (rw[ba];simp[ε]));try rw[a']
   refine⟨bK (by kernel_rfl),I _ _ ?_⟩;refine ah rfl ?_;refine W.exit rfl ?_;(repeat (first|apply κ|(refine ν λη I=>?_;simp;(repeat (rw[δ];simp));apply I)));refine W.to (Δ (i+1,f) ⟨Τ,go un⟩ (by simp;omega)) (by rw[aC]) ?_;have:=fJ (show i+1<2 ^ 62 by omega);simpa using this
 ·refine ah (by simp[ζ]) ?_;refine W.exit rfl ?_;have Ε:Go.Sort.insOuter (Go.Sort.ltInt) a b i e=e:=by rw[Go.Sort.insOuter,if_neg ζ]
  exact W.nil ⟨_,rfl,rfl,by rw[<-γ,Ε]⟩
end Go.TL
