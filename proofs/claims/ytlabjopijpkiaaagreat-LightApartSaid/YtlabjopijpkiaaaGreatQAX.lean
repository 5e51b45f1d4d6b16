import Derived.Test.YtlabjopijpkiaaaGreatQAW
set_option maxHeartbeats 16000000
set_option maxRecDepth 20000
set_option linter.unusedSectionVars false
set_option linter.unusedSimpArgs false
set_option linter.unusedVariables false
namespace Go.TL
open Go.Proofs
variable [bd]
instance:Inhabited Found:=⟨⟨0,0,[]⟩⟩
theorem L4 (d:Array (Int×Int)) (n a b:Nat) (Η:d.size=n) (μ:a≤b) (hb:b≤n) (ξ:n<2 ^ 40) (ai:θ) (cmp:Int×Int→Int×Int→Int) (bR:az 0 ai) (Ρ:∀x y,fT Tryz.prog ai [ax x,ax y] (U (cmp x y))) :
  ak Tryz.prog 234 [.ms 0 n 0 n,U a,U b,ai] [.cells 112 2 (d.toList.map ax)] (fun r s=>r=.bt []∧s=[.cells 112 2 ((Go.Sort.insertionSort (ar cmp) d a b).toList.map ax)]) (fun _ _=>False):=by
 refine ak.body Θ Tryz.func234 rfl rfl Tryz.ntmps234 rfl rfl (by simp) ?_;(repeat (first|apply ι|(refine ν fun J I=>?_;simp;(repeat (rw[ζ];simp));apply I;clear I J)));have kp:=fy (show a+1<2 ^ 62 by omega);refine W.iter (fun q:Nat×Array (Int×Int)=>q.2.size=n∧Go.Sort.insOuter (ar cmp) a b q.1 q.2=Go.Sort.insertionSort (ar cmp) d a b) (fun q=>[(0,.ms 0 n 0 n),(1,U a),(2,U b),(3,ai),(8,U q.1)]) (fun q=>[.cells 112 2 (q.2.toList.map ax)]) (fun q=>b-q.1) (a+1,d) ⟨Η,rfl⟩ rfl (by simpa using kp) (fun q hi Γ=>?_);obtain⟨i,e⟩:=q;obtain⟨R,γ⟩:=hi;simp only at R γ;(repeat (first|apply ι|(refine ν fun J I=>?_;simp;(repeat (rw[ζ];simp));apply I;clear I J)));by_cases η:i<b
 ·refine al (by simp[η]) ?_;(repeat (first|apply ι|(refine ν fun J I=>?_;simp;(repeat (rw[ζ];simp));apply I;clear I J)));refine W.iter (fun q:Nat×Array (Int×Int)=>q.2.size=n∧q.1≤i∧Go.Sort.insInner (ar cmp) a q.1 q.2=Go.Sort.insInner (ar cmp) a i e) (fun q=>[(0,.ms 0 n 0 n),(1,U a),(2,U b),(3,ai),(8,U i),(9,U q.1)]) (fun q=>[.cells 112 2 (q.2.toList.map ax)]) (fun q=>q.1) (i,e) ⟨R,Nat.le_refl _,rfl⟩ rfl (by simp) (fun q ε gq=>?_);obtain⟨j,f⟩:=q;obtain⟨Ξ,ad,aT⟩:=ε;simp only at Ξ ad aT;have go:Go.Sort.insInner (ar cmp) a j f=f→Go.Sort.insOuter (ar cmp) a b (i+1) f=Go.Sort.insertionSort (ar cmp) d a b:=fun hd=>by
   rw[←γ,←hd,aT];conv=>rhs;rw[Go.Sort.insOuter,if_pos η]
  obtain⟨L,aD⟩:∃L,L=f.toList.map ax:=⟨_,rfl⟩;have jA:L.length=n:=by rw[aD];simpa using Ξ
  refine W.to (σ':=[.cells 112 2 L]) (env':=[(0,.ms 0 n 0 n),(1,U a),(2,U b),(3,ai),(8,U i),(9,U j)]) ?_ (by rw[aD]) (by simp)
  repeat (first|apply ι)
  by_cases ε:a<j
  ·obtain⟨p,χ⟩:∃p,j=p+1:=⟨j-1,by omega⟩;have ns:IntKind.i64.wrap ((j:Int)-1)=(p:Int):=by have:=fy (show p<2 ^ 62 by omega);rw[χ];simpa using this
   have aE:j<n:=by omega
   have qv:p<n:=by omega
   have zc:¬j=p:=by omega
   obtain⟨x,δ⟩:∃x,x=f[j]!:=⟨_,rfl⟩;obtain⟨y,Ο⟩:∃y,y=f[p]!:=⟨_,rfl⟩;have pf:L[j]?=some (ax x):=by rw[aD,δ,List.getElem?_map,Array.getElem?_toList,rJ (by omega)];rfl
   have kR:L[p]?=some (ax y):=by rw[aD,Ο,List.getElem?_map,Array.getElem?_toList,rJ (by omega)];rfl
   have sU:∀h:j<L.length,L[j]=ax x:=fun h=>by have:=pf;rw[bc h] at this;exact Option.some.inj this
   have sV:∀h:p<L.length,L[p]=ax y:=fun h=>by have:=kR;rw[bc h] at this;exact Option.some.inj this
   have un:Go.Sort.insInner (ar cmp) a j f=if ar cmp x y=true then Go.Sort.insInner (ar cmp) a p (Go.Sort.swp f j p) else f:=by
    subst χ;rw[Go.Sort.insInner,δ,Ο];simp[ε]
   have nu:(Go.Sort.swp f j p).toList.map ax=(L.set j (ax y)).set p (ax x):=by rw[aD,δ,Ο];simp[Go.Sort.swp]
   have zd:(Go.Sort.swp f j p).size=n:=by simp[Go.Sort.swp,Ξ]
   have ze:=aD;clear δ Ο;refine W.draw (A:=[]) Θ mixed fun J I=>?_;simp;(repeat (rw[bp];simp[ε,ns,jA,aE,qv,pf,kR,sU,sV]));refine gn (Ρ x y) ?_;simp;(repeat (rw[bp];simp));refine⟨bL (by kernel_rfl),I _ _ ?_⟩;clear I J;by_cases hm:cmp x y<0
   ·refine al (by simp[hm]) ?_
    repeat (first|apply ι)
    refine W.draw (A:=[]) Θ mixed fun J I=>?_;simp;(repeat (rw[bp];simp[ε,ns,jA,aE,qv,pf,kR,sU,sV,zc]));refine⟨bL (by kernel_rfl),I _ _ ?_⟩;clear I J;(repeat (first|apply ι|(refine ν fun J I=>?_;simp;(repeat (rw[ζ];simp));apply I;clear I J)));refine W.to (gq (p,Go.Sort.swp f j p) ⟨zd,by simp;omega,?_⟩ (by simp;omega)) ?_ ?_
    ·rw[←aT,un,if_pos (by simp[ar,Go.Sort.ltInt,hm])]
    ·rw[nu]
    ·simp[ns]
   ·refine ah (by simp[hm]) ?_;refine W.exit rfl ?_;(repeat (first|apply ι|(refine ν fun J I=>?_;simp;(repeat (rw[ζ];simp));apply I;clear I J)));refine W.to (Γ (i+1,f) ⟨Ξ,go (by rw[un,if_neg (by simp[ar,Go.Sort.ltInt,hm])])⟩ (by simp;omega)) (by rw[ze]) ?_;have:=fy (show i+1<2 ^ 62 by omega);simpa using this
  ·have un:Go.Sort.insInner (ar cmp) a j f=f:=by
    cases j with
    | zero=>rfl
    | succ p=>rw[Go.Sort.insInner];simp[ε]
   refine W.draw (A:=[]) Θ mixed fun J I=>?_;simp;(repeat (rw[bp];simp[ε]));refine⟨bL (by kernel_rfl),I _ _ ?_⟩;clear I J;refine ah rfl ?_;refine W.exit rfl ?_;(repeat (first|apply ι|(refine ν fun J I=>?_;simp;(repeat (rw[ζ];simp));apply I;clear I J)));refine W.to (Γ (i+1,f) ⟨Ξ,go un⟩ (by simp;omega)) (by rw[aD]) ?_;have:=fy (show i+1<2 ^ 62 by omega);simpa using this
 ·refine ah (by simp[η]) ?_;refine W.exit rfl ?_;have Δ:Go.Sort.insOuter (ar cmp) a b i e=e:=by rw[Go.Sort.insOuter,if_neg η]
  exact W.nil ⟨_,rfl,rfl,by rw[←γ,Δ]⟩
theorem UI (d:Array (Found)) (n a b:Nat) (Η:d.size=n) (μ:a≤b) (hb:b≤n) (ξ:n<2 ^ 40) (ai:θ) (cmp:Found→Found→Int) (bR:az 0 ai) (Ρ:∀x y,fT Tryz.prog ai [cX x,cX y] (U (cmp x y))) :
  ak Tryz.prog 217 [.ms 0 n 0 n,U a,U b,ai] [.cells 110 3 (d.toList.map cX)] (fun r s=>r=.bt []∧s=[.cells 110 3 ((Go.Sort.insertionSort (ar cmp) d a b).toList.map cX)]) (fun _ _=>False):=by
 refine ak.body Θ Tryz.func217 rfl rfl Tryz.ntmps217 rfl rfl (by simp) ?_;(repeat (first|apply ι|(refine ν fun J I=>?_;simp;(repeat (rw[ζ];simp));apply I;clear I J)));have kp:=fy (show a+1<2 ^ 62 by omega);refine W.iter (fun q:Nat×Array (Found)=>q.2.size=n∧Go.Sort.insOuter (ar cmp) a b q.1 q.2=Go.Sort.insertionSort (ar cmp) d a b) (fun q=>[(0,.ms 0 n 0 n),(1,U a),(2,U b),(3,ai),(8,U q.1)]) (fun q=>[.cells 110 3 (q.2.toList.map cX)]) (fun q=>b-q.1) (a+1,d) ⟨Η,rfl⟩ rfl (by simpa using kp) (fun q hi Γ=>?_);obtain⟨i,e⟩:=q;obtain⟨R,γ⟩:=hi;simp only at R γ;(repeat (first|apply ι|(refine ν fun J I=>?_;simp;(repeat (rw[ζ];simp));apply I;clear I J)));by_cases η:i<b
 ·refine al (by simp[η]) ?_;(repeat (first|apply ι|(refine ν fun J I=>?_;simp;(repeat (rw[ζ];simp));apply I;clear I J)));refine W.iter (fun q:Nat×Array (Found)=>q.2.size=n∧q.1≤i∧Go.Sort.insInner (ar cmp) a q.1 q.2=Go.Sort.insInner (ar cmp) a i e) (fun q=>[(0,.ms 0 n 0 n),(1,U a),(2,U b),(3,ai),(8,U i),(9,U q.1)]) (fun q=>[.cells 110 3 (q.2.toList.map cX)]) (fun q=>q.1) (i,e) ⟨R,Nat.le_refl _,rfl⟩ rfl (by simp) (fun q ε gq=>?_);obtain⟨j,f⟩:=q;obtain⟨Ξ,ad,aT⟩:=ε;simp only at Ξ ad aT;have go:Go.Sort.insInner (ar cmp) a j f=f→Go.Sort.insOuter (ar cmp) a b (i+1) f=Go.Sort.insertionSort (ar cmp) d a b:=fun hd=>by
   rw[←γ,←hd,aT];conv=>rhs;rw[Go.Sort.insOuter,if_pos η]
  obtain⟨L,aD⟩:∃L,L=f.toList.map cX:=⟨_,rfl⟩;have jA:L.length=n:=by rw[aD];simpa using Ξ
  refine W.to (σ':=[.cells 110 3 L]) (env':=[(0,.ms 0 n 0 n),(1,U a),(2,U b),(3,ai),(8,U i),(9,U j)]) ?_ (by rw[aD]) (by simp)
  repeat (first|apply ι)
  by_cases ε:a<j
  ·obtain⟨p,χ⟩:∃p,j=p+1:=⟨j-1,by omega⟩;have ns:IntKind.i64.wrap ((j:Int)-1)=(p:Int):=by have:=fy (show p<2 ^ 62 by omega);rw[χ];simpa using this
   have aE:j<n:=by omega
   have qv:p<n:=by omega
   have zc:¬j=p:=by omega
   obtain⟨x,δ⟩:∃x,x=f[j]!:=⟨_,rfl⟩;obtain⟨y,Ο⟩:∃y,y=f[p]!:=⟨_,rfl⟩;have pf:L[j]?=some (cX x):=by rw[aD,δ,List.getElem?_map,Array.getElem?_toList,rJ (by omega)];rfl
   have kR:L[p]?=some (cX y):=by rw[aD,Ο,List.getElem?_map,Array.getElem?_toList,rJ (by omega)];rfl
   have sU:∀h:j<L.length,L[j]=cX x:=fun h=>by have:=pf;rw[bc h] at this;exact Option.some.inj this
   have sV:∀h:p<L.length,L[p]=cX y:=fun h=>by have:=kR;rw[bc h] at this;exact Option.some.inj this
   have un:Go.Sort.insInner (ar cmp) a j f=if ar cmp x y=true then Go.Sort.insInner (ar cmp) a p (Go.Sort.swp f j p) else f:=by
    subst χ;rw[Go.Sort.insInner,δ,Ο];simp[ε]
   have nu:(Go.Sort.swp f j p).toList.map cX=(L.set j (cX y)).set p (cX x):=by rw[aD,δ,Ο];simp[Go.Sort.swp]
   have zd:(Go.Sort.swp f j p).size=n:=by simp[Go.Sort.swp,Ξ]
   have ze:=aD;clear δ Ο;refine W.draw (A:=[]) Θ mixed fun J I=>?_;simp;(repeat (rw[bp];simp[ε,ns,jA,aE,qv,pf,kR,sU,sV]));refine gn (Ρ x y) ?_;simp;(repeat (rw[bp];simp));refine⟨bL (by kernel_rfl),I _ _ ?_⟩;clear I J;by_cases hm:cmp x y<0
   ·refine al (by simp[hm]) ?_
    repeat (first|apply ι)
    refine W.draw (A:=[]) Θ mixed fun J I=>?_;simp;(repeat (rw[bp];simp[ε,ns,jA,aE,qv,pf,kR,sU,sV,zc]));refine⟨bL (by kernel_rfl),I _ _ ?_⟩;clear I J;(repeat (first|apply ι|(refine ν fun J I=>?_;simp;(repeat (rw[ζ];simp));apply I;clear I J)));refine W.to (gq (p,Go.Sort.swp f j p) ⟨zd,by simp;omega,?_⟩ (by simp;omega)) ?_ ?_
    ·rw[←aT,un,if_pos (by simp[ar,Go.Sort.ltInt,hm])]
    ·rw[nu]
    ·simp[ns]
   ·refine ah (by simp[hm]) ?_;refine W.exit rfl ?_;(repeat (first|apply ι|(refine ν fun J I=>?_;simp;(repeat (rw[ζ];simp));apply I;clear I J)));refine W.to (Γ (i+1,f) ⟨Ξ,go (by rw[un,if_neg (by simp[ar,Go.Sort.ltInt,hm])])⟩ (by simp;omega)) (by rw[ze]) ?_;have:=fy (show i+1<2 ^ 62 by omega);simpa using this
  ·have un:Go.Sort.insInner (ar cmp) a j f=f:=by
    cases j with
    | zero=>rfl
    | succ p=>rw[Go.Sort.insInner];simp[ε]
   refine W.draw (A:=[]) Θ mixed fun J I=>?_;simp;(repeat (rw[bp];simp[ε]));refine⟨bL (by kernel_rfl),I _ _ ?_⟩;clear I J;refine ah rfl ?_;refine W.exit rfl ?_;(repeat (first|apply ι|(refine ν fun J I=>?_;simp;(repeat (rw[ζ];simp));apply I;clear I J)));refine W.to (Γ (i+1,f) ⟨Ξ,go un⟩ (by simp;omega)) (by rw[aD]) ?_;have:=fy (show i+1<2 ^ 62 by omega);simpa using this
 ·refine ah (by simp[η]) ?_;refine W.exit rfl ?_;have Δ:Go.Sort.insOuter (ar cmp) a b i e=e:=by rw[Go.Sort.insOuter,if_neg η]
  exact W.nil ⟨_,rfl,rfl,by rw[←γ,Δ]⟩
theorem UJ (d:Array (Int)) (n a b:Nat) (Η:d.size=n) (μ:a≤b) (hb:b≤n) (ξ:n<2 ^ 40)  :
  ak Tryz.prog 197 [.ms 0 n 0 n,U a,U b] [.cells 3 1 (d.toList.map U)] (fun r s=>r=.bt []∧s=[.cells 3 1 ((Go.Sort.insertionSort (Go.Sort.ltInt) d a b).toList.map U)]) (fun _ _=>False):=by
 refine ak.body Θ Tryz.func197 rfl rfl Tryz.ntmps197 rfl rfl (by simp) ?_;(repeat (first|apply ι|(refine ν fun J I=>?_;simp;(repeat (rw[ζ];simp));apply I;clear I J)));have kp:=fy (show a+1<2 ^ 62 by omega);refine W.iter (fun q:Nat×Array (Int)=>q.2.size=n∧Go.Sort.insOuter (Go.Sort.ltInt) a b q.1 q.2=Go.Sort.insertionSort (Go.Sort.ltInt) d a b) (fun q=>[(0,.ms 0 n 0 n),(1,U a),(2,U b),(6,U q.1)]) (fun q=>[.cells 3 1 (q.2.toList.map U)]) (fun q=>b-q.1) (a+1,d) ⟨Η,rfl⟩ rfl (by simpa using kp) (fun q hi Γ=>?_);obtain⟨i,e⟩:=q;obtain⟨R,γ⟩:=hi;simp only at R γ;(repeat (first|apply ι|(refine ν fun J I=>?_;simp;(repeat (rw[ζ];simp));apply I;clear I J)));by_cases η:i<b
 ·refine al (by simp[η]) ?_;(repeat (first|apply ι|(refine ν fun J I=>?_;simp;(repeat (rw[ζ];simp));apply I;clear I J)));refine W.iter (fun q:Nat×Array (Int)=>q.2.size=n∧q.1≤i∧Go.Sort.insInner (Go.Sort.ltInt) a q.1 q.2=Go.Sort.insInner (Go.Sort.ltInt) a i e) (fun q=>[(0,.ms 0 n 0 n),(1,U a),(2,U b),(6,U i),(7,U q.1)]) (fun q=>[.cells 3 1 (q.2.toList.map U)]) (fun q=>q.1) (i,e) ⟨R,Nat.le_refl _,rfl⟩ rfl (by simp) (fun q ε gq=>?_);obtain⟨j,f⟩:=q;obtain⟨Ξ,ad,aT⟩:=ε;simp only at Ξ ad aT;have go:Go.Sort.insInner (Go.Sort.ltInt) a j f=f→Go.Sort.insOuter (Go.Sort.ltInt) a b (i+1) f=Go.Sort.insertionSort (Go.Sort.ltInt) d a b:=fun hd=>by
   rw[←γ,←hd,aT];conv=>rhs;rw[Go.Sort.insOuter,if_pos η]
  obtain⟨L,aD⟩:∃L,L=f.toList.map U:=⟨_,rfl⟩;have jA:L.length=n:=by rw[aD];simpa using Ξ
  refine W.to (σ':=[.cells 3 1 L]) (env':=[(0,.ms 0 n 0 n),(1,U a),(2,U b),(6,U i),(7,U j)]) ?_ (by rw[aD]) (by simp)
  repeat (first|apply ι)
  by_cases ε:a<j
  ·obtain⟨p,χ⟩:∃p,j=p+1:=⟨j-1,by omega⟩;have ns:IntKind.i64.wrap ((j:Int)-1)=(p:Int):=by have:=fy (show p<2 ^ 62 by omega);rw[χ];simpa using this
   have aE:j<n:=by omega
   have qv:p<n:=by omega
   have zc:¬j=p:=by omega
   obtain⟨x,δ⟩:∃x,x=f[j]!:=⟨_,rfl⟩;obtain⟨y,Ο⟩:∃y,y=f[p]!:=⟨_,rfl⟩;have pf:L[j]?=some (U x):=by rw[aD,δ,List.getElem?_map,Array.getElem?_toList,rJ (by omega)];rfl
   have kR:L[p]?=some (U y):=by rw[aD,Ο,List.getElem?_map,Array.getElem?_toList,rJ (by omega)];rfl
   have sU:∀h:j<L.length,L[j]=U x:=fun h=>by have:=pf;rw[bc h] at this;exact Option.some.inj this
   have sV:∀h:p<L.length,L[p]=U y:=fun h=>by have:=kR;rw[bc h] at this;exact Option.some.inj this
   have un:Go.Sort.insInner (Go.Sort.ltInt) a j f=if Go.Sort.ltInt x y=true then Go.Sort.insInner (Go.Sort.ltInt) a p (Go.Sort.swp f j p) else f:=by
    subst χ;rw[Go.Sort.insInner,δ,Ο];simp[ε]
   have nu:(Go.Sort.swp f j p).toList.map U=(L.set j (U y)).set p (U x):=by rw[aD,δ,Ο];simp[Go.Sort.swp]
   have zd:(Go.Sort.swp f j p).size=n:=by simp[Go.Sort.swp,Ξ]
   have ze:=aD;clear δ Ο;refine W.draw (A:=[]) Θ mixed fun J I=>?_;simp;(repeat (rw[bp];simp[ε,ns,jA,aE,qv,pf,kR,sU,sV]));refine gn (av.p (UG x y) (aI.refl _) (by simp) (by simp)) ?_;simp;(repeat (rw[bp];simp));refine⟨bL (by kernel_rfl),I _ _ ?_⟩;clear I J;by_cases hm:x<y
   ·refine al (by simp[hm]) ?_
    repeat (first|apply ι)
    refine W.draw (A:=[]) Θ mixed fun J I=>?_;simp;(repeat (rw[bp];simp[ε,ns,jA,aE,qv,pf,kR,sU,sV,zc]));refine⟨bL (by kernel_rfl),I _ _ ?_⟩;clear I J;(repeat (first|apply ι|(refine ν fun J I=>?_;simp;(repeat (rw[ζ];simp));apply I;clear I J)));refine W.to (gq (p,Go.Sort.swp f j p) ⟨zd,by simp;omega,?_⟩ (by simp;omega)) ?_ ?_
    ·rw[←aT,un,if_pos (by simp[ar,Go.Sort.ltInt,hm])]
    ·rw[nu]
    ·simp[ns]
   ·refine ah (by simp[hm]) ?_;refine W.exit rfl ?_;(repeat (first|apply ι|(refine ν fun J I=>?_;simp;(repeat (rw[ζ];simp));apply I;clear I J)));refine W.to (Γ (i+1,f) ⟨Ξ,go (by rw[un,if_neg (by simp[ar,Go.Sort.ltInt,hm])])⟩ (by simp;omega)) (by rw[ze]) ?_;have:=fy (show i+1<2 ^ 62 by omega);simpa using this
  ·have un:Go.Sort.insInner (Go.Sort.ltInt) a j f=f:=by
    cases j with
    | zero=>rfl
    | succ p=>rw[Go.Sort.insInner];simp[ε]
   refine W.draw (A:=[]) Θ mixed fun J I=>?_;simp;(repeat (rw[bp];simp[ε]));refine⟨bL (by kernel_rfl),I _ _ ?_⟩;clear I J;refine ah rfl ?_;refine W.exit rfl ?_;(repeat (first|apply ι|(refine ν fun J I=>?_;simp;(repeat (rw[ζ];simp));apply I;clear I J)));refine W.to (Γ (i+1,f) ⟨Ξ,go un⟩ (by simp;omega)) (by rw[aD]) ?_;have:=fy (show i+1<2 ^ 62 by omega);simpa using this
 ·refine ah (by simp[η]) ?_;refine W.exit rfl ?_;have Δ:Go.Sort.insOuter (Go.Sort.ltInt) a b i e=e:=by rw[Go.Sort.insOuter,if_neg η]
  exact W.nil ⟨_,rfl,rfl,by rw[←γ,Δ]⟩
end Go.TL
