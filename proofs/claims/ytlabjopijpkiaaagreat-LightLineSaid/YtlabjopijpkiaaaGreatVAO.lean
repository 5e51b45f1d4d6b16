import Derived.Test.YtlabjopijpkiaaaGreatVAN
set_option maxHeartbeats 16000000
set_option maxRecDepth 20000
set_option linter.unusedSectionVars false
set_option linter.unusedSimpArgs false
set_option linter.unusedVariables false
namespace Go.TL
open Go.Proofs
variable [bn]
instance:Inhabited Found:=⟨⟨0,0,[]⟩⟩
theorem Nf (d:Array (Int×Int)) (n a b:Nat) (Ζ:d.size=n) (κ:a<=b) (hb:b<=n) (ν:n<2 ^ 40) (ax:θ) (cmp:Int×Int->Int×Int->Int) (b1:aG 0 ax) (Υ:∀x y,gp Tryz.prog ax [aF x,aF y] (I (cmp x y))) :
  ae Tryz.prog 234 [.ms 0 n 0 n,I a,I b,ax] [.cells 112 2 (d.toList.map aF)] (λr s=>r=.bj []/\s=[.cells 112 2 ((Go.Sort.insertionSort (aC cmp) d a b).toList.map aF)]) (λ_ _=>False):=by
 refine ae.body Ρ Tryz.func234 rfl rfl Tryz.ntmps234 rfl rfl η ?_;refine Η ?_;have lk:=gr (show a+1<2 ^ 62 by omega);refine W.iter (λq:Nat×Array (Int×Int)=>q.2.size=n/\Go.Sort.insOuter (aC cmp) a b q.1 q.2=Go.Sort.insertionSort (aC cmp) d a b) (λq=>[(0,.ms 0 n 0 n),(1,I a),(2,I b),(3,ax),(8,I q.1)]) (λq=>[.cells 112 2 (q.2.toList.map aF)]) (λq=>b-q.1) (a+1,d) ⟨Ζ,rfl⟩ rfl (by simpa using lk) (λq hi Β=>?_);obtain⟨i,e⟩:=q;obtain⟨J,U⟩:=hi;simp only at J U;refine Η ?_;by_cases δ:i<b
 ·refine ai (by simp[δ]) ?_;refine Η ?_;refine W.iter (λq:Nat×Array (Int×Int)=>q.2.size=n/\q.1<=i/\Go.Sort.insInner (aC cmp) a q.1 q.2=Go.Sort.insInner (aC cmp) a i e) (λq=>[(0,.ms 0 n 0 n),(1,I a),(2,I b),(3,ax),(8,I i),(9,I q.1)]) (λq=>[.cells 112 2 (q.2.toList.map aF)]) (λq=>q.1) (i,e) ⟨J,Nat.le_refl _,rfl⟩ rfl η (λq ε gd=>?_);obtain⟨j,f⟩:=q;obtain⟨Χ,ak,aY⟩:=ε;simp only at Χ ak aY;have go:Go.Sort.insInner (aC cmp) a j f=f->Go.Sort.insOuter (aC cmp) a b (i+1) f=Go.Sort.insertionSort (aC cmp) d a b:=λhd=>by
   rw[<-U,<-hd,aY];conv=>rhs;rw[Go.Sort.insOuter,if_pos δ]
  obtain⟨L,ab⟩:=aK (f.toList.map aF);have jh:L.length=n:=by rw[ab];simpa using Χ
  refine W.to (σ':=[.cells 112 2 L]) (env':=[(0,.ms 0 n 0 n),(1,I a),(2,I b),(3,ax),(8,I i),(9,I j)]) ?_ (by rw[ab]) η
  repeat apply ad
  by_cases ε:a<j
  ·obtain⟨p,ψ⟩:∃p,j=p+1:=⟨j-1,R⟩;have oi:IntKind.i64.wrap ((j:Int)-1)=(p:Int):=by have:=gr (show p<2 ^ 62 by omega);rw[ψ];simpa using this
   have aP:j<n:=R
   have rm:p<n:=R
   have Aa:¬j=p:=R;obtain⟨x,γ⟩:=aK (f[j]!);obtain⟨y,Ι⟩:=aK (f[p]!);have p':L[j]?=some (aF x):=by rw[ab,γ,List.getElem?_map,Array.getElem?_toList,p9 R];rfl
   have lS:L[p]?=some (aF y):=by rw[ab,Ι,List.getElem?_map,Array.getElem?_toList,p9 R];rfl
   have tY:∀h:j<L.length,L[j]=aF x:=λh=>by have:=p';rw[bg h] at this;exact Option.some.inj this
   have tZ:∀h:p<L.length,L[p]=aF y:=λh=>by have:=lS;rw[bg h] at this;exact Option.some.inj this
   have un:Go.Sort.insInner (aC cmp) a j f=if aC cmp x y=true then Go.Sort.insInner (aC cmp) a p (Go.Sort.swp f j p) else f:=by
    subst ψ;rw[Go.Sort.insInner,γ,Ι];simp[ε]
   have ks:(Go.Sort.swp f j p).toList.map aF=(L.set j (aF y)).set p (aF x):=by rw[ab,γ,Ι];simp[Go.Sort.swp]
   have Ab:(Go.Sort.swp f j p).size=n:=by simp[Go.Sort.swp,Χ]
   have Ac:=ab;clear γ Ι;refine W.draw (A:=[]) Ρ mixed λΕ ζ=>gq (υ ε (υ oi (υ jh (υ aP (υ rm (υ p' (υ lS (υ tY tZ)))))))) ?_;refine eA (Υ x y) ?_;simp;(repeat (rw[c7];simp[]));try rw[c6]
   refine er (ζ _ _ ?_);by_cases hm:cmp x y<0
   ·refine ai (by simp[hm]) ?_
    repeat apply ad
    refine dF (υ ε (υ oi (υ jh (υ aP (υ rm (υ p' (υ lS (υ tY (υ tZ Aa))))))))) ?_;refine Η ?_;refine W.to (gd (p,Go.Sort.swp f j p) ⟨Ab,by simp;omega,?_⟩ (by simp;omega)) ?_ ?_
    ·rw[<-aY,un,if_pos (by simp[aC,Go.Sort.ltInt,hm])]
    ·rw[ks]
    ·simp[oi]
   ·refine aa (by simp[hm]) ?_;refine W.exit rfl ?_;refine Η ?_;refine W.to (Β (i+1,f) ⟨Χ,go (by rw[un,if_neg (by simp[aC,Go.Sort.ltInt,hm])])⟩ (by simp;omega)) (by rw[Ac]) ?_;have:=gr (show i+1<2 ^ 62 by omega);simpa using this
  ·have un:Go.Sort.insInner (aC cmp) a j f=f:=by
    cases j with
    | zero=>rfl
    | succ p=>rw[Go.Sort.insInner];simp[ε]
   refine dF ε ?_;refine aa rfl ?_;refine W.exit rfl ?_;refine Η ?_;refine W.to (Β (i+1,f) ⟨Χ,go un⟩ (by simp;omega)) (by rw[ab]) ?_;have:=gr (show i+1<2 ^ 62 by omega);simpa using this
 ·refine aa (by simp[δ]) ?_;refine W.exit rfl ?_;have Γ:Go.Sort.insOuter (aC cmp) a b i e=e:=by rw[Go.Sort.insOuter,if_neg δ]
  exact W.nil ⟨_,rfl,rfl,by rw[<-U,Γ]⟩
theorem V6 (d:Array (Found)) (n a b:Nat) (Ζ:d.size=n) (κ:a<=b) (hb:b<=n) (ν:n<2 ^ 40) (ax:θ) (cmp:Found->Found->Int) (b1:aG 0 ax) (Υ:∀x y,gp Tryz.prog ax [dj x,dj y] (I (cmp x y))) :
  ae Tryz.prog 217 [.ms 0 n 0 n,I a,I b,ax] [.cells 110 3 (d.toList.map dj)] (λr s=>r=.bj []/\s=[.cells 110 3 ((Go.Sort.insertionSort (aC cmp) d a b).toList.map dj)]) (λ_ _=>False):=by
 refine ae.body Ρ Tryz.func217 rfl rfl Tryz.ntmps217 rfl rfl η ?_;refine Η ?_;have lk:=gr (show a+1<2 ^ 62 by omega);refine W.iter (λq:Nat×Array (Found)=>q.2.size=n/\Go.Sort.insOuter (aC cmp) a b q.1 q.2=Go.Sort.insertionSort (aC cmp) d a b) (λq=>[(0,.ms 0 n 0 n),(1,I a),(2,I b),(3,ax),(8,I q.1)]) (λq=>[.cells 110 3 (q.2.toList.map dj)]) (λq=>b-q.1) (a+1,d) ⟨Ζ,rfl⟩ rfl (by simpa using lk) (λq hi Β=>?_);obtain⟨i,e⟩:=q;obtain⟨J,U⟩:=hi;simp only at J U;refine Η ?_;by_cases δ:i<b
 ·refine ai (by simp[δ]) ?_;refine Η ?_;refine W.iter (λq:Nat×Array (Found)=>q.2.size=n/\q.1<=i/\Go.Sort.insInner (aC cmp) a q.1 q.2=Go.Sort.insInner (aC cmp) a i e) (λq=>[(0,.ms 0 n 0 n),(1,I a),(2,I b),(3,ax),(8,I i),(9,I q.1)]) (λq=>[.cells 110 3 (q.2.toList.map dj)]) (λq=>q.1) (i,e) ⟨J,Nat.le_refl _,rfl⟩ rfl η (λq ε gd=>?_);obtain⟨j,f⟩:=q;obtain⟨Χ,ak,aY⟩:=ε;simp only at Χ ak aY;have go:Go.Sort.insInner (aC cmp) a j f=f->Go.Sort.insOuter (aC cmp) a b (i+1) f=Go.Sort.insertionSort (aC cmp) d a b:=λhd=>by
   rw[<-U,<-hd,aY];conv=>rhs;rw[Go.Sort.insOuter,if_pos δ]
  obtain⟨L,ab⟩:=aK (f.toList.map dj);have jh:L.length=n:=by rw[ab];simpa using Χ
  refine W.to (σ':=[.cells 110 3 L]) (env':=[(0,.ms 0 n 0 n),(1,I a),(2,I b),(3,ax),(8,I i),(9,I j)]) ?_ (by rw[ab]) η
  repeat apply ad
  by_cases ε:a<j
  ·obtain⟨p,ψ⟩:∃p,j=p+1:=⟨j-1,R⟩;have oi:IntKind.i64.wrap ((j:Int)-1)=(p:Int):=by have:=gr (show p<2 ^ 62 by omega);rw[ψ];simpa using this
   have aP:j<n:=R
   have rm:p<n:=R
   have Aa:¬j=p:=R;obtain⟨x,γ⟩:=aK (f[j]!);obtain⟨y,Ι⟩:=aK (f[p]!);have p':L[j]?=some (dj x):=by rw[ab,γ,List.getElem?_map,Array.getElem?_toList,p9 R];rfl
   have lS:L[p]?=some (dj y):=by rw[ab,Ι,List.getElem?_map,Array.getElem?_toList,p9 R];rfl
   have tY:∀h:j<L.length,L[j]=dj x:=λh=>by have:=p';rw[bg h] at this;exact Option.some.inj this
   have tZ:∀h:p<L.length,L[p]=dj y:=λh=>by have:=lS;rw[bg h] at this;exact Option.some.inj this
   have un:Go.Sort.insInner (aC cmp) a j f=if aC cmp x y=true then Go.Sort.insInner (aC cmp) a p (Go.Sort.swp f j p) else f:=by
    subst ψ;rw[Go.Sort.insInner,γ,Ι];simp[ε]
   have ks:(Go.Sort.swp f j p).toList.map dj=(L.set j (dj y)).set p (dj x):=by rw[ab,γ,Ι];simp[Go.Sort.swp]
   have Ab:(Go.Sort.swp f j p).size=n:=by simp[Go.Sort.swp,Χ]
   have Ac:=ab;clear γ Ι;refine W.draw (A:=[]) Ρ mixed λΕ ζ=>gq (υ ε (υ oi (υ jh (υ aP (υ rm (υ p' (υ lS (υ tY tZ)))))))) ?_;refine eA (Υ x y) ?_;simp;(repeat (rw[c7];simp[]));try rw[c6]
   refine er (ζ _ _ ?_);by_cases hm:cmp x y<0
   ·refine ai (by simp[hm]) ?_
    repeat apply ad
    refine dF (υ ε (υ oi (υ jh (υ aP (υ rm (υ p' (υ lS (υ tY (υ tZ Aa))))))))) ?_;refine Η ?_;refine W.to (gd (p,Go.Sort.swp f j p) ⟨Ab,by simp;omega,?_⟩ (by simp;omega)) ?_ ?_
    ·rw[<-aY,un,if_pos (by simp[aC,Go.Sort.ltInt,hm])]
    ·rw[ks]
    ·simp[oi]
   ·refine aa (by simp[hm]) ?_;refine W.exit rfl ?_;refine Η ?_;refine W.to (Β (i+1,f) ⟨Χ,go (by rw[un,if_neg (by simp[aC,Go.Sort.ltInt,hm])])⟩ (by simp;omega)) (by rw[Ac]) ?_;have:=gr (show i+1<2 ^ 62 by omega);simpa using this
  ·have un:Go.Sort.insInner (aC cmp) a j f=f:=by
    cases j with
    | zero=>rfl
    | succ p=>rw[Go.Sort.insInner];simp[ε]
   refine dF ε ?_;refine aa rfl ?_;refine W.exit rfl ?_;refine Η ?_;refine W.to (Β (i+1,f) ⟨Χ,go un⟩ (by simp;omega)) (by rw[ab]) ?_;have:=gr (show i+1<2 ^ 62 by omega);simpa using this
 ·refine aa (by simp[δ]) ?_;refine W.exit rfl ?_;have Γ:Go.Sort.insOuter (aC cmp) a b i e=e:=by rw[Go.Sort.insOuter,if_neg δ]
  exact W.nil ⟨_,rfl,rfl,by rw[<-U,Γ]⟩
theorem Ng (d:Array (Int)) (n a b:Nat) (Ζ:d.size=n) (κ:a<=b) (hb:b<=n) (ν:n<2 ^ 40)  :
  ae Tryz.prog 197 [.ms 0 n 0 n,I a,I b] [.cells 3 1 (d.toList.map I)] (λr s=>r=.bj []/\s=[.cells 3 1 ((Go.Sort.insertionSort (Go.Sort.ltInt) d a b).toList.map I)]) (λ_ _=>False):=by
 refine ae.body Ρ Tryz.func197 rfl rfl Tryz.ntmps197 rfl rfl η ?_;refine Η ?_;have lk:=gr (show a+1<2 ^ 62 by omega);refine W.iter (λq:Nat×Array (Int)=>q.2.size=n/\Go.Sort.insOuter (Go.Sort.ltInt) a b q.1 q.2=Go.Sort.insertionSort (Go.Sort.ltInt) d a b) (λq=>[(0,.ms 0 n 0 n),(1,I a),(2,I b),(6,I q.1)]) (λq=>[.cells 3 1 (q.2.toList.map I)]) (λq=>b-q.1) (a+1,d) ⟨Ζ,rfl⟩ rfl (by simpa using lk) (λq hi Β=>?_);obtain⟨i,e⟩:=q;obtain⟨J,U⟩:=hi;simp only at J U;refine Η ?_;by_cases δ:i<b
 ·refine ai (by simp[δ]) ?_;refine Η ?_;refine W.iter (λq:Nat×Array (Int)=>q.2.size=n/\q.1<=i/\Go.Sort.insInner (Go.Sort.ltInt) a q.1 q.2=Go.Sort.insInner (Go.Sort.ltInt) a i e) (λq=>[(0,.ms 0 n 0 n),(1,I a),(2,I b),(6,I i),(7,I q.1)]) (λq=>[.cells 3 1 (q.2.toList.map I)]) (λq=>q.1) (i,e) ⟨J,Nat.le_refl _,rfl⟩ rfl η (λq ε gd=>?_);obtain⟨j,f⟩:=q;obtain⟨Χ,ak,aY⟩:=ε;simp only at Χ ak aY;have go:Go.Sort.insInner (Go.Sort.ltInt) a j f=f->Go.Sort.insOuter (Go.Sort.ltInt) a b (i+1) f=Go.Sort.insertionSort (Go.Sort.ltInt) d a b:=λhd=>by
   rw[<-U,<-hd,aY];conv=>rhs;rw[Go.Sort.insOuter,if_pos δ]
  obtain⟨L,ab⟩:=aK (f.toList.map I);have jh:L.length=n:=by rw[ab];simpa using Χ
  refine W.to (σ':=[.cells 3 1 L]) (env':=[(0,.ms 0 n 0 n),(1,I a),(2,I b),(6,I i),(7,I j)]) ?_ (by rw[ab]) η
  repeat apply ad
  by_cases ε:a<j
  ·obtain⟨p,ψ⟩:∃p,j=p+1:=⟨j-1,R⟩;have oi:IntKind.i64.wrap ((j:Int)-1)=(p:Int):=by have:=gr (show p<2 ^ 62 by omega);rw[ψ];simpa using this
   have aP:j<n:=R
   have rm:p<n:=R
   have Aa:¬j=p:=R;obtain⟨x,γ⟩:=aK (f[j]!);obtain⟨y,Ι⟩:=aK (f[p]!);have p':L[j]?=some (I x):=by rw[ab,γ,List.getElem?_map,Array.getElem?_toList,p9 R];rfl
   have lS:L[p]?=some (I y):=by rw[ab,Ι,List.getElem?_map,Array.getElem?_toList,p9 R];rfl
   have tY:∀h:j<L.length,L[j]=I x:=λh=>by have:=p';rw[bg h] at this;exact Option.some.inj this
   have tZ:∀h:p<L.length,L[p]=I y:=λh=>by have:=lS;rw[bg h] at this;exact Option.some.inj this
   have un:Go.Sort.insInner (Go.Sort.ltInt) a j f=if Go.Sort.ltInt x y=true then Go.Sort.insInner (Go.Sort.ltInt) a p (Go.Sort.swp f j p) else f:=by
    subst ψ;rw[Go.Sort.insInner,γ,Ι];simp[ε]
   have ks:(Go.Sort.swp f j p).toList.map I=(L.set j (I y)).set p (I x):=by rw[ab,γ,Ι];simp[Go.Sort.swp]
   have Ab:(Go.Sort.swp f j p).size=n:=by simp[Go.Sort.swp,Χ]
   have Ac:=ab;clear γ Ι;refine W.draw (A:=[]) Ρ mixed λΕ ζ=>gq (υ ε (υ oi (υ jh (υ aP (υ rm (υ p' (υ lS (υ tY tZ)))))))) ?_;refine eA (az.p (nI x y) (bF.refl _) η η) ?_;simp;(repeat (rw[c7];simp[]));try rw[c6]
   refine er (ζ _ _ ?_);by_cases hm:x<y
   ·refine ai (by simp[hm]) ?_
    repeat apply ad
    refine dF (υ ε (υ oi (υ jh (υ aP (υ rm (υ p' (υ lS (υ tY (υ tZ Aa))))))))) ?_;refine Η ?_;refine W.to (gd (p,Go.Sort.swp f j p) ⟨Ab,by simp;omega,?_⟩ (by simp;omega)) ?_ ?_
    ·rw[<-aY,un,if_pos (by simp[aC,Go.Sort.ltInt,hm])]
    ·rw[ks]
    ·simp[oi]
   ·refine aa (by simp[hm]) ?_;refine W.exit rfl ?_;refine Η ?_;refine W.to (Β (i+1,f) ⟨Χ,go (by rw[un,if_neg (by simp[aC,Go.Sort.ltInt,hm])])⟩ (by simp;omega)) (by rw[Ac]) ?_;have:=gr (show i+1<2 ^ 62 by omega);simpa using this
  ·have un:Go.Sort.insInner (Go.Sort.ltInt) a j f=f:=by
    cases j with
    | zero=>rfl
    | succ p=>rw[Go.Sort.insInner];simp[ε]
   refine dF ε ?_;refine aa rfl ?_;refine W.exit rfl ?_;refine Η ?_;refine W.to (Β (i+1,f) ⟨Χ,go un⟩ (by simp;omega)) (by rw[ab]) ?_;have:=gr (show i+1<2 ^ 62 by omega);simpa using this
 ·refine aa (by simp[δ]) ?_;refine W.exit rfl ?_;have Γ:Go.Sort.insOuter (Go.Sort.ltInt) a b i e=e:=by rw[Go.Sort.insOuter,if_neg δ]
  exact W.nil ⟨_,rfl,rfl,by rw[<-U,Γ]⟩
end Go.TL
