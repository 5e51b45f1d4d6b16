import Derived.Test.YtlabjopijpkiaaaGreatUAN
set_option maxHeartbeats 16000000
set_option maxRecDepth 20000
set_option linter.unusedSectionVars false
set_option linter.unusedSimpArgs false
set_option linter.unusedVariables false
namespace Go.TL
open Go.Proofs
variable [bt]
instance:Inhabited Found:=⟨⟨0,0,[]⟩⟩
theorem OA (d:Array (Int×Int)) (n a b:Nat) (Η:d.size=n) (μ:a<=b) (hb:b<=n) (ν:n<2 ^ 40) (au:η) (cmp:Int×Int->Int×Int->Int) (b3:ay 0 au) (Χ:∀x y,gi Tryz.prog au [aC x,aC y] (J (cmp x y))) :
  ao Tryz.prog 234 [.ms 0 n 0 n,J a,J b,au] [.cells 112 2 (d.toList.map aC)] (λr s=>r=.bw []/\s=[.cells 112 2 ((Go.Sort.insertionSort (az cmp) d a b).toList.map aC)]) (λ_ _=>False):=by
 refine ao.body Φ Tryz.func234 rfl rfl Tryz.ntmps234 rfl rfl θ ?_;refine Ζ ?_;have lh:=fV (show a+1<2 ^ 62 by omega);refine W.iter (λq:Nat×Array (Int×Int)=>q.2.size=n/\Go.Sort.insOuter (az cmp) a b q.1 q.2=Go.Sort.insertionSort (az cmp) d a b) (λq=>[(0,.ms 0 n 0 n),(1,J a),(2,J b),(3,au),(8,J q.1)]) (λq=>[.cells 112 2 (q.2.toList.map aC)]) (λq=>b-q.1) (a+1,d) ⟨Η,rfl⟩ rfl (by simpa using lh) (λq hi Β=>?_);obtain⟨i,e⟩:=q;obtain⟨I,U⟩:=hi;simp only at I U;refine Ζ ?_;by_cases ε:i<b
 ·refine al (by simp[ε]) ?_;refine Ζ ?_;refine W.iter (λq:Nat×Array (Int×Int)=>q.2.size=n/\q.1<=i/\Go.Sort.insInner (az cmp) a q.1 q.2=Go.Sort.insInner (az cmp) a i e) (λq=>[(0,.ms 0 n 0 n),(1,J a),(2,J b),(3,au),(8,J i),(9,J q.1)]) (λq=>[.cells 112 2 (q.2.toList.map aC)]) (λq=>q.1) (i,e) ⟨I,Nat.le_refl _,rfl⟩ rfl θ (λq δ gk=>?_);obtain⟨j,f⟩:=q;obtain⟨Τ,af,aZ⟩:=δ;simp only at Τ af aZ;have go:Go.Sort.insInner (az cmp) a j f=f->Go.Sort.insOuter (az cmp) a b (i+1) f=Go.Sort.insertionSort (az cmp) d a b:=λhd=>by
   rw[<-U,<-hd,aZ];conv=>rhs;rw[Go.Sort.insOuter,if_pos ε]
  obtain⟨L,aG⟩:=aF (f.toList.map aC);have km:L.length=n:=by rw[aG];simpa using Τ
  refine W.to (σ':=[.cells 112 2 L]) (env':=[(0,.ms 0 n 0 n),(1,J a),(2,J b),(3,au),(8,J i),(9,J j)]) ?_ (by rw[aG]) θ
  repeat apply ar
  by_cases δ:a<j
  ·obtain⟨p,ψ⟩:∃p,j=p+1:=⟨j-1,R⟩;have oj:IntKind.i64.wrap ((j:Int)-1)=(p:Int):=by have:=fV (show p<2 ^ 62 by omega);rw[ψ];simpa using this
   have aB:j<n:=R
   have rH:p<n:=R
   have ql:¬j=p:=R;obtain⟨x,γ⟩:=aF (f[j]!);obtain⟨y,Ο⟩:=aF (f[p]!);have qm:L[j]?=some (aC x):=by rw[aG,γ,List.getElem?_map,Array.getElem?_toList,sX R];rfl
   have lR:L[p]?=some (aC y):=by rw[aG,Ο,List.getElem?_map,Array.getElem?_toList,sX R];rfl
   have uv:∀h:j<L.length,L[j]=aC x:=λh=>by have:=qm;rw[a5 h] at this;exact Option.some.inj this
   have uw:∀h:p<L.length,L[p]=aC y:=λh=>by have:=lR;rw[a5 h] at this;exact Option.some.inj this
   have un:Go.Sort.insInner (az cmp) a j f=if az cmp x y=true then Go.Sort.insInner (az cmp) a p (Go.Sort.swp f j p) else f:=by
    subst ψ;rw[Go.Sort.insInner,γ,Ο];simp[δ]
   have om:(Go.Sort.swp f j p).toList.map aC=(L.set j (aC y)).set p (aC x):=by rw[aG,γ,Ο];simp[Go.Sort.swp]
   have Au:(Go.Sort.swp f j p).size=n:=by simp[Go.Sort.swp,Τ]
   have Av:=aG;clear γ Ο;refine W.draw (A:=[]) Φ mixed λΕ ζ=>iu (Μ δ (Μ oj (Μ km (Μ aB (Μ rH (Μ qm (Μ lR (Μ uv uw)))))))) ?_;refine gv (Χ x y) ?_;simp;(repeat (rw[dN];simp[]));try rw[dM]
   refine fy (ζ _ _ ?_);by_cases hm:cmp x y<0
   ·refine al (by simp[hm]) ?_
    repeat apply ar
    refine gx (Μ δ (Μ oj (Μ km (Μ aB (Μ rH (Μ qm (Μ lR (Μ uv (Μ uw ql))))))))) ?_;refine Ζ ?_;refine W.to (gk (p,Go.Sort.swp f j p) ⟨Au,by simp;omega,?_⟩ (by simp;omega)) ?_ ?_
    ·rw[<-aZ,un,if_pos (by simp[az,Go.Sort.ltInt,hm])]
    ·rw[om]
    ·simp[oj]
   ·refine aj (by simp[hm]) ?_;refine W.exit rfl ?_;refine Ζ ?_;refine W.to (Β (i+1,f) ⟨Τ,go (by rw[un,if_neg (by simp[az,Go.Sort.ltInt,hm])])⟩ (by simp;omega)) (by rw[Av]) ?_;have:=fV (show i+1<2 ^ 62 by omega);simpa using this
  ·have un:Go.Sort.insInner (az cmp) a j f=f:=by
    cases j with
    | zero=>rfl
    | succ p=>rw[Go.Sort.insInner];simp[δ]
   refine gx δ ?_;refine aj rfl ?_;refine W.exit rfl ?_;refine Ζ ?_;refine W.to (Β (i+1,f) ⟨Τ,go un⟩ (by simp;omega)) (by rw[aG]) ?_;have:=fV (show i+1<2 ^ 62 by omega);simpa using this
 ·refine aj (by simp[ε]) ?_;refine W.exit rfl ?_;have Γ:Go.Sort.insOuter (az cmp) a b i e=e:=by rw[Go.Sort.insOuter,if_neg ε]
  exact W.nil ⟨_,rfl,rfl,by rw[<-U,Γ]⟩
theorem XT (d:Array (Found)) (n a b:Nat) (Η:d.size=n) (μ:a<=b) (hb:b<=n) (ν:n<2 ^ 40) (au:η) (cmp:Found->Found->Int) (b3:ay 0 au) (Χ:∀x y,gi Tryz.prog au [de x,de y] (J (cmp x y))) :
  ao Tryz.prog 217 [.ms 0 n 0 n,J a,J b,au] [.cells 110 3 (d.toList.map de)] (λr s=>r=.bw []/\s=[.cells 110 3 ((Go.Sort.insertionSort (az cmp) d a b).toList.map de)]) (λ_ _=>False):=by
 refine ao.body Φ Tryz.func217 rfl rfl Tryz.ntmps217 rfl rfl θ ?_;refine Ζ ?_;have lh:=fV (show a+1<2 ^ 62 by omega);refine W.iter (λq:Nat×Array (Found)=>q.2.size=n/\Go.Sort.insOuter (az cmp) a b q.1 q.2=Go.Sort.insertionSort (az cmp) d a b) (λq=>[(0,.ms 0 n 0 n),(1,J a),(2,J b),(3,au),(8,J q.1)]) (λq=>[.cells 110 3 (q.2.toList.map de)]) (λq=>b-q.1) (a+1,d) ⟨Η,rfl⟩ rfl (by simpa using lh) (λq hi Β=>?_);obtain⟨i,e⟩:=q;obtain⟨I,U⟩:=hi;simp only at I U;refine Ζ ?_;by_cases ε:i<b
 ·refine al (by simp[ε]) ?_;refine Ζ ?_;refine W.iter (λq:Nat×Array (Found)=>q.2.size=n/\q.1<=i/\Go.Sort.insInner (az cmp) a q.1 q.2=Go.Sort.insInner (az cmp) a i e) (λq=>[(0,.ms 0 n 0 n),(1,J a),(2,J b),(3,au),(8,J i),(9,J q.1)]) (λq=>[.cells 110 3 (q.2.toList.map de)]) (λq=>q.1) (i,e) ⟨I,Nat.le_refl _,rfl⟩ rfl θ (λq δ gk=>?_);obtain⟨j,f⟩:=q;obtain⟨Τ,af,aZ⟩:=δ;simp only at Τ af aZ;have go:Go.Sort.insInner (az cmp) a j f=f->Go.Sort.insOuter (az cmp) a b (i+1) f=Go.Sort.insertionSort (az cmp) d a b:=λhd=>by
   rw[<-U,<-hd,aZ];conv=>rhs;rw[Go.Sort.insOuter,if_pos ε]
  obtain⟨L,aG⟩:=aF (f.toList.map de);have km:L.length=n:=by rw[aG];simpa using Τ
  refine W.to (σ':=[.cells 110 3 L]) (env':=[(0,.ms 0 n 0 n),(1,J a),(2,J b),(3,au),(8,J i),(9,J j)]) ?_ (by rw[aG]) θ
  repeat apply ar
  by_cases δ:a<j
  ·obtain⟨p,ψ⟩:∃p,j=p+1:=⟨j-1,R⟩;have oj:IntKind.i64.wrap ((j:Int)-1)=(p:Int):=by have:=fV (show p<2 ^ 62 by omega);rw[ψ];simpa using this
   have aB:j<n:=R
   have rH:p<n:=R
   have ql:¬j=p:=R;obtain⟨x,γ⟩:=aF (f[j]!);obtain⟨y,Ο⟩:=aF (f[p]!);have qm:L[j]?=some (de x):=by rw[aG,γ,List.getElem?_map,Array.getElem?_toList,sX R];rfl
   have lR:L[p]?=some (de y):=by rw[aG,Ο,List.getElem?_map,Array.getElem?_toList,sX R];rfl
   have uv:∀h:j<L.length,L[j]=de x:=λh=>by have:=qm;rw[a5 h] at this;exact Option.some.inj this
   have uw:∀h:p<L.length,L[p]=de y:=λh=>by have:=lR;rw[a5 h] at this;exact Option.some.inj this
   have un:Go.Sort.insInner (az cmp) a j f=if az cmp x y=true then Go.Sort.insInner (az cmp) a p (Go.Sort.swp f j p) else f:=by
    subst ψ;rw[Go.Sort.insInner,γ,Ο];simp[δ]
   have om:(Go.Sort.swp f j p).toList.map de=(L.set j (de y)).set p (de x):=by rw[aG,γ,Ο];simp[Go.Sort.swp]
   have Au:(Go.Sort.swp f j p).size=n:=by simp[Go.Sort.swp,Τ]
   have Av:=aG;clear γ Ο;refine W.draw (A:=[]) Φ mixed λΕ ζ=>iu (Μ δ (Μ oj (Μ km (Μ aB (Μ rH (Μ qm (Μ lR (Μ uv uw)))))))) ?_;refine gv (Χ x y) ?_;simp;(repeat (rw[dN];simp[]));try rw[dM]
   refine fy (ζ _ _ ?_);by_cases hm:cmp x y<0
   ·refine al (by simp[hm]) ?_
    repeat apply ar
    refine gx (Μ δ (Μ oj (Μ km (Μ aB (Μ rH (Μ qm (Μ lR (Μ uv (Μ uw ql))))))))) ?_;refine Ζ ?_;refine W.to (gk (p,Go.Sort.swp f j p) ⟨Au,by simp;omega,?_⟩ (by simp;omega)) ?_ ?_
    ·rw[<-aZ,un,if_pos (by simp[az,Go.Sort.ltInt,hm])]
    ·rw[om]
    ·simp[oj]
   ·refine aj (by simp[hm]) ?_;refine W.exit rfl ?_;refine Ζ ?_;refine W.to (Β (i+1,f) ⟨Τ,go (by rw[un,if_neg (by simp[az,Go.Sort.ltInt,hm])])⟩ (by simp;omega)) (by rw[Av]) ?_;have:=fV (show i+1<2 ^ 62 by omega);simpa using this
  ·have un:Go.Sort.insInner (az cmp) a j f=f:=by
    cases j with
    | zero=>rfl
    | succ p=>rw[Go.Sort.insInner];simp[δ]
   refine gx δ ?_;refine aj rfl ?_;refine W.exit rfl ?_;refine Ζ ?_;refine W.to (Β (i+1,f) ⟨Τ,go un⟩ (by simp;omega)) (by rw[aG]) ?_;have:=fV (show i+1<2 ^ 62 by omega);simpa using this
 ·refine aj (by simp[ε]) ?_;refine W.exit rfl ?_;have Γ:Go.Sort.insOuter (az cmp) a b i e=e:=by rw[Go.Sort.insOuter,if_neg ε]
  exact W.nil ⟨_,rfl,rfl,by rw[<-U,Γ]⟩
theorem XU (d:Array (Int)) (n a b:Nat) (Η:d.size=n) (μ:a<=b) (hb:b<=n) (ν:n<2 ^ 40)  :
  ao Tryz.prog 197 [.ms 0 n 0 n,J a,J b] [.cells 3 1 (d.toList.map J)] (λr s=>r=.bw []/\s=[.cells 3 1 ((Go.Sort.insertionSort (Go.Sort.ltInt) d a b).toList.map J)]) (λ_ _=>False):=by
 refine ao.body Φ Tryz.func197 rfl rfl Tryz.ntmps197 rfl rfl θ ?_;refine Ζ ?_;have lh:=fV (show a+1<2 ^ 62 by omega);refine W.iter (λq:Nat×Array (Int)=>q.2.size=n/\Go.Sort.insOuter (Go.Sort.ltInt) a b q.1 q.2=Go.Sort.insertionSort (Go.Sort.ltInt) d a b) (λq=>[(0,.ms 0 n 0 n),(1,J a),(2,J b),(6,J q.1)]) (λq=>[.cells 3 1 (q.2.toList.map J)]) (λq=>b-q.1) (a+1,d) ⟨Η,rfl⟩ rfl (by simpa using lh) (λq hi Β=>?_);obtain⟨i,e⟩:=q;obtain⟨I,U⟩:=hi;simp only at I U;refine Ζ ?_;by_cases ε:i<b
 ·refine al (by simp[ε]) ?_;refine Ζ ?_;refine W.iter (λq:Nat×Array (Int)=>q.2.size=n/\q.1<=i/\Go.Sort.insInner (Go.Sort.ltInt) a q.1 q.2=Go.Sort.insInner (Go.Sort.ltInt) a i e) (λq=>[(0,.ms 0 n 0 n),(1,J a),(2,J b),(6,J i),(7,J q.1)]) (λq=>[.cells 3 1 (q.2.toList.map J)]) (λq=>q.1) (i,e) ⟨I,Nat.le_refl _,rfl⟩ rfl θ (λq δ gk=>?_);obtain⟨j,f⟩:=q;obtain⟨Τ,af,aZ⟩:=δ;simp only at Τ af aZ;have go:Go.Sort.insInner (Go.Sort.ltInt) a j f=f->Go.Sort.insOuter (Go.Sort.ltInt) a b (i+1) f=Go.Sort.insertionSort (Go.Sort.ltInt) d a b:=λhd=>by
   rw[<-U,<-hd,aZ];conv=>rhs;rw[Go.Sort.insOuter,if_pos ε]
  obtain⟨L,aG⟩:=aF (f.toList.map J);have km:L.length=n:=by rw[aG];simpa using Τ
  refine W.to (σ':=[.cells 3 1 L]) (env':=[(0,.ms 0 n 0 n),(1,J a),(2,J b),(6,J i),(7,J j)]) ?_ (by rw[aG]) θ
  repeat apply ar
  by_cases δ:a<j
  ·obtain⟨p,ψ⟩:∃p,j=p+1:=⟨j-1,R⟩;have oj:IntKind.i64.wrap ((j:Int)-1)=(p:Int):=by have:=fV (show p<2 ^ 62 by omega);rw[ψ];simpa using this
   have aB:j<n:=R
   have rH:p<n:=R
   have ql:¬j=p:=R;obtain⟨x,γ⟩:=aF (f[j]!);obtain⟨y,Ο⟩:=aF (f[p]!);have qm:L[j]?=some (J x):=by rw[aG,γ,List.getElem?_map,Array.getElem?_toList,sX R];rfl
   have lR:L[p]?=some (J y):=by rw[aG,Ο,List.getElem?_map,Array.getElem?_toList,sX R];rfl
   have uv:∀h:j<L.length,L[j]=J x:=λh=>by have:=qm;rw[a5 h] at this;exact Option.some.inj this
   have uw:∀h:p<L.length,L[p]=J y:=λh=>by have:=lR;rw[a5 h] at this;exact Option.some.inj this
   have un:Go.Sort.insInner (Go.Sort.ltInt) a j f=if Go.Sort.ltInt x y=true then Go.Sort.insInner (Go.Sort.ltInt) a p (Go.Sort.swp f j p) else f:=by
    subst ψ;rw[Go.Sort.insInner,γ,Ο];simp[δ]
   have om:(Go.Sort.swp f j p).toList.map J=(L.set j (J y)).set p (J x):=by rw[aG,γ,Ο];simp[Go.Sort.swp]
   have Au:(Go.Sort.swp f j p).size=n:=by simp[Go.Sort.swp,Τ]
   have Av:=aG;clear γ Ο;refine W.draw (A:=[]) Φ mixed λΕ ζ=>iu (Μ δ (Μ oj (Μ km (Μ aB (Μ rH (Μ qm (Μ lR (Μ uv uw)))))))) ?_;refine gv (aD.p (XQ x y) (bS.refl _) θ θ) ?_;simp;(repeat (rw[dN];simp[]));try rw[dM]
   refine fy (ζ _ _ ?_);by_cases hm:x<y
   ·refine al (by simp[hm]) ?_
    repeat apply ar
    refine gx (Μ δ (Μ oj (Μ km (Μ aB (Μ rH (Μ qm (Μ lR (Μ uv (Μ uw ql))))))))) ?_;refine Ζ ?_;refine W.to (gk (p,Go.Sort.swp f j p) ⟨Au,by simp;omega,?_⟩ (by simp;omega)) ?_ ?_
    ·rw[<-aZ,un,if_pos (by simp[az,Go.Sort.ltInt,hm])]
    ·rw[om]
    ·simp[oj]
   ·refine aj (by simp[hm]) ?_;refine W.exit rfl ?_;refine Ζ ?_;refine W.to (Β (i+1,f) ⟨Τ,go (by rw[un,if_neg (by simp[az,Go.Sort.ltInt,hm])])⟩ (by simp;omega)) (by rw[Av]) ?_;have:=fV (show i+1<2 ^ 62 by omega);simpa using this
  ·have un:Go.Sort.insInner (Go.Sort.ltInt) a j f=f:=by
    cases j with
    | zero=>rfl
    | succ p=>rw[Go.Sort.insInner];simp[δ]
   refine gx δ ?_;refine aj rfl ?_;refine W.exit rfl ?_;refine Ζ ?_;refine W.to (Β (i+1,f) ⟨Τ,go un⟩ (by simp;omega)) (by rw[aG]) ?_;have:=fV (show i+1<2 ^ 62 by omega);simpa using this
 ·refine aj (by simp[ε]) ?_;refine W.exit rfl ?_;have Γ:Go.Sort.insOuter (Go.Sort.ltInt) a b i e=e:=by rw[Go.Sort.insOuter,if_neg ε]
  exact W.nil ⟨_,rfl,rfl,by rw[<-U,Γ]⟩
end Go.TL
