import Derived.Test.YtlabjopijpkiaaaGreatCAN
set_option maxHeartbeats 16000000
set_option maxRecDepth 20000
set_option linter.unusedSectionVars false
set_option linter.unusedSimpArgs false
set_option linter.unusedVariables false
namespace Go.TL
open Go.Proofs
variable [bp]
instance:Inhabited Found:=⟨⟨0,0,[]⟩⟩
theorem NI (d:Array (Int×Int)) (n a b:Nat) (Ζ:d.size=n) (κ:a<=b) (hb:b<=n) (ν:n<2 ^ 40) (ay:η) (cmp:Int×Int->Int×Int->Int) (b8:aJ 0 ay) (Τ:∀x y,gi Tryz.prog ay [aG x,aG y] (I (cmp x y))) :
  ab Tryz.prog 234 [.ms 0 n 0 n,I a,I b,ay] [.cells 112 2 (d.toList.map aG)] (λr s=>r=.bq []/\s=[.cells 112 2 ((Go.Sort.insertionSort (aB cmp) d a b).toList.map aG)]) (λ_ _=>False):=by
 refine ab.body Υ Tryz.func234 rfl rfl Tryz.ntmps234 rfl rfl ζ ?_;refine Η ?_;have lF:=gq (show a+1<2 ^ 62 by omega);refine W.iter (λq:Nat×Array (Int×Int)=>q.2.size=n/\Go.Sort.insOuter (aB cmp) a b q.1 q.2=Go.Sort.insertionSort (aB cmp) d a b) (λq=>[(0,.ms 0 n 0 n),(1,I a),(2,I b),(3,ay),(8,I q.1)]) (λq=>[.cells 112 2 (q.2.toList.map aG)]) (λq=>b-q.1) (a+1,d) ⟨Ζ,rfl⟩ rfl (by simpa using lF) (λq hi ω=>?_);obtain⟨i,e⟩:=q;obtain⟨J,U⟩:=hi;simp only at J U;refine Η ?_;by_cases ε:i<b
 ·refine aD (by simp[ε]) ?_;refine Η ?_;refine W.iter (λq:Nat×Array (Int×Int)=>q.2.size=n/\q.1<=i/\Go.Sort.insInner (aB cmp) a q.1 q.2=Go.Sort.insInner (aB cmp) a i e) (λq=>[(0,.ms 0 n 0 n),(1,I a),(2,I b),(3,ay),(8,I i),(9,I q.1)]) (λq=>[.cells 112 2 (q.2.toList.map aG)]) (λq=>q.1) (i,e) ⟨J,Nat.le_refl _,rfl⟩ rfl ζ (λq δ g4=>?_);obtain⟨j,f⟩:=q;obtain⟨Ρ,aa,aX⟩:=δ;simp only at Ρ aa aX;have go:Go.Sort.insInner (aB cmp) a j f=f->Go.Sort.insOuter (aB cmp) a b (i+1) f=Go.Sort.insertionSort (aB cmp) d a b:=λhd=>by
   rw[<-U,<-hd,aX];conv=>rhs;rw[Go.Sort.insOuter,if_pos ε]
  obtain⟨L,ai⟩:=aK (f.toList.map aG);have kl:L.length=n:=by rw[ai];simpa using Ρ
  refine W.to (σ':=[.cells 112 2 L]) (env':=[(0,.ms 0 n 0 n),(1,I a),(2,I b),(3,ay),(8,I i),(9,I j)]) ?_ (by rw[ai]) ζ
  repeat apply Ω
  by_cases δ:a<j
  ·obtain⟨p,π⟩:∃p,j=p+1:=⟨j-1,R⟩;have oJ:IntKind.i64.wrap ((j:Int)-1)=(p:Int):=by have:=gq (show p<2 ^ 62 by omega);rw[π];simpa using this
   have aO:j<n:=R
   have rP:p<n:=R
   have AS:¬j=p:=R;obtain⟨x,γ⟩:=aK (f[j]!);obtain⟨y,Κ⟩:=aK (f[p]!);have qy:L[j]?=some (aG x):=by rw[ai,γ,List.getElem?_map,Array.getElem?_toList,qx R];rfl
   have l6:L[p]?=some (aG y):=by rw[ai,Κ,List.getElem?_map,Array.getElem?_toList,qx R];rfl
   have uW:∀h:j<L.length,L[j]=aG x:=λh=>by have:=qy;rw[a8 h] at this;exact Option.some.inj this
   have uX:∀h:p<L.length,L[p]=aG y:=λh=>by have:=l6;rw[a8 h] at this;exact Option.some.inj this
   have un:Go.Sort.insInner (aB cmp) a j f=if aB cmp x y=true then Go.Sort.insInner (aB cmp) a p (Go.Sort.swp f j p) else f:=by
    subst π;rw[Go.Sort.insInner,γ,Κ];simp[δ]
   have kJ:(Go.Sort.swp f j p).toList.map aG=(L.set j (aG y)).set p (aG x):=by rw[ai,γ,Κ];simp[Go.Sort.swp]
   have AT:(Go.Sort.swp f j p).size=n:=by simp[Go.Sort.swp,Ρ]
   have AU:=ai;clear γ Κ;refine W.draw (A:=[]) Υ mixed λΘ θ=>hV (υ δ (υ oJ (υ kl (υ aO (υ rP (υ qy (υ l6 (υ uW uX)))))))) ?_;refine eZ (Τ x y) ?_;simp;(repeat (rw[dq];simp[]));try rw[dp]
   refine e5 (θ _ _ ?_);by_cases hm:cmp x y<0
   ·refine aD (by simp[hm]) ?_
    repeat apply Ω
    refine dR (υ δ (υ oJ (υ kl (υ aO (υ rP (υ qy (υ l6 (υ uW (υ uX AS))))))))) ?_;refine Η ?_;refine W.to (g4 (p,Go.Sort.swp f j p) ⟨AT,by simp;omega,?_⟩ (by simp;omega)) ?_ ?_
    ·rw[<-aX,un,if_pos (by simp[aB,Go.Sort.ltInt,hm])]
    ·rw[kJ]
    ·simp[oJ]
   ·refine aA (by simp[hm]) ?_;refine W.exit rfl ?_;refine Η ?_;refine W.to (ω (i+1,f) ⟨Ρ,go (by rw[un,if_neg (by simp[aB,Go.Sort.ltInt,hm])])⟩ (by simp;omega)) (by rw[AU]) ?_;have:=gq (show i+1<2 ^ 62 by omega);simpa using this
  ·have un:Go.Sort.insInner (aB cmp) a j f=f:=by
    cases j with
    | zero=>rfl
    | succ p=>rw[Go.Sort.insInner];simp[δ]
   refine dR δ ?_;refine aA rfl ?_;refine W.exit rfl ?_;refine Η ?_;refine W.to (ω (i+1,f) ⟨Ρ,go un⟩ (by simp;omega)) (by rw[ai]) ?_;have:=gq (show i+1<2 ^ 62 by omega);simpa using this
 ·refine aA (by simp[ε]) ?_;refine W.exit rfl ?_;have Δ:Go.Sort.insOuter (aB cmp) a b i e=e:=by rw[Go.Sort.insOuter,if_neg ε]
  exact W.nil ⟨_,rfl,rfl,by rw[<-U,Δ]⟩
theorem WN (d:Array (Found)) (n a b:Nat) (Ζ:d.size=n) (κ:a<=b) (hb:b<=n) (ν:n<2 ^ 40) (ay:η) (cmp:Found->Found->Int) (b8:aJ 0 ay) (Τ:∀x y,gi Tryz.prog ay [dg x,dg y] (I (cmp x y))) :
  ab Tryz.prog 217 [.ms 0 n 0 n,I a,I b,ay] [.cells 110 3 (d.toList.map dg)] (λr s=>r=.bq []/\s=[.cells 110 3 ((Go.Sort.insertionSort (aB cmp) d a b).toList.map dg)]) (λ_ _=>False):=by
 refine ab.body Υ Tryz.func217 rfl rfl Tryz.ntmps217 rfl rfl ζ ?_;refine Η ?_;have lF:=gq (show a+1<2 ^ 62 by omega);refine W.iter (λq:Nat×Array (Found)=>q.2.size=n/\Go.Sort.insOuter (aB cmp) a b q.1 q.2=Go.Sort.insertionSort (aB cmp) d a b) (λq=>[(0,.ms 0 n 0 n),(1,I a),(2,I b),(3,ay),(8,I q.1)]) (λq=>[.cells 110 3 (q.2.toList.map dg)]) (λq=>b-q.1) (a+1,d) ⟨Ζ,rfl⟩ rfl (by simpa using lF) (λq hi ω=>?_);obtain⟨i,e⟩:=q;obtain⟨J,U⟩:=hi;simp only at J U;refine Η ?_;by_cases ε:i<b
 ·refine aD (by simp[ε]) ?_;refine Η ?_;refine W.iter (λq:Nat×Array (Found)=>q.2.size=n/\q.1<=i/\Go.Sort.insInner (aB cmp) a q.1 q.2=Go.Sort.insInner (aB cmp) a i e) (λq=>[(0,.ms 0 n 0 n),(1,I a),(2,I b),(3,ay),(8,I i),(9,I q.1)]) (λq=>[.cells 110 3 (q.2.toList.map dg)]) (λq=>q.1) (i,e) ⟨J,Nat.le_refl _,rfl⟩ rfl ζ (λq δ g4=>?_);obtain⟨j,f⟩:=q;obtain⟨Ρ,aa,aX⟩:=δ;simp only at Ρ aa aX;have go:Go.Sort.insInner (aB cmp) a j f=f->Go.Sort.insOuter (aB cmp) a b (i+1) f=Go.Sort.insertionSort (aB cmp) d a b:=λhd=>by
   rw[<-U,<-hd,aX];conv=>rhs;rw[Go.Sort.insOuter,if_pos ε]
  obtain⟨L,ai⟩:=aK (f.toList.map dg);have kl:L.length=n:=by rw[ai];simpa using Ρ
  refine W.to (σ':=[.cells 110 3 L]) (env':=[(0,.ms 0 n 0 n),(1,I a),(2,I b),(3,ay),(8,I i),(9,I j)]) ?_ (by rw[ai]) ζ
  repeat apply Ω
  by_cases δ:a<j
  ·obtain⟨p,π⟩:∃p,j=p+1:=⟨j-1,R⟩;have oJ:IntKind.i64.wrap ((j:Int)-1)=(p:Int):=by have:=gq (show p<2 ^ 62 by omega);rw[π];simpa using this
   have aO:j<n:=R
   have rP:p<n:=R
   have AS:¬j=p:=R;obtain⟨x,γ⟩:=aK (f[j]!);obtain⟨y,Κ⟩:=aK (f[p]!);have qy:L[j]?=some (dg x):=by rw[ai,γ,List.getElem?_map,Array.getElem?_toList,qx R];rfl
   have l6:L[p]?=some (dg y):=by rw[ai,Κ,List.getElem?_map,Array.getElem?_toList,qx R];rfl
   have uW:∀h:j<L.length,L[j]=dg x:=λh=>by have:=qy;rw[a8 h] at this;exact Option.some.inj this
   have uX:∀h:p<L.length,L[p]=dg y:=λh=>by have:=l6;rw[a8 h] at this;exact Option.some.inj this
   have un:Go.Sort.insInner (aB cmp) a j f=if aB cmp x y=true then Go.Sort.insInner (aB cmp) a p (Go.Sort.swp f j p) else f:=by
    subst π;rw[Go.Sort.insInner,γ,Κ];simp[δ]
   have kJ:(Go.Sort.swp f j p).toList.map dg=(L.set j (dg y)).set p (dg x):=by rw[ai,γ,Κ];simp[Go.Sort.swp]
   have AT:(Go.Sort.swp f j p).size=n:=by simp[Go.Sort.swp,Ρ]
   have AU:=ai;clear γ Κ;refine W.draw (A:=[]) Υ mixed λΘ θ=>hV (υ δ (υ oJ (υ kl (υ aO (υ rP (υ qy (υ l6 (υ uW uX)))))))) ?_;refine eZ (Τ x y) ?_;simp;(repeat (rw[dq];simp[]));try rw[dp]
   refine e5 (θ _ _ ?_);by_cases hm:cmp x y<0
   ·refine aD (by simp[hm]) ?_
    repeat apply Ω
    refine dR (υ δ (υ oJ (υ kl (υ aO (υ rP (υ qy (υ l6 (υ uW (υ uX AS))))))))) ?_;refine Η ?_;refine W.to (g4 (p,Go.Sort.swp f j p) ⟨AT,by simp;omega,?_⟩ (by simp;omega)) ?_ ?_
    ·rw[<-aX,un,if_pos (by simp[aB,Go.Sort.ltInt,hm])]
    ·rw[kJ]
    ·simp[oJ]
   ·refine aA (by simp[hm]) ?_;refine W.exit rfl ?_;refine Η ?_;refine W.to (ω (i+1,f) ⟨Ρ,go (by rw[un,if_neg (by simp[aB,Go.Sort.ltInt,hm])])⟩ (by simp;omega)) (by rw[AU]) ?_;have:=gq (show i+1<2 ^ 62 by omega);simpa using this
  ·have un:Go.Sort.insInner (aB cmp) a j f=f:=by
    cases j with
    | zero=>rfl
    | succ p=>rw[Go.Sort.insInner];simp[δ]
   refine dR δ ?_;refine aA rfl ?_;refine W.exit rfl ?_;refine Η ?_;refine W.to (ω (i+1,f) ⟨Ρ,go un⟩ (by simp;omega)) (by rw[ai]) ?_;have:=gq (show i+1<2 ^ 62 by omega);simpa using this
 ·refine aA (by simp[ε]) ?_;refine W.exit rfl ?_;have Δ:Go.Sort.insOuter (aB cmp) a b i e=e:=by rw[Go.Sort.insOuter,if_neg ε]
  exact W.nil ⟨_,rfl,rfl,by rw[<-U,Δ]⟩
theorem NJ (d:Array (Int)) (n a b:Nat) (Ζ:d.size=n) (κ:a<=b) (hb:b<=n) (ν:n<2 ^ 40)  :
  ab Tryz.prog 197 [.ms 0 n 0 n,I a,I b] [.cells 3 1 (d.toList.map I)] (λr s=>r=.bq []/\s=[.cells 3 1 ((Go.Sort.insertionSort (Go.Sort.ltInt) d a b).toList.map I)]) (λ_ _=>False):=by
 refine ab.body Υ Tryz.func197 rfl rfl Tryz.ntmps197 rfl rfl ζ ?_;refine Η ?_;have lF:=gq (show a+1<2 ^ 62 by omega);refine W.iter (λq:Nat×Array (Int)=>q.2.size=n/\Go.Sort.insOuter (Go.Sort.ltInt) a b q.1 q.2=Go.Sort.insertionSort (Go.Sort.ltInt) d a b) (λq=>[(0,.ms 0 n 0 n),(1,I a),(2,I b),(6,I q.1)]) (λq=>[.cells 3 1 (q.2.toList.map I)]) (λq=>b-q.1) (a+1,d) ⟨Ζ,rfl⟩ rfl (by simpa using lF) (λq hi ω=>?_);obtain⟨i,e⟩:=q;obtain⟨J,U⟩:=hi;simp only at J U;refine Η ?_;by_cases ε:i<b
 ·refine aD (by simp[ε]) ?_;refine Η ?_;refine W.iter (λq:Nat×Array (Int)=>q.2.size=n/\q.1<=i/\Go.Sort.insInner (Go.Sort.ltInt) a q.1 q.2=Go.Sort.insInner (Go.Sort.ltInt) a i e) (λq=>[(0,.ms 0 n 0 n),(1,I a),(2,I b),(6,I i),(7,I q.1)]) (λq=>[.cells 3 1 (q.2.toList.map I)]) (λq=>q.1) (i,e) ⟨J,Nat.le_refl _,rfl⟩ rfl ζ (λq δ g4=>?_);obtain⟨j,f⟩:=q;obtain⟨Ρ,aa,aX⟩:=δ;simp only at Ρ aa aX;have go:Go.Sort.insInner (Go.Sort.ltInt) a j f=f->Go.Sort.insOuter (Go.Sort.ltInt) a b (i+1) f=Go.Sort.insertionSort (Go.Sort.ltInt) d a b:=λhd=>by
   rw[<-U,<-hd,aX];conv=>rhs;rw[Go.Sort.insOuter,if_pos ε]
  obtain⟨L,ai⟩:=aK (f.toList.map I);have kl:L.length=n:=by rw[ai];simpa using Ρ
  refine W.to (σ':=[.cells 3 1 L]) (env':=[(0,.ms 0 n 0 n),(1,I a),(2,I b),(6,I i),(7,I j)]) ?_ (by rw[ai]) ζ
  repeat apply Ω
  by_cases δ:a<j
  ·obtain⟨p,π⟩:∃p,j=p+1:=⟨j-1,R⟩;have oJ:IntKind.i64.wrap ((j:Int)-1)=(p:Int):=by have:=gq (show p<2 ^ 62 by omega);rw[π];simpa using this
   have aO:j<n:=R
   have rP:p<n:=R
   have AS:¬j=p:=R;obtain⟨x,γ⟩:=aK (f[j]!);obtain⟨y,Κ⟩:=aK (f[p]!);have qy:L[j]?=some (I x):=by rw[ai,γ,List.getElem?_map,Array.getElem?_toList,qx R];rfl
   have l6:L[p]?=some (I y):=by rw[ai,Κ,List.getElem?_map,Array.getElem?_toList,qx R];rfl
   have uW:∀h:j<L.length,L[j]=I x:=λh=>by have:=qy;rw[a8 h] at this;exact Option.some.inj this
   have uX:∀h:p<L.length,L[p]=I y:=λh=>by have:=l6;rw[a8 h] at this;exact Option.some.inj this
   have un:Go.Sort.insInner (Go.Sort.ltInt) a j f=if Go.Sort.ltInt x y=true then Go.Sort.insInner (Go.Sort.ltInt) a p (Go.Sort.swp f j p) else f:=by
    subst π;rw[Go.Sort.insInner,γ,Κ];simp[δ]
   have kJ:(Go.Sort.swp f j p).toList.map I=(L.set j (I y)).set p (I x):=by rw[ai,γ,Κ];simp[Go.Sort.swp]
   have AT:(Go.Sort.swp f j p).size=n:=by simp[Go.Sort.swp,Ρ]
   have AU:=ai;clear γ Κ;refine W.draw (A:=[]) Υ mixed λΘ θ=>hV (υ δ (υ oJ (υ kl (υ aO (υ rP (υ qy (υ l6 (υ uW uX)))))))) ?_;refine eZ (az.p (nV x y) (bI.refl _) ζ ζ) ?_;simp;(repeat (rw[dq];simp[]));try rw[dp]
   refine e5 (θ _ _ ?_);by_cases hm:x<y
   ·refine aD (by simp[hm]) ?_
    repeat apply Ω
    refine dR (υ δ (υ oJ (υ kl (υ aO (υ rP (υ qy (υ l6 (υ uW (υ uX AS))))))))) ?_;refine Η ?_;refine W.to (g4 (p,Go.Sort.swp f j p) ⟨AT,by simp;omega,?_⟩ (by simp;omega)) ?_ ?_
    ·rw[<-aX,un,if_pos (by simp[aB,Go.Sort.ltInt,hm])]
    ·rw[kJ]
    ·simp[oJ]
   ·refine aA (by simp[hm]) ?_;refine W.exit rfl ?_;refine Η ?_;refine W.to (ω (i+1,f) ⟨Ρ,go (by rw[un,if_neg (by simp[aB,Go.Sort.ltInt,hm])])⟩ (by simp;omega)) (by rw[AU]) ?_;have:=gq (show i+1<2 ^ 62 by omega);simpa using this
  ·have un:Go.Sort.insInner (Go.Sort.ltInt) a j f=f:=by
    cases j with
    | zero=>rfl
    | succ p=>rw[Go.Sort.insInner];simp[δ]
   refine dR δ ?_;refine aA rfl ?_;refine W.exit rfl ?_;refine Η ?_;refine W.to (ω (i+1,f) ⟨Ρ,go un⟩ (by simp;omega)) (by rw[ai]) ?_;have:=gq (show i+1<2 ^ 62 by omega);simpa using this
 ·refine aA (by simp[ε]) ?_;refine W.exit rfl ?_;have Δ:Go.Sort.insOuter (Go.Sort.ltInt) a b i e=e:=by rw[Go.Sort.insOuter,if_neg ε]
  exact W.nil ⟨_,rfl,rfl,by rw[<-U,Δ]⟩
end Go.TL
