import Derived.Test.YtlabjopijpkiaaaGreatCAP
import Derived.Test.YtlabjopijpkiaaaGreatCAX
import Derived.Test.YtlabjopijpkiaaaGreatCBB
import Derived.Test.YtlabjopijpkiaaaGreatCBC
import Derived.Test.YtlabjopijpkiaaaGreatCBD
set_option maxHeartbeats 16000000
set_option maxRecDepth 20000
set_option linter.unusedSectionVars false
set_option linter.unusedSimpArgs false
set_option linter.unusedVariables false
namespace Go.TL
open Go.Proofs
theorem Ru [bp] {s:aS} (h:il s) (i:Nat):xA s i<=i*5764801:=by
 induction i with
 | zero=>simp[xA]
 | succ i ω=>
  rw[Rr,Rt];have:=KB h (fE i) (-1) (Nat.le_refl s.cells.length);omega
end Go.TL
namespace Go.TL
open Go.Proofs
variable [bp]
end Go.TL
namespace Go.TL
open Go.Conc Go.Proofs
variable [bp]
theorem W.eX {P:Program} {m nt:Nat} {k:List Item} {env:Χ} {σ:List Row} {Z:List Item->Χ->List Row->Prop} {E:η->Χ->List Row->Prop} (env':Χ) (cE:∀p∈env',c6 (a5 env p.1) p.2) (hW:W P m nt k env' σ Z E):W P m nt k env σ Z E:=
 λQ mn x cs b S B H t γ hb π Φ he=>by
 have s5:∀(l:Χ),(∀p∈l,c6 (a5 env p.1) p.2)->∀i,c6 (a5 env i) (a5 l i):=by
  intro l
  induction l with
  | nil=>intro _ i;exact .cg _
  | cons p l ω=>
   intro ξ i;simp only[a5];split
   ·rename_i e;rw[<-e];exact ξ p ζ
   ·exact ω (λq Ξ=>ξ q (by simp[Ξ])) i
 exact hW Q mn x cs b S B H t γ hb ⟨π.holds,λi=>s5 env' cE i S B σ _ (π.cx i),π.size,π.rows⟩ Φ he
end Go.TL
namespace Go.TL
open Go.Proofs
variable [bp]
end Go.TL
namespace Go.TL
open Go.Proofs
end Go.TL
namespace Go.TL
open Go.Proofs
variable [bp]
theorem fτ {n:Nat} {r:Int×Int}:r∈wN n↔(-1<=r.1/\r.1<n)/\(-1<=r.2/\r.2<n):=by
 unfold wN oO mw;simp only[List.mem_flatMap,List.mem_map,List.mem_range];constructor
 ·rintro⟨x,γ,y,Κ,rfl⟩;simp only;omega
 ·rintro⟨⟨J,U⟩,μ,Ε⟩;exact⟨(r.1+1).toNat,R,(r.2+1).toNat,R,Prod.ext (by simp only;omega) (by simp only;omega)⟩
structure fυ (s:aS) (F:List Found) (lower:Bool) (N:Nat):Prop where
 n1:F.length<2 ^ 20
 cells:∀f∈F,f.cells.length=s.cells.length/\∀c∈f.cells,c.length<2 ^ 20
 some:∀c,c<s.cells.length->gr F c lower≠[]/\(gr F c lower).length<=N
theorem fφ (d:Array (Int)) (n a b p:Nat) (Ζ:d.size=n) (ν:n<2 ^ 40) (iA:a<=p) (Kd:p<b) (hb:b<=n)  :
  ab Tryz.prog 205 [.ms 0 n 0 n,I a,I b,I p] [.cells 3 1 ((d).toList.map I)] (λr s=>r=.bq [I (Go.Sort.partition (Go.Sort.ltInt) d a b p).1,a' (Go.Sort.partition (Go.Sort.ltInt) d a b p).2.1]/\s=[.cells 3 1 (((Go.Sort.partition (Go.Sort.ltInt) d a b p).2.2).toList.map I)]) (λ_ _=>False):=by
 refine ab.body Υ Tryz.func205 rfl rfl Tryz.ntmps205 rfl rfl ζ ?_;have hB:=ho (i:=a) R;have gO:=h2 (i:=b) R R
 repeat apply Ω
 refine lE ?_;have aC:a<n:=R;have aH:p<n:=R;obtain⟨L,x,y,ai,γ,Κ,ξ,⟨J,U⟩,⟨μ,Ε⟩,cr,eD,au⟩:=eC I Ζ aC aH;refine W.to (σ':=[.cells 3 1 L]) (env':=[(0,.ms 0 n 0 n),(1,I a),(2,I b),(3,I p)]) ?_ (by rw[ai]) ζ;clear γ Κ
 repeat apply Ω
 refine dR (υ ξ (υ J (υ U (υ μ (υ Ε (υ au (υ aC aH))))))) ?_;refine W.to (σ':=[.cells 3 1 ((Go.Sort.swp d a p).toList.map I)]) (env':=[(0,.ms 0 n 0 n),(1,I a),(2,I b),(3,I p)]) ?_ (by rw[cr]) ζ;clear aC aH J U μ Ε au cr ξ ai L x y eD;obtain⟨e,he⟩:=aK (Go.Sort.swp d a p);have cq:e.size=n:=by rw[he];exact swp_size Ζ a p
 rw[<-he]
 repeat apply Ω
 refine nU (υ hB gO) ?_;refine W.to (σ':=[.cells 3 1 ((e).toList.map I)]) (env':=[(0,.ms 0 n 0 n),(1,I a),(10,I (a+1:Nat)),(11,I (b-1:Nat))]) ?_ rfl ζ;obtain⟨ag,dP⟩:=b2 (Go.Sort.scanUp (λx=>Go.Sort.ltInt x e[a]!) e (b-1) (a+1));obtain⟨ar,cR⟩:=b2 (Go.Sort.scanDown (λx=>!Go.Sort.ltInt x e[a]!) e ag (b-1));obtain⟨s1,s2,kR,pY,kz⟩:=vu (λx=>Go.Sort.ltInt x e[a]!) (λx=>!Go.Sort.ltInt x e[a]!) (λx=>rfl) e R R dP cR;have cB:Go.Sort.partition (Go.Sort.ltInt) d a b p=if ag > ar then(ar,true,Go.Sort.swp e ar a) else((Go.Sort.partLoop (Go.Sort.ltInt) a (ag+1) (ar-1) (Go.Sort.swp e ag ar)).1,false,Go.Sort.swp (Go.Sort.partLoop (Go.Sort.ltInt) a (ag+1) (ar-1) (Go.Sort.swp e ag ar)).2 (Go.Sort.partLoop (Go.Sort.ltInt) a (ag+1) (ar-1) (Go.Sort.swp e ag ar)).1 a):=by
  unfold Go.Sort.partition;simp only[<-he,dP,cR]
 repeat apply Ω
 repeat apply Ω
 refine W.ku [(0,.ms 0 n 0 n),(1,I a),(10,I (ag:Nat)),(11,I (b-1:Nat))] [.cells 3 1 ((e).toList.map I)] ?_ ?_
 ·refine W.iter (λi:Nat=>(a+1)<=i/\i<=(b-1)+1/\Go.Sort.scanUp (λx=>Go.Sort.ltInt x e[a]!) e (b-1) i=ag) (λi=>[(0,.ms 0 n 0 n),(1,I a),(10,I (i:Nat)),(11,I (b-1:Nat))]) (λ_=>[.cells 3 1 ((e).toList.map I)]) (λi=>(b-1)+1-i) ((a+1)) ⟨Nat.le_refl _,R,dP⟩ rfl ζ (λi hi ω=>?_);obtain⟨iL,iR,dh⟩:=hi;by_cases ε:i<=(b-1)
  ·have aC:i<n:=by omega
   have aH:a<n:=R;obtain⟨L,x,y,ai,γ,Κ,ξ,⟨J,U⟩,⟨μ,Ε⟩,-,-⟩:=eC I cq aC aH;have un:Go.Sort.scanUp (λx=>Go.Sort.ltInt x e[a]!) e (b-1) i=if(Go.Sort.ltInt x y)=true then Go.Sort.scanUp (λx=>Go.Sort.ltInt x e[a]!) e (b-1) (i+1) else i:=by rw[Go.Sort.scanUp];simp[ε,γ,Κ]
   have hw:=ho (i:=i) R;refine W.to (σ':=[.cells 3 1 L]) (env':=[(0,.ms 0 n 0 n),(1,I a),(10,I (i:Nat)),(11,I (b-1:Nat))]) ?_ (by rw[ai]) ζ;clear γ Κ
   repeat apply Ω
   refine W.draw (A:=[]) Υ mixed λΘ θ=>hV (υ ε (υ ξ (υ J (υ U (υ μ (υ Ε (υ aC aH))))))) ?_;refine eZ (az.p (nV x y) (bI.refl _) ζ ζ) ?_;simp;(repeat (rw[dq];simp[]));try rw[dp]
   refine e5 (θ _ _ ?_);by_cases hm:x<y
   ·refine aD (by simp[hm]) ?_;refine aE hw ?_;exact W.to (ω (i+1) ⟨R,R,by rw[<-dh,un];simp[hm,Go.Sort.ltInt]⟩ (by(try simp only);omega)) (by rw[ai]) (by simp[hw])
   ·refine aA (by simp[hm]) ?_;refine W.exit rfl ?_;exact W.stop ⟨rfl,by rw[ai],by rw[<-dh,un];simp[hm,Go.Sort.ltInt]⟩
  ·repeat apply Ω
   refine dR ε ?_;refine aA rfl ?_;refine W.exit rfl ?_;have e:Go.Sort.scanUp (λx=>Go.Sort.ltInt x e[a]!) e (b-1) i=i:=by rw[Go.Sort.scanUp];simp[ε]
   exact W.stop ⟨rfl,rfl,by rw[<-dh,e];simp⟩
 repeat apply Ω
 refine W.ku [(0,.ms 0 n 0 n),(1,I a),(10,I (ag:Nat)),(11,I (ar:Nat))] [.cells 3 1 ((e).toList.map I)] ?_ ?_
 ·refine W.iter (λi:Nat=>i<=(b-1)/\ag<=i+1/\Go.Sort.scanDown (λx=>!Go.Sort.ltInt x e[a]!) e ag i=ar) (λi=>[(0,.ms 0 n 0 n),(1,I a),(10,I (ag:Nat)),(11,I (i:Nat))]) (λ_=>[.cells 3 1 ((e).toList.map I)]) (λi=>i+1-ag) ((b-1)) ⟨Nat.le_refl _,R,cR⟩ rfl ζ (λi hi ω=>?_);obtain⟨iL,iR,dh⟩:=hi;by_cases ε:ag<=i
  ·have aC:i<n:=by omega
   have aH:a<n:=R;obtain⟨L,x,y,ai,γ,Κ,ξ,⟨J,U⟩,⟨μ,Ε⟩,-,-⟩:=eC I cq aC aH;obtain⟨q,Ξ⟩:∃q,i=q+1:=⟨i-1,R⟩;have un:Go.Sort.scanDown (λx=>!Go.Sort.ltInt x e[a]!) e ag i=if(!Go.Sort.ltInt x y)=true then Go.Sort.scanDown (λx=>!Go.Sort.ltInt x e[a]!) e ag (i-1) else i:=by subst Ξ;rw[Go.Sort.scanDown];simp[ε,γ,Κ]
   have hw:=h2 (i:=i) R R;refine W.to (σ':=[.cells 3 1 L]) (env':=[(0,.ms 0 n 0 n),(1,I a),(10,I (ag:Nat)),(11,I (i:Nat))]) ?_ (by rw[ai]) ζ;clear γ Κ
   repeat apply Ω
   refine W.draw (A:=[]) Υ mixed λΘ θ=>hV (υ ε (υ ξ (υ J (υ U (υ μ (υ Ε (υ aC aH))))))) ?_;refine eZ (az.p (nV x y) (bI.refl _) ζ ζ) ?_;simp;(repeat (rw[dq];simp[]));try rw[dp]
   refine e5 (θ _ _ ?_);by_cases hm:x<y
   ·refine aA (by simp[hm]) ?_;refine W.exit rfl ?_;exact W.stop ⟨rfl,by rw[ai],by rw[<-dh,un];simp[hm,Go.Sort.ltInt]⟩
   ·refine aD (by simp[hm]) ?_;refine aE hw ?_;exact W.to (ω (i-1) ⟨R,R,by rw[<-dh,un];simp[hm,Go.Sort.ltInt]⟩ (by(try simp only);omega)) (by rw[ai]) (by simp[hw])
  ·repeat apply Ω
   refine dR ε ?_;refine aA rfl ?_;refine W.exit rfl ?_;have e:Go.Sort.scanDown (λx=>!Go.Sort.ltInt x e[a]!) e ag i=i:=by exact zi _ _ R
   exact W.stop ⟨rfl,rfl,by rw[<-dh,e];simp⟩
 repeat apply Ω
 by_cases ε:ag > ar
 ·have a3:((ar:Nat):Int)<(ag:Nat):=by omega
  refine aE a3 ?_;refine aD (by simp[ε]) ?_;have aC:ar<n:=R;have aH:a<n:=R;obtain⟨L,x,y,ai,γ,Κ,ξ,⟨J,U⟩,⟨μ,Ε⟩,cr,eD,au⟩:=eC I cq aC aH;refine W.to (σ':=[.cells 3 1 L]) (env':=[(0,.ms 0 n 0 n),(1,I a),(10,I (ag:Nat)),(11,I (ar:Nat))]) ?_ (by rw[ai]) ζ;clear γ Κ
  repeat apply Ω
  refine dR (υ ξ (υ J (υ U (υ μ (υ Ε (υ au (υ aC aH))))))) ?_;refine W.to (σ':=[.cells 3 1 ((Go.Sort.swp e ar a).toList.map I)]) (env':=[(0,.ms 0 n 0 n),(1,I a),(10,I (ag:Nat)),(11,I (ar:Nat))]) ?_ (by rw[cr]) ζ;clear aC aH J U μ Ε au cr ξ ai L x y eD;refine Η ?_;exact W.ret ⟨_,rfl,by rw[cB,if_pos ε];rfl,by rw[cB,if_pos ε]⟩
 have a3:¬((ar:Nat):Int)<(ag:Nat):=R
 have vG:=kz R
 have gJ:=ho (i:=ag) R
 have jB:=h2 (i:=ar) R R;refine aE a3 ?_;refine aA (by simp[ε]) ?_;have aC:ag<n:=R;have aH:ar<n:=R;obtain⟨L,x,y,ai,γ,Κ,ξ,⟨J,U⟩,⟨μ,Ε⟩,cr,eD,au⟩:=eC I cq aC aH;refine W.to (σ':=[.cells 3 1 L]) (env':=[(0,.ms 0 n 0 n),(1,I a),(10,I (ag:Nat)),(11,I (ar:Nat))]) ?_ (by rw[ai]) ζ;clear γ Κ
 repeat apply Ω
 refine dR (υ ξ (υ J (υ U (υ μ (υ Ε (υ au (υ aC aH))))))) ?_;refine W.to (σ':=[.cells 3 1 ((Go.Sort.swp e ag ar).toList.map I)]) (env':=[(0,.ms 0 n 0 n),(1,I a),(10,I (ag:Nat)),(11,I (ar:Nat))]) ?_ (by rw[cr]) ζ;clear aC aH J U μ Ε au cr ξ ai L x y eD;have p7:=swp_size cq ag ar;rw[if_neg ε] at cB;obtain⟨g,Ο⟩:=aK (Go.Sort.swp e ag ar);rw[<-Ο] at cB p7;rw[<-Ο];refine aE (υ gJ jB) ?_;refine W.to (σ':=[.cells 3 1 ((g).toList.map I)]) (env':=[(0,.ms 0 n 0 n),(1,I a),(10,I (ag+1:Nat)),(11,I (ar-1:Nat))]) ?_ rfl (by simp[gJ,jB]);have eΡ:a<ag:=R;have eΤ:ar<b:=R;have eΥ:ag+1<=ar-1+1:=R;clear dP cR a3 ε s1 s2 kR pY kz Ο gJ jB;obtain⟨ak,fq⟩:=b2 (Go.Sort.partLoop (Go.Sort.ltInt) a (ag+1) (ar-1) g)
 repeat apply Ω
 refine W.ku [(0,.ms 0 n 0 n),(1,I a),(11,I ak.1)] [.cells 3 1 ((ak.2).toList.map I)] ?_ ?_
 ·refine W.iter (λq:Nat×Nat×Array (Int)=>q.2.2.size=n/\a<q.1/\q.1<=q.2.1+1/\q.2.1<b/\Go.Sort.partLoop (Go.Sort.ltInt) a q.1 q.2.1 q.2.2=ak) (λq=>[(0,.ms 0 n 0 n),(1,I a),(10,I (q.1:Nat)),(11,I (q.2.1:Nat))]) (λq=>[.cells 3 1 ((q.2.2).toList.map I)]) (λq=>q.2.1+1-q.1) (ag+1,ar-1,g) ⟨p7,by(try simp only);omega,by(try simp only);omega,by(try simp only);omega,fq⟩ rfl ζ (λq hi ω=>?_);obtain⟨i,j,f⟩:=q;obtain⟨bL,iL,iR,dh,aI⟩:=hi;simp only at bL iL iR dh aI;obtain⟨ag,dP⟩:=b2 (Go.Sort.scanUp (λx=>Go.Sort.ltInt x f[a]!) f (j) (i));obtain⟨ar,cR⟩:=b2 (Go.Sort.scanDown (λx=>!Go.Sort.ltInt x f[a]!) f ag (j));obtain⟨s1,s2,kR,pY,kz⟩:=vu (λx=>Go.Sort.ltInt x f[a]!) (λx=>!Go.Sort.ltInt x f[a]!) (λx=>rfl) f R R dP cR;have cB:Go.Sort.partLoop (Go.Sort.ltInt) a i j f=if ag > ar then(ar,f) else Go.Sort.partLoop (Go.Sort.ltInt) a (ag+1) (ar-1) (Go.Sort.swp f ag ar):=by
   rw[Go.Sort.partLoop_eq];simp only[dP,cR]
  refine W.to (σ':=[.cells 3 1 ((f).toList.map I)]) (env':=[(0,.ms 0 n 0 n),(1,I a),(10,I (i:Nat)),(11,I (j:Nat))]) ?_ rfl ζ;refine W.block ?_
  repeat apply Ω
  refine W.ku [(0,.ms 0 n 0 n),(1,I a),(10,I (ag:Nat)),(11,I (j:Nat))] [.cells 3 1 ((f).toList.map I)] ?_ ?_
  ·refine W.iter (λi:Nat=>(i)<=i/\i<=(j)+1/\Go.Sort.scanUp (λx=>Go.Sort.ltInt x f[a]!) f (j) i=ag) (λi=>[(0,.ms 0 n 0 n),(1,I a),(10,I (i:Nat)),(11,I (j:Nat))]) (λ_=>[.cells 3 1 ((f).toList.map I)]) (λi=>(j)+1-i) ((i)) ⟨Nat.le_refl _,R,dP⟩ rfl ζ (λi hi ω=>?_);obtain⟨iL,iR,dh⟩:=hi;by_cases ε:i<=(j)
   ·have aC:i<n:=by omega
    have aH:a<n:=R;obtain⟨L,x,y,ai,γ,Κ,ξ,⟨J,U⟩,⟨μ,Ε⟩,-,-⟩:=eC I bL aC aH;have un:Go.Sort.scanUp (λx=>Go.Sort.ltInt x f[a]!) f (j) i=if(Go.Sort.ltInt x y)=true then Go.Sort.scanUp (λx=>Go.Sort.ltInt x f[a]!) f (j) (i+1) else i:=by rw[Go.Sort.scanUp];simp[ε,γ,Κ]
    have hw:=ho (i:=i) R;refine W.to (σ':=[.cells 3 1 L]) (env':=[(0,.ms 0 n 0 n),(1,I a),(10,I (i:Nat)),(11,I (j:Nat))]) ?_ (by rw[ai]) ζ;clear γ Κ
    repeat apply Ω
    refine W.draw (A:=[]) Υ mixed λΘ θ=>hV (υ ε (υ ξ (υ J (υ U (υ μ (υ Ε (υ aC aH))))))) ?_;refine eZ (az.p (nV x y) (bI.refl _) ζ ζ) ?_;simp;(repeat (rw[dq];simp[]));try rw[dp]
    refine e5 (θ _ _ ?_);by_cases hm:x<y
    ·refine aD (by simp[hm]) ?_;refine aE hw ?_;exact W.to (ω (i+1) ⟨R,R,by rw[<-dh,un];simp[hm,Go.Sort.ltInt]⟩ (by(try simp only);omega)) (by rw[ai]) (by simp[hw])
    ·refine aA (by simp[hm]) ?_;refine W.exit rfl ?_;exact W.stop ⟨rfl,by rw[ai],by rw[<-dh,un];simp[hm,Go.Sort.ltInt]⟩
   ·repeat apply Ω
    refine dR ε ?_;refine aA rfl ?_;refine W.exit rfl ?_;have e:Go.Sort.scanUp (λx=>Go.Sort.ltInt x f[a]!) f (j) i=i:=by rw[Go.Sort.scanUp];simp[ε]
    exact W.stop ⟨rfl,rfl,by rw[<-dh,e];simp⟩
  repeat apply Ω
  refine W.ku [(0,.ms 0 n 0 n),(1,I a),(10,I (ag:Nat)),(11,I (ar:Nat))] [.cells 3 1 ((f).toList.map I)] ?_ ?_
  ·refine W.iter (λi:Nat=>i<=(j)/\ag<=i+1/\Go.Sort.scanDown (λx=>!Go.Sort.ltInt x f[a]!) f ag i=ar) (λi=>[(0,.ms 0 n 0 n),(1,I a),(10,I (ag:Nat)),(11,I (i:Nat))]) (λ_=>[.cells 3 1 ((f).toList.map I)]) (λi=>i+1-ag) ((j)) ⟨Nat.le_refl _,R,cR⟩ rfl ζ (λi hi ω=>?_);obtain⟨iL,iR,dh⟩:=hi;by_cases ε:ag<=i
   ·have aC:i<n:=by omega
    have aH:a<n:=R;obtain⟨L,x,y,ai,γ,Κ,ξ,⟨J,U⟩,⟨μ,Ε⟩,-,-⟩:=eC I bL aC aH;obtain⟨q,Ξ⟩:∃q,i=q+1:=⟨i-1,R⟩;have un:Go.Sort.scanDown (λx=>!Go.Sort.ltInt x f[a]!) f ag i=if(!Go.Sort.ltInt x y)=true then Go.Sort.scanDown (λx=>!Go.Sort.ltInt x f[a]!) f ag (i-1) else i:=by subst Ξ;rw[Go.Sort.scanDown];simp[ε,γ,Κ]
    have hw:=h2 (i:=i) R R;refine W.to (σ':=[.cells 3 1 L]) (env':=[(0,.ms 0 n 0 n),(1,I a),(10,I (ag:Nat)),(11,I (i:Nat))]) ?_ (by rw[ai]) ζ;clear γ Κ
    repeat apply Ω
    refine W.draw (A:=[]) Υ mixed λΘ θ=>hV (υ ε (υ ξ (υ J (υ U (υ μ (υ Ε (υ aC aH))))))) ?_;refine eZ (az.p (nV x y) (bI.refl _) ζ ζ) ?_;simp;(repeat (rw[dq];simp[]));try rw[dp]
    refine e5 (θ _ _ ?_);by_cases hm:x<y
    ·refine aA (by simp[hm]) ?_;refine W.exit rfl ?_;exact W.stop ⟨rfl,by rw[ai],by rw[<-dh,un];simp[hm,Go.Sort.ltInt]⟩
    ·refine aD (by simp[hm]) ?_;refine aE hw ?_;exact W.to (ω (i-1) ⟨R,R,by rw[<-dh,un];simp[hm,Go.Sort.ltInt]⟩ (by(try simp only);omega)) (by rw[ai]) (by simp[hw])
   ·repeat apply Ω
    refine dR ε ?_;refine aA rfl ?_;refine W.exit rfl ?_;have e:Go.Sort.scanDown (λx=>!Go.Sort.ltInt x f[a]!) f ag i=i:=by exact zi _ _ R
    exact W.stop ⟨rfl,rfl,by rw[<-dh,e];simp⟩
  repeat apply Ω
  by_cases ε:ag > ar
  ·have a3:((ar:Nat):Int)<(ag:Nat):=by omega
   refine aE a3 ?_;refine aD (by simp[ε]) ?_;refine W.exit rfl ?_;rw[cB,if_pos ε] at aI;exact W.stop ⟨rfl,by rw[<-aI],by rw[<-aI];simp⟩
  ·have a3:¬((ar:Nat):Int)<(ag:Nat):=by omega
   have vG:=kz R
   have gJ:=ho (i:=ag) R
   have jB:=h2 (i:=ar) R R;refine aE a3 ?_;refine aA (by simp[ε]) ?_;have aC:ag<n:=R;have aH:ar<n:=R;obtain⟨L,x,y,ai,γ,Κ,ξ,⟨J,U⟩,⟨μ,Ε⟩,cr,eD,au⟩:=eC I bL aC aH;refine W.to (σ':=[.cells 3 1 L]) (env':=[(0,.ms 0 n 0 n),(1,I a),(10,I (ag:Nat)),(11,I (ar:Nat))]) ?_ (by rw[ai]) ζ;clear γ Κ
   repeat apply Ω
   refine dR (υ ξ (υ J (υ U (υ μ (υ Ε (υ au (υ aC aH))))))) ?_;refine W.to (σ':=[.cells 3 1 ((Go.Sort.swp f ag ar).toList.map I)]) (env':=[(0,.ms 0 n 0 n),(1,I a),(10,I (ag:Nat)),(11,I (ar:Nat))]) ?_ (by rw[cr]) ζ;clear aC aH J U μ Ε au cr ξ ai L x y eD;refine aE (υ gJ jB) ?_;exact W.to (ω (ag+1,ar-1,Go.Sort.swp f ag ar) ⟨swp_size bL ag ar,by(try simp only);omega,by(try simp only);omega,by(try simp only);omega,by simp;rw[<-aI,cB,if_neg ε]⟩ (by(try simp only);omega)) rfl (by simp[gJ,jB])
 rw[fq] at cB;have Ξ:=Rg (Go.Sort.ltInt) (a:=a) (b:=b) _ (ag+1) (ar-1) g (Nat.le_refl _) p7 R R R;rw[fq] at Ξ;obtain⟨yU,Ke⟩:=Ξ;obtain⟨j,h⟩:=ak;simp only at yU Ke cB;have aC:j<n:=R;have aH:a<n:=R;obtain⟨L,x,y,ai,γ,Κ,ξ,⟨J,U⟩,⟨μ,Ε⟩,cr,eD,au⟩:=eC I yU aC aH;refine W.to (σ':=[.cells 3 1 L]) (env':=[(0,.ms 0 n 0 n),(1,I a),(11,I (j:Nat))]) ?_ (by rw[ai]) ζ;clear γ Κ
 repeat apply Ω
 refine dR (υ ξ (υ J (υ U (υ μ (υ Ε (υ au (υ aC aH))))))) ?_;refine W.to (σ':=[.cells 3 1 ((Go.Sort.swp h j a).toList.map I)]) (env':=[(0,.ms 0 n 0 n),(1,I a),(11,I (j:Nat))]) ?_ (by rw[cr]) ζ;clear aC aH J U μ Ε au cr ξ ai L x y eD;refine Η ?_;exact W.ret ⟨_,rfl,by rw[cB];rfl,by rw[cB]⟩
theorem fχ (d:Array (Int)) (n a b p:Nat) (Ζ:d.size=n) (ν:n<2 ^ 40) (iA:a<=p) (Kd:p<b) (hb:b<=n)  :
  ab Tryz.prog 204 [.ms 0 n 0 n,I a,I b,I p] [.cells 3 1 ((d).toList.map I)] (λr s=>r=I (Go.Sort.partitionEqual (Go.Sort.ltInt) d a b p).1/\s=[.cells 3 1 (((Go.Sort.partitionEqual (Go.Sort.ltInt) d a b p).2).toList.map I)]) (λ_ _=>False):=by
 refine ab.body Υ Tryz.func204 rfl rfl Tryz.ntmps204 rfl rfl ζ ?_;have hB:=ho (i:=a) R;have gO:=h2 (i:=b) R R
 repeat apply Ω
 refine lE ?_;have aC:a<n:=R;have aH:p<n:=R;obtain⟨L,x,y,ai,γ,Κ,ξ,⟨J,U⟩,⟨μ,Ε⟩,cr,eD,au⟩:=eC I Ζ aC aH;refine W.to (σ':=[.cells 3 1 L]) (env':=[(0,.ms 0 n 0 n),(1,I a),(2,I b),(3,I p)]) ?_ (by rw[ai]) ζ;clear γ Κ
 repeat apply Ω
 refine dR (υ ξ (υ J (υ U (υ μ (υ Ε (υ au (υ aC aH))))))) ?_;refine W.to (σ':=[.cells 3 1 ((Go.Sort.swp d a p).toList.map I)]) (env':=[(0,.ms 0 n 0 n),(1,I a),(2,I b),(3,I p)]) ?_ (by rw[cr]) ζ;clear aC aH J U μ Ε au cr ξ ai L x y eD;obtain⟨e,he⟩:=aK (Go.Sort.swp d a p);have cq:e.size=n:=by rw[he];exact swp_size Ζ a p
 rw[<-he]
 repeat apply Ω
 refine nU (υ hB gO) ?_;refine W.to (σ':=[.cells 3 1 ((e).toList.map I)]) (env':=[(0,.ms 0 n 0 n),(1,I a),(9,I (a+1:Nat)),(10,I (b-1:Nat))]) ?_ rfl ζ;obtain⟨ak,fq⟩:=b2 (Go.Sort.partEqLoop (Go.Sort.ltInt) a (a+1) (b-1) e)
 repeat apply Ω
 refine W.ku [(9,I ak.1)] [.cells 3 1 ((ak.2).toList.map I)] ?_ ?_
 ·refine W.iter (λq:Nat×Nat×Array (Int)=>q.2.2.size=n/\a<q.1/\q.1<=q.2.1+1/\q.2.1<b/\Go.Sort.partEqLoop (Go.Sort.ltInt) a q.1 q.2.1 q.2.2=ak) (λq=>[(0,.ms 0 n 0 n),(1,I a),(9,I (q.1:Nat)),(10,I (q.2.1:Nat))]) (λq=>[.cells 3 1 ((q.2.2).toList.map I)]) (λq=>q.2.1+1-q.1) (a+1,b-1,e) ⟨cq,by(try simp only);omega,by(try simp only);omega,by(try simp only);omega,fq⟩ rfl ζ (λq hi ω=>?_);obtain⟨i,j,f⟩:=q;obtain⟨bL,iL,iR,dh,aI⟩:=hi;simp only at bL iL iR dh aI;obtain⟨ag,dP⟩:=b2 (Go.Sort.scanUp (λx=>!Go.Sort.ltInt f[a]! x) f (j) (i));obtain⟨ar,cR⟩:=b2 (Go.Sort.scanDown (λx=>Go.Sort.ltInt f[a]! x) f ag (j));obtain⟨s1,s2,kR,pY,kz⟩:=vu (λx=>!Go.Sort.ltInt f[a]! x) (λx=>Go.Sort.ltInt f[a]! x) (λx=>ζ) f R R dP cR;have cB:Go.Sort.partEqLoop (Go.Sort.ltInt) a i j f=if ag > ar then(ag,f) else Go.Sort.partEqLoop (Go.Sort.ltInt) a (ag+1) (ar-1) (Go.Sort.swp f ag ar):=by
   rw[Go.Sort.partEqLoop_eq];simp only[dP,cR]
  refine W.to (σ':=[.cells 3 1 ((f).toList.map I)]) (env':=[(0,.ms 0 n 0 n),(1,I a),(9,I (i:Nat)),(10,I (j:Nat))]) ?_ rfl ζ;refine W.block ?_
  repeat apply Ω
  refine W.ku [(0,.ms 0 n 0 n),(1,I a),(9,I (ag:Nat)),(10,I (j:Nat))] [.cells 3 1 ((f).toList.map I)] ?_ ?_
  ·refine W.iter (λi:Nat=>(i)<=i/\i<=(j)+1/\Go.Sort.scanUp (λx=>!Go.Sort.ltInt f[a]! x) f (j) i=ag) (λi=>[(0,.ms 0 n 0 n),(1,I a),(9,I (i:Nat)),(10,I (j:Nat))]) (λ_=>[.cells 3 1 ((f).toList.map I)]) (λi=>(j)+1-i) ((i)) ⟨Nat.le_refl _,R,dP⟩ rfl ζ (λi hi ω=>?_);obtain⟨iL,iR,dh⟩:=hi;by_cases ε:i<=(j)
   ·have aC:i<n:=by omega
    have aH:a<n:=R;obtain⟨L,x,y,ai,γ,Κ,ξ,⟨J,U⟩,⟨μ,Ε⟩,-,-⟩:=eC I bL aC aH;have un:Go.Sort.scanUp (λx=>!Go.Sort.ltInt f[a]! x) f (j) i=if(!Go.Sort.ltInt y x)=true then Go.Sort.scanUp (λx=>!Go.Sort.ltInt f[a]! x) f (j) (i+1) else i:=by rw[Go.Sort.scanUp];simp[ε,γ,Κ]
    have hw:=ho (i:=i) R;refine W.to (σ':=[.cells 3 1 L]) (env':=[(0,.ms 0 n 0 n),(1,I a),(9,I (i:Nat)),(10,I (j:Nat))]) ?_ (by rw[ai]) ζ;clear γ Κ
    repeat apply Ω
    refine W.draw (A:=[]) Υ mixed λΘ θ=>hV (υ ε (υ ξ (υ J (υ U (υ μ (υ Ε (υ aC aH))))))) ?_;refine eZ (az.p (nV y x) (bI.refl _) ζ ζ) ?_;simp;(repeat (rw[dq];simp[]));try rw[dp]
    refine e5 (θ _ _ ?_);by_cases hm:y<x
    ·refine aA (by simp[hm]) ?_;refine W.exit rfl ?_;exact W.stop ⟨rfl,by rw[ai],by rw[<-dh,un];simp[hm,Go.Sort.ltInt]⟩
    ·refine aD (by simp[hm]) ?_;refine aE hw ?_;exact W.to (ω (i+1) ⟨R,R,by rw[<-dh,un];simp[hm,Go.Sort.ltInt]⟩ (by(try simp only);omega)) (by rw[ai]) (by simp[hw])
   ·repeat apply Ω
    refine dR ε ?_;refine aA rfl ?_;refine W.exit rfl ?_;have e:Go.Sort.scanUp (λx=>!Go.Sort.ltInt f[a]! x) f (j) i=i:=by rw[Go.Sort.scanUp];simp[ε]
    exact W.stop ⟨rfl,rfl,by rw[<-dh,e];simp⟩
  repeat apply Ω
  refine W.ku [(0,.ms 0 n 0 n),(1,I a),(9,I (ag:Nat)),(10,I (ar:Nat))] [.cells 3 1 ((f).toList.map I)] ?_ ?_
  ·refine W.iter (λi:Nat=>i<=(j)/\ag<=i+1/\Go.Sort.scanDown (λx=>Go.Sort.ltInt f[a]! x) f ag i=ar) (λi=>[(0,.ms 0 n 0 n),(1,I a),(9,I (ag:Nat)),(10,I (i:Nat))]) (λ_=>[.cells 3 1 ((f).toList.map I)]) (λi=>i+1-ag) ((j)) ⟨Nat.le_refl _,R,cR⟩ rfl ζ (λi hi ω=>?_);obtain⟨iL,iR,dh⟩:=hi;by_cases ε:ag<=i
   ·have aC:i<n:=by omega
    have aH:a<n:=R;obtain⟨L,x,y,ai,γ,Κ,ξ,⟨J,U⟩,⟨μ,Ε⟩,-,-⟩:=eC I bL aC aH;obtain⟨q,Ξ⟩:∃q,i=q+1:=⟨i-1,R⟩;have un:Go.Sort.scanDown (λx=>Go.Sort.ltInt f[a]! x) f ag i=if(Go.Sort.ltInt y x)=true then Go.Sort.scanDown (λx=>Go.Sort.ltInt f[a]! x) f ag (i-1) else i:=by subst Ξ;rw[Go.Sort.scanDown];simp[ε,γ,Κ]
    have hw:=h2 (i:=i) R R;refine W.to (σ':=[.cells 3 1 L]) (env':=[(0,.ms 0 n 0 n),(1,I a),(9,I (ag:Nat)),(10,I (i:Nat))]) ?_ (by rw[ai]) ζ;clear γ Κ
    repeat apply Ω
    refine W.draw (A:=[]) Υ mixed λΘ θ=>hV (υ ε (υ ξ (υ J (υ U (υ μ (υ Ε (υ aC aH))))))) ?_;refine eZ (az.p (nV y x) (bI.refl _) ζ ζ) ?_;simp;(repeat (rw[dq];simp[]));try rw[dp]
    refine e5 (θ _ _ ?_);by_cases hm:y<x
    ·refine aD (by simp[hm]) ?_;refine aE hw ?_;exact W.to (ω (i-1) ⟨R,R,by rw[<-dh,un];simp[hm,Go.Sort.ltInt]⟩ (by(try simp only);omega)) (by rw[ai]) (by simp[hw])
    ·refine aA (by simp[hm]) ?_;refine W.exit rfl ?_;exact W.stop ⟨rfl,by rw[ai],by rw[<-dh,un];simp[hm,Go.Sort.ltInt]⟩
   ·repeat apply Ω
    refine dR ε ?_;refine aA rfl ?_;refine W.exit rfl ?_;have e:Go.Sort.scanDown (λx=>Go.Sort.ltInt f[a]! x) f ag i=i:=by exact zi _ _ R
    exact W.stop ⟨rfl,rfl,by rw[<-dh,e];simp⟩
  repeat apply Ω
  by_cases ε:ag > ar
  ·have a3:((ar:Nat):Int)<(ag:Nat):=by omega
   refine aE a3 ?_;refine aD (by simp[ε]) ?_;refine W.exit rfl ?_;rw[cB,if_pos ε] at aI;exact W.stop ⟨rfl,by rw[<-aI],by rw[<-aI];simp⟩
  ·have a3:¬((ar:Nat):Int)<(ag:Nat):=by omega
   have vG:=kz R
   have gJ:=ho (i:=ag) R
   have jB:=h2 (i:=ar) R R;refine aE a3 ?_;refine aA (by simp[ε]) ?_;have aC:ag<n:=R;have aH:ar<n:=R;obtain⟨L,x,y,ai,γ,Κ,ξ,⟨J,U⟩,⟨μ,Ε⟩,cr,eD,au⟩:=eC I bL aC aH;refine W.to (σ':=[.cells 3 1 L]) (env':=[(0,.ms 0 n 0 n),(1,I a),(9,I (ag:Nat)),(10,I (ar:Nat))]) ?_ (by rw[ai]) ζ;clear γ Κ
   repeat apply Ω
   refine dR (υ ξ (υ J (υ U (υ μ (υ Ε (υ au (υ aC aH))))))) ?_;refine W.to (σ':=[.cells 3 1 ((Go.Sort.swp f ag ar).toList.map I)]) (env':=[(0,.ms 0 n 0 n),(1,I a),(9,I (ag:Nat)),(10,I (ar:Nat))]) ?_ (by rw[cr]) ζ;clear aC aH J U μ Ε au cr ξ ai L x y eD;refine aE (υ gJ jB) ?_;exact W.to (ω (ag+1,ar-1,Go.Sort.swp f ag ar) ⟨swp_size bL ag ar,by(try simp only);omega,by(try simp only);omega,by(try simp only);omega,by simp;rw[<-aI,cB,if_neg ε]⟩ (by(try simp only);omega)) rfl (by simp[gJ,jB])
 refine Η ?_;have cB:Go.Sort.partitionEqual (Go.Sort.ltInt) d a b p=ak:=by unfold Go.Sort.partitionEqual;rw[<-he,fq]
 exact W.ret ⟨_,rfl,by rw[cB];rfl,by rw[cB]⟩
theorem Rv (d:Array (Int)) (n lo hi first:Nat) (Ζ:d.size=n) (ν:n<2 ^ 40) (eΧ:first+hi<=n) (hP:lo<=n)  :
  ab Tryz.prog 231 [.ms 0 n 0 n,I lo,I hi,I first] [.cells 3 1 ((d).toList.map I)] (λr s=>r=.bq []/\s=[.cells 3 1 ((Go.Sort.siftDown (Go.Sort.ltInt) hi first lo d).toList.map I)]) (λ_ _=>False):=by
 refine ab.body Υ Tryz.func231 rfl rfl Tryz.ntmps231 rfl rfl ζ ?_;refine Η ?_;obtain⟨ak,fq⟩:=b2 (Go.Sort.siftDown (Go.Sort.ltInt) hi first lo d);rw[fq];refine W.iter (λq:Nat×Array (Int)=>q.2.size=n/\q.1<=n/\Go.Sort.siftDown (Go.Sort.ltInt) hi first q.1 q.2=ak) (λq=>[(0,.ms 0 n 0 n),(2,I hi),(3,I first),(8,I (q.1:Nat))]) (λq=>[.cells 3 1 ((q.2).toList.map I)]) (λq=>hi-q.1) (lo,d) ⟨Ζ,hP,fq⟩ rfl ζ (λq Ξ ω=>?_);obtain⟨r,e⟩:=q;obtain⟨cq,ι,aI⟩:=Ξ;simp only at cq ι aI;obtain⟨c,ε⟩:=aK (2*r+1);obtain⟨c1,lz⟩:=aK (c+1);obtain⟨ax,g8⟩:=aK (first+r);obtain⟨xr,xn⟩:=aK (first+c);obtain⟨fd,vj⟩:=aK (first+(c+1));have w1:IntKind.i64.wrap (2*(r:Int))=2*(r:Int):=by rw[IntWalk.i64_in _ R]
 have w2:IntKind.i64.wrap (2*(r:Int)+1)=(c:Int):=by rw[IntWalk.i64_in _ R];omega
 have w3:IntKind.i64.wrap ((c:Int)+1)=(c1:Int):=by rw[IntWalk.i64_in _ R];omega
 have w4:IntKind.i64.wrap ((first:Int)+(c:Int))=(xr:Int):=by rw[IntWalk.i64_in _ R];omega
 have kv:IntKind.i64.wrap ((xr:Int)+1)=(fd:Int):=by rw[IntWalk.i64_in _ R];omega
 have iq:IntKind.i64.wrap ((first:Int)+(r:Int))=(ax:Int):=by rw[IntWalk.i64_in _ R];omega
 refine W.to (σ':=[.cells 3 1 ((e).toList.map I)]) (env':=[(0,.ms 0 n 0 n),(2,I hi),(3,I first),(8,I (r:Nat))]) ?_ rfl ζ;refine aE (υ w1 w2) ?_;by_cases B7:hi<=c
 ·refine aD (by simp[B7]) ?_;refine W.exit rfl ?_;exact W.nil ⟨_,rfl,rfl,by rw[<-aI,Go.Sort.siftDown,dif_pos R]⟩
 refine aA (by simp[B7]) ?_;obtain⟨B,dX⟩:=aK ((decide (c+1<hi)&&Go.Sort.ltInt e[first+c]! e[first+(c+1)]!):Bool);obtain⟨k,χ⟩:∃k,k=if B=true then c+1 else c:=⟨_,rfl⟩
 have eΨ:k<hi:=by
  rw[χ];split
  ·rename_i h;rw[h] at dX;have:=dX.symm;simp at this;omega
  ·omega
 have un:=Rh (Go.Sort.ltInt) hi first r e (k:=k) ε R (by rw[<-dX];exact χ)
 rw[un] at aI
 repeat apply Ω
 refine W.yn (A:=[]) Υ mixed [(36,a' B),(0,.ms 0 n 0 n),(2,I hi),(3,I first),(8,I r),(9,I c)] ?_ (by
  by_cases lj:c1<hi
  ·have aC:xr<n:=by omega
   have aH:fd<n:=R;obtain⟨L,x,y,ai,γ,Κ,ξ,⟨J,U⟩,⟨μ,Ε⟩,-,-⟩:=eC I cq aC aH;have xu:B=Go.Sort.ltInt x y:=by rw[dX,<-γ,<-Κ,xn,vj];simp[<-lz,lj]
   have Kf:(c1:Int)<hi:=R;rw[ai];clear γ Κ;simp;(repeat (rw[dq];simp[w3,w4,kv,lj,Kf,ξ,J,U,μ,Ε,aC,aH]));(try rw[dp]);refine eZ (az.p (nV x y) (bI.refl _) ζ ζ) ?_;simp;(repeat (rw[dq];simp[]));(try rw[dp]);refine⟨hg (by kernel_rfl),?_⟩;simp[xu,Go.Sort.ltInt]
  ·have xu:B=false:=by rw[dX];simp[<-lz,lj]
   simp;(repeat (rw[dq];simp[w3,lj]));(try rw[dp]);refine⟨hg (by kernel_rfl),?_⟩;simp[xu])
 have eΩ:r<k:=by rw[χ];split<;>omega
 repeat apply Ω
 refine W.upto [(0,.ms 0 n 0 n),(2,I hi),(3,I first),(8,I (r:Nat)),(9,I (k:Nat))] [.cells 3 1 ((e).toList.map I)] ?_ ?_
 ·cases B with
  | true=>
   refine aD rfl ?_;refine nU w3 ?_;exact W.stop ⟨rfl,rfl,by simp[χ,lz]⟩
  | false=>
   refine aA rfl ?_;refine W.skip ?_;exact W.stop ⟨rfl,rfl,by simp[χ]⟩
 obtain⟨fk,Kg⟩:=aK (first+k);rw[<-g8,<-Kg] at aI;have ir:IntKind.i64.wrap ((first:Int)+(k:Int))=(fk:Int):=by rw[IntWalk.i64_in _ R];omega
 have aC:ax<n:=R
 have aH:fk<n:=R;obtain⟨L,x,y,ai,γ,Κ,ξ,⟨J,U⟩,⟨μ,Ε⟩,cr,eD,au⟩:=eC I cq aC aH;rw[γ,Κ] at aI;refine W.to (σ':=[.cells 3 1 L]) (env':=[(0,.ms 0 n 0 n),(2,I hi),(3,I first),(8,I (r:Nat)),(9,I (k:Nat))]) ?_ (by rw[ai]) ζ;clear γ Κ
 repeat apply Ω
 refine W.draw (A:=[]) Υ mixed λΘ θ=>hV (υ iq (υ ir (υ ξ (υ J (υ U (υ μ (υ Ε (υ aC aH)))))))) ?_;refine eZ (az.p (nV x y) (bI.refl _) ζ ζ) ?_;simp;(repeat (rw[dq];simp[]));try rw[dp]
 refine e5 (θ _ _ ?_);by_cases hm:x<y
 ·refine aA (by simp[hm]) ?_
  repeat apply Ω
  refine dR (υ iq (υ ir (υ ξ (υ J (υ U (υ μ (υ Ε (υ au (υ aC aH))))))))) ?_;refine Η ?_;refine W.to (ω (k,Go.Sort.swp e ax fk) ⟨swp_size cq ax fk,by(try simp only);omega,?_⟩ (by(try simp only);omega)) (by rw[cr]) ζ;rw[<-aI];simp[hm,Go.Sort.ltInt]
 ·refine aD (by simp[hm]) ?_;refine Η ?_;exact W.ret ⟨_,rfl,rfl,by rw[<-ai,<-aI];simp[hm,Go.Sort.ltInt]⟩
theorem fψ (d:Array (Int)) (n a b:Nat) (Ζ:d.size=n) (ν:n<2 ^ 40) (eO:a<b) (hb:b<=n)  :
  ab Tryz.prog 198 [.ms 0 n 0 n,I a,I b] [.cells 3 1 ((d).toList.map I)] (λr s=>r=.bq []/\s=[.cells 3 1 ((Go.Sort.heapSort (Go.Sort.ltInt) d a b).toList.map I)]) (λ_ _=>False):=by
 refine ab.body Υ Tryz.func198 rfl rfl Tryz.ntmps198 rfl rfl ζ ?_;obtain⟨m,hm⟩:=b2 (b-a);have w1:IntKind.i64.wrap ((b:Int)-(a:Int))=(m:Int):=by rw[IntWalk.i64_in _ R];omega
 have w2:IntKind.i64.wrap ((m:Int)-1)=((m-1:Nat):Int):=h2 R R
 have w3:IntKind.i64.wrap (((m-1:Nat):Int) / 2)=(((m-1) / 2:Nat):Int):=vv (m:=2) R;obtain⟨dU,g5⟩:=aK (m-1);obtain⟨dA,jj⟩:=aK ((m-1) / 2);rw[<-jj,<-g5] at w3;rw[<-g5] at w2;have wp:∀k:Nat,k<=n->IntKind.i64.wrap ((k:Int)-1)=(k:Int)-1:=λk χ=>by rw[IntWalk.i64_in _ R]
 obtain⟨iu,qX⟩:=b2 (Go.Sort.heapBuild (Go.Sort.ltInt) m a (dA+1) d);have cB:Go.Sort.heapSort (Go.Sort.ltInt) d a b=Go.Sort.heapPop (Go.Sort.ltInt) a m iu:=by unfold Go.Sort.heapSort;rw[hm,<-jj,qX]
 refine aE (υ w1 (υ w2 w3)) ?_;refine W.ku [(0,.ms 0 n 0 n),(6,I a),(7,I 0),(8,I m)] [.cells 3 1 ((iu).toList.map I)] ?_ ?_
 ·refine W.iter (λq:Nat×Array (Int)=>q.2.size=n/\q.1<=dA+1/\Go.Sort.heapBuild (Go.Sort.ltInt) m a q.1 q.2=iu) (λq=>[(0,.ms 0 n 0 n),(6,I a),(7,I 0),(8,I m),(9,.z (.int .i64 ((q.1:Int)-1)))]) (λq=>[.cells 3 1 ((q.2).toList.map I)]) (λq=>q.1) (dA+1,d) ⟨Ζ,Nat.le_refl _,qX⟩ rfl ζ (λq Ξ ω=>?_);obtain⟨k,e⟩:=q;obtain⟨cq,χ,aI⟩:=Ξ;simp only at cq χ aI;cases k with
  | zero=>
   refine Η ?_;refine aA rfl ?_;refine W.exit rfl ?_;exact W.stop ⟨rfl,by rw[<-aI];rfl,ζ⟩
  | succ k=>
   have jX:(0:Int)<=(k:Int):=R;refine W.to (σ':=[.cells 3 1 ((e).toList.map I)]) (env':=[(0,.ms 0 n 0 n),(6,I a),(7,I 0),(8,I m),(9,.z (.int .i64 ((k:Int))))]) ?_ rfl ζ;refine aE jX ?_;refine aD ζ ?_;refine bh λΘ θ=>?_;refine ab.call (first:=[]) (captured:=[]) ((Rv e n k m a cq ν R R).mono (λr s ⟨b9,bZ⟩=>?_) (λ_ _ h=>h.elim));subst b9;subst bZ;simp;(repeat (rw[al];simp[]));apply θ;refine aE (wp k R) ?_;exact W.to (ω (k,Go.Sort.siftDown (Go.Sort.ltInt) m a k e) ⟨B6 cq,by(try simp only);omega,aI⟩ ζ) rfl (by simp[wp k R])
 obtain⟨gL,nv⟩:=b2 (Go.Sort.heapPop (Go.Sort.ltInt) a m iu);have Kh:iu.size=n:=by rw[<-qX];exact Ka Ζ
 rw[nv] at cB;refine aE w2 ?_;refine W.iter (λq:Nat×Array (Int)=>q.2.size=n/\q.1<=m/\Go.Sort.heapPop (Go.Sort.ltInt) a q.1 q.2=gL) (λq=>[(0,.ms 0 n 0 n),(6,I a),(7,I 0),(8,I m),(10,.z (.int .i64 ((q.1:Int)-1)))]) (λq=>[.cells 3 1 ((q.2).toList.map I)]) (λq=>q.1) (m,iu) ⟨Kh,Nat.le_refl _,nv⟩ rfl (by simp[g5];omega) (λq Ξ ω=>?_);obtain⟨k,e⟩:=q;obtain⟨cq,χ,aI⟩:=Ξ;simp only at cq χ aI;cases k with
 | zero=>
  refine Η ?_;refine aA rfl ?_;refine W.exit rfl ?_;exact W.nil ⟨_,rfl,rfl,by rw[cB,<-aI];rfl⟩
 | succ k=>
  have jX:(0:Int)<=(k:Int):=R;obtain⟨kK,Ki⟩:=aK (a+k);have ir:IntKind.i64.wrap ((a:Int)+(k:Int))=(kK:Int):=by rw[IntWalk.i64_in _ R];omega
  refine W.to (σ':=[.cells 3 1 ((e).toList.map I)]) (env':=[(0,.ms 0 n 0 n),(6,I a),(7,I 0),(8,I m),(10,.z (.int .i64 ((k:Int))))]) ?_ rfl ζ;refine aE jX ?_;refine aD ζ ?_;have aC:a<n:=R;have aH:kK<n:=R;obtain⟨L,x,y,ai,γ,Κ,ξ,⟨J,U⟩,⟨μ,Ε⟩,cr,eD,au⟩:=eC I cq aC aH;refine W.to (σ':=[.cells 3 1 L]) (env':=[(0,.ms 0 n 0 n),(6,I a),(7,I 0),(8,I m),(10,.z (.int .i64 ((k:Int))))]) ?_ (by rw[ai]) ζ;clear γ Κ
  repeat apply Ω
  refine dR (υ ξ (υ J (υ U (υ μ (υ Ε (υ au (υ aC (υ aH ir)))))))) ?_;refine W.to (σ':=[.cells 3 1 ((Go.Sort.swp e a kK).toList.map I)]) (env':=[(0,.ms 0 n 0 n),(6,I a),(7,I 0),(8,I m),(10,.z (.int .i64 ((k:Int))))]) ?_ (by rw[cr]) ζ;clear aC aH J U μ Ε au cr ξ ai L x y eD;refine bh λΘ θ=>?_;refine ab.call (first:=[]) (captured:=[]) ((Rv (Go.Sort.swp e a kK) n 0 k a (swp_size cq a kK) ν R R).mono (λr s ⟨b9,bZ⟩=>?_) (λ_ _ h=>h.elim));subst b9;subst bZ;simp;(repeat (rw[al];simp[]));apply θ;refine aE (wp k R) ?_;exact W.to (ω (k,Go.Sort.siftDown (Go.Sort.ltInt) k a 0 (Go.Sort.swp e a kK)) ⟨B6 (swp_size cq a kK),by(try simp only);omega,by rw[Ki];exact aI⟩ ζ) rfl (by simp[wp k R])
theorem fω (d:Array (Int)) (n a b:Nat) (Ζ:d.size=n) (ν:n<2 ^ 40) (eO:a<b) (hb:b<=n)  :
  ab Tryz.prog 201 [.ms 0 n 0 n,I a,I b] [.cells 3 1 ((d).toList.map I)] (λr s=>r=.bq []/\s=[.cells 3 1 ((Go.Sort.reverseRange d a b).toList.map I)]) (λ_ _=>False):=by
 refine ab.body Υ Tryz.func201 rfl rfl Tryz.ntmps201 rfl rfl ζ ?_;have w1:=h2 (i:=b) R R;refine aE w1 ?_;refine W.iter (λq:Nat×Nat×Array (Int)=>q.2.2.size=n/\q.1<n/\q.2.1<n/\Go.Sort.reverseLoop q.1 q.2.1 q.2.2=Go.Sort.reverseRange d a b) (λq=>[(0,.ms 0 n 0 n),(6,I (q.1:Nat)),(7,I (q.2.1:Nat))]) (λq=>[.cells 3 1 ((q.2.2).toList.map I)]) (λq=>q.2.1-q.1) (a,b-1,d) ⟨Ζ,by(try simp only);omega,by(try simp only);omega,rfl⟩ rfl (by simp[w1]) (λq Ξ ω=>?_);obtain⟨i,j,e⟩:=q;obtain⟨cq,hi,δ,aI⟩:=Ξ;simp only at cq hi δ aI;rw[Go.Sort.reverseLoop] at aI;refine W.to (σ':=[.cells 3 1 ((e).toList.map I)]) (env':=[(0,.ms 0 n 0 n),(6,I (i:Nat)),(7,I (j:Nat))]) ?_ rfl ζ;refine Η ?_;by_cases ε:i<j
 ·refine aD (by simp[ε]) ?_;rw[if_pos ε] at aI;have w2:=ho (i:=i) R;have w3:=h2 (i:=j) R R;have aC:i<n:=R;have aH:j<n:=R;obtain⟨L,x,y,ai,γ,Κ,ξ,⟨J,U⟩,⟨μ,Ε⟩,cr,eD,au⟩:=eC I cq aC aH;refine W.to (σ':=[.cells 3 1 L]) (env':=[(0,.ms 0 n 0 n),(6,I (i:Nat)),(7,I (j:Nat))]) ?_ (by rw[ai]) ζ;clear γ Κ
  repeat apply Ω
  refine dR (υ ξ (υ J (υ U (υ μ (υ Ε (υ au (υ aC aH))))))) ?_;refine W.to (σ':=[.cells 3 1 ((Go.Sort.swp e i j).toList.map I)]) (env':=[(0,.ms 0 n 0 n),(6,I (i:Nat)),(7,I (j:Nat))]) ?_ (by rw[cr]) ζ;clear aC aH J U μ Ε au cr ξ ai L x y eD;refine aE (υ w2 w3) ?_;exact W.to (ω (i+1,j-1,Go.Sort.swp e i j) ⟨swp_size cq i j,by(try simp only);omega,by(try simp only);omega,aI⟩ (by(try simp only);omega)) rfl (by simp[w2,w3])
 ·refine aA (by simp[ε]) ?_;refine W.exit rfl ?_;rw[if_neg ε] at aI;exact W.nil ⟨_,rfl,rfl,by rw[aI]⟩
section
variable {α:Type} [Inhabited α]
theorem fΑ (lt:α->α->Bool) (d:Array α) {b:Nat}:∀(m i:Nat),b-i<=m->i<=b->i<=Go.Sort.scanSorted lt d b i/\Go.Sort.scanSorted lt d b i<=b:=by
 intro m
 induction m with
 | zero=>intro i h hi;rw[Go.Sort.scanSorted,if_neg (by simp;omega)];omega
 | succ m ω=>
  intro i h hi;rw[Go.Sort.scanSorted];split
  ·rename_i ε;simp only[Bool.and_eq_true,decide_eq_true_eq] at ε;have:=ω (i+1) R R;omega
  ·omega
theorem fΒ (lt:α->α->Bool) {n:Nat}:∀(j:Nat) (d:Array α),d.size=n->(Go.Sort.shiftDown lt j d).size=n:=by
 intro j
 induction j with
 | zero=>intro d h;exact h
 | succ j ω=>
  intro d h;rw[Go.Sort.shiftDown];split
  ·exact h
  ·exact ω _ (swp_size h _ _)
theorem fΓ (lt:α->α->Bool) {b n:Nat}:∀(m j:Nat) (d:Array α),b-j<=m->d.size=n->(Go.Sort.shiftUp lt b j d).size=n:=by
 intro m
 induction m with
 | zero=>intro j d h hd;rw[Go.Sort.shiftUp,if_neg R];exact hd
 | succ m ω=>
  intro j d h hd;rw[Go.Sort.shiftUp];split
  ·split
   ·exact hd
   ·exact ω _ _ R (swp_size hd _ _)
  ·exact hd
theorem KF (lt:α->α->Bool) (d:Array α) {i n:Nat} (an:1<=i) (hi:i+1<n) (s:Nat):(Go.Sort.medianAdjacent lt d i s).1<n/\(Go.Sort.medianAdjacent lt d i s).2<=s+3:=by
 unfold Go.Sort.medianAdjacent Go.Sort.median;have f1:=tM lt d (a:=i-1) (b:=i) (n:=n) R R s;generalize Go.Sort.order2 lt d (i-1) i s=r1 at f1 ⊢;have f2:=tM lt d (a:=r1.2.1) (b:=i+1) (n:=n) R hi r1.2.2;simp only;generalize Go.Sort.order2 lt d r1.2.1 (i+1) r1.2.2=r2 at f2 ⊢;have f3:=tM lt d (a:=r1.1) (b:=r2.1) (n:=n) R R r2.2.2;generalize Go.Sort.order2 lt d r1.1 r2.1 r2.2.2=r3 at f3 ⊢;omega
end
theorem KG (d:Array (Int)) (n a b s:Nat) (Ζ:d.size=n) (κ:a<n) (hb:b<n) (ν:s<2 ^ 40)  :
  ab Tryz.prog 253 [.ms 0 n 0 n,I a,I b,.ah 1 1 0 0] [.cells 3 1 (d.toList.map I),.cells 3 1 [I s]] (λr σ=>r=.bq [I (Go.Sort.order2 (Go.Sort.ltInt) d a b s).1,I (Go.Sort.order2 (Go.Sort.ltInt) d a b s).2.1]/\σ=[.cells 3 1 (d.toList.map I),.cells 3 1 [I (Go.Sort.order2 (Go.Sort.ltInt) d a b s).2.2]]) (λ_ _=>False):=by
 refine ab.body Υ Tryz.func253 rfl rfl Tryz.ntmps253 rfl rfl ζ ?_;obtain⟨L,ai⟩:=aK (d.toList.map I);have kl:L.length=n:=by rw[ai];simpa using Ζ
 obtain⟨x,γ⟩:=aK (d[a]!);obtain⟨y,Κ⟩:=aK (d[b]!);have kQ:L[a]?=some (I x):=by rw[ai,γ,List.getElem?_map,Array.getElem?_toList,qx R];rfl
 have mx:L[b]?=some (I y):=by rw[ai,Κ,List.getElem?_map,Array.getElem?_toList,qx R];rfl
 have Kk:∀h:a<L.length,L[a]=I x:=λh=>by have:=kQ;rw[a8 h] at this;exact Option.some.inj this
 have Kl:∀h:b<L.length,L[b]=I y:=λh=>by have:=mx;rw[a8 h] at this;exact Option.some.inj this
 have hw:IntKind.i64.wrap ((s:Int)+1)=((s+1:Nat):Int):=by rw[IntWalk.i64_in _ R];omega
 have ψ:Go.Sort.order2 (Go.Sort.ltInt) d a b s=if Go.Sort.ltInt y x=true then(b,a,s+1) else(a,b,s):=by unfold Go.Sort.order2;rw[<-γ,<-Κ]
 rw[ψ,<-ai];clear ai γ Κ ψ;refine Η ?_;refine W.draw (A:=[]) Υ mixed λΘ θ=>hV (υ kl (υ kQ (υ mx (υ Kk Kl)))) ?_;refine⟨hb,κ,?_⟩;refine eZ (az.p (nV y x) (bI.refl _) ζ ζ) ?_;simp;(repeat (rw[dq];simp[]));try rw[dp]
 refine e5 (θ _ _ ?_);by_cases hm:y<x
 ·refine aD (by simp[hm]) ?_;refine aE hw ?_;exact W.ret ⟨_,rfl,by simp[aB,Go.Sort.ltInt,hm],by simp[aB,Go.Sort.ltInt,hm]⟩
 ·refine aA (by simp[hm]) ?_;refine aE hw ?_;exact W.ret ⟨_,rfl,by simp[aB,Go.Sort.ltInt,hm],by simp[aB,Go.Sort.ltInt,hm]⟩
theorem Rw (d:Array (Int)) (n a b c s:Nat) (Ζ:d.size=n) (κ:a<n) (hb:b<n) (ε:c<n) (ν:s<2 ^ 39)  :
  ab Tryz.prog 233 [.ms 0 n 0 n,I a,I b,I c,.ah 1 1 0 0] [.cells 3 1 ((d).toList.map I),.cells 3 1 [I (s:Nat)]] (λr σ=>r=I (Go.Sort.median (Go.Sort.ltInt) d a b c s).1/\σ=[.cells 3 1 ((d).toList.map I),.cells 3 1 [I ((Go.Sort.median (Go.Sort.ltInt) d a b c s).2:Nat)]]) (λ_ _=>False):=by
 refine ab.body Υ Tryz.func233 rfl rfl Tryz.ntmps233 rfl rfl ζ ?_;obtain⟨r1,Γ⟩:=b2 (Go.Sort.order2 (Go.Sort.ltInt) d a b s);have f1:=tM (Go.Sort.ltInt) d (a:=a) (b:=b) (n:=n) R R s;have c1:=KG d n a b s Ζ R R R;rw[Γ] at f1 c1;obtain⟨a1,bC,s1⟩:=r1;simp only at f1 c1;obtain⟨r2,Δ⟩:=b2 (Go.Sort.order2 (Go.Sort.ltInt) d bC c s1);have f2:=tM (Go.Sort.ltInt) d (a:=bC) (b:=c) (n:=n) R R s1;have c2:=KG d n bC c s1 Ζ R R R;rw[Δ] at f2 c2;obtain⟨a9,dt,s2⟩:=r2;simp only at f2 c2;obtain⟨r3,a4⟩:=b2 (Go.Sort.order2 (Go.Sort.ltInt) d a1 a9 s2);have f3:=tM (Go.Sort.ltInt) d (a:=a1) (b:=a9) (n:=n) R R s2;have c3:=KG d n a1 a9 s2 Ζ R R R;rw[a4] at f3 c3;obtain⟨cK,fK,kR⟩:=r3;simp only at f3 c3;have hm:Go.Sort.median (Go.Sort.ltInt) d a b c s=(fK,kR):=by unfold Go.Sort.median;simp only[Γ,Δ,a4]
 rw[hm]
 repeat apply Ω
 refine lE ?_;refine bh λΘ θ=>?_;refine ab.call (first:=[]) (captured:=[]) ((c1).mono (λr s ⟨b9,bZ⟩=>?_) (λ_ _ h=>h.elim));subst b9;subst bZ;simp;(repeat (rw[al];simp[]));apply θ;refine bh λΘ θ=>?_;refine ab.call (first:=[]) (captured:=[]) ((c2).mono (λr s ⟨b9,bZ⟩=>?_) (λ_ _ h=>h.elim));subst b9;subst bZ;simp;(repeat (rw[al];simp[]));apply θ;refine bh λΘ θ=>?_;refine ab.call (first:=[]) (captured:=[]) ((c3).mono (λr s ⟨b9,bZ⟩=>?_) (λ_ _ h=>h.elim));subst b9;subst bZ;simp;(repeat (rw[al];simp[]));apply θ;refine Η ?_;exact W.ret ⟨_,rfl,rfl,rfl⟩
theorem KH (d:Array (Int)) (n i s:Nat) (Ζ:d.size=n) (lk:1<=i) (hi:i+1<n) (eg:n<2 ^ 40) (ν:s<2 ^ 39)  :
  ab Tryz.prog 232 [.ms 0 n 0 n,I i,.ah 1 1 0 0] [.cells 3 1 ((d).toList.map I),.cells 3 1 [I (s:Nat)]] (λr σ=>r=I (Go.Sort.medianAdjacent (Go.Sort.ltInt) d i s).1/\σ=[.cells 3 1 ((d).toList.map I),.cells 3 1 [I ((Go.Sort.medianAdjacent (Go.Sort.ltInt) d i s).2:Nat)]]) (λ_ _=>False):=by
 refine ab.body Υ Tryz.func232 rfl rfl Tryz.ntmps232 rfl rfl ζ ?_;obtain⟨p,π⟩:=aK (i-1);obtain⟨q,Ξ⟩:=aK (i+1);have w1:IntKind.i64.wrap ((i:Int)-1)=(p:Int):=by rw[IntWalk.i64_in _ R];omega
 have w2:IntKind.i64.wrap ((i:Int)+1)=(q:Int):=by rw[IntWalk.i64_in _ R];omega
 have c:=Rw d n p i q s Ζ R R R ν
 have e:Go.Sort.medianAdjacent (Go.Sort.ltInt) d i s=Go.Sort.median (Go.Sort.ltInt) d p i q s:=by rw[π,Ξ];rfl
 rw[e]
 repeat apply Ω
 refine lE ?_;refine hz (υ w1 w2) λΘ θ=>?_;refine ab.call (first:=[]) (captured:=[]) ((c).mono (λr s ⟨b9,bZ⟩=>?_) (λ_ _ h=>h.elim));subst b9;subst bZ;simp;(repeat (rw[al];simp[]));apply θ;refine Η ?_;exact W.ret ⟨_,rfl,rfl,rfl⟩
theorem fΔ (d:Array (Int)) (n a b:Nat) (Ζ:d.size=n) (ν:n<2 ^ 38) (eO:a+12<b) (hb:b<=n)  :
  ab Tryz.prog 200 [.ms 0 n 0 n,I a,I b] [.cells 3 1 ((d).toList.map I)] (λr s=>r=.bq [I (Go.Sort.choosePivot (Go.Sort.ltInt) d a b).1,I (pT (Go.Sort.choosePivot (Go.Sort.ltInt) d a b).2)]/\s=[.cells 3 1 ((d).toList.map I)]) (λ_ _=>False):=by
 refine ab.body Υ Tryz.func200 rfl rfl Tryz.ntmps200 rfl rfl ζ ?_;obtain⟨l,ξ⟩:=aK (b-a);obtain⟨q,Ξ⟩:=aK (l / 4);obtain⟨du,vx⟩:=aK (q*2);obtain⟨gd,FV⟩:=aK (q*3);obtain⟨i,hi⟩:=aK (a+q);obtain⟨j,δ⟩:=aK (a+du);obtain⟨k,χ⟩:=aK (a+gd);have oR:(8:Int)<=(l:Int):=R;have w1:IntKind.i64.wrap ((b:Int)-(a:Int))=(l:Int):=by rw[IntWalk.i64_in _ R];omega
 have w2:IntKind.i64.wrap ((l:Int) / 4)=(q:Int):=by rw[Ξ];exact vv (m:=4) R
 have w3:IntKind.i64.wrap (q:Int)=(q:Int):=IntWalk.i64_in _ R
 have w4:IntKind.i64.wrap ((q:Int)*2)=(du:Int):=by rw[IntWalk.i64_in _ R];omega
 have kv:IntKind.i64.wrap ((q:Int)*3)=(gd:Int):=by rw[IntWalk.i64_in _ R];omega
 have iq:IntKind.i64.wrap ((a:Int)+(q:Int))=(i:Int):=by rw[IntWalk.i64_in _ R];omega
 have ir:IntKind.i64.wrap ((a:Int)+(du:Int))=(j:Int):=by rw[IntWalk.i64_in _ R];omega
 have lf:IntKind.i64.wrap ((a:Int)+(gd:Int))=(k:Int):=by rw[IntWalk.i64_in _ R];omega
 obtain⟨ag,ar,K,s1,Ι,fΕ,fΖ,fΗ,m3⟩:∃ag ar K s1:Nat,Go.Sort.choosePivot (Go.Sort.ltInt) d a b=((Go.Sort.median (Go.Sort.ltInt) d ag ar K s1).1,if(Go.Sort.median (Go.Sort.ltInt) d ag ar K s1).2=0 then .increasing else if(Go.Sort.median (Go.Sort.ltInt) d ag ar K s1).2=12 then .decreasing else .unknown)/\ag<n/\ar<n/\K<n/\(s1<=9/\((l<50/\ag=i/\ar=j/\K=k/\s1=0)\/(50<=l/\∃t1 t2,Go.Sort.medianAdjacent (Go.Sort.ltInt) d i 0=(ag,t1)/\t1<=3/\Go.Sort.medianAdjacent (Go.Sort.ltInt) d j t1=(ar,t2)/\t2<=6/\Go.Sort.medianAdjacent (Go.Sort.ltInt) d k t2=(K,s1)))):=by
  have l3:8<=l:=R;by_cases tO:50<=l
  ·have dU:=KF (Go.Sort.ltInt) d (n:=n) (i:=i) R R 0;obtain⟨⟨ag,t1⟩,Γ⟩:∃r,Go.Sort.medianAdjacent (Go.Sort.ltInt) d i 0=r:=⟨_,rfl⟩;rw[Γ] at dU;have dA:=KF (Go.Sort.ltInt) d (n:=n) (i:=j) R R t1;obtain⟨⟨ar,t2⟩,Δ⟩:∃r,Go.Sort.medianAdjacent (Go.Sort.ltInt) d j t1=r:=⟨_,rfl⟩;rw[Δ] at dA;have mo:=KF (Go.Sort.ltInt) d (n:=n) (i:=k) R R t2;obtain⟨⟨K,s1⟩,a4⟩:∃r,Go.Sort.medianAdjacent (Go.Sort.ltInt) d k t2=r:=⟨_,rfl⟩;rw[a4] at mo;simp only at dU dA mo;refine⟨ag,ar,K,s1,?_,dU.1,dA.1,mo.1,R,.inr ⟨tO,t1,t2,Γ,R,Δ,R,a4⟩⟩;simp only[Go.Sort.choosePivot,<-ξ,<-Ξ,Nat.mul_one,<-vx,<-FV,<-hi,<-δ,<-χ,ge_iff_le,if_pos l3,if_pos tO,Γ,Δ,a4]
  ·refine⟨i,j,k,0,?_,R,R,R,R,.inl ⟨R,rfl,rfl,rfl,rfl⟩⟩;simp only[Go.Sort.choosePivot,<-ξ,<-Ξ,Nat.mul_one,<-vx,<-FV,<-hi,<-δ,<-χ,ge_iff_le,if_pos l3,if_neg tO]
 obtain⟨fW,em⟩:=b2 (Go.Sort.median (Go.Sort.ltInt) d ag ar K s1);have vy:=Rw d n ag ar K s1 Ζ fΕ fΖ fΗ (Nat.lt_of_le_of_lt m3.1 br);rw[em] at vy Ι;obtain⟨h3,kJ⟩:=fW;simp only at vy Ι;rw[Ι]
 repeat apply Ω
 refine lE ?_
 repeat apply Ω
 refine nU w1 ?_
 repeat apply Ω
 refine dB (A:=[9]) Υ λΘ θ=>bD ?_;apply θ;refine aE (υ w2 (υ w3 (υ w4 (υ kv (υ iq (υ ir (υ lf @oR))))))) ?_;refine aD ζ ?_;refine Η ?_;refine W.upto [(0,.ms 0 n 0 n),(9,.ah 1 1 0 0),(10,I (ag:Nat)),(11,I (ar:Nat)),(12,I (K:Nat))] [.cells 3 1 ((d).toList.map I),.cells 3 1 [I (s1:Nat)]] ?_ ?_
 ·clear Ι vy;rcases m3 with⟨-,⟨bC,rfl,rfl,rfl,rfl⟩|⟨bC,t1,t2,Γ,μ,Δ,bd,a4⟩⟩
  ·have g:¬(50:Int)<=(l:Int):=by omega
   refine aA (by simp[g]) ?_;refine W.skip ?_;exact W.stop ⟨rfl,rfl,ζ⟩
  ·have g:(50:Int)<=(l:Int):=by omega
   have c1:=KH d n i 0 Ζ R R R R
   have c2:=KH d n j t1 Ζ R R R R
   have c3:=KH d n k t2 Ζ R R R R;rw[Γ] at c1;rw[Δ] at c2;rw[a4] at c3;refine aD (by simp[g]) ?_;refine bh λΘ θ=>?_;refine ab.call (first:=[]) (captured:=[]) ((c1).mono (λr s ⟨b9,bZ⟩=>?_) (λ_ _ h=>h.elim));subst b9;subst bZ;simp;(repeat (rw[al];simp[]));apply θ;refine bh λΘ θ=>?_;refine ab.call (first:=[]) (captured:=[]) ((c2).mono (λr s ⟨b9,bZ⟩=>?_) (λ_ _ h=>h.elim));subst b9;subst bZ;simp;(repeat (rw[al];simp[]));apply θ;refine bh λΘ θ=>?_;refine ab.call (first:=[]) (captured:=[]) ((c3).mono (λr s ⟨b9,bZ⟩=>?_) (λ_ _ h=>h.elim));subst b9;subst bZ;simp;(repeat (rw[al];simp[]));apply θ;exact W.stop ⟨rfl,rfl,ζ⟩
 clear m3;refine bh λΘ θ=>?_;refine ab.call (first:=[]) (captured:=[]) ((vy).mono (λr s ⟨b9,bZ⟩=>?_) (λ_ _ h=>h.elim));subst b9;subst bZ;simp;(repeat (rw[al];simp[]));apply θ
 repeat apply Ω
 refine lE ?_;refine W.drop (h:=1) ζ ζ (FU rQ) rfl [(11,I (h3:Nat)),(49,I (kJ:Nat))] ζ ?_;by_cases an:kJ=0
 ·subst an;refine Η ?_;refine aD rfl ?_;refine Η ?_;exact W.ret ⟨_,rfl,rfl,rfl⟩
 have Km:¬(kJ:Int)=0:=R;refine aE Km ?_;refine aA (by simp[an]) ?_;by_cases gU:kJ=12
 ·subst gU;refine Η ?_;refine aD rfl ?_;refine Η ?_;exact W.ret ⟨_,rfl,rfl,rfl⟩
 have Kn:¬(kJ:Int)=12:=R;refine aE Kn ?_;refine aA (by simp[gU]) ?_;refine Η ?_;exact W.ret ⟨_,rfl,by simp[an,gU,pT],rfl⟩
theorem fΘ (d:Array (Int)) (n a b:Nat) (Ζ:d.size=n) (ν:n<2 ^ 40) (eO:a+12<b) (kα:b<a+256) (hb:b<=n)  :
  ab Tryz.prog 199 [.ms 0 n 0 n,I a,I b] [.cells 3 1 ((d).toList.map I)] (λr s=>r=.bq []/\s=[.cells 3 1 ((Go.Sort.breakPatterns d a b).toList.map I)]) (λ_ _=>False):=by
 refine ab.body Υ Tryz.func199 rfl rfl Tryz.ntmps199 rfl rfl ζ ?_;obtain⟨l,ξ⟩:=aK (b-a);obtain⟨q,Ξ⟩:=aK (l / 4);obtain⟨du,vx⟩:=aK (q*2);obtain⟨c,ε⟩:=aK (a+du);obtain⟨dY,jM⟩:=aK (c-1);obtain⟨c1,lz⟩:=aK (c+1);obtain⟨m,hm⟩:=aK (1 <<< Go.Sort.bitsLen l);have Kp:Go.Sort.bitsLen l<=8:=(Go.Sort.bitsLen_le_iff l 8).2 R;have Ep:l<m/\m<=256/\m<=2*l:=by
  have J:=Go.Sort.lt_two_pow_bitsLen l
  have U:=Go.Sort.two_pow_bitsLen_le (n:=l) R;rw[hm,Nat.one_shiftLeft];exact⟨J,Nat.le_trans (Nat.pow_le_pow_right R Kp) br,U⟩
 obtain⟨ak,fq⟩:=b2 (sr a l m 3 dY (UInt64.ofNat l,d));have cB:Go.Sort.breakPatterns d a b=ak.2:=by rw[Rj (c:=c) ξ R (by rw[ε,vx,Ξ]),<-hm,<-jM,fq]
 rw[cB];have w1:IntKind.i64.wrap ((b:Int)-(a:Int))=(l:Int):=by rw[IntWalk.i64_in _ R];omega
 have w2:IntKind.i64.wrap ((l:Int) / 4)=(q:Int):=by rw[Ξ];exact vv (m:=4) R
 have w4:IntKind.i64.wrap ((q:Int)*2)=(du:Int):=by rw[IntWalk.i64_in _ R];omega
 have iq:IntKind.i64.wrap ((a:Int)+(du:Int))=(c:Int):=by rw[IntWalk.i64_in _ R];omega
 have ir:IntKind.i64.wrap ((c:Int)-1)=(dY:Int):=by rw[IntWalk.i64_in _ R];omega
 have lf:IntKind.i64.wrap ((c:Int)+1)=(c1:Int):=by rw[IntWalk.i64_in _ R];omega
 have Kq:IntKind.u64.wrap (l:Int)=(l:Int):=tN R
 have Kr:IntKind.u64.wrap ((m:Int)-1)=((m-1:Nat):Int):=by
  have e:(m:Int)-1=((m-1:Nat):Int):=R;rw[e];exact tN R
 have oR:(8:Int)<=(l:Int):=R
 have cF:(UInt64.ofNat l).toNat=l:=by rw[UInt64.toNat_ofNat'];exact Nat.mod_eq_of_lt R
 refine aE (υ w1 @oR) ?_;refine aD ζ ?_
 repeat apply Ω
 refine dB (A:=[7]) Υ λΘ θ=>gS Kq ?_;apply θ;have uM:=Rn l R;rw[<-hm] at uM;refine bh λΘ θ=>?_;refine az.c uM (bI.refl _) ζ ζ ?_;simp;(repeat (rw[al];simp[]));apply θ;refine aE (υ w2 (υ w4 (υ iq ir))) ?_;refine W.iter (λy:Nat×UInt64×Array (Int)=>y.1<=3/\y.2.2.size=n/\sr a l m y.1 (c+2-y.1) y.2=ak) (λy=>[(0,.ms 0 n 0 n),(1,I a),(6,I (l:Nat)),(7,.ah 1 1 0 0),(8,jZ (m:Nat)),(9,I (c+2-y.1:Nat))]) (λy=>[.cells 3 1 ((y.2.2).toList.map I),.cells 248 1 [jZ ((y.2.1.toNat:Nat):Int)]]) (λy=>y.1) (3,UInt64.ofNat l,d) ⟨Nat.le_refl _,Ζ,by simp only;rw[<-fq,show c+2-3=dY by omega]⟩ (by simp only;rw[cF]) (by simp[jM]) (λy Κ ω=>?_);obtain⟨t,st,e⟩:=y;obtain⟨Ν,cq,aI⟩:=Κ;simp only at Ν cq aI;obtain⟨bB,m0⟩:=aK (c+2-t);obtain⟨x,γ⟩:=aK st.toNat;have nN:x<2 ^ 64:=by rw[γ];exact st.toNat_lt
 rw[<-m0] at aI;refine W.to (σ':=[.cells 3 1 ((e).toList.map I),.cells 248 1 [jZ ((x:Nat):Int)]]) (env':=[(0,.ms 0 n 0 n),(1,I a),(6,I (l:Nat)),(7,.ah 1 1 0 0),(8,jZ (m:Nat)),(9,I (bB:Nat))]) ?_ (by rw[γ]) (by simp[m0]);cases t with
 | zero=>
  have g:¬(bB:Int)<=(c1:Int):=R;refine aE (υ w2 (υ w4 (υ iq (υ lf g)))) ?_;refine aA ζ ?_;refine W.exit rfl ?_;refine W.drop (h:=1) ζ ζ (FU rQ) rfl [] ζ ?_;exact W.nil ⟨_,rfl,rfl,by rw[<-aI];rfl⟩
 | succ t=>
  have g:(bB:Int)<=(c1:Int):=R;obtain⟨tQ,vX⟩:=aK (Go.Sort.xorNext st);obtain⟨kg,kW⟩:=aK tQ.toNat;have Ks:kg=Go.Sort.xorNextN x:=by rw[kW,vX,Go.Sort.xorNext_toNat,γ]
  have Kt:kg<2 ^ 64:=by rw[kW];exact tQ.toNat_lt
  have B8:=Ro x nN;rw[<-Ks] at B8;obtain⟨z,Φ⟩:=aK (kg&&&(m-1));have gu:z<=m-1:=by rw[Φ];exact Nat.and_le_right
  have gG:ga .u64 (kg:Int) ((m-1:Nat):Int)=(z:Int):=by rw[Φ];exact Rk Kt R
  have Ku:IntKind.i64.wrap (z:Int)=(z:Int):=IntWalk.i64_in _ R;obtain⟨o,ψ⟩:=aK (if z>=l then z-l else z);have yc:o<l:=by rw[ψ];split<;>omega
  have nv:sr a l m t (bB+1) (tQ,Go.Sort.swp e bB (a+o))=ak:=by
   rw[<-aI];show _=sr a l m t (bB+1) (Go.Sort.breakStep a l m (st,e) bB);unfold Go.Sort.breakStep;simp only;rw[<-vX,<-kW,<-Φ,<-ψ]
  obtain⟨tR,Kv⟩:=aK (a+o);rw[<-Kv] at nv;refine aE (υ w2 (υ w4 (υ iq (υ lf g)))) ?_;refine aD ζ ?_;refine bh λΘ θ=>?_;refine ab.one B8 1 rfl (by simp[iJ]) (by simp[iJ]) (by simp[fR,nS]) (by simp[fR,nS]) rfl ?_;simp[ed,hS];(repeat (rw[al];simp[Kr,gG,Ku]));apply θ;refine W.to (σ':=[.cells 3 1 ((e).toList.map I),.cells 248 1 [jZ ((kg:Nat):Int)]]) (env':=[(0,.ms 0 n 0 n),(1,I a),(6,I (l:Nat)),(7,.ah 1 1 0 0),(8,jZ (m:Nat)),(9,I (bB:Nat)),(10,I (z:Nat))]) ?_ rfl ζ;refine Η ?_;refine W.upto [(0,.ms 0 n 0 n),(1,I a),(6,I (l:Nat)),(7,.ah 1 1 0 0),(8,jZ (m:Nat)),(9,I (bB:Nat)),(10,I (o:Nat))] [.cells 3 1 ((e).toList.map I),.cells 248 1 [jZ ((kg:Nat):Int)]] ?_ ?_
  ·by_cases lA:l<=z
   ·have wo:IntKind.i64.wrap ((z:Int)-(l:Int))=(o:Int):=by rw[IntWalk.i64_in _ R,ψ,if_pos lA];omega
    refine aD (by simp[lA]) ?_;refine aE wo ?_;exact W.stop ⟨rfl,rfl,ζ⟩
   ·refine aA (by simp[lA]) ?_
    repeat apply Ω
    exact W.stop ⟨rfl,rfl,by simp[ψ,lA]⟩
  have Kw:IntKind.i64.wrap ((a:Int)+(o:Int))=(tR:Int):=by rw[IntWalk.i64_in _ R];omega
  have aC:bB<n:=R
  have aH:tR<n:=R;obtain⟨L,x,y,ai,γ,Κ,ξ,⟨J,U⟩,⟨μ,Ε⟩,cr,eD,au⟩:=eC I cq aC aH;rw[ai];clear γ Κ
  repeat apply Ω
  refine dR (υ ξ (υ J (υ U (υ μ (υ Ε (υ au (υ aC (υ aH Kw)))))))) ?_;have Kx:=ho (i:=bB) R;refine aE Kx ?_;refine W.to (ω (t,tQ,Go.Sort.swp e bB tR) ⟨by(try simp only);omega,swp_size cq bB tR,?_⟩ ζ) (by rw[cr,kW]) (by simp[show c+2-t=bB+1 by omega]);have Γ:c+2-t=bB+1:=R;simp only;rw[Γ];exact nv
theorem Rx (d:Array (Int)) (n a b:Nat) (Ζ:d.size=n) (ν:n<2 ^ 40) (eO:a<b) (hb:b<=n)  :
  ab Tryz.prog 202 [.ms 0 n 0 n,I a,I b] [.cells 3 1 ((d).toList.map I)] (λr s=>r=a' (Go.Sort.partialInsertionSort (Go.Sort.ltInt) d a b).2/\s=[.cells 3 1 (((Go.Sort.partialInsertionSort (Go.Sort.ltInt) d a b).1).toList.map I)]) (λ_ _=>False):=by
 refine ab.body Υ Tryz.func202 rfl rfl Tryz.ntmps202 rfl rfl ζ ?_;obtain⟨ak,fq⟩:=b2 (Go.Sort.partialIns (Go.Sort.ltInt) a b 5 (a+1) d);have cB:Go.Sort.partialInsertionSort (Go.Sort.ltInt) d a b=ak:=fq;rw[cB];have w1:=ho (i:=a) R;refine aE w1 ?_;refine W.iter (λq:Nat×Nat×Array (Int)=>q.1<=5/\a+1<=q.2.1/\q.2.1<=b/\q.2.2.size=n/\Go.Sort.partialIns (Go.Sort.ltInt) a b (5-q.1) q.2.1 q.2.2=ak) (λq=>[(0,.ms 0 n 0 n),(1,I a),(2,I b),(7,I (q.2.1:Nat)),(8,I (q.1:Nat))]) (λq=>[.cells 3 1 ((q.2.2).toList.map I)]) (λq=>5-q.1) (0,a+1,d) ⟨Nat.zero_le _,Nat.le_refl _,eO,Ζ,fq⟩ rfl (by simp[w1]) (λq Ξ ω=>?_);clear fq cB Ζ w1;obtain⟨st,i,e⟩:=q;obtain⟨cH,iL,iR,cq,aI⟩:=Ξ;simp only at cH iL iR cq aI;refine W.to (σ':=[.cells 3 1 ((e).toList.map I)]) (env':=[(0,.ms 0 n 0 n),(1,I a),(2,I b),(7,I (i:Nat)),(8,I (st:Nat))]) ?_ rfl ζ;by_cases au:st<5
 case neg=>
  have g:¬(st:Int)<5:=R;refine aE g ?_;refine aA ζ ?_;refine W.exit rfl ?_;refine Η ?_;obtain rfl:st=5:=R;exact W.ret ⟨_,rfl,by rw[<-aI];rfl,by rw[<-aI];rfl⟩
 have gf:(st:Int)<5:=R;refine aE gf ?_;refine aD ζ ?_;obtain⟨ag,dP⟩:=b2 (Go.Sort.scanSorted (Go.Sort.ltInt) e b i);have fΙ:=fΑ (Go.Sort.ltInt) e (b:=b) (b-i) i (Nat.le_refl _) iR;rw[dP] at fΙ;rw[show 5-st=(4-st)+1 by omega,Go.Sort.partialIns] at aI;simp only[dP] at aI
 repeat apply Ω
 refine W.ku [(0,.ms 0 n 0 n),(1,I a),(2,I b),(7,I (ag:Nat)),(8,I (st:Nat))] [.cells 3 1 ((e).toList.map I)] ?_ ?_
 ·clear aI;refine W.iter (λk:Nat=>i<=k/\k<=b/\Go.Sort.scanSorted (Go.Sort.ltInt) e b k=ag) (λk=>[(0,.ms 0 n 0 n),(1,I a),(2,I b),(7,I (k:Nat)),(8,I (st:Nat))]) (λ_=>[.cells 3 1 ((e).toList.map I)]) (λk=>b-k) i ⟨Nat.le_refl _,iR,dP⟩ rfl ζ (λk χ g4=>?_);obtain⟨jo,e9,jq⟩:=χ;by_cases ε:k<b
  ·obtain⟨p,π⟩:=aK (k-1);have aC:k<n:=R;have aH:p<n:=R;obtain⟨L,x,y,ai,γ,Κ,ξ,⟨J,U⟩,⟨μ,Ε⟩,-,-⟩:=eC I cq aC aH;have un:Go.Sort.scanSorted (Go.Sort.ltInt) e b k=if(!Go.Sort.ltInt x y)=true then Go.Sort.scanSorted (Go.Sort.ltInt) e b (k+1) else k:=by rw[Go.Sort.scanSorted];simp[ε,γ,<-π,Κ]
   have hw:=ho (i:=k) R
   have gO:IntKind.i64.wrap ((k:Int)-1)=(p:Int):=by rw[IntWalk.i64_in _ R];omega
   refine W.to (σ':=[.cells 3 1 L]) (env':=[(0,.ms 0 n 0 n),(1,I a),(2,I b),(7,I (k:Nat)),(8,I (st:Nat))]) ?_ (by rw[ai]) ζ;clear γ Κ
   repeat apply Ω
   refine W.draw (A:=[]) Υ mixed λΘ θ=>hV (υ ε (υ gO (υ ξ (υ J (υ U (υ μ (υ Ε (υ aC aH)))))))) ?_;refine eZ (az.p (nV x y) (bI.refl _) ζ ζ) ?_;simp;(repeat (rw[dq];simp[]));try rw[dp]
   refine e5 (θ _ _ ?_);by_cases hm:x<y
   ·refine aA (by simp[hm]) ?_;refine W.exit rfl ?_;exact W.stop ⟨rfl,by rw[ai],by rw[<-jq,un];simp[hm,Go.Sort.ltInt]⟩
   ·refine aD (by simp[hm]) ?_;refine aE hw ?_;exact W.to (g4 (k+1) ⟨R,R,by rw[<-jq,un];simp[hm,Go.Sort.ltInt]⟩ (by(try simp only);omega)) (by rw[ai]) (by simp[hw])
  ·repeat apply Ω
   refine dR ε ?_;refine aA rfl ?_;refine W.exit rfl ?_;have e:Go.Sort.scanSorted (Go.Sort.ltInt) e b k=k:=by rw[Go.Sort.scanSorted];simp[ε]
   exact W.stop ⟨rfl,rfl,by rw[<-jq,e];simp⟩
 by_cases tP:ag=b
 ·have g:(ag:Int)=(b:Int):=by omega
  rw[if_pos tP] at aI;refine aE g ?_;refine aD (by simp[tP]) ?_;refine Η ?_;exact W.ret ⟨_,rfl,by rw[<-aI];rfl,by rw[<-aI]⟩
 have g:¬(ag:Int)=(b:Int):=R
 have w2:=vw (a:=a) (b:=b) R R;rw[if_neg tP] at aI;refine aE g ?_;refine aA (by simp[tP]) ?_;by_cases tO:b-a<50
 ·have aa:((b-a:Nat):Int)<50:=by omega
  rw[if_pos tO] at aI;refine aE (υ w2 aa) ?_;refine aD ζ ?_;refine Η ?_;exact W.ret ⟨_,rfl,by rw[<-aI];rfl,by rw[<-aI]⟩
 have aa:¬((b-a:Nat):Int)<50:=R;rw[if_neg tO] at aI;refine aE (υ w2 aa) ?_;refine aA ζ ?_;obtain⟨p,π⟩:=aK (ag-1);have w3:IntKind.i64.wrap ((ag:Int)-1)=(p:Int):=by rw[IntWalk.i64_in _ R];omega
 rw[<-π] at aI;have aC:ag<n:=R;have aH:p<n:=R;obtain⟨L,x,y,ai,γ,Κ,ξ,⟨J,U⟩,⟨μ,Ε⟩,cr,eD,au⟩:=eC I cq aC aH;refine W.to (σ':=[.cells 3 1 L]) (env':=[(0,.ms 0 n 0 n),(1,I a),(2,I b),(7,I (ag:Nat)),(8,I (st:Nat))]) ?_ (by rw[ai]) ζ;clear γ Κ
 repeat apply Ω
 refine dR (υ ξ (υ J (υ U (υ μ (υ Ε (υ au (υ aC (υ aH w3)))))))) ?_;refine W.to (σ':=[.cells 3 1 ((Go.Sort.swp e ag p).toList.map I)]) (env':=[(0,.ms 0 n 0 n),(1,I a),(2,I b),(7,I (ag:Nat)),(8,I (st:Nat))]) ?_ (by rw[cr]) ζ;clear aC aH J U μ Ε au cr ξ ai L x y eD;obtain⟨Γ,te⟩:=aK (Go.Sort.swp e ag p);have KI:Γ.size=n:=by rw[te];exact swp_size cq ag p
 rw[<-te] at aI ⊢;have w4:=vw (a:=a) (b:=ag) R R;obtain⟨Δ,g2⟩:=aK (if ag-a>=2 then Go.Sort.shiftDown (Go.Sort.ltInt) p Γ else Γ);rw[<-g2] at aI;have KJ:Δ.size=n:=by rw[g2];split;exact fΒ (Go.Sort.ltInt) p Γ KI;exact KI
 refine aE w4 ?_;refine W.upto [(0,.ms 0 n 0 n),(1,I a),(2,I b),(7,I (ag:Nat)),(8,I (st:Nat))] [.cells 3 1 ((Δ).toList.map I)] ?_ ?_
 ·clear aI;by_cases c2:2<=ag-a
  ·rw[if_pos c2] at g2;refine aD (by simp;omega) ?_;refine aE w3 ?_;subst g2;refine W.iter (λq:Nat×Array (Int)=>q.1<=p/\q.2.size=n/\Go.Sort.shiftDown (Go.Sort.ltInt) q.1 q.2=Go.Sort.shiftDown (Go.Sort.ltInt) p Γ) (λq=>[(0,.ms 0 n 0 n),(1,I a),(2,I b),(7,I (ag:Nat)),(8,I (st:Nat)),(9,I (q.1:Nat))]) (λq=>[.cells 3 1 ((q.2).toList.map I)]) (λq=>q.1) (p,Γ) ⟨Nat.le_refl _,KI,rfl⟩ rfl ζ (λq Ξ g4=>?_);obtain⟨j,f⟩:=q;obtain⟨rK,bL,tX⟩:=Ξ;simp only at rK bL tX;refine W.to (σ':=[.cells 3 1 ((f).toList.map I)]) (env':=[(0,.ms 0 n 0 n),(1,I a),(2,I b),(7,I (ag:Nat)),(8,I (st:Nat)),(9,I (j:Nat))]) ?_ rfl ζ;by_cases ε:1<=j
   ·have g:(1:Int)<=(j:Int):=by omega
    refine aE g ?_;refine aD ζ ?_;obtain⟨q,Ξ⟩:=aK (j-1);have kv:IntKind.i64.wrap ((j:Int)-1)=(q:Int):=by rw[IntWalk.i64_in _ R];omega
    have wn:IntKind.i64.wrap ((j:Int)-1)=(q:Int):=kv
    have aC:j<n:=R
    have aH:q<n:=R;obtain⟨L,x,y,ai,γ,Κ,ξ,⟨J,U⟩,⟨μ,Ε⟩,cr,eD,au⟩:=eC I bL aC aH;have un:Go.Sort.shiftDown (Go.Sort.ltInt) j f=if(!Go.Sort.ltInt x y)=true then f else Go.Sort.shiftDown (Go.Sort.ltInt) q (Go.Sort.swp f j q):=by
     obtain rfl:j=q+1:=R;rw[Go.Sort.shiftDown,γ,Κ]
    refine W.to (σ':=[.cells 3 1 L]) (env':=[(0,.ms 0 n 0 n),(1,I a),(2,I b),(7,I (ag:Nat)),(8,I (st:Nat)),(9,I (j:Nat))]) ?_ (by rw[ai]) ζ;clear γ Κ
    repeat apply Ω
    refine W.draw (A:=[]) Υ mixed λΘ θ=>hV (υ kv (υ ξ (υ J (υ U (υ μ (υ Ε (υ aC aH))))))) ?_;refine eZ (az.p (nV x y) (bI.refl _) ζ ζ) ?_;simp;(repeat (rw[dq];simp[]));try rw[dp]
    refine e5 (θ _ _ ?_);by_cases hm:x<y
    ·refine aA (by simp[hm]) ?_;refine W.to (σ':=[.cells 3 1 L]) (env':=[(0,.ms 0 n 0 n),(1,I a),(2,I b),(7,I (ag:Nat)),(8,I (st:Nat)),(9,I (j:Nat))]) ?_ rfl ζ
     repeat apply Ω
     refine dR (υ kv (υ ξ (υ J (υ U (υ μ (υ Ε (υ au (υ aC aH)))))))) ?_;refine aE wn ?_;exact W.to (g4 (q,Go.Sort.swp f j q) ⟨R,swp_size bL j q,by rw[<-tX,un];simp[hm,Go.Sort.ltInt]⟩ (by(try simp only);omega)) (by rw[cr]) (by simp[wn])
    ·refine aD (by simp[hm]) ?_;refine W.exit rfl ?_;exact W.stop ⟨rfl,by rw[<-ai,<-tX,un];simp[hm,Go.Sort.ltInt],ζ⟩
   ·have g:¬(1:Int)<=(j:Int):=by omega
    refine aE g ?_;refine aA ζ ?_;refine W.exit rfl ?_;have e:Go.Sort.shiftDown (Go.Sort.ltInt) j f=f:=by
     obtain rfl:j=0:=R;rfl
    exact W.stop ⟨rfl,by rw[<-tX,e],ζ⟩
  ·rw[if_neg c2] at g2;refine aA (by simp;omega) ?_;refine W.skip ?_;exact W.stop ⟨rfl,by rw[g2],ζ⟩
 clear g2;have iq:=vw (a:=ag) (b:=b) R R;have ir:=ho (i:=ag) R;have lf:=ho (i:=st) R;obtain⟨a4,zj⟩:=aK (if b-ag>=2 then Go.Sort.shiftUp (Go.Sort.ltInt) b (ag+1) Δ else Δ);rw[<-zj] at aI;have fΚ:a4.size=n:=by rw[zj];split;exact fΓ (Go.Sort.ltInt) (b-(ag+1)) (ag+1) Δ (Nat.le_refl _) KJ;exact KJ
 refine aE iq ?_;refine W.upto [(0,.ms 0 n 0 n),(1,I a),(2,I b),(7,I (ag:Nat)),(8,I (st:Nat))] [.cells 3 1 ((a4).toList.map I)] ?_ ?_
 ·clear aI;by_cases c2:2<=b-ag
  ·rw[if_pos c2] at zj;refine aD (by simp;omega) ?_;refine aE ir ?_;subst zj;refine W.iter (λq:Nat×Array (Int)=>ag+1<=q.1/\q.1<=b/\q.2.size=n/\Go.Sort.shiftUp (Go.Sort.ltInt) b q.1 q.2=Go.Sort.shiftUp (Go.Sort.ltInt) b (ag+1) Δ) (λq=>[(0,.ms 0 n 0 n),(1,I a),(2,I b),(7,I (ag:Nat)),(8,I (st:Nat)),(10,I (q.1:Nat))]) (λq=>[.cells 3 1 ((q.2).toList.map I)]) (λq=>b-q.1) (ag+1,Δ) ⟨Nat.le_refl _,R,KJ,rfl⟩ rfl ζ (λq Ξ g4=>?_);obtain⟨j,f⟩:=q;obtain⟨rK,AE,bL,tX⟩:=Ξ;simp only at rK AE bL tX;refine W.to (σ':=[.cells 3 1 ((f).toList.map I)]) (env':=[(0,.ms 0 n 0 n),(1,I a),(2,I b),(7,I (ag:Nat)),(8,I (st:Nat)),(10,I (j:Nat))]) ?_ rfl ζ;by_cases ε:j<b
   ·have g:(j:Int)<(b:Int):=by omega
    refine aE g ?_;refine aD ζ ?_;obtain⟨q,Ξ⟩:=aK (j-1);have kv:IntKind.i64.wrap ((j:Int)-1)=(q:Int):=by rw[IntWalk.i64_in _ R];omega
    have wn:=ho (i:=j) R
    have aC:j<n:=R
    have aH:q<n:=R;obtain⟨L,x,y,ai,γ,Κ,ξ,⟨J,U⟩,⟨μ,Ε⟩,cr,eD,au⟩:=eC I bL aC aH;have un:Go.Sort.shiftUp (Go.Sort.ltInt) b j f=if(!Go.Sort.ltInt x y)=true then f else Go.Sort.shiftUp (Go.Sort.ltInt) b (j+1) (Go.Sort.swp f j q):=by
     rw[Go.Sort.shiftUp,if_pos ε,<-Ξ,γ,Κ]
    refine W.to (σ':=[.cells 3 1 L]) (env':=[(0,.ms 0 n 0 n),(1,I a),(2,I b),(7,I (ag:Nat)),(8,I (st:Nat)),(10,I (j:Nat))]) ?_ (by rw[ai]) ζ;clear γ Κ
    repeat apply Ω
    refine W.draw (A:=[]) Υ mixed λΘ θ=>hV (υ kv (υ ξ (υ J (υ U (υ μ (υ Ε (υ aC aH))))))) ?_;refine eZ (az.p (nV x y) (bI.refl _) ζ ζ) ?_;simp;(repeat (rw[dq];simp[]));try rw[dp]
    refine e5 (θ _ _ ?_);by_cases hm:x<y
    ·refine aA (by simp[hm]) ?_;refine W.to (σ':=[.cells 3 1 L]) (env':=[(0,.ms 0 n 0 n),(1,I a),(2,I b),(7,I (ag:Nat)),(8,I (st:Nat)),(10,I (j:Nat))]) ?_ rfl ζ
     repeat apply Ω
     refine dR (υ kv (υ ξ (υ J (υ U (υ μ (υ Ε (υ au (υ aC aH)))))))) ?_;refine aE wn ?_;exact W.to (g4 (j+1,Go.Sort.swp f j q) ⟨R,R,swp_size bL j q,by rw[<-tX,un];simp[hm,Go.Sort.ltInt]⟩ (by(try simp only);omega)) (by rw[cr]) (by simp[wn])
    ·refine aD (by simp[hm]) ?_;refine W.exit rfl ?_;exact W.stop ⟨rfl,by rw[<-ai,<-tX,un];simp[hm,Go.Sort.ltInt],ζ⟩
   ·have g:¬(j:Int)<(b:Int):=by omega
    refine aE g ?_;refine aA ζ ?_;refine W.exit rfl ?_;have e:Go.Sort.shiftUp (Go.Sort.ltInt) b j f=f:=by rw[Go.Sort.shiftUp,if_neg ε]
    exact W.stop ⟨rfl,by rw[<-tX,e],ζ⟩
  ·rw[if_neg c2] at zj;refine aA (by simp;omega) ?_;refine W.skip ?_;exact W.stop ⟨rfl,by rw[zj],ζ⟩
 refine aE lf ?_;exact W.to (ω (st+1,ag,a4) ⟨by(try simp only);omega,by(try simp only);omega,by(try simp only);omega,fΚ,by simp only;rw[show 5-(st+1)=4-st by omega];exact aI⟩ (by(try simp only);omega)) rfl (by simp[lf])
end Go.TL
