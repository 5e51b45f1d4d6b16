import Derived.Test.YtlabjopijpkiaaaGreatVAP
import Derived.Test.YtlabjopijpkiaaaGreatVAS
import Derived.Test.YtlabjopijpkiaaaGreatVBA
set_option maxHeartbeats 16000000
set_option maxRecDepth 20000
set_option linter.unusedSectionVars false
set_option linter.unusedSimpArgs false
set_option linter.unusedVariables false
namespace Go.TL
open Go.Proofs
variable [bn]
theorem dκ (d:Array (Int×Int)) (n a b p:Nat) (Ζ:d.size=n) (ν:n<2 ^ 40) (ib:a<=p) (JE:p<b) (hb:b<=n) (ax:θ) (cmp:Int×Int->Int×Int->Int) (b1:aG 0 ax) (Υ:∀x y,gp Tryz.prog ax [aF x,aF y] (I (cmp x y))) :
  ae Tryz.prog 241 [.ms 0 n 0 n,I a,I b,I p,ax] [.cells 112 2 ((d).toList.map aF)] (λr s=>r=.bj [I (Go.Sort.partition (aC cmp) d a b p).1,a6 (Go.Sort.partition (aC cmp) d a b p).2.1]/\s=[.cells 112 2 (((Go.Sort.partition (aC cmp) d a b p).2.2).toList.map aF)]) (λ_ _=>False):=by
 refine ae.body Ρ Tryz.func241 rfl rfl Tryz.ntmps241 rfl rfl η ?_;have h2:=gR (i:=a) R;have g0:=hP (i:=b) R R
 repeat apply ad
 refine mQ ?_;have aD:a<n:=R;have aH:p<n:=R;obtain⟨L,x,y,ab,γ,Ι,ο,⟨J,U⟩,⟨μ,Θ⟩,cq,eC,av⟩:=eB aF Ζ aD aH;refine W.to (σ':=[.cells 112 2 L]) (env':=[(0,.ms 0 n 0 n),(1,I a),(2,I b),(3,I p),(4,ax)]) ?_ (by rw[ab]) η;clear γ Ι
 repeat apply ad
 refine dF (υ ο (υ J (υ U (υ μ (υ Θ (υ av (υ aD aH))))))) ?_;refine W.to (σ':=[.cells 112 2 ((Go.Sort.swp d a p).toList.map aF)]) (env':=[(0,.ms 0 n 0 n),(1,I a),(2,I b),(3,I p),(4,ax)]) ?_ (by rw[cq]) η;clear aD aH J U μ Θ av cq ο ab L x y eC;obtain⟨e,he⟩:=aK (Go.Sort.swp d a p);have cp:e.size=n:=by rw[he];exact swp_size Ζ a p
 rw[<-he]
 repeat apply ad
 refine nG (υ h2 g0) ?_;refine W.to (σ':=[.cells 112 2 ((e).toList.map aF)]) (env':=[(0,.ms 0 n 0 n),(1,I a),(4,ax),(12,I (a+1:Nat)),(13,I (b-1:Nat))]) ?_ rfl η;obtain⟨ah,dO⟩:=bZ (Go.Sort.scanUp (λx=>aC cmp x e[a]!) e (b-1) (a+1));obtain⟨an,cQ⟩:=bZ (Go.Sort.scanDown (λx=>!aC cmp x e[a]!) e ah (b-1));obtain⟨s1,s2,kD,pB,ki⟩:=uQ (λx=>aC cmp x e[a]!) (λx=>!aC cmp x e[a]!) (λx=>rfl) e R R dO cQ;have cB:Go.Sort.partition (aC cmp) d a b p=if ah > an then(an,true,Go.Sort.swp e an a) else((Go.Sort.partLoop (aC cmp) a (ah+1) (an-1) (Go.Sort.swp e ah an)).1,false,Go.Sort.swp (Go.Sort.partLoop (aC cmp) a (ah+1) (an-1) (Go.Sort.swp e ah an)).2 (Go.Sort.partLoop (aC cmp) a (ah+1) (an-1) (Go.Sort.swp e ah an)).1 a):=by
  unfold Go.Sort.partition;simp only[<-he,dO,cQ]
 repeat apply ad
 repeat apply ad
 refine W.j9 [(0,.ms 0 n 0 n),(1,I a),(4,ax),(12,I (ah:Nat)),(13,I (b-1:Nat))] [.cells 112 2 ((e).toList.map aF)] ?_ ?_
 ·refine W.iter (λi:Nat=>(a+1)<=i/\i<=(b-1)+1/\Go.Sort.scanUp (λx=>aC cmp x e[a]!) e (b-1) i=ah) (λi=>[(0,.ms 0 n 0 n),(1,I a),(4,ax),(12,I (i:Nat)),(13,I (b-1:Nat))]) (λ_=>[.cells 112 2 ((e).toList.map aF)]) (λi=>(b-1)+1-i) ((a+1)) ⟨Nat.le_refl _,R,dO⟩ rfl η (λi hi Β=>?_);obtain⟨iq,ix,dk⟩:=hi;by_cases δ:i<=(b-1)
  ·have aD:i<n:=by omega
   have aH:a<n:=R;obtain⟨L,x,y,ab,γ,Ι,ο,⟨J,U⟩,⟨μ,Θ⟩,-,-⟩:=eB aF cp aD aH;have un:Go.Sort.scanUp (λx=>aC cmp x e[a]!) e (b-1) i=if(aC cmp x y)=true then Go.Sort.scanUp (λx=>aC cmp x e[a]!) e (b-1) (i+1) else i:=by rw[Go.Sort.scanUp];simp[δ,γ,Ι]
   have hw:=gR (i:=i) R;refine W.to (σ':=[.cells 112 2 L]) (env':=[(0,.ms 0 n 0 n),(1,I a),(4,ax),(12,I (i:Nat)),(13,I (b-1:Nat))]) ?_ (by rw[ab]) η;clear γ Ι
   repeat apply ad
   refine W.draw (A:=[]) Ρ mixed λΕ ζ=>gq (υ δ (υ ο (υ J (υ U (υ μ (υ Θ (υ aD aH))))))) ?_;refine eA (Υ x y) ?_;simp;(repeat (rw[c7];simp[]));try rw[c6]
   refine er (ζ _ _ ?_);by_cases hm:cmp x y<0
   ·refine ai (by simp[hm]) ?_;refine aB hw ?_;exact W.to (Β (i+1) ⟨R,R,by rw[<-dk,un];simp[hm,aC]⟩ (by(try simp only);omega)) (by rw[ab]) (by simp[hw])
   ·refine aa (by simp[hm]) ?_;refine W.exit rfl ?_;exact W.stop ⟨rfl,by rw[ab],by rw[<-dk,un];simp[hm,aC]⟩
  ·repeat apply ad
   refine dF δ ?_;refine aa rfl ?_;refine W.exit rfl ?_;have e:Go.Sort.scanUp (λx=>aC cmp x e[a]!) e (b-1) i=i:=by rw[Go.Sort.scanUp];simp[δ]
   exact W.stop ⟨rfl,rfl,by rw[<-dk,e];simp⟩
 repeat apply ad
 refine W.j9 [(0,.ms 0 n 0 n),(1,I a),(4,ax),(12,I (ah:Nat)),(13,I (an:Nat))] [.cells 112 2 ((e).toList.map aF)] ?_ ?_
 ·refine W.iter (λi:Nat=>i<=(b-1)/\ah<=i+1/\Go.Sort.scanDown (λx=>!aC cmp x e[a]!) e ah i=an) (λi=>[(0,.ms 0 n 0 n),(1,I a),(4,ax),(12,I (ah:Nat)),(13,I (i:Nat))]) (λ_=>[.cells 112 2 ((e).toList.map aF)]) (λi=>i+1-ah) ((b-1)) ⟨Nat.le_refl _,R,cQ⟩ rfl η (λi hi Β=>?_);obtain⟨iq,ix,dk⟩:=hi;by_cases δ:ah<=i
  ·have aD:i<n:=by omega
   have aH:a<n:=R;obtain⟨L,x,y,ab,γ,Ι,ο,⟨J,U⟩,⟨μ,Θ⟩,-,-⟩:=eB aF cp aD aH;obtain⟨q,Φ⟩:∃q,i=q+1:=⟨i-1,R⟩;have un:Go.Sort.scanDown (λx=>!aC cmp x e[a]!) e ah i=if(!aC cmp x y)=true then Go.Sort.scanDown (λx=>!aC cmp x e[a]!) e ah (i-1) else i:=by subst Φ;rw[Go.Sort.scanDown];simp[δ,γ,Ι]
   have hw:=hP (i:=i) R R;refine W.to (σ':=[.cells 112 2 L]) (env':=[(0,.ms 0 n 0 n),(1,I a),(4,ax),(12,I (ah:Nat)),(13,I (i:Nat))]) ?_ (by rw[ab]) η;clear γ Ι
   repeat apply ad
   refine W.draw (A:=[]) Ρ mixed λΕ ζ=>gq (υ δ (υ ο (υ J (υ U (υ μ (υ Θ (υ aD aH))))))) ?_;refine eA (Υ x y) ?_;simp;(repeat (rw[c7];simp[]));try rw[c6]
   refine er (ζ _ _ ?_);by_cases hm:cmp x y<0
   ·refine aa (by simp[hm]) ?_;refine W.exit rfl ?_;exact W.stop ⟨rfl,by rw[ab],by rw[<-dk,un];simp[hm,aC]⟩
   ·refine ai (by simp[hm]) ?_;refine aB hw ?_;exact W.to (Β (i-1) ⟨R,R,by rw[<-dk,un];simp[hm,aC]⟩ (by(try simp only);omega)) (by rw[ab]) (by simp[hw])
  ·repeat apply ad
   refine dF δ ?_;refine aa rfl ?_;refine W.exit rfl ?_;have e:Go.Sort.scanDown (λx=>!aC cmp x e[a]!) e ah i=i:=by exact yE _ _ R
   exact W.stop ⟨rfl,rfl,by rw[<-dk,e];simp⟩
 repeat apply ad
 by_cases δ:ah > an
 ·have aX:((an:Nat):Int)<(ah:Nat):=by omega
  refine aB aX ?_;refine ai (by simp[δ]) ?_;have aD:an<n:=R;have aH:a<n:=R;obtain⟨L,x,y,ab,γ,Ι,ο,⟨J,U⟩,⟨μ,Θ⟩,cq,eC,av⟩:=eB aF cp aD aH;refine W.to (σ':=[.cells 112 2 L]) (env':=[(0,.ms 0 n 0 n),(1,I a),(4,ax),(12,I (ah:Nat)),(13,I (an:Nat))]) ?_ (by rw[ab]) η;clear γ Ι
  repeat apply ad
  refine dF (υ ο (υ J (υ U (υ μ (υ Θ (υ av (υ aD aH))))))) ?_;refine W.to (σ':=[.cells 112 2 ((Go.Sort.swp e an a).toList.map aF)]) (env':=[(0,.ms 0 n 0 n),(1,I a),(4,ax),(12,I (ah:Nat)),(13,I (an:Nat))]) ?_ (by rw[cq]) η;clear aD aH J U μ Θ av cq ο ab L x y eC;refine Η ?_;exact W.ret ⟨_,rfl,by rw[cB,if_pos δ];rfl,by rw[cB,if_pos δ]⟩
 have aX:¬((an:Nat):Int)<(ah:Nat):=R
 have u3:=ki R
 have gF:=gR (i:=ah) R
 have jl:=hP (i:=an) R R;refine aB aX ?_;refine aa (by simp[δ]) ?_;have aD:ah<n:=R;have aH:an<n:=R;obtain⟨L,x,y,ab,γ,Ι,ο,⟨J,U⟩,⟨μ,Θ⟩,cq,eC,av⟩:=eB aF cp aD aH;refine W.to (σ':=[.cells 112 2 L]) (env':=[(0,.ms 0 n 0 n),(1,I a),(4,ax),(12,I (ah:Nat)),(13,I (an:Nat))]) ?_ (by rw[ab]) η;clear γ Ι
 repeat apply ad
 refine dF (υ ο (υ J (υ U (υ μ (υ Θ (υ av (υ aD aH))))))) ?_;refine W.to (σ':=[.cells 112 2 ((Go.Sort.swp e ah an).toList.map aF)]) (env':=[(0,.ms 0 n 0 n),(1,I a),(4,ax),(12,I (ah:Nat)),(13,I (an:Nat))]) ?_ (by rw[cq]) η;clear aD aH J U μ Θ av cq ο ab L x y eC;have n3:=swp_size cp ah an;rw[if_neg δ] at cB;obtain⟨g,Ξ⟩:=aK (Go.Sort.swp e ah an);rw[<-Ξ] at cB n3;rw[<-Ξ];refine aB (υ gF jl) ?_;refine W.to (σ':=[.cells 112 2 ((g).toList.map aF)]) (env':=[(0,.ms 0 n 0 n),(1,I a),(4,ax),(12,I (ah+1:Nat)),(13,I (an-1:Nat))]) ?_ rfl (by simp[gF,jl]);have dμ:a<ah:=R;have dν:an<b:=R;have dξ:ah+1<=an-1+1:=R;clear dO cQ aX δ s1 s2 kD pB ki Ξ gF jl;obtain⟨al,fp⟩:=bZ (Go.Sort.partLoop (aC cmp) a (ah+1) (an-1) g)
 repeat apply ad
 refine W.j9 [(0,.ms 0 n 0 n),(1,I a),(13,I al.1)] [.cells 112 2 ((al.2).toList.map aF)] ?_ ?_
 ·refine W.iter (λq:Nat×Nat×Array (Int×Int)=>q.2.2.size=n/\a<q.1/\q.1<=q.2.1+1/\q.2.1<b/\Go.Sort.partLoop (aC cmp) a q.1 q.2.1 q.2.2=al) (λq=>[(0,.ms 0 n 0 n),(1,I a),(4,ax),(12,I (q.1:Nat)),(13,I (q.2.1:Nat))]) (λq=>[.cells 112 2 ((q.2.2).toList.map aF)]) (λq=>q.2.1+1-q.1) (ah+1,an-1,g) ⟨n3,by(try simp only);omega,by(try simp only);omega,by(try simp only);omega,fp⟩ rfl η (λq hi Β=>?_);obtain⟨i,j,f⟩:=q;obtain⟨bM,iq,ix,dk,aN⟩:=hi;simp only at bM iq ix dk aN;obtain⟨ah,dO⟩:=bZ (Go.Sort.scanUp (λx=>aC cmp x f[a]!) f (j) (i));obtain⟨an,cQ⟩:=bZ (Go.Sort.scanDown (λx=>!aC cmp x f[a]!) f ah (j));obtain⟨s1,s2,kD,pB,ki⟩:=uQ (λx=>aC cmp x f[a]!) (λx=>!aC cmp x f[a]!) (λx=>rfl) f R R dO cQ;have cB:Go.Sort.partLoop (aC cmp) a i j f=if ah > an then(an,f) else Go.Sort.partLoop (aC cmp) a (ah+1) (an-1) (Go.Sort.swp f ah an):=by
   rw[Go.Sort.partLoop_eq];simp only[dO,cQ]
  refine W.to (σ':=[.cells 112 2 ((f).toList.map aF)]) (env':=[(0,.ms 0 n 0 n),(1,I a),(4,ax),(12,I (i:Nat)),(13,I (j:Nat))]) ?_ rfl η;refine W.block ?_
  repeat apply ad
  refine W.j9 [(0,.ms 0 n 0 n),(1,I a),(4,ax),(12,I (ah:Nat)),(13,I (j:Nat))] [.cells 112 2 ((f).toList.map aF)] ?_ ?_
  ·refine W.iter (λi:Nat=>(i)<=i/\i<=(j)+1/\Go.Sort.scanUp (λx=>aC cmp x f[a]!) f (j) i=ah) (λi=>[(0,.ms 0 n 0 n),(1,I a),(4,ax),(12,I (i:Nat)),(13,I (j:Nat))]) (λ_=>[.cells 112 2 ((f).toList.map aF)]) (λi=>(j)+1-i) ((i)) ⟨Nat.le_refl _,R,dO⟩ rfl η (λi hi Β=>?_);obtain⟨iq,ix,dk⟩:=hi;by_cases δ:i<=(j)
   ·have aD:i<n:=by omega
    have aH:a<n:=R;obtain⟨L,x,y,ab,γ,Ι,ο,⟨J,U⟩,⟨μ,Θ⟩,-,-⟩:=eB aF bM aD aH;have un:Go.Sort.scanUp (λx=>aC cmp x f[a]!) f (j) i=if(aC cmp x y)=true then Go.Sort.scanUp (λx=>aC cmp x f[a]!) f (j) (i+1) else i:=by rw[Go.Sort.scanUp];simp[δ,γ,Ι]
    have hw:=gR (i:=i) R;refine W.to (σ':=[.cells 112 2 L]) (env':=[(0,.ms 0 n 0 n),(1,I a),(4,ax),(12,I (i:Nat)),(13,I (j:Nat))]) ?_ (by rw[ab]) η;clear γ Ι
    repeat apply ad
    refine W.draw (A:=[]) Ρ mixed λΕ ζ=>gq (υ δ (υ ο (υ J (υ U (υ μ (υ Θ (υ aD aH))))))) ?_;refine eA (Υ x y) ?_;simp;(repeat (rw[c7];simp[]));try rw[c6]
    refine er (ζ _ _ ?_);by_cases hm:cmp x y<0
    ·refine ai (by simp[hm]) ?_;refine aB hw ?_;exact W.to (Β (i+1) ⟨R,R,by rw[<-dk,un];simp[hm,aC]⟩ (by(try simp only);omega)) (by rw[ab]) (by simp[hw])
    ·refine aa (by simp[hm]) ?_;refine W.exit rfl ?_;exact W.stop ⟨rfl,by rw[ab],by rw[<-dk,un];simp[hm,aC]⟩
   ·repeat apply ad
    refine dF δ ?_;refine aa rfl ?_;refine W.exit rfl ?_;have e:Go.Sort.scanUp (λx=>aC cmp x f[a]!) f (j) i=i:=by rw[Go.Sort.scanUp];simp[δ]
    exact W.stop ⟨rfl,rfl,by rw[<-dk,e];simp⟩
  repeat apply ad
  refine W.j9 [(0,.ms 0 n 0 n),(1,I a),(4,ax),(12,I (ah:Nat)),(13,I (an:Nat))] [.cells 112 2 ((f).toList.map aF)] ?_ ?_
  ·refine W.iter (λi:Nat=>i<=(j)/\ah<=i+1/\Go.Sort.scanDown (λx=>!aC cmp x f[a]!) f ah i=an) (λi=>[(0,.ms 0 n 0 n),(1,I a),(4,ax),(12,I (ah:Nat)),(13,I (i:Nat))]) (λ_=>[.cells 112 2 ((f).toList.map aF)]) (λi=>i+1-ah) ((j)) ⟨Nat.le_refl _,R,cQ⟩ rfl η (λi hi Β=>?_);obtain⟨iq,ix,dk⟩:=hi;by_cases δ:ah<=i
   ·have aD:i<n:=by omega
    have aH:a<n:=R;obtain⟨L,x,y,ab,γ,Ι,ο,⟨J,U⟩,⟨μ,Θ⟩,-,-⟩:=eB aF bM aD aH;obtain⟨q,Φ⟩:∃q,i=q+1:=⟨i-1,R⟩;have un:Go.Sort.scanDown (λx=>!aC cmp x f[a]!) f ah i=if(!aC cmp x y)=true then Go.Sort.scanDown (λx=>!aC cmp x f[a]!) f ah (i-1) else i:=by subst Φ;rw[Go.Sort.scanDown];simp[δ,γ,Ι]
    have hw:=hP (i:=i) R R;refine W.to (σ':=[.cells 112 2 L]) (env':=[(0,.ms 0 n 0 n),(1,I a),(4,ax),(12,I (ah:Nat)),(13,I (i:Nat))]) ?_ (by rw[ab]) η;clear γ Ι
    repeat apply ad
    refine W.draw (A:=[]) Ρ mixed λΕ ζ=>gq (υ δ (υ ο (υ J (υ U (υ μ (υ Θ (υ aD aH))))))) ?_;refine eA (Υ x y) ?_;simp;(repeat (rw[c7];simp[]));try rw[c6]
    refine er (ζ _ _ ?_);by_cases hm:cmp x y<0
    ·refine aa (by simp[hm]) ?_;refine W.exit rfl ?_;exact W.stop ⟨rfl,by rw[ab],by rw[<-dk,un];simp[hm,aC]⟩
    ·refine ai (by simp[hm]) ?_;refine aB hw ?_;exact W.to (Β (i-1) ⟨R,R,by rw[<-dk,un];simp[hm,aC]⟩ (by(try simp only);omega)) (by rw[ab]) (by simp[hw])
   ·repeat apply ad
    refine dF δ ?_;refine aa rfl ?_;refine W.exit rfl ?_;have e:Go.Sort.scanDown (λx=>!aC cmp x f[a]!) f ah i=i:=by exact yE _ _ R
    exact W.stop ⟨rfl,rfl,by rw[<-dk,e];simp⟩
  repeat apply ad
  by_cases δ:ah > an
  ·have aX:((an:Nat):Int)<(ah:Nat):=by omega
   refine aB aX ?_;refine ai (by simp[δ]) ?_;refine W.exit rfl ?_;rw[cB,if_pos δ] at aN;exact W.stop ⟨rfl,by rw[<-aN],by rw[<-aN];simp⟩
  ·have aX:¬((an:Nat):Int)<(ah:Nat):=by omega
   have u3:=ki R
   have gF:=gR (i:=ah) R
   have jl:=hP (i:=an) R R;refine aB aX ?_;refine aa (by simp[δ]) ?_;have aD:ah<n:=R;have aH:an<n:=R;obtain⟨L,x,y,ab,γ,Ι,ο,⟨J,U⟩,⟨μ,Θ⟩,cq,eC,av⟩:=eB aF bM aD aH;refine W.to (σ':=[.cells 112 2 L]) (env':=[(0,.ms 0 n 0 n),(1,I a),(4,ax),(12,I (ah:Nat)),(13,I (an:Nat))]) ?_ (by rw[ab]) η;clear γ Ι
   repeat apply ad
   refine dF (υ ο (υ J (υ U (υ μ (υ Θ (υ av (υ aD aH))))))) ?_;refine W.to (σ':=[.cells 112 2 ((Go.Sort.swp f ah an).toList.map aF)]) (env':=[(0,.ms 0 n 0 n),(1,I a),(4,ax),(12,I (ah:Nat)),(13,I (an:Nat))]) ?_ (by rw[cq]) η;clear aD aH J U μ Θ av cq ο ab L x y eC;refine aB (υ gF jl) ?_;exact W.to (Β (ah+1,an-1,Go.Sort.swp f ah an) ⟨swp_size bM ah an,by(try simp only);omega,by(try simp only);omega,by(try simp only);omega,by simp;rw[<-aN,cB,if_neg δ]⟩ (by(try simp only);omega)) rfl (by simp[gF,jl])
 rw[fp] at cB;have Φ:=Qp (aC cmp) (a:=a) (b:=b) _ (ah+1) (an-1) g (Nat.le_refl _) n3 R R R;rw[fp] at Φ;obtain⟨yl,JF⟩:=Φ;obtain⟨j,h⟩:=al;simp only at yl JF cB;have aD:j<n:=R;have aH:a<n:=R;obtain⟨L,x,y,ab,γ,Ι,ο,⟨J,U⟩,⟨μ,Θ⟩,cq,eC,av⟩:=eB aF yl aD aH;refine W.to (σ':=[.cells 112 2 L]) (env':=[(0,.ms 0 n 0 n),(1,I a),(13,I (j:Nat))]) ?_ (by rw[ab]) η;clear γ Ι
 repeat apply ad
 refine dF (υ ο (υ J (υ U (υ μ (υ Θ (υ av (υ aD aH))))))) ?_;refine W.to (σ':=[.cells 112 2 ((Go.Sort.swp h j a).toList.map aF)]) (env':=[(0,.ms 0 n 0 n),(1,I a),(13,I (j:Nat))]) ?_ (by rw[cq]) η;clear aD aH J U μ Θ av cq ο ab L x y eC;refine Η ?_;exact W.ret ⟨_,rfl,by rw[cB];rfl,by rw[cB]⟩
theorem dο (d:Array (Int×Int)) (n a b p:Nat) (Ζ:d.size=n) (ν:n<2 ^ 40) (ib:a<=p) (JE:p<b) (hb:b<=n) (ax:θ) (cmp:Int×Int->Int×Int->Int) (b1:aG 0 ax) (Υ:∀x y,gp Tryz.prog ax [aF x,aF y] (I (cmp x y))) :
  ae Tryz.prog 240 [.ms 0 n 0 n,I a,I b,I p,ax] [.cells 112 2 ((d).toList.map aF)] (λr s=>r=I (Go.Sort.partitionEqual (aC cmp) d a b p).1/\s=[.cells 112 2 (((Go.Sort.partitionEqual (aC cmp) d a b p).2).toList.map aF)]) (λ_ _=>False):=by
 refine ae.body Ρ Tryz.func240 rfl rfl Tryz.ntmps240 rfl rfl η ?_;have h2:=gR (i:=a) R;have g0:=hP (i:=b) R R
 repeat apply ad
 refine mQ ?_;have aD:a<n:=R;have aH:p<n:=R;obtain⟨L,x,y,ab,γ,Ι,ο,⟨J,U⟩,⟨μ,Θ⟩,cq,eC,av⟩:=eB aF Ζ aD aH;refine W.to (σ':=[.cells 112 2 L]) (env':=[(0,.ms 0 n 0 n),(1,I a),(2,I b),(3,I p),(4,ax)]) ?_ (by rw[ab]) η;clear γ Ι
 repeat apply ad
 refine dF (υ ο (υ J (υ U (υ μ (υ Θ (υ av (υ aD aH))))))) ?_;refine W.to (σ':=[.cells 112 2 ((Go.Sort.swp d a p).toList.map aF)]) (env':=[(0,.ms 0 n 0 n),(1,I a),(2,I b),(3,I p),(4,ax)]) ?_ (by rw[cq]) η;clear aD aH J U μ Θ av cq ο ab L x y eC;obtain⟨e,he⟩:=aK (Go.Sort.swp d a p);have cp:e.size=n:=by rw[he];exact swp_size Ζ a p
 rw[<-he]
 repeat apply ad
 refine nG (υ h2 g0) ?_;refine W.to (σ':=[.cells 112 2 ((e).toList.map aF)]) (env':=[(0,.ms 0 n 0 n),(1,I a),(4,ax),(11,I (a+1:Nat)),(12,I (b-1:Nat))]) ?_ rfl η;obtain⟨al,fp⟩:=bZ (Go.Sort.partEqLoop (aC cmp) a (a+1) (b-1) e)
 repeat apply ad
 refine W.j9 [(11,I al.1)] [.cells 112 2 ((al.2).toList.map aF)] ?_ ?_
 ·refine W.iter (λq:Nat×Nat×Array (Int×Int)=>q.2.2.size=n/\a<q.1/\q.1<=q.2.1+1/\q.2.1<b/\Go.Sort.partEqLoop (aC cmp) a q.1 q.2.1 q.2.2=al) (λq=>[(0,.ms 0 n 0 n),(1,I a),(4,ax),(11,I (q.1:Nat)),(12,I (q.2.1:Nat))]) (λq=>[.cells 112 2 ((q.2.2).toList.map aF)]) (λq=>q.2.1+1-q.1) (a+1,b-1,e) ⟨cp,by(try simp only);omega,by(try simp only);omega,by(try simp only);omega,fp⟩ rfl η (λq hi Β=>?_);obtain⟨i,j,f⟩:=q;obtain⟨bM,iq,ix,dk,aN⟩:=hi;simp only at bM iq ix dk aN;obtain⟨ah,dO⟩:=bZ (Go.Sort.scanUp (λx=>!aC cmp f[a]! x) f (j) (i));obtain⟨an,cQ⟩:=bZ (Go.Sort.scanDown (λx=>aC cmp f[a]! x) f ah (j));obtain⟨s1,s2,kD,pB,ki⟩:=uQ (λx=>!aC cmp f[a]! x) (λx=>aC cmp f[a]! x) (λx=>η) f R R dO cQ;have cB:Go.Sort.partEqLoop (aC cmp) a i j f=if ah > an then(ah,f) else Go.Sort.partEqLoop (aC cmp) a (ah+1) (an-1) (Go.Sort.swp f ah an):=by
   rw[Go.Sort.partEqLoop_eq];simp only[dO,cQ]
  refine W.to (σ':=[.cells 112 2 ((f).toList.map aF)]) (env':=[(0,.ms 0 n 0 n),(1,I a),(4,ax),(11,I (i:Nat)),(12,I (j:Nat))]) ?_ rfl η;refine W.block ?_
  repeat apply ad
  refine W.j9 [(0,.ms 0 n 0 n),(1,I a),(4,ax),(11,I (ah:Nat)),(12,I (j:Nat))] [.cells 112 2 ((f).toList.map aF)] ?_ ?_
  ·refine W.iter (λi:Nat=>(i)<=i/\i<=(j)+1/\Go.Sort.scanUp (λx=>!aC cmp f[a]! x) f (j) i=ah) (λi=>[(0,.ms 0 n 0 n),(1,I a),(4,ax),(11,I (i:Nat)),(12,I (j:Nat))]) (λ_=>[.cells 112 2 ((f).toList.map aF)]) (λi=>(j)+1-i) ((i)) ⟨Nat.le_refl _,R,dO⟩ rfl η (λi hi Β=>?_);obtain⟨iq,ix,dk⟩:=hi;by_cases δ:i<=(j)
   ·have aD:i<n:=by omega
    have aH:a<n:=R;obtain⟨L,x,y,ab,γ,Ι,ο,⟨J,U⟩,⟨μ,Θ⟩,-,-⟩:=eB aF bM aD aH;have un:Go.Sort.scanUp (λx=>!aC cmp f[a]! x) f (j) i=if(!aC cmp y x)=true then Go.Sort.scanUp (λx=>!aC cmp f[a]! x) f (j) (i+1) else i:=by rw[Go.Sort.scanUp];simp[δ,γ,Ι]
    have hw:=gR (i:=i) R;refine W.to (σ':=[.cells 112 2 L]) (env':=[(0,.ms 0 n 0 n),(1,I a),(4,ax),(11,I (i:Nat)),(12,I (j:Nat))]) ?_ (by rw[ab]) η;clear γ Ι
    repeat apply ad
    refine W.draw (A:=[]) Ρ mixed λΕ ζ=>gq (υ δ (υ ο (υ J (υ U (υ μ (υ Θ (υ aD aH))))))) ?_;refine eA (Υ y x) ?_;simp;(repeat (rw[c7];simp[]));try rw[c6]
    refine er (ζ _ _ ?_);by_cases hm:cmp y x<0
    ·refine aa (by simp[hm]) ?_;refine W.exit rfl ?_;exact W.stop ⟨rfl,by rw[ab],by rw[<-dk,un];simp[hm,aC]⟩
    ·refine ai (by simp[hm]) ?_;refine aB hw ?_;exact W.to (Β (i+1) ⟨R,R,by rw[<-dk,un];simp[hm,aC]⟩ (by(try simp only);omega)) (by rw[ab]) (by simp[hw])
   ·repeat apply ad
    refine dF δ ?_;refine aa rfl ?_;refine W.exit rfl ?_;have e:Go.Sort.scanUp (λx=>!aC cmp f[a]! x) f (j) i=i:=by rw[Go.Sort.scanUp];simp[δ]
    exact W.stop ⟨rfl,rfl,by rw[<-dk,e];simp⟩
  repeat apply ad
  refine W.j9 [(0,.ms 0 n 0 n),(1,I a),(4,ax),(11,I (ah:Nat)),(12,I (an:Nat))] [.cells 112 2 ((f).toList.map aF)] ?_ ?_
  ·refine W.iter (λi:Nat=>i<=(j)/\ah<=i+1/\Go.Sort.scanDown (λx=>aC cmp f[a]! x) f ah i=an) (λi=>[(0,.ms 0 n 0 n),(1,I a),(4,ax),(11,I (ah:Nat)),(12,I (i:Nat))]) (λ_=>[.cells 112 2 ((f).toList.map aF)]) (λi=>i+1-ah) ((j)) ⟨Nat.le_refl _,R,cQ⟩ rfl η (λi hi Β=>?_);obtain⟨iq,ix,dk⟩:=hi;by_cases δ:ah<=i
   ·have aD:i<n:=by omega
    have aH:a<n:=R;obtain⟨L,x,y,ab,γ,Ι,ο,⟨J,U⟩,⟨μ,Θ⟩,-,-⟩:=eB aF bM aD aH;obtain⟨q,Φ⟩:∃q,i=q+1:=⟨i-1,R⟩;have un:Go.Sort.scanDown (λx=>aC cmp f[a]! x) f ah i=if(aC cmp y x)=true then Go.Sort.scanDown (λx=>aC cmp f[a]! x) f ah (i-1) else i:=by subst Φ;rw[Go.Sort.scanDown];simp[δ,γ,Ι]
    have hw:=hP (i:=i) R R;refine W.to (σ':=[.cells 112 2 L]) (env':=[(0,.ms 0 n 0 n),(1,I a),(4,ax),(11,I (ah:Nat)),(12,I (i:Nat))]) ?_ (by rw[ab]) η;clear γ Ι
    repeat apply ad
    refine W.draw (A:=[]) Ρ mixed λΕ ζ=>gq (υ δ (υ ο (υ J (υ U (υ μ (υ Θ (υ aD aH))))))) ?_;refine eA (Υ y x) ?_;simp;(repeat (rw[c7];simp[]));try rw[c6]
    refine er (ζ _ _ ?_);by_cases hm:cmp y x<0
    ·refine ai (by simp[hm]) ?_;refine aB hw ?_;exact W.to (Β (i-1) ⟨R,R,by rw[<-dk,un];simp[hm,aC]⟩ (by(try simp only);omega)) (by rw[ab]) (by simp[hw])
    ·refine aa (by simp[hm]) ?_;refine W.exit rfl ?_;exact W.stop ⟨rfl,by rw[ab],by rw[<-dk,un];simp[hm,aC]⟩
   ·repeat apply ad
    refine dF δ ?_;refine aa rfl ?_;refine W.exit rfl ?_;have e:Go.Sort.scanDown (λx=>aC cmp f[a]! x) f ah i=i:=by exact yE _ _ R
    exact W.stop ⟨rfl,rfl,by rw[<-dk,e];simp⟩
  repeat apply ad
  by_cases δ:ah > an
  ·have aX:((an:Nat):Int)<(ah:Nat):=by omega
   refine aB aX ?_;refine ai (by simp[δ]) ?_;refine W.exit rfl ?_;rw[cB,if_pos δ] at aN;exact W.stop ⟨rfl,by rw[<-aN],by rw[<-aN];simp⟩
  ·have aX:¬((an:Nat):Int)<(ah:Nat):=by omega
   have u3:=ki R
   have gF:=gR (i:=ah) R
   have jl:=hP (i:=an) R R;refine aB aX ?_;refine aa (by simp[δ]) ?_;have aD:ah<n:=R;have aH:an<n:=R;obtain⟨L,x,y,ab,γ,Ι,ο,⟨J,U⟩,⟨μ,Θ⟩,cq,eC,av⟩:=eB aF bM aD aH;refine W.to (σ':=[.cells 112 2 L]) (env':=[(0,.ms 0 n 0 n),(1,I a),(4,ax),(11,I (ah:Nat)),(12,I (an:Nat))]) ?_ (by rw[ab]) η;clear γ Ι
   repeat apply ad
   refine dF (υ ο (υ J (υ U (υ μ (υ Θ (υ av (υ aD aH))))))) ?_;refine W.to (σ':=[.cells 112 2 ((Go.Sort.swp f ah an).toList.map aF)]) (env':=[(0,.ms 0 n 0 n),(1,I a),(4,ax),(11,I (ah:Nat)),(12,I (an:Nat))]) ?_ (by rw[cq]) η;clear aD aH J U μ Θ av cq ο ab L x y eC;refine aB (υ gF jl) ?_;exact W.to (Β (ah+1,an-1,Go.Sort.swp f ah an) ⟨swp_size bM ah an,by(try simp only);omega,by(try simp only);omega,by(try simp only);omega,by simp;rw[<-aN,cB,if_neg δ]⟩ (by(try simp only);omega)) rfl (by simp[gF,jl])
 refine Η ?_;have cB:Go.Sort.partitionEqual (aC cmp) d a b p=al:=by unfold Go.Sort.partitionEqual;rw[<-he,fp]
 exact W.ret ⟨_,rfl,by rw[cB];rfl,by rw[cB]⟩
theorem Qy (d:Array (Int×Int)) (n lo hi first:Nat) (Ζ:d.size=n) (ν:n<2 ^ 40) (dπ:first+hi<=n) (iJ:lo<=n) (ax:θ) (cmp:Int×Int->Int×Int->Int) (b1:aG 0 ax) (Υ:∀x y,gp Tryz.prog ax [aF x,aF y] (I (cmp x y))) :
  ae Tryz.prog 254 [.ms 0 n 0 n,I lo,I hi,I first,ax] [.cells 112 2 ((d).toList.map aF)] (λr s=>r=.bj []/\s=[.cells 112 2 ((Go.Sort.siftDown (aC cmp) hi first lo d).toList.map aF)]) (λ_ _=>False):=by
 refine ae.body Ρ Tryz.func254 rfl rfl Tryz.ntmps254 rfl rfl η ?_;refine Η ?_;obtain⟨al,fp⟩:=bZ (Go.Sort.siftDown (aC cmp) hi first lo d);rw[fp];refine W.iter (λq:Nat×Array (Int×Int)=>q.2.size=n/\q.1<=n/\Go.Sort.siftDown (aC cmp) hi first q.1 q.2=al) (λq=>[(0,.ms 0 n 0 n),(2,I hi),(3,I first),(4,ax),(10,I (q.1:Nat))]) (λq=>[.cells 112 2 ((q.2).toList.map aF)]) (λq=>hi-q.1) (lo,d) ⟨Ζ,iJ,fp⟩ rfl η (λq Φ Β=>?_);obtain⟨r,e⟩:=q;obtain⟨cp,ι,aN⟩:=Φ;simp only at cp ι aN;obtain⟨c,δ⟩:=aK (2*r+1);obtain⟨c1,kK⟩:=aK (c+1);obtain⟨aA,lT⟩:=aK (first+r);obtain⟨wL,wM⟩:=aK (first+c);obtain⟨fd,uE⟩:=aK (first+(c+1));have w1:IntKind.i64.wrap (2*(r:Int))=2*(r:Int):=by rw[IntWalk.i64_in _ R]
 have w2:IntKind.i64.wrap (2*(r:Int)+1)=(c:Int):=by rw[IntWalk.i64_in _ R];omega
 have w3:IntKind.i64.wrap ((c:Int)+1)=(c1:Int):=by rw[IntWalk.i64_in _ R];omega
 have w4:IntKind.i64.wrap ((first:Int)+(c:Int))=(wL:Int):=by rw[IntWalk.i64_in _ R];omega
 have j':IntKind.i64.wrap ((wL:Int)+1)=(fd:Int):=by rw[IntWalk.i64_in _ R];omega
 have h3:IntKind.i64.wrap ((first:Int)+(r:Int))=(aA:Int):=by rw[IntWalk.i64_in _ R];omega
 refine W.to (σ':=[.cells 112 2 ((e).toList.map aF)]) (env':=[(0,.ms 0 n 0 n),(2,I hi),(3,I first),(4,ax),(10,I (r:Nat))]) ?_ rfl η;refine aB (υ w1 w2) ?_;by_cases Bl:hi<=c
 ·refine ai (by simp[Bl]) ?_;refine W.exit rfl ?_;exact W.nil ⟨_,rfl,rfl,by rw[<-aN,Go.Sort.siftDown,dif_pos R]⟩
 refine aa (by simp[Bl]) ?_;obtain⟨B,dU⟩:=aK ((decide (c+1<hi)&&aC cmp e[first+c]! e[first+(c+1)]!):Bool);obtain⟨k,ς⟩:∃k,k=if B=true then c+1 else c:=⟨_,rfl⟩
 have dρ:k<hi:=by
  rw[ς];split
  ·rename_i h;rw[h] at dU;have:=dU.symm;simp at this;omega
  ·omega
 have un:=Qq (aC cmp) hi first r e (k:=k) δ R (by rw[<-dU];exact ς)
 rw[un] at aN
 repeat apply ad
 refine W.xO (A:=[]) Ρ mixed [(40,a6 B),(0,.ms 0 n 0 n),(2,I hi),(3,I first),(4,ax),(10,I r),(11,I c)] ?_ (by
  by_cases k0:c1<hi
  ·have aD:wL<n:=by omega
   have aH:fd<n:=R;obtain⟨L,x,y,ab,γ,Ι,ο,⟨J,U⟩,⟨μ,Θ⟩,-,-⟩:=eB aF cp aD aH;have wN:B=aC cmp x y:=by rw[dU,<-γ,<-Ι,wM,uE];simp[<-kK,k0]
   have JG:(c1:Int)<hi:=R;rw[ab];clear γ Ι;simp;(repeat (rw[c7];simp[w3,w4,j',k0,JG,ο,J,U,μ,Θ,aD,aH]));(try rw[c6]);refine eA (Υ x y) ?_;simp;(repeat (rw[c7];simp[]));(try rw[c6]);refine⟨iN (by kernel_rfl),?_⟩;simp[wN,aC]
  ·have wN:B=false:=by rw[dU];simp[<-kK,k0]
   simp;(repeat (rw[c7];simp[w3,k0]));(try rw[c6]);refine⟨iN (by kernel_rfl),?_⟩;simp[wN])
 have dς:r<k:=by rw[ς];split<;>omega
 repeat apply ad
 refine W.upto [(0,.ms 0 n 0 n),(2,I hi),(3,I first),(4,ax),(10,I (r:Nat)),(11,I (k:Nat))] [.cells 112 2 ((e).toList.map aF)] ?_ ?_
 ·cases B with
  | true=>
   refine ai rfl ?_;refine nG w3 ?_;exact W.stop ⟨rfl,rfl,by simp[ς,kK]⟩
  | false=>
   refine aa rfl ?_;refine W.skip ?_;exact W.stop ⟨rfl,rfl,by simp[ς]⟩
 obtain⟨fk,JH⟩:=aK (first+k);rw[<-lT,<-JH] at aN;have h4:IntKind.i64.wrap ((first:Int)+(k:Int))=(fk:Int):=by rw[IntWalk.i64_in _ R];omega
 have aD:aA<n:=R
 have aH:fk<n:=R;obtain⟨L,x,y,ab,γ,Ι,ο,⟨J,U⟩,⟨μ,Θ⟩,cq,eC,av⟩:=eB aF cp aD aH;rw[γ,Ι] at aN;refine W.to (σ':=[.cells 112 2 L]) (env':=[(0,.ms 0 n 0 n),(2,I hi),(3,I first),(4,ax),(10,I (r:Nat)),(11,I (k:Nat))]) ?_ (by rw[ab]) η;clear γ Ι
 repeat apply ad
 refine W.draw (A:=[]) Ρ mixed λΕ ζ=>gq (υ h3 (υ h4 (υ ο (υ J (υ U (υ μ (υ Θ (υ aD aH)))))))) ?_;refine eA (Υ x y) ?_;simp;(repeat (rw[c7];simp[]));try rw[c6]
 refine er (ζ _ _ ?_);by_cases hm:cmp x y<0
 ·refine aa (by simp[hm]) ?_
  repeat apply ad
  refine dF (υ h3 (υ h4 (υ ο (υ J (υ U (υ μ (υ Θ (υ av (υ aD aH))))))))) ?_;refine Η ?_;refine W.to (Β (k,Go.Sort.swp e aA fk) ⟨swp_size cp aA fk,by(try simp only);omega,?_⟩ (by(try simp only);omega)) (by rw[cq]) η;rw[<-aN];simp[hm,aC]
 ·refine ai (by simp[hm]) ?_;refine Η ?_;exact W.ret ⟨_,rfl,rfl,by rw[<-ab,<-aN];simp[hm,aC]⟩
theorem dτ (d:Array (Int×Int)) (n a b:Nat) (Ζ:d.size=n) (ν:n<2 ^ 40) (eN:a<b) (hb:b<=n) (ax:θ) (cmp:Int×Int->Int×Int->Int) (b1:aG 0 ax) (Υ:∀x y,gp Tryz.prog ax [aF x,aF y] (I (cmp x y))) :
  ae Tryz.prog 235 [.ms 0 n 0 n,I a,I b,ax] [.cells 112 2 ((d).toList.map aF)] (λr s=>r=.bj []/\s=[.cells 112 2 ((Go.Sort.heapSort (aC cmp) d a b).toList.map aF)]) (λ_ _=>False):=by
 refine ae.body Ρ Tryz.func235 rfl rfl Tryz.ntmps235 rfl rfl η ?_;obtain⟨m,hm⟩:=bZ (b-a);have w1:IntKind.i64.wrap ((b:Int)-(a:Int))=(m:Int):=by rw[IntWalk.i64_in _ R];omega
 have w2:IntKind.i64.wrap ((m:Int)-1)=((m-1:Nat):Int):=hP R R
 have w3:IntKind.i64.wrap (((m-1:Nat):Int) / 2)=(((m-1) / 2:Nat):Int):=uR (m:=2) R;obtain⟨dS,hn⟩:=aK (m-1);obtain⟨dx,iR⟩:=aK ((m-1) / 2);rw[<-iR,<-hn] at w3;rw[<-hn] at w2;have wp:∀k:Nat,k<=n->IntKind.i64.wrap ((k:Int)-1)=(k:Int)-1:=λk ς=>by rw[IntWalk.i64_in _ R]
 obtain⟨h5,qx⟩:=bZ (Go.Sort.heapBuild (aC cmp) m a (dx+1) d);have cB:Go.Sort.heapSort (aC cmp) d a b=Go.Sort.heapPop (aC cmp) a m h5:=by unfold Go.Sort.heapSort;rw[hm,<-iR,qx]
 refine aB (υ w1 (υ w2 w3)) ?_;refine W.j9 [(0,.ms 0 n 0 n),(3,ax),(8,I a),(9,I 0),(10,I m)] [.cells 112 2 ((h5).toList.map aF)] ?_ ?_
 ·refine W.iter (λq:Nat×Array (Int×Int)=>q.2.size=n/\q.1<=dx+1/\Go.Sort.heapBuild (aC cmp) m a q.1 q.2=h5) (λq=>[(0,.ms 0 n 0 n),(3,ax),(8,I a),(9,I 0),(10,I m),(11,.z (.int .i64 ((q.1:Int)-1)))]) (λq=>[.cells 112 2 ((q.2).toList.map aF)]) (λq=>q.1) (dx+1,d) ⟨Ζ,Nat.le_refl _,qx⟩ rfl η (λq Φ Β=>?_);obtain⟨k,e⟩:=q;obtain⟨cp,ς,aN⟩:=Φ;simp only at cp ς aN;cases k with
  | zero=>
   refine Η ?_;refine aa rfl ?_;refine W.exit rfl ?_;exact W.stop ⟨rfl,by rw[<-aN];rfl,η⟩
  | succ k=>
   have jK:(0:Int)<=(k:Int):=R;refine W.to (σ':=[.cells 112 2 ((e).toList.map aF)]) (env':=[(0,.ms 0 n 0 n),(3,ax),(8,I a),(9,I 0),(10,I m),(11,.z (.int .i64 ((k:Int))))]) ?_ rfl η;refine aB jK ?_;refine ai η ?_;refine bl λΕ ζ=>?_;refine ae.call (first:=[]) (captured:=[]) ((Qy e n k m a cp ν R R ax cmp b1 Υ).mono (λr s ⟨b3,bX⟩=>?_) (λ_ _ h=>h.elim));subst b3;subst bX;simp;(repeat (rw[Ο];simp[]));apply ζ;refine aB (wp k R) ?_;exact W.to (Β (k,Go.Sort.siftDown (aC cmp) m a k e) ⟨Bi cp,by(try simp only);omega,aN⟩ η) rfl (by simp[wp k R])
 obtain⟨gG,na⟩:=bZ (Go.Sort.heapPop (aC cmp) a m h5);have JI:h5.size=n:=by rw[<-qx];exact Jw Ζ
 rw[na] at cB;refine aB w2 ?_;refine W.iter (λq:Nat×Array (Int×Int)=>q.2.size=n/\q.1<=m/\Go.Sort.heapPop (aC cmp) a q.1 q.2=gG) (λq=>[(0,.ms 0 n 0 n),(3,ax),(8,I a),(9,I 0),(10,I m),(12,.z (.int .i64 ((q.1:Int)-1)))]) (λq=>[.cells 112 2 ((q.2).toList.map aF)]) (λq=>q.1) (m,h5) ⟨JI,Nat.le_refl _,na⟩ rfl (by simp[hn];omega) (λq Φ Β=>?_);obtain⟨k,e⟩:=q;obtain⟨cp,ς,aN⟩:=Φ;simp only at cp ς aN;cases k with
 | zero=>
  refine Η ?_;refine aa rfl ?_;refine W.exit rfl ?_;exact W.nil ⟨_,rfl,rfl,by rw[cB,<-aN];rfl⟩
 | succ k=>
  have jK:(0:Int)<=(k:Int):=R;obtain⟨ku,JJ⟩:=aK (a+k);have h4:IntKind.i64.wrap ((a:Int)+(k:Int))=(ku:Int):=by rw[IntWalk.i64_in _ R];omega
  refine W.to (σ':=[.cells 112 2 ((e).toList.map aF)]) (env':=[(0,.ms 0 n 0 n),(3,ax),(8,I a),(9,I 0),(10,I m),(12,.z (.int .i64 ((k:Int))))]) ?_ rfl η;refine aB jK ?_;refine ai η ?_;have aD:a<n:=R;have aH:ku<n:=R;obtain⟨L,x,y,ab,γ,Ι,ο,⟨J,U⟩,⟨μ,Θ⟩,cq,eC,av⟩:=eB aF cp aD aH;refine W.to (σ':=[.cells 112 2 L]) (env':=[(0,.ms 0 n 0 n),(3,ax),(8,I a),(9,I 0),(10,I m),(12,.z (.int .i64 ((k:Int))))]) ?_ (by rw[ab]) η;clear γ Ι
  repeat apply ad
  refine dF (υ ο (υ J (υ U (υ μ (υ Θ (υ av (υ aD (υ aH h4)))))))) ?_;refine W.to (σ':=[.cells 112 2 ((Go.Sort.swp e a ku).toList.map aF)]) (env':=[(0,.ms 0 n 0 n),(3,ax),(8,I a),(9,I 0),(10,I m),(12,.z (.int .i64 ((k:Int))))]) ?_ (by rw[cq]) η;clear aD aH J U μ Θ av cq ο ab L x y eC;refine bl λΕ ζ=>?_;refine ae.call (first:=[]) (captured:=[]) ((Qy (Go.Sort.swp e a ku) n 0 k a (swp_size cp a ku) ν R R ax cmp b1 Υ).mono (λr s ⟨b3,bX⟩=>?_) (λ_ _ h=>h.elim));subst b3;subst bX;simp;(repeat (rw[Ο];simp[]));apply ζ;refine aB (wp k R) ?_;exact W.to (Β (k,Go.Sort.siftDown (aC cmp) k a 0 (Go.Sort.swp e a ku)) ⟨Bi (swp_size cp a ku),by(try simp only);omega,by rw[JJ];exact aN⟩ η) rfl (by simp[wp k R])
theorem dυ (d:Array (Int×Int)) (n a b:Nat) (Ζ:d.size=n) (ν:n<2 ^ 40) (eN:a<b) (hb:b<=n) (ax:θ) (cmp:Int×Int->Int×Int->Int) (b1:aG 0 ax) (Υ:∀x y,gp Tryz.prog ax [aF x,aF y] (I (cmp x y))) :
  ae Tryz.prog 238 [.ms 0 n 0 n,I a,I b,ax] [.cells 112 2 ((d).toList.map aF)] (λr s=>r=.bj []/\s=[.cells 112 2 ((Go.Sort.reverseRange d a b).toList.map aF)]) (λ_ _=>False):=by
 refine ae.body Ρ Tryz.func238 rfl rfl Tryz.ntmps238 rfl rfl η ?_;have w1:=hP (i:=b) R R;refine aB w1 ?_;refine W.iter (λq:Nat×Nat×Array (Int×Int)=>q.2.2.size=n/\q.1<n/\q.2.1<n/\Go.Sort.reverseLoop q.1 q.2.1 q.2.2=Go.Sort.reverseRange d a b) (λq=>[(0,.ms 0 n 0 n),(8,I (q.1:Nat)),(9,I (q.2.1:Nat))]) (λq=>[.cells 112 2 ((q.2.2).toList.map aF)]) (λq=>q.2.1-q.1) (a,b-1,d) ⟨Ζ,by(try simp only);omega,by(try simp only);omega,rfl⟩ rfl (by simp[w1]) (λq Φ Β=>?_);obtain⟨i,j,e⟩:=q;obtain⟨cp,hi,ε,aN⟩:=Φ;simp only at cp hi ε aN;rw[Go.Sort.reverseLoop] at aN;refine W.to (σ':=[.cells 112 2 ((e).toList.map aF)]) (env':=[(0,.ms 0 n 0 n),(8,I (i:Nat)),(9,I (j:Nat))]) ?_ rfl η;refine Η ?_;by_cases δ:i<j
 ·refine ai (by simp[δ]) ?_;rw[if_pos δ] at aN;have w2:=gR (i:=i) R;have w3:=hP (i:=j) R R;have aD:i<n:=R;have aH:j<n:=R;obtain⟨L,x,y,ab,γ,Ι,ο,⟨J,U⟩,⟨μ,Θ⟩,cq,eC,av⟩:=eB aF cp aD aH;refine W.to (σ':=[.cells 112 2 L]) (env':=[(0,.ms 0 n 0 n),(8,I (i:Nat)),(9,I (j:Nat))]) ?_ (by rw[ab]) η;clear γ Ι
  repeat apply ad
  refine dF (υ ο (υ J (υ U (υ μ (υ Θ (υ av (υ aD aH))))))) ?_;refine W.to (σ':=[.cells 112 2 ((Go.Sort.swp e i j).toList.map aF)]) (env':=[(0,.ms 0 n 0 n),(8,I (i:Nat)),(9,I (j:Nat))]) ?_ (by rw[cq]) η;clear aD aH J U μ Θ av cq ο ab L x y eC;refine aB (υ w2 w3) ?_;exact W.to (Β (i+1,j-1,Go.Sort.swp e i j) ⟨swp_size cp i j,by(try simp only);omega,by(try simp only);omega,aN⟩ (by(try simp only);omega)) rfl (by simp[w2,w3])
 ·refine aa (by simp[δ]) ?_;refine W.exit rfl ?_;rw[if_neg δ] at aN;exact W.nil ⟨_,rfl,rfl,by rw[aN]⟩
theorem JK (d:Array (Int×Int)) (n a b s:Nat) (Ζ:d.size=n) (κ:a<n) (hb:b<n) (ν:s<2 ^ 40) (ax:θ) (cmp:Int×Int->Int×Int->Int) (b1:aG 0 ax) (Υ:∀x y,gp Tryz.prog ax [aF x,aF y] (I (cmp x y))) :
  ae Tryz.prog 258 [.ms 0 n 0 n,I a,I b,.ar 1 1 0 0,ax] [.cells 112 2 (d.toList.map aF),.cells 3 1 [I s]] (λr σ=>r=.bj [I (Go.Sort.order2 (aC cmp) d a b s).1,I (Go.Sort.order2 (aC cmp) d a b s).2.1]/\σ=[.cells 112 2 (d.toList.map aF),.cells 3 1 [I (Go.Sort.order2 (aC cmp) d a b s).2.2]]) (λ_ _=>False):=by
 refine ae.body Ρ Tryz.func258 rfl rfl Tryz.ntmps258 rfl rfl η ?_;obtain⟨L,ab⟩:=aK (d.toList.map aF);have jh:L.length=n:=by rw[ab];simpa using Ζ
 obtain⟨x,γ⟩:=aK (d[a]!);obtain⟨y,Ι⟩:=aK (d[b]!);have yF:L[a]?=some (aF x):=by rw[ab,γ,List.getElem?_map,Array.getElem?_toList,p9 R];rfl
 have pb:L[b]?=some (aF y):=by rw[ab,Ι,List.getElem?_map,Array.getElem?_toList,p9 R];rfl
 have JL:∀h:a<L.length,L[a]=aF x:=λh=>by have:=yF;rw[bg h] at this;exact Option.some.inj this
 have JM:∀h:b<L.length,L[b]=aF y:=λh=>by have:=pb;rw[bg h] at this;exact Option.some.inj this
 have hw:IntKind.i64.wrap ((s:Int)+1)=((s+1:Nat):Int):=by rw[IntWalk.i64_in _ R];omega
 have ω:Go.Sort.order2 (aC cmp) d a b s=if aC cmp y x=true then(b,a,s+1) else(a,b,s):=by unfold Go.Sort.order2;rw[<-γ,<-Ι]
 rw[ω,<-ab];clear ab γ Ι ω;refine Η ?_;refine W.draw (A:=[]) Ρ mixed λΕ ζ=>gq (υ jh (υ yF (υ pb (υ JL JM)))) ?_;refine⟨hb,κ,?_⟩;refine eA (Υ y x) ?_;simp;(repeat (rw[c7];simp[]));try rw[c6]
 refine er (ζ _ _ ?_);by_cases hm:cmp y x<0
 ·refine ai (by simp[hm]) ?_;refine aB hw ?_;exact W.ret ⟨_,rfl,by simp[aC,Go.Sort.ltInt,hm],by simp[aC,Go.Sort.ltInt,hm]⟩
 ·refine aa (by simp[hm]) ?_;refine aB hw ?_;exact W.ret ⟨_,rfl,by simp[aC,Go.Sort.ltInt,hm],by simp[aC,Go.Sort.ltInt,hm]⟩
theorem dφ (d:Array (Int×Int)) (n a b c s:Nat) (Ζ:d.size=n) (κ:a<n) (hb:b<n) (δ:c<n) (ν:s<2 ^ 39) (ax:θ) (cmp:Int×Int->Int×Int->Int) (b1:aG 0 ax) (Υ:∀x y,gp Tryz.prog ax [aF x,aF y] (I (cmp x y))) :
  ae Tryz.prog 256 [.ms 0 n 0 n,I a,I b,I c,.ar 1 1 0 0,ax] [.cells 112 2 ((d).toList.map aF),.cells 3 1 [I (s:Nat)]] (λr σ=>r=I (Go.Sort.median (aC cmp) d a b c s).1/\σ=[.cells 112 2 ((d).toList.map aF),.cells 3 1 [I ((Go.Sort.median (aC cmp) d a b c s).2:Nat)]]) (λ_ _=>False):=by
 refine ae.body Ρ Tryz.func256 rfl rfl Tryz.ntmps256 rfl rfl η ?_;obtain⟨r1,Δ⟩:=bZ (Go.Sort.order2 (aC cmp) d a b s);have f1:=s9 (aC cmp) d (a:=a) (b:=b) (n:=n) R R s;have c1:=JK d n a b s Ζ R R R ax cmp b1 Υ;rw[Δ] at f1 c1;obtain⟨a1,bw,s1⟩:=r1;simp only at f1 c1;obtain⟨r2,Γ⟩:=bZ (Go.Sort.order2 (aC cmp) d bw c s1);have f2:=s9 (aC cmp) d (a:=bw) (b:=c) (n:=n) R R s1;have c2:=JK d n bw c s1 Ζ R R R ax cmp b1 Υ;rw[Γ] at f2 c2;obtain⟨bd,dm,s2⟩:=r2;simp only at f2 c2;obtain⟨r3,a2⟩:=bZ (Go.Sort.order2 (aC cmp) d a1 bd s2);have f3:=s9 (aC cmp) d (a:=a1) (b:=bd) (n:=n) R R s2;have c3:=JK d n a1 bd s2 Ζ R R R ax cmp b1 Υ;rw[a2] at f3 c3;obtain⟨cI,fJ,kD⟩:=r3;simp only at f3 c3;have hm:Go.Sort.median (aC cmp) d a b c s=(fJ,kD):=by unfold Go.Sort.median;simp only[Δ,Γ,a2]
 rw[hm]
 repeat apply ad
 refine mQ ?_;refine bl λΕ ζ=>?_;refine ae.call (first:=[]) (captured:=[]) ((c1).mono (λr s ⟨b3,bX⟩=>?_) (λ_ _ h=>h.elim));subst b3;subst bX;simp;(repeat (rw[Ο];simp[]));apply ζ;refine bl λΕ ζ=>?_;refine ae.call (first:=[]) (captured:=[]) ((c2).mono (λr s ⟨b3,bX⟩=>?_) (λ_ _ h=>h.elim));subst b3;subst bX;simp;(repeat (rw[Ο];simp[]));apply ζ;refine bl λΕ ζ=>?_;refine ae.call (first:=[]) (captured:=[]) ((c3).mono (λr s ⟨b3,bX⟩=>?_) (λ_ _ h=>h.elim));subst b3;subst bX;simp;(repeat (rw[Ο];simp[]));apply ζ;refine Η ?_;exact W.ret ⟨_,rfl,rfl,rfl⟩
theorem dχ (d:Array (Int×Int)) (n a b:Nat) (Ζ:d.size=n) (ν:n<2 ^ 38) (eN:a+12<b) (ta:b<a+50) (hb:b<=n) (ax:θ) (cmp:Int×Int->Int×Int->Int) (b1:aG 0 ax) (Υ:∀x y,gp Tryz.prog ax [aF x,aF y] (I (cmp x y))) :
  ae Tryz.prog 237 [.ms 0 n 0 n,I a,I b,ax] [.cells 112 2 ((d).toList.map aF)] (λr s=>r=.bj [I (Go.Sort.choosePivot (aC cmp) d a b).1,I (pv (Go.Sort.choosePivot (aC cmp) d a b).2)]/\s=[.cells 112 2 ((d).toList.map aF)]) (λ_ _=>False):=by
 refine ae.body Ρ Tryz.func237 rfl rfl Tryz.ntmps237 rfl rfl η ?_;obtain⟨l,ο⟩:=aK (b-a);obtain⟨q,Φ⟩:=aK (l / 4);obtain⟨dq,uT⟩:=aK (q*2);obtain⟨ga,Fl⟩:=aK (q*3);obtain⟨i,hi⟩:=aK (a+q);obtain⟨j,ε⟩:=aK (a+dq);obtain⟨k,ς⟩:=aK (a+ga);obtain⟨fW,em⟩:=bZ (Go.Sort.median (aC cmp) d i j k 0);have uU:=dφ d n i j k 0 Ζ R R R R ax cmp b1 Υ;rw[em] at uU;obtain⟨hQ,ks⟩:=fW;simp only at uU;have cB:Go.Sort.choosePivot (aC cmp) d a b=(hQ,if ks=0 then .increasing else if ks=12 then .decreasing else .unknown):=by
  have lO:8<=l:=R
  have dψ:¬50<=l:=R;simp only[Go.Sort.choosePivot,<-ο,<-Φ,Nat.mul_one,<-uT,<-Fl,<-hi,<-ε,<-ς,ge_iff_le,if_pos lO,if_neg dψ,em]
 rw[cB];have ow:(8:Int)<=(l:Int):=R;have dω:¬(50:Int)<=(l:Int):=R;have w1:IntKind.i64.wrap ((b:Int)-(a:Int))=(l:Int):=by rw[IntWalk.i64_in _ R];omega
 have w2:IntKind.i64.wrap ((l:Int) / 4)=(q:Int):=by rw[Φ];exact uR (m:=4) R
 have w3:IntKind.i64.wrap (q:Int)=(q:Int):=IntWalk.i64_in _ R
 have w4:IntKind.i64.wrap ((q:Int)*2)=(dq:Int):=by rw[IntWalk.i64_in _ R];omega
 have j':IntKind.i64.wrap ((q:Int)*3)=(ga:Int):=by rw[IntWalk.i64_in _ R];omega
 have h3:IntKind.i64.wrap ((a:Int)+(q:Int))=(i:Int):=by rw[IntWalk.i64_in _ R];omega
 have h4:IntKind.i64.wrap ((a:Int)+(dq:Int))=(j:Int):=by rw[IntWalk.i64_in _ R];omega
 have kX:IntKind.i64.wrap ((a:Int)+(ga:Int))=(k:Int):=by rw[IntWalk.i64_in _ R];omega
 repeat apply ad
 refine mQ ?_
 repeat apply ad
 refine nG w1 ?_
 repeat apply ad
 refine dM (A:=[11]) Ρ λΕ ζ=>bD ?_;apply ζ;refine aB (υ w2 (υ w3 (υ w4 (υ j' (υ h3 (υ h4 (υ kX @ow))))))) ?_;refine ai η ?_;refine aB @dω ?_;refine aa η ?_;refine bl λΕ ζ=>?_;refine ae.call (first:=[]) (captured:=[]) ((uU).mono (λr s ⟨b3,bX⟩=>?_) (λ_ _ h=>h.elim));subst b3;subst bX;simp;(repeat (rw[Ο];simp[]));apply ζ
 repeat apply ad
 refine mQ ?_;refine W.drop (h:=1) η η (Fj sJ) rfl [(13,I (hQ:Nat)),(55,I (ks:Nat))] η ?_;by_cases aj:ks=0
 ·subst aj;refine Η ?_;refine ai rfl ?_;refine Η ?_;exact W.ret ⟨_,rfl,rfl,rfl⟩
 have JN:¬(ks:Int)=0:=R;refine aB JN ?_;refine aa (by simp[aj]) ?_;by_cases gL:ks=12
 ·subst gL;refine Η ?_;refine ai rfl ?_;refine Η ?_;exact W.ret ⟨_,rfl,rfl,rfl⟩
 have JO:¬(ks:Int)=12:=R;refine aB JO ?_;refine aa (by simp[gL]) ?_;refine Η ?_;exact W.ret ⟨_,rfl,by simp[aj,gL,pv],rfl⟩
theorem Qz (d:Array (Int×Int)) (n a b:Nat) (Ζ:d.size=n) (ν:n<2 ^ 40) (eN:a<b) (ta:b<a+50) (hb:b<=n) (ax:θ) (cmp:Int×Int->Int×Int->Int) (b1:aG 0 ax) (Υ:∀x y,gp Tryz.prog ax [aF x,aF y] (I (cmp x y))) :
  ae Tryz.prog 239 [.ms 0 n 0 n,I a,I b,ax] [.cells 112 2 ((d).toList.map aF)] (λr s=>r=a6 (Go.Sort.partialInsertionSort (aC cmp) d a b).2/\s=[.cells 112 2 (((Go.Sort.partialInsertionSort (aC cmp) d a b).1).toList.map aF)]) (λ_ _=>False):=by
 refine ae.body Ρ Tryz.func239 rfl rfl Tryz.ntmps239 rfl rfl η ?_;obtain⟨ah,dO⟩:=bZ (Go.Sort.scanSorted (aC cmp) d b (a+1));have cB:Go.Sort.partialInsertionSort (aC cmp) d a b=(d,decide (ah=b)):=by
  unfold Go.Sort.partialInsertionSort;rw[Go.Sort.partialIns,dO];by_cases h:ah=b
  ·simp[h]
  ·simp[h];omega
 rw[cB];have w1:=gR (i:=a) R;refine aB w1 ?_;refine .loop ?_;refine Η ?_;refine ai rfl ?_
 repeat apply ad
 refine W.j9 [(0,.ms 0 n 0 n),(1,I a),(2,I b),(3,ax),(9,I (ah:Nat))] [.cells 112 2 ((d).toList.map aF)] ?_ ?_
 ·refine W.iter (λi:Nat=>a+1<=i/\i<=b/\Go.Sort.scanSorted (aC cmp) d b i=ah) (λi=>[(0,.ms 0 n 0 n),(1,I a),(2,I b),(3,ax),(9,I (i:Nat))]) (λ_=>[.cells 112 2 ((d).toList.map aF)]) (λi=>b-i) (a+1) ⟨Nat.le_refl _,R,dO⟩ rfl (by simp[w1]) (λi hi Β=>?_);obtain⟨iq,ix,dk⟩:=hi;by_cases δ:i<b
  ·obtain⟨p,ψ⟩:=aK (i-1);have aD:i<n:=R;have aH:p<n:=R;obtain⟨L,x,y,ab,γ,Ι,ο,⟨J,U⟩,⟨μ,Θ⟩,-,-⟩:=eB aF Ζ aD aH;have un:Go.Sort.scanSorted (aC cmp) d b i=if(!aC cmp x y)=true then Go.Sort.scanSorted (aC cmp) d b (i+1) else i:=by rw[Go.Sort.scanSorted];simp[δ,γ,<-ψ,Ι]
   have hw:=gR (i:=i) R
   have g0:IntKind.i64.wrap ((i:Int)-1)=(p:Int):=by rw[IntWalk.i64_in _ R];omega
   refine W.to (σ':=[.cells 112 2 L]) (env':=[(0,.ms 0 n 0 n),(1,I a),(2,I b),(3,ax),(9,I (i:Nat))]) ?_ (by rw[ab]) η;clear γ Ι
   repeat apply ad
   refine W.draw (A:=[]) Ρ mixed λΕ ζ=>gq (υ δ (υ g0 (υ ο (υ J (υ U (υ μ (υ Θ (υ aD aH)))))))) ?_;refine eA (Υ x y) ?_;simp;(repeat (rw[c7];simp[]));try rw[c6]
   refine er (ζ _ _ ?_);by_cases hm:cmp x y<0
   ·refine aa (by simp[hm]) ?_;refine W.exit rfl ?_;exact W.stop ⟨rfl,by rw[ab],by rw[<-dk,un];simp[hm,aC]⟩
   ·refine ai (by simp[hm]) ?_;refine aB hw ?_;exact W.to (Β (i+1) ⟨R,R,by rw[<-dk,un];simp[hm,aC]⟩ (by(try simp only);omega)) (by rw[ab]) (by simp[hw])
  ·repeat apply ad
   refine dF δ ?_;refine aa rfl ?_;refine W.exit rfl ?_;have e:Go.Sort.scanSorted (aC cmp) d b i=i:=by rw[Go.Sort.scanSorted];simp[δ]
   exact W.stop ⟨rfl,rfl,by rw[<-dk,e];simp⟩
 by_cases tc:ah=b
 ·have g:(ah:Int)=(b:Int):=by omega
  refine aB g ?_;refine ai (by simp[tc]) ?_;refine Η ?_;exact W.ret ⟨_,rfl,by simp[tc],rfl⟩
 ·have g:¬(ah:Int)=(b:Int):=by omega
  have ak:((b-a:Nat):Int)<50:=R
  have w2:=uS (a:=a) (b:=b) R R;refine aB g ?_;refine aa (by simp[tc]) ?_;refine aB (υ w2 ak) ?_;refine ai η ?_;refine Η ?_;exact W.ret ⟨_,rfl,by simp[tc],rfl⟩
theorem QA (l:Nat) (ο:l<256):az Tryz.prog 226 [I l] (jN ((1 <<< Go.Sort.bitsLen l:Nat):Int)):=by
 refine ae.body Ρ Tryz.func226 rfl rfl Tryz.ntmps226 rfl rfl η ?_;have Γ:IntKind.u64.wrap (l:Int)=l:=s' R;(repeat (first|apply ad|(refine bs λΕ ζ=>?_;simp;(repeat (rw[Ο];simp[Γ]));apply ζ)));(repeat apply ad);refine bs λΕ ζ=>?_;simp;(repeat (rw[Ο];simp[Γ]));refine az.d (ua l ο) (bD ?_);apply ζ;refine Η ?_;refine W.ret ⟨_,rfl,.of ?_,rfl⟩;have hb:=(Go.Sort.bitsLen_le_iff l 8).2 ο;have e:=Jy 1 (Go.Sort.bitsLen l) R;have a2:1*2 ^ Go.Sort.bitsLen l % 18446744073709551616=1 <<< Go.Sort.bitsLen l:=by
  rw[Nat.one_mul,Nat.one_shiftLeft,Nat.mod_eq_of_lt (Nat.lt_of_le_of_lt (Nat.pow_le_pow_right R hb) bu)]
 rw[a2] at e;show jN (IntKind.u64.wrap (2 ^ min (Go.Sort.bitsLen l) IntKind.u64.bits))=_;rw[<-e];simp
theorem QB (x:Nat) (γ:x<2 ^ 64):ae Tryz.prog 227 [.ar 0 1 0 0] [.cells 248 1 [jN (x:Int)]] (λr s=>r=jN ((Go.Sort.xorNextN x:Nat):Int)/\s=[.cells 248 1 [jN ((Go.Sort.xorNextN x:Nat):Int)]]) (λ_ _=>False):=by
 refine ae.body Ρ Tryz.func227 rfl rfl Tryz.ntmps227 rfl rfl η ?_;obtain⟨dS,hn⟩:=aK (x*2 ^ 13 % 18446744073709551616);obtain⟨oR,uL⟩:=aK (x^^^dS);obtain⟨dx,iR⟩:=aK (oR / 2 ^ 7);obtain⟨sj,Fo⟩:=aK (oR^^^dx);obtain⟨l9,JP⟩:=aK (sj*2 ^ 17 % 18446744073709551616);obtain⟨GC,JQ⟩:=aK (sj^^^l9);have cB:Go.Sort.xorNextN x=GC:=by rw[JQ,JP,Fo,iR,uL,hn];rfl
 rw[cB];have l1:dS<2 ^ 64:=R;have k1:oR<2 ^ 64:=by rw[uL];exact Nat.xor_lt_two_pow γ l1
 have l2:dx<2 ^ 64:=R
 have cN:sj<2 ^ 64:=by rw[Fo];exact Nat.xor_lt_two_pow k1 l2
 have oD:l9<2 ^ 64:=R
 have a1:=Jy x 13 R;rw[<-hn] at a1;have bd:=Jx γ l1;rw[<-uL] at bd;have cI:=cΨ oR 7 R;rw[<-iR] at cI;have gv:=Jx k1 l2;rw[<-Fo] at gv;have hT:=Jy sj 17 R;rw[<-JP] at hT;have mq:=Jx cN oD;rw[<-JQ] at mq;clear JQ JP Fo iR uL hn l1 k1 l2 cN oD cB;refine Η ?_;refine dF (υ a1 bd) ?_;refine Η ?_;refine dF (υ cI gv) ?_;refine Η ?_;refine dF (υ hT mq) ?_;refine Η ?_;exact W.ret ⟨_,rfl,rfl,rfl⟩
theorem dΑ (d:Array (Int×Int)) (n a b:Nat) (Ζ:d.size=n) (ν:n<2 ^ 40) (eN:a+12<b) (ta:b<a+50) (hb:b<=n) (ax:θ) (cmp:Int×Int->Int×Int->Int) (b1:aG 0 ax) (Υ:∀x y,gp Tryz.prog ax [aF x,aF y] (I (cmp x y))) :
  ae Tryz.prog 236 [.ms 0 n 0 n,I a,I b,ax] [.cells 112 2 ((d).toList.map aF)] (λr s=>r=.bj []/\s=[.cells 112 2 ((Go.Sort.breakPatterns d a b).toList.map aF)]) (λ_ _=>False):=by
 refine ae.body Ρ Tryz.func236 rfl rfl Tryz.ntmps236 rfl rfl η ?_;obtain⟨l,ο⟩:=aK (b-a);obtain⟨q,Φ⟩:=aK (l / 4);obtain⟨dq,uT⟩:=aK (q*2);obtain⟨c,δ⟩:=aK (a+dq);obtain⟨ef,ic⟩:=aK (c-1);obtain⟨c1,kK⟩:=aK (c+1);obtain⟨m,hm⟩:=aK (1 <<< Go.Sort.bitsLen l);have JR:Go.Sort.bitsLen l<=6:=(Go.Sort.bitsLen_le_iff l 6).2 R;have DV:l<m/\m<=64/\m<=2*l:=by
  have J:=Go.Sort.lt_two_pow_bitsLen l
  have U:=Go.Sort.two_pow_bitsLen_le (n:=l) R;rw[hm,Nat.one_shiftLeft];exact⟨J,Nat.le_trans (Nat.pow_le_pow_right R JR) bu,U⟩
 obtain⟨al,fp⟩:=bZ (rV a l m 3 ef (UInt64.ofNat l,d));have cB:Go.Sort.breakPatterns d a b=al.2:=by rw[Qs (c:=c) ο R (by rw[δ,uT,Φ]),<-hm,<-ic,fp]
 rw[cB];have w1:IntKind.i64.wrap ((b:Int)-(a:Int))=(l:Int):=by rw[IntWalk.i64_in _ R];omega
 have w2:IntKind.i64.wrap ((l:Int) / 4)=(q:Int):=by rw[Φ];exact uR (m:=4) R
 have w4:IntKind.i64.wrap ((q:Int)*2)=(dq:Int):=by rw[IntWalk.i64_in _ R];omega
 have h3:IntKind.i64.wrap ((a:Int)+(dq:Int))=(c:Int):=by rw[IntWalk.i64_in _ R];omega
 have h4:IntKind.i64.wrap ((c:Int)-1)=(ef:Int):=by rw[IntWalk.i64_in _ R];omega
 have kX:IntKind.i64.wrap ((c:Int)+1)=(c1:Int):=by rw[IntWalk.i64_in _ R];omega
 have JS:IntKind.u64.wrap (l:Int)=(l:Int):=s' R
 have JU:IntKind.u64.wrap ((m:Int)-1)=((m-1:Nat):Int):=by
  have e:(m:Int)-1=((m-1:Nat):Int):=R;rw[e];exact s' R
 have ow:(8:Int)<=(l:Int):=R
 have cl:(UInt64.ofNat l).toNat=l:=by rw[UInt64.toNat_ofNat'];exact Nat.mod_eq_of_lt R
 refine aB (υ w1 @ow) ?_;refine ai η ?_
 repeat apply ad
 refine dM (A:=[9]) Ρ λΕ ζ=>gW JS ?_;apply ζ;have vH:=QA l R;rw[<-hm] at vH;refine bl λΕ ζ=>?_;refine az.c vH (bF.refl _) η η ?_;simp;(repeat (rw[Ο];simp[]));apply ζ;refine aB (υ w2 (υ w4 (υ h3 h4))) ?_;refine W.iter (λy:Nat×UInt64×Array (Int×Int)=>y.1<=3/\y.2.2.size=n/\rV a l m y.1 (c+2-y.1) y.2=al) (λy=>[(0,.ms 0 n 0 n),(1,I a),(8,I (l:Nat)),(9,.ar 1 1 0 0),(10,jN (m:Nat)),(11,I (c+2-y.1:Nat))]) (λy=>[.cells 112 2 ((y.2.2).toList.map aF),.cells 248 1 [jN ((y.2.1.toNat:Nat):Int)]]) (λy=>y.1) (3,UInt64.ofNat l,d) ⟨Nat.le_refl _,Ζ,by simp only;rw[<-fp,show c+2-3=ef by omega]⟩ (by simp only;rw[cl]) (by simp[ic]) (λy Ι Β=>?_);obtain⟨t,st,e⟩:=y;obtain⟨Ν,cp,aN⟩:=Ι;simp only at Ν cp aN;obtain⟨bC,mH⟩:=aK (c+2-t);obtain⟨x,γ⟩:=aK st.toNat;have q7:x<2 ^ 64:=by rw[γ];exact st.toNat_lt
 rw[<-mH] at aN;refine W.to (σ':=[.cells 112 2 ((e).toList.map aF),.cells 248 1 [jN ((x:Nat):Int)]]) (env':=[(0,.ms 0 n 0 n),(1,I a),(8,I (l:Nat)),(9,.ar 1 1 0 0),(10,jN (m:Nat)),(11,I (bC:Nat))]) ?_ (by rw[γ]) (by simp[mH]);cases t with
 | zero=>
  have g:¬(bC:Int)<=(c1:Int):=R;refine aB (υ w2 (υ w4 (υ h3 (υ kX g)))) ?_;refine aa η ?_;refine W.exit rfl ?_;refine W.drop (h:=1) η η (Fj sJ) rfl [] η ?_;exact W.nil ⟨_,rfl,rfl,by rw[<-aN];rfl⟩
 | succ t=>
  have g:(bC:Int)<=(c1:Int):=R;obtain⟨te,vk⟩:=aK (Go.Sort.xorNext st);obtain⟨ie,kI⟩:=aK te.toNat;have JV:ie=Go.Sort.xorNextN x:=by rw[kI,vk,Go.Sort.xorNext_toNat,γ]
  have JW:ie<2 ^ 64:=by rw[kI];exact te.toNat_lt
  have Bm:=QB x q7;rw[<-JV] at Bm;obtain⟨z,Τ⟩:=aK (ie&&&(m-1));have gu:z<=m-1:=by rw[Τ];exact Nat.and_le_right
  have a3:eY .u64 (ie:Int) ((m-1:Nat):Int)=(z:Int):=by rw[Τ];exact Qt JW R
  have JX:IntKind.i64.wrap (z:Int)=(z:Int):=IntWalk.i64_in _ R;obtain⟨o,ω⟩:=aK (if z>=l then z-l else z);have xC:o<l:=by rw[ω];split<;>omega
  have na:rV a l m t (bC+1) (te,Go.Sort.swp e bC (a+o))=al:=by
   rw[<-aN];show _=rV a l m t (bC+1) (Go.Sort.breakStep a l m (st,e) bC);unfold Go.Sort.breakStep;simp only;rw[<-vk,<-kI,<-Τ,<-ω]
  obtain⟨tf,JY⟩:=aK (a+o);rw[<-JY] at na;refine aB (υ w2 (υ w4 (υ h3 (υ kX g)))) ?_;refine ai η ?_;refine bl λΕ ζ=>?_;refine ae.one Bm 1 rfl (by simp[il]) (by simp[il]) (by simp[fQ,nE]) (by simp[fQ,nE]) rfl ?_;simp[ei,hY];(repeat (rw[Ο];simp[JU,a3,JX]));apply ζ;refine W.to (σ':=[.cells 112 2 ((e).toList.map aF),.cells 248 1 [jN ((ie:Nat):Int)]]) (env':=[(0,.ms 0 n 0 n),(1,I a),(8,I (l:Nat)),(9,.ar 1 1 0 0),(10,jN (m:Nat)),(11,I (bC:Nat)),(12,I (z:Nat))]) ?_ rfl η;refine Η ?_;refine W.upto [(0,.ms 0 n 0 n),(1,I a),(8,I (l:Nat)),(9,.ar 1 1 0 0),(10,jN (m:Nat)),(11,I (bC:Nat)),(12,I (o:Nat))] [.cells 112 2 ((e).toList.map aF),.cells 248 1 [jN ((ie:Nat):Int)]] ?_ ?_
  ·by_cases k':l<=z
   ·have wo:IntKind.i64.wrap ((z:Int)-(l:Int))=(o:Int):=by rw[IntWalk.i64_in _ R,ω,if_pos k'];omega
    refine ai (by simp[k']) ?_;refine aB wo ?_;exact W.stop ⟨rfl,rfl,η⟩
   ·refine aa (by simp[k']) ?_
    repeat apply ad
    exact W.stop ⟨rfl,rfl,by simp[ω,k']⟩
  have JZ:IntKind.i64.wrap ((a:Int)+(o:Int))=(tf:Int):=by rw[IntWalk.i64_in _ R];omega
  have aD:bC<n:=R
  have aH:tf<n:=R;obtain⟨L,x,y,ab,γ,Ι,ο,⟨J,U⟩,⟨μ,Θ⟩,cq,eC,av⟩:=eB aF cp aD aH;rw[ab];clear γ Ι
  repeat apply ad
  refine dF (υ ο (υ J (υ U (υ μ (υ Θ (υ av (υ aD (υ aH JZ)))))))) ?_;have J0:=gR (i:=bC) R;refine aB J0 ?_;refine W.to (Β (t,te,Go.Sort.swp e bC tf) ⟨by(try simp only);omega,swp_size cp bC tf,?_⟩ η) (by rw[cq,kI]) (by simp[show c+2-t=bC+1 by omega]);have Δ:c+2-t=bC+1:=R;simp only;rw[Δ];exact na
theorem dΒ (n:Nat) (ν:n<50) (ax:θ) (cmp:Int×Int->Int×Int->Int) (b1:aG 0 ax) (Υ:∀x y,gp Tryz.prog ax [aF x,aF y] (I (cmp x y))) (fh:Go.Sort.SWO (aC cmp)):∀(k:Nat) (d:Array (Int×Int)) (a b lim:Nat),d.size=n->b-a<=k->a<=b->b<=n->lim<2 ^ 40->Go.Sort.Below (aC cmp) a b d->
  ae Tryz.prog 211 [.ms 0 n 0 n,I a,I b,I lim,ax] [.cells 112 2 ((d).toList.map aF)] (λr s=>r=.bj []/\s=[.cells 112 2 ((Go.Sort.pdq (aC cmp) d a b lim true true).toList.map aF)]) (λ_ _=>False):=by
 intro k
 induction k using Nat.strongRecOn with
 | _ k sd=>
 intro d a b lim Ζ ς eN hb tg dU;refine ae.body Ρ Tryz.func211 rfl rfl Tryz.ntmps211 rfl rfl η ?_;obtain⟨al,fp⟩:=bZ (Go.Sort.pdq (aC cmp) d a b lim true true);rw[fp];refine Η ?_;refine W.iter (λq:Qr (Int×Int)=>q.e.size=n/\q.a<=q.b/\q.b<=n/\q.b-q.a<=k/\q.lim<2 ^ 40/\Go.Sort.Below (aC cmp) q.a q.b q.e/\Go.Sort.pdq (aC cmp) q.e q.a q.b q.lim q.wb q.wp=al) (λq=>[(0,.ms 0 n 0 n),(1,I (q.a:Nat)),(2,I (q.b:Nat)),(3,I (q.lim:Nat)),(4,ax),(10,a6 q.wb),(11,a6 q.wp)]) (λq=>[.cells 112 2 ((q.e).toList.map aF)]) (λq=>q.b-q.a) ⟨a,b,lim,true,true,d⟩ ⟨Ζ,eN,hb,ς,tg,dU,fp⟩ rfl η (λq Φ Β=>?_);clear fp dU tg hb eN ς;obtain⟨a,b,lim,wb,wp,e⟩:=q;obtain⟨cp,eN,hb,ς,tg,dU,aN⟩:=Φ;simp only at cp eN hb ς tg dU aN;obtain⟨l,ο⟩:=aK (b-a);have w1:IntKind.i64.wrap ((b:Int)-(a:Int))=(l:Int):=by rw[IntWalk.i64_in _ R];omega
 refine W.to (σ':=[.cells 112 2 ((e).toList.map aF)]) (env':=[(0,.ms 0 n 0 n),(1,I (a:Nat)),(2,I (b:Nat)),(3,I (lim:Nat)),(4,ax),(10,a6 wb),(11,a6 wp)]) ?_ rfl η;by_cases gL:b-a<=12
 ·have g:(l:Int)<=12:=by omega
  refine aB (υ w1 g) ?_;refine ai η ?_;refine bl λΕ ζ=>?_;refine ae.call (first:=[]) (captured:=[]) ((Nf e n a b cp eN hb R ax cmp b1 Υ).mono (λr s ⟨b3,bX⟩=>?_) (λ_ _ h=>h.elim));subst b3;subst bX;simp;(repeat (rw[Ο];simp[]));apply ζ;rw[Go.Sort.pdq_small gL] at aN;exact W.ret ⟨_,rfl,rfl,by rw[<-aN]⟩
 have g:¬(l:Int)<=12:=R;refine aB (υ w1 g) ?_;refine aa η ?_;by_cases aj:lim=0
 ·have cP:(lim:Int)=0:=by omega
  refine aB cP ?_;refine ai (by simp[aj]) ?_;refine bl λΕ ζ=>?_;refine ae.call (first:=[]) (captured:=[]) ((dτ e n a b cp R R hb ax cmp b1 Υ).mono (λr s ⟨b3,bX⟩=>?_) (λ_ _ h=>h.elim));subst b3;subst bX;simp;(repeat (rw[Ο];simp[]));apply ζ;rw[Go.Sort.pdq_heap gL aj] at aN;exact W.ret ⟨_,rfl,rfl,by rw[<-aN]⟩
 have cP:¬(lim:Int)=0:=R;refine aB cP ?_;refine aa (by simp[aj]) ?_;refine Η ?_;have F:=Go.Sort.rd_facts (limit:=lim) (wb:=wb) (wp:=wp) fh Go.Sort.partialInsertionSort_holds Go.Sort.reverseRange_holds (by omega:a<b) R dU;have Bn:=Go.Sort.rd_lim_le (lt:=(aC cmp)) (d:=e) (a:=a) (b:=b) (limit:=lim) (wb:=wb) (wp:=wp);have th:=λh:wb=false=>show(Go.Sort.rd (aC cmp) e a b lim wb wp).d1=Go.Sort.breakPatterns e a b/\(Go.Sort.rd (aC cmp) e a b lim wb wp).lim=lim-1 by subst h;exact Go.Sort.rd_false
 have ti:=λh:wb=true=>show(Go.Sort.rd (aC cmp) e a b lim wb wp).d1=e/\(Go.Sort.rd (aC cmp) e a b lim wb wp).lim=lim by subst h;exact Go.Sort.rd_true
 have tj:=Go.Sort.rd_c (lt:=(aC cmp)) (d:=e) (a:=a) (b:=b) (limit:=lim) (wb:=wb) (wp:=wp)
 have Fd:=Go.Sort.rd_dec (lt:=(aC cmp)) (d:=e) (a:=a) (b:=b) (limit:=lim) (wb:=wb) (wp:=wp)
 have Fn:=Go.Sort.rd_not (lt:=(aC cmp)) (d:=e) (a:=a) (b:=b) (limit:=lim) (wb:=wb) (wp:=wp)
 have qB:=Go.Sort.rd_pi_yes (lt:=(aC cmp)) (d:=e) (a:=a) (b:=b) (limit:=lim) (wb:=wb) (wp:=wp)
 have qC:=Go.Sort.rd_pi_no (lt:=(aC cmp)) (d:=e) (a:=a) (b:=b) (limit:=lim) (wb:=wb) (wp:=wp)
 have h5:=Go.Sort.pdq_done (lt:=(aC cmp)) (d:=e) (wb:=wb) (wp:=wp) gL aj
 have gG:=Go.Sort.pdq_eq (lt:=(aC cmp)) (d:=e) (wb:=wb) (wp:=wp) gL aj
 have fF:=Go.Sort.pdq_left (lt:=(aC cmp)) (d:=e) (wb:=wb) (wp:=wp) gL aj
 have fG:=Go.Sort.pdq_right (lt:=(aC cmp)) (d:=e) (wb:=wb) (wp:=wp) gL aj;rw[aN] at h5 gG fF fG;obtain⟨r,ι⟩:=bZ (Go.Sort.rd (aC cmp) e a b lim wb wp);rw[ι] at F Bn th ti tj Fd Fn qB qC h5 gG fF fG;clear ι;obtain⟨d1,ey,⟨wO,ch⟩,d2,hQ,qD,d3,done⟩:=r;simp only at F Bn th ti tj Fd Fn qB qC h5 gG fF fG;obtain⟨wP,dΓ,dΔ,wQ,dΕ,lE,lF,Bo⟩:=F;rw[cp] at wP wQ lF;refine W.upto [(0,.ms 0 n 0 n),(1,I (a:Nat)),(2,I (b:Nat)),(3,I (ey:Nat)),(4,ax),(10,a6 wb),(11,a6 wp),(12,I (l:Nat))] [.cells 112 2 ((d1).toList.map aF)] ?_ ?_
 ·cases wb with
  | false=>
   obtain⟨f1,f2⟩:=th rfl;refine ai rfl ?_;refine bl λΕ ζ=>?_;refine ae.call (first:=[]) (captured:=[]) ((dΑ e n a b cp R R R hb ax cmp b1 Υ).mono (λr s ⟨b3,bX⟩=>?_) (λ_ _ h=>h.elim));subst b3;subst bX;simp;(repeat (rw[Ο];simp[]));apply ζ;have w2:=hP (i:=lim) R R;refine nG w2 ?_;exact W.stop ⟨rfl,by rw[f1],by simp[f2]⟩
  | true=>
   obtain⟨f1,f2⟩:=ti rfl;refine aa rfl ?_;refine W.skip ?_;exact W.stop ⟨rfl,by rw[f1],by simp[f2]⟩
 have wR:=dχ d1 n a b wP R R R hb ax cmp b1 Υ;rw[<-tj] at wR;simp only at wR;refine bl λΕ ζ=>?_;refine ae.call (first:=[]) (captured:=[]) ((wR).mono (λr s ⟨b3,bX⟩=>?_) (λ_ _ h=>h.elim));subst b3;subst bX;simp;(repeat (rw[Ο];simp[]));apply ζ;refine W.to (σ':=[.cells 112 2 ((d1).toList.map aF)]) (env':=[(0,.ms 0 n 0 n),(1,I (a:Nat)),(2,I (b:Nat)),(3,I (ey:Nat)),(4,ax),(10,a6 wb),(11,a6 wp),(12,I (l:Nat)),(13,I (wO:Nat)),(14,I (pv ch))]) ?_ rfl η;refine Η ?_;refine W.upto [(0,.ms 0 n 0 n),(1,I (a:Nat)),(2,I (b:Nat)),(3,I (ey:Nat)),(4,ax),(10,a6 wb),(11,a6 wp),(12,I (l:Nat)),(13,I (hQ:Nat)),(14,I (pv qD))] [.cells 112 2 ((d2).toList.map aF)] ?_ ?_
 ·by_cases hd:ch=.decreasing
  ·obtain⟨f1,f2,f3⟩:=Fd hd;subst hd;refine ai rfl ?_;refine bl λΕ ζ=>?_;refine ae.call (first:=[]) (captured:=[]) ((dυ d1 n a b wP R R hb ax cmp b1 Υ).mono (λr s ⟨b3,bX⟩=>?_) (λ_ _ h=>h.elim));subst b3;subst bX;simp;(repeat (rw[Ο];simp[]));apply ζ;have w2:=hP (i:=b) R R;have w3:=uS (a:=a) (b:=wO) R R;have w4:=uS (a:=wO-a) (b:=b-1) R R;rw[<-f2] at w4;refine W.seq ?_;refine nG (υ w2 (υ w3 w4)) ?_;refine mQ ?_;exact W.stop ⟨rfl,by rw[f1],by simp[f3,pv]⟩
  ·obtain⟨f1,f2,f3⟩:=Fn hd;refine aa (by cases ch with
    | decreasing=>exact absurd rfl hd
    | unknown=>rfl
    | increasing=>rfl) ?_
   refine W.skip ?_;exact W.stop ⟨rfl,by rw[f1],by simp[f2,f3]⟩
 repeat apply ad
 refine W.rf (A:=[]) Ρ [(75,a6 (wb&&wp&&decide (qD=.increasing))),(0,.ms 0 n 0 n),(1,I (a:Nat)),(2,I (b:Nat)),(3,I (ey:Nat)),(4,ax),(10,a6 wb),(11,a6 wp),(12,I (l:Nat)),(13,I (hQ:Nat))] ?_ (by cases wb<;>cases wp<;>cases qD<;>simp[Ο,p5,pv])
 repeat apply ad
 rcases Bool.eq_false_or_eq_true done with hA|hA
 ·cases δ:(wb&&wp&&decide (qD=.increasing)) with
  | true=>
   have f:=qB δ;refine ai rfl ?_;have gH:=Qz d2 n a b wQ R R R hb ax cmp b1 Υ;rw[<-f] at gH;simp only[hA] at gH;refine bl λΕ ζ=>?_;refine ae.call (first:=[]) (captured:=[]) ((gH).mono (λr s ⟨b3,bX⟩=>?_) (λ_ _ h=>h.elim));subst b3;subst bX;simp;(repeat (rw[Ο];simp[]));apply ζ;refine ai rfl ?_;exact W.ret ⟨_,rfl,rfl,by rw[h5 hA]⟩
  | false=>
   have f:=(Prod.mk.inj (qC δ)).2;rw[hA] at f;cases f
 refine W.upto [(0,.ms 0 n 0 n),(1,I (a:Nat)),(2,I (b:Nat)),(3,I (ey:Nat)),(4,ax),(10,a6 wb),(11,a6 wp),(12,I (l:Nat)),(13,I (hQ:Nat))] [.cells 112 2 ((d3).toList.map aF)] ?_ ?_
 ·cases δ:(wb&&wp&&decide (qD=.increasing)) with
  | true=>
   have f:=qB δ;refine ai rfl ?_;have gH:=Qz d2 n a b wQ R R R hb ax cmp b1 Υ;rw[<-f] at gH;simp only[hA] at gH;refine bl λΕ ζ=>?_;refine ae.call (first:=[]) (captured:=[]) ((gH).mono (λr s ⟨b3,bX⟩=>?_) (λ_ _ h=>h.elim));subst b3;subst bX;simp;(repeat (rw[Ο];simp[]));apply ζ;refine aa rfl ?_;refine W.skip ?_;exact W.stop ⟨rfl,rfl,η⟩
  | false=>
   have f1:=(Prod.mk.inj (qC δ)).1;refine aa rfl ?_;refine W.skip ?_;exact W.stop ⟨rfl,by rw[f1],η⟩
 clear h5 qB qC Fd Fn tj th ti;have gG:=gG hA;have fF:=fF hA;have fG:=fG hA;obtain⟨P,nb⟩:=bZ ((decide (a > 0)&&!aC cmp d3[a-1]! d3[hQ]!):Bool);rw[nb] at gG fF fG
 repeat apply ad
 refine W.xO (A:=[]) Ρ mixed [(97,a6 P),(0,.ms 0 n 0 n),(1,I (a:Nat)),(2,I (b:Nat)),(3,I (ey:Nat)),(4,ax),(10,a6 wb),(11,a6 wp),(12,I (l:Nat)),(13,I (hQ:Nat))] ?_ (by
  by_cases κ:0<a
  ·obtain⟨p,ψ⟩:=aK (a-1);have aD:p<n:=R;have aH:hQ<n:=R;obtain⟨L,x,y,ab,γ,Ι,ο,⟨J,U⟩,⟨μ,Θ⟩,-,-⟩:=eB aF lF aD aH;have wS:P = !aC cmp x y:=by rw[<-nb,<-ψ,γ,Ι];simp[κ]
   have ee:(0:Int)<(a:Int):=R
   have w2:IntKind.i64.wrap ((a:Int)-1)=(p:Int):=by rw[IntWalk.i64_in _ R];omega
   rw[ab];clear γ Ι;simp;(repeat (rw[c7];simp[κ,ee,w2,ο,J,U,μ,Θ,aD,aH]));(try rw[c6]);refine eA (Υ x y) ?_;simp;(repeat (rw[c7];simp[]));(try rw[c6]);refine⟨iN (by kernel_rfl),?_⟩;simp[wS,aC]
  ·have wS:P=false:=by rw[<-nb];simp[κ]
   have ee:a=0:=R;subst ee;simp;(repeat (rw[c7];simp[]));(try rw[c6]);refine⟨iN (by kernel_rfl),?_⟩;simp[wS])
 repeat apply ad
 rcases Bool.eq_false_or_eq_true P with nd|nd
 ·refine ai (by simp[nd]) ?_;rw[nd] at nb;simp only[Bool.and_eq_true,decide_eq_true_eq,Bool.not_eq_true'] at nb;obtain⟨⟨mid,d4⟩,γ⟩:∃r,Go.Sort.partitionEqual (aC cmp) d3 a b hQ=r:=⟨_,rfl⟩;obtain⟨dS,dx,l9,qd,-⟩:=Go.Sort.round_eq fh (Go.Sort.partitionEqual_holds _) nb.1 lE.1 lE.2 (by rw[lF];exact hb) Bo nb.2 γ;have gG:=gG nd;rw[γ] at gG;have gG:=gG ⟨dS,dx⟩;simp only at gG;have gH:=dο d3 n a b hQ lF R lE.1 lE.2 hb ax cmp b1 Υ;rw[γ] at gH;simp only at gH;refine bl λΕ ζ=>?_;refine ae.call (first:=[]) (captured:=[]) ((gH).mono (λr s ⟨b3,bX⟩=>?_) (λ_ _ h=>h.elim));subst b3;subst bX;simp;(repeat (rw[Ο];simp[]));apply ζ;refine Η ?_;refine W.exit rfl ?_;exact W.to (Β ⟨mid,b,ey,wb,wp,d4⟩ ⟨l9.trans lF,dx,hb,by(try simp only);omega,by(try simp only);omega,qd,gG.symm⟩ (by(try simp only);omega)) rfl η
 refine aa (by simp[nd]) ?_;obtain⟨⟨mid,ap,d4⟩,γ⟩:∃r,Go.Sort.partition (aC cmp) d3 a b hQ=r:=⟨_,rfl⟩;obtain⟨dS,dx,l9,qd,sN,J1,Bp⟩:=Go.Sort.round_part fh (Go.Sort.partition_holds _) lE.1 lE.2 (by rw[lF];exact hb) Bo γ;have fF:=fF nd;have fG:=fG nd;rw[γ] at fF fG;have fF:=fF ⟨dS,dx⟩;have fG:=fG ⟨dS,dx⟩;simp only at fF fG;have gH:=dκ d3 n a b hQ lF R lE.1 lE.2 hb ax cmp b1 Υ;rw[γ] at gH;simp only at gH;have tk:d4.size=n:=l9.trans lF;obtain⟨u,hu⟩:=aK (mid-a);obtain⟨v,hv⟩:=aK (b-mid);obtain⟨pA,Bq⟩:=aK (l / 8);obtain⟨cC,hl⟩:=aK (mid+1);have j':IntKind.i64.wrap ((mid:Int)-(a:Int))=(u:Int):=by rw[IntWalk.i64_in _ R];omega
 have h3:IntKind.i64.wrap ((b:Int)-(mid:Int))=(v:Int):=by rw[IntWalk.i64_in _ R];omega
 have h4:IntKind.i64.wrap ((l:Int) / 8)=(pA:Int):=by rw[Bq];exact uR (m:=8) R
 have kX:IntKind.i64.wrap ((mid:Int)+1)=(cC:Int):=by rw[IntWalk.i64_in _ R];omega
 rw[<-hu,<-hv,<-ο,<-Bq,<-hl] at fF fG;refine bl λΕ ζ=>?_;refine ae.call (first:=[]) (captured:=[]) ((gH).mono (λr s ⟨b3,bX⟩=>?_) (λ_ _ h=>h.elim));subst b3;subst bX;simp;(repeat (rw[Ο];simp[]));apply ζ;by_cases pa:u<v
 ·have Χ:(u:Int)<(v:Int):=by omega
  refine aB (υ j' (υ h3 (υ h4 @Χ))) ?_;refine ai η ?_;obtain⟨dy,p2⟩:=Go.Sort.pdq_sorts (aC cmp) fh d4 a mid ey true true dS R qd;have qE:=sd (mid-a) R d4 a mid ey tk (Nat.le_refl _) dS R R qd;have fF:=fF pa;obtain⟨B',-⟩:=J1 _ dy p2;have s1:=dy.1.trans tk;obtain⟨Γ,hH⟩:=bZ (Go.Sort.pdq (aC cmp) d4 a mid ey true true);rw[hH] at qE fF B' s1;refine bl λΕ ζ=>?_;apply ζ;refine bl λΕ ζ=>?_;refine ae.call (first:=[]) (captured:=[]) ((qE).mono (λr s ⟨b3,bX⟩=>?_) (λ_ _ h=>h.elim));subst b3;subst bX;simp;(repeat (rw[Ο];simp[]));apply ζ;refine aB kX ?_;exact W.to (Β ⟨cC,b,ey,decide (u>=pA),ap,Γ⟩ ⟨s1,by(try simp only);omega,hb,by(try simp only);omega,by(try simp only);omega,by simp only;rw[hl];exact B',fF.symm⟩ (by(try simp only);omega)) rfl η
 ·have Χ:¬(u:Int)<(v:Int):=by omega
  refine aB (υ j' (υ h3 (υ h4 @Χ))) ?_;refine aa η ?_;obtain⟨dy,p2⟩:=Go.Sort.pdq_sorts (aC cmp) fh d4 (mid+1) b ey true true R R sN;rw[<-hl] at dy p2 sN;have qE:=sd (b-cC) R d4 cC b ey tk (Nat.le_refl _) R hb R sN;have fG:=fG pa;rw[<-hl] at Bp;obtain⟨B',-⟩:=Bp _ dy p2;have s1:=dy.1.trans tk;obtain⟨Γ,hH⟩:=bZ (Go.Sort.pdq (aC cmp) d4 cC b ey true true);rw[hH] at qE fG B' s1;refine bl λΕ ζ=>?_;apply ζ;refine hI kX λΕ ζ=>?_;refine ae.call (first:=[]) (captured:=[]) ((qE).mono (λr s ⟨b3,bX⟩=>?_) (λ_ _ h=>h.elim));subst b3;subst bX;simp;(repeat (rw[Ο];simp[]));apply ζ;refine Η ?_;exact W.to (Β ⟨a,mid,ey,decide (v>=pA),ap,Γ⟩ ⟨s1,dS,by(try simp only);omega,by(try simp only);omega,by(try simp only);omega,B',fG.symm⟩ (by(try simp only);omega)) rfl η
theorem QC {α:Type} [Inhabited α] {lt:α->α->Bool} (ν:Go.Sort.SWO lt) (κ:∀x y,lt x y=false->lt y x=false->x=y) (l:List α):(Go.Sort.pdq lt l.toArray 0 l.length (Go.Sort.bitsLen l.length) true true).toList=l.mergeSort (λx y=>!lt y x):=by
 obtain⟨J,U⟩:=Go.Sort.pdq_sorts lt ν l.toArray 0 l.length (Go.Sort.bitsLen l.length) true true (Nat.zero_le _) η (.inl rfl);exact Go.Sort.sorted_unique_holds (lt:=lt) ν κ l.toArray _ (by simpa using J) (by simpa using U)
theorem dΖ:Ec 49:=λl ο=>by
 obtain⟨ax,b1⟩:=aK (.fn (.func 174) [] []:θ);have dΗ:aG 0 ax:=by rw[b1];simp[l6]
 have Υ:∀x y,gp Tryz.prog ax [aF x,aF y] (I (nJ x y)):=λx y=>by rw[b1];exact az.p (Nd x y) (bF.refl _) η η
 obtain⟨n,Ζ⟩:=aK l.length;have hb:Go.Sort.bitsLen n<=6:=(Go.Sort.bitsLen_le_iff n 6).2 R;have h:=dΒ n R ax nJ dΗ Υ xY n l.toArray 0 n (Go.Sort.bitsLen n) (by simp[Ζ]) R R (Nat.le_refl _) R (.inl rfl);have ψ:=QC xY NA l;rw[<-Ζ] at ψ;have e:(λx y:Int×Int=>!aC nJ y x)=ln:=rfl;rw[ψ,e] at h;rw[<-b1,<-Ζ];clear ψ e;have jh:(l.map aF).length=n:=by rw[List.length_map,Ζ]
 have cl:l.toArray.toList=l:=rfl;rw[cl] at h;refine ae.body Ρ Tryz.func173 rfl rfl Tryz.ntmps173 rfl rfl η ?_;have Δ:=gr (show n<2 ^ 62 by omega);have Γ:IntKind.u64.wrap (n:Int)=n:=s' R;have qg:=Ζ.symm;refine aB qg ?_;(repeat apply ad);refine bs λΕ ζ=>?_;simp;(repeat (rw[Ο];simp[Δ,Γ]));refine az.d (ua n R) (bD ?_);refine ae.call (first:=[]) (captured:=[]) (h.mono (λr s ⟨b3,bX⟩=>?_) (λ_ _ h=>h.elim));subst b3;subst bX;simp;(repeat (rw[Ο];simp[]));apply ζ;exact W.nil ⟨_,rfl,rfl,rfl⟩
end Go.TL
