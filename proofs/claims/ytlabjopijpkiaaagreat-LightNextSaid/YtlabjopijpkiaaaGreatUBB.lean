import Derived.Test.YtlabjopijpkiaaaGreatUAP
import Derived.Test.YtlabjopijpkiaaaGreatUAS
import Derived.Test.YtlabjopijpkiaaaGreatUBA
set_option maxHeartbeats 16000000
set_option maxRecDepth 20000
set_option linter.unusedSectionVars false
set_option linter.unusedSimpArgs false
set_option linter.unusedVariables false
namespace Go.TL
open Go.Proofs
variable [bt]
theorem fΕ (d:Array (Int×Int)) (n a b p:Nat) (Η:d.size=n) (ν:n<2 ^ 40) (iI:a<=p) (fΖ:p<b) (hb:b<=n) (au:η) (cmp:Int×Int->Int×Int->Int) (b3:ay 0 au) (Χ:∀x y,gi Tryz.prog au [aC x,aC y] (J (cmp x y))) :
  ao Tryz.prog 241 [.ms 0 n 0 n,J a,J b,J p,au] [.cells 112 2 ((d).toList.map aC)] (λr s=>r=.bw [J (Go.Sort.partition (az cmp) d a b p).1,bm (Go.Sort.partition (az cmp) d a b p).2.1]/\s=[.cells 112 2 (((Go.Sort.partition (az cmp) d a b p).2.2).toList.map aC)]) (λ_ _=>False):=by
 refine ao.body Φ Tryz.func241 rfl rfl Tryz.ntmps241 rfl rfl θ ?_;have jr:=iC (i:=a) R;have iG:=oH (i:=b) R R
 repeat apply ar
 refine um ?_;have ba:a<n:=R;have bn:p<n:=R;obtain⟨L,x,y,aG,γ,Ο,υ,⟨I,U⟩,⟨ξ,Κ⟩,eT,kz,aE⟩:=j1 aC Η ba bn;refine W.to (σ':=[.cells 112 2 L]) (env':=[(0,.ms 0 n 0 n),(1,J a),(2,J b),(3,J p),(4,au)]) ?_ (by rw[aG]) θ;clear γ Ο
 repeat apply ar
 refine gx (Μ υ (Μ I (Μ U (Μ ξ (Μ Κ (Μ aE (Μ ba bn))))))) ?_;refine W.to (σ':=[.cells 112 2 ((Go.Sort.swp d a p).toList.map aC)]) (env':=[(0,.ms 0 n 0 n),(1,J a),(2,J b),(3,J p),(4,au)]) ?_ (by rw[eT]) θ;clear ba bn I U ξ Κ aE eT υ aG L x y kz;obtain⟨e,he⟩:=aF (Go.Sort.swp d a p);have fe:e.size=n:=by rw[he];exact swp_size Η a p
 rw[<-he]
 repeat apply ar
 refine uo (Μ jr iG) ?_;refine W.to (σ':=[.cells 112 2 ((e).toList.map aC)]) (env':=[(0,.ms 0 n 0 n),(1,J a),(4,au),(12,J (a+1:Nat)),(13,J (b-1:Nat))]) ?_ rfl θ;obtain⟨bb,fx⟩:=cZ (Go.Sort.scanUp (λx=>az cmp x e[a]!) e (b-1) (a+1));obtain⟨aN,dp⟩:=cZ (Go.Sort.scanDown (λx=>!az cmp x e[a]!) e bb (b-1));obtain⟨s1,s2,oN,vj,oO⟩:=BD (λx=>az cmp x e[a]!) (λx=>!az cmp x e[a]!) (λx=>rfl) e R R fx dp;have dY:Go.Sort.partition (az cmp) d a b p=if bb > aN then(aN,true,Go.Sort.swp e aN a) else((Go.Sort.partLoop (az cmp) a (bb+1) (aN-1) (Go.Sort.swp e bb aN)).1,false,Go.Sort.swp (Go.Sort.partLoop (az cmp) a (bb+1) (aN-1) (Go.Sort.swp e bb aN)).2 (Go.Sort.partLoop (az cmp) a (bb+1) (aN-1) (Go.Sort.swp e bb aN)).1 a):=by
  unfold Go.Sort.partition;simp only[<-he,fx,dp]
 repeat apply ar
 repeat apply ar
 refine W.sb [(0,.ms 0 n 0 n),(1,J a),(4,au),(12,J (bb:Nat)),(13,J (b-1:Nat))] [.cells 112 2 ((e).toList.map aC)] ?_ ?_
 ·refine W.iter (λi:Nat=>(a+1)<=i/\i<=(b-1)+1/\Go.Sort.scanUp (λx=>az cmp x e[a]!) e (b-1) i=bb) (λi=>[(0,.ms 0 n 0 n),(1,J a),(4,au),(12,J (i:Nat)),(13,J (b-1:Nat))]) (λ_=>[.cells 112 2 ((e).toList.map aC)]) (λi=>(b-1)+1-i) ((a+1)) ⟨Nat.le_refl _,R,fx⟩ rfl θ (λi hi Β=>?_);obtain⟨oe,oI,fC⟩:=hi;by_cases ε:i<=(b-1)
  ·have ba:i<n:=by omega
   have bn:a<n:=R;obtain⟨L,x,y,aG,γ,Ο,υ,⟨I,U⟩,⟨ξ,Κ⟩,-,-⟩:=j1 aC fe ba bn;have un:Go.Sort.scanUp (λx=>az cmp x e[a]!) e (b-1) i=if(az cmp x y)=true then Go.Sort.scanUp (λx=>az cmp x e[a]!) e (b-1) (i+1) else i:=by rw[Go.Sort.scanUp];simp[ε,γ,Ο]
   have hw:=iC (i:=i) R;refine W.to (σ':=[.cells 112 2 L]) (env':=[(0,.ms 0 n 0 n),(1,J a),(4,au),(12,J (i:Nat)),(13,J (b-1:Nat))]) ?_ (by rw[aG]) θ;clear γ Ο
   repeat apply ar
   refine W.draw (A:=[]) Φ mixed λΕ ζ=>iu (Μ ε (Μ υ (Μ I (Μ U (Μ ξ (Μ Κ (Μ ba bn))))))) ?_;refine gv (Χ x y) ?_;simp;(repeat (rw[dN];simp[]));try rw[dM]
   refine fy (ζ _ _ ?_);by_cases hm:cmp x y<0
   ·refine al (by simp[hm]) ?_;refine aR hw ?_;exact W.to (Β (i+1) ⟨R,R,by rw[<-fC,un];simp[hm,az]⟩ (by(try simp only);omega)) (by rw[aG]) (by simp[hw])
   ·refine aj (by simp[hm]) ?_;refine W.exit rfl ?_;exact W.stop ⟨rfl,by rw[aG],by rw[<-fC,un];simp[hm,az]⟩
  ·repeat apply ar
   refine gx ε ?_;refine aj rfl ?_;refine W.exit rfl ?_;have e:Go.Sort.scanUp (λx=>az cmp x e[a]!) e (b-1) i=i:=by rw[Go.Sort.scanUp];simp[ε]
   exact W.stop ⟨rfl,rfl,by rw[<-fC,e];simp⟩
 repeat apply ar
 refine W.sb [(0,.ms 0 n 0 n),(1,J a),(4,au),(12,J (bb:Nat)),(13,J (aN:Nat))] [.cells 112 2 ((e).toList.map aC)] ?_ ?_
 ·refine W.iter (λi:Nat=>i<=(b-1)/\bb<=i+1/\Go.Sort.scanDown (λx=>!az cmp x e[a]!) e bb i=aN) (λi=>[(0,.ms 0 n 0 n),(1,J a),(4,au),(12,J (bb:Nat)),(13,J (i:Nat))]) (λ_=>[.cells 112 2 ((e).toList.map aC)]) (λi=>i+1-bb) ((b-1)) ⟨Nat.le_refl _,R,dp⟩ rfl θ (λi hi Β=>?_);obtain⟨oe,oI,fC⟩:=hi;by_cases ε:bb<=i
  ·have ba:i<n:=by omega
   have bn:a<n:=R;obtain⟨L,x,y,aG,γ,Ο,υ,⟨I,U⟩,⟨ξ,Κ⟩,-,-⟩:=j1 aC fe ba bn;obtain⟨q,Ψ⟩:∃q,i=q+1:=⟨i-1,R⟩;have un:Go.Sort.scanDown (λx=>!az cmp x e[a]!) e bb i=if(!az cmp x y)=true then Go.Sort.scanDown (λx=>!az cmp x e[a]!) e bb (i-1) else i:=by subst Ψ;rw[Go.Sort.scanDown];simp[ε,γ,Ο]
   have hw:=oH (i:=i) R R;refine W.to (σ':=[.cells 112 2 L]) (env':=[(0,.ms 0 n 0 n),(1,J a),(4,au),(12,J (bb:Nat)),(13,J (i:Nat))]) ?_ (by rw[aG]) θ;clear γ Ο
   repeat apply ar
   refine W.draw (A:=[]) Φ mixed λΕ ζ=>iu (Μ ε (Μ υ (Μ I (Μ U (Μ ξ (Μ Κ (Μ ba bn))))))) ?_;refine gv (Χ x y) ?_;simp;(repeat (rw[dN];simp[]));try rw[dM]
   refine fy (ζ _ _ ?_);by_cases hm:cmp x y<0
   ·refine aj (by simp[hm]) ?_;refine W.exit rfl ?_;exact W.stop ⟨rfl,by rw[aG],by rw[<-fC,un];simp[hm,az]⟩
   ·refine al (by simp[hm]) ?_;refine aR hw ?_;exact W.to (Β (i-1) ⟨R,R,by rw[<-fC,un];simp[hm,az]⟩ (by(try simp only);omega)) (by rw[aG]) (by simp[hw])
  ·repeat apply ar
   refine gx ε ?_;refine aj rfl ?_;refine W.exit rfl ?_;have e:Go.Sort.scanDown (λx=>!az cmp x e[a]!) e bb i=i:=by exact Ku _ _ R
   exact W.stop ⟨rfl,rfl,by rw[<-fC,e];simp⟩
 repeat apply ar
 by_cases ε:bb > aN
 ·have a8:((aN:Nat):Int)<(bb:Nat):=by omega
  refine aR a8 ?_;refine al (by simp[ε]) ?_;have ba:aN<n:=R;have bn:a<n:=R;obtain⟨L,x,y,aG,γ,Ο,υ,⟨I,U⟩,⟨ξ,Κ⟩,eT,kz,aE⟩:=j1 aC fe ba bn;refine W.to (σ':=[.cells 112 2 L]) (env':=[(0,.ms 0 n 0 n),(1,J a),(4,au),(12,J (bb:Nat)),(13,J (aN:Nat))]) ?_ (by rw[aG]) θ;clear γ Ο
  repeat apply ar
  refine gx (Μ υ (Μ I (Μ U (Μ ξ (Μ Κ (Μ aE (Μ ba bn))))))) ?_;refine W.to (σ':=[.cells 112 2 ((Go.Sort.swp e aN a).toList.map aC)]) (env':=[(0,.ms 0 n 0 n),(1,J a),(4,au),(12,J (bb:Nat)),(13,J (aN:Nat))]) ?_ (by rw[eT]) θ;clear ba bn I U ξ Κ aE eT υ aG L x y kz;refine Ζ ?_;exact W.ret ⟨_,rfl,by rw[dY,if_pos ε];rfl,by rw[dY,if_pos ε]⟩
 have a8:¬((aN:Nat):Int)<(bb:Nat):=R
 have Cf:=oO R
 have jv:=iC (i:=bb) R
 have pE:=oH (i:=aN) R R;refine aR a8 ?_;refine aj (by simp[ε]) ?_;have ba:bb<n:=R;have bn:aN<n:=R;obtain⟨L,x,y,aG,γ,Ο,υ,⟨I,U⟩,⟨ξ,Κ⟩,eT,kz,aE⟩:=j1 aC fe ba bn;refine W.to (σ':=[.cells 112 2 L]) (env':=[(0,.ms 0 n 0 n),(1,J a),(4,au),(12,J (bb:Nat)),(13,J (aN:Nat))]) ?_ (by rw[aG]) θ;clear γ Ο
 repeat apply ar
 refine gx (Μ υ (Μ I (Μ U (Μ ξ (Μ Κ (Μ aE (Μ ba bn))))))) ?_;refine W.to (σ':=[.cells 112 2 ((Go.Sort.swp e bb aN).toList.map aC)]) (env':=[(0,.ms 0 n 0 n),(1,J a),(4,au),(12,J (bb:Nat)),(13,J (aN:Nat))]) ?_ (by rw[eT]) θ;clear ba bn I U ξ Κ aE eT υ aG L x y kz;have vC:=swp_size fe bb aN;rw[if_neg ε] at dY;obtain⟨g,Ρ⟩:=aF (Go.Sort.swp e bb aN);rw[<-Ρ] at dY vC;rw[<-Ρ];refine aR (Μ jv pE) ?_;refine W.to (σ':=[.cells 112 2 ((g).toList.map aC)]) (env':=[(0,.ms 0 n 0 n),(1,J a),(4,au),(12,J (bb+1:Nat)),(13,J (aN-1:Nat))]) ?_ rfl (by simp[jv,pE]);have lΟ:a<bb:=R;have lΡ:aN<b:=R;have lΤ:bb+1<=aN-1+1:=R;clear fx dp a8 ε s1 s2 oN vj oO Ρ jv pE;obtain⟨ah,kR⟩:=cZ (Go.Sort.partLoop (az cmp) a (bb+1) (aN-1) g)
 repeat apply ar
 refine W.sb [(0,.ms 0 n 0 n),(1,J a),(13,J ah.1)] [.cells 112 2 ((ah.2).toList.map aC)] ?_ ?_
 ·refine W.iter (λq:Nat×Nat×Array (Int×Int)=>q.2.2.size=n/\a<q.1/\q.1<=q.2.1+1/\q.2.1<b/\Go.Sort.partLoop (az cmp) a q.1 q.2.1 q.2.2=ah) (λq=>[(0,.ms 0 n 0 n),(1,J a),(4,au),(12,J (q.1:Nat)),(13,J (q.2.1:Nat))]) (λq=>[.cells 112 2 ((q.2.2).toList.map aC)]) (λq=>q.2.1+1-q.1) (bb+1,aN-1,g) ⟨vC,by(try simp only);omega,by(try simp only);omega,by(try simp only);omega,kR⟩ rfl θ (λq hi Β=>?_);obtain⟨i,j,f⟩:=q;obtain⟨bY,oe,oI,fC,bc⟩:=hi;simp only at bY oe oI fC bc;obtain⟨bb,fx⟩:=cZ (Go.Sort.scanUp (λx=>az cmp x f[a]!) f (j) (i));obtain⟨aN,dp⟩:=cZ (Go.Sort.scanDown (λx=>!az cmp x f[a]!) f bb (j));obtain⟨s1,s2,oN,vj,oO⟩:=BD (λx=>az cmp x f[a]!) (λx=>!az cmp x f[a]!) (λx=>rfl) f R R fx dp;have dY:Go.Sort.partLoop (az cmp) a i j f=if bb > aN then(aN,f) else Go.Sort.partLoop (az cmp) a (bb+1) (aN-1) (Go.Sort.swp f bb aN):=by
   rw[Go.Sort.partLoop_eq];simp only[fx,dp]
  refine W.to (σ':=[.cells 112 2 ((f).toList.map aC)]) (env':=[(0,.ms 0 n 0 n),(1,J a),(4,au),(12,J (i:Nat)),(13,J (j:Nat))]) ?_ rfl θ;refine W.block ?_
  repeat apply ar
  refine W.sb [(0,.ms 0 n 0 n),(1,J a),(4,au),(12,J (bb:Nat)),(13,J (j:Nat))] [.cells 112 2 ((f).toList.map aC)] ?_ ?_
  ·refine W.iter (λi:Nat=>(i)<=i/\i<=(j)+1/\Go.Sort.scanUp (λx=>az cmp x f[a]!) f (j) i=bb) (λi=>[(0,.ms 0 n 0 n),(1,J a),(4,au),(12,J (i:Nat)),(13,J (j:Nat))]) (λ_=>[.cells 112 2 ((f).toList.map aC)]) (λi=>(j)+1-i) ((i)) ⟨Nat.le_refl _,R,fx⟩ rfl θ (λi hi Β=>?_);obtain⟨oe,oI,fC⟩:=hi;by_cases ε:i<=(j)
   ·have ba:i<n:=by omega
    have bn:a<n:=R;obtain⟨L,x,y,aG,γ,Ο,υ,⟨I,U⟩,⟨ξ,Κ⟩,-,-⟩:=j1 aC bY ba bn;have un:Go.Sort.scanUp (λx=>az cmp x f[a]!) f (j) i=if(az cmp x y)=true then Go.Sort.scanUp (λx=>az cmp x f[a]!) f (j) (i+1) else i:=by rw[Go.Sort.scanUp];simp[ε,γ,Ο]
    have hw:=iC (i:=i) R;refine W.to (σ':=[.cells 112 2 L]) (env':=[(0,.ms 0 n 0 n),(1,J a),(4,au),(12,J (i:Nat)),(13,J (j:Nat))]) ?_ (by rw[aG]) θ;clear γ Ο
    repeat apply ar
    refine W.draw (A:=[]) Φ mixed λΕ ζ=>iu (Μ ε (Μ υ (Μ I (Μ U (Μ ξ (Μ Κ (Μ ba bn))))))) ?_;refine gv (Χ x y) ?_;simp;(repeat (rw[dN];simp[]));try rw[dM]
    refine fy (ζ _ _ ?_);by_cases hm:cmp x y<0
    ·refine al (by simp[hm]) ?_;refine aR hw ?_;exact W.to (Β (i+1) ⟨R,R,by rw[<-fC,un];simp[hm,az]⟩ (by(try simp only);omega)) (by rw[aG]) (by simp[hw])
    ·refine aj (by simp[hm]) ?_;refine W.exit rfl ?_;exact W.stop ⟨rfl,by rw[aG],by rw[<-fC,un];simp[hm,az]⟩
   ·repeat apply ar
    refine gx ε ?_;refine aj rfl ?_;refine W.exit rfl ?_;have e:Go.Sort.scanUp (λx=>az cmp x f[a]!) f (j) i=i:=by rw[Go.Sort.scanUp];simp[ε]
    exact W.stop ⟨rfl,rfl,by rw[<-fC,e];simp⟩
  repeat apply ar
  refine W.sb [(0,.ms 0 n 0 n),(1,J a),(4,au),(12,J (bb:Nat)),(13,J (aN:Nat))] [.cells 112 2 ((f).toList.map aC)] ?_ ?_
  ·refine W.iter (λi:Nat=>i<=(j)/\bb<=i+1/\Go.Sort.scanDown (λx=>!az cmp x f[a]!) f bb i=aN) (λi=>[(0,.ms 0 n 0 n),(1,J a),(4,au),(12,J (bb:Nat)),(13,J (i:Nat))]) (λ_=>[.cells 112 2 ((f).toList.map aC)]) (λi=>i+1-bb) ((j)) ⟨Nat.le_refl _,R,dp⟩ rfl θ (λi hi Β=>?_);obtain⟨oe,oI,fC⟩:=hi;by_cases ε:bb<=i
   ·have ba:i<n:=by omega
    have bn:a<n:=R;obtain⟨L,x,y,aG,γ,Ο,υ,⟨I,U⟩,⟨ξ,Κ⟩,-,-⟩:=j1 aC bY ba bn;obtain⟨q,Ψ⟩:∃q,i=q+1:=⟨i-1,R⟩;have un:Go.Sort.scanDown (λx=>!az cmp x f[a]!) f bb i=if(!az cmp x y)=true then Go.Sort.scanDown (λx=>!az cmp x f[a]!) f bb (i-1) else i:=by subst Ψ;rw[Go.Sort.scanDown];simp[ε,γ,Ο]
    have hw:=oH (i:=i) R R;refine W.to (σ':=[.cells 112 2 L]) (env':=[(0,.ms 0 n 0 n),(1,J a),(4,au),(12,J (bb:Nat)),(13,J (i:Nat))]) ?_ (by rw[aG]) θ;clear γ Ο
    repeat apply ar
    refine W.draw (A:=[]) Φ mixed λΕ ζ=>iu (Μ ε (Μ υ (Μ I (Μ U (Μ ξ (Μ Κ (Μ ba bn))))))) ?_;refine gv (Χ x y) ?_;simp;(repeat (rw[dN];simp[]));try rw[dM]
    refine fy (ζ _ _ ?_);by_cases hm:cmp x y<0
    ·refine aj (by simp[hm]) ?_;refine W.exit rfl ?_;exact W.stop ⟨rfl,by rw[aG],by rw[<-fC,un];simp[hm,az]⟩
    ·refine al (by simp[hm]) ?_;refine aR hw ?_;exact W.to (Β (i-1) ⟨R,R,by rw[<-fC,un];simp[hm,az]⟩ (by(try simp only);omega)) (by rw[aG]) (by simp[hw])
   ·repeat apply ar
    refine gx ε ?_;refine aj rfl ?_;refine W.exit rfl ?_;have e:Go.Sort.scanDown (λx=>!az cmp x f[a]!) f bb i=i:=by exact Ku _ _ R
    exact W.stop ⟨rfl,rfl,by rw[<-fC,e];simp⟩
  repeat apply ar
  by_cases ε:bb > aN
  ·have a8:((aN:Nat):Int)<(bb:Nat):=by omega
   refine aR a8 ?_;refine al (by simp[ε]) ?_;refine W.exit rfl ?_;rw[dY,if_pos ε] at bc;exact W.stop ⟨rfl,by rw[<-bc],by rw[<-bc];simp⟩
  ·have a8:¬((aN:Nat):Int)<(bb:Nat):=by omega
   have Cf:=oO R
   have jv:=iC (i:=bb) R
   have pE:=oH (i:=aN) R R;refine aR a8 ?_;refine aj (by simp[ε]) ?_;have ba:bb<n:=R;have bn:aN<n:=R;obtain⟨L,x,y,aG,γ,Ο,υ,⟨I,U⟩,⟨ξ,Κ⟩,eT,kz,aE⟩:=j1 aC bY ba bn;refine W.to (σ':=[.cells 112 2 L]) (env':=[(0,.ms 0 n 0 n),(1,J a),(4,au),(12,J (bb:Nat)),(13,J (aN:Nat))]) ?_ (by rw[aG]) θ;clear γ Ο
   repeat apply ar
   refine gx (Μ υ (Μ I (Μ U (Μ ξ (Μ Κ (Μ aE (Μ ba bn))))))) ?_;refine W.to (σ':=[.cells 112 2 ((Go.Sort.swp f bb aN).toList.map aC)]) (env':=[(0,.ms 0 n 0 n),(1,J a),(4,au),(12,J (bb:Nat)),(13,J (aN:Nat))]) ?_ (by rw[eT]) θ;clear ba bn I U ξ Κ aE eT υ aG L x y kz;refine aR (Μ jv pE) ?_;exact W.to (Β (bb+1,aN-1,Go.Sort.swp f bb aN) ⟨swp_size bY bb aN,by(try simp only);omega,by(try simp only);omega,by(try simp only);omega,by simp;rw[<-bc,dY,if_neg ε]⟩ (by(try simp only);omega)) rfl (by simp[jv,pE])
 rw[kR] at dY;have Ψ:=fη (az cmp) (a:=a) (b:=b) _ (bb+1) (aN-1) g (Nat.le_refl _) vC R R R;rw[kR] at Ψ;obtain⟨JM,fΗ⟩:=Ψ;obtain⟨j,h⟩:=ah;simp only at JM fΗ dY;have ba:j<n:=R;have bn:a<n:=R;obtain⟨L,x,y,aG,γ,Ο,υ,⟨I,U⟩,⟨ξ,Κ⟩,eT,kz,aE⟩:=j1 aC JM ba bn;refine W.to (σ':=[.cells 112 2 L]) (env':=[(0,.ms 0 n 0 n),(1,J a),(13,J (j:Nat))]) ?_ (by rw[aG]) θ;clear γ Ο
 repeat apply ar
 refine gx (Μ υ (Μ I (Μ U (Μ ξ (Μ Κ (Μ aE (Μ ba bn))))))) ?_;refine W.to (σ':=[.cells 112 2 ((Go.Sort.swp h j a).toList.map aC)]) (env':=[(0,.ms 0 n 0 n),(1,J a),(13,J (j:Nat))]) ?_ (by rw[eT]) θ;clear ba bn I U ξ Κ aE eT υ aG L x y kz;refine Ζ ?_;exact W.ret ⟨_,rfl,by rw[dY];rfl,by rw[dY]⟩
theorem fΘ (d:Array (Int×Int)) (n a b p:Nat) (Η:d.size=n) (ν:n<2 ^ 40) (iI:a<=p) (fΖ:p<b) (hb:b<=n) (au:η) (cmp:Int×Int->Int×Int->Int) (b3:ay 0 au) (Χ:∀x y,gi Tryz.prog au [aC x,aC y] (J (cmp x y))) :
  ao Tryz.prog 240 [.ms 0 n 0 n,J a,J b,J p,au] [.cells 112 2 ((d).toList.map aC)] (λr s=>r=J (Go.Sort.partitionEqual (az cmp) d a b p).1/\s=[.cells 112 2 (((Go.Sort.partitionEqual (az cmp) d a b p).2).toList.map aC)]) (λ_ _=>False):=by
 refine ao.body Φ Tryz.func240 rfl rfl Tryz.ntmps240 rfl rfl θ ?_;have jr:=iC (i:=a) R;have iG:=oH (i:=b) R R
 repeat apply ar
 refine um ?_;have ba:a<n:=R;have bn:p<n:=R;obtain⟨L,x,y,aG,γ,Ο,υ,⟨I,U⟩,⟨ξ,Κ⟩,eT,kz,aE⟩:=j1 aC Η ba bn;refine W.to (σ':=[.cells 112 2 L]) (env':=[(0,.ms 0 n 0 n),(1,J a),(2,J b),(3,J p),(4,au)]) ?_ (by rw[aG]) θ;clear γ Ο
 repeat apply ar
 refine gx (Μ υ (Μ I (Μ U (Μ ξ (Μ Κ (Μ aE (Μ ba bn))))))) ?_;refine W.to (σ':=[.cells 112 2 ((Go.Sort.swp d a p).toList.map aC)]) (env':=[(0,.ms 0 n 0 n),(1,J a),(2,J b),(3,J p),(4,au)]) ?_ (by rw[eT]) θ;clear ba bn I U ξ Κ aE eT υ aG L x y kz;obtain⟨e,he⟩:=aF (Go.Sort.swp d a p);have fe:e.size=n:=by rw[he];exact swp_size Η a p
 rw[<-he]
 repeat apply ar
 refine uo (Μ jr iG) ?_;refine W.to (σ':=[.cells 112 2 ((e).toList.map aC)]) (env':=[(0,.ms 0 n 0 n),(1,J a),(4,au),(11,J (a+1:Nat)),(12,J (b-1:Nat))]) ?_ rfl θ;obtain⟨ah,kR⟩:=cZ (Go.Sort.partEqLoop (az cmp) a (a+1) (b-1) e)
 repeat apply ar
 refine W.sb [(11,J ah.1)] [.cells 112 2 ((ah.2).toList.map aC)] ?_ ?_
 ·refine W.iter (λq:Nat×Nat×Array (Int×Int)=>q.2.2.size=n/\a<q.1/\q.1<=q.2.1+1/\q.2.1<b/\Go.Sort.partEqLoop (az cmp) a q.1 q.2.1 q.2.2=ah) (λq=>[(0,.ms 0 n 0 n),(1,J a),(4,au),(11,J (q.1:Nat)),(12,J (q.2.1:Nat))]) (λq=>[.cells 112 2 ((q.2.2).toList.map aC)]) (λq=>q.2.1+1-q.1) (a+1,b-1,e) ⟨fe,by(try simp only);omega,by(try simp only);omega,by(try simp only);omega,kR⟩ rfl θ (λq hi Β=>?_);obtain⟨i,j,f⟩:=q;obtain⟨bY,oe,oI,fC,bc⟩:=hi;simp only at bY oe oI fC bc;obtain⟨bb,fx⟩:=cZ (Go.Sort.scanUp (λx=>!az cmp f[a]! x) f (j) (i));obtain⟨aN,dp⟩:=cZ (Go.Sort.scanDown (λx=>az cmp f[a]! x) f bb (j));obtain⟨s1,s2,oN,vj,oO⟩:=BD (λx=>!az cmp f[a]! x) (λx=>az cmp f[a]! x) (λx=>θ) f R R fx dp;have dY:Go.Sort.partEqLoop (az cmp) a i j f=if bb > aN then(bb,f) else Go.Sort.partEqLoop (az cmp) a (bb+1) (aN-1) (Go.Sort.swp f bb aN):=by
   rw[Go.Sort.partEqLoop_eq];simp only[fx,dp]
  refine W.to (σ':=[.cells 112 2 ((f).toList.map aC)]) (env':=[(0,.ms 0 n 0 n),(1,J a),(4,au),(11,J (i:Nat)),(12,J (j:Nat))]) ?_ rfl θ;refine W.block ?_
  repeat apply ar
  refine W.sb [(0,.ms 0 n 0 n),(1,J a),(4,au),(11,J (bb:Nat)),(12,J (j:Nat))] [.cells 112 2 ((f).toList.map aC)] ?_ ?_
  ·refine W.iter (λi:Nat=>(i)<=i/\i<=(j)+1/\Go.Sort.scanUp (λx=>!az cmp f[a]! x) f (j) i=bb) (λi=>[(0,.ms 0 n 0 n),(1,J a),(4,au),(11,J (i:Nat)),(12,J (j:Nat))]) (λ_=>[.cells 112 2 ((f).toList.map aC)]) (λi=>(j)+1-i) ((i)) ⟨Nat.le_refl _,R,fx⟩ rfl θ (λi hi Β=>?_);obtain⟨oe,oI,fC⟩:=hi;by_cases ε:i<=(j)
   ·have ba:i<n:=by omega
    have bn:a<n:=R;obtain⟨L,x,y,aG,γ,Ο,υ,⟨I,U⟩,⟨ξ,Κ⟩,-,-⟩:=j1 aC bY ba bn;have un:Go.Sort.scanUp (λx=>!az cmp f[a]! x) f (j) i=if(!az cmp y x)=true then Go.Sort.scanUp (λx=>!az cmp f[a]! x) f (j) (i+1) else i:=by rw[Go.Sort.scanUp];simp[ε,γ,Ο]
    have hw:=iC (i:=i) R;refine W.to (σ':=[.cells 112 2 L]) (env':=[(0,.ms 0 n 0 n),(1,J a),(4,au),(11,J (i:Nat)),(12,J (j:Nat))]) ?_ (by rw[aG]) θ;clear γ Ο
    repeat apply ar
    refine W.draw (A:=[]) Φ mixed λΕ ζ=>iu (Μ ε (Μ υ (Μ I (Μ U (Μ ξ (Μ Κ (Μ ba bn))))))) ?_;refine gv (Χ y x) ?_;simp;(repeat (rw[dN];simp[]));try rw[dM]
    refine fy (ζ _ _ ?_);by_cases hm:cmp y x<0
    ·refine aj (by simp[hm]) ?_;refine W.exit rfl ?_;exact W.stop ⟨rfl,by rw[aG],by rw[<-fC,un];simp[hm,az]⟩
    ·refine al (by simp[hm]) ?_;refine aR hw ?_;exact W.to (Β (i+1) ⟨R,R,by rw[<-fC,un];simp[hm,az]⟩ (by(try simp only);omega)) (by rw[aG]) (by simp[hw])
   ·repeat apply ar
    refine gx ε ?_;refine aj rfl ?_;refine W.exit rfl ?_;have e:Go.Sort.scanUp (λx=>!az cmp f[a]! x) f (j) i=i:=by rw[Go.Sort.scanUp];simp[ε]
    exact W.stop ⟨rfl,rfl,by rw[<-fC,e];simp⟩
  repeat apply ar
  refine W.sb [(0,.ms 0 n 0 n),(1,J a),(4,au),(11,J (bb:Nat)),(12,J (aN:Nat))] [.cells 112 2 ((f).toList.map aC)] ?_ ?_
  ·refine W.iter (λi:Nat=>i<=(j)/\bb<=i+1/\Go.Sort.scanDown (λx=>az cmp f[a]! x) f bb i=aN) (λi=>[(0,.ms 0 n 0 n),(1,J a),(4,au),(11,J (bb:Nat)),(12,J (i:Nat))]) (λ_=>[.cells 112 2 ((f).toList.map aC)]) (λi=>i+1-bb) ((j)) ⟨Nat.le_refl _,R,dp⟩ rfl θ (λi hi Β=>?_);obtain⟨oe,oI,fC⟩:=hi;by_cases ε:bb<=i
   ·have ba:i<n:=by omega
    have bn:a<n:=R;obtain⟨L,x,y,aG,γ,Ο,υ,⟨I,U⟩,⟨ξ,Κ⟩,-,-⟩:=j1 aC bY ba bn;obtain⟨q,Ψ⟩:∃q,i=q+1:=⟨i-1,R⟩;have un:Go.Sort.scanDown (λx=>az cmp f[a]! x) f bb i=if(az cmp y x)=true then Go.Sort.scanDown (λx=>az cmp f[a]! x) f bb (i-1) else i:=by subst Ψ;rw[Go.Sort.scanDown];simp[ε,γ,Ο]
    have hw:=oH (i:=i) R R;refine W.to (σ':=[.cells 112 2 L]) (env':=[(0,.ms 0 n 0 n),(1,J a),(4,au),(11,J (bb:Nat)),(12,J (i:Nat))]) ?_ (by rw[aG]) θ;clear γ Ο
    repeat apply ar
    refine W.draw (A:=[]) Φ mixed λΕ ζ=>iu (Μ ε (Μ υ (Μ I (Μ U (Μ ξ (Μ Κ (Μ ba bn))))))) ?_;refine gv (Χ y x) ?_;simp;(repeat (rw[dN];simp[]));try rw[dM]
    refine fy (ζ _ _ ?_);by_cases hm:cmp y x<0
    ·refine al (by simp[hm]) ?_;refine aR hw ?_;exact W.to (Β (i-1) ⟨R,R,by rw[<-fC,un];simp[hm,az]⟩ (by(try simp only);omega)) (by rw[aG]) (by simp[hw])
    ·refine aj (by simp[hm]) ?_;refine W.exit rfl ?_;exact W.stop ⟨rfl,by rw[aG],by rw[<-fC,un];simp[hm,az]⟩
   ·repeat apply ar
    refine gx ε ?_;refine aj rfl ?_;refine W.exit rfl ?_;have e:Go.Sort.scanDown (λx=>az cmp f[a]! x) f bb i=i:=by exact Ku _ _ R
    exact W.stop ⟨rfl,rfl,by rw[<-fC,e];simp⟩
  repeat apply ar
  by_cases ε:bb > aN
  ·have a8:((aN:Nat):Int)<(bb:Nat):=by omega
   refine aR a8 ?_;refine al (by simp[ε]) ?_;refine W.exit rfl ?_;rw[dY,if_pos ε] at bc;exact W.stop ⟨rfl,by rw[<-bc],by rw[<-bc];simp⟩
  ·have a8:¬((aN:Nat):Int)<(bb:Nat):=by omega
   have Cf:=oO R
   have jv:=iC (i:=bb) R
   have pE:=oH (i:=aN) R R;refine aR a8 ?_;refine aj (by simp[ε]) ?_;have ba:bb<n:=R;have bn:aN<n:=R;obtain⟨L,x,y,aG,γ,Ο,υ,⟨I,U⟩,⟨ξ,Κ⟩,eT,kz,aE⟩:=j1 aC bY ba bn;refine W.to (σ':=[.cells 112 2 L]) (env':=[(0,.ms 0 n 0 n),(1,J a),(4,au),(11,J (bb:Nat)),(12,J (aN:Nat))]) ?_ (by rw[aG]) θ;clear γ Ο
   repeat apply ar
   refine gx (Μ υ (Μ I (Μ U (Μ ξ (Μ Κ (Μ aE (Μ ba bn))))))) ?_;refine W.to (σ':=[.cells 112 2 ((Go.Sort.swp f bb aN).toList.map aC)]) (env':=[(0,.ms 0 n 0 n),(1,J a),(4,au),(11,J (bb:Nat)),(12,J (aN:Nat))]) ?_ (by rw[eT]) θ;clear ba bn I U ξ Κ aE eT υ aG L x y kz;refine aR (Μ jv pE) ?_;exact W.to (Β (bb+1,aN-1,Go.Sort.swp f bb aN) ⟨swp_size bY bb aN,by(try simp only);omega,by(try simp only);omega,by(try simp only);omega,by simp;rw[<-bc,dY,if_neg ε]⟩ (by(try simp only);omega)) rfl (by simp[jv,pE])
 refine Ζ ?_;have dY:Go.Sort.partitionEqual (az cmp) d a b p=ah:=by unfold Go.Sort.partitionEqual;rw[<-he,kR]
 exact W.ret ⟨_,rfl,by rw[dY];rfl,by rw[dY]⟩
theorem RQ (d:Array (Int×Int)) (n lo hi first:Nat) (Η:d.size=n) (ν:n<2 ^ 40) (lΥ:first+hi<=n) (k8:lo<=n) (au:η) (cmp:Int×Int->Int×Int->Int) (b3:ay 0 au) (Χ:∀x y,gi Tryz.prog au [aC x,aC y] (J (cmp x y))) :
  ao Tryz.prog 254 [.ms 0 n 0 n,J lo,J hi,J first,au] [.cells 112 2 ((d).toList.map aC)] (λr s=>r=.bw []/\s=[.cells 112 2 ((Go.Sort.siftDown (az cmp) hi first lo d).toList.map aC)]) (λ_ _=>False):=by
 refine ao.body Φ Tryz.func254 rfl rfl Tryz.ntmps254 rfl rfl θ ?_;refine Ζ ?_;obtain⟨ah,kR⟩:=cZ (Go.Sort.siftDown (az cmp) hi first lo d);rw[kR];refine W.iter (λq:Nat×Array (Int×Int)=>q.2.size=n/\q.1<=n/\Go.Sort.siftDown (az cmp) hi first q.1 q.2=ah) (λq=>[(0,.ms 0 n 0 n),(2,J hi),(3,J first),(4,au),(10,J (q.1:Nat))]) (λq=>[.cells 112 2 ((q.2).toList.map aC)]) (λq=>hi-q.1) (lo,d) ⟨Η,k8,kR⟩ rfl θ (λq Ψ Β=>?_);obtain⟨r,e⟩:=q;obtain⟨fe,κ,bc⟩:=Ψ;simp only at fe κ bc;obtain⟨c,ε⟩:=aF (2*r+1);obtain⟨c1,n8⟩:=aF (c+1);obtain⟨ax,np⟩:=aF (first+r);obtain⟨KH,BG⟩:=aF (first+c);obtain⟨fd,yA⟩:=aF (first+(c+1));have w1:IntKind.i64.wrap (2*(r:Int))=2*(r:Int):=by rw[IntWalk.i64_in _ R]
 have w2:IntKind.i64.wrap (2*(r:Int)+1)=(c:Int):=by rw[IntWalk.i64_in _ R];omega
 have w3:IntKind.i64.wrap ((c:Int)+1)=(c1:Int):=by rw[IntWalk.i64_in _ R];omega
 have w4:IntKind.i64.wrap ((first:Int)+(c:Int))=(KH:Int):=by rw[IntWalk.i64_in _ R];omega
 have yW:IntKind.i64.wrap ((KH:Int)+1)=(fd:Int):=by rw[IntWalk.i64_in _ R];omega
 have qP:IntKind.i64.wrap ((first:Int)+(r:Int))=(ax:Int):=by rw[IntWalk.i64_in _ R];omega
 refine W.to (σ':=[.cells 112 2 ((e).toList.map aC)]) (env':=[(0,.ms 0 n 0 n),(2,J hi),(3,J first),(4,au),(10,J (r:Nat))]) ?_ rfl θ;refine aR (Μ w1 w2) ?_;by_cases RR:hi<=c
 ·refine al (by simp[RR]) ?_;refine W.exit rfl ?_;exact W.nil ⟨_,rfl,rfl,by rw[<-bc,Go.Sort.siftDown,dif_pos R]⟩
 refine aj (by simp[RR]) ?_;obtain⟨B,fl⟩:=aF ((decide (c+1<hi)&&az cmp e[first+c]! e[first+(c+1)]!):Bool);obtain⟨k,ς⟩:∃k,k=if B=true then c+1 else c:=⟨_,rfl⟩
 have lΦ:k<hi:=by
  rw[ς];split
  ·rename_i h;rw[h] at fl;have:=fl.symm;simp at this;omega
  ·omega
 have un:=fθ (az cmp) hi first r e (k:=k) ε R (by rw[<-fl];exact ς)
 rw[un] at bc
 repeat apply ar
 refine W.El (A:=[]) Φ mixed [(40,bm B),(0,.ms 0 n 0 n),(2,J hi),(3,J first),(4,au),(10,J r),(11,J c)] ?_ (by
  by_cases oZ:c1<hi
  ·have ba:KH<n:=by omega
   have bn:fd<n:=R;obtain⟨L,x,y,aG,γ,Ο,υ,⟨I,U⟩,⟨ξ,Κ⟩,-,-⟩:=j1 aC fe ba bn;have KI:B=az cmp x y:=by rw[fl,<-γ,<-Ο,BG,yA];simp[<-n8,oZ]
   have fΙ:(c1:Int)<hi:=R;rw[aG];clear γ Ο;simp;(repeat (rw[dN];simp[w3,w4,yW,oZ,fΙ,υ,I,U,ξ,Κ,ba,bn]));(try rw[dM]);refine gv (Χ x y) ?_;simp;(repeat (rw[dN];simp[]));(try rw[dM]);refine⟨jk (by kernel_rfl),?_⟩;simp[KI,az]
  ·have KI:B=false:=by rw[fl];simp[<-n8,oZ]
   simp;(repeat (rw[dN];simp[w3,oZ]));(try rw[dM]);refine⟨jk (by kernel_rfl),?_⟩;simp[KI])
 have lΧ:r<k:=by rw[ς];split<;>omega
 repeat apply ar
 refine W.upto [(0,.ms 0 n 0 n),(2,J hi),(3,J first),(4,au),(10,J (r:Nat)),(11,J (k:Nat))] [.cells 112 2 ((e).toList.map aC)] ?_ ?_
 ·cases B with
  | true=>
   refine al rfl ?_;refine uo w3 ?_;exact W.stop ⟨rfl,rfl,by simp[ς,n8]⟩
  | false=>
   refine aj rfl ?_;refine W.skip ?_;exact W.stop ⟨rfl,rfl,by simp[ς]⟩
 obtain⟨fk,fΚ⟩:=aF (first+k);rw[<-np,<-fΚ] at bc;have qQ:IntKind.i64.wrap ((first:Int)+(k:Int))=(fk:Int):=by rw[IntWalk.i64_in _ R];omega
 have ba:ax<n:=R
 have bn:fk<n:=R;obtain⟨L,x,y,aG,γ,Ο,υ,⟨I,U⟩,⟨ξ,Κ⟩,eT,kz,aE⟩:=j1 aC fe ba bn;rw[γ,Ο] at bc;refine W.to (σ':=[.cells 112 2 L]) (env':=[(0,.ms 0 n 0 n),(2,J hi),(3,J first),(4,au),(10,J (r:Nat)),(11,J (k:Nat))]) ?_ (by rw[aG]) θ;clear γ Ο
 repeat apply ar
 refine W.draw (A:=[]) Φ mixed λΕ ζ=>iu (Μ qP (Μ qQ (Μ υ (Μ I (Μ U (Μ ξ (Μ Κ (Μ ba bn)))))))) ?_;refine gv (Χ x y) ?_;simp;(repeat (rw[dN];simp[]));try rw[dM]
 refine fy (ζ _ _ ?_);by_cases hm:cmp x y<0
 ·refine aj (by simp[hm]) ?_
  repeat apply ar
  refine gx (Μ qP (Μ qQ (Μ υ (Μ I (Μ U (Μ ξ (Μ Κ (Μ aE (Μ ba bn))))))))) ?_;refine Ζ ?_;refine W.to (Β (k,Go.Sort.swp e ax fk) ⟨swp_size fe ax fk,by(try simp only);omega,?_⟩ (by(try simp only);omega)) (by rw[eT]) θ;rw[<-bc];simp[hm,az]
 ·refine al (by simp[hm]) ?_;refine Ζ ?_;exact W.ret ⟨_,rfl,rfl,by rw[<-aG,<-bc];simp[hm,az]⟩
theorem fΜ (d:Array (Int×Int)) (n a b:Nat) (Η:d.size=n) (ν:n<2 ^ 40) (gU:a<b) (hb:b<=n) (au:η) (cmp:Int×Int->Int×Int->Int) (b3:ay 0 au) (Χ:∀x y,gi Tryz.prog au [aC x,aC y] (J (cmp x y))) :
  ao Tryz.prog 235 [.ms 0 n 0 n,J a,J b,au] [.cells 112 2 ((d).toList.map aC)] (λr s=>r=.bw []/\s=[.cells 112 2 ((Go.Sort.heapSort (az cmp) d a b).toList.map aC)]) (λ_ _=>False):=by
 refine ao.body Φ Tryz.func235 rfl rfl Tryz.ntmps235 rfl rfl θ ?_;obtain⟨m,hm⟩:=cZ (b-a);have w1:IntKind.i64.wrap ((b:Int)-(a:Int))=(m:Int):=by rw[IntWalk.i64_in _ R];omega
 have w2:IntKind.i64.wrap ((m:Int)-1)=((m-1:Nat):Int):=oH R R
 have w3:IntKind.i64.wrap (((m-1:Nat):Int) / 2)=(((m-1) / 2:Nat):Int):=FP (m:=2) R;obtain⟨eZ,iz⟩:=aF (m-1);obtain⟨eB,jX⟩:=aF ((m-1) / 2);rw[<-jX,<-iz] at w3;rw[<-iz] at w2;have wp:∀k:Nat,k<=n->IntKind.i64.wrap ((k:Int)-1)=(k:Int)-1:=λk ς=>by rw[IntWalk.i64_in _ R]
 obtain⟨pM,wV⟩:=cZ (Go.Sort.heapBuild (az cmp) m a (eB+1) d);have dY:Go.Sort.heapSort (az cmp) d a b=Go.Sort.heapPop (az cmp) a m pM:=by unfold Go.Sort.heapSort;rw[hm,<-jX,wV]
 refine aR (Μ w1 (Μ w2 w3)) ?_;refine W.sb [(0,.ms 0 n 0 n),(3,au),(8,J a),(9,J 0),(10,J m)] [.cells 112 2 ((pM).toList.map aC)] ?_ ?_
 ·refine W.iter (λq:Nat×Array (Int×Int)=>q.2.size=n/\q.1<=eB+1/\Go.Sort.heapBuild (az cmp) m a q.1 q.2=pM) (λq=>[(0,.ms 0 n 0 n),(3,au),(8,J a),(9,J 0),(10,J m),(11,.z (.int .i64 ((q.1:Int)-1)))]) (λq=>[.cells 112 2 ((q.2).toList.map aC)]) (λq=>q.1) (eB+1,d) ⟨Η,Nat.le_refl _,wV⟩ rfl θ (λq Ψ Β=>?_);obtain⟨k,e⟩:=q;obtain⟨fe,ς,bc⟩:=Ψ;simp only at fe ς bc;cases k with
  | zero=>
   refine Ζ ?_;refine aj rfl ?_;refine W.exit rfl ?_;exact W.stop ⟨rfl,by rw[<-bc];rfl,θ⟩
  | succ k=>
   have lC:(0:Int)<=(k:Int):=R;refine W.to (σ':=[.cells 112 2 ((e).toList.map aC)]) (env':=[(0,.ms 0 n 0 n),(3,au),(8,J a),(9,J 0),(10,J m),(11,.z (.int .i64 ((k:Int))))]) ?_ rfl θ;refine aR lC ?_;refine al θ ?_;refine bN λΕ ζ=>?_;refine ao.call (first:=[]) (captured:=[]) ((RQ e n k m a fe ν R R au cmp b3 Χ).mono (λr s ⟨eF,ei⟩=>?_) (λ_ _ h=>h.elim));subst eF;subst ei;simp;(repeat (rw[Υ];simp[]));apply ζ;refine aR (wp k R) ?_;exact W.to (Β (k,Go.Sort.siftDown (az cmp) m a k e) ⟨Ks fe,by(try simp only);omega,bc⟩ θ) rfl (by simp[wp k R])
 obtain⟨m',tr⟩:=cZ (Go.Sort.heapPop (az cmp) a m pM);have fΝ:pM.size=n:=by rw[<-wV];exact RG Η
 rw[tr] at dY;refine aR w2 ?_;refine W.iter (λq:Nat×Array (Int×Int)=>q.2.size=n/\q.1<=m/\Go.Sort.heapPop (az cmp) a q.1 q.2=m') (λq=>[(0,.ms 0 n 0 n),(3,au),(8,J a),(9,J 0),(10,J m),(12,.z (.int .i64 ((q.1:Int)-1)))]) (λq=>[.cells 112 2 ((q.2).toList.map aC)]) (λq=>q.1) (m,pM) ⟨fΝ,Nat.le_refl _,tr⟩ rfl (by simp[iz];omega) (λq Ψ Β=>?_);obtain⟨k,e⟩:=q;obtain⟨fe,ς,bc⟩:=Ψ;simp only at fe ς bc;cases k with
 | zero=>
  refine Ζ ?_;refine aj rfl ?_;refine W.exit rfl ?_;exact W.nil ⟨_,rfl,rfl,by rw[dY,<-bc];rfl⟩
 | succ k=>
  have lC:(0:Int)<=(k:Int):=R;obtain⟨qq,fΞ⟩:=aF (a+k);have qQ:IntKind.i64.wrap ((a:Int)+(k:Int))=(qq:Int):=by rw[IntWalk.i64_in _ R];omega
  refine W.to (σ':=[.cells 112 2 ((e).toList.map aC)]) (env':=[(0,.ms 0 n 0 n),(3,au),(8,J a),(9,J 0),(10,J m),(12,.z (.int .i64 ((k:Int))))]) ?_ rfl θ;refine aR lC ?_;refine al θ ?_;have ba:a<n:=R;have bn:qq<n:=R;obtain⟨L,x,y,aG,γ,Ο,υ,⟨I,U⟩,⟨ξ,Κ⟩,eT,kz,aE⟩:=j1 aC fe ba bn;refine W.to (σ':=[.cells 112 2 L]) (env':=[(0,.ms 0 n 0 n),(3,au),(8,J a),(9,J 0),(10,J m),(12,.z (.int .i64 ((k:Int))))]) ?_ (by rw[aG]) θ;clear γ Ο
  repeat apply ar
  refine gx (Μ υ (Μ I (Μ U (Μ ξ (Μ Κ (Μ aE (Μ ba (Μ bn qQ)))))))) ?_;refine W.to (σ':=[.cells 112 2 ((Go.Sort.swp e a qq).toList.map aC)]) (env':=[(0,.ms 0 n 0 n),(3,au),(8,J a),(9,J 0),(10,J m),(12,.z (.int .i64 ((k:Int))))]) ?_ (by rw[eT]) θ;clear ba bn I U ξ Κ aE eT υ aG L x y kz;refine bN λΕ ζ=>?_;refine ao.call (first:=[]) (captured:=[]) ((RQ (Go.Sort.swp e a qq) n 0 k a (swp_size fe a qq) ν R R au cmp b3 Χ).mono (λr s ⟨eF,ei⟩=>?_) (λ_ _ h=>h.elim));subst eF;subst ei;simp;(repeat (rw[Υ];simp[]));apply ζ;refine aR (wp k R) ?_;exact W.to (Β (k,Go.Sort.siftDown (az cmp) k a 0 (Go.Sort.swp e a qq)) ⟨Ks (swp_size fe a qq),by(try simp only);omega,by rw[fΞ];exact bc⟩ θ) rfl (by simp[wp k R])
theorem fΟ (d:Array (Int×Int)) (n a b:Nat) (Η:d.size=n) (ν:n<2 ^ 40) (gU:a<b) (hb:b<=n) (au:η) (cmp:Int×Int->Int×Int->Int) (b3:ay 0 au) (Χ:∀x y,gi Tryz.prog au [aC x,aC y] (J (cmp x y))) :
  ao Tryz.prog 238 [.ms 0 n 0 n,J a,J b,au] [.cells 112 2 ((d).toList.map aC)] (λr s=>r=.bw []/\s=[.cells 112 2 ((Go.Sort.reverseRange d a b).toList.map aC)]) (λ_ _=>False):=by
 refine ao.body Φ Tryz.func238 rfl rfl Tryz.ntmps238 rfl rfl θ ?_;have w1:=oH (i:=b) R R;refine aR w1 ?_;refine W.iter (λq:Nat×Nat×Array (Int×Int)=>q.2.2.size=n/\q.1<n/\q.2.1<n/\Go.Sort.reverseLoop q.1 q.2.1 q.2.2=Go.Sort.reverseRange d a b) (λq=>[(0,.ms 0 n 0 n),(8,J (q.1:Nat)),(9,J (q.2.1:Nat))]) (λq=>[.cells 112 2 ((q.2.2).toList.map aC)]) (λq=>q.2.1-q.1) (a,b-1,d) ⟨Η,by(try simp only);omega,by(try simp only);omega,rfl⟩ rfl (by simp[w1]) (λq Ψ Β=>?_);obtain⟨i,j,e⟩:=q;obtain⟨fe,hi,δ,bc⟩:=Ψ;simp only at fe hi δ bc;rw[Go.Sort.reverseLoop] at bc;refine W.to (σ':=[.cells 112 2 ((e).toList.map aC)]) (env':=[(0,.ms 0 n 0 n),(8,J (i:Nat)),(9,J (j:Nat))]) ?_ rfl θ;refine Ζ ?_;by_cases ε:i<j
 ·refine al (by simp[ε]) ?_;rw[if_pos ε] at bc;have w2:=iC (i:=i) R;have w3:=oH (i:=j) R R;have ba:i<n:=R;have bn:j<n:=R;obtain⟨L,x,y,aG,γ,Ο,υ,⟨I,U⟩,⟨ξ,Κ⟩,eT,kz,aE⟩:=j1 aC fe ba bn;refine W.to (σ':=[.cells 112 2 L]) (env':=[(0,.ms 0 n 0 n),(8,J (i:Nat)),(9,J (j:Nat))]) ?_ (by rw[aG]) θ;clear γ Ο
  repeat apply ar
  refine gx (Μ υ (Μ I (Μ U (Μ ξ (Μ Κ (Μ aE (Μ ba bn))))))) ?_;refine W.to (σ':=[.cells 112 2 ((Go.Sort.swp e i j).toList.map aC)]) (env':=[(0,.ms 0 n 0 n),(8,J (i:Nat)),(9,J (j:Nat))]) ?_ (by rw[eT]) θ;clear ba bn I U ξ Κ aE eT υ aG L x y kz;refine aR (Μ w2 w3) ?_;exact W.to (Β (i+1,j-1,Go.Sort.swp e i j) ⟨swp_size fe i j,by(try simp only);omega,by(try simp only);omega,bc⟩ (by(try simp only);omega)) rfl (by simp[w2,w3])
 ·refine aj (by simp[ε]) ?_;refine W.exit rfl ?_;rw[if_neg ε] at bc;exact W.nil ⟨_,rfl,rfl,by rw[bc]⟩
theorem KJ (d:Array (Int×Int)) (n a b s:Nat) (Η:d.size=n) (μ:a<n) (hb:b<n) (ν:s<2 ^ 40) (au:η) (cmp:Int×Int->Int×Int->Int) (b3:ay 0 au) (Χ:∀x y,gi Tryz.prog au [aC x,aC y] (J (cmp x y))) :
  ao Tryz.prog 258 [.ms 0 n 0 n,J a,J b,.an 1 1 0 0,au] [.cells 112 2 (d.toList.map aC),.cells 3 1 [J s]] (λr σ=>r=.bw [J (Go.Sort.order2 (az cmp) d a b s).1,J (Go.Sort.order2 (az cmp) d a b s).2.1]/\σ=[.cells 112 2 (d.toList.map aC),.cells 3 1 [J (Go.Sort.order2 (az cmp) d a b s).2.2]]) (λ_ _=>False):=by
 refine ao.body Φ Tryz.func258 rfl rfl Tryz.ntmps258 rfl rfl θ ?_;obtain⟨L,aG⟩:=aF (d.toList.map aC);have km:L.length=n:=by rw[aG];simpa using Η
 obtain⟨x,γ⟩:=aF (d[a]!);obtain⟨y,Ο⟩:=aF (d[b]!);have KL:L[a]?=some (aC x):=by rw[aG,γ,List.getElem?_map,Array.getElem?_toList,sX R];rfl
 have s':L[b]?=some (aC y):=by rw[aG,Ο,List.getElem?_map,Array.getElem?_toList,sX R];rfl
 have fΡ:∀h:a<L.length,L[a]=aC x:=λh=>by have:=KL;rw[a5 h] at this;exact Option.some.inj this
 have fΤ:∀h:b<L.length,L[b]=aC y:=λh=>by have:=s';rw[a5 h] at this;exact Option.some.inj this
 have hw:IntKind.i64.wrap ((s:Int)+1)=((s+1:Nat):Int):=by rw[IntWalk.i64_in _ R];omega
 have Α:Go.Sort.order2 (az cmp) d a b s=if az cmp y x=true then(b,a,s+1) else(a,b,s):=by unfold Go.Sort.order2;rw[<-γ,<-Ο]
 rw[Α,<-aG];clear aG γ Ο Α;refine Ζ ?_;refine W.draw (A:=[]) Φ mixed λΕ ζ=>iu (Μ km (Μ KL (Μ s' (Μ fΡ fΤ)))) ?_;refine⟨hb,μ,?_⟩;refine gv (Χ y x) ?_;simp;(repeat (rw[dN];simp[]));try rw[dM]
 refine fy (ζ _ _ ?_);by_cases hm:cmp y x<0
 ·refine al (by simp[hm]) ?_;refine aR hw ?_;exact W.ret ⟨_,rfl,by simp[az,Go.Sort.ltInt,hm],by simp[az,Go.Sort.ltInt,hm]⟩
 ·refine aj (by simp[hm]) ?_;refine aR hw ?_;exact W.ret ⟨_,rfl,by simp[az,Go.Sort.ltInt,hm],by simp[az,Go.Sort.ltInt,hm]⟩
theorem fΥ (d:Array (Int×Int)) (n a b c s:Nat) (Η:d.size=n) (μ:a<n) (hb:b<n) (ε:c<n) (ν:s<2 ^ 39) (au:η) (cmp:Int×Int->Int×Int->Int) (b3:ay 0 au) (Χ:∀x y,gi Tryz.prog au [aC x,aC y] (J (cmp x y))) :
  ao Tryz.prog 256 [.ms 0 n 0 n,J a,J b,J c,.an 1 1 0 0,au] [.cells 112 2 ((d).toList.map aC),.cells 3 1 [J (s:Nat)]] (λr σ=>r=J (Go.Sort.median (az cmp) d a b c s).1/\σ=[.cells 112 2 ((d).toList.map aC),.cells 3 1 [J ((Go.Sort.median (az cmp) d a b c s).2:Nat)]]) (λ_ _=>False):=by
 refine ao.body Φ Tryz.func256 rfl rfl Tryz.ntmps256 rfl rfl θ ?_;obtain⟨r1,Δ⟩:=cZ (Go.Sort.order2 (az cmp) d a b s);have f1:=Kt (az cmp) d (a:=a) (b:=b) (n:=n) R R s;have c1:=KJ d n a b s Η R R R au cmp b3 Χ;rw[Δ] at f1 c1;obtain⟨a1,bJ,s1⟩:=r1;simp only at f1 c1;obtain⟨r2,Γ⟩:=cZ (Go.Sort.order2 (az cmp) d bJ c s1);have f2:=Kt (az cmp) d (a:=bJ) (b:=c) (n:=n) R R s1;have c2:=KJ d n bJ c s1 Η R R R au cmp b3 Χ;rw[Γ] at f2 c2;obtain⟨bk,c8,s2⟩:=r2;simp only at f2 c2;obtain⟨r3,a0⟩:=cZ (Go.Sort.order2 (az cmp) d a1 bk s2);have f3:=Kt (az cmp) d (a:=a1) (b:=bk) (n:=n) R R s2;have c3:=KJ d n a1 bk s2 Η R R R au cmp b3 Χ;rw[a0] at f3 c3;obtain⟨cz,fY,oN⟩:=r3;simp only at f3 c3;have hm:Go.Sort.median (az cmp) d a b c s=(fY,oN):=by unfold Go.Sort.median;simp only[Δ,Γ,a0]
 rw[hm]
 repeat apply ar
 refine um ?_;refine bN λΕ ζ=>?_;refine ao.call (first:=[]) (captured:=[]) ((c1).mono (λr s ⟨eF,ei⟩=>?_) (λ_ _ h=>h.elim));subst eF;subst ei;simp;(repeat (rw[Υ];simp[]));apply ζ;refine bN λΕ ζ=>?_;refine ao.call (first:=[]) (captured:=[]) ((c2).mono (λr s ⟨eF,ei⟩=>?_) (λ_ _ h=>h.elim));subst eF;subst ei;simp;(repeat (rw[Υ];simp[]));apply ζ;refine bN λΕ ζ=>?_;refine ao.call (first:=[]) (captured:=[]) ((c3).mono (λr s ⟨eF,ei⟩=>?_) (λ_ _ h=>h.elim));subst eF;subst ei;simp;(repeat (rw[Υ];simp[]));apply ζ;refine Ζ ?_;exact W.ret ⟨_,rfl,rfl,rfl⟩
theorem fΦ (d:Array (Int×Int)) (n a b:Nat) (Η:d.size=n) (ν:n<2 ^ 38) (gU:a+12<b) (RS:b<a+50) (hb:b<=n) (au:η) (cmp:Int×Int->Int×Int->Int) (b3:ay 0 au) (Χ:∀x y,gi Tryz.prog au [aC x,aC y] (J (cmp x y))) :
  ao Tryz.prog 237 [.ms 0 n 0 n,J a,J b,au] [.cells 112 2 ((d).toList.map aC)] (λr s=>r=.bw [J (Go.Sort.choosePivot (az cmp) d a b).1,J (yU (Go.Sort.choosePivot (az cmp) d a b).2)]/\s=[.cells 112 2 ((d).toList.map aC)]) (λ_ _=>False):=by
 refine ao.body Φ Tryz.func237 rfl rfl Tryz.ntmps237 rfl rfl θ ?_;obtain⟨l,υ⟩:=aF (b-a);obtain⟨q,Ψ⟩:=aF (l / 4);obtain⟨eK,KM⟩:=aF (q*2);obtain⟨iO,fΧ⟩:=aF (q*3);obtain⟨i,hi⟩:=aF (a+q);obtain⟨j,δ⟩:=aF (a+eK);obtain⟨k,ς⟩:=aF (a+iO);obtain⟨gq,em⟩:=cZ (Go.Sort.median (az cmp) d i j k 0);have KN:=fΥ d n i j k 0 Η R R R R au cmp b3 Χ;rw[em] at KN;obtain⟨oJ,om⟩:=gq;simp only at KN;have dY:Go.Sort.choosePivot (az cmp) d a b=(oJ,if om=0 then .increasing else if om=12 then .decreasing else .unknown):=by
  have n0:8<=l:=R
  have fΨ:¬50<=l:=R;simp only[Go.Sort.choosePivot,<-υ,<-Ψ,Nat.mul_one,<-KM,<-fΧ,<-hi,<-δ,<-ς,ge_iff_le,if_pos n0,if_neg fΨ,em]
 rw[dY];have tj:(8:Int)<=(l:Int):=R;have fΩ:¬(50:Int)<=(l:Int):=R;have w1:IntKind.i64.wrap ((b:Int)-(a:Int))=(l:Int):=by rw[IntWalk.i64_in _ R];omega
 have w2:IntKind.i64.wrap ((l:Int) / 4)=(q:Int):=by rw[Ψ];exact FP (m:=4) R
 have w3:IntKind.i64.wrap (q:Int)=(q:Int):=IntWalk.i64_in _ R
 have w4:IntKind.i64.wrap ((q:Int)*2)=(eK:Int):=by rw[IntWalk.i64_in _ R];omega
 have yW:IntKind.i64.wrap ((q:Int)*3)=(iO:Int):=by rw[IntWalk.i64_in _ R];omega
 have qP:IntKind.i64.wrap ((a:Int)+(q:Int))=(i:Int):=by rw[IntWalk.i64_in _ R];omega
 have qQ:IntKind.i64.wrap ((a:Int)+(eK:Int))=(j:Int):=by rw[IntWalk.i64_in _ R];omega
 have w5:IntKind.i64.wrap ((a:Int)+(iO:Int))=(k:Int):=by rw[IntWalk.i64_in _ R];omega
 repeat apply ar
 refine um ?_
 repeat apply ar
 refine uo w1 ?_
 repeat apply ar
 refine dG (A:=[11]) Φ λΕ ζ=>bT ?_;apply ζ;refine aR (Μ w2 (Μ w3 (Μ w4 (Μ yW (Μ qP (Μ qQ (Μ w5 @tj))))))) ?_;refine al θ ?_;refine aR @fΩ ?_;refine aj θ ?_;refine bN λΕ ζ=>?_;refine ao.call (first:=[]) (captured:=[]) ((KN).mono (λr s ⟨eF,ei⟩=>?_) (λ_ _ h=>h.elim));subst eF;subst ei;simp;(repeat (rw[Υ];simp[]));apply ζ
 repeat apply ar
 refine um ?_;refine W.drop (h:=1) θ θ (RH sY) rfl [(13,J (oJ:Nat)),(55,J (om:Nat))] θ ?_;by_cases ai:om=0
 ·subst ai;refine Ζ ?_;refine al rfl ?_;refine Ζ ?_;exact W.ret ⟨_,rfl,rfl,rfl⟩
 have gα:¬(om:Int)=0:=R;refine aR gα ?_;refine aj (by simp[ai]) ?_;by_cases kn:om=12
 ·subst kn;refine Ζ ?_;refine al rfl ?_;refine Ζ ?_;exact W.ret ⟨_,rfl,rfl,rfl⟩
 have gβ:¬(om:Int)=12:=R;refine aR gβ ?_;refine aj (by simp[kn]) ?_;refine Ζ ?_;exact W.ret ⟨_,rfl,by simp[ai,kn,yU],rfl⟩
theorem RU (d:Array (Int×Int)) (n a b:Nat) (Η:d.size=n) (ν:n<2 ^ 40) (gU:a<b) (RS:b<a+50) (hb:b<=n) (au:η) (cmp:Int×Int->Int×Int->Int) (b3:ay 0 au) (Χ:∀x y,gi Tryz.prog au [aC x,aC y] (J (cmp x y))) :
  ao Tryz.prog 239 [.ms 0 n 0 n,J a,J b,au] [.cells 112 2 ((d).toList.map aC)] (λr s=>r=bm (Go.Sort.partialInsertionSort (az cmp) d a b).2/\s=[.cells 112 2 (((Go.Sort.partialInsertionSort (az cmp) d a b).1).toList.map aC)]) (λ_ _=>False):=by
 refine ao.body Φ Tryz.func239 rfl rfl Tryz.ntmps239 rfl rfl θ ?_;obtain⟨bb,fx⟩:=cZ (Go.Sort.scanSorted (az cmp) d b (a+1));have dY:Go.Sort.partialInsertionSort (az cmp) d a b=(d,decide (bb=b)):=by
  unfold Go.Sort.partialInsertionSort;rw[Go.Sort.partialIns,fx];by_cases h:bb=b
  ·simp[h]
  ·simp[h];omega
 rw[dY];have w1:=iC (i:=a) R;refine aR w1 ?_;refine .loop ?_;refine Ζ ?_;refine al rfl ?_
 repeat apply ar
 refine W.sb [(0,.ms 0 n 0 n),(1,J a),(2,J b),(3,au),(9,J (bb:Nat))] [.cells 112 2 ((d).toList.map aC)] ?_ ?_
 ·refine W.iter (λi:Nat=>a+1<=i/\i<=b/\Go.Sort.scanSorted (az cmp) d b i=bb) (λi=>[(0,.ms 0 n 0 n),(1,J a),(2,J b),(3,au),(9,J (i:Nat))]) (λ_=>[.cells 112 2 ((d).toList.map aC)]) (λi=>b-i) (a+1) ⟨Nat.le_refl _,R,fx⟩ rfl (by simp[w1]) (λi hi Β=>?_);obtain⟨oe,oI,fC⟩:=hi;by_cases ε:i<b
  ·obtain⟨p,ψ⟩:=aF (i-1);have ba:i<n:=R;have bn:p<n:=R;obtain⟨L,x,y,aG,γ,Ο,υ,⟨I,U⟩,⟨ξ,Κ⟩,-,-⟩:=j1 aC Η ba bn;have un:Go.Sort.scanSorted (az cmp) d b i=if(!az cmp x y)=true then Go.Sort.scanSorted (az cmp) d b (i+1) else i:=by rw[Go.Sort.scanSorted];simp[ε,γ,<-ψ,Ο]
   have hw:=iC (i:=i) R
   have iG:IntKind.i64.wrap ((i:Int)-1)=(p:Int):=by rw[IntWalk.i64_in _ R];omega
   refine W.to (σ':=[.cells 112 2 L]) (env':=[(0,.ms 0 n 0 n),(1,J a),(2,J b),(3,au),(9,J (i:Nat))]) ?_ (by rw[aG]) θ;clear γ Ο
   repeat apply ar
   refine W.draw (A:=[]) Φ mixed λΕ ζ=>iu (Μ ε (Μ iG (Μ υ (Μ I (Μ U (Μ ξ (Μ Κ (Μ ba bn)))))))) ?_;refine gv (Χ x y) ?_;simp;(repeat (rw[dN];simp[]));try rw[dM]
   refine fy (ζ _ _ ?_);by_cases hm:cmp x y<0
   ·refine aj (by simp[hm]) ?_;refine W.exit rfl ?_;exact W.stop ⟨rfl,by rw[aG],by rw[<-fC,un];simp[hm,az]⟩
   ·refine al (by simp[hm]) ?_;refine aR hw ?_;exact W.to (Β (i+1) ⟨R,R,by rw[<-fC,un];simp[hm,az]⟩ (by(try simp only);omega)) (by rw[aG]) (by simp[hw])
  ·repeat apply ar
   refine gx ε ?_;refine aj rfl ?_;refine W.exit rfl ?_;have e:Go.Sort.scanSorted (az cmp) d b i=i:=by rw[Go.Sort.scanSorted];simp[ε]
   exact W.stop ⟨rfl,rfl,by rw[<-fC,e];simp⟩
 by_cases FR:bb=b
 ·have g:(bb:Int)=(b:Int):=by omega
  refine aR g ?_;refine al (by simp[FR]) ?_;refine Ζ ?_;exact W.ret ⟨_,rfl,by simp[FR],rfl⟩
 ·have g:¬(bb:Int)=(b:Int):=by omega
  have af:((b-a:Nat):Int)<50:=R
  have w2:=Kx (a:=a) (b:=b) R R;refine aR g ?_;refine aj (by simp[FR]) ?_;refine aR (Μ w2 af) ?_;refine al θ ?_;refine Ζ ?_;exact W.ret ⟨_,rfl,by simp[FR],rfl⟩
theorem gγ (l:Nat) (υ:l<256):aD Tryz.prog 226 [J l] (oG ((1 <<< Go.Sort.bitsLen l:Nat):Int)):=by
 refine ao.body Φ Tryz.func226 rfl rfl Tryz.ntmps226 rfl rfl θ ?_;have Γ:IntKind.u64.wrap (l:Int)=l:=yV R;(repeat (first|apply ar|(refine bC λΕ ζ=>?_;simp;(repeat (rw[Υ];simp[Γ]));apply ζ)));(repeat apply ar);refine bC λΕ ζ=>?_;simp;(repeat (rw[Υ];simp[Γ]));refine aD.d (wx l υ) (bT ?_);apply ζ;refine Ζ ?_;refine W.ret ⟨_,rfl,.of ?_,rfl⟩;have hb:=(Go.Sort.bitsLen_le_iff l 8).2 υ;have e:=Kw 1 (Go.Sort.bitsLen l) R;have a0:1*2 ^ Go.Sort.bitsLen l % 18446744073709551616=1 <<< Go.Sort.bitsLen l:=by
  rw[Nat.one_mul,Nat.one_shiftLeft,Nat.mod_eq_of_lt (Nat.lt_of_le_of_lt (Nat.pow_le_pow_right R hb) bD)]
 rw[a0] at e;show oG (IntKind.u64.wrap (2 ^ min (Go.Sort.bitsLen l) IntKind.u64.bits))=_;rw[<-e];simp
theorem gδ (x:Nat) (γ:x<2 ^ 64):ao Tryz.prog 227 [.an 0 1 0 0] [.cells 248 1 [oG (x:Int)]] (λr s=>r=oG ((Go.Sort.xorNextN x:Nat):Int)/\s=[.cells 248 1 [oG ((Go.Sort.xorNextN x:Nat):Int)]]) (λ_ _=>False):=by
 refine ao.body Φ Tryz.func227 rfl rfl Tryz.ntmps227 rfl rfl θ ?_;obtain⟨eZ,iz⟩:=aF (x*2 ^ 13 % 18446744073709551616);obtain⟨o2,uY⟩:=aF (x^^^eZ);obtain⟨eB,jX⟩:=aF (o2 / 2 ^ 7);obtain⟨sC,FT⟩:=aF (o2^^^eB);obtain⟨uB,KO⟩:=aF (sC*2 ^ 17 % 18446744073709551616);obtain⟨Hr,KP⟩:=aF (sC^^^uB);have dY:Go.Sort.xorNextN x=Hr:=by rw[KP,KO,FT,jX,uY,iz];rfl
 rw[dY];have l1:eZ<2 ^ 64:=R;have k1:o2<2 ^ 64:=by rw[uY];exact Nat.xor_lt_two_pow γ l1
 have l2:eB<2 ^ 64:=R
 have cJ:sC<2 ^ 64:=by rw[FT];exact Nat.xor_lt_two_pow k1 l2
 have oM:uB<2 ^ 64:=R
 have a1:=Kw x 13 R;rw[<-iz] at a1;have bk:=Kv γ l1;rw[<-uY] at bk;have cz:=fν o2 7 R;rw[<-jX] at cz;have gm:=Kv k1 l2;rw[<-FT] at gm;have hO:=Kw sC 17 R;rw[<-KO] at hO;have mw:=Kv cJ oM;rw[<-KP] at mw;clear KP KO FT jX uY iz l1 k1 l2 cJ oM dY;refine Ζ ?_;refine gx (Μ a1 bk) ?_;refine Ζ ?_;refine gx (Μ cz gm) ?_;refine Ζ ?_;refine gx (Μ hO mw) ?_;refine Ζ ?_;exact W.ret ⟨_,rfl,rfl,rfl⟩
theorem gε (d:Array (Int×Int)) (n a b:Nat) (Η:d.size=n) (ν:n<2 ^ 40) (gU:a+12<b) (RS:b<a+50) (hb:b<=n) (au:η) (cmp:Int×Int->Int×Int->Int) (b3:ay 0 au) (Χ:∀x y,gi Tryz.prog au [aC x,aC y] (J (cmp x y))) :
  ao Tryz.prog 236 [.ms 0 n 0 n,J a,J b,au] [.cells 112 2 ((d).toList.map aC)] (λr s=>r=.bw []/\s=[.cells 112 2 ((Go.Sort.breakPatterns d a b).toList.map aC)]) (λ_ _=>False):=by
 refine ao.body Φ Tryz.func236 rfl rfl Tryz.ntmps236 rfl rfl θ ?_;obtain⟨l,υ⟩:=aF (b-a);obtain⟨q,Ψ⟩:=aF (l / 4);obtain⟨eK,KM⟩:=aF (q*2);obtain⟨c,ε⟩:=aF (a+eK);obtain⟨er,jM⟩:=aF (c-1);obtain⟨c1,n8⟩:=aF (c+1);obtain⟨m,hm⟩:=aF (1 <<< Go.Sort.bitsLen l);have gζ:Go.Sort.bitsLen l<=6:=(Go.Sort.bitsLen_le_iff l 6).2 R;have Ao:l<m/\m<=64/\m<=2*l:=by
  have I:=Go.Sort.lt_two_pow_bitsLen l
  have U:=Go.Sort.two_pow_bitsLen_le (n:=l) R;rw[hm,Nat.one_shiftLeft];exact⟨I,Nat.le_trans (Nat.pow_le_pow_right R gζ) bD,U⟩
 obtain⟨ah,kR⟩:=cZ (yT a l m 3 er (UInt64.ofNat l,d));have dY:Go.Sort.breakPatterns d a b=ah.2:=by rw[fκ (c:=c) υ R (by rw[ε,KM,Ψ]),<-hm,<-jM,kR]
 rw[dY];have w1:IntKind.i64.wrap ((b:Int)-(a:Int))=(l:Int):=by rw[IntWalk.i64_in _ R];omega
 have w2:IntKind.i64.wrap ((l:Int) / 4)=(q:Int):=by rw[Ψ];exact FP (m:=4) R
 have w4:IntKind.i64.wrap ((q:Int)*2)=(eK:Int):=by rw[IntWalk.i64_in _ R];omega
 have qP:IntKind.i64.wrap ((a:Int)+(eK:Int))=(c:Int):=by rw[IntWalk.i64_in _ R];omega
 have qQ:IntKind.i64.wrap ((c:Int)-1)=(er:Int):=by rw[IntWalk.i64_in _ R];omega
 have w5:IntKind.i64.wrap ((c:Int)+1)=(c1:Int):=by rw[IntWalk.i64_in _ R];omega
 have gη:IntKind.u64.wrap (l:Int)=(l:Int):=yV R
 have gθ:IntKind.u64.wrap ((m:Int)-1)=((m-1:Nat):Int):=by
  have e:(m:Int)-1=((m-1:Nat):Int):=R;rw[e];exact yV R
 have tj:(8:Int)<=(l:Int):=R
 have cD:(UInt64.ofNat l).toNat=l:=by rw[UInt64.toNat_ofNat'];exact Nat.mod_eq_of_lt R
 refine aR (Μ w1 @tj) ?_;refine al θ ?_
 repeat apply ar
 refine dG (A:=[9]) Φ λΕ ζ=>gQ gη ?_;apply ζ;have DQ:=gγ l R;rw[<-hm] at DQ;refine bN λΕ ζ=>?_;refine aD.c DQ (bS.refl _) θ θ ?_;simp;(repeat (rw[Υ];simp[]));apply ζ;refine aR (Μ w2 (Μ w4 (Μ qP qQ))) ?_;refine W.iter (λy:Nat×UInt64×Array (Int×Int)=>y.1<=3/\y.2.2.size=n/\yT a l m y.1 (c+2-y.1) y.2=ah) (λy=>[(0,.ms 0 n 0 n),(1,J a),(8,J (l:Nat)),(9,.an 1 1 0 0),(10,oG (m:Nat)),(11,J (c+2-y.1:Nat))]) (λy=>[.cells 112 2 ((y.2.2).toList.map aC),.cells 248 1 [oG ((y.2.1.toNat:Nat):Int)]]) (λy=>y.1) (3,UInt64.ofNat l,d) ⟨Nat.le_refl _,Η,by simp only;rw[<-kR,show c+2-3=er by omega]⟩ (by simp only;rw[cD]) (by simp[jM]) (λy Ο Β=>?_);obtain⟨t,st,e⟩:=y;obtain⟨Ν,fe,bc⟩:=Ο;simp only at Ν fe bc;obtain⟨b6,o6⟩:=aF (c+2-t);obtain⟨x,γ⟩:=aF st.toNat;have rq:x<2 ^ 64:=by rw[γ];exact st.toNat_lt
 rw[<-o6] at bc;refine W.to (σ':=[.cells 112 2 ((e).toList.map aC),.cells 248 1 [oG ((x:Nat):Int)]]) (env':=[(0,.ms 0 n 0 n),(1,J a),(8,J (l:Nat)),(9,.an 1 1 0 0),(10,oG (m:Nat)),(11,J (b6:Nat))]) ?_ (by rw[γ]) (by simp[o6]);cases t with
 | zero=>
  have g:¬(b6:Int)<=(c1:Int):=R;refine aR (Μ w2 (Μ w4 (Μ qP (Μ w5 g)))) ?_;refine aj θ ?_;refine W.exit rfl ?_;refine W.drop (h:=1) θ θ (RH sY) rfl [] θ ?_;exact W.nil ⟨_,rfl,rfl,by rw[<-bc];rfl⟩
 | succ t=>
  have g:(b6:Int)<=(c1:Int):=R;obtain⟨FU,CA⟩:=aF (Go.Sort.xorNext st);obtain⟨k6,mI⟩:=aF FU.toNat;have gι:k6=Go.Sort.xorNextN x:=by rw[mI,CA,Go.Sort.xorNext_toNat,γ]
  have gκ:k6<2 ^ 64:=by rw[mI];exact FU.toNat_lt
  have RV:=gδ x rq;rw[<-gι] at RV;obtain⟨z,Θ⟩:=aF (k6&&&(m-1));have gy:z<=m-1:=by rw[Θ];exact Nat.and_le_right
  have a3:e4 .u64 (k6:Int) ((m-1:Nat):Int)=(z:Int):=by rw[Θ];exact fξ gκ R
  have gμ:IntKind.i64.wrap (z:Int)=(z:Int):=IntWalk.i64_in _ R;obtain⟨o,Α⟩:=aF (if z>=l then z-l else z);have z4:o<l:=by rw[Α];split<;>omega
  have tr:yT a l m t (b6+1) (FU,Go.Sort.swp e b6 (a+o))=ah:=by
   rw[<-bc];show _=yT a l m t (b6+1) (Go.Sort.breakStep a l m (st,e) b6);unfold Go.Sort.breakStep;simp only;rw[<-CA,<-mI,<-Θ,<-Α]
  obtain⟨FV,FW⟩:=aF (a+o);rw[<-FW] at tr;refine aR (Μ w2 (Μ w4 (Μ qP (Μ w5 g)))) ?_;refine al θ ?_;refine bN λΕ ζ=>?_;refine ao.one RV 1 rfl (by simp[iR]) (by simp[iR]) (by simp[gj,pe]) (by simp[gj,pe]) rfl ?_;simp[ed,h4];(repeat (rw[Υ];simp[gθ,a3,gμ]));apply ζ;refine W.to (σ':=[.cells 112 2 ((e).toList.map aC),.cells 248 1 [oG ((k6:Nat):Int)]]) (env':=[(0,.ms 0 n 0 n),(1,J a),(8,J (l:Nat)),(9,.an 1 1 0 0),(10,oG (m:Nat)),(11,J (b6:Nat)),(12,J (z:Nat))]) ?_ rfl θ;refine Ζ ?_;refine W.upto [(0,.ms 0 n 0 n),(1,J a),(8,J (l:Nat)),(9,.an 1 1 0 0),(10,oG (m:Nat)),(11,J (b6:Nat)),(12,J (o:Nat))] [.cells 112 2 ((e).toList.map aC),.cells 248 1 [oG ((k6:Nat):Int)]] ?_ ?_
  ·by_cases pa:l<=z
   ·have wo:IntKind.i64.wrap ((z:Int)-(l:Int))=(o:Int):=by rw[IntWalk.i64_in _ R,Α,if_pos pa];omega
    refine al (by simp[pa]) ?_;refine aR wo ?_;exact W.stop ⟨rfl,rfl,θ⟩
   ·refine aj (by simp[pa]) ?_
    repeat apply ar
    exact W.stop ⟨rfl,rfl,by simp[Α,pa]⟩
  have gν:IntKind.i64.wrap ((a:Int)+(o:Int))=(FV:Int):=by rw[IntWalk.i64_in _ R];omega
  have ba:b6<n:=R
  have bn:FV<n:=R;obtain⟨L,x,y,aG,γ,Ο,υ,⟨I,U⟩,⟨ξ,Κ⟩,eT,kz,aE⟩:=j1 aC fe ba bn;rw[aG];clear γ Ο
  repeat apply ar
  refine gx (Μ υ (Μ I (Μ U (Μ ξ (Μ Κ (Μ aE (Μ ba (Μ bn gν)))))))) ?_;have gξ:=iC (i:=b6) R;refine aR gξ ?_;refine W.to (Β (t,FU,Go.Sort.swp e b6 FV) ⟨by(try simp only);omega,swp_size fe b6 FV,?_⟩ θ) (by rw[eT,mI]) (by simp[show c+2-t=b6+1 by omega]);have Δ:c+2-t=b6+1:=R;simp only;rw[Δ];exact tr
theorem gο (n:Nat) (ν:n<50) (au:η) (cmp:Int×Int->Int×Int->Int) (b3:ay 0 au) (Χ:∀x y,gi Tryz.prog au [aC x,aC y] (J (cmp x y))) (ff:Go.Sort.SWO (az cmp)):∀(k:Nat) (d:Array (Int×Int)) (a b lim:Nat),d.size=n->b-a<=k->a<=b->b<=n->lim<2 ^ 40->Go.Sort.Below (az cmp) a b d->
  ao Tryz.prog 211 [.ms 0 n 0 n,J a,J b,J lim,au] [.cells 112 2 ((d).toList.map aC)] (λr s=>r=.bw []/\s=[.cells 112 2 ((Go.Sort.pdq (az cmp) d a b lim true true).toList.map aC)]) (λ_ _=>False):=by
 intro k
 induction k using Nat.strongRecOn with
 | _ k xB=>
 intro d a b lim Η ς gU hb FX fl;refine ao.body Φ Tryz.func211 rfl rfl Tryz.ntmps211 rfl rfl θ ?_;obtain⟨ah,kR⟩:=cZ (Go.Sort.pdq (az cmp) d a b lim true true);rw[kR];refine Ζ ?_;refine W.iter (λq:fι (Int×Int)=>q.e.size=n/\q.a<=q.b/\q.b<=n/\q.b-q.a<=k/\q.lim<2 ^ 40/\Go.Sort.Below (az cmp) q.a q.b q.e/\Go.Sort.pdq (az cmp) q.e q.a q.b q.lim q.wb q.wp=ah) (λq=>[(0,.ms 0 n 0 n),(1,J (q.a:Nat)),(2,J (q.b:Nat)),(3,J (q.lim:Nat)),(4,au),(10,bm q.wb),(11,bm q.wp)]) (λq=>[.cells 112 2 ((q.e).toList.map aC)]) (λq=>q.b-q.a) ⟨a,b,lim,true,true,d⟩ ⟨Η,gU,hb,ς,FX,fl,kR⟩ rfl θ (λq Ψ Β=>?_);clear kR fl FX hb gU ς;obtain⟨a,b,lim,wb,wp,e⟩:=q;obtain⟨fe,gU,hb,ς,FX,fl,bc⟩:=Ψ;simp only at fe gU hb ς FX fl bc;obtain⟨l,υ⟩:=aF (b-a);have w1:IntKind.i64.wrap ((b:Int)-(a:Int))=(l:Int):=by rw[IntWalk.i64_in _ R];omega
 refine W.to (σ':=[.cells 112 2 ((e).toList.map aC)]) (env':=[(0,.ms 0 n 0 n),(1,J (a:Nat)),(2,J (b:Nat)),(3,J (lim:Nat)),(4,au),(10,bm wb),(11,bm wp)]) ?_ rfl θ;by_cases kn:b-a<=12
 ·have g:(l:Int)<=12:=by omega
  refine aR (Μ w1 g) ?_;refine al θ ?_;refine bN λΕ ζ=>?_;refine ao.call (first:=[]) (captured:=[]) ((OA e n a b fe gU hb R au cmp b3 Χ).mono (λr s ⟨eF,ei⟩=>?_) (λ_ _ h=>h.elim));subst eF;subst ei;simp;(repeat (rw[Υ];simp[]));apply ζ;rw[Go.Sort.pdq_small kn] at bc;exact W.ret ⟨_,rfl,rfl,by rw[<-bc]⟩
 have g:¬(l:Int)<=12:=R;refine aR (Μ w1 g) ?_;refine aj θ ?_;by_cases ai:lim=0
 ·have cV:(lim:Int)=0:=by omega
  refine aR cV ?_;refine al (by simp[ai]) ?_;refine bN λΕ ζ=>?_;refine ao.call (first:=[]) (captured:=[]) ((fΜ e n a b fe R R hb au cmp b3 Χ).mono (λr s ⟨eF,ei⟩=>?_) (λ_ _ h=>h.elim));subst eF;subst ei;simp;(repeat (rw[Υ];simp[]));apply ζ;rw[Go.Sort.pdq_heap kn ai] at bc;exact W.ret ⟨_,rfl,rfl,by rw[<-bc]⟩
 have cV:¬(lim:Int)=0:=R;refine aR cV ?_;refine aj (by simp[ai]) ?_;refine Ζ ?_;have F:=Go.Sort.rd_facts (limit:=lim) (wb:=wb) (wp:=wp) ff Go.Sort.partialInsertionSort_holds Go.Sort.reverseRange_holds (by omega:a<b) R fl;have RX:=Go.Sort.rd_lim_le (lt:=(az cmp)) (d:=e) (a:=a) (b:=b) (limit:=lim) (wb:=wb) (wp:=wp);have FY:=λh:wb=false=>show(Go.Sort.rd (az cmp) e a b lim wb wp).d1=Go.Sort.breakPatterns e a b/\(Go.Sort.rd (az cmp) e a b lim wb wp).lim=lim-1 by subst h;exact Go.Sort.rd_false
 have FZ:=λh:wb=true=>show(Go.Sort.rd (az cmp) e a b lim wb wp).d1=e/\(Go.Sort.rd (az cmp) e a b lim wb wp).lim=lim by subst h;exact Go.Sort.rd_true
 have F0:=Go.Sort.rd_c (lt:=(az cmp)) (d:=e) (a:=a) (b:=b) (limit:=lim) (wb:=wb) (wp:=wp)
 have Fd:=Go.Sort.rd_dec (lt:=(az cmp)) (d:=e) (a:=a) (b:=b) (limit:=lim) (wb:=wb) (wp:=wp)
 have Fn:=Go.Sort.rd_not (lt:=(az cmp)) (d:=e) (a:=a) (b:=b) (limit:=lim) (wb:=wb) (wp:=wp)
 have BH:=Go.Sort.rd_pi_yes (lt:=(az cmp)) (d:=e) (a:=a) (b:=b) (limit:=lim) (wb:=wb) (wp:=wp)
 have BI:=Go.Sort.rd_pi_no (lt:=(az cmp)) (d:=e) (a:=a) (b:=b) (limit:=lim) (wb:=wb) (wp:=wp)
 have pM:=Go.Sort.pdq_done (lt:=(az cmp)) (d:=e) (wb:=wb) (wp:=wp) kn ai
 have m':=Go.Sort.pdq_eq (lt:=(az cmp)) (d:=e) (wb:=wb) (wp:=wp) kn ai
 have lD:=Go.Sort.pdq_left (lt:=(az cmp)) (d:=e) (wb:=wb) (wp:=wp) kn ai
 have lE:=Go.Sort.pdq_right (lt:=(az cmp)) (d:=e) (wb:=wb) (wp:=wp) kn ai;rw[bc] at pM m' lD lE;obtain⟨r,κ⟩:=cZ (Go.Sort.rd (az cmp) e a b lim wb wp);rw[κ] at F RX FY FZ F0 Fd Fn BH BI pM m' lD lE;clear κ;obtain⟨d1,g8,⟨KQ,ch⟩,d2,oJ,BJ,d3,done⟩:=r;simp only at F RX FY FZ F0 Fd Fn BH BI pM m' lD lE;obtain⟨KR,lΨ,lΩ,KS,mα,u7,u9,RY⟩:=F;rw[fe] at KR KS u9;refine W.upto [(0,.ms 0 n 0 n),(1,J (a:Nat)),(2,J (b:Nat)),(3,J (g8:Nat)),(4,au),(10,bm wb),(11,bm wp),(12,J (l:Nat))] [.cells 112 2 ((d1).toList.map aC)] ?_ ?_
 ·cases wb with
  | false=>
   obtain⟨f1,f2⟩:=FY rfl;refine al rfl ?_;refine bN λΕ ζ=>?_;refine ao.call (first:=[]) (captured:=[]) ((gε e n a b fe R R R hb au cmp b3 Χ).mono (λr s ⟨eF,ei⟩=>?_) (λ_ _ h=>h.elim));subst eF;subst ei;simp;(repeat (rw[Υ];simp[]));apply ζ;have w2:=oH (i:=lim) R R;refine uo w2 ?_;exact W.stop ⟨rfl,by rw[f1],by simp[f2]⟩
  | true=>
   obtain⟨f1,f2⟩:=FZ rfl;refine aj rfl ?_;refine W.skip ?_;exact W.stop ⟨rfl,by rw[f1],by simp[f2]⟩
 have KT:=fΦ d1 n a b KR R R R hb au cmp b3 Χ;rw[<-F0] at KT;simp only at KT;refine bN λΕ ζ=>?_;refine ao.call (first:=[]) (captured:=[]) ((KT).mono (λr s ⟨eF,ei⟩=>?_) (λ_ _ h=>h.elim));subst eF;subst ei;simp;(repeat (rw[Υ];simp[]));apply ζ;refine W.to (σ':=[.cells 112 2 ((d1).toList.map aC)]) (env':=[(0,.ms 0 n 0 n),(1,J (a:Nat)),(2,J (b:Nat)),(3,J (g8:Nat)),(4,au),(10,bm wb),(11,bm wp),(12,J (l:Nat)),(13,J (KQ:Nat)),(14,J (yU ch))]) ?_ rfl θ;refine Ζ ?_;refine W.upto [(0,.ms 0 n 0 n),(1,J (a:Nat)),(2,J (b:Nat)),(3,J (g8:Nat)),(4,au),(10,bm wb),(11,bm wp),(12,J (l:Nat)),(13,J (oJ:Nat)),(14,J (yU BJ))] [.cells 112 2 ((d2).toList.map aC)] ?_ ?_
 ·by_cases hd:ch=.decreasing
  ·obtain⟨f1,f2,f3⟩:=Fd hd;subst hd;refine al rfl ?_;refine bN λΕ ζ=>?_;refine ao.call (first:=[]) (captured:=[]) ((fΟ d1 n a b KR R R hb au cmp b3 Χ).mono (λr s ⟨eF,ei⟩=>?_) (λ_ _ h=>h.elim));subst eF;subst ei;simp;(repeat (rw[Υ];simp[]));apply ζ;have w2:=oH (i:=b) R R;have w3:=Kx (a:=a) (b:=KQ) R R;have w4:=Kx (a:=KQ-a) (b:=b-1) R R;rw[<-f2] at w4;refine W.seq ?_;refine uo (Μ w2 (Μ w3 w4)) ?_;refine um ?_;exact W.stop ⟨rfl,by rw[f1],by simp[f3,yU]⟩
  ·obtain⟨f1,f2,f3⟩:=Fn hd;refine aj (by cases ch with
    | decreasing=>exact absurd rfl hd
    | unknown=>rfl
    | increasing=>rfl) ?_
   refine W.skip ?_;exact W.stop ⟨rfl,by rw[f1],by simp[f2,f3]⟩
 repeat apply ar
 refine W.sQ (A:=[]) Φ [(75,bm (wb&&wp&&decide (BJ=.increasing))),(0,.ms 0 n 0 n),(1,J (a:Nat)),(2,J (b:Nat)),(3,J (g8:Nat)),(4,au),(10,bm wb),(11,bm wp),(12,J (l:Nat)),(13,J (oJ:Nat))] ?_ (by cases wb<;>cases wp<;>cases BJ<;>simp[Υ,qi,yU])
 repeat apply ar
 rcases Bool.eq_false_or_eq_true done with k2|k2
 ·cases ε:(wb&&wp&&decide (BJ=.increasing)) with
  | true=>
   have f:=BH ε;refine al rfl ?_;have na:=RU d2 n a b KS R R R hb au cmp b3 Χ;rw[<-f] at na;simp only[k2] at na;refine bN λΕ ζ=>?_;refine ao.call (first:=[]) (captured:=[]) ((na).mono (λr s ⟨eF,ei⟩=>?_) (λ_ _ h=>h.elim));subst eF;subst ei;simp;(repeat (rw[Υ];simp[]));apply ζ;refine al rfl ?_;exact W.ret ⟨_,rfl,rfl,by rw[pM k2]⟩
  | false=>
   have f:=(Prod.mk.inj (BI ε)).2;rw[k2] at f;cases f
 refine W.upto [(0,.ms 0 n 0 n),(1,J (a:Nat)),(2,J (b:Nat)),(3,J (g8:Nat)),(4,au),(10,bm wb),(11,bm wp),(12,J (l:Nat)),(13,J (oJ:Nat))] [.cells 112 2 ((d3).toList.map aC)] ?_ ?_
 ·cases ε:(wb&&wp&&decide (BJ=.increasing)) with
  | true=>
   have f:=BH ε;refine al rfl ?_;have na:=RU d2 n a b KS R R R hb au cmp b3 Χ;rw[<-f] at na;simp only[k2] at na;refine bN λΕ ζ=>?_;refine ao.call (first:=[]) (captured:=[]) ((na).mono (λr s ⟨eF,ei⟩=>?_) (λ_ _ h=>h.elim));subst eF;subst ei;simp;(repeat (rw[Υ];simp[]));apply ζ;refine aj rfl ?_;refine W.skip ?_;exact W.stop ⟨rfl,rfl,θ⟩
  | false=>
   have f1:=(Prod.mk.inj (BI ε)).1;refine aj rfl ?_;refine W.skip ?_;exact W.stop ⟨rfl,by rw[f1],θ⟩
 clear pM BH BI Fd Fn F0 FY FZ;have m':=m' k2;have lD:=lD k2;have lE:=lE k2;obtain⟨P,w6⟩:=cZ ((decide (a > 0)&&!az cmp d3[a-1]! d3[oJ]!):Bool);rw[w6] at m' lD lE
 repeat apply ar
 refine W.El (A:=[]) Φ mixed [(97,bm P),(0,.ms 0 n 0 n),(1,J (a:Nat)),(2,J (b:Nat)),(3,J (g8:Nat)),(4,au),(10,bm wb),(11,bm wp),(12,J (l:Nat)),(13,J (oJ:Nat))] ?_ (by
  by_cases μ:0<a
  ·obtain⟨p,ψ⟩:=aF (a-1);have ba:p<n:=R;have bn:oJ<n:=R;obtain⟨L,x,y,aG,γ,Ο,υ,⟨I,U⟩,⟨ξ,Κ⟩,-,-⟩:=j1 aC u9 ba bn;have KU:P = !az cmp x y:=by rw[<-w6,<-ψ,γ,Ο];simp[μ]
   have eo:(0:Int)<(a:Int):=R
   have w2:IntKind.i64.wrap ((a:Int)-1)=(p:Int):=by rw[IntWalk.i64_in _ R];omega
   rw[aG];clear γ Ο;simp;(repeat (rw[dN];simp[μ,eo,w2,υ,I,U,ξ,Κ,ba,bn]));(try rw[dM]);refine gv (Χ x y) ?_;simp;(repeat (rw[dN];simp[]));(try rw[dM]);refine⟨jk (by kernel_rfl),?_⟩;simp[KU,az]
  ·have KU:P=false:=by rw[<-w6];simp[μ]
   have eo:a=0:=R;subst eo;simp;(repeat (rw[dN];simp[]));(try rw[dM]);refine⟨jk (by kernel_rfl),?_⟩;simp[KU])
 repeat apply ar
 rcases Bool.eq_false_or_eq_true P with w7|w7
 ·refine al (by simp[w7]) ?_;rw[w7] at w6;simp only[Bool.and_eq_true,decide_eq_true_eq,Bool.not_eq_true'] at w6;obtain⟨⟨mid,d4⟩,γ⟩:∃r,Go.Sort.partitionEqual (az cmp) d3 a b oJ=r:=⟨_,rfl⟩;obtain⟨eZ,eB,uB,x9,-⟩:=Go.Sort.round_eq ff (Go.Sort.partitionEqual_holds _) w6.1 u7.1 u7.2 (by rw[u9];exact hb) RY w6.2 γ;have m':=m' w7;rw[γ] at m';have m':=m' ⟨eZ,eB⟩;simp only at m';have na:=fΘ d3 n a b oJ u9 R u7.1 u7.2 hb au cmp b3 Χ;rw[γ] at na;simp only at na;refine bN λΕ ζ=>?_;refine ao.call (first:=[]) (captured:=[]) ((na).mono (λr s ⟨eF,ei⟩=>?_) (λ_ _ h=>h.elim));subst eF;subst ei;simp;(repeat (rw[Υ];simp[]));apply ζ;refine Ζ ?_;refine W.exit rfl ?_;exact W.to (Β ⟨mid,b,g8,wb,wp,d4⟩ ⟨uB.trans u9,eB,hb,by(try simp only);omega,by(try simp only);omega,x9,m'.symm⟩ (by(try simp only);omega)) rfl θ
 refine aj (by simp[w7]) ?_;obtain⟨⟨mid,ap,d4⟩,γ⟩:∃r,Go.Sort.partition (az cmp) d3 a b oJ=r:=⟨_,rfl⟩;obtain⟨eZ,eB,uB,x9,Az,gπ,RZ⟩:=Go.Sort.round_part ff (Go.Sort.partition_holds _) u7.1 u7.2 (by rw[u9];exact hb) RY γ;have lD:=lD w7;have lE:=lE w7;rw[γ] at lD lE;have lD:=lD ⟨eZ,eB⟩;have lE:=lE ⟨eZ,eB⟩;simp only at lD lE;have na:=fΕ d3 n a b oJ u9 R u7.1 u7.2 hb au cmp b3 Χ;rw[γ] at na;simp only at na;have F1:d4.size=n:=uB.trans u9;obtain⟨u,hu⟩:=aF (mid-a);obtain⟨v,hv⟩:=aF (b-mid);obtain⟨vi,R0⟩:=aF (l / 8);obtain⟨cP,iP⟩:=aF (mid+1);have yW:IntKind.i64.wrap ((mid:Int)-(a:Int))=(u:Int):=by rw[IntWalk.i64_in _ R];omega
 have qP:IntKind.i64.wrap ((b:Int)-(mid:Int))=(v:Int):=by rw[IntWalk.i64_in _ R];omega
 have qQ:IntKind.i64.wrap ((l:Int) / 8)=(vi:Int):=by rw[R0];exact FP (m:=8) R
 have w5:IntKind.i64.wrap ((mid:Int)+1)=(cP:Int):=by rw[IntWalk.i64_in _ R];omega
 rw[<-hu,<-hv,<-υ,<-R0,<-iP] at lD lE;refine bN λΕ ζ=>?_;refine ao.call (first:=[]) (captured:=[]) ((na).mono (λr s ⟨eF,ei⟩=>?_) (λ_ _ h=>h.elim));subst eF;subst ei;simp;(repeat (rw[Υ];simp[]));apply ζ;by_cases ov:u<v
 ·have Τ:(u:Int)<(v:Int):=by omega
  refine aR (Μ yW (Μ qP (Μ qQ @Τ))) ?_;refine al θ ?_;obtain⟨dL,p2⟩:=Go.Sort.pdq_sorts (az cmp) ff d4 a mid g8 true true eZ R x9;have BK:=xB (mid-a) R d4 a mid g8 F1 (Nat.le_refl _) eZ R R x9;have lD:=lD ov;obtain⟨B',-⟩:=gπ _ dL p2;have s1:=dL.1.trans F1;obtain⟨Γ,nB⟩:=cZ (Go.Sort.pdq (az cmp) d4 a mid g8 true true);rw[nB] at BK lD B' s1;refine bN λΕ ζ=>?_;apply ζ;refine bN λΕ ζ=>?_;refine ao.call (first:=[]) (captured:=[]) ((BK).mono (λr s ⟨eF,ei⟩=>?_) (λ_ _ h=>h.elim));subst eF;subst ei;simp;(repeat (rw[Υ];simp[]));apply ζ;refine aR w5 ?_;exact W.to (Β ⟨cP,b,g8,decide (u>=vi),ap,Γ⟩ ⟨s1,by(try simp only);omega,hb,by(try simp only);omega,by(try simp only);omega,by simp only;rw[iP];exact B',lD.symm⟩ (by(try simp only);omega)) rfl θ
 ·have Τ:¬(u:Int)<(v:Int):=by omega
  refine aR (Μ yW (Μ qP (Μ qQ @Τ))) ?_;refine aj θ ?_;obtain⟨dL,p2⟩:=Go.Sort.pdq_sorts (az cmp) ff d4 (mid+1) b g8 true true R R Az;rw[<-iP] at dL p2 Az;have BK:=xB (b-cP) R d4 cP b g8 F1 (Nat.le_refl _) R hb R Az;have lE:=lE ov;rw[<-iP] at RZ;obtain⟨B',-⟩:=RZ _ dL p2;have s1:=dL.1.trans F1;obtain⟨Γ,nB⟩:=cZ (Go.Sort.pdq (az cmp) d4 cP b g8 true true);rw[nB] at BK lE B' s1;refine bN λΕ ζ=>?_;apply ζ;refine h5 w5 λΕ ζ=>?_;refine ao.call (first:=[]) (captured:=[]) ((BK).mono (λr s ⟨eF,ei⟩=>?_) (λ_ _ h=>h.elim));subst eF;subst ei;simp;(repeat (rw[Υ];simp[]));apply ζ;refine Ζ ?_;exact W.to (Β ⟨a,mid,g8,decide (v>=vi),ap,Γ⟩ ⟨s1,eZ,by(try simp only);omega,by(try simp only);omega,by(try simp only);omega,B',lE.symm⟩ (by(try simp only);omega)) rfl θ
theorem gρ {α:Type} [Inhabited α] {lt:α->α->Bool} (ν:Go.Sort.SWO lt) (μ:∀x y,lt x y=false->lt y x=false->x=y) (l:List α):(Go.Sort.pdq lt l.toArray 0 l.length (Go.Sort.bitsLen l.length) true true).toList=l.mergeSort (λx y=>!lt y x):=by
 obtain⟨I,U⟩:=Go.Sort.pdq_sorts lt ν l.toArray 0 l.length (Go.Sort.bitsLen l.length) true true (Nat.zero_le _) θ (.inl rfl);exact Go.Sort.sorted_unique_holds (lt:=lt) ν μ l.toArray _ (by simpa using I) (by simpa using U)
theorem gς:EI 49:=λl υ=>by
 obtain⟨au,b3⟩:=aF (.fn (.func 174) [] []:η);have gτ:ay 0 au:=by rw[b3];simp[l4]
 have Χ:∀x y,gi Tryz.prog au [aC x,aC y] (J (nG x y)):=λx y=>by rw[b3];exact aD.p (Oz x y) (bS.refl _) θ θ
 obtain⟨n,Η⟩:=aF l.length;have hb:Go.Sort.bitsLen n<=6:=(Go.Sort.bitsLen_le_iff n 6).2 R;have h:=gο n R au nG gτ Χ yd n l.toArray 0 n (Go.Sort.bitsLen n) (by simp[Η]) R R (Nat.le_refl _) R (.inl rfl);have ψ:=gρ yd OU l;rw[<-Η] at ψ;have e:(λx y:Int×Int=>!az nG y x)=lk:=rfl;rw[ψ,e] at h;rw[<-b3,<-Η];clear ψ e;have km:(l.map aC).length=n:=by rw[List.length_map,Η]
 have cD:l.toArray.toList=l:=rfl;rw[cD] at h;refine ao.body Φ Tryz.func173 rfl rfl Tryz.ntmps173 rfl rfl θ ?_;have Δ:=fV (show n<2 ^ 62 by omega);have Γ:IntKind.u64.wrap (n:Int)=n:=yV R;have s4:=Η.symm;refine aR s4 ?_;(repeat apply ar);refine bC λΕ ζ=>?_;simp;(repeat (rw[Υ];simp[Δ,Γ]));refine aD.d (wx n R) (bT ?_);refine ao.call (first:=[]) (captured:=[]) (h.mono (λr s ⟨eF,ei⟩=>?_) (λ_ _ h=>h.elim));subst eF;subst ei;simp;(repeat (rw[Υ];simp[]));apply ζ;exact W.nil ⟨_,rfl,rfl,rfl⟩
end Go.TL
