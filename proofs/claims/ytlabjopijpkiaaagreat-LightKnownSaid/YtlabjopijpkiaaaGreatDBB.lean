import Derived.Test.YtlabjopijpkiaaaGreatDAP
import Derived.Test.YtlabjopijpkiaaaGreatDAS
import Derived.Test.YtlabjopijpkiaaaGreatDBA
set_option maxHeartbeats 16000000
set_option maxRecDepth 20000
set_option linter.unusedSectionVars false
set_option linter.unusedSimpArgs false
set_option linter.unusedVariables false
namespace Go.TL
open Go.Proofs
variable [bj]
theorem bξ (d:Array (Int×Int)) (n a b p:Nat) (Ε:d.size=n) (μ:n<2 ^ 40) (iw:a<=p) (bο:p<b) (hb:b<=n) (ag:θ) (cmp:Int×Int->Int×Int->Int) (bu:aK 0 ag) (Υ:∀x y,eW Tryz.prog ag [aC x,aC y] (J (cmp x y))) :
  ak Tryz.prog 241 [.ms 0 n 0 n,J a,J b,J p,ag] [.cells 112 2 ((d).toList.map aC)] (λr s=>r=.a3 [J (Go.Sort.partition (ar cmp) d a b p).1,bs (Go.Sort.partition (ar cmp) d a b p).2.1]/\s=[.cells 112 2 (((Go.Sort.partition (ar cmp) d a b p).2.2).toList.map aC)]) (λ_ _=>False):=by
 refine ak.body Ρ Tryz.func241 rfl rfl Tryz.ntmps241 rfl rfl η ?_;have k6:=jW (i:=a) γ;have l':=n9 (i:=b) γ γ
 repeat apply al
 refine vk ?_;have bp:a<n:=γ;have bk:p<n:=γ;obtain⟨L,x,y,av,U,Φ,υ,⟨I,R⟩,⟨ν,Ι⟩,ey,kp,aB⟩:=jV aC Ε bp bk;refine W.to (σ':=[.cells 112 2 L]) (env':=[(0,.ms 0 n 0 n),(1,J a),(2,J b),(3,J p),(4,ag)]) ?_ (by rw[av]) η;clear U Φ
 repeat apply al
 refine fD (Ζ υ (Ζ I (Ζ R (Ζ ν (Ζ Ι (Ζ aB (Ζ bp bk))))))) ?_;refine W.to (σ':=[.cells 112 2 ((Go.Sort.swp d a p).toList.map aC)]) (env':=[(0,.ms 0 n 0 n),(1,J a),(2,J b),(3,J p),(4,ag)]) ?_ (by rw[ey]) η;clear bp bk I R ν Ι aB ey υ av L x y kp;obtain⟨e,he⟩:=aO (Go.Sort.swp d a p);have fa:e.size=n:=by rw[he];exact swp_size Ε a p
 rw[<-he]
 repeat apply al
 refine tz (Ζ k6 l') ?_;refine W.to (σ':=[.cells 112 2 ((e).toList.map aC)]) (env':=[(0,.ms 0 n 0 n),(1,J a),(4,ag),(12,J (a+1:Nat)),(13,J (b-1:Nat))]) ?_ rfl η;obtain⟨a',fs⟩:=gW (Go.Sort.scanUp (λx=>ar cmp x e[a]!) e (b-1) (a+1));obtain⟨bb,dy⟩:=gW (Go.Sort.scanDown (λx=>!ar cmp x e[a]!) e a' (b-1));obtain⟨s1,s2,oh,uy,oi⟩:=AU (λx=>ar cmp x e[a]!) (λx=>!ar cmp x e[a]!) (λx=>rfl) e γ γ fs dy;have dW:Go.Sort.partition (ar cmp) d a b p=if a' > bb then(bb,true,Go.Sort.swp e bb a) else((Go.Sort.partLoop (ar cmp) a (a'+1) (bb-1) (Go.Sort.swp e a' bb)).1,false,Go.Sort.swp (Go.Sort.partLoop (ar cmp) a (a'+1) (bb-1) (Go.Sort.swp e a' bb)).2 (Go.Sort.partLoop (ar cmp) a (a'+1) (bb-1) (Go.Sort.swp e a' bb)).1 a):=by
  unfold Go.Sort.partition;simp only[<-he,fs,dy]
 repeat apply al
 repeat apply al
 refine W.ry [(0,.ms 0 n 0 n),(1,J a),(4,ag),(12,J (a':Nat)),(13,J (b-1:Nat))] [.cells 112 2 ((e).toList.map aC)] ?_ ?_
 ·refine W.iter (λi:Nat=>(a+1)<=i/\i<=(b-1)+1/\Go.Sort.scanUp (λx=>ar cmp x e[a]!) e (b-1) i=a') (λi=>[(0,.ms 0 n 0 n),(1,J a),(4,ag),(12,J (i:Nat)),(13,J (b-1:Nat))]) (λ_=>[.cells 112 2 ((e).toList.map aC)]) (λi=>(b-1)+1-i) ((a+1)) ⟨Nat.le_refl _,γ,fs⟩ rfl η (λi hi ω=>?_);obtain⟨oR,rz,gq⟩:=hi;by_cases ε:i<=(b-1)
  ·have bp:i<n:=by omega
   have bk:a<n:=γ;obtain⟨L,x,y,av,U,Φ,υ,⟨I,R⟩,⟨ν,Ι⟩,-,-⟩:=jV aC fa bp bk;have un:Go.Sort.scanUp (λx=>ar cmp x e[a]!) e (b-1) i=if(ar cmp x y)=true then Go.Sort.scanUp (λx=>ar cmp x e[a]!) e (b-1) (i+1) else i:=by rw[Go.Sort.scanUp];simp[ε,U,Φ]
   have hw:=jW (i:=i) γ;refine W.to (σ':=[.cells 112 2 L]) (env':=[(0,.ms 0 n 0 n),(1,J a),(4,ag),(12,J (i:Nat)),(13,J (b-1:Nat))]) ?_ (by rw[av]) η;clear U Φ
   repeat apply al
   refine W.draw (A:=[]) Ρ mixed λΔ ζ=>mj (Ζ ε (Ζ υ (Ζ I (Ζ R (Ζ ν (Ζ Ι (Ζ bp bk))))))) ?_;refine eS (Υ x y) ?_;simp;(repeat (rw[dZ];simp[]));try rw[dY]
   refine fC (ζ _ _ ?_);by_cases hm:cmp x y<0
   ·refine aA (by simp[hm]) ?_;refine aT hw ?_;exact W.to (ω (i+1) ⟨γ,γ,by rw[<-gq,un];simp[hm,ar]⟩ (by(try simp only);omega)) (by rw[av]) (by simp[hw])
   ·refine ay (by simp[hm]) ?_;refine W.exit rfl ?_;exact W.stop ⟨rfl,by rw[av],by rw[<-gq,un];simp[hm,ar]⟩
  ·repeat apply al
   refine fD ε ?_;refine ay rfl ?_;refine W.exit rfl ?_;have e:Go.Sort.scanUp (λx=>ar cmp x e[a]!) e (b-1) i=i:=by rw[Go.Sort.scanUp];simp[ε]
   exact W.stop ⟨rfl,rfl,by rw[<-gq,e];simp⟩
 repeat apply al
 refine W.ry [(0,.ms 0 n 0 n),(1,J a),(4,ag),(12,J (a':Nat)),(13,J (bb:Nat))] [.cells 112 2 ((e).toList.map aC)] ?_ ?_
 ·refine W.iter (λi:Nat=>i<=(b-1)/\a'<=i+1/\Go.Sort.scanDown (λx=>!ar cmp x e[a]!) e a' i=bb) (λi=>[(0,.ms 0 n 0 n),(1,J a),(4,ag),(12,J (a':Nat)),(13,J (i:Nat))]) (λ_=>[.cells 112 2 ((e).toList.map aC)]) (λi=>i+1-a') ((b-1)) ⟨Nat.le_refl _,γ,dy⟩ rfl η (λi hi ω=>?_);obtain⟨oR,rz,gq⟩:=hi;by_cases ε:a'<=i
  ·have bp:i<n:=by omega
   have bk:a<n:=γ;obtain⟨L,x,y,av,U,Φ,υ,⟨I,R⟩,⟨ν,Ι⟩,-,-⟩:=jV aC fa bp bk;obtain⟨q,Χ⟩:∃q,i=q+1:=⟨i-1,γ⟩;have un:Go.Sort.scanDown (λx=>!ar cmp x e[a]!) e a' i=if(!ar cmp x y)=true then Go.Sort.scanDown (λx=>!ar cmp x e[a]!) e a' (i-1) else i:=by subst Χ;rw[Go.Sort.scanDown];simp[ε,U,Φ]
   have hw:=n9 (i:=i) γ γ;refine W.to (σ':=[.cells 112 2 L]) (env':=[(0,.ms 0 n 0 n),(1,J a),(4,ag),(12,J (a':Nat)),(13,J (i:Nat))]) ?_ (by rw[av]) η;clear U Φ
   repeat apply al
   refine W.draw (A:=[]) Ρ mixed λΔ ζ=>mj (Ζ ε (Ζ υ (Ζ I (Ζ R (Ζ ν (Ζ Ι (Ζ bp bk))))))) ?_;refine eS (Υ x y) ?_;simp;(repeat (rw[dZ];simp[]));try rw[dY]
   refine fC (ζ _ _ ?_);by_cases hm:cmp x y<0
   ·refine ay (by simp[hm]) ?_;refine W.exit rfl ?_;exact W.stop ⟨rfl,by rw[av],by rw[<-gq,un];simp[hm,ar]⟩
   ·refine aA (by simp[hm]) ?_;refine aT hw ?_;exact W.to (ω (i-1) ⟨γ,γ,by rw[<-gq,un];simp[hm,ar]⟩ (by(try simp only);omega)) (by rw[av]) (by simp[hw])
  ·repeat apply al
   refine fD ε ?_;refine ay rfl ?_;refine W.exit rfl ?_;have e:Go.Sort.scanDown (λx=>!ar cmp x e[a]!) e a' i=i:=by exact Jk _ _ γ
   exact W.stop ⟨rfl,rfl,by rw[<-gq,e];simp⟩
 repeat apply al
 by_cases ε:a' > bb
 ·have bg:((bb:Nat):Int)<(a':Nat):=by omega
  refine aT bg ?_;refine aA (by simp[ε]) ?_;have bp:bb<n:=γ;have bk:a<n:=γ;obtain⟨L,x,y,av,U,Φ,υ,⟨I,R⟩,⟨ν,Ι⟩,ey,kp,aB⟩:=jV aC fa bp bk;refine W.to (σ':=[.cells 112 2 L]) (env':=[(0,.ms 0 n 0 n),(1,J a),(4,ag),(12,J (a':Nat)),(13,J (bb:Nat))]) ?_ (by rw[av]) η;clear U Φ
  repeat apply al
  refine fD (Ζ υ (Ζ I (Ζ R (Ζ ν (Ζ Ι (Ζ aB (Ζ bp bk))))))) ?_;refine W.to (σ':=[.cells 112 2 ((Go.Sort.swp e bb a).toList.map aC)]) (env':=[(0,.ms 0 n 0 n),(1,J a),(4,ag),(12,J (a':Nat)),(13,J (bb:Nat))]) ?_ (by rw[ey]) η;clear bp bk I R ν Ι aB ey υ av L x y kp;refine Β ?_;exact W.ret ⟨_,rfl,by rw[dW,if_pos ε];rfl,by rw[dW,if_pos ε]⟩
 have bg:¬((bb:Nat):Int)<(a':Nat):=γ
 have Bj:=oi γ
 have ql:=jW (i:=a') γ
 have o8:=n9 (i:=bb) γ γ;refine aT bg ?_;refine ay (by simp[ε]) ?_;have bp:a'<n:=γ;have bk:bb<n:=γ;obtain⟨L,x,y,av,U,Φ,υ,⟨I,R⟩,⟨ν,Ι⟩,ey,kp,aB⟩:=jV aC fa bp bk;refine W.to (σ':=[.cells 112 2 L]) (env':=[(0,.ms 0 n 0 n),(1,J a),(4,ag),(12,J (a':Nat)),(13,J (bb:Nat))]) ?_ (by rw[av]) η;clear U Φ
 repeat apply al
 refine fD (Ζ υ (Ζ I (Ζ R (Ζ ν (Ζ Ι (Ζ aB (Ζ bp bk))))))) ?_;refine W.to (σ':=[.cells 112 2 ((Go.Sort.swp e a' bb).toList.map aC)]) (env':=[(0,.ms 0 n 0 n),(1,J a),(4,ag),(12,J (a':Nat)),(13,J (bb:Nat))]) ?_ (by rw[ey]) η;clear bp bk I R ν Ι aB ey υ av L x y kp;have uP:=swp_size fa a' bb;rw[if_neg ε] at dW;obtain⟨g,Ο⟩:=aO (Go.Sort.swp e a' bb);rw[<-Ο] at dW uP;rw[<-Ο];refine aT (Ζ ql o8) ?_;refine W.to (σ':=[.cells 112 2 ((g).toList.map aC)]) (env':=[(0,.ms 0 n 0 n),(1,J a),(4,ag),(12,J (a'+1:Nat)),(13,J (bb-1:Nat))]) ?_ rfl (by simp[ql,o8]);have hς:a<a':=γ;have hτ:bb<b:=γ;have hυ:a'+1<=bb-1+1:=γ;clear fs dy bg ε s1 s2 oh uy oi Ο ql o8;obtain⟨aj,iq⟩:=gW (Go.Sort.partLoop (ar cmp) a (a'+1) (bb-1) g)
 repeat apply al
 refine W.ry [(0,.ms 0 n 0 n),(1,J a),(13,J aj.1)] [.cells 112 2 ((aj.2).toList.map aC)] ?_ ?_
 ·refine W.iter (λq:Nat×Nat×Array (Int×Int)=>q.2.2.size=n/\a<q.1/\q.1<=q.2.1+1/\q.2.1<b/\Go.Sort.partLoop (ar cmp) a q.1 q.2.1 q.2.2=aj) (λq=>[(0,.ms 0 n 0 n),(1,J a),(4,ag),(12,J (q.1:Nat)),(13,J (q.2.1:Nat))]) (λq=>[.cells 112 2 ((q.2.2).toList.map aC)]) (λq=>q.2.1+1-q.1) (a'+1,bb-1,g) ⟨uP,by(try simp only);omega,by(try simp only);omega,by(try simp only);omega,iq⟩ rfl η (λq hi ω=>?_);obtain⟨i,j,f⟩:=q;obtain⟨cf,oR,rz,gq,bm⟩:=hi;simp only at cf oR rz gq bm;obtain⟨a',fs⟩:=gW (Go.Sort.scanUp (λx=>ar cmp x f[a]!) f (j) (i));obtain⟨bb,dy⟩:=gW (Go.Sort.scanDown (λx=>!ar cmp x f[a]!) f a' (j));obtain⟨s1,s2,oh,uy,oi⟩:=AU (λx=>ar cmp x f[a]!) (λx=>!ar cmp x f[a]!) (λx=>rfl) f γ γ fs dy;have dW:Go.Sort.partLoop (ar cmp) a i j f=if a' > bb then(bb,f) else Go.Sort.partLoop (ar cmp) a (a'+1) (bb-1) (Go.Sort.swp f a' bb):=by
   rw[Go.Sort.partLoop_eq];simp only[fs,dy]
  refine W.to (σ':=[.cells 112 2 ((f).toList.map aC)]) (env':=[(0,.ms 0 n 0 n),(1,J a),(4,ag),(12,J (i:Nat)),(13,J (j:Nat))]) ?_ rfl η;refine W.block ?_
  repeat apply al
  refine W.ry [(0,.ms 0 n 0 n),(1,J a),(4,ag),(12,J (a':Nat)),(13,J (j:Nat))] [.cells 112 2 ((f).toList.map aC)] ?_ ?_
  ·refine W.iter (λi:Nat=>(i)<=i/\i<=(j)+1/\Go.Sort.scanUp (λx=>ar cmp x f[a]!) f (j) i=a') (λi=>[(0,.ms 0 n 0 n),(1,J a),(4,ag),(12,J (i:Nat)),(13,J (j:Nat))]) (λ_=>[.cells 112 2 ((f).toList.map aC)]) (λi=>(j)+1-i) ((i)) ⟨Nat.le_refl _,γ,fs⟩ rfl η (λi hi ω=>?_);obtain⟨oR,rz,gq⟩:=hi;by_cases ε:i<=(j)
   ·have bp:i<n:=by omega
    have bk:a<n:=γ;obtain⟨L,x,y,av,U,Φ,υ,⟨I,R⟩,⟨ν,Ι⟩,-,-⟩:=jV aC cf bp bk;have un:Go.Sort.scanUp (λx=>ar cmp x f[a]!) f (j) i=if(ar cmp x y)=true then Go.Sort.scanUp (λx=>ar cmp x f[a]!) f (j) (i+1) else i:=by rw[Go.Sort.scanUp];simp[ε,U,Φ]
    have hw:=jW (i:=i) γ;refine W.to (σ':=[.cells 112 2 L]) (env':=[(0,.ms 0 n 0 n),(1,J a),(4,ag),(12,J (i:Nat)),(13,J (j:Nat))]) ?_ (by rw[av]) η;clear U Φ
    repeat apply al
    refine W.draw (A:=[]) Ρ mixed λΔ ζ=>mj (Ζ ε (Ζ υ (Ζ I (Ζ R (Ζ ν (Ζ Ι (Ζ bp bk))))))) ?_;refine eS (Υ x y) ?_;simp;(repeat (rw[dZ];simp[]));try rw[dY]
    refine fC (ζ _ _ ?_);by_cases hm:cmp x y<0
    ·refine aA (by simp[hm]) ?_;refine aT hw ?_;exact W.to (ω (i+1) ⟨γ,γ,by rw[<-gq,un];simp[hm,ar]⟩ (by(try simp only);omega)) (by rw[av]) (by simp[hw])
    ·refine ay (by simp[hm]) ?_;refine W.exit rfl ?_;exact W.stop ⟨rfl,by rw[av],by rw[<-gq,un];simp[hm,ar]⟩
   ·repeat apply al
    refine fD ε ?_;refine ay rfl ?_;refine W.exit rfl ?_;have e:Go.Sort.scanUp (λx=>ar cmp x f[a]!) f (j) i=i:=by rw[Go.Sort.scanUp];simp[ε]
    exact W.stop ⟨rfl,rfl,by rw[<-gq,e];simp⟩
  repeat apply al
  refine W.ry [(0,.ms 0 n 0 n),(1,J a),(4,ag),(12,J (a':Nat)),(13,J (bb:Nat))] [.cells 112 2 ((f).toList.map aC)] ?_ ?_
  ·refine W.iter (λi:Nat=>i<=(j)/\a'<=i+1/\Go.Sort.scanDown (λx=>!ar cmp x f[a]!) f a' i=bb) (λi=>[(0,.ms 0 n 0 n),(1,J a),(4,ag),(12,J (a':Nat)),(13,J (i:Nat))]) (λ_=>[.cells 112 2 ((f).toList.map aC)]) (λi=>i+1-a') ((j)) ⟨Nat.le_refl _,γ,dy⟩ rfl η (λi hi ω=>?_);obtain⟨oR,rz,gq⟩:=hi;by_cases ε:a'<=i
   ·have bp:i<n:=by omega
    have bk:a<n:=γ;obtain⟨L,x,y,av,U,Φ,υ,⟨I,R⟩,⟨ν,Ι⟩,-,-⟩:=jV aC cf bp bk;obtain⟨q,Χ⟩:∃q,i=q+1:=⟨i-1,γ⟩;have un:Go.Sort.scanDown (λx=>!ar cmp x f[a]!) f a' i=if(!ar cmp x y)=true then Go.Sort.scanDown (λx=>!ar cmp x f[a]!) f a' (i-1) else i:=by subst Χ;rw[Go.Sort.scanDown];simp[ε,U,Φ]
    have hw:=n9 (i:=i) γ γ;refine W.to (σ':=[.cells 112 2 L]) (env':=[(0,.ms 0 n 0 n),(1,J a),(4,ag),(12,J (a':Nat)),(13,J (i:Nat))]) ?_ (by rw[av]) η;clear U Φ
    repeat apply al
    refine W.draw (A:=[]) Ρ mixed λΔ ζ=>mj (Ζ ε (Ζ υ (Ζ I (Ζ R (Ζ ν (Ζ Ι (Ζ bp bk))))))) ?_;refine eS (Υ x y) ?_;simp;(repeat (rw[dZ];simp[]));try rw[dY]
    refine fC (ζ _ _ ?_);by_cases hm:cmp x y<0
    ·refine ay (by simp[hm]) ?_;refine W.exit rfl ?_;exact W.stop ⟨rfl,by rw[av],by rw[<-gq,un];simp[hm,ar]⟩
    ·refine aA (by simp[hm]) ?_;refine aT hw ?_;exact W.to (ω (i-1) ⟨γ,γ,by rw[<-gq,un];simp[hm,ar]⟩ (by(try simp only);omega)) (by rw[av]) (by simp[hw])
   ·repeat apply al
    refine fD ε ?_;refine ay rfl ?_;refine W.exit rfl ?_;have e:Go.Sort.scanDown (λx=>!ar cmp x f[a]!) f a' i=i:=by exact Jk _ _ γ
    exact W.stop ⟨rfl,rfl,by rw[<-gq,e];simp⟩
  repeat apply al
  by_cases ε:a' > bb
  ·have bg:((bb:Nat):Int)<(a':Nat):=by omega
   refine aT bg ?_;refine aA (by simp[ε]) ?_;refine W.exit rfl ?_;rw[dW,if_pos ε] at bm;exact W.stop ⟨rfl,by rw[<-bm],by rw[<-bm];simp⟩
  ·have bg:¬((bb:Nat):Int)<(a':Nat):=by omega
   have Bj:=oi γ
   have ql:=jW (i:=a') γ
   have o8:=n9 (i:=bb) γ γ;refine aT bg ?_;refine ay (by simp[ε]) ?_;have bp:a'<n:=γ;have bk:bb<n:=γ;obtain⟨L,x,y,av,U,Φ,υ,⟨I,R⟩,⟨ν,Ι⟩,ey,kp,aB⟩:=jV aC cf bp bk;refine W.to (σ':=[.cells 112 2 L]) (env':=[(0,.ms 0 n 0 n),(1,J a),(4,ag),(12,J (a':Nat)),(13,J (bb:Nat))]) ?_ (by rw[av]) η;clear U Φ
   repeat apply al
   refine fD (Ζ υ (Ζ I (Ζ R (Ζ ν (Ζ Ι (Ζ aB (Ζ bp bk))))))) ?_;refine W.to (σ':=[.cells 112 2 ((Go.Sort.swp f a' bb).toList.map aC)]) (env':=[(0,.ms 0 n 0 n),(1,J a),(4,ag),(12,J (a':Nat)),(13,J (bb:Nat))]) ?_ (by rw[ey]) η;clear bp bk I R ν Ι aB ey υ av L x y kp;refine aT (Ζ ql o8) ?_;exact W.to (ω (a'+1,bb-1,Go.Sort.swp f a' bb) ⟨swp_size cf a' bb,by(try simp only);omega,by(try simp only);omega,by(try simp only);omega,by simp;rw[<-bm,dW,if_neg ε]⟩ (by(try simp only);omega)) rfl (by simp[ql,o8])
 rw[iq] at dW;have Χ:=aΓ (ar cmp) (a:=a) (b:=b) _ (a'+1) (bb-1) g (Nat.le_refl _) uP γ γ γ;rw[iq] at Χ;obtain⟨Is,bπ⟩:=Χ;obtain⟨j,h⟩:=aj;simp only at Is bπ dW;have bp:j<n:=γ;have bk:a<n:=γ;obtain⟨L,x,y,av,U,Φ,υ,⟨I,R⟩,⟨ν,Ι⟩,ey,kp,aB⟩:=jV aC Is bp bk;refine W.to (σ':=[.cells 112 2 L]) (env':=[(0,.ms 0 n 0 n),(1,J a),(13,J (j:Nat))]) ?_ (by rw[av]) η;clear U Φ
 repeat apply al
 refine fD (Ζ υ (Ζ I (Ζ R (Ζ ν (Ζ Ι (Ζ aB (Ζ bp bk))))))) ?_;refine W.to (σ':=[.cells 112 2 ((Go.Sort.swp h j a).toList.map aC)]) (env':=[(0,.ms 0 n 0 n),(1,J a),(13,J (j:Nat))]) ?_ (by rw[ey]) η;clear bp bk I R ν Ι aB ey υ av L x y kp;refine Β ?_;exact W.ret ⟨_,rfl,by rw[dW];rfl,by rw[dW]⟩
theorem bρ (d:Array (Int×Int)) (n a b p:Nat) (Ε:d.size=n) (μ:n<2 ^ 40) (iw:a<=p) (bο:p<b) (hb:b<=n) (ag:θ) (cmp:Int×Int->Int×Int->Int) (bu:aK 0 ag) (Υ:∀x y,eW Tryz.prog ag [aC x,aC y] (J (cmp x y))) :
  ak Tryz.prog 240 [.ms 0 n 0 n,J a,J b,J p,ag] [.cells 112 2 ((d).toList.map aC)] (λr s=>r=J (Go.Sort.partitionEqual (ar cmp) d a b p).1/\s=[.cells 112 2 (((Go.Sort.partitionEqual (ar cmp) d a b p).2).toList.map aC)]) (λ_ _=>False):=by
 refine ak.body Ρ Tryz.func240 rfl rfl Tryz.ntmps240 rfl rfl η ?_;have k6:=jW (i:=a) γ;have l':=n9 (i:=b) γ γ
 repeat apply al
 refine vk ?_;have bp:a<n:=γ;have bk:p<n:=γ;obtain⟨L,x,y,av,U,Φ,υ,⟨I,R⟩,⟨ν,Ι⟩,ey,kp,aB⟩:=jV aC Ε bp bk;refine W.to (σ':=[.cells 112 2 L]) (env':=[(0,.ms 0 n 0 n),(1,J a),(2,J b),(3,J p),(4,ag)]) ?_ (by rw[av]) η;clear U Φ
 repeat apply al
 refine fD (Ζ υ (Ζ I (Ζ R (Ζ ν (Ζ Ι (Ζ aB (Ζ bp bk))))))) ?_;refine W.to (σ':=[.cells 112 2 ((Go.Sort.swp d a p).toList.map aC)]) (env':=[(0,.ms 0 n 0 n),(1,J a),(2,J b),(3,J p),(4,ag)]) ?_ (by rw[ey]) η;clear bp bk I R ν Ι aB ey υ av L x y kp;obtain⟨e,he⟩:=aO (Go.Sort.swp d a p);have fa:e.size=n:=by rw[he];exact swp_size Ε a p
 rw[<-he]
 repeat apply al
 refine tz (Ζ k6 l') ?_;refine W.to (σ':=[.cells 112 2 ((e).toList.map aC)]) (env':=[(0,.ms 0 n 0 n),(1,J a),(4,ag),(11,J (a+1:Nat)),(12,J (b-1:Nat))]) ?_ rfl η;obtain⟨aj,iq⟩:=gW (Go.Sort.partEqLoop (ar cmp) a (a+1) (b-1) e)
 repeat apply al
 refine W.ry [(11,J aj.1)] [.cells 112 2 ((aj.2).toList.map aC)] ?_ ?_
 ·refine W.iter (λq:Nat×Nat×Array (Int×Int)=>q.2.2.size=n/\a<q.1/\q.1<=q.2.1+1/\q.2.1<b/\Go.Sort.partEqLoop (ar cmp) a q.1 q.2.1 q.2.2=aj) (λq=>[(0,.ms 0 n 0 n),(1,J a),(4,ag),(11,J (q.1:Nat)),(12,J (q.2.1:Nat))]) (λq=>[.cells 112 2 ((q.2.2).toList.map aC)]) (λq=>q.2.1+1-q.1) (a+1,b-1,e) ⟨fa,by(try simp only);omega,by(try simp only);omega,by(try simp only);omega,iq⟩ rfl η (λq hi ω=>?_);obtain⟨i,j,f⟩:=q;obtain⟨cf,oR,rz,gq,bm⟩:=hi;simp only at cf oR rz gq bm;obtain⟨a',fs⟩:=gW (Go.Sort.scanUp (λx=>!ar cmp f[a]! x) f (j) (i));obtain⟨bb,dy⟩:=gW (Go.Sort.scanDown (λx=>ar cmp f[a]! x) f a' (j));obtain⟨s1,s2,oh,uy,oi⟩:=AU (λx=>!ar cmp f[a]! x) (λx=>ar cmp f[a]! x) (λx=>η) f γ γ fs dy;have dW:Go.Sort.partEqLoop (ar cmp) a i j f=if a' > bb then(a',f) else Go.Sort.partEqLoop (ar cmp) a (a'+1) (bb-1) (Go.Sort.swp f a' bb):=by
   rw[Go.Sort.partEqLoop_eq];simp only[fs,dy]
  refine W.to (σ':=[.cells 112 2 ((f).toList.map aC)]) (env':=[(0,.ms 0 n 0 n),(1,J a),(4,ag),(11,J (i:Nat)),(12,J (j:Nat))]) ?_ rfl η;refine W.block ?_
  repeat apply al
  refine W.ry [(0,.ms 0 n 0 n),(1,J a),(4,ag),(11,J (a':Nat)),(12,J (j:Nat))] [.cells 112 2 ((f).toList.map aC)] ?_ ?_
  ·refine W.iter (λi:Nat=>(i)<=i/\i<=(j)+1/\Go.Sort.scanUp (λx=>!ar cmp f[a]! x) f (j) i=a') (λi=>[(0,.ms 0 n 0 n),(1,J a),(4,ag),(11,J (i:Nat)),(12,J (j:Nat))]) (λ_=>[.cells 112 2 ((f).toList.map aC)]) (λi=>(j)+1-i) ((i)) ⟨Nat.le_refl _,γ,fs⟩ rfl η (λi hi ω=>?_);obtain⟨oR,rz,gq⟩:=hi;by_cases ε:i<=(j)
   ·have bp:i<n:=by omega
    have bk:a<n:=γ;obtain⟨L,x,y,av,U,Φ,υ,⟨I,R⟩,⟨ν,Ι⟩,-,-⟩:=jV aC cf bp bk;have un:Go.Sort.scanUp (λx=>!ar cmp f[a]! x) f (j) i=if(!ar cmp y x)=true then Go.Sort.scanUp (λx=>!ar cmp f[a]! x) f (j) (i+1) else i:=by rw[Go.Sort.scanUp];simp[ε,U,Φ]
    have hw:=jW (i:=i) γ;refine W.to (σ':=[.cells 112 2 L]) (env':=[(0,.ms 0 n 0 n),(1,J a),(4,ag),(11,J (i:Nat)),(12,J (j:Nat))]) ?_ (by rw[av]) η;clear U Φ
    repeat apply al
    refine W.draw (A:=[]) Ρ mixed λΔ ζ=>mj (Ζ ε (Ζ υ (Ζ I (Ζ R (Ζ ν (Ζ Ι (Ζ bp bk))))))) ?_;refine eS (Υ y x) ?_;simp;(repeat (rw[dZ];simp[]));try rw[dY]
    refine fC (ζ _ _ ?_);by_cases hm:cmp y x<0
    ·refine ay (by simp[hm]) ?_;refine W.exit rfl ?_;exact W.stop ⟨rfl,by rw[av],by rw[<-gq,un];simp[hm,ar]⟩
    ·refine aA (by simp[hm]) ?_;refine aT hw ?_;exact W.to (ω (i+1) ⟨γ,γ,by rw[<-gq,un];simp[hm,ar]⟩ (by(try simp only);omega)) (by rw[av]) (by simp[hw])
   ·repeat apply al
    refine fD ε ?_;refine ay rfl ?_;refine W.exit rfl ?_;have e:Go.Sort.scanUp (λx=>!ar cmp f[a]! x) f (j) i=i:=by rw[Go.Sort.scanUp];simp[ε]
    exact W.stop ⟨rfl,rfl,by rw[<-gq,e];simp⟩
  repeat apply al
  refine W.ry [(0,.ms 0 n 0 n),(1,J a),(4,ag),(11,J (a':Nat)),(12,J (bb:Nat))] [.cells 112 2 ((f).toList.map aC)] ?_ ?_
  ·refine W.iter (λi:Nat=>i<=(j)/\a'<=i+1/\Go.Sort.scanDown (λx=>ar cmp f[a]! x) f a' i=bb) (λi=>[(0,.ms 0 n 0 n),(1,J a),(4,ag),(11,J (a':Nat)),(12,J (i:Nat))]) (λ_=>[.cells 112 2 ((f).toList.map aC)]) (λi=>i+1-a') ((j)) ⟨Nat.le_refl _,γ,dy⟩ rfl η (λi hi ω=>?_);obtain⟨oR,rz,gq⟩:=hi;by_cases ε:a'<=i
   ·have bp:i<n:=by omega
    have bk:a<n:=γ;obtain⟨L,x,y,av,U,Φ,υ,⟨I,R⟩,⟨ν,Ι⟩,-,-⟩:=jV aC cf bp bk;obtain⟨q,Χ⟩:∃q,i=q+1:=⟨i-1,γ⟩;have un:Go.Sort.scanDown (λx=>ar cmp f[a]! x) f a' i=if(ar cmp y x)=true then Go.Sort.scanDown (λx=>ar cmp f[a]! x) f a' (i-1) else i:=by subst Χ;rw[Go.Sort.scanDown];simp[ε,U,Φ]
    have hw:=n9 (i:=i) γ γ;refine W.to (σ':=[.cells 112 2 L]) (env':=[(0,.ms 0 n 0 n),(1,J a),(4,ag),(11,J (a':Nat)),(12,J (i:Nat))]) ?_ (by rw[av]) η;clear U Φ
    repeat apply al
    refine W.draw (A:=[]) Ρ mixed λΔ ζ=>mj (Ζ ε (Ζ υ (Ζ I (Ζ R (Ζ ν (Ζ Ι (Ζ bp bk))))))) ?_;refine eS (Υ y x) ?_;simp;(repeat (rw[dZ];simp[]));try rw[dY]
    refine fC (ζ _ _ ?_);by_cases hm:cmp y x<0
    ·refine aA (by simp[hm]) ?_;refine aT hw ?_;exact W.to (ω (i-1) ⟨γ,γ,by rw[<-gq,un];simp[hm,ar]⟩ (by(try simp only);omega)) (by rw[av]) (by simp[hw])
    ·refine ay (by simp[hm]) ?_;refine W.exit rfl ?_;exact W.stop ⟨rfl,by rw[av],by rw[<-gq,un];simp[hm,ar]⟩
   ·repeat apply al
    refine fD ε ?_;refine ay rfl ?_;refine W.exit rfl ?_;have e:Go.Sort.scanDown (λx=>ar cmp f[a]! x) f a' i=i:=by exact Jk _ _ γ
    exact W.stop ⟨rfl,rfl,by rw[<-gq,e];simp⟩
  repeat apply al
  by_cases ε:a' > bb
  ·have bg:((bb:Nat):Int)<(a':Nat):=by omega
   refine aT bg ?_;refine aA (by simp[ε]) ?_;refine W.exit rfl ?_;rw[dW,if_pos ε] at bm;exact W.stop ⟨rfl,by rw[<-bm],by rw[<-bm];simp⟩
  ·have bg:¬((bb:Nat):Int)<(a':Nat):=by omega
   have Bj:=oi γ
   have ql:=jW (i:=a') γ
   have o8:=n9 (i:=bb) γ γ;refine aT bg ?_;refine ay (by simp[ε]) ?_;have bp:a'<n:=γ;have bk:bb<n:=γ;obtain⟨L,x,y,av,U,Φ,υ,⟨I,R⟩,⟨ν,Ι⟩,ey,kp,aB⟩:=jV aC cf bp bk;refine W.to (σ':=[.cells 112 2 L]) (env':=[(0,.ms 0 n 0 n),(1,J a),(4,ag),(11,J (a':Nat)),(12,J (bb:Nat))]) ?_ (by rw[av]) η;clear U Φ
   repeat apply al
   refine fD (Ζ υ (Ζ I (Ζ R (Ζ ν (Ζ Ι (Ζ aB (Ζ bp bk))))))) ?_;refine W.to (σ':=[.cells 112 2 ((Go.Sort.swp f a' bb).toList.map aC)]) (env':=[(0,.ms 0 n 0 n),(1,J a),(4,ag),(11,J (a':Nat)),(12,J (bb:Nat))]) ?_ (by rw[ey]) η;clear bp bk I R ν Ι aB ey υ av L x y kp;refine aT (Ζ ql o8) ?_;exact W.to (ω (a'+1,bb-1,Go.Sort.swp f a' bb) ⟨swp_size cf a' bb,by(try simp only);omega,by(try simp only);omega,by(try simp only);omega,by simp;rw[<-bm,dW,if_neg ε]⟩ (by(try simp only);omega)) rfl (by simp[ql,o8])
 refine Β ?_;have dW:Go.Sort.partitionEqual (ar cmp) d a b p=aj:=by unfold Go.Sort.partitionEqual;rw[<-he,iq]
 exact W.ret ⟨_,rfl,by rw[dW];rfl,by rw[dW]⟩
theorem PW (d:Array (Int×Int)) (n lo hi first:Nat) (Ε:d.size=n) (μ:n<2 ^ 40) (hφ:first+hi<=n) (hp:lo<=n) (ag:θ) (cmp:Int×Int->Int×Int->Int) (bu:aK 0 ag) (Υ:∀x y,eW Tryz.prog ag [aC x,aC y] (J (cmp x y))) :
  ak Tryz.prog 254 [.ms 0 n 0 n,J lo,J hi,J first,ag] [.cells 112 2 ((d).toList.map aC)] (λr s=>r=.a3 []/\s=[.cells 112 2 ((Go.Sort.siftDown (ar cmp) hi first lo d).toList.map aC)]) (λ_ _=>False):=by
 refine ak.body Ρ Tryz.func254 rfl rfl Tryz.ntmps254 rfl rfl η ?_;refine Β ?_;obtain⟨aj,iq⟩:=gW (Go.Sort.siftDown (ar cmp) hi first lo d);rw[iq];refine W.iter (λq:Nat×Array (Int×Int)=>q.2.size=n/\q.1<=n/\Go.Sort.siftDown (ar cmp) hi first q.1 q.2=aj) (λq=>[(0,.ms 0 n 0 n),(2,J hi),(3,J first),(4,ag),(10,J (q.1:Nat))]) (λq=>[.cells 112 2 ((q.2).toList.map aC)]) (λq=>hi-q.1) (lo,d) ⟨Ε,hp,iq⟩ rfl η (λq Χ ω=>?_);obtain⟨r,e⟩:=q;obtain⟨fa,ι,bm⟩:=Χ;simp only at fa ι bm;obtain⟨c,ε⟩:=aO (2*r+1);obtain⟨c1,m3⟩:=aO (c+1);obtain⟨ax,iV⟩:=aO (first+r);obtain⟨Jz,bς⟩:=aO (first+c);obtain⟨fd,xY⟩:=aO (first+(c+1));have w1:IntKind.i64.wrap (2*(r:Int))=2*(r:Int):=by rw[IntWalk.i64_in _ γ]
 have w2:IntKind.i64.wrap (2*(r:Int)+1)=(c:Int):=by rw[IntWalk.i64_in _ γ];omega
 have w3:IntKind.i64.wrap ((c:Int)+1)=(c1:Int):=by rw[IntWalk.i64_in _ γ];omega
 have w4:IntKind.i64.wrap ((first:Int)+(c:Int))=(Jz:Int):=by rw[IntWalk.i64_in _ γ];omega
 have yj:IntKind.i64.wrap ((Jz:Int)+1)=(fd:Int):=by rw[IntWalk.i64_in _ γ];omega
 have qt:IntKind.i64.wrap ((first:Int)+(r:Int))=(ax:Int):=by rw[IntWalk.i64_in _ γ];omega
 refine W.to (σ':=[.cells 112 2 ((e).toList.map aC)]) (env':=[(0,.ms 0 n 0 n),(2,J hi),(3,J first),(4,ag),(10,J (r:Nat))]) ?_ rfl η;refine aT (Ζ w1 w2) ?_;by_cases PX:hi<=c
 ·refine aA (by simp[PX]) ?_;refine W.exit rfl ?_;exact W.nil ⟨_,rfl,rfl,by rw[<-bm,Go.Sort.siftDown,dif_pos γ]⟩
 refine ay (by simp[PX]) ?_;obtain⟨B,e1⟩:=aO ((decide (c+1<hi)&&ar cmp e[first+c]! e[first+(c+1)]!):Bool);obtain⟨k,ψ⟩:∃k,k=if B=true then c+1 else c:=⟨_,rfl⟩
 have hχ:k<hi:=by
  rw[ψ];split
  ·rename_i h;rw[h] at e1;have:=e1.symm;simp at this;omega
  ·omega
 have un:=aΔ (ar cmp) hi first r e (k:=k) ε γ (by rw[<-e1];exact ψ)
 rw[un] at bm
 repeat apply al
 refine W.Df (A:=[]) Ρ mixed [(40,bs B),(0,.ms 0 n 0 n),(2,J hi),(3,J first),(4,ag),(10,J r),(11,J c)] ?_ (by
  by_cases oz:c1<hi
  ·have bp:Jz<n:=by omega
   have bk:fd<n:=γ;obtain⟨L,x,y,av,U,Φ,υ,⟨I,R⟩,⟨ν,Ι⟩,-,-⟩:=jV aC fa bp bk;have JA:B=ar cmp x y:=by rw[e1,<-U,<-Φ,bς,xY];simp[<-m3,oz]
   have bτ:(c1:Int)<hi:=γ;rw[av];clear U Φ;simp;(repeat (rw[dZ];simp[w3,w4,yj,oz,bτ,υ,I,R,ν,Ι,bp,bk]));(try rw[dY]);refine eS (Υ x y) ?_;simp;(repeat (rw[dZ];simp[]));(try rw[dY]);refine⟨oQ (by kernel_rfl),?_⟩;simp[JA,ar]
  ·have JA:B=false:=by rw[e1];simp[<-m3,oz]
   simp;(repeat (rw[dZ];simp[w3,oz]));(try rw[dY]);refine⟨oQ (by kernel_rfl),?_⟩;simp[JA])
 have hψ:r<k:=by rw[ψ];split<;>omega
 repeat apply al
 refine W.upto [(0,.ms 0 n 0 n),(2,J hi),(3,J first),(4,ag),(10,J (r:Nat)),(11,J (k:Nat))] [.cells 112 2 ((e).toList.map aC)] ?_ ?_
 ·cases B with
  | true=>
   refine aA rfl ?_;refine tz w3 ?_;exact W.stop ⟨rfl,rfl,by simp[ψ,m3]⟩
  | false=>
   refine ay rfl ?_;refine W.skip ?_;exact W.stop ⟨rfl,rfl,by simp[ψ]⟩
 obtain⟨fk,bυ⟩:=aO (first+k);rw[<-iV,<-bυ] at bm;have qu:IntKind.i64.wrap ((first:Int)+(k:Int))=(fk:Int):=by rw[IntWalk.i64_in _ γ];omega
 have bp:ax<n:=γ
 have bk:fk<n:=γ;obtain⟨L,x,y,av,U,Φ,υ,⟨I,R⟩,⟨ν,Ι⟩,ey,kp,aB⟩:=jV aC fa bp bk;rw[U,Φ] at bm;refine W.to (σ':=[.cells 112 2 L]) (env':=[(0,.ms 0 n 0 n),(2,J hi),(3,J first),(4,ag),(10,J (r:Nat)),(11,J (k:Nat))]) ?_ (by rw[av]) η;clear U Φ
 repeat apply al
 refine W.draw (A:=[]) Ρ mixed λΔ ζ=>mj (Ζ qt (Ζ qu (Ζ υ (Ζ I (Ζ R (Ζ ν (Ζ Ι (Ζ bp bk)))))))) ?_;refine eS (Υ x y) ?_;simp;(repeat (rw[dZ];simp[]));try rw[dY]
 refine fC (ζ _ _ ?_);by_cases hm:cmp x y<0
 ·refine ay (by simp[hm]) ?_
  repeat apply al
  refine fD (Ζ qt (Ζ qu (Ζ υ (Ζ I (Ζ R (Ζ ν (Ζ Ι (Ζ aB (Ζ bp bk))))))))) ?_;refine Β ?_;refine W.to (ω (k,Go.Sort.swp e ax fk) ⟨swp_size fa ax fk,by(try simp only);omega,?_⟩ (by(try simp only);omega)) (by rw[ey]) η;rw[<-bm];simp[hm,ar]
 ·refine aA (by simp[hm]) ?_;refine Β ?_;exact W.ret ⟨_,rfl,rfl,by rw[<-av,<-bm];simp[hm,ar]⟩
theorem bφ (d:Array (Int×Int)) (n a b:Nat) (Ε:d.size=n) (μ:n<2 ^ 40) (hk:a<b) (hb:b<=n) (ag:θ) (cmp:Int×Int->Int×Int->Int) (bu:aK 0 ag) (Υ:∀x y,eW Tryz.prog ag [aC x,aC y] (J (cmp x y))) :
  ak Tryz.prog 235 [.ms 0 n 0 n,J a,J b,ag] [.cells 112 2 ((d).toList.map aC)] (λr s=>r=.a3 []/\s=[.cells 112 2 ((Go.Sort.heapSort (ar cmp) d a b).toList.map aC)]) (λ_ _=>False):=by
 refine ak.body Ρ Tryz.func235 rfl rfl Tryz.ntmps235 rfl rfl η ?_;obtain⟨m,hm⟩:=gW (b-a);have w1:IntKind.i64.wrap ((b:Int)-(a:Int))=(m:Int):=by rw[IntWalk.i64_in _ γ];omega
 have w2:IntKind.i64.wrap ((m:Int)-1)=((m-1:Nat):Int):=n9 γ γ
 have w3:IntKind.i64.wrap (((m-1:Nat):Int) / 2)=(((m-1) / 2:Nat):Int):=EB (m:=2) γ;obtain⟨ff,jS⟩:=aO (m-1);obtain⟨eD,h2⟩:=aO ((m-1) / 2);rw[<-h2,<-jS] at w3;rw[<-jS] at w2;have wp:∀k:Nat,k<=n->IntKind.i64.wrap ((k:Int)-1)=(k:Int)-1:=λk ψ=>by rw[IntWalk.i64_in _ γ]
 obtain⟨pg,JB⟩:=gW (Go.Sort.heapBuild (ar cmp) m a (eD+1) d);have dW:Go.Sort.heapSort (ar cmp) d a b=Go.Sort.heapPop (ar cmp) a m pg:=by unfold Go.Sort.heapSort;rw[hm,<-h2,JB]
 refine aT (Ζ w1 (Ζ w2 w3)) ?_;refine W.ry [(0,.ms 0 n 0 n),(3,ag),(8,J a),(9,J 0),(10,J m)] [.cells 112 2 ((pg).toList.map aC)] ?_ ?_
 ·refine W.iter (λq:Nat×Array (Int×Int)=>q.2.size=n/\q.1<=eD+1/\Go.Sort.heapBuild (ar cmp) m a q.1 q.2=pg) (λq=>[(0,.ms 0 n 0 n),(3,ag),(8,J a),(9,J 0),(10,J m),(11,.z (.int .i64 ((q.1:Int)-1)))]) (λq=>[.cells 112 2 ((q.2).toList.map aC)]) (λq=>q.1) (eD+1,d) ⟨Ε,Nat.le_refl _,JB⟩ rfl η (λq Χ ω=>?_);obtain⟨k,e⟩:=q;obtain⟨fa,ψ,bm⟩:=Χ;simp only at fa ψ bm;cases k with
  | zero=>
   refine Β ?_;refine ay rfl ?_;refine W.exit rfl ?_;exact W.stop ⟨rfl,by rw[<-bm];rfl,η⟩
  | succ k=>
   have JC:(0:Int)<=(k:Int):=γ;refine W.to (σ':=[.cells 112 2 ((e).toList.map aC)]) (env':=[(0,.ms 0 n 0 n),(3,ag),(8,J a),(9,J 0),(10,J m),(11,.z (.int .i64 ((k:Int))))]) ?_ rfl η;refine aT JC ?_;refine aA η ?_;refine a5 λΔ ζ=>?_;refine ak.call (first:=[]) (captured:=[]) ((PW e n k m a fa μ γ γ ag cmp bu Υ).mono (λr s ⟨ed,dM⟩=>?_) (λ_ _ h=>h.elim));subst ed;subst dM;simp;(repeat (rw[ae];simp[]));apply ζ;refine aT (wp k γ) ?_;exact W.to (ω (k,Go.Sort.siftDown (ar cmp) m a k e) ⟨Ji fa,by(try simp only);omega,bm⟩ η) rfl (by simp[wp k γ])
 obtain⟨mO,A0⟩:=gW (Go.Sort.heapPop (ar cmp) a m pg);have bχ:pg.size=n:=by rw[<-JB];exact Px Ε
 rw[A0] at dW;refine aT w2 ?_;refine W.iter (λq:Nat×Array (Int×Int)=>q.2.size=n/\q.1<=m/\Go.Sort.heapPop (ar cmp) a q.1 q.2=mO) (λq=>[(0,.ms 0 n 0 n),(3,ag),(8,J a),(9,J 0),(10,J m),(12,.z (.int .i64 ((q.1:Int)-1)))]) (λq=>[.cells 112 2 ((q.2).toList.map aC)]) (λq=>q.1) (m,pg) ⟨bχ,Nat.le_refl _,A0⟩ rfl (by simp[jS];omega) (λq Χ ω=>?_);obtain⟨k,e⟩:=q;obtain⟨fa,ψ,bm⟩:=Χ;simp only at fa ψ bm;cases k with
 | zero=>
  refine Β ?_;refine ay rfl ?_;refine W.exit rfl ?_;exact W.nil ⟨_,rfl,rfl,by rw[dW,<-bm];rfl⟩
 | succ k=>
  have JC:(0:Int)<=(k:Int):=γ;obtain⟨pX,bψ⟩:=aO (a+k);have qu:IntKind.i64.wrap ((a:Int)+(k:Int))=(pX:Int):=by rw[IntWalk.i64_in _ γ];omega
  refine W.to (σ':=[.cells 112 2 ((e).toList.map aC)]) (env':=[(0,.ms 0 n 0 n),(3,ag),(8,J a),(9,J 0),(10,J m),(12,.z (.int .i64 ((k:Int))))]) ?_ rfl η;refine aT JC ?_;refine aA η ?_;have bp:a<n:=γ;have bk:pX<n:=γ;obtain⟨L,x,y,av,U,Φ,υ,⟨I,R⟩,⟨ν,Ι⟩,ey,kp,aB⟩:=jV aC fa bp bk;refine W.to (σ':=[.cells 112 2 L]) (env':=[(0,.ms 0 n 0 n),(3,ag),(8,J a),(9,J 0),(10,J m),(12,.z (.int .i64 ((k:Int))))]) ?_ (by rw[av]) η;clear U Φ
  repeat apply al
  refine fD (Ζ υ (Ζ I (Ζ R (Ζ ν (Ζ Ι (Ζ aB (Ζ bp (Ζ bk qu)))))))) ?_;refine W.to (σ':=[.cells 112 2 ((Go.Sort.swp e a pX).toList.map aC)]) (env':=[(0,.ms 0 n 0 n),(3,ag),(8,J a),(9,J 0),(10,J m),(12,.z (.int .i64 ((k:Int))))]) ?_ (by rw[ey]) η;clear bp bk I R ν Ι aB ey υ av L x y kp;refine a5 λΔ ζ=>?_;refine ak.call (first:=[]) (captured:=[]) ((PW (Go.Sort.swp e a pX) n 0 k a (swp_size fa a pX) μ γ γ ag cmp bu Υ).mono (λr s ⟨ed,dM⟩=>?_) (λ_ _ h=>h.elim));subst ed;subst dM;simp;(repeat (rw[ae];simp[]));apply ζ;refine aT (wp k γ) ?_;exact W.to (ω (k,Go.Sort.siftDown (ar cmp) k a 0 (Go.Sort.swp e a pX)) ⟨Ji (swp_size fa a pX),by(try simp only);omega,by rw[bψ];exact bm⟩ η) rfl (by simp[wp k γ])
theorem bω (d:Array (Int×Int)) (n a b:Nat) (Ε:d.size=n) (μ:n<2 ^ 40) (hk:a<b) (hb:b<=n) (ag:θ) (cmp:Int×Int->Int×Int->Int) (bu:aK 0 ag) (Υ:∀x y,eW Tryz.prog ag [aC x,aC y] (J (cmp x y))) :
  ak Tryz.prog 238 [.ms 0 n 0 n,J a,J b,ag] [.cells 112 2 ((d).toList.map aC)] (λr s=>r=.a3 []/\s=[.cells 112 2 ((Go.Sort.reverseRange d a b).toList.map aC)]) (λ_ _=>False):=by
 refine ak.body Ρ Tryz.func238 rfl rfl Tryz.ntmps238 rfl rfl η ?_;have w1:=n9 (i:=b) γ γ;refine aT w1 ?_;refine W.iter (λq:Nat×Nat×Array (Int×Int)=>q.2.2.size=n/\q.1<n/\q.2.1<n/\Go.Sort.reverseLoop q.1 q.2.1 q.2.2=Go.Sort.reverseRange d a b) (λq=>[(0,.ms 0 n 0 n),(8,J (q.1:Nat)),(9,J (q.2.1:Nat))]) (λq=>[.cells 112 2 ((q.2.2).toList.map aC)]) (λq=>q.2.1-q.1) (a,b-1,d) ⟨Ε,by(try simp only);omega,by(try simp only);omega,rfl⟩ rfl (by simp[w1]) (λq Χ ω=>?_);obtain⟨i,j,e⟩:=q;obtain⟨fa,hi,δ,bm⟩:=Χ;simp only at fa hi δ bm;rw[Go.Sort.reverseLoop] at bm;refine W.to (σ':=[.cells 112 2 ((e).toList.map aC)]) (env':=[(0,.ms 0 n 0 n),(8,J (i:Nat)),(9,J (j:Nat))]) ?_ rfl η;refine Β ?_;by_cases ε:i<j
 ·refine aA (by simp[ε]) ?_;rw[if_pos ε] at bm;have w2:=jW (i:=i) γ;have w3:=n9 (i:=j) γ γ;have bp:i<n:=γ;have bk:j<n:=γ;obtain⟨L,x,y,av,U,Φ,υ,⟨I,R⟩,⟨ν,Ι⟩,ey,kp,aB⟩:=jV aC fa bp bk;refine W.to (σ':=[.cells 112 2 L]) (env':=[(0,.ms 0 n 0 n),(8,J (i:Nat)),(9,J (j:Nat))]) ?_ (by rw[av]) η;clear U Φ
  repeat apply al
  refine fD (Ζ υ (Ζ I (Ζ R (Ζ ν (Ζ Ι (Ζ aB (Ζ bp bk))))))) ?_;refine W.to (σ':=[.cells 112 2 ((Go.Sort.swp e i j).toList.map aC)]) (env':=[(0,.ms 0 n 0 n),(8,J (i:Nat)),(9,J (j:Nat))]) ?_ (by rw[ey]) η;clear bp bk I R ν Ι aB ey υ av L x y kp;refine aT (Ζ w2 w3) ?_;exact W.to (ω (i+1,j-1,Go.Sort.swp e i j) ⟨swp_size fa i j,by(try simp only);omega,by(try simp only);omega,bm⟩ (by(try simp only);omega)) rfl (by simp[w2,w3])
 ·refine ay (by simp[ε]) ?_;refine W.exit rfl ?_;rw[if_neg ε] at bm;exact W.nil ⟨_,rfl,rfl,by rw[bm]⟩
theorem JD (d:Array (Int×Int)) (n a b s:Nat) (Ε:d.size=n) (κ:a<n) (hb:b<n) (μ:s<2 ^ 40) (ag:θ) (cmp:Int×Int->Int×Int->Int) (bu:aK 0 ag) (Υ:∀x y,eW Tryz.prog ag [aC x,aC y] (J (cmp x y))) :
  ak Tryz.prog 258 [.ms 0 n 0 n,J a,J b,.an 1 1 0 0,ag] [.cells 112 2 (d.toList.map aC),.cells 3 1 [J s]] (λr σ=>r=.a3 [J (Go.Sort.order2 (ar cmp) d a b s).1,J (Go.Sort.order2 (ar cmp) d a b s).2.1]/\σ=[.cells 112 2 (d.toList.map aC),.cells 3 1 [J (Go.Sort.order2 (ar cmp) d a b s).2.2]]) (λ_ _=>False):=by
 refine ak.body Ρ Tryz.func258 rfl rfl Tryz.ntmps258 rfl rfl η ?_;obtain⟨L,av⟩:=aO (d.toList.map aC);have h1:L.length=n:=by rw[av];simpa using Ε
 obtain⟨x,U⟩:=aO (d[a]!);obtain⟨y,Φ⟩:=aO (d[b]!);have PY:L[a]?=some (aC x):=by rw[av,U,List.getElem?_map,Array.getElem?_toList,pS γ];rfl
 have sA:L[b]?=some (aC y):=by rw[av,Φ,List.getElem?_map,Array.getElem?_toList,pS γ];rfl
 have bΑ:∀h:a<L.length,L[a]=aC x:=λh=>by have:=PY;rw[ba h] at this;exact Option.some.inj this
 have bΒ:∀h:b<L.length,L[b]=aC y:=λh=>by have:=sA;rw[ba h] at this;exact Option.some.inj this
 have hw:IntKind.i64.wrap ((s:Int)+1)=((s+1:Nat):Int):=by rw[IntWalk.i64_in _ γ];omega
 have Α:Go.Sort.order2 (ar cmp) d a b s=if ar cmp y x=true then(b,a,s+1) else(a,b,s):=by unfold Go.Sort.order2;rw[<-U,<-Φ]
 rw[Α,<-av];clear av U Φ Α;refine Β ?_;refine W.draw (A:=[]) Ρ mixed λΔ ζ=>mj (Ζ h1 (Ζ PY (Ζ sA (Ζ bΑ bΒ)))) ?_;refine⟨hb,κ,?_⟩;refine eS (Υ y x) ?_;simp;(repeat (rw[dZ];simp[]));try rw[dY]
 refine fC (ζ _ _ ?_);by_cases hm:cmp y x<0
 ·refine aA (by simp[hm]) ?_;refine aT hw ?_;exact W.ret ⟨_,rfl,by simp[ar,Go.Sort.ltInt,hm],by simp[ar,Go.Sort.ltInt,hm]⟩
 ·refine ay (by simp[hm]) ?_;refine aT hw ?_;exact W.ret ⟨_,rfl,by simp[ar,Go.Sort.ltInt,hm],by simp[ar,Go.Sort.ltInt,hm]⟩
theorem bΓ (d:Array (Int×Int)) (n a b c s:Nat) (Ε:d.size=n) (κ:a<n) (hb:b<n) (ε:c<n) (μ:s<2 ^ 39) (ag:θ) (cmp:Int×Int->Int×Int->Int) (bu:aK 0 ag) (Υ:∀x y,eW Tryz.prog ag [aC x,aC y] (J (cmp x y))) :
  ak Tryz.prog 256 [.ms 0 n 0 n,J a,J b,J c,.an 1 1 0 0,ag] [.cells 112 2 ((d).toList.map aC),.cells 3 1 [J (s:Nat)]] (λr σ=>r=J (Go.Sort.median (ar cmp) d a b c s).1/\σ=[.cells 112 2 ((d).toList.map aC),.cells 3 1 [J ((Go.Sort.median (ar cmp) d a b c s).2:Nat)]]) (λ_ _=>False):=by
 refine ak.body Ρ Tryz.func256 rfl rfl Tryz.ntmps256 rfl rfl η ?_;obtain⟨r1,Γ⟩:=gW (Go.Sort.order2 (ar cmp) d a b s);have f1:=Jj (ar cmp) d (a:=a) (b:=b) (n:=n) γ γ s;have c1:=JD d n a b s Ε γ γ γ ag cmp bu Υ;rw[Γ] at f1 c1;obtain⟨a1,bK,s1⟩:=r1;simp only at f1 c1;obtain⟨r2,Θ⟩:=gW (Go.Sort.order2 (ar cmp) d bK c s1);have f2:=Jj (ar cmp) d (a:=bK) (b:=c) (n:=n) γ γ s1;have c2:=JD d n bK c s1 Ε γ γ γ ag cmp bu Υ;rw[Θ] at f2 c2;obtain⟨a2,da,s2⟩:=r2;simp only at f2 c2;obtain⟨r3,bO⟩:=gW (Go.Sort.order2 (ar cmp) d a1 a2 s2);have f3:=Jj (ar cmp) d (a:=a1) (b:=a2) (n:=n) γ γ s2;have c3:=JD d n a1 a2 s2 Ε γ γ γ ag cmp bu Υ;rw[bO] at f3 c3;obtain⟨ck,fP,oh⟩:=r3;simp only at f3 c3;have hm:Go.Sort.median (ar cmp) d a b c s=(fP,oh):=by unfold Go.Sort.median;simp only[Γ,Θ,bO]
 rw[hm]
 repeat apply al
 refine vk ?_;refine a5 λΔ ζ=>?_;refine ak.call (first:=[]) (captured:=[]) ((c1).mono (λr s ⟨ed,dM⟩=>?_) (λ_ _ h=>h.elim));subst ed;subst dM;simp;(repeat (rw[ae];simp[]));apply ζ;refine a5 λΔ ζ=>?_;refine ak.call (first:=[]) (captured:=[]) ((c2).mono (λr s ⟨ed,dM⟩=>?_) (λ_ _ h=>h.elim));subst ed;subst dM;simp;(repeat (rw[ae];simp[]));apply ζ;refine a5 λΔ ζ=>?_;refine ak.call (first:=[]) (captured:=[]) ((c3).mono (λr s ⟨ed,dM⟩=>?_) (λ_ _ h=>h.elim));subst ed;subst dM;simp;(repeat (rw[ae];simp[]));apply ζ;refine Β ?_;exact W.ret ⟨_,rfl,rfl,rfl⟩
theorem bΔ (d:Array (Int×Int)) (n a b:Nat) (Ε:d.size=n) (μ:n<2 ^ 38) (hk:a+12<b) (PZ:b<a+50) (hb:b<=n) (ag:θ) (cmp:Int×Int->Int×Int->Int) (bu:aK 0 ag) (Υ:∀x y,eW Tryz.prog ag [aC x,aC y] (J (cmp x y))) :
  ak Tryz.prog 237 [.ms 0 n 0 n,J a,J b,ag] [.cells 112 2 ((d).toList.map aC)] (λr s=>r=.a3 [J (Go.Sort.choosePivot (ar cmp) d a b).1,J (yb (Go.Sort.choosePivot (ar cmp) d a b).2)]/\s=[.cells 112 2 ((d).toList.map aC)]) (λ_ _=>False):=by
 refine ak.body Ρ Tryz.func237 rfl rfl Tryz.ntmps237 rfl rfl η ?_;obtain⟨l,υ⟩:=aO (b-a);obtain⟨q,Χ⟩:=aO (l / 4);obtain⟨c6,yg⟩:=aO (q*2);obtain⟨gj,Jt⟩:=aO (q*3);obtain⟨i,hi⟩:=aO (a+q);obtain⟨j,δ⟩:=aO (a+c6);obtain⟨k,ψ⟩:=aO (a+gj);obtain⟨gd,em⟩:=gW (Go.Sort.median (ar cmp) d i j k 0);have JE:=bΓ d n i j k 0 Ε γ γ γ γ ag cmp bu Υ;rw[em] at JE;obtain⟨oa,mo⟩:=gd;simp only at JE;have dW:Go.Sort.choosePivot (ar cmp) d a b=(oa,if mo=0 then .increasing else if mo=12 then .decreasing else .unknown):=by
  have nq:8<=l:=γ
  have bΕ:¬50<=l:=γ;simp only[Go.Sort.choosePivot,<-υ,<-Χ,Nat.mul_one,<-yg,<-Jt,<-hi,<-δ,<-ψ,ge_iff_le,if_pos nq,if_neg bΕ,em]
 rw[dW];have sG:(8:Int)<=(l:Int):=γ;have bΖ:¬(50:Int)<=(l:Int):=γ;have w1:IntKind.i64.wrap ((b:Int)-(a:Int))=(l:Int):=by rw[IntWalk.i64_in _ γ];omega
 have w2:IntKind.i64.wrap ((l:Int) / 4)=(q:Int):=by rw[Χ];exact EB (m:=4) γ
 have w3:IntKind.i64.wrap (q:Int)=(q:Int):=IntWalk.i64_in _ γ
 have w4:IntKind.i64.wrap ((q:Int)*2)=(c6:Int):=by rw[IntWalk.i64_in _ γ];omega
 have yj:IntKind.i64.wrap ((q:Int)*3)=(gj:Int):=by rw[IntWalk.i64_in _ γ];omega
 have qt:IntKind.i64.wrap ((a:Int)+(q:Int))=(i:Int):=by rw[IntWalk.i64_in _ γ];omega
 have qu:IntKind.i64.wrap ((a:Int)+(c6:Int))=(j:Int):=by rw[IntWalk.i64_in _ γ];omega
 have v':IntKind.i64.wrap ((a:Int)+(gj:Int))=(k:Int):=by rw[IntWalk.i64_in _ γ];omega
 repeat apply al
 refine vk ?_
 repeat apply al
 refine tz w1 ?_
 repeat apply al
 refine cR (A:=[11]) Ρ λΔ ζ=>aV ?_;apply ζ;refine aT (Ζ w2 (Ζ w3 (Ζ w4 (Ζ yj (Ζ qt (Ζ qu (Ζ v' @sG))))))) ?_;refine aA η ?_;refine aT @bΖ ?_;refine ay η ?_;refine a5 λΔ ζ=>?_;refine ak.call (first:=[]) (captured:=[]) ((JE).mono (λr s ⟨ed,dM⟩=>?_) (λ_ _ h=>h.elim));subst ed;subst dM;simp;(repeat (rw[ae];simp[]));apply ζ
 repeat apply al
 refine vk ?_;refine W.drop (h:=1) η η (Py si) rfl [(13,J (oa:Nat)),(55,J (mo:Nat))] η ?_;by_cases ao:mo=0
 ·subst ao;refine Β ?_;refine aA rfl ?_;refine Β ?_;exact W.ret ⟨_,rfl,rfl,rfl⟩
 have bΗ:¬(mo:Int)=0:=γ;refine aT bΗ ?_;refine ay (by simp[ao]) ?_;by_cases iG:mo=12
 ·subst iG;refine Β ?_;refine aA rfl ?_;refine Β ?_;exact W.ret ⟨_,rfl,rfl,rfl⟩
 have bΘ:¬(mo:Int)=12:=γ;refine aT bΘ ?_;refine ay (by simp[iG]) ?_;refine Β ?_;exact W.ret ⟨_,rfl,by simp[ao,iG,yb],rfl⟩
theorem P0 (d:Array (Int×Int)) (n a b:Nat) (Ε:d.size=n) (μ:n<2 ^ 40) (hk:a<b) (PZ:b<a+50) (hb:b<=n) (ag:θ) (cmp:Int×Int->Int×Int->Int) (bu:aK 0 ag) (Υ:∀x y,eW Tryz.prog ag [aC x,aC y] (J (cmp x y))) :
  ak Tryz.prog 239 [.ms 0 n 0 n,J a,J b,ag] [.cells 112 2 ((d).toList.map aC)] (λr s=>r=bs (Go.Sort.partialInsertionSort (ar cmp) d a b).2/\s=[.cells 112 2 (((Go.Sort.partialInsertionSort (ar cmp) d a b).1).toList.map aC)]) (λ_ _=>False):=by
 refine ak.body Ρ Tryz.func239 rfl rfl Tryz.ntmps239 rfl rfl η ?_;obtain⟨a',fs⟩:=gW (Go.Sort.scanSorted (ar cmp) d b (a+1));have dW:Go.Sort.partialInsertionSort (ar cmp) d a b=(d,decide (a'=b)):=by
  unfold Go.Sort.partialInsertionSort;rw[Go.Sort.partialIns,fs];by_cases h:a'=b
  ·simp[h]
  ·simp[h];omega
 rw[dW];have w1:=jW (i:=a) γ;refine aT w1 ?_;refine .loop ?_;refine Β ?_;refine aA rfl ?_
 repeat apply al
 refine W.ry [(0,.ms 0 n 0 n),(1,J a),(2,J b),(3,ag),(9,J (a':Nat))] [.cells 112 2 ((d).toList.map aC)] ?_ ?_
 ·refine W.iter (λi:Nat=>a+1<=i/\i<=b/\Go.Sort.scanSorted (ar cmp) d b i=a') (λi=>[(0,.ms 0 n 0 n),(1,J a),(2,J b),(3,ag),(9,J (i:Nat))]) (λ_=>[.cells 112 2 ((d).toList.map aC)]) (λi=>b-i) (a+1) ⟨Nat.le_refl _,γ,fs⟩ rfl (by simp[w1]) (λi hi ω=>?_);obtain⟨oR,rz,gq⟩:=hi;by_cases ε:i<b
  ·obtain⟨p,ς⟩:=aO (i-1);have bp:i<n:=γ;have bk:p<n:=γ;obtain⟨L,x,y,av,U,Φ,υ,⟨I,R⟩,⟨ν,Ι⟩,-,-⟩:=jV aC Ε bp bk;have un:Go.Sort.scanSorted (ar cmp) d b i=if(!ar cmp x y)=true then Go.Sort.scanSorted (ar cmp) d b (i+1) else i:=by rw[Go.Sort.scanSorted];simp[ε,U,<-ς,Φ]
   have hw:=jW (i:=i) γ
   have l':IntKind.i64.wrap ((i:Int)-1)=(p:Int):=by rw[IntWalk.i64_in _ γ];omega
   refine W.to (σ':=[.cells 112 2 L]) (env':=[(0,.ms 0 n 0 n),(1,J a),(2,J b),(3,ag),(9,J (i:Nat))]) ?_ (by rw[av]) η;clear U Φ
   repeat apply al
   refine W.draw (A:=[]) Ρ mixed λΔ ζ=>mj (Ζ ε (Ζ l' (Ζ υ (Ζ I (Ζ R (Ζ ν (Ζ Ι (Ζ bp bk)))))))) ?_;refine eS (Υ x y) ?_;simp;(repeat (rw[dZ];simp[]));try rw[dY]
   refine fC (ζ _ _ ?_);by_cases hm:cmp x y<0
   ·refine ay (by simp[hm]) ?_;refine W.exit rfl ?_;exact W.stop ⟨rfl,by rw[av],by rw[<-gq,un];simp[hm,ar]⟩
   ·refine aA (by simp[hm]) ?_;refine aT hw ?_;exact W.to (ω (i+1) ⟨γ,γ,by rw[<-gq,un];simp[hm,ar]⟩ (by(try simp only);omega)) (by rw[av]) (by simp[hw])
  ·repeat apply al
   refine fD ε ?_;refine ay rfl ?_;refine W.exit rfl ?_;have e:Go.Sort.scanSorted (ar cmp) d b i=i:=by rw[Go.Sort.scanSorted];simp[ε]
   exact W.stop ⟨rfl,rfl,by rw[<-gq,e];simp⟩
 by_cases EC:a'=b
 ·have g:(a':Int)=(b:Int):=by omega
  refine aT g ?_;refine aA (by simp[EC]) ?_;refine Β ?_;exact W.ret ⟨_,rfl,by simp[EC],rfl⟩
 ·have g:¬(a':Int)=(b:Int):=by omega
  have ah:((b-a:Nat):Int)<50:=γ
  have w2:=Jn (a:=a) (b:=b) γ γ;refine aT g ?_;refine ay (by simp[EC]) ?_;refine aT (Ζ w2 ah) ?_;refine aA η ?_;refine Β ?_;exact W.ret ⟨_,rfl,by simp[EC],rfl⟩
theorem bΙ (l:Nat) (υ:l<256):Ω Tryz.prog 226 [J l] (n8 ((1 <<< Go.Sort.bitsLen l:Nat):Int)):=by
 refine ak.body Ρ Tryz.func226 rfl rfl Tryz.ntmps226 rfl rfl η ?_;have Θ:IntKind.u64.wrap (l:Int)=l:=yc γ;(repeat (first|apply al|(refine cM λΔ ζ=>?_;simp;(repeat (rw[ae];simp[Θ]));apply ζ)));(repeat apply al);refine cM λΔ ζ=>?_;simp;(repeat (rw[ae];simp[Θ]));refine Ω.d (sh l υ) (aV ?_);apply ζ;refine Β ?_;refine W.ret ⟨_,rfl,.of ?_,rfl⟩;have hb:=(Go.Sort.bitsLen_le_iff l 8).2 υ;have e:=Jm 1 (Go.Sort.bitsLen l) γ;have bO:1*2 ^ Go.Sort.bitsLen l % 18446744073709551616=1 <<< Go.Sort.bitsLen l:=by
  rw[Nat.one_mul,Nat.one_shiftLeft,Nat.mod_eq_of_lt (Nat.lt_of_le_of_lt (Nat.pow_le_pow_right γ hb) a0)]
 rw[bO] at e;show n8 (IntKind.u64.wrap (2 ^ min (Go.Sort.bitsLen l) IntKind.u64.bits))=_;rw[<-e];simp
theorem bΚ (x:Nat) (U:x<2 ^ 64):ak Tryz.prog 227 [.an 0 1 0 0] [.cells 248 1 [n8 (x:Int)]] (λr s=>r=n8 ((Go.Sort.xorNextN x:Nat):Int)/\s=[.cells 248 1 [n8 ((Go.Sort.xorNextN x:Nat):Int)]]) (λ_ _=>False):=by
 refine ak.body Ρ Tryz.func227 rfl rfl Tryz.ntmps227 rfl rfl η ?_;obtain⟨ff,jS⟩:=aO (x*2 ^ 13 % 18446744073709551616);obtain⟨oD,tX⟩:=aO (x^^^ff);obtain⟨eD,h2⟩:=aO (oD / 2 ^ 7);obtain⟨rT,ED⟩:=aO (oD^^^eD);obtain⟨tE,JF⟩:=aO (rT*2 ^ 17 % 18446744073709551616);obtain⟨F4,JG⟩:=aO (rT^^^tE);have dW:Go.Sort.xorNextN x=F4:=by rw[JG,JF,ED,h2,tX,jS];rfl
 rw[dW];have l1:ff<2 ^ 64:=γ;have k1:oD<2 ^ 64:=by rw[tX];exact Nat.xor_lt_two_pow U l1
 have l2:eD<2 ^ 64:=γ
 have bG:rT<2 ^ 64:=by rw[ED];exact Nat.xor_lt_two_pow k1 l2
 have og:tE<2 ^ 64:=γ
 have a1:=Jm x 13 γ;rw[<-jS] at a1;have a2:=Jl U l1;rw[<-tX] at a2;have ck:=aΘ oD 7 γ;rw[<-h2] at ck;have fY:=Jl k1 l2;rw[<-ED] at fY;have hA:=Jm rT 17 γ;rw[<-JF] at hA;have l3:=Jl bG og;rw[<-JG] at l3;clear JG JF ED h2 tX jS l1 k1 l2 bG og dW;refine Β ?_;refine fD (Ζ a1 a2) ?_;refine Β ?_;refine fD (Ζ ck fY) ?_;refine Β ?_;refine fD (Ζ hA l3) ?_;refine Β ?_;exact W.ret ⟨_,rfl,rfl,rfl⟩
theorem bΜ (d:Array (Int×Int)) (n a b:Nat) (Ε:d.size=n) (μ:n<2 ^ 40) (hk:a+12<b) (PZ:b<a+50) (hb:b<=n) (ag:θ) (cmp:Int×Int->Int×Int->Int) (bu:aK 0 ag) (Υ:∀x y,eW Tryz.prog ag [aC x,aC y] (J (cmp x y))) :
  ak Tryz.prog 236 [.ms 0 n 0 n,J a,J b,ag] [.cells 112 2 ((d).toList.map aC)] (λr s=>r=.a3 []/\s=[.cells 112 2 ((Go.Sort.breakPatterns d a b).toList.map aC)]) (λ_ _=>False):=by
 refine ak.body Ρ Tryz.func236 rfl rfl Tryz.ntmps236 rfl rfl η ?_;obtain⟨l,υ⟩:=aO (b-a);obtain⟨q,Χ⟩:=aO (l / 4);obtain⟨c6,yg⟩:=aO (q*2);obtain⟨c,ε⟩:=aO (a+c6);obtain⟨dQ,jE⟩:=aO (c-1);obtain⟨c1,m3⟩:=aO (c+1);obtain⟨m,hm⟩:=aO (1 <<< Go.Sort.bitsLen l);have bΝ:Go.Sort.bitsLen l<=6:=(Go.Sort.bitsLen_le_iff l 6).2 γ;have G7:l<m/\m<=64/\m<=2*l:=by
  have I:=Go.Sort.lt_two_pow_bitsLen l
  have R:=Go.Sort.two_pow_bitsLen_le (n:=l) γ;rw[hm,Nat.one_shiftLeft];exact⟨I,Nat.le_trans (Nat.pow_le_pow_right γ bΝ) a0,R⟩
 obtain⟨aj,iq⟩:=gW (ya a l m 3 dQ (UInt64.ofNat l,d));have dW:Go.Sort.breakPatterns d a b=aj.2:=by rw[aΖ (c:=c) υ γ (by rw[ε,yg,Χ]),<-hm,<-jE,iq]
 rw[dW];have w1:IntKind.i64.wrap ((b:Int)-(a:Int))=(l:Int):=by rw[IntWalk.i64_in _ γ];omega
 have w2:IntKind.i64.wrap ((l:Int) / 4)=(q:Int):=by rw[Χ];exact EB (m:=4) γ
 have w4:IntKind.i64.wrap ((q:Int)*2)=(c6:Int):=by rw[IntWalk.i64_in _ γ];omega
 have qt:IntKind.i64.wrap ((a:Int)+(c6:Int))=(c:Int):=by rw[IntWalk.i64_in _ γ];omega
 have qu:IntKind.i64.wrap ((c:Int)-1)=(dQ:Int):=by rw[IntWalk.i64_in _ γ];omega
 have v':IntKind.i64.wrap ((c:Int)+1)=(c1:Int):=by rw[IntWalk.i64_in _ γ];omega
 have bΞ:IntKind.u64.wrap (l:Int)=(l:Int):=yc γ
 have bΟ:IntKind.u64.wrap ((m:Int)-1)=((m-1:Nat):Int):=by
  have e:(m:Int)-1=((m-1:Nat):Int):=γ;rw[e];exact yc γ
 have sG:(8:Int)<=(l:Int):=γ
 have cW:(UInt64.ofNat l).toNat=l:=by rw[UInt64.toNat_ofNat'];exact Nat.mod_eq_of_lt γ
 refine aT (Ζ w1 @sG) ?_;refine aA η ?_
 repeat apply al
 refine cR (A:=[9]) Ρ λΔ ζ=>fV bΞ ?_;apply ζ;have CQ:=bΙ l γ;rw[<-hm] at CQ;refine a5 λΔ ζ=>?_;refine Ω.c CQ (b9.refl _) η η ?_;simp;(repeat (rw[ae];simp[]));apply ζ;refine aT (Ζ w2 (Ζ w4 (Ζ qt qu))) ?_;refine W.iter (λy:Nat×UInt64×Array (Int×Int)=>y.1<=3/\y.2.2.size=n/\ya a l m y.1 (c+2-y.1) y.2=aj) (λy=>[(0,.ms 0 n 0 n),(1,J a),(8,J (l:Nat)),(9,.an 1 1 0 0),(10,n8 (m:Nat)),(11,J (c+2-y.1:Nat))]) (λy=>[.cells 112 2 ((y.2.2).toList.map aC),.cells 248 1 [n8 ((y.2.1.toNat:Nat):Int)]]) (λy=>y.1) (3,UInt64.ofNat l,d) ⟨Nat.le_refl _,Ε,by simp only;rw[<-iq,show c+2-3=dQ by omega]⟩ (by simp only;rw[cW]) (by simp[jE]) (λy Φ ω=>?_);obtain⟨t,st,e⟩:=y;obtain⟨Ν,fa,bm⟩:=Φ;simp only at Ν fa bm;obtain⟨bY,oH⟩:=aO (c+2-t);obtain⟨x,U⟩:=aO st.toNat;have nE:x<2 ^ 64:=by rw[U];exact st.toNat_lt
 rw[<-oH] at bm;refine W.to (σ':=[.cells 112 2 ((e).toList.map aC),.cells 248 1 [n8 ((x:Nat):Int)]]) (env':=[(0,.ms 0 n 0 n),(1,J a),(8,J (l:Nat)),(9,.an 1 1 0 0),(10,n8 (m:Nat)),(11,J (bY:Nat))]) ?_ (by rw[U]) (by simp[oH]);cases t with
 | zero=>
  have g:¬(bY:Int)<=(c1:Int):=γ;refine aT (Ζ w2 (Ζ w4 (Ζ qt (Ζ v' g)))) ?_;refine ay η ?_;refine W.exit rfl ?_;refine W.drop (h:=1) η η (Py si) rfl [] η ?_;exact W.nil ⟨_,rfl,rfl,by rw[<-bm];rfl⟩
 | succ t=>
  have g:(bY:Int)<=(c1:Int):=γ;obtain⟨yk,BE⟩:=aO (Go.Sort.xorNext st);obtain⟨pz,qP⟩:=aO yk.toNat;have bΡ:pz=Go.Sort.xorNextN x:=by rw[qP,BE,Go.Sort.xorNext_toNat,U]
  have bΤ:pz<2 ^ 64:=by rw[qP];exact yk.toNat_lt
  have P1:=bΚ x nE;rw[<-bΡ] at P1;obtain⟨z,Μ⟩:=aO (pz&&&(m-1));have xB:z<=m-1:=by rw[Μ];exact Nat.and_le_right
  have gM:iA .u64 (pz:Int) ((m-1:Nat):Int)=(z:Int):=by rw[Μ];exact aΙ bΤ γ
  have bΥ:IntKind.i64.wrap (z:Int)=(z:Int):=IntWalk.i64_in _ γ;obtain⟨o,Α⟩:=aO (if z>=l then z-l else z);have L5:o<l:=by rw[Α];split<;>omega
  have A0:ya a l m t (bY+1) (yk,Go.Sort.swp e bY (a+o))=aj:=by
   rw[<-bm];show _=ya a l m t (bY+1) (Go.Sort.breakStep a l m (st,e) bY);unfold Go.Sort.breakStep;simp only;rw[<-BE,<-qP,<-Μ,<-Α]
  obtain⟨EE,bΦ⟩:=aO (a+o);rw[<-bΦ] at A0;refine aT (Ζ w2 (Ζ w4 (Ζ qt (Ζ v' g)))) ?_;refine aA η ?_;refine a5 λΔ ζ=>?_;refine ak.one P1 1 rfl (by simp[jf]) (by simp[jf]) (by simp[fB,pR]) (by simp[fB,pR]) rfl ?_;simp[dO,g5];(repeat (rw[ae];simp[bΟ,gM,bΥ]));apply ζ;refine W.to (σ':=[.cells 112 2 ((e).toList.map aC),.cells 248 1 [n8 ((pz:Nat):Int)]]) (env':=[(0,.ms 0 n 0 n),(1,J a),(8,J (l:Nat)),(9,.an 1 1 0 0),(10,n8 (m:Nat)),(11,J (bY:Nat)),(12,J (z:Nat))]) ?_ rfl η;refine Β ?_;refine W.upto [(0,.ms 0 n 0 n),(1,J a),(8,J (l:Nat)),(9,.an 1 1 0 0),(10,n8 (m:Nat)),(11,J (bY:Nat)),(12,J (o:Nat))] [.cells 112 2 ((e).toList.map aC),.cells 248 1 [n8 ((pz:Nat):Int)]] ?_ ?_
  ·by_cases m5:l<=z
   ·have wo:IntKind.i64.wrap ((z:Int)-(l:Int))=(o:Int):=by rw[IntWalk.i64_in _ γ,Α,if_pos m5];omega
    refine aA (by simp[m5]) ?_;refine aT wo ?_;exact W.stop ⟨rfl,rfl,η⟩
   ·refine ay (by simp[m5]) ?_
    repeat apply al
    exact W.stop ⟨rfl,rfl,by simp[Α,m5]⟩
  have bΧ:IntKind.i64.wrap ((a:Int)+(o:Int))=(EE:Int):=by rw[IntWalk.i64_in _ γ];omega
  have bp:bY<n:=γ
  have bk:EE<n:=γ;obtain⟨L,x,y,av,U,Φ,υ,⟨I,R⟩,⟨ν,Ι⟩,ey,kp,aB⟩:=jV aC fa bp bk;rw[av];clear U Φ
  repeat apply al
  refine fD (Ζ υ (Ζ I (Ζ R (Ζ ν (Ζ Ι (Ζ aB (Ζ bp (Ζ bk bΧ)))))))) ?_;have bΨ:=jW (i:=bY) γ;refine aT bΨ ?_;refine W.to (ω (t,yk,Go.Sort.swp e bY EE) ⟨by(try simp only);omega,swp_size fa bY EE,?_⟩ η) (by rw[ey,qP]) (by simp[show c+2-t=bY+1 by omega]);have Γ:c+2-t=bY+1:=γ;simp only;rw[Γ];exact A0
theorem bΩ (n:Nat) (μ:n<50) (ag:θ) (cmp:Int×Int->Int×Int->Int) (bu:aK 0 ag) (Υ:∀x y,eW Tryz.prog ag [aC x,aC y] (J (cmp x y))) (fA:Go.Sort.SWO (ar cmp)):∀(k:Nat) (d:Array (Int×Int)) (a b lim:Nat),d.size=n->b-a<=k->a<=b->b<=n->lim<2 ^ 40->Go.Sort.Below (ar cmp) a b d->
  ak Tryz.prog 211 [.ms 0 n 0 n,J a,J b,J lim,ag] [.cells 112 2 ((d).toList.map aC)] (λr s=>r=.a3 []/\s=[.cells 112 2 ((Go.Sort.pdq (ar cmp) d a b lim true true).toList.map aC)]) (λ_ _=>False):=by
 intro k
 induction k using Nat.strongRecOn with
 | _ k BY=>
 intro d a b lim Ε ψ hk hb EF e1;refine ak.body Ρ Tryz.func211 rfl rfl Tryz.ntmps211 rfl rfl η ?_;obtain⟨aj,iq⟩:=gW (Go.Sort.pdq (ar cmp) d a b lim true true);rw[iq];refine Β ?_;refine W.iter (λq:aΕ (Int×Int)=>q.e.size=n/\q.a<=q.b/\q.b<=n/\q.b-q.a<=k/\q.lim<2 ^ 40/\Go.Sort.Below (ar cmp) q.a q.b q.e/\Go.Sort.pdq (ar cmp) q.e q.a q.b q.lim q.wb q.wp=aj) (λq=>[(0,.ms 0 n 0 n),(1,J (q.a:Nat)),(2,J (q.b:Nat)),(3,J (q.lim:Nat)),(4,ag),(10,bs q.wb),(11,bs q.wp)]) (λq=>[.cells 112 2 ((q.e).toList.map aC)]) (λq=>q.b-q.a) ⟨a,b,lim,true,true,d⟩ ⟨Ε,hk,hb,ψ,EF,e1,iq⟩ rfl η (λq Χ ω=>?_);clear iq e1 EF hb hk ψ;obtain⟨a,b,lim,wb,wp,e⟩:=q;obtain⟨fa,hk,hb,ψ,EF,e1,bm⟩:=Χ;simp only at fa hk hb ψ EF e1 bm;obtain⟨l,υ⟩:=aO (b-a);have w1:IntKind.i64.wrap ((b:Int)-(a:Int))=(l:Int):=by rw[IntWalk.i64_in _ γ];omega
 refine W.to (σ':=[.cells 112 2 ((e).toList.map aC)]) (env':=[(0,.ms 0 n 0 n),(1,J (a:Nat)),(2,J (b:Nat)),(3,J (lim:Nat)),(4,ag),(10,bs wb),(11,bs wp)]) ?_ rfl η;by_cases iG:b-a<=12
 ·have g:(l:Int)<=12:=by omega
  refine aT (Ζ w1 g) ?_;refine aA η ?_;refine a5 λΔ ζ=>?_;refine ak.call (first:=[]) (captured:=[]) ((MU e n a b fa hk hb γ ag cmp bu Υ).mono (λr s ⟨ed,dM⟩=>?_) (λ_ _ h=>h.elim));subst ed;subst dM;simp;(repeat (rw[ae];simp[]));apply ζ;rw[Go.Sort.pdq_small iG] at bm;exact W.ret ⟨_,rfl,rfl,by rw[<-bm]⟩
 have g:¬(l:Int)<=12:=γ;refine aT (Ζ w1 g) ?_;refine ay η ?_;by_cases ao:lim=0
 ·have cP:(lim:Int)=0:=by omega
  refine aT cP ?_;refine aA (by simp[ao]) ?_;refine a5 λΔ ζ=>?_;refine ak.call (first:=[]) (captured:=[]) ((bφ e n a b fa γ γ hb ag cmp bu Υ).mono (λr s ⟨ed,dM⟩=>?_) (λ_ _ h=>h.elim));subst ed;subst dM;simp;(repeat (rw[ae];simp[]));apply ζ;rw[Go.Sort.pdq_heap iG ao] at bm;exact W.ret ⟨_,rfl,rfl,by rw[<-bm]⟩
 have cP:¬(lim:Int)=0:=γ;refine aT cP ?_;refine ay (by simp[ao]) ?_;refine Β ?_;have F:=Go.Sort.rd_facts (limit:=lim) (wb:=wb) (wp:=wp) fA Go.Sort.partialInsertionSort_holds Go.Sort.reverseRange_holds (by omega:a<b) γ e1;have P2:=Go.Sort.rd_lim_le (lt:=(ar cmp)) (d:=e) (a:=a) (b:=b) (limit:=lim) (wb:=wb) (wp:=wp);have EG:=λh:wb=false=>show(Go.Sort.rd (ar cmp) e a b lim wb wp).d1=Go.Sort.breakPatterns e a b/\(Go.Sort.rd (ar cmp) e a b lim wb wp).lim=lim-1 by subst h;exact Go.Sort.rd_false
 have EH:=λh:wb=true=>show(Go.Sort.rd (ar cmp) e a b lim wb wp).d1=e/\(Go.Sort.rd (ar cmp) e a b lim wb wp).lim=lim by subst h;exact Go.Sort.rd_true
 have EI:=Go.Sort.rd_c (lt:=(ar cmp)) (d:=e) (a:=a) (b:=b) (limit:=lim) (wb:=wb) (wp:=wp)
 have Fd:=Go.Sort.rd_dec (lt:=(ar cmp)) (d:=e) (a:=a) (b:=b) (limit:=lim) (wb:=wb) (wp:=wp)
 have Fn:=Go.Sort.rd_not (lt:=(ar cmp)) (d:=e) (a:=a) (b:=b) (limit:=lim) (wb:=wb) (wp:=wp)
 have A1:=Go.Sort.rd_pi_yes (lt:=(ar cmp)) (d:=e) (a:=a) (b:=b) (limit:=lim) (wb:=wb) (wp:=wp)
 have A2:=Go.Sort.rd_pi_no (lt:=(ar cmp)) (d:=e) (a:=a) (b:=b) (limit:=lim) (wb:=wb) (wp:=wp)
 have pg:=Go.Sort.pdq_done (lt:=(ar cmp)) (d:=e) (wb:=wb) (wp:=wp) iG ao
 have mO:=Go.Sort.pdq_eq (lt:=(ar cmp)) (d:=e) (wb:=wb) (wp:=wp) iG ao
 have lf:=Go.Sort.pdq_left (lt:=(ar cmp)) (d:=e) (wb:=wb) (wp:=wp) iG ao
 have lg:=Go.Sort.pdq_right (lt:=(ar cmp)) (d:=e) (wb:=wb) (wp:=wp) iG ao;rw[bm] at pg mO lf lg;obtain⟨r,ι⟩:=gW (Go.Sort.rd (ar cmp) e a b lim wb wp);rw[ι] at F P2 EG EH EI Fd Fn A1 A2 pg mO lf lg;clear ι;obtain⟨d1,gY,⟨JH,ch⟩,d2,oa,A3,d3,done⟩:=r;simp only at F P2 EG EH EI Fd Fn A1 A2 pg mO lf lg;obtain⟨yl,hω,hΑ,JI,hΒ,ub,uf,P3⟩:=F;rw[fa] at yl JI uf;refine W.upto [(0,.ms 0 n 0 n),(1,J (a:Nat)),(2,J (b:Nat)),(3,J (gY:Nat)),(4,ag),(10,bs wb),(11,bs wp),(12,J (l:Nat))] [.cells 112 2 ((d1).toList.map aC)] ?_ ?_
 ·cases wb with
  | false=>
   obtain⟨f1,f2⟩:=EG rfl;refine aA rfl ?_;refine a5 λΔ ζ=>?_;refine ak.call (first:=[]) (captured:=[]) ((bΜ e n a b fa γ γ γ hb ag cmp bu Υ).mono (λr s ⟨ed,dM⟩=>?_) (λ_ _ h=>h.elim));subst ed;subst dM;simp;(repeat (rw[ae];simp[]));apply ζ;have w2:=n9 (i:=lim) γ γ;refine tz w2 ?_;exact W.stop ⟨rfl,by rw[f1],by simp[f2]⟩
  | true=>
   obtain⟨f1,f2⟩:=EH rfl;refine ay rfl ?_;refine W.skip ?_;exact W.stop ⟨rfl,by rw[f1],by simp[f2]⟩
 have JJ:=bΔ d1 n a b yl γ γ γ hb ag cmp bu Υ;rw[<-EI] at JJ;simp only at JJ;refine a5 λΔ ζ=>?_;refine ak.call (first:=[]) (captured:=[]) ((JJ).mono (λr s ⟨ed,dM⟩=>?_) (λ_ _ h=>h.elim));subst ed;subst dM;simp;(repeat (rw[ae];simp[]));apply ζ;refine W.to (σ':=[.cells 112 2 ((d1).toList.map aC)]) (env':=[(0,.ms 0 n 0 n),(1,J (a:Nat)),(2,J (b:Nat)),(3,J (gY:Nat)),(4,ag),(10,bs wb),(11,bs wp),(12,J (l:Nat)),(13,J (JH:Nat)),(14,J (yb ch))]) ?_ rfl η;refine Β ?_;refine W.upto [(0,.ms 0 n 0 n),(1,J (a:Nat)),(2,J (b:Nat)),(3,J (gY:Nat)),(4,ag),(10,bs wb),(11,bs wp),(12,J (l:Nat)),(13,J (oa:Nat)),(14,J (yb A3))] [.cells 112 2 ((d2).toList.map aC)] ?_ ?_
 ·by_cases hd:ch=.decreasing
  ·obtain⟨f1,f2,f3⟩:=Fd hd;subst hd;refine aA rfl ?_;refine a5 λΔ ζ=>?_;refine ak.call (first:=[]) (captured:=[]) ((bω d1 n a b yl γ γ hb ag cmp bu Υ).mono (λr s ⟨ed,dM⟩=>?_) (λ_ _ h=>h.elim));subst ed;subst dM;simp;(repeat (rw[ae];simp[]));apply ζ;have w2:=n9 (i:=b) γ γ;have w3:=Jn (a:=a) (b:=JH) γ γ;have w4:=Jn (a:=JH-a) (b:=b-1) γ γ;rw[<-f2] at w4;refine W.seq ?_;refine tz (Ζ w2 (Ζ w3 w4)) ?_;refine vk ?_;exact W.stop ⟨rfl,by rw[f1],by simp[f3,yb]⟩
  ·obtain⟨f1,f2,f3⟩:=Fn hd;refine ay (by cases ch with
    | decreasing=>exact absurd rfl hd
    | unknown=>rfl
    | increasing=>rfl) ?_
   refine W.skip ?_;exact W.stop ⟨rfl,by rw[f1],by simp[f2,f3]⟩
 repeat apply al
 refine W.r7 (A:=[]) Ρ [(75,bs (wb&&wp&&decide (A3=.increasing))),(0,.ms 0 n 0 n),(1,J (a:Nat)),(2,J (b:Nat)),(3,J (gY:Nat)),(4,ag),(10,bs wb),(11,bs wp),(12,J (l:Nat)),(13,J (oa:Nat))] ?_ (by cases wb<;>cases wp<;>cases A3<;>simp[ae,q3,yb])
 repeat apply al
 rcases Bool.eq_false_or_eq_true done with pv|pv
 ·cases ε:(wb&&wp&&decide (A3=.increasing)) with
  | true=>
   have f:=A1 ε;refine aA rfl ?_;have mP:=P0 d2 n a b JI γ γ γ hb ag cmp bu Υ;rw[<-f] at mP;simp only[pv] at mP;refine a5 λΔ ζ=>?_;refine ak.call (first:=[]) (captured:=[]) ((mP).mono (λr s ⟨ed,dM⟩=>?_) (λ_ _ h=>h.elim));subst ed;subst dM;simp;(repeat (rw[ae];simp[]));apply ζ;refine aA rfl ?_;exact W.ret ⟨_,rfl,rfl,by rw[pg pv]⟩
  | false=>
   have f:=(Prod.mk.inj (A2 ε)).2;rw[pv] at f;cases f
 refine W.upto [(0,.ms 0 n 0 n),(1,J (a:Nat)),(2,J (b:Nat)),(3,J (gY:Nat)),(4,ag),(10,bs wb),(11,bs wp),(12,J (l:Nat)),(13,J (oa:Nat))] [.cells 112 2 ((d3).toList.map aC)] ?_ ?_
 ·cases ε:(wb&&wp&&decide (A3=.increasing)) with
  | true=>
   have f:=A1 ε;refine aA rfl ?_;have mP:=P0 d2 n a b JI γ γ γ hb ag cmp bu Υ;rw[<-f] at mP;simp only[pv] at mP;refine a5 λΔ ζ=>?_;refine ak.call (first:=[]) (captured:=[]) ((mP).mono (λr s ⟨ed,dM⟩=>?_) (λ_ _ h=>h.elim));subst ed;subst dM;simp;(repeat (rw[ae];simp[]));apply ζ;refine ay rfl ?_;refine W.skip ?_;exact W.stop ⟨rfl,rfl,η⟩
  | false=>
   have f1:=(Prod.mk.inj (A2 ε)).1;refine ay rfl ?_;refine W.skip ?_;exact W.stop ⟨rfl,by rw[f1],η⟩
 clear pg A1 A2 Fd Fn EI EG EH;have mO:=mO pv;have lf:=lf pv;have lg:=lg pv;obtain⟨P,wa⟩:=gW ((decide (a > 0)&&!ar cmp d3[a-1]! d3[oa]!):Bool);rw[wa] at mO lf lg
 repeat apply al
 refine W.Df (A:=[]) Ρ mixed [(97,bs P),(0,.ms 0 n 0 n),(1,J (a:Nat)),(2,J (b:Nat)),(3,J (gY:Nat)),(4,ag),(10,bs wb),(11,bs wp),(12,J (l:Nat)),(13,J (oa:Nat))] ?_ (by
  by_cases κ:0<a
  ·obtain⟨p,ς⟩:=aO (a-1);have bp:p<n:=γ;have bk:oa<n:=γ;obtain⟨L,x,y,av,U,Φ,υ,⟨I,R⟩,⟨ν,Ι⟩,-,-⟩:=jV aC uf bp bk;have JK:P = !ar cmp x y:=by rw[<-wa,<-ς,U,Φ];simp[κ]
   have eo:(0:Int)<(a:Int):=γ
   have w2:IntKind.i64.wrap ((a:Int)-1)=(p:Int):=by rw[IntWalk.i64_in _ γ];omega
   rw[av];clear U Φ;simp;(repeat (rw[dZ];simp[κ,eo,w2,υ,I,R,ν,Ι,bp,bk]));(try rw[dY]);refine eS (Υ x y) ?_;simp;(repeat (rw[dZ];simp[]));(try rw[dY]);refine⟨oQ (by kernel_rfl),?_⟩;simp[JK,ar]
  ·have JK:P=false:=by rw[<-wa];simp[κ]
   have eo:a=0:=γ;subst eo;simp;(repeat (rw[dZ];simp[]));(try rw[dY]);refine⟨oQ (by kernel_rfl),?_⟩;simp[JK])
 repeat apply al
 rcases Bool.eq_false_or_eq_true P with wc|wc
 ·refine aA (by simp[wc]) ?_;rw[wc] at wa;simp only[Bool.and_eq_true,decide_eq_true_eq,Bool.not_eq_true'] at wa;obtain⟨⟨mid,d4⟩,U⟩:∃r,Go.Sort.partitionEqual (ar cmp) d3 a b oa=r:=⟨_,rfl⟩;obtain⟨ff,eD,tE,xp,-⟩:=Go.Sort.round_eq fA (Go.Sort.partitionEqual_holds _) wa.1 ub.1 ub.2 (by rw[uf];exact hb) P3 wa.2 U;have mO:=mO wc;rw[U] at mO;have mO:=mO ⟨ff,eD⟩;simp only at mO;have mP:=bρ d3 n a b oa uf γ ub.1 ub.2 hb ag cmp bu Υ;rw[U] at mP;simp only at mP;refine a5 λΔ ζ=>?_;refine ak.call (first:=[]) (captured:=[]) ((mP).mono (λr s ⟨ed,dM⟩=>?_) (λ_ _ h=>h.elim));subst ed;subst dM;simp;(repeat (rw[ae];simp[]));apply ζ;refine Β ?_;refine W.exit rfl ?_;exact W.to (ω ⟨mid,b,gY,wb,wp,d4⟩ ⟨tE.trans uf,eD,hb,by(try simp only);omega,by(try simp only);omega,xp,mO.symm⟩ (by(try simp only);omega)) rfl η
 refine ay (by simp[wc]) ?_;obtain⟨⟨mid,ap,d4⟩,U⟩:∃r,Go.Sort.partition (ar cmp) d3 a b oa=r:=⟨_,rfl⟩;obtain⟨ff,eD,tE,xp,zY,cα,P4⟩:=Go.Sort.round_part fA (Go.Sort.partition_holds _) ub.1 ub.2 (by rw[uf];exact hb) P3 U;have lf:=lf wc;have lg:=lg wc;rw[U] at lf lg;have lf:=lf ⟨ff,eD⟩;have lg:=lg ⟨ff,eD⟩;simp only at lf lg;have mP:=bξ d3 n a b oa uf γ ub.1 ub.2 hb ag cmp bu Υ;rw[U] at mP;simp only at mP;have EJ:d4.size=n:=tE.trans uf;obtain⟨u,hu⟩:=aO (mid-a);obtain⟨v,hv⟩:=aO (b-mid);obtain⟨uw,P5⟩:=aO (l / 8);obtain⟨dN,lH⟩:=aO (mid+1);have yj:IntKind.i64.wrap ((mid:Int)-(a:Int))=(u:Int):=by rw[IntWalk.i64_in _ γ];omega
 have qt:IntKind.i64.wrap ((b:Int)-(mid:Int))=(v:Int):=by rw[IntWalk.i64_in _ γ];omega
 have qu:IntKind.i64.wrap ((l:Int) / 8)=(uw:Int):=by rw[P5];exact EB (m:=8) γ
 have v':IntKind.i64.wrap ((mid:Int)+1)=(dN:Int):=by rw[IntWalk.i64_in _ γ];omega
 rw[<-hu,<-hv,<-υ,<-P5,<-lH] at lf lg;refine a5 λΔ ζ=>?_;refine ak.call (first:=[]) (captured:=[]) ((mP).mono (λr s ⟨ed,dM⟩=>?_) (λ_ _ h=>h.elim));subst ed;subst dM;simp;(repeat (rw[ae];simp[]));apply ζ;by_cases xz:u<v
 ·have Ξ:(u:Int)<(v:Int):=by omega
  refine aT (Ζ yj (Ζ qt (Ζ qu @Ξ))) ?_;refine aA η ?_;obtain⟨dD,p2⟩:=Go.Sort.pdq_sorts (ar cmp) fA d4 a mid gY true true ff γ xp;have A4:=BY (mid-a) γ d4 a mid gY EJ (Nat.le_refl _) ff γ γ xp;have lf:=lf xz;obtain⟨B',-⟩:=cα _ dD p2;have s1:=dD.1.trans EJ;obtain⟨Θ,oP⟩:=gW (Go.Sort.pdq (ar cmp) d4 a mid gY true true);rw[oP] at A4 lf B' s1;refine a5 λΔ ζ=>?_;apply ζ;refine a5 λΔ ζ=>?_;refine ak.call (first:=[]) (captured:=[]) ((A4).mono (λr s ⟨ed,dM⟩=>?_) (λ_ _ h=>h.elim));subst ed;subst dM;simp;(repeat (rw[ae];simp[]));apply ζ;refine aT v' ?_;exact W.to (ω ⟨dN,b,gY,decide (u>=uw),ap,Θ⟩ ⟨s1,by(try simp only);omega,hb,by(try simp only);omega,by(try simp only);omega,by simp only;rw[lH];exact B',lf.symm⟩ (by(try simp only);omega)) rfl η
 ·have Ξ:¬(u:Int)<(v:Int):=by omega
  refine aT (Ζ yj (Ζ qt (Ζ qu @Ξ))) ?_;refine ay η ?_;obtain⟨dD,p2⟩:=Go.Sort.pdq_sorts (ar cmp) fA d4 (mid+1) b gY true true γ γ zY;rw[<-lH] at dD p2 zY;have A4:=BY (b-dN) γ d4 dN b gY EJ (Nat.le_refl _) γ hb γ zY;have lg:=lg xz;rw[<-lH] at P4;obtain⟨B',-⟩:=P4 _ dD p2;have s1:=dD.1.trans EJ;obtain⟨Θ,oP⟩:=gW (Go.Sort.pdq (ar cmp) d4 dN b gY true true);rw[oP] at A4 lg B' s1;refine a5 λΔ ζ=>?_;apply ζ;refine iE v' λΔ ζ=>?_;refine ak.call (first:=[]) (captured:=[]) ((A4).mono (λr s ⟨ed,dM⟩=>?_) (λ_ _ h=>h.elim));subst ed;subst dM;simp;(repeat (rw[ae];simp[]));apply ζ;refine Β ?_;exact W.to (ω ⟨a,mid,gY,decide (v>=uw),ap,Θ⟩ ⟨s1,ff,by(try simp only);omega,by(try simp only);omega,by(try simp only);omega,B',lg.symm⟩ (by(try simp only);omega)) rfl η
theorem cβ {α:Type} [Inhabited α] {lt:α->α->Bool} (μ:Go.Sort.SWO lt) (κ:∀x y,lt x y=false->lt y x=false->x=y) (l:List α):(Go.Sort.pdq lt l.toArray 0 l.length (Go.Sort.bitsLen l.length) true true).toList=l.mergeSort (λx y=>!lt y x):=by
 obtain⟨I,R⟩:=Go.Sort.pdq_sorts lt μ l.toArray 0 l.length (Go.Sort.bitsLen l.length) true true (Nat.zero_le _) η (.inl rfl);exact Go.Sort.sorted_unique_holds (lt:=lt) μ κ l.toArray _ (by simpa using I) (by simpa using R)
theorem cγ:Dz 49:=λl υ=>by
 obtain⟨ag,bu⟩:=aO (.fn (.func 174) [] []:θ);have cδ:aK 0 ag:=by rw[bu];simp[hG]
 have Υ:∀x y,eW Tryz.prog ag [aC x,aC y] (J (lK x y)):=λx y=>by rw[bu];exact Ω.p (MR x y) (b9.refl _) η η
 obtain⟨n,Ε⟩:=aO l.length;have hb:Go.Sort.bitsLen n<=6:=(Go.Sort.bitsLen_le_iff n 6).2 γ;have h:=bΩ n γ ag lK cδ Υ vA n l.toArray 0 n (Go.Sort.bitsLen n) (by simp[Ε]) γ γ (Nat.le_refl _) γ (.inl rfl);have ς:=cβ vA Dx l;rw[<-Ε] at ς;have e:(λx y:Int×Int=>!ar lK y x)=eI:=rfl;rw[ς,e] at h;rw[<-bu,<-Ε];clear ς e;have h1:(l.map aC).length=n:=by rw[List.length_map,Ε]
 have cW:l.toArray.toList=l:=rfl;rw[cW] at h;refine ak.body Ρ Tryz.func173 rfl rfl Tryz.ntmps173 rfl rfl η ?_;have Γ:=et (show n<2 ^ 62 by omega);have Θ:IntKind.u64.wrap (n:Int)=n:=yc γ;have mr:=Ε.symm;refine aT mr ?_;(repeat apply al);refine cM λΔ ζ=>?_;simp;(repeat (rw[ae];simp[Γ,Θ]));refine Ω.d (sh n γ) (aV ?_);refine ak.call (first:=[]) (captured:=[]) (h.mono (λr s ⟨ed,dM⟩=>?_) (λ_ _ h=>h.elim));subst ed;subst dM;simp;(repeat (rw[ae];simp[]));apply ζ;exact W.nil ⟨_,rfl,rfl,rfl⟩
end Go.TL
