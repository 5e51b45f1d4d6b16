import Derived.Test.YtlabjopijpkiaaaGreatQBR
set_option maxHeartbeats 16000000
set_option maxRecDepth 20000
set_option linter.unusedSectionVars false
set_option linter.unusedSimpArgs false
set_option linter.unusedVariables false
namespace Go.TL
open Go.Proofs
variable [bd]
theorem bπ (d:Array (Int×Int)) (n a b p:Nat) (Η:d.size=n) (ξ:n<2 ^ 40) (h5:a≤p) (bρ:p<b) (hb:b≤n) (ai:θ) (cmp:Int×Int→Int×Int→Int) (bR:az 0 ai) (Ρ:∀x y,fT Tryz.prog ai [ax x,ax y] (U (cmp x y))) :
  ak Tryz.prog 241 [.ms 0 n 0 n,U a,U b,U p,ai] [.cells 112 2 ((d).toList.map ax)] (fun r s=>r=.bt [U (Go.Sort.partition (ar cmp) d a b p).1,bm (Go.Sort.partition (ar cmp) d a b p).2.1]∧s=[.cells 112 2 (((Go.Sort.partition (ar cmp) d a b p).2.2).toList.map ax)]) (fun _ _=>False):=by
 refine ak.body Θ Tryz.func241 rfl rfl Tryz.ntmps241 rfl rfl (by simp) ?_;have iL:=lj (i:=a) (by omega);have h3:=nJ (i:=b) (by omega) (by omega)
 repeat (first|apply ι)
 refine ν fun J I=>?_;simp;(repeat (rw[ζ];simp));apply I;clear I J;have a2:a<n:=by omega
 have bh:p<n:=by omega
 obtain⟨L,x,y,aD,δ,Ο,ω,⟨R,γ⟩,⟨ο,Ι⟩,ez,jJ,ay⟩:=jm ax Η a2 bh;refine W.to (σ':=[.cells 112 2 L]) (env':=[(0,.ms 0 n 0 n),(1,U a),(2,U b),(3,U p),(4,ai)]) ?_ (by rw[aD]) (by simp);clear δ Ο
 repeat (first|apply ι)
 refine W.draw (A:=[]) Θ mixed fun J I=>?_;simp;(repeat (rw[bp];simp[ω,R,γ,ο,Ι,ay,a2,bh]));refine⟨bL (by kernel_rfl),I _ _ ?_⟩;clear I J;refine W.to (σ':=[.cells 112 2 ((Go.Sort.swp d a p).toList.map ax)]) (env':=[(0,.ms 0 n 0 n),(1,U a),(2,U b),(3,U p),(4,ai)]) ?_ (by rw[ez]) (by simp);clear a2 bh R γ ο Ι ay ez ω aD L x y jJ;obtain⟨e,he⟩:∃e,e=Go.Sort.swp d a p:=⟨_,rfl⟩;have eW:e.size=n:=by rw[he];exact swp_size Η a p
 rw[←he]
 repeat (first|apply ι)
 refine ν fun J I=>?_;simp;(repeat (rw[ζ];simp[iL,h3]));apply I;clear I J;refine W.to (σ':=[.cells 112 2 ((e).toList.map ax)]) (env':=[(0,.ms 0 n 0 n),(1,U a),(4,ai),(12,U (a+1:Nat)),(13,U (b-1:Nat))]) ?_ rfl (by simp);obtain⟨aW,fa⟩:∃aW,Go.Sort.scanUp (fun x=>ar cmp x e[a]!) e (b-1) (a+1)=aW:=⟨_,rfl⟩;obtain⟨aG,da⟩:∃aG,Go.Sort.scanDown (fun x=>!ar cmp x e[a]!) e aW (b-1)=aG:=⟨_,rfl⟩;obtain⟨s1,s2,nO,tI,nP⟩:=Ah (fun x=>ar cmp x e[a]!) (fun x=>!ar cmp x e[a]!) (fun x=>rfl) e (by omega) (by omega) fa da;have dR:Go.Sort.partition (ar cmp) d a b p=if aW > aG then(aG,true,Go.Sort.swp e aG a) else((Go.Sort.partLoop (ar cmp) a (aW+1) (aG-1) (Go.Sort.swp e aW aG)).1,false,Go.Sort.swp (Go.Sort.partLoop (ar cmp) a (aW+1) (aG-1) (Go.Sort.swp e aW aG)).2 (Go.Sort.partLoop (ar cmp) a (aW+1) (aG-1) (Go.Sort.swp e aW aG)).1 a):=by
  unfold Go.Sort.partition;simp only[←he,fa,da]
 repeat (first|apply ι)
 repeat (first|apply ι)
 refine W.qU [(0,.ms 0 n 0 n),(1,U a),(4,ai),(12,U (aW:Nat)),(13,U (b-1:Nat))] [.cells 112 2 ((e).toList.map ax)] ?_ ?_
 ·refine W.iter (fun i:Nat=>(a+1)≤i∧i≤(b-1)+1∧Go.Sort.scanUp (fun x=>ar cmp x e[a]!) e (b-1) i=aW) (fun i=>[(0,.ms 0 n 0 n),(1,U a),(4,ai),(12,U (i:Nat)),(13,U (b-1:Nat))]) (fun _=>[.cells 112 2 ((e).toList.map ax)]) (fun i=>(b-1)+1-i) ((a+1)) ⟨Nat.le_refl _,by omega,fa⟩ rfl (by simp) (fun i hi Γ=>?_);obtain⟨nk,nK,e8⟩:=hi;by_cases η:i≤(b-1)
  ·have a2:i<n:=by omega
   have bh:a<n:=by omega
   obtain⟨L,x,y,aD,δ,Ο,ω,⟨R,γ⟩,⟨ο,Ι⟩,-,-⟩:=jm ax eW a2 bh;have un:Go.Sort.scanUp (fun x=>ar cmp x e[a]!) e (b-1) i=if(ar cmp x y)=true then Go.Sort.scanUp (fun x=>ar cmp x e[a]!) e (b-1) (i+1) else i:=by rw[Go.Sort.scanUp];simp[η,δ,Ο]
   have hw:=lj (i:=i) (by omega);refine W.to (σ':=[.cells 112 2 L]) (env':=[(0,.ms 0 n 0 n),(1,U a),(4,ai),(12,U (i:Nat)),(13,U (b-1:Nat))]) ?_ (by rw[aD]) (by simp);clear δ Ο
   repeat (first|apply ι)
   refine W.draw (A:=[]) Θ mixed fun J I=>?_;simp;(repeat (rw[bp];simp[η,ω,R,γ,ο,Ι,a2,bh]));refine gn (Ρ x y) ?_;simp;(repeat (rw[bp];simp));refine⟨bL (by kernel_rfl),I _ _ ?_⟩;clear I J;by_cases hm:cmp x y<0
   ·refine al (by simp[hm]) ?_;(repeat (first|apply ι|(refine ν fun J I=>?_;simp;(repeat (rw[ζ];simp[hw]));apply I;clear I J)));exact W.to (Γ (i+1) ⟨by omega,by omega,by rw[←e8,un];simp[hm,ar]⟩ (by(try simp only);omega)) (by rw[aD]) (by simp[hw])
   ·refine ah (by simp[hm]) ?_;refine W.exit rfl ?_;exact W.stop ⟨rfl,by rw[aD],by rw[←e8,un];simp[hm,ar]⟩
  ·repeat (first|apply ι)
   refine W.draw (A:=[]) Θ mixed fun J I=>?_;simp;(repeat (rw[bp];simp[η]));refine⟨bL (by kernel_rfl),I _ _ ?_⟩;clear I J;refine ah rfl ?_;refine W.exit rfl ?_;have e:Go.Sort.scanUp (fun x=>ar cmp x e[a]!) e (b-1) i=i:=by rw[Go.Sort.scanUp];simp[η]
   exact W.stop ⟨rfl,rfl,by rw[←e8,e];simp⟩
 repeat (first|apply ι)
 refine W.qU [(0,.ms 0 n 0 n),(1,U a),(4,ai),(12,U (aW:Nat)),(13,U (aG:Nat))] [.cells 112 2 ((e).toList.map ax)] ?_ ?_
 ·refine W.iter (fun i:Nat=>i≤(b-1)∧aW≤i+1∧Go.Sort.scanDown (fun x=>!ar cmp x e[a]!) e aW i=aG) (fun i=>[(0,.ms 0 n 0 n),(1,U a),(4,ai),(12,U (aW:Nat)),(13,U (i:Nat))]) (fun _=>[.cells 112 2 ((e).toList.map ax)]) (fun i=>i+1-aW) ((b-1)) ⟨Nat.le_refl _,by omega,da⟩ rfl (by simp) (fun i hi Γ=>?_);obtain⟨nk,nK,e8⟩:=hi;by_cases η:aW≤i
  ·have a2:i<n:=by omega
   have bh:a<n:=by omega
   obtain⟨L,x,y,aD,δ,Ο,ω,⟨R,γ⟩,⟨ο,Ι⟩,-,-⟩:=jm ax eW a2 bh;obtain⟨q,Υ⟩:∃q,i=q+1:=⟨i-1,by omega⟩;have un:Go.Sort.scanDown (fun x=>!ar cmp x e[a]!) e aW i=if(!ar cmp x y)=true then Go.Sort.scanDown (fun x=>!ar cmp x e[a]!) e aW (i-1) else i:=by subst Υ;rw[Go.Sort.scanDown];simp[η,δ,Ο]
   have hw:=nJ (i:=i) (by omega) (by omega);refine W.to (σ':=[.cells 112 2 L]) (env':=[(0,.ms 0 n 0 n),(1,U a),(4,ai),(12,U (aW:Nat)),(13,U (i:Nat))]) ?_ (by rw[aD]) (by simp);clear δ Ο
   repeat (first|apply ι)
   refine W.draw (A:=[]) Θ mixed fun J I=>?_;simp;(repeat (rw[bp];simp[η,ω,R,γ,ο,Ι,a2,bh]));refine gn (Ρ x y) ?_;simp;(repeat (rw[bp];simp));refine⟨bL (by kernel_rfl),I _ _ ?_⟩;clear I J;by_cases hm:cmp x y<0
   ·refine ah (by simp[hm]) ?_;refine W.exit rfl ?_;exact W.stop ⟨rfl,by rw[aD],by rw[←e8,un];simp[hm,ar]⟩
   ·refine al (by simp[hm]) ?_;(repeat (first|apply ι|(refine ν fun J I=>?_;simp;(repeat (rw[ζ];simp[hw]));apply I;clear I J)));exact W.to (Γ (i-1) ⟨by omega,by omega,by rw[←e8,un];simp[hm,ar]⟩ (by(try simp only);omega)) (by rw[aD]) (by simp[hw])
  ·repeat (first|apply ι)
   refine W.draw (A:=[]) Θ mixed fun J I=>?_;simp;(repeat (rw[bp];simp[η]));refine⟨bL (by kernel_rfl),I _ _ ?_⟩;clear I J;refine ah rfl ?_;refine W.exit rfl ?_;have e:Go.Sort.scanDown (fun x=>!ar cmp x e[a]!) e aW i=i:=by exact IK _ _ (by omega)
   exact W.stop ⟨rfl,rfl,by rw[←e8,e];simp⟩
 repeat (first|apply ι)
 by_cases η:aW > aG
 ·have aZ:((aG:Nat):Int)<(aW:Nat):=by omega
  (repeat (first|apply ι|(refine ν fun J I=>?_;simp;(repeat (rw[ζ];simp[aZ]));apply I;clear I J)));refine al (by simp[η]) ?_;have a2:aG<n:=by omega
  have bh:a<n:=by omega
  obtain⟨L,x,y,aD,δ,Ο,ω,⟨R,γ⟩,⟨ο,Ι⟩,ez,jJ,ay⟩:=jm ax eW a2 bh;refine W.to (σ':=[.cells 112 2 L]) (env':=[(0,.ms 0 n 0 n),(1,U a),(4,ai),(12,U (aW:Nat)),(13,U (aG:Nat))]) ?_ (by rw[aD]) (by simp);clear δ Ο
  repeat (first|apply ι)
  refine W.draw (A:=[]) Θ mixed fun J I=>?_;simp;(repeat (rw[bp];simp[ω,R,γ,ο,Ι,ay,a2,bh]));refine⟨bL (by kernel_rfl),I _ _ ?_⟩;clear I J;refine W.to (σ':=[.cells 112 2 ((Go.Sort.swp e aG a).toList.map ax)]) (env':=[(0,.ms 0 n 0 n),(1,U a),(4,ai),(12,U (aW:Nat)),(13,U (aG:Nat))]) ?_ (by rw[ez]) (by simp);clear a2 bh R γ ο Ι ay ez ω aD L x y jJ;(repeat (first|apply ι|(refine ν fun J I=>?_;simp;(repeat (rw[ζ];simp));apply I;clear I J)));exact W.ret ⟨_,rfl,by rw[dR,if_pos η];rfl,by rw[dR,if_pos η]⟩
 have aZ:¬((aG:Nat):Int)<(aW:Nat):=by omega
 have AD:=nP (by omega)
 have iO:=lj (i:=aW) (by omega)
 have oE:=nJ (i:=aG) (by omega) (by omega);(repeat (first|apply ι|(refine ν fun J I=>?_;simp;(repeat (rw[ζ];simp[aZ]));apply I;clear I J)));refine ah (by simp[η]) ?_;have a2:aW<n:=by omega
 have bh:aG<n:=by omega
 obtain⟨L,x,y,aD,δ,Ο,ω,⟨R,γ⟩,⟨ο,Ι⟩,ez,jJ,ay⟩:=jm ax eW a2 bh;refine W.to (σ':=[.cells 112 2 L]) (env':=[(0,.ms 0 n 0 n),(1,U a),(4,ai),(12,U (aW:Nat)),(13,U (aG:Nat))]) ?_ (by rw[aD]) (by simp);clear δ Ο
 repeat (first|apply ι)
 refine W.draw (A:=[]) Θ mixed fun J I=>?_;simp;(repeat (rw[bp];simp[ω,R,γ,ο,Ι,ay,a2,bh]));refine⟨bL (by kernel_rfl),I _ _ ?_⟩;clear I J;refine W.to (σ':=[.cells 112 2 ((Go.Sort.swp e aW aG).toList.map ax)]) (env':=[(0,.ms 0 n 0 n),(1,U a),(4,ai),(12,U (aW:Nat)),(13,U (aG:Nat))]) ?_ (by rw[ez]) (by simp);clear a2 bh R γ ο Ι ay ez ω aD L x y jJ;have tZ:=swp_size eW aW aG;rw[if_neg η] at dR;obtain⟨g,Τ⟩:∃g,g=Go.Sort.swp e aW aG:=⟨_,rfl⟩;rw[←Τ] at dR tZ;rw[←Τ];(repeat (first|apply ι|(refine ν fun J I=>?_;simp;(repeat (rw[ζ];simp[iO,oE]));apply I;clear I J)));refine W.to (σ':=[.cells 112 2 ((g).toList.map ax)]) (env':=[(0,.ms 0 n 0 n),(1,U a),(4,ai),(12,U (aW+1:Nat)),(13,U (aG-1:Nat))]) ?_ rfl (by simp[iO,oE]);have gΘ:a<aW:=by omega
 have gΙ:aG<b:=by omega
 have gΚ:aW+1≤aG-1+1:=by omega
 clear fa da aZ η s1 s2 nO tI nP Τ iO oE;obtain⟨ab,lk⟩:∃ab,Go.Sort.partLoop (ar cmp) a (aW+1) (aG-1) g=ab:=⟨_,rfl⟩
 repeat (first|apply ι)
 refine W.qU [(0,.ms 0 n 0 n),(1,U a),(13,U ab.1)] [.cells 112 2 ((ab.2).toList.map ax)] ?_ ?_
 ·refine W.iter (fun q:Nat×Nat×Array (Int×Int)=>q.2.2.size=n∧a<q.1∧q.1≤q.2.1+1∧q.2.1<b∧Go.Sort.partLoop (ar cmp) a q.1 q.2.1 q.2.2=ab) (fun q=>[(0,.ms 0 n 0 n),(1,U a),(4,ai),(12,U (q.1:Nat)),(13,U (q.2.1:Nat))]) (fun q=>[.cells 112 2 ((q.2.2).toList.map ax)]) (fun q=>q.2.1+1-q.1) (aW+1,aG-1,g) ⟨tZ,by(try simp only);omega,by(try simp only);omega,by(try simp only);omega,lk⟩ rfl (by simp) (fun q hi Γ=>?_);obtain⟨i,j,f⟩:=q;obtain⟨b',nk,nK,e8,a8⟩:=hi;simp only at b' nk nK e8 a8;obtain⟨aW,fa⟩:∃aW,Go.Sort.scanUp (fun x=>ar cmp x f[a]!) f (j) (i)=aW:=⟨_,rfl⟩;obtain⟨aG,da⟩:∃aG,Go.Sort.scanDown (fun x=>!ar cmp x f[a]!) f aW (j)=aG:=⟨_,rfl⟩;obtain⟨s1,s2,nO,tI,nP⟩:=Ah (fun x=>ar cmp x f[a]!) (fun x=>!ar cmp x f[a]!) (fun x=>rfl) f (by omega) (by omega) fa da;have dR:Go.Sort.partLoop (ar cmp) a i j f=if aW > aG then(aG,f) else Go.Sort.partLoop (ar cmp) a (aW+1) (aG-1) (Go.Sort.swp f aW aG):=by
   rw[Go.Sort.partLoop_eq];simp only[fa,da]
  refine W.to (σ':=[.cells 112 2 ((f).toList.map ax)]) (env':=[(0,.ms 0 n 0 n),(1,U a),(4,ai),(12,U (i:Nat)),(13,U (j:Nat))]) ?_ rfl (by simp);refine W.block ?_
  repeat (first|apply ι)
  refine W.qU [(0,.ms 0 n 0 n),(1,U a),(4,ai),(12,U (aW:Nat)),(13,U (j:Nat))] [.cells 112 2 ((f).toList.map ax)] ?_ ?_
  ·refine W.iter (fun i:Nat=>(i)≤i∧i≤(j)+1∧Go.Sort.scanUp (fun x=>ar cmp x f[a]!) f (j) i=aW) (fun i=>[(0,.ms 0 n 0 n),(1,U a),(4,ai),(12,U (i:Nat)),(13,U (j:Nat))]) (fun _=>[.cells 112 2 ((f).toList.map ax)]) (fun i=>(j)+1-i) ((i)) ⟨Nat.le_refl _,by omega,fa⟩ rfl (by simp) (fun i hi Γ=>?_);obtain⟨nk,nK,e8⟩:=hi;by_cases η:i≤(j)
   ·have a2:i<n:=by omega
    have bh:a<n:=by omega
    obtain⟨L,x,y,aD,δ,Ο,ω,⟨R,γ⟩,⟨ο,Ι⟩,-,-⟩:=jm ax b' a2 bh;have un:Go.Sort.scanUp (fun x=>ar cmp x f[a]!) f (j) i=if(ar cmp x y)=true then Go.Sort.scanUp (fun x=>ar cmp x f[a]!) f (j) (i+1) else i:=by rw[Go.Sort.scanUp];simp[η,δ,Ο]
    have hw:=lj (i:=i) (by omega);refine W.to (σ':=[.cells 112 2 L]) (env':=[(0,.ms 0 n 0 n),(1,U a),(4,ai),(12,U (i:Nat)),(13,U (j:Nat))]) ?_ (by rw[aD]) (by simp);clear δ Ο
    repeat (first|apply ι)
    refine W.draw (A:=[]) Θ mixed fun J I=>?_;simp;(repeat (rw[bp];simp[η,ω,R,γ,ο,Ι,a2,bh]));refine gn (Ρ x y) ?_;simp;(repeat (rw[bp];simp));refine⟨bL (by kernel_rfl),I _ _ ?_⟩;clear I J;by_cases hm:cmp x y<0
    ·refine al (by simp[hm]) ?_;(repeat (first|apply ι|(refine ν fun J I=>?_;simp;(repeat (rw[ζ];simp[hw]));apply I;clear I J)));exact W.to (Γ (i+1) ⟨by omega,by omega,by rw[←e8,un];simp[hm,ar]⟩ (by(try simp only);omega)) (by rw[aD]) (by simp[hw])
    ·refine ah (by simp[hm]) ?_;refine W.exit rfl ?_;exact W.stop ⟨rfl,by rw[aD],by rw[←e8,un];simp[hm,ar]⟩
   ·repeat (first|apply ι)
    refine W.draw (A:=[]) Θ mixed fun J I=>?_;simp;(repeat (rw[bp];simp[η]));refine⟨bL (by kernel_rfl),I _ _ ?_⟩;clear I J;refine ah rfl ?_;refine W.exit rfl ?_;have e:Go.Sort.scanUp (fun x=>ar cmp x f[a]!) f (j) i=i:=by rw[Go.Sort.scanUp];simp[η]
    exact W.stop ⟨rfl,rfl,by rw[←e8,e];simp⟩
  repeat (first|apply ι)
  refine W.qU [(0,.ms 0 n 0 n),(1,U a),(4,ai),(12,U (aW:Nat)),(13,U (aG:Nat))] [.cells 112 2 ((f).toList.map ax)] ?_ ?_
  ·refine W.iter (fun i:Nat=>i≤(j)∧aW≤i+1∧Go.Sort.scanDown (fun x=>!ar cmp x f[a]!) f aW i=aG) (fun i=>[(0,.ms 0 n 0 n),(1,U a),(4,ai),(12,U (aW:Nat)),(13,U (i:Nat))]) (fun _=>[.cells 112 2 ((f).toList.map ax)]) (fun i=>i+1-aW) ((j)) ⟨Nat.le_refl _,by omega,da⟩ rfl (by simp) (fun i hi Γ=>?_);obtain⟨nk,nK,e8⟩:=hi;by_cases η:aW≤i
   ·have a2:i<n:=by omega
    have bh:a<n:=by omega
    obtain⟨L,x,y,aD,δ,Ο,ω,⟨R,γ⟩,⟨ο,Ι⟩,-,-⟩:=jm ax b' a2 bh;obtain⟨q,Υ⟩:∃q,i=q+1:=⟨i-1,by omega⟩;have un:Go.Sort.scanDown (fun x=>!ar cmp x f[a]!) f aW i=if(!ar cmp x y)=true then Go.Sort.scanDown (fun x=>!ar cmp x f[a]!) f aW (i-1) else i:=by subst Υ;rw[Go.Sort.scanDown];simp[η,δ,Ο]
    have hw:=nJ (i:=i) (by omega) (by omega);refine W.to (σ':=[.cells 112 2 L]) (env':=[(0,.ms 0 n 0 n),(1,U a),(4,ai),(12,U (aW:Nat)),(13,U (i:Nat))]) ?_ (by rw[aD]) (by simp);clear δ Ο
    repeat (first|apply ι)
    refine W.draw (A:=[]) Θ mixed fun J I=>?_;simp;(repeat (rw[bp];simp[η,ω,R,γ,ο,Ι,a2,bh]));refine gn (Ρ x y) ?_;simp;(repeat (rw[bp];simp));refine⟨bL (by kernel_rfl),I _ _ ?_⟩;clear I J;by_cases hm:cmp x y<0
    ·refine ah (by simp[hm]) ?_;refine W.exit rfl ?_;exact W.stop ⟨rfl,by rw[aD],by rw[←e8,un];simp[hm,ar]⟩
    ·refine al (by simp[hm]) ?_;(repeat (first|apply ι|(refine ν fun J I=>?_;simp;(repeat (rw[ζ];simp[hw]));apply I;clear I J)));exact W.to (Γ (i-1) ⟨by omega,by omega,by rw[←e8,un];simp[hm,ar]⟩ (by(try simp only);omega)) (by rw[aD]) (by simp[hw])
   ·repeat (first|apply ι)
    refine W.draw (A:=[]) Θ mixed fun J I=>?_;simp;(repeat (rw[bp];simp[η]));refine⟨bL (by kernel_rfl),I _ _ ?_⟩;clear I J;refine ah rfl ?_;refine W.exit rfl ?_;have e:Go.Sort.scanDown (fun x=>!ar cmp x f[a]!) f aW i=i:=by exact IK _ _ (by omega)
    exact W.stop ⟨rfl,rfl,by rw[←e8,e];simp⟩
  repeat (first|apply ι)
  by_cases η:aW > aG
  ·have aZ:((aG:Nat):Int)<(aW:Nat):=by omega
   (repeat (first|apply ι|(refine ν fun J I=>?_;simp;(repeat (rw[ζ];simp[aZ]));apply I;clear I J)));refine al (by simp[η]) ?_;refine W.exit rfl ?_;rw[dR,if_pos η] at a8;exact W.stop ⟨rfl,by rw[←a8],by rw[←a8];simp⟩
  ·have aZ:¬((aG:Nat):Int)<(aW:Nat):=by omega
   have AD:=nP (by omega)
   have iO:=lj (i:=aW) (by omega)
   have oE:=nJ (i:=aG) (by omega) (by omega);(repeat (first|apply ι|(refine ν fun J I=>?_;simp;(repeat (rw[ζ];simp[aZ]));apply I;clear I J)));refine ah (by simp[η]) ?_;have a2:aW<n:=by omega
   have bh:aG<n:=by omega
   obtain⟨L,x,y,aD,δ,Ο,ω,⟨R,γ⟩,⟨ο,Ι⟩,ez,jJ,ay⟩:=jm ax b' a2 bh;refine W.to (σ':=[.cells 112 2 L]) (env':=[(0,.ms 0 n 0 n),(1,U a),(4,ai),(12,U (aW:Nat)),(13,U (aG:Nat))]) ?_ (by rw[aD]) (by simp);clear δ Ο
   repeat (first|apply ι)
   refine W.draw (A:=[]) Θ mixed fun J I=>?_;simp;(repeat (rw[bp];simp[ω,R,γ,ο,Ι,ay,a2,bh]));refine⟨bL (by kernel_rfl),I _ _ ?_⟩;clear I J;refine W.to (σ':=[.cells 112 2 ((Go.Sort.swp f aW aG).toList.map ax)]) (env':=[(0,.ms 0 n 0 n),(1,U a),(4,ai),(12,U (aW:Nat)),(13,U (aG:Nat))]) ?_ (by rw[ez]) (by simp);clear a2 bh R γ ο Ι ay ez ω aD L x y jJ;(repeat (first|apply ι|(refine ν fun J I=>?_;simp;(repeat (rw[ζ];simp[iO,oE]));apply I;clear I J)));exact W.to (Γ (aW+1,aG-1,Go.Sort.swp f aW aG) ⟨swp_size b' aW aG,by(try simp only);omega,by(try simp only);omega,by(try simp only);omega,by simp;rw[←a8,dR,if_neg η]⟩ (by(try simp only);omega)) rfl (by simp[iO,oE])
 rw[lk] at dR;have Υ:=aΥ (ar cmp) (a:=a) (b:=b) _ (aW+1) (aG-1) g (Nat.le_refl _) tZ (by omega) (by omega) (by omega);rw[lk] at Υ;obtain⟨HX,bς⟩:=Υ;obtain⟨j,h⟩:=ab;simp only at HX bς dR;have a2:j<n:=by omega
 have bh:a<n:=by omega
 obtain⟨L,x,y,aD,δ,Ο,ω,⟨R,γ⟩,⟨ο,Ι⟩,ez,jJ,ay⟩:=jm ax HX a2 bh;refine W.to (σ':=[.cells 112 2 L]) (env':=[(0,.ms 0 n 0 n),(1,U a),(13,U (j:Nat))]) ?_ (by rw[aD]) (by simp);clear δ Ο
 repeat (first|apply ι)
 refine W.draw (A:=[]) Θ mixed fun J I=>?_;simp;(repeat (rw[bp];simp[ω,R,γ,ο,Ι,ay,a2,bh]));refine⟨bL (by kernel_rfl),I _ _ ?_⟩;clear I J;refine W.to (σ':=[.cells 112 2 ((Go.Sort.swp h j a).toList.map ax)]) (env':=[(0,.ms 0 n 0 n),(1,U a),(13,U (j:Nat))]) ?_ (by rw[ez]) (by simp);clear a2 bh R γ ο Ι ay ez ω aD L x y jJ;(repeat (first|apply ι|(refine ν fun J I=>?_;simp;(repeat (rw[ζ];simp));apply I;clear I J)));exact W.ret ⟨_,rfl,by rw[dR];rfl,by rw[dR]⟩
theorem bτ (d:Array (Int×Int)) (n a b p:Nat) (Η:d.size=n) (ξ:n<2 ^ 40) (h5:a≤p) (bρ:p<b) (hb:b≤n) (ai:θ) (cmp:Int×Int→Int×Int→Int) (bR:az 0 ai) (Ρ:∀x y,fT Tryz.prog ai [ax x,ax y] (U (cmp x y))) :
  ak Tryz.prog 240 [.ms 0 n 0 n,U a,U b,U p,ai] [.cells 112 2 ((d).toList.map ax)] (fun r s=>r=U (Go.Sort.partitionEqual (ar cmp) d a b p).1∧s=[.cells 112 2 (((Go.Sort.partitionEqual (ar cmp) d a b p).2).toList.map ax)]) (fun _ _=>False):=by
 refine ak.body Θ Tryz.func240 rfl rfl Tryz.ntmps240 rfl rfl (by simp) ?_;have iL:=lj (i:=a) (by omega);have h3:=nJ (i:=b) (by omega) (by omega)
 repeat (first|apply ι)
 refine ν fun J I=>?_;simp;(repeat (rw[ζ];simp));apply I;clear I J;have a2:a<n:=by omega
 have bh:p<n:=by omega
 obtain⟨L,x,y,aD,δ,Ο,ω,⟨R,γ⟩,⟨ο,Ι⟩,ez,jJ,ay⟩:=jm ax Η a2 bh;refine W.to (σ':=[.cells 112 2 L]) (env':=[(0,.ms 0 n 0 n),(1,U a),(2,U b),(3,U p),(4,ai)]) ?_ (by rw[aD]) (by simp);clear δ Ο
 repeat (first|apply ι)
 refine W.draw (A:=[]) Θ mixed fun J I=>?_;simp;(repeat (rw[bp];simp[ω,R,γ,ο,Ι,ay,a2,bh]));refine⟨bL (by kernel_rfl),I _ _ ?_⟩;clear I J;refine W.to (σ':=[.cells 112 2 ((Go.Sort.swp d a p).toList.map ax)]) (env':=[(0,.ms 0 n 0 n),(1,U a),(2,U b),(3,U p),(4,ai)]) ?_ (by rw[ez]) (by simp);clear a2 bh R γ ο Ι ay ez ω aD L x y jJ;obtain⟨e,he⟩:∃e,e=Go.Sort.swp d a p:=⟨_,rfl⟩;have eW:e.size=n:=by rw[he];exact swp_size Η a p
 rw[←he]
 repeat (first|apply ι)
 refine ν fun J I=>?_;simp;(repeat (rw[ζ];simp[iL,h3]));apply I;clear I J;refine W.to (σ':=[.cells 112 2 ((e).toList.map ax)]) (env':=[(0,.ms 0 n 0 n),(1,U a),(4,ai),(11,U (a+1:Nat)),(12,U (b-1:Nat))]) ?_ rfl (by simp);obtain⟨ab,lk⟩:∃ab,Go.Sort.partEqLoop (ar cmp) a (a+1) (b-1) e=ab:=⟨_,rfl⟩
 repeat (first|apply ι)
 refine W.qU [(11,U ab.1)] [.cells 112 2 ((ab.2).toList.map ax)] ?_ ?_
 ·refine W.iter (fun q:Nat×Nat×Array (Int×Int)=>q.2.2.size=n∧a<q.1∧q.1≤q.2.1+1∧q.2.1<b∧Go.Sort.partEqLoop (ar cmp) a q.1 q.2.1 q.2.2=ab) (fun q=>[(0,.ms 0 n 0 n),(1,U a),(4,ai),(11,U (q.1:Nat)),(12,U (q.2.1:Nat))]) (fun q=>[.cells 112 2 ((q.2.2).toList.map ax)]) (fun q=>q.2.1+1-q.1) (a+1,b-1,e) ⟨eW,by(try simp only);omega,by(try simp only);omega,by(try simp only);omega,lk⟩ rfl (by simp) (fun q hi Γ=>?_);obtain⟨i,j,f⟩:=q;obtain⟨b',nk,nK,e8,a8⟩:=hi;simp only at b' nk nK e8 a8;obtain⟨aW,fa⟩:∃aW,Go.Sort.scanUp (fun x=>!ar cmp f[a]! x) f (j) (i)=aW:=⟨_,rfl⟩;obtain⟨aG,da⟩:∃aG,Go.Sort.scanDown (fun x=>ar cmp f[a]! x) f aW (j)=aG:=⟨_,rfl⟩;obtain⟨s1,s2,nO,tI,nP⟩:=Ah (fun x=>!ar cmp f[a]! x) (fun x=>ar cmp f[a]! x) (fun x=>by simp) f (by omega) (by omega) fa da;have dR:Go.Sort.partEqLoop (ar cmp) a i j f=if aW > aG then(aW,f) else Go.Sort.partEqLoop (ar cmp) a (aW+1) (aG-1) (Go.Sort.swp f aW aG):=by
   rw[Go.Sort.partEqLoop_eq];simp only[fa,da]
  refine W.to (σ':=[.cells 112 2 ((f).toList.map ax)]) (env':=[(0,.ms 0 n 0 n),(1,U a),(4,ai),(11,U (i:Nat)),(12,U (j:Nat))]) ?_ rfl (by simp);refine W.block ?_
  repeat (first|apply ι)
  refine W.qU [(0,.ms 0 n 0 n),(1,U a),(4,ai),(11,U (aW:Nat)),(12,U (j:Nat))] [.cells 112 2 ((f).toList.map ax)] ?_ ?_
  ·refine W.iter (fun i:Nat=>(i)≤i∧i≤(j)+1∧Go.Sort.scanUp (fun x=>!ar cmp f[a]! x) f (j) i=aW) (fun i=>[(0,.ms 0 n 0 n),(1,U a),(4,ai),(11,U (i:Nat)),(12,U (j:Nat))]) (fun _=>[.cells 112 2 ((f).toList.map ax)]) (fun i=>(j)+1-i) ((i)) ⟨Nat.le_refl _,by omega,fa⟩ rfl (by simp) (fun i hi Γ=>?_);obtain⟨nk,nK,e8⟩:=hi;by_cases η:i≤(j)
   ·have a2:i<n:=by omega
    have bh:a<n:=by omega
    obtain⟨L,x,y,aD,δ,Ο,ω,⟨R,γ⟩,⟨ο,Ι⟩,-,-⟩:=jm ax b' a2 bh;have un:Go.Sort.scanUp (fun x=>!ar cmp f[a]! x) f (j) i=if(!ar cmp y x)=true then Go.Sort.scanUp (fun x=>!ar cmp f[a]! x) f (j) (i+1) else i:=by rw[Go.Sort.scanUp];simp[η,δ,Ο]
    have hw:=lj (i:=i) (by omega);refine W.to (σ':=[.cells 112 2 L]) (env':=[(0,.ms 0 n 0 n),(1,U a),(4,ai),(11,U (i:Nat)),(12,U (j:Nat))]) ?_ (by rw[aD]) (by simp);clear δ Ο
    repeat (first|apply ι)
    refine W.draw (A:=[]) Θ mixed fun J I=>?_;simp;(repeat (rw[bp];simp[η,ω,R,γ,ο,Ι,a2,bh]));refine gn (Ρ y x) ?_;simp;(repeat (rw[bp];simp));refine⟨bL (by kernel_rfl),I _ _ ?_⟩;clear I J;by_cases hm:cmp y x<0
    ·refine ah (by simp[hm]) ?_;refine W.exit rfl ?_;exact W.stop ⟨rfl,by rw[aD],by rw[←e8,un];simp[hm,ar]⟩
    ·refine al (by simp[hm]) ?_;(repeat (first|apply ι|(refine ν fun J I=>?_;simp;(repeat (rw[ζ];simp[hw]));apply I;clear I J)));exact W.to (Γ (i+1) ⟨by omega,by omega,by rw[←e8,un];simp[hm,ar]⟩ (by(try simp only);omega)) (by rw[aD]) (by simp[hw])
   ·repeat (first|apply ι)
    refine W.draw (A:=[]) Θ mixed fun J I=>?_;simp;(repeat (rw[bp];simp[η]));refine⟨bL (by kernel_rfl),I _ _ ?_⟩;clear I J;refine ah rfl ?_;refine W.exit rfl ?_;have e:Go.Sort.scanUp (fun x=>!ar cmp f[a]! x) f (j) i=i:=by rw[Go.Sort.scanUp];simp[η]
    exact W.stop ⟨rfl,rfl,by rw[←e8,e];simp⟩
  repeat (first|apply ι)
  refine W.qU [(0,.ms 0 n 0 n),(1,U a),(4,ai),(11,U (aW:Nat)),(12,U (aG:Nat))] [.cells 112 2 ((f).toList.map ax)] ?_ ?_
  ·refine W.iter (fun i:Nat=>i≤(j)∧aW≤i+1∧Go.Sort.scanDown (fun x=>ar cmp f[a]! x) f aW i=aG) (fun i=>[(0,.ms 0 n 0 n),(1,U a),(4,ai),(11,U (aW:Nat)),(12,U (i:Nat))]) (fun _=>[.cells 112 2 ((f).toList.map ax)]) (fun i=>i+1-aW) ((j)) ⟨Nat.le_refl _,by omega,da⟩ rfl (by simp) (fun i hi Γ=>?_);obtain⟨nk,nK,e8⟩:=hi;by_cases η:aW≤i
   ·have a2:i<n:=by omega
    have bh:a<n:=by omega
    obtain⟨L,x,y,aD,δ,Ο,ω,⟨R,γ⟩,⟨ο,Ι⟩,-,-⟩:=jm ax b' a2 bh;obtain⟨q,Υ⟩:∃q,i=q+1:=⟨i-1,by omega⟩;have un:Go.Sort.scanDown (fun x=>ar cmp f[a]! x) f aW i=if(ar cmp y x)=true then Go.Sort.scanDown (fun x=>ar cmp f[a]! x) f aW (i-1) else i:=by subst Υ;rw[Go.Sort.scanDown];simp[η,δ,Ο]
    have hw:=nJ (i:=i) (by omega) (by omega);refine W.to (σ':=[.cells 112 2 L]) (env':=[(0,.ms 0 n 0 n),(1,U a),(4,ai),(11,U (aW:Nat)),(12,U (i:Nat))]) ?_ (by rw[aD]) (by simp);clear δ Ο
    repeat (first|apply ι)
    refine W.draw (A:=[]) Θ mixed fun J I=>?_;simp;(repeat (rw[bp];simp[η,ω,R,γ,ο,Ι,a2,bh]));refine gn (Ρ y x) ?_;simp;(repeat (rw[bp];simp));refine⟨bL (by kernel_rfl),I _ _ ?_⟩;clear I J;by_cases hm:cmp y x<0
    ·refine al (by simp[hm]) ?_;(repeat (first|apply ι|(refine ν fun J I=>?_;simp;(repeat (rw[ζ];simp[hw]));apply I;clear I J)));exact W.to (Γ (i-1) ⟨by omega,by omega,by rw[←e8,un];simp[hm,ar]⟩ (by(try simp only);omega)) (by rw[aD]) (by simp[hw])
    ·refine ah (by simp[hm]) ?_;refine W.exit rfl ?_;exact W.stop ⟨rfl,by rw[aD],by rw[←e8,un];simp[hm,ar]⟩
   ·repeat (first|apply ι)
    refine W.draw (A:=[]) Θ mixed fun J I=>?_;simp;(repeat (rw[bp];simp[η]));refine⟨bL (by kernel_rfl),I _ _ ?_⟩;clear I J;refine ah rfl ?_;refine W.exit rfl ?_;have e:Go.Sort.scanDown (fun x=>ar cmp f[a]! x) f aW i=i:=by exact IK _ _ (by omega)
    exact W.stop ⟨rfl,rfl,by rw[←e8,e];simp⟩
  repeat (first|apply ι)
  by_cases η:aW > aG
  ·have aZ:((aG:Nat):Int)<(aW:Nat):=by omega
   (repeat (first|apply ι|(refine ν fun J I=>?_;simp;(repeat (rw[ζ];simp[aZ]));apply I;clear I J)));refine al (by simp[η]) ?_;refine W.exit rfl ?_;rw[dR,if_pos η] at a8;exact W.stop ⟨rfl,by rw[←a8],by rw[←a8];simp⟩
  ·have aZ:¬((aG:Nat):Int)<(aW:Nat):=by omega
   have AD:=nP (by omega)
   have iO:=lj (i:=aW) (by omega)
   have oE:=nJ (i:=aG) (by omega) (by omega);(repeat (first|apply ι|(refine ν fun J I=>?_;simp;(repeat (rw[ζ];simp[aZ]));apply I;clear I J)));refine ah (by simp[η]) ?_;have a2:aW<n:=by omega
   have bh:aG<n:=by omega
   obtain⟨L,x,y,aD,δ,Ο,ω,⟨R,γ⟩,⟨ο,Ι⟩,ez,jJ,ay⟩:=jm ax b' a2 bh;refine W.to (σ':=[.cells 112 2 L]) (env':=[(0,.ms 0 n 0 n),(1,U a),(4,ai),(11,U (aW:Nat)),(12,U (aG:Nat))]) ?_ (by rw[aD]) (by simp);clear δ Ο
   repeat (first|apply ι)
   refine W.draw (A:=[]) Θ mixed fun J I=>?_;simp;(repeat (rw[bp];simp[ω,R,γ,ο,Ι,ay,a2,bh]));refine⟨bL (by kernel_rfl),I _ _ ?_⟩;clear I J;refine W.to (σ':=[.cells 112 2 ((Go.Sort.swp f aW aG).toList.map ax)]) (env':=[(0,.ms 0 n 0 n),(1,U a),(4,ai),(11,U (aW:Nat)),(12,U (aG:Nat))]) ?_ (by rw[ez]) (by simp);clear a2 bh R γ ο Ι ay ez ω aD L x y jJ;(repeat (first|apply ι|(refine ν fun J I=>?_;simp;(repeat (rw[ζ];simp[iO,oE]));apply I;clear I J)));exact W.to (Γ (aW+1,aG-1,Go.Sort.swp f aW aG) ⟨swp_size b' aW aG,by(try simp only);omega,by(try simp only);omega,by(try simp only);omega,by simp;rw[←a8,dR,if_neg η]⟩ (by(try simp only);omega)) rfl (by simp[iO,oE])
 (repeat (first|apply ι|(refine ν fun J I=>?_;simp;(repeat (rw[ζ];simp));apply I;clear I J)));have dR:Go.Sort.partitionEqual (ar cmp) d a b p=ab:=by unfold Go.Sort.partitionEqual;rw[←he,lk]
 exact W.ret ⟨_,rfl,by rw[dR];rfl,by rw[dR]⟩
theorem Pk (d:Array (Int×Int)) (n lo hi first:Nat) (Η:d.size=n) (ξ:n<2 ^ 40) (gΜ:first+hi≤n) (kg:lo≤n) (ai:θ) (cmp:Int×Int→Int×Int→Int) (bR:az 0 ai) (Ρ:∀x y,fT Tryz.prog ai [ax x,ax y] (U (cmp x y))) :
  ak Tryz.prog 254 [.ms 0 n 0 n,U lo,U hi,U first,ai] [.cells 112 2 ((d).toList.map ax)] (fun r s=>r=.bt []∧s=[.cells 112 2 ((Go.Sort.siftDown (ar cmp) hi first lo d).toList.map ax)]) (fun _ _=>False):=by
 refine ak.body Θ Tryz.func254 rfl rfl Tryz.ntmps254 rfl rfl (by simp) ?_;(repeat (first|apply ι|(refine ν fun J I=>?_;simp;(repeat (rw[ζ];simp));apply I;clear I J)));obtain⟨ab,lk⟩:∃ab,Go.Sort.siftDown (ar cmp) hi first lo d=ab:=⟨_,rfl⟩
 rw[lk];refine W.iter (fun q:Nat×Array (Int×Int)=>q.2.size=n∧q.1≤n∧Go.Sort.siftDown (ar cmp) hi first q.1 q.2=ab) (fun q=>[(0,.ms 0 n 0 n),(2,U hi),(3,U first),(4,ai),(10,U (q.1:Nat))]) (fun q=>[.cells 112 2 ((q.2).toList.map ax)]) (fun q=>hi-q.1) (lo,d) ⟨Η,kg,lk⟩ rfl (by simp) (fun q Υ Γ=>?_);obtain⟨r,e⟩:=q;obtain⟨eW,κ,a8⟩:=Υ;simp only at eW κ a8;obtain⟨c,η⟩:∃c,c=2*r+1:=⟨_,rfl⟩;obtain⟨c1,nb⟩:∃c1,c1=c+1:=⟨_,rfl⟩;obtain⟨ao,mq⟩:∃x,x=first+r:=⟨_,rfl⟩
 obtain⟨IT,Ai⟩:∃x,x=first+c:=⟨_,rfl⟩
 obtain⟨fd,xi⟩:∃x,x=first+(c+1):=⟨_,rfl⟩
 have w1:IntKind.i64.wrap (2*(r:Int))=2*(r:Int):=by rw[IntWalk.i64_in _ (by omega)]
 have w2:IntKind.i64.wrap (2*(r:Int)+1)=(c:Int):=by rw[IntWalk.i64_in _ (by omega)];omega
 have w3:IntKind.i64.wrap ((c:Int)+1)=(c1:Int):=by rw[IntWalk.i64_in _ (by omega)];omega
 have w4:IntKind.i64.wrap ((first:Int)+(c:Int))=(IT:Int):=by rw[IntWalk.i64_in _ (by omega)];omega
 have xG:IntKind.i64.wrap ((IT:Int)+1)=(fd:Int):=by rw[IntWalk.i64_in _ (by omega)];omega
 have pM:IntKind.i64.wrap ((first:Int)+(r:Int))=(ao:Int):=by rw[IntWalk.i64_in _ (by omega)];omega
 refine W.to (σ':=[.cells 112 2 ((e).toList.map ax)]) (env':=[(0,.ms 0 n 0 n),(2,U hi),(3,U first),(4,ai),(10,U (r:Nat))]) ?_ rfl (by simp);(repeat (first|apply ι|(refine ν fun J I=>?_;simp;(repeat (rw[ζ];simp[w1,w2]));apply I;clear I J)));by_cases Pl:hi≤c
 ·refine al (by simp[Pl]) ?_;refine W.exit rfl ?_;exact W.nil ⟨_,rfl,rfl,by rw[←a8,Go.Sort.siftDown,dif_pos (by omega)]⟩
 refine ah (by simp[Pl]) ?_;obtain⟨B,e1⟩:∃B:Bool,B=(decide (c+1<hi)&&ar cmp e[first+c]! e[first+(c+1)]!):=⟨_,rfl⟩;obtain⟨k,υ⟩:∃k,k=if B=true then c+1 else c:=⟨_,rfl⟩
 have gΝ:k<hi:=by
  rw[υ];split
  ·rename_i h;rw[h] at e1;have:=e1.symm;simp at this;omega
  ·omega
 have un:=aΦ (ar cmp) hi first r e (k:=k) η (by omega) (by rw[←e1];exact υ)
 rw[un] at a8
 repeat (first|apply ι)
 refine W.CA (A:=[]) Θ mixed [(40,bm B),(0,.ms 0 n 0 n),(2,U hi),(3,U first),(4,ai),(10,U r),(11,U c)] ?_ (by
  by_cases n0:c1<hi
  ·have a2:IT<n:=by omega
   have bh:fd<n:=by omega
   obtain⟨L,x,y,aD,δ,Ο,ω,⟨R,γ⟩,⟨ο,Ι⟩,-,-⟩:=jm ax eW a2 bh;have IU:B=ar cmp x y:=by rw[e1,←δ,←Ο,Ai,xi];simp[←nb,n0]
   have bυ:(c1:Int)<hi:=by omega
   rw[aD];clear δ Ο;simp;(repeat (rw[bp];simp[w3,w4,xG,n0,bυ,ω,R,γ,ο,Ι,a2,bh]));refine gn (Ρ x y) ?_;simp;(repeat (rw[bp];simp));refine⟨bL (by kernel_rfl),?_⟩;simp[IU,ar]
  ·have IU:B=false:=by rw[e1];simp[←nb,n0]
   simp;(repeat (rw[bp];simp[w3,n0]));refine⟨bL (by kernel_rfl),?_⟩;simp[IU])
 have gΞ:r<k:=by rw[υ];split<;>omega
 repeat (first|apply ι)
 refine W.upto [(0,.ms 0 n 0 n),(2,U hi),(3,U first),(4,ai),(10,U (r:Nat)),(11,U (k:Nat))] [.cells 112 2 ((e).toList.map ax)] ?_ ?_
 ·cases B with
  | true=>
   refine al rfl ?_;refine ν fun J I=>?_;simp;(repeat (rw[ζ];simp[w3]));apply I;clear I J;exact W.stop ⟨rfl,rfl,by simp[υ,nb]⟩
  | false=>
   refine ah rfl ?_;refine W.skip ?_;exact W.stop ⟨rfl,rfl,by simp[υ]⟩
 obtain⟨fk,bφ⟩:∃x,x=first+k:=⟨_,rfl⟩
 rw[←mq,←bφ] at a8;have pN:IntKind.i64.wrap ((first:Int)+(k:Int))=(fk:Int):=by rw[IntWalk.i64_in _ (by omega)];omega
 have a2:ao<n:=by omega
 have bh:fk<n:=by omega
 obtain⟨L,x,y,aD,δ,Ο,ω,⟨R,γ⟩,⟨ο,Ι⟩,ez,jJ,ay⟩:=jm ax eW a2 bh;rw[δ,Ο] at a8;refine W.to (σ':=[.cells 112 2 L]) (env':=[(0,.ms 0 n 0 n),(2,U hi),(3,U first),(4,ai),(10,U (r:Nat)),(11,U (k:Nat))]) ?_ (by rw[aD]) (by simp);clear δ Ο
 repeat (first|apply ι)
 refine W.draw (A:=[]) Θ mixed fun J I=>?_;simp;(repeat (rw[bp];simp[pM,pN,ω,R,γ,ο,Ι,a2,bh]));refine gn (Ρ x y) ?_;simp;(repeat (rw[bp];simp));refine⟨bL (by kernel_rfl),I _ _ ?_⟩;clear I J;by_cases hm:cmp x y<0
 ·refine ah (by simp[hm]) ?_
  repeat (first|apply ι)
  refine W.draw (A:=[]) Θ mixed fun J I=>?_;simp;(repeat (rw[bp];simp[pM,pN,ω,R,γ,ο,Ι,ay,a2,bh]));refine⟨bL (by kernel_rfl),I _ _ ?_⟩;clear I J;(repeat (first|apply ι|(refine ν fun J I=>?_;simp;(repeat (rw[ζ];simp));apply I;clear I J)));refine W.to (Γ (k,Go.Sort.swp e ao fk) ⟨swp_size eW ao fk,by(try simp only);omega,?_⟩ (by(try simp only);omega)) (by rw[ez]) (by simp);rw[←a8];simp[hm,ar]
 ·refine al (by simp[hm]) ?_;(repeat (first|apply ι|(refine ν fun J I=>?_;simp;(repeat (rw[ζ];simp));apply I;clear I J)));exact W.ret ⟨_,rfl,rfl,by rw[←aD,←a8];simp[hm,ar]⟩
theorem bχ (d:Array (Int×Int)) (n a b:Nat) (Η:d.size=n) (ξ:n<2 ^ 40) (gw:a<b) (hb:b≤n) (ai:θ) (cmp:Int×Int→Int×Int→Int) (bR:az 0 ai) (Ρ:∀x y,fT Tryz.prog ai [ax x,ax y] (U (cmp x y))) :
  ak Tryz.prog 235 [.ms 0 n 0 n,U a,U b,ai] [.cells 112 2 ((d).toList.map ax)] (fun r s=>r=.bt []∧s=[.cells 112 2 ((Go.Sort.heapSort (ar cmp) d a b).toList.map ax)]) (fun _ _=>False):=by
 refine ak.body Θ Tryz.func235 rfl rfl Tryz.ntmps235 rfl rfl (by simp) ?_;obtain⟨m,hm⟩:∃m,b-a=m:=⟨_,rfl⟩;have w1:IntKind.i64.wrap ((b:Int)-(a:Int))=(m:Int):=by rw[IntWalk.i64_in _ (by omega)];omega
 have w2:IntKind.i64.wrap ((m:Int)-1)=((m-1:Nat):Int):=nJ (by omega) (by omega)
 have w3:IntKind.i64.wrap (((m-1:Nat):Int) / 2)=(((m-1) / 2:Nat):Int):=D8 (m:=2) (by omega);obtain⟨eH,hY⟩:∃x,x=m-1:=⟨_,rfl⟩;obtain⟨ef,jj⟩:∃x,x=(m-1) / 2:=⟨_,rfl⟩;rw[←jj,←hY] at w3;rw[←hY] at w2;have wp:∀k:Nat,k≤n→IntKind.i64.wrap ((k:Int)-1)=(k:Int)-1:=fun k υ=>by rw[IntWalk.i64_in _ (by omega)]
 obtain⟨oN,vn⟩:∃ab,Go.Sort.heapBuild (ar cmp) m a (ef+1) d=ab:=⟨_,rfl⟩;have dR:Go.Sort.heapSort (ar cmp) d a b=Go.Sort.heapPop (ar cmp) a m oN:=by unfold Go.Sort.heapSort;rw[hm,←jj,vn]
 (repeat (first|apply ι|(refine ν fun J I=>?_;simp;(repeat (rw[ζ];simp[w1,w2,w3]));apply I;clear I J)));refine W.qU [(0,.ms 0 n 0 n),(3,ai),(8,U a),(9,U 0),(10,U m)] [.cells 112 2 ((oN).toList.map ax)] ?_ ?_
 ·refine W.iter (fun q:Nat×Array (Int×Int)=>q.2.size=n∧q.1≤ef+1∧Go.Sort.heapBuild (ar cmp) m a q.1 q.2=oN) (fun q=>[(0,.ms 0 n 0 n),(3,ai),(8,U a),(9,U 0),(10,U m),(11,.z (.int .i64 ((q.1:Int)-1)))]) (fun q=>[.cells 112 2 ((q.2).toList.map ax)]) (fun q=>q.1) (ef+1,d) ⟨Η,Nat.le_refl _,vn⟩ rfl (by simp) (fun q Υ Γ=>?_);obtain⟨k,e⟩:=q;obtain⟨eW,υ,a8⟩:=Υ;simp only at eW υ a8;cases k with
  | zero=>
   (repeat (first|apply ι|(refine ν fun J I=>?_;simp;(repeat (rw[ζ];simp));apply I;clear I J)));refine ah rfl ?_;refine W.exit rfl ?_;exact W.stop ⟨rfl,by rw[←a8];rfl,by simp⟩
  | succ k=>
   have kB:(0:Int)≤(k:Int):=by omega
   refine W.to (σ':=[.cells 112 2 ((e).toList.map ax)]) (env':=[(0,.ms 0 n 0 n),(3,ai),(8,U a),(9,U 0),(10,U m),(11,.z (.int .i64 ((k:Int))))]) ?_ rfl (by simp);(repeat (first|apply ι|(refine ν fun J I=>?_;simp;(repeat (rw[ζ];simp[kB]));apply I;clear I J)));refine al (by simp) ?_;(repeat (first|apply ι));refine ν fun J I=>?_;simp;(repeat (rw[ζ];simp));refine ak.call (first:=[]) (captured:=[]) ((Pk e n k m a eW ξ (by omega) (by omega) ai cmp bR Ρ).mono (fun r s ⟨eh,dT⟩=>?_) (fun _ _ h=>h.elim));subst eh;subst dT;simp;(repeat (rw[ζ];simp));apply I;clear I J;(repeat (first|apply ι|(refine ν fun J I=>?_;simp;(repeat (rw[ζ];simp[wp k (by omega)]));apply I;clear I J)));exact W.to (Γ (k,Go.Sort.siftDown (ar cmp) m a k e) ⟨II eW,by(try simp only);omega,a8⟩ (by simp)) rfl (by simp[wp k (by omega)])
 obtain⟨mc,sb⟩:∃ab,Go.Sort.heapPop (ar cmp) a m oN=ab:=⟨_,rfl⟩;have bψ:oN.size=n:=by rw[←vn];exact Pd Η
 rw[sb] at dR;(repeat (first|apply ι|(refine ν fun J I=>?_;simp;(repeat (rw[ζ];simp[w2]));apply I;clear I J)));refine W.iter (fun q:Nat×Array (Int×Int)=>q.2.size=n∧q.1≤m∧Go.Sort.heapPop (ar cmp) a q.1 q.2=mc) (fun q=>[(0,.ms 0 n 0 n),(3,ai),(8,U a),(9,U 0),(10,U m),(12,.z (.int .i64 ((q.1:Int)-1)))]) (fun q=>[.cells 112 2 ((q.2).toList.map ax)]) (fun q=>q.1) (m,oN) ⟨bψ,Nat.le_refl _,sb⟩ rfl (by simp[hY];omega) (fun q Υ Γ=>?_);obtain⟨k,e⟩:=q;obtain⟨eW,υ,a8⟩:=Υ;simp only at eW υ a8;cases k with
 | zero=>
  (repeat (first|apply ι|(refine ν fun J I=>?_;simp;(repeat (rw[ζ];simp));apply I;clear I J)));refine ah rfl ?_;refine W.exit rfl ?_;exact W.nil ⟨_,rfl,rfl,by rw[dR,←a8];rfl⟩
 | succ k=>
  have kB:(0:Int)≤(k:Int):=by omega
  obtain⟨pk,bω⟩:∃x,x=a+k:=⟨_,rfl⟩;have pN:IntKind.i64.wrap ((a:Int)+(k:Int))=(pk:Int):=by rw[IntWalk.i64_in _ (by omega)];omega
  refine W.to (σ':=[.cells 112 2 ((e).toList.map ax)]) (env':=[(0,.ms 0 n 0 n),(3,ai),(8,U a),(9,U 0),(10,U m),(12,.z (.int .i64 ((k:Int))))]) ?_ rfl (by simp);(repeat (first|apply ι|(refine ν fun J I=>?_;simp;(repeat (rw[ζ];simp[kB]));apply I;clear I J)));refine al (by simp) ?_;have a2:a<n:=by omega
  have bh:pk<n:=by omega
  obtain⟨L,x,y,aD,δ,Ο,ω,⟨R,γ⟩,⟨ο,Ι⟩,ez,jJ,ay⟩:=jm ax eW a2 bh;refine W.to (σ':=[.cells 112 2 L]) (env':=[(0,.ms 0 n 0 n),(3,ai),(8,U a),(9,U 0),(10,U m),(12,.z (.int .i64 ((k:Int))))]) ?_ (by rw[aD]) (by simp);clear δ Ο
  repeat (first|apply ι)
  refine W.draw (A:=[]) Θ mixed fun J I=>?_;simp;(repeat (rw[bp];simp[ω,R,γ,ο,Ι,ay,a2,bh,pN]));refine⟨bL (by kernel_rfl),I _ _ ?_⟩;clear I J;refine W.to (σ':=[.cells 112 2 ((Go.Sort.swp e a pk).toList.map ax)]) (env':=[(0,.ms 0 n 0 n),(3,ai),(8,U a),(9,U 0),(10,U m),(12,.z (.int .i64 ((k:Int))))]) ?_ (by rw[ez]) (by simp);clear a2 bh R γ ο Ι ay ez ω aD L x y jJ;(repeat (first|apply ι));refine ν fun J I=>?_;simp;(repeat (rw[ζ];simp));refine ak.call (first:=[]) (captured:=[]) ((Pk (Go.Sort.swp e a pk) n 0 k a (swp_size eW a pk) ξ (by omega) (by omega) ai cmp bR Ρ).mono (fun r s ⟨eh,dT⟩=>?_) (fun _ _ h=>h.elim));subst eh;subst dT;simp;(repeat (rw[ζ];simp));apply I;clear I J;(repeat (first|apply ι|(refine ν fun J I=>?_;simp;(repeat (rw[ζ];simp[wp k (by omega)]));apply I;clear I J)));exact W.to (Γ (k,Go.Sort.siftDown (ar cmp) k a 0 (Go.Sort.swp e a pk)) ⟨II (swp_size eW a pk),by(try simp only);omega,by rw[bω];exact a8⟩ (by simp)) rfl (by simp[wp k (by omega)])
theorem bΑ (d:Array (Int×Int)) (n a b:Nat) (Η:d.size=n) (ξ:n<2 ^ 40) (gw:a<b) (hb:b≤n) (ai:θ) (cmp:Int×Int→Int×Int→Int) (bR:az 0 ai) (Ρ:∀x y,fT Tryz.prog ai [ax x,ax y] (U (cmp x y))) :
  ak Tryz.prog 238 [.ms 0 n 0 n,U a,U b,ai] [.cells 112 2 ((d).toList.map ax)] (fun r s=>r=.bt []∧s=[.cells 112 2 ((Go.Sort.reverseRange d a b).toList.map ax)]) (fun _ _=>False):=by
 refine ak.body Θ Tryz.func238 rfl rfl Tryz.ntmps238 rfl rfl (by simp) ?_;have w1:=nJ (i:=b) (by omega) (by omega);(repeat (first|apply ι|(refine ν fun J I=>?_;simp;(repeat (rw[ζ];simp[w1]));apply I;clear I J)));refine W.iter (fun q:Nat×Nat×Array (Int×Int)=>q.2.2.size=n∧q.1<n∧q.2.1<n∧Go.Sort.reverseLoop q.1 q.2.1 q.2.2=Go.Sort.reverseRange d a b) (fun q=>[(0,.ms 0 n 0 n),(8,U (q.1:Nat)),(9,U (q.2.1:Nat))]) (fun q=>[.cells 112 2 ((q.2.2).toList.map ax)]) (fun q=>q.2.1-q.1) (a,b-1,d) ⟨Η,by(try simp only);omega,by(try simp only);omega,rfl⟩ rfl (by simp[w1]) (fun q Υ Γ=>?_);obtain⟨i,j,e⟩:=q;obtain⟨eW,hi,ε,a8⟩:=Υ;simp only at eW hi ε a8;rw[Go.Sort.reverseLoop] at a8;refine W.to (σ':=[.cells 112 2 ((e).toList.map ax)]) (env':=[(0,.ms 0 n 0 n),(8,U (i:Nat)),(9,U (j:Nat))]) ?_ rfl (by simp);(repeat (first|apply ι|(refine ν fun J I=>?_;simp;(repeat (rw[ζ];simp));apply I;clear I J)));by_cases η:i<j
 ·refine al (by simp[η]) ?_;rw[if_pos η] at a8;have w2:=lj (i:=i) (by omega);have w3:=nJ (i:=j) (by omega) (by omega);have a2:i<n:=by omega
  have bh:j<n:=by omega
  obtain⟨L,x,y,aD,δ,Ο,ω,⟨R,γ⟩,⟨ο,Ι⟩,ez,jJ,ay⟩:=jm ax eW a2 bh;refine W.to (σ':=[.cells 112 2 L]) (env':=[(0,.ms 0 n 0 n),(8,U (i:Nat)),(9,U (j:Nat))]) ?_ (by rw[aD]) (by simp);clear δ Ο
  repeat (first|apply ι)
  refine W.draw (A:=[]) Θ mixed fun J I=>?_;simp;(repeat (rw[bp];simp[ω,R,γ,ο,Ι,ay,a2,bh]));refine⟨bL (by kernel_rfl),I _ _ ?_⟩;clear I J;refine W.to (σ':=[.cells 112 2 ((Go.Sort.swp e i j).toList.map ax)]) (env':=[(0,.ms 0 n 0 n),(8,U (i:Nat)),(9,U (j:Nat))]) ?_ (by rw[ez]) (by simp);clear a2 bh R γ ο Ι ay ez ω aD L x y jJ;(repeat (first|apply ι|(refine ν fun J I=>?_;simp;(repeat (rw[ζ];simp[w2,w3]));apply I;clear I J)));exact W.to (Γ (i+1,j-1,Go.Sort.swp e i j) ⟨swp_size eW i j,by(try simp only);omega,by(try simp only);omega,a8⟩ (by(try simp only);omega)) rfl (by simp[w2,w3])
 ·refine ah (by simp[η]) ?_;refine W.exit rfl ?_;rw[if_neg η] at a8;exact W.nil ⟨_,rfl,rfl,by rw[a8]⟩
end Go.TL
