import Derived.Test.YtlabjopijpkiaaaGreatHAJ
set_option maxHeartbeats 16000000
set_option maxRecDepth 20000
set_option linter.unusedSectionVars false
set_option linter.unusedSimpArgs false
set_option linter.unusedVariables false
namespace Go.TL
open Go.Proofs.Tryz
open Go.Proofs
variable [ZV]
theorem sH (S:Tw) (aH:S=WL\/S=Wr) (d:Array (Int×Int)) (n a b:Nat) (ay:d.size=n) (aW:n<2 ^ 40) (aI:a<b) (aX:b<=n) (m:I) (h:Int×Int->Int×Int->Int) (aY:χ 0 m) (aj:∀x y,XD prog m [S.enc x,S.enc y] (R (h x y))) :
  Ξ prog S.partialInsertionSort [.ms 0 n 0 n,R a,R b,m] [.cells S.t S.k ((d).toList.map S.enc)] (λr s=>r=ε (Go.Sort.partialInsertionSort (Γ h) d a b).2/\s=[.cells S.t S.k (((Go.Sort.partialInsertionSort (Γ h) d a b).1).toList.map S.enc)]) (λ_ _=>False):=by
 obtain⟨enc,ak⟩:=ψ S.enc;rcases aH with rfl|rfl
 all_goals dsimp only[WL,Wr] at *
 refine Ξ.body Ρ func239 rfl rfl ntmps239 rfl rfl J ?_
 rotate_left
 refine Ξ.body Ρ func188 rfl rfl ntmps188 rfl rfl J ?_
 all_goals
  obtain⟨az,al⟩:=Zt (Go.Sort.partialIns (Γ h) a b 5 (a+1) d);have aA:Go.Sort.partialInsertionSort (Γ h) d a b=az:=al;rw[aA];have w1:=XI (i:=a) U;refine Ι w1 ?_;refine W.iter (λq:Nat×Nat×Array (Int×Int)=>q.1<=5/\a+1<=q.2.1/\q.2.1<=b/\q.2.2.size=n/\Go.Sort.partialIns (Γ h) a b (5-q.1) q.2.1 q.2.2=az) (λq=>[(0,.ms 0 n 0 n),(1,R a),(2,R b),(3,m),(9,R (q.2.1:Nat)),(10,R (q.1:Nat))]) (λq=>[.cells _ _ ((q.2.2).toList.map _)]) (λq=>5-q.1) (0,a+1,d) ⟨ω _,Z5 _,aI,ay,al⟩ rfl (by simp[w1]) (λq N aJ=>?_);clear al aA ay w1;obtain⟨st,i,e⟩:=q;obtain⟨aK,aL,am,ah,l⟩:=N;simp only at aK aL am ah l;refine W.to (σ':=[.cells _ _ ((e).toList.map _)]) (env':=[(0,.ms 0 n 0 n),(1,R a),(2,R b),(3,m),(9,R (i:Nat)),(10,R (st:Nat))]) ?_ rfl J;by_cases Z:st<5
  case neg=>
   have g:¬(st:Int)<5:=U;refine Ι g ?_;refine Η J ?_;refine W.exit rfl ?_;refine Χ ?_;obtain rfl:st=5:=U;exact W.ret ⟨_,rfl,by rw[<-l];rfl,by rw[<-l];rfl⟩
  have aM:(st:Int)<5:=U;refine Ι aM ?_;refine Ε J ?_;obtain⟨c,an⟩:=Zt (Go.Sort.scanSorted (Γ h) e b i);have aN:=sP (Γ h) e (b:=b) (b-i) i (Z5 _) am;rw[an] at aN;rw[show 5-st=(4-st)+1 by omega,Go.Sort.partialIns] at l;simp only[an] at l
  repeat apply Ο
  refine W.s' [(0,.ms 0 n 0 n),(1,R a),(2,R b),(3,m),(9,R (c:Nat)),(10,R (st:Nat))] (e) [] ?_ ?_
  .clear l;refine W.iter (λk:Nat=>i<=k/\k<=b/\Go.Sort.scanSorted (Γ h) e b k=c) (λk=>[(0,.ms 0 n 0 n),(1,R a),(2,R b),(3,m),(9,R (k:Nat)),(10,R (st:Nat))]) (λ_=>[.cells _ _ ((e).toList.map _)]) (λk=>b-k) i ⟨Z5 _,am,an⟩ rfl J (λk aO ae=>?_);obtain⟨aZ,a0,ao⟩:=aO;by_cases O:k<b
   .obtain⟨p,ap⟩:=ψ (k-1);have v:k<n:=U;have w:p<n:=U;obtain⟨L,x,y,o,B,C,T,⟨D,E⟩,⟨H,K⟩,-,-⟩:=PI enc ah v w;simp only[ak] at o D E H K;have P:Go.Sort.scanSorted (Γ h) e b k=if(!Γ h x y)=true then Go.Sort.scanSorted (Γ h) e b (k+1) else k:=by rw[Go.Sort.scanSorted];simp[O,B,<-ap,C]
    have aB:=XI (i:=k) U
    have aP:IntKind.i64.wrap ((k:Int)-1)=(p:Int):=by rw[IntWalk.i64_in _ U];omega
    refine W.IU o [(0,.ms 0 n 0 n),(1,R a),(2,R b),(3,m),(9,R (k:Nat)),(10,R (st:Nat))] J ?_;clear B C
    repeat apply Ο
    refine W.draw (A:=[]) Ρ mixed λaq V=>Vj (Υ O (Υ aP (Υ T (Υ D (Υ E (Υ H (Υ K (Υ v w)))))))) ?_;refine YD (aj x y) ?_;simp;(repeat (rw[ZL];simp));try rw[ZM]
    refine YG (V _ _ ?_);by_cases u:h x y<0
    .refine Η (by simp[u]) ?_;refine W.exit rfl ?_;exact W.stop ⟨rfl,by rw[o],by rw[<-ao,P];simp[u,Γ]⟩
    .refine Ε (by simp[u]) ?_;refine Ι aB ?_;exact W.to (ae (k+1) ⟨U,U,by rw[<-ao,P];simp[u,Γ]⟩ Yt) (by rw[o]) (by simp[aB])
   .repeat apply Ο
    refine W0 O ?_;refine Η rfl ?_;refine W.exit rfl ?_;have e:Go.Sort.scanSorted (Γ h) e b k=k:=by rw[Go.Sort.scanSorted];simp[O]
    exact W.stop ⟨rfl,rfl,by rw[<-ao,e];simp⟩
  by_cases ai:c=b
  .have g:(c:Int)=(b:Int):=U
   rw[if_pos ai] at l;refine Ι g ?_;refine Ε (by simp[ai]) ?_;refine Χ ?_;exact W.ret ⟨_,rfl,by rw[<-l];rfl,by rw[<-l]⟩
  have g:¬(c:Int)=(b:Int):=U
  have aC:=Lp (a:=a) (b:=b) U U;rw[if_neg ai] at l;refine Ι g ?_;refine Η (by simp[ai]) ?_;by_cases aD:b-a<50
  .have ar:((b-a:Nat):Int)<50:=U
   rw[if_pos aD] at l;refine Ι (Υ aC ar) ?_;refine Ε J ?_;refine Χ ?_;exact W.ret ⟨_,rfl,by rw[<-l];rfl,by rw[<-l]⟩
  have ar:¬((b-a:Nat):Int)<50:=U;rw[if_neg aD] at l;refine Ι (Υ aC ar) ?_;refine Η J ?_;obtain⟨p,ap⟩:=ψ (c-1);have aE:IntKind.i64.wrap ((c:Int)-1)=(p:Int):=by rw[IntWalk.i64_in _ U];omega
  rw[<-ap] at l;refine W.two _ ah (i:=c) (j:=p) U U λL x y z B C F o Q=>?_
  repeat apply Ο
  refine W.draw (A:=[]) Ρ mixed λaq V=>?_;simp;(repeat (rw[ZL];simp[F,aE]));try rw[ZM];refine YG (V _ _ ?_)
  refine W.back Q [(0,.ms 0 n 0 n),(1,R a),(2,R b),(3,m),(9,R (c:Nat)),(10,R (st:Nat))] J ?_;clear F Q o B C L x y z;obtain⟨aa,aF⟩:=ψ (Go.Sort.swp e c p);have au:aa.size=n:=by rw[aF];exact swp_size ah c p
  rw[<-aF] at l ⊢;have aQ:=Lp (a:=a) (b:=c) U U;obtain⟨Φ,X⟩:=ψ (if c-a>=2 then Go.Sort.shiftDown (Γ h) p aa else aa);rw[<-X] at l;have av:Φ.size=n:=by rw[X];split;exact sO (Γ h) p aa au;exact au
  refine Ι aQ ?_;refine W.N6 [(0,.ms 0 n 0 n),(1,R a),(2,R b),(3,m),(9,R (c:Nat)),(10,R (st:Nat))] (Φ) [] ?_ ?_
  .clear l;by_cases af:2<=c-a
   .rw[if_pos af] at X;refine Ε (by simp;omega) ?_;refine Ι aE ?_;subst X;refine W.iter (λq:Nat×Array (Int×Int)=>q.1<=p/\q.2.size=n/\Go.Sort.shiftDown (Γ h) q.1 q.2=Go.Sort.shiftDown (Γ h) p aa) (λq=>[(0,.ms 0 n 0 n),(1,R a),(2,R b),(3,m),(9,R (c:Nat)),(10,R (st:Nat)),(11,R (q.1:Nat))]) (λq=>[.cells _ _ ((q.2).toList.map _)]) (λq=>q.1) (p,aa) ⟨Z5 _,au,rfl⟩ rfl J (λq N ae=>?_);obtain⟨j,f⟩:=q;obtain⟨aw,Y,M⟩:=N;simp only at aw Y M;refine W.to (σ':=[.cells _ _ ((f).toList.map _)]) (env':=[(0,.ms 0 n 0 n),(1,R a),(2,R b),(3,m),(9,R (c:Nat)),(10,R (st:Nat)),(11,R (j:Nat))]) ?_ rfl J;by_cases O:1<=j
    .have g:(1:Int)<=(j:Int):=U
     refine Ι g ?_;refine Ε J ?_;obtain⟨q,N⟩:=ψ (j-1);have ab:IntKind.i64.wrap ((j:Int)-1)=(q:Int):=by rw[IntWalk.i64_in _ U];omega
     have ag:IntKind.i64.wrap ((j:Int)-1)=(q:Int):=ab
     have v:j<n:=U
     have w:q<n:=U;obtain⟨L,x,y,o,B,C,T,⟨D,E⟩,⟨H,K⟩,Q,aR,Z⟩:=PI enc Y v w;simp only[ak] at o D E H K Q Z;have P:Go.Sort.shiftDown (Γ h) j f=if(!Γ h x y)=true then f else Go.Sort.shiftDown (Γ h) q (Go.Sort.swp f j q):=by
      obtain rfl:j=q+1:=U;rw[Go.Sort.shiftDown,B,C]
     refine W.IU o [(0,.ms 0 n 0 n),(1,R a),(2,R b),(3,m),(9,R (c:Nat)),(10,R (st:Nat)),(11,R (j:Nat))] J ?_;clear B C
     repeat apply Ο
     refine W.draw (A:=[]) Ρ mixed λaq V=>Vj (Υ ab (Υ T (Υ D (Υ E (Υ H (Υ K (Υ v w))))))) ?_;refine YD (aj x y) ?_;simp;(repeat (rw[ZL];simp));try rw[ZM]
     refine YG (V _ _ ?_);by_cases u:h x y<0
     .refine Η (by simp[u]) ?_;refine W.to (σ':=[.cells _ _ L]) (env':=[(0,.ms 0 n 0 n),(1,R a),(2,R b),(3,m),(9,R (c:Nat)),(10,R (st:Nat)),(11,R (j:Nat))]) ?_ rfl J
      repeat apply Ο
      refine W0 (Υ ab (Υ T (Υ D (Υ E (Υ H (Υ K (Υ Z (Υ v w)))))))) ?_;refine Ι ag ?_;exact W.to (ae (q,Go.Sort.swp f j q) ⟨U,swp_size Y j q,by rw[<-M,P];simp[u,Γ]⟩ Yt) (by rw[Q]) (by simp[ag])
     .refine Ε (by simp[u]) ?_;refine W.exit rfl ?_;exact W.stop ⟨rfl,by rw[<-o,<-M,P];simp[u,Γ],J⟩
    .have g:¬(1:Int)<=(j:Int):=U
     refine Ι g ?_;refine Η J ?_;refine W.exit rfl ?_;have e:Go.Sort.shiftDown (Γ h) j f=f:=by
      obtain rfl:j=0:=U;rfl
     exact W.stop ⟨rfl,by rw[<-M,e],J⟩
   .rw[if_neg af] at X;refine Η (by simp;omega) ?_;refine W.skip ?_;exact W.stop ⟨rfl,by rw[X],J⟩
  clear X;have aS:=Lp (a:=c) (b:=b) U U;have aT:=XI (i:=c) U;have aG:=XI (i:=st) U;obtain⟨ax,ad⟩:=ψ (if b-c>=2 then Go.Sort.shiftUp (Γ h) b (c+1) Φ else Φ);rw[<-ad] at l;have aU:ax.size=n:=by rw[ad];split;exact sN (Γ h) (b-(c+1)) (c+1) Φ (Z5 _) av;exact av
  refine Ι aS ?_;refine W.N6 [(0,.ms 0 n 0 n),(1,R a),(2,R b),(3,m),(9,R (c:Nat)),(10,R (st:Nat))] (ax) [] ?_ ?_
  .clear l;by_cases af:2<=b-c
   .rw[if_pos af] at ad;refine Ε (by simp;omega) ?_;refine Ι aT ?_;subst ad;refine W.iter (λq:Nat×Array (Int×Int)=>c+1<=q.1/\q.1<=b/\q.2.size=n/\Go.Sort.shiftUp (Γ h) b q.1 q.2=Go.Sort.shiftUp (Γ h) b (c+1) Φ) (λq=>[(0,.ms 0 n 0 n),(1,R a),(2,R b),(3,m),(9,R (c:Nat)),(10,R (st:Nat)),(12,R (q.1:Nat))]) (λq=>[.cells _ _ ((q.2).toList.map _)]) (λq=>b-q.1) (c+1,Φ) ⟨Z5 _,U,av,rfl⟩ rfl J (λq N ae=>?_);obtain⟨j,f⟩:=q;obtain⟨aw,aV,Y,M⟩:=N;simp only at aw aV Y M;refine W.to (σ':=[.cells _ _ ((f).toList.map _)]) (env':=[(0,.ms 0 n 0 n),(1,R a),(2,R b),(3,m),(9,R (c:Nat)),(10,R (st:Nat)),(12,R (j:Nat))]) ?_ rfl J;by_cases O:j<b
    .have g:(j:Int)<(b:Int):=U
     refine Ι g ?_;refine Ε J ?_;obtain⟨q,N⟩:=ψ (j-1);have ab:IntKind.i64.wrap ((j:Int)-1)=(q:Int):=by rw[IntWalk.i64_in _ U];omega
     have ag:=XI (i:=j) U
     have v:j<n:=U
     have w:q<n:=U;obtain⟨L,x,y,o,B,C,T,⟨D,E⟩,⟨H,K⟩,Q,aR,Z⟩:=PI enc Y v w;simp only[ak] at o D E H K Q Z;have P:Go.Sort.shiftUp (Γ h) b j f=if(!Γ h x y)=true then f else Go.Sort.shiftUp (Γ h) b (j+1) (Go.Sort.swp f j q):=by
      rw[Go.Sort.shiftUp,if_pos O,<-N,B,C]
     refine W.IU o [(0,.ms 0 n 0 n),(1,R a),(2,R b),(3,m),(9,R (c:Nat)),(10,R (st:Nat)),(12,R (j:Nat))] J ?_;clear B C
     repeat apply Ο
     refine W.draw (A:=[]) Ρ mixed λaq V=>Vj (Υ ab (Υ T (Υ D (Υ E (Υ H (Υ K (Υ v w))))))) ?_;refine YD (aj x y) ?_;simp;(repeat (rw[ZL];simp));try rw[ZM]
     refine YG (V _ _ ?_);by_cases u:h x y<0
     .refine Η (by simp[u]) ?_;refine W.to (σ':=[.cells _ _ L]) (env':=[(0,.ms 0 n 0 n),(1,R a),(2,R b),(3,m),(9,R (c:Nat)),(10,R (st:Nat)),(12,R (j:Nat))]) ?_ rfl J
      repeat apply Ο
      refine W0 (Υ ab (Υ T (Υ D (Υ E (Υ H (Υ K (Υ Z (Υ v w)))))))) ?_;refine Ι ag ?_;exact W.to (ae (j+1,Go.Sort.swp f j q) ⟨U,U,swp_size Y j q,by rw[<-M,P];simp[u,Γ]⟩ Yt) (by rw[Q]) (by simp[ag])
     .refine Ε (by simp[u]) ?_;refine W.exit rfl ?_;exact W.stop ⟨rfl,by rw[<-o,<-M,P];simp[u,Γ],J⟩
    .have g:¬(j:Int)<(b:Int):=U
     refine Ι g ?_;refine Η J ?_;refine W.exit rfl ?_;have e:Go.Sort.shiftUp (Γ h) b j f=f:=by rw[Go.Sort.shiftUp,if_neg O]
     exact W.stop ⟨rfl,by rw[<-M,e],J⟩
   .rw[if_neg af] at ad;refine Η (by simp;omega) ?_;refine W.skip ?_;exact W.stop ⟨rfl,by rw[ad],J⟩
  refine Ι aG ?_;exact W.to (aJ (st+1,c,ax) ⟨Yt,Yt,Yt,aU,by simp only;rw[show 5-(st+1)=4-st by omega];exact l⟩ Yt) rfl (by simp[aG])
theorem sG (S:Tw) (X:S=WL\/S=Wr) (n:Nat) (bB:n<256) (C:I) (c:Int×Int->Int×Int->Int) (Y:χ 0 C) (Q:∀x y,XD prog C [S.enc x,S.enc y] (R (c x y))) (ak:Go.Sort.SWO (Γ c)):∀(k:Nat) (d:Array (Int×Int)) (a b j:Nat),d.size=n->b-a<=k->a<=b->b<=n->j<2 ^ 40->Go.Sort.Below (Γ c) a b d->
  Ξ prog S.sX [.ms 0 n 0 n,R a,R b,R j,C] [.cells S.t S.k ((d).toList.map S.enc)] (λr s=>r=.ZX []/\s=[.cells S.t S.k ((Go.Sort.pdq (Γ c) d a b j true true).toList.map S.enc)]) (λ_ _=>False):=by
 intro k
 induction k using Nat.strongRecOn with
 | _ k a0=>
 intro d a b j bl aA al D aB am;have bm:=sI S X;have bn:=sS S X;have bo:=sW S X;have bp:=sU S X;have bq:=sV S X;have a1:=sH S X;have br:=sL S X;have bs:=sR S X;obtain⟨enc,bt⟩:=ψ S.enc;rcases X with rfl|rfl
 all_goals dsimp only[WL,Wr] at *
 refine Ξ.body Ρ func211 rfl rfl ntmps211 rfl rfl J ?_
 rotate_left
 refine Ξ.body Ρ func149 rfl rfl ntmps149 rfl rfl J ?_
 all_goals
  obtain⟨bu,aJ⟩:=Zt (Go.Sort.pdq (Γ c) d a b j true true);rw[aJ];refine Χ ?_;refine W.iter (λq:s6 (Int×Int)=>q.e.size=n/\q.a<=q.b/\q.b<=n/\q.b-q.a<=k/\q.lim<2 ^ 40/\Go.Sort.Below (Γ c) q.a q.b q.e/\Go.Sort.pdq (Γ c) q.e q.a q.b q.lim q.wb q.wp=bu) (λq=>[(0,.ms 0 n 0 n),(1,R (q.a:Nat)),(2,R (q.b:Nat)),(3,R (q.lim:Nat)),(4,C),(10,ε q.wb),(11,ε q.wp)]) (λq=>[.cells _ _ ((q.e).toList.map _)]) (λq=>q.b-q.a) ⟨a,b,j,true,true,d⟩ ⟨bl,al,D,aA,aB,am,aJ⟩ rfl J (λq bv aK=>?_);clear aJ am aB D al aA;obtain⟨a,b,j,wb,wp,e⟩:=q;obtain⟨an,al,D,aA,aB,am,ah⟩:=bv;simp only at an al D aA aB am ah;obtain⟨l,aL⟩:=ψ (b-a);have w1:IntKind.i64.wrap ((b:Int)-(a:Int))=(l:Int):=by rw[IntWalk.i64_in _ U];omega
  refine W.to (σ':=[.cells _ _ ((e).toList.map _)]) (env':=[(0,.ms 0 n 0 n),(1,R (a:Nat)),(2,R (b:Nat)),(3,R (j:Nat)),(4,C),(10,ε wb),(11,ε wp)]) ?_ rfl J;by_cases ai:b-a<=12
  .have g:(l:Int)<=12:=U
   refine Ι (Υ w1 g) ?_;refine Ε J ?_;refine ZU λO o=>?_;refine Ξ.call (first:=[]) (captured:=[]) ((bo e n a b an al D U C c Y Q).mono (λr s ⟨w,B⟩=>?_) (λ_ _ h=>h.elim));subst w;subst B;simp;(repeat (rw[Μ];simp));apply o;rw[Go.Sort.pdq_small ai] at ah;exact W.ret ⟨_,rfl,rfl,by rw[<-ah]⟩
  have g:¬(l:Int)<=12:=U;refine Ι (Υ w1 g) ?_;refine Η J ?_;by_cases ad:j=0
  .have aM:(j:Int)=0:=U
   refine Ι aM ?_;refine Ε (by simp[ad]) ?_;refine ZU λO o=>?_;refine Ξ.call (first:=[]) (captured:=[]) ((bn e n a b an U U D C c Y Q).mono (λr s ⟨w,B⟩=>?_) (λ_ _ h=>h.elim));subst w;subst B;simp;(repeat (rw[Μ];simp));apply o;rw[Go.Sort.pdq_heap ai ad] at ah;exact W.ret ⟨_,rfl,rfl,by rw[<-ah]⟩
  have aM:¬(j:Int)=0:=U;refine Ι aM ?_;refine Η (by simp[ad]) ?_;refine Χ ?_;have F:=Go.Sort.rd_facts (limit:=j) (wb:=wb) (wp:=wp) ak Go.Sort.partialInsertionSort_holds Go.Sort.reverseRange_holds (by omega:a<b) U am;have a2:=Go.Sort.rd_lim_le (lt:=(Γ c)) (d:=e) (a:=a) (b:=b) (limit:=j) (wb:=wb) (wp:=wp);have aC:=λh:wb=false=>show(Go.Sort.rd (Γ c) e a b j wb wp).d1=Go.Sort.breakPatterns e a b/\(Go.Sort.rd (Γ c) e a b j wb wp).lim=j-1 by subst h;exact Go.Sort.rd_false
  have aD:=λh:wb=true=>show(Go.Sort.rd (Γ c) e a b j wb wp).d1=e/\(Go.Sort.rd (Γ c) e a b j wb wp).lim=j by subst h;exact Go.Sort.rd_true
  have aE:=Go.Sort.rd_c (lt:=(Γ c)) (d:=e) (a:=a) (b:=b) (limit:=j) (wb:=wb) (wp:=wp)
  have Fd:=Go.Sort.rd_dec (lt:=(Γ c)) (d:=e) (a:=a) (b:=b) (limit:=j) (wb:=wb) (wp:=wp)
  have Fn:=Go.Sort.rd_not (lt:=(Γ c)) (d:=e) (a:=a) (b:=b) (limit:=j) (wb:=wb) (wp:=wp)
  have ao:=Go.Sort.rd_pi_yes (lt:=(Γ c)) (d:=e) (a:=a) (b:=b) (limit:=j) (wb:=wb) (wp:=wp)
  have ap:=Go.Sort.rd_pi_no (lt:=(Γ c)) (d:=e) (a:=a) (b:=b) (limit:=j) (wb:=wb) (wp:=wp)
  have aq:=Go.Sort.pdq_done (lt:=(Γ c)) (d:=e) (wb:=wb) (wp:=wp) ai ad
  have N:=Go.Sort.pdq_eq (lt:=(Γ c)) (d:=e) (wb:=wb) (wp:=wp) ai ad
  have E:=Go.Sort.pdq_left (lt:=(Γ c)) (d:=e) (wb:=wb) (wp:=wp) ai ad
  have H:=Go.Sort.pdq_right (lt:=(Γ c)) (d:=e) (wb:=wb) (wp:=wp) ai ad;rw[ah] at aq N E H;obtain⟨r,a3⟩:=Zt (Go.Sort.rd (Γ c) e a b j wb wp);rw[a3] at F a2 aC aD aE Fd Fn ao ap aq N E H;clear a3;obtain⟨d1,K,⟨aN,aO⟩,d2,T,ar,d3,done⟩:=r;simp only at F a2 aC aD aE Fd Fn ao ap aq N E H;obtain⟨aP,bC,bD,aQ,bE,Z,aa,a4⟩:=F;rw[an] at aP aQ aa;refine W.N6 [(0,.ms 0 n 0 n),(1,R (a:Nat)),(2,R (b:Nat)),(3,R (K:Nat)),(4,C),(10,ε wb),(11,ε wp),(12,R (l:Nat))] (d1) [] ?_ ?_
  .cases wb with
   | false=>
    obtain⟨f1,f2⟩:=aC rfl;refine Ε rfl ?_;refine ZU λO o=>?_;refine Ξ.call (first:=[]) (captured:=[]) ((bm e n a b an U U U D C c Y Q).mono (λr s ⟨w,B⟩=>?_) (λ_ _ h=>h.elim));subst w;subst B;simp;(repeat (rw[Μ];simp));apply o;have au:=Sz (i:=j) U U;refine P3 au ?_;exact W.stop ⟨rfl,by rw[f1],by simp[f2]⟩
   | true=>
    obtain⟨f1,f2⟩:=aD rfl;refine Η rfl ?_;refine W.skip ?_;exact W.stop ⟨rfl,by rw[f1],by simp[f2]⟩
  have aR:=br d1 n a b aP U U D C c Y Q;rw[<-aE] at aR;simp only at aR;refine ZU λO o=>?_;refine Ξ.call (first:=[]) (captured:=[]) ((aR).mono (λr s ⟨w,B⟩=>?_) (λ_ _ h=>h.elim));subst w;subst B;simp;(repeat (rw[Μ];simp));apply o;refine W.to (σ':=[.cells _ _ ((d1).toList.map _)]) (env':=[(0,.ms 0 n 0 n),(1,R (a:Nat)),(2,R (b:Nat)),(3,R (K:Nat)),(4,C),(10,ε wb),(11,ε wp),(12,R (l:Nat)),(13,R (aN:Nat)),(14,R (MJ aO))]) ?_ rfl J;refine Χ ?_;refine W.N6 [(0,.ms 0 n 0 n),(1,R (a:Nat)),(2,R (b:Nat)),(3,R (K:Nat)),(4,C),(10,ε wb),(11,ε wp),(12,R (l:Nat)),(13,R (T:Nat)),(14,R (MJ ar))] (d2) [] ?_ ?_
  .by_cases hd:aO=.decreasing
   .obtain⟨f1,f2,f3⟩:=Fd hd;subst hd;refine Ε rfl ?_;refine ZU λO o=>?_;refine Ξ.call (first:=[]) (captured:=[]) ((bs d1 n a b aP U U D C c Y Q).mono (λr s ⟨w,B⟩=>?_) (λ_ _ h=>h.elim));subst w;subst B;simp;(repeat (rw[Μ];simp));apply o;have au:=Sz (i:=b) U U;have bw:=Lp (a:=a) (b:=aN) U U;have a5:=Lp (a:=aN-a) (b:=b-1) U U;rw[<-f2] at a5;refine W.seq ?_;refine P3 (Υ au (Υ bw a5)) ?_;refine WB ?_;exact W.stop ⟨rfl,by rw[f1],by simp[f3,MJ]⟩
   .obtain⟨f1,f2,f3⟩:=Fn hd;refine Η (by cases aO with
     | decreasing=>exact absurd rfl hd
     | unknown=>rfl
     | increasing=>rfl) ?_
    refine W.skip ?_;exact W.stop ⟨rfl,by rw[f1],by simp[f2,f3]⟩
  repeat apply Ο
  refine W.Qc (A:=[]) Ρ [(75,ε (wb&&wp&&decide (ar=.increasing))),(0,.ms 0 n 0 n),(1,R (a:Nat)),(2,R (b:Nat)),(3,R (K:Nat)),(4,C),(10,ε wb),(11,ε wp),(12,R (l:Nat)),(13,R (T:Nat))] ?_ (by cases wb<;>cases wp<;>cases ar<;>simp[Μ,Si,MJ])
  repeat apply Ο
  rcases Bool.eq_false_or_eq_true done with ab|ab
  .cases av:(wb&&wp&&decide (ar=.increasing)) with
   | true=>
    have f:=ao av;refine Ε rfl ?_;have M:=a1 d2 n a b aQ U U D C c Y Q;rw[<-f] at M;simp only[ab] at M;refine ZU λO o=>?_;refine Ξ.call (first:=[]) (captured:=[]) ((M).mono (λr s ⟨w,B⟩=>?_) (λ_ _ h=>h.elim));subst w;subst B;simp;(repeat (rw[Μ];simp));apply o;refine Ε rfl ?_;exact W.ret ⟨_,rfl,rfl,by rw[aq ab]⟩
   | false=>
    have f:=(Prod.mk.inj (ap av)).2;rw[ab] at f;cases f
  refine W.N6 [(0,.ms 0 n 0 n),(1,R (a:Nat)),(2,R (b:Nat)),(3,R (K:Nat)),(4,C),(10,ε wb),(11,ε wp),(12,R (l:Nat)),(13,R (T:Nat))] (d3) [] ?_ ?_
  .cases av:(wb&&wp&&decide (ar=.increasing)) with
   | true=>
    have f:=ao av;refine Ε rfl ?_;have M:=a1 d2 n a b aQ U U D C c Y Q;rw[<-f] at M;simp only[ab] at M;refine ZU λO o=>?_;refine Ξ.call (first:=[]) (captured:=[]) ((M).mono (λr s ⟨w,B⟩=>?_) (λ_ _ h=>h.elim));subst w;subst B;simp;(repeat (rw[Μ];simp));apply o;refine Η rfl ?_;refine W.skip ?_;exact W.stop ⟨rfl,rfl,J⟩
   | false=>
    have f1:=(Prod.mk.inj (ap av)).1;refine Η rfl ?_;refine W.skip ?_;exact W.stop ⟨rfl,by rw[f1],J⟩
  clear aq ao ap Fd Fn aE aC aD;have N:=N ab;have E:=E ab;have H:=H ab;obtain⟨P,ae⟩:=Zt ((decide (a > 0)&&!Γ c d3[a-1]! d3[T]!):Bool);rw[ae] at N E H
  repeat apply Ο
  refine W.Nn (A:=[]) Ρ mixed [(97,ε P),(0,.ms 0 n 0 n),(1,R (a:Nat)),(2,R (b:Nat)),(3,R (K:Nat)),(4,C),(10,ε wb),(11,ε wp),(12,R (l:Nat)),(13,R (T:Nat))] ?_ (by
   by_cases aS:0<a
   .obtain⟨p,bx⟩:=ψ (a-1);have a6:p<n:=U;have a7:T<n:=U;obtain⟨L,x,y,a8,V,a9,aL,⟨a',ba⟩,⟨bb,bc⟩,-,-⟩:=PI enc aa a6 a7;simp only[bt] at a8 a' ba bb bc;have aT:P = !Γ c x y:=by rw[<-ae,<-bx,V,a9];simp[aS]
    have aU:(0:Int)<(a:Int):=U
    have au:IntKind.i64.wrap ((a:Int)-1)=(p:Int):=by rw[IntWalk.i64_in _ U];omega
    rw[a8];clear V a9;simp;(repeat (rw[ZL];simp[aS,aU,au,aL,a',ba,bb,bc,a6,a7]));(try rw[ZM]);refine YD (Q x y) ?_;simp;(repeat (rw[ZL];simp));(try rw[ZM]);refine⟨Yw (by kernel_rfl),?_⟩;simp[aT,Γ]
   .have aT:P=false:=by rw[<-ae];simp[aS]
    have aU:a=0:=U;subst aU;simp;(repeat (rw[ZL];simp));(try rw[ZM]);refine⟨Yw (by kernel_rfl),?_⟩;simp[aT])
  repeat apply Ο
  rcases Bool.eq_false_or_eq_true P with af|af
  .refine Ε (by simp[af]) ?_;rw[af] at ae;simp only[V9,decide_eq_true_eq,Bool.not_eq_true'] at ae;obtain⟨⟨mid,d4⟩,V⟩:∃r,Go.Sort.partitionEqual (Γ c) d3 a b T=r:=⟨_,rfl⟩;obtain⟨ag,aw,aV,aF,-⟩:=Go.Sort.round_eq ak (Go.Sort.partitionEqual_holds _) ae.1 Z.1 Z.2 (by rw[aa];exact D) a4 ae.2 V;have N:=N af;rw[V] at N;have N:=N ⟨ag,aw⟩;simp only at N;have M:=bp d3 n a b T aa U Z.1 Z.2 D C c Y Q;rw[V] at M;simp only at M;refine ZU λO o=>?_;refine Ξ.call (first:=[]) (captured:=[]) ((M).mono (λr s ⟨w,B⟩=>?_) (λ_ _ h=>h.elim));subst w;subst B;simp;(repeat (rw[Μ];simp));apply o;refine Χ ?_;refine W.exit rfl ?_;exact W.to (aK ⟨mid,b,K,wb,wp,d4⟩ ⟨aV.trans aa,aw,D,Yt,Yt,aF,N.symm⟩ Yt) rfl J
  refine Η (by simp[af]) ?_;obtain⟨⟨mid,bd,d4⟩,V⟩:∃r,Go.Sort.partition (Γ c) d3 a b T=r:=⟨_,rfl⟩;obtain⟨ag,aw,aV,aF,aW,bz,be⟩:=Go.Sort.round_part ak (Go.Sort.partition_holds _) Z.1 Z.2 (by rw[aa];exact D) a4 V;have E:=E af;have H:=H af;rw[V] at E H;have E:=E ⟨ag,aw⟩;have H:=H ⟨ag,aw⟩;simp only at E H;have M:=bq d3 n a b T aa U Z.1 Z.2 D C c Y Q;rw[V] at M;simp only at M;have aG:d4.size=n:=aV.trans aa;obtain⟨u,bA⟩:=ψ (mid-a);obtain⟨v,hv⟩:=ψ (b-mid);obtain⟨aX,bf⟩:=ψ (l / 8);obtain⟨ax,aH⟩:=ψ (mid+1);have bg:IntKind.i64.wrap ((mid:Int)-(a:Int))=(u:Int):=by rw[IntWalk.i64_in _ U];omega
  have bh:IntKind.i64.wrap ((b:Int)-(mid:Int))=(v:Int):=by rw[IntWalk.i64_in _ U];omega
  have bi:IntKind.i64.wrap ((l:Int) / 8)=(aX:Int):=by rw[bf];exact IT (m:=8) U
  have bj:IntKind.i64.wrap ((mid:Int)+1)=(ax:Int):=by rw[IntWalk.i64_in _ U];omega
  rw[<-bA,<-hv,<-aL,<-bf,<-aH] at E H;refine ZU λO o=>?_;refine Ξ.call (first:=[]) (captured:=[]) ((M).mono (λr s ⟨w,B⟩=>?_) (λ_ _ h=>h.elim));subst w;subst B;simp;(repeat (rw[Μ];simp));apply o;by_cases bk:u<v
  .have aY:(u:Int)<(v:Int):=U
   refine Ι (Υ bg (Υ bh (Υ bi @aY))) ?_;refine Ε J ?_;obtain⟨aj,aI⟩:=Go.Sort.pdq_sorts (Γ c) ak d4 a mid K true true ag U aF;have ay:=a0 (mid-a) U d4 a mid K aG (Z5 _) ag U U aF;have E:=E bk;obtain⟨B',-⟩:=bz _ aj aI;have az:=aj.1.trans aG;obtain⟨Φ,aZ⟩:=Zt (Go.Sort.pdq (Γ c) d4 a mid K true true);rw[aZ] at ay E B' az;refine ZU λO o=>?_;apply o;refine ZU λO o=>?_;refine Ξ.call (first:=[]) (captured:=[]) ((ay).mono (λr s ⟨w,B⟩=>?_) (λ_ _ h=>h.elim));subst w;subst B;simp;(repeat (rw[Μ];simp));apply o;refine Ι bj ?_;exact W.to (aK ⟨ax,b,K,decide (u>=aX),bd,Φ⟩ ⟨az,Yt,D,Yt,Yt,by simp only;rw[aH];exact B',E.symm⟩ Yt) rfl J
  .have aY:¬(u:Int)<(v:Int):=U
   refine Ι (Υ bg (Υ bh (Υ bi @aY))) ?_;refine Η J ?_;obtain⟨aj,aI⟩:=Go.Sort.pdq_sorts (Γ c) ak d4 (mid+1) b K true true U U aW;rw[<-aH] at aj aI aW;have ay:=a0 (b-ax) U d4 ax b K aG (Z5 _) U D U aW;have H:=H bk;rw[<-aH] at be;obtain⟨B',-⟩:=be _ aj aI;have az:=aj.1.trans aG;obtain⟨Φ,aZ⟩:=Zt (Go.Sort.pdq (Γ c) d4 ax b K true true);rw[aZ] at ay H B' az;refine ZU λO o=>?_;apply o;refine XM bj λO o=>?_;refine Ξ.call (first:=[]) (captured:=[]) ((ay).mono (λr s ⟨w,B⟩=>?_) (λ_ _ h=>h.elim));subst w;subst B;simp;(repeat (rw[Μ];simp));apply o;refine Χ ?_;exact W.to (aK ⟨a,mid,K,decide (v>=aX),bd,Φ⟩ ⟨az,ag,Yt,Yt,Yt,B',H.symm⟩ Yt) rfl J
theorem sF {a:Type} [Inhabited a] {lt:a->a->Bool} (b:Go.Sort.SWO lt) (c:∀x y,lt x y=false->lt y x=false->x=y) (l:List a):(Go.Sort.pdq lt l.toArray 0 l.length (Go.Sort.bitsLen l.length) true true).toList=l.mergeSort (λx y=>!lt y x):=by
 obtain⟨d,e⟩:=Go.Sort.pdq_sorts lt b l.toArray 0 l.length (Go.Sort.bitsLen l.length) true true (ω _) J (.inl rfl);exact Go.Sort.sorted_unique_holds (lt:=lt) b c l.toArray _ (by simpa using d) (by simpa using e)
theorem sE:Jy 49:=λl u=>by
 obtain⟨b,c⟩:=ψ (.fn (.func 174) [] []:I);have g:χ 0 b:=by rw[c];simp[Uf]
 have i:∀x y,XD prog b [Zq x,Zq y] (R (Te x y)):=λx y=>by rw[c];exact Κ.p (Er x y) (ZO.refl _) J J
 obtain⟨n,a⟩:=ψ l.length;have v:Go.Sort.bitsLen n<=6:=(Go.Sort.bitsLen_le_iff n 6).2 U;have h:=sG WL (.inl rfl) n U b Te g i Nh n l.toArray 0 n (Go.Sort.bitsLen n) (by simp[a]) U U (Z5 _) U (.inl rfl);dsimp only[WL] at h;have f:=sF Nh D' l;rw[<-a] at f;have e:(λx y:Int×Int=>!Γ Te y x)=UA:=rfl;rw[f,e] at h;rw[<-c,<-a];clear f e;have w:(l.map Zq).length=n:=by rw[Yh,a]
 refine Ξ.body Ρ func173 rfl rfl ntmps173 rfl rfl J ?_;have j:=X7 (show n<2 ^ 62 by omega);have Φ:IntKind.u64.wrap (n:Int)=n:=MI U;have k:=a.symm;refine Ι k ?_;(repeat apply Ο);refine YX λA m=>?_;simp;(repeat (rw[Μ];simp[j,Φ]));refine Κ.d (Oh n U) (Z1 ?_);refine Ξ.call (first:=[]) (captured:=[]) (h.mono (λr s ⟨o,t⟩=>?_) (λ_ _ h=>h.elim));subst o;subst t;simp;(repeat (rw[Μ];simp));apply m;exact W.nil ⟨_,rfl,rfl,rfl⟩
theorem sD:∀k,k<3->0<=(Yz k).2/\(Yz k).2<(Yz k).1/\(Yz k).1<=2:=Z3
theorem Cb {s:Δ} (h:Yd s) (p:Int×Int) (c:Nat):(Vy s p c).length<=49:=by
 have a:=Cd (λr=>s.Sd p r c) s.ς.length (s.ς.length+1) 0;rw[Hw] at a;have b:=h.ς.hi;have d:(s.ς.length+1)*(s.ς.length+1)<=7*7:=RQ U U;unfold Vy;omega
theorem sC {l:List (List (Int×Int))} (h:∀c∈l,c.length<=49) (a:Int) (i:Nat):Xb l a i<=49 ^ i:=by
 induction i with
 | zero=>simp[Xb]
 | succ i b=>
  rw[Pl,Nat.pow_succ];refine RQ b ?_;split
  .omega
  .cases d:l[i]? with
   | none=>simp
   | some c=>simpa using h c (Zp d)
theorem Gm {s:Δ} (h:Yd s) (p:Int×Int):∀c∈(X4 s p).cells,c.length<=49:=λc a=>by
 obtain⟨i,_,rfl⟩:=Zc.1 a;exact Cb h p i
theorem Lo {s:Δ} (h:Yd s) (p:Int×Int) (a:Int) {i:Nat} (hi:i<=s.cells.length):Xb (X4 s p).cells a i<=5764801:=by
 have:=h.many;exact Ya (sC (Gm h p) a i) (Ya (Lb Z3 (show i<=4 by omega)) Z3)
theorem sB {s:Δ} (h:Yd s):GQ 49 s where
 small:=h.small
 ς:=by have:=h.ς.hi;omega
 lit c a x b:=((h.cells c a).each x b).1
 reads k _ c _:=Cb h _ c
 many k _ i hi:=by have:=Lo h (Yz k) (-1) hi;omega
theorem sA {s:Δ} (h:Yd s):@Rz Tz s (ZQ s):=CS Z3 (λc=>@sE c) (sB h)
theorem Gl {s:Δ} {f:Found}:f∈ZQ s↔∃k,k<3/\0<(X4 s (Yz k)).many (-1)/\f=X4 s (Yz k):=by
 unfold ZQ;rw[List.mem_filterMap];constructor
 .rintro⟨k,a,h⟩;unfold Wd at h;split at h
  .rename_i b;exact⟨k,b.1,b.2,(W4 h).symm⟩
  .cases h
 .rintro⟨k,a,c,rfl⟩;exact⟨k,Wm.2 a,by unfold Wd;rw[if_pos ⟨a,c⟩]⟩
theorem N5 (s:Δ):(ZQ s).length<=3:=by
 unfold ZQ;exact Ya (ID _ _) J
def N4 (s:Δ) (i:Nat):Nat:=((List.range i).map λk=>(X4 s (Yz k)).many (-1)).sum
theorem Ca (s:Δ) (i:Nat):N4 s (i+1)=N4 s i+(X4 s (Yz i)).many (-1):=by simp[N4,Vp]
theorem sz (s:Δ):X6 (ZQ s)=N4 s 3:=by
 have b:∀i,i<=3->X6 ((List.range i).filterMap (Wd s))=N4 s i:=by
  intro i
  induction i with
  | zero=>intro _;rfl
  | succ i c=>
   intro hi;rw[Ca,<-c U,Vp,MD];unfold X6;rw[XR,List.sum_append];congr 1;unfold Wd;by_cases a:0<(X4 s (Yz i)).many (-1)
   .have:i<3/\0<(X4 s (Yz i)).many (-1):=⟨U,a⟩;simp[this]
   .have:¬(i<3/\0<(X4 s (Yz i)).many (-1)):=λh=>a h.2;simp[this];omega
 exact b 3 (Z5 _)
theorem sy {s:Δ} (p:Int×Int):(X4 s p).many (-1)=Xb (X4 s p).cells (-1) s.cells.length:=by
 unfold Found.many;simp[X4]
theorem B9 (l:List Int) (n:Int) (a:l.length<2 ^ 62):Κ prog 112 [ν R 1 l,R n] (ε (l.contains n)):=
 (yx l n a).mono (λ_ _ ⟨b,c⟩=>⟨.of b,c⟩) (λ_ _ h=>h)
end Go.TL
namespace Go.TL
open Go.Proofs.Tryz
open Go.Conc
variable [ZV]
inductive N3 (id:Nat):I->I->Prop where
 | same (a:I):N3 id a a
 | nil {k:Nat}:N3 id (.sl true k []) (.ms id 0 0 0)
def N2 (id:Nat) (r r':Row):Prop:=r'=r\/∃t n es es',r=.cells t n es/\r'=.cells t n es'/\es'.length=es.length/\
 ∀(i:Nat) (e b:I),es[i]?=some e->es'[i]?=some b->b.cells.length=e.cells.length/\∀(x:Nat) (a c:I),e.cells[x]?=some a->b.cells[x]?=some c->N3 id a c
section
variable {P:Program} {S:ο} {B:δ} {H:Ψ} {σ σ':Τ} {m nt k:Nat} {t:TypeId} {kk:List Item} {env:Ζ} {Z:X9} {E:Yn}
theorem Zy.pad (g:B.length=σ.length) (i:σ'.length=σ.length) (b:∀(j:Nat) (r:Row),σ[j]?=some r->∃r',σ'[j]?=some r'/\N2 σ.length r r'):Zy S S B (B++[none]) σ (σ'++[.cells t k []]):=
 ⟨λ_ _ _ h=>h,λj r a=>by
  have l:=(ZB.1 a).1;obtain⟨r',c,d⟩:=b j r a;have e:(B++[none])[j]?=B[j]?:=YL U;refine⟨r',by rw[YL U];exact c,?_⟩;rw[e];rcases d with rfl|⟨t,n,es,es',rfl,rfl,f,_⟩
  .exact Row.Ql _ _
  .exact .inl ⟨es',rfl,f,rfl⟩⟩
theorem Α.B8 (i:B.length=σ.length) (j:σ'.length=σ.length) (l:Zy S S B (B++[none]) σ (σ'++[.cells t k []])) {a c:I} (h:N3 σ.length a c) {v:Value} (d:Α S B σ a v):Α S (B++[none]) (σ'++[.cells t k []]) c v:=by
 cases h with
 | same=>exact d.later l
 | nil=>
  have e:(σ'++[Row.cells t k []])[σ.length]?=some (.cells t k []):=by rw[<-j];simp
  have f:(B++[none])[σ.length]?=some none:=by rw[<-i];simp
  cases d with
  | Wk base cap g=>
   obtain rfl:=g rfl;exact .ms 0 e rfl f (Z5 _) (Z5 _) (.inl rfl)
  | sl b o cap w g=>
   obtain rfl:cap=0:=g rfl;exact .ms 0 e rfl f (Z5 _) (Z5 _) (.inl rfl)
theorem W.pad (t:TypeId) (k:Nat) (L:σ'.length=σ.length) (V:∀(j:Nat) (r:Row),σ[j]?=some r->∃r',σ'[j]?=some r'/\N2 σ.length r r') (env':Ζ) (az:∀p∈env',N3 σ.length (Z' env p.1) p.2)
  (aA:W P m nt kk env' (σ'++[.cells t k []]) Z E):W P m nt kk env σ Z E:=by
 intro aB mn x cs b S B H Z2 M g O aC aD;have f:=O.holds;have Q:=f.len;have R:Zy S S B (B++[none]) σ (σ'++[.cells t k []]):=Zy.pad Q L V;have ao:∀j,j<σ.length->(σ'++[Row.cells t k []])[j]?=σ'[j]?:=λj h=>YL U;have l:∀j,j<σ.length->(B++[none])[j]?=B[j]?:=λj h=>YL U;have back:∀j r',j<σ.length->(σ'++[Row.cells t k []])[j]?=some r'->∃r,σ[j]?=some r/\N2 σ.length r r':=λj r' s h=>by
  rw[ao j s] at h;obtain⟨ap,d,X⟩:=V j _ (ζ s);rw[h] at d;cases d;exact⟨_,ζ s,X⟩
 have Y:∀{r r':Row},N2 σ.length r r'->r'.live->r.live:=λ{r r'} h hv=>by
  rcases h with rfl|⟨_,_,_,_,rfl,rfl,_⟩
  .exact hv
  .trivial
 have low:∀j y,(B++[none])[j]?=some (some y)->j<σ.length:=λj y h=>by
  have d:=(ZB.1 h).1;simp at d;by_cases e:j=B.length
  .subst e;simp at h
  .omega
 have aE:Holds S (B++[none]) (σ'++[.cells t k []]) H:=by
  refine⟨f.YO,by simp;omega,λj r bo c u=>?_,λi j aF aG b aH aI aJ hi s aK aL aa ab=>?_,λj r b N c aM g o=>?_⟩
  .by_cases e:j<σ.length
   .rw[l j e] at u;obtain⟨aN,d,X⟩:=back j r e c;have T:=f.row j aN bo d u;rcases X with rfl|⟨t2,n,es,es',rfl,rfl,ad,aO⟩
    .refine T.later R (λb N _=>⟨λ_=>rfl,rfl,rfl⟩) λae left a5 Φ=>?_;subst Φ;obtain⟨_,_,a6,a7,xs,a8,seen,_,aq,⟨es,A⟩,_⟩:=T;have ar:=(ZB.1 A).1;refine⟨?_,l ae ar,λb N _=>⟨λ_=>rfl,rfl,rfl⟩⟩;obtain⟨r',aP,aQ⟩:=V ae _ A;rcases aQ with rfl|⟨_,_,_,_,aR,_⟩
     .rw[ao ae ar,aP,A]
     .cases aR
    .cases bo with
     | none=>
      have:es=[]:=T;subst this;exact YR.1 ad
     | some y=>
      obtain⟨b,N⟩:=y;obtain⟨C,D,F,w,I⟩:=T;refine⟨C,by rw[ad];exact D,F,w,λi aS hi=>?_⟩;have au:i<es.length:=by rw[<-ad];exact(ZB.1 hi).1
      obtain⟨aT,aU⟩:=I i _ (ζ au);obtain⟨d1,d2⟩:=aO i _ aS (ζ au) hi;refine⟨d1.trans aT,λx aV M=>?_⟩;have av:x<(es[i]).cells.length:=by rw[<-d1];exact(ZB.1 M).1
      obtain⟨aq,A,aW⟩:=aU x _ (ζ av);exact⟨aq,A.B8 Q L R (d2 x _ aV (ζ av) M),aW⟩
   .have d:=(ZB.1 c).1;simp at d;have aX:j=σ'.length:=U;subst aX;rw[L,<-Q] at u;simp at c u;subst c;subst u;rfl
  .have aw:=low i _ aa
   have K:=low j _ ab;obtain⟨af,ag,ah⟩:=back i aF aw hi;obtain⟨ap,aY,aZ⟩:=back j aG K s;rw[l i aw] at aa;rw[l j K] at ab;exact f.inj i j af ap b aH aI aJ ag aY (Y ah aK) (Y aZ aL) aa ab
  .have K:=low j _ g;obtain⟨af,ag,ah⟩:=back j r K c;rw[l j K] at g;exact f.sep j af b N ag (Y ah aM) g o
 have a0:Ext S B H S (B++[none]) H:=(f.push (r:=.cells t k []) (bo:=none) (λb N h=>by cases h) (λb _=>⟨λ_=>rfl,rfl,rfl⟩) (λ_=>rfl)).2.1
 have ax:XY m S B H σ S (B++[none]) H (σ'++[.cells t k []]):=⟨a0,R.left m⟩
 have a1:∀(l2:Ζ),(∀p∈l2,N3 σ.length (Z' env p.1) p.2)->∀i,Α S B σ (Z' env i) (Z2.getD i undef)->Α S (B++[none]) (σ'++[.cells t k []]) (Z' l2 i) (Z2.getD i undef):=by
  intro l2
  induction l2 with
  | nil=>intro _ i _;exact .Zs _
  | cons p l2 a2=>
   intro ay i c;simp only[Z'];split
   .rename_i e;subst e;exact c.B8 Q L R (ay p J)
   .exact a2 (λq a3=>ay q (by simp[a3])) i c
 refine aA aB mn x cs b _ _ H Z2 M g ⟨aE,λi=>a1 env' az i (O.Zn i),O.size,by have:=O.rows;simp;omega⟩ (λj ai aj ak al am t2 an C D F I=>?_) (λa ai aj ak al am t2 an v C D F I a4=>?_)
 .exact aC j ai aj ak al am t2 an C (ax.trans D) F I
 .exact aD a ai aj ak al am t2 an v C (ax.trans D) F I a4
theorem W.B7 (t:TypeId) (k:Nat) {i:Nat} {r r':Row} (hi:σ[i]?=some r) (b:N2 σ.length r r') (env':Ζ) (c:∀p∈env',N3 σ.length (Z' env p.1) p.2) (d:W P m nt kk env' (σ.set i r'++[.cells t k []]) Z E):W P m nt kk env σ Z E:=
 W.pad t k J (λj q a=>by
  by_cases e:j=i
  .subst e;rw[hi] at a;cases a;exact⟨r',by rw[Wo (ZB.1 hi).1],b⟩
  .exact⟨q,by rw[Vq (YZ e)];exact a,.inl rfl⟩) env' c d
end
end Go.TL
namespace Go.TL
open Go.Proofs.Tryz
open Go.Proofs
variable [ZV]
theorem B6 (s:Δ) (g:Int) (c:g<s.ς.length):Κ prog 134 [Zh s,R g] (R (s.of g)):=by
 refine Ξ.body Ρ func134 rfl rfl ntmps134 rfl rfl J ?_;refine Χ ?_;refine W.YM rfl (λa=>?_) (λa=>?_)
 .have a:g<0:=by simpa using a
  refine Χ ?_;refine W.rt ?_;exact .of (by rw[show s.of g=0 by simp[Δ.of,a]];rfl)
 .have a:¬g<0:=by simpa using a
  obtain⟨n,rfl⟩:∃n:Nat,g=n:=⟨g.toNat,U⟩;have b:n<s.ς.length:=U;refine Ι b ?_;refine W.rt ?_;exact .of (by rw[show s.of n=s.ς[n].YW by simp[Δ.of,b];intro h;omega];rfl)
theorem IQ (s:Δ) (m:s.small) (p r:Int×Int) (n:Nat) (e:n<s.Β.length) (o:r.1<s.ς.length) (t:r.2<s.ς.length) :
  Κ prog 98 [Zh s,ν R 1 [p.1,p.2],ν R 1 [r.1,r.2],R n] (R (s.Y1 p r n)):=by
 have f:=ζ e
 have g:s.Β[n].length<2 ^ 62:=by have:=m.2.2.2.1 _ (Y7 e);omega
 obtain⟨L,k⟩:=ψ (s.Β[n]);rw[<-k] at f g;have l:∀h,s.Β[n]'h=L:=λh=>k.symm;have hv:s.Y1 p r n=if L.contains p.2 then UJ (if L.contains p.1 then UJ 0 (s.of r.1) else 0) (s.of r.2) else(if L.contains p.1 then UJ 0 (s.of r.1) else 0):=by unfold Δ.Y1;rw[f];rfl
 refine Ξ.body Ρ func98 rfl rfl ntmps98 rfl rfl J ?_;refine Χ ?_;refine W.iter (λq:Nat×Int=>q.1<=2/\(q.1=0->q.2=0)/\(q.1=1->q.2=if L.contains p.1 then UJ 0 (s.of r.1) else 0)/\(q.1=2->q.2=s.Y1 p r n))
  (λq=>[(1,ν R 1 [p.1,p.2]),(2,ν R 1 [r.1,r.2]),(3,R n),(4,Z6 s),(9,R q.2),(10,R q.1)]) (λ_=>[]) (λq=>2-q.1) (0,0) ⟨U,J,J,J⟩ rfl J (λq hi a=>?_)
 rcases q with⟨i,x⟩
 match i,hi,a with
 | 0,hi,a=>
  have c:x=0:=hi.2.1 rfl;subst c;refine Χ ?_;refine Ε rfl ?_
  repeat apply Ο
  refine W.draw (A:=[]) Ρ mixed λj d=>Vj (Υ f (Υ l e)) ?_;refine YD (Κ.q (B9 L p.1 g)) (U5 ?_);refine YG (d _ _ ?_);by_cases b:p.1∈L
  .refine Ε (by simp[b]) ?_
   repeat apply Ο
   refine W.draw (A:=[]) Ρ mixed λj d=>U5 ?_;refine YD (Κ.q (B6 s r.1 o)) (U5 ?_);refine YG (d _ _ ?_);refine Χ ?_;refine W.forget _ ?_ (a (1,UJ 0 (s.of r.1)) ⟨J,J,by simp[b],J⟩ J);simp[P2]
  .refine Η (by simp[b]) ?_;refine Χ ?_;refine W.forget _ ?_ (a (1,0) ⟨J,J,by simp[b],J⟩ J);simp[P2]
 | 1,hi,a=>
  have c:=hi.2.2.1 rfl;simp at c;refine Χ ?_;refine Ε rfl ?_
  repeat apply Ο
  refine W.draw (A:=[]) Ρ mixed λj d=>Vj (Υ f (Υ l e)) ?_;refine YD (Κ.q (B9 L p.2 g)) (U5 ?_);refine YG (d _ _ ?_);by_cases b:p.2∈L
  .refine Ε (by simp[b]) ?_
   repeat apply Ο
   refine W.draw (A:=[]) Ρ mixed λj d=>U5 ?_;refine YD (Κ.q (B6 s r.2 t)) (U5 ?_);refine YG (d _ _ ?_);refine Χ ?_;refine W.forget _ ?_ (a (2,UJ x (s.of r.2)) ⟨J,J,J,λ_=>by rw[hv];simp[b,c]⟩ J);simp[Om]
  .refine Η (by simp[b]) ?_;refine Χ ?_;refine W.forget _ ?_ (a (2,x) ⟨J,J,J,λ_=>by rw[hv];simp[b,c]⟩ J);simp[Om]
 | 2,hi,a=>
  have c:=hi.2.2.2 rfl;refine Χ ?_;refine Η rfl ?_;refine W.exit rfl ?_;refine Χ ?_;refine W.rt ?_;exact .of (by rw[<-show x=s.Y1 p r n from c];rfl)
 | i+3,hi,a=>exact absurd hi.1 J
theorem sx (s:Δ) (h:Yd s) (p r:Int×Int) {c:List Y9} (b:c∈s.cells) {x:Y9} (e:x∈c) (f:r.1<s.ς.length) (g:r.2<s.ς.length) :
  Κ prog 158 [Zh s,ν R 1 [p.1,p.2],ν R 1 [r.1,r.2],Zr x] (ε (s.V2 p r x)):=by
 obtain⟨k,l,m,o⟩:=(h.cells c b).each x e;have hv:=IQ s h.small p r x.Zd.toNat U f g;rw[show((x.Zd.toNat:Nat):Int)=x.Zd by omega] at hv;rw[<-sY h p r b e];unfold Δ.Gr;obtain⟨n,i⟩:=ψ (s.Y1 p r x.Zd.toNat);rw[<-i] at hv ⊢;refine Ξ.body Ρ func158 rfl rfl ntmps158 rfl rfl J ?_;refine Χ ?_;refine ZU λt j=>?_;refine Κ.d (hv) (Z1 ?_);apply j;by_cases a:U3 n x.seen=x.seen
 .refine Ι a ?_;refine W.rt ?_;exact .of (by simp[a])
 .refine Ι a ?_;refine W.rt ?_;exact .of (by simp[a])
def N1:List (List Int):=[[1,0],[2,0],[2,1]]
theorem sw:Κ prog 138 [] (ZT N1):=by
 refine Ξ.body Ρ func138 rfl rfl ntmps138 rfl rfl J ?_;refine Χ ?_;refine .loop ?_;refine Χ ?_;refine Ε rfl ?_;refine Χ ?_;refine .loop ?_;refine Χ ?_;refine Η rfl ?_;refine W.exit rfl ?_;refine Ι @P2 ?_;refine .inLoop ?_;refine Χ ?_;refine Ε rfl ?_;refine Χ ?_;refine .loop ?_;refine Χ ?_;refine Ε rfl ?_
 repeat apply Ο
 refine Y4 (A:=[18]) Ρ λc b=>Z1 ?_;apply b;refine Ι @P2 ?_;refine .inLoop ?_;refine Χ ?_;refine Η rfl ?_;refine W.exit rfl ?_;refine Ι @Om ?_;refine .inLoop ?_;refine Χ ?_;refine Ε rfl ?_;refine Χ ?_;refine .loop ?_;refine Χ ?_;refine Ε rfl ?_
 repeat apply Ο
 refine Y4 (A:=[18]) Ρ λc b=>Z1 ?_;apply b;refine Ι @P2 ?_;refine .inLoop ?_;refine Χ ?_;refine Ε rfl ?_
 repeat apply Ο
 refine Y4 (A:=[18]) Ρ λc b=>Z1 ?_;apply b;refine Ι @Om ?_;refine .inLoop ?_;refine Χ ?_;refine Η rfl ?_;refine W.exit rfl ?_;refine Ι @Ek ?_;refine .inLoop ?_;refine Χ ?_;refine Η rfl ?_;refine W.exit rfl ?_;refine W.cut 0 (ω _) [(1,.sl false 1 [Yi [1,0],Yi [2,0],Yi [2,1]])] (ω _) (λid r h=>absurd h (Rf _)) (λq d=>by
  simp only[Zf,Yk,or_false] at d;subst d;exact .own (t:=29) (ω _) rfl rfl (λe g a i=>by
   simp at g;rcases g with rfl|rfl|rfl<;>simp[I.cells] at i<;>subst i<;>simp)) ?_
 rw[List.take_zero];refine Χ ?_;refine W.ret ⟨_,rfl,?_,rfl⟩;exact .map (f:=Yi) (l:=N1) λr _=>.one .ex rfl rfl
theorem su (s:Δ) (h:Yd s) (p:Int×Int) (c:Nat) (o:c<s.cells.length) :
  Κ prog 139 [Zh s,ν R 1 [p.1,p.2],R c] (ZT (Sy (Vy s p c))):=by
 have u:=ζ o
 have I:=Y7 o
 have ar:=h.ς.hi;obtain⟨a,y⟩:=ψ (s.cells[c]);have ae:∀r,s.Sd p r c=a.all (s.V2 p r):=λr=>by unfold Δ.Sd;rw[u,y];rfl
 rw[<-y] at u I;have B:∀h,s.cells[c]'h=a:=λh=>y.symm;have au:a.length<=4:=(h.cells a I).hi;clear y;obtain⟨n,v⟩:=ψ s.ς.length;obtain⟨q,T⟩:=ψ (λr=>s.Sd p r c:Int×Int->Bool);refine Ξ.body Ρ func139 rfl rfl ntmps139 rfl rfl J ?_
 repeat apply Ο
 refine WB ?_
 repeat apply Ο
 refine WB ?_;refine W.pad 29 1 (σ':=[]) rfl (λj r h=>⟨r,h,.inl rfl⟩) [(1,ν R 1 [p.1,p.2]),(2,R c),(3,Z6 s),(7,.ms 0 0 0 0)] (λz w=>by
  simp only[Zf,Yk,or_false] at w;rcases w with rfl|rfl|rfl|rfl
  .exact .same _
  .exact .same _
  .exact .same _
  .exact .nil) ?_
 rw[List.nil_append];refine Χ ?_;refine W.iter (λi:Nat=>i<=n+1) (λi=>[(1,ν R 1 [p.1,p.2]),(2,R c),(3,Z6 s),(7,.ms 0 (WM q n i 0).length 0 (WM q n i 0).length),(8,R ((i:Int)-1))])
  (λi=>[.cells 29 1 ((WM q n i 0).map Φ)]) (λi=>n+1-i) 0 (ω _) (by rw[Hy];rfl) (by rw[Hy];simp) (λi hi af=>?_)
 by_cases av:i<n+1
 .have K:(i:Int)-1<(n:Int):=U
  have V:=X7 (show i<2 ^ 62 by omega);(repeat (first|apply Ο|(refine YX λL g=>?_;simp;(repeat (rw[Μ];simp[v.symm,K]));apply g)));refine Ε J ?_;refine Χ ?_;refine W.iter (λj:Nat=>j<=n+1) (λj=>[(1,ν R 1 [p.1,p.2]),(2,R c),(3,Z6 s),(7,.ms 0 (WM q n i j).length 0 (WM q n i j).length),(8,R ((i:Int)-1)),(9,R ((j:Int)-1))])
   (λj=>[.cells 29 1 ((WM q n i j).map Φ)]) (λj=>n+1-j) 0 (ω _) rfl J (λj aw C=>?_)
  by_cases ax:j<n+1
  .have M:(j:Int)-1<(n:Int):=U
   have D:=X7 (show j<2 ^ 62 by omega)
   have e:=D7 (q:=q) (n:=n) (i:=i) (j:=j)
   have ag:(WM q n i j).length<=200:=by
    have ay:=Cd q n i j
    have az:i*(n+1)<=7*7:=RQ U U;omega
   have C:=C (j+1) U U;obtain⟨r,N⟩:=ψ (((i:Int)-1,(j:Int)-1):Int×Int);have O:(i:Int)-1=r.1:=by rw[N]
   have P:(j:Int)-1=r.2:=by rw[N]
   have ah:r.1<s.ς.length:=U
   have ai:r.2<s.ς.length:=U
   have aj:q r=a.all (s.V2 p r):=by rw[T];exact ae r
   rw[<-N] at e;obtain⟨d,ak⟩:=ψ (WM q n i j);rw[<-ak] at e ag ⊢;(repeat (first|apply Ο|(refine YX λL g=>?_;simp;(repeat (rw[Μ];simp[v.symm,M]));apply g)));refine Ε J ?_;refine Χ ?_;refine W.iter (λk:Nat=>k<=a.length) (λk=>[(1,ν R 1 [p.1,p.2]),(2,R c),(3,Z6 s),(7,.ms 0 d.length 0 d.length),(8,R r.1),(9,R r.2),(10,ε ((a.take k).all (s.V2 p r))),(11,R k)])
    (λk=>[.cells 29 1 (d.map Φ)]) (λk=>a.length-k) 0 (ω _) rfl (by simp[O,P]) (λk aA l=>?_)
   by_cases m:k<a.length
   .have Q:(k:Int)<(a.length:Int):=U
    have X:=XI (i:=k) U
    have S:=ζ m;obtain⟨x,E⟩:=ψ (a[k]);have al:x∈a:=E▸Y7 m;rw[<-E] at S;have Y:∀h,a[k]'h=x:=λh=>E.symm;have am:(a.take (k+1)).all (s.V2 p r)=((a.take k).all (s.V2 p r)&&s.V2 p r x):=by
     rw[Wp m,List.all_append,<-E];simp
    have l:=l (k+1) U U;rw[am] at l;have Z:=sx s h p r I al ah ai;obtain⟨b,F⟩:=ψ ((a.take k).all (s.V2 p r));rw[<-F] at l ⊢;obtain⟨f,an⟩:=ψ (s.V2 p r x);rw[<-an] at l Z;refine Ι (Υ u (Υ B (Υ o Q))) ?_;refine Ε (by simp[m]) ?_
    repeat apply Ο
    refine W.Uv (A:=[]) Ρ mixed [(1,ν R 1 [p.1,p.2]),(2,R c),(3,Z6 s),(7,.ms 0 d.length 0 d.length),(8,R r.1),(9,R r.2),(10,ε (b&&f)),(11,R k)] [.cells 29 1 (d.map Φ)] ?_ (by
     cases b with
     | false=>
      simp;(repeat (rw[ZL];simp[u,B,o,m,S,Y]));(try rw[ZM]);refine⟨Yw (by kernel_rfl),?_⟩;simp
     | true=>
      simp;(repeat (rw[ZL];simp[u,B,o,m,S,Y]));(try rw[ZM]);refine YD (Κ.p Z (.cons (.refl _) (.cons (.refl _) (.cons .ex (.cons (.refl _) .nil)))) J J) ?_;simp;(repeat (rw[ZL];simp));(try rw[ZM]);refine⟨Yw (by kernel_rfl),?_⟩;simp)
    refine Ι X ?_;exact W.to l rfl (by simp[X])
   have Q:¬(k:Int)<(a.length:Int):=U;clear l;rw[US U,<-aj];refine Ι (Υ u (Υ B (Υ o Q))) ?_;refine Η (by simp[m]) ?_;refine W.exit rfl ?_;refine Χ ?_;cases aa:q r
   .refine Η rfl ?_;rw[<-P] at *;refine Ι D ?_;rw[aa] at e;refine W.to C ?_ ?_
    .rw[e];simp
    .rw[e];simp[D,O]
   .refine Ε rfl ?_;rw[aa] at e;have ab:(d.map Φ).length=d.length:=J;have F:d.length<=4294967295:=U
    repeat apply Ο
    refine W.Xk (A:=[59]) Ρ [(1,ν R 1 [p.1,p.2]),(2,R c),(3,Z6 s),(7,.ms 0 (d.length+1) 0 (d.length+1)),(8,R r.1),(9,R r.2)] [.cells 29 1 (d.map Φ++[Φ r])] ?_ (by
     (try simp);(repeat (rw[Μ];simp[ab,F]));(try simp[ab,F]))
    rw[<-P];refine Ι D ?_;refine W.to C ?_ ?_
    .rw[e];simp
    .rw[e];simp[D,O]
  .have ao:j=n+1:=U
   subst ao;have M:¬((n+1:Nat):Int)-1<(n:Int):=U;(repeat (first|apply Ο|(refine YX λL g=>?_;simp;(repeat (rw[Μ];simp[v.symm,M]));apply g)));refine Η J ?_;refine W.exit rfl ?_;refine Ι V ?_;refine W.to (af (i+1) U U) ?_ ?_
   .rw[Hx]
   .rw[Hx];simp[V]
 .have ap:i=n+1:=U
  subst ap;have K:¬((n+1:Nat):Int)-1<(n:Int):=U;obtain⟨H,ad⟩:=ψ (Vy s p c);have aq:WM q n (n+1) 0=H:=by rw[Hw,ad,T,v];rfl
  rw[aq,<-ad];(repeat (first|apply Ο|(refine YX λL g=>?_;simp;(repeat (rw[Μ];simp[v.symm,K]));apply g)));refine Η J ?_;refine W.exit rfl ?_;refine W.cut 0 (ω _) [(7,.sl false 1 (H.map Φ))] (ω _) (λid r h=>absurd h (Rf _)) (λz w=>by
   simp only[Zf,Yk,or_false] at w;subst w;exact .own (t:=29) (ω _) rfl J Gq) ?_
  rw[List.take_zero];refine Χ ?_;refine W.ret ⟨_,rfl,?_,rfl⟩;show Y3 (.sl false 1 (H.map Φ)) (.sl false 1 ((Sy H).map (ν R 1)));rw[Qt];exact .map λr _=>.one .ex rfl rfl
abbrev QA (f:Found):I:=.Z7 [ν R 1 [f.u,f.v],Gp (f.cells.map Sy)]
abbrev Vr (F:List Found):I:=ν QA 2 F
theorem Gk (f:Found) (b:Int) (j:f.cells.length<2 ^ 62) (k:∀i,i<=f.cells.length->Xb f.cells b i<2 ^ 62) :
  Κ prog 114 [QA f,R b] (R (f.many b)):=by
 refine Ξ.body Ρ func114 rfl rfl ntmps114 rfl rfl J ?_;refine Χ ?_;refine W.iter (λi:Nat=>i<=f.cells.length) (λi=>[(1,R b),(2,.π [ν R 1 [f.u,f.v],Gp (f.cells.map Sy)]),(5,R (Xb f.cells b i)),(6,R i)]) (λ_=>[]) (λi=>f.cells.length-i) 0 (ω _) rfl (by simp[Xb]) (λi hi e=>?_);refine Χ ?_;refine W.YM rfl (λa=>?_) (λa=>?_)
 .have a:i<f.cells.length:=by simpa using a
  have d:=Pl f.cells b i
  have h:=k (i+1) a
  have c:=Yx a j;refine Ι a ?_;by_cases g:(i:Int)=b
  .refine Η (by simp[g]) ?_;refine Ι c ?_;refine W.forget _ ?_ (e (i+1) a U);rw[d,if_pos g];simp[c]
  .refine Ε (by simp[g]) ?_;have hv:Xb f.cells b i*f.cells[i].length<2 ^ 62:=by rw[d,if_neg g] at h;simpa[a] using h
   refine Ι (Υ a c) ?_;refine W.forget _ ?_ (e (i+1) a U);rw[d,if_neg g];simp only[ζ a,Option.getD_some];have:=X7 hv;simp[c] at this ⊢;simp[this]
 .have a:i=f.cells.length:=by simp at a;omega
  subst a;refine W.exit rfl ?_;refine Χ ?_;refine W.rt ?_;exact .of rfl
def S6 (s:Δ) (i:Nat):List Found:=(List.range i).filterMap (Wd s)
theorem ss (s:Δ) (i:Nat):(S6 s i).length<=i:=by
 unfold S6;exact Ya (ID _ _) J
theorem sr {s:Δ} {i:Nat} (hi:i<3) (h:0<(X4 s (Yz i)).many (-1)):S6 s (i+1)=S6 s i++[X4 s (Yz i)]:=by
 unfold S6;rw[Vp,MD];have:Wd s i=some (X4 s (Yz i)):=by unfold Wd;rw[if_pos ⟨hi,h⟩]
 simp[this]
theorem so {s:Δ} {i:Nat} (h:¬0<(X4 s (Yz i)).many (-1)):S6 s (i+1)=S6 s i:=by
 unfold S6;rw[Vp,MD];have:Wd s i=none:=by unfold Wd;rw[if_neg (λq=>h q.2)]
 simp[this]
theorem sn:∀i,i<3->N1[i]?=some [(Yz i).1,(Yz i).2]/\∀h,N1[i]'h=[(Yz i).1,(Yz i).2]:=λi hi=>by
 match i with
 | 0=>exact⟨rfl,λ_=>rfl⟩
 | 1=>exact⟨rfl,λ_=>rfl⟩
 | 2=>exact⟨rfl,λ_=>rfl⟩
theorem B5 {L:List Found}:∀e∈L.map QA,∀a∈e.cells,χ 0 a:=λe c a b=>by
 obtain⟨x,_,rfl⟩:=Zc.1 c;simp[I.cells] at b;rcases b with rfl|rfl<;>simp[YN,I.cells]
theorem B4 (s:Δ) (h:Yd s):Κ prog 113 [Zh s] (Vr (ZQ s)):=by
 have aD:=h.many;obtain⟨n,T⟩:=ψ s.cells.length;refine Ξ.body Ρ func113 rfl rfl ntmps113 rfl rfl J ?_
 repeat apply Ο
 refine WB ?_
 repeat apply Ο
 refine WB ?_;refine W.pad 147 2 (σ':=[]) rfl (λj r h=>⟨r,h,.inl rfl⟩) [(1,Z6 s),(3,.ms 0 0 0 0)] (λz f=>by
  simp only[Zf,Yk,or_false] at f;rcases f with rfl|rfl
  .exact .same _
  .exact .nil) ?_
 rw[List.nil_append];refine ZU λO g=>?_;refine Κ.d (sw) (Z1 ?_);apply g;refine Χ ?_;refine W.iter (λi:Nat=>i<=3) (λi=>[(1,Z6 s),(3,.ms 0 (S6 s i).length 0 (S6 s i).length),(4,ZT N1),(5,R i)])
  (λi=>[.cells 147 2 ((S6 s i).map QA)]) (λi=>3-i) 0 Z3 rfl (by simp[S6]) (λi hi o=>?_)
 have ak:=ss s i;by_cases F:i<3
 .obtain⟨H,K⟩:=sn i F;have al:=sD i F;have L:=so (s:=s) (i:=i);have M:=sr (s:=s) F;have o:=o (i+1) F U;have P:=XI (i:=i) U;obtain⟨p,am⟩:=ψ (Yz i);rw[<-am] at H K al L M;have V:=Gk (X4 s p) (-1) (by simp[X4];omega) (λk an=>by have:=Lo h p (-1) (i:=k) (by simpa[X4] using an);omega);have ao:(X4 s p).cells.map Sy=(List.range n).map λc=>Sy (Vy s p c):=by rw[T];simp[X4]
  obtain⟨D,aa⟩:=ψ N1;have E:D.length=3:=by rw[aa];rfl
  obtain⟨b,ap⟩:=ψ (S6 s i);rw[<-aa] at H K o ⊢;rw[<-ap] at ak L M ⊢;have ab:(i:Int)<3:=U;refine Ι (Υ E ab) ?_;refine Ε J ?_
  repeat apply Ο
  refine W.Xk (A:=[6]) Ρ [(1,Z6 s),(3,.ms 0 b.length 0 b.length),(4,ZT D),(5,R i),(6,.Ν 1 1 0 0)] [.cells 147 2 (b.map QA),.cells 147 2 [.Z7 [ν R 1 [p.1,p.2],.sl true 0 []]]] ?_ (by
   (try simp);(repeat (rw[Μ];simp[H,K,E]));(try simp[H,K,E]);omega)
  have aq:N2 2 (.cells 147 2 [.Z7 [ν R 1 [p.1,p.2],.sl true 0 []]]) (.cells 147 2 [.Z7 [ν R 1 [p.1,p.2],.ms 2 0 0 0]]):=by
   refine .inr ⟨147,2,_,_,rfl,rfl,rfl,λi e aE m B=>?_⟩
   match i with
   | 0=>
    simp at m B;subst m;subst B;refine⟨rfl,λx a ar N Q=>?_⟩
    match x with
    | 0=>simp[I.cells] at N Q;subst N;subst Q;exact .same _
    | 1=>simp[I.cells] at N Q;subst N;subst Q;exact .nil
    | x+2=>simp[I.cells] at N
   | i+1=>simp at m
  refine W.B7 23 1 (i:=1) rfl aq [(1,Z6 s),(3,.ms 0 b.length 0 b.length),(4,ZT D),(5,R i),(6,.Ν 1 1 0 0)] (λz f=>by
   simp only[Zf,Yk,or_false] at f;rcases f with rfl|rfl|rfl|rfl|rfl<;>exact .same _) ?_
  refine Χ ?_;refine W.iter (λc:Nat=>c<=n) (λc=>[(1,Z6 s),(3,.ms 0 b.length 0 b.length),(4,ZT D),(5,R i),(6,.Ν 1 1 0 0),(7,R c)])
   (λc=>[.cells 147 2 (b.map QA),.cells 147 2 [.Z7 [ν R 1 [p.1,p.2],.ms 2 c 0 c]],.cells 23 1 ((List.range c).map λc=>ZT (Sy (Vy s p c)))]) (λc=>n-c) 0 (ω _) J J (λc aF C=>?_)
  by_cases aG:c<n
  .have au:c<s.cells.length:=U
   have ad:=su s h p c au
   have X:(c:Int)<(n:Int):=U
   have ae:=XI (i:=c) U
   have C:=C (c+1) U U;rw[Vp,XR] at C;obtain⟨af,ag⟩:=ψ ((List.range c).map λc=>ZT (Sy (Vy s p c)));have av:af.length=c:=by rw[ag];simp
   have aw:c<=4294967295:=U;rw[<-ag] at C ⊢;obtain⟨ax,ah⟩:=ψ (Sy (Vy s p c));simp only[X3,T1,<-ah] at C;rw[<-ah] at ad;(repeat (first|apply Ο|(refine YX λO g=>?_;simp;(repeat (rw[Μ];simp[T.symm,X]));apply g)));refine Ε J ?_
   repeat apply Ο
   refine W.Uv (A:=[37]) Ρ mixed [(1,Z6 s),(3,.ms 0 b.length 0 b.length),(4,ZT D),(5,R i),(6,.Ν 1 1 0 0),(7,R c)] [.cells 147 2 (b.map QA),.cells 147 2 [.Z7 [ν R 1 [p.1,p.2],.ms 2 (c+1) 0 (c+1)]],.cells 23 1 (af++[ZT ax])] ?_ (by
    simp;(repeat (rw[ZL];simp[H,K,E,F,ab]));(try rw[ZM]);refine YD (Κ.p ad (ZO.refl _) J J) ?_;simp;(repeat (rw[ZL];simp[av,aw]));(try rw[ZM]);refine⟨Yw (by kernel_rfl),?_⟩;simp)
   refine Ι ae ?_;exact W.to C rfl (by simp[ae])
  have X:¬(c:Int)<(n:Int):=U;obtain rfl:c=n:=U;clear C;(repeat (first|apply Ο|(refine YX λO g=>?_;simp;(repeat (rw[Μ];simp[T.symm,X]));apply g)));refine Η J ?_;refine W.exit rfl ?_;refine W.cut 1 (ω _) [(1,Z6 s),(3,.ms 0 b.length 0 b.length),(4,ZT D),(5,R i),(6,.π [ν R 1 [(X4 s p).u,(X4 s p).v],Gp ((X4 s p).cells.map Sy)])] J (λid r aH ai=>by
   obtain rfl:id=0:=U;simp at ai;subst ai;exact λe Y a S=>χ.mono (B5 e Y a S) (ω _)) (λz f=>by
   simp only[Zf,Yk,or_false] at f;rcases f with rfl|rfl|rfl|rfl|rfl
   .exact .low (by simp[I.cells,YN])
   .exact .low (by simp[TS])
   .exact .low (by simp[YN,I.cells])
   .exact .low J
   .refine Yr.struct (id:=1) (t:=147) (k:=2) (l:=[ν R 1 [p.1,p.2],.ms 2 c 0 c]) U rfl rfl (λy a ar m B=>?_)
    match y with
    | 0=>simp at m B;subst m;subst B;exact .low (by simp[I.cells,YN])
    | 1=>
     simp at m B;subst m;subst B;rw[ao];exact .own (t:=23) U (by rw[Qt];rfl) J (λe Y a S=>by
      obtain⟨x,_,rfl⟩:=Zc.1 Y;simp[I.cells] at S;subst S;simp[YN,I.cells])
    | y+2=>simp at m) ?_
  rw[List.take_succ_cons,List.take_zero];obtain⟨ay,az⟩:=ψ (X4 s p);rw[<-az] at V L M ⊢;obtain⟨w,aA⟩:=ψ (ay.many (-1));rw[<-aA] at V L M;refine ZU λO g=>?_;refine Κ.d (V) (Z1 ?_);apply g;by_cases aj:0<w
  .have Z:=M aj;rw[Z] at o;refine Ε (by simp;omega) ?_;have aB:(b.map QA).length=b.length:=J;have aC:b.length<=4294967295:=U
   repeat apply Ο
   refine Y4 (A:=[45]) Ρ λO g=>XC (Υ aB aC) ?_;apply g;refine Ι P ?_;refine W.to o ?_ (by simp[P]);simp
  .have Z:=L aj;rw[Z] at o;refine Η (by simp;omega) ?_;refine Ι P ?_;exact W.to o rfl (by simp[P])
 obtain rfl:i=3:=U;clear o;have E:N1.length=3:=rfl;refine Ι E ?_;refine Η J ?_;refine W.exit rfl ?_;refine W.cut 0 (ω _) [(3,.sl false 2 ((S6 s 3).map QA))] (ω _) (λid r h=>absurd h (Rf _)) (λz f=>by
  simp only[Zf,Yk,or_false] at f;subst f;exact .own (t:=147) (ω _) rfl J B5) ?_
 rw[List.take_zero];refine Χ ?_;refine W.rt ?_;exact .refl _
def R0 (F:List Found) (right:Bool):List Found×Int:=if right=false then([],3) else if F=[] then([],9) else(F,0)
theorem B3 (s:Δ) (h:Yd s) (right:Bool):Κ prog 80 [Zh s,ε right] (.ZX [Vr (R0 (ZQ s) right).1,R (R0 (ZQ s) right).2]):=by
 refine Ξ.body Ρ func80 rfl rfl ntmps80 rfl rfl J ?_;refine Χ ?_;cases right
 .refine Ε J ?_;refine Χ ?_;refine W.rt ?_;exact .ZX (.cons .nil (.cons (.refl _) .nil))
 refine Η J ?_;have g:=N5 s;have c:=B4 s h;generalize ZQ s=F at *;refine ZU λi f=>?_;refine Κ.d (c) (Z1 ?_);apply f;by_cases a:F=[]
 .subst a;refine Χ ?_;refine Ε J ?_;refine Χ ?_;refine W.rt ?_;exact .ZX (.cons .nil (.cons (.refl _) .nil))
 .have b:¬F.length=0:=λe=>a (YR.1 e)
  have e:R0 F true=(F,0):=by unfold R0;rw[if_neg J,if_neg a]
  rw[e];refine Ι b ?_;refine Η (by simp[b,a]) ?_;refine Χ ?_;refine W.rt ?_;exact .refl _
theorem sm (s:Δ) (e:s.small) (a:Int):Κ prog 86 [Zh s,R a] (ε (decide (0<=a)&&decide (a<s.cells.length))):=by
 have g:=e.2.2.1
 have b:IntKind.i64.wrap ((s.cells.length:Int)-1)=(s.cells.length:Int)-1:=IntWalk.i64_in _ U
 have c:=MP a 0 ((s.cells.length:Int)-1);rw[show decide (a<=(s.cells.length:Int)-1)=decide (a<s.cells.length) by rw[decide_eq_decide];omega] at c;refine Ξ.body Ρ func86 rfl rfl ntmps86 rfl rfl J ?_;refine Χ ?_;refine XM b λh f=>?_;refine Κ.d (c) (XC b ?_);apply f;refine W.rt ?_;exact .refl _
theorem sk (lower:Bool):Κ prog 89 [ε lower] (R (if lower then 1 else 0)):=by
 refine Ξ.body Ρ func89 rfl rfl ntmps89 rfl rfl J ?_;refine Χ ?_;cases lower
 .refine Η rfl ?_;refine Χ ?_;refine W.rt ?_;exact .of rfl
 .refine Ε rfl ?_;refine Χ ?_;refine W.rt ?_;exact .of rfl
section
variable {P:Program} {T:ZZ} {A:List Nat} {m nt:Nat} {k:List Item} {env:Ζ} {σ:Τ} {Z:X9} {E:Yn}
theorem W.B2 (a:ZE P T) (env':Ζ) (σ':Τ) {ops:Array Oper} {l:List Nat} (h:W P m nt k env' σ' Z E) (b:run P T A nt ops l env σ (λe s=>W P m nt k env' σ' Z E->W P m nt k e s Z E) E):W P m nt (.inRegion ops l::k) env σ Z E:=by
 have:=HU (m:=m) (k:=k) (Z:=Z) a [] l env σ (JY (λe s f=>W.ZH (f h)) _ _ _ b);simpa using this
end
def Vd (l:List Y9):I:=Xf 3 (l.map Zr)
def ZY (done:List (List Y9)) (nc:Nat):ξ:=done.map Vd++List.replicate (nc-done.length) Z8
theorem B1 (nc:Nat):ZY [] nc=List.replicate nc Z8:=by simp[ZY]
theorem S5 {done:List (List Y9)} {nc:Nat} (h:done.length<=nc):(ZY done nc).length=nc:=by simp[ZY];omega
theorem B0 {done:List (List Y9)}:ZY done done.length=done.map Vd:=by simp[ZY]
theorem BZ {done:List (List Y9)} {nc:Nat} (h:done.length<nc):(ZY done nc)[done.length]?=some Z8:=by
 unfold ZY;rw[XG J,Yh,PB,ME,if_pos U]
theorem BY {done:List (List Y9)} {nc:Nat} (h:done.length<nc) (a:List Y9):(ZY done nc).set done.length (Vd a)=ZY (done++[a]) nc:=by
 unfold ZY;obtain⟨r,b⟩:∃r,nc-done.length=r+1:=⟨nc-done.length-1,U⟩;have e:nc-(done++[a]).length=r:=by simp;omega
 rw[b,e,List.replicate_succ,PF _ _ J,Yh,PB,List.set_cons_zero,XR,Ur];rfl
theorem Gj (l:List Y9):χ 0 (Vd l):=by
 unfold Vd Xf;split
 .simp
 .refine YN.2 λe c a b=>?_;obtain⟨x,_,rfl⟩:=Zc.1 c;simp[I.cells] at b;rcases b with rfl|rfl|rfl<;>exact .z _
theorem Gi (l:List Y9):(Vd l).cells=[Vd l]:=by
 unfold Vd Xf;split<;>rfl
theorem MH {done:List (List Y9)} {nc:Nat}:∀e∈ZY done nc,e.cells=[e]/\χ 0 e:=λe he=>by
 unfold ZY at he;rcases VG.1 he with he|he
 .obtain⟨x,_,rfl⟩:=Zc.1 he;exact⟨Gi x,Gj x⟩
 .have:=IF he;subst this;exact⟨rfl,J⟩
structure sj where
 d:Zo
 done:List (List Y9)
structure BX where
 k:Nat
 d:Zo
 Qz:List Y9
theorem si (d:Zo) (hd:d.Z9.length<2 ^ 63) (aC ab:Nat) (bH:1<=aC) (bI:aC<=6) (bJ:ab<=4) :
  Rk 37 [R aC,R ab] d (λr=>∃s,r=Zh s/\Yd s/\s.cells.length<=ab/\s.Β.length<=3):=by
 unfold Rk;refine Ξ.body Ρ func37 rfl rfl ntmps37 rfl rfl J ?_
 repeat apply Ο
 refine Y4 (A:=[6]) Ρ λaD X=>Z1 ?_;apply X
 repeat apply Ο
 refine W.Zm ?_;refine W.part (A:=[7]) Ρ [0,1,2,3] [4,5] rfl λaD X=>?_;(try simp);(repeat (rw[Μ];simp));refine Ch d hd aC ab bH bI bJ rfl ?_;intro G L nc d1 bK a5 ⟨cn,cp,bL⟩ bM;simp only[List.length_cons,List.length_nil,Nat.reduceAdd,List.set_cons_zero,List.cons_append,List.nil_append];obtain⟨ad,aH⟩:=ψ (Zg 5 (List.replicate nc Z8));have ak:(nc=0/\ad=Z8)\/(0<nc/\ad=.ms 5 nc 0 nc):=by
  by_cases F:nc=0
  .subst F;exact .inl ⟨rfl,aH⟩
  .exact .inr ⟨U,by rw[aH,Xq (by simp[F]),PG]⟩
 have al:∀done:List (List Y9),done.length<=nc->(nc=0/\ZR 60 1 (ZY done nc)=[])\/(0<nc/\ZR 60 1 (ZY done nc)=[.cells 60 1 (ZY done nc)]):=λdone am=>by
  by_cases F:nc=0
  .subst F;have:=YR.1 (S5 am);exact .inl ⟨rfl,by rw[this];rfl⟩
  .exact .inr ⟨U,Yq (λh=>by have:=S5 am;rw[h] at this;simp at this;omega)⟩
 rw[<-aH,<-B1];rw[Pr,Si];apply X;clear X aD;have ae:χ ([ZK d1,YV Z8 Z8 Z8,.dead,.dead,.dead]++ZR 60 1 (ZY [] nc)).length ad:=by
  rcases ak with⟨_,e⟩|⟨Y,e⟩
  .rw[e];simp
  .rcases al [] (ω _) with⟨S,_⟩|⟨_,Φ⟩
   .omega
   .rw[e,Φ];exact TS.2 J
 refine W.B2 (A:=[7]) Ρ [(0,.Ν 0 1 0 0),(6,.Ν 1 1 0 0),(7,.π [ZI G,ZT L,ad])] ([ZK d1,YV Z8 Z8 Z8,.dead,.dead,.dead]++ZR 60 1 (ZY [] nc)) ?_ (by
  have aE:∀h,∀r∈[ZK d1,YV Z8 Z8 Z8,.dead,.dead,.dead]++ZR 60 1 (ZY [] nc),XZ h r:=λh r b=>by
   rcases VG.1 b with b|b
   .simp only[Zf,Yk,or_false] at b;rcases b with rfl|rfl|rfl|rfl|rfl
    .exact S7 d1 h
    .intro e u a f;simp[I.cells] at u;subst u;simp[I.cells] at f;subst f;simp
    .trivial
    .trivial
    .trivial
   .exact Ni (λe u a f=>by obtain⟨w,o⟩:=MH e u;rw[w] at f;simp at f;subst f;exact o) r b
  rcases ak with⟨Y,e⟩|⟨Y,e⟩<;>rcases al [] (ω _) with⟨S,Φ⟩|⟨S,Φ⟩
  .rw[Φ] at aE ae;rw[e] at ae;rw[e,Φ];(try simp);(repeat (rw[Μ];simp));(try simp);intro aI;exact W.UC (σ0:=[ZK d1,YV Z8 Z8 Z8,.dead,.dead,.dead]) J (aE _) (λa f=>by
    simp[I.cells] at f;rcases f with rfl|rfl|rfl
    .exact(YN.2 Tx:χ 0 _).mono (ω _)
    .exact(YN.2 R1:χ 0 _).mono (ω _)
    .exact ae) [(0,.Ν 0 1 0 0),(6,.Ν 1 1 0 0),(7,.π [ZI G,ZT L,Z8])] (by simp[Ww,I.cells]) aI
  .omega
  .omega
  .rw[Φ] at aE ae;rw[e] at ae;rw[e,Φ];have Z:(ZY [] nc).length=nc:=S5 (ω _);(try simp);(repeat (rw[Μ];simp[Z]));(try simp[Z]);intro aI;exact W.UC (σ0:=[ZK d1,YV Z8 Z8 Z8,.dead,.dead,.dead,.cells 60 1 (ZY [] nc)]) J (aE _) (λa f=>by
    simp[I.cells] at f;rcases f with rfl|rfl|rfl
    .exact(YN.2 Tx:χ 0 _).mono (ω _)
    .exact(YN.2 R1:χ 0 _).mono (ω _)
    .exact ae) [(0,.Ν 0 1 0 0),(6,.Ν 1 1 0 0),(7,.π [ZI G,ZT L,.ms 5 nc 0 nc])] (by simp[Ww,I.cells]) aI)
 obtain⟨C,aF⟩:=ψ L.length;have bN:=a5.lo;rw[<-aF] at bN bL;have cq:(L.map (ν R 1)).length=C:=by rw[Yh,aF]
 refine Χ ?_;refine W.iter (λx:sj=>x.done.length<=nc/\x.d.Z9.length<=d.Z9.length/\∀c∈x.done,QB C c)
  (λx=>[(0,.Ν 0 1 0 0),(6,.Ν 1 1 0 0),(7,.π [ZI G,ZT L,ad]),(8,R x.done.length)])
  (λx=>[ZK x.d,YV Z8 Z8 Z8,.dead,.dead,.dead]++ZR 60 1 (ZY x.done nc)) (λx=>nc-x.done.length) ⟨d1,[]⟩ ⟨J,bM,J⟩ rfl J (λx K aJ=>?_)
 obtain⟨M,done⟩:=x;obtain⟨am,aK,aL⟩:=K;simp only at am aK aL aJ ⊢;obtain⟨c,an⟩:=ψ done.length;rw[<-an] at am aJ;rw[<-an]
 repeat apply Ο
 refine W.Xk (A:=[]) Ρ [(20,ε (decide (c<nc))),(0,.Ν 0 1 0 0),(6,.Ν 1 1 0 0),(7,.π [ZI G,ZT L,ad]),(8,R c)] ([ZK M,YV Z8 Z8 Z8,.dead,.dead,.dead]++ZR 60 1 (ZY done nc)) ?_ (by
  have Z:(ZY done nc).length=nc:=S5 U;rcases ak with⟨Y,e⟩|⟨Y,e⟩<;>rcases al done U with⟨S,Φ⟩|⟨S,Φ⟩
  .rw[e,Φ,S];(try simp);(repeat (rw[Μ];simp));(try simp)
  .omega
  .omega
  .rw[e,Φ];(try simp);(repeat (rw[Μ];simp[Z]));(try simp[Z]))
 refine W.YM rfl (λaf=>?_) (λaf=>?_)
 .have af:c<nc:=by simpa using af
  rcases ak with⟨Y,_⟩|⟨Y,e⟩
  .omega
  rcases al done U with⟨S,_⟩|⟨S,Φ⟩
  .omega
  obtain⟨O,ao⟩:=ψ (ZY done nc);have a6:O.length=nc:=by rw[ao];exact S5 U
  have a7:O[c]?=some Z8:=by rw[ao,an];exact BZ U
  have bO:∀m,O.set c (Vd m)=ZY (done++[m]) nc:=λm=>by rw[ao,an];exact BY U m
  have a8:∀e∈O,e.cells=[e]/\χ 0 e:=by rw[ao];exact MH
  have aG:O.set c Z8=O:=by
   apply RU;intro i;rw[List.getElem?_set];split
   .rename_i e;subst e;split
    .exact a7.symm
    .rename_i h;exact(h U).elim
   .rfl
  have a9:L.length=C:=aF.symm;rw[e,Φ,<-ao];simp only[List.cons_append,List.nil_append];have aM:=GJ M U C U;have aN:=IX M C;have a':∀x∈(W8 M C).1,0<=x/\x<C:=λx h=>GF h;have ba:=GD M C;have bP:=IY M C;obtain⟨H,bQ⟩:=Zt ((W8 M C).1);obtain⟨ap,bR⟩:=Zt ((W8 M C).2);rw[bQ] at aM aN a' ba;rw[bR] at aM bP;refine XM a9 λaD X=>?_;refine YT.g (aM) (Z1 ?_);apply X;have bb:=Ty ap U C;obtain⟨t0,t1⟩:=S8 ap C U U;obtain⟨T,aq⟩:∃k:Nat,Xj ap C=k:=⟨(Xj ap C).toNat,U⟩;obtain⟨bc,bd⟩:=Zt (ap.after C);have bS:bc.Z9.length<=d.Z9.length:=by rw[<-bd];exact Ya (Ws _ _) U
  rw[aq,bd] at bb;rw[aq] at t1;refine XM a9 λaD X=>?_;refine YT.g (bb) (Z1 ?_);apply X
  repeat apply Ο
  refine W.iter (λx:BX=>x.Qz.length+x.k=T/\x.d.Z9.length<=d.Z9.length/\x.Qz.map (·.Zd)=((H.take T).drop x.k).reverse/\∀p∈x.Qz,(0<=p.seen/\p.seen<=63)/\(0<=p.bare/\p.bare<=63)/\U3 p.seen p.bare=0)
   (λx=>[(0,.Ν 0 1 0 0),(6,.Ν 1 1 0 0),(7,.π [ZI G,ZT L,.ms 5 nc 0 nc]),(8,R c),(9,ν R 1 H),(10,R x.k)])
   (λx=>ZK x.d::YV Z8 Z8 Z8::.dead::.dead::.dead::.cells 60 1 (O.set c (Zg 6 (x.Qz.map Zr)))::ZR 28 3 (x.Qz.map Zr)) (λx=>x.k) ⟨T,bc,[]⟩
   ⟨J,bS,J,J⟩ (by simp only[T1];rw[show Zg 6 []=Z8 from rfl,aG];rfl) J (λx K be=>?_)
  obtain⟨k,E,m⟩:=x;obtain⟨bT,aO,ar,aP⟩:=K;simp only at bT aO ar aP be ⊢;refine Χ ?_;refine W.YM rfl (λaQ=>?_) (λaQ=>?_)
  .have aq:0<k:=by simpa using aQ
   obtain⟨j,bU⟩:∃j,k=j+1:=⟨k-1,U⟩;have V:IntKind.i64.wrap ((k:Int)-1)=j:=by rw[IntWalk.i64_in _ U];omega
   have bV:j<H.length:=U
   have aR:H[j]?=some H[j]:=ζ bV;obtain⟨ag,aS⟩:=ψ (H[j]);rw[<-aS] at aR;have bf:∀h,H[j]'h=ag:=λh=>aS.symm;have aT:=Ty E U 63;obtain⟨bg,bh⟩:=S8 E 63 Z3 Z3;obtain⟨bW,bi⟩:=Zt (Xj E 63);obtain⟨au,bj⟩:=Zt (E.after 63);have bX:au.Z9.length<=d.Z9.length:=by rw[<-bj];exact Ya (Ws _ _) aO
   rw[bi,bj] at aT;rw[bi] at bg bh;have aU:=Ty au U 63;obtain⟨bk,bl⟩:=S8 au 63 Z3 Z3;obtain⟨bY,bm⟩:=Zt (Xj au 63);obtain⟨av,bn⟩:=Zt (au.after 63);have bZ:av.Z9.length<=d.Z9.length:=by rw[<-bn];exact Ya (Ws _ _) bX
   rw[bm,bn] at aU;rw[bm] at bk bl;obtain⟨⟨b0,aV⟩,_,_⟩:=MM ⟨bg,bh⟩ ⟨bk,bl⟩;obtain⟨aw,aW⟩:=Zt (X8 .i64 bW bY);rw[aW] at b0 aV;have aX:=GM av U [0,0,aw] J J;obtain⟨aa,bo⟩:=Zt (([0,0,aw]:List Int).getD (Rl av [0,0,aw]) 0);have bp:0<=aa/\aa<=63:=by
    rw[<-bo]
    match Rl av [0,0,aw] with
    | 0=>simp
    | 1=>simp
    | 2=>simp;omega
    | n+3=>simp
   obtain⟨ah,bq⟩:=Zt (av.after ((([0,0,aw]:List Int).length:Int)-1));have b1:ah.Z9.length<=d.Z9.length:=by rw[<-bq];exact Ya (Ws _ _) bZ
   rw[bo,bq] at aX;obtain⟨Q,D⟩:=ψ (YV Z8 Z8 Z8::.dead::.dead::.dead::.cells 60 1 (O.set c (Zg 6 (m.map Zr)))::ZR 28 3 (m.map Zr):Τ);have ax:(Zg 6 (m.map Zr)=Z8/\ZR 28 3 (m.map Zr)=[]/\m=[])\/(Zg 6 (m.map Zr)=.ms 6 m.length 0 m.length/\ZR 28 3 (m.map Zr)=[.cells 28 3 (m.map Zr)]/\0<m.length):=by
    by_cases F:m=[]
    .subst F;exact .inl ⟨rfl,rfl,rfl⟩
    .have ay:m.map Zr≠[]:=by simpa using F
     exact .inr ⟨by rw[Xq ay,Yh],Yq ay,Qy.2 F⟩
   rw[<-D]
   repeat apply Ο
   refine W.I0 (A:=[11]) Ρ mixed [(0,.Ν 0 1 0 0),(6,.Ν 1 1 0 0),(7,.π [ZI G,ZT L,.ms 5 nc 0 nc]),(8,R c),(9,ν R 1 H),(10,R k),(11,.Ν (Q.length+1) 1 0 0)] (ZK ah::Q++[.cells 28 3 [.Z7 [R ag,R aa,R 0]]]) ?_ (by
    rcases ax with⟨f1,f2,f3⟩|⟨f1,f2,f3⟩
    .rw[f1,f2] at D;rw[D];simp;(repeat (rw[UU];simp[V,aR,bf,aN]));(try rw[UW]);refine⟨U,?_⟩;refine YT.h (aT) (QC ?_);refine YT.h (aU) (IZ aW ?_);refine YT.e aX (.cons .ex .nil) J J ?_;simp;(repeat (rw[UU];simp));(try rw[UW]);refine⟨Yw (by kernel_rfl),Yw (by kernel_rfl),?_⟩;simp
    .rw[f1,f2] at D;rw[D];simp;(repeat (rw[UU];simp[V,aR,bf,aN]));(try rw[UW]);refine⟨U,?_⟩;refine YT.h (aT) (QC ?_);refine YT.h (aU) (IZ aW ?_);refine YT.e aX (.cons .ex .nil) J J ?_;simp;(repeat (rw[UU];simp));(try rw[UW]);refine⟨Yw (by kernel_rfl),Yw (by kernel_rfl),?_⟩;simp)
   have aY:=Ty ah U 63;obtain⟨br,bs⟩:=S8 ah 63 Z3 Z3;obtain⟨b2,bt⟩:=Zt (Xj ah 63);obtain⟨az,bu⟩:=Zt (ah.after 63);have b3:az.Z9.length<=d.Z9.length:=by rw[<-bu];exact Ya (Ws _ _) b1
   rw[bt,bu] at aY;rw[bt] at br bs;have aZ:=Ty az U 63;obtain⟨d0,bv⟩:=S8 az 63 Z3 Z3;obtain⟨b4,bw⟩:=Zt (Xj az 63);obtain⟨P,bx⟩:=Zt (az.after 63);have b5:P.Z9.length<=d.Z9.length:=by rw[<-bx];exact Ya (Ws _ _) b3
   rw[bw,bx] at aZ;rw[bw] at d0 bv;obtain⟨bz,_,_⟩:=MM ⟨br,bs⟩ ⟨d0,bv⟩;obtain⟨b6,a0⟩:=Zt (X8 .i64 b2 b4);rw[a0] at bz;obtain⟨_,bA,F⟩:=MM bz bp;obtain⟨a1,a2⟩:=Zt (UM .i64 b6 aa);rw[a2] at bA F
   repeat apply Ο
   refine W.I0 (A:=[]) Ρ mixed [(11,.Ν (Q.length+1) 1 0 0),(0,.Ν 0 1 0 0),(6,.Ν 1 1 0 0),(7,.π [ZI G,ZT L,.ms 5 nc 0 nc]),(8,R c),(9,ν R 1 H),(10,R k)] ((ZK P::Q)++[.cells 28 3 [.Z7 [R ag,R aa,R a1]]]) ?_ (by
    rcases ax with⟨f1,f2,f3⟩|⟨f1,f2,f3⟩
    .rw[f1,f2] at D;rw[D];simp;(repeat (rw[UU];simp));(try rw[UW]);refine YT.h (aY) (QC ?_);refine YT.h (aZ) (IZ (Υ a0 a2) ?_);refine⟨Yw (by kernel_rfl),Yw (by kernel_rfl),?_⟩;simp
    .rw[f1,f2] at D;rw[D];simp;(repeat (rw[UU];simp));(try rw[UW]);refine YT.h (aY) (QC ?_);refine YT.h (aZ) (IZ (Υ a0 a2) ?_);refine⟨Yw (by kernel_rfl),Yw (by kernel_rfl),?_⟩;simp)
   have b7:∀r∈ZK P::Q,XZ (ZK P::Q).length r:=λr b=>by
    rcases Zf.1 b with rfl|b
    .exact S7 P _
    have bB:0<m.length->6<(ZK P::Q).length:=λh=>by
     rcases ax with⟨_,_,f3⟩|⟨_,f2,_⟩
     .rw[f3] at h;simp at h
     .rw[D,f2];simp
    generalize (ZK P::Q).length=N at bB;rw[D] at b;simp only[Zf] at b;rcases b with rfl|rfl|rfl|rfl|rfl|b
    .intro e u a f;simp[I.cells] at u;subst u;simp[I.cells] at f;subst f;simp
    .trivial
    .trivial
    .trivial
    .intro e u a f;rcases Lg u with u|rfl
     .obtain⟨w,o⟩:=a8 e u;rw[w] at f;simp at f;subst f;exact o.mono (ω _)
     .rcases ax with⟨f1,_,_⟩|⟨f1,_,f3⟩
      .rw[f1] at f;simp[I.cells] at f;subst f;simp
      .rw[f1] at f;simp[I.cells] at f;subst f;exact TS.2 (bB f3)
    .refine Ni (λe u a f=>?_) r b;obtain⟨x,_,rfl⟩:=Zc.1 u;simp[I.cells] at f;rcases f with rfl|rfl|rfl<;>exact .z _
   have cr:6<=(ZK P::Q).length:=by rw[D];simp
   refine W.UC (σ0:=ZK P::Q) J b7 (λa f=>by simp[I.cells] at f;rcases f with rfl|rfl|rfl<;>exact .z _) [(11,.π [R ag,R aa,R a1]),(0,.Ν 0 1 0 0),(6,.Ν 1 1 0 0),(7,.π [ZI G,ZT L,.ms 5 nc 0 nc]),(8,R c),(9,ν R 1 H),(10,R k)] (λp B=>by
    simp only[Zf,Yk,or_false] at B;rcases B with rfl|rfl|rfl|rfl|rfl|rfl|rfl
    .exact .inr ⟨rfl,rfl⟩
    .exact .inl ⟨rfl,Ww.2 U⟩
    .exact .inl ⟨rfl,Ww.2 U⟩
    .refine .inl ⟨rfl,JV.2 λa f=>?_⟩;simp only[Zf,Yk,or_false] at f;rcases f with rfl|rfl|rfl
     .exact(YN.2 Tx:χ 0 _).mono (ω _)
     .exact(YN.2 R1:χ 0 _).mono (ω _)
     .exact TS.2 U
    .exact .inl ⟨rfl,.z _⟩
    .exact .inl ⟨rfl,(YN.2 (λe u a f=>by obtain⟨x,_,rfl⟩:=Zc.1 u;simp[I.cells] at f;subst f;exact .z _):χ 0 _).mono (ω _)⟩
    .exact .inl ⟨rfl,.z _⟩) ?_
   obtain⟨ai,a3⟩:=ψ (⟨ag,aa,a1⟩:Y9);have bC:(m++[ai]).map Zr≠[]:=J
   repeat apply Ο
   refine W.Uv (A:=[70]) Ρ mixed [(0,.Ν 0 1 0 0),(6,.Ν 1 1 0 0),(7,.π [ZI G,ZT L,.ms 5 nc 0 nc]),(8,R c),(9,ν R 1 H),(10,R k)] (ZK P::YV Z8 Z8 Z8::.dead::.dead::.dead::.cells 60 1 (O.set c (Zg 6 ((m++[ai]).map Zr)))::ZR 28 3 ((m++[ai]).map Zr)) ?_ (by
    rw[Xq bC,Yq bC,Yh,VU,XR,X3,T1,a3];rcases ax with⟨f1,f2,f3⟩|⟨f1,f2,f3⟩
    .rw[f1,f2] at D;rw[D,aG,f3];simp;(repeat (rw[ZL];simp[a6,a7]));(try rw[ZM]);refine⟨U,?_⟩;refine⟨Yw (by kernel_rfl),?_⟩;simp
    .rw[f1,f2] at D;rw[D];have b8:∀v,(O.set c v)[c]?=some v:=λv=>by rw[Wo U]
     have b9:∀v h,(O.set c v)[c]'h=v:=λv h=>List.getElem_set_self h;simp;(repeat (rw[ZL];simp[a6,b8,b9]));(try rw[ZM]);refine⟨U,U,U,?_⟩;refine⟨Yw (by kernel_rfl),?_⟩;simp)
   refine Ι V ?_;have b':(H.take T).drop j=ag::(H.take T).drop k:=by
    have ca:j<(H.take T).length:=by rw[Tq];omega
    rw[PH ca,bU,List.getElem_take,aS]
   refine W.to (be ⟨j,P,m++[ai]⟩ ⟨by show(m++[ai]).length+j=T;rw[VU];simp;omega,b5,?_,λp B=>?_⟩ (by show j<k;omega)) J (by simp[V])
   .show(m++[ai]).map (·.Zd)=((H.take T).drop j).reverse;rw[b',XR,ar,List.reverse_cons,a3];rfl
   .rcases VG.1 B with B|B
    .exact aP p B
    .simp at B;subst B;subst a3;exact⟨bp,bA,F⟩
  .have aq:k=0:=by simp at aQ;omega
   subst aq;have cs:m.length=T:=U;rw[List.drop_zero] at ar;have cb:QB C m:=by
    refine⟨U,?_,λp B=>?_⟩
    .rw[ar];unfold List.Nodup;rw[List.pairwise_reverse];exact(ba.sublist (List.take_sublist _ _)).imp YZ
    .have bD:p.Zd∈m.map (·.Zd):=Zc.2 ⟨p,B,rfl⟩;rw[ar,List.mem_reverse] at bD;have:=a' _ (NV bD);obtain⟨cc,cd,ce⟩:=aP p B;exact⟨this,cc,cd,ce⟩
   have V:IntKind.i64.wrap ((c:Int)+1)=((c+1:Nat):Int):=by rw[IntWalk.i64_in _ U];omega
   have cf:(done++[m]).length=c+1:=by simp;omega
   have aj:=aJ ⟨E,done++[m]⟩ ⟨by show(done++[m]).length<=nc;omega,aO,λx K=>by
    rcases VG.1 K with K|K
    .exact aL x K
    .simp at K;subst K;exact cb⟩ (by show nc-(done++[m]).length<nc-c;omega)
   have cg:ZY (done++[m]) nc≠[]:=λh=>by
    have:=S5 (done:=done++[m]) (nc:=nc) U;rw[h] at this;simp at this;omega
   simp only[cf] at aj;rw[Yq cg,<-bO m,e] at aj;refine W.exit rfl ?_;by_cases F:m=[]
   .subst F;rw[show Vd []=Z8 from rfl,aG] at aj;rw[show Zg 6 (([]:List Y9).map Zr)=Z8 from rfl,show ZR 28 3 (([]:List Y9).map Zr)=[] from rfl,aG];refine Ι V ?_;exact W.to aj rfl (by simp[V])
   .have ay:m.map Zr≠[]:=by simpa using F
    have bE:Vd m=.sl false 3 (m.map Zr):=by unfold Vd Xf;rw[if_neg (by simpa using F)]
    rw[bE] at aj;rw[Xq ay,Yq ay];refine W.PJ (σ':=ZK E::YV Z8 Z8 Z8::.dead::.dead::.dead::.cells 60 1 (O.set c (.sl false 3 (m.map Zr)))::[.dead]) (id:=6) J rfl rfl rfl (λi r hi b=>?_) [(0,.Ν 0 1 0 0),(6,.Ν 1 1 0 0),(7,.π [ZI G,ZT L,.ms 5 nc 0 nc]),(8,R c)] (λp B=>by
     simp only[Zf,Yk,or_false] at B;rcases B with rfl|rfl|rfl|rfl<;>exact .same _) ?_
    .match i,hi,b with
     | 0,_,b=>exact⟨r,b,.inl rfl⟩
     | 1,_,b=>exact⟨r,b,.inl rfl⟩
     | 2,_,b=>exact⟨r,b,.inl rfl⟩
     | 3,_,b=>exact⟨r,b,.inl rfl⟩
     | 4,_,b=>exact⟨r,b,.inl rfl⟩
     | 5,_,b=>
      simp at b;subst b;refine⟨_,rfl,.inr ⟨60,1,_,_,rfl,rfl,J,λy e ct w o=>?_⟩⟩;by_cases bF:y=c
      .subst bF;rw[Wo U] at w o;cases w;cases o;refine⟨rfl,λx a a4 aA aB=>?_⟩
       match x with
       | 0=>simp[I.cells] at aA aB;subst aA;subst aB;have:=Rj.ms (id:=6) (k:=3) (l:=m.map Zr);rwa [Yh] at this
       | x+1=>simp[I.cells] at aA
      .rw[Vq (YZ bF)] at w o;rw[w] at o;cases o;exact⟨rfl,λx a a4 aA aB=>by rw[aA] at aB;cases aB;exact .same _⟩
     | 6,h,_=>exact absurd rfl h
     | i+7,_,b=>simp at b
    refine W.drop (h:=6) J J (λi r hi b=>?_) rfl [(0,.Ν 0 1 0 0),(6,.Ν 1 1 0 0),(7,.π [ZI G,ZT L,.ms 5 nc 0 nc]),(8,R c)] ?_ ?_
    .match i,hi,b with
     | 0,_,b=>simp at b;subst b;exact S7 E 6
     | 1,_,b=>simp at b;subst b;intro e u a f;simp[I.cells] at u;subst u;simp[I.cells] at f;subst f;simp
     | 2,_,b=>simp at b;subst b;trivial
     | 3,_,b=>simp at b;subst b;trivial
     | 4,_,b=>simp at b;subst b;trivial
     | 5,_,b=>
      simp at b;subst b;intro e u a f;rcases Lg u with u|rfl
      .obtain⟨w,o⟩:=a8 e u;rw[w] at f;simp at f;subst f;exact o.mono (ω _)
      .simp[I.cells] at f;subst f;have:=Gj m;rw[bE] at this;exact this.mono (ω _)
     | i+6,h,_=>omega
    .intro p B;simp only[Zf,Yk,or_false] at B;rcases B with rfl|rfl|rfl|rfl
     .exact⟨rfl,Ww.2 U⟩
     .exact⟨rfl,Ww.2 U⟩
     .refine⟨rfl,JV.2 λa f=>?_⟩;simp only[Zf,Yk,or_false] at f;rcases f with rfl|rfl|rfl
      .exact(YN.2 Tx:χ 0 _).mono (ω _)
      .exact(YN.2 R1:χ 0 _).mono (ω _)
      .exact TS.2 U
     .exact⟨rfl,.z _⟩
    refine Ι V ?_;exact W.to aj rfl (by simp[V])
 .have af:c=nc:=by simp at af;omega
  subst af;refine W.exit rfl ?_;have bG:Yd ⟨G,L,done⟩:=⟨bK,a5,by show done.length<=4;omega,λx K=>by show QB L.length x;rw[<-aF];exact aL x K⟩;have ci:ZY done c=done.map Vd:=by rw[an];exact B0
  have cj:Y3 (.Z7 [ZI G,ZT L,.sl false 1 (done.map Vd)]) (Zh ⟨G,L,done⟩):=by
   refine .Z7 (.cons (.refl _) (.cons (.refl _) (.cons ?_ .nil)));exact .map λx _=>.one .acc (Gi x) rfl
  rcases ak with⟨Y,e⟩|⟨Y,e⟩<;>rcases al done U with⟨S,Φ⟩|⟨S,Φ⟩
  .rw[e,Φ];refine Χ ?_;have ck:done=[]:=YR.1 U;refine W.cut 1 J [(6,.π [ZI G,ZT L,Z8])] J (λid r cl b=>?_) (λp B=>?_) ?_
   .have:id=0:=U
    subst this;simp at b;subst b;exact S7 M 1
   .simp only[Zf,Yk,or_false] at B;subst B;show Yr 1 _ (Z' _ 6) _;simp;refine .struct J (show _=some (Row.cells _ _ [.Z7 _]) from rfl) rfl λx a a4 w o=>?_
    match x with
    | 0=>simp at w o;subst w;subst o;exact .low ((YN.2 Tx:χ 0 _).mono (ω _))
    | 1=>simp at w o;subst w;subst o;exact .low ((YN.2 R1:χ 0 _).mono (ω _))
    | 2=>simp at w o;subst w;subst o;exact .low J
    | x+3=>simp at o
   .refine W.ret ⟨_,rfl,_,M,?_,⟨_,rfl,bG,⟨by show done.length<=ab;omega,by show L.length<=3;omega⟩⟩,rfl,aK⟩;rw[ck];exact .Z7 (.cons (.refl _) (.cons (.refl _) (.cons .nil .nil)))
  .omega
  .omega
  .have Z:(ZY done c).length=c:=S5 U;rw[e,Φ];refine Ι Z ?_;refine W.cut 1 J [(6,.π [ZI G,ZT L,.sl false 1 (ZY done c)])] J (λid r cl b=>?_) (λp B=>?_) ?_
   .have:id=0:=U
    subst this;simp at b;subst b;exact S7 M 1
   .simp only[Zf,Yk,or_false] at B;subst B;show Yr 1 _ (Z' _ 6) _;simp;refine .struct J (show _=some (Row.cells _ _ [.Z7 _]) from rfl) rfl λx a a4 w o=>?_
    match x with
    | 0=>simp at w o;subst w;subst o;exact .low ((YN.2 Tx:χ 0 _).mono (ω _))
    | 1=>simp at w o;subst w;subst o;exact .low ((YN.2 R1:χ 0 _).mono (ω _))
    | 2=>simp at w o;subst w;subst o;exact .own (t:=60) J rfl Z (λe u a f=>by
      obtain⟨aV,cm⟩:=MH e u;rw[aV] at f;simp at f;subst f;exact cm.mono (ω _))
    | x+3=>simp at o
   .rw[ci];exact W.ret ⟨_,rfl,_,M,cj,⟨_,rfl,bG,⟨by show done.length<=ab;omega,by show L.length<=3;omega⟩⟩,rfl,aK⟩
theorem BW (s:Δ) (g:Int) (i:g<s.ς.length) (σ:Τ) (id m:Nat) (c:ξ) (e:c.length=m) (f:σ[id]?=some (.cells 60 1 c)):Ξ prog 130 [.Z7 [ZI s.ς,ZT s.Β,.ms id m 0 m],R g] σ (λa r=>a=R (s.of g)/\r=σ) (λ_ _=>False):=by
 refine Ξ.body Ρ func130 rfl rfl ntmps130 rfl rfl J ?_;refine Ι (Υ f e) ?_;refine W.YM rfl (λb=>?_) (λb=>?_)
 .have b:g<0:=by simpa using b
  refine Χ ?_;refine W.ret ⟨_,rfl,?_,rfl⟩;show R 0=_;simp[Δ.of,b]
 .have b:¬g<0:=by simpa using b
  obtain⟨n,rfl⟩:∃n:Nat,g=n:=⟨g.toNat,U⟩;have d:n<s.ς.length:=U;refine Ι d ?_;refine W.ret ⟨_,rfl,?_,rfl⟩;show R s.ς[n].YW=_;simp[Δ.of,d];intro h;omega
theorem sh (s:Δ) (p r:Int×Int) (n:Nat) (g:n<s.Β.length) (k:∀x∈s.Β,x.length<2 ^ 62) (C:r.1<s.ς.length) (D:r.2<s.ς.length) (σ:Τ) (id m:Nat) (o:ξ) (d:o.length=m) (e:σ[id]?=some (.cells 60 1 o)) :
  Ξ prog 91 [.Z7 [ZI s.ς,ZT s.Β,.ms id m 0 m],ν R 1 [p.1,p.2],ν R 1 [r.1,r.2],R n] σ (λa E=>a=R (s.Y1 p r n)/\E=σ) (λ_ _=>False):=by
 have i:=ζ g
 have t:=k _ (Y7 g);obtain⟨l,k⟩:=ψ (s.Β[n]);rw[<-k] at i t;have v:∀h,s.Β[n]'h=l:=λh=>k.symm;have hv:s.Y1 p r n=if l.contains p.2 then UJ (if l.contains p.1 then UJ 0 (s.of r.1) else 0) (s.of r.2) else if l.contains p.1 then UJ 0 (s.of r.1) else 0:=by
  unfold Δ.Y1;rw[i];rfl
 rw[hv];have f:∀x:Int,(0<=(if x∈l then((l.idxOf x:Nat):Int) else -1))↔x∈l:=λx=>by
  by_cases h:x∈l
  .simp[h]
  .simp[h]
 have B:=BW s r.1 C σ id m o d e
 have w:=BW s r.2 D σ id m o d e;generalize s.of r.1=F at B ⊢;generalize s.of r.2=H at w ⊢;refine Ξ.body Ρ func91 rfl rfl ntmps91 rfl rfl J ?_;refine Ι (Υ e d) ?_;refine W.draw (A:=[]) Ρ mixed λj b=>Vj (Υ g (Υ i v)) ?_;refine YD (Κ.p (HI l p.1 t) (ZO.refl _) J J) ?_;simp[f];(repeat (rw[ZL];simp[f]));try rw[ZM]
 refine YG (b _ _ ?_);by_cases u:p.1∈l
 .refine Ε (by simp[u]) ?_;have y:l.contains p.1=true:=by simpa using u
  rw[if_pos y]
  repeat apply Ο
  refine W.draw (A:=[]) Ρ mixed λj b=>Vj (Υ e d) ?_;refine JN (Ξ.call (first:=[]) (captured:=[]) B) ?_;simp;(repeat (rw[ZL];simp));try rw[ZM]
  refine YG (b _ _ ?_)
  repeat apply Ο
  refine W.draw (A:=[]) Ρ mixed λj b=>Vj (Υ g (Υ i v)) ?_;refine YD (Κ.p (HI l p.2 t) (ZO.refl _) J J) ?_;simp[f];(repeat (rw[ZL];simp[f]));try rw[ZM]
  refine YG (b _ _ ?_);by_cases c:p.2∈l
  .refine Ε (by simp[c]) ?_;have Φ:l.contains p.2=true:=by simpa using c
   rw[if_pos Φ]
   repeat apply Ο
   refine W.draw (A:=[]) Ρ mixed λj b=>Vj (Υ e d) ?_;refine JN (Ξ.call (first:=[]) (captured:=[]) w) ?_;simp;(repeat (rw[ZL];simp));try rw[ZM]
   refine YG (b _ _ ?_);refine Χ ?_;exact W.ret ⟨_,rfl,rfl,rfl⟩
  .refine Η (by simp[c]) ?_;have Φ:¬l.contains p.2=true:=by simpa using c
   rw[if_neg Φ];refine Χ ?_;exact W.ret ⟨_,rfl,rfl,rfl⟩
 .refine Η (by simp[u]) ?_;have y:¬l.contains p.1=true:=by simpa using u
  rw[if_neg y]
  repeat apply Ο
  refine W.draw (A:=[]) Ρ mixed λj b=>Vj (Υ g (Υ i v)) ?_;refine YD (Κ.p (HI l p.2 t) (ZO.refl _) J J) ?_;simp[f];(repeat (rw[ZL];simp[f]));try rw[ZM]
  refine YG (b _ _ ?_);by_cases c:p.2∈l
  .refine Ε (by simp[c]) ?_;have Φ:l.contains p.2=true:=by simpa using c
   rw[if_pos Φ]
   repeat apply Ο
   refine W.draw (A:=[]) Ρ mixed λj b=>Vj (Υ e d) ?_;refine JN (Ξ.call (first:=[]) (captured:=[]) w) ?_;simp;(repeat (rw[ZL];simp));try rw[ZM]
   refine YG (b _ _ ?_);refine Χ ?_;exact W.ret ⟨_,rfl,rfl,rfl⟩
  .refine Η (by simp[c]) ?_;have Φ:¬l.contains p.2=true:=by simpa using c
   rw[if_neg Φ];refine Χ ?_;exact W.ret ⟨_,rfl,rfl,rfl⟩
def cnt (x n:Int):Nat->Int
 | 0=>0
 | k+1=>cnt x n k+(if X8 .i64 x (2 ^ k)≠0 then 1 else 0)-(if X8 .i64 n (2 ^ k)≠0 then 1 else 0)
end Go.TL
namespace Go.TL
open Go.Proofs.Tryz
open Go.Proofs
section
variable [ZV]
theorem sg (l:List Int):Ξ prog 22 [ν R 1 l] [] (λr s=>r=.Ν 0 1 0 0/\s=[ZK ⟨l,1⟩]) (λ_ _=>False):=by
 refine Ξ.body Ρ func22 rfl rfl ntmps22 rfl rfl J ?_
 repeat apply Ο
 refine WB ?_
 repeat apply Ο
 refine Y4 (A:=[5]) Ρ λb a=>Z1 ?_;apply a;refine Χ ?_;exact W.ret ⟨_,rfl,rfl,rfl⟩
end
abbrev BV:ξ:=[Yi [1,0],Yi [2,0],Yi [2,1]]
theorem sf:∀i,i<3->BV[i]?=some (Yi [(Yz i).1,(Yz i).2])/\∀h,BV[i]'h=Yi [(Yz i).1,(Yz i).2]:=λi hi=>by
 match i with
 | 0=>exact⟨rfl,λ_=>rfl⟩
 | 1=>exact⟨rfl,λ_=>rfl⟩
 | 2=>exact⟨rfl,λ_=>rfl⟩
theorem se [ZV] {s:Δ} (h:Yd s) (i:Nat):N4 s i<=i*5764801:=by
 induction i with
 | zero=>simp[N4]
 | succ i a=>
  rw[Ca,sy];have:=Lo h (Yz i) (-1) (Z5 s.cells.length);omega
end Go.TL
namespace Go.TL
open Go.Proofs.Tryz
open Go.Proofs
variable [ZV]
theorem sd:∀n<64,∀s<64,UM .i64 (s:Nat) (n:Nat)=0->∀o<64,X8 .i64 (s:Nat) (UM .i64 (o:Nat) (n:Nat))=0:=by decide +kernel
theorem sc:∀n<64,∀o<64,UM .i64 (X8 .i64 (n:Nat) (o:Nat)) (n:Nat)=0:=by decide +kernel
theorem sb {n a b:Int} (c:0<=n/\n<=63) (d:0<=a/\a<=63) (h:0<=b/\b<=63):UM .i64 (X8 .i64 n a) n=0/\X8 .i64 (X8 .i64 n a) (UM .i64 b n)=0:=by
 obtain⟨⟨i,f⟩,_,_⟩:=MM c d;obtain⟨x,rfl⟩:∃x:Nat,n=x:=⟨n.toNat,U⟩;obtain⟨y,rfl⟩:∃y:Nat,a=y:=⟨a.toNat,U⟩;obtain⟨z,rfl⟩:∃z:Nat,b=z:=⟨b.toNat,U⟩;have e:=sc x U y U;refine⟨e,?_⟩;obtain⟨w,g⟩:∃w:Nat,X8 .i64 (x:Int) (y:Int)=w:=⟨(X8 .i64 (x:Int) (y:Int)).toNat,U⟩;rw[g] at e f ⊢;exact sd x U w U e z U
structure BU (a b:Nat) (s:Δ) (p:Int×Int) (rd:List (Int×Int)):Prop where
 oG:∃k,k<3/\p=Yz k
 sa:Yd s
 many:s.cells.length<=b
 PV:s.ς.length<=a
 oF:s.Β.length<=3
 len:rd.length=s.cells.length
 each:∀r∈rd,(-1<=r.1/\r.1<s.ς.length)/\(-1<=r.2/\r.2<s.ς.length)
 right:∀(c:Nat) (r:Int×Int),rd[c]?=some r->s.Sd p r c=true
structure r9 where
 d:Zo
 done:List (List Y9)
 rd:List (Int×Int)
theorem r8 (d:Zo) (hd:d.Z9.length<2 ^ 63) (ak al:Nat) (cw:1<=ak) (cx:ak<=6) (cy:al<=4) :
  Rk 32 [R ak,R al] d (λr=>∃s p rd,r=.ZX [Zh s,ν R 1 [p.1,p.2],ZT (Sy rd)]/\BU ak al s p rd):=by
 unfold Rk;refine Ξ.body Ρ func32 rfl rfl ntmps32 rfl rfl J ?_
 repeat apply Ο
 refine Y4 (A:=[6]) Ρ λaR ae=>Z1 ?_;apply ae
 repeat apply Ο
 refine W.Zm ?_;refine W.part (A:=[9]) Ρ [0,1,2,3] [4,5] rfl λaR ae=>?_;(try simp);(repeat (rw[Μ];simp));refine Ch d hd ak al cw cx cy rfl ?_;intro G L nc d1 aS aT ⟨dn,cz,bG⟩ cA;simp only[List.length_cons,List.length_nil,Nat.reduceAdd,List.set_cons_zero,List.cons_append,List.nil_append];obtain⟨ah,ba⟩:=ψ (Zg 5 (List.replicate nc Z8));have am:(nc=0/\ah=Z8)\/(0<nc/\ah=.ms 5 nc 0 nc):=by
  by_cases B:nc=0
  .subst B;exact .inl ⟨rfl,ba⟩
  .exact .inr ⟨U,by rw[ba,Xq (by simp[B]),PG]⟩
 have an:∀done:List (List Y9),done.length<=nc->(nc=0/\ZR 60 1 (ZY done nc)=[])\/(0<nc/\ZR 60 1 (ZY done nc)=[.cells 60 1 (ZY done nc)]):=λdone aw=>by
  by_cases B:nc=0
  .subst B;have:=YR.1 (S5 aw);exact .inl ⟨rfl,by rw[this];rfl⟩
  .exact .inr ⟨U,Yq (λh=>by have:=S5 aw;rw[h] at this;simp at this;omega)⟩
 rw[<-ba,<-B1];rw[Pr,Si];apply ae;clear ae aR;have ao:χ ([ZK d1,YV Z8 Z8 Z8,.dead,.dead,.dead]++ZR 60 1 (ZY [] nc)).length ah:=by
  rcases am with⟨_,e⟩|⟨T,e⟩
  .rw[e];simp
  .rcases an [] (ω _) with⟨O,_⟩|⟨_,Φ⟩
   .omega
   .rw[e,Φ];exact TS.2 J
 refine W.B2 (A:=[9]) Ρ [(0,.Ν 0 1 0 0),(6,.Ν 1 1 0 0),(9,.π [ZI G,ZT L,ah])] ([ZK d1,YV Z8 Z8 Z8,.dead,.dead,.dead]++ZR 60 1 (ZY [] nc)) ?_ (by
  have aU:∀h,∀r∈[ZK d1,YV Z8 Z8 Z8,.dead,.dead,.dead]++ZR 60 1 (ZY [] nc),XZ h r:=λh r f=>by
   rcases VG.1 f with f|f
   .simp only[Zf,Yk,or_false] at f;rcases f with rfl|rfl|rfl|rfl|rfl
    .exact S7 d1 h
    .intro e H a w;simp[I.cells] at H;subst H;simp[I.cells] at w;subst w;simp
    .trivial
    .trivial
    .trivial
   .exact Ni (λe H a w=>by obtain⟨u,o⟩:=MH e H;rw[u] at w;simp at w;subst w;exact o) r f
  rcases am with⟨T,e⟩|⟨T,e⟩<;>rcases an [] (ω _) with⟨O,Φ⟩|⟨O,Φ⟩
  .rw[Φ] at aU ao;rw[e] at ao;rw[e,Φ];(try simp);(repeat (rw[Μ];simp));(try simp);intro bb;exact W.UC (σ0:=[ZK d1,YV Z8 Z8 Z8,.dead,.dead,.dead]) J (aU _) (λa w=>by
    simp[I.cells] at w;rcases w with rfl|rfl|rfl
    .exact(YN.2 Tx:χ 0 _).mono (ω _)
    .exact(YN.2 R1:χ 0 _).mono (ω _)
    .exact ao) [(0,.Ν 0 1 0 0),(6,.Ν 1 1 0 0),(9,.π [ZI G,ZT L,Z8])] (by simp[Ww,I.cells]) bb
  .omega
  .omega
  .rw[Φ] at aU ao;rw[e] at ao;rw[e,Φ];have af:(ZY [] nc).length=nc:=S5 (ω _);(try simp);(repeat (rw[Μ];simp[af]));(try simp[af]);intro bb;exact W.UC (σ0:=[ZK d1,YV Z8 Z8 Z8,.dead,.dead,.dead,.cells 60 1 (ZY [] nc)]) J (aU _) (λa w=>by
    simp[I.cells] at w;rcases w with rfl|rfl|rfl
    .exact(YN.2 Tx:χ 0 _).mono (ω _)
    .exact(YN.2 R1:χ 0 _).mono (ω _)
    .exact ao) [(0,.Ν 0 1 0 0),(6,.Ν 1 1 0 0),(9,.π [ZI G,ZT L,.ms 5 nc 0 nc])] (by simp[Ww,I.cells]) bb)
 obtain⟨K,aV⟩:=ψ L.length;have cB:=aT.lo;have cC:=bG;have cD:=aS.hi;have cE:=aS.lo;obtain⟨g,bc⟩:=ψ G.length;rw[<-bc] at cD cE;rw[<-aV] at cB bG;have dp:(L.map (ν R 1)).length=K:=by rw[Yh,aV]
 have ap:=Ty d1 U 2;obtain⟨t0,t1⟩:=S8 d1 2 Z3 Z3;obtain⟨bH,bI⟩:=Zt (Xj d1 2);rw[bI] at ap t0 t1;clear bI;obtain⟨P,aW⟩:∃k:Nat,bH=k:=⟨bH.toNat,U⟩;obtain⟨d2,bJ⟩:=Zt (d1.after 2);have cF:d2.Z9.length<=d.Z9.length:=by rw[<-bJ];exact Ya (Ws _ _) cA
 rw[aW,bJ] at ap;rw[aW] at t1;have bK:P<3:=U;obtain⟨aq,bd⟩:=sf P bK;obtain⟨p,V⟩:=ψ (Yz P);rw[<-V] at aq bd
 repeat apply Ο
 refine W.Xk (A:=[]) Ρ [(0,.Ν 0 1 0 0),(6,.Ν 1 1 0 0),(9,.π [ZI G,ZT L,ah]),(10,Yi [p.1,p.2])] ([ZK d2,YV Z8 Z8 Z8,.dead,.dead,.dead]++ZR 60 1 (ZY [] nc)) ?_ (by
  have dq:(P:Int)<3:=U;rcases am with⟨T,e⟩|⟨T,e⟩<;>rcases an [] (ω _) with⟨O,Φ⟩|⟨O,Φ⟩
  .rw[e,Φ];(try simp);(repeat (rw[Μ];simp));(try simp);refine YT.c ap 0 rfl (ZO.refl _) J J ?_;clear ap aq bd aW;obtain rfl|rfl|rfl:P=0\/P=1\/P=2:=U
   all_goals
    subst V;simp;(repeat (rw[Μ];simp));(try simp[Yz])
  .omega
  .omega
  .rw[e,Φ];(try simp);(repeat (rw[Μ];simp));(try simp);refine YT.c ap 0 rfl (ZO.refl _) J J ?_;clear ap aq bd aW;obtain rfl|rfl|rfl:P=0\/P=1\/P=2:=U
   all_goals
    subst V;simp;(repeat (rw[Μ];simp));(try simp[Yz]))
 obtain⟨Z,ai⟩:=ψ (⟨G,L,[]⟩:Δ);refine Χ ?_;refine W.iter (λx:r9=>x.done.length<=nc/\x.d.Z9.length<=d.Z9.length/\(∀c∈x.done,QB K c)/\x.rd.length=x.done.length/\(∀r∈x.rd,(-1<=r.1/\r.1<g)/\(-1<=r.2/\r.2<g))/\∀(c:Nat) (r:Int×Int) (m:List Y9),x.rd[c]?=some r->x.done[c]?=some m->∀y∈m,Z.V2 p r y=true)
  (λx=>[(0,.Ν 0 1 0 0),(6,.Ν 1 1 0 0),(9,.π [ZI G,ZT L,ah]),(10,Yi [p.1,p.2]),(11,Zg 6 (x.rd.map Φ)),(12,R x.done.length)])
  (λx=>[ZK x.d,YV Z8 Z8 Z8,.dead,.dead,.dead]++ZR 60 1 (ZY x.done nc)++ZR 29 1 (x.rd.map Φ)) (λx=>nc-x.done.length) ⟨d2,[],[]⟩ ⟨J,cF,J,rfl,J,J⟩ (by simp[U2]) (by simp[Zg]) (λx D be=>?_)
 obtain⟨aa,done,rd⟩:=x;obtain⟨aw,aX,bf,Q,bg,bh⟩:=D;simp only at aw aX bf Q bg bh be ⊢;obtain⟨c,aj⟩:=ψ done.length;rw[<-aj] at aw be Q;rw[<-aj];have cG:(nc=0/\rd=[])\/0<nc:=by
  by_cases B:nc=0
  .exact .inl ⟨B,YR.1 U⟩
  .exact .inr U
 repeat apply Ο
 refine W.Xk (A:=[]) Ρ [(33,ε (decide (c<nc))),(0,.Ν 0 1 0 0),(6,.Ν 1 1 0 0),(9,.π [ZI G,ZT L,ah]),(10,Yi [p.1,p.2]),(11,Zg 6 (rd.map Φ)),(12,R c)] ([ZK aa,YV Z8 Z8 Z8,.dead,.dead,.dead]++ZR 60 1 (ZY done nc)++ZR 29 1 (rd.map Φ)) ?_ (by
  have af:(ZY done nc).length=nc:=S5 U;obtain⟨bL,aY⟩:=ψ (ZR 29 1 (rd.map Φ));obtain⟨bM,aZ⟩:=ψ (Zg 6 (rd.map Φ));rw[<-aY,<-aZ];rcases am with⟨T,e⟩|⟨T,e⟩<;>rcases an done U with⟨O,Φ⟩|⟨O,Φ⟩
  .rw[e,Φ,O];(try simp);(repeat (rw[Μ];simp));(try simp)
  .omega
  .omega
  .rw[e,Φ];(try simp);(repeat (rw[Μ];simp[af]));(try simp[af]))
 refine W.YM rfl (λar=>?_) (λar=>?_)
 .have ar:c<nc:=by simpa using ar
  rcases am with⟨T,_⟩|⟨T,e⟩
  .omega
  rcases an done U with⟨O,_⟩|⟨O,ax⟩
  .omega
  obtain⟨M,ay⟩:=ψ (ZY done nc);have az:M.length=nc:=by rw[ay];exact S5 U
  have bi:M[c]?=some Z8:=by rw[ay,aj];exact BZ U
  have cH:∀m,M.set c (Vd m)=ZY (done++[m]) nc:=λm=>by rw[ay,aj];exact BY U m
  have cI:∀e∈M,e.cells=[e]/\χ 0 e:=by rw[ay];exact MH
  have a0:M.set c Z8=M:=by
   apply RU;intro i;rw[List.getElem?_set];split
   .rename_i e;subst e;split
    .exact bi.symm
    .rename_i h;exact(h U).elim
   .rfl
  have bN:L.length=K:=aV.symm
  have bj:G.length=g:=bc.symm;rw[e,ax,<-ay];simp only[List.cons_append,List.nil_append];obtain⟨ab,cJ⟩:=ψ ((g:Int)-1:Int);have bk:IntKind.i64.wrap ((g:Int)-1)=ab:=by rw[cJ];exact IntWalk.i64_in _ U
  have bO:=MR aa U (-1) ab;obtain⟨a1,a2⟩:=MO aa (a:=-1) (b:=ab) U Z3 U;obtain⟨bl,bP⟩:=Zt (S9 aa (-1) ab);obtain⟨aA,bQ⟩:=Zt (aa.after (IntKind.i64.wrap (ab- -1)));have cK:aA.Z9.length<=d.Z9.length:=by rw[<-bQ];exact Ya (Ws _ _) aX
  rw[bP,bQ] at bO;rw[bP] at a1 a2;have bR:=MR aA U (-1) ab;obtain⟨a3,a4⟩:=MO aA (a:=-1) (b:=ab) U Z3 U;obtain⟨bm,bS⟩:=Zt (S9 aA (-1) ab);obtain⟨X,bT⟩:=Zt (aA.after (IntKind.i64.wrap (ab- -1)));have dr:X.Z9.length<=d.Z9.length:=by rw[<-bT];exact Ya (Ws _ _) cK
  rw[bS,bT] at bR;rw[bS] at a3 a4;obtain⟨r,f⟩:=ψ ((bl,bm):Int×Int);have cL:r.1=bl:=by rw[f]
  have cM:r.2=bm:=by rw[f]
  obtain⟨bL,aY⟩:=ψ (ZR 29 1 (rd.map Φ));obtain⟨bM,aZ⟩:=ψ (Zg 6 (rd.map Φ));rw[<-aY,<-aZ]
  repeat apply Ο
  refine W.I0 (A:=[]) Ρ mixed [(0,.Ν 0 1 0 0),(6,.Ν 1 1 0 0),(9,.π [ZI G,ZT L,.ms 5 nc 0 nc]),(10,Yi [p.1,p.2]),(11,bM),(12,R c),(13,Φ r)] (ZK X::YV Z8 Z8 Z8::.dead::.dead::.dead::.cells 60 1 M::bL) ?_ (by
   simp;(repeat (rw[UU];simp[bj,bk]));(try rw[UW]);refine YT.e bO (ZO.refl _) J J ?_;simp;(repeat (rw[UU];simp[bj,bk]));(try rw[UW]);refine YT.e bR (ZO.refl _) J J ?_;simp;(repeat (rw[UU];simp[bj,bk]));(try rw[UW]);refine⟨Yw (by kernel_rfl),Yw (by kernel_rfl),?_⟩;simp[f])
  obtain⟨ag,a5⟩:=ψ ((rd++[r]).map Φ);have ds:ag.length=c+1:=by rw[a5];simp[Q]
  have cN:∀e∈ag,∀a∈e.cells,χ 0 a:=by rw[a5];exact Gq
  repeat apply Ο
  refine W.Xk (A:=[52]) Ρ [(0,.Ν 0 1 0 0),(6,.Ν 1 1 0 0),(9,.π [ZI G,ZT L,.ms 5 nc 0 nc]),(10,Yi [p.1,p.2]),(11,.ms 6 (c+1) 0 (c+1)),(12,R c),(13,Φ r)] (ZK X::YV Z8 Z8 Z8::.dead::.dead::.dead::.cells 60 1 M::[.cells 29 1 ag]) ?_ (by
   rw[a5,aY,aZ];by_cases B:rd=[]
   .subst B;have cO:c=0:=by simpa using Q.symm
    subst cO;have bn:Zg 6 (([]:List (Int×Int)).map Φ)=.sl true 0 []:=rfl;have cP:ZR 29 1 (([]:List (Int×Int)).map Φ)=[]:=rfl;rw[bn,cP];(try simp);(repeat (rw[Μ];simp));(try simp)
   .have bU:rd.map Φ≠[]:=by simpa using B
    rw[Xq bU,Yq bU];have bV:c<=4294967295:=U;(try simp);(repeat (rw[Μ];simp[Q,bV]));(try simp[Q,bV]))
  have bo:=GJ X U K U
  have a6:=IX X K
  have bp:∀x∈(W8 X K).1,0<=x/\x<K:=λx h=>GF h
  have bW:=GD X K
  have cQ:=IY X K;obtain⟨N,cR⟩:=Zt ((W8 X K).1);obtain⟨a7,cS⟩:=Zt ((W8 X K).2);rw[cR] at bo a6 bp bW;rw[cS] at bo cQ;refine XM bN λaR ae=>?_;refine YT.g (bo) (Z1 ?_);apply ae;have bq:=Ty a7 U K;obtain⟨cT,bX⟩:=S8 a7 K U U;obtain⟨bY,bZ⟩:=Zt (Xj a7 K);rw[bZ] at bq cT bX;clear bZ;obtain⟨ad,aB⟩:∃k:Nat,bY=k:=⟨bY.toNat,U⟩;obtain⟨b0,b1⟩:=Zt (a7.after K);have cU:b0.Z9.length<=d.Z9.length:=by rw[<-b1];exact Ya (Ws _ _) U
  rw[aB,b1] at bq;rw[aB] at bX;refine XM bN λaR ae=>?_;refine YT.g (bq) (Z1 ?_);apply ae
  repeat apply Ο
  refine W.iter (λx:BX=>x.Qz.length+x.k=ad/\x.d.Z9.length<=d.Z9.length/\x.Qz.map (·.Zd)=((N.take ad).drop x.k).reverse/\∀y∈x.Qz,((0<=y.seen/\y.seen<=63)/\(0<=y.bare/\y.bare<=63)/\U3 y.seen y.bare=0)/\Z.V2 p r y=true)
   (λx=>[(0,.Ν 0 1 0 0),(6,.Ν 1 1 0 0),(9,.π [ZI G,ZT L,.ms 5 nc 0 nc]),(10,Yi [p.1,p.2]),(11,.ms 6 (c+1) 0 (c+1)),(12,R c),(13,Φ r),(14,ν R 1 N),(15,R x.k)])
   (λx=>ZK x.d::YV Z8 Z8 Z8::.dead::.dead::.dead::.cells 60 1 (M.set c (Zg 7 (x.Qz.map Zr)))::.cells 29 1 ag::ZR 28 3 (x.Qz.map Zr)) (λx=>x.k) ⟨ad,b0,[]⟩
   ⟨J,cU,J,J⟩ (by simp only[T1];rw[show Zg 7 []=Z8 from rfl,a0];rfl) J (λx D b2=>?_)
  obtain⟨k,E,m⟩:=x;obtain⟨cV,br,aC,a8⟩:=D;simp only at cV br aC a8 b2 ⊢;refine Χ ?_;refine W.YM rfl (λbs=>?_) (λbs=>?_)
  .have aB:0<k:=by simpa using bs
   obtain⟨j,cW⟩:∃j,k=j+1:=⟨k-1,U⟩;have Y:IntKind.i64.wrap ((k:Int)-1)=j:=by rw[IntWalk.i64_in _ U];omega
   have b3:j<N.length:=U
   have aD:N[j]?=some N[j]:=ζ b3
   have b4:=bp _ (Y7 b3);obtain⟨bt,bu⟩:=ψ (N[j]);rw[<-bu] at aD b4;have a9:∀h,N[j]'h=bt:=λh=>bu.symm;obtain⟨S,b5⟩:∃n:Nat,bt=n:=⟨bt.toNat,U⟩;rw[b5] at aD a9 b4;have cX:(Zg 7 (m.map Zr)=Z8/\ZR 28 3 (m.map Zr)=[]/\m=[])\/(Zg 7 (m.map Zr)=.ms 7 m.length 0 m.length/\ZR 28 3 (m.map Zr)=[.cells 28 3 (m.map Zr)]/\0<m.length):=by
    by_cases B:m=[]
    .subst B;exact .inl ⟨rfl,rfl,rfl⟩
    .have aE:m.map Zr≠[]:=by simpa using B
     exact .inr ⟨by rw[Xq aE,Yh],Yq aE,Qy.2 B⟩
   have aF:=sh Z p r S (by rw[ai];show S<L.length;omega) (λx D=>by rw[ai] at D;have:=(aT.each x D).1;omega) (by rw[ai,f];show bl<G.length;omega) (by rw[ai,f];show bm<G.length;omega) (ZK E::YV Z8 Z8 Z8::.dead::.dead::.dead::.cells 60 1 (M.set c (Zg 7 (m.map Zr)))::.cells 29 1 ag::ZR 28 3 (m.map Zr)) 5 nc (M.set c (Zg 7 (m.map Zr))) (by rw[MA];exact az) rfl
   have a':0<=Z.Y1 p r S/\Z.Y1 p r S<=63:=by
    have cY:Yd ⟨G,L,[]⟩:=⟨aS,aT,J,J⟩;rw[ai];exact Gs cY p r S
   have b6:∀a b:Int,Z.V2 p r ⟨S,a,b⟩=(Ol a (Z.Y1 p r S)==0&&U3 (Z.Y1 p r S) b==0):=λa b=>by unfold Δ.V2;simp
   obtain⟨aG,b7⟩:=ψ (Z.Y1 p r S);rw[<-b7] at aF a';simp only[<-b7] at b6;rw[ai] at aF
   repeat apply Ο
   refine W.Uv (A:=[]) Ρ mixed [(0,.Ν 0 1 0 0),(6,.Ν 1 1 0 0),(9,.π [ZI G,ZT L,.ms 5 nc 0 nc]),(10,Yi [p.1,p.2]),(11,.ms 6 (c+1) 0 (c+1)),(12,R c),(13,Φ r),(14,ν R 1 N),(15,R k),(16,R aG)] (ZK E::YV Z8 Z8 Z8::.dead::.dead::.dead::.cells 60 1 (M.set c (Zg 7 (m.map Zr)))::.cells 29 1 ag::ZR 28 3 (m.map Zr)) ?_ (by
    obtain⟨dt,b8⟩:=ψ (ZR 28 3 (m.map Zr));obtain⟨du,b9⟩:=ψ (Zg 7 (m.map Zr));rw[<-b8,<-b9] at aF;rw[<-b8,<-b9,f];rw[f] at aF;simp;(repeat (rw[ZL];simp[Y,aD,a9,a6]));(try rw[ZM]);refine⟨U,?_⟩;refine JN (Ξ.call (first:=[]) (captured:=[]) (Ξ.TP aF (.cons (.refl _) (.cons .ex (.cons .ex (.cons (.refl _) .nil)))) (λa s h=>⟨_,.refl _,h⟩))) ?_;simp;(repeat (rw[ZL];simp));(try rw[ZM]);refine⟨Yw (by kernel_rfl),?_⟩;simp)
   have bv:=Ty E U 63;obtain⟨a1,a2⟩:=S8 E 63 Z3 Z3;obtain⟨aH,b'⟩:=Zt (Xj E 63);obtain⟨aI,ca⟩:=Zt (E.after 63);have cZ:aI.Z9.length<=d.Z9.length:=by rw[<-ca];exact Ya (Ws _ _) br
   rw[b',ca] at bv;rw[b'] at a1 a2;have pick:∀(F:Zo) (x:Int),0<=x->x<=63->0<=([63,x]:List Int).getD (Rl F [63,x]) 0/\([63,x]:List Int).getD (Rl F [63,x]) 0<=63:=λF x u o=>by
    match Rl F [63,x] with
    | 0=>simp
    | 1=>simp;omega
    | n+2=>simp
   have bw:=GM aI U [63,aH] J J
   have bx:=pick aI aH a1 a2;obtain⟨c0,cb⟩:=Zt (([63,aH]:List Int).getD (Rl aI [63,aH]) 0);obtain⟨aJ,cc⟩:=Zt (aI.after ((([63,aH]:List Int).length:Int)-1));have c1:aJ.Z9.length<=d.Z9.length:=by rw[<-cc];exact Ya (Ws _ _) cZ
   rw[cb,cc] at bw;rw[cb] at bx;have bz:=Ty aJ U 63;obtain⟨a3,a4⟩:=S8 aJ 63 Z3 Z3;obtain⟨aK,cd⟩:=Zt (Xj aJ 63);obtain⟨aL,ce⟩:=Zt (aJ.after 63);have c2:aL.Z9.length<=d.Z9.length:=by rw[<-ce];exact Ya (Ws _ _) c1
   rw[cd,ce] at bz;rw[cd] at a3 a4;have bA:=GM aL U [63,aK] J J;have bB:=pick aL aK a3 a4;obtain⟨c3,cf⟩:=Zt (([63,aK]:List Int).getD (Rl aL [63,aK]) 0);obtain⟨bC,cg⟩:=Zt (aL.after ((([63,aK]:List Int).length:Int)-1));have c4:bC.Z9.length<=d.Z9.length:=by rw[<-cg];exact Ya (Ws _ _) c2
   rw[cf,cg] at bA;rw[cf] at bB;obtain⟨ci,_,_⟩:=MM a' bx;obtain⟨_,cj,ck⟩:=MM bB a';obtain⟨cl,bD⟩:=sb a' bx bB;obtain⟨cm,aM⟩:=Zt (X8 .i64 aG c0);obtain⟨cn,aN⟩:=Zt (UM .i64 c3 aG);rw[aM] at ci cl bD;rw[aN] at cj ck bD;obtain⟨au,bE⟩:=ψ (⟨S,cm,cn⟩:Y9);have cp:(m++[au]).map Zr≠[]:=J
   repeat apply Ο
   refine W.I0 (A:=[105]) Ρ mixed [(0,.Ν 0 1 0 0),(6,.Ν 1 1 0 0),(9,.π [ZI G,ZT L,.ms 5 nc 0 nc]),(10,Yi [p.1,p.2]),(11,.ms 6 (c+1) 0 (c+1)),(12,R c),(13,Φ r),(14,ν R 1 N),(15,R k)] (ZK bC::YV Z8 Z8 Z8::.dead::.dead::.dead::.cells 60 1 (M.set c (Zg 7 ((m++[au]).map Zr)))::.cells 29 1 ag::ZR 28 3 ((m++[au]).map Zr)) ?_ (by
    rw[Xq cp,Yq cp,Yh,VU,XR,X3,T1,bE];rcases cX with⟨f1,f2,f3⟩|⟨f1,f2,f3⟩
    .rw[f1,f2,a0,f3];simp;(repeat (rw[UU];simp[Y,aD,a9,a6,az,bi]));(try rw[UW]);refine⟨U,U,?_⟩;refine YT.h (bv) (QC ?_);refine YT.e bw (.cons .ex .nil) J J ?_;simp[aM];(repeat (rw[UU];simp[aM]));(try rw[UW]);refine YT.h (bz) (QC ?_);refine YT.e bA (.cons .ex .nil) J J ?_;simp[aN];(repeat (rw[UU];simp[aN,az,bi]));(try rw[UW]);refine⟨U,?_⟩;refine⟨Yw (by kernel_rfl),Yw (by kernel_rfl),?_⟩;simp
    .rw[f1,f2];have cq:∀v,(M.set c v)[c]?=some v:=λv=>by rw[Wo U]
     have cr:∀v h,(M.set c v)[c]'h=v:=λv h=>List.getElem_set_self h;simp;(repeat (rw[UU];simp[Y,aD,a9,a6,az,cq,cr]));(try rw[UW]);refine⟨U,U,?_⟩;refine YT.h (bv) (QC ?_);refine YT.e bw (.cons .ex .nil) J J ?_;simp[aM];(repeat (rw[UU];simp[aM]));(try rw[UW]);refine YT.h (bz) (QC ?_);refine YT.e bA (.cons .ex .nil) J J ?_;simp[aN];(repeat (rw[UU];simp[aN,az,cq,cr]));(try rw[UW]);refine⟨U,U,?_⟩;refine⟨Yw (by kernel_rfl),Yw (by kernel_rfl),?_⟩;simp)
   refine Ι Y ?_;have c5:(N.take ad).drop j=(S:Int)::(N.take ad).drop k:=by
    have c6:j<(N.take ad).length:=by rw[Tq];omega
    rw[PH c6,cW,List.getElem_take,<-bu,b5]
   refine W.to (b2 ⟨j,bC,m++[au]⟩ ⟨by show(m++[au]).length+j=ad;rw[VU];simp;omega,c4,?_,λy C=>?_⟩ (by show j<k;omega)) J (by simp[Y])
   .show(m++[au]).map (·.Zd)=((N.take ad).drop j).reverse;rw[c5,XR,aC,List.reverse_cons,bE];rfl
   .rcases VG.1 C with C|C
    .exact a8 y C
    .simp at C;subst C;subst bE;refine⟨⟨ci,cj,bD⟩,?_⟩;rw[b6];have c7:Ol cm aG=0:=cl;have c8:U3 aG cn=0:=ck;rw[c7,c8];rfl
  .have aB:k=0:=by simp at bs;omega
   subst aB;have dv:m.length=ad:=U;rw[List.drop_zero] at aC;have c9:QB K m:=by
    refine⟨U,?_,λy C=>?_⟩
    .rw[aC];unfold List.Nodup;rw[List.pairwise_reverse];exact(bW.sublist (List.take_sublist _ _)).imp YZ
    .have cs:y.Zd∈m.map (·.Zd):=Zc.2 ⟨y,C,rfl⟩;rw[aC,List.mem_reverse] at cs;have:=bp _ (NV cs);obtain⟨⟨c',da,db⟩,_⟩:=a8 y C;exact⟨this,c',da,db⟩
   have Y:IntKind.i64.wrap ((c:Int)+1)=((c+1:Nat):Int):=by rw[IntWalk.i64_in _ U];omega
   have dc:(done++[m]).length=c+1:=by simp;omega
   have av:=be ⟨E,done++[m],rd++[r]⟩ ⟨by show(done++[m]).length<=nc;omega,br,λx D=>by
    rcases VG.1 D with D|D
    .exact bf x D
    .simp at D;subst D;exact c9,by show(rd++[r]).length=_;simp[Q,aj],λy C=>by
    rcases VG.1 C with C|C
    .exact bg y C
    .simp at C;subst C;rw[cL,cM];omega,λx y z u o=>by
    by_cases D:x<c
    .rw[YL U] at u o;exact bh x y z u o
    .rw[XG U] at u o;have bn:x-rd.length=x-c:=by rw[Q]
     rw[bn] at u;rw[<-aj] at o;cases ct:x-c with
     | zero=>rw[ct] at u o;simp at u o;subst u;subst o;exact λy C=>(a8 y C).2
     | succ q=>rw[ct] at u;simp at u⟩ (by show nc-(done++[m]).length<nc-c;omega)
   have dd:ZY (done++[m]) nc≠[]:=λh=>by
    have:=S5 (done:=done++[m]) (nc:=nc) U;rw[h] at this;simp at this;omega
   have cu:(rd++[r]).map Φ≠[]:=J
   have de:((rd++[r]).map Φ).length=c+1:=by simp[Q]
   simp only[dc] at av;rw[Yq dd,Yq cu,Xq cu,de,<-a5,<-cH m,e] at av;refine W.exit rfl ?_;by_cases B:m=[]
   .subst B;rw[show Vd []=Z8 from rfl,a0] at av;rw[show Zg 7 (([]:List Y9).map Zr)=Z8 from rfl,show ZR 28 3 (([]:List Y9).map Zr)=[] from rfl,a0];refine Ι Y ?_;exact W.to av rfl (by simp[Y])
   .have aE:m.map Zr≠[]:=by simpa using B
    have aq:Vd m=.sl false 3 (m.map Zr):=by unfold Vd Xf;rw[if_neg (by simpa using B)]
    rw[aq] at av;rw[Xq aE,Yq aE];refine W.PJ (σ':=ZK E::YV Z8 Z8 Z8::.dead::.dead::.dead::.cells 60 1 (M.set c (.sl false 3 (m.map Zr)))::.cells 29 1 ag::[.dead]) (id:=7) J rfl rfl rfl (λi r hi f=>?_) [(0,.Ν 0 1 0 0),(6,.Ν 1 1 0 0),(9,.π [ZI G,ZT L,.ms 5 nc 0 nc]),(10,Yi [p.1,p.2]),(11,.ms 6 (c+1) 0 (c+1)),(12,R c)] (λp V=>by
     simp only[Zf,Yk,or_false] at V;rcases V with rfl|rfl|rfl|rfl|rfl|rfl<;>exact .same _) ?_
    .match i,hi,f with
     | 0,_,f=>exact⟨r,f,.inl rfl⟩
     | 1,_,f=>exact⟨r,f,.inl rfl⟩
     | 2,_,f=>exact⟨r,f,.inl rfl⟩
     | 3,_,f=>exact⟨r,f,.inl rfl⟩
     | 4,_,f=>exact⟨r,f,.inl rfl⟩
     | 5,_,f=>
      simp at f;subst f;refine⟨_,rfl,.inr ⟨60,1,_,_,rfl,rfl,J,λy e dw u o=>?_⟩⟩;by_cases C:y=c
      .subst C;rw[Wo U] at u o;cases u;cases o;refine⟨rfl,λx a bF aO aP=>?_⟩
       match x with
       | 0=>simp[I.cells] at aO aP;subst aO;subst aP;have:=Rj.ms (id:=7) (k:=3) (l:=m.map Zr);rwa [Yh] at this
       | x+1=>simp[I.cells] at aO
      .rw[Vq (YZ C)] at u o;rw[u] at o;cases o;exact⟨rfl,λx a bF aO aP=>by rw[aO] at aP;cases aP;exact .same _⟩
     | 6,_,f=>exact⟨r,f,.inl rfl⟩
     | 7,h,_=>exact absurd rfl h
     | i+8,_,f=>simp at f
    refine W.drop (h:=7) J J (λi r hi f=>?_) rfl [(0,.Ν 0 1 0 0),(6,.Ν 1 1 0 0),(9,.π [ZI G,ZT L,.ms 5 nc 0 nc]),(10,Yi [p.1,p.2]),(11,.ms 6 (c+1) 0 (c+1)),(12,R c)] ?_ ?_
    .match i,hi,f with
     | 0,_,f=>simp at f;subst f;exact S7 E 7
     | 1,_,f=>simp at f;subst f;intro e H a w;simp[I.cells] at H;subst H;simp[I.cells] at w;subst w;simp
     | 2,_,f=>simp at f;subst f;trivial
     | 3,_,f=>simp at f;subst f;trivial
     | 4,_,f=>simp at f;subst f;trivial
     | 5,_,f=>
      simp at f;subst f;intro e H a w;rcases Lg H with H|rfl
      .obtain⟨u,o⟩:=cI e H;rw[u] at w;simp at w;subst w;exact o.mono (ω _)
      .simp[I.cells] at w;subst w;have:=Gj m;rw[aq] at this;exact this.mono (ω _)
     | 6,_,f=>simp at f;subst f;exact λe H a w=>(cN e H a w).mono (ω _)
     | i+7,h,_=>omega
    .intro p V;simp only[Zf,Yk,or_false] at V;rcases V with rfl|rfl|rfl|rfl|rfl|rfl
     .exact⟨rfl,Ww.2 U⟩
     .exact⟨rfl,Ww.2 U⟩
     .refine⟨rfl,JV.2 λa w=>?_⟩;simp only[Zf,Yk,or_false] at w;rcases w with rfl|rfl|rfl
      .exact(YN.2 Tx:χ 0 _).mono (ω _)
      .exact(YN.2 R1:χ 0 _).mono (ω _)
      .exact TS.2 U
     .exact⟨rfl,J⟩
     .exact⟨rfl,TS.2 U⟩
     .exact⟨rfl,.z _⟩
    refine Ι Y ?_;exact W.to av rfl (by simp[Y])
 .have ar:c=nc:=by simp at ar;omega
  subst ar;refine W.exit rfl ?_;have df:Yd ⟨G,L,done⟩:=⟨aS,aT,by show done.length<=4;omega,λx D=>by show QB L.length x;rw[<-aV];exact bf x D⟩;have dg:ZY done c=done.map Vd:=by rw[aj];exact B0
  have cv:BU ak al ⟨G,L,done⟩ p rd:=⟨⟨P,bK,V⟩,df,by show done.length<=al;omega,cz,cC,by show rd.length=done.length;omega,λr f=>by show(-1<=r.1/\r.1<G.length)/\_;rw[<-bc];exact bg r f,λx y h=>by
   unfold Δ.Sd;show((done[x]?).getD []).all _=true;cases D:done[x]? with
   | none=>rfl
   | some m=>
    refine WU.2 λz B=>?_;have:=bh x y m h D z B;rw[ai] at this;exact this⟩
  have dh:Y3 (.Z7 [ZI G,ZT L,.sl false 1 (done.map Vd)]) (Zh ⟨G,L,done⟩):=by
   refine .Z7 (.cons (.refl _) (.cons (.refl _) (.cons ?_ .nil)));exact .map λx _=>.one .acc (Gi x) rfl
  have di:Y3 (.sl false 1 (rd.map Φ)) (ZT (Sy rd)):=by
   show Y3 (.sl false 1 (rd.map Φ)) (.sl false 1 ((Sy rd).map (ν R 1)));rw[Qt];exact .map λr _=>.one .ex rfl rfl
  rcases am with⟨T,e⟩|⟨T,e⟩<;>rcases an done U with⟨O,ax⟩|⟨O,ax⟩
  .have aQ:rd=[]:=by rcases cG with⟨_,h⟩|h;exact h;omega
   have dj:done=[]:=YR.1 U;rw[e,ax,aQ];rw[show Zg 6 (([]:List (Int×Int)).map Φ)=Z8 from rfl,show ZR 29 1 (([]:List (Int×Int)).map Φ)=[] from rfl];refine Χ ?_;refine W.cut 1 J [(6,.π [ZI G,ZT L,Z8]),(7,Yi [p.1,p.2]),(8,Z8)] J (λid r dk f=>?_) (λz B=>?_) ?_
   .have:id=0:=U
    subst this;simp at f;subst f;exact S7 aa 1
   .simp only[Zf,Yk,or_false] at B;rcases B with rfl|rfl|rfl
    .show Yr 1 _ (Z' _ 6) _;simp;refine .struct J (show _=some (Row.cells _ _ [.Z7 _]) from rfl) rfl λx a bF u o=>?_
     match x with
     | 0=>simp at u o;subst u;subst o;exact .low ((YN.2 Tx:χ 0 _).mono (ω _))
     | 1=>simp at u o;subst u;subst o;exact .low ((YN.2 R1:χ 0 _).mono (ω _))
     | 2=>simp at u o;subst u;subst o;exact .low J
     | x+3=>simp at o
    .exact .low J
    .exact .low J
   .refine W.ret ⟨_,rfl,_,aa,?_,⟨_,p,rd,rfl,cv⟩,rfl,aX⟩;rw[dj,aQ];exact .ZX (.cons (.Z7 (.cons (.refl _) (.cons (.refl _) (.cons .nil .nil)))) (.cons .ex (.cons .nil .nil)))
  .omega
  .omega
  .have af:(ZY done c).length=c:=S5 U
   have aQ:rd.map Φ≠[]:=λh=>by
    have:(rd.map Φ).length=0:=by rw[h];rfl
    rw[Yh] at this;omega
   rw[e,ax,Xq aQ,Yq aQ,Yh,Q];refine Ι af ?_;refine W.cut 1 J [(6,.π [ZI G,ZT L,.sl false 1 (ZY done c)]),(7,Yi [p.1,p.2]),(8,.sl false 1 (rd.map Φ))] J (λid r dk f=>?_) (λz B=>?_) ?_
   .have:id=0:=U
    subst this;simp at f;subst f;exact S7 aa 1
   .simp only[Zf,Yk,or_false] at B;rcases B with rfl|rfl|rfl
    .show Yr 1 _ (Z' _ 6) _;simp;refine .struct J (show _=some (Row.cells _ _ [.Z7 _]) from rfl) rfl λx a bF u o=>?_
     match x with
     | 0=>simp at u o;subst u;subst o;exact .low ((YN.2 Tx:χ 0 _).mono (ω _))
     | 1=>simp at u o;subst u;subst o;exact .low ((YN.2 R1:χ 0 _).mono (ω _))
     | 2=>simp at u o;subst u;subst o;exact .own (t:=60) J rfl af (λe H a w=>by
       obtain⟨dl,dm⟩:=MH e H;rw[dl] at w;simp at w;subst w;exact dm.mono (ω _))
     | x+3=>simp at o
    .exact .low J
    .show Yr 1 _ (Z' _ 8) _;simp;exact .own (t:=29) (id:=6) J rfl (by simp[Q]) (λe H a w=>(Gq e H a w).mono (ω _))
   .rw[dg];exact W.ret ⟨_,rfl,_,aa,.ZX (.cons dh (.cons .ex (.cons di .nil))),⟨_,p,rd,rfl,cv⟩,rfl,aX⟩
end Go.TL
namespace Go.TL
open Go.Proofs.Tryz
open Go.Conc Go.Proofs
variable [ZV]
theorem W.Yb {P:Program} {m nt:Nat} {k:List Item} {env:Ζ} {σ:Τ} {Z:X9} {E:Yn} (env':Ζ) (d:∀p∈env',Y3 (Z' env p.1) p.2) (f:W P m nt k env' σ Z E):W P m nt k env σ Z E:=
 λg mn x cs b S B H t h j a n o=>by
 have r:∀(l:Ζ),(∀p∈l,Y3 (Z' env p.1) p.2)->∀i,Y3 (Z' env i) (Z' l i):=by
  intro l
  induction l with
  | nil=>intro _ i;exact .Zs _
  | cons p l s=>
   intro c i;simp only[Z'];split
   .rename_i e;rw[<-e];exact c p J
   .exact s (λq u=>c q (by simp[u])) i
 exact f g mn x cs b S B H t h j ⟨a.holds,λi=>r env' d i S B σ _ (a.Zn i),a.size,a.rows⟩ n o
end Go.TL
namespace Go.TL
open Go.Proofs.Tryz
open Go.Proofs
variable [ZV]
theorem IP (k:List Int) (v:Int) (a:List Int):∀m:List (List Int×Int),Uz (Wt m k v) a=if a=k then some v else Uz m a
 | []=>by by_cases h:a=k<;>simp[Wt,Uz,h]
 | e::r=>by
  have c:=IP k v a r;by_cases h:k=e.1
  .subst h;by_cases b:a=e.1<;>simp[Wt,Uz,b]
  .by_cases b:a=e.1
   .have:¬a=k:=λΦ=>h (Φ▸b);simp[Wt,Uz,h,b,YZ h]
   .simp[Wt,Uz,h,b,c]
section
variable {α:Type} (key:α->List Int) (v:α->Int)
theorem BT:∀(l:List α) (m:List (List Int×Int)),(l.foldl (λm e=>Tb m (key e) (v e)) (some m)).isSome=true↔(∀x∈l,∀y∈l,key x=key y->v x=v y)/\∀x∈l,∀w,Uz m (key x)=some w->w=v x
 | [],m=>J
 | e::l,m=>by
  have n:∀l:List α,(l.foldl (λm e=>Tb m (key e) (v e)) none)=none:=λl=>by
   induction l with
   | nil=>rfl
   | cons a l o=>exact o
  rw[List.foldl_cons];by_cases k:∃w,Uz m (key e)=some w/\w≠v e
  .obtain⟨w,i,c⟩:=k;have:Tb (some m) (key e) (v e)=none:=by simp[Tb,i,c]
   rw[this,n];simp only[Option.isSome_none,Xo,false_iff,not_and];intro _ j;exact c (j e J w i)
  .have p:Tb (some m) (key e) (v e)=some (Wt m (key e) (v e)):=by
    cases h:Uz m (key e) with
    | none=>simp[Tb,h]
    | some w=>
     have:w=v e:=Va λc=>k ⟨w,h,c⟩;simp[Tb,h,this]
   rw[p,BT l];constructor
   .rintro⟨i,c⟩;have j:∀x∈l,key x=key e->v e=v x:=λx b d=>c x b (v e) (by rw[IP,if_pos d]);refine⟨λx b y f d=>?_,λx b w g=>?_⟩
    .rcases Zf.1 b with b|b<;>rcases Zf.1 f with f|f
     .rw[b,f]
     .rw[b] at d ⊢;exact j y f d.symm
     .rw[f] at d ⊢;exact(j x b d).symm
     .exact i x b y f d
    .rcases Zf.1 b with rfl|b
     .exact Va λc=>k ⟨w,g,λe=>c e⟩
     .by_cases d:key x=key e
      .rw[d] at g;have:w=v e:=Va λc=>k ⟨w,g,c⟩;rw[this];exact j x b d
      .exact c x b w (by rw[IP,if_neg d];exact g)
   .rintro⟨i,c⟩;refine⟨λx b y f=>i x (by simp[b]) y (by simp[f]),λx b w g=>?_⟩;rw[IP] at g;split at g
    .rename_i d;cases g;exact i e J x (by simp[b]) d.symm
    .exact c x (by simp[b]) w g
end
abbrev Vb:=(Int×Int)×(Int×Int)
theorem r7 {n:Nat} {r:Int×Int}:r∈LS n↔(-1<=r.1/\r.1<n)/\(-1<=r.2/\r.2<n):=by
 unfold LS V0 Uc;simp only[OT,Zc,Wm];constructor
 .rintro⟨x,a,y,b,rfl⟩;simp only;omega
 .rintro⟨⟨c,d⟩,e,f⟩;exact⟨(r.1+1).toNat,U,(r.2+1).toNat,U,Prod.ext (by simp only;omega) (by simp only;omega)⟩
theorem Gh {s:Δ} (h:Yd s):Od s (ZQ s):=by
 have g:=h.many;refine⟨by have:=N5 s;omega,λf a=>?_,λf a=>?_,?_⟩
 .obtain⟨k,_,_,rfl⟩:=Gl.1 a;refine⟨by simp[X4],λc b=>⟨by have:=Gm h (Yz k) c b;omega,λr d=>?_⟩⟩;obtain⟨i,_,rfl⟩:=Zc.1 b;have:=r7.1 (S0.1 d).1;omega
 .obtain⟨k,_,_,rfl⟩:=Gl.1 a;have j:(X4 s (Yz k)).cells.length=s.cells.length:=by simp[X4]
  refine⟨U,λe i hi=>by have:=Lo h (Yz k) e (i:=i) U;omega⟩
 .rw[sz];have:=se h 3;omega
def VI:List (Int×Int)->Int->Int
 | [],_=>0
 | e::r,k=>if k=e.1 then e.2 else VI r k
theorem BS (k n v:Int):∀m:List (Int×Int),VI (Wf m k n) v=if v=k then IntKind.i64.wrap (VI m k+n) else VI m v
 | []=>by by_cases h:v=k<;>simp[Wf,VI,h]
 | e::r=>by
  have b:=BS k n v r;by_cases h:k=e.1
  .by_cases a:v=e.1<;>simp[Wf,VI,h,a]
  .by_cases a:v=e.1
   .have:¬v=k:=λΦ=>h (Φ▸a);simp only[Wf,if_neg h,VI,if_pos a,if_neg this]
   .simp only[Wf,if_neg h,VI,if_neg a,b]
abbrev RZ (m:List (Int×Int)):Prop:=(m.map (·.1)).Nodup
theorem BR (k n x:Int):∀m:List (Int×Int),x∈(Wf m k n).map (·.1)->x=k\/x∈m.map (·.1)
 | []=>by simp[Wf]
 | e::r=>by
  have b:=BR k n x r;by_cases h:k=e.1
  .simp only[Wf,if_pos h,X3,Zf];rintro(a|a)
   .exact .inl a
   .exact .inr (.inr a)
  .simp only[Wf,if_neg h,X3,Zf];rintro(a|a)
   .exact .inr (.inl a)
   .rcases b a with a|a
    .exact .inl a
    .exact .inr (.inr a)
theorem BQ (k n:Int):∀m:List (Int×Int),RZ m->RZ (Wf m k n)
 | [],_=>by simp[RZ,Wf]
 | e::r,h=>by
  have c:=S1.1 h;by_cases a:k=e.1
  .simp only[RZ,Wf,if_pos a,X3];rw[a];exact h
  .simp only[RZ,Wf,if_neg a,X3];refine S1.2 ⟨λd=>?_,BQ k n r c.2⟩;rcases BR k n _ r d with b|b
   .exact a b.symm
   .exact c.1 b
theorem BP:∀(m:List (Int×Int)) (k:Int),VI m k=0\/∃e∈m,VI m k=e.2
 | [],_=>.inl rfl
 | e::r,k=>by
  by_cases h:k=e.1
  .exact .inr ⟨e,J,by simp[VI,h]⟩
  .rcases BP r k with a|⟨x,b,a⟩
   .exact .inl (by simp only[VI,if_neg h];exact a)
   .exact .inr ⟨x,by simp[b],by simp only[VI,if_neg h];exact a⟩
theorem BO:∀(m:List (Int×Int)),RZ m->∀e∈m,VI m e.1=e.2
 | [],_,_,h=>by cases h
 | x::r,b,e,he=>by
  have a:=S1.1 b;rcases Zf.1 he with rfl|he
  .simp[VI]
  .have:¬e.1=x.1:=λh=>a.1 (by show x.1∈r.map (·.1);rw[<-h];exact Zc.2 ⟨e,he,rfl⟩);simp only[VI,if_neg this];exact BO r a.2 e he
theorem BN:∀(l:List (Int×Int)) (a:Int),a<=Ua a l/\(∀e∈l,e.2<=Ua a l)/\(Ua a l=a\/∃e∈l,e.2=Ua a l)
 | [],a=>⟨Int.le_refl _,(λ_ h=>by cases h),.inl rfl⟩
 | x::r,a=>by
  obtain⟨d,c,b⟩:=BN r (max a x.2);show a<=Ua (max a x.2) r/\(∀e∈x::r,e.2<=Ua (max a x.2) r)/\(Ua (max a x.2) r=a\/∃e∈x::r,e.2=Ua (max a x.2) r);refine⟨U,λe he=>?_,?_⟩
  .rcases Zf.1 he with rfl|he
   .omega
   .exact c e he
  .rcases b with b|⟨e,he,b⟩
   .by_cases h:a<=x.2
    .exact .inr ⟨x,J,U⟩
    .exact .inl U
   .exact .inr ⟨e,by simp[he],b⟩
theorem BM {e:Type} (b:e->Int) (w:Nat):∀(l:List e) (m:List (Int×Int)) (T:Int->Nat),RZ m->(∀v,VI m v=T v)->(∀v,T v+l.length*w<2 ^ 62)->
  RZ (l.foldl (λm r=>Wf m (b r) w) m)/\∀v,VI (l.foldl (λm r=>Wf m (b r) w) m) v=((T v+(l.countP λr=>decide (b r=v))*w:Nat):Int)
 | [],m,T,c,h,_=>⟨c,λv=>by simp[h v]⟩
 | a::l,m,T,c,h,f=>by
  obtain⟨g,i⟩:=BM b w l (Wf m (b a) w) (λv=>if v=b a then T v+w else T v) (BQ _ _ _ c) (λv=>by
   have d:=f (b a);rw[List.length_cons,Xi] at d;rw[BS,h (b a)];by_cases hv:v=b a
   .rw[if_pos hv,if_pos hv,hv,IntWalk.i64_in _ U];omega
   .rw[if_neg hv,if_neg hv,h v]) (λv=>by
   have d:=f v;rw[List.length_cons,Xi] at d;split<;>omega)
  refine⟨g,λv=>?_⟩;rw[List.foldl_cons,i v,List.countP_cons];by_cases hv:v=b a
  .have:decide (b a=v)=true:=by simp[hv]
   rw[if_pos hv,this];simp only[if_true];rw[Xi];omega
  .have:decide (b a=v)=false:=by simp[YZ hv]
   rw[if_neg hv,this];simp
theorem BL {a:Type} (n:Nat):∀l:List a,(l.map λ_=>n).sum=l.length*n
 | []=>J
 | x::l=>by rw[X3,List.sum_cons,BL n l,List.length_cons,Xi];omega
theorem BK (l:List (List (Int×Int))) (c:Nat):∀i,i<=c->Xb l c i=Xb l (-1) i
 | 0,_=>by simp[Xb]
 | i+1,h=>by
  rw[Pl,Pl,BK l c i U,if_neg U,if_neg U]
theorem r6 {n:Nat}:∀{l:List Int} {a:Int},l.Pairwise (· < ·)->(∀x∈l,a<=x/\x<a+n)->l.length<=n:=by
 induction n with
 | zero=>
  intro l a _ h;cases l with
  | nil=>simp
  | cons x l=>have:=h x J;omega
 | succ n c=>
  intro l a d h;cases l with
  | nil=>simp
  | cons x l=>
   obtain⟨e,f⟩:=List.pairwise_cons.1 d;have g:=h x J;have:=c (a:=a+1) f λy b=>by have:=e y b;have:=h y (by simp[b]);omega
   simp only[List.length_cons];omega
end Go.TL
