import Derived.Test.YtlabjopijpkiaaaGreatCAJ
set_option maxHeartbeats 16000000
set_option maxRecDepth 20000
set_option linter.unusedSectionVars false
set_option linter.unusedSimpArgs false
set_option linter.unusedVariables false
namespace Go.TL
open Go.Proofs.Tryz
open Go.Proofs
variable [ZN]
theorem sK (S:Tx) (aH:S=WL\/S=Wm) (d:Array (Int×Int)) (n a b:Nat) (ay:d.size=n) (aW:n<2 ^ 40) (aI:a<b) (aX:b<=n) (m:I) (h:Int×Int->Int×Int->Int) (aY:ψ 0 m) (aj:∀x y,Xu prog m [S.enc x,S.enc y] (R (h x y))) :
  Μ prog S.partialInsertionSort [.ms 0 n 0 n,R a,R b,m] [.cells S.t S.k ((d).toList.map S.enc)] (λr s=>r=ZU (Go.Sort.partialInsertionSort (χ h) d a b).2/\s=[.cells S.t S.k (((Go.Sort.partialInsertionSort (χ h) d a b).1).toList.map S.enc)]) (λ_ _=>False):=by
 obtain⟨enc,ak⟩:=Ι S.enc;rcases aH with rfl|rfl
 all_goals dsimp only[WL,Wm] at *
 refine Μ.body Υ func239 rfl rfl ntmps239 rfl rfl J ?_
 rotate_left
 refine Μ.body Υ func188 rfl rfl ntmps188 rfl rfl J ?_
 all_goals
  obtain⟨az,al⟩:=Zl (Go.Sort.partialIns (χ h) a b 5 (a+1) d);have aA:Go.Sort.partialInsertionSort (χ h) d a b=az:=al;rw[aA];have w1:=XP (i:=a) U;refine Ζ w1 ?_;refine W.iter (λq:Nat×Nat×Array (Int×Int)=>q.1<=5/\a+1<=q.2.1/\q.2.1<=b/\q.2.2.size=n/\Go.Sort.partialIns (χ h) a b (5-q.1) q.2.1 q.2.2=az) (λq=>[(0,.ms 0 n 0 n),(1,R a),(2,R b),(3,m),(9,R (q.2.1:Nat)),(10,R (q.1:Nat))]) (λq=>[.cells _ _ ((q.2.2).toList.map _)]) (λq=>5-q.1) (0,a+1,d) ⟨Ε _,Z1 _,aI,ay,al⟩ rfl (by simp[w1]) (λq N aJ=>?_);clear al aA ay w1;obtain⟨st,i,e⟩:=q;obtain⟨aK,aL,am,ah,l⟩:=N;simp only at aK aL am ah l;refine W.to (σ':=[.cells _ _ ((e).toList.map _)]) (env':=[(0,.ms 0 n 0 n),(1,R a),(2,R b),(3,m),(9,R (i:Nat)),(10,R (st:Nat))]) ?_ rfl J;by_cases Z:st<5
  case neg=>
   have g:¬(st:Int)<5:=U;refine Ζ g ?_;refine Η J ?_;refine W.exit rfl ?_;refine Χ ?_;obtain rfl:st=5:=U;exact W.ret ⟨_,rfl,by rw[<-l];rfl,by rw[<-l];rfl⟩
  have aM:(st:Int)<5:=U;refine Ζ aM ?_;refine Γ J ?_;obtain⟨c,an⟩:=Zl (Go.Sort.scanSorted (χ h) e b i);have aN:=sS (χ h) e (b:=b) (b-i) i (Z1 _) am;rw[an] at aN;rw[show 5-st=(4-st)+1 by omega,Go.Sort.partialIns] at l;simp only[an] at l
  repeat apply Ξ
  refine W.te [(0,.ms 0 n 0 n),(1,R a),(2,R b),(3,m),(9,R (c:Nat)),(10,R (st:Nat))] (e) [] ?_ ?_
  .clear l;refine W.iter (λk:Nat=>i<=k/\k<=b/\Go.Sort.scanSorted (χ h) e b k=c) (λk=>[(0,.ms 0 n 0 n),(1,R a),(2,R b),(3,m),(9,R (k:Nat)),(10,R (st:Nat))]) (λ_=>[.cells _ _ ((e).toList.map _)]) (λk=>b-k) i ⟨Z1 _,am,an⟩ rfl J (λk aO ae=>?_);obtain⟨aZ,a0,ao⟩:=aO;by_cases O:k<b
   .obtain⟨p,ap⟩:=Ι (k-1);have v:k<n:=U;have w:p<n:=U;obtain⟨L,x,y,o,B,C,T,⟨D,E⟩,⟨H,K⟩,-,-⟩:=PN enc ah v w;simp only[ak] at o D E H K;have P:Go.Sort.scanSorted (χ h) e b k=if(!χ h x y)=true then Go.Sort.scanSorted (χ h) e b (k+1) else k:=by rw[Go.Sort.scanSorted];simp[O,B,<-ap,C]
    have aB:=XP (i:=k) U
    have aP:IntKind.i64.wrap ((k:Int)-1)=(p:Int):=by rw[IntWalk.i64_in _ U];omega
    refine W.IG o [(0,.ms 0 n 0 n),(1,R a),(2,R b),(3,m),(9,R (k:Nat)),(10,R (st:Nat))] J ?_;clear B C
    repeat apply Ξ
    refine W.draw (A:=[]) Υ mixed λaq V=>Ve (Τ O (Τ aP (Τ T (Τ D (Τ E (Τ H (Τ K (Τ v w)))))))) ?_;refine Ys (aj x y) ?_;simp;(repeat (rw[ZG];simp));try rw[ZH]
    refine YF (V _ _ ?_);by_cases u:h x y<0
    .refine Η (by simp[u]) ?_;refine W.exit rfl ?_;exact W.stop ⟨rfl,by rw[o],by rw[<-ao,P];simp[u,χ]⟩
    .refine Γ (by simp[u]) ?_;refine Ζ aB ?_;exact W.to (ae (k+1) ⟨U,U,by rw[<-ao,P];simp[u,χ]⟩ Yl) (by rw[o]) (by simp[aB])
   .repeat apply Ξ
    refine W0 O ?_;refine Η rfl ?_;refine W.exit rfl ?_;have e:Go.Sort.scanSorted (χ h) e b k=k:=by rw[Go.Sort.scanSorted];simp[O]
    exact W.stop ⟨rfl,rfl,by rw[<-ao,e];simp⟩
  by_cases ai:c=b
  .have g:(c:Int)=(b:Int):=U
   rw[if_pos ai] at l;refine Ζ g ?_;refine Γ (by simp[ai]) ?_;refine Χ ?_;exact W.ret ⟨_,rfl,by rw[<-l];rfl,by rw[<-l]⟩
  have g:¬(c:Int)=(b:Int):=U
  have aC:=Le (a:=a) (b:=b) U U;rw[if_neg ai] at l;refine Ζ g ?_;refine Η (by simp[ai]) ?_;by_cases aD:b-a<50
  .have ar:((b-a:Nat):Int)<50:=U
   rw[if_pos aD] at l;refine Ζ (Τ aC ar) ?_;refine Γ J ?_;refine Χ ?_;exact W.ret ⟨_,rfl,by rw[<-l];rfl,by rw[<-l]⟩
  have ar:¬((b-a:Nat):Int)<50:=U;rw[if_neg aD] at l;refine Ζ (Τ aC ar) ?_;refine Η J ?_;obtain⟨p,ap⟩:=Ι (c-1);have aE:IntKind.i64.wrap ((c:Int)-1)=(p:Int):=by rw[IntWalk.i64_in _ U];omega
  rw[<-ap] at l;refine W.two _ ah (i:=c) (j:=p) U U λL x y z B C F o Q=>?_
  repeat apply Ξ
  refine W.draw (A:=[]) Υ mixed λaq V=>?_;simp;(repeat (rw[ZG];simp[F,aE]));try rw[ZH];refine YF (V _ _ ?_)
  refine W.back Q [(0,.ms 0 n 0 n),(1,R a),(2,R b),(3,m),(9,R (c:Nat)),(10,R (st:Nat))] J ?_;clear F Q o B C L x y z;obtain⟨aa,aF⟩:=Ι (Go.Sort.swp e c p);have au:aa.size=n:=by rw[aF];exact swp_size ah c p
  rw[<-aF] at l ⊢;have aQ:=Le (a:=a) (b:=c) U U;obtain⟨Φ,X⟩:=Ι (if c-a>=2 then Go.Sort.shiftDown (χ h) p aa else aa);rw[<-X] at l;have av:Φ.size=n:=by rw[X];split;exact sR (χ h) p aa au;exact au
  refine Ζ aQ ?_;refine W.N1 [(0,.ms 0 n 0 n),(1,R a),(2,R b),(3,m),(9,R (c:Nat)),(10,R (st:Nat))] (Φ) [] ?_ ?_
  .clear l;by_cases af:2<=c-a
   .rw[if_pos af] at X;refine Γ (by simp;omega) ?_;refine Ζ aE ?_;subst X;refine W.iter (λq:Nat×Array (Int×Int)=>q.1<=p/\q.2.size=n/\Go.Sort.shiftDown (χ h) q.1 q.2=Go.Sort.shiftDown (χ h) p aa) (λq=>[(0,.ms 0 n 0 n),(1,R a),(2,R b),(3,m),(9,R (c:Nat)),(10,R (st:Nat)),(11,R (q.1:Nat))]) (λq=>[.cells _ _ ((q.2).toList.map _)]) (λq=>q.1) (p,aa) ⟨Z1 _,au,rfl⟩ rfl J (λq N ae=>?_);obtain⟨j,f⟩:=q;obtain⟨aw,Y,M⟩:=N;simp only at aw Y M;refine W.to (σ':=[.cells _ _ ((f).toList.map _)]) (env':=[(0,.ms 0 n 0 n),(1,R a),(2,R b),(3,m),(9,R (c:Nat)),(10,R (st:Nat)),(11,R (j:Nat))]) ?_ rfl J;by_cases O:1<=j
    .have g:(1:Int)<=(j:Int):=U
     refine Ζ g ?_;refine Γ J ?_;obtain⟨q,N⟩:=Ι (j-1);have ab:IntKind.i64.wrap ((j:Int)-1)=(q:Int):=by rw[IntWalk.i64_in _ U];omega
     have ag:IntKind.i64.wrap ((j:Int)-1)=(q:Int):=ab
     have v:j<n:=U
     have w:q<n:=U;obtain⟨L,x,y,o,B,C,T,⟨D,E⟩,⟨H,K⟩,Q,aR,Z⟩:=PN enc Y v w;simp only[ak] at o D E H K Q Z;have P:Go.Sort.shiftDown (χ h) j f=if(!χ h x y)=true then f else Go.Sort.shiftDown (χ h) q (Go.Sort.swp f j q):=by
      obtain rfl:j=q+1:=U;rw[Go.Sort.shiftDown,B,C]
     refine W.IG o [(0,.ms 0 n 0 n),(1,R a),(2,R b),(3,m),(9,R (c:Nat)),(10,R (st:Nat)),(11,R (j:Nat))] J ?_;clear B C
     repeat apply Ξ
     refine W.draw (A:=[]) Υ mixed λaq V=>Ve (Τ ab (Τ T (Τ D (Τ E (Τ H (Τ K (Τ v w))))))) ?_;refine Ys (aj x y) ?_;simp;(repeat (rw[ZG];simp));try rw[ZH]
     refine YF (V _ _ ?_);by_cases u:h x y<0
     .refine Η (by simp[u]) ?_;refine W.to (σ':=[.cells _ _ L]) (env':=[(0,.ms 0 n 0 n),(1,R a),(2,R b),(3,m),(9,R (c:Nat)),(10,R (st:Nat)),(11,R (j:Nat))]) ?_ rfl J
      repeat apply Ξ
      refine W0 (Τ ab (Τ T (Τ D (Τ E (Τ H (Τ K (Τ Z (Τ v w)))))))) ?_;refine Ζ ag ?_;exact W.to (ae (q,Go.Sort.swp f j q) ⟨U,swp_size Y j q,by rw[<-M,P];simp[u,χ]⟩ Yl) (by rw[Q]) (by simp[ag])
     .refine Γ (by simp[u]) ?_;refine W.exit rfl ?_;exact W.stop ⟨rfl,by rw[<-o,<-M,P];simp[u,χ],J⟩
    .have g:¬(1:Int)<=(j:Int):=U
     refine Ζ g ?_;refine Η J ?_;refine W.exit rfl ?_;have e:Go.Sort.shiftDown (χ h) j f=f:=by
      obtain rfl:j=0:=U;rfl
     exact W.stop ⟨rfl,by rw[<-M,e],J⟩
   .rw[if_neg af] at X;refine Η (by simp;omega) ?_;refine W.skip ?_;exact W.stop ⟨rfl,by rw[X],J⟩
  clear X;have aS:=Le (a:=c) (b:=b) U U;have aT:=XP (i:=c) U;have aG:=XP (i:=st) U;obtain⟨ax,ad⟩:=Ι (if b-c>=2 then Go.Sort.shiftUp (χ h) b (c+1) Φ else Φ);rw[<-ad] at l;have aU:ax.size=n:=by rw[ad];split;exact sQ (χ h) (b-(c+1)) (c+1) Φ (Z1 _) av;exact av
  refine Ζ aS ?_;refine W.N1 [(0,.ms 0 n 0 n),(1,R a),(2,R b),(3,m),(9,R (c:Nat)),(10,R (st:Nat))] (ax) [] ?_ ?_
  .clear l;by_cases af:2<=b-c
   .rw[if_pos af] at ad;refine Γ (by simp;omega) ?_;refine Ζ aT ?_;subst ad;refine W.iter (λq:Nat×Array (Int×Int)=>c+1<=q.1/\q.1<=b/\q.2.size=n/\Go.Sort.shiftUp (χ h) b q.1 q.2=Go.Sort.shiftUp (χ h) b (c+1) Φ) (λq=>[(0,.ms 0 n 0 n),(1,R a),(2,R b),(3,m),(9,R (c:Nat)),(10,R (st:Nat)),(12,R (q.1:Nat))]) (λq=>[.cells _ _ ((q.2).toList.map _)]) (λq=>b-q.1) (c+1,Φ) ⟨Z1 _,U,av,rfl⟩ rfl J (λq N ae=>?_);obtain⟨j,f⟩:=q;obtain⟨aw,aV,Y,M⟩:=N;simp only at aw aV Y M;refine W.to (σ':=[.cells _ _ ((f).toList.map _)]) (env':=[(0,.ms 0 n 0 n),(1,R a),(2,R b),(3,m),(9,R (c:Nat)),(10,R (st:Nat)),(12,R (j:Nat))]) ?_ rfl J;by_cases O:j<b
    .have g:(j:Int)<(b:Int):=U
     refine Ζ g ?_;refine Γ J ?_;obtain⟨q,N⟩:=Ι (j-1);have ab:IntKind.i64.wrap ((j:Int)-1)=(q:Int):=by rw[IntWalk.i64_in _ U];omega
     have ag:=XP (i:=j) U
     have v:j<n:=U
     have w:q<n:=U;obtain⟨L,x,y,o,B,C,T,⟨D,E⟩,⟨H,K⟩,Q,aR,Z⟩:=PN enc Y v w;simp only[ak] at o D E H K Q Z;have P:Go.Sort.shiftUp (χ h) b j f=if(!χ h x y)=true then f else Go.Sort.shiftUp (χ h) b (j+1) (Go.Sort.swp f j q):=by
      rw[Go.Sort.shiftUp,if_pos O,<-N,B,C]
     refine W.IG o [(0,.ms 0 n 0 n),(1,R a),(2,R b),(3,m),(9,R (c:Nat)),(10,R (st:Nat)),(12,R (j:Nat))] J ?_;clear B C
     repeat apply Ξ
     refine W.draw (A:=[]) Υ mixed λaq V=>Ve (Τ ab (Τ T (Τ D (Τ E (Τ H (Τ K (Τ v w))))))) ?_;refine Ys (aj x y) ?_;simp;(repeat (rw[ZG];simp));try rw[ZH]
     refine YF (V _ _ ?_);by_cases u:h x y<0
     .refine Η (by simp[u]) ?_;refine W.to (σ':=[.cells _ _ L]) (env':=[(0,.ms 0 n 0 n),(1,R a),(2,R b),(3,m),(9,R (c:Nat)),(10,R (st:Nat)),(12,R (j:Nat))]) ?_ rfl J
      repeat apply Ξ
      refine W0 (Τ ab (Τ T (Τ D (Τ E (Τ H (Τ K (Τ Z (Τ v w)))))))) ?_;refine Ζ ag ?_;exact W.to (ae (j+1,Go.Sort.swp f j q) ⟨U,U,swp_size Y j q,by rw[<-M,P];simp[u,χ]⟩ Yl) (by rw[Q]) (by simp[ag])
     .refine Γ (by simp[u]) ?_;refine W.exit rfl ?_;exact W.stop ⟨rfl,by rw[<-o,<-M,P];simp[u,χ],J⟩
    .have g:¬(j:Int)<(b:Int):=U
     refine Ζ g ?_;refine Η J ?_;refine W.exit rfl ?_;have e:Go.Sort.shiftUp (χ h) b j f=f:=by rw[Go.Sort.shiftUp,if_neg O]
     exact W.stop ⟨rfl,by rw[<-M,e],J⟩
   .rw[if_neg af] at ad;refine Η (by simp;omega) ?_;refine W.skip ?_;exact W.stop ⟨rfl,by rw[ad],J⟩
  refine Ζ aG ?_;exact W.to (aJ (st+1,c,ax) ⟨Yl,Yl,Yl,aU,by simp only;rw[show 5-(st+1)=4-st by omega];exact l⟩ Yl) rfl (by simp[aG])
theorem sJ (S:Tx) (X:S=WL\/S=Wm) (n:Nat) (bB:n<256) (C:I) (c:Int×Int->Int×Int->Int) (Y:ψ 0 C) (Q:∀x y,Xu prog C [S.enc x,S.enc y] (R (c x y))) (ak:Go.Sort.SWO (χ c)):∀(k:Nat) (d:Array (Int×Int)) (a b j:Nat),d.size=n->b-a<=k->a<=b->b<=n->j<2 ^ 40->Go.Sort.Below (χ c) a b d->
  Μ prog S.s0 [.ms 0 n 0 n,R a,R b,R j,C] [.cells S.t S.k ((d).toList.map S.enc)] (λr s=>r=.ZV []/\s=[.cells S.t S.k ((Go.Sort.pdq (χ c) d a b j true true).toList.map S.enc)]) (λ_ _=>False):=by
 intro k
 induction k using Nat.strongRecOn with
 | _ k a0=>
 intro d a b j bl aA al D aB am;have bm:=sL S X;have bn:=sV S X;have bo:=sZ S X;have bp:=sX S X;have bq:=sY S X;have a1:=sK S X;have br:=sO S X;have bs:=sU S X;obtain⟨enc,bt⟩:=Ι S.enc;rcases X with rfl|rfl
 all_goals dsimp only[WL,Wm] at *
 refine Μ.body Υ func211 rfl rfl ntmps211 rfl rfl J ?_
 rotate_left
 refine Μ.body Υ func149 rfl rfl ntmps149 rfl rfl J ?_
 all_goals
  obtain⟨bu,aJ⟩:=Zl (Go.Sort.pdq (χ c) d a b j true true);rw[aJ];refine Χ ?_;refine W.iter (λq:s9 (Int×Int)=>q.e.size=n/\q.a<=q.b/\q.b<=n/\q.b-q.a<=k/\q.lim<2 ^ 40/\Go.Sort.Below (χ c) q.a q.b q.e/\Go.Sort.pdq (χ c) q.e q.a q.b q.lim q.wb q.wp=bu) (λq=>[(0,.ms 0 n 0 n),(1,R (q.a:Nat)),(2,R (q.b:Nat)),(3,R (q.lim:Nat)),(4,C),(10,ZU q.wb),(11,ZU q.wp)]) (λq=>[.cells _ _ ((q.e).toList.map _)]) (λq=>q.b-q.a) ⟨a,b,j,true,true,d⟩ ⟨bl,al,D,aA,aB,am,aJ⟩ rfl J (λq bv aK=>?_);clear aJ am aB D al aA;obtain⟨a,b,j,wb,wp,e⟩:=q;obtain⟨an,al,D,aA,aB,am,ah⟩:=bv;simp only at an al D aA aB am ah;obtain⟨l,aL⟩:=Ι (b-a);have w1:IntKind.i64.wrap ((b:Int)-(a:Int))=(l:Int):=by rw[IntWalk.i64_in _ U];omega
  refine W.to (σ':=[.cells _ _ ((e).toList.map _)]) (env':=[(0,.ms 0 n 0 n),(1,R (a:Nat)),(2,R (b:Nat)),(3,R (j:Nat)),(4,C),(10,ZU wb),(11,ZU wp)]) ?_ rfl J;by_cases ai:b-a<=12
  .have g:(l:Int)<=12:=U
   refine Ζ (Τ w1 g) ?_;refine Γ J ?_;refine ZP λO o=>?_;refine Μ.call (first:=[]) (captured:=[]) ((bo e n a b an al D U C c Y Q).mono (λr s ⟨w,B⟩=>?_) (λ_ _ h=>h.elim));subst w;subst B;simp;(repeat (rw[Ν];simp));apply o;rw[Go.Sort.pdq_small ai] at ah;exact W.ret ⟨_,rfl,rfl,by rw[<-ah]⟩
  have g:¬(l:Int)<=12:=U;refine Ζ (Τ w1 g) ?_;refine Η J ?_;by_cases ad:j=0
  .have aM:(j:Int)=0:=U
   refine Ζ aM ?_;refine Γ (by simp[ad]) ?_;refine ZP λO o=>?_;refine Μ.call (first:=[]) (captured:=[]) ((bn e n a b an U U D C c Y Q).mono (λr s ⟨w,B⟩=>?_) (λ_ _ h=>h.elim));subst w;subst B;simp;(repeat (rw[Ν];simp));apply o;rw[Go.Sort.pdq_heap ai ad] at ah;exact W.ret ⟨_,rfl,rfl,by rw[<-ah]⟩
  have aM:¬(j:Int)=0:=U;refine Ζ aM ?_;refine Η (by simp[ad]) ?_;refine Χ ?_;have F:=Go.Sort.rd_facts (limit:=j) (wb:=wb) (wp:=wp) ak Go.Sort.partialInsertionSort_holds Go.Sort.reverseRange_holds (by omega:a<b) U am;have a2:=Go.Sort.rd_lim_le (lt:=(χ c)) (d:=e) (a:=a) (b:=b) (limit:=j) (wb:=wb) (wp:=wp);have aC:=λh:wb=false=>show(Go.Sort.rd (χ c) e a b j wb wp).d1=Go.Sort.breakPatterns e a b/\(Go.Sort.rd (χ c) e a b j wb wp).lim=j-1 by subst h;exact Go.Sort.rd_false
  have aD:=λh:wb=true=>show(Go.Sort.rd (χ c) e a b j wb wp).d1=e/\(Go.Sort.rd (χ c) e a b j wb wp).lim=j by subst h;exact Go.Sort.rd_true
  have aE:=Go.Sort.rd_c (lt:=(χ c)) (d:=e) (a:=a) (b:=b) (limit:=j) (wb:=wb) (wp:=wp)
  have Fd:=Go.Sort.rd_dec (lt:=(χ c)) (d:=e) (a:=a) (b:=b) (limit:=j) (wb:=wb) (wp:=wp)
  have Fn:=Go.Sort.rd_not (lt:=(χ c)) (d:=e) (a:=a) (b:=b) (limit:=j) (wb:=wb) (wp:=wp)
  have ao:=Go.Sort.rd_pi_yes (lt:=(χ c)) (d:=e) (a:=a) (b:=b) (limit:=j) (wb:=wb) (wp:=wp)
  have ap:=Go.Sort.rd_pi_no (lt:=(χ c)) (d:=e) (a:=a) (b:=b) (limit:=j) (wb:=wb) (wp:=wp)
  have aq:=Go.Sort.pdq_done (lt:=(χ c)) (d:=e) (wb:=wb) (wp:=wp) ai ad
  have N:=Go.Sort.pdq_eq (lt:=(χ c)) (d:=e) (wb:=wb) (wp:=wp) ai ad
  have E:=Go.Sort.pdq_left (lt:=(χ c)) (d:=e) (wb:=wb) (wp:=wp) ai ad
  have H:=Go.Sort.pdq_right (lt:=(χ c)) (d:=e) (wb:=wb) (wp:=wp) ai ad;rw[ah] at aq N E H;obtain⟨r,a3⟩:=Zl (Go.Sort.rd (χ c) e a b j wb wp);rw[a3] at F a2 aC aD aE Fd Fn ao ap aq N E H;clear a3;obtain⟨d1,K,⟨aN,aO⟩,d2,T,ar,d3,done⟩:=r;simp only at F a2 aC aD aE Fd Fn ao ap aq N E H;obtain⟨aP,bC,bD,aQ,bE,Z,aa,a4⟩:=F;rw[an] at aP aQ aa;refine W.N1 [(0,.ms 0 n 0 n),(1,R (a:Nat)),(2,R (b:Nat)),(3,R (K:Nat)),(4,C),(10,ZU wb),(11,ZU wp),(12,R (l:Nat))] (d1) [] ?_ ?_
  .cases wb with
   | false=>
    obtain⟨f1,f2⟩:=aC rfl;refine Γ rfl ?_;refine ZP λO o=>?_;refine Μ.call (first:=[]) (captured:=[]) ((bm e n a b an U U U D C c Y Q).mono (λr s ⟨w,B⟩=>?_) (λ_ _ h=>h.elim));subst w;subst B;simp;(repeat (rw[Ν];simp));apply o;have au:=Sx (i:=j) U U;refine P5 au ?_;exact W.stop ⟨rfl,by rw[f1],by simp[f2]⟩
   | true=>
    obtain⟨f1,f2⟩:=aD rfl;refine Η rfl ?_;refine W.skip ?_;exact W.stop ⟨rfl,by rw[f1],by simp[f2]⟩
  have aR:=br d1 n a b aP U U D C c Y Q;rw[<-aE] at aR;simp only at aR;refine ZP λO o=>?_;refine Μ.call (first:=[]) (captured:=[]) ((aR).mono (λr s ⟨w,B⟩=>?_) (λ_ _ h=>h.elim));subst w;subst B;simp;(repeat (rw[Ν];simp));apply o;refine W.to (σ':=[.cells _ _ ((d1).toList.map _)]) (env':=[(0,.ms 0 n 0 n),(1,R (a:Nat)),(2,R (b:Nat)),(3,R (K:Nat)),(4,C),(10,ZU wb),(11,ZU wp),(12,R (l:Nat)),(13,R (aN:Nat)),(14,R (MH aO))]) ?_ rfl J;refine Χ ?_;refine W.N1 [(0,.ms 0 n 0 n),(1,R (a:Nat)),(2,R (b:Nat)),(3,R (K:Nat)),(4,C),(10,ZU wb),(11,ZU wp),(12,R (l:Nat)),(13,R (T:Nat)),(14,R (MH ar))] (d2) [] ?_ ?_
  .by_cases hd:aO=.decreasing
   .obtain⟨f1,f2,f3⟩:=Fd hd;subst hd;refine Γ rfl ?_;refine ZP λO o=>?_;refine Μ.call (first:=[]) (captured:=[]) ((bs d1 n a b aP U U D C c Y Q).mono (λr s ⟨w,B⟩=>?_) (λ_ _ h=>h.elim));subst w;subst B;simp;(repeat (rw[Ν];simp));apply o;have au:=Sx (i:=b) U U;have bw:=Le (a:=a) (b:=aN) U U;have a5:=Le (a:=aN-a) (b:=b-1) U U;rw[<-f2] at a5;refine W.seq ?_;refine P5 (Τ au (Τ bw a5)) ?_;refine Wr ?_;exact W.stop ⟨rfl,by rw[f1],by simp[f3,MH]⟩
   .obtain⟨f1,f2,f3⟩:=Fn hd;refine Η (by cases aO with
     | decreasing=>exact absurd rfl hd
     | unknown=>rfl
     | increasing=>rfl) ?_
    refine W.skip ?_;exact W.stop ⟨rfl,by rw[f1],by simp[f2,f3]⟩
  repeat apply Ξ
  refine W.Qd (A:=[]) Υ [(75,ZU (wb&&wp&&decide (ar=.increasing))),(0,.ms 0 n 0 n),(1,R (a:Nat)),(2,R (b:Nat)),(3,R (K:Nat)),(4,C),(10,ZU wb),(11,ZU wp),(12,R (l:Nat)),(13,R (T:Nat))] ?_ (by cases wb<;>cases wp<;>cases ar<;>simp[Ν,SK,MH])
  repeat apply Ξ
  rcases Bool.eq_false_or_eq_true done with ab|ab
  .cases av:(wb&&wp&&decide (ar=.increasing)) with
   | true=>
    have f:=ao av;refine Γ rfl ?_;have M:=a1 d2 n a b aQ U U D C c Y Q;rw[<-f] at M;simp only[ab] at M;refine ZP λO o=>?_;refine Μ.call (first:=[]) (captured:=[]) ((M).mono (λr s ⟨w,B⟩=>?_) (λ_ _ h=>h.elim));subst w;subst B;simp;(repeat (rw[Ν];simp));apply o;refine Γ rfl ?_;exact W.ret ⟨_,rfl,rfl,by rw[aq ab]⟩
   | false=>
    have f:=(Prod.mk.inj (ap av)).2;rw[ab] at f;cases f
  refine W.N1 [(0,.ms 0 n 0 n),(1,R (a:Nat)),(2,R (b:Nat)),(3,R (K:Nat)),(4,C),(10,ZU wb),(11,ZU wp),(12,R (l:Nat)),(13,R (T:Nat))] (d3) [] ?_ ?_
  .cases av:(wb&&wp&&decide (ar=.increasing)) with
   | true=>
    have f:=ao av;refine Γ rfl ?_;have M:=a1 d2 n a b aQ U U D C c Y Q;rw[<-f] at M;simp only[ab] at M;refine ZP λO o=>?_;refine Μ.call (first:=[]) (captured:=[]) ((M).mono (λr s ⟨w,B⟩=>?_) (λ_ _ h=>h.elim));subst w;subst B;simp;(repeat (rw[Ν];simp));apply o;refine Η rfl ?_;refine W.skip ?_;exact W.stop ⟨rfl,rfl,J⟩
   | false=>
    have f1:=(Prod.mk.inj (ap av)).1;refine Η rfl ?_;refine W.skip ?_;exact W.stop ⟨rfl,by rw[f1],J⟩
  clear aq ao ap Fd Fn aE aC aD;have N:=N ab;have E:=E ab;have H:=H ab;obtain⟨P,ae⟩:=Zl ((decide (a > 0)&&!χ c d3[a-1]! d3[T]!):Bool);rw[ae] at N E H
  repeat apply Ξ
  refine W.Nj (A:=[]) Υ mixed [(97,ZU P),(0,.ms 0 n 0 n),(1,R (a:Nat)),(2,R (b:Nat)),(3,R (K:Nat)),(4,C),(10,ZU wb),(11,ZU wp),(12,R (l:Nat)),(13,R (T:Nat))] ?_ (by
   by_cases aS:0<a
   .obtain⟨p,bx⟩:=Ι (a-1);have a6:p<n:=U;have a7:T<n:=U;obtain⟨L,x,y,a8,V,a9,aL,⟨a',ba⟩,⟨bb,bc⟩,-,-⟩:=PN enc aa a6 a7;simp only[bt] at a8 a' ba bb bc;have aT:P = !χ c x y:=by rw[<-ae,<-bx,V,a9];simp[aS]
    have aU:(0:Int)<(a:Int):=U
    have au:IntKind.i64.wrap ((a:Int)-1)=(p:Int):=by rw[IntWalk.i64_in _ U];omega
    rw[a8];clear V a9;simp;(repeat (rw[ZG];simp[aS,aU,au,aL,a',ba,bb,bc,a6,a7]));(try rw[ZH]);refine Ys (Q x y) ?_;simp;(repeat (rw[ZG];simp));(try rw[ZH]);refine⟨Yt (by kernel_rfl),?_⟩;simp[aT,χ]
   .have aT:P=false:=by rw[<-ae];simp[aS]
    have aU:a=0:=U;subst aU;simp;(repeat (rw[ZG];simp));(try rw[ZH]);refine⟨Yt (by kernel_rfl),?_⟩;simp[aT])
  repeat apply Ξ
  rcases Bool.eq_false_or_eq_true P with af|af
  .refine Γ (by simp[af]) ?_;rw[af] at ae;simp only[VT,decide_eq_true_eq,Bool.not_eq_true'] at ae;obtain⟨⟨mid,d4⟩,V⟩:∃r,Go.Sort.partitionEqual (χ c) d3 a b T=r:=⟨_,rfl⟩;obtain⟨ag,aw,aV,aF,-⟩:=Go.Sort.round_eq ak (Go.Sort.partitionEqual_holds _) ae.1 Z.1 Z.2 (by rw[aa];exact D) a4 ae.2 V;have N:=N af;rw[V] at N;have N:=N ⟨ag,aw⟩;simp only at N;have M:=bp d3 n a b T aa U Z.1 Z.2 D C c Y Q;rw[V] at M;simp only at M;refine ZP λO o=>?_;refine Μ.call (first:=[]) (captured:=[]) ((M).mono (λr s ⟨w,B⟩=>?_) (λ_ _ h=>h.elim));subst w;subst B;simp;(repeat (rw[Ν];simp));apply o;refine Χ ?_;refine W.exit rfl ?_;exact W.to (aK ⟨mid,b,K,wb,wp,d4⟩ ⟨aV.trans aa,aw,D,Yl,Yl,aF,N.symm⟩ Yl) rfl J
  refine Η (by simp[af]) ?_;obtain⟨⟨mid,bd,d4⟩,V⟩:∃r,Go.Sort.partition (χ c) d3 a b T=r:=⟨_,rfl⟩;obtain⟨ag,aw,aV,aF,aW,bz,be⟩:=Go.Sort.round_part ak (Go.Sort.partition_holds _) Z.1 Z.2 (by rw[aa];exact D) a4 V;have E:=E af;have H:=H af;rw[V] at E H;have E:=E ⟨ag,aw⟩;have H:=H ⟨ag,aw⟩;simp only at E H;have M:=bq d3 n a b T aa U Z.1 Z.2 D C c Y Q;rw[V] at M;simp only at M;have aG:d4.size=n:=aV.trans aa;obtain⟨u,bA⟩:=Ι (mid-a);obtain⟨v,hv⟩:=Ι (b-mid);obtain⟨aX,bf⟩:=Ι (l / 8);obtain⟨ax,aH⟩:=Ι (mid+1);have bg:IntKind.i64.wrap ((mid:Int)-(a:Int))=(u:Int):=by rw[IntWalk.i64_in _ U];omega
  have bh:IntKind.i64.wrap ((b:Int)-(mid:Int))=(v:Int):=by rw[IntWalk.i64_in _ U];omega
  have bi:IntKind.i64.wrap ((l:Int) / 8)=(aX:Int):=by rw[bf];exact IF (m:=8) U
  have bj:IntKind.i64.wrap ((mid:Int)+1)=(ax:Int):=by rw[IntWalk.i64_in _ U];omega
  rw[<-bA,<-hv,<-aL,<-bf,<-aH] at E H;refine ZP λO o=>?_;refine Μ.call (first:=[]) (captured:=[]) ((M).mono (λr s ⟨w,B⟩=>?_) (λ_ _ h=>h.elim));subst w;subst B;simp;(repeat (rw[Ν];simp));apply o;by_cases bk:u<v
  .have aY:(u:Int)<(v:Int):=U
   refine Ζ (Τ bg (Τ bh (Τ bi @aY))) ?_;refine Γ J ?_;obtain⟨aj,aI⟩:=Go.Sort.pdq_sorts (χ c) ak d4 a mid K true true ag U aF;have ay:=a0 (mid-a) U d4 a mid K aG (Z1 _) ag U U aF;have E:=E bk;obtain⟨B',-⟩:=bz _ aj aI;have az:=aj.1.trans aG;obtain⟨Φ,aZ⟩:=Zl (Go.Sort.pdq (χ c) d4 a mid K true true);rw[aZ] at ay E B' az;refine ZP λO o=>?_;apply o;refine ZP λO o=>?_;refine Μ.call (first:=[]) (captured:=[]) ((ay).mono (λr s ⟨w,B⟩=>?_) (λ_ _ h=>h.elim));subst w;subst B;simp;(repeat (rw[Ν];simp));apply o;refine Ζ bj ?_;exact W.to (aK ⟨ax,b,K,decide (u>=aX),bd,Φ⟩ ⟨az,Yl,D,Yl,Yl,by simp only;rw[aH];exact B',E.symm⟩ Yl) rfl J
  .have aY:¬(u:Int)<(v:Int):=U
   refine Ζ (Τ bg (Τ bh (Τ bi @aY))) ?_;refine Η J ?_;obtain⟨aj,aI⟩:=Go.Sort.pdq_sorts (χ c) ak d4 (mid+1) b K true true U U aW;rw[<-aH] at aj aI aW;have ay:=a0 (b-ax) U d4 ax b K aG (Z1 _) U D U aW;have H:=H bk;rw[<-aH] at be;obtain⟨B',-⟩:=be _ aj aI;have az:=aj.1.trans aG;obtain⟨Φ,aZ⟩:=Zl (Go.Sort.pdq (χ c) d4 ax b K true true);rw[aZ] at ay H B' az;refine ZP λO o=>?_;apply o;refine XX bj λO o=>?_;refine Μ.call (first:=[]) (captured:=[]) ((ay).mono (λr s ⟨w,B⟩=>?_) (λ_ _ h=>h.elim));subst w;subst B;simp;(repeat (rw[Ν];simp));apply o;refine Χ ?_;exact W.to (aK ⟨a,mid,K,decide (v>=aX),bd,Φ⟩ ⟨az,ag,Yl,Yl,Yl,B',H.symm⟩ Yl) rfl J
theorem sI {a:Type} [Inhabited a] {lt:a->a->Bool} (b:Go.Sort.SWO lt) (c:∀x y,lt x y=false->lt y x=false->x=y) (l:List a):(Go.Sort.pdq lt l.toArray 0 l.length (Go.Sort.bitsLen l.length) true true).toList=l.mergeSort (λx y=>!lt y x):=by
 obtain⟨d,e⟩:=Go.Sort.pdq_sorts lt b l.toArray 0 l.length (Go.Sort.bitsLen l.length) true true (Ε _) J (.inl rfl);exact Go.Sort.sorted_unique_holds (lt:=lt) b c l.toArray _ (by simpa using d) (by simpa using e)
theorem sH:Jq 49:=λl u=>by
 obtain⟨b,c⟩:=Ι (.fn (.func 174) [] []:I);have g:ψ 0 b:=by rw[c];simp[Ul]
 have i:∀x y,Xu prog b [Zh x,Zh y] (R (Tb x y)):=λx y=>by rw[c];exact Κ.p (Ek x y) (ZT.refl _) J J
 obtain⟨n,a⟩:=Ι l.length;have v:Go.Sort.bitsLen n<=6:=(Go.Sort.bitsLen_le_iff n 6).2 U;have h:=sJ WL (.inl rfl) n U b Tb g i Nd n l.toArray 0 n (Go.Sort.bitsLen n) (by simp[a]) U U (Z1 _) U (.inl rfl);dsimp only[WL] at h;have f:=sI Nd D4 l;rw[<-a] at f;have e:(λx y:Int×Int=>!χ Tb y x)=UB:=rfl;rw[f,e] at h;rw[<-c,<-a];clear f e;have w:(l.map Zh).length=n:=by rw[Yp,a]
 refine Μ.body Υ func173 rfl rfl ntmps173 rfl rfl J ?_;have j:=XW (show n<2 ^ 62 by omega);have Φ:IntKind.u64.wrap (n:Int)=n:=MG U;have k:=a.symm;refine Ζ k ?_;(repeat apply Ξ);refine Y8 λA m=>?_;simp;(repeat (rw[Ν];simp[j,Φ]));refine Κ.d (Of n U) (ZY ?_);refine Μ.call (first:=[]) (captured:=[]) (h.mono (λr s ⟨o,t⟩=>?_) (λ_ _ h=>h.elim));subst o;subst t;simp;(repeat (rw[Ν];simp));apply m;exact W.nil ⟨_,rfl,rfl,rfl⟩
theorem sG:∀k,k<3->0<=(X2 k).2/\(X2 k).2<(X2 k).1/\(X2 k).1<=2:=Z0
theorem B7 {s:υ} (h:WV s) (p:Int×Int) (c:Nat):(Vt s p c).length<=49:=by
 have a:=B9 (λr=>s.Sa p r c) s.Α.length (s.Α.length+1) 0;rw[Hl] at a;have b:=h.Α.hi;have d:(s.Α.length+1)*(s.Α.length+1)<=7*7:=OP U U;unfold Vt;omega
theorem sF {l:List (List (Int×Int))} (h:∀c∈l,c.length<=49) (a:Int) (i:Nat):VK l a i<=49 ^ i:=by
 induction i with
 | zero=>simp[VK]
 | succ i b=>
  rw[Jw,Nat.pow_succ];refine OP b ?_;split
  .omega
  .cases d:l[i]? with
   | none=>simp
   | some c=>simpa using h c (Zf d)
theorem sE {s:υ} (h:WV s) (p:Int×Int):∀c∈(Wn s p).cells,c.length<=49:=λc a=>by
 obtain⟨i,_,rfl⟩:=Zd.1 a;exact B7 h p i
theorem B6 {s:υ} (h:WV s) (p:Int×Int) (a:Int) {i:Nat} (hi:i<=s.cells.length):VK (Wn s p).cells a i<=5764801:=by
 have:=h.many;exact X1 (sF (sE h p) a i) (X1 (KZ Z0 (show i<=4 by omega)) Z0)
theorem sD {s:υ} (h:WV s):GG 49 s where
 small:=h.small
 Α:=by have:=h.Α.hi;omega
 lit c a x b:=((h.cells c a).each x b).1
 reads k _ c _:=B7 h _ c
 many k _ i hi:=by have:=B6 h (X2 k) (-1) hi;omega
theorem B5 {s:υ} (h:WV s):@Ry TA s (W8 s):=CS Z0 (λc=>@sH c) (sD h)
theorem B4 (s:υ):(W8 s).length<=3:=by
 unfold W8;exact X1 (K6 _ _) J
theorem sC (l:List Int) (n:Int) (k:l.length<2 ^ 62):Μ prog 137 [.ms 0 l.length 0 l.length,R n] [.cells 3 1 (l.map R)] (λa s=>a=R (idxOf (·==n) l)/\s=[.cells 3 1 (l.map R)]) (λ_ _=>False):=by
 refine Μ.body Υ func137 rfl rfl ntmps137 rfl rfl J ?_;refine Χ ?_;refine W.iter (λi:Nat=>i<=l.length/\∀j,j<i->(h:j<l.length)->(l[j]==n)=false) (λi=>[(0,.ms 0 l.length 0 l.length),(1,R n),(6,.ms 0 l.length 0 l.length),(7,R l.length),(8,R i)]) (λ_=>[.cells 3 1 (l.map R)]) (λi=>l.length-i) 0 ⟨Ε _,λj c=>U⟩ rfl J (λi hi m=>?_);refine Χ ?_;refine W.YN rfl (λb=>?_) (λb=>?_)
 .have b:i<l.length:=by simpa using b
  refine Ζ b ?_;refine W.YN rfl (λd=>?_) (λd=>?_)
  .have f:n=l[i]:=by simpa using d
   refine Χ ?_;refine W.ret ⟨_,rfl,?_,rfl⟩;show R i=_;rw[LO b (by simp[f]) hi.2]
  .have f:¬n=l[i]:=by simpa using d
   have g:=Yw b k;refine Ζ g ?_;refine W.to (m (i+1) ⟨U,λj c h=>?_⟩ U) rfl (by simp[g]);by_cases e:j=i
   .subst e;simpa using λx=>f x.symm
   .exact hi.2 j U h
 .have b:l.length<=i:=by simpa using b
  refine W.exit rfl ?_;refine Χ ?_;refine W.ret ⟨_,rfl,?_,rfl⟩;show R (-1)=_;rw[LN λj c=>hi.2 j U c]
theorem sB (l:List Int) (n:Int) (b:l.length<2 ^ 62):Μ prog 110 [.ms 0 l.length 0 l.length,R n] [.cells 3 1 (l.map R)] (λa s=>a=ZU (l.contains n)/\s=[.cells 3 1 (l.map R)]) (λ_ _=>False):=by
 refine Μ.body Υ func110 rfl rfl ntmps110 rfl rfl J ?_;refine Χ ?_;refine ZP λf c=>?_;refine Μ.call (first:=[]) (captured:=[]) ((sC l n b).mono (λa s ⟨d,e⟩=>?_) (λ_ _ h=>h.elim));subst d;subst e;simp;(repeat (rw[Ν];simp));apply c;refine Χ ?_;refine W.ret ⟨_,rfl,?_,rfl⟩;rw[<-any_beq,<-LM];simp
def VV (l:List Int) (n:Nat) (a:List ZF) (i:Nat):List ZF:=(List.range i).filterMap λk=>if l.contains ((n+k:Nat):Int) then none else a[k]?
def Ye (C:List (List ZF)) (c:Nat):Nat:=((C.take c).map List.length).sum
def PM (l:List Int) (C:List (List ZF)) (c:Nat):List ZF:=VV l (Ye C c) (C.getD c []) (C.getD c []).length
def υ.Sv (s:υ) (l:List Int):υ:=⟨s.Α,s.Β,(List.range s.cells.length).map (PM l s.cells)⟩
theorem ID (l:List Int) (n:Nat) (a:List ZF):VV l n a 0=[]:=rfl
theorem Gg (l:List Int) (n:Nat) (a:List ZF) {i:Nat} (h:i<a.length):VV l n a (i+1)=VV l n a i++if l.contains ((n+i:Nat):Int) then [] else [a[i]]:=by
 unfold VV;rw[VA,NS];congr 1;cases b:l.contains ((n+i:Nat):Int)<;>simp only[List.filterMap_cons,List.filterMap_nil,b]<;>simp[h]
theorem B3 (l:List Int) (n:Nat) (a:List ZF) (i:Nat):(VV l n a i).length<=i:=by
 unfold VV;exact X1 (K6 _ _) J
theorem Gf (C:List (List ZF)) {c:Nat} (h:c<C.length):Ye C (c+1)=Ye C c+C[c].length:=by
 unfold Ye;rw[Wx h];simp only[Yd,List.sum_append,XC,UU,List.sum_cons,List.sum_nil,Nat.add_zero]
theorem IC (C:List (List ZF)) {m:Nat} (h:∀x∈C,x.length<m) (c:Nat):Ye C c<=c*m:=by
 unfold Ye
 induction c with
 | zero=>simp
 | succ c a=>
  by_cases b:c<C.length
  .rw[Wx b];have:=h _ (Y2 b);simp only[Yd,List.sum_append,XC,UU,List.sum_cons,List.sum_nil,Nat.add_zero,Nat.succ_mul];omega
  .rw[VB U];rw[VB U] at a;exact X1 a (T8 _ (Nat.le_succ c))
abbrev U8 (l:List Int) (C:List (List ZF)) (c:Nat):I:=YE 3 ((PM l C c).map Z2)
theorem IB {L:List ZF}:∀e∈L.map Z2,∀a∈e.cells,ψ 0 a:=λe c a b=>by
 obtain⟨x,_,rfl⟩:=Zd.1 c;simp[I.cells] at b;rcases b with rfl|rfl|rfl<;>exact .z _
theorem B2 {l:List Int} {C:List (List ZF)} {r:List Nat}:∀e∈r.map (U8 l C),∀a∈e.cells,ψ 0 a:=λe c a b=>by
 obtain⟨x,_,rfl⟩:=Zd.1 c;unfold U8 YE at b;split at b
 .simp[I.cells] at b;subst b;simp
 .simp[I.cells] at b;subst b;exact Y6.2 IB
abbrev Tw (l:List Int) (s:υ):Ρ:=[.cells 3 1 (l.map R),ZI (Z6 s.Α) (θ s.Β) (XL s.cells),ZI γ γ γ]
theorem B1 (l:List Int) (s:υ) (h:Nat):∀r∈Tw l s,Yc h r:=λr d=>by
 simp only[Zm,YM,or_false] at d;rcases d with rfl|rfl|rfl
 .intro e c a b;obtain⟨x,_,rfl⟩:=Zd.1 c;simp[I.cells] at b;subst b;exact .z _
 .intro e c a b;simp[I.cells] at c;subst c;simp[I.cells] at b;rcases b with rfl|rfl|rfl<;>simp
 .intro e c a b;simp[I.cells] at c;subst c;simp[I.cells] at b;subst b;simp
theorem sA (s:υ) (aN:s.small) (l:List Int) (aO:l.length<2 ^ 20) (aP:s.cells.length<2 ^ 20) (ag:∀x∈s.cells,x.length<2 ^ 20) :
  Μ prog 115 [ZB s,.ms 0 l.length 0 l.length] [.cells 3 1 (l.map R)] (λa r=>Zi a (ZB (s.Sv l))/\r=[.cells 3 1 (l.map R)]) (λ_ _=>False):=by
 refine Μ.body Υ func115 rfl rfl ntmps115 rfl rfl J ?_
 repeat apply Ξ
 refine Zj (A:=[2,4]) Υ λah F=>ZY ?_;apply F;refine Χ ?_;have au:=λc=>IC s.cells ag c;refine W.iter (λc:Nat=>c<=s.cells.length) (λc=>[(1,.ms 0 l.length 0 l.length),(2,.Ο 1 1 0 0),(4,.Ο 2 1 0 0),(5,R (Ye s.cells c)),(6,Z4 3 ((List.range c).map (U8 l s.cells))),(13,XL s.cells),(14,R s.cells.length),(15,R c)]) (λc=>Tw l s++μ 60 1 ((List.range c).map (U8 l s.cells))) (λc=>s.cells.length-c) 0 (Ε _) (by simp[Wo]) (by simp[Z4,Ye]) (λc aQ S=>?_);obtain⟨b,B⟩:=Ι ((List.range c).map (U8 l s.cells));have T:∀e∈b,∀a∈e.cells,ψ 0 a:=by rw[B];exact B2
 refine W.to (σ':=Tw l s++μ 60 1 b) (env':=[(1,.ms 0 l.length 0 l.length),(2,.Ο 1 1 0 0),(4,.Ο 2 1 0 0),(5,R (Ye s.cells c)),(6,Z4 3 b),(13,XL s.cells),(14,R s.cells.length),(15,R c)]) ?_ (by rw[B]) (by rw[B];simp);refine Χ ?_;by_cases C:c<s.cells.length
 .refine Γ (by simp[C]) ?_;have X:=ε C;have av:=ag _ (Y2 C);have ai:=Gf s.cells C;have aw:=au c;have Y:PM l s.cells c=VV l (Ye s.cells c) s.cells[c] s.cells[c].length:=by
   unfold PM;rw[XJ,X];rfl
  obtain⟨g,aj⟩:=Ι (s.cells[c]);rw[<-aj] at X av ai Y;have ax:∀h,s.cells[c]'h=g:=λh=>aj.symm;obtain⟨o,ay⟩:=Ι (Ye s.cells c);have aR:c*2 ^ 20<2 ^ 40:=by
   have:c*2 ^ 20<2 ^ 20*2 ^ 20:=Nat.mul_lt_mul_of_pos_right U Z0;exact this
  rw[<-ay] at ai Y aw ⊢;have az:=XP (i:=c) U;obtain⟨k,D⟩:=Ι ((Tw l s++μ 60 1 b).length);refine Ζ (Τ C (Τ X ax)) ?_;refine W.iter (λi:Nat=>i<=g.length) (λi=>[(1,.ms 0 l.length 0 l.length),(2,.Ο 1 1 0 0),(4,.Ο 2 1 0 0),(5,R ((o+i:Nat))),(6,Z4 3 b),(13,XL s.cells),(14,R s.cells.length),(15,R c),(9,Z4 k ((VV l o g i).map Z2)),(19,Xt g),(20,R g.length),(21,R i)]) (λi=>Tw l s++μ 60 1 b++μ 28 3 ((VV l o g i).map Z2)) (λi=>g.length-i) 0 (Ε _) (by rw[ID];simp[Wo]) (by rw[ID];simp[Z4]) (λi hi N=>?_);have aA:=B3 l o g i;obtain⟨m,H⟩:=Ι (VV l o g i);rw[<-H] at aA;obtain⟨q,ak⟩:=Ι (o+i);refine W.to (σ':=Tw l s++μ 60 1 b++μ 28 3 (m.map Z2)) (env':=[(1,.ms 0 l.length 0 l.length),(2,.Ο 1 1 0 0),(4,.Ο 2 1 0 0),(5,R q),(6,Z4 3 b),(13,XL s.cells),(14,R s.cells.length),(15,R c),(9,Z4 k (m.map Z2)),(19,Xt g),(20,R g.length),(21,R i)]) ?_ (by rw[H]) (by rw[H,ak];simp);refine Χ ?_;by_cases K:i<g.length
  .refine Γ (by simp[K]) ?_;have w:=Gg l o g K;rw[<-H,<-ak] at w;have al:=ε K;obtain⟨x,O⟩:=Ι (g[i]);rw[<-O] at al w;have aB:∀h,g[i]'h=x:=λh=>O.symm;obtain⟨n,p⟩:=Ι (Tw l s++μ 60 1 b++μ 28 3 (m.map Z2));have aC:n[0]?=some (.cells 3 1 (l.map R)):=by rw[p];rfl
   have aS:3<=n.length:=by rw[p];simp
   have aD:n.set 0 (.cells 3 1 (l.map R))=n:=by rw[p];rfl
   have aE:∀h,∀r∈n,Yc h r:=λh r j=>by
    rw[p] at j;rcases WK.1 j with j|j
    .rcases WK.1 j with j|j
     .exact B1 l s h r j
     .exact QS T r j
    .exact QS IB r j
   have Z:ψ n.length (Z4 3 b):=LI λd=>by rw[p,YY d];simp
   have aF:ψ n.length (Z4 k (m.map Z2)):=LI λd=>by rw[p,YY d,D];simp
   refine W.to (σ':=n) (env':=[(1,.ms 0 l.length 0 l.length),(2,.Ο 1 1 0 0),(4,.Ο 2 1 0 0),(5,R q),(6,Z4 3 b),(13,XL s.cells),(14,R s.cells.length),(15,R c),(9,Z4 k (m.map Z2)),(19,Xt g),(20,R g.length),(21,R i)]) ?_ (by rw[p];simp) J;have am:=XP (i:=i) U;have an:=XP (i:=q) U
   repeat apply Ξ
   refine Zj (A:=[11]) Υ λah F=>XF (Τ K (Τ al aB)) ?_;apply F;refine W.VI (σ0:=n) (by simp;omega) (aE _) (by simp[I.cells]) [(1,.ms 0 l.length 0 l.length),(2,.Ο 1 1 0 0),(4,.Ο 2 1 0 0),(5,R q),(6,Z4 3 b),(13,XL s.cells),(14,R s.cells.length),(15,R c),(9,Z4 k (m.map Z2)),(19,Xt g),(20,R g.length),(21,R i),(11,.ω [R x.Zs,R x.seen,R x.bare])] (by
    have y:0<n.length:=U
    have u:1<n.length:=U
    have aG:2<n.length:=U;simp[Xz,UF,I.cells,y,u,aG,Z,aF]) ?_
   refine ZP λah F=>?_;refine Μ.one (as0:=[.ms 0 l.length 0 l.length,R q]) (sB l q U) 0 aC (QW (f:=R) λx=>by simp[I.cells]) (QW (f:=R) λx=>by simp[I.cells]) (by simp[TS,ψ.WA]) ((ψ.z _).WA 1) (by simp[TR,TQ]) ?_;simp[TQ];(repeat (rw[Ν];simp));rw[aD];apply F;have ao:q+1=o+(i+1):=U;by_cases P:(q:Int)∈l
   .refine Η (by simp[P]) ?_;have aa:l.contains (q:Int)=true:=by simpa using P
    rw[if_pos aa,Tn] at w;refine Ζ (Τ am an) ?_;refine W.to (N (i+1) U U) (by rw[w,p]) ?_;rw[w,<-ao];simp
   .refine Γ (by simp[P]) ?_;have aa:¬l.contains (q:Int)=true:=by simpa using P
    rw[if_neg aa] at w
    repeat apply Ξ
    refine W.Yn (A:=[32]) Υ [(1,.ms 0 l.length 0 l.length),(2,.Ο 1 1 0 0),(4,.Ο 2 1 0 0),(5,R q),(6,Z4 3 b),(13,XL s.cells),(14,R s.cells.length),(15,R c),(9,Z4 k ((m++[x]).map Z2)),(19,Xt g),(20,R g.length),(21,R i)] (Tw l s++μ 60 1 b++μ 28 3 ((m++[x]).map Z2)) ?_ (by
     clear N S;by_cases d:m=[]
     .subst d;have v:Z4 k (([]:List ZF).map Z2)=.sl true 0 []:=rfl;have Φ:n=Tw l s++μ 60 1 b:=by rw[p];simp[Wo]
      rw[v,Φ];simp;(repeat (rw[Ν];simp));(try simp[Z4,μ,D])
     .have ap:m.map Z2≠[]:=by simpa using d
      rw[X8 ap,p,YY ap];have ab:(Tw l s++μ 60 1 b++[Row.cells 28 3 (m.map Z2)])[k]?=some (Row.cells 28 3 (m.map Z2)):=by rw[D];simp
      have aH:m.length<=4294967295:=U;simp;(repeat (rw[Ν];simp[ab,aH]));(try simp[Z4,μ,D]);(try (rw[Ν];simp)))
    refine Ζ (Τ am an) ?_;refine W.to (N (i+1) U U) (by rw[w];simp) ?_;rw[w,<-ao];simp
  .refine Η (by simp[K]) ?_;have aI:i=g.length:=U;subst aI;refine W.exit rfl ?_;refine W.to (σ':=Tw l s++μ 60 1 b++μ 28 3 (m.map Z2)) (env':=[(1,.ms 0 l.length 0 l.length),(2,.Ο 1 1 0 0),(4,.Ο 2 1 0 0),(5,R q),(6,Z4 3 b),(13,XL s.cells),(14,R s.cells.length),(15,R c),(9,Z4 k (m.map Z2))]) ?_ J J;refine W.cut (Tw l s++μ 60 1 b).length J [(1,.ms 0 l.length 0 l.length),(2,.Ο 1 1 0 0),(4,.Ο 2 1 0 0),(5,R q),(6,Z4 3 b),(13,XL s.cells),(14,R s.cells.length),(15,R c),(9,YE 3 (m.map Z2))] J ?_ ?_ ?_
   .intro id r aq j;rw[Y0 aq] at j;have j:=Zf j;rcases WK.1 j with j|j
    .exact B1 l s _ r j
    .exact QS T r j
   .have Z:ψ (Tw l s++μ 60 1 b).length (Z4 3 b):=LI λd=>by rw[YY d];simp
    intro z d;simp only[Zm,YM,or_false] at d;rcases d with rfl|rfl|rfl|rfl|rfl|rfl|rfl|rfl|rfl
    .exact .low (UF.2 J)
    .exact .low (Xz.2 J)
    .exact .low (Xz.2 J)
    .exact .low J
    .exact .low Z
    .exact .low J
    .exact .low J
    .exact .low J
    .refine QR (t:=28) (by rw[D];exact Z1 _) (λd=>?_) (λe L a E=>ψ.mono (IB e L a E) (Ε _));rw[YY d,D];simp
   have aJ:q=Ye s.cells (c+1):=U
   have M:b++[U8 l s.cells c]=(List.range (c+1)).map (U8 l s.cells):=by rw[B,VA,Yd];rfl
   have aK:U8 l s.cells c=YE 3 (m.map Z2):=by unfold U8;rw[Y,H]
   rw[aK] at M;rw[List.take_left];obtain⟨x,O⟩:=Ι (YE 3 (m.map Z2));obtain⟨aT,aU,aV,ad⟩:=LH 3 (m.map Z2);rw[<-O] at M ad ⊢
   repeat apply Ξ
   refine W.Yn (A:=[39]) Υ [(1,.ms 0 l.length 0 l.length),(2,.Ο 1 1 0 0),(4,.Ο 2 1 0 0),(5,R q),(6,Z4 3 (b++[x])),(13,XL s.cells),(14,R s.cells.length),(15,R c)] (Tw l s++μ 60 1 (b++[x])) ?_ (by
    have aL:b.length<=4294967295:=by rw[B];simp;omega
    clear S N M;by_cases d:b=[]
    .rw[d,ad];have v:Z4 3 ([]:ξ)=.sl true 0 []:=rfl;rw[v];simp only[Wo,Tn];simp;(repeat (rw[Ν];simp));(try simp[Z4,μ])
    .rw[X8 d,YY d,ad];have ab:(Tw l s++[Row.cells 60 1 b])[3]?=some (Row.cells 60 1 b):=rfl;simp;(repeat (rw[Ν];simp[aL,ab]));(try simp[Z4,μ]))
   refine Ζ az ?_;exact W.to (S (c+1) U U) (by rw[M];simp) (by rw[M,<-aJ];simp)
 .refine Η (by simp[C]) ?_;have aM:c=s.cells.length:=U;refine W.exit rfl ?_
  repeat apply Ξ
  obtain⟨V,Q⟩:=Ι (Z4 3 b);have ae:(V=.sl true 0 []/\μ 60 1 b=[])\/(V=.ms 3 b.length 0 b.length/\μ 60 1 b=[.cells 60 1 b]):=by
   by_cases d:b=[]
   .exact .inl ⟨by rw[Q,d];rfl,by rw[d];rfl⟩
   .exact .inr ⟨by rw[Q,X8 d],YY d⟩
  obtain⟨ar,af⟩:=Ι (μ 60 1 b);rw[<-af] at ae;rw[<-Q,<-af];refine W.Yn (A:=[]) Υ [(2,.Ο 1 1 0 0),(4,.Ο 2 1 0 0)] (.cells 3 1 (l.map R)::ZI (Z6 s.Α) (θ s.Β) V::ZI γ γ γ::ar) ?_ (by
   rcases ae with⟨v,Φ⟩|⟨v,Φ⟩<;>(rw[v,Φ];(try simp);(repeat (rw[Ν];simp));(try simp)))
  repeat apply Ξ
  refine W.Yn (A:=[]) Υ [(4,.Ο 2 1 0 0)] (.cells 3 1 (l.map R)::ZI (Z6 s.Α) (θ s.Β) V::ZI (Z6 s.Α) (θ s.Β) V::ar) ?_ (by
   rcases ae with⟨v,Φ⟩|⟨v,Φ⟩<;>(rw[v,Φ];(try simp);(repeat (rw[Ν];simp));(try simp)))
  refine W.cut 1 J [(4,.ω [Z6 s.Α,θ s.Β,YE 1 b])] J ?_ ?_ ?_
  .intro id r aq j;obtain rfl:id=0:=U;simp at j;subst j;intro e L a E;obtain⟨x,_,rfl⟩:=Zd.1 L;simp[I.cells] at E;subst E;exact .z _
  .intro z d;simp only[Zm,YM,or_false] at d;subst d;refine .struct (id:=2) Z0 (show _=some (Row.cells _ _ [.Z' _]) from rfl) rfl λx a aW y u=>?_
   match x with
   | 0=>simp at y u;subst y;subst u;exact .low J
   | 1=>simp at y u;subst y;subst u;exact .low J
   | 2=>
    simp at y u;subst y;subst u;rw[Q];refine QR (t:=60) Z0 (λd=>?_) (λe L a E=>ψ.mono (T e L a E) (Ε _));rw[af,YY d];rfl
   | x+3=>simp at u
  .repeat apply Ξ
   refine W.ret ⟨_,rfl,?_,rfl⟩;show Zi (.Z' [Z6 s.Α,θ s.Β,YE 1 b]) _;refine .Z' (.cons (.refl _) (.cons (.refl _) (.cons ?_ .nil)));rw[B,aM];refine .trans Zi.acc ?_;show Zi (.sl false 1 ((List.range s.cells.length).map (U8 l s.cells))) (.sl false 1 (((List.range s.cells.length).map (PM l s.cells)).map Xt));rw[Sq];exact .map λc _=>.one Zi.acc (by unfold U8 YE;split<;>rfl) rfl
end Go.TL
namespace Go.TL
open Go.Proofs.Tryz
open Go.Conc Go.Proofs
variable [ZN]
def Vn (c i:Nat):List (List Int):=(List.range i).map λj:Nat=>[(c:Int),(j:Int)]
def RV (C:List (List ZF)) (c:Nat):List (List Int):=(List.range c).flatMap λc=>Vn c (C.getD c []).length
def placesOf (C:List (List ZF)):List (List Int):=RV C C.length
theorem Ge (C:List (List ZF)) (c:Nat):RV C (c+1)=RV C c++Vn c (C.getD c []).length:=by
 simp[RV,VA]
theorem B0 (c i:Nat):Vn c (i+1)=Vn c i++[[(c:Int),(i:Int)]]:=by simp[Vn,VA]
theorem IA (C:List (List ZF)) (c:Nat) (h:c<=C.length):(RV C c).length=Ye C c:=by
 induction c with
 | zero=>rfl
 | succ c a=>
  rw[Ge,Gf C U,Wc,a U];simp[Vn,XJ,show c<C.length by omega]
def S3 (C:List (List ZF)) (F:List Nat->List Found):List (List Int):=
 match (VY (Ye C C.length) 0).find? (λl=>!(F l).isEmpty) with
 | some l=>l.map λk=>(placesOf C).getD k []
 | none=>[]
abbrev VU (s:υ):Row:=ZI (Z6 s.Α) (θ s.Β) (XL s.cells)
abbrev Ri:Row:=.cells 23 1 [γ]
theorem BZ (s:υ) (h:Nat):Yc h (VU s):=λe b a c=>by
 simp[I.cells] at b;subst b;simp[I.cells] at c;rcases c with rfl|rfl|rfl<;>simp
noncomputable abbrev BY (vs:Array Value):Frame:=Frame.enter prog 58 vs .normal
abbrev Ld (P:List (List Int)):Δ:=[(1,.Ο 0 1 0 0),(5,.ω [YE 1 (P.map ZE)]),(9,.Ο 1 1 0 0)]
section
variable {Q:Value->Prop} {mn:Bool} {c:Frame} {rest:List Frame}
theorem BX {x:W6} {f S:ο} {B:Z8} {g H:Ψ} {i d e:I} {b:Frame} {env:Δ} (l:Seq x) (m:Po prog Q mn x c rest f [] g [] (λa s=>Zi a i/\s=[]) (λ_ _=>False)) (n:b.fn=58) (o:b.kind=.normal) (p:b.defers=[]) (t:b.mode=.returning)
  (u:Ext f [] g S B H) (w:Holds S B [] H) (y:YS S B [] env b.tmps) (A:Z7 env 2=d) (C:Z7 env 3=e) (D:Zi (.ZV [d,e]) i):ν prog Q mn x b (c::rest) H:=by
 refine ν.back l t p (.inl o) (fn:=f58) (by rw[n];exact func58) ?_;refine Ω.mono (λv E ⟨L,F,J,M,j,K⟩=>?_) (λ_ _ h=>h) _ (LX Υ (a:=.ZV [d,e]) (show SJ ZW [.tmp 2,.tmp 3] env []=some (.ZV [d,e]) by simp[SJ,QX,A,C,LY]) w y);obtain rfl:F=[]:=YP.1 j.len;have k:=u.trans J;exact m.ret _ [] _ [] E v ⟨D,rfl⟩ k ⟨k.YL,λid r h=>by simp at h⟩ j K
theorem sz (s:υ) (bk:s.small) (cV:s.cells.length<2 ^ 10) (a0:∀x∈s.cells,x.length<2 ^ 10) (aI:s.err=0->Ye s.cells s.cells.length<=12) (F:List Nat->List Found)
  (aJ:s.err=0->∀l:List Nat,(∀x∈l,x<Ye s.cells s.cells.length)->Κ prog 116 [ZB (s.Sv (l.map λn:Nat=>(n:Int)))] (YW (F l))/\(F l).length<2 ^ 20) :
  Κ prog 58 [ZB s] (.ZV [θ (if s.err=0 then S3 s.cells F else []),R s.err]):=by
 refine⟨⟨_,func58,rfl,rfl⟩,λQ mn x c rest aK bT al vs C bl bU au=>?_⟩;obtain rfl:bT=[]:=YP.1 bl.len;rw[SG (body:=f58.body.getD .skip) func58 rfl];refine V.here (x:=x) (m:=0) (nt:=65) (S:=aK) (B:=[]) (H:=al) (σ:=[]) (env:=entry 0 [ZB s]) ?_ (XA.enter bl bU (Z1 _) J);refine V.XS C rfl ?_;simp only[f58,Option.getD_some]
 repeat apply Ξ
 refine Zj (A:=[1]) Υ λav N=>ZY ?_;apply N;refine W.scope ?_;refine ZP λav N=>?_;refine Κ.d (LK s bk) (ZY ?_);apply N;refine Χ ?_;by_cases Z:s.err=0
 case neg=>
  rw[if_neg Z] at au;generalize s.err=bV at Z au ⊢;refine Γ (by simp[Z]) ?_;refine Χ ?_;refine W.cut 0 (Ε _) [(2,.sl true 0 []),(3,R bV)] J (λid r h=>U) (λz u=>by
   simp only[Zm,YM,or_false] at u;rcases u with rfl|rfl<;>exact .low J) ?_
  refine W.stop ?_;intro am an ao t5 K T;refine ν.ret C rfl rfl ?_;exact BX C au rfl rfl rfl rfl K.ext T.holds T.Zn rfl rfl (.ZV (.cons .nil (.cons (.refl _) .nil)))
 rw[if_pos Z,Z] at au;have aI:=aI Z;have aJ:=aJ Z;rw[Z];refine Η J ?_
 repeat apply Ξ
 refine Zj (A:=[5]) Υ λav N=>ZY ?_;apply N;refine Χ ?_;have bW:=λc=>IC s.cells a0 c;refine W.iter (λc:Nat=>c<=s.cells.length) (λc=>[(1,.Ο 0 1 0 0),(5,.Ο 1 1 0 0),(19,XL s.cells),(20,R s.cells.length),(21,R c)]) (λc=>[VU s,.cells 23 1 [Z4 2 ((RV s.cells c).map ZE)]]++μ 29 1 ((RV s.cells c).map ZE)) (λc=>s.cells.length-c) 0 (Ε _) rfl J (λc bm a1=>?_);have a2:=IA s.cells c bm;have af:=Ge s.cells c;have bX:=bW c;have bY:c*2 ^ 10<=2 ^ 20:=T8 (2 ^ 10) (show c<=2 ^ 10 by omega);obtain⟨g,aL⟩:=Ι (RV s.cells c);rw[<-aL] at a2 af;refine W.to (σ':=[VU s,.cells 23 1 [Z4 2 (g.map ZE)]]++μ 29 1 (g.map ZE)) (env':=[(1,.Ο 0 1 0 0),(5,.Ο 1 1 0 0),(19,XL s.cells),(20,R s.cells.length),(21,R c)]) ?_ (by rw[aL]) J;refine Χ ?_;by_cases ap:c<s.cells.length
 .refine Γ (by simp[ap]) ?_;have a3:=ε ap;have aM:=a0 _ (Y2 ap);rw[XJ,a3] at af;obtain⟨O,bn⟩:=Ι (s.cells[c]);rw[<-bn] at a3 aM af;simp only[Option.getD_some] at af;have bZ:∀h,s.cells[c]'h=O:=λh=>bn.symm;have a4:=XP (i:=c) U;refine Ζ (Τ ap (Τ a3 bZ)) ?_;refine W.iter (λi:Nat=>i<=O.length) (λi=>[(1,.Ο 0 1 0 0),(5,.Ο 1 1 0 0),(19,XL s.cells),(20,R s.cells.length),(21,R c),(6,R c),(7,Xt O),(27,R O.length),(28,R i)]) (λi=>[VU s,.cells 23 1 [Z4 2 ((g++Vn c i).map ZE)]]++μ 29 1 ((g++Vn c i).map ZE)) (λi=>O.length-i) 0 (Ε _) (by simp[Vn]) J (λi hi bo=>?_);have b0:=B0 c i;have b1:(g++Vn c i).length<=2 ^ 21:=by simp[Vn];omega
  obtain⟨w,aa⟩:=Ι (g++Vn c i);rw[<-aa] at b1;have b2:g++Vn c (i+1)=w++[[(c:Int),(i:Int)]]:=by rw[b0,aa,U6]
  refine W.to (σ':=[VU s,.cells 23 1 [Z4 2 (w.map ZE)]]++μ 29 1 (w.map ZE)) (env':=[(1,.Ο 0 1 0 0),(5,.Ο 1 1 0 0),(19,XL s.cells),(20,R s.cells.length),(21,R c),(6,R c),(7,Xt O),(27,R O.length),(28,R i)]) ?_ (by rw[aa]) J;refine Χ ?_;by_cases bp:i<O.length
  .refine Γ (by simp[bp]) ?_;have b3:=XP (i:=i) U;refine Χ ?_;refine W.Yn (A:=[36]) Υ [(1,.Ο 0 1 0 0),(5,.Ο 1 1 0 0),(19,XL s.cells),(20,R s.cells.length),(21,R c),(6,R c),(7,Xt O),(27,R O.length),(28,R i)] ([VU s,.cells 23 1 [Z4 2 ((w++[[(c:Int),(i:Int)]]).map ZE)]]++μ 29 1 ((w++[[(c:Int),(i:Int)]]).map ZE)) ?_ (by
    clear bo a1;by_cases u:w=[]
    .subst u;have ag:Z4 2 (([]:List (List Int)).map ZE)=.sl true 0 []:=rfl;have Φ:μ 29 1 (([]:List (List Int)).map ZE)=[]:=rfl;rw[ag,Φ];(try simp);(repeat (rw[Ν];simp));(try simp);simp[Z4,μ]
    .have aw:w.map ZE≠[]:=by simpa using u
     rw[X8 aw,YY aw];have aN:w.length<=4294967295:=U;(try simp);(repeat (rw[Ν];simp[aN]));(try simp[aN]);simp[Z4,μ])
   refine Ζ b3 ?_;exact W.to (bo (i+1) U U) (by rw[b2];simp) J
  .refine Η (by simp[bp]) ?_;have b4:i=O.length:=U;subst b4;refine W.exit rfl ?_;refine Ζ a4 ?_;rw[<-aa] at af;exact W.to (a1 (c+1) U U) (by rw[af];simp) J
 .refine Η (by simp[ap]) ?_;have a5:c=s.cells.length:=U;refine W.exit rfl ?_
  repeat apply Ξ
  refine W.cut 1 (Ε _) [(1,.Ο 0 1 0 0),(5,.ω [YE 1 (g.map ZE)])] J ?_ ?_ ?_
  .intro id r cW ax;obtain rfl:id=0:=U;simp at ax;subst ax;exact BZ s 1
  .intro z u;simp only[Zm,YM,or_false] at u;rcases u with rfl|rfl
   .exact .low (Xz.2 Z0)
   .refine .Ο (id:=1) (t:=23) (k:=1) (l:=[Z4 2 (g.map ZE)]) (e:=Z4 2 (g.map ZE)) Z0 rfl rfl rfl (by unfold Z4;split<;>simp[I.cells]) λx a cX P M=>?_
    match x with
    | 0=>
     have ag:(Z4 2 (g.map ZE)).cells=[Z4 2 (g.map ZE)]:=by unfold Z4;split<;>rfl
     rw[ag] at P;simp at P M;subst P;subst M;refine QR (t:=29) Z0 (λu=>?_) (λe a6 a D=>ψ.mono (LJ e a6 a D) (Ε _));rw[YY u];rfl
    | x+1=>simp at M
  obtain⟨n,a7⟩:=Ι g.length;have bq:n=Ye s.cells s.cells.length:=by rw[a7,a2,a5]
  have ay:∃b kk l,YE 1 (g.map ZE)=.sl b kk l/\l.length=n:=by
   unfold YE;split
   .rename_i h;exact⟨_,_,_,rfl,by rw[a7];simp at h;simp[h]⟩
   .exact⟨_,_,_,rfl,by rw[a7];simp⟩
  rw[<-bq] at aI aJ;have br:g=placesOf s.cells:=by rw[aL,a5];rfl
  have Φ:S3 s.cells F=match (VY n 0).find? (λl=>!(F l).isEmpty) with|some l=>l.map (λk=>g.getD k [])|none=>[]:=by unfold S3;rw[<-bq,<-br]
  clear br af a2 aL a1 bX bY a5 bm ap
  repeat apply Ξ
  simp only[List.take_succ_cons,List.take_zero];refine Zj (A:=[9]) Υ λav N=>ZY ?_;apply N
  repeat apply Ξ
  refine W.label ?_;obtain⟨cY,cZ,c0,a8,bs⟩:=ay;refine XX (Τ a8 bs) λav N=>?_;refine Κ.d (CX n) (XF (Τ a8 bs) ?_);apply N
  repeat apply Ξ
  refine W.forget ((41,.fn (.func 126) [] [.ω [R n]])::Ld g) (by simp[a8]) ?_;refine W.stop ?_;intro ah X aO t1 aP Y;have bt:∀r∈[VU s,Ri],N6 r:=λr ax=>by
   simp only[Zm,YM,or_false] at ax;rcases ax with rfl|rfl<;>exact⟨_,_,_,rfl⟩
  have a9:=Y.Zn 41;simp only[Z7,if_true] at a9;obtain⟨c1,bu⟩:=Ι (t1.getD 41 undef);rw[<-bu] at a9;cases a9 with
  | fn w1 b5 b6 b7 c2 b8=>
  have b9:w1=#[]:=MC (by rw[<-b6];rfl);subst b9;refine ν.rangeFunc C rfl rfl (fo:=.tmp 41) bu.symm ⟨_,func126,rfl,rfl⟩ λE L P M=>?_;have a':¬X.has E:=Y.holds.IS bt P;have aQ:=Y.holds.ZX (y:=.deferred (some [])) a';have aR:Ext ah X aO ah X (aO.ZX E (.deferred (some []))):=Ext.IT P;have az:(aO.ZX E (.deferred (some []))).obj E=some (.deferred (some [])):=by simp[Ψ.ZX]
  have b':al.fresh E:=aP.ext.grow _ P
  have aS:al.fresh L:=aP.ext.grow _ (aR.grow _ M);generalize c3:aO.ZX E (.deferred (some []))=bv at M aQ aR az;have aT:E≠L:=λe=>by rw[e,M.2.2.1] at az;cases az
  have bw:¬X.has L:=aQ.IS bt M
  have bx:∀(S:ο) (B:Z8) (H:Ψ) (σ:Ρ),X5 2 ah X bv [VU s,Ri] S B H σ->Zw ah S X B [VU s,Ri] σ:=λS B H σ D=>D.all aQ J
  have bz:∀(ab:Frame) (S:ο) (B:Z8) (H:Ψ) (env:Δ) (ba:I),ab.fn=58->ab.kind=.normal->ab.mode=.returning->ab.defers=[⟨.collected E,#[]⟩]->Ext aK [] al S B H->Holds S B [] H->H.obj E=some (.deferred (some []))->
    YS S B [] env ab.tmps->Z7 env 2=ba->Z7 env 3=R 0->Zi ba (θ (S3 s.cells F))->ν prog Q mn x ab (_::rest) H:=
   λab S B H env ba ai ad bA ca cb bB bC cc cd ce cf=>by
   obtain rfl:B=[]:=YP.1 bB.len;refine ν.collected C bA ca bC ?_;exact BX C au (b:={ab with defers:=[]}) ai ad rfl bA (cb.ZX b' ⟨_,bC⟩) (bB.ZX (λ⟨_,h⟩=>by cases h)) cc cd ce (.ZV (.cons cf (.cons (.refl _) .nil)))
  rw[SG (body:=f126.body.getD .skip) func126 rfl];have cg:XT ah X [VU s,Ri] ([Rl L]++[.ω [R n]]) (#[.func (.yield L) #[] #[]]++b5):=by
   refine XT.append ⟨rfl,λi a v ai ad=>?_⟩ ⟨b7,b8⟩
   match i with
   | 0=>simp at ai ad;subst ai;subst ad;exact .fn #[] #[] rfl rfl (λi a v hi=>by simp at hi) (λi a v hi=>by simp at hi)
   | i+1=>simp at ai
  refine CY (o:=⟨ah,X,bv,[VU s,Ri],2⟩) (L:=L) (Fnd:=λbD=>(VY n 0).find? (λl=>!(F l).isEmpty)=bD.find? (λl=>!(F l).isEmpty)) C aI ?_ rfl ah X _ _ (X5.of (Ext.IT M) (Zw.refl ..)) (XA.enter (aQ.ZX bw) cg (Z1 _) J) bw (by simp[Ψ.ZX];rfl);refine⟨rfl,BZ s 2,by simp[Yc,I.cells],rfl,λl bD aU c4 bE S B H bF c5 D aV bb aW hv ci cj=>?_,λaU S B H D aV bb aW=>?_⟩
  .obtain⟨bc,bd⟩:=VG D.ext a' az;have ck:=bx _ _ _ _ D;have aX:=Y.Zn.later ck;have cl:Ext aK [] al S B H:=aP.ext.trans (aR.trans D.ext);obtain⟨w0,rfl⟩:∃w0,bF=#[w0]:=by
    have P:=hv.1;clear hv;obtain⟨cm⟩:=bF
    match cm,P with
    | [w0],_=>exact⟨w0,rfl⟩
   have cn:((#[42]:Array Tmp).zip #[w0]).foldl (λbe (t,a)=>be.setIfInBounds t a) t1=t1.setIfInBounds 42 w0:=J;change ν prog Q mn x (Frame.round L 58 (((#[42]:Array Tmp).zip #[w0]).foldl (λbe (t,a)=>be.setIfInBounds t a) t1) _ _ .normal) _ _;rw[cn];have cp:ς S B [VU s,Ri,Ym l] (.ms 2 l.length 0 l.length) w0:=hv.2 0 _ _ rfl rfl;have c6:l.length<2 ^ 30:=U;have cq:YS S B [VU s,Ri,Ym l] ((42,.ms 2 l.length 0 l.length)::Ld g) (t1.setIfInBounds 42 w0):=QG (YS.put aX (d:=42) (by rw[Y.size];omega) cp) J;refine V.here (b:=Frame.round L 58 t1 .skip .skip .normal) (t:=t1.setIfInBounds 42 w0) (m:=3) (nt:=65) (S:=S) (B:=B) (H:=H) (σ:=[VU s,Ri,Ym l]) (env:=(42,.ms 2 l.length 0 l.length)::Ld g) ?_ ⟨aV,cq,XB (T9 ..) Y.size,Z1 _⟩;refine V.XS C rfl ?_;refine Χ ?_;refine W.stop ?_;intro cr cs bf t3 aA aq;obtain⟨aB,bg⟩:=VG aA.ext bb aW;obtain⟨ct,cu⟩:=VG aA.ext bc bd;refine ν.beginRound C rfl rfl bg rfl ?_;refine V.here (b:=Frame.round L 58 t1 .skip .skip .normal) (m:=3) (nt:=65) ?_ ⟨aq.holds.ZX aB,aq.Zn,aq.size,aq.rows⟩;refine V.XS C rfl ?_;obtain⟨z,u⟩:=Ι (l.map λn:Nat=>(n:Int));have cv:Ym l=.cells 3 1 (z.map R):=by rw[u,Sq];rfl
   have cw:z.length=l.length:=by rw[u,Yp]
   have bG:=Μ.UD (sA s bk z U U (λx C=>by have:=a0 x C;omega)) (ZT.refl _) (K':=λa r=>a=ZB (s.Sv z)/\r=[.cells 3 1 (z.map R)]) (λa r ⟨P,M⟩=>⟨_,P,rfl,M⟩);obtain⟨bH,c7⟩:=aJ l bE;rw[<-u] at bH;rw[cw,<-cv] at bG;have bI:ψ 0 (ZB s):=J;have bJ:ψ 0 (ZB (s.Sv z)):=J;have aM:V4 (Ym l):=QW (f:=λn:Nat=>R n) λx=>by simp[I.cells]
   refine ZP λav N=>?_;refine Μ.one (as0:=[ZB s,.ms 0 l.length 0 l.length]) bG 2 rfl aM aM (λa D=>by
    simp only[Zm,YM,or_false] at D;rcases D with rfl|rfl
    .exact bI.WA 1
    .exact TS.2 U) (bJ.WA 1) (by simp[TR,bI.Yk [2]]) ?_
   rw[bJ.Yk [2]];simp;(repeat (rw[Ν];simp));refine Κ.c bH (ZT.refl _) J J ?_;simp;(repeat (rw[Ν];simp));apply N;have bh:Zw S cr B cs [VU s,Ri,Ym l] [VU s,Ri,Ym l]:=aA.all aV (Z1 _);have cx:=λy=>(D.ext.trans aA.ext).ZX M (y:=y) ⟨_,bg⟩;have cy:=λy=>(cl.trans aA.ext).ZX aS (y:=y) ⟨_,bg⟩;by_cases aY:F l=[]
   .refine Η (by simp[aY]) ?_
    repeat apply Ξ
    refine W.stop ?_;intro am an ao t5 K T;obtain⟨aC,aD⟩:=VG K.ext aB (show(bf.ZX L _).obj L=some (.loop _) by simp[Ψ.ZX];rfl);have aZ:=K.all (aq.holds.ZX aB) (Z1 _);refine ν.endRound C rfl rfl rfl aD (jump:=none) (.inl ⟨rfl,rfl⟩) (ci (by rw[aU,List.find?_cons,aY];rfl) am an _ ⟨((cx _).trans K.ext).ZX M ⟨_,aD⟩,?_⟩ (bh.trans aZ) (T.holds.ZX aC) aC (by simp[Ψ.ZX]));exact D.later.trans (bh.trans aZ)
   .refine Γ (by
     have:0<(F l).length:=RR.2 aY;simp;omega) ?_
    refine Χ ?_;obtain⟨ae,aE⟩:=Ι (λk=>(l.take k).map λj=>g.getD j []:Nat->List (List Int));have cz:ae 0=[]:=by rw[aE];simp
    have cA:∀k,(h:k<l.length)->ae (k+1)=ae k++[g.getD l[k] []]:=λk h=>by
     rw[aE];simp only;rw[Wx h,Yd];rfl
    have cB:∀k,(ae k).length<=k:=λk=>by rw[aE];simp;omega
    have bK:ae l.length=S3 s.cells F:=by
     rw[Φ,aU,List.find?_cons];have:(!(F l).isEmpty)=true:=by simpa using aY
     rw[this,aE];simp
    clear aE;refine W.iter (λk:Nat=>k<=l.length) (λk=>[(1,.Ο 0 1 0 0),(5,.ω [YE 1 (g.map ZE)]),(9,.Ο 1 1 0 0),(50,.ms 2 l.length 0 l.length),(51,R l.length),(52,R k)]) (λk=>[VU s,.cells 23 1 [Z4 3 ((ae k).map ZE)],Ym l]++μ 29 1 ((ae k).map ZE)) (λk=>l.length-k) 0 (Ε _) (by rw[cz];rfl) J (λk c8 bL=>?_);have ar:=cA k;have cC:=cB k;obtain⟨w,aa⟩:=Ι (ae k);rw[<-aa] at ar cC;refine W.to (σ':=[VU s,.cells 23 1 [Z4 3 (w.map ZE)],Ym l]++μ 29 1 (w.map ZE)) (env':=[(1,.Ο 0 1 0 0),(5,.ω [YE 1 (g.map ZE)]),(9,.Ο 1 1 0 0),(50,.ms 2 l.length 0 l.length),(51,R l.length),(52,R k)]) ?_ (by rw[aa]) J;refine Χ ?_;by_cases aj:k<l.length
    .refine Γ (by simp[aj]) ?_;have bi:=ε aj;have cD:=bE _ (Y2 aj);have ar:=ar aj;obtain⟨p,bM⟩:=Ι (l[k]);rw[<-bM] at bi cD ar;have bN:∀h,l[k]'h=p:=λh=>bM.symm;have aF:p<g.length:=U;have cE:g.map ZE≠[]:=by
      intro h;have:g=[]:=by simpa using h
      rw[this] at aF;simp at aF
     have ay:YE 1 (g.map ZE)=.sl false 1 (g.map ZE):=by unfold YE;rw[if_neg (by simpa using cE)]
     have aG:g[p]?=some (g.getD p []):=by rw[XJ,ε aF];rfl
     obtain⟨y,cF⟩:=Ι (g.getD p []);rw[<-cF] at aG ar;have bO:∀h,g[p]'h=y:=λh=>by rw[ε h] at aG;simpa using aG
     have a4:=XP (i:=k) U
     have c9:(Ym l)=.cells 3 1 (l.map λn:Nat=>R n):=rfl;obtain⟨bj,aH⟩:=Ι (μ 29 1 (w.map ZE));obtain⟨V,ak⟩:=Ι (Z4 3 (w.map ZE));rw[<-aH,<-ak]
     repeat apply Ξ
     refine W.Yn (A:=[]) Υ [(1,.Ο 0 1 0 0),(5,.ω [YE 1 (g.map ZE)]),(9,.Ο 1 1 0 0),(50,.ms 2 l.length 0 l.length),(51,R l.length),(52,R k),(12,R p)] ([VU s,.cells 23 1 [V],Ym l]++bj) ?_ (by
      (try simp);(repeat (rw[Ν];simp[aj,bi,bN]));(try simp[aj,bi,bN]))
     repeat apply Ξ
     refine W.S4 (A:=[62]) Υ mixed [(1,.Ο 0 1 0 0),(5,.ω [YE 1 (g.map ZE)]),(9,.Ο 1 1 0 0),(50,.ms 2 l.length 0 l.length),(51,R l.length),(52,R k)] ([VU s,.cells 23 1 [Z4 3 ((w++[y]).map ZE)],Ym l]++μ 29 1 ((w++[y]).map ZE)) ?_ (by
      rw[ay,aH,ak];clear bL;by_cases u:w=[]
      .subst u;have ag:Z4 3 (([]:List (List Int)).map ZE)=.sl true 0 []:=rfl;have Φ:μ 29 1 (([]:List (List Int)).map ZE)=[]:=rfl;rw[ag,Φ];simp;(repeat (rw[ZG];simp[aF,aG,bO]));(try rw[ZH]);refine⟨Yt (by kernel_rfl),?_⟩;simp[Z4,μ,ay]
      .have aw:w.map ZE≠[]:=by simpa using u
       rw[X8 aw,YY aw];have aN:w.length<=4294967295:=U;simp;(repeat (rw[ZG];simp[aF,aG,bO,aN]));(try rw[ZH]);refine⟨Yt (by kernel_rfl),?_⟩;simp[Z4,μ,ay])
     refine Ζ a4 ?_;exact W.to (bL (k+1) U U) (by rw[ar];simp) J
    .refine Η (by simp[aj]) ?_;have cG:k=l.length:=U;subst cG;refine W.exit rfl ?_
     repeat apply Ξ
     refine W.stop ?_;rw[<-aa] at bK;intro am an ao t5 K T;obtain⟨aC,aD⟩:=VG K.ext aB (show(bf.ZX L _).obj L=some (.loop _) by simp[Ψ.ZX];rfl);obtain⟨cH,cI⟩:=VG K.ext ct (show(bf.ZX L _).obj E=some (.deferred (some [])) by simp[Ψ.ZX,aT,cu]);have aZ:=K.all (aq.holds.ZX aB) (Z1 _);refine ν.endRound C rfl rfl rfl aD (jump:=some (.exit 4)) (.inr (.inr ⟨4,_,rfl,rfl,rfl⟩)) (cj _ λc' cJ bP=>?_);obtain⟨ai,ad⟩:=(T.holds.ZX (y:=.loop _) aC).RG (λb cK=>bP.RG cK) bP.grow;obtain⟨cL,bQ⟩:=VG ad aC (show(ao.ZX L _).obj L=some (.loop _) by simp[Ψ.ZX];rfl);obtain⟨cM,cN⟩:=VG ad cH (show(ao.ZX L _).obj E=some (.deferred (some [])) by simp[Ψ.ZX,aT,cI]);refine ν.Jn (b:={BY vs with defers:=[⟨.collected E,#[]⟩]}) (t:=t1) C rfl bQ J ?_;refine V.here (m:=0) (nt:=65) (S:=am) (B:=an) (σ:=[VU s,.cells 23 1 [Z4 3 (w.map ZE)],Ym l]++μ 29 1 (w.map ZE)) (env:=Ld g) ?_ ⟨ai.ZX cL,QG (aX.later (bh.trans aZ)) J,Y.size,Ε _⟩;refine V.XS C rfl ?_;simp only[Option.map_some,Option.toList_some,List.singleton_append];refine W.exit rfl ?_;obtain⟨bj,aH⟩:=Ι (μ 29 1 (w.map ZE));obtain⟨V,ak⟩:=Ι (Z4 3 (w.map ZE));rw[<-aH,<-ak]
     repeat apply Ξ
     refine W.Yn (A:=[]) Υ [(2,V),(3,R 0)] ([VU s,.cells 23 1 [V],Ym l]++bj) ?_ (by
      by_cases u:w.map ZE=[]
      .have ag:V=.sl true 0 []:=by rw[ak,u];rfl
       rw[ag];(try simp);(repeat (rw[Ν];simp));(try simp)
      .rw[ak,X8 u];(try simp);(repeat (rw[Ν];simp));(try simp))
     refine W.cut 0 (Ε _) [(2,YE 1 (w.map ZE)),(3,R 0)] J (λid r h=>U) (λz u=>by
      simp only[Zm,YM,or_false] at u;rcases u with rfl|rfl
      .show Yz 0 _ V _;rw[ak];refine QR (t:=29) (Ε _) (λu=>?_) (λe a6 a D=>LJ e a6 a D);rw[aH,YY u];rfl
      .exact .low J) ?_
     repeat apply Ξ
     refine W.stop ?_;intro cO cP cQ t9 bR bS;obtain⟨_,cR⟩:=VG bR.ext cM (show(cJ.ZX L _).obj E=some (.deferred (some [])) by simp[Ψ.ZX,aT,cN]);refine ν.ret C rfl rfl ?_;refine bz _ cO cP cQ _ _ rfl rfl rfl rfl (((((((cy _).trans K.ext).ZX aS ⟨_,aD⟩)).trans ad).ZX aS ⟨_,bQ⟩).trans bR.ext) bS.holds cR bS.Zn rfl rfl ?_;rw[<-bK];exact Zi.Hs
  .obtain⟨bc,bd⟩:=VG D.ext a' az;have aX:=Y.Zn.later (bx _ _ _ _ D);have cS:Ext aK [] al S B H:=aP.ext.trans (aR.trans D.ext);refine ν.Jn (b:={BY vs with defers:=[⟨.collected E,#[]⟩]}) (t:=t1) C rfl aW J ?_;refine V.here (m:=0) (nt:=65) (S:=S) (B:=B) (σ:=[VU s,Ri]) (env:=Ld g) ?_ ⟨aV.ZX bb,QG aX J,Y.size,Ε _⟩;refine V.XS C rfl ?_;simp only[Option.map_none,Option.toList_none,List.nil_append];refine Χ ?_;refine W.cut 0 (Ε _) [(2,.sl true 0 []),(3,R 0)] J (λid r h=>U) (λz u=>by
    simp only[Zm,YM,or_false] at u;rcases u with rfl|rfl<;>exact .low J) ?_
   refine W.stop ?_;intro am an ao t5 K T;have cT:∀y,(H.ZX L y).obj E=some (.deferred (some [])):=λy=>by simp[Ψ.ZX,aT,bd]
   obtain⟨da,cU⟩:=VG K.ext bc (cT _);refine ν.ret C rfl rfl ?_;refine bz _ am an ao _ _ rfl rfl rfl rfl ((cS.ZX aS ⟨_,aW⟩).trans K.ext) T.holds cU T.Zn rfl rfl ?_;rw[Φ,aU];exact .nil
end
end Go.TL
namespace Go.TL
open Go.Proofs.Tryz
open Go.Proofs
variable [ZN]
theorem BW (s:υ) (T:s.cells.length<2 ^ 10) (o:∀x∈s.cells,x.length<2 ^ 10):Κ prog 59 [ZB s] (θ (placesOf s.cells)):=by
 refine Μ.body Υ func59 rfl rfl ntmps59 rfl rfl J ?_;refine Χ ?_;have E:=λc=>IC s.cells o c;refine W.iter (λc:Nat=>c<=s.cells.length) (λc=>[(1,Z9 s),(3,XR ((RV s.cells c).map ZE)),(4,R c)]) (λc=>μ 29 1 ((RV s.cells c).map ZE)) (λc=>s.cells.length-c) 0 (Ε _) rfl (by simp[RV,Rz]) (λc F r=>?_);have H:=IA s.cells c F;have f:=Ge s.cells c;have V:=E c;have X:c*2 ^ 10<=2 ^ 20:=T8 (2 ^ 10) (show c<=2 ^ 10 by omega);obtain⟨a,m⟩:=Ι (RV s.cells c);rw[<-m] at H f;refine W.to (σ':=μ 29 1 (a.map ZE)) (env':=[(1,Z9 s),(3,XR (a.map ZE)),(4,R c)]) ?_ (by rw[m]) (by rw[m];simp);refine Χ ?_;by_cases g:c<s.cells.length
 .refine Γ (by simp[g]) ?_;have n:=ε g;have I:=o _ (Y2 g);rw[XJ,n] at f;obtain⟨j,t⟩:=Ι (s.cells[c]);rw[<-t] at n I f;simp only[Option.getD_some] at f;have K:∀h,s.cells[c]'h=j:=λh=>t.symm;have L:=XP (i:=c) U;refine Χ ?_;refine W.iter (λi:Nat=>i<=j.length) (λi=>[(1,Z9 s),(4,R c),(3,XR ((a++Vn c i).map ZE)),(5,R i)]) (λi=>μ 29 1 ((a++Vn c i).map ZE)) (λi=>j.length-i) 0 (Ε _) (by simp[Vn]) (by simp[Vn]) (λi hi u=>?_);have M:=B0 c i;have N:(a++Vn c i).length<=2 ^ 21:=by simp[Vn];omega
  obtain⟨e,k⟩:=Ι (a++Vn c i);rw[<-k] at N;have v:a++Vn c (i+1)=e++[[(c:Int),(i:Int)]]:=by rw[M,k,U6]
  refine W.to (σ':=μ 29 1 (e.map ZE)) (env':=[(1,Z9 s),(4,R c),(3,XR (e.map ZE)),(5,R i)]) ?_ (by rw[k]) (by rw[k];simp);refine Ζ (Τ g (Τ n K)) ?_;by_cases w:i<j.length
  .refine Γ (by simp[w]) ?_;have O:=XP (i:=i) U;refine Χ ?_;refine W.Yn (A:=[28]) Υ [(1,Z9 s),(4,R c),(3,XR ((e++[[(c:Int),(i:Int)]]).map ZE)),(5,R i)] (μ 29 1 ((e++[[(c:Int),(i:Int)]]).map ZE)) ?_ (by
    clear u r;by_cases y:e=[]
    .subst y;have P:XR (([]:List (List Int)).map ZE)=.sl true 0 []:=rfl;have Φ:μ 29 1 (([]:List (List Int)).map ZE)=[]:=rfl;rw[P,Φ];(try simp);(repeat (rw[Ν];simp));(try simp);simp[XR,μ]
    .have B:e.map ZE≠[]:=by simpa using y
     rw[QT B,YY B];have C:e.length<=4294967295:=U;(try simp);(repeat (rw[Ν];simp[C]));(try simp[C]);simp[XR,μ])
   refine Ζ O ?_;exact W.to (u (i+1) U U) (by rw[v];simp) (by rw[v];simp)
  .refine Η (by simp[w]) ?_;have Q:i=j.length:=U;subst Q;refine W.exit rfl ?_;refine Ζ L ?_;rw[<-k] at f;exact W.to (r (c+1) U U) (by rw[f]) (by rw[f];simp)
 .refine Η (by simp[g]) ?_;have S:c=s.cells.length:=U;refine W.exit rfl ?_;refine W.Ec (d:=3) LJ [] J (λp h=>by cases h) ?_;obtain⟨b,kk,l,D⟩:=LH 1 (a.map ZE);rw[D];refine Χ ?_;refine W.ret ⟨_,rfl,?_,rfl⟩;show Zi (.sl b kk l) _;rw[<-D,m,S];exact Zi.Hs
theorem Gd (l:List Int) (n:Int) (a:l.length<2 ^ 62):Κ prog 112 [ζ R 1 l,R n] (ZU (l.contains n)):=
 (yz l n a).mono (λ_ _ ⟨b,c⟩=>⟨.of b,c⟩) (λ_ _ h=>h)
abbrev Qz (s:υ) (V:I):Ρ:=[ZI γ γ γ,ZI (Z6 s.Α) (θ s.Β) V]
theorem sy (s:υ) (l:List Int) (aM:l.length<2 ^ 20) (aN:s.cells.length<2 ^ 20) (ai:∀x∈s.cells,x.length<2 ^ 20) :
  Κ prog 60 [ZB s,ζ R 1 l] (ZB (s.Sv l)):=by
 refine Μ.body Υ func60 rfl rfl ntmps60 rfl rfl J ?_
 repeat apply Ξ
 refine Zj (A:=[4]) Υ λaj L=>ZY ?_;apply L
 repeat apply Ξ
 refine Zj (A:=[5]) Υ λaj L=>ZY ?_;apply L;refine Χ ?_;have az:=λc=>IC s.cells ai c;refine W.iter (λc:Nat=>c<=s.cells.length) (λc=>[(1,ζ R 1 l),(2,Z9 s),(4,.Ο 0 1 0 0),(5,.Ο 1 1 0 0),(6,R (Ye s.cells c)),(7,R c)]) (λc=>Qz s (Z4 2 ((List.range c).map (U8 l s.cells)))++μ 60 1 ((List.range c).map (U8 l s.cells))) (λc=>s.cells.length-c) 0 (Ε _) (by simp[Wo,Z4]) (by simp[Ye]) (λc aO ab=>?_);obtain⟨b,M⟩:=Ι ((List.range c).map (U8 l s.cells));have ak:∀e∈b,∀a∈e.cells,ψ 0 a:=by rw[M];exact B2
 refine W.to (σ':=Qz s (Z4 2 b)++μ 60 1 b) (env':=[(1,ζ R 1 l),(2,Z9 s),(4,.Ο 0 1 0 0),(5,.Ο 1 1 0 0),(6,R (Ye s.cells c)),(7,R c)]) ?_ (by rw[M]) J;refine Χ ?_;by_cases m:c<s.cells.length
 .refine Γ (by simp[m]) ?_;have w:=ε m;have aA:=ai _ (Y2 m);have al:=Gf s.cells m;have aB:=az c;have ad:PM l s.cells c=VV l (Ye s.cells c) s.cells[c] s.cells[c].length:=by
   unfold PM;rw[XJ,w];rfl
  obtain⟨j,am⟩:=Ι (s.cells[c]);rw[<-am] at w aA al ad;have F:∀h,s.cells[c]'h=j:=λh=>am.symm;obtain⟨o,aC⟩:=Ι (Ye s.cells c);have aP:c*2 ^ 20<2 ^ 40:=by
   have:c*2 ^ 20<2 ^ 20*2 ^ 20:=Nat.mul_lt_mul_of_pos_right U Z0;exact this
  rw[<-aC] at al ad aB ⊢;have aD:=XP (i:=c) U;obtain⟨k,D⟩:=Ι ((Qz s (Z4 2 b)++μ 60 1 b).length);have P:(Z4 2 b=.sl true 0 []/\μ 60 1 b=[]/\b=[])\/(Z4 2 b=.ms 2 b.length 0 b.length/\μ 60 1 b=[.cells 60 1 b]/\b≠[]):=by
   by_cases f:b=[]
   .exact .inl ⟨by rw[f];rfl,by rw[f];rfl,f⟩
   .exact .inr ⟨X8 f,YY f,f⟩
  obtain⟨V,n⟩:=Ι (Z4 2 b);have aE:∀h,3<=h\/b=[]->ψ h V:=λh H=>by
   rw[n];refine LI λf=>?_;rcases H with H|H
   .omega
   .exact absurd H f
  have aQ:V.cells=[V]:=by rw[n];unfold Z4;split<;>rfl
  rw[<-n] at D P ⊢;have aF:∀h,3<=h\/b=[]->∀r∈Qz s V++μ 60 1 b,Yc h r:=λh H r p=>by
   rcases WK.1 p with p|p
   .simp only[Zm,YM,or_false] at p;rcases p with rfl|rfl
    .intro e u a v;simp[I.cells] at u;subst u;simp[I.cells] at v;subst v;simp
    .intro e u a v;simp[I.cells] at u;subst u;simp[I.cells] at v;rcases v with rfl|rfl|rfl
     .simp
     .simp
     .exact aE h H
   .exact QS ak r p
  refine Ζ (Τ m (Τ w F)) ?_;refine W.iter (λi:Nat=>i<=j.length) (λi=>[(1,ζ R 1 l),(2,Z9 s),(4,.Ο 0 1 0 0),(5,.Ο 1 1 0 0),(6,R ((o+i:Nat))),(7,R c),(8,Z4 k ((VV l o j i).map Z2)),(9,R i)]) (λi=>Qz s V++μ 60 1 b++μ 28 3 ((VV l o j i).map Z2)) (λi=>j.length-i) 0 (Ε _) (by rw[ID];simp[Wo]) (by rw[ID];simp[Z4]) (λi hi Q=>?_);have aG:=B3 l o j i;obtain⟨g,N⟩:=Ι (VV l o j i);rw[<-N] at aG;obtain⟨q,an⟩:=Ι (o+i);refine W.to (σ':=Qz s V++μ 60 1 b++μ 28 3 (g.map Z2)) (env':=[(1,ζ R 1 l),(2,Z9 s),(4,.Ο 0 1 0 0),(5,.Ο 1 1 0 0),(6,R q),(7,R c),(8,Z4 k (g.map Z2)),(9,R i)]) ?_ (by rw[N]) (by rw[N,an];simp);refine Ζ (Τ m (Τ w F)) ?_;by_cases y:i<j.length
  .refine Γ (by simp[y]) ?_;have B:=Gg l o j y;rw[<-N,<-an] at B;have O:=ε y;obtain⟨x,S⟩:=Ι (j[i]);rw[<-S] at O B;have T:∀h,j[i]'h=x:=λh=>S.symm;have ao:=XP (i:=i) U;have ap:=XP (i:=q) U;have aq:q+1=o+(i+1):=U;refine ZP λaj L=>?_;refine Κ.d (Gd l q U) (ZY ?_);apply L
   repeat apply Ξ
   by_cases X:(q:Int)∈l
   .have ae:l.contains (q:Int)=true:=by simpa using X
    rw[if_pos ae,Tn] at B;refine Η (by simp[X]) ?_;refine Ζ (Τ ao ap) ?_;refine W.to (Q (i+1) U U) (by rw[B];simp) ?_;rw[B,<-aq];simp
   .have ae:¬l.contains (q:Int)=true:=by simpa using X
    rw[if_neg ae] at B;refine Γ (by simp[X]) ?_
    repeat apply Ξ
    obtain⟨Y,af⟩:=Ι (μ 60 1 b);rw[<-af] at D;rw[<-af];have ar:∀r:Row,(ZI γ γ γ::ZI (Z6 s.Α) (θ s.Β) V::(Y++[r]))[k]?=some r:=λr=>by rw[D];simp
    have au:∀r r':Row,(ZI γ γ γ::ZI (Z6 s.Α) (θ s.Β) V::(Y++[r])).set k r'=ZI γ γ γ::ZI (Z6 s.Α) (θ s.Β) V::(Y++[r']):=λr r'=>by rw[D];simp
    refine W.Yn (A:=[43]) Υ [(1,ζ R 1 l),(2,Z9 s),(4,.Ο 0 1 0 0),(5,.Ο 1 1 0 0),(6,R q),(7,R c),(8,Z4 k ((g++[x]).map Z2)),(9,R i)] (Qz s V++Y++μ 28 3 ((g++[x]).map Z2)) ?_ (by
     clear Q ab;by_cases f:g=[]
     .subst f;have C:Z4 k (([]:List ZF).map Z2)=.sl true 0 []:=rfl;have Φ:μ 28 3 (([]:List ZF).map Z2)=[]:=rfl;rw[C,Φ];simp only[Tn];(try simp);(repeat (rw[Ν];simp[m,w,F,y,O,T]));(try simp[m,w,F,y,O,T]);simp[Z4,μ,D]
     .have av:g.map Z2≠[]:=by simpa using f
      rw[X8 av,YY av];have aw:g.length<=4294967295:=U;(try simp);(repeat (rw[Ν];simp[m,w,F,y,O,T,ar,au,aw]));(try simp[m,w,F,y,O,T,ar,au,aw]);simp[Z4,μ])
    rw[af];refine Ζ (Τ ao ap) ?_;refine W.to (Q (i+1) U U) (by rw[B];simp) ?_;rw[B,<-aq];simp
  .refine Η (by simp[y]) ?_;have aH:i=j.length:=U;subst aH;refine W.exit rfl ?_;refine W.to (σ':=Qz s V++μ 60 1 b++μ 28 3 (g.map Z2)) (env':=[(1,ζ R 1 l),(2,Z9 s),(4,.Ο 0 1 0 0),(5,.Ο 1 1 0 0),(6,R q),(7,R c),(8,Z4 k (g.map Z2))]) ?_ J J;refine W.cut (Qz s V++μ 60 1 b).length J [(1,ζ R 1 l),(2,Z9 s),(4,.Ο 0 1 0 0),(5,.Ο 1 1 0 0),(6,R q),(7,R c),(8,YE 3 (g.map Z2))] J ?_ ?_ ?_
   .intro id r aI p;rw[Y0 aI] at p;refine aF _ ?_ r (Zf p);by_cases f:b=[]
    .exact .inr f
    .rw[YY f];exact .inl J
   .intro z f;simp only[Zm,YM,or_false] at f;rcases f with rfl|rfl|rfl|rfl|rfl|rfl|rfl
    .exact .low J
    .exact .low J
    .exact .low (Xz.2 J)
    .exact .low (Xz.2 J)
    .exact .low J
    .exact .low J
    .refine QR (t:=28) (by rw[D];exact Z1 _) (λf=>?_) (λe u a v=>ψ.mono (IB e u a v) (Ε _));rw[YY f,D];simp
   have aJ:q=Ye s.cells (c+1):=U
   have Z:b++[U8 l s.cells c]=(List.range (c+1)).map (U8 l s.cells):=by rw[M,VA,Yd];rfl
   have aK:U8 l s.cells c=YE 3 (g.map Z2):=by unfold U8;rw[ad,N]
   rw[aK] at Z;rw[List.take_left];obtain⟨x,S⟩:=Ι (YE 3 (g.map Z2));obtain⟨aR,aS,aT,ag⟩:=LH 3 (g.map Z2);rw[<-S] at Z ag ⊢
   repeat apply Ξ
   refine W.Yn (A:=[50]) Υ [(1,ζ R 1 l),(2,Z9 s),(4,.Ο 0 1 0 0),(5,.Ο 1 1 0 0),(6,R q),(7,R c)] (Qz s (Z4 2 (b++[x]))++μ 60 1 (b++[x])) ?_ (by
    have ax:b.length<=4294967295:=by rw[M];simp;omega
    clear ab Q Z n;rcases P with⟨C,Φ,ay⟩|⟨C,Φ,ay⟩
    .rw[Φ,C,ay,ag];(try simp);(repeat (rw[Ν];simp));(try simp);simp[Z4,μ]
    .rw[Φ,C,ag];(try simp);(repeat (rw[Ν];simp[ax]));(try simp[ax]);simp[Z4,μ])
   refine Ζ aD ?_;exact W.to (ab (c+1) U U) (by rw[Z];simp) (by rw[<-aJ];simp)
 .refine Η (by simp[m]) ?_;have aL:c=s.cells.length:=U;refine W.exit rfl ?_
  repeat apply Ξ
  obtain⟨V,n⟩:=Ι (Z4 2 b);obtain⟨ah,aa⟩:=Ι (μ 60 1 b);have P:(V=.sl true 0 []/\ah=[])\/(V=.ms 2 b.length 0 b.length/\ah=[.cells 60 1 b]):=by
   by_cases f:b=[]
   .exact .inl ⟨by rw[n,f];rfl,by rw[aa,f];rfl⟩
   .exact .inr ⟨by rw[n,X8 f],by rw[aa,YY f]⟩
  rw[<-n,<-aa];refine W.Yn (A:=[]) Υ [(4,.Ο 0 1 0 0)] (ZI (Z6 s.Α) (θ s.Β) V::ZI (Z6 s.Α) (θ s.Β) V::ah) ?_ (by
   rcases P with⟨C,Φ⟩|⟨C,Φ⟩<;>(rw[C,Φ];(try simp);(repeat (rw[Ν];simp));(try simp)))
  refine W.cut 0 (Ε _) [(4,.ω [Z6 s.Α,θ s.Β,YE 1 b])] J (λid r h=>U) ?_ ?_
  .intro z f;simp only[Zm,YM,or_false] at f;subst f;refine .struct (id:=0) Z0 (show _=some (Row.cells _ _ [.Z' _]) from rfl) rfl λx a aU K E=>?_
   match x with
   | 0=>simp at K E;subst K;subst E;exact .low J
   | 1=>simp at K E;subst K;subst E;exact .low J
   | 2=>
    simp at K E;subst K;subst E;rw[n];refine QR (t:=60) Z0 (λf=>?_) (λe u a v=>ak e u a v);rw[aa,YY f];rfl
   | x+3=>simp at E
  .repeat apply Ξ
   refine W.ret ⟨_,rfl,?_,rfl⟩;show Zi (.Z' [Z6 s.Α,θ s.Β,YE 1 b]) _;refine .Z' (.cons (.refl _) (.cons (.refl _) (.cons ?_ .nil)));rw[M,aL];refine .trans Zi.acc ?_;show Zi (.sl false 1 ((List.range s.cells.length).map (U8 l s.cells))) (.sl false 1 (((List.range s.cells.length).map (PM l s.cells)).map Xt));rw[Sq];exact .map λc _=>.one Zi.acc (by unfold U8 YE;split<;>rfl) rfl
end Go.TL
namespace Go.TL
open Go.Proofs.Tryz
open Go.Conc
variable [ZN]
inductive N0 (id:Nat):I->I->Prop where
 | same (a:I):N0 id a a
 | nil {k:Nat}:N0 id (.sl true k []) (.ms id 0 0 0)
def Tv (id:Nat) (r r':Row):Prop:=r'=r\/∃t n es es',r=.cells t n es/\r'=.cells t n es'/\es'.length=es.length/\
 ∀(i:Nat) (e b:I),es[i]?=some e->es'[i]?=some b->b.cells.length=e.cells.length/\∀(x:Nat) (a c:I),e.cells[x]?=some a->b.cells[x]?=some c->N0 id a c
section
variable {P:Program} {S:ο} {B:Z8} {H:Ψ} {σ σ':Ρ} {m nt k:Nat} {t:TypeId} {kk:List Item} {env:Δ} {Z:XZ} {E:Yf}
theorem Zw.pad (g:B.length=σ.length) (i:σ'.length=σ.length) (b:∀(j:Nat) (r:Row),σ[j]?=some r->∃r',σ'[j]?=some r'/\Tv σ.length r r'):Zw S S B (B++[none]) σ (σ'++[.cells t k []]):=
 ⟨λ_ _ _ h=>h,λj r a=>by
  have l:=(Zu.1 a).1;obtain⟨r',c,d⟩:=b j r a;have e:(B++[none])[j]?=B[j]?:=Y0 U;refine⟨r',by rw[Y0 U];exact c,?_⟩;rw[e];rcases d with rfl|⟨t,n,es,es',rfl,rfl,f,_⟩
  .exact Row.Ql _ _
  .exact .inl ⟨es',rfl,f,rfl⟩⟩
theorem ς.BV (i:B.length=σ.length) (j:σ'.length=σ.length) (l:Zw S S B (B++[none]) σ (σ'++[.cells t k []])) {a c:I} (h:N0 σ.length a c) {v:Value} (d:ς S B σ a v):ς S (B++[none]) (σ'++[.cells t k []]) c v:=by
 cases h with
 | same=>exact d.later l
 | nil=>
  have e:(σ'++[Row.cells t k []])[σ.length]?=some (.cells t k []):=by rw[<-j];simp
  have f:(B++[none])[σ.length]?=some none:=by rw[<-i];simp
  cases d with
  | Wj base cap g=>
   obtain rfl:=g rfl;exact .ms 0 e rfl f (Z1 _) (Z1 _) (.inl rfl)
  | sl b o cap w g=>
   obtain rfl:cap=0:=g rfl;exact .ms 0 e rfl f (Z1 _) (Z1 _) (.inl rfl)
theorem W.pad (t:TypeId) (k:Nat) (L:σ'.length=σ.length) (V:∀(j:Nat) (r:Row),σ[j]?=some r->∃r',σ'[j]?=some r'/\Tv σ.length r r') (env':Δ) (az:∀p∈env',N0 σ.length (Z7 env p.1) p.2)
  (aA:W P m nt kk env' (σ'++[.cells t k []]) Z E):W P m nt kk env σ Z E:=by
 intro aB mn x cs b S B H ZW M g O aC aD;have f:=O.holds;have Q:=f.len;have R:Zw S S B (B++[none]) σ (σ'++[.cells t k []]):=Zw.pad Q L V;have ao:∀j,j<σ.length->(σ'++[Row.cells t k []])[j]?=σ'[j]?:=λj h=>Y0 U;have l:∀j,j<σ.length->(B++[none])[j]?=B[j]?:=λj h=>Y0 U;have back:∀j r',j<σ.length->(σ'++[Row.cells t k []])[j]?=some r'->∃r,σ[j]?=some r/\Tv σ.length r r':=λj r' s h=>by
  rw[ao j s] at h;obtain⟨ap,d,X⟩:=V j _ (ε s);rw[h] at d;cases d;exact⟨_,ε s,X⟩
 have Y:∀{r r':Row},Tv σ.length r r'->r'.live->r.live:=λ{r r'} h hv=>by
  rcases h with rfl|⟨_,_,_,_,rfl,rfl,_⟩
  .exact hv
  .trivial
 have low:∀j y,(B++[none])[j]?=some (some y)->j<σ.length:=λj y h=>by
  have d:=(Zu.1 h).1;simp at d;by_cases e:j=B.length
  .subst e;simp at h
  .omega
 have aE:Holds S (B++[none]) (σ'++[.cells t k []]) H:=by
  refine⟨f.YL,by simp;omega,λj r bo c u=>?_,λi j aF aG b aH aI aJ hi s aK aL aa ab=>?_,λj r b N c aM g o=>?_⟩
  .by_cases e:j<σ.length
   .rw[l j e] at u;obtain⟨aN,d,X⟩:=back j r e c;have T:=f.row j aN bo d u;rcases X with rfl|⟨t2,n,es,es',rfl,rfl,ad,aO⟩
    .refine T.later R (λb N _=>⟨λ_=>rfl,rfl,rfl⟩) λae left a5 Φ=>?_;subst Φ;obtain⟨_,_,a6,a7,xs,a8,seen,_,aq,⟨es,A⟩,_⟩:=T;have ar:=(Zu.1 A).1;refine⟨?_,l ae ar,λb N _=>⟨λ_=>rfl,rfl,rfl⟩⟩;obtain⟨r',aP,aQ⟩:=V ae _ A;rcases aQ with rfl|⟨_,_,_,_,aR,_⟩
     .rw[ao ae ar,aP,A]
     .cases aR
    .cases bo with
     | none=>
      have:es=[]:=T;subst this;exact YP.1 ad
     | some y=>
      obtain⟨b,N⟩:=y;obtain⟨C,D,F,w,I⟩:=T;refine⟨C,by rw[ad];exact D,F,w,λi aS hi=>?_⟩;have au:i<es.length:=by rw[<-ad];exact(Zu.1 hi).1
      obtain⟨aT,aU⟩:=I i _ (ε au);obtain⟨d1,d2⟩:=aO i _ aS (ε au) hi;refine⟨d1.trans aT,λx aV M=>?_⟩;have av:x<(es[i]).cells.length:=by rw[<-d1];exact(Zu.1 M).1
      obtain⟨aq,A,aW⟩:=aU x _ (ε av);exact⟨aq,A.BV Q L R (d2 x _ aV (ε av) M),aW⟩
   .have d:=(Zu.1 c).1;simp at d;have aX:j=σ'.length:=U;subst aX;rw[L,<-Q] at u;simp at c u;subst c;subst u;rfl
  .have aw:=low i _ aa
   have K:=low j _ ab;obtain⟨af,ag,ah⟩:=back i aF aw hi;obtain⟨ap,aY,aZ⟩:=back j aG K s;rw[l i aw] at aa;rw[l j K] at ab;exact f.inj i j af ap b aH aI aJ ag aY (Y ah aK) (Y aZ aL) aa ab
  .have K:=low j _ g;obtain⟨af,ag,ah⟩:=back j r K c;rw[l j K] at g;exact f.sep j af b N ag (Y ah aM) g o
 have a0:Ext S B H S (B++[none]) H:=(f.push (r:=.cells t k []) (bo:=none) (λb N h=>by cases h) (λb _=>⟨λ_=>rfl,rfl,rfl⟩) (λ_=>rfl)).2.1
 have ax:X5 m S B H σ S (B++[none]) H (σ'++[.cells t k []]):=⟨a0,R.left m⟩
 have a1:∀(l2:Δ),(∀p∈l2,N0 σ.length (Z7 env p.1) p.2)->∀i,ς S B σ (Z7 env i) (ZW.getD i undef)->ς S (B++[none]) (σ'++[.cells t k []]) (Z7 l2 i) (ZW.getD i undef):=by
  intro l2
  induction l2 with
  | nil=>intro _ i _;exact .Zk _
  | cons p l2 a2=>
   intro ay i c;simp only[Z7];split
   .rename_i e;subst e;exact c.BV Q L R (ay p J)
   .exact a2 (λq a3=>ay q (by simp[a3])) i c
 refine aA aB mn x cs b _ _ H ZW M g ⟨aE,λi=>a1 env' az i (O.Zn i),O.size,by have:=O.rows;simp;omega⟩ (λj ai aj ak al am t2 an C D F I=>?_) (λa ai aj ak al am t2 an v C D F I a4=>?_)
 .exact aC j ai aj ak al am t2 an C (ax.trans D) F I
 .exact aD a ai aj ak al am t2 an v C (ax.trans D) F I a4
theorem W.Iz (t:TypeId) (k:Nat) {i:Nat} {r r':Row} (hi:σ[i]?=some r) (b:Tv σ.length r r') (env':Δ) (c:∀p∈env',N0 σ.length (Z7 env p.1) p.2) (d:W P m nt kk env' (σ.set i r'++[.cells t k []]) Z E):W P m nt kk env σ Z E:=
 W.pad t k J (λj q a=>by
  by_cases e:j=i
  .subst e;rw[hi] at a;cases a;exact⟨r',by rw[Ww (Zu.1 hi).1],b⟩
  .exact⟨q,by rw[Vm (YQ e)];exact a,.inl rfl⟩) env' c d
end
end Go.TL
namespace Go.TL
open Go.Proofs.Tryz
open Go.Proofs
variable [ZN]
theorem BU (s:υ) (g:Int) (c:g<s.Α.length):Κ prog 134 [ZB s,R g] (R (s.of g)):=by
 refine Μ.body Υ func134 rfl rfl ntmps134 rfl rfl J ?_;refine Χ ?_;refine W.YN rfl (λa=>?_) (λa=>?_)
 .have a:g<0:=by simpa using a
  refine Χ ?_;refine W.rt ?_;exact .of (by rw[show s.of g=0 by simp[υ.of,a]];rfl)
 .have a:¬g<0:=by simpa using a
  obtain⟨n,rfl⟩:∃n:Nat,g=n:=⟨g.toNat,U⟩;have b:n<s.Α.length:=U;refine Ζ b ?_;refine W.rt ?_;exact .of (by rw[show s.of n=s.Α[n].YT by simp[υ.of,b];intro h;omega];rfl)
theorem sx (s:υ) (m:s.small) (p r:Int×Int) (n:Nat) (e:n<s.Β.length) (o:r.1<s.Α.length) (t:r.2<s.Α.length) :
  Κ prog 98 [ZB s,ζ R 1 [p.1,p.2],ζ R 1 [r.1,r.2],R n] (R (s.X4 p r n)):=by
 have f:=ε e
 have g:s.Β[n].length<2 ^ 62:=by have:=m.2.2.2.1 _ (Y2 e);omega
 obtain⟨L,k⟩:=Ι (s.Β[n]);rw[<-k] at f g;have l:∀h,s.Β[n]'h=L:=λh=>k.symm;have hv:s.X4 p r n=if L.contains p.2 then UM (if L.contains p.1 then UM 0 (s.of r.1) else 0) (s.of r.2) else(if L.contains p.1 then UM 0 (s.of r.1) else 0):=by unfold υ.X4;rw[f];rfl
 refine Μ.body Υ func98 rfl rfl ntmps98 rfl rfl J ?_;refine Χ ?_;refine W.iter (λq:Nat×Int=>q.1<=2/\(q.1=0->q.2=0)/\(q.1=1->q.2=if L.contains p.1 then UM 0 (s.of r.1) else 0)/\(q.1=2->q.2=s.X4 p r n))
  (λq=>[(1,ζ R 1 [p.1,p.2]),(2,ζ R 1 [r.1,r.2]),(3,R n),(4,Z9 s),(9,R q.2),(10,R q.1)]) (λ_=>[]) (λq=>2-q.1) (0,0) ⟨U,J,J,J⟩ rfl J (λq hi a=>?_)
 rcases q with⟨i,x⟩
 match i,hi,a with
 | 0,hi,a=>
  have c:x=0:=hi.2.1 rfl;subst c;refine Χ ?_;refine Γ rfl ?_
  repeat apply Ξ
  refine W.draw (A:=[]) Υ mixed λj d=>Ve (Τ f (Τ l e)) ?_;refine Ys (Κ.q (Gd L p.1 g)) (Vf ?_);refine YF (d _ _ ?_);by_cases b:p.1∈L
  .refine Γ (by simp[b]) ?_
   repeat apply Ξ
   refine W.draw (A:=[]) Υ mixed λj d=>Vf ?_;refine Ys (Κ.q (BU s r.1 o)) (Vf ?_);refine YF (d _ _ ?_);refine Χ ?_;refine W.forget _ ?_ (a (1,UM 0 (s.of r.1)) ⟨J,J,by simp[b],J⟩ J);simp[P4]
  .refine Η (by simp[b]) ?_;refine Χ ?_;refine W.forget _ ?_ (a (1,0) ⟨J,J,by simp[b],J⟩ J);simp[P4]
 | 1,hi,a=>
  have c:=hi.2.2.1 rfl;simp at c;refine Χ ?_;refine Γ rfl ?_
  repeat apply Ξ
  refine W.draw (A:=[]) Υ mixed λj d=>Ve (Τ f (Τ l e)) ?_;refine Ys (Κ.q (Gd L p.2 g)) (Vf ?_);refine YF (d _ _ ?_);by_cases b:p.2∈L
  .refine Γ (by simp[b]) ?_
   repeat apply Ξ
   refine W.draw (A:=[]) Υ mixed λj d=>Vf ?_;refine Ys (Κ.q (BU s r.2 t)) (Vf ?_);refine YF (d _ _ ?_);refine Χ ?_;refine W.forget _ ?_ (a (2,UM x (s.of r.2)) ⟨J,J,J,λ_=>by rw[hv];simp[b,c]⟩ J);simp[Oi]
  .refine Η (by simp[b]) ?_;refine Χ ?_;refine W.forget _ ?_ (a (2,x) ⟨J,J,J,λ_=>by rw[hv];simp[b,c]⟩ J);simp[Oi]
 | 2,hi,a=>
  have c:=hi.2.2.2 rfl;refine Χ ?_;refine Η rfl ?_;refine W.exit rfl ?_;refine Χ ?_;refine W.rt ?_;exact .of (by rw[<-show x=s.X4 p r n from c];rfl)
 | i+3,hi,a=>exact absurd hi.1 J
theorem sw (s:υ) (h:WV s) (p r:Int×Int) {c:List ZF} (b:c∈s.cells) {x:ZF} (e:x∈c) (f:r.1<s.Α.length) (g:r.2<s.Α.length) :
  Κ prog 158 [ZB s,ζ R 1 [p.1,p.2],ζ R 1 [r.1,r.2],Z2 x] (ZU (s.V3 p r x)):=by
 obtain⟨k,l,m,o⟩:=(h.cells c b).each x e;have hv:=sx s h.small p r x.Zs.toNat U f g;rw[show((x.Zs.toNat:Nat):Int)=x.Zs by omega] at hv;rw[<-s3 h p r b e];unfold υ.Gk;obtain⟨n,i⟩:=Ι (s.X4 p r x.Zs.toNat);rw[<-i] at hv ⊢;refine Μ.body Υ func158 rfl rfl ntmps158 rfl rfl J ?_;refine Χ ?_;refine ZP λt j=>?_;refine Κ.d (hv) (ZY ?_);apply j;by_cases a:WB n x.seen=x.seen
 .refine Ζ a ?_;refine W.rt ?_;exact .of (by simp[a])
 .refine Ζ a ?_;refine W.rt ?_;exact .of (by simp[a])
def NZ:List (List Int):=[[1,0],[2,0],[2,1]]
theorem su:Κ prog 138 [] (θ NZ):=by
 refine Μ.body Υ func138 rfl rfl ntmps138 rfl rfl J ?_;refine Χ ?_;refine .loop ?_;refine Χ ?_;refine Γ rfl ?_;refine Χ ?_;refine .loop ?_;refine Χ ?_;refine Η rfl ?_;refine W.exit rfl ?_;refine Ζ @P4 ?_;refine .inLoop ?_;refine Χ ?_;refine Γ rfl ?_;refine Χ ?_;refine .loop ?_;refine Χ ?_;refine Γ rfl ?_
 repeat apply Ξ
 refine Zj (A:=[18]) Υ λc b=>ZY ?_;apply b;refine Ζ @P4 ?_;refine .inLoop ?_;refine Χ ?_;refine Η rfl ?_;refine W.exit rfl ?_;refine Ζ @Oi ?_;refine .inLoop ?_;refine Χ ?_;refine Γ rfl ?_;refine Χ ?_;refine .loop ?_;refine Χ ?_;refine Γ rfl ?_
 repeat apply Ξ
 refine Zj (A:=[18]) Υ λc b=>ZY ?_;apply b;refine Ζ @P4 ?_;refine .inLoop ?_;refine Χ ?_;refine Γ rfl ?_
 repeat apply Ξ
 refine Zj (A:=[18]) Υ λc b=>ZY ?_;apply b;refine Ζ @Oi ?_;refine .inLoop ?_;refine Χ ?_;refine Η rfl ?_;refine W.exit rfl ?_;refine Ζ @Ed ?_;refine .inLoop ?_;refine Χ ?_;refine Η rfl ?_;refine W.exit rfl ?_;refine W.cut 0 (Ε _) [(1,.sl false 1 [ZE [1,0],ZE [2,0],ZE [2,1]])] (Ε _) (λid r h=>absurd h (PA _)) (λq d=>by
  simp only[Zm,YM,or_false] at d;subst d;exact .own (t:=29) (Ε _) rfl rfl (λe g a i=>by
   simp at g;rcases g with rfl|rfl|rfl<;>simp[I.cells] at i<;>subst i<;>simp)) ?_
 rw[List.take_zero];refine Χ ?_;refine W.ret ⟨_,rfl,?_,rfl⟩;exact .map (f:=ZE) (l:=NZ) λr _=>.one .ex rfl rfl
theorem ss (s:υ) (h:WV s) (p:Int×Int) (c:Nat) (o:c<s.cells.length) :
  Κ prog 139 [ZB s,ζ R 1 [p.1,p.2],R c] (θ (Sw (Vt s p c))):=by
 have u:=ε o
 have I:=Y2 o
 have ar:=h.Α.hi;obtain⟨a,y⟩:=Ι (s.cells[c]);have ae:∀r,s.Sa p r c=a.all (s.V3 p r):=λr=>by unfold υ.Sa;rw[u,y];rfl
 rw[<-y] at u I;have B:∀h,s.cells[c]'h=a:=λh=>y.symm;have au:a.length<=4:=(h.cells a I).hi;clear y;obtain⟨n,v⟩:=Ι s.Α.length;obtain⟨q,T⟩:=Ι (λr=>s.Sa p r c:Int×Int->Bool);refine Μ.body Υ func139 rfl rfl ntmps139 rfl rfl J ?_
 repeat apply Ξ
 refine Wr ?_
 repeat apply Ξ
 refine Wr ?_;refine W.pad 29 1 (σ':=[]) rfl (λj r h=>⟨r,h,.inl rfl⟩) [(1,ζ R 1 [p.1,p.2]),(2,R c),(3,Z9 s),(7,.ms 0 0 0 0)] (λz w=>by
  simp only[Zm,YM,or_false] at w;rcases w with rfl|rfl|rfl|rfl
  .exact .same _
  .exact .same _
  .exact .same _
  .exact .nil) ?_
 rw[List.nil_append];refine Χ ?_;refine W.iter (λi:Nat=>i<=n+1) (λi=>[(1,ζ R 1 [p.1,p.2]),(2,R c),(3,Z9 s),(7,.ms 0 (WM q n i 0).length 0 (WM q n i 0).length),(8,R ((i:Int)-1))])
  (λi=>[.cells 29 1 ((WM q n i 0).map Φ)]) (λi=>n+1-i) 0 (Ε _) (by rw[Hn];rfl) (by rw[Hn];simp) (λi hi af=>?_)
 by_cases av:i<n+1
 .have K:(i:Int)-1<(n:Int):=U
  have V:=XW (show i<2 ^ 62 by omega);(repeat (first|apply Ξ|(refine Y8 λL g=>?_;simp;(repeat (rw[Ν];simp[v.symm,K]));apply g)));refine Γ J ?_;refine Χ ?_;refine W.iter (λj:Nat=>j<=n+1) (λj=>[(1,ζ R 1 [p.1,p.2]),(2,R c),(3,Z9 s),(7,.ms 0 (WM q n i j).length 0 (WM q n i j).length),(8,R ((i:Int)-1)),(9,R ((j:Int)-1))])
   (λj=>[.cells 29 1 ((WM q n i j).map Φ)]) (λj=>n+1-j) 0 (Ε _) rfl J (λj aw C=>?_)
  by_cases ax:j<n+1
  .have M:(j:Int)-1<(n:Int):=U
   have D:=XW (show j<2 ^ 62 by omega)
   have e:=D1 (q:=q) (n:=n) (i:=i) (j:=j)
   have ag:(WM q n i j).length<=200:=by
    have ay:=B9 q n i j
    have az:i*(n+1)<=7*7:=OP U U;omega
   have C:=C (j+1) U U;obtain⟨r,N⟩:=Ι (((i:Int)-1,(j:Int)-1):Int×Int);have O:(i:Int)-1=r.1:=by rw[N]
   have P:(j:Int)-1=r.2:=by rw[N]
   have ah:r.1<s.Α.length:=U
   have ai:r.2<s.Α.length:=U
   have aj:q r=a.all (s.V3 p r):=by rw[T];exact ae r
   rw[<-N] at e;obtain⟨d,ak⟩:=Ι (WM q n i j);rw[<-ak] at e ag ⊢;(repeat (first|apply Ξ|(refine Y8 λL g=>?_;simp;(repeat (rw[Ν];simp[v.symm,M]));apply g)));refine Γ J ?_;refine Χ ?_;refine W.iter (λk:Nat=>k<=a.length) (λk=>[(1,ζ R 1 [p.1,p.2]),(2,R c),(3,Z9 s),(7,.ms 0 d.length 0 d.length),(8,R r.1),(9,R r.2),(10,ZU ((a.take k).all (s.V3 p r))),(11,R k)])
    (λk=>[.cells 29 1 (d.map Φ)]) (λk=>a.length-k) 0 (Ε _) rfl (by simp[O,P]) (λk aA l=>?_)
   by_cases m:k<a.length
   .have Q:(k:Int)<(a.length:Int):=U
    have X:=XP (i:=k) U
    have S:=ε m;obtain⟨x,E⟩:=Ι (a[k]);have al:x∈a:=E▸Y2 m;rw[<-E] at S;have Y:∀h,a[k]'h=x:=λh=>E.symm;have am:(a.take (k+1)).all (s.V3 p r)=((a.take k).all (s.V3 p r)&&s.V3 p r x):=by
     rw[Wx m,List.all_append,<-E];simp
    have l:=l (k+1) U U;rw[am] at l;have Z:=sw s h p r I al ah ai;obtain⟨b,F⟩:=Ι ((a.take k).all (s.V3 p r));rw[<-F] at l ⊢;obtain⟨f,an⟩:=Ι (s.V3 p r x);rw[<-an] at l Z;refine Ζ (Τ u (Τ B (Τ o Q))) ?_;refine Γ (by simp[m]) ?_
    repeat apply Ξ
    refine W.S4 (A:=[]) Υ mixed [(1,ζ R 1 [p.1,p.2]),(2,R c),(3,Z9 s),(7,.ms 0 d.length 0 d.length),(8,R r.1),(9,R r.2),(10,ZU (b&&f)),(11,R k)] [.cells 29 1 (d.map Φ)] ?_ (by
     cases b with
     | false=>
      simp;(repeat (rw[ZG];simp[u,B,o,m,S,Y]));(try rw[ZH]);refine⟨Yt (by kernel_rfl),?_⟩;simp
     | true=>
      simp;(repeat (rw[ZG];simp[u,B,o,m,S,Y]));(try rw[ZH]);refine Ys (Κ.p Z (.cons (.refl _) (.cons (.refl _) (.cons .ex (.cons (.refl _) .nil)))) J J) ?_;simp;(repeat (rw[ZG];simp));(try rw[ZH]);refine⟨Yt (by kernel_rfl),?_⟩;simp)
    refine Ζ X ?_;exact W.to l rfl (by simp[X])
   have Q:¬(k:Int)<(a.length:Int):=U;clear l;rw[VB U,<-aj];refine Ζ (Τ u (Τ B (Τ o Q))) ?_;refine Η (by simp[m]) ?_;refine W.exit rfl ?_;refine Χ ?_;cases aa:q r
   .refine Η rfl ?_;rw[<-P] at *;refine Ζ D ?_;rw[aa] at e;refine W.to C ?_ ?_
    .rw[e];simp
    .rw[e];simp[D,O]
   .refine Γ rfl ?_;rw[aa] at e;have ab:(d.map Φ).length=d.length:=J;have F:d.length<=4294967295:=U
    repeat apply Ξ
    refine W.Yn (A:=[59]) Υ [(1,ζ R 1 [p.1,p.2]),(2,R c),(3,Z9 s),(7,.ms 0 (d.length+1) 0 (d.length+1)),(8,R r.1),(9,R r.2)] [.cells 29 1 (d.map Φ++[Φ r])] ?_ (by
     (try simp);(repeat (rw[Ν];simp[ab,F]));(try simp[ab,F]))
    rw[<-P];refine Ζ D ?_;refine W.to C ?_ ?_
    .rw[e];simp
    .rw[e];simp[D,O]
  .have ao:j=n+1:=U
   subst ao;have M:¬((n+1:Nat):Int)-1<(n:Int):=U;(repeat (first|apply Ξ|(refine Y8 λL g=>?_;simp;(repeat (rw[Ν];simp[v.symm,M]));apply g)));refine Η J ?_;refine W.exit rfl ?_;refine Ζ V ?_;refine W.to (af (i+1) U U) ?_ ?_
   .rw[Hm]
   .rw[Hm];simp[V]
 .have ap:i=n+1:=U
  subst ap;have K:¬((n+1:Nat):Int)-1<(n:Int):=U;obtain⟨H,ad⟩:=Ι (Vt s p c);have aq:WM q n (n+1) 0=H:=by rw[Hl,ad,T,v];rfl
  rw[aq,<-ad];(repeat (first|apply Ξ|(refine Y8 λL g=>?_;simp;(repeat (rw[Ν];simp[v.symm,K]));apply g)));refine Η J ?_;refine W.exit rfl ?_;refine W.cut 0 (Ε _) [(7,.sl false 1 (H.map Φ))] (Ε _) (λid r h=>absurd h (PA _)) (λz w=>by
   simp only[Zm,YM,or_false] at w;subst w;exact .own (t:=29) (Ε _) rfl J Gj) ?_
  rw[List.take_zero];refine Χ ?_;refine W.ret ⟨_,rfl,?_,rfl⟩;show Zi (.sl false 1 (H.map Φ)) (.sl false 1 ((Sw H).map (ζ R 1)));rw[Sq];exact .map λr _=>.one .ex rfl rfl
abbrev PL (f:Found):I:=.Z' [ζ R 1 [f.u,f.v],Gi (f.cells.map Sw)]
abbrev BT (F:List Found):I:=ζ PL 2 F
theorem sr (f:Found) (b:Int) (j:f.cells.length<2 ^ 62) (k:∀i,i<=f.cells.length->VK f.cells b i<2 ^ 62) :
  Κ prog 114 [PL f,R b] (R (f.many b)):=by
 refine Μ.body Υ func114 rfl rfl ntmps114 rfl rfl J ?_;refine Χ ?_;refine W.iter (λi:Nat=>i<=f.cells.length) (λi=>[(1,R b),(2,.ω [ζ R 1 [f.u,f.v],Gi (f.cells.map Sw)]),(5,R (VK f.cells b i)),(6,R i)]) (λ_=>[]) (λi=>f.cells.length-i) 0 (Ε _) rfl (by simp[VK]) (λi hi e=>?_);refine Χ ?_;refine W.YN rfl (λa=>?_) (λa=>?_)
 .have a:i<f.cells.length:=by simpa using a
  have d:=Jw f.cells b i
  have h:=k (i+1) a
  have c:=Yw a j;refine Ζ a ?_;by_cases g:(i:Int)=b
  .refine Η (by simp[g]) ?_;refine Ζ c ?_;refine W.forget _ ?_ (e (i+1) a U);rw[d,if_pos g];simp[c]
  .refine Γ (by simp[g]) ?_;have hv:VK f.cells b i*f.cells[i].length<2 ^ 62:=by rw[d,if_neg g] at h;simpa[a] using h
   refine Ζ (Τ a c) ?_;refine W.forget _ ?_ (e (i+1) a U);rw[d,if_neg g];simp only[ε a,Option.getD_some];have:=XW hv;simp[c] at this ⊢;simp[this]
 .have a:i=f.cells.length:=by simp at a;omega
  subst a;refine W.exit rfl ?_;refine Χ ?_;refine W.rt ?_;exact .of rfl
def S2 (s:υ) (i:Nat):List Found:=(List.range i).filterMap (U' s)
theorem so (s:υ) (i:Nat):(S2 s i).length<=i:=by
 unfold S2;exact X1 (K6 _ _) J
theorem sn {s:υ} {i:Nat} (hi:i<3) (h:0<(Wn s (X2 i)).many (-1)):S2 s (i+1)=S2 s i++[Wn s (X2 i)]:=by
 unfold S2;rw[VA,NS];have:U' s i=some (Wn s (X2 i)):=by unfold U';rw[if_pos ⟨hi,h⟩]
 simp[this]
theorem sm {s:υ} {i:Nat} (h:¬0<(Wn s (X2 i)).many (-1)):S2 s (i+1)=S2 s i:=by
 unfold S2;rw[VA,NS];have:U' s i=none:=by unfold U';rw[if_neg (λq=>h q.2)]
 simp[this]
theorem sk:∀i,i<3->NZ[i]?=some [(X2 i).1,(X2 i).2]/\∀h,NZ[i]'h=[(X2 i).1,(X2 i).2]:=λi hi=>by
 match i with
 | 0=>exact⟨rfl,λ_=>rfl⟩
 | 1=>exact⟨rfl,λ_=>rfl⟩
 | 2=>exact⟨rfl,λ_=>rfl⟩
theorem BS {L:List Found}:∀e∈L.map PL,∀a∈e.cells,ψ 0 a:=λe c a b=>by
 obtain⟨x,_,rfl⟩:=Zd.1 c;simp[I.cells] at b;rcases b with rfl|rfl<;>simp[Y6,I.cells]
theorem Gc (s:υ) (h:WV s):Κ prog 113 [ZB s] (BT (W8 s)):=by
 have aD:=h.many;obtain⟨n,T⟩:=Ι s.cells.length;refine Μ.body Υ func113 rfl rfl ntmps113 rfl rfl J ?_
 repeat apply Ξ
 refine Wr ?_
 repeat apply Ξ
 refine Wr ?_;refine W.pad 147 2 (σ':=[]) rfl (λj r h=>⟨r,h,.inl rfl⟩) [(1,Z9 s),(3,.ms 0 0 0 0)] (λz f=>by
  simp only[Zm,YM,or_false] at f;rcases f with rfl|rfl
  .exact .same _
  .exact .nil) ?_
 rw[List.nil_append];refine ZP λO g=>?_;refine Κ.d (su) (ZY ?_);apply g;refine Χ ?_;refine W.iter (λi:Nat=>i<=3) (λi=>[(1,Z9 s),(3,.ms 0 (S2 s i).length 0 (S2 s i).length),(4,θ NZ),(5,R i)])
  (λi=>[.cells 147 2 ((S2 s i).map PL)]) (λi=>3-i) 0 Z0 rfl (by simp[S2]) (λi hi o=>?_)
 have ak:=so s i;by_cases F:i<3
 .obtain⟨H,K⟩:=sk i F;have al:=sG i F;have L:=sm (s:=s) (i:=i);have M:=sn (s:=s) F;have o:=o (i+1) F U;have P:=XP (i:=i) U;obtain⟨p,am⟩:=Ι (X2 i);rw[<-am] at H K al L M;have V:=sr (Wn s p) (-1) (by simp[Wn];omega) (λk an=>by have:=B6 h p (-1) (i:=k) (by simpa[Wn] using an);omega);have ao:(Wn s p).cells.map Sw=(List.range n).map λc=>Sw (Vt s p c):=by rw[T];simp[Wn]
  obtain⟨D,aa⟩:=Ι NZ;have E:D.length=3:=by rw[aa];rfl
  obtain⟨b,ap⟩:=Ι (S2 s i);rw[<-aa] at H K o ⊢;rw[<-ap] at ak L M ⊢;have ab:(i:Int)<3:=U;refine Ζ (Τ E ab) ?_;refine Γ J ?_
  repeat apply Ξ
  refine W.Yn (A:=[6]) Υ [(1,Z9 s),(3,.ms 0 b.length 0 b.length),(4,θ D),(5,R i),(6,.Ο 1 1 0 0)] [.cells 147 2 (b.map PL),.cells 147 2 [.Z' [ζ R 1 [p.1,p.2],.sl true 0 []]]] ?_ (by
   (try simp);(repeat (rw[Ν];simp[H,K,E]));(try simp[H,K,E]);omega)
  have aq:Tv 2 (.cells 147 2 [.Z' [ζ R 1 [p.1,p.2],.sl true 0 []]]) (.cells 147 2 [.Z' [ζ R 1 [p.1,p.2],.ms 2 0 0 0]]):=by
   refine .inr ⟨147,2,_,_,rfl,rfl,rfl,λi e aE m B=>?_⟩
   match i with
   | 0=>
    simp at m B;subst m;subst B;refine⟨rfl,λx a ar N Q=>?_⟩
    match x with
    | 0=>simp[I.cells] at N Q;subst N;subst Q;exact .same _
    | 1=>simp[I.cells] at N Q;subst N;subst Q;exact .nil
    | x+2=>simp[I.cells] at N
   | i+1=>simp at m
  refine W.Iz 23 1 (i:=1) rfl aq [(1,Z9 s),(3,.ms 0 b.length 0 b.length),(4,θ D),(5,R i),(6,.Ο 1 1 0 0)] (λz f=>by
   simp only[Zm,YM,or_false] at f;rcases f with rfl|rfl|rfl|rfl|rfl<;>exact .same _) ?_
  refine Χ ?_;refine W.iter (λc:Nat=>c<=n) (λc=>[(1,Z9 s),(3,.ms 0 b.length 0 b.length),(4,θ D),(5,R i),(6,.Ο 1 1 0 0),(7,R c)])
   (λc=>[.cells 147 2 (b.map PL),.cells 147 2 [.Z' [ζ R 1 [p.1,p.2],.ms 2 c 0 c]],.cells 23 1 ((List.range c).map λc=>θ (Sw (Vt s p c)))]) (λc=>n-c) 0 (Ε _) J J (λc aF C=>?_)
  by_cases aG:c<n
  .have au:c<s.cells.length:=U
   have ad:=ss s h p c au
   have X:(c:Int)<(n:Int):=U
   have ae:=XP (i:=c) U
   have C:=C (c+1) U U;rw[VA,Yd] at C;obtain⟨af,ag⟩:=Ι ((List.range c).map λc=>θ (Sw (Vt s p c)));have av:af.length=c:=by rw[ag];simp
   have aw:c<=4294967295:=U;rw[<-ag] at C ⊢;obtain⟨ax,ah⟩:=Ι (Sw (Vt s p c));simp only[XC,UU,<-ah] at C;rw[<-ah] at ad;(repeat (first|apply Ξ|(refine Y8 λO g=>?_;simp;(repeat (rw[Ν];simp[T.symm,X]));apply g)));refine Γ J ?_
   repeat apply Ξ
   refine W.S4 (A:=[37]) Υ mixed [(1,Z9 s),(3,.ms 0 b.length 0 b.length),(4,θ D),(5,R i),(6,.Ο 1 1 0 0),(7,R c)] [.cells 147 2 (b.map PL),.cells 147 2 [.Z' [ζ R 1 [p.1,p.2],.ms 2 (c+1) 0 (c+1)]],.cells 23 1 (af++[θ ax])] ?_ (by
    simp;(repeat (rw[ZG];simp[H,K,E,F,ab]));(try rw[ZH]);refine Ys (Κ.p ad (ZT.refl _) J J) ?_;simp;(repeat (rw[ZG];simp[av,aw]));(try rw[ZH]);refine⟨Yt (by kernel_rfl),?_⟩;simp)
   refine Ζ ae ?_;exact W.to C rfl (by simp[ae])
  have X:¬(c:Int)<(n:Int):=U;obtain rfl:c=n:=U;clear C;(repeat (first|apply Ξ|(refine Y8 λO g=>?_;simp;(repeat (rw[Ν];simp[T.symm,X]));apply g)));refine Η J ?_;refine W.exit rfl ?_;refine W.cut 1 (Ε _) [(1,Z9 s),(3,.ms 0 b.length 0 b.length),(4,θ D),(5,R i),(6,.ω [ζ R 1 [(Wn s p).u,(Wn s p).v],Gi ((Wn s p).cells.map Sw)])] J (λid r aH ai=>by
   obtain rfl:id=0:=U;simp at ai;subst ai;exact λe Y a S=>ψ.mono (BS e Y a S) (Ε _)) (λz f=>by
   simp only[Zm,YM,or_false] at f;rcases f with rfl|rfl|rfl|rfl|rfl
   .exact .low (by simp[I.cells,Y6])
   .exact .low (by simp[UF])
   .exact .low (by simp[Y6,I.cells])
   .exact .low J
   .refine Yz.struct (id:=1) (t:=147) (k:=2) (l:=[ζ R 1 [p.1,p.2],.ms 2 c 0 c]) U rfl rfl (λy a ar m B=>?_)
    match y with
    | 0=>simp at m B;subst m;subst B;exact .low (by simp[I.cells,Y6])
    | 1=>
     simp at m B;subst m;subst B;rw[ao];exact .own (t:=23) U (by rw[Sq];rfl) J (λe Y a S=>by
      obtain⟨x,_,rfl⟩:=Zd.1 Y;simp[I.cells] at S;subst S;simp[Y6,I.cells])
    | y+2=>simp at m) ?_
  rw[List.take_succ_cons,List.take_zero];obtain⟨ay,az⟩:=Ι (Wn s p);rw[<-az] at V L M ⊢;obtain⟨w,aA⟩:=Ι (ay.many (-1));rw[<-aA] at V L M;refine ZP λO g=>?_;refine Κ.d (V) (ZY ?_);apply g;by_cases aj:0<w
  .have Z:=M aj;rw[Z] at o;refine Γ (by simp;omega) ?_;have aB:(b.map PL).length=b.length:=J;have aC:b.length<=4294967295:=U
   repeat apply Ξ
   refine Zj (A:=[45]) Υ λO g=>XF (Τ aB aC) ?_;apply g;refine Ζ P ?_;refine W.to o ?_ (by simp[P]);simp
  .have Z:=L aj;rw[Z] at o;refine Η (by simp;omega) ?_;refine Ζ P ?_;exact W.to o rfl (by simp[P])
 obtain rfl:i=3:=U;clear o;have E:NZ.length=3:=rfl;refine Ζ E ?_;refine Η J ?_;refine W.exit rfl ?_;refine W.cut 0 (Ε _) [(3,.sl false 2 ((S2 s 3).map PL))] (Ε _) (λid r h=>absurd h (PA _)) (λz f=>by
  simp only[Zm,YM,or_false] at f;subst f;exact .own (t:=147) (Ε _) rfl J BS) ?_
 rw[List.take_zero];refine Χ ?_;refine W.rt ?_;exact .refl _
theorem sj (s:υ) (e:s.small) (a:Int):Κ prog 86 [ZB s,R a] (ZU (decide (0<=a)&&decide (a<s.cells.length))):=by
 have g:=e.2.2.1
 have b:IntKind.i64.wrap ((s.cells.length:Int)-1)=(s.cells.length:Int)-1:=IntWalk.i64_in _ U
 have c:=MN a 0 ((s.cells.length:Int)-1);rw[show decide (a<=(s.cells.length:Int)-1)=decide (a<s.cells.length) by rw[decide_eq_decide];omega] at c;refine Μ.body Υ func86 rfl rfl ntmps86 rfl rfl J ?_;refine Χ ?_;refine XX b λh f=>?_;refine Κ.d (c) (XF b ?_);apply f;refine W.rt ?_;exact .refl _
section
variable {P:Program} {T:ZR} {A:List Nat} {m nt:Nat} {k:List Item} {env:Δ} {σ:Ρ} {Z:XZ} {E:Yf}
theorem W.BR (a:Zz P T) (env':Δ) (σ':Ρ) {ops:Array Oper} {l:List Nat} (h:W P m nt k env' σ' Z E) (b:run P T A nt ops l env σ (λe s=>W P m nt k env' σ' Z E->W P m nt k e s Z E) E):W P m nt (.inRegion ops l::k) env σ Z E:=by
 have:=HI (m:=m) (k:=k) (Z:=Z) a [] l env σ (JK (λe s f=>W.ZC (f h)) _ _ _ b);simpa using this
end
def U7 (l:List ZF):I:=YE 3 (l.map Z2)
def ZQ (done:List (List ZF)) (nc:Nat):ξ:=done.map U7++List.replicate (nc-done.length) γ
theorem BQ (nc:Nat):ZQ [] nc=List.replicate nc γ:=by simp[ZQ]
theorem S1 {done:List (List ZF)} {nc:Nat} (h:done.length<=nc):(ZQ done nc).length=nc:=by simp[ZQ];omega
theorem BP {done:List (List ZF)}:ZQ done done.length=done.map U7:=by simp[ZQ]
theorem BO {done:List (List ZF)} {nc:Nat} (h:done.length<nc):(ZQ done nc)[done.length]?=some γ:=by
 unfold ZQ;rw[Xw J,Yp,Py,MB,if_pos U]
theorem BN {done:List (List ZF)} {nc:Nat} (h:done.length<nc) (a:List ZF):(ZQ done nc).set done.length (U7 a)=ZQ (done++[a]) nc:=by
 unfold ZQ;obtain⟨r,b⟩:∃r,nc-done.length=r+1:=⟨nc-done.length-1,U⟩;have e:nc-(done++[a]).length=r:=by simp;omega
 rw[b,e,List.replicate_succ,PF _ _ J,Yp,Py,List.set_cons_zero,Yd,U6];rfl
theorem Gb (l:List ZF):ψ 0 (U7 l):=by
 unfold U7 YE;split
 .simp
 .refine Y6.2 λe c a b=>?_;obtain⟨x,_,rfl⟩:=Zd.1 c;simp[I.cells] at b;rcases b with rfl|rfl|rfl<;>exact .z _
theorem Ga (l:List ZF):(U7 l).cells=[U7 l]:=by
 unfold U7 YE;split<;>rfl
theorem MF {done:List (List ZF)} {nc:Nat}:∀e∈ZQ done nc,e.cells=[e]/\ψ 0 e:=λe he=>by
 unfold ZQ at he;rcases WK.1 he with he|he
 .obtain⟨x,_,rfl⟩:=Zd.1 he;exact⟨Ga x,Gb x⟩
 .have:=Is he;subst this;exact⟨rfl,J⟩
structure si where
 d:Zg
 done:List (List ZF)
structure BM where
 k:Nat
 d:Zg
 Qy:List ZF
theorem sh (d:Zg) (hd:d.Z3.length<2 ^ 63) (aC ab:Nat) (bH:1<=aC) (bI:aC<=6) (bJ:ab<=4) :
  Rk 37 [R aC,R ab] d (λr=>∃s,r=ZB s/\WV s/\s.cells.length<=ab/\s.Β.length<=3):=by
 unfold Rk;refine Μ.body Υ func37 rfl rfl ntmps37 rfl rfl J ?_
 repeat apply Ξ
 refine Zj (A:=[6]) Υ λaD X=>ZY ?_;apply X
 repeat apply Ξ
 refine W.Ze ?_;refine W.part (A:=[7]) Υ [0,1,2,3] [4,5] rfl λaD X=>?_;(try simp);(repeat (rw[Ν];simp));refine Ce d hd aC ab bH bI bJ rfl ?_;intro G L nc d1 bK a5 ⟨cn,cp,bL⟩ bM;simp only[List.length_cons,List.length_nil,Nat.reduceAdd,List.set_cons_zero,List.cons_append,List.nil_append];obtain⟨ad,aH⟩:=Ι (Z4 5 (List.replicate nc γ));have ak:(nc=0/\ad=γ)\/(0<nc/\ad=.ms 5 nc 0 nc):=by
  by_cases F:nc=0
  .subst F;exact .inl ⟨rfl,aH⟩
  .exact .inr ⟨U,by rw[aH,X8 (by simp[F]),PG]⟩
 have al:∀done:List (List ZF),done.length<=nc->(nc=0/\μ 60 1 (ZQ done nc)=[])\/(0<nc/\μ 60 1 (ZQ done nc)=[.cells 60 1 (ZQ done nc)]):=λdone am=>by
  by_cases F:nc=0
  .subst F;have:=YP.1 (S1 am);exact .inl ⟨rfl,by rw[this];rfl⟩
  .exact .inr ⟨U,YY (λh=>by have:=S1 am;rw[h] at this;simp at this;omega)⟩
 rw[<-aH,<-BQ];rw[LZ,SK];apply X;clear X aD;have ae:ψ ([ZK d1,ZI γ γ γ,.dead,.dead,.dead]++μ 60 1 (ZQ [] nc)).length ad:=by
  rcases ak with⟨_,e⟩|⟨Y,e⟩
  .rw[e];simp
  .rcases al [] (Ε _) with⟨S,_⟩|⟨_,Φ⟩
   .omega
   .rw[e,Φ];exact UF.2 J
 refine W.BR (A:=[7]) Υ [(0,.Ο 0 1 0 0),(6,.Ο 1 1 0 0),(7,.ω [Z6 G,θ L,ad])] ([ZK d1,ZI γ γ γ,.dead,.dead,.dead]++μ 60 1 (ZQ [] nc)) ?_ (by
  have aE:∀h,∀r∈[ZK d1,ZI γ γ γ,.dead,.dead,.dead]++μ 60 1 (ZQ [] nc),Yc h r:=λh r b=>by
   rcases WK.1 b with b|b
   .simp only[Zm,YM,or_false] at b;rcases b with rfl|rfl|rfl|rfl|rfl
    .exact Tz d1 h
    .intro e u a f;simp[I.cells] at u;subst u;simp[I.cells] at f;subst f;simp
    .trivial
    .trivial
    .trivial
   .exact QS (λe u a f=>by obtain⟨w,o⟩:=MF e u;rw[w] at f;simp at f;subst f;exact o) r b
  rcases ak with⟨Y,e⟩|⟨Y,e⟩<;>rcases al [] (Ε _) with⟨S,Φ⟩|⟨S,Φ⟩
  .rw[Φ] at aE ae;rw[e] at ae;rw[e,Φ];(try simp);(repeat (rw[Ν];simp));(try simp);intro aI;exact W.VI (σ0:=[ZK d1,ZI γ γ γ,.dead,.dead,.dead]) J (aE _) (λa f=>by
    simp[I.cells] at f;rcases f with rfl|rfl|rfl
    .exact(Y6.2 Ty:ψ 0 _).mono (Ε _)
    .exact(Y6.2 RX:ψ 0 _).mono (Ε _)
    .exact ae) [(0,.Ο 0 1 0 0),(6,.Ο 1 1 0 0),(7,.ω [Z6 G,θ L,γ])] (by simp[Xz,I.cells]) aI
  .omega
  .omega
  .rw[Φ] at aE ae;rw[e] at ae;rw[e,Φ];have Z:(ZQ [] nc).length=nc:=S1 (Ε _);(try simp);(repeat (rw[Ν];simp[Z]));(try simp[Z]);intro aI;exact W.VI (σ0:=[ZK d1,ZI γ γ γ,.dead,.dead,.dead,.cells 60 1 (ZQ [] nc)]) J (aE _) (λa f=>by
    simp[I.cells] at f;rcases f with rfl|rfl|rfl
    .exact(Y6.2 Ty:ψ 0 _).mono (Ε _)
    .exact(Y6.2 RX:ψ 0 _).mono (Ε _)
    .exact ae) [(0,.Ο 0 1 0 0),(6,.Ο 1 1 0 0),(7,.ω [Z6 G,θ L,.ms 5 nc 0 nc])] (by simp[Xz,I.cells]) aI)
 obtain⟨C,aF⟩:=Ι L.length;have bN:=a5.lo;rw[<-aF] at bN bL;have cq:(L.map (ζ R 1)).length=C:=by rw[Yp,aF]
 refine Χ ?_;refine W.iter (λx:si=>x.done.length<=nc/\x.d.Z3.length<=d.Z3.length/\∀c∈x.done,QA C c)
  (λx=>[(0,.Ο 0 1 0 0),(6,.Ο 1 1 0 0),(7,.ω [Z6 G,θ L,ad]),(8,R x.done.length)])
  (λx=>[ZK x.d,ZI γ γ γ,.dead,.dead,.dead]++μ 60 1 (ZQ x.done nc)) (λx=>nc-x.done.length) ⟨d1,[]⟩ ⟨J,bM,J⟩ rfl J (λx K aJ=>?_)
 obtain⟨M,done⟩:=x;obtain⟨am,aK,aL⟩:=K;simp only at am aK aL aJ ⊢;obtain⟨c,an⟩:=Ι done.length;rw[<-an] at am aJ;rw[<-an]
 repeat apply Ξ
 refine W.Yn (A:=[]) Υ [(20,ZU (decide (c<nc))),(0,.Ο 0 1 0 0),(6,.Ο 1 1 0 0),(7,.ω [Z6 G,θ L,ad]),(8,R c)] ([ZK M,ZI γ γ γ,.dead,.dead,.dead]++μ 60 1 (ZQ done nc)) ?_ (by
  have Z:(ZQ done nc).length=nc:=S1 U;rcases ak with⟨Y,e⟩|⟨Y,e⟩<;>rcases al done U with⟨S,Φ⟩|⟨S,Φ⟩
  .rw[e,Φ,S];(try simp);(repeat (rw[Ν];simp));(try simp)
  .omega
  .omega
  .rw[e,Φ];(try simp);(repeat (rw[Ν];simp[Z]));(try simp[Z]))
 refine W.YN rfl (λaf=>?_) (λaf=>?_)
 .have af:c<nc:=by simpa using af
  rcases ak with⟨Y,_⟩|⟨Y,e⟩
  .omega
  rcases al done U with⟨S,_⟩|⟨S,Φ⟩
  .omega
  obtain⟨O,ao⟩:=Ι (ZQ done nc);have a6:O.length=nc:=by rw[ao];exact S1 U
  have a7:O[c]?=some γ:=by rw[ao,an];exact BO U
  have bO:∀m,O.set c (U7 m)=ZQ (done++[m]) nc:=λm=>by rw[ao,an];exact BN U m
  have a8:∀e∈O,e.cells=[e]/\ψ 0 e:=by rw[ao];exact MF
  have aG:O.set c γ=O:=by
   apply RQ;intro i;rw[KU];split
   .rename_i e;subst e;split
    .exact a7.symm
    .rename_i h;exact(h U).elim
   .rfl
  have a9:L.length=C:=aF.symm;rw[e,Φ,<-ao];simp only[List.cons_append,List.nil_append];have aM:=Gz M U C U;have aN:=IJ M C;have a':∀x∈(W7 M C).1,0<=x/\x<C:=λx h=>Gx h;have ba:=Gw M C;have bP:=IK M C;obtain⟨H,bQ⟩:=Zl ((W7 M C).1);obtain⟨ap,bR⟩:=Zl ((W7 M C).2);rw[bQ] at aM aN a' ba;rw[bR] at aM bP;refine XX a9 λaD X=>?_;refine Y3.g (aM) (ZY ?_);apply X;have bb:=U9 ap U C;obtain⟨t0,t1⟩:=S5 ap C U U;obtain⟨T,aq⟩:∃k:Nat,XD ap C=k:=⟨(XD ap C).toNat,U⟩;obtain⟨bc,bd⟩:=Zl (ap.after C);have bS:bc.Z3.length<=d.Z3.length:=by rw[<-bd];exact X1 (Xc _ _) U
  rw[aq,bd] at bb;rw[aq] at t1;refine XX a9 λaD X=>?_;refine Y3.g (bb) (ZY ?_);apply X
  repeat apply Ξ
  refine W.iter (λx:BM=>x.Qy.length+x.k=T/\x.d.Z3.length<=d.Z3.length/\x.Qy.map (·.Zs)=((H.take T).drop x.k).reverse/\∀p∈x.Qy,(0<=p.seen/\p.seen<=63)/\(0<=p.bare/\p.bare<=63)/\WB p.seen p.bare=0)
   (λx=>[(0,.Ο 0 1 0 0),(6,.Ο 1 1 0 0),(7,.ω [Z6 G,θ L,.ms 5 nc 0 nc]),(8,R c),(9,ζ R 1 H),(10,R x.k)])
   (λx=>ZK x.d::ZI γ γ γ::.dead::.dead::.dead::.cells 60 1 (O.set c (Z4 6 (x.Qy.map Z2)))::μ 28 3 (x.Qy.map Z2)) (λx=>x.k) ⟨T,bc,[]⟩
   ⟨J,bS,J,J⟩ (by simp only[UU];rw[show Z4 6 []=γ from rfl,aG];rfl) J (λx K be=>?_)
  obtain⟨k,E,m⟩:=x;obtain⟨bT,aO,ar,aP⟩:=K;simp only at bT aO ar aP be ⊢;refine Χ ?_;refine W.YN rfl (λaQ=>?_) (λaQ=>?_)
  .have aq:0<k:=by simpa using aQ
   obtain⟨j,bU⟩:∃j,k=j+1:=⟨k-1,U⟩;have V:IntKind.i64.wrap ((k:Int)-1)=j:=by rw[IntWalk.i64_in _ U];omega
   have bV:j<H.length:=U
   have aR:H[j]?=some H[j]:=ε bV;obtain⟨ag,aS⟩:=Ι (H[j]);rw[<-aS] at aR;have bf:∀h,H[j]'h=ag:=λh=>aS.symm;have aT:=U9 E U 63;obtain⟨bg,bh⟩:=S5 E 63 Z0 Z0;obtain⟨bW,bi⟩:=Zl (XD E 63);obtain⟨au,bj⟩:=Zl (E.after 63);have bX:au.Z3.length<=d.Z3.length:=by rw[<-bj];exact X1 (Xc _ _) aO
   rw[bi,bj] at aT;rw[bi] at bg bh;have aU:=U9 au U 63;obtain⟨bk,bl⟩:=S5 au 63 Z0 Z0;obtain⟨bY,bm⟩:=Zl (XD au 63);obtain⟨av,bn⟩:=Zl (au.after 63);have bZ:av.Z3.length<=d.Z3.length:=by rw[<-bn];exact X1 (Xc _ _) bX
   rw[bm,bn] at aU;rw[bm] at bk bl;obtain⟨⟨b0,aV⟩,_,_⟩:=MK ⟨bg,bh⟩ ⟨bk,bl⟩;obtain⟨aw,aW⟩:=Zl (XY .i64 bW bY);rw[aW] at b0 aV;have aX:=IL av U [0,0,aw] J J;obtain⟨aa,bo⟩:=Zl (([0,0,aw]:List Int).getD (R0 av [0,0,aw]) 0);have bp:0<=aa/\aa<=63:=by
    rw[<-bo]
    match R0 av [0,0,aw] with
    | 0=>simp
    | 1=>simp
    | 2=>simp;omega
    | n+3=>simp
   obtain⟨ah,bq⟩:=Zl (av.after ((([0,0,aw]:List Int).length:Int)-1));have b1:ah.Z3.length<=d.Z3.length:=by rw[<-bq];exact X1 (Xc _ _) bZ
   rw[bo,bq] at aX;obtain⟨Q,D⟩:=Ι (ZI γ γ γ::.dead::.dead::.dead::.cells 60 1 (O.set c (Z4 6 (m.map Z2)))::μ 28 3 (m.map Z2):Ρ);have ax:(Z4 6 (m.map Z2)=γ/\μ 28 3 (m.map Z2)=[]/\m=[])\/(Z4 6 (m.map Z2)=.ms 6 m.length 0 m.length/\μ 28 3 (m.map Z2)=[.cells 28 3 (m.map Z2)]/\0<m.length):=by
    by_cases F:m=[]
    .subst F;exact .inl ⟨rfl,rfl,rfl⟩
    .have ay:m.map Z2≠[]:=by simpa using F
     exact .inr ⟨by rw[X8 ay,Yp],YY ay,RR.2 F⟩
   rw[<-D]
   repeat apply Ξ
   refine W.Lk (A:=[11]) Υ mixed [(0,.Ο 0 1 0 0),(6,.Ο 1 1 0 0),(7,.ω [Z6 G,θ L,.ms 5 nc 0 nc]),(8,R c),(9,ζ R 1 H),(10,R k),(11,.Ο (Q.length+1) 1 0 0)] (ZK ah::Q++[.cells 28 3 [.Z' [R ag,R aa,R 0]]]) ?_ (by
    rcases ax with⟨f1,f2,f3⟩|⟨f1,f2,f3⟩
    .rw[f1,f2] at D;rw[D];simp;(repeat (rw[VD];simp[V,aR,bf,aN]));(try rw[VE]);refine⟨U,?_⟩;refine Y3.h (aT) (QB ?_);refine Y3.h (aU) (IM aW ?_);refine Y3.e aX (.cons .ex .nil) J J ?_;simp;(repeat (rw[VD];simp));(try rw[VE]);refine⟨Yt (by kernel_rfl),Yt (by kernel_rfl),?_⟩;simp
    .rw[f1,f2] at D;rw[D];simp;(repeat (rw[VD];simp[V,aR,bf,aN]));(try rw[VE]);refine⟨U,?_⟩;refine Y3.h (aT) (QB ?_);refine Y3.h (aU) (IM aW ?_);refine Y3.e aX (.cons .ex .nil) J J ?_;simp;(repeat (rw[VD];simp));(try rw[VE]);refine⟨Yt (by kernel_rfl),Yt (by kernel_rfl),?_⟩;simp)
   have aY:=U9 ah U 63;obtain⟨br,bs⟩:=S5 ah 63 Z0 Z0;obtain⟨b2,bt⟩:=Zl (XD ah 63);obtain⟨az,bu⟩:=Zl (ah.after 63);have b3:az.Z3.length<=d.Z3.length:=by rw[<-bu];exact X1 (Xc _ _) b1
   rw[bt,bu] at aY;rw[bt] at br bs;have aZ:=U9 az U 63;obtain⟨d0,bv⟩:=S5 az 63 Z0 Z0;obtain⟨b4,bw⟩:=Zl (XD az 63);obtain⟨P,bx⟩:=Zl (az.after 63);have b5:P.Z3.length<=d.Z3.length:=by rw[<-bx];exact X1 (Xc _ _) b3
   rw[bw,bx] at aZ;rw[bw] at d0 bv;obtain⟨bz,_,_⟩:=MK ⟨br,bs⟩ ⟨d0,bv⟩;obtain⟨b6,a0⟩:=Zl (XY .i64 b2 b4);rw[a0] at bz;obtain⟨_,bA,F⟩:=MK bz bp;obtain⟨a1,a2⟩:=Zl (U2 .i64 b6 aa);rw[a2] at bA F
   repeat apply Ξ
   refine W.Lk (A:=[]) Υ mixed [(11,.Ο (Q.length+1) 1 0 0),(0,.Ο 0 1 0 0),(6,.Ο 1 1 0 0),(7,.ω [Z6 G,θ L,.ms 5 nc 0 nc]),(8,R c),(9,ζ R 1 H),(10,R k)] ((ZK P::Q)++[.cells 28 3 [.Z' [R ag,R aa,R a1]]]) ?_ (by
    rcases ax with⟨f1,f2,f3⟩|⟨f1,f2,f3⟩
    .rw[f1,f2] at D;rw[D];simp;(repeat (rw[VD];simp));(try rw[VE]);refine Y3.h (aY) (QB ?_);refine Y3.h (aZ) (IM (Τ a0 a2) ?_);refine⟨Yt (by kernel_rfl),Yt (by kernel_rfl),?_⟩;simp
    .rw[f1,f2] at D;rw[D];simp;(repeat (rw[VD];simp));(try rw[VE]);refine Y3.h (aY) (QB ?_);refine Y3.h (aZ) (IM (Τ a0 a2) ?_);refine⟨Yt (by kernel_rfl),Yt (by kernel_rfl),?_⟩;simp)
   have b7:∀r∈ZK P::Q,Yc (ZK P::Q).length r:=λr b=>by
    rcases Zm.1 b with rfl|b
    .exact Tz P _
    have bB:0<m.length->6<(ZK P::Q).length:=λh=>by
     rcases ax with⟨_,_,f3⟩|⟨_,f2,_⟩
     .rw[f3] at h;simp at h
     .rw[D,f2];simp
    generalize (ZK P::Q).length=N at bB;rw[D] at b;simp only[Zm] at b;rcases b with rfl|rfl|rfl|rfl|rfl|b
    .intro e u a f;simp[I.cells] at u;subst u;simp[I.cells] at f;subst f;simp
    .trivial
    .trivial
    .trivial
    .intro e u a f;rcases NW u with u|rfl
     .obtain⟨w,o⟩:=a8 e u;rw[w] at f;simp at f;subst f;exact o.mono (Ε _)
     .rcases ax with⟨f1,_,_⟩|⟨f1,_,f3⟩
      .rw[f1] at f;simp[I.cells] at f;subst f;simp
      .rw[f1] at f;simp[I.cells] at f;subst f;exact UF.2 (bB f3)
    .refine QS (λe u a f=>?_) r b;obtain⟨x,_,rfl⟩:=Zd.1 u;simp[I.cells] at f;rcases f with rfl|rfl|rfl<;>exact .z _
   have cr:6<=(ZK P::Q).length:=by rw[D];simp
   refine W.VI (σ0:=ZK P::Q) J b7 (λa f=>by simp[I.cells] at f;rcases f with rfl|rfl|rfl<;>exact .z _) [(11,.ω [R ag,R aa,R a1]),(0,.Ο 0 1 0 0),(6,.Ο 1 1 0 0),(7,.ω [Z6 G,θ L,.ms 5 nc 0 nc]),(8,R c),(9,ζ R 1 H),(10,R k)] (λp B=>by
    simp only[Zm,YM,or_false] at B;rcases B with rfl|rfl|rfl|rfl|rfl|rfl|rfl
    .exact .inr ⟨rfl,rfl⟩
    .exact .inl ⟨rfl,Xz.2 U⟩
    .exact .inl ⟨rfl,Xz.2 U⟩
    .refine .inl ⟨rfl,JJ.2 λa f=>?_⟩;simp only[Zm,YM,or_false] at f;rcases f with rfl|rfl|rfl
     .exact(Y6.2 Ty:ψ 0 _).mono (Ε _)
     .exact(Y6.2 RX:ψ 0 _).mono (Ε _)
     .exact UF.2 U
    .exact .inl ⟨rfl,.z _⟩
    .exact .inl ⟨rfl,(Y6.2 (λe u a f=>by obtain⟨x,_,rfl⟩:=Zd.1 u;simp[I.cells] at f;subst f;exact .z _):ψ 0 _).mono (Ε _)⟩
    .exact .inl ⟨rfl,.z _⟩) ?_
   obtain⟨ai,a3⟩:=Ι (⟨ag,aa,a1⟩:ZF);have bC:(m++[ai]).map Z2≠[]:=J
   repeat apply Ξ
   refine W.S4 (A:=[70]) Υ mixed [(0,.Ο 0 1 0 0),(6,.Ο 1 1 0 0),(7,.ω [Z6 G,θ L,.ms 5 nc 0 nc]),(8,R c),(9,ζ R 1 H),(10,R k)] (ZK P::ZI γ γ γ::.dead::.dead::.dead::.cells 60 1 (O.set c (Z4 6 ((m++[ai]).map Z2)))::μ 28 3 ((m++[ai]).map Z2)) ?_ (by
    rw[X8 bC,YY bC,Yp,Wc,Yd,XC,UU,a3];rcases ax with⟨f1,f2,f3⟩|⟨f1,f2,f3⟩
    .rw[f1,f2] at D;rw[D,aG,f3];simp;(repeat (rw[ZG];simp[a6,a7]));(try rw[ZH]);refine⟨U,?_⟩;refine⟨Yt (by kernel_rfl),?_⟩;simp
    .rw[f1,f2] at D;rw[D];have b8:∀v,(O.set c v)[c]?=some v:=λv=>by rw[Ww U]
     have b9:∀v h,(O.set c v)[c]'h=v:=λv h=>List.getElem_set_self h;simp;(repeat (rw[ZG];simp[a6,b8,b9]));(try rw[ZH]);refine⟨U,U,U,?_⟩;refine⟨Yt (by kernel_rfl),?_⟩;simp)
   refine Ζ V ?_;have b':(H.take T).drop j=ag::(H.take T).drop k:=by
    have ca:j<(H.take T).length:=by rw[T6];omega
    rw[PH ca,bU,List.getElem_take,aS]
   refine W.to (be ⟨j,P,m++[ai]⟩ ⟨by show(m++[ai]).length+j=T;rw[Wc];simp;omega,b5,?_,λp B=>?_⟩ (by show j<k;omega)) J (by simp[V])
   .show(m++[ai]).map (·.Zs)=((H.take T).drop j).reverse;rw[b',Yd,ar,List.reverse_cons,a3];rfl
   .rcases WK.1 B with B|B
    .exact aP p B
    .simp at B;subst B;subst a3;exact⟨bp,bA,F⟩
  .have aq:k=0:=by simp at aQ;omega
   subst aq;have cs:m.length=T:=U;rw[List.drop_zero] at ar;have cb:QA C m:=by
    refine⟨U,?_,λp B=>?_⟩
    .rw[ar];unfold List.Nodup;rw[List.pairwise_reverse];exact(ba.sublist (KT _ _)).imp YQ
    .have bD:p.Zs∈m.map (·.Zs):=Zd.2 ⟨p,B,rfl⟩;rw[ar,List.mem_reverse] at bD;have:=a' _ (K1 bD);obtain⟨cc,cd,ce⟩:=aP p B;exact⟨this,cc,cd,ce⟩
   have V:IntKind.i64.wrap ((c:Int)+1)=((c+1:Nat):Int):=by rw[IntWalk.i64_in _ U];omega
   have cf:(done++[m]).length=c+1:=by simp;omega
   have aj:=aJ ⟨E,done++[m]⟩ ⟨by show(done++[m]).length<=nc;omega,aO,λx K=>by
    rcases WK.1 K with K|K
    .exact aL x K
    .simp at K;subst K;exact cb⟩ (by show nc-(done++[m]).length<nc-c;omega)
   have cg:ZQ (done++[m]) nc≠[]:=λh=>by
    have:=S1 (done:=done++[m]) (nc:=nc) U;rw[h] at this;simp at this;omega
   simp only[cf] at aj;rw[YY cg,<-bO m,e] at aj;refine W.exit rfl ?_;by_cases F:m=[]
   .subst F;rw[show U7 []=γ from rfl,aG] at aj;rw[show Z4 6 (([]:List ZF).map Z2)=γ from rfl,show μ 28 3 (([]:List ZF).map Z2)=[] from rfl,aG];refine Ζ V ?_;exact W.to aj rfl (by simp[V])
   .have ay:m.map Z2≠[]:=by simpa using F
    have bE:U7 m=.sl false 3 (m.map Z2):=by unfold U7 YE;rw[if_neg (by simpa using F)]
    rw[bE] at aj;rw[X8 ay,YY ay];refine W.RY (σ':=ZK E::ZI γ γ γ::.dead::.dead::.dead::.cells 60 1 (O.set c (.sl false 3 (m.map Z2)))::[.dead]) (id:=6) J rfl rfl rfl (λi r hi b=>?_) [(0,.Ο 0 1 0 0),(6,.Ο 1 1 0 0),(7,.ω [Z6 G,θ L,.ms 5 nc 0 nc]),(8,R c)] (λp B=>by
     simp only[Zm,YM,or_false] at B;rcases B with rfl|rfl|rfl|rfl<;>exact .same _) ?_
    .match i,hi,b with
     | 0,_,b=>exact⟨r,b,.inl rfl⟩
     | 1,_,b=>exact⟨r,b,.inl rfl⟩
     | 2,_,b=>exact⟨r,b,.inl rfl⟩
     | 3,_,b=>exact⟨r,b,.inl rfl⟩
     | 4,_,b=>exact⟨r,b,.inl rfl⟩
     | 5,_,b=>
      simp at b;subst b;refine⟨_,rfl,.inr ⟨60,1,_,_,rfl,rfl,J,λy e ct w o=>?_⟩⟩;by_cases bF:y=c
      .subst bF;rw[Ww U] at w o;cases w;cases o;refine⟨rfl,λx a a4 aA aB=>?_⟩
       match x with
       | 0=>simp[I.cells] at aA aB;subst aA;subst aB;have:=Rj.ms (id:=6) (k:=3) (l:=m.map Z2);rwa [Yp] at this
       | x+1=>simp[I.cells] at aA
      .rw[Vm (YQ bF)] at w o;rw[w] at o;cases o;exact⟨rfl,λx a a4 aA aB=>by rw[aA] at aB;cases aB;exact .same _⟩
     | 6,h,_=>exact absurd rfl h
     | i+7,_,b=>simp at b
    refine W.drop (h:=6) J J (λi r hi b=>?_) rfl [(0,.Ο 0 1 0 0),(6,.Ο 1 1 0 0),(7,.ω [Z6 G,θ L,.ms 5 nc 0 nc]),(8,R c)] ?_ ?_
    .match i,hi,b with
     | 0,_,b=>simp at b;subst b;exact Tz E 6
     | 1,_,b=>simp at b;subst b;intro e u a f;simp[I.cells] at u;subst u;simp[I.cells] at f;subst f;simp
     | 2,_,b=>simp at b;subst b;trivial
     | 3,_,b=>simp at b;subst b;trivial
     | 4,_,b=>simp at b;subst b;trivial
     | 5,_,b=>
      simp at b;subst b;intro e u a f;rcases NW u with u|rfl
      .obtain⟨w,o⟩:=a8 e u;rw[w] at f;simp at f;subst f;exact o.mono (Ε _)
      .simp[I.cells] at f;subst f;have:=Gb m;rw[bE] at this;exact this.mono (Ε _)
     | i+6,h,_=>omega
    .intro p B;simp only[Zm,YM,or_false] at B;rcases B with rfl|rfl|rfl|rfl
     .exact⟨rfl,Xz.2 U⟩
     .exact⟨rfl,Xz.2 U⟩
     .refine⟨rfl,JJ.2 λa f=>?_⟩;simp only[Zm,YM,or_false] at f;rcases f with rfl|rfl|rfl
      .exact(Y6.2 Ty:ψ 0 _).mono (Ε _)
      .exact(Y6.2 RX:ψ 0 _).mono (Ε _)
      .exact UF.2 U
     .exact⟨rfl,.z _⟩
    refine Ζ V ?_;exact W.to aj rfl (by simp[V])
 .have af:c=nc:=by simp at af;omega
  subst af;refine W.exit rfl ?_;have bG:WV ⟨G,L,done⟩:=⟨bK,a5,by show done.length<=4;omega,λx K=>by show QA L.length x;rw[<-aF];exact aL x K⟩;have ci:ZQ done c=done.map U7:=by rw[an];exact BP
  have cj:Zi (.Z' [Z6 G,θ L,.sl false 1 (done.map U7)]) (ZB ⟨G,L,done⟩):=by
   refine .Z' (.cons (.refl _) (.cons (.refl _) (.cons ?_ .nil)));exact .map λx _=>.one .acc (Ga x) rfl
  rcases ak with⟨Y,e⟩|⟨Y,e⟩<;>rcases al done U with⟨S,Φ⟩|⟨S,Φ⟩
  .rw[e,Φ];refine Χ ?_;have ck:done=[]:=YP.1 U;refine W.cut 1 J [(6,.ω [Z6 G,θ L,γ])] J (λid r cl b=>?_) (λp B=>?_) ?_
   .have:id=0:=U
    subst this;simp at b;subst b;exact Tz M 1
   .simp only[Zm,YM,or_false] at B;subst B;show Yz 1 _ (Z7 _ 6) _;simp;refine .struct J (show _=some (Row.cells _ _ [.Z' _]) from rfl) rfl λx a a4 w o=>?_
    match x with
    | 0=>simp at w o;subst w;subst o;exact .low ((Y6.2 Ty:ψ 0 _).mono (Ε _))
    | 1=>simp at w o;subst w;subst o;exact .low ((Y6.2 RX:ψ 0 _).mono (Ε _))
    | 2=>simp at w o;subst w;subst o;exact .low J
    | x+3=>simp at o
   .refine W.ret ⟨_,rfl,_,M,?_,⟨_,rfl,bG,⟨by show done.length<=ab;omega,by show L.length<=3;omega⟩⟩,rfl,aK⟩;rw[ck];exact .Z' (.cons (.refl _) (.cons (.refl _) (.cons .nil .nil)))
  .omega
  .omega
  .have Z:(ZQ done c).length=c:=S1 U;rw[e,Φ];refine Ζ Z ?_;refine W.cut 1 J [(6,.ω [Z6 G,θ L,.sl false 1 (ZQ done c)])] J (λid r cl b=>?_) (λp B=>?_) ?_
   .have:id=0:=U
    subst this;simp at b;subst b;exact Tz M 1
   .simp only[Zm,YM,or_false] at B;subst B;show Yz 1 _ (Z7 _ 6) _;simp;refine .struct J (show _=some (Row.cells _ _ [.Z' _]) from rfl) rfl λx a a4 w o=>?_
    match x with
    | 0=>simp at w o;subst w;subst o;exact .low ((Y6.2 Ty:ψ 0 _).mono (Ε _))
    | 1=>simp at w o;subst w;subst o;exact .low ((Y6.2 RX:ψ 0 _).mono (Ε _))
    | 2=>simp at w o;subst w;subst o;exact .own (t:=60) J rfl Z (λe u a f=>by
      obtain⟨aV,cm⟩:=MF e u;rw[aV] at f;simp at f;subst f;exact cm.mono (Ε _))
    | x+3=>simp at o
   .rw[ci];exact W.ret ⟨_,rfl,_,M,cj,⟨_,rfl,bG,⟨by show done.length<=ab;omega,by show L.length<=3;omega⟩⟩,rfl,aK⟩
theorem BL (s:υ) (g:Int) (i:g<s.Α.length) (σ:Ρ) (id m:Nat) (c:ξ) (e:c.length=m) (f:σ[id]?=some (.cells 60 1 c)):Μ prog 130 [.Z' [Z6 s.Α,θ s.Β,.ms id m 0 m],R g] σ (λa r=>a=R (s.of g)/\r=σ) (λ_ _=>False):=by
 refine Μ.body Υ func130 rfl rfl ntmps130 rfl rfl J ?_;refine Ζ (Τ f e) ?_;refine W.YN rfl (λb=>?_) (λb=>?_)
 .have b:g<0:=by simpa using b
  refine Χ ?_;refine W.ret ⟨_,rfl,?_,rfl⟩;show R 0=_;simp[υ.of,b]
 .have b:¬g<0:=by simpa using b
  obtain⟨n,rfl⟩:∃n:Nat,g=n:=⟨g.toNat,U⟩;have d:n<s.Α.length:=U;refine Ζ d ?_;refine W.ret ⟨_,rfl,?_,rfl⟩;show R s.Α[n].YT=_;simp[υ.of,d];intro h;omega
theorem sg (s:υ) (p r:Int×Int) (n:Nat) (g:n<s.Β.length) (k:∀x∈s.Β,x.length<2 ^ 62) (C:r.1<s.Α.length) (D:r.2<s.Α.length) (σ:Ρ) (id m:Nat) (o:ξ) (d:o.length=m) (e:σ[id]?=some (.cells 60 1 o)) :
  Μ prog 91 [.Z' [Z6 s.Α,θ s.Β,.ms id m 0 m],ζ R 1 [p.1,p.2],ζ R 1 [r.1,r.2],R n] σ (λa E=>a=R (s.X4 p r n)/\E=σ) (λ_ _=>False):=by
 have i:=ε g
 have t:=k _ (Y2 g);obtain⟨l,k⟩:=Ι (s.Β[n]);rw[<-k] at i t;have v:∀h,s.Β[n]'h=l:=λh=>k.symm;have hv:s.X4 p r n=if l.contains p.2 then UM (if l.contains p.1 then UM 0 (s.of r.1) else 0) (s.of r.2) else if l.contains p.1 then UM 0 (s.of r.1) else 0:=by
  unfold υ.X4;rw[i];rfl
 rw[hv];have f:∀x:Int,(0<=(if x∈l then((l.idxOf x:Nat):Int) else -1))↔x∈l:=λx=>by
  by_cases h:x∈l
  .simp[h]
  .simp[h]
 have B:=BL s r.1 C σ id m o d e
 have w:=BL s r.2 D σ id m o d e;generalize s.of r.1=F at B ⊢;generalize s.of r.2=H at w ⊢;refine Μ.body Υ func91 rfl rfl ntmps91 rfl rfl J ?_;refine Ζ (Τ e d) ?_;refine W.draw (A:=[]) Υ mixed λj b=>Ve (Τ g (Τ i v)) ?_;refine Ys (Κ.p (Hy l p.1 t) (ZT.refl _) J J) ?_;simp[f];(repeat (rw[ZG];simp[f]));try rw[ZH]
 refine YF (b _ _ ?_);by_cases u:p.1∈l
 .refine Γ (by simp[u]) ?_;have y:l.contains p.1=true:=by simpa using u
  rw[if_pos y]
  repeat apply Ξ
  refine W.draw (A:=[]) Υ mixed λj b=>Ve (Τ e d) ?_;refine Nl (Μ.call (first:=[]) (captured:=[]) B) ?_;simp;(repeat (rw[ZG];simp));try rw[ZH]
  refine YF (b _ _ ?_)
  repeat apply Ξ
  refine W.draw (A:=[]) Υ mixed λj b=>Ve (Τ g (Τ i v)) ?_;refine Ys (Κ.p (Hy l p.2 t) (ZT.refl _) J J) ?_;simp[f];(repeat (rw[ZG];simp[f]));try rw[ZH]
  refine YF (b _ _ ?_);by_cases c:p.2∈l
  .refine Γ (by simp[c]) ?_;have Φ:l.contains p.2=true:=by simpa using c
   rw[if_pos Φ]
   repeat apply Ξ
   refine W.draw (A:=[]) Υ mixed λj b=>Ve (Τ e d) ?_;refine Nl (Μ.call (first:=[]) (captured:=[]) w) ?_;simp;(repeat (rw[ZG];simp));try rw[ZH]
   refine YF (b _ _ ?_);refine Χ ?_;exact W.ret ⟨_,rfl,rfl,rfl⟩
  .refine Η (by simp[c]) ?_;have Φ:¬l.contains p.2=true:=by simpa using c
   rw[if_neg Φ];refine Χ ?_;exact W.ret ⟨_,rfl,rfl,rfl⟩
 .refine Η (by simp[u]) ?_;have y:¬l.contains p.1=true:=by simpa using u
  rw[if_neg y]
  repeat apply Ξ
  refine W.draw (A:=[]) Υ mixed λj b=>Ve (Τ g (Τ i v)) ?_;refine Ys (Κ.p (Hy l p.2 t) (ZT.refl _) J J) ?_;simp[f];(repeat (rw[ZG];simp[f]));try rw[ZH]
  refine YF (b _ _ ?_);by_cases c:p.2∈l
  .refine Γ (by simp[c]) ?_;have Φ:l.contains p.2=true:=by simpa using c
   rw[if_pos Φ]
   repeat apply Ξ
   refine W.draw (A:=[]) Υ mixed λj b=>Ve (Τ e d) ?_;refine Nl (Μ.call (first:=[]) (captured:=[]) w) ?_;simp;(repeat (rw[ZG];simp));try rw[ZH]
   refine YF (b _ _ ?_);refine Χ ?_;exact W.ret ⟨_,rfl,rfl,rfl⟩
  .refine Η (by simp[c]) ?_;have Φ:¬l.contains p.2=true:=by simpa using c
   rw[if_neg Φ];refine Χ ?_;exact W.ret ⟨_,rfl,rfl,rfl⟩
def cnt (x n:Int):Nat->Int
 | 0=>0
 | k+1=>cnt x n k+(if XY .i64 x (2 ^ k)≠0 then 1 else 0)-(if XY .i64 n (2 ^ k)≠0 then 1 else 0)
end Go.TL
namespace Go.TL
open Go.Proofs.Tryz
open Go.Proofs
section
variable [ZN]
theorem sf (l:List Int):Μ prog 22 [ζ R 1 l] [] (λr s=>r=.Ο 0 1 0 0/\s=[ZK ⟨l,1⟩]) (λ_ _=>False):=by
 refine Μ.body Υ func22 rfl rfl ntmps22 rfl rfl J ?_
 repeat apply Ξ
 refine Wr ?_
 repeat apply Ξ
 refine Zj (A:=[5]) Υ λb a=>ZY ?_;apply a;refine Χ ?_;exact W.ret ⟨_,rfl,rfl,rfl⟩
end
abbrev BK:ξ:=[ZE [1,0],ZE [2,0],ZE [2,1]]
theorem se:∀i,i<3->BK[i]?=some (ZE [(X2 i).1,(X2 i).2])/\∀h,BK[i]'h=ZE [(X2 i).1,(X2 i).2]:=λi hi=>by
 match i with
 | 0=>exact⟨rfl,λ_=>rfl⟩
 | 1=>exact⟨rfl,λ_=>rfl⟩
 | 2=>exact⟨rfl,λ_=>rfl⟩
end Go.TL
