import Derived.Test.YtlabjopijpkiaaaGreatLAJ
set_option maxHeartbeats 16000000
set_option maxRecDepth 20000
set_option linter.unusedSectionVars false
set_option linter.unusedSimpArgs false
set_option linter.unusedVariables false
namespace Go.TL
open Go.Proofs.Tryz
open Go.Proofs
variable [ZP]
theorem r8 (S:Te) (aG:S=Wj\/S=Wi) (d:Array Zu) (n a b:Nat) (ay:d.size=n) (aV:n<2 ^ 40) (aH:a<b) (aW:b<=n) (m:Ψ) (h:Int×Int->Int×Int->Int) (aX:ς 0 m) (aj:∀x y,XM prog m [S.enc x,S.enc y] (I (h x y))) :
  Μ prog S.partialInsertionSort [.ms 0 n 0 n,I a,I b,m] [.cells S.t S.k ((d).toList.map S.enc)] (λr s=>r=ν (Go.Sort.partialInsertionSort (ψ h) d a b).2/\s=[.cells S.t S.k (((Go.Sort.partialInsertionSort (ψ h) d a b).1).toList.map S.enc)]) (λ_ _=>False):=by
 obtain⟨enc,ak⟩:=Ε S.enc;rcases aG with rfl|rfl
 all_goals dsimp only[Wj,Wi] at *
 refine Μ.body Ο func239 U U ntmps239 U U Ω ?_
 rotate_left
 refine Μ.body Ο func188 U U ntmps188 U U Ω ?_
 all_goals
  obtain⟨R,al⟩:=ZG (Go.Sort.partialIns (ψ h) a b 5 (a+1) d);have az:Go.Sort.partialInsertionSort (ψ h) d a b=R:=al;rw[az];have w1:=X3 (i:=a) J;refine Ι w1 ?_;refine W.iter (λq:Nat×Nat×Array Zu=>q.1<=5/\a+1<=q.2.1/\q.2.1<=b/\q.2.2.size=n/\Go.Sort.partialIns (ψ h) a b (5-q.1) q.2.1 q.2.2=R) (λq=>[(0,.ms 0 n 0 n),(1,I a),(2,I b),(3,m),(9,I (q.2.1:Nat)),(10,I (q.1:Nat))]) (λq=>[.cells _ _ ((q.2.2).toList.map _)]) (λq=>5-q.1) (0,a+1,d) ⟨Α _,Z6 _,aH,ay,al⟩ U (by simp[w1]) (λq N aI=>?_);clear al az ay w1;obtain⟨st,i,e⟩:=q;obtain⟨aJ,aK,am,ah,l⟩:=N;simp only at aJ aK am ah l;refine W.to (σ':=[.cells _ _ ((e).toList.map _)]) (env':=[(0,.ms 0 n 0 n),(1,I a),(2,I b),(3,m),(9,I (i:Nat)),(10,I (st:Nat))]) ?_ U Ω;by_cases Z:st<5
  case neg=>
   have g:¬(st:Int)<5:=J;refine Ι g ?_;refine Η Ω ?_;refine W.exit U ?_;refine Χ ?_;obtain rfl:st=5:=J;exact W.ret ⟨_,U,by rw[<-l];rfl,by rw[<-l];rfl⟩
  have aL:(st:Int)<5:=J;refine Ι aL ?_;refine Ζ Ω ?_;obtain⟨c,an⟩:=ZG (Go.Sort.scanSorted (ψ h) e b i);have aM:=BE (ψ h) e (b:=b) (b-i) i (Z6 _) am;rw[an] at aM;rw[show 5-st=(4-st)+1 by omega,Go.Sort.partialIns] at l;simp only[an] at l
  repeat apply Ν
  refine W.ss [(0,.ms 0 n 0 n),(1,I a),(2,I b),(3,m),(9,I (c:Nat)),(10,I (st:Nat))] (e) [] ?_ ?_
  .clear l;refine W.iter (λk:Nat=>i<=k/\k<=b/\Go.Sort.scanSorted (ψ h) e b k=c) (λk=>[(0,.ms 0 n 0 n),(1,I a),(2,I b),(3,m),(9,I (k:Nat)),(10,I (st:Nat))]) (λ_=>[.cells _ _ ((e).toList.map _)]) (λk=>b-k) i ⟨Z6 _,am,an⟩ U Ω (λk aN ae=>?_);obtain⟨aY,aZ,ao⟩:=aN;by_cases O:k<b
   .obtain⟨p,ap⟩:=Ε (k-1);have v:k<n:=J;have w:p<n:=J;obtain⟨L,x,y,o,B,C,T,⟨D,E⟩,⟨H,K⟩,-,-⟩:=TN enc ah v w;simp only[ak] at o D E H K;have P:Go.Sort.scanSorted (ψ h) e b k=if(!ψ h x y)=true then Go.Sort.scanSorted (ψ h) e b (k+1) else k:=by rw[Go.Sort.scanSorted];simp[O,B,<-ap,C]
    have aA:=X3 (i:=k) J
    have aO:IntKind.i64.wrap ((k:Int)-1)=(p:Int):=by rw[IntWalk.i64_in _ J];omega
    refine W.Ia o [(0,.ms 0 n 0 n),(1,I a),(2,I b),(3,m),(9,I (k:Nat)),(10,I (st:Nat))] Ω ?_;clear B C
    repeat apply Ν
    refine W.draw (A:=[]) Ο mixed λaq V=>V8 (Υ O (Υ aO (Υ T (Υ D (Υ E (Υ H (Υ K (Υ v w)))))))) ?_;refine Zc (aj x y) ?_;simp;(repeat (rw[Z1];simp));try rw[Z2]
    refine Zf (V _ _ ?_);by_cases u:h x y<0
    .refine Η (by simp[u]) ?_;refine W.exit U ?_;exact W.stop ⟨U,by rw[o],by rw[<-ao,P];simp[u,ψ]⟩
    .refine Ζ (by simp[u]) ?_;refine Ι aA ?_;exact W.to (ae (k+1) ⟨J,J,by rw[<-ao,P];simp[u,ψ]⟩ Zy) (by rw[o]) (by simp[aA])
   .repeat apply Ν
    refine XJ O ?_;refine Η U ?_;refine W.exit U ?_;have e:Go.Sort.scanSorted (ψ h) e b k=k:=by rw[Go.Sort.scanSorted];simp[O]
    exact W.stop ⟨U,U,by rw[<-ao,e];simp⟩
  by_cases ai:c=b
  .have g:(c:Int)=(b:Int):=J
   rw[if_pos ai] at l;refine Ι g ?_;refine Ζ (by simp[ai]) ?_;refine Χ ?_;exact W.ret ⟨_,U,by rw[<-l];rfl,by rw[<-l]⟩
  have g:¬(c:Int)=(b:Int):=J
  have aB:=Qt (a:=a) (b:=b) J J;rw[if_neg ai] at l;refine Ι g ?_;refine Η (by simp[ai]) ?_;by_cases aC:b-a<50
  .have ar:((b-a:Nat):Int)<50:=J
   rw[if_pos aC] at l;refine Ι (Υ aB ar) ?_;refine Ζ Ω ?_;refine Χ ?_;exact W.ret ⟨_,U,by rw[<-l];rfl,by rw[<-l]⟩
  have ar:¬((b-a:Nat):Int)<50:=J;rw[if_neg aC] at l;refine Ι (Υ aB ar) ?_;refine Η Ω ?_;obtain⟨p,ap⟩:=Ε (c-1);have aD:IntKind.i64.wrap ((c:Int)-1)=(p:Int):=by rw[IntWalk.i64_in _ J];omega
  rw[<-ap] at l;refine W.two _ ah (i:=c) (j:=p) J J λL x y z B C F o Q=>?_
  repeat apply Ν
  refine W.draw (A:=[]) Ο mixed λaq V=>?_;simp;(repeat (rw[Z1];simp[F,aD]));try rw[Z2];refine Zf (V _ _ ?_)
  refine W.back Q [(0,.ms 0 n 0 n),(1,I a),(2,I b),(3,m),(9,I (c:Nat)),(10,I (st:Nat))] Ω ?_;clear F Q o B C L x y z;obtain⟨aa,aE⟩:=Ε (Go.Sort.swp e c p);have au:aa.size=n:=by rw[aE];exact swp_size ah c p
  rw[<-aE] at l ⊢;have aP:=Qt (a:=a) (b:=c) J J;obtain⟨Ρ,X⟩:=Ε (if c-a>=2 then Go.Sort.shiftDown (ψ h) p aa else aa);rw[<-X] at l;have av:Ρ.size=n:=by rw[X];split;exact BD (ψ h) p aa au;exact au
  refine Ι aP ?_;refine W.NQ [(0,.ms 0 n 0 n),(1,I a),(2,I b),(3,m),(9,I (c:Nat)),(10,I (st:Nat))] (Ρ) [] ?_ ?_
  .clear l;by_cases af:2<=c-a
   .rw[if_pos af] at X;refine Ζ (by simp;omega) ?_;refine Ι aD ?_;subst X;refine W.iter (λq:Nat×Array Zu=>q.1<=p/\q.2.size=n/\Go.Sort.shiftDown (ψ h) q.1 q.2=Go.Sort.shiftDown (ψ h) p aa) (λq=>[(0,.ms 0 n 0 n),(1,I a),(2,I b),(3,m),(9,I (c:Nat)),(10,I (st:Nat)),(11,I (q.1:Nat))]) (λq=>[.cells _ _ ((q.2).toList.map _)]) (λq=>q.1) (p,aa) ⟨Z6 _,au,U⟩ U Ω (λq N ae=>?_);obtain⟨j,f⟩:=q;obtain⟨aw,Y,M⟩:=N;simp only at aw Y M;refine W.to (σ':=[.cells _ _ ((f).toList.map _)]) (env':=[(0,.ms 0 n 0 n),(1,I a),(2,I b),(3,m),(9,I (c:Nat)),(10,I (st:Nat)),(11,I (j:Nat))]) ?_ U Ω;by_cases O:1<=j
    .have g:(1:Int)<=(j:Int):=J
     refine Ι g ?_;refine Ζ Ω ?_;obtain⟨q,N⟩:=Ε (j-1);have ab:IntKind.i64.wrap ((j:Int)-1)=(q:Int):=by rw[IntWalk.i64_in _ J];omega
     have ag:IntKind.i64.wrap ((j:Int)-1)=(q:Int):=ab
     have v:j<n:=J
     have w:q<n:=J;obtain⟨L,x,y,o,B,C,T,⟨D,E⟩,⟨H,K⟩,Q,aQ,Z⟩:=TN enc Y v w;simp only[ak] at o D E H K Q Z;have P:Go.Sort.shiftDown (ψ h) j f=if(!ψ h x y)=true then f else Go.Sort.shiftDown (ψ h) q (Go.Sort.swp f j q):=by
      obtain rfl:j=q+1:=J;rw[Go.Sort.shiftDown,B,C]
     refine W.Ia o [(0,.ms 0 n 0 n),(1,I a),(2,I b),(3,m),(9,I (c:Nat)),(10,I (st:Nat)),(11,I (j:Nat))] Ω ?_;clear B C
     repeat apply Ν
     refine W.draw (A:=[]) Ο mixed λaq V=>V8 (Υ ab (Υ T (Υ D (Υ E (Υ H (Υ K (Υ v w))))))) ?_;refine Zc (aj x y) ?_;simp;(repeat (rw[Z1];simp));try rw[Z2]
     refine Zf (V _ _ ?_);by_cases u:h x y<0
     .refine Η (by simp[u]) ?_;refine W.to (σ':=[.cells _ _ L]) (env':=[(0,.ms 0 n 0 n),(1,I a),(2,I b),(3,m),(9,I (c:Nat)),(10,I (st:Nat)),(11,I (j:Nat))]) ?_ U Ω
      repeat apply Ν
      refine XJ (Υ ab (Υ T (Υ D (Υ E (Υ H (Υ K (Υ Z (Υ v w)))))))) ?_;refine Ι ag ?_;exact W.to (ae (q,Go.Sort.swp f j q) ⟨J,swp_size Y j q,by rw[<-M,P];simp[u,ψ]⟩ Zy) (by rw[Q]) (by simp[ag])
     .refine Ζ (by simp[u]) ?_;refine W.exit U ?_;exact W.stop ⟨U,by rw[<-o,<-M,P];simp[u,ψ],Ω⟩
    .have g:¬(1:Int)<=(j:Int):=J
     refine Ι g ?_;refine Η Ω ?_;refine W.exit U ?_;have e:Go.Sort.shiftDown (ψ h) j f=f:=by
      obtain rfl:j=0:=J;rfl
     exact W.stop ⟨U,by rw[<-M,e],Ω⟩
   .rw[if_neg af] at X;refine Η (by simp;omega) ?_;refine W.skip ?_;exact W.stop ⟨U,by rw[X],Ω⟩
  clear X;have aR:=Qt (a:=c) (b:=b) J J;have aS:=X3 (i:=c) J;have aF:=X3 (i:=st) J;obtain⟨ax,ad⟩:=Ε (if b-c>=2 then Go.Sort.shiftUp (ψ h) b (c+1) Ρ else Ρ);rw[<-ad] at l;have aT:ax.size=n:=by rw[ad];split;exact BC (ψ h) (b-(c+1)) (c+1) Ρ (Z6 _) av;exact av
  refine Ι aR ?_;refine W.NQ [(0,.ms 0 n 0 n),(1,I a),(2,I b),(3,m),(9,I (c:Nat)),(10,I (st:Nat))] (ax) [] ?_ ?_
  .clear l;by_cases af:2<=b-c
   .rw[if_pos af] at ad;refine Ζ (by simp;omega) ?_;refine Ι aS ?_;subst ad;refine W.iter (λq:Nat×Array Zu=>c+1<=q.1/\q.1<=b/\q.2.size=n/\Go.Sort.shiftUp (ψ h) b q.1 q.2=Go.Sort.shiftUp (ψ h) b (c+1) Ρ) (λq=>[(0,.ms 0 n 0 n),(1,I a),(2,I b),(3,m),(9,I (c:Nat)),(10,I (st:Nat)),(12,I (q.1:Nat))]) (λq=>[.cells _ _ ((q.2).toList.map _)]) (λq=>b-q.1) (c+1,Ρ) ⟨Z6 _,J,av,U⟩ U Ω (λq N ae=>?_);obtain⟨j,f⟩:=q;obtain⟨aw,aU,Y,M⟩:=N;simp only at aw aU Y M;refine W.to (σ':=[.cells _ _ ((f).toList.map _)]) (env':=[(0,.ms 0 n 0 n),(1,I a),(2,I b),(3,m),(9,I (c:Nat)),(10,I (st:Nat)),(12,I (j:Nat))]) ?_ U Ω;by_cases O:j<b
    .have g:(j:Int)<(b:Int):=J
     refine Ι g ?_;refine Ζ Ω ?_;obtain⟨q,N⟩:=Ε (j-1);have ab:IntKind.i64.wrap ((j:Int)-1)=(q:Int):=by rw[IntWalk.i64_in _ J];omega
     have ag:=X3 (i:=j) J
     have v:j<n:=J
     have w:q<n:=J;obtain⟨L,x,y,o,B,C,T,⟨D,E⟩,⟨H,K⟩,Q,aQ,Z⟩:=TN enc Y v w;simp only[ak] at o D E H K Q Z;have P:Go.Sort.shiftUp (ψ h) b j f=if(!ψ h x y)=true then f else Go.Sort.shiftUp (ψ h) b (j+1) (Go.Sort.swp f j q):=by
      rw[Go.Sort.shiftUp,if_pos O,<-N,B,C]
     refine W.Ia o [(0,.ms 0 n 0 n),(1,I a),(2,I b),(3,m),(9,I (c:Nat)),(10,I (st:Nat)),(12,I (j:Nat))] Ω ?_;clear B C
     repeat apply Ν
     refine W.draw (A:=[]) Ο mixed λaq V=>V8 (Υ ab (Υ T (Υ D (Υ E (Υ H (Υ K (Υ v w))))))) ?_;refine Zc (aj x y) ?_;simp;(repeat (rw[Z1];simp));try rw[Z2]
     refine Zf (V _ _ ?_);by_cases u:h x y<0
     .refine Η (by simp[u]) ?_;refine W.to (σ':=[.cells _ _ L]) (env':=[(0,.ms 0 n 0 n),(1,I a),(2,I b),(3,m),(9,I (c:Nat)),(10,I (st:Nat)),(12,I (j:Nat))]) ?_ U Ω
      repeat apply Ν
      refine XJ (Υ ab (Υ T (Υ D (Υ E (Υ H (Υ K (Υ Z (Υ v w)))))))) ?_;refine Ι ag ?_;exact W.to (ae (j+1,Go.Sort.swp f j q) ⟨J,J,swp_size Y j q,by rw[<-M,P];simp[u,ψ]⟩ Zy) (by rw[Q]) (by simp[ag])
     .refine Ζ (by simp[u]) ?_;refine W.exit U ?_;exact W.stop ⟨U,by rw[<-o,<-M,P];simp[u,ψ],Ω⟩
    .have g:¬(j:Int)<(b:Int):=J
     refine Ι g ?_;refine Η Ω ?_;refine W.exit U ?_;have e:Go.Sort.shiftUp (ψ h) b j f=f:=by rw[Go.Sort.shiftUp,if_neg O]
     exact W.stop ⟨U,by rw[<-M,e],Ω⟩
   .rw[if_neg af] at ad;refine Η (by simp;omega) ?_;refine W.skip ?_;exact W.stop ⟨U,by rw[ad],Ω⟩
  refine Ι aF ?_;exact W.to (aI (st+1,c,ax) ⟨Zy,Zy,Zy,aT,by simp only;rw[show 5-(st+1)=4-st by omega];exact l⟩ Zy) U (by simp[aF])
theorem By (S:Te) (X:S=Wj\/S=Wi) (n:Nat) (bA:n<256) (C:Ψ) (c:Int×Int->Int×Int->Int) (Y:ς 0 C) (Q:∀x y,XM prog C [S.enc x,S.enc y] (I (c x y))) (ak:Go.Sort.SWO (ψ c)):∀(k:Nat) (d:Array Zu) (a b j:Nat),d.size=n->b-a<=k->a<=b->b<=n->j<2 ^ 40->Go.Sort.Below (ψ c) a b d->
  Μ prog S.sj [.ms 0 n 0 n,I a,I b,I j,C] [.cells S.t S.k ((d).toList.map S.enc)] (λr s=>r=.ZY []/\s=[.cells S.t S.k ((Go.Sort.pdq (ψ c) d a b j true true).toList.map S.enc)]) (λ_ _=>False):=by
 intro k
 induction k using Nat.strongRecOn with
 | _ k a0=>
 intro d a b j bl aA al D aB am;have bm:=r9 S X;have bn:=se S X;have bo:=si S X;have bp:=sg S X;have bq:=sh S X;have a1:=r8 S X;have br:=sa S X;have bs:=sd S X;obtain⟨enc,bt⟩:=Ε S.enc;rcases X with rfl|rfl
 all_goals dsimp only[Wj,Wi] at *
 refine Μ.body Ο func211 U U ntmps211 U U Ω ?_
 rotate_left
 refine Μ.body Ο func149 U U ntmps149 U U Ω ?_
 all_goals
  obtain⟨R,aJ⟩:=ZG (Go.Sort.pdq (ψ c) d a b j true true);rw[aJ];refine Χ ?_;refine W.iter (λq:BI Zu=>q.e.size=n/\q.a<=q.b/\q.b<=n/\q.b-q.a<=k/\q.lim<2 ^ 40/\Go.Sort.Below (ψ c) q.a q.b q.e/\Go.Sort.pdq (ψ c) q.e q.a q.b q.lim q.wb q.wp=R) (λq=>[(0,.ms 0 n 0 n),(1,I (q.a:Nat)),(2,I (q.b:Nat)),(3,I (q.lim:Nat)),(4,C),(10,ν q.wb),(11,ν q.wp)]) (λq=>[.cells _ _ ((q.e).toList.map _)]) (λq=>q.b-q.a) ⟨a,b,j,true,true,d⟩ ⟨bl,al,D,aA,aB,am,aJ⟩ U Ω (λq bu aK=>?_);clear aJ am aB D al aA;obtain⟨a,b,j,wb,wp,e⟩:=q;obtain⟨an,al,D,aA,aB,am,ah⟩:=bu;simp only at an al D aA aB am ah;obtain⟨l,aL⟩:=Ε (b-a);have w1:IntKind.i64.wrap ((b:Int)-(a:Int))=(l:Int):=by rw[IntWalk.i64_in _ J];omega
  refine W.to (σ':=[.cells _ _ ((e).toList.map _)]) (env':=[(0,.ms 0 n 0 n),(1,I (a:Nat)),(2,I (b:Nat)),(3,I (j:Nat)),(4,C),(10,ν wb),(11,ν wp)]) ?_ U Ω;by_cases ai:b-a<=12
  .have g:(l:Int)<=12:=J
   refine Ι (Υ w1 g) ?_;refine Ζ Ω ?_;refine Z8 λO o=>?_;refine Μ.call (first:=[]) (captured:=[]) ((bo e n a b an al D J C c Y Q).mono (λr s ⟨w,B⟩=>?_) (λ_ _ h=>h.elim));subst w;subst B;simp;(repeat (rw[Θ];simp));apply o;rw[Go.Sort.pdq_small ai] at ah;exact W.ret ⟨_,U,U,by rw[<-ah]⟩
  have g:¬(l:Int)<=12:=J;refine Ι (Υ w1 g) ?_;refine Η Ω ?_;by_cases ad:j=0
  .have aM:(j:Int)=0:=J
   refine Ι aM ?_;refine Ζ (by simp[ad]) ?_;refine Z8 λO o=>?_;refine Μ.call (first:=[]) (captured:=[]) ((bn e n a b an J J D C c Y Q).mono (λr s ⟨w,B⟩=>?_) (λ_ _ h=>h.elim));subst w;subst B;simp;(repeat (rw[Θ];simp));apply o;rw[Go.Sort.pdq_heap ai ad] at ah;exact W.ret ⟨_,U,U,by rw[<-ah]⟩
  have aM:¬(j:Int)=0:=J;refine Ι aM ?_;refine Η (by simp[ad]) ?_;refine Χ ?_;have F:=Go.Sort.rd_facts (limit:=j) (wb:=wb) (wp:=wp) ak Go.Sort.partialInsertionSort_holds Go.Sort.reverseRange_holds (by omega:a<b) J am;have a2:=Go.Sort.rd_lim_le (lt:=(ψ c)) (d:=e) (a:=a) (b:=b) (limit:=j) (wb:=wb) (wp:=wp);have aC:=λh:wb=false=>show(Go.Sort.rd (ψ c) e a b j wb wp).d1=Go.Sort.breakPatterns e a b/\(Go.Sort.rd (ψ c) e a b j wb wp).lim=j-1 by subst h;exact Go.Sort.rd_false
  have aD:=λh:wb=true=>show(Go.Sort.rd (ψ c) e a b j wb wp).d1=e/\(Go.Sort.rd (ψ c) e a b j wb wp).lim=j by subst h;exact Go.Sort.rd_true
  have aE:=Go.Sort.rd_c (lt:=(ψ c)) (d:=e) (a:=a) (b:=b) (limit:=j) (wb:=wb) (wp:=wp)
  have Fd:=Go.Sort.rd_dec (lt:=(ψ c)) (d:=e) (a:=a) (b:=b) (limit:=j) (wb:=wb) (wp:=wp)
  have Fn:=Go.Sort.rd_not (lt:=(ψ c)) (d:=e) (a:=a) (b:=b) (limit:=j) (wb:=wb) (wp:=wp)
  have ao:=Go.Sort.rd_pi_yes (lt:=(ψ c)) (d:=e) (a:=a) (b:=b) (limit:=j) (wb:=wb) (wp:=wp)
  have ap:=Go.Sort.rd_pi_no (lt:=(ψ c)) (d:=e) (a:=a) (b:=b) (limit:=j) (wb:=wb) (wp:=wp)
  have aq:=Go.Sort.pdq_done (lt:=(ψ c)) (d:=e) (wb:=wb) (wp:=wp) ai ad
  have N:=Go.Sort.pdq_eq (lt:=(ψ c)) (d:=e) (wb:=wb) (wp:=wp) ai ad
  have E:=Go.Sort.pdq_left (lt:=(ψ c)) (d:=e) (wb:=wb) (wp:=wp) ai ad
  have H:=Go.Sort.pdq_right (lt:=(ψ c)) (d:=e) (wb:=wb) (wp:=wp) ai ad;rw[ah] at aq N E H;obtain⟨r,a3⟩:=ZG (Go.Sort.rd (ψ c) e a b j wb wp);rw[a3] at F a2 aC aD aE Fd Fn ao ap aq N E H;clear a3;obtain⟨d1,K,⟨aN,aO⟩,d2,T,ar,d3,done⟩:=r;simp only at F a2 aC aD aE Fd Fn ao ap aq N E H;obtain⟨aP,bB,bC,aQ,bD,Z,aa,a4⟩:=F;rw[an] at aP aQ aa;refine W.NQ [(0,.ms 0 n 0 n),(1,I (a:Nat)),(2,I (b:Nat)),(3,I (K:Nat)),(4,C),(10,ν wb),(11,ν wp),(12,I (l:Nat))] (d1) [] ?_ ?_
  .cases wb with
   | false=>
    obtain⟨f1,f2⟩:=aC U;refine Ζ U ?_;refine Z8 λO o=>?_;refine Μ.call (first:=[]) (captured:=[]) ((bm e n a b an J J J D C c Y Q).mono (λr s ⟨w,B⟩=>?_) (λ_ _ h=>h.elim));subst w;subst B;simp;(repeat (rw[Θ];simp));apply o;have au:=V6 (i:=j) J J;refine Ts au ?_;exact W.stop ⟨U,by rw[f1],by simp[f2]⟩
   | true=>
    obtain⟨f1,f2⟩:=aD U;refine Η U ?_;refine W.skip ?_;exact W.stop ⟨U,by rw[f1],by simp[f2]⟩
  have aR:=br d1 n a b aP J J D C c Y Q;rw[<-aE] at aR;simp only at aR;refine Z8 λO o=>?_;refine Μ.call (first:=[]) (captured:=[]) ((aR).mono (λr s ⟨w,B⟩=>?_) (λ_ _ h=>h.elim));subst w;subst B;simp;(repeat (rw[Θ];simp));apply o;refine W.to (σ':=[.cells _ _ ((d1).toList.map _)]) (env':=[(0,.ms 0 n 0 n),(1,I (a:Nat)),(2,I (b:Nat)),(3,I (K:Nat)),(4,C),(10,ν wb),(11,ν wp),(12,I (l:Nat)),(13,I (aN:Nat)),(14,I (RP aO))]) ?_ U Ω;refine Χ ?_;refine W.NQ [(0,.ms 0 n 0 n),(1,I (a:Nat)),(2,I (b:Nat)),(3,I (K:Nat)),(4,C),(10,ν wb),(11,ν wp),(12,I (l:Nat)),(13,I (T:Nat)),(14,I (RP ar))] (d2) [] ?_ ?_
  .by_cases hd:aO=.decreasing
   .obtain⟨f1,f2,f3⟩:=Fd hd;subst hd;refine Ζ U ?_;refine Z8 λO o=>?_;refine Μ.call (first:=[]) (captured:=[]) ((bs d1 n a b aP J J D C c Y Q).mono (λr s ⟨w,B⟩=>?_) (λ_ _ h=>h.elim));subst w;subst B;simp;(repeat (rw[Θ];simp));apply o;have au:=V6 (i:=b) J J;have bv:=Qt (a:=a) (b:=aN) J J;have a5:=Qt (a:=aN-a) (b:=b-1) J J;rw[<-f2] at a5;refine W.seq ?_;refine Ts (Υ au (Υ bv a5)) ?_;refine Xh ?_;exact W.stop ⟨U,by rw[f1],by simp[f3,RP]⟩
   .obtain⟨f1,f2,f3⟩:=Fn hd;refine Η (by cases aO with
     | decreasing=>exact absurd rfl hd
     | unknown=>rfl
     | increasing=>rfl) ?_
    refine W.skip ?_;exact W.stop ⟨U,by rw[f1],by simp[f2,f3]⟩
  repeat apply Ν
  refine W.Ry (A:=[]) Ο [(75,ν (wb&&wp&&decide (ar=.increasing))),(0,.ms 0 n 0 n),(1,I (a:Nat)),(2,I (b:Nat)),(3,I (K:Nat)),(4,C),(10,ν wb),(11,ν wp),(12,I (l:Nat)),(13,I (T:Nat))] ?_ (by cases wb<;>cases wp<;>cases ar<;>simp[Θ,Sy,RP])
  repeat apply Ν
  rcases KN done with ab|ab
  .cases av:(wb&&wp&&decide (ar=.increasing)) with
   | true=>
    have f:=ao av;refine Ζ U ?_;have M:=a1 d2 n a b aQ J J D C c Y Q;rw[<-f] at M;simp only[ab] at M;refine Z8 λO o=>?_;refine Μ.call (first:=[]) (captured:=[]) ((M).mono (λr s ⟨w,B⟩=>?_) (λ_ _ h=>h.elim));subst w;subst B;simp;(repeat (rw[Θ];simp));apply o;refine Ζ U ?_;exact W.ret ⟨_,U,U,by rw[aq ab]⟩
   | false=>
    have f:=(Prod.mk.inj (ap av)).2;rw[ab] at f;cases f
  refine W.NQ [(0,.ms 0 n 0 n),(1,I (a:Nat)),(2,I (b:Nat)),(3,I (K:Nat)),(4,C),(10,ν wb),(11,ν wp),(12,I (l:Nat)),(13,I (T:Nat))] (d3) [] ?_ ?_
  .cases av:(wb&&wp&&decide (ar=.increasing)) with
   | true=>
    have f:=ao av;refine Ζ U ?_;have M:=a1 d2 n a b aQ J J D C c Y Q;rw[<-f] at M;simp only[ab] at M;refine Z8 λO o=>?_;refine Μ.call (first:=[]) (captured:=[]) ((M).mono (λr s ⟨w,B⟩=>?_) (λ_ _ h=>h.elim));subst w;subst B;simp;(repeat (rw[Θ];simp));apply o;refine Η U ?_;refine W.skip ?_;exact W.stop ⟨U,U,Ω⟩
   | false=>
    have f1:=(Prod.mk.inj (ap av)).1;refine Η U ?_;refine W.skip ?_;exact W.stop ⟨U,by rw[f1],Ω⟩
  clear aq ao ap Fd Fn aE aC aD;have N:=N ab;have E:=E ab;have H:=H ab;obtain⟨P,ae⟩:=ZG ((decide (a > 0)&&!ψ c d3[a-1]! d3[T]!):Bool);rw[ae] at N E H
  repeat apply Ν
  refine W.Pf (A:=[]) Ο mixed [(97,ν P),(0,.ms 0 n 0 n),(1,I (a:Nat)),(2,I (b:Nat)),(3,I (K:Nat)),(4,C),(10,ν wb),(11,ν wp),(12,I (l:Nat)),(13,I (T:Nat))] ?_ (by
   by_cases aS:0<a
   .obtain⟨p,bw⟩:=Ε (a-1);have a6:p<n:=J;have a7:T<n:=J;obtain⟨L,x,y,a8,V,a9,aL,⟨a',ba⟩,⟨bb,bc⟩,-,-⟩:=TN enc aa a6 a7;simp only[bt] at a8 a' ba bb bc;have aT:P = !ψ c x y:=by rw[<-ae,<-bw,V,a9];simp[aS]
    have aU:(0:Int)<(a:Int):=J
    have au:IntKind.i64.wrap ((a:Int)-1)=(p:Int):=by rw[IntWalk.i64_in _ J];omega
    rw[a8];clear V a9;simp;(repeat (rw[Z1];simp[aS,aU,au,aL,a',ba,bb,bc,a6,a7]));(try rw[Z2]);refine Zc (Q x y) ?_;simp;(repeat (rw[Z1];simp));(try rw[Z2]);refine⟨Yq Zr,?_⟩;simp[aT,ψ]
   .have aT:P=false:=by rw[<-ae];simp[aS]
    have aU:a=0:=J;subst aU;simp;(repeat (rw[Z1];simp));(try rw[Z2]);refine⟨Yq Zr,?_⟩;simp[aT])
  repeat apply Ν
  rcases KN P with af|af
  .refine Ζ (by simp[af]) ?_;rw[af] at ae;simp only[VO,decide_eq_true_eq,KC] at ae;obtain⟨⟨mid,d4⟩,V⟩:∃r,Go.Sort.partitionEqual (ψ c) d3 a b T=r:=⟨_,U⟩;obtain⟨ag,aw,aV,aF,-⟩:=Go.Sort.round_eq ak (Go.Sort.partitionEqual_holds _) ae.1 Z.1 Z.2 (by rw[aa];exact D) a4 ae.2 V;have N:=N af;rw[V] at N;have N:=N ⟨ag,aw⟩;simp only at N;have M:=bp d3 n a b T aa J Z.1 Z.2 D C c Y Q;rw[V] at M;simp only at M;refine Z8 λO o=>?_;refine Μ.call (first:=[]) (captured:=[]) ((M).mono (λr s ⟨w,B⟩=>?_) (λ_ _ h=>h.elim));subst w;subst B;simp;(repeat (rw[Θ];simp));apply o;refine Χ ?_;refine W.exit U ?_;exact W.to (aK ⟨mid,b,K,wb,wp,d4⟩ ⟨aV.trans aa,aw,D,Zy,Zy,aF,N.symm⟩ Zy) U Ω
  refine Η (by simp[af]) ?_;obtain⟨⟨mid,bd,d4⟩,V⟩:∃r,Go.Sort.partition (ψ c) d3 a b T=r:=⟨_,U⟩;obtain⟨ag,aw,aV,aF,aW,bx,be⟩:=Go.Sort.round_part ak (Go.Sort.partition_holds _) Z.1 Z.2 (by rw[aa];exact D) a4 V;have E:=E af;have H:=H af;rw[V] at E H;have E:=E ⟨ag,aw⟩;have H:=H ⟨ag,aw⟩;simp only at E H;have M:=bq d3 n a b T aa J Z.1 Z.2 D C c Y Q;rw[V] at M;simp only at M;have aG:d4.size=n:=aV.trans aa;obtain⟨u,bz⟩:=Ε (mid-a);obtain⟨v,hv⟩:=Ε (b-mid);obtain⟨aX,bf⟩:=Ε (l / 8);obtain⟨ax,aH⟩:=Ε (mid+1);have bg:IntKind.i64.wrap ((mid:Int)-(a:Int))=(u:Int):=by rw[IntWalk.i64_in _ J];omega
  have bh:IntKind.i64.wrap ((b:Int)-(mid:Int))=(v:Int):=by rw[IntWalk.i64_in _ J];omega
  have bi:IntKind.i64.wrap ((l:Int) / 8)=(aX:Int):=by rw[bf];exact OO (m:=8) J
  have bj:IntKind.i64.wrap ((mid:Int)+1)=(ax:Int):=by rw[IntWalk.i64_in _ J];omega
  rw[<-bz,<-hv,<-aL,<-bf,<-aH] at E H;refine Z8 λO o=>?_;refine Μ.call (first:=[]) (captured:=[]) ((M).mono (λr s ⟨w,B⟩=>?_) (λ_ _ h=>h.elim));subst w;subst B;simp;(repeat (rw[Θ];simp));apply o;by_cases bk:u<v
  .have aY:(u:Int)<(v:Int):=J
   refine Ι (Υ bg (Υ bh (Υ bi @aY))) ?_;refine Ζ Ω ?_;obtain⟨aj,aI⟩:=Go.Sort.pdq_sorts (ψ c) ak d4 a mid K true true ag J aF;have ay:=a0 (mid-a) J d4 a mid K aG (Z6 _) ag J J aF;have E:=E bk;obtain⟨B',-⟩:=bx _ aj aI;have az:=aj.1.trans aG;obtain⟨Ρ,aZ⟩:=ZG (Go.Sort.pdq (ψ c) d4 a mid K true true);rw[aZ] at ay E B' az;refine Z8 λO o=>?_;apply o;refine Z8 λO o=>?_;refine Μ.call (first:=[]) (captured:=[]) ((ay).mono (λr s ⟨w,B⟩=>?_) (λ_ _ h=>h.elim));subst w;subst B;simp;(repeat (rw[Θ];simp));apply o;refine Ι bj ?_;exact W.to (aK ⟨ax,b,K,decide (u>=aX),bd,Ρ⟩ ⟨az,Zy,D,Zy,Zy,by simp only;rw[aH];exact B',E.symm⟩ Zy) U Ω
  .have aY:¬(u:Int)<(v:Int):=J
   refine Ι (Υ bg (Υ bh (Υ bi @aY))) ?_;refine Η Ω ?_;obtain⟨aj,aI⟩:=Go.Sort.pdq_sorts (ψ c) ak d4 (mid+1) b K true true J J aW;rw[<-aH] at aj aI aW;have ay:=a0 (b-ax) J d4 ax b K aG (Z6 _) J D J aW;have H:=H bk;rw[<-aH] at be;obtain⟨B',-⟩:=be _ aj aI;have az:=aj.1.trans aG;obtain⟨Ρ,aZ⟩:=ZG (Go.Sort.pdq (ψ c) d4 ax b K true true);rw[aZ] at ay H B' az;refine Z8 λO o=>?_;apply o;refine XD bj λO o=>?_;refine Μ.call (first:=[]) (captured:=[]) ((ay).mono (λr s ⟨w,B⟩=>?_) (λ_ _ h=>h.elim));subst w;subst B;simp;(repeat (rw[Θ];simp));apply o;refine Χ ?_;exact W.to (aK ⟨a,mid,K,decide (v>=aX),bd,Ρ⟩ ⟨az,ag,Zy,Zy,Zy,B',H.symm⟩ Zy) U Ω
theorem FN {a:Type} [Inhabited a] {lt:a->a->Bool} (b:Go.Sort.SWO lt) (c:∀x y,lt x y=false->lt y x=false->x=y) (l:List a):(Go.Sort.pdq lt l.toArray 0 l.length (Go.Sort.bitsLen l.length) true true).toList=l.mergeSort (λx y=>!lt y x):=by
 obtain⟨d,e⟩:=Go.Sort.pdq_sorts lt b l.toArray 0 l.length (Go.Sort.bitsLen l.length) true true (Α _) Ω (.inl U);exact Go.Sort.sorted_unique_holds (lt:=lt) b c l.toArray _ (by simpa using d) (by simpa using e)
theorem r7:I0 49:=λl u=>by
 obtain⟨b,c⟩:=Ε (.fn (.func 174) [] []:Ψ);have g:ς 0 b:=by rw[c];simp[U5]
 have i:∀x y,XM prog b [Zb x,Zb y] (I (Uq x y)):=λx y=>by rw[c];exact Κ.p (DO x y) (ZN.refl _) Ω Ω
 obtain⟨n,a⟩:=Ε l.length;have v:Go.Sort.bitsLen n<=6:=(Go.Sort.bitsLen_le_iff n 6).2 J;have h:=By Wj (.inl U) n J b Uq g i O9 n l.toArray 0 n (Go.Sort.bitsLen n) (by simp[a]) J J (Z6 _) J (.inl U);dsimp only[Wj] at h;have f:=FN O9 I2 l;rw[<-a] at f;have e:(λx y:Int×Int=>!ψ Uq y x)=XZ:=rfl;rw[f,e] at h;rw[<-c,<-a];clear f e;have w:(l.map Zb).length=n:=by rw[X2,a]
 refine Μ.body Ο func173 U U ntmps173 U U Ω ?_;have j:=Yi (show n<2 ^ 62 by omega);have Ρ:IntKind.u64.wrap (n:Int)=n:=Qu J;have k:=a.symm;refine Ι k ?_;(repeat apply Ν);refine YZ λA m=>?_;simp;(repeat (rw[Θ];simp[j,Ρ]));refine Κ.d (QR n J) (Z9 ?_);refine Μ.call (first:=[]) (captured:=[]) (h.mono (λr s ⟨o,t⟩=>?_) (λ_ _ h=>h.elim));subst o;subst t;simp;(repeat (rw[Θ];simp));apply m;exact W.nil ⟨_,U,U,U⟩
theorem r6:∀k,k<3->0<=(Yt k).2/\(Yt k).2<(Yt k).1/\(Yt k).1<=2:=ZT
theorem FM {s:ω} (h:W0 s) (p:Int×Int) (c:Nat):(Wk s p c).length<=49:=by
 have a:=FP (λr=>s.R4 p r c) s.χ.length (s.χ.length+1) 0;rw[IZ] at a;have b:=h.χ.hi;have d:(s.χ.length+1)*(s.χ.length+1)<=7*7:=Nz J J;unfold Wk;exact Nat.le_trans a (by omega)
theorem r5 {l:List (List Zu)} (h:∀c∈l,c.length<=49) (a:Int) (i:Nat):WG l a i<=49 ^ i:=by
 induction i with
 | zero=>simp[WG]
 | succ i b=>
  rw[Lu,Nat.pow_succ];refine Nz b ?_;split
  .omega
  .cases d:l[i]? with
   | none=>simp
   | some c=>simpa using h c (Y1 d)
theorem H6 {s:ω} (h:W0 s) (p:Int×Int):∀c∈(X6 s p).cells,c.length<=49:=λc a=>by
 obtain⟨i,_,rfl⟩:=YO.1 a;exact FM h p i
theorem KZ {s:ω} (h:W0 s) (p:Int×Int) (a:Int) {i:Nat} (hi:i<=s.cells.length):WG (X6 s p).cells a i<=5764801:=by
 have:=h.many;exact XQ (r5 (H6 h p) a i) (XQ (Mi ZT (show i<=4 by omega)) ZT)
theorem r4 {s:ω} (h:W0 s):F9 49 s where
 small:=h.small
 χ:=by have:=h.χ.hi;omega
 lit c a x b:=((h.cells c a).each x b).1
 reads k _ c _:=FM h _ c
 many k _ i hi:=by have:=KZ h (Yt k) (-1) hi;omega
theorem rZ {s:ω} (h:W0 s):@SV Ue s (Y' s):=Cl ZT (λc=>@r7 c) (r4 h)
theorem H5 {s:ω} {f:Found}:f∈Y' s↔∃k,k<3/\0<(X6 s (Yt k)).many (-1)/\f=X6 s (Yt k):=by
 unfold Y';rw[List.mem_filterMap];constructor
 .rintro⟨k,a,h⟩;unfold VS at h;split at h
  .rename_i b;exact⟨k,b.1,b.2,(WW h).symm⟩
  .cases h
 .rintro⟨k,a,c,rfl⟩;exact⟨k,UT.2 a,by unfold VS;rw[if_pos ⟨a,c⟩]⟩
theorem PB (s:ω):(Y' s).length<=3:=by
 unfold Y';exact XQ (HU _ _) Ω
theorem Bx {s:ω} (p:Int×Int):(X6 s p).many (-1)=WG (X6 s p).cells (-1) s.cells.length:=by
 unfold Found.many;simp[X6]
theorem rY {s:ω} (p:Int×Int) {c:Nat} (a:c<s.cells.length):WG (X6 s p).cells (-1) (c+1)=WG (X6 s p).cells (-1) c*(Wk s p c).length:=by
 rw[Lu,if_neg J];have:(X6 s p).cells[c]?=some (Wk s p c):=by
  unfold X6;simp[a]
 rw[this];rfl
theorem FL (l:ZZ) (n:Int) (a:l.length<2 ^ 62):Κ prog 112 [δ I 1 l,I n] (ν (l.contains n)):=
 (xL l n a).mono (λ_ _ ⟨b,c⟩=>⟨.of b,c⟩) (λ_ _ h=>h)
end Go.TL
namespace Go.TL
open Go.Proofs.Tryz
open Go.Conc
variable [ZP]
inductive NP (id:Nat):Ψ->Ψ->Prop where
 | same (a:Ψ):NP id a a
 | nil {k:Nat}:NP id (.sl true k []) (.ms id 0 0 0)
def NO (id:Nat) (r r':Row):Prop:=r'=r\/∃t n es es',r=.cells t n es/\r'=.cells t n es'/\es'.length=es.length/\
 ∀(i:Nat) (e b:Ψ),es[i]?=some e->es'[i]?=some b->b.cells.length=e.cells.length/\∀(x:Nat) (a c:Ψ),e.cells[x]?=some a->b.cells[x]?=some c->NP id a c
section
variable {P:Program} {S:κ} {B:Z5} {H:Τ} {σ σ':Ξ} {m nt k:Nat} {t:TypeId} {kk:Zz} {env:Β} {Z:XO} {E:Ya}
theorem Zm.pad (g:B.length=σ.length) (i:σ'.length=σ.length) (b:∀(j:Nat) (r:Row),σ[j]?=some r->∃r',σ'[j]?=some r'/\NO σ.length r r'):Zm S S B (B++[none]) σ (σ'++[.cells t k []]):=
 ⟨λ_ _ _ h=>h,λj r a=>by
  have l:=(Zo.1 a).1;obtain⟨r',c,d⟩:=b j r a;have e:(B++[none])[j]?=B[j]?:=Yz J;refine⟨r',by rw[Yz J];exact c,?_⟩;rw[e];rcases d with rfl|⟨t,n,es,es',rfl,rfl,f,_⟩
  .exact Row.Qa _ _
  .exact .inl ⟨es',U,f,U⟩⟩
theorem υ.Bw (i:B.length=σ.length) (j:σ'.length=σ.length) (l:Zm S S B (B++[none]) σ (σ'++[.cells t k []])) {a c:Ψ} (h:NP σ.length a c) {v:Value} (d:υ S B σ a v):υ S (B++[none]) (σ'++[.cells t k []]) c v:=by
 cases h with
 | same=>exact d.later l
 | nil=>
  have e:(σ'++[Row.cells t k []])[σ.length]?=some (.cells t k []):=by rw[<-j];simp
  have f:(B++[none])[σ.length]?=some none:=by rw[<-i];simp
  cases d with
  | VY base cap g=>
   obtain rfl:=g U;exact .ms 0 e U f (Z6 _) (Z6 _) (.inl U)
  | sl b o cap w g=>
   obtain rfl:cap=0:=g U;exact .ms 0 e U f (Z6 _) (Z6 _) (.inl U)
theorem W.pad (t:TypeId) (k:Nat) (L:σ'.length=σ.length) (V:∀(j:Nat) (r:Row),σ[j]?=some r->∃r',σ'[j]?=some r'/\NO σ.length r r') (env':Β) (az:∀p∈env',NP σ.length (Z3 env p.1) p.2)
  (aA:W P m nt kk env' (σ'++[.cells t k []]) Z E):W P m nt kk env σ Z E:=by
 intro aB mn x cs b S B H ZS M g O aC aD;have f:=O.holds;have Q:=f.len;have R:Zm S S B (B++[none]) σ (σ'++[.cells t k []]):=Zm.pad Q L V;have ao:∀j,j<σ.length->(σ'++[Row.cells t k []])[j]?=σ'[j]?:=λj h=>Yz J;have l:∀j,j<σ.length->(B++[none])[j]?=B[j]?:=λj h=>Yz J;have back:∀j r',j<σ.length->(σ'++[Row.cells t k []])[j]?=some r'->∃r,σ[j]?=some r/\NO σ.length r r':=λj r' s h=>by
  rw[ao j s] at h;obtain⟨ap,d,X⟩:=V j _ (Z7 s);rw[h] at d;cases d;exact⟨_,Z7 s,X⟩
 have Y:∀{r r':Row},NO σ.length r r'->r'.live->r.live:=λ{r r'} h hv=>by
  rcases h with rfl|⟨_,_,_,_,rfl,rfl,_⟩
  .exact hv
  .trivial
 have low:∀j y,(B++[none])[j]?=some (some y)->j<σ.length:=λj y h=>by
  have d:=(Zo.1 h).1;simp at d;by_cases e:j=B.length
  .subst e;simp at h
  .omega
 have aE:Holds S (B++[none]) (σ'++[.cells t k []]) H:=by
  refine⟨f.Yy,by simp;omega,λj r bo c u=>?_,λi j aF aG b aH aI aJ hi s aK aL aa ab=>?_,λj r b N c aM g o=>?_⟩
  .by_cases e:j<σ.length
   .rw[l j e] at u;obtain⟨aN,d,X⟩:=back j r e c;have T:=f.row j aN bo d u;rcases X with rfl|⟨t2,n,es,es',rfl,rfl,ad,aO⟩
    .refine T.later R (λb N _=>⟨λ_=>rfl,U,U⟩) λae left a5 Ρ=>?_;subst Ρ;obtain⟨_,_,a6,a7,xs,a8,seen,_,aq,⟨es,A⟩,_⟩:=T;have ar:=(Zo.1 A).1;refine⟨?_,l ae ar,λb N _=>⟨λ_=>rfl,U,U⟩⟩;obtain⟨r',aP,aQ⟩:=V ae _ A;rcases aQ with rfl|⟨_,_,_,_,aR,_⟩
     .rw[ao ae ar,aP,A]
     .cases aR
    .cases bo with
     | none=>
      have:es=[]:=T;subst this;exact YA.1 ad
     | some y=>
      obtain⟨b,N⟩:=y;obtain⟨C,D,F,w,I⟩:=T;refine⟨C,by rw[ad];exact D,F,w,λi aS hi=>?_⟩;have au:i<es.length:=by rw[<-ad];exact(Zo.1 hi).1
      obtain⟨aT,aU⟩:=I i _ (Z7 au);obtain⟨d1,d2⟩:=aO i _ aS (Z7 au) hi;refine⟨d1.trans aT,λx aV M=>?_⟩;have av:x<(es[i]).cells.length:=by rw[<-d1];exact(Zo.1 M).1
      obtain⟨aq,A,aW⟩:=aU x _ (Z7 av);exact⟨aq,A.Bw Q L R (d2 x _ aV (Z7 av) M),aW⟩
   .have d:=(Zo.1 c).1;simp at d;have aX:j=σ'.length:=J;subst aX;rw[L,<-Q] at u;simp at c u;subst c;subst u;rfl
  .have aw:=low i _ aa
   have K:=low j _ ab;obtain⟨af,ag,ah⟩:=back i aF aw hi;obtain⟨ap,aY,aZ⟩:=back j aG K s;rw[l i aw] at aa;rw[l j K] at ab;exact f.inj i j af ap b aH aI aJ ag aY (Y ah aK) (Y aZ aL) aa ab
  .have K:=low j _ g;obtain⟨af,ag,ah⟩:=back j r K c;rw[l j K] at g;exact f.sep j af b N ag (Y ah aM) g o
 have a0:Ext S B H S (B++[none]) H:=(f.push (r:=.cells t k []) (bo:=none) (λb N h=>by cases h) (λb _=>⟨λ_=>rfl,U,U⟩) (λ_=>rfl)).2.1
 have ax:XE m S B H σ S (B++[none]) H (σ'++[.cells t k []]):=⟨a0,R.left m⟩
 have a1:∀(l2:Β),(∀p∈l2,NP σ.length (Z3 env p.1) p.2)->∀i,υ S B σ (Z3 env i) (ZS.getD i undef)->υ S (B++[none]) (σ'++[.cells t k []]) (Z3 l2 i) (ZS.getD i undef):=by
  intro l2
  induction l2 with
  | nil=>intro _ i _;exact .Ze _
  | cons p l2 a2=>
   intro ay i c;simp only[Z3];split
   .rename_i e;subst e;exact c.Bw Q L R (ay p Ω)
   .exact a2 (λq a3=>ay q (by simp[a3])) i c
 refine aA aB mn x cs b _ _ H ZS M g ⟨aE,λi=>a1 env' az i (O.Y7 i),O.size,by have:=O.rows;simp;omega⟩ (λj ai aj ak al am t2 an C D F I=>?_) (λa ai aj ak al am t2 an v C D F I a4=>?_)
 .exact aC j ai aj ak al am t2 an C (ax.trans D) F I
 .exact aD a ai aj ak al am t2 an v C (ax.trans D) F I a4
theorem W.Bv (t:TypeId) (k:Nat) {i:Nat} {r r':Row} (hi:σ[i]?=some r) (b:NO σ.length r r') (env':Β) (c:∀p∈env',NP σ.length (Z3 env p.1) p.2) (d:W P m nt kk env' (σ.set i r'++[.cells t k []]) Z E):W P m nt kk env σ Z E:=
 W.pad t k Ω (λj q a=>by
  by_cases e:j=i
  .subst e;rw[hi] at a;cases a;exact⟨r',by rw[V0 (Zo.1 hi).1],b⟩
  .exact⟨q,by rw[Vp (YF e)];exact a,.inl U⟩) env' c d
end
end Go.TL
namespace Go.TL
open Go.Proofs.Tryz
open Go.Proofs
variable [ZP]
theorem Bu (s:ω) (g:Int) (c:g<s.χ.length):Κ prog 134 [Zq s,I g] (I (s.of g)):=by
 refine Μ.body Ο func134 U U ntmps134 U U Ω ?_;refine Χ ?_;refine W.YH U (λa=>?_) (λa=>?_)
 .have a:g<0:=by simpa using a
  refine Χ ?_;refine W.ZA ?_;rw[show s.of g=0 by simp[ω.of,a]];rfl
 .have a:¬g<0:=by simpa using a
  obtain⟨n,rfl⟩:∃n:Nat,g=n:=⟨g.toNat,J⟩;have b:n<s.χ.length:=J;refine Ι b ?_;refine W.ZA ?_;rw[show s.of n=s.χ[n].YJ by simp[ω.of,b];intro h;omega];rfl
theorem rX (s:ω) (m:s.small) (p r:Int×Int) (n:Nat) (e:n<s.θ.length) (o:r.1<s.χ.length) (t:r.2<s.χ.length) :
  Κ prog 98 [Zq s,δ I 1 [p.1,p.2],δ I 1 [r.1,r.2],I n] (I (s.XS p r n)):=by
 have f:=Z7 e
 have g:s.θ[n].length<2 ^ 62:=by have:=m.2.2.2.1 _ (Yx e);omega
 obtain⟨L,k⟩:=Ε (s.θ[n]);rw[<-k] at f g;have l:∀h,s.θ[n]'h=L:=λh=>k.symm;have hv:s.XS p r n=if L.contains p.2 then Ur (if L.contains p.1 then Ur 0 (s.of r.1) else 0) (s.of r.2) else(if L.contains p.1 then Ur 0 (s.of r.1) else 0):=by unfold ω.XS;rw[f];rfl
 refine Μ.body Ο func98 U U ntmps98 U U Ω ?_;refine Χ ?_;refine W.iter (λq:Nat×Int=>q.1<=2/\(q.1=0->q.2=0)/\(q.1=1->q.2=if L.contains p.1 then Ur 0 (s.of r.1) else 0)/\(q.1=2->q.2=s.XS p r n))
  (λq=>[(1,δ I 1 [p.1,p.2]),(2,δ I 1 [r.1,r.2]),(3,I n),(4,ZV s),(9,I q.2),(10,I q.1)]) (λ_=>[]) (λq=>2-q.1) (0,0) ⟨J,Ω,Ω,Ω⟩ U Ω (λq hi a=>?_)
 rcases q with⟨i,x⟩
 match i,hi,a with
 | 0,hi,a=>
  have c:x=0:=hi.2.1 U;subst c;refine Χ ?_;refine Ζ U ?_
  repeat apply Ν
  refine W.draw (A:=[]) Ο mixed λj d=>V8 (Υ f (Υ l e)) ?_;refine Zc (Κ.q (FL L p.1 g)) (Xa ?_);refine Zf (d _ _ ?_);by_cases b:p.1∈L
  .refine Ζ (by simp[b]) ?_
   repeat apply Ν
   refine W.draw (A:=[]) Ο mixed λj d=>Xa ?_;refine Zc (Κ.q (Bu s r.1 o)) (Xa ?_);refine Zf (d _ _ ?_);refine Χ ?_;refine W.forget _ ?_ (a (1,Ur 0 (s.of r.1)) ⟨Ω,Ω,by simp[b],Ω⟩ Ω);simp[PT]
  .refine Η (by simp[b]) ?_;refine Χ ?_;refine W.forget _ ?_ (a (1,0) ⟨Ω,Ω,by simp[b],Ω⟩ Ω);simp[PT]
 | 1,hi,a=>
  have c:=hi.2.2.1 U;simp at c;refine Χ ?_;refine Ζ U ?_
  repeat apply Ν
  refine W.draw (A:=[]) Ο mixed λj d=>V8 (Υ f (Υ l e)) ?_;refine Zc (Κ.q (FL L p.2 g)) (Xa ?_);refine Zf (d _ _ ?_);by_cases b:p.2∈L
  .refine Ζ (by simp[b]) ?_
   repeat apply Ν
   refine W.draw (A:=[]) Ο mixed λj d=>Xa ?_;refine Zc (Κ.q (Bu s r.2 t)) (Xa ?_);refine Zf (d _ _ ?_);refine Χ ?_;refine W.forget _ ?_ (a (2,Ur x (s.of r.2)) ⟨Ω,Ω,Ω,λ_=>by rw[hv];simp[b,c]⟩ Ω);simp[Oa]
  .refine Η (by simp[b]) ?_;refine Χ ?_;refine W.forget _ ?_ (a (2,x) ⟨Ω,Ω,Ω,λ_=>by rw[hv];simp[b,c]⟩ Ω);simp[Oa]
 | 2,hi,a=>
  have c:=hi.2.2.2 U;refine Χ ?_;refine Η U ?_;refine W.exit U ?_;refine Χ ?_;refine W.ZA ?_;rw[<-show x=s.XS p r n from c];rfl
 | i+3,hi,a=>exact absurd hi.1 Ω
theorem rW (s:ω) (h:W0 s) (p r:Int×Int) {c:List YV} (b:c∈s.cells) {x:YV} (e:x∈c) (f:r.1<s.χ.length) (g:r.2<s.χ.length) :
  Κ prog 158 [Zq s,δ I 1 [p.1,p.2],δ I 1 [r.1,r.2],Zi x] (ν (s.VH p r x)):=by
 obtain⟨k,l,m,o⟩:=(h.cells c b).each x e;have hv:=rX s h.small p r x.YX.toNat J f g;rw[show((x.YX.toNat:Nat):Int)=x.YX by omega] at hv;rw[<-sk h p r b e];unfold ω.FQ;obtain⟨n,i⟩:=Ε (s.XS p r x.YX.toNat);rw[<-i] at hv ⊢;refine Μ.body Ο func158 U U ntmps158 U U Ω ?_;refine Χ ?_;refine Z8 λt j=>?_;refine Κ.d (hv) (Z9 ?_);apply j;by_cases a:UM n x.seen=x.seen
 .refine Ι a ?_;refine W.ZA ?_;simp[a]
 .refine Ι a ?_;refine W.ZA ?_;simp[a]
def NN:List (ZZ):=[[1,0],[2,0],[2,1]]
theorem rV:Κ prog 138 [] (ZM NN):=by
 refine Μ.body Ο func138 U U ntmps138 U U Ω ?_;refine Χ ?_;refine .loop ?_;refine Χ ?_;refine Ζ U ?_;refine Χ ?_;refine .loop ?_;refine Χ ?_;refine Η U ?_;refine W.exit U ?_;refine Ι @PT ?_;refine .inLoop ?_;refine Χ ?_;refine Ζ U ?_;refine Χ ?_;refine .loop ?_;refine Χ ?_;refine Ζ U ?_
 repeat apply Ν
 refine YY (A:=[18]) Ο λc b=>Z9 ?_;apply b;refine Ι @PT ?_;refine .inLoop ?_;refine Χ ?_;refine Η U ?_;refine W.exit U ?_;refine Ι @Oa ?_;refine .inLoop ?_;refine Χ ?_;refine Ζ U ?_;refine Χ ?_;refine .loop ?_;refine Χ ?_;refine Ζ U ?_
 repeat apply Ν
 refine YY (A:=[18]) Ο λc b=>Z9 ?_;apply b;refine Ι @PT ?_;refine .inLoop ?_;refine Χ ?_;refine Ζ U ?_
 repeat apply Ν
 refine YY (A:=[18]) Ο λc b=>Z9 ?_;apply b;refine Ι @Oa ?_;refine .inLoop ?_;refine Χ ?_;refine Η U ?_;refine W.exit U ?_;refine Ι @DG ?_;refine .inLoop ?_;refine Χ ?_;refine Η U ?_;refine W.exit U ?_;refine W.cut 0 (Α _) [(1,.sl false 1 [Yu [1,0],Yu [2,0],Yu [2,1]])] (Α _) (λid r h=>absurd h (Qi _)) (λq d=>by
  simp only[Y9,Yb,or_false] at d;subst d;exact .own (t:=29) (Α _) U U (λe g a i=>by
   simp at g;rcases g with rfl|rfl|rfl<;>simp[Ψ.cells] at i<;>subst i<;>simp)) ?_
 rw[List.take_zero];refine Χ ?_;refine W.ret ⟨_,U,?_,U⟩;exact .map (f:=Yu) (l:=NN) λr _=>.one .ex U U
theorem rU (s:ω) (h:W0 s) (p:Int×Int) (c:Nat) (o:c<s.cells.length) :
  Κ prog 139 [Zq s,δ I 1 [p.1,p.2],I c] (ZM (Um (Wk s p c))):=by
 have u:=Z7 o
 have K:=Yx o
 have ar:=h.χ.hi;obtain⟨a,y⟩:=Ε (s.cells[c]);have ae:∀r,s.R4 p r c=a.all (s.VH p r):=λr=>by unfold ω.R4;rw[u,y];rfl
 rw[<-y] at u K;have B:∀h,s.cells[c]'h=a:=λh=>y.symm;have au:a.length<=4:=(h.cells a K).hi;clear y;obtain⟨n,v⟩:=Ε s.χ.length;obtain⟨q,T⟩:=Ε (λr=>s.R4 p r c:Int×Int->Bool);refine Μ.body Ο func139 U U ntmps139 U U Ω ?_
 repeat apply Ν
 refine Xh ?_
 repeat apply Ν
 refine Xh ?_;refine W.pad 29 1 (σ':=[]) U (λj r h=>⟨r,h,.inl U⟩) [(1,δ I 1 [p.1,p.2]),(2,I c),(3,ZV s),(7,.ms 0 0 0 0)] (λz w=>by
  simp only[Y9,Yb,or_false] at w;rcases w with rfl|rfl|rfl|rfl
  .exact .same _
  .exact .same _
  .exact .same _
  .exact .nil) ?_
 rw[List.nil_append];refine Χ ?_;refine W.iter (λi:Nat=>i<=n+1) (λi=>[(1,δ I 1 [p.1,p.2]),(2,I c),(3,ZV s),(7,.ms 0 (Xo q n i 0).length 0 (Xo q n i 0).length),(8,I ((i:Int)-1))])
  (λi=>[.cells 29 1 ((Xo q n i 0).map Ρ)]) (λi=>n+1-i) 0 (Α _) (by rw[Ls];rfl) (by rw[Ls];simp) (λi hi af=>?_)
 by_cases av:i<n+1
 .have L:(i:Int)-1<(n:Int):=J
  have V:=Yi (show i<2 ^ 62 by omega);(repeat (first|apply Ν|(refine YZ λM g=>?_;simp;(repeat (rw[Θ];simp[v.symm,L]));apply g)));refine Ζ Ω ?_;refine Χ ?_;refine W.iter (λj:Nat=>j<=n+1) (λj=>[(1,δ I 1 [p.1,p.2]),(2,I c),(3,ZV s),(7,.ms 0 (Xo q n i j).length 0 (Xo q n i j).length),(8,I ((i:Int)-1)),(9,I ((j:Int)-1))])
   (λj=>[.cells 29 1 ((Xo q n i j).map Ρ)]) (λj=>n+1-j) 0 (Α _) U Ω (λj aw C=>?_)
  by_cases ax:j<n+1
  .have N:(j:Int)-1<(n:Int):=J
   have D:=Yi (show j<2 ^ 62 by omega)
   have e:=GN (q:=q) (n:=n) (i:=i) (j:=j)
   have ag:(Xo q n i j).length<=200:=by
    have ay:=FP q n i j
    have az:i*(n+1)<=7*7:=Nz J J;omega
   have C:=C (j+1) J J;obtain⟨r,O⟩:=Ε (((i:Int)-1,(j:Int)-1):Int×Int);have P:(i:Int)-1=r.1:=by rw[O]
   have Q:(j:Int)-1=r.2:=by rw[O]
   have ah:r.1<s.χ.length:=J
   have ai:r.2<s.χ.length:=J
   have aj:q r=a.all (s.VH p r):=by rw[T];exact ae r
   rw[<-O] at e;obtain⟨d,ak⟩:=Ε (Xo q n i j);rw[<-ak] at e ag ⊢;(repeat (first|apply Ν|(refine YZ λM g=>?_;simp;(repeat (rw[Θ];simp[v.symm,N]));apply g)));refine Ζ Ω ?_;refine Χ ?_;refine W.iter (λk:Nat=>k<=a.length) (λk=>[(1,δ I 1 [p.1,p.2]),(2,I c),(3,ZV s),(7,.ms 0 d.length 0 d.length),(8,I r.1),(9,I r.2),(10,ν ((a.take k).all (s.VH p r))),(11,I k)])
    (λk=>[.cells 29 1 (d.map Ρ)]) (λk=>a.length-k) 0 (Α _) U (by simp[P,Q]) (λk aA l=>?_)
   by_cases m:k<a.length
   .have R:(k:Int)<(a.length:Int):=J
    have X:=X3 (i:=k) J
    have S:=Z7 m;obtain⟨x,E⟩:=Ε (a[k]);have al:x∈a:=E▸Yx m;rw[<-E] at S;have Y:∀h,a[k]'h=x:=λh=>E.symm;have am:(a.take (k+1)).all (s.VH p r)=((a.take k).all (s.VH p r)&&s.VH p r x):=by
     rw[Ws m,List.all_append,<-E];simp
    have l:=l (k+1) J J;rw[am] at l;have Z:=rW s h p r K al ah ai;obtain⟨b,F⟩:=Ε ((a.take k).all (s.VH p r));rw[<-F] at l ⊢;obtain⟨f,an⟩:=Ε (s.VH p r x);rw[<-an] at l Z;refine Ι (Υ u (Υ B (Υ o R))) ?_;refine Ζ (by simp[m]) ?_
    repeat apply Ν
    refine W.Uo (A:=[]) Ο mixed [(1,δ I 1 [p.1,p.2]),(2,I c),(3,ZV s),(7,.ms 0 d.length 0 d.length),(8,I r.1),(9,I r.2),(10,ν (b&&f)),(11,I k)] [.cells 29 1 (d.map Ρ)] ?_ (by
     cases b with
     | false=>
      simp;(repeat (rw[Z1];simp[u,B,o,m,S,Y]));(try rw[Z2]);refine⟨Yq Zr,?_⟩;simp
     | true=>
      simp;(repeat (rw[Z1];simp[u,B,o,m,S,Y]));(try rw[Z2]);refine Zc (Κ.p Z (.cons (.refl _) (.cons (.refl _) (.cons .ex (.cons (.refl _) .nil)))) Ω Ω) ?_;simp;(repeat (rw[Z1];simp));(try rw[Z2]);refine⟨Yq Zr,?_⟩;simp)
    refine Ι X ?_;exact W.to l U (by simp[X])
   have R:¬(k:Int)<(a.length:Int):=J;clear l;rw[VP J,<-aj];refine Ι (Υ u (Υ B (Υ o R))) ?_;refine Η (by simp[m]) ?_;refine W.exit U ?_;refine Χ ?_;cases aa:q r
   .refine Η U ?_;rw[<-Q] at *;refine Ι D ?_;rw[aa] at e;refine W.to C ?_ ?_
    .rw[e];simp
    .rw[e];simp[D,P]
   .refine Ζ U ?_;rw[aa] at e;have ab:(d.map Ρ).length=d.length:=Ω;have F:d.length<=4294967295:=J
    repeat apply Ν
    refine W.Xq (A:=[59]) Ο [(1,δ I 1 [p.1,p.2]),(2,I c),(3,ZV s),(7,.ms 0 (d.length+1) 0 (d.length+1)),(8,I r.1),(9,I r.2)] [.cells 29 1 (d.map Ρ++[Ρ r])] ?_ (by
     (try simp);(repeat (rw[Θ];simp[ab,F]));(try simp[ab,F]))
    rw[<-Q];refine Ι D ?_;refine W.to C ?_ ?_
    .rw[e];simp
    .rw[e];simp[D,P]
  .have ao:j=n+1:=J
   subst ao;have N:¬((n+1:Nat):Int)-1<(n:Int):=J;(repeat (first|apply Ν|(refine YZ λM g=>?_;simp;(repeat (rw[Θ];simp[v.symm,N]));apply g)));refine Η Ω ?_;refine W.exit U ?_;refine Ι V ?_;refine W.to (af (i+1) J J) ?_ ?_
   .rw[Lr]
   .rw[Lr];simp[V]
 .have ap:i=n+1:=J
  subst ap;have L:¬((n+1:Nat):Int)-1<(n:Int):=J;obtain⟨H,ad⟩:=Ε (Wk s p c);have aq:Xo q n (n+1) 0=H:=by rw[IZ,ad,T,v];rfl
  rw[aq,<-ad];(repeat (first|apply Ν|(refine YZ λM g=>?_;simp;(repeat (rw[Θ];simp[v.symm,L]));apply g)));refine Η Ω ?_;refine W.exit U ?_;refine W.cut 0 (Α _) [(7,.sl false 1 (H.map Ρ))] (Α _) (λid r h=>absurd h (Qi _)) (λz w=>by
   simp only[Y9,Yb,or_false] at w;subst w;exact .own (t:=29) (Α _) U Ω H7) ?_
  rw[List.take_zero];refine Χ ?_;refine W.ret ⟨_,U,?_,U⟩;show YR (.sl false 1 (H.map Ρ)) (.sl false 1 ((Um H).map (δ I 1)));rw[Ra];exact .map λr _=>.one .ex U U
abbrev PA (f:Found):Ψ:=.ZW [δ I 1 [f.u,f.v],FO (f.cells.map Um)]
abbrev VA (F:Zj):Ψ:=δ PA 2 F
theorem Bt (f:Found) (b:Int) (j:f.cells.length<2 ^ 62) (k:∀i,i<=f.cells.length->WG f.cells b i<2 ^ 62) :
  Κ prog 114 [PA f,I b] (I (f.many b)):=by
 refine Μ.body Ο func114 U U ntmps114 U U Ω ?_;refine Χ ?_;refine W.iter (λi:Nat=>i<=f.cells.length) (λi=>[(1,I b),(2,.ξ [δ I 1 [f.u,f.v],FO (f.cells.map Um)]),(5,I (WG f.cells b i)),(6,I i)]) (λ_=>[]) (λi=>f.cells.length-i) 0 (Α _) U (by simp[WG]) (λi hi e=>?_);refine Χ ?_;refine W.YH U (λa=>?_) (λa=>?_)
 .have a:i<f.cells.length:=by simpa using a
  have d:=Lu f.cells b i
  have h:=k (i+1) a
  have c:=Yn a j;refine Ι a ?_;by_cases g:(i:Int)=b
  .refine Η (by simp[g]) ?_;refine Ι c ?_;refine W.forget _ ?_ (e (i+1) a J);rw[d,if_pos g];simp[c]
  .refine Ζ (by simp[g]) ?_;have hv:WG f.cells b i*f.cells[i].length<2 ^ 62:=by rw[d,if_neg g] at h;simpa[a] using h
   refine Ι (Υ a c) ?_;refine W.forget _ ?_ (e (i+1) a J);rw[d,if_neg g];simp only[Z7 a,Option.getD_some];have:=Yi hv;simp[c] at this ⊢;simp[this]
 .have a:i=f.cells.length:=by simp at a;omega
  subst a;refine W.exit U ?_;refine Χ ?_;refine W.rt ?_;exact .of U
def SO (s:ω) (i:Nat):Zj:=(List.range i).filterMap (VS s)
theorem rT (s:ω) (i:Nat):(SO s i).length<=i:=by
 unfold SO;exact XQ (HU _ _) Ω
theorem rS {s:ω} {i:Nat} (hi:i<3) (h:0<(X6 s (Yt i)).many (-1)):SO s (i+1)=SO s i++[X6 s (Yt i)]:=by
 unfold SO;rw[UB,Mj];have:VS s i=some (X6 s (Yt i)):=by unfold VS;rw[if_pos ⟨hi,h⟩]
 simp[this]
theorem rR {s:ω} {i:Nat} (h:¬0<(X6 s (Yt i)).many (-1)):SO s (i+1)=SO s i:=by
 unfold SO;rw[UB,Mj];have:VS s i=none:=by unfold VS;rw[if_neg (λq=>h q.2)]
 simp[this]
theorem rQ:∀i,i<3->NN[i]?=some [(Yt i).1,(Yt i).2]/\∀h,NN[i]'h=[(Yt i).1,(Yt i).2]:=λi hi=>by
 match i with
 | 0=>exact⟨rfl,λ_=>rfl⟩
 | 1=>exact⟨rfl,λ_=>rfl⟩
 | 2=>exact⟨rfl,λ_=>rfl⟩
theorem Bs {L:Zj}:∀e∈L.map PA,∀a∈e.cells,ς 0 a:=λe c a b=>by
 obtain⟨x,_,rfl⟩:=YO.1 c;simp[Ψ.cells] at b;rcases b with rfl|rfl<;>simp[YD,Ψ.cells]
theorem FK (s:ω) (h:W0 s):Κ prog 113 [Zq s] (VA (Y' s)):=by
 have aC:=h.many;obtain⟨n,T⟩:=Ε s.cells.length;refine Μ.body Ο func113 U U ntmps113 U U Ω ?_
 repeat apply Ν
 refine Xh ?_
 repeat apply Ν
 refine Xh ?_;refine W.pad 147 2 (σ':=[]) U (λj r h=>⟨r,h,.inl U⟩) [(1,ZV s),(3,.ms 0 0 0 0)] (λz f=>by
  simp only[Y9,Yb,or_false] at f;rcases f with rfl|rfl
  .exact .same _
  .exact .nil) ?_
 rw[List.nil_append];refine Z8 λO g=>?_;refine Κ.d (rV) (Z9 ?_);apply g;refine Χ ?_;refine W.iter (λi:Nat=>i<=3) (λi=>[(1,ZV s),(3,.ms 0 (SO s i).length 0 (SO s i).length),(4,ZM NN),(5,I i)])
  (λi=>[.cells 147 2 ((SO s i).map PA)]) (λi=>3-i) 0 ZT U (by simp[SO]) (λi hi o=>?_)
 have ak:=rT s i;by_cases F:i<3
 .obtain⟨H,K⟩:=rQ i F;have al:=r6 i F;have L:=rR (s:=s) (i:=i);have M:=rS (s:=s) F;have o:=o (i+1) F J;have P:=X3 (i:=i) J;obtain⟨p,am⟩:=Ε (Yt i);rw[<-am] at H K al L M;have V:=Bt (X6 s p) (-1) (by simp[X6];omega) (λk an=>by have:=KZ h p (-1) (i:=k) (by simpa[X6] using an);omega);have ao:(X6 s p).cells.map Um=(List.range n).map λc=>Um (Wk s p c):=by rw[T];simp[X6]
  obtain⟨D,aa⟩:=Ε NN;have E:D.length=3:=by rw[aa];rfl
  obtain⟨b,ap⟩:=Ε (SO s i);rw[<-aa] at H K o ⊢;rw[<-ap] at ak L M ⊢;have ab:(i:Int)<3:=J;refine Ι (Υ E ab) ?_;refine Ζ Ω ?_
  repeat apply Ν
  refine W.Xq (A:=[6]) Ο [(1,ZV s),(3,.ms 0 b.length 0 b.length),(4,ZM D),(5,I i),(6,.Δ 1 1 0 0)] [.cells 147 2 (b.map PA),.cells 147 2 [.ZW [δ I 1 [p.1,p.2],.sl true 0 []]]] ?_ (by
   (try simp);(repeat (rw[Θ];simp[H,K,E]));(try simp[H,K,E]);omega)
  have aq:NO 2 (.cells 147 2 [.ZW [δ I 1 [p.1,p.2],.sl true 0 []]]) (.cells 147 2 [.ZW [δ I 1 [p.1,p.2],.ms 2 0 0 0]]):=by
   refine .inr ⟨147,2,_,_,U,U,U,λi e aD m B=>?_⟩
   match i with
   | 0=>
    simp at m B;subst m;subst B;refine⟨U,λx a ar N Q=>?_⟩
    match x with
    | 0=>simp[Ψ.cells] at N Q;subst N;subst Q;exact .same _
    | 1=>simp[Ψ.cells] at N Q;subst N;subst Q;exact .nil
    | x+2=>simp[Ψ.cells] at N
   | i+1=>simp at m
  refine W.Bv 23 1 (i:=1) U aq [(1,ZV s),(3,.ms 0 b.length 0 b.length),(4,ZM D),(5,I i),(6,.Δ 1 1 0 0)] (λz f=>by
   simp only[Y9,Yb,or_false] at f;rcases f with rfl|rfl|rfl|rfl|rfl<;>exact .same _) ?_
  refine Χ ?_;refine W.iter (λc:Nat=>c<=n) (λc=>[(1,ZV s),(3,.ms 0 b.length 0 b.length),(4,ZM D),(5,I i),(6,.Δ 1 1 0 0),(7,I c)])
   (λc=>[.cells 147 2 (b.map PA),.cells 147 2 [.ZW [δ I 1 [p.1,p.2],.ms 2 c 0 c]],.cells 23 1 ((List.range c).map λc=>ZM (Um (Wk s p c)))]) (λc=>n-c) 0 (Α _) Ω Ω (λc aE C=>?_)
  by_cases aF:c<n
  .have au:c<s.cells.length:=J
   have ad:=rU s h p c au
   have X:(c:Int)<(n:Int):=J
   have ae:=X3 (i:=c) J
   have C:=C (c+1) J J;rw[UB,XA] at C;obtain⟨af,ag⟩:=Ε ((List.range c).map λc=>ZM (Um (Wk s p c)));have av:af.length=c:=by rw[ag];simp
   have aw:c<=4294967295:=J;rw[<-ag] at C ⊢;obtain⟨R,ah⟩:=Ε (Um (Wk s p c));simp only[WZ,TF,<-ah] at C;rw[<-ah] at ad;(repeat (first|apply Ν|(refine YZ λO g=>?_;simp;(repeat (rw[Θ];simp[T.symm,X]));apply g)));refine Ζ Ω ?_
   repeat apply Ν
   refine W.Uo (A:=[37]) Ο mixed [(1,ZV s),(3,.ms 0 b.length 0 b.length),(4,ZM D),(5,I i),(6,.Δ 1 1 0 0),(7,I c)] [.cells 147 2 (b.map PA),.cells 147 2 [.ZW [δ I 1 [p.1,p.2],.ms 2 (c+1) 0 (c+1)]],.cells 23 1 (af++[ZM R])] ?_ (by
    simp;(repeat (rw[Z1];simp[H,K,E,F,ab]));(try rw[Z2]);refine Zc (Κ.p ad (ZN.refl _) Ω Ω) ?_;simp;(repeat (rw[Z1];simp[av,aw]));(try rw[Z2]);refine⟨Yq Zr,?_⟩;simp)
   refine Ι ae ?_;exact W.to C U (by simp[ae])
  have X:¬(c:Int)<(n:Int):=J;obtain rfl:c=n:=J;clear C;(repeat (first|apply Ν|(refine YZ λO g=>?_;simp;(repeat (rw[Θ];simp[T.symm,X]));apply g)));refine Η Ω ?_;refine W.exit U ?_;refine W.cut 1 (Α _) [(1,ZV s),(3,.ms 0 b.length 0 b.length),(4,ZM D),(5,I i),(6,.ξ [δ I 1 [(X6 s p).u,(X6 s p).v],FO ((X6 s p).cells.map Um)])] Ω (λid r aG ai=>by
   obtain rfl:id=0:=J;simp at ai;subst ai;exact λe Y a S=>ς.mono (Bs e Y a S) (Α _)) (λz f=>by
   simp only[Y9,Yb,or_false] at f;rcases f with rfl|rfl|rfl|rfl|rfl
   .exact .low (by simp[Ψ.cells,YD])
   .exact .low (by simp[Tw])
   .exact .low (by simp[YD,Ψ.cells])
   .exact .low Ω
   .refine X'.struct (id:=1) (t:=147) (k:=2) (l:=[δ I 1 [p.1,p.2],.ms 2 c 0 c]) J U U (λy a ar m B=>?_)
    match y with
    | 0=>simp at m B;subst m;subst B;exact .low (by simp[Ψ.cells,YD])
    | 1=>
     simp at m B;subst m;subst B;rw[ao];exact .own (t:=23) J (by rw[Ra];rfl) Ω (λe Y a S=>by
      obtain⟨x,_,rfl⟩:=YO.1 Y;simp[Ψ.cells] at S;subst S;simp[YD,Ψ.cells])
    | y+2=>simp at m) ?_
  rw[List.take_succ_cons,List.take_zero];obtain⟨ax,ay⟩:=Ε (X6 s p);rw[<-ay] at V L M ⊢;obtain⟨w,az⟩:=Ε (ax.many (-1));rw[<-az] at V L M;refine Z8 λO g=>?_;refine Κ.d (V) (Z9 ?_);apply g;by_cases aj:0<w
  .have Z:=M aj;rw[Z] at o;refine Ζ (by simp;omega) ?_;have aA:(b.map PA).length=b.length:=Ω;have aB:b.length<=4294967295:=J
   repeat apply Ν
   refine YY (A:=[45]) Ο λO g=>XK (Υ aA aB) ?_;apply g;refine Ι P ?_;refine W.to o ?_ (by simp[P]);simp
  .have Z:=L aj;rw[Z] at o;refine Η (by simp;omega) ?_;refine Ι P ?_;exact W.to o U (by simp[P])
 obtain rfl:i=3:=J;clear o;have E:NN.length=3:=rfl;refine Ι E ?_;refine Η Ω ?_;refine W.exit U ?_;refine W.cut 0 (Α _) [(3,.sl false 2 ((SO s 3).map PA))] (Α _) (λid r h=>absurd h (Qi _)) (λz f=>by
  simp only[Y9,Yb,or_false] at f;subst f;exact .own (t:=147) (Α _) U Ω Bs) ?_
 rw[List.take_zero];refine Χ ?_;exact W.XL
def Vb (F:Zj) (right:Bool):Zj×Int:=if right=false then([],3) else if F=[] then([],9) else(F,0)
theorem H4 (s:ω) (h:W0 s) (right:Bool):Κ prog 80 [Zq s,ν right] (.ZY [VA (Vb (Y' s) right).1,I (Vb (Y' s) right).2]):=by
 refine Μ.body Ο func80 U U ntmps80 U U Ω ?_;refine Χ ?_;cases right
 .refine Ζ Ω ?_;refine Χ ?_;refine W.rt ?_;exact .ZY (.cons .nil (.cons (.refl _) .nil))
 refine Η Ω ?_;have g:=PB s;have c:=FK s h;generalize Y' s=F at *;refine Z8 λi f=>?_;refine Κ.d (c) (Z9 ?_);apply f;by_cases a:F=[]
 .subst a;refine Χ ?_;refine Ζ Ω ?_;refine Χ ?_;refine W.rt ?_;exact .ZY (.cons .nil (.cons (.refl _) .nil))
 .have b:¬F.length=0:=λe=>a (YA.1 e)
  have e:Vb F true=(F,0):=by unfold Vb;rw[if_neg Ω,if_neg a]
  rw[e];refine Ι b ?_;refine Η (by simp[b,a]) ?_;refine Χ ?_;exact W.XL
theorem FJ (s:ω) (c:s.small) (cell:Int):Κ prog 86 [Zq s,I cell] (ν (decide (0<=cell)&&decide (cell<s.cells.length))):=by
 have f:=c.2.2.1
 have a:IntKind.i64.wrap ((s.cells.length:Int)-1)=(s.cells.length:Int)-1:=IntWalk.i64_in _ J
 have b:=NS cell 0 ((s.cells.length:Int)-1);rw[show decide (cell<=(s.cells.length:Int)-1)=decide (cell<s.cells.length) by rw[decide_eq_decide];omega] at b;refine Μ.body Ο func86 U U ntmps86 U U Ω ?_;refine Χ ?_;refine XD a λg e=>?_;refine Κ.d (b) (XK a ?_);apply e;exact W.XL
theorem FI (lower:Bool):Κ prog 89 [ν lower] (I (if lower then 1 else 0)):=by
 refine Μ.body Ο func89 U U ntmps89 U U Ω ?_;refine Χ ?_;cases lower
 .refine Η U ?_;refine Χ ?_;refine W.rt ?_;exact .of U
 .refine Ζ U ?_;refine Χ ?_;refine W.rt ?_;exact .of U
structure NM (s:ω) (F:Zj) (lower:Bool) (N:Nat):Prop where
 Tr:F.length<2 ^ 20
 cells:∀f∈F,f.cells.length=s.cells.length/\∀c∈f.cells,c.length<2 ^ 20
 some:∀c,c<s.cells.length->X4 F c lower≠[]/\(X4 F c lower).length<=N
theorem NM.call {s:ω} {F:Zj} {lower:Bool} {N:Nat} (h:NM s F lower N) (d:N<2 ^ 20) (e:N5 N) {c:Nat} (a:c<s.cells.length):Κ prog 95 [Y3 F,I c,ν lower] (δ I 1 (X0 F c lower)):=
 Dw F c lower h.Tr (λf b=>⟨by rw[(h.cells f b).1];exact a,(h.cells f b).2⟩) N d e (h.some c a).1 (h.some c a).2
section
variable {P:Program} {T:ZR} {A:ο} {m nt:Nat} {k:Zz} {env:Β} {σ:Ξ} {Z:XO} {E:Ya}
theorem W.Br (a:Zv P T) (env':Β) (σ':Ξ) {ops:ZC} {l:ο} (h:W P m nt k env' σ' Z E) (b:run P T A nt ops l env σ (λe s=>W P m nt k env' σ' Z E->W P m nt k e s Z E) E):W P m nt (.inRegion ops l::k) env σ Z E:=by
 have:=Hd (m:=m) (k:=k) (Z:=Z) a [] l env σ (Js (λe s f=>W.ZB (f h)) _ _ _ b);simpa using this
end
def UU (l:List YV):Ψ:=WT 3 (l.map Zi)
def ZO (done:List (List YV)) (nc:Nat):μ:=done.map UU++List.replicate (nc-done.length) ZX
theorem Bq (nc:Nat):ZO [] nc=List.replicate nc ZX:=by simp[ZO]
theorem SN {done:List (List YV)} {nc:Nat} (h:done.length<=nc):(ZO done nc).length=nc:=by simp[ZO];omega
theorem Bp {done:List (List YV)}:ZO done done.length=done.map UU:=by simp[ZO]
theorem Bo {done:List (List YV)} {nc:Nat} (h:done.length<nc):(ZO done nc)[done.length]?=some ZX:=by
 unfold ZO;rw[Xj Ω,X2,Ps,Ml,if_pos J]
theorem Bn {done:List (List YV)} {nc:Nat} (h:done.length<nc) (a:List YV):(ZO done nc).set done.length (UU a)=ZO (done++[a]) nc:=by
 unfold ZO;obtain⟨r,b⟩:∃r,nc-done.length=r+1:=⟨nc-done.length-1,J⟩;have e:nc-(done++[a]).length=r:=by simp;omega
 rw[b,e,List.replicate_succ,Py _ _ Ω,X2,Ps,List.set_cons_zero,XA,TH];rfl
theorem FH (l:List YV):ς 0 (UU l):=by
 unfold UU WT;split
 .simp
 .refine YD.2 λe c a b=>?_;obtain⟨x,_,rfl⟩:=YO.1 c;simp[Ψ.cells] at b;rcases b with rfl|rfl|rfl<;>exact .z _
theorem FG (l:List YV):(UU l).cells=[UU l]:=by
 unfold UU WT;split<;>rfl
theorem Mr {done:List (List YV)} {nc:Nat}:∀e∈ZO done nc,e.cells=[e]/\ς 0 e:=λe he=>by
 unfold ZO at he;rcases V4.1 he with he|he
 .obtain⟨x,_,rfl⟩:=YO.1 he;exact⟨FG x,FH x⟩
 .have:=KO he;subst this;exact⟨U,Ω⟩
structure rP where
 d:Zd
 done:List (List YV)
structure Bm where
 k:Nat
 d:Zd
 Qs:List YV
theorem rO (d:Zd) (hd:d.Z0.length<2 ^ 63) (aB aa:Nat) (bG:1<=aB) (bH:aB<=6) (bI:aa<=4) :
  Rg 37 [I aB,I aa] d (λr=>∃s,r=Zq s/\W0 s/\s.cells.length<=aa/\s.θ.length<=3):=by
 unfold Rg;refine Μ.body Ο func37 U U ntmps37 U U Ω ?_
 repeat apply Ν
 refine YY (A:=[6]) Ο λaC V=>Z9 ?_;apply V
 repeat apply Ν
 refine W.Za ?_;refine W.part (A:=[7]) Ο [0,1,2,3] [4,5] U λaC V=>?_;(try simp);(repeat (rw[Θ];simp));refine BL d hd aB aa bG bH bI U ?_;intro G L nc d1 bJ a4 ⟨cm,cn,bK⟩ bL;simp only[List.length_cons,List.length_nil,Nat.reduceAdd,List.set_cons_zero,List.cons_append,List.nil_append];obtain⟨ab,aG⟩:=Ε (Y2 5 (List.replicate nc ZX));have aj:(nc=0/\ab=ZX)\/(0<nc/\ab=.ms 5 nc 0 nc):=by
  by_cases F:nc=0
  .subst F;exact .inl ⟨U,aG⟩
  .exact .inr ⟨J,by rw[aG,W2 (by simp[F]),Pz]⟩
 have ak:∀done:List (List YV),done.length<=nc->(nc=0/\ZL 60 1 (ZO done nc)=[])\/(0<nc/\ZL 60 1 (ZO done nc)=[.cells 60 1 (ZO done nc)]):=λdone al=>by
  by_cases F:nc=0
  .subst F;have:=YA.1 (SN al);exact .inl ⟨U,by rw[this];rfl⟩
  .exact .inr ⟨J,Yd (λh=>by have:=SN al;rw[h] at this;simp at this;omega)⟩
 rw[<-aG,<-Bq];rw[He,Sy];apply V;clear V aC;have ad:ς ([ZF d1,YI ZX ZX ZX,.dead,.dead,.dead]++ZL 60 1 (ZO [] nc)).length ab:=by
  rcases aj with⟨_,e⟩|⟨X,e⟩
  .rw[e];simp
  .rcases ak [] (Α _) with⟨R,_⟩|⟨_,Ρ⟩
   .omega
   .rw[e,Ρ];exact Tw.2 Ω
 refine W.Br (A:=[7]) Ο [(0,.Δ 0 1 0 0),(6,.Δ 1 1 0 0),(7,.ξ [ZD G,ZM L,ab])] ([ZF d1,YI ZX ZX ZX,.dead,.dead,.dead]++ZL 60 1 (ZO [] nc)) ?_ (by
  have aD:∀h,∀r∈[ZF d1,YI ZX ZX ZX,.dead,.dead,.dead]++ZL 60 1 (ZO [] nc),XF h r:=λh r b=>by
   rcases V4.1 b with b|b
   .simp only[Y9,Yb,or_false] at b;rcases b with rfl|rfl|rfl|rfl|rfl
    .exact SP d1 h
    .intro e u a f;simp[Ψ.cells] at u;subst u;simp[Ψ.cells] at f;subst f;simp
    .trivial
    .trivial
    .trivial
   .exact Pb (λe u a f=>by obtain⟨w,o⟩:=Mr e u;rw[w] at f;simp at f;subst f;exact o) r b
  rcases aj with⟨X,e⟩|⟨X,e⟩<;>rcases ak [] (Α _) with⟨R,Ρ⟩|⟨R,Ρ⟩
  .rw[Ρ] at aD ad;rw[e] at ad;rw[e,Ρ];(try simp);(repeat (rw[Θ];simp));(try simp);intro aH;exact W.UZ (σ0:=[ZF d1,YI ZX ZX ZX,.dead,.dead,.dead]) Ω (aD _) (λa f=>by
    simp[Ψ.cells] at f;rcases f with rfl|rfl|rfl
    .exact(YD.2 Tf:ς 0 _).mono (Α _)
    .exact(YD.2 RQ:ς 0 _).mono (Α _)
    .exact ad) [(0,.Δ 0 1 0 0),(6,.Δ 1 1 0 0),(7,.ξ [ZD G,ZM L,ZX])] (by simp[Wb,Ψ.cells]) aH
  .omega
  .omega
  .rw[Ρ] at aD ad;rw[e] at ad;rw[e,Ρ];have Y:(ZO [] nc).length=nc:=SN (Α _);(try simp);(repeat (rw[Θ];simp[Y]));(try simp[Y]);intro aH;exact W.UZ (σ0:=[ZF d1,YI ZX ZX ZX,.dead,.dead,.dead,.cells 60 1 (ZO [] nc)]) Ω (aD _) (λa f=>by
    simp[Ψ.cells] at f;rcases f with rfl|rfl|rfl
    .exact(YD.2 Tf:ς 0 _).mono (Α _)
    .exact(YD.2 RQ:ς 0 _).mono (Α _)
    .exact ad) [(0,.Δ 0 1 0 0),(6,.Δ 1 1 0 0),(7,.ξ [ZD G,ZM L,.ms 5 nc 0 nc])] (by simp[Wb,Ψ.cells]) aH)
 obtain⟨C,aE⟩:=Ε L.length;have bM:=a4.lo;rw[<-aE] at bM bK;have cp:(L.map (δ I 1)).length=C:=by rw[X2,aE]
 refine Χ ?_;refine W.iter (λx:rP=>x.done.length<=nc/\x.d.Z0.length<=d.Z0.length/\∀c∈x.done,OQ C c)
  (λx=>[(0,.Δ 0 1 0 0),(6,.Δ 1 1 0 0),(7,.ξ [ZD G,ZM L,ab]),(8,I x.done.length)])
  (λx=>[ZF x.d,YI ZX ZX ZX,.dead,.dead,.dead]++ZL 60 1 (ZO x.done nc)) (λx=>nc-x.done.length) ⟨d1,[]⟩ ⟨Ω,bL,Ω⟩ U Ω (λx K aI=>?_)
 obtain⟨M,done⟩:=x;obtain⟨al,aJ,aK⟩:=K;simp only at al aJ aK aI ⊢;obtain⟨c,am⟩:=Ε done.length;rw[<-am] at al aI;rw[<-am]
 repeat apply Ν
 refine W.Xq (A:=[]) Ο [(20,ν (decide (c<nc))),(0,.Δ 0 1 0 0),(6,.Δ 1 1 0 0),(7,.ξ [ZD G,ZM L,ab]),(8,I c)] ([ZF M,YI ZX ZX ZX,.dead,.dead,.dead]++ZL 60 1 (ZO done nc)) ?_ (by
  have Y:(ZO done nc).length=nc:=SN J;rcases aj with⟨X,e⟩|⟨X,e⟩<;>rcases ak done J with⟨R,Ρ⟩|⟨R,Ρ⟩
  .rw[e,Ρ,R];(try simp);(repeat (rw[Θ];simp));(try simp)
  .omega
  .omega
  .rw[e,Ρ];(try simp);(repeat (rw[Θ];simp[Y]));(try simp[Y]))
 refine W.YH U (λae=>?_) (λae=>?_)
 .have ae:c<nc:=by simpa using ae
  rcases aj with⟨X,_⟩|⟨X,e⟩
  .omega
  rcases ak done J with⟨R,_⟩|⟨R,Ρ⟩
  .omega
  obtain⟨O,an⟩:=Ε (ZO done nc);have a5:O.length=nc:=by rw[an];exact SN J
  have a6:O[c]?=some ZX:=by rw[an,am];exact Bo J
  have bN:∀m,O.set c (UU m)=ZO (done++[m]) nc:=λm=>by rw[an,am];exact Bn J m
  have a7:∀e∈O,e.cells=[e]/\ς 0 e:=by rw[an];exact Mr
  have aF:O.set c ZX=O:=by
   apply Sj;intro i;rw[List.getElem?_set];split
   .rename_i e;subst e;split
    .exact a6.symm
    .rename_i h;exact(h J).elim
   .rfl
  have a8:L.length=C:=aE.symm;rw[e,Ρ,<-an];simp only[List.cons_append,List.nil_append];have aL:=F2 M J C J;have aM:=Ih M C;have a9:∀x∈(WH M C).1,0<=x/\x<C:=λx h=>FX h;have a':=FW M C;have bO:=Ii M C;obtain⟨H,bP⟩:=ZG ((WH M C).1);obtain⟨ao,bQ⟩:=ZG ((WH M C).2);rw[bP] at aL aM a9 a';rw[bQ] at aL bO;refine XD a8 λaC V=>?_;refine YM.g (aL) (Z9 ?_);apply V;have ba:=Ud ao J C;obtain⟨t0,t1⟩:=SQ ao C J J;obtain⟨S,ap⟩:∃k:Nat,W9 ao C=k:=⟨(W9 ao C).toNat,J⟩;obtain⟨bb,bc⟩:=ZG (ao.after C);have bR:bb.Z0.length<=d.Z0.length:=by rw[<-bc];exact XQ (WE _ _) J
  rw[ap,bc] at ba;rw[ap] at t1;refine XD a8 λaC V=>?_;refine YM.g (ba) (Z9 ?_);apply V
  repeat apply Ν
  refine W.iter (λx:Bm=>x.Qs.length+x.k=S/\x.d.Z0.length<=d.Z0.length/\x.Qs.map (·.YX)=((H.take S).drop x.k).reverse/\∀p∈x.Qs,(0<=p.seen/\p.seen<=63)/\(0<=p.bare/\p.bare<=63)/\UM p.seen p.bare=0)
   (λx=>[(0,.Δ 0 1 0 0),(6,.Δ 1 1 0 0),(7,.ξ [ZD G,ZM L,.ms 5 nc 0 nc]),(8,I c),(9,δ I 1 H),(10,I x.k)])
   (λx=>ZF x.d::YI ZX ZX ZX::.dead::.dead::.dead::.cells 60 1 (O.set c (Y2 6 (x.Qs.map Zi)))::ZL 28 3 (x.Qs.map Zi)) (λx=>x.k) ⟨S,bb,[]⟩
   ⟨Ω,bR,Ω,Ω⟩ (by simp only[TF];rw[show Y2 6 []=ZX from rfl,aF];rfl) Ω (λx K bd=>?_)
  obtain⟨k,E,m⟩:=x;obtain⟨bS,aN,aq,aO⟩:=K;simp only at bS aN aq aO bd ⊢;refine Χ ?_;refine W.YH U (λaP=>?_) (λaP=>?_)
  .have ap:0<k:=by simpa using aP
   obtain⟨j,bT⟩:∃j,k=j+1:=⟨k-1,J⟩;have T:IntKind.i64.wrap ((k:Int)-1)=j:=by rw[IntWalk.i64_in _ J];omega
   have bU:j<H.length:=J
   have aQ:H[j]?=some H[j]:=Z7 bU;obtain⟨af,aR⟩:=Ε (H[j]);rw[<-aR] at aQ;have be:∀h,H[j]'h=af:=λh=>aR.symm;have aS:=Ud E J 63;obtain⟨bf,bg⟩:=SQ E 63 ZT ZT;obtain⟨bV,bh⟩:=ZG (W9 E 63);obtain⟨ar,bi⟩:=ZG (E.after 63);have bW:ar.Z0.length<=d.Z0.length:=by rw[<-bi];exact XQ (WE _ _) aN
   rw[bh,bi] at aS;rw[bh] at bf bg;have aT:=Ud ar J 63;obtain⟨bj,bk⟩:=SQ ar 63 ZT ZT;obtain⟨bX,bl⟩:=ZG (W9 ar 63);obtain⟨au,bm⟩:=ZG (ar.after 63);have bY:au.Z0.length<=d.Z0.length:=by rw[<-bm];exact XQ (WE _ _) bW
   rw[bl,bm] at aT;rw[bl] at bj bk;obtain⟨⟨bZ,aU⟩,_,_⟩:=Mz ⟨bf,bg⟩ ⟨bj,bk⟩;obtain⟨av,aV⟩:=ZG (XT .i64 bV bX);rw[aV] at bZ aU;have aW:=F5 au J [0,0,av] Ω Ω;obtain⟨Z,bn⟩:=ZG (([0,0,av]:ZZ).getD (Ri au [0,0,av]) 0);have bo:0<=Z/\Z<=63:=by
    rw[<-bn]
    match Ri au [0,0,av] with
    | 0=>simp
    | 1=>simp
    | 2=>simp;omega
    | n+3=>simp
   obtain⟨ag,bp⟩:=ZG (au.after ((([0,0,av]:ZZ).length:Int)-1));have b0:ag.Z0.length<=d.Z0.length:=by rw[<-bp];exact XQ (WE _ _) bY
   rw[bn,bp] at aW;obtain⟨Q,D⟩:=Ε (YI ZX ZX ZX::.dead::.dead::.dead::.cells 60 1 (O.set c (Y2 6 (m.map Zi)))::ZL 28 3 (m.map Zi):Ξ);have aw:(Y2 6 (m.map Zi)=ZX/\ZL 28 3 (m.map Zi)=[]/\m=[])\/(Y2 6 (m.map Zi)=.ms 6 m.length 0 m.length/\ZL 28 3 (m.map Zi)=[.cells 28 3 (m.map Zi)]/\0<m.length):=by
    by_cases F:m=[]
    .subst F;exact .inl ⟨U,U,U⟩
    .have ax:m.map Zi≠[]:=by simpa using F
     exact .inr ⟨by rw[W2 ax,X2],Yd ax,RN.2 F⟩
   rw[<-D]
   repeat apply Ν
   refine W.Ik (A:=[11]) Ο mixed [(0,.Δ 0 1 0 0),(6,.Δ 1 1 0 0),(7,.ξ [ZD G,ZM L,.ms 5 nc 0 nc]),(8,I c),(9,δ I 1 H),(10,I k),(11,.Δ (Q.length+1) 1 0 0)] (ZF ag::Q++[.cells 28 3 [.ZW [I af,I Z,I 0]]]) ?_ (by
    rcases aw with⟨f1,f2,f3⟩|⟨f1,f2,f3⟩
    .rw[f1,f2] at D;rw[D];simp;(repeat (rw[UD];simp[T,aQ,be,aM]));(try rw[UE]);refine⟨J,?_⟩;refine YM.h (aS) (Qw ?_);refine YM.h (aT) (Ij aV ?_);refine YM.e aW (.cons .ex .nil) Ω Ω ?_;simp;(repeat (rw[UD];simp));(try rw[UE]);refine⟨Yq Zr,Yq Zr,?_⟩;simp
    .rw[f1,f2] at D;rw[D];simp;(repeat (rw[UD];simp[T,aQ,be,aM]));(try rw[UE]);refine⟨J,?_⟩;refine YM.h (aS) (Qw ?_);refine YM.h (aT) (Ij aV ?_);refine YM.e aW (.cons .ex .nil) Ω Ω ?_;simp;(repeat (rw[UD];simp));(try rw[UE]);refine⟨Yq Zr,Yq Zr,?_⟩;simp)
   have aX:=Ud ag J 63;obtain⟨bq,br⟩:=SQ ag 63 ZT ZT;obtain⟨b1,bs⟩:=ZG (W9 ag 63);obtain⟨ay,bt⟩:=ZG (ag.after 63);have b2:ay.Z0.length<=d.Z0.length:=by rw[<-bt];exact XQ (WE _ _) b0
   rw[bs,bt] at aX;rw[bs] at bq br;have aY:=Ud ay J 63;obtain⟨d0,bu⟩:=SQ ay 63 ZT ZT;obtain⟨b3,bv⟩:=ZG (W9 ay 63);obtain⟨P,bw⟩:=ZG (ay.after 63);have b4:P.Z0.length<=d.Z0.length:=by rw[<-bw];exact XQ (WE _ _) b2
   rw[bv,bw] at aY;rw[bv] at d0 bu;obtain⟨bx,_,_⟩:=Mz ⟨bq,br⟩ ⟨d0,bu⟩;obtain⟨b5,aZ⟩:=ZG (XT .i64 b1 b3);rw[aZ] at bx;obtain⟨_,bz,F⟩:=Mz bx bo;obtain⟨a0,a1⟩:=ZG (Uu .i64 b5 Z);rw[a1] at bz F
   repeat apply Ν
   refine W.Ik (A:=[]) Ο mixed [(11,.Δ (Q.length+1) 1 0 0),(0,.Δ 0 1 0 0),(6,.Δ 1 1 0 0),(7,.ξ [ZD G,ZM L,.ms 5 nc 0 nc]),(8,I c),(9,δ I 1 H),(10,I k)] ((ZF P::Q)++[.cells 28 3 [.ZW [I af,I Z,I a0]]]) ?_ (by
    rcases aw with⟨f1,f2,f3⟩|⟨f1,f2,f3⟩
    .rw[f1,f2] at D;rw[D];simp;(repeat (rw[UD];simp));(try rw[UE]);refine YM.h (aX) (Qw ?_);refine YM.h (aY) (Ij (Υ aZ a1) ?_);refine⟨Yq Zr,Yq Zr,?_⟩;simp
    .rw[f1,f2] at D;rw[D];simp;(repeat (rw[UD];simp));(try rw[UE]);refine YM.h (aX) (Qw ?_);refine YM.h (aY) (Ij (Υ aZ a1) ?_);refine⟨Yq Zr,Yq Zr,?_⟩;simp)
   have b6:∀r∈ZF P::Q,XF (ZF P::Q).length r:=λr b=>by
    rcases Y9.1 b with rfl|b
    .exact SP P _
    have bA:0<m.length->6<(ZF P::Q).length:=λh=>by
     rcases aw with⟨_,_,f3⟩|⟨_,f2,_⟩
     .rw[f3] at h;simp at h
     .rw[D,f2];simp
    generalize (ZF P::Q).length=N at bA;rw[D] at b;simp only[Y9] at b;rcases b with rfl|rfl|rfl|rfl|rfl|b
    .intro e u a f;simp[Ψ.cells] at u;subst u;simp[Ψ.cells] at f;subst f;simp
    .trivial
    .trivial
    .trivial
    .intro e u a f;rcases KP u with u|rfl
     .obtain⟨w,o⟩:=a7 e u;rw[w] at f;simp at f;subst f;exact o.mono (Α _)
     .rcases aw with⟨f1,_,_⟩|⟨f1,_,f3⟩
      .rw[f1] at f;simp[Ψ.cells] at f;subst f;simp
      .rw[f1] at f;simp[Ψ.cells] at f;subst f;exact Tw.2 (bA f3)
    .refine Pb (λe u a f=>?_) r b;obtain⟨x,_,rfl⟩:=YO.1 u;simp[Ψ.cells] at f;rcases f with rfl|rfl|rfl<;>exact .z _
   have cq:6<=(ZF P::Q).length:=by rw[D];simp
   refine W.UZ (σ0:=ZF P::Q) Ω b6 (λa f=>by simp[Ψ.cells] at f;rcases f with rfl|rfl|rfl<;>exact .z _) [(11,.ξ [I af,I Z,I a0]),(0,.Δ 0 1 0 0),(6,.Δ 1 1 0 0),(7,.ξ [ZD G,ZM L,.ms 5 nc 0 nc]),(8,I c),(9,δ I 1 H),(10,I k)] (λp B=>by
    simp only[Y9,Yb,or_false] at B;rcases B with rfl|rfl|rfl|rfl|rfl|rfl|rfl
    .exact .inr ⟨U,U⟩
    .exact .inl ⟨U,Wb.2 J⟩
    .exact .inl ⟨U,Wb.2 J⟩
    .refine .inl ⟨U,Jp.2 λa f=>?_⟩;simp only[Y9,Yb,or_false] at f;rcases f with rfl|rfl|rfl
     .exact(YD.2 Tf:ς 0 _).mono (Α _)
     .exact(YD.2 RQ:ς 0 _).mono (Α _)
     .exact Tw.2 J
    .exact .inl ⟨U,.z _⟩
    .exact .inl ⟨U,(YD.2 (λe u a f=>by obtain⟨x,_,rfl⟩:=YO.1 u;simp[Ψ.cells] at f;subst f;exact .z _):ς 0 _).mono (Α _)⟩
    .exact .inl ⟨U,.z _⟩) ?_
   obtain⟨ah,a2⟩:=Ε (⟨af,Z,a0⟩:YV);have bB:(m++[ah]).map Zi≠[]:=Ω
   repeat apply Ν
   refine W.Uo (A:=[70]) Ο mixed [(0,.Δ 0 1 0 0),(6,.Δ 1 1 0 0),(7,.ξ [ZD G,ZM L,.ms 5 nc 0 nc]),(8,I c),(9,δ I 1 H),(10,I k)] (ZF P::YI ZX ZX ZX::.dead::.dead::.dead::.cells 60 1 (O.set c (Y2 6 ((m++[ah]).map Zi)))::ZL 28 3 ((m++[ah]).map Zi)) ?_ (by
    rw[W2 bB,Yd bB,X2,Vz,XA,WZ,TF,a2];rcases aw with⟨f1,f2,f3⟩|⟨f1,f2,f3⟩
    .rw[f1,f2] at D;rw[D,aF,f3];simp;(repeat (rw[Z1];simp[a5,a6]));(try rw[Z2]);refine⟨J,?_⟩;refine⟨Yq Zr,?_⟩;simp
    .rw[f1,f2] at D;rw[D];have b7:∀v,(O.set c v)[c]?=some v:=λv=>by rw[V0 J]
     have b8:∀v h,(O.set c v)[c]'h=v:=λv h=>List.getElem_set_self h;simp;(repeat (rw[Z1];simp[a5,b7,b8]));(try rw[Z2]);refine⟨J,J,J,?_⟩;refine⟨Yq Zr,?_⟩;simp)
   refine Ι T ?_;have b9:(H.take S).drop j=af::(H.take S).drop k:=by
    have b':j<(H.take S).length:=by rw[Qm];omega
    rw[OM b',bT,List.getElem_take,aR]
   refine W.to (bd ⟨j,P,m++[ah]⟩ ⟨by show(m++[ah]).length+j=S;rw[Vz];simp;omega,b4,?_,λp B=>?_⟩ (by show j<k;omega)) Ω (by simp[T])
   .show(m++[ah]).map (·.YX)=((H.take S).drop j).reverse;rw[b9,XA,aq,List.reverse_cons,a2];rfl
   .rcases V4.1 B with B|B
    .exact aO p B
    .simp at B;subst B;subst a2;exact⟨bo,bz,F⟩
  .have ap:k=0:=by simp at aP;omega
   subst ap;have cr:m.length=S:=J;rw[List.drop_zero] at aq;have ca:OQ C m:=by
    refine⟨J,?_,λp B=>?_⟩
    .rw[aq];unfold List.Nodup;rw[List.pairwise_reverse];exact(a'.sublist (List.take_sublist _ _)).imp YF
    .have bC:p.YX∈m.map (·.YX):=YO.2 ⟨p,B,U⟩;rw[aq,List.mem_reverse] at bC;have:=a9 _ (KH bC);obtain⟨cb,cc,cd⟩:=aO p B;exact⟨this,cb,cc,cd⟩
   have T:IntKind.i64.wrap ((c:Int)+1)=((c+1:Nat):Int):=by rw[IntWalk.i64_in _ J];omega
   have ce:(done++[m]).length=c+1:=by simp;omega
   have ai:=aI ⟨E,done++[m]⟩ ⟨by show(done++[m]).length<=nc;omega,aN,λx K=>by
    rcases V4.1 K with K|K
    .exact aK x K
    .simp at K;subst K;exact ca⟩ (by show nc-(done++[m]).length<nc-c;omega)
   have cf:ZO (done++[m]) nc≠[]:=λh=>by
    have:=SN (done:=done++[m]) (nc:=nc) J;rw[h] at this;simp at this;omega
   simp only[ce] at ai;rw[Yd cf,<-bN m,e] at ai;refine W.exit U ?_;by_cases F:m=[]
   .subst F;rw[show UU []=ZX from rfl,aF] at ai;rw[show Y2 6 (([]:List YV).map Zi)=ZX from rfl,show ZL 28 3 (([]:List YV).map Zi)=[] from rfl,aF];refine Ι T ?_;exact W.to ai U (by simp[T])
   .have ax:m.map Zi≠[]:=by simpa using F
    have bD:UU m=.sl false 3 (m.map Zi):=by unfold UU WT;rw[if_neg (by simpa using F)]
    rw[bD] at ai;rw[W2 ax,Yd ax];refine W.PD (σ':=ZF E::YI ZX ZX ZX::.dead::.dead::.dead::.cells 60 1 (O.set c (.sl false 3 (m.map Zi)))::[.dead]) (id:=6) Ω U U U (λi r hi b=>?_) [(0,.Δ 0 1 0 0),(6,.Δ 1 1 0 0),(7,.ξ [ZD G,ZM L,.ms 5 nc 0 nc]),(8,I c)] (λp B=>by
     simp only[Y9,Yb,or_false] at B;rcases B with rfl|rfl|rfl|rfl<;>exact .same _) ?_
    .match i,hi,b with
     | 0,_,b=>exact⟨r,b,.inl rfl⟩
     | 1,_,b=>exact⟨r,b,.inl rfl⟩
     | 2,_,b=>exact⟨r,b,.inl rfl⟩
     | 3,_,b=>exact⟨r,b,.inl rfl⟩
     | 4,_,b=>exact⟨r,b,.inl rfl⟩
     | 5,_,b=>
      simp at b;subst b;refine⟨_,U,.inr ⟨60,1,_,_,U,U,Ω,λy e cs w o=>?_⟩⟩;by_cases bE:y=c
      .subst bE;rw[V0 J] at w o;cases w;cases o;refine⟨U,λx a a3 az aA=>?_⟩
       match x with
       | 0=>simp[Ψ.cells] at az aA;subst az;subst aA;have:=Rf.ms (id:=6) (k:=3) (l:=m.map Zi);rwa [X2] at this
       | x+1=>simp[Ψ.cells] at az
      .rw[Vp (YF bE)] at w o;rw[w] at o;cases o;exact⟨U,λx a a3 az aA=>by rw[az] at aA;cases aA;exact .same _⟩
     | 6,h,_=>exact absurd rfl h
     | i+7,_,b=>simp at b
    refine W.drop (h:=6) Ω Ω (λi r hi b=>?_) U [(0,.Δ 0 1 0 0),(6,.Δ 1 1 0 0),(7,.ξ [ZD G,ZM L,.ms 5 nc 0 nc]),(8,I c)] ?_ ?_
    .match i,hi,b with
     | 0,_,b=>simp at b;subst b;exact SP E 6
     | 1,_,b=>simp at b;subst b;intro e u a f;simp[Ψ.cells] at u;subst u;simp[Ψ.cells] at f;subst f;simp
     | 2,_,b=>simp at b;subst b;trivial
     | 3,_,b=>simp at b;subst b;trivial
     | 4,_,b=>simp at b;subst b;trivial
     | 5,_,b=>
      simp at b;subst b;intro e u a f;rcases KP u with u|rfl
      .obtain⟨w,o⟩:=a7 e u;rw[w] at f;simp at f;subst f;exact o.mono (Α _)
      .simp[Ψ.cells] at f;subst f;have:=FH m;rw[bD] at this;exact this.mono (Α _)
     | i+6,h,_=>omega
    .intro p B;simp only[Y9,Yb,or_false] at B;rcases B with rfl|rfl|rfl|rfl
     .exact⟨U,Wb.2 J⟩
     .exact⟨U,Wb.2 J⟩
     .refine⟨U,Jp.2 λa f=>?_⟩;simp only[Y9,Yb,or_false] at f;rcases f with rfl|rfl|rfl
      .exact(YD.2 Tf:ς 0 _).mono (Α _)
      .exact(YD.2 RQ:ς 0 _).mono (Α _)
      .exact Tw.2 J
     .exact⟨U,.z _⟩
    refine Ι T ?_;exact W.to ai U (by simp[T])
 .have ae:c=nc:=by simp at ae;omega
  subst ae;refine W.exit U ?_;have bF:W0 ⟨G,L,done⟩:=⟨bJ,a4,by show done.length<=4;omega,λx K=>by show OQ L.length x;rw[<-aE];exact aK x K⟩;have cg:ZO done c=done.map UU:=by rw[am];exact Bp
  have ci:YR (.ZW [ZD G,ZM L,.sl false 1 (done.map UU)]) (Zq ⟨G,L,done⟩):=by
   refine .ZW (.cons (.refl _) (.cons (.refl _) (.cons ?_ .nil)));exact .map λx _=>.one .acc (FG x) U
  rcases aj with⟨X,e⟩|⟨X,e⟩<;>rcases ak done J with⟨R,Ρ⟩|⟨R,Ρ⟩
  .rw[e,Ρ];refine Χ ?_;have cj:done=[]:=YA.1 J;refine W.cut 1 Ω [(6,.ξ [ZD G,ZM L,ZX])] Ω (λid r ck b=>?_) (λp B=>?_) ?_
   .have:id=0:=J
    subst this;simp at b;subst b;exact SP M 1
   .simp only[Y9,Yb,or_false] at B;subst B;show X' 1 _ (Z3 _ 6) _;simp;refine .struct Ω (show _=some (Row.cells _ _ [.ZW _]) from rfl) U λx a a3 w o=>?_
    match x with
    | 0=>simp at w o;subst w;subst o;exact .low ((YD.2 Tf:ς 0 _).mono (Α _))
    | 1=>simp at w o;subst w;subst o;exact .low ((YD.2 RQ:ς 0 _).mono (Α _))
    | 2=>simp at w o;subst w;subst o;exact .low Ω
    | x+3=>simp at o
   .refine W.ret ⟨_,U,_,M,?_,⟨_,U,bF,⟨by show done.length<=aa;omega,by show L.length<=3;omega⟩⟩,U,aJ⟩;rw[cj];exact .ZW (.cons (.refl _) (.cons (.refl _) (.cons .nil .nil)))
  .omega
  .omega
  .have Y:(ZO done c).length=c:=SN J;rw[e,Ρ];refine Ι Y ?_;refine W.cut 1 Ω [(6,.ξ [ZD G,ZM L,.sl false 1 (ZO done c)])] Ω (λid r ck b=>?_) (λp B=>?_) ?_
   .have:id=0:=J
    subst this;simp at b;subst b;exact SP M 1
   .simp only[Y9,Yb,or_false] at B;subst B;show X' 1 _ (Z3 _ 6) _;simp;refine .struct Ω (show _=some (Row.cells _ _ [.ZW _]) from rfl) U λx a a3 w o=>?_
    match x with
    | 0=>simp at w o;subst w;subst o;exact .low ((YD.2 Tf:ς 0 _).mono (Α _))
    | 1=>simp at w o;subst w;subst o;exact .low ((YD.2 RQ:ς 0 _).mono (Α _))
    | 2=>simp at w o;subst w;subst o;exact .own (t:=60) Ω rfl Y (λe u a f=>by
      obtain⟨aU,cl⟩:=Mr e u;rw[aU] at f;simp at f;subst f;exact cl.mono (Α _))
    | x+3=>simp at o
   .rw[cg];exact W.ret ⟨_,U,_,M,ci,⟨_,U,bF,⟨by show done.length<=aa;omega,by show L.length<=3;omega⟩⟩,U,aJ⟩
theorem Bl (s:ω) (g:Int) (i:g<s.χ.length) (σ:Ξ) (id m:Nat) (c:μ) (e:c.length=m) (f:σ[id]?=some (.cells 60 1 c)):Μ prog 130 [.ZW [ZD s.χ,ZM s.θ,.ms id m 0 m],I g] σ (λa r=>a=I (s.of g)/\r=σ) (λ_ _=>False):=by
 refine Μ.body Ο func130 U U ntmps130 U U Ω ?_;refine Ι (Υ f e) ?_;refine W.YH U (λb=>?_) (λb=>?_)
 .have b:g<0:=by simpa using b
  refine Χ ?_;refine W.ret ⟨_,U,?_,U⟩;show I 0=_;simp[ω.of,b]
 .have b:¬g<0:=by simpa using b
  obtain⟨n,rfl⟩:∃n:Nat,g=n:=⟨g.toNat,J⟩;have d:n<s.χ.length:=J;refine Ι d ?_;refine W.ret ⟨_,U,?_,U⟩;show I s.χ[n].YJ=_;simp[ω.of,d];intro h;omega
theorem rN (s:ω) (p r:Int×Int) (n:Nat) (g:n<s.θ.length) (k:∀x∈s.θ,x.length<2 ^ 62) (C:r.1<s.χ.length) (D:r.2<s.χ.length) (σ:Ξ) (id m:Nat) (o:μ) (d:o.length=m) (e:σ[id]?=some (.cells 60 1 o)) :
  Μ prog 91 [.ZW [ZD s.χ,ZM s.θ,.ms id m 0 m],δ I 1 [p.1,p.2],δ I 1 [r.1,r.2],I n] σ (λa E=>a=I (s.XS p r n)/\E=σ) (λ_ _=>False):=by
 have i:=Z7 g
 have t:=k _ (Yx g);obtain⟨l,k⟩:=Ε (s.θ[n]);rw[<-k] at i t;have v:∀h,s.θ[n]'h=l:=λh=>k.symm;have hv:s.XS p r n=if l.contains p.2 then Ur (if l.contains p.1 then Ur 0 (s.of r.1) else 0) (s.of r.2) else if l.contains p.1 then Ur 0 (s.of r.1) else 0:=by
  unfold ω.XS;rw[i];rfl
 rw[hv];have f:∀x:Int,(0<=(if x∈l then((l.idxOf x:Nat):Int) else -1))↔x∈l:=λx=>by
  by_cases h:x∈l
  .simp[h]
  .simp[h]
 have B:=Bl s r.1 C σ id m o d e
 have w:=Bl s r.2 D σ id m o d e;generalize s.of r.1=F at B ⊢;generalize s.of r.2=H at w ⊢;refine Μ.body Ο func91 U U ntmps91 U U Ω ?_;refine Ι (Υ e d) ?_;refine W.draw (A:=[]) Ο mixed λj b=>V8 (Υ g (Υ i v)) ?_;refine Zc (Κ.p (G1 l p.1 t) (ZN.refl _) Ω Ω) ?_;simp[f];(repeat (rw[Z1];simp[f]));try rw[Z2]
 refine Zf (b _ _ ?_);by_cases u:p.1∈l
 .refine Ζ (by simp[u]) ?_;have y:l.contains p.1=true:=by simpa using u
  rw[if_pos y]
  repeat apply Ν
  refine W.draw (A:=[]) Ο mixed λj b=>V8 (Υ e d) ?_;refine Ji (Μ.call (first:=[]) (captured:=[]) B) ?_;simp;(repeat (rw[Z1];simp));try rw[Z2]
  refine Zf (b _ _ ?_)
  repeat apply Ν
  refine W.draw (A:=[]) Ο mixed λj b=>V8 (Υ g (Υ i v)) ?_;refine Zc (Κ.p (G1 l p.2 t) (ZN.refl _) Ω Ω) ?_;simp[f];(repeat (rw[Z1];simp[f]));try rw[Z2]
  refine Zf (b _ _ ?_);by_cases c:p.2∈l
  .refine Ζ (by simp[c]) ?_;have Ρ:l.contains p.2=true:=by simpa using c
   rw[if_pos Ρ]
   repeat apply Ν
   refine W.draw (A:=[]) Ο mixed λj b=>V8 (Υ e d) ?_;refine Ji (Μ.call (first:=[]) (captured:=[]) w) ?_;simp;(repeat (rw[Z1];simp));try rw[Z2]
   refine Zf (b _ _ ?_);refine Χ ?_;exact W.ret ⟨_,U,U,U⟩
  .refine Η (by simp[c]) ?_;have Ρ:¬l.contains p.2=true:=by simpa using c
   rw[if_neg Ρ];refine Χ ?_;exact W.ret ⟨_,U,U,U⟩
 .refine Η (by simp[u]) ?_;have y:¬l.contains p.1=true:=by simpa using u
  rw[if_neg y]
  repeat apply Ν
  refine W.draw (A:=[]) Ο mixed λj b=>V8 (Υ g (Υ i v)) ?_;refine Zc (Κ.p (G1 l p.2 t) (ZN.refl _) Ω Ω) ?_;simp[f];(repeat (rw[Z1];simp[f]));try rw[Z2]
  refine Zf (b _ _ ?_);by_cases c:p.2∈l
  .refine Ζ (by simp[c]) ?_;have Ρ:l.contains p.2=true:=by simpa using c
   rw[if_pos Ρ]
   repeat apply Ν
   refine W.draw (A:=[]) Ο mixed λj b=>V8 (Υ e d) ?_;refine Ji (Μ.call (first:=[]) (captured:=[]) w) ?_;simp;(repeat (rw[Z1];simp));try rw[Z2]
   refine Zf (b _ _ ?_);refine Χ ?_;exact W.ret ⟨_,U,U,U⟩
  .refine Η (by simp[c]) ?_;have Ρ:¬l.contains p.2=true:=by simpa using c
   rw[if_neg Ρ];refine Χ ?_;exact W.ret ⟨_,U,U,U⟩
def cnt (x n:Int):Nat->Int
 | 0=>0
 | k+1=>cnt x n k+(if XT .i64 x (2 ^ k)≠0 then 1 else 0)-(if XT .i64 n (2 ^ k)≠0 then 1 else 0)
end Go.TL
namespace Go.TL
open Go.Proofs.Tryz
open Go.Proofs
section
variable [ZP]
theorem Bj (l:ZZ):Μ prog 22 [δ I 1 l] [] (λr s=>r=.Δ 0 1 0 0/\s=[ZF ⟨l,1⟩]) (λ_ _=>False):=by
 refine Μ.body Ο func22 U U ntmps22 U U Ω ?_
 repeat apply Ν
 refine Xh ?_
 repeat apply Ν
 refine YY (A:=[5]) Ο λb a=>Z9 ?_;apply a;refine Χ ?_;exact W.ret ⟨_,U,U,U⟩
end
abbrev Bi:μ:=[Yu [1,0],Yu [2,0],Yu [2,1]]
theorem rM:∀i,i<3->Bi[i]?=some (Yu [(Yt i).1,(Yt i).2])/\∀h,Bi[i]'h=Yu [(Yt i).1,(Yt i).2]:=λi hi=>by
 match i with
 | 0=>exact⟨rfl,λ_=>rfl⟩
 | 1=>exact⟨rfl,λ_=>rfl⟩
 | 2=>exact⟨rfl,λ_=>rfl⟩
end Go.TL
namespace Go.TL
open Go.Proofs.Tryz
open Go.Proofs
variable [ZP]
theorem rL:∀n<64,∀s<64,Uu .i64 (s:Nat) (n:Nat)=0->∀o<64,XT .i64 (s:Nat) (Uu .i64 (o:Nat) (n:Nat))=0:=by decide +kernel
theorem rK:∀n<64,∀o<64,Uu .i64 (XT .i64 (n:Nat) (o:Nat)) (n:Nat)=0:=by decide +kernel
theorem rJ {n a b:Int} (c:0<=n/\n<=63) (d:0<=a/\a<=63) (h:0<=b/\b<=63):Uu .i64 (XT .i64 n a) n=0/\XT .i64 (XT .i64 n a) (Uu .i64 b n)=0:=by
 obtain⟨⟨i,f⟩,_,_⟩:=Mz c d;obtain⟨x,rfl⟩:∃x:Nat,n=x:=⟨n.toNat,J⟩;obtain⟨y,rfl⟩:∃y:Nat,a=y:=⟨a.toNat,J⟩;obtain⟨z,rfl⟩:∃z:Nat,b=z:=⟨b.toNat,J⟩;have e:=rK x J y J;refine⟨e,?_⟩;obtain⟨w,g⟩:∃w:Nat,XT .i64 (x:Int) (y:Int)=w:=⟨(XT .i64 (x:Int) (y:Int)).toNat,J⟩;rw[g] at e f ⊢;exact rL x J w J e z J
structure Bh (a b:Nat) (s:ω) (p:Int×Int) (rd:List Zu):Prop where
 ns:∃k,k<3/\p=Yt k
 rI:W0 s
 many:s.cells.length<=b
 Tr:s.χ.length<=a
 nq:s.θ.length<=3
 len:rd.length=s.cells.length
 each:∀r∈rd,(-1<=r.1/\r.1<s.χ.length)/\(-1<=r.2/\r.2<s.χ.length)
 right:∀(c:Nat) (r:Int×Int),rd[c]?=some r->s.R4 p r c=true
structure rH where
 d:Zd
 done:List (List YV)
 rd:List Zu
theorem rG (d:Zd) (hd:d.Z0.length<2 ^ 63) (aj ak:Nat) (cv:1<=aj) (cw:aj<=6) (cx:ak<=4) :
  Rg 32 [I aj,I ak] d (λr=>∃s p rd,r=.ZY [Zq s,δ I 1 [p.1,p.2],ZM (Um rd)]/\Bh aj ak s p rd):=by
 unfold Rg;refine Μ.body Ο func32 U U ntmps32 U U Ω ?_
 repeat apply Ν
 refine YY (A:=[6]) Ο λaQ ad=>Z9 ?_;apply ad
 repeat apply Ν
 refine W.Za ?_;refine W.part (A:=[9]) Ο [0,1,2,3] [4,5] U λaQ ad=>?_;(try simp);(repeat (rw[Θ];simp));refine BL d hd aj ak cv cw cx U ?_;intro G L nc d1 aR aS ⟨dm,cy,bF⟩ cz;simp only[List.length_cons,List.length_nil,Nat.reduceAdd,List.set_cons_zero,List.cons_append,List.nil_append];obtain⟨ag,a'⟩:=Ε (Y2 5 (List.replicate nc ZX));have al:(nc=0/\ag=ZX)\/(0<nc/\ag=.ms 5 nc 0 nc):=by
  by_cases B:nc=0
  .subst B;exact .inl ⟨U,a'⟩
  .exact .inr ⟨J,by rw[a',W2 (by simp[B]),Pz]⟩
 have am:∀done:List (List YV),done.length<=nc->(nc=0/\ZL 60 1 (ZO done nc)=[])\/(0<nc/\ZL 60 1 (ZO done nc)=[.cells 60 1 (ZO done nc)]):=λdone av=>by
  by_cases B:nc=0
  .subst B;have:=YA.1 (SN av);exact .inl ⟨U,by rw[this];rfl⟩
  .exact .inr ⟨J,Yd (λh=>by have:=SN av;rw[h] at this;simp at this;omega)⟩
 rw[<-a',<-Bq];rw[He,Sy];apply ad;clear ad aQ;have an:ς ([ZF d1,YI ZX ZX ZX,.dead,.dead,.dead]++ZL 60 1 (ZO [] nc)).length ag:=by
  rcases al with⟨_,e⟩|⟨S,e⟩
  .rw[e];simp
  .rcases am [] (Α _) with⟨O,_⟩|⟨_,Ρ⟩
   .omega
   .rw[e,Ρ];exact Tw.2 Ω
 refine W.Br (A:=[9]) Ο [(0,.Δ 0 1 0 0),(6,.Δ 1 1 0 0),(9,.ξ [ZD G,ZM L,ag])] ([ZF d1,YI ZX ZX ZX,.dead,.dead,.dead]++ZL 60 1 (ZO [] nc)) ?_ (by
  have aT:∀h,∀r∈[ZF d1,YI ZX ZX ZX,.dead,.dead,.dead]++ZL 60 1 (ZO [] nc),XF h r:=λh r f=>by
   rcases V4.1 f with f|f
   .simp only[Y9,Yb,or_false] at f;rcases f with rfl|rfl|rfl|rfl|rfl
    .exact SP d1 h
    .intro e H a w;simp[Ψ.cells] at H;subst H;simp[Ψ.cells] at w;subst w;simp
    .trivial
    .trivial
    .trivial
   .exact Pb (λe H a w=>by obtain⟨u,o⟩:=Mr e H;rw[u] at w;simp at w;subst w;exact o) r f
  rcases al with⟨S,e⟩|⟨S,e⟩<;>rcases am [] (Α _) with⟨O,Ρ⟩|⟨O,Ρ⟩
  .rw[Ρ] at aT an;rw[e] at an;rw[e,Ρ];(try simp);(repeat (rw[Θ];simp));(try simp);intro ba;exact W.UZ (σ0:=[ZF d1,YI ZX ZX ZX,.dead,.dead,.dead]) Ω (aT _) (λa w=>by
    simp[Ψ.cells] at w;rcases w with rfl|rfl|rfl
    .exact(YD.2 Tf:ς 0 _).mono (Α _)
    .exact(YD.2 RQ:ς 0 _).mono (Α _)
    .exact an) [(0,.Δ 0 1 0 0),(6,.Δ 1 1 0 0),(9,.ξ [ZD G,ZM L,ZX])] (by simp[Wb,Ψ.cells]) ba
  .omega
  .omega
  .rw[Ρ] at aT an;rw[e] at an;rw[e,Ρ];have ae:(ZO [] nc).length=nc:=SN (Α _);(try simp);(repeat (rw[Θ];simp[ae]));(try simp[ae]);intro ba;exact W.UZ (σ0:=[ZF d1,YI ZX ZX ZX,.dead,.dead,.dead,.cells 60 1 (ZO [] nc)]) Ω (aT _) (λa w=>by
    simp[Ψ.cells] at w;rcases w with rfl|rfl|rfl
    .exact(YD.2 Tf:ς 0 _).mono (Α _)
    .exact(YD.2 RQ:ς 0 _).mono (Α _)
    .exact an) [(0,.Δ 0 1 0 0),(6,.Δ 1 1 0 0),(9,.ξ [ZD G,ZM L,.ms 5 nc 0 nc])] (by simp[Wb,Ψ.cells]) ba)
 obtain⟨K,aU⟩:=Ε L.length;have cA:=aS.lo;have cB:=bF;have cC:=aR.hi;have cD:=aR.lo;obtain⟨g,bb⟩:=Ε G.length;rw[<-bb] at cC cD;rw[<-aU] at cA bF;have dn:(L.map (δ I 1)).length=K:=by rw[X2,aU]
 have ao:=Ud d1 J 2;obtain⟨t0,t1⟩:=SQ d1 2 ZT ZT;obtain⟨bG,bH⟩:=ZG (W9 d1 2);rw[bH] at ao t0 t1;clear bH;obtain⟨P,aV⟩:∃k:Nat,bG=k:=⟨bG.toNat,J⟩;obtain⟨d2,bI⟩:=ZG (d1.after 2);have cE:d2.Z0.length<=d.Z0.length:=by rw[<-bI];exact XQ (WE _ _) cz
 rw[aV,bI] at ao;rw[aV] at t1;have bJ:P<3:=J;obtain⟨ap,bc⟩:=rM P bJ;obtain⟨p,T⟩:=Ε (Yt P);rw[<-T] at ap bc
 repeat apply Ν
 refine W.Xq (A:=[]) Ο [(0,.Δ 0 1 0 0),(6,.Δ 1 1 0 0),(9,.ξ [ZD G,ZM L,ag]),(10,Yu [p.1,p.2])] ([ZF d2,YI ZX ZX ZX,.dead,.dead,.dead]++ZL 60 1 (ZO [] nc)) ?_ (by
  have dp:(P:Int)<3:=J;rcases al with⟨S,e⟩|⟨S,e⟩<;>rcases am [] (Α _) with⟨O,Ρ⟩|⟨O,Ρ⟩
  .rw[e,Ρ];(try simp);(repeat (rw[Θ];simp));(try simp);refine YM.c ao 0 U (ZN.refl _) Ω Ω ?_;clear ao ap bc aV;obtain rfl|rfl|rfl:P=0\/P=1\/P=2:=J
   all_goals
    subst T;simp;(repeat (rw[Θ];simp));(try simp[Yt])
  .omega
  .omega
  .rw[e,Ρ];(try simp);(repeat (rw[Θ];simp));(try simp);refine YM.c ao 0 U (ZN.refl _) Ω Ω ?_;clear ao ap bc aV;obtain rfl|rfl|rfl:P=0\/P=1\/P=2:=J
   all_goals
    subst T;simp;(repeat (rw[Θ];simp));(try simp[Yt]))
 obtain⟨Y,ah⟩:=Ε (⟨G,L,[]⟩:ω);refine Χ ?_;refine W.iter (λx:rH=>x.done.length<=nc/\x.d.Z0.length<=d.Z0.length/\(∀c∈x.done,OQ K c)/\x.rd.length=x.done.length/\(∀r∈x.rd,(-1<=r.1/\r.1<g)/\(-1<=r.2/\r.2<g))/\∀(c:Nat) (r:Int×Int) (m:List YV),x.rd[c]?=some r->x.done[c]?=some m->∀y∈m,Y.VH p r y=true)
  (λx=>[(0,.Δ 0 1 0 0),(6,.Δ 1 1 0 0),(9,.ξ [ZD G,ZM L,ag]),(10,Yu [p.1,p.2]),(11,Y2 6 (x.rd.map Ρ)),(12,I x.done.length)])
  (λx=>[ZF x.d,YI ZX ZX ZX,.dead,.dead,.dead]++ZL 60 1 (ZO x.done nc)++ZL 29 1 (x.rd.map Ρ)) (λx=>nc-x.done.length) ⟨d2,[],[]⟩ ⟨Ω,cE,Ω,U,Ω,Ω⟩ (by simp[U0]) (by simp[Y2]) (λx D bd=>?_)
 obtain⟨Z,done,rd⟩:=x;obtain⟨av,aW,be,Q,bf,bg⟩:=D;simp only at av aW be Q bf bg bd ⊢;obtain⟨c,ai⟩:=Ε done.length;rw[<-ai] at av bd Q;rw[<-ai];have cF:(nc=0/\rd=[])\/0<nc:=by
  by_cases B:nc=0
  .exact .inl ⟨B,YA.1 J⟩
  .exact .inr J
 repeat apply Ν
 refine W.Xq (A:=[]) Ο [(33,ν (decide (c<nc))),(0,.Δ 0 1 0 0),(6,.Δ 1 1 0 0),(9,.ξ [ZD G,ZM L,ag]),(10,Yu [p.1,p.2]),(11,Y2 6 (rd.map Ρ)),(12,I c)] ([ZF Z,YI ZX ZX ZX,.dead,.dead,.dead]++ZL 60 1 (ZO done nc)++ZL 29 1 (rd.map Ρ)) ?_ (by
  have ae:(ZO done nc).length=nc:=SN J;obtain⟨bK,aX⟩:=Ε (ZL 29 1 (rd.map Ρ));obtain⟨bL,aY⟩:=Ε (Y2 6 (rd.map Ρ));rw[<-aX,<-aY];rcases al with⟨S,e⟩|⟨S,e⟩<;>rcases am done J with⟨O,Ρ⟩|⟨O,Ρ⟩
  .rw[e,Ρ,O];(try simp);(repeat (rw[Θ];simp));(try simp)
  .omega
  .omega
  .rw[e,Ρ];(try simp);(repeat (rw[Θ];simp[ae]));(try simp[ae]))
 refine W.YH U (λaq=>?_) (λaq=>?_)
 .have aq:c<nc:=by simpa using aq
  rcases al with⟨S,_⟩|⟨S,e⟩
  .omega
  rcases am done J with⟨O,_⟩|⟨O,aw⟩
  .omega
  obtain⟨M,ax⟩:=Ε (ZO done nc);have ay:M.length=nc:=by rw[ax];exact SN J
  have bh:M[c]?=some ZX:=by rw[ax,ai];exact Bo J
  have cG:∀m,M.set c (UU m)=ZO (done++[m]) nc:=λm=>by rw[ax,ai];exact Bn J m
  have cH:∀e∈M,e.cells=[e]/\ς 0 e:=by rw[ax];exact Mr
  have aZ:M.set c ZX=M:=by
   apply Sj;intro i;rw[List.getElem?_set];split
   .rename_i e;subst e;split
    .exact bh.symm
    .rename_i h;exact(h J).elim
   .rfl
  have bM:L.length=K:=aU.symm
  have bi:G.length=g:=bb.symm;rw[e,aw,<-ax];simp only[List.cons_append,List.nil_append];obtain⟨aa,cI⟩:=Ε ((g:Int)-1:Int);have bj:IntKind.i64.wrap ((g:Int)-1)=aa:=by rw[cI];exact IntWalk.i64_in _ J
  have bN:=OS Z J (-1) aa;obtain⟨a0,a1⟩:=MC Z (a:=-1) (b:=aa) J ZT J;obtain⟨bk,bO⟩:=ZG (TO Z (-1) aa);obtain⟨az,bP⟩:=ZG (Z.after (IntKind.i64.wrap (aa- -1)));have cJ:az.Z0.length<=d.Z0.length:=by rw[<-bP];exact XQ (WE _ _) aW
  rw[bO,bP] at bN;rw[bO] at a0 a1;have bQ:=OS az J (-1) aa;obtain⟨a2,a3⟩:=MC az (a:=-1) (b:=aa) J ZT J;obtain⟨bl,bR⟩:=ZG (TO az (-1) aa);obtain⟨V,bS⟩:=ZG (az.after (IntKind.i64.wrap (aa- -1)));have dq:V.Z0.length<=d.Z0.length:=by rw[<-bS];exact XQ (WE _ _) cJ
  rw[bR,bS] at bQ;rw[bR] at a2 a3;obtain⟨r,f⟩:=Ε ((bk,bl):Int×Int);have cK:r.1=bk:=by rw[f]
  have cL:r.2=bl:=by rw[f]
  obtain⟨bK,aX⟩:=Ε (ZL 29 1 (rd.map Ρ));obtain⟨bL,aY⟩:=Ε (Y2 6 (rd.map Ρ));rw[<-aX,<-aY]
  repeat apply Ν
  refine W.Ik (A:=[]) Ο mixed [(0,.Δ 0 1 0 0),(6,.Δ 1 1 0 0),(9,.ξ [ZD G,ZM L,.ms 5 nc 0 nc]),(10,Yu [p.1,p.2]),(11,bL),(12,I c),(13,Ρ r)] (ZF V::YI ZX ZX ZX::.dead::.dead::.dead::.cells 60 1 M::bK) ?_ (by
   simp;(repeat (rw[UD];simp[bi,bj]));(try rw[UE]);refine YM.e bN (ZN.refl _) Ω Ω ?_;simp;(repeat (rw[UD];simp[bi,bj]));(try rw[UE]);refine YM.e bQ (ZN.refl _) Ω Ω ?_;simp;(repeat (rw[UD];simp[bi,bj]));(try rw[UE]);refine⟨Yq Zr,Yq Zr,?_⟩;simp[f])
  obtain⟨af,a4⟩:=Ε ((rd++[r]).map Ρ);have dr:af.length=c+1:=by rw[a4];simp[Q]
  have cM:∀e∈af,∀a∈e.cells,ς 0 a:=by rw[a4];exact H7
  repeat apply Ν
  refine W.Xq (A:=[52]) Ο [(0,.Δ 0 1 0 0),(6,.Δ 1 1 0 0),(9,.ξ [ZD G,ZM L,.ms 5 nc 0 nc]),(10,Yu [p.1,p.2]),(11,.ms 6 (c+1) 0 (c+1)),(12,I c),(13,Ρ r)] (ZF V::YI ZX ZX ZX::.dead::.dead::.dead::.cells 60 1 M::[.cells 29 1 af]) ?_ (by
   rw[a4,aX,aY];by_cases B:rd=[]
   .subst B;have cN:c=0:=by simpa using Q.symm
    subst cN;have bm:Y2 6 (([]:List Zu).map Ρ)=.sl true 0 []:=rfl;have cO:ZL 29 1 (([]:List Zu).map Ρ)=[]:=rfl;rw[bm,cO];(try simp);(repeat (rw[Θ];simp));(try simp)
   .have bT:rd.map Ρ≠[]:=by simpa using B
    rw[W2 bT,Yd bT];have bU:c<=4294967295:=J;(try simp);(repeat (rw[Θ];simp[Q,bU]));(try simp[Q,bU]))
  have bn:=F2 V J K J
  have a5:=Ih V K
  have bo:∀x∈(WH V K).1,0<=x/\x<K:=λx h=>FX h
  have bV:=FW V K
  have cP:=Ii V K;obtain⟨N,cQ⟩:=ZG ((WH V K).1);obtain⟨a6,cR⟩:=ZG ((WH V K).2);rw[cQ] at bn a5 bo bV;rw[cR] at bn cP;refine XD bM λaQ ad=>?_;refine YM.g (bn) (Z9 ?_);apply ad;have bp:=Ud a6 J K;obtain⟨cS,bW⟩:=SQ a6 K J J;obtain⟨bX,bY⟩:=ZG (W9 a6 K);rw[bY] at bp cS bW;clear bY;obtain⟨ab,aA⟩:∃k:Nat,bX=k:=⟨bX.toNat,J⟩;obtain⟨bZ,b0⟩:=ZG (a6.after K);have cT:bZ.Z0.length<=d.Z0.length:=by rw[<-b0];exact XQ (WE _ _) J
  rw[aA,b0] at bp;rw[aA] at bW;refine XD bM λaQ ad=>?_;refine YM.g (bp) (Z9 ?_);apply ad
  repeat apply Ν
  refine W.iter (λx:Bm=>x.Qs.length+x.k=ab/\x.d.Z0.length<=d.Z0.length/\x.Qs.map (·.YX)=((N.take ab).drop x.k).reverse/\∀y∈x.Qs,((0<=y.seen/\y.seen<=63)/\(0<=y.bare/\y.bare<=63)/\UM y.seen y.bare=0)/\Y.VH p r y=true)
   (λx=>[(0,.Δ 0 1 0 0),(6,.Δ 1 1 0 0),(9,.ξ [ZD G,ZM L,.ms 5 nc 0 nc]),(10,Yu [p.1,p.2]),(11,.ms 6 (c+1) 0 (c+1)),(12,I c),(13,Ρ r),(14,δ I 1 N),(15,I x.k)])
   (λx=>ZF x.d::YI ZX ZX ZX::.dead::.dead::.dead::.cells 60 1 (M.set c (Y2 7 (x.Qs.map Zi)))::.cells 29 1 af::ZL 28 3 (x.Qs.map Zi)) (λx=>x.k) ⟨ab,bZ,[]⟩
   ⟨Ω,cT,Ω,Ω⟩ (by simp only[TF];rw[show Y2 7 []=ZX from rfl,aZ];rfl) Ω (λx D b1=>?_)
  obtain⟨k,E,m⟩:=x;obtain⟨cU,bq,aB,a7⟩:=D;simp only at cU bq aB a7 b1 ⊢;refine Χ ?_;refine W.YH U (λbr=>?_) (λbr=>?_)
  .have aA:0<k:=by simpa using br
   obtain⟨j,cV⟩:∃j,k=j+1:=⟨k-1,J⟩;have X:IntKind.i64.wrap ((k:Int)-1)=j:=by rw[IntWalk.i64_in _ J];omega
   have b2:j<N.length:=J
   have aC:N[j]?=some N[j]:=Z7 b2
   have b3:=bo _ (Yx b2);obtain⟨bs,bt⟩:=Ε (N[j]);rw[<-bt] at aC b3;have a8:∀h,N[j]'h=bs:=λh=>bt.symm;obtain⟨R,b4⟩:∃n:Nat,bs=n:=⟨bs.toNat,J⟩;rw[b4] at aC a8 b3;have cW:(Y2 7 (m.map Zi)=ZX/\ZL 28 3 (m.map Zi)=[]/\m=[])\/(Y2 7 (m.map Zi)=.ms 7 m.length 0 m.length/\ZL 28 3 (m.map Zi)=[.cells 28 3 (m.map Zi)]/\0<m.length):=by
    by_cases B:m=[]
    .subst B;exact .inl ⟨U,U,U⟩
    .have aD:m.map Zi≠[]:=by simpa using B
     exact .inr ⟨by rw[W2 aD,X2],Yd aD,RN.2 B⟩
   have aE:=rN Y p r R (by rw[ah];show R<L.length;omega) (λx D=>by rw[ah] at D;have:=(aS.each x D).1;omega) (by rw[ah,f];show bk<G.length;omega) (by rw[ah,f];show bl<G.length;omega) (ZF E::YI ZX ZX ZX::.dead::.dead::.dead::.cells 60 1 (M.set c (Y2 7 (m.map Zi)))::.cells 29 1 af::ZL 28 3 (m.map Zi)) 5 nc (M.set c (Y2 7 (m.map Zi))) (by rw[Mc];exact ay) U
   have a9:0<=Y.XS p r R/\Y.XS p r R<=63:=by
    have cX:W0 ⟨G,L,[]⟩:=⟨aR,aS,Ω,Ω⟩;rw[ah];exact BF cX p r R
   have b5:∀a b:Int,Y.VH p r ⟨R,a,b⟩=(N' a (Y.XS p r R)==0&&UM (Y.XS p r R) b==0):=λa b=>by unfold ω.VH;simp
   obtain⟨aF,b6⟩:=Ε (Y.XS p r R);rw[<-b6] at aE a9;simp only[<-b6] at b5;rw[ah] at aE
   repeat apply Ν
   refine W.Uo (A:=[]) Ο mixed [(0,.Δ 0 1 0 0),(6,.Δ 1 1 0 0),(9,.ξ [ZD G,ZM L,.ms 5 nc 0 nc]),(10,Yu [p.1,p.2]),(11,.ms 6 (c+1) 0 (c+1)),(12,I c),(13,Ρ r),(14,δ I 1 N),(15,I k),(16,I aF)] (ZF E::YI ZX ZX ZX::.dead::.dead::.dead::.cells 60 1 (M.set c (Y2 7 (m.map Zi)))::.cells 29 1 af::ZL 28 3 (m.map Zi)) ?_ (by
    obtain⟨ds,b7⟩:=Ε (ZL 28 3 (m.map Zi));obtain⟨dt,b8⟩:=Ε (Y2 7 (m.map Zi));rw[<-b7,<-b8] at aE;rw[<-b7,<-b8,f];rw[f] at aE;simp;(repeat (rw[Z1];simp[X,aC,a8,a5]));(try rw[Z2]);refine⟨J,?_⟩;refine Ji (Μ.call (first:=[]) (captured:=[]) (Μ.Tt aE (.cons (.refl _) (.cons .ex (.cons .ex (.cons (.refl _) .nil)))) (λa s h=>⟨_,.refl _,h⟩))) ?_;simp;(repeat (rw[Z1];simp));(try rw[Z2]);refine⟨Yq Zr,?_⟩;simp)
   have bu:=Ud E J 63;obtain⟨a0,a1⟩:=SQ E 63 ZT ZT;obtain⟨aG,b9⟩:=ZG (W9 E 63);obtain⟨aH,b'⟩:=ZG (E.after 63);have cY:aH.Z0.length<=d.Z0.length:=by rw[<-b'];exact XQ (WE _ _) bq
   rw[b9,b'] at bu;rw[b9] at a0 a1;have pick:∀(F:Zd) (x:Int),0<=x->x<=63->0<=([63,x]:ZZ).getD (Ri F [63,x]) 0/\([63,x]:ZZ).getD (Ri F [63,x]) 0<=63:=λF x u o=>by
    match Ri F [63,x] with
    | 0=>simp
    | 1=>simp;omega
    | n+2=>simp
   have bv:=F5 aH J [63,aG] Ω Ω
   have bw:=pick aH aG a0 a1;obtain⟨cZ,ca⟩:=ZG (([63,aG]:ZZ).getD (Ri aH [63,aG]) 0);obtain⟨aI,cb⟩:=ZG (aH.after ((([63,aG]:ZZ).length:Int)-1));have c0:aI.Z0.length<=d.Z0.length:=by rw[<-cb];exact XQ (WE _ _) cY
   rw[ca,cb] at bv;rw[ca] at bw;have bx:=Ud aI J 63;obtain⟨a2,a3⟩:=SQ aI 63 ZT ZT;obtain⟨aJ,cc⟩:=ZG (W9 aI 63);obtain⟨aK,cd⟩:=ZG (aI.after 63);have c1:aK.Z0.length<=d.Z0.length:=by rw[<-cd];exact XQ (WE _ _) c0
   rw[cc,cd] at bx;rw[cc] at a2 a3;have bz:=F5 aK J [63,aJ] Ω Ω;have bA:=pick aK aJ a2 a3;obtain⟨c2,ce⟩:=ZG (([63,aJ]:ZZ).getD (Ri aK [63,aJ]) 0);obtain⟨bB,cf⟩:=ZG (aK.after ((([63,aJ]:ZZ).length:Int)-1));have c3:bB.Z0.length<=d.Z0.length:=by rw[<-cf];exact XQ (WE _ _) c1
   rw[ce,cf] at bz;rw[ce] at bA;obtain⟨cg,_,_⟩:=Mz a9 bw;obtain⟨_,ci,cj⟩:=Mz bA a9;obtain⟨ck,bC⟩:=rJ a9 bw bA;obtain⟨cl,aL⟩:=ZG (XT .i64 aF cZ);obtain⟨cm,aM⟩:=ZG (Uu .i64 c2 aF);rw[aL] at cg ck bC;rw[aM] at ci cj bC;obtain⟨ar,bD⟩:=Ε (⟨R,cl,cm⟩:YV);have cn:(m++[ar]).map Zi≠[]:=Ω
   repeat apply Ν
   refine W.Ik (A:=[105]) Ο mixed [(0,.Δ 0 1 0 0),(6,.Δ 1 1 0 0),(9,.ξ [ZD G,ZM L,.ms 5 nc 0 nc]),(10,Yu [p.1,p.2]),(11,.ms 6 (c+1) 0 (c+1)),(12,I c),(13,Ρ r),(14,δ I 1 N),(15,I k)] (ZF bB::YI ZX ZX ZX::.dead::.dead::.dead::.cells 60 1 (M.set c (Y2 7 ((m++[ar]).map Zi)))::.cells 29 1 af::ZL 28 3 ((m++[ar]).map Zi)) ?_ (by
    rw[W2 cn,Yd cn,X2,Vz,XA,WZ,TF,bD];rcases cW with⟨f1,f2,f3⟩|⟨f1,f2,f3⟩
    .rw[f1,f2,aZ,f3];simp;(repeat (rw[UD];simp[X,aC,a8,a5,ay,bh]));(try rw[UE]);refine⟨J,J,?_⟩;refine YM.h (bu) (Qw ?_);refine YM.e bv (.cons .ex .nil) Ω Ω ?_;simp[aL];(repeat (rw[UD];simp[aL]));(try rw[UE]);refine YM.h (bx) (Qw ?_);refine YM.e bz (.cons .ex .nil) Ω Ω ?_;simp[aM];(repeat (rw[UD];simp[aM,ay,bh]));(try rw[UE]);refine⟨J,?_⟩;refine⟨Yq Zr,Yq Zr,?_⟩;simp
    .rw[f1,f2];have cp:∀v,(M.set c v)[c]?=some v:=λv=>by rw[V0 J]
     have cq:∀v h,(M.set c v)[c]'h=v:=λv h=>List.getElem_set_self h;simp;(repeat (rw[UD];simp[X,aC,a8,a5,ay,cp,cq]));(try rw[UE]);refine⟨J,J,?_⟩;refine YM.h (bu) (Qw ?_);refine YM.e bv (.cons .ex .nil) Ω Ω ?_;simp[aL];(repeat (rw[UD];simp[aL]));(try rw[UE]);refine YM.h (bx) (Qw ?_);refine YM.e bz (.cons .ex .nil) Ω Ω ?_;simp[aM];(repeat (rw[UD];simp[aM,ay,cp,cq]));(try rw[UE]);refine⟨J,J,?_⟩;refine⟨Yq Zr,Yq Zr,?_⟩;simp)
   refine Ι X ?_;have c4:(N.take ab).drop j=(R:Int)::(N.take ab).drop k:=by
    have c5:j<(N.take ab).length:=by rw[Qm];omega
    rw[OM c5,cV,List.getElem_take,<-bt,b4]
   refine W.to (b1 ⟨j,bB,m++[ar]⟩ ⟨by show(m++[ar]).length+j=ab;rw[Vz];simp;omega,c3,?_,λy C=>?_⟩ (by show j<k;omega)) Ω (by simp[X])
   .show(m++[ar]).map (·.YX)=((N.take ab).drop j).reverse;rw[c4,XA,aB,List.reverse_cons,bD];rfl
   .rcases V4.1 C with C|C
    .exact a7 y C
    .simp at C;subst C;subst bD;refine⟨⟨cg,ci,bC⟩,?_⟩;rw[b5];have c6:N' cl aF=0:=ck;have c7:UM aF cm=0:=cj;rw[c6,c7];rfl
  .have aA:k=0:=by simp at br;omega
   subst aA;have du:m.length=ab:=J;rw[List.drop_zero] at aB;have c8:OQ K m:=by
    refine⟨J,?_,λy C=>?_⟩
    .rw[aB];unfold List.Nodup;rw[List.pairwise_reverse];exact(bV.sublist (List.take_sublist _ _)).imp YF
    .have cr:y.YX∈m.map (·.YX):=YO.2 ⟨y,C,U⟩;rw[aB,List.mem_reverse] at cr;have:=bo _ (KH cr);obtain⟨⟨c9,c',da⟩,_⟩:=a7 y C;exact⟨this,c9,c',da⟩
   have X:IntKind.i64.wrap ((c:Int)+1)=((c+1:Nat):Int):=by rw[IntWalk.i64_in _ J];omega
   have db:(done++[m]).length=c+1:=by simp;omega
   have au:=bd ⟨E,done++[m],rd++[r]⟩ ⟨by show(done++[m]).length<=nc;omega,bq,λx D=>by
    rcases V4.1 D with D|D
    .exact be x D
    .simp at D;subst D;exact c8,by show(rd++[r]).length=_;simp[Q,ai],λy C=>by
    rcases V4.1 C with C|C
    .exact bf y C
    .simp at C;subst C;rw[cK,cL];omega,λx y z u o=>by
    by_cases D:x<c
    .rw[Yz J] at u o;exact bg x y z u o
    .rw[Xj J] at u o;have bm:x-rd.length=x-c:=by rw[Q]
     rw[bm] at u;rw[<-ai] at o;cases cs:x-c with
     | zero=>rw[cs] at u o;simp at u o;subst u;subst o;exact λy C=>(a7 y C).2
     | succ q=>rw[cs] at u;simp at u⟩ (by show nc-(done++[m]).length<nc-c;omega)
   have dc:ZO (done++[m]) nc≠[]:=λh=>by
    have:=SN (done:=done++[m]) (nc:=nc) J;rw[h] at this;simp at this;omega
   have ct:(rd++[r]).map Ρ≠[]:=Ω
   have dd:((rd++[r]).map Ρ).length=c+1:=by simp[Q]
   simp only[db] at au;rw[Yd dc,Yd ct,W2 ct,dd,<-a4,<-cG m,e] at au;refine W.exit U ?_;by_cases B:m=[]
   .subst B;rw[show UU []=ZX from rfl,aZ] at au;rw[show Y2 7 (([]:List YV).map Zi)=ZX from rfl,show ZL 28 3 (([]:List YV).map Zi)=[] from rfl,aZ];refine Ι X ?_;exact W.to au U (by simp[X])
   .have aD:m.map Zi≠[]:=by simpa using B
    have ap:UU m=.sl false 3 (m.map Zi):=by unfold UU WT;rw[if_neg (by simpa using B)]
    rw[ap] at au;rw[W2 aD,Yd aD];refine W.PD (σ':=ZF E::YI ZX ZX ZX::.dead::.dead::.dead::.cells 60 1 (M.set c (.sl false 3 (m.map Zi)))::.cells 29 1 af::[.dead]) (id:=7) Ω U U U (λi r hi f=>?_) [(0,.Δ 0 1 0 0),(6,.Δ 1 1 0 0),(9,.ξ [ZD G,ZM L,.ms 5 nc 0 nc]),(10,Yu [p.1,p.2]),(11,.ms 6 (c+1) 0 (c+1)),(12,I c)] (λp T=>by
     simp only[Y9,Yb,or_false] at T;rcases T with rfl|rfl|rfl|rfl|rfl|rfl<;>exact .same _) ?_
    .match i,hi,f with
     | 0,_,f=>exact⟨r,f,.inl rfl⟩
     | 1,_,f=>exact⟨r,f,.inl rfl⟩
     | 2,_,f=>exact⟨r,f,.inl rfl⟩
     | 3,_,f=>exact⟨r,f,.inl rfl⟩
     | 4,_,f=>exact⟨r,f,.inl rfl⟩
     | 5,_,f=>
      simp at f;subst f;refine⟨_,U,.inr ⟨60,1,_,_,U,U,Ω,λy e dv u o=>?_⟩⟩;by_cases C:y=c
      .subst C;rw[V0 J] at u o;cases u;cases o;refine⟨U,λx a bE aN aO=>?_⟩
       match x with
       | 0=>simp[Ψ.cells] at aN aO;subst aN;subst aO;have:=Rf.ms (id:=7) (k:=3) (l:=m.map Zi);rwa [X2] at this
       | x+1=>simp[Ψ.cells] at aN
      .rw[Vp (YF C)] at u o;rw[u] at o;cases o;exact⟨U,λx a bE aN aO=>by rw[aN] at aO;cases aO;exact .same _⟩
     | 6,_,f=>exact⟨r,f,.inl rfl⟩
     | 7,h,_=>exact absurd rfl h
     | i+8,_,f=>simp at f
    refine W.drop (h:=7) Ω Ω (λi r hi f=>?_) U [(0,.Δ 0 1 0 0),(6,.Δ 1 1 0 0),(9,.ξ [ZD G,ZM L,.ms 5 nc 0 nc]),(10,Yu [p.1,p.2]),(11,.ms 6 (c+1) 0 (c+1)),(12,I c)] ?_ ?_
    .match i,hi,f with
     | 0,_,f=>simp at f;subst f;exact SP E 7
     | 1,_,f=>simp at f;subst f;intro e H a w;simp[Ψ.cells] at H;subst H;simp[Ψ.cells] at w;subst w;simp
     | 2,_,f=>simp at f;subst f;trivial
     | 3,_,f=>simp at f;subst f;trivial
     | 4,_,f=>simp at f;subst f;trivial
     | 5,_,f=>
      simp at f;subst f;intro e H a w;rcases KP H with H|rfl
      .obtain⟨u,o⟩:=cH e H;rw[u] at w;simp at w;subst w;exact o.mono (Α _)
      .simp[Ψ.cells] at w;subst w;have:=FH m;rw[ap] at this;exact this.mono (Α _)
     | 6,_,f=>simp at f;subst f;exact λe H a w=>(cM e H a w).mono (Α _)
     | i+7,h,_=>omega
    .intro p T;simp only[Y9,Yb,or_false] at T;rcases T with rfl|rfl|rfl|rfl|rfl|rfl
     .exact⟨U,Wb.2 J⟩
     .exact⟨U,Wb.2 J⟩
     .refine⟨U,Jp.2 λa w=>?_⟩;simp only[Y9,Yb,or_false] at w;rcases w with rfl|rfl|rfl
      .exact(YD.2 Tf:ς 0 _).mono (Α _)
      .exact(YD.2 RQ:ς 0 _).mono (Α _)
      .exact Tw.2 J
     .exact⟨U,Ω⟩
     .exact⟨U,Tw.2 J⟩
     .exact⟨U,.z _⟩
    refine Ι X ?_;exact W.to au U (by simp[X])
 .have aq:c=nc:=by simp at aq;omega
  subst aq;refine W.exit U ?_;have de:W0 ⟨G,L,done⟩:=⟨aR,aS,by show done.length<=4;omega,λx D=>by show OQ L.length x;rw[<-aU];exact be x D⟩;have df:ZO done c=done.map UU:=by rw[ai];exact Bp
  have cu:Bh aj ak ⟨G,L,done⟩ p rd:=⟨⟨P,bJ,T⟩,de,by show done.length<=ak;omega,cy,cB,by show rd.length=done.length;omega,λr f=>by show(-1<=r.1/\r.1<G.length)/\_;rw[<-bb];exact bf r f,λx y h=>by
   unfold ω.R4;show((done[x]?).getD []).all _=true;cases D:done[x]? with
   | none=>rfl
   | some m=>
    refine V5.2 λz B=>?_;have:=bg x y m h D z B;rw[ah] at this;exact this⟩
  have dg:YR (.ZW [ZD G,ZM L,.sl false 1 (done.map UU)]) (Zq ⟨G,L,done⟩):=by
   refine .ZW (.cons (.refl _) (.cons (.refl _) (.cons ?_ .nil)));exact .map λx _=>.one .acc (FG x) U
  have dh:YR (.sl false 1 (rd.map Ρ)) (ZM (Um rd)):=by
   show YR (.sl false 1 (rd.map Ρ)) (.sl false 1 ((Um rd).map (δ I 1)));rw[Ra];exact .map λr _=>.one .ex U U
  rcases al with⟨S,e⟩|⟨S,e⟩<;>rcases am done J with⟨O,aw⟩|⟨O,aw⟩
  .have aP:rd=[]:=by rcases cF with⟨_,h⟩|h;exact h;omega
   have di:done=[]:=YA.1 J;rw[e,aw,aP];rw[show Y2 6 (([]:List Zu).map Ρ)=ZX from rfl,show ZL 29 1 (([]:List Zu).map Ρ)=[] from rfl];refine Χ ?_;refine W.cut 1 Ω [(6,.ξ [ZD G,ZM L,ZX]),(7,Yu [p.1,p.2]),(8,ZX)] Ω (λid r dj f=>?_) (λz B=>?_) ?_
   .have:id=0:=J
    subst this;simp at f;subst f;exact SP Z 1
   .simp only[Y9,Yb,or_false] at B;rcases B with rfl|rfl|rfl
    .show X' 1 _ (Z3 _ 6) _;simp;refine .struct Ω (show _=some (Row.cells _ _ [.ZW _]) from rfl) U λx a bE u o=>?_
     match x with
     | 0=>simp at u o;subst u;subst o;exact .low ((YD.2 Tf:ς 0 _).mono (Α _))
     | 1=>simp at u o;subst u;subst o;exact .low ((YD.2 RQ:ς 0 _).mono (Α _))
     | 2=>simp at u o;subst u;subst o;exact .low Ω
     | x+3=>simp at o
    .exact .low Ω
    .exact .low Ω
   .refine W.ret ⟨_,U,_,Z,?_,⟨_,p,rd,U,cu⟩,U,aW⟩;rw[di,aP];exact .ZY (.cons (.ZW (.cons (.refl _) (.cons (.refl _) (.cons .nil .nil)))) (.cons .ex (.cons .nil .nil)))
  .omega
  .omega
  .have ae:(ZO done c).length=c:=SN J
   have aP:rd.map Ρ≠[]:=λh=>by
    have:(rd.map Ρ).length=0:=by rw[h];rfl
    rw[X2] at this;omega
   rw[e,aw,W2 aP,Yd aP,X2,Q];refine Ι ae ?_;refine W.cut 1 Ω [(6,.ξ [ZD G,ZM L,.sl false 1 (ZO done c)]),(7,Yu [p.1,p.2]),(8,.sl false 1 (rd.map Ρ))] Ω (λid r dj f=>?_) (λz B=>?_) ?_
   .have:id=0:=J
    subst this;simp at f;subst f;exact SP Z 1
   .simp only[Y9,Yb,or_false] at B;rcases B with rfl|rfl|rfl
    .show X' 1 _ (Z3 _ 6) _;simp;refine .struct Ω (show _=some (Row.cells _ _ [.ZW _]) from rfl) U λx a bE u o=>?_
     match x with
     | 0=>simp at u o;subst u;subst o;exact .low ((YD.2 Tf:ς 0 _).mono (Α _))
     | 1=>simp at u o;subst u;subst o;exact .low ((YD.2 RQ:ς 0 _).mono (Α _))
     | 2=>simp at u o;subst u;subst o;exact .own (t:=60) Ω rfl ae (λe H a w=>by
       obtain⟨dk,dl⟩:=Mr e H;rw[dk] at w;simp at w;subst w;exact dl.mono (Α _))
     | x+3=>simp at o
    .exact .low Ω
    .show X' 1 _ (Z3 _ 8) _;simp;exact .own (t:=29) (id:=6) Ω U (by simp[Q]) (λe H a w=>(H7 e H a w).mono (Α _))
   .rw[df];exact W.ret ⟨_,U,_,Z,.ZY (.cons dg (.cons .ex (.cons dh .nil))),⟨_,p,rd,U,cu⟩,U,aW⟩
end Go.TL
namespace Go.TL
open Go.Proofs.Tryz
open Go.Conc Go.Proofs
variable [ZP]
theorem W.XV {P:Program} {m nt:Nat} {k:Zz} {env:Β} {σ:Ξ} {Z:XO} {E:Ya} (env':Β) (d:∀p∈env',YR (Z3 env p.1) p.2) (f:W P m nt k env' σ Z E):W P m nt k env σ Z E:=
 λg mn x cs b S B H t h j a n o=>by
 have r:∀(l:Β),(∀p∈l,YR (Z3 env p.1) p.2)->∀i,YR (Z3 env i) (Z3 l i):=by
  intro l
  induction l with
  | nil=>intro _ i;exact .Ze _
  | cons p l s=>
   intro c i;simp only[Z3];split
   .rename_i e;rw[<-e];exact c p Ω
   .exact s (λq u=>c q (by simp[u])) i
 exact f g mn x cs b S B H t h j ⟨a.holds,λi=>r env' d i S B σ _ (a.Y7 i),a.size,a.rows⟩ n o
end Go.TL
namespace Go.TL
open Go.Proofs.Tryz
open Go.Proofs
variable [ZP]
theorem Bg {n:Nat} {r:Int×Int}:r∈N3 n↔(-1<=r.1/\r.1<n)/\(-1<=r.2/\r.2<n):=by
 unfold N3 WQ TV;simp only[Pv,YO,UT];constructor
 .rintro⟨x,a,y,b,rfl⟩;simp only;omega
 .rintro⟨⟨c,d⟩,e,f⟩;exact⟨(r.1+1).toNat,J,(r.2+1).toNat,J,Prod.ext (by simp only;omega) (by simp only;omega)⟩
theorem rF (d:Array (Int)) (n a b p:Nat) (ae:d.size=n) (ap:n<2 ^ 40) (aq:a<=p) (ar:p<b) (au:b<=n)  :
  Μ prog 205 [.ms 0 n 0 n,I a,I b,I p] [.cells 3 1 ((d).toList.map I)] (λr s=>r=.ZY [I (Go.Sort.partition (Go.Sort.ltInt) d a b p).1,ν (Go.Sort.partition (Go.Sort.ltInt) d a b p).2.1]/\s=[.cells 3 1 (((Go.Sort.partition (Go.Sort.ltInt) d a b p).2.2).toList.map I)]) (λ_ _=>False):=by
 refine Μ.body Ο func205 U U ntmps205 U U Ω ?_;have al:=X3 (i:=a) J;have am:=V6 (i:=b) J J
 repeat apply Ν
 refine Xh ?_;refine W.two I ae (i:=a) (j:=p) J J λL x y z m o F t B=>?_
 repeat apply Ν
 refine W.draw (A:=[]) Ο mixed λH v=>?_;simp;(repeat (rw[Z1];simp[F]));try rw[Z2];refine Zf (v _ _ ?_)
 refine W.back B [(0,.ms 0 n 0 n),(1,I a),(2,I b),(3,I p)] Ω ?_;clear F B t m o L x y z;obtain⟨e,Z⟩:=Ε (Go.Sort.swp d a p);have Q:e.size=n:=by rw[Z];exact swp_size ae a p
 rw[<-Z]
 repeat apply Ν
 refine Ts (Υ al am) ?_;refine W.to (σ':=[.cells 3 1 ((e).toList.map I)]) (env':=[(0,.ms 0 n 0 n),(1,I a),(10,I (a+1:Nat)),(11,I (b-1:Nat))]) ?_ U Ω;obtain⟨c,K⟩:=ZG (Go.Sort.scanUp (λx=>Go.Sort.ltInt x e[a]!) e (b-1) (a+1));obtain⟨k,M⟩:=ZG (Go.Sort.scanDown (λx=>!Go.Sort.ltInt x e[a]!) e c (b-1));obtain⟨af,ag,ah,ai,Y⟩:=OP (λx=>Go.Sort.ltInt x e[a]!) (λx=>!Go.Sort.ltInt x e[a]!) (λx=>rfl) e J J K M;have C:Go.Sort.partition (Go.Sort.ltInt) d a b p=if c > k then(k,true,Go.Sort.swp e k a) else((Go.Sort.partLoop (Go.Sort.ltInt) a (c+1) (k-1) (Go.Sort.swp e c k)).1,false,Go.Sort.swp (Go.Sort.partLoop (Go.Sort.ltInt) a (c+1) (k-1) (Go.Sort.swp e c k)).2 (Go.Sort.partLoop (Go.Sort.ltInt) a (c+1) (k-1) (Go.Sort.swp e c k)).1 a):=by
  unfold Go.Sort.partition;simp only[<-Z,K,M]
 repeat apply Ν
 repeat apply Ν
 refine W.WQ [(0,.ms 0 n 0 n),(1,I a),(10,I (c:Nat)),(11,I (b-1:Nat))] e ?_ ?_
 .refine W.iter (λi:Nat=>(a+1)<=i/\i<=(b-1)+1/\Go.Sort.scanUp (λx=>Go.Sort.ltInt x e[a]!) e (b-1) i=c) (λi=>[(0,.ms 0 n 0 n),(1,I a),(10,I (i:Nat)),(11,I (b-1:Nat))]) (λ_=>[.cells 3 1 ((e).toList.map I)]) (λi=>(b-1)+1-i) ((a+1)) ⟨Z6 _,J,K⟩ U Ω (λi hi E=>?_);obtain⟨S,T,w⟩:=hi;by_cases l:i<=(b-1)
  .refine W.two I Q (i:=i) (j:=a) J J λL x y _ m o F t _=>?_;have D:=X3 (i:=i) J
   repeat apply Ν
   refine W.draw (A:=[]) Ο mixed λH v=>?_;simp;(repeat (rw[Z1];simp[l,F]));try rw[Z2]
   refine Zc (Κ.p (SX x y) (ZN.refl _) Ω Ω) ?_;simp;(repeat (rw[Z1];simp));try rw[Z2]
   refine Zf (v _ _ ?_);by_cases u:x<y
   .refine Ζ (by simp[u]) ?_;refine Ι D ?_;exact W.to (E (i+1) ⟨J,J,My w l (by simp[m,o,u,Go.Sort.ltInt])⟩ Zy) (by rw[t]) (by simp[D])
   .refine Η (by simp[u]) ?_;refine W.exit U ?_;exact W.stop ⟨U,by rw[t],by rw[<-Mx w l (by simp[m,o,u,Go.Sort.ltInt])];simp⟩
  .repeat apply Ν
   refine XJ l ?_;refine Η U ?_;refine W.exit U ?_;exact W.stop ⟨U,U,by rw[<-Mw w l];simp⟩
 repeat apply Ν
 refine W.WQ [(0,.ms 0 n 0 n),(1,I a),(10,I (c:Nat)),(11,I (k:Nat))] e ?_ ?_
 .refine W.iter (λi:Nat=>i<=(b-1)/\c<=i+1/\Go.Sort.scanDown (λx=>!Go.Sort.ltInt x e[a]!) e c i=k) (λi=>[(0,.ms 0 n 0 n),(1,I a),(10,I (c:Nat)),(11,I (i:Nat))]) (λ_=>[.cells 3 1 ((e).toList.map I)]) (λi=>i+1-c) ((b-1)) ⟨Z6 _,J,M⟩ U Ω (λi hi E=>?_);obtain⟨S,T,w⟩:=hi;by_cases l:c<=i
  .refine W.two I Q (i:=i) (j:=a) J J λL x y _ m o F t _=>?_;have D:=V6 (i:=i) J J
   repeat apply Ν
   refine W.draw (A:=[]) Ο mixed λH v=>?_;simp;(repeat (rw[Z1];simp[l,F]));try rw[Z2]
   refine Zc (Κ.p (SX x y) (ZN.refl _) Ω Ω) ?_;simp;(repeat (rw[Z1];simp));try rw[Z2]
   refine Zf (v _ _ ?_);by_cases u:x<y
   .refine Η (by simp[u]) ?_;refine W.exit U ?_;exact W.stop ⟨U,by rw[t],by rw[<-Mu w l J (by simp[m,o,u,Go.Sort.ltInt])];simp⟩
   .refine Ζ (by simp[u]) ?_;refine Ι D ?_;exact W.to (E (i-1) ⟨J,J,Mv w l J (by simp[m,o,u,Go.Sort.ltInt])⟩ Zy) (by rw[t]) (by simp[D])
  .repeat apply Ν
   refine XJ l ?_;refine Η U ?_;refine W.exit U ?_;exact W.stop ⟨U,U,by rw[<-Mt w l];simp⟩
 repeat apply Ν
 by_cases l:c > k
 .have N:((k:Nat):Int)<(c:Nat):=J
  refine Ι N ?_;refine Ζ (by simp[l]) ?_;refine W.two I Q (i:=k) (j:=a) J J λL x y z m o F t B=>?_
  repeat apply Ν
  refine W.draw (A:=[]) Ο mixed λH v=>?_;simp;(repeat (rw[Z1];simp[F]));try rw[Z2];refine Zf (v _ _ ?_)
  refine W.back B [(0,.ms 0 n 0 n),(1,I a),(10,I (c:Nat)),(11,I (k:Nat))] Ω ?_;clear F B t m o L x y z;refine Χ ?_;exact W.ret ⟨_,U,by rw[C,if_pos l];rfl,by rw[C,if_pos l]⟩
 have N:¬((k:Nat):Int)<(c:Nat):=J
 have an:=Y J
 have O:=X3 (i:=c) J
 have P:=V6 (i:=k) J J;refine Ι N ?_;refine Η (by simp[l]) ?_;refine W.two I Q (i:=c) (j:=k) J J λL x y z m o F t B=>?_
 repeat apply Ν
 refine W.draw (A:=[]) Ο mixed λH v=>?_;simp;(repeat (rw[Z1];simp[F]));try rw[Z2];refine Zf (v _ _ ?_)
 refine W.back B [(0,.ms 0 n 0 n),(1,I a),(10,I (c:Nat)),(11,I (k:Nat))] Ω ?_;clear F B t m o L x y z;have aa:=swp_size Q c k;rw[if_neg l] at C;obtain⟨g,ab⟩:=Ε (Go.Sort.swp e c k);rw[<-ab] at C aa;rw[<-ab];refine Ι (Υ O P) ?_;refine W.to (σ':=[.cells 3 1 ((g).toList.map I)]) (env':=[(0,.ms 0 n 0 n),(1,I a),(10,I (c+1:Nat)),(11,I (k-1:Nat))]) ?_ U (by simp[O,P]);have av:a<c:=J;have aw:k<b:=J;have ax:c+1<=k-1+1:=J;clear K M N l af ag ah ai Y ab O P;obtain⟨R,ad⟩:=ZG (Go.Sort.partLoop (Go.Sort.ltInt) a (c+1) (k-1) g)
 repeat apply Ν
 refine W.WQ [(0,.ms 0 n 0 n),(1,I a),(11,I R.1)] R.2 ?_ ?_
 .refine W.iter (λq:Nat×Nat×Array (Int)=>q.2.2.size=n/\a<q.1/\q.1<=q.2.1+1/\q.2.1<b/\Go.Sort.partLoop (Go.Sort.ltInt) a q.1 q.2.1 q.2.2=R) (λq=>[(0,.ms 0 n 0 n),(1,I a),(10,I (q.1:Nat)),(11,I (q.2.1:Nat))]) (λq=>[.cells 3 1 ((q.2.2).toList.map I)]) (λq=>q.2.1+1-q.1) (c+1,k-1,g) ⟨aa,Zy,Zy,Zy,ad⟩ U Ω (λq hi E=>?_);obtain⟨i,j,f⟩:=q;obtain⟨V,S,T,w,X⟩:=hi;simp only at V S T w X;obtain⟨c,K⟩:=ZG (Go.Sort.scanUp (λx=>Go.Sort.ltInt x f[a]!) f (j) (i));obtain⟨k,M⟩:=ZG (Go.Sort.scanDown (λx=>!Go.Sort.ltInt x f[a]!) f c (j));obtain⟨af,ag,ah,ai,Y⟩:=OP (λx=>Go.Sort.ltInt x f[a]!) (λx=>!Go.Sort.ltInt x f[a]!) (λx=>rfl) f J J K M;have C:Go.Sort.partLoop (Go.Sort.ltInt) a i j f=if c > k then(k,f) else Go.Sort.partLoop (Go.Sort.ltInt) a (c+1) (k-1) (Go.Sort.swp f c k):=by
   rw[Go.Sort.partLoop_eq];simp only[K,M]
  refine W.to (σ':=[.cells 3 1 ((f).toList.map I)]) (env':=[(0,.ms 0 n 0 n),(1,I a),(10,I (i:Nat)),(11,I (j:Nat))]) ?_ U Ω;refine W.block ?_
  repeat apply Ν
  refine W.WQ [(0,.ms 0 n 0 n),(1,I a),(10,I (c:Nat)),(11,I (j:Nat))] f ?_ ?_
  .refine W.iter (λi:Nat=>(i)<=i/\i<=(j)+1/\Go.Sort.scanUp (λx=>Go.Sort.ltInt x f[a]!) f (j) i=c) (λi=>[(0,.ms 0 n 0 n),(1,I a),(10,I (i:Nat)),(11,I (j:Nat))]) (λ_=>[.cells 3 1 ((f).toList.map I)]) (λi=>(j)+1-i) ((i)) ⟨Z6 _,J,K⟩ U Ω (λi hi E=>?_);obtain⟨S,T,w⟩:=hi;by_cases l:i<=(j)
   .refine W.two I V (i:=i) (j:=a) J J λL x y _ m o F t _=>?_;have D:=X3 (i:=i) J
    repeat apply Ν
    refine W.draw (A:=[]) Ο mixed λH v=>?_;simp;(repeat (rw[Z1];simp[l,F]));try rw[Z2]
    refine Zc (Κ.p (SX x y) (ZN.refl _) Ω Ω) ?_;simp;(repeat (rw[Z1];simp));try rw[Z2]
    refine Zf (v _ _ ?_);by_cases u:x<y
    .refine Ζ (by simp[u]) ?_;refine Ι D ?_;exact W.to (E (i+1) ⟨J,J,My w l (by simp[m,o,u,Go.Sort.ltInt])⟩ Zy) (by rw[t]) (by simp[D])
    .refine Η (by simp[u]) ?_;refine W.exit U ?_;exact W.stop ⟨U,by rw[t],by rw[<-Mx w l (by simp[m,o,u,Go.Sort.ltInt])];simp⟩
   .repeat apply Ν
    refine XJ l ?_;refine Η U ?_;refine W.exit U ?_;exact W.stop ⟨U,U,by rw[<-Mw w l];simp⟩
  repeat apply Ν
  refine W.WQ [(0,.ms 0 n 0 n),(1,I a),(10,I (c:Nat)),(11,I (k:Nat))] f ?_ ?_
  .refine W.iter (λi:Nat=>i<=(j)/\c<=i+1/\Go.Sort.scanDown (λx=>!Go.Sort.ltInt x f[a]!) f c i=k) (λi=>[(0,.ms 0 n 0 n),(1,I a),(10,I (c:Nat)),(11,I (i:Nat))]) (λ_=>[.cells 3 1 ((f).toList.map I)]) (λi=>i+1-c) ((j)) ⟨Z6 _,J,M⟩ U Ω (λi hi E=>?_);obtain⟨S,T,w⟩:=hi;by_cases l:c<=i
   .refine W.two I V (i:=i) (j:=a) J J λL x y _ m o F t _=>?_;have D:=V6 (i:=i) J J
    repeat apply Ν
    refine W.draw (A:=[]) Ο mixed λH v=>?_;simp;(repeat (rw[Z1];simp[l,F]));try rw[Z2]
    refine Zc (Κ.p (SX x y) (ZN.refl _) Ω Ω) ?_;simp;(repeat (rw[Z1];simp));try rw[Z2]
    refine Zf (v _ _ ?_);by_cases u:x<y
    .refine Η (by simp[u]) ?_;refine W.exit U ?_;exact W.stop ⟨U,by rw[t],by rw[<-Mu w l J (by simp[m,o,u,Go.Sort.ltInt])];simp⟩
    .refine Ζ (by simp[u]) ?_;refine Ι D ?_;exact W.to (E (i-1) ⟨J,J,Mv w l J (by simp[m,o,u,Go.Sort.ltInt])⟩ Zy) (by rw[t]) (by simp[D])
   .repeat apply Ν
    refine XJ l ?_;refine Η U ?_;refine W.exit U ?_;exact W.stop ⟨U,U,by rw[<-Mt w l];simp⟩
  repeat apply Ν
  by_cases l:c > k
  .have N:((k:Nat):Int)<(c:Nat):=J
   refine Ι N ?_;refine Ζ (by simp[l]) ?_;refine W.exit U ?_;rw[C,if_pos l] at X;exact W.stop ⟨U,by rw[<-X],by rw[<-X];simp⟩
  .have N:¬((k:Nat):Int)<(c:Nat):=J
   have an:=Y J
   have O:=X3 (i:=c) J
   have P:=V6 (i:=k) J J;refine Ι N ?_;refine Η (by simp[l]) ?_;refine W.two I V (i:=c) (j:=k) J J λL x y z m o F t B=>?_
   repeat apply Ν
   refine W.draw (A:=[]) Ο mixed λH v=>?_;simp;(repeat (rw[Z1];simp[F]));try rw[Z2];refine Zf (v _ _ ?_)
   refine W.back B [(0,.ms 0 n 0 n),(1,I a),(10,I (c:Nat)),(11,I (k:Nat))] Ω ?_;clear F B t m o L x y z;refine Ι (Υ O P) ?_;exact W.to (E (c+1,k-1,Go.Sort.swp f c k) ⟨swp_size V c k,Zy,Zy,Zy,by simp;rw[<-X,C,if_neg l]⟩ Zy) U (by simp[O,P])
 rw[ad] at C;have aj:=BK (Go.Sort.ltInt) (a:=a) (b:=b) _ (c+1) (k-1) g (Z6 _) aa J J J;rw[ad] at aj;obtain⟨ak,ao⟩:=aj;obtain⟨j,h⟩:=R;simp only at ak ao C;refine W.two I ak (i:=j) (j:=a) J J λL x y z m o F t B=>?_
 repeat apply Ν
 refine W.draw (A:=[]) Ο mixed λH v=>?_;simp;(repeat (rw[Z1];simp[F]));try rw[Z2];refine Zf (v _ _ ?_)
 refine W.back B [(0,.ms 0 n 0 n),(1,I a),(11,I (j:Nat))] Ω ?_;clear F B t m o L x y z;refine Χ ?_;exact W.ret ⟨_,U,by rw[C];rfl,by rw[C]⟩
theorem rE (d:Array (Int)) (n a b p:Nat) (S:d.size=n) (ad:n<2 ^ 40) (ae:a<=p) (af:p<b) (ag:b<=n)  :
  Μ prog 204 [.ms 0 n 0 n,I a,I b,I p] [.cells 3 1 ((d).toList.map I)] (λr s=>r=I (Go.Sort.partitionEqual (Go.Sort.ltInt) d a b p).1/\s=[.cells 3 1 (((Go.Sort.partitionEqual (Go.Sort.ltInt) d a b p).2).toList.map I)]) (λ_ _=>False):=by
 refine Μ.body Ο func204 U U ntmps204 U U Ω ?_;have Y:=X3 (i:=a) J;have Z:=V6 (i:=b) J J
 repeat apply Ν
 refine Xh ?_;refine W.two I S (i:=a) (j:=p) J J λL x y z k l F m v=>?_
 repeat apply Ν
 refine W.draw (A:=[]) Ο mixed λH u=>?_;simp;(repeat (rw[Z1];simp[F]));try rw[Z2];refine Zf (u _ _ ?_)
 refine W.back v [(0,.ms 0 n 0 n),(1,I a),(2,I b),(3,I p)] Ω ?_;clear F v m k l L x y z;obtain⟨e,K⟩:=Ε (Go.Sort.swp d a p);have aa:e.size=n:=by rw[K];exact swp_size S a p
 rw[<-K]
 repeat apply Ν
 refine Ts (Υ Y Z) ?_;refine W.to (σ':=[.cells 3 1 ((e).toList.map I)]) (env':=[(0,.ms 0 n 0 n),(1,I a),(9,I (a+1:Nat)),(10,I (b-1:Nat))]) ?_ U Ω;obtain⟨R,T⟩:=ZG (Go.Sort.partEqLoop (Go.Sort.ltInt) a (a+1) (b-1) e)
 repeat apply Ν
 refine W.WQ [(9,I R.1)] R.2 ?_ ?_
 .refine W.iter (λq:Nat×Nat×Array (Int)=>q.2.2.size=n/\a<q.1/\q.1<=q.2.1+1/\q.2.1<b/\Go.Sort.partEqLoop (Go.Sort.ltInt) a q.1 q.2.1 q.2.2=R) (λq=>[(0,.ms 0 n 0 n),(1,I a),(9,I (q.1:Nat)),(10,I (q.2.1:Nat))]) (λq=>[.cells 3 1 ((q.2.2).toList.map I)]) (λq=>q.2.1+1-q.1) (a+1,b-1,e) ⟨aa,Zy,Zy,Zy,T⟩ U Ω (λq hi w=>?_);obtain⟨i,j,f⟩:=q;obtain⟨B,M,N,o,C⟩:=hi;simp only at B M N o C;obtain⟨c,O⟩:=ZG (Go.Sort.scanUp (λx=>!Go.Sort.ltInt f[a]! x) f (j) (i));obtain⟨h,P⟩:=ZG (Go.Sort.scanDown (λx=>Go.Sort.ltInt f[a]! x) f c (j));obtain⟨ah,ai,aj,ak,ab⟩:=OP (λx=>!Go.Sort.ltInt f[a]! x) (λx=>Go.Sort.ltInt f[a]! x) (λx=>Ω) f J J O P;have D:Go.Sort.partEqLoop (Go.Sort.ltInt) a i j f=if c > h then(c,f) else Go.Sort.partEqLoop (Go.Sort.ltInt) a (c+1) (h-1) (Go.Sort.swp f c h):=by
   rw[Go.Sort.partEqLoop_eq];simp only[O,P]
  refine W.to (σ':=[.cells 3 1 ((f).toList.map I)]) (env':=[(0,.ms 0 n 0 n),(1,I a),(9,I (i:Nat)),(10,I (j:Nat))]) ?_ U Ω;refine W.block ?_
  repeat apply Ν
  refine W.WQ [(0,.ms 0 n 0 n),(1,I a),(9,I (c:Nat)),(10,I (j:Nat))] f ?_ ?_
  .refine W.iter (λi:Nat=>(i)<=i/\i<=(j)+1/\Go.Sort.scanUp (λx=>!Go.Sort.ltInt f[a]! x) f (j) i=c) (λi=>[(0,.ms 0 n 0 n),(1,I a),(9,I (i:Nat)),(10,I (j:Nat))]) (λ_=>[.cells 3 1 ((f).toList.map I)]) (λi=>(j)+1-i) ((i)) ⟨Z6 _,J,O⟩ U Ω (λi hi w=>?_);obtain⟨M,N,o⟩:=hi;by_cases g:i<=(j)
   .refine W.two I B (i:=i) (j:=a) J J λL x y _ k l F m _=>?_;have E:=X3 (i:=i) J
    repeat apply Ν
    refine W.draw (A:=[]) Ο mixed λH u=>?_;simp;(repeat (rw[Z1];simp[g,F]));try rw[Z2]
    refine Zc (Κ.p (SX y x) (ZN.refl _) Ω Ω) ?_;simp;(repeat (rw[Z1];simp));try rw[Z2]
    refine Zf (u _ _ ?_);by_cases t:y<x
    .refine Η (by simp[t]) ?_;refine W.exit U ?_;exact W.stop ⟨U,by rw[m],by rw[<-Mx o g (by simp[k,l,t,Go.Sort.ltInt])];simp⟩
    .refine Ζ (by simp[t]) ?_;refine Ι E ?_;exact W.to (w (i+1) ⟨J,J,My o g (by simp[k,l,t,Go.Sort.ltInt])⟩ Zy) (by rw[m]) (by simp[E])
   .repeat apply Ν
    refine XJ g ?_;refine Η U ?_;refine W.exit U ?_;exact W.stop ⟨U,U,by rw[<-Mw o g];simp⟩
  repeat apply Ν
  refine W.WQ [(0,.ms 0 n 0 n),(1,I a),(9,I (c:Nat)),(10,I (h:Nat))] f ?_ ?_
  .refine W.iter (λi:Nat=>i<=(j)/\c<=i+1/\Go.Sort.scanDown (λx=>Go.Sort.ltInt f[a]! x) f c i=h) (λi=>[(0,.ms 0 n 0 n),(1,I a),(9,I (c:Nat)),(10,I (i:Nat))]) (λ_=>[.cells 3 1 ((f).toList.map I)]) (λi=>i+1-c) ((j)) ⟨Z6 _,J,P⟩ U Ω (λi hi w=>?_);obtain⟨M,N,o⟩:=hi;by_cases g:c<=i
   .refine W.two I B (i:=i) (j:=a) J J λL x y _ k l F m _=>?_;have E:=V6 (i:=i) J J
    repeat apply Ν
    refine W.draw (A:=[]) Ο mixed λH u=>?_;simp;(repeat (rw[Z1];simp[g,F]));try rw[Z2]
    refine Zc (Κ.p (SX y x) (ZN.refl _) Ω Ω) ?_;simp;(repeat (rw[Z1];simp));try rw[Z2]
    refine Zf (u _ _ ?_);by_cases t:y<x
    .refine Ζ (by simp[t]) ?_;refine Ι E ?_;exact W.to (w (i-1) ⟨J,J,Mv o g J (by simp[k,l,t,Go.Sort.ltInt])⟩ Zy) (by rw[m]) (by simp[E])
    .refine Η (by simp[t]) ?_;refine W.exit U ?_;exact W.stop ⟨U,by rw[m],by rw[<-Mu o g J (by simp[k,l,t,Go.Sort.ltInt])];simp⟩
   .repeat apply Ν
    refine XJ g ?_;refine Η U ?_;refine W.exit U ?_;exact W.stop ⟨U,U,by rw[<-Mt o g];simp⟩
  repeat apply Ν
  by_cases g:c > h
  .have Q:((h:Nat):Int)<(c:Nat):=J
   refine Ι Q ?_;refine Ζ (by simp[g]) ?_;refine W.exit U ?_;rw[D,if_pos g] at C;exact W.stop ⟨U,by rw[<-C],by rw[<-C];simp⟩
  .have Q:¬((h:Nat):Int)<(c:Nat):=J
   have al:=ab J
   have V:=X3 (i:=c) J
   have X:=V6 (i:=h) J J;refine Ι Q ?_;refine Η (by simp[g]) ?_;refine W.two I B (i:=c) (j:=h) J J λL x y z k l F m v=>?_
   repeat apply Ν
   refine W.draw (A:=[]) Ο mixed λH u=>?_;simp;(repeat (rw[Z1];simp[F]));try rw[Z2];refine Zf (u _ _ ?_)
   refine W.back v [(0,.ms 0 n 0 n),(1,I a),(9,I (c:Nat)),(10,I (h:Nat))] Ω ?_;clear F v m k l L x y z;refine Ι (Υ V X) ?_;exact W.to (w (c+1,h-1,Go.Sort.swp f c h) ⟨swp_size B c h,Zy,Zy,Zy,by simp;rw[<-C,D,if_neg g]⟩ Zy) U (by simp[V,X])
 refine Χ ?_;have D:Go.Sort.partitionEqual (Go.Sort.ltInt) d a b p=R:=by unfold Go.Sort.partitionEqual;rw[<-K,T]
 exact W.ret ⟨_,U,by rw[D];rfl,by rw[D]⟩
end Go.TL
