import Derived.Test.YtlabjopijpkiaaaGreatCAK
set_option maxHeartbeats 16000000
set_option maxRecDepth 20000
set_option linter.unusedSectionVars false
set_option linter.unusedSimpArgs false
set_option linter.unusedVariables false
namespace Go.TL
open Go.Proofs.Tryz
open Go.Proofs
variable [ZN]
theorem sd:∀n<64,∀s<64,U2 .i64 (s:Nat) (n:Nat)=0->∀o<64,XY .i64 (s:Nat) (U2 .i64 (o:Nat) (n:Nat))=0:=by decide +kernel
theorem sc:∀n<64,∀o<64,U2 .i64 (XY .i64 (n:Nat) (o:Nat)) (n:Nat)=0:=by decide +kernel
theorem sb {n a b:Int} (c:0<=n/\n<=63) (d:0<=a/\a<=63) (h:0<=b/\b<=63):U2 .i64 (XY .i64 n a) n=0/\XY .i64 (XY .i64 n a) (U2 .i64 b n)=0:=by
 obtain⟨⟨i,f⟩,_,_⟩:=MK c d;obtain⟨x,rfl⟩:∃x:Nat,n=x:=⟨n.toNat,U⟩;obtain⟨y,rfl⟩:∃y:Nat,a=y:=⟨a.toNat,U⟩;obtain⟨z,rfl⟩:∃z:Nat,b=z:=⟨b.toNat,U⟩;have e:=sc x U y U;refine⟨e,?_⟩;obtain⟨w,g⟩:∃w:Nat,XY .i64 (x:Int) (y:Int)=w:=⟨(XY .i64 (x:Int) (y:Int)).toNat,U⟩;rw[g] at e f ⊢;exact sd x U w U e z U
structure BJ (a b:Nat) (s:υ) (p:Int×Int) (rd:List (Int×Int)):Prop where
 o5:∃k,k<3/\p=X2 k
 PK:WV s
 many:s.cells.length<=b
 Rw:s.Α.length<=a
 Iy:s.Β.length<=3
 len:rd.length=s.cells.length
 each:∀r∈rd,(-1<=r.1/\r.1<s.Α.length)/\(-1<=r.2/\r.2<s.Α.length)
 right:∀(c:Nat) (r:Int×Int),rd[c]?=some r->s.Sa p r c=true
structure sa where
 d:Zg
 done:List (List ZF)
 rd:List (Int×Int)
theorem r9 (d:Zg) (hd:d.Z3.length<2 ^ 63) (ak al:Nat) (cw:1<=ak) (cx:ak<=6) (cy:al<=4) :
  Rk 32 [R ak,R al] d (λr=>∃s p rd,r=.ZV [ZB s,ζ R 1 [p.1,p.2],θ (Sw rd)]/\BJ ak al s p rd):=by
 unfold Rk;refine Μ.body Υ func32 rfl rfl ntmps32 rfl rfl J ?_
 repeat apply Ξ
 refine Zj (A:=[6]) Υ λaR ae=>ZY ?_;apply ae
 repeat apply Ξ
 refine W.Ze ?_;refine W.part (A:=[9]) Υ [0,1,2,3] [4,5] rfl λaR ae=>?_;(try simp);(repeat (rw[Ν];simp));refine Ce d hd ak al cw cx cy rfl ?_;intro G L nc d1 aS aT ⟨dn,cz,bG⟩ cA;simp only[List.length_cons,List.length_nil,Nat.reduceAdd,List.set_cons_zero,List.cons_append,List.nil_append];obtain⟨ah,ba⟩:=Ι (Z4 5 (List.replicate nc γ));have am:(nc=0/\ah=γ)\/(0<nc/\ah=.ms 5 nc 0 nc):=by
  by_cases B:nc=0
  .subst B;exact .inl ⟨rfl,ba⟩
  .exact .inr ⟨U,by rw[ba,X8 (by simp[B]),PG]⟩
 have an:∀done:List (List ZF),done.length<=nc->(nc=0/\μ 60 1 (ZQ done nc)=[])\/(0<nc/\μ 60 1 (ZQ done nc)=[.cells 60 1 (ZQ done nc)]):=λdone aw=>by
  by_cases B:nc=0
  .subst B;have:=YP.1 (S1 aw);exact .inl ⟨rfl,by rw[this];rfl⟩
  .exact .inr ⟨U,YY (λh=>by have:=S1 aw;rw[h] at this;simp at this;omega)⟩
 rw[<-ba,<-BQ];rw[LZ,SK];apply ae;clear ae aR;have ao:ψ ([ZK d1,ZI γ γ γ,.dead,.dead,.dead]++μ 60 1 (ZQ [] nc)).length ah:=by
  rcases am with⟨_,e⟩|⟨T,e⟩
  .rw[e];simp
  .rcases an [] (Ε _) with⟨O,_⟩|⟨_,Φ⟩
   .omega
   .rw[e,Φ];exact UF.2 J
 refine W.BR (A:=[9]) Υ [(0,.Ο 0 1 0 0),(6,.Ο 1 1 0 0),(9,.ω [Z6 G,θ L,ah])] ([ZK d1,ZI γ γ γ,.dead,.dead,.dead]++μ 60 1 (ZQ [] nc)) ?_ (by
  have aU:∀h,∀r∈[ZK d1,ZI γ γ γ,.dead,.dead,.dead]++μ 60 1 (ZQ [] nc),Yc h r:=λh r f=>by
   rcases WK.1 f with f|f
   .simp only[Zm,YM,or_false] at f;rcases f with rfl|rfl|rfl|rfl|rfl
    .exact Tz d1 h
    .intro e H a w;simp[I.cells] at H;subst H;simp[I.cells] at w;subst w;simp
    .trivial
    .trivial
    .trivial
   .exact QS (λe H a w=>by obtain⟨u,o⟩:=MF e H;rw[u] at w;simp at w;subst w;exact o) r f
  rcases am with⟨T,e⟩|⟨T,e⟩<;>rcases an [] (Ε _) with⟨O,Φ⟩|⟨O,Φ⟩
  .rw[Φ] at aU ao;rw[e] at ao;rw[e,Φ];(try simp);(repeat (rw[Ν];simp));(try simp);intro bb;exact W.VI (σ0:=[ZK d1,ZI γ γ γ,.dead,.dead,.dead]) J (aU _) (λa w=>by
    simp[I.cells] at w;rcases w with rfl|rfl|rfl
    .exact(Y6.2 Ty:ψ 0 _).mono (Ε _)
    .exact(Y6.2 RX:ψ 0 _).mono (Ε _)
    .exact ao) [(0,.Ο 0 1 0 0),(6,.Ο 1 1 0 0),(9,.ω [Z6 G,θ L,γ])] (by simp[Xz,I.cells]) bb
  .omega
  .omega
  .rw[Φ] at aU ao;rw[e] at ao;rw[e,Φ];have af:(ZQ [] nc).length=nc:=S1 (Ε _);(try simp);(repeat (rw[Ν];simp[af]));(try simp[af]);intro bb;exact W.VI (σ0:=[ZK d1,ZI γ γ γ,.dead,.dead,.dead,.cells 60 1 (ZQ [] nc)]) J (aU _) (λa w=>by
    simp[I.cells] at w;rcases w with rfl|rfl|rfl
    .exact(Y6.2 Ty:ψ 0 _).mono (Ε _)
    .exact(Y6.2 RX:ψ 0 _).mono (Ε _)
    .exact ao) [(0,.Ο 0 1 0 0),(6,.Ο 1 1 0 0),(9,.ω [Z6 G,θ L,.ms 5 nc 0 nc])] (by simp[Xz,I.cells]) bb)
 obtain⟨K,aV⟩:=Ι L.length;have cB:=aT.lo;have cC:=bG;have cD:=aS.hi;have cE:=aS.lo;obtain⟨g,bc⟩:=Ι G.length;rw[<-bc] at cD cE;rw[<-aV] at cB bG;have dp:(L.map (ζ R 1)).length=K:=by rw[Yp,aV]
 have ap:=U9 d1 U 2;obtain⟨t0,t1⟩:=S5 d1 2 Z0 Z0;obtain⟨bH,bI⟩:=Zl (XD d1 2);rw[bI] at ap t0 t1;clear bI;obtain⟨P,aW⟩:∃k:Nat,bH=k:=⟨bH.toNat,U⟩;obtain⟨d2,bJ⟩:=Zl (d1.after 2);have cF:d2.Z3.length<=d.Z3.length:=by rw[<-bJ];exact X1 (Xc _ _) cA
 rw[aW,bJ] at ap;rw[aW] at t1;have bK:P<3:=U;obtain⟨aq,bd⟩:=se P bK;obtain⟨p,V⟩:=Ι (X2 P);rw[<-V] at aq bd
 repeat apply Ξ
 refine W.Yn (A:=[]) Υ [(0,.Ο 0 1 0 0),(6,.Ο 1 1 0 0),(9,.ω [Z6 G,θ L,ah]),(10,ZE [p.1,p.2])] ([ZK d2,ZI γ γ γ,.dead,.dead,.dead]++μ 60 1 (ZQ [] nc)) ?_ (by
  have dq:(P:Int)<3:=U;rcases am with⟨T,e⟩|⟨T,e⟩<;>rcases an [] (Ε _) with⟨O,Φ⟩|⟨O,Φ⟩
  .rw[e,Φ];(try simp);(repeat (rw[Ν];simp));(try simp);refine Y3.c ap 0 rfl (ZT.refl _) J J ?_;clear ap aq bd aW;obtain rfl|rfl|rfl:P=0\/P=1\/P=2:=U
   all_goals
    subst V;simp;(repeat (rw[Ν];simp));(try simp[X2])
  .omega
  .omega
  .rw[e,Φ];(try simp);(repeat (rw[Ν];simp));(try simp);refine Y3.c ap 0 rfl (ZT.refl _) J J ?_;clear ap aq bd aW;obtain rfl|rfl|rfl:P=0\/P=1\/P=2:=U
   all_goals
    subst V;simp;(repeat (rw[Ν];simp));(try simp[X2]))
 obtain⟨Z,ai⟩:=Ι (⟨G,L,[]⟩:υ);refine Χ ?_;refine W.iter (λx:sa=>x.done.length<=nc/\x.d.Z3.length<=d.Z3.length/\(∀c∈x.done,QA K c)/\x.rd.length=x.done.length/\(∀r∈x.rd,(-1<=r.1/\r.1<g)/\(-1<=r.2/\r.2<g))/\∀(c:Nat) (r:Int×Int) (m:List ZF),x.rd[c]?=some r->x.done[c]?=some m->∀y∈m,Z.V3 p r y=true)
  (λx=>[(0,.Ο 0 1 0 0),(6,.Ο 1 1 0 0),(9,.ω [Z6 G,θ L,ah]),(10,ZE [p.1,p.2]),(11,Z4 6 (x.rd.map Φ)),(12,R x.done.length)])
  (λx=>[ZK x.d,ZI γ γ γ,.dead,.dead,.dead]++μ 60 1 (ZQ x.done nc)++μ 29 1 (x.rd.map Φ)) (λx=>nc-x.done.length) ⟨d2,[],[]⟩ ⟨J,cF,J,rfl,J,J⟩ (by simp[Wo]) (by simp[Z4]) (λx D be=>?_)
 obtain⟨aa,done,rd⟩:=x;obtain⟨aw,aX,bf,Q,bg,bh⟩:=D;simp only at aw aX bf Q bg bh be ⊢;obtain⟨c,aj⟩:=Ι done.length;rw[<-aj] at aw be Q;rw[<-aj];have cG:(nc=0/\rd=[])\/0<nc:=by
  by_cases B:nc=0
  .exact .inl ⟨B,YP.1 U⟩
  .exact .inr U
 repeat apply Ξ
 refine W.Yn (A:=[]) Υ [(33,ZU (decide (c<nc))),(0,.Ο 0 1 0 0),(6,.Ο 1 1 0 0),(9,.ω [Z6 G,θ L,ah]),(10,ZE [p.1,p.2]),(11,Z4 6 (rd.map Φ)),(12,R c)] ([ZK aa,ZI γ γ γ,.dead,.dead,.dead]++μ 60 1 (ZQ done nc)++μ 29 1 (rd.map Φ)) ?_ (by
  have af:(ZQ done nc).length=nc:=S1 U;obtain⟨bL,aY⟩:=Ι (μ 29 1 (rd.map Φ));obtain⟨bM,aZ⟩:=Ι (Z4 6 (rd.map Φ));rw[<-aY,<-aZ];rcases am with⟨T,e⟩|⟨T,e⟩<;>rcases an done U with⟨O,Φ⟩|⟨O,Φ⟩
  .rw[e,Φ,O];(try simp);(repeat (rw[Ν];simp));(try simp)
  .omega
  .omega
  .rw[e,Φ];(try simp);(repeat (rw[Ν];simp[af]));(try simp[af]))
 refine W.YN rfl (λar=>?_) (λar=>?_)
 .have ar:c<nc:=by simpa using ar
  rcases am with⟨T,_⟩|⟨T,e⟩
  .omega
  rcases an done U with⟨O,_⟩|⟨O,ax⟩
  .omega
  obtain⟨M,ay⟩:=Ι (ZQ done nc);have az:M.length=nc:=by rw[ay];exact S1 U
  have bi:M[c]?=some γ:=by rw[ay,aj];exact BO U
  have cH:∀m,M.set c (U7 m)=ZQ (done++[m]) nc:=λm=>by rw[ay,aj];exact BN U m
  have cI:∀e∈M,e.cells=[e]/\ψ 0 e:=by rw[ay];exact MF
  have a0:M.set c γ=M:=by
   apply RQ;intro i;rw[KU];split
   .rename_i e;subst e;split
    .exact bi.symm
    .rename_i h;exact(h U).elim
   .rfl
  have bN:L.length=K:=aV.symm
  have bj:G.length=g:=bc.symm;rw[e,ax,<-ay];simp only[List.cons_append,List.nil_append];obtain⟨ab,cJ⟩:=Ι ((g:Int)-1:Int);have bk:IntKind.i64.wrap ((g:Int)-1)=ab:=by rw[cJ];exact IntWalk.i64_in _ U
  have bO:=MP aa U (-1) ab;obtain⟨a1,a2⟩:=MM aa (a:=-1) (b:=ab) U Z0 U;obtain⟨bl,bP⟩:=Zl (S6 aa (-1) ab);obtain⟨aA,bQ⟩:=Zl (aa.after (IntKind.i64.wrap (ab- -1)));have cK:aA.Z3.length<=d.Z3.length:=by rw[<-bQ];exact X1 (Xc _ _) aX
  rw[bP,bQ] at bO;rw[bP] at a1 a2;have bR:=MP aA U (-1) ab;obtain⟨a3,a4⟩:=MM aA (a:=-1) (b:=ab) U Z0 U;obtain⟨bm,bS⟩:=Zl (S6 aA (-1) ab);obtain⟨X,bT⟩:=Zl (aA.after (IntKind.i64.wrap (ab- -1)));have dr:X.Z3.length<=d.Z3.length:=by rw[<-bT];exact X1 (Xc _ _) cK
  rw[bS,bT] at bR;rw[bS] at a3 a4;obtain⟨r,f⟩:=Ι ((bl,bm):Int×Int);have cL:r.1=bl:=by rw[f]
  have cM:r.2=bm:=by rw[f]
  obtain⟨bL,aY⟩:=Ι (μ 29 1 (rd.map Φ));obtain⟨bM,aZ⟩:=Ι (Z4 6 (rd.map Φ));rw[<-aY,<-aZ]
  repeat apply Ξ
  refine W.Lk (A:=[]) Υ mixed [(0,.Ο 0 1 0 0),(6,.Ο 1 1 0 0),(9,.ω [Z6 G,θ L,.ms 5 nc 0 nc]),(10,ZE [p.1,p.2]),(11,bM),(12,R c),(13,Φ r)] (ZK X::ZI γ γ γ::.dead::.dead::.dead::.cells 60 1 M::bL) ?_ (by
   simp;(repeat (rw[VD];simp[bj,bk]));(try rw[VE]);refine Y3.e bO (ZT.refl _) J J ?_;simp;(repeat (rw[VD];simp[bj,bk]));(try rw[VE]);refine Y3.e bR (ZT.refl _) J J ?_;simp;(repeat (rw[VD];simp[bj,bk]));(try rw[VE]);refine⟨Yt (by kernel_rfl),Yt (by kernel_rfl),?_⟩;simp[f])
  obtain⟨ag,a5⟩:=Ι ((rd++[r]).map Φ);have ds:ag.length=c+1:=by rw[a5];simp[Q]
  have cN:∀e∈ag,∀a∈e.cells,ψ 0 a:=by rw[a5];exact Gj
  repeat apply Ξ
  refine W.Yn (A:=[52]) Υ [(0,.Ο 0 1 0 0),(6,.Ο 1 1 0 0),(9,.ω [Z6 G,θ L,.ms 5 nc 0 nc]),(10,ZE [p.1,p.2]),(11,.ms 6 (c+1) 0 (c+1)),(12,R c),(13,Φ r)] (ZK X::ZI γ γ γ::.dead::.dead::.dead::.cells 60 1 M::[.cells 29 1 ag]) ?_ (by
   rw[a5,aY,aZ];by_cases B:rd=[]
   .subst B;have cO:c=0:=by simpa using Q.symm
    subst cO;have bn:Z4 6 (([]:List (Int×Int)).map Φ)=.sl true 0 []:=rfl;have cP:μ 29 1 (([]:List (Int×Int)).map Φ)=[]:=rfl;rw[bn,cP];(try simp);(repeat (rw[Ν];simp));(try simp)
   .have bU:rd.map Φ≠[]:=by simpa using B
    rw[X8 bU,YY bU];have bV:c<=4294967295:=U;(try simp);(repeat (rw[Ν];simp[Q,bV]));(try simp[Q,bV]))
  have bo:=Gz X U K U
  have a6:=IJ X K
  have bp:∀x∈(W7 X K).1,0<=x/\x<K:=λx h=>Gx h
  have bW:=Gw X K
  have cQ:=IK X K;obtain⟨N,cR⟩:=Zl ((W7 X K).1);obtain⟨a7,cS⟩:=Zl ((W7 X K).2);rw[cR] at bo a6 bp bW;rw[cS] at bo cQ;refine XX bN λaR ae=>?_;refine Y3.g (bo) (ZY ?_);apply ae;have bq:=U9 a7 U K;obtain⟨cT,bX⟩:=S5 a7 K U U;obtain⟨bY,bZ⟩:=Zl (XD a7 K);rw[bZ] at bq cT bX;clear bZ;obtain⟨ad,aB⟩:∃k:Nat,bY=k:=⟨bY.toNat,U⟩;obtain⟨b0,b1⟩:=Zl (a7.after K);have cU:b0.Z3.length<=d.Z3.length:=by rw[<-b1];exact X1 (Xc _ _) U
  rw[aB,b1] at bq;rw[aB] at bX;refine XX bN λaR ae=>?_;refine Y3.g (bq) (ZY ?_);apply ae
  repeat apply Ξ
  refine W.iter (λx:BM=>x.Qy.length+x.k=ad/\x.d.Z3.length<=d.Z3.length/\x.Qy.map (·.Zs)=((N.take ad).drop x.k).reverse/\∀y∈x.Qy,((0<=y.seen/\y.seen<=63)/\(0<=y.bare/\y.bare<=63)/\WB y.seen y.bare=0)/\Z.V3 p r y=true)
   (λx=>[(0,.Ο 0 1 0 0),(6,.Ο 1 1 0 0),(9,.ω [Z6 G,θ L,.ms 5 nc 0 nc]),(10,ZE [p.1,p.2]),(11,.ms 6 (c+1) 0 (c+1)),(12,R c),(13,Φ r),(14,ζ R 1 N),(15,R x.k)])
   (λx=>ZK x.d::ZI γ γ γ::.dead::.dead::.dead::.cells 60 1 (M.set c (Z4 7 (x.Qy.map Z2)))::.cells 29 1 ag::μ 28 3 (x.Qy.map Z2)) (λx=>x.k) ⟨ad,b0,[]⟩
   ⟨J,cU,J,J⟩ (by simp only[UU];rw[show Z4 7 []=γ from rfl,a0];rfl) J (λx D b2=>?_)
  obtain⟨k,E,m⟩:=x;obtain⟨cV,br,aC,a8⟩:=D;simp only at cV br aC a8 b2 ⊢;refine Χ ?_;refine W.YN rfl (λbs=>?_) (λbs=>?_)
  .have aB:0<k:=by simpa using bs
   obtain⟨j,cW⟩:∃j,k=j+1:=⟨k-1,U⟩;have Y:IntKind.i64.wrap ((k:Int)-1)=j:=by rw[IntWalk.i64_in _ U];omega
   have b3:j<N.length:=U
   have aD:N[j]?=some N[j]:=ε b3
   have b4:=bp _ (Y2 b3);obtain⟨bt,bu⟩:=Ι (N[j]);rw[<-bu] at aD b4;have a9:∀h,N[j]'h=bt:=λh=>bu.symm;obtain⟨S,b5⟩:∃n:Nat,bt=n:=⟨bt.toNat,U⟩;rw[b5] at aD a9 b4;have cX:(Z4 7 (m.map Z2)=γ/\μ 28 3 (m.map Z2)=[]/\m=[])\/(Z4 7 (m.map Z2)=.ms 7 m.length 0 m.length/\μ 28 3 (m.map Z2)=[.cells 28 3 (m.map Z2)]/\0<m.length):=by
    by_cases B:m=[]
    .subst B;exact .inl ⟨rfl,rfl,rfl⟩
    .have aE:m.map Z2≠[]:=by simpa using B
     exact .inr ⟨by rw[X8 aE,Yp],YY aE,RR.2 B⟩
   have aF:=sg Z p r S (by rw[ai];show S<L.length;omega) (λx D=>by rw[ai] at D;have:=(aT.each x D).1;omega) (by rw[ai,f];show bl<G.length;omega) (by rw[ai,f];show bm<G.length;omega) (ZK E::ZI γ γ γ::.dead::.dead::.dead::.cells 60 1 (M.set c (Z4 7 (m.map Z2)))::.cells 29 1 ag::μ 28 3 (m.map Z2)) 5 nc (M.set c (Z4 7 (m.map Z2))) (by rw[Sr];exact az) rfl
   have a':0<=Z.X4 p r S/\Z.X4 p r S<=63:=by
    have cY:WV ⟨G,L,[]⟩:=⟨aS,aT,J,J⟩;rw[ai];exact Ca cY p r S
   have b6:∀a b:Int,Z.V3 p r ⟨S,a,b⟩=(Oh a (Z.X4 p r S)==0&&WB (Z.X4 p r S) b==0):=λa b=>by unfold υ.V3;simp
   obtain⟨aG,b7⟩:=Ι (Z.X4 p r S);rw[<-b7] at aF a';simp only[<-b7] at b6;rw[ai] at aF
   repeat apply Ξ
   refine W.S4 (A:=[]) Υ mixed [(0,.Ο 0 1 0 0),(6,.Ο 1 1 0 0),(9,.ω [Z6 G,θ L,.ms 5 nc 0 nc]),(10,ZE [p.1,p.2]),(11,.ms 6 (c+1) 0 (c+1)),(12,R c),(13,Φ r),(14,ζ R 1 N),(15,R k),(16,R aG)] (ZK E::ZI γ γ γ::.dead::.dead::.dead::.cells 60 1 (M.set c (Z4 7 (m.map Z2)))::.cells 29 1 ag::μ 28 3 (m.map Z2)) ?_ (by
    obtain⟨dt,b8⟩:=Ι (μ 28 3 (m.map Z2));obtain⟨du,b9⟩:=Ι (Z4 7 (m.map Z2));rw[<-b8,<-b9] at aF;rw[<-b8,<-b9,f];rw[f] at aF;simp;(repeat (rw[ZG];simp[Y,aD,a9,a6]));(try rw[ZH]);refine⟨U,?_⟩;refine Nl (Μ.call (first:=[]) (captured:=[]) (Μ.UD aF (.cons (.refl _) (.cons .ex (.cons .ex (.cons (.refl _) .nil)))) (λa s h=>⟨_,.refl _,h⟩))) ?_;simp;(repeat (rw[ZG];simp));(try rw[ZH]);refine⟨Yt (by kernel_rfl),?_⟩;simp)
   have bv:=U9 E U 63;obtain⟨a1,a2⟩:=S5 E 63 Z0 Z0;obtain⟨aH,b'⟩:=Zl (XD E 63);obtain⟨aI,ca⟩:=Zl (E.after 63);have cZ:aI.Z3.length<=d.Z3.length:=by rw[<-ca];exact X1 (Xc _ _) br
   rw[b',ca] at bv;rw[b'] at a1 a2;have pick:∀(F:Zg) (x:Int),0<=x->x<=63->0<=([63,x]:List Int).getD (R0 F [63,x]) 0/\([63,x]:List Int).getD (R0 F [63,x]) 0<=63:=λF x u o=>by
    match R0 F [63,x] with
    | 0=>simp
    | 1=>simp;omega
    | n+2=>simp
   have bw:=IL aI U [63,aH] J J
   have bx:=pick aI aH a1 a2;obtain⟨c0,cb⟩:=Zl (([63,aH]:List Int).getD (R0 aI [63,aH]) 0);obtain⟨aJ,cc⟩:=Zl (aI.after ((([63,aH]:List Int).length:Int)-1));have c1:aJ.Z3.length<=d.Z3.length:=by rw[<-cc];exact X1 (Xc _ _) cZ
   rw[cb,cc] at bw;rw[cb] at bx;have bz:=U9 aJ U 63;obtain⟨a3,a4⟩:=S5 aJ 63 Z0 Z0;obtain⟨aK,cd⟩:=Zl (XD aJ 63);obtain⟨aL,ce⟩:=Zl (aJ.after 63);have c2:aL.Z3.length<=d.Z3.length:=by rw[<-ce];exact X1 (Xc _ _) c1
   rw[cd,ce] at bz;rw[cd] at a3 a4;have bA:=IL aL U [63,aK] J J;have bB:=pick aL aK a3 a4;obtain⟨c3,cf⟩:=Zl (([63,aK]:List Int).getD (R0 aL [63,aK]) 0);obtain⟨bC,cg⟩:=Zl (aL.after ((([63,aK]:List Int).length:Int)-1));have c4:bC.Z3.length<=d.Z3.length:=by rw[<-cg];exact X1 (Xc _ _) c2
   rw[cf,cg] at bA;rw[cf] at bB;obtain⟨ci,_,_⟩:=MK a' bx;obtain⟨_,cj,ck⟩:=MK bB a';obtain⟨cl,bD⟩:=sb a' bx bB;obtain⟨cm,aM⟩:=Zl (XY .i64 aG c0);obtain⟨cn,aN⟩:=Zl (U2 .i64 c3 aG);rw[aM] at ci cl bD;rw[aN] at cj ck bD;obtain⟨au,bE⟩:=Ι (⟨S,cm,cn⟩:ZF);have cp:(m++[au]).map Z2≠[]:=J
   repeat apply Ξ
   refine W.Lk (A:=[105]) Υ mixed [(0,.Ο 0 1 0 0),(6,.Ο 1 1 0 0),(9,.ω [Z6 G,θ L,.ms 5 nc 0 nc]),(10,ZE [p.1,p.2]),(11,.ms 6 (c+1) 0 (c+1)),(12,R c),(13,Φ r),(14,ζ R 1 N),(15,R k)] (ZK bC::ZI γ γ γ::.dead::.dead::.dead::.cells 60 1 (M.set c (Z4 7 ((m++[au]).map Z2)))::.cells 29 1 ag::μ 28 3 ((m++[au]).map Z2)) ?_ (by
    rw[X8 cp,YY cp,Yp,Wc,Yd,XC,UU,bE];rcases cX with⟨f1,f2,f3⟩|⟨f1,f2,f3⟩
    .rw[f1,f2,a0,f3];simp;(repeat (rw[VD];simp[Y,aD,a9,a6,az,bi]));(try rw[VE]);refine⟨U,U,?_⟩;refine Y3.h (bv) (QB ?_);refine Y3.e bw (.cons .ex .nil) J J ?_;simp[aM];(repeat (rw[VD];simp[aM]));(try rw[VE]);refine Y3.h (bz) (QB ?_);refine Y3.e bA (.cons .ex .nil) J J ?_;simp[aN];(repeat (rw[VD];simp[aN,az,bi]));(try rw[VE]);refine⟨U,?_⟩;refine⟨Yt (by kernel_rfl),Yt (by kernel_rfl),?_⟩;simp
    .rw[f1,f2];have cq:∀v,(M.set c v)[c]?=some v:=λv=>by rw[Ww U]
     have cr:∀v h,(M.set c v)[c]'h=v:=λv h=>List.getElem_set_self h;simp;(repeat (rw[VD];simp[Y,aD,a9,a6,az,cq,cr]));(try rw[VE]);refine⟨U,U,?_⟩;refine Y3.h (bv) (QB ?_);refine Y3.e bw (.cons .ex .nil) J J ?_;simp[aM];(repeat (rw[VD];simp[aM]));(try rw[VE]);refine Y3.h (bz) (QB ?_);refine Y3.e bA (.cons .ex .nil) J J ?_;simp[aN];(repeat (rw[VD];simp[aN,az,cq,cr]));(try rw[VE]);refine⟨U,U,?_⟩;refine⟨Yt (by kernel_rfl),Yt (by kernel_rfl),?_⟩;simp)
   refine Ζ Y ?_;have c5:(N.take ad).drop j=(S:Int)::(N.take ad).drop k:=by
    have c6:j<(N.take ad).length:=by rw[T6];omega
    rw[PH c6,cW,List.getElem_take,<-bu,b5]
   refine W.to (b2 ⟨j,bC,m++[au]⟩ ⟨by show(m++[au]).length+j=ad;rw[Wc];simp;omega,c4,?_,λy C=>?_⟩ (by show j<k;omega)) J (by simp[Y])
   .show(m++[au]).map (·.Zs)=((N.take ad).drop j).reverse;rw[c5,Yd,aC,List.reverse_cons,bE];rfl
   .rcases WK.1 C with C|C
    .exact a8 y C
    .simp at C;subst C;subst bE;refine⟨⟨ci,cj,bD⟩,?_⟩;rw[b6];have c7:Oh cm aG=0:=cl;have c8:WB aG cn=0:=ck;rw[c7,c8];rfl
  .have aB:k=0:=by simp at bs;omega
   subst aB;have dv:m.length=ad:=U;rw[List.drop_zero] at aC;have c9:QA K m:=by
    refine⟨U,?_,λy C=>?_⟩
    .rw[aC];unfold List.Nodup;rw[List.pairwise_reverse];exact(bW.sublist (KT _ _)).imp YQ
    .have cs:y.Zs∈m.map (·.Zs):=Zd.2 ⟨y,C,rfl⟩;rw[aC,List.mem_reverse] at cs;have:=bp _ (K1 cs);obtain⟨⟨c',da,db⟩,_⟩:=a8 y C;exact⟨this,c',da,db⟩
   have Y:IntKind.i64.wrap ((c:Int)+1)=((c+1:Nat):Int):=by rw[IntWalk.i64_in _ U];omega
   have dc:(done++[m]).length=c+1:=by simp;omega
   have av:=be ⟨E,done++[m],rd++[r]⟩ ⟨by show(done++[m]).length<=nc;omega,br,λx D=>by
    rcases WK.1 D with D|D
    .exact bf x D
    .simp at D;subst D;exact c9,by show(rd++[r]).length=_;simp[Q,aj],λy C=>by
    rcases WK.1 C with C|C
    .exact bg y C
    .simp at C;subst C;rw[cL,cM];omega,λx y z u o=>by
    by_cases D:x<c
    .rw[Y0 U] at u o;exact bh x y z u o
    .rw[Xw U] at u o;have bn:x-rd.length=x-c:=by rw[Q]
     rw[bn] at u;rw[<-aj] at o;cases ct:x-c with
     | zero=>rw[ct] at u o;simp at u o;subst u;subst o;exact λy C=>(a8 y C).2
     | succ q=>rw[ct] at u;simp at u⟩ (by show nc-(done++[m]).length<nc-c;omega)
   have dd:ZQ (done++[m]) nc≠[]:=λh=>by
    have:=S1 (done:=done++[m]) (nc:=nc) U;rw[h] at this;simp at this;omega
   have cu:(rd++[r]).map Φ≠[]:=J
   have de:((rd++[r]).map Φ).length=c+1:=by simp[Q]
   simp only[dc] at av;rw[YY dd,YY cu,X8 cu,de,<-a5,<-cH m,e] at av;refine W.exit rfl ?_;by_cases B:m=[]
   .subst B;rw[show U7 []=γ from rfl,a0] at av;rw[show Z4 7 (([]:List ZF).map Z2)=γ from rfl,show μ 28 3 (([]:List ZF).map Z2)=[] from rfl,a0];refine Ζ Y ?_;exact W.to av rfl (by simp[Y])
   .have aE:m.map Z2≠[]:=by simpa using B
    have aq:U7 m=.sl false 3 (m.map Z2):=by unfold U7 YE;rw[if_neg (by simpa using B)]
    rw[aq] at av;rw[X8 aE,YY aE];refine W.RY (σ':=ZK E::ZI γ γ γ::.dead::.dead::.dead::.cells 60 1 (M.set c (.sl false 3 (m.map Z2)))::.cells 29 1 ag::[.dead]) (id:=7) J rfl rfl rfl (λi r hi f=>?_) [(0,.Ο 0 1 0 0),(6,.Ο 1 1 0 0),(9,.ω [Z6 G,θ L,.ms 5 nc 0 nc]),(10,ZE [p.1,p.2]),(11,.ms 6 (c+1) 0 (c+1)),(12,R c)] (λp V=>by
     simp only[Zm,YM,or_false] at V;rcases V with rfl|rfl|rfl|rfl|rfl|rfl<;>exact .same _) ?_
    .match i,hi,f with
     | 0,_,f=>exact⟨r,f,.inl rfl⟩
     | 1,_,f=>exact⟨r,f,.inl rfl⟩
     | 2,_,f=>exact⟨r,f,.inl rfl⟩
     | 3,_,f=>exact⟨r,f,.inl rfl⟩
     | 4,_,f=>exact⟨r,f,.inl rfl⟩
     | 5,_,f=>
      simp at f;subst f;refine⟨_,rfl,.inr ⟨60,1,_,_,rfl,rfl,J,λy e dw u o=>?_⟩⟩;by_cases C:y=c
      .subst C;rw[Ww U] at u o;cases u;cases o;refine⟨rfl,λx a bF aO aP=>?_⟩
       match x with
       | 0=>simp[I.cells] at aO aP;subst aO;subst aP;have:=Rj.ms (id:=7) (k:=3) (l:=m.map Z2);rwa [Yp] at this
       | x+1=>simp[I.cells] at aO
      .rw[Vm (YQ C)] at u o;rw[u] at o;cases o;exact⟨rfl,λx a bF aO aP=>by rw[aO] at aP;cases aP;exact .same _⟩
     | 6,_,f=>exact⟨r,f,.inl rfl⟩
     | 7,h,_=>exact absurd rfl h
     | i+8,_,f=>simp at f
    refine W.drop (h:=7) J J (λi r hi f=>?_) rfl [(0,.Ο 0 1 0 0),(6,.Ο 1 1 0 0),(9,.ω [Z6 G,θ L,.ms 5 nc 0 nc]),(10,ZE [p.1,p.2]),(11,.ms 6 (c+1) 0 (c+1)),(12,R c)] ?_ ?_
    .match i,hi,f with
     | 0,_,f=>simp at f;subst f;exact Tz E 7
     | 1,_,f=>simp at f;subst f;intro e H a w;simp[I.cells] at H;subst H;simp[I.cells] at w;subst w;simp
     | 2,_,f=>simp at f;subst f;trivial
     | 3,_,f=>simp at f;subst f;trivial
     | 4,_,f=>simp at f;subst f;trivial
     | 5,_,f=>
      simp at f;subst f;intro e H a w;rcases NW H with H|rfl
      .obtain⟨u,o⟩:=cI e H;rw[u] at w;simp at w;subst w;exact o.mono (Ε _)
      .simp[I.cells] at w;subst w;have:=Gb m;rw[aq] at this;exact this.mono (Ε _)
     | 6,_,f=>simp at f;subst f;exact λe H a w=>(cN e H a w).mono (Ε _)
     | i+7,h,_=>omega
    .intro p V;simp only[Zm,YM,or_false] at V;rcases V with rfl|rfl|rfl|rfl|rfl|rfl
     .exact⟨rfl,Xz.2 U⟩
     .exact⟨rfl,Xz.2 U⟩
     .refine⟨rfl,JJ.2 λa w=>?_⟩;simp only[Zm,YM,or_false] at w;rcases w with rfl|rfl|rfl
      .exact(Y6.2 Ty:ψ 0 _).mono (Ε _)
      .exact(Y6.2 RX:ψ 0 _).mono (Ε _)
      .exact UF.2 U
     .exact⟨rfl,J⟩
     .exact⟨rfl,UF.2 U⟩
     .exact⟨rfl,.z _⟩
    refine Ζ Y ?_;exact W.to av rfl (by simp[Y])
 .have ar:c=nc:=by simp at ar;omega
  subst ar;refine W.exit rfl ?_;have df:WV ⟨G,L,done⟩:=⟨aS,aT,by show done.length<=4;omega,λx D=>by show QA L.length x;rw[<-aV];exact bf x D⟩;have dg:ZQ done c=done.map U7:=by rw[aj];exact BP
  have cv:BJ ak al ⟨G,L,done⟩ p rd:=⟨⟨P,bK,V⟩,df,by show done.length<=al;omega,cz,cC,by show rd.length=done.length;omega,λr f=>by show(-1<=r.1/\r.1<G.length)/\_;rw[<-bc];exact bg r f,λx y h=>by
   unfold υ.Sa;show((done[x]?).getD []).all _=true;cases D:done[x]? with
   | none=>rfl
   | some m=>
    refine Wv.2 λz B=>?_;have:=bh x y m h D z B;rw[ai] at this;exact this⟩
  have dh:Zi (.Z' [Z6 G,θ L,.sl false 1 (done.map U7)]) (ZB ⟨G,L,done⟩):=by
   refine .Z' (.cons (.refl _) (.cons (.refl _) (.cons ?_ .nil)));exact .map λx _=>.one .acc (Ga x) rfl
  have di:Zi (.sl false 1 (rd.map Φ)) (θ (Sw rd)):=by
   show Zi (.sl false 1 (rd.map Φ)) (.sl false 1 ((Sw rd).map (ζ R 1)));rw[Sq];exact .map λr _=>.one .ex rfl rfl
  rcases am with⟨T,e⟩|⟨T,e⟩<;>rcases an done U with⟨O,ax⟩|⟨O,ax⟩
  .have aQ:rd=[]:=by rcases cG with⟨_,h⟩|h;exact h;omega
   have dj:done=[]:=YP.1 U;rw[e,ax,aQ];rw[show Z4 6 (([]:List (Int×Int)).map Φ)=γ from rfl,show μ 29 1 (([]:List (Int×Int)).map Φ)=[] from rfl];refine Χ ?_;refine W.cut 1 J [(6,.ω [Z6 G,θ L,γ]),(7,ZE [p.1,p.2]),(8,γ)] J (λid r dk f=>?_) (λz B=>?_) ?_
   .have:id=0:=U
    subst this;simp at f;subst f;exact Tz aa 1
   .simp only[Zm,YM,or_false] at B;rcases B with rfl|rfl|rfl
    .show Yz 1 _ (Z7 _ 6) _;simp;refine .struct J (show _=some (Row.cells _ _ [.Z' _]) from rfl) rfl λx a bF u o=>?_
     match x with
     | 0=>simp at u o;subst u;subst o;exact .low ((Y6.2 Ty:ψ 0 _).mono (Ε _))
     | 1=>simp at u o;subst u;subst o;exact .low ((Y6.2 RX:ψ 0 _).mono (Ε _))
     | 2=>simp at u o;subst u;subst o;exact .low J
     | x+3=>simp at o
    .exact .low J
    .exact .low J
   .refine W.ret ⟨_,rfl,_,aa,?_,⟨_,p,rd,rfl,cv⟩,rfl,aX⟩;rw[dj,aQ];exact .ZV (.cons (.Z' (.cons (.refl _) (.cons (.refl _) (.cons .nil .nil)))) (.cons .ex (.cons .nil .nil)))
  .omega
  .omega
  .have af:(ZQ done c).length=c:=S1 U
   have aQ:rd.map Φ≠[]:=λh=>by
    have:(rd.map Φ).length=0:=by rw[h];rfl
    rw[Yp] at this;omega
   rw[e,ax,X8 aQ,YY aQ,Yp,Q];refine Ζ af ?_;refine W.cut 1 J [(6,.ω [Z6 G,θ L,.sl false 1 (ZQ done c)]),(7,ZE [p.1,p.2]),(8,.sl false 1 (rd.map Φ))] J (λid r dk f=>?_) (λz B=>?_) ?_
   .have:id=0:=U
    subst this;simp at f;subst f;exact Tz aa 1
   .simp only[Zm,YM,or_false] at B;rcases B with rfl|rfl|rfl
    .show Yz 1 _ (Z7 _ 6) _;simp;refine .struct J (show _=some (Row.cells _ _ [.Z' _]) from rfl) rfl λx a bF u o=>?_
     match x with
     | 0=>simp at u o;subst u;subst o;exact .low ((Y6.2 Ty:ψ 0 _).mono (Ε _))
     | 1=>simp at u o;subst u;subst o;exact .low ((Y6.2 RX:ψ 0 _).mono (Ε _))
     | 2=>simp at u o;subst u;subst o;exact .own (t:=60) J rfl af (λe H a w=>by
       obtain⟨dl,dm⟩:=MF e H;rw[dl] at w;simp at w;subst w;exact dm.mono (Ε _))
     | x+3=>simp at o
    .exact .low J
    .show Yz 1 _ (Z7 _ 8) _;simp;exact .own (t:=29) (id:=6) J rfl (by simp[Q]) (λe H a w=>(Gj e H a w).mono (Ε _))
   .rw[dg];exact W.ret ⟨_,rfl,_,aa,.ZV (.cons dh (.cons .ex (.cons di .nil))),⟨_,p,rd,rfl,cv⟩,rfl,aX⟩
end Go.TL
namespace Go.TL
open Go.Proofs.Tryz
open Go.Conc Go.Proofs
variable [ZN]
theorem W.X3 {P:Program} {m nt:Nat} {k:List Item} {env:Δ} {σ:Ρ} {Z:XZ} {E:Yf} (env':Δ) (d:∀p∈env',Zi (Z7 env p.1) p.2) (f:W P m nt k env' σ Z E):W P m nt k env σ Z E:=
 λg mn x cs b S B H t h j a n o=>by
 have r:∀(l:Δ),(∀p∈l,Zi (Z7 env p.1) p.2)->∀i,Zi (Z7 env i) (Z7 l i):=by
  intro l
  induction l with
  | nil=>intro _ i;exact .Zk _
  | cons p l s=>
   intro c i;simp only[Z7];split
   .rename_i e;rw[<-e];exact c p J
   .exact s (λq u=>c q (by simp[u])) i
 exact f g mn x cs b S B H t h j ⟨a.holds,λi=>r env' d i S B σ _ (a.Zn i),a.size,a.rows⟩ n o
end Go.TL
namespace Go.TL
open Go.Proofs.Tryz
open Go.Proofs
variable [ZN]
theorem r8 (l:List Int) (n:Nat) (a:List ZF) (i:Nat):(VV l n a i).Sublist a:=by
 have c:∀i,i<=a.length->(VV l n a i).Sublist (a.take i):=by
  intro i
  induction i with
  | zero=>intro _;simp[VV]
  | succ i b=>
   intro hi;rw[Gg l n a hi,Wx hi];refine List.Sublist.append (b U) ?_;split<;>simp
 by_cases h:i<=a.length
 .exact(c i h).trans (KT _ _)
 .have e:VV l n a i=VV l n a a.length:=by
   have:∀d,VV l n a (a.length+d)=VV l n a a.length:=by
    intro d
    induction d with
    | zero=>rfl
    | succ d b=>
     rw[<-b];unfold VV;rw[<-SZ,VA,NS];simp
   have:=this (i-a.length)
   rwa [show a.length+(i-a.length)=i by omega] at this
  rw[e];exact(c _ (Z1 _)).trans (KT _ _)
theorem F' {s:υ} (h:WV s) (l:List Int):WV (s.Sv l) where
 Α:=h.Α
 Β:=h.Β
 many:=by simp[υ.Sv];exact h.many
 cells c d:=by
  obtain⟨i,hi,rfl⟩:=Zd.1 d;have hi:=Wb.1 hi;have e:s.cells.getD i []∈s.cells:=by
   rw[XJ,ε hi];exact Y2 hi
  have a:=h.cells _ e
  have b:(PM l s.cells i).Sublist (s.cells.getD i []):=r8 _ _ _ _;exact⟨X1 b.length_le a.hi,(b.map _).nodup a.apart,λp f=>a.each p (b.subset f)⟩
end Go.TL
namespace Go.TL
open Go.Proofs.Tryz
open Go.Proofs
abbrev RU (s:υ) (l:List Nat):List Found:=W8 (s.Sv (l.map λn:Nat=>(n:Int)))
abbrev PJ (s:υ) (l:List Nat):Bool:=!(RU s l).isEmpty
end Go.TL
namespace Go.TL
open Go.Proofs.Tryz
open Go.Proofs
variable [ZN]
theorem r7 {n:Nat}:∀{l:List Int} {a:Int},l.Pairwise (· < ·)->(∀x∈l,a<=x/\x<a+n)->l.length<=n:=by
 induction n with
 | zero=>
  intro l a _ h;cases l with
  | nil=>simp
  | cons x l=>have:=h x J;omega
 | succ n c=>
  intro l a d h;cases l with
  | nil=>simp
  | cons x l=>
   obtain⟨e,f⟩:=List.pairwise_cons.1 d;have g:=h x J;have:=c (a:=a+1) f λy b=>by have:=e y b;have:=h y (by simp[b]);omega
   simp only[List.length_cons];omega
end Go.TL
namespace Go.TL
open Go.Proofs.Tryz
open Go.Conc
variable [ZN]
section
variable {P:Program} {T:ZR} {A:List Nat} {m nt:Nat} {k:List Item} {env env':Δ} {σ:Ρ} {Z:XZ} {E:Yf} {ops:Array Oper} {lo pu ids:List Nat}
def Tu (ids:List Nat):I->Bool
 | .Ο id _ _ _=>ids.contains id
 | .ms id _ _ _=>ids.contains id
 | _=>false
def seen (ids:List Nat) (σ:Ρ):List (Option Row):=ids.map λid=>σ[id]?
def Lc (T:ZR) (A:List Nat) (env:Δ) (o:Oper) (ids:List Nat) (σ:Ρ) (K:I->Prop):Prop:=match o.op with
 | .load b x=>Tu ids (η env x)=true/\(VN T A env o).X' (λ_=>False) ((SP T b σ (η env x)).X' λa _=>K a)
 | .fieldAddr b x f=>Tu ids (η env x)=true/\(VN T A env o).X' (λ_=>False) ((SO T b f σ (η env x)).X' λa _=>K a)
 | .indexAddr b x c=>Tu ids (η env x)=true/\(VN T A env o).X' (λ_=>False) ((SN T b σ (η env x) (η env c)).X' λa _=>K a)
 | _=>False
theorem ME {o:Oper} {ids:List Nat} {K:I->Prop}:Lc T A env o ids σ K=match o.op with
 | .load b x=>Tu ids (η env x)=true/\(VN T A env o).X' (λ_=>False) ((SP T b σ (η env x)).X' λa _=>K a)
 | .fieldAddr b x f=>Tu ids (η env x)=true/\(VN T A env o).X' (λ_=>False) ((SO T b f σ (η env x)).X' λa _=>K a)
 | .indexAddr b x c=>Tu ids (η env x)=true/\(VN T A env o).X' (λ_=>False) ((SN T b σ (η env x) (η env c)).X' λa _=>K a)
 | _=>False:=XB rfl rfl
def Uc (P:Program) (T:ZR) (A:List Nat) (nt:Nat) (ops:Array Oper) (lo pu ids:List Nat):List Nat->Δ->Ρ->List Bool->(Δ->Ρ->Prop)->Prop
 | [],env,σ,tags,K=>Qa (TW lo pu) ops tags=true/\K env σ
 | i::is,env,σ,tags,K=>Xm ops[i]? λo=>W2 nt o=true/\Xm (XM env ops o) λw=>
   Ws w (Uc P T A nt ops lo pu ids is (Zt o env .Zk) σ (tags++[false]) K)
    (Ws (!lo.contains i) (Lc T A env o ids σ λa=>Uc P T A nt ops lo pu ids is (Zt o env a) σ (tags++[true]) K)
     (P8 P T A env o σ (λa=>Uc P T A nt ops lo pu ids is (Zt o env a) σ (tags++[false]) K) (λa σ'=>(pu.contains i=true->seen ids σ'=seen ids σ)/\Uc P T A nt ops lo pu ids is (Zt o env a) σ' (tags++[true]) K)))
theorem Lb {tags:List Bool} {K:Δ->Ρ->Prop}:Uc P T A nt ops lo pu ids [] env σ tags K=(Qa (TW lo pu) ops tags=true/\K env σ):=XB rfl rfl
theorem MD {i:Nat} {is:List Nat} {tags:List Bool} {K:Δ->Ρ->Prop}:Uc P T A nt ops lo pu ids (i::is) env σ tags K=Xm ops[i]? λo=>W2 nt o=true/\Xm (XM env ops o) λw=>
   Ws w (Uc P T A nt ops lo pu ids is (Zt o env .Zk) σ (tags++[false]) K)
    (Ws (!lo.contains i) (Lc T A env o ids σ λa=>Uc P T A nt ops lo pu ids is (Zt o env a) σ (tags++[true]) K)
     (P8 P T A env o σ (λa=>Uc P T A nt ops lo pu ids is (Zt o env a) σ (tags++[false]) K) (λa σ'=>(pu.contains i=true->seen ids σ'=seen ids σ)/\Uc P T A nt ops lo pu ids is (Zt o env a) σ' (tags++[true]) K))):=XB rfl rfl
theorem BI {i:Wi} {l:ξ} (τ:Ρ):(Q2 i l).YC τ=match Qc i l with|some a=>.ok a τ|none=>.bad:=by
 unfold Q2 Qc;split
 .split<;>rfl
 .cases l<;>rfl
theorem Ix {ids:List Nat} {τ:Ρ} {id:Nat} (h:seen ids τ=seen ids σ) (hi:ids.contains id=true):τ[id]?=σ[id]?:=by
 have a:=K4.1 hi;exact List.map_inj_left.1 h id a
theorem BH {ids:List Nat} {b:TypeId} {x:I} {τ:Ρ} (c:seen ids τ=seen ids σ) (d:Tu ids x=true):(∀a σ',SP T b σ x=.ok a σ'->SP T b τ x=.ok a τ)/\∀p r,SP T b σ x≠.Y9 p r:=by
 unfold SP;split
 .rename_i id n i j;rw[Ix c d];split
  .split
   .split
    .rw[BI,BI];split
     .exact⟨λa σ' h=>(by cases h;rfl),nofun⟩
     .exact⟨nofun,nofun⟩
    .exact⟨nofun,nofun⟩
   .exact⟨nofun,nofun⟩
  .exact⟨nofun,nofun⟩
 .exact⟨nofun,nofun⟩
theorem BG {ids:List Nat} {b:TypeId} {f:Nat} {x:I} {τ:Ρ} (c:seen ids τ=seen ids σ) (d:Tu ids x=true):(∀a σ',SO T b f σ x=.ok a σ'->SO T b f τ x=.ok a τ)/\∀p r,SO T b f σ x≠.Y9 p r:=by
 unfold SO;split
 .rename_i id n i j;rw[Ix c d];split
  .split
   .exact⟨λa σ' h=>(by cases h;rfl),nofun⟩
   .exact⟨nofun,nofun⟩
  .exact⟨nofun,nofun⟩
 .exact⟨nofun,nofun⟩
theorem BF {ids:List Nat} {b:TypeId} {x c:I} {τ:Ρ} (d:seen ids τ=seen ids σ) (e:Tu ids x=true):(∀a σ',SN T b σ x c≠.ok a σ')/\∀p a σ',SN T b σ x c=.Y9 p (.ok a σ')->SN T b τ x c=.Y9 p (.ok a τ):=by
 unfold SN;split
 .split
  .rename_i id m i len;rw[Ix d e];split
   .split
    .exact⟨nofun,λp a σ' h=>(by cases h;rfl)⟩
    .exact⟨nofun,nofun⟩
   .exact⟨nofun,nofun⟩
  .exact⟨nofun,nofun⟩
 .split
  .rename_i id m i j;rw[Ix d e];split
   .split
    .exact⟨nofun,λp a σ' h=>(by cases h;rfl)⟩
    .exact⟨nofun,nofun⟩
   .exact⟨nofun,nofun⟩
  .exact⟨nofun,nofun⟩
 .exact⟨nofun,nofun⟩
theorem r6 (s:Zz P T) {i:Nat} {o:Oper} {K:I->Prop} (t:ops[i]?=some o) (hd:W2 nt o=true) (u:XM env ops o=some true) (h:Lc T A env o ids σ K) :
  ∃a,V5 o=true/\(∀τ:Ρ,seen ids τ=seen ids σ->Pm P m nt k Z E ops i o env τ a τ)/\K a:=by
 unfold Lc at h;split at h
 .rename_i v x b;obtain⟨g,h⟩:=h;unfold Zc.X' at h;split at h
  .exact h.elim
  .exact h.2.elim
  .exact h.elim
  .rename_i l;unfold YX.X' at h;split at h
   .rename_i a σ' d;refine⟨a,by unfold V5;rw[b],λτ n env' rest e r=>?_,h⟩;refine .op (A:=A) s t (by rw[UN e];exact u) hd (λc j=>by rw[b] at j;cases j) ?_;have:Wt T A env τ o=.ok a τ:=by unfold Wt;rw[b];exact(BH n g).1 a σ' d
    rw[P9 e,Nm e,l,this];exact r
   .rename_i p a σ' d;exact absurd d ((BH (σ:=σ) (τ:=σ) rfl g).2 _ _)
   .exact h.elim
 .rename_i v x f b;obtain⟨g,h⟩:=h;unfold Zc.X' at h;split at h
  .exact h.elim
  .exact h.2.elim
  .exact h.elim
  .rename_i l;unfold YX.X' at h;split at h
   .rename_i a σ' d;refine⟨a,by unfold V5;rw[b],λτ n env' rest e r=>?_,h⟩;refine .op (A:=A) s t (by rw[UN e];exact u) hd (λc j=>by rw[b] at j;cases j) ?_;have:Wt T A env τ o=.ok a τ:=by unfold Wt;rw[b];exact(BG n g).1 a σ' d
    rw[P9 e,Nm e,l,this];exact r
   .rename_i p a σ' d;exact absurd d ((BG (σ:=σ) (τ:=σ) rfl g).2 _ _)
   .exact h.elim
 .rename_i v x w b;obtain⟨g,h⟩:=h;unfold Zc.X' at h;split at h
  .exact h.elim
  .exact h.2.elim
  .exact h.elim
  .rename_i l;unfold YX.X' at h;split at h
   .rename_i a σ' d;exact absurd d ((BF (σ:=σ) (τ:=σ) rfl g).1 _ _)
   .rename_i p a σ' d;refine⟨a,by unfold V5;rw[b],λτ n env' rest e r=>?_,h.2⟩;refine .op (A:=A) s t (by rw[UN e];exact u) hd (λc j=>by rw[b] at j;cases j) ?_;have:Wt T A env τ o=.Y9 p (.ok a τ):=by unfold Wt;rw[b];exact(BF n g).2 p a σ' d
    rw[P9 e,Nm e,l,this];exact⟨h.1,r⟩
   .exact h.elim
 .exact h.elim
theorem r5 (D:Zz P T) {i:Nat} {o:Oper} {F:I->Prop} {H:I->Ρ->Prop} (n:ops[i]?=some o) (hd:W2 nt o=true) (t:XM env ops o=some true) (h:P8 P T A env o σ F H) :
  ∃a σ' v,Wg P m nt k Z E ops i o env σ v a σ'/\(v=false->F a/\σ'=σ)/\(v=true->H a σ'):=by
 unfold P8 at h;split at h
 .rename_i f args S u;have J:∀env',SI ops o env env'->η env' f=η env f/\args.toList.map (η env')=args.toList.map (η env):=λenv' b=>by
   have w:=LS b;rw[u] at w;refine⟨w f (by simp[Op.operands,Call.operands]),LR λx O=>w x (by simp[Op.operands,Call.operands,O])⟩
  rcases h with⟨r,g,h⟩|⟨r,σ',g,h⟩
  .refine⟨r,σ,false,?_,λ_=>⟨h,rfl⟩,nofun⟩;unfold Wg;simp only[Xf,if_false];refine⟨λenv' σ' rest b j=>.call n (by rw[UN b];exact t) hd u ?_,trivial⟩;obtain⟨B,Φ⟩:=J env' b;rw[B,Φ];exact(g σ').mono (λa s ⟨x,y⟩=>by subst x;subst y;exact j) (λ_ _ h=>h.elim)
  .refine⟨r,σ',true,?_,nofun,λ_=>h⟩;unfold Wg;simp only[if_true];refine⟨?_,λd=>by unfold V5 at d;rw[u] at d;cases d⟩;refine λenv' rest b j=>.call n (by rw[UN b];exact t) hd u ?_;obtain⟨B,Φ⟩:=J env' b;rw[B,Φ];exact g.mono (λa s ⟨x,y⟩=>by subst x;subst y;exact j) (λ_ _ h=>h.elim)
 .exact h.elim
 .exact h.elim
 .rename_i U V L;have M:∀(r:Zc) (a:I),VN T A env o=r->(∀K:I->Ρ->Prop,∀s,K a s->(r.YC s).holds K)->(∀σ s,r.or σ s=r.YC σ)->Pn P m nt k Z E ops i o env a:=λr a d C Q env' σ' rest b j=>by
   refine .op (A:=A) D n (by rw[UN b];exact t) hd (λc g=>L c g) ?_;rw[P9 b,d,Q];exact C _ _ j
  unfold Zc.X' at h;split at h
  .rename_i a e;refine⟨a,σ,false,?_,λ_=>⟨h,rfl⟩,nofun⟩;unfold Wg;simp only[Xf,if_false];exact⟨M _ a e (λK s l=>l) (λ_ _=>rfl),trivial⟩
  .rename_i p a e;refine⟨a,σ,false,?_,λ_=>⟨h.2,rfl⟩,nofun⟩;unfold Wg;simp only[Xf,if_false];exact⟨M _ a e (λK s l=>⟨h.1,l⟩) (λ_ _=>rfl),trivial⟩
  .exact h.elim
  .rename_i R;have N:∀(a:I) (σ':Ρ) (r:YX),Wt T A env σ o=r->(∀K:I->Ρ->Prop,K a σ'->r.holds K)->Pm P m nt k Z E ops i o env σ a σ':=λa σ' r d C env' rest b j=>by
    refine .op (A:=A) D n (by rw[UN b];exact t) hd (λc g=>L c g) ?_;rw[P9 b,Nm b,R,d];exact C _ j
   unfold YX.X' at h;split at h
   .rename_i a σ' e;refine⟨a,σ',true,?_,nofun,λ_=>h⟩;unfold Wg;simp only[if_true];exact⟨N a σ' _ e λK l=>l,λd=>Nk (p:=True) d (.inl e)⟩
   .rename_i p a σ' e;refine⟨a,σ',true,?_,nofun,λ_=>h.2⟩;unfold Wg;simp only[if_true];exact⟨N a σ' _ e λK l=>⟨h.1,l⟩,λd=>Nk d (.inr e)⟩
   .exact h.elim
def F9 (lo pu ids:List Nat) (P:Program) (m nt:Nat) (k:List Item) (Z:XZ) (E:Yf) (ops:Array Oper) (i:Nat) (o:Oper) (env:Δ) (σ:Ρ) (b:Bool) (a:I) (σ':Ρ):Prop:=
 Wg P m nt k Z E ops i o env σ b a σ'/\(lo.contains i=true->b=true->V5 o=true/\∀τ:Ρ,seen ids τ=seen ids σ->Pm P m nt k Z E ops i o env τ a τ)/\(pu.contains i=true->seen ids σ'=seen ids σ)
theorem r4 (p:Zz P T) {i:Nat} {is:List Nat} {tags:List Bool} {K:Δ->Ρ->Prop} (h:Uc P T A nt ops lo pu ids (i::is) env σ tags K) :
  ∃o a σ' d,ops[i]?=some o/\F9 lo pu ids P m nt k Z E ops i o env σ d a σ'/\Uc P T A nt ops lo pu ids is (Zt o env a) σ' (tags++[d]) K:=by
 unfold Uc Xm at h;split at h
 .exact h.elim
 .rename_i o b;obtain⟨hd,h⟩:=h;split at h
  .exact h.elim
  rename_i w j;unfold Ws at h;cases w
  .replace h:=h.1 rfl
   refine⟨o,.Zk,σ,false,b,⟨?_,λ_ h=>(by cases h),λ_=>rfl⟩,h⟩;unfold Wg;simp only[Xf,if_false];exact⟨λenv' σ' rest r s=>.unwanted b (by rw[UN r];exact j) hd s,trivial⟩
  .replace h:=h.2 rfl
   cases e:lo.contains i with
   | true=>
    rw[e] at h;obtain⟨a,f,g,l⟩:=r6 (m:=m) (k:=k) (Z:=Z) (E:=E) p b hd j (h.1 rfl);refine⟨o,a,σ,true,b,⟨?_,λ_ _=>⟨f,g⟩,λ_=>rfl⟩,l⟩;unfold Wg;simp only[if_true];exact⟨g σ rfl,λ_=>trivial⟩
   | false=>
    rw[e] at h;obtain⟨a,σ',d,f,g,l⟩:=r5 (m:=m) (k:=k) (Z:=Z) (E:=E) p b hd j (h.2 rfl);cases d with
    | false=>
     obtain⟨n,rfl⟩:=g rfl;exact⟨o,a,σ',false,b,⟨f,λc=>(by rw[e] at c;cases c),λ_=>rfl⟩,n⟩
    | true=>
     obtain⟨n,t⟩:=l rfl;exact⟨o,a,σ',true,b,⟨f,λc=>(by rw[e] at c;cases c),n⟩,t⟩
theorem rZ (t:Zz P T) {K:Δ->Ρ->Prop} {env0:Δ}:∀(d i:Nat) (tags:List Bool) (as9:Nat->I) (σs:Nat->Ρ),i+d=ops.size->tags.length=i->
  (∀j o,j<i->ops[j]?=some o->F9 lo pu ids P m nt k Z E ops j o (Za ops env0 as9 (λ_=>true) j) (σs j) (tags.getD j false) (as9 j) (σs (j+1)))->
  Uc P T A nt ops lo pu ids (List.range' i d) (Za ops env0 as9 (λ_=>true) i) (σs i) tags K->
  ∃(tags:List Bool) (as9:Nat->I) (b:Nat->Ρ),Qa (TW lo pu) ops tags=true/\b 0=σs 0/\(∀j o,ops[j]?=some o->F9 lo pu ids P m nt k Z E ops j o (Za ops env0 as9 (λ_=>true) j) (b j) (tags.getD j false) (as9 j) (b (j+1)))/\K (Za ops env0 as9 (λ_=>true) ops.size) (b ops.size):=by
 intro d
 induction d with
 | zero=>
  intro i tags as9 σs hi n g h;simp only[List.range'_zero,Uc] at h;have:i=ops.size:=U;subst this;exact⟨tags,as9,σs,h.1,rfl,λj o f=>g j o (T'.1 f).1 f,h.2⟩
 | succ d u=>
  intro i tags as9 σs hi n g h;rw[My] at h;obtain⟨o,a,σ',l,f,v,h⟩:=r4 (m:=m) (k:=k) (Z:=Z) (E:=E) t h;let c:Nat->I:=λj=>if j=i then a else as9 j
  let b:Nat->Ρ:=λj=>if j=i+1 then σ' else σs j
  have p:∀j,j<=i->Za ops env0 as9 (λ_=>true) j=Za ops env0 c (λ_=>true) j:=λj g=>HG j λx L=>by simp only[c];rw[if_neg U]
  have w:Za ops env0 c (λ_=>true) (i+1)=Zt o (Za ops env0 as9 (λ_=>true) i) a:=by
   simp only[Za,if_true,f];rw[<-p i (Z1 i)];simp only[c,if_true]
  have:=u (i+1) (tags++[l]) c b U (by simp[n]) (λj y M r=>?_) ?_
  .obtain⟨t2,B,C,D,F,H,J⟩:=this;exact⟨t2,B,C,D,F.trans (by simp only[b];rw[if_neg U]),H,J⟩
  .by_cases e:j=i
   .subst e;rw[f] at r;cases r;rw[<-p j (Z1 j)];have s:(tags++[l]).getD j false=l:=by rw[XJ,Xw U,n];simp
    rw[s];simp only[c,b,if_true];rw[if_neg U];exact v
   .have:=g j y U r;rw[<-p j U];have s:(tags++[l]).getD j false=tags.getD j false:=by rw[XJ,Y0 U,<-XJ]
    rw[s];simp only[c,b];rw[if_neg U,if_neg U,if_neg U];exact this
  .rw[w];simp only[b,if_true];exact h
theorem W.La (lo pu ids:List Nat) (u:Zz P T) (w:P.follows .mixedOrders=true) {id:Nat} (h:∀g:Δ->Ρ->Prop,(∀env σ,W P m nt k env σ Z E->g env σ)->Uc P T A nt ops lo pu ids (idx ops.size []) env σ [] g):W P m nt (.code (.region id ops true)::k) env σ Z E:=by
 have l:=h (λenv σ=>W P m nt k env σ Z E) λ_ _ h=>h;rw[idx_eq,K2] at l;obtain⟨tags,as9,σs,y,C,d,D⟩:=rZ (m:=m) (k:=k) (Z:=Z) (E:=E) (env0:=env) u ops.size 0 [] (λ_=>.Zk) (λ_=>σ) U rfl (λj o F=>U) l;intro I mn x cs b S B H t p r f K L;refine .draw p r λn=>?_;have s:=W.EH (lo:=lo) (pu:=pu) (v:=seen ids) (P:=P) (m:=m) (nt:=nt) (k:=k) (Z:=Z) (E:=E) (ops:=ops) (as9:=as9) (σs:=σs) (tags:=tags) (env0:=env) y
  (λi o a c=>by have:=(d i o a).1;unfold Wg at this;rw[c] at this;simpa using this)
  (λi o a c=>by have:=(d i o a).1;unfold Wg at this;rw[c] at this;simpa using this)
  (λi o a e c=>(d i o a).2.1 e c) (λi o a f=>(d i o a).2.2 f)
  (.ZC D) ops.size n (Array.replicate ops.size false) env 0 J (λi=>?_) (λi o a e=>?_) (Ε _) (λj F _=>?_) ?_
 .rw[C] at s;rw[w];simp only[Region.schedule,Bool.true_or,if_true,Region.linearise];exact s I mn x cs b S B H t p r f K L
 .have:∀n,Za ops env as9 (λi=>(Array.replicate ops.size false).getD i false) n=env:=by
   intro n
   induction n with
   | zero=>rfl
   | succ n M=>
    simp only[Za];have:(Array.replicate ops.size false).getD n false=false:=by
     rw[WU,OV];split<;>rfl
    rw[if_neg (by rw[this];simp)];exact M
  rw[this]
 .have:(Array.replicate ops.size false).getD i false=false:=by
   rw[WU,OV];split<;>rfl
  rw[this] at e;cases e
 .have:(Array.replicate ops.size false).getD j false=false:=by
   rw[WU,OV];split<;>rfl
  rw[this];simp
 .have:=K3 (λi=>!(Array.replicate ops.size false).getD i false) (List.range ops.size);simpa using this
end
end Go.TL
namespace Go.TL
open Go.Proofs.Tryz
open Go.Proofs
variable [ZN]
def Yq {a:Type} (b:Nat):List (List a)->ξ
 | []=>[]
 | l::C=>.ms b l.length 0 l.length::Yq (b+1) C
def Yv (C:List (List ZF)):Ρ:=C.map λl=>.cells 28 3 (l.map Z2)
theorem BE {a:Type} (b:Nat) (C:List (List a)) (l:List a):Yq b (C++[l])=Yq b C++[.ms (b+C.length) l.length 0 l.length]:=by
 induction C generalizing b with
 | nil=>rfl
 | cons c C d=>
  show _::Yq (b+1) (C++[l])=_;rw[d,show b+1+C.length=b+(c::C).length by simp;omega];rfl
theorem Rh {a:Type} (b:Nat) (C:List (List a)):(Yq b C).length=C.length:=by
 induction C generalizing b with
 | nil=>rfl
 | cons c C d=>simp[Yq,d]
theorem F8 (σ L:Ρ) (k:Nat):(σ++L)[σ.length+k]?=L[k]?:=by rw[Xw U];congr 1;omega
theorem BD (σ L:Ρ):(σ++L)[σ.length]?=L[0]?:=F8 σ L 0
theorem F7 (σ L:Ρ) (k:Nat) (x:Row):(σ++L).set (σ.length+k) x=σ++L.set k x:=by rw[PF _ _ U];congr 2;omega
theorem BC (σ L:Ρ) (x:Row):(σ++L).set σ.length x=σ++L.set 0 x:=F7 σ L 0 x
theorem rY (s:υ) (h:s.small) (σ:Ρ):Μ prog 25 [ZB s] σ (λa r=>a=.Z' [Z6 s.Α,θ s.Β,.ms (σ.length+2) s.cells.length 0 s.cells.length]/\r=σ++(.dead::.dead::.cells 60 1 (Yq (σ.length+3) s.cells)::Yv s.cells)) (λ_ _=>False):=by
 obtain⟨E,K,m,o,Y⟩:=h;obtain⟨n,f⟩:=Ι σ.length;have d:=F8 σ;have t:=BD σ;have v:=F7 σ;have y:=BC σ;rw[<-f] at d t v y ⊢;refine Μ.body Υ func25 rfl rfl ntmps25 rfl rfl J ?_
 repeat apply Ξ
 refine Zj (A:=[2]) Υ λT B=>?_;simp;(repeat (rw[Ν];simp[f.symm]));apply B;refine W.to (σ':=σ++[ZI (.sl true 0 []) (.sl true 0 []) (.sl true 0 [])]) (env':=[(1,Z9 s),(2,.Ο n 1 0 0)]) ?_ J J
 repeat apply Ξ
 refine W.draw (A:=[3]) Υ mixed λT B=>?_;simp;(repeat (rw[ZG];simp[f.symm]));try rw[ZH]
 refine⟨U,?_⟩;refine Ys (Κ.p (Ep s.Β U (λx Z=>by have:=o x Z;omega)) (ZT.refl _) J J) ?_;simp[f.symm];(repeat (rw[ZG];simp[f.symm]));try rw[ZH]
 refine YF (B _ _ ?_);refine W.to (σ':=σ++[ZI (.sl true 0 []) (.sl true 0 []) (.sl true 0 []),ZI (Z6 s.Α) (θ s.Β) (.sl true 0 [])]) (env':=[(1,Z9 s),(2,.Ο n 1 0 0),(3,.Ο (n+1) 1 0 0)]) ?_ J J;have aa:Tv (n+2) (ZI (Z6 s.Α) (θ s.Β) (.sl true 0 [])) (ZI (Z6 s.Α) (θ s.Β) (.ms (n+2) 0 0 0)):=by
  refine .inr ⟨26,3,_,_,rfl,rfl,rfl,λi e af E K=>?_⟩
  match i with
  | 0=>
   simp at E K;subst E;subst K;refine⟨rfl,λx a ag m o=>?_⟩
   match x with
   | 0=>simp[I.cells] at m o;subst m;subst o;exact .same _
   | 1=>simp[I.cells] at m o;subst m;subst o;exact .same _
   | 2=>simp[I.cells] at m o;subst m;subst o;exact .nil
   | x+3=>simp[I.cells] at m
  | i+1=>simp at E
 have ab:(σ++[ZI (.sl true 0 []) (.sl true 0 []) (.sl true 0 []),ZI (Z6 s.Α) (θ s.Β) (.sl true 0 [])]).length=n+2:=by simp[<-f]
 refine W.Iz 60 1 (i:=n+1) (r:=ZI (Z6 s.Α) (θ s.Β) (.sl true 0 [])) (r':=ZI (Z6 s.Α) (θ s.Β) (.ms (n+2) 0 0 0)) (by rw[d];rfl) (by rw[ab];exact aa) [(1,Z9 s),(2,.Ο n 1 0 0),(3,.Ο (n+1) 1 0 0)] (λp g=>by
  simp only[Zm,YM,or_false] at g;rcases g with rfl|rfl|rfl<;>exact .same _) ?_
 rw[v,U6];refine Χ ?_;refine W.iter (λi:Nat=>i<=s.cells.length) (λi=>[(1,Z9 s),(2,.Ο n 1 0 0),(3,.Ο (n+1) 1 0 0),(4,R i)])
  (λi=>σ++(ZI (.sl true 0 []) (.sl true 0 []) (.sl true 0 [])::ZI (Z6 s.Α) (θ s.Β) (.ms (n+2) i 0 i)::.cells 60 1 (Yq (n+3) (s.cells.take i))::Yv (s.cells.take i))) (λi=>s.cells.length-i) 0 (Ε _) (by simp[Yq,Yv]) J (λi hi w=>?_)
 refine Χ ?_;refine W.YN rfl (λc=>?_) (λc=>?_)
 .have c:i<s.cells.length:=by simpa using c
  have g:s.cells[i].length<2 ^ 30:=Y _ (Y2 c)
  have L:s.cells.take (i+1)=s.cells.take i++[s.cells[i]]:=Wx c
  have ad:=Yw c (show s.cells.length<2 ^ 62 by omega)
  have M:=ε c;obtain⟨l,N⟩:=Ι (s.cells[i]);have V:∀h,s.cells[i]'h=l:=λh=>N.symm;rw[<-N] at L M g;have O:(Yq (n+3) (s.cells.take i)).length=i:=by rw[Rh,T6];omega
  have P:(Yv (s.cells.take i)).length=i:=by unfold Yv;rw[Yp,T6];omega
  have F:=BE (n+3) (s.cells.take i) l
  have Q:Yv (s.cells.take i++[l])=Yv (s.cells.take i)++[.cells 28 3 (l.map Z2)]:=by simp[Yv]
  have ae:(s.cells.take i).length=i:=by rw[T6];omega
  rw[ae] at F;rw[<-L] at F Q;have w:=w (i+1) c U;rw[F,Q] at w;obtain⟨u,C⟩:=Ι (Yq (n+3) (s.cells.take i));obtain⟨D,H⟩:=Ι (Yv (s.cells.take i));rw[<-C] at O w ⊢;rw[<-H] at P w ⊢;clear C H F Q L N;have ah:∀x,(σ++(ZI (.sl true 0 []) (.sl true 0 []) (.sl true 0 [])::ZI (Z6 s.Α) (θ s.Β) (.ms (n+2) (i+1) 0 (i+1))::.cells 60 1 (u++[x])::D))[n+2]?=some (.cells 60 1 (u++[x])):=λx=>by rw[d];rfl
  repeat apply Ξ
  refine W.La [0,1] [8,9] [n+1] (A:=[28,30]) Υ mixed λT B=>?_;simp[f.symm,d,t,v,y,c,M,V,O,P]
  repeat (rw[MD];simp[ME,seen,Tu,f.symm,d,t,v,y,c,M,V,O,P])
  try rw[Lb]
  refine⟨U,U,Oj (by kernel_rfl),B _ _ ?_⟩;refine Χ ?_;refine W.to w ?_ (by simp[ad]);simp;omega
 .have c:i=s.cells.length:=by simp at c;omega
  subst c;refine W.exit rfl ?_;rw[Mx];obtain⟨u,C⟩:=Ι (Yq (n+3) s.cells);obtain⟨D,H⟩:=Ι (Yv s.cells);have X:u.length<=s.cells.length:=by rw[C,Rh];exact Z1 _
  rw[<-C,<-H]
  repeat apply Ξ
  refine W.Yn (A:=[]) Υ [(2,.Ο n 1 0 0)] (σ++(ZI (Z6 s.Α) (θ s.Β) (.ms (n+2) s.cells.length 0 s.cells.length)::ZI (Z6 s.Α) (θ s.Β) (.ms (n+2) s.cells.length 0 s.cells.length)::.cells 60 1 u::D)) ?_ (by
   (try simp);(repeat (rw[Ν];simp[f.symm,d,t,v,y,X]));(try simp[f.symm,d,t,v,y,X]))
  refine W.RY (σ':=σ++(ZI (Z6 s.Α) (θ s.Β) (.ms (n+2) s.cells.length 0 s.cells.length)::.dead::.cells 60 1 u::D)) (id:=n+1) U (by rw[d];rfl) J (by rw[d];rfl) (λj r S b=>⟨r,?_,.inl rfl⟩) [(2,.Ο n 1 0 0)] (λp g=>by simp at g;subst g;exact .same _) ?_
  .by_cases e:j<n
   .rw[Y0 U] at b ⊢;exact b
   .obtain⟨k,rfl⟩:∃k,j=n+k:=⟨j-n,U⟩;rw[d] at b ⊢
    match k,S,b with
    | 0,_,b=>exact b
    | 1,h,_=>exact absurd rfl h
    | k+2,_,b=>exact b
  refine W.RY (σ':=σ++(.dead::.dead::.cells 60 1 u::D)) (id:=n) U (by rw[t];rfl) J (by rw[t];rfl) (λj r S b=>⟨r,?_,.inl rfl⟩) [(2,.ω [Z6 s.Α,θ s.Β,.ms (n+2) s.cells.length 0 s.cells.length])] (λp g=>by simp at g;subst g;exact .Ο (e:=.Z' [Z6 s.Α,θ s.Β,.ms (n+2) s.cells.length 0 s.cells.length]) rfl) ?_
  .by_cases e:j<n
   .rw[Y0 U] at b ⊢;exact b
   .obtain⟨k,rfl⟩:∃k,j=n+k:=⟨j-n,U⟩;rw[d] at b ⊢
    match k,S,b with
    | 0,h,_=>exact absurd rfl h
    | k+1,_,b=>exact b
  exact W.ret ⟨_,rfl,rfl,rfl⟩
theorem rX (s:υ) (h:s.small) {σ:Ρ} {K E:I->Ρ->Prop} {b:I} (c:Zi b (ZB s)) (f:ψ 0 b) (d:K (.Z' [Z6 s.Α,θ s.Β,.ms (σ.length+2) s.cells.length 0 s.cells.length]) (σ++(.dead::.dead::.cells 60 1 (Yq (σ.length+3) s.cells)::Yv s.cells))) :
  W5 prog (.fn (.func 25) [] []) [b] σ K E:=
 Μ.call (first:=[]) (captured:=[]) (Μ.mono (Μ.UD (rY s h σ) (ZT.cons c .nil) (K':=λa r=>a=.Z' [Z6 s.Α,θ s.Β,.ms (σ.length+2) s.cells.length 0 s.cells.length]/\r=σ++(.dead::.dead::.cells 60 1 (Yq (σ.length+3) s.cells)::Yv s.cells)) (λa s h=>⟨_,.refl _,h⟩)) (λa r ⟨e,Φ⟩=>by rw[e,Φ];exact d) (λa s h=>h.elim))
theorem rW:∀k<256,UK ⟨#[UInt8.ofNat k]⟩=false->97<=k/\k<=122:=by decide +kernel
theorem rV {n:ByteArray} (h:UK n=false):∃b:UInt8,n=⟨#[b]⟩/\97<=b.toNat/\b.toNat<=122:=by
 have c:n.size=1:=by
  unfold UK at h;simp only[Bool.or_eq_false_iff] at h;have:=h.1.1;simpa using this
 obtain⟨d⟩:=n;have hd:d=#[d[0]'(by show 0<ByteArray.size ⟨d⟩;omega)]:=by
  apply Array.ext
  .exact c
  .intro i e a;have:i=0:=by simp at a;exact a
   subst this;rfl
 generalize d[0]'_=b at hd;subst hd;refine⟨b,rfl,rW b.toNat b.toNat_lt ?_⟩;rw[UInt8.ofNat_toNat];exact h
end Go.TL
namespace Go.TL
open Go.Proofs.Tryz
open Go.Proofs
@[simp] theorem o4:VP .bool=true:=rfl
section
variable [ZN]
theorem F6 {a:Type} (b:Nat) (L:List (List a)) (j:Nat):(Yq b L)[j]?=L[j]?.map λl=>.ms (b+j) l.length 0 l.length:=by
 induction L generalizing b j with
 | nil=>simp[Yq]
 | cons l L c=>
  cases j with
  | zero=>simp[Yq]
  | succ j=>simp only[Yq,List.getElem?_cons_succ];rw[c,show b+1+j=b+(j+1) by omega]
theorem BB {a:Type} (b:Nat) (L:List (List a)) (c:Nat) (x:List a):Yq b (L.set c x)=(Yq b L).set c (.ms (b+c) x.length 0 x.length):=by
 induction L generalizing b c with
 | nil=>simp[Yq]
 | cons l L d=>
  cases c with
  | zero=>simp[Yq]
  | succ c=>simp only[Yq,List.set_cons_succ];rw[d,show b+1+c=b+(c+1) by omega]
theorem BA (L:List (List ZF)) (c:Nat) (x:List ZF):Yv (L.set c x)=(Yv L).set c (.cells 28 3 (x.map Z2)):=by
 unfold Yv;rw[Mv]
theorem Iw (L:List (List ZF)) (c:Nat):(Yv L)[c]?=L[c]?.map λl=>.cells 28 3 (l.map Z2):=by unfold Yv;rw[Yh]
theorem RS (L:List (List ZF)):(Yv L).length=L.length:=by unfold Yv;rw[Yp]
theorem rU {i:Type} {f:i->I} {T t:TypeId} {k h b id:Nat} {σ:Ρ} {L:List (List i)} (B:h<=b) (s:h<=id) (u:∀(j:Nat) (l:List i),L[j]?=some l->σ[b+j]?=some (.cells t k (l.map f))) (v:σ[id]?=some (.cells T 1 (Yq b L))) (w:∀p,∀a∈(f p).cells,ψ h a):Yz h σ (.ms id L.length 0 L.length) (.sl false 1 (L.map λl=>.sl false k (l.map f))):=by
 have o:∀(j:Nat) (e d:I),(Yq b L)[0+j]?=some e->(L.map λl=>I.sl false k (l.map f))[j]?=some d->∃l:List i,L[j]?=some l/\e=.ms (b+j) l.length 0 l.length/\d=.sl false k (l.map f):=λj e d c g=>by
  rw[Vl,F6] at c;rw[Yh] at g;cases m:L[j]? with
  | none=>rw[m] at c;cases c
  | some l=>rw[m] at c g;cases c;cases g;exact⟨l,rfl,rfl,rfl⟩
 refine .ms s v (Rh b L) (by rw[Vl];exact Z1 _) J (λj e d c g=>?_) (λj e d c g x a C n r=>?_)
 .obtain⟨l,_,rfl,rfl⟩:=o j e d c g;rfl
 .obtain⟨l,m,rfl,rfl⟩:=o j e d c g
  match x with
  | 0=>
   simp[I.cells] at n r;subst n;subst r;refine Yz.own U (u j l m) J (λe y a A=>?_);obtain⟨p,_,rfl⟩:=Zd.1 y;exact w p a A
  | x+1=>simp[I.cells] at n
theorem Bz {h b id:Nat} {σ:Ρ} {L:List (List ZF)} (d:h<=b) (e:h<=id) (g:∀(j:Nat) (l:List ZF),L[j]?=some l->σ[b+j]?=some (.cells 28 3 (l.map Z2))) (i:σ[id]?=some (.cells 60 1 (Yq b L))):Yz h σ (.ms id L.length 0 L.length) (XL L):=
 rU (f:=Z2) d e g i λp a c=>by
  simp[I.cells] at c;rcases c with rfl|rfl|rfl<;>simp
end
end Go.TL
namespace Go.TL
open Go.Proofs.Tryz
open Go.Proofs
variable [ZN]
abbrev Ux (l:List Nat):List Int:=l.map λn:Nat=>(n:Int)
def Ub (L:Nat):Nat->Nat->List (List Nat)
 | 0,_=>[[]]
 | m+1,a=>(List.range (L-a)).flatMap λd=>(Ub L m (a+d+1)).map ((a+d)::·)
theorem F5:∀L<11,∀m<11,∀a<12,(Ub L m a).length<=252:=by decide +kernel
theorem Iv (L:Nat):∀m a,∀l∈Ub L m a,l.length=m
 | 0,a,l,h=>by simp[Ub] at h;subst h;rfl
 | m+1,a,l,h=>by
  obtain⟨d,_,h⟩:=NO.1 h;obtain⟨r,b,rfl⟩:=Zd.1 h;rw[List.length_cons,Iv L m _ r b]
def OW (L m a d:Nat):List (List Nat):=(List.range d).flatMap λd=>(Ub L m (a+d+1)).map ((a+d)::·)
theorem By (L m a d:Nat):OW L m a (d+1)=OW L m a d++(Ub L m (a+d+1)).map ((a+d)::·):=by
 unfold OW;rw[VA,List.flatMap_append];simp
theorem Bx (L m a:Nat) (b:L<11) (c:m<11):∀d,a+d<=11->(OW L m a d).length<=d*252
 | 0,_=>by simp[OW]
 | d+1,h=>by
  have e:=Bx L m a b c d U
  have:=F5 L b m c (a+d+1) U;rw[By,Wc,Yp];omega
theorem rT:∀n<11,∀m<n+1,TH n 1000 (List.range m)=Ub n m 0:=by decide +kernel
theorem rS:Zi (.sl true 1 [.sl true 0 []]) (θ ([[]]:List (List Int))):=.sl rfl λi u v a b=>by
 match i with
 | 0=>simp at a b;subst a;subst b;exact .one .nil rfl rfl
 | n+1=>simp at a
theorem rR (L:Nat) (ad:L<=10):∀m:Nat,m<=10->∀a:Nat,a<=L->Κ prog 87 [R a,R L,R m] (θ ((Ub L m a).map Ux)):=by
 intro m
 induction m with
 | zero=>
  intro _ a _;refine Μ.body Υ func87 rfl rfl ntmps87 rfl rfl J ?_;refine Χ ?_;refine Γ J ?_;refine Χ ?_;refine W.rt ?_;exact rS
 | succ m s=>
  intro ae a y;have s:=s U;obtain⟨n,S⟩:=Ι (m+1:Nat);have V:IntKind.i64.wrap ((n:Int)-1)=(m:Int):=by rw[IntWalk.i64_in _ U];omega
  have X:Ub L (m+1) a=OW L m a (L-a):=rfl;rw[X,<-S];have B:=By L m a;have C:=Bx L m a U U;have u:OW L m a 0=[]:=rfl;generalize OW L m a=o at B C u;refine Μ.body Υ func87 rfl rfl ntmps87 rfl rfl J ?_;refine Χ ?_;refine Η (by simp;omega) ?_
  repeat apply Ξ
  refine Wr ?_;refine W.pad 29 1 (σ':=[]) rfl (λj r h=>⟨r,h,.inl rfl⟩) [(0,R a),(1,R L),(2,R n),(7,.ms 0 0 0 0)] (λz g=>by
   simp only[Zm,YM,or_false] at g;rcases g with rfl|rfl|rfl|rfl
   .exact .same _
   .exact .same _
   .exact .same _
   .exact .nil) ?_
  rw[List.nil_append];refine Χ ?_;refine W.iter (λd:Nat=>a+d<=L) (λd=>[(1,R L),(2,R n),(7,.ms 0 (o d).length 0 (o d).length),(8,R ((a+d:Nat):Int))]) (λd=>[.cells 29 1 (((o d).map Ux).map (ζ R 1))]) (λd=>L-(a+d)) 0 U (by simp[u]) (by simp[u]) (λd hd c=>?_);by_cases af:a+d<L
  case neg=>
   have k:¬((a+d:Nat):Int)<(L:Int):=U
   have e:L-a=d:=U;rw[e];clear c;generalize o d=T;generalize ((a+d:Nat):Int)=z at k;refine Ζ k ?_;refine Η (by simp[k]) ?_;refine W.exit rfl ?_;refine W.cut 0 (Ε _) [(7,θ (T.map Ux))] (Ε _) (λid r h=>absurd h (PA _)) (λz g=>by
    simp only[Zm,YM,or_false] at g;subst g;exact .own (t:=29) (Ε _) J J (λe Y a y=>by
     obtain⟨x,_,rfl⟩:=Zd.1 Y;simp[I.cells] at y;subst y;simp[Y6])) ?_
   rw[List.take_zero];refine Χ ?_;refine W.rt ?_;exact .refl _
  have k:((a+d:Nat):Int)<(L:Int):=U
  have p:IntKind.i64.wrap (((a+d:Nat):Int)+1)=((a+(d+1):Nat):Int):=by rw[IntWalk.i64_in _ U];omega
  have v:=s (a+d+1) U;rw[show((a+d+1:Nat):Int)=((a+(d+1):Nat):Int) by omega] at v;have c:=c (d+1) U U;have Z:=C d U;have aa:=F5 L U m U (a+d+1) U;have D:=Iv L m (a+d+1);rw[B d] at c;generalize Ub L m (a+d+1)=b at v c aa D;generalize o d=P at c Z;obtain⟨z,g⟩:=Ι (a+d:Nat);rw[<-g] at k p c ⊢;generalize ((a+(d+1):Nat):Int)=ag at p v c;clear s B C u;refine Ζ k ?_;refine Γ (by simp[k]) ?_;refine XX (Τ p V) λah ab=>?_;refine Κ.d (v) (ZY ?_);apply ab;refine Χ ?_;refine W.iter (λj:Nat=>j<=b.length) (λj=>[(1,R L),(2,R n),(7,.ms 0 (P++(b.take j).map (z::·)).length 0 (P++(b.take j).map (z::·)).length),(8,R z),(9,θ (b.map Ux)),(10,R j)]) (λj=>[.cells 29 1 (((P++(b.take j).map (z::·)).map Ux).map (ζ R 1))]) (λj=>b.length-j) 0 (Ε _) J J (λj ai l=>?_);by_cases f:j<b.length
  case neg=>
   have E:¬(j:Int)<(b.length:Int):=U;rw[VB U];generalize P++b.map (z::·)=T at c;clear l;refine Ζ E ?_;refine Η (by simp[f]) ?_;refine W.exit rfl ?_;refine Ζ p ?_;exact W.to c J (by simp[p])
  have E:(j:Int)<(b.length:Int):=U
  have K:=XP (i:=j) U
  have l:=l (j+1) f U
  have F:=ε f;rw[Wx f,Yd,<-U6] at l;obtain⟨r,w⟩:=Ι (b[j]);have aj:=D r (w▸Y2 f);rw[<-w] at F l;have M:∀h,b[j]'h=r:=λh=>w.symm;have H:(P++(b.take j).map (z::·)).length<=4294967295:=by
   rw[Wc,Yp,T6];have:d*252<=11*252:=OP U (Z1 _);omega
  obtain⟨T,N⟩:=Ι (P++(b.take j).map (z::·));rw[<-N] at l H ⊢;have O:1+r.length<=4294967296:=U;have Q:r.length+1<=4294967296:=U;clear c N w D;refine Ζ E ?_;refine Γ (by simp[f]) ?_
  repeat apply Ξ
  refine W.Yn (A:=[41]) Υ [(1,R L),(2,R n),(7,.ms 0 (T++[z::r]).length 0 (T++[z::r]).length),(8,R z),(9,θ (b.map Ux)),(10,R j)] [.cells 29 1 (((T++[z::r]).map Ux).map (ζ R 1))] ?_ (by
   (try simp);(repeat (rw[Ν];simp[F,M,f,O,Q,H]));(try simp[F,M,f,O,Q,H]))
  refine Ζ K ?_;exact W.to l J (by simp[K])
def Ua (n m:Nat):List (List Nat):=(List.range' m (n+1-m)).flatMap λm=>Ub n m 0
theorem rQ {n m:Nat} (h:m<n+1):Ua n m=Ub n m 0++Ua n (m+1):=by
 unfold Ua;have:n+1-m=(n+1-(m+1))+1:=U;rw[this,My,Mz]
theorem rP {n:Nat}:Ua n (n+1)=[]:=by simp[Ua]
theorem Bw {n:Nat} (h:n<11):VY n 0=Ua n 0:=by
 unfold VY Ua;have:∀l:List Nat,(∀m∈l,m<n+1)->(l.flatMap λm=>TH n 1000 (List.range m))=l.flatMap λm=>Ub n m 0:=λl=>by
  induction l with
  | nil=>intro _;rfl
  | cons a l d=>
   intro c;rw[Mz,Mz,d (λm b=>c m (by simp[b])),rT n h a (c a J)]
 exact this _ λm b=>by have:=List.mem_range'_1.1 b;omega
theorem Bv (L:Nat):∀m a,∀l∈Ub L m a,∀k∈l,k<L
 | 0,a,l,h,k,b=>by simp[Ub] at h;subst h;cases b
 | m+1,a,l,h,k,b=>by
  obtain⟨d,hd,h⟩:=NO.1 h;have hd:=Wb.1 hd;obtain⟨r,c,rfl⟩:=Zd.1 h;rcases Zm.1 b with rfl|b
  .omega
  .exact Bv L m _ r c k b
end Go.TL
namespace Go.TL
open Go.Proofs.Tryz
open Go.Proofs
section
variable [ZN]
variable {P:Program} {m nt:Nat} {k:List Item} {env:Δ} {σ:Ρ} {Z:XZ} {E:Yf}
theorem W.rO {ι:Type} {a:Item} (p:ι->Prop) (env':ι->Δ) (σ':ι->Ρ) (b:W P m nt (a::k) env σ (λj e s=>j=k/\∃i,p i/\s=σ' i/\∀q∈env' i,Z7 e q.1=q.2) E) (c:∀i,p i->W P m nt k (env' i) (σ' i) Z E):W P m nt (a::k) env σ Z E:=
 .bind b λj e s ⟨d,i,hi,f,g⟩=>by
  subst d;subst f;exact .forget (env' i) g (c i hi)
end
end Go.TL
namespace Go.TL
open Go.Proofs.Tryz
open Go.Proofs
variable [ZN]
theorem rN (l:List Int) (g:l.length<2 ^ 30):Κ prog 85 [ζ R 1 l] (ζ R 1 l):=by
 refine Μ.body Υ func85 rfl rfl ntmps85 rfl rfl J ?_;have d:l.length<=4294967295:=U;have e:l.length<=4294967296:=U;by_cases a:l=[]
 .subst a;refine Χ ?_;refine ZP λf b=>?_;intro j h;apply b;by_cases c:j=1
  .refine Γ (by simp[c]) ?_;refine Χ ?_;refine W.rt ?_;exact .nil
  .refine Η (by simp[c]) ?_;refine Χ ?_;refine W.rt ?_
   first|exact .refl _|exact .ex
 .refine Χ ?_;refine XX a λf b=>?_;apply b;refine Η rfl ?_;refine Ζ (Τ d (Τ a e)) ?_;refine W.rt ?_
  first|exact .refl _|exact .ex
theorem rM (l:List VL) (g:l.length<2 ^ 30):Κ prog 154 [Z6 l] (Z6 l):=by
 refine Μ.body Υ func154 rfl rfl ntmps154 rfl rfl J ?_;have d:l.length<=4294967295:=U;have e:l.length<=4294967296:=U;by_cases a:l=[]
 .subst a;refine Χ ?_;refine ZP λf b=>?_;intro j h;apply b;by_cases c:j=1
  .refine Γ (by simp[c]) ?_;refine Χ ?_;refine W.rt ?_;exact .nil
  .refine Η (by simp[c]) ?_;refine Χ ?_;refine W.rt ?_
   first|exact .refl _|exact .ex
 .refine Χ ?_;refine XX a λf b=>?_;apply b;refine Η rfl ?_;refine Ζ (Τ d (Τ a e)) ?_;refine W.rt ?_
  first|exact .refl _|exact .ex
theorem rL (l:List ZF) (m:l.length<2 ^ 30) (σ:Ρ):Μ prog 155 [Xt l] σ (λa s=>a=.ms σ.length l.length 0 l.length/\s=σ++[.cells 28 3 (l.map Z2)]) (λ_ _=>False):=by
 refine Μ.body Υ func155 rfl rfl ntmps155 rfl rfl J ?_;have g:l.length<=4294967295:=U;have i:l.length<=4294967296:=U;have k:List.take l.length (l.map Z2)=l.map Z2:=VB J;by_cases c:l=[]
 .subst c;refine Χ ?_;refine ZP λd b=>?_;intro j n;apply b;by_cases e:j=1
  .refine Γ (by simp[e]) ?_;refine Χ ?_;refine W.pad (σ':=σ) 28 3 rfl (λj r h=>⟨r,h,.inl rfl⟩) [(2,.ms σ.length 0 0 0)] (λp f=>by simp at f;subst f;exact .nil) ?_;exact W.ret ⟨_,rfl,rfl,rfl⟩
  .refine Η (by simp[e]) ?_
   repeat apply Ξ
   refine Zj (A:=[7]) Υ λd b=>ZY ?_;apply b;exact W.ret ⟨_,rfl,rfl,rfl⟩
 .refine Χ ?_;refine XX c λd b=>?_;apply b;refine Η rfl ?_
  repeat apply Ξ
  refine Zj (A:=[7]) Υ λd b=>XF (Τ g (Τ c (Τ k i))) ?_;apply b;exact W.ret ⟨_,rfl,rfl,rfl⟩
theorem rK (l:List ZF) (b:l.length<2 ^ 30) (σ:Ρ):W5 prog (.fn (.func 155) [] []) [Xt l] σ (λa s=>a=.ms σ.length l.length 0 l.length/\s=σ++[.cells 28 3 (l.map Z2)]) (λ_ _=>False):=
 Μ.call (first:=[]) (captured:=[]) (rL l b σ)
theorem Tv.F4 {id:Nat} {a c:I}:Tv id (ZI a (.sl true 0 []) c) (ZI a (.ms id 0 0 0) c):=by
 refine .inr ⟨26,3,_,_,rfl,rfl,rfl,λi e h f g=>?_⟩
 match i with
 | 0=>
  simp at f g;subst f;subst g;refine⟨rfl,λx a j b d=>?_⟩
  match x with
  | 0=>simp[I.cells] at b d;subst b;subst d;exact .same _
  | 1=>simp[I.cells] at b d;subst b;subst d;exact .nil
  | 2=>simp[I.cells] at b d;subst b;subst d;exact .same _
  | x+3=>simp[I.cells] at b
 | i+1=>simp at f
theorem Tv.rJ {id:Nat} {a b:I}:Tv id (ZI a b (.sl true 0 [])) (ZI a b (.ms id 0 0 0)):=by
 refine .inr ⟨26,3,_,_,rfl,rfl,rfl,λi e h f g=>?_⟩
 match i with
 | 0=>
  simp at f g;subst f;subst g;refine⟨rfl,λx a j c d=>?_⟩
  match x with
  | 0=>simp[I.cells] at c d;subst c;subst d;exact .same _
  | 1=>simp[I.cells] at c d;subst c;subst d;exact .same _
  | 2=>simp[I.cells] at c d;subst c;subst d;exact .nil
  | x+3=>simp[I.cells] at c
 | i+1=>simp at f
theorem N2.F4 {id k m:Nat} {l:ξ} {a c:I} (h:m=l.length):N2 id k l (ZI a (.ms id m 0 m) c) (ZI a (.sl false k l) c):=by
 subst h;refine .inr ⟨26,3,_,_,rfl,rfl,rfl,λi e j f g=>?_⟩
 match i with
 | 0=>
  simp at f g;subst f;subst g;refine⟨rfl,λx a n b d=>?_⟩
  match x with
  | 0=>simp[I.cells] at b d;subst b;subst d;exact .same _
  | 1=>simp[I.cells] at b d;subst b;subst d;exact .ms
  | 2=>simp[I.cells] at b d;subst b;subst d;exact .same _
  | x+3=>simp[I.cells] at b
 | i+1=>simp at f
theorem rI (s:υ) (h:s.small) (σ:Ρ):Μ prog 123 [ZB s] σ (λa r=>a=.Z' [Z6 s.Α,θ s.Β,.ms (σ.length+3) s.cells.length 0 s.cells.length]/\r=σ++(.dead::.dead::.dead::.cells 60 1 (Yq (σ.length+4) s.cells)::Yv s.cells)) (λ_ _=>False):=by
 obtain⟨al,am,ah,ai,aj⟩:=h;obtain⟨n,o⟩:=Ι σ.length;have m:=F8 σ;have B:=BD σ;have v:=F7 σ;have E:=BC σ;rw[<-o] at m B v E ⊢;refine Μ.body Υ func123 rfl rfl ntmps123 rfl rfl J ?_
 repeat apply Ξ
 refine Zj (A:=[2]) Υ λw g=>?_;simp;(repeat (rw[Ν];simp[o.symm]));apply g;refine W.to (σ':=σ++[ZI (.sl true 0 []) (.sl true 0 []) (.sl true 0 [])]) (env':=[(1,Z9 s),(2,.Ο n 1 0 0)]) ?_ J J;(repeat apply Ξ);refine Zj (A:=[3]) Υ λw g=>?_;simp;(repeat (rw[Ν];simp[o.symm]));refine Κ.c (rM s.Α U) (ZT.refl _) J J ?_;simp[o.symm];(repeat (rw[Ν];simp[o.symm]));apply g;refine W.to (σ':=σ++[ZI (.sl true 0 []) (.sl true 0 []) (.sl true 0 []),ZI (Z6 s.Α) (.sl true 0 []) (.sl true 0 [])]) (env':=[(1,Z9 s),(2,.Ο n 1 0 0),(3,.Ο (n+1) 1 0 0)]) ?_ J J;refine W.Iz 29 1 (i:=n+1) (r:=ZI (Z6 s.Α) (.sl true 0 []) (.sl true 0 [])) (r':=ZI (Z6 s.Α) (.ms (n+2) 0 0 0) (.sl true 0 [])) (by rw[m];rfl) (by refine(congrArg (λk=>Tv k _ _) (?_:_=n+2)).mpr Tv.F4;simp[<-o]) [(1,Z9 s),(2,.Ο n 1 0 0),(3,.Ο (n+1) 1 0 0)] (λp u=>by
  simp only[Zm,YM,or_false] at u;rcases u with rfl|rfl|rfl<;>exact .same _) ?_
 rw[v,U6];refine W.Iz 60 1 (i:=n+1) (r:=ZI (Z6 s.Α) (.ms (n+2) 0 0 0) (.sl true 0 [])) (r':=ZI (Z6 s.Α) (.ms (n+2) 0 0 0) (.ms (n+3) 0 0 0)) (by rw[m];rfl) (by refine(congrArg (λk=>Tv k _ _) (?_:_=n+3)).mpr Tv.rJ;simp[<-o]) [(1,Z9 s),(2,.Ο n 1 0 0),(3,.Ο (n+1) 1 0 0)] (λp u=>by
  simp only[Zm,YM,or_false] at u;rcases u with rfl|rfl|rfl<;>exact .same _) ?_
 rw[v,U6];obtain⟨T,af⟩:=Ι (ZI (.sl true 0 []) (.sl true 0 []) (.sl true 0 []));refine W.to (σ':=σ++[T,ZI (Z6 s.Α) (.ms (n+2) 0 0 0) (.ms (n+3) 0 0 0),.cells 29 1 [],.cells 60 1 []]) (env':=[(1,Z9 s),(2,.Ο n 1 0 0),(3,.Ο (n+1) 1 0 0)]) ?_ (by rw[af];rfl) J;refine Χ ?_;refine W.iter (λi:Nat=>i<=s.Β.length) (λi=>[(1,Z9 s),(2,.Ο n 1 0 0),(3,.Ο (n+1) 1 0 0),(13,θ s.Β),(14,R s.Β.length),(15,R i)])
  (λi=>σ++[T,ZI (Z6 s.Α) (.ms (n+2) i 0 i) (.ms (n+3) 0 0 0),.cells 29 1 ((s.Β.take i).map (ζ R 1)),.cells 60 1 []]) (λi=>s.Β.length-i) 0 (Ε _) J J (λi hi t=>?_)
 obtain⟨V,C⟩:=Ι s.Β.length;rw[<-C] at hi;by_cases y:i<V
 .have D:(i:Int)<(V:Int):=U
  have K:=ε (C▸y)
  have L:s.Β[i].length<2 ^ 30:=by have:=ai _ (Y2 (C▸y));omega
  have F:s.Β.take (i+1)=s.Β.take i++[s.Β[i]]:=Wx (C▸y)
  have M:=XP (i:=i) U;obtain⟨l,H⟩:=Ι (s.Β[i]);have aa:∀h,s.Β[i]'h=l:=λh=>H.symm;rw[<-H] at F K L;have X:((s.Β.take i).map (ζ R 1)).length=i:=by rw[Yp,T6];omega
  have t:=t (i+1) U U;rw[F,Yd,XC,UU] at t;obtain⟨an,ag⟩:=Ι ((s.Β.take i).map (ζ R 1));rw[<-ag] at X t ⊢;rw[<-C] at t ⊢;clear ag F H;(repeat (first|apply Ξ|(refine Y8 λw g=>?_;simp;(repeat (rw[Ν];simp[C.symm,D]));apply g)));refine Γ J ?_;(repeat (first|apply Ξ|(refine Y8 λw g=>?_;simp;(repeat (rw[Ν];simp[C.symm,K,aa,y]));apply g)))
  repeat apply Ξ
  refine W.draw (A:=[24]) Υ mixed λw g=>?_;simp[o.symm,m,v];(repeat (rw[ZG];simp[o.symm,m,v,X]));try rw[ZH]
  refine Ys (Κ.p (rN l L) (ZT.refl _) J J) ?_;simp[o.symm,m,v,X];(repeat (rw[ZG];simp[o.symm,m,v,X]));try rw[ZH]
  first|refine⟨U,Yt (by kernel_rfl),g _ _ ?_⟩|refine⟨Yt (by kernel_rfl),g _ _ ?_⟩
  clear g w;refine Ζ M ?_;refine W.to t ?_ (by simp[M]);simp
 .have D:¬(i:Int)<(V:Int):=U
  (repeat (first|apply Ξ|(refine Y8 λw g=>?_;simp;(repeat (rw[Ν];simp[C.symm,D]));apply g)));refine Η J ?_;refine W.exit rfl ?_;have ab:i=V:=U;subst ab;rw[VB (show(s.Β.map (ζ R 1)).length<=i by rw[Yp];omega)];refine W.RY (σ':=σ++[T,ZI (Z6 s.Α) (θ s.Β) (.ms (n+3) 0 0 0),.dead,.cells 60 1 []]) (id:=n+2) U (by rw[m];rfl) J (by rw[m];rfl) (λj r N f=>?_) [(1,Z9 s),(2,.Ο n 1 0 0),(3,.Ο (n+1) 1 0 0)] (λp u=>by
   simp only[Zm,YM,or_false] at u;rcases u with rfl|rfl|rfl<;>exact .same _) ?_
  .by_cases e:j<n
   .rw[Y0 U] at f;exact⟨r,by rw[Y0 U];exact f,.inl rfl⟩
   .obtain⟨k,rfl⟩:∃k,j=n+k:=⟨j-n,U⟩;rw[m] at f ⊢
    match k,N,f with
    | 0,_,f=>exact⟨r,f,.inl rfl⟩
    | 1,_,f=>
     simp at f;subst f;exact⟨_,rfl,.F4 (by simp[<-C])⟩
    | 2,h,_=>exact absurd rfl h
    | 3,_,f=>exact⟨r,f,.inl rfl⟩
    | k+4,_,f=>simp at f
  clear t y D;refine Χ ?_;refine W.iter (λi:Nat=>i<=s.cells.length) (λi=>[(1,Z9 s),(2,.Ο n 1 0 0),(3,.Ο (n+1) 1 0 0),(28,XL s.cells),(29,R s.cells.length),(30,R i)])
   (λi=>σ++(T::ZI (Z6 s.Α) (θ s.Β) (.ms (n+3) i 0 i)::.dead::.cells 60 1 (Yq (n+4) (s.cells.take i))::Yv (s.cells.take i))) (λi=>s.cells.length-i) 0 (Ε _) (by simp[Yq,Yv]) J (λi hi t=>?_)
  obtain⟨nc,x⟩:=Ι s.cells.length;rw[<-x] at ah;have hi:i<=nc:=by rw[x];exact hi
  by_cases y:i<nc
  .have D:(i:Int)<(nc:Int):=U
   have K:=ε (x▸y)
   have L:s.cells[i].length<2 ^ 30:=aj _ (Y2 (x▸y))
   have F:s.cells.take (i+1)=s.cells.take i++[s.cells[i]]:=Wx (x▸y)
   have M:=XP (i:=i) U;obtain⟨l,H⟩:=Ι (s.cells[i]);have aa:∀h,s.cells[i]'h=l:=λh=>H.symm;rw[<-H] at F K L;have O:(Yq (n+4) (s.cells.take i)).length=i:=by rw[Rh,T6];omega
   have I:(Yv (s.cells.take i)).length=i:=by unfold Yv;rw[Yp,T6];omega
   have Y:=BE (n+4) (s.cells.take i) l
   have ad:Yv (s.cells.take i++[l])=Yv (s.cells.take i)++[.cells 28 3 (l.map Z2)]:=by simp[Yv]
   have ak:(s.cells.take i).length=i:=by rw[T6];omega
   rw[ak] at Y;rw[<-F] at Y ad;have t:=t (i+1) U U;rw[Y,ad] at t;obtain⟨P,Q⟩:=Ι (Yq (n+4) (s.cells.take i));obtain⟨S,Z⟩:=Ι (Yv (s.cells.take i));rw[<-Q] at O t ⊢;rw[<-Z] at I t ⊢;rw[<-x] at t ⊢;clear Q Z Y ad F H;have ao:∀a b c d:Row,(σ++(a::b::c::d::S)).length=n+4+i:=λa b c d=>by simp[<-o,I];omega
   (repeat (first|apply Ξ|(refine Y8 λw g=>?_;simp;(repeat (rw[Ν];simp[x.symm,D]));apply g)));refine Γ J ?_;(repeat (first|apply Ξ|(refine Y8 λw g=>?_;simp;(repeat (rw[Ν];simp[x.symm,K,aa,y]));apply g)))
   repeat apply Ξ
   refine W.La [0,1] [3,4] [n+1] (A:=[39]) Υ mixed λw g=>?_;simp[o.symm,m,B,v,E,O,I]
   repeat (rw[MD];simp[ME,seen,Tu,o.symm,m,B,v,E,O,I])
   refine Nl (rK l L _) ?_;simp[seen,o.symm,m,B,v,E,O,I]
   repeat (rw[MD];simp[ME,seen,Tu,o.symm,m,B,v,E,O,I])
   try rw[Lb]
   first|refine⟨U,Oj (by kernel_rfl),g _ _ ?_⟩|refine⟨Oj (by kernel_rfl),g _ _ ?_⟩
   clear g w;refine Ζ M ?_;refine W.to t ?_ (by simp[M]);simp;omega
  .have D:¬(i:Int)<(nc:Int):=U
   (repeat (first|apply Ξ|(refine Y8 λw g=>?_;simp;(repeat (rw[Ν];simp[x.symm,D]));apply g)));refine Η J ?_;refine W.exit rfl ?_;have ab:i=nc:=U;subst ab;rw[VB (show s.cells.length<=i by omega)];obtain⟨P,Q⟩:=Ι (Yq (n+4) s.cells);obtain⟨S,Z⟩:=Ι (Yv s.cells);have ae:P.length<=s.cells.length:=by rw[Q,Rh];exact Z1 _
   rw[<-x] at ae;rw[<-Q,<-Z,<-x];rw[af]
   repeat apply Ξ
   refine W.Yn (A:=[]) Υ [(2,.Ο n 1 0 0)] (σ++(ZI (Z6 s.Α) (θ s.Β) (.ms (n+3) i 0 i)::ZI (Z6 s.Α) (θ s.Β) (.ms (n+3) i 0 i)::.dead::.cells 60 1 P::S)) ?_ (by
    (try simp);(repeat (rw[Ν];simp[o.symm,m,B,v,E,ae]));(try simp[o.symm,m,B,v,E,ae]))
   refine W.RY (σ':=σ++(ZI (Z6 s.Α) (θ s.Β) (.ms (n+3) i 0 i)::.dead::.dead::.cells 60 1 P::S)) (id:=n+1) U (by rw[m];rfl) J (by rw[m];rfl) (λj r N f=>⟨r,?_,.inl rfl⟩) [(2,.Ο n 1 0 0)] (λp u=>by simp at u;subst u;exact .same _) ?_
   .by_cases e:j<n
    .rw[Y0 U] at f ⊢;exact f
    .obtain⟨k,rfl⟩:∃k,j=n+k:=⟨j-n,U⟩;rw[m] at f ⊢
     match k,N,f with
     | 0,_,f=>exact f
     | 1,h,_=>exact absurd rfl h
     | k+2,_,f=>exact f
   refine W.RY (σ':=σ++(.dead::.dead::.dead::.cells 60 1 P::S)) (id:=n) U (by rw[B];rfl) J (by rw[B];rfl) (λj r N f=>⟨r,?_,.inl rfl⟩) [(2,.ω [Z6 s.Α,θ s.Β,.ms (n+3) i 0 i])] (λp u=>by simp at u;subst u;exact .Ο (e:=.Z' [Z6 s.Α,θ s.Β,.ms (n+3) i 0 i]) rfl) ?_
   .by_cases e:j<n
    .rw[Y0 U] at f ⊢;exact f
    .obtain⟨k,rfl⟩:∃k,j=n+k:=⟨j-n,U⟩;rw[m] at f ⊢
     match k,N,f with
     | 0,h,_=>exact absurd rfl h
     | k+1,_,f=>exact f
   exact W.ret ⟨_,rfl,rfl,rfl⟩
theorem rH (s:υ) (h:s.small) {σ:Ρ} {K E:I->Ρ->Prop} {b:I} (c:Zi b (ZB s)) (d:K (.Z' [Z6 s.Α,θ s.Β,.ms (σ.length+3) s.cells.length 0 s.cells.length]) (σ++(.dead::.dead::.dead::.cells 60 1 (Yq (σ.length+4) s.cells)::Yv s.cells))) :
  W5 prog (.fn (.func 123) [] []) [b] σ K E:=
 Μ.call (first:=[]) (captured:=[]) (Μ.mono (Μ.UD (rI s h σ) (ZT.cons c .nil) (K':=λa r=>a=.Z' [Z6 s.Α,θ s.Β,.ms (σ.length+3) s.cells.length 0 s.cells.length]/\r=σ++(.dead::.dead::.dead::.cells 60 1 (Yq (σ.length+4) s.cells)::Yv s.cells)) (λa s h=>⟨_,.refl _,h⟩)) (λa r ⟨e,Φ⟩=>by rw[e,Φ];exact d) (λa s h=>h.elim))
def υ.more (s:υ) (c:Nat) (p:ZF):υ:=⟨s.Α,s.Β,s.cells.set c ((s.cells[c]?).getD []++[p])⟩
def VC (s:υ) (a:Int) (p:ZF) (F b:List Found):υ×Int:=
 if s.err≠0 then(Wz,s.err)
 else if a<0\/(s.cells.length:Int)<=a then(Wz,3)
 else if((s.cells[a.toNat]?).getD []).length=4 then(Wz,6)
 else if Yy s ((s.cells[a.toNat]?).getD []) p≠0 then(Wz,Yy s ((s.cells[a.toNat]?).getD []) p)
 else if F≠[]/\b=[] then(Wz,9) else(s.more a.toNat p,0)
theorem rG (s:υ) (N:s.small) (g:Int) (p:ZF) (F i:List Found) (aj:Ry s F) (aM:F.length<2 ^ 20) (aN:i.length<2 ^ 20)
  (E:s.err=0->0<=g->g<s.cells.length->((s.cells[g.toNat]?).getD []).length≠4->Yy s ((s.cells[g.toNat]?).getD []) p=0->Κ prog 116 [ZB (s.more g.toNat p)] (YW i)) :
  Κ prog 69 [ZB s,R g,Z2 p] (.ZV [ZB (VC s g p F i).1,R (VC s g p F i).2]):=by
 refine Μ.body Υ func69 rfl rfl ntmps69 rfl rfl J ?_
 repeat apply Ξ
 refine Zj (A:=[6]) Υ λn f=>ZY ?_;apply f;refine ZP λn f=>?_;refine Κ.d (LK s N) (ZY ?_);apply f;refine Χ ?_;by_cases v:s.err=0
 case neg=>
  have e:VC s g p F i=(Wz,s.err):=by unfold VC;rw[if_pos v]
  rw[e];refine Γ (by simp[v]) ?_;refine Χ ?_;refine W.fix (id:=0) (σ':=[]) (Ε _) rfl J J rfl [(6,.ω [.sl true 0 [],.sl true 0 [],.sl true 0 []]),(7,R s.err)] J ?_;refine W.rt ?_;exact .ZV (.cons S' (.cons (.refl _) .nil))
 refine Η (by simp[v]) ?_;obtain⟨nc,m⟩:=Ι s.cells.length;have aO:nc<2 ^ 30:=by rw[m];exact N.2.2.1
 have ak:∀(q:g<0\/(nc:Int)<=g),VC s g p F i=(Wz,3):=λq=>by unfold VC;rw[if_neg (by simpa using v),if_pos (by rw[<-m];exact q)]
 by_cases O:g<0
 .rw[ak (.inl O)];(repeat (first|apply Ξ|(refine Y8 λn f=>?_;simp;(repeat (rw[Ν];simp[m.symm,O]));apply f)));refine Γ J ?_;refine Χ ?_;refine W.fix (id:=0) (σ':=[]) (Ε _) rfl J J rfl [(6,.ω [.sl true 0 [],.sl true 0 [],.sl true 0 []]),(7,R 3)] J ?_;refine W.rt ?_;exact .ZV (.cons S' (.cons (.refl _) .nil))
 by_cases X:(nc:Int)<=g
 .rw[ak (.inr X)];(repeat (first|apply Ξ|(refine Y8 λn f=>?_;simp;(repeat (rw[Ν];simp[m.symm,O,X]));apply f)));refine Γ J ?_;refine Χ ?_;refine W.fix (id:=0) (σ':=[]) (Ε _) rfl J J rfl [(6,.ω [.sl true 0 [],.sl true 0 [],.sl true 0 []]),(7,R 3)] J ?_;refine W.rt ?_;exact .ZV (.cons S' (.cons (.refl _) .nil))
 obtain⟨c,rfl⟩:∃c:Nat,g=c:=⟨g.toNat,U⟩;have Y:c<nc:=U;have al:c<s.cells.length:=U;have w:=ε al;have aH:s.cells[c].length<2 ^ 30:=N.2.2.2.2 _ (Y2 al);obtain⟨x,am⟩:=Ι (s.cells[c]);have an:∀h,s.cells[c]'h=x:=λh=>am.symm;rw[<-am] at w aH;have B:VC s c p F i=if x.length=4 then(Wz,6) else if Yy s x p≠0 then(Wz,Yy s x p) else if F≠[]/\i=[] then(Wz,9) else(s.more c p,0):=by
  unfold VC;rw[if_neg (by simpa using v),if_neg U];simp only[Int.toNat_natCast,w,Option.getD_some]
 simp only[Int.toNat_natCast,w,Option.getD_some] at E;(repeat (first|apply Ξ|(refine Y8 λn f=>?_;simp;(repeat (rw[Ν];simp[m.symm,O,X]));apply f)));refine Η J ?_;(repeat (first|apply Ξ|(refine Y8 λn f=>?_;simp;(repeat (rw[Ν];simp[m.symm,w,an,Y]));apply f)));by_cases P:x.length=4
 .rw[B,if_pos P];refine Γ (by simp[P]) ?_;refine Χ ?_;refine W.fix (id:=0) (σ':=[]) (Ε _) rfl J J rfl [(6,.ω [.sl true 0 [],.sl true 0 [],.sl true 0 []]),(7,R 6)] J ?_;refine W.rt ?_;exact .ZV (.cons S' (.cons (.refl _) .nil))
 rw[if_neg P] at B;refine Η (by simp;omega) ?_;refine Χ ?_;refine W.draw (A:=[]) Υ mixed λn f=>?_;simp;(repeat (rw[ZG];simp[m.symm,w,an,Y]));try rw[ZH]
 refine Ys (Κ.q (Ee s x U p)) (Vf ?_);refine YF (f _ _ ?_);refine Χ ?_;by_cases H:Yy s x p=0
 case neg=>
  rw[B,if_pos H];refine Γ (by simp[H]) ?_;refine Χ ?_;refine W.fix (id:=0) (σ':=[]) (Ε _) rfl J J rfl [(6,.ω [.sl true 0 [],.sl true 0 [],.sl true 0 []]),(7,R (Yy s x p))] J ?_;refine W.rt ?_;exact .ZV (.cons S' (.cons (.refl _) .nil))
 rw[if_neg (by simpa using H)] at B;refine Η (by simp[H]) ?_;have E:=E v U U P H;refine Y1 ?_;refine Zj (A:=[10]) Υ λn f=>ZY ?_;refine rH s N (.refl _) ?_;simp[Rh,RS]
 repeat (rw[Ν];simp[Rh,RS])
 try rw[SK]
 apply f;obtain⟨Z,aa⟩:=Ι (ZI (.sl true 0 []) (.sl true 0 []) (.sl true 0 []));obtain⟨o,K⟩:=Ι (ZI (Z6 s.Α) (θ s.Β) (.ms 4 nc 0 nc));obtain⟨ab,ad⟩:=Ι ([Z6 s.Α,θ s.Β,XL s.cells]);refine W.to (σ':=Z::.dead::.dead::.dead::.cells 60 1 (Yq 5 s.cells)::(Yv s.cells++[o])) (env':=[(1,R c),(3,.ω ab),(5,.ω [R p.Zs,R p.seen,R p.bare]),(6,.Ο 0 1 0 0),(7,R 0),(10,.Ο (nc+5) 1 0 0)]) ?_ (by rw[K,aa];simp[m]) (by simp[m,ad,RS]);have ao:(Yq 5 s.cells).length=nc:=by rw[Rh,m]
 have ae:(Yv s.cells).length=nc:=by rw[RS,m]
 have Q:∀(u:Ρ) (y:Row),u.length=nc->(u++[y])[nc]?=some y:=λu y h=>by rw[<-h];simp
 have M:(Yq 5 s.cells)[c]?=some (.ms (c+5) x.length 0 x.length):=by rw[F6,w,ON];rfl
 have af:(Yv s.cells++[o])[c]?=some (.cells 28 3 (x.map Z2)):=by rw[Y0 U,Iw,w];rfl
 obtain⟨L,S⟩:=Ι (s.cells.set c (x++[p]));have ap:L.length=nc:=by rw[S,Sr,m]
 have ag:(Yq 5 s.cells).set c (.ms (c+5) (x.length+1) 0 (x.length+1))=Yq 5 L:=by rw[S,BB,ON 5 c,Wc];rfl
 have ah:(Yv s.cells).set c (.cells 28 3 (x.map Z2++[Z2 p]))=Yv L:=by rw[S,BA,Yd];rfl
 have aq:[Z6 s.Α,θ s.Β,XL L]=[Z6 (s.more c p).Α,θ (s.more c p).Β,XL (s.more c p).cells]:=by unfold υ.more;rw[w,S];rfl
 obtain⟨aI,ar⟩:=Ι (Yq 5 s.cells);obtain⟨u,au⟩:=Ι (Yv s.cells);rw[<-ar] at ao M ag ⊢;rw[<-au] at ae af ah ⊢;clear ar au;have av:∀z,(u++[o]).set c z=u.set c z++[o]:=λz=>List.set_append_left _ _ U;have aw:∀z,(u.set c z++[o])[c]?=some z:=λz=>by rw[Y0 (by rw[Sr];omega),Ww U]
 have ai:(u++[o])[nc]?=some (ZI (Z6 s.Α) (θ s.Β) (.ms 4 nc 0 nc)):=by rw[Q _ _ ae,K]
 have ax:∀z,(u.set c z++[o])[nc]?=some (ZI (Z6 s.Α) (θ s.Β) (.ms 4 nc 0 nc)):=λz=>by rw[Q _ _ (by simpa using ae),K]
 have ay:∀h,aI[c]'h=.ms (c+5) x.length 0 x.length:=λh=>by rw[ε h] at M;exact W3 M
 repeat apply Ξ
 refine W.La [0,1,3,4,6,7] [10] [4,nc+5] (A:=[61]) Υ mixed λn f=>?_;simp[ai]
 repeat (rw[MD];simp[ME,seen,Tu,ai,ax,ao,M,ay,af,av,aw,Y])
 try rw[Lb]
 refine⟨U,Oj (by kernel_rfl),f _ _ ?_⟩;refine W.to (σ':=Z::.dead::.dead::.dead::.cells 60 1 (Yq 5 L)::(Yv L++[o])) (env':=[(1,R c),(3,.ω ab),(5,.ω [R p.Zs,R p.seen,R p.bare]),(6,.Ο 0 1 0 0),(7,R 0),(10,.Ο (nc+5) 1 0 0)]) ?_ (by rw[<-ag,<-ah];try simp[Z2]) J;have aJ:(Yv L).length=nc:=by rw[RS,ap]
 have az:(Yv L++[o])[nc]?=some (ZI (Z6 s.Α) (θ s.Β) (.ms 4 nc 0 nc)):=by rw[Q _ _ aJ,K]
 refine W.cut 1 (Ε _) [(3,.ω ab),(6,.Ο 0 1 0 0),(7,R 0),(10,.ω [Z6 s.Α,θ s.Β,XL L])] J (λid r aP aA=>by
  obtain rfl:id=0:=U;simp at aA;subst aA;rw[aa];intro e aB a aC;simp at aB;subst aB;simp[I.cells] at aC;subst aC;(try simp[Y6])) (λq aD=>by
  simp only[Zm,YM,or_false] at aD;rcases aD with rfl|rfl|rfl|rfl
  .exact .low (by simp[ad,I.cells,Y6])
  .exact .low (by simp[Xz])
  .exact .low J
  .refine Yz.struct (id:=nc+5) (t:=26) (k:=3) (l:=[Z6 s.Α,θ s.Β,.ms 4 nc 0 nc]) U (by simp[az]) rfl (λy a aQ C D=>?_)
   match y with
   | 0=>simp at C D;subst C;subst D;exact .low (by simp[I.cells,Y6])
   | 1=>simp at C D;subst C;subst D;exact .low (by simp[I.cells,Y6])
   | 2=>
    simp at C D;subst C;subst D;have:=Bz (h:=1) (b:=5) (id:=4) (σ:=Z::.dead::.dead::.dead::.cells 60 1 (Yq 5 L)::(Yv L++[o])) (L:=L) Z0 Z0 (λj l aE=>by
     have aK:j<(Yv L).length:=by rw[RS];exact(Zu.1 aE).1
     rw[show 5+j=j+5 by omega];simp only[List.getElem?_cons_succ];rw[Y0 aK,Iw,aE];rfl) rfl
    rw[ap] at this;exact this
   | y+3=>simp at C) ?_
 rw[aq,ad,aa];obtain⟨T,aL⟩:=Ι (s.more c p);rw[<-aL] at E B ⊢;clear aq ai ax az af M ay av aw Q ag ah K;by_cases V:F=[]
 .have e:VC s c p F i=(T,0):=by rw[B,if_neg (λh=>h.1 V)]
  rw[e];have aF:=aj v;rw[V] at aF;refine ZP λn f=>?_;refine Κ.c (aF) (ZT.refl _) J J ?_;simp;(repeat (rw[Ν];simp));apply f;refine Η J ?_;refine Χ ?_;refine W.fix (id:=0) (σ':=[]) (Ε _) rfl J J rfl [(6,Z9 T),(7,R 0)] J ?_;refine W.rt ?_;exact .refl _
 have aG:0<F.length:=RR.2 V;refine ZP λn f=>?_;refine Κ.c (aj v) (ZT.refl _) J J ?_;simp[aG];(repeat (rw[Ν];simp[aG]));refine Κ.c (E) (ZT.refl _) J J ?_;simp;(repeat (rw[Ν];simp));apply f;by_cases G0:i=[]
 .have e:VC s c p F i=(Wz,9):=by rw[B,if_pos ⟨V,G0⟩]
  rw[e];refine Γ (by simp[G0]) ?_;refine Χ ?_;refine W.fix (id:=0) (σ':=[]) (Ε _) rfl J J rfl [(6,.ω [.sl true 0 [],.sl true 0 [],.sl true 0 []]),(7,R 9)] J ?_;refine W.rt ?_;exact .ZV (.cons S' (.cons (.refl _) .nil))
 .have e:VC s c p F i=(T,0):=by rw[B,if_neg (λh=>G0 h.2)]
  rw[e];refine Η (by simp[G0]) ?_;refine Χ ?_;refine W.fix (id:=0) (σ':=[]) (Ε _) rfl J J rfl [(6,Z9 T),(7,R 0)] J ?_;refine W.rt ?_;exact .refl _
structure F3 (x:υ):Prop where
 PK:WV x
 cells:x.cells.length<=3
 Iy:x.Β.length<=3
def Room (s:υ) (x:υ):Prop:=x=s\/F3 x\/∃y c p,F3 y/\c<y.cells.length/\x=y.more c p
theorem Bu {y:υ} (h:WV y) {c:Nat} (p:ZF):(y.more c p).small:=by
 have b:=h.small;obtain⟨d,e,f,g,i⟩:=b;refine⟨d,e,by unfold υ.more;rw[Sr];exact f,g,λx a=>?_⟩;unfold υ.more at a;rcases NW a with a|rfl
 .exact i x a
 .cases j:y.cells[c]? with
  | none=>simp
  | some l=>have:=(h.cells l (Zf j)).hi;simp;omega
theorem Room.small {s x:υ} (h:Room s x) (a:s.small):x.small:=by
 rcases h with rfl|h|⟨y,c,p,h,_,rfl⟩
 .exact a
 .exact h.PK.small
 .exact Bu h.PK p
theorem rF (s:υ) (aR:s.small) (p:ZF) (d:Zg) (hd:d.Z3.length<2 ^ 63) :
  Μ prog 23 [ZB s,Z2 p,.Ο 0 1 0 0] [ZK d] (λa σ=>∃(L:List υ) (ah:Zg),Zi a (.sl true 3 (L.map ZB))/\L.length=4/\(∀x∈L,Room s x)/\σ=[ZK ah]/\ah.Z3.length<=d.Z3.length) (λ_ _=>False):=by
 refine Μ.body Υ func23 rfl rfl ntmps23 rfl rfl J ?_
 repeat apply Ξ
 refine Wr ?_;refine Y1 ?_;refine Zj (A:=[7]) Υ λB i=>ZY ?_;refine Rk.c (sh d hd 4 3 Z0 Z0 Z0) 0 rfl (ZT.refl _) J (by
  rintro r ⟨s,rfl,_⟩;simp[Y6,I.cells]) ?_
 rintro r d1 ⟨C,rfl,ax,ay,az⟩ aS;simp;(repeat (rw[Ν];simp));apply i;clear i B;refine W.VI (σ0:=[ZK d1]) (Z1 _) (λr u=>by simp at u;subst u;exact Tz d1 _) (λa E=>by simp[I.cells] at E;rcases E with rfl|rfl|rfl<;>simp[Y6,I.cells]) [(2,.Ο 0 1 0 0),(3,Z9 s),(4,.ω [R p.Zs,R p.seen,R p.bare]),(7,Z9 C)] (by simp[Xz,I.cells,Y6]) ?_;have aA:d1.Z3.length<2 ^ 63:=U;refine Y1 ?_;refine Zj (A:=[8]) Υ λB i=>ZY ?_;refine Rk.c (r9 d1 aA 5 3 Z0 Z0 Z0) 0 rfl (ZT.refl _) J (by
  rintro r ⟨s,p,rd,rfl,_⟩;simp[Y6,I.cells]) ?_
 rintro r d2 ⟨e,aT,aU,rfl,M⟩ aV;have V:=M.PK;have X:F3 e:=⟨M.PK,M.many,M.Iy⟩;simp;(repeat (rw[Ν];simp));apply i;clear i B;refine W.VI (σ0:=[ZK d2]) (Z1 _) (λr u=>by simp at u;subst u;exact Tz d2 _) (λa E=>by simp[I.cells] at E;rcases E with rfl|rfl|rfl<;>simp[Y6,I.cells]) [(2,.Ο 0 1 0 0),(3,Z9 s),(4,.ω [R p.Zs,R p.seen,R p.bare]),(7,Z9 C),(8,Z9 e)] (by simp[Xz,I.cells,Y6]) ?_;have aB:d2.Z3.length<2 ^ 63:=U;have aC:=V.many;have aD:=V.small;obtain⟨nc,w⟩:=Ι e.cells.length;rw[<-w] at aC;obtain⟨Y,Z⟩:=Ι ([Z6 s.Α,θ s.Β,XL s.cells]);obtain⟨aa,ab⟩:=Ι ([Z6 C.Α,θ C.Β,XL C.cells]);obtain⟨ad,ae⟩:=Ι ([Z6 e.Α,θ e.Β,XL e.cells]);refine Y1 ?_;refine Zj (A:=[11]) Υ λB i=>ZY ?_;refine rX e aD (.refl _) (by simp[I.cells,Y6]) ?_;simp[Rh,RS]
 repeat (rw[Ν];simp[Rh,RS])
 try rw[SK]
 apply i;obtain⟨o,ai⟩:=Ι (ZI (Z6 e.Α) (θ e.Β) (.ms 3 nc 0 nc));refine W.to (σ':=ZK d2::.dead::.dead::.cells 60 1 (Yq 4 e.cells)::(Yv e.cells++[o])) (env':=[(2,.Ο 0 1 0 0),(3,.ω Y),(4,.ω [R p.Zs,R p.seen,R p.bare]),(7,.ω aa),(8,.ω ad),(11,.Ο (nc+4) 1 0 0)]) ?_ (by rw[ai];simp[w]) (by simp[w,RS,Z,ab,ae]);have af:∀(v:Ρ),v.length=nc->(v++[o])[nc]?=some (ZI (Z6 e.Α) (θ e.Β) (.ms 3 nc 0 nc)):=λv h=>by rw[<-h,Xw (Z1 _),Py,ai,<-h];rfl
 have ag:(Yv e.cells).length=nc:=by rw[RS,w]
 have F:=af _ ag
 have N:(Yq 4 e.cells).length=nc:=by rw[Rh,w]
 refine Ζ (Τ F N) ?_;refine W.rO (ι:=List (List ZF)×Zg) (λq=>q.1.length=nc/\q.2.Z3.length<=d.Z3.length/\Room s ⟨e.Α,e.Β,q.1⟩)
  (λq=>[(3,.ω Y),(7,.ω aa),(8,.ω ad),(11,.Ο (nc+4) 1 0 0)]) (λq=>ZK q.2::.dead::.dead::.cells 60 1 (Yq 4 q.1)::(Yv q.1++[o])) ?_ (λq O=>?_)
 .by_cases aE:nc=0
  .refine Η (by simp[aE]) ?_;refine W.skip ?_;refine W.stop ⟨rfl,(e.cells,d2),⟨w.symm,by simp only;omega,.inr (.inl X)⟩,rfl,J⟩
  refine Γ (by simp;omega) ?_;have aF:IntKind.i64.wrap ((nc:Int)-1)=(nc:Int)-1:=IntWalk.i64_in _ U;have m:=U9 d2 aB ((nc:Int)-1);obtain⟨aj,ak⟩:=S5 d2 ((nc:Int)-1) U U;obtain⟨al,am⟩:=Zl (XD d2 ((nc:Int)-1));rw[am] at m aj ak;obtain⟨c,rfl⟩:∃c:Nat,al=c:=⟨al.toNat,U⟩;have aG:=Xc d2 ((nc:Int)-1);obtain⟨d3,P⟩:=Zl (d2.after ((nc:Int)-1));rw[P] at m aG;have aH:c<nc:=U;clear am P aj ak;refine XX (Τ F (Τ N aF)) λB i=>?_;refine Y3.g (m) (ZY ?_);apply i;have an:c<e.cells.length:=U;have H:=ε an;obtain⟨n,aI⟩:=Ι (e.cells[c]);rw[<-aI] at H;have aW:=(V.cells n (Zf H)).hi;obtain⟨f,Q⟩:=Ι (e.cells.set c (n++[p]));have K:f.length=nc:=by rw[Q,Sr,w]
  have S:Room s ⟨e.Α,e.Β,f⟩:=.inr (.inr ⟨e,c,p,X,an,by unfold υ.more;rw[H,Q];rfl⟩)
  have T:(Yq 4 e.cells)[c]?=some (.ms (c+4) n.length 0 n.length):=by rw[F6,H,ON];rfl
  have ao:(Yv e.cells++[o])[c]?=some (.cells 28 3 (n.map Z2)):=by rw[Y0 U,Iw,H];rfl
  have ap:(Yq 4 e.cells).set c (.ms (c+4) (n.length+1) 0 (n.length+1))=Yq 4 f:=by rw[Q,BB,ON 4 c,Wc];rfl
  have aq:(Yv e.cells).set c (.cells 28 3 (n.map Z2++[Z2 p]))=Yv f:=by rw[Q,BA,Yd];rfl
  obtain⟨aJ,ar⟩:=Ι (Yq 4 e.cells);obtain⟨v,au⟩:=Ι (Yv e.cells);rw[<-ar] at N T ap ⊢;rw[<-au] at ag F ao aq ⊢;clear ar au;have aK:∀z,(v++[o]).set c z=v.set c z++[o]:=λz=>List.set_append_left _ _ U;have aL:∀z,(v.set c z++[o])[c]?=some z:=λz=>by rw[Y0 (by rw[Sr];omega),Ww U]
  have aM:∀z,(v.set c z++[o])[nc]?=some (ZI (Z6 e.Α) (θ e.Β) (.ms 3 nc 0 nc)):=λz=>af _ (by simpa using ag)
  have aN:∀h,aJ[c]'h=.ms (c+4) n.length 0 n.length:=λh=>by rw[ε h] at T;exact W3 T
  repeat apply Ξ
  refine W.La [0,1,3,4,6,7] [10] [3,nc+4] (A:=[43]) Υ mixed λB i=>?_;simp[F]
  repeat (rw[MD];simp[ME,seen,Tu,F,aM,N,T,aN,ao,aK,aL,aH])
  try rw[Lb]
  refine⟨U,Oj (by kernel_rfl),i _ _ ?_⟩;refine W.stop ⟨rfl,(f,d3),⟨K,by simp only;omega,S⟩,by rw[<-ap,<-aq];(try simp[Z2]),J⟩
 obtain⟨f,d3⟩:=q;obtain⟨K,P,S⟩:=O;simp only at K P S ⊢;have aO:(Yv f).length=nc:=by rw[RS,K]
 have aP:=af _ aO;refine W.cut 1 (Z1 _) [(3,.ω Y),(7,.ω aa),(8,.ω ad),(11,.ω [Z6 e.Α,θ e.Β,XL f])] J (λid r aX u=>by
  obtain rfl:id=0:=U;simp at u;subst u;exact Tz d3 _) (λq O=>by
  simp only[Zm,YM,or_false] at O;rcases O with rfl|rfl|rfl|rfl
  .exact .low (by simp[Z,I.cells,Y6])
  .exact .low (by simp[ab,I.cells,Y6])
  .exact .low (by simp[ae,I.cells,Y6])
  .refine Yz.struct (id:=nc+4) (t:=26) (k:=3) (l:=[Z6 e.Α,θ e.Β,.ms 3 nc 0 nc]) U (by simp[aP]) rfl (λy a aY m D=>?_)
   match y with
   | 0=>simp at m D;subst m;subst D;exact .low (by simp[I.cells,Y6])
   | 1=>simp at m D;subst m;subst D;exact .low (by simp[I.cells,Y6])
   | 2=>
    simp at m D;subst m;subst D;have:=Bz (h:=1) (b:=4) (id:=3) (σ:=ZK d3::.dead::.dead::.cells 60 1 (Yq 4 f)::(Yv f++[o])) (L:=f) Z0 Z0 (λj l av=>by
     have aQ:j<(Yv f).length:=by rw[RS];exact(Zu.1 av).1
     rw[show 4+j=j+4 by omega];simp only[List.getElem?_cons_succ];rw[Y0 aQ,Iw,av];rfl) rfl
    rw[K] at this;exact this
   | y+3=>simp at m) ?_
 rw[List.take_succ_cons,List.take_zero,Z,ab,ae];refine Χ ?_;refine W.ret ⟨_,rfl,[s,C,e,⟨e.Α,e.Β,f⟩],d3,.refl _,rfl,λx aw=>?_,rfl,U⟩;simp only[Zm,YM,or_false] at aw;rcases aw with rfl|rfl|rfl|rfl
 .exact .inl rfl
 .exact .inr (.inl ⟨ax,ay,az⟩)
 .exact .inr (.inl X)
 .exact S
theorem rE (s:υ):Κ prog 20 [ZB s] (ZU s.SH):=by
 refine Μ.body Υ func20 rfl rfl ntmps20 rfl rfl J ?_;by_cases g:(20:Int)<s.Α.length\/(20:Int)<s.Β.length\/(20:Int)<s.cells.length
 .have n:s.SH=true:=by
   unfold υ.SH;have:20<s.Α.length\/20<s.Β.length\/20<s.cells.length:=U;rcases this with h|h|h<;>simp[h]
  rw[n];by_cases d:(20:Int)<s.Α.length
  .refine Ζ @d ?_;refine Γ rfl ?_;refine Χ ?_;refine W.rt ?_;exact .refl _
  by_cases f:(20:Int)<s.Β.length
  .refine Ζ (Τ @d f) ?_;refine Γ rfl ?_;refine Χ ?_;refine W.rt ?_;exact .refl _
  have k:(20:Int)<s.cells.length:=U;refine Ζ (Τ @d (Τ f k)) ?_;refine Γ rfl ?_;refine Χ ?_;refine W.rt ?_;exact .refl _
 have d:¬(20:Int)<s.Α.length:=λh=>g (.inl h)
 have f:¬(20:Int)<s.Β.length:=λh=>g (.inr (.inl h))
 have k:¬(20:Int)<s.cells.length:=λh=>g (.inr (.inr h))
 have el:s.SH=(s.Β.any (λx=>decide (20<x.length))||s.cells.any λx=>decide (20<x.length)):=by
  unfold υ.SH;have o:¬20<s.Α.length:=U;have p:¬20<s.Β.length:=U;have r:¬20<s.cells.length:=U;simp only[o,p,r,decide_false,Bool.false_or]
 rw[el];clear el;refine Ζ (Τ @d (Τ f k)) ?_;refine Η rfl ?_;refine Χ ?_;refine W.iter (λi:Nat=>i<=s.Β.length/\∀j,j<i->(h:j<s.Β.length)->¬20<s.Β[j].length) (λi=>[(1,Z9 s),(3,R i)]) (λ_=>[]) (λi=>s.Β.length-i) 0 ⟨Ε _,λj c=>U⟩ rfl J (λi hi l=>?_);refine Χ ?_;refine W.YN rfl (λa=>?_) (λa=>?_)
 .have a:i<s.Β.length:=by simpa using a
  refine Ζ a ?_;refine W.YN rfl (λb=>?_) (λb=>?_)
  .have b:20<s.Β[i].length:=by simp at b;omega
   refine Χ ?_;refine W.rt ?_;refine .of ?_;have:(s.Β.any λx=>decide (20<x.length))=true:=PB.2 ⟨_,Y2 a,by simpa using b⟩;rw[this,Bool.true_or];rfl
  .have b:¬20<s.Β[i].length:=by simp at b;omega
   refine Χ ?_;refine W.forget _ ?_ (l (i+1) ⟨a,λj c h=>?_⟩ U)
   .simp[Yw a (show s.Β.length<2 ^ 62 by omega)]
   .by_cases e:j=i
    .subst e;exact b
    .exact hi.2 j U h
 have a:i=s.Β.length:=by simp at a;omega
 have el:(s.Β.any λx=>decide (20<x.length))=false:=by
  rw[Qw];intro x m;obtain⟨j,c,rfl⟩:=To m;simpa using hi.2 j U c
 rw[el,Bool.false_or];refine W.exit rfl ?_;refine Χ ?_;refine W.iter (λi:Nat=>i<=s.cells.length/\∀j,j<i->(h:j<s.cells.length)->¬20<s.cells[j].length) (λi=>[(1,Z9 s),(4,R i)]) (λ_=>[]) (λi=>s.cells.length-i) 0 ⟨Ε _,λj c=>U⟩ rfl J (λi hi l=>?_);refine Χ ?_;refine W.YN rfl (λa=>?_) (λa=>?_)
 .have a:i<s.cells.length:=by simpa using a
  refine Ζ a ?_;refine W.YN rfl (λb=>?_) (λb=>?_)
  .have b:20<s.cells[i].length:=by simp at b;omega
   refine Χ ?_;refine W.rt ?_;refine .of ?_;have:(s.cells.any λx=>decide (20<x.length))=true:=PB.2 ⟨_,Y2 a,by simpa using b⟩;rw[this];rfl
  .have b:¬20<s.cells[i].length:=by simp at b;omega
   refine Χ ?_;refine W.forget _ ?_ (l (i+1) ⟨a,λj c h=>?_⟩ U)
   .simp[Yw a (show s.cells.length<2 ^ 62 by omega)]
   .by_cases e:j=i
    .subst e;exact b
    .exact hi.2 j U h
 have a:i=s.cells.length:=by simp at a;omega
 have el:(s.cells.any λx=>decide (20<x.length))=false:=by
  rw[Qw];intro x m;obtain⟨j,c,rfl⟩:=To m;simpa using hi.2 j U c
 rw[el];refine W.exit rfl ?_;refine Χ ?_;refine W.rt ?_;exact .refl _
theorem rD {s:υ} (h:s.SH=false):s.small:=by
 unfold υ.SH at h;simp only[Bool.or_eq_false_iff,decide_eq_false_iff_not,Qw,decide_eq_true_eq] at h;obtain⟨⟨⟨⟨d,e⟩,f⟩,b⟩,c⟩:=h;exact⟨U,U,U,λx a=>by have:=b x a;omega,λx a=>by have:=c x a;omega⟩
theorem rC {l:List Int} (h:Xg l=0):∀x∈l,x=0:=by
 induction l with
 | nil=>simp
 | cons e l c=>
  unfold Xg at h;by_cases a:e=0
  .rw[if_pos a] at h;intro x b;rcases Zm.1 b with rfl|b
   .exact a
   .exact c h x b
  .rw[if_neg a] at h;exact absurd h a
theorem K9 {f:Nat->Int} {n:Nat} (h:Xg ((List.range n).map f)=0):∀i,i<n->f i=0:=λi hi=>
 rC h _ (Zd.2 ⟨i,Wb.2 hi,rfl⟩)
theorem F2:∀a<26,∀b<26,Vw ⟨#[UInt8.ofNat (97+a)]⟩ ⟨#[UInt8.ofNat (97+b)]⟩=decide (a<=b):=by decide +kernel
theorem F1 {n:ByteArray} (h:UK n=false):∃a,a<26/\n=⟨#[UInt8.ofNat (97+a)]⟩:=by
 obtain⟨b,rfl,c,d⟩:=rV h;refine⟨b.toNat-97,U,?_⟩;rw[show 97+(b.toNat-97)=b.toNat by omega,UInt8.ofNat_toNat]
theorem rB {a b c:ByteArray} (g:UK a=false) (h:UK b=false) (i:UK c=false) (j:Vw b a=false) (k:Vw c b=false):Vw c a=false:=by
 obtain⟨x,d,rfl⟩:=F1 g;obtain⟨y,e,rfl⟩:=F1 h;obtain⟨z,f,rfl⟩:=F1 i;rw[F2 y e x d,decide_eq_false_iff_not] at j;rw[F2 z f y e,decide_eq_false_iff_not] at k;rw[F2 z f x d,decide_eq_false_iff_not];omega
theorem rA {l:List VL} (h:Wq l=0):Sz l:=by
 unfold Wq at h;by_cases o:l.length=0
 .rw[if_pos o] at h;cases h
 rw[if_neg o] at h;by_cases p:6<l.length
 .rw[if_pos p] at h;cases h
 rw[if_neg p] at h;have s:=K9 h;have b:∀i (hi:i<l.length),UK l[i].name=false/\¬(0<i/\Vw l[i].name ((l[i-1]?.map (·.name)).getD ⟨#[]⟩)=true)/\¬(l[i].YT<1\/63<l[i].YT)/\(l.take i).any (λx=>x.YT==l[i].YT)=false:=λi hi=>by
  have a:=s i hi;unfold Vu at a;rw[ε hi] at a;simp only at a;cases r:UK l[i].name
  .rw[r,if_neg J] at a;by_cases c:0<i/\Vw l[i].name ((l[i-1]?.map (·.name)).getD ⟨#[]⟩)=true
   .rw[if_pos c] at a;cases a
   rw[if_neg c] at a;by_cases f:l[i].YT<1\/63<l[i].YT
   .rw[if_pos f] at a;cases a
   rw[if_neg f] at a;cases t:(l.take i).any (λx=>x.YT==l[i].YT)
   .exact⟨rfl,c,f,rfl⟩
   .rw[t,if_pos rfl] at a;cases a
  .rw[r,if_pos rfl] at a;cases a
 refine⟨U,U,λg u=>?_,?_,?_⟩
 .obtain⟨i,hi,rfl⟩:=To u;obtain⟨v,_,D,_⟩:=b i hi;exact⟨v,U,U⟩
 .refine Tr.2 λi j hi m w=>?_;have next:∀k (a:k+1<l.length),Vw l[k+1].name (l[k]'U).name=false:=λk a=>by
   obtain⟨_,n,_⟩:=b (k+1) a;rw[Nat.add_sub_cancel,ε U] at n;simp only[Option.map_some,Option.getD_some] at n;cases y:Vw l[k+1].name (l[k]'U).name
   .rfl
   .exact absurd ⟨U,y⟩ n
  have A:∀d (hd:i+d+1<l.length),Vw l[i+d+1].name l[i].name=false:=λd=>by
   induction d with
   | zero=>intro hd;exact next i hd
   | succ d B=>intro hd;exact rB (b i U).1 (b (i+d+1) U).1 (b (i+(d+1)+1) hd).1 (B U) (next (i+d+1) hd)
  obtain⟨d,rfl⟩:∃d,j=i+d+1:=⟨j-i-1,U⟩;exact A d m
 .refine Tr.2 λi j hi m w e=>?_;obtain⟨_,_,_,C⟩:=b j m;have:=Qw.1 C l[i] (NX.2 ⟨i,U,rfl⟩);simp[e] at this
theorem rz {l:List Int} (h:∀k (e:k+1<l.length),l[k]'U<l[k+1]):l.Pairwise (· < ·):=by
 refine Tr.2 λi j hi a f=>?_;have b:∀d (hd:i+d+1<l.length),l[i]<l[i+d+1]:=λd=>by
  induction d with
  | zero=>intro hd;exact h i hd
  | succ d c=>intro hd;exact Int.lt_trans (c U) (h (i+d+1) hd)
 obtain⟨d,rfl⟩:∃d,j=i+d+1:=⟨j-i-1,U⟩;exact b d a
theorem ry {L:List (List Int)} (h:Wp L=0):OX L:=by
 unfold Wp at h;by_cases g:L.length=0
 .rw[if_pos g] at h;cases h
 rw[if_neg g] at h;by_cases m:4<L.length
 .rw[if_pos m] at h;cases h
 rw[if_neg m] at h;have t:=K9 (f:=λi=>RA ((L[i]?).getD [])) h;refine⟨U,U,λl u=>?_⟩;obtain⟨i,hi,rfl⟩:=To u;have c:=t i hi;simp only[ε hi,Option.getD_some] at c;have v:=K9 (f:=Ta L[i]) c;generalize L[i]=l at *;have one:∀j (b:j<l.length),Vd l[j]=true/\¬(0<j/\l[j]<=(l[j-1]?).getD 0):=λj b=>by
  have e:=v j b;unfold Ta at e;rw[ε b] at e;simp only at e;cases o:Vd l[j]
  .rw[o,if_pos rfl] at e;cases e
  rw[o,if_neg J] at e;by_cases p:0<j/\l[j]<=(l[j-1]?).getD 0
  .rw[if_pos p] at e;cases e
  exact⟨rfl,p⟩
 have r:l.Pairwise (· < ·):=rz λk c=>by
  have:=(one (k+1) c).2;rw[ε U,Option.getD_some] at this;exact Int.not_le.1 λq=>this ⟨U,q⟩
 have s:∀x∈l,0<=x/\x<3:=λx d=>by
  obtain⟨j,b,rfl⟩:=To d;have:=(one j b).1;unfold Vd at this;simp at this;omega
 exact⟨r7 (n:=3) (a:=0) r (λx d=>by have:=s x d;omega),r,s⟩
theorem rv {s:υ} {c:List ZF} (h:VJ s c=0):QA s.Β.length c:=by
 unfold VJ at h;by_cases b:4<c.length
 .rw[if_pos b] at h;cases h
 rw[if_neg b] at h;have o:=K9 (f:=λi=>match c[i]? with|none=>0|some p=>Yy s (c.take i) p) h;have one:∀i (hi:i<c.length),(0<=c[i].Zs/\c[i].Zs<s.Β.length)/\(c.take i).any (λx=>x.Zs==c[i].Zs)=false/\(valid c[i].seen=true/\valid c[i].bare=true)/\WB c[i].seen c[i].bare=0:=λi hi=>by
  have e:=o i hi;rw[ε hi] at e;simp only at e;unfold Yy at e;by_cases d:c[i].Zs<0\/(s.Β.length:Int)<=c[i].Zs
  .rw[if_pos d] at e;cases e
  rw[if_neg d] at e;cases g:(c.take i).any (λx=>x.Zs==c[i].Zs)
  .rw[g,if_neg J] at e;by_cases a:valid c[i].seen=false\/valid c[i].bare=false
   .rw[if_pos a] at e;cases e
   rw[if_neg a] at e;by_cases k:WB c[i].seen c[i].bare=0
   .refine⟨U,rfl,?_,k⟩;cases r:valid c[i].seen<;>cases t:valid c[i].bare<;>simp[r,t] at a ⊢
   .rw[if_neg k] at e;cases e
  .rw[g,if_pos rfl] at e;cases e
 refine⟨U,?_,λp u=>?_⟩
 .refine Tr.2 λi j hi l y e=>?_;simp only[Yp] at hi l;simp only[List.getElem_map] at e;have:=Qw.1 (one j l).2.1 c[i] (NX.2 ⟨i,U,rfl⟩);simp[e] at this
 .obtain⟨i,hi,rfl⟩:=To u;obtain⟨v,_,⟨m,n⟩,w⟩:=one i hi;unfold valid at m n;simp at m n;exact⟨v,U,U,w⟩
theorem PI {s:υ} (h:s.err=0):WV s:=by
 unfold υ.err at h;by_cases g:Wq s.Α=0
 .rw[if_neg (λq=>q g)] at h;by_cases l:Wp s.Β=0
  .rw[if_neg (λq=>q l)] at h;unfold TP at h;by_cases a:4<s.cells.length
   .rw[if_pos a] at h;cases h
   rw[if_neg a] at h;have b:=K9 (f:=λi=>VJ s ((s.cells[i]?).getD [])) h;refine⟨rA g,ry l,U,λc d=>?_⟩;obtain⟨i,hi,rfl⟩:=To d;have:=b i hi;simp only[ε hi,Option.getD_some] at this;exact rv this
  .rw[if_pos l] at h;exact absurd h l
 .rw[if_pos g] at h;exact absurd h g
def UI (s:υ):List Found:=if s.err=0 then W8 s else []
theorem ru (C:List (List ZF)):Ye C C.length=(C.map List.length).sum:=by unfold Ye;rw[Mx]
theorem Bt (s:υ) (e:s.cells.length<2 ^ 10) (f:∀x∈s.cells,x.length<2 ^ 10):Κ prog 67 [ZB s] (ZU (decide (10<Ye s.cells s.cells.length)&&decide (s.cells.length<=4))):=by
 have d:=BW s e f
 have a:(placesOf s.cells).length=Ye s.cells s.cells.length:=IA _ _ (Z1 _);obtain⟨n,g⟩:=Ι (Ye s.cells s.cells.length);rw[<-g] at a ⊢;generalize placesOf s.cells=P at d a;refine Μ.body Υ func67 rfl rfl ntmps67 rfl rfl J ?_;refine Χ ?_;by_cases h:10<n
 .have b:(10:Int)<n:=U
  repeat apply Ξ
  refine W.Yn (A:=[]) Υ [(2,ZU (decide (s.cells.length<=4)))] [] ?_ (by
   (try simp);(repeat (rw[Ν];simp));(try simp);refine Κ.c d (ZT.refl _) J J ?_;(try simp);(repeat (rw[Ν];simp[a,b]));(try simp[a,b]);omega)
  refine Χ ?_;refine W.rt ?_;exact .of (by simp[h])
 .have b:¬(10:Int)<n:=U
  repeat apply Ξ
  refine W.Yn (A:=[]) Υ [(2,ZU false)] [] ?_ (by
   (try simp);(repeat (rw[Ν];simp));(try simp);refine Κ.c d (ZT.refl _) J J ?_;(try simp);(repeat (rw[Ν];simp[a,b]));(try simp[a,b]))
  refine Χ ?_;refine W.rt ?_;exact .of (by simp[h])
theorem Bs (n:Nat):∀C:List (List ZF),(∀c∈C,c.length<=n)->(C.map List.length).sum<=C.length*n
 | [],_=>J
 | c::C,h=>by
  have:=Bs n C λd hd=>h d (by simp[hd])
  have:=h c J;rw[XC,List.sum_cons,List.length_cons,WT];omega
theorem Room.rr {s x:υ} (h:Room s x) (e:s.err=0->Ye s.cells s.cells.length<=10) (b:x.err=0):Ye x.cells x.cells.length<=10:=by
 have low:∀x:υ,WV x->x.cells.length<=3->x.Β.length<=3->Ye x.cells x.cells.length<=10:=λx f a k=>by
  rw[ru];have l:=Bs 3 x.cells λc a=>by
   have d:=f.cells c a
   have g:=tg x.Β.length (c.map (·.Zs)) d.apart (λy i=>by
    obtain⟨p,j,rfl⟩:=Zd.1 i;exact(d.each p j).1)
   rw[Yp] at g;omega
  have:x.cells.length*3<=3*3:=OP a (Z1 _);omega
 rcases h with rfl|h|⟨y,c,p,h,_,rfl⟩
 .exact e b
 .exact low x h.PK h.cells h.Iy
 .exact low _ (PI b) (by unfold υ.more;rw[Sr];exact h.cells) h.Iy
theorem rq {C:List (List ZF)} {l:List Int} (h:l∈placesOf C):l.length=2:=by
 obtain⟨c,_,h⟩:=NO.1 h;obtain⟨j,_,rfl⟩:=Zd.1 h;rfl
theorem rp (s:υ) (aG:s.small) (aH:s.cells.length<2 ^ 10) (ah:∀x∈s.cells,x.length<2 ^ 10) (K:s.err=0->Ye s.cells s.cells.length<=10) :
  Κ prog 68 [ZB s] (.ZV [θ (if s.err=0 then S3 s.cells (RU s) else []),R s.err]):=by
 have ai:=Cm s aG
 have aj:=BW s aH ah;refine Μ.body Υ func68 rfl rfl ntmps68 rfl rfl J ?_;refine Χ ?_;refine ZP λak C=>?_;refine Κ.d (ai) (ZY ?_);apply C;refine Χ ?_;by_cases o:s.err=0
 case neg=>
  rw[if_neg o];generalize s.err=aQ at o;refine Γ (by simp[o]) ?_;refine Χ ?_;refine W.rt ?_;exact .ZV (.cons .nil (.cons (.refl _) .nil))
 have aI:=PI o
 have K:=K o;rw[if_pos o];have al:S3 s.cells (RU s)=match (Ua (Ye s.cells s.cells.length) 0).find? (PJ s) with|some l=>l.map λk=>(placesOf s.cells).getD k []|none=>[]:=by
  unfold S3;rw[Bw U];have e:(Ua (Ye s.cells s.cells.length) 0).find? (λl=>!(RU s l).isEmpty)=(Ua (Ye s.cells s.cells.length) 0).find? (PJ s):=rfl;rw[e];cases (Ua (Ye s.cells s.cells.length) 0).find? (PJ s)<;>rfl
 have u:(placesOf s.cells).length=Ye s.cells s.cells.length:=IA _ _ (Z1 _);rw[al,o];clear al ai o;refine Η J ?_;refine ZP λak C=>?_;refine Κ.d (aj) (ZY ?_);apply C;obtain⟨n,am⟩:=Ι (Ye s.cells s.cells.length);rw[<-am] at K u ⊢;generalize placesOf s.cells=P at u;have an:∀l:List Nat,l.length<=10->Κ prog 60 [ZB s,ζ R 1 (Ux l)] (ZB (s.Sv (Ux l))):=λl aR=>sy s (Ux l) (by simp;omega) U (λx aJ=>by have:=ah x aJ;omega);have ao:∀l:List Nat,Κ prog 113 [ZB (s.Sv (Ux l))] (BT (RU s l)):=λl=>Gc _ (F' aI _);clear aj am;refine Χ ?_;refine W.iter (λm:Nat=>m<=n+1/\(Ua n 0).find? (PJ s)=(Ua n m).find? (PJ s)) (λm=>[(1,Z9 s),(5,θ P),(6,R m)]) (λ_=>[]) (λm=>n+1-m) 0 ⟨Ε _,rfl⟩ rfl J (λm aK D=>?_);obtain⟨aS,w⟩:=aK;by_cases ap:m<=n
 case neg=>
  have V:¬(m:Int)<=(n:Int):=U;rw[show m=n+1 by omega,rP] at w;rw[w];clear D;refine Ζ (Τ u V) ?_;refine Η (by simp[ap]) ?_;refine W.exit rfl ?_;refine Χ ?_;refine W.rt ?_;exact .ZV (.cons .nil (.cons (.refl _) .nil))
 have V:(m:Int)<=(n:Int):=U
 have aq:=XP (i:=m) U;rw[rQ (n:=n) (m:=m) U] at w;have X:=rR n K m U 0 (Ε _);have ar:=Bv n m 0;have au:=Iv n m 0;have aL:=F5 n U m U 0 Z0;generalize Ub n m 0=b at w X ar au aL;refine Ζ (Τ u V) ?_;refine Γ (by simp[ap]) ?_;refine XX u λak C=>?_;refine Κ.d (X) (XF u ?_);apply C;refine Χ ?_;refine W.iter (λj:Nat=>j<=b.length/\(Ua n 0).find? (PJ s)=(b.drop j++Ua n (m+1)).find? (PJ s)) (λj=>[(1,Z9 s),(5,θ P),(6,R m),(7,θ (b.map Ux)),(8,R j)]) (λ_=>[]) (λj=>b.length-j) 0 ⟨Ε _,by simpa using w⟩ rfl J (λj aM Y=>?_);obtain⟨aT,c⟩:=aM;by_cases g:j<b.length
 case neg=>
  have y:¬(j:Int)<(b.length:Int):=U;rw[NU U,List.nil_append] at c;have D:=D (m+1) ⟨U,c⟩ U;clear Y;refine Ζ y ?_;refine Η (by simp[g]) ?_;refine W.exit rfl ?_;refine Ζ aq ?_;exact W.to D rfl (by simp[aq])
 have y:(j:Int)<(b.length:Int):=U
 have av:=XP (i:=j) U
 have L:=ε g;rw[PH g,List.cons_append,List.find?_cons] at c;obtain⟨r,M⟩:=Ι (b[j]);have aw:r∈b:=M▸Y2 g;rw[<-M] at L c;have Z:∀h,b[j]'h=r:=λh=>M.symm;have aN:=au r aw;have aO:=ar r aw;have aa:=an r U;have N:=ao r;have ax:PJ s r = !decide ((RU s r).length=0):=by
  unfold PJ;cases RU s r<;>simp
 rw[ax] at c;generalize RU s r=T at N c;generalize s.Sv (Ux r)=aU at aa N;clear M D an ao X ax;refine Ζ y ?_;refine Γ (by simp[g]) ?_
 repeat apply Ξ
 refine W.S4 (A:=[]) Υ mixed [(42,ZU (decide (T.length=0))),(1,Z9 s),(5,θ P),(6,R m),(7,θ (b.map Ux)),(8,R j)] [] ?_ (by
  simp;(repeat (rw[ZG];simp[L,Z,g,y]));(try rw[ZH]);refine Ys (Κ.p aa (ZT.refl _) J J) ?_;simp;(repeat (rw[ZG];simp));(try rw[ZH]);refine Ys (Κ.p N (ZT.refl _) J J) ?_;simp;(repeat (rw[ZG];simp));(try rw[ZH]);refine⟨Yt (by kernel_rfl),?_⟩;simp)
 by_cases f:T.length=0
 .have O:(!decide (T.length=0))=false:=by simp[f]
  rw[O] at c;refine Γ (by simp[f]) ?_;refine W.exit rfl ?_;refine Ζ av ?_;exact W.to (Y (j+1) ⟨g,c⟩ U) rfl (by simp[av])
 have O:(!decide (T.length=0))=true:=by simp[f]
 rw[O] at c;rw[c];clear Y c w aa N O;refine Η (by simp[f]) ?_;simp only
 repeat apply Ξ
 refine Wr ?_;refine W.pad 29 1 (σ':=[]) rfl (λj r h=>⟨r,h,.inl rfl⟩) [(5,θ P),(6,R m),(7,θ (b.map Ux)),(8,R j),(9,.ms 0 0 0 0)] (λz f=>by
  simp only[Zm,YM,or_false] at f;rcases f with rfl|rfl|rfl|rfl|rfl
  .exact .same _
  .exact .same _
  .exact .same _
  .exact .same _
  .exact .nil) ?_
 rw[List.nil_append];refine Χ ?_;refine W.iter (λi:Nat=>i<=m) (λi=>[(5,θ P),(6,R m),(7,θ (b.map Ux)),(8,R j),(9,.ms 0 i 0 i),(10,R i)]) (λi=>[.cells 29 1 (((r.take i).map λk=>P.getD k []).map (ζ R 1))]) (λi=>m-i) 0 (Ε _) rfl J (λi hi v=>?_);by_cases ab:i<m
 case neg=>
  have ad:¬(i:Int)<(m:Int):=U;rw[VB U];obtain rfl:i=m:=U;obtain⟨E,B⟩:=Ι (r.map λk=>P.getD k []);have Q:E.length=i:=by rw[B,Yp,aN]
  rw[<-B];clear v;refine Ζ ad ?_;refine Η (by simp[ab]) ?_;refine W.exit rfl ?_;refine W.cut 0 (Ε _) [(9,θ E)] (Ε _) (λid r h=>absurd h (PA _)) (λz f=>by
   simp only[Zm,YM,or_false] at f;subst f;exact .own (t:=29) (Ε _) rfl (by simp[Q]) (λe aP a ay=>by
    obtain⟨x,_,rfl⟩:=Zd.1 aP;simp[I.cells] at ay;subst ay;simp[Y6])) ?_
  rw[List.take_zero];refine Χ ?_;refine W.rt ?_;exact .refl _
 have ad:(i:Int)<(m:Int):=U
 have az:=XP (i:=i) U
 have F:i<r.length:=U
 have aA:(i:Int)<(r.length:Int):=U
 have ae:=ε F
 have v:=v (i+1) ab U;rw[Wx F,Yd] at v;obtain⟨k,S⟩:=Ι (r[i]);have af:k<P.length:=by have:=aO k (S▸Y2 F);omega
 have aB:(k:Int)<(P.length:Int):=U
 have aC:(k:Int)<(n:Int):=U;rw[<-S] at ae v;have aD:∀h,r[i]'h=k:=λh=>S.symm;have H:=ε af;obtain⟨q,ag⟩:=Ι (P[k]);rw[<-ag] at H;have aE:∀h,P[k]'h=q:=λh=>ag.symm;have aV:P.getD k []=q:=by rw[XJ,H];rfl
 obtain⟨E,B⟩:=Ι ((r.take i).map λk=>P.getD k []);have Q:E.length=i:=by rw[B,Yp,T6];omega
 have aF:i<=4294967295:=U;rw[<-B] at v ⊢;clear B S ag;refine Ζ ad ?_;refine Γ (by simp[ab]) ?_
 repeat apply Ξ
 refine W.Yn (A:=[60]) Υ [(5,θ P),(6,R m),(7,θ (b.map Ux)),(8,R j),(9,.ms 0 (i+1) 0 (i+1)),(10,R i)] [.cells 29 1 (E.map (ζ R 1)++[ζ R 1 q])] ?_ (by
  (try simp);(repeat (rw[Ν];simp[L,Z,g,y,ae,aD,F,aA,H,aE,af,aB,u,aC,Q,aF]));(try simp[L,Z,g,y,ae,aD,F,aA,H,aE,af,aB,u,aC,Q,aF]))
 refine Ζ az ?_;exact W.to v (by simp[H]) (by simp[az])
theorem rn (s:υ) (Q:s.small) (c:Nat) (w:c<s.cells.length) (p:ZF):Κ prog 124 [ZB s,R c,Z2 p] (ZB (s.more c p)):=by
 obtain⟨b,B⟩:=Ι (s.cells[c]);have C:=ε w;have ag:b.length<2 ^ 30:=Q.2.2.2.2 b (B▸Y2 w);rw[<-B] at C;have S:(s.more c p)=⟨s.Α,s.Β,s.cells.set c (b++[p])⟩:=by unfold υ.more;rw[C];rfl
 rw[S];have Z:∀h,s.cells[c]'h=b:=λh=>B.symm;have ah:s.cells.length<2 ^ 30:=Q.2.2.1;obtain⟨n,F⟩:=Ι s.cells.length;have aa:(c:Int)<(n:Int):=U;have ab:c<n:=U;clear B S;refine Μ.body Υ func124 rfl rfl ntmps124 rfl rfl J ?_
 repeat apply Ξ
 refine Zj (A:=[6]) Υ λH m=>ZY ?_;apply m
 repeat apply Ξ
 refine Zj (A:=[7]) Υ λH m=>ZY ?_;apply m;refine Y1 ?_;refine Zj (A:=[12]) Υ λH m=>ZY ?_;refine⟨U,?_⟩;apply m;obtain⟨u,D⟩:=Ι (s.cells.map Xt);have K:u.length=n:=by rw[D,Yp,F]
 have L:u[c]?=some (Xt b):=by rw[D,Yh,C];rfl
 refine W.to (env':=[(1,R c),(3,Z9 s),(5,.ω [R p.Zs,R p.seen,R p.bare]),(6,.Ο 0 1 0 0),(7,.Ο 1 1 0 0)]) (σ':=[.cells 26 3 [.Z' [.sl true 0 [],.sl true 0 [],.sl true 0 []]],.cells 26 3 [.Z' [Z6 s.Α,θ s.Β,.ms 2 n 0 n]],.cells 60 1 u]) ?_ (by rw[D,F]) J;have ad:∀h,u[c]'h=Xt b:=λh=>by rw[ε h] at L;exact W3 L
 repeat apply Ξ
 refine W.La [0,1] [9,12] [1] (A:=[23,26]) Υ mixed λH m=>?_;simp
 repeat (rw[MD];simp[ME,seen,Tu,C,Z,w,aa,ab,K,L,ad])
 try rw[Lb]
 refine⟨U,U,Oj (by kernel_rfl),m _ _ ?_⟩;refine Ζ K ?_;refine W.cut 0 (Ε _) [(6,.ω [Z6 s.Α,θ s.Β,XL (s.cells.set c (b++[p]))])] (Ε _) (λid r h=>absurd h (PA _)) (λq T=>by
  simp only[Zm,YM,or_false] at T;subst T;refine Yz.struct (id:=0) (t:=26) (k:=3) (l:=[Z6 s.Α,θ s.Β,.ms 2 n 0 n]) (Ε _) rfl rfl (λy a ae o v=>?_)
  match y with
  | 0=>simp at o v;subst o;subst v;exact .low (by simp[I.cells,Y6])
  | 1=>simp at o v;subst o;subst v;exact .low (by simp[I.cells,Y6])
  | 2=>
   simp at o v;subst o;subst v;have one:∀(j:Nat) (e g:I),(u.set c (.ms 3 (b.length+1) 0 (b.length+1)))[0+j]?=some e->((s.cells.set c (b++[p])).map Xt)[j]?=some g->e.cells=[e]/\g.cells=[g]/\Yz 0 [.cells 26 3 [.Z' [Z6 s.Α,θ s.Β,.ms 2 n 0 n]],.cells 26 3 [.Z' [Z6 s.Α,θ s.Β,.ms 2 n 0 n]],.cells 60 1 (u.set c (.ms 3 (b.length+1) 0 (b.length+1))),.cells 28 3 (b.map Z2++[Z2 p])] e g:=λj e g d f=>by
    rw[Vl,KU] at d;rw[Yh,KU] at f;by_cases M:c=j
    .subst M;rw[if_pos rfl,if_pos U] at d;rw[if_pos rfl,if_pos w] at f;cases d;simp only[Option.map_some] at f;cases f;refine⟨rfl,rfl,?_⟩;show Yz 0 _ _ (.sl false 3 ((b++[p]).map Z2));rw[Yd];exact .own (t:=28) (Ε _) rfl J (λe V a X=>by
      rw[<-Yd] at V;obtain⟨x,_,rfl⟩:=Zd.1 V;simp[I.cells] at X;rcases X with rfl|rfl|rfl<;>simp)
    .rw[if_neg M,D,Yh] at d;rw[if_neg M] at f;rw[d] at f;cases f;cases Y:s.cells[j]? with
     | none=>rw[Y] at d;cases d
     | some x=>
      rw[Y] at d;simp only[Option.map_some] at d;cases d;exact⟨rfl,rfl,.low J⟩
   refine Yz.ms (i:=0) (Ε _) rfl (by rw[Sr,K]) U (by rw[Yp,Sr,F]) (λj e g d f=>?_) (λj e g d f x a ae E N=>?_)
   .obtain⟨O,P,_⟩:=one j e g d f;rw[O,P];rfl
   .obtain⟨O,P,af⟩:=one j e g d f;rw[O] at E;rw[P] at N;cases x with
    | zero=>simp at E N;subst E;subst N;exact af
    | succ x=>simp at E
  | y+3=>simp at o) ?_
 rw[List.take_zero];refine W.rt ?_;exact .refl _
theorem Br {s:υ} (h:WV s) {c:Nat} {f:List ZF} {p:ZF} (l:s.cells[c]?=some f) (A:f.length≠4) (e:Yy s f p=0):WV (s.more c p):=by
 have u:f∈s.cells:=Zf l
 have j:=h.cells f u;unfold Yy at e;by_cases m:p.Zs<0\/(s.Β.length:Int)<=p.Zs
 .rw[if_pos m] at e;cases e
 rw[if_neg m] at e;by_cases Φ:f.any (λx=>x.Zs==p.Zs)=true
 .rw[if_pos Φ] at e;cases e
 rw[if_neg Φ] at e;by_cases i:valid p.seen=false\/valid p.bare=false
 .rw[if_pos i] at e;cases e
 rw[if_neg i] at e;by_cases n:WB p.seen p.bare=0
 case neg=>rw[if_neg n] at e;cases e
 have o:valid p.seen=true:=by cases hv:valid p.seen;exact absurd (.inl hv) i;rfl
 have r:valid p.bare=true:=by cases hv:valid p.bare;exact absurd (.inr hv) i;rfl
 unfold valid at o r;simp at o r;have B:=j.hi;refine⟨h.Α,h.Β,by unfold υ.more;rw[Sr];exact h.many,λd hd=>?_⟩;have k:d∈s.cells\/d=f++[p]:=by
  unfold υ.more at hd;rw[l] at hd;exact NW hd
 rcases k with k|rfl
 .exact h.cells d k
 .refine⟨by rw[Wc,List.length_singleton];omega,?_,λq g=>?_⟩
  .rw[Yd,KW];refine⟨j.apart,J,λa v b t=>?_⟩;simp at t;subst t;rintro rfl;obtain⟨x,w,y⟩:=Zd.1 v;exact Φ (PB.2 ⟨x,w,by simp[y]⟩)
  .rcases WK.1 g with g|g
   .exact j.each q g
   .rw[List.mem_singleton.1 g];exact⟨by show 0<=p.Zs/\p.Zs<(s.Β.length:Int);omega,U,U,n⟩
theorem rm (s:υ) (n:s.small) (b:Int) (p:ZF) :
  Κ prog 70 [ZB s,R b,Z2 p] (.ZV [ZB (VC s b p (UI s) (UI (s.more b.toNat p))).1,R (VC s b p (UI s) (UI (s.more b.toNat p))).2]):=by
 have K:=Cm s n
 have L:=sj s n b;refine Μ.body Υ func70 rfl rfl ntmps70 rfl rfl J ?_
 repeat apply Ξ
 refine Zj (A:=[6]) Υ λB k=>ZY ?_;apply k;refine ZP λB k=>?_;refine Κ.d (K) (ZY ?_);apply k;refine Χ ?_;by_cases j:s.err=0
 case neg=>
  have e:∀F i,VC s b p F i=(Wz,s.err):=λF i=>by unfold VC;rw[if_pos j]
  rw[e];generalize s.err=C at j;refine Γ (by simp[j]) ?_;refine Χ ?_;refine W.fix (id:=0) (σ':=[]) (Ε _) rfl J J rfl [(6,.ω [.sl true 0 [],.sl true 0 [],.sl true 0 []]),(7,R C)] J ?_;refine W.rt ?_;exact .ZV (.cons S' (.cons (.refl _) .nil))
 have M:=PI j
 have D:=Gc s M
 have N:UI s=W8 s:=by unfold UI;rw[if_pos j]
 rw[N];obtain⟨i,u⟩:=Ι (UI (s.more b.toNat p));rw[<-u];rw[j];refine Η J ?_;refine ZP λB k=>?_;refine Κ.d (L) (ZY ?_);apply k;by_cases O:b<0\/(s.cells.length:Int)<=b
 case pos=>
  have e:VC s b p (W8 s) i=(Wz,3):=by unfold VC;rw[if_neg (by simp[j]),if_pos O]
  rw[e];refine Γ (by simp;omega) ?_;refine Χ ?_;refine W.fix (id:=0) (σ':=[]) (Ε _) rfl J J rfl [(6,.ω [.sl true 0 [],.sl true 0 [],.sl true 0 []]),(7,R 3)] J ?_;refine W.rt ?_;exact .ZV (.cons S' (.cons (.refl _) .nil))
 refine Η (by simp;omega) ?_;obtain⟨c,rfl⟩:∃c:Nat,b=c:=⟨b.toNat,U⟩;rw[Int.toNat_natCast] at u;have o:c<s.cells.length:=U;have P:(c:Int)<(s.cells.length:Int):=U;have t:=ε o;obtain⟨g,v⟩:=Ι (s.cells[c]);have aa:g.length<2 ^ 30:=n.2.2.2.2 g (v▸Y2 o);rw[<-v] at t;have Q:∀h,s.cells[c]'h=g:=λh=>v.symm;have S:VC s c p (W8 s) i=if g.length=4 then(Wz,6) else if Yy s g p≠0 then(Wz,Yy s g p) else if W8 s≠[]/\i=[] then(Wz,9) else(s.more c p,0):=by
  unfold VC;rw[if_neg (by simp[j]),if_neg O,Int.toNat_natCast,t];rfl
 rw[S];clear S K L N v;refine Ζ (Τ t (Τ Q (Τ o P))) ?_;by_cases w:g.length=4
 .rw[if_pos w];refine Γ (by simp[w]) ?_;refine Χ ?_;refine W.fix (id:=0) (σ':=[]) (Ε _) rfl J J rfl [(6,.ω [.sl true 0 [],.sl true 0 [],.sl true 0 []]),(7,R 6)] J ?_;refine W.rt ?_;exact .ZV (.cons S' (.cons (.refl _) .nil))
 rw[if_neg w];refine Η (by simp;omega) ?_;have T:=Cn s n.2.1 g U p
 repeat apply Ξ
 refine W.S4 (A:=[]) Υ mixed [(1,R c),(3,Z9 s),(5,.ω [R p.Zs,R p.seen,R p.bare]),(6,.Ο 0 1 0 0),(9,R (Yy s g p))] [.cells 26 3 [.Z' [.sl true 0 [],.sl true 0 [],.sl true 0 []]]] ?_ (by
  simp;(repeat (rw[ZG];simp[t,Q,o,P]));(try rw[ZH]);refine Ys (Κ.p T (ZT.refl _) J J) ?_;simp;(repeat (rw[ZG];simp));(try rw[ZH]);refine⟨Yt (by kernel_rfl),?_⟩;simp)
 refine Χ ?_;by_cases l:Yy s g p=0
 case neg=>
  rw[if_pos l];generalize Yy s g p=C at l;refine Γ (by simp[l]) ?_;refine Χ ?_;refine W.fix (id:=0) (σ':=[]) (Ε _) rfl J J rfl [(6,.ω [.sl true 0 [],.sl true 0 [],.sl true 0 []]),(7,R C)] J ?_;refine W.rt ?_;exact .ZV (.cons S' (.cons (.refl _) .nil))
 have E:=Br M t w l
 have V:i=W8 (s.more c p):=by rw[u];unfold UI;rw[if_pos E.err]
 have X:=rn s n c o p
 have H:=Gc _ E;rw[<-V] at H;rw[if_neg (by simp[l])];rw[l];refine Η J ?_;generalize W8 s=F at D;generalize s.more c p=m at X H;clear u V T l E;refine Y1 ?_;refine Zj (A:=[10]) Υ λB k=>ZY ?_;refine Κ.d (X) (ZY ?_);apply k;refine W.VI (σ0:=[.cells 26 3 [.Z' [.sl true 0 [],.sl true 0 [],.sl true 0 []]]]) (Ε _) (λr Y=>by simp at Y;subst Y;simp[Yc,I.cells]) (λa Z=>by simp[I.cells] at Z;rcases Z with rfl|rfl|rfl<;>simp[Y6,I.cells]) [(3,Z9 s),(6,.Ο 0 1 0 0),(10,Z9 m)] (by simp[Xz,I.cells,Y6]) ?_
 repeat apply Ξ
 refine W.Yn (A:=[]) Υ [(55,ZU (decide (F≠[]/\i=[]))),(6,.Ο 0 1 0 0),(10,Z9 m)] [.cells 26 3 [.Z' [.sl true 0 [],.sl true 0 [],.sl true 0 []]]] ?_ (by
  cases F with
  | nil=>
   (try simp);(repeat (rw[Ν];simp));(try simp);refine Κ.c D (ZT.refl _) J J ?_;(try simp);(repeat (rw[Ν];simp));(try simp)
  | cons f F=>
   have ab:¬((F.length:Int)+1<=0):=U
   have x:(0:Int)<(F.length:Int)+1:=U;(try simp);(repeat (rw[Ν];simp));(try simp);refine Κ.c D (ZT.refl _) J J ?_;(try simp);(repeat (rw[Ν];simp[x]));(try simp[x]);refine Κ.c H (ZT.refl _) J J ?_;(try simp);(repeat (rw[Ν];simp[x]));(try simp[x]))
 by_cases y:F≠[]/\i=[]
 .rw[if_pos y];refine Γ (by simp[y]) ?_;refine Χ ?_;refine W.fix (id:=0) (σ':=[]) (Ε _) rfl J J rfl [(6,.ω [.sl true 0 [],.sl true 0 [],.sl true 0 []]),(7,R 9)] J ?_;refine W.rt ?_;exact .ZV (.cons S' (.cons (.refl _) .nil))
 .rw[if_neg y];refine Η (by rw[decide_eq_false y];rfl) ?_;refine Χ ?_;refine W.fix (id:=0) (σ':=[]) (Ε _) rfl J J rfl [(6,Z9 m),(7,R 0)] J ?_;refine W.rt ?_;exact .refl _
theorem Bq (s:υ) (v:s.small):Κ prog 31 [ZB s,ZB s] (ZU true):=by
 obtain⟨F,H,I,w,y⟩:=v;have o:=Hx s.Β s.Β U (λx B=>by have:=w x B;omega);simp only[beq_self_eq_true] at o;refine Μ.body Υ func31 rfl rfl ntmps31 rfl rfl J ?_
 repeat apply Ξ
 refine Wr ?_
 repeat apply Ξ
 refine W.Yn (A:=[]) Υ [(31,ZU false),(2,Z9 s),(3,Z9 s)] [] ?_ (by
  (try simp);(repeat (rw[Ν];simp));(try simp);refine Κ.c o (ZT.refl _) J J ?_;(try simp);(repeat (rw[Ν];simp));(try simp))
 refine Η rfl ?_;refine Χ ?_;refine W.iter (λi:Nat=>i<=s.Α.length) (λi=>[(2,Z9 s),(3,Z9 s),(5,R i)]) (λ_=>[]) (λi=>s.Α.length-i) 0 (Ε _) rfl J (λi hi m=>?_);by_cases a:i<s.Α.length
 .have d:(i:Int)<(s.Α.length:Int):=U
  have b:=ε a;obtain⟨g,e⟩:=Ι (s.Α[i]);rw[<-e] at b;have f:∀h,s.Α[i]'h=g:=λh=>e.symm;have j:=XP (i:=i) U;refine Ζ d ?_;refine Γ J ?_
  repeat apply Ξ
  refine W.S4 (A:=[]) Υ mixed [(49,ZU false),(2,Z9 s),(3,Z9 s),(5,R i)] [] ?_ (by
   have C:(g.name==g.name)=true:=by
    show(g.name.data==g.name.data)=true;simp
   simp;(repeat (rw[ZG];simp[b,f,a,C]));(try rw[ZH]);refine⟨Yt (by kernel_rfl),?_⟩;simp)
  refine Η rfl ?_;refine Ζ j ?_;exact W.to (m (i+1) a U) rfl (by simp[j])
 have d:¬(i:Int)<(s.Α.length:Int):=U;clear m;refine Ζ d ?_;refine Η J ?_;refine W.exit rfl ?_;refine Χ ?_;refine W.iter (λi:Nat=>i<=s.cells.length) (λi=>[(2,Z9 s),(3,Z9 s),(6,R i)]) (λ_=>[]) (λi=>s.cells.length-i) 0 (Ε _) rfl J (λi hi m=>?_);by_cases a:i<s.cells.length
 .have d:(i:Int)<(s.cells.length:Int):=U
  have b:=ε a;obtain⟨g,e⟩:=Ι (s.cells[i]);have K:=y g (e▸Y2 a);rw[<-e] at b;have f:∀h,s.cells[i]'h=g:=λh=>e.symm;have j:=XP (i:=i) U;refine Ζ d ?_;refine Γ J ?_
  repeat apply Ξ
  refine W.S4 (A:=[]) Υ mixed [(69,ZU false),(2,Z9 s),(3,Z9 s),(6,R i)] [] ?_ (by
   simp;(repeat (rw[ZG];simp[b,f,a]));(try rw[ZH]);refine⟨Yt (by kernel_rfl),?_⟩;simp)
  refine Η rfl ?_;refine Χ ?_;refine W.iter (λk:Nat=>k<=g.length) (λk=>[(2,Z9 s),(3,Z9 s),(6,R i),(7,R k)]) (λ_=>[]) (λk=>g.length-k) 0 (Ε _) rfl J (λk L D=>?_);by_cases l:k<g.length
  .have n:(k:Int)<(g.length:Int):=U
   have r:=ε l;obtain⟨p,t⟩:=Ι (g[k]);rw[<-t] at r;have E:∀h,g[k]'h=p:=λh=>t.symm;have u:=XP (i:=k) U;refine Ζ (Τ b (Τ f (Τ a n))) ?_;refine Γ (by simp[l]) ?_
   repeat apply Ξ
   refine W.S4 (A:=[]) Υ mixed [(96,ZU false),(2,Z9 s),(3,Z9 s),(6,R i),(7,R k)] [] ?_ (by
    simp;(repeat (rw[ZG];simp[b,f,a,r,E,l]));(try rw[ZH]);refine⟨Yt (by kernel_rfl),?_⟩;simp)
   refine Η rfl ?_;refine Ζ u ?_;exact W.to (D (k+1) l U) rfl (by simp[u])
  have n:¬(k:Int)<(g.length:Int):=U;refine Ζ (Τ b (Τ f (Τ a n))) ?_;refine Η (by simp[l]) ?_;refine W.exit rfl ?_;refine Ζ j ?_;exact W.to (m (i+1) a U) rfl (by simp[j])
 have d:¬(i:Int)<(s.cells.length:Int):=U;refine Ζ d ?_;refine Η J ?_;refine W.exit rfl ?_;refine Χ ?_;refine W.rt ?_;exact .of rfl
end Go.TL
namespace Go.TL
open Go.Proofs.Tryz
open Go.Proofs
theorem Bp (s:υ):@Ry TA s (UI s):=λh=>by
 letI:ZN:=TA;have:=B5 (PI h) h;unfold UI;rw[if_pos h];exact this
variable [ZN]
theorem Bo (s:υ):(UI s).length<=3:=by
 unfold UI;split
 .exact B4 s
 .simp
end Go.TL
