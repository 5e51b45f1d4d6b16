import Derived.Test.YtlabjopijpkiaaaGreatJBA
import Derived.Test.YtlabjopijpkiaaaGreatJBH
set_option maxHeartbeats 16000000
set_option maxRecDepth 20000
set_option linter.unusedSectionVars false
set_option linter.unusedSimpArgs false
set_option linter.unusedVariables false
namespace Go.TL
open Go.Proofs
variable [ZX]
theorem ph:∀n<64,∀s<64,UK .i64 (s:Nat) (n:Nat)=0->∀o<64,XY .i64 (s:Nat) (UK .i64 (o:Nat) (n:Nat))=0:=by decide +kernel
theorem pg:∀n<64,∀o<64,UK .i64 (XY .i64 (n:Nat) (o:Nat)) (n:Nat)=0:=by decide +kernel
theorem pf {n a b:Int} (c:0<=n/\n<=63) (d:0<=a/\a<=63) (h:0<=b/\b<=63):UK .i64 (XY .i64 n a) n=0/\XY .i64 (XY .i64 n a) (UK .i64 b n)=0:=by
 obtain⟨⟨i,f⟩,_,_⟩:=Mw c d;obtain⟨x,rfl⟩:∃x:Nat,n=x:=⟨n.toNat,U⟩;obtain⟨y,rfl⟩:∃y:Nat,a=y:=⟨a.toNat,U⟩;obtain⟨z,rfl⟩:∃z:Nat,b=z:=⟨b.toNat,U⟩;have e:=pg x U y U;refine⟨e,?_⟩;obtain⟨w,g⟩:∃w:Nat,XY .i64 (x:Int) (y:Int)=w:=⟨(XY .i64 (x:Int) (y:Int)).toNat,U⟩;rw[g] at e f ⊢;exact ph x U w U e z U
structure OT (a b:Nat) (s:ψ) (p:Int×Int) (rd:List (Int×Int)):Prop where
 As:∃k,k<3/\p=Ze k
 pe:Yd s
 many:s.cells.length<=b
 Ut:s.Ι.length<=a
 pd:s.Δ.length<=3
 len:rd.length=s.cells.length
 each:∀r∈rd,(-1<=r.1/\r.1<s.Ι.length)/\(-1<=r.2/\r.2<s.Ι.length)
 right:∀(c:Nat) (r:Int×Int),rd[c]?=some r->s.Uu p r c=true
structure pb where
 d:Zk
 done:List (List Zw)
 rd:List (Int×Int)
theorem pa (d:Zk) (hd:d.Z0.length<2 ^ 63) (aj ak:Nat) (cv:1<=aj) (cw:aj<=6) (cx:ak<=4) :
  RS 32 [J aj,J ak] d (λr=>∃s p rd,r=.ZW [Yz s,Z9 J 1 [p.1,p.2],ξ (WT rd)]/\OT aj ak s p rd):=by
 unfold RS;refine Μ.body Ρ Tryz.func32 rfl rfl Tryz.ntmps32 rfl rfl I ?_
 repeat apply Ξ
 refine Y4 (A:=[6]) Ρ λaQ ad=>Z6 ?_;apply ad
 repeat apply Ξ
 refine W.Zg ?_;refine W.part (A:=[9]) Ρ [0,1,2,3] [4,5] rfl λaQ ad=>?_;(try simp);(repeat (rw[Ν];simp));refine Bv d hd aj ak cv cw cx rfl ?_;intro G L nc d1 aR aS ⟨dm,cy,bF⟩ cz;simp only[List.length_cons,List.length_nil,Nat.reduceAdd,List.set_cons_zero,List.cons_append,List.nil_append];obtain⟨ag,a'⟩:=Η (ZV 5 (List.replicate nc Z5));have al:(nc=0/\ag=Z5)\/(0<nc/\ag=.ms 5 nc 0 nc):=by
  by_cases B:nc=0
  .subst B;exact .inl ⟨rfl,a'⟩
  .exact .inr ⟨U,by rw[a',XR (by simp[B]),Q9]⟩
 have am:∀done:List (List Zw),done.length<=nc->(nc=0/\η 60 1 (ZP done nc)=[])\/(0<nc/\η 60 1 (ZP done nc)=[.cells 60 1 (ZP done nc)]):=λdone av=>by
  by_cases B:nc=0
  .subst B;have:=YL.1 (S1 av);exact .inl ⟨rfl,by rw[this];rfl⟩
  .exact .inr ⟨U,YZ (λh=>by have:=S1 av;rw[h] at this;simp at this;omega)⟩
 rw[<-a',<-Bs];rw[G4,Td];apply ad;clear ad aQ;have an:ς ([ZH d1,YY Z5 Z5 Z5,.dead,.dead,.dead]++η 60 1 (ZP [] nc)).length ag:=by
  rcases al with⟨_,e⟩|⟨S,e⟩
  .rw[e];simp
  .rcases am [] (χ _) with⟨O,_⟩|⟨_,Φ⟩
   .omega
   .rw[e,Φ];exact Ux.2 I
 refine W.Bt (A:=[9]) Ρ [(0,.Κ 0 1 0 0),(6,.Κ 1 1 0 0),(9,.Θ [ν G,ξ L,ag])] ([ZH d1,YY Z5 Z5 Z5,.dead,.dead,.dead]++η 60 1 (ZP [] nc)) ?_ (by
  have aT:∀h,∀r∈[ZH d1,YY Z5 Z5 Z5,.dead,.dead,.dead]++η 60 1 (ZP [] nc),X6 h r:=λh r f=>by
   rcases Wd.1 f with f|f
   .simp only[Y6,Ya,or_false] at f;rcases f with rfl|rfl|rfl|rfl|rfl
    .exact TA d1 h
    .intro e H a w;simp[Ω.cells] at H;subst H;simp[Ω.cells] at w;subst w;simp
    .trivial
    .trivial
    .trivial
   .exact R7 (λe H a w=>by obtain⟨u,o⟩:=Mv e H;rw[u] at w;simp at w;subst w;exact o) r f
  rcases al with⟨S,e⟩|⟨S,e⟩<;>rcases am [] (χ _) with⟨O,Φ⟩|⟨O,Φ⟩
  .rw[Φ] at aT an;rw[e] at an;rw[e,Φ];(try simp);(repeat (rw[Ν];simp));(try simp);intro ba;exact W.U9 (σ0:=[ZH d1,YY Z5 Z5 Z5,.dead,.dead,.dead]) I (aT _) (λa w=>by
    simp[Ω.cells] at w;rcases w with rfl|rfl|rfl
    .exact(YG.2 Ty:ς 0 _).mono (χ _)
    .exact(YG.2 RR:ς 0 _).mono (χ _)
    .exact an) [(0,.Κ 0 1 0 0),(6,.Κ 1 1 0 0),(9,.Θ [ν G,ξ L,Z5])] (by simp[WV,Ω.cells]) ba
  .omega
  .omega
  .rw[Φ] at aT an;rw[e] at an;rw[e,Φ];have ae:(ZP [] nc).length=nc:=S1 (χ _);(try simp);(repeat (rw[Ν];simp[ae]));(try simp[ae]);intro ba;exact W.U9 (σ0:=[ZH d1,YY Z5 Z5 Z5,.dead,.dead,.dead,.cells 60 1 (ZP [] nc)]) I (aT _) (λa w=>by
    simp[Ω.cells] at w;rcases w with rfl|rfl|rfl
    .exact(YG.2 Ty:ς 0 _).mono (χ _)
    .exact(YG.2 RR:ς 0 _).mono (χ _)
    .exact an) [(0,.Κ 0 1 0 0),(6,.Κ 1 1 0 0),(9,.Θ [ν G,ξ L,.ms 5 nc 0 nc])] (by simp[WV,Ω.cells]) ba)
 obtain⟨K,aU⟩:=Η L.length;have cA:=aS.lo;have cB:=bF;have cC:=aR.hi;have cD:=aR.lo;obtain⟨g,bb⟩:=Η G.length;rw[<-bb] at cC cD;rw[<-aU] at cA bF;have dn:(L.map (Z9 J 1)).length=K:=by rw[Yp,aU]
 have ao:=RY d1 U 2;obtain⟨t0,t1⟩:=Sx d1 2 ZY ZY;obtain⟨bG,bH⟩:=ZG (WU d1 2);rw[bH] at ao t0 t1;clear bH;obtain⟨P,aV⟩:∃k:Nat,bG=k:=⟨bG.toNat,U⟩;obtain⟨d2,bI⟩:=ZG (d1.after 2);have cE:d2.Z0.length<=d.Z0.length:=by rw[<-bI];exact X' (VN _ _) cz
 rw[aV,bI] at ao;rw[aV] at t1;have bJ:P<3:=U;obtain⟨ap,bc⟩:=A5 P bJ;obtain⟨p,T⟩:=Η (Ze P);rw[<-T] at ap bc
 repeat apply Ξ
 refine W.XV (A:=[]) Ρ [(0,.Κ 0 1 0 0),(6,.Κ 1 1 0 0),(9,.Θ [ν G,ξ L,ag]),(10,Zr [p.1,p.2])] ([ZH d2,YY Z5 Z5 Z5,.dead,.dead,.dead]++η 60 1 (ZP [] nc)) ?_ (by
  have dp:(P:Int)<3:=U;rcases al with⟨S,e⟩|⟨S,e⟩<;>rcases am [] (χ _) with⟨O,Φ⟩|⟨O,Φ⟩
  .rw[e,Φ];(try simp);(repeat (rw[Ν];simp));(try simp);refine YM.c ao 0 rfl (ZM.refl _) I I ?_;clear ao ap bc aV;obtain rfl|rfl|rfl:P=0\/P=1\/P=2:=U
   all_goals
    subst T;simp;(repeat (rw[Ν];simp));(try simp[Ze])
  .omega
  .omega
  .rw[e,Φ];(try simp);(repeat (rw[Ν];simp));(try simp);refine YM.c ao 0 rfl (ZM.refl _) I I ?_;clear ao ap bc aV;obtain rfl|rfl|rfl:P=0\/P=1\/P=2:=U
   all_goals
    subst T;simp;(repeat (rw[Ν];simp));(try simp[Ze]))
 obtain⟨Y,ah⟩:=Η (⟨G,L,[]⟩:ψ);refine Τ ?_;refine W.iter (λx:pb=>x.done.length<=nc/\x.d.Z0.length<=d.Z0.length/\(∀c∈x.done,Rf K c)/\x.rd.length=x.done.length/\(∀r∈x.rd,(-1<=r.1/\r.1<g)/\(-1<=r.2/\r.2<g))/\∀(c:Nat) (r:Int×Int) (m:List Zw),x.rd[c]?=some r->x.done[c]?=some m->∀y∈m,Y.VB p r y=true)
  (λx=>[(0,.Κ 0 1 0 0),(6,.Κ 1 1 0 0),(9,.Θ [ν G,ξ L,ag]),(10,Zr [p.1,p.2]),(11,ZV 6 (x.rd.map Φ)),(12,J x.done.length)])
  (λx=>[ZH x.d,YY Z5 Z5 Z5,.dead,.dead,.dead]++η 60 1 (ZP x.done nc)++η 29 1 (x.rd.map Φ)) (λx=>nc-x.done.length) ⟨d2,[],[]⟩ ⟨I,cE,I,rfl,I,I⟩ (by simp[Wy]) (by simp[ZV]) (λx D bd=>?_)
 obtain⟨Z,done,rd⟩:=x;obtain⟨av,aW,be,Q,bf,bg⟩:=D;simp only at av aW be Q bf bg bd ⊢;obtain⟨c,ai⟩:=Η done.length;rw[<-ai] at av bd Q;rw[<-ai];have cF:(nc=0/\rd=[])\/0<nc:=by
  by_cases B:nc=0
  .exact .inl ⟨B,YL.1 U⟩
  .exact .inr U
 repeat apply Ξ
 refine W.XV (A:=[]) Ρ [(33,Z4 (decide (c<nc))),(0,.Κ 0 1 0 0),(6,.Κ 1 1 0 0),(9,.Θ [ν G,ξ L,ag]),(10,Zr [p.1,p.2]),(11,ZV 6 (rd.map Φ)),(12,J c)] ([ZH Z,YY Z5 Z5 Z5,.dead,.dead,.dead]++η 60 1 (ZP done nc)++η 29 1 (rd.map Φ)) ?_ (by
  have ae:(ZP done nc).length=nc:=S1 U;obtain⟨bK,aX⟩:=Η (η 29 1 (rd.map Φ));obtain⟨bL,aY⟩:=Η (ZV 6 (rd.map Φ));rw[<-aX,<-aY];rcases al with⟨S,e⟩|⟨S,e⟩<;>rcases am done U with⟨O,Φ⟩|⟨O,Φ⟩
  .rw[e,Φ,O];(try simp);(repeat (rw[Ν];simp));(try simp)
  .omega
  .omega
  .rw[e,Φ];(try simp);(repeat (rw[Ν];simp[ae]));(try simp[ae]))
 refine W.Yv rfl (λaq=>?_) (λaq=>?_)
 .have aq:c<nc:=by simpa using aq
  rcases al with⟨S,_⟩|⟨S,e⟩
  .omega
  rcases am done U with⟨O,_⟩|⟨O,aw⟩
  .omega
  obtain⟨M,ax⟩:=Η (ZP done nc);have ay:M.length=nc:=by rw[ax];exact S1 U
  have bh:M[c]?=some Z5:=by rw[ax,ai];exact Bq U
  have cG:∀m,M.set c (U6 m)=ZP (done++[m]) nc:=λm=>by rw[ax,ai];exact Bp U m
  have cH:∀e∈M,e.cells=[e]/\ς 0 e:=by rw[ax];exact Mv
  have aZ:M.set c Z5=M:=by
   apply VJ;intro i;rw[List.getElem?_set];split
   .rename_i e;subst e;split
    .exact bh.symm
    .rename_i h;exact(h U).elim
   .rfl
  have bM:L.length=K:=aU.symm
  have bi:G.length=g:=bb.symm;rw[e,aw,<-ax];simp only[List.cons_append,List.nil_append];obtain⟨aa,cI⟩:=Η ((g:Int)-1:Int);have bj:IntKind.i64.wrap ((g:Int)-1)=aa:=by rw[cI];exact IntWalk.i64_in _ U
  have bN:=MG Z U (-1) aa;obtain⟨a0,a1⟩:=My Z (a:=-1) (b:=aa) U ZY U;obtain⟨bk,bO⟩:=ZG (S2 Z (-1) aa);obtain⟨az,bP⟩:=ZG (Z.after (IntKind.i64.wrap (aa- -1)));have cJ:az.Z0.length<=d.Z0.length:=by rw[<-bP];exact X' (VN _ _) aW
  rw[bO,bP] at bN;rw[bO] at a0 a1;have bQ:=MG az U (-1) aa;obtain⟨a2,a3⟩:=My az (a:=-1) (b:=aa) U ZY U;obtain⟨bl,bR⟩:=ZG (S2 az (-1) aa);obtain⟨V,bS⟩:=ZG (az.after (IntKind.i64.wrap (aa- -1)));have dq:V.Z0.length<=d.Z0.length:=by rw[<-bS];exact X' (VN _ _) cJ
  rw[bR,bS] at bQ;rw[bR] at a2 a3;obtain⟨r,f⟩:=Η ((bk,bl):Int×Int);have cK:r.1=bk:=by rw[f]
  have cL:r.2=bl:=by rw[f]
  obtain⟨bK,aX⟩:=Η (η 29 1 (rd.map Φ));obtain⟨bL,aY⟩:=Η (ZV 6 (rd.map Φ));rw[<-aX,<-aY]
  repeat apply Ξ
  refine W.Ia (A:=[]) Ρ mixed [(0,.Κ 0 1 0 0),(6,.Κ 1 1 0 0),(9,.Θ [ν G,ξ L,.ms 5 nc 0 nc]),(10,Zr [p.1,p.2]),(11,bL),(12,J c),(13,Φ r)] (ZH V::YY Z5 Z5 Z5::.dead::.dead::.dead::.cells 60 1 M::bK) ?_ (by
   simp;(repeat (rw[UT];simp[bi,bj]));(try rw[UU]);refine YM.e bN (ZM.refl _) I I ?_;simp;(repeat (rw[UT];simp[bi,bj]));(try rw[UU]);refine YM.e bQ (ZM.refl _) I I ?_;simp;(repeat (rw[UT];simp[bi,bj]));(try rw[UU]);refine⟨XD (by kernel_rfl),XD (by kernel_rfl),?_⟩;simp[f])
  obtain⟨af,a4⟩:=Η ((rd++[r]).map Φ);have dr:af.length=c+1:=by rw[a4];simp[Q]
  have cM:∀e∈af,∀a∈e.cells,ς 0 a:=by rw[a4];exact Fh
  repeat apply Ξ
  refine W.XV (A:=[52]) Ρ [(0,.Κ 0 1 0 0),(6,.Κ 1 1 0 0),(9,.Θ [ν G,ξ L,.ms 5 nc 0 nc]),(10,Zr [p.1,p.2]),(11,.ms 6 (c+1) 0 (c+1)),(12,J c),(13,Φ r)] (ZH V::YY Z5 Z5 Z5::.dead::.dead::.dead::.cells 60 1 M::[.cells 29 1 af]) ?_ (by
   rw[a4,aX,aY];by_cases B:rd=[]
   .subst B;have cN:c=0:=by simpa using Q.symm
    subst cN;have bm:ZV 6 (([]:List (Int×Int)).map Φ)=.sl true 0 []:=rfl;have cO:η 29 1 (([]:List (Int×Int)).map Φ)=[]:=rfl;rw[bm,cO];(try simp);(repeat (rw[Ν];simp));(try simp)
   .have bT:rd.map Φ≠[]:=by simpa using B
    rw[XR bT,YZ bT];have bU:c<=4294967295:=U;(try simp);(repeat (rw[Ν];simp[Q,bU]));(try simp[Q,bU]))
  have bn:=H9 V U K U
  have a5:=K3 V K
  have bo:∀x∈(Xb V K).1,0<=x/\x<K:=λx h=>H4 h
  have bV:=H3 V K
  have cP:=K4 V K;obtain⟨N,cQ⟩:=ZG ((Xb V K).1);obtain⟨a6,cR⟩:=ZG ((Xb V K).2);rw[cQ] at bn a5 bo bV;rw[cR] at bn cP;refine XB bM λaQ ad=>?_;refine YM.g (bn) (Z6 ?_);apply ad;have bp:=RY a6 U K;obtain⟨cS,bW⟩:=Sx a6 K U U;obtain⟨bX,bY⟩:=ZG (WU a6 K);rw[bY] at bp cS bW;clear bY;obtain⟨ab,aA⟩:∃k:Nat,bX=k:=⟨bX.toNat,U⟩;obtain⟨bZ,b0⟩:=ZG (a6.after K);have cT:bZ.Z0.length<=d.Z0.length:=by rw[<-b0];exact X' (VN _ _) U
  rw[aA,b0] at bp;rw[aA] at bW;refine XB bM λaQ ad=>?_;refine YM.g (bp) (Z6 ?_);apply ad
  repeat apply Ξ
  refine W.iter (λx:Bo=>x.Qp.length+x.k=ab/\x.d.Z0.length<=d.Z0.length/\x.Qp.map (·.Ys)=((N.take ab).drop x.k).reverse/\∀y∈x.Qp,((0<=y.seen/\y.seen<=63)/\(0<=y.bare/\y.bare<=63)/\Uv y.seen y.bare=0)/\Y.VB p r y=true)
   (λx=>[(0,.Κ 0 1 0 0),(6,.Κ 1 1 0 0),(9,.Θ [ν G,ξ L,.ms 5 nc 0 nc]),(10,Zr [p.1,p.2]),(11,.ms 6 (c+1) 0 (c+1)),(12,J c),(13,Φ r),(14,Z9 J 1 N),(15,J x.k)])
   (λx=>ZH x.d::YY Z5 Z5 Z5::.dead::.dead::.dead::.cells 60 1 (M.set c (ZV 7 (x.Qp.map Zv)))::.cells 29 1 af::η 28 3 (x.Qp.map Zv)) (λx=>x.k) ⟨ab,bZ,[]⟩
   ⟨I,cT,I,I⟩ (by simp only[UA];rw[show ZV 7 []=Z5 from rfl,aZ];rfl) I (λx D b1=>?_)
  obtain⟨k,E,m⟩:=x;obtain⟨cU,bq,aB,a7⟩:=D;simp only at cU bq aB a7 b1 ⊢;refine Τ ?_;refine W.Yv rfl (λbr=>?_) (λbr=>?_)
  .have aA:0<k:=by simpa using br
   obtain⟨j,cV⟩:∃j,k=j+1:=⟨k-1,U⟩;have X:IntKind.i64.wrap ((k:Int)-1)=j:=by rw[IntWalk.i64_in _ U];omega
   have b2:j<N.length:=U
   have aC:N[j]?=some N[j]:=δ b2
   have b3:=bo _ (YF b2);obtain⟨bs,bt⟩:=Η (N[j]);rw[<-bt] at aC b3;have a8:∀h,N[j]'h=bs:=λh=>bt.symm;obtain⟨R,b4⟩:∃n:Nat,bs=n:=⟨bs.toNat,U⟩;rw[b4] at aC a8 b3;have cW:(ZV 7 (m.map Zv)=Z5/\η 28 3 (m.map Zv)=[]/\m=[])\/(ZV 7 (m.map Zv)=.ms 7 m.length 0 m.length/\η 28 3 (m.map Zv)=[.cells 28 3 (m.map Zv)]/\0<m.length):=by
    by_cases B:m=[]
    .subst B;exact .inl ⟨rfl,rfl,rfl⟩
    .have aD:m.map Zv≠[]:=by simpa using B
     exact .inr ⟨by rw[XR aD,Yp],YZ aD,RQ.2 B⟩
   have aE:=pj Y p r R (by rw[ah];show R<L.length;omega) (λx D=>by rw[ah] at D;have:=(aS.each x D).1;omega) (by rw[ah,f];show bk<G.length;omega) (by rw[ah,f];show bl<G.length;omega) (ZH E::YY Z5 Z5 Z5::.dead::.dead::.dead::.cells 60 1 (M.set c (ZV 7 (m.map Zv)))::.cells 29 1 af::η 28 3 (m.map Zv)) 5 nc (M.set c (ZV 7 (m.map Zv))) (by rw[RP];exact ay) rfl
   have a9:0<=Y.XA p r R/\Y.XA p r R<=63:=by
    have cX:Yd ⟨G,L,[]⟩:=⟨aR,aS,I,I⟩;rw[ah];exact A6 cX p r R
   have b5:∀a b:Int,Y.VB p r ⟨R,a,b⟩=(Oa a (Y.XA p r R)==0&&Uv (Y.XA p r R) b==0):=λa b=>by unfold ψ.VB;simp
   obtain⟨aF,b6⟩:=Η (Y.XA p r R);rw[<-b6] at aE a9;simp only[<-b6] at b5;rw[ah] at aE
   repeat apply Ξ
   refine W.K5 (A:=[]) Ρ mixed [(0,.Κ 0 1 0 0),(6,.Κ 1 1 0 0),(9,.Θ [ν G,ξ L,.ms 5 nc 0 nc]),(10,Zr [p.1,p.2]),(11,.ms 6 (c+1) 0 (c+1)),(12,J c),(13,Φ r),(14,Z9 J 1 N),(15,J k),(16,J aF)] (ZH E::YY Z5 Z5 Z5::.dead::.dead::.dead::.cells 60 1 (M.set c (ZV 7 (m.map Zv)))::.cells 29 1 af::η 28 3 (m.map Zv)) ?_ (by
    obtain⟨ds,b7⟩:=Η (η 28 3 (m.map Zv));obtain⟨dt,b8⟩:=Η (ZV 7 (m.map Zv));rw[<-b7,<-b8] at aE;rw[<-b7,<-b8,f];rw[f] at aE;simp;(repeat (rw[ZK];simp[X,aC,a8,a5]));(try rw[ZL]);refine⟨U,?_⟩;refine HN (Μ.call (first:=[]) (captured:=[]) (Μ.T' aE (.cons (.refl _) (.cons .ex (.cons .ex (.cons (.refl _) .nil)))) (λa s h=>⟨_,.refl _,h⟩))) ?_;simp;(repeat (rw[ZK];simp));(try rw[ZL]);refine⟨XD (by kernel_rfl),?_⟩;simp)
   have bu:=RY E U 63;obtain⟨a0,a1⟩:=Sx E 63 ZY ZY;obtain⟨aG,b9⟩:=ZG (WU E 63);obtain⟨aH,b'⟩:=ZG (E.after 63);have cY:aH.Z0.length<=d.Z0.length:=by rw[<-b'];exact X' (VN _ _) bq
   rw[b9,b'] at bu;rw[b9] at a0 a1;have pick:∀(F:Zk) (x:Int),0<=x->x<=63->0<=([63,x]:List Int).getD (Rh F [63,x]) 0/\([63,x]:List Int).getD (Rh F [63,x]) 0<=63:=λF x u o=>by
    match Rh F [63,x] with
    | 0=>simp
    | 1=>simp;omega
    | n+2=>simp
   have bv:=FV aH U [63,aG] I I
   have bw:=pick aH aG a0 a1;obtain⟨cZ,ca⟩:=ZG (([63,aG]:List Int).getD (Rh aH [63,aG]) 0);obtain⟨aI,cb⟩:=ZG (aH.after ((([63,aG]:List Int).length:Int)-1));have c0:aI.Z0.length<=d.Z0.length:=by rw[<-cb];exact X' (VN _ _) cY
   rw[ca,cb] at bv;rw[ca] at bw;have bx:=RY aI U 63;obtain⟨a2,a3⟩:=Sx aI 63 ZY ZY;obtain⟨aJ,cc⟩:=ZG (WU aI 63);obtain⟨aK,cd⟩:=ZG (aI.after 63);have c1:aK.Z0.length<=d.Z0.length:=by rw[<-cd];exact X' (VN _ _) c0
   rw[cc,cd] at bx;rw[cc] at a2 a3;have bz:=FV aK U [63,aJ] I I;have bA:=pick aK aJ a2 a3;obtain⟨c2,ce⟩:=ZG (([63,aJ]:List Int).getD (Rh aK [63,aJ]) 0);obtain⟨bB,cf⟩:=ZG (aK.after ((([63,aJ]:List Int).length:Int)-1));have c3:bB.Z0.length<=d.Z0.length:=by rw[<-cf];exact X' (VN _ _) c1
   rw[ce,cf] at bz;rw[ce] at bA;obtain⟨cg,_,_⟩:=Mw a9 bw;obtain⟨_,ci,cj⟩:=Mw bA a9;obtain⟨ck,bC⟩:=pf a9 bw bA;obtain⟨cl,aL⟩:=ZG (XY .i64 aF cZ);obtain⟨cm,aM⟩:=ZG (UK .i64 c2 aF);rw[aL] at cg ck bC;rw[aM] at ci cj bC;obtain⟨ar,bD⟩:=Η (⟨R,cl,cm⟩:Zw);have cn:(m++[ar]).map Zv≠[]:=I
   repeat apply Ξ
   refine W.Ia (A:=[105]) Ρ mixed [(0,.Κ 0 1 0 0),(6,.Κ 1 1 0 0),(9,.Θ [ν G,ξ L,.ms 5 nc 0 nc]),(10,Zr [p.1,p.2]),(11,.ms 6 (c+1) 0 (c+1)),(12,J c),(13,Φ r),(14,Z9 J 1 N),(15,J k)] (ZH bB::YY Z5 Z5 Z5::.dead::.dead::.dead::.cells 60 1 (M.set c (ZV 7 ((m++[ar]).map Zv)))::.cells 29 1 af::η 28 3 ((m++[ar]).map Zv)) ?_ (by
    rw[XR cn,YZ cn,Yp,VK,Yc,Xg,UA,bD];rcases cW with⟨f1,f2,f3⟩|⟨f1,f2,f3⟩
    .rw[f1,f2,aZ,f3];simp;(repeat (rw[UT];simp[X,aC,a8,a5,ay,bh]));(try rw[UU]);refine⟨U,U,?_⟩;refine YM.h (bu) (Qt ?_);refine YM.e bv (.cons .ex .nil) I I ?_;simp[aL];(repeat (rw[UT];simp[aL]));(try rw[UU]);refine YM.h (bx) (Qt ?_);refine YM.e bz (.cons .ex .nil) I I ?_;simp[aM];(repeat (rw[UT];simp[aM,ay,bh]));(try rw[UU]);refine⟨U,?_⟩;refine⟨XD (by kernel_rfl),XD (by kernel_rfl),?_⟩;simp
    .rw[f1,f2];have cp:∀v,(M.set c v)[c]?=some v:=λv=>by rw[Xa U]
     have cq:∀v h,(M.set c v)[c]'h=v:=λv h=>List.getElem_set_self h;simp;(repeat (rw[UT];simp[X,aC,a8,a5,ay,cp,cq]));(try rw[UU]);refine⟨U,U,?_⟩;refine YM.h (bu) (Qt ?_);refine YM.e bv (.cons .ex .nil) I I ?_;simp[aL];(repeat (rw[UT];simp[aL]));(try rw[UU]);refine YM.h (bx) (Qt ?_);refine YM.e bz (.cons .ex .nil) I I ?_;simp[aM];(repeat (rw[UT];simp[aM,ay,cp,cq]));(try rw[UU]);refine⟨U,U,?_⟩;refine⟨XD (by kernel_rfl),XD (by kernel_rfl),?_⟩;simp)
   refine Γ X ?_;have c4:(N.take ab).drop j=(R:Int)::(N.take ab).drop k:=by
    have c5:j<(N.take ab).length:=by rw[SY];omega
    rw[OS c5,cV,List.getElem_take,<-bt,b4]
   refine W.to (b1 ⟨j,bB,m++[ar]⟩ ⟨by show(m++[ar]).length+j=ab;rw[VK];simp;omega,c3,?_,λy C=>?_⟩ (by show j<k;omega)) I (by simp[X])
   .show(m++[ar]).map (·.Ys)=((N.take ab).drop j).reverse;rw[c4,Yc,aB,List.reverse_cons,bD];rfl
   .rcases Wd.1 C with C|C
    .exact a7 y C
    .simp at C;subst C;subst bD;refine⟨⟨cg,ci,bC⟩,?_⟩;rw[b5];have c6:Oa cl aF=0:=ck;have c7:Uv aF cm=0:=cj;rw[c6,c7];rfl
  .have aA:k=0:=by simp at br;omega
   subst aA;have du:m.length=ab:=U;rw[List.drop_zero] at aB;have c8:Rf K m:=by
    refine⟨U,?_,λy C=>?_⟩
    .rw[aB];unfold List.Nodup;rw[List.pairwise_reverse];exact(bV.sublist (Ks _ _)).imp YR
    .have cr:y.Ys∈m.map (·.Ys):=Zq.2 ⟨y,C,rfl⟩;rw[aB,List.mem_reverse] at cr;have:=bo _ (KA cr);obtain⟨⟨c9,c',da⟩,_⟩:=a7 y C;exact⟨this,c9,c',da⟩
   have X:IntKind.i64.wrap ((c:Int)+1)=((c+1:Nat):Int):=by rw[IntWalk.i64_in _ U];omega
   have db:(done++[m]).length=c+1:=by simp;omega
   have au:=bd ⟨E,done++[m],rd++[r]⟩ ⟨by show(done++[m]).length<=nc;omega,bq,λx D=>by
    rcases Wd.1 D with D|D
    .exact be x D
    .simp at D;subst D;exact c8,by show(rd++[r]).length=_;simp[Q,ai],λy C=>by
    rcases Wd.1 C with C|C
    .exact bf y C
    .simp at C;subst C;rw[cK,cL];omega,λx y z u o=>by
    by_cases D:x<c
    .rw[YK U] at u o;exact bg x y z u o
    .rw[W8 U] at u o;have bm:x-rd.length=x-c:=by rw[Q]
     rw[bm] at u;rw[<-ai] at o;cases cs:x-c with
     | zero=>rw[cs] at u o;simp at u o;subst u;subst o;exact λy C=>(a7 y C).2
     | succ q=>rw[cs] at u;simp at u⟩ (by show nc-(done++[m]).length<nc-c;omega)
   have dc:ZP (done++[m]) nc≠[]:=λh=>by
    have:=S1 (done:=done++[m]) (nc:=nc) U;rw[h] at this;simp at this;omega
   have ct:(rd++[r]).map Φ≠[]:=I
   have dd:((rd++[r]).map Φ).length=c+1:=by simp[Q]
   simp only[db] at au;rw[YZ dc,YZ ct,XR ct,dd,<-a4,<-cG m,e] at au;refine W.exit rfl ?_;by_cases B:m=[]
   .subst B;rw[show U6 []=Z5 from rfl,aZ] at au;rw[show ZV 7 (([]:List Zw).map Zv)=Z5 from rfl,show η 28 3 (([]:List Zw).map Zv)=[] from rfl,aZ];refine Γ X ?_;exact W.to au rfl (by simp[X])
   .have aD:m.map Zv≠[]:=by simpa using B
    have ap:U6 m=.sl false 3 (m.map Zv):=by unfold U6 YC;rw[if_neg (by simpa using B)]
    rw[ap] at au;rw[XR aD,YZ aD];refine W.PB (σ':=ZH E::YY Z5 Z5 Z5::.dead::.dead::.dead::.cells 60 1 (M.set c (.sl false 3 (m.map Zv)))::.cells 29 1 af::[.dead]) (id:=7) I rfl rfl rfl (λi r hi f=>?_) [(0,.Κ 0 1 0 0),(6,.Κ 1 1 0 0),(9,.Θ [ν G,ξ L,.ms 5 nc 0 nc]),(10,Zr [p.1,p.2]),(11,.ms 6 (c+1) 0 (c+1)),(12,J c)] (λp T=>by
     simp only[Y6,Ya,or_false] at T;rcases T with rfl|rfl|rfl|rfl|rfl|rfl<;>exact .same _) ?_
    .match i,hi,f with
     | 0,_,f=>exact⟨r,f,.inl rfl⟩
     | 1,_,f=>exact⟨r,f,.inl rfl⟩
     | 2,_,f=>exact⟨r,f,.inl rfl⟩
     | 3,_,f=>exact⟨r,f,.inl rfl⟩
     | 4,_,f=>exact⟨r,f,.inl rfl⟩
     | 5,_,f=>
      simp at f;subst f;refine⟨_,rfl,.inr ⟨60,1,_,_,rfl,rfl,I,λy e dv u o=>?_⟩⟩;by_cases C:y=c
      .subst C;rw[Xa U] at u o;cases u;cases o;refine⟨rfl,λx a bE aN aO=>?_⟩
       match x with
       | 0=>simp[Ω.cells] at aN aO;subst aN;subst aO;have:=Rg.ms (id:=7) (k:=3) (l:=m.map Zv);rwa [Yp] at this
       | x+1=>simp[Ω.cells] at aN
      .rw[WR (YR C)] at u o;rw[u] at o;cases o;exact⟨rfl,λx a bE aN aO=>by rw[aN] at aO;cases aO;exact .same _⟩
     | 6,_,f=>exact⟨r,f,.inl rfl⟩
     | 7,h,_=>exact absurd rfl h
     | i+8,_,f=>simp at f
    refine W.drop (h:=7) I I (λi r hi f=>?_) rfl [(0,.Κ 0 1 0 0),(6,.Κ 1 1 0 0),(9,.Θ [ν G,ξ L,.ms 5 nc 0 nc]),(10,Zr [p.1,p.2]),(11,.ms 6 (c+1) 0 (c+1)),(12,J c)] ?_ ?_
    .match i,hi,f with
     | 0,_,f=>simp at f;subst f;exact TA E 7
     | 1,_,f=>simp at f;subst f;intro e H a w;simp[Ω.cells] at H;subst H;simp[Ω.cells] at w;subst w;simp
     | 2,_,f=>simp at f;subst f;trivial
     | 3,_,f=>simp at f;subst f;trivial
     | 4,_,f=>simp at f;subst f;trivial
     | 5,_,f=>
      simp at f;subst f;intro e H a w;rcases HJ H with H|rfl
      .obtain⟨u,o⟩:=cH e H;rw[u] at w;simp at w;subst w;exact o.mono (χ _)
      .simp[Ω.cells] at w;subst w;have:=FG m;rw[ap] at this;exact this.mono (χ _)
     | 6,_,f=>simp at f;subst f;exact λe H a w=>(cM e H a w).mono (χ _)
     | i+7,h,_=>omega
    .intro p T;simp only[Y6,Ya,or_false] at T;rcases T with rfl|rfl|rfl|rfl|rfl|rfl
     .exact⟨rfl,WV.2 U⟩
     .exact⟨rfl,WV.2 U⟩
     .refine⟨rfl,Jh.2 λa w=>?_⟩;simp only[Y6,Ya,or_false] at w;rcases w with rfl|rfl|rfl
      .exact(YG.2 Ty:ς 0 _).mono (χ _)
      .exact(YG.2 RR:ς 0 _).mono (χ _)
      .exact Ux.2 U
     .exact⟨rfl,I⟩
     .exact⟨rfl,Ux.2 U⟩
     .exact⟨rfl,.z _⟩
    refine Γ X ?_;exact W.to au rfl (by simp[X])
 .have aq:c=nc:=by simp at aq;omega
  subst aq;refine W.exit rfl ?_;have de:Yd ⟨G,L,done⟩:=⟨aR,aS,by show done.length<=4;omega,λx D=>by show Rf L.length x;rw[<-aU];exact be x D⟩;have df:ZP done c=done.map U6:=by rw[ai];exact Br
  have cu:OT aj ak ⟨G,L,done⟩ p rd:=⟨⟨P,bJ,T⟩,de,by show done.length<=ak;omega,cy,cB,by show rd.length=done.length;omega,λr f=>by show(-1<=r.1/\r.1<G.length)/\_;rw[<-bb];exact bf r f,λx y h=>by
   unfold ψ.Uu;show((done[x]?).getD []).all _=true;cases D:done[x]? with
   | none=>rfl
   | some m=>
    refine WQ.2 λz B=>?_;have:=bg x y m h D z B;rw[ah] at this;exact this⟩
  have dg:Zh (.ZT [ν G,ξ L,.sl false 1 (done.map U6)]) (Yz ⟨G,L,done⟩):=by
   refine .ZT (.cons (.refl _) (.cons (.refl _) (.cons ?_ .nil)));exact .map λx _=>.one .acc (FF x) rfl
  have dh:Zh (.sl false 1 (rd.map Φ)) (ξ (WT rd)):=by
   show Zh (.sl false 1 (rd.map Φ)) (.sl false 1 ((WT rd).map (Z9 J 1)));rw[Sq];exact .map λr _=>.one .ex rfl rfl
  rcases al with⟨S,e⟩|⟨S,e⟩<;>rcases am done U with⟨O,aw⟩|⟨O,aw⟩
  .have aP:rd=[]:=by rcases cF with⟨_,h⟩|h;exact h;omega
   have di:done=[]:=YL.1 U;rw[e,aw,aP];rw[show ZV 6 (([]:List (Int×Int)).map Φ)=Z5 from rfl,show η 29 1 (([]:List (Int×Int)).map Φ)=[] from rfl];refine Τ ?_;refine W.cut 1 I [(6,.Θ [ν G,ξ L,Z5]),(7,Zr [p.1,p.2]),(8,Z5)] I (λid r dj f=>?_) (λz B=>?_) ?_
   .have:id=0:=U
    subst this;simp at f;subst f;exact TA Z 1
   .simp only[Y6,Ya,or_false] at B;rcases B with rfl|rfl|rfl
    .show Ym 1 _ (Z7 _ 6) _;simp;refine .struct I (show _=some (Row.cells _ _ [.ZT _]) from rfl) rfl λx a bE u o=>?_
     match x with
     | 0=>simp at u o;subst u;subst o;exact .low ((YG.2 Ty:ς 0 _).mono (χ _))
     | 1=>simp at u o;subst u;subst o;exact .low ((YG.2 RR:ς 0 _).mono (χ _))
     | 2=>simp at u o;subst u;subst o;exact .low I
     | x+3=>simp at o
    .exact .low I
    .exact .low I
   .refine W.ret ⟨_,rfl,_,Z,?_,⟨_,p,rd,rfl,cu⟩,rfl,aW⟩;rw[di,aP];exact .ZW (.cons (.ZT (.cons (.refl _) (.cons (.refl _) (.cons .nil .nil)))) (.cons .ex (.cons .nil .nil)))
  .omega
  .omega
  .have ae:(ZP done c).length=c:=S1 U
   have aP:rd.map Φ≠[]:=λh=>by
    have:(rd.map Φ).length=0:=by rw[h];rfl
    rw[Yp] at this;omega
   rw[e,aw,XR aP,YZ aP,Yp,Q];refine Γ ae ?_;refine W.cut 1 I [(6,.Θ [ν G,ξ L,.sl false 1 (ZP done c)]),(7,Zr [p.1,p.2]),(8,.sl false 1 (rd.map Φ))] I (λid r dj f=>?_) (λz B=>?_) ?_
   .have:id=0:=U
    subst this;simp at f;subst f;exact TA Z 1
   .simp only[Y6,Ya,or_false] at B;rcases B with rfl|rfl|rfl
    .show Ym 1 _ (Z7 _ 6) _;simp;refine .struct I (show _=some (Row.cells _ _ [.ZT _]) from rfl) rfl λx a bE u o=>?_
     match x with
     | 0=>simp at u o;subst u;subst o;exact .low ((YG.2 Ty:ς 0 _).mono (χ _))
     | 1=>simp at u o;subst u;subst o;exact .low ((YG.2 RR:ς 0 _).mono (χ _))
     | 2=>simp at u o;subst u;subst o;exact .own (t:=60) I rfl ae (λe H a w=>by
       obtain⟨dk,dl⟩:=Mv e H;rw[dk] at w;simp at w;subst w;exact dl.mono (χ _))
     | x+3=>simp at o
    .exact .low I
    .show Ym 1 _ (Z7 _ 8) _;simp;exact .own (t:=29) (id:=6) I rfl (by simp[Q]) (λe H a w=>(Fh e H a w).mono (χ _))
   .rw[df];exact W.ret ⟨_,rfl,_,Z,.ZW (.cons dg (.cons .ex (.cons dh .nil))),⟨_,p,rd,rfl,cu⟩,rfl,aW⟩
theorem o9 (l:List Int) (n:Nat) (a:List Zw) (i:Nat):(Vk l n a i).Sublist a:=by
 have c:∀i,i<=a.length->(Vk l n a i).Sublist (a.take i):=by
  intro i
  induction i with
  | zero=>intro _;simp[Vk]
  | succ i b=>
   intro hi;rw[E9 l n a hi,We hi];refine List.Sublist.append (b U) ?_;split<;>simp
 by_cases h:i<=a.length
 .exact(c i h).trans (Ks _ _)
 .have e:Vk l n a i=Vk l n a a.length:=by
   have:∀d,Vk l n a (a.length+d)=Vk l n a a.length:=by
    intro d
    induction d with
    | zero=>rfl
    | succ d b=>
     rw[<-b];unfold Vk;rw[<-UB,V0,Ql];simp
   have:=this (i-a.length)
   rwa [show a.length+(i-a.length)=i by omega] at this
  rw[e];exact(c _ (γ _)).trans (Ks _ _)
theorem Ar {s:ψ} (h:Yd s) (l:List Int):Yd (s.Rc l) where
 Ι:=h.Ι
 Δ:=h.Δ
 many:=by simp[ψ.Rc];exact h.many
 cells c d:=by
  obtain⟨i,hi,rfl⟩:=Zq.1 d;have hi:=Ws.1 hi;have e:s.cells.getD i []∈s.cells:=by
   rw[Xr,δ hi];exact YF hi
  have a:=h.cells _ e
  have b:(OV l s.cells i).Sublist (s.cells.getD i []):=o9 _ _ _ _;exact⟨X' b.length_le a.hi,(b.map _).nodup a.apart,λp f=>a.each p (b.subset f)⟩
end Go.TL
namespace Go.TL
open Go.Proofs
abbrev E6 (s:ψ) (l:List Nat):List Found:=Z1 (s.Rc (l.map λn:Nat=>(n:Int)))
end Go.TL
namespace Go.TL
open Go.Proofs
variable [ZX]
theorem o8 {b d:Nat} {s:ψ} {p:Int×Int} {rd:List (Int×Int)} (h:OT b d s p rd):Z1 s≠[]:=by
 obtain⟨k,e,rfl⟩:=h.As;have m:=h.len;have f:∀c,c<s.cells.length->0<(X3 s (Ze k) c).length:=λc n=>by
  have a:rd[c]?=some (rd[c]'U):=δ U;exact List.length_pos_of_mem (Vh.2 ⟨Mu.2 (h.each _ (Zi a)),h.right c _ a⟩)
 have g:∀i,i<=s.cells.length->0<Xh (YX s (Ze k)).cells (-1) i:=by
  intro i
  induction i with
  | zero=>intro _;simp[Xh]
  | succ i j=>
   intro hi;rw[HZ _ U];exact Nat.mul_pos (j U) (f i U)
 intro l;have:YX s (Ze k)∈Z1 s:=OY.2 ⟨k,e,by rw[KT];exact g _ (γ _),rfl⟩;rw[l] at this;cases this
end Go.TL
namespace Go.TL
open Go.Proofs
theorem o7 [ZX] {s:ψ} (h:Yd s) (a:Z1 s≠[]) {c:Nat} (b:c<s.cells.length) (lower:Bool):Mp s (Z1 s) c lower=(Yb (Z1 s) c lower,0):=by
 have:(Xp s c (Z1 s)).2.2=0:=by
  unfold Xp;rw[if_neg (by rw[h.err];simp),if_neg U];unfold Yr;rw[if_neg (by rw[h.err];simp),if_neg (λq=>a q.2)]
 unfold Mp;rw[if_pos this,Int.toNat_natCast]
end Go.TL
namespace Go.TL
open Go.Proofs
variable [ZX]
theorem o6 {l:List (Int×Int)} {r:Int×Int} (h:r∈l):(l.map λx=>[x.1,x.2]).contains [r.1,r.2]=true:=PA.2 (Zq.2 ⟨r,h,rfl⟩)
theorem o5 (n:Nat):∃t,V2 n 0=[]::t:=by
 rw[CW U];exact⟨_,by unfold S6;rfl⟩
theorem o4 (n:Nat) (a:List Zw):∀i,i<=a.length->Vk [] n a i=a.take i:=by
 intro i
 induction i with
 | zero=>intro _;simp[Vk]
 | succ i b=>
  intro hi;rw[E9 [] n a hi,b U,We hi];simp
theorem o3 (s:ψ):s.Rc []=s:=by
 unfold ψ.Rc;have:(List.range s.cells.length).map (OV [] s.cells)=s.cells:=by
  refine List.ext_getElem I λi b a=>?_;simp only[List.getElem_map,List.getElem_range];unfold OV;rw[o4 _ _ _ (γ _),OI,Xr,δ a];rfl
 rw[this]
theorem o2 {s:ψ} (a:Z1 s≠[]):NN s.cells (E6 s)=[]:=by
 obtain⟨t,b⟩:=o5 (Vj s.cells s.cells.length);have e:(!(E6 s []).isEmpty)=true:=by
  show(!(Z1 (s.Rc [])).isEmpty)=true;rw[o3];simpa using a
 unfold NN;rw[b,List.find?_cons,e];rfl
theorem o1 {s:ψ} (h:Yd s) (e:s.Δ.length<=3):Vj s.cells s.cells.length<=12:=by
 have b:∀c,c<=s.cells.length->Vj s.cells c<=c*3:=by
  intro c
  induction c with
  | zero=>intro _;simp[Vj]
  | succ c d=>
   intro a;rw[E8 s.cells a];have:=(h.cells _ (YF a)).Ut;have:=d U;omega
 have:=b _ (γ _)
 have:=h.many;omega
theorem E5 {b d:Nat} {s:ψ} {p:Int×Int} {rd:List (Int×Int)} (h:OT b d s p rd):YX s p∈Z1 s:=by
 obtain⟨k,e,rfl⟩:=h.As;have l:=h.len;have f:∀c,c<s.cells.length->0<(X3 s (Ze k) c).length:=λc m=>by
  have a:rd[c]?=some (rd[c]'U):=δ U;exact List.length_pos_of_mem (Vh.2 ⟨Mu.2 (h.each _ (Zi a)),h.right c _ a⟩)
 have g:∀i,i<=s.cells.length->0<Xh (YX s (Ze k)).cells (-1) i:=by
  intro i
  induction i with
  | zero=>intro _;simp[Xh]
  | succ i j=>
   intro hi;rw[HZ _ U];exact Nat.mul_pos (j U) (f i U)
 exact OY.2 ⟨k,e,by rw[KT];exact g _ (γ _),rfl⟩
theorem o0 {a b:Nat} {s:ψ} {p:Int×Int} {rd:List (Int×Int)} (h:OT a b s p rd):(W0 (Z1 s)).contains [p.1,p.2]=true:=
 PA.2 (Zq.2 ⟨_,E5 h,rfl⟩)
theorem Aq {b d:Nat} {s:ψ} {p:Int×Int} {rd:List (Int×Int)} (h:OT b d s p rd) {c:Nat} {r:Int×Int} (a:rd[c]?=some r):r∈OX (YX s p) c:=by
 have f:c<s.cells.length:=by rw[<-h.len];exact(ZA.1 a).1
 have e:(YX s p).cells[c]?=some (X3 s p c):=by simp[YX,f]
 unfold OX;rw[e];exact Vh.2 ⟨Mu.2 (h.each _ (Zi a)),h.right c _ a⟩
theorem oZ {a b:Nat} {s:ψ} {p:Int×Int} {rd:List (Int×Int)} (h:OT a b s p rd) {c:Nat} {r:Int×Int} (d:rd[c]?=some r):r∈VM (Z1 s) c:=
 A4.2 ⟨_,E5 h,Aq h d⟩
theorem oY {a b:Nat} {s:ψ} {p:Int×Int} {rd:List (Int×Int)} (h:OT a b s p rd) {c:Nat} {r:Int×Int} (d:rd[c]?=some r) (lower:Bool):Vz lower r∈Yb (Z1 s) c lower:=
 HV.2 (Qf.2 ⟨_,E5 h,Zq.2 ⟨r,Aq h d,rfl⟩⟩)
end Go.TL
namespace Go.TL
open Go.Proofs
theorem oX (l:List Int) (ak:l.length<2 ^ 63):@W Uq Tryz.prog 0 117 [.code (Tryz.f18.body.getD .skip)] (entry 0 [Z9 J 1 l]) [] (λj env _=>(∃k,j=.code .ret::k)/\Z7 env 2=Z4 true) (λ_ _ _=>False):=by
 letI:ZX:=Uq;show W Tryz.prog 0 117 [.code _] _ _ _ _;refine W.seq ?_
 repeat apply Ξ
 refine VT ?_;refine Y1 ?_;refine Y4 (A:=[3]) Ρ λm b=>Z6 ?_;refine Μ.call (first:=[]) (captured:=[]) ((FE l).mono (λa s ⟨al,am⟩=>?_) (λ_ _ h=>h.elim));subst al;subst am;simp;(repeat (rw[Ν];simp));have V:(⟨l,1⟩:Zk).Z0.length<2 ^ 63:=ak;generalize (⟨l,1⟩:Zk)=d0 at V;refine RS.c (pa d0 V 5 4 ZY ZY ZY) 0 rfl (ZM.refl _) I (by
  rintro r ⟨s,p,rd,rfl,_⟩;simp[YG,Ω.cells]) ?_
 rintro r d1 ⟨s,p,rd,rfl,v⟩ aF;simp;(repeat (rw[Ν];simp));apply b;clear b m;refine W.U9 (σ0:=[ZH d1]) (χ _) (λr o=>by simp at o;subst o;exact TA d1 _) (λa X=>by simp[Ω.cells] at X;rcases X with rfl|rfl|rfl<;>simp[YG,Ω.cells]) [(3,.Θ [ν s.Ι,ξ s.Δ,Z2 s.cells]),(4,Z9 J 1 [p.1,p.2]),(5,ξ (WT rd))] (by simp[WV,Ω.cells,YG]) ?_;have e:=v.pe;have K:=e.small;have B:=o8 v;have M:=KU e;have Y:=e.err;have an:=o1 e v.pd;have aG:=e.many;have aH:=v.len;have ao:∀x∈s.cells,x.length<2 ^ 10:=λx ap=>by have:=(e.cells x ap).hi;omega
 have N:=pk s K U ao (λ_=>an) (E6 s) (λ_ k aI=>⟨KU (Ar e _) (Ar e _).err,by have:=Re (s.Rc (k.map λn:Nat=>(n:Int)));show(Z1 _).length<_;omega⟩);rw[Y,o2 B] at N;have O:=Lu s K (Z1 s) M (by have:=Re s;omega);rw[Y] at O;simp only[if_true] at N O;have aq:∀y∈W0 (Z1 s),y.length<2 ^ 62:=λy P=>by
  obtain⟨f,_,rfl⟩:=Zq.1 P;simp
 have aJ:(W0 (Z1 s)).length<=3:=by simpa[W0] using Re s
 have Z:=Fj (W0 (Z1 s)) [p.1,p.2] U aq;rw[o0 v] at Z;have C:=λ(c:Nat) (u:c<s.cells.length)=>HU e u M;have aa:=λ(c:Nat) (u:c<s.cells.length)=>Fy e u;have ab:=λ(c:Nat) (lo:Bool)=>py s K _ M c lo 255 ZY HX (λ_=>NR e B lo);have ad:=λ(c:Nat) (u:c<s.cells.length) (lo:Bool)=>o7 e B (c:=c) u lo;have ae:=λ(c:Nat) (lo:Bool)=>Fg e lo c;have ar:=λ(c:Nat) (r:Int×Int) (o:rd[c]?=some r)=>oZ v o;have af:=λ(c:Nat) (r:Int×Int) (o:rd[c]?=some r) (lo:Bool)=>oY v o lo;have au:=λ(c:Nat) (u:c<s.cells.length)=>(KS e B u).2.2.2;simp only[if_neg B] at aa;generalize W0 (Z1 s)=aK at *;generalize Z1 s=F at *;refine Z' λm b=>?_;refine Ε.d (O) (Z6 ?_);apply b;refine Z' λm b=>?_;refine Ε.d (N) (Z6 ?_);apply b;refine Z' λm b=>?_;refine Ε.d (Z) (Z6 ?_);apply b;refine Ζ I ?_;refine Τ ?_;obtain⟨n,w⟩:=Η rd.length;refine W.iter (λc:Nat=>c<=n) (λc=>[(3,.Θ [ν s.Ι,ξ s.Δ,Z2 s.cells]),(5,ξ (WT rd)),(10,J c)]) (λ_=>[ZH d1]) (λc=>n-c) 0 (χ _) rfl I (λc u av=>?_);by_cases D:c<n
 case neg=>
  have g:¬(c:Int)<(n:Int):=U;(repeat (first|apply Ξ|(refine Y9 λm b=>?_;simp;(repeat (rw[Ν];simp[w.symm,g]));apply b)));refine Ζ I ?_;refine W.exit rfl ?_;refine Z' λm b=>?_;refine Ε.d (FZ) (Z6 ?_);apply b;exact W.stop ⟨⟨_,rfl⟩,rfl⟩
 have g:(c:Int)<(n:Int):=U
 have E:c<s.cells.length:=U
 have ag:=Yt (i:=c) U
 have t:=δ (show c<rd.length by omega);obtain⟨r,o⟩:=Η (rd[c]);have H:∀h,rd[c]'h=r:=λh=>o.symm;rw[<-o] at t;have C:=C c E;rw[aa c E] at C;have Q:=ab c false;have R:=ab c true;rw[ad c E false] at Q;rw[ad c E true] at R;have aw:=af c r t false;have ax:=af c r t true;have ay:=ar c r t;have S:=KO (Yb F c false) r.1 (by have:=ae c false;omega);have T:=KO (Yb F c true) r.2 (by have:=ae c true;omega);rw[if_pos (show r.1∈Yb F c false from aw)] at S;rw[if_pos (show r.2∈Yb F c true from ax)] at T;have ah:=Fj ((VM F c).map λx=>[x.1,x.2]) [r.1,r.2] (by
  rw[Yp];have:=Fx F c;have:=au c E;omega) (λy P=>by
  obtain⟨x,_,rfl⟩:=Zq.1 P;simp)
 rw[o6 ay] at ah;simp only at C Q R;generalize VM F c=L at *;generalize Yb F c false=az at *;generalize Yb F c true=aA at *;obtain⟨aB,aC⟩:=Η (az.idxOf r.1);obtain⟨aD,aE⟩:=Η (aA.idxOf r.2);rw[<-aC] at S;rw[<-aE] at T;have ai:¬(aB:Int)<0:=U;have aj:¬(aD:Int)<0:=U;(repeat (first|apply Ξ|(refine Y9 λm b=>?_;simp;(repeat (rw[Ν];simp[w.symm,g]));apply b)));refine Α I ?_;refine Z' λm b=>?_;refine Ε.d (C) (Z6 ?_);apply b;refine Z' λm b=>?_;refine Ε.d (Q) (Z6 ?_);apply b;refine Z' λm b=>?_;refine Ε.d (R) (Z6 ?_);apply b;(repeat apply Ξ);refine Y9 λm b=>?_;simp;(repeat (rw[Ν];simp[t,H,w.symm,g,D]));refine Ε.c ah (.cons (Ff L) (.cons (.refl _) .nil)) (by simp[YG,Ω.cells]) I ?_;simp[t,H,w.symm,g,D];(repeat (rw[Ν];simp[t,H,w.symm,g,D]));refine Ε.c S (ZM.refl _) I I ?_;simp[t,H,w.symm,g,D,ai];(repeat (rw[Ν];simp[t,H,w.symm,g,D,ai]));refine Ε.c T (ZM.refl _) I I ?_;simp[aj];(repeat (rw[Ν];simp[aj]));apply b;refine Ζ I ?_;refine Γ ag ?_;exact W.to (av (c+1) U U) rfl (by simp[ag])
end Go.TL
