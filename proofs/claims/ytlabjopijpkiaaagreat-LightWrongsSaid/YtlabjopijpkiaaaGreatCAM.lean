import Derived.Test.YtlabjopijpkiaaaGreatCAL
set_option maxHeartbeats 16000000
set_option maxRecDepth 20000
set_option linter.unusedSectionVars false
set_option linter.unusedSimpArgs false
set_option linter.unusedVariables false
namespace Go.TL
open Go.Proofs
variable [ZN]
theorem Bn {s:υ} (h:s.SH=false):s.cells.length<=20/\∀x∈s.cells,x.length<=20:=by
 unfold υ.SH at h;simp only[Bool.or_eq_false_iff,decide_eq_false_iff_not,Qw,decide_eq_true_eq] at h;obtain⟨⟨⟨⟨c,d⟩,e⟩,f⟩,a⟩:=h;exact⟨U,λx b=>by have:=a x b;omega⟩
theorem Room.Rw {s x:υ} (h:Room s x) (b:s.cells.length<=20/\∀c∈s.cells,c.length<=20):x.cells.length<=20/\∀c∈x.cells,c.length<=20:=by
 rcases h with rfl|h|⟨y,c,p,h,_,rfl⟩
 .exact b
 .exact⟨by have:=h.cells;omega,λc a=>by have:=(h.PK.cells c a).hi;omega⟩
 .refine⟨by unfold υ.more;rw[Sr];have:=h.cells;omega,λd hd=>?_⟩;unfold υ.more at hd;rcases NW hd with hd|rfl
  .have:=(h.PK.cells d hd).hi;omega
  .cases a:y.cells[c]? with
   | none=>simp
   | some l=>have:=(h.PK.cells l (Zf a)).hi;simp;omega
theorem rl (s:υ) (c:Int) (p:ZF) (F d:List Found):(VC s c p F d).1.small:=by
 have a:Wz.small:=by unfold υ.small Wz;simp
 unfold VC;by_cases b:s.err=0
 .rw[if_neg (by simp[b])];split
  .exact a
  .split
   .exact a
   .split
    .exact a
    .split
     .exact a
     .exact Bu (PI b) p
 .rw[if_pos b];exact a
theorem rk (s:υ) (F:List Nat->List Found) (h:Ye s.cells s.cells.length<=10):(S3 s.cells F).length<=10/\∀x∈S3 s.cells F,x.length<=2:=by
 unfold S3;rw[Bw U];cases a:(Ua (Ye s.cells s.cells.length) 0).find? (λl=>!(F l).isEmpty) with
 | none=>simp
 | some l=>
  obtain⟨m,b,c⟩:=NO.1 (List.mem_of_find?_eq_some a);have f:=Iv _ _ _ _ c;have g:=List.mem_range'_1.1 b;refine⟨by simp;omega,λx d=>?_⟩;obtain⟨k,_,rfl⟩:=Zd.1 d;rw[XJ];cases e:(placesOf s.cells)[k]? with
  | none=>simp
  | some y=>have:=rq (Zf e);simp;omega
end Go.TL
namespace Go.TL
open Go.Proofs
theorem rj (s:υ) (p:ZF) (w:Int) (l:List Int) (aX:l.length<2 ^ 63) :
  @W TA Tryz.prog 0 152 [.code (Tryz.f17.body.getD .skip)] (entry 0 [ZB s,Z2 p,R w,ζ R 1 l]) [] (λj env _=>(∃k,j=.code .ret::k)/\Z7 env 8=ZU true) (λ_ _ _=>False):=by
 letI:ZN:=TA;show W Tryz.prog 0 152 [.code _] _ _ _ _;refine W.seq ?_
 repeat apply Ξ
 refine Wr ?_;have M:=rE s;by_cases X:s.SH=true\/(10<Ye s.cells s.cells.length/\s.cells.length<=4)
 case pos=>
  repeat apply Ξ
  refine W.Yn (A:=[]) Υ [(29,ZU true)] [] ?_ (by
   cases t:s.SH
   .have B:10<Ye s.cells s.cells.length/\s.cells.length<=4:=by
     rcases X with h|h
     .rw[t] at h;cases h
     .exact h
    have ae:=Bn t
    have N:=Bt s U (λx D=>by have:=ae.2 x D;omega);rw[show(decide (10<Ye s.cells s.cells.length)&&decide (s.cells.length<=4))=true by simp[B.1,B.2]] at N;rw[t] at M;(try simp);(repeat (rw[Ν];simp));(try simp);refine Κ.c M (ZT.refl _) J J ?_;(try simp);(repeat (rw[Ν];simp));(try simp);refine Κ.c N (ZT.refl _) J J ?_;(try simp);(repeat (rw[Ν];simp));(try simp)
   .rw[t] at M;(try simp);(repeat (rw[Ν];simp));(try simp);refine Κ.c M (ZT.refl _) J J ?_;(try simp);(repeat (rw[Ν];simp));(try simp))
  refine Γ rfl ?_;refine ZP λO f=>?_;refine Κ.d (CJ) (ZY ?_);apply f;exact W.stop ⟨⟨_,rfl⟩,rfl⟩
 have t:s.SH=false:=by cases h:s.SH;rfl;exact absurd (.inl h) X
 have ae:=Bn t
 have aE:=rD t
 have aY:s.err=0->Ye s.cells s.cells.length<=10:=λh=>by
  have:=(PI h).many
  have:=λq=>X (.inr q);omega
 have N:=Bt s U (λx D=>by have:=ae.2 x D;omega);rw[show(decide (10<Ye s.cells s.cells.length)&&decide (s.cells.length<=4))=false by
  rw[Bool.and_eq_false_iff,decide_eq_false_iff_not,decide_eq_false_iff_not];by_cases u:10<Ye s.cells s.cells.length
  .exact .inr λE=>X (.inr ⟨u,E⟩)
  .exact .inl u] at N
 rw[t] at M;clear t X
 repeat apply Ξ
 refine W.Yn (A:=[]) Υ [(29,ZU false),(2,R w),(3,ζ R 1 l),(4,Z9 s),(5,.ω [R p.Zs,R p.seen,R p.bare])] [] ?_ (by
  (try simp);(repeat (rw[Ν];simp));(try simp);refine Κ.c M (ZT.refl _) J J ?_;(try simp);(repeat (rw[Ν];simp));(try simp);refine Κ.c N (ZT.refl _) J J ?_;(try simp);(repeat (rw[Ν];simp));(try simp))
 clear M N;refine Η rfl ?_;refine ZP λO f=>?_;refine Μ.call (first:=[]) (captured:=[]) ((sf l).mono (λa s ⟨u,E⟩=>?_) (λ_ _ h=>h.elim));subst u;subst E;simp;(repeat (rw[Ν];simp));apply f;have ap:(⟨l,1⟩:Zg).Z3.length<2 ^ 63:=aX;generalize (⟨l,1⟩:Zg)=d0 at ap;refine ZP λO f=>?_;refine Μ.call (first:=[]) (captured:=[]) ((rF s aE p d0 ap).mono (λa a9 h=>?_) (λ_ _ h=>h.elim));obtain⟨L,d1,b,P,aF,rfl,aZ⟩:=h;simp;(repeat (rw[Ν];simp));apply f;refine W.X3 [(2,R w),(5,.ω [R p.Zs,R p.seen,R p.bare]),(9,.Ο 0 1 0 0),(10,ζ ZB 3 L)] (λq B=>by
  simp only[Zm,YM,or_false] at B;rcases B with rfl|rfl|rfl|rfl
  .exact .refl _
  .exact .refl _
  .exact .refl _
  .exact .trans b .ex) ?_
 have a0:d1.Z3.length<2 ^ 63:=U;clear b ap aZ;have u:=U9 d1 a0 2;have aG:=Xc d1 2;generalize XD d1 2=Y at u;generalize d1.after 2=d2 at u aG;have E:=U9 d2 U 63;have aH:=Xc d2 63;generalize XD d2 63=Z at E;generalize d2.after 63=d3 at E aH;have af:=U9 d3 U 63;have aI:=Xc d3 63;generalize XD d3 63=aa at af;generalize d3.after 63=d4 at af aI;have ag:=IL d4 U [0,4,WB Z aa] J J;have aJ:=Xc d4 ((([0,4,WB Z aa]:List Int).length:Int)-1);generalize ([0,4,WB Z aa]:List Int).getD (R0 d4 [0,4,WB Z aa]) 0=Q at ag;generalize d4.after ((([0,4,WB Z aa]:List Int).length:Int)-1)=d5 at ag aJ;have ah:=U9 d5 U 63;have aK:=Xc d5 63;generalize XD d5 63=a1 at ah;generalize d5.after 63=d6 at ah aK;have ai:=U9 d6 U 63;have aL:=Xc d6 63;generalize XD d6 63=a2 at ai;generalize d6.after 63=d7 at ai aL;have aj:=U9 d7 U 2;have aM:=Xc d7 2;generalize XD d7 2=a3 at aj;generalize d7.after 2=d8 at aj aM;have ak:=U9 d8 U 2;generalize XD d8 2=a4 at ak;generalize d8.after 2=d9 at ak
 repeat apply Ξ
 refine W.Yn (A:=[11]) Υ [(2,R w),(5,.ω [R p.Zs,R p.seen,R p.bare]),(9,.Ο 0 1 0 0),(10,ζ ZB 3 L),(11,.Ο 1 1 0 0)] [ZK d5,.cells 28 3 [.Z' [R Y,R Q,R 0]]] ?_ (by
  (try simp);(repeat (rw[Ν];simp));(try simp);refine Y3.c u 0 rfl (ZT.refl _) J J ?_;(try simp);(repeat (rw[Ν];simp));(try simp);refine Y3.c E 0 rfl (ZT.refl _) J J ?_;(try simp);(repeat (rw[Ν];simp));(try simp);refine Y3.c af 0 rfl (ZT.refl _) J J ?_;(try simp);(repeat (rw[Ν];simp));(try simp);refine Y3.c ag 0 rfl (ZT.one .ex rfl rfl) J J ?_;(try simp);(repeat (rw[Ν];simp));(try simp))
 clear u E af ag;obtain⟨al,aN⟩:=Ι (U2 .i64 (WB a1 a2) Q)
 repeat apply Ξ
 refine W.Lk (A:=[]) Υ mixed [(2,R w),(5,.ω [R p.Zs,R p.seen,R p.bare]),(9,.Ο 0 1 0 0),(10,ζ ZB 3 L),(11,.Ο 1 1 0 0)] (ZK d7::[.cells 28 3 [.Z' [R Y,R Q,R al]]]) ?_ (by
  simp;(repeat (rw[VD];simp));(try rw[VE]);refine Y3.e ah (ZT.refl _) J J ?_;simp;(repeat (rw[VD];simp));(try rw[VE]);refine Y3.e ai (ZT.refl _) J J ?_;simp;(repeat (rw[VD];simp));(try rw[VE]);refine⟨Yt (by kernel_rfl),Yt (by kernel_rfl),?_⟩;simp[aN])
 clear ah ai aN;refine W.VI (σ0:=[ZK d7]) (Ε _) (λr F=>by simp at F;subst F;exact Tz d7 _) (λa b=>by simp[I.cells] at b;rcases b with rfl|rfl|rfl<;>simp[Y6,I.cells]) [(2,R w),(5,.ω [R p.Zs,R p.seen,R p.bare]),(9,.Ο 0 1 0 0),(10,ζ ZB 3 L),(11,.ω [R Y,R Q,R al])] (by simp[Xz,I.cells,Y6]) ?_;obtain⟨C,aq⟩:=Ι ([w,a3,a4,w]);obtain⟨g,ar⟩:=Ι ([p,⟨Y,Q,al⟩,⟨Y,Q,al⟩,p]:List ZF)
 repeat apply Ξ
 refine W.S4 (A:=[]) Υ mixed [(10,ζ ZB 3 L),(12,ZE C),(13,.sl true 3 (g.map Z2))] [ZK d9] ?_ (by
  simp;(repeat (rw[ZG];simp));(try rw[ZH]);refine Y3.d aj 0 rfl (ZT.refl _) J J ?_;simp;(repeat (rw[ZG];simp));(try rw[ZH]);refine Y3.d ak 0 rfl (ZT.refl _) J J ?_;simp;(repeat (rw[ZG];simp));(try rw[ZH]);refine⟨Yt (by kernel_rfl),?_⟩;simp[aq,ar,Z2])
 clear aj ak aG aH aI aJ aK aL aM;refine W.cut 0 (Ε _) [(10,ζ ZB 3 L),(12,ZE C),(13,.sl true 3 (g.map Z2))] (Ε _) (λid r h=>absurd h (PA _)) (λq B=>by
  simp only[Zm,YM,or_false] at B;rcases B with rfl|rfl|rfl
  .exact .low (by simp[Y6,I.cells])
  .exact .low J
  .exact .low (by simp[Y6,I.cells])) ?_
 rw[List.take_zero];have aO:C.length=4:=by rw[aq];rfl
 have aP:g.length=4:=by rw[ar];rfl
 clear aq ar;refine Χ ?_;refine W.iter (λi:Nat=>i<=4) (λi=>[(10,ζ ZB 3 L),(12,ZE C),(13,.sl true 3 (g.map Z2)),(14,R i)]) (λ_=>[]) (λi=>4-i) 0 (Ε _) rfl J (λi hi au=>?_);by_cases ab:i<4
 case neg=>
  have H:¬(i:Int)<4:=U;refine Ζ (Τ P H) ?_;refine Η J ?_;refine W.exit rfl ?_;refine ZP λO f=>?_;refine Κ.d (CJ) (ZY ?_);apply f;exact W.stop ⟨⟨_,rfl⟩,rfl⟩
 have H:(i:Int)<4:=U
 have aQ:=XP (i:=i) U
 have ad:=ε (show i<L.length by omega);obtain⟨x,D⟩:=Ι (L[i]);have am:=aF x (D▸Y2 _);have S:=am.small aE;have aR:=am.Rw ae;have an:=am.rr aY;rw[<-D] at ad;have ao:∀h,L[i]'h=x:=λh=>D.symm;have av:=ε (show i<C.length by omega);obtain⟨o,aw⟩:=Ι (C[i]);rw[<-aw] at av;have aS:∀h,C[i]'h=o:=λh=>aw.symm;have ax:=ε (show i<g.length by omega);obtain⟨v,ay⟩:=Ι (g[i]);rw[<-ay] at ax;have aT:∀h,g[i]'h=v:=λh=>ay.symm;clear D aw ay aF;have au:=au (i+1) U U;have az:x.cells.length<2 ^ 10:=U;have aA:∀y∈x.cells,y.length<2 ^ 10:=λy T=>by have:=aR.2 y T;omega
 have w1:=sz x S az aA (λh=>by have:=an h;omega) (RU x) (λh k a'=>⟨B5 (F' (PI h) _) (F' (PI h) _).err,by have:=B4 (x.Sv (k.map λn:Nat=>(n:Int)));show(W8 (x.Sv (k.map λn:Nat=>(n:Int)))).length<2 ^ 20;omega⟩)
 have aB:=rp x S az aA an
 have aC:(if x.err=0 then S3 x.cells (RU x) else []).length<=10/\∀y∈(if x.err=0 then S3 x.cells (RU x) else []),y.length<=2:=by
  split
  .exact rk x _ (an (by assumption))
  .simp
 have t1:=rG x S o v (UI x) (UI (x.more o.toNat v)) (Bp x) (by have:=Bo x;omega) (by have:=Bo (x.more o.toNat v);omega) (λh ba bb aU aV=>by
  obtain⟨y,T⟩:∃y,x.cells[o.toNat]?=some y:=⟨_,ε U⟩;rw[T] at aU aV;exact Bp _ (Br (PI h) T aU aV).err)
 have t2:=rm x S o v
 have aD:=rl x o v (UI x) (UI (x.more o.toNat v));generalize VC x o v (UI x) (UI (x.more o.toNat v))=a5 at t1 t2 aD;obtain⟨m,V⟩:=a5;simp only at t1 t2 aD;generalize (if x.err=0 then S3 x.cells (RU x) else [])=G at w1 aB aC;have a6:=xK x S;have a7:=Bq x S;have a8:=Bq m aD;have aW:=Hx G G U (λy T=>by have:=aC.2 y T;omega);rw[beq_self_eq_true] at aW;generalize x.err=K at w1 aB;clear aC az aA an aR am;refine Ζ (Τ P H) ?_;refine Γ J ?_;refine Y1 ?_;refine Zj (A:=[15]) Υ λO f=>XF (Τ ad (Τ ao (Τ P (Τ ab H)))) ?_;refine Κ.d (a6) (ZY ?_);apply f;refine W.VI (σ0:=[]) (Ε _) (λr F=>by simp at F) (λa b=>by simp[I.cells] at b;rcases b with rfl|rfl|rfl<;>simp[Y6,I.cells]) [(10,ζ ZB 3 L),(12,ZE C),(13,.sl true 3 (g.map Z2)),(14,R i),(15,Z9 x)] (by simp[Xz,I.cells,Y6]) ?_;refine ZP λO f=>?_;refine Κ.c w1 (ZT.refl _) J J ?_;rw[LZ];(repeat (rw[Ν];simp));apply f;refine XX (Τ ad (Τ ao (Τ P (Τ ab H)))) λO f=>?_;refine Κ.c aB (ZT.refl _) J J ?_;rw[LZ];(repeat (rw[Ν];simp));apply f
 repeat apply Ξ
 refine W.S4 (A:=[20]) Υ mixed [(10,ζ ZB 3 L),(12,ZE C),(13,.sl true 3 (g.map Z2)),(14,R i),(15,Z9 x),(16,θ G),(17,R K),(18,θ G),(19,R K),(20,.Ο 0 1 0 0),(21,R V)] [ZI (Z6 m.Α) (θ m.Β) (XL m.cells)] ?_ (by
  simp;(repeat (rw[ZG];simp[av,aS,aO,ax,aT,aP,ab,H]));(try rw[ZH]);refine Ys (Κ.p t1 (ZT.refl _) J J) ?_;simp;(repeat (rw[ZG];simp));(try rw[ZH]);refine⟨Yt (by kernel_rfl),?_⟩;simp)
 refine W.VI (σ0:=[]) (Ε _) (λr F=>by simp at F) (λa b=>by simp[I.cells] at b;rcases b with rfl|rfl|rfl<;>simp[Y6,I.cells]) [(10,ζ ZB 3 L),(12,ZE C),(13,.sl true 3 (g.map Z2)),(14,R i),(15,Z9 x),(16,θ G),(17,R K),(18,θ G),(19,R K),(20,Z9 m),(21,R V)] (by simp[Xz,I.cells,Y6]) ?_
 repeat apply Ξ
 refine W.S4 (A:=[22]) Υ mixed [(10,ζ ZB 3 L),(12,ZE C),(13,.sl true 3 (g.map Z2)),(14,R i),(15,Z9 x),(16,θ G),(17,R K),(18,θ G),(19,R K),(20,Z9 m),(21,R V),(22,.Ο 0 1 0 0),(23,R V)] [ZI (Z6 m.Α) (θ m.Β) (XL m.cells)] ?_ (by
  simp;(repeat (rw[ZG];simp[ad,ao,P,av,aS,aO,ax,aT,aP,ab,H]));(try rw[ZH]);refine Ys (Κ.p t2 (ZT.refl _) J J) ?_;simp;(repeat (rw[ZG];simp));(try rw[ZH]);refine⟨Yt (by kernel_rfl),?_⟩;simp)
 refine W.VI (σ0:=[]) (Ε _) (λr F=>by simp at F) (λa b=>by simp[I.cells] at b;rcases b with rfl|rfl|rfl<;>simp[Y6,I.cells]) [(10,ζ ZB 3 L),(12,ZE C),(13,.sl true 3 (g.map Z2)),(14,R i),(15,Z9 x),(16,θ G),(17,R K),(18,θ G),(19,R K),(20,Z9 m),(21,R V),(22,Z9 m),(23,R V)] (by simp[Xz,I.cells,Y6]) ?_
 repeat apply Ξ
 refine W.S4 (A:=[]) Υ mixed [(150,ZU false),(10,ζ ZB 3 L),(12,ZE C),(13,.sl true 3 (g.map Z2)),(14,R i)] [] ?_ (by
  simp;(repeat (rw[ZG];simp));(try rw[ZH]);refine Ys (Κ.p aW (ZT.refl _) J J) ?_;simp;(repeat (rw[ZG];simp));(try rw[ZH]);refine Ys (Κ.p a8 (ZT.refl _) J J) ?_;simp;(repeat (rw[ZG];simp[ad,ao,P,ab,H]));(try rw[ZH]);refine Ys (Κ.p a7 (ZT.refl _) J J) ?_;simp;(repeat (rw[ZG];simp));(try rw[ZH]);refine⟨Yt (by kernel_rfl),?_⟩;simp)
 refine Η rfl ?_;refine Ζ aQ ?_;exact W.to au rfl (by simp[aQ])
end Go.TL
