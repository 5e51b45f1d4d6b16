import Derived.Test.YtlabjopijpkiaaaGreatJAW
set_option maxHeartbeats 16000000
set_option maxRecDepth 20000
set_option linter.unusedSectionVars false
set_option linter.unusedSimpArgs false
set_option linter.unusedVariables false
namespace Go.TL
open Go.Proofs
variable [ZX]
def Small (F:List Found):Prop:=F.length<2 ^ 20/\(∀f∈F,f.cells.length<2 ^ 20/\(∀i,i<=f.cells.length->∀a,Xh f.cells a i<2 ^ 40)/\∀c∈f.cells,c.length<2 ^ 20)
theorem Fp (s:ψ) (n:s.small) (F:List Found) (o:S9 s F) (c:Small F) (p:W1 F<2 ^ 62):Ε Tryz.prog 39 [Yz s] (.ZW [J (if s.err=0 then W1 F else 0),J s.err]):=by
 refine Μ.body Ρ Tryz.func39 rfl rfl Tryz.ntmps39 rfl rfl I ?_;refine Τ ?_;refine Y1 ?_;refine Y4 (A:=[4]) Ρ λg a=>Z6 ?_;refine Ε.d (M5 s n false F o) (Z6 ?_);apply a;have e:Yr s false F=if s.err=0 then(s,F,0) else(PM,[],s.err):=by
  unfold Yr;by_cases b:s.err=0
  .rw[if_neg (by simpa using b),if_neg I,if_pos b]
  .rw[if_pos b,if_neg b]
 have r:(Yr s false F).2.1=if s.err=0 then F else []:=by rw[e];split<;>rfl
 have Φ:(Yr s false F).2.2=s.err:=by rw[e];split<;>simp[*]
 have j:∀l:List Found,(∀f∈l,f∈F)->l.length<=F.length->W1 l<2 ^ 62->Ε Tryz.prog 79 [Zb l] (J (W1 l)):=λl k u t=>
  Dw l (by have:=c.1;omega) (λf m=>⟨by have:=(c.2 f (k f m)).1;omega,λi hi=>by have:=(c.2 f (k f m)).2.1 i hi (-1);omega⟩) t
 rw[r,Φ];by_cases b:s.err=0
 .rw[if_pos b];refine Z' λg a=>?_;refine Ε.d (j F (λf h=>h) (γ _) p) (Z6 ?_);apply a;refine W.drop (h:=0) (χ _) (χ _) I rfl [(2,J (W1 F)),(3,J s.err)] I ?_;refine W.rt ?_;rw[if_pos b];exact .refl _
 .rw[if_neg b];refine Z' λg a=>?_;refine Ε.d (j [] I I (by simp[W1])) (Z6 ?_);apply a;refine W.drop (h:=0) (χ _) (χ _) I rfl [(2,J (W1 [])),(3,J s.err)] I ?_;refine W.rt ?_;rw[if_neg b];exact .refl _
theorem HT {p f:Prop} {q:f->Prop} (a:f) (k:q a) (h:∀a,q a->p:=by intro b k;simp[b];(repeat (rw[UT];simp[b]));(try rw[UU]);exact k):p:=h a k
structure rP where
 d:Zk
 done:List (List Zw)
theorem Bb (d:Zk) (hd:d.Z0.length<2 ^ 63) (aB aa:Nat) (bG:1<=aB) (bH:aB<=6) (bI:aa<=4) :
  RS 37 [J aB,J aa] d (λr=>∃s,r=Yz s/\Yd s/\s.cells.length<=aa/\s.Δ.length<=3):=by
 unfold RS;refine Μ.body Ρ Tryz.func37 rfl rfl Tryz.ntmps37 rfl rfl I ?_
 repeat apply Ξ
 refine Y4 (A:=[6]) Ρ λaC V=>Z6 ?_;apply V
 repeat apply Ξ
 refine W.Zg ?_;refine W.part (A:=[7]) Ρ [0,1,2,3] [4,5] rfl λaC V=>?_;(try simp);(repeat (rw[Ν];simp));refine Bv d hd aB aa bG bH bI rfl ?_;intro G L nc d1 bJ a4 ⟨cm,cn,bK⟩ bL;simp only[List.length_cons,List.length_nil,Nat.reduceAdd,List.set_cons_zero,List.cons_append,List.nil_append];obtain⟨ab,aG⟩:=Η (ZV 5 (List.replicate nc Z5));have aj:(nc=0/\ab=Z5)\/(0<nc/\ab=.ms 5 nc 0 nc):=by
  by_cases F:nc=0
  .subst F;exact .inl ⟨rfl,aG⟩
  .exact .inr ⟨U,by rw[aG,XR (by simp[F]),Q9]⟩
 have ak:∀done:List (List Zw),done.length<=nc->(nc=0/\η 60 1 (ZP done nc)=[])\/(0<nc/\η 60 1 (ZP done nc)=[.cells 60 1 (ZP done nc)]):=λdone al=>by
  by_cases F:nc=0
  .subst F;have:=YL.1 (S1 al);exact .inl ⟨rfl,by rw[this];rfl⟩
  .exact .inr ⟨U,YZ (λh=>by have:=S1 al;rw[h] at this;simp at this;omega)⟩
 rw[<-aG,<-Bs];rw[G4,Td];apply V;clear V aC;have ad:ς ([ZH d1,YY Z5 Z5 Z5,.dead,.dead,.dead]++η 60 1 (ZP [] nc)).length ab:=by
  rcases aj with⟨_,e⟩|⟨X,e⟩
  .rw[e];simp
  .rcases ak [] (χ _) with⟨R,_⟩|⟨_,Φ⟩
   .omega
   .rw[e,Φ];exact Ux.2 I
 refine W.Bt (A:=[7]) Ρ [(0,.Κ 0 1 0 0),(6,.Κ 1 1 0 0),(7,.Θ [ν G,ξ L,ab])] ([ZH d1,YY Z5 Z5 Z5,.dead,.dead,.dead]++η 60 1 (ZP [] nc)) ?_ (by
  have aD:∀h,∀r∈[ZH d1,YY Z5 Z5 Z5,.dead,.dead,.dead]++η 60 1 (ZP [] nc),X6 h r:=λh r b=>by
   rcases Wd.1 b with b|b
   .simp only[Y6,Ya,or_false] at b;rcases b with rfl|rfl|rfl|rfl|rfl
    .exact TA d1 h
    .intro e u a f;simp[Ω.cells] at u;subst u;simp[Ω.cells] at f;subst f;simp
    .trivial
    .trivial
    .trivial
   .exact R7 (λe u a f=>by obtain⟨w,o⟩:=Mv e u;rw[w] at f;simp at f;subst f;exact o) r b
  rcases aj with⟨X,e⟩|⟨X,e⟩<;>rcases ak [] (χ _) with⟨R,Φ⟩|⟨R,Φ⟩
  .rw[Φ] at aD ad;rw[e] at ad;rw[e,Φ];(try simp);(repeat (rw[Ν];simp));(try simp);intro aH;exact W.U9 (σ0:=[ZH d1,YY Z5 Z5 Z5,.dead,.dead,.dead]) I (aD _) (λa f=>by
    simp[Ω.cells] at f;rcases f with rfl|rfl|rfl
    .exact(YG.2 Ty:ς 0 _).mono (χ _)
    .exact(YG.2 RR:ς 0 _).mono (χ _)
    .exact ad) [(0,.Κ 0 1 0 0),(6,.Κ 1 1 0 0),(7,.Θ [ν G,ξ L,Z5])] (by simp[WV,Ω.cells]) aH
  .omega
  .omega
  .rw[Φ] at aD ad;rw[e] at ad;rw[e,Φ];have Y:(ZP [] nc).length=nc:=S1 (χ _);(try simp);(repeat (rw[Ν];simp[Y]));(try simp[Y]);intro aH;exact W.U9 (σ0:=[ZH d1,YY Z5 Z5 Z5,.dead,.dead,.dead,.cells 60 1 (ZP [] nc)]) I (aD _) (λa f=>by
    simp[Ω.cells] at f;rcases f with rfl|rfl|rfl
    .exact(YG.2 Ty:ς 0 _).mono (χ _)
    .exact(YG.2 RR:ς 0 _).mono (χ _)
    .exact ad) [(0,.Κ 0 1 0 0),(6,.Κ 1 1 0 0),(7,.Θ [ν G,ξ L,.ms 5 nc 0 nc])] (by simp[WV,Ω.cells]) aH)
 obtain⟨C,aE⟩:=Η L.length;have bM:=a4.lo;rw[<-aE] at bM bK;have cp:(L.map (Z9 J 1)).length=C:=by rw[Yp,aE]
 refine Τ ?_;refine W.iter (λx:rP=>x.done.length<=nc/\x.d.Z0.length<=d.Z0.length/\∀c∈x.done,Rf C c)
  (λx=>[(0,.Κ 0 1 0 0),(6,.Κ 1 1 0 0),(7,.Θ [ν G,ξ L,ab]),(8,J x.done.length)])
  (λx=>[ZH x.d,YY Z5 Z5 Z5,.dead,.dead,.dead]++η 60 1 (ZP x.done nc)) (λx=>nc-x.done.length) ⟨d1,[]⟩ ⟨I,bL,I⟩ rfl I (λx K aI=>?_)
 obtain⟨M,done⟩:=x;obtain⟨al,aJ,aK⟩:=K;simp only at al aJ aK aI ⊢;obtain⟨c,am⟩:=Η done.length;rw[<-am] at al aI;rw[<-am]
 repeat apply Ξ
 refine W.XV (A:=[]) Ρ [(20,Z4 (decide (c<nc))),(0,.Κ 0 1 0 0),(6,.Κ 1 1 0 0),(7,.Θ [ν G,ξ L,ab]),(8,J c)] ([ZH M,YY Z5 Z5 Z5,.dead,.dead,.dead]++η 60 1 (ZP done nc)) ?_ (by
  have Y:(ZP done nc).length=nc:=S1 U;rcases aj with⟨X,e⟩|⟨X,e⟩<;>rcases ak done U with⟨R,Φ⟩|⟨R,Φ⟩
  .rw[e,Φ,R];(try simp);(repeat (rw[Ν];simp));(try simp)
  .omega
  .omega
  .rw[e,Φ];(try simp);(repeat (rw[Ν];simp[Y]));(try simp[Y]))
 refine W.Yv rfl (λae=>?_) (λae=>?_)
 .have ae:c<nc:=by simpa using ae
  rcases aj with⟨X,_⟩|⟨X,e⟩
  .omega
  rcases ak done U with⟨R,_⟩|⟨R,Φ⟩
  .omega
  obtain⟨O,an⟩:=Η (ZP done nc);have a5:O.length=nc:=by rw[an];exact S1 U
  have a6:O[c]?=some Z5:=by rw[an,am];exact Bq U
  have bN:∀m,O.set c (U6 m)=ZP (done++[m]) nc:=λm=>by rw[an,am];exact Bp U m
  have a7:∀e∈O,e.cells=[e]/\ς 0 e:=by rw[an];exact Mv
  have aF:O.set c Z5=O:=by
   apply VJ;intro i;rw[List.getElem?_set];split
   .rename_i e;subst e;split
    .exact a6.symm
    .rename_i h;exact(h U).elim
   .rfl
  have a8:L.length=C:=aE.symm;rw[e,Φ,<-an];simp only[List.cons_append,List.nil_append];have aL:=H9 M U C U;have aM:=K3 M C;have a9:∀x∈(Xb M C).1,0<=x/\x<C:=λx h=>H4 h;have a':=H3 M C;have bO:=K4 M C;obtain⟨H,bP⟩:=ZG ((Xb M C).1);obtain⟨ao,bQ⟩:=ZG ((Xb M C).2);rw[bP] at aL aM a9 a';rw[bQ] at aL bO;refine XB a8 λaC V=>?_;refine YM.g (aL) (Z6 ?_);apply V;have ba:=RY ao U C;obtain⟨t0,t1⟩:=Sx ao C U U;obtain⟨S,ap⟩:∃k:Nat,WU ao C=k:=⟨(WU ao C).toNat,U⟩;obtain⟨bb,bc⟩:=ZG (ao.after C);have bR:bb.Z0.length<=d.Z0.length:=by rw[<-bc];exact X' (VN _ _) U
  rw[ap,bc] at ba;rw[ap] at t1;refine XB a8 λaC V=>?_;refine YM.g (ba) (Z6 ?_);apply V
  repeat apply Ξ
  refine W.iter (λx:Bo=>x.Qp.length+x.k=S/\x.d.Z0.length<=d.Z0.length/\x.Qp.map (·.Ys)=((H.take S).drop x.k).reverse/\∀p∈x.Qp,(0<=p.seen/\p.seen<=63)/\(0<=p.bare/\p.bare<=63)/\Uv p.seen p.bare=0)
   (λx=>[(0,.Κ 0 1 0 0),(6,.Κ 1 1 0 0),(7,.Θ [ν G,ξ L,.ms 5 nc 0 nc]),(8,J c),(9,Z9 J 1 H),(10,J x.k)])
   (λx=>ZH x.d::YY Z5 Z5 Z5::.dead::.dead::.dead::.cells 60 1 (O.set c (ZV 6 (x.Qp.map Zv)))::η 28 3 (x.Qp.map Zv)) (λx=>x.k) ⟨S,bb,[]⟩
   ⟨I,bR,I,I⟩ (by simp only[UA];rw[show ZV 6 []=Z5 from rfl,aF];rfl) I (λx K bd=>?_)
  obtain⟨k,E,m⟩:=x;obtain⟨bS,aN,aq,aO⟩:=K;simp only at bS aN aq aO bd ⊢;refine Τ ?_;refine W.Yv rfl (λaP=>?_) (λaP=>?_)
  .have ap:0<k:=by simpa using aP
   obtain⟨j,bT⟩:∃j,k=j+1:=⟨k-1,U⟩;have T:IntKind.i64.wrap ((k:Int)-1)=j:=by rw[IntWalk.i64_in _ U];omega
   have bU:j<H.length:=U
   have aQ:H[j]?=some H[j]:=δ bU;obtain⟨af,aR⟩:=Η (H[j]);rw[<-aR] at aQ;have be:∀h,H[j]'h=af:=λh=>aR.symm;have aS:=RY E U 63;obtain⟨bf,bg⟩:=Sx E 63 ZY ZY;obtain⟨bV,bh⟩:=ZG (WU E 63);obtain⟨ar,bi⟩:=ZG (E.after 63);have bW:ar.Z0.length<=d.Z0.length:=by rw[<-bi];exact X' (VN _ _) aN
   rw[bh,bi] at aS;rw[bh] at bf bg;have aT:=RY ar U 63;obtain⟨bj,bk⟩:=Sx ar 63 ZY ZY;obtain⟨bX,bl⟩:=ZG (WU ar 63);obtain⟨au,bm⟩:=ZG (ar.after 63);have bY:au.Z0.length<=d.Z0.length:=by rw[<-bm];exact X' (VN _ _) bW
   rw[bl,bm] at aT;rw[bl] at bj bk;obtain⟨⟨bZ,aU⟩,_,_⟩:=Mw ⟨bf,bg⟩ ⟨bj,bk⟩;obtain⟨av,aV⟩:=ZG (XY .i64 bV bX);rw[aV] at bZ aU;have aW:=FV au U [0,0,av] I I;obtain⟨Z,bn⟩:=ZG (([0,0,av]:List Int).getD (Rh au [0,0,av]) 0);have bo:0<=Z/\Z<=63:=by
    rw[<-bn]
    match Rh au [0,0,av] with
    | 0=>simp
    | 1=>simp
    | 2=>simp;omega
    | n+3=>simp
   obtain⟨ag,bp⟩:=ZG (au.after ((([0,0,av]:List Int).length:Int)-1));have b0:ag.Z0.length<=d.Z0.length:=by rw[<-bp];exact X' (VN _ _) bY
   rw[bn,bp] at aW;obtain⟨Q,D⟩:=Η (YY Z5 Z5 Z5::.dead::.dead::.dead::.cells 60 1 (O.set c (ZV 6 (m.map Zv)))::η 28 3 (m.map Zv):Ο);have aw:(ZV 6 (m.map Zv)=Z5/\η 28 3 (m.map Zv)=[]/\m=[])\/(ZV 6 (m.map Zv)=.ms 6 m.length 0 m.length/\η 28 3 (m.map Zv)=[.cells 28 3 (m.map Zv)]/\0<m.length):=by
    by_cases F:m=[]
    .subst F;exact .inl ⟨rfl,rfl,rfl⟩
    .have ax:m.map Zv≠[]:=by simpa using F
     exact .inr ⟨by rw[XR ax,Yp],YZ ax,RQ.2 F⟩
   rw[<-D]
   repeat apply Ξ
   refine W.Ia (A:=[11]) Ρ mixed [(0,.Κ 0 1 0 0),(6,.Κ 1 1 0 0),(7,.Θ [ν G,ξ L,.ms 5 nc 0 nc]),(8,J c),(9,Z9 J 1 H),(10,J k),(11,.Κ (Q.length+1) 1 0 0)] (ZH ag::Q++[.cells 28 3 [.ZT [J af,J Z,J 0]]]) ?_ (by
    rcases aw with⟨f1,f2,f3⟩|⟨f1,f2,f3⟩
    .rw[f1,f2] at D;rw[D];simp;(repeat (rw[UT];simp[T,aQ,be,aM]));(try rw[UU]);refine⟨U,?_⟩;refine YM.h (aS) (Qt ?_);refine YM.h (aT) (HT aV ?_);refine YM.e aW (.cons .ex .nil) I I ?_;simp;(repeat (rw[UT];simp));(try rw[UU]);refine⟨XD (by kernel_rfl),XD (by kernel_rfl),?_⟩;simp
    .rw[f1,f2] at D;rw[D];simp;(repeat (rw[UT];simp[T,aQ,be,aM]));(try rw[UU]);refine⟨U,?_⟩;refine YM.h (aS) (Qt ?_);refine YM.h (aT) (HT aV ?_);refine YM.e aW (.cons .ex .nil) I I ?_;simp;(repeat (rw[UT];simp));(try rw[UU]);refine⟨XD (by kernel_rfl),XD (by kernel_rfl),?_⟩;simp)
   have aX:=RY ag U 63;obtain⟨bq,br⟩:=Sx ag 63 ZY ZY;obtain⟨b1,bs⟩:=ZG (WU ag 63);obtain⟨ay,bt⟩:=ZG (ag.after 63);have b2:ay.Z0.length<=d.Z0.length:=by rw[<-bt];exact X' (VN _ _) b0
   rw[bs,bt] at aX;rw[bs] at bq br;have aY:=RY ay U 63;obtain⟨d0,bu⟩:=Sx ay 63 ZY ZY;obtain⟨b3,bv⟩:=ZG (WU ay 63);obtain⟨P,bw⟩:=ZG (ay.after 63);have b4:P.Z0.length<=d.Z0.length:=by rw[<-bw];exact X' (VN _ _) b2
   rw[bv,bw] at aY;rw[bv] at d0 bu;obtain⟨bx,_,_⟩:=Mw ⟨bq,br⟩ ⟨d0,bu⟩;obtain⟨b5,aZ⟩:=ZG (XY .i64 b1 b3);rw[aZ] at bx;obtain⟨_,bz,F⟩:=Mw bx bo;obtain⟨a0,a1⟩:=ZG (UK .i64 b5 Z);rw[a1] at bz F
   repeat apply Ξ
   refine W.Ia (A:=[]) Ρ mixed [(11,.Κ (Q.length+1) 1 0 0),(0,.Κ 0 1 0 0),(6,.Κ 1 1 0 0),(7,.Θ [ν G,ξ L,.ms 5 nc 0 nc]),(8,J c),(9,Z9 J 1 H),(10,J k)] ((ZH P::Q)++[.cells 28 3 [.ZT [J af,J Z,J a0]]]) ?_ (by
    rcases aw with⟨f1,f2,f3⟩|⟨f1,f2,f3⟩
    .rw[f1,f2] at D;rw[D];simp;(repeat (rw[UT];simp));(try rw[UU]);refine YM.h (aX) (Qt ?_);refine YM.h (aY) (HT (Υ aZ a1) ?_);refine⟨XD (by kernel_rfl),XD (by kernel_rfl),?_⟩;simp
    .rw[f1,f2] at D;rw[D];simp;(repeat (rw[UT];simp));(try rw[UU]);refine YM.h (aX) (Qt ?_);refine YM.h (aY) (HT (Υ aZ a1) ?_);refine⟨XD (by kernel_rfl),XD (by kernel_rfl),?_⟩;simp)
   have b6:∀r∈ZH P::Q,X6 (ZH P::Q).length r:=λr b=>by
    rcases Y6.1 b with rfl|b
    .exact TA P _
    have bA:0<m.length->6<(ZH P::Q).length:=λh=>by
     rcases aw with⟨_,_,f3⟩|⟨_,f2,_⟩
     .rw[f3] at h;simp at h
     .rw[D,f2];simp
    generalize (ZH P::Q).length=N at bA;rw[D] at b;simp only[Y6] at b;rcases b with rfl|rfl|rfl|rfl|rfl|b
    .intro e u a f;simp[Ω.cells] at u;subst u;simp[Ω.cells] at f;subst f;simp
    .trivial
    .trivial
    .trivial
    .intro e u a f;rcases HJ u with u|rfl
     .obtain⟨w,o⟩:=a7 e u;rw[w] at f;simp at f;subst f;exact o.mono (χ _)
     .rcases aw with⟨f1,_,_⟩|⟨f1,_,f3⟩
      .rw[f1] at f;simp[Ω.cells] at f;subst f;simp
      .rw[f1] at f;simp[Ω.cells] at f;subst f;exact Ux.2 (bA f3)
    .refine R7 (λe u a f=>?_) r b;obtain⟨x,_,rfl⟩:=Zq.1 u;simp[Ω.cells] at f;rcases f with rfl|rfl|rfl<;>exact .z _
   have cq:6<=(ZH P::Q).length:=by rw[D];simp
   refine W.U9 (σ0:=ZH P::Q) I b6 (λa f=>by simp[Ω.cells] at f;rcases f with rfl|rfl|rfl<;>exact .z _) [(11,.Θ [J af,J Z,J a0]),(0,.Κ 0 1 0 0),(6,.Κ 1 1 0 0),(7,.Θ [ν G,ξ L,.ms 5 nc 0 nc]),(8,J c),(9,Z9 J 1 H),(10,J k)] (λp B=>by
    simp only[Y6,Ya,or_false] at B;rcases B with rfl|rfl|rfl|rfl|rfl|rfl|rfl
    .exact .inr ⟨rfl,rfl⟩
    .exact .inl ⟨rfl,WV.2 U⟩
    .exact .inl ⟨rfl,WV.2 U⟩
    .refine .inl ⟨rfl,Jh.2 λa f=>?_⟩;simp only[Y6,Ya,or_false] at f;rcases f with rfl|rfl|rfl
     .exact(YG.2 Ty:ς 0 _).mono (χ _)
     .exact(YG.2 RR:ς 0 _).mono (χ _)
     .exact Ux.2 U
    .exact .inl ⟨rfl,.z _⟩
    .exact .inl ⟨rfl,(YG.2 (λe u a f=>by obtain⟨x,_,rfl⟩:=Zq.1 u;simp[Ω.cells] at f;subst f;exact .z _):ς 0 _).mono (χ _)⟩
    .exact .inl ⟨rfl,.z _⟩) ?_
   obtain⟨ah,a2⟩:=Η (⟨af,Z,a0⟩:Zw);have bB:(m++[ah]).map Zv≠[]:=I
   repeat apply Ξ
   refine W.K5 (A:=[70]) Ρ mixed [(0,.Κ 0 1 0 0),(6,.Κ 1 1 0 0),(7,.Θ [ν G,ξ L,.ms 5 nc 0 nc]),(8,J c),(9,Z9 J 1 H),(10,J k)] (ZH P::YY Z5 Z5 Z5::.dead::.dead::.dead::.cells 60 1 (O.set c (ZV 6 ((m++[ah]).map Zv)))::η 28 3 ((m++[ah]).map Zv)) ?_ (by
    rw[XR bB,YZ bB,Yp,VK,Yc,Xg,UA,a2];rcases aw with⟨f1,f2,f3⟩|⟨f1,f2,f3⟩
    .rw[f1,f2] at D;rw[D,aF,f3];simp;(repeat (rw[ZK];simp[a5,a6]));(try rw[ZL]);refine⟨U,?_⟩;refine⟨XD (by kernel_rfl),?_⟩;simp
    .rw[f1,f2] at D;rw[D];have b7:∀v,(O.set c v)[c]?=some v:=λv=>by rw[Xa U]
     have b8:∀v h,(O.set c v)[c]'h=v:=λv h=>List.getElem_set_self h;simp;(repeat (rw[ZK];simp[a5,b7,b8]));(try rw[ZL]);refine⟨U,U,U,?_⟩;refine⟨XD (by kernel_rfl),?_⟩;simp)
   refine Γ T ?_;have b9:(H.take S).drop j=af::(H.take S).drop k:=by
    have b':j<(H.take S).length:=by rw[SY];omega
    rw[OS b',bT,List.getElem_take,aR]
   refine W.to (bd ⟨j,P,m++[ah]⟩ ⟨by show(m++[ah]).length+j=S;rw[VK];simp;omega,b4,?_,λp B=>?_⟩ (by show j<k;omega)) I (by simp[T])
   .show(m++[ah]).map (·.Ys)=((H.take S).drop j).reverse;rw[b9,Yc,aq,List.reverse_cons,a2];rfl
   .rcases Wd.1 B with B|B
    .exact aO p B
    .simp at B;subst B;subst a2;exact⟨bo,bz,F⟩
  .have ap:k=0:=by simp at aP;omega
   subst ap;have cr:m.length=S:=U;rw[List.drop_zero] at aq;have ca:Rf C m:=by
    refine⟨U,?_,λp B=>?_⟩
    .rw[aq];unfold List.Nodup;rw[List.pairwise_reverse];exact(a'.sublist (Ks _ _)).imp YR
    .have bC:p.Ys∈m.map (·.Ys):=Zq.2 ⟨p,B,rfl⟩;rw[aq,List.mem_reverse] at bC;have:=a9 _ (KA bC);obtain⟨cb,cc,cd⟩:=aO p B;exact⟨this,cb,cc,cd⟩
   have T:IntKind.i64.wrap ((c:Int)+1)=((c+1:Nat):Int):=by rw[IntWalk.i64_in _ U];omega
   have ce:(done++[m]).length=c+1:=by simp;omega
   have ai:=aI ⟨E,done++[m]⟩ ⟨by show(done++[m]).length<=nc;omega,aN,λx K=>by
    rcases Wd.1 K with K|K
    .exact aK x K
    .simp at K;subst K;exact ca⟩ (by show nc-(done++[m]).length<nc-c;omega)
   have cf:ZP (done++[m]) nc≠[]:=λh=>by
    have:=S1 (done:=done++[m]) (nc:=nc) U;rw[h] at this;simp at this;omega
   simp only[ce] at ai;rw[YZ cf,<-bN m,e] at ai;refine W.exit rfl ?_;by_cases F:m=[]
   .subst F;rw[show U6 []=Z5 from rfl,aF] at ai;rw[show ZV 6 (([]:List Zw).map Zv)=Z5 from rfl,show η 28 3 (([]:List Zw).map Zv)=[] from rfl,aF];refine Γ T ?_;exact W.to ai rfl (by simp[T])
   .have ax:m.map Zv≠[]:=by simpa using F
    have bD:U6 m=.sl false 3 (m.map Zv):=by unfold U6 YC;rw[if_neg (by simpa using F)]
    rw[bD] at ai;rw[XR ax,YZ ax];refine W.PB (σ':=ZH E::YY Z5 Z5 Z5::.dead::.dead::.dead::.cells 60 1 (O.set c (.sl false 3 (m.map Zv)))::[.dead]) (id:=6) I rfl rfl rfl (λi r hi b=>?_) [(0,.Κ 0 1 0 0),(6,.Κ 1 1 0 0),(7,.Θ [ν G,ξ L,.ms 5 nc 0 nc]),(8,J c)] (λp B=>by
     simp only[Y6,Ya,or_false] at B;rcases B with rfl|rfl|rfl|rfl<;>exact .same _) ?_
    .match i,hi,b with
     | 0,_,b=>exact⟨r,b,.inl rfl⟩
     | 1,_,b=>exact⟨r,b,.inl rfl⟩
     | 2,_,b=>exact⟨r,b,.inl rfl⟩
     | 3,_,b=>exact⟨r,b,.inl rfl⟩
     | 4,_,b=>exact⟨r,b,.inl rfl⟩
     | 5,_,b=>
      simp at b;subst b;refine⟨_,rfl,.inr ⟨60,1,_,_,rfl,rfl,I,λy e cs w o=>?_⟩⟩;by_cases bE:y=c
      .subst bE;rw[Xa U] at w o;cases w;cases o;refine⟨rfl,λx a a3 az aA=>?_⟩
       match x with
       | 0=>simp[Ω.cells] at az aA;subst az;subst aA;have:=Rg.ms (id:=6) (k:=3) (l:=m.map Zv);rwa [Yp] at this
       | x+1=>simp[Ω.cells] at az
      .rw[WR (YR bE)] at w o;rw[w] at o;cases o;exact⟨rfl,λx a a3 az aA=>by rw[az] at aA;cases aA;exact .same _⟩
     | 6,h,_=>exact absurd rfl h
     | i+7,_,b=>simp at b
    refine W.drop (h:=6) I I (λi r hi b=>?_) rfl [(0,.Κ 0 1 0 0),(6,.Κ 1 1 0 0),(7,.Θ [ν G,ξ L,.ms 5 nc 0 nc]),(8,J c)] ?_ ?_
    .match i,hi,b with
     | 0,_,b=>simp at b;subst b;exact TA E 6
     | 1,_,b=>simp at b;subst b;intro e u a f;simp[Ω.cells] at u;subst u;simp[Ω.cells] at f;subst f;simp
     | 2,_,b=>simp at b;subst b;trivial
     | 3,_,b=>simp at b;subst b;trivial
     | 4,_,b=>simp at b;subst b;trivial
     | 5,_,b=>
      simp at b;subst b;intro e u a f;rcases HJ u with u|rfl
      .obtain⟨w,o⟩:=a7 e u;rw[w] at f;simp at f;subst f;exact o.mono (χ _)
      .simp[Ω.cells] at f;subst f;have:=FG m;rw[bD] at this;exact this.mono (χ _)
     | i+6,h,_=>omega
    .intro p B;simp only[Y6,Ya,or_false] at B;rcases B with rfl|rfl|rfl|rfl
     .exact⟨rfl,WV.2 U⟩
     .exact⟨rfl,WV.2 U⟩
     .refine⟨rfl,Jh.2 λa f=>?_⟩;simp only[Y6,Ya,or_false] at f;rcases f with rfl|rfl|rfl
      .exact(YG.2 Ty:ς 0 _).mono (χ _)
      .exact(YG.2 RR:ς 0 _).mono (χ _)
      .exact Ux.2 U
     .exact⟨rfl,.z _⟩
    refine Γ T ?_;exact W.to ai rfl (by simp[T])
 .have ae:c=nc:=by simp at ae;omega
  subst ae;refine W.exit rfl ?_;have bF:Yd ⟨G,L,done⟩:=⟨bJ,a4,by show done.length<=4;omega,λx K=>by show Rf L.length x;rw[<-aE];exact aK x K⟩;have cg:ZP done c=done.map U6:=by rw[am];exact Br
  have ci:Zh (.ZT [ν G,ξ L,.sl false 1 (done.map U6)]) (Yz ⟨G,L,done⟩):=by
   refine .ZT (.cons (.refl _) (.cons (.refl _) (.cons ?_ .nil)));exact .map λx _=>.one .acc (FF x) rfl
  rcases aj with⟨X,e⟩|⟨X,e⟩<;>rcases ak done U with⟨R,Φ⟩|⟨R,Φ⟩
  .rw[e,Φ];refine Τ ?_;have cj:done=[]:=YL.1 U;refine W.cut 1 I [(6,.Θ [ν G,ξ L,Z5])] I (λid r ck b=>?_) (λp B=>?_) ?_
   .have:id=0:=U
    subst this;simp at b;subst b;exact TA M 1
   .simp only[Y6,Ya,or_false] at B;subst B;show Ym 1 _ (Z7 _ 6) _;simp;refine .struct I (show _=some (Row.cells _ _ [.ZT _]) from rfl) rfl λx a a3 w o=>?_
    match x with
    | 0=>simp at w o;subst w;subst o;exact .low ((YG.2 Ty:ς 0 _).mono (χ _))
    | 1=>simp at w o;subst w;subst o;exact .low ((YG.2 RR:ς 0 _).mono (χ _))
    | 2=>simp at w o;subst w;subst o;exact .low I
    | x+3=>simp at o
   .refine W.ret ⟨_,rfl,_,M,?_,⟨_,rfl,bF,⟨by show done.length<=aa;omega,by show L.length<=3;omega⟩⟩,rfl,aJ⟩;rw[cj];exact .ZT (.cons (.refl _) (.cons (.refl _) (.cons .nil .nil)))
  .omega
  .omega
  .have Y:(ZP done c).length=c:=S1 U;rw[e,Φ];refine Γ Y ?_;refine W.cut 1 I [(6,.Θ [ν G,ξ L,.sl false 1 (ZP done c)])] I (λid r ck b=>?_) (λp B=>?_) ?_
   .have:id=0:=U
    subst this;simp at b;subst b;exact TA M 1
   .simp only[Y6,Ya,or_false] at B;subst B;show Ym 1 _ (Z7 _ 6) _;simp;refine .struct I (show _=some (Row.cells _ _ [.ZT _]) from rfl) rfl λx a a3 w o=>?_
    match x with
    | 0=>simp at w o;subst w;subst o;exact .low ((YG.2 Ty:ς 0 _).mono (χ _))
    | 1=>simp at w o;subst w;subst o;exact .low ((YG.2 RR:ς 0 _).mono (χ _))
    | 2=>simp at w o;subst w;subst o;exact .own (t:=60) I rfl Y (λe u a f=>by
      obtain⟨aU,cl⟩:=Mv e u;rw[aU] at f;simp at f;subst f;exact cl.mono (χ _))
    | x+3=>simp at o
   .rw[cg];exact W.ret ⟨_,rfl,_,M,ci,⟨_,rfl,bF,⟨by show done.length<=aa;omega,by show L.length<=3;omega⟩⟩,rfl,aJ⟩
theorem Fo {s:ψ} (h:Yd s):Small (Z1 s):=by
 have g:=h.many;refine⟨by have:=Re s;omega,λf a=>?_⟩;obtain⟨k,_,_,rfl⟩:=OY.1 a;have b:(YX s (Ze k)).cells.length=s.cells.length:=by simp[YX]
 refine⟨by rw[b];omega,λi hi d=>?_,λc e=>?_⟩
 .have:=KV h (Ze k) d (show i<=s.cells.length by omega);omega
 .have:=H0 h (Ze k) c e;omega
def US (s:ψ) (i:Nat):Nat:=((List.range i).map λk=>(YX s (Ze k)).many (-1)).sum
theorem Ms (s:ψ) (i:Nat):US s (i+1)=US s i+(YX s (Ze i)).many (-1):=by simp[US,V0]
theorem Mr (s:ψ):W1 (Z1 s)=US s 3:=by
 have b:∀i,i<=3->W1 ((List.range i).filterMap (WH s))=US s i:=by
  intro i
  induction i with
  | zero=>intro _;rfl
  | succ i c=>
   intro hi;rw[Ms,<-c U,V0,Ql];unfold W1;rw[Yc,Ml];congr 1;unfold WH;by_cases a:0<(YX s (Ze i)).many (-1)
   .have:i<3/\0<(YX s (Ze i)).many (-1):=⟨U,a⟩;simp[this]
   .have:¬(i<3/\0<(YX s (Ze i)).many (-1)):=λh=>a h.2;simp[this];omega
 exact b 3 (γ _)
end Go.TL
namespace Go.TL
open Go.Proofs
theorem KR [ZX] {s:ψ} (h:Yd s) (i:Nat):US s i<=i*5764801:=by
 induction i with
 | zero=>simp[US]
 | succ i a=>
  rw[Ms,KT];have:=KV h (Ze i) (-1) (γ s.cells.length);omega
end Go.TL
namespace Go.TL
open Go.Conc
variable [ZX]
inductive NQ (id:Nat):Ω->Ω->Prop where
 | same (a:Ω):NQ id a a
 | nil {k:Nat}:NQ id (.sl true k []) (.ms id 0 0 0)
def OW (id:Nat) (r r':Row):Prop:=r'=r\/∃t n es es',r=.cells t n es/\r'=.cells t n es'/\es'.length=es.length/\
 ∀(i:Nat) (e b:Ω),es[i]?=some e->es'[i]?=some b->b.cells.length=e.cells.length/\∀(x:Nat) (a c:Ω),e.cells[x]?=some a->b.cells[x]?=some c->NQ id a c
section
variable {P:Program} {S:μ} {B:Z8} {H:Χ} {σ σ':Ο} {m nt k:Nat} {t:TypeId} {kk:List Item} {env:ω} {Z:X7} {E:Yn}
theorem Zx.pad (g:B.length=σ.length) (i:σ'.length=σ.length) (b:∀(j:Nat) (r:Row),σ[j]?=some r->∃r',σ'[j]?=some r'/\OW σ.length r r'):Zx S S B (B++[none]) σ (σ'++[.cells t k []]):=
 ⟨λ_ _ _ h=>h,λj r a=>by
  have l:=(ZA.1 a).1;obtain⟨r',c,d⟩:=b j r a;have e:(B++[none])[j]?=B[j]?:=YK U;refine⟨r',by rw[YK U];exact c,?_⟩;rw[e];rcases d with rfl|⟨t,n,es,es',rfl,rfl,f,_⟩
  .exact Row.P8 _ _
  .exact .inl ⟨es',rfl,f,rfl⟩⟩
theorem π.Ba (i:B.length=σ.length) (j:σ'.length=σ.length) (l:Zx S S B (B++[none]) σ (σ'++[.cells t k []])) {a c:Ω} (h:NQ σ.length a c) {v:Value} (d:π S B σ a v):π S (B++[none]) (σ'++[.cells t k []]) c v:=by
 cases h with
 | same=>exact d.later l
 | nil=>
  have e:(σ'++[Row.cells t k []])[σ.length]?=some (.cells t k []):=by rw[<-j];simp
  have f:(B++[none])[σ.length]?=some none:=by rw[<-i];simp
  cases d with
  | Wo base cap g=>
   obtain rfl:=g rfl;exact .ms 0 e rfl f (γ _) (γ _) (.inl rfl)
  | sl b o cap w g=>
   obtain rfl:cap=0:=g rfl;exact .ms 0 e rfl f (γ _) (γ _) (.inl rfl)
theorem W.pad (t:TypeId) (k:Nat) (L:σ'.length=σ.length) (V:∀(j:Nat) (r:Row),σ[j]?=some r->∃r',σ'[j]?=some r'/\OW σ.length r r') (env':ω) (az:∀p∈env',NQ σ.length (Z7 env p.1) p.2)
  (aA:W P m nt kk env' (σ'++[.cells t k []]) Z E):W P m nt kk env σ Z E:=by
 intro aB mn x cs b S B H ZS M g O aC aD;have f:=O.holds;have Q:=f.len;have R:Zx S S B (B++[none]) σ (σ'++[.cells t k []]):=Zx.pad Q L V;have ao:∀j,j<σ.length->(σ'++[Row.cells t k []])[j]?=σ'[j]?:=λj h=>YK U;have l:∀j,j<σ.length->(B++[none])[j]?=B[j]?:=λj h=>YK U;have back:∀j r',j<σ.length->(σ'++[Row.cells t k []])[j]?=some r'->∃r,σ[j]?=some r/\OW σ.length r r':=λj r' s h=>by
  rw[ao j s] at h;obtain⟨ap,d,X⟩:=V j _ (δ s);rw[h] at d;cases d;exact⟨_,δ s,X⟩
 have Y:∀{r r':Row},OW σ.length r r'->r'.live->r.live:=λ{r r'} h hv=>by
  rcases h with rfl|⟨_,_,_,_,rfl,rfl,_⟩
  .exact hv
  .trivial
 have low:∀j y,(B++[none])[j]?=some (some y)->j<σ.length:=λj y h=>by
  have d:=(ZA.1 h).1;simp at d;by_cases e:j=B.length
  .subst e;simp at h
  .omega
 have aE:Holds S (B++[none]) (σ'++[.cells t k []]) H:=by
  refine⟨f.YO,by simp;omega,λj r bo c u=>?_,λi j aF aG b aH aI aJ hi s aK aL aa ab=>?_,λj r b N c aM g o=>?_⟩
  .by_cases e:j<σ.length
   .rw[l j e] at u;obtain⟨aN,d,X⟩:=back j r e c;have T:=f.row j aN bo d u;rcases X with rfl|⟨t2,n,es,es',rfl,rfl,ad,aO⟩
    .refine T.later R (λb N _=>⟨λ_=>rfl,rfl,rfl⟩) λae left a5 Φ=>?_;subst Φ;obtain⟨_,_,a6,a7,xs,a8,seen,_,aq,⟨es,A⟩,_⟩:=T;have ar:=(ZA.1 A).1;refine⟨?_,l ae ar,λb N _=>⟨λ_=>rfl,rfl,rfl⟩⟩;obtain⟨r',aP,aQ⟩:=V ae _ A;rcases aQ with rfl|⟨_,_,_,_,aR,_⟩
     .rw[ao ae ar,aP,A]
     .cases aR
    .cases bo with
     | none=>
      have:es=[]:=T;subst this;exact YL.1 ad
     | some y=>
      obtain⟨b,N⟩:=y;obtain⟨C,D,F,w,J⟩:=T;refine⟨C,by rw[ad];exact D,F,w,λi aS hi=>?_⟩;have au:i<es.length:=by rw[<-ad];exact(ZA.1 hi).1
      obtain⟨aT,aU⟩:=J i _ (δ au);obtain⟨d1,d2⟩:=aO i _ aS (δ au) hi;refine⟨d1.trans aT,λx aV M=>?_⟩;have av:x<(es[i]).cells.length:=by rw[<-d1];exact(ZA.1 M).1
      obtain⟨aq,A,aW⟩:=aU x _ (δ av);exact⟨aq,A.Ba Q L R (d2 x _ aV (δ av) M),aW⟩
   .have d:=(ZA.1 c).1;simp at d;have aX:j=σ'.length:=U;subst aX;rw[L,<-Q] at u;simp at c u;subst c;subst u;rfl
  .have aw:=low i _ aa
   have K:=low j _ ab;obtain⟨af,ag,ah⟩:=back i aF aw hi;obtain⟨ap,aY,aZ⟩:=back j aG K s;rw[l i aw] at aa;rw[l j K] at ab;exact f.inj i j af ap b aH aI aJ ag aY (Y ah aK) (Y aZ aL) aa ab
  .have K:=low j _ g;obtain⟨af,ag,ah⟩:=back j r K c;rw[l j K] at g;exact f.sep j af b N ag (Y ah aM) g o
 have a0:Ext S B H S (B++[none]) H:=(f.push (r:=.cells t k []) (bo:=none) (λb N h=>by cases h) (λb _=>⟨λ_=>rfl,rfl,rfl⟩) (λ_=>rfl)).2.1
 have ax:XX m S B H σ S (B++[none]) H (σ'++[.cells t k []]):=⟨a0,R.left m⟩
 have a1:∀(l2:ω),(∀p∈l2,NQ σ.length (Z7 env p.1) p.2)->∀i,π S B σ (Z7 env i) (ZS.getD i undef)->π S (B++[none]) (σ'++[.cells t k []]) (Z7 l2 i) (ZS.getD i undef):=by
  intro l2
  induction l2 with
  | nil=>intro _ i _;exact .Zl _
  | cons p l2 a2=>
   intro ay i c;simp only[Z7];split
   .rename_i e;subst e;exact c.Ba Q L R (ay p I)
   .exact a2 (λq a3=>ay q (by simp[a3])) i c
 refine aA aB mn x cs b _ _ H ZS M g ⟨aE,λi=>a1 env' az i (O.Zm i),O.size,by have:=O.rows;simp;omega⟩ (λj ai aj ak al am t2 an C D F J=>?_) (λa ai aj ak al am t2 an v C D F J a4=>?_)
 .exact aC j ai aj ak al am t2 an C (ax.trans D) F J
 .exact aD a ai aj ak al am t2 an v C (ax.trans D) F J a4
theorem W.A' (t:TypeId) (k:Nat) {i:Nat} {r r':Row} (hi:σ[i]?=some r) (b:OW σ.length r r') (env':ω) (c:∀p∈env',NQ σ.length (Z7 env p.1) p.2) (d:W P m nt kk env' (σ.set i r'++[.cells t k []]) Z E):W P m nt kk env σ Z E:=
 W.pad t k I (λj q a=>by
  by_cases e:j=i
  .subst e;rw[hi] at a;cases a;exact⟨r',by rw[Xa (ZA.1 hi).1],b⟩
  .exact⟨q,by rw[WR (YR e)];exact a,.inl rfl⟩) env' c d
end
end Go.TL
namespace Go.TL
open Go.Proofs
variable [ZX]
def Yh {α:Type} (b:Nat):List (List α)->κ
 | []=>[]
 | l::C=>.ms b l.length 0 l.length::Yh (b+1) C
theorem A9 {α:Type} (b:Nat) (C:List (List α)) (l:List α):Yh b (C++[l])=Yh b C++[.ms (b+C.length) l.length 0 l.length]:=by
 induction C generalizing b with
 | nil=>rfl
 | cons c C a=>
  show _::Yh (b+1) (C++[l])=_;rw[a,show b+1+C.length=b+(c::C).length by simp;omega];rfl
theorem NP {α:Type} (b:Nat) (C:List (List α)):(Yh b C).length=C.length:=by
 induction C generalizing b with
 | nil=>rfl
 | cons c C a=>simp[Yh,a]
end Go.TL
namespace Go.TL
open Go.Proofs
section
variable [ZX]
theorem Fl {α:Type} (b:Nat) (L:List (List α)) (j:Nat):(Yh b L)[j]?=L[j]?.map λl=>.ms (b+j) l.length 0 l.length:=by
 induction L generalizing b j with
 | nil=>simp[Yh]
 | cons l L a=>
  cases j with
  | zero=>simp[Yh]
  | succ j=>simp only[Yh,List.getElem?_cons_succ];rw[a,show b+1+j=b+(j+1) by omega]
theorem A8 {α:Type} (b:Nat) (L:List (List α)) (c:Nat) (x:List α):Yh b (L.set c x)=(Yh b L).set c (.ms (b+c) x.length 0 x.length):=by
 induction L generalizing b c with
 | nil=>simp[Yh]
 | cons l L a=>
  cases c with
  | zero=>simp[Yh]
  | succ c=>simp only[Yh,List.set_cons_succ];rw[a,show b+1+c=b+(c+1) by omega]
theorem A7 {α:Type} {f:α->Ω} {T t:TypeId} {k h b id:Nat} {σ:Ο} {L:List (List α)} (A:h<=b) (r:h<=id) (s:∀(j:Nat) (l:List α),L[j]?=some l->σ[b+j]?=some (.cells t k (l.map f))) (u:σ[id]?=some (.cells T 1 (Yh b L))) (v:∀p,∀a∈(f p).cells,ς h a):Ym h σ (.ms id L.length 0 L.length) (.sl false 1 (L.map λl=>.sl false k (l.map f))):=by
 have n:∀(j:Nat) (e d:Ω),(Yh b L)[0+j]?=some e->(L.map λl=>Ω.sl false k (l.map f))[j]?=some d->∃l:List α,L[j]?=some l/\e=.ms (b+j) l.length 0 l.length/\d=.sl false k (l.map f):=λj e d c g=>by
  rw[UQ,Fl] at c;rw[YU] at g;cases i:L[j]? with
  | none=>rw[i] at c;cases c
  | some l=>rw[i] at c g;cases c;cases g;exact⟨l,rfl,rfl,rfl⟩
 refine .ms r u (NP b L) (by rw[UQ];exact γ _) I (λj e d c g=>?_) (λj e d c g x a B m o=>?_)
 .obtain⟨l,_,rfl,rfl⟩:=n j e d c g;rfl
 .obtain⟨l,i,rfl,rfl⟩:=n j e d c g
  match x with
  | 0=>
   simp[Ω.cells] at m o;subst m;subst o;refine Ym.own U (s j l i) I (λe w a y=>?_);obtain⟨p,_,rfl⟩:=Zq.1 w;exact v p a y
  | x+1=>simp[Ω.cells] at m
end
end Go.TL
