import Derived.Conc.AtomicLaws2
import Derived.Conc.ClockLaws
import Derived.Conc.MarkLaws
import Derived.Conc.QuitsD
import Derived.Conc.SmallLaws
import Derived.Test.YtlabjopijpkiaaaGreatGAF
set_option maxHeartbeats 16000000
set_option maxRecDepth 20000
set_option linter.unusedSectionVars false
set_option linter.unusedSimpArgs false
set_option linter.unusedVariables false
namespace Go.TL
open Go.Proofs.Tryz
open Go.Proofs
variable [ZS]
theorem Δ.zi {P:Program} {σ:Υ} {g:FuncId} {as0 first:ψ} {c row':Row} {r:I} {K E:I->Υ->Prop} (h:Δ P g as0 [c] (λa s=>a=r/\s=[row']) (λ_ _=>False)) (id:Nat) (f:σ[id]?=some c) (k:VL c) (l:VL row') (m:∀a∈as0,Xi 1 a) (b:Xi 1 r)
  {args:ψ} (n:first++args=as0.map (Yt [id])) (o:K (Yt [id] r) (σ.set id row')):WZ P (.fn (.func g) first []) args σ K E:=by
 have p:=Δ.rows (σ:=σ) h [id] J rfl (λj i d=>by
  cases j with
  | zero=>simp at d;subst d;exact f
  | succ j=>simp at d) (λr b=>by simp at b;subst b;exact k) (by simpa using m) (K':=K) (E':=E) (λa s ⟨t,u⟩=>by
   subst t;subst u;refine⟨λx e=>by simp at e;subst e;exact l,b,?_⟩;simpa[names,QF,Wa] using o) (λa s h=>h.elim)
 exact Δ.call (first:=first) (captured:=[]) (by rw[TY,n];exact p)
def PY (s:ο) (f:Found) (c n:Nat) (m:List (Int×Int)) (j:Nat):List (Int×Int):=(((f.cells[c]?).getD []).take j).foldl (λm r=>PZ m (s.Yd (f.u,f.v) r n) (f.many c)) m
def OV (s:ο) (F:List Found) (c n i:Nat):List (Int×Int):=(F.take i).foldl (λm f=>PY s f c n m ((f.cells[c]?).getD []).length) []
def PX (a:Int) (l:List (Int×Int)):Int:=l.foldl (λa e=>max a e.2) a
def Kk (s:ο) (F:List Found) (c n:Nat):Int:=PX 0 (OV s F c n F.length)
def OU (s:ο) (F:List Found) (c:Nat) (b:UH) (n:Nat):UH:=(List.range n).foldl (λb (n:Nat)=>b.take c n (Kk s F c n)) b
def PW (s:ο) (F:List Found) (c:Nat):UH:=(List.range c).foldl (λb (c:Nat)=>OU s F c b s.Β.length) ⟨0,0,0,false⟩
theorem zh (s:ο) (F:List Found) (c:Nat) (b:UH) (n:Nat):OU s F c b (n+1)=(OU s F c b n).take c n (Kk s F c n):=by simp[OU,Uy,Ql]
theorem zg (s:ο) (F:List Found) (c:Nat):PW s F (c+1)=OU s F c (PW s F c) s.Β.length:=by simp[PW,Uy,Ql]
theorem zf (s:ο) (f:Found) (c n:Nat) (m:List (Int×Int)) (j:Nat) (h:j<((f.cells[c]?).getD []).length):PY s f c n m (j+1)=PZ (PY s f c n m j) (s.Yd (f.u,f.v) ((f.cells[c]?).getD [])[j] n) (f.many c):=by
 unfold PY;rw[UZ h,Ql];rfl
theorem ze (s:ο) (F:List Found) (c n i:Nat) (h:i<F.length):OV s F c n (i+1)=PY s F[i] c n (OV s F c n i) ((F[i].cells[c]?).getD []).length:=by
 unfold OV;rw[UZ h,Ql];rfl
theorem zd {a:Int} {l m:List (Int×Int)} (h:l.Perm m):PX a l=PX a m:=h.foldl_eq' (λx _ y _ z=>U) a
def QA (s:ο) (F:List Found):Int×Int×Int×Int:=
 if(XC s true F).2.2≠0 then(0,0,0,(XC s true F).2.2)
 else let b:=PW s F s.cells.length;if b.some=false\/b.least=Vf F then(0,0,0,11) else(b.c,b.n,b.least,0)
structure Kj (s:ο) (F:List Found):Prop where
 QC:F.length<2 ^ 20
 cells:∀f∈F,f.cells.length=s.cells.length/\(∀c∈f.cells,c.length<2 ^ 20/\∀r∈c,r.1<s.Κ.length/\r.2<s.Κ.length)
 many:∀f∈F,f.cells.length<2 ^ 62/\∀(a:Int) i,i<=f.cells.length->Ul f.cells a i<2 ^ 62
 count:Vf F<2 ^ 62
theorem zc (s:ο) (L:s.small) (F:List Found) (aG:P2 s F) (D:Kj s F) :
  Ν prog 26 [Zd s] (.ZP [R (QA s F).1,R (QA s F).2.1,R (QA s F).2.2.1,R (QA s F).2.2.2]):=by
 refine Δ.body Τ func26 rfl rfl ntmps26 rfl rfl J ?_;refine Φ ?_;refine Y' ?_;refine YR (A:=[6]) Τ λt a=>Z1 ?_;refine Ν.d (Ko s L true F aG) (Z1 ?_);apply a;by_cases b:(XC s true F).2.2=0
 case neg=>
  have e:QA s F=(0,0,0,(XC s true F).2.2):=by unfold QA;rw[if_pos b]
  rw[e];generalize (XC s true F).2.2=aH at b;refine Φ ?_;refine υ (by simp[b]) ?_;refine Φ ?_;refine W.drop (h:=0) (σ':=[]) (ω _) (ω _) J rfl [(2,R 0),(3,R 0),(4,R 0),(5,R aH)] J ?_;refine W.rt ?_;exact .refl _
 have e:XC s true F=(s,F,0):=by
  unfold XC at b ⊢;split at b
  .rename_i h;simp at b;exact absurd b h
  .split at b
   .simp at b
   .rename_i V aI;rw[if_neg V,if_neg aI]
 have Χ:QA s F=let b:=PW s F s.cells.length;if b.some=false\/b.least=Vf F then(0,0,0,11) else(b.c,b.n,b.least,0):=by unfold QA;rw[if_neg (by simpa using b)]
 rw[Χ,e];clear Χ;refine W.fix (id:=0) (σ':=[]) (ω _) rfl J J rfl [(5,R 0),(6,ZW s),(7,Y8 F)] J ?_;refine Φ ?_;refine χ rfl ?_
 repeat apply Ζ
 refine YR (A:=[8]) Τ λt a=>Z1 ?_;apply a;refine Φ ?_;have aX:s.cells.length<2 ^ 30:=L.2.2.1;have aY:s.Β.length<2 ^ 30:=L.2.1;have am:∀{b:UH} (g:List (Int×Int)),∀r∈[Row.cells 104 4 [UG b],.map (g.map Wl)],X8 [Row.cells 104 4 [UG b],.map (g.map Wl)].length r:=λ{b} g r E=>by
  simp only[YZ,XY,or_false] at E;rcases E with rfl|rfl
  .simp[X8,I.cells]
  .intro e aJ;obtain⟨x,_,rfl⟩:=YK.1 aJ;simp
 refine W.iter (λc:Nat=>c<=s.cells.length) (λc=>[(6,ZW s),(7,Y8 F),(8,.Ο 0 1 0 0),(9,.fn (.func 76) [.Ο 0 1 0 0] []),(33,R s.cells.length),(34,R c)])
  (λc=>[.cells 104 4 [UG (PW s F c)]]) (λc=>s.cells.length-c) 0 (ω _) rfl J (λc aZ aK=>?_)
 refine Φ ?_;refine W.YW rfl (λM=>?_) (λM=>?_)
 .have X:c<s.cells.length:=by simpa using M
  refine Φ ?_;obtain⟨an,ao⟩:=Z8 (PW s F c);refine W.iter (λn:Nat=>n<=s.Β.length) (λn=>[(6,ZW s),(7,Y8 F),(8,.Ο 0 1 0 0),(9,.fn (.func 76) [.Ο 0 1 0 0] []),(10,R c),(33,R s.cells.length),(34,R c),(40,R s.Β.length),(41,R n)])
   (λn=>[.cells 104 4 [UG (OU s F c an n)]]) (λn=>s.Β.length-n) 0 (ω _) (by rw[ao];rfl) J (λn a0 aL=>?_)
  refine Φ ?_;refine W.YW rfl (λY=>?_) (λY=>?_)
  .have P:n<s.Β.length:=by simpa using Y
   obtain⟨l,ap⟩:=Z8 (OU s F c an n);refine W.to (σ':=[.cells 104 4 [UG l]]) (env':=[(6,ZW s),(7,Y8 F),(8,.Ο 0 1 0 0),(9,.fn (.func 76) [.Ο 0 1 0 0] []),(10,R c),(33,R s.cells.length),(34,R c),(40,R s.Β.length),(41,R n)]) ?_ (by rw[ap]) J;refine Φ ?_;refine W.iter (λi:Nat=>i<=F.length) (λi=>[(6,ZW s),(7,Y8 F),(8,.Ο 0 1 0 0),(9,.fn (.func 76) [.Ο 0 1 0 0] []),(10,R c),(33,R s.cells.length),(34,R c),(40,R s.Β.length),(41,R n),(11,R n),(12,.mp 1),(45,Y8 F),(46,R F.length),(47,R i)])
    (λi=>[.cells 104 4 [UG l],.map ((OV s F c n i).map Wl)]) (λi=>F.length-i) 0 (ω _) rfl J (λi hi aM=>?_)
   refine Φ ?_;by_cases H:i<F.length
   .refine υ (by simp[H]) ?_;obtain⟨g,N⟩:=Z8 (OV s F c n i);have O:=ze s F c n i H;rw[<-N] at O;obtain⟨aq,ar⟩:=D.cells _ (YB H);obtain⟨Z,aa⟩:=D.many _ (YB H);generalize Q:F[i]=f at O aq ar Z aa;have ab:c<f.cells.length:=by rw[aq];exact X
    refine W.to (σ':=[.cells 104 4 [UG l],.map (g.map Wl)]) (env':=[(6,ZW s),(7,Y8 F),(8,.Ο 0 1 0 0),(9,.fn (.func 76) [.Ο 0 1 0 0] []),(10,R c),(33,R s.cells.length),(34,R c),(40,R s.Β.length),(41,R n),(11,R n),(12,.mp 1),(45,Y8 F),(46,R F.length),(47,R i)]) ?_ (by rw[N]) J
    repeat apply Ζ
    refine YR (A:=[14]) Τ λt a=>Xx (Ρ H Q) ?_;apply a;refine W.Vw (σ0:=[.cells 104 4 [UG l],.map (g.map Wl)]) (ω _) (am _) J [(14,.Ε [R f.u,R f.v,Um f.cells]),(6,ZW s),(7,Y8 F),(8,.Ο 0 1 0 0),(9,.fn (.func 76) [.Ο 0 1 0 0] []),(10,R c),(33,R s.cells.length),(34,R c),(40,R s.Β.length),(41,R n),(11,R n),(12,.mp 1),(45,Y8 F),(46,R F.length),(47,R i)] (by simp[WH,QL]) ?_;refine μ ab ?_;have au:(f.cells[c]?).getD []=f.cells[c]:=by simp[ab]
    rw[au] at O;have av:=ar _ (YB ab);have ad:=zf s f c n g;rw[au] at ad;generalize f.cells[c]=C at O av ad;obtain⟨a1,aN⟩:=av;refine W.iter (λj:Nat=>j<=C.length) (λj=>[(14,.Ε [R f.u,R f.v,Um f.cells]),(6,ZW s),(7,Y8 F),(8,.Ο 0 1 0 0),(9,.fn (.func 76) [.Ο 0 1 0 0] []),(10,R c),(33,R s.cells.length),(34,R c),(40,R s.Β.length),(41,R n),(11,R n),(12,.mp 1),(45,Y8 F),(46,R F.length),(47,R i),(55,Un C),(56,R C.length),(57,R j)])
     (λj=>[.cells 104 4 [UG l],.map ((PY s f c n g j).map Wl)]) (λj=>C.length-j) 0 (ω _) (by simp[PY]) J (λj a2 aw=>?_)
    refine Φ ?_;by_cases K:j<C.length
    .refine υ (by simp[K]) ?_;obtain⟨ae,ax⟩:=Z8 (PY s f c n g j);have S:=ad j K;rw[<-ax] at S;refine W.to (σ':=[.cells 104 4 [UG l],.map (ae.map Wl)]) (env':=[(14,.Ε [R f.u,R f.v,Um f.cells]),(6,ZW s),(7,Y8 F),(8,.Ο 0 1 0 0),(9,.fn (.func 76) [.Ο 0 1 0 0] []),(10,R c),(33,R s.cells.length),(34,R c),(40,R s.Β.length),(41,R n),(11,R n),(12,.mp 1),(45,Y8 F),(46,R F.length),(47,R i),(55,Un C),(56,R C.length),(57,R j)]) ?_ (by rw[ax]) J;obtain⟨af,ag⟩:=aN _ (YB K);generalize E:C[j]=r at S af ag
     repeat apply Ζ
     refine YR (A:=[16]) Τ λt a=>Xx (Ρ K E) ?_;apply a;refine W.Vw (σ0:=[.cells 104 4 [UG l],.map (ae.map Wl)]) (ω _) (am _) J [(16,.Ε [R r.1,R r.2]),(14,.Ε [R f.u,R f.v,Um f.cells]),(6,ZW s),(7,Y8 F),(8,.Ο 0 1 0 0),(9,.fn (.func 76) [.Ο 0 1 0 0] []),(10,R c),(33,R s.cells.length),(34,R c),(40,R s.Β.length),(41,R n),(11,R n),(12,.mp 1),(45,Y8 F),(46,R F.length),(47,R i),(55,Un C),(56,R C.length),(57,R j)] (by simp[WH,QL]) ?_
     repeat apply Ζ
     have T:=YF K (show C.length<2 ^ 62 by omega);rcases zj (s.Yd (f.u,f.v) r n) (f.many c) ae 0 with⟨m,ah⟩|⟨o,v,a3,m,ah⟩
     .refine W.draw (A:=[]) Τ mixed λt a=>?_;simp;(repeat (rw[Zf];simp[m,Wd]));try rw[Zg]
      refine Yl (Ν.p (MG s L (f.u,f.v) r n P af ag) (ZZ.refl _) J J) ?_;simp[m,Wd];(repeat (rw[Zf];simp[m,Wd]));try rw[Zg]
      refine Yl (Ν.p (Kr f c Z (aa c)) (ZZ.refl _) J J) ?_;simp[m,Wd];(repeat (rw[Zf];simp[m,Wd]));try rw[Zg]
      refine XL (a _ _ ?_);refine μ T ?_;refine W.to (aw (j+1) K U) ?_ ?_
      .rw[S,ah];simp
      .simp[T]
     .refine W.draw (A:=[]) Τ mixed λt a=>?_;simp;(repeat (rw[Zf];simp[m,Wd]));try rw[Zg]
      refine Yl (Ν.p (MG s L (f.u,f.v) r n P af ag) (ZZ.refl _) J J) ?_;simp[m,Wd];(repeat (rw[Zf];simp[m,Wd]));try rw[Zg]
      refine Yl (Ν.p (Kr f c Z (aa c)) (ZZ.refl _) J J) ?_;simp[m,Wd];(repeat (rw[Zf];simp[m,Wd]));try rw[Zg]
      refine XL (a _ _ ?_);refine μ T ?_;refine W.to (aw (j+1) K U) ?_ ?_
      .rw[S,ah];simp
      .simp[T]
    .have aO:j=C.length:=U
     subst aO;have ay:=YF H (show F.length<2 ^ 62 by have:=D.QC;omega);refine χ J ?_;refine W.exit rfl ?_;refine μ ay ?_;refine W.to (aM (i+1) H U) ?_ ?_
     .rw[O]
     .simp[ay]
   .have aP:i=F.length:=U
    subst aP;refine χ J ?_;refine W.exit rfl ?_;obtain⟨g,N⟩:=Z8 (OV s F c n F.length);have aQ:Kk s F c n=PX 0 g:=by rw[N];rfl
    refine W.to (σ':=[.cells 104 4 [UG l],.map (g.map Wl)]) (env':=[(6,ZW s),(7,Y8 F),(8,.Ο 0 1 0 0),(9,.fn (.func 76) [.Ο 0 1 0 0] []),(10,R c),(33,R s.cells.length),(34,R c),(40,R s.Β.length),(41,R n),(11,R n),(12,.mp 1)]) ?_ (by rw[N]) J;refine Φ ?_;refine W.iter (λx:Int×List (Int×Int)×Option (I×I)=>PX x.1 x.2.1=PX 0 g) (λx=>[(6,ZW s),(7,Y8 F),(8,.Ο 0 1 0 0),(9,.fn (.func 76) [.Ο 0 1 0 0] []),(10,R c),(33,R s.cells.length),(34,R c),(40,R s.Β.length),(41,R n),(11,R n),(12,.mp 1),(17,R x.1),(76,.it 2)])
     (λx=>[.cells 104 4 [UG l],.map (g.map Wl),.iter 1 (x.2.1.map Wl) x.2.2]) (λx=>x.2.1.length) (0,g,none) rfl rfl J (λx ai aR=>?_)
    obtain⟨w,k,a4⟩:=x;simp only at ai
    repeat apply Ζ
    cases k with
    | nil=>
     refine ZB λt a=>?_;apply a
     repeat apply Ζ
     refine χ rfl ?_;refine W.exit rfl ?_;have aj:w=Kk s F c n:=by rw[aQ,<-ai];rfl
     have az:=YF P (show s.Β.length<2 ^ 62 by omega);refine ZB λt a=>?_;refine Δ.zi (as0:=[.Ο 0 1 0 0,.Z9 [R c,R n],R w]) (zk l c n w) 0 rfl (by simp[VL,I.cells]) (by simp[VL,I.cells]) (by simp[Xi,Rx]) (by simp[Xi]) rfl ?_;simp[Yt,Wp];(repeat (rw[Μ];simp));apply a;refine W.drop (h:=1) (σ':=[.cells 104 4 [UG (l.take c n w)]]) (ω _) J (λid r a5 E=>?_) rfl [(6,ZW s),(7,Y8 F),(8,.Ο 0 1 0 0),(9,.fn (.func 76) [.Ο 0 1 0 0] []),(10,R c),(33,R s.cells.length),(34,R c),(40,R s.Β.length),(41,R n)] (by simp[WH]) ?_
     .obtain rfl:id=0:=U
      simp at E;subst E;simp[X8,I.cells]
     refine μ az ?_;refine W.to (aL (n+1) P U) ?_ ?_
     .rw[zh,<-ap,aj]
     .simp[az]
    | cons y k=>
     refine ZB λt a=>?_;intro o ak;obtain⟨x,aA⟩:=Z8 ((y::k)[o]'(by simpa using ak));have aS:(Wl y::List.map Wl k)[o]?=some (Wl x):=by
      have:(List.map Wl (y::k))[o]?=some (Wl x):=by
       rw[Yk,ε (by simpa using ak),aA];rfl
      simpa using this
     have aT:(Wl y::List.map Wl k).eraseIdx o=((y::k).eraseIdx o).map Wl:=FC Wl (y::k) o;rw[aS,aT];simp;(repeat (rw[Μ];simp));apply a
     repeat apply Ζ
     refine υ rfl ?_;refine Φ ?_;have aB:o<(y::k).length:=by simpa using ak
     have aU:PX (max w x.2) ((y::k).eraseIdx o)=PX 0 g:=by
      rw[<-ai,<-zd (FE (y::k) o aB),<-aA];rfl
     have aj:max w x.2=if w<x.2 then x.2 else w:=by split<;>omega
     refine W.to (aR (max w x.2,(y::k).eraseIdx o,some (Wl x)) aU (by simp only[List.length_eraseIdx,aB,if_true];omega)) ?_ ?_
     .simp
     .simp[aj]
  .have aV:n=s.Β.length:=by simp at Y;omega
   subst aV;have aC:=YF X (show s.cells.length<2 ^ 62 by omega);refine W.exit rfl ?_;refine μ aC ?_;refine W.to (aK (c+1) X U) ?_ ?_
   .rw[zg,<-ao]
   .simp[aC]
 .have M:c=s.cells.length:=by simp at M;omega
  subst M;refine W.exit rfl ?_;refine Φ ?_;obtain⟨⟨aD,aE,al,aF⟩,aW⟩:∃B,B=PW s F s.cells.length:=⟨_,rfl⟩;rw[<-aW];refine W.fix (id:=0) (σ':=[]) (ω _) rfl J J rfl [(7,Y8 F),(8,.Ε [R aD,R aE,R al,ZQ aF])] J ?_;have V:∀f∈F,f.cells.length<2 ^ 62/\∀i,i<=f.cells.length->Ul f.cells (-1) i<2 ^ 62:=λf Q=>⟨(D.many f Q).1,(D.many f Q).2 (-1)⟩;cases aF
  .refine QE ?_;refine υ rfl ?_;refine Φ ?_;refine W.drop (h:=0) (σ':=[]) (ω _) (ω _) J rfl [(2,R 0),(3,R 0),(4,R 0),(5,R 11)] J ?_;refine W.rt ?_;exact .of J
  .refine W.draw (A:=[]) Τ mixed λt a=>VK ?_;refine Yl (Ν.p (Aj F (by have:=D.QC;omega) V D.count) (ZZ.refl _) J J) ?_;simp;(repeat (rw[Zf];simp));try rw[Zg]
   refine XL (a _ _ ?_);by_cases q:al=Vf F
   .refine υ (by simp[q]) ?_;refine Φ ?_;refine W.drop (h:=0) (σ':=[]) (ω _) (ω _) J rfl [(2,R 0),(3,R 0),(4,R 0),(5,R 11)] J ?_;refine W.rt ?_;exact .of (by simp[q])
   .refine χ (by simp[q]) ?_;refine Φ ?_;refine QE ?_;refine W.drop (h:=0) (σ':=[]) (ω _) (ω _) J rfl [(2,R aD),(3,R aE),(4,R al),(5,R 0)] J ?_;refine W.rt ?_;exact .of (by simp[q])
theorem zb (l:List Int) (B:l.length<2 ^ 30) :
  Δ prog 85 [.ms 0 l.length 0 l.length] [.cells 3 1 (l.map R)] (λr s=>(∃e k,r=.sl e k (l.map R)/\(l≠[]->k=1))/\s=[.cells 3 1 (l.map R)]) (λ_ _=>False):=by
 refine Δ.body Τ func85 rfl rfl ntmps85 rfl rfl J ?_;have o:l.length<=4294967295:=U;by_cases d:l=[]
 .subst d;refine Φ ?_;refine ZB λf b=>?_;intro j C;apply b;by_cases i:j=1
  .refine υ (by simp[i]) ?_;refine Φ ?_;exact W.ret ⟨_,rfl,⟨true,0,rfl,λh=>absurd rfl h⟩,rfl⟩
  .refine χ (by simp[i]) ?_
   repeat apply Ζ
   refine YR (A:=[5,7]) Τ λf b=>Z1 ?_;apply b;refine W.cut 1 (ZO _) [(2,.sl false 1 [])] J (λid r u c=>?_) (λp g=>?_) ?_
   .obtain rfl:id=0:=U
    simp at c;subst c;simp[X8]
   .obtain rfl:p=(2,.sl false 1 []):=by simpa using g
    exact Yu.own (id:=1) (t:=3) (ZO _) rfl J J
   .exact W.ret ⟨_,rfl,⟨false,1,rfl,λ_=>rfl⟩,rfl⟩
 .refine Φ ?_;refine XM d λf b=>?_;apply b;refine χ rfl ?_
  repeat apply Ζ
  have v:List.take l.length (l.map R)=l.map R:=TC J
  have w:l.length<=4294967296:=U;refine YR (A:=[5,7]) Τ λf b=>Xx (Ρ o (Ρ d (Ρ v w))) ?_;apply b;have m:∀e∈l.map R,∀a∈e.cells,Γ 1 a:=λe y a n=>by
   obtain⟨x,_,rfl⟩:=YK.1 y;simp[I.cells] at n;subst n;simp
  refine W.cut 1 (ZO _) [(2,.sl false 1 (l.map R))] J (λid r u c=>?_) (λp g=>?_) ?_
  .obtain rfl:id=0:=U
   simp at c;subst c;exact m
  .obtain rfl:p=(2,.sl false 1 (l.map R)):=by simpa using g
   exact Yu.own (id:=1) (t:=3) (ZO _) rfl J m
  .exact W.ret ⟨_,rfl,⟨false,1,rfl,λ_=>rfl⟩,rfl⟩
abbrev PV (k:List Int):I:=.Z9 (k.map R)
abbrev SE (e:List Int×Int):I×I:=(PV e.1,R e.2)
def MC (m:List (List Int×Int)):Prop:=∀e∈m,e.1.length=4
theorem za (x y:List Int) (e:x.length=4) (f:y.length=4):aeqv Z7 157 (PV x) (PV y)=some (decide (x=y)):=by
 match x,e,y,f with
 | [a,b,c,d],_,[g,h,c',i],_=>
  simp[aeqv,VO,Ur,PA]
def Vu:List (List Int×Int)->List Int->Int->List (List Int×Int)
 | [],k,v=>[(k,v)]
 | e::r,k,v=>if k=e.1 then(k,v)::r else e::Vu r k v
def OT:List (List Int×Int)->List Int->Option Int
 | [],_=>none
 | e::r,k=>if k=e.1 then some e.2 else OT r k
theorem y' (k:List Int) (l:k.length=4):∀(m:List (List Int×Int)) (d:Nat),MC m->(WK Z7 157 (PV k) (m.map SE) d=some none/\OT m k=none/\∀v,Vu m k v=m++[(k,v)])\/
  ∃i x,i<m.length/\WK Z7 157 (PV k) (m.map SE) d=some (some (d+i,R x))/\OT m k=some x/\∀v,Vu m k v=m.set i (k,v):=by
 intro m
 induction m with
 | nil=>intro d _;exact .inl ⟨rfl,rfl,λ_=>rfl⟩
 | cons e r n=>
  intro d f;have a:=za k e.1 l (f e J);by_cases h:k=e.1
  .refine .inr ⟨0,e.2,J,?_,by simp[OT,h],λv=>by simp[Vu,h]⟩;simp only[Xt,WK,a];simp[h]
  .have g:decide (k=e.1)=false:=by simpa using h
   rcases n (d+1) (λx o=>f x (by simp[o])) with⟨j,b,c⟩|⟨i,x,j,b,c,p⟩
   .refine .inl ⟨?_,by simp[OT,h,b],λv=>by simp[Vu,h,c]⟩;simp only[Xt,WK,a,g,cond_false];exact j
   .refine .inr ⟨i+1,x,by simp;omega,?_,by simp[OT,h,c],λv=>by simp[Vu,h,p]⟩;simp only[Xt,WK,a,g,cond_false];rw[b];have:d+1+i=d+(i+1):=U;rw[this]
theorem FB {m:List (List Int×Int)} (h:MC m) {k:List Int} (b:k.length=4) (v:Int):MC (Vu m k v):=by
 induction m with
 | nil=>intro e he;simp[Vu] at he;subst he;exact b
 | cons a r c=>
  intro e he;unfold Vu at he;split at he
  .rcases YZ.1 he with rfl|he
   .exact b
   .exact h e (by simp[he])
  .rcases YZ.1 he with rfl|he
   .exact h _ J
   .exact c (λx d=>h x (by simp[d])) e he
def SD (s:ο) (p r:Int×Int) (L:List Nat) (k:Nat):List Int:=((L.take k).map λx=>s.Yd p r x)++List.replicate (4-k) 0
theorem FA {s:ο} {p r:Int×Int} {L:List Nat} {k:Nat} (a:k<=L.length) (b:L.length<=4):(SD s p r L k).length=4:=by simp[SD];omega
theorem y9 {s:ο} {p r:Int×Int} {L:List Nat} {k:Nat} (b:k<L.length) (d:L.length<=4):(SD s p r L k).take k++s.Yd p r L[k]::(SD s p r L k).drop (k+1)=SD s p r L (k+1):=by
 have a:((L.take k).map λx=>s.Yd p r x).length=k:=by simp;omega
 have Χ:4-k=(4-(k+1))+1:=U;unfold SD;rw[List.take_left' a,List.drop_append,Nt U,a,UZ b,Xz,Χ,List.replicate_succ];have c:k+1-k=1:=U;rw[c];simp
abbrev N1:=Option (List (List Int×Int))
def N0 (m:N1) (k:List Int) (v:Int):N1:=m.bind λm=>match OT m k with|some x=>if x=v then some (Vu m k v) else none|none=>some (Vu m k v)
def Ui (s:ο) (f:Found) (a:Nat) (b:Bool) (L:List Nat) (m:N1) (j:Nat):N1:=(((f.cells[a]?).getD []).take j).foldl (λm r=>N0 m (SD s (f.u,f.v) r L L.length) (Uj b r)) m
def PU (s:ο) (F:List Found) (a:Nat) (b:Bool) (L:List Nat) (i:Nat):N1:=(F.take i).foldl (λm f=>Ui s f a b L m ((f.cells[a]?).getD []).length) (some [])
def Rs (s:ο) (F:List Found) (a:Nat) (b:Bool) (L:List Nat):Bool:=(PU s F a b L F.length).isSome
theorem y8 (s:ο) (f:Found) (a:Nat) (b:Bool) (L:List Nat) (m:N1) (j:Nat) (h:j<((f.cells[a]?).getD []).length):Ui s f a b L m (j+1)=N0 (Ui s f a b L m j) (SD s (f.u,f.v) ((f.cells[a]?).getD [])[j] L L.length) (Uj b ((f.cells[a]?).getD [])[j]):=by
 unfold Ui;rw[UZ h,Ql];rfl
theorem Fz (s:ο) (F:List Found) (a:Nat) (b:Bool) (L:List Nat) (i:Nat) (h:i<F.length):PU s F a b L (i+1)=Ui s F[i] a b L (PU s F a b L i) ((F[i].cells[a]?).getD []).length:=by
 unfold PU;rw[UZ h,Ql];rfl
theorem Fy (l:List (Int×Int)) (k:(Int×Int)->List Int) (v:Int×Int->Int):l.foldl (λm r=>N0 m (k r) (v r)) none=none:=by
 induction l with
 | nil=>rfl
 | cons a l b=>exact b
theorem y7 (s:ο) (F:List Found) (b:Nat) (c:Bool) (L:List Nat) {i j:Nat} (hi:i<F.length) (g:j<=((F[i].cells[b]?).getD []).length) (h:Ui s F[i] b c L (PU s F b c L i) j=none):Rs s F b c L=false:=by
 have d:Ui s F[i] b c L (PU s F b c L i) ((F[i].cells[b]?).getD []).length=none:=by
  unfold Ui at h ⊢;rw[LX]
  conv=>lhs;rw[<-OH j ((F[i].cells[b]?).getD [])]
  rw[Ql,h];exact Fy _ _ _
 rw[<-Fz s F b c L i hi] at d;unfold Rs;unfold PU at d ⊢;rw[LX]
 conv=>lhs;rw[<-OH (i+1) F]
 rw[Ql,d];have:∀l:List Found,(l.foldl (λm f=>Ui s f b c L m ((f.cells[b]?).getD []).length) none)=none:=λl=>by
  induction l with
  | nil=>rfl
  | cons a l e=>
   rw[List.foldl_cons];have:Ui s a b c L none ((a.cells[b]?).getD []).length=none:=by unfold Ui;exact Fy _ _ _
   rw[this];exact e
 rw[this];rfl
abbrev XR (L:List Nat):Row:=.cells 3 1 (L.map λn:Nat=>R n)
theorem Iy {h:Nat} {L:List Nat}:X8 h (XR L):=λe c a b=>by
 obtain⟨x,_,rfl⟩:=YK.1 c;simp[I.cells] at b;subst b;simp
theorem y6 (s:ο) (aD:s.small) (F:List Found) (am:Kj s F) (g:Nat) (aE:g<s.cells.length) (l:Bool) (L:List Nat) (ae:L.length<=4) (aF:∀x∈L,x<s.Β.length) :
  Δ prog 84 [Zd s,Y8 F,R g,ZQ l,.ms 0 L.length 0 L.length] [XR L] (λr σ=>r=ZQ (Rs s F g l L)/\σ=[XR L]) (λ_ _=>False):=by
 refine Δ.body Τ func84 rfl rfl ntmps84 rfl rfl J ?_;refine Φ ?_;have V:∀t:List (List Int×Int),∀r∈[XR L,.map (t.map SE)],X8 [XR L,.map (t.map SE)].length r:=λt r X=>by
  simp only[YZ,XY,or_false] at X;rcases X with rfl|rfl
  .exact Iy
  .intro e af;obtain⟨x,_,rfl⟩:=YK.1 af;simp
 refine W.iter (λx:Nat×List (List Int×Int)=>x.1<=F.length/\PU s F g l L x.1=some x.2/\MC x.2) (λ(i,_)=>[(2,R g),(3,ZQ l),(4,.ms 0 L.length 0 L.length),(5,ZW s),(11,.mp 1),(23,Y8 F),(24,R F.length),(25,R i)])
  (λ(_,t)=>[XR L,.map (t.map SE)]) (λx=>F.length-x.1) (0,[]) ⟨ω _,rfl,λe af=>by cases af⟩ rfl J (λx ag aG=>?_)
 obtain⟨i,t⟩:=x;obtain⟨hi,ah,an⟩:=ag;simp only at hi ah an ⊢;refine Φ ?_;by_cases E:i<F.length
 .refine υ (by simp[E]) ?_;have N:=Fz s F g l L i E;have O:=λj=>y7 s F g l L (i:=i) (j:=j) E;rw[ah] at N O;obtain⟨ao,ap⟩:=am.cells _ (YB E);generalize aH:F[i]=f at N O ao ap;have ai:g<f.cells.length:=by rw[ao];exact aE
  repeat apply Ζ
  refine YR (A:=[13]) Τ λH n=>Xx (Ρ E aH) ?_;apply n;refine W.Vw (σ0:=[XR L,.map (t.map SE)]) J (V _) J [(13,.Ε [R f.u,R f.v,Um f.cells]),(2,R g),(3,ZQ l),(4,.ms 0 L.length 0 L.length),(5,ZW s),(11,.mp 1),(23,Y8 F),(24,R F.length),(25,R i)] (by simp[WH,QL,TK]) ?_;refine μ ai ?_;have aq:(f.cells[g]?).getD []=f.cells[g]:=by simp[ai]
  rw[aq] at N O;have ar:=ap _ (YB ai);have aj:=y8 s f g l L (some t);rw[aq] at aj;generalize f.cells[g]=C at N ar aj O;obtain⟨aO,aI⟩:=ar;refine W.iter (λx:Nat×List (List Int×Int)=>x.1<=C.length/\Ui s f g l L (some t) x.1=some x.2/\MC x.2) (λ(j,_)=>[(2,R g),(3,ZQ l),(4,.ms 0 L.length 0 L.length),(5,ZW s),(11,.mp 1),(23,Y8 F),(24,R F.length),(25,R i),(13,.Ε [R f.u,R f.v,Um f.cells]),(33,Un C),(34,R C.length),(35,R j)])
   (λ(_,t)=>[XR L,.map (t.map SE)]) (λx=>C.length-x.1) (0,t) ⟨ω _,rfl,an⟩ rfl J (λx ag au=>?_)
  obtain⟨j,y⟩:=x;obtain⟨aJ,ak,P⟩:=ag;simp only at aJ ak P ⊢;refine Φ ?_;by_cases D:j<C.length
  .refine υ (by simp[D]) ?_;have M:=aj j D;rw[ak] at M;obtain⟨av,aw⟩:=aI _ (YB D);generalize X:C[j]=r at M av aw
   repeat apply Ζ
   refine YR (A:=[15]) Τ λH n=>Xx (Ρ D X) ?_;apply n;refine W.Vw (σ0:=[XR L,.map (y.map SE)]) J (V _) J [(15,.Ε [R r.1,R r.2]),(2,R g),(3,ZQ l),(4,.ms 0 L.length 0 L.length),(5,ZW s),(11,.mp 1),(23,Y8 F),(24,R F.length),(25,R i),(13,.Ε [R f.u,R f.v,Um f.cells]),(33,Un C),(34,R C.length),(35,R j)] (by simp[WH,QL,TK]) ?_
   repeat apply Ζ
   refine YR (A:=[16]) Τ λH n=>Z1 ?_;apply n;refine Φ ?_;refine W.iter (λk:Nat=>k<=L.length) (λk=>[(2,R g),(3,ZQ l),(4,.ms 0 L.length 0 L.length),(5,ZW s),(11,.mp 1),(23,Y8 F),(24,R F.length),(25,R i),(13,.Ε [R f.u,R f.v,Um f.cells]),(33,Un C),(34,R C.length),(35,R j),(15,.Ε [R r.1,R r.2]),(16,.Ο 2 1 0 0),(39,.ms 0 L.length 0 L.length),(40,R L.length),(41,R k)])
    (λk=>[XR L,.map (y.map SE),.cells 157 4 [PV (SD s (f.u,f.v) r L k)]]) (λk=>L.length-k) 0 (ω _) (by simp[SD]) J (λk aP ax=>?_)
   refine Φ ?_;by_cases I:k<L.length
   .refine υ (by simp[I]) ?_;have Y:(k:Int)<4:=U;have ay:k<=3:=U;have az:=y9 (s:=s) (p:=(f.u,f.v)) (r:=r) I ae;have o:=FA (s:=s) (p:=(f.u,f.v)) (r:=r) (St I) ae;have aK:=aF _ (YB I);obtain⟨K,n⟩:=Z8 (SD s (f.u,f.v) r L k);rw[<-n] at az o ⊢;refine μ (Ρ I (Ρ Y o)) ?_;refine XM (Ρ Y o) λH n=>?_;refine Ν.c (MG s aD (f.u,f.v) r L[k] aK av aw) (ZZ.refl _) J J ?_;simp[Y,ay,o];(repeat (rw[Μ];simp[Y,ay,o]));apply n;have aA:=YF I (show L.length<2 ^ 62 by omega);refine μ aA ?_;refine W.to (ax (k+1) I U) ?_ ?_
    .rw[<-az];simp
    .simp[aA]
   .have aL:k=L.length:=U
    subst aL;refine χ J ?_;refine W.exit rfl ?_;have o:=FA (s:=s) (p:=(f.u,f.v)) (r:=r) (ZO _) ae;obtain⟨K,n⟩:=Z8 (SD s (f.u,f.v) r L L.length);obtain⟨v,hv⟩:=Z8 (Uj l r);rw[<-n,<-hv] at M;rw[<-n] at o ⊢
    repeat apply Ζ
    refine W.P' (A:=[]) Τ [(2,R g),(3,ZQ l),(4,.ms 0 L.length 0 L.length),(5,ZW s),(11,.mp 1),(23,Y8 F),(24,R F.length),(25,R i),(13,.Ε [R f.u,R f.v,Um f.cells]),(33,Un C),(34,R C.length),(35,R j),(15,.Ε [R r.1,R r.2]),(16,.Ο 2 1 0 0),(19,R v)] ?_ (by
     rw[hv];cases l
     all_goals
      (try simp);(repeat (rw[Μ];simp));(try simp);refine Ν.d (IH _) (Z1 ?_);simp[Uj])
    clear ax hv;have aB:=YF D (show C.length<2 ^ 62 by omega);have aQ:To [XR L,.map (y.map SE),.cells 157 4 [PV K]] 1=true:=by simp[To]
    have Z:Tp Z7 157 (PV K)=true:=by
     match K,o with
     | [a,b,c,d],_=>simp[Tp,VO,Ur]
    have aa:List.take 4 (K.map R)=K.map R:=TC (by simp[o]);rcases y' K o y 0 P with⟨Q,ab,B⟩|⟨aR,x,aS,Q,ab,B⟩
    .have B:=B v
     have S:Ui s f g l L (some t) (j+1)=some (Vu y K v):=by rw[M];simp[N0,ab]
     (repeat (first|apply Ζ|(refine YH λH n=>?_;simp;(repeat (rw[Μ];simp[Q,Z,aa,o,-Tp]));apply n)));refine χ rfl ?_;(repeat (first|apply Ζ|(refine YH λH n=>?_;simp;(repeat (rw[Μ];simp[Q,Z,aa,o,-Tp]));apply n)));refine W.drop (h:=2) (σ':=[XR L,.map ((Vu y K v).map SE)]) J J (λid w T m=>X8.mono (V (Vu y K v) w (by
      match id,T,m with
      | 0,_,m=>simp at m;subst m;simp
      | 1,_,m=>simp[B] at m;subst m;simp[B])) J) (by simp[B]) [(2,R g),(3,ZQ l),(4,.ms 0 L.length 0 L.length),(5,ZW s),(11,.mp 1),(23,Y8 F),(24,R F.length),(25,R i),(13,.Ε [R f.u,R f.v,Um f.cells]),(33,Un C),(34,R C.length),(35,R ((j:Int)+1))] (by simp[WH,QL,TK,aB]) ?_
     refine W.to (au (j+1,Vu y K v) ⟨D,S,FB P o v⟩ (by simp only;omega)) rfl ?_;simp
    .have B:=B v;(repeat (first|apply Ζ|(refine YH λH n=>?_;simp;(repeat (rw[Μ];simp[Q,Z,aa,o,-Tp]));apply n)));by_cases ad:x=v
     .have S:Ui s f g l L (some t) (j+1)=some (Vu y K v):=by rw[M];simp[N0,ab,ad]
      refine χ (by simp[ad]) ?_;(repeat (first|apply Ζ|(refine YH λH n=>?_;simp;(repeat (rw[Μ];simp[Q,Z,aa,o,-Tp]));apply n)));refine W.drop (h:=2) (σ':=[XR L,.map ((Vu y K v).map SE)]) J J (λid w T m=>X8.mono (V (Vu y K v) w (by
       match id,T,m with
       | 0,_,m=>simp at m;subst m;simp
       | 1,_,m=>simp[B] at m;subst m;simp[B])) J) (by simp[B]) [(2,R g),(3,ZQ l),(4,.ms 0 L.length 0 L.length),(5,ZW s),(11,.mp 1),(23,Y8 F),(24,R F.length),(25,R i),(13,.Ε [R f.u,R f.v,Um f.cells]),(33,Un C),(34,R C.length),(35,R ((j:Int)+1))] (by simp[WH,QL,TK,aB]) ?_
      refine W.to (au (j+1,Vu y K v) ⟨D,S,FB P o v⟩ (by simp only;omega)) rfl ?_;simp
     .have S:Ui s f g l L (some t) (j+1)=none:=by rw[M];simp[N0,ab,ad]
      have al:=O (j+1) D S;rw[al];refine υ (by simp[ad]) ?_;refine Φ ?_;refine W.drop (h:=1) (σ':=[XR L]) J J (λid w T m=>by
       obtain rfl:id=0:=U;simp at m;subst m;exact Iy) rfl [(10,ZQ false)] J ?_
      exact W.ret ⟨_,rfl,rfl,rfl⟩
  .have aM:j=C.length:=U
   subst aM;have aC:=YF E (show F.length<2 ^ 62 by have:=am.QC;omega);refine χ J ?_;refine W.exit rfl ?_;refine μ aC ?_;refine W.to (aG (i+1,y) ⟨E,by rw[N];exact ak,P⟩ (by simp only;omega)) rfl ?_;simp[aC]
 .have aN:i=F.length:=U
  subst aN;have al:Rs s F g l L=true:=by unfold Rs;rw[ah];rfl
  rw[al];refine χ J ?_;refine W.exit rfl ?_;refine Φ ?_;refine W.drop (h:=1) (σ':=[XR L]) J J (λid w T m=>by
   obtain rfl:id=0:=U;simp at m;subst m;exact Iy) rfl [(10,ZQ true)] J ?_
  exact W.ret ⟨_,rfl,rfl,rfl⟩
end Go.TL
namespace Go.TL
open Go.Proofs.Tryz
open Go.Conc Go.Proofs
variable [ZS]
section
variable {P:Program} {Q:Value->Prop} {mn:Bool} {x:W'} {cs rest:List Frame} {H:Ψ} {b f c:Frame} {t:Array Value} {k:List Item} {fn:Func}
theorem Ω.getLoop {L:Nat} {r:Loop} (h:H.obj L=some (.loop r)) {K:Loop->Ψ->Prop} {E:Value->Ψ->Prop} (a:K r H):Ω P (Instr.getLoop L) H K E:=by
 unfold Instr.getLoop;refine Ω.bind' ?_;exact⟨_,h,rfl,Ω.pure' a⟩
theorem Ω.Ix {L:Nat} {r r':Loop} (h:H.obj L=some (.loop r)) {K:Unit->Ψ->Prop} {E:Value->Ψ->Prop} (a:K () (H.ZL L (.loop r'))):Ω P (setObj L (.loop r')) H K E:=
 ⟨⟨_,h⟩,rfl,rfl,Ω.pure' a⟩
abbrev Fx (st:LoopState) (b:Option Code) (f:FuncId) (t:Array Value) (c:Array Tmp) (a e:Code) (d:Nat):Loop:={state:=st,pending:=b,fn:=f,tmps:=t,params:=c,assign:=a,body:=e,defers:=d}
theorem ξ.rangeFunc (n:Seq x) (o:b.mode=.run) (p:b.roundOf=none) {fo:Operand} {i:Array Tmp} {assign body:Code} {g:FuncId} {f:Array Value} (r:ZX t fo=.func (.func g) #[] f) (s:Plain P g)
  (h:∀c a,H.fresh c->(H.ZL c (.deferred (some []))).fresh a->ξ P Q mn x (Frame.enter P g (#[.func (.yield a) #[] #[]]++f) .normal) ({Η b t (.inRangeFunc a::k) with defers:=⟨.collected c,#[]⟩::b.defers}::cs)
   ((H.ZL c (.deferred (some []))).ZL a (.loop (Fx .ready none b.fn t i assign body c)))) :
  ξ P Q mn x (Η b t (.code (.rangeFunc fo i assign body)::k)) cs H:=by
 refine .own n λw u=>?_;have y:Ω P (Instr.enterLoop b.fn t i assign body none) H (λv H'=>∃c a,H.fresh c/\(H.ZL c (.deferred (some []))).fresh a/\v=(a,[⟨.collected c,#[]⟩])/\H'=(H.ZL c (.deferred (some []))).ZL a (.loop (Fx .ready none b.fn t i assign body c))) (λ_ _=>False):=by
  unfold Instr.enterLoop;refine Ω.bind' (λc j=>Ω.pure' (Ω.bind' (Ω.pure' ?_)));refine Ω.bind' (λa l=>Ω.pure' (Ω.pure' ?_));exact⟨c,a,j,l,rfl,rfl⟩
 obtain⟨H',w',es',A,B⟩:=Ω.sound (P:=P) (G0:=H) (w0:=w) _ y (YA.start u);rcases B with⟨v,m,c,a,j,l,rfl,rfl⟩|⟨v,m,C⟩
 .refine⟨_,_,w',seen P b.fn es',_,?_,A.sub λe D=>mem_seen D,h c a j l⟩;have E:∀F:Frame,F.tmps=t->resolve F.eval {callee:=.value fo,args:=#[.const (.func (.yield a) #[] #[])],argTypes:=#[]} 0=Deferred.ofValue (.func (.func g) #[] f) #[.func (.yield a) #[] #[]]:=λF I=>by
   have:F.eval fo=.func (.func g) #[] f:=by rw[<-r,<-I];cases fo<;>rfl
   unfold resolve;simp only;rw[this];simp[Frame.eval]
  have J:((do let d <-Deferred.ofValue (.func (.func g) #[] f) #[.func (.yield a) #[] #[]];invoke d.target d.args:Sem Next)).runT P w' #[]=(.ok (.enter g (#[.func (.yield a) #[] #[]]++f)) w',#[]):=by
   have:=s.enter (#[.func (.yield a) #[] #[]]++f) w';simpa[Deferred.ofValue,invoke] using this
  rw[V4 o];unfold stepG.exec;simp only[Η,p,m];rw[E _ rfl];unfold stepG.apply;simp only[if_true,J];simp[GStep.after,Go.Conc.G,Η,seen_none]
 .exact C.elim
theorem ξ.Fw (d:Seq x) (f:b.mode=.run) {L:Nat} {r:Loop} (a:H.obj L=some (.loop r)) (g:r.state≠.busy)
  (h:ξ P Q mn x (Η b t ((r.pending.map Item.code).toList++k)) cs (H.ZL L (.loop {r with state:=.exhausted}))):ξ P Q mn x (Η b t (.endRangeFunc L::k)) cs H:=by
 refine .own d λw i=>?_;have j:Ω P (Instr.endLoop L) H (λv H'=>v=r.pending/\H'=H.ZL L (.loop {r with state:=.exhausted})) (λ_ _=>False):=by
  unfold Instr.endLoop;refine Ω.bind' (Ω.getLoop a ?_);have e:(r.state==.busy)=false:=by cases l:r.state<;>first|rfl|exact absurd l g
  simp only[e,Xu,if_false];exact Ω.bind' (Ω.Ix a (Ω.pure' ⟨rfl,rfl⟩))
 obtain⟨H',w',es',m,n⟩:=Ω.sound (P:=P) (G0:=H) (w0:=w) _ j (YA.start i);rcases n with⟨v,c,rfl,rfl⟩|⟨v,c,o⟩
 .refine⟨_,_,w',seen P b.fn es',_,?_,m.sub λe p=>mem_seen p,h⟩;rw[V4 f];unfold stepG.exec;simp only[Η,c];simp[GStep.after,Go.Conc.G]
 .exact o.elim
theorem ξ.beginRound (g:Seq x) (i:b.mode=.run) {L:Nat} (j:b.roundOf=some L) {r:Loop} (a:H.obj L=some (.loop r)) (l:r.state=.ready)
  (h:ξ P Q mn x (Η b t k) cs (H.ZL L (.loop {r with state:=.busy}))):ξ P Q mn x (Η b t (.beginRound::k)) cs H:=by
 refine .own g λw m=>?_;have n:Ω P (Instr.beginRound L) H (λ_ H'=>H'=H.ZL L (.loop {r with state:=.busy})) (λ_ _=>False):=by
  unfold Instr.beginRound;refine Ω.bind' (Ω.getLoop a (Ω.bind' (Ω.Ix a ?_)));rw[l];exact Ω.pure' rfl
 have o:Ω P (do Instr.beginRound L;pure Next.skip:Sem Next) H (λv H'=>v=.skip/\H'=H.ZL L (.loop {r with state:=.busy})) (λ_ _=>False):=
  Ω.bind' (Ω.mono (λ_ _ e=>Ω.pure' ⟨rfl,e⟩) (λ_ _ h=>h) _ n)
 obtain⟨H',w',es',p,s⟩:=Ω.sound (P:=P) (G0:=H) (w0:=w) _ o (YA.start m);rcases s with⟨v,c,rfl,rfl⟩|⟨v,c,u⟩
 .generalize d:(if b.kind==.early then #[] else es')=f;have y:∀e∈seen P b.fn f,e∈es':=λe A=>by
   have:=mem_seen A;rw[<-d] at this;split at this
   .simp at this
   .exact this
  refine⟨_,_,w',seen P b.fn f,_,?_,p.sub y,h⟩;rw[V4 i];unfold stepG.exec;simp only[Η,j,Option.elim];unfold stepG.apply;simp only[if_true,c];rw[d];simp[GStep.after,Go.Conc.G,Frame.finish]
 .exact u.elim
theorem ξ.endRound (l:Seq x) (m:b.mode=.run) {L:Nat} (f:b.roundOf=some L) (g:b.kind=.normal) {r:Loop} (j:H.obj L=some (.loop r)) {jump:Option Code} (n:(jump=none/\k=[])\/(jump=some .ret/\∃a,k=.code .ret::a)\/∃id a,jump=some (.exit id)/\k=.code (.exit id)::a/\exitTo id a=none)
  (h:ξ P Q mn x (c.finish (.bool jump.isNone)) rest (H.ZL L (.loop {r with state:=if jump.isNone then .ready else .done,pending:=jump}))):ξ P Q mn x (Η b t k) (c::rest) H:=by
 refine .own l λw o=>?_;have p:Ω P (Instr.endRound L jump) H (λv H'=>v=.bool jump.isNone/\H'=H.ZL L (.loop {r with state:=if jump.isNone then .ready else .done,pending:=jump})) (λ_ _=>False):=by
  unfold Instr.endRound;exact Ω.bind' (Ω.getLoop j (Ω.bind' (Ω.Ix j (Ω.pure' ⟨rfl,rfl⟩))))
 obtain⟨H',w',es',s,u⟩:=Ω.sound (P:=P) (G0:=H) (w0:=w) _ p (YA.start o);rcases u with⟨v,d,rfl,rfl⟩|⟨v,d,y⟩
 .refine⟨_,_,w',seen P b.fn es',_,?_,s.sub λe i=>mem_seen i,h⟩;rw[V4 m];unfold stepG.exec;rcases n with⟨rfl,rfl⟩|⟨rfl,a,rfl⟩|⟨id,a,rfl,rfl,i⟩
  .simp only[Η,f,d];simp[GStep.after,Go.Conc.G,doReturn,g]
  .simp only[Η,f,d];simp[GStep.after,Go.Conc.G,doReturn,g]
  .simp only[Η,f,i,Option.elim,d];simp[GStep.after,Go.Conc.G,doReturn,g]
 .exact y.elim
theorem ξ.collected (c:Seq x) (d:f.mode=.returning) {r:Nat} {ds:List Deferred} (hd:f.defers=⟨.collected r,#[]⟩::ds) (a:H.obj r=some (.deferred (some [])))
  (h:ξ P Q mn x {f with defers:=ds} cs (H.ZL r (.deferred none))):ξ P Q mn x f cs H:=by
 refine .own c λw g=>?_;have i:Ω P (Instr.takeDeferred r) H (λv H'=>v=[]/\H'=H.ZL r (.deferred none)) (λ_ _=>False):=by
  unfold Instr.takeDeferred;refine Ω.bind' ?_;exact⟨_,a,rfl,Ω.pure' (Ω.bind' ⟨⟨_,a⟩,rfl,rfl,Ω.pure' (Ω.pure' ⟨rfl,rfl⟩)⟩)⟩
 obtain⟨H',w',es',j,k⟩:=Ω.sound (P:=P) (G0:=H) (w0:=w) _ i (YA.start g);rcases k with⟨v,b,rfl,rfl⟩|⟨v,b,l⟩
 .refine⟨_,_,w',seen P f.fn es',_,?_,j.sub λe m=>mem_seen m,h⟩;rw[Oo (by rw[d];simp)];unfold unwind;simp only[hd,b];simp[GStep.after,Go.Conc.G]
 .exact l.elim
end
end Go.TL
namespace Go.TL
open Go.Proofs.Tryz
open Go.Conc
open Go.ConcM (OsLater)
open Go.ConcN (sumTo upd sumTo_upd upd_ne upd_same sumTo_congr le_sumTo)
open Go.ConcR (mk)
variable [ZS]
theorem Xd {b:Frame} (a:b.mode=.run) (c:b.roundOf=none) (t:Array Value) (k:List Item):Η b t k=b.at ⟨t,b.defers⟩ k:=by
 obtain⟨fn,d,td,e,f,g,h⟩:=b;simp only at a c;subst a;subst c;rfl
theorem PT (o:Oper) (t:Array Value) (ds:List Deferred) (v:Value):(⟨t,ds⟩:_root_.Go.Act).put o.dst v=⟨put o t v,ds⟩:=by
 unfold _root_.Go.Act.put put;cases o.dst<;>rfl
theorem UF (t:Array Value) (ds:List Deferred):(⟨t,ds⟩:_root_.Go.Act).eval=ZX t:=by funext o;cases o<;>rfl
def Entry (P:Program) (f:FuncId) (e:Array Value->Sem Value):Prop:=∃fn,P.funcs[f]?=some fn/\(fn.name == "runtime.NumGoroutine")=false/\fn.body.isNone=true/\Extern.findNext fn=none/\Extern.find fn=some e
structure Uh (b:Frame) (ops:Array Oper) (i:Nat) (op:Oper):Prop where
 run:b.mode=.run
 ro:b.roundOf=none
 kd:b.kind≠.early
 op:ops[i]?=some op
def Yc (x:γ):Prop:=x.rel=false\/∃s,¬Gone (x.tok s)
theorem Yc.ok {P:Program} {g:Goroutine} {x:γ} (h:Yc x):Nd P g x:=λa b=>by
 rcases h with h|⟨s,h⟩
 .rw[h] at a;cases a
 .exact absurd (b s) h
def one (x:γ):W':=λy=>y=x
@[reducible] def Yo:ZS:=⟨λ_=>True⟩
theorem Seq.PS {x:γ} (a:ZS.q (one x)) (b:x.rel=false) (hv:x.η=λ_=>none):Seq (one x):=⟨a,λy h=>by cases h;exact b,λy h=>by cases h;exact hv⟩
theorem Seq.here {x:γ} (h:Seq (one x)):Yc x:=.inl (h.rel x rfl)
section
variable {P:Program} {Q:Value->Prop} {mn:Bool} {x:γ} {b:Frame} {cs:List Frame} {nt:Nat} {o:Base} {k:List Item} {env:Ι} {σ:Υ} {S:Α} {B:θ} {H:Ψ} {t:Array Value}
variable {ops:Array Oper} {i:Nat} {rest:List Nat} {op:Oper} {f:FuncId} {e:Array Value->Sem Value} {args:Array Operand} {MB:Array TypeId} {w w':World}
theorem Ki (j:Entry P f e) (c:Uh b ops i op) (l:Region.wanted op (yielded ops t)=true) (m:op.op=.call ⟨.value (.func f),args,MB⟩) {vs:Array Value} (h:args.map (ZX t)=vs) {v:Value} {d:Array Event}
  (n:(e vs).run P w=.ok v w') (o:(e vs).events P w #[⟨.mark (Mark.extern f),false,true⟩]=#[⟨.mark (Mark.extern f),false,true⟩]++d) (p:∀y∈d,y.sync=true/\∀g,y.loc≠.mark (Mark.extern g)) :
  stepG P mn (Go.Conc.G (Η b t (.inRegion ops (i::rest)::k)) cs) w=.go (Go.Conc.G (Η b (put op t v) (.inRegion ops rest::k)) cs) w' d:=by
 obtain⟨fn,r,s,u,x,A⟩:=j;rw[Xd c.run c.ro,Xd c.run c.ro,<-PT];exact stepG_entry (a:=⟨t,b.defers⟩) c.op l c.kd m r s u x A (by rw[UF,h];exact n) (by rw[UF,h];exact o) p
theorem y5 (d:Entry P f e) (c:Uh b ops i op) (g:Region.wanted op (yielded ops t)=true) (h:op.op=.call ⟨.value (.func f),args,MB⟩) {vs:Array Value} (j:args.map (ZX t)=vs)
  (l:(e vs).run P w=.halt .blocked w') :
  stepG P mn (Go.Conc.G (Η b t (.inRegion ops (i::rest)::k)) cs) w=.go {Go.Conc.G (Η b t (.inRegion ops (i::rest)::k)) cs with status:=.blocked} w' #[]:=by
 obtain⟨fn,m,n,o,p,r⟩:=d;rw[Xd c.run c.ro];exact stepG_entry_blocked (a:=⟨t,b.defers⟩) c.op g h m n o p r (by rw[UF,j];exact l)
theorem Fv (d:Entry P f e) (a:Uh b ops i op) (g:op.op=.call ⟨.value (.func f),args,MB⟩):mayWake P (Go.Conc.G (Η b t (.inRegion ops (i::rest)::k)) cs)=true:=by
 obtain⟨fn,h,m,j,n,o⟩:=d;have l:fn.body=none:=by simpa using j
 have c:(Η b t (.inRegion ops (i::rest)::k)).eval (.func f)=.func (.func f) #[] #[]:=rfl;simp[mayWake,Go.Conc.G,Η,a.run,a.op,g] at c ⊢;simp[c,h,l]
def MA (env:Ι) (args:Array Operand) (vs:List Value):Prop:=args.toList.map (π env)=vs.map I.z
theorem Kh (a:YS S B σ env t) {y:Operand} {v:Value} (h:π env y=.z v):ZX t y=v:=by
 have:=UN a y;rw[h] at this;generalize ZX t y=u at this;cases this;rfl
theorem MA.ZX (a:YS S B σ env t) {vs:List Value} (h:MA env args vs):args.map (ZX t)=vs.toArray:=by
 apply OA;rw[Array.toList_map];have:∀(l:List Operand) (vs:List Value),l.map (π env)=vs.map I.z->l.map (Go.TL.ZX t)=vs:=by
  intro l
  induction l with
  | nil=>intro vs h;cases vs with
   | nil=>rfl
   | cons=>cases h
  | cons y l b=>
   intro vs h;cases vs with
   | nil=>cases h
   | cons v vs=>
    simp only[Xt,List.cons.injEq] at h ⊢;exact⟨Kh a h.1,b vs h.2⟩
 exact this _ _ h
theorem Kg (m:Mark):((λ_=>do mark m;pure Extern.Race.none_:Array Value->Sem Value) #[]).run P w=.ok (.tuple #[]) w:=by simp[Extern.Race.none_]
theorem Kf (m:Mark) (es:Array Event):((λ_=>do mark m;pure Extern.Race.none_:Array Value->Sem Value) #[]).events P w es=es.push ⟨.mark m,false,true⟩:=J
theorem NZ (m:Addr->Mark) (a:Addr):(Extern.Race.marked m #[.pointer (some a)]).run P w=.ok (.tuple #[]) w:=by simp[Extern.Race.marked,Extern.Race.at_,Extern.Race.none_]
theorem NY (m:Addr->Mark) (a:Addr) (es:Array Event):(Extern.Race.marked m #[.pointer (some a)]).events P w es=es.push ⟨.mark (m a),false,true⟩:=by simp[Extern.Race.marked,Extern.Race.at_]
theorem Rr {m:Mark} (b:∀g,m≠Mark.extern g):∀y∈(#[⟨.mark m,false,true⟩]:Array Event),y.sync=true/\∀g,y.loc≠.mark (Mark.extern g):=by
 intro y a;simp at a;subst a;exact⟨rfl,λg h=>b g (by cases h;rfl)⟩
structure W7 (P:Program) (b:Frame) (ops:Array Oper) (i:Nat) (op:Oper) (f:FuncId) (e:Array Value->Sem Value) (args:Array Operand) (env:Ι) (vs:List Value) (nt:Nat):Prop where
 at_:Uh b ops i op
 Uo:Entry P f e
 call:∃MB,op.op=.call ⟨.value (.func f),args,MB⟩
 want:X7 env ops op=some true
 dst:W9 nt op=true
 Mz:MA env args vs
theorem W7.step {vs:List Value} (h:W7 P b ops i op f e args env vs nt) (c:YS S B σ env t) {v:Value} {a:Array Event} (d:(e vs.toArray).run P w=.ok v w')
  (j:(e vs.toArray).events P w #[⟨.mark (Mark.extern f),false,true⟩]=#[⟨.mark (Mark.extern f),false,true⟩]++a) (l:∀y∈a,y.sync=true/\∀g,y.loc≠.mark (Mark.extern g)) :
  stepG P mn (Go.Conc.G (Η b t (.inRegion ops (i::rest)::k)) cs) w=.go (Go.Conc.G (Η b (put op t v) (.inRegion ops rest::k)) cs) w' a:=
 let ⟨_,m⟩:=h.call
 Ki h.Uo h.at_ (Vz c h.want) m (h.Mz.ZX c) d j l
abbrev Tc:I:=.z (.tuple #[])
theorem V.disable (c:Yc x) (h:W7 P b ops i op f (λ_=>do mark .disable;pure Extern.Race.none_) args env [] nt) (d:V P Q mn (one {x with deaf:=x.deaf+1}) b cs nt o (.inRegion ops rest::k) (ZE op env Tc) σ):V P Q mn (one x) b cs nt o (.inRegion ops (i::rest)::k) env σ:=
 λS B H t e a y g=>by
 cases g;exact Goes.step c.ok (.inr ⟨⟨rfl,rfl⟩,.inr (.inl ⟨Go.Conc.G (Η b (put op t (.tuple #[])) (.inRegion ops rest::k)) cs,⟨rfl,rfl⟩,.inl λw _=>
  ⟨h.step a.Zr (Kg .disable) (Kf .disable _) (Rr J),d S B H _ e (a.put h.dst (.z _)) _ rfl⟩⟩)⟩)
theorem V.enable (c:Yc x) (hd:0<x.deaf) (h:W7 P b ops i op f (λ_=>do mark .enable;pure Extern.Race.none_) args env [] nt) (d:V P Q mn (one {x with deaf:=x.deaf-1}) b cs nt o (.inRegion ops rest::k) (ZE op env Tc) σ):V P Q mn (one x) b cs nt o (.inRegion ops (i::rest)::k) env σ:=
 λS B H t e a y g=>by
 cases g;exact Goes.step c.ok (.inr ⟨⟨rfl,rfl⟩,.inr (.inl ⟨Go.Conc.G (Η b (put op t (.tuple #[])) (.inRegion ops rest::k)) cs,⟨rfl,rfl⟩,.inr ⟨hd,λw _=>
  ⟨h.step a.Zr (Kg .enable) (Kf .enable _) (Rr J),d S B H _ e (a.put h.dst (.z _)) _ rfl⟩⟩⟩)⟩)
theorem V.y4 (c:x.rel=false) {s d n p:Nat} {a:Q2} (g:x.tok s=.par n p a) (j:a≠.Z4) (h:W7 P b ops i op f (Extern.Race.marked .read) args env [.pointer (some ⟨s,d,none⟩)] nt) (l:V P Q mn (one x) b cs nt o (.inRegion ops rest::k) (ZE op env Tc) σ):V P Q mn (one x) b cs nt o (.inRegion ops (i::rest)::k) env σ:=
 λS B H t m e y r=>by
 cases r;exact Goes.step (Yc.ok (.inl c)) (.inr ⟨⟨rfl,rfl⟩,.inr (.inr (.inl ⟨s,n,p,a,Go.Conc.G (Η b (put op t (.tuple #[])) (.inRegion ops rest::k)) cs,d,false,g,j,c,⟨rfl,rfl⟩,λw _=>
  ⟨h.step e.Zr (NZ .read _) (NY .read _ _) (Rr J),l S B H _ m (e.put h.dst (.z _)) _ rfl⟩⟩))⟩)
theorem V.y3 (c:x.rel=false) {s d n p:Nat} {a:Q2} (g:x.tok s=.par n p a) (j:a≠.Z4) (h:W7 P b ops i op f (Extern.Race.marked .write) args env [.pointer (some ⟨s,d,none⟩)] nt) (l:V P Q mn (one x) b cs nt o (.inRegion ops rest::k) (ZE op env Tc) σ):V P Q mn (one x) b cs nt o (.inRegion ops (i::rest)::k) env σ:=
 λS B H t m e y r=>by
 cases r;exact Goes.step (Yc.ok (.inl c)) (.inr ⟨⟨rfl,rfl⟩,.inr (.inr (.inl ⟨s,n,p,a,Go.Conc.G (Η b (put op t (.tuple #[])) (.inRegion ops rest::k)) cs,d,true,g,j,c,⟨rfl,rfl⟩,λw _=>
  ⟨h.step e.Zr (NZ .write _) (NY .write _ _) (Rr J),l S B H _ m (e.put h.dst (.z _)) _ rfl⟩⟩))⟩)
theorem V.LB (a:x.rel=false) (hd:x.deaf=0) {s m n:Nat} {sp:Spec} (d:x.spec s=some sp) (e:sp.Z0=some m) (g:x.tok s=.ch n .own .work) (h:W7 P b ops i op f (Extern.Race.marked .acquire) args env [.pointer (some ⟨m,0,none⟩)] nt)
  (j:∀(S:Α) (B:θ) (H:Ψ) (t:Array Value) (L:List Nat) (E:Ψ),Ye o.m o.S o.B o.H o.σ S B H σ->XN o.m nt S B H σ (ZE op env Tc) t->sp.Yi L E->Apart H E->(L.Nodup/\n∉L/\∃w,Fits H w/\Fits E w)->
   Zq P Q mn {x with tok:=upd x.tok s (.ch n (.YT L) .work),view:=upd x.view s none} (Η b t (.inRegion ops rest::k)) cs (join H E)):V P Q mn (one x) b cs nt o (.inRegion ops (i::rest)::k) env σ:=
 λS B H t l c y p=>by
 cases p;exact Goes.step (Yc.ok (.inl a)) (.inr ⟨⟨rfl,rfl⟩,.inr (.inr (.inr (.inr (.inl ⟨s,sp,m,n,Go.Conc.G (Η b (put op t (.tuple #[])) (.inRegion ops rest::k)) cs,d,e,g,hd,⟨rfl,rfl⟩,a,λw _=>
  h.step c.Zr (NZ .acquire _) (NY .acquire _ _) (Rr J),λL E r u v=>j S B H _ L E l (c.put h.dst (.z _)) r u v⟩))))⟩)
theorem V.Jn (a:x.rel=false) (hd:x.deaf=0) {s m n:Nat} {L:List Nat} {sp:Spec} (d:x.spec s=some sp) (e:sp.Z0=some m) (g:x.tok s=.ch n (.YT L) .work) (h:W7 P b ops i op f (Extern.Race.marked .releaseMerge) args env [.pointer (some ⟨m,0,none⟩)] nt)
  (j:∀(S:Α) (B:θ) (H:Ψ) (t:Array Value),Ye o.m o.S o.B o.H o.σ S B H σ->XN o.m nt S B H σ (ZE op env Tc) t->∃H' E,Split H H' E/\sp.Yi (L++[n]) E/\
   Zq P Q mn {x with tok:=upd x.tok s (.ch n .fin .work),view:=upd x.view s none} (Η b t (.inRegion ops rest::k)) cs H'):V P Q mn (one x) b cs nt o (.inRegion ops (i::rest)::k) env σ:=
 λS B H t l c y p=>by
 cases p;obtain⟨H',E,r,u,v⟩:=j S B H _ l (c.put h.dst (.z (.tuple #[])));exact Goes.step (Yc.ok (.inl a)) (.inr ⟨⟨rfl,rfl⟩,.inr (.inr (.inr (.inr (.inr (.inl ⟨s,sp,m,n,L,Go.Conc.G (Η b (put op t (.tuple #[])) (.inRegion ops rest::k)) cs,H',E,d,e,g,hd,⟨rfl,rfl⟩,a,λw _=>
  h.step c.Zr (NZ .releaseMerge _) (NY .releaseMerge _ _) (Rr J),r,u,v⟩)))))⟩)
theorem V.LA (j:x.rel=false) (hd:x.deaf=0) {s n:Nat} {d:Q2} {sp:Spec} (p:x.spec s=some sp) (r:x.tok s=.par n 0 d) (u:d=.Ty\/d=.w4) (h:W7 P b ops i op f (Extern.Race.marked .acquire) args env [.pointer (some ⟨s,0,none⟩)] nt)
  (v:∀(S:Α) (B:θ) (H:Ψ) (t:Array Value) (e g:List Nat) (c a:Ψ),Ye o.m o.S o.B o.H o.σ S B H σ->XN o.m nt S B H σ (ZE op env Tc) t->
   e.Perm (List.range n)->UR sp.D e c->(sp.Z0≠none->g.Perm (List.range n)/\sp.Yi g a)->(sp.Z0=none->a=Ψ.empty)->Apart H c->Apart H a->Apart c a->(∃w,Fits H w/\Fits c w/\Fits a w)->
   Zq P Q mn {x with tok:=upd x.tok s (.par n 0 .Z4),view:=upd x.view s none} (Η b t (.inRegion ops rest::k)) cs (join (join H c) a)):V P Q mn (one x) b cs nt o (.inRegion ops (i::rest)::k) env σ:=
 λS B H t A l y C=>by
 cases C;exact Goes.step (Yc.ok (.inl j)) (.inr ⟨⟨rfl,rfl⟩,.inr (.inr (.inr (.inr (.inr (.inr (.inr (.inl ⟨s,sp,n,d,Go.Conc.G (Η b (put op t (.tuple #[])) (.inRegion ops rest::k)) cs,p,r,u,hd,⟨rfl,rfl⟩,j,λw _=>
  h.step l.Zr (NZ .acquire _) (NY .acquire _ _) (Rr J),λe g c a E F I K L M N O=>v S B H _ e g c a A (l.put h.dst (.z _)) E F I K L M N O⟩)))))))⟩)
theorem V.atomic (A:Yc x) {s:Nat} {sp:Spec} (C:x.spec s=some sp) (D:¬Xy (x.tok s)) (hd:W9 nt op=true) (E:X7 env ops op=some true)
  (h:∀(t:Array Value) (w:World) (φ:Nat) (a:ν),(∀y u,π env y=.z u->ZX t y=u)->(∀(as9:Array Operand) (vs:List Value),MA env as9 vs->as9.map (ZX t)=vs.toArray)->Region.wanted op (yielded ops t)=true->a.toSpec=sp->At s a w->Jw x s φ a->Pr a (x.tok s)->
   (∃v w' e,stepG P mn (Go.Conc.G (Η b t (.inRegion ops (i::rest)::k)) cs) w=.go (Go.Conc.G (Η b (put op t v) (.inRegion ops rest::k)) cs) w' e/\XP (λF _=>Ys s sp F) (λ_=>False) w w'/\SW s sp x.deaf e/\
    ((At s a w'/\V P Q mn (one {x with view:=upd x.view s (some (φ,a))}) b cs nt o (.inRegion ops rest::k) (ZE op env (.z v)) σ)\/
     ∃o' t',Act a (x.tok s) o' t'/\At s o' w'/\(mayWake P (Go.Conc.G (Η b t (.inRegion ops (i::rest)::k)) cs)=true\/o'=a)/\∀d,d<φ->V P Q mn (one {x with tok:=upd x.tok s t',view:=upd x.view s (some (d,o'))}) b cs nt o (.inRegion ops rest::k) (ZE op env (.z v)) σ))\/
   (VA a (x.tok s)/\(∀p,p≠s->TS (x.tok p))/\stepG P mn (Go.Conc.G (Η b t (.inRegion ops (i::rest)::k)) cs) w=.go {Go.Conc.G (Η b t (.inRegion ops (i::rest)::k)) cs with status:=.blocked} w #[])) :
  V P Q mn (one x) b cs nt o (.inRegion ops (i::rest)::k) env σ:=by
 intro S B H t r c y f;cases f;refine Goes.step A.ok (.inr ⟨⟨rfl,rfl⟩,.inr (.inr (.inr (.inl ⟨s,sp,C,D,λw φ a U hv I J K L=>?_⟩)))⟩);rcases h t w φ a (λy u f=>Kh c.Zr f) (λas9 vs M=>M.ZX c.Zr) (Vz c.Zr E) I J K L with⟨v,w',e,g,j,l,N⟩|⟨g,j,l⟩
 .refine .inl ?_;rw[g];refine⟨⟨rfl,rfl⟩,j,l,?_⟩;rcases N with⟨m,n⟩|⟨o',t',m,n,O,R⟩
  .exact .inl ⟨m,n S B H _ r (c.put hd (.z _)) _ rfl⟩
  .exact .inr ⟨o',t',m,n,O,λd T=>R d T S B H _ r (c.put hd (.z _)) _ rfl⟩
 .exact .inr ⟨g,j,l⟩
theorem Fu {b h:Nat} {c:Array Value} {k:TypeId} (f:w.heap[b]?=some (.cells c k (0,0))) (v:Value) {j:Nat->Nat->Prop} (l:∀o,j b o):XP j (λ_=>False) w (w.setCell ⟨b,h,none⟩ v):=by
 have g:=heap_setCell (w:=w) (a:=⟨b,h,none⟩) (v:=v) rfl f
 have m:=XO f
 have n:(w.setCell ⟨b,h,none⟩ v).os=w.os:=rfl;refine⟨by rw[g];simp,λi c' t' s d=>?_,λi y d p _=>?_,by rw[n];exact OsLater.refl _,rfl,rfl⟩
 .by_cases e:i=b
  .subst e;rw[f] at d;cases d;exact⟨_,by rw[g,T5 m],J,λo' r=>absurd (l o') r⟩
  .exact⟨c',by rw[g,Vp (Y2 e)];exact d,rfl,λ_ _=>rfl⟩
 .have e:b≠i:=λe=>by subst e;rw[f] at d;cases d;cases p
  rw[g,Vp e];exact d
section
variable {s m:Nat} {XQ o':ν}
theorem At.ne (h:At s XQ w) (b:XQ.Z0=some m):m≠s:=λe=>by
 obtain⟨⟨f,c⟩,d⟩:=h;obtain⟨g,a⟩:=d m b;subst e;rw[c] at a;simp at a
theorem At.mu (h:At s XQ w) (a:XQ.Z0=some m):∃b,w.heap[m]?=some (.cells #[.int .i32 (mwd XQ),.int .u32 XQ.YM] b (0,0)):=h.2 m a
theorem At.R9 (h:At s XQ w) (a:XQ.Z0=some m):w.cell? ⟨m,0,none⟩=some (.int .i32 (mwd XQ)):=let ⟨_,b⟩:=h.mu a;TA b rfl
theorem At.Ft (h:At s XQ w) (a:XQ.Z0=some m):w.cell? ⟨m,1,none⟩=some (.int .u32 XQ.YM):=let ⟨_,b⟩:=h.mu a;TA b rfl
theorem At.TR (h:At s XQ w):w.cell? ⟨s,0,none⟩=some (.int .u64 (Zc XQ)):=let ⟨_,a⟩:=h.1;TA a rfl
theorem At.Ke (h:At s XQ w):w.cell? ⟨s,1,none⟩=some (.int .u32 XQ.Y5):=let ⟨_,a⟩:=h.1;TA a rfl
theorem Fs {a b:Nat} {c:Array Value} {d:TypeId} (e:w.heap[a]?=some (.cells c d (0,0))):w.frozen? ⟨a,b,none⟩=false:=by
 simp[World.frozen?,e]
theorem At.NX (h:At s XQ w) (a:XQ.Z0=some m) (b:Nat):w.frozen? ⟨m,b,none⟩=false:=let ⟨_,c⟩:=h.mu a;Fs c
theorem At.PR (h:At s XQ w) (a:Nat):w.frozen? ⟨s,a,none⟩=false:=let ⟨_,b⟩:=h.1;Fs b
theorem At.Kd (h:At s XQ w) (b:XQ.Z0=some m) (g:o'.Z0=XQ.Z0) (i:Zc o'=Zc XQ) (j:o'.Y5=XQ.Y5) {c:Nat} {v:Value} (hv:(#[.int .i32 (mwd XQ),.int .u32 XQ.YM]:Array Value).setIfInBounds c v=#[.int .i32 (mwd o'),.int .u32 o'.YM]):At s o' (w.setCell ⟨m,c,none⟩ v):=by
 have k:=h.ne b;obtain⟨l,d⟩:=h.mu b;obtain⟨⟨n,o⟩,p⟩:=h;have e:=heap_setCell (w:=w) (a:=⟨m,c,none⟩) (v:=v) rfl d;refine⟨⟨n,?_⟩,λr f=>⟨l,?_⟩⟩
 .rw[e,Vp k,i,j];exact o
 .rw[g,b] at f;cases f;rw[e,T5 (XO d),hv]
theorem At.NW (h:At s XQ w) (g:o'.Z0=XQ.Z0) (i:mwd o'=mwd XQ) (j:o'.YM=XQ.YM) {b:Nat} {v:Value} (hv:(#[.int .u64 (Zc XQ),.int .u32 XQ.Y5]:Array Value).setIfInBounds b v=#[.int .u64 (Zc o'),.int .u32 o'.Y5]):At s o' (w.setCell ⟨s,b,none⟩ v):=by
 have k:=λm l=>h.ne (m:=m) l;obtain⟨⟨n,d⟩,o⟩:=h;have e:=heap_setCell (w:=w) (a:=⟨s,b,none⟩) (v:=v) rfl d;refine⟨⟨n,?_⟩,λf c=>?_⟩
 .rw[e,T5 (XO d),hv]
 .rw[g] at c;obtain⟨p,r⟩:=o f c;exact⟨p,by rw[e,Vp (Y2 (k f c)),i,j];exact r⟩
theorem At.Kc (h:At s XQ w) (a:XQ.Z0=some m) {sp:Spec} (b:sp.Z0=some m) {c:Nat} (v:Value):XP (λd _=>Ys s sp d) (λ_=>False) w (w.setCell ⟨m,c,none⟩ v):=
 let ⟨_,e⟩:=h.mu a;Fu e v λ_=>.inr b
theorem At.NV (h:At s XQ w) {sp:Spec} {a:Nat} (v:Value):XP (λb _=>Ys s sp b) (λ_=>False) w (w.setCell ⟨s,a,none⟩ v):=
 let ⟨_,c⟩:=h.1;Fu c v λ_=>.inl rfl
end
theorem Fq {s d:Nat} {sp:Spec}:SW s sp d #[]:=⟨rfl,λj e h=>by simp at h⟩
theorem Rq {s b e d:Nat} {sp:Spec} {es:Array Event} (i:Ys s sp b) (hd:0<d) (f:∀y∈es,y.loc=.cell ⟨b,e,none⟩/\y.sync=true):SW s sp d es:=by
 have g:∀(es:Array Event),(∀y∈es,y.loc=.cell ⟨b,e,none⟩/\y.sync=true)->deafBehind d es=d:=by
  intro es;obtain⟨l⟩:=es;intro h;unfold deafBehind;simp only[List.foldl_toArray']
  induction l with
  | nil=>rfl
  | cons y l k=>
   simp only[List.foldl_cons];have:=h y J;rw[this.1];exact k λz a=>h z (by simp at a ⊢;exact .inr a)
 refine⟨g es f,λj y m=>.inr (.inr ⟨b,e,y.write,?_,i,?_⟩)⟩
 .have:=f y (Array.mem_of_getElem? m);obtain⟨l,w1,n⟩:=y;simp only at this;rw[this.1,this.2]
 .rw[g]
  .exact hd
  .intro z a;exact f z (by
    rw[L7] at a ⊢;obtain⟨q,c⟩:=a;rw[Array.getElem?_extract] at c;split at c
    .exact⟨_,c⟩
    .cases c)
end
end Go.TL
namespace Go.TL
open Go.Proofs.Tryz
open Go.Conc
open Go.ConcM (OsLater)
open Go.ConcN (sumTo upd sumTo_upd upd_ne upd_same sumTo_congr le_sumTo)
variable [ZS]
section
variable {P:Program} {Q:Value->Prop} {mn:Bool} {x:γ} {b:Frame} {cs:List Frame} {nt:Nat} {o:Base} {k:List Item} {env:Ι} {σ:Υ}
variable {ops:Array Oper} {i:Nat} {rest:List Nat} {op:Oper} {f:FuncId} {e:Array Value->Sem Value} {args:Array Operand} {vs:List Value}
def Wx (P:Program) (Q:Value->Prop) (mn:Bool) (x:γ) (b:Frame) (cs:List Frame) (nt:Nat) (o:Base) (ops:Array Oper) (rest:List Nat) (k:List Item) (op:Oper) (env:Ι) (σ:Υ) (s φ:Nat) (a:ν) (v:Value):Prop:=
 V P Q mn (one {x with view:=upd x.view s (some (φ,a))}) b cs nt o (.inRegion ops rest::k) (ZE op env (.z v)) σ
def R8 (P:Program) (Q:Value->Prop) (mn:Bool) (x:γ) (b:Frame) (cs:List Frame) (nt:Nat) (o:Base) (ops:Array Oper) (rest:List Nat) (k:List Item) (op:Oper) (env:Ι) (σ:Υ) (s φ:Nat) (c:ν) (v:Value) (o':ν) (t':Tok):Prop:=
 Act c (x.tok s) o' t'/\∀a,a<φ->V P Q mn (one {x with tok:=upd x.tok s t',view:=upd x.view s (some (a,o'))}) b cs nt o (.inRegion ops rest::k) (ZE op env (.z v)) σ
structure Seen (x:γ) (s:Nat) (sp:Spec) (φ:Nat) (a:ν):Prop where
 spec:a.toSpec=sp
 view:Jw x s φ a
 VX:Pr a (x.tok s)
theorem V.ext (u:Yc x) {s:Nat} {sp:Spec} (A:x.spec s=some sp) (B:¬Xy (x.tok s)) (h:W7 P b ops i op f e args env vs nt)
  (C:∀(w:World) (φ:Nat) (a:ν),Seen x s sp φ a->At s a w->
   (∃v w' c,(e vs.toArray).run P w=.ok v w'/\(e vs.toArray).events P w #[⟨.mark (Mark.extern f),false,true⟩]=#[⟨.mark (Mark.extern f),false,true⟩]++c/\(∀y∈c,y.sync=true/\∀g,y.loc≠.mark (Mark.extern g))/\
    XP (λD _=>Ys s sp D) (λ_=>False) w w'/\SW s sp x.deaf c/\
    ((At s a w'/\Wx P Q mn x b cs nt o ops rest k op env σ s φ a v)\/∃o' t',At s o' w'/\R8 P Q mn x b cs nt o ops rest k op env σ s φ a v o' t'))\/
   (VA a (x.tok s)/\(∀n,n≠s->TS (x.tok n))/\(e vs.toArray).run P w=.halt .blocked w)) :
  V P Q mn (one x) b cs nt o (.inRegion ops (i::rest)::k) env σ:=by
 obtain⟨R,d⟩:=h.call;refine .atomic u A B h.dst h.want λt w φ a _ p r E F H I=>?_;rcases C w φ a ⟨E,H,I⟩ F with⟨v,w',c,j,l,m,J,K,L⟩|⟨j,l,m⟩
 .refine .inl ⟨v,w',c,Ki h.Uo h.at_ r d (p _ _ h.Mz) j l m,J,K,L.imp id λ⟨o',t',M,N,O⟩=>⟨o',t',N,M,.inl (Fv h.Uo h.at_ d),O⟩⟩
 .exact .inr ⟨j,l,y5 h.Uo h.at_ r d (p _ _ h.Mz) m⟩
theorem Rp (a:Addr):∀y∈(#[⟨.cell a,false,true⟩,⟨.cell a,true,true⟩]:Array Event),y.loc=.cell a/\y.sync=true:=by
 intro y b;simp at b;rcases b with rfl|rfl<;>exact⟨rfl,rfl⟩
theorem Ro (a:Addr) (wr:Bool):∀y∈(#[⟨.cell a,wr,true⟩]:Array Event),y.loc=.cell a/\y.sync=true:=by
 intro y b;simp at b;subst b;exact⟨rfl,rfl⟩
theorem Rn {b:Addr} {es:Array Event} (h:∀y∈es,y.loc=.cell b/\y.sync=true):∀y∈es,y.sync=true/\∀g,y.loc≠.mark (Mark.extern g):=λy a=>⟨(h y a).2,λg e=>by rw[(h y a).1] at e;cases e⟩
structure NU (a o':ν):Prop where
 Z0:o'.Z0=a.Z0
 g:Zc o'=Zc a
 w:o'.Y5=a.Y5
structure Rm (a o':ν):Prop where
 Z0:o'.Z0=a.Z0
 g:mwd o'=mwd a
 w:o'.YM=a.YM
section
variable {s m:Nat} {sp:Spec} (Yg:Yc x) (hd:0<x.deaf) (Wk:x.spec s=some sp) (Wj:¬Xy (x.tok s))
include Yg hd Wk Wj
theorem V.Kb (d:sp.Z0=some m) {e t:Int} (h:W7 P b ops i op f (Extern.Atomic.casT (.int .i32)) args env [.pointer (some ⟨m,0,none⟩),.int .i32 e,.int .i32 t] nt)
  (u:∀φ a,Seen x s sp φ a->¬mwd a=e->Wx P Q mn x b cs nt o ops rest k op env σ s φ a (.bool false)\/∃t',R8 P Q mn x b cs nt o ops rest k op env σ s φ a (.bool false) a t')
  (v:∀φ a,Seen x s sp φ a->mwd a=e->∃o' t',mwd o'=t/\o'.YM=a.YM/\NU a o'/\R8 P Q mn x b cs nt o ops rest k op env σ s φ a (.bool true) o' t') :
  V P Q mn (one x) b cs nt o (.inRegion ops (i::rest)::k) env σ:=by
 refine .ext Yg Wk Wj h λw φ a p c=>.inl ?_;have j:a.Z0=some m:=by rw[p.spec];exact d
 have l:=c.R9 j
 have n:=c.NX j 0;by_cases hv:mwd a=e
 .obtain⟨o',t',y,A,r,B⟩:=v φ a p hv;subst hv;refine⟨.bool true,_,_,(congrArg (Sem.run P · w) (casT_eq _ _)).trans (run_cas_hit_entry l n),?_,Rn (Rp ⟨m,0,none⟩),c.Kc j d _,Rq (.inr d) hd (Rp ⟨m,0,none⟩),.inr ⟨o',t',c.Kd j r.Z0 r.g r.w ?_,B⟩⟩
  .exact(congrArg (Sem.events P · w _) (casT_eq _ _)).trans ((events_cas_hit_entry l n _).trans rfl)
  .rw[y,A];rfl
 .refine⟨.bool false,w,_,(congrArg (Sem.run P · w) (casT_eq _ _)).trans (run_cas_miss_entry l n hv),?_,Rn (Ro ⟨m,0,none⟩ false),XP.refl _ _ _,Rq (.inr d) hd (Ro ⟨m,0,none⟩ false),?_⟩
  .exact(congrArg (Sem.events P · w _) (casT_eq _ _)).trans ((events_cas_miss_entry l n hv _).trans rfl)
  .exact(u φ a p hv).imp (λh=>⟨c,h⟩) λ⟨t',h⟩=>⟨a,t',c,h⟩
theorem V.Fp (j:sp.Z0=some m) {d:Int} (h:W7 P b ops i op f (Extern.Atomic.update (Op.intArith .add) .i32 true) args env [.pointer (some ⟨m,0,none⟩),.int .i32 d] nt)
  (v:∀φ a,Seen x s sp φ a->∃o' t',mwd o'=IntKind.i32.wrap (mwd a+d)/\o'.YM=a.YM/\NU a o'/\R8 P Q mn x b cs nt o ops rest k op env σ s φ a (.int .i32 (mwd o')) o' t') :
  V P Q mn (one x) b cs nt o (.inRegion ops (i::rest)::k) env σ:=by
 refine .ext Yg Wk Wj h λw φ a n c=>.inl ?_;have e:a.Z0=some m:=by rw[n.spec];exact j
 have p:=c.R9 e
 have r:=c.NX e 0;obtain⟨o',t',t,y,l,u⟩:=v φ a n;rw[t] at u;refine⟨_,_,_,run_add_entry p r,(events_add_entry p r _).trans rfl,Rn (Rp ⟨m,0,none⟩),c.Kc e j _,Rq (.inr j) hd (Rp ⟨m,0,none⟩),.inr ⟨o',t',c.Kd e l.Z0 l.g l.w ?_,u⟩⟩;rw[t,y];rfl
theorem V.Iw (h:W7 P b ops i op f (Extern.Atomic.loadT (.int .u64)) args env [.pointer (some ⟨s,0,none⟩)] nt)
  (e:∀φ a,Seen x s sp φ a->Wx P Q mn x b cs nt o ops rest k op env σ s φ a (.int .u64 (Zc a))\/∃t',R8 P Q mn x b cs nt o ops rest k op env σ s φ a (.int .u64 (Zc a)) a t') :
  V P Q mn (one x) b cs nt o (.inRegion ops (i::rest)::k) env σ:=by
 refine .ext Yg Wk Wj h λw φ a g c=>.inl ?_;have d:=c.TR;refine⟨.int .u64 (Zc a),w,#[⟨.cell ⟨s,0,none⟩,false,true⟩],?_,?_,Rn (Ro _ false),XP.refl _ _ _,Rq (.inl rfl) hd (Ro _ false),(e φ a g).imp (λh=>⟨c,h⟩) λ⟨t',h⟩=>⟨a,t',c,h⟩⟩
 .change Sem.run P (do Extern.Atomic.read (.int .u64) (<-asAddr (.pointer (some _)))) w=_;simp[Extern.Atomic.read,asAddr,d]
 .change Sem.events P (do Extern.Atomic.read (.int .u64) (<-asAddr (.pointer (some _)))) w _=_;simp[Extern.Atomic.read,asAddr,d,events_load]
theorem V.y2 {d m:Int} (h:W7 P b ops i op f (Extern.Atomic.casT (.int .u64)) args env [.pointer (some ⟨s,0,none⟩),.int .u64 d,.int .u64 m] nt)
  (p:∀φ a,Seen x s sp φ a->¬Zc a=d->Wx P Q mn x b cs nt o ops rest k op env σ s φ a (.bool false))
  (r:∀φ a,Seen x s sp φ a->Zc a=d->∃o' t',Zc o'=m/\o'.Y5=a.Y5/\Rm a o'/\R8 P Q mn x b cs nt o ops rest k op env σ s φ a (.bool true) o' t') :
  V P Q mn (one x) b cs nt o (.inRegion ops (i::rest)::k) env σ:=by
 refine .ext Yg Wk Wj h λw φ a n c=>.inl ?_;have e:=c.TR;have j:=c.PR 0;by_cases hv:Zc a=d
 .obtain⟨o',t',t,u,l,v⟩:=r φ a n hv;subst hv;refine⟨.bool true,_,_,(congrArg (Sem.run P · w) (casT_eq _ _)).trans (run_cas_hit_entry e j),?_,Rn (Rp ⟨s,0,none⟩),c.NV _,Rq (.inl rfl) hd (Rp ⟨s,0,none⟩),.inr ⟨o',t',c.NW l.Z0 l.g l.w ?_,v⟩⟩
  .exact(congrArg (Sem.events P · w _) (casT_eq _ _)).trans ((events_cas_hit_entry e j _).trans rfl)
  .rw[t,u];rfl
 .refine⟨.bool false,w,_,(congrArg (Sem.run P · w) (casT_eq _ _)).trans (run_cas_miss_entry e j hv),?_,Rn (Ro ⟨s,0,none⟩ false),XP.refl _ _ _,Rq (.inl rfl) hd (Ro ⟨s,0,none⟩ false),.inl ⟨c,p φ a n hv⟩⟩;exact(congrArg (Sem.events P · w _) (casT_eq _ _)).trans ((events_cas_miss_entry e j hv _).trans rfl)
theorem V.Iv {d:Int} (h:W7 P b ops i op f (Extern.Atomic.update (Op.intArith .add) .u64 true) args env [.pointer (some ⟨s,0,none⟩),.int .u64 d] nt)
  (p:∀φ a,Seen x s sp φ a->∃o' t',Zc o'=IntKind.u64.wrap (Zc a+d)/\o'.Y5=a.Y5/\Rm a o'/\R8 P Q mn x b cs nt o ops rest k op env σ s φ a (.int .u64 (Zc o')) o' t') :
  V P Q mn (one x) b cs nt o (.inRegion ops (i::rest)::k) env σ:=by
 refine .ext Yg Wk Wj h λw φ a r c=>.inl ?_;have j:=c.TR;have l:=c.PR 0;obtain⟨o',t',m,t,e,n⟩:=p φ a r;rw[m] at n;refine⟨_,_,_,run_add_entry j l,(events_add_entry j l _).trans rfl,Rn (Rp ⟨s,0,none⟩),c.NV _,Rq (.inl rfl) hd (Rp ⟨s,0,none⟩),.inr ⟨o',t',c.NW e.Z0 e.g e.w ?_,n⟩⟩;rw[m,t];rfl
end
theorem Fo {w:World} {a:Addr} {n:Int} {vs:List Value} (b:vs[0]?=some (.pointer (some a))) (c:w.cell? a=some (.int .u32 n)) (d:n≠0) (e:w.frozen? a=false):(Extern.Sync.semacquire vs.toArray).run P w=.ok (.tuple #[]) (w.setCell a (.int .u32 (n-1))):=by
 simp[Extern.Sync.semacquire,Extern.Sync.count,b,c,d,e,Extern.Sync.none_,run_store P w a (.int .u32 (n-1)) .atomic rfl,Result.andThen]
theorem Fl {w:World} {a:Addr} {n:Int} {vs:List Value} (b:vs[0]?=some (.pointer (some a))) (c:w.cell? a=some (.int .u32 n)) (d:n≠0) (e:w.frozen? a=false) (es:Array Event):(Extern.Sync.semacquire vs.toArray).events P w es=es++semEvents a:=by
 simp[Extern.Sync.semacquire,Extern.Sync.count,b,c,d,e,semEvents,events_load,events_store P w _ a (.int .u32 (n-1)) .atomic rfl,run_store P w a (.int .u32 (n-1)) .atomic rfl,Result.evThen];apply OA;simp
theorem Fj {w:World} {a:Addr} {vs:List Value} (b:vs[0]?=some (.pointer (some a))) (c:w.cell? a=some (.int .u32 0)):(Extern.Sync.semacquire vs.toArray).run P w=.halt .blocked w:=by
 simp[Extern.Sync.semacquire,Extern.Sync.count,b,c]
theorem Fi {w:World} {a:Addr} {n:Int} {vs:List Value} (b:vs[0]?=some (.pointer (some a))) (c:w.cell? a=some (.int .u32 n)) (d:w.frozen? a=false):(Extern.Sync.semrelease vs.toArray).run P w=.ok (.tuple #[]) (w.setCell a (.int .u32 (IntKind.u32.wrap (n+1)))):=by
 simp[Extern.Sync.semrelease,Extern.Sync.count,b,c,d,Extern.Sync.none_,Op.intArith,run_store P w a (.int .u32 (IntKind.u32.wrap (n+1))) .atomic rfl,Result.andThen]
theorem Fh {w:World} {a:Addr} {n:Int} {vs:List Value} (b:vs[0]?=some (.pointer (some a))) (c:w.cell? a=some (.int .u32 n)) (d:w.frozen? a=false) (es:Array Event):(Extern.Sync.semrelease vs.toArray).events P w es=es++semEvents a:=by
 simp[Extern.Sync.semrelease,Extern.Sync.count,b,c,d,semEvents,Op.intArith,events_load,events_store P w _ a (.int .u32 (IntKind.u32.wrap (n+1))) .atomic rfl,run_store P w a (.int .u32 (IntKind.u32.wrap (n+1))) .atomic rfl,Result.evThen];apply OA;simp
theorem Ka {s b c d:Nat} {sp:Spec} (e:Ys s sp b):SW s sp d (semEvents ⟨b,c,none⟩):=by
 refine⟨by simp[deafBehind,semEvents],λj y a=>?_⟩
 match j,a with
 | 0,a=>simp[semEvents] at a;subst a;exact .inl rfl
 | 1,a=>simp[semEvents] at a;subst a;exact .inr (.inr ⟨b,c,false,rfl,e,by simp[semEvents,deafBehind]⟩)
 | 2,a=>simp[semEvents] at a;subst a;exact .inr (.inr ⟨b,c,true,rfl,e,by simp[semEvents,deafBehind]⟩)
 | 3,a=>simp[semEvents] at a;subst a;exact .inr (.inl rfl)
 | j+4,a=>simp[semEvents] at a
section
variable {s m:Nat} {sp:Spec} (Yg:Yc x) (Wk:x.spec s=some sp) (Wj:¬Xy (x.tok s))
include Yg Wk Wj
theorem V.y1 (e:sp.Z0=some m) (j:vs[0]?=some (.pointer (some ⟨m,1,none⟩))) (u:∀r,r≠s->TS (x.tok r)) (h:W7 P b ops i op f Extern.Sync.semacquire args env vs nt)
  (v:∀φ a,Seen x s sp φ a->a.YM=0->VA a (x.tok s))
  (y:∀φ a,Seen x s sp φ a->0<a.YM->∃o' t',mwd o'=mwd a/\o'.YM=a.YM-1/\NU a o'/\R8 P Q mn x b cs nt o ops rest k op env σ s φ a (.tuple #[]) o' t') :
  V P Q mn (one x) b cs nt o (.inRegion ops (i::rest)::k) env σ:=by
 refine .ext Yg Wk Wj h λw φ a l c=>?_;have d:a.Z0=some m:=by rw[l.spec];exact e
 have n:=c.Ft d;by_cases hv:a.YM=0
 .exact .inr ⟨v φ a l hv,u,Fj j (by rw[n,hv];rfl)⟩
 .obtain⟨o',t',A,B,p,C⟩:=y φ a l U;have t:((a.YM:Nat):Int)≠0:=U;refine .inl ⟨_,_,_,Fo j n t (c.NX d 1),Fl j n t (c.NX d 1) _,semEvents_sync _,c.Kc d e _,Ka (.inr e),.inr ⟨o',t',c.Kd d p.Z0 p.g p.w ?_,C⟩⟩;rw[A,B,show((a.YM:Nat):Int)-1=((a.YM-1:Nat):Int) by omega];rfl
theorem V.y0 (d:vs[0]?=some (.pointer (some ⟨s,1,none⟩))) (p:∀l,l≠s->TS (x.tok l)) (h:W7 P b ops i op f Extern.Sync.semacquire args env vs nt)
  (r:∀φ a,Seen x s sp φ a->a.Y5=0->VA a (x.tok s))
  (t:∀φ a,Seen x s sp φ a->0<a.Y5->∃o' t',Zc o'=Zc a/\o'.Y5=a.Y5-1/\Rm a o'/\R8 P Q mn x b cs nt o ops rest k op env σ s φ a (.tuple #[]) o' t') :
  V P Q mn (one x) b cs nt o (.inRegion ops (i::rest)::k) env σ:=by
 refine .ext Yg Wk Wj h λw φ a m c=>?_;have e:=c.Ke;by_cases hv:a.Y5=0
 .exact .inr ⟨r φ a m hv,p,Fj d (by rw[e,hv];rfl)⟩
 .obtain⟨o',t',u,v,j,y⟩:=t φ a m U;have n:((a.Y5:Nat):Int)≠0:=U;refine .inl ⟨_,_,_,Fo d e n (c.PR 1),Fl d e n (c.PR 1) _,semEvents_sync _,c.NV _,Ka (.inl rfl),.inr ⟨o',t',c.NW j.Z0 j.g j.w ?_,y⟩⟩;rw[u,v,show((a.Y5:Nat):Int)-1=((a.Y5-1:Nat):Int) by omega];rfl
theorem V.Fg (e:sp.Z0=some m) (l:vs[0]?=some (.pointer (some ⟨m,1,none⟩))) (h:W7 P b ops i op f Extern.Sync.semrelease args env vs nt)
  (r:∀φ a,Seen x s sp φ a->a.YM<1000/\∃o' t',mwd o'=mwd a/\o'.YM=a.YM+1/\NU a o'/\R8 P Q mn x b cs nt o ops rest k op env σ s φ a (.tuple #[]) o' t') :
  V P Q mn (one x) b cs nt o (.inRegion ops (i::rest)::k) env σ:=by
 refine .ext Yg Wk Wj h λw φ a n c=>.inl ?_;have d:a.Z0=some m:=by rw[n.spec];exact e
 have p:=c.Ft d;obtain⟨y,o',t',t,u,j,v⟩:=r φ a n;refine⟨_,_,_,Fi l p (c.NX d 1),Fh l p (c.NX d 1) _,semEvents_sync _,c.Kc d e _,Ka (.inr e),.inr ⟨o',t',c.Kd d j.Z0 j.g j.w ?_,v⟩⟩;rw[t,u,show IntKind.u32.wrap (((a.YM:Nat):Int)+1)=((a.YM+1:Nat):Int) by simp only[IntKind.wrap_u32];omega];rfl
end
end
end Go.TL
namespace Go.TL
open Go.Proofs.Tryz
open Go.Conc
open Go.ConcM (OsLater)
open Go.ConcN (sumTo upd sumTo_upd upd_ne upd_same sumTo_congr le_sumTo)
open Go.ConcR (mk)
variable [ZS]
section
variable {P:Program} {T:Z5} {Q:Value->Prop} {mn:Bool} {x:γ} {z:W'} {b:Frame} {cs:List Frame} {nt:Nat} {o:Base} {k:List Item} {env:Ι} {σ:Υ}
variable {ops:Array Oper} {i:Nat} {rest:List Nat} {op:Oper} {f:FuncId} {e:Array Value->Sem Value} {args:Array Operand} {vs:List Value} {fn:Func}
theorem Ug {S:Α} {B:θ} {l:List Value} {vs:Array Value} (h:X1 S B σ (l.map I.z) vs):vs=l.toArray:=by
 apply OA;apply Su;intro i;have a:=h.1;rw[Yb] at a;by_cases hi:i<l.length
 .have b:(l.map I.z)[i]?=some (.z l[i]):=by rw[Yk,ε hi];rfl
  have Χ:vs[i]?=some vs[i]:=X4 U
  have:=h.2 i _ _ b Χ
  have:vs[i]=l[i]:=by generalize vs[i]=u at this;cases this;rfl
  rw[V7,Χ,this];simp[hi]
 .rw[V7,OI U];simp;omega
theorem V.call (n:Seq z) (j:Uh b ops i op) (p:X7 env ops op=some true) {y:Operand} {r:Array TypeId} (l:op.op=.call ⟨.value y,args,r⟩) {g:FuncId} {first captured:ψ} (s:π env y=.fn (.func g) first captured) (u:Plain P g)
  (h:∀(S:Α) (B:θ) (H:Ψ) (t:Array Value) (vs:Array Value),Ye o.m o.S o.B o.H o.σ S B H σ->XN o.m nt S B H σ env t->X1 S B σ (first++args.toList.map (π env)++captured) vs->
   ξ P Q mn z (Frame.enter P g vs .normal) (Η b t (.inRegion ops (i::rest)::k)::cs) H):V P Q mn z b cs nt o (.inRegion ops (i::rest)::k) env σ:=by
 intro S B H t v a;refine .op n j.run j.op (Vz a.Zr p) (.inr λc=>by rw[l];simp) ?_;have e:execOp (ZX t) op=(do let d <-Deferred.ofValue (ZX t y) (args.map (ZX t));invoke d.target d.args):=by unfold execOp;rw[l];rfl
 rw[e];have f:=UN a.Zr y;have w:=IE a.Zr args;rw[s] at f;generalize ZX t y=N at f;cases f with
 | fn x A C D E F=>
  refine Ω.bind' (Ω.pure' ?_);obtain⟨fn,I,J,K⟩:=u;unfold invoke;simp only;unfold callFunc;refine Ω.bind' ?_;show Ω P (match P.funcs[g]? with|none=>_|some fn=>_) H _ _;rw[I];simp only[J,K,Xu,if_false];refine Ω.pure' ?_;have L:X1 S B σ first x:=⟨C,E⟩
  have M:X1 S B σ captured A:=⟨D,F⟩;exact h S B H t _ v a ((L.append w).append M)
theorem V.R7 {g:FuncId} {body:Code} (e:P.funcs[g]?=some fn) (f:fn.body=some body) {c:Frame} {S:Α} {B:θ} {H:Ψ} (j:Holds S B σ H) (k:vs.length<=fn.ntmps)
  (h:V P Q mn z (Frame.enter P g vs.toArray .normal) (c::cs) fn.ntmps ⟨S,[],H,[],0⟩ [.code body] (entry 0 (vs.map I.z)) []):ξ P Q mn z (Frame.enter P g vs.toArray .normal) (c::cs) H:=by
 rw[Sc e f];refine h.here (XN.enter j.bare ⟨J,λi a v b d=>?_⟩ (ZO _) (by simpa using k));simp only[Yk,List.getElem?_toArray] at b d;rw[d] at b;cases b;exact .z v
theorem V.Iu (a:Seq z) (d:b.mode=.run) (e:b.roundOf=none) (f:b.defers=[]) (g:b.kind=.normal) (i:P.funcs[b.fn]?=some fn) (j:fn.results=#[]) {c:Frame}
  (h:∀(S:Α) (B:θ) (H:Ψ),Ye o.m o.S o.B o.H o.σ S B H σ->Holds S B σ H->ξ P Q mn z (c.finish (.tuple #[])) cs H):V P Q mn z b (c::cs) nt o (.code .ret::k) env σ:=by
 intro S B H t l n;refine .ret a d e (.back a rfl f (.inl g) i ?_);rw[results_none j];exact Ω.pure' (h S B H l n.holds)
theorem V.J' (a:Seq z) (d:b.mode=.run) (e:b.roundOf=none) (f:b.defers=[]) (g:b.kind=.normal) (i:P.funcs[b.fn]?=some fn) (j:fn.results=#[]) {c:Frame}
  (h:∀(S:Α) (B:θ) (H:Ψ),Ye o.m o.S o.B o.H o.σ S B H σ->Holds S B σ H->ξ P Q mn z (c.finish (.tuple #[])) cs H):V P Q mn z b (c::cs) nt o [] env σ:=by
 intro S B H t k l;refine .QX a d e (.back a rfl f (.inl g) i ?_);rw[results_none j];exact Ω.pure' (h S B H k l.holds)
theorem V.Qz (a:Seq z) (g:b.mode=.run) (i:b.roundOf=none) (j:b.defers=[]) (l:b.kind=.normal) (n:P.funcs[b.fn]?=some fn) {d:Nat} (p:fn.results=#[.tmp d]) {v:Value} (hv:Z' env d=.z v) {c:Frame}
  (h:∀(S:Α) (B:θ) (H:Ψ),Ye o.m o.S o.B o.H o.σ S B H σ->Holds S B σ H->ξ P Q mn z (c.finish v) cs H):V P Q mn z b (c::cs) nt o (.code .ret::k) env σ:=by
 intro S B H t r f;refine .ret a g i (.back a rfl j (.inl l) n ?_);have e:results fn t=pure (t.getD d undef):=by unfold results;rw[p];simp
 have s:t.getD d undef=v:=by
  have:=f.Zr d;rw[hv] at this;generalize t.getD d undef=u at this;cases this;rfl
 show Ω P (results fn t) H _ _;rw[e,s];exact Ω.pure' (h S B H r f.holds)
theorem yZ {w:World} {b:TypeId} {e:IntKind} (c:P.underlying b=some (.int e)) {a:Addr} {v:Value} (d:w.cell? a=some v):(Instr.loadAt b (.pointer (some a))).run P w=.ok v w/\(Instr.loadAt b (.pointer (some a))).events P w #[]=#[⟨.cell a,false,false⟩]:=by
 constructor
 .simp[Instr.loadAt,Instr.sureAddr,loadVar,isAgg,run_underlying c,d,Result.andThen]
 .simp[Instr.loadAt,Instr.sureAddr,loadVar,isAgg,run_underlying c,d,events_load,Result.evThen]
theorem yY {t:Array Value} {w:World} (a:Uh b ops i op) (g:Region.wanted op (yielded ops t)=true) {d:TypeId} {y:Operand} (h:op.op=.load d y) {j:IntKind} (l:P.underlying d=some (.int j)) {c:Addr} (m:ZX t y=.pointer (some c)) {v:Value} (n:w.cell? c=some v) (o:(P.funcs[b.fn]?).any (·.norace)=true) :
  stepG P mn (Go.Conc.G (Η b t (.inRegion ops (i::rest)::k)) cs) w=.go (Go.Conc.G (Η b (put op t v) (.inRegion ops rest::k)) cs) w #[]:=by
 obtain⟨f,p⟩:=yZ (P:=P) l n;have e:execOp (ZX t) op=(do pure (.value (<-Instr.loadAt d (.pointer (some c))))):=by unfold execOp;rw[h,<-m]
 rw[Xd a.run a.ro,Xd a.run a.ro,<-PT];have r:(execOp (⟨t,b.defers⟩:_root_.Go.Act).eval op).run P w=.ok (.value v) w:=by rw[UF,e];simp[f,Result.andThen]
 have s:(execOp (⟨t,b.defers⟩:_root_.Go.Act).eval op).events P w #[]=#[⟨.cell c,false,false⟩]:=by rw[UF,e];simp[f,p,Result.evThen]
 rw[stepG_value a.op g a.kd r];unfold listed;rw[s,seen_def,o];simp[seenStep]
section
variable {s:Nat} {sp:Spec} (Yg:Yc x) (Wk:x.spec s=some sp) (Wj:¬Xy (x.tok s))
include Yg Wk Wj
theorem V.NT (l:Uh b ops i op) (hd:W9 nt op=true) (m:X7 env ops op=some true) {f:TypeId} {y:Operand} (n:op.op=.load f y) {c:IntKind} (p:P.underlying f=some (.int c)) {g:Addr} (r:π env y=.z (.pointer (some g))) (u:(P.funcs[b.fn]?).any (·.norace)=true)
  (d:ν->Int) (v:∀(a:ν) (w:World),a.toSpec=sp->At s a w->w.cell? g=some (.int c (d a)))
  (A:∀φ a,Seen x s sp φ a->Wx P Q mn x b cs nt o ops rest k op env σ s φ a (.int c (d a))\/∃t',R8 P Q mn x b cs nt o ops rest k op env σ s φ a (.int c (d a)) a t') :
  V P Q mn (one x) b cs nt o (.inRegion ops (i::rest)::k) env σ:=by
 refine .atomic Yg Wk Wj hd m λt w φ a B _ C j e D E=>.inl ?_;refine⟨.int c (d a),w,#[],yY l C n p (B _ _ r) (v a w j e) u,XP.refl _ _ _,Fq,?_⟩;exact(A φ a ⟨j,D,E⟩).imp (λh=>⟨e,h⟩) λ⟨t',F,H⟩=>⟨a,t',F,e,.inr rfl,H⟩
theorem V.conv (c:Uh b ops i op) (hd:W9 nt op=true) (n:X7 env ops op=some true) {src dst t0:TypeId} {y:Operand} (p:op.op=.convert src dst y) (f:P.underlying src=some (.pointer t0)) (g:P.underlying dst=some .unsafePointer) (h:(P.info? t0).map (λi=>decide (i.size=0))=some false) {d:Addr} (r:π env y=.z (.pointer (some d)))
  (u:∀(a:ν) (w:World),a.toSpec=sp->At s a w->∃v,w.cell? d=some v)
  (A:∀φ a,Seen x s sp φ a->Wx P Q mn x b cs nt o ops rest k op env σ s φ a (.pointer (some d))) :
  V P Q mn (one x) b cs nt o (.inRegion ops (i::rest)::k) env σ:=by
 refine .atomic Yg Wk Wj hd n λt w φ a B _ C j l D E=>.inl ?_;obtain⟨v,hv⟩:=u a w j l;refine⟨.pointer (some d),w,#[],?_,XP.refl _ _ _,Fq,.inl ⟨l,A φ a ⟨j,D,E⟩⟩⟩;have m:=run_convert_to_unsafe (P:=P) f g h hv;have F:=events_convert_to_unsafe (P:=P) f g h hv #[];have e:execOp (ZX t) op=(do pure (.value (<-convert src dst (.pointer (some d))))):=by unfold execOp;rw[p,<-B _ _ r]
 rw[Xd c.run c.ro,Xd c.run c.ro,<-PT];have H:(execOp (⟨t,b.defers⟩:_root_.Go.Act).eval op).run P w=.ok (.value (.pointer (some d))) w:=by rw[UF,e];simp[m,Result.andThen]
 have I:(execOp (⟨t,b.defers⟩:_root_.Go.Act).eval op).events P w #[]=#[]:=by rw[UF,e];simp[m,F,Result.evThen]
 rw[stepG_value c.op C c.kd H];unfold listed;rw[I,seen_none]
end
theorem yX (w:World):OsLater w.os w.later.os:=⟨w.tick,rfl⟩
theorem YA.later {H:Ψ} {w:World} (h:Fits H w):YA H w H w.later #[]:=
 ⟨⟨h.ς,h.row,h.obj⟩,⟨ZO _,λb c t f a=>⟨c,a,rfl,λ_ _=>rfl⟩,λb x a _ _=>a,yX w,rfl,rfl⟩,⟨λb o v p h=>.inr ⟨v,p,h,id⟩,λb h=>.inr h⟩,λe d=>by simp at d⟩
theorem V.nano (g:Seq z) (h:W7 P b ops i op f Extern.OsHooks.nano args env vs nt) (c:(P.funcs[f]?).any (·.norace)=true) (j:∀τ:Int,V P Q mn z b cs nt o (.inRegion ops rest::k) (ZE op env (.z (.int .i64 τ))) σ):V P Q mn z b cs nt o (.inRegion ops (i::rest)::k) env σ:=by
 intro S B H t l d;obtain⟨fn,e,m,n,p,r⟩:=h.Uo;obtain⟨v,s⟩:=h.call;rw[e] at c;refine ξ.own g λw u=>⟨_,_,_,_,H,?_,YA.later u,j ((w.os.mono+w.tick:Nat):Int) S B H _ l (d.put h.dst (.z _))⟩;rw[Xd h.at_.run h.at_.ro,stepG_nanotime (a:=⟨t,b.defers⟩) h.at_.op (Vz d.Zr h.want) h.at_.kd s e m n p r (by simpa using c),PT,<-Xd h.at_.run h.at_.ro]
theorem V.canSpin (e:Seq z) {n:Int} (h:W7 P b ops i op f Extern.Sync.canSpin args env [.int .i64 n] nt) (g:∀y:Bool,(y=true->n<4)->V P Q mn z b cs nt o (.inRegion ops rest::k) (ZE op env (.z (.bool y))) σ):V P Q mn z b cs nt o (.inRegion ops (i::rest)::k) env σ:=by
 intro S B H t j c;obtain⟨fn,l,m,p,r,s⟩:=h.Uo;obtain⟨A,u⟩:=h.call;have v:args.map (⟨t,b.defers⟩:_root_.Go.Act).eval=#[.int .i64 n]:=by rw[UF];exact h.Mz.ZX c.Zr
 by_cases x:n<4
 .refine ξ.own e λw d=>⟨_,_,_,_,H,?_,(YA.start d).draw (w.drawn+1),g w.spins (λ_=>x) S B H _ j (c.put h.dst (.z _))⟩;rw[Xd h.at_.run h.at_.ro,stepG_canSpin_ask (a:=⟨t,b.defers⟩) h.at_.op (Vz c.Zr h.want) h.at_.kd u l m p r s v x,PT,<-Xd h.at_.run h.at_.ro];rfl
 .refine ξ.own e λw d=>⟨_,_,w,#[],H,?_,YA.start d,g false (λh=>by cases h) S B H _ j (c.put h.dst (.z _))⟩;rw[Xd h.at_.run h.at_.ro,stepG_canSpin_no (a:=⟨t,b.defers⟩) h.at_.op (Vz c.Zr h.want) h.at_.kd u l m p r s v U,PT,<-Xd h.at_.run h.at_.ro]
theorem V.J9 (c:Seq z) {v:Value} (h:W7 P b ops i op f (λ_=>pure v) args env vs nt) (d:V P Q mn z b cs nt o (.inRegion ops rest::k) (ZE op env (.z v)) σ):V P Q mn z b cs nt o (.inRegion ops (i::rest)::k) env σ:=
 λS B H t e a=>ξ.own c λw g=>⟨_,_,w,#[],H,h.step a.Zr J J J,YA.start g,d S B H _ e (a.put h.dst (.z v))⟩
theorem V.It (g:Seq z) (c:Uh b ops i op) (j:X7 env ops op=some true) (d:op.dst=none) {l:Array TypeId} (m:op.op=.defer ⟨.value (.func f),#[],l⟩)
  (h:V P Q mn z {b with defers:=Go.Conc.dcall f #[]::b.defers} cs nt o (.inRegion ops rest::k) env σ):V P Q mn z b cs nt o (.inRegion ops (i::rest)::k) env σ:=by
 intro S B H t n e;have p:put op t undef=t:=by unfold put;rw[d]
 refine ξ.still g (f':=Η {b with defers:=Go.Conc.dcall f #[]::b.defers} t (.inRegion ops rest::k)) (cs':=cs) (λw=>?_) (h S B H t n e);rw[Xd c.run c.ro,stepG_defer (a:=⟨t,b.defers⟩) c.op (Vz e.Zr j) c.kd m];have:(⟨t,Go.Conc.dcall f #[]::b.defers⟩:_root_.Go.Act).put op.dst undef=⟨t,Go.Conc.dcall f #[]::b.defers⟩:=by rw[d];rfl
 simp only[Array.map_empty,List.map_toArray,TX];rw[this,Xd (b:={b with defers:=Go.Conc.dcall f #[]::b.defers}) c.run c.ro];rfl
theorem Zq.yW (e:Yc x) (hd:0<x.deaf) (c:b.mode=.run) (d:b.roundOf=none) {ds:List Deferred} (g:b.defers=Go.Conc.dcall f #[]::ds) (i:Entry P f (λ_=>do mark .enable;pure Extern.Race.none_)) {H:Ψ} {t:Array Value}
  (h:Zq P Q mn {x with deaf:=x.deaf-1} {Η {b with defers:=ds} t k with mode:=.returning} cs H):Zq P Q mn x {Η b t k with mode:=.returning} cs H:=by
 obtain⟨fn,j,l,m,n,o⟩:=i;refine Goes.step e.ok (.inr ⟨⟨rfl,rfl⟩,.inr (.inl ⟨Go.Conc.G {Η {b with defers:=ds} t k with mode:=.returning} cs,⟨rfl,rfl⟩,.inr ⟨hd,λw _=>⟨?_,h⟩⟩⟩)⟩);rw[Xd c d,Xd (b:={b with defers:=ds}) c d];exact stepG_unwind_entry (a:=⟨t,b.defers⟩) (v:=.tuple #[]) g j l m n o (Kg .enable) (Kf .enable _) (Rr J)
end
inductive Quiet (P:Program) (mn:Bool):Goroutine->Goroutine->Prop where
 | nil (g:Goroutine):Quiet P mn g g
 | cons {g g' a:Goroutine}:Wg g->(∀w,stepG P mn g w=.go g' w #[])->Quiet P mn g' a->Quiet P mn g a
section
variable {P:Program} {Q:Value->Prop} {mn:Bool} {x:γ} {g g':Goroutine}
theorem Quiet.runs (h:Quiet P mn g g') (a:Wg g'):Wg g:=by
 cases h with
 | nil=>exact a
 | cons b=>exact b
theorem Quiet.goes (h:Quiet P mn g g') (i:Yc x) (d:Wg g') (f:Goes P Q mn g' x):Goes P Q mn g x:=by
 induction h with
 | nil=>exact f
 | cons j k l m=>
  refine Goes.step i.ok (.inr ⟨j,.inl λw n hv=>?_⟩);rw[k w];refine⟨x.G,x.η,l.runs d,XP.refl _ _ _,n,hv,⟨λb o v p h=>.inr ⟨v,p,h,id⟩,λb h=>.inr h⟩,λb c h=>.inl h,λe a=>by simp at a,λb c _ _ e a=>by simp at a,m d f⟩
end
end Go.TL
namespace Go.TL
open Go.Proofs.Tryz
open Go.Conc Go.Proofs
variable [ZS]
def Qy (P:Program) (a:Value->Prop) (mn:Bool) (x:W') (b:Frame) (cs:List Frame) (nt:Nat) (o:Base) (L:Nat) (r:Loop) (k:List Item) (env:Ι) (σ:Υ):Prop:=
 ∀(S:Α) (B:θ) (H:Ψ) (t:Array Value),Ye o.m o.S o.B o.H o.σ S B H σ->XN o.m nt S B H σ env t->¬B.has L->H.obj L=some (.loop r)->ξ P a mn x (Η b t k) cs H
theorem R6 {S e:Α} {B B':θ} {H H':Ψ} (b:Ext S B H e B' H') {L:Nat} {y:Obj} (c:¬B.has L) (a:H.obj L=some y):¬B'.has L/\H'.obj L=some y:=by
 have d:¬H.fresh L:=λh=>by rw[h.2.2.1] at a;cases a
 exact⟨λh=>(b.blocks L h).elim c d,by rw[(b.XH L c d).2.2];exact a⟩
theorem yV {H:Ψ} {L:Nat} {y:Obj} (f:H.X3 L):∀b,(H.ZL L y).fresh b↔H.fresh b:=by
 obtain⟨z,g⟩:=f;have d:∀b,((H.ZL L y).obj b=none↔H.obj b=none):=λb=>by
  by_cases e:b=L
  .subst e;simp[Ψ.ZL,g]
  .simp[Ψ.ZL,e]
 exact λb=>⟨λh=>⟨h.1,h.2.1,(d b).1 h.2.2.1,λa c=>⟨(h.2.2.2 a c).1,(h.2.2.2 a c).2.1,(d a).1 (h.2.2.2 a c).2.2⟩⟩,
  λh=>⟨h.1,h.2.1,(d b).2 h.2.2.1,λa c=>⟨(h.2.2.2 a c).1,(h.2.2.2 a c).2.1,(d a).2 (h.2.2.2 a c).2.2⟩⟩⟩
theorem Holds.ZL {S:Α} {B:θ} {σ:Υ} {H:Ψ} {L:Nat} {y:Obj} (a:Holds S B σ H) (i:¬B.has L):Holds S B σ (H.ZL L y):=by
 have d:∀b,b≠L->Vj H (H.ZL L y) b:=λb c=>⟨λ_=>rfl,rfl,by simp[Ψ.ZL,c]⟩
 have f:∀(id b N:Nat),B[id]?=some (some (b,N))->b≠L:=λid b N h e=>i (e▸SN h);refine⟨a.YX,a.len,λid r bo j g=>?_,a.inj,a.sep⟩;by_cases k:r.live
 .refine(a.row id r bo j g).later (ZC.refl S B σ) (λb N e=>d b (f id b N (by rw[g,e]))) λm left l e=>⟨rfl,rfl,λb N c=>d b (f m b N c)⟩
 .cases r<;>first|exact absurd trivial k|trivial
theorem Ext.ZL {f S:Α} {g B:θ} {c H:Ψ} {L:Nat} {y:Obj} (a:Ext f g c S B H) (i:c.fresh L) (j:H.X3 L):Ext f g c S B (H.ZL L y):=by
 refine⟨a.YX,λb d h=>?_,a.blocks,a.RF,λb d=>a.grow b ((yV j b).1 d)⟩;have:b≠L:=λe=>h (e▸i);obtain⟨k,l,m⟩:=a.XH b d h;exact⟨k,l,by simp[Ψ.ZL,this,m]⟩
section
variable {P:Program} {T:Z5} {Q:Value->Prop} {mn:Bool} {x:W'} {b:Frame} {cs:List Frame} {nt:Nat} {o:Base} {L:Nat} {r:Loop} {k:List Item} {env:Ι} {σ:Υ}
theorem Qy.XK (g:Seq x) (i:b.mode=.run) (h:W P o.m nt k env σ (Qy P Q mn x b cs nt o L r) (λ_ _ _=>False)):Qy P Q mn x b cs nt o L r k env σ:=
 λS B H t l n p s=>h Q mn x cs b S B H t g i n (λj env' σ' c B' H' t' d u f w y=>by
  have e:d=j:=y;subst e;obtain⟨A,C⟩:=R6 f.ext p s;exact u c B' H' t' (l.trans f) w A C) (λa env' σ' c B' H' t' d v D=>D.elim)
theorem Qy.yield (s:Seq x) {ops:Array Oper} {i:Nat} {rest:List Nat} {f:Oper} (l:Uh b ops i f) (u:X7 env ops f=some true) {y:Operand} {args:Array Operand} {v:Array TypeId} (n:f.op=.call ⟨.value y,args,v⟩) (w:π env y=.fn (.yield L) [] []) (A:args.size=r.params.size)
  (h:∀(S:Α) (B:θ) (H:Ψ) (t:Array Value) (vs:Array Value),Ye o.m o.S o.B o.H o.σ S B H σ->XN o.m nt S B H σ env t->¬B.has L->H.obj L=some (.loop r)->X1 S B σ (args.toList.map (π env)) vs->
   ξ P Q mn x (Frame.round L r.fn ((r.params.zip vs).foldl (λC (t,a)=>C.setIfInBounds t a) r.tmps) r.assign r.body .normal) (Η b t (.inRegion ops (i::rest)::k)::cs) H):Qy P Q mn x b cs nt o L r (.inRegion ops (i::rest)::k) env σ:=by
 intro S B H t D g E p;refine ξ.op s l.run l.op (Vz g.Zr u) (.inr λc=>by rw[n];simp) ?_;have e:execOp (ZX t) f=(do let d <-Deferred.ofValue (ZX t y) (args.map (ZX t));invoke d.target d.args):=by unfold execOp;rw[n];rfl
 rw[e];have j:=UN g.Zr y;have F:=IE g.Zr args;rw[w] at j;generalize ZX t y=R at j;cases j with
 | fn I J K M T U=>
  have N:I=#[]:=Ma (by rw[<-K];rfl)
  have Χ:J=#[]:=Ma (by rw[<-M];rfl);subst N;subst Χ;refine Ω.bind' (Ω.pure' ?_);have O:invoke (Target.fn (Fn.yield L) #[]) (#[]++args.map (ZX t))=Instr.yield L (args.map (ZX t)):=by simp[invoke]
  show Ω P (invoke (Target.fn (Fn.yield L) #[]) (#[]++args.map (ZX t))) H _ _;rw[O];unfold Instr.yield;refine Ω.bind' (Ω.getLoop p ?_);rw[if_neg (by simp[A])];refine Ω.bind' (Ω.pure' (Ω.pure' ?_));exact h S B H t _ D g E p F
end
end Go.TL
namespace Go.TL
open Go.Proofs.Tryz
open Go.Conc Go.Proofs
def R5 (n:Nat) (l:List Nat):Nat->Option Nat
 | 0=>none
 | e+1=>if l.getD e 0+l.length=n+e then R5 n l e else some e
def Uf (l:List Nat) (i:Nat) (k:Nat):List Nat:=l.take i++((List.range k).map λj=>l.getD i 0+1+j)++l.drop (i+k)
def R4 (n:Nat) (l:List Nat):Option (List Nat):=(R5 n l l.length).map λi=>Uf l i (l.length-i)
def Tb (n:Nat):Nat->List Nat->List (List Nat)
 | 0,l=>[l]
 | f+1,l=>l::match R4 n l with|none=>[]|some m=>Tb n f m
def R3 (n:Nat):Nat->List Nat->Bool
 | 0,l=>l.all (· < n)&&(R4 n l).isNone
 | f+1,l=>l.all (· < n)&&match R4 n l with|none=>true|some m=>R3 n f m
def Vd (n c:Nat):List (List Nat):=(List.range' c (n+1-c)).flatMap λm=>Tb n 1000 (List.range m)
theorem yU:∀n<13,∀m<n+1,R3 n 1000 (List.range m)=true:=by decide +kernel
theorem yT {n c:Nat} (h:c<n+1):Vd n c=Tb n 1000 (List.range c)++Vd n (c+1):=by
 unfold Vd;have:n+1-c=(n+1-(c+1))+1:=U;rw[this,LY,Nq]
theorem yS {n:Nat}:Vd n (n+1)=[]:=by simp[Vd]
theorem yR {n f:Nat} {l:List Nat} (h:R3 n f l=true):∀x∈l,x<n:=by
 cases f<;>simp only[R3,VE,WN,decide_eq_true_eq] at h<;>exact h.1
theorem yQ {n f:Nat} {l:List Nat} (h:R4 n l=none):Tb n f l=[l]:=by
 cases f<;>simp[Tb,h]
theorem yP {n f:Nat} {l m:List Nat} (a:R3 n f l=true) (h:R4 n l=some m):∃g,f=g+1/\Tb n f l=l::Tb n g m/\R3 n g m=true:=by
 cases f with
 | zero=>simp[R3,h] at a
 | succ g=>exact⟨g,rfl,by simp[Tb,h],by simp[R3,h] at a;exact a.2⟩
theorem Ff {l:List Nat} {i k:Nat} (h:i+k<=l.length):(Uf l i k).length=l.length:=by simp[Uf];omega
theorem yO {l:List Nat} {i:Nat} (h:i<l.length):Uf l i 1=l.set i (l[i]+1):=by
 unfold Uf;rw[List.set_eq_take_append_cons_drop,if_pos h];simp[h]
theorem yN {l:List Nat} {i k:Nat} (b:0<k) (h:i+k<=l.length):(Uf l i k).getD (i+k-1) 0=l.getD i 0+k:=by
 unfold Uf;have a:(l.take i).length=i:=by simp;omega
 rw[Xk,TZ,XT U,a,YU (by simp;omega)];have:i+k-1-i=k-1:=U;rw[this,Yk,List.getElem?_range U];simp;omega
theorem yM {l:List Nat} {i k:Nat} (h:i+k<l.length):(Uf l i k).set (i+k) (l.getD i 0+k+1)=Uf l i (k+1):=by
 unfold Uf;have a:(l.take i++(List.range k).map λj=>l.getD i 0+1+j).length=i+k:=by simp;omega
 rw[Qn _ _ U,a,Qj,Uy,Xz];have Χ:l.drop (i+k)=l[i+k]::l.drop (i+k+1):=PF h;rw[Χ,List.set_cons_zero];simp;constructor<;>omega
end Go.TL
namespace Go.TL
open Go.Proofs.Tryz
open Go.Proofs
theorem W.yL [ZS] {nt:Nat} {E:Yf} {m:Nat} {k:List Item} {env:Ι} {σ:Υ} {Z:XF} {is a:List Nat} (_:is=is) (_:a=a) {ops:Array Oper} {l:List Nat} (c:l=is++a) (h:∀b:Ι->Υ->Prop,(∀env σ,W prog m nt (.inRegion ops a::k) env σ Z E->b env σ)->run prog Z7 [] nt ops is env σ b E):W prog m nt (.inRegion ops l::k) env σ Z E:=W.part Τ is a c h
theorem XW (a b:List Nat) {p q:Prop} (k:q) (h:a=a->b=b->q->p:=by intro c d k;refine W.yL c d rfl λf e=>?_;(try simp);(repeat (rw[Μ];simp));apply e;exact k):p:=h rfl rfl k
end Go.TL
namespace Go.TL
open Go.Proofs.Tryz
open Go.Conc Go.Proofs
open Go.ConcN (sumTo upd sumTo_upd upd_ne upd_same sumTo_congr le_sumTo)
theorem Is {B:Type} (f:Nat->B) (s:Nat) (a b:B):upd (upd f s a) s b=upd f s b:=by
 funext i;unfold upd;split<;>rfl
def ZR (x:γ) (s:Nat) (t:Tok) (v:Option (Nat×ν)) (d:Nat):γ:={x with tok:=upd x.tok s t,view:=upd x.view s v,deaf:=d}
section
variable {x:γ} {s:Nat} {t t':Tok} {v J8:Option (Nat×ν)} {d r7:Nat}
theorem W6:({ZR x s t v d with tok:=upd (ZR x s t v d).tok s t',view:=upd (ZR x s t v d).view s J8}:γ)=ZR x s t' J8 d:=by unfold ZR;simp only[Is]
theorem Vt:({ZR x s t v d with view:=upd (ZR x s t v d).view s J8}:γ)=ZR x s t J8 d:=by unfold ZR;simp only[Is]
theorem My:({ZR x s t v d with deaf:=(ZR x s t v d).deaf+1}:γ)=ZR x s t v (d+1):=rfl
theorem Mx:({ZR x s t v d with deaf:=(ZR x s t v d).deaf-1}:γ)=ZR x s t v (d-1):=rfl
theorem Zx:(ZR x s t v d).tok s=t:=by unfold ZR;simp only[upd_same]
theorem SC:(ZR x s t v d).view s=v:=by unfold ZR;simp only[upd_same]
theorem Mw {r:Nat} (h:r≠s):(ZR x s t v d).tok r=x.tok r:=by unfold ZR;exact upd_ne _ _ h
end
theorem Ir {N:Nat} {τ:Nat->Tok} {φ a:Tok->Nat} (h:∀t,φ t<=a t):Z6 N τ φ<=Z6 N τ a:=by
 induction N with
 | zero=>exact ZO _
 | succ N b=>rw[Ps,Ps];have:=h (τ N);omega
theorem yK {N:Nat} {τ:Nat->Tok} {φ a:Tok->Nat}:Z6 N τ (λt=>φ t+a t)=Z6 N τ φ+Z6 N τ a:=by
 induction N with
 | zero=>rfl
 | succ N b=>simp only[Ps,b];omega
structure Qx (a:ν) (t:Tok):Prop where
 Zj:a.Zj<=1
 wk:a.wk<=1
 sv:a.sv<=1
 YM:a.YM<=1
 nw:a.nw<=a.top
 yJ:Ux t=1->a.sv=0/\a.wk=1
 hw:TU t=1->a.sv=1/\a.wk=0/\a.Zj=0/\1<=a.nw
 hold:Wv t=1->a.Zj=1
 yI:UU t=1->(a.sv=0->a.wk=1)/\(a.sv=1->a.wk=0/\a.Zj=0/\1<=a.nw)
theorem Pr.TQ {c:ν} {t:Tok} (h:Pr c t):Qx c t:=by
 obtain⟨N,τ,i,⟨g,j⟩,hi,k,_⟩:=h;have l:=XS τ Wv hi;have l2:=XS τ Ux hi;have n:=XS τ TU hi;have o:=XS τ UU hi;rw[k] at l l2 n o;have p:Z6 N τ UW+Z6 N τ UU<=Z6 N τ UT:=by
  rw[<-yK];refine Ir λt=>?_;cases t<;>simp[UW,UU,UT];rename_i m _;cases m<;>simp[Nj,Ni]
 have r:Z6 N τ TU<=Z6 N τ UU:=Ir λt=>by
  cases t<;>simp[TU,UU];rename_i m _;cases m<;>simp[LV,Ni]
 obtain⟨f1,f2,f3,s,a,b,u,v,w⟩:=g;obtain⟨x,y,A,B,C,D,E,F,H⟩:=j;have d:c.sv=0\/c.sv=1:=U;refine⟨f1,f2,f3,?_,?_,λf=>?_,λf=>?_,λf=>?_,λf=>⟨λe=>?_,λe=>?_⟩⟩
 .rcases d with e|e
  .have:=a e;omega
  .have:=b e;omega
 .rcases d with e|e
  .have:=a e;omega
  .have:=b e;omega
 .rcases d with e|e
  .have:=a e;omega
  .have:=b e;omega
 .rcases d with e|e
  .have:=a e;omega
  .have:=b e;omega
 .omega
 .have:=a e;omega
 .have:=b e;omega
structure yH (a:ν) (t:Tok):Prop where
 wt:a.wt<=1
 cnt:a.cnt<=a.top
 Y5:a.Y5<=1
 live:V5 t<=a.cnt
 add:∀n p,t=.par n p .add->a.wt=0/\a.Y5=0/\n<=a.top/\p<=a.cnt/\a.cnt<=n
 fin:∀n p,t=.par n p .Ty\/t=.par n p .w4\/t=.par n p .Z4->a.wt=0/\a.Y5=0/\a.cnt=0
 l2:∀k m,t=.ch k m .l2->a.wt=1/\a.cnt=0
 Ss:∀k m,t=.ch k m .Ss->a.wt=0/\a.cnt=0/\a.Y5=0
theorem Pr.Qw {r:ν} {t:Tok} (h:Pr r t):yH r t:=by
 obtain⟨N,τ,i,⟨D,d⟩,hi,a,_⟩:=h;have y:=XS τ V5 hi;have l2:=XS τ VC hi;have s:=XS τ VB hi;rw[a] at y l2 s;have E:Z6 N τ V5<=Z6 N τ UT:=Ir λt=>by
  cases t<;>simp[V5,UT];rename_i g;cases g<;>simp[Q1]
 unfold SY at d;have u:Yh t=1->Z6 N τ WU=WU t/\Z6 N τ Wu=Wu t/\Z6 N τ Uw=Uw t/\Z6 N τ US=US t/\Z6 N τ Wt=Wt t:=λf=>by
  have A:Yh (τ i)=1:=by rw[a];exact f
  refine⟨?_,?_,?_,?_,?_⟩<;>(rw[Sp (λt a=>by cases t<;>simp_all [Yh,WU,Wu,Uw,US,Wt]) d.Tv hi A,a])
 obtain⟨B,F,H,I,J,b,j,c,K⟩:=d;have l:Z6 N τ Uw=1\/Z6 N τ US=1\/Z6 N τ Wt=1:=U;refine⟨B,U,?_,U,λn p e=>?_,λn p e=>?_,λk m e=>?_,λk m e=>?_⟩
 .rcases l with e|e|e
  .have:=b e;omega
  .have:=j e;omega
  .have:=c e;omega
 .subst e;obtain⟨v,w,o,C,x⟩:=u rfl;simp only[WU,Wu,Uw] at v w o;have:=b o;omega
 .have f:Yh t=1:=by rcases e with rfl|rfl|rfl<;>rfl
  obtain⟨v,w,o,C,x⟩:=u f;have:Z6 N τ Wt=1:=by rw[x];rcases e with rfl|rfl|rfl<;>rfl
  have:=c this;omega
 .subst e;simp only[VC,Pv] at l2;rcases l with e|e|e
  .have:=b e;omega
  .have:=j e;omega
  .have:=c e;omega
 .subst e;simp only[VB,Pu] at s;rcases l with e|e|e
  .have:=b e;omega
  .have:=j e;omega
  .have:=c e;omega
abbrev W5 (a b c n:Nat):Int:=(a:Int)+2*b+4*c+8*n
theorem Iq:∀a<2,∀b<2,∀c<2,∀n<8,X9 .i32 (W5 a b c n) 5=a+4*c:=by decide +kernel
theorem Ip:∀a<2,∀b<2,∀c<2,∀n<8,X9 .i32 (W5 a b c n) 4=4*c:=by decide +kernel
theorem yG:∀a<2,∀b<2,∀c<2,∀n<8,X9 .i32 (W5 a b c n) 3=a+2*b:=by decide +kernel
theorem yF:∀a<2,∀b<2,∀c<2,∀n<8,X9 .i32 (W5 a b c n) 7=a+2*b+4*c:=by decide +kernel
theorem J7:∀a<2,∀b<2,∀c<2,∀n<8,X9 .i32 (W5 a b c n) 2=2*b:=by decide +kernel
theorem yE:∀a<2,∀b<2,∀c<2,∀n<8,X9 .i32 (W5 a b c n) 1=a:=by decide +kernel
theorem yD:∀a<2,∀b<2,∀c<2,∀n<8,RE .i32 (W5 a b c n) 1=W5 1 b c n:=by decide +kernel
theorem yC:∀a<2,∀b<2,∀c<2,∀n<8,RE .i32 (W5 a b c n) 2=W5 a 1 c n:=by decide +kernel
theorem yB:∀a<2,∀b<2,∀c<2,∀n<8,RE .i32 (W5 a b c n) 4=W5 a b 1 n:=by decide +kernel
theorem Io:∀a<2,∀b<2,∀c<2,∀n<8,Vi .i32 (W5 a b c n) 2=W5 a 0 c n:=by decide +kernel
theorem Im:∀a<2,∀b<2,∀c<2,∀n<8,(W5 a b c n).fdiv (2 ^ min 3 IntKind.i32.bits)=n:=by decide +kernel
theorem yA:∀a<2,∀b<2,∀c<2,∀n<7,IntKind.i32.wrap (W5 a b c n+8)=W5 a b c (n+1):=by decide +kernel
theorem SB (a:ν):mwd a=W5 a.Zj a.wk a.sv a.nw:=rfl
theorem Mv:Entry prog 160 (λ_=>do mark .disable;pure Extern.Race.none_):=⟨_,func160,by kernel_rfl,by kernel_rfl,by kernel_rfl,by kernel_rfl⟩
theorem PQ:Entry prog 161 (λ_=>do mark .enable;pure Extern.Race.none_):=⟨_,func161,by kernel_rfl,by kernel_rfl,by kernel_rfl,by kernel_rfl⟩
theorem Fe:Entry prog 159 (Extern.Race.marked .releaseMerge):=⟨_,func159,by kernel_rfl,by kernel_rfl,by kernel_rfl,by kernel_rfl⟩
theorem J6:Entry prog 177 (Extern.Race.marked .acquire):=⟨_,func177,by kernel_rfl,by kernel_rfl,by kernel_rfl,by kernel_rfl⟩
theorem yz:Entry prog 167 (Extern.Race.marked .read):=⟨_,func167,by kernel_rfl,by kernel_rfl,by kernel_rfl,by kernel_rfl⟩
theorem yy:Entry prog 180 (Extern.Race.marked .write):=⟨_,func180,by kernel_rfl,by kernel_rfl,by kernel_rfl,by kernel_rfl⟩
theorem Fc:Entry prog 162 (λ_=>pure (.bool false)):=⟨_,func162,by kernel_rfl,by kernel_rfl,by kernel_rfl,by kernel_rfl⟩
theorem J5:Entry prog 212 (Extern.Atomic.casT (.int .i32)):=⟨_,func212,by kernel_rfl,by kernel_rfl,by kernel_rfl,by kernel_rfl⟩
theorem Fb:Entry prog 214 (Extern.Atomic.update (Op.intArith .add) .i32 true):=⟨_,func214,by kernel_rfl,by kernel_rfl,by kernel_rfl,by kernel_rfl⟩
theorem yx:Entry prog 216 (Extern.Atomic.casT (.int .u64)):=⟨_,func216,by kernel_rfl,by kernel_rfl,by kernel_rfl,by kernel_rfl⟩
theorem Fa:Entry prog 207 (Extern.Atomic.update (Op.intArith .add) .u64 true):=⟨_,func207,by kernel_rfl,by kernel_rfl,by kernel_rfl,by kernel_rfl⟩
theorem E9:Entry prog 208 (Extern.Atomic.loadT (.int .u64)):=⟨_,func208,by kernel_rfl,by kernel_rfl,by kernel_rfl,by kernel_rfl⟩
theorem yw:Entry prog 209 Extern.Atomic.storeT:=⟨_,func209,by kernel_rfl,by kernel_rfl,by kernel_rfl,by kernel_rfl⟩
theorem yv:Entry prog 242 Extern.Sync.canSpin:=⟨_,func242,by kernel_rfl,by kernel_rfl,by kernel_rfl,by kernel_rfl⟩
theorem yu:Entry prog 243 (λ_=>pure (.tuple #[])):=⟨_,func243,by kernel_rfl,by kernel_rfl,by kernel_rfl,by kernel_rfl⟩
theorem E8:Entry prog 245 Extern.OsHooks.nano:=⟨_,func245,by kernel_rfl,by kernel_rfl,by kernel_rfl,by kernel_rfl⟩
theorem yt:Entry prog 246 Extern.Sync.semacquire:=⟨_,func246,by kernel_rfl,by kernel_rfl,by kernel_rfl,by kernel_rfl⟩
theorem ys:Entry prog 181 Extern.Sync.semacquire:=⟨_,func181,by kernel_rfl,by kernel_rfl,by kernel_rfl,by kernel_rfl⟩
theorem E7:Entry prog 248 Extern.Sync.semrelease:=⟨_,func248,by kernel_rfl,by kernel_rfl,by kernel_rfl,by kernel_rfl⟩
theorem yr:Entry prog 171 Extern.Sync.semrelease:=⟨_,func171,by kernel_rfl,by kernel_rfl,by kernel_rfl,by kernel_rfl⟩
theorem PO:prog.underlying 195=some .unsafePointer:=by kernel_rfl
theorem Il:prog.underlying 237=some (.pointer 171):=by kernel_rfl
theorem Ik:(prog.info? 171).map (λi=>decide (i.size=0))=some false:=by kernel_rfl
theorem Ij:prog.underlying 193=some (.pointer 179):=by kernel_rfl
theorem Ii:(prog.info? 179).map (λi=>decide (i.size=0))=some false:=by kernel_rfl
theorem E6:prog.underlying 200=some (.pointer 169):=by kernel_rfl
theorem E5:(prog.info? 169).map (λi=>decide (i.size=0))=some false:=by kernel_rfl
theorem NS:prog.underlying 21=some (.int .i32):=by kernel_rfl
theorem ξ.leave0 [ZS] {P:Program} {d:Value->Prop} {mn:Bool} {z:W'} {c b:Frame} {rest:List Frame} {H:Ψ} {t:Array Value} {ops:Array Oper} {fn:Func} (a:Seq z) (e:b.mode=.run) (f:b.roundOf=none) (g:b.defers=[]) (i:b.kind=.normal) (j:P.funcs[b.fn]?=some fn) (k:fn.results=#[])
  (h:ξ P d mn z (c.finish (.tuple #[])) rest H):ξ P d mn z (Η b t [.inRegion ops []]) (c::rest) H:=by
 refine .ZM a e (.QX a e f (.back a rfl g (.inl i) j ?_));rw[results_none k];exact Ω.pure' h
theorem Zq.leave0 [ZS] {P:Program} {a:Value->Prop} {mn:Bool} {x:γ} {c b:Frame} {rest:List Frame} {H:Ψ} {t:Array Value} {ops:Array Oper} {fn:Func} (d:Seq (one x)) (e:b.mode=.run) (f:b.roundOf=none) (g:b.defers=[]) (i:b.kind=.normal) (j:P.funcs[b.fn]?=some fn) (k:fn.results=#[])
  (h:Zq P a mn x (c.finish (.tuple #[])) rest H):Zq P a mn x (Η b t [.inRegion ops []]) (c::rest) H:=
 ξ.leave0 (z:=one x) d e f g i j k (λy l=>by cases l;exact h) x rfl
structure VW (x:γ) (s m:Nat) (sp:Spec):Prop where
 rel:x.rel=false
 η:x.η=λ_=>none
 spec:x.spec s=some sp
 Z0:sp.Z0=some m
 top:sp.top<7
 still:∀a,a≠s->TS (x.tok a)
theorem VW.seq {x:γ} {s m:Nat} {sp:Spec} (h:VW x s m sp):∀t v d,@Seq Yo (one (ZR x s t v d)):=λt v d=>@Seq.PS Yo _ trivial h.rel h.η
theorem Zq.yq [ZS] {P:Program} {d:Value->Prop} {mn:Bool} {x:γ} {c b:Frame} {rest:List Frame} {H:Ψ} {t:Array Value} {ops:Array Oper} {k:List Item} {fn:Func} (a:Seq (one x)) (e:b.mode=.run) (f:b.roundOf=none) (g:b.defers=[]) (i:b.kind=.normal) (j:P.funcs[b.fn]?=some fn) (l:fn.results=#[])
  (h:Zq P d mn x (c.finish (.tuple #[])) rest H):Zq P d mn x (Η b t (.inRegion ops []::.code .ret::k)) (c::rest) H:=by
 refine ξ.ZM (x:=one x) a e (.ret a e f (.back a rfl g (.inl i) j ?_)) x rfl;rw[results_none l];exact Ω.pure' (λy m=>by cases m;exact h)
abbrev ptr (b o:Nat):Value:=.pointer (some ⟨b,o,none⟩)
section
variable {Q:Value->Prop} {mn:Bool} {x:γ} {c:Frame} {rest:List Frame} {S:Α} {B:θ} {σ:Υ} {H:Ψ} {s m k:Nat} {sp:Spec} {v:Option (Nat×ν)}
def Qv (Q:Value->Prop) (mn:Bool) (x:γ) (c:Frame) (rest:List Frame) (S:Α) (H:Ψ) (s k:Nat) (sp:Spec):Prop:=
 ∀(a:Α) (H':Ψ) (L:List Nat) (E:Ψ),Ext S [] H a [] H'->Holds a [] [] H'->sp.Yi L E->Apart H' E->(L.Nodup/\k∉L/\∃w,Fits H' w/\Fits E w)->Zq prog Q mn (ZR x s (.ch k (.YT L) .work) none 0) (c.finish (.tuple #[])) rest (join H' E)
def E4 (Q:Value->Prop) (mn:Bool) (x:γ) (s m k:Nat) (sp:Spec):Prop:=∀(c:Frame) (rest:List Frame) (S:Α) (B:θ) (σ:Υ) (H:Ψ) (v:Option (Nat×ν)),Holds S B σ H->Qv Q mn x c rest S H s k sp->
 Zq prog Q mn (ZR x s (.ch k (.act false) .work) v 1) (Frame.enter prog 213 #[ptr m 0] .normal) (c::rest) H
theorem yp (b:VW x s m sp) (u:Holds S B σ H) (A:E4 Q mn x s m k sp)
  (r:Qv Q mn x c rest S H s k sp):Zq prog Q mn (ZR x s (.ch k .idle .work) v 0) (Frame.enter prog 175 #[ptr m 0] .normal) (c::rest) H:=by
 letI:ZS:=Yo;have a:=b.seq;refine V.R7 (z:=one _) (vs:=[ptr m 0]) func175 rfl u (by simp[ntmps175]) ?_ _ rfl;refine V.Zy (a _ _ _) ?_;refine Y' ?_;refine W.Zt (.stop ?_);refine V.disable (a _ _ _).here ⟨⟨rfl,rfl,by simp[Frame.enter],rfl⟩,Mv,⟨_,rfl⟩,rfl,rfl,rfl⟩ ?_;rw[My];refine V.Zy (a _ _ _) ?_;refine W.ZM ?_;refine Y' ?_;refine W.Zt ?_;refine XW [0,1,2] [3] ?_;refine W.stop ?_;refine V.Kb (a _ _ _).here (Vn _) (sp:=sp) b.spec (by rw[Zx];exact id) b.Z0 ⟨⟨rfl,rfl,by simp[Frame.enter],rfl⟩,J5,⟨_,rfl⟩,rfl,rfl,rfl⟩ (λφ d t hv=>?_) (λφ d t hv=>?_)
 .refine .inr ⟨.ch k (.act false) .work,by rw[Zx];exact .Dc,λC _=>?_⟩;rw[W6];refine V.Zy (a _ _ _) ?_;refine W.ZM ?_;refine Y' ?_;refine χ rfl ?_;refine Y' ?_;refine W.Zt ?_;refine XW [0] [1] ?_;refine W.stop ?_;refine V.call (a _ _ _) ⟨rfl,rfl,by simp[Frame.enter],rfl⟩ rfl rfl rfl ⟨_,func213,rfl,rfl⟩ λh f i t1 N j e hv=>?_;obtain rfl:=Ug (l:=[ptr m 0]) hv;rintro y rfl;refine A _ _ h f _ i _ e.holds λD F L E I J n o p=>?_;rw[Wr rfl];refine Zq.leave0 (a _ _ _) rfl rfl rfl rfl func175 rfl ?_;obtain rfl:f=[]:=YV.1 e.holds.len;exact r D F L E (j.ext.trans I) J n o p
 .have g:d.Zj=0/\d.sv=0/\d.wk=0/\d.nw=0:=by simp only[mwd] at hv;omega
  refine⟨{d with Zj:=1},.ch k .own .work,by simp[mwd];omega,rfl,⟨rfl,rfl,rfl⟩,by rw[Zx];exact .Dd g.1 g.2.1 g.2.2.1 g.2.2.2,λC _=>?_⟩;rw[W6];refine V.Zy (a _ _ _) ?_;refine W.ZM ?_;refine Y' ?_;refine υ rfl ?_;refine Y' ?_;refine υ rfl ?_;refine Y' ?_;refine W.Zt (.stop ?_);refine V.enable (a _ _ _).here (Vn _) ⟨⟨rfl,rfl,by simp[Frame.enter],rfl⟩,PQ,⟨_,rfl⟩,rfl,rfl,rfl⟩ ?_;rw[Mx];refine V.Zy (a _ _ _) ?_;refine W.ZM ?_;refine Y' ?_;refine W.Zt ?_;refine XW [0] [1,2] ?_;refine W.stop ?_;refine V.conv (a _ _ _).here (sp:=sp) b.spec (by rw[Zx];exact id) ⟨rfl,rfl,by simp[Frame.enter],rfl⟩ rfl rfl rfl Il PO Ik rfl (λd w K M=>⟨_,M.R9 (by rw[K];exact b.Z0)⟩) (λφ d t=>?_);unfold Wx;rw[Vt];refine V.LB b.rel rfl (sp:=sp) b.spec b.Z0 Zx ⟨⟨rfl,rfl,by simp[Frame.enter],rfl⟩,J6,⟨_,rfl⟩,rfl,rfl,rfl⟩ λh f i t1 L E j e n o p=>?_;rw[W6];obtain rfl:f=[]:=YV.1 e.holds.len;refine Zq.yq (a _ _ _) rfl rfl rfl rfl func175 rfl ?_;exact r h i L E j.ext e.holds n o p
end
def YC:List Nat->Code->Code
 | [],c=>c
 | 0::l,.seq a _=>YC l a
 | _::l,.seq _ b=>YC l b
 | 0::l,.cond _ a _=>YC l a
 | _::l,.cond _ _ b=>YC l b
 | _::l,.block _ c=>YC l c
 | _::l,.loop c=>YC l c
 | _,c=>c
noncomputable def R2:Code:=f213.body.getD .skip
noncomputable def Ue:Code:=YC [1,1,1,1,1,0,0,0] R2
noncomputable def R1:Code:=YC [0,1] Ue
noncomputable def Rl:Code:=YC [1,1,1,1,1] R1
noncomputable def Ud:Code:=YC [1,0] Rl
noncomputable def Mu:Code:=YC [1,1,1,1,1,1] R2
noncomputable def U5:List Item:=[.inLoop Ue,.inBlock 0,.code Mu]
abbrev VG (a:Value->Prop) (mn:Bool) (x:γ) (c:Frame) (rest:List Frame) (S:Α) (H:Ψ) (s m:Nat) (t:Tok) (v:Option (Nat×ν)) (d:Nat) (K:List Item) (env:Ι):Prop:=
 V prog a mn (one (ZR x s t v d)) (Frame.enter prog 213 #[ptr m 0] .normal) (c::rest) 139 ⟨S,[],H,[],0⟩ K env []
def Y6 (m:Nat) (w:Int) (a st:Bool) (b τ:Int):Ι:=[(0,.z (ptr m 0)),(2,.z (.int .i64 τ)),(3,.z (.bool st)),(4,.z (.bool a)),(5,.z (.int .i64 b)),(6,.z (.int .i32 w))]
def SA (a b c n:Nat) (d st:Bool):Int:=
 if a=0/\c=0 then W5 1 (if d then 0 else b) 0 n else W5 a (if d then 0 else b) (if st=true/\a=1 then 1 else c) (n+1)
section
variable {Q:Value->Prop} {mn:Bool} {x:γ} {c:Frame} {rest:List Frame} {S:Α} {B:θ} {σ:Υ} {H:Ψ} {s m k:Nat} {sp:Spec} {v:Option (Nat×ν)} {t:Tok}
theorem yo (C:VW x s m sp) {a b e n:Nat} {j st:Bool} {y τ:Int} (p:a<2) (r:b<2) (u:e<2) (D:n<7) (E:j=true->e=0/\b=1) (K:st=true->j=true)
  (f:VG Q mn x c rest S H s m t v 1 (.code (YC [0] Rl)::.code (YC [1] Rl)::.inBlock 1::U5) (Y6 m (W5 a b e n) j st y τ++[(7,.z (.int .i32 (SA a b e n j st)))])) :
  VG Q mn x c rest S H s m t v 1 (.code R1::.inBlock 1::U5) (Y6 m (W5 a b e n) j st y τ):=by
 letI:ZS:=Yo;have F:=C.seq;have A:(a=0\/a=1)/\(e=0\/e=1):=U;have g:=Ip a p b r e u n U;have h:=Iq a p b r e u n U;have B:=yE a p b r e u n U;have k:=yD a p b r e u n U;have w:=yA a p b r e u n D;refine V.Zy (F _ _ _) ?_;unfold R1 Ue R2;cases j with
 | false=>
  have I:st=false:=by cases st<;>simp_all
  subst I;rcases A with⟨rfl|rfl,rfl|rfl⟩
  ·(repeat (first|apply Xh|apply Xg|apply WY|apply wd|refine υ rfl ?_|refine χ rfl ?_|(refine YH λi d=>?_;simp;(repeat (rw[Μ];simp[Y6,g,h,k]));apply d)));exact W.forget _ (by simp[Y6,SA]) (.stop f)
  ·(repeat (first|apply Xh|apply Xg|apply WY|apply wd|refine υ rfl ?_|refine χ rfl ?_|(refine YH λi d=>?_;simp;(repeat (rw[Μ];simp[Y6,g,h,w]));apply d)));exact W.forget _ (by simp[Y6,SA]) (.stop f)
  ·(repeat (first|apply Xh|apply Xg|apply WY|apply wd|refine υ rfl ?_|refine χ rfl ?_|(refine YH λi d=>?_;simp;(repeat (rw[Μ];simp[Y6,g,h,k,w]));apply d)));exact W.forget _ (by simp[Y6,SA]) (.stop f)
  ·(repeat (first|apply Xh|apply Xg|apply WY|apply wd|refine υ rfl ?_|refine χ rfl ?_|(refine YH λi d=>?_;simp;(repeat (rw[Μ];simp[Y6,g,h,w]));apply d)));exact W.forget _ (by simp[Y6,SA]) (.stop f)
 | true=>
  obtain⟨rfl,rfl⟩:=E rfl;rcases A with⟨rfl|rfl,-⟩
  .have l:=J7 1 U 1 U 0 U n U
   have o:=Io 1 U 1 U 0 U n U;cases st
   ·(repeat (first|apply Xh|apply Xg|apply WY|apply wd|refine υ rfl ?_|refine χ rfl ?_|(refine YH λi d=>?_;simp;(repeat (rw[Μ];simp[Y6,g,h,k,l,o]));apply d)));exact W.forget _ (by simp[Y6,SA]) (.stop f)
   ·(repeat (first|apply Xh|apply Xg|apply WY|apply wd|refine υ rfl ?_|refine χ rfl ?_|(refine YH λi d=>?_;simp;(repeat (rw[Μ];simp[Y6,g,h,B,k,l,o]));apply d)));exact W.forget _ (by simp[Y6,SA]) (.stop f)
  .cases st
   .have l:=J7 1 U 1 U 0 U (n+1) U
    have o:=Io 1 U 1 U 0 U (n+1) U;(repeat (first|apply Xh|apply Xg|apply WY|apply wd|refine υ rfl ?_|refine χ rfl ?_|(refine YH λi d=>?_;simp;(repeat (rw[Μ];simp[Y6,g,h,k,w,l,o]));apply d)));exact W.forget _ (by simp[Y6,SA]) (.stop f)
   .have J:=yB 1 U 1 U 0 U (n+1) U
    have l:=J7 1 U 1 U 1 U (n+1) U
    have o:=Io 1 U 1 U 1 U (n+1) U;(repeat (first|apply Xh|apply Xg|apply WY|apply wd|refine υ rfl ?_|refine χ rfl ?_|(refine YH λi d=>?_;simp;(repeat (rw[Μ];simp[Y6,g,h,B,k,w,J,l,o]));apply d)));exact W.forget _ (by simp[Y6,SA]) (.stop f)
theorem E3 (a:VW x s m sp) (e:Qv Q mn x c rest S H s k sp) {env:Ι} (f:Z' env 0=.z (ptr m 0)):VG Q mn x c rest S H s m (.ch k .own .work) v 1 [.code Mu] env:=by
 letI:ZS:=Yo;have b:=a.seq;refine V.Zy (b _ _ _) ?_;unfold Mu R2;refine υ rfl ?_;refine Y' ?_;refine W.Zt (.stop ?_);refine V.enable (b _ _ _).here (Vn _) ⟨⟨rfl,rfl,by simp[Frame.enter],rfl⟩,PQ,⟨_,rfl⟩,rfl,rfl,rfl⟩ ?_;rw[Mx];refine V.Zy (b _ _ _) ?_;refine W.ZM ?_;refine Y' ?_;refine W.Zt ?_;refine W.part (A:=[]) Τ [0] [1,2] rfl λy g=>?_;simp;(repeat (rw[Μ];simp[f]));apply g;refine W.stop ?_;refine V.conv (b _ _ _).here (sp:=sp) a.spec (by rw[Zx];exact id) ⟨rfl,rfl,by simp[Frame.enter],rfl⟩ rfl rfl rfl Il PO Ik rfl (λh w i j=>⟨_,j.R9 (by rw[i];exact a.Z0)⟩) (λφ h B=>?_);unfold Wx;rw[Vt];refine V.LB a.rel rfl (sp:=sp) a.spec a.Z0 Zx ⟨⟨rfl,rfl,by simp[Frame.enter],rfl⟩,J6,⟨_,rfl⟩,rfl,rfl,rfl⟩ λl n o t1 L E p d r t u=>?_;rw[W6];obtain rfl:n=[]:=YV.1 d.holds.len;refine Zq.leave0 (b _ _ _) rfl rfl rfl rfl func213 rfl ?_;exact e l o L E p.ext d.holds r t u
end
section
variable {Q:Value->Prop} {mn:Bool} {x:γ} {c:Frame} {rest:List Frame} {S:Α} {B:θ} {σ:Υ} {H:Ψ} {s m k:Nat} {sp:Spec} {v:Option (Nat×ν)} {t:Tok}
theorem J4:(prog.funcs[213]?).any (·.norace)=true:=by kernel_rfl
theorem E2:(prog.funcs[245]?).any (·.norace)=true:=by kernel_rfl
def Mt (Q:Value->Prop) (mn:Bool) (x:γ) (c:Frame) (rest:List Frame) (S:Α) (H:Ψ) (s m k:Nat) (sp:Spec) (φ:Nat):Prop:=
 ∀(e:Nat) (a:ν) (b st:Bool) (d τ:Int),e<φ->a.toSpec=sp->Qx a (.ch k (.act b) .work)->(st=true->b=true)->0<=d->d<=4->VG Q mn x c rest S H s m (.ch k (.act b) .work) (some (e,a)) 1 U5 (Y6 m (mwd a) b st d τ)
theorem E1 {a:ν} {b:Bool} (h:Qx a (.ch k (.act b) .work)):b=true->a.sv=0/\a.wk=1:=λe=>h.yJ (by rw[e];rfl)
theorem yn (e:VW x s m sp) (L:Qv Q mn x c rest S H s k sp) {φ:Nat} (M:Mt Q mn x c rest S H s m k sp φ) {u:Nat} {C:ν} (o:u<φ) {st:Bool} {τ:Int} :
  VG Q mn x c rest S H s m (.ch k .wk .work) (some (u,C)) 1 (.code (YC [1,1,1,1,1] Ud)::.inBlock 1::U5) [(0,.z (ptr m 0)),(2,.z (.int .i64 τ)),(3,.z (.bool st))]:=by
 letI:ZS:=Yo;have g:=e.seq;refine V.Zy (g _ _ _) ?_;unfold Ud Rl R1 Ue R2;refine Y' ?_;refine W.Zt ?_;refine XW [0,1,2] [3,4] ?_;refine W.stop ?_;refine V.NT (g _ _ _).here (sp:=sp) e.spec (by rw[Zx];exact id) ⟨rfl,rfl,by simp[Frame.enter],rfl⟩ rfl rfl rfl NS rfl J4 mwd (λa w N O=>O.R9 (by rw[N];exact e.Z0)) (λZ a p=>.inr ?_);have b:=p.VX.TQ;rw[Zx] at b;have hv:=p.view u C SC;have D:=b.yI rfl;have aa:a.top<7:=by have:=e.top;rw[show a.top=sp.top by rw[<-p.spec]];exact this
 have ab:=b.nw
 have ad:=b.Zj;have ae:=b.wk;have af:=b.sv
 have i:=Ip a.Zj U a.wk U a.sv U a.nw U
 have l:=yG a.Zj U a.wk U a.sv U a.nw U
 have r:=Im a.Zj U a.wk U a.sv U a.nw U;rw[<-SB] at i l r;rcases(show a.sv=0\/a.sv=1 by omega) with f|f
 .refine⟨.ch k (.act true) .work,by rw[Zx];exact .norm f,λv P=>?_⟩;rw[W6];rw[f] at i;refine V.Zy (g _ _ _) ?_;refine W.part (A:=[]) Τ [4] [] rfl λE n=>?_;(try simp);(repeat (rw[Μ];simp));(try simp);apply n;refine W.ZM ?_;refine WQ i ?_;refine W.forget (Y6 m (mwd a) true st 0 τ) (by simp[Y6]) (.stop ?_);exact M v a true st 0 τ U p.spec ⟨b.Zj,b.wk,b.sv,b.YM,b.nw,λ_=>⟨f,D.1 f⟩,λh=>(by cases h),λh=>(by cases h),λh=>(by cases h)⟩ (λ_=>rfl) U U
 .obtain⟨R,T,ag⟩:=D.2 f;refine⟨.ch k .hw .work,by rw[Zx];exact .hand f,λv P=>?_⟩;rw[W6];rw[f] at i;rw[R,T] at l;have y:¬a.nw=0:=U;have F:IntKind.i32.wrap (-11)=-11:=Z2;have X:∀(w:Option (Nat×ν)) (env:Ι),Z' env 0=.z (ptr m 0)->VG Q mn x c rest S H s m (.ch k .own .work) w 1 [.code Mu] env:=λw env h=>E3 e L h;have add:∀(j:Bool) (env:Ι),Z' env 0=.z (ptr m 0)->Z' env 9=.z (.int .i32 (if j then -11 else -7))->VG Q mn x c rest S H s m (.ch k .hw .work) (some (v,a)) 1 (.code (YC [1,1,1,1,1,1,0,1,0,1,1,1,0] Ud)::.code (YC [1,1,1,1,1,1,0,1,0,1,1,1,1] Ud)::.code (YC [1,1,1,1,1,1,1] Ud)::.inBlock 1::U5) env:=λj env o I=>by
   refine V.Zy (g _ _ _) ?_;unfold Ud Rl R1 Ue R2;refine Y' ?_;refine W.Zt ?_;refine W.part (A:=[]) Τ [0,1,2,3] [4] rfl λE n=>?_;(try simp);(repeat (rw[Μ];simp[o,I]));(try simp[o,I]);apply n;refine W.stop ?_;refine V.Fp (g _ _ _).here (Vn _) (sp:=sp) e.spec (by rw[Zx];exact id) e.Z0 (d:=if j then -11 else -7) ⟨⟨rfl,rfl,by simp[Frame.enter],rfl⟩,Fb,⟨_,rfl⟩,rfl,rfl,rfl⟩ (λah t J=>?_);have B:=J.VX.TQ;rw[Zx] at B;obtain⟨f1,f2,f3,f4⟩:=B.hw rfl;have ai:t.top<7:=by have:=e.top;rw[show t.top=sp.top by rw[<-J.spec]];exact this
   have aj:=B.nw;refine⟨{t with Zj:=1,nw:=t.nw-1,sv:=if j then 0 else 1},.ch k .own .work,?_,rfl,⟨rfl,rfl,rfl⟩,by rw[Zx];exact .hacq j,λak _=>?_⟩
   .cases j<;>simp[mwd,IntKind.wrap_i32,f1,f2,f3]<;>omega
   .rw[W6];refine V.Zy (g _ _ _) ?_;refine W.ZM ?_;refine Y' ?_;refine W.exit rfl (.stop ?_);refine X _ _ ?_;simp[o]
  refine V.Zy (g _ _ _) ?_;refine W.part (A:=[]) Τ [4] [] rfl λE n=>?_;(try simp);(repeat (rw[Μ];simp));(try simp);apply n;refine W.ZM ?_;cases st with
  | false=>
   refine WQ (Ρ i (Ρ l (Ρ r (Ρ y F)))) ?_;exact .stop (add true _ rfl rfl)
  | true=>
   by_cases K:a.nw=1
   .refine WQ (Ρ i (Ρ l (Ρ r (Ρ y (Ρ K F))))) ?_;exact .stop (add true _ rfl rfl)
   .have Y:¬(a.nw:Int)=1:=U
    refine WQ (Ρ i (Ρ l (Ρ r (Ρ y (Ρ K Y))))) ?_;exact .stop (add false _ rfl rfl)
theorem ym (a:VW x s m sp) (p:Qv Q mn x c rest S H s k sp) {φ:Nat} (r:Mt Q mn x c rest S H s m k sp φ) {e:Nat} {i:ν} (B:e<φ) {st y:Bool} {τ:Int} :
  VG Q mn x c rest S H s m (.ch k .q .work) (some (e,i)) 1 (.code (YC [1,1,1,0] Ud)::.code (YC [1,1,1,1] Ud)::.inBlock 1::U5) [(0,.z (ptr m 0)),(2,.z (.int .i64 τ)),(3,.z (.bool st)),(8,.z (.bool y))]:=by
 letI:ZS:=Yo;have b:=a.seq;have next:∀(d:Nat) (j:ν) (st:Bool),d<φ->VG Q mn x c rest S H s m (.ch k .wk .work) (some (d,j)) 1 (.code (YC [1,1,1,1,1] Ud)::.inBlock 1::U5) [(0,.z (ptr m 0)),(2,.z (.int .i64 τ)),(3,.z (.bool st))]:=λd j st t=>yn a p r t
 refine V.Zy (b _ _ _) ?_;unfold Ud Rl R1 Ue R2;refine Y' ?_;refine W.Zt ?_;refine XW [0,1,2,3] [4] ?_;refine W.stop ?_;refine V.y1 (b _ _ _).here (sp:=sp) a.spec (by rw[Zx];exact id) a.Z0 (vs:=[ptr m 1,.bool y,.int .i64 2]) rfl (λu l=>by rw[Mw l];exact a.still u l) ⟨⟨rfl,rfl,by simp[Frame.enter],rfl⟩,yt,⟨_,rfl⟩,rfl,rfl,rfl⟩ (λd f n h=>by rw[Zx];exact h) (λd f n h=>?_);have hv:=n.view e i SC;refine⟨{f with YM:=f.YM-1},.ch k .wk .work,rfl,rfl,⟨rfl,rfl,rfl⟩,by rw[Zx];exact .take h,λo C=>?_⟩;rw[W6];refine V.Zy (b _ _ _) ?_;refine W.ZM ?_;cases st with
 | true=>
  first|apply Xh|apply Xg|apply WY|apply wd
  refine YH λv g=>?_;(try simp);(repeat (rw[Μ];simp));(try simp);apply g;refine W.forget [(0,.z (ptr m 0)),(2,.z (.int .i64 τ)),(3,.z (.bool true))] J (.stop ?_);exact next o _ true U
 | false=>
  first|apply Xh|apply Xg|apply WY|apply wd
  refine W.Zt ?_;refine XW [0,1] [2,3,4,5,6,7] ?_;refine W.stop ?_;refine V.nano (b _ _ _) (vs:=[]) ⟨⟨rfl,rfl,by simp[Frame.enter],rfl⟩,E8,⟨_,rfl⟩,rfl,rfl,rfl⟩ E2 λw=>?_;refine V.Zy (b _ _ _) ?_;refine W.part (A:=[]) Τ [3,4,5,6,7] [] rfl λv g=>?_;(try simp);(repeat (rw[Μ];simp));(try simp);apply g;refine W.ZM ?_;refine W.forget [(0,.z (ptr m 0)),(2,.z (.int .i64 τ)),(3,.z (.bool (decide (1000000<IntKind.i64.wrap (w-τ)))))] J (.stop ?_);exact next o _ _ U
theorem yl (e:VW x s m sp) (l:Qv Q mn x c rest S H s k sp) {φ:Nat} (n:Mt Q mn x c rest S H s m k sp φ) {b:Nat} {f:ν} (o:b<φ) {w:Int} {p st:Bool} {r τ:Int} (g:¬X9 .i32 w 5=0) :
  VG Q mn x c rest S H s m (.ch k .q .work) (some (b,f)) 1 (.code Ud::.inBlock 1::U5) (Y6 m w p st r τ):=by
 letI:ZS:=Yo;have d:=e.seq;have next:∀(τ:Int) (y:Bool),VG Q mn x c rest S H s m (.ch k .q .work) (some (b,f)) 1 (.code (YC [1,1,1,0] Ud)::.code (YC [1,1,1,1] Ud)::.inBlock 1::U5) [(0,.z (ptr m 0)),(2,.z (.int .i64 τ)),(3,.z (.bool st)),(8,.z (.bool y))]:=λτ y=>ym e l n o
 refine V.Zy (d _ _ _) ?_;unfold Ud Rl R1 Ue R2;by_cases h:τ=0
 .subst h;(repeat (first|apply Xh|apply Xg|apply WY|apply wd|refine υ rfl ?_|refine χ rfl ?_|(refine YH λi a=>?_;simp;(repeat (rw[Μ];simp[Y6,g]));apply a)));refine W.Zt (.stop ?_);refine V.nano (d _ _ _) (vs:=[]) ⟨⟨rfl,rfl,by simp[Frame.enter],rfl⟩,E8,⟨_,rfl⟩,rfl,rfl,rfl⟩ E2 λj=>?_;refine V.Zy (d _ _ _) ?_;refine W.part (A:=[]) Τ [1] [] rfl λi a=>?_;(try simp);(repeat (rw[Μ];simp));(try simp);apply a;refine W.ZM ?_
  first|apply Xh|apply Xg|apply WY|apply wd
  refine W.forget [(0,.z (ptr m 0)),(2,.z (.int .i64 j)),(3,.z (.bool st)),(8,.z (.bool false))] J (.stop ?_);exact next j false
 ·(repeat (first|apply Xh|apply Xg|apply WY|apply wd|refine υ rfl ?_|refine χ rfl ?_|(refine YH λi a=>?_;simp;(repeat (rw[Μ];simp[Y6,g,h]));apply a)));refine W.forget [(0,.z (ptr m 0)),(2,.z (.int .i64 τ)),(3,.z (.bool st)),(8,.z (.bool true))] (by simp[h]) (.stop ?_);exact next τ true
end
end Go.TL
