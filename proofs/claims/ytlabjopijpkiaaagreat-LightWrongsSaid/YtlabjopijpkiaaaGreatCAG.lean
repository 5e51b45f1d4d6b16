import Derived.Conc.AtomicLaws2
import Derived.Conc.ClockLaws
import Derived.Conc.MarkLaws
import Derived.Conc.QuitsD
import Derived.Conc.SmallLaws
import Derived.Test.YtlabjopijpkiaaaGreatCAF
set_option maxHeartbeats 16000000
set_option maxRecDepth 20000
set_option linter.unusedSectionVars false
set_option linter.unusedSimpArgs false
set_option linter.unusedVariables false
namespace Go.TL
open Go.Proofs.Tryz
open Go.Proofs
variable [ZN]
theorem Μ.xx {P:Program} {σ:Ρ} {g:FuncId} {as0 first:ξ} {c row':Row} {r:I} {K E:I->Ρ->Prop} (h:Μ P g as0 [c] (λa s=>a=r/\s=[row']) (λ_ _=>False)) (id:Nat) (f:σ[id]?=some c) (k:V4 c) (l:V4 row') (m:∀a∈as0,Xh 1 a) (b:Xh 1 r)
  {args:ξ} (n:first++args=as0.map (Yk [id])) (o:K (Yk [id] r) (σ.set id row')):W5 P (.fn (.func g) first []) args σ K E:=by
 have p:=Μ.rows (σ:=σ) h [id] J rfl (λj i d=>by
  cases j with
  | zero=>simp at d;subst d;exact f
  | succ j=>simp at d) (λr b=>by simp at b;subst b;exact k) (by simpa using m) (K':=K) (E':=E) (λa s ⟨t,u⟩=>by
   subst t;subst u;refine⟨λx e=>by simp at e;subst e;exact l,b,?_⟩;simpa[names,P6,VM] using o) (λa s h=>h.elim)
 exact Μ.call (first:=first) (captured:=[]) (by rw[Tn,n];exact p)
def Pd (s:υ) (f:Found) (c n:Nat) (m:List (Int×Int)) (j:Nat):List (Int×Int):=(((f.cells[c]?).getD []).take j).foldl (λm r=>Pe m (s.X4 (f.u,f.v) r n) (f.many c)) m
def Ob (s:υ) (F:List Found) (c n i:Nat):List (Int×Int):=(F.take i).foldl (λm f=>Pd s f c n m ((f.cells[c]?).getD []).length) []
def Pb (a:Int) (l:List (Int×Int)):Int:=l.foldl (λa e=>max a e.2) a
def Jp (s:υ) (F:List Found) (c n:Nat):Int:=Pb 0 (Ob s F c n F.length)
def Oa (s:υ) (F:List Found) (c:Nat) (b:Ui) (n:Nat):Ui:=(List.range n).foldl (λb (n:Nat)=>b.take c n (Jp s F c n)) b
def Pa (s:υ) (F:List Found) (c:Nat):Ui:=(List.range c).foldl (λb (c:Nat)=>Oa s F c b s.Β.length) ⟨0,0,0,false⟩
theorem xw (s:υ) (F:List Found) (c:Nat) (b:Ui) (n:Nat):Oa s F c b (n+1)=(Oa s F c b n).take c n (Jp s F c n):=by simp[Oa,VA,PD]
theorem xv (s:υ) (F:List Found) (c:Nat):Pa s F (c+1)=Oa s F c (Pa s F c) s.Β.length:=by simp[Pa,VA,PD]
theorem xu (s:υ) (f:Found) (c n:Nat) (m:List (Int×Int)) (j:Nat) (h:j<((f.cells[c]?).getD []).length):Pd s f c n m (j+1)=Pe (Pd s f c n m j) (s.X4 (f.u,f.v) ((f.cells[c]?).getD [])[j] n) (f.many c):=by
 unfold Pd;rw[Wx h,PD];rfl
theorem xr (s:υ) (F:List Found) (c n i:Nat) (h:i<F.length):Ob s F c n (i+1)=Pd s F[i] c n (Ob s F c n i) ((F[i].cells[c]?).getD []).length:=by
 unfold Ob;rw[Wx h,PD];rfl
theorem xq {a:Int} {l m:List (Int×Int)} (h:l.Perm m):Pb a l=Pb a m:=h.foldl_eq' (λx _ y _ z=>U) a
def PY (s:υ) (F:List Found):Int×Int×Int×Int:=
 if(Xl s true F).2.2≠0 then(0,0,0,(Xl s true F).2.2)
 else let b:=Pa s F s.cells.length;if b.some=false\/b.least=UL F then(0,0,0,11) else(b.c,b.n,b.least,0)
structure Jo (s:υ) (F:List Found):Prop where
 Rw:F.length<2 ^ 20
 cells:∀f∈F,f.cells.length=s.cells.length/\(∀c∈f.cells,c.length<2 ^ 20/\∀r∈c,r.1<s.Α.length/\r.2<s.Α.length)
 many:∀f∈F,f.cells.length<2 ^ 62/\∀(a:Int) i,i<=f.cells.length->VK f.cells a i<2 ^ 62
 count:UL F<2 ^ 62
theorem xp (s:υ) (L:s.small) (F:List Found) (aG:Ry s F) (D:Jo s F) :
  Κ prog 26 [ZB s] (.ZV [R (PY s F).1,R (PY s F).2.1,R (PY s F).2.2.1,R (PY s F).2.2.2]):=by
 refine Μ.body Υ func26 rfl rfl ntmps26 rfl rfl J ?_;refine Χ ?_;refine Y1 ?_;refine Zj (A:=[6]) Υ λt a=>ZY ?_;refine Κ.d (Js s L true F aG) (ZY ?_);apply a;by_cases b:(Xl s true F).2.2=0
 case neg=>
  have e:PY s F=(0,0,0,(Xl s true F).2.2):=by unfold PY;rw[if_pos b]
  rw[e];generalize (Xl s true F).2.2=aH at b;refine Χ ?_;refine Γ (by simp[b]) ?_;refine Χ ?_;refine W.drop (h:=0) (σ':=[]) (Ε _) (Ε _) J rfl [(2,R 0),(3,R 0),(4,R 0),(5,R aH)] J ?_;refine W.rt ?_;exact .refl _
 have e:Xl s true F=(s,F,0):=by
  unfold Xl at b ⊢;split at b
  .rename_i h;simp at b;exact absurd b h
  .split at b
   .simp at b
   .rename_i V aI;rw[if_neg V,if_neg aI]
 have Φ:PY s F=let b:=Pa s F s.cells.length;if b.some=false\/b.least=UL F then(0,0,0,11) else(b.c,b.n,b.least,0):=by unfold PY;rw[if_neg (by simpa using b)]
 rw[Φ,e];clear Φ;refine W.fix (id:=0) (σ':=[]) (Ε _) rfl J J rfl [(5,R 0),(6,Z9 s),(7,YW F)] J ?_;refine Χ ?_;refine Η rfl ?_
 repeat apply Ξ
 refine Zj (A:=[8]) Υ λt a=>ZY ?_;apply a;refine Χ ?_;have aX:s.cells.length<2 ^ 30:=L.2.2.1;have aY:s.Β.length<2 ^ 30:=L.2.1;have am:∀{b:Ui} (g:List (Int×Int)),∀r∈[Row.cells 104 4 [Uh b],.map (g.map V1)],Yc [Row.cells 104 4 [Uh b],.map (g.map V1)].length r:=λ{b} g r E=>by
  simp only[Zm,YM,or_false] at E;rcases E with rfl|rfl
  .simp[Yc,I.cells]
  .intro e aJ;obtain⟨x,_,rfl⟩:=Zd.1 aJ;simp
 refine W.iter (λc:Nat=>c<=s.cells.length) (λc=>[(6,Z9 s),(7,YW F),(8,.Ο 0 1 0 0),(9,.fn (.func 76) [.Ο 0 1 0 0] []),(33,R s.cells.length),(34,R c)])
  (λc=>[.cells 104 4 [Uh (Pa s F c)]]) (λc=>s.cells.length-c) 0 (Ε _) rfl J (λc aZ aK=>?_)
 refine Χ ?_;refine W.YN rfl (λM=>?_) (λM=>?_)
 .have X:c<s.cells.length:=by simpa using M
  refine Χ ?_;obtain⟨an,ao⟩:=Ι (Pa s F c);refine W.iter (λn:Nat=>n<=s.Β.length) (λn=>[(6,Z9 s),(7,YW F),(8,.Ο 0 1 0 0),(9,.fn (.func 76) [.Ο 0 1 0 0] []),(10,R c),(33,R s.cells.length),(34,R c),(40,R s.Β.length),(41,R n)])
   (λn=>[.cells 104 4 [Uh (Oa s F c an n)]]) (λn=>s.Β.length-n) 0 (Ε _) (by rw[ao];rfl) J (λn a0 aL=>?_)
  refine Χ ?_;refine W.YN rfl (λY=>?_) (λY=>?_)
  .have P:n<s.Β.length:=by simpa using Y
   obtain⟨l,ap⟩:=Ι (Oa s F c an n);refine W.to (σ':=[.cells 104 4 [Uh l]]) (env':=[(6,Z9 s),(7,YW F),(8,.Ο 0 1 0 0),(9,.fn (.func 76) [.Ο 0 1 0 0] []),(10,R c),(33,R s.cells.length),(34,R c),(40,R s.Β.length),(41,R n)]) ?_ (by rw[ap]) J;refine Χ ?_;refine W.iter (λi:Nat=>i<=F.length) (λi=>[(6,Z9 s),(7,YW F),(8,.Ο 0 1 0 0),(9,.fn (.func 76) [.Ο 0 1 0 0] []),(10,R c),(33,R s.cells.length),(34,R c),(40,R s.Β.length),(41,R n),(11,R n),(12,.mp 1),(45,YW F),(46,R F.length),(47,R i)])
    (λi=>[.cells 104 4 [Uh l],.map ((Ob s F c n i).map V1)]) (λi=>F.length-i) 0 (Ε _) rfl J (λi hi aM=>?_)
   refine Χ ?_;by_cases H:i<F.length
   .refine Γ (by simp[H]) ?_;obtain⟨g,N⟩:=Ι (Ob s F c n i);have O:=xr s F c n i H;rw[<-N] at O;obtain⟨aq,ar⟩:=D.cells _ (Y2 H);obtain⟨Z,aa⟩:=D.many _ (Y2 H);generalize Q:F[i]=f at O aq ar Z aa;have ab:c<f.cells.length:=by rw[aq];exact X
    refine W.to (σ':=[.cells 104 4 [Uh l],.map (g.map V1)]) (env':=[(6,Z9 s),(7,YW F),(8,.Ο 0 1 0 0),(9,.fn (.func 76) [.Ο 0 1 0 0] []),(10,R c),(33,R s.cells.length),(34,R c),(40,R s.Β.length),(41,R n),(11,R n),(12,.mp 1),(45,YW F),(46,R F.length),(47,R i)]) ?_ (by rw[N]) J
    repeat apply Ξ
    refine Zj (A:=[14]) Υ λt a=>XF (Τ H Q) ?_;apply a;refine W.VI (σ0:=[.cells 104 4 [Uh l],.map (g.map V1)]) (Ε _) (am _) J [(14,.ω [R f.u,R f.v,TT f.cells]),(6,Z9 s),(7,YW F),(8,.Ο 0 1 0 0),(9,.fn (.func 76) [.Ο 0 1 0 0] []),(10,R c),(33,R s.cells.length),(34,R c),(40,R s.Β.length),(41,R n),(11,R n),(12,.mp 1),(45,YW F),(46,R F.length),(47,R i)] (by simp[Xz,Qb]) ?_;refine Ζ ab ?_;have au:(f.cells[c]?).getD []=f.cells[c]:=by simp[ab]
    rw[au] at O;have av:=ar _ (Y2 ab);have ad:=xu s f c n g;rw[au] at ad;generalize f.cells[c]=C at O av ad;obtain⟨a1,aN⟩:=av;refine W.iter (λj:Nat=>j<=C.length) (λj=>[(14,.ω [R f.u,R f.v,TT f.cells]),(6,Z9 s),(7,YW F),(8,.Ο 0 1 0 0),(9,.fn (.func 76) [.Ο 0 1 0 0] []),(10,R c),(33,R s.cells.length),(34,R c),(40,R s.Β.length),(41,R n),(11,R n),(12,.mp 1),(45,YW F),(46,R F.length),(47,R i),(55,TU C),(56,R C.length),(57,R j)])
     (λj=>[.cells 104 4 [Uh l],.map ((Pd s f c n g j).map V1)]) (λj=>C.length-j) 0 (Ε _) (by simp[Pd]) J (λj a2 aw=>?_)
    refine Χ ?_;by_cases K:j<C.length
    .refine Γ (by simp[K]) ?_;obtain⟨ae,ax⟩:=Ι (Pd s f c n g j);have S:=ad j K;rw[<-ax] at S;refine W.to (σ':=[.cells 104 4 [Uh l],.map (ae.map V1)]) (env':=[(14,.ω [R f.u,R f.v,TT f.cells]),(6,Z9 s),(7,YW F),(8,.Ο 0 1 0 0),(9,.fn (.func 76) [.Ο 0 1 0 0] []),(10,R c),(33,R s.cells.length),(34,R c),(40,R s.Β.length),(41,R n),(11,R n),(12,.mp 1),(45,YW F),(46,R F.length),(47,R i),(55,TU C),(56,R C.length),(57,R j)]) ?_ (by rw[ax]) J;obtain⟨af,ag⟩:=aN _ (Y2 K);generalize E:C[j]=r at S af ag
     repeat apply Ξ
     refine Zj (A:=[16]) Υ λt a=>XF (Τ K E) ?_;apply a;refine W.VI (σ0:=[.cells 104 4 [Uh l],.map (ae.map V1)]) (Ε _) (am _) J [(16,.ω [R r.1,R r.2]),(14,.ω [R f.u,R f.v,TT f.cells]),(6,Z9 s),(7,YW F),(8,.Ο 0 1 0 0),(9,.fn (.func 76) [.Ο 0 1 0 0] []),(10,R c),(33,R s.cells.length),(34,R c),(40,R s.Β.length),(41,R n),(11,R n),(12,.mp 1),(45,YW F),(46,R F.length),(47,R i),(55,TU C),(56,R C.length),(57,R j)] (by simp[Xz,Qb]) ?_
     repeat apply Ξ
     have T:=Yw K (show C.length<2 ^ 62 by omega);rcases xy (s.X4 (f.u,f.v) r n) (f.many c) ae 0 with⟨m,ah⟩|⟨o,v,a3,m,ah⟩
     .refine W.draw (A:=[]) Υ mixed λt a=>?_;simp;(repeat (rw[ZG];simp[m,VP]));try rw[ZH]
      refine Ys (Κ.p (LL s L (f.u,f.v) r n P af ag) (ZT.refl _) J J) ?_;simp[m,VP];(repeat (rw[ZG];simp[m,VP]));try rw[ZH]
      refine Ys (Κ.p (Jv f c Z (aa c)) (ZT.refl _) J J) ?_;simp[m,VP];(repeat (rw[ZG];simp[m,VP]));try rw[ZH]
      refine YF (a _ _ ?_);refine Ζ T ?_;refine W.to (aw (j+1) K U) ?_ ?_
      .rw[S,ah];simp
      .simp[T]
     .refine W.draw (A:=[]) Υ mixed λt a=>?_;simp;(repeat (rw[ZG];simp[m,VP]));try rw[ZH]
      refine Ys (Κ.p (LL s L (f.u,f.v) r n P af ag) (ZT.refl _) J J) ?_;simp[m,VP];(repeat (rw[ZG];simp[m,VP]));try rw[ZH]
      refine Ys (Κ.p (Jv f c Z (aa c)) (ZT.refl _) J J) ?_;simp[m,VP];(repeat (rw[ZG];simp[m,VP]));try rw[ZH]
      refine YF (a _ _ ?_);refine Ζ T ?_;refine W.to (aw (j+1) K U) ?_ ?_
      .rw[S,ah];simp
      .simp[T]
    .have aO:j=C.length:=U
     subst aO;have ay:=Yw H (show F.length<2 ^ 62 by have:=D.Rw;omega);refine Η J ?_;refine W.exit rfl ?_;refine Ζ ay ?_;refine W.to (aM (i+1) H U) ?_ ?_
     .rw[O]
     .simp[ay]
   .have aP:i=F.length:=U
    subst aP;refine Η J ?_;refine W.exit rfl ?_;obtain⟨g,N⟩:=Ι (Ob s F c n F.length);have aQ:Jp s F c n=Pb 0 g:=by rw[N];rfl
    refine W.to (σ':=[.cells 104 4 [Uh l],.map (g.map V1)]) (env':=[(6,Z9 s),(7,YW F),(8,.Ο 0 1 0 0),(9,.fn (.func 76) [.Ο 0 1 0 0] []),(10,R c),(33,R s.cells.length),(34,R c),(40,R s.Β.length),(41,R n),(11,R n),(12,.mp 1)]) ?_ (by rw[N]) J;refine Χ ?_;refine W.iter (λx:Int×List (Int×Int)×Option (I×I)=>Pb x.1 x.2.1=Pb 0 g) (λx=>[(6,Z9 s),(7,YW F),(8,.Ο 0 1 0 0),(9,.fn (.func 76) [.Ο 0 1 0 0] []),(10,R c),(33,R s.cells.length),(34,R c),(40,R s.Β.length),(41,R n),(11,R n),(12,.mp 1),(17,R x.1),(76,.it 2)])
     (λx=>[.cells 104 4 [Uh l],.map (g.map V1),.iter 1 (x.2.1.map V1) x.2.2]) (λx=>x.2.1.length) (0,g,none) rfl rfl J (λx ai aR=>?_)
    obtain⟨w,k,a4⟩:=x;simp only at ai
    repeat apply Ξ
    cases k with
    | nil=>
     refine ZP λt a=>?_;apply a
     repeat apply Ξ
     refine Η rfl ?_;refine W.exit rfl ?_;have aj:w=Jp s F c n:=by rw[aQ,<-ai];rfl
     have az:=Yw P (show s.Β.length<2 ^ 62 by omega);refine ZP λt a=>?_;refine Μ.xx (as0:=[.Ο 0 1 0 0,.Z' [R c,R n],R w]) (xz l c n w) 0 rfl (by simp[V4,I.cells]) (by simp[V4,I.cells]) (by simp[Xh,Sd]) (by simp[Xh]) rfl ?_;simp[Yk,Wf];(repeat (rw[Ν];simp));apply a;refine W.drop (h:=1) (σ':=[.cells 104 4 [Uh (l.take c n w)]]) (Ε _) J (λid r a5 E=>?_) rfl [(6,Z9 s),(7,YW F),(8,.Ο 0 1 0 0),(9,.fn (.func 76) [.Ο 0 1 0 0] []),(10,R c),(33,R s.cells.length),(34,R c),(40,R s.Β.length),(41,R n)] (by simp[Xz]) ?_
     .obtain rfl:id=0:=U
      simp at E;subst E;simp[Yc,I.cells]
     refine Ζ az ?_;refine W.to (aL (n+1) P U) ?_ ?_
     .rw[xw,<-ap,aj]
     .simp[az]
    | cons y k=>
     refine ZP λt a=>?_;intro o ak;obtain⟨x,aA⟩:=Ι ((y::k)[o]'(by simpa using ak));have aS:(V1 y::List.map V1 k)[o]?=some (V1 x):=by
      have:(List.map V1 (y::k))[o]?=some (V1 x):=by
       rw[Yh,ε (by simpa using ak),aA];rfl
      simpa using this
     have aT:(V1 y::List.map V1 k).eraseIdx o=((y::k).eraseIdx o).map V1:=DY V1 (y::k) o;rw[aS,aT];simp;(repeat (rw[Ν];simp));apply a
     repeat apply Ξ
     refine Γ rfl ?_;refine Χ ?_;have aB:o<(y::k).length:=by simpa using ak
     have aU:Pb (max w x.2) ((y::k).eraseIdx o)=Pb 0 g:=by
      rw[<-ai,<-xq (DZ (y::k) o aB),<-aA];rfl
     have aj:max w x.2=if w<x.2 then x.2 else w:=by split<;>omega
     refine W.to (aR (max w x.2,(y::k).eraseIdx o,some (V1 x)) aU (by simp only[List.length_eraseIdx,aB,if_true];omega)) ?_ ?_
     .simp
     .simp[aj]
  .have aV:n=s.Β.length:=by simp at Y;omega
   subst aV;have aC:=Yw X (show s.cells.length<2 ^ 62 by omega);refine W.exit rfl ?_;refine Ζ aC ?_;refine W.to (aK (c+1) X U) ?_ ?_
   .rw[xv,<-ao]
   .simp[aC]
 .have M:c=s.cells.length:=by simp at M;omega
  subst M;refine W.exit rfl ?_;refine Χ ?_;obtain⟨⟨aD,aE,al,aF⟩,aW⟩:∃B,B=Pa s F s.cells.length:=⟨_,rfl⟩;rw[<-aW];refine W.fix (id:=0) (σ':=[]) (Ε _) rfl J J rfl [(7,YW F),(8,.ω [R aD,R aE,R al,ZU aF])] J ?_;have V:∀f∈F,f.cells.length<2 ^ 62/\∀i,i<=f.cells.length->VK f.cells (-1) i<2 ^ 62:=λf Q=>⟨(D.many f Q).1,(D.many f Q).2 (-1)⟩;cases aF
  .refine Pk ?_;refine Γ rfl ?_;refine Χ ?_;refine W.drop (h:=0) (σ':=[]) (Ε _) (Ε _) J rfl [(2,R 0),(3,R 0),(4,R 0),(5,R 11)] J ?_;refine W.rt ?_;exact .of J
  .refine W.draw (A:=[]) Υ mixed λt a=>Vf ?_;refine Ys (Κ.p (yq F (by have:=D.Rw;omega) V D.count) (ZT.refl _) J J) ?_;simp;(repeat (rw[ZG];simp));try rw[ZH]
   refine YF (a _ _ ?_);by_cases q:al=UL F
   .refine Γ (by simp[q]) ?_;refine Χ ?_;refine W.drop (h:=0) (σ':=[]) (Ε _) (Ε _) J rfl [(2,R 0),(3,R 0),(4,R 0),(5,R 11)] J ?_;refine W.rt ?_;exact .of (by simp[q])
   .refine Η (by simp[q]) ?_;refine Χ ?_;refine Pk ?_;refine W.drop (h:=0) (σ':=[]) (Ε _) (Ε _) J rfl [(2,R aD),(3,R aE),(4,R al),(5,R 0)] J ?_;refine W.rt ?_;exact .of (by simp[q])
theorem xo (l:List Int) (B:l.length<2 ^ 30) :
  Μ prog 85 [.ms 0 l.length 0 l.length] [.cells 3 1 (l.map R)] (λr s=>(∃e k,r=.sl e k (l.map R)/\(l≠[]->k=1))/\s=[.cells 3 1 (l.map R)]) (λ_ _=>False):=by
 refine Μ.body Υ func85 rfl rfl ntmps85 rfl rfl J ?_;have o:l.length<=4294967295:=U;by_cases d:l=[]
 .subst d;refine Χ ?_;refine ZP λf b=>?_;intro j C;apply b;by_cases i:j=1
  .refine Γ (by simp[i]) ?_;refine Χ ?_;exact W.ret ⟨_,rfl,⟨true,0,rfl,λh=>absurd rfl h⟩,rfl⟩
  .refine Η (by simp[i]) ?_
   repeat apply Ξ
   refine Zj (A:=[5,7]) Υ λf b=>ZY ?_;apply b;refine W.cut 1 (Z1 _) [(2,.sl false 1 [])] J (λid r u c=>?_) (λp g=>?_) ?_
   .obtain rfl:id=0:=U
    simp at c;subst c;simp[Yc]
   .obtain rfl:p=(2,.sl false 1 []):=by simpa using g
    exact Yz.own (id:=1) (t:=3) (Z1 _) rfl J J
   .exact W.ret ⟨_,rfl,⟨false,1,rfl,λ_=>rfl⟩,rfl⟩
 .refine Χ ?_;refine XX d λf b=>?_;apply b;refine Η rfl ?_
  repeat apply Ξ
  have v:List.take l.length (l.map R)=l.map R:=VB J
  have w:l.length<=4294967296:=U;refine Zj (A:=[5,7]) Υ λf b=>XF (Τ o (Τ d (Τ v w))) ?_;apply b;have m:∀e∈l.map R,∀a∈e.cells,ψ 1 a:=λe y a n=>by
   obtain⟨x,_,rfl⟩:=Zd.1 y;simp[I.cells] at n;subst n;simp
  refine W.cut 1 (Z1 _) [(2,.sl false 1 (l.map R))] J (λid r u c=>?_) (λp g=>?_) ?_
  .obtain rfl:id=0:=U
   simp at c;subst c;exact m
  .obtain rfl:p=(2,.sl false 1 (l.map R)):=by simpa using g
   exact Yz.own (id:=1) (t:=3) (Z1 _) rfl J m
  .exact W.ret ⟨_,rfl,⟨false,1,rfl,λ_=>rfl⟩,rfl⟩
abbrev O9 (k:List Int):I:=.Z' (k.map R)
abbrev R6 (e:List Int×Int):I×I:=(O9 e.1,R e.2)
def LG (m:List (List Int×Int)):Prop:=∀e∈m,e.1.length=4
theorem xn (x y:List Int) (e:x.length=4) (f:y.length=4):aeqv ZW 157 (O9 x) (O9 y)=some (decide (x=y)):=by
 match x,e,y,f with
 | [a,b,c,d],_,[g,h,c',i],_=>
  simp[aeqv,Vg,TY,OQ]
def UZ:List (List Int×Int)->List Int->Int->List (List Int×Int)
 | [],k,v=>[(k,v)]
 | e::r,k,v=>if k=e.1 then(k,v)::r else e::UZ r k v
def N':List (List Int×Int)->List Int->Option Int
 | [],_=>none
 | e::r,k=>if k=e.1 then some e.2 else N' r k
theorem xm (k:List Int) (l:k.length=4):∀(m:List (List Int×Int)) (d:Nat),LG m->(Wu ZW 157 (O9 k) (m.map R6) d=some none/\N' m k=none/\∀v,UZ m k v=m++[(k,v)])\/
  ∃i x,i<m.length/\Wu ZW 157 (O9 k) (m.map R6) d=some (some (d+i,R x))/\N' m k=some x/\∀v,UZ m k v=m.set i (k,v):=by
 intro m
 induction m with
 | nil=>intro d _;exact .inl ⟨rfl,rfl,λ_=>rfl⟩
 | cons e r n=>
  intro d f;have a:=xn k e.1 l (f e J);by_cases h:k=e.1
  .refine .inr ⟨0,e.2,J,?_,by simp[N',h],λv=>by simp[UZ,h]⟩;simp only[XC,Wu,a];simp[h]
  .have g:decide (k=e.1)=false:=by simpa using h
   rcases n (d+1) (λx o=>f x (by simp[o])) with⟨j,b,c⟩|⟨i,x,j,b,c,p⟩
   .refine .inl ⟨?_,by simp[N',h,b],λv=>by simp[UZ,h,c]⟩;simp only[XC,Wu,a,g,cond_false];exact j
   .refine .inr ⟨i+1,x,by simp;omega,?_,by simp[N',h,c],λv=>by simp[UZ,h,p]⟩;simp only[XC,Wu,a,g,cond_false];rw[b];have:d+1+i=d+(i+1):=U;rw[this]
theorem DX {m:List (List Int×Int)} (h:LG m) {k:List Int} (b:k.length=4) (v:Int):LG (UZ m k v):=by
 induction m with
 | nil=>intro e he;simp[UZ] at he;subst he;exact b
 | cons a r c=>
  intro e he;unfold UZ at he;split at he
  .rcases Zm.1 he with rfl|he
   .exact b
   .exact h e (by simp[he])
  .rcases Zm.1 he with rfl|he
   .exact h _ J
   .exact c (λx d=>h x (by simp[d])) e he
def R5 (s:υ) (p r:Int×Int) (L:List Nat) (k:Nat):List Int:=((L.take k).map λx=>s.X4 p r x)++List.replicate (4-k) 0
theorem DW {s:υ} {p r:Int×Int} {L:List Nat} {k:Nat} (a:k<=L.length) (b:L.length<=4):(R5 s p r L k).length=4:=by simp[R5];omega
theorem xl {s:υ} {p r:Int×Int} {L:List Nat} {k:Nat} (b:k<L.length) (d:L.length<=4):(R5 s p r L k).take k++s.X4 p r L[k]::(R5 s p r L k).drop (k+1)=R5 s p r L (k+1):=by
 have a:((L.take k).map λx=>s.X4 p r x).length=k:=by simp;omega
 have Φ:4-k=(4-(k+1))+1:=U;unfold R5;rw[List.take_left' a,List.drop_append,NU U,a,Wx b,Yd,Φ,List.replicate_succ];have c:k+1-k=1:=U;rw[c];simp
abbrev Nc:=Option (List (List Int×Int))
def Nb (m:Nc) (k:List Int) (v:Int):Nc:=m.bind λm=>match N' m k with|some x=>if x=v then some (UZ m k v) else none|none=>some (UZ m k v)
def TM (s:υ) (f:Found) (a:Nat) (b:Bool) (L:List Nat) (m:Nc) (j:Nat):Nc:=(((f.cells[a]?).getD []).take j).foldl (λm r=>Nb m (R5 s (f.u,f.v) r L L.length) (TO b r)) m
def O8 (s:υ) (F:List Found) (a:Nat) (b:Bool) (L:List Nat) (i:Nat):Nc:=(F.take i).foldl (λm f=>TM s f a b L m ((f.cells[a]?).getD []).length) (some [])
def QQ (s:υ) (F:List Found) (a:Nat) (b:Bool) (L:List Nat):Bool:=(O8 s F a b L F.length).isSome
theorem xk (s:υ) (f:Found) (a:Nat) (b:Bool) (L:List Nat) (m:Nc) (j:Nat) (h:j<((f.cells[a]?).getD []).length):TM s f a b L m (j+1)=Nb (TM s f a b L m j) (R5 s (f.u,f.v) ((f.cells[a]?).getD [])[j] L L.length) (TO b ((f.cells[a]?).getD [])[j]):=by
 unfold TM;rw[Wx h,PD];rfl
theorem DV (s:υ) (F:List Found) (a:Nat) (b:Bool) (L:List Nat) (i:Nat) (h:i<F.length):O8 s F a b L (i+1)=TM s F[i] a b L (O8 s F a b L i) ((F[i].cells[a]?).getD []).length:=by
 unfold O8;rw[Wx h,PD];rfl
theorem DU (l:List (Int×Int)) (k:(Int×Int)->List Int) (v:Int×Int->Int):l.foldl (λm r=>Nb m (k r) (v r)) none=none:=by
 induction l with
 | nil=>rfl
 | cons a l b=>exact b
theorem xj (s:υ) (F:List Found) (b:Nat) (c:Bool) (L:List Nat) {i j:Nat} (hi:i<F.length) (g:j<=((F[i].cells[b]?).getD []).length) (h:TM s F[i] b c L (O8 s F b c L i) j=none):QQ s F b c L=false:=by
 have d:TM s F[i] b c L (O8 s F b c L i) ((F[i].cells[b]?).getD []).length=none:=by
  unfold TM at h ⊢;rw[Mx]
  conv=>lhs;rw[<-NT j ((F[i].cells[b]?).getD [])]
  rw[PD,h];exact DU _ _ _
 rw[<-DV s F b c L i hi] at d;unfold QQ;unfold O8 at d ⊢;rw[Mx]
 conv=>lhs;rw[<-NT (i+1) F]
 rw[PD,d];have:∀l:List Found,(l.foldl (λm f=>TM s f b c L m ((f.cells[b]?).getD []).length) none)=none:=λl=>by
  induction l with
  | nil=>rfl
  | cons a l e=>
   rw[List.foldl_cons];have:TM s a b c L none ((a.cells[b]?).getD []).length=none:=by unfold TM;exact DU _ _ _
   rw[this];exact e
 rw[this];rfl
abbrev Ym (L:List Nat):Row:=.cells 3 1 (L.map λn:Nat=>R n)
theorem Hk {h:Nat} {L:List Nat}:Yc h (Ym L):=λe c a b=>by
 obtain⟨x,_,rfl⟩:=Zd.1 c;simp[I.cells] at b;subst b;simp
theorem xi (s:υ) (aD:s.small) (F:List Found) (am:Jo s F) (g:Nat) (aE:g<s.cells.length) (l:Bool) (L:List Nat) (ae:L.length<=4) (aF:∀x∈L,x<s.Β.length) :
  Μ prog 84 [ZB s,YW F,R g,ZU l,.ms 0 L.length 0 L.length] [Ym L] (λr σ=>r=ZU (QQ s F g l L)/\σ=[Ym L]) (λ_ _=>False):=by
 refine Μ.body Υ func84 rfl rfl ntmps84 rfl rfl J ?_;refine Χ ?_;have V:∀t:List (List Int×Int),∀r∈[Ym L,.map (t.map R6)],Yc [Ym L,.map (t.map R6)].length r:=λt r X=>by
  simp only[Zm,YM,or_false] at X;rcases X with rfl|rfl
  .exact Hk
  .intro e af;obtain⟨x,_,rfl⟩:=Zd.1 af;simp
 refine W.iter (λx:Nat×List (List Int×Int)=>x.1<=F.length/\O8 s F g l L x.1=some x.2/\LG x.2) (λ(i,_)=>[(2,R g),(3,ZU l),(4,.ms 0 L.length 0 L.length),(5,Z9 s),(11,.mp 1),(23,YW F),(24,R F.length),(25,R i)])
  (λ(_,t)=>[Ym L,.map (t.map R6)]) (λx=>F.length-x.1) (0,[]) ⟨Ε _,rfl,λe af=>by cases af⟩ rfl J (λx ag aG=>?_)
 obtain⟨i,t⟩:=x;obtain⟨hi,ah,an⟩:=ag;simp only at hi ah an ⊢;refine Χ ?_;by_cases E:i<F.length
 .refine Γ (by simp[E]) ?_;have N:=DV s F g l L i E;have O:=λj=>xj s F g l L (i:=i) (j:=j) E;rw[ah] at N O;obtain⟨ao,ap⟩:=am.cells _ (Y2 E);generalize aH:F[i]=f at N O ao ap;have ai:g<f.cells.length:=by rw[ao];exact aE
  repeat apply Ξ
  refine Zj (A:=[13]) Υ λH n=>XF (Τ E aH) ?_;apply n;refine W.VI (σ0:=[Ym L,.map (t.map R6)]) J (V _) J [(13,.ω [R f.u,R f.v,TT f.cells]),(2,R g),(3,ZU l),(4,.ms 0 L.length 0 L.length),(5,Z9 s),(11,.mp 1),(23,YW F),(24,R F.length),(25,R i)] (by simp[Xz,Qb,UF]) ?_;refine Ζ ai ?_;have aq:(f.cells[g]?).getD []=f.cells[g]:=by simp[ai]
  rw[aq] at N O;have ar:=ap _ (Y2 ai);have aj:=xk s f g l L (some t);rw[aq] at aj;generalize f.cells[g]=C at N ar aj O;obtain⟨aO,aI⟩:=ar;refine W.iter (λx:Nat×List (List Int×Int)=>x.1<=C.length/\TM s f g l L (some t) x.1=some x.2/\LG x.2) (λ(j,_)=>[(2,R g),(3,ZU l),(4,.ms 0 L.length 0 L.length),(5,Z9 s),(11,.mp 1),(23,YW F),(24,R F.length),(25,R i),(13,.ω [R f.u,R f.v,TT f.cells]),(33,TU C),(34,R C.length),(35,R j)])
   (λ(_,t)=>[Ym L,.map (t.map R6)]) (λx=>C.length-x.1) (0,t) ⟨Ε _,rfl,an⟩ rfl J (λx ag au=>?_)
  obtain⟨j,y⟩:=x;obtain⟨aJ,ak,P⟩:=ag;simp only at aJ ak P ⊢;refine Χ ?_;by_cases D:j<C.length
  .refine Γ (by simp[D]) ?_;have M:=aj j D;rw[ak] at M;obtain⟨av,aw⟩:=aI _ (Y2 D);generalize X:C[j]=r at M av aw
   repeat apply Ξ
   refine Zj (A:=[15]) Υ λH n=>XF (Τ D X) ?_;apply n;refine W.VI (σ0:=[Ym L,.map (y.map R6)]) J (V _) J [(15,.ω [R r.1,R r.2]),(2,R g),(3,ZU l),(4,.ms 0 L.length 0 L.length),(5,Z9 s),(11,.mp 1),(23,YW F),(24,R F.length),(25,R i),(13,.ω [R f.u,R f.v,TT f.cells]),(33,TU C),(34,R C.length),(35,R j)] (by simp[Xz,Qb,UF]) ?_
   repeat apply Ξ
   refine Zj (A:=[16]) Υ λH n=>ZY ?_;apply n;refine Χ ?_;refine W.iter (λk:Nat=>k<=L.length) (λk=>[(2,R g),(3,ZU l),(4,.ms 0 L.length 0 L.length),(5,Z9 s),(11,.mp 1),(23,YW F),(24,R F.length),(25,R i),(13,.ω [R f.u,R f.v,TT f.cells]),(33,TU C),(34,R C.length),(35,R j),(15,.ω [R r.1,R r.2]),(16,.Ο 2 1 0 0),(39,.ms 0 L.length 0 L.length),(40,R L.length),(41,R k)])
    (λk=>[Ym L,.map (y.map R6),.cells 157 4 [O9 (R5 s (f.u,f.v) r L k)]]) (λk=>L.length-k) 0 (Ε _) (by simp[R5]) J (λk aP ax=>?_)
   refine Χ ?_;by_cases I:k<L.length
   .refine Γ (by simp[I]) ?_;have Y:(k:Int)<4:=U;have ay:k<=3:=U;have az:=xl (s:=s) (p:=(f.u,f.v)) (r:=r) I ae;have o:=DW (s:=s) (p:=(f.u,f.v)) (r:=r) (RP I) ae;have aK:=aF _ (Y2 I);obtain⟨K,n⟩:=Ι (R5 s (f.u,f.v) r L k);rw[<-n] at az o ⊢;refine Ζ (Τ I (Τ Y o)) ?_;refine XX (Τ Y o) λH n=>?_;refine Κ.c (LL s aD (f.u,f.v) r L[k] aK av aw) (ZT.refl _) J J ?_;simp[Y,ay,o];(repeat (rw[Ν];simp[Y,ay,o]));apply n;have aA:=Yw I (show L.length<2 ^ 62 by omega);refine Ζ aA ?_;refine W.to (ax (k+1) I U) ?_ ?_
    .rw[<-az];simp
    .simp[aA]
   .have aL:k=L.length:=U
    subst aL;refine Η J ?_;refine W.exit rfl ?_;have o:=DW (s:=s) (p:=(f.u,f.v)) (r:=r) (Z1 _) ae;obtain⟨K,n⟩:=Ι (R5 s (f.u,f.v) r L L.length);obtain⟨v,hv⟩:=Ι (TO l r);rw[<-n,<-hv] at M;rw[<-n] at o ⊢
    repeat apply Ξ
    refine W.Qd (A:=[]) Υ [(2,R g),(3,ZU l),(4,.ms 0 L.length 0 L.length),(5,Z9 s),(11,.mp 1),(23,YW F),(24,R F.length),(25,R i),(13,.ω [R f.u,R f.v,TT f.cells]),(33,TU C),(34,R C.length),(35,R j),(15,.ω [R r.1,R r.2]),(16,.Ο 2 1 0 0),(19,R v)] ?_ (by
     rw[hv];cases l
     all_goals
      (try simp);(repeat (rw[Ν];simp));(try simp);refine Κ.d (Hw _) (ZY ?_);simp[TO])
    clear ax hv;have aB:=Yw D (show C.length<2 ^ 62 by omega);have aQ:SL [Ym L,.map (y.map R6),.cells 157 4 [O9 K]] 1=true:=by simp[SL]
    have Z:SM ZW 157 (O9 K)=true:=by
     match K,o with
     | [a,b,c,d],_=>simp[SM,Vg,TY]
    have aa:List.take 4 (K.map R)=K.map R:=VB (by simp[o]);rcases xm K o y 0 P with⟨Q,ab,B⟩|⟨aR,x,aS,Q,ab,B⟩
    .have B:=B v
     have S:TM s f g l L (some t) (j+1)=some (UZ y K v):=by rw[M];simp[Nb,ab]
     (repeat (first|apply Ξ|(refine Y8 λH n=>?_;simp;(repeat (rw[Ν];simp[Q,Z,aa,o,-SM]));apply n)));refine Η rfl ?_;(repeat (first|apply Ξ|(refine Y8 λH n=>?_;simp;(repeat (rw[Ν];simp[Q,Z,aa,o,-SM]));apply n)));refine W.drop (h:=2) (σ':=[Ym L,.map ((UZ y K v).map R6)]) J J (λid w T m=>Yc.mono (V (UZ y K v) w (by
      match id,T,m with
      | 0,_,m=>simp at m;subst m;simp
      | 1,_,m=>simp[B] at m;subst m;simp[B])) J) (by simp[B]) [(2,R g),(3,ZU l),(4,.ms 0 L.length 0 L.length),(5,Z9 s),(11,.mp 1),(23,YW F),(24,R F.length),(25,R i),(13,.ω [R f.u,R f.v,TT f.cells]),(33,TU C),(34,R C.length),(35,R ((j:Int)+1))] (by simp[Xz,Qb,UF,aB]) ?_
     refine W.to (au (j+1,UZ y K v) ⟨D,S,DX P o v⟩ (by simp only;omega)) rfl ?_;simp
    .have B:=B v;(repeat (first|apply Ξ|(refine Y8 λH n=>?_;simp;(repeat (rw[Ν];simp[Q,Z,aa,o,-SM]));apply n)));by_cases ad:x=v
     .have S:TM s f g l L (some t) (j+1)=some (UZ y K v):=by rw[M];simp[Nb,ab,ad]
      refine Η (by simp[ad]) ?_;(repeat (first|apply Ξ|(refine Y8 λH n=>?_;simp;(repeat (rw[Ν];simp[Q,Z,aa,o,-SM]));apply n)));refine W.drop (h:=2) (σ':=[Ym L,.map ((UZ y K v).map R6)]) J J (λid w T m=>Yc.mono (V (UZ y K v) w (by
       match id,T,m with
       | 0,_,m=>simp at m;subst m;simp
       | 1,_,m=>simp[B] at m;subst m;simp[B])) J) (by simp[B]) [(2,R g),(3,ZU l),(4,.ms 0 L.length 0 L.length),(5,Z9 s),(11,.mp 1),(23,YW F),(24,R F.length),(25,R i),(13,.ω [R f.u,R f.v,TT f.cells]),(33,TU C),(34,R C.length),(35,R ((j:Int)+1))] (by simp[Xz,Qb,UF,aB]) ?_
      refine W.to (au (j+1,UZ y K v) ⟨D,S,DX P o v⟩ (by simp only;omega)) rfl ?_;simp
     .have S:TM s f g l L (some t) (j+1)=none:=by rw[M];simp[Nb,ab,ad]
      have al:=O (j+1) D S;rw[al];refine Γ (by simp[ad]) ?_;refine Χ ?_;refine W.drop (h:=1) (σ':=[Ym L]) J J (λid w T m=>by
       obtain rfl:id=0:=U;simp at m;subst m;exact Hk) rfl [(10,ZU false)] J ?_
      exact W.ret ⟨_,rfl,rfl,rfl⟩
  .have aM:j=C.length:=U
   subst aM;have aC:=Yw E (show F.length<2 ^ 62 by have:=am.Rw;omega);refine Η J ?_;refine W.exit rfl ?_;refine Ζ aC ?_;refine W.to (aG (i+1,y) ⟨E,by rw[N];exact ak,P⟩ (by simp only;omega)) rfl ?_;simp[aC]
 .have aN:i=F.length:=U
  subst aN;have al:QQ s F g l L=true:=by unfold QQ;rw[ah];rfl
  rw[al];refine Η J ?_;refine W.exit rfl ?_;refine Χ ?_;refine W.drop (h:=1) (σ':=[Ym L]) J J (λid w T m=>by
   obtain rfl:id=0:=U;simp at m;subst m;exact Hk) rfl [(10,ZU true)] J ?_
  exact W.ret ⟨_,rfl,rfl,rfl⟩
end Go.TL
namespace Go.TL
open Go.Proofs.Tryz
open Go.Conc Go.Proofs
variable [ZN]
section
variable {P:Program} {Q:Value->Prop} {mn:Bool} {x:W6} {cs rest:List Frame} {H:Ψ} {b f c:Frame} {t:Array Value} {k:List Item} {fn:Func}
theorem Ω.getLoop {L:Nat} {r:Loop} (h:H.obj L=some (.loop r)) {K:Loop->Ψ->Prop} {E:Value->Ψ->Prop} (a:K r H):Ω P (Instr.getLoop L) H K E:=by
 unfold Instr.getLoop;refine Ω.bind' ?_;exact⟨_,h,rfl,Ω.pure' a⟩
theorem Ω.Hj {L:Nat} {r r':Loop} (h:H.obj L=some (.loop r)) {K:Unit->Ψ->Prop} {E:Value->Ψ->Prop} (a:K () (H.ZX L (.loop r'))):Ω P (setObj L (.loop r')) H K E:=
 ⟨⟨_,h⟩,rfl,rfl,Ω.pure' a⟩
abbrev DT (st:LoopState) (b:Option Code) (f:FuncId) (t:Array Value) (c:Array Tmp) (a e:Code) (d:Nat):Loop:={state:=st,pending:=b,fn:=f,tmps:=t,params:=c,assign:=a,body:=e,defers:=d}
theorem ν.rangeFunc (n:Seq x) (o:b.mode=.run) (p:b.roundOf=none) {fo:Operand} {i:Array Tmp} {assign body:Code} {g:FuncId} {f:Array Value} (r:ZM t fo=.func (.func g) #[] f) (s:Plain P g)
  (h:∀c a,H.fresh c->(H.ZX c (.deferred (some []))).fresh a->ν P Q mn x (Frame.enter P g (#[.func (.yield a) #[] #[]]++f) .normal) ({π b t (.inRangeFunc a::k) with defers:=⟨.collected c,#[]⟩::b.defers}::cs)
   ((H.ZX c (.deferred (some []))).ZX a (.loop (DT .ready none b.fn t i assign body c)))) :
  ν P Q mn x (π b t (.code (.rangeFunc fo i assign body)::k)) cs H:=by
 refine .own n λw u=>?_;have y:Ω P (Instr.enterLoop b.fn t i assign body none) H (λv H'=>∃c a,H.fresh c/\(H.ZX c (.deferred (some []))).fresh a/\v=(a,[⟨.collected c,#[]⟩])/\H'=(H.ZX c (.deferred (some []))).ZX a (.loop (DT .ready none b.fn t i assign body c))) (λ_ _=>False):=by
  unfold Instr.enterLoop;refine Ω.bind' (λc j=>Ω.pure' (Ω.bind' (Ω.pure' ?_)));refine Ω.bind' (λa l=>Ω.pure' (Ω.pure' ?_));exact⟨c,a,j,l,rfl,rfl⟩
 obtain⟨H',w',es',A,B⟩:=Ω.sound (P:=P) (G0:=H) (w0:=w) _ y (Yo.start u);rcases B with⟨v,m,c,a,j,l,rfl,rfl⟩|⟨v,m,C⟩
 .refine⟨_,_,w',seen P b.fn es',_,?_,A.sub λe D=>mem_seen D,h c a j l⟩;have E:∀F:Frame,F.tmps=t->resolve F.eval {callee:=.value fo,args:=#[.const (.func (.yield a) #[] #[])],argTypes:=#[]} 0=Deferred.ofValue (.func (.func g) #[] f) #[.func (.yield a) #[] #[]]:=λF I=>by
   have:F.eval fo=.func (.func g) #[] f:=by rw[<-r,<-I];cases fo<;>rfl
   unfold resolve;simp only;rw[this];simp[Frame.eval]
  have J:((do let d <-Deferred.ofValue (.func (.func g) #[] f) #[.func (.yield a) #[] #[]];invoke d.target d.args:Sem Next)).runT P w' #[]=(.ok (.enter g (#[.func (.yield a) #[] #[]]++f)) w',#[]):=by
   have:=s.enter (#[.func (.yield a) #[] #[]]++f) w';simpa[Deferred.ofValue,invoke] using this
  rw[Vy o];unfold stepG.exec;simp only[π,p,m];rw[E _ rfl];unfold stepG.apply;simp only[if_true,J];simp[GStep.after,Go.Conc.G,π,seen_none]
 .exact C.elim
theorem ν.Jn (d:Seq x) (f:b.mode=.run) {L:Nat} {r:Loop} (a:H.obj L=some (.loop r)) (g:r.state≠.busy)
  (h:ν P Q mn x (π b t ((r.pending.map Item.code).toList++k)) cs (H.ZX L (.loop {r with state:=.exhausted}))):ν P Q mn x (π b t (.endRangeFunc L::k)) cs H:=by
 refine .own d λw i=>?_;have j:Ω P (Instr.endLoop L) H (λv H'=>v=r.pending/\H'=H.ZX L (.loop {r with state:=.exhausted})) (λ_ _=>False):=by
  unfold Instr.endLoop;refine Ω.bind' (Ω.getLoop a ?_);have e:(r.state==.busy)=false:=by cases l:r.state<;>first|rfl|exact absurd l g
  simp only[e,Xf,if_false];exact Ω.bind' (Ω.Hj a (Ω.pure' ⟨rfl,rfl⟩))
 obtain⟨H',w',es',m,n⟩:=Ω.sound (P:=P) (G0:=H) (w0:=w) _ j (Yo.start i);rcases n with⟨v,c,rfl,rfl⟩|⟨v,c,o⟩
 .refine⟨_,_,w',seen P b.fn es',_,?_,m.sub λe p=>mem_seen p,h⟩;rw[Vy f];unfold stepG.exec;simp only[π,c];simp[GStep.after,Go.Conc.G]
 .exact o.elim
theorem ν.beginRound (g:Seq x) (i:b.mode=.run) {L:Nat} (j:b.roundOf=some L) {r:Loop} (a:H.obj L=some (.loop r)) (l:r.state=.ready)
  (h:ν P Q mn x (π b t k) cs (H.ZX L (.loop {r with state:=.busy}))):ν P Q mn x (π b t (.beginRound::k)) cs H:=by
 refine .own g λw m=>?_;have n:Ω P (Instr.beginRound L) H (λ_ H'=>H'=H.ZX L (.loop {r with state:=.busy})) (λ_ _=>False):=by
  unfold Instr.beginRound;refine Ω.bind' (Ω.getLoop a (Ω.bind' (Ω.Hj a ?_)));rw[l];exact Ω.pure' rfl
 have o:Ω P (do Instr.beginRound L;pure Next.skip:Sem Next) H (λv H'=>v=.skip/\H'=H.ZX L (.loop {r with state:=.busy})) (λ_ _=>False):=
  Ω.bind' (Ω.mono (λ_ _ e=>Ω.pure' ⟨rfl,e⟩) (λ_ _ h=>h) _ n)
 obtain⟨H',w',es',p,s⟩:=Ω.sound (P:=P) (G0:=H) (w0:=w) _ o (Yo.start m);rcases s with⟨v,c,rfl,rfl⟩|⟨v,c,u⟩
 .generalize d:(if b.kind==.early then #[] else es')=f;have y:∀e∈seen P b.fn f,e∈es':=λe A=>by
   have:=mem_seen A;rw[<-d] at this;split at this
   .simp at this
   .exact this
  refine⟨_,_,w',seen P b.fn f,_,?_,p.sub y,h⟩;rw[Vy i];unfold stepG.exec;simp only[π,j,Option.elim];unfold stepG.apply;simp only[if_true,c];rw[d];simp[GStep.after,Go.Conc.G,Frame.finish]
 .exact u.elim
theorem ν.endRound (l:Seq x) (m:b.mode=.run) {L:Nat} (f:b.roundOf=some L) (g:b.kind=.normal) {r:Loop} (j:H.obj L=some (.loop r)) {jump:Option Code} (n:(jump=none/\k=[])\/(jump=some .ret/\∃a,k=.code .ret::a)\/∃id a,jump=some (.exit id)/\k=.code (.exit id)::a/\exitTo id a=none)
  (h:ν P Q mn x (c.finish (.bool jump.isNone)) rest (H.ZX L (.loop {r with state:=if jump.isNone then .ready else .done,pending:=jump}))):ν P Q mn x (π b t k) (c::rest) H:=by
 refine .own l λw o=>?_;have p:Ω P (Instr.endRound L jump) H (λv H'=>v=.bool jump.isNone/\H'=H.ZX L (.loop {r with state:=if jump.isNone then .ready else .done,pending:=jump})) (λ_ _=>False):=by
  unfold Instr.endRound;exact Ω.bind' (Ω.getLoop j (Ω.bind' (Ω.Hj j (Ω.pure' ⟨rfl,rfl⟩))))
 obtain⟨H',w',es',s,u⟩:=Ω.sound (P:=P) (G0:=H) (w0:=w) _ p (Yo.start o);rcases u with⟨v,d,rfl,rfl⟩|⟨v,d,y⟩
 .refine⟨_,_,w',seen P b.fn es',_,?_,s.sub λe i=>mem_seen i,h⟩;rw[Vy m];unfold stepG.exec;rcases n with⟨rfl,rfl⟩|⟨rfl,a,rfl⟩|⟨id,a,rfl,rfl,i⟩
  .simp only[π,f,d];simp[GStep.after,Go.Conc.G,doReturn,g]
  .simp only[π,f,d];simp[GStep.after,Go.Conc.G,doReturn,g]
  .simp only[π,f,i,Option.elim,d];simp[GStep.after,Go.Conc.G,doReturn,g]
 .exact y.elim
theorem ν.collected (c:Seq x) (d:f.mode=.returning) {r:Nat} {ds:List Deferred} (hd:f.defers=⟨.collected r,#[]⟩::ds) (a:H.obj r=some (.deferred (some [])))
  (h:ν P Q mn x {f with defers:=ds} cs (H.ZX r (.deferred none))):ν P Q mn x f cs H:=by
 refine .own c λw g=>?_;have i:Ω P (Instr.takeDeferred r) H (λv H'=>v=[]/\H'=H.ZX r (.deferred none)) (λ_ _=>False):=by
  unfold Instr.takeDeferred;refine Ω.bind' ?_;exact⟨_,a,rfl,Ω.pure' (Ω.bind' ⟨⟨_,a⟩,rfl,rfl,Ω.pure' (Ω.pure' ⟨rfl,rfl⟩)⟩)⟩
 obtain⟨H',w',es',j,k⟩:=Ω.sound (P:=P) (G0:=H) (w0:=w) _ i (Yo.start g);rcases k with⟨v,b,rfl,rfl⟩|⟨v,b,l⟩
 .refine⟨_,_,w',seen P f.fn es',_,?_,j.sub λe m=>mem_seen m,h⟩;rw[NC (by rw[d];simp)];unfold unwind;simp only[hd,b];simp[GStep.after,Go.Conc.G]
 .exact l.elim
end
end Go.TL
namespace Go.TL
open Go.Proofs.Tryz
open Go.Conc
open Go.ConcM (OsLater)
open Go.ConcN (sumTo upd sumTo_upd upd_ne upd_same sumTo_congr le_sumTo)
open Go.ConcR (mk)
variable [ZN]
theorem W' {b:Frame} (a:b.mode=.run) (c:b.roundOf=none) (t:Array Value) (k:List Item):π b t k=b.at ⟨t,b.defers⟩ k:=by
 obtain⟨fn,d,td,e,f,g,h⟩:=b;simp only at a c;subst a;subst c;rfl
theorem O7 (o:Oper) (t:Array Value) (ds:List Deferred) (v:Value):(⟨t,ds⟩:_root_.Go.Act).put o.dst v=⟨put o t v,ds⟩:=by
 unfold _root_.Go.Act.put put;cases o.dst<;>rfl
theorem Ug (t:Array Value) (ds:List Deferred):(⟨t,ds⟩:_root_.Go.Act).eval=ZM t:=by funext o;cases o<;>rfl
def Entry (P:Program) (f:FuncId) (e:Array Value->Sem Value):Prop:=∃fn,P.funcs[f]?=some fn/\(fn.name == "runtime.NumGoroutine")=false/\fn.body.isNone=true/\Extern.findNext fn=none/\Extern.find fn=some e
structure TK (b:Frame) (ops:Array Oper) (i:Nat) (op:Oper):Prop where
 run:b.mode=.run
 ro:b.roundOf=none
 kd:b.kind≠.early
 op:ops[i]?=some op
def XQ (x:ZZ):Prop:=x.rel=false\/∃s,¬Gone (x.tok s)
theorem XQ.ok {P:Program} {g:Goroutine} {x:ZZ} (h:XQ x):Mo P g x:=λa b=>by
 rcases h with h|⟨s,h⟩
 .rw[h] at a;cases a
 .exact absurd (b s) h
def one (x:ZZ):W6:=λy=>y=x
@[reducible] def X3:ZN:=⟨λ_=>True⟩
theorem Seq.O6 {x:ZZ} (a:ZN.q (one x)) (b:x.rel=false) (hv:x.Z5=λ_=>none):Seq (one x):=⟨a,λy h=>by cases h;exact b,λy h=>by cases h;exact hv⟩
theorem Seq.here {x:ZZ} (h:Seq (one x)):XQ x:=.inl (h.rel x rfl)
section
variable {P:Program} {Q:Value->Prop} {mn:Bool} {x:ZZ} {b:Frame} {cs:List Frame} {nt:Nat} {o:Base} {k:List Item} {env:Δ} {σ:Ρ} {S:ο} {B:Z8} {H:Ψ} {t:Array Value}
variable {ops:Array Oper} {i:Nat} {rest:List Nat} {op:Oper} {f:FuncId} {e:Array Value->Sem Value} {args:Array Operand} {LF:Array TypeId} {w w':World}
theorem Jm (j:Entry P f e) (c:TK b ops i op) (l:Region.wanted op (yielded ops t)=true) (m:op.op=.call ⟨.value (.func f),args,LF⟩) {vs:Array Value} (h:args.map (ZM t)=vs) {v:Value} {d:Array Event}
  (n:(e vs).run P w=.ok v w') (o:(e vs).events P w #[⟨.mark (Mark.extern f),false,true⟩]=#[⟨.mark (Mark.extern f),false,true⟩]++d) (p:∀y∈d,y.sync=true/\∀g,y.loc≠.mark (Mark.extern g)) :
  stepG P mn (Go.Conc.G (π b t (.inRegion ops (i::rest)::k)) cs) w=.go (Go.Conc.G (π b (put op t v) (.inRegion ops rest::k)) cs) w' d:=by
 obtain⟨fn,r,s,u,x,A⟩:=j;rw[W' c.run c.ro,W' c.run c.ro,<-O7];exact stepG_entry (a:=⟨t,b.defers⟩) c.op l c.kd m r s u x A (by rw[Ug,h];exact n) (by rw[Ug,h];exact o) p
theorem xh (d:Entry P f e) (c:TK b ops i op) (g:Region.wanted op (yielded ops t)=true) (h:op.op=.call ⟨.value (.func f),args,LF⟩) {vs:Array Value} (j:args.map (ZM t)=vs)
  (l:(e vs).run P w=.halt .blocked w') :
  stepG P mn (Go.Conc.G (π b t (.inRegion ops (i::rest)::k)) cs) w=.go {Go.Conc.G (π b t (.inRegion ops (i::rest)::k)) cs with status:=.blocked} w' #[]:=by
 obtain⟨fn,m,n,o,p,r⟩:=d;rw[W' c.run c.ro];exact stepG_entry_blocked (a:=⟨t,b.defers⟩) c.op g h m n o p r (by rw[Ug,j];exact l)
theorem DS (d:Entry P f e) (a:TK b ops i op) (g:op.op=.call ⟨.value (.func f),args,LF⟩):mayWake P (Go.Conc.G (π b t (.inRegion ops (i::rest)::k)) cs)=true:=by
 obtain⟨fn,h,m,j,n,o⟩:=d;have l:fn.body=none:=by simpa using j
 have c:(π b t (.inRegion ops (i::rest)::k)).eval (.func f)=.func (.func f) #[] #[]:=rfl;simp[mayWake,Go.Conc.G,π,a.run,a.op,g] at c ⊢;simp[c,h,l]
def LD (env:Δ) (args:Array Operand) (vs:List Value):Prop:=args.toList.map (η env)=vs.map I.z
theorem Jl (a:YS S B σ env t) {y:Operand} {v:Value} (h:η env y=.z v):ZM t y=v:=by
 have:=Un a y;rw[h] at this;generalize ZM t y=u at this;cases this;rfl
theorem LD.ZM (a:YS S B σ env t) {vs:List Value} (h:LD env args vs):args.map (ZM t)=vs.toArray:=by
 apply NM;rw[Array.toList_map];have:∀(l:List Operand) (vs:List Value),l.map (η env)=vs.map I.z->l.map (Go.TL.ZM t)=vs:=by
  intro l
  induction l with
  | nil=>intro vs h;cases vs with
   | nil=>rfl
   | cons=>cases h
  | cons y l b=>
   intro vs h;cases vs with
   | nil=>cases h
   | cons v vs=>
    simp only[XC,List.cons.injEq] at h ⊢;exact⟨Jl a h.1,b vs h.2⟩
 exact this _ _ h
theorem Jk (m:Mark):((λ_=>do mark m;pure Extern.Race.none_:Array Value->Sem Value) #[]).run P w=.ok (.tuple #[]) w:=by simp[Extern.Race.none_]
theorem Jj (m:Mark) (es:Array Event):((λ_=>do mark m;pure Extern.Race.none_:Array Value->Sem Value) #[]).events P w es=es.push ⟨.mark m,false,true⟩:=J
theorem Na (m:Addr->Mark) (a:Addr):(Extern.Race.marked m #[.pointer (some a)]).run P w=.ok (.tuple #[]) w:=by simp[Extern.Race.marked,Extern.Race.at_,Extern.Race.none_]
theorem M' (m:Addr->Mark) (a:Addr) (es:Array Event):(Extern.Race.marked m #[.pointer (some a)]).events P w es=es.push ⟨.mark (m a),false,true⟩:=by simp[Extern.Race.marked,Extern.Race.at_]
theorem QP {m:Mark} (b:∀g,m≠Mark.extern g):∀y∈(#[⟨.mark m,false,true⟩]:Array Event),y.sync=true/\∀g,y.loc≠.mark (Mark.extern g):=by
 intro y a;simp at a;subst a;exact⟨rfl,λg h=>b g (by cases h;rfl)⟩
structure WZ (P:Program) (b:Frame) (ops:Array Oper) (i:Nat) (op:Oper) (f:FuncId) (e:Array Value->Sem Value) (args:Array Operand) (env:Δ) (vs:List Value) (nt:Nat):Prop where
 at_:TK b ops i op
 UD:Entry P f e
 call:∃LF,op.op=.call ⟨.value (.func f),args,LF⟩
 want:XM env ops op=some true
 dst:W2 nt op=true
 LC:LD env args vs
theorem WZ.step {vs:List Value} (h:WZ P b ops i op f e args env vs nt) (c:YS S B σ env t) {v:Value} {a:Array Event} (d:(e vs.toArray).run P w=.ok v w')
  (j:(e vs.toArray).events P w #[⟨.mark (Mark.extern f),false,true⟩]=#[⟨.mark (Mark.extern f),false,true⟩]++a) (l:∀y∈a,y.sync=true/\∀g,y.loc≠.mark (Mark.extern g)) :
  stepG P mn (Go.Conc.G (π b t (.inRegion ops (i::rest)::k)) cs) w=.go (Go.Conc.G (π b (put op t v) (.inRegion ops rest::k)) cs) w' a:=
 let ⟨_,m⟩:=h.call
 Jm h.UD h.at_ (U1 c h.want) m (h.LC.ZM c) d j l
abbrev SD:I:=.z (.tuple #[])
theorem V.disable (c:XQ x) (h:WZ P b ops i op f (λ_=>do mark .disable;pure Extern.Race.none_) args env [] nt) (d:V P Q mn (one {x with deaf:=x.deaf+1}) b cs nt o (.inRegion ops rest::k) (Zt op env SD) σ):V P Q mn (one x) b cs nt o (.inRegion ops (i::rest)::k) env σ:=
 λS B H t e a y g=>by
 cases g;exact Goes.step c.ok (.inr ⟨⟨rfl,rfl⟩,.inr (.inl ⟨Go.Conc.G (π b (put op t (.tuple #[])) (.inRegion ops rest::k)) cs,⟨rfl,rfl⟩,.inl λw _=>
  ⟨h.step a.Zn (Jk .disable) (Jj .disable _) (QP J),d S B H _ e (a.put h.dst (.z _)) _ rfl⟩⟩)⟩)
theorem V.enable (c:XQ x) (hd:0<x.deaf) (h:WZ P b ops i op f (λ_=>do mark .enable;pure Extern.Race.none_) args env [] nt) (d:V P Q mn (one {x with deaf:=x.deaf-1}) b cs nt o (.inRegion ops rest::k) (Zt op env SD) σ):V P Q mn (one x) b cs nt o (.inRegion ops (i::rest)::k) env σ:=
 λS B H t e a y g=>by
 cases g;exact Goes.step c.ok (.inr ⟨⟨rfl,rfl⟩,.inr (.inl ⟨Go.Conc.G (π b (put op t (.tuple #[])) (.inRegion ops rest::k)) cs,⟨rfl,rfl⟩,.inr ⟨hd,λw _=>
  ⟨h.step a.Zn (Jk .enable) (Jj .enable _) (QP J),d S B H _ e (a.put h.dst (.z _)) _ rfl⟩⟩⟩)⟩)
theorem V.xg (c:x.rel=false) {s d n p:Nat} {a:Qr} (g:x.tok s=.par n p a) (j:a≠.ZQ) (h:WZ P b ops i op f (Extern.Race.marked .read) args env [.pointer (some ⟨s,d,none⟩)] nt) (l:V P Q mn (one x) b cs nt o (.inRegion ops rest::k) (Zt op env SD) σ):V P Q mn (one x) b cs nt o (.inRegion ops (i::rest)::k) env σ:=
 λS B H t m e y r=>by
 cases r;exact Goes.step (XQ.ok (.inl c)) (.inr ⟨⟨rfl,rfl⟩,.inr (.inr (.inl ⟨s,n,p,a,Go.Conc.G (π b (put op t (.tuple #[])) (.inRegion ops rest::k)) cs,d,false,g,j,c,⟨rfl,rfl⟩,λw _=>
  ⟨h.step e.Zn (Na .read _) (M' .read _ _) (QP J),l S B H _ m (e.put h.dst (.z _)) _ rfl⟩⟩))⟩)
theorem V.xf (c:x.rel=false) {s d n p:Nat} {a:Qr} (g:x.tok s=.par n p a) (j:a≠.ZQ) (h:WZ P b ops i op f (Extern.Race.marked .write) args env [.pointer (some ⟨s,d,none⟩)] nt) (l:V P Q mn (one x) b cs nt o (.inRegion ops rest::k) (Zt op env SD) σ):V P Q mn (one x) b cs nt o (.inRegion ops (i::rest)::k) env σ:=
 λS B H t m e y r=>by
 cases r;exact Goes.step (XQ.ok (.inl c)) (.inr ⟨⟨rfl,rfl⟩,.inr (.inr (.inl ⟨s,n,p,a,Go.Conc.G (π b (put op t (.tuple #[])) (.inRegion ops rest::k)) cs,d,true,g,j,c,⟨rfl,rfl⟩,λw _=>
  ⟨h.step e.Zn (Na .write _) (M' .write _ _) (QP J),l S B H _ m (e.put h.dst (.z _)) _ rfl⟩⟩))⟩)
theorem V.Kw (a:x.rel=false) (hd:x.deaf=0) {s m n:Nat} {sp:Spec} (d:x.spec s=some sp) (e:sp.ZO=some m) (g:x.tok s=.ch n .own .work) (h:WZ P b ops i op f (Extern.Race.marked .acquire) args env [.pointer (some ⟨m,0,none⟩)] nt)
  (j:∀(S:ο) (B:Z8) (H:Ψ) (t:Array Value) (L:List Nat) (E:Ψ),X5 o.m o.S o.B o.H o.σ S B H σ->XA o.m nt S B H σ (Zt op env SD) t->sp.XV L E->Apart H E->(L.Nodup/\n∉L/\∃w,Fits H w/\Fits E w)->
   Zb P Q mn {x with tok:=upd x.tok s (.ch n (.YI L) .work),view:=upd x.view s none} (π b t (.inRegion ops rest::k)) cs (join H E)):V P Q mn (one x) b cs nt o (.inRegion ops (i::rest)::k) env σ:=
 λS B H t l c y p=>by
 cases p;exact Goes.step (XQ.ok (.inl a)) (.inr ⟨⟨rfl,rfl⟩,.inr (.inr (.inr (.inr (.inl ⟨s,sp,m,n,Go.Conc.G (π b (put op t (.tuple #[])) (.inRegion ops rest::k)) cs,d,e,g,hd,⟨rfl,rfl⟩,a,λw _=>
  h.step c.Zn (Na .acquire _) (M' .acquire _ _) (QP J),λL E r u v=>j S B H _ L E l (c.put h.dst (.z _)) r u v⟩))))⟩)
theorem V.H9 (a:x.rel=false) (hd:x.deaf=0) {s m n:Nat} {L:List Nat} {sp:Spec} (d:x.spec s=some sp) (e:sp.ZO=some m) (g:x.tok s=.ch n (.YI L) .work) (h:WZ P b ops i op f (Extern.Race.marked .releaseMerge) args env [.pointer (some ⟨m,0,none⟩)] nt)
  (j:∀(S:ο) (B:Z8) (H:Ψ) (t:Array Value),X5 o.m o.S o.B o.H o.σ S B H σ->XA o.m nt S B H σ (Zt op env SD) t->∃H' E,Split H H' E/\sp.XV (L++[n]) E/\
   Zb P Q mn {x with tok:=upd x.tok s (.ch n .fin .work),view:=upd x.view s none} (π b t (.inRegion ops rest::k)) cs H'):V P Q mn (one x) b cs nt o (.inRegion ops (i::rest)::k) env σ:=
 λS B H t l c y p=>by
 cases p;obtain⟨H',E,r,u,v⟩:=j S B H _ l (c.put h.dst (.z (.tuple #[])));exact Goes.step (XQ.ok (.inl a)) (.inr ⟨⟨rfl,rfl⟩,.inr (.inr (.inr (.inr (.inr (.inl ⟨s,sp,m,n,L,Go.Conc.G (π b (put op t (.tuple #[])) (.inRegion ops rest::k)) cs,H',E,d,e,g,hd,⟨rfl,rfl⟩,a,λw _=>
  h.step c.Zn (Na .releaseMerge _) (M' .releaseMerge _ _) (QP J),r,u,v⟩)))))⟩)
theorem V.Kv (j:x.rel=false) (hd:x.deaf=0) {s n:Nat} {d:Qr} {sp:Spec} (p:x.spec s=some sp) (r:x.tok s=.par n 0 d) (u:d=.SW\/d=.w4) (h:WZ P b ops i op f (Extern.Race.marked .acquire) args env [.pointer (some ⟨s,0,none⟩)] nt)
  (v:∀(S:ο) (B:Z8) (H:Ψ) (t:Array Value) (e g:List Nat) (c a:Ψ),X5 o.m o.S o.B o.H o.σ S B H σ->XA o.m nt S B H σ (Zt op env SD) t->
   e.Perm (List.range n)->Ur sp.D e c->(sp.ZO≠none->g.Perm (List.range n)/\sp.XV g a)->(sp.ZO=none->a=Ψ.empty)->Apart H c->Apart H a->Apart c a->(∃w,Fits H w/\Fits c w/\Fits a w)->
   Zb P Q mn {x with tok:=upd x.tok s (.par n 0 .ZQ),view:=upd x.view s none} (π b t (.inRegion ops rest::k)) cs (join (join H c) a)):V P Q mn (one x) b cs nt o (.inRegion ops (i::rest)::k) env σ:=
 λS B H t A l y C=>by
 cases C;exact Goes.step (XQ.ok (.inl j)) (.inr ⟨⟨rfl,rfl⟩,.inr (.inr (.inr (.inr (.inr (.inr (.inr (.inl ⟨s,sp,n,d,Go.Conc.G (π b (put op t (.tuple #[])) (.inRegion ops rest::k)) cs,p,r,u,hd,⟨rfl,rfl⟩,j,λw _=>
  h.step l.Zn (Na .acquire _) (M' .acquire _ _) (QP J),λe g c a E F I K L M N O=>v S B H _ e g c a A (l.put h.dst (.z _)) E F I K L M N O⟩)))))))⟩)
theorem V.atomic (A:XQ x) {s:Nat} {sp:Spec} (C:x.spec s=some sp) (D:¬Xj (x.tok s)) (hd:W2 nt op=true) (E:XM env ops op=some true)
  (h:∀(t:Array Value) (w:World) (φ:Nat) (a:δ),(∀y u,η env y=.z u->ZM t y=u)->(∀(as9:Array Operand) (vs:List Value),LD env as9 vs->as9.map (ZM t)=vs.toArray)->Region.wanted op (yielded ops t)=true->a.toSpec=sp->At s a w->Ik x s φ a->OG a (x.tok s)->
   (∃v w' e,stepG P mn (Go.Conc.G (π b t (.inRegion ops (i::rest)::k)) cs) w=.go (Go.Conc.G (π b (put op t v) (.inRegion ops rest::k)) cs) w' e/\Xr (λF _=>Yb s sp F) (λ_=>False) w w'/\Sn s sp x.deaf e/\
    ((At s a w'/\V P Q mn (one {x with view:=upd x.view s (some (φ,a))}) b cs nt o (.inRegion ops rest::k) (Zt op env (.z v)) σ)\/
     ∃o' t',Act a (x.tok s) o' t'/\At s o' w'/\(mayWake P (Go.Conc.G (π b t (.inRegion ops (i::rest)::k)) cs)=true\/o'=a)/\∀d,d<φ->V P Q mn (one {x with tok:=upd x.tok s t',view:=upd x.view s (some (d,o'))}) b cs nt o (.inRegion ops rest::k) (Zt op env (.z v)) σ))\/
   (U3 a (x.tok s)/\(∀p,p≠s->Ti (x.tok p))/\stepG P mn (Go.Conc.G (π b t (.inRegion ops (i::rest)::k)) cs) w=.go {Go.Conc.G (π b t (.inRegion ops (i::rest)::k)) cs with status:=.blocked} w #[])) :
  V P Q mn (one x) b cs nt o (.inRegion ops (i::rest)::k) env σ:=by
 intro S B H t r c y f;cases f;refine Goes.step A.ok (.inr ⟨⟨rfl,rfl⟩,.inr (.inr (.inr (.inl ⟨s,sp,C,D,λw φ a U hv I J K L=>?_⟩)))⟩);rcases h t w φ a (λy u f=>Jl c.Zn f) (λas9 vs M=>M.ZM c.Zn) (U1 c.Zn E) I J K L with⟨v,w',e,g,j,l,N⟩|⟨g,j,l⟩
 .refine .inl ?_;rw[g];refine⟨⟨rfl,rfl⟩,j,l,?_⟩;rcases N with⟨m,n⟩|⟨o',t',m,n,O,R⟩
  .exact .inl ⟨m,n S B H _ r (c.put hd (.z _)) _ rfl⟩
  .exact .inr ⟨o',t',m,n,O,λd T=>R d T S B H _ r (c.put hd (.z _)) _ rfl⟩
 .exact .inr ⟨g,j,l⟩
theorem DR {b h:Nat} {c:Array Value} {k:TypeId} (f:w.heap[b]?=some (.cells c k (0,0))) (v:Value) {j:Nat->Nat->Prop} (l:∀o,j b o):Xr j (λ_=>False) w (w.setCell ⟨b,h,none⟩ v):=by
 have g:=heap_setCell (w:=w) (a:=⟨b,h,none⟩) (v:=v) rfl f
 have m:=Xq f
 have n:(w.setCell ⟨b,h,none⟩ v).os=w.os:=rfl;refine⟨by rw[g];simp,λi c' t' s d=>?_,λi y d p _=>?_,by rw[n];exact OsLater.refl _,rfl,rfl⟩
 .by_cases e:i=b
  .subst e;rw[f] at d;cases d;exact⟨_,by rw[g,Tt m],J,λo' r=>absurd (l o') r⟩
  .exact⟨c',by rw[g,UW (YQ e)];exact d,rfl,λ_ _=>rfl⟩
 .have e:b≠i:=λe=>by subst e;rw[f] at d;cases d;cases p
  rw[g,UW e];exact d
section
variable {s m:Nat} {Xs o':δ}
theorem At.ne (h:At s Xs w) (b:Xs.ZO=some m):m≠s:=λe=>by
 obtain⟨⟨f,c⟩,d⟩:=h;obtain⟨g,a⟩:=d m b;subst e;rw[c] at a;simp at a
theorem At.mu (h:At s Xs w) (a:Xs.ZO=some m):∃b,w.heap[m]?=some (.cells #[.int .i32 (mwd Xs),.int .u32 Xs.YD] b (0,0)):=h.2 m a
theorem At.Rv (h:At s Xs w) (a:Xs.ZO=some m):w.cell? ⟨m,0,none⟩=some (.int .i32 (mwd Xs)):=let ⟨_,b⟩:=h.mu a;SY b rfl
theorem At.DQ (h:At s Xs w) (a:Xs.ZO=some m):w.cell? ⟨m,1,none⟩=some (.int .u32 Xs.YD):=let ⟨_,b⟩:=h.mu a;SY b rfl
theorem At.Tg (h:At s Xs w):w.cell? ⟨s,0,none⟩=some (.int .u64 (YZ Xs)):=let ⟨_,a⟩:=h.1;SY a rfl
theorem At.Ji (h:At s Xs w):w.cell? ⟨s,1,none⟩=some (.int .u32 Xs.YU):=let ⟨_,a⟩:=h.1;SY a rfl
theorem DO {a b:Nat} {c:Array Value} {d:TypeId} (e:w.heap[a]?=some (.cells c d (0,0))):w.frozen? ⟨a,b,none⟩=false:=by
 simp[World.frozen?,e]
theorem At.M9 (h:At s Xs w) (a:Xs.ZO=some m) (b:Nat):w.frozen? ⟨m,b,none⟩=false:=let ⟨_,c⟩:=h.mu a;DO c
theorem At.O5 (h:At s Xs w) (a:Nat):w.frozen? ⟨s,a,none⟩=false:=let ⟨_,b⟩:=h.1;DO b
theorem At.Jh (h:At s Xs w) (b:Xs.ZO=some m) (g:o'.ZO=Xs.ZO) (i:YZ o'=YZ Xs) (j:o'.YU=Xs.YU) {c:Nat} {v:Value} (hv:(#[.int .i32 (mwd Xs),.int .u32 Xs.YD]:Array Value).setIfInBounds c v=#[.int .i32 (mwd o'),.int .u32 o'.YD]):At s o' (w.setCell ⟨m,c,none⟩ v):=by
 have k:=h.ne b;obtain⟨l,d⟩:=h.mu b;obtain⟨⟨n,o⟩,p⟩:=h;have e:=heap_setCell (w:=w) (a:=⟨m,c,none⟩) (v:=v) rfl d;refine⟨⟨n,?_⟩,λr f=>⟨l,?_⟩⟩
 .rw[e,UW k,i,j];exact o
 .rw[g,b] at f;cases f;rw[e,Tt (Xq d),hv]
theorem At.M8 (h:At s Xs w) (g:o'.ZO=Xs.ZO) (i:mwd o'=mwd Xs) (j:o'.YD=Xs.YD) {b:Nat} {v:Value} (hv:(#[.int .u64 (YZ Xs),.int .u32 Xs.YU]:Array Value).setIfInBounds b v=#[.int .u64 (YZ o'),.int .u32 o'.YU]):At s o' (w.setCell ⟨s,b,none⟩ v):=by
 have k:=λm l=>h.ne (m:=m) l;obtain⟨⟨n,d⟩,o⟩:=h;have e:=heap_setCell (w:=w) (a:=⟨s,b,none⟩) (v:=v) rfl d;refine⟨⟨n,?_⟩,λf c=>?_⟩
 .rw[e,Tt (Xq d),hv]
 .rw[g] at c;obtain⟨p,r⟩:=o f c;exact⟨p,by rw[e,UW (YQ (k f c)),i,j];exact r⟩
theorem At.Jg (h:At s Xs w) (a:Xs.ZO=some m) {sp:Spec} (b:sp.ZO=some m) {c:Nat} (v:Value):Xr (λd _=>Yb s sp d) (λ_=>False) w (w.setCell ⟨m,c,none⟩ v):=
 let ⟨_,e⟩:=h.mu a;DR e v λ_=>.inr b
theorem At.M7 (h:At s Xs w) {sp:Spec} {a:Nat} (v:Value):Xr (λb _=>Yb s sp b) (λ_=>False) w (w.setCell ⟨s,a,none⟩ v):=
 let ⟨_,c⟩:=h.1;DR c v λ_=>.inl rfl
end
theorem DN {s d:Nat} {sp:Spec}:Sn s sp d #[]:=⟨rfl,λj e h=>by simp at h⟩
theorem QO {s b e d:Nat} {sp:Spec} {es:Array Event} (i:Yb s sp b) (hd:0<d) (f:∀y∈es,y.loc=.cell ⟨b,e,none⟩/\y.sync=true):Sn s sp d es:=by
 have g:∀(es:Array Event),(∀y∈es,y.loc=.cell ⟨b,e,none⟩/\y.sync=true)->deafBehind d es=d:=by
  intro es;obtain⟨l⟩:=es;intro h;unfold deafBehind;simp only[List.foldl_toArray']
  induction l with
  | nil=>rfl
  | cons y l k=>
   simp only[List.foldl_cons];have:=h y J;rw[this.1];exact k λz a=>h z (by simp at a ⊢;exact .inr a)
 refine⟨g es f,λj y m=>.inr (.inr ⟨b,e,y.write,?_,i,?_⟩)⟩
 .have:=f y (Array.mem_of_getElem? m);obtain⟨l,w1,n⟩:=y;simp only at this;rw[this.1,this.2]
 .rw[g]
  .exact hd
  .intro z a;exact f z (by
    rw[K5] at a ⊢;obtain⟨q,c⟩:=a;rw[Array.getElem?_extract] at c;split at c
    .exact⟨_,c⟩
    .cases c)
end
end Go.TL
namespace Go.TL
open Go.Proofs.Tryz
open Go.Conc
open Go.ConcM (OsLater)
open Go.ConcN (sumTo upd sumTo_upd upd_ne upd_same sumTo_congr le_sumTo)
variable [ZN]
section
variable {P:Program} {Q:Value->Prop} {mn:Bool} {x:ZZ} {b:Frame} {cs:List Frame} {nt:Nat} {o:Base} {k:List Item} {env:Δ} {σ:Ρ}
variable {ops:Array Oper} {i:Nat} {rest:List Nat} {op:Oper} {f:FuncId} {e:Array Value->Sem Value} {args:Array Operand} {vs:List Value}
def We (P:Program) (Q:Value->Prop) (mn:Bool) (x:ZZ) (b:Frame) (cs:List Frame) (nt:Nat) (o:Base) (ops:Array Oper) (rest:List Nat) (k:List Item) (op:Oper) (env:Δ) (σ:Ρ) (s φ:Nat) (a:δ) (v:Value):Prop:=
 V P Q mn (one {x with view:=upd x.view s (some (φ,a))}) b cs nt o (.inRegion ops rest::k) (Zt op env (.z v)) σ
def Ru (P:Program) (Q:Value->Prop) (mn:Bool) (x:ZZ) (b:Frame) (cs:List Frame) (nt:Nat) (o:Base) (ops:Array Oper) (rest:List Nat) (k:List Item) (op:Oper) (env:Δ) (σ:Ρ) (s φ:Nat) (c:δ) (v:Value) (o':δ) (t':Tok):Prop:=
 Act c (x.tok s) o' t'/\∀a,a<φ->V P Q mn (one {x with tok:=upd x.tok s t',view:=upd x.view s (some (a,o'))}) b cs nt o (.inRegion ops rest::k) (Zt op env (.z v)) σ
structure Seen (x:ZZ) (s:Nat) (sp:Spec) (φ:Nat) (a:δ):Prop where
 spec:a.toSpec=sp
 view:Ik x s φ a
 Vs:OG a (x.tok s)
theorem V.ext (u:XQ x) {s:Nat} {sp:Spec} (A:x.spec s=some sp) (B:¬Xj (x.tok s)) (h:WZ P b ops i op f e args env vs nt)
  (C:∀(w:World) (φ:Nat) (a:δ),Seen x s sp φ a->At s a w->
   (∃v w' c,(e vs.toArray).run P w=.ok v w'/\(e vs.toArray).events P w #[⟨.mark (Mark.extern f),false,true⟩]=#[⟨.mark (Mark.extern f),false,true⟩]++c/\(∀y∈c,y.sync=true/\∀g,y.loc≠.mark (Mark.extern g))/\
    Xr (λD _=>Yb s sp D) (λ_=>False) w w'/\Sn s sp x.deaf c/\
    ((At s a w'/\We P Q mn x b cs nt o ops rest k op env σ s φ a v)\/∃o' t',At s o' w'/\Ru P Q mn x b cs nt o ops rest k op env σ s φ a v o' t'))\/
   (U3 a (x.tok s)/\(∀n,n≠s->Ti (x.tok n))/\(e vs.toArray).run P w=.halt .blocked w)) :
  V P Q mn (one x) b cs nt o (.inRegion ops (i::rest)::k) env σ:=by
 obtain⟨R,d⟩:=h.call;refine .atomic u A B h.dst h.want λt w φ a _ p r E F H I=>?_;rcases C w φ a ⟨E,H,I⟩ F with⟨v,w',c,j,l,m,J,K,L⟩|⟨j,l,m⟩
 .refine .inl ⟨v,w',c,Jm h.UD h.at_ r d (p _ _ h.LC) j l m,J,K,L.imp id λ⟨o',t',M,N,O⟩=>⟨o',t',N,M,.inl (DS h.UD h.at_ d),O⟩⟩
 .exact .inr ⟨j,l,xh h.UD h.at_ r d (p _ _ h.LC) m⟩
theorem QN (a:Addr):∀y∈(#[⟨.cell a,false,true⟩,⟨.cell a,true,true⟩]:Array Event),y.loc=.cell a/\y.sync=true:=by
 intro y b;simp at b;rcases b with rfl|rfl<;>exact⟨rfl,rfl⟩
theorem QM (a:Addr) (wr:Bool):∀y∈(#[⟨.cell a,wr,true⟩]:Array Event),y.loc=.cell a/\y.sync=true:=by
 intro y b;simp at b;subst b;exact⟨rfl,rfl⟩
theorem QL {b:Addr} {es:Array Event} (h:∀y∈es,y.loc=.cell b/\y.sync=true):∀y∈es,y.sync=true/\∀g,y.loc≠.mark (Mark.extern g):=λy a=>⟨(h y a).2,λg e=>by rw[(h y a).1] at e;cases e⟩
structure M6 (a o':δ):Prop where
 ZO:o'.ZO=a.ZO
 g:YZ o'=YZ a
 w:o'.YU=a.YU
structure QK (a o':δ):Prop where
 ZO:o'.ZO=a.ZO
 g:mwd o'=mwd a
 w:o'.YD=a.YD
section
variable {s m:Nat} {sp:Spec} (X6:XQ x) (hd:0<x.deaf) (V0:x.spec s=some sp) (VZ:¬Xj (x.tok s))
include X6 hd V0 VZ
theorem V.Jf (d:sp.ZO=some m) {e t:Int} (h:WZ P b ops i op f (Extern.Atomic.casT (.int .i32)) args env [.pointer (some ⟨m,0,none⟩),.int .i32 e,.int .i32 t] nt)
  (u:∀φ a,Seen x s sp φ a->¬mwd a=e->We P Q mn x b cs nt o ops rest k op env σ s φ a (.bool false)\/∃t',Ru P Q mn x b cs nt o ops rest k op env σ s φ a (.bool false) a t')
  (v:∀φ a,Seen x s sp φ a->mwd a=e->∃o' t',mwd o'=t/\o'.YD=a.YD/\M6 a o'/\Ru P Q mn x b cs nt o ops rest k op env σ s φ a (.bool true) o' t') :
  V P Q mn (one x) b cs nt o (.inRegion ops (i::rest)::k) env σ:=by
 refine .ext X6 V0 VZ h λw φ a p c=>.inl ?_;have j:a.ZO=some m:=by rw[p.spec];exact d
 have l:=c.Rv j
 have n:=c.M9 j 0;by_cases hv:mwd a=e
 .obtain⟨o',t',y,A,r,B⟩:=v φ a p hv;subst hv;refine⟨.bool true,_,_,(congrArg (Sem.run P · w) (casT_eq _ _)).trans (run_cas_hit_entry l n),?_,QL (QN ⟨m,0,none⟩),c.Jg j d _,QO (.inr d) hd (QN ⟨m,0,none⟩),.inr ⟨o',t',c.Jh j r.ZO r.g r.w ?_,B⟩⟩
  .exact(congrArg (Sem.events P · w _) (casT_eq _ _)).trans ((events_cas_hit_entry l n _).trans rfl)
  .rw[y,A];rfl
 .refine⟨.bool false,w,_,(congrArg (Sem.run P · w) (casT_eq _ _)).trans (run_cas_miss_entry l n hv),?_,QL (QM ⟨m,0,none⟩ false),Xr.refl _ _ _,QO (.inr d) hd (QM ⟨m,0,none⟩ false),?_⟩
  .exact(congrArg (Sem.events P · w _) (casT_eq _ _)).trans ((events_cas_miss_entry l n hv _).trans rfl)
  .exact(u φ a p hv).imp (λh=>⟨c,h⟩) λ⟨t',h⟩=>⟨a,t',c,h⟩
theorem V.DL (j:sp.ZO=some m) {d:Int} (h:WZ P b ops i op f (Extern.Atomic.update (Op.intArith .add) .i32 true) args env [.pointer (some ⟨m,0,none⟩),.int .i32 d] nt)
  (v:∀φ a,Seen x s sp φ a->∃o' t',mwd o'=IntKind.i32.wrap (mwd a+d)/\o'.YD=a.YD/\M6 a o'/\Ru P Q mn x b cs nt o ops rest k op env σ s φ a (.int .i32 (mwd o')) o' t') :
  V P Q mn (one x) b cs nt o (.inRegion ops (i::rest)::k) env σ:=by
 refine .ext X6 V0 VZ h λw φ a n c=>.inl ?_;have e:a.ZO=some m:=by rw[n.spec];exact j
 have p:=c.Rv e
 have r:=c.M9 e 0;obtain⟨o',t',t,y,l,u⟩:=v φ a n;rw[t] at u;refine⟨_,_,_,run_add_entry p r,(events_add_entry p r _).trans rfl,QL (QN ⟨m,0,none⟩),c.Jg e j _,QO (.inr j) hd (QN ⟨m,0,none⟩),.inr ⟨o',t',c.Jh e l.ZO l.g l.w ?_,u⟩⟩;rw[t,y];rfl
theorem V.Hi (h:WZ P b ops i op f (Extern.Atomic.loadT (.int .u64)) args env [.pointer (some ⟨s,0,none⟩)] nt)
  (e:∀φ a,Seen x s sp φ a->We P Q mn x b cs nt o ops rest k op env σ s φ a (.int .u64 (YZ a))\/∃t',Ru P Q mn x b cs nt o ops rest k op env σ s φ a (.int .u64 (YZ a)) a t') :
  V P Q mn (one x) b cs nt o (.inRegion ops (i::rest)::k) env σ:=by
 refine .ext X6 V0 VZ h λw φ a g c=>.inl ?_;have d:=c.Tg;refine⟨.int .u64 (YZ a),w,#[⟨.cell ⟨s,0,none⟩,false,true⟩],?_,?_,QL (QM _ false),Xr.refl _ _ _,QO (.inl rfl) hd (QM _ false),(e φ a g).imp (λh=>⟨c,h⟩) λ⟨t',h⟩=>⟨a,t',c,h⟩⟩
 .change Sem.run P (do Extern.Atomic.read (.int .u64) (<-asAddr (.pointer (some _)))) w=_;simp[Extern.Atomic.read,asAddr,d]
 .change Sem.events P (do Extern.Atomic.read (.int .u64) (<-asAddr (.pointer (some _)))) w _=_;simp[Extern.Atomic.read,asAddr,d,events_load]
theorem V.xe {d m:Int} (h:WZ P b ops i op f (Extern.Atomic.casT (.int .u64)) args env [.pointer (some ⟨s,0,none⟩),.int .u64 d,.int .u64 m] nt)
  (p:∀φ a,Seen x s sp φ a->¬YZ a=d->We P Q mn x b cs nt o ops rest k op env σ s φ a (.bool false))
  (r:∀φ a,Seen x s sp φ a->YZ a=d->∃o' t',YZ o'=m/\o'.YU=a.YU/\QK a o'/\Ru P Q mn x b cs nt o ops rest k op env σ s φ a (.bool true) o' t') :
  V P Q mn (one x) b cs nt o (.inRegion ops (i::rest)::k) env σ:=by
 refine .ext X6 V0 VZ h λw φ a n c=>.inl ?_;have e:=c.Tg;have j:=c.O5 0;by_cases hv:YZ a=d
 .obtain⟨o',t',t,u,l,v⟩:=r φ a n hv;subst hv;refine⟨.bool true,_,_,(congrArg (Sem.run P · w) (casT_eq _ _)).trans (run_cas_hit_entry e j),?_,QL (QN ⟨s,0,none⟩),c.M7 _,QO (.inl rfl) hd (QN ⟨s,0,none⟩),.inr ⟨o',t',c.M8 l.ZO l.g l.w ?_,v⟩⟩
  .exact(congrArg (Sem.events P · w _) (casT_eq _ _)).trans ((events_cas_hit_entry e j _).trans rfl)
  .rw[t,u];rfl
 .refine⟨.bool false,w,_,(congrArg (Sem.run P · w) (casT_eq _ _)).trans (run_cas_miss_entry e j hv),?_,QL (QM ⟨s,0,none⟩ false),Xr.refl _ _ _,QO (.inl rfl) hd (QM ⟨s,0,none⟩ false),.inl ⟨c,p φ a n hv⟩⟩;exact(congrArg (Sem.events P · w _) (casT_eq _ _)).trans ((events_cas_miss_entry e j hv _).trans rfl)
theorem V.Hh {d:Int} (h:WZ P b ops i op f (Extern.Atomic.update (Op.intArith .add) .u64 true) args env [.pointer (some ⟨s,0,none⟩),.int .u64 d] nt)
  (p:∀φ a,Seen x s sp φ a->∃o' t',YZ o'=IntKind.u64.wrap (YZ a+d)/\o'.YU=a.YU/\QK a o'/\Ru P Q mn x b cs nt o ops rest k op env σ s φ a (.int .u64 (YZ o')) o' t') :
  V P Q mn (one x) b cs nt o (.inRegion ops (i::rest)::k) env σ:=by
 refine .ext X6 V0 VZ h λw φ a r c=>.inl ?_;have j:=c.Tg;have l:=c.O5 0;obtain⟨o',t',m,t,e,n⟩:=p φ a r;rw[m] at n;refine⟨_,_,_,run_add_entry j l,(events_add_entry j l _).trans rfl,QL (QN ⟨s,0,none⟩),c.M7 _,QO (.inl rfl) hd (QN ⟨s,0,none⟩),.inr ⟨o',t',c.M8 e.ZO e.g e.w ?_,n⟩⟩;rw[m,t];rfl
end
theorem DK {w:World} {a:Addr} {n:Int} {vs:List Value} (b:vs[0]?=some (.pointer (some a))) (c:w.cell? a=some (.int .u32 n)) (d:n≠0) (e:w.frozen? a=false):(Extern.Sync.semacquire vs.toArray).run P w=.ok (.tuple #[]) (w.setCell a (.int .u32 (n-1))):=by
 simp[Extern.Sync.semacquire,Extern.Sync.count,b,c,d,e,Extern.Sync.none_,run_store P w a (.int .u32 (n-1)) .atomic rfl,Result.andThen]
theorem DJ {w:World} {a:Addr} {n:Int} {vs:List Value} (b:vs[0]?=some (.pointer (some a))) (c:w.cell? a=some (.int .u32 n)) (d:n≠0) (e:w.frozen? a=false) (es:Array Event):(Extern.Sync.semacquire vs.toArray).events P w es=es++semEvents a:=by
 simp[Extern.Sync.semacquire,Extern.Sync.count,b,c,d,e,semEvents,events_load,events_store P w _ a (.int .u32 (n-1)) .atomic rfl,run_store P w a (.int .u32 (n-1)) .atomic rfl,Result.evThen];apply NM;simp
theorem DI {w:World} {a:Addr} {vs:List Value} (b:vs[0]?=some (.pointer (some a))) (c:w.cell? a=some (.int .u32 0)):(Extern.Sync.semacquire vs.toArray).run P w=.halt .blocked w:=by
 simp[Extern.Sync.semacquire,Extern.Sync.count,b,c]
theorem DH {w:World} {a:Addr} {n:Int} {vs:List Value} (b:vs[0]?=some (.pointer (some a))) (c:w.cell? a=some (.int .u32 n)) (d:w.frozen? a=false):(Extern.Sync.semrelease vs.toArray).run P w=.ok (.tuple #[]) (w.setCell a (.int .u32 (IntKind.u32.wrap (n+1)))):=by
 simp[Extern.Sync.semrelease,Extern.Sync.count,b,c,d,Extern.Sync.none_,Op.intArith,run_store P w a (.int .u32 (IntKind.u32.wrap (n+1))) .atomic rfl,Result.andThen]
theorem DG {w:World} {a:Addr} {n:Int} {vs:List Value} (b:vs[0]?=some (.pointer (some a))) (c:w.cell? a=some (.int .u32 n)) (d:w.frozen? a=false) (es:Array Event):(Extern.Sync.semrelease vs.toArray).events P w es=es++semEvents a:=by
 simp[Extern.Sync.semrelease,Extern.Sync.count,b,c,d,semEvents,Op.intArith,events_load,events_store P w _ a (.int .u32 (IntKind.u32.wrap (n+1))) .atomic rfl,run_store P w a (.int .u32 (IntKind.u32.wrap (n+1))) .atomic rfl,Result.evThen];apply NM;simp
theorem Je {s b c d:Nat} {sp:Spec} (e:Yb s sp b):Sn s sp d (semEvents ⟨b,c,none⟩):=by
 refine⟨by simp[deafBehind,semEvents],λj y a=>?_⟩
 match j,a with
 | 0,a=>simp[semEvents] at a;subst a;exact .inl rfl
 | 1,a=>simp[semEvents] at a;subst a;exact .inr (.inr ⟨b,c,false,rfl,e,by simp[semEvents,deafBehind]⟩)
 | 2,a=>simp[semEvents] at a;subst a;exact .inr (.inr ⟨b,c,true,rfl,e,by simp[semEvents,deafBehind]⟩)
 | 3,a=>simp[semEvents] at a;subst a;exact .inr (.inl rfl)
 | j+4,a=>simp[semEvents] at a
section
variable {s m:Nat} {sp:Spec} (X6:XQ x) (V0:x.spec s=some sp) (VZ:¬Xj (x.tok s))
include X6 V0 VZ
theorem V.xd (e:sp.ZO=some m) (j:vs[0]?=some (.pointer (some ⟨m,1,none⟩))) (u:∀r,r≠s->Ti (x.tok r)) (h:WZ P b ops i op f Extern.Sync.semacquire args env vs nt)
  (v:∀φ a,Seen x s sp φ a->a.YD=0->U3 a (x.tok s))
  (y:∀φ a,Seen x s sp φ a->0<a.YD->∃o' t',mwd o'=mwd a/\o'.YD=a.YD-1/\M6 a o'/\Ru P Q mn x b cs nt o ops rest k op env σ s φ a (.tuple #[]) o' t') :
  V P Q mn (one x) b cs nt o (.inRegion ops (i::rest)::k) env σ:=by
 refine .ext X6 V0 VZ h λw φ a l c=>?_;have d:a.ZO=some m:=by rw[l.spec];exact e
 have n:=c.DQ d;by_cases hv:a.YD=0
 .exact .inr ⟨v φ a l hv,u,DI j (by rw[n,hv];rfl)⟩
 .obtain⟨o',t',A,B,p,C⟩:=y φ a l U;have t:((a.YD:Nat):Int)≠0:=U;refine .inl ⟨_,_,_,DK j n t (c.M9 d 1),DJ j n t (c.M9 d 1) _,semEvents_sync _,c.Jg d e _,Je (.inr e),.inr ⟨o',t',c.Jh d p.ZO p.g p.w ?_,C⟩⟩;rw[A,B,show((a.YD:Nat):Int)-1=((a.YD-1:Nat):Int) by omega];rfl
theorem V.xc (d:vs[0]?=some (.pointer (some ⟨s,1,none⟩))) (p:∀l,l≠s->Ti (x.tok l)) (h:WZ P b ops i op f Extern.Sync.semacquire args env vs nt)
  (r:∀φ a,Seen x s sp φ a->a.YU=0->U3 a (x.tok s))
  (t:∀φ a,Seen x s sp φ a->0<a.YU->∃o' t',YZ o'=YZ a/\o'.YU=a.YU-1/\QK a o'/\Ru P Q mn x b cs nt o ops rest k op env σ s φ a (.tuple #[]) o' t') :
  V P Q mn (one x) b cs nt o (.inRegion ops (i::rest)::k) env σ:=by
 refine .ext X6 V0 VZ h λw φ a m c=>?_;have e:=c.Ji;by_cases hv:a.YU=0
 .exact .inr ⟨r φ a m hv,p,DI d (by rw[e,hv];rfl)⟩
 .obtain⟨o',t',u,v,j,y⟩:=t φ a m U;have n:((a.YU:Nat):Int)≠0:=U;refine .inl ⟨_,_,_,DK d e n (c.O5 1),DJ d e n (c.O5 1) _,semEvents_sync _,c.M7 _,Je (.inl rfl),.inr ⟨o',t',c.M8 j.ZO j.g j.w ?_,y⟩⟩;rw[u,v,show((a.YU:Nat):Int)-1=((a.YU-1:Nat):Int) by omega];rfl
theorem V.DF (e:sp.ZO=some m) (l:vs[0]?=some (.pointer (some ⟨m,1,none⟩))) (h:WZ P b ops i op f Extern.Sync.semrelease args env vs nt)
  (r:∀φ a,Seen x s sp φ a->a.YD<1000/\∃o' t',mwd o'=mwd a/\o'.YD=a.YD+1/\M6 a o'/\Ru P Q mn x b cs nt o ops rest k op env σ s φ a (.tuple #[]) o' t') :
  V P Q mn (one x) b cs nt o (.inRegion ops (i::rest)::k) env σ:=by
 refine .ext X6 V0 VZ h λw φ a n c=>.inl ?_;have d:a.ZO=some m:=by rw[n.spec];exact e
 have p:=c.DQ d;obtain⟨y,o',t',t,u,j,v⟩:=r φ a n;refine⟨_,_,_,DH l p (c.M9 d 1),DG l p (c.M9 d 1) _,semEvents_sync _,c.Jg d e _,Je (.inr e),.inr ⟨o',t',c.Jh d j.ZO j.g j.w ?_,v⟩⟩;rw[t,u,show IntKind.u32.wrap (((a.YD:Nat):Int)+1)=((a.YD+1:Nat):Int) by simp only[IntKind.wrap_u32];omega];rfl
end
end
end Go.TL
namespace Go.TL
open Go.Proofs.Tryz
open Go.Conc
open Go.ConcM (OsLater)
open Go.ConcN (sumTo upd sumTo_upd upd_ne upd_same sumTo_congr le_sumTo)
open Go.ConcR (mk)
variable [ZN]
section
variable {P:Program} {T:ZR} {Q:Value->Prop} {mn:Bool} {x:ZZ} {z:W6} {b:Frame} {cs:List Frame} {nt:Nat} {o:Base} {k:List Item} {env:Δ} {σ:Ρ}
variable {ops:Array Oper} {i:Nat} {rest:List Nat} {op:Oper} {f:FuncId} {e:Array Value->Sem Value} {args:Array Operand} {vs:List Value} {fn:Func}
theorem TJ {S:ο} {B:Z8} {l:List Value} {vs:Array Value} (h:XT S B σ (l.map I.z) vs):vs=l.toArray:=by
 apply NM;apply RQ;intro i;have a:=h.1;rw[Yp] at a;by_cases hi:i<l.length
 .have b:(l.map I.z)[i]?=some (.z l[i]):=by rw[Yh,ε hi];rfl
  have Φ:vs[i]?=some vs[i]:=XI U
  have:=h.2 i _ _ b Φ
  have:vs[i]=l[i]:=by generalize vs[i]=u at this;cases this;rfl
  rw[Wl,Φ,this];simp[hi]
 .rw[Wl,NV U];simp;omega
theorem V.call (n:Seq z) (j:TK b ops i op) (p:XM env ops op=some true) {y:Operand} {r:Array TypeId} (l:op.op=.call ⟨.value y,args,r⟩) {g:FuncId} {first captured:ξ} (s:η env y=.fn (.func g) first captured) (u:Plain P g)
  (h:∀(S:ο) (B:Z8) (H:Ψ) (t:Array Value) (vs:Array Value),X5 o.m o.S o.B o.H o.σ S B H σ->XA o.m nt S B H σ env t->XT S B σ (first++args.toList.map (η env)++captured) vs->
   ν P Q mn z (Frame.enter P g vs .normal) (π b t (.inRegion ops (i::rest)::k)::cs) H):V P Q mn z b cs nt o (.inRegion ops (i::rest)::k) env σ:=by
 intro S B H t v a;refine .op n j.run j.op (U1 a.Zn p) (.inr λc=>by rw[l];simp) ?_;have e:execOp (ZM t) op=(do let d <-Deferred.ofValue (ZM t y) (args.map (ZM t));invoke d.target d.args):=by unfold execOp;rw[l];rfl
 rw[e];have f:=Un a.Zn y;have w:=Ht a.Zn args;rw[s] at f;generalize ZM t y=N at f;cases f with
 | fn x A C D E F=>
  refine Ω.bind' (Ω.pure' ?_);obtain⟨fn,I,J,K⟩:=u;unfold invoke;simp only;unfold callFunc;refine Ω.bind' ?_;show Ω P (match P.funcs[g]? with|none=>_|some fn=>_) H _ _;rw[I];simp only[J,K,Xf,if_false];refine Ω.pure' ?_;have L:XT S B σ first x:=⟨C,E⟩
  have M:XT S B σ captured A:=⟨D,F⟩;exact h S B H t _ v a ((L.append w).append M)
theorem V.Rt {g:FuncId} {body:Code} (e:P.funcs[g]?=some fn) (f:fn.body=some body) {c:Frame} {S:ο} {B:Z8} {H:Ψ} (j:Holds S B σ H) (k:vs.length<=fn.ntmps)
  (h:V P Q mn z (Frame.enter P g vs.toArray .normal) (c::cs) fn.ntmps ⟨S,[],H,[],0⟩ [.code body] (entry 0 (vs.map I.z)) []):ν P Q mn z (Frame.enter P g vs.toArray .normal) (c::cs) H:=by
 rw[SG e f];refine h.here (XA.enter j.bare ⟨J,λi a v b d=>?_⟩ (Z1 _) (by simpa using k));simp only[Yh,List.getElem?_toArray] at b d;rw[d] at b;cases b;exact .z v
theorem V.Hg (a:Seq z) (d:b.mode=.run) (e:b.roundOf=none) (f:b.defers=[]) (g:b.kind=.normal) (i:P.funcs[b.fn]?=some fn) (j:fn.results=#[]) {c:Frame}
  (h:∀(S:ο) (B:Z8) (H:Ψ),X5 o.m o.S o.B o.H o.σ S B H σ->Holds S B σ H->ν P Q mn z (c.finish (.tuple #[])) cs H):V P Q mn z b (c::cs) nt o (.code .ret::k) env σ:=by
 intro S B H t l n;refine .ret a d e (.back a rfl f (.inl g) i ?_);rw[results_none j];exact Ω.pure' (h S B H l n.holds)
theorem V.Jd (a:Seq z) (d:b.mode=.run) (e:b.roundOf=none) (f:b.defers=[]) (g:b.kind=.normal) (i:P.funcs[b.fn]?=some fn) (j:fn.results=#[]) {c:Frame}
  (h:∀(S:ο) (B:Z8) (H:Ψ),X5 o.m o.S o.B o.H o.σ S B H σ->Holds S B σ H->ν P Q mn z (c.finish (.tuple #[])) cs H):V P Q mn z b (c::cs) nt o [] env σ:=by
 intro S B H t k l;refine .Qm a d e (.back a rfl f (.inl g) i ?_);rw[results_none j];exact Ω.pure' (h S B H k l.holds)
theorem V.PX (a:Seq z) (g:b.mode=.run) (i:b.roundOf=none) (j:b.defers=[]) (l:b.kind=.normal) (n:P.funcs[b.fn]?=some fn) {d:Nat} (p:fn.results=#[.tmp d]) {v:Value} (hv:Z7 env d=.z v) {c:Frame}
  (h:∀(S:ο) (B:Z8) (H:Ψ),X5 o.m o.S o.B o.H o.σ S B H σ->Holds S B σ H->ν P Q mn z (c.finish v) cs H):V P Q mn z b (c::cs) nt o (.code .ret::k) env σ:=by
 intro S B H t r f;refine .ret a g i (.back a rfl j (.inl l) n ?_);have e:results fn t=pure (t.getD d undef):=by unfold results;rw[p];simp
 have s:t.getD d undef=v:=by
  have:=f.Zn d;rw[hv] at this;generalize t.getD d undef=u at this;cases this;rfl
 show Ω P (results fn t) H _ _;rw[e,s];exact Ω.pure' (h S B H r f.holds)
theorem xb {w:World} {b:TypeId} {e:IntKind} (c:P.underlying b=some (.int e)) {a:Addr} {v:Value} (d:w.cell? a=some v):(Instr.loadAt b (.pointer (some a))).run P w=.ok v w/\(Instr.loadAt b (.pointer (some a))).events P w #[]=#[⟨.cell a,false,false⟩]:=by
 constructor
 .simp[Instr.loadAt,Instr.sureAddr,loadVar,isAgg,run_underlying c,d,Result.andThen]
 .simp[Instr.loadAt,Instr.sureAddr,loadVar,isAgg,run_underlying c,d,events_load,Result.evThen]
theorem xa {t:Array Value} {w:World} (a:TK b ops i op) (g:Region.wanted op (yielded ops t)=true) {d:TypeId} {y:Operand} (h:op.op=.load d y) {j:IntKind} (l:P.underlying d=some (.int j)) {c:Addr} (m:ZM t y=.pointer (some c)) {v:Value} (n:w.cell? c=some v) (o:(P.funcs[b.fn]?).any (·.norace)=true) :
  stepG P mn (Go.Conc.G (π b t (.inRegion ops (i::rest)::k)) cs) w=.go (Go.Conc.G (π b (put op t v) (.inRegion ops rest::k)) cs) w #[]:=by
 obtain⟨f,p⟩:=xb (P:=P) l n;have e:execOp (ZM t) op=(do pure (.value (<-Instr.loadAt d (.pointer (some c))))):=by unfold execOp;rw[h,<-m]
 rw[W' a.run a.ro,W' a.run a.ro,<-O7];have r:(execOp (⟨t,b.defers⟩:_root_.Go.Act).eval op).run P w=.ok (.value v) w:=by rw[Ug,e];simp[f,Result.andThen]
 have s:(execOp (⟨t,b.defers⟩:_root_.Go.Act).eval op).events P w #[]=#[⟨.cell c,false,false⟩]:=by rw[Ug,e];simp[f,p,Result.evThen]
 rw[stepG_value a.op g a.kd r];unfold listed;rw[s,seen_def,o];simp[seenStep]
section
variable {s:Nat} {sp:Spec} (X6:XQ x) (V0:x.spec s=some sp) (VZ:¬Xj (x.tok s))
include X6 V0 VZ
theorem V.M5 (l:TK b ops i op) (hd:W2 nt op=true) (m:XM env ops op=some true) {f:TypeId} {y:Operand} (n:op.op=.load f y) {c:IntKind} (p:P.underlying f=some (.int c)) {g:Addr} (r:η env y=.z (.pointer (some g))) (u:(P.funcs[b.fn]?).any (·.norace)=true)
  (d:δ->Int) (v:∀(a:δ) (w:World),a.toSpec=sp->At s a w->w.cell? g=some (.int c (d a)))
  (A:∀φ a,Seen x s sp φ a->We P Q mn x b cs nt o ops rest k op env σ s φ a (.int c (d a))\/∃t',Ru P Q mn x b cs nt o ops rest k op env σ s φ a (.int c (d a)) a t') :
  V P Q mn (one x) b cs nt o (.inRegion ops (i::rest)::k) env σ:=by
 refine .atomic X6 V0 VZ hd m λt w φ a B _ C j e D E=>.inl ?_;refine⟨.int c (d a),w,#[],xa l C n p (B _ _ r) (v a w j e) u,Xr.refl _ _ _,DN,?_⟩;exact(A φ a ⟨j,D,E⟩).imp (λh=>⟨e,h⟩) λ⟨t',F,H⟩=>⟨a,t',F,e,.inr rfl,H⟩
theorem V.conv (c:TK b ops i op) (hd:W2 nt op=true) (n:XM env ops op=some true) {src dst t0:TypeId} {y:Operand} (p:op.op=.convert src dst y) (f:P.underlying src=some (.pointer t0)) (g:P.underlying dst=some .unsafePointer) (h:(P.info? t0).map (λi=>decide (i.size=0))=some false) {d:Addr} (r:η env y=.z (.pointer (some d)))
  (u:∀(a:δ) (w:World),a.toSpec=sp->At s a w->∃v,w.cell? d=some v)
  (A:∀φ a,Seen x s sp φ a->We P Q mn x b cs nt o ops rest k op env σ s φ a (.pointer (some d))) :
  V P Q mn (one x) b cs nt o (.inRegion ops (i::rest)::k) env σ:=by
 refine .atomic X6 V0 VZ hd n λt w φ a B _ C j l D E=>.inl ?_;obtain⟨v,hv⟩:=u a w j l;refine⟨.pointer (some d),w,#[],?_,Xr.refl _ _ _,DN,.inl ⟨l,A φ a ⟨j,D,E⟩⟩⟩;have m:=run_convert_to_unsafe (P:=P) f g h hv;have F:=events_convert_to_unsafe (P:=P) f g h hv #[];have e:execOp (ZM t) op=(do pure (.value (<-convert src dst (.pointer (some d))))):=by unfold execOp;rw[p,<-B _ _ r]
 rw[W' c.run c.ro,W' c.run c.ro,<-O7];have H:(execOp (⟨t,b.defers⟩:_root_.Go.Act).eval op).run P w=.ok (.value (.pointer (some d))) w:=by rw[Ug,e];simp[m,Result.andThen]
 have I:(execOp (⟨t,b.defers⟩:_root_.Go.Act).eval op).events P w #[]=#[]:=by rw[Ug,e];simp[m,F,Result.evThen]
 rw[stepG_value c.op C c.kd H];unfold listed;rw[I,seen_none]
end
theorem w9 (w:World):OsLater w.os w.later.os:=⟨w.tick,rfl⟩
theorem Yo.later {H:Ψ} {w:World} (h:Fits H w):Yo H w H w.later #[]:=
 ⟨⟨h.κ,h.row,h.obj⟩,⟨Z1 _,λb c t f a=>⟨c,a,rfl,λ_ _=>rfl⟩,λb x a _ _=>a,w9 w,rfl,rfl⟩,⟨λb o v p h=>.inr ⟨v,p,h,id⟩,λb h=>.inr h⟩,λe d=>by simp at d⟩
theorem V.nano (g:Seq z) (h:WZ P b ops i op f Extern.OsHooks.nano args env vs nt) (c:(P.funcs[f]?).any (·.norace)=true) (j:∀τ:Int,V P Q mn z b cs nt o (.inRegion ops rest::k) (Zt op env (.z (.int .i64 τ))) σ):V P Q mn z b cs nt o (.inRegion ops (i::rest)::k) env σ:=by
 intro S B H t l d;obtain⟨fn,e,m,n,p,r⟩:=h.UD;obtain⟨v,s⟩:=h.call;rw[e] at c;refine ν.own g λw u=>⟨_,_,_,_,H,?_,Yo.later u,j ((w.os.mono+w.tick:Nat):Int) S B H _ l (d.put h.dst (.z _))⟩;rw[W' h.at_.run h.at_.ro,stepG_nanotime (a:=⟨t,b.defers⟩) h.at_.op (U1 d.Zn h.want) h.at_.kd s e m n p r (by simpa using c),O7,<-W' h.at_.run h.at_.ro]
theorem V.canSpin (e:Seq z) {n:Int} (h:WZ P b ops i op f Extern.Sync.canSpin args env [.int .i64 n] nt) (g:∀y:Bool,(y=true->n<4)->V P Q mn z b cs nt o (.inRegion ops rest::k) (Zt op env (.z (.bool y))) σ):V P Q mn z b cs nt o (.inRegion ops (i::rest)::k) env σ:=by
 intro S B H t j c;obtain⟨fn,l,m,p,r,s⟩:=h.UD;obtain⟨A,u⟩:=h.call;have v:args.map (⟨t,b.defers⟩:_root_.Go.Act).eval=#[.int .i64 n]:=by rw[Ug];exact h.LC.ZM c.Zn
 by_cases x:n<4
 .refine ν.own e λw d=>⟨_,_,_,_,H,?_,(Yo.start d).draw (w.drawn+1),g w.spins (λ_=>x) S B H _ j (c.put h.dst (.z _))⟩;rw[W' h.at_.run h.at_.ro,stepG_canSpin_ask (a:=⟨t,b.defers⟩) h.at_.op (U1 c.Zn h.want) h.at_.kd u l m p r s v x,O7,<-W' h.at_.run h.at_.ro];rfl
 .refine ν.own e λw d=>⟨_,_,w,#[],H,?_,Yo.start d,g false (λh=>by cases h) S B H _ j (c.put h.dst (.z _))⟩;rw[W' h.at_.run h.at_.ro,stepG_canSpin_no (a:=⟨t,b.defers⟩) h.at_.op (U1 c.Zn h.want) h.at_.kd u l m p r s v U,O7,<-W' h.at_.run h.at_.ro]
theorem V.Jc (c:Seq z) {v:Value} (h:WZ P b ops i op f (λ_=>pure v) args env vs nt) (d:V P Q mn z b cs nt o (.inRegion ops rest::k) (Zt op env (.z v)) σ):V P Q mn z b cs nt o (.inRegion ops (i::rest)::k) env σ:=
 λS B H t e a=>ν.own c λw g=>⟨_,_,w,#[],H,h.step a.Zn J J J,Yo.start g,d S B H _ e (a.put h.dst (.z v))⟩
theorem V.Hf (g:Seq z) (c:TK b ops i op) (j:XM env ops op=some true) (d:op.dst=none) {l:Array TypeId} (m:op.op=.defer ⟨.value (.func f),#[],l⟩)
  (h:V P Q mn z {b with defers:=Go.Conc.dcall f #[]::b.defers} cs nt o (.inRegion ops rest::k) env σ):V P Q mn z b cs nt o (.inRegion ops (i::rest)::k) env σ:=by
 intro S B H t n e;have p:put op t undef=t:=by unfold put;rw[d]
 refine ν.still g (f':=π {b with defers:=Go.Conc.dcall f #[]::b.defers} t (.inRegion ops rest::k)) (cs':=cs) (λw=>?_) (h S B H t n e);rw[W' c.run c.ro,stepG_defer (a:=⟨t,b.defers⟩) c.op (U1 e.Zn j) c.kd m];have:(⟨t,Go.Conc.dcall f #[]::b.defers⟩:_root_.Go.Act).put op.dst undef=⟨t,Go.Conc.dcall f #[]::b.defers⟩:=by rw[d];rfl
 simp only[Array.map_empty,List.map_toArray,UU];rw[this,W' (b:={b with defers:=Go.Conc.dcall f #[]::b.defers}) c.run c.ro];rfl
theorem Zb.w8 (e:XQ x) (hd:0<x.deaf) (c:b.mode=.run) (d:b.roundOf=none) {ds:List Deferred} (g:b.defers=Go.Conc.dcall f #[]::ds) (i:Entry P f (λ_=>do mark .enable;pure Extern.Race.none_)) {H:Ψ} {t:Array Value}
  (h:Zb P Q mn {x with deaf:=x.deaf-1} {π {b with defers:=ds} t k with mode:=.returning} cs H):Zb P Q mn x {π b t k with mode:=.returning} cs H:=by
 obtain⟨fn,j,l,m,n,o⟩:=i;refine Goes.step e.ok (.inr ⟨⟨rfl,rfl⟩,.inr (.inl ⟨Go.Conc.G {π {b with defers:=ds} t k with mode:=.returning} cs,⟨rfl,rfl⟩,.inr ⟨hd,λw _=>⟨?_,h⟩⟩⟩)⟩);rw[W' c d,W' (b:={b with defers:=ds}) c d];exact stepG_unwind_entry (a:=⟨t,b.defers⟩) (v:=.tuple #[]) g j l m n o (Jk .enable) (Jj .enable _) (QP J)
end
inductive Quiet (P:Program) (mn:Bool):Goroutine->Goroutine->Prop where
 | nil (g:Goroutine):Quiet P mn g g
 | cons {g g' a:Goroutine}:VS g->(∀w,stepG P mn g w=.go g' w #[])->Quiet P mn g' a->Quiet P mn g a
section
variable {P:Program} {Q:Value->Prop} {mn:Bool} {x:ZZ} {g g':Goroutine}
theorem Quiet.runs (h:Quiet P mn g g') (a:VS g'):VS g:=by
 cases h with
 | nil=>exact a
 | cons b=>exact b
theorem Quiet.goes (h:Quiet P mn g g') (i:XQ x) (d:VS g') (f:Goes P Q mn g' x):Goes P Q mn g x:=by
 induction h with
 | nil=>exact f
 | cons j k l m=>
  refine Goes.step i.ok (.inr ⟨j,.inl λw n hv=>?_⟩);rw[k w];refine⟨x.G,x.Z5,l.runs d,Xr.refl _ _ _,n,hv,⟨λb o v p h=>.inr ⟨v,p,h,id⟩,λb h=>.inr h⟩,λb c h=>.inl h,λe a=>by simp at a,λb c _ _ e a=>by simp at a,m d f⟩
end
end Go.TL
namespace Go.TL
open Go.Proofs.Tryz
open Go.Conc Go.Proofs
variable [ZN]
def PW (P:Program) (a:Value->Prop) (mn:Bool) (x:W6) (b:Frame) (cs:List Frame) (nt:Nat) (o:Base) (L:Nat) (r:Loop) (k:List Item) (env:Δ) (σ:Ρ):Prop:=
 ∀(S:ο) (B:Z8) (H:Ψ) (t:Array Value),X5 o.m o.S o.B o.H o.σ S B H σ->XA o.m nt S B H σ env t->¬B.has L->H.obj L=some (.loop r)->ν P a mn x (π b t k) cs H
theorem VG {S e:ο} {B B':Z8} {H H':Ψ} (b:Ext S B H e B' H') {L:Nat} {y:Obj} (c:¬B.has L) (a:H.obj L=some y):¬B'.has L/\H'.obj L=some y:=by
 have d:¬H.fresh L:=λh=>by rw[h.2.2.1] at a;cases a
 exact⟨λh=>(b.blocks L h).elim c d,by rw[(b.Xp L c d).2.2];exact a⟩
theorem w7 {H:Ψ} {L:Nat} {y:Obj} (f:H.XH L):∀b,(H.ZX L y).fresh b↔H.fresh b:=by
 obtain⟨z,g⟩:=f;have d:∀b,((H.ZX L y).obj b=none↔H.obj b=none):=λb=>by
  by_cases e:b=L
  .subst e;simp[Ψ.ZX,g]
  .simp[Ψ.ZX,e]
 exact λb=>⟨λh=>⟨h.1,h.2.1,(d b).1 h.2.2.1,λa c=>⟨(h.2.2.2 a c).1,(h.2.2.2 a c).2.1,(d a).1 (h.2.2.2 a c).2.2⟩⟩,
  λh=>⟨h.1,h.2.1,(d b).2 h.2.2.1,λa c=>⟨(h.2.2.2 a c).1,(h.2.2.2 a c).2.1,(d a).2 (h.2.2.2 a c).2.2⟩⟩⟩
theorem Holds.ZX {S:ο} {B:Z8} {σ:Ρ} {H:Ψ} {L:Nat} {y:Obj} (a:Holds S B σ H) (i:¬B.has L):Holds S B σ (H.ZX L y):=by
 have d:∀b,b≠L->UP H (H.ZX L y) b:=λb c=>⟨λ_=>rfl,rfl,by simp[Ψ.ZX,c]⟩
 have f:∀(id b N:Nat),B[id]?=some (some (b,N))->b≠L:=λid b N h e=>i (e▸Se h);refine⟨a.YL,a.len,λid r bo j g=>?_,a.inj,a.sep⟩;by_cases k:r.live
 .refine(a.row id r bo j g).later (Zw.refl S B σ) (λb N e=>d b (f id b N (by rw[g,e]))) λm left l e=>⟨rfl,rfl,λb N c=>d b (f m b N c)⟩
 .cases r<;>first|exact absurd trivial k|trivial
theorem Ext.ZX {f S:ο} {g B:Z8} {c H:Ψ} {L:Nat} {y:Obj} (a:Ext f g c S B H) (i:c.fresh L) (j:H.XH L):Ext f g c S B (H.ZX L y):=by
 refine⟨a.YL,λb d h=>?_,a.blocks,a.Q4,λb d=>a.grow b ((w7 j b).1 d)⟩;have:b≠L:=λe=>h (e▸i);obtain⟨k,l,m⟩:=a.Xp b d h;exact⟨k,l,by simp[Ψ.ZX,this,m]⟩
section
variable {P:Program} {T:ZR} {Q:Value->Prop} {mn:Bool} {x:W6} {b:Frame} {cs:List Frame} {nt:Nat} {o:Base} {L:Nat} {r:Loop} {k:List Item} {env:Δ} {σ:Ρ}
theorem PW.XS (g:Seq x) (i:b.mode=.run) (h:W P o.m nt k env σ (PW P Q mn x b cs nt o L r) (λ_ _ _=>False)):PW P Q mn x b cs nt o L r k env σ:=
 λS B H t l n p s=>h Q mn x cs b S B H t g i n (λj env' σ' c B' H' t' d u f w y=>by
  have e:d=j:=y;subst e;obtain⟨A,C⟩:=VG f.ext p s;exact u c B' H' t' (l.trans f) w A C) (λa env' σ' c B' H' t' d v D=>D.elim)
theorem PW.yield (s:Seq x) {ops:Array Oper} {i:Nat} {rest:List Nat} {f:Oper} (l:TK b ops i f) (u:XM env ops f=some true) {y:Operand} {args:Array Operand} {v:Array TypeId} (n:f.op=.call ⟨.value y,args,v⟩) (w:η env y=.fn (.yield L) [] []) (A:args.size=r.params.size)
  (h:∀(S:ο) (B:Z8) (H:Ψ) (t:Array Value) (vs:Array Value),X5 o.m o.S o.B o.H o.σ S B H σ->XA o.m nt S B H σ env t->¬B.has L->H.obj L=some (.loop r)->XT S B σ (args.toList.map (η env)) vs->
   ν P Q mn x (Frame.round L r.fn ((r.params.zip vs).foldl (λC (t,a)=>C.setIfInBounds t a) r.tmps) r.assign r.body .normal) (π b t (.inRegion ops (i::rest)::k)::cs) H):PW P Q mn x b cs nt o L r (.inRegion ops (i::rest)::k) env σ:=by
 intro S B H t D g E p;refine ν.op s l.run l.op (U1 g.Zn u) (.inr λc=>by rw[n];simp) ?_;have e:execOp (ZM t) f=(do let d <-Deferred.ofValue (ZM t y) (args.map (ZM t));invoke d.target d.args):=by unfold execOp;rw[n];rfl
 rw[e];have j:=Un g.Zn y;have F:=Ht g.Zn args;rw[w] at j;generalize ZM t y=R at j;cases j with
 | fn I J K M T U=>
  have N:I=#[]:=MC (by rw[<-K];rfl)
  have Φ:J=#[]:=MC (by rw[<-M];rfl);subst N;subst Φ;refine Ω.bind' (Ω.pure' ?_);have O:invoke (Target.fn (Fn.yield L) #[]) (#[]++args.map (ZM t))=Instr.yield L (args.map (ZM t)):=by simp[invoke]
  show Ω P (invoke (Target.fn (Fn.yield L) #[]) (#[]++args.map (ZM t))) H _ _;rw[O];unfold Instr.yield;refine Ω.bind' (Ω.getLoop p ?_);rw[if_neg (by simp[A])];refine Ω.bind' (Ω.pure' (Ω.pure' ?_));exact h S B H t _ D g E p F
end
end Go.TL
namespace Go.TL
open Go.Proofs.Tryz
open Go.Conc Go.Proofs
def Rs (n:Nat) (l:List Nat):Nat->Option Nat
 | 0=>none
 | e+1=>if l.getD e 0+l.length=n+e then Rs n l e else some e
def TI (l:List Nat) (i:Nat) (k:Nat):List Nat:=l.take i++((List.range k).map λj=>l.getD i 0+1+j)++l.drop (i+k)
def Rr (n:Nat) (l:List Nat):Option (List Nat):=(Rs n l l.length).map λi=>TI l i (l.length-i)
def TH (n:Nat):Nat->List Nat->List (List Nat)
 | 0,l=>[l]
 | f+1,l=>l::match Rr n l with|none=>[]|some m=>TH n f m
def Rq (n:Nat):Nat->List Nat->Bool
 | 0,l=>l.all (· < n)&&(Rr n l).isNone
 | f+1,l=>l.all (· < n)&&match Rr n l with|none=>true|some m=>Rq n f m
def VY (n c:Nat):List (List Nat):=(List.range' c (n+1-c)).flatMap λm=>TH n 1000 (List.range m)
theorem w6:∀n<13,∀m<n+1,Rq n 1000 (List.range m)=true:=by decide +kernel
theorem w5 {n c:Nat} (h:c<n+1):VY n c=TH n 1000 (List.range c)++VY n (c+1):=by
 unfold VY;have:n+1-c=(n+1-(c+1))+1:=U;rw[this,My,Mz]
theorem wZ {n:Nat}:VY n (n+1)=[]:=by simp[VY]
theorem wY {n f:Nat} {l:List Nat} (h:Rq n f l=true):∀x∈l,x<n:=by
 cases f<;>simp only[Rq,VT,Wv,decide_eq_true_eq] at h<;>exact h.1
theorem wX {n f:Nat} {l:List Nat} (h:Rr n l=none):TH n f l=[l]:=by
 cases f<;>simp[TH,h]
theorem wW {n f:Nat} {l m:List Nat} (a:Rq n f l=true) (h:Rr n l=some m):∃g,f=g+1/\TH n f l=l::TH n g m/\Rq n g m=true:=by
 cases f with
 | zero=>simp[Rq,h] at a
 | succ g=>exact⟨g,rfl,by simp[TH,h],by simp[Rq,h] at a;exact a.2⟩
theorem DD {l:List Nat} {i k:Nat} (h:i+k<=l.length):(TI l i k).length=l.length:=by simp[TI];omega
theorem wV {l:List Nat} {i:Nat} (h:i<l.length):TI l i 1=l.set i (l[i]+1):=by
 unfold TI;rw[List.set_eq_take_append_cons_drop,if_pos h];simp[h]
theorem wU {l:List Nat} {i k:Nat} (b:0<k) (h:i+k<=l.length):(TI l i k).getD (i+k-1) 0=l.getD i 0+k:=by
 unfold TI;have a:(l.take i).length=i:=by simp;omega
 rw[XJ,U6,Xw U,a,Y0 (by simp;omega)];have:i+k-1-i=k-1:=U;rw[this,Yh,List.getElem?_range U];simp;omega
theorem wT {l:List Nat} {i k:Nat} (h:i+k<l.length):(TI l i k).set (i+k) (l.getD i 0+k+1)=TI l i (k+1):=by
 unfold TI;have a:(l.take i++(List.range k).map λj=>l.getD i 0+1+j).length=i+k:=by simp;omega
 rw[PF _ _ U,a,Py,VA,Yd];have Φ:l.drop (i+k)=l[i+k]::l.drop (i+k+1):=PH h;rw[Φ,List.set_cons_zero];simp;constructor<;>omega
end Go.TL
namespace Go.TL
open Go.Proofs.Tryz
open Go.Proofs
theorem W.wS [ZN] {nt:Nat} {E:Yf} {m:Nat} {k:List Item} {env:Δ} {σ:Ρ} {Z:XZ} {is a:List Nat} (_:is=is) (_:a=a) {ops:Array Oper} {l:List Nat} (c:l=is++a) (h:∀b:Δ->Ρ->Prop,(∀env σ,W prog m nt (.inRegion ops a::k) env σ Z E->b env σ)->run prog ZW [] nt ops is env σ b E):W prog m nt (.inRegion ops l::k) env σ Z E:=W.part Υ is a c h
theorem Xy (a b:List Nat) {p q:Prop} (k:q) (h:a=a->b=b->q->p:=by intro c d k;refine W.wS c d rfl λf e=>?_;(try simp);(repeat (rw[Ν];simp));apply e;exact k):p:=h rfl rfl k
end Go.TL
namespace Go.TL
open Go.Proofs.Tryz
open Go.Conc Go.Proofs
open Go.ConcN (sumTo upd sumTo_upd upd_ne upd_same sumTo_congr le_sumTo)
theorem He {B:Type} (f:Nat->B) (s:Nat) (a b:B):upd (upd f s a) s b=upd f s b:=by
 funext i;unfold upd;split<;>rfl
def ZJ (x:ZZ) (s:Nat) (t:Tok) (v:Option (Nat×δ)) (d:Nat):ZZ:={x with tok:=upd x.tok s t,view:=upd x.view s v,deaf:=d}
section
variable {x:ZZ} {s:Nat} {t t':Tok} {v Jb:Option (Nat×δ)} {d o6:Nat}
theorem WY:({ZJ x s t v d with tok:=upd (ZJ x s t v d).tok s t',view:=upd (ZJ x s t v d).view s Jb}:ZZ)=ZJ x s t' Jb d:=by unfold ZJ;simp only[He]
theorem UY:({ZJ x s t v d with view:=upd (ZJ x s t v d).view s Jb}:ZZ)=ZJ x s t Jb d:=by unfold ZJ;simp only[He]
theorem LB:({ZJ x s t v d with deaf:=(ZJ x s t v d).deaf+1}:ZZ)=ZJ x s t v (d+1):=rfl
theorem LA:({ZJ x s t v d with deaf:=(ZJ x s t v d).deaf-1}:ZZ)=ZJ x s t v (d-1):=rfl
theorem Zo:(ZJ x s t v d).tok s=t:=by unfold ZJ;simp only[upd_same]
theorem R4:(ZJ x s t v d).view s=v:=by unfold ZJ;simp only[upd_same]
theorem Lz {r:Nat} (h:r≠s):(ZJ x s t v d).tok r=x.tok r:=by unfold ZJ;exact upd_ne _ _ h
end
theorem Hd {N:Nat} {τ:Nat->Tok} {φ a:Tok->Nat} (h:∀t,φ t<=a t):ZS N τ φ<=ZS N τ a:=by
 induction N with
 | zero=>exact Z1 _
 | succ N b=>rw[OH,OH];have:=h (τ N);omega
theorem wR {N:Nat} {τ:Nat->Tok} {φ a:Tok->Nat}:ZS N τ (λt=>φ t+a t)=ZS N τ φ+ZS N τ a:=by
 induction N with
 | zero=>rfl
 | succ N b=>simp only[OH,b];omega
structure PV (a:δ) (t:Tok):Prop where
 Y7:a.Y7<=1
 wk:a.wk<=1
 sv:a.sv<=1
 YD:a.YD<=1
 nw:a.nw<=a.top
 wQ:T5 t=1->a.sv=0/\a.wk=1
 hw:Tk t=1->a.sv=1/\a.wk=0/\a.Y7=0/\1<=a.nw
 hold:Wa t=1->a.Y7=1
 wP:Uu t=1->(a.sv=0->a.wk=1)/\(a.sv=1->a.wk=0/\a.Y7=0/\1<=a.nw)
theorem OG.Tf {c:δ} {t:Tok} (h:OG c t):PV c t:=by
 obtain⟨N,τ,i,⟨g,j⟩,hi,k,_⟩:=h;have l:=Xv τ Wa hi;have l2:=Xv τ T5 hi;have n:=Xv τ Tk hi;have o:=Xv τ Uu hi;rw[k] at l l2 n o;have p:ZS N τ Uv+ZS N τ Uu<=ZS N τ Ut:=by
  rw[<-wR];refine Hd λt=>?_;cases t<;>simp[Uv,Uu,Ut];rename_i m _;cases m<;>simp[Mt,Ms]
 have r:ZS N τ Tk<=ZS N τ Uu:=Hd λt=>by
  cases t<;>simp[Tk,Uu];rename_i m _;cases m<;>simp[KP,Ms]
 obtain⟨f1,f2,f3,s,a,b,u,v,w⟩:=g;obtain⟨x,y,A,B,C,D,E,F,H⟩:=j;have d:c.sv=0\/c.sv=1:=U;refine⟨f1,f2,f3,?_,?_,λf=>?_,λf=>?_,λf=>?_,λf=>⟨λe=>?_,λe=>?_⟩⟩
 .rcases d with e|e
  .have:=a e;omega
  .have:=b e;omega
 .rcases d with e|e
  .have:=a e;omega
  .have:=b e;omega
 .rcases d with e|e
  .have:=a e;omega
  .have:=b e;omega
 .rcases d with e|e
  .have:=a e;omega
  .have:=b e;omega
 .omega
 .have:=a e;omega
 .have:=b e;omega
structure wO (a:δ) (t:Tok):Prop where
 wt:a.wt<=1
 cnt:a.cnt<=a.top
 YU:a.YU<=1
 live:Vz t<=a.cnt
 add:∀n p,t=.par n p .add->a.wt=0/\a.YU=0/\n<=a.top/\p<=a.cnt/\a.cnt<=n
 fin:∀n p,t=.par n p .SW\/t=.par n p .w4\/t=.par n p .ZQ->a.wt=0/\a.YU=0/\a.cnt=0
 l2:∀k m,t=.ch k m .l2->a.wt=1/\a.cnt=0
 RO:∀k m,t=.ch k m .RO->a.wt=0/\a.cnt=0/\a.YU=0
theorem OG.PU {r:δ} {t:Tok} (h:OG r t):wO r t:=by
 obtain⟨N,τ,i,⟨D,d⟩,hi,a,_⟩:=h;have y:=Xv τ Vz hi;have l2:=Xv τ U5 hi;have s:=Xv τ U4 hi;rw[a] at y l2 s;have E:ZS N τ Vz<=ZS N τ Ut:=Hd λt=>by
  cases t<;>simp[Vz,Ut];rename_i g;cases g<;>simp[Qq]
 unfold Sp at d;have u:XU t=1->ZS N τ WI=WI t/\ZS N τ V9=V9 t/\ZS N τ T4=T4 t/\ZS N τ Us=Us t/\ZS N τ V8=V8 t:=λf=>by
  have A:XU (τ i)=1:=by rw[a];exact f
  refine⟨?_,?_,?_,?_,?_⟩<;>(rw[RK (λt a=>by cases t<;>simp_all [XU,WI,V9,T4,Us,V8]) d.SS hi A,a])
 obtain⟨B,F,H,I,J,b,j,c,K⟩:=d;have l:ZS N τ T4=1\/ZS N τ Us=1\/ZS N τ V8=1:=U;refine⟨B,U,?_,U,λn p e=>?_,λn p e=>?_,λk m e=>?_,λk m e=>?_⟩
 .rcases l with e|e|e
  .have:=b e;omega
  .have:=j e;omega
  .have:=c e;omega
 .subst e;obtain⟨v,w,o,C,x⟩:=u rfl;simp only[WI,V9,T4] at v w o;have:=b o;omega
 .have f:XU t=1:=by rcases e with rfl|rfl|rfl<;>rfl
  obtain⟨v,w,o,C,x⟩:=u f;have:ZS N τ V8=1:=by rw[x];rcases e with rfl|rfl|rfl<;>rfl
  have:=c this;omega
 .subst e;simp only[U5,OK] at l2;rcases l with e|e|e
  .have:=b e;omega
  .have:=j e;omega
  .have:=c e;omega
 .subst e;simp only[U4,OJ] at s;rcases l with e|e|e
  .have:=b e;omega
  .have:=j e;omega
  .have:=c e;omega
abbrev WX (a b c n:Nat):Int:=(a:Int)+2*b+4*c+8*n
theorem Hc:∀a<2,∀b<2,∀c<2,∀n<8,XY .i32 (WX a b c n) 5=a+4*c:=by decide +kernel
theorem Hb:∀a<2,∀b<2,∀c<2,∀n<8,XY .i32 (WX a b c n) 4=4*c:=by decide +kernel
theorem wN:∀a<2,∀b<2,∀c<2,∀n<8,XY .i32 (WX a b c n) 3=a+2*b:=by decide +kernel
theorem wM:∀a<2,∀b<2,∀c<2,∀n<8,XY .i32 (WX a b c n) 7=a+2*b+4*c:=by decide +kernel
theorem Ja:∀a<2,∀b<2,∀c<2,∀n<8,XY .i32 (WX a b c n) 2=2*b:=by decide +kernel
theorem wL:∀a<2,∀b<2,∀c<2,∀n<8,XY .i32 (WX a b c n) 1=a:=by decide +kernel
theorem wK:∀a<2,∀b<2,∀c<2,∀n<8,Q3 .i32 (WX a b c n) 1=WX 1 b c n:=by decide +kernel
theorem wJ:∀a<2,∀b<2,∀c<2,∀n<8,Q3 .i32 (WX a b c n) 2=WX a 1 c n:=by decide +kernel
theorem wI:∀a<2,∀b<2,∀c<2,∀n<8,Q3 .i32 (WX a b c n) 4=WX a b 1 n:=by decide +kernel
theorem Ha:∀a<2,∀b<2,∀c<2,∀n<8,U2 .i32 (WX a b c n) 2=WX a 0 c n:=by decide +kernel
theorem G9:∀a<2,∀b<2,∀c<2,∀n<8,(WX a b c n).fdiv (2 ^ min 3 IntKind.i32.bits)=n:=by decide +kernel
theorem wH:∀a<2,∀b<2,∀c<2,∀n<7,IntKind.i32.wrap (WX a b c n+8)=WX a b c (n+1):=by decide +kernel
theorem R3 (a:δ):mwd a=WX a.Y7 a.wk a.sv a.nw:=rfl
theorem Ly:Entry prog 160 (λ_=>do mark .disable;pure Extern.Race.none_):=⟨_,func160,by kernel_rfl,by kernel_rfl,by kernel_rfl,by kernel_rfl⟩
theorem O4:Entry prog 161 (λ_=>do mark .enable;pure Extern.Race.none_):=⟨_,func161,by kernel_rfl,by kernel_rfl,by kernel_rfl,by kernel_rfl⟩
theorem DC:Entry prog 159 (Extern.Race.marked .releaseMerge):=⟨_,func159,by kernel_rfl,by kernel_rfl,by kernel_rfl,by kernel_rfl⟩
theorem I':Entry prog 177 (Extern.Race.marked .acquire):=⟨_,func177,by kernel_rfl,by kernel_rfl,by kernel_rfl,by kernel_rfl⟩
theorem wG:Entry prog 167 (Extern.Race.marked .read):=⟨_,func167,by kernel_rfl,by kernel_rfl,by kernel_rfl,by kernel_rfl⟩
theorem wF:Entry prog 180 (Extern.Race.marked .write):=⟨_,func180,by kernel_rfl,by kernel_rfl,by kernel_rfl,by kernel_rfl⟩
theorem Dz:Entry prog 162 (λ_=>pure (.bool false)):=⟨_,func162,by kernel_rfl,by kernel_rfl,by kernel_rfl,by kernel_rfl⟩
theorem I9:Entry prog 212 (Extern.Atomic.casT (.int .i32)):=⟨_,func212,by kernel_rfl,by kernel_rfl,by kernel_rfl,by kernel_rfl⟩
theorem Dy:Entry prog 214 (Extern.Atomic.update (Op.intArith .add) .i32 true):=⟨_,func214,by kernel_rfl,by kernel_rfl,by kernel_rfl,by kernel_rfl⟩
theorem wE:Entry prog 216 (Extern.Atomic.casT (.int .u64)):=⟨_,func216,by kernel_rfl,by kernel_rfl,by kernel_rfl,by kernel_rfl⟩
theorem Dx:Entry prog 207 (Extern.Atomic.update (Op.intArith .add) .u64 true):=⟨_,func207,by kernel_rfl,by kernel_rfl,by kernel_rfl,by kernel_rfl⟩
theorem Dw:Entry prog 208 (Extern.Atomic.loadT (.int .u64)):=⟨_,func208,by kernel_rfl,by kernel_rfl,by kernel_rfl,by kernel_rfl⟩
theorem wD:Entry prog 209 Extern.Atomic.storeT:=⟨_,func209,by kernel_rfl,by kernel_rfl,by kernel_rfl,by kernel_rfl⟩
theorem wC:Entry prog 242 Extern.Sync.canSpin:=⟨_,func242,by kernel_rfl,by kernel_rfl,by kernel_rfl,by kernel_rfl⟩
theorem wB:Entry prog 243 (λ_=>pure (.tuple #[])):=⟨_,func243,by kernel_rfl,by kernel_rfl,by kernel_rfl,by kernel_rfl⟩
theorem Dv:Entry prog 245 Extern.OsHooks.nano:=⟨_,func245,by kernel_rfl,by kernel_rfl,by kernel_rfl,by kernel_rfl⟩
theorem wA:Entry prog 246 Extern.Sync.semacquire:=⟨_,func246,by kernel_rfl,by kernel_rfl,by kernel_rfl,by kernel_rfl⟩
theorem wz:Entry prog 181 Extern.Sync.semacquire:=⟨_,func181,by kernel_rfl,by kernel_rfl,by kernel_rfl,by kernel_rfl⟩
theorem Du:Entry prog 248 Extern.Sync.semrelease:=⟨_,func248,by kernel_rfl,by kernel_rfl,by kernel_rfl,by kernel_rfl⟩
theorem wy:Entry prog 171 Extern.Sync.semrelease:=⟨_,func171,by kernel_rfl,by kernel_rfl,by kernel_rfl,by kernel_rfl⟩
theorem O3:prog.underlying 195=some .unsafePointer:=by kernel_rfl
theorem G8:prog.underlying 237=some (.pointer 171):=by kernel_rfl
theorem G7:(prog.info? 171).map (λi=>decide (i.size=0))=some false:=by kernel_rfl
theorem G6:prog.underlying 193=some (.pointer 179):=by kernel_rfl
theorem G5:(prog.info? 179).map (λi=>decide (i.size=0))=some false:=by kernel_rfl
theorem Dt:prog.underlying 200=some (.pointer 169):=by kernel_rfl
theorem Ds:(prog.info? 169).map (λi=>decide (i.size=0))=some false:=by kernel_rfl
theorem M4:prog.underlying 21=some (.int .i32):=by kernel_rfl
theorem ν.leave0 [ZN] {P:Program} {d:Value->Prop} {mn:Bool} {z:W6} {c b:Frame} {rest:List Frame} {H:Ψ} {t:Array Value} {ops:Array Oper} {fn:Func} (a:Seq z) (e:b.mode=.run) (f:b.roundOf=none) (g:b.defers=[]) (i:b.kind=.normal) (j:P.funcs[b.fn]?=some fn) (k:fn.results=#[])
  (h:ν P d mn z (c.finish (.tuple #[])) rest H):ν P d mn z (π b t [.inRegion ops []]) (c::rest) H:=by
 refine .ZC a e (.Qm a e f (.back a rfl g (.inl i) j ?_));rw[results_none k];exact Ω.pure' h
theorem Zb.leave0 [ZN] {P:Program} {a:Value->Prop} {mn:Bool} {x:ZZ} {c b:Frame} {rest:List Frame} {H:Ψ} {t:Array Value} {ops:Array Oper} {fn:Func} (d:Seq (one x)) (e:b.mode=.run) (f:b.roundOf=none) (g:b.defers=[]) (i:b.kind=.normal) (j:P.funcs[b.fn]?=some fn) (k:fn.results=#[])
  (h:Zb P a mn x (c.finish (.tuple #[])) rest H):Zb P a mn x (π b t [.inRegion ops []]) (c::rest) H:=
 ν.leave0 (z:=one x) d e f g i j k (λy l=>by cases l;exact h) x rfl
structure Vr (x:ZZ) (s m:Nat) (sp:Spec):Prop where
 rel:x.rel=false
 Z5:x.Z5=λ_=>none
 spec:x.spec s=some sp
 ZO:sp.ZO=some m
 top:sp.top<7
 still:∀a,a≠s->Ti (x.tok a)
theorem Vr.seq {x:ZZ} {s m:Nat} {sp:Spec} (h:Vr x s m sp):∀t v d,@Seq X3 (one (ZJ x s t v d)):=λt v d=>@Seq.O6 X3 _ trivial h.rel h.Z5
theorem Zb.wx [ZN] {P:Program} {d:Value->Prop} {mn:Bool} {x:ZZ} {c b:Frame} {rest:List Frame} {H:Ψ} {t:Array Value} {ops:Array Oper} {k:List Item} {fn:Func} (a:Seq (one x)) (e:b.mode=.run) (f:b.roundOf=none) (g:b.defers=[]) (i:b.kind=.normal) (j:P.funcs[b.fn]?=some fn) (l:fn.results=#[])
  (h:Zb P d mn x (c.finish (.tuple #[])) rest H):Zb P d mn x (π b t (.inRegion ops []::.code .ret::k)) (c::rest) H:=by
 refine ν.ZC (x:=one x) a e (.ret a e f (.back a rfl g (.inl i) j ?_)) x rfl;rw[results_none l];exact Ω.pure' (λy m=>by cases m;exact h)
abbrev ptr (b o:Nat):Value:=.pointer (some ⟨b,o,none⟩)
section
variable {Q:Value->Prop} {mn:Bool} {x:ZZ} {c:Frame} {rest:List Frame} {S:ο} {B:Z8} {σ:Ρ} {H:Ψ} {s m k:Nat} {sp:Spec} {v:Option (Nat×δ)}
def PT (Q:Value->Prop) (mn:Bool) (x:ZZ) (c:Frame) (rest:List Frame) (S:ο) (H:Ψ) (s k:Nat) (sp:Spec):Prop:=
 ∀(a:ο) (H':Ψ) (L:List Nat) (E:Ψ),Ext S [] H a [] H'->Holds a [] [] H'->sp.XV L E->Apart H' E->(L.Nodup/\k∉L/\∃w,Fits H' w/\Fits E w)->Zb prog Q mn (ZJ x s (.ch k (.YI L) .work) none 0) (c.finish (.tuple #[])) rest (join H' E)
def Dr (Q:Value->Prop) (mn:Bool) (x:ZZ) (s m k:Nat) (sp:Spec):Prop:=∀(c:Frame) (rest:List Frame) (S:ο) (B:Z8) (σ:Ρ) (H:Ψ) (v:Option (Nat×δ)),Holds S B σ H->PT Q mn x c rest S H s k sp->
 Zb prog Q mn (ZJ x s (.ch k (.act false) .work) v 1) (Frame.enter prog 213 #[ptr m 0] .normal) (c::rest) H
theorem wv (b:Vr x s m sp) (u:Holds S B σ H) (A:Dr Q mn x s m k sp)
  (r:PT Q mn x c rest S H s k sp):Zb prog Q mn (ZJ x s (.ch k .idle .work) v 0) (Frame.enter prog 175 #[ptr m 0] .normal) (c::rest) H:=by
 letI:ZN:=X3;have a:=b.seq;refine V.Rt (z:=one _) (vs:=[ptr m 0]) func175 rfl u (by simp[ntmps175]) ?_ _ rfl;refine V.Zp (a _ _ _) ?_;refine Y1 ?_;refine W.Ze (.stop ?_);refine V.disable (a _ _ _).here ⟨⟨rfl,rfl,by simp[Frame.enter],rfl⟩,Ly,⟨_,rfl⟩,rfl,rfl,rfl⟩ ?_;rw[LB];refine V.Zp (a _ _ _) ?_;refine W.ZC ?_;refine Y1 ?_;refine W.Ze ?_;refine Xy [0,1,2] [3] ?_;refine W.stop ?_;refine V.Jf (a _ _ _).here (UT _) (sp:=sp) b.spec (by rw[Zo];exact id) b.ZO ⟨⟨rfl,rfl,by simp[Frame.enter],rfl⟩,I9,⟨_,rfl⟩,rfl,rfl,rfl⟩ (λφ d t hv=>?_) (λφ d t hv=>?_)
 .refine .inr ⟨.ch k (.act false) .work,by rw[Zo];exact .Bh,λC _=>?_⟩;rw[WY];refine V.Zp (a _ _ _) ?_;refine W.ZC ?_;refine Y1 ?_;refine Η rfl ?_;refine Y1 ?_;refine W.Ze ?_;refine Xy [0] [1] ?_;refine W.stop ?_;refine V.call (a _ _ _) ⟨rfl,rfl,by simp[Frame.enter],rfl⟩ rfl rfl rfl ⟨_,func213,rfl,rfl⟩ λh f i t1 N j e hv=>?_;obtain rfl:=TJ (l:=[ptr m 0]) hv;rintro y rfl;refine A _ _ h f _ i _ e.holds λD F L E I J n o p=>?_;rw[V6 rfl];refine Zb.leave0 (a _ _ _) rfl rfl rfl rfl func175 rfl ?_;obtain rfl:f=[]:=YP.1 e.holds.len;exact r D F L E (j.ext.trans I) J n o p
 .have g:d.Y7=0/\d.sv=0/\d.wk=0/\d.nw=0:=by simp only[mwd] at hv;omega
  refine⟨{d with Y7:=1},.ch k .own .work,by simp[mwd];omega,rfl,⟨rfl,rfl,rfl⟩,by rw[Zo];exact .Bi g.1 g.2.1 g.2.2.1 g.2.2.2,λC _=>?_⟩;rw[WY];refine V.Zp (a _ _ _) ?_;refine W.ZC ?_;refine Y1 ?_;refine Γ rfl ?_;refine Y1 ?_;refine Γ rfl ?_;refine Y1 ?_;refine W.Ze (.stop ?_);refine V.enable (a _ _ _).here (UT _) ⟨⟨rfl,rfl,by simp[Frame.enter],rfl⟩,O4,⟨_,rfl⟩,rfl,rfl,rfl⟩ ?_;rw[LA];refine V.Zp (a _ _ _) ?_;refine W.ZC ?_;refine Y1 ?_;refine W.Ze ?_;refine Xy [0] [1,2] ?_;refine W.stop ?_;refine V.conv (a _ _ _).here (sp:=sp) b.spec (by rw[Zo];exact id) ⟨rfl,rfl,by simp[Frame.enter],rfl⟩ rfl rfl rfl G8 O3 G7 rfl (λd w K M=>⟨_,M.Rv (by rw[K];exact b.ZO)⟩) (λφ d t=>?_);unfold We;rw[UY];refine V.Kw b.rel rfl (sp:=sp) b.spec b.ZO Zo ⟨⟨rfl,rfl,by simp[Frame.enter],rfl⟩,I',⟨_,rfl⟩,rfl,rfl,rfl⟩ λh f i t1 L E j e n o p=>?_;rw[WY];obtain rfl:f=[]:=YP.1 e.holds.len;refine Zb.wx (a _ _ _) rfl rfl rfl rfl func175 rfl ?_;exact r h i L E j.ext e.holds n o p
end
def Yr:List Nat->Code->Code
 | [],c=>c
 | 0::l,.seq a _=>Yr l a
 | _::l,.seq _ b=>Yr l b
 | 0::l,.cond _ a _=>Yr l a
 | _::l,.cond _ _ b=>Yr l b
 | _::l,.block _ c=>Yr l c
 | _::l,.loop c=>Yr l c
 | _,c=>c
noncomputable def Rp:Code:=f213.body.getD .skip
noncomputable def TG:Code:=Yr [1,1,1,1,1,0,0,0] Rp
noncomputable def Ro:Code:=Yr [0,1] TG
noncomputable def QJ:Code:=Yr [1,1,1,1,1] Ro
noncomputable def TF:Code:=Yr [1,0] QJ
noncomputable def Lx:Code:=Yr [1,1,1,1,1,1] Rp
noncomputable def UA:List Item:=[.inLoop TG,.inBlock 0,.code Lx]
abbrev Va (a:Value->Prop) (mn:Bool) (x:ZZ) (c:Frame) (rest:List Frame) (S:ο) (H:Ψ) (s m:Nat) (t:Tok) (v:Option (Nat×δ)) (d:Nat) (K:List Item) (env:Δ):Prop:=
 V prog a mn (one (ZJ x s t v d)) (Frame.enter prog 213 #[ptr m 0] .normal) (c::rest) 139 ⟨S,[],H,[],0⟩ K env []
def YV (m:Nat) (w:Int) (a st:Bool) (b τ:Int):Δ:=[(0,.z (ptr m 0)),(2,.z (.int .i64 τ)),(3,.z (.bool st)),(4,.z (.bool a)),(5,.z (.int .i64 b)),(6,.z (.int .i32 w))]
def R2 (a b c n:Nat) (d st:Bool):Int:=
 if a=0/\c=0 then WX 1 (if d then 0 else b) 0 n else WX a (if d then 0 else b) (if st=true/\a=1 then 1 else c) (n+1)
section
variable {Q:Value->Prop} {mn:Bool} {x:ZZ} {c:Frame} {rest:List Frame} {S:ο} {B:Z8} {σ:Ρ} {H:Ψ} {s m k:Nat} {sp:Spec} {v:Option (Nat×δ)} {t:Tok}
theorem wu (C:Vr x s m sp) {a b e n:Nat} {j st:Bool} {y τ:Int} (p:a<2) (r:b<2) (u:e<2) (D:n<7) (E:j=true->e=0/\b=1) (K:st=true->j=true)
  (f:Va Q mn x c rest S H s m t v 1 (.code (Yr [0] QJ)::.code (Yr [1] QJ)::.inBlock 1::UA) (YV m (WX a b e n) j st y τ++[(7,.z (.int .i32 (R2 a b e n j st)))])) :
  Va Q mn x c rest S H s m t v 1 (.code Ro::.inBlock 1::UA) (YV m (WX a b e n) j st y τ):=by
 letI:ZN:=X3;have F:=C.seq;have A:(a=0\/a=1)/\(e=0\/e=1):=U;have g:=Hb a p b r e u n U;have h:=Hc a p b r e u n U;have B:=wL a p b r e u n U;have k:=wK a p b r e u n U;have w:=wH a p b r e u n D;refine V.Zp (F _ _ _) ?_;unfold Ro TG Rp;cases j with
 | false=>
  have I:st=false:=by cases st<;>simp_all
  subst I;rcases A with⟨rfl|rfl,rfl|rfl⟩
  ·(repeat (first|apply W4|apply wb|apply WN|apply wd|refine Γ rfl ?_|refine Η rfl ?_|(refine Y8 λi d=>?_;simp;(repeat (rw[Ν];simp[YV,g,h,k]));apply d)));exact W.forget _ (by simp[YV,R2]) (.stop f)
  ·(repeat (first|apply W4|apply wb|apply WN|apply wd|refine Γ rfl ?_|refine Η rfl ?_|(refine Y8 λi d=>?_;simp;(repeat (rw[Ν];simp[YV,g,h,w]));apply d)));exact W.forget _ (by simp[YV,R2]) (.stop f)
  ·(repeat (first|apply W4|apply wb|apply WN|apply wd|refine Γ rfl ?_|refine Η rfl ?_|(refine Y8 λi d=>?_;simp;(repeat (rw[Ν];simp[YV,g,h,k,w]));apply d)));exact W.forget _ (by simp[YV,R2]) (.stop f)
  ·(repeat (first|apply W4|apply wb|apply WN|apply wd|refine Γ rfl ?_|refine Η rfl ?_|(refine Y8 λi d=>?_;simp;(repeat (rw[Ν];simp[YV,g,h,w]));apply d)));exact W.forget _ (by simp[YV,R2]) (.stop f)
 | true=>
  obtain⟨rfl,rfl⟩:=E rfl;rcases A with⟨rfl|rfl,-⟩
  .have l:=Ja 1 U 1 U 0 U n U
   have o:=Ha 1 U 1 U 0 U n U;cases st
   ·(repeat (first|apply W4|apply wb|apply WN|apply wd|refine Γ rfl ?_|refine Η rfl ?_|(refine Y8 λi d=>?_;simp;(repeat (rw[Ν];simp[YV,g,h,k,l,o]));apply d)));exact W.forget _ (by simp[YV,R2]) (.stop f)
   ·(repeat (first|apply W4|apply wb|apply WN|apply wd|refine Γ rfl ?_|refine Η rfl ?_|(refine Y8 λi d=>?_;simp;(repeat (rw[Ν];simp[YV,g,h,B,k,l,o]));apply d)));exact W.forget _ (by simp[YV,R2]) (.stop f)
  .cases st
   .have l:=Ja 1 U 1 U 0 U (n+1) U
    have o:=Ha 1 U 1 U 0 U (n+1) U;(repeat (first|apply W4|apply wb|apply WN|apply wd|refine Γ rfl ?_|refine Η rfl ?_|(refine Y8 λi d=>?_;simp;(repeat (rw[Ν];simp[YV,g,h,k,w,l,o]));apply d)));exact W.forget _ (by simp[YV,R2]) (.stop f)
   .have J:=wI 1 U 1 U 0 U (n+1) U
    have l:=Ja 1 U 1 U 1 U (n+1) U
    have o:=Ha 1 U 1 U 1 U (n+1) U;(repeat (first|apply W4|apply wb|apply WN|apply wd|refine Γ rfl ?_|refine Η rfl ?_|(refine Y8 λi d=>?_;simp;(repeat (rw[Ν];simp[YV,g,h,B,k,w,J,l,o]));apply d)));exact W.forget _ (by simp[YV,R2]) (.stop f)
theorem Dq (a:Vr x s m sp) (e:PT Q mn x c rest S H s k sp) {env:Δ} (f:Z7 env 0=.z (ptr m 0)):Va Q mn x c rest S H s m (.ch k .own .work) v 1 [.code Lx] env:=by
 letI:ZN:=X3;have b:=a.seq;refine V.Zp (b _ _ _) ?_;unfold Lx Rp;refine Γ rfl ?_;refine Y1 ?_;refine W.Ze (.stop ?_);refine V.enable (b _ _ _).here (UT _) ⟨⟨rfl,rfl,by simp[Frame.enter],rfl⟩,O4,⟨_,rfl⟩,rfl,rfl,rfl⟩ ?_;rw[LA];refine V.Zp (b _ _ _) ?_;refine W.ZC ?_;refine Y1 ?_;refine W.Ze ?_;refine W.part (A:=[]) Υ [0] [1,2] rfl λy g=>?_;simp;(repeat (rw[Ν];simp[f]));apply g;refine W.stop ?_;refine V.conv (b _ _ _).here (sp:=sp) a.spec (by rw[Zo];exact id) ⟨rfl,rfl,by simp[Frame.enter],rfl⟩ rfl rfl rfl G8 O3 G7 rfl (λh w i j=>⟨_,j.Rv (by rw[i];exact a.ZO)⟩) (λφ h B=>?_);unfold We;rw[UY];refine V.Kw a.rel rfl (sp:=sp) a.spec a.ZO Zo ⟨⟨rfl,rfl,by simp[Frame.enter],rfl⟩,I',⟨_,rfl⟩,rfl,rfl,rfl⟩ λl n o t1 L E p d r t u=>?_;rw[WY];obtain rfl:n=[]:=YP.1 d.holds.len;refine Zb.leave0 (b _ _ _) rfl rfl rfl rfl func213 rfl ?_;exact e l o L E p.ext d.holds r t u
end
section
variable {Q:Value->Prop} {mn:Bool} {x:ZZ} {c:Frame} {rest:List Frame} {S:ο} {B:Z8} {σ:Ρ} {H:Ψ} {s m k:Nat} {sp:Spec} {v:Option (Nat×δ)} {t:Tok}
theorem I8:(prog.funcs[213]?).any (·.norace)=true:=by kernel_rfl
theorem Dp:(prog.funcs[245]?).any (·.norace)=true:=by kernel_rfl
def Lw (Q:Value->Prop) (mn:Bool) (x:ZZ) (c:Frame) (rest:List Frame) (S:ο) (H:Ψ) (s m k:Nat) (sp:Spec) (φ:Nat):Prop:=
 ∀(e:Nat) (a:δ) (b st:Bool) (d τ:Int),e<φ->a.toSpec=sp->PV a (.ch k (.act b) .work)->(st=true->b=true)->0<=d->d<=4->Va Q mn x c rest S H s m (.ch k (.act b) .work) (some (e,a)) 1 UA (YV m (mwd a) b st d τ)
theorem Dn {a:δ} {b:Bool} (h:PV a (.ch k (.act b) .work)):b=true->a.sv=0/\a.wk=1:=λe=>h.wQ (by rw[e];rfl)
theorem wq (e:Vr x s m sp) (L:PT Q mn x c rest S H s k sp) {φ:Nat} (M:Lw Q mn x c rest S H s m k sp φ) {u:Nat} {C:δ} (o:u<φ) {st:Bool} {τ:Int} :
  Va Q mn x c rest S H s m (.ch k .wk .work) (some (u,C)) 1 (.code (Yr [1,1,1,1,1] TF)::.inBlock 1::UA) [(0,.z (ptr m 0)),(2,.z (.int .i64 τ)),(3,.z (.bool st))]:=by
 letI:ZN:=X3;have g:=e.seq;refine V.Zp (g _ _ _) ?_;unfold TF QJ Ro TG Rp;refine Y1 ?_;refine W.Ze ?_;refine Xy [0,1,2] [3,4] ?_;refine W.stop ?_;refine V.M5 (g _ _ _).here (sp:=sp) e.spec (by rw[Zo];exact id) ⟨rfl,rfl,by simp[Frame.enter],rfl⟩ rfl rfl rfl M4 rfl I8 mwd (λa w N O=>O.Rv (by rw[N];exact e.ZO)) (λZ a p=>.inr ?_);have b:=p.Vs.Tf;rw[Zo] at b;have hv:=p.view u C R4;have D:=b.wP rfl;have aa:a.top<7:=by have:=e.top;rw[show a.top=sp.top by rw[<-p.spec]];exact this
 have ab:=b.nw
 have ad:=b.Y7;have ae:=b.wk;have af:=b.sv
 have i:=Hb a.Y7 U a.wk U a.sv U a.nw U
 have l:=wN a.Y7 U a.wk U a.sv U a.nw U
 have r:=G9 a.Y7 U a.wk U a.sv U a.nw U;rw[<-R3] at i l r;rcases(show a.sv=0\/a.sv=1 by omega) with f|f
 .refine⟨.ch k (.act true) .work,by rw[Zo];exact .norm f,λv P=>?_⟩;rw[WY];rw[f] at i;refine V.Zp (g _ _ _) ?_;refine W.part (A:=[]) Υ [4] [] rfl λE n=>?_;(try simp);(repeat (rw[Ν];simp));(try simp);apply n;refine W.ZC ?_;refine WC i ?_;refine W.forget (YV m (mwd a) true st 0 τ) (by simp[YV]) (.stop ?_);exact M v a true st 0 τ U p.spec ⟨b.Y7,b.wk,b.sv,b.YD,b.nw,λ_=>⟨f,D.1 f⟩,λh=>(by cases h),λh=>(by cases h),λh=>(by cases h)⟩ (λ_=>rfl) U U
 .obtain⟨R,T,ag⟩:=D.2 f;refine⟨.ch k .hw .work,by rw[Zo];exact .hand f,λv P=>?_⟩;rw[WY];rw[f] at i;rw[R,T] at l;have y:¬a.nw=0:=U;have F:IntKind.i32.wrap (-11)=-11:=Z0;have X:∀(w:Option (Nat×δ)) (env:Δ),Z7 env 0=.z (ptr m 0)->Va Q mn x c rest S H s m (.ch k .own .work) w 1 [.code Lx] env:=λw env h=>Dq e L h;have add:∀(j:Bool) (env:Δ),Z7 env 0=.z (ptr m 0)->Z7 env 9=.z (.int .i32 (if j then -11 else -7))->Va Q mn x c rest S H s m (.ch k .hw .work) (some (v,a)) 1 (.code (Yr [1,1,1,1,1,1,0,1,0,1,1,1,0] TF)::.code (Yr [1,1,1,1,1,1,0,1,0,1,1,1,1] TF)::.code (Yr [1,1,1,1,1,1,1] TF)::.inBlock 1::UA) env:=λj env o I=>by
   refine V.Zp (g _ _ _) ?_;unfold TF QJ Ro TG Rp;refine Y1 ?_;refine W.Ze ?_;refine W.part (A:=[]) Υ [0,1,2,3] [4] rfl λE n=>?_;(try simp);(repeat (rw[Ν];simp[o,I]));(try simp[o,I]);apply n;refine W.stop ?_;refine V.DL (g _ _ _).here (UT _) (sp:=sp) e.spec (by rw[Zo];exact id) e.ZO (d:=if j then -11 else -7) ⟨⟨rfl,rfl,by simp[Frame.enter],rfl⟩,Dy,⟨_,rfl⟩,rfl,rfl,rfl⟩ (λah t J=>?_);have B:=J.Vs.Tf;rw[Zo] at B;obtain⟨f1,f2,f3,f4⟩:=B.hw rfl;have ai:t.top<7:=by have:=e.top;rw[show t.top=sp.top by rw[<-J.spec]];exact this
   have aj:=B.nw;refine⟨{t with Y7:=1,nw:=t.nw-1,sv:=if j then 0 else 1},.ch k .own .work,?_,rfl,⟨rfl,rfl,rfl⟩,by rw[Zo];exact .hacq j,λak _=>?_⟩
   .cases j<;>simp[mwd,IntKind.wrap_i32,f1,f2,f3]<;>omega
   .rw[WY];refine V.Zp (g _ _ _) ?_;refine W.ZC ?_;refine Y1 ?_;refine W.exit rfl (.stop ?_);refine X _ _ ?_;simp[o]
  refine V.Zp (g _ _ _) ?_;refine W.part (A:=[]) Υ [4] [] rfl λE n=>?_;(try simp);(repeat (rw[Ν];simp));(try simp);apply n;refine W.ZC ?_;cases st with
  | false=>
   refine WC (Τ i (Τ l (Τ r (Τ y F)))) ?_;exact .stop (add true _ rfl rfl)
  | true=>
   by_cases K:a.nw=1
   .refine WC (Τ i (Τ l (Τ r (Τ y (Τ K F))))) ?_;exact .stop (add true _ rfl rfl)
   .have Y:¬(a.nw:Int)=1:=U
    refine WC (Τ i (Τ l (Τ r (Τ y (Τ K Y))))) ?_;exact .stop (add false _ rfl rfl)
theorem wm (a:Vr x s m sp) (p:PT Q mn x c rest S H s k sp) {φ:Nat} (r:Lw Q mn x c rest S H s m k sp φ) {e:Nat} {i:δ} (B:e<φ) {st y:Bool} {τ:Int} :
  Va Q mn x c rest S H s m (.ch k .q .work) (some (e,i)) 1 (.code (Yr [1,1,1,0] TF)::.code (Yr [1,1,1,1] TF)::.inBlock 1::UA) [(0,.z (ptr m 0)),(2,.z (.int .i64 τ)),(3,.z (.bool st)),(8,.z (.bool y))]:=by
 letI:ZN:=X3;have b:=a.seq;have next:∀(d:Nat) (j:δ) (st:Bool),d<φ->Va Q mn x c rest S H s m (.ch k .wk .work) (some (d,j)) 1 (.code (Yr [1,1,1,1,1] TF)::.inBlock 1::UA) [(0,.z (ptr m 0)),(2,.z (.int .i64 τ)),(3,.z (.bool st))]:=λd j st t=>wq a p r t
 refine V.Zp (b _ _ _) ?_;unfold TF QJ Ro TG Rp;refine Y1 ?_;refine W.Ze ?_;refine Xy [0,1,2,3] [4] ?_;refine W.stop ?_;refine V.xd (b _ _ _).here (sp:=sp) a.spec (by rw[Zo];exact id) a.ZO (vs:=[ptr m 1,.bool y,.int .i64 2]) rfl (λu l=>by rw[Lz l];exact a.still u l) ⟨⟨rfl,rfl,by simp[Frame.enter],rfl⟩,wA,⟨_,rfl⟩,rfl,rfl,rfl⟩ (λd f n h=>by rw[Zo];exact h) (λd f n h=>?_);have hv:=n.view e i R4;refine⟨{f with YD:=f.YD-1},.ch k .wk .work,rfl,rfl,⟨rfl,rfl,rfl⟩,by rw[Zo];exact .take h,λo C=>?_⟩;rw[WY];refine V.Zp (b _ _ _) ?_;refine W.ZC ?_;cases st with
 | true=>
  first|apply W4|apply wb|apply WN|apply wd
  refine Y8 λv g=>?_;(try simp);(repeat (rw[Ν];simp));(try simp);apply g;refine W.forget [(0,.z (ptr m 0)),(2,.z (.int .i64 τ)),(3,.z (.bool true))] J (.stop ?_);exact next o _ true U
 | false=>
  first|apply W4|apply wb|apply WN|apply wd
  refine W.Ze ?_;refine Xy [0,1] [2,3,4,5,6,7] ?_;refine W.stop ?_;refine V.nano (b _ _ _) (vs:=[]) ⟨⟨rfl,rfl,by simp[Frame.enter],rfl⟩,Dv,⟨_,rfl⟩,rfl,rfl,rfl⟩ Dp λw=>?_;refine V.Zp (b _ _ _) ?_;refine W.part (A:=[]) Υ [3,4,5,6,7] [] rfl λv g=>?_;(try simp);(repeat (rw[Ν];simp));(try simp);apply g;refine W.ZC ?_;refine W.forget [(0,.z (ptr m 0)),(2,.z (.int .i64 τ)),(3,.z (.bool (decide (1000000<IntKind.i64.wrap (w-τ)))))] J (.stop ?_);exact next o _ _ U
theorem wj (e:Vr x s m sp) (l:PT Q mn x c rest S H s k sp) {φ:Nat} (n:Lw Q mn x c rest S H s m k sp φ) {b:Nat} {f:δ} (o:b<φ) {w:Int} {p st:Bool} {r τ:Int} (g:¬XY .i32 w 5=0) :
  Va Q mn x c rest S H s m (.ch k .q .work) (some (b,f)) 1 (.code TF::.inBlock 1::UA) (YV m w p st r τ):=by
 letI:ZN:=X3;have d:=e.seq;have next:∀(τ:Int) (y:Bool),Va Q mn x c rest S H s m (.ch k .q .work) (some (b,f)) 1 (.code (Yr [1,1,1,0] TF)::.code (Yr [1,1,1,1] TF)::.inBlock 1::UA) [(0,.z (ptr m 0)),(2,.z (.int .i64 τ)),(3,.z (.bool st)),(8,.z (.bool y))]:=λτ y=>wm e l n o
 refine V.Zp (d _ _ _) ?_;unfold TF QJ Ro TG Rp;by_cases h:τ=0
 .subst h;(repeat (first|apply W4|apply wb|apply WN|apply wd|refine Γ rfl ?_|refine Η rfl ?_|(refine Y8 λi a=>?_;simp;(repeat (rw[Ν];simp[YV,g]));apply a)));refine W.Ze (.stop ?_);refine V.nano (d _ _ _) (vs:=[]) ⟨⟨rfl,rfl,by simp[Frame.enter],rfl⟩,Dv,⟨_,rfl⟩,rfl,rfl,rfl⟩ Dp λj=>?_;refine V.Zp (d _ _ _) ?_;refine W.part (A:=[]) Υ [1] [] rfl λi a=>?_;(try simp);(repeat (rw[Ν];simp));(try simp);apply a;refine W.ZC ?_
  first|apply W4|apply wb|apply WN|apply wd
  refine W.forget [(0,.z (ptr m 0)),(2,.z (.int .i64 j)),(3,.z (.bool st)),(8,.z (.bool false))] J (.stop ?_);exact next j false
 ·(repeat (first|apply W4|apply wb|apply WN|apply wd|refine Γ rfl ?_|refine Η rfl ?_|(refine Y8 λi a=>?_;simp;(repeat (rw[Ν];simp[YV,g,h]));apply a)));refine W.forget [(0,.z (ptr m 0)),(2,.z (.int .i64 τ)),(3,.z (.bool st)),(8,.z (.bool true))] (by simp[h]) (.stop ?_);exact next τ true
end
end Go.TL
