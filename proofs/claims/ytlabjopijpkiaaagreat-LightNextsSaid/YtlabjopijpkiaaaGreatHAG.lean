import Derived.Conc.AtomicLaws2
import Derived.Conc.ClockLaws
import Derived.Conc.MarkLaws
import Derived.Conc.QuitsD
import Derived.Conc.SmallLaws
import Derived.Test.YtlabjopijpkiaaaGreatHAF
set_option maxHeartbeats 16000000
set_option maxRecDepth 20000
set_option linter.unusedSectionVars false
set_option linter.unusedSimpArgs false
set_option linter.unusedVariables false
namespace Go.TL
open Go.Proofs.Tryz
open Go.Proofs
variable [ZV]
theorem Ξ.xq {P:Program} {σ:Τ} {g:FuncId} {as0 first:ξ} {c row':Row} {r:I} {K E:I->Τ->Prop} (h:Ξ P g as0 [c] (λa s=>a=r/\s=[row']) (λ_ _=>False)) (id:Nat) (f:σ[id]?=some c) (k:VM c) (l:VM row') (m:∀a∈as0,Xm 1 a) (b:Xm 1 r)
  {args:ξ} (n:first++args=as0.map (Ym [id])) (o:K (Ym [id] r) (σ.set id row')):WO P (.fn (.func g) first []) args σ K E:=by
 have p:=Ξ.rows (σ:=σ) h [id] J rfl (λj i d=>by
  cases j with
  | zero=>simp at d;subst d;exact f
  | succ j=>simp at d) (λr b=>by simp at b;subst b;exact k) (by simpa using m) (K':=K) (E':=E) (λa s ⟨t,u⟩=>by
   subst t;subst u;refine⟨λx e=>by simp at e;subst e;exact l,b,?_⟩;simpa[names,P4,VN] using o) (λa s h=>h.elim)
 exact Ξ.call (first:=first) (captured:=[]) (by rw[Rg,n];exact p)
def Rx (s:Δ) (f:Found) (c n:Nat) (m:List (Int×Int)) (j:Nat):List (Int×Int):=(((f.cells[c]?).getD []).take j).foldl (λm r=>Wf m (s.Y1 (f.u,f.v) r n) (f.many c)) m
def R8 (s:Δ) (F:List Found) (c n i:Nat):List (Int×Int):=(F.take i).foldl (λm f=>Rx s f c n m ((f.cells[c]?).getD []).length) []
def Ua (a:Int) (l:List (Int×Int)):Int:=l.foldl (λa e=>max a e.2) a
def Ng (s:Δ) (F:List Found) (c n:Nat):Int:=Ua 0 (R8 s F c n F.length)
def Pf (s:Δ) (F:List Found) (c:Nat) (b:Vg) (n:Nat):Vg:=(List.range n).foldl (λb (n:Nat)=>b.take c n (Ng s F c n)) b
def QS (s:Δ) (F:List Found) (c:Nat):Vg:=(List.range c).foldl (λb (c:Nat)=>Pf s F c b s.Β.length) ⟨0,0,0,false⟩
theorem D3 (s:Δ) (F:List Found) (c:Nat) (b:Vg) (n:Nat):Pf s F c b (n+1)=(Pf s F c b n).take c n (Ng s F c n):=by simp[Pf,Vp,RS]
theorem D2 (s:Δ) (F:List Found) (c:Nat):QS s F (c+1)=Pf s F c (QS s F c) s.Β.length:=by simp[QS,Vp,RS]
theorem xp (s:Δ) (f:Found) (c n:Nat) (m:List (Int×Int)) (j:Nat) (h:j<((f.cells[c]?).getD []).length):Rx s f c n m (j+1)=Wf (Rx s f c n m j) (s.Y1 (f.u,f.v) ((f.cells[c]?).getD [])[j] n) (f.many c):=by
 unfold Rx;rw[Wp h,RS];rfl
theorem D1 (s:Δ) (F:List Found) (c n i:Nat) (h:i<F.length):R8 s F c n (i+1)=Rx s F[i] c n (R8 s F c n i) ((F[i].cells[c]?).getD []).length:=by
 unfold R8;rw[Wp h,RS];rfl
theorem xo {a:Int} {l m:List (Int×Int)} (h:l.Perm m):Ua a l=Ua a m:=h.foldl_eq' (λx _ y _ z=>U) a
def Vf (s:Δ) (F:List Found):Int×Int×Int×Int:=
 if(X5 s true F).2.2≠0 then(0,0,0,(X5 s true F).2.2)
 else let b:=QS s F s.cells.length;if b.some=false\/b.least=X6 F then(0,0,0,11) else(b.c,b.n,b.least,0)
structure Od (s:Δ) (F:List Found):Prop where
 PV:F.length<2 ^ 20
 cells:∀f∈F,f.cells.length=s.cells.length/\(∀c∈f.cells,c.length<2 ^ 20/\∀r∈c,r.1<s.ς.length/\r.2<s.ς.length)
 many:∀f∈F,f.cells.length<2 ^ 62/\∀(a:Int) i,i<=f.cells.length->Xb f.cells a i<2 ^ 62
 count:X6 F<2 ^ 62
theorem DZ (s:Δ) (L:s.small) (F:List Found) (aG:Rz s F) (D:Od s F) :
  Κ prog 26 [Zh s] (.ZX [R (Vf s F).1,R (Vf s F).2.1,R (Vf s F).2.2.1,R (Vf s F).2.2.2]):=by
 refine Ξ.body Ρ func26 rfl rfl ntmps26 rfl rfl J ?_;refine Χ ?_;refine Y5 ?_;refine Y4 (A:=[6]) Ρ λt a=>Z1 ?_;refine Κ.d (JA s L true F aG) (Z1 ?_);apply a;by_cases b:(X5 s true F).2.2=0
 case neg=>
  have e:Vf s F=(0,0,0,(X5 s true F).2.2):=by unfold Vf;rw[if_pos b]
  rw[e];generalize (X5 s true F).2.2=aH at b;refine Χ ?_;refine Ε (by simp[b]) ?_;refine Χ ?_;refine W.drop (h:=0) (σ':=[]) (ω _) (ω _) J rfl [(2,R 0),(3,R 0),(4,R 0),(5,R aH)] J ?_;refine W.rt ?_;exact .refl _
 have e:X5 s true F=(s,F,0):=by
  unfold X5 at b ⊢;split at b
  .rename_i h;simp at b;exact absurd b h
  .split at b
   .simp at b
   .rename_i V aI;rw[if_neg V,if_neg aI]
 have Φ:Vf s F=let b:=QS s F s.cells.length;if b.some=false\/b.least=X6 F then(0,0,0,11) else(b.c,b.n,b.least,0):=by unfold Vf;rw[if_neg (by simpa using b)]
 rw[Φ,e];clear Φ;refine W.fix (id:=0) (σ':=[]) (ω _) rfl J J rfl [(5,R 0),(6,Z6 s),(7,Y2 F)] J ?_;refine Χ ?_;refine Η rfl ?_
 repeat apply Ο
 refine Y4 (A:=[8]) Ρ λt a=>Z1 ?_;apply a;refine Χ ?_;have aX:s.cells.length<2 ^ 30:=L.2.2.1;have aY:s.Β.length<2 ^ 30:=L.2.1;have am:∀{b:Vg} (g:List (Int×Int)),∀r∈[Row.cells 104 4 [Ub b],.map (g.map VZ)],XZ [Row.cells 104 4 [Ub b],.map (g.map VZ)].length r:=λ{b} g r E=>by
  simp only[Zf,Yk,or_false] at E;rcases E with rfl|rfl
  .simp[XZ,I.cells]
  .intro e aJ;obtain⟨x,_,rfl⟩:=Zc.1 aJ;simp
 refine W.iter (λc:Nat=>c<=s.cells.length) (λc=>[(6,Z6 s),(7,Y2 F),(8,.Ν 0 1 0 0),(9,.fn (.func 76) [.Ν 0 1 0 0] []),(33,R s.cells.length),(34,R c)])
  (λc=>[.cells 104 4 [Ub (QS s F c)]]) (λc=>s.cells.length-c) 0 (ω _) rfl J (λc aZ aK=>?_)
 refine Χ ?_;refine W.YM rfl (λM=>?_) (λM=>?_)
 .have X:c<s.cells.length:=by simpa using M
  refine Χ ?_;obtain⟨an,ao⟩:=ψ (QS s F c);refine W.iter (λn:Nat=>n<=s.Β.length) (λn=>[(6,Z6 s),(7,Y2 F),(8,.Ν 0 1 0 0),(9,.fn (.func 76) [.Ν 0 1 0 0] []),(10,R c),(33,R s.cells.length),(34,R c),(40,R s.Β.length),(41,R n)])
   (λn=>[.cells 104 4 [Ub (Pf s F c an n)]]) (λn=>s.Β.length-n) 0 (ω _) (by rw[ao];rfl) J (λn a0 aL=>?_)
  refine Χ ?_;refine W.YM rfl (λY=>?_) (λY=>?_)
  .have P:n<s.Β.length:=by simpa using Y
   obtain⟨l,ap⟩:=ψ (Pf s F c an n);refine W.to (σ':=[.cells 104 4 [Ub l]]) (env':=[(6,Z6 s),(7,Y2 F),(8,.Ν 0 1 0 0),(9,.fn (.func 76) [.Ν 0 1 0 0] []),(10,R c),(33,R s.cells.length),(34,R c),(40,R s.Β.length),(41,R n)]) ?_ (by rw[ap]) J;refine Χ ?_;refine W.iter (λi:Nat=>i<=F.length) (λi=>[(6,Z6 s),(7,Y2 F),(8,.Ν 0 1 0 0),(9,.fn (.func 76) [.Ν 0 1 0 0] []),(10,R c),(33,R s.cells.length),(34,R c),(40,R s.Β.length),(41,R n),(11,R n),(12,.mp 1),(45,Y2 F),(46,R F.length),(47,R i)])
    (λi=>[.cells 104 4 [Ub l],.map ((R8 s F c n i).map VZ)]) (λi=>F.length-i) 0 (ω _) rfl J (λi hi aM=>?_)
   refine Χ ?_;by_cases H:i<F.length
   .refine Ε (by simp[H]) ?_;obtain⟨g,N⟩:=ψ (R8 s F c n i);have O:=D1 s F c n i H;rw[<-N] at O;obtain⟨aq,ar⟩:=D.cells _ (Y7 H);obtain⟨Z,aa⟩:=D.many _ (Y7 H);generalize Q:F[i]=f at O aq ar Z aa;have ab:c<f.cells.length:=by rw[aq];exact X
    refine W.to (σ':=[.cells 104 4 [Ub l],.map (g.map VZ)]) (env':=[(6,Z6 s),(7,Y2 F),(8,.Ν 0 1 0 0),(9,.fn (.func 76) [.Ν 0 1 0 0] []),(10,R c),(33,R s.cells.length),(34,R c),(40,R s.Β.length),(41,R n),(11,R n),(12,.mp 1),(45,Y2 F),(46,R F.length),(47,R i)]) ?_ (by rw[N]) J
    repeat apply Ο
    refine Y4 (A:=[14]) Ρ λt a=>XC (Υ H Q) ?_;apply a;refine W.UC (σ0:=[.cells 104 4 [Ub l],.map (g.map VZ)]) (ω _) (am _) J [(14,.π [R f.u,R f.v,TM f.cells]),(6,Z6 s),(7,Y2 F),(8,.Ν 0 1 0 0),(9,.fn (.func 76) [.Ν 0 1 0 0] []),(10,R c),(33,R s.cells.length),(34,R c),(40,R s.Β.length),(41,R n),(11,R n),(12,.mp 1),(45,Y2 F),(46,R F.length),(47,R i)] (by simp[Ww,P']) ?_;refine Ι ab ?_;have au:(f.cells[c]?).getD []=f.cells[c]:=by simp[ab]
    rw[au] at O;have av:=ar _ (Y7 ab);have ad:=xp s f c n g;rw[au] at ad;generalize f.cells[c]=C at O av ad;obtain⟨a1,aN⟩:=av;refine W.iter (λj:Nat=>j<=C.length) (λj=>[(14,.π [R f.u,R f.v,TM f.cells]),(6,Z6 s),(7,Y2 F),(8,.Ν 0 1 0 0),(9,.fn (.func 76) [.Ν 0 1 0 0] []),(10,R c),(33,R s.cells.length),(34,R c),(40,R s.Β.length),(41,R n),(11,R n),(12,.mp 1),(45,Y2 F),(46,R F.length),(47,R i),(55,TN C),(56,R C.length),(57,R j)])
     (λj=>[.cells 104 4 [Ub l],.map ((Rx s f c n g j).map VZ)]) (λj=>C.length-j) 0 (ω _) (by simp[Rx]) J (λj a2 aw=>?_)
    refine Χ ?_;by_cases K:j<C.length
    .refine Ε (by simp[K]) ?_;obtain⟨ae,ax⟩:=ψ (Rx s f c n g j);have S:=ad j K;rw[<-ax] at S;refine W.to (σ':=[.cells 104 4 [Ub l],.map (ae.map VZ)]) (env':=[(14,.π [R f.u,R f.v,TM f.cells]),(6,Z6 s),(7,Y2 F),(8,.Ν 0 1 0 0),(9,.fn (.func 76) [.Ν 0 1 0 0] []),(10,R c),(33,R s.cells.length),(34,R c),(40,R s.Β.length),(41,R n),(11,R n),(12,.mp 1),(45,Y2 F),(46,R F.length),(47,R i),(55,TN C),(56,R C.length),(57,R j)]) ?_ (by rw[ax]) J;obtain⟨af,ag⟩:=aN _ (Y7 K);generalize E:C[j]=r at S af ag
     repeat apply Ο
     refine Y4 (A:=[16]) Ρ λt a=>XC (Υ K E) ?_;apply a;refine W.UC (σ0:=[.cells 104 4 [Ub l],.map (ae.map VZ)]) (ω _) (am _) J [(16,.π [R r.1,R r.2]),(14,.π [R f.u,R f.v,TM f.cells]),(6,Z6 s),(7,Y2 F),(8,.Ν 0 1 0 0),(9,.fn (.func 76) [.Ν 0 1 0 0] []),(10,R c),(33,R s.cells.length),(34,R c),(40,R s.Β.length),(41,R n),(11,R n),(12,.mp 1),(45,Y2 F),(46,R F.length),(47,R i),(55,TN C),(56,R C.length),(57,R j)] (by simp[Ww,P']) ?_
     repeat apply Ο
     have T:=Yx K (show C.length<2 ^ 62 by omega);rcases xr (s.Y1 (f.u,f.v) r n) (f.many c) ae 0 with⟨m,ah⟩|⟨o,v,a3,m,ah⟩
     .refine W.draw (A:=[]) Ρ mixed λt a=>?_;simp;(repeat (rw[ZL];simp[m,VQ]));try rw[ZM]
      refine YD (Κ.p (LU s L (f.u,f.v) r n P af ag) (ZO.refl _) J J) ?_;simp[m,VQ];(repeat (rw[ZL];simp[m,VQ]));try rw[ZM]
      refine YD (Κ.p (JD f c Z (aa c)) (ZO.refl _) J J) ?_;simp[m,VQ];(repeat (rw[ZL];simp[m,VQ]));try rw[ZM]
      refine YG (a _ _ ?_);refine Ι T ?_;refine W.to (aw (j+1) K U) ?_ ?_
      .rw[S,ah];simp
      .simp[T]
     .refine W.draw (A:=[]) Ρ mixed λt a=>?_;simp;(repeat (rw[ZL];simp[m,VQ]));try rw[ZM]
      refine YD (Κ.p (LU s L (f.u,f.v) r n P af ag) (ZO.refl _) J J) ?_;simp[m,VQ];(repeat (rw[ZL];simp[m,VQ]));try rw[ZM]
      refine YD (Κ.p (JD f c Z (aa c)) (ZO.refl _) J J) ?_;simp[m,VQ];(repeat (rw[ZL];simp[m,VQ]));try rw[ZM]
      refine YG (a _ _ ?_);refine Ι T ?_;refine W.to (aw (j+1) K U) ?_ ?_
      .rw[S,ah];simp
      .simp[T]
    .have aO:j=C.length:=U
     subst aO;have ay:=Yx H (show F.length<2 ^ 62 by have:=D.PV;omega);refine Η J ?_;refine W.exit rfl ?_;refine Ι ay ?_;refine W.to (aM (i+1) H U) ?_ ?_
     .rw[O]
     .simp[ay]
   .have aP:i=F.length:=U
    subst aP;refine Η J ?_;refine W.exit rfl ?_;obtain⟨g,N⟩:=ψ (R8 s F c n F.length);have aQ:Ng s F c n=Ua 0 g:=by rw[N];rfl
    refine W.to (σ':=[.cells 104 4 [Ub l],.map (g.map VZ)]) (env':=[(6,Z6 s),(7,Y2 F),(8,.Ν 0 1 0 0),(9,.fn (.func 76) [.Ν 0 1 0 0] []),(10,R c),(33,R s.cells.length),(34,R c),(40,R s.Β.length),(41,R n),(11,R n),(12,.mp 1)]) ?_ (by rw[N]) J;refine Χ ?_;refine W.iter (λx:Int×List (Int×Int)×Option (I×I)=>Ua x.1 x.2.1=Ua 0 g) (λx=>[(6,Z6 s),(7,Y2 F),(8,.Ν 0 1 0 0),(9,.fn (.func 76) [.Ν 0 1 0 0] []),(10,R c),(33,R s.cells.length),(34,R c),(40,R s.Β.length),(41,R n),(11,R n),(12,.mp 1),(17,R x.1),(76,.it 2)])
     (λx=>[.cells 104 4 [Ub l],.map (g.map VZ),.iter 1 (x.2.1.map VZ) x.2.2]) (λx=>x.2.1.length) (0,g,none) rfl rfl J (λx ai aR=>?_)
    obtain⟨w,k,a4⟩:=x;simp only at ai
    repeat apply Ο
    cases k with
    | nil=>
     refine ZU λt a=>?_;apply a
     repeat apply Ο
     refine Η rfl ?_;refine W.exit rfl ?_;have aj:w=Ng s F c n:=by rw[aQ,<-ai];rfl
     have az:=Yx P (show s.Β.length<2 ^ 62 by omega);refine ZU λt a=>?_;refine Ξ.xq (as0:=[.Ν 0 1 0 0,.Z7 [R c,R n],R w]) (xu l c n w) 0 rfl (by simp[VM,I.cells]) (by simp[VM,I.cells]) (by simp[Xm,Sg]) (by simp[Xm]) rfl ?_;simp[Ym,Wg];(repeat (rw[Μ];simp));apply a;refine W.drop (h:=1) (σ':=[.cells 104 4 [Ub (l.take c n w)]]) (ω _) J (λid r a5 E=>?_) rfl [(6,Z6 s),(7,Y2 F),(8,.Ν 0 1 0 0),(9,.fn (.func 76) [.Ν 0 1 0 0] []),(10,R c),(33,R s.cells.length),(34,R c),(40,R s.Β.length),(41,R n)] (by simp[Ww]) ?_
     .obtain rfl:id=0:=U
      simp at E;subst E;simp[XZ,I.cells]
     refine Ι az ?_;refine W.to (aL (n+1) P U) ?_ ?_
     .rw[D3,<-ap,aj]
     .simp[az]
    | cons y k=>
     refine ZU λt a=>?_;intro o ak;obtain⟨x,aA⟩:=ψ ((y::k)[o]'(by simpa using ak));have aS:(VZ y::List.map VZ k)[o]?=some (VZ x):=by
      have:(List.map VZ (y::k))[o]?=some (VZ x):=by
       rw[Yl,ζ (by simpa using ak),aA];rfl
      simpa using this
     have aT:(VZ y::List.map VZ k).eraseIdx o=((y::k).eraseIdx o).map VZ:=D4 VZ (y::k) o;rw[aS,aT];simp;(repeat (rw[Μ];simp));apply a
     repeat apply Ο
     refine Ε rfl ?_;refine Χ ?_;have aB:o<(y::k).length:=by simpa using ak
     have aU:Ua (max w x.2) ((y::k).eraseIdx o)=Ua 0 g:=by
      rw[<-ai,<-xo (D6 (y::k) o aB),<-aA];rfl
     have aj:max w x.2=if w<x.2 then x.2 else w:=by split<;>omega
     refine W.to (aR (max w x.2,(y::k).eraseIdx o,some (VZ x)) aU (by simp only[List.length_eraseIdx,aB,if_true];omega)) ?_ ?_
     .simp
     .simp[aj]
  .have aV:n=s.Β.length:=by simp at Y;omega
   subst aV;have aC:=Yx X (show s.cells.length<2 ^ 62 by omega);refine W.exit rfl ?_;refine Ι aC ?_;refine W.to (aK (c+1) X U) ?_ ?_
   .rw[D2,<-ao]
   .simp[aC]
 .have M:c=s.cells.length:=by simp at M;omega
  subst M;refine W.exit rfl ?_;refine Χ ?_;obtain⟨⟨aD,aE,al,aF⟩,aW⟩:∃B,B=QS s F s.cells.length:=⟨_,rfl⟩;rw[<-aW];refine W.fix (id:=0) (σ':=[]) (ω _) rfl J J rfl [(7,Y2 F),(8,.π [R aD,R aE,R al,ε aF])] J ?_;have V:∀f∈F,f.cells.length<2 ^ 62/\∀i,i<=f.cells.length->Xb f.cells (-1) i<2 ^ 62:=λf Q=>⟨(D.many f Q).1,(D.many f Q).2 (-1)⟩;cases aF
  .refine Pn ?_;refine Ε rfl ?_;refine Χ ?_;refine W.drop (h:=0) (σ':=[]) (ω _) (ω _) J rfl [(2,R 0),(3,R 0),(4,R 0),(5,R 11)] J ?_;refine W.rt ?_;exact .of J
  .refine W.draw (A:=[]) Ρ mixed λt a=>U5 ?_;refine YD (Κ.p (yo F (by have:=D.PV;omega) V D.count) (ZO.refl _) J J) ?_;simp;(repeat (rw[ZL];simp));try rw[ZM]
   refine YG (a _ _ ?_);by_cases q:al=X6 F
   .refine Ε (by simp[q]) ?_;refine Χ ?_;refine W.drop (h:=0) (σ':=[]) (ω _) (ω _) J rfl [(2,R 0),(3,R 0),(4,R 0),(5,R 11)] J ?_;refine W.rt ?_;exact .of (by simp[q])
   .refine Η (by simp[q]) ?_;refine Χ ?_;refine Pn ?_;refine W.drop (h:=0) (σ':=[]) (ω _) (ω _) J rfl [(2,R aD),(3,R aE),(4,R al),(5,R 0)] J ?_;refine W.rt ?_;exact .of (by simp[q])
theorem xn (l:List Int) (B:l.length<2 ^ 30) :
  Ξ prog 85 [.ms 0 l.length 0 l.length] [.cells 3 1 (l.map R)] (λr s=>(∃e k,r=.sl e k (l.map R)/\(l≠[]->k=1))/\s=[.cells 3 1 (l.map R)]) (λ_ _=>False):=by
 refine Ξ.body Ρ func85 rfl rfl ntmps85 rfl rfl J ?_;have o:l.length<=4294967295:=U;by_cases d:l=[]
 .subst d;refine Χ ?_;refine ZU λf b=>?_;intro j C;apply b;by_cases i:j=1
  .refine Ε (by simp[i]) ?_;refine Χ ?_;exact W.ret ⟨_,rfl,⟨true,0,rfl,λh=>absurd rfl h⟩,rfl⟩
  .refine Η (by simp[i]) ?_
   repeat apply Ο
   refine Y4 (A:=[5,7]) Ρ λf b=>Z1 ?_;apply b;refine W.cut 1 (Z5 _) [(2,.sl false 1 [])] J (λid r u c=>?_) (λp g=>?_) ?_
   .obtain rfl:id=0:=U
    simp at c;subst c;simp[XZ]
   .obtain rfl:p=(2,.sl false 1 []):=by simpa using g
    exact Yr.own (id:=1) (t:=3) (Z5 _) rfl J J
   .exact W.ret ⟨_,rfl,⟨false,1,rfl,λ_=>rfl⟩,rfl⟩
 .refine Χ ?_;refine XM d λf b=>?_;apply b;refine Η rfl ?_
  repeat apply Ο
  have v:List.take l.length (l.map R)=l.map R:=US J
  have w:l.length<=4294967296:=U;refine Y4 (A:=[5,7]) Ρ λf b=>XC (Υ o (Υ d (Υ v w))) ?_;apply b;have m:∀e∈l.map R,∀a∈e.cells,χ 1 a:=λe y a n=>by
   obtain⟨x,_,rfl⟩:=Zc.1 y;simp[I.cells] at n;subst n;simp
  refine W.cut 1 (Z5 _) [(2,.sl false 1 (l.map R))] J (λid r u c=>?_) (λp g=>?_) ?_
  .obtain rfl:id=0:=U
   simp at c;subst c;exact m
  .obtain rfl:p=(2,.sl false 1 (l.map R)):=by simpa using g
   exact Yr.own (id:=1) (t:=3) (Z5 _) rfl J m
  .exact W.ret ⟨_,rfl,⟨false,1,rfl,λ_=>rfl⟩,rfl⟩
abbrev Pe (k:List Int):I:=.Z7 (k.map R)
abbrev R7 (e:List Int×Int):I×I:=(Pe e.1,R e.2)
def LR (m:List (List Int×Int)):Prop:=∀e∈m,e.1.length=4
theorem xm (x y:List Int) (e:x.length=4) (f:y.length=4):aeqv Z2 157 (Pe x) (Pe y)=some (decide (x=y)):=by
 match x,e,y,f with
 | [a,b,c,d],_,[g,h,c',i],_=>
  simp[aeqv,Vk,TT,OR]
def Wt:List (List Int×Int)->List Int->Int->List (List Int×Int)
 | [],k,v=>[(k,v)]
 | e::r,k,v=>if k=e.1 then(k,v)::r else e::Wt r k v
def Uz:List (List Int×Int)->List Int->Option Int
 | [],_=>none
 | e::r,k=>if k=e.1 then some e.2 else Uz r k
theorem xl (k:List Int) (l:k.length=4):∀(m:List (List Int×Int)) (d:Nat),LR m->(Wz Z2 157 (Pe k) (m.map R7) d=some none/\Uz m k=none/\∀v,Wt m k v=m++[(k,v)])\/
  ∃i x,i<m.length/\Wz Z2 157 (Pe k) (m.map R7) d=some (some (d+i,R x))/\Uz m k=some x/\∀v,Wt m k v=m.set i (k,v):=by
 intro m
 induction m with
 | nil=>intro d _;exact .inl ⟨rfl,rfl,λ_=>rfl⟩
 | cons e r n=>
  intro d f;have a:=xm k e.1 l (f e J);by_cases h:k=e.1
  .refine .inr ⟨0,e.2,J,?_,by simp[Uz,h],λv=>by simp[Wt,h]⟩;simp only[X3,Wz,a];simp[h]
  .have g:decide (k=e.1)=false:=by simpa using h
   rcases n (d+1) (λx o=>f x (by simp[o])) with⟨j,b,c⟩|⟨i,x,j,b,c,p⟩
   .refine .inl ⟨?_,by simp[Uz,h,b],λv=>by simp[Wt,h,c]⟩;simp only[X3,Wz,a,g,cond_false];exact j
   .refine .inr ⟨i+1,x,by simp;omega,?_,by simp[Uz,h,c],λv=>by simp[Wt,h,p]⟩;simp only[X3,Wz,a,g,cond_false];rw[b];have:d+1+i=d+(i+1):=U;rw[this]
theorem DY {m:List (List Int×Int)} (h:LR m) {k:List Int} (b:k.length=4) (v:Int):LR (Wt m k v):=by
 induction m with
 | nil=>intro e he;simp[Wt] at he;subst he;exact b
 | cons a r c=>
  intro e he;unfold Wt at he;split at he
  .rcases Zf.1 he with rfl|he
   .exact b
   .exact h e (by simp[he])
  .rcases Zf.1 he with rfl|he
   .exact h _ J
   .exact c (λx d=>h x (by simp[d])) e he
def Uy (s:Δ) (p r:Int×Int) (L:List Nat) (k:Nat):List Int:=((L.take k).map λx=>s.Y1 p r x)++List.replicate (4-k) 0
theorem DX {s:Δ} {p r:Int×Int} {L:List Nat} {k:Nat} (a:k<=L.length) (b:L.length<=4):(Uy s p r L k).length=4:=by simp[Uy];omega
theorem xk {s:Δ} {p r:Int×Int} {L:List Nat} {k:Nat} (b:k<L.length) (d:L.length<=4):(Uy s p r L k).take k++s.Y1 p r L[k]::(Uy s p r L k).drop (k+1)=Uy s p r L (k+1):=by
 have a:((L.take k).map λx=>s.Y1 p r x).length=k:=by simp;omega
 have Φ:4-k=(4-(k+1))+1:=U;unfold Uy;rw[List.take_left' a,List.drop_append,NX U,a,Wp b,XR,Φ,List.replicate_succ];have c:k+1-k=1:=U;rw[c];simp
abbrev Nf:=Option (List (List Int×Int))
def Tb (m:Nf) (k:List Int) (v:Int):Nf:=m.bind λm=>match Uz m k with|some x=>if x=v then some (Wt m k v) else none|none=>some (Wt m k v)
def T' (s:Δ) (f:Found) (a:Nat) (lower:Bool) (L:List Nat) (m:Nf) (j:Nat):Nf:=(((f.cells[a]?).getD []).take j).foldl (λm r=>Tb m (Uy s (f.u,f.v) r L L.length) (W6 lower r)) m
def QR (s:Δ) (F:List Found) (a:Nat) (lower:Bool) (L:List Nat) (i:Nat):Nf:=(F.take i).foldl (λm f=>T' s f a lower L m ((f.cells[a]?).getD []).length) (some [])
def Vx (s:Δ) (F:List Found) (a:Nat) (lower:Bool) (L:List Nat):Bool:=(QR s F a lower L F.length).isSome
theorem xj (s:Δ) (f:Found) (a:Nat) (lower:Bool) (L:List Nat) (m:Nf) (j:Nat) (h:j<((f.cells[a]?).getD []).length):T' s f a lower L m (j+1)=Tb (T' s f a lower L m j) (Uy s (f.u,f.v) ((f.cells[a]?).getD [])[j] L L.length) (W6 lower ((f.cells[a]?).getD [])[j]):=by
 unfold T';rw[Wp h,RS];rfl
theorem DW (s:Δ) (F:List Found) (a:Nat) (lower:Bool) (L:List Nat) (i:Nat) (h:i<F.length):QR s F a lower L (i+1)=T' s F[i] a lower L (QR s F a lower L i) ((F[i].cells[a]?).getD []).length:=by
 unfold QR;rw[Wp h,RS];rfl
theorem DV (l:List (Int×Int)) (k:(Int×Int)->List Int) (v:Int×Int->Int):l.foldl (λm r=>Tb m (k r) (v r)) none=none:=by
 induction l with
 | nil=>rfl
 | cons a l b=>exact b
theorem xi (s:Δ) (F:List Found) (b:Nat) (lower:Bool) (L:List Nat) {i j:Nat} (hi:i<F.length) (e:j<=((F[i].cells[b]?).getD []).length) (h:T' s F[i] b lower L (QR s F b lower L i) j=none):Vx s F b lower L=false:=by
 have c:T' s F[i] b lower L (QR s F b lower L i) ((F[i].cells[b]?).getD []).length=none:=by
  unfold T' at h ⊢;rw[RR]
  conv=>lhs;rw[<-NW j ((F[i].cells[b]?).getD [])]
  rw[RS,h];exact DV _ _ _
 rw[<-DW s F b lower L i hi] at c;unfold Vx;unfold QR at c ⊢;rw[RR]
 conv=>lhs;rw[<-NW (i+1) F]
 rw[RS,c];have:∀l:List Found,(l.foldl (λm f=>T' s f b lower L m ((f.cells[b]?).getD []).length) none)=none:=λl=>by
  induction l with
  | nil=>rfl
  | cons a l d=>
   rw[List.foldl_cons];have:T' s a b lower L none ((a.cells[b]?).getD []).length=none:=by unfold T';exact DV _ _ _
   rw[this];exact d
 rw[this];rfl
abbrev XA (L:List Nat):Row:=.cells 3 1 (L.map λn:Nat=>R n)
theorem Hv {h:Nat} {L:List Nat}:XZ h (XA L):=λe c a b=>by
 obtain⟨x,_,rfl⟩:=Zc.1 c;simp[I.cells] at b;subst b;simp
theorem xh (s:Δ) (aC:s.small) (F:List Found) (al:Od s F) (g:Nat) (aD:g<s.cells.length) (lower:Bool) (L:List Nat) (ad:L.length<=4) (aE:∀x∈L,x<s.Β.length) :
  Ξ prog 84 [Zh s,Y2 F,R g,ε lower,.ms 0 L.length 0 L.length] [XA L] (λr σ=>r=ε (Vx s F g lower L)/\σ=[XA L]) (λ_ _=>False):=by
 refine Ξ.body Ρ func84 rfl rfl ntmps84 rfl rfl J ?_;refine Χ ?_;have T:∀o:List (List Int×Int),∀r∈[XA L,.map (o.map R7)],XZ [XA L,.map (o.map R7)].length r:=λo r V=>by
  simp only[Zf,Yk,or_false] at V;rcases V with rfl|rfl
  .exact Hv
  .intro e ae;obtain⟨x,_,rfl⟩:=Zc.1 ae;simp
 refine W.iter (λx:Nat×List (List Int×Int)=>x.1<=F.length/\QR s F g lower L x.1=some x.2/\LR x.2) (λ(i,_)=>[(2,R g),(3,ε lower),(4,.ms 0 L.length 0 L.length),(5,Z6 s),(11,.mp 1),(23,Y2 F),(24,R F.length),(25,R i)])
  (λ(_,o)=>[XA L,.map (o.map R7)]) (λx=>F.length-x.1) (0,[]) ⟨ω _,rfl,λe ae=>by cases ae⟩ rfl J (λx af aF=>?_)
 obtain⟨i,o⟩:=x;obtain⟨hi,ag,am⟩:=af;simp only at hi ag am ⊢;refine Χ ?_;by_cases D:i<F.length
 .refine Ε (by simp[D]) ?_;have M:=DW s F g lower L i D;have N:=λj=>xi s F g lower L (i:=i) (j:=j) D;rw[ag] at M N;obtain⟨an,ao⟩:=al.cells _ (Y7 D);generalize aG:F[i]=f at M N an ao;have ah:g<f.cells.length:=by rw[an];exact aD
  repeat apply Ο
  refine Y4 (A:=[13]) Ρ λE m=>XC (Υ D aG) ?_;apply m;refine W.UC (σ0:=[XA L,.map (o.map R7)]) J (T _) J [(13,.π [R f.u,R f.v,TM f.cells]),(2,R g),(3,ε lower),(4,.ms 0 L.length 0 L.length),(5,Z6 s),(11,.mp 1),(23,Y2 F),(24,R F.length),(25,R i)] (by simp[Ww,P',TS]) ?_;refine Ι ah ?_;have ap:(f.cells[g]?).getD []=f.cells[g]:=by simp[ah]
  rw[ap] at M N;have aq:=ao _ (Y7 ah);have ai:=xj s f g lower L (some o);rw[ap] at ai;generalize f.cells[g]=C at M aq ai N;obtain⟨aN,aH⟩:=aq;refine W.iter (λx:Nat×List (List Int×Int)=>x.1<=C.length/\T' s f g lower L (some o) x.1=some x.2/\LR x.2) (λ(j,_)=>[(2,R g),(3,ε lower),(4,.ms 0 L.length 0 L.length),(5,Z6 s),(11,.mp 1),(23,Y2 F),(24,R F.length),(25,R i),(13,.π [R f.u,R f.v,TM f.cells]),(33,TN C),(34,R C.length),(35,R j)])
   (λ(_,o)=>[XA L,.map (o.map R7)]) (λx=>C.length-x.1) (0,o) ⟨ω _,rfl,am⟩ rfl J (λx af ar=>?_)
  obtain⟨j,t⟩:=x;obtain⟨aI,aj,O⟩:=af;simp only at aI aj O ⊢;refine Χ ?_;by_cases B:j<C.length
  .refine Ε (by simp[B]) ?_;have I:=ai j B;rw[aj] at I;obtain⟨au,av⟩:=aH _ (Y7 B);generalize V:C[j]=r at I au av
   repeat apply Ο
   refine Y4 (A:=[15]) Ρ λE m=>XC (Υ B V) ?_;apply m;refine W.UC (σ0:=[XA L,.map (t.map R7)]) J (T _) J [(15,.π [R r.1,R r.2]),(2,R g),(3,ε lower),(4,.ms 0 L.length 0 L.length),(5,Z6 s),(11,.mp 1),(23,Y2 F),(24,R F.length),(25,R i),(13,.π [R f.u,R f.v,TM f.cells]),(33,TN C),(34,R C.length),(35,R j)] (by simp[Ww,P',TS]) ?_
   repeat apply Ο
   refine Y4 (A:=[16]) Ρ λE m=>Z1 ?_;apply m;refine Χ ?_;refine W.iter (λk:Nat=>k<=L.length) (λk=>[(2,R g),(3,ε lower),(4,.ms 0 L.length 0 L.length),(5,Z6 s),(11,.mp 1),(23,Y2 F),(24,R F.length),(25,R i),(13,.π [R f.u,R f.v,TM f.cells]),(33,TN C),(34,R C.length),(35,R j),(15,.π [R r.1,R r.2]),(16,.Ν 2 1 0 0),(39,.ms 0 L.length 0 L.length),(40,R L.length),(41,R k)])
    (λk=>[XA L,.map (t.map R7),.cells 157 4 [Pe (Uy s (f.u,f.v) r L k)]]) (λk=>L.length-k) 0 (ω _) (by simp[Uy]) J (λk aO aw=>?_)
   refine Χ ?_;by_cases H:k<L.length
   .refine Ε (by simp[H]) ?_;have X:(k:Int)<4:=U;have ax:k<=3:=U;have ay:=xk (s:=s) (p:=(f.u,f.v)) (r:=r) H ad;have n:=DX (s:=s) (p:=(f.u,f.v)) (r:=r) (RP H) ad;have aJ:=aE _ (Y7 H);obtain⟨K,m⟩:=ψ (Uy s (f.u,f.v) r L k);rw[<-m] at ay n ⊢;refine Ι (Υ H (Υ X n)) ?_;refine XM (Υ X n) λE m=>?_;refine Κ.c (LU s aC (f.u,f.v) r L[k] aJ au av) (ZO.refl _) J J ?_;simp[X,ax,n];(repeat (rw[Μ];simp[X,ax,n]));apply m;have az:=Yx H (show L.length<2 ^ 62 by omega);refine Ι az ?_;refine W.to (aw (k+1) H U) ?_ ?_
    .rw[<-ay];simp
    .simp[az]
   .have aK:k=L.length:=U
    subst aK;refine Η J ?_;refine W.exit rfl ?_;have n:=DX (s:=s) (p:=(f.u,f.v)) (r:=r) (Z5 _) ad;obtain⟨K,m⟩:=ψ (Uy s (f.u,f.v) r L L.length);obtain⟨v,hv⟩:=ψ (W6 lower r);rw[<-m,<-hv] at I;rw[<-m] at n ⊢
    repeat apply Ο
    refine W.Qc (A:=[]) Ρ [(2,R g),(3,ε lower),(4,.ms 0 L.length 0 L.length),(5,Z6 s),(11,.mp 1),(23,Y2 F),(24,R F.length),(25,R i),(13,.π [R f.u,R f.v,TM f.cells]),(33,TN C),(34,R C.length),(35,R j),(15,.π [R r.1,R r.2]),(16,.Ν 2 1 0 0),(19,R v)] ?_ (by
     rw[hv];cases lower
     all_goals
      (try simp);(repeat (rw[Μ];simp));(try simp);refine Κ.d (HH _) (Z1 ?_);simp[W6])
    clear aw hv;have aA:=Yx B (show C.length<2 ^ 62 by omega);have aP:SM [XA L,.map (t.map R7),.cells 157 4 [Pe K]] 1=true:=by simp[SM]
    have Y:SN Z2 157 (Pe K)=true:=by
     match K,n with
     | [a,b,c,d],_=>simp[SN,Vk,TT]
    have Z:List.take 4 (K.map R)=K.map R:=US (by simp[n]);rcases xl K n t 0 O with⟨P,aa,y⟩|⟨aQ,x,aR,P,aa,y⟩
    .have y:=y v
     have Q:T' s f g lower L (some o) (j+1)=some (Wt t K v):=by rw[I];simp[Tb,aa]
     (repeat (first|apply Ο|(refine YX λE m=>?_;simp;(repeat (rw[Μ];simp[P,Y,Z,n,-SN]));apply m)));refine Η rfl ?_;(repeat (first|apply Ο|(refine YX λE m=>?_;simp;(repeat (rw[Μ];simp[P,Y,Z,n,-SN]));apply m)));refine W.drop (h:=2) (σ':=[XA L,.map ((Wt t K v).map R7)]) J J (λid w S l=>XZ.mono (T (Wt t K v) w (by
      match id,S,l with
      | 0,_,l=>simp at l;subst l;simp
      | 1,_,l=>simp[y] at l;subst l;simp[y])) J) (by simp[y]) [(2,R g),(3,ε lower),(4,.ms 0 L.length 0 L.length),(5,Z6 s),(11,.mp 1),(23,Y2 F),(24,R F.length),(25,R i),(13,.π [R f.u,R f.v,TM f.cells]),(33,TN C),(34,R C.length),(35,R ((j:Int)+1))] (by simp[Ww,P',TS,aA]) ?_
     refine W.to (ar (j+1,Wt t K v) ⟨B,Q,DY O n v⟩ (by simp only;omega)) rfl ?_;simp
    .have y:=y v;(repeat (first|apply Ο|(refine YX λE m=>?_;simp;(repeat (rw[Μ];simp[P,Y,Z,n,-SN]));apply m)));by_cases ab:x=v
     .have Q:T' s f g lower L (some o) (j+1)=some (Wt t K v):=by rw[I];simp[Tb,aa,ab]
      refine Η (by simp[ab]) ?_;(repeat (first|apply Ο|(refine YX λE m=>?_;simp;(repeat (rw[Μ];simp[P,Y,Z,n,-SN]));apply m)));refine W.drop (h:=2) (σ':=[XA L,.map ((Wt t K v).map R7)]) J J (λid w S l=>XZ.mono (T (Wt t K v) w (by
       match id,S,l with
       | 0,_,l=>simp at l;subst l;simp
       | 1,_,l=>simp[y] at l;subst l;simp[y])) J) (by simp[y]) [(2,R g),(3,ε lower),(4,.ms 0 L.length 0 L.length),(5,Z6 s),(11,.mp 1),(23,Y2 F),(24,R F.length),(25,R i),(13,.π [R f.u,R f.v,TM f.cells]),(33,TN C),(34,R C.length),(35,R ((j:Int)+1))] (by simp[Ww,P',TS,aA]) ?_
      refine W.to (ar (j+1,Wt t K v) ⟨B,Q,DY O n v⟩ (by simp only;omega)) rfl ?_;simp
     .have Q:T' s f g lower L (some o) (j+1)=none:=by rw[I];simp[Tb,aa,ab]
      have ak:=N (j+1) B Q;rw[ak];refine Ε (by simp[ab]) ?_;refine Χ ?_;refine W.drop (h:=1) (σ':=[XA L]) J J (λid w S l=>by
       obtain rfl:id=0:=U;simp at l;subst l;exact Hv) rfl [(10,ε false)] J ?_
      exact W.ret ⟨_,rfl,rfl,rfl⟩
  .have aL:j=C.length:=U
   subst aL;have aB:=Yx D (show F.length<2 ^ 62 by have:=al.PV;omega);refine Η J ?_;refine W.exit rfl ?_;refine Ι aB ?_;refine W.to (aF (i+1,t) ⟨D,by rw[M];exact aj,O⟩ (by simp only;omega)) rfl ?_;simp[aB]
 .have aM:i=F.length:=U
  subst aM;have ak:Vx s F g lower L=true:=by unfold Vx;rw[ag];rfl
  rw[ak];refine Η J ?_;refine W.exit rfl ?_;refine Χ ?_;refine W.drop (h:=1) (σ':=[XA L]) J J (λid w S l=>by
   obtain rfl:id=0:=U;simp at l;subst l;exact Hv) rfl [(10,ε true)] J ?_
  exact W.ret ⟨_,rfl,rfl,rfl⟩
end Go.TL
namespace Go.TL
open Go.Proofs.Tryz
open Go.Conc Go.Proofs
variable [ZV]
section
variable {P:Program} {Q:Value->Prop} {mn:Bool} {x:W3} {cs rest:List Frame} {H:Ψ} {b f c:Frame} {t:Array Value} {k:List Item} {fn:Func}
theorem Ω.getLoop {L:Nat} {r:Loop} (h:H.obj L=some (.loop r)) {K:Loop->Ψ->Prop} {E:Value->Ψ->Prop} (a:K r H):Ω P (Instr.getLoop L) H K E:=by
 unfold Instr.getLoop;refine Ω.bind' ?_;exact⟨_,h,rfl,Ω.pure' a⟩
theorem Ω.Hu {L:Nat} {r r':Loop} (h:H.obj L=some (.loop r)) {K:Unit->Ψ->Prop} {E:Value->Ψ->Prop} (a:K () (H.ZG L (.loop r'))):Ω P (setObj L (.loop r')) H K E:=
 ⟨⟨_,h⟩,rfl,rfl,Ω.pure' a⟩
abbrev DU (st:LoopState) (b:Option Code) (f:FuncId) (t:Array Value) (c:Array Tmp) (a e:Code) (d:Nat):Loop:={state:=st,pending:=b,fn:=f,tmps:=t,params:=c,assign:=a,body:=e,defers:=d}
theorem θ.rangeFunc (n:Seq x) (o:b.mode=.run) (p:b.roundOf=none) {fo:Operand} {i:Array Tmp} {assign body:Code} {g:FuncId} {f:Array Value} (r:ZS t fo=.func (.func g) #[] f) (s:Plain P g)
  (h:∀c a,H.fresh c->(H.ZG c (.deferred (some []))).fresh a->θ P Q mn x (Frame.enter P g (#[.func (.yield a) #[] #[]]++f) .normal) ({υ b t (.inRangeFunc a::k) with defers:=⟨.collected c,#[]⟩::b.defers}::cs)
   ((H.ZG c (.deferred (some []))).ZG a (.loop (DU .ready none b.fn t i assign body c)))) :
  θ P Q mn x (υ b t (.code (.rangeFunc fo i assign body)::k)) cs H:=by
 refine .own n λw u=>?_;have y:Ω P (Instr.enterLoop b.fn t i assign body none) H (λv H'=>∃c a,H.fresh c/\(H.ZG c (.deferred (some []))).fresh a/\v=(a,[⟨.collected c,#[]⟩])/\H'=(H.ZG c (.deferred (some []))).ZG a (.loop (DU .ready none b.fn t i assign body c))) (λ_ _=>False):=by
  unfold Instr.enterLoop;refine Ω.bind' (λc j=>Ω.pure' (Ω.bind' (Ω.pure' ?_)));refine Ω.bind' (λa l=>Ω.pure' (Ω.pure' ?_));exact⟨c,a,j,l,rfl,rfl⟩
 obtain⟨H',w',es',A,B⟩:=Ω.sound (P:=P) (G0:=H) (w0:=w) _ y (Yu.start u);rcases B with⟨v,m,c,a,j,l,rfl,rfl⟩|⟨v,m,C⟩
 .refine⟨_,_,w',seen P b.fn es',_,?_,A.sub λe D=>mem_seen D,h c a j l⟩;have E:∀F:Frame,F.tmps=t->resolve F.eval {callee:=.value fo,args:=#[.const (.func (.yield a) #[] #[])],argTypes:=#[]} 0=Deferred.ofValue (.func (.func g) #[] f) #[.func (.yield a) #[] #[]]:=λF I=>by
   have:F.eval fo=.func (.func g) #[] f:=by rw[<-r,<-I];cases fo<;>rfl
   unfold resolve;simp only;rw[this];simp[Frame.eval]
  have J:((do let d <-Deferred.ofValue (.func (.func g) #[] f) #[.func (.yield a) #[] #[]];invoke d.target d.args:Sem Next)).runT P w' #[]=(.ok (.enter g (#[.func (.yield a) #[] #[]]++f)) w',#[]):=by
   have:=s.enter (#[.func (.yield a) #[] #[]]++f) w';simpa[Deferred.ofValue,invoke] using this
  rw[VE o];unfold stepG.exec;simp only[υ,p,m];rw[E _ rfl];unfold stepG.apply;simp only[if_true,J];simp[GStep.after,Go.Conc.G,υ,seen_none]
 .exact C.elim
theorem θ.DT (d:Seq x) (f:b.mode=.run) {L:Nat} {r:Loop} (a:H.obj L=some (.loop r)) (g:r.state≠.busy)
  (h:θ P Q mn x (υ b t ((r.pending.map Item.code).toList++k)) cs (H.ZG L (.loop {r with state:=.exhausted}))):θ P Q mn x (υ b t (.endRangeFunc L::k)) cs H:=by
 refine .own d λw i=>?_;have j:Ω P (Instr.endLoop L) H (λv H'=>v=r.pending/\H'=H.ZG L (.loop {r with state:=.exhausted})) (λ_ _=>False):=by
  unfold Instr.endLoop;refine Ω.bind' (Ω.getLoop a ?_);have e:(r.state==.busy)=false:=by cases l:r.state<;>first|rfl|exact absurd l g
  simp only[e,Xo,if_false];exact Ω.bind' (Ω.Hu a (Ω.pure' ⟨rfl,rfl⟩))
 obtain⟨H',w',es',m,n⟩:=Ω.sound (P:=P) (G0:=H) (w0:=w) _ j (Yu.start i);rcases n with⟨v,c,rfl,rfl⟩|⟨v,c,o⟩
 .refine⟨_,_,w',seen P b.fn es',_,?_,m.sub λe p=>mem_seen p,h⟩;rw[VE f];unfold stepG.exec;simp only[υ,c];simp[GStep.after,Go.Conc.G]
 .exact o.elim
theorem θ.beginRound (g:Seq x) (i:b.mode=.run) {L:Nat} (j:b.roundOf=some L) {r:Loop} (a:H.obj L=some (.loop r)) (l:r.state=.ready)
  (h:θ P Q mn x (υ b t k) cs (H.ZG L (.loop {r with state:=.busy}))):θ P Q mn x (υ b t (.beginRound::k)) cs H:=by
 refine .own g λw m=>?_;have n:Ω P (Instr.beginRound L) H (λ_ H'=>H'=H.ZG L (.loop {r with state:=.busy})) (λ_ _=>False):=by
  unfold Instr.beginRound;refine Ω.bind' (Ω.getLoop a (Ω.bind' (Ω.Hu a ?_)));rw[l];exact Ω.pure' rfl
 have o:Ω P (do Instr.beginRound L;pure Next.skip:Sem Next) H (λv H'=>v=.skip/\H'=H.ZG L (.loop {r with state:=.busy})) (λ_ _=>False):=
  Ω.bind' (Ω.mono (λ_ _ e=>Ω.pure' ⟨rfl,e⟩) (λ_ _ h=>h) _ n)
 obtain⟨H',w',es',p,s⟩:=Ω.sound (P:=P) (G0:=H) (w0:=w) _ o (Yu.start m);rcases s with⟨v,c,rfl,rfl⟩|⟨v,c,u⟩
 .generalize d:(if b.kind==.early then #[] else es')=f;have y:∀e∈seen P b.fn f,e∈es':=λe A=>by
   have:=mem_seen A;rw[<-d] at this;split at this
   .simp at this
   .exact this
  refine⟨_,_,w',seen P b.fn f,_,?_,p.sub y,h⟩;rw[VE i];unfold stepG.exec;simp only[υ,j,Option.elim];unfold stepG.apply;simp only[if_true,c];rw[d];simp[GStep.after,Go.Conc.G,Frame.finish]
 .exact u.elim
theorem θ.endRound (l:Seq x) (m:b.mode=.run) {L:Nat} (f:b.roundOf=some L) (g:b.kind=.normal) {r:Loop} (j:H.obj L=some (.loop r)) {jump:Option Code} (n:(jump=none/\k=[])\/(jump=some .ret/\∃a,k=.code .ret::a)\/∃id a,jump=some (.exit id)/\k=.code (.exit id)::a/\exitTo id a=none)
  (h:θ P Q mn x (c.finish (.bool jump.isNone)) rest (H.ZG L (.loop {r with state:=if jump.isNone then .ready else .done,pending:=jump}))):θ P Q mn x (υ b t k) (c::rest) H:=by
 refine .own l λw o=>?_;have p:Ω P (Instr.endRound L jump) H (λv H'=>v=.bool jump.isNone/\H'=H.ZG L (.loop {r with state:=if jump.isNone then .ready else .done,pending:=jump})) (λ_ _=>False):=by
  unfold Instr.endRound;exact Ω.bind' (Ω.getLoop j (Ω.bind' (Ω.Hu j (Ω.pure' ⟨rfl,rfl⟩))))
 obtain⟨H',w',es',s,u⟩:=Ω.sound (P:=P) (G0:=H) (w0:=w) _ p (Yu.start o);rcases u with⟨v,d,rfl,rfl⟩|⟨v,d,y⟩
 .refine⟨_,_,w',seen P b.fn es',_,?_,s.sub λe i=>mem_seen i,h⟩;rw[VE m];unfold stepG.exec;rcases n with⟨rfl,rfl⟩|⟨rfl,a,rfl⟩|⟨id,a,rfl,rfl,i⟩
  .simp only[υ,f,d];simp[GStep.after,Go.Conc.G,doReturn,g]
  .simp only[υ,f,d];simp[GStep.after,Go.Conc.G,doReturn,g]
  .simp only[υ,f,i,Option.elim,d];simp[GStep.after,Go.Conc.G,doReturn,g]
 .exact y.elim
theorem θ.collected (c:Seq x) (d:f.mode=.returning) {r:Nat} {ds:List Deferred} (hd:f.defers=⟨.collected r,#[]⟩::ds) (a:H.obj r=some (.deferred (some [])))
  (h:θ P Q mn x {f with defers:=ds} cs (H.ZG r (.deferred none))):θ P Q mn x f cs H:=by
 refine .own c λw g=>?_;have i:Ω P (Instr.takeDeferred r) H (λv H'=>v=[]/\H'=H.ZG r (.deferred none)) (λ_ _=>False):=by
  unfold Instr.takeDeferred;refine Ω.bind' ?_;exact⟨_,a,rfl,Ω.pure' (Ω.bind' ⟨⟨_,a⟩,rfl,rfl,Ω.pure' (Ω.pure' ⟨rfl,rfl⟩)⟩)⟩
 obtain⟨H',w',es',j,k⟩:=Ω.sound (P:=P) (G0:=H) (w0:=w) _ i (Yu.start g);rcases k with⟨v,b,rfl,rfl⟩|⟨v,b,l⟩
 .refine⟨_,_,w',seen P f.fn es',_,?_,j.sub λe m=>mem_seen m,h⟩;rw[NG (by rw[d];simp)];unfold unwind;simp only[hd,b];simp[GStep.after,Go.Conc.G]
 .exact l.elim
end
end Go.TL
namespace Go.TL
open Go.Proofs.Tryz
open Go.Conc
open Go.ConcM (OsLater)
open Go.ConcN (sumTo upd sumTo_upd upd_ne upd_same sumTo_congr le_sumTo)
open Go.ConcR (mk)
variable [ZV]
theorem W' {b:Frame} (a:b.mode=.run) (c:b.roundOf=none) (t:Array Value) (k:List Item):υ b t k=b.at ⟨t,b.defers⟩ k:=by
 obtain⟨fn,d,td,e,f,g,h⟩:=b;simp only at a c;subst a;subst c;rfl
theorem Pd (o:Oper) (t:Array Value) (ds:List Deferred) (v:Value):(⟨t,ds⟩:_root_.Go.Act).put o.dst v=⟨put o t v,ds⟩:=by
 unfold _root_.Go.Act.put put;cases o.dst<;>rfl
theorem T9 (t:Array Value) (ds:List Deferred):(⟨t,ds⟩:_root_.Go.Act).eval=ZS t:=by funext o;cases o<;>rfl
def Entry (P:Program) (f:FuncId) (e:Array Value->Sem Value):Prop:=∃fn,P.funcs[f]?=some fn/\(fn.name == "runtime.NumGoroutine")=false/\fn.body.isNone=true/\Extern.findNext fn=none/\Extern.find fn=some e
structure TJ (b:Frame) (ops:Array Oper) (i:Nat) (op:Oper):Prop where
 run:b.mode=.run
 ro:b.roundOf=none
 kd:b.kind≠.early
 op:ops[i]?=some op
def XW (x:Z4):Prop:=x.rel=false\/∃s,¬Gone (x.tok s)
theorem XW.ok {P:Program} {g:Goroutine} {x:Z4} (h:XW x):Mq P g x:=λa b=>by
 rcases h with h|⟨s,h⟩
 .rw[h] at a;cases a
 .exact absurd (b s) h
def one (x:Z4):W3:=λy=>y=x
@[reducible] def Yb:ZV:=⟨λ_=>True⟩
theorem Seq.Pb {x:Z4} (a:ZV.q (one x)) (b:x.rel=false) (hv:x.γ=λ_=>none):Seq (one x):=⟨a,λy h=>by cases h;exact b,λy h=>by cases h;exact hv⟩
theorem Seq.here {x:Z4} (h:Seq (one x)):XW x:=.inl (h.rel x rfl)
section
variable {P:Program} {Q:Value->Prop} {mn:Bool} {x:Z4} {b:Frame} {cs:List Frame} {nt:Nat} {o:Base} {k:List Item} {env:Ζ} {σ:Τ} {S:ο} {B:δ} {H:Ψ} {t:Array Value}
variable {ops:Array Oper} {i:Nat} {rest:List Nat} {op:Oper} {f:FuncId} {e:Array Value->Sem Value} {args:Array Operand} {LQ:Array TypeId} {w w':World}
theorem Jw (j:Entry P f e) (c:TJ b ops i op) (l:Region.wanted op (yielded ops t)=true) (m:op.op=.call ⟨.value (.func f),args,LQ⟩) {vs:Array Value} (h:args.map (ZS t)=vs) {v:Value} {d:Array Event}
  (n:(e vs).run P w=.ok v w') (o:(e vs).events P w #[⟨.mark (Mark.extern f),false,true⟩]=#[⟨.mark (Mark.extern f),false,true⟩]++d) (p:∀y∈d,y.sync=true/\∀g,y.loc≠.mark (Mark.extern g)) :
  stepG P mn (Go.Conc.G (υ b t (.inRegion ops (i::rest)::k)) cs) w=.go (Go.Conc.G (υ b (put op t v) (.inRegion ops rest::k)) cs) w' d:=by
 obtain⟨fn,r,s,u,x,A⟩:=j;rw[W' c.run c.ro,W' c.run c.ro,<-Pd];exact stepG_entry (a:=⟨t,b.defers⟩) c.op l c.kd m r s u x A (by rw[T9,h];exact n) (by rw[T9,h];exact o) p
theorem xg (d:Entry P f e) (c:TJ b ops i op) (g:Region.wanted op (yielded ops t)=true) (h:op.op=.call ⟨.value (.func f),args,LQ⟩) {vs:Array Value} (j:args.map (ZS t)=vs)
  (l:(e vs).run P w=.halt .blocked w') :
  stepG P mn (Go.Conc.G (υ b t (.inRegion ops (i::rest)::k)) cs) w=.go {Go.Conc.G (υ b t (.inRegion ops (i::rest)::k)) cs with status:=.blocked} w' #[]:=by
 obtain⟨fn,m,n,o,p,r⟩:=d;rw[W' c.run c.ro];exact stepG_entry_blocked (a:=⟨t,b.defers⟩) c.op g h m n o p r (by rw[T9,j];exact l)
theorem DS (d:Entry P f e) (a:TJ b ops i op) (g:op.op=.call ⟨.value (.func f),args,LQ⟩):mayWake P (Go.Conc.G (υ b t (.inRegion ops (i::rest)::k)) cs)=true:=by
 obtain⟨fn,h,m,j,n,o⟩:=d;have l:fn.body=none:=by simpa using j
 have c:(υ b t (.inRegion ops (i::rest)::k)).eval (.func f)=.func (.func f) #[] #[]:=rfl;simp[mayWake,Go.Conc.G,υ,a.run,a.op,g] at c ⊢;simp[c,h,l]
def LP (env:Ζ) (args:Array Operand) (vs:List Value):Prop:=args.toList.map (κ env)=vs.map I.z
theorem Jv (a:YJ S B σ env t) {y:Operand} {v:Value} (h:κ env y=.z v):ZS t y=v:=by
 have:=Uh a y;rw[h] at this;generalize ZS t y=u at this;cases this;rfl
theorem LP.ZS (a:YJ S B σ env t) {vs:List Value} (h:LP env args vs):args.map (ZS t)=vs.toArray:=by
 apply NP;rw[Array.toList_map];have:∀(l:List Operand) (vs:List Value),l.map (κ env)=vs.map I.z->l.map (Go.TL.ZS t)=vs:=by
  intro l
  induction l with
  | nil=>intro vs h;cases vs with
   | nil=>rfl
   | cons=>cases h
  | cons y l b=>
   intro vs h;cases vs with
   | nil=>cases h
   | cons v vs=>
    simp only[X3,List.cons.injEq] at h ⊢;exact⟨Jv a h.1,b vs h.2⟩
 exact this _ _ h
theorem Ju (m:Mark):((λ_=>do mark m;pure Extern.Race.none_:Array Value->Sem Value) #[]).run P w=.ok (.tuple #[]) w:=by simp[Extern.Race.none_]
theorem Jt (m:Mark) (es:Array Event):((λ_=>do mark m;pure Extern.Race.none_:Array Value->Sem Value) #[]).events P w es=es.push ⟨.mark m,false,true⟩:=J
theorem Nd (m:Addr->Mark) (a:Addr):(Extern.Race.marked m #[.pointer (some a)]).run P w=.ok (.tuple #[]) w:=by simp[Extern.Race.marked,Extern.Race.at_,Extern.Race.none_]
theorem Nc (m:Addr->Mark) (a:Addr) (es:Array Event):(Extern.Race.marked m #[.pointer (some a)]).events P w es=es.push ⟨.mark (m a),false,true⟩:=by simp[Extern.Race.marked,Extern.Race.at_]
theorem QQ {m:Mark} (b:∀g,m≠Mark.extern g):∀y∈(#[⟨.mark m,false,true⟩]:Array Event),y.sync=true/\∀g,y.loc≠.mark (Mark.extern g):=by
 intro y a;simp at a;subst a;exact⟨rfl,λg h=>b g (by cases h;rfl)⟩
structure WZ (P:Program) (b:Frame) (ops:Array Oper) (i:Nat) (op:Oper) (f:FuncId) (e:Array Value->Sem Value) (args:Array Operand) (env:Ζ) (vs:List Value) (nt:Nat):Prop where
 at_:TJ b ops i op
 TP:Entry P f e
 call:∃LQ,op.op=.call ⟨.value (.func f),args,LQ⟩
 want:XT env ops op=some true
 dst:W2 nt op=true
 LO:LP env args vs
theorem WZ.step {vs:List Value} (h:WZ P b ops i op f e args env vs nt) (c:YJ S B σ env t) {v:Value} {a:Array Event} (d:(e vs.toArray).run P w=.ok v w')
  (j:(e vs.toArray).events P w #[⟨.mark (Mark.extern f),false,true⟩]=#[⟨.mark (Mark.extern f),false,true⟩]++a) (l:∀y∈a,y.sync=true/\∀g,y.loc≠.mark (Mark.extern g)) :
  stepG P mn (Go.Conc.G (υ b t (.inRegion ops (i::rest)::k)) cs) w=.go (Go.Conc.G (υ b (put op t v) (.inRegion ops rest::k)) cs) w' a:=
 let ⟨_,m⟩:=h.call
 Jw h.TP h.at_ (U6 c h.want) m (h.LO.ZS c) d j l
abbrev SF:I:=.z (.tuple #[])
theorem V.disable (c:XW x) (h:WZ P b ops i op f (λ_=>do mark .disable;pure Extern.Race.none_) args env [] nt) (d:V P Q mn (one {x with deaf:=x.deaf+1}) b cs nt o (.inRegion ops rest::k) (Zz op env SF) σ):V P Q mn (one x) b cs nt o (.inRegion ops (i::rest)::k) env σ:=
 λS B H t e a y g=>by
 cases g;exact Goes.step c.ok (.inr ⟨⟨rfl,rfl⟩,.inr (.inl ⟨Go.Conc.G (υ b (put op t (.tuple #[])) (.inRegion ops rest::k)) cs,⟨rfl,rfl⟩,.inl λw _=>
  ⟨h.step a.Zn (Ju .disable) (Jt .disable _) (QQ J),d S B H _ e (a.put h.dst (.z _)) _ rfl⟩⟩)⟩)
theorem V.enable (c:XW x) (hd:0<x.deaf) (h:WZ P b ops i op f (λ_=>do mark .enable;pure Extern.Race.none_) args env [] nt) (d:V P Q mn (one {x with deaf:=x.deaf-1}) b cs nt o (.inRegion ops rest::k) (Zz op env SF) σ):V P Q mn (one x) b cs nt o (.inRegion ops (i::rest)::k) env σ:=
 λS B H t e a y g=>by
 cases g;exact Goes.step c.ok (.inr ⟨⟨rfl,rfl⟩,.inr (.inl ⟨Go.Conc.G (υ b (put op t (.tuple #[])) (.inRegion ops rest::k)) cs,⟨rfl,rfl⟩,.inr ⟨hd,λw _=>
  ⟨h.step a.Zn (Ju .enable) (Jt .enable _) (QQ J),d S B H _ e (a.put h.dst (.z _)) _ rfl⟩⟩⟩)⟩)
theorem V.xf (c:x.rel=false) {s d n p:Nat} {a:Qr} (g:x.tok s=.par n p a) (j:a≠.ZY) (h:WZ P b ops i op f (Extern.Race.marked .read) args env [.pointer (some ⟨s,d,none⟩)] nt) (l:V P Q mn (one x) b cs nt o (.inRegion ops rest::k) (Zz op env SF) σ):V P Q mn (one x) b cs nt o (.inRegion ops (i::rest)::k) env σ:=
 λS B H t m e y r=>by
 cases r;exact Goes.step (XW.ok (.inl c)) (.inr ⟨⟨rfl,rfl⟩,.inr (.inr (.inl ⟨s,n,p,a,Go.Conc.G (υ b (put op t (.tuple #[])) (.inRegion ops rest::k)) cs,d,false,g,j,c,⟨rfl,rfl⟩,λw _=>
  ⟨h.step e.Zn (Nd .read _) (Nc .read _ _) (QQ J),l S B H _ m (e.put h.dst (.z _)) _ rfl⟩⟩))⟩)
theorem V.xe (c:x.rel=false) {s d n p:Nat} {a:Qr} (g:x.tok s=.par n p a) (j:a≠.ZY) (h:WZ P b ops i op f (Extern.Race.marked .write) args env [.pointer (some ⟨s,d,none⟩)] nt) (l:V P Q mn (one x) b cs nt o (.inRegion ops rest::k) (Zz op env SF) σ):V P Q mn (one x) b cs nt o (.inRegion ops (i::rest)::k) env σ:=
 λS B H t m e y r=>by
 cases r;exact Goes.step (XW.ok (.inl c)) (.inr ⟨⟨rfl,rfl⟩,.inr (.inr (.inl ⟨s,n,p,a,Go.Conc.G (υ b (put op t (.tuple #[])) (.inRegion ops rest::k)) cs,d,true,g,j,c,⟨rfl,rfl⟩,λw _=>
  ⟨h.step e.Zn (Nd .write _) (Nc .write _ _) (QQ J),l S B H _ m (e.put h.dst (.z _)) _ rfl⟩⟩))⟩)
theorem V.KJ (a:x.rel=false) (hd:x.deaf=0) {s m n:Nat} {sp:Spec} (d:x.spec s=some sp) (e:sp.ZW=some m) (g:x.tok s=.ch n .own .work) (h:WZ P b ops i op f (Extern.Race.marked .acquire) args env [.pointer (some ⟨m,0,none⟩)] nt)
  (j:∀(S:ο) (B:δ) (H:Ψ) (t:Array Value) (L:List Nat) (E:Ψ),XY o.m o.S o.B o.H o.σ S B H σ->XE o.m nt S B H σ (Zz op env SF) t->sp.X2 L E->Apart H E->(L.Nodup/\n∉L/\∃w,Fits H w/\Fits E w)->
   Zk P Q mn {x with tok:=upd x.tok s (.ch n (.YK L) .work),view:=upd x.view s none} (υ b t (.inRegion ops rest::k)) cs (join H E)):V P Q mn (one x) b cs nt o (.inRegion ops (i::rest)::k) env σ:=
 λS B H t l c y p=>by
 cases p;exact Goes.step (XW.ok (.inl a)) (.inr ⟨⟨rfl,rfl⟩,.inr (.inr (.inr (.inr (.inl ⟨s,sp,m,n,Go.Conc.G (υ b (put op t (.tuple #[])) (.inRegion ops rest::k)) cs,d,e,g,hd,⟨rfl,rfl⟩,a,λw _=>
  h.step c.Zn (Nd .acquire _) (Nc .acquire _ _) (QQ J),λL E r u v=>j S B H _ L E l (c.put h.dst (.z _)) r u v⟩))))⟩)
theorem V.Io (a:x.rel=false) (hd:x.deaf=0) {s m n:Nat} {L:List Nat} {sp:Spec} (d:x.spec s=some sp) (e:sp.ZW=some m) (g:x.tok s=.ch n (.YK L) .work) (h:WZ P b ops i op f (Extern.Race.marked .releaseMerge) args env [.pointer (some ⟨m,0,none⟩)] nt)
  (j:∀(S:ο) (B:δ) (H:Ψ) (t:Array Value),XY o.m o.S o.B o.H o.σ S B H σ->XE o.m nt S B H σ (Zz op env SF) t->∃H' E,Split H H' E/\sp.X2 (L++[n]) E/\
   Zk P Q mn {x with tok:=upd x.tok s (.ch n .fin .work),view:=upd x.view s none} (υ b t (.inRegion ops rest::k)) cs H'):V P Q mn (one x) b cs nt o (.inRegion ops (i::rest)::k) env σ:=
 λS B H t l c y p=>by
 cases p;obtain⟨H',E,r,u,v⟩:=j S B H _ l (c.put h.dst (.z (.tuple #[])));exact Goes.step (XW.ok (.inl a)) (.inr ⟨⟨rfl,rfl⟩,.inr (.inr (.inr (.inr (.inr (.inl ⟨s,sp,m,n,L,Go.Conc.G (υ b (put op t (.tuple #[])) (.inRegion ops rest::k)) cs,H',E,d,e,g,hd,⟨rfl,rfl⟩,a,λw _=>
  h.step c.Zn (Nd .releaseMerge _) (Nc .releaseMerge _ _) (QQ J),r,u,v⟩)))))⟩)
theorem V.KI (j:x.rel=false) (hd:x.deaf=0) {s n:Nat} {d:Qr} {sp:Spec} (p:x.spec s=some sp) (r:x.tok s=.par n 0 d) (u:d=.SX\/d=.w4) (h:WZ P b ops i op f (Extern.Race.marked .acquire) args env [.pointer (some ⟨s,0,none⟩)] nt)
  (v:∀(S:ο) (B:δ) (H:Ψ) (t:Array Value) (e g:List Nat) (c a:Ψ),XY o.m o.S o.B o.H o.σ S B H σ->XE o.m nt S B H σ (Zz op env SF) t->
   e.Perm (List.range n)->Ul sp.D e c->(sp.ZW≠none->g.Perm (List.range n)/\sp.X2 g a)->(sp.ZW=none->a=Ψ.empty)->Apart H c->Apart H a->Apart c a->(∃w,Fits H w/\Fits c w/\Fits a w)->
   Zk P Q mn {x with tok:=upd x.tok s (.par n 0 .ZY),view:=upd x.view s none} (υ b t (.inRegion ops rest::k)) cs (join (join H c) a)):V P Q mn (one x) b cs nt o (.inRegion ops (i::rest)::k) env σ:=
 λS B H t A l y C=>by
 cases C;exact Goes.step (XW.ok (.inl j)) (.inr ⟨⟨rfl,rfl⟩,.inr (.inr (.inr (.inr (.inr (.inr (.inr (.inl ⟨s,sp,n,d,Go.Conc.G (υ b (put op t (.tuple #[])) (.inRegion ops rest::k)) cs,p,r,u,hd,⟨rfl,rfl⟩,j,λw _=>
  h.step l.Zn (Nd .acquire _) (Nc .acquire _ _) (QQ J),λe g c a E F I K L M N O=>v S B H _ e g c a A (l.put h.dst (.z _)) E F I K L M N O⟩)))))))⟩)
theorem V.atomic (A:XW x) {s:Nat} {sp:Spec} (C:x.spec s=some sp) (D:¬Xn (x.tok s)) (hd:W2 nt op=true) (E:XT env ops op=some true)
  (h:∀(t:Array Value) (w:World) (φ:Nat) (a:η),(∀y u,κ env y=.z u->ZS t y=u)->(∀(as9:Array Operand) (vs:List Value),LP env as9 vs->as9.map (ZS t)=vs.toArray)->Region.wanted op (yielded ops t)=true->a.toSpec=sp->At s a w->Ix x s φ a->OJ a (x.tok s)->
   (∃v w' e,stepG P mn (Go.Conc.G (υ b t (.inRegion ops (i::rest)::k)) cs) w=.go (Go.Conc.G (υ b (put op t v) (.inRegion ops rest::k)) cs) w' e/\Xy (λF _=>Yj s sp F) (λ_=>False) w w'/\Sr s sp x.deaf e/\
    ((At s a w'/\V P Q mn (one {x with view:=upd x.view s (some (φ,a))}) b cs nt o (.inRegion ops rest::k) (Zz op env (.z v)) σ)\/
     ∃o' t',Act a (x.tok s) o' t'/\At s o' w'/\(mayWake P (Go.Conc.G (υ b t (.inRegion ops (i::rest)::k)) cs)=true\/o'=a)/\∀d,d<φ->V P Q mn (one {x with tok:=upd x.tok s t',view:=upd x.view s (some (d,o'))}) b cs nt o (.inRegion ops rest::k) (Zz op env (.z v)) σ))\/
   (U7 a (x.tok s)/\(∀p,p≠s->Tl (x.tok p))/\stepG P mn (Go.Conc.G (υ b t (.inRegion ops (i::rest)::k)) cs) w=.go {Go.Conc.G (υ b t (.inRegion ops (i::rest)::k)) cs with status:=.blocked} w #[])) :
  V P Q mn (one x) b cs nt o (.inRegion ops (i::rest)::k) env σ:=by
 intro S B H t r c y f;cases f;refine Goes.step A.ok (.inr ⟨⟨rfl,rfl⟩,.inr (.inr (.inr (.inl ⟨s,sp,C,D,λw φ a U hv I J K L=>?_⟩)))⟩);rcases h t w φ a (λy u f=>Jv c.Zn f) (λas9 vs M=>M.ZS c.Zn) (U6 c.Zn E) I J K L with⟨v,w',e,g,j,l,N⟩|⟨g,j,l⟩
 .refine .inl ?_;rw[g];refine⟨⟨rfl,rfl⟩,j,l,?_⟩;rcases N with⟨m,n⟩|⟨o',t',m,n,O,R⟩
  .exact .inl ⟨m,n S B H _ r (c.put hd (.z _)) _ rfl⟩
  .exact .inr ⟨o',t',m,n,O,λd T=>R d T S B H _ r (c.put hd (.z _)) _ rfl⟩
 .exact .inr ⟨g,j,l⟩
theorem DR {b h:Nat} {c:Array Value} {k:TypeId} (f:w.heap[b]?=some (.cells c k (0,0))) (v:Value) {j:Nat->Nat->Prop} (l:∀o,j b o):Xy j (λ_=>False) w (w.setCell ⟨b,h,none⟩ v):=by
 have g:=heap_setCell (w:=w) (a:=⟨b,h,none⟩) (v:=v) rfl f
 have m:=Xx f
 have n:(w.setCell ⟨b,h,none⟩ v).os=w.os:=rfl;refine⟨by rw[g];simp,λi c' t' s d=>?_,λi y d p _=>?_,by rw[n];exact OsLater.refl _,rfl,rfl⟩
 .by_cases e:i=b
  .subst e;rw[f] at d;cases d;exact⟨_,by rw[g,Tv m],J,λo' r=>absurd (l o') r⟩
  .exact⟨c',by rw[g,UT (YZ e)];exact d,rfl,λ_ _=>rfl⟩
 .have e:b≠i:=λe=>by subst e;rw[f] at d;cases d;cases p
  rw[g,UT e];exact d
section
variable {s m:Nat} {Xz o':η}
theorem At.ne (h:At s Xz w) (b:Xz.ZW=some m):m≠s:=λe=>by
 obtain⟨⟨f,c⟩,d⟩:=h;obtain⟨g,a⟩:=d m b;subst e;rw[c] at a;simp at a
theorem At.mu (h:At s Xz w) (a:Xz.ZW=some m):∃b,w.heap[m]?=some (.cells #[.int .i32 (mwd Xz),.int .u32 Xz.YF] b (0,0)):=h.2 m a
theorem At.Rw (h:At s Xz w) (a:Xz.ZW=some m):w.cell? ⟨m,0,none⟩=some (.int .i32 (mwd Xz)):=let ⟨_,b⟩:=h.mu a;SZ b rfl
theorem At.DQ (h:At s Xz w) (a:Xz.ZW=some m):w.cell? ⟨m,1,none⟩=some (.int .u32 Xz.YF):=let ⟨_,b⟩:=h.mu a;SZ b rfl
theorem At.Tk (h:At s Xz w):w.cell? ⟨s,0,none⟩=some (.int .u64 (Y8 Xz)):=let ⟨_,a⟩:=h.1;SZ a rfl
theorem At.Js (h:At s Xz w):w.cell? ⟨s,1,none⟩=some (.int .u32 Xz.YY):=let ⟨_,a⟩:=h.1;SZ a rfl
theorem DO {a b:Nat} {c:Array Value} {d:TypeId} (e:w.heap[a]?=some (.cells c d (0,0))):w.frozen? ⟨a,b,none⟩=false:=by
 simp[World.frozen?,e]
theorem At.Nb (h:At s Xz w) (a:Xz.ZW=some m) (b:Nat):w.frozen? ⟨m,b,none⟩=false:=let ⟨_,c⟩:=h.mu a;DO c
theorem At.Pa (h:At s Xz w) (a:Nat):w.frozen? ⟨s,a,none⟩=false:=let ⟨_,b⟩:=h.1;DO b
theorem At.Jr (h:At s Xz w) (b:Xz.ZW=some m) (g:o'.ZW=Xz.ZW) (i:Y8 o'=Y8 Xz) (j:o'.YY=Xz.YY) {c:Nat} {v:Value} (hv:(#[.int .i32 (mwd Xz),.int .u32 Xz.YF]:Array Value).setIfInBounds c v=#[.int .i32 (mwd o'),.int .u32 o'.YF]):At s o' (w.setCell ⟨m,c,none⟩ v):=by
 have k:=h.ne b;obtain⟨l,d⟩:=h.mu b;obtain⟨⟨n,o⟩,p⟩:=h;have e:=heap_setCell (w:=w) (a:=⟨m,c,none⟩) (v:=v) rfl d;refine⟨⟨n,?_⟩,λr f=>⟨l,?_⟩⟩
 .rw[e,UT k,i,j];exact o
 .rw[g,b] at f;cases f;rw[e,Tv (Xx d),hv]
theorem At.Na (h:At s Xz w) (g:o'.ZW=Xz.ZW) (i:mwd o'=mwd Xz) (j:o'.YF=Xz.YF) {b:Nat} {v:Value} (hv:(#[.int .u64 (Y8 Xz),.int .u32 Xz.YY]:Array Value).setIfInBounds b v=#[.int .u64 (Y8 o'),.int .u32 o'.YY]):At s o' (w.setCell ⟨s,b,none⟩ v):=by
 have k:=λm l=>h.ne (m:=m) l;obtain⟨⟨n,d⟩,o⟩:=h;have e:=heap_setCell (w:=w) (a:=⟨s,b,none⟩) (v:=v) rfl d;refine⟨⟨n,?_⟩,λf c=>?_⟩
 .rw[e,Tv (Xx d),hv]
 .rw[g] at c;obtain⟨p,r⟩:=o f c;exact⟨p,by rw[e,UT (YZ (k f c)),i,j];exact r⟩
theorem At.Jq (h:At s Xz w) (a:Xz.ZW=some m) {sp:Spec} (b:sp.ZW=some m) {c:Nat} (v:Value):Xy (λd _=>Yj s sp d) (λ_=>False) w (w.setCell ⟨m,c,none⟩ v):=
 let ⟨_,e⟩:=h.mu a;DR e v λ_=>.inr b
theorem At.M' (h:At s Xz w) {sp:Spec} {a:Nat} (v:Value):Xy (λb _=>Yj s sp b) (λ_=>False) w (w.setCell ⟨s,a,none⟩ v):=
 let ⟨_,c⟩:=h.1;DR c v λ_=>.inl rfl
end
theorem DN {s d:Nat} {sp:Spec}:Sr s sp d #[]:=⟨rfl,λj e h=>by simp at h⟩
theorem QP {s b e d:Nat} {sp:Spec} {es:Array Event} (i:Yj s sp b) (hd:0<d) (f:∀y∈es,y.loc=.cell ⟨b,e,none⟩/\y.sync=true):Sr s sp d es:=by
 have g:∀(es:Array Event),(∀y∈es,y.loc=.cell ⟨b,e,none⟩/\y.sync=true)->deafBehind d es=d:=by
  intro es;obtain⟨l⟩:=es;intro h;unfold deafBehind;simp only[List.foldl_toArray']
  induction l with
  | nil=>rfl
  | cons y l k=>
   simp only[List.foldl_cons];have:=h y J;rw[this.1];exact k λz a=>h z (by simp at a ⊢;exact .inr a)
 refine⟨g es f,λj y m=>.inr (.inr ⟨b,e,y.write,?_,i,?_⟩)⟩
 .have:=f y (Array.mem_of_getElem? m);obtain⟨l,w1,n⟩:=y;simp only at this;rw[this.1,this.2]
 .rw[g]
  .exact hd
  .intro z a;exact f z (by
    rw[Lf] at a ⊢;obtain⟨q,c⟩:=a;rw[Array.getElem?_extract] at c;split at c
    .exact⟨_,c⟩
    .cases c)
end
end Go.TL
namespace Go.TL
open Go.Proofs.Tryz
open Go.Conc
open Go.ConcM (OsLater)
open Go.ConcN (sumTo upd sumTo_upd upd_ne upd_same sumTo_congr le_sumTo)
variable [ZV]
section
variable {P:Program} {Q:Value->Prop} {mn:Bool} {x:Z4} {b:Frame} {cs:List Frame} {nt:Nat} {o:Base} {k:List Item} {env:Ζ} {σ:Τ}
variable {ops:Array Oper} {i:Nat} {rest:List Nat} {op:Oper} {f:FuncId} {e:Array Value->Sem Value} {args:Array Operand} {vs:List Value}
def We (P:Program) (Q:Value->Prop) (mn:Bool) (x:Z4) (b:Frame) (cs:List Frame) (nt:Nat) (o:Base) (ops:Array Oper) (rest:List Nat) (k:List Item) (op:Oper) (env:Ζ) (σ:Τ) (s φ:Nat) (a:η) (v:Value):Prop:=
 V P Q mn (one {x with view:=upd x.view s (some (φ,a))}) b cs nt o (.inRegion ops rest::k) (Zz op env (.z v)) σ
def Rv (P:Program) (Q:Value->Prop) (mn:Bool) (x:Z4) (b:Frame) (cs:List Frame) (nt:Nat) (o:Base) (ops:Array Oper) (rest:List Nat) (k:List Item) (op:Oper) (env:Ζ) (σ:Τ) (s φ:Nat) (c:η) (v:Value) (o':η) (t':Tok):Prop:=
 Act c (x.tok s) o' t'/\∀a,a<φ->V P Q mn (one {x with tok:=upd x.tok s t',view:=upd x.view s (some (a,o'))}) b cs nt o (.inRegion ops rest::k) (Zz op env (.z v)) σ
structure Seen (x:Z4) (s:Nat) (sp:Spec) (φ:Nat) (a:η):Prop where
 spec:a.toSpec=sp
 view:Ix x s φ a
 Vw:OJ a (x.tok s)
theorem V.ext (u:XW x) {s:Nat} {sp:Spec} (A:x.spec s=some sp) (B:¬Xn (x.tok s)) (h:WZ P b ops i op f e args env vs nt)
  (C:∀(w:World) (φ:Nat) (a:η),Seen x s sp φ a->At s a w->
   (∃v w' c,(e vs.toArray).run P w=.ok v w'/\(e vs.toArray).events P w #[⟨.mark (Mark.extern f),false,true⟩]=#[⟨.mark (Mark.extern f),false,true⟩]++c/\(∀y∈c,y.sync=true/\∀g,y.loc≠.mark (Mark.extern g))/\
    Xy (λD _=>Yj s sp D) (λ_=>False) w w'/\Sr s sp x.deaf c/\
    ((At s a w'/\We P Q mn x b cs nt o ops rest k op env σ s φ a v)\/∃o' t',At s o' w'/\Rv P Q mn x b cs nt o ops rest k op env σ s φ a v o' t'))\/
   (U7 a (x.tok s)/\(∀n,n≠s->Tl (x.tok n))/\(e vs.toArray).run P w=.halt .blocked w)) :
  V P Q mn (one x) b cs nt o (.inRegion ops (i::rest)::k) env σ:=by
 obtain⟨R,d⟩:=h.call;refine .atomic u A B h.dst h.want λt w φ a _ p r E F H I=>?_;rcases C w φ a ⟨E,H,I⟩ F with⟨v,w',c,j,l,m,J,K,L⟩|⟨j,l,m⟩
 .refine .inl ⟨v,w',c,Jw h.TP h.at_ r d (p _ _ h.LO) j l m,J,K,L.imp id λ⟨o',t',M,N,O⟩=>⟨o',t',N,M,.inl (DS h.TP h.at_ d),O⟩⟩
 .exact .inr ⟨j,l,xg h.TP h.at_ r d (p _ _ h.LO) m⟩
theorem QO (a:Addr):∀y∈(#[⟨.cell a,false,true⟩,⟨.cell a,true,true⟩]:Array Event),y.loc=.cell a/\y.sync=true:=by
 intro y b;simp at b;rcases b with rfl|rfl<;>exact⟨rfl,rfl⟩
theorem QN (a:Addr) (wr:Bool):∀y∈(#[⟨.cell a,wr,true⟩]:Array Event),y.loc=.cell a/\y.sync=true:=by
 intro y b;simp at b;subst b;exact⟨rfl,rfl⟩
theorem QM {b:Addr} {es:Array Event} (h:∀y∈es,y.loc=.cell b/\y.sync=true):∀y∈es,y.sync=true/\∀g,y.loc≠.mark (Mark.extern g):=λy a=>⟨(h y a).2,λg e=>by rw[(h y a).1] at e;cases e⟩
structure M9 (a o':η):Prop where
 ZW:o'.ZW=a.ZW
 g:Y8 o'=Y8 a
 w:o'.YY=a.YY
structure QL (a o':η):Prop where
 ZW:o'.ZW=a.ZW
 g:mwd o'=mwd a
 w:o'.YF=a.YF
section
variable {s m:Nat} {sp:Spec} (X0:XW x) (hd:0<x.deaf) (VY:x.spec s=some sp) (VX:¬Xn (x.tok s))
include X0 hd VY VX
theorem V.Jp (d:sp.ZW=some m) {e t:Int} (h:WZ P b ops i op f (Extern.Atomic.casT (.int .i32)) args env [.pointer (some ⟨m,0,none⟩),.int .i32 e,.int .i32 t] nt)
  (u:∀φ a,Seen x s sp φ a->¬mwd a=e->We P Q mn x b cs nt o ops rest k op env σ s φ a (.bool false)\/∃t',Rv P Q mn x b cs nt o ops rest k op env σ s φ a (.bool false) a t')
  (v:∀φ a,Seen x s sp φ a->mwd a=e->∃o' t',mwd o'=t/\o'.YF=a.YF/\M9 a o'/\Rv P Q mn x b cs nt o ops rest k op env σ s φ a (.bool true) o' t') :
  V P Q mn (one x) b cs nt o (.inRegion ops (i::rest)::k) env σ:=by
 refine .ext X0 VY VX h λw φ a p c=>.inl ?_;have j:a.ZW=some m:=by rw[p.spec];exact d
 have l:=c.Rw j
 have n:=c.Nb j 0;by_cases hv:mwd a=e
 .obtain⟨o',t',y,A,r,B⟩:=v φ a p hv;subst hv;refine⟨.bool true,_,_,(congrArg (Sem.run P · w) (casT_eq _ _)).trans (run_cas_hit_entry l n),?_,QM (QO ⟨m,0,none⟩),c.Jq j d _,QP (.inr d) hd (QO ⟨m,0,none⟩),.inr ⟨o',t',c.Jr j r.ZW r.g r.w ?_,B⟩⟩
  .exact(congrArg (Sem.events P · w _) (casT_eq _ _)).trans ((events_cas_hit_entry l n _).trans rfl)
  .rw[y,A];rfl
 .refine⟨.bool false,w,_,(congrArg (Sem.run P · w) (casT_eq _ _)).trans (run_cas_miss_entry l n hv),?_,QM (QN ⟨m,0,none⟩ false),Xy.refl _ _ _,QP (.inr d) hd (QN ⟨m,0,none⟩ false),?_⟩
  .exact(congrArg (Sem.events P · w _) (casT_eq _ _)).trans ((events_cas_miss_entry l n hv _).trans rfl)
  .exact(u φ a p hv).imp (λh=>⟨c,h⟩) λ⟨t',h⟩=>⟨a,t',c,h⟩
theorem V.DL (j:sp.ZW=some m) {d:Int} (h:WZ P b ops i op f (Extern.Atomic.update (Op.intArith .add) .i32 true) args env [.pointer (some ⟨m,0,none⟩),.int .i32 d] nt)
  (v:∀φ a,Seen x s sp φ a->∃o' t',mwd o'=IntKind.i32.wrap (mwd a+d)/\o'.YF=a.YF/\M9 a o'/\Rv P Q mn x b cs nt o ops rest k op env σ s φ a (.int .i32 (mwd o')) o' t') :
  V P Q mn (one x) b cs nt o (.inRegion ops (i::rest)::k) env σ:=by
 refine .ext X0 VY VX h λw φ a n c=>.inl ?_;have e:a.ZW=some m:=by rw[n.spec];exact j
 have p:=c.Rw e
 have r:=c.Nb e 0;obtain⟨o',t',t,y,l,u⟩:=v φ a n;rw[t] at u;refine⟨_,_,_,run_add_entry p r,(events_add_entry p r _).trans rfl,QM (QO ⟨m,0,none⟩),c.Jq e j _,QP (.inr j) hd (QO ⟨m,0,none⟩),.inr ⟨o',t',c.Jr e l.ZW l.g l.w ?_,u⟩⟩;rw[t,y];rfl
theorem V.Ht (h:WZ P b ops i op f (Extern.Atomic.loadT (.int .u64)) args env [.pointer (some ⟨s,0,none⟩)] nt)
  (e:∀φ a,Seen x s sp φ a->We P Q mn x b cs nt o ops rest k op env σ s φ a (.int .u64 (Y8 a))\/∃t',Rv P Q mn x b cs nt o ops rest k op env σ s φ a (.int .u64 (Y8 a)) a t') :
  V P Q mn (one x) b cs nt o (.inRegion ops (i::rest)::k) env σ:=by
 refine .ext X0 VY VX h λw φ a g c=>.inl ?_;have d:=c.Tk;refine⟨.int .u64 (Y8 a),w,#[⟨.cell ⟨s,0,none⟩,false,true⟩],?_,?_,QM (QN _ false),Xy.refl _ _ _,QP (.inl rfl) hd (QN _ false),(e φ a g).imp (λh=>⟨c,h⟩) λ⟨t',h⟩=>⟨a,t',c,h⟩⟩
 .change Sem.run P (do Extern.Atomic.read (.int .u64) (<-asAddr (.pointer (some _)))) w=_;simp[Extern.Atomic.read,asAddr,d]
 .change Sem.events P (do Extern.Atomic.read (.int .u64) (<-asAddr (.pointer (some _)))) w _=_;simp[Extern.Atomic.read,asAddr,d,events_load]
theorem V.xd {d m:Int} (h:WZ P b ops i op f (Extern.Atomic.casT (.int .u64)) args env [.pointer (some ⟨s,0,none⟩),.int .u64 d,.int .u64 m] nt)
  (p:∀φ a,Seen x s sp φ a->¬Y8 a=d->We P Q mn x b cs nt o ops rest k op env σ s φ a (.bool false))
  (r:∀φ a,Seen x s sp φ a->Y8 a=d->∃o' t',Y8 o'=m/\o'.YY=a.YY/\QL a o'/\Rv P Q mn x b cs nt o ops rest k op env σ s φ a (.bool true) o' t') :
  V P Q mn (one x) b cs nt o (.inRegion ops (i::rest)::k) env σ:=by
 refine .ext X0 VY VX h λw φ a n c=>.inl ?_;have e:=c.Tk;have j:=c.Pa 0;by_cases hv:Y8 a=d
 .obtain⟨o',t',t,u,l,v⟩:=r φ a n hv;subst hv;refine⟨.bool true,_,_,(congrArg (Sem.run P · w) (casT_eq _ _)).trans (run_cas_hit_entry e j),?_,QM (QO ⟨s,0,none⟩),c.M' _,QP (.inl rfl) hd (QO ⟨s,0,none⟩),.inr ⟨o',t',c.Na l.ZW l.g l.w ?_,v⟩⟩
  .exact(congrArg (Sem.events P · w _) (casT_eq _ _)).trans ((events_cas_hit_entry e j _).trans rfl)
  .rw[t,u];rfl
 .refine⟨.bool false,w,_,(congrArg (Sem.run P · w) (casT_eq _ _)).trans (run_cas_miss_entry e j hv),?_,QM (QN ⟨s,0,none⟩ false),Xy.refl _ _ _,QP (.inl rfl) hd (QN ⟨s,0,none⟩ false),.inl ⟨c,p φ a n hv⟩⟩;exact(congrArg (Sem.events P · w _) (casT_eq _ _)).trans ((events_cas_miss_entry e j hv _).trans rfl)
theorem V.Hs {d:Int} (h:WZ P b ops i op f (Extern.Atomic.update (Op.intArith .add) .u64 true) args env [.pointer (some ⟨s,0,none⟩),.int .u64 d] nt)
  (p:∀φ a,Seen x s sp φ a->∃o' t',Y8 o'=IntKind.u64.wrap (Y8 a+d)/\o'.YY=a.YY/\QL a o'/\Rv P Q mn x b cs nt o ops rest k op env σ s φ a (.int .u64 (Y8 o')) o' t') :
  V P Q mn (one x) b cs nt o (.inRegion ops (i::rest)::k) env σ:=by
 refine .ext X0 VY VX h λw φ a r c=>.inl ?_;have j:=c.Tk;have l:=c.Pa 0;obtain⟨o',t',m,t,e,n⟩:=p φ a r;rw[m] at n;refine⟨_,_,_,run_add_entry j l,(events_add_entry j l _).trans rfl,QM (QO ⟨s,0,none⟩),c.M' _,QP (.inl rfl) hd (QO ⟨s,0,none⟩),.inr ⟨o',t',c.Na e.ZW e.g e.w ?_,n⟩⟩;rw[m,t];rfl
end
theorem DK {w:World} {a:Addr} {n:Int} {vs:List Value} (b:vs[0]?=some (.pointer (some a))) (c:w.cell? a=some (.int .u32 n)) (d:n≠0) (e:w.frozen? a=false):(Extern.Sync.semacquire vs.toArray).run P w=.ok (.tuple #[]) (w.setCell a (.int .u32 (n-1))):=by
 simp[Extern.Sync.semacquire,Extern.Sync.count,b,c,d,e,Extern.Sync.none_,run_store P w a (.int .u32 (n-1)) .atomic rfl,Result.andThen]
theorem DJ {w:World} {a:Addr} {n:Int} {vs:List Value} (b:vs[0]?=some (.pointer (some a))) (c:w.cell? a=some (.int .u32 n)) (d:n≠0) (e:w.frozen? a=false) (es:Array Event):(Extern.Sync.semacquire vs.toArray).events P w es=es++semEvents a:=by
 simp[Extern.Sync.semacquire,Extern.Sync.count,b,c,d,e,semEvents,events_load,events_store P w _ a (.int .u32 (n-1)) .atomic rfl,run_store P w a (.int .u32 (n-1)) .atomic rfl,Result.evThen];apply NP;simp
theorem DI {w:World} {a:Addr} {vs:List Value} (b:vs[0]?=some (.pointer (some a))) (c:w.cell? a=some (.int .u32 0)):(Extern.Sync.semacquire vs.toArray).run P w=.halt .blocked w:=by
 simp[Extern.Sync.semacquire,Extern.Sync.count,b,c]
theorem DH {w:World} {a:Addr} {n:Int} {vs:List Value} (b:vs[0]?=some (.pointer (some a))) (c:w.cell? a=some (.int .u32 n)) (d:w.frozen? a=false):(Extern.Sync.semrelease vs.toArray).run P w=.ok (.tuple #[]) (w.setCell a (.int .u32 (IntKind.u32.wrap (n+1)))):=by
 simp[Extern.Sync.semrelease,Extern.Sync.count,b,c,d,Extern.Sync.none_,Op.intArith,run_store P w a (.int .u32 (IntKind.u32.wrap (n+1))) .atomic rfl,Result.andThen]
theorem DG {w:World} {a:Addr} {n:Int} {vs:List Value} (b:vs[0]?=some (.pointer (some a))) (c:w.cell? a=some (.int .u32 n)) (d:w.frozen? a=false) (es:Array Event):(Extern.Sync.semrelease vs.toArray).events P w es=es++semEvents a:=by
 simp[Extern.Sync.semrelease,Extern.Sync.count,b,c,d,semEvents,Op.intArith,events_load,events_store P w _ a (.int .u32 (IntKind.u32.wrap (n+1))) .atomic rfl,run_store P w a (.int .u32 (IntKind.u32.wrap (n+1))) .atomic rfl,Result.evThen];apply NP;simp
theorem Jo {s b c d:Nat} {sp:Spec} (e:Yj s sp b):Sr s sp d (semEvents ⟨b,c,none⟩):=by
 refine⟨by simp[deafBehind,semEvents],λj y a=>?_⟩
 match j,a with
 | 0,a=>simp[semEvents] at a;subst a;exact .inl rfl
 | 1,a=>simp[semEvents] at a;subst a;exact .inr (.inr ⟨b,c,false,rfl,e,by simp[semEvents,deafBehind]⟩)
 | 2,a=>simp[semEvents] at a;subst a;exact .inr (.inr ⟨b,c,true,rfl,e,by simp[semEvents,deafBehind]⟩)
 | 3,a=>simp[semEvents] at a;subst a;exact .inr (.inl rfl)
 | j+4,a=>simp[semEvents] at a
section
variable {s m:Nat} {sp:Spec} (X0:XW x) (VY:x.spec s=some sp) (VX:¬Xn (x.tok s))
include X0 VY VX
theorem V.xc (e:sp.ZW=some m) (j:vs[0]?=some (.pointer (some ⟨m,1,none⟩))) (u:∀r,r≠s->Tl (x.tok r)) (h:WZ P b ops i op f Extern.Sync.semacquire args env vs nt)
  (v:∀φ a,Seen x s sp φ a->a.YF=0->U7 a (x.tok s))
  (y:∀φ a,Seen x s sp φ a->0<a.YF->∃o' t',mwd o'=mwd a/\o'.YF=a.YF-1/\M9 a o'/\Rv P Q mn x b cs nt o ops rest k op env σ s φ a (.tuple #[]) o' t') :
  V P Q mn (one x) b cs nt o (.inRegion ops (i::rest)::k) env σ:=by
 refine .ext X0 VY VX h λw φ a l c=>?_;have d:a.ZW=some m:=by rw[l.spec];exact e
 have n:=c.DQ d;by_cases hv:a.YF=0
 .exact .inr ⟨v φ a l hv,u,DI j (by rw[n,hv];rfl)⟩
 .obtain⟨o',t',A,B,p,C⟩:=y φ a l U;have t:((a.YF:Nat):Int)≠0:=U;refine .inl ⟨_,_,_,DK j n t (c.Nb d 1),DJ j n t (c.Nb d 1) _,semEvents_sync _,c.Jq d e _,Jo (.inr e),.inr ⟨o',t',c.Jr d p.ZW p.g p.w ?_,C⟩⟩;rw[A,B,show((a.YF:Nat):Int)-1=((a.YF-1:Nat):Int) by omega];rfl
theorem V.xb (d:vs[0]?=some (.pointer (some ⟨s,1,none⟩))) (p:∀l,l≠s->Tl (x.tok l)) (h:WZ P b ops i op f Extern.Sync.semacquire args env vs nt)
  (r:∀φ a,Seen x s sp φ a->a.YY=0->U7 a (x.tok s))
  (t:∀φ a,Seen x s sp φ a->0<a.YY->∃o' t',Y8 o'=Y8 a/\o'.YY=a.YY-1/\QL a o'/\Rv P Q mn x b cs nt o ops rest k op env σ s φ a (.tuple #[]) o' t') :
  V P Q mn (one x) b cs nt o (.inRegion ops (i::rest)::k) env σ:=by
 refine .ext X0 VY VX h λw φ a m c=>?_;have e:=c.Js;by_cases hv:a.YY=0
 .exact .inr ⟨r φ a m hv,p,DI d (by rw[e,hv];rfl)⟩
 .obtain⟨o',t',u,v,j,y⟩:=t φ a m U;have n:((a.YY:Nat):Int)≠0:=U;refine .inl ⟨_,_,_,DK d e n (c.Pa 1),DJ d e n (c.Pa 1) _,semEvents_sync _,c.M' _,Jo (.inl rfl),.inr ⟨o',t',c.Na j.ZW j.g j.w ?_,y⟩⟩;rw[u,v,show((a.YY:Nat):Int)-1=((a.YY-1:Nat):Int) by omega];rfl
theorem V.DF (e:sp.ZW=some m) (l:vs[0]?=some (.pointer (some ⟨m,1,none⟩))) (h:WZ P b ops i op f Extern.Sync.semrelease args env vs nt)
  (r:∀φ a,Seen x s sp φ a->a.YF<1000/\∃o' t',mwd o'=mwd a/\o'.YF=a.YF+1/\M9 a o'/\Rv P Q mn x b cs nt o ops rest k op env σ s φ a (.tuple #[]) o' t') :
  V P Q mn (one x) b cs nt o (.inRegion ops (i::rest)::k) env σ:=by
 refine .ext X0 VY VX h λw φ a n c=>.inl ?_;have d:a.ZW=some m:=by rw[n.spec];exact e
 have p:=c.DQ d;obtain⟨y,o',t',t,u,j,v⟩:=r φ a n;refine⟨_,_,_,DH l p (c.Nb d 1),DG l p (c.Nb d 1) _,semEvents_sync _,c.Jq d e _,Jo (.inr e),.inr ⟨o',t',c.Jr d j.ZW j.g j.w ?_,v⟩⟩;rw[t,u,show IntKind.u32.wrap (((a.YF:Nat):Int)+1)=((a.YF+1:Nat):Int) by simp only[IntKind.wrap_u32];omega];rfl
end
end
end Go.TL
namespace Go.TL
open Go.Proofs.Tryz
open Go.Conc
open Go.ConcM (OsLater)
open Go.ConcN (sumTo upd sumTo_upd upd_ne upd_same sumTo_congr le_sumTo)
open Go.ConcR (mk)
variable [ZV]
section
variable {P:Program} {T:ZZ} {Q:Value->Prop} {mn:Bool} {x:Z4} {z:W3} {b:Frame} {cs:List Frame} {nt:Nat} {o:Base} {k:List Item} {env:Ζ} {σ:Τ}
variable {ops:Array Oper} {i:Nat} {rest:List Nat} {op:Oper} {f:FuncId} {e:Array Value->Sem Value} {args:Array Operand} {vs:List Value} {fn:Func}
theorem TI {S:ο} {B:δ} {l:List Value} {vs:Array Value} (h:XN S B σ (l.map I.z) vs):vs=l.toArray:=by
 apply NP;apply RU;intro i;have a:=h.1;rw[Yh] at a;by_cases hi:i<l.length
 .have b:(l.map I.z)[i]?=some (.z l[i]):=by rw[Yl,ζ hi];rfl
  have Φ:vs[i]?=some vs[i]:=XQ U
  have:=h.2 i _ _ b Φ
  have:vs[i]=l[i]:=by generalize vs[i]=u at this;cases this;rfl
  rw[Wn,Φ,this];simp[hi]
 .rw[Wn,NY U];simp;omega
theorem V.call (n:Seq z) (j:TJ b ops i op) (p:XT env ops op=some true) {y:Operand} {r:Array TypeId} (l:op.op=.call ⟨.value y,args,r⟩) {g:FuncId} {first captured:ξ} (s:κ env y=.fn (.func g) first captured) (u:Plain P g)
  (h:∀(S:ο) (B:δ) (H:Ψ) (t:Array Value) (vs:Array Value),XY o.m o.S o.B o.H o.σ S B H σ->XE o.m nt S B H σ env t->XN S B σ (first++args.toList.map (κ env)++captured) vs->
   θ P Q mn z (Frame.enter P g vs .normal) (υ b t (.inRegion ops (i::rest)::k)::cs) H):V P Q mn z b cs nt o (.inRegion ops (i::rest)::k) env σ:=by
 intro S B H t v a;refine .op n j.run j.op (U6 a.Zn p) (.inr λc=>by rw[l];simp) ?_;have e:execOp (ZS t) op=(do let d <-Deferred.ofValue (ZS t y) (args.map (ZS t));invoke d.target d.args):=by unfold execOp;rw[l];rfl
 rw[e];have f:=Uh a.Zn y;have w:=HE a.Zn args;rw[s] at f;generalize ZS t y=N at f;cases f with
 | fn x A C D E F=>
  refine Ω.bind' (Ω.pure' ?_);obtain⟨fn,I,J,K⟩:=u;unfold invoke;simp only;unfold callFunc;refine Ω.bind' ?_;show Ω P (match P.funcs[g]? with|none=>_|some fn=>_) H _ _;rw[I];simp only[J,K,Xo,if_false];refine Ω.pure' ?_;have L:XN S B σ first x:=⟨C,E⟩
  have M:XN S B σ captured A:=⟨D,F⟩;exact h S B H t _ v a ((L.append w).append M)
theorem V.Ru {g:FuncId} {body:Code} (e:P.funcs[g]?=some fn) (f:fn.body=some body) {c:Frame} {S:ο} {B:δ} {H:Ψ} (j:Holds S B σ H) (k:vs.length<=fn.ntmps)
  (h:V P Q mn z (Frame.enter P g vs.toArray .normal) (c::cs) fn.ntmps ⟨S,[],H,[],0⟩ [.code body] (entry 0 (vs.map I.z)) []):θ P Q mn z (Frame.enter P g vs.toArray .normal) (c::cs) H:=by
 rw[Sa e f];refine h.here (XE.enter j.bare ⟨J,λi a v b d=>?_⟩ (Z5 _) (by simpa using k));simp only[Yl,List.getElem?_toArray] at b d;rw[d] at b;cases b;exact .z v
theorem V.Hr (a:Seq z) (d:b.mode=.run) (e:b.roundOf=none) (f:b.defers=[]) (g:b.kind=.normal) (i:P.funcs[b.fn]?=some fn) (j:fn.results=#[]) {c:Frame}
  (h:∀(S:ο) (B:δ) (H:Ψ),XY o.m o.S o.B o.H o.σ S B H σ->Holds S B σ H->θ P Q mn z (c.finish (.tuple #[])) cs H):V P Q mn z b (c::cs) nt o (.code .ret::k) env σ:=by
 intro S B H t l n;refine .ret a d e (.back a rfl f (.inl g) i ?_);rw[results_none j];exact Ω.pure' (h S B H l n.holds)
theorem V.Jn (a:Seq z) (d:b.mode=.run) (e:b.roundOf=none) (f:b.defers=[]) (g:b.kind=.normal) (i:P.funcs[b.fn]?=some fn) (j:fn.results=#[]) {c:Frame}
  (h:∀(S:ο) (B:δ) (H:Ψ),XY o.m o.S o.B o.H o.σ S B H σ->Holds S B σ H->θ P Q mn z (c.finish (.tuple #[])) cs H):V P Q mn z b (c::cs) nt o [] env σ:=by
 intro S B H t k l;refine .Qm a d e (.back a rfl f (.inl g) i ?_);rw[results_none j];exact Ω.pure' (h S B H k l.holds)
theorem V.PT (a:Seq z) (g:b.mode=.run) (i:b.roundOf=none) (j:b.defers=[]) (l:b.kind=.normal) (n:P.funcs[b.fn]?=some fn) {d:Nat} (p:fn.results=#[.tmp d]) {v:Value} (hv:Z' env d=.z v) {c:Frame}
  (h:∀(S:ο) (B:δ) (H:Ψ),XY o.m o.S o.B o.H o.σ S B H σ->Holds S B σ H->θ P Q mn z (c.finish v) cs H):V P Q mn z b (c::cs) nt o (.code .ret::k) env σ:=by
 intro S B H t r f;refine .ret a g i (.back a rfl j (.inl l) n ?_);have e:results fn t=pure (t.getD d undef):=by unfold results;rw[p];simp
 have s:t.getD d undef=v:=by
  have:=f.Zn d;rw[hv] at this;generalize t.getD d undef=u at this;cases this;rfl
 show Ω P (results fn t) H _ _;rw[e,s];exact Ω.pure' (h S B H r f.holds)
theorem xa {w:World} {b:TypeId} {e:IntKind} (c:P.underlying b=some (.int e)) {a:Addr} {v:Value} (d:w.cell? a=some v):(Instr.loadAt b (.pointer (some a))).run P w=.ok v w/\(Instr.loadAt b (.pointer (some a))).events P w #[]=#[⟨.cell a,false,false⟩]:=by
 constructor
 .simp[Instr.loadAt,Instr.sureAddr,loadVar,isAgg,run_underlying c,d,Result.andThen]
 .simp[Instr.loadAt,Instr.sureAddr,loadVar,isAgg,run_underlying c,d,events_load,Result.evThen]
theorem w9 {t:Array Value} {w:World} (a:TJ b ops i op) (g:Region.wanted op (yielded ops t)=true) {d:TypeId} {y:Operand} (h:op.op=.load d y) {j:IntKind} (l:P.underlying d=some (.int j)) {c:Addr} (m:ZS t y=.pointer (some c)) {v:Value} (n:w.cell? c=some v) (o:(P.funcs[b.fn]?).any (·.norace)=true) :
  stepG P mn (Go.Conc.G (υ b t (.inRegion ops (i::rest)::k)) cs) w=.go (Go.Conc.G (υ b (put op t v) (.inRegion ops rest::k)) cs) w #[]:=by
 obtain⟨f,p⟩:=xa (P:=P) l n;have e:execOp (ZS t) op=(do pure (.value (<-Instr.loadAt d (.pointer (some c))))):=by unfold execOp;rw[h,<-m]
 rw[W' a.run a.ro,W' a.run a.ro,<-Pd];have r:(execOp (⟨t,b.defers⟩:_root_.Go.Act).eval op).run P w=.ok (.value v) w:=by rw[T9,e];simp[f,Result.andThen]
 have s:(execOp (⟨t,b.defers⟩:_root_.Go.Act).eval op).events P w #[]=#[⟨.cell c,false,false⟩]:=by rw[T9,e];simp[f,p,Result.evThen]
 rw[stepG_value a.op g a.kd r];unfold listed;rw[s,seen_def,o];simp[seenStep]
section
variable {s:Nat} {sp:Spec} (X0:XW x) (VY:x.spec s=some sp) (VX:¬Xn (x.tok s))
include X0 VY VX
theorem V.M8 (l:TJ b ops i op) (hd:W2 nt op=true) (m:XT env ops op=some true) {f:TypeId} {y:Operand} (n:op.op=.load f y) {c:IntKind} (p:P.underlying f=some (.int c)) {g:Addr} (r:κ env y=.z (.pointer (some g))) (u:(P.funcs[b.fn]?).any (·.norace)=true)
  (d:η->Int) (v:∀(a:η) (w:World),a.toSpec=sp->At s a w->w.cell? g=some (.int c (d a)))
  (A:∀φ a,Seen x s sp φ a->We P Q mn x b cs nt o ops rest k op env σ s φ a (.int c (d a))\/∃t',Rv P Q mn x b cs nt o ops rest k op env σ s φ a (.int c (d a)) a t') :
  V P Q mn (one x) b cs nt o (.inRegion ops (i::rest)::k) env σ:=by
 refine .atomic X0 VY VX hd m λt w φ a B _ C j e D E=>.inl ?_;refine⟨.int c (d a),w,#[],w9 l C n p (B _ _ r) (v a w j e) u,Xy.refl _ _ _,DN,?_⟩;exact(A φ a ⟨j,D,E⟩).imp (λh=>⟨e,h⟩) λ⟨t',F,H⟩=>⟨a,t',F,e,.inr rfl,H⟩
theorem V.conv (c:TJ b ops i op) (hd:W2 nt op=true) (n:XT env ops op=some true) {src dst t0:TypeId} {y:Operand} (p:op.op=.convert src dst y) (f:P.underlying src=some (.pointer t0)) (g:P.underlying dst=some .unsafePointer) (h:(P.info? t0).map (λi=>decide (i.size=0))=some false) {d:Addr} (r:κ env y=.z (.pointer (some d)))
  (u:∀(a:η) (w:World),a.toSpec=sp->At s a w->∃v,w.cell? d=some v)
  (A:∀φ a,Seen x s sp φ a->We P Q mn x b cs nt o ops rest k op env σ s φ a (.pointer (some d))) :
  V P Q mn (one x) b cs nt o (.inRegion ops (i::rest)::k) env σ:=by
 refine .atomic X0 VY VX hd n λt w φ a B _ C j l D E=>.inl ?_;obtain⟨v,hv⟩:=u a w j l;refine⟨.pointer (some d),w,#[],?_,Xy.refl _ _ _,DN,.inl ⟨l,A φ a ⟨j,D,E⟩⟩⟩;have m:=run_convert_to_unsafe (P:=P) f g h hv;have F:=events_convert_to_unsafe (P:=P) f g h hv #[];have e:execOp (ZS t) op=(do pure (.value (<-convert src dst (.pointer (some d))))):=by unfold execOp;rw[p,<-B _ _ r]
 rw[W' c.run c.ro,W' c.run c.ro,<-Pd];have H:(execOp (⟨t,b.defers⟩:_root_.Go.Act).eval op).run P w=.ok (.value (.pointer (some d))) w:=by rw[T9,e];simp[m,Result.andThen]
 have I:(execOp (⟨t,b.defers⟩:_root_.Go.Act).eval op).events P w #[]=#[]:=by rw[T9,e];simp[m,F,Result.evThen]
 rw[stepG_value c.op C c.kd H];unfold listed;rw[I,seen_none]
end
theorem w8 (w:World):OsLater w.os w.later.os:=⟨w.tick,rfl⟩
theorem Yu.later {H:Ψ} {w:World} (h:Fits H w):Yu H w H w.later #[]:=
 ⟨⟨h.μ,h.row,h.obj⟩,⟨Z5 _,λb c t f a=>⟨c,a,rfl,λ_ _=>rfl⟩,λb x a _ _=>a,w8 w,rfl,rfl⟩,⟨λb o v p h=>.inr ⟨v,p,h,id⟩,λb h=>.inr h⟩,λe d=>by simp at d⟩
theorem V.nano (g:Seq z) (h:WZ P b ops i op f Extern.OsHooks.nano args env vs nt) (c:(P.funcs[f]?).any (·.norace)=true) (j:∀τ:Int,V P Q mn z b cs nt o (.inRegion ops rest::k) (Zz op env (.z (.int .i64 τ))) σ):V P Q mn z b cs nt o (.inRegion ops (i::rest)::k) env σ:=by
 intro S B H t l d;obtain⟨fn,e,m,n,p,r⟩:=h.TP;obtain⟨v,s⟩:=h.call;rw[e] at c;refine θ.own g λw u=>⟨_,_,_,_,H,?_,Yu.later u,j ((w.os.mono+w.tick:Nat):Int) S B H _ l (d.put h.dst (.z _))⟩;rw[W' h.at_.run h.at_.ro,stepG_nanotime (a:=⟨t,b.defers⟩) h.at_.op (U6 d.Zn h.want) h.at_.kd s e m n p r (by simpa using c),Pd,<-W' h.at_.run h.at_.ro]
theorem V.canSpin (e:Seq z) {n:Int} (h:WZ P b ops i op f Extern.Sync.canSpin args env [.int .i64 n] nt) (g:∀y:Bool,(y=true->n<4)->V P Q mn z b cs nt o (.inRegion ops rest::k) (Zz op env (.z (.bool y))) σ):V P Q mn z b cs nt o (.inRegion ops (i::rest)::k) env σ:=by
 intro S B H t j c;obtain⟨fn,l,m,p,r,s⟩:=h.TP;obtain⟨A,u⟩:=h.call;have v:args.map (⟨t,b.defers⟩:_root_.Go.Act).eval=#[.int .i64 n]:=by rw[T9];exact h.LO.ZS c.Zn
 by_cases x:n<4
 .refine θ.own e λw d=>⟨_,_,_,_,H,?_,(Yu.start d).draw (w.drawn+1),g w.spins (λ_=>x) S B H _ j (c.put h.dst (.z _))⟩;rw[W' h.at_.run h.at_.ro,stepG_canSpin_ask (a:=⟨t,b.defers⟩) h.at_.op (U6 c.Zn h.want) h.at_.kd u l m p r s v x,Pd,<-W' h.at_.run h.at_.ro];rfl
 .refine θ.own e λw d=>⟨_,_,w,#[],H,?_,Yu.start d,g false (λh=>by cases h) S B H _ j (c.put h.dst (.z _))⟩;rw[W' h.at_.run h.at_.ro,stepG_canSpin_no (a:=⟨t,b.defers⟩) h.at_.op (U6 c.Zn h.want) h.at_.kd u l m p r s v U,Pd,<-W' h.at_.run h.at_.ro]
theorem V.Jm (c:Seq z) {v:Value} (h:WZ P b ops i op f (λ_=>pure v) args env vs nt) (d:V P Q mn z b cs nt o (.inRegion ops rest::k) (Zz op env (.z v)) σ):V P Q mn z b cs nt o (.inRegion ops (i::rest)::k) env σ:=
 λS B H t e a=>θ.own c λw g=>⟨_,_,w,#[],H,h.step a.Zn J J J,Yu.start g,d S B H _ e (a.put h.dst (.z v))⟩
theorem V.Hq (g:Seq z) (c:TJ b ops i op) (j:XT env ops op=some true) (d:op.dst=none) {l:Array TypeId} (m:op.op=.defer ⟨.value (.func f),#[],l⟩)
  (h:V P Q mn z {b with defers:=Go.Conc.dcall f #[]::b.defers} cs nt o (.inRegion ops rest::k) env σ):V P Q mn z b cs nt o (.inRegion ops (i::rest)::k) env σ:=by
 intro S B H t n e;have p:put op t undef=t:=by unfold put;rw[d]
 refine θ.still g (f':=υ {b with defers:=Go.Conc.dcall f #[]::b.defers} t (.inRegion ops rest::k)) (cs':=cs) (λw=>?_) (h S B H t n e);rw[W' c.run c.ro,stepG_defer (a:=⟨t,b.defers⟩) c.op (U6 e.Zn j) c.kd m];have:(⟨t,Go.Conc.dcall f #[]::b.defers⟩:_root_.Go.Act).put op.dst undef=⟨t,Go.Conc.dcall f #[]::b.defers⟩:=by rw[d];rfl
 simp only[Array.map_empty,List.map_toArray,T1];rw[this,W' (b:={b with defers:=Go.Conc.dcall f #[]::b.defers}) c.run c.ro];rfl
theorem Zk.w7 (e:XW x) (hd:0<x.deaf) (c:b.mode=.run) (d:b.roundOf=none) {ds:List Deferred} (g:b.defers=Go.Conc.dcall f #[]::ds) (i:Entry P f (λ_=>do mark .enable;pure Extern.Race.none_)) {H:Ψ} {t:Array Value}
  (h:Zk P Q mn {x with deaf:=x.deaf-1} {υ {b with defers:=ds} t k with mode:=.returning} cs H):Zk P Q mn x {υ b t k with mode:=.returning} cs H:=by
 obtain⟨fn,j,l,m,n,o⟩:=i;refine Goes.step e.ok (.inr ⟨⟨rfl,rfl⟩,.inr (.inl ⟨Go.Conc.G {υ {b with defers:=ds} t k with mode:=.returning} cs,⟨rfl,rfl⟩,.inr ⟨hd,λw _=>⟨?_,h⟩⟩⟩)⟩);rw[W' c d,W' (b:={b with defers:=ds}) c d];exact stepG_unwind_entry (a:=⟨t,b.defers⟩) (v:=.tuple #[]) g j l m n o (Ju .enable) (Jt .enable _) (QQ J)
end
inductive Quiet (P:Program) (mn:Bool):Goroutine->Goroutine->Prop where
 | nil (g:Goroutine):Quiet P mn g g
 | cons {g g' a:Goroutine}:VT g->(∀w,stepG P mn g w=.go g' w #[])->Quiet P mn g' a->Quiet P mn g a
section
variable {P:Program} {Q:Value->Prop} {mn:Bool} {x:Z4} {g g':Goroutine}
theorem Quiet.runs (h:Quiet P mn g g') (a:VT g'):VT g:=by
 cases h with
 | nil=>exact a
 | cons b=>exact b
theorem Quiet.goes (h:Quiet P mn g g') (i:XW x) (d:VT g') (f:Goes P Q mn g' x):Goes P Q mn g x:=by
 induction h with
 | nil=>exact f
 | cons j k l m=>
  refine Goes.step i.ok (.inr ⟨j,.inl λw n hv=>?_⟩);rw[k w];refine⟨x.G,x.γ,l.runs d,Xy.refl _ _ _,n,hv,⟨λb o v p h=>.inr ⟨v,p,h,id⟩,λb h=>.inr h⟩,λb c h=>.inl h,λe a=>by simp at a,λb c _ _ e a=>by simp at a,m d f⟩
end
end Go.TL
namespace Go.TL
open Go.Proofs.Tryz
open Go.Conc Go.Proofs
variable [ZV]
def PS (P:Program) (a:Value->Prop) (mn:Bool) (x:W3) (b:Frame) (cs:List Frame) (nt:Nat) (o:Base) (L:Nat) (r:Loop) (k:List Item) (env:Ζ) (σ:Τ):Prop:=
 ∀(S:ο) (B:δ) (H:Ψ) (t:Array Value),XY o.m o.S o.B o.H o.σ S B H σ->XE o.m nt S B H σ env t->¬B.has L->H.obj L=some (.loop r)->θ P a mn x (υ b t k) cs H
theorem Rt {S e:ο} {B B':δ} {H H':Ψ} (b:Ext S B H e B' H') {L:Nat} {y:Obj} (c:¬B.has L) (a:H.obj L=some y):¬B'.has L/\H'.obj L=some y:=by
 have d:¬H.fresh L:=λh=>by rw[h.2.2.1] at a;cases a
 exact⟨λh=>(b.blocks L h).elim c d,by rw[(b.Xv L c d).2.2];exact a⟩
theorem w6 {H:Ψ} {L:Nat} {y:Obj} (f:H.XP L):∀b,(H.ZG L y).fresh b↔H.fresh b:=by
 obtain⟨z,g⟩:=f;have d:∀b,((H.ZG L y).obj b=none↔H.obj b=none):=λb=>by
  by_cases e:b=L
  .subst e;simp[Ψ.ZG,g]
  .simp[Ψ.ZG,e]
 exact λb=>⟨λh=>⟨h.1,h.2.1,(d b).1 h.2.2.1,λa c=>⟨(h.2.2.2 a c).1,(h.2.2.2 a c).2.1,(d a).1 (h.2.2.2 a c).2.2⟩⟩,
  λh=>⟨h.1,h.2.1,(d b).2 h.2.2.1,λa c=>⟨(h.2.2.2 a c).1,(h.2.2.2 a c).2.1,(d a).2 (h.2.2.2 a c).2.2⟩⟩⟩
theorem Holds.ZG {S:ο} {B:δ} {σ:Τ} {H:Ψ} {L:Nat} {y:Obj} (a:Holds S B σ H) (i:¬B.has L):Holds S B σ (H.ZG L y):=by
 have d:∀b,b≠L->UN H (H.ZG L y) b:=λb c=>⟨λ_=>rfl,rfl,by simp[Ψ.ZG,c]⟩
 have f:∀(id b N:Nat),B[id]?=some (some (b,N))->b≠L:=λid b N h e=>i (e▸Sj h);refine⟨a.YO,a.len,λid r bo j g=>?_,a.inj,a.sep⟩;by_cases k:r.live
 .refine(a.row id r bo j g).later (Zy.refl S B σ) (λb N e=>d b (f id b N (by rw[g,e]))) λm left l e=>⟨rfl,rfl,λb N c=>d b (f m b N c)⟩
 .cases r<;>first|exact absurd trivial k|trivial
theorem Ext.ZG {f S:ο} {g B:δ} {c H:Ψ} {L:Nat} {y:Obj} (a:Ext f g c S B H) (i:c.fresh L) (j:H.XP L):Ext f g c S B (H.ZG L y):=by
 refine⟨a.YO,λb d h=>?_,a.blocks,a.Q2,λb d=>a.grow b ((w6 j b).1 d)⟩;have:b≠L:=λe=>h (e▸i);obtain⟨k,l,m⟩:=a.Xv b d h;exact⟨k,l,by simp[Ψ.ZG,this,m]⟩
section
variable {P:Program} {T:ZZ} {Q:Value->Prop} {mn:Bool} {x:W3} {b:Frame} {cs:List Frame} {nt:Nat} {o:Base} {L:Nat} {r:Loop} {k:List Item} {env:Ζ} {σ:Τ}
theorem PS.XB (g:Seq x) (i:b.mode=.run) (h:W P o.m nt k env σ (PS P Q mn x b cs nt o L r) (λ_ _ _=>False)):PS P Q mn x b cs nt o L r k env σ:=
 λS B H t l n p s=>h Q mn x cs b S B H t g i n (λj env' σ' c B' H' t' d u f w y=>by
  have e:d=j:=y;subst e;obtain⟨A,C⟩:=Rt f.ext p s;exact u c B' H' t' (l.trans f) w A C) (λa env' σ' c B' H' t' d v D=>D.elim)
theorem PS.yield (s:Seq x) {ops:Array Oper} {i:Nat} {rest:List Nat} {f:Oper} (l:TJ b ops i f) (u:XT env ops f=some true) {y:Operand} {args:Array Operand} {v:Array TypeId} (n:f.op=.call ⟨.value y,args,v⟩) (w:κ env y=.fn (.yield L) [] []) (A:args.size=r.params.size)
  (h:∀(S:ο) (B:δ) (H:Ψ) (t:Array Value) (vs:Array Value),XY o.m o.S o.B o.H o.σ S B H σ->XE o.m nt S B H σ env t->¬B.has L->H.obj L=some (.loop r)->XN S B σ (args.toList.map (κ env)) vs->
   θ P Q mn x (Frame.round L r.fn ((r.params.zip vs).foldl (λC (t,a)=>C.setIfInBounds t a) r.tmps) r.assign r.body .normal) (υ b t (.inRegion ops (i::rest)::k)::cs) H):PS P Q mn x b cs nt o L r (.inRegion ops (i::rest)::k) env σ:=by
 intro S B H t D g E p;refine θ.op s l.run l.op (U6 g.Zn u) (.inr λc=>by rw[n];simp) ?_;have e:execOp (ZS t) f=(do let d <-Deferred.ofValue (ZS t y) (args.map (ZS t));invoke d.target d.args):=by unfold execOp;rw[n];rfl
 rw[e];have j:=Uh g.Zn y;have F:=HE g.Zn args;rw[w] at j;generalize ZS t y=R at j;cases j with
 | fn I J K M T U=>
  have N:I=#[]:=Li (by rw[<-K];rfl)
  have Φ:J=#[]:=Li (by rw[<-M];rfl);subst N;subst Φ;refine Ω.bind' (Ω.pure' ?_);have O:invoke (Target.fn (Fn.yield L) #[]) (#[]++args.map (ZS t))=Instr.yield L (args.map (ZS t)):=by simp[invoke]
  show Ω P (invoke (Target.fn (Fn.yield L) #[]) (#[]++args.map (ZS t))) H _ _;rw[O];unfold Instr.yield;refine Ω.bind' (Ω.getLoop p ?_);rw[if_neg (by simp[A])];refine Ω.bind' (Ω.pure' (Ω.pure' ?_));exact h S B H t _ D g E p F
end
end Go.TL
namespace Go.TL
open Go.Proofs.Tryz
open Go.Conc Go.Proofs
def Rs (n:Nat) (l:List Nat):Nat->Option Nat
 | 0=>none
 | e+1=>if l.getD e 0+l.length=n+e then Rs n l e else some e
def TH (l:List Nat) (i:Nat) (k:Nat):List Nat:=l.take i++((List.range k).map λj=>l.getD i 0+1+j)++l.drop (i+k)
def Rr (n:Nat) (l:List Nat):Option (List Nat):=(Rs n l l.length).map λi=>TH l i (l.length-i)
def TG (n:Nat):Nat->List Nat->List (List Nat)
 | 0,l=>[l]
 | f+1,l=>l::match Rr n l with|none=>[]|some m=>TG n f m
def Rq (n:Nat):Nat->List Nat->Bool
 | 0,l=>l.all (· < n)&&(Rr n l).isNone
 | f+1,l=>l.all (· < n)&&match Rr n l with|none=>true|some m=>Rq n f m
def VW (n c:Nat):List (List Nat):=(List.range' c (n+1-c)).flatMap λm=>TG n 1000 (List.range m)
theorem w5:∀n<13,∀m<n+1,Rq n 1000 (List.range m)=true:=by decide +kernel
theorem wZ {n c:Nat} (h:c<n+1):VW n c=TG n 1000 (List.range c)++VW n (c+1):=by
 unfold VW;have:n+1-c=(n+1-(c+1))+1:=U;rw[this,MB,NR]
theorem wY {n:Nat}:VW n (n+1)=[]:=by simp[VW]
theorem wX {n f:Nat} {l:List Nat} (h:Rq n f l=true):∀x∈l,x<n:=by
 cases f<;>simp only[Rq,V9,WU,decide_eq_true_eq] at h<;>exact h.1
theorem wW {n f:Nat} {l:List Nat} (h:Rr n l=none):TG n f l=[l]:=by
 cases f<;>simp[TG,h]
theorem wV {n f:Nat} {l m:List Nat} (a:Rq n f l=true) (h:Rr n l=some m):∃g,f=g+1/\TG n f l=l::TG n g m/\Rq n g m=true:=by
 cases f with
 | zero=>simp[Rq,h] at a
 | succ g=>exact⟨g,rfl,by simp[TG,h],by simp[Rq,h] at a;exact a.2⟩
theorem DD {l:List Nat} {i k:Nat} (h:i+k<=l.length):(TH l i k).length=l.length:=by simp[TH];omega
theorem wU {l:List Nat} {i:Nat} (h:i<l.length):TH l i 1=l.set i (l[i]+1):=by
 unfold TH;rw[List.set_eq_take_append_cons_drop,if_pos h];simp[h]
theorem wT {l:List Nat} {i k:Nat} (b:0<k) (h:i+k<=l.length):(TH l i k).getD (i+k-1) 0=l.getD i 0+k:=by
 unfold TH;have a:(l.take i).length=i:=by simp;omega
 rw[Xd,Ur,XG U,a,YL (by simp;omega)];have:i+k-1-i=k-1:=U;rw[this,Yl,List.getElem?_range U];simp;omega
theorem wS {l:List Nat} {i k:Nat} (h:i+k<l.length):(TH l i k).set (i+k) (l.getD i 0+k+1)=TH l i (k+1):=by
 unfold TH;have a:(l.take i++(List.range k).map λj=>l.getD i 0+1+j).length=i+k:=by simp;omega
 rw[PF _ _ U,a,PB,Vp,XR];have Φ:l.drop (i+k)=l[i+k]::l.drop (i+k+1):=PH h;rw[Φ,List.set_cons_zero];simp;constructor<;>omega
end Go.TL
namespace Go.TL
open Go.Proofs.Tryz
open Go.Proofs
theorem W.wR [ZV] {nt:Nat} {E:Yn} {m:Nat} {k:List Item} {env:Ζ} {σ:Τ} {Z:X9} {is a:List Nat} (_:is=is) (_:a=a) {ops:Array Oper} {l:List Nat} (c:l=is++a) (h:∀b:Ζ->Τ->Prop,(∀env σ,W prog m nt (.inRegion ops a::k) env σ Z E->b env σ)->run prog Z2 [] nt ops is env σ b E):W prog m nt (.inRegion ops l::k) env σ Z E:=W.part Ρ is a c h
theorem XK (a b:List Nat) {p q:Prop} (k:q) (h:a=a->b=b->q->p:=by intro c d k;refine W.wR c d rfl λf e=>?_;(try simp);(repeat (rw[Μ];simp));apply e;exact k):p:=h rfl rfl k
end Go.TL
namespace Go.TL
open Go.Proofs.Tryz
open Go.Conc Go.Proofs
open Go.ConcN (sumTo upd sumTo_upd upd_ne upd_same sumTo_congr le_sumTo)
theorem Hp {B:Type} (f:Nat->B) (s:Nat) (a b:B):upd (upd f s a) s b=upd f s b:=by
 funext i;unfold upd;split<;>rfl
def ZN (x:Z4) (s:Nat) (t:Tok) (v:Option (Nat×η)) (d:Nat):Z4:={x with tok:=upd x.tok s t,view:=upd x.view s v,deaf:=d}
section
variable {x:Z4} {s:Nat} {t t':Tok} {v Jl:Option (Nat×η)} {d oH:Nat}
theorem WY:({ZN x s t v d with tok:=upd (ZN x s t v d).tok s t',view:=upd (ZN x s t v d).view s Jl}:Z4)=ZN x s t' Jl d:=by unfold ZN;simp only[Hp]
theorem UZ:({ZN x s t v d with view:=upd (ZN x s t v d).view s Jl}:Z4)=ZN x s t Jl d:=by unfold ZN;simp only[Hp]
theorem LN:({ZN x s t v d with deaf:=(ZN x s t v d).deaf+1}:Z4)=ZN x s t v (d+1):=rfl
theorem LM:({ZN x s t v d with deaf:=(ZN x s t v d).deaf-1}:Z4)=ZN x s t v (d-1):=rfl
theorem Zu:(ZN x s t v d).tok s=t:=by unfold ZN;simp only[upd_same]
theorem R6:(ZN x s t v d).view s=v:=by unfold ZN;simp only[upd_same]
theorem LL {r:Nat} (h:r≠s):(ZN x s t v d).tok r=x.tok r:=by unfold ZN;exact upd_ne _ _ h
end
theorem Ho {N:Nat} {τ:Nat->Tok} {φ a:Tok->Nat} (h:∀t,φ t<=a t):Z0 N τ φ<=Z0 N τ a:=by
 induction N with
 | zero=>exact Z5 _
 | succ N b=>rw[OK,OK];have:=h (τ N);omega
theorem wQ {N:Nat} {τ:Nat->Tok} {φ a:Tok->Nat}:Z0 N τ (λt=>φ t+a t)=Z0 N τ φ+Z0 N τ a:=by
 induction N with
 | zero=>rfl
 | succ N b=>simp only[OK,b];omega
structure PR (a:η) (t:Tok):Prop where
 Zb:a.Zb<=1
 wk:a.wk<=1
 sv:a.sv<=1
 YF:a.YF<=1
 nw:a.nw<=a.top
 wP:T0 t=1->a.sv=0/\a.wk=1
 hw:Tn t=1->a.sv=1/\a.wk=0/\a.Zb=0/\1<=a.nw
 hold:V8 t=1->a.Zb=1
 wO:Uo t=1->(a.sv=0->a.wk=1)/\(a.sv=1->a.wk=0/\a.Zb=0/\1<=a.nw)
theorem OJ.Tj {c:η} {t:Tok} (h:OJ c t):PR c t:=by
 obtain⟨N,τ,i,⟨g,j⟩,hi,k,_⟩:=h;have l:=XF τ V8 hi;have l2:=XF τ T0 hi;have n:=XF τ Tn hi;have o:=XF τ Uo hi;rw[k] at l l2 n o;have p:Z0 N τ Up+Z0 N τ Uo<=Z0 N τ Un:=by
  rw[<-wQ];refine Ho λt=>?_;cases t<;>simp[Up,Uo,Un];rename_i m _;cases m<;>simp[Mv,Mu]
 have r:Z0 N τ Tn<=Z0 N τ Uo:=Ho λt=>by
  cases t<;>simp[Tn,Uo];rename_i m _;cases m<;>simp[K3,Mu]
 obtain⟨f1,f2,f3,s,a,b,u,v,w⟩:=g;obtain⟨x,y,A,B,C,D,E,F,H⟩:=j;have d:c.sv=0\/c.sv=1:=U;refine⟨f1,f2,f3,?_,?_,λf=>?_,λf=>?_,λf=>?_,λf=>⟨λe=>?_,λe=>?_⟩⟩
 .rcases d with e|e
  .have:=a e;omega
  .have:=b e;omega
 .rcases d with e|e
  .have:=a e;omega
  .have:=b e;omega
 .rcases d with e|e
  .have:=a e;omega
  .have:=b e;omega
 .rcases d with e|e
  .have:=a e;omega
  .have:=b e;omega
 .omega
 .have:=a e;omega
 .have:=b e;omega
structure wN (a:η) (t:Tok):Prop where
 wt:a.wt<=1
 cnt:a.cnt<=a.top
 YY:a.YY<=1
 live:VF t<=a.cnt
 add:∀n p,t=.par n p .add->a.wt=0/\a.YY=0/\n<=a.top/\p<=a.cnt/\a.cnt<=n
 fin:∀n p,t=.par n p .SX\/t=.par n p .w4\/t=.par n p .ZY->a.wt=0/\a.YY=0/\a.cnt=0
 l2:∀k m,t=.ch k m .l2->a.wt=1/\a.cnt=0
 RO:∀k m,t=.ch k m .RO->a.wt=0/\a.cnt=0/\a.YY=0
theorem OJ.PQ {r:η} {t:Tok} (h:OJ r t):wN r t:=by
 obtain⟨N,τ,i,⟨D,d⟩,hi,a,_⟩:=h;have y:=XF τ VF hi;have l2:=XF τ U9 hi;have s:=XF τ U8 hi;rw[a] at y l2 s;have E:Z0 N τ VF<=Z0 N τ Un:=Ho λt=>by
  cases t<;>simp[VF,Un];rename_i g;cases g<;>simp[Qq]
 unfold St at d;have u:X1 t=1->Z0 N τ WI=WI t/\Z0 N τ V7=V7 t/\Z0 N τ TZ=TZ t/\Z0 N τ Um=Um t/\Z0 N τ V6=V6 t:=λf=>by
  have A:X1 (τ i)=1:=by rw[a];exact f
  refine⟨?_,?_,?_,?_,?_⟩<;>(rw[RK (λt a=>by cases t<;>simp_all [X1,WI,V7,TZ,Um,V6]) d.SU hi A,a])
 obtain⟨B,F,H,I,J,b,j,c,K⟩:=d;have l:Z0 N τ TZ=1\/Z0 N τ Um=1\/Z0 N τ V6=1:=U;refine⟨B,U,?_,U,λn p e=>?_,λn p e=>?_,λk m e=>?_,λk m e=>?_⟩
 .rcases l with e|e|e
  .have:=b e;omega
  .have:=j e;omega
  .have:=c e;omega
 .subst e;obtain⟨v,w,o,C,x⟩:=u rfl;simp only[WI,V7,TZ] at v w o;have:=b o;omega
 .have f:X1 t=1:=by rcases e with rfl|rfl|rfl<;>rfl
  obtain⟨v,w,o,C,x⟩:=u f;have:Z0 N τ V6=1:=by rw[x];rcases e with rfl|rfl|rfl<;>rfl
  have:=c this;omega
 .subst e;simp only[U9,ON] at l2;rcases l with e|e|e
  .have:=b e;omega
  .have:=j e;omega
  .have:=c e;omega
 .subst e;simp only[U8,OM] at s;rcases l with e|e|e
  .have:=b e;omega
  .have:=j e;omega
  .have:=c e;omega
abbrev WX (a b c n:Nat):Int:=(a:Int)+2*b+4*c+8*n
theorem Hn:∀a<2,∀b<2,∀c<2,∀n<8,X8 .i32 (WX a b c n) 5=a+4*c:=by decide +kernel
theorem Hm:∀a<2,∀b<2,∀c<2,∀n<8,X8 .i32 (WX a b c n) 4=4*c:=by decide +kernel
theorem wM:∀a<2,∀b<2,∀c<2,∀n<8,X8 .i32 (WX a b c n) 3=a+2*b:=by decide +kernel
theorem wL:∀a<2,∀b<2,∀c<2,∀n<8,X8 .i32 (WX a b c n) 7=a+2*b+4*c:=by decide +kernel
theorem Jk:∀a<2,∀b<2,∀c<2,∀n<8,X8 .i32 (WX a b c n) 2=2*b:=by decide +kernel
theorem wK:∀a<2,∀b<2,∀c<2,∀n<8,X8 .i32 (WX a b c n) 1=a:=by decide +kernel
theorem wJ:∀a<2,∀b<2,∀c<2,∀n<8,Q1 .i32 (WX a b c n) 1=WX 1 b c n:=by decide +kernel
theorem wI:∀a<2,∀b<2,∀c<2,∀n<8,Q1 .i32 (WX a b c n) 2=WX a 1 c n:=by decide +kernel
theorem wH:∀a<2,∀b<2,∀c<2,∀n<8,Q1 .i32 (WX a b c n) 4=WX a b 1 n:=by decide +kernel
theorem Hl:∀a<2,∀b<2,∀c<2,∀n<8,UM .i32 (WX a b c n) 2=WX a 0 c n:=by decide +kernel
theorem Hk:∀a<2,∀b<2,∀c<2,∀n<8,(WX a b c n).fdiv (2 ^ min 3 IntKind.i32.bits)=n:=by decide +kernel
theorem wG:∀a<2,∀b<2,∀c<2,∀n<7,IntKind.i32.wrap (WX a b c n+8)=WX a b c (n+1):=by decide +kernel
theorem R5 (a:η):mwd a=WX a.Zb a.wk a.sv a.nw:=rfl
theorem LK:Entry prog 160 (λ_=>do mark .disable;pure Extern.Race.none_):=⟨_,func160,by kernel_rfl,by kernel_rfl,by kernel_rfl,by kernel_rfl⟩
theorem O9:Entry prog 161 (λ_=>do mark .enable;pure Extern.Race.none_):=⟨_,func161,by kernel_rfl,by kernel_rfl,by kernel_rfl,by kernel_rfl⟩
theorem DC:Entry prog 159 (Extern.Race.marked .releaseMerge):=⟨_,func159,by kernel_rfl,by kernel_rfl,by kernel_rfl,by kernel_rfl⟩
theorem Jj:Entry prog 177 (Extern.Race.marked .acquire):=⟨_,func177,by kernel_rfl,by kernel_rfl,by kernel_rfl,by kernel_rfl⟩
theorem wF:Entry prog 167 (Extern.Race.marked .read):=⟨_,func167,by kernel_rfl,by kernel_rfl,by kernel_rfl,by kernel_rfl⟩
theorem wE:Entry prog 180 (Extern.Race.marked .write):=⟨_,func180,by kernel_rfl,by kernel_rfl,by kernel_rfl,by kernel_rfl⟩
theorem Dz:Entry prog 162 (λ_=>pure (.bool false)):=⟨_,func162,by kernel_rfl,by kernel_rfl,by kernel_rfl,by kernel_rfl⟩
theorem Ji:Entry prog 212 (Extern.Atomic.casT (.int .i32)):=⟨_,func212,by kernel_rfl,by kernel_rfl,by kernel_rfl,by kernel_rfl⟩
theorem Dy:Entry prog 214 (Extern.Atomic.update (Op.intArith .add) .i32 true):=⟨_,func214,by kernel_rfl,by kernel_rfl,by kernel_rfl,by kernel_rfl⟩
theorem wD:Entry prog 216 (Extern.Atomic.casT (.int .u64)):=⟨_,func216,by kernel_rfl,by kernel_rfl,by kernel_rfl,by kernel_rfl⟩
theorem Dx:Entry prog 207 (Extern.Atomic.update (Op.intArith .add) .u64 true):=⟨_,func207,by kernel_rfl,by kernel_rfl,by kernel_rfl,by kernel_rfl⟩
theorem Dw:Entry prog 208 (Extern.Atomic.loadT (.int .u64)):=⟨_,func208,by kernel_rfl,by kernel_rfl,by kernel_rfl,by kernel_rfl⟩
theorem wC:Entry prog 209 Extern.Atomic.storeT:=⟨_,func209,by kernel_rfl,by kernel_rfl,by kernel_rfl,by kernel_rfl⟩
theorem wB:Entry prog 242 Extern.Sync.canSpin:=⟨_,func242,by kernel_rfl,by kernel_rfl,by kernel_rfl,by kernel_rfl⟩
theorem wA:Entry prog 243 (λ_=>pure (.tuple #[])):=⟨_,func243,by kernel_rfl,by kernel_rfl,by kernel_rfl,by kernel_rfl⟩
theorem Dv:Entry prog 245 Extern.OsHooks.nano:=⟨_,func245,by kernel_rfl,by kernel_rfl,by kernel_rfl,by kernel_rfl⟩
theorem wz:Entry prog 246 Extern.Sync.semacquire:=⟨_,func246,by kernel_rfl,by kernel_rfl,by kernel_rfl,by kernel_rfl⟩
theorem wy:Entry prog 181 Extern.Sync.semacquire:=⟨_,func181,by kernel_rfl,by kernel_rfl,by kernel_rfl,by kernel_rfl⟩
theorem Du:Entry prog 248 Extern.Sync.semrelease:=⟨_,func248,by kernel_rfl,by kernel_rfl,by kernel_rfl,by kernel_rfl⟩
theorem wx:Entry prog 171 Extern.Sync.semrelease:=⟨_,func171,by kernel_rfl,by kernel_rfl,by kernel_rfl,by kernel_rfl⟩
theorem O8:prog.underlying 195=some .unsafePointer:=by kernel_rfl
theorem Hj:prog.underlying 237=some (.pointer 171):=by kernel_rfl
theorem Hi:(prog.info? 171).map (λi=>decide (i.size=0))=some false:=by kernel_rfl
theorem Hh:prog.underlying 193=some (.pointer 179):=by kernel_rfl
theorem Hg:(prog.info? 179).map (λi=>decide (i.size=0))=some false:=by kernel_rfl
theorem Dt:prog.underlying 200=some (.pointer 169):=by kernel_rfl
theorem Ds:(prog.info? 169).map (λi=>decide (i.size=0))=some false:=by kernel_rfl
theorem M7:prog.underlying 21=some (.int .i32):=by kernel_rfl
theorem θ.leave0 [ZV] {P:Program} {d:Value->Prop} {mn:Bool} {z:W3} {c b:Frame} {rest:List Frame} {H:Ψ} {t:Array Value} {ops:Array Oper} {fn:Func} (a:Seq z) (e:b.mode=.run) (f:b.roundOf=none) (g:b.defers=[]) (i:b.kind=.normal) (j:P.funcs[b.fn]?=some fn) (k:fn.results=#[])
  (h:θ P d mn z (c.finish (.tuple #[])) rest H):θ P d mn z (υ b t [.inRegion ops []]) (c::rest) H:=by
 refine .ZH a e (.Qm a e f (.back a rfl g (.inl i) j ?_));rw[results_none k];exact Ω.pure' h
theorem Zk.leave0 [ZV] {P:Program} {a:Value->Prop} {mn:Bool} {x:Z4} {c b:Frame} {rest:List Frame} {H:Ψ} {t:Array Value} {ops:Array Oper} {fn:Func} (d:Seq (one x)) (e:b.mode=.run) (f:b.roundOf=none) (g:b.defers=[]) (i:b.kind=.normal) (j:P.funcs[b.fn]?=some fn) (k:fn.results=#[])
  (h:Zk P a mn x (c.finish (.tuple #[])) rest H):Zk P a mn x (υ b t [.inRegion ops []]) (c::rest) H:=
 θ.leave0 (z:=one x) d e f g i j k (λy l=>by cases l;exact h) x rfl
structure Vv (x:Z4) (s m:Nat) (sp:Spec):Prop where
 rel:x.rel=false
 γ:x.γ=λ_=>none
 spec:x.spec s=some sp
 ZW:sp.ZW=some m
 top:sp.top<7
 still:∀a,a≠s->Tl (x.tok a)
theorem Vv.seq {x:Z4} {s m:Nat} {sp:Spec} (h:Vv x s m sp):∀t v d,@Seq Yb (one (ZN x s t v d)):=λt v d=>@Seq.Pb Yb _ trivial h.rel h.γ
theorem Zk.wv [ZV] {P:Program} {d:Value->Prop} {mn:Bool} {x:Z4} {c b:Frame} {rest:List Frame} {H:Ψ} {t:Array Value} {ops:Array Oper} {k:List Item} {fn:Func} (a:Seq (one x)) (e:b.mode=.run) (f:b.roundOf=none) (g:b.defers=[]) (i:b.kind=.normal) (j:P.funcs[b.fn]?=some fn) (l:fn.results=#[])
  (h:Zk P d mn x (c.finish (.tuple #[])) rest H):Zk P d mn x (υ b t (.inRegion ops []::.code .ret::k)) (c::rest) H:=by
 refine θ.ZH (x:=one x) a e (.ret a e f (.back a rfl g (.inl i) j ?_)) x rfl;rw[results_none l];exact Ω.pure' (λy m=>by cases m;exact h)
abbrev ptr (b o:Nat):Value:=.pointer (some ⟨b,o,none⟩)
section
variable {Q:Value->Prop} {mn:Bool} {x:Z4} {c:Frame} {rest:List Frame} {S:ο} {B:δ} {σ:Τ} {H:Ψ} {s m k:Nat} {sp:Spec} {v:Option (Nat×η)}
def PO (Q:Value->Prop) (mn:Bool) (x:Z4) (c:Frame) (rest:List Frame) (S:ο) (H:Ψ) (s k:Nat) (sp:Spec):Prop:=
 ∀(a:ο) (H':Ψ) (L:List Nat) (E:Ψ),Ext S [] H a [] H'->Holds a [] [] H'->sp.X2 L E->Apart H' E->(L.Nodup/\k∉L/\∃w,Fits H' w/\Fits E w)->Zk prog Q mn (ZN x s (.ch k (.YK L) .work) none 0) (c.finish (.tuple #[])) rest (join H' E)
def Dr (Q:Value->Prop) (mn:Bool) (x:Z4) (s m k:Nat) (sp:Spec):Prop:=∀(c:Frame) (rest:List Frame) (S:ο) (B:δ) (σ:Τ) (H:Ψ) (v:Option (Nat×η)),Holds S B σ H->PO Q mn x c rest S H s k sp->
 Zk prog Q mn (ZN x s (.ch k (.act false) .work) v 1) (Frame.enter prog 213 #[ptr m 0] .normal) (c::rest) H
theorem wu (b:Vv x s m sp) (u:Holds S B σ H) (A:Dr Q mn x s m k sp)
  (r:PO Q mn x c rest S H s k sp):Zk prog Q mn (ZN x s (.ch k .idle .work) v 0) (Frame.enter prog 175 #[ptr m 0] .normal) (c::rest) H:=by
 letI:ZV:=Yb;have a:=b.seq;refine V.Ru (z:=one _) (vs:=[ptr m 0]) func175 rfl u (by simp[ntmps175]) ?_ _ rfl;refine V.Zv (a _ _ _) ?_;refine Y5 ?_;refine W.Zm (.stop ?_);refine V.disable (a _ _ _).here ⟨⟨rfl,rfl,by simp[Frame.enter],rfl⟩,LK,⟨_,rfl⟩,rfl,rfl,rfl⟩ ?_;rw[LN];refine V.Zv (a _ _ _) ?_;refine W.ZH ?_;refine Y5 ?_;refine W.Zm ?_;refine XK [0,1,2] [3] ?_;refine W.stop ?_;refine V.Jp (a _ _ _).here (UR _) (sp:=sp) b.spec (by rw[Zu];exact id) b.ZW ⟨⟨rfl,rfl,by simp[Frame.enter],rfl⟩,Ji,⟨_,rfl⟩,rfl,rfl,rfl⟩ (λφ d t hv=>?_) (λφ d t hv=>?_)
 .refine .inr ⟨.ch k (.act false) .work,by rw[Zu];exact .Bf,λC _=>?_⟩;rw[WY];refine V.Zv (a _ _ _) ?_;refine W.ZH ?_;refine Y5 ?_;refine Η rfl ?_;refine Y5 ?_;refine W.Zm ?_;refine XK [0] [1] ?_;refine W.stop ?_;refine V.call (a _ _ _) ⟨rfl,rfl,by simp[Frame.enter],rfl⟩ rfl rfl rfl ⟨_,func213,rfl,rfl⟩ λh f i t1 N j e hv=>?_;obtain rfl:=TI (l:=[ptr m 0]) hv;rintro y rfl;refine A _ _ h f _ i _ e.holds λD F L E I J n o p=>?_;rw[V4 rfl];refine Zk.leave0 (a _ _ _) rfl rfl rfl rfl func175 rfl ?_;obtain rfl:f=[]:=YR.1 e.holds.len;exact r D F L E (j.ext.trans I) J n o p
 .have g:d.Zb=0/\d.sv=0/\d.wk=0/\d.nw=0:=by simp only[mwd] at hv;omega
  refine⟨{d with Zb:=1},.ch k .own .work,by simp[mwd];omega,rfl,⟨rfl,rfl,rfl⟩,by rw[Zu];exact .Bg g.1 g.2.1 g.2.2.1 g.2.2.2,λC _=>?_⟩;rw[WY];refine V.Zv (a _ _ _) ?_;refine W.ZH ?_;refine Y5 ?_;refine Ε rfl ?_;refine Y5 ?_;refine Ε rfl ?_;refine Y5 ?_;refine W.Zm (.stop ?_);refine V.enable (a _ _ _).here (UR _) ⟨⟨rfl,rfl,by simp[Frame.enter],rfl⟩,O9,⟨_,rfl⟩,rfl,rfl,rfl⟩ ?_;rw[LM];refine V.Zv (a _ _ _) ?_;refine W.ZH ?_;refine Y5 ?_;refine W.Zm ?_;refine XK [0] [1,2] ?_;refine W.stop ?_;refine V.conv (a _ _ _).here (sp:=sp) b.spec (by rw[Zu];exact id) ⟨rfl,rfl,by simp[Frame.enter],rfl⟩ rfl rfl rfl Hj O8 Hi rfl (λd w K M=>⟨_,M.Rw (by rw[K];exact b.ZW)⟩) (λφ d t=>?_);unfold We;rw[UZ];refine V.KJ b.rel rfl (sp:=sp) b.spec b.ZW Zu ⟨⟨rfl,rfl,by simp[Frame.enter],rfl⟩,Jj,⟨_,rfl⟩,rfl,rfl,rfl⟩ λh f i t1 L E j e n o p=>?_;rw[WY];obtain rfl:f=[]:=YR.1 e.holds.len;refine Zk.wv (a _ _ _) rfl rfl rfl rfl func175 rfl ?_;exact r h i L E j.ext e.holds n o p
end
def Yv:List Nat->Code->Code
 | [],c=>c
 | 0::l,.seq a _=>Yv l a
 | _::l,.seq _ b=>Yv l b
 | 0::l,.cond _ a _=>Yv l a
 | _::l,.cond _ _ b=>Yv l b
 | _::l,.block _ c=>Yv l c
 | _::l,.loop c=>Yv l c
 | _,c=>c
noncomputable def Rp:Code:=f213.body.getD .skip
noncomputable def TF:Code:=Yv [1,1,1,1,1,0,0,0] Rp
noncomputable def Ro:Code:=Yv [0,1] TF
noncomputable def QK:Code:=Yv [1,1,1,1,1] Ro
noncomputable def TE:Code:=Yv [1,0] QK
noncomputable def LJ:Code:=Yv [1,1,1,1,1,1] Rp
noncomputable def Ux:List Item:=[.inLoop TF,.inBlock 0,.code LJ]
abbrev Ve (a:Value->Prop) (mn:Bool) (x:Z4) (c:Frame) (rest:List Frame) (S:ο) (H:Ψ) (s m:Nat) (t:Tok) (v:Option (Nat×η)) (d:Nat) (K:List Item) (env:Ζ):Prop:=
 V prog a mn (one (ZN x s t v d)) (Frame.enter prog 213 #[ptr m 0] .normal) (c::rest) 139 ⟨S,[],H,[],0⟩ K env []
def Y0 (m:Nat) (w:Int) (a st:Bool) (b τ:Int):Ζ:=[(0,.z (ptr m 0)),(2,.z (.int .i64 τ)),(3,.z (.bool st)),(4,.z (.bool a)),(5,.z (.int .i64 b)),(6,.z (.int .i32 w))]
def R4 (a b c n:Nat) (d st:Bool):Int:=
 if a=0/\c=0 then WX 1 (if d then 0 else b) 0 n else WX a (if d then 0 else b) (if st=true/\a=1 then 1 else c) (n+1)
section
variable {Q:Value->Prop} {mn:Bool} {x:Z4} {c:Frame} {rest:List Frame} {S:ο} {B:δ} {σ:Τ} {H:Ψ} {s m k:Nat} {sp:Spec} {v:Option (Nat×η)} {t:Tok}
theorem wq (C:Vv x s m sp) {a b e n:Nat} {j st:Bool} {y τ:Int} (p:a<2) (r:b<2) (u:e<2) (D:n<7) (E:j=true->e=0/\b=1) (K:st=true->j=true)
  (f:Ve Q mn x c rest S H s m t v 1 (.code (Yv [0] QK)::.code (Yv [1] QK)::.inBlock 1::Ux) (Y0 m (WX a b e n) j st y τ++[(7,.z (.int .i32 (R4 a b e n j st)))])) :
  Ve Q mn x c rest S H s m t v 1 (.code Ro::.inBlock 1::Ux) (Y0 m (WX a b e n) j st y τ):=by
 letI:ZV:=Yb;have F:=C.seq;have A:(a=0\/a=1)/\(e=0\/e=1):=U;have g:=Hm a p b r e u n U;have h:=Hn a p b r e u n U;have B:=wK a p b r e u n U;have k:=wJ a p b r e u n U;have w:=wG a p b r e u n D;refine V.Zv (F _ _ _) ?_;unfold Ro TF Rp;cases j with
 | false=>
  have I:st=false:=by cases st<;>simp_all
  subst I;rcases A with⟨rfl|rfl,rfl|rfl⟩
  ·(repeat (first|apply W7|apply wb|apply WN|apply wd|refine Ε rfl ?_|refine Η rfl ?_|(refine YX λi d=>?_;simp;(repeat (rw[Μ];simp[Y0,g,h,k]));apply d)));exact W.forget _ (by simp[Y0,R4]) (.stop f)
  ·(repeat (first|apply W7|apply wb|apply WN|apply wd|refine Ε rfl ?_|refine Η rfl ?_|(refine YX λi d=>?_;simp;(repeat (rw[Μ];simp[Y0,g,h,w]));apply d)));exact W.forget _ (by simp[Y0,R4]) (.stop f)
  ·(repeat (first|apply W7|apply wb|apply WN|apply wd|refine Ε rfl ?_|refine Η rfl ?_|(refine YX λi d=>?_;simp;(repeat (rw[Μ];simp[Y0,g,h,k,w]));apply d)));exact W.forget _ (by simp[Y0,R4]) (.stop f)
  ·(repeat (first|apply W7|apply wb|apply WN|apply wd|refine Ε rfl ?_|refine Η rfl ?_|(refine YX λi d=>?_;simp;(repeat (rw[Μ];simp[Y0,g,h,w]));apply d)));exact W.forget _ (by simp[Y0,R4]) (.stop f)
 | true=>
  obtain⟨rfl,rfl⟩:=E rfl;rcases A with⟨rfl|rfl,-⟩
  .have l:=Jk 1 U 1 U 0 U n U
   have o:=Hl 1 U 1 U 0 U n U;cases st
   ·(repeat (first|apply W7|apply wb|apply WN|apply wd|refine Ε rfl ?_|refine Η rfl ?_|(refine YX λi d=>?_;simp;(repeat (rw[Μ];simp[Y0,g,h,k,l,o]));apply d)));exact W.forget _ (by simp[Y0,R4]) (.stop f)
   ·(repeat (first|apply W7|apply wb|apply WN|apply wd|refine Ε rfl ?_|refine Η rfl ?_|(refine YX λi d=>?_;simp;(repeat (rw[Μ];simp[Y0,g,h,B,k,l,o]));apply d)));exact W.forget _ (by simp[Y0,R4]) (.stop f)
  .cases st
   .have l:=Jk 1 U 1 U 0 U (n+1) U
    have o:=Hl 1 U 1 U 0 U (n+1) U;(repeat (first|apply W7|apply wb|apply WN|apply wd|refine Ε rfl ?_|refine Η rfl ?_|(refine YX λi d=>?_;simp;(repeat (rw[Μ];simp[Y0,g,h,k,w,l,o]));apply d)));exact W.forget _ (by simp[Y0,R4]) (.stop f)
   .have J:=wH 1 U 1 U 0 U (n+1) U
    have l:=Jk 1 U 1 U 1 U (n+1) U
    have o:=Hl 1 U 1 U 1 U (n+1) U;(repeat (first|apply W7|apply wb|apply WN|apply wd|refine Ε rfl ?_|refine Η rfl ?_|(refine YX λi d=>?_;simp;(repeat (rw[Μ];simp[Y0,g,h,B,k,w,J,l,o]));apply d)));exact W.forget _ (by simp[Y0,R4]) (.stop f)
theorem Dq (a:Vv x s m sp) (e:PO Q mn x c rest S H s k sp) {env:Ζ} (f:Z' env 0=.z (ptr m 0)):Ve Q mn x c rest S H s m (.ch k .own .work) v 1 [.code LJ] env:=by
 letI:ZV:=Yb;have b:=a.seq;refine V.Zv (b _ _ _) ?_;unfold LJ Rp;refine Ε rfl ?_;refine Y5 ?_;refine W.Zm (.stop ?_);refine V.enable (b _ _ _).here (UR _) ⟨⟨rfl,rfl,by simp[Frame.enter],rfl⟩,O9,⟨_,rfl⟩,rfl,rfl,rfl⟩ ?_;rw[LM];refine V.Zv (b _ _ _) ?_;refine W.ZH ?_;refine Y5 ?_;refine W.Zm ?_;refine W.part (A:=[]) Ρ [0] [1,2] rfl λy g=>?_;simp;(repeat (rw[Μ];simp[f]));apply g;refine W.stop ?_;refine V.conv (b _ _ _).here (sp:=sp) a.spec (by rw[Zu];exact id) ⟨rfl,rfl,by simp[Frame.enter],rfl⟩ rfl rfl rfl Hj O8 Hi rfl (λh w i j=>⟨_,j.Rw (by rw[i];exact a.ZW)⟩) (λφ h B=>?_);unfold We;rw[UZ];refine V.KJ a.rel rfl (sp:=sp) a.spec a.ZW Zu ⟨⟨rfl,rfl,by simp[Frame.enter],rfl⟩,Jj,⟨_,rfl⟩,rfl,rfl,rfl⟩ λl n o t1 L E p d r t u=>?_;rw[WY];obtain rfl:n=[]:=YR.1 d.holds.len;refine Zk.leave0 (b _ _ _) rfl rfl rfl rfl func213 rfl ?_;exact e l o L E p.ext d.holds r t u
end
section
variable {Q:Value->Prop} {mn:Bool} {x:Z4} {c:Frame} {rest:List Frame} {S:ο} {B:δ} {σ:Τ} {H:Ψ} {s m k:Nat} {sp:Spec} {v:Option (Nat×η)} {t:Tok}
theorem Jh:(prog.funcs[213]?).any (·.norace)=true:=by kernel_rfl
theorem Dp:(prog.funcs[245]?).any (·.norace)=true:=by kernel_rfl
def LI (Q:Value->Prop) (mn:Bool) (x:Z4) (c:Frame) (rest:List Frame) (S:ο) (H:Ψ) (s m k:Nat) (sp:Spec) (φ:Nat):Prop:=
 ∀(e:Nat) (a:η) (b st:Bool) (d τ:Int),e<φ->a.toSpec=sp->PR a (.ch k (.act b) .work)->(st=true->b=true)->0<=d->d<=4->Ve Q mn x c rest S H s m (.ch k (.act b) .work) (some (e,a)) 1 Ux (Y0 m (mwd a) b st d τ)
theorem Dn {a:η} {b:Bool} (h:PR a (.ch k (.act b) .work)):b=true->a.sv=0/\a.wk=1:=λe=>h.wP (by rw[e];rfl)
theorem wm (e:Vv x s m sp) (L:PO Q mn x c rest S H s k sp) {φ:Nat} (M:LI Q mn x c rest S H s m k sp φ) {u:Nat} {C:η} (o:u<φ) {st:Bool} {τ:Int} :
  Ve Q mn x c rest S H s m (.ch k .wk .work) (some (u,C)) 1 (.code (Yv [1,1,1,1,1] TE)::.inBlock 1::Ux) [(0,.z (ptr m 0)),(2,.z (.int .i64 τ)),(3,.z (.bool st))]:=by
 letI:ZV:=Yb;have g:=e.seq;refine V.Zv (g _ _ _) ?_;unfold TE QK Ro TF Rp;refine Y5 ?_;refine W.Zm ?_;refine XK [0,1,2] [3,4] ?_;refine W.stop ?_;refine V.M8 (g _ _ _).here (sp:=sp) e.spec (by rw[Zu];exact id) ⟨rfl,rfl,by simp[Frame.enter],rfl⟩ rfl rfl rfl M7 rfl Jh mwd (λa w N O=>O.Rw (by rw[N];exact e.ZW)) (λZ a p=>.inr ?_);have b:=p.Vw.Tj;rw[Zu] at b;have hv:=p.view u C R6;have D:=b.wO rfl;have aa:a.top<7:=by have:=e.top;rw[show a.top=sp.top by rw[<-p.spec]];exact this
 have ab:=b.nw
 have ad:=b.Zb;have ae:=b.wk;have af:=b.sv
 have i:=Hm a.Zb U a.wk U a.sv U a.nw U
 have l:=wM a.Zb U a.wk U a.sv U a.nw U
 have r:=Hk a.Zb U a.wk U a.sv U a.nw U;rw[<-R5] at i l r;rcases(show a.sv=0\/a.sv=1 by omega) with f|f
 .refine⟨.ch k (.act true) .work,by rw[Zu];exact .norm f,λv P=>?_⟩;rw[WY];rw[f] at i;refine V.Zv (g _ _ _) ?_;refine W.part (A:=[]) Ρ [4] [] rfl λE n=>?_;(try simp);(repeat (rw[Μ];simp));(try simp);apply n;refine W.ZH ?_;refine WC i ?_;refine W.forget (Y0 m (mwd a) true st 0 τ) (by simp[Y0]) (.stop ?_);exact M v a true st 0 τ U p.spec ⟨b.Zb,b.wk,b.sv,b.YF,b.nw,λ_=>⟨f,D.1 f⟩,λh=>(by cases h),λh=>(by cases h),λh=>(by cases h)⟩ (λ_=>rfl) U U
 .obtain⟨R,T,ag⟩:=D.2 f;refine⟨.ch k .hw .work,by rw[Zu];exact .hand f,λv P=>?_⟩;rw[WY];rw[f] at i;rw[R,T] at l;have y:¬a.nw=0:=U;have F:IntKind.i32.wrap (-11)=-11:=Z3;have X:∀(w:Option (Nat×η)) (env:Ζ),Z' env 0=.z (ptr m 0)->Ve Q mn x c rest S H s m (.ch k .own .work) w 1 [.code LJ] env:=λw env h=>Dq e L h;have add:∀(j:Bool) (env:Ζ),Z' env 0=.z (ptr m 0)->Z' env 9=.z (.int .i32 (if j then -11 else -7))->Ve Q mn x c rest S H s m (.ch k .hw .work) (some (v,a)) 1 (.code (Yv [1,1,1,1,1,1,0,1,0,1,1,1,0] TE)::.code (Yv [1,1,1,1,1,1,0,1,0,1,1,1,1] TE)::.code (Yv [1,1,1,1,1,1,1] TE)::.inBlock 1::Ux) env:=λj env o I=>by
   refine V.Zv (g _ _ _) ?_;unfold TE QK Ro TF Rp;refine Y5 ?_;refine W.Zm ?_;refine W.part (A:=[]) Ρ [0,1,2,3] [4] rfl λE n=>?_;(try simp);(repeat (rw[Μ];simp[o,I]));(try simp[o,I]);apply n;refine W.stop ?_;refine V.DL (g _ _ _).here (UR _) (sp:=sp) e.spec (by rw[Zu];exact id) e.ZW (d:=if j then -11 else -7) ⟨⟨rfl,rfl,by simp[Frame.enter],rfl⟩,Dy,⟨_,rfl⟩,rfl,rfl,rfl⟩ (λah t J=>?_);have B:=J.Vw.Tj;rw[Zu] at B;obtain⟨f1,f2,f3,f4⟩:=B.hw rfl;have ai:t.top<7:=by have:=e.top;rw[show t.top=sp.top by rw[<-J.spec]];exact this
   have aj:=B.nw;refine⟨{t with Zb:=1,nw:=t.nw-1,sv:=if j then 0 else 1},.ch k .own .work,?_,rfl,⟨rfl,rfl,rfl⟩,by rw[Zu];exact .hacq j,λak _=>?_⟩
   .cases j<;>simp[mwd,IntKind.wrap_i32,f1,f2,f3]<;>omega
   .rw[WY];refine V.Zv (g _ _ _) ?_;refine W.ZH ?_;refine Y5 ?_;refine W.exit rfl (.stop ?_);refine X _ _ ?_;simp[o]
  refine V.Zv (g _ _ _) ?_;refine W.part (A:=[]) Ρ [4] [] rfl λE n=>?_;(try simp);(repeat (rw[Μ];simp));(try simp);apply n;refine W.ZH ?_;cases st with
  | false=>
   refine WC (Υ i (Υ l (Υ r (Υ y F)))) ?_;exact .stop (add true _ rfl rfl)
  | true=>
   by_cases K:a.nw=1
   .refine WC (Υ i (Υ l (Υ r (Υ y (Υ K F))))) ?_;exact .stop (add true _ rfl rfl)
   .have Y:¬(a.nw:Int)=1:=U
    refine WC (Υ i (Υ l (Υ r (Υ y (Υ K Y))))) ?_;exact .stop (add false _ rfl rfl)
theorem wj (a:Vv x s m sp) (p:PO Q mn x c rest S H s k sp) {φ:Nat} (r:LI Q mn x c rest S H s m k sp φ) {e:Nat} {i:η} (B:e<φ) {st y:Bool} {τ:Int} :
  Ve Q mn x c rest S H s m (.ch k .q .work) (some (e,i)) 1 (.code (Yv [1,1,1,0] TE)::.code (Yv [1,1,1,1] TE)::.inBlock 1::Ux) [(0,.z (ptr m 0)),(2,.z (.int .i64 τ)),(3,.z (.bool st)),(8,.z (.bool y))]:=by
 letI:ZV:=Yb;have b:=a.seq;have next:∀(d:Nat) (j:η) (st:Bool),d<φ->Ve Q mn x c rest S H s m (.ch k .wk .work) (some (d,j)) 1 (.code (Yv [1,1,1,1,1] TE)::.inBlock 1::Ux) [(0,.z (ptr m 0)),(2,.z (.int .i64 τ)),(3,.z (.bool st))]:=λd j st t=>wm a p r t
 refine V.Zv (b _ _ _) ?_;unfold TE QK Ro TF Rp;refine Y5 ?_;refine W.Zm ?_;refine XK [0,1,2,3] [4] ?_;refine W.stop ?_;refine V.xc (b _ _ _).here (sp:=sp) a.spec (by rw[Zu];exact id) a.ZW (vs:=[ptr m 1,.bool y,.int .i64 2]) rfl (λu l=>by rw[LL l];exact a.still u l) ⟨⟨rfl,rfl,by simp[Frame.enter],rfl⟩,wz,⟨_,rfl⟩,rfl,rfl,rfl⟩ (λd f n h=>by rw[Zu];exact h) (λd f n h=>?_);have hv:=n.view e i R6;refine⟨{f with YF:=f.YF-1},.ch k .wk .work,rfl,rfl,⟨rfl,rfl,rfl⟩,by rw[Zu];exact .take h,λo C=>?_⟩;rw[WY];refine V.Zv (b _ _ _) ?_;refine W.ZH ?_;cases st with
 | true=>
  first|apply W7|apply wb|apply WN|apply wd
  refine YX λv g=>?_;(try simp);(repeat (rw[Μ];simp));(try simp);apply g;refine W.forget [(0,.z (ptr m 0)),(2,.z (.int .i64 τ)),(3,.z (.bool true))] J (.stop ?_);exact next o _ true U
 | false=>
  first|apply W7|apply wb|apply WN|apply wd
  refine W.Zm ?_;refine XK [0,1] [2,3,4,5,6,7] ?_;refine W.stop ?_;refine V.nano (b _ _ _) (vs:=[]) ⟨⟨rfl,rfl,by simp[Frame.enter],rfl⟩,Dv,⟨_,rfl⟩,rfl,rfl,rfl⟩ Dp λw=>?_;refine V.Zv (b _ _ _) ?_;refine W.part (A:=[]) Ρ [3,4,5,6,7] [] rfl λv g=>?_;(try simp);(repeat (rw[Μ];simp));(try simp);apply g;refine W.ZH ?_;refine W.forget [(0,.z (ptr m 0)),(2,.z (.int .i64 τ)),(3,.z (.bool (decide (1000000<IntKind.i64.wrap (w-τ)))))] J (.stop ?_);exact next o _ _ U
theorem wi (e:Vv x s m sp) (l:PO Q mn x c rest S H s k sp) {φ:Nat} (n:LI Q mn x c rest S H s m k sp φ) {b:Nat} {f:η} (o:b<φ) {w:Int} {p st:Bool} {r τ:Int} (g:¬X8 .i32 w 5=0) :
  Ve Q mn x c rest S H s m (.ch k .q .work) (some (b,f)) 1 (.code TE::.inBlock 1::Ux) (Y0 m w p st r τ):=by
 letI:ZV:=Yb;have d:=e.seq;have next:∀(τ:Int) (y:Bool),Ve Q mn x c rest S H s m (.ch k .q .work) (some (b,f)) 1 (.code (Yv [1,1,1,0] TE)::.code (Yv [1,1,1,1] TE)::.inBlock 1::Ux) [(0,.z (ptr m 0)),(2,.z (.int .i64 τ)),(3,.z (.bool st)),(8,.z (.bool y))]:=λτ y=>wj e l n o
 refine V.Zv (d _ _ _) ?_;unfold TE QK Ro TF Rp;by_cases h:τ=0
 .subst h;(repeat (first|apply W7|apply wb|apply WN|apply wd|refine Ε rfl ?_|refine Η rfl ?_|(refine YX λi a=>?_;simp;(repeat (rw[Μ];simp[Y0,g]));apply a)));refine W.Zm (.stop ?_);refine V.nano (d _ _ _) (vs:=[]) ⟨⟨rfl,rfl,by simp[Frame.enter],rfl⟩,Dv,⟨_,rfl⟩,rfl,rfl,rfl⟩ Dp λj=>?_;refine V.Zv (d _ _ _) ?_;refine W.part (A:=[]) Ρ [1] [] rfl λi a=>?_;(try simp);(repeat (rw[Μ];simp));(try simp);apply a;refine W.ZH ?_
  first|apply W7|apply wb|apply WN|apply wd
  refine W.forget [(0,.z (ptr m 0)),(2,.z (.int .i64 j)),(3,.z (.bool st)),(8,.z (.bool false))] J (.stop ?_);exact next j false
 ·(repeat (first|apply W7|apply wb|apply WN|apply wd|refine Ε rfl ?_|refine Η rfl ?_|(refine YX λi a=>?_;simp;(repeat (rw[Μ];simp[Y0,g,h]));apply a)));refine W.forget [(0,.z (ptr m 0)),(2,.z (.int .i64 τ)),(3,.z (.bool st)),(8,.z (.bool true))] (by simp[h]) (.stop ?_);exact next τ true
end
end Go.TL
