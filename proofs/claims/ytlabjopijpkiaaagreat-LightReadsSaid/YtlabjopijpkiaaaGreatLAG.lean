import Derived.Conc.AtomicLaws2
import Derived.Conc.ClockLaws
import Derived.Conc.MarkLaws
import Derived.Conc.QuitsD
import Derived.Conc.SmallLaws
import Derived.Test.YtlabjopijpkiaaaGreatLAF
set_option maxHeartbeats 16000000
set_option maxRecDepth 20000
set_option linter.unusedSectionVars false
set_option linter.unusedSimpArgs false
set_option linter.unusedVariables false
namespace Go.TL
open Go.Proofs.Tryz
open Go.Proofs
variable [ZP]
theorem Μ.wG {P:Program} {σ:Ξ} {g:FuncId} {as0 first:μ} {c row':Row} {r:Ψ} {K E:Ψ->Ξ->Prop} (h:Μ P g as0 [c] (λa s=>a=r/\s=[row']) (λ_ _=>False)) (id:Nat) (f:σ[id]?=some c) (k:VU c) (l:VU row') (m:∀a∈as0,Xr 1 a) (b:Xr 1 r)
  {args:μ} (n:first++args=as0.map (Yh [id])) (o:K (Yh [id] r) (σ.set id row')):Wm P (.fn (.func g) first []) args σ K E:=by
 have p:=Μ.rows (σ:=σ) h [id] Ω U (λj i d=>by
  cases j with
  | zero=>simp at d;subst d;exact f
  | succ j=>simp at d) (λr b=>by simp at b;subst b;exact k) (by simpa using m) (K':=K) (E':=E) (λa s ⟨t,u⟩=>by
   subst t;subst u;refine⟨λx e=>by simp at e;subst e;exact l,b,?_⟩;simpa[names,PU,Vs] using o) (λa s h=>h.elim)
 exact Μ.call (first:=first) (captured:=[]) (by rw[Ul,n];exact p)
def O7 (s:ω) (f:Found) (c n:Nat) (m:List Zu) (j:Nat):List Zu:=(((f.cells[c]?).getD []).take j).foldl (λm r=>O8 m (s.XS (f.u,f.v) r n) (f.many c)) m
def N2 (s:ω) (F:Zj) (c n i:Nat):List Zu:=(F.take i).foldl (λm f=>O7 s f c n m ((f.cells[c]?).getD []).length) []
def O6 (a:Int) (l:List Zu):Int:=l.foldl (λa e=>max a e.2) a
def IX (s:ω) (F:Zj) (c n:Nat):Int:=O6 0 (N2 s F c n F.length)
def N1 (s:ω) (F:Zj) (c:Nat) (b:TU) (n:Nat):TU:=(List.range n).foldl (λb (n:Nat)=>b.take c n (IX s F c n)) b
def O5 (s:ω) (F:Zj) (c:Nat):TU:=(List.range c).foldl (λb (c:Nat)=>N1 s F c b s.θ.length) ⟨0,0,0,false⟩
theorem wF (s:ω) (F:Zj) (c:Nat) (b:TU) (n:Nat):N1 s F c b (n+1)=(N1 s F c b n).take c n (IX s F c n):=by simp[N1,UB,Qn]
theorem wE (s:ω) (F:Zj) (c:Nat):O5 s F (c+1)=N1 s F c (O5 s F c) s.θ.length:=by simp[O5,UB,Qn]
theorem wD (s:ω) (f:Found) (c n:Nat) (m:List Zu) (j:Nat) (h:j<((f.cells[c]?).getD []).length):O7 s f c n m (j+1)=O8 (O7 s f c n m j) (s.XS (f.u,f.v) ((f.cells[c]?).getD [])[j] n) (f.many c):=by
 unfold O7;rw[Ws h,Qn];rfl
theorem wC (s:ω) (F:Zj) (c n i:Nat) (h:i<F.length):N2 s F c n (i+1)=O7 s F[i] c n (N2 s F c n i) ((F[i].cells[c]?).getD []).length:=by
 unfold N2;rw[Ws h,Qn];rfl
theorem wB {a:Int} {l m:List Zu} (h:l.Perm m):O6 a l=O6 a m:=h.foldl_eq' (λx _ y _ z=>J) a
def PN (s:ω) (F:Zj):Int×Int×Int×Int:=
 if(X9 s true F).2.2≠0 then(0,0,0,(X9 s true F).2.2)
 else let b:=O5 s F s.cells.length;if b.some=false\/b.least=XR F then(0,0,0,11) else(b.c,b.n,b.least,0)
structure IW (s:ω) (F:Zj):Prop where
 Tr:F.length<2 ^ 20
 cells:∀f∈F,f.cells.length=s.cells.length/\(∀c∈f.cells,c.length<2 ^ 20/\∀r∈c,r.1<s.χ.length/\r.2<s.χ.length)
 many:∀f∈F,f.cells.length<2 ^ 62/\∀(a:Int) i,i<=f.cells.length->WG f.cells a i<2 ^ 62
 count:XR F<2 ^ 62
theorem wA (s:ω) (K:s.small) (F:Zj) (aF:SV s F) (w:IW s F) :
  Κ prog 26 [Zq s] (.ZY [I (PN s F).1,I (PN s F).2.1,I (PN s F).2.2.1,I (PN s F).2.2.2]):=by
 refine Μ.body Ο func26 U U ntmps26 U U Ω ?_;refine Χ ?_;refine YQ ?_;refine YY (A:=[6]) Ο λo a=>Z9 ?_;refine Κ.d (M3 s K true F aF) (Z9 ?_);apply a;by_cases b:(X9 s true F).2.2=0
 case neg=>
  have e:PN s F=(0,0,0,(X9 s true F).2.2):=by unfold PN;rw[if_pos b]
  rw[e];generalize (X9 s true F).2.2=aG at b;refine Χ ?_;refine Ζ (by simp[b]) ?_;refine Χ ?_;refine W.drop (h:=0) (σ':=[]) (Α _) (Α _) Ω U [(2,I 0),(3,I 0),(4,I 0),(5,I aG)] Ω ?_;exact W.XL
 have e:X9 s true F=(s,F,0):=by
  unfold X9 at b ⊢;split at b
  .rename_i h;simp at b;exact absurd b h
  .split at b
   .simp at b
   .rename_i T aH;rw[if_neg T,if_neg aH]
 have Ρ:PN s F=let b:=O5 s F s.cells.length;if b.some=false\/b.least=XR F then(0,0,0,11) else(b.c,b.n,b.least,0):=by unfold PN;rw[if_neg (by simpa using b)]
 rw[Ρ,e];clear Ρ;refine W.fix (id:=0) (σ':=[]) (Α _) U Ω Ω U [(5,I 0),(6,ZV s),(7,Y3 F)] Ω ?_;refine Χ ?_;refine Η U ?_
 repeat apply Ν
 refine YY (A:=[8]) Ο λo a=>Z9 ?_;apply a;refine Χ ?_;have aW:s.cells.length<2 ^ 30:=K.2.2.1;have aX:s.θ.length<2 ^ 30:=K.2.1;have al:∀{b:TU} (g:List Zu),∀r∈[Row.cells 104 4 [TT b],.map (g.map VE)],XF [Row.cells 104 4 [TT b],.map (g.map VE)].length r:=λ{b} g r D=>by
  simp only[Y9,Yb,or_false] at D;rcases D with rfl|rfl
  .simp[XF,Ψ.cells]
  .intro e aI;obtain⟨x,_,rfl⟩:=YO.1 aI;simp
 refine W.iter (λc:Nat=>c<=s.cells.length) (λc=>[(6,ZV s),(7,Y3 F),(8,.Δ 0 1 0 0),(9,.fn (.func 76) [.Δ 0 1 0 0] []),(33,I s.cells.length),(34,I c)])
  (λc=>[.cells 104 4 [TT (O5 s F c)]]) (λc=>s.cells.length-c) 0 (Α _) U Ω (λc aY aJ=>?_)
 refine Χ ?_;refine W.YH U (λL=>?_) (λL=>?_)
 .have V:c<s.cells.length:=by simpa using L
  refine Χ ?_;obtain⟨am,an⟩:=Ε (O5 s F c);refine W.iter (λn:Nat=>n<=s.θ.length) (λn=>[(6,ZV s),(7,Y3 F),(8,.Δ 0 1 0 0),(9,.fn (.func 76) [.Δ 0 1 0 0] []),(10,I c),(33,I s.cells.length),(34,I c),(40,I s.θ.length),(41,I n)])
   (λn=>[.cells 104 4 [TT (N1 s F c am n)]]) (λn=>s.θ.length-n) 0 (Α _) (by rw[an];rfl) Ω (λn aZ aK=>?_)
  refine Χ ?_;refine W.YH U (λX=>?_) (λX=>?_)
  .have O:n<s.θ.length:=by simpa using X
   obtain⟨k,ao⟩:=Ε (N1 s F c am n);refine W.to (σ':=[.cells 104 4 [TT k]]) (env':=[(6,ZV s),(7,Y3 F),(8,.Δ 0 1 0 0),(9,.fn (.func 76) [.Δ 0 1 0 0] []),(10,I c),(33,I s.cells.length),(34,I c),(40,I s.θ.length),(41,I n)]) ?_ (by rw[ao]) Ω;refine Χ ?_;refine W.iter (λi:Nat=>i<=F.length) (λi=>[(6,ZV s),(7,Y3 F),(8,.Δ 0 1 0 0),(9,.fn (.func 76) [.Δ 0 1 0 0] []),(10,I c),(33,I s.cells.length),(34,I c),(40,I s.θ.length),(41,I n),(11,I n),(12,.mp 1),(45,Y3 F),(46,I F.length),(47,I i)])
    (λi=>[.cells 104 4 [TT k],.map ((N2 s F c n i).map VE)]) (λi=>F.length-i) 0 (Α _) U Ω (λi hi aL=>?_)
   refine Χ ?_;by_cases E:i<F.length
   .refine Ζ (by simp[E]) ?_;obtain⟨g,M⟩:=Ε (N2 s F c n i);have N:=wC s F c n i E;rw[<-M] at N;obtain⟨ap,aq⟩:=w.cells _ (Yx E);obtain⟨Y,Z⟩:=w.many _ (Yx E);generalize P:F[i]=f at N ap aq Y Z;have aa:c<f.cells.length:=by rw[ap];exact V
    refine W.to (σ':=[.cells 104 4 [TT k],.map (g.map VE)]) (env':=[(6,ZV s),(7,Y3 F),(8,.Δ 0 1 0 0),(9,.fn (.func 76) [.Δ 0 1 0 0] []),(10,I c),(33,I s.cells.length),(34,I c),(40,I s.θ.length),(41,I n),(11,I n),(12,.mp 1),(45,Y3 F),(46,I F.length),(47,I i)]) ?_ (by rw[M]) Ω
    repeat apply Ν
    refine YY (A:=[14]) Ο λo a=>XK (Υ E P) ?_;apply a;refine W.UZ (σ0:=[.cells 104 4 [TT k],.map (g.map VE)]) (Α _) (al _) Ω [(14,.ξ [I f.u,I f.v,TZ f.cells]),(6,ZV s),(7,Y3 F),(8,.Δ 0 1 0 0),(9,.fn (.func 76) [.Δ 0 1 0 0] []),(10,I c),(33,I s.cells.length),(34,I c),(40,I s.θ.length),(41,I n),(11,I n),(12,.mp 1),(45,Y3 F),(46,I F.length),(47,I i)] (by simp[Wb,P0]) ?_;refine Ι aa ?_;have ar:(f.cells[c]?).getD []=f.cells[c]:=by simp[aa]
    rw[ar] at N;have au:=aq _ (Yx aa);have ab:=wD s f c n g;rw[ar] at ab;generalize f.cells[c]=C at N au ab;obtain⟨a0,aM⟩:=au;refine W.iter (λj:Nat=>j<=C.length) (λj=>[(14,.ξ [I f.u,I f.v,TZ f.cells]),(6,ZV s),(7,Y3 F),(8,.Δ 0 1 0 0),(9,.fn (.func 76) [.Δ 0 1 0 0] []),(10,I c),(33,I s.cells.length),(34,I c),(40,I s.θ.length),(41,I n),(11,I n),(12,.mp 1),(45,Y3 F),(46,I F.length),(47,I i),(55,UK C),(56,I C.length),(57,I j)])
     (λj=>[.cells 104 4 [TT k],.map ((O7 s f c n g j).map VE)]) (λj=>C.length-j) 0 (Α _) (by simp[O7]) Ω (λj a1 av=>?_)
    refine Χ ?_;by_cases H:j<C.length
    .refine Ζ (by simp[H]) ?_;obtain⟨ad,aw⟩:=Ε (O7 s f c n g j);have Q:=ab j H;rw[<-aw] at Q;refine W.to (σ':=[.cells 104 4 [TT k],.map (ad.map VE)]) (env':=[(14,.ξ [I f.u,I f.v,TZ f.cells]),(6,ZV s),(7,Y3 F),(8,.Δ 0 1 0 0),(9,.fn (.func 76) [.Δ 0 1 0 0] []),(10,I c),(33,I s.cells.length),(34,I c),(40,I s.θ.length),(41,I n),(11,I n),(12,.mp 1),(45,Y3 F),(46,I F.length),(47,I i),(55,UK C),(56,I C.length),(57,I j)]) ?_ (by rw[aw]) Ω;obtain⟨ae,af⟩:=aM _ (Yx H);generalize D:C[j]=r at Q ae af
     repeat apply Ν
     refine YY (A:=[16]) Ο λo a=>XK (Υ H D) ?_;apply a;refine W.UZ (σ0:=[.cells 104 4 [TT k],.map (ad.map VE)]) (Α _) (al _) Ω [(16,.ξ [I r.1,I r.2]),(14,.ξ [I f.u,I f.v,TZ f.cells]),(6,ZV s),(7,Y3 F),(8,.Δ 0 1 0 0),(9,.fn (.func 76) [.Δ 0 1 0 0] []),(10,I c),(33,I s.cells.length),(34,I c),(40,I s.θ.length),(41,I n),(11,I n),(12,.mp 1),(45,Y3 F),(46,I F.length),(47,I i),(55,UK C),(56,I C.length),(57,I j)] (by simp[Wb,P0]) ?_
     repeat apply Ν
     have S:=Yn H (show C.length<2 ^ 62 by omega);rcases wH (s.XS (f.u,f.v) r n) (f.many c) ad 0 with⟨l,ag⟩|⟨m,v,a2,l,ag⟩
     .refine W.draw (A:=[]) Ο mixed λo a=>?_;simp;(repeat (rw[Z1];simp[l,Vv]));try rw[Z2]
      refine Zc (Κ.p (Lv s K (f.u,f.v) r n O ae af) (ZN.refl _) Ω Ω) ?_;simp[l,Vv];(repeat (rw[Z1];simp[l,Vv]));try rw[Z2]
      refine Zc (Κ.p (I8 f c Y (Z c)) (ZN.refl _) Ω Ω) ?_;simp[l,Vv];(repeat (rw[Z1];simp[l,Vv]));try rw[Z2]
      refine Zf (a _ _ ?_);refine Ι S ?_;refine W.to (av (j+1) H J) ?_ ?_
      .rw[Q,ag];simp
      .simp[S]
     .refine W.draw (A:=[]) Ο mixed λo a=>?_;simp;(repeat (rw[Z1];simp[l,Vv]));try rw[Z2]
      refine Zc (Κ.p (Lv s K (f.u,f.v) r n O ae af) (ZN.refl _) Ω Ω) ?_;simp[l,Vv];(repeat (rw[Z1];simp[l,Vv]));try rw[Z2]
      refine Zc (Κ.p (I8 f c Y (Z c)) (ZN.refl _) Ω Ω) ?_;simp[l,Vv];(repeat (rw[Z1];simp[l,Vv]));try rw[Z2]
      refine Zf (a _ _ ?_);refine Ι S ?_;refine W.to (av (j+1) H J) ?_ ?_
      .rw[Q,ag];simp
      .simp[S]
    .have aN:j=C.length:=J
     subst aN;have ax:=Yn E (show F.length<2 ^ 62 by have:=w.Tr;omega);refine Η Ω ?_;refine W.exit U ?_;refine Ι ax ?_;refine W.to (aL (i+1) E J) ?_ ?_
     .rw[N]
     .simp[ax]
   .have aO:i=F.length:=J
    subst aO;refine Η Ω ?_;refine W.exit U ?_;obtain⟨g,M⟩:=Ε (N2 s F c n F.length);have aP:IX s F c n=O6 0 g:=by rw[M];rfl
    refine W.to (σ':=[.cells 104 4 [TT k],.map (g.map VE)]) (env':=[(6,ZV s),(7,Y3 F),(8,.Δ 0 1 0 0),(9,.fn (.func 76) [.Δ 0 1 0 0] []),(10,I c),(33,I s.cells.length),(34,I c),(40,I s.θ.length),(41,I n),(11,I n),(12,.mp 1)]) ?_ (by rw[M]) Ω;refine Χ ?_;refine W.iter (λx:Int×List Zu×Option (Ψ×Ψ)=>O6 x.1 x.2.1=O6 0 g) (λx=>[(6,ZV s),(7,Y3 F),(8,.Δ 0 1 0 0),(9,.fn (.func 76) [.Δ 0 1 0 0] []),(10,I c),(33,I s.cells.length),(34,I c),(40,I s.θ.length),(41,I n),(11,I n),(12,.mp 1),(17,I x.1),(76,.it 2)])
     (λx=>[.cells 104 4 [TT k],.map (g.map VE),.iter 1 (x.2.1.map VE) x.2.2]) (λx=>x.2.1.length) (0,g,none) U U Ω (λx ah aQ=>?_)
    obtain⟨t,R,a3⟩:=x;simp only at ah
    repeat apply Ν
    cases R with
    | nil=>
     refine Z8 λo a=>?_;apply a
     repeat apply Ν
     refine Η U ?_;refine W.exit U ?_;have ai:t=IX s F c n:=by rw[aP,<-ah];rfl
     have ay:=Yn O (show s.θ.length<2 ^ 62 by omega);refine Z8 λo a=>?_;refine Μ.wG (as0:=[.Δ 0 1 0 0,.ZW [I c,I n],I t]) (wI k c n t) 0 U (by simp[VU,Ψ.cells]) (by simp[VU,Ψ.cells]) (by simp[Xr,T0]) (by simp[Xr]) U ?_;simp[Yh,Wx];(repeat (rw[Θ];simp));apply a;refine W.drop (h:=1) (σ':=[.cells 104 4 [TT (k.take c n t)]]) (Α _) Ω (λid r a4 D=>?_) U [(6,ZV s),(7,Y3 F),(8,.Δ 0 1 0 0),(9,.fn (.func 76) [.Δ 0 1 0 0] []),(10,I c),(33,I s.cells.length),(34,I c),(40,I s.θ.length),(41,I n)] (by simp[Wb]) ?_
     .obtain rfl:id=0:=J
      simp at D;subst D;simp[XF,Ψ.cells]
     refine Ι ay ?_;refine W.to (aK (n+1) O J) ?_ ?_
     .rw[wF,<-ao,ai]
     .simp[ay]
    | cons y R=>
     refine Z8 λo a=>?_;intro m aj;obtain⟨x,az⟩:=Ε ((y::R)[m]'(by simpa using aj));have aR:(VE y::List.map VE R)[m]?=some (VE x):=by
      have:(List.map VE (y::R))[m]?=some (VE x):=by
       rw[Yc,Z7 (by simpa using aj),az];rfl
      simpa using this
     have aS:(VE y::List.map VE R).eraseIdx m=((y::R).eraseIdx m).map VE:=Dm VE (y::R) m;rw[aR,aS];simp;(repeat (rw[Θ];simp));apply a
     repeat apply Ν
     refine Ζ U ?_;refine Χ ?_;have aA:m<(y::R).length:=by simpa using aj
     have aT:O6 (max t x.2) ((y::R).eraseIdx m)=O6 0 g:=by
      rw[<-ah,<-wB (Dp (y::R) m aA),<-az];rfl
     have ai:max t x.2=if t<x.2 then x.2 else t:=by split<;>omega
     refine W.to (aQ (max t x.2,(y::R).eraseIdx m,some (VE x)) aT (by simp only[List.length_eraseIdx,aA,if_true];omega)) ?_ ?_
     .simp
     .simp[ai]
  .have aU:n=s.θ.length:=by simp at X;omega
   subst aU;have aB:=Yn V (show s.cells.length<2 ^ 62 by omega);refine W.exit U ?_;refine Ι aB ?_;refine W.to (aJ (c+1) V J) ?_ ?_
   .rw[wE,<-an]
   .simp[aB]
 .have L:c=s.cells.length:=by simp at L;omega
  subst L;refine W.exit U ?_;refine Χ ?_;obtain⟨⟨aC,aD,ak,aE⟩,aV⟩:∃B,B=O5 s F s.cells.length:=⟨_,U⟩;rw[<-aV];refine W.fix (id:=0) (σ':=[]) (Α _) U Ω Ω U [(7,Y3 F),(8,.ξ [I aC,I aD,I ak,ν aE])] Ω ?_;have T:∀f∈F,f.cells.length<2 ^ 62/\∀i,i<=f.cells.length->WG f.cells (-1) i<2 ^ 62:=λf P=>⟨(w.many f P).1,(w.many f P).2 (-1)⟩;cases aE
  .refine Pd ?_;refine Ζ U ?_;refine Χ ?_;refine W.drop (h:=0) (σ':=[]) (Α _) (Α _) Ω U [(2,I 0),(3,I 0),(4,I 0),(5,I 11)] Ω ?_;refine W.rt ?_;exact .of Ω
  .refine W.draw (A:=[]) Ο mixed λo a=>Xa ?_;refine Zc (Κ.p (DN F (by have:=w.Tr;omega) T w.count) (ZN.refl _) Ω Ω) ?_;simp;(repeat (rw[Z1];simp));try rw[Z2]
   refine Zf (a _ _ ?_);by_cases q:ak=XR F
   .refine Ζ (by simp[q]) ?_;refine Χ ?_;refine W.drop (h:=0) (σ':=[]) (Α _) (Α _) Ω U [(2,I 0),(3,I 0),(4,I 0),(5,I 11)] Ω ?_;refine W.ZA ?_;simp[q]
   .refine Η (by simp[q]) ?_;refine Χ ?_;refine Pd ?_;refine W.drop (h:=0) (σ':=[]) (Α _) (Α _) Ω U [(2,I aC),(3,I aD),(4,I ak),(5,I 0)] Ω ?_;refine W.ZA ?_;simp[q]
theorem wz (l:ZZ) (B:l.length<2 ^ 30) :
  Μ prog 85 [.ms 0 l.length 0 l.length] [.cells 3 1 (l.map I)] (λr s=>(∃e k,r=.sl e k (l.map I)/\(l≠[]->k=1))/\s=[.cells 3 1 (l.map I)]) (λ_ _=>False):=by
 refine Μ.body Ο func85 U U ntmps85 U U Ω ?_;have o:l.length<=4294967295:=J;by_cases d:l=[]
 .subst d;refine Χ ?_;refine Z8 λf b=>?_;intro j C;apply b;by_cases i:j=1
  .refine Ζ (by simp[i]) ?_;refine Χ ?_;exact W.ret ⟨_,U,⟨true,0,U,λh=>absurd U h⟩,U⟩
  .refine Η (by simp[i]) ?_
   repeat apply Ν
   refine YY (A:=[5,7]) Ο λf b=>Z9 ?_;apply b;refine W.cut 1 (Z6 _) [(2,.sl false 1 [])] Ω (λid r u c=>?_) (λp g=>?_) ?_
   .obtain rfl:id=0:=J
    simp at c;subst c;simp[XF]
   .obtain rfl:p=(2,.sl false 1 []):=by simpa using g
    exact X'.own (id:=1) (t:=3) (Z6 _) U Ω Ω
   .exact W.ret ⟨_,U,⟨false,1,U,λ_=>rfl⟩,U⟩
 .refine Χ ?_;refine XD d λf b=>?_;apply b;refine Η U ?_
  repeat apply Ν
  have v:List.take l.length (l.map I)=l.map I:=VP Ω
  have w:l.length<=4294967296:=J;refine YY (A:=[5,7]) Ο λf b=>XK (Υ o (Υ d (Υ v w))) ?_;apply b;have m:∀e∈l.map I,∀a∈e.cells,ς 1 a:=λe y a n=>by
   obtain⟨x,_,rfl⟩:=YO.1 y;simp[Ψ.cells] at n;subst n;simp
  refine W.cut 1 (Z6 _) [(2,.sl false 1 (l.map I))] Ω (λid r u c=>?_) (λp g=>?_) ?_
  .obtain rfl:id=0:=J
   simp at c;subst c;exact m
  .obtain rfl:p=(2,.sl false 1 (l.map I)):=by simpa using g
   exact X'.own (id:=1) (t:=3) (Z6 _) U Ω m
  .exact W.ret ⟨_,U,⟨false,1,U,λ_=>rfl⟩,U⟩
abbrev O4 (k:ZZ):Ψ:=.ZW (k.map I)
abbrev RZ (e:ZZ×Int):Ψ×Ψ:=(O4 e.1,I e.2)
def Lq (m:List (ZZ×Int)):Prop:=∀e∈m,e.1.length=4
theorem wy (x y:ZZ) (e:x.length=4) (f:y.length=4):aeqv ZS 157 (O4 x) (O4 y)=some (decide (x=y)):=by
 match x,e,y,f with
 | [a,b,c,d],_,[g,h,c',i],_=>
  simp[aeqv,U6,Tx,Pu]
def UH:List (ZZ×Int)->ZZ->Int->List (ZZ×Int)
 | [],k,v=>[(k,v)]
 | e::r,k,v=>if k=e.1 then(k,v)::r else e::UH r k v
def N0:List (ZZ×Int)->ZZ->Option Int
 | [],_=>none
 | e::r,k=>if k=e.1 then some e.2 else N0 r k
theorem wx (k:ZZ) (l:k.length=4):∀(m:List (ZZ×Int)) (d:Nat),Lq m->(V3 ZS 157 (O4 k) (m.map RZ) d=some none/\N0 m k=none/\∀v,UH m k v=m++[(k,v)])\/
  ∃i x,i<m.length/\V3 ZS 157 (O4 k) (m.map RZ) d=some (some (d+i,I x))/\N0 m k=some x/\∀v,UH m k v=m.set i (k,v):=by
 intro m
 induction m with
 | nil=>intro d _;exact .inl ⟨rfl,rfl,λ_=>rfl⟩
 | cons e r n=>
  intro d f;have a:=wy k e.1 l (f e Ω);by_cases h:k=e.1
  .refine .inr ⟨0,e.2,Ω,?_,by simp[N0,h],λv=>by simp[UH,h]⟩;simp only[WZ,V3,a];simp[h]
  .have g:decide (k=e.1)=false:=by simpa using h
   rcases n (d+1) (λx o=>f x (by simp[o])) with⟨j,b,c⟩|⟨i,x,j,b,c,p⟩
   .refine .inl ⟨?_,by simp[N0,h,b],λv=>by simp[UH,h,c]⟩;simp only[WZ,V3,a,g,cond_false];exact j
   .refine .inr ⟨i+1,x,by simp;omega,?_,by simp[N0,h,c],λv=>by simp[UH,h,p]⟩;simp only[WZ,V3,a,g,cond_false];rw[b];have:d+1+i=d+(i+1):=J;rw[this]
theorem Dl {m:List (ZZ×Int)} (h:Lq m) {k:ZZ} (b:k.length=4) (v:Int):Lq (UH m k v):=by
 induction m with
 | nil=>intro e he;simp[UH] at he;subst he;exact b
 | cons a r c=>
  intro e he;unfold UH at he;split at he
  .rcases Y9.1 he with rfl|he
   .exact b
   .exact h e (by simp[he])
  .rcases Y9.1 he with rfl|he
   .exact h _ Ω
   .exact c (λx d=>h x (by simp[d])) e he
def RY (s:ω) (p r:Int×Int) (L:ο) (k:Nat):ZZ:=((L.take k).map λx=>s.XS p r x)++List.replicate (4-k) 0
theorem Dk {s:ω} {p r:Int×Int} {L:ο} {k:Nat} (a:k<=L.length) (b:L.length<=4):(RY s p r L k).length=4:=by simp[RY];omega
theorem wv {s:ω} {p r:Int×Int} {L:ο} {k:Nat} (b:k<L.length) (d:L.length<=4):(RY s p r L k).take k++s.XS p r L[k]::(RY s p r L k).drop (k+1)=RY s p r L (k+1):=by
 have a:((L.take k).map λx=>s.XS p r x).length=k:=by simp;omega
 have Ρ:4-k=(4-(k+1))+1:=J;unfold RY;rw[List.take_left' a,List.drop_append,NG J,a,Ws b,XA,Ρ,List.replicate_succ];have c:k+1-k=1:=J;rw[c];simp
abbrev M1:=Option (List (ZZ×Int))
def M0 (m:M1) (k:ZZ) (v:Int):M1:=m.bind λm=>match N0 m k with|some x=>if x=v then some (UH m k v) else none|none=>some (UH m k v)
def Tq (s:ω) (f:Found) (cell:Nat) (lower:Bool) (L:ο) (m:M1) (j:Nat):M1:=(((f.cells[cell]?).getD []).take j).foldl (λm r=>M0 m (RY s (f.u,f.v) r L L.length) (WR lower r)) m
def O3 (s:ω) (F:Zj) (cell:Nat) (lower:Bool) (L:ο) (i:Nat):M1:=(F.take i).foldl (λm f=>Tq s f cell lower L m ((f.cells[cell]?).getD []).length) (some [])
def QL (s:ω) (F:Zj) (cell:Nat) (lower:Bool) (L:ο):Bool:=(O3 s F cell lower L F.length).isSome
theorem wu (s:ω) (f:Found) (cell:Nat) (lower:Bool) (L:ο) (m:M1) (j:Nat) (h:j<((f.cells[cell]?).getD []).length):Tq s f cell lower L m (j+1)=M0 (Tq s f cell lower L m j) (RY s (f.u,f.v) ((f.cells[cell]?).getD [])[j] L L.length) (WR lower ((f.cells[cell]?).getD [])[j]):=by
 unfold Tq;rw[Ws h,Qn];rfl
theorem Dj (s:ω) (F:Zj) (cell:Nat) (lower:Bool) (L:ο) (i:Nat) (h:i<F.length):O3 s F cell lower L (i+1)=Tq s F[i] cell lower L (O3 s F cell lower L i) ((F[i].cells[cell]?).getD []).length:=by
 unfold O3;rw[Ws h,Qn];rfl
theorem Di (l:List Zu) (k:Zu->ZZ) (v:Int×Int->Int):l.foldl (λm r=>M0 m (k r) (v r)) none=none:=by
 induction l with
 | nil=>rfl
 | cons a l b=>exact b
theorem wq (s:ω) (F:Zj) (cell:Nat) (lower:Bool) (L:ο) {i j:Nat} (hi:i<F.length) (d:j<=((F[i].cells[cell]?).getD []).length) (h:Tq s F[i] cell lower L (O3 s F cell lower L i) j=none):QL s F cell lower L=false:=by
 have b:Tq s F[i] cell lower L (O3 s F cell lower L i) ((F[i].cells[cell]?).getD []).length=none:=by
  unfold Tq at h ⊢;rw[NB]
  conv=>lhs;rw[<-OK j ((F[i].cells[cell]?).getD [])]
  rw[Qn,h];exact Di _ _ _
 rw[<-Dj s F cell lower L i hi] at b;unfold QL;unfold O3 at b ⊢;rw[NB]
 conv=>lhs;rw[<-OK (i+1) F]
 rw[Qn,b];have:∀l:Zj,(l.foldl (λm f=>Tq s f cell lower L m ((f.cells[cell]?).getD []).length) none)=none:=λl=>by
  induction l with
  | nil=>rfl
  | cons a l c=>
   rw[List.foldl_cons];have:Tq s a cell lower L none ((a.cells[cell]?).getD []).length=none:=by unfold Tq;exact Di _ _ _
   rw[this];exact c
 rw[this];rfl
abbrev Xg (L:ο):Row:=.cells 3 1 (L.map λn:Nat=>I n)
theorem GM {h:Nat} {L:ο}:XF h (Xg L):=λe c a b=>by
 obtain⟨x,_,rfl⟩:=YO.1 c;simp[Ψ.cells] at b;subst b;simp
theorem wm (s:ω) (aB:s.small) (F:Zj) (ak:IW s F) (cell:Nat) (aC:cell<s.cells.length) (lower:Bool) (L:ο) (ab:L.length<=4) (aD:∀x∈L,x<s.θ.length) :
  Μ prog 84 [Zq s,Y3 F,I cell,ν lower,.ms 0 L.length 0 L.length] [Xg L] (λr σ=>r=ν (QL s F cell lower L)/\σ=[Xg L]) (λ_ _=>False):=by
 refine Μ.body Ο func84 U U ntmps84 U U Ω ?_;refine Χ ?_;have S:∀n:List (ZZ×Int),∀r∈[Xg L,.map (n.map RZ)],XF [Xg L,.map (n.map RZ)].length r:=λn r T=>by
  simp only[Y9,Yb,or_false] at T;rcases T with rfl|rfl
  .exact GM
  .intro e ad;obtain⟨x,_,rfl⟩:=YO.1 ad;simp
 refine W.iter (λx:Nat×List (ZZ×Int)=>x.1<=F.length/\O3 s F cell lower L x.1=some x.2/\Lq x.2) (λ(i,_)=>[(2,I cell),(3,ν lower),(4,.ms 0 L.length 0 L.length),(5,ZV s),(11,.mp 1),(23,Y3 F),(24,I F.length),(25,I i)])
  (λ(_,n)=>[Xg L,.map (n.map RZ)]) (λx=>F.length-x.1) (0,[]) ⟨Α _,U,λe ad=>by cases ad⟩ U Ω (λx ae aE=>?_)
 obtain⟨i,n⟩:=x;obtain⟨hi,af,al⟩:=ae;simp only at hi af al ⊢;refine Χ ?_;by_cases B:i<F.length
 .refine Ζ (by simp[B]) ?_;have M:=Dj s F cell lower L i B;have N:=λj=>wq s F cell lower L (i:=i) (j:=j) B;rw[af] at M N;obtain⟨am,an⟩:=ak.cells _ (Yx B);generalize aF:F[i]=f at M N am an;have ag:cell<f.cells.length:=by rw[am];exact aC
  repeat apply Ν
  refine YY (A:=[13]) Ο λD l=>XK (Υ B aF) ?_;apply l;refine W.UZ (σ0:=[Xg L,.map (n.map RZ)]) Ω (S _) Ω [(13,.ξ [I f.u,I f.v,TZ f.cells]),(2,I cell),(3,ν lower),(4,.ms 0 L.length 0 L.length),(5,ZV s),(11,.mp 1),(23,Y3 F),(24,I F.length),(25,I i)] (by simp[Wb,P0,Tw]) ?_;refine Ι ag ?_;have ao:(f.cells[cell]?).getD []=f.cells[cell]:=by simp[ag]
  rw[ao] at M N;have ap:=an _ (Yx ag);have ah:=wu s f cell lower L (some n);rw[ao] at ah;generalize f.cells[cell]=C at M ap ah N;obtain⟨aM,aG⟩:=ap;refine W.iter (λx:Nat×List (ZZ×Int)=>x.1<=C.length/\Tq s f cell lower L (some n) x.1=some x.2/\Lq x.2) (λ(j,_)=>[(2,I cell),(3,ν lower),(4,.ms 0 L.length 0 L.length),(5,ZV s),(11,.mp 1),(23,Y3 F),(24,I F.length),(25,I i),(13,.ξ [I f.u,I f.v,TZ f.cells]),(33,UK C),(34,I C.length),(35,I j)])
   (λ(_,n)=>[Xg L,.map (n.map RZ)]) (λx=>C.length-x.1) (0,n) ⟨Α _,U,al⟩ U Ω (λx ae aq=>?_)
  obtain⟨j,o⟩:=x;obtain⟨aH,ai,O⟩:=ae;simp only at aH ai O ⊢;refine Χ ?_;by_cases y:j<C.length
  .refine Ζ (by simp[y]) ?_;have H:=ah j y;rw[ai] at H;obtain⟨ar,au⟩:=aG _ (Yx y);generalize T:C[j]=r at H ar au
   repeat apply Ν
   refine YY (A:=[15]) Ο λD l=>XK (Υ y T) ?_;apply l;refine W.UZ (σ0:=[Xg L,.map (o.map RZ)]) Ω (S _) Ω [(15,.ξ [I r.1,I r.2]),(2,I cell),(3,ν lower),(4,.ms 0 L.length 0 L.length),(5,ZV s),(11,.mp 1),(23,Y3 F),(24,I F.length),(25,I i),(13,.ξ [I f.u,I f.v,TZ f.cells]),(33,UK C),(34,I C.length),(35,I j)] (by simp[Wb,P0,Tw]) ?_
   repeat apply Ν
   refine YY (A:=[16]) Ο λD l=>Z9 ?_;apply l;refine Χ ?_;refine W.iter (λk:Nat=>k<=L.length) (λk=>[(2,I cell),(3,ν lower),(4,.ms 0 L.length 0 L.length),(5,ZV s),(11,.mp 1),(23,Y3 F),(24,I F.length),(25,I i),(13,.ξ [I f.u,I f.v,TZ f.cells]),(33,UK C),(34,I C.length),(35,I j),(15,.ξ [I r.1,I r.2]),(16,.Δ 2 1 0 0),(39,.ms 0 L.length 0 L.length),(40,I L.length),(41,I k)])
    (λk=>[Xg L,.map (o.map RZ),.cells 157 4 [O4 (RY s (f.u,f.v) r L k)]]) (λk=>L.length-k) 0 (Α _) (by simp[RY]) Ω (λk aN av=>?_)
   refine Χ ?_;by_cases E:k<L.length
   .refine Ζ (by simp[E]) ?_;have V:(k:Int)<4:=J;have aw:k<=3:=J;have ax:=wv (s:=s) (p:=(f.u,f.v)) (r:=r) E ab;have m:=Dk (s:=s) (p:=(f.u,f.v)) (r:=r) (SM E) ab;have aI:=aD _ (Yx E);obtain⟨K,l⟩:=Ε (RY s (f.u,f.v) r L k);rw[<-l] at ax m ⊢;refine Ι (Υ E (Υ V m)) ?_;refine XD (Υ V m) λD l=>?_;refine Κ.c (Lv s aB (f.u,f.v) r L[k] aI ar au) (ZN.refl _) Ω Ω ?_;simp[V,aw,m];(repeat (rw[Θ];simp[V,aw,m]));apply l;have ay:=Yn E (show L.length<2 ^ 62 by omega);refine Ι ay ?_;refine W.to (av (k+1) E J) ?_ ?_
    .rw[<-ax];simp
    .simp[ay]
   .have aJ:k=L.length:=J
    subst aJ;refine Η Ω ?_;refine W.exit U ?_;have m:=Dk (s:=s) (p:=(f.u,f.v)) (r:=r) (Z6 _) ab;obtain⟨K,l⟩:=Ε (RY s (f.u,f.v) r L L.length);obtain⟨v,hv⟩:=Ε (WR lower r);rw[<-l,<-hv] at H;rw[<-l] at m ⊢
    repeat apply Ν
    refine W.Ry (A:=[]) Ο [(2,I cell),(3,ν lower),(4,.ms 0 L.length 0 L.length),(5,ZV s),(11,.mp 1),(23,Y3 F),(24,I F.length),(25,I i),(13,.ξ [I f.u,I f.v,TZ f.cells]),(33,UK C),(34,I C.length),(35,I j),(15,.ξ [I r.1,I r.2]),(16,.Δ 2 1 0 0),(19,I v)] ?_ (by
     rw[hv];cases lower
     all_goals
      (try simp);(repeat (rw[Θ];simp));(try simp);refine Κ.d (GZ _) (Z9 ?_);simp[WR])
    clear av hv;have az:=Yn y (show C.length<2 ^ 62 by omega);have aO:Sz [Xg L,.map (o.map RZ),.cells 157 4 [O4 K]] 1=true:=by simp[Sz]
    have X:SA ZS 157 (O4 K)=true:=by
     match K,m with
     | [a,b,c,d],_=>simp[SA,U6,Tx]
    have Y:List.take 4 (K.map I)=K.map I:=VP (by simp[m]);rcases wx K m o 0 O with⟨P,Z,t⟩|⟨aP,x,aQ,P,Z,t⟩
    .have t:=t v
     have Q:Tq s f cell lower L (some n) (j+1)=some (UH o K v):=by rw[H];simp[M0,Z]
     (repeat (first|apply Ν|(refine YZ λD l=>?_;simp;(repeat (rw[Θ];simp[P,X,Y,m,-SA]));apply l)));refine Η U ?_;(repeat (first|apply Ν|(refine YZ λD l=>?_;simp;(repeat (rw[Θ];simp[P,X,Y,m,-SA]));apply l)));refine W.drop (h:=2) (σ':=[Xg L,.map ((UH o K v).map RZ)]) Ω Ω (λid w R g=>XF.mono (S (UH o K v) w (by
      match id,R,g with
      | 0,_,g=>simp at g;subst g;simp
      | 1,_,g=>simp[t] at g;subst g;simp[t])) Ω) (by simp[t]) [(2,I cell),(3,ν lower),(4,.ms 0 L.length 0 L.length),(5,ZV s),(11,.mp 1),(23,Y3 F),(24,I F.length),(25,I i),(13,.ξ [I f.u,I f.v,TZ f.cells]),(33,UK C),(34,I C.length),(35,I ((j:Int)+1))] (by simp[Wb,P0,Tw,az]) ?_
     refine W.to (aq (j+1,UH o K v) ⟨y,Q,Dl O m v⟩ (by simp only;omega)) U ?_;simp
    .have t:=t v;(repeat (first|apply Ν|(refine YZ λD l=>?_;simp;(repeat (rw[Θ];simp[P,X,Y,m,-SA]));apply l)));by_cases aa:x=v
     .have Q:Tq s f cell lower L (some n) (j+1)=some (UH o K v):=by rw[H];simp[M0,Z,aa]
      refine Η (by simp[aa]) ?_;(repeat (first|apply Ν|(refine YZ λD l=>?_;simp;(repeat (rw[Θ];simp[P,X,Y,m,-SA]));apply l)));refine W.drop (h:=2) (σ':=[Xg L,.map ((UH o K v).map RZ)]) Ω Ω (λid w R g=>XF.mono (S (UH o K v) w (by
       match id,R,g with
       | 0,_,g=>simp at g;subst g;simp
       | 1,_,g=>simp[t] at g;subst g;simp[t])) Ω) (by simp[t]) [(2,I cell),(3,ν lower),(4,.ms 0 L.length 0 L.length),(5,ZV s),(11,.mp 1),(23,Y3 F),(24,I F.length),(25,I i),(13,.ξ [I f.u,I f.v,TZ f.cells]),(33,UK C),(34,I C.length),(35,I ((j:Int)+1))] (by simp[Wb,P0,Tw,az]) ?_
      refine W.to (aq (j+1,UH o K v) ⟨y,Q,Dl O m v⟩ (by simp only;omega)) U ?_;simp
     .have Q:Tq s f cell lower L (some n) (j+1)=none:=by rw[H];simp[M0,Z,aa]
      have aj:=N (j+1) y Q;rw[aj];refine Ζ (by simp[aa]) ?_;refine Χ ?_;refine W.drop (h:=1) (σ':=[Xg L]) Ω Ω (λid w R g=>by
       obtain rfl:id=0:=J;simp at g;subst g;exact GM) U [(10,ν false)] Ω ?_
      exact W.ret ⟨_,U,U,U⟩
  .have aK:j=C.length:=J
   subst aK;have aA:=Yn B (show F.length<2 ^ 62 by have:=ak.Tr;omega);refine Η Ω ?_;refine W.exit U ?_;refine Ι aA ?_;refine W.to (aE (i+1,o) ⟨B,by rw[M];exact ai,O⟩ (by simp only;omega)) U ?_;simp[aA]
 .have aL:i=F.length:=J
  subst aL;have aj:QL s F cell lower L=true:=by unfold QL;rw[af];rfl
  rw[aj];refine Η Ω ?_;refine W.exit U ?_;refine Χ ?_;refine W.drop (h:=1) (σ':=[Xg L]) Ω Ω (λid w R g=>by
   obtain rfl:id=0:=J;simp at g;subst g;exact GM) U [(10,ν true)] Ω ?_
  exact W.ret ⟨_,U,U,U⟩
end Go.TL
namespace Go.TL
open Go.Proofs.Tryz
open Go.Conc Go.Proofs
variable [ZP]
section
variable {P:Program} {Q:Value->Prop} {mn:Bool} {x:WA} {cs rest:YU} {H:Τ} {b f c:Frame} {t:ζ} {k:Zz} {fn:Func}
theorem Φ.getLoop {L:Nat} {r:Loop} (h:H.obj L=some (.loop r)) {K:Loop->Τ->Prop} {E:Value->Τ->Prop} (a:K r H):Φ P (Instr.getLoop L) H K E:=by
 unfold Instr.getLoop;refine Φ.bind' ?_;exact⟨_,h,U,Φ.pure' a⟩
theorem Φ.GL {L:Nat} {r r':Loop} (h:H.obj L=some (.loop r)) {K:Unit->Τ->Prop} {E:Value->Τ->Prop} (a:K () (H.Zx L (.loop r'))):Φ P (setObj L (.loop r')) H K E:=
 ⟨⟨_,h⟩,U,U,Φ.pure' a⟩
abbrev Dh (st:LoopState) (b:Option Code) (f:FuncId) (t:ζ) (c:Array Tmp) (a e:Code) (d:Nat):Loop:={state:=st,pending:=b,fn:=f,tmps:=t,params:=c,assign:=a,body:=e,defers:=d}
theorem γ.rangeFunc (n:Seq x) (o:b.mode=.run) (p:b.roundOf=none) {fo:Operand} {i:Array Tmp} {assign body:Code} {g:FuncId} {f:ζ} (r:ZJ t fo=.func (.func g) #[] f) (s:Plain P g)
  (h:∀c a,H.fresh c->(H.Zx c (.deferred (some []))).fresh a->γ P Q mn x (Frame.enter P g (#[.func (.yield a) #[] #[]]++f) .normal) ({π b t (.inRangeFunc a::k) with defers:=⟨.collected c,#[]⟩::b.defers}::cs)
   ((H.Zx c (.deferred (some []))).Zx a (.loop (Dh .ready none b.fn t i assign body c)))) :
  γ P Q mn x (π b t (.code (.rangeFunc fo i assign body)::k)) cs H:=by
 refine .own n λw u=>?_;have y:Φ P (Instr.enterLoop b.fn t i assign body none) H (λv H'=>∃c a,H.fresh c/\(H.Zx c (.deferred (some []))).fresh a/\v=(a,[⟨.collected c,#[]⟩])/\H'=(H.Zx c (.deferred (some []))).Zx a (.loop (Dh .ready none b.fn t i assign body c))) (λ_ _=>False):=by
  unfold Instr.enterLoop;refine Φ.bind' (λc j=>Φ.pure' (Φ.bind' (Φ.pure' ?_)));refine Φ.bind' (λa l=>Φ.pure' (Φ.pure' ?_));exact⟨c,a,j,l,U,U⟩
 obtain⟨H',w',es',A,B⟩:=Φ.sound (P:=P) (G0:=H) (w0:=w) _ y (Ye.start u);rcases B with⟨v,m,c,a,j,l,rfl,rfl⟩|⟨v,m,C⟩
 .refine⟨_,_,w',seen P b.fn es',_,?_,A.sub λe D=>mem_seen D,h c a j l⟩;have E:∀F:Frame,F.tmps=t->resolve F.eval {callee:=.value fo,args:=#[.const (.func (.yield a) #[] #[])],argTypes:=#[]} 0=Deferred.ofValue (.func (.func g) #[] f) #[.func (.yield a) #[] #[]]:=λF I=>by
   have:F.eval fo=.func (.func g) #[] f:=by rw[<-r,<-I];cases fo<;>rfl
   unfold resolve;simp only;rw[this];simp[Frame.eval]
  have J:((do let d <-Deferred.ofValue (.func (.func g) #[] f) #[.func (.yield a) #[] #[]];invoke d.target d.args:Sem Next)).runT P w' #[]=(.ok (.enter g (#[.func (.yield a) #[] #[]]++f)) w',#[]):=by
   have:=s.enter (#[.func (.yield a) #[] #[]]++f) w';simpa[Deferred.ofValue,invoke] using this
  rw[Vn o];unfold stepG.exec;simp only[π,p,m];rw[E _ U];unfold stepG.apply;simp only[if_true,J];simp[GStep.after,Go.Conc.G,π,seen_none]
 .exact C.elim
theorem γ.Dg (d:Seq x) (f:b.mode=.run) {L:Nat} {r:Loop} (a:H.obj L=some (.loop r)) (g:r.state≠.busy)
  (h:γ P Q mn x (π b t ((r.pending.map Item.code).toList++k)) cs (H.Zx L (.loop {r with state:=.exhausted}))):γ P Q mn x (π b t (.endRangeFunc L::k)) cs H:=by
 refine .own d λw i=>?_;have j:Φ P (Instr.endLoop L) H (λv H'=>v=r.pending/\H'=H.Zx L (.loop {r with state:=.exhausted})) (λ_ _=>False):=by
  unfold Instr.endLoop;refine Φ.bind' (Φ.getLoop a ?_);have e:(r.state==.busy)=false:=by cases l:r.state<;>first|rfl|exact absurd l g
  simp only[e,WX,if_false];exact Φ.bind' (Φ.GL a (Φ.pure' ⟨U,U⟩))
 obtain⟨H',w',es',m,n⟩:=Φ.sound (P:=P) (G0:=H) (w0:=w) _ j (Ye.start i);rcases n with⟨v,c,rfl,rfl⟩|⟨v,c,o⟩
 .refine⟨_,_,w',seen P b.fn es',_,?_,m.sub λe p=>mem_seen p,h⟩;rw[Vn f];unfold stepG.exec;simp only[π,c];simp[GStep.after,Go.Conc.G]
 .exact o.elim
theorem γ.beginRound (g:Seq x) (i:b.mode=.run) {L:Nat} (j:b.roundOf=some L) {r:Loop} (a:H.obj L=some (.loop r)) (l:r.state=.ready)
  (h:γ P Q mn x (π b t k) cs (H.Zx L (.loop {r with state:=.busy}))):γ P Q mn x (π b t (.beginRound::k)) cs H:=by
 refine .own g λw m=>?_;have n:Φ P (Instr.beginRound L) H (λ_ H'=>H'=H.Zx L (.loop {r with state:=.busy})) (λ_ _=>False):=by
  unfold Instr.beginRound;refine Φ.bind' (Φ.getLoop a (Φ.bind' (Φ.GL a ?_)));rw[l];exact Φ.pure' U
 have o:Φ P (do Instr.beginRound L;pure Next.skip:Sem Next) H (λv H'=>v=.skip/\H'=H.Zx L (.loop {r with state:=.busy})) (λ_ _=>False):=
  Φ.bind' (Φ.mono (λ_ _ e=>Φ.pure' ⟨U,e⟩) (λ_ _ h=>h) _ n)
 obtain⟨H',w',es',p,s⟩:=Φ.sound (P:=P) (G0:=H) (w0:=w) _ o (Ye.start m);rcases s with⟨v,c,rfl,rfl⟩|⟨v,c,u⟩
 .generalize d:(if b.kind==.early then #[] else es')=f;have y:∀e∈seen P b.fn f,e∈es':=λe A=>by
   have:=mem_seen A;rw[<-d] at this;split at this
   .simp at this
   .exact this
  refine⟨_,_,w',seen P b.fn f,_,?_,p.sub y,h⟩;rw[Vn i];unfold stepG.exec;simp only[π,j,Option.elim];unfold stepG.apply;simp only[if_true,c];rw[d];simp[GStep.after,Go.Conc.G,Frame.finish]
 .exact u.elim
theorem γ.endRound (l:Seq x) (m:b.mode=.run) {L:Nat} (f:b.roundOf=some L) (g:b.kind=.normal) {r:Loop} (j:H.obj L=some (.loop r)) {jump:Option Code} (n:(jump=none/\k=[])\/(jump=some .ret/\∃a,k=.code .ret::a)\/∃id a,jump=some (.exit id)/\k=.code (.exit id)::a/\exitTo id a=none)
  (h:γ P Q mn x (c.finish (.bool jump.isNone)) rest (H.Zx L (.loop {r with state:=if jump.isNone then .ready else .done,pending:=jump}))):γ P Q mn x (π b t k) (c::rest) H:=by
 refine .own l λw o=>?_;have p:Φ P (Instr.endRound L jump) H (λv H'=>v=.bool jump.isNone/\H'=H.Zx L (.loop {r with state:=if jump.isNone then .ready else .done,pending:=jump})) (λ_ _=>False):=by
  unfold Instr.endRound;exact Φ.bind' (Φ.getLoop j (Φ.bind' (Φ.GL j (Φ.pure' ⟨U,U⟩))))
 obtain⟨H',w',es',s,u⟩:=Φ.sound (P:=P) (G0:=H) (w0:=w) _ p (Ye.start o);rcases u with⟨v,d,rfl,rfl⟩|⟨v,d,y⟩
 .refine⟨_,_,w',seen P b.fn es',_,?_,s.sub λe i=>mem_seen i,h⟩;rw[Vn m];unfold stepG.exec;rcases n with⟨rfl,rfl⟩|⟨rfl,a,rfl⟩|⟨id,a,rfl,rfl,i⟩
  .simp only[π,f,d];simp[GStep.after,Go.Conc.G,doReturn,g]
  .simp only[π,f,d];simp[GStep.after,Go.Conc.G,doReturn,g]
  .simp only[π,f,i,Option.elim,d];simp[GStep.after,Go.Conc.G,doReturn,g]
 .exact y.elim
theorem γ.collected (c:Seq x) (d:f.mode=.returning) {r:Nat} {ds:List Deferred} (hd:f.defers=⟨.collected r,#[]⟩::ds) (a:H.obj r=some (.deferred (some [])))
  (h:γ P Q mn x {f with defers:=ds} cs (H.Zx r (.deferred none))):γ P Q mn x f cs H:=by
 refine .own c λw g=>?_;have i:Φ P (Instr.takeDeferred r) H (λv H'=>v=[]/\H'=H.Zx r (.deferred none)) (λ_ _=>False):=by
  unfold Instr.takeDeferred;refine Φ.bind' ?_;exact⟨_,a,U,Φ.pure' (Φ.bind' ⟨⟨_,a⟩,U,U,Φ.pure' (Φ.pure' ⟨U,U⟩)⟩)⟩
 obtain⟨H',w',es',j,k⟩:=Φ.sound (P:=P) (G0:=H) (w0:=w) _ i (Ye.start g);rcases k with⟨v,b,rfl,rfl⟩|⟨v,b,l⟩
 .refine⟨_,_,w',seen P f.fn es',_,?_,j.sub λe m=>mem_seen m,h⟩;rw[No (by rw[d];simp)];unfold unwind;simp only[hd,b];simp[GStep.after,Go.Conc.G]
 .exact l.elim
end
end Go.TL
namespace Go.TL
open Go.Proofs.Tryz
open Go.Conc
open Go.ConcM (OsLater)
open Go.ConcN (sumTo upd sumTo_upd upd_ne upd_same sumTo_congr le_sumTo)
open Go.ConcR (mk)
variable [ZP]
theorem WJ {b:Frame} (a:b.mode=.run) (c:b.roundOf=none) (t:ζ) (k:Zz):π b t k=b.at ⟨t,b.defers⟩ k:=by
 obtain⟨fn,d,td,e,f,g,h⟩:=b;simp only at a c;subst a;subst c;rfl
theorem O2 (o:Oper) (t:ζ) (ds:List Deferred) (v:Value):(⟨t,ds⟩:_root_.Go.Act).put o.dst v=⟨put o t v,ds⟩:=by
 unfold _root_.Go.Act.put put;cases o.dst<;>rfl
theorem TS (t:ζ) (ds:List Deferred):(⟨t,ds⟩:_root_.Go.Act).eval=ZJ t:=by funext o;cases o<;>rfl
def Entry (P:Program) (f:FuncId) (e:ζ->Sem Value):Prop:=∃fn,P.funcs[f]?=some fn/\(fn.name == "runtime.NumGoroutine")=false/\fn.body.isNone=true/\Extern.findNext fn=none/\Extern.find fn=some e
structure Tp (b:Frame) (ops:ZC) (i:Nat) (op:Oper):Prop where
 run:b.mode=.run
 ro:b.roundOf=none
 kd:b.kind≠.early
 op:ops[i]?=some op
def XB (x:ZU):Prop:=x.rel=false\/∃s,¬Gone (x.tok s)
theorem XB.ok {P:Program} {g:Goroutine} {x:ZU} (h:XB x):L4 P g x:=λa b=>by
 rcases h with h|⟨s,h⟩
 .rw[h] at a;cases a
 .exact absurd (b s) h
def one (x:ZU):WA:=λy=>y=x
@[reducible] def XV:ZP:=⟨λ_=>True⟩
theorem Seq.O1 {x:ZU} (a:ZP.q (one x)) (b:x.rel=false) (hv:x.Z4=λ_=>none):Seq (one x):=⟨a,λy h=>by cases h;exact b,λy h=>by cases h;exact hv⟩
theorem Seq.here {x:ZU} (h:Seq (one x)):XB x:=.inl (h.rel x rfl)
section
variable {P:Program} {Q:Value->Prop} {mn:Bool} {x:ZU} {b:Frame} {cs:YU} {nt:Nat} {o:Base} {k:Zz} {env:Β} {σ:Ξ} {S:κ} {B:Z5} {H:Τ} {t:ζ}
variable {ops:ZC} {i:Nat} {rest:ο} {op:Oper} {f:FuncId} {e:ζ->Sem Value} {args:Array Operand} {Lp:Array TypeId} {w w':World}
theorem IV (j:Entry P f e) (c:Tp b ops i op) (l:Region.wanted op (yielded ops t)=true) (m:op.op=.call ⟨.value (.func f),args,Lp⟩) {vs:ζ} (h:args.map (ZJ t)=vs) {v:Value} {d:Array Event}
  (n:(e vs).run P w=.ok v w') (o:(e vs).events P w #[⟨.mark (Mark.extern f),false,true⟩]=#[⟨.mark (Mark.extern f),false,true⟩]++d) (p:∀y∈d,y.sync=true/\∀g,y.loc≠.mark (Mark.extern g)) :
  stepG P mn (Go.Conc.G (π b t (.inRegion ops (i::rest)::k)) cs) w=.go (Go.Conc.G (π b (put op t v) (.inRegion ops rest::k)) cs) w' d:=by
 obtain⟨fn,r,s,u,x,A⟩:=j;rw[WJ c.run c.ro,WJ c.run c.ro,<-O2];exact stepG_entry (a:=⟨t,b.defers⟩) c.op l c.kd m r s u x A (by rw[TS,h];exact n) (by rw[TS,h];exact o) p
theorem wj (d:Entry P f e) (c:Tp b ops i op) (g:Region.wanted op (yielded ops t)=true) (h:op.op=.call ⟨.value (.func f),args,Lp⟩) {vs:ζ} (j:args.map (ZJ t)=vs)
  (l:(e vs).run P w=.halt .blocked w') :
  stepG P mn (Go.Conc.G (π b t (.inRegion ops (i::rest)::k)) cs) w=.go {Go.Conc.G (π b t (.inRegion ops (i::rest)::k)) cs with status:=.blocked} w' #[]:=by
 obtain⟨fn,m,n,o,p,r⟩:=d;rw[WJ c.run c.ro];exact stepG_entry_blocked (a:=⟨t,b.defers⟩) c.op g h m n o p r (by rw[TS,j];exact l)
theorem Df (d:Entry P f e) (a:Tp b ops i op) (g:op.op=.call ⟨.value (.func f),args,Lp⟩):mayWake P (Go.Conc.G (π b t (.inRegion ops (i::rest)::k)) cs)=true:=by
 obtain⟨fn,h,m,j,n,o⟩:=d;have l:fn.body=none:=by simpa using j
 have c:(π b t (.inRegion ops (i::rest)::k)).eval (.func f)=.func (.func f) #[] #[]:=rfl;simp[mayWake,Go.Conc.G,π,a.run,a.op,g] at c ⊢;simp[c,h,l]
def Lo (env:Β) (args:Array Operand) (vs:List Value):Prop:=args.toList.map (ε env)=vs.map Ψ.z
theorem IU (a:Yv S B σ env t) {y:Operand} {v:Value} (h:ε env y=.z v):ZJ t y=v:=by
 have:=T3 a y;rw[h] at this;generalize ZJ t y=u at this;cases this;rfl
theorem Lo.ZJ (a:Yv S B σ env t) {vs:List Value} (h:Lo env args vs):args.map (ZJ t)=vs.toArray:=by
 apply Nx;rw[Array.toList_map];have:∀(l:List Operand) (vs:List Value),l.map (ε env)=vs.map Ψ.z->l.map (Go.TL.ZJ t)=vs:=by
  intro l
  induction l with
  | nil=>intro vs h;cases vs with
   | nil=>rfl
   | cons=>cases h
  | cons y l b=>
   intro vs h;cases vs with
   | nil=>cases h
   | cons v vs=>
    simp only[WZ,List.cons.injEq] at h ⊢;exact⟨IU a h.1,b vs h.2⟩
 exact this _ _ h
theorem IT (m:Mark):((λ_=>do mark m;pure Extern.Race.none_:ζ->Sem Value) #[]).run P w=.ok (.tuple #[]) w:=by simp[Extern.Race.none_]
theorem IS (m:Mark) (es:Array Event):((λ_=>do mark m;pure Extern.Race.none_:ζ->Sem Value) #[]).events P w es=es.push ⟨.mark m,false,true⟩:=Ω
theorem MZ (m:Addr->Mark) (a:Addr):(Extern.Race.marked m #[.pointer (some a)]).run P w=.ok (.tuple #[]) w:=by simp[Extern.Race.marked,Extern.Race.at_,Extern.Race.none_]
theorem MY (m:Addr->Mark) (a:Addr) (es:Array Event):(Extern.Race.marked m #[.pointer (some a)]).events P w es=es.push ⟨.mark (m a),false,true⟩:=by simp[Extern.Race.marked,Extern.Race.at_]
theorem QK {m:Mark} (b:∀g,m≠Mark.extern g):∀y∈(#[⟨.mark m,false,true⟩]:Array Event),y.sync=true/\∀g,y.loc≠.mark (Mark.extern g):=by
 intro y a;simp at a;subst a;exact⟨U,λg h=>b g (by cases h;rfl)⟩
structure Ww (P:Program) (b:Frame) (ops:ZC) (i:Nat) (op:Oper) (f:FuncId) (e:ζ->Sem Value) (args:Array Operand) (env:Β) (vs:List Value) (nt:Nat):Prop where
 at_:Tp b ops i op
 Tt:Entry P f e
 call:∃Lp,op.op=.call ⟨.value (.func f),args,Lp⟩
 want:Xx env ops op=some true
 dst:Wz nt op=true
 Ln:Lo env args vs
theorem Ww.step {vs:List Value} (h:Ww P b ops i op f e args env vs nt) (c:Yv S B σ env t) {v:Value} {a:Array Event} (d:(e vs.toArray).run P w=.ok v w')
  (j:(e vs.toArray).events P w #[⟨.mark (Mark.extern f),false,true⟩]=#[⟨.mark (Mark.extern f),false,true⟩]++a) (l:∀y∈a,y.sync=true/\∀g,y.loc≠.mark (Mark.extern g)) :
  stepG P mn (Go.Conc.G (π b t (.inRegion ops (i::rest)::k)) cs) w=.go (Go.Conc.G (π b (put op t v) (.inRegion ops rest::k)) cs) w' a:=
 let ⟨_,m⟩:=h.call
 IV h.Tt h.at_ (UO c h.want) m (h.Ln.ZJ c) d j l
abbrev Sr:Ψ:=.z (.tuple #[])
theorem V.disable (c:XB x) (h:Ww P b ops i op f (λ_=>do mark .disable;pure Extern.Race.none_) args env [] nt) (d:V P Q mn (one {x with deaf:=x.deaf+1}) b cs nt o (.inRegion ops rest::k) (Zn op env Sr) σ):V P Q mn (one x) b cs nt o (.inRegion ops (i::rest)::k) env σ:=
 λS B H t e a y g=>by
 cases g;exact Goes.step c.ok (.inr ⟨⟨U,U⟩,.inr (.inl ⟨Go.Conc.G (π b (put op t (.tuple #[])) (.inRegion ops rest::k)) cs,⟨U,U⟩,.inl λw _=>
  ⟨h.step a.Y7 (IT .disable) (IS .disable _) (QK Ω),d S B H _ e (a.put h.dst (.z _)) _ U⟩⟩)⟩)
theorem V.enable (c:XB x) (hd:0<x.deaf) (h:Ww P b ops i op f (λ_=>do mark .enable;pure Extern.Race.none_) args env [] nt) (d:V P Q mn (one {x with deaf:=x.deaf-1}) b cs nt o (.inRegion ops rest::k) (Zn op env Sr) σ):V P Q mn (one x) b cs nt o (.inRegion ops (i::rest)::k) env σ:=
 λS B H t e a y g=>by
 cases g;exact Goes.step c.ok (.inr ⟨⟨U,U⟩,.inr (.inl ⟨Go.Conc.G (π b (put op t (.tuple #[])) (.inRegion ops rest::k)) cs,⟨U,U⟩,.inr ⟨hd,λw _=>
  ⟨h.step a.Y7 (IT .enable) (IS .enable _) (QK Ω),d S B H _ e (a.put h.dst (.z _)) _ U⟩⟩⟩)⟩)
theorem V.wi (c:x.rel=false) {s d n p:Nat} {a:Qg} (g:x.tok s=.par n p a) (j:a≠.ZO) (h:Ww P b ops i op f (Extern.Race.marked .read) args env [.pointer (some ⟨s,d,none⟩)] nt) (l:V P Q mn (one x) b cs nt o (.inRegion ops rest::k) (Zn op env Sr) σ):V P Q mn (one x) b cs nt o (.inRegion ops (i::rest)::k) env σ:=
 λS B H t m e y r=>by
 cases r;exact Goes.step (XB.ok (.inl c)) (.inr ⟨⟨U,U⟩,.inr (.inr (.inl ⟨s,n,p,a,Go.Conc.G (π b (put op t (.tuple #[])) (.inRegion ops rest::k)) cs,d,false,g,j,c,⟨U,U⟩,λw _=>
  ⟨h.step e.Y7 (MZ .read _) (MY .read _ _) (QK Ω),l S B H _ m (e.put h.dst (.z _)) _ U⟩⟩))⟩)
theorem V.wh (c:x.rel=false) {s d n p:Nat} {a:Qg} (g:x.tok s=.par n p a) (j:a≠.ZO) (h:Ww P b ops i op f (Extern.Race.marked .write) args env [.pointer (some ⟨s,d,none⟩)] nt) (l:V P Q mn (one x) b cs nt o (.inRegion ops rest::k) (Zn op env Sr) σ):V P Q mn (one x) b cs nt o (.inRegion ops (i::rest)::k) env σ:=
 λS B H t m e y r=>by
 cases r;exact Goes.step (XB.ok (.inl c)) (.inr ⟨⟨U,U⟩,.inr (.inr (.inl ⟨s,n,p,a,Go.Conc.G (π b (put op t (.tuple #[])) (.inRegion ops rest::k)) cs,d,true,g,j,c,⟨U,U⟩,λw _=>
  ⟨h.step e.Y7 (MZ .write _) (MY .write _ _) (QK Ω),l S B H _ m (e.put h.dst (.z _)) _ U⟩⟩))⟩)
theorem V.Ke (a:x.rel=false) (hd:x.deaf=0) {s m n:Nat} {sp:Spec} (d:x.spec s=some sp) (e:sp.ZK=some m) (g:x.tok s=.ch n .own .work) (h:Ww P b ops i op f (Extern.Race.marked .acquire) args env [.pointer (some ⟨m,0,none⟩)] nt)
  (j:∀(S:κ) (B:Z5) (H:Τ) (t:ζ) (L:ο) (E:Τ),XE o.m o.S o.B o.H o.σ S B H σ->Xb o.m nt S B H σ (Zn op env Sr) t->sp.XI L E->Apart H E->(L.Nodup/\n∉L/\∃w,Fits H w/\Fits E w)->
   Y6 P Q mn {x with tok:=upd x.tok s (.ch n (.Yw L) .work),view:=upd x.view s none} (π b t (.inRegion ops rest::k)) cs (join H E)):V P Q mn (one x) b cs nt o (.inRegion ops (i::rest)::k) env σ:=
 λS B H t l c y p=>by
 cases p;exact Goes.step (XB.ok (.inl a)) (.inr ⟨⟨U,U⟩,.inr (.inr (.inr (.inr (.inl ⟨s,sp,m,n,Go.Conc.G (π b (put op t (.tuple #[])) (.inRegion ops rest::k)) cs,d,e,g,hd,⟨U,U⟩,a,λw _=>
  h.step c.Y7 (MZ .acquire _) (MY .acquire _ _) (QK Ω),λL E r u v=>j S B H _ L E l (c.put h.dst (.z _)) r u v⟩))))⟩)
theorem V.HE (a:x.rel=false) (hd:x.deaf=0) {s m n:Nat} {L:ο} {sp:Spec} (d:x.spec s=some sp) (e:sp.ZK=some m) (g:x.tok s=.ch n (.Yw L) .work) (h:Ww P b ops i op f (Extern.Race.marked .releaseMerge) args env [.pointer (some ⟨m,0,none⟩)] nt)
  (j:∀(S:κ) (B:Z5) (H:Τ) (t:ζ),XE o.m o.S o.B o.H o.σ S B H σ->Xb o.m nt S B H σ (Zn op env Sr) t->∃H' E,Split H H' E/\sp.XI (L++[n]) E/\
   Y6 P Q mn {x with tok:=upd x.tok s (.ch n .fin .work),view:=upd x.view s none} (π b t (.inRegion ops rest::k)) cs H'):V P Q mn (one x) b cs nt o (.inRegion ops (i::rest)::k) env σ:=
 λS B H t l c y p=>by
 cases p;obtain⟨H',E,r,u,v⟩:=j S B H _ l (c.put h.dst (.z (.tuple #[])));exact Goes.step (XB.ok (.inl a)) (.inr ⟨⟨U,U⟩,.inr (.inr (.inr (.inr (.inr (.inl ⟨s,sp,m,n,L,Go.Conc.G (π b (put op t (.tuple #[])) (.inRegion ops rest::k)) cs,H',E,d,e,g,hd,⟨U,U⟩,a,λw _=>
  h.step c.Y7 (MZ .releaseMerge _) (MY .releaseMerge _ _) (QK Ω),r,u,v⟩)))))⟩)
theorem V.Kd (j:x.rel=false) (hd:x.deaf=0) {s n:Nat} {d:Qg} {sp:Spec} (p:x.spec s=some sp) (r:x.tok s=.par n 0 d) (u:d=.SJ\/d=.w4) (h:Ww P b ops i op f (Extern.Race.marked .acquire) args env [.pointer (some ⟨s,0,none⟩)] nt)
  (v:∀(S:κ) (B:Z5) (H:Τ) (t:ζ) (e g:ο) (c a:Τ),XE o.m o.S o.B o.H o.σ S B H σ->Xb o.m nt S B H σ (Zn op env Sr) t->
   e.Perm (List.range n)->T6 sp.D e c->(sp.ZK≠none->g.Perm (List.range n)/\sp.XI g a)->(sp.ZK=none->a=Τ.empty)->Apart H c->Apart H a->Apart c a->(∃w,Fits H w/\Fits c w/\Fits a w)->
   Y6 P Q mn {x with tok:=upd x.tok s (.par n 0 .ZO),view:=upd x.view s none} (π b t (.inRegion ops rest::k)) cs (join (join H c) a)):V P Q mn (one x) b cs nt o (.inRegion ops (i::rest)::k) env σ:=
 λS B H t A l y C=>by
 cases C;exact Goes.step (XB.ok (.inl j)) (.inr ⟨⟨U,U⟩,.inr (.inr (.inr (.inr (.inr (.inr (.inr (.inl ⟨s,sp,n,d,Go.Conc.G (π b (put op t (.tuple #[])) (.inRegion ops rest::k)) cs,p,r,u,hd,⟨U,U⟩,j,λw _=>
  h.step l.Y7 (MZ .acquire _) (MY .acquire _ _) (QK Ω),λe g c a E F I J K L M N=>v S B H _ e g c a A (l.put h.dst (.z _)) E F I J K L M N⟩)))))))⟩)
theorem V.atomic (A:XB x) {s:Nat} {sp:Spec} (C:x.spec s=some sp) (D:¬WY (x.tok s)) (hd:Wz nt op=true) (E:Xx env ops op=some true)
  (h:∀(t:ζ) (w:World) (φ:Nat) (a:Z'),(∀y u,ε env y=.z u->ZJ t y=u)->(∀(as9:Array Operand) (vs:List Value),Lo env as9 vs->as9.map (ZJ t)=vs.toArray)->Region.wanted op (yielded ops t)=true->a.toSpec=sp->At s a w->HN x s φ a->Oy a (x.tok s)->
   (∃v w' e,stepG P mn (Go.Conc.G (π b t (.inRegion ops (i::rest)::k)) cs) w=.go (Go.Conc.G (π b (put op t v) (.inRegion ops rest::k)) cs) w' e/\Xd (λF _=>X1 s sp F) (λ_=>False) w w'/\Se s sp x.deaf e/\
    ((At s a w'/\V P Q mn (one {x with view:=upd x.view s (some (φ,a))}) b cs nt o (.inRegion ops rest::k) (Zn op env (.z v)) σ)\/
     ∃o' t',Act a (x.tok s) o' t'/\At s o' w'/\(mayWake P (Go.Conc.G (π b t (.inRegion ops (i::rest)::k)) cs)=true\/o'=a)/\∀d,d<φ->V P Q mn (one {x with tok:=upd x.tok s t',view:=upd x.view s (some (d,o'))}) b cs nt o (.inRegion ops rest::k) (Zn op env (.z v)) σ))\/
   (UP a (x.tok s)/\(∀p,p≠s->S3 (x.tok p))/\stepG P mn (Go.Conc.G (π b t (.inRegion ops (i::rest)::k)) cs) w=.go {Go.Conc.G (π b t (.inRegion ops (i::rest)::k)) cs with status:=.blocked} w #[])) :
  V P Q mn (one x) b cs nt o (.inRegion ops (i::rest)::k) env σ:=by
 intro S B H t r c y f;cases f;refine Goes.step A.ok (.inr ⟨⟨U,U⟩,.inr (.inr (.inr (.inl ⟨s,sp,C,D,λw φ a W hv I J K L=>?_⟩)))⟩);rcases h t w φ a (λy u f=>IU c.Y7 f) (λas9 vs M=>M.ZJ c.Y7) (UO c.Y7 E) I J K L with⟨v,w',e,g,j,l,N⟩|⟨g,j,l⟩
 .refine .inl ?_;rw[g];refine⟨⟨U,U⟩,j,l,?_⟩;rcases N with⟨m,n⟩|⟨o',t',m,n,O,R⟩
  .exact .inl ⟨m,n S B H _ r (c.put hd (.z _)) _ U⟩
  .exact .inr ⟨o',t',m,n,O,λd T=>R d T S B H _ r (c.put hd (.z _)) _ U⟩
 .exact .inr ⟨g,j,l⟩
theorem De {b h:Nat} {c:ζ} {k:TypeId} (f:w.heap[b]?=some (.cells c k (0,0))) (v:Value) {j:Nat->Nat->Prop} (l:∀o,j b o):Xd j (λ_=>False) w (w.setCell ⟨b,h,none⟩ v):=by
 have g:=heap_setCell (w:=w) (a:=⟨b,h,none⟩) (v:=v) U f
 have m:=Xc f
 have n:(w.setCell ⟨b,h,none⟩ v).os=w.os:=rfl;refine⟨by rw[g];simp,λi c' t' s d=>?_,λi y d p _=>?_,by rw[n];exact OsLater.refl _,U,U⟩
 .by_cases e:i=b
  .subst e;rw[f] at d;cases d;exact⟨_,by rw[g,Tc m],Ω,λo' r=>absurd (l o') r⟩
  .exact⟨c',by rw[g,UC (YF e)];exact d,U,λ_ _=>rfl⟩
 .have e:b≠i:=λe=>by subst e;rw[f] at d;cases d;cases p
  rw[g,UC e];exact d
section
variable {s m:Nat} {Xf o':Z'}
theorem At.ne (h:At s Xf w) (b:Xf.ZK=some m):m≠s:=λe=>by
 obtain⟨⟨f,c⟩,d⟩:=h;obtain⟨g,a⟩:=d m b;subst e;rw[c] at a;simp at a
theorem At.mu (h:At s Xf w) (a:Xf.ZK=some m):∃b,w.heap[m]?=some (.cells #[.int .i32 (mwd Xf),.int .u32 Xf.Yp] b (0,0)):=h.2 m a
theorem At.Rt (h:At s Xf w) (a:Xf.ZK=some m):w.cell? ⟨m,0,none⟩=some (.int .i32 (mwd Xf)):=let ⟨_,b⟩:=h.mu a;SL b rfl
theorem At.Dd (h:At s Xf w) (a:Xf.ZK=some m):w.cell? ⟨m,1,none⟩=some (.int .u32 Xf.Yp):=let ⟨_,b⟩:=h.mu a;SL b rfl
theorem At.S2 (h:At s Xf w):w.cell? ⟨s,0,none⟩=some (.int .u64 (YN Xf)):=let ⟨_,a⟩:=h.1;SL a rfl
theorem At.IQ (h:At s Xf w):w.cell? ⟨s,1,none⟩=some (.int .u32 Xf.YK):=let ⟨_,a⟩:=h.1;SL a rfl
theorem Dc {a b:Nat} {c:ζ} {d:TypeId} (e:w.heap[a]?=some (.cells c d (0,0))):w.frozen? ⟨a,b,none⟩=false:=by
 simp[World.frozen?,e]
theorem At.MX (h:At s Xf w) (a:Xf.ZK=some m) (b:Nat):w.frozen? ⟨m,b,none⟩=false:=let ⟨_,c⟩:=h.mu a;Dc c
theorem At.O0 (h:At s Xf w) (a:Nat):w.frozen? ⟨s,a,none⟩=false:=let ⟨_,b⟩:=h.1;Dc b
theorem At.IP (h:At s Xf w) (b:Xf.ZK=some m) (g:o'.ZK=Xf.ZK) (i:YN o'=YN Xf) (j:o'.YK=Xf.YK) {c:Nat} {v:Value} (hv:(#[.int .i32 (mwd Xf),.int .u32 Xf.Yp]:ζ).setIfInBounds c v=#[.int .i32 (mwd o'),.int .u32 o'.Yp]):At s o' (w.setCell ⟨m,c,none⟩ v):=by
 have k:=h.ne b;obtain⟨l,d⟩:=h.mu b;obtain⟨⟨n,o⟩,p⟩:=h;have e:=heap_setCell (w:=w) (a:=⟨m,c,none⟩) (v:=v) U d;refine⟨⟨n,?_⟩,λr f=>⟨l,?_⟩⟩
 .rw[e,UC k,i,j];exact o
 .rw[g,b] at f;cases f;rw[e,Tc (Xc d),hv]
theorem At.MW (h:At s Xf w) (g:o'.ZK=Xf.ZK) (i:mwd o'=mwd Xf) (j:o'.Yp=Xf.Yp) {b:Nat} {v:Value} (hv:(#[.int .u64 (YN Xf),.int .u32 Xf.YK]:ζ).setIfInBounds b v=#[.int .u64 (YN o'),.int .u32 o'.YK]):At s o' (w.setCell ⟨s,b,none⟩ v):=by
 have k:=λm l=>h.ne (m:=m) l;obtain⟨⟨n,d⟩,o⟩:=h;have e:=heap_setCell (w:=w) (a:=⟨s,b,none⟩) (v:=v) U d;refine⟨⟨n,?_⟩,λf c=>?_⟩
 .rw[e,Tc (Xc d),hv]
 .rw[g] at c;obtain⟨p,r⟩:=o f c;exact⟨p,by rw[e,UC (YF (k f c)),i,j];exact r⟩
theorem At.IN (h:At s Xf w) (a:Xf.ZK=some m) {sp:Spec} (b:sp.ZK=some m) {c:Nat} (v:Value):Xd (λd _=>X1 s sp d) (λ_=>False) w (w.setCell ⟨m,c,none⟩ v):=
 let ⟨_,e⟩:=h.mu a;De e v λ_=>.inr b
theorem At.MV (h:At s Xf w) {sp:Spec} {a:Nat} (v:Value):Xd (λb _=>X1 s sp b) (λ_=>False) w (w.setCell ⟨s,a,none⟩ v):=
 let ⟨_,c⟩:=h.1;De c v λ_=>.inl U
end
theorem Db {s d:Nat} {sp:Spec}:Se s sp d #[]:=⟨rfl,λj e h=>by simp at h⟩
theorem QJ {s b e d:Nat} {sp:Spec} {es:Array Event} (i:X1 s sp b) (hd:0<d) (f:∀y∈es,y.loc=.cell ⟨b,e,none⟩/\y.sync=true):Se s sp d es:=by
 have g:∀(es:Array Event),(∀y∈es,y.loc=.cell ⟨b,e,none⟩/\y.sync=true)->deafBehind d es=d:=by
  intro es;obtain⟨l⟩:=es;intro h;unfold deafBehind;simp only[List.foldl_toArray']
  induction l with
  | nil=>rfl
  | cons y l k=>
   simp only[List.foldl_cons];have:=h y Ω;rw[this.1];exact k λz a=>h z (by simp at a ⊢;exact .inr a)
 refine⟨g es f,λj y m=>.inr (.inr ⟨b,e,y.write,?_,i,?_⟩)⟩
 .have:=f y (Array.mem_of_getElem? m);obtain⟨l,w1,n⟩:=y;simp only at this;rw[this.1,this.2]
 .rw[g]
  .exact hd
  .intro z a;exact f z (by
    rw[KL] at a ⊢;obtain⟨q,c⟩:=a;rw[Array.getElem?_extract] at c;split at c
    .exact⟨_,c⟩
    .cases c)
end
end Go.TL
namespace Go.TL
open Go.Proofs.Tryz
open Go.Conc
open Go.ConcM (OsLater)
open Go.ConcN (sumTo upd sumTo_upd upd_ne upd_same sumTo_congr le_sumTo)
variable [ZP]
section
variable {P:Program} {Q:Value->Prop} {mn:Bool} {x:ZU} {b:Frame} {cs:YU} {nt:Nat} {o:Base} {k:Zz} {env:Β} {σ:Ξ}
variable {ops:ZC} {i:Nat} {rest:ο} {op:Oper} {f:FuncId} {e:ζ->Sem Value} {args:Array Operand} {vs:List Value}
def VT (P:Program) (Q:Value->Prop) (mn:Bool) (x:ZU) (b:Frame) (cs:YU) (nt:Nat) (o:Base) (ops:ZC) (rest:ο) (k:Zz) (op:Oper) (env:Β) (σ:Ξ) (s φ:Nat) (a:Z') (v:Value):Prop:=
 V P Q mn (one {x with view:=upd x.view s (some (φ,a))}) b cs nt o (.inRegion ops rest::k) (Zn op env (.z v)) σ
def Rs (P:Program) (Q:Value->Prop) (mn:Bool) (x:ZU) (b:Frame) (cs:YU) (nt:Nat) (o:Base) (ops:ZC) (rest:ο) (k:Zz) (op:Oper) (env:Β) (σ:Ξ) (s φ:Nat) (c:Z') (v:Value) (o':Z') (t':Tok):Prop:=
 Act c (x.tok s) o' t'/\∀a,a<φ->V P Q mn (one {x with tok:=upd x.tok s t',view:=upd x.view s (some (a,o'))}) b cs nt o (.inRegion ops rest::k) (Zn op env (.z v)) σ
structure Seen (x:ZU) (s:Nat) (sp:Spec) (φ:Nat) (a:Z'):Prop where
 spec:a.toSpec=sp
 view:HN x s φ a
 Vi:Oy a (x.tok s)
theorem V.ext (u:XB x) {s:Nat} {sp:Spec} (A:x.spec s=some sp) (B:¬WY (x.tok s)) (h:Ww P b ops i op f e args env vs nt)
  (C:∀(w:World) (φ:Nat) (a:Z'),Seen x s sp φ a->At s a w->
   (∃v w' c,(e vs.toArray).run P w=.ok v w'/\(e vs.toArray).events P w #[⟨.mark (Mark.extern f),false,true⟩]=#[⟨.mark (Mark.extern f),false,true⟩]++c/\(∀y∈c,y.sync=true/\∀g,y.loc≠.mark (Mark.extern g))/\
    Xd (λD _=>X1 s sp D) (λ_=>False) w w'/\Se s sp x.deaf c/\
    ((At s a w'/\VT P Q mn x b cs nt o ops rest k op env σ s φ a v)\/∃o' t',At s o' w'/\Rs P Q mn x b cs nt o ops rest k op env σ s φ a v o' t'))\/
   (UP a (x.tok s)/\(∀n,n≠s->S3 (x.tok n))/\(e vs.toArray).run P w=.halt .blocked w)) :
  V P Q mn (one x) b cs nt o (.inRegion ops (i::rest)::k) env σ:=by
 obtain⟨R,d⟩:=h.call;refine .atomic u A B h.dst h.want λt w φ a _ p r E F H I=>?_;rcases C w φ a ⟨E,H,I⟩ F with⟨v,w',c,j,l,m,J,K,L⟩|⟨j,l,m⟩
 .refine .inl ⟨v,w',c,IV h.Tt h.at_ r d (p _ _ h.Ln) j l m,J,K,L.imp id λ⟨o',t',M,N,O⟩=>⟨o',t',N,M,.inl (Df h.Tt h.at_ d),O⟩⟩
 .exact .inr ⟨j,l,wj h.Tt h.at_ r d (p _ _ h.Ln) m⟩
theorem QI (a:Addr):∀y∈(#[⟨.cell a,false,true⟩,⟨.cell a,true,true⟩]:Array Event),y.loc=.cell a/\y.sync=true:=by
 intro y b;simp at b;rcases b with rfl|rfl<;>exact⟨rfl,rfl⟩
theorem QH (a:Addr) (wr:Bool):∀y∈(#[⟨.cell a,wr,true⟩]:Array Event),y.loc=.cell a/\y.sync=true:=by
 intro y b;simp at b;subst b;exact⟨U,U⟩
theorem QG {b:Addr} {es:Array Event} (h:∀y∈es,y.loc=.cell b/\y.sync=true):∀y∈es,y.sync=true/\∀g,y.loc≠.mark (Mark.extern g):=λy a=>⟨(h y a).2,λg e=>by rw[(h y a).1] at e;cases e⟩
structure MU (a o':Z'):Prop where
 ZK:o'.ZK=a.ZK
 g:YN o'=YN a
 w:o'.YK=a.YK
structure QF (a o':Z'):Prop where
 ZK:o'.ZK=a.ZK
 g:mwd o'=mwd a
 w:o'.Yp=a.Yp
section
variable {s m:Nat} {sp:Spec} (XG:XB x) (hd:0<x.deaf) (VD:x.spec s=some sp) (VC:¬WY (x.tok s))
include XG hd VD VC
theorem V.IM (d:sp.ZK=some m) {e t:Int} (h:Ww P b ops i op f (Extern.Atomic.casT (.int .i32)) args env [.pointer (some ⟨m,0,none⟩),.int .i32 e,.int .i32 t] nt)
  (u:∀φ a,Seen x s sp φ a->¬mwd a=e->VT P Q mn x b cs nt o ops rest k op env σ s φ a (.bool false)\/∃t',Rs P Q mn x b cs nt o ops rest k op env σ s φ a (.bool false) a t')
  (v:∀φ a,Seen x s sp φ a->mwd a=e->∃o' t',mwd o'=t/\o'.Yp=a.Yp/\MU a o'/\Rs P Q mn x b cs nt o ops rest k op env σ s φ a (.bool true) o' t') :
  V P Q mn (one x) b cs nt o (.inRegion ops (i::rest)::k) env σ:=by
 refine .ext XG VD VC h λw φ a p c=>.inl ?_;have j:a.ZK=some m:=by rw[p.spec];exact d
 have l:=c.Rt j
 have n:=c.MX j 0;by_cases hv:mwd a=e
 .obtain⟨o',t',y,A,r,B⟩:=v φ a p hv;subst hv;refine⟨.bool true,_,_,(congrArg (Sem.run P · w) (casT_eq _ _)).trans (run_cas_hit_entry l n),?_,QG (QI ⟨m,0,none⟩),c.IN j d _,QJ (.inr d) hd (QI ⟨m,0,none⟩),.inr ⟨o',t',c.IP j r.ZK r.g r.w ?_,B⟩⟩
  .exact(congrArg (Sem.events P · w _) (casT_eq _ _)).trans ((events_cas_hit_entry l n _).trans U)
  .rw[y,A];rfl
 .refine⟨.bool false,w,_,(congrArg (Sem.run P · w) (casT_eq _ _)).trans (run_cas_miss_entry l n hv),?_,QG (QH ⟨m,0,none⟩ false),Xd.refl _ _ _,QJ (.inr d) hd (QH ⟨m,0,none⟩ false),?_⟩
  .exact(congrArg (Sem.events P · w _) (casT_eq _ _)).trans ((events_cas_miss_entry l n hv _).trans U)
  .exact(u φ a p hv).imp (λh=>⟨c,h⟩) λ⟨t',h⟩=>⟨a,t',c,h⟩
theorem V.Da (j:sp.ZK=some m) {d:Int} (h:Ww P b ops i op f (Extern.Atomic.update (Op.intArith .add) .i32 true) args env [.pointer (some ⟨m,0,none⟩),.int .i32 d] nt)
  (v:∀φ a,Seen x s sp φ a->∃o' t',mwd o'=IntKind.i32.wrap (mwd a+d)/\o'.Yp=a.Yp/\MU a o'/\Rs P Q mn x b cs nt o ops rest k op env σ s φ a (.int .i32 (mwd o')) o' t') :
  V P Q mn (one x) b cs nt o (.inRegion ops (i::rest)::k) env σ:=by
 refine .ext XG VD VC h λw φ a n c=>.inl ?_;have e:a.ZK=some m:=by rw[n.spec];exact j
 have p:=c.Rt e
 have r:=c.MX e 0;obtain⟨o',t',t,y,l,u⟩:=v φ a n;rw[t] at u;refine⟨_,_,_,run_add_entry p r,(events_add_entry p r _).trans U,QG (QI ⟨m,0,none⟩),c.IN e j _,QJ (.inr j) hd (QI ⟨m,0,none⟩),.inr ⟨o',t',c.IP e l.ZK l.g l.w ?_,u⟩⟩;rw[t,y];rfl
theorem V.GK (h:Ww P b ops i op f (Extern.Atomic.loadT (.int .u64)) args env [.pointer (some ⟨s,0,none⟩)] nt)
  (e:∀φ a,Seen x s sp φ a->VT P Q mn x b cs nt o ops rest k op env σ s φ a (.int .u64 (YN a))\/∃t',Rs P Q mn x b cs nt o ops rest k op env σ s φ a (.int .u64 (YN a)) a t') :
  V P Q mn (one x) b cs nt o (.inRegion ops (i::rest)::k) env σ:=by
 refine .ext XG VD VC h λw φ a g c=>.inl ?_;have d:=c.S2;refine⟨.int .u64 (YN a),w,#[⟨.cell ⟨s,0,none⟩,false,true⟩],?_,?_,QG (QH _ false),Xd.refl _ _ _,QJ (.inl U) hd (QH _ false),(e φ a g).imp (λh=>⟨c,h⟩) λ⟨t',h⟩=>⟨a,t',c,h⟩⟩
 .change Sem.run P (do Extern.Atomic.read (.int .u64) (<-asAddr (.pointer (some _)))) w=_;simp[Extern.Atomic.read,asAddr,d]
 .change Sem.events P (do Extern.Atomic.read (.int .u64) (<-asAddr (.pointer (some _)))) w _=_;simp[Extern.Atomic.read,asAddr,d,events_load]
theorem V.we {d m:Int} (h:Ww P b ops i op f (Extern.Atomic.casT (.int .u64)) args env [.pointer (some ⟨s,0,none⟩),.int .u64 d,.int .u64 m] nt)
  (p:∀φ a,Seen x s sp φ a->¬YN a=d->VT P Q mn x b cs nt o ops rest k op env σ s φ a (.bool false))
  (r:∀φ a,Seen x s sp φ a->YN a=d->∃o' t',YN o'=m/\o'.YK=a.YK/\QF a o'/\Rs P Q mn x b cs nt o ops rest k op env σ s φ a (.bool true) o' t') :
  V P Q mn (one x) b cs nt o (.inRegion ops (i::rest)::k) env σ:=by
 refine .ext XG VD VC h λw φ a n c=>.inl ?_;have e:=c.S2;have j:=c.O0 0;by_cases hv:YN a=d
 .obtain⟨o',t',t,u,l,v⟩:=r φ a n hv;subst hv;refine⟨.bool true,_,_,(congrArg (Sem.run P · w) (casT_eq _ _)).trans (run_cas_hit_entry e j),?_,QG (QI ⟨s,0,none⟩),c.MV _,QJ (.inl U) hd (QI ⟨s,0,none⟩),.inr ⟨o',t',c.MW l.ZK l.g l.w ?_,v⟩⟩
  .exact(congrArg (Sem.events P · w _) (casT_eq _ _)).trans ((events_cas_hit_entry e j _).trans U)
  .rw[t,u];rfl
 .refine⟨.bool false,w,_,(congrArg (Sem.run P · w) (casT_eq _ _)).trans (run_cas_miss_entry e j hv),?_,QG (QH ⟨s,0,none⟩ false),Xd.refl _ _ _,QJ (.inl U) hd (QH ⟨s,0,none⟩ false),.inl ⟨c,p φ a n hv⟩⟩;exact(congrArg (Sem.events P · w _) (casT_eq _ _)).trans ((events_cas_miss_entry e j hv _).trans U)
theorem V.GJ {d:Int} (h:Ww P b ops i op f (Extern.Atomic.update (Op.intArith .add) .u64 true) args env [.pointer (some ⟨s,0,none⟩),.int .u64 d] nt)
  (p:∀φ a,Seen x s sp φ a->∃o' t',YN o'=IntKind.u64.wrap (YN a+d)/\o'.YK=a.YK/\QF a o'/\Rs P Q mn x b cs nt o ops rest k op env σ s φ a (.int .u64 (YN o')) o' t') :
  V P Q mn (one x) b cs nt o (.inRegion ops (i::rest)::k) env σ:=by
 refine .ext XG VD VC h λw φ a r c=>.inl ?_;have j:=c.S2;have l:=c.O0 0;obtain⟨o',t',m,t,e,n⟩:=p φ a r;rw[m] at n;refine⟨_,_,_,run_add_entry j l,(events_add_entry j l _).trans U,QG (QI ⟨s,0,none⟩),c.MV _,QJ (.inl U) hd (QI ⟨s,0,none⟩),.inr ⟨o',t',c.MW e.ZK e.g e.w ?_,n⟩⟩;rw[m,t];rfl
end
theorem C' {w:World} {a:Addr} {n:Int} {vs:List Value} (b:vs[0]?=some (.pointer (some a))) (c:w.cell? a=some (.int .u32 n)) (d:n≠0) (e:w.frozen? a=false):(Extern.Sync.semacquire vs.toArray).run P w=.ok (.tuple #[]) (w.setCell a (.int .u32 (n-1))):=by
 simp[Extern.Sync.semacquire,Extern.Sync.count,b,c,d,e,Extern.Sync.none_,run_store P w a (.int .u32 (n-1)) .atomic U,Result.andThen]
theorem C9 {w:World} {a:Addr} {n:Int} {vs:List Value} (b:vs[0]?=some (.pointer (some a))) (c:w.cell? a=some (.int .u32 n)) (d:n≠0) (e:w.frozen? a=false) (es:Array Event):(Extern.Sync.semacquire vs.toArray).events P w es=es++semEvents a:=by
 simp[Extern.Sync.semacquire,Extern.Sync.count,b,c,d,e,semEvents,events_load,events_store P w _ a (.int .u32 (n-1)) .atomic U,run_store P w a (.int .u32 (n-1)) .atomic U,Result.evThen];apply Nx;simp
theorem C8 {w:World} {a:Addr} {vs:List Value} (b:vs[0]?=some (.pointer (some a))) (c:w.cell? a=some (.int .u32 0)):(Extern.Sync.semacquire vs.toArray).run P w=.halt .blocked w:=by
 simp[Extern.Sync.semacquire,Extern.Sync.count,b,c]
theorem C7 {w:World} {a:Addr} {n:Int} {vs:List Value} (b:vs[0]?=some (.pointer (some a))) (c:w.cell? a=some (.int .u32 n)) (d:w.frozen? a=false):(Extern.Sync.semrelease vs.toArray).run P w=.ok (.tuple #[]) (w.setCell a (.int .u32 (IntKind.u32.wrap (n+1)))):=by
 simp[Extern.Sync.semrelease,Extern.Sync.count,b,c,d,Extern.Sync.none_,Op.intArith,run_store P w a (.int .u32 (IntKind.u32.wrap (n+1))) .atomic U,Result.andThen]
theorem C6 {w:World} {a:Addr} {n:Int} {vs:List Value} (b:vs[0]?=some (.pointer (some a))) (c:w.cell? a=some (.int .u32 n)) (d:w.frozen? a=false) (es:Array Event):(Extern.Sync.semrelease vs.toArray).events P w es=es++semEvents a:=by
 simp[Extern.Sync.semrelease,Extern.Sync.count,b,c,d,semEvents,Op.intArith,events_load,events_store P w _ a (.int .u32 (IntKind.u32.wrap (n+1))) .atomic U,run_store P w a (.int .u32 (IntKind.u32.wrap (n+1))) .atomic U,Result.evThen];apply Nx;simp
theorem IL {s b c d:Nat} {sp:Spec} (e:X1 s sp b):Se s sp d (semEvents ⟨b,c,none⟩):=by
 refine⟨by simp[deafBehind,semEvents],λj y a=>?_⟩
 match j,a with
 | 0,a=>simp[semEvents] at a;subst a;exact .inl rfl
 | 1,a=>simp[semEvents] at a;subst a;exact .inr (.inr ⟨b,c,false,rfl,e,by simp[semEvents,deafBehind]⟩)
 | 2,a=>simp[semEvents] at a;subst a;exact .inr (.inr ⟨b,c,true,rfl,e,by simp[semEvents,deafBehind]⟩)
 | 3,a=>simp[semEvents] at a;subst a;exact .inr (.inl rfl)
 | j+4,a=>simp[semEvents] at a
section
variable {s m:Nat} {sp:Spec} (XG:XB x) (VD:x.spec s=some sp) (VC:¬WY (x.tok s))
include XG VD VC
theorem V.wc (e:sp.ZK=some m) (j:vs[0]?=some (.pointer (some ⟨m,1,none⟩))) (u:∀r,r≠s->S3 (x.tok r)) (h:Ww P b ops i op f Extern.Sync.semacquire args env vs nt)
  (v:∀φ a,Seen x s sp φ a->a.Yp=0->UP a (x.tok s))
  (y:∀φ a,Seen x s sp φ a->0<a.Yp->∃o' t',mwd o'=mwd a/\o'.Yp=a.Yp-1/\MU a o'/\Rs P Q mn x b cs nt o ops rest k op env σ s φ a (.tuple #[]) o' t') :
  V P Q mn (one x) b cs nt o (.inRegion ops (i::rest)::k) env σ:=by
 refine .ext XG VD VC h λw φ a l c=>?_;have d:a.ZK=some m:=by rw[l.spec];exact e
 have n:=c.Dd d;by_cases hv:a.Yp=0
 .exact .inr ⟨v φ a l hv,u,C8 j (by rw[n,hv];rfl)⟩
 .obtain⟨o',t',A,B,p,C⟩:=y φ a l J;have t:((a.Yp:Nat):Int)≠0:=J;refine .inl ⟨_,_,_,C' j n t (c.MX d 1),C9 j n t (c.MX d 1) _,semEvents_sync _,c.IN d e _,IL (.inr e),.inr ⟨o',t',c.IP d p.ZK p.g p.w ?_,C⟩⟩;rw[A,B,show((a.Yp:Nat):Int)-1=((a.Yp-1:Nat):Int) by omega];rfl
theorem V.wa (d:vs[0]?=some (.pointer (some ⟨s,1,none⟩))) (p:∀l,l≠s->S3 (x.tok l)) (h:Ww P b ops i op f Extern.Sync.semacquire args env vs nt)
  (r:∀φ a,Seen x s sp φ a->a.YK=0->UP a (x.tok s))
  (t:∀φ a,Seen x s sp φ a->0<a.YK->∃o' t',YN o'=YN a/\o'.YK=a.YK-1/\QF a o'/\Rs P Q mn x b cs nt o ops rest k op env σ s φ a (.tuple #[]) o' t') :
  V P Q mn (one x) b cs nt o (.inRegion ops (i::rest)::k) env σ:=by
 refine .ext XG VD VC h λw φ a m c=>?_;have e:=c.IQ;by_cases hv:a.YK=0
 .exact .inr ⟨r φ a m hv,p,C8 d (by rw[e,hv];rfl)⟩
 .obtain⟨o',t',u,v,j,y⟩:=t φ a m J;have n:((a.YK:Nat):Int)≠0:=J;refine .inl ⟨_,_,_,C' d e n (c.O0 1),C9 d e n (c.O0 1) _,semEvents_sync _,c.MV _,IL (.inl U),.inr ⟨o',t',c.MW j.ZK j.g j.w ?_,y⟩⟩;rw[u,v,show((a.YK:Nat):Int)-1=((a.YK-1:Nat):Int) by omega];rfl
theorem V.C5 (e:sp.ZK=some m) (l:vs[0]?=some (.pointer (some ⟨m,1,none⟩))) (h:Ww P b ops i op f Extern.Sync.semrelease args env vs nt)
  (r:∀φ a,Seen x s sp φ a->a.Yp<1000/\∃o' t',mwd o'=mwd a/\o'.Yp=a.Yp+1/\MU a o'/\Rs P Q mn x b cs nt o ops rest k op env σ s φ a (.tuple #[]) o' t') :
  V P Q mn (one x) b cs nt o (.inRegion ops (i::rest)::k) env σ:=by
 refine .ext XG VD VC h λw φ a n c=>.inl ?_;have d:a.ZK=some m:=by rw[n.spec];exact e
 have p:=c.Dd d;obtain⟨y,o',t',t,u,j,v⟩:=r φ a n;refine⟨_,_,_,C7 l p (c.MX d 1),C6 l p (c.MX d 1) _,semEvents_sync _,c.IN d e _,IL (.inr e),.inr ⟨o',t',c.IP d j.ZK j.g j.w ?_,v⟩⟩;rw[t,u,show IntKind.u32.wrap (((a.Yp:Nat):Int)+1)=((a.Yp+1:Nat):Int) by simp only[IntKind.wrap_u32];omega];rfl
end
end
end Go.TL
namespace Go.TL
open Go.Proofs.Tryz
open Go.Conc
open Go.ConcM (OsLater)
open Go.ConcN (sumTo upd sumTo_upd upd_ne upd_same sumTo_congr le_sumTo)
open Go.ConcR (mk)
variable [ZP]
section
variable {P:Program} {T:ZR} {Q:Value->Prop} {mn:Bool} {x:ZU} {z:WA} {b:Frame} {cs:YU} {nt:Nat} {o:Base} {k:Zz} {env:Β} {σ:Ξ}
variable {ops:ZC} {i:Nat} {rest:ο} {op:Oper} {f:FuncId} {e:ζ->Sem Value} {args:Array Operand} {vs:List Value} {fn:Func}
theorem To {S:κ} {B:Z5} {l:List Value} {vs:ζ} (h:XN S B σ (l.map Ψ.z) vs):vs=l.toArray:=by
 apply Nx;apply Sj;intro i;have a:=h.1;rw[X2] at a;by_cases hi:i<l.length
 .have b:(l.map Ψ.z)[i]?=some (.z l[i]):=by rw[Yc,Z7 hi];rfl
  have Ρ:vs[i]?=some vs[i]:=Xu J
  have:=h.2 i _ _ b Ρ
  have:vs[i]=l[i]:=by generalize vs[i]=u at this;cases this;rfl
  rw[Wh,Ρ,this];simp[hi]
 .rw[Wh,NH J];simp;omega
theorem V.call (n:Seq z) (j:Tp b ops i op) (p:Xx env ops op=some true) {y:Operand} {r:Array TypeId} (l:op.op=.call ⟨.value y,args,r⟩) {g:FuncId} {first captured:μ} (s:ε env y=.fn (.func g) first captured) (u:Plain P g)
  (h:∀(S:κ) (B:Z5) (H:Τ) (t:ζ) (vs:ζ),XE o.m o.S o.B o.H o.σ S B H σ->Xb o.m nt S B H σ env t->XN S B σ (first++args.toList.map (ε env)++captured) vs->
   γ P Q mn z (Frame.enter P g vs .normal) (π b t (.inRegion ops (i::rest)::k)::cs) H):V P Q mn z b cs nt o (.inRegion ops (i::rest)::k) env σ:=by
 intro S B H t v a;refine .op n j.run j.op (UO a.Y7 p) (.inr λc=>by rw[l];simp) ?_;have e:execOp (ZJ t) op=(do let d <-Deferred.ofValue (ZJ t y) (args.map (ZJ t));invoke d.target d.args):=by unfold execOp;rw[l];rfl
 rw[e];have f:=T3 a.Y7 y;have w:=GV a.Y7 args;rw[s] at f;generalize ZJ t y=N at f;cases f with
 | fn x A C D E F=>
  refine Φ.bind' (Φ.pure' ?_);obtain⟨fn,I,J,K⟩:=u;unfold invoke;simp only;unfold callFunc;refine Φ.bind' ?_;show Φ P (match P.funcs[g]? with|none=>_|some fn=>_) H _ _;rw[I];simp only[J,K,WX,if_false];refine Φ.pure' ?_;have L:XN S B σ first x:=⟨C,E⟩
  have M:XN S B σ captured A:=⟨D,F⟩;exact h S B H t _ v a ((L.append w).append M)
theorem V.Rr {g:FuncId} {body:Code} (e:P.funcs[g]?=some fn) (f:fn.body=some body) {c:Frame} {S:κ} {B:Z5} {H:Τ} (j:Holds S B σ H) (k:vs.length<=fn.ntmps)
  (h:V P Q mn z (Frame.enter P g vs.toArray .normal) (c::cs) fn.ntmps ⟨S,[],H,[],0⟩ [.code body] (entry 0 (vs.map Ψ.z)) []):γ P Q mn z (Frame.enter P g vs.toArray .normal) (c::cs) H:=by
 rw[Rw e f];refine h.here (Xb.enter j.bare ⟨Ω,λi a v b d=>?_⟩ (Z6 _) (by simpa using k));simp only[Yc,List.getElem?_toArray] at b d;rw[d] at b;cases b;exact .z v
theorem V.GI (a:Seq z) (d:b.mode=.run) (e:b.roundOf=none) (f:b.defers=[]) (g:b.kind=.normal) (i:P.funcs[b.fn]?=some fn) (j:fn.results=#[]) {c:Frame}
  (h:∀(S:κ) (B:Z5) (H:Τ),XE o.m o.S o.B o.H o.σ S B H σ->Holds S B σ H->γ P Q mn z (c.finish (.tuple #[])) cs H):V P Q mn z b (c::cs) nt o (.code .ret::k) env σ:=by
 intro S B H t l n;refine .ret a d e (.back a U f (.inl g) i ?_);rw[results_none j];exact Φ.pure' (h S B H l n.holds)
theorem V.IK (a:Seq z) (d:b.mode=.run) (e:b.roundOf=none) (f:b.defers=[]) (g:b.kind=.normal) (i:P.funcs[b.fn]?=some fn) (j:fn.results=#[]) {c:Frame}
  (h:∀(S:κ) (B:Z5) (H:Τ),XE o.m o.S o.B o.H o.σ S B H σ->Holds S B σ H->γ P Q mn z (c.finish (.tuple #[])) cs H):V P Q mn z b (c::cs) nt o [] env σ:=by
 intro S B H t k l;refine .Qb a d e (.back a U f (.inl g) i ?_);rw[results_none j];exact Φ.pure' (h S B H k l.holds)
theorem V.PM (a:Seq z) (g:b.mode=.run) (i:b.roundOf=none) (j:b.defers=[]) (l:b.kind=.normal) (n:P.funcs[b.fn]?=some fn) {d:Nat} (p:fn.results=#[.tmp d]) {v:Value} (hv:Z3 env d=.z v) {c:Frame}
  (h:∀(S:κ) (B:Z5) (H:Τ),XE o.m o.S o.B o.H o.σ S B H σ->Holds S B σ H->γ P Q mn z (c.finish v) cs H):V P Q mn z b (c::cs) nt o (.code .ret::k) env σ:=by
 intro S B H t r f;refine .ret a g i (.back a U j (.inl l) n ?_);have e:results fn t=pure (t.getD d undef):=by unfold results;rw[p];simp
 have s:t.getD d undef=v:=by
  have:=f.Y7 d;rw[hv] at this;generalize t.getD d undef=u at this;cases this;rfl
 show Φ P (results fn t) H _ _;rw[e,s];exact Φ.pure' (h S B H r f.holds)
theorem v' {w:World} {b:TypeId} {e:IntKind} (c:P.underlying b=some (.int e)) {a:Addr} {v:Value} (d:w.cell? a=some v):(Instr.loadAt b (.pointer (some a))).run P w=.ok v w/\(Instr.loadAt b (.pointer (some a))).events P w #[]=#[⟨.cell a,false,false⟩]:=by
 constructor
 .simp[Instr.loadAt,Instr.sureAddr,loadVar,isAgg,run_underlying c,d,Result.andThen]
 .simp[Instr.loadAt,Instr.sureAddr,loadVar,isAgg,run_underlying c,d,events_load,Result.evThen]
theorem v9 {t:ζ} {w:World} (a:Tp b ops i op) (g:Region.wanted op (yielded ops t)=true) {d:TypeId} {y:Operand} (h:op.op=.load d y) {j:IntKind} (l:P.underlying d=some (.int j)) {c:Addr} (m:ZJ t y=.pointer (some c)) {v:Value} (n:w.cell? c=some v) (o:(P.funcs[b.fn]?).any (·.norace)=true) :
  stepG P mn (Go.Conc.G (π b t (.inRegion ops (i::rest)::k)) cs) w=.go (Go.Conc.G (π b (put op t v) (.inRegion ops rest::k)) cs) w #[]:=by
 obtain⟨f,p⟩:=v' (P:=P) l n;have e:execOp (ZJ t) op=(do pure (.value (<-Instr.loadAt d (.pointer (some c))))):=by unfold execOp;rw[h,<-m]
 rw[WJ a.run a.ro,WJ a.run a.ro,<-O2];have r:(execOp (⟨t,b.defers⟩:_root_.Go.Act).eval op).run P w=.ok (.value v) w:=by rw[TS,e];simp[f,Result.andThen]
 have s:(execOp (⟨t,b.defers⟩:_root_.Go.Act).eval op).events P w #[]=#[⟨.cell c,false,false⟩]:=by rw[TS,e];simp[f,p,Result.evThen]
 rw[stepG_value a.op g a.kd r];unfold listed;rw[s,seen_def,o];simp[seenStep]
section
variable {s:Nat} {sp:Spec} (XG:XB x) (VD:x.spec s=some sp) (VC:¬WY (x.tok s))
include XG VD VC
theorem V.MT (l:Tp b ops i op) (hd:Wz nt op=true) (m:Xx env ops op=some true) {f:TypeId} {y:Operand} (n:op.op=.load f y) {c:IntKind} (p:P.underlying f=some (.int c)) {g:Addr} (r:ε env y=.z (.pointer (some g))) (u:(P.funcs[b.fn]?).any (·.norace)=true)
  (d:Z'->Int) (v:∀(a:Z') (w:World),a.toSpec=sp->At s a w->w.cell? g=some (.int c (d a)))
  (A:∀φ a,Seen x s sp φ a->VT P Q mn x b cs nt o ops rest k op env σ s φ a (.int c (d a))\/∃t',Rs P Q mn x b cs nt o ops rest k op env σ s φ a (.int c (d a)) a t') :
  V P Q mn (one x) b cs nt o (.inRegion ops (i::rest)::k) env σ:=by
 refine .atomic XG VD VC hd m λt w φ a B _ C j e D E=>.inl ?_;refine⟨.int c (d a),w,#[],v9 l C n p (B _ _ r) (v a w j e) u,Xd.refl _ _ _,Db,?_⟩;exact(A φ a ⟨j,D,E⟩).imp (λh=>⟨e,h⟩) λ⟨t',F,H⟩=>⟨a,t',F,e,.inr U,H⟩
theorem V.conv (c:Tp b ops i op) (hd:Wz nt op=true) (n:Xx env ops op=some true) {src dst t0:TypeId} {y:Operand} (p:op.op=.convert src dst y) (f:P.underlying src=some (.pointer t0)) (g:P.underlying dst=some .unsafePointer) (h:(P.info? t0).map (λi=>decide (i.size=0))=some false) {d:Addr} (r:ε env y=.z (.pointer (some d)))
  (u:∀(a:Z') (w:World),a.toSpec=sp->At s a w->∃v,w.cell? d=some v)
  (A:∀φ a,Seen x s sp φ a->VT P Q mn x b cs nt o ops rest k op env σ s φ a (.pointer (some d))) :
  V P Q mn (one x) b cs nt o (.inRegion ops (i::rest)::k) env σ:=by
 refine .atomic XG VD VC hd n λt w φ a B _ C j l D E=>.inl ?_;obtain⟨v,hv⟩:=u a w j l;refine⟨.pointer (some d),w,#[],?_,Xd.refl _ _ _,Db,.inl ⟨l,A φ a ⟨j,D,E⟩⟩⟩;have m:=run_convert_to_unsafe (P:=P) f g h hv;have F:=events_convert_to_unsafe (P:=P) f g h hv #[];have e:execOp (ZJ t) op=(do pure (.value (<-convert src dst (.pointer (some d))))):=by unfold execOp;rw[p,<-B _ _ r]
 rw[WJ c.run c.ro,WJ c.run c.ro,<-O2];have H:(execOp (⟨t,b.defers⟩:_root_.Go.Act).eval op).run P w=.ok (.value (.pointer (some d))) w:=by rw[TS,e];simp[m,Result.andThen]
 have I:(execOp (⟨t,b.defers⟩:_root_.Go.Act).eval op).events P w #[]=#[]:=by rw[TS,e];simp[m,F,Result.evThen]
 rw[stepG_value c.op C c.kd H];unfold listed;rw[I,seen_none]
end
theorem v8 (w:World):OsLater w.os w.later.os:=⟨w.tick,rfl⟩
theorem Ye.later {H:Τ} {w:World} (h:Fits H w):Ye H w H w.later #[]:=
 ⟨⟨h.η,h.row,h.obj⟩,⟨Z6 _,λb c t f a=>⟨c,a,U,λ_ _=>rfl⟩,λb x a _ _=>a,v8 w,U,U⟩,⟨λb o v p h=>.inr ⟨v,p,h,id⟩,λb h=>.inr h⟩,λe d=>by simp at d⟩
theorem V.nano (g:Seq z) (h:Ww P b ops i op f Extern.OsHooks.nano args env vs nt) (c:(P.funcs[f]?).any (·.norace)=true) (j:∀τ:Int,V P Q mn z b cs nt o (.inRegion ops rest::k) (Zn op env (.z (.int .i64 τ))) σ):V P Q mn z b cs nt o (.inRegion ops (i::rest)::k) env σ:=by
 intro S B H t l d;obtain⟨fn,e,m,n,p,r⟩:=h.Tt;obtain⟨v,s⟩:=h.call;rw[e] at c;refine γ.own g λw u=>⟨_,_,_,_,H,?_,Ye.later u,j ((w.os.mono+w.tick:Nat):Int) S B H _ l (d.put h.dst (.z _))⟩;rw[WJ h.at_.run h.at_.ro,stepG_nanotime (a:=⟨t,b.defers⟩) h.at_.op (UO d.Y7 h.want) h.at_.kd s e m n p r (by simpa using c),O2,<-WJ h.at_.run h.at_.ro]
theorem V.canSpin (e:Seq z) {n:Int} (h:Ww P b ops i op f Extern.Sync.canSpin args env [.int .i64 n] nt) (g:∀y:Bool,(y=true->n<4)->V P Q mn z b cs nt o (.inRegion ops rest::k) (Zn op env (.z (.bool y))) σ):V P Q mn z b cs nt o (.inRegion ops (i::rest)::k) env σ:=by
 intro S B H t j c;obtain⟨fn,l,m,p,r,s⟩:=h.Tt;obtain⟨A,u⟩:=h.call;have v:args.map (⟨t,b.defers⟩:_root_.Go.Act).eval=#[.int .i64 n]:=by rw[TS];exact h.Ln.ZJ c.Y7
 by_cases x:n<4
 .refine γ.own e λw d=>⟨_,_,_,_,H,?_,(Ye.start d).draw (w.drawn+1),g w.spins (λ_=>x) S B H _ j (c.put h.dst (.z _))⟩;rw[WJ h.at_.run h.at_.ro,stepG_canSpin_ask (a:=⟨t,b.defers⟩) h.at_.op (UO c.Y7 h.want) h.at_.kd u l m p r s v x,O2,<-WJ h.at_.run h.at_.ro];rfl
 .refine γ.own e λw d=>⟨_,_,w,#[],H,?_,Ye.start d,g false (λh=>by cases h) S B H _ j (c.put h.dst (.z _))⟩;rw[WJ h.at_.run h.at_.ro,stepG_canSpin_no (a:=⟨t,b.defers⟩) h.at_.op (UO c.Y7 h.want) h.at_.kd u l m p r s v J,O2,<-WJ h.at_.run h.at_.ro]
theorem V.IJ (c:Seq z) {v:Value} (h:Ww P b ops i op f (λ_=>pure v) args env vs nt) (d:V P Q mn z b cs nt o (.inRegion ops rest::k) (Zn op env (.z v)) σ):V P Q mn z b cs nt o (.inRegion ops (i::rest)::k) env σ:=
 λS B H t e a=>γ.own c λw g=>⟨_,_,w,#[],H,h.step a.Y7 Ω Ω Ω,Ye.start g,d S B H _ e (a.put h.dst (.z v))⟩
theorem V.GH (g:Seq z) (c:Tp b ops i op) (j:Xx env ops op=some true) (d:op.dst=none) {l:Array TypeId} (m:op.op=.defer ⟨.value (.func f),#[],l⟩)
  (h:V P Q mn z {b with defers:=Go.Conc.dcall f #[]::b.defers} cs nt o (.inRegion ops rest::k) env σ):V P Q mn z b cs nt o (.inRegion ops (i::rest)::k) env σ:=by
 intro S B H t n e;have p:put op t undef=t:=by unfold put;rw[d]
 refine γ.still g (f':=π {b with defers:=Go.Conc.dcall f #[]::b.defers} t (.inRegion ops rest::k)) (cs':=cs) (λw=>?_) (h S B H t n e);rw[WJ c.run c.ro,stepG_defer (a:=⟨t,b.defers⟩) c.op (UO e.Y7 j) c.kd m];have:(⟨t,Go.Conc.dcall f #[]::b.defers⟩:_root_.Go.Act).put op.dst undef=⟨t,Go.Conc.dcall f #[]::b.defers⟩:=by rw[d];rfl
 simp only[Array.map_empty,List.map_toArray,TF];rw[this,WJ (b:={b with defers:=Go.Conc.dcall f #[]::b.defers}) c.run c.ro];rfl
theorem Y6.v7 (e:XB x) (hd:0<x.deaf) (c:b.mode=.run) (d:b.roundOf=none) {ds:List Deferred} (g:b.defers=Go.Conc.dcall f #[]::ds) (i:Entry P f (λ_=>do mark .enable;pure Extern.Race.none_)) {H:Τ} {t:ζ}
  (h:Y6 P Q mn {x with deaf:=x.deaf-1} {π {b with defers:=ds} t k with mode:=.returning} cs H):Y6 P Q mn x {π b t k with mode:=.returning} cs H:=by
 obtain⟨fn,j,l,m,n,o⟩:=i;refine Goes.step e.ok (.inr ⟨⟨U,U⟩,.inr (.inl ⟨Go.Conc.G {π {b with defers:=ds} t k with mode:=.returning} cs,⟨U,U⟩,.inr ⟨hd,λw _=>⟨?_,h⟩⟩⟩)⟩);rw[WJ c d,WJ (b:={b with defers:=ds}) c d];exact stepG_unwind_entry (a:=⟨t,b.defers⟩) (v:=.tuple #[]) g j l m n o (IT .enable) (IS .enable _) (QK Ω)
end
inductive Quiet (P:Program) (mn:Bool):Goroutine->Goroutine->Prop where
 | nil (g:Goroutine):Quiet P mn g g
 | cons {g g' a:Goroutine}:Vy g->(∀w,stepG P mn g w=.go g' w #[])->Quiet P mn g' a->Quiet P mn g a
section
variable {P:Program} {Q:Value->Prop} {mn:Bool} {x:ZU} {g g':Goroutine}
theorem Quiet.runs (h:Quiet P mn g g') (a:Vy g'):Vy g:=by
 cases h with
 | nil=>exact a
 | cons b=>exact b
theorem Quiet.goes (h:Quiet P mn g g') (i:XB x) (d:Vy g') (f:Goes P Q mn g' x):Goes P Q mn g x:=by
 induction h with
 | nil=>exact f
 | cons j k l m=>
  refine Goes.step i.ok (.inr ⟨j,.inl λw n hv=>?_⟩);rw[k w];refine⟨x.G,x.Z4,l.runs d,Xd.refl _ _ _,n,hv,⟨λb o v p h=>.inr ⟨v,p,h,id⟩,λb h=>.inr h⟩,λb c h=>.inl h,λe a=>by simp at a,λb c _ _ e a=>by simp at a,m d f⟩
end
end Go.TL
namespace Go.TL
open Go.Proofs.Tryz
open Go.Conc Go.Proofs
variable [ZP]
def PL (P:Program) (a:Value->Prop) (mn:Bool) (x:WA) (b:Frame) (cs:YU) (nt:Nat) (o:Base) (L:Nat) (r:Loop) (k:Zz) (env:Β) (σ:Ξ):Prop:=
 ∀(S:κ) (B:Z5) (H:Τ) (t:ζ),XE o.m o.S o.B o.H o.σ S B H σ->Xb o.m nt S B H σ env t->¬B.has L->H.obj L=some (.loop r)->γ P a mn x (π b t k) cs H
theorem Rq {S e:κ} {B B':Z5} {H H':Τ} (b:Ext S B H e B' H') {L:Nat} {y:Obj} (c:¬B.has L) (a:H.obj L=some y):¬B'.has L/\H'.obj L=some y:=by
 have d:¬H.fresh L:=λh=>by rw[h.2.2.1] at a;cases a
 exact⟨λh=>(b.blocks L h).elim c d,by rw[(b.W7 L c d).2.2];exact a⟩
theorem v5 {H:Τ} {L:Nat} {y:Obj} (f:H.Xt L):∀b,(H.Zx L y).fresh b↔H.fresh b:=by
 obtain⟨z,g⟩:=f;have d:∀b,((H.Zx L y).obj b=none↔H.obj b=none):=λb=>by
  by_cases e:b=L
  .subst e;simp[Τ.Zx,g]
  .simp[Τ.Zx,e]
 exact λb=>⟨λh=>⟨h.1,h.2.1,(d b).1 h.2.2.1,λa c=>⟨(h.2.2.2 a c).1,(h.2.2.2 a c).2.1,(d a).1 (h.2.2.2 a c).2.2⟩⟩,
  λh=>⟨h.1,h.2.1,(d b).2 h.2.2.1,λa c=>⟨(h.2.2.2 a c).1,(h.2.2.2 a c).2.1,(d a).2 (h.2.2.2 a c).2.2⟩⟩⟩
theorem Holds.Zx {S:κ} {B:Z5} {σ:Ξ} {H:Τ} {L:Nat} {y:Obj} (a:Holds S B σ H) (i:¬B.has L):Holds S B σ (H.Zx L y):=by
 have d:∀b,b≠L->Uv H (H.Zx L y) b:=λb c=>⟨λ_=>rfl,U,by simp[Τ.Zx,c]⟩
 have f:∀(id b N:Nat),B[id]?=some (some (b,N))->b≠L:=λid b N h e=>i (e▸R7 h);refine⟨a.Yy,a.len,λid r bo j g=>?_,a.inj,a.sep⟩;by_cases k:r.live
 .refine(a.row id r bo j g).later (Zm.refl S B σ) (λb N e=>d b (f id b N (by rw[g,e]))) λm left l e=>⟨U,U,λb N c=>d b (f m b N c)⟩
 .cases r<;>first|exact absurd trivial k|trivial
theorem Ext.Zx {f S:κ} {g B:Z5} {c H:Τ} {L:Nat} {y:Obj} (a:Ext f g c S B H) (i:c.fresh L) (j:H.Xt L):Ext f g c S B (H.Zx L y):=by
 refine⟨a.Yy,λb d h=>?_,a.blocks,a.QZ,λb d=>a.grow b ((v5 j b).1 d)⟩;have:b≠L:=λe=>h (e▸i);obtain⟨k,l,m⟩:=a.W7 b d h;exact⟨k,l,by simp[Τ.Zx,this,m]⟩
section
variable {P:Program} {T:ZR} {Q:Value->Prop} {mn:Bool} {x:WA} {b:Frame} {cs:YU} {nt:Nat} {o:Base} {L:Nat} {r:Loop} {k:Zz} {env:Β} {σ:Ξ}
theorem PL.W' (g:Seq x) (i:b.mode=.run) (h:W P o.m nt k env σ (PL P Q mn x b cs nt o L r) (λ_ _ _=>False)):PL P Q mn x b cs nt o L r k env σ:=
 λS B H t l n p s=>h Q mn x cs b S B H t g i n (λj env' σ' c B' H' t' d u f w y=>by
  have e:d=j:=y;subst e;obtain⟨A,C⟩:=Rq f.ext p s;exact u c B' H' t' (l.trans f) w A C) (λa env' σ' c B' H' t' d v D=>D.elim)
theorem PL.yield (s:Seq x) {ops:ZC} {i:Nat} {rest:ο} {f:Oper} (l:Tp b ops i f) (u:Xx env ops f=some true) {y:Operand} {args:Array Operand} {v:Array TypeId} (n:f.op=.call ⟨.value y,args,v⟩) (w:ε env y=.fn (.yield L) [] []) (A:args.size=r.params.size)
  (h:∀(S:κ) (B:Z5) (H:Τ) (t:ζ) (vs:ζ),XE o.m o.S o.B o.H o.σ S B H σ->Xb o.m nt S B H σ env t->¬B.has L->H.obj L=some (.loop r)->XN S B σ (args.toList.map (ε env)) vs->
   γ P Q mn x (Frame.round L r.fn ((r.params.zip vs).foldl (λC (t,a)=>C.setIfInBounds t a) r.tmps) r.assign r.body .normal) (π b t (.inRegion ops (i::rest)::k)::cs) H):PL P Q mn x b cs nt o L r (.inRegion ops (i::rest)::k) env σ:=by
 intro S B H t D g E p;refine γ.op s l.run l.op (UO g.Y7 u) (.inr λc=>by rw[n];simp) ?_;have e:execOp (ZJ t) f=(do let d <-Deferred.ofValue (ZJ t y) (args.map (ZJ t));invoke d.target d.args):=by unfold execOp;rw[n];rfl
 rw[e];have j:=T3 g.Y7 y;have F:=GV g.Y7 args;rw[w] at j;generalize ZJ t y=R at j;cases j with
 | fn I J K M T U=>
  have N:I=#[]:=KT (by rw[<-K];rfl)
  have Ρ:J=#[]:=KT (by rw[<-M];rfl);subst N;subst Ρ;refine Φ.bind' (Φ.pure' ?_);have O:invoke (Target.fn (Fn.yield L) #[]) (#[]++args.map (ZJ t))=Instr.yield L (args.map (ZJ t)):=by simp[invoke]
  show Φ P (invoke (Target.fn (Fn.yield L) #[]) (#[]++args.map (ZJ t))) H _ _;rw[O];unfold Instr.yield;refine Φ.bind' (Φ.getLoop p ?_);rw[if_neg (by simp[A])];refine Φ.bind' (Φ.pure' (Φ.pure' ?_));exact h S B H t _ D g E p F
end
end Go.TL
namespace Go.TL
open Go.Proofs.Tryz
open Go.Conc Go.Proofs
def Rp (n:Nat) (l:ο):Nat->Option Nat
 | 0=>none
 | e+1=>if l.getD e 0+l.length=n+e then Rp n l e else some e
def Tn (l:ο) (i:Nat) (k:Nat):ο:=l.take i++((List.range k).map λj=>l.getD i 0+1+j)++l.drop (i+k)
def Ro (n:Nat) (l:ο):Option (ο):=(Rp n l l.length).map λi=>Tn l i (l.length-i)
def Sq (n:Nat):Nat->ο->List (ο)
 | 0,l=>[l]
 | f+1,l=>l::match Ro n l with|none=>[]|some m=>Sq n f m
def Rn (n:Nat):Nat->ο->Bool
 | 0,l=>l.all (· < n)&&(Ro n l).isNone
 | f+1,l=>l.all (· < n)&&match Ro n l with|none=>true|some m=>Rn n f m
def Up (n c:Nat):List (ο):=(List.range' c (n+1-c)).flatMap λm=>Sq n 1000 (List.range m)
theorem v3:∀n<13,∀m<n+1,Rn n 1000 (List.range m)=true:=by decide +kernel
theorem vZ {n c:Nat} (h:c<n+1):Up n c=Sq n 1000 (List.range c)++Up n (c+1):=by
 unfold Up;have:n+1-c=(n+1-(c+1))+1:=J;rw[this,Ky,List.flatMap_cons]
theorem vY {n:Nat}:Up n (n+1)=[]:=by simp[Up]
theorem vX {n f:Nat} {l:ο} (h:Rn n f l=true):∀x∈l,x<n:=by
 cases f<;>simp only[Rn,VO,V5,decide_eq_true_eq] at h<;>exact h.1
theorem vW {n f:Nat} {l:ο} (h:Ro n l=none):Sq n f l=[l]:=by
 cases f<;>simp[Sq,h]
theorem vV {n f:Nat} {l m:ο} (a:Rn n f l=true) (h:Ro n l=some m):∃g,f=g+1/\Sq n f l=l::Sq n g m/\Rn n g m=true:=by
 cases f with
 | zero=>simp[Rn,h] at a
 | succ g=>exact⟨g,rfl,by simp[Sq,h],by simp[Rn,h] at a;exact a.2⟩
theorem C4 {l:ο} {i k:Nat} (h:i+k<=l.length):(Tn l i k).length=l.length:=by simp[Tn];omega
theorem vU {l:ο} {i:Nat} (h:i<l.length):Tn l i 1=l.set i (l[i]+1):=by
 unfold Tn;rw[List.set_eq_take_append_cons_drop,if_pos h];simp[h]
theorem vT {l:ο} {i k:Nat} (b:0<k) (h:i+k<=l.length):(Tn l i k).getD (i+k-1) 0=l.getD i 0+k:=by
 unfold Tn;have a:(l.take i).length=i:=by simp;omega
 rw[WB,TH,Xj J,a,Yz (by simp;omega)];have:i+k-1-i=k-1:=J;rw[this,Yc,List.getElem?_range J];simp;omega
theorem vS {l:ο} {i k:Nat} (h:i+k<l.length):(Tn l i k).set (i+k) (l.getD i 0+k+1)=Tn l i (k+1):=by
 unfold Tn;have a:(l.take i++(List.range k).map λj=>l.getD i 0+1+j).length=i+k:=by simp;omega
 rw[Py _ _ J,a,Ps,UB,XA];have Ρ:l.drop (i+k)=l[i+k]::l.drop (i+k+1):=OM h;rw[Ρ,List.set_cons_zero];simp;constructor<;>omega
end Go.TL
namespace Go.TL
open Go.Proofs.Tryz
open Go.Proofs
theorem W.vR [ZP] {nt:Nat} {E:Ya} {m:Nat} {k:Zz} {env:Β} {σ:Ξ} {Z:XO} {is a:ο} (_:is=is) (_:a=a) {ops:ZC} {l:ο} (c:l=is++a) (h:∀b:Β->Ξ->Prop,(∀env σ,W prog m nt (.inRegion ops a::k) env σ Z E->b env σ)->run prog ZS [] nt ops is env σ b E):W prog m nt (.inRegion ops l::k) env σ Z E:=W.part Ο is a c h
theorem Xn (a b:ο) {p q:Prop} (k:q) (h:a=a->b=b->q->p:=by intro c d k;refine W.vR c d U λf e=>?_;(try simp);(repeat (rw[Θ];simp));apply e;exact k):p:=h U U k
end Go.TL
namespace Go.TL
open Go.Proofs.Tryz
open Go.Conc Go.Proofs
open Go.ConcN (sumTo upd sumTo_upd upd_ne upd_same sumTo_congr le_sumTo)
theorem GG {B:Type} (f:Nat->B) (s:Nat) (a b:B):upd (upd f s a) s b=upd f s b:=by
 funext i;unfold upd;split<;>rfl
def ZH (x:ZU) (s:Nat) (t:Tok) (v:Option (Nat×Z')) (d:Nat):ZU:={x with tok:=upd x.tok s t,view:=upd x.view s v,deaf:=d}
section
variable {x:ZU} {s:Nat} {t t':Tok} {v II:Option (Nat×Z')} {d nu:Nat}
theorem Wv:({ZH x s t v d with tok:=upd (ZH x s t v d).tok s t',view:=upd (ZH x s t v d).view s II}:ZU)=ZH x s t' II d:=by unfold ZH;simp only[GG]
theorem UG:({ZH x s t v d with view:=upd (ZH x s t v d).view s II}:ZU)=ZH x s t II d:=by unfold ZH;simp only[GG]
theorem Lm:({ZH x s t v d with deaf:=(ZH x s t v d).deaf+1}:ZU)=ZH x s t v (d+1):=rfl
theorem Ll:({ZH x s t v d with deaf:=(ZH x s t v d).deaf-1}:ZU)=ZH x s t v (d-1):=rfl
theorem Zg:(ZH x s t v d).tok s=t:=by unfold ZH;simp only[upd_same]
theorem RX:(ZH x s t v d).view s=v:=by unfold ZH;simp only[upd_same]
theorem Lk {r:Nat} (h:r≠s):(ZH x s t v d).tok r=x.tok r:=by unfold ZH;exact upd_ne _ _ h
end
theorem GF {N:Nat} {τ:Nat->Tok} {φ a:Tok->Nat} (h:∀t,φ t<=a t):ZQ N τ φ<=ZQ N τ a:=by
 induction N with
 | zero=>exact Z6 _
 | succ N b=>rw[Oz,Oz];have:=h (τ N);omega
theorem vQ {N:Nat} {τ:Nat->Tok} {φ a:Tok->Nat}:ZQ N τ (λt=>φ t+a t)=ZQ N τ φ+ZQ N τ a:=by
 induction N with
 | zero=>rfl
 | succ N b=>simp only[Oz,b];omega
structure PK (a:Z') (t:Tok):Prop where
 YW:a.YW<=1
 wk:a.wk<=1
 sv:a.sv<=1
 Yp:a.Yp<=1
 nw:a.nw<=a.top
 vP:TE t=1->a.sv=0/\a.wk=1
 hw:S5 t=1->a.sv=1/\a.wk=0/\a.YW=0/\1<=a.nw
 hold:VN t=1->a.YW=1
 vO:T9 t=1->(a.sv=0->a.wk=1)/\(a.sv=1->a.wk=0/\a.YW=0/\1<=a.nw)
theorem Oy.S1 {c:Z'} {t:Tok} (h:Oy c t):PK c t:=by
 obtain⟨N,τ,i,⟨g,j⟩,hi,k,_⟩:=h;have l:=Xi τ VN hi;have l2:=Xi τ TE hi;have n:=Xi τ S5 hi;have o:=Xi τ T9 hi;rw[k] at l l2 n o;have p:ZQ N τ T'+ZQ N τ T9<=ZQ N τ T8:=by
  rw[<-vQ];refine GF λt=>?_;cases t<;>simp[T',T9,T8];rename_i m _;cases m<;>simp[L9,L8]
 have r:ZQ N τ S5<=ZQ N τ T9:=GF λt=>by
  cases t<;>simp[S5,T9];rename_i m _;cases m<;>simp[Kw,L8]
 obtain⟨f1,f2,f3,s,a,b,u,v,w⟩:=g;obtain⟨x,y,A,B,C,D,E,F,H⟩:=j;have d:c.sv=0\/c.sv=1:=J;refine⟨f1,f2,f3,?_,?_,λf=>?_,λf=>?_,λf=>?_,λf=>⟨λe=>?_,λe=>?_⟩⟩
 .rcases d with e|e
  .have:=a e;omega
  .have:=b e;omega
 .rcases d with e|e
  .have:=a e;omega
  .have:=b e;omega
 .rcases d with e|e
  .have:=a e;omega
  .have:=b e;omega
 .rcases d with e|e
  .have:=a e;omega
  .have:=b e;omega
 .omega
 .have:=a e;omega
 .have:=b e;omega
structure vN (a:Z') (t:Tok):Prop where
 wt:a.wt<=1
 cnt:a.cnt<=a.top
 YK:a.YK<=1
 live:Vo t<=a.cnt
 add:∀n p,t=.par n p .add->a.wt=0/\a.YK=0/\n<=a.top/\p<=a.cnt/\a.cnt<=n
 fin:∀n p,t=.par n p .SJ\/t=.par n p .w4\/t=.par n p .ZO->a.wt=0/\a.YK=0/\a.cnt=0
 l2:∀k m,t=.ch k m .l2->a.wt=1/\a.cnt=0
 RK:∀k m,t=.ch k m .RK->a.wt=0/\a.cnt=0/\a.YK=0
theorem Oy.PJ {r:Z'} {t:Tok} (h:Oy r t):vN r t:=by
 obtain⟨N,τ,i,⟨D,d⟩,hi,a,_⟩:=h;have y:=Xi τ Vo hi;have l2:=Xi τ UR hi;have s:=Xi τ UQ hi;rw[a] at y l2 s;have E:ZQ N τ Vo<=ZQ N τ T8:=GF λt=>by
  cases t<;>simp[Vo,T8];rename_i g;cases g<;>simp[Qf]
 unfold Sg at d;have u:XH t=1->ZQ N τ We=We t/\ZQ N τ VM=VM t/\ZQ N τ TD=TD t/\ZQ N τ T7=T7 t/\ZQ N τ VL=VL t:=λf=>by
  have A:XH (τ i)=1:=by rw[a];exact f
  refine⟨?_,?_,?_,?_,?_⟩<;>(rw[RH (λt a=>by cases t<;>simp_all [XH,We,VM,TD,T7,VL]) d.SG hi A,a])
 obtain⟨B,F,H,I,K,b,j,c,L⟩:=d;have l:ZQ N τ TD=1\/ZQ N τ T7=1\/ZQ N τ VL=1:=J;refine⟨B,J,?_,J,λn p e=>?_,λn p e=>?_,λk m e=>?_,λk m e=>?_⟩
 .rcases l with e|e|e
  .have:=b e;omega
  .have:=j e;omega
  .have:=c e;omega
 .subst e;obtain⟨v,w,o,C,x⟩:=u U;simp only[We,VM,TD] at v w o;have:=b o;omega
 .have f:XH t=1:=by rcases e with rfl|rfl|rfl<;>rfl
  obtain⟨v,w,o,C,x⟩:=u f;have:ZQ N τ VL=1:=by rw[x];rcases e with rfl|rfl|rfl<;>rfl
  have:=c this;omega
 .subst e;simp only[UR,OC] at l2;rcases l with e|e|e
  .have:=b e;omega
  .have:=j e;omega
  .have:=c e;omega
 .subst e;simp only[UQ,OB] at s;rcases l with e|e|e
  .have:=b e;omega
  .have:=j e;omega
  .have:=c e;omega
abbrev Wu (a b c n:Nat):Int:=(a:Int)+2*b+4*c+8*n
theorem GD:∀a<2,∀b<2,∀c<2,∀n<8,XT .i32 (Wu a b c n) 5=a+4*c:=by decide +kernel
theorem GC:∀a<2,∀b<2,∀c<2,∀n<8,XT .i32 (Wu a b c n) 4=4*c:=by decide +kernel
theorem vM:∀a<2,∀b<2,∀c<2,∀n<8,XT .i32 (Wu a b c n) 3=a+2*b:=by decide +kernel
theorem vL:∀a<2,∀b<2,∀c<2,∀n<8,XT .i32 (Wu a b c n) 7=a+2*b+4*c:=by decide +kernel
theorem IH:∀a<2,∀b<2,∀c<2,∀n<8,XT .i32 (Wu a b c n) 2=2*b:=by decide +kernel
theorem vK:∀a<2,∀b<2,∀c<2,∀n<8,XT .i32 (Wu a b c n) 1=a:=by decide +kernel
theorem vJ:∀a<2,∀b<2,∀c<2,∀n<8,QY .i32 (Wu a b c n) 1=Wu 1 b c n:=by decide +kernel
theorem vI:∀a<2,∀b<2,∀c<2,∀n<8,QY .i32 (Wu a b c n) 2=Wu a 1 c n:=by decide +kernel
theorem vH:∀a<2,∀b<2,∀c<2,∀n<8,QY .i32 (Wu a b c n) 4=Wu a b 1 n:=by decide +kernel
theorem GB:∀a<2,∀b<2,∀c<2,∀n<8,Uu .i32 (Wu a b c n) 2=Wu a 0 c n:=by decide +kernel
theorem GA:∀a<2,∀b<2,∀c<2,∀n<8,(Wu a b c n).fdiv (2 ^ min 3 IntKind.i32.bits)=n:=by decide +kernel
theorem vG:∀a<2,∀b<2,∀c<2,∀n<7,IntKind.i32.wrap (Wu a b c n+8)=Wu a b c (n+1):=by decide +kernel
theorem RV (a:Z'):mwd a=Wu a.YW a.wk a.sv a.nw:=rfl
theorem Lj:Entry prog 160 (λ_=>do mark .disable;pure Extern.Race.none_):=⟨_,func160,by kernel_rfl,by kernel_rfl,by kernel_rfl,by kernel_rfl⟩
theorem OZ:Entry prog 161 (λ_=>do mark .enable;pure Extern.Race.none_):=⟨_,func161,by kernel_rfl,by kernel_rfl,by kernel_rfl,by kernel_rfl⟩
theorem C3:Entry prog 159 (Extern.Race.marked .releaseMerge):=⟨_,func159,by kernel_rfl,by kernel_rfl,by kernel_rfl,by kernel_rfl⟩
theorem IG:Entry prog 177 (Extern.Race.marked .acquire):=⟨_,func177,by kernel_rfl,by kernel_rfl,by kernel_rfl,by kernel_rfl⟩
theorem vF:Entry prog 167 (Extern.Race.marked .read):=⟨_,func167,by kernel_rfl,by kernel_rfl,by kernel_rfl,by kernel_rfl⟩
theorem vE:Entry prog 180 (Extern.Race.marked .write):=⟨_,func180,by kernel_rfl,by kernel_rfl,by kernel_rfl,by kernel_rfl⟩
theorem C2:Entry prog 162 (λ_=>pure (.bool false)):=⟨_,func162,by kernel_rfl,by kernel_rfl,by kernel_rfl,by kernel_rfl⟩
theorem IF:Entry prog 212 (Extern.Atomic.casT (.int .i32)):=⟨_,func212,by kernel_rfl,by kernel_rfl,by kernel_rfl,by kernel_rfl⟩
theorem C1:Entry prog 214 (Extern.Atomic.update (Op.intArith .add) .i32 true):=⟨_,func214,by kernel_rfl,by kernel_rfl,by kernel_rfl,by kernel_rfl⟩
theorem vD:Entry prog 216 (Extern.Atomic.casT (.int .u64)):=⟨_,func216,by kernel_rfl,by kernel_rfl,by kernel_rfl,by kernel_rfl⟩
theorem C0:Entry prog 207 (Extern.Atomic.update (Op.intArith .add) .u64 true):=⟨_,func207,by kernel_rfl,by kernel_rfl,by kernel_rfl,by kernel_rfl⟩
theorem CZ:Entry prog 208 (Extern.Atomic.loadT (.int .u64)):=⟨_,func208,by kernel_rfl,by kernel_rfl,by kernel_rfl,by kernel_rfl⟩
theorem vC:Entry prog 209 Extern.Atomic.storeT:=⟨_,func209,by kernel_rfl,by kernel_rfl,by kernel_rfl,by kernel_rfl⟩
theorem vB:Entry prog 242 Extern.Sync.canSpin:=⟨_,func242,by kernel_rfl,by kernel_rfl,by kernel_rfl,by kernel_rfl⟩
theorem vA:Entry prog 243 (λ_=>pure (.tuple #[])):=⟨_,func243,by kernel_rfl,by kernel_rfl,by kernel_rfl,by kernel_rfl⟩
theorem CY:Entry prog 245 Extern.OsHooks.nano:=⟨_,func245,by kernel_rfl,by kernel_rfl,by kernel_rfl,by kernel_rfl⟩
theorem vz:Entry prog 246 Extern.Sync.semacquire:=⟨_,func246,by kernel_rfl,by kernel_rfl,by kernel_rfl,by kernel_rfl⟩
theorem vy:Entry prog 181 Extern.Sync.semacquire:=⟨_,func181,by kernel_rfl,by kernel_rfl,by kernel_rfl,by kernel_rfl⟩
theorem CX:Entry prog 248 Extern.Sync.semrelease:=⟨_,func248,by kernel_rfl,by kernel_rfl,by kernel_rfl,by kernel_rfl⟩
theorem vx:Entry prog 171 Extern.Sync.semrelease:=⟨_,func171,by kernel_rfl,by kernel_rfl,by kernel_rfl,by kernel_rfl⟩
theorem OY:prog.underlying 195=some .unsafePointer:=by kernel_rfl
theorem Gz:prog.underlying 237=some (.pointer 171):=by kernel_rfl
theorem Gy:(prog.info? 171).map (λi=>decide (i.size=0))=some false:=by kernel_rfl
theorem Gx:prog.underlying 193=some (.pointer 179):=by kernel_rfl
theorem Gw:(prog.info? 179).map (λi=>decide (i.size=0))=some false:=by kernel_rfl
theorem CW:prog.underlying 200=some (.pointer 169):=by kernel_rfl
theorem CV:(prog.info? 169).map (λi=>decide (i.size=0))=some false:=by kernel_rfl
theorem MS:prog.underlying 21=some (.int .i32):=by kernel_rfl
theorem γ.leave0 [ZP] {P:Program} {d:Value->Prop} {mn:Bool} {z:WA} {c b:Frame} {rest:YU} {H:Τ} {t:ζ} {ops:ZC} {fn:Func} (a:Seq z) (e:b.mode=.run) (f:b.roundOf=none) (g:b.defers=[]) (i:b.kind=.normal) (j:P.funcs[b.fn]?=some fn) (k:fn.results=#[])
  (h:γ P d mn z (c.finish (.tuple #[])) rest H):γ P d mn z (π b t [.inRegion ops []]) (c::rest) H:=by
 refine .ZB a e (.Qb a e f (.back a U g (.inl i) j ?_));rw[results_none k];exact Φ.pure' h
theorem Y6.leave0 [ZP] {P:Program} {a:Value->Prop} {mn:Bool} {x:ZU} {c b:Frame} {rest:YU} {H:Τ} {t:ζ} {ops:ZC} {fn:Func} (d:Seq (one x)) (e:b.mode=.run) (f:b.roundOf=none) (g:b.defers=[]) (i:b.kind=.normal) (j:P.funcs[b.fn]?=some fn) (k:fn.results=#[])
  (h:Y6 P a mn x (c.finish (.tuple #[])) rest H):Y6 P a mn x (π b t [.inRegion ops []]) (c::rest) H:=
 γ.leave0 (z:=one x) d e f g i j k (λy l=>by cases l;exact h) x U
structure Vh (x:ZU) (s m:Nat) (sp:Spec):Prop where
 rel:x.rel=false
 Z4:x.Z4=λ_=>none
 spec:x.spec s=some sp
 ZK:sp.ZK=some m
 top:sp.top<7
 still:∀a,a≠s->S3 (x.tok a)
theorem Vh.seq {x:ZU} {s m:Nat} {sp:Spec} (h:Vh x s m sp):∀t v d,@Seq XV (one (ZH x s t v d)):=λt v d=>@Seq.O1 XV _ trivial h.rel h.Z4
theorem Y6.vw [ZP] {P:Program} {d:Value->Prop} {mn:Bool} {x:ZU} {c b:Frame} {rest:YU} {H:Τ} {t:ζ} {ops:ZC} {k:Zz} {fn:Func} (a:Seq (one x)) (e:b.mode=.run) (f:b.roundOf=none) (g:b.defers=[]) (i:b.kind=.normal) (j:P.funcs[b.fn]?=some fn) (l:fn.results=#[])
  (h:Y6 P d mn x (c.finish (.tuple #[])) rest H):Y6 P d mn x (π b t (.inRegion ops []::.code .ret::k)) (c::rest) H:=by
 refine γ.ZB (x:=one x) a e (.ret a e f (.back a U g (.inl i) j ?_)) x U;rw[results_none l];exact Φ.pure' (λy m=>by cases m;exact h)
abbrev ptr (b o:Nat):Value:=.pointer (some ⟨b,o,none⟩)
section
variable {Q:Value->Prop} {mn:Bool} {x:ZU} {c:Frame} {rest:YU} {S:κ} {B:Z5} {σ:Ξ} {H:Τ} {s m k:Nat} {sp:Spec} {v:Option (Nat×Z')}
def PI (Q:Value->Prop) (mn:Bool) (x:ZU) (c:Frame) (rest:YU) (S:κ) (H:Τ) (s k:Nat) (sp:Spec):Prop:=
 ∀(a:κ) (H':Τ) (L:ο) (E:Τ),Ext S [] H a [] H'->Holds a [] [] H'->sp.XI L E->Apart H' E->(L.Nodup/\k∉L/\∃w,Fits H' w/\Fits E w)->Y6 prog Q mn (ZH x s (.ch k (.Yw L) .work) none 0) (c.finish (.tuple #[])) rest (join H' E)
def CU (Q:Value->Prop) (mn:Bool) (x:ZU) (s m k:Nat) (sp:Spec):Prop:=∀(c:Frame) (rest:YU) (S:κ) (B:Z5) (σ:Ξ) (H:Τ) (v:Option (Nat×Z')),Holds S B σ H->PI Q mn x c rest S H s k sp->
 Y6 prog Q mn (ZH x s (.ch k (.act false) .work) v 1) (Frame.enter prog 213 #[ptr m 0] .normal) (c::rest) H
theorem vv (b:Vh x s m sp) (u:Holds S B σ H) (A:CU Q mn x s m k sp)
  (r:PI Q mn x c rest S H s k sp):Y6 prog Q mn (ZH x s (.ch k .idle .work) v 0) (Frame.enter prog 175 #[ptr m 0] .normal) (c::rest) H:=by
 letI:ZP:=XV;have a:=b.seq;refine V.Rr (z:=one _) (vs:=[ptr m 0]) func175 U u (by simp[ntmps175]) ?_ _ U;refine V.Zh (a _ _ _) ?_;refine YQ ?_;refine W.Za (.stop ?_);refine V.disable (a _ _ _).here ⟨⟨U,U,by simp[Frame.enter],U⟩,Lj,⟨_,U⟩,U,U,U⟩ ?_;rw[Lm];refine V.Zh (a _ _ _) ?_;refine W.ZB ?_;refine YQ ?_;refine W.Za ?_;refine Xn [0,1,2] [3] ?_;refine W.stop ?_;refine V.IM (a _ _ _).here (UA _) (sp:=sp) b.spec (by rw[Zg];exact id) b.ZK ⟨⟨U,U,by simp[Frame.enter],U⟩,IF,⟨_,U⟩,U,U,U⟩ (λφ d t hv=>?_) (λφ d t hv=>?_)
 .refine .inr ⟨.ch k (.act false) .work,by rw[Zg];exact .Ar,λC _=>?_⟩;rw[Wv];refine V.Zh (a _ _ _) ?_;refine W.ZB ?_;refine YQ ?_;refine Η U ?_;refine YQ ?_;refine W.Za ?_;refine Xn [0] [1] ?_;refine W.stop ?_;refine V.call (a _ _ _) ⟨U,U,by simp[Frame.enter],U⟩ U U U ⟨_,func213,U,U⟩ λh f i t1 N j e hv=>?_;obtain rfl:=To (l:=[ptr m 0]) hv;rintro y rfl;refine A _ _ h f _ i _ e.holds λD F L E I J n o p=>?_;rw[VJ U];refine Y6.leave0 (a _ _ _) U U U U func175 U ?_;obtain rfl:f=[]:=YA.1 e.holds.len;exact r D F L E (j.ext.trans I) J n o p
 .have g:d.YW=0/\d.sv=0/\d.wk=0/\d.nw=0:=by simp only[mwd] at hv;omega
  refine⟨{d with YW:=1},.ch k .own .work,by simp[mwd];omega,U,⟨U,U,U⟩,by rw[Zg];exact .As g.1 g.2.1 g.2.2.1 g.2.2.2,λC _=>?_⟩;rw[Wv];refine V.Zh (a _ _ _) ?_;refine W.ZB ?_;refine YQ ?_;refine Ζ U ?_;refine YQ ?_;refine Ζ U ?_;refine YQ ?_;refine W.Za (.stop ?_);refine V.enable (a _ _ _).here (UA _) ⟨⟨U,U,by simp[Frame.enter],U⟩,OZ,⟨_,U⟩,U,U,U⟩ ?_;rw[Ll];refine V.Zh (a _ _ _) ?_;refine W.ZB ?_;refine YQ ?_;refine W.Za ?_;refine Xn [0] [1,2] ?_;refine W.stop ?_;refine V.conv (a _ _ _).here (sp:=sp) b.spec (by rw[Zg];exact id) ⟨U,U,by simp[Frame.enter],U⟩ U U U Gz OY Gy U (λd w K M=>⟨_,M.Rt (by rw[K];exact b.ZK)⟩) (λφ d t=>?_);unfold VT;rw[UG];refine V.Ke b.rel U (sp:=sp) b.spec b.ZK Zg ⟨⟨U,U,by simp[Frame.enter],U⟩,IG,⟨_,U⟩,U,U,U⟩ λh f i t1 L E j e n o p=>?_;rw[Wv];obtain rfl:f=[]:=YA.1 e.holds.len;refine Y6.vw (a _ _ _) U U U U func175 U ?_;exact r h i L E j.ext e.holds n o p
end
def Yf:ο->Code->Code
 | [],c=>c
 | 0::l,.seq a _=>Yf l a
 | _::l,.seq _ b=>Yf l b
 | 0::l,.cond _ a _=>Yf l a
 | _::l,.cond _ _ b=>Yf l b
 | _::l,.block _ c=>Yf l c
 | _::l,.loop c=>Yf l c
 | _,c=>c
noncomputable def Rm:Code:=f213.body.getD .skip
noncomputable def Tm:Code:=Yf [1,1,1,1,1,0,0,0] Rm
noncomputable def Rl:Code:=Yf [0,1] Tm
noncomputable def QE:Code:=Yf [1,1,1,1,1] Rl
noncomputable def Tl:Code:=Yf [1,0] QE
noncomputable def Li:Code:=Yf [1,1,1,1,1,1] Rm
noncomputable def Ug:Zz:=[.inLoop Tm,.inBlock 0,.code Li]
abbrev UX (a:Value->Prop) (mn:Bool) (x:ZU) (c:Frame) (rest:YU) (S:κ) (H:Τ) (s m:Nat) (t:Tok) (v:Option (Nat×Z')) (d:Nat) (K:Zz) (env:Β):Prop:=
 V prog a mn (one (ZH x s t v d)) (Frame.enter prog 213 #[ptr m 0] .normal) (c::rest) 139 ⟨S,[],H,[],0⟩ K env []
def YL (m:Nat) (w:Int) (a st:Bool) (b τ:Int):Β:=[(0,.z (ptr m 0)),(2,.z (.int .i64 τ)),(3,.z (.bool st)),(4,.z (.bool a)),(5,.z (.int .i64 b)),(6,.z (.int .i32 w))]
def RU (a b c n:Nat) (d st:Bool):Int:=
 if a=0/\c=0 then Wu 1 (if d then 0 else b) 0 n else Wu a (if d then 0 else b) (if st=true/\a=1 then 1 else c) (n+1)
section
variable {Q:Value->Prop} {mn:Bool} {x:ZU} {c:Frame} {rest:YU} {S:κ} {B:Z5} {σ:Ξ} {H:Τ} {s m k:Nat} {sp:Spec} {v:Option (Nat×Z')} {t:Tok}
theorem vu (C:Vh x s m sp) {a b e n:Nat} {j st:Bool} {y τ:Int} (p:a<2) (r:b<2) (u:e<2) (D:n<7) (E:j=true->e=0/\b=1) (L:st=true->j=true)
  (f:UX Q mn x c rest S H s m t v 1 (.code (Yf [0] QE)::.code (Yf [1] QE)::.inBlock 1::Ug) (YL m (Wu a b e n) j st y τ++[(7,.z (.int .i32 (RU a b e n j st)))])) :
  UX Q mn x c rest S H s m t v 1 (.code Rl::.inBlock 1::Ug) (YL m (Wu a b e n) j st y τ):=by
 letI:ZP:=XV;have F:=C.seq;have A:(a=0\/a=1)/\(e=0\/e=1):=J;have g:=GC a p b r e u n J;have h:=GD a p b r e u n J;have B:=vK a p b r e u n J;have k:=vJ a p b r e u n J;have w:=vG a p b r e u n D;refine V.Zh (F _ _ _) ?_;unfold Rl Tm Rm;cases j with
 | false=>
  have I:st=false:=by cases st<;>simp_all
  subst I;rcases A with⟨rfl|rfl,rfl|rfl⟩
  ·(repeat (first|apply WU|apply wb|apply Wl|apply wd|refine Ζ rfl ?_|refine Η rfl ?_|(refine YZ λi d=>?_;simp;(repeat (rw[Θ];simp[YL,g,h,k]));apply d)));exact W.forget _ (by simp[YL,RU]) (.stop f)
  ·(repeat (first|apply WU|apply wb|apply Wl|apply wd|refine Ζ rfl ?_|refine Η rfl ?_|(refine YZ λi d=>?_;simp;(repeat (rw[Θ];simp[YL,g,h,w]));apply d)));exact W.forget _ (by simp[YL,RU]) (.stop f)
  ·(repeat (first|apply WU|apply wb|apply Wl|apply wd|refine Ζ rfl ?_|refine Η rfl ?_|(refine YZ λi d=>?_;simp;(repeat (rw[Θ];simp[YL,g,h,k,w]));apply d)));exact W.forget _ (by simp[YL,RU]) (.stop f)
  ·(repeat (first|apply WU|apply wb|apply Wl|apply wd|refine Ζ rfl ?_|refine Η rfl ?_|(refine YZ λi d=>?_;simp;(repeat (rw[Θ];simp[YL,g,h,w]));apply d)));exact W.forget _ (by simp[YL,RU]) (.stop f)
 | true=>
  obtain⟨rfl,rfl⟩:=E U;rcases A with⟨rfl|rfl,-⟩
  .have l:=IH 1 J 1 J 0 J n J
   have o:=GB 1 J 1 J 0 J n J;cases st
   ·(repeat (first|apply WU|apply wb|apply Wl|apply wd|refine Ζ rfl ?_|refine Η rfl ?_|(refine YZ λi d=>?_;simp;(repeat (rw[Θ];simp[YL,g,h,k,l,o]));apply d)));exact W.forget _ (by simp[YL,RU]) (.stop f)
   ·(repeat (first|apply WU|apply wb|apply Wl|apply wd|refine Ζ rfl ?_|refine Η rfl ?_|(refine YZ λi d=>?_;simp;(repeat (rw[Θ];simp[YL,g,h,B,k,l,o]));apply d)));exact W.forget _ (by simp[YL,RU]) (.stop f)
  .cases st
   .have l:=IH 1 J 1 J 0 J (n+1) J
    have o:=GB 1 J 1 J 0 J (n+1) J;(repeat (first|apply WU|apply wb|apply Wl|apply wd|refine Ζ rfl ?_|refine Η rfl ?_|(refine YZ λi d=>?_;simp;(repeat (rw[Θ];simp[YL,g,h,k,w,l,o]));apply d)));exact W.forget _ (by simp[YL,RU]) (.stop f)
   .have K:=vH 1 J 1 J 0 J (n+1) J
    have l:=IH 1 J 1 J 1 J (n+1) J
    have o:=GB 1 J 1 J 1 J (n+1) J;(repeat (first|apply WU|apply wb|apply Wl|apply wd|refine Ζ rfl ?_|refine Η rfl ?_|(refine YZ λi d=>?_;simp;(repeat (rw[Θ];simp[YL,g,h,B,k,w,K,l,o]));apply d)));exact W.forget _ (by simp[YL,RU]) (.stop f)
theorem CS (a:Vh x s m sp) (e:PI Q mn x c rest S H s k sp) {env:Β} (f:Z3 env 0=.z (ptr m 0)):UX Q mn x c rest S H s m (.ch k .own .work) v 1 [.code Li] env:=by
 letI:ZP:=XV;have b:=a.seq;refine V.Zh (b _ _ _) ?_;unfold Li Rm;refine Ζ U ?_;refine YQ ?_;refine W.Za (.stop ?_);refine V.enable (b _ _ _).here (UA _) ⟨⟨U,U,by simp[Frame.enter],U⟩,OZ,⟨_,U⟩,U,U,U⟩ ?_;rw[Ll];refine V.Zh (b _ _ _) ?_;refine W.ZB ?_;refine YQ ?_;refine W.Za ?_;refine W.part (A:=[]) Ο [0] [1,2] U λy g=>?_;simp;(repeat (rw[Θ];simp[f]));apply g;refine W.stop ?_;refine V.conv (b _ _ _).here (sp:=sp) a.spec (by rw[Zg];exact id) ⟨U,U,by simp[Frame.enter],U⟩ U U U Gz OY Gy U (λh w i j=>⟨_,j.Rt (by rw[i];exact a.ZK)⟩) (λφ h B=>?_);unfold VT;rw[UG];refine V.Ke a.rel U (sp:=sp) a.spec a.ZK Zg ⟨⟨U,U,by simp[Frame.enter],U⟩,IG,⟨_,U⟩,U,U,U⟩ λl n o t1 L E p d r t u=>?_;rw[Wv];obtain rfl:n=[]:=YA.1 d.holds.len;refine Y6.leave0 (b _ _ _) U U U U func213 U ?_;exact e l o L E p.ext d.holds r t u
end
section
variable {Q:Value->Prop} {mn:Bool} {x:ZU} {c:Frame} {rest:YU} {S:κ} {B:Z5} {σ:Ξ} {H:Τ} {s m k:Nat} {sp:Spec} {v:Option (Nat×Z')} {t:Tok}
theorem IE:(prog.funcs[213]?).any (·.norace)=true:=by kernel_rfl
theorem CR:(prog.funcs[245]?).any (·.norace)=true:=by kernel_rfl
def Lh (Q:Value->Prop) (mn:Bool) (x:ZU) (c:Frame) (rest:YU) (S:κ) (H:Τ) (s m k:Nat) (sp:Spec) (φ:Nat):Prop:=
 ∀(e:Nat) (a:Z') (b st:Bool) (d τ:Int),e<φ->a.toSpec=sp->PK a (.ch k (.act b) .work)->(st=true->b=true)->0<=d->d<=4->UX Q mn x c rest S H s m (.ch k (.act b) .work) (some (e,a)) 1 Ug (YL m (mwd a) b st d τ)
theorem CQ {a:Z'} {b:Bool} (h:PK a (.ch k (.act b) .work)):b=true->a.sv=0/\a.wk=1:=λe=>h.vP (by rw[e];rfl)
theorem vr (e:Vh x s m sp) (M:PI Q mn x c rest S H s k sp) {φ:Nat} (N:Lh Q mn x c rest S H s m k sp φ) {u:Nat} {C:Z'} (o:u<φ) {st:Bool} {τ:Int} :
  UX Q mn x c rest S H s m (.ch k .wk .work) (some (u,C)) 1 (.code (Yf [1,1,1,1,1] Tl)::.inBlock 1::Ug) [(0,.z (ptr m 0)),(2,.z (.int .i64 τ)),(3,.z (.bool st))]:=by
 letI:ZP:=XV;have g:=e.seq;refine V.Zh (g _ _ _) ?_;unfold Tl QE Rl Tm Rm;refine YQ ?_;refine W.Za ?_;refine Xn [0,1,2] [3,4] ?_;refine W.stop ?_;refine V.MT (g _ _ _).here (sp:=sp) e.spec (by rw[Zg];exact id) ⟨U,U,by simp[Frame.enter],U⟩ U U U MS U IE mwd (λa w O P=>P.Rt (by rw[O];exact e.ZK)) (λaa a p=>.inr ?_);have b:=p.Vi.S1;rw[Zg] at b;have hv:=p.view u C RX;have D:=b.vO U;have ab:a.top<7:=by have:=e.top;rw[show a.top=sp.top by rw[<-p.spec]];exact this
 have ad:=b.nw
 have ae:=b.YW;have af:=b.wk;have ag:=b.sv
 have i:=GC a.YW J a.wk J a.sv J a.nw J
 have l:=vM a.YW J a.wk J a.sv J a.nw J
 have r:=GA a.YW J a.wk J a.sv J a.nw J;rw[<-RV] at i l r;rcases(show a.sv=0\/a.sv=1 by omega) with f|f
 .refine⟨.ch k (.act true) .work,by rw[Zg];exact .norm f,λv R=>?_⟩;rw[Wv];rw[f] at i;refine V.Zh (g _ _ _) ?_;refine W.part (A:=[]) Ο [4] [] U λE n=>?_;(try simp);(repeat (rw[Θ];simp));(try simp);apply n;refine W.ZB ?_;refine V9 i ?_;refine W.forget (YL m (mwd a) true st 0 τ) (by simp[YL]) (.stop ?_);exact N v a true st 0 τ J p.spec ⟨b.YW,b.wk,b.sv,b.Yp,b.nw,λ_=>⟨f,D.1 f⟩,λh=>(by cases h),λh=>(by cases h),λh=>(by cases h)⟩ (λ_=>rfl) J J
 .obtain⟨T,X,ah⟩:=D.2 f;refine⟨.ch k .hw .work,by rw[Zg];exact .hand f,λv R=>?_⟩;rw[Wv];rw[f] at i;rw[T,X] at l;have y:¬a.nw=0:=J;have F:IntKind.i32.wrap (-11)=-11:=ZT;have Y:∀(w:Option (Nat×Z')) (env:Β),Z3 env 0=.z (ptr m 0)->UX Q mn x c rest S H s m (.ch k .own .work) w 1 [.code Li] env:=λw env h=>CS e M h;have add:∀(j:Bool) (env:Β),Z3 env 0=.z (ptr m 0)->Z3 env 9=.z (.int .i32 (if j then -11 else -7))->UX Q mn x c rest S H s m (.ch k .hw .work) (some (v,a)) 1 (.code (Yf [1,1,1,1,1,1,0,1,0,1,1,1,0] Tl)::.code (Yf [1,1,1,1,1,1,0,1,0,1,1,1,1] Tl)::.code (Yf [1,1,1,1,1,1,1] Tl)::.inBlock 1::Ug) env:=λj env o I=>by
   refine V.Zh (g _ _ _) ?_;unfold Tl QE Rl Tm Rm;refine YQ ?_;refine W.Za ?_;refine W.part (A:=[]) Ο [0,1,2,3] [4] U λE n=>?_;(try simp);(repeat (rw[Θ];simp[o,I]));(try simp[o,I]);apply n;refine W.stop ?_;refine V.Da (g _ _ _).here (UA _) (sp:=sp) e.spec (by rw[Zg];exact id) e.ZK (d:=if j then -11 else -7) ⟨⟨U,U,by simp[Frame.enter],U⟩,C1,⟨_,U⟩,U,U,U⟩ (λai t K=>?_);have B:=K.Vi.S1;rw[Zg] at B;obtain⟨f1,f2,f3,f4⟩:=B.hw U;have aj:t.top<7:=by have:=e.top;rw[show t.top=sp.top by rw[<-K.spec]];exact this
   have ak:=B.nw;refine⟨{t with YW:=1,nw:=t.nw-1,sv:=if j then 0 else 1},.ch k .own .work,?_,U,⟨U,U,U⟩,by rw[Zg];exact .hacq j,λal _=>?_⟩
   .cases j<;>simp[mwd,IntKind.wrap_i32,f1,f2,f3]<;>omega
   .rw[Wv];refine V.Zh (g _ _ _) ?_;refine W.ZB ?_;refine YQ ?_;refine W.exit U (.stop ?_);refine Y _ _ ?_;simp[o]
  refine V.Zh (g _ _ _) ?_;refine W.part (A:=[]) Ο [4] [] U λE n=>?_;(try simp);(repeat (rw[Θ];simp));(try simp);apply n;refine W.ZB ?_;cases st with
  | false=>
   refine V9 (Υ i (Υ l (Υ r (Υ y F)))) ?_;exact .stop (add true _ U U)
  | true=>
   by_cases L:a.nw=1
   .refine V9 (Υ i (Υ l (Υ r (Υ y (Υ L F))))) ?_;exact .stop (add true _ U U)
   .have Z:¬(a.nw:Int)=1:=J
    refine V9 (Υ i (Υ l (Υ r (Υ y (Υ L Z))))) ?_;exact .stop (add false _ U U)
theorem vq (a:Vh x s m sp) (p:PI Q mn x c rest S H s k sp) {φ:Nat} (r:Lh Q mn x c rest S H s m k sp φ) {e:Nat} {i:Z'} (B:e<φ) {st y:Bool} {τ:Int} :
  UX Q mn x c rest S H s m (.ch k .q .work) (some (e,i)) 1 (.code (Yf [1,1,1,0] Tl)::.code (Yf [1,1,1,1] Tl)::.inBlock 1::Ug) [(0,.z (ptr m 0)),(2,.z (.int .i64 τ)),(3,.z (.bool st)),(8,.z (.bool y))]:=by
 letI:ZP:=XV;have b:=a.seq;have next:∀(d:Nat) (j:Z') (st:Bool),d<φ->UX Q mn x c rest S H s m (.ch k .wk .work) (some (d,j)) 1 (.code (Yf [1,1,1,1,1] Tl)::.inBlock 1::Ug) [(0,.z (ptr m 0)),(2,.z (.int .i64 τ)),(3,.z (.bool st))]:=λd j st t=>vr a p r t
 refine V.Zh (b _ _ _) ?_;unfold Tl QE Rl Tm Rm;refine YQ ?_;refine W.Za ?_;refine Xn [0,1,2,3] [4] ?_;refine W.stop ?_;refine V.wc (b _ _ _).here (sp:=sp) a.spec (by rw[Zg];exact id) a.ZK (vs:=[ptr m 1,.bool y,.int .i64 2]) U (λu l=>by rw[Lk l];exact a.still u l) ⟨⟨U,U,by simp[Frame.enter],U⟩,vz,⟨_,U⟩,U,U,U⟩ (λd f n h=>by rw[Zg];exact h) (λd f n h=>?_);have hv:=n.view e i RX;refine⟨{f with Yp:=f.Yp-1},.ch k .wk .work,U,U,⟨U,U,U⟩,by rw[Zg];exact .take h,λo C=>?_⟩;rw[Wv];refine V.Zh (b _ _ _) ?_;refine W.ZB ?_;cases st with
 | true=>
  first|apply WU|apply wb|apply Wl|apply wd
  refine YZ λv g=>?_;(try simp);(repeat (rw[Θ];simp));(try simp);apply g;refine W.forget [(0,.z (ptr m 0)),(2,.z (.int .i64 τ)),(3,.z (.bool true))] Ω (.stop ?_);exact next o _ true J
 | false=>
  first|apply WU|apply wb|apply Wl|apply wd
  refine W.Za ?_;refine Xn [0,1] [2,3,4,5,6,7] ?_;refine W.stop ?_;refine V.nano (b _ _ _) (vs:=[]) ⟨⟨U,U,by simp[Frame.enter],U⟩,CY,⟨_,U⟩,U,U,U⟩ CR λw=>?_;refine V.Zh (b _ _ _) ?_;refine W.part (A:=[]) Ο [3,4,5,6,7] [] U λv g=>?_;(try simp);(repeat (rw[Θ];simp));(try simp);apply g;refine W.ZB ?_;refine W.forget [(0,.z (ptr m 0)),(2,.z (.int .i64 τ)),(3,.z (.bool (decide (1000000<IntKind.i64.wrap (w-τ)))))] Ω (.stop ?_);exact next o _ _ J
theorem vp (e:Vh x s m sp) (l:PI Q mn x c rest S H s k sp) {φ:Nat} (n:Lh Q mn x c rest S H s m k sp φ) {b:Nat} {f:Z'} (o:b<φ) {w:Int} {p st:Bool} {r τ:Int} (g:¬XT .i32 w 5=0) :
  UX Q mn x c rest S H s m (.ch k .q .work) (some (b,f)) 1 (.code Tl::.inBlock 1::Ug) (YL m w p st r τ):=by
 letI:ZP:=XV;have d:=e.seq;have next:∀(τ:Int) (y:Bool),UX Q mn x c rest S H s m (.ch k .q .work) (some (b,f)) 1 (.code (Yf [1,1,1,0] Tl)::.code (Yf [1,1,1,1] Tl)::.inBlock 1::Ug) [(0,.z (ptr m 0)),(2,.z (.int .i64 τ)),(3,.z (.bool st)),(8,.z (.bool y))]:=λτ y=>vq e l n o
 refine V.Zh (d _ _ _) ?_;unfold Tl QE Rl Tm Rm;by_cases h:τ=0
 .subst h;(repeat (first|apply WU|apply wb|apply Wl|apply wd|refine Ζ rfl ?_|refine Η rfl ?_|(refine YZ λi a=>?_;simp;(repeat (rw[Θ];simp[YL,g]));apply a)));refine W.Za (.stop ?_);refine V.nano (d _ _ _) (vs:=[]) ⟨⟨U,U,by simp[Frame.enter],U⟩,CY,⟨_,U⟩,U,U,U⟩ CR λj=>?_;refine V.Zh (d _ _ _) ?_;refine W.part (A:=[]) Ο [1] [] U λi a=>?_;(try simp);(repeat (rw[Θ];simp));(try simp);apply a;refine W.ZB ?_
  first|apply WU|apply wb|apply Wl|apply wd
  refine W.forget [(0,.z (ptr m 0)),(2,.z (.int .i64 j)),(3,.z (.bool st)),(8,.z (.bool false))] Ω (.stop ?_);exact next j false
 ·(repeat (first|apply WU|apply wb|apply Wl|apply wd|refine Ζ rfl ?_|refine Η rfl ?_|(refine YZ λi a=>?_;simp;(repeat (rw[Θ];simp[YL,g,h]));apply a)));refine W.forget [(0,.z (ptr m 0)),(2,.z (.int .i64 τ)),(3,.z (.bool st)),(8,.z (.bool true))] (by simp[h]) (.stop ?_);exact next τ true
end
end Go.TL
