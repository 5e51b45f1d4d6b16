import Derived.Conc.AtomicLaws2
import Derived.Conc.ClockLaws
import Derived.Conc.MarkLaws
import Derived.Test.YtlabjopijpkiaaaGreatJAM
set_option maxHeartbeats 16000000
set_option maxRecDepth 20000
set_option linter.unusedSectionVars false
set_option linter.unusedSimpArgs false
set_option linter.unusedVariables false
namespace Go.TL
open Go.Proofs
variable [ZX]
theorem Μ.wB {P:Program} {σ:Ο} {g:FuncId} {as0 first:κ} {c row':Row} {r:Ω} {K E:Ω->Ο->Prop} (h:Μ P g as0 [c] (λa s=>a=r/\s=[row']) (λ_ _=>False)) (id:Nat) (f:σ[id]?=some c) (k:V9 c) (l:V9 row') (m:∀a∈as0,XC 1 a) (b:XC 1 r)
  {args:κ} (n:first++args=as0.map (Yx [id])) (o:K (Yx [id] r) (σ.set id row')):WA P (.fn (.func g) first []) args σ K E:=by
 have p:=Μ.rows (σ:=σ) h [id] I rfl (λj i d=>by
  cases j with
  | zero=>simp at d;subst d;exact f
  | succ j=>simp at d) (λr b=>by simp at b;subst b;exact k) (by simpa using m) (K':=K) (E':=E) (λa s ⟨t,u⟩=>by
   subst t;subst u;refine⟨λx e=>by simp at e;subst e;exact l,b,?_⟩;simpa[names,PS,VC] using o) (λa s h=>h.elim)
 exact Μ.call (first:=first) (captured:=[]) (by rw[Vw,n];exact p)
def Pe (s:ψ) (f:Found) (c n:Nat) (m:List (Int×Int)) (j:Nat):List (Int×Int):=(((f.cells[c]?).getD []).take j).foldl (λm r=>Pf m (s.XA (f.u,f.v) r n) (f.many c)) m
def N3 (s:ψ) (F:List Found) (c n i:Nat):List (Int×Int):=(F.take i).foldl (λm f=>Pe s f c n m ((f.cells[c]?).getD []).length) []
def Pd (a:Int) (l:List (Int×Int)):Int:=l.foldl (λa e=>max a e.2) a
def IP (s:ψ) (F:List Found) (c n:Nat):Int:=Pd 0 (N3 s F c n F.length)
def N2 (s:ψ) (F:List Found) (c:Nat) (b:T7) (n:Nat):T7:=(List.range n).foldl (λb (n:Nat)=>b.take c n (IP s F c n)) b
def Rv (s:ψ) (F:List Found) (c:Nat):T7:=(List.range c).foldl (λb (c:Nat)=>N2 s F c b s.Δ.length) ⟨0,0,0,false⟩
theorem wA (s:ψ) (F:List Found) (c:Nat) (b:T7) (n:Nat):N2 s F c b (n+1)=(N2 s F c b n).take c n (IP s F c n):=by simp[N2,V0,Px]
theorem wz (s:ψ) (F:List Found) (c:Nat):Rv s F (c+1)=N2 s F c (Rv s F c) s.Δ.length:=by simp[Rv,V0,Px]
theorem wy (s:ψ) (f:Found) (c n:Nat) (m:List (Int×Int)) (j:Nat) (h:j<((f.cells[c]?).getD []).length):Pe s f c n m (j+1)=Pf (Pe s f c n m j) (s.XA (f.u,f.v) ((f.cells[c]?).getD [])[j] n) (f.many c):=by
 unfold Pe;rw[We h,Px];rfl
theorem wx (s:ψ) (F:List Found) (c n i:Nat) (h:i<F.length):N3 s F c n (i+1)=Pe s F[i] c n (N3 s F c n i) ((F[i].cells[c]?).getD []).length:=by
 unfold N3;rw[We h,Px];rfl
theorem wv {a:Int} {l m:List (Int×Int)} (h:l.Perm m):Pd a l=Pd a m:=h.foldl_eq' (λx _ y _ z=>U) a
def SC (s:ψ) (F:List Found):Int×Int×Int×Int:=
 if(Yr s true F).2.2≠0 then(0,0,0,(Yr s true F).2.2)
 else let b:=Rv s F s.cells.length;if b.some=false\/b.least=W1 F then(0,0,0,11) else(b.c,b.n,b.least,0)
structure Lr (s:ψ) (F:List Found):Prop where
 Ut:F.length<2 ^ 20
 cells:∀f∈F,f.cells.length=s.cells.length/\(∀c∈f.cells,c.length<2 ^ 20/\∀r∈c,r.1<s.Ι.length/\r.2<s.Ι.length)
 many:∀f∈F,f.cells.length<2 ^ 62/\∀(a:Int) i,i<=f.cells.length->Xh f.cells a i<2 ^ 62
 count:W1 F<2 ^ 62
theorem GF (s:ψ) (K:s.small) (F:List Found) (aF:S9 s F) (w:Lr s F) :
  Ε Tryz.prog 26 [Yz s] (.ZW [J (SC s F).1,J (SC s F).2.1,J (SC s F).2.2.1,J (SC s F).2.2.2]):=by
 refine Μ.body Ρ Tryz.func26 rfl rfl Tryz.ntmps26 rfl rfl I ?_;refine Τ ?_;refine Y1 ?_;refine Y4 (A:=[6]) Ρ λo a=>Z6 ?_;refine Ε.d (M5 s K true F aF) (Z6 ?_);apply a;by_cases b:(Yr s true F).2.2=0
 case neg=>
  have e:SC s F=(0,0,0,(Yr s true F).2.2):=by unfold SC;rw[if_pos b]
  rw[e];generalize (Yr s true F).2.2=aG at b;refine Τ ?_;refine Α (by simp[b]) ?_;refine Τ ?_;refine W.drop (h:=0) (σ':=[]) (χ _) (χ _) I rfl [(2,J 0),(3,J 0),(4,J 0),(5,J aG)] I ?_;refine W.rt ?_;exact .refl _
 have e:Yr s true F=(s,F,0):=by
  unfold Yr at b ⊢;split at b
  .rename_i h;simp at b;exact absurd b h
  .split at b
   .simp at b
   .rename_i T aH;rw[if_neg T,if_neg aH]
 have Φ:SC s F=let b:=Rv s F s.cells.length;if b.some=false\/b.least=W1 F then(0,0,0,11) else(b.c,b.n,b.least,0):=by unfold SC;rw[if_neg (by simpa using b)]
 rw[Φ,e];clear Φ;refine W.fix (id:=0) (σ':=[]) (χ _) rfl I I rfl [(5,J 0),(6,.Θ [ν s.Ι,ξ s.Δ,Z2 s.cells]),(7,Zb F)] I ?_;refine Τ ?_;refine Ζ rfl ?_
 repeat apply Ξ
 refine Y4 (A:=[8]) Ρ λo a=>Z6 ?_;apply a;refine Τ ?_;have aW:s.cells.length<2 ^ 30:=K.2.2.1;have aX:s.Δ.length<2 ^ 30:=K.2.1;have al:∀{b:T7} (g:List (Int×Int)),∀r∈[Row.cells 104 4 [T6 b],.map (g.map VR)],X6 [Row.cells 104 4 [T6 b],.map (g.map VR)].length r:=λ{b} g r D=>by
  simp only[Y6,Ya,or_false] at D;rcases D with rfl|rfl
  .simp[X6,Ω.cells]
  .intro e aI;obtain⟨x,_,rfl⟩:=Zq.1 aI;simp
 refine W.iter (λc:Nat=>c<=s.cells.length) (λc=>[(6,.Θ [ν s.Ι,ξ s.Δ,Z2 s.cells]),(7,Zb F),(8,.Κ 0 1 0 0),(9,.fn (.func 76) [.Κ 0 1 0 0] []),(33,J s.cells.length),(34,J c)])
  (λc=>[.cells 104 4 [T6 (Rv s F c)]]) (λc=>s.cells.length-c) 0 (χ _) rfl I (λc aY aJ=>?_)
 refine Τ ?_;refine W.Yv rfl (λL=>?_) (λL=>?_)
 .have V:c<s.cells.length:=by simpa using L
  refine Τ ?_;obtain⟨am,an⟩:=Η (Rv s F c);refine W.iter (λn:Nat=>n<=s.Δ.length) (λn=>[(6,.Θ [ν s.Ι,ξ s.Δ,Z2 s.cells]),(7,Zb F),(8,.Κ 0 1 0 0),(9,.fn (.func 76) [.Κ 0 1 0 0] []),(10,J c),(33,J s.cells.length),(34,J c),(40,J s.Δ.length),(41,J n)])
   (λn=>[.cells 104 4 [T6 (N2 s F c am n)]]) (λn=>s.Δ.length-n) 0 (χ _) (by rw[an];rfl) I (λn aZ aK=>?_)
  refine Τ ?_;refine W.Yv rfl (λX=>?_) (λX=>?_)
  .have O:n<s.Δ.length:=by simpa using X
   obtain⟨k,ao⟩:=Η (N2 s F c am n);refine W.to (σ':=[.cells 104 4 [T6 k]]) (env':=[(6,.Θ [ν s.Ι,ξ s.Δ,Z2 s.cells]),(7,Zb F),(8,.Κ 0 1 0 0),(9,.fn (.func 76) [.Κ 0 1 0 0] []),(10,J c),(33,J s.cells.length),(34,J c),(40,J s.Δ.length),(41,J n)]) ?_ (by rw[ao]) I;refine Τ ?_;refine W.iter (λi:Nat=>i<=F.length) (λi=>[(6,.Θ [ν s.Ι,ξ s.Δ,Z2 s.cells]),(7,Zb F),(8,.Κ 0 1 0 0),(9,.fn (.func 76) [.Κ 0 1 0 0] []),(10,J c),(33,J s.cells.length),(34,J c),(40,J s.Δ.length),(41,J n),(11,J n),(12,.mp 1),(45,Zb F),(46,J F.length),(47,J i)])
    (λi=>[.cells 104 4 [T6 k],.map ((N3 s F c n i).map VR)]) (λi=>F.length-i) 0 (χ _) rfl I (λi hi aL=>?_)
   refine Τ ?_;by_cases E:i<F.length
   .refine Α (by simp[E]) ?_;obtain⟨g,M⟩:=Η (N3 s F c n i);have N:=wx s F c n i E;rw[<-M] at N;obtain⟨ap,aq⟩:=w.cells _ (YF E);obtain⟨Y,Z⟩:=w.many _ (YF E);generalize P:F[i]=f at N ap aq Y Z;have aa:c<f.cells.length:=by rw[ap];exact V
    refine W.to (σ':=[.cells 104 4 [T6 k],.map (g.map VR)]) (env':=[(6,.Θ [ν s.Ι,ξ s.Δ,Z2 s.cells]),(7,Zb F),(8,.Κ 0 1 0 0),(9,.fn (.func 76) [.Κ 0 1 0 0] []),(10,J c),(33,J s.cells.length),(34,J c),(40,J s.Δ.length),(41,J n),(11,J n),(12,.mp 1),(45,Zb F),(46,J F.length),(47,J i)]) ?_ (by rw[M]) I
    repeat apply Ξ
    refine Y4 (A:=[14]) Ρ λo a=>XJ (Υ E P) ?_;apply a;refine W.U9 (σ0:=[.cells 104 4 [T6 k],.map (g.map VR)]) (χ _) (al _) I [(14,.Θ [J f.u,J f.v,T8 f.cells]),(6,.Θ [ν s.Ι,ξ s.Δ,Z2 s.cells]),(7,Zb F),(8,.Κ 0 1 0 0),(9,.fn (.func 76) [.Κ 0 1 0 0] []),(10,J c),(33,J s.cells.length),(34,J c),(40,J s.Δ.length),(41,J n),(11,J n),(12,.mp 1),(45,Zb F),(46,J F.length),(47,J i)] (by simp[WV,PY]) ?_;refine Γ aa ?_;have ar:(f.cells[c]?).getD []=f.cells[c]:=by simp[aa]
    rw[ar] at N;have au:=aq _ (YF aa);have ab:=wy s f c n g;rw[ar] at ab;generalize f.cells[c]=C at N au ab;obtain⟨a0,aM⟩:=au;refine W.iter (λj:Nat=>j<=C.length) (λj=>[(14,.Θ [J f.u,J f.v,T8 f.cells]),(6,.Θ [ν s.Ι,ξ s.Δ,Z2 s.cells]),(7,Zb F),(8,.Κ 0 1 0 0),(9,.fn (.func 76) [.Κ 0 1 0 0] []),(10,J c),(33,J s.cells.length),(34,J c),(40,J s.Δ.length),(41,J n),(11,J n),(12,.mp 1),(45,Zb F),(46,J F.length),(47,J i),(55,UZ C),(56,J C.length),(57,J j)])
     (λj=>[.cells 104 4 [T6 k],.map ((Pe s f c n g j).map VR)]) (λj=>C.length-j) 0 (χ _) (by simp[Pe]) I (λj a1 av=>?_)
    refine Τ ?_;by_cases H:j<C.length
    .refine Α (by simp[H]) ?_;obtain⟨ad,aw⟩:=Η (Pe s f c n g j);have Q:=ab j H;rw[<-aw] at Q;refine W.to (σ':=[.cells 104 4 [T6 k],.map (ad.map VR)]) (env':=[(14,.Θ [J f.u,J f.v,T8 f.cells]),(6,.Θ [ν s.Ι,ξ s.Δ,Z2 s.cells]),(7,Zb F),(8,.Κ 0 1 0 0),(9,.fn (.func 76) [.Κ 0 1 0 0] []),(10,J c),(33,J s.cells.length),(34,J c),(40,J s.Δ.length),(41,J n),(11,J n),(12,.mp 1),(45,Zb F),(46,J F.length),(47,J i),(55,UZ C),(56,J C.length),(57,J j)]) ?_ (by rw[aw]) I;obtain⟨ae,af⟩:=aM _ (YF H);generalize D:C[j]=r at Q ae af
     repeat apply Ξ
     refine Y4 (A:=[16]) Ρ λo a=>XJ (Υ H D) ?_;apply a;refine W.U9 (σ0:=[.cells 104 4 [T6 k],.map (ad.map VR)]) (χ _) (al _) I [(16,.Θ [J r.1,J r.2]),(14,.Θ [J f.u,J f.v,T8 f.cells]),(6,.Θ [ν s.Ι,ξ s.Δ,Z2 s.cells]),(7,Zb F),(8,.Κ 0 1 0 0),(9,.fn (.func 76) [.Κ 0 1 0 0] []),(10,J c),(33,J s.cells.length),(34,J c),(40,J s.Δ.length),(41,J n),(11,J n),(12,.mp 1),(45,Zb F),(46,J F.length),(47,J i),(55,UZ C),(56,J C.length),(57,J j)] (by simp[WV,PY]) ?_
     repeat apply Ξ
     have S:=X5 H (show C.length<2 ^ 62 by omega);rcases wC (s.XA (f.u,f.v) r n) (f.many c) ad 0 with⟨l,ag⟩|⟨m,v,a2,l,ag⟩
     .refine W.draw (A:=[]) Ρ mixed λo a=>?_;simp;(repeat (rw[ZK];simp[l,VF]));try rw[ZL]
      refine Yl (Ε.p (LA s K (f.u,f.v) r n O ae af) (ZM.refl _) I I) ?_;simp[l,VF];(repeat (rw[ZK];simp[l,VF]));try rw[ZL]
      refine Yl (Ε.p (I3 f c Y (Z c)) (ZM.refl _) I I) ?_;simp[l,VF];(repeat (rw[ZK];simp[l,VF]));try rw[ZL]
      refine Y8 (a _ _ ?_);refine Γ S ?_;refine W.to (av (j+1) H U) ?_ ?_
      .rw[Q,ag];simp
      .simp[S]
     .refine W.draw (A:=[]) Ρ mixed λo a=>?_;simp;(repeat (rw[ZK];simp[l,VF]));try rw[ZL]
      refine Yl (Ε.p (LA s K (f.u,f.v) r n O ae af) (ZM.refl _) I I) ?_;simp[l,VF];(repeat (rw[ZK];simp[l,VF]));try rw[ZL]
      refine Yl (Ε.p (I3 f c Y (Z c)) (ZM.refl _) I I) ?_;simp[l,VF];(repeat (rw[ZK];simp[l,VF]));try rw[ZL]
      refine Y8 (a _ _ ?_);refine Γ S ?_;refine W.to (av (j+1) H U) ?_ ?_
      .rw[Q,ag];simp
      .simp[S]
    .have aN:j=C.length:=U
     subst aN;have ax:=X5 E (show F.length<2 ^ 62 by have:=w.Ut;omega);refine Ζ I ?_;refine W.exit rfl ?_;refine Γ ax ?_;refine W.to (aL (i+1) E U) ?_ ?_
     .rw[N]
     .simp[ax]
   .have aO:i=F.length:=U
    subst aO;refine Ζ I ?_;refine W.exit rfl ?_;obtain⟨g,M⟩:=Η (N3 s F c n F.length);have aP:IP s F c n=Pd 0 g:=by rw[M];rfl
    refine W.to (σ':=[.cells 104 4 [T6 k],.map (g.map VR)]) (env':=[(6,.Θ [ν s.Ι,ξ s.Δ,Z2 s.cells]),(7,Zb F),(8,.Κ 0 1 0 0),(9,.fn (.func 76) [.Κ 0 1 0 0] []),(10,J c),(33,J s.cells.length),(34,J c),(40,J s.Δ.length),(41,J n),(11,J n),(12,.mp 1)]) ?_ (by rw[M]) I;refine Τ ?_;refine W.iter (λx:Int×List (Int×Int)×Option (Ω×Ω)=>Pd x.1 x.2.1=Pd 0 g) (λx=>[(6,.Θ [ν s.Ι,ξ s.Δ,Z2 s.cells]),(7,Zb F),(8,.Κ 0 1 0 0),(9,.fn (.func 76) [.Κ 0 1 0 0] []),(10,J c),(33,J s.cells.length),(34,J c),(40,J s.Δ.length),(41,J n),(11,J n),(12,.mp 1),(17,J x.1),(76,.it 2)])
     (λx=>[.cells 104 4 [T6 k],.map (g.map VR),.iter 1 (x.2.1.map VR) x.2.2]) (λx=>x.2.1.length) (0,g,none) rfl rfl I (λx ah aQ=>?_)
    obtain⟨t,R,a3⟩:=x;simp only at ah
    repeat apply Ξ
    cases R with
    | nil=>
     refine Z' λo a=>?_;apply a
     repeat apply Ξ
     refine Ζ rfl ?_;refine W.exit rfl ?_;have ai:t=IP s F c n:=by rw[aP,<-ah];rfl
     have ay:=X5 O (show s.Δ.length<2 ^ 62 by omega);refine Z' λo a=>?_;refine Μ.wB (as0:=[.Κ 0 1 0 0,.ZT [J c,J n],J t]) (wD k c n t) 0 rfl (by simp[V9,Ω.cells]) (by simp[V9,Ω.cells]) (by simp[XC,Ua]) (by simp[XC]) rfl ?_;simp[Yx,WM];(repeat (rw[Ν];simp));apply a;refine W.drop (h:=1) (σ':=[.cells 104 4 [T6 (k.take c n t)]]) (χ _) I (λid r a4 D=>?_) rfl [(6,.Θ [ν s.Ι,ξ s.Δ,Z2 s.cells]),(7,Zb F),(8,.Κ 0 1 0 0),(9,.fn (.func 76) [.Κ 0 1 0 0] []),(10,J c),(33,J s.cells.length),(34,J c),(40,J s.Δ.length),(41,J n)] (by simp[WV]) ?_
     .obtain rfl:id=0:=U
      simp at D;subst D;simp[X6,Ω.cells]
     refine Γ ay ?_;refine W.to (aK (n+1) O U) ?_ ?_
     .rw[wA,<-ao,ai]
     .simp[ay]
    | cons y R=>
     refine Z' λo a=>?_;intro m aj;obtain⟨x,az⟩:=Η ((y::R)[m]'(by simpa using aj));have aR:(VR y::List.map VR R)[m]?=some (VR x):=by
      have:(List.map VR (y::R))[m]?=some (VR x):=by
       rw[YU,δ (by simpa using aj),az];rfl
      simpa using this
     have aS:(VR y::List.map VR R).eraseIdx m=((y::R).eraseIdx m).map VR:=Dd VR (y::R) m;rw[aR,aS];simp;(repeat (rw[Ν];simp));apply a
     repeat apply Ξ
     refine Α rfl ?_;refine Τ ?_;have aA:m<(y::R).length:=by simpa using aj
     have aT:Pd (max t x.2) ((y::R).eraseIdx m)=Pd 0 g:=by
      rw[<-ah,<-wv (De (y::R) m aA),<-az];rfl
     have ai:max t x.2=if t<x.2 then x.2 else t:=by split<;>omega
     refine W.to (aQ (max t x.2,(y::R).eraseIdx m,some (VR x)) aT (by simp only[List.length_eraseIdx,aA,if_true];omega)) ?_ ?_
     .simp
     .simp[ai]
  .have aU:n=s.Δ.length:=by simp at X;omega
   subst aU;have aB:=X5 V (show s.cells.length<2 ^ 62 by omega);refine W.exit rfl ?_;refine Γ aB ?_;refine W.to (aJ (c+1) V U) ?_ ?_
   .rw[wz,<-an]
   .simp[aB]
 .have L:c=s.cells.length:=by simp at L;omega
  subst L;refine W.exit rfl ?_;refine Τ ?_;obtain⟨⟨aC,aD,ak,aE⟩,aV⟩:∃B,B=Rv s F s.cells.length:=⟨_,rfl⟩;rw[<-aV];refine W.fix (id:=0) (σ':=[]) (χ _) rfl I I rfl [(7,Zb F),(8,.Θ [J aC,J aD,J ak,Z4 aE])] I ?_;have T:∀f∈F,f.cells.length<2 ^ 62/\∀i,i<=f.cells.length->Xh f.cells (-1) i<2 ^ 62:=λf P=>⟨(w.many f P).1,(w.many f P).2 (-1)⟩;cases aE
  .refine Pj ?_;refine Α rfl ?_;refine Τ ?_;refine W.drop (h:=0) (σ':=[]) (χ _) (χ _) I rfl [(2,J 0),(3,J 0),(4,J 0),(5,J 11)] I ?_;refine W.rt ?_;exact .of I
  .refine W.draw (A:=[]) Ρ mixed λo a=>QL ?_;refine Yl (Ε.p (Dw F (by have:=w.Ut;omega) T w.count) (ZM.refl _) I I) ?_;simp;(repeat (rw[ZK];simp));try rw[ZL]
   refine Y8 (a _ _ ?_);by_cases q:ak=W1 F
   .refine Α (by simp[q]) ?_;refine Τ ?_;refine W.drop (h:=0) (σ':=[]) (χ _) (χ _) I rfl [(2,J 0),(3,J 0),(4,J 0),(5,J 11)] I ?_;refine W.rt ?_;exact .of (by simp[q])
   .refine Ζ (by simp[q]) ?_;refine Τ ?_;refine Pj ?_;refine W.drop (h:=0) (σ':=[]) (χ _) (χ _) I rfl [(2,J aC),(3,J aD),(4,J ak),(5,J 0)] I ?_;refine W.rt ?_;exact .of (by simp[q])
theorem wu (l:List Int) (B:l.length<2 ^ 30) :
  Μ Tryz.prog 85 [.ms 0 l.length 0 l.length] [.cells 3 1 (l.map J)] (λr s=>(∃e k,r=.sl e k (l.map J)/\(l≠[]->k=1))/\s=[.cells 3 1 (l.map J)]) (λ_ _=>False):=by
 refine Μ.body Ρ Tryz.func85 rfl rfl Tryz.ntmps85 rfl rfl I ?_;have o:l.length<=4294967295:=U;by_cases d:l=[]
 .subst d;refine Τ ?_;refine Z' λf b=>?_;intro j C;apply b;by_cases i:j=1
  .refine Α (by simp[i]) ?_;refine Τ ?_;exact W.ret ⟨_,rfl,⟨true,0,rfl,λh=>absurd rfl h⟩,rfl⟩
  .refine Ζ (by simp[i]) ?_
   repeat apply Ξ
   refine Y4 (A:=[5,7]) Ρ λf b=>Z6 ?_;apply b;refine W.cut 1 (γ _) [(2,.sl false 1 [])] I (λid r u c=>?_) (λp g=>?_) ?_
   .obtain rfl:id=0:=U
    simp at c;subst c;simp[X6]
   .obtain rfl:p=(2,.sl false 1 []):=by simpa using g
    exact Ym.own (id:=1) (t:=3) (γ _) rfl I I
   .exact W.ret ⟨_,rfl,⟨false,1,rfl,λ_=>rfl⟩,rfl⟩
 .refine Τ ?_;refine XB d λf b=>?_;apply b;refine Ζ rfl ?_
  repeat apply Ξ
  have v:List.take l.length (l.map J)=l.map J:=U4 I
  have w:l.length<=4294967296:=U;refine Y4 (A:=[5,7]) Ρ λf b=>XJ (Υ o (Υ d (Υ v w))) ?_;apply b;have m:∀e∈l.map J,∀a∈e.cells,ς 1 a:=λe y a n=>by
   obtain⟨x,_,rfl⟩:=Zq.1 y;simp[Ω.cells] at n;subst n;simp
  refine W.cut 1 (γ _) [(2,.sl false 1 (l.map J))] I (λid r u c=>?_) (λp g=>?_) ?_
  .obtain rfl:id=0:=U
   simp at c;subst c;exact m
  .obtain rfl:p=(2,.sl false 1 (l.map J)):=by simpa using g
   exact Ym.own (id:=1) (t:=3) (γ _) rfl I m
  .exact W.ret ⟨_,rfl,⟨false,1,rfl,λ_=>rfl⟩,rfl⟩
abbrev Pb (k:List Int):Ω:=.ZT (k.map J)
abbrev R4 (e:List Int×Int):Ω×Ω:=(Pb e.1,J e.2)
def Lq (m:List (List Int×Int)):Prop:=∀e∈m,e.1.length=4
theorem wq (x y:List Int) (e:x.length=4) (f:y.length=4):aeqv ZS 157 (Pb x) (Pb y)=some (decide (x=y)):=by
 match x,e,y,f with
 | [a,b,c,d],_,[g,h,c',i],_=>
  simp[aeqv,Vb,TQ,Q6]
def UY:List (List Int×Int)->List Int->Int->List (List Int×Int)
 | [],k,v=>[(k,v)]
 | e::r,k,v=>if k=e.1 then(k,v)::r else e::UY r k v
def N1:List (List Int×Int)->List Int->Option Int
 | [],_=>none
 | e::r,k=>if k=e.1 then some e.2 else N1 r k
theorem wm (k:List Int) (l:k.length=4):∀(m:List (List Int×Int)) (d:Nat),Lq m->(Wc ZS 157 (Pb k) (m.map R4) d=some none/\N1 m k=none/\∀v,UY m k v=m++[(k,v)])\/
  ∃i x,i<m.length/\Wc ZS 157 (Pb k) (m.map R4) d=some (some (d+i,J x))/\N1 m k=some x/\∀v,UY m k v=m.set i (k,v):=by
 intro m
 induction m with
 | nil=>intro d _;exact .inl ⟨rfl,rfl,λ_=>rfl⟩
 | cons e r n=>
  intro d f;have a:=wq k e.1 l (f e I);by_cases h:k=e.1
  .refine .inr ⟨0,e.2,I,?_,by simp[N1,h],λv=>by simp[UY,h]⟩;simp only[Xg,Wc,a];simp[h]
  .have g:decide (k=e.1)=false:=by simpa using h
   rcases n (d+1) (λx o=>f x (by simp[o])) with⟨j,b,c⟩|⟨i,x,j,b,c,p⟩
   .refine .inl ⟨?_,by simp[N1,h,b],λv=>by simp[UY,h,c]⟩;simp only[Xg,Wc,a,g,cond_false];exact j
   .refine .inr ⟨i+1,x,by simp;omega,?_,by simp[N1,h,c],λv=>by simp[UY,h,p]⟩;simp only[Xg,Wc,a,g,cond_false];rw[b];have:d+1+i=d+(i+1):=U;rw[this]
theorem Dc {m:List (List Int×Int)} (h:Lq m) {k:List Int} (b:k.length=4) (v:Int):Lq (UY m k v):=by
 induction m with
 | nil=>intro e he;simp[UY] at he;subst he;exact b
 | cons a r c=>
  intro e he;unfold UY at he;split at he
  .rcases Y6.1 he with rfl|he
   .exact b
   .exact h e (by simp[he])
  .rcases Y6.1 he with rfl|he
   .exact h _ I
   .exact c (λx d=>h x (by simp[d])) e he
def R3 (s:ψ) (p r:Int×Int) (L:List Nat) (k:Nat):List Int:=((L.take k).map λx=>s.XA p r x)++List.replicate (4-k) 0
theorem Db {s:ψ} {p r:Int×Int} {L:List Nat} {k:Nat} (a:k<=L.length) (b:L.length<=4):(R3 s p r L k).length=4:=by simp[R3];omega
theorem wj {s:ψ} {p r:Int×Int} {L:List Nat} {k:Nat} (b:k<L.length) (d:L.length<=4):(R3 s p r L k).take k++s.XA p r L[k]::(R3 s p r L k).drop (k+1)=R3 s p r L (k+1):=by
 have a:((L.take k).map λx=>s.XA p r x).length=k:=by simp;omega
 have Φ:4-k=(4-(k+1))+1:=U;unfold R3;rw[List.take_left' a,List.drop_append,NK U,a,We b,Yc,Φ,List.replicate_succ];have c:k+1-k=1:=U;rw[c];simp
abbrev M4:=Option (List (List Int×Int))
def M3 (m:M4) (k:List Int) (v:Int):M4:=m.bind λm=>match N1 m k with|some x=>if x=v then some (UY m k v) else none|none=>some (UY m k v)
def TK (s:ψ) (f:Found) (cell:Nat) (lower:Bool) (L:List Nat) (m:M4) (j:Nat):M4:=(((f.cells[cell]?).getD []).take j).foldl (λm r=>M3 m (R3 s (f.u,f.v) r L L.length) (Vz lower r)) m
def Pa (s:ψ) (F:List Found) (cell:Nat) (lower:Bool) (L:List Nat) (i:Nat):M4:=(F.take i).foldl (λm f=>TK s f cell lower L m ((f.cells[cell]?).getD []).length) (some [])
def Ru (s:ψ) (F:List Found) (cell:Nat) (lower:Bool) (L:List Nat):Bool:=(Pa s F cell lower L F.length).isSome
theorem wi (s:ψ) (f:Found) (cell:Nat) (lower:Bool) (L:List Nat) (m:M4) (j:Nat) (h:j<((f.cells[cell]?).getD []).length):TK s f cell lower L m (j+1)=M3 (TK s f cell lower L m j) (R3 s (f.u,f.v) ((f.cells[cell]?).getD [])[j] L L.length) (Vz lower ((f.cells[cell]?).getD [])[j]):=by
 unfold TK;rw[We h,Px];rfl
theorem Da (s:ψ) (F:List Found) (cell:Nat) (lower:Bool) (L:List Nat) (i:Nat) (h:i<F.length):Pa s F cell lower L (i+1)=TK s F[i] cell lower L (Pa s F cell lower L i) ((F[i].cells[cell]?).getD []).length:=by
 unfold Pa;rw[We h,Px];rfl
theorem C' (l:List (Int×Int)) (k:(Int×Int)->List Int) (v:Int×Int->Int):l.foldl (λm r=>M3 m (k r) (v r)) none=none:=by
 induction l with
 | nil=>rfl
 | cons a l b=>exact b
theorem wh (s:ψ) (F:List Found) (cell:Nat) (lower:Bool) (L:List Nat) {i j:Nat} (hi:i<F.length) (d:j<=((F[i].cells[cell]?).getD []).length) (h:TK s F[i] cell lower L (Pa s F cell lower L i) j=none):Ru s F cell lower L=false:=by
 have b:TK s F[i] cell lower L (Pa s F cell lower L i) ((F[i].cells[cell]?).getD []).length=none:=by
  unfold TK at h ⊢;rw[OI]
  conv=>lhs;rw[<-OP j ((F[i].cells[cell]?).getD [])]
  rw[Px,h];exact C' _ _ _
 rw[<-Da s F cell lower L i hi] at b;unfold Ru;unfold Pa at b ⊢;rw[OI]
 conv=>lhs;rw[<-OP (i+1) F]
 rw[Px,b];have:∀l:List Found,(l.foldl (λm f=>TK s f cell lower L m ((f.cells[cell]?).getD []).length) none)=none:=λl=>by
  induction l with
  | nil=>rfl
  | cons a l c=>
   rw[List.foldl_cons];have:TK s a cell lower L none ((a.cells[cell]?).getD []).length=none:=by unfold TK;exact C' _ _ _
   rw[this];exact c
 rw[this];rfl
abbrev Yj (L:List Nat):Row:=.cells 3 1 (L.map λn:Nat=>J n)
theorem GD {h:Nat} {L:List Nat}:X6 h (Yj L):=λe c a b=>by
 obtain⟨x,_,rfl⟩:=Zq.1 c;simp[Ω.cells] at b;subst b;simp
theorem we (s:ψ) (aB:s.small) (F:List Found) (ak:Lr s F) (cell:Nat) (aC:cell<s.cells.length) (lower:Bool) (L:List Nat) (ab:L.length<=4) (aD:∀x∈L,x<s.Δ.length) :
  Μ Tryz.prog 84 [Yz s,Zb F,J cell,Z4 lower,.ms 0 L.length 0 L.length] [Yj L] (λr σ=>r=Z4 (Ru s F cell lower L)/\σ=[Yj L]) (λ_ _=>False):=by
 refine Μ.body Ρ Tryz.func84 rfl rfl Tryz.ntmps84 rfl rfl I ?_;refine Τ ?_;have S:∀n:List (List Int×Int),∀r∈[Yj L,.map (n.map R4)],X6 [Yj L,.map (n.map R4)].length r:=λn r T=>by
  simp only[Y6,Ya,or_false] at T;rcases T with rfl|rfl
  .exact GD
  .intro e ad;obtain⟨x,_,rfl⟩:=Zq.1 ad;simp
 refine W.iter (λx:Nat×List (List Int×Int)=>x.1<=F.length/\Pa s F cell lower L x.1=some x.2/\Lq x.2) (λ(i,_)=>[(2,J cell),(3,Z4 lower),(4,.ms 0 L.length 0 L.length),(5,.Θ [ν s.Ι,ξ s.Δ,Z2 s.cells]),(11,.mp 1),(23,Zb F),(24,J F.length),(25,J i)])
  (λ(_,n)=>[Yj L,.map (n.map R4)]) (λx=>F.length-x.1) (0,[]) ⟨χ _,rfl,λe ad=>by cases ad⟩ rfl I (λx ae aE=>?_)
 obtain⟨i,n⟩:=x;obtain⟨hi,af,al⟩:=ae;simp only at hi af al ⊢;refine Τ ?_;by_cases B:i<F.length
 .refine Α (by simp[B]) ?_;have M:=Da s F cell lower L i B;have N:=λj=>wh s F cell lower L (i:=i) (j:=j) B;rw[af] at M N;obtain⟨am,an⟩:=ak.cells _ (YF B);generalize aF:F[i]=f at M N am an;have ag:cell<f.cells.length:=by rw[am];exact aC
  repeat apply Ξ
  refine Y4 (A:=[13]) Ρ λD l=>XJ (Υ B aF) ?_;apply l;refine W.U9 (σ0:=[Yj L,.map (n.map R4)]) I (S _) I [(13,.Θ [J f.u,J f.v,T8 f.cells]),(2,J cell),(3,Z4 lower),(4,.ms 0 L.length 0 L.length),(5,.Θ [ν s.Ι,ξ s.Δ,Z2 s.cells]),(11,.mp 1),(23,Zb F),(24,J F.length),(25,J i)] (by simp[WV,PY,Ux]) ?_;refine Γ ag ?_;have ao:(f.cells[cell]?).getD []=f.cells[cell]:=by simp[ag]
  rw[ao] at M N;have ap:=an _ (YF ag);have ah:=wi s f cell lower L (some n);rw[ao] at ah;generalize f.cells[cell]=C at M ap ah N;obtain⟨aM,aG⟩:=ap;refine W.iter (λx:Nat×List (List Int×Int)=>x.1<=C.length/\TK s f cell lower L (some n) x.1=some x.2/\Lq x.2) (λ(j,_)=>[(2,J cell),(3,Z4 lower),(4,.ms 0 L.length 0 L.length),(5,.Θ [ν s.Ι,ξ s.Δ,Z2 s.cells]),(11,.mp 1),(23,Zb F),(24,J F.length),(25,J i),(13,.Θ [J f.u,J f.v,T8 f.cells]),(33,UZ C),(34,J C.length),(35,J j)])
   (λ(_,n)=>[Yj L,.map (n.map R4)]) (λx=>C.length-x.1) (0,n) ⟨χ _,rfl,al⟩ rfl I (λx ae aq=>?_)
  obtain⟨j,o⟩:=x;obtain⟨aH,ai,O⟩:=ae;simp only at aH ai O ⊢;refine Τ ?_;by_cases y:j<C.length
  .refine Α (by simp[y]) ?_;have H:=ah j y;rw[ai] at H;obtain⟨ar,au⟩:=aG _ (YF y);generalize T:C[j]=r at H ar au
   repeat apply Ξ
   refine Y4 (A:=[15]) Ρ λD l=>XJ (Υ y T) ?_;apply l;refine W.U9 (σ0:=[Yj L,.map (o.map R4)]) I (S _) I [(15,.Θ [J r.1,J r.2]),(2,J cell),(3,Z4 lower),(4,.ms 0 L.length 0 L.length),(5,.Θ [ν s.Ι,ξ s.Δ,Z2 s.cells]),(11,.mp 1),(23,Zb F),(24,J F.length),(25,J i),(13,.Θ [J f.u,J f.v,T8 f.cells]),(33,UZ C),(34,J C.length),(35,J j)] (by simp[WV,PY,Ux]) ?_
   repeat apply Ξ
   refine Y4 (A:=[16]) Ρ λD l=>Z6 ?_;apply l;refine Τ ?_;refine W.iter (λk:Nat=>k<=L.length) (λk=>[(2,J cell),(3,Z4 lower),(4,.ms 0 L.length 0 L.length),(5,.Θ [ν s.Ι,ξ s.Δ,Z2 s.cells]),(11,.mp 1),(23,Zb F),(24,J F.length),(25,J i),(13,.Θ [J f.u,J f.v,T8 f.cells]),(33,UZ C),(34,J C.length),(35,J j),(15,.Θ [J r.1,J r.2]),(16,.Κ 2 1 0 0),(39,.ms 0 L.length 0 L.length),(40,J L.length),(41,J k)])
    (λk=>[Yj L,.map (o.map R4),.cells 157 4 [Pb (R3 s (f.u,f.v) r L k)]]) (λk=>L.length-k) 0 (χ _) (by simp[R3]) I (λk aN av=>?_)
   refine Τ ?_;by_cases E:k<L.length
   .refine Α (by simp[E]) ?_;have V:(k:Int)<4:=U;have aw:k<=3:=U;have ax:=wj (s:=s) (p:=(f.u,f.v)) (r:=r) E ab;have m:=Db (s:=s) (p:=(f.u,f.v)) (r:=r) (Sr E) ab;have aI:=aD _ (YF E);obtain⟨K,l⟩:=Η (R3 s (f.u,f.v) r L k);rw[<-l] at ax m ⊢;refine Γ (Υ E (Υ V m)) ?_;refine XB (Υ V m) λD l=>?_;refine Ε.c (LA s aB (f.u,f.v) r L[k] aI ar au) (ZM.refl _) I I ?_;simp[V,aw,m];(repeat (rw[Ν];simp[V,aw,m]));apply l;have ay:=X5 E (show L.length<2 ^ 62 by omega);refine Γ ay ?_;refine W.to (av (k+1) E U) ?_ ?_
    .rw[<-ax];simp
    .simp[ay]
   .have aJ:k=L.length:=U
    subst aJ;refine Ζ I ?_;refine W.exit rfl ?_;have m:=Db (s:=s) (p:=(f.u,f.v)) (r:=r) (γ _) ab;obtain⟨K,l⟩:=Η (R3 s (f.u,f.v) r L L.length);obtain⟨v,hv⟩:=Η (Vz lower r);rw[<-l,<-hv] at H;rw[<-l] at m ⊢
    repeat apply Ξ
    refine W.RA (A:=[]) Ρ [(2,J cell),(3,Z4 lower),(4,.ms 0 L.length 0 L.length),(5,.Θ [ν s.Ι,ξ s.Δ,Z2 s.cells]),(11,.mp 1),(23,Zb F),(24,J F.length),(25,J i),(13,.Θ [J f.u,J f.v,T8 f.cells]),(33,UZ C),(34,J C.length),(35,J j),(15,.Θ [J r.1,J r.2]),(16,.Κ 2 1 0 0),(19,J v)] ?_ (by
     rw[hv];cases lower
     all_goals
      (try simp);(repeat (rw[Ν];simp));(try simp);refine Ε.d (GP _) (Z6 ?_);simp[Vz])
    clear av hv;have az:=X5 y (show C.length<2 ^ 62 by omega);have aO:SK [Yj L,.map (o.map R4),.cells 157 4 [Pb K]] 1=true:=by simp[SK]
    have X:SL ZS 157 (Pb K)=true:=by
     match K,m with
     | [a,b,c,d],_=>simp[SL,Vb,TQ]
    have Y:List.take 4 (K.map J)=K.map J:=U4 (by simp[m]);rcases wm K m o 0 O with⟨P,Z,t⟩|⟨aP,x,aQ,P,Z,t⟩
    .have t:=t v
     have Q:TK s f cell lower L (some n) (j+1)=some (UY o K v):=by rw[H];simp[M3,Z]
     (repeat (first|apply Ξ|(refine Y9 λD l=>?_;simp;(repeat (rw[Ν];simp[P,X,Y,m,-SL]));apply l)));refine Ζ rfl ?_;(repeat (first|apply Ξ|(refine Y9 λD l=>?_;simp;(repeat (rw[Ν];simp[P,X,Y,m,-SL]));apply l)));refine W.drop (h:=2) (σ':=[Yj L,.map ((UY o K v).map R4)]) I I (λid w R g=>X6.mono (S (UY o K v) w (by
      match id,R,g with
      | 0,_,g=>simp at g;subst g;simp
      | 1,_,g=>simp[t] at g;subst g;simp[t])) I) (by simp[t]) [(2,J cell),(3,Z4 lower),(4,.ms 0 L.length 0 L.length),(5,.Θ [ν s.Ι,ξ s.Δ,Z2 s.cells]),(11,.mp 1),(23,Zb F),(24,J F.length),(25,J i),(13,.Θ [J f.u,J f.v,T8 f.cells]),(33,UZ C),(34,J C.length),(35,J ((j:Int)+1))] (by simp[WV,PY,Ux,az]) ?_
     refine W.to (aq (j+1,UY o K v) ⟨y,Q,Dc O m v⟩ (by simp only;omega)) rfl ?_;simp
    .have t:=t v;(repeat (first|apply Ξ|(refine Y9 λD l=>?_;simp;(repeat (rw[Ν];simp[P,X,Y,m,-SL]));apply l)));by_cases aa:x=v
     .have Q:TK s f cell lower L (some n) (j+1)=some (UY o K v):=by rw[H];simp[M3,Z,aa]
      refine Ζ (by simp[aa]) ?_;(repeat (first|apply Ξ|(refine Y9 λD l=>?_;simp;(repeat (rw[Ν];simp[P,X,Y,m,-SL]));apply l)));refine W.drop (h:=2) (σ':=[Yj L,.map ((UY o K v).map R4)]) I I (λid w R g=>X6.mono (S (UY o K v) w (by
       match id,R,g with
       | 0,_,g=>simp at g;subst g;simp
       | 1,_,g=>simp[t] at g;subst g;simp[t])) I) (by simp[t]) [(2,J cell),(3,Z4 lower),(4,.ms 0 L.length 0 L.length),(5,.Θ [ν s.Ι,ξ s.Δ,Z2 s.cells]),(11,.mp 1),(23,Zb F),(24,J F.length),(25,J i),(13,.Θ [J f.u,J f.v,T8 f.cells]),(33,UZ C),(34,J C.length),(35,J ((j:Int)+1))] (by simp[WV,PY,Ux,az]) ?_
      refine W.to (aq (j+1,UY o K v) ⟨y,Q,Dc O m v⟩ (by simp only;omega)) rfl ?_;simp
     .have Q:TK s f cell lower L (some n) (j+1)=none:=by rw[H];simp[M3,Z,aa]
      have aj:=N (j+1) y Q;rw[aj];refine Α (by simp[aa]) ?_;refine Τ ?_;refine W.drop (h:=1) (σ':=[Yj L]) I I (λid w R g=>by
       obtain rfl:id=0:=U;simp at g;subst g;exact GD) rfl [(10,Z4 false)] I ?_
      exact W.ret ⟨_,rfl,rfl,rfl⟩
  .have aK:j=C.length:=U
   subst aK;have aA:=X5 B (show F.length<2 ^ 62 by have:=ak.Ut;omega);refine Ζ I ?_;refine W.exit rfl ?_;refine Γ aA ?_;refine W.to (aE (i+1,o) ⟨B,by rw[M];exact ai,O⟩ (by simp only;omega)) rfl ?_;simp[aA]
 .have aL:i=F.length:=U
  subst aL;have aj:Ru s F cell lower L=true:=by unfold Ru;rw[af];rfl
  rw[aj];refine Ζ I ?_;refine W.exit rfl ?_;refine Τ ?_;refine W.drop (h:=1) (σ':=[Yj L]) I I (λid w R g=>by
   obtain rfl:id=0:=U;simp at g;subst g;exact GD) rfl [(10,Z4 true)] I ?_
  exact W.ret ⟨_,rfl,rfl,rfl⟩
end Go.TL
namespace Go.TL
open Go.Conc Go.Proofs
variable [ZX]
section
variable {P:Program} {Q:Value->Prop} {mn:Bool} {x:W2} {cs rest:List Frame} {H:Χ} {b f c:Frame} {t:Array Value} {k:List Item} {fn:Func}
theorem Ψ.getLoop {L:Nat} {r:Loop} (h:H.obj L=some (.loop r)) {K:Loop->Χ->Prop} {E:Value->Χ->Prop} (a:K r H):Ψ P (Instr.getLoop L) H K E:=by
 unfold Instr.getLoop;refine Ψ.bind' ?_;exact⟨_,h,rfl,Ψ.pure' a⟩
theorem Ψ.GC {L:Nat} {r r':Loop} (h:H.obj L=some (.loop r)) {K:Unit->Χ->Prop} {E:Value->Χ->Prop} (a:K () (H.ZU L (.loop r'))):Ψ P (setObj L (.loop r')) H K E:=
 ⟨⟨_,h⟩,rfl,rfl,Ψ.pure' a⟩
abbrev C9 (st:LoopState) (b:Option Code) (f:FuncId) (t:Array Value) (c:Array Tmp) (a e:Code) (d:Nat):Loop:={state:=st,pending:=b,fn:=f,tmps:=t,params:=c,assign:=a,body:=e,defers:=d}
theorem ι.rangeFunc (n:Seq x) (o:b.mode=.run) (p:b.roundOf=none) {fo:Operand} {i:Array Tmp} {assign body:Code} {g:FuncId} {f:Array Value} (r:ZN t fo=.func (.func g) #[] f) (s:Plain P g)
  (h:∀c a,H.fresh c->(H.ZU c (.deferred (some []))).fresh a->ι P Q mn x (Frame.enter P g (#[.func (.yield a) #[] #[]]++f) .normal) ({ο b t (.inRangeFunc a::k) with defers:=⟨.collected c,#[]⟩::b.defers}::cs)
   ((H.ZU c (.deferred (some []))).ZU a (.loop (C9 .ready none b.fn t i assign body c)))) :
  ι P Q mn x (ο b t (.code (.rangeFunc fo i assign body)::k)) cs H:=by
 refine .own n λw u=>?_;have y:Ψ P (Instr.enterLoop b.fn t i assign body none) H (λv H'=>∃c a,H.fresh c/\(H.ZU c (.deferred (some []))).fresh a/\v=(a,[⟨.collected c,#[]⟩])/\H'=(H.ZU c (.deferred (some []))).ZU a (.loop (C9 .ready none b.fn t i assign body c))) (λ_ _=>False):=by
  unfold Instr.enterLoop;refine Ψ.bind' (λc j=>Ψ.pure' (Ψ.bind' (Ψ.pure' ?_)));refine Ψ.bind' (λa l=>Ψ.pure' (Ψ.pure' ?_));exact⟨c,a,j,l,rfl,rfl⟩
 obtain⟨H',w',es',A,B⟩:=Ψ.sound (P:=P) (G0:=H) (w0:=w) _ y (Yo.start u);rcases B with⟨v,m,c,a,j,l,rfl,rfl⟩|⟨v,m,C⟩
 .refine⟨_,_,w',seen P b.fn es',_,?_,A.sub λe D=>mem_seen D,h c a j l⟩;have E:∀F:Frame,F.tmps=t->resolve F.eval {callee:=.value fo,args:=#[.const (.func (.yield a) #[] #[])],argTypes:=#[]} 0=Deferred.ofValue (.func (.func g) #[] f) #[.func (.yield a) #[] #[]]:=λF I=>by
   have:F.eval fo=.func (.func g) #[] f:=by rw[<-r,<-I];cases fo<;>rfl
   unfold resolve;simp only;rw[this];simp[Frame.eval]
  have J:((do let d <-Deferred.ofValue (.func (.func g) #[] f) #[.func (.yield a) #[] #[]];invoke d.target d.args:Sem Next)).runT P w' #[]=(.ok (.enter g (#[.func (.yield a) #[] #[]]++f)) w',#[]):=by
   have:=s.enter (#[.func (.yield a) #[] #[]]++f) w';simpa[Deferred.ofValue,invoke] using this
  rw[Vu o];unfold stepG.exec;simp only[ο,p,m];rw[E _ rfl];unfold stepG.apply;simp only[if_true,J];simp[GStep.after,Go.Conc.G,ο,seen_none]
 .exact C.elim
theorem ι.IN (d:Seq x) (f:b.mode=.run) {L:Nat} {r:Loop} (a:H.obj L=some (.loop r)) (g:r.state≠.busy)
  (h:ι P Q mn x (ο b t ((r.pending.map Item.code).toList++k)) cs (H.ZU L (.loop {r with state:=.exhausted}))):ι P Q mn x (ο b t (.endRangeFunc L::k)) cs H:=by
 refine .own d λw i=>?_;have j:Ψ P (Instr.endLoop L) H (λv H'=>v=r.pending/\H'=H.ZU L (.loop {r with state:=.exhausted})) (λ_ _=>False):=by
  unfold Instr.endLoop;refine Ψ.bind' (Ψ.getLoop a ?_);have e:(r.state==.busy)=false:=by cases l:r.state<;>first|rfl|exact absurd l g
  simp only[e,W',if_false];exact Ψ.bind' (Ψ.GC a (Ψ.pure' ⟨rfl,rfl⟩))
 obtain⟨H',w',es',m,n⟩:=Ψ.sound (P:=P) (G0:=H) (w0:=w) _ j (Yo.start i);rcases n with⟨v,c,rfl,rfl⟩|⟨v,c,o⟩
 .refine⟨_,_,w',seen P b.fn es',_,?_,m.sub λe p=>mem_seen p,h⟩;rw[Vu f];unfold stepG.exec;simp only[ο,c];simp[GStep.after,Go.Conc.G]
 .exact o.elim
theorem ι.beginRound (g:Seq x) (i:b.mode=.run) {L:Nat} (j:b.roundOf=some L) {r:Loop} (a:H.obj L=some (.loop r)) (l:r.state=.ready)
  (h:ι P Q mn x (ο b t k) cs (H.ZU L (.loop {r with state:=.busy}))):ι P Q mn x (ο b t (.beginRound::k)) cs H:=by
 refine .own g λw m=>?_;have n:Ψ P (Instr.beginRound L) H (λ_ H'=>H'=H.ZU L (.loop {r with state:=.busy})) (λ_ _=>False):=by
  unfold Instr.beginRound;refine Ψ.bind' (Ψ.getLoop a (Ψ.bind' (Ψ.GC a ?_)));rw[l];exact Ψ.pure' rfl
 have o:Ψ P (do Instr.beginRound L;pure Next.skip:Sem Next) H (λv H'=>v=.skip/\H'=H.ZU L (.loop {r with state:=.busy})) (λ_ _=>False):=
  Ψ.bind' (Ψ.mono (λ_ _ e=>Ψ.pure' ⟨rfl,e⟩) (λ_ _ h=>h) _ n)
 obtain⟨H',w',es',p,s⟩:=Ψ.sound (P:=P) (G0:=H) (w0:=w) _ o (Yo.start m);rcases s with⟨v,c,rfl,rfl⟩|⟨v,c,u⟩
 .generalize d:(if b.kind==.early then #[] else es')=f;have y:∀e∈seen P b.fn f,e∈es':=λe A=>by
   have:=mem_seen A;rw[<-d] at this;split at this
   .simp at this
   .exact this
  refine⟨_,_,w',seen P b.fn f,_,?_,p.sub y,h⟩;rw[Vu i];unfold stepG.exec;simp only[ο,j,Option.elim];unfold stepG.apply;simp only[if_true,c];rw[d];simp[GStep.after,Go.Conc.G,Frame.finish]
 .exact u.elim
theorem ι.endRound (l:Seq x) (m:b.mode=.run) {L:Nat} (f:b.roundOf=some L) (g:b.kind=.normal) {r:Loop} (j:H.obj L=some (.loop r)) {jump:Option Code} (n:(jump=none/\k=[])\/(jump=some .ret/\∃a,k=.code .ret::a)\/∃id a,jump=some (.exit id)/\k=.code (.exit id)::a/\exitTo id a=none)
  (h:ι P Q mn x (c.finish (.bool jump.isNone)) rest (H.ZU L (.loop {r with state:=if jump.isNone then .ready else .done,pending:=jump}))):ι P Q mn x (ο b t k) (c::rest) H:=by
 refine .own l λw o=>?_;have p:Ψ P (Instr.endRound L jump) H (λv H'=>v=.bool jump.isNone/\H'=H.ZU L (.loop {r with state:=if jump.isNone then .ready else .done,pending:=jump})) (λ_ _=>False):=by
  unfold Instr.endRound;exact Ψ.bind' (Ψ.getLoop j (Ψ.bind' (Ψ.GC j (Ψ.pure' ⟨rfl,rfl⟩))))
 obtain⟨H',w',es',s,u⟩:=Ψ.sound (P:=P) (G0:=H) (w0:=w) _ p (Yo.start o);rcases u with⟨v,d,rfl,rfl⟩|⟨v,d,y⟩
 .refine⟨_,_,w',seen P b.fn es',_,?_,s.sub λe i=>mem_seen i,h⟩;rw[Vu m];unfold stepG.exec;rcases n with⟨rfl,rfl⟩|⟨rfl,a,rfl⟩|⟨id,a,rfl,rfl,i⟩
  .simp only[ο,f,d];simp[GStep.after,Go.Conc.G,doReturn,g]
  .simp only[ο,f,d];simp[GStep.after,Go.Conc.G,doReturn,g]
  .simp only[ο,f,i,Option.elim,d];simp[GStep.after,Go.Conc.G,doReturn,g]
 .exact y.elim
theorem ι.collected (c:Seq x) (d:f.mode=.returning) {r:Nat} {ds:List Deferred} (hd:f.defers=⟨.collected r,#[]⟩::ds) (a:H.obj r=some (.deferred (some [])))
  (h:ι P Q mn x {f with defers:=ds} cs (H.ZU r (.deferred none))):ι P Q mn x f cs H:=by
 refine .own c λw g=>?_;have i:Ψ P (Instr.takeDeferred r) H (λv H'=>v=[]/\H'=H.ZU r (.deferred none)) (λ_ _=>False):=by
  unfold Instr.takeDeferred;refine Ψ.bind' ?_;exact⟨_,a,rfl,Ψ.pure' (Ψ.bind' ⟨⟨_,a⟩,rfl,rfl,Ψ.pure' (Ψ.pure' ⟨rfl,rfl⟩)⟩)⟩
 obtain⟨H',w',es',j,k⟩:=Ψ.sound (P:=P) (G0:=H) (w0:=w) _ i (Yo.start g);rcases k with⟨v,b,rfl,rfl⟩|⟨v,b,l⟩
 .refine⟨_,_,w',seen P f.fn es',_,?_,j.sub λe m=>mem_seen m,h⟩;rw[Nt (by rw[d];simp)];unfold unwind;simp only[hd,b];simp[GStep.after,Go.Conc.G]
 .exact l.elim
end
end Go.TL
namespace Go.TL
open Go.Conc
open Go.ConcM (OsLater)
open Go.ConcN (sumTo upd sumTo_upd upd_ne upd_same sumTo_congr le_sumTo)
open Go.ConcR (mk)
variable [ZX]
theorem WY {b:Frame} (a:b.mode=.run) (c:b.roundOf=none) (t:Array Value) (k:List Item):ο b t k=b.at ⟨t,b.defers⟩ k:=by
 obtain⟨fn,d,td,e,f,g,h⟩:=b;simp only at a c;subst a;subst c;rfl
theorem O9 (o:Oper) (t:Array Value) (ds:List Deferred) (v:Value):(⟨t,ds⟩:_root_.Go.Act).put o.dst v=⟨put o t v,ds⟩:=by
 unfold _root_.Go.Act.put put;cases o.dst<;>rfl
theorem T5 (t:Array Value) (ds:List Deferred):(⟨t,ds⟩:_root_.Go.Act).eval=ZN t:=by funext o;cases o<;>rfl
def Entry (P:Program) (f:FuncId) (e:Array Value->Sem Value):Prop:=∃fn,P.funcs[f]?=some fn/\(fn.name == "runtime.NumGoroutine")=false/\fn.body.isNone=true/\Extern.findNext fn=none/\Extern.find fn=some e
structure TJ (b:Frame) (ops:Array Oper) (i:Nat) (op:Oper):Prop where
 run:b.mode=.run
 ro:b.roundOf=none
 kd:b.kind≠.early
 op:ops[i]?=some op
def XN (x:ZZ):Prop:=x.rel=false\/∃s,¬Gone (x.tok s)
theorem XN.ok {P:Program} {g:Goroutine} {x:ZZ} (h:XN x):Md P g x:=λa b=>by
 rcases h with h|⟨s,h⟩
 .rw[h] at a;cases a
 .exact absurd (b s) h
def one (x:ZZ):W2:=λy=>y=x
@[reducible] def XU:ZX:=⟨λ_=>True⟩
theorem Seq.O8 {x:ZZ} (a:ZX.q (one x)) (b:x.rel=false) (hv:x.Z3=λ_=>none):Seq (one x):=⟨a,λy h=>by cases h;exact b,λy h=>by cases h;exact hv⟩
theorem Seq.here {x:ZZ} (h:Seq (one x)):XN x:=.inl (h.rel x rfl)
section
variable {P:Program} {Q:Value->Prop} {mn:Bool} {x:ZZ} {b:Frame} {cs:List Frame} {nt:Nat} {o:Base} {k:List Item} {env:ω} {σ:Ο} {S:μ} {B:Z8} {H:Χ} {t:Array Value}
variable {ops:Array Oper} {i:Nat} {rest:List Nat} {op:Oper} {f:FuncId} {e:Array Value->Sem Value} {args:Array Operand} {Lp:Array TypeId} {w w':World}
theorem IM (j:Entry P f e) (c:TJ b ops i op) (l:Region.wanted op (yielded ops t)=true) (m:op.op=.call ⟨.value (.func f),args,Lp⟩) {vs:Array Value} (h:args.map (ZN t)=vs) {v:Value} {d:Array Event}
  (n:(e vs).run P w=.ok v w') (o:(e vs).events P w #[⟨.mark (Mark.extern f),false,true⟩]=#[⟨.mark (Mark.extern f),false,true⟩]++d) (p:∀y∈d,y.sync=true/\∀g,y.loc≠.mark (Mark.extern g)) :
  stepG P mn (Go.Conc.G (ο b t (.inRegion ops (i::rest)::k)) cs) w=.go (Go.Conc.G (ο b (put op t v) (.inRegion ops rest::k)) cs) w' d:=by
 obtain⟨fn,r,s,u,x,A⟩:=j;rw[WY c.run c.ro,WY c.run c.ro,<-O9];exact stepG_entry (a:=⟨t,b.defers⟩) c.op l c.kd m r s u x A (by rw[T5,h];exact n) (by rw[T5,h];exact o) p
theorem wc (d:Entry P f e) (c:TJ b ops i op) (g:Region.wanted op (yielded ops t)=true) (h:op.op=.call ⟨.value (.func f),args,Lp⟩) {vs:Array Value} (j:args.map (ZN t)=vs)
  (l:(e vs).run P w=.halt .blocked w') :
  stepG P mn (Go.Conc.G (ο b t (.inRegion ops (i::rest)::k)) cs) w=.go {Go.Conc.G (ο b t (.inRegion ops (i::rest)::k)) cs with status:=.blocked} w' #[]:=by
 obtain⟨fn,m,n,o,p,r⟩:=d;rw[WY c.run c.ro];exact stepG_entry_blocked (a:=⟨t,b.defers⟩) c.op g h m n o p r (by rw[T5,j];exact l)
theorem C8 (d:Entry P f e) (a:TJ b ops i op) (g:op.op=.call ⟨.value (.func f),args,Lp⟩):mayWake P (Go.Conc.G (ο b t (.inRegion ops (i::rest)::k)) cs)=true:=by
 obtain⟨fn,h,m,j,n,o⟩:=d;have l:fn.body=none:=by simpa using j
 have c:(ο b t (.inRegion ops (i::rest)::k)).eval (.func f)=.func (.func f) #[] #[]:=rfl;simp[mayWake,Go.Conc.G,ο,a.run,a.op,g] at c ⊢;simp[c,h,l]
def Lo (env:ω) (args:Array Operand) (vs:List Value):Prop:=args.toList.map (ζ env)=vs.map Ω.z
theorem IL (a:YT S B σ env t) {y:Operand} {v:Value} (h:ζ env y=.z v):ZN t y=v:=by
 have:=Ud a y;rw[h] at this;generalize ZN t y=u at this;cases this;rfl
theorem Lo.ZN (a:YT S B σ env t) {vs:List Value} (h:Lo env args vs):args.map (ZN t)=vs.toArray:=by
 apply NC;rw[Array.toList_map];have:∀(l:List Operand) (vs:List Value),l.map (ζ env)=vs.map Ω.z->l.map (Go.TL.ZN t)=vs:=by
  intro l
  induction l with
  | nil=>intro vs h;cases vs with
   | nil=>rfl
   | cons=>cases h
  | cons y l b=>
   intro vs h;cases vs with
   | nil=>cases h
   | cons v vs=>
    simp only[Xg,List.cons.injEq] at h ⊢;exact⟨IL a h.1,b vs h.2⟩
 exact this _ _ h
theorem IK (m:Mark):((λ_=>do mark m;pure Extern.Race.none_:Array Value->Sem Value) #[]).run P w=.ok (.tuple #[]) w:=by simp[Extern.Race.none_]
theorem IJ (m:Mark) (es:Array Event):((λ_=>do mark m;pure Extern.Race.none_:Array Value->Sem Value) #[]).events P w es=es.push ⟨.mark m,false,true⟩:=I
theorem M1 (m:Addr->Mark) (a:Addr):(Extern.Race.marked m #[.pointer (some a)]).run P w=.ok (.tuple #[]) w:=by simp[Extern.Race.marked,Extern.Race.at_,Extern.Race.none_]
theorem M0 (m:Addr->Mark) (a:Addr) (es:Array Event):(Extern.Race.marked m #[.pointer (some a)]).events P w es=es.push ⟨.mark (m a),false,true⟩:=by simp[Extern.Race.marked,Extern.Race.at_]
theorem QH {m:Mark} (b:∀g,m≠Mark.extern g):∀y∈(#[⟨.mark m,false,true⟩]:Array Event),y.sync=true/\∀g,y.loc≠.mark (Mark.extern g):=by
 intro y a;simp at a;subst a;exact⟨rfl,λg h=>b g (by cases h;rfl)⟩
structure WL (P:Program) (b:Frame) (ops:Array Oper) (i:Nat) (op:Oper) (f:FuncId) (e:Array Value->Sem Value) (args:Array Operand) (env:ω) (vs:List Value) (nt:Nat):Prop where
 at_:TJ b ops i op
 T':Entry P f e
 call:∃Lp,op.op=.call ⟨.value (.func f),args,Lp⟩
 want:XK env ops op=some true
 dst:WO nt op=true
 Ln:Lo env args vs
theorem WL.step {vs:List Value} (h:WL P b ops i op f e args env vs nt) (c:YT S B σ env t) {v:Value} {a:Array Event} (d:(e vs.toArray).run P w=.ok v w')
  (j:(e vs.toArray).events P w #[⟨.mark (Mark.extern f),false,true⟩]=#[⟨.mark (Mark.extern f),false,true⟩]++a) (l:∀y∈a,y.sync=true/\∀g,y.loc≠.mark (Mark.extern g)) :
  stepG P mn (Go.Conc.G (ο b t (.inRegion ops (i::rest)::k)) cs) w=.go (Go.Conc.G (ο b (put op t v) (.inRegion ops rest::k)) cs) w' a:=
 let ⟨_,m⟩:=h.call
 IM h.T' h.at_ (U0 c h.want) m (h.Ln.ZN c) d j l
abbrev SB:Ω:=.z (.tuple #[])
theorem V.disable (c:XN x) (h:WL P b ops i op f (λ_=>do mark .disable;pure Extern.Race.none_) args env [] nt) (d:V P Q mn (one {x with deaf:=x.deaf+1}) b cs nt o (.inRegion ops rest::k) (Zt op env SB) σ):V P Q mn (one x) b cs nt o (.inRegion ops (i::rest)::k) env σ:=
 λS B H t e a y g=>by
 cases g;exact Goes.step c.ok (.inr ⟨⟨rfl,rfl⟩,.inr (.inl ⟨Go.Conc.G (ο b (put op t (.tuple #[])) (.inRegion ops rest::k)) cs,⟨rfl,rfl⟩,.inl λw _=>
  ⟨h.step a.Zm (IK .disable) (IJ .disable _) (QH I),d S B H _ e (a.put h.dst (.z _)) _ rfl⟩⟩)⟩)
theorem V.enable (c:XN x) (hd:0<x.deaf) (h:WL P b ops i op f (λ_=>do mark .enable;pure Extern.Race.none_) args env [] nt) (d:V P Q mn (one {x with deaf:=x.deaf-1}) b cs nt o (.inRegion ops rest::k) (Zt op env SB) σ):V P Q mn (one x) b cs nt o (.inRegion ops (i::rest)::k) env σ:=
 λS B H t e a y g=>by
 cases g;exact Goes.step c.ok (.inr ⟨⟨rfl,rfl⟩,.inr (.inl ⟨Go.Conc.G (ο b (put op t (.tuple #[])) (.inRegion ops rest::k)) cs,⟨rfl,rfl⟩,.inr ⟨hd,λw _=>
  ⟨h.step a.Zm (IK .enable) (IJ .enable _) (QH I),d S B H _ e (a.put h.dst (.z _)) _ rfl⟩⟩⟩)⟩)
theorem V.wa (c:x.rel=false) {s d n p:Nat} {a:Qd} (g:x.tok s=.par n p a) (j:a≠.ZP) (h:WL P b ops i op f (Extern.Race.marked .read) args env [.pointer (some ⟨s,d,none⟩)] nt) (l:V P Q mn (one x) b cs nt o (.inRegion ops rest::k) (Zt op env SB) σ):V P Q mn (one x) b cs nt o (.inRegion ops (i::rest)::k) env σ:=
 λS B H t m e y r=>by
 cases r;exact Goes.step (XN.ok (.inl c)) (.inr ⟨⟨rfl,rfl⟩,.inr (.inr (.inl ⟨s,n,p,a,Go.Conc.G (ο b (put op t (.tuple #[])) (.inRegion ops rest::k)) cs,d,false,g,j,c,⟨rfl,rfl⟩,λw _=>
  ⟨h.step e.Zm (M1 .read _) (M0 .read _ _) (QH I),l S B H _ m (e.put h.dst (.z _)) _ rfl⟩⟩))⟩)
theorem V.v' (c:x.rel=false) {s d n p:Nat} {a:Qd} (g:x.tok s=.par n p a) (j:a≠.ZP) (h:WL P b ops i op f (Extern.Race.marked .write) args env [.pointer (some ⟨s,d,none⟩)] nt) (l:V P Q mn (one x) b cs nt o (.inRegion ops rest::k) (Zt op env SB) σ):V P Q mn (one x) b cs nt o (.inRegion ops (i::rest)::k) env σ:=
 λS B H t m e y r=>by
 cases r;exact Goes.step (XN.ok (.inl c)) (.inr ⟨⟨rfl,rfl⟩,.inr (.inr (.inl ⟨s,n,p,a,Go.Conc.G (ο b (put op t (.tuple #[])) (.inRegion ops rest::k)) cs,d,true,g,j,c,⟨rfl,rfl⟩,λw _=>
  ⟨h.step e.Zm (M1 .write _) (M0 .write _ _) (QH I),l S B H _ m (e.put h.dst (.z _)) _ rfl⟩⟩))⟩)
theorem V.J6 (a:x.rel=false) (hd:x.deaf=0) {s m n:Nat} {sp:Spec} (d:x.spec s=some sp) (e:sp.ZO=some m) (g:x.tok s=.ch n .own .work) (h:WL P b ops i op f (Extern.Race.marked .acquire) args env [.pointer (some ⟨m,0,none⟩)] nt)
  (j:∀(S:μ) (B:Z8) (H:Χ) (t:Array Value) (L:List Nat) (E:Χ),XX o.m o.S o.B o.H o.σ S B H σ->Xw o.m nt S B H σ (Zt op env SB) t->sp.XQ L E->Apart H E->(L.Nodup/\n∉L/\∃w,Fits H w/\Fits E w)->
   Zd P Q mn {x with tok:=upd x.tok s (.ch n (.YJ L) .work),view:=upd x.view s none} (ο b t (.inRegion ops rest::k)) cs (join H E)):V P Q mn (one x) b cs nt o (.inRegion ops (i::rest)::k) env σ:=
 λS B H t l c y p=>by
 cases p;exact Goes.step (XN.ok (.inl a)) (.inr ⟨⟨rfl,rfl⟩,.inr (.inr (.inr (.inr (.inl ⟨s,sp,m,n,Go.Conc.G (ο b (put op t (.tuple #[])) (.inRegion ops rest::k)) cs,d,e,g,hd,⟨rfl,rfl⟩,a,λw _=>
  h.step c.Zm (M1 .acquire _) (M0 .acquire _ _) (QH I),λL E r u v=>j S B H _ L E l (c.put h.dst (.z _)) r u v⟩))))⟩)
theorem V.Hu (a:x.rel=false) (hd:x.deaf=0) {s m n:Nat} {L:List Nat} {sp:Spec} (d:x.spec s=some sp) (e:sp.ZO=some m) (g:x.tok s=.ch n (.YJ L) .work) (h:WL P b ops i op f (Extern.Race.marked .releaseMerge) args env [.pointer (some ⟨m,0,none⟩)] nt)
  (j:∀(S:μ) (B:Z8) (H:Χ) (t:Array Value),XX o.m o.S o.B o.H o.σ S B H σ->Xw o.m nt S B H σ (Zt op env SB) t->∃H' E,Split H H' E/\sp.XQ (L++[n]) E/\
   Zd P Q mn {x with tok:=upd x.tok s (.ch n .fin .work),view:=upd x.view s none} (ο b t (.inRegion ops rest::k)) cs H'):V P Q mn (one x) b cs nt o (.inRegion ops (i::rest)::k) env σ:=
 λS B H t l c y p=>by
 cases p;obtain⟨H',E,r,u,v⟩:=j S B H _ l (c.put h.dst (.z (.tuple #[])));exact Goes.step (XN.ok (.inl a)) (.inr ⟨⟨rfl,rfl⟩,.inr (.inr (.inr (.inr (.inr (.inl ⟨s,sp,m,n,L,Go.Conc.G (ο b (put op t (.tuple #[])) (.inRegion ops rest::k)) cs,H',E,d,e,g,hd,⟨rfl,rfl⟩,a,λw _=>
  h.step c.Zm (M1 .releaseMerge _) (M0 .releaseMerge _ _) (QH I),r,u,v⟩)))))⟩)
theorem V.J5 (j:x.rel=false) (hd:x.deaf=0) {s n:Nat} {d:Qd} {sp:Spec} (p:x.spec s=some sp) (r:x.tok s=.par n 0 d) (u:d=.SV\/d=.w4) (h:WL P b ops i op f (Extern.Race.marked .acquire) args env [.pointer (some ⟨s,0,none⟩)] nt)
  (v:∀(S:μ) (B:Z8) (H:Χ) (t:Array Value) (e g:List Nat) (c a:Χ),XX o.m o.S o.B o.H o.σ S B H σ->Xw o.m nt S B H σ (Zt op env SB) t->
   e.Perm (List.range n)->Ui sp.D e c->(sp.ZO≠none->g.Perm (List.range n)/\sp.XQ g a)->(sp.ZO=none->a=Χ.empty)->Apart H c->Apart H a->Apart c a->(∃w,Fits H w/\Fits c w/\Fits a w)->
   Zd P Q mn {x with tok:=upd x.tok s (.par n 0 .ZP),view:=upd x.view s none} (ο b t (.inRegion ops rest::k)) cs (join (join H c) a)):V P Q mn (one x) b cs nt o (.inRegion ops (i::rest)::k) env σ:=
 λS B H t A l y C=>by
 cases C;exact Goes.step (XN.ok (.inl j)) (.inr ⟨⟨rfl,rfl⟩,.inr (.inr (.inr (.inr (.inr (.inr (.inr (.inl ⟨s,sp,n,d,Go.Conc.G (ο b (put op t (.tuple #[])) (.inRegion ops rest::k)) cs,p,r,u,hd,⟨rfl,rfl⟩,j,λw _=>
  h.step l.Zm (M1 .acquire _) (M0 .acquire _ _) (QH I),λe g c a E F J K L M N O=>v S B H _ e g c a A (l.put h.dst (.z _)) E F J K L M N O⟩)))))))⟩)
theorem V.atomic (A:XN x) {s:Nat} {sp:Spec} (C:x.spec s=some sp) (D:¬W9 (x.tok s)) (hd:WO nt op=true) (E:XK env ops op=some true)
  (h:∀(t:Array Value) (w:World) (φ:Nat) (a:ε),(∀y u,ζ env y=.z u->ZN t y=u)->(∀(as9:Array Operand) (vs:List Value),Lo env as9 vs->as9.map (ZN t)=vs.toArray)->Region.wanted op (yielded ops t)=true->a.toSpec=sp->At s a w->HD x s φ a->Oy a (x.tok s)->
   (∃v w' e,stepG P mn (Go.Conc.G (ο b t (.inRegion ops (i::rest)::k)) cs) w=.go (Go.Conc.G (ο b (put op t v) (.inRegion ops rest::k)) cs) w' e/\Xj (λF _=>X9 s sp F) (λ_=>False) w w'/\Sm s sp x.deaf e/\
    ((At s a w'/\V P Q mn (one {x with view:=upd x.view s (some (φ,a))}) b cs nt o (.inRegion ops rest::k) (Zt op env (.z v)) σ)\/
     ∃o' t',Act a (x.tok s) o' t'/\At s o' w'/\(mayWake P (Go.Conc.G (ο b t (.inRegion ops (i::rest)::k)) cs)=true\/o'=a)/\∀d,d<φ->V P Q mn (one {x with tok:=upd x.tok s t',view:=upd x.view s (some (d,o'))}) b cs nt o (.inRegion ops rest::k) (Zt op env (.z v)) σ))\/
   (U1 a (x.tok s)/\(∀p,p≠s->Tl (x.tok p))/\stepG P mn (Go.Conc.G (ο b t (.inRegion ops (i::rest)::k)) cs) w=.go {Go.Conc.G (ο b t (.inRegion ops (i::rest)::k)) cs with status:=.blocked} w #[])) :
  V P Q mn (one x) b cs nt o (.inRegion ops (i::rest)::k) env σ:=by
 intro S B H t r c y f;cases f;refine Goes.step A.ok (.inr ⟨⟨rfl,rfl⟩,.inr (.inr (.inr (.inl ⟨s,sp,C,D,λw φ a U hv I J K L=>?_⟩)))⟩);rcases h t w φ a (λy u f=>IL c.Zm f) (λas9 vs M=>M.ZN c.Zm) (U0 c.Zm E) I J K L with⟨v,w',e,g,j,l,N⟩|⟨g,j,l⟩
 .refine .inl ?_;rw[g];refine⟨⟨rfl,rfl⟩,j,l,?_⟩;rcases N with⟨m,n⟩|⟨o',t',m,n,O,R⟩
  .exact .inl ⟨m,n S B H _ r (c.put hd (.z _)) _ rfl⟩
  .exact .inr ⟨o',t',m,n,O,λd T=>R d T S B H _ r (c.put hd (.z _)) _ rfl⟩
 .exact .inr ⟨g,j,l⟩
theorem C7 {b h:Nat} {c:Array Value} {k:TypeId} (f:w.heap[b]?=some (.cells c k (0,0))) (v:Value) {j:Nat->Nat->Prop} (l:∀o,j b o):Xj j (λ_=>False) w (w.setCell ⟨b,h,none⟩ v):=by
 have g:=heap_setCell (w:=w) (a:=⟨b,h,none⟩) (v:=v) rfl f
 have m:=Xi f
 have n:(w.setCell ⟨b,h,none⟩ v).os=w.os:=rfl;refine⟨by rw[g];simp,λi c' t' s d=>?_,λi y d p _=>?_,by rw[n];exact OsLater.refl _,rfl,rfl⟩
 .by_cases e:i=b
  .subst e;rw[f] at d;cases d;exact⟨_,by rw[g,Tv m],I,λo' r=>absurd (l o') r⟩
  .exact⟨c',by rw[g,UR (YR e)];exact d,rfl,λ_ _=>rfl⟩
 .have e:b≠i:=λe=>by subst e;rw[f] at d;cases d;cases p
  rw[g,UR e];exact d
section
variable {s m:Nat} {Xl o':ε}
theorem At.ne (h:At s Xl w) (b:Xl.ZO=some m):m≠s:=λe=>by
 obtain⟨⟨f,c⟩,d⟩:=h;obtain⟨g,a⟩:=d m b;subst e;rw[c] at a;simp at a
theorem At.mu (h:At s Xl w) (a:Xl.ZO=some m):∃b,w.heap[m]?=some (.cells #[.int .i32 (mwd Xl),.int .u32 Xl.YE] b (0,0)):=h.2 m a
theorem At.Rt (h:At s Xl w) (a:Xl.ZO=some m):w.cell? ⟨m,0,none⟩=some (.int .i32 (mwd Xl)):=let ⟨_,b⟩:=h.mu a;SX b rfl
theorem At.C6 (h:At s Xl w) (a:Xl.ZO=some m):w.cell? ⟨m,1,none⟩=some (.int .u32 Xl.YE):=let ⟨_,b⟩:=h.mu a;SX b rfl
theorem At.Tk (h:At s Xl w):w.cell? ⟨s,0,none⟩=some (.int .u64 (Y0 Xl)):=let ⟨_,a⟩:=h.1;SX a rfl
theorem At.II (h:At s Xl w):w.cell? ⟨s,1,none⟩=some (.int .u32 Xl.YV):=let ⟨_,a⟩:=h.1;SX a rfl
theorem C5 {a b:Nat} {c:Array Value} {d:TypeId} (e:w.heap[a]?=some (.cells c d (0,0))):w.frozen? ⟨a,b,none⟩=false:=by
 simp[World.frozen?,e]
theorem At.MZ (h:At s Xl w) (a:Xl.ZO=some m) (b:Nat):w.frozen? ⟨m,b,none⟩=false:=let ⟨_,c⟩:=h.mu a;C5 c
theorem At.O7 (h:At s Xl w) (a:Nat):w.frozen? ⟨s,a,none⟩=false:=let ⟨_,b⟩:=h.1;C5 b
theorem At.IH (h:At s Xl w) (b:Xl.ZO=some m) (g:o'.ZO=Xl.ZO) (i:Y0 o'=Y0 Xl) (j:o'.YV=Xl.YV) {c:Nat} {v:Value} (hv:(#[.int .i32 (mwd Xl),.int .u32 Xl.YE]:Array Value).setIfInBounds c v=#[.int .i32 (mwd o'),.int .u32 o'.YE]):At s o' (w.setCell ⟨m,c,none⟩ v):=by
 have k:=h.ne b;obtain⟨l,d⟩:=h.mu b;obtain⟨⟨n,o⟩,p⟩:=h;have e:=heap_setCell (w:=w) (a:=⟨m,c,none⟩) (v:=v) rfl d;refine⟨⟨n,?_⟩,λr f=>⟨l,?_⟩⟩
 .rw[e,UR k,i,j];exact o
 .rw[g,b] at f;cases f;rw[e,Tv (Xi d),hv]
theorem At.MY (h:At s Xl w) (g:o'.ZO=Xl.ZO) (i:mwd o'=mwd Xl) (j:o'.YE=Xl.YE) {b:Nat} {v:Value} (hv:(#[.int .u64 (Y0 Xl),.int .u32 Xl.YV]:Array Value).setIfInBounds b v=#[.int .u64 (Y0 o'),.int .u32 o'.YV]):At s o' (w.setCell ⟨s,b,none⟩ v):=by
 have k:=λm l=>h.ne (m:=m) l;obtain⟨⟨n,d⟩,o⟩:=h;have e:=heap_setCell (w:=w) (a:=⟨s,b,none⟩) (v:=v) rfl d;refine⟨⟨n,?_⟩,λf c=>?_⟩
 .rw[e,Tv (Xi d),hv]
 .rw[g] at c;obtain⟨p,r⟩:=o f c;exact⟨p,by rw[e,UR (YR (k f c)),i,j];exact r⟩
theorem At.IG (h:At s Xl w) (a:Xl.ZO=some m) {sp:Spec} (b:sp.ZO=some m) {c:Nat} (v:Value):Xj (λd _=>X9 s sp d) (λ_=>False) w (w.setCell ⟨m,c,none⟩ v):=
 let ⟨_,e⟩:=h.mu a;C7 e v λ_=>.inr b
theorem At.MX (h:At s Xl w) {sp:Spec} {a:Nat} (v:Value):Xj (λb _=>X9 s sp b) (λ_=>False) w (w.setCell ⟨s,a,none⟩ v):=
 let ⟨_,c⟩:=h.1;C7 c v λ_=>.inl rfl
end
theorem C4 {s d:Nat} {sp:Spec}:Sm s sp d #[]:=⟨rfl,λj e h=>by simp at h⟩
theorem QG {s b e d:Nat} {sp:Spec} {es:Array Event} (i:X9 s sp b) (hd:0<d) (f:∀y∈es,y.loc=.cell ⟨b,e,none⟩/\y.sync=true):Sm s sp d es:=by
 have g:∀(es:Array Event),(∀y∈es,y.loc=.cell ⟨b,e,none⟩/\y.sync=true)->deafBehind d es=d:=by
  intro es;obtain⟨l⟩:=es;intro h;unfold deafBehind;simp only[List.foldl_toArray']
  induction l with
  | nil=>rfl
  | cons y l k=>
   simp only[List.foldl_cons];have:=h y I;rw[this.1];exact k λz a=>h z (by simp at a ⊢;exact .inr a)
 refine⟨g es f,λj y m=>.inr (.inr ⟨b,e,y.write,?_,i,?_⟩)⟩
 .have:=f y (Array.mem_of_getElem? m);obtain⟨l,w1,n⟩:=y;simp only at this;rw[this.1,this.2]
 .rw[g]
  .exact hd
  .intro z a;exact f z (by
    rw[KD] at a ⊢;obtain⟨q,c⟩:=a;rw[Array.getElem?_extract] at c;split at c
    .exact⟨_,c⟩
    .cases c)
end
end Go.TL
