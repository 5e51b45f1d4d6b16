import Derived.Test.YtkndbcflmgogjaaGreatTAL
set_option linter.defProp false
set_option maxHeartbeats 16000000
set_option maxRecDepth 20000
set_option linter.unusedSectionVars false
set_option linter.unusedSimpArgs false
set_option linter.unusedVariables false
namespace Go.TL
open Go.IntWalk (i64_in)
open Go.IntKind (i64 u8)
open Go.Proofs.Tryz
open Go.Sort (choosePivot insertionSort ltInt median order2 partEqLoop partEqLoop_eq partLoop partLoop_eq partition partitionEqual scanDown scanUp swp)
open Go.Proofs
variable[Z8]
def YO.up{h j r}(b:YO h r)(d:h<=j):YO j r:=by
 cases r with
 | cells t k l=>exact λe f a g=>(b e f a g).mono d
 | map es=>exact λe f=>⟨(b e f).1.mono d,(b e f).2.mono d⟩
 | iter m left n=>exact⟨J7 b.1 d,λe f=>⟨(b.2.1 e f).1.mono d,(b.2.1 e f).2.mono d⟩,λe f=>⟨(b.2.2 e f).1.mono d,(b.2.2 e f).2.mono d⟩⟩
 | str s p=>trivial
 | loop L o u a bd nt env=>exact λi=>(b i).mono d
 | own c v l=>exact λa g=>(b a g).mono d
 | dead=>trivial
def U6(l:List Xt)(c:UInt8):Xt:=(l.find? λb=>decide (b.Ya=Xs c)).getD ⟨⟨#[]⟩,0,0⟩
def Cz(g:ZN)(f:ψ):ψ:=(f.length+1)*g.X'::(UL g f).data.toList.map λc=>(U6 g.ZV c).lo
def Cy(g:ZN)(f:ψ):ψ:=(f.length+1)*g.XX::(UL g f).data.toList.map λc=>(U6 g.ZV c).hi
def W7(g:ZN)(f:ψ):Int×Int:=(Xm (Cz g f),Xm (Cy g f))
def Cx{l c}(h:UN l c=true):∃i:Nat,idxOf (λb=>decide (b.Ya=Xs c)) l=i/\∃hi,l[i]=U6 l c:=by
 let ⟨p,d⟩:=ν (λb=>decide (b.Ya=Xs c):Xt->Bool);unfold UN at h;unfold U6;rw[<-d]at h ⊢;clear d
 induction l with
 | nil=>simp at h
 | cons b l g=>
  cases a:p b with
  | true=>exact⟨0,by simp[idxOf,a,List.findIdx_cons],o,by simp[a]⟩
  | false=>
   have e:l.any p=true:=by simpa[a] using h
   let ⟨i,f,j,k⟩:=g e;exact⟨i+1,by
    unfold idxOf at f ⊢;rw[if_pos e]at f;rw[if_pos (by simpa using h),List.findIdx_cons,a];simp[cond_false];omega,by simpa using j,by simpa[a] using k⟩
def IA:∀l,(W9 ⟨#[]⟩ l).data.toList=l.flatMap λw=>w.data.toList
 | []=>rfl
 | [x]=>by simp[W9]
 | x::y::r=>by
  rw[x9];have:=IA (y::r);simp[this]
def Cw{g f}(a:Wn g f){c}(h:c∈(UL g f).data.toList):∃w∈g.words,c∈w.data.toList:=by
 unfold UL at h;rw[IA]at h;let ⟨w,b,d⟩:=MQ.1 h;obtain⟨n,e,rfl⟩:=ZG.1 b;exact⟨_,Fy (a.has n e),d⟩
def xR{w}(a:X0 w=true){c}(h:c∈w.data.toList):97<=c.toNat/\c.toNat<=122:=by
 obtain⟨p,b,rfl⟩:=CG h;have:=(Kj.1 a).1 p b;simpa[UO] using this
def xQ{g}(a:∀w∈g.words,X0 w=true){f}(b:Wn g f){p}(c:p<(UL g f).size):UO (UL g f) p=true:=by
 let ⟨w,d,e⟩:=Cw b (get_mem c)
 have:=xR (a w d) e;simp[UO,this]
def Fv{g}(c:∀w∈g.words,X0 w=true){f}(a:Wn g f):(UL g f).size<=18:=by
 have d:∀l,(∀x∈l,x.size<=6)->(W9 ⟨#[]⟩ l).data.toList.length<=6*l.length:=by
  intro l b;rw[IA]
  induction l with
  | nil=>simp
  | cons x l e=>
   have m:=b x o
   have n:=e λy i=>b y (by simp[i])
   have j:x.data.toList.length=x.size:=o;simp only[J5,VH,List.length_cons];omega
 have h:=d (XR g f) λx k=>(IG c a x k).2
 have j:=a.Yf
 have p:(XR g f).length=f.length:=by unfold XR;simp
 have r:(W9 ⟨#[]⟩ (XR g f)).data.toList.length=(UL g f).size:=by unfold UL;simp
 omega
def mM(b){c}(h:c.toNat<128):Μ prog 87 [SQ b,.Κ [.z (.int .i32 c.toNat)]] (ZU (decide (b.Ya=Xs c))):=by
 apply Ν.body Τ func87 U U ntmps87 U U o;have e:=x1 h;refine γ e ?_;refine W.rt ?_;have Υ:(b.Ya.toList==[c])=decide (b.Ya=Xs c):=by
  have:=OU b.Ya (Xs c);rw[Kk (Xs c)]at this;exact this
 exact .of (by simp[Υ])
def Cv(g P C)(Y:∀w∈g.words,X0 w=true)(au:∀w∈g.words,∀c∈w.data.toList,UN g.ZV c=true)(M:(0<=g.X'/\g.X'<=9)/\0<=g.XX/\g.XX<=9)(av:∀b∈g.ZV,(0<=b.lo/\b.lo<=9)/\0<=b.hi/\b.hi<=9)(aY:g.ZV.length<=12)
  (f) (O:Wn g f):Μ prog 36 [Vj g P C,δ I 1 f] (.Z' [I (W7 g f).1,I (W7 g f).2]):=by
 have aZ:=O.Yf;apply Ν.body Τ func36 U U ntmps36 U U o
 repeat apply Ζ
 refine ZB (A:=[4]) Τ λQ m=>ς ?_;apply m
 repeat apply Ζ
 refine W.draw (A:=[]) Τ mixed λQ m=>?_;simp;(repeat (rw[Y3];simp));try rw[YL]
 let ⟨u,Z⟩:=ν ((f.length+1)*g.X')
 let ⟨y,aa⟩:=ν ((f.length+1)*g.XX)
 have a0:0<=u/\u<=36:=by
  rw[Z];exact⟨Int.mul_nonneg J M.1.1,J3 (Int.mul_le_mul (show(f.length:Int)+1<=4 by omega) M.1.2 M.1.1 J) θ⟩
 have a1:0<=y/\y<=36:=by
  rw[aa];exact⟨Int.mul_nonneg J M.2.1,J3 (Int.mul_le_mul (show(f.length:Int)+1<=4 by omega) M.2.2 M.2.1 J) θ⟩
 have aw:i64.wrap ((f.length:Int)+1)=(f.length:Int)+1:=i64_in _ J
 have Υ:i64.wrap (((f.length:Int)+1)*g.X')=u:=by rw[<-Z];exact i64_in _ J
 have ax:i64.wrap (((f.length:Int)+1)*g.XX)=y:=by rw[<-aa];exact i64_in _ J
 rw[aw,Υ,ax];refine X5 (m _ _ ?_);let ⟨t,R⟩:=ν (UL g f);have aj:∀p,p<t.size->UO t p=true:=λp k=>by rw[R]at k ⊢;exact xQ Y O k
 have a2:t.size<=18:=by rw[R];exact Fv Y O
 have ak:∀p,p<t.size->UN g.ZV (t.get! p)=true:=λp k=>by
  rw[R]at k ⊢;let ⟨w,ay,F⟩:=Cw O (get_mem k);exact au w ay _ F
 obtain⟨lo,H⟩:∃lo:Nat->ψ,∀p,lo p=u::(t.data.toList.take p).map λc=>(U6 g.ZV c).lo:=⟨_,λ_=>rfl⟩;obtain⟨hi,K⟩:∃hi:Nat->ψ,∀p,hi p=y::(t.data.toList.take p).map λc=>(U6 g.ZV c).hi:=⟨_,λ_=>rfl⟩;have a3:t.data.toList.length=t.size:=o;have ab:∀p,p<=t.size->(lo p).length=p+1:=λp k=>by rw[H];simp;omega
 have ad:∀p,p<=t.size->(hi p).length=p+1:=λp k=>by rw[K];simp;omega
 refine ο λQ m=>?_;refine Μ.d (CE g P C Y f O) (ς ?_);rw[<-R];apply m
 repeat apply Ζ
 obtain⟨B,S⟩:∃B:Nat->Ψ,∀p,B p=if p=0 then .sl true 1 [I u] else .ms 2 (p+1) 0 (p+1):=⟨_,λ_=>rfl⟩
 obtain⟨D,T⟩:∃D:Nat->Ψ,∀p,D p=if p=0 then .sl true 1 [I y] else .ms 3 (p+1) 0 (p+1):=⟨_,λ_=>rfl⟩
 obtain⟨l,L⟩:∃l:Nat->Ρ,∀p,l p=if p=0 then [] else [.cells 3 1 ((lo p).map I),.cells 3 1 ((hi p).map I)]:=⟨_,λ_=>rfl⟩
 refine W.iter (λp=>p<=t.size) (λp=>[(2,.Κ (Yl g P C)),(4,.Ο 0 1 0 0),(5,B p),(6,D p),(31,.it 1)]) (λp=>.cells 29 2 [.Z' [I 0,I 0]]::.str t p::l p) (λp=>t.size-p) 0 (Γ _) (by simp[L]) (by simp[S,T]) (λp k az=>?_);by_cases E:p<t.size
 .have hd:=IK (aj p E)
  have aA:=aj p E;simp only[UO,U2,decide_eq_true_eq]at aA;have al:(t.get! p).toNat<128:=J;have am:=ak p E;let ⟨c,ae⟩:=ν (t.get! p);have af:lo (p+1)=lo p++[(U6 g.ZV c).lo]:=by
   rw[H,H,Ws J,WT];have:t.data.toList[p]=c:=by
    rw[ae];show _=t.data[p]!;rw[getElem!_pos t.data p (by simpa using E)];simp
   simp[this]
  have ag:hi (p+1)=hi p++[(U6 g.ZV c).hi]:=by
   rw[K,K,Ws J,WT];have:t.data.toList[p]=c:=by
    rw[ae];show _=t.data[p]!;rw[getElem!_pos t.data p (by simpa using E)];simp
   simp[this]
  have aB:=ab p k
  have aC:=ad p k;rw[<-ae]at hd al am;let ⟨i,aD,an,aE⟩:=Cx am;have ao:∀h,g.ZV[i]=U6 g.ZV c:=λ_=>aE;refine γ E ?_;apply Β U;rw[hd]
  repeat apply Ζ
  refine ZB (A:=[8]) Τ λQ m=>ς ?_;apply m;have aF:∀r∈l p,YO 2 r:=by
   rw[L];split
   .simp
   intro r n;simp at n;rcases n with rfl|rfl<;>simp[YO]
  have X:ω ((l p).length+1+1) (B p)/\ω ((l p).length+1+1) (D p):=by
   rw[S,T,L];split<;>simp[S2]
  have a4:2<=(l p).length+1+1:=J;refine W.to (σ':=(.cells 29 2 [.Z' [I 0,I 0]]::.str t (p+1)::l p)++[.cells 21 1 [.z (.int .i32 c.toNat)]]) (env':=[(8,.Ο ((l p).length+1+1) 1 0 0),(2,.Κ (Yl g P C)),(4,.Ο 0 1 0 0),(5,B p),(6,D p),(31,.it 1)]) ?_ o o;apply W.Rp (σ0:=.cells 29 2 [.Z' [I 0,I 0]]::.str t (p+1)::l p) (Γ _) (λr n=>by
   simp at n;rcases n with rfl|rfl|n
   .simp[YO]
   .simp[YO]
   .exact(aF r n).up o) o [(8,.Κ [.z (.int .i32 c.toNat)]),(2,.Κ (Yl g P C)),(4,.Ο 0 1 0 0),(5,B p),(6,D p),(31,.it 1)] (λz j=>by
   simp at j;rcases j with rfl|rfl|rfl|rfl|rfl|rfl
   .exact .inr ⟨o,U⟩
   .exact .inl ⟨U,o⟩
   .exact .inl ⟨U,by simp[S3]⟩
   .exact .inl ⟨U,X.1⟩
   .exact .inl ⟨U,X.2⟩
   exact .inl ⟨U,by simp[Eh]⟩)
  have ap:=x2 g.ZV (.fn (.func 87) [] [.Κ [.z (.int .i32 c.toNat)]]) (λb=>decide (b.Ya=Xs c)) J (by simp[Su]) (λx _=>λ_=>(mM x al).cc (by simp;exact ZJ.refl _) o o ⟨U,U⟩);rw[aD]at ap;refine ο λQ m=>?_;refine Μ.d (ap) (ς ?_);apply m
  repeat apply Ζ
  refine W.yT (A:=[50,61]) Τ mixed [(2,.Κ (Yl g P C)),(4,.Ο 0 1 0 0),(5,B (p+1)),(6,D (p+1)),(31,.it 1)] (.cells 29 2 [.Z' [I 0,I 0]]::.str t (p+1)::l (p+1)) ?_ (by
   rw[S,S,T,T,L,L,if_neg (Nat.succ_ne_zero p),if_neg (Nat.succ_ne_zero p),if_neg (Nat.succ_ne_zero p)];by_cases aq:p=0
   .subst aq;have aG:lo 0=[u]:=by rw[H];simp
    have aH:hi 0=[y]:=by rw[K];simp
    rw[aG]at af;rw[aH]at ag;rw[af,ag];simp only[if_true];simp;(repeat (rw[Y3];simp[an,ao]));(try rw[YL]);refine⟨UW XL,?_⟩;simp
   rw[af,ag];simp only[aq,if_false];simp;(repeat (rw[Y3];simp[an,ao,aB,aC]));(try rw[YL]);refine⟨J,UW XL,?_⟩;simp)
  refine Χ ?_;refine W.to (az (p+1) E J) U o
 have aI:p=t.size:=J
 subst aI;refine γ E ?_;apply Δ U;apply W.exit U
 repeat apply Ζ
 let ⟨σ,N⟩:=ν (.cells 29 2 [.Z' [I 0,I 0]]::.str t t.size::l t.size:Ρ)
 have aJ:∃v,Yx 1 σ (B t.size) v/\Yw v (δ I 1 (lo t.size))/\ω 0 v:=by
  rw[S,N,L];by_cases j:t.size=0
  .rw[if_pos j,if_pos j];have ah:ω 1 (.sl true 1 [I u]):=o;refine⟨.sl true 1 [I u],.low ah,?_,o⟩;rw[H,j];exact .ex
  rw[if_neg j,if_neg j];exact⟨_,Yx.own (id:=2) (t:=3) J U (by simp;exact ab _ (Z3 _)) (λe ai a V=>by
   obtain⟨x,_,rfl⟩:=ZG.1 ai;simp[Ψ.cells]at V;subst V;simp),.refl _,o⟩
 have aK:∃v,Yx 1 σ (D t.size) v/\Yw v (δ I 1 (hi t.size))/\ω 0 v:=by
  rw[T,N,L];by_cases j:t.size=0
  .rw[if_pos j,if_pos j];have ah:ω 1 (.sl true 1 [I y]):=o;refine⟨.sl true 1 [I y],.low ah,?_,o⟩;rw[K,j];exact .ex
  rw[if_neg j,if_neg j];exact⟨_,Yx.own (id:=3) (t:=3) J U (by simp;exact ad _ (Z3 _)) (λe ai a V=>by
   obtain⟨x,_,rfl⟩:=ZG.1 ai;simp[Ψ.cells]at V;subst V;simp),.refl _,o⟩
 let ⟨aL,l1,l2,aM⟩:=aJ
 let ⟨aN,aO,aP,aQ⟩:=aK;rw[<-N];apply W.cut 1 (Γ _) [(4,.Ο 0 1 0 0),(5,aL),(6,aN)] (by rw[N];simp) (λid r a5 n=>by
  have:id=0:=J;subst this;rw[N]at n;simp at n;subst n;simp[YO]) (λz j=>by
  simp at j;rcases j with rfl|rfl|rfl
  .exact .low (by simp[S3])
  .exact l1
  exact aO)
 have aR:σ.take 1=[.cells 29 2 [.Z' [I 0,I 0]]]:=by rw[N];rfl
 rw[aR];have aS:W7 g f=(Xm (lo t.size),Xm (hi t.size)):=by
  unfold W7 Cz Cy;rw[H,K,Wl J,<-R,<-Z,<-aa]
 have ar:∀c∈t.data.toList,(0<=(U6 g.ZV c).lo/\(U6 g.ZV c).lo<=9)/\0<=(U6 g.ZV c).hi/\(U6 g.ZV c).hi<=9:=λc F=>by
  obtain⟨p,k,rfl⟩:=CG F;let ⟨i,_,aT,aU⟩:=Cx (ak p k);rw[<-aU];exact av _ (YW aT)
 have X:∀x∈lo t.size,0<=x/\x<2 ^ 20:=λx s=>by
  rw[H]at s;rcases YU.1 s with rfl|s
  .omega
  obtain⟨c,F,rfl⟩:=ZG.1 s;have:=ar c (MU F);omega
 have aV:∀x∈hi t.size,0<=x/\x<2 ^ 20:=λx s=>by
  rw[K]at s;rcases YU.1 s with rfl|s
  .omega
  obtain⟨c,F,rfl⟩:=ZG.1 s;have:=ar c (MU F);omega
 have aW:=xZ (lo t.size) (by rw[ab _ (Z3 _)];omega) X
 have aX:=xZ (hi t.size) (by rw[ad _ (Z3 _)];omega) aV;rw[aS];refine ο λQ m=>?_;apply Μ.c aW (.cons l2 .nil) (by simp[aM]) o;simp;(repeat (rw[Ι];simp));apply Μ.c aX (.cons aP .nil) (by simp[aQ]) o;simp;(repeat (rw[Ι];simp));apply m;apply W.Rp (σ0:=[]) (Γ _) o o [(4,.Κ [I (Xm (lo t.size)),I (Xm (hi t.size))])] o;refine Χ ?_;refine W.rt ?_;exact .of U
def mL(l:ψ)(n:Int)(g:l.length<2 ^ 62):Μ prog 101 [δ I 1 l,I n] (I (idxOf (·==n) l)):=by
 refine Ν.body Τ func101 U U ntmps101 U U o ?_;refine Χ ?_;refine W.iter (λi:Nat=>i<=l.length/\∀j,j<i->(h:j<l.length)->(l[j]==n)=false) (λi=>[(0,δ I 1 l),(1,I n),(6,δ I 1 l),(7,I l.length),(8,I i)]) (λ_=>[]) (λi=>l.length-i) 0 ⟨Γ _,λj b=>J⟩ U o (λi hi k=>?_);refine Χ ?_;refine W.YD U (λa=>?_) (λa=>?_)
 .have a:i<l.length:=by simpa using a
  refine γ a ?_;refine W.YD U (λc=>?_) (λc=>?_)
  .have d:n=l[i]:=by simpa using c
   refine Χ ?_;rw[L5 a (by simp[d]) hi.2];refine W.rt ?_;exact .of U
  have d:¬n=l[i]:=by simpa using c
  have f:=YR a g;refine γ f ?_;refine W.to (k (i+1) ⟨J,λj b h=>?_⟩ J) U (by simp[f]);by_cases e:j=i
  .subst e;simpa using λx=>d x.symm
  exact hi.2 j J h
 have a:l.length<=i:=by simpa using a
 refine W.exit U ?_;refine Χ ?_;rw[L4 λj b=>hi.2 j J b];refine W.rt ?_;exact .of U
def mK(l:ψ)(n:Int)(a:l.length<2 ^ 62):Μ prog 56 [δ I 1 l,I n] (ZU (l.any (·==n))):=by
 refine Ν.body Τ func56 U U ntmps56 U U o ?_;refine Χ ?_;refine ο λc b=>?_;refine Μ.d (mL l n a) (ς ?_);apply b;refine Χ ?_;refine W.Y0 ?_;rw[<-L3 (p:=(·==n))];rfl
def mJ(a b:List ByteArray)(k:a.length<2 ^ 62):Μ prog 136 [Zb a,Zb b] (ZU (decide (a=b))):=by
 refine Ν.body Τ func136 U U ntmps136 U U o ?_;refine Χ ?_;by_cases l:a.length=b.length
 case neg=>
  refine Β (by simp;omega) ?_;refine Χ ?_;refine W.Y0 ?_;simp[show ¬a=b from λh=>l (by rw[h])]
 refine Δ (by simp;omega) ?_;refine Χ ?_;refine W.iter (λi:Nat=>i<=a.length/\∀j,j<i->a[j]?=b[j]?) (λi=>[(0,Zb a),(1,Zb b),(12,I a.length),(13,I i)]) (λ_=>[]) (λi=>a.length-i) 0 ⟨Γ _,λj d=>J⟩ U o (λi hi m=>?_);obtain⟨n,f⟩:=hi;refine Χ ?_;refine W.YD U (λc=>?_) (λc=>?_)
 .have c:i<a.length:=by simpa using c
  have g:i<b.length:=J;refine Χ ?_;refine VB (Ξ c g) ?_;by_cases q:a[i]=b[i]
  .refine Δ (by simp[OU,q]) ?_;refine Χ ?_;refine W.forget _ ?_ (m (i+1) ⟨c,λj d=>?_⟩ J)
   .simp[YR c k]
   by_cases e:j=i
   .subst e;rw[ξ c,ξ g,q]
   exact f j J
  refine Β (by simp[OU,q]) ?_;refine Χ ?_;refine W.Y0 ?_;simp[show ¬a=b from λh=>q (by simp[h])]
 have c:a.length<=i:=by simpa using c
 refine W.exit U ?_;refine Χ ?_;have:a=b:=T6 λj=>by
  by_cases d:j<i
  .exact f j d
  rw[Wk J,Wk J]
 refine W.Y0 ?_;simp[this]
def mI(a:Xb)(t:ByteArray)(i:Nat)(hi:i<t.size)(j:t.size<2 ^ 40):Μ prog 176 [X4 a,.Κ [ZQ t],.Κ [I i]] (ZU (decide (a.name=Xs (t.get! i)))):=by
 refine Ν.body Τ func176 U U ntmps176 U U o ?_;have b:i64.wrap ((i:Int)+1)=(i:Int)+1:=i64_in _ J;have Υ:((i:Int)+1).toNat=i+1:=J;have c:t.extract i (i+1)=Xs (t.get! i):=by
  refine FA ?_;have hd:i<t.data.size:=hi;have d:(t.extract i (i+1)).data=t.data.extract i (i+1):=o;rw[d];have e:t.get! i=t.data[i]:=getElem!_pos t.data i hd;rw[e];simp[List.take_one,List.head?_drop,ξ (show i<t.data.toList.length by simpa using hd)]
 have f:(a.name.toList==[t.get! i])=decide (a.name=Xs (t.get! i)):=by
  have:=OU a.name (Xs (t.get! i));rw[Kk (Xs (t.get! i))]at this;exact this
 have g:(i:Int)+1<=t.size:=J;refine Χ ?_;refine W.draw (A:=[]) Τ mixed λk h=>?_;simp;(repeat (rw[Y3];simp[b,Υ,c,g]));try rw[YL]
 refine⟨J,?_⟩;refine X5 (h _ _ ?_);refine W.Y0 ?_;simp[f]
def NX(g:ZN)(t:ByteArray)(i:Nat):Int:=if t.size<=i then -1 else
 if idxOf (λa:Xb=>decide (a.name=Xs (t.get! i))) g.Zz.Z2<0 then -2 else idxOf (λa:Xb=>decide (a.name=Xs (t.get! i))) g.Zz.Z2
def mH(g:ZN)(P:List (List ZM))(C:List (ψ))(c:g.Zz.small)(t:ByteArray)(i:Nat)(e:t.size<2 ^ 40):Μ prog 137 [Vj g P C,ZQ t,I i] (I (NX g t i)):=by
 refine Ν.body Τ func137 U U ntmps137 U U o ?_;refine Χ ?_;by_cases hi:t.size<=i
 .refine Β (by simp;omega) ?_;refine Χ ?_;rw[show NX g t i=-1 from if_pos hi];refine W.rt ?_;exact .of U
 refine Δ (by simp;omega) ?_;have f:NX g t i=if idxOf (λa:Xb=>decide (a.name=Xs (t.get! i))) g.Zz.Z2<0 then -2 else idxOf (λa:Xb=>decide (a.name=Xs (t.get! i))) g.Zz.Z2:=if_neg hi
 rw[f];have h:=Ao g.Zz.Z2 (.fn (.func 176) [] [.Κ [ZQ t],.Κ [I i]]) (λa=>decide (a.name=Xs (t.get! i))) (by have:=c.1;omega) (by simp[Su]) (λx _=>λ_=>(mI x t i J e).cc (by simp;exact ZJ.refl _) o o ⟨U,U⟩);refine ο λk j=>?_;refine Μ.d (h) (ς ?_);apply j;generalize idxOf (λa:Xb=>decide (a.name=Xs (t.get! i))) g.Zz.Z2=x;refine Χ ?_;by_cases b:x<0
 .refine Β (by simp[b]) ?_;refine Χ ?_;rw[if_pos b];refine W.rt ?_;exact .of U
 refine Δ (by simp[b]) ?_;refine Χ ?_;rw[if_neg b];refine W.rt ?_;exact .of U
def Qn(g:ZN)(C:List (ψ))(f:ψ):Bool:=(List.range C.length).all λi=>((C[i]?).getD []).any (·==NX g (UL g f) i)
def mG(g:ZN)(P:List (List ZM))(C:List (ψ))(m:∀w∈g.words,X0 w=true)(r:g.Zz.small)(y:C.length<2 ^ 40)(s:∀l∈C,l.length<2 ^ 40)(f:ψ)(n:Wn g f) :
  Μ prog 82 [Vj g P C,δ I 1 f] (ZU (Qn g C f)):=by
 have u:=Fv m n;refine Ν.body Τ func82 U U ntmps82 U U o ?_;refine Χ ?_;refine ο λv c=>?_;refine Μ.d (CE g P C m f n) (ς ?_);apply c;unfold Qn;generalize UL g f=t at u ⊢;refine Χ ?_;refine W.iter (λi:Nat=>i<=C.length/\∀j,j<i->(((C[j]?).getD []).any (·==NX g t j))=true) (λi=>[(2,.Κ (Yl g P C)),(5,ZQ t),(12,Yv C),(13,I C.length),(14,I i)]) (λ_=>[]) (λi=>C.length-i) 0 ⟨Γ _,λj k=>J⟩ U o (λi hi x=>?_);refine Χ ?_;refine W.YD U (λa=>?_) (λa=>?_)
 .have a:i<C.length:=by simpa using a
  have p:(C[i]?).getD []=C[i]:=by rw[ξ a];rfl
  refine γ a ?_;refine ο λv c=>?_;refine Μ.d (mH g P C r t i J) (ς ?_);refine Μ.d (mK C[i] (NX g t i) (by have:=s _ (YW a);omega)) (ς ?_);apply c;cases b:C[i].any (·==NX g t i) with
  | true=>
   refine Δ (by simp[b]) ?_;refine Χ ?_;refine W.to (x (i+1) ⟨a,λj k=>?_⟩ J) U (by simp[YR a (show C.length<2 ^ 62 by omega)]);by_cases e:j=i
   .subst e;rw[p];exact b
   exact hi.2 j J
  | false=>
   refine Β (by simp[b]) ?_;refine Χ ?_;have e:((List.range C.length).all λi=>((C[i]?).getD []).any (·==NX g t i))=false:=by
    rw[H8];intro h;have:=Xk.1 h i (by simpa using a);rw[p,b]at this;cases this
   rw[e];refine W.rt ?_;exact .of U
 have a:C.length<=i:=by simpa using a
 refine W.exit U ?_;refine Χ ?_;have e:((List.range C.length).all λi=>((C[i]?).getD []).any (·==NX g t i))=true:=Xk.2 λj k=>hi.2 j (by simp at k;omega);rw[e];refine W.rt ?_;exact .of U
def mF(p:ZM)(w:List ByteArray):Μ prog 135 [Ym p,.Κ [Zb w]] (ZU (decide (p.1=w))):=by
 refine Ν.body Τ func135 U U ntmps135 U U o ?_;have b:=p.2;refine Χ ?_;refine ο λd a=>?_;refine Μ.c (mJ p.1 w J) (.cons .ex (.cons (.refl _) .nil)) o o ?_;simp;(repeat (rw[Ι];simp));apply a;refine Χ ?_;refine W.rt ?_;exact .of U
def SO(w:List ByteArray)(l:List ZM):Bool:=l.isEmpty||l.any λp=>decide (p.1=w)
def toldOf(g:ZN)(P:List (List ZM))(f:ψ):Bool:=P.all (SO (XR g f))
def mE(g:ZN)(P:List (List ZM))(C:List (ψ))(O:P.length<2 ^ 40)(B:∀l∈P,l.length<2 ^ 40)(f:ψ)(D:Wn g f) :
  Μ prog 81 [Vj g P C,δ I 1 f] (ZU (toldOf g P f)):=by
 refine Ν.body Τ func81 U U ntmps81 U U o ?_;refine Χ ?_;refine ZA ?_;refine ZB (A:=[5]) Τ λs b=>ς ?_;refine Μ.d (CF g P C f D) (ς ?_);apply b;unfold toldOf;generalize XR g f=w;refine W.Rp (σ0:=[]) (Γ _) o o [(2,.Κ (Yl g P C)),(5,.Κ [Zb w])] o ?_;refine Χ ?_;have Q:∀i,i<P.length->∀l,P[i]?=some l->l∈P:=λi _ l h=>ZD h;refine W.iter (λi:Nat=>i<=P.length/\∀j,j<i->∀h:j<P.length,SO w P[j]=true) (λi=>[(2,.Κ (Yl g P C)),(5,.Κ [Zb w]),(12,UM P),(13,I P.length),(14,I i)]) (λ_=>[]) (λi=>P.length-i) 0 ⟨Γ _,λj m=>J⟩ U o (λi hi t=>?_);refine Χ ?_;refine W.YD U (λa=>?_) (λa=>?_)
 .have a:i<P.length:=by simpa using a
  have n:SO w P[i]=true->∀j,j<i+1->∀h:j<P.length,SO w P[j]=true:=λE j m h=>by
   by_cases e:j=i
   .subst e;exact E
   exact hi.2 j J h
  have u:SO w P[i]=false->P.all (SO w)=false:=λh=>by
   rw[H8];intro F;rw[Xk.1 F _ (YW a)]at h;cases h
  have H:=B _ (YW a);obtain⟨l,c⟩:=ν (P[i]);have K:∀h:i<P.length,P[i]=l:=λ_=>c.symm;rw[<-c]at n u H;clear c;refine γ (Ξ a K) ?_;by_cases k:l=[]
  .have r:SO w l=true:=by rw[k];rfl
   have L:¬(0:Int)<l.length:=by rw[k];simp
   refine YC (Ξ L k) λs b=>?_;apply b;refine Δ U ?_;refine Χ ?_;refine W.to (t (i+1) ⟨a,n r⟩ J) U (by simp[YR a (show P.length<2 ^ 62 by omega)])
  have M:(0:Int)<l.length:=by have:=MT.2 k;omega
  have N:0<l.length:=J
  have r:SO w l=l.any λp=>decide (p.1=w):=by
   unfold SO;have:l.isEmpty=false:=by simpa using k
   rw[this];rfl
  have v:=nn l (.fn (.func 135) [] [.Κ [Zb w]]) (λp=>decide (p.1=w)) J (by simp[Su]) (λx _=>λ_=>(mF x w).cc (by simp;exact ZJ.refl _) o o ⟨U,U⟩);rw[<-r]at v;refine YC (Ξ M N) λs b=>?_;refine Μ.d (v) (ς ?_);apply b;cases y:SO w l with
  | true=>
   refine Δ o ?_;refine Χ ?_;refine W.to (t (i+1) ⟨a,n y⟩ J) U (by simp[YR a (show P.length<2 ^ 62 by omega)])
  | false=>
   refine Β o ?_;refine Χ ?_;rw[u y];refine W.rt ?_;exact .of U
 have a:P.length<=i:=by simpa using a
 refine W.exit U ?_;refine Χ ?_;have e:P.all (SO w)=true:=Xk.2 λl c=>by
  obtain⟨j,m,rfl⟩:=Qg c;exact hi.2 j J m
 rw[e];refine W.rt ?_;exact .of U
structure Fu(g:ZN)(P:List (List ZM))(C:List (ψ)):Prop where
 words:∀w∈g.words,X0 w=true
 lets:∀w∈g.words,∀c∈w.data.toList,UN g.ZV c=true
 blank:(0<=g.X'/\g.X'<=9)/\0<=g.XX/\g.XX<=9
 M5:∀b∈g.ZV,(0<=b.lo/\b.lo<=9)/\0<=b.hi/\b.hi<=9
 ZV:g.ZV.length<=12
 Zz:g.Zz.small
 pass:P.length<2 ^ 40/\∀l∈P,l.length<2 ^ 40
 cells:C.length<2 ^ 40/\∀l∈C,l.length<2 ^ 40
 Yf:g.words.length<2 ^ 20
def Iz(g:ZN)(f:ψ):Bool:=decide ((W7 g f).1 > g.Vx)||decide ((W7 g f).2<g.XH)
def TQ(g:ZN)(P:List (List ZM))(C:List (ψ))(f:ψ):Int:=
 (if Iz g f then 1 else 0)+(if toldOf g P f then 0 else 2)+(if Qn g C f then 0 else 4)
def Cu(g:ZN)(P:List (List ZM))(C:List (ψ))(h:Fu g P C)(f:ψ)(l:Wn g f) :
  Μ prog 33 [Vj g P C,δ I 1 f] (I (TQ g P C f)):=by
 have m:RD .i64 0 1=1:=θ
 have t:RD .i64 0 2=2:=θ
 have u:RD .i64 1 2=3:=θ
 have v:RD .i64 0 4=4:=θ
 have x:RD .i64 1 4=5:=θ
 have y:RD .i64 2 4=6:=θ
 have B:RD .i64 3 4=7:=θ
 have D:=Cv g P C h.words h.lets h.blank h.M5 h.ZV f l
 have E:=mE g P C h.pass.1 h.pass.2 f l
 have F:=mG g P C h.words h.Zz h.cells.1 h.cells.2 f l;refine Ν.body Τ func33 U U ntmps33 U U o ?_;refine Χ ?_;refine ZA ?_;refine ZB (A:=[6]) Τ λb a=>ς ?_;refine Μ.d (D) (ς ?_);apply a;unfold TQ Iz;generalize W7 g f=w;obtain⟨p,r⟩:=w;refine W.Rp (σ0:=[]) (Γ _) o o [(6,.Κ [I p,I r]),(1,δ I 1 f),(2,.Κ (Yl g P C)),(5,I 0)] o ?_;obtain⟨c,e⟩:=ν ((decide (p > g.Vx)||decide (r<g.XH)));simp only;rw[<-e]
 repeat refine W.seq ?_
 refine W.block ?_
 repeat refine W.seq ?_
 refine W.upto [(1,δ I 1 f),(2,.Κ (Yl g P C)),(5,I (if c=true then 1 else 0))] [] ?_ ?_
 .repeat apply Ζ
  by_cases i:p > g.Vx
  .have j:c=true:=by rw[e];simp[i]
   refine YC i λb a=>?_;apply a;refine Β o ?_;refine W.exit U ?_;refine ο λb a=>?_;apply a;refine W.inBlock ?_;exact .stop ⟨U,U,by simp[j,m]⟩
  by_cases k:r<g.XH
  .have j:c=true:=by rw[e];simp[k]
   refine YC (Ξ i k) λb a=>?_;apply a;refine Β o ?_;refine W.exit U ?_;refine ο λb a=>?_;apply a;refine W.inBlock ?_;exact .stop ⟨U,U,by simp[j,m]⟩
  have j:c=false:=by rw[e];simp[i,k]
  refine YC (Ξ i k) λb a=>?_;apply a;refine Δ o ?_
  repeat apply Ζ
  refine W.exit U ?_;exact .stop ⟨U,U,by simp[j,m]⟩
 clear e;refine ο λb a=>?_;refine Μ.d (E) (ς ?_);apply a
 repeat refine W.seq ?_
 refine W.DT (λn:Int=>(n=0\/n=1\/n=2\/n=3)/\n=(if c=true then 1 else 0)+if toldOf g P f=true then 0 else 2) (λn=>[(1,δ I 1 f),(2,.Κ (Yl g P C)),(5,I n)]) (λ_=>[]) ?_ (λn H=>?_)
 .cases c<;>cases toldOf g P f
  .refine Β U ?_;refine YC t λb a=>?_;apply a;exact .stop ⟨U,2,θ,U,o⟩
  .refine Δ U ?_;refine W.skip ?_;exact .stop ⟨U,0,θ,U,o⟩
  .refine Β U ?_;refine YC u λb a=>?_;apply a;exact .stop ⟨U,3,θ,U,o⟩
  refine Δ U ?_;refine W.skip ?_;exact .stop ⟨U,1,θ,U,o⟩
 obtain⟨J,s⟩:=H;rw[<-s];clear s;refine ο λb a=>?_;refine Μ.d (F) (ς ?_);apply a;cases Qn g C f
 .refine Β U ?_;rcases J with rfl|rfl|rfl|rfl
  all_goals
   refine γ (Ξ v (Ξ x (Ξ y B))) ?_;refine W.exit U ?_;refine Χ ?_;refine W.rt ?_;exact .of U
 refine Δ U ?_;refine Χ ?_;refine W.exit U ?_;refine Χ ?_;simp only[if_true,Int.add_zero];refine W.rt ?_;exact .of U
end Go.TL
namespace Go.TL
open Go.IntWalk (i64_in)
open Go.IntKind (i64 u8)
open Go.Proofs.Tryz
open Go.Sort (choosePivot insertionSort ltInt median order2 partEqLoop partEqLoop_eq partLoop partLoop_eq partition partitionEqual scanDown scanUp swp)
open Go.Conc Go.Proofs
variable[Z8]
def VV(a:Nat):Nat->ψ->List (ψ)
 | 0,l=>[l]
 | d+1,l=>l::(List.range a).flatMap λn:Nat=>VV a d (l++[(n:Int)])
def Rb(a:Nat):Nat->Nat
 | 0=>1
 | d+1=>1+a*Rb a d
def xP{a:Type}(f:Nat->List a)(c)(h:∀n,(f n).length=c)(m):((List.range m).flatMap f).length=m*c:=by
 induction m with
 | zero=>simp
 | succ m b=>rw[Ur,J8,VH,b];simp[h,Nat.succ_mul]
def Ct(a):∀d l,(VV a d l).length=Rb a d:=by
 intro d
 induction d with
 | zero=>intro l;rfl
 | succ d b=>intro l;simp only[VV,List.length_cons,Rb];rw[xP _ _ λn=>b _];omega
def mD{ι b:Type}{step}{sz:ι->Nat}(c:∀s l,sz (step s l)<=sz s+1)(L:List b):∀s,sz (L.foldl step s)<=sz s+L.length:=by
 induction L with
 | nil=>intro s;simp
 | cons a L d=>intro s;have e:=d (step s a);have f:=c s a;simp;omega
abbrev ON(L:Nat):Ψ:=.fn (.yield L) [] []
abbrev mC(g:ZN)(P:List (List ZM))(C:List (ψ))(L n0:Nat):Ψ:=.fn (.func 84) [] [.Κ [ON L],.Κ (Yl g P C),.Ο (n0+1) 1 0 0]
abbrev Qm(g:ZN)(P:List (List ZM))(C:List (ψ))(L n0:Nat):Row:=.cells 49 1 [mC g P C L n0]
section
variable{ι:Type}{R:ι->Ρ}{n0:Nat}{step:ι->ψ->ι}{sz:ι->Nat}{M:Nat}{L p nt:Nat}{a bd:Code}{env:κ}{g:ZN}{P:List (List ZM)}{C:List (ψ)}
def mB(B:∀s l,sz (step s l)<=sz s+1)(D:∀s,(R s).length=n0)(af:g.words.length<2 ^ 20)
  (K:∀s l,sz s<M->Wn g l->Yi prog (ON L) [δ I 1 l] (R s++[.loop L .ready #[p] a bd nt env,Qm g P C L n0]) (λr t=>r=ZU true/\t=R (step s l)++[.loop L .ready #[p] a bd nt env,Qm g P C L n0]) (λ_ _=>False)) :
  ∀d l,l.length+d=3->Wn g l->∀s,sz s+Rb g.words.length d<=M->Ν prog 84 [δ I 1 l,.Κ [ON L],.Κ (Yl g P C),.Ο (n0+1) 1 0 0] (R s++[.loop L .ready #[p] a bd nt env,Qm g P C L n0]) (λr t=>r=ZU true/\t=R ((VV g.words.length d l).foldl step s)++[.loop L .ready #[p] a bd nt env,Qm g P C L n0]) (λ_ _=>False):=by
 obtain⟨σ,b⟩:∃σ:ι->Ρ,∀s,σ s=R s++[.loop L .ready #[p] a bd nt env,Qm g P C L n0]:=⟨_,λ_=>rfl⟩;have N:∀s,(σ s)[n0+1]?=some (Qm g P C L n0):=λs=>by rw[b,<-D s];simp
 have E:∀s l,sz s<M->Wn g l->Yi prog (ON L) [δ I 1 l] (σ s) (λr t=>r=ZU true/\t=σ (step s l)) (λ_ _=>False):=λs l O w=>by
  rw[b,b];exact K s l O w
 intro d
 induction d with
 | zero=>
  intro l w m s u;rw[<-b,<-b];apply Ν.body Τ func84 U U ntmps84 U U o;refine Χ ?_;refine ο λF j=>?_;refine Yi.mono (E s l (by simp only[Rb]at u;omega) m) (λr t h=>?_) (λ_ _ h=>h.elim);obtain⟨rfl,rfl⟩:=h;simp;(repeat (rw[Ι];simp));apply j;apply Δ U;refine Χ ?_;refine .loop ?_;have c:¬(l.length:Int)<3:=J
  repeat apply Ζ
  refine W.P4 (A:=[]) Τ [(0,δ I 1 l),(21,ZU false)] ?_ (by
   by_cases v:0<g.words.length
   ·(try simp);(repeat (rw[Ι];simp[v,c]));(try simp[v,c])
   ·(try simp);(repeat (rw[Ι];simp[v,c]));(try simp[v,c]))
  apply Δ U;apply W.exit U;refine Χ ?_
  trace_state
  exact W.ret ⟨_,U,U,U⟩
 | succ d Q=>
  intro l w m s u;rw[<-b,<-b];have ag:∀s H,(σ s).length=(σ H).length:=λs H=>by rw[b,b];simp[D]
  apply Ν.body Τ func84 U U ntmps84 U U o;refine Χ ?_;refine ο λF j=>?_;refine Yi.mono (E s l (by simp only[Rb]at u;omega) m) (λr t h=>?_) (λ_ _ h=>h.elim);obtain⟨rfl,rfl⟩:=h;simp;(repeat (rw[Ι];simp));apply j;apply Δ U;refine Χ ?_;obtain⟨e,k⟩:∃e:Nat->ι,∀n,e n=(((List.range n).flatMap λn:Nat=>VV g.words.length d (l++[(n:Int)])).foldl step (step s l)):=⟨_,λ_=>rfl⟩;have S:∀n,e (n+1)=(VV g.words.length d (l++[(n:Int)])).foldl step (e n):=λn=>by
   rw[k,k,Ur,J8,SI];simp
  refine W.iter (λn=>n<=g.words.length) (λn=>[(0,δ I 1 l),(2,.Κ (Yl g P C)),(3,.Ο (n0+1) 1 0 0),(6,I n)]) (λn=>σ (e n)) (λn=>g.words.length-n) 0 (Γ _) (by rw[k];rfl) o (λn ah T=>?_);have c:(l.length:Int)<3:=J
  repeat apply Ζ
  by_cases f:n<g.words.length
  .refine W.P4 (A:=[]) Τ [(0,δ I 1 l),(2,.Κ (Yl g P C)),(3,.Ο (n0+1) 1 0 0),(6,I n),(21,ZU true)] ?_ (by
    (try simp);(repeat (rw[Ι];simp[f,c]));(try simp[f,c]))
   apply Β U
   repeat apply Ζ
   have V:sz (e n)+Rb g.words.length d<=M:=by
    have X:=mD B (((List.range n).flatMap λn:Nat=>VV g.words.length d (l++[(n:Int)]))) (step s l)
    have ai:=B s l;rw[xP _ _ λn=>Ct _ _ _,<-k]at X;have Y:(n+1)*Rb g.words.length d<=g.words.length*Rb g.words.length d:=Tk _ f;rw[Nat.succ_mul]at Y;simp only[Rb]at u;omega
   have y:=Q (l++[(n:Int)]) (by simp;omega) ⟨by simp;omega,λx i=>by
    rcases VS.1 i with i|i
    .exact m.has x i
    simp at i;subst i;omega⟩ (e n) V
   rw[<-b,<-b,<-S]at y;have aj:(n:Int)<4611686018427387904:=J;refine W.draw (A:=[]) Τ mixed λF j=>?_;simp;have Z:List.take l.length (List.map I l)=List.map I l:=Wl o;have aa:l.length<=4294967295:=J;(repeat (rw[Y3];simp[N,Z,aa]));have ab:δ I 1 (l++[(n:Int)])=.sl false 1 (l.map I++[I n]):=o;rw[ab]at y;apply Nv (r:=ZU true) (σ':=σ (e (n+1))) (Ν.call (first:=[]) (args:=[.sl false 1 (l.map I++[I n])]) (captured:=[.Κ [ON L],.Κ (Yl g P C),.Ο (n0+1) 1 0 0]) y);simp;(repeat (rw[Y3];simp));try rw[YL]
   refine X5 (j _ _ ?_);apply Δ U;refine Χ ?_;refine W.to (T (n+1) f J) U (by simp[YR f (show g.words.length<2 ^ 62 by omega)])
  refine W.P4 (A:=[]) Τ [(21,ZU false)] ?_ (by
   (try simp);(repeat (rw[Ι];simp[f,c]));(try simp[f,c]))
  apply Δ U;have ad:n=g.words.length:=J;have ae:σ (e n)=σ ((VV g.words.length (d+1) l).foldl step s):=by
   rw[k,ad];rfl
  rw[ae];apply W.exit U;refine Χ ?_;exact W.ret ⟨_,U,U,U⟩
def mA(w:∀s l,sz (step s l)<=sz s+1)(j:∀s,(R s).length=n0)(x:g.words.length<2 ^ 20)(y:∀s,∀r∈R s,YO n0 r)(B:∀i,ω n0 (ε env i))
  (D:∀s l,sz s<M->Wn g l->Yi prog (ON L) [δ I 1 l] (R s++[.loop L .ready #[p] a bd nt env,Qm g P C L n0]) (λr t=>r=ZU true/\t=R (step s l)++[.loop L .ready #[p] a bd nt env,Qm g P C L n0]) (λ_ _=>False)) (s) (E:sz s+Rb g.words.length 3<=M) :
  Ν prog 83 [ON L,.Κ (Yl g P C)] (R s++[.loop L .ready #[p] a bd nt env]) (λr t=>r=.Z7 []/\t=R ((VV g.words.length 3 []).foldl step s)++[.loop L .ready #[p] a bd nt env]) (λ_ _=>False):=by
 have f:=mB w j x D 3 [] U ⟨o,o⟩ s E;obtain⟨τ,c⟩:∃τ:ι->Ρ,∀s,τ s=R s++[.loop L .ready #[p] a bd nt env]:=⟨_,λ_=>rfl⟩;have b:∀s,(τ s).length=n0+1:=λs=>by rw[c];simp[j]
 have k:∀s r,R s++[.loop L .ready #[p] a bd nt env,r]=τ s++[r]:=λs r=>by rw[c];simp
 rw[<-c,<-c];rw[k]at f;simp[k]at f;apply Ν.body Τ func83 U U ntmps83 U U o;refine ο λm d=>?_;apply d;refine ZA ?_;refine ZB (A:=[3]) Τ λm d=>ς ?_;apply d;have N:∀r,(τ s++[r])[(τ s).length]?=some r:=λr=>o;have Υ:∀r q,(τ s++[r]).set (τ s).length q=τ s++[q]:=λr q=>o;have n:∀r,(τ s++[r])[n0+1]?=some r:=λr=>by rw[<-b s];simp
 have u:∀r q,(τ s++[r]).set (n0+1) q=τ s++[q]:=λr q=>by rw[<-b s];simp
 rw[b s];refine γ (Ξ n u) ?_;refine YC (Ξ n u) λm d=>?_;have F:=Ν.SZ (args':=[]++[.sl true 0 []]++[.Κ [ON L],.Κ (Yl g P C),.Ο (n0+1) 1 0 0]) f (.cons .nil (ZJ.refl _)) (λa s h=>⟨a,.refl _,h⟩);refine Yi.mono (Ν.call F) (λr t h=>?_) (λ_ _ h=>h.elim);obtain⟨rfl,rfl⟩:=h;simp;(repeat (rw[Ι];simp));apply d;generalize (VV g.words.length 3 []).foldl step s=e;refine W.cut (n0+1) J [] (by rw[VH,b];omega) (λid r H v=>?_) o ?_
 .rw[YT (by rw[b];exact H),c]at v;rcases VS.1 (ZD v)with hm|hm
  .exact(y e r hm).up J
  simp at hm;subst hm;exact λi=>(B i).mono J
 have K:(τ e++[Qm g P C L n0]).take (n0+1)=τ e:=by rw[<-b e,List.take_left'];rfl
 rw[K];refine Χ ?_;exact W.nil ⟨_,U,U,U⟩
end
def xO(g:ZN)(P:List (List ZM))(C:List (ψ)):Μ prog 35 [Vj g P C] (.fn (.func 83) [] [.Κ (Yl g P C)]):=by
 refine Ν.body Τ func35 U U ntmps35 U U o ?_;refine Χ ?_;refine W.rt ?_;exact .of U
section
variable{ι:Type}{R:ι->Ρ}{n0:Nat}{step:ι->ψ->ι}{sz:ι->Nat}{M:Nat}{p m nt:Nat}{a bd:Code}{env env0:κ}{env1:ι->ψ->κ}{g:ZN}{P:List (List ZM)}{C:List (ψ)}
variable{Q:Value->Prop}{mn:Bool}{x:Vp}{b:Frame}{cs:YM}{t1:ZP}{k:Zk}{Y2:ζ}{WW:ZZ}{H1:Φ}{s:ι}{Ft:Operand}
def xN{σ:Ρ}(h:∀r∈σ,Ts r)(rest:Ρ)(j:Nat)(a:UC rest j=true):UC (σ++rest) j=true:=by
 unfold UC at a ⊢;rw[List.all_append,a,Bool.and_true,Xk];intro r b;obtain⟨t,k,l,rfl⟩:=h r b;rfl
def η.xM(aC:∀s l,sz (step s l)<=sz s+1)(aD:sz s+Rb g.words.length 3<=M)(Y:Seq x)(aj:b.mode=.run)(aE:b.roundOf=none)(n:∀s,(R s).length=n0)(O:∀s,∀r∈R s,Ts r)(ak:∀s,∀r∈R s,YO n0 r)(Z:∀i,ω n0 (ε env i))
  (aF:g.words.length<2 ^ 20) (aG:p<nt) (aH:π env0 Ft=.fn (.func 83) [] [.Κ (Yl g P C)]) (A:XG m nt Y2 WW H1 (R s) env0 t1) (aI:∀q∈env,ε env0 q.1=q.2)
  (aJ:∀s l w c,sz s<M->Wn g l->YO (n0+2) w->YO (n0+2) c->W prog (n0+2) nt [.code a,.beginRound,.code bd] ((p,δ I 1 l)::env) (R s++[w,c]) (λk e t=>k=[.beginRound,.code bd]/\t=R s++[w,c]/\∀q∈env1 s l,ε e q.1=q.2) (λ_ _ _=>False))
  (aK:∀s l w c,sz s<M->Wn g l->YO (n0+2) w->YO (n0+2) c->W prog (n0+2) nt [.code bd] (env1 s l) (R s++[w,c]) (λk e t=>k=[]/\t=R (step s l)++[w,c]) (λ_ _ _=>False))
  (al:∀S B H c,Ext Y2 WW H1 S B H->ZC Y2 S WW B (R s) (R ((VV g.words.length 3 []).foldl step s))->Holds S B (R ((VV g.words.length 3 []).foldl step s)) H->H1.fresh c->¬B.has c->H.obj c=some (.deferred (some []))->Y' S B (R ((VV g.words.length 3 []).foldl step s)) env0 t1->
   η prog Q mn x (χ {b with defers:=⟨.collected c,#[]⟩::b.defers} t1 k) cs H) :
  η prog Q mn x (χ b t1 (.code (.rangeFunc Ft #[p] a bd)::k)) cs H1:=by
 have aa:=S4 A.Zt Ft;rw[aH]at aa;obtain⟨a',am⟩:=ν (ZX t1 Ft);rw[<-am]at aa;cases aa with
 | fn w1 an aL aM ba aN=>
 have aO:w1=#[]:=OI (by rw[<-aL];rfl);subst aO;refine η.rangeFunc Y aj aE am.symm ⟨_,func83,U,U⟩ λc L ab T=>?_;have ao:¬WW.has c:=A.holds.p1 (O s) ab;have ap:=A.holds.Zp (y:=.deferred (some [])) ao;have ad:Ext Y2 WW H1 Y2 WW (H1.Zp c (.deferred (some []))):=Ext.p5 ab;have V:(H1.Zp c (.deferred (some []))).obj c=some (.deferred (some [])):=by simp[Φ.Zp]
 have aP:H1.fresh L:=ad.grow _ T;generalize H1.Zp c (.deferred (some []))=aQ at T ap ad V;have aR:c≠L:=λe=>by rw[e,T.2.2.1]at V;cases V
 have aS:Y' Y2 WW (R s) env t1:=Rk A.Zt aI;obtain⟨E,F,aq⟩:=ap.push (r:=.loop L .ready #[p] a bd nt env) (bo:=some (L,0)) (H':=aQ.Zp L (.loop (Gh .ready none b.fn t1 #[p] a bd c))) (λb N e=>by cases e;exact T) (λaT aU=>by
  have aV:aT≠L:=λe=>aU 0 (by rw[e]);exact⟨λ_=>rfl,U,by simp[Φ.Zp,aV]⟩) (λX=>⟨0,b.fn,c,t1,U,by simp[Φ.Zp,Gh],A.size,λi=>(aS i).later X⟩)
 have aW:YO (n0+2) (.loop L .ready #[p] a bd nt env):=λi=>(Z i).mono J
 have aX:YO (n0+2) (.loop L .busy #[p] a bd nt env):=λi=>(Z i).mono J
 have ar:YO (n0+2) (Qm g P C L n0):=by simp[YO,Ψ.cells,S3]
 have au:=mA (P:=P) (C:=C) (L:=L) (p:=p) (nt:=nt) (a:=a) (bd:=bd) (env:=env) aC n aF ak Z (step:=step) (λs l av X=>by
  refine mS (j:=n0) (L:=L) (p:=p) (a:=a) (bd:=bd) (nt:=nt) (env:=env) (env1:=env1 s l) (by rw[<-n s];simp) (xN (O s) _ _ U) aG ?_ ?_
  .have e:(R s++[.loop L .ready #[p] a bd nt env,Qm g P C L n0]).length=n0+2:=by simp[n]
   rw[e];exact aJ s l _ _ av X aW ar
  have e:(R s++[.loop L .ready #[p] a bd nt env,Qm g P C L n0]).length=n0+2:=by simp[n]
  have Υ:∀s w ae c,(R s++[w,c]).set n0 ae=R s++[ae,c]:=λs w ae c=>by rw[<-n s];simp
  rw[e,Υ];refine W.mono (aK s l _ _ av X aX ar) (λk e t h=>?_) (λ_ _ _ h=>h);obtain⟨rfl,rfl⟩:=h;exact⟨U,by rw[<-n (step s l)];simp,xN (O _) _ _ U,U,by rw[Υ]⟩) s aD
 generalize (VV g.words.length 3 []).foldl step s=u at au al;have aY:XF Y2 (WW++[some (L,0)]) (R s++[.loop L .ready #[p] a bd nt env]) [ON L,.Κ (Yl g P C)] (#[.func (.yield L) #[] #[]]++an):=by
  have aw:XF Y2 WW (R s) ([ON L]++[.Κ (Yl g P C)]) (#[.func (.yield L) #[] #[]]++an):=by
   refine XF.append ⟨U,λi a v E F=>?_⟩ ⟨aM,aN⟩
   match i with
   | 0=>simp at E F;subst E;subst F;exact .fn #[] #[] rfl rfl (λi a v hi=>by simp at hi) (λi a v hi=>by simp at hi)
   | i+1=>simp at E
  exact⟨aw.1,λi a v aZ Υ=>(aw.2 i a v aZ Υ).later aq⟩
 refine au.2 Q mn x _ cs _ _ _ _ Y E aY ⟨λr σ' S B H v a0 ax a1 K af=>?_,λ_ _ _ _ _ _ h=>h.elim⟩;obtain⟨rfl,rfl⟩:=a0;have ag:(R u++[Row.loop L .ready #[p] a bd nt env])[n0]?=some (.loop L .ready #[p] a bd nt env):=by rw[<-n u];simp
 obtain⟨bo,ay⟩:=TH K ag;obtain⟨N,f,d,t,rfl,az,bb,bc⟩:=K.row n0 _ bo ag ay;have a2:(R u++[Row.loop L .ready #[p] a bd nt env]).take n0=R u:=by rw[<-n u,List.take_left'];rfl
 obtain⟨aA,aB⟩:=K.close (h:=n0) (λid r D af=>by
  rw[YT (by rw[n];exact D)]at af;exact ak u r (ZD af))
 have a3:ZC Y2 S WW B (R s) (R u++[.loop L .ready #[p] a bd nt env]):=aq.trans a1
 have ah:=ZC.close K a3 (Nat.le_of_eq (n s));rw[a2]at aA ah;have a4:¬ZZ.has (B.take n0) L:=λ⟨a5,a6⟩=>by
  obtain⟨id,D⟩:=Tl a6;rw[Q4]at D;split at D
  .rename_i a7;have ai:id<(R u).length:=by rw[n];exact a7
   have a8:(R u++[Row.loop L .ready #[p] a bd nt env])[id]?=some (R u)[id]:=by rw[YT ai,ξ ai]
   obtain⟨t',be,bf,e⟩:=O u _ (YW ai);exact K.inj id n0 _ _ L a5 N J a8 ag (by rw[e];trivial) trivial D ay
  cases D
 have a9:=((ad.trans F).trans ax).trans aB;obtain⟨d1,d2⟩:=DK ((F.trans ax).trans aB) ao V;refine η.rC (b:={b with defers:=⟨.collected c,#[]⟩::b.defers}) (t:=t1) Y aj az o ?_;exact al _ _ _ c (a9.Zp aP ⟨_,az⟩) ah (aA.Zp a4) ab d1 (by simp[Φ.Zp,aR,d2]) (A.Zt.later ah)
end
abbrev Iy(D:List (ψ)):Ρ:=[.cells 31 1 [.ms 1 D.length 0 D.length],.cells 22 1 (D.map (δ I 1))]
def M4(g:ZN)(P:List (List ZM))(C D:List (ψ))(l:ψ):List (ψ):=if TQ g P C l=0 then D++[l] else D
def XQ(g:ZN)(P:List (List ZM))(C:List (ψ)):List (ψ):=(VV g.words.length 3 []).filter λl=>decide (TQ g P C l=0)
def mz(g:ZN)(P:List (List ZM))(C L D:List (ψ)):L.foldl (M4 g P C) D=D++L.filter λl=>decide (TQ g P C l=0):=by
 induction L generalizing D with
 | nil=>simp
 | cons l L a=>
  rw[List.foldl_cons,a,M4];by_cases h:TQ g P C l=0
  .rw[if_pos h,List.filter_cons_of_pos (by simpa using h)];simp
  rw[if_neg h,List.filter_cons_of_neg (by simpa using h)]
def xL(D:List (ψ)):∀e∈D.map (δ I 1),∀a∈e.cells,ω 0 a:=λe c a b=>by
 obtain⟨l,_,rfl⟩:=ZG.1 c;simp[Ψ.cells]at b;subst b;simp
section
variable{g:ZN}{P:List (List ZM)}{C:List (ψ)}
def xK(h:Fu g P C)(ag:g.words.length<=5):Μ prog 34 [Vj g P C] (Yv (XQ g P C)):=by
 refine⟨⟨_,func34,U,U⟩,λaD mn x c rest N ah O vs j Q ai T=>?_⟩;obtain rfl:ah=[]:=YY.1 Q.len;rw[Ty (body:=f34.body.getD .skip) func34 U];refine V.here (x:=x) (m:=0) (nt:=17) (S:=N) (B:=[]) (H:=O) (σ:=[]) (env:=entry 0 [Vj g P C]) ?_ (XG.enter Q ai (Z3 _) o);refine V.Ys j U ?_;simp only[f34,Option.getD_some];refine ο λF b=>?_;apply b;refine ZA ?_;refine ZB (A:=[3]) Τ λF b=>ς ?_;apply b;refine W.IQ 22 1 (i:=0) (r:=.cells 31 1 [.sl true 0 []]) (r':=.cells 31 1 [.ms 1 0 0 0]) U (SR.last (M:=[])) [(1,.Κ (Yl g P C)),(3,.Ο 0 1 0 0)] (λz k=>by
  simp at k;rcases k with rfl|rfl<;>exact .same _) ?_
 refine ο λF b=>?_;refine Μ.d (xO g P C) (ς ?_);apply b
 repeat apply Ζ
 refine W.forget [(6,.fn (.func 83) [] [.Κ (Yl g P C)]),(1,.Κ (Yl g P C)),(3,.Ο 0 1 0 0)] o ?_;refine W.stop ?_;intro aE aF aG t1 X Y;refine η.xM (R:=Iy) (n0:=2) (s:=[]) (sz:=List.length) (M:=2 ^ 20) (step:=M4 g P C) (env:=[(1,.Κ (Yl g P C)),(3,.Ο 0 1 0 0)]) (env1:=λ_ l=>[(4,δ I 1 l),(1,.Κ (Yl g P C)),(3,.Ο 0 1 0 0)])
  (λs l=>by unfold M4;split<;>simp) ?_ j U U (λ_=>rfl) (λs r f=>?_) (λs r f=>?_) (λi=>?_) h.Yf θ U Y o (λs l Z K k aa aj ak=>?_) (λs l Z K k aa aj ak=>?_) (λS B H K al am v an ao f w=>?_)
 .generalize g.words.length=n at ag ⊢;have:n=0\/n=1\/n=2\/n=3\/n=4\/n=5:=J;rcases this with rfl|rfl|rfl|rfl|rfl|rfl<;>decide
 .simp only[YU,XW,or_false]at f;rcases f with rfl|rfl<;>exact⟨_,_,_,rfl⟩
 .simp only[YU,XW,or_false]at f;rcases f with rfl|rfl
  .simp[YO,Ψ.cells,S2]
  exact λe ap a aq=>(xL s e ap a aq).mono (Γ _)
 .simp only[ε];split
  .simp
  split
  .simp[S3]
  exact .Zl
 .refine Χ ?_;exact W.stop ⟨U,U,o⟩
 .refine Χ ?_;refine ο λF b=>?_;refine Μ.d (Cu g P C h l aa) (ς ?_);apply b;have ar:s.length<4294967295:=J;by_cases E:TQ g P C l=0
  .refine Β (by simp[E]) ?_
   repeat apply Ζ
   have e:M4 g P C s l=s++[l]:=by unfold M4;rw[if_pos E]
   rw[e];refine W.Wr (A:=[15]) Τ [] (Iy (s++[l])++[Z,K]) ?_ (by
    (try simp);(repeat (rw[Ι];simp));(try simp);exact RO ar)
   refine Χ ?_;exact W.stop ⟨U,U⟩
  refine Δ (by simp[E]) ?_;refine Χ ?_;have e:M4 g P C s l=s:=by unfold M4;rw[if_neg E]
  rw[e];exact W.stop ⟨U,U⟩
 rw[mz,List.nil_append]at am v w;change Holds S B (Iy (XQ g P C)) H at v;change Y' S B (Iy (XQ g P C)) _ _ at w;generalize XQ g P C=D at v w T;have au:Ext N [] O S B H:=X.ext.trans al;refine V.here (m:=0) (nt:=17) (S:=S) (B:=B) (σ:=Iy D) (env:=[(3,.Ο 0 1 0 0)]) ?_ ⟨v,Rk w o,Y.size,Γ _⟩;refine V.Ys j U ?_;refine Χ ?_;refine W.cut 0 (Γ _) [(2,Yv D)] (Γ _) (λid r h=>J) (λp av=>?_) ?_
 .obtain rfl:p=(2,Yv D):=by simpa using av
  exact Yx.own (id:=1) (t:=22) (Γ _) U o (xL D)
 refine W.stop ?_;intro aH aw aI t5 ab L;obtain rfl:aw=[]:=YY.1 L.holds.len;obtain⟨ax,ad⟩:=DK ab.ext ao f;refine η.ret j U U (η.collected j U U ad ?_);refine η.back j U U (.inl U) func34 ?_;refine Ω.mono (λu ay ⟨az,aA,aB,aJ,ae,aC⟩=>?_) (λ_ _ h=>h) _ (Mc Τ (a:=Yv D) U (L.holds.Zp (y:=.deferred none) ax) L.Zt);obtain rfl:aA=[]:=YY.1 ae.len;have af:=((au.trans ab.ext).Zp (X.ext.grow _ an) (y:=.deferred none) ⟨_,ad⟩).trans aB;exact T.ret _ [] az [] ay u ⟨.refl _,U⟩ af ⟨af.Za,λid r h=>by simp at h⟩ ae aC
end
structure Ra(g:ZN)(a:Int)(P:List (List ZM))(C:List (ψ)):Prop where
 check:Μ prog 13 [VX g] (I a)
 Fs:a=0->Μ prog 32 [VX g] (Vj g P C)
 work:a=0->Fu g P C
 Yf:a=0->g.words.length<=5
 hc:g.words.length<2 ^ 40
def M3(g:ZN)(n:Int):Bool:=decide (n<0)||decide (n>=g.words.length)
def U5(g:ZN)(a:Int)(f:ψ):Int:=if a≠0 then a else if 3<f.length then 6 else if f.any (M3 g) then 3 else 0
def xJ{g:ZN}{b:Int}{f:ψ}(h:U5 g b f=0):b=0/\Wn g f:=by
 unfold U5 at h;split at h
 .rename_i a;exact absurd h a
 rename_i d;split at h
 .cases h
 split at h
 .cases h
 rename_i e c;refine⟨by simpa using d,J,λn a=>?_⟩;rw[Bool.not_eq_true,List.any_eq_false]at c;have:=c n a;simp[M3]at this;omega
section
variable{g:ZN}{ZL:Int}{P:List (List ZM)}{C:List (ψ)}
def my(n:Int):Μ prog 71 [I n,.Κ (Yo g)] (ZU (M3 g n)):=by
 refine Ν.body Τ func71 U U ntmps71 U U o ?_;refine Χ ?_;by_cases h:n<0
 .refine YC h λb a=>?_;apply a;refine Χ ?_;refine W.ret ⟨_,U,?_,U⟩;exact .of (by simp[M3,h])
 refine YC h λb a=>?_;apply a;refine Χ ?_;refine W.ret ⟨_,U,?_,U⟩;exact .of (by simp[M3,h])
def xI(j:Ra g ZL P C)(f:ψ)(l:f.length<2 ^ 40):Μ prog 31 [VX g,δ I 1 f] (I (U5 g ZL f)):=by
 refine Ν.body Τ func31 U U ntmps31 U U o ?_;refine Χ ?_;refine ο λk b=>?_;refine Μ.d (j.check) (ς ?_);apply b;refine Χ ?_;by_cases a:ZL=0
 case neg=>
  refine Β (by simp[a]) ?_;refine Χ ?_;have e:U5 g ZL f=ZL:=by unfold U5;rw[if_pos a]
  rw[e];refine W.rt ?_;exact .of U
 refine Δ (by simp[a]) ?_;refine Χ ?_;by_cases h:3<f.length
 .refine Β (by simp;omega) ?_;refine Χ ?_;have e:U5 g ZL f=6:=by unfold U5;rw[if_neg (by simpa using a),if_pos h]
  rw[e];refine W.rt ?_;exact .of U
 refine Δ (by simp;omega) ?_;refine ο λk b=>?_;refine Μ.c (sx f (.fn (.func 71) [] [.Κ (Yo g)]) (M3 g) J o λn _=>?_) (ZJ.refl _) o o ?_
 .exact Nw.tn (first:=[]) (args:=[I n]) (captured:=[.Κ (Yo g)]) ((my n).ct (ZJ.refl _)) o o
 simp;(repeat (rw[Ι];simp));apply b;cases i:f.any (M3 g)
 .refine Δ U ?_;refine Χ ?_;have e:U5 g ZL f=0:=by unfold U5;rw[if_neg (by simpa using a),if_neg h,i];rfl
  rw[e];refine W.rt ?_;exact .of U
 refine Β U ?_;refine Χ ?_;have e:U5 g ZL f=3:=by unfold U5;rw[if_neg (by simpa using a),if_neg h,i];rfl
 rw[e];refine W.rt ?_;exact .of U
def M1(g:ZN)(ZL:Int)(P:List (List ZM))(C:List (ψ))(f:ψ):Int×Int:=if U5 g ZL f=0 then(TQ g P C f,0) else(0,U5 g ZL f)
def xH(b:Ra g ZL P C)(f:ψ)(i:f.length<2 ^ 40):Μ prog 7 [VX g,δ I 1 f] (.Z7 [I (M1 g ZL P C f).1,I (M1 g ZL P C f).2]):=by
 refine Ν.body Τ func7 U U ntmps7 U U o ?_;refine Χ ?_;refine ο λj c=>?_;refine Μ.d (xI b f i) (ς ?_);apply c;refine Χ ?_;by_cases a:U5 g ZL f=0
 case neg=>
  refine Β (by simp[a]) ?_;refine Χ ?_;have e:M1 g ZL P C f=(0,U5 g ZL f):=by unfold M1;rw[if_neg a]
  rw[e];refine W.rt ?_;exact .of U
 refine Δ (by simp[a]) ?_;obtain⟨h,k⟩:=xJ a;have e:M1 g ZL P C f=(TQ g P C f,0):=by unfold M1;rw[if_pos a]
 rw[e];refine ο λj c=>?_;refine Μ.d (b.Fs h) (ς ?_);refine Μ.d (Cu g P C (b.work h) f k) (ς ?_);apply c;refine Χ ?_;refine W.rt ?_;exact .of U
def Ua(g:ZN)(ZL:Int)(P:List (List ZM))(C:List (ψ)):List (ψ):=if ZL=0 then XQ g P C else []
def xG(a:Ra g ZL P C):Μ prog 8 [VX g] (.Z7 [Yv (Ua g ZL P C),I ZL]):=by
 refine Ν.body Τ func8 U U ntmps8 U U o ?_;refine Χ ?_;refine ο λf c=>?_;refine Μ.d (a.check) (ς ?_);apply c;refine Χ ?_;by_cases b:ZL=0
 case neg=>
  refine Β (by simp[b]) ?_;refine Χ ?_;have e:Ua g ZL P C=[]:=by unfold Ua;rw[if_neg b]
  rw[e];exact W.ret ⟨_,U,.Z7 (.cons .nil (.cons (.refl _) .nil)),U⟩
 refine Δ (by simp[b]) ?_;subst b;refine ο λf c=>?_;refine Μ.d (a.Fs U) (ς ?_);refine Μ.d (xK (a.work U) (a.Yf U)) (ς ?_);apply c;refine Χ ?_;refine W.rt ?_;exact .of U
end
end Go.TL
namespace Go.TL
open Go.IntWalk (i64_in)
open Go.IntKind (i64 u8)
open Go.Proofs.Tryz
open Go.Sort (choosePivot insertionSort ltInt median order2 partEqLoop partEqLoop_eq partLoop partLoop_eq partition partitionEqual scanDown scanUp swp)
open Go.Proofs
variable[Z8]
def xF(σ L:Ρ)(k:Nat):(σ++L)[σ.length+k]?=L[k]?:=by rw[W5 J];congr 1;omega
def mx(σ L:Ρ):(σ++L)[σ.length]?=L[0]?:=xF σ L 0
def xE(σ L:Ρ)(k:Nat)(x:Row):(σ++L).set (σ.length+k) x=σ++L.set k x:=by rw[J9 _ _ J];congr 2;omega
def mw(σ L:Ρ)(x:Row):(σ++L).set σ.length x=σ++L.set 0 x:=xE σ L 0 x
abbrev W6:ByteArray:=⟨#[107,105,110,103]⟩
abbrev Ql:ByteArray:=⟨#[115,97,119]⟩
abbrev TP:ByteArray:=⟨#[116,104,101]⟩
abbrev T':ByteArray:=⟨#[111,120]⟩
abbrev Ly:ByteArray:=⟨#[97]⟩
abbrev Qk:ByteArray:=⟨#[114,101,100]⟩
abbrev Fq:ByteArray:=⟨#[113,117,101,101,110]⟩
abbrev Fp:List ByteArray:=[W6,Ql,TP,T',W6,Ly,Qk,T']
abbrev xD:List Xt:=[⟨Ly,2,3⟩,⟨⟨#[100]⟩,3,3⟩,⟨⟨#[101]⟩,2,2⟩,⟨⟨#[104]⟩,3,3⟩,⟨⟨#[114]⟩,2,2⟩,⟨⟨#[115]⟩,2,2⟩,⟨⟨#[116]⟩,2,2⟩,⟨⟨#[119]⟩,4,4⟩]
def WM(c:List Xo):ZN:=⟨[Fp,[Fq,T']],W6,T',[Ly,Qk,Ql,TP],xD,1,2,16,18,⟨[⟨Ly,4⟩,⟨⟨#[115]⟩,9⟩],[[2]],[c]⟩,false⟩
def Sg:ZN:=WM []
def M0:ZN:=WM [⟨0,9,0⟩]
def SN(s:ByteArray)(lo hi:Int):Μ prog 38 [ZQ s,I lo,I hi] (SQ ⟨s,lo,hi⟩):=by
 refine Ν.body Τ func38 U U ntmps38 U U o ?_
 repeat apply Ζ
 refine ZB (A:=[6]) Τ λb a=>ς ?_;apply a;refine ο λb a=>?_;apply a;refine W.fix (id:=0) (σ':=[]) (Γ _) U o o U [(6,.Κ [ZQ s,I lo,I hi])] o ?_;exact W.Nt
abbrev Lx(c:Ψ):μ:=[.sl true 1 [.sl true 1 (Fp.map ZQ),.sl true 1 [ZQ Fq,ZQ T']],ZQ W6,ZQ T',.sl true 1 [ZQ Ly,ZQ Qk,ZQ Ql,ZQ TP],.sl true 3 (xD.map SQ),I 1,I 2,I 16,I 18,.sl true 2 [X4 ⟨Ly,4⟩,X4 ⟨⟨#[115]⟩,9⟩],.sl true 1 [.sl true 1 [I 2]],c,ZU false]
def mr:Μ prog 12 [] (VX Sg):=by
 refine Ν.body Τ func12 U U ntmps12 U U o ?_
 repeat apply Ζ
 refine ZB (A:=[0]) Τ λb a=>ς ?_;apply a;refine ο λb a=>?_;refine Μ.d (SN _ _ _) (ς ?_);refine Μ.d (SN _ _ _) (ς ?_);refine Μ.d (SN _ _ _) (ς ?_);refine Μ.d (SN _ _ _) (ς ?_);refine Μ.d (SN _ _ _) (ς ?_);refine Μ.d (SN _ _ _) (ς ?_);refine Μ.d (SN _ _ _) (ς ?_);refine Μ.d (SN _ _ _) (ς ?_);apply a;refine W.fix (id:=0) (σ':=[]) (Γ _) U o o U [(0,.Κ (Lx (.sl true 1 [.sl true 0 []])))] o ?_;refine W.rt ?_;refine .Z' (.cons ?_ (.cons (.refl _) (.cons (.refl _) (.cons .ex (.cons .ex (.cons (.refl _) (.cons (.refl _) (.cons (.refl _) (.cons (.refl _) (.cons .ex (.cons ?_ (.cons ?_ (.cons (.refl _) .nil)))))))))))))
 .exact .map (l:=Sg.Zf) (f:=λl:List ByteArray=>.sl true 1 (l.map ZQ)) λx _=>.one .ex U U
 .exact .map (l:=[[2]]) (f:=Xh) λx _=>.one .ex U U
 exact .map (l:=[([]:List Xo)]) (f:=λ_=>.sl true 0 []) λx c=>by
  obtain rfl:x=[]:=by simpa using c
  exact .one .nil U U
def mq(σ:Ρ):Ν prog 12 [] σ (λa s=>a=.Z' (Lx (.ms (σ.length+1) 1 0 1))/\s=σ++[.dead,.cells 103 1 [.sl true 0 []]]) (λ_ _=>False):=by
 obtain⟨n,f⟩:=ν σ.length;have g:=xF σ;have c:=mx σ;have i:=xE σ;have l:=mw σ;rw[<-f]at g c i l ⊢;refine Ν.body Τ func12 U U ntmps12 U U o ?_
 repeat apply Ζ
 refine ZB (A:=[0]) Τ λv t=>?_;simp;(repeat (rw[Ι];simp[f.symm]));apply t
 repeat apply Ζ
 refine W.Wr (A:=[22]) Τ [(0,.Ο n 1 0 0)] (σ++[.cells 36 13 [.Z' (Lx (.ms (n+1) 1 0 1))],.cells 103 1 [.sl true 0 []]]) ?_ (by
  simp;(repeat (rw[Ι];simp[f.symm,g,c,i,l]));refine Μ.d (SN _ _ _) (ς ?_);refine Μ.d (SN _ _ _) (ς ?_);refine Μ.d (SN _ _ _) (ς ?_);refine Μ.d (SN _ _ _) (ς ?_);refine Μ.d (SN _ _ _) (ς ?_);refine Μ.d (SN _ _ _) (ς ?_);refine Μ.d (SN _ _ _) (ς ?_);refine Μ.d (SN _ _ _) ?_;simp;(repeat (rw[Ι];simp[f.symm,g,c,i,l])))
 refine W.LI (σ':=σ++[.dead,.cells 103 1 [.sl true 0 []]]) (id:=n) J (by rw[c];rfl) o (by rw[c];rfl) (λj r u b=>⟨r,?_,.inl U⟩) [(0,.Κ (Lx (.ms (n+1) 1 0 1)))] (λp m=>by simp at m;subst m;exact .Ο (e:=.Z' (Lx (.ms (n+1) 1 0 1))) U) ?_
 .by_cases e:j<n
  .rw[YT J]at b ⊢;exact b
  obtain⟨k,rfl⟩:∃k,j=n+k:=⟨j-n,J⟩;rw[g]at b ⊢
  match k,u,b with
  | 0,h,_=>exact absurd rfl h
  | k+1,_,b=>exact b
 exact W.ret ⟨_,U,U,U⟩
def mo{σ:Ρ}{K E:Ψ->Ρ->Prop}(b:K (.Z' (Lx (.ms (σ.length+1) 1 0 1))) (σ++[.dead,.cells 103 1 [.sl true 0 []]])):Yi prog (.fn (.func 12) [] []) [] σ K E:=
 Ν.call (first:=[]) (captured:=[]) ((mq σ).mono (λa r ⟨c,Υ⟩=>by rw[c,Υ];exact b) (λa s h=>h.elim))
def mm:Μ prog 17 [] (VX M0):=by
 refine Ν.body Τ func17 U U ntmps17 U U o ?_
 repeat apply Ζ
 refine ZB (A:=[0]) Τ λe d=>ς ?_;apply d
 repeat apply Ζ
 refine ZA ?_;refine ZB (A:=[1]) Τ λe d=>ς ?_;refine mo ?_;simp;(repeat (rw[Ι];simp));apply d;refine ο λe d=>?_;apply d;refine ο λe d=>?_;apply d;refine W.cut 0 (Γ _) [(0,.Κ (Lx (.sl false 1 [.sl true 3 [UB ⟨0,9,0⟩]])))] (Γ _) (λid r h=>J) (λp g=>?_) ?_
 .obtain rfl:=Us.1 g;refine Yx.struct (Γ _) U U (λx a a' b c=>?_)
  match x,b,c with
  | 11,b,c=>
   cases b;cases c;exact Yx.own (id:=2) (t:=103) (Γ _) U U (by simp[Ψ.cells])
  | 0,b,c|1,b,c|2,b,c|3,b,c|4,b,c|5,b,c|6,b,c|7,b,c|8,b,c|9,b,c|10,b,c|12,b,c=>
   cases b;cases c;exact .low o
 refine W.rt ?_;refine .Z' (.cons ?_ (.cons (.refl _) (.cons (.refl _) (.cons .ex (.cons .ex (.cons (.refl _) (.cons (.refl _) (.cons (.refl _) (.cons (.refl _) (.cons .ex (.cons ?_ (.cons ?_ (.cons (.refl _) .nil)))))))))))))
 .exact .map (l:=M0.Zf) (f:=λl:List ByteArray=>.sl true 1 (l.map ZQ)) λx _=>.one .ex U U
 .exact .map (l:=[[2]]) (f:=Xh) λx _=>.one .ex U U
 exact .map (l:=[([⟨0,9,0⟩]:List Xo)]) (f:=λl:List Xo=>.sl true 3 (l.map UB)) λx _=>.one .ex U U
def NW(d:ZF)(l:List ByteArray):Nat:=(W' d ((l.length:Int)-1)).toNat
def xC(d:ZF)(hd:d.Z4.length<2 ^ 63)(l:List ByteArray)(h:0<l.length)(i:l.length<1000000):Zc 65 [Zb l] d (ZQ (l.getD (NW d l) ⟨#[]⟩)) (d.after ((l.length:Int)-1)):=by
 unfold Zc;refine Ν.body Τ func65 U U ntmps65 U U o ?_;have e:i64.wrap ((l.length:Int)-1)=(l.length:Int)-1:=i64_in _ J;obtain⟨t0,t1⟩:=QA d ((l.length:Int)-1) J J;obtain⟨k,b⟩:∃k:Nat,W' d ((l.length:Int)-1)=k:=⟨(W' d ((l.length:Int)-1)).toNat,J⟩;have a:k<l.length:=J;have f:NW d l=k:=by unfold NW;rw[b];rfl
 refine Χ ?_;refine YC e λj g=>?_;refine Zc.c (LK d hd _) 0 U (ZJ.refl _) o o ?_;simp;(repeat (rw[Ι];simp));rw[b];simp[a];(repeat (rw[Ι];simp[a]));apply g;exact W.ret ⟨_,U,.of (by rw[f];simp[XA,a]),U⟩
def Wt:List ByteArray:=[Ly,⟨#[97,98]⟩,T',Qk,Ql]
def VU(d:ZF):Nat->List ByteArray×ZF
 | 0=>([],d)
 | i+1=>(if PL (VU d i).2 2 then(VU d i).1++[Wt.getD i ⟨#[]⟩] else(VU d i).1,(VU d i).2.after 1)
def xB(d:ZF)(n:Nat):(VU d n).2.Z4.length<=d.Z4.length:=by
 induction n with
 | zero=>exact Z3 _
 | succ n a=>exact WL (R1 _ _) a
def xA(d:ZF)(n:Nat)(b:n<=5):(VU d n).1.Sublist (Wt.take n):=by
 induction n with
 | zero=>exact .slnil
 | succ n a=>
  have a:=a J
  have e:Wt.take (n+1)=Wt.take n++[Wt.getD n ⟨#[]⟩]:=by
   rw[Ws (by simp[Wt];omega)];rw[XA,ξ (by simp[Wt];omega)];rfl
  rw[e];unfold VU;simp only;split
  .exact a.append (.refl _)
  exact a.trans (List.sublist_append_left _ _)
def ml(d:ZF)(n:Nat)(a:n<=5):(VU d n).1.length<=n:=by
 have:=(xA d n a).length_le;rw[T5]at this;omega
def xz(l:List ByteArray)(h:Nat):∀e∈l.map ZQ,∀a∈e.cells,ω h a:=λe c a b=>by
 obtain⟨x,_,rfl⟩:=ZG.1 c;simp[Ψ.cells]at b;subst b;exact .z _
def mj(d:ZF)(hd:d.Z4.length<2 ^ 63):Zc 64 [] d (Zb (VU d 5).1) (VU d 5).2:=by
 unfold Zc;refine Ν.body Τ func64 U U ntmps64 U U o ?_;refine Χ ?_;refine W.pad (σ':=[ZS d]) 9 1 U (λj r E=>⟨r,E,.inl U⟩) [(0,.Ο 0 1 0 0),(3,.ms 1 0 0 0),(4,.sl true 1 (Wt.map ZQ)),(5,I 0)] (λp u=>by
  simp at u;rcases u with rfl|rfl|rfl|rfl<;>first|exact .same _|exact .nil) ?_
 refine W.iter (λi:Nat=>i<=5) (λi=>[(0,.Ο 0 1 0 0),(3,.ms 1 (VU d i).1.length 0 (VU d i).1.length),(4,.sl true 1 (Wt.map ZQ)),(5,I i)]) (λi=>[ZS (VU d i).2,.cells 9 1 ((VU d i).1.map ZQ)]) (λi=>5-i) 0 (Γ _) U (by simp[VU]) (λi hi v=>?_);have e:Wt.length=5:=rfl;refine γ e ?_;by_cases f:i<5
 .have w:(i:Int)<5:=J
  refine Β (by simp[w]) ?_;obtain⟨a,k⟩:=ν (Wt.getD i ⟨#[]⟩);have F:(Wt.map ZQ)[i]?=some (ZQ a):=by rw[k,YK,ξ (by rw[e];exact f),XA,ξ (by rw[e];exact f)];rfl
  have H:∀h:i<Wt.length,Wt[i]=a:=λh=>by
   rw[k,XA,ξ h];rfl
  have y:=ml d i hi
  have B:=xB d i
  have C:VU d (i+1)=(if PL (VU d i).2 2 then(VU d i).1++[a] else(VU d i).1,(VU d i).2.after 1):=by rw[k];rfl
  have c:=v (i+1) f J;rw[C]at c;generalize VU d i=L at y B c ⊢;clear v C k;obtain⟨L,D⟩:=L;simp only at y B c ⊢;have K:D.Z4.length<2 ^ 63:=J;have m:=FN D K 2 θ θ;have M:(2:Int)-1=1:=rfl;rw[M]at m;generalize D.after 1=P at m c;generalize PL D 2=b at m c
  repeat apply Ζ
  refine ο λN t=>?_;refine Zc.g (m) (ς ?_);apply t;have s:=YR f (show 5<2 ^ 62 by decide);have O:L.length<=4294967295:=J;cases b
  .refine Δ o ?_;refine γ s ?_;refine W.to c o (by simp[s])
  refine Β o ?_
  repeat apply Ζ
  refine ZA ?_;refine ZB (A:=[21]) Τ λN t=>Wb (Ξ F (Ξ H (Ξ e (Ξ O w)))) ?_;apply t;refine γ s ?_;refine W.to c o (by simp[s])
 obtain rfl:i=5:=J
 refine Δ o ?_;refine W.exit U ?_;refine Χ ?_;refine W.C3 (x:=2) (l:=(VU d 5).1.map ZQ) (n:=(VU d 5).1.length) o o (xz _ 0) U ?_;exact W.ret ⟨_,U,.refl _,U⟩
def xy(d)(l:List ByteArray)(b:0<l.length)(c:l.length<1000000):l.getD (NW d l) ⟨#[]⟩∈l:=by
 let ⟨e,f⟩:=QA d (l.length-1) J J
 have a:NW d l<l.length:=by unfold NW;omega
 rw[XA,ξ a];exact YW _
def Sf:List ByteArray:=[W6,TP,T']
structure Fo(words:List ByteArray)(a:Nat)(l:List ByteArray):Prop where
 Yf:l.length<=a
 has:∀x∈l,x∈words\/x∈Sf
def NV(words:List ByteArray)(D:ZF):ByteArray×ZF:=
 if(decide (0<words.length)&&!PL D 3)=true then(words.getD (W' (if 0<words.length then D.after 2 else D) (words.length-1)).toNat ⟨#[]⟩,(if 0<words.length then D.after 2 else D).after (words.length-1))
 else(Sf.getD (NW (if 0<words.length then D.after 2 else D) Sf) ⟨#[]⟩,(if 0<words.length then D.after 2 else D).after (Sf.length-1))
def Q'(words:List ByteArray)(D:ZF):Nat->List ByteArray×ZF
 | 0=>([],D)
 | i+1=>((Q' words D i).1++[(NV words (Q' words D i).2).1],(NV words (Q' words D i).2).2)
def OM(d:ZF)(words:List ByteArray)(a:Nat):List ByteArray×ZF:=Q' words (d.after a) (W' d a).toNat
def mi(words D n):(Q' words D n).1.length=n:=by
 induction n with
 | zero=>rfl
 | succ n a=>rw[Q',VH,a];rfl
def mh(words)(b:words.length<1000)(D):(NV words D).1∈words\/(NV words D).1∈Sf:=by
 unfold NV;split
 .rename_i h;simp at h;let ⟨c,d⟩:=QA (if 0<words.length then D.after 2 else D) (words.length-1) J J;refine .inl ?_;have a:(W' (if 0<words.length then D.after 2 else D) (words.length-1)).toNat<words.length:=J;rw[XA,ξ a];exact YW _
 exact .inr (xy _ Sf θ θ)
def mg(words D):(NV words D).2.Z4.length<=D.Z4.length:=by
 have h:(if 0<words.length then D.after 2 else D).Z4.length<=D.Z4.length:=by
  split
  .exact R1 _ _
  exact Z3 _
 unfold NV;split
 .exact WL (R1 _ _) h
 exact WL (R1 _ _) h
def mf(words)(c:words.length<1000)(D n):(∀x∈(Q' words D n).1,x∈words\/x∈Sf)/\(Q' words D n).2.Z4.length<=D.Z4.length:=by
 induction n with
 | zero=>exact⟨by simp[Q'],Z3 _⟩
 | succ n b=>
  refine⟨λx a=>?_,WL (mg _ _) b.2⟩;rcases VS.1 a with a|a
  .exact b.1 x a
  obtain rfl:=Us.1 a;exact mh words c _
def xx(d words)(b:words.length<1000)(a)(f:a<1000):Fo words a (OM d words a).1/\(OM d words a).2.Z4.length<=d.Z4.length:=by
 let ⟨t0,t1⟩:=QA d a J J
 let ⟨c,e⟩:=mf words b (d.after a) (W' d a).toNat;exact⟨⟨by unfold OM;rw[mi];omega,c⟩,WL e (R1 _ _)⟩
def xw(d)(hd:d.Z4.length<2 ^ 63)(words)(aq:words.length<1000)(s:Nat)(ar:s<1000):Zc 30 [Zb words,I s] d (Zb (OM d words s).1) (OM d words s).2:=by
 unfold Zc OM;apply Ν.body Τ func30 U U ntmps30 U U o;let ⟨t0,t1⟩:=QA d s J J;obtain⟨k,ab⟩:∃k:Nat,W' d s=k:=⟨(W' d s).toNat,J⟩;have M:=LK d hd s;rw[ab]at M t1 ⊢;rw[Int.toNat_natCast];have S:=R1 d s;generalize d.after s=d1 at M S ⊢;refine Χ ?_;refine ο λT y=>?_;refine Zc.g (M) (ς ?_);apply y
 repeat apply Ζ
 apply W.pad (σ':=[ZS d1]) 9 1 U (λj r ad=>⟨r,ad,.inl U⟩) [(0,.Ο 0 1 0 0),(1,Zb words),(7,.ms 1 0 0 0),(8,I k)] (λp V=>by
  simp at V;rcases V with rfl|rfl|rfl|rfl<;>first|exact .same _|exact .nil)
 refine W.iter (λx=>x.1+x.2.1.length=k/\Q' words d1 x.2.1.length=(x.2.1,x.2.2)/\x.2.2.Z4.length<=d.Z4.length) (λx=>[(0,.Ο 0 1 0 0),(1,Zb words),(7,.ms 1 x.2.1.length 0 x.2.1.length),(8,I x.1)]) (λx=>[ZS x.2.2,.cells 9 1 (x.2.1.map ZQ)]) (λx=>x.1) (k,[],d1) ⟨o,U,S⟩ U o (λx ae af=>?_);let ⟨i,L,D⟩:=x;let ⟨ag,E,ah⟩:=ae;simp only at ag E ah ⊢;refine Χ ?_;by_cases ai:0<i
 .apply Β (by simp[ai]);have aj:D.Z4.length<2 ^ 63:=J;have F:L.length<=4294967295:=J;have H:i64.wrap ((i:Int)-1)=((i-1:Nat):Int):=by rw[i64_in _ J];omega
  have next:∀(a)(t),NV words D=(a,t)->t.Z4.length<=d.Z4.length->_:=λa t u e=>af (i-1,L++[a],t) ⟨by simp;omega,by
   show Q' words d1 (L++[a]).length=(L++[a],t);rw[VH];show Q' words d1 (L.length+1)=_;rw[Q',E,u],e⟩ (by show i-1<i;omega)
  have v:NV words D=if(decide (0<words.length)&&!PL D 3)=true then(words.getD (W' (if 0<words.length then D.after 2 else D) ((words.length:Int)-1)).toNat ⟨#[]⟩,(if 0<words.length then D.after 2 else D).after ((words.length:Int)-1))
   else(Sf.getD (NW (if 0<words.length then D.after 2 else D) Sf) ⟨#[]⟩,(if 0<words.length then D.after 2 else D).after ((Sf.length:Int)-1)):=rfl
  have B:=FN D aj 3 θ θ
  have AF:(3:Int)-1=2:=rfl;rw[AF]at B;have ak:=R1 D 2;generalize D.after 2=al at B ak v;generalize PL D 3=N at B v;let ⟨b,C⟩:=ν ((decide (0<words.length)&&!N));obtain⟨f,w⟩:∃x,x=if 0<words.length then al else D:=⟨_,U⟩
  have X:f.Z4.length<=d.Z4.length:=by rw[w];split<;>omega
  rw[<-C,<-w]at v
  repeat apply Ζ
  refine W.Wr (A:=[]) Τ [(23,ZU b),(0,.Ο 0 1 0 0),(1,Zb words),(7,.ms 1 L.length 0 L.length),(8,I i)] [ZS f,.cells 9 1 (L.map ZQ)] ?_ (by
   by_cases m:0<words.length
   .rw[if_pos m]at w;have K:b = !N:=by rw[C];simp[m]
    rw[w,K];clear C K next
    cases N
    ·(try simp);(repeat (rw[Ι];simp[m]));(try simp[m]);apply Zc.c (B) 0 U (ZJ.refl _) o o;simp;(repeat (rw[Ι];simp))
    ·(try simp);(repeat (rw[Ι];simp[m]));(try simp[m]);apply Zc.c (B) 0 U (ZJ.refl _) o o;simp;(repeat (rw[Ι];simp))
   rw[if_neg m]at w;have K:b=false:=by rw[C];simp[m]
   rw[w,K];(try simp);(repeat (rw[Ι];simp[m]));(try simp[m]))
  have Y:f.Z4.length<2 ^ 63:=J;cases b
  .apply Δ o;have Z:=xC f Y Sf θ θ;let ⟨a,u⟩:=ν (Sf.getD (NW f Sf) ⟨#[]⟩);let ⟨t,e⟩:=ν (f.after ((Sf.length:Int)-1));rw[<-u,<-e]at Z;rw[<-u,<-e]at v;have O:=next a t v (by rw[e];exact WL (R1 _ _) X)
   clear u e;refine Χ ?_;refine ZA ?_;refine ZB (A:=[40]) Τ λT y=>Wb F ?_;apply Zc.c Z 0 U (.cons .ex .nil) o o;simp;(repeat (rw[Ι];simp[F]));apply y;refine γ H ?_;refine W.to O o (by simp[H])
  apply Β o;have m:0<words.length:=by
   have:=C.symm;simp only[U2,decide_eq_true_eq]at this;exact this.1
  have am:i64.wrap ((words.length:Int)-1)=(words.length:Int)-1:=i64_in _ J
  have P:=LK f Y ((words.length:Int)-1)
  let ⟨au,an⟩:=QA f ((words.length:Int)-1) J J;obtain⟨q,Q⟩:∃q:Nat,W' f ((words.length:Int)-1)=q:=⟨(W' f ((words.length:Int)-1)).toNat,J⟩;rw[Q]at P an;have R:q<words.length:=J;let ⟨t,e⟩:=ν (f.after ((words.length:Int)-1));rw[<-e]at P;let ⟨a,u⟩:=ν (words[q]);have aa:∀h,words[q]=a:=λ_=>u.symm;have ao:words.getD q ⟨#[]⟩=a:=by rw[XA,ξ R,u];rfl
  rw[if_pos U,Q,Int.toNat_natCast,ao,<-e]at v;have O:=next a t v (by rw[e];exact WL (R1 _ _) X)
  clear u e Q;refine Χ ?_;refine ZA ?_;refine ZB (A:=[34]) Τ λT y=>Wb (Ξ F am) ?_;apply Zc.c P 0 U (ZJ.refl _) o o;simp[R,aa];(repeat (rw[Ι];simp[F,R,aa]));apply y;apply W.exit U;refine γ H ?_;refine W.to O o (by simp[H])
 obtain rfl:i=0:=J
 apply Δ o;apply W.exit U;refine Χ ?_;apply W.C3 (x:=6) (l:=L.map ZQ) (n:=L.length) o o (xz _ 0) U;have ap:L.length=k:=J;rw[ap]at E;rw[E];exact W.ret ⟨_,U,.refl _,U⟩
def MZ(s:ByteArray)(c k:Nat):Bool:=(List.range k).any λj=>decide ((s.get! j).toNat=c)
def RU(l:List ByteArray)(c i:Nat):Bool:=(l.take i).any λs=>MZ s c s.size
def me(s:ByteArray)(c k:Nat):MZ s c (k+1)=(MZ s c k||decide ((s.get! k).toNat=c)):=by simp[MZ,Ur,List.any_append]
def md(l:List ByteArray)(c:Nat){i:Nat}(h:i<l.length):RU l c (i+1)=(RU l c i||MZ l[i] c l[i].size):=by
 unfold RU;rw[Ws h,List.any_append];simp
def Ix(c:Nat):ByteArray:=⟨#[UInt8.ofNat c]⟩
def Cs(c:Nat):Be [(c:Int)]=Ix c:=rfl
def mc:∀c:Nat,c<123->u8.wrap ((c:Int)+1)=((c+1:Nat):Int):=by decide +kernel
structure Lw(words:List ByteArray)(c:Nat)(l:List Xt):Prop where
 Fl:l.map (·.Ya)=((List.range c).filter λx=>decide (97<=x)&&RU words x words.length).map Ix
 M5:∀b∈l,1<=b.lo/\b.lo<=4/\b.lo<=b.hi/\b.hi<=b.lo+2
def mb(d:ZF)(hd:d.Z4.length<2 ^ 63)(words:List ByteArray)(aC:words.length<1000)(al:∀w∈words,w.size<1000):PJ 66 [Zb words] d (λr=>∃l,r=Qw l/\Lw words 123 l):=by
 unfold PJ;refine Ν.body Τ func66 U U ntmps66 U U o ?_;refine Χ ?_;refine W.pad (σ':=[ZS d]) 52 3 U (λj r am=>⟨r,am,.inl U⟩) [(0,.Ο 0 1 0 0),(1,Zb words),(5,.ms 1 0 0 0),(6,.z (.int .u8 97))] (λp aa=>by
  simp at aa;rcases aa with rfl|rfl|rfl|rfl<;>first|exact .same _|exact .nil) ?_
 refine W.iter (λx:Nat×List Xt×ZF=>97<=x.1/\x.1<=123/\x.2.1.length<=x.1/\Lw words x.1 x.2.1/\x.2.2.Z4.length<=d.Z4.length) (λx=>[(0,.Ο 0 1 0 0),(1,Zb words),(5,.ms 1 x.2.1.length 0 x.2.1.length),(6,.z (.int .u8 x.1))]) (λx=>[ZS x.2.2,.cells 52 3 (x.2.1.map SQ)]) (λx=>123-x.1) (97,[],d) ⟨Z3 _,o,o,⟨by
   rw[List.filter_eq_nil_iff.2 (λx M=>by
    have:=VR.1 M;simp;omega)];rfl,o⟩,o⟩ U o (λx M an=>?_)
 obtain⟨c,L,D⟩:=x;obtain⟨ab,ao,ap,u,N⟩:=M;simp only at ab ao u N ap ⊢;refine Χ ?_;by_cases aD:c<=122
 .refine Β (by simp;omega) ?_;refine Χ ?_;refine W.iter (λi:Nat=>i<=words.length) (λi=>[(0,.Ο 0 1 0 0),(1,Zb words),(5,.ms 1 L.length 0 L.length),(6,.z (.int .u8 c)),(7,ZU (RU words c i)),(8,I i)]) (λ_=>[ZS D,.cells 52 3 (L.map SQ)]) (λi=>words.length-i) 0 (Γ _) U (by simp[RU]) (λi hi ad=>?_);refine Χ ?_;by_cases f:i<words.length
  .refine Β (by simp[f]) ?_;obtain⟨s,v⟩:=ν (words[i]);have O:(words.map ZQ)[i]?=some (ZQ s):=by rw[v,YK,ξ f];rfl
   have P:∀h:i<words.length,words[i]=s:=λ_=>v.symm
   have aE:s.size<1000:=al s (by rw[v];exact YW _)
   have Q:=ad (i+1) f J;rw[md words c f,<-v]at Q;have R:(i:Int)<words.length:=J;generalize RU words c i=b at Q ⊢;clear v ad;refine Χ ?_;refine W.iter (λk:Nat=>k<=s.size) (λk=>[(0,.Ο 0 1 0 0),(1,Zb words),(5,.ms 1 L.length 0 L.length),(6,.z (.int .u8 c)),(7,ZU (b||MZ s c k)),(8,I i),(9,I k)]) (λ_=>[ZS D,.cells 52 3 (L.map SQ)]) (λk=>s.size-k) 0 (Γ _) U (by simp[MZ]) (λk aF aq=>?_)
   repeat apply Ζ
   refine YC (Ξ O (Ξ P (Ξ f R))) λS t=>?_;apply t;by_cases B:k<s.size
   .refine Β (by simp[B]) ?_;have ae:(k:Int)<s.size:=J;have C:=aq (k+1) B J;rw[me,<-Bool.or_assoc]at C;generalize (b||MZ s c k)=q at C ⊢;obtain⟨y,af⟩:=ν ((s.get! k).toNat);rw[<-af]at C;have F:=YR B (show s.size<2 ^ 62 by omega)
    repeat apply Ζ
    cases q
    .have ar:∀h:k<s.data.size,(s.data[k]'h).toNat=y:=λh=>by rw[af];show _=(s.data[k]!).toNat;rw[getElem!_pos s.data k h]
     refine YC (Ξ O (Ξ P (Ξ f (Ξ R (Ξ B (Ξ ae ar)))))) λS t=>?_;apply t;refine γ F ?_;exact W.to C U (by simp[F])
    refine YC (Ξ O (Ξ P (Ξ f (Ξ R (Ξ B ae))))) λS t=>?_;apply t;refine γ F ?_;exact W.to C U (by simp[F])
   obtain rfl:k=s.size:=J
   refine Δ o ?_;refine W.exit U ?_;have ag:=YR f (show words.length<2 ^ 62 by omega);refine γ ag ?_;exact W.to Q U (by simp[ag])
  obtain rfl:i=words.length:=J
  refine Δ o ?_;refine W.exit U ?_;refine Χ ?_;have ah:∀H,H.length<=c+1->Lw words (c+1) H->∀T:ZF,T.Z4.length<=d.Z4.length->_:=λH au av T aw=>an (c+1,H,T) ⟨by show 97<=c+1;omega,by show c+1<=123;omega,au,av,aw⟩ (by show 123-(c+1)<123-c;omega);have K:u8.wrap ((c:Int)+1)=((c+1:Nat):Int):=mc c J;obtain⟨b,hb⟩:=ν (RU words c words.length);have ai:((List.range (c+1)).filter λx=>decide (97<=x)&&RU words x words.length)=((List.range c).filter λx=>decide (97<=x)&&RU words x words.length)++if b then [c] else []:=by
   rw[Ur,List.filter_append,MR,List.filter_nil,<-hb];have:decide (97<=c)=true:=by simpa using ab
   rw[this,Bool.true_and]
  rw[<-hb];clear hb;cases b
  .refine Δ o ?_;refine γ K ?_;refine W.to (ah L J ⟨by rw[ai,u.Fl];simp,u.M5⟩ D N) U (by simp[K])
  refine Β o ?_;obtain⟨f0,f1⟩:=pd D (a:=1) (b:=4) θ θ θ;have V:=yQ D J 1 4;have ax:=R1 D (i64.wrap (4-1));generalize D.after (i64.wrap (4-1))=E at V ax;generalize N6 D 1 4=n at V f0 f1;obtain⟨ay,az⟩:=QA E 2 θ θ;have X:=LK E J 2;have aA:=R1 E 2;generalize E.after 2=aj at X aA;generalize W' E 2=m at X ay az;have Y:i64.wrap (n+m)=n+m:=i64_in _ J;refine Χ ?_;refine ο λS t=>?_;refine Zc.g (V) (ς ?_);apply t;have Z:L.length<=4294967295:=J
  repeat apply Ζ
  refine W.C' (A:=[56]) Τ mixed [(0,.Ο 0 1 0 0),(1,Zb words),(5,.ms 1 (L.length+1) 0 (L.length+1)),(6,.z (.int .u8 c))] [ZS aj,.cells 52 3 ((L++[(⟨Ix c,n,n+m⟩:Xt)]).map SQ)] ?_ (by
   simp;(repeat (rw[OW];simp[Z,Y,Cs]));(try rw[OX]);refine Zc.e X (ZJ.refl _) o o ?_;simp[Z,Y,Cs];(repeat (rw[OW];simp[Z,Y,Cs]));(try rw[OX]);refine⟨UW XL,UW XL,?_⟩;simp)
  refine γ K ?_;refine W.to (ah (L++[(⟨Ix c,n,n+m⟩:Xt)]) (by simp;omega) ⟨by rw[ai,WT,u.Fl];simp,λb hb=>by
   rcases VS.1 hb with hb|hb
   .exact u.M5 b hb
   obtain rfl:=Us.1 hb;exact⟨f0,f1,by simp;omega,by simp;omega⟩⟩ aj J) o (by simp[K])
 obtain rfl:c=123:=J
 refine Δ o ?_;refine W.exit U ?_;refine Χ ?_;refine W.C3 (x:=4) (l:=L.map SQ) (n:=L.length) o o (λe aB a ak=>by
  obtain⟨b,_,rfl⟩:=ZG.1 aB;simp[Ψ.cells]at ak;rcases ak with rfl|rfl|rfl<;>exact .z _) rfl ?_
 exact W.ret ⟨_,U,⟨_,_,.refl _,⟨L,U,u⟩,U,N⟩⟩
def Μ.eq{P:Program}{f:FuncId}{args:μ}{r r':Ψ}(h:Μ P f args r)(e:r=r'):Μ P f args r':=e▸h
structure ma(g:ZN)(P:List (List ZM)):Prop where
 len:P.length=g.Zf.length
 Yf:∀p∈P,p.length<2 ^ 30
 pass:∀(i:Nat)(p:List ZM),P[i]?=some p->Μ prog 50 [VX g,I i] (δ Ym 1 p)
end Go.TL
namespace Go.TL
open Go.IntWalk (i64_in)
open Go.IntKind (i64 u8)
open Go.Proofs.Tryz
open Go.Sort (choosePivot insertionSort ltInt median order2 partEqLoop partEqLoop_eq partLoop partLoop_eq partition partitionEqual scanDown scanUp swp)
open Go.Conc
variable[Z8]
def W.l'{P:Program}{m nt:Nat}{k:Zk}{env:κ}{σ:Ρ}{Z:Xv}{E:XM}{id kk:Nat}{t:TypeId}{l:μ}(c:μ)(d:σ[id]?=some (.cells t kk l))(f:c.length=l.length)
  (V:∀(i:Nat)(a b:Ψ),l[i]?=some a->c[i]?=some b->ZJ a.cells b.cells) (X:W P m nt k env (σ.set id (.cells t kk c)) Z E):W P m nt k env σ Z E:=by
 intro Y mn x cs b S B H υ aa ab g ad ae;have n:=g.holds;obtain⟨bo,J⟩:=TH n d;obtain⟨af,ag,K⟩:=n.QP (H':=H) (r':=.cells t kk c) (bo':=bo) d trivial J (.inl ⟨c,U,f,U⟩) (λb N e=>.inl ⟨N,e⟩) (λb _ _=>⟨λ_=>rfl,U,U⟩) (λ_ h=>h) (K2 n d) (λah=>by
  have L:=n.row id _ bo d J;cases bo with
  | none=>
   have:l=[]:=L;subst this;exact YY.1 f
  | some y=>
   obtain⟨b,N⟩:=y;obtain⟨ai,aj,ak,w,al⟩:=L;refine⟨ai,by rw[f];exact aj,ak,w,λi e hi=>?_⟩;have am:i<l.length:=by rw[<-f];exact(ZT.1 hi).1
   have M:=ξ am;obtain⟨O,an⟩:=V i _ _ M hi;obtain⟨w1,ao⟩:=al i _ M;refine⟨O.symm.trans w1,λj a Q=>?_⟩;have ap:j<l[i].cells.length:=by rw[O];exact(ZT.1 Q).1
   have R:=ξ ap;obtain⟨aq,ar,au⟩:=ao j _ R;exact⟨aq,Θ.later ah (an j _ _ R Q S B σ _ ar),au⟩)
 have T:Xi m S B H σ S (B.set id bo) H (σ.set id (.cells t kk c)):=⟨ag,K.left m⟩;refine X Y mn x cs b _ _ H υ aa ab ⟨af,λi=>(g.Zt i).later K,g.size,by rw[Lj];exact g.rows⟩ (λj o p r s u t2 A C D F I=>?_) (λa o p r s u t2 A v C D F I av=>?_)
 .exact ad j o p r s u t2 A C (T.trans D) F I
 exact ae a o p r s u t2 A v C (T.trans D) F I av
end Go.TL
namespace Go.TL
open Go.IntWalk (i64_in)
open Go.IntKind (i64 u8)
open Go.Proofs.Tryz
open Go.Sort (choosePivot insertionSort ltInt median order2 partEqLoop partEqLoop_eq partLoop partLoop_eq partition partitionEqual scanDown scanUp swp)
open Go.Proofs
variable[Z8]
abbrev Lv(g:ZN)(c:Ψ):μ:=[c,ZQ g.left,ZQ g.right,Zb g.words,Qw g.ZV,I g.X',I g.XX,I g.XH,I g.Vx,UA g.Zz.Z2,Yv g.Zz.ZE,Tz g.Zz.cells,ZU g.lower]
abbrev Cr(g:ZN)(c:Ψ):Row:=.cells 36 13 [.Z' (Lv g c)]
end Go.TL
namespace Go.TL
open Go.IntWalk (i64_in)
open Go.IntKind (i64 u8)
open Go.Proofs.Tryz
open Go.Sort (choosePivot insertionSort ltInt median order2 partEqLoop partEqLoop_eq partLoop partLoop_eq partition partitionEqual scanDown scanUp swp)
open Go.Conc Go.Proofs
variable[Z8]
structure xv(g:ZN):Prop where
 words:g.words.Sublist Wt
 left:g.left∈[W6,TP,(⟨#[]⟩:ByteArray)]
 right:g.right∈[T',TP,(⟨#[]⟩:ByteArray)]
 ZV:Lw g.words 123 g.ZV
 Zf:1<=g.Zf.length/\g.Zf.length<=3/\∀l∈g.Zf,Fo g.words 8 l
 blank:0<=g.X'/\g.X'<=2/\g.X'<=g.XX/\g.XX<=g.X'+2
 room:0<=g.XH/\g.XH<=20/\g.XH<=g.Vx/\g.Vx<=g.XH+40
 Zz:∃a,g.Zz=IM a/\N4 4 2 a
abbrev l9:List ByteArray:=[W6,TP,⟨#[]⟩]
abbrev l8:List ByteArray:=[T',TP,⟨#[]⟩]
abbrev Ke(c:Ψ)(le a:ByteArray)(b:List ByteArray)(d:Ψ)(e f g h:Int)(i j k:Ψ)(lo:Bool):Row:=.cells 36 13 [.Z' [c,ZQ le,ZQ a,Zb b,d,I e,I f,I g,I h,i,j,k,ZU lo]]
def Cq{a:List ByteArray}(h:a.Sublist Wt):a.length<=5/\∀w∈a,w.size<1000:=by
 refine⟨h.length_le,λw b=>?_⟩;have:∀w∈Wt,w.size<1000:=θ;exact this w (h.subset b)
def N4.more{a c c' s}(h:N4 a c s)(b:c<=c'):N4 a c' s:=⟨h.Z2,h.ZE,WL h.many b,h.Yf⟩
def xu{d N}{C:Prop}(l)(hd:d.Z4.length<=N)(a:0<l.length)(b:l.length<1000000)(k:∀(x)(c),c.Z4.length<=N->x∈l->Zc 65 [Zb l] d (ZQ x) c->C)(e:N<2 ^ 63:=by omega):C:=
 k _ _ (IU hd _) (xy d l a b) (xC d J l a b)
def l7(d:ZF)(hd:d.Z4.length<2 ^ 63):Ν prog 26 [.Ο 0 1 0 0] [ZS d] (λa s=>∃g ai,a=.Z' (Lv g (.ms 3 g.Zf.length 0 g.Zf.length))/\xv g/\s=[ZS ai,.dead,.dead,.cells 26 1 (g.Zf.map Zb)]/\ai.Z4.length<=d.Z4.length) (λ_ _=>False):=by
 refine Ν.body Τ func26 U U ntmps26 U U o ?_
 repeat apply Ζ
 refine ZB (A:=[2]) Τ λt b=>ς ?_;apply b;have S:=mj d hd;have K:=xA d 5 (Z3 _);have aj:=xB d 5;have K:(VU d 5).1.Sublist Wt:=K;obtain⟨k,L⟩:=ν ((VU d 5).1);obtain⟨d1,T⟩:=ν ((VU d 5).2);rw[<-L,<-T]at S;rw[<-L]at K;rw[<-T]at aj;clear L T;refine xu l9 aj θ θ λle d2 aB aC ak=>xu l8 aB θ θ λy d3 aD aE al=>IT 2 aD λlo d4 aF am=>?_;refine ZA ?_;refine ZB (A:=[3]) Τ λt b=>ς ?_;refine Zc.g (S) (ς ?_);refine Zc.c ak 0 U (.cons .ex .nil) o o ?_;simp;(repeat (rw[Ι];simp));refine Zc.c al 0 U (.cons .ex .nil) o o ?_;simp;(repeat (rw[Ι];simp));refine Zc.g (am) (ς ?_);apply b;obtain⟨M,an⟩:=ν (Row.cells 36 13 [Ψ.Z' [Ψ.sl true 0 [],ZQ ⟨#[]⟩,ZQ ⟨#[]⟩,Ψ.sl true 0 [],Ψ.sl true 0 [],I 0,I 0,I 0,I 0,Ψ.sl true 0 [],Ψ.sl true 0 [],Ψ.sl true 0 [],ZU false]]);refine W.to (σ':=[ZS d4,M,Ke Yu le y k Yu 0 0 0 0 Yu Yu Yu lo]) (env':=[(0,.Ο 0 1 0 0),(2,.Ο 1 1 0 0),(3,.Ο 2 1 0 0)]) ?_ (by rw[an]) o;obtain⟨aV,L⟩:=Cq K;clear S ak al am;refine ο λt b=>?_;refine PJ.c (mb d4 J k J L) 0 U (ZJ.refl _) o (by rintro r ⟨l,rfl,_⟩;simp) ?_;rintro r d5 ⟨F,rfl,aG⟩ V;simp;(repeat (rw[Ι];simp));apply b;have V:d5.Z4.length<=d.Z4.length:=WL V aF;refine Nf 1 3 V λz d6 aH aW aX ao=>?_;obtain⟨nc,rfl⟩:∃n:Nat,z=n:=⟨z.toNat,J⟩;refine ο λt b=>?_;refine Zc.g (ao) (ς ?_);apply b;refine W.IQ 26 1 (i:=2) (r:=Ke Yu le y k (Qw F) 0 0 0 0 Yu Yu Yu lo) (r':=Ke (.ms 3 0 0 0) le y k (Qw F) 0 0 0 0 Yu Yu Yu lo) U (SR.field (j:=0) U) [(0,.Ο 0 1 0 0),(2,.Ο 1 1 0 0),(3,.Ο 2 1 0 0),(4,I nc)] (λp ap=>by
  simp only[YU,XW,or_false]at ap;rcases ap with rfl|rfl|rfl|rfl<;>exact .same _) ?_
 refine W.to (σ':=[ZS d6,M,Ke (.ms 3 0 0 0) le y k (Qw F) 0 0 0 0 Yu Yu Yu lo,.cells 26 1 []]) (env':=[(0,.Ο 0 1 0 0),(2,.Ο 1 1 0 0),(3,.Ο 2 1 0 0),(4,I nc)]) ?_ U o
 repeat apply Ζ
 refine W.iter (λx:Nat×List (List ByteArray)×ZF=>x.1+x.2.1.length=nc/\(∀l∈x.2.1,Fo k 8 l)/\x.2.2.Z4.length<=d.Z4.length) (λx=>[(0,.Ο 0 1 0 0),(2,.Ο 1 1 0 0),(3,.Ο 2 1 0 0),(4,I x.1)]) (λx=>[ZS x.2.2,M,Ke (.ms 3 x.2.1.length 0 x.2.1.length) le y k (Qw F) 0 0 0 0 Yu Yu Yu lo,.cells 26 1 (x.2.1.map Zb)]) (λx=>x.1) (nc,[],d6) ⟨o,o,aH⟩ U o (λx B X=>?_);obtain⟨j,C,D⟩:=x;obtain⟨aI,Y,Z⟩:=B;simp only at aI Y Z X ⊢;refine Χ ?_;by_cases aJ:0<j
 .refine Β (by simp[aJ]) ?_;have aq:i64.wrap ((j:Int)-1)=((j-1:Nat):Int):=by rw[i64_in _ J];omega
  have ar:=xw D J k J 8 θ;obtain⟨au,av⟩:=xx D k J 8 θ;obtain⟨l,aa⟩:=ν ((OM D k 8).1);obtain⟨aw,ab⟩:=ν ((OM D k 8).2);rw[<-aa,<-ab]at ar;rw[<-aa]at au;rw[<-ab]at av;clear aa ab;have ax:=X (j-1,C++[l],aw) ⟨by show j-1+(C++[l]).length=nc;rw[VH];simp;omega,λx B=>by
   rcases VS.1 B with B|B
   .exact Y x B
   obtain rfl:=Us.1 B;exact au,WL av Z⟩ (by show j-1<j;omega)
  simp only[VH,List.length_singleton,WT,WY,OE]at ax;have ad:C.length<=4294967295:=J
  repeat apply Ζ
  refine W.L8 [0,1,2,4,5] [6] [2] (A:=[35]) Τ mixed λt b=>?_;simp;(repeat (rw[Rv];simp[QI,XD,VD,ad]));(try rw[P2]);refine Zc.d (ar) 0 o (ZJ.refl _) o o ?_;simp[XD,ad];(repeat (rw[Rv];simp[QI,XD,VD,ad]));(try rw[P2]);refine⟨L' XL,b _ _ ?_⟩;refine γ aq ?_;exact W.to ax U (by simp[aq])
 obtain rfl:j=0:=J;refine Δ o ?_;refine W.exit U ?_;have aY:C.length=nc:=J;obtain⟨Zd,ay⟩:=ν (Row.cells 26 1 (C.map Zb));obtain⟨u,az⟩:=ν C.length;refine W.to (σ':=[ZS D,M,Ke (.ms 3 u 0 u) le y k (Qw F) 0 0 0 0 Yu Yu Yu lo,Zd]) (env':=[(0,.Ο 0 1 0 0),(2,.Ο 1 1 0 0),(3,.Ο 2 1 0 0)]) ?_ (by rw[ay,az]) o;clear X ao;refine Rg 2 Z λv aZ aK a0 m=>?_;refine ο λt b=>?_;refine Zc.g (m) (ς ?_);apply b;clear m;refine Rg 2 aK λN aw aL a1 m=>?_;have O:i64.wrap (v+N)=v+N:=i64_in _ J
 repeat apply Ζ
 refine W.L8 [0,1,2] [4] [2] (A:=[]) Τ mixed λt b=>?_;simp;(repeat (rw[Rv];simp[QI,XD,VD,O]));(try rw[P2]);refine Zc.d (m) 0 o (ZJ.refl _) o o ?_;simp[XD,O];(repeat (rw[Rv];simp[QI,XD,VD,O]));(try rw[P2]);refine⟨L' XL,b _ _ ?_⟩;clear m;refine Rg 20 aL λw a2 aM a3 m=>?_;refine ο λt b=>?_;refine Zc.g (m) (ς ?_);apply b;clear m;refine Rg 40 aM λaN a4 aO f1 m=>FK [3,20,(aN:Int)] aO λE a5 aP P Q=>?_;have a6:0<=E/\E<=40:=by simp at P;omega
 have H:i64.wrap (w+E)=w+E:=i64_in _ J
 repeat apply Ζ
 refine W.L8 [0,1,2] [5,7] [2] (A:=[]) Τ mixed λt b=>?_;simp;(repeat (rw[Rv];simp[QI,XD,VD,H]));(try rw[P2]);refine Zc.d (m) 0 o (ZJ.refl _) o o ?_;simp[XD,H];(repeat (rw[Rv];simp[QI,XD,VD,H]));(try rw[P2]);refine Zc.d Q 0 o (.cons .ex .nil) o o ?_;simp[XD,H];(repeat (rw[Rv];simp[QI,XD,VD,H]));(try rw[P2]);refine⟨L' XL,b _ _ ?_⟩;clear m Q;refine FK [0,0,1,2] aP λz aQ aR P Q=>?_;obtain⟨Zg,rfl⟩:∃n:Nat,z=n:=⟨z.toNat,by simp at P;omega⟩;have aS:Zg<=2:=by simp at P;omega
 refine ο λt b=>?_;refine Zc.c Q 0 U (.cons .ex .nil) o o ?_;simp;(repeat (rw[Ι];simp));refine PJ.c (oz aQ J Zg J) 0 U (ZJ.refl _) o (by rintro r ⟨ae,rfl,_⟩;simp) ?_;rintro r R ⟨ae,rfl,aT⟩ aU;simp;(repeat (rw[Ι];simp));apply b
 try rw[O]
 try rw[H]
 obtain⟨g,af⟩:=ν (⟨C,le,y,k,F,v,v+N,w,w+E,IM ae,lo⟩:ZN);refine W.to (σ':=[ZS R,M,Cr g (.ms 3 u 0 u),Zd]) (env':=[(2,.Ο 1 1 0 0),(3,.Ο 2 1 0 0)]) ?_ (by rw[af]) o;rw[an];refine ο λt b=>?_;apply b;have aA:g.Zf=C:=by rw[af]
 refine W.LI (σ':=[ZS R,Cr g (.ms 3 u 0 u),.dead,Zd]) (id:=2) o U U U (λj r ag f=>?_) [(2,.Ο 1 1 0 0)] (λq ah=>by
  obtain rfl:=Us.1 ah;exact .same _) ?_
 .match j,ag,f with
  | 0,_,f=>exact⟨r,f,.inl rfl⟩
  | 1,_,f=>exact⟨r,f,.inl rfl⟩
  | 2,h,_=>exact absurd rfl h
  | 3,_,f=>exact⟨r,f,.inl rfl⟩
  | j+4,_,f=>simp at f
 refine W.LI (σ':=[ZS R,.dead,.dead,Zd]) (id:=1) o U U U (λj r ag f=>?_) [(2,.Κ (Lv g (.ms 3 u 0 u)))] (λq ah=>by
  obtain rfl:=Us.1 ah;exact .Ο (e:=.Z' (Lv g (.ms 3 u 0 u))) U) ?_
 .match j,ag,f with
  | 0,_,f=>exact⟨r,f,.inl rfl⟩
  | 1,h,_=>exact absurd rfl h
  | 2,_,f=>exact⟨r,f,.inl rfl⟩
  | 3,_,f=>exact⟨r,f,.inl rfl⟩
  | j+4,_,f=>simp at f
 refine W.ret ⟨_,U,g,R,by rw[aA,<-az];rfl,?_,by rw[aA,<-ay],WL aU aR⟩;rw[af];exact⟨K,aC,aE,aG,⟨by show 1<=C.length;omega,by show C.length<=3;omega,Y⟩,by show(0:Int)<=v/\(v:Int)<=2/\(v:Int)<=v+N/\(v:Int)+N<=v+2;omega,by show(0:Int)<=w/\(w:Int)<=20/\(w:Int)<=w+E/\(w:Int)+E<=w+40;omega,ae,U,aT.more aS⟩
def l6(d:ZF)(hd:d.Z4.length<2 ^ 63){σ:Ρ}{K E:Ψ->Ρ->Prop}(t:σ[0]?=some (ZS d))
  (u:∀g h,xv g->h.Z4.length<=d.Z4.length->K (.Z' (Lv g (.ms (σ.length+2) g.Zf.length 0 g.Zf.length))) (σ.set 0 (ZS h)++[.dead,.dead,.cells 26 1 (g.Zf.map Zb)])) :
  Yi prog (.fn (.func 26) [] []) [.Ο 0 1 0 0] σ K E:=by
 have v:=Ν.yw (σ:=σ) (l7 d hd) [0] o U (λj i m=>by
  cases j with
  | zero=>simp at m;subst m;exact t
  | succ j=>simp at m) (λr k=>by simp at k;subst k;exact TV d) (by
   intro a l;simp at l;subst l;exact OF) (K':=K) (E':=E) (λa s=>by
   rintro⟨g,h,rfl,w,rfl,y⟩;refine⟨λr k=>?_,.Z' (Lv g (.ms (σ.length+2) g.Zf.length 0 g.Zf.length)),?_,?_⟩
   .simp only[YU,XW,or_false]at k;rcases k with rfl|rfl|rfl|rfl
    .exact .inl (TV h)
    .exact .inr U
    .exact .inr U
    refine .inl λe A a l=>?_;obtain⟨x,_,rfl⟩:=ZG.1 A;simp[Ψ.cells]at l;subst l;simp
   .obtain⟨ρ,n⟩:=ν (names [0] σ.length [ZS h,.dead,.dead,.cells 26 1 (g.Zf.map Zb)]);have p:ρ=[0,σ.length,σ.length+1,σ.length+2]:=by rw[n];simp[names,Ur]
    rw[<-n];refine .Z' U λi a b c f=>?_
    match i,c,f with
    | 0,c,f=>
     cases c;cases f;have:=PI.one (ρ:=ρ) (a:=.ms 3 g.Zf.length 0 g.Zf.length) (by show 3<ρ.length;rw[p];exact Qf 3);have e:Yt ρ (.ms 3 g.Zf.length 0 g.Zf.length)=.ms (σ.length+2) g.Zf.length 0 g.Zf.length:=by rw[p];rfl
     rwa [e]at this
    | 1,c,f|2,c,f|3,c,f|4,c,f|5,c,f|6,c,f|7,c,f|8,c,f|9,c,f|10,c,f|11,c,f|12,c,f=>cases c;cases f;exact .same o
   have B:Ss σ [0] [ZS h,.dead,.dead,.cells 26 1 (g.Zf.map Zb)]=σ.set 0 (ZS h)++[.dead,.dead,.cells 26 1 (g.Zf.map Zb)]:=by
    simp[Ss,VC]
   rw[B];exact u g h w y)
 exact Ν.call (first:=[]) (captured:=[]) (by simpa[TW,Yt,WE] using v)
def Q9(x:ByteArray)(a:Int×Int)(b:Xt):Int×Int:=if b.Ya=x then(a.1+b.lo,a.2+b.hi) else a
def Kd(b:List Xt)(w:ByteArray)(a:Int×Int)(k:Nat):Int×Int:=b.foldl (Q9 (w.extract k (k+1))) a
def Fj(b:List Xt)(w:ByteArray)(a:Int×Int):Int×Int:=(List.range w.size).foldl (Kd b w) a
def To(g:ZN)(f:ψ):Int×Int:=f.foldl (λa n=>Fj g.ZV (Rc g n) (a.1+g.X',a.2+g.XX)) (g.X',g.XX)
def l5(g:ZN)(f:ψ)(n:Int):To g (f++[n])=Fj g.ZV (Rc g n) ((To g f).1+g.X',(To g f).2+g.XX):=by
 unfold To;rw[SI];rfl
def Q8(B:Int)(a:Int×Int):Prop:=0<=a.1/\a.1<=a.2/\a.2<=B
def Lu(a:List Xt):Prop:=∀b∈a,1<=b.lo/\b.lo<=4/\b.lo<=b.hi/\b.hi<=b.lo+2
def l4{B:Int}{a:Int×Int}{b:Xt}(x:ByteArray)(h:Q8 B a)(c:1<=b.lo/\b.lo<=4/\b.lo<=b.hi/\b.hi<=b.lo+2):Q8 (B+6) (Q9 x a b):=by
 obtain⟨d,e,f⟩:=h;unfold Q9 Q8;split
 .show 0<=a.1+b.lo/\a.1+b.lo<=a.2+b.hi/\a.2+b.hi<=B+6;omega
 omega
def xt{c:List Xt}(f:Lu c)(x:ByteArray){B:Int}{a:Int×Int}(h:Q8 B a):∀j,j<=c.length->Q8 (B+6*j) ((c.take j).foldl (Q9 x) a):=by
 intro j
 induction j with
 | zero=>intro _;simpa using h
 | succ j d=>
  intro g;have d:=d J;have:=l4 (b:=c[j]) x d (f _ (YW _));rw[Ws J,SI];have e:B+6*((j+1:Nat):Int)=B+6*j+6:=J;rw[e];exact this
def l3{b:List Xt}(c:Lu b)(w:ByteArray){B:Int}{a:Int×Int}(h:Q8 B a)(k:Nat):Q8 (B+6*b.length) (Kd b w a k):=by
 have:=xt c (w.extract k (k+1)) h b.length (Z3 _);rw[OG]at this;exact this
def lZ{b:List Xt}(c:Lu b)(w:ByteArray){B:Int}{a:Int×Int}(h:Q8 B a):∀k:Nat,Q8 (B+6*b.length*k) ((List.range k).foldl (Kd b w) a):=by
 intro k
 induction k with
 | zero=>simpa using h
 | succ k d=>
  have:=l3 c w d k;rw[Ur,SI];have e:B+6*(b.length:Int)*((k+1:Nat):Int)=B+6*b.length*k+6*b.length:=by
   rw[Int.natCast_succ,Int.mul_add,Int.mul_one];omega
  rw[e];exact this
abbrev U4:ByteArray:=⟨#[108,105,111,110]⟩
def Iw(a c:List ByteArray):Prop:=c=W6::(a++[U4])\/c=TP::W6::(a++[U4])\/Fo [Ql,Qk] 4 c
structure xr(g:ZN)(f:ψ):Prop where
 words:g.words.Sublist Wt
 ends:g.left=W6/\g.right=U4
 ZV:Lw g.words 123 g.ZV
 Zf:1<=g.Zf.length/\g.Zf.length<=3/\∀c∈g.Zf,Iw (XR g f) c
 blank:0<=g.X'/\g.X'<=2/\g.X'<=g.XX/\g.XX<=g.X'+2
 RS:Wn g f
 room:∃m x y:Int,(To g f).1<=m/\m<=(To g f).2/\(0<=x/\x<=2)/\(0<=y/\y<=2)/\g.XH=max 0 (m-x)/\g.Vx=min 80 (m+y)
 Zz:∃a,g.Zz={IM a with cells:=[]}/\N4 4 2 a
def lY{a:List ByteArray}{b:List Xt}(h:Lw a 123 b):b.length<=26:=by
 have c:=congrArg List.length h.Fl;rw[WS,WS]at c;have e:(List.range 123).filter (λx=>decide (97<=x)&&RU a x a.length)=((List.range 123).filter λx=>decide (97<=x)).filter λx=>RU a x a.length:=by
  rw[Ie];congr 1;funext x;exact Bool.and_comm _ _
 rw[e]at c;have d:=J' (λx=>RU a x a.length) ((List.range 123).filter λx=>decide (97<=x));have f:((List.range 123).filter λx=>decide (97<=x)).length=26:=by decide +kernel
 omega
def xq{a:List ByteArray}(h:a.Sublist Wt):∀w∈a,w.size<=3:=λw b=>by
 have:∀w∈Wt,w.size<=3:=θ;exact this w (h.subset b)
end Go.TL
namespace Go.TL
open Go.IntWalk (i64_in)
open Go.IntKind (i64 u8)
open Go.Proofs.Tryz
open Go.Sort (choosePivot insertionSort ltInt median order2 partEqLoop partEqLoop_eq partLoop partLoop_eq partition partitionEqual scanDown scanUp swp)
open Go.Proofs
variable[Z8]
def lX(d n a b p)(af:d.size=n)(aq:n<2 ^ 40)(ar:a<=p)(au:p<b)(av:b<=n)  :
  Ν prog 239 [.ms 0 n 0 n,I a,I b,I p] [.cells 3 1 ((d).toList.map I)] (λr s=>r=.Z7 [I (partition (ltInt) d a b p).1,ZU (partition (ltInt) d a b p).2.1]/\s=[.cells 3 1 (((partition (ltInt) d a b p).2.2).toList.map I)]) (λ_ _=>False):=by
 apply Ν.body Τ func239 U U ntmps239 U U o;have am:=Nc (i:=a) J;have an:=Nd (i:=b) J J
 repeat apply Ζ
 refine L7 ?_;refine W.two I af (i:=a) (j:=p) J J λL x y z m t F u C=>?_
 repeat apply Ζ
 refine W.draw (A:=[]) Τ mixed λK w=>?_;simp;(repeat (rw[Y3];simp[F]));try rw[YL];refine X5 (w _ _ ?_)
 apply W.back C [(0,.ms 0 n 0 n),(1,I a),(2,I b),(3,I p)] o;clear F C u m t L x y z;let ⟨e,aa⟩:=ν (swp d a p);have S:e.size=n:=by rw[aa];exact swp_size af a p
 rw[<-aa]
 repeat apply Ζ
 refine Ns (Ξ am an) ?_;refine W.to (σ':=[.cells 3 1 ((e).toList.map I)]) (env':=[(0,.ms 0 n 0 n),(1,I a),(10,I (a+1:Nat)),(11,I (b-1:Nat))]) ?_ U o;let ⟨c,M⟩:=V6 (scanUp (λx=>ltInt x e[a]!) e (b-1) (a+1));let ⟨k,N⟩:=V6 (scanDown (λx=>!ltInt x e[a]!) e c (b-1));let ⟨ag,ah,ai,aj,Z⟩:=IN (λx=>ltInt x e[a]!) (λx=>!ltInt x e[a]!) (λx=>rfl) e J J M N;have D:partition (ltInt) d a b p=if c > k then(k,true,swp e k a) else((partLoop (ltInt) a (c+1) (k-1) (swp e c k)).1,false,swp (partLoop (ltInt) a (c+1) (k-1) (swp e c k)).2 (partLoop (ltInt) a (c+1) (k-1) (swp e c k)).1 a):=by
  unfold partition;simp only[<-aa,M,N]
 repeat apply Ζ
 repeat apply Ζ
 apply W.Uh [(0,.ms 0 n 0 n),(1,I a),(10,I (c:Nat)),(11,I (b-1:Nat))] e
 .refine W.iter (λi:Nat=>(a+1)<=i/\i<=(b-1)+1/\scanUp (λx=>ltInt x e[a]!) e (b-1) i=c) (λi=>[(0,.ms 0 n 0 n),(1,I a),(10,I (i:Nat)),(11,I (b-1:Nat))]) (λ_=>[.cells 3 1 ((e).toList.map I)]) (λi=>(b-1)+1-i) ((a+1)) ⟨Z3 _,J,M⟩ U o (λi hi H=>?_);let ⟨T,V,B⟩:=hi;by_cases l:i<=(b-1)
  .refine W.two I S (i:=i) (j:=a) J J λL x y _ m t F u _=>?_;have E:=Nc (i:=i) J
   repeat apply Ζ
   refine W.draw (A:=[]) Τ mixed λK w=>?_;simp;(repeat (rw[Y3];simp[l,F]));try rw[YL]
   apply Wf (Μ.p (Oj x y) (ZJ.refl _) o o);simp;(repeat (rw[Y3];simp));try rw[YL]
   refine X5 (w _ _ ?_);by_cases v:x<y
   .apply Β (by simp[v]);refine γ E ?_;exact W.to (H (i+1) ⟨J,J,C0 B l (by simp[m,t,v,ltInt])⟩ UH) (by rw[u]) (by simp[E])
   apply Δ (by simp[v]);apply W.exit U;exact W.stop ⟨U,by rw[u],by rw[<-CZ B l (by simp[m,t,v,ltInt])];simp⟩
  repeat apply Ζ
  refine VB l ?_;apply Δ U;apply W.exit U;exact W.stop ⟨U,U,by rw[<-CY B l];simp⟩
 repeat apply Ζ
 apply W.Uh [(0,.ms 0 n 0 n),(1,I a),(10,I (c:Nat)),(11,I (k:Nat))] e
 .refine W.iter (λi:Nat=>i<=(b-1)/\c<=i+1/\scanDown (λx=>!ltInt x e[a]!) e c i=k) (λi=>[(0,.ms 0 n 0 n),(1,I a),(10,I (c:Nat)),(11,I (i:Nat))]) (λ_=>[.cells 3 1 ((e).toList.map I)]) (λi=>i+1-c) ((b-1)) ⟨Z3 _,J,N⟩ U o (λi hi H=>?_);let ⟨T,V,B⟩:=hi;by_cases l:c<=i
  .refine W.two I S (i:=i) (j:=a) J J λL x y _ m t F u _=>?_;have E:=Nd (i:=i) J J
   repeat apply Ζ
   refine W.draw (A:=[]) Τ mixed λK w=>?_;simp;(repeat (rw[Y3];simp[l,F]));try rw[YL]
   apply Wf (Μ.p (Oj x y) (ZJ.refl _) o o);simp;(repeat (rw[Y3];simp));try rw[YL]
   refine X5 (w _ _ ?_);by_cases v:x<y
   .apply Δ (by simp[v]);refine W.exit U ?_;exact W.stop ⟨U,by rw[u],by rw[<-CW B l J (by simp[m,t,v,ltInt])];simp⟩
   refine Β (by simp[v]) ?_;refine γ E ?_;exact W.to (H (i-1) ⟨J,J,CX B l J (by simp[m,t,v,ltInt])⟩ UH) (by rw[u]) (by simp[E])
  repeat apply Ζ
  refine VB l ?_;refine Δ U ?_;refine W.exit U ?_;exact W.stop ⟨U,U,by rw[<-CU B l];simp⟩
 repeat apply Ζ
 by_cases l:c > k
 .have O:((k:Nat):Int)<(c:Nat):=J
  refine γ O ?_;refine Β (by simp[l]) ?_;refine W.two I S (i:=k) (j:=a) J J λL x y z m t F u C=>?_
  repeat apply Ζ
  refine W.draw (A:=[]) Τ mixed λK w=>?_;simp;(repeat (rw[Y3];simp[F]));try rw[YL];refine X5 (w _ _ ?_)
  refine W.back C [(0,.ms 0 n 0 n),(1,I a),(10,I (c:Nat)),(11,I (k:Nat))] o ?_;clear F C u m t L x y z;refine Χ ?_;exact W.ret ⟨_,U,by rw[D,if_pos l];rfl,by rw[D,if_pos l]⟩
 have O:¬((k:Nat):Int)<(c:Nat):=J
 have ao:=Z J
 have P:=Nc (i:=c) J
 have Q:=Nd (i:=k) J J;refine γ O ?_;refine Δ (by simp[l]) ?_;refine W.two I S (i:=c) (j:=k) J J λL x y z m t F u C=>?_
 repeat apply Ζ
 refine W.draw (A:=[]) Τ mixed λK w=>?_;simp;(repeat (rw[Y3];simp[F]));try rw[YL];refine X5 (w _ _ ?_)
 refine W.back C [(0,.ms 0 n 0 n),(1,I a),(10,I (c:Nat)),(11,I (k:Nat))] o ?_;clear F C u m t L x y z;have ab:=swp_size S c k;rw[if_neg l]at D;let ⟨g,ad⟩:=ν (swp e c k);rw[<-ad]at D ab;rw[<-ad];refine γ (Ξ P Q) ?_;refine W.to (σ':=[.cells 3 1 ((g).toList.map I)]) (env':=[(0,.ms 0 n 0 n),(1,I a),(10,I (c+1:Nat)),(11,I (k-1:Nat))]) ?_ U (by simp[P,Q]);have aw:a<c:=J;have ax:k<b:=J;have ay:c+1<=k-1+1:=J;clear M N O l ag ah ai aj Z ad P Q;let ⟨R,ae⟩:=V6 (partLoop (ltInt) a (c+1) (k-1) g)
 repeat apply Ζ
 refine W.Uh [(0,.ms 0 n 0 n),(1,I a),(11,I R.1)] R.2 ?_ ?_
 .refine W.iter (λq:Nat×Nat×Array (Int)=>q.2.2.size=n/\a<q.1/\q.1<=q.2.1+1/\q.2.1<b/\partLoop (ltInt) a q.1 q.2.1 q.2.2=R) (λq=>[(0,.ms 0 n 0 n),(1,I a),(10,I (q.1:Nat)),(11,I (q.2.1:Nat))]) (λq=>[.cells 3 1 ((q.2.2).toList.map I)]) (λq=>q.2.1+1-q.1) (c+1,k-1,g) ⟨ab,UH,UH,UH,ae⟩ U o (λq hi H=>?_);let ⟨i,j,f⟩:=q;let ⟨X,T,V,B,Y⟩:=hi;simp only at X T V B Y;let ⟨c,M⟩:=V6 (scanUp (λx=>ltInt x f[a]!) f (j) (i));let ⟨k,N⟩:=V6 (scanDown (λx=>!ltInt x f[a]!) f c (j));let ⟨ag,ah,ai,aj,Z⟩:=IN (λx=>ltInt x f[a]!) (λx=>!ltInt x f[a]!) (λx=>rfl) f J J M N;have D:partLoop (ltInt) a i j f=if c > k then(k,f) else partLoop (ltInt) a (c+1) (k-1) (swp f c k):=by
   rw[partLoop_eq];simp only[M,N]
  refine W.to (σ':=[.cells 3 1 ((f).toList.map I)]) (env':=[(0,.ms 0 n 0 n),(1,I a),(10,I (i:Nat)),(11,I (j:Nat))]) ?_ U o;refine W.block ?_
  repeat apply Ζ
  refine W.Uh [(0,.ms 0 n 0 n),(1,I a),(10,I (c:Nat)),(11,I (j:Nat))] f ?_ ?_
  .refine W.iter (λi:Nat=>(i)<=i/\i<=(j)+1/\scanUp (λx=>ltInt x f[a]!) f (j) i=c) (λi=>[(0,.ms 0 n 0 n),(1,I a),(10,I (i:Nat)),(11,I (j:Nat))]) (λ_=>[.cells 3 1 ((f).toList.map I)]) (λi=>(j)+1-i) ((i)) ⟨Z3 _,J,M⟩ U o (λi hi H=>?_);let ⟨T,V,B⟩:=hi;by_cases l:i<=(j)
   .refine W.two I X (i:=i) (j:=a) J J λL x y _ m t F u _=>?_;have E:=Nc (i:=i) J
    repeat apply Ζ
    refine W.draw (A:=[]) Τ mixed λK w=>?_;simp;(repeat (rw[Y3];simp[l,F]));try rw[YL]
    refine Wf (Μ.p (Oj x y) (ZJ.refl _) o o) ?_;simp;(repeat (rw[Y3];simp));try rw[YL]
    refine X5 (w _ _ ?_);by_cases v:x<y
    .refine Β (by simp[v]) ?_;refine γ E ?_;exact W.to (H (i+1) ⟨J,J,C0 B l (by simp[m,t,v,ltInt])⟩ UH) (by rw[u]) (by simp[E])
    refine Δ (by simp[v]) ?_;refine W.exit U ?_;exact W.stop ⟨U,by rw[u],by rw[<-CZ B l (by simp[m,t,v,ltInt])];simp⟩
   repeat apply Ζ
   refine VB l ?_;refine Δ U ?_;refine W.exit U ?_;exact W.stop ⟨U,U,by rw[<-CY B l];simp⟩
  repeat apply Ζ
  refine W.Uh [(0,.ms 0 n 0 n),(1,I a),(10,I (c:Nat)),(11,I (k:Nat))] f ?_ ?_
  .refine W.iter (λi:Nat=>i<=(j)/\c<=i+1/\scanDown (λx=>!ltInt x f[a]!) f c i=k) (λi=>[(0,.ms 0 n 0 n),(1,I a),(10,I (c:Nat)),(11,I (i:Nat))]) (λ_=>[.cells 3 1 ((f).toList.map I)]) (λi=>i+1-c) ((j)) ⟨Z3 _,J,N⟩ U o (λi hi H=>?_);let ⟨T,V,B⟩:=hi;by_cases l:c<=i
   .refine W.two I X (i:=i) (j:=a) J J λL x y _ m t F u _=>?_;have E:=Nd (i:=i) J J
    repeat apply Ζ
    refine W.draw (A:=[]) Τ mixed λK w=>?_;simp;(repeat (rw[Y3];simp[l,F]));try rw[YL]
    refine Wf (Μ.p (Oj x y) (ZJ.refl _) o o) ?_;simp;(repeat (rw[Y3];simp));try rw[YL]
    refine X5 (w _ _ ?_);by_cases v:x<y
    .refine Δ (by simp[v]) ?_;refine W.exit U ?_;exact W.stop ⟨U,by rw[u],by rw[<-CW B l J (by simp[m,t,v,ltInt])];simp⟩
    refine Β (by simp[v]) ?_;refine γ E ?_;exact W.to (H (i-1) ⟨J,J,CX B l J (by simp[m,t,v,ltInt])⟩ UH) (by rw[u]) (by simp[E])
   repeat apply Ζ
   refine VB l ?_;refine Δ U ?_;refine W.exit U ?_;exact W.stop ⟨U,U,by rw[<-CU B l];simp⟩
  repeat apply Ζ
  by_cases l:c > k
  .have O:((k:Nat):Int)<(c:Nat):=J
   refine γ O ?_;refine Β (by simp[l]) ?_;refine W.exit U ?_;rw[D,if_pos l]at Y;exact W.stop ⟨U,by rw[<-Y],by rw[<-Y];simp⟩
  have O:¬((k:Nat):Int)<(c:Nat):=J
  have ao:=Z J
  have P:=Nc (i:=c) J
  have Q:=Nd (i:=k) J J;refine γ O ?_;refine Δ (by simp[l]) ?_;refine W.two I X (i:=c) (j:=k) J J λL x y z m t F u C=>?_
  repeat apply Ζ
  refine W.draw (A:=[]) Τ mixed λK w=>?_;simp;(repeat (rw[Y3];simp[F]));try rw[YL];refine X5 (w _ _ ?_)
  refine W.back C [(0,.ms 0 n 0 n),(1,I a),(10,I (c:Nat)),(11,I (k:Nat))] o ?_;clear F C u m t L x y z;refine γ (Ξ P Q) ?_;exact W.to (H (c+1,k-1,swp f c k) ⟨swp_size X c k,UH,UH,UH,by simp;rw[<-Y,D,if_neg l]⟩ UH) U (by simp[P,Q])
 rw[ae]at D;have ak:=oU (ltInt) (a:=a) (b:=b) _ (c+1) (k-1) g (Z3 _) ab J J J;rw[ae]at ak;let ⟨al,ap⟩:=ak;let ⟨j,h⟩:=R;simp only at al ap D;refine W.two I al (i:=j) (j:=a) J J λL x y z m t F u C=>?_
 repeat apply Ζ
 refine W.draw (A:=[]) Τ mixed λK w=>?_;simp;(repeat (rw[Y3];simp[F]));try rw[YL];refine X5 (w _ _ ?_)
 refine W.back C [(0,.ms 0 n 0 n),(1,I a),(11,I (j:Nat))] o ?_;clear F C u m t L x y z;refine Χ ?_;exact W.ret ⟨_,U,by rw[D];rfl,by rw[D]⟩
def lW(d n a b p)(T:d.size=n)(ae:n<2 ^ 40)(af:a<=p)(ag:p<b)(ah:b<=n)  :
  Ν prog 238 [.ms 0 n 0 n,I a,I b,I p] [.cells 3 1 ((d).toList.map I)] (λr s=>r=I (partitionEqual (ltInt) d a b p).1/\s=[.cells 3 1 (((partitionEqual (ltInt) d a b p).2).toList.map I)]) (λ_ _=>False):=by
 apply Ν.body Τ func238 U U ntmps238 U U o;have Z:=Nc (i:=a) J;have aa:=Nd (i:=b) J J
 repeat apply Ζ
 refine L7 ?_;refine W.two I T (i:=a) (j:=p) J J λL x y z k l F m w=>?_
 repeat apply Ζ
 refine W.draw (A:=[]) Τ mixed λK v=>?_;simp;(repeat (rw[Y3];simp[F]));try rw[YL];refine X5 (v _ _ ?_)
 apply W.back w [(0,.ms 0 n 0 n),(1,I a),(2,I b),(3,I p)] o;clear F w m k l L x y z;let ⟨e,M⟩:=ν (swp d a p);have ab:e.size=n:=by rw[M];exact swp_size T a p
 rw[<-M]
 repeat apply Ζ
 refine Ns (Ξ Z aa) ?_;refine W.to (σ':=[.cells 3 1 ((e).toList.map I)]) (env':=[(0,.ms 0 n 0 n),(1,I a),(9,I (a+1:Nat)),(10,I (b-1:Nat))]) ?_ U o;let ⟨R,V⟩:=V6 (partEqLoop (ltInt) a (a+1) (b-1) e)
 repeat apply Ζ
 apply W.Uh [(9,I R.1)] R.2
 .refine W.iter (λq=>q.2.2.size=n/\a<q.1/\q.1<=q.2.1+1/\q.2.1<b/\partEqLoop (ltInt) a q.1 q.2.1 q.2.2=R) (λq=>[(0,.ms 0 n 0 n),(1,I a),(9,I q.1),(10,I q.2.1)]) (λq=>[.cells 3 1 ((q.2.2).toList.map I)]) (λq=>q.2.1+1-q.1) (a+1,b-1,e) ⟨ab,UH,UH,UH,V⟩ U o (λq hi B=>?_);let ⟨i,j,f⟩:=q;let ⟨C,N,O,t,D⟩:=hi;simp only at C N O t D;let ⟨c,P⟩:=V6 (scanUp (λx=>!ltInt f[a]! x) f (j) (i));let ⟨h,Q⟩:=V6 (scanDown (λx=>ltInt f[a]! x) f c (j));let ⟨ai,aj,ak,al,ad⟩:=IN (λx=>!ltInt f[a]! x) (λx=>ltInt f[a]! x) (λx=>o) f J J P Q;have E:partEqLoop (ltInt) a i j f=if c > h then(c,f) else partEqLoop (ltInt) a (c+1) (h-1) (swp f c h):=by
   rw[partEqLoop_eq];simp only[P,Q]
  refine W.to (σ':=[.cells 3 1 ((f).toList.map I)]) (env':=[(0,.ms 0 n 0 n),(1,I a),(9,I (i:Nat)),(10,I (j:Nat))]) ?_ U o;apply W.block
  repeat apply Ζ
  apply W.Uh [(0,.ms 0 n 0 n),(1,I a),(9,I (c:Nat)),(10,I (j:Nat))] f
  .refine W.iter (λi=>(i)<=i/\i<=(j)+1/\scanUp (λx=>!ltInt f[a]! x) f (j) i=c) (λi=>[(0,.ms 0 n 0 n),(1,I a),(9,I (i:Nat)),(10,I (j:Nat))]) (λ_=>[.cells 3 1 ((f).toList.map I)]) (λi=>(j)+1-i) ((i)) ⟨Z3 _,J,P⟩ U o (λi hi B=>?_);let ⟨N,O,t⟩:=hi;by_cases g:i<=(j)
   .refine W.two I C (i:=i) (j:=a) J J λL x y _ k l F m _=>?_;have H:=Nc (i:=i) J
    repeat apply Ζ
    refine W.draw (A:=[]) Τ mixed λK v=>?_;simp;(repeat (rw[Y3];simp[g,F]));try rw[YL]
    apply Wf (Μ.p (Oj y x) (ZJ.refl _) o o);simp;(repeat (rw[Y3];simp));try rw[YL]
    refine X5 (v _ _ ?_);by_cases u:y<x
    .apply Δ (by simp[u]);apply W.exit U;exact W.stop ⟨U,by rw[m],by rw[<-CZ t g (by simp[k,l,u,ltInt])];simp⟩
    apply Β (by simp[u]);refine γ H ?_;exact W.to (B (i+1) ⟨J,J,C0 t g (by simp[k,l,u,ltInt])⟩ UH) (by rw[m]) (by simp[H])
   repeat apply Ζ
   refine VB g ?_;apply Δ U;apply W.exit U;exact W.stop ⟨U,U,by rw[<-CY t g];simp⟩
  repeat apply Ζ
  apply W.Uh [(0,.ms 0 n 0 n),(1,I a),(9,I (c:Nat)),(10,I (h:Nat))] f
  .refine W.iter (λi=>i<=(j)/\c<=i+1/\scanDown (λx=>ltInt f[a]! x) f c i=h) (λi=>[(0,.ms 0 n 0 n),(1,I a),(9,I (c:Nat)),(10,I (i:Nat))]) (λ_=>[.cells 3 1 ((f).toList.map I)]) (λi=>i+1-c) ((j)) ⟨Z3 _,J,Q⟩ U o (λi hi B=>?_);let ⟨N,O,t⟩:=hi;by_cases g:c<=i
   .refine W.two I C (i:=i) (j:=a) J J λL x y _ k l F m _=>?_;have H:=Nd (i:=i) J J
    repeat apply Ζ
    refine W.draw (A:=[]) Τ mixed λK v=>?_;simp;(repeat (rw[Y3];simp[g,F]));try rw[YL]
    apply Wf (Μ.p (Oj y x) (ZJ.refl _) o o);simp;(repeat (rw[Y3];simp));try rw[YL]
    refine X5 (v _ _ ?_);by_cases u:y<x
    .apply Β (by simp[u]);refine γ H ?_;exact W.to (B (i-1) ⟨J,J,CX t g J (by simp[k,l,u,ltInt])⟩ UH) (by rw[m]) (by simp[H])
    apply Δ (by simp[u]);apply W.exit U;exact W.stop ⟨U,by rw[m],by rw[<-CW t g J (by simp[k,l,u,ltInt])];simp⟩
   repeat apply Ζ
   refine VB g ?_;apply Δ U;apply W.exit U;exact W.stop ⟨U,U,by rw[<-CU t g];simp⟩
  repeat apply Ζ
  by_cases g:c > h
  .have S:((h:Nat):Int)<(c:Nat):=J
   refine γ S ?_;apply Β (by simp[g]);apply W.exit U;rw[E,if_pos g]at D;exact W.stop ⟨U,by rw[<-D],by rw[<-D];simp⟩
  have S:¬((h:Nat):Int)<(c:Nat):=J
  have am:=ad J
  have X:=Nc (i:=c) J
  have Y:=Nd (i:=h) J J;refine γ S ?_;apply Δ (by simp[g]);refine W.two I C (i:=c) (j:=h) J J λL x y z k l F m w=>?_
  repeat apply Ζ
  refine W.draw (A:=[]) Τ mixed λK v=>?_;simp;(repeat (rw[Y3];simp[F]));try rw[YL];refine X5 (v _ _ ?_)
  apply W.back w [(0,.ms 0 n 0 n),(1,I a),(9,I (c:Nat)),(10,I (h:Nat))] o;clear F w m k l L x y z;refine γ (Ξ X Y) ?_;exact W.to (B (c+1,h-1,swp f c h) ⟨swp_size C c h,UH,UH,UH,by simp;rw[<-D,E,if_neg g]⟩ UH) U (by simp[X,Y])
 refine Χ ?_;have E:partitionEqual (ltInt) d a b p=R:=by unfold partitionEqual;rw[<-M,V]
 exact W.ret ⟨_,U,by rw[E];rfl,by rw[E]⟩
def Cp(d:Array (Int))(n a b s:Nat)(m:d.size=n)(t:a<n)(u:b<n)(D:s<2 ^ 40)  :
  Ν prog 274 [.ms 0 n 0 n,I a,I b,.Ο 1 1 0 0] [.cells 3 1 (d.toList.map I),.cells 3 1 [I s]] (λr σ=>r=.Z7 [I (order2 (ltInt) d a b s).1,I (order2 (ltInt) d a b s).2.1]/\σ=[.cells 3 1 (d.toList.map I),.cells 3 1 [I (order2 (ltInt) d a b s).2.2]]) (λ_ _=>False):=by
 refine Ν.body Τ func274 U U ntmps274 U U o ?_;obtain⟨L,e⟩:=ν (d.toList.map I);have v:L.length=n:=by rw[e];simpa using m
 obtain⟨x,f⟩:=ν (d[a]!);obtain⟨y,g⟩:=ν (d[b]!);have i:L[a]?=some (I x):=by rw[e,f,YK,Xf,Rs J];rfl
 have j:L[b]?=some (I y):=by rw[e,g,YK,Xf,Rs J];rfl
 have w:∀h:a<L.length,L[a]=I x:=λh=>by have:=i;rw[ξ h]at this;exact Xq this
 have B:∀h:b<L.length,L[b]=I y:=λh=>by have:=j;rw[ξ h]at this;exact Xq this
 have k:i64.wrap ((s:Int)+1)=((s+1:Nat):Int):=by rw[i64_in _ J];omega
 have l:order2 (ltInt) d a b s=if ltInt y x=true then(b,a,s+1) else(a,b,s):=by unfold order2;rw[<-f,<-g]
 rw[l,<-e];clear e f g l;refine Χ ?_;refine W.draw (A:=[]) Τ mixed λE C=>SY (Ξ v (Ξ i (Ξ j (Ξ w B)))) ?_;refine⟨u,t,?_⟩;refine Wf (Μ.p (Oj y x) (ZJ.refl _) o o) ?_;simp;(repeat (rw[Y3];simp));try rw[YL]
 refine X5 (C _ _ ?_);by_cases c:y<x
 .refine Β (by simp[c]) ?_;refine γ k ?_;exact W.ret ⟨_,U,by simp[Zh,ltInt,c],by simp[Zh,ltInt,c]⟩
 refine Δ (by simp[c]) ?_;refine γ k ?_;exact W.ret ⟨_,U,by simp[Zh,ltInt,c],by simp[Zh,ltInt,c]⟩
def lV(d)(n a b c s:Nat)(i:d.size=n)(H:a<n)(K:b<n)(L:c<n)(M:s<2 ^ 39)  :
  Ν prog 258 [.ms 0 n 0 n,I a,I b,I c,.Ο 1 1 0 0] [.cells 3 1 ((d).toList.map I),.cells 3 1 [I s]] (λr σ=>r=I (median (ltInt) d a b c s).1/\σ=[.cells 3 1 ((d).toList.map I),.cells 3 1 [I ((median (ltInt) d a b c s).2:Nat)]]) (λ_ _=>False):=by
 apply Ν.body Τ func258 U U ntmps258 U U o;let ⟨A,w⟩:=V6 (order2 (ltInt) d a b s);have f1:=CV (ltInt) d (a:=a) (b:=b) J J s;have j:=Cp d n a b s i J J J;rw[w]at f1 j;let ⟨k,l,m⟩:=A;simp only at f1 j;let ⟨B,Υ⟩:=V6 (order2 (ltInt) d l c m);have f2:=CV (ltInt) d (a:=l) (n:=n) J J m;have p:=Cp d n l c m i J J J;rw[Υ]at f2 p;let ⟨t,N,u⟩:=B;simp only at f2 p;let ⟨C,x⟩:=V6 (order2 (ltInt) d k t u);have f3:=CV (ltInt) d (a:=k) (b:=t) (n:=n) J J u;have v:=Cp d n k t u i J J J;rw[x]at f3 v;let ⟨O,D,E⟩:=C;simp only at f3 v;have F:median (ltInt) d a b c s=(D,E):=by unfold median;simp[w,Υ,x]
 rw[F]
 repeat apply Ζ
 refine L7 ?_;refine ο λy e=>?_;refine Ν.call ((j).mono (λr s ⟨f,g⟩=>?_) (λ_ _ h=>h.elim));subst f;subst g;simp;(repeat (rw[Ι];simp));apply e;refine ο λy e=>?_;refine Ν.call ((p).mono (λr s ⟨f,g⟩=>?_) (λ_ _ h=>h.elim));subst f;subst g;simp;(repeat (rw[Ι];simp));apply e;refine ο λy e=>?_;refine Ν.call ((v).mono (λr s ⟨f,g⟩=>?_) (λ_ _ h=>h.elim));subst f;subst g;simp;(repeat (rw[Ι];simp));apply e;refine Χ ?_;exact W.ret ⟨_,U,U,U⟩
def lU(d)(n a b:Nat)(x:d.size=n)(ad:n<2 ^ 38)(ae:a+12<b)(af:b<a+50)(ag:b<=n)  :
  Ν prog 234 [.ms 0 n 0 n,I a,I b] [.cells 3 1 ((d).toList.map I)] (λr s=>r=.Z7 [I (choosePivot (ltInt) d a b).1,I (FI (choosePivot (ltInt) d a b).2)]/\s=[.cells 3 1 ((d).toList.map I)]) (λ_ _=>False):=by
 apply Ν.body Τ func234 U U ntmps234 U U o;let ⟨l,y⟩:=ν (b-a);let ⟨q,v⟩:=ν (l / 4);let ⟨e,B⟩:=ν (q*2);let ⟨f,C⟩:=ν (q*3);let ⟨i,hi⟩:=ν (a+q);let ⟨j,D⟩:=ν (a+e);let ⟨k,E⟩:=ν (a+f);let ⟨F,em⟩:=V6 (median (ltInt) d i j k 0);have g:=lV d n i j k 0 x J J J J;rw[em]at g;let ⟨w,c⟩:=F;simp only at g;have H:choosePivot (ltInt) d a b=(w,if c=0 then .increasing else if c=12 then .decreasing else .unknown):=by
  have K:8<=l:=J
  have L:¬50<=l:=J;simp only[choosePivot,<-y,<-v,SH,<-B,<-C,<-hi,<-D,<-E,ge_iff_le,if_pos K,if_neg L,em]
 rw[H];have M:8<=(l:Int):=J;have N:¬50<=(l:Int):=J;have w1:i64.wrap (b-a)=l:=by rw[i64_in _ J];omega
 have O:i64.wrap (l / 4)=q:=by rw[v];exact yC (m:=4) J
 have P:i64.wrap q=(q:Int):=i64_in _ J
 have Q:i64.wrap ((q:Int)*2)=(e:Int):=by rw[i64_in _ J];omega
 have R:i64.wrap ((q:Int)*3)=(f:Int):=by rw[i64_in _ J];omega
 have S:i64.wrap ((a:Int)+(q:Int))=(i:Int):=by rw[i64_in _ J];omega
 have T:i64.wrap ((a:Int)+(e:Int))=(j:Int):=by rw[i64_in _ J];omega
 have V:i64.wrap ((a:Int)+(f:Int))=(k:Int):=by rw[i64_in _ J];omega
 repeat apply Ζ
 refine L7 ?_
 repeat apply Ζ
 refine Ns w1 ?_
 repeat apply Ζ
 refine ZB (A:=[9]) Τ λX p=>ς ?_;apply p;refine γ (Ξ O (Ξ P (Ξ Q (Ξ R (Ξ S (Ξ T (Ξ V @M))))))) ?_;apply Β o;refine γ @N ?_;apply Δ o;refine ο λX p=>?_;refine Ν.call (first:=[]) (captured:=[]) ((g).mono (λr s ⟨Y,Z⟩=>?_) (λ_ _ h=>h.elim));subst Y;subst Z;simp;(repeat (rw[Ι];simp));apply p
 repeat apply Ζ
 refine L7 ?_;apply W.drop (h:=1) o o (oS Oi) U [(11,I (w:Nat)),(49,I (c:Nat))] o;by_cases t:c=0
 .subst t;refine Χ ?_;apply Β U;refine Χ ?_;exact W.ret ⟨_,U,U,U⟩
 have aa:¬(c:Int)=0:=J;refine γ aa ?_;apply Δ (by simp[t]);by_cases u:c=12
 .subst u;refine Χ ?_;apply Β U;refine Χ ?_;exact W.ret ⟨_,U,U,U⟩
 have ab:¬(c:Int)=12:=J;refine γ ab ?_;apply Δ (by simp[u]);refine Χ ?_;exact W.ret ⟨_,U,by simp[t,u,FI],U⟩
structure lT where
 a:Nat
 wp:Bool
 e:Array Int
structure xp(d0 d1 d2 d3 d4:Array Int):Prop where
 s:(d0.size=27/\d1.size=27)/\d2.size=27/\d3.size=27
 c1:choosePivot ltInt d0 0 27=(12,.unknown)
 lS:partition ltInt d0 0 27 12=(9,false,d1)
 i1:insertionSort ltInt d1 0 9=d2
 c2:choosePivot ltInt d2 10 27=(18,.increasing)
 l2:ltInt d2[9]! d2[18]! = false
 Υ:partitionEqual ltInt d2 10 27 18=(18,d3)
 i2:insertionSort ltInt d3 18 27=d4
def lR(d:Array Int)(n a b c:Nat)(p:n<50)(e:d.size=n)(f:a<=b)(i:b<=n)(t:b-a<=12) :
  Ν prog 210 [.ms 0 n 0 n,I a,I b,I c] [.cells 3 1 (d.toList.map I)] (λr s=>r=.Z7 []/\s=[.cells 3 1 ((insertionSort ltInt d a b).toList.map I)]) (λ_ _=>False):=by
 refine Ν.body Τ func210 U U ntmps210 U U o ?_;obtain⟨l,u⟩:=ν (b-a);have w1:i64.wrap ((b:Int)-(a:Int))=(l:Int):=by rw[i64_in _ J];omega
 have g:(l:Int)<=12:=J;refine Χ ?_;refine .loop ?_;refine γ (Ξ w1 g) ?_;refine Β o ?_;refine ο λv j=>?_;refine Ν.call (first:=[]) (captured:=[]) ((D1 d n a b e f i J).mono (λr s ⟨k,m⟩=>?_) (λ_ _ h=>h.elim));subst k;subst m;simp;(repeat (rw[Ι];simp));apply j;exact W.ret ⟨_,U,U,U⟩
def lQ{n j:Nat}(w:n=27)(ah:j=5){d0 d1 d2 d3 d4:Array Int}(R:xp d0 d1 d2 d3 d4) :
  Ν prog 210 [.ms 0 n 0 n,I (0:Nat),I n,I j] [.cells 3 1 (d0.toList.map I)] (λr s=>r=.Z7 []/\s=[.cells 3 1 (d4.toList.map I)]) (λ_ _=>False):=by
 refine Ν.body Τ func210 U U ntmps210 U U o ?_;refine Χ ?_;refine W.iter (λq:lT=>(q.a=0/\q.wp=true/\q.e=d0)\/(q.a=10/\q.wp=false/\q.e=d2)\/(q.a=18/\q.wp=false/\q.e=d3)) (λq=>[(0,.ms 0 n 0 n),(1,I q.a),(2,I n),(3,I j),(8,ZU true),(9,ZU q.wp)]) (λq=>[.cells 3 1 (q.e.toList.map I)]) (λq=>27-q.a) ⟨0,true,d0⟩ (.inl ⟨U,U,U⟩) U o (λq D O=>?_);obtain⟨a,B,e⟩:=q;simp only at D O ⊢;obtain⟨⟨aB,aC⟩,aD,aE⟩:=R.s;have E:e.size=n:=by rcases D with⟨_,_,rfl⟩|⟨_,_,rfl⟩|⟨_,_,rfl⟩<;>omega
 obtain⟨l,aa⟩:=ν (n-a);have aF:a<=18:=J;have w1:i64.wrap ((n:Int)-(a:Int))=(l:Int):=by rw[i64_in _ J];omega
 by_cases Q:a=18
 .obtain rfl:e=d3:=by rcases D with⟨h,_⟩|⟨h,_⟩|⟨_,_,h⟩<;>first|exact h|omega
  have g:(l:Int)<=12:=J;refine γ (Ξ w1 g) ?_;refine Β o ?_;refine ο λF c=>?_;refine Ν.call (first:=[]) (captured:=[]) ((D1 e n a n E J (Z3 _) J).mono (λr s ⟨d,f⟩=>?_) (λ_ _ h=>h.elim));subst d;subst f;simp;(repeat (rw[Ι];simp));apply c;exact W.ret ⟨_,U,U,by rw[Q,w,R.i2]⟩
 obtain⟨b,k,S,ai,aj,aG,H⟩:∃b k,choosePivot ltInt e a n=(b,k)/\k≠.decreasing/\(B&&decide (k=.increasing))=false/\a<=b/\b<n:=by
  subst w;rcases D with⟨rfl,rfl,rfl⟩|⟨rfl,rfl,rfl⟩|⟨h,_⟩
  .exact⟨12,.unknown,R.c1,o,U,J,J⟩
  .exact⟨18,.increasing,R.c2,o,U,J,J⟩
  exact absurd h Q
 have g:¬(l:Int)<=12:=J
 have ak:¬(j:Int)=0:=J;refine γ (Ξ w1 g) ?_;refine Δ o ?_;refine γ ak ?_;refine Δ (by simp[ah]) ?_;refine Χ ?_;refine Δ U ?_
 repeat apply Ζ
 have T:=lU e n a n E J J J (Z3 _);rw[S]at T;simp only at T;refine ο λF c=>?_;refine Ν.call (first:=[]) (captured:=[]) ((T).mono (λr s ⟨d,f⟩=>?_) (λ_ _ h=>h.elim));subst d;subst f;simp;(repeat (rw[Ι];simp));apply c;refine W.to (σ':=[.cells 3 1 (e.toList.map I)]) (env':=[(0,.ms 0 n 0 n),(1,I a),(2,I n),(3,I j),(8,ZU true),(9,ZU B),(10,I l),(11,I b),(12,I (FI k))]) ?_ U o;refine Χ ?_;refine Δ (by cases k with
  | decreasing=>exact absurd rfl ai
  | unknown=>rfl
  | increasing=>rfl) ?_
 repeat apply Ζ
 refine W.P4 (A:=[]) Τ [(68,ZU (true&&B&&decide (k=.increasing))),(0,.ms 0 n 0 n),(1,I a),(2,I n),(3,I j),(8,ZU true),(9,ZU B),(10,I l),(11,I b)] ?_ (by cases B<;>cases k<;>simp[Ι,QL,FI])
 repeat apply Ζ
 refine Δ (by simp only[Bool.true_and,aj];rfl) ?_
 repeat apply Ζ
 obtain⟨P,M⟩:=V6 ((decide (a > 0)&&!ltInt e[a-1]! e[b]!):Bool);refine W.GA (A:=[]) Τ mixed [(87,ZU P),(0,.ms 0 n 0 n),(1,I a),(2,I n),(3,I j),(8,ZU true),(9,ZU B),(10,I l),(11,I b)] ?_ (by
  by_cases V:0<a
  .obtain⟨p,al⟩:=ν (a-1);have ab:p<n:=J;have ad:b<n:=J;obtain⟨L,x,y,am,C,ae,aa,⟨an,ao⟩,⟨ap,aq⟩,-,-⟩:=yD I E ab ad;have X:P = !ltInt x y:=by rw[<-M,<-al,C,ae];simp[V]
   have Y:(0:Int)<(a:Int):=J
   have ar:i64.wrap ((a:Int)-1)=(p:Int):=by rw[i64_in _ J];omega
   rw[am];clear C ae;simp;(repeat (rw[Y3];simp[V,Y,ar,aa,an,ao,ap,aq,ab,ad]));(try rw[YL]);refine Wf (Μ.p (Oj x y) (ZJ.refl _) o o) ?_;simp;(repeat (rw[Y3];simp));(try rw[YL]);refine⟨UW XL,?_⟩;simp[X,ltInt]
  have X:P=false:=by rw[<-M];simp[V]
  have Y:a=0:=J;subst Y;simp;(repeat (rw[Y3];simp));(try rw[YL]);refine⟨UW XL,?_⟩;simp[X])
 repeat apply Ζ
 rcases D with⟨t,rfl,rfl⟩|⟨t,rfl,rfl⟩|⟨h,_⟩
 ·
  have H:b=12:=by
   have:=R.c1;rw[<-w,<-t,S]at this;exact congrArg Prod.fst this
  have Z:P=false:=by rw[<-M,t];rfl
  refine Δ (by simp[Z]) ?_;have i:=lX e n a n b E J J J (Z3 _);have C:partition ltInt e a n b=(9,false,d1):=by rw[t,H,w];exact R.lS
  rw[C]at i;simp only at i;obtain⟨mid,K⟩:=ν (9:Nat);obtain⟨u,aH⟩:=ν (mid-a);obtain⟨v,hv⟩:=ν (n-mid);obtain⟨af,au⟩:=ν (l / 8);obtain⟨N,aI⟩:=ν (mid+1);have av:i64.wrap ((mid:Int)-(a:Int))=(u:Int):=by rw[i64_in _ J];omega
  have aw:i64.wrap ((n:Int)-(mid:Int))=(v:Int):=by rw[i64_in _ J];omega
  have ax:i64.wrap ((l:Int) / 8)=(af:Int):=by rw[au];exact yC (m:=8) J
  have ay:i64.wrap ((mid:Int)+1)=(N:Int):=by rw[i64_in _ J];omega
  have az:(u:Int)<(v:Int):=J
  have aA:af<=u:=J
  have ag:=lR d1 n a mid j J J J J J
  have hi:insertionSort ltInt d1 a mid=d2:=by rw[t,K];exact R.i1
  rw[hi]at ag;rw[<-K]at i;refine ο λF c=>?_;refine Ν.call (first:=[]) (captured:=[]) ((i).mono (λr s ⟨d,f⟩=>?_) (λ_ _ h=>h.elim));subst d;subst f;simp;(repeat (rw[Ι];simp));apply c;refine γ (Ξ av (Ξ aw (Ξ ax @az))) ?_;refine Β o ?_;refine ο λF c=>?_;apply c;refine ο λF c=>?_;refine Ν.call (first:=[]) (captured:=[]) ((ag).mono (λr s ⟨d,f⟩=>?_) (λ_ _ h=>h.elim));subst d;subst f;simp;(repeat (rw[Ι];simp));apply c;refine γ ay ?_;exact W.to (O ⟨N,false,d2⟩ (.inr (.inl ⟨by show N=10;omega,U,U⟩)) (by show 27-N<27-a;omega)) U (by simp[aA])
 ·
  have H:b=18:=by
   have:=R.c2;rw[<-w,<-t,S]at this;exact congrArg Prod.fst this
  have Z:P=true:=by rw[<-M,t,H,show 10-1=9 from rfl,R.l2];rfl
  refine Β (by simp[Z]) ?_;have i:=lW e n a n b E J J J (Z3 _);have C:partitionEqual ltInt e a n b=(18,d3):=by rw[t,H,w];exact R.Υ
  rw[C]at i;simp only at i;obtain⟨mid,K⟩:=ν (18:Nat);rw[<-K]at i;refine ο λF c=>?_;refine Ν.call (first:=[]) (captured:=[]) ((i).mono (λr s ⟨d,f⟩=>?_) (λ_ _ h=>h.elim));subst d;subst f;simp;(repeat (rw[Ι];simp));apply c;refine Χ ?_;refine W.exit U ?_;exact W.to (O ⟨mid,false,d3⟩ (.inr (.inr ⟨K,U,U⟩)) (by show 27-mid<27-a;omega)) U o
 .exact absurd h Q
end Go.TL
