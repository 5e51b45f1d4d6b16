import Derived.Sort.LotC
import Derived.Sort.LotD5
import Derived.Sort.Walk13a
import Derived.Test.YtkndbcflmgogjaaGreatTAJ
set_option linter.defProp false
set_option maxHeartbeats 16000000
set_option maxRecDepth 20000
set_option linter.unusedSectionVars false
set_option linter.unusedSimpArgs false
set_option linter.unusedVariables false
namespace Go.TL
open Go.Proofs.Tryz
open Go.Proofs
variable[Z8]
def oZ(d n):(Vy d n).1.Pairwise (· < ·)/\∀x∈(Vy d n).1,0<=x/\x<n:=by
 induction n with
 | zero=>exact⟨List.Pairwise.nil,λx h=>(by cases h)⟩
 | succ n e=>
  show((Vy d n).1++_).Pairwise _/\∀x∈(Vy d n).1++_,_;constructor
  .rw[Lp];refine⟨e.1,by split<;>simp,λa g b f=>?_⟩;have:=e.2 a g;split at f
   .simp at f;omega
   simp at f
  intro x c;rcases VS.1 c with c|c
  .have:=e.2 x c;omega
  split at c
  .simp at c;omega
  simp at c
structure N5(L:List (ψ)):Prop where
 lo:1<=L.length
 hi:L.length<=4
 each:∀l∈L,l.length<=3/\l.Pairwise (· < ·)/\∀x∈l,0<=x/\x<3
def oY{l}(b:l.Pairwise (· < ·))(c:∀x∈l,0<=x/\x<3):KD l=0:=by
 refine LJ λx d=>?_;obtain⟨i,hi,rfl⟩:=ZG.1 d;have hi:=VR.1 hi;unfold LX;rw[ξ hi];have e:=c _ (YW hi);simp only;rw[if_neg,if_neg]
 .rintro⟨f,a⟩;rw[ξ J]at a;have:=Tm.1 b (i-1) i J hi J;simp[Option.getD_some]at a;omega
 unfold KH;simp;omega
def N5.err{L}(h:N5 L):Rq L=0:=by
 unfold Rq;have d:=h.lo;have e:=h.hi;rw[if_neg J,if_neg J];refine LJ λx a=>?_;obtain⟨i,hi,rfl⟩:=ZG.1 a;have hi:=VR.1 hi;rw[ξ hi];let ⟨_,b,c⟩:=h.each _ (YW hi);exact oY b c
abbrev Yu:Ψ:=.sl true 0 []
structure oX where
 k:Nat
 d:ZF
 L:List (ψ)
def C2{L:List (ψ)}:∀e∈L.map (δ I 1),∀a∈e.cells,ω 0 a:=λe c a b=>by
 obtain⟨x,_,rfl⟩:=ZG.1 c;simp[Ψ.cells]at b;subst b;simp
def oW(d:ZF)(hd:d.Z4.length<2 ^ 63)(w t:Nat)(aa:1<=w)(ab:w<=6)(am:t<=4) :
  Ν prog 157 [.Ο 0 1 0 0,I w,I t] [ZS d] (λa s=>∃G L nc O,Yw a (.Z' [.ms 2 G.length 0 G.length,Yv L,.ms 5 nc 0 nc])/\Tr G/\N5 L/\(nc<=t/\G.length<=w/\L.length<=3)/\s=[ZS O,.dead,.cells 92 2 (G.map X4),.dead,.dead,.cells 103 1 (List.replicate nc Yu)]/\O.Z4.length<=d.Z4.length) (λ_ _=>False):=by
 refine Ν.body Τ func157 U U ntmps157 U U o ?_
 repeat apply Ζ
 refine ZB (A:=[6]) Τ λu f=>ς ?_;apply f
 repeat apply Ζ
 refine ZB (A:=[7]) Τ λu f=>ς ?_;refine o0 d hd w aa ab U ?_;intro G d1 ad ae af;simp;(repeat (rw[Ι];simp));apply f;obtain⟨g,P⟩:=ν G.length;obtain⟨Q,R⟩:=ν (Row.cells 92 2 (G.map X4));rw[<-P,<-R];refine Nf 1 3 af λz d2 ag n0 an H=>?_;obtain⟨E,rfl⟩:∃n:Nat,z=n:=⟨z.toNat,J⟩;refine ο λu f=>?_;refine Zc.g (H) (ς ?_);apply f
 repeat apply Ζ
 refine W.IQ 22 1 (i:=3) (r:=Rn (.ms 2 g 0 g) Yu Yu) (r':=Rn (.ms 2 g 0 g) (.ms 4 0 0 0) Yu) U (SR.field (j:=1) U) [(0,.Ο 0 1 0 0),(2,I t),(6,.Ο 1 1 0 0),(7,.Ο 3 1 0 0),(8,I E)] (λp b=>by
  simp only[YU,XW,or_false]at b;rcases b with rfl|rfl|rfl|rfl|rfl<;>exact .same _) ?_
 refine W.iter (λx:oX=>x.L.length+x.k=E/\x.d.Z4.length<=d.Z4.length/\∀l∈x.L,l.length<=3/\l.Pairwise (· < ·)/\∀y∈l,0<=y/\y<3)
  (λx=>[(0,.Ο 0 1 0 0),(2,I t),(6,.Ο 1 1 0 0),(7,.Ο 3 1 0 0),(8,I x.k)])
  (λx=>[ZS x.d,Rn Yu Yu Yu,Q,Rn (.ms 2 g 0 g) (.ms 4 x.L.length 0 x.L.length) Yu,.cells 22 1 (x.L.map (δ I 1))]) (λx=>x.k) ⟨E,d2,[]⟩ ⟨o,ag,o⟩ U o (λx h v=>?_)
 obtain⟨k,D,L⟩:=x;obtain⟨ah,S,K⟩:=h;simp only at ah S K v ⊢;refine Χ ?_;refine W.YD U (λm=>?_) (λm=>?_)
 .have F:0<k:=by simpa using m
  have B:IntKind.i64.wrap ((k:Int)-1)=(k-1:Nat):=by rw[IntWalk.i64_in _ J];omega
  have hi:=pq D J
  have M:=oZ D 3
  have T:=yM D 3
  have ai:=yN D 3;obtain⟨l,V⟩:=V6 ((Vy D 3).1);obtain⟨X,Y⟩:=V6 ((Vy D 3).2);rw[V,Y]at hi;rw[V]at M T;rw[Y]at ai;have C:=v ⟨k-1,X,L++[l]⟩ ⟨by show(L++[l]).length+(k-1)=E;simp;omega,by show X.Z4.length<=_;omega,λx h=>by
   rcases VS.1 h with h|h
   .exact K x h
   simp at h;subst h;exact⟨T,M.1,M.2⟩⟩ (by show k-1<k;omega)
  simp only[VH,List.length_singleton,WT,WY,OE]at C;have N:L.length<=4294967295:=J
  repeat apply Ζ
  refine W.L8 [0,1] [3] [3] (A:=[25]) Τ mixed λu f=>?_;simp;(repeat (rw[Rv];simp[QI,XD,VD,N]));(try rw[P2]);refine Zc.d (hi) 0 o (ZJ.refl _) o o ?_;simp[XD,N];(repeat (rw[Rv];simp[QI,XD,VD,N]));(try rw[P2]);refine⟨L' XL,f _ _ ?_⟩;refine γ B ?_;exact W.to C U (by simp[B])
 have F:k=0:=by simp at m;omega
 subst F;have aj:N5 L:=⟨J,J,K⟩;clear v m;refine W.exit U ?_;refine Nf 0 t S λz d3 ak ao ap H=>?_;obtain⟨nc,rfl⟩:∃n:Nat,z=n:=⟨z.toNat,J⟩;refine ο λu f=>?_;refine Zc.g (H) (ς ?_);apply f
 repeat apply Ζ
 refine W.IQ 103 1 (i:=3) (r:=Rn (.ms 2 g 0 g) (.ms 4 L.length 0 L.length) Yu) (r':=Rn (.ms 2 g 0 g) (.ms 4 L.length 0 L.length) (.ms 5 0 0 0)) U (SR.field (j:=2) U) [(0,.Ο 0 1 0 0),(6,.Ο 1 1 0 0),(7,.Ο 3 1 0 0),(9,I nc)] (λp b=>by
  simp only[YU,XW,or_false]at b;rcases b with rfl|rfl|rfl|rfl<;>exact .same _) ?_
 refine W.iter (λx:Nat×Nat=>x.1+x.2=nc)
  (λx=>[(0,.Ο 0 1 0 0),(6,.Ο 1 1 0 0),(7,.Ο 3 1 0 0),(9,I x.1)])
  (λx=>[ZS d3,Rn Yu Yu Yu,Q,Rn (.ms 2 g 0 g) (.ms 4 L.length 0 L.length) (.ms 5 x.2 0 x.2),.cells 22 1 (L.map (δ I 1)),.cells 103 1 (List.replicate x.2 Yu)]) (λx=>x.1) (nc,0) o U o (λx h v=>?_)
 obtain⟨k,c⟩:=x;simp only at h v ⊢;refine Χ ?_;refine W.YD U (λm=>?_) (λm=>?_)
 .have F:0<k:=by simpa using m
  have B:IntKind.i64.wrap ((k:Int)-1)=(k-1:Nat):=by rw[IntWalk.i64_in _ J];omega
  have C:=v (k-1,c+1) (by show k-1+(c+1)=nc;omega) (by show k-1<k;omega);rw[List.replicate_succ']at C
  repeat apply Ζ
  refine ZB (A:=[37]) Τ λu f=>ς ?_;refine⟨J,?_⟩;apply f;refine γ B ?_;exact W.to C U (by simp[B])
 have F:k=0:=by simp at m;omega
 have al:c=nc:=J;subst al;obtain⟨RC,Z⟩:=ν (Row.cells 103 1 (List.replicate c Yu));rw[<-Z];refine W.Km (id:=4) (q:=3) (l:=L.map (δ I 1)) o U U (.inr (C4 .same _ _ (j:=1) U (v':=Yv L) (by have:=R0.ms (id:=4) (k:=1) (l:=L.map (δ I 1));rwa [WS]at this))) o [(6,.Ο 1 1 0 0),(7,.Ο 3 1 0 0)] (λp b=>by
  simp only[YU,XW,or_false]at b;rcases b with rfl|rfl<;>exact .same _) ?_
 refine W.exit U ?_;refine ο λu f=>?_;apply f;refine W.Km (id:=3) (q:=0) o U U (.inl U) o [(6,.Ο 1 1 0 0)] (λp b=>by simp at b;subst b;exact .same _) ?_;refine W.Km (id:=1) (q:=0) o U U (.inl U) o [(6,.Κ [.ms 2 g 0 g,Yv L,.ms 5 c 0 c])] (λp b=>by simp at b;subst b;exact .Ο (e:=.Z' [.ms 2 g 0 g,Yv L,.ms 5 c 0 c]) U) ?_;exact W.ret ⟨_,U,G,L,c,d3,by rw[<-P];exact .refl _,ad,aj,⟨J,ae,J⟩,by rw[Z,R];rfl,ak⟩
structure C1(n:Nat)(c:List Xo):Prop where
 hi:c.length<=4
 apart:(c.map (·.Xn)).Nodup
 each:∀p∈c,(0<=p.Xn/\p.Xn<n)/\(0<=p.seen/\p.seen<=63)/\(0<=p.bare/\p.bare<=63)/\L6 p.seen p.bare=0
structure LF(s:Zm):Prop where
 Z2:Tr s.Z2
 ZE:N5 s.ZE
 many:s.cells.length<=4
 cells:∀c∈s.cells,C1 s.ZE.length c
def C1.err{s:Zm}{c:List Xo}(h:C1 s.ZE.length c):PX s c=0:=by
 unfold PX;have:=h.hi;rw[if_neg J];refine LJ λx b=>?_;obtain⟨i,hi,rfl⟩:=ZG.1 b;have hi:=VR.1 hi;rw[ξ hi];obtain⟨g,k,l,d⟩:=h.each _ (YW hi);simp only;unfold U9;rw[if_neg J,if_neg,if_neg (by unfold valid;simp;omega),if_pos d];intro e;obtain⟨y,f,a⟩:=Ti.1 e;obtain⟨j,m,rfl⟩:=List.mem_take_iff_getElem.1 f;have hd:=Tm.1 h.apart j i (by simp;omega) (by simpa using hi) J;simp at a hd;exact hd a
def LF.err{s:Zm}(h:LF s):s.err=0:=by
 unfold Zm.err;rw[h.Z2.err,h.ZE.err,if_neg o,if_neg o];unfold Og;have:=h.many;rw[if_neg J];refine LJ λx a=>?_;obtain⟨i,hi,rfl⟩:=ZG.1 a;have hi:=VR.1 hi;rw[ξ hi];exact(h.cells _ (YW hi)).err
def LF.small{s:Zm}(h:LF s):s.small:=by
 have b:=h.Z2.hi
 have c:=h.ZE.hi
 have d:=h.many;refine⟨J,J,J,λx a=>?_,λx a=>?_⟩
 .have:=(h.ZE.each x a).1;omega
 have:=(h.cells x a).hi;omega
def oV(d:ZF)(hd:d.Z4.length<2 ^ 63)(f g:Nat)(n:1<=f)(p:f<=6)(t:g<=4){σ:Ρ}{K E:Ψ->Ρ->Prop}(u:σ[0]?=some (ZS d))
  (v:∀G L nc b,Tr G->N5 L->nc<=g/\G.length<=f/\L.length<=3->b.Z4.length<=d.Z4.length->K (.Z' [.ms (σ.length+1) G.length 0 G.length,Yv L,.ms (σ.length+4) nc 0 nc]) (σ.set 0 (ZS b)++[.dead,.cells 92 2 (G.map X4),.dead,.dead,.cells 103 1 (List.replicate nc Yu)])) :
  Yi prog (.fn (.func 157) [] []) [.Ο 0 1 0 0,I f,I g] σ K E:=by
 have l:=Ν.SZ (oW d hd f g n p t) (ZJ.refl _) (K':=λa s=>∃G L nc b,a=.Z' [.ms 2 G.length 0 G.length,Yv L,.ms 5 nc 0 nc]/\Tr G/\N5 L/\(nc<=g/\G.length<=f/\L.length<=3)/\s=[ZS b,.dead,.cells 92 2 (G.map X4),.dead,.dead,.cells 103 1 (List.replicate nc Yu)]/\b.Z4.length<=d.Z4.length) (λa s ⟨G,L,nc,b,l,w⟩=>⟨_,l,G,L,nc,b,U,w⟩)
 have x:=Ν.Ec (σ:=σ) l [0] o U (λj i m=>by
  cases j with
  | zero=>simp at m;subst m;exact u
  | succ j=>simp at m) (λr k=>by simp at k;subst k;exact TV d) (by
   intro a c;simp at c;rcases c with rfl|rfl|rfl
   .exact OF
   .exact(ω.z _).U' 1
   .exact(ω.z _).U' 1) (K':=K) (E':=E) (λa s=>by
   rintro⟨G,L,nc,b,rfl,y,A,B,rfl,C⟩;refine⟨λr k=>?_,?_,?_⟩
   .simp only[YU,XW,or_false]at k;rcases k with rfl|rfl|rfl|rfl|rfl|rfl
    .exact .inl (TV b)
    .exact .inr U
    .exact .inl FJ
    .exact .inr U
    .exact .inr U
    refine .inl λe D a c=>?_;obtain rfl:=E5 D;simp[Ψ.cells]at c;subst c;simp[TY]
   .intro a c;simp only[YU,XW,or_false]at c;rcases c with rfl|rfl|rfl
    .show 2<_;simp
    .exact ω.top (TY.2 C2) _
    show 5<_;simp
   have F:Ss σ [0] [ZS b,.dead,.cells 92 2 (G.map X4),.dead,.dead,.cells 103 1 (List.replicate nc Yu)]=σ.set 0 (ZS b)++[.dead,.cells 92 2 (G.map X4),.dead,.dead,.cells 103 1 (List.replicate nc Yu)]:=by
    simp[Ss,VC]
   have Υ:Yt (names [0] σ.length [ZS b,.dead,.cells 92 2 (G.map X4),.dead,.dead,.cells 103 1 (List.replicate nc Yu)]) (.Z' [.ms 2 G.length 0 G.length,Yv L,.ms 5 nc 0 nc])=.Z' [.ms (σ.length+1) G.length 0 G.length,Yv L,.ms (σ.length+4) nc 0 nc]:=by
    show Ψ.Z' [_,_,_]=_;simp[WE,names,Ur]
   rw[F,Υ];exact v G L nc b y A B C) (λa s h=>h.elim)
 exact Ν.call (first:=[]) (captured:=[]) (by simpa[TW,Yt,WE] using x)
section
variable{α:Type}[Inhabited α]
def IP(enc:α->Ψ)(d:Array α){i}(h:i<d.size):(d.toList.map enc)[i]?=some (enc d[i]!):=by
 rw[YK,Xf,Rs h];rfl
def yD(enc){d n}(b:d.size=n){i j}(hi:i<n)(a:j<n):∃(L:μ)(x y:α),d.toList.map enc=L/\d[i]! = x/\d[j]! = y/\L.length=n/\(L[i]?=some (enc x)/\∀h,L[i]'h=enc x)/\(L[j]?=some (enc y)/\∀h,L[j]'h=enc y)/\(Go.Sort.swp d i j).toList.map enc=(L.set i (enc y)).set j (enc x)/\∃z,∀h,(L.set i (enc y))[j]'h=enc z:=by
 subst b;refine⟨_,_,_,U,U,U,o,⟨IP enc d hi,λh=>?_⟩,⟨IP enc d a,λh=>?_⟩,by simp[Go.Sort.swp],if i=j then d[j]! else d[j]!,λh=>?_⟩
 .have:=IP enc d hi;rw[ξ h]at this;exact Xq this
 .have:=IP enc d a;rw[ξ h]at this;exact Xq this
 rw[List.getElem_set,ite_self];split
 .rfl
 have:=IP enc d a;rw[ξ (by simpa using h)]at this;exact Xq this
def W.two{P m nt k env Z E}(enc){d n}(c:d.size=n){i j}(hi:i<n)(a:j<n){t kk}
  (h:∀(L)(x y z:α),d[i]! = x->d[j]! = y->(L.length=n/\(L[i]?=some (enc x)/\∀h,L[i]'h=enc x)/\(L[j]?=some (enc y)/\∀h,L[j]'h=enc y)/\(∀h,(L.set i (enc y))[j]'h=enc z)/\i<n/\j<n)->d.toList.map enc=L->(Go.Sort.swp d i j).toList.map enc=(L.set i (enc y)).set j (enc x)->W P m nt k env [.cells t kk L] Z E):W P m nt k env [.cells t kk (d.toList.map enc)] Z E:=by
 let ⟨L,x,y,b,e,f,g,l,o,p,z,r⟩:=yD enc c hi a;rw[b];exact h L x y z e f ⟨g,l,o,r,hi,a⟩ b p
def C0{p:α->Bool}{d b i R}(h:Go.Sort.scanUp p d b i=R)(a:i<=b)(c:p d[i]! = true):Go.Sort.scanUp p d b (i+1)=R:=by
 rw[Go.Sort.scanUp]at h;simpa[a,c] using h
def CZ{p:α->Bool}{d b i R}(h:Go.Sort.scanUp p d b i=R)(a:i<=b)(c:p d[i]! = false):i=R:=by
 rw[Go.Sort.scanUp]at h;simpa[a,c] using h
def CY{p:α->Bool}{d b i R}(h:Go.Sort.scanUp p d b i=R)(a:¬i<=b):i=R:=by
 rw[Go.Sort.scanUp]at h;simpa[a] using h
def CX{p:α->Bool}{d b i R}(h:Go.Sort.scanDown p d b i=R)(a:b<=i)(e:0<i)(c:p d[i]! = true):Go.Sort.scanDown p d b (i-1)=R:=by
 obtain⟨q,rfl⟩:∃q,i=q+1:=⟨i-1,J⟩;rw[Go.Sort.scanDown]at h;simpa[a,c] using h
def CW{p:α->Bool}{d b i R}(h:Go.Sort.scanDown p d b i=R)(a:b<=i)(e:0<i)(c:p d[i]! = false):i=R:=by
 obtain⟨q,rfl⟩:∃q,i=q+1:=⟨i-1,J⟩;rw[Go.Sort.scanDown]at h;simpa[a,c] using h
def W.back{P m nt k env Z E enc}{d:Array α}{L t kk}(h:d.toList.map enc=L)(env')(a:∀p∈env',ε env p.1=p.2)
  (b:W P m nt k env' [.cells t kk (d.toList.map enc)] Z E):W P m nt k env [.cells t kk L] Z E:=h▸W.forget env' a b
def W.Uh{P m nt k env Z E enc}{d:Array α}{t kk a l}(env')(b:Array α)
  (c:W P m nt (a::.inBlock l::k) env [.cells t kk (d.toList.map enc)] (λj e s=>j=k/\s=[.cells t kk (b.toList.map enc)]/\∀p∈env',ε e p.1=p.2) E) (f:W P m nt k env' [.cells t kk (b.toList.map enc)] Z E):W P m nt (a::.inBlock l::k) env [.cells t kk (d.toList.map enc)] Z E:=W.Gm env' _ c f
def swp_size{d:Array α}{n}(a:d.size=n)(i j):(Go.Sort.swp d i j).size=n:=by simp[Go.Sort.swp,a]
def IN(p q:α->Bool)(r:∀x,q x = !p x)(d){i j a b}(u:0<i)(f:i<=j+1)(s:Go.Sort.scanUp p d j i=a)(t:Go.Sort.scanDown q d a j=b):i<=a/\a<=j+1/\b<=j/\a<=b+1/\(a<=b->a<b):=by
 let ⟨g,c,v,k⟩:=Go.Sort.scanUp_spec p d j _ i U
 let ⟨l,m,w,n⟩:=Go.Sort.scanDown_spec q d a j;rw[s]at g c k;rw[t]at l m n;refine⟨g,c f,l,m (c f),λh=>?_⟩;rcases MO a b with o|o
 .exact o
 have e:a=b:=J
 have f1:=k J
 have f2:=n h J;rw[r,<-e,f1]at f2;cases f2
def oU(lt){a b n}:∀(m i j)(g:Array α),j+1-i<=m->g.size=n->0<i->i<=j+1->j<b->(Go.Sort.partLoop lt a i j g).2.size=n/\(Go.Sort.partLoop lt a i j g).1<b:=by
 intro m
 induction m with
 | zero=>
  intro i j g s f l o t;rw[Go.Sort.partLoop_eq];let ⟨c,d⟩:=V6 (Go.Sort.scanUp (λx=>lt x g[a]!) g j i);let ⟨k,e⟩:=V6 (Go.Sort.scanDown (λx=>!lt x g[a]!) g c j);let ⟨u,v,w,y,p⟩:=IN (λx=>lt x g[a]!) (λx=>!lt x g[a]!) (λx=>rfl) g l o d e;rw[d,e,if_pos (by apply Tn;intro h;have:=p J;omega)];exact⟨f,J⟩
 | succ m A=>
  intro i j g s f l o t;rw[Go.Sort.partLoop_eq];let ⟨c,d⟩:=V6 (Go.Sort.scanUp (λx=>lt x g[a]!) g j i);let ⟨k,e⟩:=V6 (Go.Sort.scanDown (λx=>!lt x g[a]!) g c j);let ⟨u,v,w,y,p⟩:=IN (λx=>lt x g[a]!) (λx=>!lt x g[a]!) (λx=>rfl) g l o d e;rw[d,e];by_cases r:c > k
  .rw[if_pos r];exact⟨f,J⟩
  rw[if_neg r];have:=p J;exact A (c+1) (k-1) _ J (swp_size f c k) J J J
def CV(lt:α->α->Bool)(d){a b n}(c:a<n)(e:b<n)(s):(Go.Sort.order2 lt d a b s).1<n/\(Go.Sort.order2 lt d a b s).2.1<n/\(Go.Sort.order2 lt d a b s).2.2<=s+1:=by
 unfold Go.Sort.order2;split
 .exact⟨e,c,Z3 _⟩
 exact⟨c,e,Nat.le_succ _⟩
def oT(p:α->Bool)(d){i j}(h:j<i):Go.Sort.scanDown p d i j=j:=by
 cases j with
 | zero=>rfl
 | succ j=>rw[Go.Sort.scanDown,if_neg (by simp;omega)]
def CU{p:α->Bool}{d b i R}(h:Go.Sort.scanDown p d b i=R)(a:¬b<=i):i=R:=by rw[<-h,oT p d J]
end
def FI:Go.Sort.Hint->Int
 | .unknown=>0
 | .increasing=>1
 | .decreasing=>2
def oS{c:Type}{enc}{t k:Nat}{d:Array c}{r2}(f:∀y,∀a∈(enc y).cells,ω 0 a)(id r)(i:id<1)(b:[Row.cells t k (d.toList.map enc),r2][id]?=some r):YO 1 r:=by
 obtain rfl:id=0:=J;simp at b;subst b;intro e g a h;obtain⟨y,_,rfl⟩:=ZG.1 g;exact ω.mono (f y a h) (Γ _)
def oR{l m:Nat}(h:l<2 ^ 62):IntKind.i64.wrap (Int.tdiv (l:Int) (m:Int))=((l / m:Nat):Int):=by
 rw[E6 J];have a:=Nat.div_le_self l m;have b:(l / m)=((l / m:Nat):Int):=rfl;rw[b];let ⟨q,c⟩:=ν (l / m);rw[<-c]at a ⊢;rw[IntWalk.i64_in _ J]
def yC{l m:Nat}(h:l<2 ^ 62):IntKind.i64.wrap (l / m)=((l / m:Nat):Int):=by
 have:=oR (m:=m) h;rw[E6 J]at this;exact this
def oQ{x:Nat}(h:x<2 ^ 64):IntKind.u64.wrap x=x:=by
 unfold IntKind.wrap;simp[IntKind.bits,IntKind.signed];omega
def Nd{i:Nat}(h:0<i)(a:i<2 ^ 62):IntKind.i64.wrap (i-1)=((i-1:Nat):Int):=by
 rw[IntWalk.i64_in _ J];omega
def Nc{i:Nat}(a:i<2 ^ 61):IntKind.i64.wrap (i+1)=((i+1:Nat):Int):=by
 rw[IntWalk.i64_in _ J];omega
def yB(s:Zm)(g:Int)(k:g<s.Z2.length)(σ:Ρ)(id m:Nat)(c:μ)(i:c.length=m)(j:σ[id]?=some (.cells 103 1 c))(d:Nat)(e:σ[d]?=some (.cells 92 2 (s.Z2.map X4))):Ν prog 207 [.Z' [.ms d s.Z2.length 0 s.Z2.length,Yv s.ZE,.ms id m 0 m],I g] σ (λa r=>a=I (s.of g)/\r=σ) (λ_ _=>False):=by
 refine Ν.body Τ func207 U U ntmps207 U U o ?_;refine γ (Ξ j (Ξ i e)) ?_;refine W.YD U (λb=>?_) (λb=>?_)
 .have b:g<0:=by simpa using b
  refine Χ ?_;refine W.ret ⟨_,U,?_,U⟩;show I 0=_;simp[Zm.of,b]
 have b:¬g<0:=by simpa using b
 obtain⟨n,rfl⟩:∃n:Nat,g=n:=⟨g.toNat,J⟩;have f:n<s.Z2.length:=J;refine γ (Ξ f e) ?_;refine W.ret ⟨_,U,?_,U⟩;show I s.Z2[n].X8=_;simp[Zm.of,f];intro h;omega
def oP(s:Zm)(p r:Int×Int)(n:Nat)(i:n<s.ZE.length)(t:∀x∈s.ZE,x.length<2 ^ 62)(F:r.1<s.Z2.length)(H:r.2<s.Z2.length)(σ:Ρ)(id m:Nat)(u:μ)(d:u.length=m)(e:σ[id]?=some (.cells 103 1 u))(v:Nat)(f:σ[v]?=some (.cells 92 2 (s.Z2.map X4))) :
  Ν prog 159 [.Z' [.ms v s.Z2.length 0 s.Z2.length,Yv s.ZE,.ms id m 0 m],δ I 1 [p.1,p.2],δ I 1 [r.1,r.2],I n] σ (λa J=>a=I (s.TX p r n)/\J=σ) (λ_ _=>False):=by
 have j:=ξ i
 have w:=t _ (YW i);obtain⟨l,t⟩:=ν (s.ZE[n]);rw[<-t]at j w;have B:∀h,s.ZE[n]'h=l:=λh=>t.symm;have hv:s.TX p r n=if l.contains p.2 then Nr (if l.contains p.1 then Nr 0 (s.of r.1) else 0) (s.of r.2) else if l.contains p.1 then Nr 0 (s.of r.1) else 0:=by
  unfold Zm.TX;rw[j];rfl
 rw[hv];have g:∀x:Int,(0<=(if x∈l then((l.idxOf x:Nat):Int) else -1))↔x∈l:=λx=>by
  by_cases h:x∈l
  .simp[h]
  simp[h]
 have E:=yB s r.1 F σ id m u d e v f
 have C:=yB s r.2 H σ id m u d e v f;generalize s.of r.1=K at E ⊢;generalize s.of r.2=L at C ⊢;refine Ν.body Τ func159 U U ntmps159 U U o ?_;refine γ (Ξ e (Ξ d f)) ?_;refine W.draw (A:=[]) Τ mixed λk b=>SY (Ξ i (Ξ j B)) ?_;refine Wf (Μ.p (D4 l p.1 w) (ZJ.refl _) o o) ?_;simp[g];(repeat (rw[Y3];simp[g]));try rw[YL]
 refine X5 (b _ _ ?_);by_cases y:p.1∈l
 .refine Β (by simp[y]) ?_;have D:l.contains p.1=true:=by simpa using y
  rw[if_pos D]
  repeat apply Ζ
  refine W.draw (A:=[]) Τ mixed λk b=>SY (Ξ e (Ξ d f)) ?_;refine Nv (Ν.call (first:=[]) (captured:=[]) E) ?_;simp;(repeat (rw[Y3];simp));try rw[YL]
  refine X5 (b _ _ ?_)
  repeat apply Ζ
  refine W.draw (A:=[]) Τ mixed λk b=>SY (Ξ i (Ξ j B)) ?_;refine Wf (Μ.p (D4 l p.2 w) (ZJ.refl _) o o) ?_;simp[g];(repeat (rw[Y3];simp[g]));try rw[YL]
  refine X5 (b _ _ ?_);by_cases c:p.2∈l
  .refine Β (by simp[c]) ?_;have Υ:l.contains p.2=true:=by simpa using c
   rw[if_pos Υ]
   repeat apply Ζ
   refine W.draw (A:=[]) Τ mixed λk b=>SY (Ξ e (Ξ d f)) ?_;refine Nv (Ν.call (first:=[]) (captured:=[]) C) ?_;simp;(repeat (rw[Y3];simp));try rw[YL]
   refine X5 (b _ _ ?_);refine Χ ?_;exact W.ret ⟨_,U,U,U⟩
  refine Δ (by simp[c]) ?_;have Υ:¬l.contains p.2=true:=by simpa using c
  rw[if_neg Υ];refine Χ ?_;exact W.ret ⟨_,U,U,U⟩
 refine Δ (by simp[y]) ?_;have D:¬l.contains p.1=true:=by simpa using y
 rw[if_neg D]
 repeat apply Ζ
 refine W.draw (A:=[]) Τ mixed λk b=>SY (Ξ i (Ξ j B)) ?_;refine Wf (Μ.p (D4 l p.2 w) (ZJ.refl _) o o) ?_;simp[g];(repeat (rw[Y3];simp[g]));try rw[YL]
 refine X5 (b _ _ ?_);by_cases c:p.2∈l
 .refine Β (by simp[c]) ?_;have Υ:l.contains p.2=true:=by simpa using c
  rw[if_pos Υ]
  repeat apply Ζ
  refine W.draw (A:=[]) Τ mixed λk b=>SY (Ξ e (Ξ d f)) ?_;refine Nv (Ν.call (first:=[]) (captured:=[]) C) ?_;simp;(repeat (rw[Y3];simp));try rw[YL]
  refine X5 (b _ _ ?_);refine Χ ?_;exact W.ret ⟨_,U,U,U⟩
 refine Δ (by simp[c]) ?_;have Υ:¬l.contains p.2=true:=by simpa using c
 rw[if_neg Υ];refine Χ ?_;exact W.ret ⟨_,U,U,U⟩
abbrev Υ(r:Int×Int):Ψ:=Xh [r.1,r.2]
def oO{L:List Wm}:∀e∈L.map Υ,∀a∈e.cells,ω 0 a:=λe c a b=>by
 obtain⟨x,_,rfl⟩:=ZG.1 c;simp[Ψ.cells]at b;subst b;simp
section
variable{P:Program}{T:ZY}{A:Z6}{m nt:Nat}{k:Zk}{env:κ}{σ:Ρ}{Z:Xv}{E:XM}
def W.oN(a:ZH P T)(env':κ)(σ':Ρ){ops:Y5}{l:Z6}(h:W P m nt k env' σ' Z E)(b:run P T A nt ops l env σ (λe s=>W P m nt k env' σ' Z E->W P m nt k e s Z E) E):W P m nt (.inRegion ops l::k) env σ Z E:=by
 have:=Ek (m:=m) (k:=k) (Z:=Z) a [] l env σ (GO (λe s f=>W.ZK (f h)) _ _ _ b);simpa using this
end
def oM(l:List Xo):Ψ:=V9 3 (l.map UB)
def Zg(done:List (List Xo))(nc:Nat):μ:=done.map oM++List.replicate (nc-done.length) Yu
structure oL where
 k:Nat
 d:ZF
 Tw:List Xo
def cnt(x n:Int):Nat->Int
 | 0=>0
 | k+1=>cnt x n k+(if UX .i64 x (2 ^ k)≠0 then 1 else 0)-(if UX .i64 n (2 ^ k)≠0 then 1 else 0)
end Go.TL
namespace Go.TL
open Go.Proofs.Tryz
open Go.Proofs
section
variable[Z8]
def oK(l:ψ):Ν prog 6 [δ I 1 l] [] (λr s=>r=.Ο 0 1 0 0/\s=[ZS ⟨l,1⟩]) (λ_ _=>False):=by
 refine Ν.body Τ func6 U U ntmps6 U U o ?_
 repeat apply Ζ
 refine L7 ?_
 repeat apply Ζ
 refine ZB (A:=[5]) Τ λb a=>ς ?_;apply a;refine Χ ?_;exact W.ret ⟨_,U,U,U⟩
end
abbrev yA:μ:=[Xh [1,0],Xh [2,0],Xh [2,1]]
def oJ:∀i,i<3->yA[i]?=some (Xh [(Wu i).1,(Wu i).2])/\∀h,yA[i]'h=Xh [(Wu i).1,(Wu i).2]:=λi hi=>by
 match i with
 | 0=>exact⟨rfl,λ_=>rfl⟩
 | 1=>exact⟨rfl,λ_=>rfl⟩
 | 2=>exact⟨rfl,λ_=>rfl⟩
end Go.TL
namespace Go.TL
open Go.Proofs.Tryz
open Go.Proofs
variable[Z8]
structure N4(a b:Nat)(s:Zm):Prop where
 Z2:Tr s.Z2
 ZE:N5 s.ZE
 many:s.cells.length<=b
 Yf:s.Z2.length<=a
structure oI where
 d:ZF
 done:List (List Xo)
 rd:μ
def oH(l):ω 0 (TA l):=TY.2 λe c a b=>by
 obtain⟨x,_,rfl⟩:=ZG.1 c;simp[Ψ.cells]at b;rcases b with rfl|rfl|rfl<;>exact .z _
def Tq(done:List (List Xo))(nc:Nat):μ:=done.map TA++List.replicate (nc-done.length) Yu
def yz{done nc}(h:done.length<=nc):(Tq done nc).length=nc:=by simp[Tq];omega
def CS{done nc}:∀e∈Tq done nc,e.cells=[e]/\ω 0 e:=λe he=>by
 rcases VS.1 he with he|he
 .obtain⟨x,_,rfl⟩:=ZG.1 he;exact⟨U,oH x⟩
 obtain rfl:=E5 he;exact⟨U,o⟩
def oG{done nc}(h:done.length<nc):(Tq done nc)[done.length]?=some Yu/\∀a,(Tq done nc).set done.length (TA a)=Tq (done++[a]) nc:=by
 unfold Tq;obtain⟨r,b⟩:∃r,nc-done.length=r+1:=⟨nc-done.length-1,J⟩;rw[b,List.replicate_succ];refine⟨o,λa=>?_⟩;have e:nc-(done++[a]).length=r:=by simp;omega
 rw[e,J9 _ _ o,WS,Nat.sub_self,List.set_cons_zero,WT,Sc];rfl
abbrev RZ(g nc:Nat)(L:List (ψ)):Ψ:=.Κ [.ms 3 g 0 g,Yv L,.ms 6 nc 0 nc]
abbrev Wrr(D:ZF)(a b:μ)(T:Ρ):Ρ:=ZS D::Rn Yu Yu Yu::.dead::.cells 92 2 a::.dead::.dead::.cells 103 1 b::T
def yy{D f g}(i:∀e∈f,∀a∈e.cells,ω 0 a)(j:∀e∈g,e.cells=[e]/\ω 0 e){T}(k:∀h,∀r∈T,YO h r)(h):∀r∈Wrr D f g T,YO h r:=λr d=>by
 simp only[YU]at d;rcases d with rfl|rfl|rfl|rfl|rfl|rfl|rfl|d
 .exact Ng D h
 .intro e c a b;simp[Ψ.cells]at c;subst c;simp[Ψ.cells]at b;subst b;simp
 .trivial
 .exact λe c a b=>(i e c a b).mono (Γ _)
 .trivial
 .trivial
 .intro e c a b;let ⟨l,m⟩:=j e c;rw[l]at b;simp at b;subst b;exact m.mono (Γ _)
 exact k h r d
def yx{g nc L h}(c:6<h):ω h (RZ g nc L):=GM.2 λa b=>by
 simp[XW]at b;rcases b with rfl|rfl|rfl
 .exact S2.2 J
 .exact(TY.2 C2:ω 0 _).mono (Γ _)
 exact S2.2 c
def oF(d)(hd:d.Z4.length<2 ^ 63)(Z aa:Nat)(a9:1<=Z)(a':Z<=6)(ba:aa<=4) :
  Ν prog 108 [.Ο 0 1 0 0,I Z,I aa] [ZS d] (λa s=>∃(F:Zm)(ai aj:Ψ)(aI:ZF),Yw a (.Z7 [.Z' [.ms 3 F.Z2.length 0 F.Z2.length,Yv F.ZE,Tz F.cells],ai,aj])/\ω 0 ai/\ω 0 aj/\N4 Z aa F/\s=[ZS aI,.dead,.dead,.cells 92 2 (F.Z2.map X4)]/\aI.Z4.length<=d.Z4.length) (λ_ _=>False):=by
 apply Ν.body Τ func108 U U ntmps108 U U o
 repeat apply Ζ
 refine ZB (A:=[6]) Τ λab y=>ς ?_;apply y
 repeat apply Ζ
 apply W.Zs;refine W.part (A:=[9]) Τ [0,1,2,3] [4,5] U λab y=>?_;(try simp);(repeat (rw[Ι];simp));apply oV d hd Z aa a9 a' ba U;intro G L nc d1 ao ap ⟨bQ,bb,aJ⟩ bc;let ⟨g,ad⟩:=ν G.length;let ⟨u,ae⟩:=ν (G.map X4);have aq:u.length=g:=by rw[ae,WS,ad]
 rw[<-ad,<-ae];have ar:∀e∈u,∀a∈e.cells,ω 0 a:=by rw[ae];exact FJ
 simp only[List.length_cons,List.length_nil,Nat.reduceAdd,List.set_cons_zero,List.cons_append,List.nil_append];rw[show List.replicate nc Yu=Tq [] nc by simp[Tq]];rw[AV,QL];apply y;clear y ab;have aK:(Tq [] nc).length=nc:=yz (Γ _);refine W.oN (A:=[9]) Τ [(0,.Ο 0 1 0 0),(6,.Ο 1 1 0 0),(9,RZ g nc L)] (Wrr d1 u (Tq [] nc) []) ?_ (by
  have bd:=yy (D:=d1) ar (CS (done:=[]) (nc:=nc)) (T:=[]) o;(try simp);(repeat (rw[Ι];simp[aK]));(try simp[aK]);intro be;exact W.Rp (σ0:=Wrr d1 u (Tq [] nc) []) o (bd _) (λa w=>by
   have:=(GM.1 (yx (g:=g) (nc:=nc) (L:=L) (h:=7) J)) a (by simpa[Ψ.cells] using w);simpa using this) [(0,.Ο 0 1 0 0),(6,.Ο 1 1 0 0),(9,RZ g nc L)] (by simp[S3,Ψ.cells]) be)
 let ⟨B,au⟩:=ν L.length
 have bf:=ap.lo
 have bR:=aJ
 have bg:=ao.hi
 have bh:=ao.lo;rw[<-ad]at bg bh;rw[<-au]at bf aJ;have bS:(L.map (δ I 1)).length=B:=by rw[WS,au]
 refine Rg 2 bc λO d2 bi t1 aL=>?_;have bj:O<3:=J;let ⟨aM,aN⟩:=oJ O bj;let ⟨p,K⟩:=ν (Wu O);rw[<-K]at aM aN
 repeat apply Ζ
 refine W.Wr (A:=[]) Τ [(0,.Ο 0 1 0 0),(6,.Ο 1 1 0 0),(9,RZ g nc L),(10,Xh [p.1,p.2])] (Wrr d2 u (Tq [] nc) []) ?_ (by
  have bT:(O:Int)<3:=J;(try simp);(repeat (rw[Ι];simp));(try simp);apply Zc.c aL 0 U (ZJ.refl _) o o;clear aL aM aN;obtain rfl|rfl|rfl:O=0\/O=1\/O=2:=J
  all_goals
   subst K;simp;(repeat (rw[Ι];simp));(try simp[Wu]))
 let ⟨F,Q⟩:=ν (⟨G,L,[]⟩:Zm);refine Χ ?_;apply W.pad 22 1 (σ':=Wrr d2 u (Tq [] nc) []) U (λj r h=>⟨r,h,.inl U⟩) [(0,.Ο 0 1 0 0),(6,.Ο 1 1 0 0),(9,RZ g nc L),(10,Xh [p.1,p.2]),(11,.ms 7 0 0 0),(12,I 0)] (λz M=>by
  simp only[YU,XW,or_false]at M;rcases M with rfl|rfl|rfl|rfl|rfl|rfl
  all_goals first|exact .nil|exact .same _)
 refine W.iter (λx:oI=>x.done.length<=nc/\x.d.Z4.length<=d.Z4.length/\x.rd.length=x.done.length/\∀e∈x.rd,∀a∈e.cells,ω 0 a)
  (λx=>[(0,.Ο 0 1 0 0),(6,.Ο 1 1 0 0),(9,RZ g nc L),(10,Xh [p.1,p.2]),(11,.ms 7 x.done.length 0 x.done.length),(12,I x.done.length)])
  (λx=>Wrr x.d u (Tq x.done nc) [.cells 22 1 x.rd]) (λx=>nc-x.done.length) ⟨d2,[],[]⟩ ⟨o,bi,U,o⟩ U o (λx R av=>?_)
 let ⟨D,done,rd⟩:=x
 let ⟨aO,aw,S,ak⟩:=R;simp only at aO aw S ak av ⊢;let ⟨c,al⟩:=ν done.length;rw[<-al]at aO av S;rw[<-al];let ⟨f,af⟩:=ν (Tq done nc);have V:f.length=nc:=by rw[af];exact yz J
 have bk:∀e∈f,e.cells=[e]/\ω 0 e:=by rw[af];exact CS
 rw[<-af]
 repeat apply Ζ
 refine YC V λab y=>?_;apply y;refine W.YD U (λX=>?_) (λX=>?_)
 .have X:c<nc:=by simpa using X
  let ⟨aP,ax⟩:=oG (done:=done) (nc:=nc) J;rw[<-af,<-al]at aP ax;have aQ:L.length=B:=au.symm;let ⟨ay,bl⟩:=ν ((g:Int)-1:Int);have az:IntKind.i64.wrap ((g:Int)-1)=ay:=by rw[bl];exact IntWalk.i64_in _ J
  refine Nf (-1) ay aw λaR bU bm bV bW bn=>Nf (-1) ay bm λaS N bo bX bY bp=>?_;let ⟨r,b⟩:=ν ((aR,aS):Int×Int)
  repeat apply Ζ
  refine W.C' (A:=[]) Τ mixed [(0,.Ο 0 1 0 0),(6,.Ο 1 1 0 0),(9,RZ g nc L),(10,Xh [p.1,p.2]),(11,.ms 7 c 0 c),(12,I c),(13,Υ r)] (Wrr N u f [.cells 22 1 rd]) ?_ (by
   simp;(repeat (rw[OW];simp[aq,az]));(try rw[OX]);apply Zc.e bn (ZJ.refl _) o o;simp;(repeat (rw[OW];simp[aq,az]));(try rw[OX]);apply Zc.e bp (ZJ.refl _) o o;simp;(repeat (rw[OW];simp[aq,az]));(try rw[OX]);refine⟨UW XL,UW XL,?_⟩;simp[b])
  let ⟨C,aA⟩:=ν (rd++[Υ r])
  have bq:C.length=c+1:=by rw[aA];simp[S]
  have aT:∀e∈C,∀a∈e.cells,ω 0 a:=by
   rw[aA];intro e he;rcases VS.1 he with he|he
   .exact ak e he
   obtain rfl:=Us.1 he;exact oO (L:=[r]) _ o
  repeat apply Ζ
  refine W.Wr (A:=[52]) Τ [(0,.Ο 0 1 0 0),(6,.Ο 1 1 0 0),(9,RZ g nc L),(10,Xh [p.1,p.2]),(11,.ms 7 (c+1) 0 (c+1)),(12,I c),(13,Υ r)] (Wrr N u f [.cells 22 1 C]) ?_ (by
   rw[aA];have aU:c<=4294967295:=J;(try simp);(repeat (rw[Ι];simp[S,aU]));(try simp[S,aU]))
  have aB:=yO N J B J
  have aC:=C7 N B
  have aV:∀x∈(V7 N B).1,0<=x/\x<B:=λx h=>yK h
  have aW:=C9 N B
  let ⟨H,br⟩:=V6 ((V7 N B).1)
  let ⟨bZ,bs⟩:=V6 ((V7 N B).2);rw[br]at aB aC aV;rw[bs]at aB aW;refine YC aQ λab y=>?_;refine Zc.g (aB) (ς ?_);apply y;refine Rg B (WL aW bo) λam bt bu b0 bv=>?_;refine YC aQ λab y=>?_;refine Zc.g (bv) (ς ?_);apply y
  repeat apply Ζ
  apply W.IQ 102 3 (i:=6) (r:=.cells 103 1 f) (r':=.cells 103 1 (f.set c (.ms 8 0 0 0))) U (.inr (yF .same _ _ aP .nil U U)) [(0,.Ο 0 1 0 0),(6,.Ο 1 1 0 0),(9,RZ g nc L),(10,Xh [p.1,p.2]),(11,.ms 7 (c+1) 0 (c+1)),(12,I c),(13,Υ r),(14,δ I 1 H),(15,I am)] (λz M=>by
   simp only[YU,XW,or_false]at M;rcases M with rfl|rfl|rfl|rfl|rfl|rfl|rfl|rfl|rfl<;>exact .same _)
  refine W.iter (λx:oL=>x.Tw.length+x.k=am/\x.d.Z4.length<=d.Z4.length)
   (λx=>[(0,.Ο 0 1 0 0),(6,.Ο 1 1 0 0),(9,RZ g nc L),(10,Xh [p.1,p.2]),(11,.ms 7 (c+1) 0 (c+1)),(12,I c),(13,Υ r),(14,δ I 1 H),(15,I x.k)])
   (λx=>Wrr x.d u (f.set c (.ms 8 x.Tw.length 0 x.Tw.length)) [.cells 22 1 C,.cells 102 3 (x.Tw.map UB)]) (λx=>x.k) ⟨am,bt,[]⟩
   ⟨o,bu⟩ U o (λx R aX=>?_)
  let ⟨k,E,m⟩:=x
  let ⟨bw,aD⟩:=R;simp only at bw aD aX ⊢;have aE:∀v,(f.set c v)[c]?=some v:=λv=>Xz J;have aY:∀v h,(f.set c v)[c]'h=v:=λv h=>List.getElem_set_self h;refine Χ ?_;refine W.YD U (λaZ=>?_) (λaZ=>?_)
  .have b1:0<k:=by simpa using aZ
   have P:IntKind.i64.wrap ((k:Int)-1)=(k-1:Nat):=by rw[IntWalk.i64_in _ J];omega
   have a0:k-1<H.length:=J
   have aF:H[k-1]?=some H[k-1]:=ξ a0
   have bx:=aV _ (YW a0)
   let ⟨aG,a1⟩:=ν (H[k-1]);rw[<-a1]at aF bx;have a2:∀h,H[k-1]'h=aG:=λh=>a1.symm;obtain⟨ag,rfl⟩:∃n:Nat,aG=n:=⟨aG.toNat,J⟩;have an:=oP F p r ag (by rw[Q];show ag<L.length;omega) (λx R=>by rw[Q]at R;have:=(ap.each x R).1;omega) (by rw[Q,b];show aR<G.length;omega) (by rw[Q,b];show aS<G.length;omega) (Wrr E u (f.set c (.ms 8 m.length 0 m.length)) [.cells 22 1 C,.cells 102 3 (m.map UB)]) 6 nc (f.set c (.ms 8 m.length 0 m.length)) (by rw[Lj];exact V) U 3 (by rw[Q,ae];rfl);let ⟨aH,bz⟩:=ν (F.TX p r ag);rw[<-bz]at an;rw[Q]at an
   repeat apply Ζ
   refine W.yT (A:=[]) Τ mixed [(0,.Ο 0 1 0 0),(6,.Ο 1 1 0 0),(9,RZ g nc L),(10,Xh [p.1,p.2]),(11,.ms 7 (c+1) 0 (c+1)),(12,I c),(13,Υ r),(14,δ I 1 H),(15,I k),(16,I aH)] (Wrr E u (f.set c (.ms 8 m.length 0 m.length)) [.cells 22 1 C,.cells 102 3 (m.map UB)]) ?_ (by
    rw[b];rw[b]at an;simp;(repeat (rw[Y3];simp[P,aF,a2,aC]));(try rw[YL]);refine⟨J,?_⟩;apply Nv (Ν.call (first:=[]) (captured:=[]) (Ν.SZ an (.cons (.of (by rw[ad])) (.cons .ex (.cons .ex (.cons (.refl _) .nil)))) (λa s h=>⟨_,.refl _,h⟩)));simp;(repeat (rw[Y3];simp));(try rw[YL]);refine⟨UW XL,?_⟩;simp)
   refine Rg 63 aD λbA b2 bB _ bC=>FK [63,(bA:Int)] bB λbD b3 bE _ bF=>Rg 63 bE λbG b4 bH _ bI=>FK [63,(bG:Int)] bH λbJ a3 bK _ bL=>?_;let ⟨a4,a5⟩:=V6 (UX .i64 aH bD);let ⟨a6,a7⟩:=V6 (Mv .i64 bJ aH);have Y:=aX ⟨k-1,a3,m++[⟨ag,a4,a6⟩]⟩ ⟨by show(m++[_]).length+(k-1)=am;rw[VH];simp;omega,bK⟩ (by show k-1<k;omega);simp only[VH,List.length_singleton,WT,WY,OE]at Y
   repeat apply Ζ
   refine W.C' (A:=[105]) Τ mixed [(0,.Ο 0 1 0 0),(6,.Ο 1 1 0 0),(9,RZ g nc L),(10,Xh [p.1,p.2]),(11,.ms 7 (c+1) 0 (c+1)),(12,I c),(13,Υ r),(14,δ I 1 H),(15,I k)] (Wrr a3 u (f.set c (.ms 8 (m.length+1) 0 (m.length+1))) [.cells 22 1 C,.cells 102 3 (m.map UB++[UB ⟨ag,a4,a6⟩])]) ?_ (by
    simp;(repeat (rw[OW];simp[P,aF,a2,aC,V,aE,aY]));(try rw[OX]);refine⟨J,J,?_⟩;refine Zc.h (bC) (yR ?_);apply Zc.e bF (.cons .ex .nil) o o;simp[a5];(repeat (rw[OW];simp[a5]));(try rw[OX]);refine Zc.h (bI) (yR ?_);apply Zc.e bL (.cons .ex .nil) o o;simp[a7];(repeat (rw[OW];simp[a7,V,aE,aY]));(try rw[OX]);refine⟨J,J,?_⟩;refine⟨UW XL,UW XL,?_⟩;simp)
   refine γ P ?_;exact W.to Y U (by simp[P])
  have P:IntKind.i64.wrap ((c:Int)+1)=((c+1:Nat):Int):=by rw[IntWalk.i64_in _ J];omega
  have a8:(done++[m]).length=c+1:=by simp;omega
  have Y:=av ⟨E,done++[m],C⟩ ⟨by show(done++[m]).length<=nc;omega,aD,bq.trans a8.symm,aT⟩ (by show nc-(done++[m]).length<nc-c;omega);simp only[a8]at Y;rw[<-ax m]at Y;apply W.exit U;apply W.Km (id:=8) (q:=6) (l:=m.map UB) o U U (.inr (yF .same _ _ (aE _) (v':=TA m) (by have:=R0.ms (id:=8) (k:=3) (l:=m.map UB);rwa [WS]at this) U U)) o [(0,.Ο 0 1 0 0),(6,.Ο 1 1 0 0),(9,RZ g nc L),(10,Xh [p.1,p.2]),(11,.ms 7 (c+1) 0 (c+1)),(12,I c)] (λp K=>by
   simp only[YU,XW,or_false]at K;rcases K with rfl|rfl|rfl|rfl|rfl|rfl<;>exact .same _)
  rw[List.set_set];have bM:∀e∈f.set c (TA m),e.cells=[e]/\ω 0 e:=by rw[ax];exact CS
  refine W.drop (h:=8) o o (λi r hi b=>yy ar bM (T:=[.cells 22 1 C]) (λh r b=>by simp at b;subst b;exact λe he a w=>(aT e he a w).mono (Γ _)) 8 r (ZD (by
   simpa using (YT (l₁:=Wrr E u (f.set c (TA m)) [.cells 22 1 C]) (l₂:=[.dead]) hi).symm.trans b))) U [(0,.Ο 0 1 0 0),(6,.Ο 1 1 0 0),(9,RZ g nc L),(10,Xh [p.1,p.2]),(11,.ms 7 (c+1) 0 (c+1)),(12,I c)] (λp K=>?_) ?_
  .simp only[YU,XW,or_false]at K;rcases K with rfl|rfl|rfl|rfl|rfl|rfl
   .exact⟨U,S3.2 J⟩
   .exact⟨U,S3.2 J⟩
   .exact⟨U,yx J⟩
   .exact⟨U,o⟩
   .exact⟨U,S2.2 J⟩
   exact⟨U,.z _⟩
  refine γ P ?_;exact W.to Y U (by simp[P])
 have X:c=nc:=by simp at X;omega
 subst X;apply W.exit U;have bN:f=done.map TA:=by rw[af,al];simp[Tq]
 refine γ V ?_;have bO:R0 6 1 f (.ms 6 c 0 c) (.sl false 1 f):=by
  have:=R0.ms (id:=6) (k:=1) (l:=f)
  rwa [V]at this
 apply W.Km (id:=6) (q:=1) (l:=f) o U U (.inr (C4 .same _ _ (j:=2) U bO)) o [(6,.Ο 1 1 0 0),(7,Xh [p.1,p.2]),(8,.ms 7 c 0 c)] (λq ah=>by
  simp only[YU,XW,or_false]at ah;rcases ah with rfl|rfl|rfl<;>exact .same _)
 apply W.Km (id:=1) (q:=0) o U U (.inl U) o [(6,.Κ [.ms 3 g 0 g,Yv L,.sl false 1 f]),(7,Xh [p.1,p.2]),(8,.ms 7 c 0 c)] (λq ah=>by
  simp only[YU,XW,or_false]at ah;rcases ah with rfl|rfl|rfl
  .exact .Ο (e:=.Z' [.ms 3 g 0 g,Yv L,.sl false 1 f]) U
  .exact .same _
  exact .same _)
 refine W.cut 4 o [(6,.Κ [.ms 3 g 0 g,Yv L,.sl false 1 f]),(7,Xh [p.1,p.2]),(8,.sl false 1 rd)] o (λid r bP b=>?_) (λz M=>?_) ?_
 .match id,bP,b with
  | 0,_,b=>simp at b;subst b;exact Ng D 4
  | 1,_,b=>simp at b;subst b;trivial
  | 2,_,b=>simp at b;subst b;trivial
  | 3,_,b=>simp at b;subst b;exact λe he a w=>(ar e he a w).mono (Γ _)
 .simp only[YU,XW,or_false]at M;rcases M with rfl|rfl|rfl
  .refine .low (GM.2 λa w=>?_);simp only[YU,XW,or_false]at w;rcases w with rfl|rfl|rfl
   .exact S2.2 J
   .exact(TY.2 C2:ω 0 _).mono (Γ _)
   refine(TY.2 λe he a w=>?_:ω 0 _).mono (Γ _);let ⟨ai,aj⟩:=bk e he;rw[ai]at w;simp at w;subst w;exact aj
  .exact .low o
  exact .own (t:=22) (id:=7) o U (by simp[S]) (λe he a w=>(ak e he a w).mono (Γ _))
 rw[bN];exact W.ret ⟨_,U,⟨G,L,done⟩,Xh [p.1,p.2],.sl false 1 rd,D,by rw[<-ad];exact .refl _,o,TY.2 ak,⟨ao,ap,by show done.length<=aa;omega,bb⟩,by rw[ae];rfl,aw⟩
end Go.TL
namespace Go.TL
open Go.Proofs.Tryz
open Go.Conc Go.Proofs
variable[Z8]
inductive PI(ρ:Z6):Ψ->Ψ->Prop where
 | one {a:Ψ}:Xc ρ.length a->PI ρ a (Yt ρ a)
 | same {a:Ψ}:ω 0 a->PI ρ a a
 | Z' {l m:μ}:l.length=m.length->(∀(i:Nat)(a b:Ψ),l[i]?=some a->m[i]?=some b->PI ρ a b)->PI ρ (.Z' l) (.Z' m)
 | Z7 {l m:μ}:l.length=m.length->(∀(i:Nat)(a b:Ψ),l[i]?=some a->m[i]?=some b->PI ρ a b)->PI ρ (.Z7 l) (.Z7 m)
def PI.rep{ρ:Z6}{S:ζ}{l m:ZZ}{σ0 n:Ρ}(o:Names ρ l σ0 m n){a b:Ψ}(h:PI ρ a b):∀{v:Value},Θ S l σ0 a v->Θ S m n b v:=by
 induction h with
 | one h=>intro v c;exact(Jq o h).2 c
 | same h=>intro v c;exact c.any h _ _
 | Z' d _ g=>
  intro v c;cases c with
  | Z' vs j k=>
   refine .Z' vs (d.symm.trans j) λi b v e hv=>?_;have hi:=(ZT.1 e).1;have f:=ξ (d▸hi);exact g i _ b f e (k i _ v f hv)
 | Z7 d _ g=>
  intro v c;cases c with
  | Z7 vs j k=>
   refine .Z7 vs (d.symm.trans j) λi b v e hv=>?_;have hi:=(ZT.1 e).1;have f:=ξ (d▸hi);exact g i _ b f e (k i _ v f hv)
section
variable{P:Program}{σ:Ρ}
def Ν.yw{g:FuncId}{as0:μ}{k:Ρ}{K:Ψ->Ρ->Prop}(h:Ν P g as0 k K (λ_ _=>False))(ρ:Z6)(A:ρ.Nodup)(p:ρ.length=k.length)(t:∀(j i:Nat),ρ[j]?=some i->σ[i]?=k[j]?)(C:∀r∈k,S0 r)
  (has:∀a∈as0,Xc ρ.length a) {K' E':Ψ->Ρ->Prop} (O:∀a s,K a s->(∀r∈s,Jp r)/\∃b,PI (names ρ σ.length s) a b/\K' b (Ss σ ρ s)):Ν P g (as0.map (Yt ρ)) σ K' E':=by
 refine⟨h.1,λQ mn x c rest S B H vs R n hv T=>?_⟩;have U:∀(j i:Nat),ρ[j]?=some i->i<σ.length:=λj i d=>by
  have u:j<k.length:=by rw[<-p];exact(ZT.1 d).1
  have:=t j i d;rw[ξ u]at this;exact(ZT.1 this).1
 have D:∀(j i:Nat),ρ[j]?=some i->(ρ.map λi=>B.getD i none)[j]?=B[i]?:=λj i d=>by
  have hi:i<B.length:=by rw[n.len];exact U j i d
  rw[YK,d];simp[hi]
 have V:Names ρ (ρ.map λi=>B.getD i none) k B σ:=⟨t,λj i d=>(D j i d).symm⟩
 have pick:∀(j:Nat)(r:Row)(bo:Option (Nat×Nat)),k[j]?=some r->(ρ.map λi=>B.getD i none)[j]?=some bo->∃i,ρ[j]?=some i/\σ[i]?=some r/\B[i]?=some bo:=λj r bo f w=>by
  have u:j<ρ.length:=by rw[p];exact(ZT.1 f).1
  have d:=ξ u;exact⟨_,d,by rw[t j _ d];exact f,by rw[<-D j _ d];exact w⟩
 have W:Holds S (ρ.map λi=>B.getD i none) k H:=by
  refine⟨n.Za,by simp[p],λj r bo f w=>?_,λi j E F b X Y Z hi d aa ab ad ae=>?_,λj r b N f af ag ah=>?_⟩
  .obtain⟨i,l,m,o⟩:=pick j r bo f w;exact(n.row i r bo m o).plain (B':=B) (σ':=σ) (C r (ZD f)) _ _
  .obtain⟨ai,l,m,o⟩:=pick i E _ hi ad;obtain⟨aj,ak,al,am⟩:=pick j F _ d ae;refine n.inj ai aj E F b X Y (λe=>Z ?_) m al aa ab o am;subst e;have an:=(ZT.1 l).1;exact(List.getElem?_inj an A).1 (l.trans ak.symm)
  obtain⟨i,l,m,o⟩:=pick j r _ f ag;exact n.sep i r b N m af o ah
 refine h.2 Q mn x c rest S _ H vs R W ⟨by have:=hv.1;simpa using this,λi a v l m=>(Jq V (has a (ZD l))).1 (hv.2 i _ v (by rw[YK,l];rfl) m)⟩ ⟨λa σ' I B' H' v y J L M f=>?_,λa σ' I B' H' v y J L M f=>y.elim⟩;obtain⟨ao,b,ap,aq⟩:=O a σ' y;obtain⟨ar,au,av,aw⟩:=n.Ed A p t C J L M ao;exact T.ret _ _ I _ H' v aq au av ar (ap.rep aw f)
end
def oE(d:ZF)(hd:d.Z4.length<2 ^ 63)(m n:Nat)(A:1<=m)(B:m<=6)(C:n<=4){σ:Ρ}{K E:Ψ->Ρ->Prop}(D:σ[0]?=some (ZS d))
  (F:∀(c:Zm)(k l:Ψ)(h:ZF),ω 0 k->ω 0 l->N4 m n c->h.Z4.length<=d.Z4.length->K (.Z7 [.Z' [.ms (σ.length+2) c.Z2.length 0 c.Z2.length,Yv c.ZE,Tz c.cells],k,l]) (σ.set 0 (ZS h)++[.dead,.dead,.cells 92 2 (c.Z2.map X4)])) :
  Yi prog (.fn (.func 108) [] []) [.Ο 0 1 0 0,I m,I n] σ K E:=by
 have f:=Ν.SZ (oF d hd m n A B C) (ZJ.refl _) (K':=λa s=>∃(c:Zm)(k l:Ψ)(h:ZF),a=.Z7 [.Z' [.ms 3 c.Z2.length 0 c.Z2.length,Yv c.ZE,Tz c.cells],k,l]/\ω 0 k/\ω 0 l/\N4 m n c/\s=[ZS h,.dead,.dead,.cells 92 2 (c.Z2.map X4)]/\h.Z4.length<=d.Z4.length) (λa s ⟨c,k,l,h,f,g⟩=>⟨_,f,c,k,l,h,U,g⟩)
 have H:=Ν.yw (σ:=σ) f [0] o U (λj i t=>by
  cases j with
  | zero=>simp at t;subst t;exact D
  | succ j=>simp at t) (λr p=>by simp at p;subst p;exact TV d) (by
   intro a u;simp at u;rcases u with rfl|rfl|rfl
   .exact OF
   .exact(ω.z _).U' 1
   .exact(ω.z _).U' 1) (K':=K) (E':=E) (λa s=>by
   rintro⟨c,k,l,h,rfl,v,w,J,rfl,L⟩;refine⟨λr p=>?_,.Z7 [.Z' [.ms (σ.length+2) c.Z2.length 0 c.Z2.length,Yv c.ZE,Tz c.cells],k,l],?_,?_⟩
   .simp only[YU,XW,or_false]at p;rcases p with rfl|rfl|rfl|rfl
    .exact .inl (TV h)
    .exact .inr U
    .exact .inr U
    exact .inl FJ
   .obtain⟨ρ,x⟩:=ν (names [0] σ.length [ZS h,.dead,.dead,.cells 92 2 (c.Z2.map X4)]);have y:ρ=[0,σ.length,σ.length+1,σ.length+2]:=by rw[x];simp[names,Ur]
    rw[<-x];refine .Z7 U λi a b f g=>?_
    match i,f,g with
    | 0,f,g=>
     cases f;cases g;refine .Z' U λi a b f g=>?_
     match i,f,g with
     | 0,f,g=>
      cases f;cases g;have:=PI.one (ρ:=ρ) (a:=.ms 3 c.Z2.length 0 c.Z2.length) (by show 3<ρ.length;rw[y];exact Qf 3);have e:Yt ρ (.ms 3 c.Z2.length 0 c.Z2.length)=.ms (σ.length+2) c.Z2.length 0 c.Z2.length:=by rw[y];rfl
      rwa [e]at this
     | 1,f,g=>cases f;cases g;exact .same o
     | 2,f,g=>cases f;cases g;exact .same o
    | 1,f,g=>cases f;cases g;exact .same v
    | 2,f,g=>cases f;cases g;exact .same w
   have M:Ss σ [0] [ZS h,.dead,.dead,.cells 92 2 (c.Z2.map X4)]=σ.set 0 (ZS h)++[.dead,.dead,.cells 92 2 (c.Z2.map X4)]:=by
    simp[Ss,VC]
   rw[M];exact F c k l h v w J L)
 exact Ν.call (first:=[]) (captured:=[]) (by simpa[TW,Yt,WE] using H)
def TU:List ByteArray:=[⟨#[97]⟩,⟨#[111]⟩,⟨#[114]⟩,⟨#[115]⟩]
def Sk(G:List Xb):List Xb:=List.zipWith (λn x=>⟨n,x.X8⟩) TU G
def IM(s:Zm):Zm:={s with Z2:=Sk s.Z2}
def RY(G:List Xb)(i:Nat):List Xb:=(Sk G).take i++G.drop i
def Qx{G:List Xb}(h:G.length<=4):(Sk G).length=G.length:=by
 unfold Sk;rw[List.length_zipWith];exact Nat.min_eq_right h
def yv{G:List Xb}(h:G.length<=4){i:Nat}(hi:i<G.length):(Sk G)[i]?=some ⟨TU.getD i ⟨#[]⟩,G[i].X8⟩:=by
 unfold Sk;rw[List.getElem?_zipWith,ξ hi];have a:TU[i]?=some (TU.getD i ⟨#[]⟩):=by
  rw[XA,ξ (show i<TU.length by show i<4;omega)];rfl
 rw[a]
def oD(G:List Xb):RY G 0=G:=by simp[RY]
def yu{G:List Xb}(h:G.length<=4){i:Nat}(hi:i<=G.length):(RY G i).length=G.length:=by
 unfold RY;rw[VH,T5,List.length_drop,Qx h];omega
def oC{G:List Xb}(h:G.length<=4):RY G G.length=Sk G:=by
 unfold RY;rw[List.drop_length,TM,<-Qx h,OG]
def oB{G:List Xb}(h:G.length<=4){i:Nat}(hi:i<G.length):(RY G i)[i]?=some G[i]:=by
 unfold RY;rw[W5 (by rw[T5,Qx h];omega),T5,Qx h,Nat.min_eq_left J,Nat.sub_self,Vf,Nat.add_zero,ξ hi]
def oA{G:List Xb}(h:G.length<=4){i:Nat}(hi:i<G.length):(RY G i).set i ⟨TU.getD i ⟨#[]⟩,G[i].X8⟩=RY G (i+1):=by
 have b:=yu h (RO hi);refine T6 λj=>?_;by_cases e:i=j
 .subst e;rw[Xz J];unfold RY;rw[YT (by rw[T5,Qx h];omega),UK J,yv h hi]
 rw[XJ e];unfold RY;by_cases a:j<i
 .rw[YT (by rw[T5,Qx h];omega),YT (by rw[T5,Qx h];omega),UK a,UK J]
 rw[W5 (by rw[T5,Qx h];omega),W5 (by rw[T5,Qx h];omega),T5,T5,Qx h,Vf,Vf];congr 1;omega
def oz(d:ZF)(hd:d.Z4.length<2 ^ 63)(u:Nat)(O:u<=4):PJ 68 [I u] d (λr=>∃c:Zm,r=Wa (IM c)/\N4 4 u c):=by
 unfold PJ;refine Ν.body Τ func68 U U ntmps68 U U o ?_
 repeat apply Ζ
 refine ZB (A:=[4]) Τ λP B=>ς ?_;apply B;refine ZA ?_;refine ZB (A:=[5]) Τ λP B=>ς ?_;refine oE d hd 4 u θ θ O U ?_;intro c af ag d1 ah ai F Q;simp;(repeat (rw[Ι];simp));apply B;have s:=F.Yf;obtain⟨G,H⟩:=ν c.Z2;rw[<-H]at s ⊢;obtain⟨n,C⟩:=ν G.length;rw[<-C];refine Χ ?_;refine W.iter (λi:Nat=>i<=n) (λi=>[(8,.sl true 1 (TU.map ZQ)),(9,I i),(4,.Ο 1 1 0 0),(5,.Ο 5 1 0 0)]) (λi=>[ZS d1,Rn Yu Yu Yu,.dead,.dead,.cells 92 2 ((RY G i).map X4),Rn (.ms 4 n 0 n) (Yv c.ZE) (Tz c.cells)]) (λi=>n-i) 0 (Γ _) (by rw[oD]) (by intro p K;simp only[YU,XW,or_false]at K;rcases K with rfl|rfl|rfl|rfl<;>rfl) (λi hi R=>?_);have D:=yu s (i:=i) J;rw[<-C]at D;refine γ D ?_;by_cases v:i<n
 .refine Β (by simp[v]) ?_;have L:i<G.length:=J;have w:=oB s L;have E:=oA s L;obtain⟨x,S⟩:=ν (G[i]);rw[<-S]at w E;have T:∀h,(RY G i)[i]'h=x:=λh=>by rw[ξ h]at w;exact Xq w
  have y:TU[i]?=some (TU.getD i ⟨#[]⟩):=by
   rw[XA,ξ (show i<TU.length by show i<4;omega)];rfl
  have M:∀h,TU[i]'h=TU.getD i ⟨#[]⟩:=λh=>by rw[ξ h]at y;exact Xq y
  have V:TU.length=4:=rfl;obtain⟨RG,X⟩:=ν (TU.getD i ⟨#[]⟩);rw[<-X]at E y M;have Y:i<4:=J;have Z:(i:Int)<4:=J
  repeat apply Ζ
  refine VB (Ξ D (Ξ w (Ξ T (Ξ y (Ξ M (Ξ V (Ξ v (Ξ Y Z)))))))) ?_;refine Χ ?_;refine W.to (R (i+1) v J) (by rw[<-E,Lh]) (by simp[YR v (show n<2 ^ 62 by omega)])
 obtain rfl:i=n:=J
 refine Δ o ?_;refine W.exit U ?_;rw[C,oC s];have aa:=Qx s;have ab:R0 4 2 ((Sk G).map X4) (.ms 4 G.length 0 G.length) (UA (Sk G)):=by
  have:=R0.ms (id:=4) (k:=2) (l:=(Sk G).map X4)
  rwa [WS,aa]at this
 refine W.LI (σ':=[ZS d1,Rn Yu Yu Yu,.dead,.dead,.dead,Rn (UA (Sk G)) (Yv c.ZE) (Tz c.cells)]) (id:=4) o U U U (λj r ad b=>?_) [(4,.Ο 1 1 0 0),(5,.Ο 5 1 0 0)] (λq N=>by
  simp only[YU,XW,or_false]at N;rcases N with rfl|rfl<;>exact .same _) ?_
 .match j,ad,b with
  | 0,_,b=>exact⟨r,b,.inl rfl⟩
  | 1,_,b=>exact⟨r,b,.inl rfl⟩
  | 2,_,b=>exact⟨r,b,.inl rfl⟩
  | 3,_,b=>exact⟨r,b,.inl rfl⟩
  | 4,h,_=>exact absurd rfl h
  | 5,_,b=>
   simp at b;subst b;refine⟨_,U,.inr ⟨_,_,_,_,U,U,U,λi e aj f g=>?_⟩⟩
   match i with
   | 0=>
    simp at f g;subst f;subst g;refine⟨U,λx a a' m t=>?_⟩
    match x with
    | 0=>simp[Ψ.cells]at m t;subst m;subst t;exact ab
    | 1=>simp[Ψ.cells]at m t;subst m;subst t;exact .same _
    | 2=>simp[Ψ.cells]at m t;subst m;subst t;exact .same _
    | x+3=>simp[Ψ.cells]at m
   | i+1=>simp at f
  | j+6,_,b=>simp at b
 refine Χ ?_;refine W.cut 1 o [(4,.Κ [UA (Sk G),Yv c.ZE,Tz c.cells])] o (λid r ak b=>?_) (λz ae=>?_) ?_
 .obtain rfl:id=0:=J
  simp at b;subst b;exact Ng d1 1
 .obtain rfl:=Us.1 ae;refine Yx.struct (h:=1) (id:=1) (Z3 _) U U λx a a' f g=>?_
  match x,f,g with
  | 0,f,g=>cases f;cases g;exact .low o
  | 1,f,g=>cases f;cases g;exact .low o
  | 2,f,g=>cases f;cases g;exact .low o
 refine W.ret ⟨_,U,_,d1,.refl _,⟨c,?_,F⟩,U,Q⟩;rw[H];rfl
end Go.TL
namespace Go.TL
open Go.Proofs.Tryz
open Go.Conc Go.Proofs
section
variable{P:Program}{S:ζ}{B:ZZ}{H:Φ}{σ:Ρ}{id c Η j:Nat}{l:μ}{u:Value}
def FH(a:Holds S B σ H)(b:σ[id]?=some (.own c Η l))(h:l[j]?=some (.z u)):∃N t M,B[id]?=some (some (c,N))/\H.Α c (Η+j)=some (u,true)/\H.row c=some (t,M)/\One u:=by
 let ⟨bo,d⟩:=TH a b;obtain⟨N,t,M,rfl,i,w,k⟩:=a.row id _ bo b d;let ⟨e,f,g⟩:=k j _ h;generalize w j=y at e f g;cases f;exact⟨N,t,M,d,e,i,g⟩
def yt{b:Type}{l:List b}{j a}(c:j<l.length):l.take j++[a]++l.drop (j+1)=l.set j a:=by
 rw[List.set_eq_take_append_cons_drop,if_pos c];simp
def CR(i:Holds S B σ H){N}(k:σ[id]?=some (.own c Η l))(m:B[id]?=some (some (c,N)))(n:j<l.length){x}(d:(Ψ.z x).Y8 σ=true) :
  One x/\H.owns c (Η+j)/\Holds S (B.set id (some (c,N))) (σ.set id (.own c Η (l.set j (.z x)))) (H.QS ⟨c,Η+j,none⟩ x)/\Ext S B H S (B.set id (some (c,N))) (H.QS ⟨c,Η+j,none⟩ x)/\ZC S S B (B.set id (some (c,N))) σ (σ.set id (.own c Η (l.set j (.z x)))):=by
 have f:=(Θ.z (S:=S) (B:=B) x).K3 d
 let ⟨r,o,s,a⟩:=By i (j:=j) k m (.z x) (by show([Ψ.z x].all (Ψ.Y8 σ))=true;rw[List.all_cons,d];rfl) (by simp;omega)
 have p:x.cells.toList=[x]:=by rw[f.cells]
 have Υ:H.W2 c (Η+j) [x]=H.QS ⟨c,Η+j,none⟩ x:=by
  unfold Φ.W2 Φ.QS;congr 1
  funext g o'
  by_cases b:g=c/\o'=Η+j
  .obtain⟨rfl,rfl⟩:=b;simp
  rw[if_neg b];by_cases h:g=c
  .subst h;have:o'≠Η+j:=λe=>b ⟨U,e⟩;simp;intro t u;omega
  simp[h]
 rw[p]at a;simp only[Ψ.cells,List.length_cons,List.length_nil]at a;rw[Υ,yt n]at a;exact⟨f,by simpa[Ψ.cells] using o 0 (by simp[Ψ.cells]),a⟩
variable[Z8]
variable{g:FuncId}{q:Nat}{K E:Ψ->Ρ->Prop}
def oy{kd x}(b:P1 P g (Extern.Atomic.loadT (.int kd)))(d:σ[id]?=some (.own c Η l))(e:l[j]?=some (.z (.int kd x)))(f:q=Η+j)(h:K (.z (.int kd x)) σ):Yi P (.fn (.func g) [] []) [.z (ptr c q)] σ K E:=by
 subst f;refine .ext b λS B H vs a hv=>?_;obtain rfl:=V8 (l:=[ptr c (Η+j)]) hv;let ⟨N,t,M,k,i,m,n⟩:=FH a d e;unfold Extern.Atomic.loadT;refine Ω.bind' (Ω.pure' ?_);unfold Extern.Atomic.read;refine Ω.bind' ⟨U,U,_,_,i,Ω.pure' ?_⟩;show Ω P (if kd=kd then _ else _) H _ _;rw[if_pos U];exact Ω.pure' (.same a h (.z _))
def ox{x u}(e:P1 P g Extern.Atomic.storeT)(a:σ[id]?=some (.own c Η l))(b:l[j]?=some (.z u))(f:q=Η+j)(h:(Ψ.z x).Y8 σ=true)(i:K (.z (.tuple #[])) (σ.set id (.own c Η (l.set j (.z x))))):Yi P (.fn (.func g) [] []) [.z (ptr c q),.z x] σ K E:=by
 subst f;refine .ext e λS B H vs d hv=>?_;obtain rfl:=V8 (l:=[ptr c (Η+j),x]) hv;let ⟨N,t,M,k,v,m,w⟩:=FH d a b;let ⟨n,o,p,r,s⟩:=CR d a k (ZT.1 b).1 h;unfold Extern.Atomic.storeT;refine Ω.bind' (Ω.pure' ?_);refine Ω.bind' ⟨U,U,o,⟨_,_,m⟩,n,Ω.pure' ?_⟩;exact Ω.pure' ⟨S,_,_,_,i,r,p,s,.z _⟩
def ow{a y}(i:P1 P g (Extern.Atomic.casT (.int .i32)))(b:σ[id]?=some (.own c Η l))(d:l[j]?=some (.z (.int .i32 a)))(k:q=Η+j)(m:K (.z (.bool true)) (σ.set id (.own c Η (l.set j (.z (.int .i32 y)))))):Yi P (.fn (.func g) [] []) [.z (ptr c q),.z (.int .i32 a),.z (.int .i32 y)] σ K E:=by
 subst k;refine .ext i λS B H vs e hv=>?_;obtain rfl:=V8 (l:=[ptr c (Η+j),.int .i32 a,.int .i32 y]) hv;let ⟨N,t,M,n,f,h,A⟩:=FH e b d;let ⟨p,r,s,u,v⟩:=CR e b n (ZT.1 d).1 (x:=.int .i32 y) U;unfold Extern.Atomic.casT;refine Ω.bind' (Ω.pure' ?_);apply Ω.bind';unfold Extern.Atomic.touchesFrozen;refine Ω.bind' (A' h ?_);refine⟨⟨_,f⟩,Ω.pure' ?_⟩;rw[if_neg o];apply Ω.bind';unfold Extern.Atomic.read;refine Ω.bind' ⟨U,U,_,_,f,Ω.pure' ?_⟩;show Ω P (if IntKind.i32=IntKind.i32 then _ else _) H _ _;rw[if_pos U];apply Ω.pure';refine Ω.bind' (Ω.pure' ?_);show Ω P (if(a==a)=true then _ else _) H _ _;rw[if_pos o];refine Ω.bind' ⟨U,U,r,⟨_,_,h⟩,p,Ω.pure' ?_⟩;have w:(a==a)=true:=o;rw[w];exact Ω.pure' ⟨S,_,_,_,m,u,s,v,.z _⟩
def ov{a y}(f:P1 P g (Extern.Atomic.update (Op.intArith .add) .i32 true))(b:σ[id]?=some (.own c Η l))(d:l[j]?=some (.z (.int .i32 a)))(h:q=Η+j)(i:K (.z (.int .i32 (IntKind.i32.wrap (a+y)))) (σ.set id (.own c Η (l.set j (.z (.int .i32 (IntKind.i32.wrap (a+y)))))))):Yi P (.fn (.func g) [] []) [.z (ptr c q),.z (.int .i32 y)] σ K E:=by
 subst h;refine .ext f λS B H vs e hv=>?_;obtain rfl:=V8 (l:=[ptr c (Η+j),.int .i32 y]) hv;let ⟨N,t,M,k,m,n,v⟩:=FH e b d;let ⟨o,p,r,s,u⟩:=CR e b k (ZT.1 d).1 (x:=.int .i32 (IntKind.i32.wrap (a+y))) U;unfold Extern.Atomic.update;refine Ω.bind' (Ω.pure' ?_);apply Ω.bind';unfold Extern.Atomic.read;refine Ω.bind' ⟨U,U,_,_,m,Ω.pure' ?_⟩;show Ω P (if IntKind.i32=IntKind.i32 then _ else _) H _ _;rw[if_pos U];apply Ω.pure';refine Ω.bind' (Ω.pure' (Ω.bind' (Ω.pure' ?_)));refine Ω.bind' (Ω.pure' ?_);refine Ω.bind' ⟨U,U,p,⟨_,_,n⟩,o,Ω.pure' ?_⟩;exact Ω.pure' ⟨S,_,_,_,i,s,r,u,.z _⟩
end
section
variable[Z8]
variable{P:Program}{Q:Value->Prop}{mn:Bool}{x:Vp}{b:Frame}{cs:YM}{nt:Nat}{Η:Base}{k:Zk}{env:κ}{σ:Ρ}{ops:Y5}{i:Nat}{rest:Z6}{op:Oper}{f:FuncId}{args:Array Operand}{id c p j q:Nat}{l:μ}{a:Ψ}
def ys{S B H w}(f:Fits H w)(b:Holds S B σ H)(d:σ[id]?=some (.own c p l))(g:l[j]?=some a):(∃v,w.cell? ⟨c,p+j,none⟩=some v)/\H.owns c (p+j):=by
 let ⟨bo,h⟩:=TH b d;obtain⟨N,t,M,rfl,k,w',i⟩:=b.row id _ bo d h;let ⟨e,_⟩:=i j _ g;exact⟨⟨_,f.Α _ _ _ _ e⟩,⟨_,e⟩⟩
def V.yr(s:Seq x)(d:SV b ops i op)(hd:WA nt op=true)(u:XE env ops op=some true){src g t0 y}(A:op.op=.convert src g y)(h:P.underlying src=some (.pointer t0))(m:P.underlying g=some .unsafePointer)(n:(P.info? t0).map (λi=>decide (i.size=0))=some false)
  (C:π env y=.z (ptr c q)) (D:σ[id]?=some (.own c p l)) (E:l[j]?=some a) (F:q=p+j) (I:V P Q mn x b cs nt Η (.inRegion ops rest::k) (Zr op env (.z (ptr c q))) σ):V P Q mn x b cs nt Η (.inRegion ops (i::rest)::k) env σ:=by
 subst F;intro S B H t J f;refine η.own s λw o=>?_;let ⟨⟨v,hv⟩,_⟩:=ys o f.holds D E;refine⟨_,_,w,#[],H,?_,Yq.start o,I S B H _ J (f.put hd (.z (ptr c (p+j))))⟩;have r:=run_convert_to_unsafe h m n hv;have K:=events_convert_to_unsafe h m n hv #[];have e:execOp (ZX t) op=(do pure (.value (<-convert src g (ptr c (p+j))))):=by unfold execOp;rw[A,<-Ji f.Zt C]
 rw[Xa d.run d.ro,Xa d.run d.ro,<-Od];have L:(execOp (⟨t,b.defers⟩:_root_.Go.Act).eval op).run P w=.ok (.value (ptr c (p+j))) w:=by rw[Uy,e];simp[r,Result.andThen]
 have M:(execOp (⟨t,b.defers⟩:_root_.Go.Act).eval op).events P w #[]=#[]:=by rw[Uy,e];simp[r,K,Result.evThen]
 rw[stepG_value d.op (Uk f.Zt u) d.kd L];unfold listed;rw[M,seen_none]
def V.yq(n:Seq x){mk}(e:mk=.acquire\/mk=.releaseMerge)(h:Wx P b ops i op f (Extern.Race.marked mk) args env [ptr c q] nt)(o:σ[id]?=some (.own c p l))(r:l[j]?=some a)(s:q=p+j)
  (u:V P Q mn x b cs nt Η (.inRegion ops rest::k) (Zr op env R4) σ):V P Q mn x b cs nt Η (.inRegion ops (i::rest)::k) env σ:=by
 subst s;intro S B H t v d;refine η.own n λw m=>?_;let ⟨_,y⟩:=ys m d.holds o r;have A:∀g,mk ⟨c,p+j,none⟩≠Mark.extern g:=λg=>by rcases e with rfl|rfl<;>simp
 refine⟨_,_,w,_,H,h.step d.Zt (LW mk _) (LV mk _ _) (PU A),?_,u S B H _ v (d.put h.dst (.z _))⟩;exact(Yq.start m).push (.inr (.inr ⟨_,e.imp (λh=>by rw[h]) (λh=>by rw[h]),U,y⟩))
end
section
variable[Z8]
def Ν.LD{P g args σ σ' r K E}(h:Ν P g args σ (λa s=>a=r/\s=σ') (λ_ _=>False))(c:K r σ'):Yi P (.fn (.func g) [] []) args σ K E:=by
 have d:Ν P g ([]++args++[]) σ (λa s=>a=r/\s=σ') (λ_ _=>False):=by simpa using h
 refine(Ν.call d).mono (λa s b=>?_) (λa s b=>False.elim b);rw[b.1,b.2];exact c
def Kl(P:Program)(g:FuncId)(args:μ)(σ:Ρ)(K:Ρ->Prop):Prop:=
 ∀(b)(mn)(x)(c)(rest)(S)(B)(H)(vs),Seq x->c.mode=.returning->Holds S B σ H->XF S B σ args vs->
  (∀(σ')(a)(B')(H'),K σ'->Ext S B H a B' H'->ZC S a B B' σ σ'->Holds a B' σ' H'->η P b mn x c rest H')->η P b mn x (Frame.enter P g vs .deferred) (c::rest) H
def Kl.GN{P σ K g fn body}(d:P.funcs[g]?=some fn)(p:fn.body=some body)(r:fn.results=#[]){nt m}(t:fn.ntmps=nt)(u:σ.length=m){args}(L:args.length<=nt)
  (h:W P m nt [.code body] (entry 0 args) σ (λj _ s=>(j=[]\/∃k,j=.code .ret::k)/\K s) (λ_ _ _=>False)):Kl P g args σ K:=by
 subst t;subst u;intro e mn x c rest S B H vs b w f hv y;rw[Ty d p];have A:(vs++Array.replicate (fn.ntmps-vs.size) undef).size=fn.ntmps:=by
  have:=hv.1;simp;omega
 refine h e mn x (c::rest) _ S B H _ b U ⟨f,Ei hv _,A,Z3 _⟩ (λj env' σ' i B' H' t' l ⟨C,D⟩ n E F=>?_) (λa env' σ' i B' H' t' l v I=>I.elim);have J:=n.all f (Z3 _);have o:η P e mn x {χ (Frame.enter P g vs .deferred) t' l with mode:=.returning} (c::rest) H':=by
  refine .HI b U U U d ?_;rw[results_none r];apply Ω.pure';rw[w];exact y σ' i B' H' D n.ext J E.holds
 have:=F;subst this;rcases C with rfl|⟨k,rfl⟩
 .exact .QR b U U o
 exact .ret b U U o
end
section
variable[Z8]
def ou:P1 prog 164 (Extern.Atomic.loadT (.int .u32)):=⟨_,func164,by kernel_rfl,by kernel_rfl,by kernel_rfl,by kernel_rfl⟩
def ot:P1 prog 208 Extern.Atomic.storeT:=⟨_,func208,by kernel_rfl,by kernel_rfl,by kernel_rfl,by kernel_rfl⟩
def oq:P1 prog 169 (Extern.Atomic.casT (.int .i32)):=⟨_,func169,by kernel_rfl,by kernel_rfl,by kernel_rfl,by kernel_rfl⟩
def oo:P1 prog 171 (Extern.Atomic.update (Op.intArith .add) .i32 true):=⟨_,func171,by kernel_rfl,by kernel_rfl,by kernel_rfl,by kernel_rfl⟩
abbrev XS(c q:Nat)(d m:Int)(u a:Ψ):Row:=.own c q [.z (.int .u32 d),.z (.int .i32 m),u,a]
section
variable{c q:Nat}{d:Int}{u a:Ψ}
def om:Ν prog 127 [.z (ptr c (q+1))] [XS c q d 0 u a] (λr s=>r=.Z7 []/\s=[XS c q d 1 u a]) (λ_ _=>False):=by
 refine⟨⟨_,func127,U,U⟩,λp mn x t rest S B H vs h k hv w y f=>?_⟩;have A:=h.rel y f;have C:=h.Z9 y f;let ⟨Q,R⟩:=ν y.deaf;have g:∀n,@Seq Yg (one {y with deaf:=n}):=λn=>@Seq.PV Yg _ trivial A C;have T:({y with deaf:=y.deaf+1-1}:Z0)=y:=rfl;have D:∀(e)(B')(H':Φ),Ext S B H e B' H'->ZC S e B B' [XS c q d 0 u a] [XS c q d 1 u a]->Holds e B' [XS c q d 1 u a] H'->Zx prog p mn y (t.finish (.tuple #[])) rest H':=
  λe B' H' E F I=>w.ret (.Z7 []) _ e B' H' _ ⟨U,U⟩ E F I (.Z7 #[] U λi a v hi=>by simp at hi) y f
 letI:Z8:=Yg;have b:Seq (one y):=g y.deaf;rw[Ty (body:=f127.body.getD .skip) func127 U];refine V.here (x:=one y) (m:=1) (nt:=13) (S:=S) (B:=B) (H:=H) (σ:=[XS c q d 0 u a]) (env:=entry 0 [.z (ptr c (q+1))]) ?_ (XG.enter k hv (Z3 _) o) y U;apply V.Ys b U;simp only[f127,Option.getD_some]
 repeat apply Ζ
 refine W.Zs (.stop ?_);refine V.disable b.here ⟨⟨U,U,by simp[Frame.enter],U⟩,LU,⟨_,U⟩,U,U,U⟩ ?_;apply V.Ys (g _) U;apply W.ZK;refine ο λX J=>?_;apply ow (id:=0) (j:=1) (y:=1) oq U U U;simp;(repeat (rw[Ι];simp));apply J;apply Β U
 repeat apply Ζ
 apply Β U
 repeat apply Ζ
 refine W.Zs (.stop ?_);refine V.enable (g _).here (UI _) ⟨⟨U,U,by simp[Frame.enter],U⟩,O2,⟨_,U⟩,U,U,U⟩ ?_;rw[show({({y with deaf:=y.deaf+1}:Z0)with deaf:=({y with deaf:=y.deaf+1}:Z0).deaf-1}:Z0)=y from rfl];apply V.Ys b U;apply W.ZK
 repeat apply Ζ
 apply W.Zs;refine XB [0] [1,2] ?_;apply W.stop;apply V.yr b ⟨U,U,by simp[Frame.enter],U⟩ U U U Jd O1 Jc U (id:=0) (j:=1) U U U;refine V.yq b (.inl U) ⟨⟨U,U,by simp[Frame.enter],U⟩,Je,⟨_,U⟩,U,U,U⟩ (id:=0) (j:=1) U U U ?_;intro K L M t5 l N;have O:=l.all k (Z3 _);refine η.ZK b U (.ret b U U (.back b U U (.inl U) func127 ?_));rw[results_none U];refine Ω.pure' λz P=>?_;obtain rfl:z=y:=P;exact D K L M l.ext O N.holds
def oj:Ν prog 128 [.z (ptr c (q+1))] [XS c q d 1 u a] (λr s=>r=.Z7 []/\s=[XS c q d 0 u a]) (λ_ _=>False):=by
 refine⟨⟨_,func128,U,U⟩,λw mn x A rest S B H vs k l hv C y g=>?_⟩;have D:=k.rel y g;have E:=k.Z9 y g;have h:∀n,@Seq Yg (one {y with deaf:=n}):=λn=>@Seq.PV Yg _ trivial D E;have F:∀(e)(B')(H'),Ext S B H e B' H'->ZC S e B B' [XS c q d 1 u a] [XS c q d 0 u a]->Holds e B' [XS c q d 0 u a] H'->Zx prog w mn y (A.finish (.tuple #[])) rest H':=
  λe B' H' I J K=>C.ret (.Z7 []) _ e B' H' _ ⟨U,U⟩ I J K (.Z7 #[] U λi a v hi=>by simp at hi) y g
 letI:Z8:=Yg;have b:=h y.deaf;rw[Ty (body:=f128.body.getD .skip) func128 U];refine V.here (x:=one y) (m:=1) (nt:=21) (S:=S) (B:=B) (H:=H) (σ:=[XS c q d 1 u a]) (env:=entry 0 [.z (ptr c (q+1))]) ?_ (XG.enter l hv (Z3 _) o) y U;apply V.Ys b U;simp only[f128,Option.getD_some]
 repeat apply Ζ
 apply Β U;refine ο λp f=>?_;apply f
 repeat apply Ζ
 apply W.Zs;refine XB [0] [1,2] ?_;apply W.stop;apply V.yr b ⟨U,U,by simp[Frame.enter],U⟩ U U U Jd O1 Jc U (id:=0) (j:=1) U U U;refine V.yq b (.inr U) ⟨⟨U,U,by simp[Frame.enter],U⟩,DC,⟨_,U⟩,U,U,U⟩ (id:=0) (j:=1) U U U ?_;apply V.Ys b U;apply W.ZK
 repeat apply Ζ
 refine W.Zs (.stop ?_);refine V.disable b.here ⟨⟨U,U,by simp[Frame.enter],U⟩,LU,⟨_,U⟩,U,U,U⟩ ?_;apply V.Ys (h _) U;apply W.ZK;refine ο λp f=>?_;apply ov (id:=0) (j:=1) oo U U U;have w0:IntKind.i32.wrap (1+-1)=0:=θ;rw[w0];simp;(repeat (rw[Ι];simp));apply f;refine ο λp f=>?_;apply f;apply Δ U
 repeat apply Ζ
 refine W.Zs (.stop ?_);refine V.enable (h _).here (UI _) ⟨⟨U,U,by simp[Frame.enter],U⟩,O2,⟨_,U⟩,U,U,U⟩ ?_;rw[show({({y with deaf:=y.deaf+1}:Z0)with deaf:=({y with deaf:=y.deaf+1}:Z0).deaf-1}:Z0)=y from rfl];intro L M N t5 t O;have P:=t.all l (Z3 _);refine η.ZK b U (.QR b U U (.back b U U (.inl U) func128 ?_));rw[results_none U];refine Ω.pure' λz Q=>?_;obtain rfl:z=y:=Q;exact F L M N t.ext P O.holds
def oi:Ν prog 78 [.z (ptr c (q+1))] [XS c q d 0 u a] (λr s=>r=.Z7 []/\s=[XS c q d 1 u a]) (λ_ _=>False):=by
 apply Ν.body Τ func78 U U ntmps78 U U o;refine ο λe b=>?_;apply Ν.LD om;simp;(repeat (rw[Ι];simp));apply b;exact W.nil ⟨_,U,U,U⟩
def oh:Kl prog 79 [.z (ptr c (q+1))] [XS c q d 1 u a] (λs=>s=[XS c q d 0 u a]):=by
 apply Kl.GN func79 U U ntmps79 U o;refine ο λe b=>?_;apply Ν.LD oj;simp;(repeat (rw[Ι];simp));apply b;exact W.stop ⟨.inl U,U⟩
def yp{m}:Ν prog 123 [.z (ptr c q)] [XS c q 0 m u a] (λr s=>r=ZU false/\s=[XS c q 0 m u a]) (λ_ _=>False):=by
 apply Ν.body Τ func123 U U ntmps123 U U o;refine Χ ?_;refine ο λd b=>?_;apply oy (id:=0) (j:=0) ou U U U;simp;(repeat (rw[Ι];simp));apply b;refine Χ ?_;exact W.ret ⟨_,U,U,U⟩
def og:Μ prog 209 [ZU true] (.z (.int .u32 1)):=by
 apply Ν.body Τ func209 U U ntmps209 U U o;refine Χ ?_;apply Β U;refine Χ ?_;refine W.rt ?_;exact .of U
def oe{m}:Kl prog 165 [.z (ptr c q),ZU true] [XS c q 0 m u a] (λs=>s=[XS c q 1 m u a]):=by
 apply Kl.GN func165 U U ntmps165 U o
 repeat apply Ζ
 refine W.draw (A:=[]) Τ mixed λd b=>Rt ?_;refine Wf (Μ.q (og)) (Rt ?_);apply Nv (ox (id:=0) (j:=0) ot U U U U ⟨U,U⟩);simp;(repeat (rw[Y3];simp));try rw[YL]
 refine X5 (b _ _ ?_);exact W.stop ⟨.inl U,U⟩
def od{f a'}(E:Yi prog f [] [XS c q 0 1 u a] (λr s=>r=.Z7 []/\s=[XS c q 0 1 u a']) (λ_ _=>False)) :
  Ν prog 124 [.z (ptr c q),f] [XS c q 0 0 u a] (λr s=>r=.Z7 []/\s=[XS c q 1 0 u a']) (λ_ _=>False):=by
 refine⟨⟨_,func124,U,U⟩,λm mn x ak rest S B H vs b n hv F=>?_⟩;rw[Ty func124 U];refine V.here ?_ (XG.enter n hv (Z3 _) o);apply V.Ys b U;simp[f124,Option.getD_some];refine ο λp g=>?_;apply Ν.LD oi;simp;(repeat (rw[Ι];simp));apply g
 repeat apply Ζ
 apply W.Zs;refine XB [0,1,2] [3] ?_;apply W.stop;refine V.defer b U U U U U U U ⟨_,func79,U,U⟩ λal am an t1 d1 ao w y I j=>?_;obtain rfl:=V8 (l:=[ptr c (q+1)]) I;have J:=w.all n (Z3 _);refine V.here ?_ y;apply V.Ys b U;apply W.ZK;refine ο λp g=>?_;apply Ν.LD yp;simp;(repeat (rw[Ι];simp));apply g;apply Β U
 repeat apply Ζ
 apply W.Zs;refine XB [0,1,2] [3] ?_;apply W.stop;refine V.defer b U U U U U U U ⟨_,func165,U,U⟩ λap aq ar t2 d2 au A C K k=>?_;obtain rfl:=V8 (l:=[ptr c q,.bool true]) K;have L:=A.all y.holds (Z3 _);refine V.here ?_ C;apply V.Ys b U;apply W.ZK;refine ο λp g=>?_;refine Yi.mono E (λr t h=>?_) (λ_ _ h=>h.elim);obtain⟨rfl,rfl⟩:=h;simp;(repeat (rw[Ι];simp));apply g;apply W.stop;intro M N O t3 D P;have Q:=D.all C.holds (Z3 _);apply η.QR b U U;apply η.deferred b o U k.t1 k.t2 k.run;refine oe m mn x _ _ M N O _ b U P.holds ⟨U,λi a v d e=>?_⟩ λav R T X Y Z aa ab=>?_
 .match i,d,e with
  | 0,d,e=>cases d;cases e;exact .z _
  | 1,d,e=>cases d;cases e;exact .z _
 subst Y;apply η.deferred b o U j.t1 j.t2 j.run;refine oh m mn x _ _ R T X _ b U ab ⟨U,λi a v d e=>?_⟩ λaw ad ae af ag ah ai aj=>?_
 .match i,d,e with
  | 0,d,e=>cases d;cases e;exact .z _
 subst ag;apply η.back b U U (.inl U) func124;rw[results_none U];apply Ω.pure';exact F.ret (.Z7 []) _ ad ae af _ ⟨U,U⟩ (w.ext.trans (A.ext.trans (D.ext.trans (Z.trans ah)))) (J.trans (L.trans (Q.trans (aa.trans ai)))) aj (.Z7 #[] U λi a v hi=>by simp at hi)
def oc{f a'}(d:Yi prog f [] [XS c q 0 1 u a] (λr s=>r=.Z7 []/\s=[XS c q 0 1 u a']) (λ_ _=>False)) :
  Ν prog 75 [.z (ptr c q),f] [XS c q 0 0 u a] (λr s=>r=.Z7 []/\s=[XS c q 1 0 u a']) (λ_ _=>False):=by
 apply Ν.body Τ func75 U U ntmps75 U U o;refine ο λe b=>?_;apply Ν.LD yp;simp;(repeat (rw[Ι];simp));apply b;apply Β U;refine ο λe b=>?_;apply Ν.LD (od d);simp;(repeat (rw[Ι];simp));apply b;exact W.nil ⟨_,U,U,U⟩
end
end
end Go.TL
namespace Go.TL
open Go.Proofs.Tryz
open Go.Conc Go.Proofs
variable[Z8]
def LC(r:Row):Prop:=(∃t k l,r=.cells t k l/\0<l.length*k)\/∃c a l,r=.own c a l/\l≠[]
section
variable{S VL Y2:ζ}{B WW OV:ZZ}{σ R7 RX:Ρ}{H E:Φ}{β:Nat}
def LC.has{r:Row}{bo:Option (Nat×Nat)}{b N:Nat}(h:LC r)(d:VO S B σ H r bo)(i:bo=some (b,N)):∃f x,H.Α b f=some (x,true):=by
 subst i;rcases h with⟨t,k,l,rfl,h⟩|⟨c,f,l,rfl,h⟩
 .obtain⟨_,g,m,_⟩:=d;obtain⟨w,n⟩:=m 0 J;exact⟨0,w,n⟩
 obtain⟨s,t,M,e,_,w,g⟩:=d;cases e;obtain⟨a,o⟩:=List.exists_mem_of_ne_nil l h;obtain⟨j,p⟩:=Tl o;exact⟨_,_,(g j a p).1⟩
def LC.live{r:Row}(h:LC r):r.live:=by
 rcases h with⟨t,k,l,rfl,h⟩|⟨c,a,l,rfl,h⟩<;>trivial
def VO.yo{m:ζ}{B':ZZ}{σ':Ρ}{r:Row}{bo:Option (Nat×Nat)}(I:LC r)(g:YO 0 r)(n:VO S B σ H r bo)(J:∀b d v,S b d=some v->m b d=some v):VO m B' σ' (join H E) r bo:=by
 have C:∀{a:Ψ}{v:Value},Θ S B σ a v->ω 0 a->Θ m B' σ' a v:=λh g=>(h.any g B' σ').later ⟨J,λid r h=>⟨r,h,r.Sv _⟩⟩
 have D:∀{b x},H.row b=some x->(join H E).row b=some x:=λh=>by simp only[join,h]
 rcases I with⟨t,k,l,rfl,h⟩|⟨c,d,l,rfl,h⟩
 .cases bo with
  | none=>exact n
  | some x=>
   obtain⟨b,N⟩:=x;obtain⟨o,p,K,w,F⟩:=n;refine⟨D o,p,λd L=>?_,w,λi e hi=>⟨(F i e hi).1,λj a f=>?_⟩⟩
   .obtain⟨u,O⟩:=K d L;exact⟨u,join_some O⟩
   obtain⟨s,y,A⟩:=(F i e hi).2 j a f;exact⟨join_some s,C y (g e (ZD hi) a (ZD f)),A⟩
 obtain⟨N,t,M,rfl,o,w,p⟩:=n;refine⟨N,t,M,U,D o,w,λj a f=>?_⟩;obtain⟨s,y,A⟩:=p j a f;exact⟨join_some s,C y (g a (ZD f)),A⟩
def ob(h:Apart H E):Apart E H:=⟨h.Qe,h.Α,λb a c=>h.obj b c a⟩
def yn(u:Holds S WW R7 H)(o:Holds VL OV RX E)(M:Apart H E)(O:∃w,Fits H w/\Fits E w)(D:∀r∈RX,Ts r)(P:∀r∈R7,LC r/\YO 0 r)(ab:∀(id:Nat)(r:Row)(b N:Nat),R7[id]?=some r->WW[id]?=some (some (b,N))->∀c,VL b c=none) :
  Holds (S.plus VL) (OV++WW) (RX++R7) (join H E)/\ZC VL (S.plus VL) OV (OV++WW) RX (RX++R7)/\∀b c v,S b c=some v->S.plus VL b c=some v:=by
 obtain⟨F,l1,l2⟩:=Dk u.bare o M O D;obtain⟨w,ad,ae⟩:=O;have Q:ZC (S.plus VL) (S.plus VL) OV (OV++WW) RX (RX++R7):=⟨λ_ _ _ h=>h,λid r f=>⟨r,by rw[YT (ZT.1 f).1];exact f,by
  rw[YT (by rw[o.len];exact(ZT.1 f).1)];exact r.Sv _⟩⟩
 have split:∀(i:Nat)(r:Row)(bo:Option (Nat×Nat)),(RX++R7)[i]?=some r->(OV++WW)[i]?=some bo->(RX[i]?=some r/\OV[i]?=some bo)\/∃j,i=RX.length+j/\R7[j]?=some r/\WW[j]?=some bo:=λi r bo hi y=>by
  by_cases R:i<RX.length
  .rw[YT R]at hi;rw[YT (by rw[o.len];exact R)]at y;exact .inl ⟨hi,y⟩
  rw[W5 J]at hi;rw[W5 (by rw[o.len];omega),o.len]at y;exact .inr ⟨i-RX.length,J,hi,y⟩
 have af:∀(id:Nat)(r:Row)(b N:Nat),RX[id]?=some r->OV[id]?=some (some (b,N))->∀c,H.Α b c=none:=λid r b N f y=>by
  obtain⟨t,k,l,rfl⟩:=D r (ZD f);obtain⟨ag,_,Υ,_⟩:=o.row id _ _ f y;exact(Dl ad ae M ag Υ).1
 have T:∀(i j:Nat)(n g:Row)(b p s:Nat),RX[i]?=some n->R7[j]?=some g->OV[i]?=some (some (b,p))->WW[j]?=some (some (b,s))->False:=λi j n g b p s hi C I K=>by
  obtain⟨c,x,V⟩:=(P g (ZD C)).1.has (u.row j g _ C K) U;rw[af i n b p hi I c]at V;cases V
 refine⟨⟨F.Za,by simp[o.len,u.len],λid r bo f L=>?_,λi j n g b p s ah hi C W X I K=>?_,λid r b N f Y L c=>?_⟩,l2.trans Q,λb c v h=>LO h⟩
 .rcases split id r bo f L with⟨a,d⟩|⟨j,rfl,a,d⟩
  .refine(F.row id r bo a d).later Q (λb N e=>⟨λ_=>rfl,U,U⟩) λm left ak e=>?_;subst e;obtain⟨t,k,l,e⟩:=D _ (ZD a);cases e
  obtain⟨ai,aj⟩:=P r (ZD a);exact(u.row j r bo a d).yo ai aj λb c v h=>LO h
 .rcases split i n _ hi I with⟨a,d⟩|⟨Z,rfl,a,d⟩<;>rcases split j g _ C K with⟨A,B⟩|⟨aa,rfl,A,B⟩
  .exact o.inj i j n g b p s ah a A W X d B
  .exact T i aa n g b p s a A d B
  .exact T j Z g n b s p A a B d
  exact u.inj Z aa n g b p s J a A W X d B
 rcases split id r _ f L with⟨a,d⟩|⟨j,rfl,a,d⟩
 .exact F.sep id r b N a Y d c
 rw[I2 (u.sep j r b N a Y d c)];exact ab j r b N a d c
def U8(c:Nat)(a:TypeId×Nat)(f:Nat->Option (Value×Bool)):Φ:=⟨λb d=>if b=c then f d else none,λb=>if b=c then some a else none,λ_=>none⟩
def Sj(S:ζ)(c:Nat)(a:TypeId×Nat)(f:Nat->Option (Value×Bool)):Φ:=join (Ue S) (U8 c a f)
variable{c q M:Nat}{t:TypeId}{f:Nat->Option (Value×Bool)}{l:μ}{w:Nat->Value}
def FG(b:∀a,S c a=none)(a:Nat):(Sj S c (t,M) f).Α c a=f a:=by
 unfold Sj;rw[join_none (by simp[Ue,b])];simp[U8]
def FF{b:Nat}(d:b≠c)(a:Nat):(Sj S c (t,M) f).Α b a=(Ue S).Α b a:=by
 unfold Sj;cases h:(Ue S).Α b a with
 | some x=>rw[join_some h]
 | none=>rw[join_none h];simp[U8,d]
def ym{b:Nat}:(Sj S c (t,M) f).row b=if b=c then some (t,M) else none:=rfl
def oa(k:∀h,S c h=none)(m:∀(j:Nat)(a:Ψ),l[j]?=some a->f (q+j)=some (w j,true)/\Θ S [] [] a (w j)/\One (w j)/\ω 0 a)(N:Nat):Holds S [some (c,N)] [.own c q l] (Sj S c (t,M) f):=by
 refine⟨λb h v hv=>?_,U,λid r bo d e=>?_,λi j x y b A B n hi g=>?_,λid r b C d _ e h=>?_⟩
 .exact⟨false,by unfold Sj;exact join_some (I3 hv)⟩
 .match id,d,e with
  | 0,d,e=>
   cases d;cases e;refine⟨N,t,M,U,by rw[ym,if_pos U],w,λj a g=>?_⟩;obtain⟨o,p,s,u⟩:=m j a g;exact⟨by rw[FG k];exact o,p.any u _ _,s⟩
  | id+1,d,_=>simp at d
 .match i,j,hi,g with
  | 0,0,_,_=>exact absurd rfl n
  | i+1,_,hi,_=>simp at hi
  | 0,j+1,_,g=>simp at g
 match id,d,e with
 | 0,d,e=>cases e;exact k h
 | id+1,d,_=>simp at d
def yl{l:μ}{v:Value}{j:Nat}{a':Ψ}(h:Θ S B σ (.Κ l) v)(f:∀a u,l[j]?=some a->Θ S B σ a u->Θ S B σ a' u):Θ S B σ (.Κ (l.set j a')) v:=by
 cases h with
 | Κ b g w k d=>
  refine .Κ b g w (λi a hi=>?_) (λi a hi=>?_)
  .have c:i<l.length:=by simpa using (ZT.1 hi).1
   exact k i _ (ξ c)
  have c:i<l.length:=by simpa using (ZT.1 hi).1
  by_cases e:j=i
  .subst e;rw[Xz c]at hi;cases hi;exact f _ _ (ξ c) (d j _ (ξ c))
  rw[XJ e]at hi;exact d i a hi
end
end Go.TL
namespace Go.TL
open Go.Proofs.Tryz
open Go.Proofs
variable[Z8]
def Kk(a:ByteArray):a.toList=a.data.toList:=by
 have c:∀(n i)(r),a.size-i=n->ByteArray.toList.loop a i r=r.reverse++a.data.toList.drop i:=by
  intro n
  induction n with
  | zero=>
   intro i r h;unfold ByteArray.toList.loop;have b:a.data.toList.length=a.size:=o;rw[if_neg J,OH J];simp
  | succ n d=>
   intro i r h;unfold ByteArray.toList.loop;have hi:i<a.size:=J;have b:i<a.data.toList.length:=by simpa using hi
   rw[if_pos hi,d (i+1) _ J,Pw b];have e:a.get! i=a.data.toList[i]:=by
    show a.data[i]! = _;rw[getElem!_pos a.data i hi];simp
   rw[e];simp
 have:=c _ 0 [] U;exact(show a.toList=ByteArray.toList.loop a 0 [] from rfl).trans (by simpa using this)
def OU(a b:ByteArray):(a.toList==b.toList)=decide (a=b):=by
 rw[Kk,Kk,Pv];simp;constructor
 .intro h;let ⟨⟨x⟩⟩:=a;let ⟨⟨y⟩⟩:=b;simp at h;subst h;rfl
 rintro rfl;rfl
def yk(s:ByteArray):(s=⟨#[]⟩)↔s.size=0:=by
 let ⟨d⟩:=s
 show(ByteArray.mk d=ByteArray.mk #[])↔d.size=0;simp
def IL(s:ByteArray):s.toList.isEmpty=decide (s.size=0):=by
 rw[Kk];let ⟨d⟩:=s;show d.toList.isEmpty=decide (d.size=0);rw[<-Array.length_toList];cases d.toList<;>simp
def UO(s:ByteArray)(p:Nat):Bool:=decide (97<=(s.get! p).toNat)&&decide ((s.get! p).toNat<=122)
def X0(s:ByteArray):Bool:=(List.range s.size).all (UO s)&&decide (1<=s.size)&&decide (s.size<=6)
def Kj{s}:X0 s=true↔(∀p,p<s.size->UO s p=true)/\1<=s.size/\s.size<=6:=by
 simp[X0,and_assoc]
def IK{s p}(h:UO s p=true):Utf8.decode s p=((s.get! p).toNat,1):=by
 simp[UO]at h;unfold Utf8.decode;simp only[Nat.add_zero];rw[if_pos J]
def yj{s p}(h:UO s p=false):(Utf8.decode s p).1<97\/122<(Utf8.decode s p).1:=by
 simp[UO]at h;unfold Utf8.decode;simp only[Nat.add_zero];split
 .simp only;omega
 have e:Utf8.runeError=65533:=rfl;split
 .split<;>(simp only[e];omega)
 split
 .split
  .rename_i a;simp at a;simp only;omega
  simp only[e];omega
 split
 .split
  .rename_i a;simp at a;simp only;omega
  simp only[e];omega
 simp only[e];omega
def n'(n lo hi):Μ prog 177 [I n,I lo,I hi] (ZU (decide (lo<=n)&&decide (n<=hi))):=by
 apply Ν.body Τ func177 U U ntmps177 U U o;refine Χ ?_;by_cases h:lo<=n
 .refine Ns h ?_;refine Χ ?_;refine W.Y0 ?_;simp[h]
 refine Ns h ?_;refine Χ ?_;refine W.Y0 ?_;simp[h]
def n9(s)(u:s.size<2 ^ 40):Μ prog 139 [ZQ s] (ZU (X0 s)):=by
 apply Ν.body Τ func139 U U ntmps139 U U o;refine Χ ?_;refine W.iter (λp=>p<=s.size/\∀q,q<p->UO s q=true) (λ_=>[(0,ZQ s),(6,.it 0)]) (λp=>[.str s p]) (λp=>s.size-p) 0 ⟨Γ _,λq f=>J⟩ U o (λp j l=>?_);by_cases g:p<s.size
 .refine γ g ?_;apply Β U;cases a:UO s p with
  | true=>
   have hd:=IK a
   have m:=a;simp[UO,U2,decide_eq_true_eq]at m;have b:¬((s.get! p).toNat:Int)<97:=J;have i:¬122<((s.get! p).toNat:Int):=J;rw[hd];refine γ (Ξ b i) ?_;apply Δ U;refine Χ ?_;refine W.to (l (p+1) ⟨J,λq f=>?_⟩ J) U o;by_cases e:q=p
   .subst e;exact a
   exact j.2 q J
  | false=>
   have k:X0 s=false:=by
    cases n:X0 s with
    | false=>rfl
    | true=>rw[(Kj.1 n).1 p g]at a;cases a
   have hd:=yj a
   let ⟨c,r⟩:=ν ((Utf8.decode s p).1);rw[<-r]at hd ⊢;by_cases b:(c:Int)<97
   .refine γ b ?_;apply Β U;refine Χ ?_;apply W.drop (h:=0) (Γ _) (Γ _) o U [(2,ZU false)] o;rw[k];refine W.rt ?_;exact .of U
   have i:(122:Int)<c:=J
   refine γ (Ξ b i) ?_;apply Β U;refine Χ ?_;apply W.drop (h:=0) (Γ _) (Γ _) o U [(2,ZU false)] o;rw[k];refine W.rt ?_;exact .of U
 refine γ g ?_;apply Δ U;apply W.exit U;have v:=J;have e:X0 s=(decide (1<=s.size)&&decide (s.size<=6)):=by
  unfold X0;have:(List.range s.size).all (UO s)=true:=by
   rw[Xk];intro q f;exact j.2 q (by have:=VR.1 f;omega)
  rw[this];simp
 refine ο λw t=>?_;refine Μ.d (n' s.size 1 6) (ς ?_);apply t;refine Χ ?_;apply W.drop (h:=0) (Γ _) (Γ _) o U [(2,ZU (decide ((1:Int)<=s.size)&&decide ((s.size:Int)<=6)))] o;have Υ:(decide ((1:Int)<=s.size)&&decide ((s.size:Int)<=6))=(decide (1<=s.size)&&decide (s.size<=6)):=by congr 1<;>(rw[decide_eq_decide];omega)
 rw[e,Υ];refine W.rt ?_;exact .of U
def CQ(s)(u:s.size<2 ^ 40):Μ prog 91 [ZQ s] (ZU (X0 s)):=by
 apply Ν.body Τ func91 U U ntmps91 U U o;refine Χ ?_;refine W.iter (λp=>p<=s.size/\∀q,q<p->UO s q=true) (λ_=>[(0,ZQ s),(6,.it 0)]) (λp=>[.str s p]) (λp=>s.size-p) 0 ⟨Γ _,λq d=>J⟩ U o (λp j m=>?_);by_cases f:p<s.size
 .refine γ f ?_;apply Β U;cases a:UO s p with
  | true=>
   have hd:=IK a
   have n:=a;simp[UO,U2,decide_eq_true_eq]at n;have b:¬((s.get! p).toNat:Int)<97:=J;have g:¬122<((s.get! p).toNat:Int):=J;rw[hd];refine γ (Ξ b g) ?_;apply Δ U;refine Χ ?_;refine W.to (m (p+1) ⟨J,λq d=>?_⟩ J) U o;by_cases e:q=p
   .subst e;exact a
   exact j.2 q J
  | false=>
   have k:X0 s=false:=by
    cases r:X0 s with
    | false=>rfl
    | true=>rw[(Kj.1 r).1 p f]at a;cases a
   have hd:=yj a
   let ⟨c,t⟩:=ν ((Utf8.decode s p).1);rw[<-t]at hd ⊢;by_cases b:(c:Int)<97
   .refine γ b ?_;apply Β U;refine Χ ?_;apply W.drop (h:=0) (Γ _) (Γ _) o U [(2,ZU false)] o;rw[k];refine W.rt ?_;exact .of U
   have g:(122:Int)<c:=J
   refine γ (Ξ b g) ?_;apply Β U;refine Χ ?_;apply W.drop (h:=0) (Γ _) (Γ _) o U [(2,ZU false)] o;rw[k];refine W.rt ?_;exact .of U
 refine γ f ?_;apply Δ U;apply W.exit U;have v:=J;have e:X0 s=(decide (1<=s.size)&&decide (s.size<=6)):=by
  unfold X0;have:(List.range s.size).all (UO s)=true:=by
   rw[Xk];intro q d;exact j.2 q (by have:=VR.1 d;omega)
  rw[this];simp
 have l:=IL s;by_cases i:s.size=0
 .refine γ (Ξ l i) ?_;apply W.drop (h:=0) (Γ _) (Γ _) o U [(2,ZU false)] o;rw[e,i];refine W.rt ?_;exact .of U
 refine γ (Ξ l i) ?_;apply W.drop (h:=0) (Γ _) (Γ _) o U [(2,ZU (decide ((s.size:Int)<=6)))] o;have Υ:decide ((s.size:Int)<=6)=(decide (1<=s.size)&&decide (s.size<=6)):=by
  rw[decide_eq_true (show 1<=s.size by omega),Bool.true_and];exact decide_eq_decide.2 J
 rw[e,Υ];refine W.rt ?_;exact .of U
end Go.TL
namespace Go.TL
open Go.Proofs.Tryz
open Go.Proofs
structure Xt where
 Ya:ByteArray
 lo:Int
 hi:Int
deriving DecidableEq
structure ZN where
 Zf:List (List ByteArray)
 left:ByteArray
 right:ByteArray
 words:List ByteArray
 ZV:List Xt
 X':Int
 XX:Int
 XH:Int
 Vx:Int
 Zz:Zm
 lower:Bool
abbrev Zb(l:List ByteArray):Ψ:=.sl false 1 (l.map ZQ)
abbrev FE(l:List (List ByteArray)):Ψ:=.sl false 1 (l.map Zb)
abbrev SQ(b:Xt):Ψ:=.Z' [ZQ b.Ya,I b.lo,I b.hi]
abbrev Qw(l:List Xt):Ψ:=.sl false 3 (l.map SQ)
abbrev Yo(g:ZN):μ:=[FE g.Zf,ZQ g.left,ZQ g.right,Zb g.words,Qw g.ZV,I g.X',I g.XX,I g.XH,I g.Vx,UA g.Zz.Z2,Yv g.Zz.ZE,Tz g.Zz.cells,ZU g.lower]
abbrev VX(g:ZN):Ψ:=.Z' (Yo g)
variable[Z8]
def N3(l:List ByteArray):Int:=if l.all X0 then 0 else 2
def CP(l:List ByteArray):Prop:=l.length<2 ^ 40/\∀s∈l,s.size<2 ^ 40
def n8(l:List ByteArray)(f:CP l):Μ prog 90 [Zb l] (I (N3 l)):=by
 have n:=f.1;refine Ν.body Τ func90 U U ntmps90 U U o ?_;refine Χ ?_;refine W.iter (λi:Nat=>i<=l.length/\∀j,j<i->∀h:j<l.length,X0 l[j]=true) (λi=>[(5,Zb l),(6,I l.length),(7,I i)]) (λ_=>[]) (λi=>l.length-i) 0 ⟨Γ _,λj b=>J⟩ U o (λi hi g=>?_);refine Χ ?_;refine W.YD U (λa=>?_) (λa=>?_)
 .have a:i<l.length:=by simpa using a
  refine γ a ?_;refine ο λp k=>?_;refine Μ.d (n9 l[i] (f.2 _ (YW a))) (ς ?_);apply k;cases c:X0 l[i] with
  | true=>
   refine Δ U ?_;refine Χ ?_;refine W.to (g (i+1) ⟨a,λj b h=>?_⟩ J) U (by simp[YR a (show l.length<2 ^ 62 by omega)]);by_cases e:j=i
   .subst e;exact c
   exact hi.2 j J h
  | false=>
   refine Β U ?_;refine Χ ?_;have e:N3 l=2:=by
    unfold N3;rw[if_neg (λh=>by rw[Xk]at h;rw[h _ (YW a)]at c;cases c)]
   rw[e];refine W.rt ?_;exact .of U
 have a:l.length<=i:=by simpa using a
 refine W.exit U ?_;refine Χ ?_;have e:N3 l=0:=by
  unfold N3;rw[if_pos];rw[Xk];intro s m;obtain⟨j,b,rfl⟩:=Qg m;exact hi.2 j J b
 rw[e];refine W.rt ?_;exact .of U
def Rf(c:List ByteArray):Int:=if 8<c.length then 6 else N3 c
def Qv(C:List (List ByteArray)):Int:=if C.length<1 then 7 else if 4<C.length then 6 else XK (C.map Rf)
def yi(C:List (List ByteArray)):Prop:=C.length<2 ^ 40/\∀c∈C,CP c
def n7(C:List (List ByteArray))(g:yi C):Μ prog 40 [.Z' [FE C]] (I (Qv C)):=by
 have x:=g.1;refine Ν.body Τ func40 U U ntmps40 U U o ?_;refine Χ ?_;by_cases f:C.length<1
 .refine Β (by simp;omega) ?_;refine Χ ?_;have e:Qv C=7:=by unfold Qv;rw[if_pos f]
  rw[e];refine W.rt ?_;exact .of U
 refine Δ (by simp;omega) ?_;refine Χ ?_;by_cases k:4<C.length
 .refine Β (by simp;omega) ?_;refine Χ ?_;have e:Qv C=6:=by unfold Qv;rw[if_neg f,if_pos k]
  rw[e];refine W.rt ?_;exact .of U
 refine Δ (by simp;omega) ?_;refine Χ ?_;have p:Qv C=XK (C.map Rf):=by unfold Qv;rw[if_neg f,if_neg k]
 rw[p];refine W.iter (λi:Nat=>i<=C.length/\∀j,j<i->∀h:j<C.length,Rf C[j]=0) (λi=>[(17,FE C),(18,I C.length),(19,I i)]) (λ_=>[]) (λi=>C.length-i) 0 ⟨Γ _,λj b=>J⟩ U o (λi hi r=>?_);refine Χ ?_;refine W.YD U (λa=>?_) (λa=>?_)
 .have a:i<C.length:=by simpa using a
  have m:Rf C[i]≠0->XK (C.map Rf)=Rf C[i]:=λs=>by
   have:=Gr (l:=C.map Rf) (i:=i) (by simpa using a) (by simpa using s) (λj b h=>by simpa using hi.2 j b (by simpa using h));simpa using this
  refine γ a ?_;have t:=g.2 _ (YW a);by_cases n:8<C[i].length
  .have e:Rf C[i]=6:=by unfold Rf;rw[if_pos n]
   rw[m (by rw[e];decide),e];refine Β (by simp;omega) ?_;refine Χ ?_;refine W.rt ?_;exact .of U
  have e:Rf C[i]=N3 C[i]:=by unfold Rf;rw[if_neg n]
  refine Δ (by simp;omega) ?_;refine ο λy u=>?_;refine Μ.d (n8 C[i] t) (ς ?_);apply u;refine Χ ?_;by_cases c:N3 C[i]=0
  .refine Δ (by simp[c]) ?_;refine Χ ?_;refine W.to (r (i+1) ⟨a,λj b h=>?_⟩ J) U (by simp[YR a (show C.length<2 ^ 62 by omega)]);by_cases v:j=i
   .subst v;rw[e];exact c
   exact hi.2 j J h
  rw[m (by rw[e];exact c),e];refine Β (by simp[c]) ?_;refine Χ ?_;refine W.rt ?_;exact .of U
 have a:C.length<=i:=by simpa using a
 refine W.exit U ?_;refine Χ ?_;have e:XK (C.map Rf)=0:=Gq λj b=>by
  have w:j<C.length:=by simpa using b
  simpa using hi.2 j J w
 rw[e];refine W.rt ?_;exact .of U
def Uc(lo hi a b:Int):Int:=if lo<a\/hi > b\/hi<a\/lo > b then 1 else if lo > hi then 5 else 0
def CO(lo hi a b:Int):Μ prog 46 [.Z' [I lo,I hi],I a,I b] (I (Uc lo hi a b)):=by
 refine Ν.body Τ func46 U U ntmps46 U U o ?_;refine Χ ?_;have f:(lo<a\/hi > b\/hi<a\/lo > b)->Uc lo hi a b=1:=λh=>by unfold Uc;rw[if_pos h]
 by_cases c:lo<a
 .refine γ c ?_;refine Β U ?_;refine Χ ?_;rw[f (.inl c)];refine W.rt ?_;exact .of U
 by_cases d:hi > b
 .refine γ (Ξ c d) ?_;refine Β U ?_;refine Χ ?_;rw[f (.inr (.inl d))];refine W.rt ?_;exact .of U
 by_cases g:hi<a
 .refine γ (Ξ c (Ξ d g)) ?_;refine Β U ?_;refine Χ ?_;rw[f (.inr (.inr (.inl g)))];refine W.rt ?_;exact .of U
 by_cases j:lo > b
 .refine γ (Ξ c (Ξ d (Ξ g j))) ?_;refine Β U ?_;refine Χ ?_;rw[f (.inr (.inr (.inr j)))];refine W.rt ?_;exact .of U
 have e:Uc lo hi a b=if lo > hi then 5 else 0:=by unfold Uc;rw[if_neg J]
 refine γ (Ξ c (Ξ d (Ξ g j))) ?_;refine Δ U ?_;refine Χ ?_;rw[e];by_cases i:lo > hi
 .rw[if_pos i];refine Β (by simpa using i) ?_;refine Χ ?_;refine W.rt ?_;exact .of U
 rw[if_neg i];refine Δ (by simpa using i) ?_;refine Χ ?_;refine W.rt ?_;exact .of U
end Go.TL
namespace Go.TL
open Go.Proofs.Tryz
open Go.Proofs Go.Conc
variable[Z8]
def n6:P1 prog 196 Extern.AbiNoEscape.same:=⟨_,func196,by kernel_rfl,by kernel_rfl,by kernel_rfl,by kernel_rfl⟩
def n5:P1 prog 197 (Extern.BytealgMakeNoZero.makeNoZero #[3] #[179]):=⟨_,func197,by kernel_rfl,by kernel_rfl,by kernel_rfl,by kernel_rfl⟩
def n4{a σ K E}(b:K a σ):Yi prog (.fn (.func 196) [] []) [a] σ K E:=
 .ext n6 λS B H vs c hv=>by
  match vs,hv.1 with
  | ⟨[v]⟩,_=>exact Ω.pure' (.same c b (hv.2 0 _ _ rfl rfl))
abbrev TT(a b:Ψ):Row:=.cells 181 2 [.Z' [a,b]]
abbrev VK:Ψ:=.Ο 0 1 0 0
abbrev yh:Ψ:=.z (.pointer none)
abbrev FD:Ψ:=.Z7 []
abbrev Re(l:μ):Row:=.cells 5 1 l
def n3(b)(c:b.cells=[b])(rest):Ν prog 144 [VK] (TT yh b::rest) (λa s=>a=FD/\s=TT VK b::rest) (λ_ _=>False):=by
 apply Ν.body Τ func144 U U ntmps144 U U o;refine Χ ?_;apply Β U;refine ο λe d=>?_;apply n4;simp;(repeat (rw[Ι];simp[c]));apply d;refine Χ ?_;exact W.nil ⟨_,U,U,U⟩
def n2(b)(c:b.cells=[b])(rest):Ν prog 144 [VK] (TT VK b::rest) (λa s=>a=FD/\s=TT VK b::rest) (λ_ _=>False):=by
 apply Ν.body Τ func144 U U ntmps144 U U o;refine Χ ?_;apply Δ U;refine Χ ?_;apply Δ U;refine Χ ?_;exact W.nil ⟨_,U,U,U⟩
def Ν.all{P g args σ σ' r K E}(h:Ν P g args σ (λa s=>a=r/\s=σ') (λ_ _=>False))(c:K r σ'):Yi P (.fn (.func g) [] []) args σ K E:=by
 have d:Ν P g ([]++args++[]) σ (λa s=>a=r/\s=σ') (λ_ _=>False):=by simpa using h
 refine(Ν.call d).mono (λa s b=>?_) (λa s b=>False.elim b);rw[b.1,b.2];exact c
def n1:∀(n t)(a),(∀v∈a,One v)->(Extern.BytealgMakeNoZero.digits n t a).size=a.size+n/\∀v∈Extern.BytealgMakeNoZero.digits n t a,One v:=by
 intro n
 induction n with
 | zero=>intro t a h;exact⟨rfl,h⟩
 | succ n b=>
  intro t a h;unfold Extern.BytealgMakeNoZero.digits;let ⟨c,d⟩:=b (t / 256) (a.push (.int .u8 (Int.ofNat (t % 256)))) (λv hv=>by
   rcases MP.1 hv with e|rfl
   .exact h v e
   trivial)
  exact⟨by rw[c,Array.size_push];omega,d⟩
def nZ{P t d}(h:P.underlying t=some d){H K E}(a:K d H):Ω P (underlying t) H K E:=by
 unfold underlying;apply Ω.bind';show Ω P (match P.underlying t with|some d=>_|none=>_) H _ _;rw[h];exact Ω.pure' a
def nY{P f b}(p:P.underlying f=some (.slice b)){S B H σ}(g:Holds S B σ H){n:Nat}(D:0<n)(E:n<2 ^ 40){K}(s)(t:K (.ms σ.length n 0 n) (σ++[.cells b 1 (List.replicate n .Zl)])) :
  Ω P (Extern.BytealgMakeNoZero.makeNoZero s #[f] #[.int .i64 n]) H (Xu S B H σ K) (λ_ _=>False):=by
 unfold Extern.BytealgMakeNoZero.makeNoZero;refine Ω.bind' (nZ p ?_);have c:¬((n:Int)<0||(n:Int) > 2 ^ 48)=true:=by simp;omega
 show Ω P (if((n:Int)<0||(n:Int) > 2 ^ 48)=true then _ else _) H _ _;rw[if_neg c];apply Ω.bind';unfold choose;simp only[Ω,Question.forced,Vg,if_false];intro q;have u:n<=(Question.appendCap ((n:Int).toNat) 0 b).cut q:=by simp[Question.cut]
 generalize (Question.appendCap ((n:Int).toNat) 0 b).cut q=cap at u;have h:Ω P (do let bytes <-choose (Question.extern "internal/bytealg.MakeNoZero.bytes" 0);let a <-newRow b (Extern.BytealgMakeNoZero.digits cap bytes #[]);pure (Value.slice (some a) (n:Int).toNat cap):Sem Value) H (Xu S B H σ K) (λ_ _=>False):=by
  apply Ω.bind';have k:∀m,Ω P (do let a <-newRow b (Extern.BytealgMakeNoZero.digits cap m #[]);pure (Value.slice (some a) (n:Int).toNat cap):Sem Value) H (Xu S B H σ K) (λ_ _=>False):=λm=>by
   let ⟨d1,d2⟩:=n1 cap m #[] (λv hv=>by simp at hv);generalize Extern.BytealgMakeNoZero.digits cap m #[]=ds at d1 d2;have F:ds.size=cap:=by rw[d1];simp
   have w:Xd S B σ ds 1 (List.replicate n .Zl):=by
    refine⟨by simp;omega,λi e hi=>?_⟩;let ⟨x,l⟩:=ZT.1 hi;simp at x l;subst l;refine⟨U,λj a d=>?_⟩;cases j with
    | succ j=>simp[Ψ.cells]at d
    | zero=>
     simp[Ψ.cells]at d;subst d;have c:i*1+0<ds.size:=J;exact⟨ds[i*1+0],XV c,.Zl _,d2 _ (Array.getElem_mem c)⟩
   apply Ω.bind';unfold newRow;apply Ω.bind';refine Mt g w b λr _ y A C=>?_;refine Ω.pure' (Ω.pure' ⟨_,_,_,_,t,A,y,C,?_⟩);have e:(n:Int).toNat=n:=J;rw[e];exact .ms cap (Mr σ _) o (Mq g.len _) J J (.inr ⟨r,ds.size,U,o,J⟩)
  unfold choose;simp only[Ω];split
  .exact k _
  exact λq=>k _
 apply Ω.bind';unfold askRoom;split
 .exact⟨.inl U,Ω.pure' h⟩
 exact Ω.pure' h
def nX:prog.underlying 179=some (.slice 5):=by kernel_rfl
def nW{n:Nat}(a:0<n)(b:n<2 ^ 40){σ K E}(c:K (.ms σ.length n 0 n) (σ++[Re (List.replicate n .Zl)])):Yi prog (.fn (.func 197) [] []) [I n] σ K E:=
 .ext n5 λS B H vs d hv=>by
  match vs,hv.1 with
  | ⟨[v]⟩,_=>
   have e:(Value.int .i64 n)=v:=by
    have:=hv.2 0 _ _ U U;cases this;rfl
   subst e;have h:=nY nX d a b (K:=K) #[3];have f:=h c;exact f
def nV(n:Nat)(c:0<n)(d:n<2 ^ 40):Ν prog 145 [VK,I n] [TT VK (.sl true 0 [])] (λa s=>a=FD/\s=[TT VK (.ms 2 0 0 0),.dead,Re []]) (λ_ _=>False):=by
 have w0:IntKind.i64.wrap 0=0:=θ
 have b:IntKind.i64.wrap (n:Int)=n:=IntWalk.i64_in _ J;refine Ν.body Τ func145 U U ntmps145 U U o ?_
 repeat apply Ζ
 refine W.L8 [1,2,3,10,11,12] [8] [0] (A:=[]) Τ mixed λf e=>?_;simp
 repeat (rw[Rv];simp[QI,XD,VD,w0,b])
 refine Nv (r:=.ms 1 n 0 n) (σ':=[TT VK (.sl true 0 []),Re (List.replicate n .Zl)]) (nW c d ⟨U,U⟩) ?_;simp[seen]
 repeat (rw[Rv];simp[QI,XD,VD,w0,b])
 rw[P2];refine⟨L' XL,e _ _ ?_⟩;refine W.sY (id:=1) (n:=n) o U o [(0,VK),(4,.ms 2 0 0 0)] o ?_;refine Χ ?_;exact W.nil ⟨_,U,U,U⟩
def nU(n:Nat)(c:0<n)(d:n<2 ^ 40):Ν prog 98 [VK,I n] [TT yh (.sl true 0 [])] (λa s=>a=FD/\s=[TT VK (.ms 2 0 0 0),.dead,Re []]) (λ_ _=>False):=by
 have w0:IntKind.i64.wrap 0=0:=θ
 have e:¬(n:Int)<0:=J
 have f:(0:Int)<n:=J;refine Ν.body Τ func98 U U ntmps98 U U o ?_;refine ο λg b=>?_;refine Ν.all (n3 (.sl true 0 []) U []) ?_;simp;(repeat (rw[Ι];simp));apply b;refine γ e ?_;refine Δ U ?_;refine Χ ?_;refine VB (Ξ w0 f) ?_;refine Β (by simp;exact c) ?_;refine ο λg b=>?_;refine Ν.all (nV n c d) ?_;simp;(repeat (rw[Ι];simp));apply b;exact W.nil ⟨_,U,U,U⟩
@[simp] theorem hg:Vn υ 179 9=some (5,1,⟨1,.int .u8,.int .u8 0,1,none⟩):=by kernel_rfl
def nT(s:ByteArray)(σ:Ρ):Ψ.Ph (Ψ.Y8 σ) (W1 s)=true:=by
 unfold Ψ.Ph W1;rw[Xk];intro e a;obtain⟨b,_,rfl⟩:=ZG.1 a;rfl
def CN(l:μ)(n:Nat)(c:l.length=n)(s:ByteArray)(e:n+s.size<=4294967296):Ν prog 99 [VK,ZQ s] [TT VK (.ms 2 n 0 n),.dead,Re l] (λa t=>a=.Z7 [I s.size,.z .nilIface]/\t=[TT VK (.ms 2 (n+s.size) 0 (n+s.size)),.dead,Re (l++W1 s)]) (λ_ _=>False):=by
 have d:(W1 s).length=s.size:=by simp[W1]
 refine Ν.body Τ func99 U U ntmps99 U U o ?_;refine Χ ?_;refine ο λf b=>?_;refine Ν.all (n2 (.ms 2 n 0 n) U [.dead,Re l]) ?_;simp;(repeat (rw[Ι];simp));apply b;have g:=nT s [TT VK (.ms 2 n 0 n),.dead,Re l]
 repeat apply Ζ
 refine ZB (A:=[14]) Τ λf b=>?_;simp
 repeat (rw[Ι];simp[-Ψ.Ph,-Ψ.Y8,g,c,d,e])
 simp[c,d];(repeat (rw[Ι];simp));apply b;refine Χ ?_;refine W.rt ?_;simp
def nS(l:List UInt8):Mf (l.map λb=>Ψ.z (.int .u8 b.toNat))=some l:=by
 induction l with
 | nil=>rfl
 | cons b l a=>
  have e:((b.toNat:Int).toNat).toUInt8=b:=o;simp only[WY,Mf,GV,a,e]
def nR(s:ByteArray)(c:0<s.size)(g:s.size<2 ^ 40):Ν prog 100 [VK] [TT VK (.ms 2 s.size 0 s.size),.dead,Re (W1 s)] (λa t=>a=ZQ s/\t=[TT VK (.ms 2 s.size 0 s.size),.dead,.dead]) (λ_ _=>False):=by
 have b:(W1 s).length=s.size:=by simp[W1]
 have d:Mf ((W1 s).take s.size)=some s.data.toList:=by
  rw[Wl J];exact nS _
 have Υ:(⟨s.data.toList.toArray⟩:ByteArray)=s:=by cases s;simp
 refine Ν.body Τ func100 U U ntmps100 U U o ?_;refine Χ ?_;have h:(0:Int)<s.size:=J;have e:(s.size:Int)<4611686018427387904:=J;refine W.draw (A:=[]) Τ mixed λi f=>?_;simp;rw[Y3];simp;rw[Y3];simp;rw[Y3];simp;rw[Y3];simp;rw[Y3];simp[b,c];rw[Y3];simp[b];rw[Y3];simp[b];rw[Y3];simp[b];rw[Y3];simp[b];rw[Y3];simp[b];rw[Y3];simp[b,d,Υ,c,e];rw[Y3];simp
 try rw[YL]
 refine X5 (f _ _ ?_);refine W.rt ?_;simp
end Go.TL
namespace Go.TL
open Go.Proofs.Tryz
open Go.Proofs Go.Conc
def W9(b:ByteArray):List ByteArray->ByteArray
 | []=>⟨#[]⟩
 | x::r=>r.foldl (λa y=>a++b++y) x
def nQ(b:ByteArray)(l:List ByteArray)(h:l≠[])(x:ByteArray):W9 b (l++[x])=W9 b l++b++x:=by
 cases l with
 | nil=>exact absurd rfl h
 | cons a r=>simp[W9,SI]
def CM(b x:ByteArray)(r:List ByteArray):(W9 b (x::r)).size=b.size*r.length+(x.size+(r.map ByteArray.size).sum):=by
 show(r.foldl (λa y=>a++b++y) x).size=_
 induction r generalizing x with
 | nil=>simp
 | cons y r c=>
  rw[List.foldl_cons,c,Ij,Ij];simp only[List.length_cons,WY,List.sum_cons,Nat.mul_add];omega
def yg(a b:ByteArray):W1 (a++b)=W1 a++W1 b:=by simp[W1]
def nP{a:Type}{l:List a}(h:l.length<=3)(b:2<=l.length):(∃x y,l=[x,y])\/∃x y z,l=[x,y,z]:=by
 match l,h,b with
 | [x,y],_,_=>exact .inl ⟨x,y,rfl⟩
 | [x,y,z],_,_=>exact .inr ⟨x,y,z,rfl⟩
def PH(l:List ByteArray)(k:Nat):Nat:=((l.take k).map ByteArray.size).sum
def nO{l:List ByteArray}{k:Nat}(h:k<l.length):PH l (k+1)=PH l k+l[k].size:=by
 unfold PH;rw[Ws h,WT,List.sum_append];simp
def yf{l:List ByteArray}(b:∀x∈l,x.size<1000)(k:Nat):PH l k<=1000*l.length:=by
 induction l generalizing k with
 | nil=>simp[PH]
 | cons a l c=>
  cases k with
  | zero=>simp[PH]
  | succ k=>
   have:=c (λx d=>b x (SK _ d)) k
   have e:=b a (SJ ..);simp[PH]at this ⊢;omega
variable[Z8]
def CL(a:ByteArray)(H:a.size<=1)(l:List ByteArray)(v:l.length<=3)(K:∀x∈l,0<x.size/\x.size<1000):Μ prog 54 [.sl false 1 (l.map ZQ),ZQ a] (ZQ (W9 a l)):=by
 have w1:IntKind.i64.wrap 1=1:=θ
 have L:IntKind.i64.wrap 2=2:=θ
 have M:IntKind.i64.wrap 0=0:=θ
 have aa:IntKind.i64.wrap (Int.tdiv 9223372036854775807 1)=9223372036854775807:=θ
 have ab:IntKind.i64.wrap (Int.tdiv 9223372036854775807 2)=4611686018427387903:=θ;refine Ν.body Τ func54 U U ntmps54 U U o ?_;refine Χ ?_;by_cases m:l=[]
 .refine Β (by simp[m]) ?_;refine Χ ?_;subst m;refine W.rt ?_;exact .of U
 refine Δ (by simp[m]) ?_;refine Χ ?_;by_cases O:l.length=1
 .refine Β (by simp[O]) ?_;obtain⟨x,e⟩:=E3.1 O;subst e;refine Χ ?_;refine W.rt ?_;exact .of U
 refine Δ (by simp;omega) ?_;have P:0<l.length:=MT.2 m;obtain⟨w,n⟩:=ν (a.size*(l.length-1));have ap:w<=2:=by
  rw[n];exact WL (Tk _ H) J
 refine Χ ?_;refine W.upto [(0,.sl false 1 (l.map ZQ)),(1,ZQ a),(5,I w)] [] ?_ ?_
 .by_cases ad:0<a.size
  .have j:a.size=1:=J
   refine Β (by simp[ad]) ?_;rcases nP v J with⟨x,y,e⟩|⟨x,y,z,e⟩
   .subst e;refine γ (Ξ j (Ξ w1 aa)) ?_;refine Δ (by simp;decide) ?_;refine YC (Ξ j (Ξ w1 M)) λf b=>?_;apply b;exact .stop ⟨U,U,by simp[n,j]⟩
   subst e;refine γ (Ξ j (Ξ L ab)) ?_;refine Δ (by simp;decide) ?_;refine YC (Ξ j (Ξ L M)) λf b=>?_;apply b;exact .stop ⟨U,U,by simp[n,j]⟩
  have Q:a.size=0:=J
  refine Δ (by simp[Q]) ?_;refine W.skip ?_;exact .stop ⟨U,U,by simp[n,Q]⟩
 refine Χ ?_;have k:∀x∈l,x.size<1000:=λx B=>(K x B).2;obtain⟨S,p⟩:∃S:Nat->Nat,∀i,S i=w+PH l i:=⟨_,λ_=>rfl⟩;obtain⟨N,C⟩:=ν (S l.length);have R:∀i,S i<4000:=λi=>by have:=yf k i;rw[p];omega
 have aq:=C▸R l.length;refine W.Gm [(0,.sl false 1 (l.map ZQ)),(1,ZQ a),(5,I N)] [] ?_ ?_
 .refine W.iter (λi:Nat=>i<=l.length) (λi=>[(0,.sl false 1 (l.map ZQ)),(1,ZQ a),(5,I (S i)),(39,.sl false 1 (l.map ZQ)),(40,I l.length),(41,I i)]) (λ_=>[]) (λi=>l.length-i) 0 (Γ _) U (by simp[PH,p]) (λi hi D=>?_);refine Χ ?_;refine W.YD U (λd=>?_) (λd=>?_)
  .have d:i<l.length:=by simpa using d
   have ae:=nO d
   have ar:=R i
   have T:=k _ (YW d)
   have af:IntKind.i64.wrap (9223372036854775807-(S i:Int))=9223372036854775807-(S i:Int):=IntWalk.i64_in _ J
   have Υ:IntKind.i64.wrap ((S i:Int)+(l[i].size:Int))=(S (i+1):Int):=by rw[p (i+1),ae];rw[IntWalk.i64_in _ J,p i];omega
   refine γ (Ξ d af) ?_;refine Δ (by simp;omega) ?_;(repeat (first|apply Ζ|(refine Yz λf b=>?_;simp;(repeat (rw[Ι];simp[Υ]));apply b)));refine W.to (D (i+1) d J) U (by simp[YR d (show l.length<2 ^ 62 by omega)])
  have d:l.length<=i:=by simpa using d
  have E:i=l.length:=J;subst E;refine W.exit U ?_;exact .stop ⟨U,U,by simp[C]⟩
 refine ZA ?_;refine ZB (A:=[8]) Τ λf b=>ς ?_;apply b;obtain⟨V,t,g⟩:∃x r,l=x::r:=List.exists_cons_of_ne_nil m;have ag:∀i,(W9 a (l.take (i+1))).size<4000:=λi=>by
  rw[g,List.take_succ_cons,CM];have T:=k V (by rw[g];exact SJ ..);have ah:=yf (l:=t) (λx B=>k x (by rw[g];exact SK _ B)) i;have au:t.length<=2:=by rw[g]at v;simpa using v
  have av:(t.take i).length<=t.length:=by simp;omega
  have aw:=Nat.mul_le_mul H (Z3 (t.take i).length);unfold PH at ah;omega
 have F:(W9 a l).size=N:=by
  rw[C,p,n,g,CM];simp[PH]
 have ai:0<N:=by
  have:=(K V (by rw[g];exact SJ ..)).1;rw[<-F,g,CM];omega
 refine ο λf b=>?_;refine Ν.all (nU N ai J) ?_;simp;(repeat (rw[Ι];simp));apply b;refine YC P λf b=>?_;refine Ν.all (CN [] 0 U l[0] (by have:=k _ (YW P);omega)) ?_;simp;(repeat (rw[Ι];simp));apply b;have aj:W9 a (l.take 1)=l[0]:=by subst g;simp[W9]
 refine ο λf b=>?_;refine⟨J,?_⟩;apply b;have ak:(List.take l.length (List.map ZQ l)).tail=l.tail.map ZQ:=by rw[Wl o,List.map_tail]
 have ax:l.tail.length=l.length-1:=o;rw[ak];obtain⟨c,u⟩:∃c:Nat->ByteArray,∀i,c i=W9 a (l.take (i+1)):=⟨_,λ_=>rfl⟩;have al:∀i,(c i).size<4000:=λi=>by rw[u];exact ag i
 have X:∀s:ByteArray,(W1 s).length=s.size:=λs=>by simp[W1]
 repeat apply Ζ
 refine W.Gm [(8,VK)] [TT VK (.ms 2 N 0 N),.dead,Re (W1 (W9 a l))] ?_ ?_
 .refine W.iter (λi:Nat=>i<=l.tail.length) (λi=>[(1,ZQ a),(8,VK),(63,.sl false 1 (l.tail.map ZQ)),(64,I (l.length-1:Nat)),(65,I i)]) (λi=>[TT VK (.ms 2 (c i).size 0 (c i).size),.dead,Re (W1 (c i))]) (λi=>l.tail.length-i) 0 (Γ _) (by rw[u,aj]) o (λi hi D=>?_);refine Χ ?_;refine W.YD U (λd=>?_) (λd=>?_)
  .have d:i<l.length-1:=by simpa using d
   have Y:i<l.tail.length:=J
   have am:i+1<l.length:=J
   have T:=k _ (YW am)
   have an:c (i+1)=c i++a++l[i+1]:=by
    rw[u,u,Ws (by omega:i+1<l.length),nQ _ _ (by rw[g];simp)]
   have ay:=al i;refine γ d ?_;refine ο λf b=>?_;refine Ν.all (CN (W1 (c i)) (c i).size (X _) a J) ?_;simp;(repeat (rw[Ι];simp));apply b;refine ο λf b=>?_;refine Ν.all (CN (W1 (c i)++W1 a) ((c i).size+a.size) (by simp[X]) l[i+1] J) ?_;simp;(repeat (rw[Ι];simp));apply b;refine Χ ?_;have ao:[TT VK (.ms 2 (c (i+1)).size 0 (c (i+1)).size),.dead,Re (W1 (c (i+1)))]=[TT VK (.ms 2 ((c i).size+a.size+l[i+1].size) 0 ((c i).size+a.size+l[i+1].size)),.dead,Re (W1 (c i)++W1 a++W1 l[i+1])]:=by rw[an,yg,yg,Ij,Ij]
   refine W.to (D (i+1) Y J) (by rw[ao];simp) (by simp[YR Y (show l.tail.length<2 ^ 62 by omega)])
  have d:l.length-1<=i:=by simpa using d
  have E:c i=W9 a l:=by rw[u,Wl J]
  refine W.exit U ?_;exact .stop ⟨U,by rw[E,F],o⟩
 refine ο λf b=>?_;have Z:=nR (W9 a l) J J;rw[F]at Z;refine Ν.all Z ?_;simp;(repeat (rw[Ι];simp));apply b;refine Χ ?_;refine W.drop (h:=0) (Γ _) (Γ _) o U [(4,ZQ (W9 a l))] o ?_;refine W.rt ?_;exact .of U
end Go.TL
namespace Go.TL
open Go.Proofs.Tryz
open Go.Proofs
def RV(l:List ByteArray)(w:ByteArray)(i:Nat):ψ:=((List.range i).filter λj=>decide (l[j]?=some w)).map Int.ofNat
def placesOf(l:List ByteArray)(w:ByteArray)(none:Int):ψ:=if w=⟨#[]⟩ then [none] else RV l w l.length
def ye(l:List ByteArray)(w:ByteArray)(i:Nat):RV l w (i+1)=RV l w i++if l[i]?=some w then [(i:Int)] else []:=by
 unfold RV;rw[Ur,List.filter_append,WT];congr 1;by_cases h:l[i]?=some w<;>simp[h]
def CK(l:List ByteArray)(w:ByteArray)(i:Nat):(RV l w i).length<=i:=by
 induction i with
 | zero=>simp[RV]
 | succ i a=>rw[ye];split<;>simp<;>omega
variable[Z8]
def yd(l:List ByteArray)(B:l.length<1000)(w:ByteArray)(none:Int):Μ prog 95 [Zb l,ZQ w,I none] (δ I 1 (placesOf l w none)):=by
 refine Ν.body Τ func95 U U ntmps95 U U o ?_;refine Χ ?_;by_cases d:w=⟨#[]⟩
 .refine Β (by simp only[π,ε];simp[IL,<-yk,d]) ?_;refine Χ ?_;have e:placesOf l w none=[none]:=if_pos d;rw[e];refine W.rt ?_;exact .ex
 have g:¬w=ByteArray.empty:=d;refine Δ (by simp[IL,g]) ?_;refine Χ ?_;have e:placesOf l w none=RV l w l.length:=if_neg d;rw[e];refine W.pad 3 1 (σ':=[]) U (λj r h=>⟨r,h,.inl U⟩) [(1,ZQ w),(7,.ms 0 0 0 0),(14,Zb l),(15,I l.length),(16,I 0)] (λz k=>by
  simp at k;rcases k with rfl|rfl|rfl|rfl|rfl
  .exact .same _
  .exact .nil
  .exact .same _
  .exact .same _
  exact .same _) ?_
 refine W.iter (λi:Nat=>i<=l.length) (λi=>[(1,ZQ w),(7,.ms 0 (RV l w i).length 0 (RV l w i).length),(14,Zb l),(15,I l.length),(16,I i)]) (λi=>[.cells 3 1 ((RV l w i).map I)]) (λi=>l.length-i) 0 (Γ _) U (by simp[RV]) (λi hi m=>?_);refine Χ ?_;refine W.YD U (λb=>?_) (λb=>?_)
 .have b:i<l.length:=by simpa using b
  have C:=CK l w i
  have c:=ye l w i
  have u:l[i]?=some l[i]:=ξ b;rw[u]at c;refine γ b ?_;by_cases f:l[i]=w
  .rw[if_pos (by rw[f])]at c;refine Β (by simp[OU,f]) ?_;refine ZA ?_;refine ZB (A:=[27]) Τ λD v=>ς ?_;refine⟨J,?_⟩;apply v;refine Χ ?_;refine W.to (m (i+1) b J) (by rw[c];simp) (by simp[c,YR b (show l.length<2 ^ 62 by omega)])
  rw[if_neg (λh=>f (Xq h)),TM]at c;refine Δ (by simp[OU,f]) ?_;refine Χ ?_;refine W.to (m (i+1) b J) (by rw[c]) (by simp[c,YR b (show l.length<2 ^ 62 by omega)])
 have b:l.length<=i:=by simpa using b
 have y:i=l.length:=J;subst y;refine W.exit U ?_;refine Χ ?_;refine W.cut 0 (Z3 _) [(6,δ I 1 (RV l w l.length))] o (λid r E F=>J) (λp n=>by
  simp at n;subst n;exact Yx.own (id:=0) (t:=3) (Γ _) U o (λe g a s=>by
   obtain⟨x,_,rfl⟩:=ZG.1 g;simp[Ψ.cells]at s;subst s;simp)) ?_
 refine W.rt ?_;exact .of U
end Go.TL
namespace Go.TL
open Go.Proofs.Tryz
open Go.Proofs
variable[Z8]
abbrev ZM:={l:List ByteArray // l.length<=3}
instance:DecidableEq ZM:=λa b=>decidable_of_iff (a.1=b.1) Subtype.ext_iff.symm
instance:Inhabited ZM:=⟨⟨[],Γ _⟩⟩
abbrev Ym(l:ZM):Ψ:=.sl true 1 (l.1.map ZQ)
def IJ(y:ZM):∀a∈(Ym y).cells,ω 0 a:=by
 intro a b;simp[Ψ.cells]at b;subst b;simp
def nN(d:Array (ZM))(n a b:Nat)(V:d.size=n)(ag:a<=b)(ah:b<=n)(ai:n<2 ^ 40)(l:Ψ)(c:ZM->ZM->Int)(aj:ω 0 l)(X:∀x y,WG prog l [Ym x,Ym y] (I (c x y))) :
  Ν prog 188 [.ms 0 n 0 n,I a,I b,l] [.cells 26 1 (d.toList.map Ym)] (λr s=>r=.Z7 []/\s=[.cells 26 1 ((Go.Sort.insertionSort (Zh c) d a b).toList.map Ym)]) (λ_ _=>False):=by
 refine Ν.body Τ func188 U U ntmps188 U U o ?_;refine Χ ?_;have Y:=Yh (show a+1<2 ^ 62 by omega);refine W.iter (λq:Nat×Array (ZM)=>q.2.size=n/\Go.Sort.insOuter (Zh c) a b q.1 q.2=Go.Sort.insertionSort (Zh c) d a b) (λq=>[(0,.ms 0 n 0 n),(1,I a),(2,I b),(3,l),(8,I q.1)]) (λq=>[.cells 26 1 (q.2.toList.map Ym)]) (λq=>b-q.1) (a+1,d) ⟨V,U⟩ U (by simpa using Y) (λq hi K=>?_);obtain⟨i,e⟩:=q;obtain⟨M,C⟩:=hi;simp only at M C;refine Χ ?_;by_cases t:i<b
 .refine Β (by simp[t]) ?_;refine Χ ?_;refine W.iter (λq:Nat×Array (ZM)=>q.2.size=n/\q.1<=i/\Go.Sort.insInner (Zh c) a q.1 q.2=Go.Sort.insInner (Zh c) a i e) (λq=>[(0,.ms 0 n 0 n),(1,I a),(2,I b),(3,l),(8,I i),(9,I q.1)]) (λq=>[.cells 26 1 (q.2.toList.map Ym)]) (λq=>q.1) (i,e) ⟨M,Z3 _,U⟩ U o (λq g Z=>?_);obtain⟨j,f⟩:=q;obtain⟨m,aa,D⟩:=g;simp only at m aa D;have N:Go.Sort.insInner (Zh c) a j f=f->Go.Sort.insOuter (Zh c) a b (i+1) f=Go.Sort.insertionSort (Zh c) d a b:=λhd=>by
   rw[<-C,<-hd,D];conv=>rhs;rw[Go.Sort.insOuter,if_pos t]
  obtain⟨L,k⟩:=ν (f.toList.map Ym);have O:L.length=n:=by rw[k];simpa using m
  refine W.to (σ':=[.cells 26 1 L]) (env':=[(0,.ms 0 n 0 n),(1,I a),(2,I b),(3,l),(8,I i),(9,I j)]) ?_ (by rw[k]) o
  repeat apply Ζ
  by_cases g:a<j
  .obtain⟨p,P⟩:∃p,j=p+1:=⟨j-1,J⟩;have E:IntKind.i64.wrap ((j:Int)-1)=(p:Int):=by have:=Yh (show p<2 ^ 62 by omega);rw[P];simpa using this
   have Q:j<n:=J
   have R:p<n:=J
   have ab:¬j=p:=J;obtain⟨x,u⟩:=ν (f[j]!);obtain⟨y,v⟩:=ν (f[p]!);have F:L[j]?=some (Ym x):=by rw[k,u,YK,Xf,Rs J];rfl
   have H:L[p]?=some (Ym y):=by rw[k,v,YK,Xf,Rs J];rfl
   have S:∀h:j<L.length,L[j]=Ym x:=λh=>by have:=F;rw[ξ h]at this;exact Xq this
   have T:∀h:p<L.length,L[p]=Ym y:=λh=>by have:=H;rw[ξ h]at this;exact Xq this
   have w:Go.Sort.insInner (Zh c) a j f=if Zh c x y=true then Go.Sort.insInner (Zh c) a p (Go.Sort.swp f j p) else f:=by
    subst P;rw[Go.Sort.insInner,u,v];simp[g]
   have ad:(Go.Sort.swp f j p).toList.map Ym=(L.set j (Ym y)).set p (Ym x):=by rw[k,u,v];simp[Go.Sort.swp]
   have sz:(Go.Sort.swp f j p).size=n:=by simp[Go.Sort.swp,m]
   have ae:=k;clear u v;refine W.draw (A:=[]) Τ mixed λak af=>SY (Ξ g (Ξ E (Ξ O (Ξ Q (Ξ R (Ξ F (Ξ H (Ξ S T)))))))) ?_;refine Wf (X x y) ?_;simp;(repeat (rw[Y3];simp));try rw[YL]
   refine X5 (af _ _ ?_);by_cases B:c x y<0
   .refine Β (by simp[B]) ?_
    repeat apply Ζ
    refine VB (Ξ g (Ξ E (Ξ O (Ξ Q (Ξ R (Ξ F (Ξ H (Ξ S (Ξ T ab))))))))) ?_;refine Χ ?_;refine W.to (Z (p,Go.Sort.swp f j p) ⟨sz,by simp;omega,?_⟩ (by simp;omega)) ?_ ?_
    .rw[<-D,w,if_pos (by simp[Zh,Go.Sort.ltInt,B])]
    .rw[ad]
    simp[E]
   refine Δ (by simp[B]) ?_;refine W.exit U ?_;refine Χ ?_;refine W.to (K (i+1,f) ⟨m,N (by rw[w,if_neg (by simp[Zh,Go.Sort.ltInt,B])])⟩ (by simp;omega)) (by rw[ae]) ?_;have:=Yh (show i+1<2 ^ 62 by omega);simpa using this
  have w:Go.Sort.insInner (Zh c) a j f=f:=by
   cases j with
   | zero=>rfl
   | succ p=>rw[Go.Sort.insInner];simp[g]
  refine VB g ?_;refine Δ U ?_;refine W.exit U ?_;refine Χ ?_;refine W.to (K (i+1,f) ⟨m,N w⟩ (by simp;omega)) (by rw[k]) ?_;have:=Yh (show i+1<2 ^ 62 by omega);simpa using this
 refine Δ (by simp[t]) ?_;refine W.exit U ?_;have Υ:Go.Sort.insOuter (Zh c) a b i e=e:=by rw[Go.Sort.insOuter,if_neg t]
 exact W.nil ⟨_,U,U,by rw[<-C,Υ]⟩
def nM(d:Array (ZM))(n i:Nat)(j:d.size=n)(t:n<=12)(b:Ψ)(c:ZM->ZM->Int)(f:ω 0 b)(k:∀x y,WG prog b [Ym x,Ym y] (I (c x y))) :
  Ν prog 143 [.ms 0 n 0 n,I 0,I n,I i,b] [.cells 26 1 (d.toList.map Ym)] (λr s=>r=.Z7 []/\s=[.cells 26 1 ((Go.Sort.insertionSort (Zh c) d 0 n).toList.map Ym)]) (λ_ _=>False):=by
 refine Ν.body Τ func143 U U ntmps143 U U o ?_;have l:=Yh (show n<2 ^ 62 by omega);have Υ:(n:Int)<=12:=J;refine Χ ?_;refine .loop ?_;refine γ l ?_;refine Β (by simp;omega) ?_;refine ο λu m=>?_;refine Ν.one (nN d n 0 n j (Γ _) (Z3 _) J b c f k) 0 U (λe g a h=>by
  obtain⟨y,p,rfl⟩:=ZG.1 g;exact IJ y a h) (λe g a h=>by
  obtain⟨y,p,rfl⟩:=ZG.1 g;exact IJ y a h) (by simp[Uj,PZ,f.U' 1]) (by simp[Xc]) (by simp[Ui,TW,f.Yt [0]]) ?_
 simp[Yt,WE];(repeat (rw[Ι];simp));apply m;exact W.ret ⟨_,U,U,U⟩
def nL(d:Array (ZM))(n:Nat)(c:d.size=n)(j:n<=12)(b:Ψ)(f:ZM->ZM->Int)(g:ω 0 b)(k:∀x y,WG prog b [Ym x,Ym y] (I (f x y))) :
  Ν prog 97 [.ms 0 n 0 n,b] [.cells 26 1 (d.toList.map Ym)] (λr s=>r=.Z7 []/\s=[.cells 26 1 ((Go.Sort.insertionSort (Zh f) d 0 n).toList.map Ym)]) (λ_ _=>False):=by
 refine Ν.body Τ func97 U U ntmps97 U U o ?_;have l:=Yh (show n<2 ^ 62 by omega);have Υ:IntKind.u64.wrap (n:Int)=n:=by unfold IntKind.wrap;simp[IntKind.bits,IntKind.signed];omega
 refine γ c ?_;(repeat apply Ζ);refine Yz λt m=>?_;simp;(repeat (rw[Ι];simp[c,l,Υ]));refine Μ.d (Np n J) (ς ?_);refine Ν.one (nM d n (Go.Sort.bitsLen n) c j b f g k) 0 U (λe h a i=>by
  obtain⟨y,p,rfl⟩:=ZG.1 h;exact IJ y a i) (λe h a i=>by
  obtain⟨y,p,rfl⟩:=ZG.1 h;exact IJ y a i) (by simp[Uj,PZ,g.U' 1]) (by simp[Xc]) (by simp[Ui,TW,g.Yt [0]]) ?_
 simp[Yt,WE];(repeat (rw[Ι];simp));apply m;exact W.nil ⟨_,U,U,U⟩
end Go.TL
