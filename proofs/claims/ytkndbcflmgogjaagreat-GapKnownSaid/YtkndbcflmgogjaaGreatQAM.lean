import Derived.Sort.LotC
import Derived.Sort.LotD5
import Derived.Sort.Walk13a
import Derived.Test.YtkndbcflmgogjaaGreatQAL
set_option maxHeartbeats 16000000
set_option maxRecDepth 20000
set_option linter.unusedSectionVars false
set_option linter.unusedSimpArgs false
set_option linter.unusedVariables false
namespace Go.TL
open Go.IntWalk (i64_in)
open Go.IntKind (i64 u64)
open Go.Proofs.Tryz
open Go.Proofs
variable [Z1]
section
variable {α:Type} [Inhabited α]
theorem Jm (enc:α->Ψ) (d:Array α) {i:Nat} (h:i<d.size):(d.toList.map enc)[i]?=some (enc d[i]!):=by
 rw[Ys,Xr,R3 h];rfl
theorem K3 (enc:α->Ψ) {d:Array α} {n:Nat} (b:d.size=n) {i j:Nat} (hi:i<n) (a:j<n):∃(L:ψ) (x y:α),d.toList.map enc=L/\d[i]! = x/\d[j]! = y/\L.length=n/\(L[i]?=some (enc x)/\∀h,L[i]'h=enc x)/\(L[j]?=some (enc y)/\∀h,L[j]'h=enc y)/\(Go.Sort.swp d i j).toList.map enc=(L.set i (enc y)).set j (enc x)/\∃z,∀h,(L.set i (enc y))[j]'h=enc z:=by
 subst b;refine⟨_,_,_,U,U,U,Ω,⟨Jm enc d hi,λh=>?_⟩,⟨Jm enc d a,λh=>?_⟩,by simp[Go.Sort.swp],if i=j then d[j]! else d[j]!,λh=>?_⟩
 .have:=Jm enc d hi;rw[Z4 h] at this;exact WU this
 .have:=Jm enc d a;rw[Z4 h] at this;exact WU this
 .rw[List.getElem_set,ite_self];split
  .rfl
  .have:=Jm enc d a;rw[Z4 (by simpa using h)] at this;exact WU this
theorem W.two {P:Program} {m nt:Nat} {k:ZA} {env:Β} {Z:XD} {E:Yb} (enc:α->Ψ) {d:Array α} {n:Nat} (c:d.size=n) {i j:Nat} (hi:i<n) (a:j<n) {t:TypeId} {kk:Nat}
  (h:∀(L:ψ) (x y z:α),d[i]! = x->d[j]! = y->(L.length=n/\(L[i]?=some (enc x)/\∀h,L[i]'h=enc x)/\(L[j]?=some (enc y)/\∀h,L[j]'h=enc y)/\(∀h,(L.set i (enc y))[j]'h=enc z)/\i<n/\j<n)->d.toList.map enc=L->(Go.Sort.swp d i j).toList.map enc=(L.set i (enc y)).set j (enc x)->W P m nt k env [.cells t kk L] Z E):W P m nt k env [.cells t kk (d.toList.map enc)] Z E:=by
 obtain⟨L,x,y,b,e,f,g,l,o,p,z,r⟩:=K3 enc c hi a;rw[b];exact h L x y z e f ⟨g,l,o,r,hi,a⟩ b p
theorem Dz {p:α->Bool} {d:Array α} {b i R:Nat} (h:Go.Sort.scanUp p d b i=R) (a:i<=b) (c:p d[i]! = true):Go.Sort.scanUp p d b (i+1)=R:=by
 rw[Go.Sort.scanUp] at h;simpa[a,c] using h
theorem Dy {p:α->Bool} {d:Array α} {b i R:Nat} (h:Go.Sort.scanUp p d b i=R) (a:i<=b) (c:p d[i]! = false):i=R:=by
 rw[Go.Sort.scanUp] at h;simpa[a,c] using h
theorem Dx {p:α->Bool} {d:Array α} {b i R:Nat} (h:Go.Sort.scanUp p d b i=R) (a:¬i<=b):i=R:=by
 rw[Go.Sort.scanUp] at h;simpa[a] using h
theorem Dw {p:α->Bool} {d:Array α} {b i R:Nat} (h:Go.Sort.scanDown p d b i=R) (a:b<=i) (e:0<i) (c:p d[i]! = true):Go.Sort.scanDown p d b (i-1)=R:=by
 obtain⟨q,rfl⟩:∃q,i=q+1:=⟨i-1,I⟩;rw[Go.Sort.scanDown] at h;simpa[a,c] using h
theorem Dv {p:α->Bool} {d:Array α} {b i R:Nat} (h:Go.Sort.scanDown p d b i=R) (a:b<=i) (e:0<i) (c:p d[i]! = false):i=R:=by
 obtain⟨q,rfl⟩:∃q,i=q+1:=⟨i-1,I⟩;rw[Go.Sort.scanDown] at h;simpa[a,c] using h
theorem W.back {P:Program} {m nt:Nat} {k:ZA} {env:Β} {Z:XD} {E:Yb} {enc:α->Ψ} {d:Array α} {L:ψ} {t:TypeId} {kk:Nat} (h:d.toList.map enc=L) (env':Β) (a:∀p∈env',ι env p.1=p.2)
  (b:W P m nt k env' [.cells t kk (d.toList.map enc)] Z E):W P m nt k env [.cells t kk L] Z E:=h▸W.forget env' a b
theorem W.oB {P:Program} {m nt:Nat} {k:ZA} {env:Β} {Z:XD} {E:Yb} {enc:α->Ψ} {d:Array α} {L:ψ} {t:TypeId} {kk:Nat} (h:d.toList.map enc=L) (env':Β) (a:∀p∈env',ι env p.1=p.2)
  (b:W P m nt k env' [.cells t kk L] Z E):W P m nt k env [.cells t kk (d.toList.map enc)] Z E:=h▸W.forget env' a b
theorem W.UZ {P:Program} {m nt:Nat} {k:ZA} {env:Β} {Z:XD} {E:Yb} {enc:α->Ψ} {d:Array α} {t:TypeId} {kk:Nat} {a:Item} {l:Nat} (env':Β) (b:Array α)
  (c:W P m nt (a::.inBlock l::k) env [.cells t kk (d.toList.map enc)] (λj e s=>j=k/\s=[.cells t kk (b.toList.map enc)]/\∀p∈env',ι e p.1=p.2) E) (f:W P m nt k env' [.cells t kk (b.toList.map enc)] Z E):W P m nt (a::.inBlock l::k) env [.cells t kk (d.toList.map enc)] Z E:=W.JX env' _ c f
theorem swp_size {d:Array α} {n:Nat} (a:d.size=n) (i j:Nat):(Go.Sort.swp d i j).size=n:=by simp[Go.Sort.swp,a]
theorem Jl (p q:α->Bool) (r:∀x,q x = !p x) (d:Array α) {i j a b:Nat} (u:0<i) (f:i<=j+1) (s:Go.Sort.scanUp p d j i=a) (t:Go.Sort.scanDown q d a j=b):i<=a/\a<=j+1/\b<=j/\a<=b+1/\(a<=b->a<b):=by
 obtain⟨g,c,v,k⟩:=Go.Sort.scanUp_spec p d j _ i U;obtain⟨l,m,w,n⟩:=Go.Sort.scanDown_spec q d a j;rw[s] at g c k;rw[t] at l m n;refine⟨g,c f,l,m (c f),λh=>?_⟩;rcases Ns a b with o|o
 .exact o
 .have e:a=b:=I
  have f1:=k I
  have f2:=n h I;rw[r,<-e,f1] at f2;cases f2
theorem oA (lt:α->α->Bool) {a b n:Nat}:∀(m i j:Nat) (g:Array α),j+1-i<=m->g.size=n->0<i->i<=j+1->j<b->(Go.Sort.partLoop lt a i j g).2.size=n/\(Go.Sort.partLoop lt a i j g).1<b:=by
 intro m
 induction m with
 | zero=>
  intro i j g s k l o t;rw[Go.Sort.partLoop_eq];obtain⟨c,e⟩:=Wy (Go.Sort.scanUp (λx=>lt x g[a]!) g j i);obtain⟨d,f⟩:=Wy (Go.Sort.scanDown (λx=>!lt x g[a]!) g c j);obtain⟨u,v,w,y,p⟩:=Jl (λx=>lt x g[a]!) (λx=>!lt x g[a]!) (λx=>rfl) g l o e f;rw[e,f,if_pos (by apply TW;intro h;have:=p I;omega)];exact⟨k,by show d<b;omega⟩
 | succ m A=>
  intro i j g s k l o t;rw[Go.Sort.partLoop_eq];obtain⟨c,e⟩:=Wy (Go.Sort.scanUp (λx=>lt x g[a]!) g j i);obtain⟨d,f⟩:=Wy (Go.Sort.scanDown (λx=>!lt x g[a]!) g c j);obtain⟨u,v,w,y,p⟩:=Jl (λx=>lt x g[a]!) (λx=>!lt x g[a]!) (λx=>rfl) g l o e f;rw[e,f];by_cases r:c > d
  .rw[if_pos r];exact⟨k,by show d<b;omega⟩
  .rw[if_neg r];have:=p I;exact A (c+1) (d-1) _ I (swp_size k c d) I I I
theorem oz (lt:α->α->Bool) (hi first r:Nat) (e:Array α) {c k:Nat} (f:c=2*r+1) (h:c<hi) (a:k=if(decide (c+1<hi)&&lt e[first+c]! e[first+(c+1)]!)=true then c+1 else c) :
  Go.Sort.siftDown lt hi first r e=if(!lt e[first+r]! e[first+k]!)=true then e else Go.Sort.siftDown lt hi first k (Go.Sort.swp e (first+r) (first+k)):=by
 subst f;rw[Go.Sort.siftDown,dif_neg I];have d:first+(2*r+1)+1=first+(2*r+1+1):=I
 have g:2*r+2=2*r+1+1:=I;by_cases b:(decide (2*r+1+1<hi)&&lt e[first+(2*r+1)]! e[first+(2*r+1+1)]!)=true
 .rw[if_pos b] at a;subst a;rw[d,g,if_pos b];have i:2*r+1+1<hi:=by simp at b;exact b.1
  simp only[dif_pos i]
 .rw[if_neg b] at a;subst a;rw[d,if_neg b]
theorem Du {lt:α->α->Bool} {hi first n:Nat}:∀{r:Nat} {e:Array α},e.size=n->(Go.Sort.siftDown lt hi first r e).size=n:=by
 have c:∀(m r:Nat) (e:Array α),hi-r<=m->e.size=n->(Go.Sort.siftDown lt hi first r e).size=n:=by
  intro m
  induction m with
  | zero=>
   intro r e d a;rw[Go.Sort.siftDown,dif_pos I];exact a
  | succ m b=>
   intro r e d a;rw[Go.Sort.siftDown];split
   .exact a
   .split
    .split
     .exact a
     .split
      .exact b _ _ I (swp_size a _ _)
      .exact a
    .split
     .exact a
     .exact b _ _ I (swp_size a _ _)
 intro r e a;exact c _ r e (ZY _) a
theorem y0 {lt:α->α->Bool} {hi first n:Nat}:∀{k:Nat} {e:Array α},e.size=n->(Go.Sort.heapBuild lt hi first k e).size=n
 | 0,_,a=>a
 | k+1,e,a=>by
  show(Go.Sort.heapBuild lt hi first k (Go.Sort.siftDown lt hi first k e)).size=n;exact y0 (Du a)
theorem Dt (lt:α->α->Bool) (d:Array α) {a b n:Nat} (c:a<n) (e:b<n) (s:Nat):(Go.Sort.order2 lt d a b s).1<n/\(Go.Sort.order2 lt d a b s).2.1<n/\(Go.Sort.order2 lt d a b s).2.2<=s+1:=by
 unfold Go.Sort.order2;split
 .exact⟨e,c,ZY _⟩
 .exact⟨c,e,Nat.le_succ _⟩
theorem oy (p:α->Bool) (d:Array α) {i j:Nat} (h:j<i):Go.Sort.scanDown p d i j=j:=by
 cases j with
 | zero=>rfl
 | succ j=>rw[Go.Sort.scanDown,if_neg (by simp;omega)]
theorem Ds {p:α->Bool} {d:Array α} {b i R:Nat} (h:Go.Sort.scanDown p d b i=R) (a:¬b<=i):i=R:=by rw[<-h,oy p d I]
end
structure ox (c:Type) where
 a:Nat
 b:Nat
 lim:Nat
 wb:Bool
 wp:Bool
 e:Array c
def K2 {b:Type} [Inhabited b] (a l m:Nat):Nat->Nat->UInt64×Array b->UInt64×Array b
 | 0,_,st=>st
 | k+1,idx,st=>K2 a l m k (idx+1) (Go.Sort.breakStep a l m st idx)
theorem ow {e:Type} [Inhabited e] {d:Array e} {a b l c:Nat} (f:l=b-a) (g:8<=l) (h:c=a+(l / 4)*2):Go.Sort.breakPatterns d a b=(K2 a l (1 <<< Go.Sort.bitsLen l) 3 (c-1) (UInt64.ofNat l,d)).2:=by
 subst f;subst h;unfold Go.Sort.breakPatterns;simp only[ge_iff_le,g,if_true];rfl
abbrev RN (n:Int):Ψ:=.z (.int .u64 n)
def K1:Go.Sort.Hint->Int
 | .unknown=>0
 | .increasing=>1
 | .decreasing=>2
theorem yZ {b:Type} {enc:b->Ψ} {t k:Nat} {d:Array b} {f:Row} (g:∀y,∀a∈(enc y).cells,η 0 a) (id:Nat) (r:Row) (j:id<1) (c:[Row.cells t k (d.toList.map enc),f][id]?=some r):YR 1 r:=by
 obtain rfl:id=0:=I;simp at c;subst c;intro e h a i;obtain⟨y,_,rfl⟩:=Zh.1 h;exact η.mono (g y a i) (Ζ _)
theorem ov {l m:Nat} (h:l<2 ^ 62):i64.wrap (Int.tdiv (l:Int) (m:Int))=((l / m:Nat):Int):=by
 rw[Int.tdiv_eq_ediv_of_nonneg I];have a:l / m<=l:=Nat.div_le_self l m;have b:((l:Int) / (m:Int))=((l / m:Nat):Int):=rfl;rw[b];obtain⟨q,c⟩:=Z' (l / m);rw[<-c] at a ⊢;rw[i64_in _ I]
theorem Gc {l m:Nat} (h:l<2 ^ 62):i64.wrap ((l:Int) / (m:Int))=((l / m:Nat):Int):=by
 have:=ov (m:=m) h;rw[Int.tdiv_eq_ediv_of_nonneg I] at this;exact this
theorem K0 {x:Nat} (h:x<2 ^ 64):u64.wrap (x:Int)=(x:Int):=by
 unfold IntKind.wrap;simp[IntKind.bits,IntKind.signed];omega
theorem Dr {x y:Nat} (a:x<2 ^ 64) (b:y<2 ^ 64):Cv .u64 (x:Int) (y:Int)=((x^^^y:Nat):Int):=by
 have h:x^^^y<2 ^ 64:=Nat.xor_lt_two_pow a b
 have e:(BitVec.ofInt 64 (x:Int)^^^BitVec.ofInt 64 (y:Int)).toNat=x^^^y:=by
  rw[BitVec.toNat_xor,BitVec.ofInt_natCast,BitVec.ofInt_natCast,BitVec.toNat_ofNat,BitVec.toNat_ofNat,Oh a,Oh b]
 show u64.wrap (BitVec.ofInt 64 (x:Int)^^^BitVec.ofInt 64 (y:Int)).toNat=_;rw[e];exact K0 h
theorem Dq (x k:Nat) (a:k<=64):u64.wrap ((x:Int)*2 ^ min k u64.bits)=((x*2 ^ k % 18446744073709551616:Nat):Int):=by
 have e:min k u64.bits=k:=Nat.min_eq_left a;rw[e];have b:(x:Int)*2 ^ k=((x*2 ^ k:Nat):Int):=Ω;rw[b];obtain⟨y,c⟩:=Z' (x*2 ^ k);rw[<-c];unfold IntKind.wrap;simp[IntKind.bits,IntKind.signed]
theorem ou (x k:Nat) (a:k<=64):(x:Int).fdiv (2 ^ min k u64.bits)=((x / 2 ^ k:Nat):Int):=by
 have e:min k u64.bits=k:=Nat.min_eq_left a;rw[e,Int.fdiv_eq_ediv_of_nonneg _ (Int.le_of_lt (Int.pow_pos Z7))];simp
theorem ot {x y:Nat} (a:x<2 ^ 64) (b:y<2 ^ 64):U4 .u64 (x:Int) (y:Int)=((x&&&y:Nat):Int):=by
 have h:x&&&y<2 ^ 64:=L9 Nat.and_le_left a
 have e:(BitVec.ofInt 64 (x:Int)&&&BitVec.ofInt 64 (y:Int)).toNat=x&&&y:=by
  rw[BitVec.toNat_and,BitVec.ofInt_natCast,BitVec.ofInt_natCast,BitVec.toNat_ofNat,BitVec.toNat_ofNat,Oh a,Oh b]
 show u64.wrap (BitVec.ofInt 64 (x:Int)&&&BitVec.ofInt 64 (y:Int)).toNat=_;rw[e];exact K0 h
theorem RL {i:Nat} (h:0<i) (a:i<2 ^ 62):i64.wrap ((i:Int)-1)=((i-1:Nat):Int):=by
 rw[i64_in _ I];omega
theorem Rb {i:Nat} (a:i<2 ^ 61):i64.wrap ((i:Int)+1)=((i+1:Nat):Int):=by
 rw[i64_in _ I];omega
theorem Dp {a b:Nat} (h:a<=b) (c:b<2 ^ 62):i64.wrap ((b:Int)-a)=((b-a:Nat):Int):=by
 rw[i64_in _ I];omega
theorem oq (d:Array (Int)) (n a b p:Nat) (ae:d.size=n) (ap:n<2 ^ 40) (aq:a<=p) (ar:p<b) (au:b<=n)  :
  Μ prog 239 [.ms 0 n 0 n,J a,J b,J p] [.cells 3 1 ((d).toList.map J)] (λr s=>r=.ε [J (Go.Sort.partition (Go.Sort.ltInt) d a b p).1,ZV (Go.Sort.partition (Go.Sort.ltInt) d a b p).2.1]/\s=[.cells 3 1 (((Go.Sort.partition (Go.Sort.ltInt) d a b p).2.2).toList.map J)]) (λ_ _=>False):=by
 refine Μ.body Ο func239 U U ntmps239 U U Ω ?_;have al:=Rb (i:=a) I;have am:=RL (i:=b) I I
 repeat apply Γ
 refine MO ?_;refine W.two J ae (i:=a) (j:=p) I I λL x y z m o F t B=>?_
 repeat apply Γ
 refine W.draw (A:=[]) Ο mixed λH v=>?_;simp;(repeat (rw[Za];simp[F]));try rw[YL];refine Yn (v _ _ ?_)
 refine W.back B [(0,.ms 0 n 0 n),(1,J a),(2,J b),(3,J p)] Ω ?_;clear F B t m o L x y z;obtain⟨e,Z⟩:=Z' (Go.Sort.swp d a p);have Q:e.size=n:=by rw[Z];exact swp_size ae a p
 rw[<-Z]
 repeat apply Γ
 refine QL (Ξ al am) ?_;refine W.to (σ':=[.cells 3 1 ((e).toList.map J)]) (env':=[(0,.ms 0 n 0 n),(1,J a),(10,J (a+1:Nat)),(11,J (b-1:Nat))]) ?_ U Ω;obtain⟨c,K⟩:=Wy (Go.Sort.scanUp (λx=>Go.Sort.ltInt x e[a]!) e (b-1) (a+1));obtain⟨k,M⟩:=Wy (Go.Sort.scanDown (λx=>!Go.Sort.ltInt x e[a]!) e c (b-1));obtain⟨af,ag,ah,ai,Y⟩:=Jl (λx=>Go.Sort.ltInt x e[a]!) (λx=>!Go.Sort.ltInt x e[a]!) (λx=>rfl) e I I K M;have C:Go.Sort.partition (Go.Sort.ltInt) d a b p=if c > k then(k,true,Go.Sort.swp e k a) else((Go.Sort.partLoop (Go.Sort.ltInt) a (c+1) (k-1) (Go.Sort.swp e c k)).1,false,Go.Sort.swp (Go.Sort.partLoop (Go.Sort.ltInt) a (c+1) (k-1) (Go.Sort.swp e c k)).2 (Go.Sort.partLoop (Go.Sort.ltInt) a (c+1) (k-1) (Go.Sort.swp e c k)).1 a):=by
  unfold Go.Sort.partition;simp only[<-Z,K,M]
 repeat apply Γ
 repeat apply Γ
 refine W.UZ [(0,.ms 0 n 0 n),(1,J a),(10,J (c:Nat)),(11,J (b-1:Nat))] e ?_ ?_
 .refine W.iter (λi:Nat=>(a+1)<=i/\i<=(b-1)+1/\Go.Sort.scanUp (λx=>Go.Sort.ltInt x e[a]!) e (b-1) i=c) (λi=>[(0,.ms 0 n 0 n),(1,J a),(10,J (i:Nat)),(11,J (b-1:Nat))]) (λ_=>[.cells 3 1 ((e).toList.map J)]) (λi=>(b-1)+1-i) ((a+1)) ⟨ZY _,I,K⟩ U Ω (λi hi E=>?_);obtain⟨S,T,w⟩:=hi;by_cases l:i<=(b-1)
  .refine W.two J Q (i:=i) (j:=a) I I λL x y _ m o F t _=>?_;have D:=Rb (i:=i) I
   repeat apply Γ
   refine W.draw (A:=[]) Ο mixed λH v=>?_;simp;(repeat (rw[Za];simp[l,F]));try rw[YL]
   refine XV (Τ.p (Rn x y) (Zw.refl _) Ω Ω) ?_;simp;(repeat (rw[Za];simp));try rw[YL]
   refine Yn (v _ _ ?_);by_cases u:x<y
   .refine Ι (by simp[u]) ?_;refine Z9 D ?_;exact W.to (E (i+1) ⟨I,I,Dz w l (by simp[m,o,u,Go.Sort.ltInt])⟩ X9) (by rw[t]) (by simp[D])
   .refine Κ (by simp[u]) ?_;refine W.exit U ?_;exact W.stop ⟨U,by rw[t],by rw[<-Dy w l (by simp[m,o,u,Go.Sort.ltInt])];simp⟩
  .repeat apply Γ
   refine WX l ?_;refine Κ U ?_;refine W.exit U ?_;exact W.stop ⟨U,U,by rw[<-Dx w l];simp⟩
 repeat apply Γ
 refine W.UZ [(0,.ms 0 n 0 n),(1,J a),(10,J (c:Nat)),(11,J (k:Nat))] e ?_ ?_
 .refine W.iter (λi:Nat=>i<=(b-1)/\c<=i+1/\Go.Sort.scanDown (λx=>!Go.Sort.ltInt x e[a]!) e c i=k) (λi=>[(0,.ms 0 n 0 n),(1,J a),(10,J (c:Nat)),(11,J (i:Nat))]) (λ_=>[.cells 3 1 ((e).toList.map J)]) (λi=>i+1-c) ((b-1)) ⟨ZY _,I,M⟩ U Ω (λi hi E=>?_);obtain⟨S,T,w⟩:=hi;by_cases l:c<=i
  .refine W.two J Q (i:=i) (j:=a) I I λL x y _ m o F t _=>?_;have D:=RL (i:=i) I I
   repeat apply Γ
   refine W.draw (A:=[]) Ο mixed λH v=>?_;simp;(repeat (rw[Za];simp[l,F]));try rw[YL]
   refine XV (Τ.p (Rn x y) (Zw.refl _) Ω Ω) ?_;simp;(repeat (rw[Za];simp));try rw[YL]
   refine Yn (v _ _ ?_);by_cases u:x<y
   .refine Κ (by simp[u]) ?_;refine W.exit U ?_;exact W.stop ⟨U,by rw[t],by rw[<-Dv w l I (by simp[m,o,u,Go.Sort.ltInt])];simp⟩
   .refine Ι (by simp[u]) ?_;refine Z9 D ?_;exact W.to (E (i-1) ⟨I,I,Dw w l I (by simp[m,o,u,Go.Sort.ltInt])⟩ X9) (by rw[t]) (by simp[D])
  .repeat apply Γ
   refine WX l ?_;refine Κ U ?_;refine W.exit U ?_;exact W.stop ⟨U,U,by rw[<-Ds w l];simp⟩
 repeat apply Γ
 by_cases l:c > k
 .have N:((k:Nat):Int)<(c:Nat):=I
  refine Z9 N ?_;refine Ι (by simp[l]) ?_;refine W.two J Q (i:=k) (j:=a) I I λL x y z m o F t B=>?_
  repeat apply Γ
  refine W.draw (A:=[]) Ο mixed λH v=>?_;simp;(repeat (rw[Za];simp[F]));try rw[YL];refine Yn (v _ _ ?_)
  refine W.back B [(0,.ms 0 n 0 n),(1,J a),(10,J (c:Nat)),(11,J (k:Nat))] Ω ?_;clear F B t m o L x y z;refine Φ ?_;exact W.ret ⟨_,U,by rw[C,if_pos l];rfl,by rw[C,if_pos l]⟩
 have N:¬((k:Nat):Int)<(c:Nat):=I
 have an:=Y I
 have O:=Rb (i:=c) I
 have P:=RL (i:=k) I I;refine Z9 N ?_;refine Κ (by simp[l]) ?_;refine W.two J Q (i:=c) (j:=k) I I λL x y z m o F t B=>?_
 repeat apply Γ
 refine W.draw (A:=[]) Ο mixed λH v=>?_;simp;(repeat (rw[Za];simp[F]));try rw[YL];refine Yn (v _ _ ?_)
 refine W.back B [(0,.ms 0 n 0 n),(1,J a),(10,J (c:Nat)),(11,J (k:Nat))] Ω ?_;clear F B t m o L x y z;have aa:=swp_size Q c k;rw[if_neg l] at C;obtain⟨g,ab⟩:=Z' (Go.Sort.swp e c k);rw[<-ab] at C aa;rw[<-ab];refine Z9 (Ξ O P) ?_;refine W.to (σ':=[.cells 3 1 ((g).toList.map J)]) (env':=[(0,.ms 0 n 0 n),(1,J a),(10,J (c+1:Nat)),(11,J (k-1:Nat))]) ?_ U (by simp[O,P]);have av:a<c:=I;have aw:k<b:=I;have ax:c+1<=k-1+1:=I;clear K M N l af ag ah ai Y ab O P;obtain⟨R,ad⟩:=Wy (Go.Sort.partLoop (Go.Sort.ltInt) a (c+1) (k-1) g)
 repeat apply Γ
 refine W.UZ [(0,.ms 0 n 0 n),(1,J a),(11,J R.1)] R.2 ?_ ?_
 .refine W.iter (λq:Nat×Nat×Array (Int)=>q.2.2.size=n/\a<q.1/\q.1<=q.2.1+1/\q.2.1<b/\Go.Sort.partLoop (Go.Sort.ltInt) a q.1 q.2.1 q.2.2=R) (λq=>[(0,.ms 0 n 0 n),(1,J a),(10,J (q.1:Nat)),(11,J (q.2.1:Nat))]) (λq=>[.cells 3 1 ((q.2.2).toList.map J)]) (λq=>q.2.1+1-q.1) (c+1,k-1,g) ⟨aa,X9,X9,X9,ad⟩ U Ω (λq hi E=>?_);obtain⟨i,j,f⟩:=q;obtain⟨V,S,T,w,X⟩:=hi;simp only at V S T w X;obtain⟨c,K⟩:=Wy (Go.Sort.scanUp (λx=>Go.Sort.ltInt x f[a]!) f (j) (i));obtain⟨k,M⟩:=Wy (Go.Sort.scanDown (λx=>!Go.Sort.ltInt x f[a]!) f c (j));obtain⟨af,ag,ah,ai,Y⟩:=Jl (λx=>Go.Sort.ltInt x f[a]!) (λx=>!Go.Sort.ltInt x f[a]!) (λx=>rfl) f I I K M;have C:Go.Sort.partLoop (Go.Sort.ltInt) a i j f=if c > k then(k,f) else Go.Sort.partLoop (Go.Sort.ltInt) a (c+1) (k-1) (Go.Sort.swp f c k):=by
   rw[Go.Sort.partLoop_eq];simp only[K,M]
  refine W.to (σ':=[.cells 3 1 ((f).toList.map J)]) (env':=[(0,.ms 0 n 0 n),(1,J a),(10,J (i:Nat)),(11,J (j:Nat))]) ?_ U Ω;refine W.block ?_
  repeat apply Γ
  refine W.UZ [(0,.ms 0 n 0 n),(1,J a),(10,J (c:Nat)),(11,J (j:Nat))] f ?_ ?_
  .refine W.iter (λi:Nat=>(i)<=i/\i<=(j)+1/\Go.Sort.scanUp (λx=>Go.Sort.ltInt x f[a]!) f (j) i=c) (λi=>[(0,.ms 0 n 0 n),(1,J a),(10,J (i:Nat)),(11,J (j:Nat))]) (λ_=>[.cells 3 1 ((f).toList.map J)]) (λi=>(j)+1-i) ((i)) ⟨ZY _,I,K⟩ U Ω (λi hi E=>?_);obtain⟨S,T,w⟩:=hi;by_cases l:i<=(j)
   .refine W.two J V (i:=i) (j:=a) I I λL x y _ m o F t _=>?_;have D:=Rb (i:=i) I
    repeat apply Γ
    refine W.draw (A:=[]) Ο mixed λH v=>?_;simp;(repeat (rw[Za];simp[l,F]));try rw[YL]
    refine XV (Τ.p (Rn x y) (Zw.refl _) Ω Ω) ?_;simp;(repeat (rw[Za];simp));try rw[YL]
    refine Yn (v _ _ ?_);by_cases u:x<y
    .refine Ι (by simp[u]) ?_;refine Z9 D ?_;exact W.to (E (i+1) ⟨I,I,Dz w l (by simp[m,o,u,Go.Sort.ltInt])⟩ X9) (by rw[t]) (by simp[D])
    .refine Κ (by simp[u]) ?_;refine W.exit U ?_;exact W.stop ⟨U,by rw[t],by rw[<-Dy w l (by simp[m,o,u,Go.Sort.ltInt])];simp⟩
   .repeat apply Γ
    refine WX l ?_;refine Κ U ?_;refine W.exit U ?_;exact W.stop ⟨U,U,by rw[<-Dx w l];simp⟩
  repeat apply Γ
  refine W.UZ [(0,.ms 0 n 0 n),(1,J a),(10,J (c:Nat)),(11,J (k:Nat))] f ?_ ?_
  .refine W.iter (λi:Nat=>i<=(j)/\c<=i+1/\Go.Sort.scanDown (λx=>!Go.Sort.ltInt x f[a]!) f c i=k) (λi=>[(0,.ms 0 n 0 n),(1,J a),(10,J (c:Nat)),(11,J (i:Nat))]) (λ_=>[.cells 3 1 ((f).toList.map J)]) (λi=>i+1-c) ((j)) ⟨ZY _,I,M⟩ U Ω (λi hi E=>?_);obtain⟨S,T,w⟩:=hi;by_cases l:c<=i
   .refine W.two J V (i:=i) (j:=a) I I λL x y _ m o F t _=>?_;have D:=RL (i:=i) I I
    repeat apply Γ
    refine W.draw (A:=[]) Ο mixed λH v=>?_;simp;(repeat (rw[Za];simp[l,F]));try rw[YL]
    refine XV (Τ.p (Rn x y) (Zw.refl _) Ω Ω) ?_;simp;(repeat (rw[Za];simp));try rw[YL]
    refine Yn (v _ _ ?_);by_cases u:x<y
    .refine Κ (by simp[u]) ?_;refine W.exit U ?_;exact W.stop ⟨U,by rw[t],by rw[<-Dv w l I (by simp[m,o,u,Go.Sort.ltInt])];simp⟩
    .refine Ι (by simp[u]) ?_;refine Z9 D ?_;exact W.to (E (i-1) ⟨I,I,Dw w l I (by simp[m,o,u,Go.Sort.ltInt])⟩ X9) (by rw[t]) (by simp[D])
   .repeat apply Γ
    refine WX l ?_;refine Κ U ?_;refine W.exit U ?_;exact W.stop ⟨U,U,by rw[<-Ds w l];simp⟩
  repeat apply Γ
  by_cases l:c > k
  .have N:((k:Nat):Int)<(c:Nat):=I
   refine Z9 N ?_;refine Ι (by simp[l]) ?_;refine W.exit U ?_;rw[C,if_pos l] at X;exact W.stop ⟨U,by rw[<-X],by rw[<-X];simp⟩
  .have N:¬((k:Nat):Int)<(c:Nat):=I
   have an:=Y I
   have O:=Rb (i:=c) I
   have P:=RL (i:=k) I I;refine Z9 N ?_;refine Κ (by simp[l]) ?_;refine W.two J V (i:=c) (j:=k) I I λL x y z m o F t B=>?_
   repeat apply Γ
   refine W.draw (A:=[]) Ο mixed λH v=>?_;simp;(repeat (rw[Za];simp[F]));try rw[YL];refine Yn (v _ _ ?_)
   refine W.back B [(0,.ms 0 n 0 n),(1,J a),(10,J (c:Nat)),(11,J (k:Nat))] Ω ?_;clear F B t m o L x y z;refine Z9 (Ξ O P) ?_;exact W.to (E (c+1,k-1,Go.Sort.swp f c k) ⟨swp_size V c k,X9,X9,X9,by simp;rw[<-X,C,if_neg l]⟩ X9) U (by simp[O,P])
 rw[ad] at C;have aj:=oA (Go.Sort.ltInt) (a:=a) (b:=b) _ (c+1) (k-1) g (ZY _) aa I I I;rw[ad] at aj;obtain⟨ak,ao⟩:=aj;obtain⟨j,h⟩:=R;simp only at ak ao C;refine W.two J ak (i:=j) (j:=a) I I λL x y z m o F t B=>?_
 repeat apply Γ
 refine W.draw (A:=[]) Ο mixed λH v=>?_;simp;(repeat (rw[Za];simp[F]));try rw[YL];refine Yn (v _ _ ?_)
 refine W.back B [(0,.ms 0 n 0 n),(1,J a),(11,J (j:Nat))] Ω ?_;clear F B t m o L x y z;refine Φ ?_;exact W.ret ⟨_,U,by rw[C];rfl,by rw[C]⟩
theorem oo (d:Array (Int)) (n a b p:Nat) (S:d.size=n) (ad:n<2 ^ 40) (ae:a<=p) (af:p<b) (ag:b<=n)  :
  Μ prog 238 [.ms 0 n 0 n,J a,J b,J p] [.cells 3 1 ((d).toList.map J)] (λr s=>r=J (Go.Sort.partitionEqual (Go.Sort.ltInt) d a b p).1/\s=[.cells 3 1 (((Go.Sort.partitionEqual (Go.Sort.ltInt) d a b p).2).toList.map J)]) (λ_ _=>False):=by
 refine Μ.body Ο func238 U U ntmps238 U U Ω ?_;have Y:=Rb (i:=a) I;have Z:=RL (i:=b) I I
 repeat apply Γ
 refine MO ?_;refine W.two J S (i:=a) (j:=p) I I λL x y z k l F m v=>?_
 repeat apply Γ
 refine W.draw (A:=[]) Ο mixed λH u=>?_;simp;(repeat (rw[Za];simp[F]));try rw[YL];refine Yn (u _ _ ?_)
 refine W.back v [(0,.ms 0 n 0 n),(1,J a),(2,J b),(3,J p)] Ω ?_;clear F v m k l L x y z;obtain⟨e,K⟩:=Z' (Go.Sort.swp d a p);have aa:e.size=n:=by rw[K];exact swp_size S a p
 rw[<-K]
 repeat apply Γ
 refine QL (Ξ Y Z) ?_;refine W.to (σ':=[.cells 3 1 ((e).toList.map J)]) (env':=[(0,.ms 0 n 0 n),(1,J a),(9,J (a+1:Nat)),(10,J (b-1:Nat))]) ?_ U Ω;obtain⟨R,T⟩:=Wy (Go.Sort.partEqLoop (Go.Sort.ltInt) a (a+1) (b-1) e)
 repeat apply Γ
 refine W.UZ [(9,J R.1)] R.2 ?_ ?_
 .refine W.iter (λq:Nat×Nat×Array (Int)=>q.2.2.size=n/\a<q.1/\q.1<=q.2.1+1/\q.2.1<b/\Go.Sort.partEqLoop (Go.Sort.ltInt) a q.1 q.2.1 q.2.2=R) (λq=>[(0,.ms 0 n 0 n),(1,J a),(9,J (q.1:Nat)),(10,J (q.2.1:Nat))]) (λq=>[.cells 3 1 ((q.2.2).toList.map J)]) (λq=>q.2.1+1-q.1) (a+1,b-1,e) ⟨aa,X9,X9,X9,T⟩ U Ω (λq hi w=>?_);obtain⟨i,j,f⟩:=q;obtain⟨B,M,N,o,C⟩:=hi;simp only at B M N o C;obtain⟨c,O⟩:=Wy (Go.Sort.scanUp (λx=>!Go.Sort.ltInt f[a]! x) f (j) (i));obtain⟨h,P⟩:=Wy (Go.Sort.scanDown (λx=>Go.Sort.ltInt f[a]! x) f c (j));obtain⟨ah,ai,aj,ak,ab⟩:=Jl (λx=>!Go.Sort.ltInt f[a]! x) (λx=>Go.Sort.ltInt f[a]! x) (λx=>Ω) f I I O P;have D:Go.Sort.partEqLoop (Go.Sort.ltInt) a i j f=if c > h then(c,f) else Go.Sort.partEqLoop (Go.Sort.ltInt) a (c+1) (h-1) (Go.Sort.swp f c h):=by
   rw[Go.Sort.partEqLoop_eq];simp only[O,P]
  refine W.to (σ':=[.cells 3 1 ((f).toList.map J)]) (env':=[(0,.ms 0 n 0 n),(1,J a),(9,J (i:Nat)),(10,J (j:Nat))]) ?_ U Ω;refine W.block ?_
  repeat apply Γ
  refine W.UZ [(0,.ms 0 n 0 n),(1,J a),(9,J (c:Nat)),(10,J (j:Nat))] f ?_ ?_
  .refine W.iter (λi:Nat=>(i)<=i/\i<=(j)+1/\Go.Sort.scanUp (λx=>!Go.Sort.ltInt f[a]! x) f (j) i=c) (λi=>[(0,.ms 0 n 0 n),(1,J a),(9,J (i:Nat)),(10,J (j:Nat))]) (λ_=>[.cells 3 1 ((f).toList.map J)]) (λi=>(j)+1-i) ((i)) ⟨ZY _,I,O⟩ U Ω (λi hi w=>?_);obtain⟨M,N,o⟩:=hi;by_cases g:i<=(j)
   .refine W.two J B (i:=i) (j:=a) I I λL x y _ k l F m _=>?_;have E:=Rb (i:=i) I
    repeat apply Γ
    refine W.draw (A:=[]) Ο mixed λH u=>?_;simp;(repeat (rw[Za];simp[g,F]));try rw[YL]
    refine XV (Τ.p (Rn y x) (Zw.refl _) Ω Ω) ?_;simp;(repeat (rw[Za];simp));try rw[YL]
    refine Yn (u _ _ ?_);by_cases t:y<x
    .refine Κ (by simp[t]) ?_;refine W.exit U ?_;exact W.stop ⟨U,by rw[m],by rw[<-Dy o g (by simp[k,l,t,Go.Sort.ltInt])];simp⟩
    .refine Ι (by simp[t]) ?_;refine Z9 E ?_;exact W.to (w (i+1) ⟨I,I,Dz o g (by simp[k,l,t,Go.Sort.ltInt])⟩ X9) (by rw[m]) (by simp[E])
   .repeat apply Γ
    refine WX g ?_;refine Κ U ?_;refine W.exit U ?_;exact W.stop ⟨U,U,by rw[<-Dx o g];simp⟩
  repeat apply Γ
  refine W.UZ [(0,.ms 0 n 0 n),(1,J a),(9,J (c:Nat)),(10,J (h:Nat))] f ?_ ?_
  .refine W.iter (λi:Nat=>i<=(j)/\c<=i+1/\Go.Sort.scanDown (λx=>Go.Sort.ltInt f[a]! x) f c i=h) (λi=>[(0,.ms 0 n 0 n),(1,J a),(9,J (c:Nat)),(10,J (i:Nat))]) (λ_=>[.cells 3 1 ((f).toList.map J)]) (λi=>i+1-c) ((j)) ⟨ZY _,I,P⟩ U Ω (λi hi w=>?_);obtain⟨M,N,o⟩:=hi;by_cases g:c<=i
   .refine W.two J B (i:=i) (j:=a) I I λL x y _ k l F m _=>?_;have E:=RL (i:=i) I I
    repeat apply Γ
    refine W.draw (A:=[]) Ο mixed λH u=>?_;simp;(repeat (rw[Za];simp[g,F]));try rw[YL]
    refine XV (Τ.p (Rn y x) (Zw.refl _) Ω Ω) ?_;simp;(repeat (rw[Za];simp));try rw[YL]
    refine Yn (u _ _ ?_);by_cases t:y<x
    .refine Ι (by simp[t]) ?_;refine Z9 E ?_;exact W.to (w (i-1) ⟨I,I,Dw o g I (by simp[k,l,t,Go.Sort.ltInt])⟩ X9) (by rw[m]) (by simp[E])
    .refine Κ (by simp[t]) ?_;refine W.exit U ?_;exact W.stop ⟨U,by rw[m],by rw[<-Dv o g I (by simp[k,l,t,Go.Sort.ltInt])];simp⟩
   .repeat apply Γ
    refine WX g ?_;refine Κ U ?_;refine W.exit U ?_;exact W.stop ⟨U,U,by rw[<-Ds o g];simp⟩
  repeat apply Γ
  by_cases g:c > h
  .have Q:((h:Nat):Int)<(c:Nat):=I
   refine Z9 Q ?_;refine Ι (by simp[g]) ?_;refine W.exit U ?_;rw[D,if_pos g] at C;exact W.stop ⟨U,by rw[<-C],by rw[<-C];simp⟩
  .have Q:¬((h:Nat):Int)<(c:Nat):=I
   have al:=ab I
   have V:=Rb (i:=c) I
   have X:=RL (i:=h) I I;refine Z9 Q ?_;refine Κ (by simp[g]) ?_;refine W.two J B (i:=c) (j:=h) I I λL x y z k l F m v=>?_
   repeat apply Γ
   refine W.draw (A:=[]) Ο mixed λH u=>?_;simp;(repeat (rw[Za];simp[F]));try rw[YL];refine Yn (u _ _ ?_)
   refine W.back v [(0,.ms 0 n 0 n),(1,J a),(9,J (c:Nat)),(10,J (h:Nat))] Ω ?_;clear F v m k l L x y z;refine Z9 (Ξ V X) ?_;exact W.to (w (c+1,h-1,Go.Sort.swp f c h) ⟨swp_size B c h,X9,X9,X9,by simp;rw[<-C,D,if_neg g]⟩ X9) U (by simp[V,X])
 refine Φ ?_;have D:Go.Sort.partitionEqual (Go.Sort.ltInt) d a b p=R:=by unfold Go.Sort.partitionEqual;rw[<-K,T]
 exact W.ret ⟨_,U,by rw[D];rfl,by rw[D]⟩
theorem yY (d:Array (Int)) (n lo hi first:Nat) (T:d.size=n) (ao:n<2 ^ 40) (ap:first+hi<=n) (V:lo<=n)  :
  Μ prog 256 [.ms 0 n 0 n,J lo,J hi,J first] [.cells 3 1 ((d).toList.map J)] (λr s=>r=.ε []/\s=[.cells 3 1 ((Go.Sort.siftDown (Go.Sort.ltInt) hi first lo d).toList.map J)]) (λ_ _=>False):=by
 refine Μ.body Ο func256 U U ntmps256 U U Ω ?_;refine Φ ?_;obtain⟨R,O⟩:=Wy (Go.Sort.siftDown (Go.Sort.ltInt) hi first lo d);rw[O];refine W.iter (λq:Nat×Array (Int)=>q.2.size=n/\q.1<=n/\Go.Sort.siftDown (Go.Sort.ltInt) hi first q.1 q.2=R) (λq=>[(0,.ms 0 n 0 n),(2,J hi),(3,J first),(8,J (q.1:Nat))]) (λq=>[.cells 3 1 ((q.2).toList.map J)]) (λq=>hi-q.1) (lo,d) ⟨T,V,O⟩ U Ω (λq X Y=>?_);obtain⟨r,e⟩:=q;obtain⟨m,Z,a⟩:=X;simp only at m Z a;obtain⟨c,aa⟩:=Z' (2*r+1);obtain⟨c1,H⟩:=Z' (c+1);obtain⟨χ,ab⟩:=Z' (first+r);obtain⟨K,ad⟩:=Z' (first+c);obtain⟨fd,ae⟩:=Z' (first+(c+1));have w1:i64.wrap (2*(r:Int))=2*(r:Int):=by rw[i64_in _ I]
 have af:i64.wrap (2*(r:Int)+1)=(c:Int):=by rw[i64_in _ I];omega
 have M:i64.wrap ((c:Int)+1)=(c1:Int):=by rw[i64_in _ I];omega
 have ag:i64.wrap ((first:Int)+(c:Int))=(K:Int):=by rw[i64_in _ I];omega
 have ah:i64.wrap ((K:Int)+1)=(fd:Int):=by rw[i64_in _ I];omega
 have P:i64.wrap ((first:Int)+(r:Int))=(χ:Int):=by rw[i64_in _ I];omega
 refine W.to (σ':=[.cells 3 1 ((e).toList.map J)]) (env':=[(0,.ms 0 n 0 n),(2,J hi),(3,J first),(8,J (r:Nat))]) ?_ U Ω;refine Z9 (Ξ w1 af) ?_;by_cases Q:hi<=c
 .refine Ι (by simp[Q]) ?_;refine W.exit U ?_;exact W.nil ⟨_,U,U,by rw[<-a,Go.Sort.siftDown,dif_pos I]⟩
 refine Κ (by simp[Q]) ?_;obtain⟨B,g⟩:=Z' ((decide (c+1<hi)&&Go.Sort.ltInt e[first+c]! e[first+(c+1)]!):Bool);obtain⟨k,i⟩:∃k,k=if B=true then c+1 else c:=⟨_,U⟩
 have aq:k<hi:=by
  rw[i];split
  .rename_i h;rw[h] at g;have:=g.symm;simp at this;omega
  .omega
 have ai:=oz (Go.Sort.ltInt) hi first r e (k:=k) aa I (by rw[<-g];exact i)
 rw[ai] at a
 repeat apply Γ
 refine W.J5 (A:=[]) Ο mixed [(36,ZV B),(0,.ms 0 n 0 n),(2,J hi),(3,J first),(8,J r),(9,J c)] ?_ (by
  by_cases o:c1<hi
  .have b:K<n:=I
   have f:fd<n:=I;obtain⟨L,x,y,t,j,l,u,⟨v,w⟩,⟨C,D⟩,-,-⟩:=K3 J m b f;have N:B=Go.Sort.ltInt x y:=by rw[g,<-j,<-l,ad,ae];simp[<-H,o]
   have aj:(c1:Int)<hi:=I;rw[t];clear j l;simp;(repeat (rw[Za];simp[M,ag,ah,o,aj,u,v,w,C,D,b,f]));(try rw[YL]);refine XV (Τ.p (Rn x y) (Zw.refl _) Ω Ω) ?_;simp;(repeat (rw[Za];simp));(try rw[YL]);refine⟨SA Wf,?_⟩;simp[N,Go.Sort.ltInt]
  .have N:B=false:=by rw[g];simp[<-H,o]
   simp;(repeat (rw[Za];simp[M,o]));(try rw[YL]);refine⟨SA Wf,?_⟩;simp[N])
 have ar:r<k:=by rw[i];split<;>omega
 repeat apply Γ
 refine W.upto [(0,.ms 0 n 0 n),(2,J hi),(3,J first),(8,J (r:Nat)),(9,J (k:Nat))] [.cells 3 1 ((e).toList.map J)] ?_ ?_
 .cases B with
  | true=>
   refine Ι U ?_;refine QL M ?_;exact W.stop ⟨U,U,by simp[i,H]⟩
  | false=>
   refine Κ U ?_;refine W.skip ?_;exact W.stop ⟨U,U,by simp[i]⟩
 obtain⟨E,ak⟩:=Z' (first+k);rw[<-ab,<-ak] at a;have S:i64.wrap ((first:Int)+(k:Int))=(E:Int):=by rw[i64_in _ I];omega
 have b:χ<n:=I
 have f:E<n:=I;obtain⟨L,x,y,t,j,l,u,⟨v,w⟩,⟨C,D⟩,al,au,am⟩:=K3 J m b f;rw[j,l] at a;refine W.to (σ':=[.cells 3 1 L]) (env':=[(0,.ms 0 n 0 n),(2,J hi),(3,J first),(8,J (r:Nat)),(9,J (k:Nat))]) ?_ (by rw[t]) Ω;clear j l
 repeat apply Γ
 refine W.draw (A:=[]) Ο mixed λav an=>Ua (Ξ P (Ξ S (Ξ u (Ξ v (Ξ w (Ξ C (Ξ D (Ξ b f)))))))) ?_;refine XV (Τ.p (Rn x y) (Zw.refl _) Ω Ω) ?_;simp;(repeat (rw[Za];simp));try rw[YL]
 refine Yn (an _ _ ?_);by_cases F:x<y
 .refine Κ (by simp[F]) ?_
  repeat apply Γ
  refine WX (Ξ P (Ξ S (Ξ u (Ξ v (Ξ w (Ξ C (Ξ D (Ξ am (Ξ b f))))))))) ?_;refine Φ ?_;refine W.to (Y (k,Go.Sort.swp e χ E) ⟨swp_size m χ E,X9,?_⟩ X9) (by rw[al]) Ω;rw[<-a];simp[F,Go.Sort.ltInt]
 .refine Ι (by simp[F]) ?_;refine Φ ?_;exact W.ret ⟨_,U,U,by rw[<-t,<-a];simp[F,Go.Sort.ltInt]⟩
theorem om (d:Array (Int)) (n a b:Nat) (K:d.size=n) (M:n<2 ^ 40) (ae:a<b) (af:b<=n)  :
  Μ prog 232 [.ms 0 n 0 n,J a,J b] [.cells 3 1 ((d).toList.map J)] (λr s=>r=.ε []/\s=[.cells 3 1 ((Go.Sort.heapSort (Go.Sort.ltInt) d a b).toList.map J)]) (λ_ _=>False):=by
 refine Μ.body Ο func232 U U ntmps232 U U Ω ?_;obtain⟨m,T⟩:=Wy (b-a);have w1:i64.wrap ((b:Int)-(a:Int))=(m:Int):=by rw[i64_in _ I];omega
 have t:i64.wrap ((m:Int)-1)=((m-1:Nat):Int):=RL I I
 have N:i64.wrap (((m-1:Nat):Int) / 2)=(((m-1) / 2:Nat):Int):=Gc (m:=2) I;obtain⟨ag,u⟩:=Z' (m-1);obtain⟨v,O⟩:=Z' ((m-1) / 2);rw[<-O,<-u] at N;rw[<-u] at t;have wp:∀k:Nat,k<=n->i64.wrap ((k:Int)-1)=(k:Int)-1:=λk p=>by rw[i64_in _ I]
 obtain⟨g,w⟩:=Wy (Go.Sort.heapBuild (Go.Sort.ltInt) m a (v+1) d);have P:Go.Sort.heapSort (Go.Sort.ltInt) d a b=Go.Sort.heapPop (Go.Sort.ltInt) a m g:=by unfold Go.Sort.heapSort;rw[T,<-O,w]
 refine Z9 (Ξ w1 (Ξ t N)) ?_;refine W.JX [(0,.ms 0 n 0 n),(6,J a),(7,J 0),(8,J m)] [.cells 3 1 ((g).toList.map J)] ?_ ?_
 .refine W.iter (λq:Nat×Array (Int)=>q.2.size=n/\q.1<=v+1/\Go.Sort.heapBuild (Go.Sort.ltInt) m a q.1 q.2=g) (λq=>[(0,.ms 0 n 0 n),(6,J a),(7,J 0),(8,J m),(9,.z (.int .i64 ((q.1:Int)-1)))]) (λq=>[.cells 3 1 ((q.2).toList.map J)]) (λq=>q.1) (v+1,d) ⟨K,ZY _,w⟩ U Ω (λq B C=>?_);obtain⟨k,e⟩:=q;obtain⟨c,p,f⟩:=B;simp only at c p f;cases k with
  | zero=>
   refine Φ ?_;refine Κ U ?_;refine W.exit U ?_;exact W.stop ⟨U,by rw[<-f];rfl,Ω⟩
  | succ k=>
   have D:(0:Int)<=(k:Int):=I;refine W.to (σ':=[.cells 3 1 ((e).toList.map J)]) (env':=[(0,.ms 0 n 0 n),(6,J a),(7,J 0),(8,J m),(9,.z (.int .i64 ((k:Int))))]) ?_ U Ω;refine Z9 D ?_;refine Ι Ω ?_;refine υ λQ o=>?_;refine Μ.call (first:=[]) (captured:=[]) ((yY e n k m a c M I I).mono (λr s ⟨E,H⟩=>?_) (λ_ _ h=>h.elim));subst E;subst H;simp;(repeat (rw[Η];simp));apply o;refine Z9 (wp k I) ?_;exact W.to (C (k,Go.Sort.siftDown (Go.Sort.ltInt) m a k e) ⟨Du c,X9,f⟩ Ω) U (by simp[wp k I])
 obtain⟨V,R⟩:=Wy (Go.Sort.heapPop (Go.Sort.ltInt) a m g);have X:g.size=n:=by rw[<-w];exact y0 K
 rw[R] at P;refine Z9 t ?_;refine W.iter (λq:Nat×Array (Int)=>q.2.size=n/\q.1<=m/\Go.Sort.heapPop (Go.Sort.ltInt) a q.1 q.2=V) (λq=>[(0,.ms 0 n 0 n),(6,J a),(7,J 0),(8,J m),(10,.z (.int .i64 ((q.1:Int)-1)))]) (λq=>[.cells 3 1 ((q.2).toList.map J)]) (λq=>q.1) (m,g) ⟨X,ZY _,R⟩ U (by simp[u];omega) (λq B C=>?_);obtain⟨k,e⟩:=q;obtain⟨c,p,f⟩:=B;simp only at c p f;cases k with
 | zero=>
  refine Φ ?_;refine Κ U ?_;refine W.exit U ?_;exact W.nil ⟨_,U,U,by rw[P,<-f];rfl⟩
 | succ k=>
  have D:(0:Int)<=(k:Int):=I;obtain⟨l,Y⟩:=Z' (a+k);have Z:i64.wrap ((a:Int)+(k:Int))=(l:Int):=by rw[i64_in _ I];omega
  refine W.to (σ':=[.cells 3 1 ((e).toList.map J)]) (env':=[(0,.ms 0 n 0 n),(6,J a),(7,J 0),(8,J m),(10,.z (.int .i64 ((k:Int))))]) ?_ U Ω;refine Z9 D ?_;refine Ι Ω ?_;refine W.two J c (i:=a) (j:=l) I I λL x y z aa ab F ad S=>?_
  repeat apply Γ
  refine W.draw (A:=[]) Ο mixed λQ o=>?_;simp;(repeat (rw[Za];simp[F,Z]));try rw[YL];refine Yn (o _ _ ?_)
  refine W.back S [(0,.ms 0 n 0 n),(6,J a),(7,J 0),(8,J m),(10,.z (.int .i64 ((k:Int))))] Ω ?_;clear F S ad aa ab L x y z;refine υ λQ o=>?_;refine Μ.call (first:=[]) (captured:=[]) ((yY (Go.Sort.swp e a l) n 0 k a (swp_size c a l) M I I).mono (λr s ⟨E,H⟩=>?_) (λ_ _ h=>h.elim));subst E;subst H;simp;(repeat (rw[Η];simp));apply o;refine Z9 (wp k I) ?_;exact W.to (C (k,Go.Sort.siftDown (Go.Sort.ltInt) k a 0 (Go.Sort.swp e a l)) ⟨Du (swp_size c a l),X9,by rw[Y];exact f⟩ Ω) U (by simp[wp k I])
theorem oj (d:Array (Int)) (n a b:Nat) (m:d.size=n) (C:n<2 ^ 40) (D:a<b) (E:b<=n)  :
  Μ prog 235 [.ms 0 n 0 n,J a,J b] [.cells 3 1 ((d).toList.map J)] (λr s=>r=.ε []/\s=[.cells 3 1 ((Go.Sort.reverseRange d a b).toList.map J)]) (λ_ _=>False):=by
 refine Μ.body Ο func235 U U ntmps235 U U Ω ?_;have w1:=RL (i:=b) I I;refine Z9 w1 ?_;refine W.iter (λq:Nat×Nat×Array (Int)=>q.2.2.size=n/\q.1<n/\q.2.1<n/\Go.Sort.reverseLoop q.1 q.2.1 q.2.2=Go.Sort.reverseRange d a b) (λq=>[(0,.ms 0 n 0 n),(6,J (q.1:Nat)),(7,J (q.2.1:Nat))]) (λq=>[.cells 3 1 ((q.2.2).toList.map J)]) (λq=>q.2.1-q.1) (a,b-1,d) ⟨m,X9,X9,U⟩ U (by simp[w1]) (λq o p=>?_);obtain⟨i,j,e⟩:=q;obtain⟨g,hi,t,c⟩:=o;simp only at g hi t c;rw[Go.Sort.reverseLoop] at c;refine W.to (σ':=[.cells 3 1 ((e).toList.map J)]) (env':=[(0,.ms 0 n 0 n),(6,J (i:Nat)),(7,J (j:Nat))]) ?_ U Ω;refine Φ ?_;by_cases f:i<j
 .refine Ι (by simp[f]) ?_;rw[if_pos f] at c;have h:=Rb (i:=i) I;have k:=RL (i:=j) I I;refine W.two J g (i:=i) (j:=j) I I λL x y z u v F w l=>?_
  repeat apply Γ
  refine W.draw (A:=[]) Ο mixed λH B=>?_;simp;(repeat (rw[Za];simp[F]));try rw[YL];refine Yn (B _ _ ?_)
  refine W.back l [(0,.ms 0 n 0 n),(6,J (i:Nat)),(7,J (j:Nat))] Ω ?_;clear F l w u v L x y z;refine Z9 (Ξ h k) ?_;exact W.to (p (i+1,j-1,Go.Sort.swp e i j) ⟨swp_size g i j,X9,X9,c⟩ X9) U (by simp[h,k])
 .refine Κ (by simp[f]) ?_;refine W.exit U ?_;rw[if_neg f] at c;exact W.nil ⟨_,U,U,by rw[c]⟩
theorem Dn (d:Array (Int)) (n a b s:Nat) (m:d.size=n) (o:a<n) (t:b<n) (C:s<2 ^ 40)  :
  Μ prog 274 [.ms 0 n 0 n,J a,J b,.π 1 1 0 0] [.cells 3 1 (d.toList.map J),.cells 3 1 [J s]] (λr σ=>r=.ε [J (Go.Sort.order2 (Go.Sort.ltInt) d a b s).1,J (Go.Sort.order2 (Go.Sort.ltInt) d a b s).2.1]/\σ=[.cells 3 1 (d.toList.map J),.cells 3 1 [J (Go.Sort.order2 (Go.Sort.ltInt) d a b s).2.2]]) (λ_ _=>False):=by
 refine Μ.body Ο func274 U U ntmps274 U U Ω ?_;obtain⟨L,e⟩:=Z' (d.toList.map J);have u:L.length=n:=by rw[e];simpa using m
 obtain⟨x,f⟩:=Z' (d[a]!);obtain⟨y,g⟩:=Z' (d[b]!);have i:L[a]?=some (J x):=by rw[e,f,Ys,Xr,R3 I];rfl
 have j:L[b]?=some (J y):=by rw[e,g,Ys,Xr,R3 I];rfl
 have v:∀h:a<L.length,L[a]=J x:=λh=>by have:=i;rw[Z4 h] at this;exact WU this
 have w:∀h:b<L.length,L[b]=J y:=λh=>by have:=j;rw[Z4 h] at this;exact WU this
 have k:i64.wrap ((s:Int)+1)=((s+1:Nat):Int):=by rw[i64_in _ I];omega
 have l:Go.Sort.order2 (Go.Sort.ltInt) d a b s=if Go.Sort.ltInt y x=true then(b,a,s+1) else(a,b,s):=by unfold Go.Sort.order2;rw[<-f,<-g]
 rw[l,<-e];clear e f g l;refine Φ ?_;refine W.draw (A:=[]) Ο mixed λD B=>Ua (Ξ u (Ξ i (Ξ j (Ξ v w)))) ?_;refine⟨t,o,?_⟩;refine XV (Τ.p (Rn y x) (Zw.refl _) Ω Ω) ?_;simp;(repeat (rw[Za];simp));try rw[YL]
 refine Yn (B _ _ ?_);by_cases c:y<x
 .refine Ι (by simp[c]) ?_;refine Z9 k ?_;exact W.ret ⟨_,U,by simp[Zm,Go.Sort.ltInt,c],by simp[Zm,Go.Sort.ltInt,c]⟩
 .refine Κ (by simp[c]) ?_;refine Z9 k ?_;exact W.ret ⟨_,U,by simp[Zm,Go.Sort.ltInt,c],by simp[Zm,Go.Sort.ltInt,c]⟩
theorem oi (d:Array (Int)) (n a b c s:Nat) (i:d.size=n) (E:a<n) (F:b<n) (H:c<n) (K:s<2 ^ 39)  :
  Μ prog 258 [.ms 0 n 0 n,J a,J b,J c,.π 1 1 0 0] [.cells 3 1 ((d).toList.map J),.cells 3 1 [J (s:Nat)]] (λr σ=>r=J (Go.Sort.median (Go.Sort.ltInt) d a b c s).1/\σ=[.cells 3 1 ((d).toList.map J),.cells 3 1 [J ((Go.Sort.median (Go.Sort.ltInt) d a b c s).2:Nat)]]) (λ_ _=>False):=by
 refine Μ.body Ο func258 U U ntmps258 U U Ω ?_;obtain⟨x,t⟩:=Wy (Go.Sort.order2 (Go.Sort.ltInt) d a b s);have f1:=Dt (Go.Sort.ltInt) d (a:=a) (b:=b) (n:=n) I I s;have c1:=Dn d n a b s i I I I;rw[t] at f1 c1;obtain⟨j,k,l⟩:=x;simp only at f1 c1;obtain⟨y,u⟩:=Wy (Go.Sort.order2 (Go.Sort.ltInt) d k c l);have f2:=Dt (Go.Sort.ltInt) d (a:=k) (b:=c) (n:=n) I I l;have c2:=Dn d n k c l i I I I;rw[u] at f2 c2;obtain⟨m,L,o⟩:=y;simp only at f2 c2;obtain⟨A,v⟩:=Wy (Go.Sort.order2 (Go.Sort.ltInt) d j m o);have f3:=Dt (Go.Sort.ltInt) d (a:=j) (b:=m) (n:=n) I I o;have p:=Dn d n j m o i I I I;rw[v] at f3 p;obtain⟨M,B,C⟩:=A;simp only at f3 p;have D:Go.Sort.median (Go.Sort.ltInt) d a b c s=(B,C):=by unfold Go.Sort.median;simp only[t,u,v]
 rw[D]
 repeat apply Γ
 refine MO ?_;refine υ λw e=>?_;refine Μ.call (first:=[]) (captured:=[]) ((c1).mono (λr s ⟨f,g⟩=>?_) (λ_ _ h=>h.elim));subst f;subst g;simp;(repeat (rw[Η];simp));apply e;refine υ λw e=>?_;refine Μ.call (first:=[]) (captured:=[]) ((c2).mono (λr s ⟨f,g⟩=>?_) (λ_ _ h=>h.elim));subst f;subst g;simp;(repeat (rw[Η];simp));apply e;refine υ λw e=>?_;refine Μ.call (first:=[]) (captured:=[]) ((p).mono (λr s ⟨f,g⟩=>?_) (λ_ _ h=>h.elim));subst f;subst g;simp;(repeat (rw[Η];simp));apply e;refine Φ ?_;exact W.ret ⟨_,U,U,U⟩
theorem oh (d:Array (Int)) (n a b:Nat) (w:d.size=n) (ab:n<2 ^ 38) (ad:a+12<b) (ae:b<a+50) (af:b<=n)  :
  Μ prog 234 [.ms 0 n 0 n,J a,J b] [.cells 3 1 ((d).toList.map J)] (λr s=>r=.ε [J (Go.Sort.choosePivot (Go.Sort.ltInt) d a b).1,J (K1 (Go.Sort.choosePivot (Go.Sort.ltInt) d a b).2)]/\s=[.cells 3 1 ((d).toList.map J)]) (λ_ _=>False):=by
 refine Μ.body Ο func234 U U ntmps234 U U Ω ?_;obtain⟨l,x⟩:=Z' (b-a);obtain⟨q,u⟩:=Z' (l / 4);obtain⟨e,y⟩:=Z' (q*2);obtain⟨f,B⟩:=Z' (q*3);obtain⟨i,hi⟩:=Z' (a+q);obtain⟨j,C⟩:=Z' (a+e);obtain⟨k,D⟩:=Z' (a+f);obtain⟨E,em⟩:=Wy (Go.Sort.median (Go.Sort.ltInt) d i j k 0);have g:=oi d n i j k 0 w I I I I;rw[em] at g;obtain⟨v,c⟩:=E;simp only at g;have F:Go.Sort.choosePivot (Go.Sort.ltInt) d a b=(v,if c=0 then .increasing else if c=12 then .decreasing else .unknown):=by
  have H:8<=l:=I
  have K:¬50<=l:=I;simp only[Go.Sort.choosePivot,<-x,<-u,SI,<-y,<-B,<-hi,<-C,<-D,ge_iff_le,if_pos H,if_neg K,em]
 rw[F];have L:(8:Int)<=(l:Int):=I;have M:¬(50:Int)<=(l:Int):=I;have w1:i64.wrap ((b:Int)-(a:Int))=(l:Int):=by rw[i64_in _ I];omega
 have N:i64.wrap ((l:Int) / 4)=(q:Int):=by rw[u];exact Gc (m:=4) I
 have O:i64.wrap (q:Int)=(q:Int):=i64_in _ I
 have P:i64.wrap ((q:Int)*2)=(e:Int):=by rw[i64_in _ I];omega
 have Q:i64.wrap ((q:Int)*3)=(f:Int):=by rw[i64_in _ I];omega
 have R:i64.wrap ((a:Int)+(q:Int))=(i:Int):=by rw[i64_in _ I];omega
 have S:i64.wrap ((a:Int)+(e:Int))=(j:Int):=by rw[i64_in _ I];omega
 have T:i64.wrap ((a:Int)+(f:Int))=(k:Int):=by rw[i64_in _ I];omega
 repeat apply Γ
 refine MO ?_
 repeat apply Γ
 refine QL w1 ?_
 repeat apply Γ
 refine ZG (A:=[9]) Ο λV o=>Δ ?_;apply o;refine Z9 (Ξ N (Ξ O (Ξ P (Ξ Q (Ξ R (Ξ S (Ξ T @L))))))) ?_;refine Ι Ω ?_;refine Z9 @M ?_;refine Κ Ω ?_;refine υ λV o=>?_;refine Μ.call (first:=[]) (captured:=[]) ((g).mono (λr s ⟨X,Y⟩=>?_) (λ_ _ h=>h.elim));subst X;subst Y;simp;(repeat (rw[Η];simp));apply o
 repeat apply Γ
 refine MO ?_;refine W.drop (h:=1) Ω Ω (yZ Lt) U [(11,J (v:Nat)),(49,J (c:Nat))] Ω ?_;by_cases p:c=0
 .subst p;refine Φ ?_;refine Ι U ?_;refine Φ ?_;exact W.ret ⟨_,U,U,U⟩
 have Z:¬(c:Int)=0:=I;refine Z9 Z ?_;refine Κ (by simp[p]) ?_;by_cases t:c=12
 .subst t;refine Φ ?_;refine Ι U ?_;refine Φ ?_;exact W.ret ⟨_,U,U,U⟩
 have aa:¬(c:Int)=12:=I;refine Z9 aa ?_;refine Κ (by simp[t]) ?_;refine Φ ?_;exact W.ret ⟨_,U,by simp[p,t,K1],U⟩
theorem yX (d:Array (Int)) (n a b:Nat) (D:d.size=n) (V:n<2 ^ 40) (X:a<b) (Y:b<a+50) (Z:b<=n)  :
  Μ prog 236 [.ms 0 n 0 n,J a,J b] [.cells 3 1 ((d).toList.map J)] (λr s=>r=ZV (Go.Sort.partialInsertionSort (Go.Sort.ltInt) d a b).2/\s=[.cells 3 1 (((Go.Sort.partialInsertionSort (Go.Sort.ltInt) d a b).1).toList.map J)]) (λ_ _=>False):=by
 refine Μ.body Ο func236 U U ntmps236 U U Ω ?_;obtain⟨c,o⟩:=Wy (Go.Sort.scanSorted (Go.Sort.ltInt) d b (a+1));have E:Go.Sort.partialInsertionSort (Go.Sort.ltInt) d a b=(d,decide (c=b)):=by
  unfold Go.Sort.partialInsertionSort;rw[Go.Sort.partialIns,o];by_cases h:c=b
  .simp[h]
  .simp[h];omega
 rw[E];have w1:=Rb (i:=a) I;refine Z9 w1 ?_;refine .loop ?_;refine Φ ?_;refine Ι U ?_
 repeat apply Γ
 refine W.UZ [(0,.ms 0 n 0 n),(1,J a),(2,J b),(7,J (c:Nat))] d ?_ ?_
 .refine W.iter (λi:Nat=>a+1<=i/\i<=b/\Go.Sort.scanSorted (Go.Sort.ltInt) d b i=c) (λi=>[(0,.ms 0 n 0 n),(1,J a),(2,J b),(7,J (i:Nat))]) (λ_=>[.cells 3 1 ((d).toList.map J)]) (λi=>b-i) (a+1) ⟨ZY _,I,o⟩ U (by simp[w1]) (λi hi F=>?_);obtain⟨aa,ab,l⟩:=hi;by_cases f:i<b
  .obtain⟨p,H⟩:=Z' (i-1);have t:i<n:=I;have u:p<n:=I;obtain⟨L,x,y,m,v,w,K,⟨M,N⟩,⟨O,P⟩,-,-⟩:=K3 J D t u;have B:Go.Sort.scanSorted (Go.Sort.ltInt) d b i=if(!Go.Sort.ltInt x y)=true then Go.Sort.scanSorted (Go.Sort.ltInt) d b (i+1) else i:=by rw[Go.Sort.scanSorted];simp[f,v,<-H,w]
   have C:=Rb (i:=i) I
   have Q:i64.wrap ((i:Int)-1)=(p:Int):=by rw[i64_in _ I];omega
   refine W.oB m [(0,.ms 0 n 0 n),(1,J a),(2,J b),(7,J (i:Nat))] Ω ?_;clear v w
   repeat apply Γ
   refine W.draw (A:=[]) Ο mixed λad R=>Ua (Ξ f (Ξ Q (Ξ K (Ξ M (Ξ N (Ξ O (Ξ P (Ξ t u)))))))) ?_;refine XV (Τ.p (Rn x y) (Zw.refl _) Ω Ω) ?_;simp;(repeat (rw[Za];simp));try rw[YL]
   refine Yn (R _ _ ?_);by_cases j:x<y
   .refine Κ (by simp[j]) ?_;refine W.exit U ?_;exact W.stop ⟨U,by rw[m],by rw[<-l,B];simp[j,Go.Sort.ltInt]⟩
   .refine Ι (by simp[j]) ?_;refine Z9 C ?_;exact W.to (F (i+1) ⟨I,I,by rw[<-l,B];simp[j,Go.Sort.ltInt]⟩ X9) (by rw[m]) (by simp[C])
  .repeat apply Γ
   refine WX f ?_;refine Κ U ?_;refine W.exit U ?_;have e:Go.Sort.scanSorted (Go.Sort.ltInt) d b i=i:=by rw[Go.Sort.scanSorted];simp[f]
   exact W.stop ⟨U,U,by rw[<-l,e];simp⟩
 by_cases k:c=b
 .have g:(c:Int)=(b:Int):=I
  refine Z9 g ?_;refine Ι (by simp[k]) ?_;refine Φ ?_;exact W.ret ⟨_,U,by simp[k],U⟩
 .have g:¬(c:Int)=(b:Int):=I
  have S:((b-a:Nat):Int)<50:=I
  have T:=Dp (a:=a) (b:=b) I I;refine Z9 g ?_;refine Κ (by simp[k]) ?_;refine Z9 (Ξ T S) ?_;refine Ι Ω ?_;refine Φ ?_;exact W.ret ⟨_,U,by simp[k],U⟩
theorem og (l:Nat) (b:l<256):Τ prog 199 [J l] (RN ((1 <<< Go.Sort.bitsLen l:Nat):Int)):=by
 refine Μ.body Ο func199 U U ntmps199 U U Ω ?_;have c:u64.wrap (l:Int)=l:=K0 I;(repeat (first|apply Γ|(refine YF λf a=>?_;simp;(repeat (rw[Η];simp[c]));apply a)));(repeat apply Γ);refine YF λf a=>?_;simp;(repeat (rw[Η];simp[c]));refine Τ.d (NU l b) (Δ ?_);apply a;refine Φ ?_;refine W.ret ⟨_,U,.of ?_,U⟩;have g:=(Go.Sort.bitsLen_le_iff l 8).2 b;have e:=Dq 1 (Go.Sort.bitsLen l) I;have h:1*2 ^ Go.Sort.bitsLen l % 18446744073709551616=1 <<< Go.Sort.bitsLen l:=by
  rw[Nat.one_mul,Nat.one_shiftLeft,Oh (L9 (Nat.pow_le_pow_right I g) Z7)]
 rw[h] at e;show RN (u64.wrap (2 ^ min (Go.Sort.bitsLen l) u64.bits))=_;rw[<-e];simp
theorem oe (x:Nat) (j:x<2 ^ 64):Μ prog 200 [.π 0 1 0 0] [.cells 271 1 [RN (x:Int)]] (λr s=>r=RN ((Go.Sort.xorNextN x:Nat):Int)/\s=[.cells 271 1 [RN ((Go.Sort.xorNextN x:Nat):Int)]]) (λ_ _=>False):=by
 refine Μ.body Ο func200 U U ntmps200 U U Ω ?_;obtain⟨k,e⟩:=Z' (x*2 ^ 13 % 18446744073709551616);obtain⟨a,b⟩:=Z' (x^^^k);obtain⟨l,f⟩:=Z' (a / 2 ^ 7);obtain⟨c,d⟩:=Z' (a^^^l);obtain⟨m,g⟩:=Z' (c*2 ^ 17 % 18446744073709551616);obtain⟨B,h⟩:=Z' (c^^^m);have n:Go.Sort.xorNextN x=B:=by rw[h,g,d,f,b,e];rfl
 rw[n];have l1:k<2 ^ 64:=I;have i:a<2 ^ 64:=by rw[b];exact Nat.xor_lt_two_pow j l1
 have l2:l<2 ^ 64:=I
 have o:c<2 ^ 64:=by rw[d];exact Nat.xor_lt_two_pow i l2
 have p:m<2 ^ 64:=I
 have t:=Dq x 13 I;rw[<-e] at t;have u:=Dr j l1;rw[<-b] at u;have v:=ou a 7 I;rw[<-f] at v;have w:=Dr i l2;rw[<-d] at w;have y:=Dq c 17 I;rw[<-g] at y;have A:=Dr o p;rw[<-h] at A;clear h g d f b e l1 i l2 o p n;refine Φ ?_;refine WX (Ξ t u) ?_;refine Φ ?_;refine WX (Ξ v w) ?_;refine Φ ?_;refine WX (Ξ y A) ?_;refine Φ ?_;exact W.ret ⟨_,U,U,U⟩
theorem od (d:Array (Int)) (n a b:Nat) (ak:d.size=n) (aL:n<2 ^ 40) (aM:a+12<b) (aN:b<a+256) (aO:b<=n)  :
  Μ prog 233 [.ms 0 n 0 n,J a,J b] [.cells 3 1 ((d).toList.map J)] (λr s=>r=.ε []/\s=[.cells 3 1 ((Go.Sort.breakPatterns d a b).toList.map J)]) (λ_ _=>False):=by
 refine Μ.body Ο func233 U U ntmps233 U U Ω ?_;obtain⟨l,E⟩:=Z' (b-a);obtain⟨q,X⟩:=Z' (l / 4);obtain⟨F,al⟩:=Z' (q*2);obtain⟨c,am⟩:=Z' (a+F);obtain⟨H,Y⟩:=Z' (c-1);obtain⟨c1,aP⟩:=Z' (c+1);obtain⟨m,K⟩:=Z' (1 <<< Go.Sort.bitsLen l);have an:Go.Sort.bitsLen l<=8:=(Go.Sort.bitsLen_le_iff l 8).2 I;have aQ:l<m/\m<=256/\m<=2*l:=by
  have M:=Go.Sort.lt_two_pow_bitsLen l
  have N:=Go.Sort.two_pow_bitsLen_le (n:=l) I;rw[K,Nat.one_shiftLeft];exact⟨M,RH (Nat.pow_le_pow_right I an) Z7,N⟩
 obtain⟨R,Z⟩:=Wy (K2 a l m 3 H (UInt64.ofNat l,d));have ao:Go.Sort.breakPatterns d a b=R.2:=by rw[ow (c:=c) E I (by rw[am,al,X]),<-K,<-Y,Z]
 rw[ao];have w1:i64.wrap ((b:Int)-(a:Int))=(l:Int):=by rw[i64_in _ I];omega
 have O:i64.wrap ((l:Int) / 4)=(q:Int):=by rw[X];exact Gc (m:=4) I
 have P:i64.wrap ((q:Int)*2)=(F:Int):=by rw[i64_in _ I];omega
 have Q:i64.wrap ((a:Int)+(F:Int))=(c:Int):=by rw[i64_in _ I];omega
 have ap:i64.wrap ((c:Int)-1)=(H:Int):=by rw[i64_in _ I];omega
 have aa:i64.wrap ((c:Int)+1)=(c1:Int):=by rw[i64_in _ I];omega
 have aq:u64.wrap (l:Int)=(l:Int):=K0 I
 have ar:u64.wrap ((m:Int)-1)=((m-1:Nat):Int):=by
  have e:(m:Int)-1=((m-1:Nat):Int):=I;rw[e];exact K0 I
 have au:(8:Int)<=(l:Int):=I
 have av:(UInt64.ofNat l).toNat=l:=by rw[UInt64.toNat_ofNat'];exact Oh I
 refine Z9 (Ξ w1 @au) ?_;refine Ι Ω ?_
 repeat apply Γ
 refine ZG (A:=[7]) Ο λab k=>W8 aq ?_;apply k;have ad:=og l I;rw[<-K] at ad;refine υ λab k=>?_;refine Τ.c ad (Zw.refl _) Ω Ω ?_;simp;(repeat (rw[Η];simp));apply k;refine Z9 (Ξ O (Ξ P (Ξ Q ap))) ?_;refine W.iter (λy:Nat×UInt64×Array (Int)=>y.1<=3/\y.2.2.size=n/\K2 a l m y.1 (c+2-y.1) y.2=R) (λy=>[(0,.ms 0 n 0 n),(1,J a),(6,J (l:Nat)),(7,.π 1 1 0 0),(8,RN (m:Nat)),(9,J (c+2-y.1:Nat))]) (λy=>[.cells 3 1 ((y.2.2).toList.map J),.cells 271 1 [RN ((y.2.1.toNat:Nat):Int)]]) (λy=>y.1) (3,UInt64.ofNat l,d) ⟨ZY _,ak,by simp only;rw[<-Z,show c+2-3=H by omega]⟩ (by simp only;rw[av]) (by simp[Y]) (λy S aw=>?_);obtain⟨t,st,e⟩:=y;obtain⟨ax,T,u⟩:=S;simp only at ax T u;obtain⟨f,ae⟩:=Z' (c+2-t);obtain⟨x,p⟩:=Z' st.toNat;have ay:x<2 ^ 64:=by rw[p];exact st.toNat_lt
 rw[<-ae] at u;refine W.to (σ':=[.cells 3 1 ((e).toList.map J),.cells 271 1 [RN ((x:Nat):Int)]]) (env':=[(0,.ms 0 n 0 n),(1,J a),(6,J (l:Nat)),(7,.π 1 1 0 0),(8,RN (m:Nat)),(9,J (f:Nat))]) ?_ (by rw[p]) (by simp[ae]);cases t with
 | zero=>
  have g:¬(f:Int)<=(c1:Int):=I;refine Z9 (Ξ O (Ξ P (Ξ Q (Ξ aa g)))) ?_;refine Κ Ω ?_;refine W.exit U ?_;refine W.drop (h:=1) Ω Ω (yZ Lt) U [] Ω ?_;exact W.nil ⟨_,U,U,by rw[<-u];rfl⟩
 | succ t=>
  have g:(f:Int)<=(c1:Int):=I;obtain⟨v,af⟩:=Z' (Go.Sort.xorNext st);obtain⟨j,w⟩:=Z' v.toNat;have az:j=Go.Sort.xorNextN x:=by rw[w,af,Go.Sort.xorNext_toNat,p]
  have aA:j<2 ^ 64:=by rw[w];exact v.toNat_lt
  have ag:=oe x ay;rw[<-az] at ag;obtain⟨z,V⟩:=Z' (j&&&(m-1));have aR:z<=m-1:=by rw[V];exact Nat.and_le_right
  have WQ:U4 .u64 (j:Int) ((m-1:Nat):Int)=(z:Int):=by rw[V];exact ot aA I
  have aB:i64.wrap (z:Int)=(z:Int):=i64_in _ I;obtain⟨o,B⟩:=Z' (if z>=l then z-l else z);have aS:o<l:=by rw[B];split<;>omega
  have ah:K2 a l m t (f+1) (v,Go.Sort.swp e f (a+o))=R:=by
   rw[<-u];show _=K2 a l m t (f+1) (Go.Sort.breakStep a l m (st,e) f);unfold Go.Sort.breakStep;simp only;rw[<-af,<-w,<-V,<-B]
  obtain⟨C,aC⟩:=Z' (a+o);rw[<-aC] at ah;refine Z9 (Ξ O (Ξ P (Ξ Q (Ξ aa g)))) ?_;refine Ι Ω ?_;refine υ λab k=>?_;refine Μ.one ag 1 U (by simp[S6]) (by simp[S6]) (by simp[WR,NX]) (by simp[WR,NX]) U ?_;simp[X5,V1];(repeat (rw[Η];simp[ar,WQ,aB]));apply k;refine W.to (σ':=[.cells 3 1 ((e).toList.map J),.cells 271 1 [RN ((j:Nat):Int)]]) (env':=[(0,.ms 0 n 0 n),(1,J a),(6,J (l:Nat)),(7,.π 1 1 0 0),(8,RN (m:Nat)),(9,J (f:Nat)),(10,J (z:Nat))]) ?_ U Ω;refine Φ ?_;refine W.upto [(0,.ms 0 n 0 n),(1,J a),(6,J (l:Nat)),(7,.π 1 1 0 0),(8,RN (m:Nat)),(9,J (f:Nat)),(10,J (o:Nat))] [.cells 3 1 ((e).toList.map J),.cells 271 1 [RN ((j:Nat):Int)]] ?_ ?_
  .by_cases D:l<=z
   .have wo:i64.wrap ((z:Int)-(l:Int))=(o:Int):=by rw[i64_in _ I,B,if_pos D];omega
    refine Ι (by simp[D]) ?_;refine Z9 wo ?_;exact W.stop ⟨U,U,Ω⟩
   .refine Κ (by simp[D]) ?_
    repeat apply Γ
    exact W.stop ⟨U,U,by simp[B,D]⟩
  have aD:i64.wrap ((a:Int)+(o:Int))=(C:Int):=by rw[i64_in _ I];omega
  have ai:f<n:=I
  have aj:C<n:=I;obtain⟨L,x,y,aE,p,S,E,⟨M,N⟩,⟨aF,aG⟩,aH,aT,aI⟩:=K3 J T ai aj;rw[aE];clear p S
  repeat apply Γ
  refine WX (Ξ E (Ξ M (Ξ N (Ξ aF (Ξ aG (Ξ aI (Ξ ai (Ξ aj aD)))))))) ?_;have aJ:=Rb (i:=f) I;refine Z9 aJ ?_;refine W.to (aw (t,v,Go.Sort.swp e f C) ⟨X9,swp_size T f C,?_⟩ Ω) (by rw[aH,w]) (by simp[show c+2-t=f+1 by omega]);have aK:c+2-t=f+1:=I;simp only;rw[aK];exact ah
theorem oc (n:Nat) (bj:n<50)  : ∀(k:Nat) (d:Array (Int)) (a b c:Nat),d.size=n->b-a<=k->a<=b->b<=n->c<2 ^ 40->Go.Sort.Below (Go.Sort.ltInt) a b d->
  Μ prog 210 [.ms 0 n 0 n,J a,J b,J c] [.cells 3 1 ((d).toList.map J)] (λr s=>r=.ε []/\s=[.cells 3 1 ((Go.Sort.pdq (Go.Sort.ltInt) d a b c true true).toList.map J)]) (λ_ _=>False):=by
 intro k
 induction k using Nat.strongRecOn with
 | _ k aT=>
 intro d a b c a9 aq ad w ar ae;refine Μ.body Ο func210 U U ntmps210 U U Ω ?_;obtain⟨R,aB⟩:=Wy (Go.Sort.pdq (Go.Sort.ltInt) d a b c true true);rw[aB];refine Φ ?_;refine W.iter (λq:ox (Int)=>q.e.size=n/\q.a<=q.b/\q.b<=n/\q.b-q.a<=k/\q.lim<2 ^ 40/\Go.Sort.Below (Go.Sort.ltInt) q.a q.b q.e/\Go.Sort.pdq (Go.Sort.ltInt) q.e q.a q.b q.lim q.wb q.wp=R) (λq=>[(0,.ms 0 n 0 n),(1,J (q.a:Nat)),(2,J (q.b:Nat)),(3,J (q.lim:Nat)),(8,ZV q.wb),(9,ZV q.wp)]) (λq=>[.cells 3 1 ((q.e).toList.map J)]) (λq=>q.b-q.a) ⟨a,b,c,true,true,d⟩ ⟨a9,ad,w,aq,ar,ae,aB⟩ U Ω (λq a' aC=>?_);clear aB ae ar w ad aq;obtain⟨a,b,c,wb,wp,e⟩:=q;obtain⟨af,ad,w,aq,ar,ae,Z⟩:=a';simp only at af ad w aq ar ae Z;obtain⟨l,aD⟩:=Z' (b-a);have w1:i64.wrap ((b:Int)-(a:Int))=(l:Int):=by rw[i64_in _ I];omega
 refine W.to (σ':=[.cells 3 1 ((e).toList.map J)]) (env':=[(0,.ms 0 n 0 n),(1,J (a:Nat)),(2,J (b:Nat)),(3,J (c:Nat)),(8,ZV wb),(9,ZV wp)]) ?_ U Ω;by_cases aa:b-a<=12
 .have g:(l:Int)<=12:=I
  refine Z9 (Ξ w1 g) ?_;refine Ι Ω ?_;refine υ λK j=>?_;refine Μ.call (first:=[]) (captured:=[]) ((ua e n a b af ad w I).mono (λr s ⟨o,t⟩=>?_) (λ_ _ h=>h.elim));subst o;subst t;simp;(repeat (rw[Η];simp));apply j;rw[Go.Sort.pdq_small aa] at Z;exact W.ret ⟨_,U,U,by rw[<-Z]⟩
 have g:¬(l:Int)<=12:=I;refine Z9 (Ξ w1 g) ?_;refine Κ Ω ?_;by_cases T:c=0
 .have aE:(c:Int)=0:=I
  refine Z9 aE ?_;refine Ι (by simp[T]) ?_;refine υ λK j=>?_;refine Μ.call (first:=[]) (captured:=[]) ((om e n a b af I I w).mono (λr s ⟨o,t⟩=>?_) (λ_ _ h=>h.elim));subst o;subst t;simp;(repeat (rw[Η];simp));apply j;rw[Go.Sort.pdq_heap aa T] at Z;exact W.ret ⟨_,U,U,by rw[<-Z]⟩
 have aE:¬(c:Int)=0:=I;refine Z9 aE ?_;refine Κ (by simp[T]) ?_;refine Φ ?_;have F:=Go.Sort.rd_facts (limit:=c) (wb:=wb) (wp:=wp) Go.Sort.swo_ltInt Go.Sort.partialInsertionSort_holds Go.Sort.reverseRange_holds (by omega:a<b) I ae;have aU:=Go.Sort.rd_lim_le (lt:=(Go.Sort.ltInt)) (d:=e) (a:=a) (b:=b) (limit:=c) (wb:=wb) (wp:=wp);have au:=λh:wb=false=>show(Go.Sort.rd (Go.Sort.ltInt) e a b c wb wp).d1=Go.Sort.breakPatterns e a b/\(Go.Sort.rd (Go.Sort.ltInt) e a b c wb wp).lim=c-1 by subst h;exact Go.Sort.rd_false
 have av:=λh:wb=true=>show(Go.Sort.rd (Go.Sort.ltInt) e a b c wb wp).d1=e/\(Go.Sort.rd (Go.Sort.ltInt) e a b c wb wp).lim=c by subst h;exact Go.Sort.rd_true
 have aw:=Go.Sort.rd_c (lt:=(Go.Sort.ltInt)) (d:=e) (a:=a) (b:=b) (limit:=c) (wb:=wb) (wp:=wp)
 have Fd:=Go.Sort.rd_dec (lt:=(Go.Sort.ltInt)) (d:=e) (a:=a) (b:=b) (limit:=c) (wb:=wb) (wp:=wp)
 have Fn:=Go.Sort.rd_not (lt:=(Go.Sort.ltInt)) (d:=e) (a:=a) (b:=b) (limit:=c) (wb:=wb) (wp:=wp)
 have ag:=Go.Sort.rd_pi_yes (lt:=(Go.Sort.ltInt)) (d:=e) (a:=a) (b:=b) (limit:=c) (wb:=wb) (wp:=wp)
 have ah:=Go.Sort.rd_pi_no (lt:=(Go.Sort.ltInt)) (d:=e) (a:=a) (b:=b) (limit:=c) (wb:=wb) (wp:=wp)
 have ai:=Go.Sort.pdq_done (lt:=(Go.Sort.ltInt)) (d:=e) (wb:=wb) (wp:=wp) aa T
 have H:=Go.Sort.pdq_eq (lt:=(Go.Sort.ltInt)) (d:=e) (wb:=wb) (wp:=wp) aa T
 have B:=Go.Sort.pdq_left (lt:=(Go.Sort.ltInt)) (d:=e) (wb:=wb) (wp:=wp) aa T
 have C:=Go.Sort.pdq_right (lt:=(Go.Sort.ltInt)) (d:=e) (wb:=wb) (wp:=wp) aa T;rw[Z] at ai H B C;obtain⟨r,aV⟩:=Wy (Go.Sort.rd (Go.Sort.ltInt) e a b c wb wp);rw[aV] at F aU au av aw Fd Fn ag ah ai H B C;clear aV;obtain⟨d1,D,⟨aF,aG⟩,d2,M,aj,d3,done⟩:=r;simp only at F aU au av aw Fd Fn ag ah ai H B C;obtain⟨aH,bk,bl,aI,bm,O,Q,aW⟩:=F;rw[af] at aH aI Q;refine W.upto [(0,.ms 0 n 0 n),(1,J (a:Nat)),(2,J (b:Nat)),(3,J (D:Nat)),(8,ZV wb),(9,ZV wp),(10,J (l:Nat))] [.cells 3 1 ((d1).toList.map J)] ?_ ?_
 .cases wb with
  | false=>
   obtain⟨f1,f2⟩:=au U;refine Ι U ?_;refine υ λK j=>?_;refine Μ.call (first:=[]) (captured:=[]) ((od e n a b af I I I w).mono (λr s ⟨o,t⟩=>?_) (λ_ _ h=>h.elim));subst o;subst t;simp;(repeat (rw[Η];simp));apply j;have ak:=RL (i:=c) I I;refine QL ak ?_;exact W.stop ⟨U,by rw[f1],by simp[f2]⟩
  | true=>
   obtain⟨f1,f2⟩:=av U;refine Κ U ?_;refine W.skip ?_;exact W.stop ⟨U,by rw[f1],by simp[f2]⟩
 have aJ:=oh d1 n a b aH I I I w;rw[<-aw] at aJ;simp only at aJ;refine υ λK j=>?_;refine Μ.call (first:=[]) (captured:=[]) ((aJ).mono (λr s ⟨o,t⟩=>?_) (λ_ _ h=>h.elim));subst o;subst t;simp;(repeat (rw[Η];simp));apply j;refine W.to (σ':=[.cells 3 1 ((d1).toList.map J)]) (env':=[(0,.ms 0 n 0 n),(1,J (a:Nat)),(2,J (b:Nat)),(3,J (D:Nat)),(8,ZV wb),(9,ZV wp),(10,J (l:Nat)),(11,J (aF:Nat)),(12,J (K1 aG))]) ?_ U Ω;refine Φ ?_;refine W.upto [(0,.ms 0 n 0 n),(1,J (a:Nat)),(2,J (b:Nat)),(3,J (D:Nat)),(8,ZV wb),(9,ZV wp),(10,J (l:Nat)),(11,J (M:Nat)),(12,J (K1 aj))] [.cells 3 1 ((d2).toList.map J)] ?_ ?_
 .by_cases hd:aG=.decreasing
  .obtain⟨f1,f2,f3⟩:=Fd hd;subst hd;refine Ι U ?_;refine υ λK j=>?_;refine Μ.call (first:=[]) (captured:=[]) ((oj d1 n a b aH I I w).mono (λr s ⟨o,t⟩=>?_) (λ_ _ h=>h.elim));subst o;subst t;simp;(repeat (rw[Η];simp));apply j;have ak:=RL (i:=b) I I;have ba:=Dp (a:=a) (b:=aF) I I;have aX:=Dp (a:=aF-a) (b:=b-1) I I;rw[<-f2] at aX;refine W.seq ?_;refine QL (Ξ ak (Ξ ba aX)) ?_;refine MO ?_;exact W.stop ⟨U,by rw[f1],by simp[f3,K1]⟩
  .obtain⟨f1,f2,f3⟩:=Fn hd;refine Κ (by cases aG with
    | decreasing=>exact absurd rfl hd
    | unknown=>rfl
    | increasing=>rfl) ?_
   refine W.skip ?_;exact W.stop ⟨U,by rw[f1],by simp[f2,f3]⟩
 repeat apply Γ
 refine W.QP (A:=[]) Ο [(68,ZV (wb&&wp&&decide (aj=.increasing))),(0,.ms 0 n 0 n),(1,J (a:Nat)),(2,J (b:Nat)),(3,J (D:Nat)),(8,ZV wb),(9,ZV wp),(10,J (l:Nat)),(11,J (M:Nat))] ?_ (by cases wb<;>cases wp<;>cases aj<;>simp[Η,QQ,K1])
 repeat apply Γ
 rcases Bool.eq_false_or_eq_true done with S|S
 .cases al:(wb&&wp&&decide (aj=.increasing)) with
  | true=>
   have f:=ag al;refine Ι U ?_;have E:=yX d2 n a b aI I I I w;rw[<-f] at E;simp only[S] at E;refine υ λK j=>?_;refine Μ.call (first:=[]) (captured:=[]) ((E).mono (λr s ⟨o,t⟩=>?_) (λ_ _ h=>h.elim));subst o;subst t;simp;(repeat (rw[Η];simp));apply j;refine Ι U ?_;exact W.ret ⟨_,U,U,by rw[ai S]⟩
  | false=>
   have f:=(Prod.mk.inj (ah al)).2;rw[S] at f;cases f
 refine W.upto [(0,.ms 0 n 0 n),(1,J (a:Nat)),(2,J (b:Nat)),(3,J (D:Nat)),(8,ZV wb),(9,ZV wp),(10,J (l:Nat)),(11,J (M:Nat))] [.cells 3 1 ((d3).toList.map J)] ?_ ?_
 .cases al:(wb&&wp&&decide (aj=.increasing)) with
  | true=>
   have f:=ag al;refine Ι U ?_;have E:=yX d2 n a b aI I I I w;rw[<-f] at E;simp only[S] at E;refine υ λK j=>?_;refine Μ.call (first:=[]) (captured:=[]) ((E).mono (λr s ⟨o,t⟩=>?_) (λ_ _ h=>h.elim));subst o;subst t;simp;(repeat (rw[Η];simp));apply j;refine Κ U ?_;refine W.skip ?_;exact W.stop ⟨U,U,Ω⟩
  | false=>
   have f1:=(Prod.mk.inj (ah al)).1;refine Κ U ?_;refine W.skip ?_;exact W.stop ⟨U,by rw[f1],Ω⟩
 clear ai ag ah Fd Fn aw au av;have H:=H S;have B:=B S;have C:=C S;obtain⟨P,V⟩:=Wy ((decide (a > 0)&&!Go.Sort.ltInt d3[a-1]! d3[M]!):Bool);rw[V] at H B C
 repeat apply Γ
 refine W.J5 (A:=[]) Ο mixed [(87,ZV P),(0,.ms 0 n 0 n),(1,J (a:Nat)),(2,J (b:Nat)),(3,J (D:Nat)),(8,ZV wb),(9,ZV wp),(10,J (l:Nat)),(11,J (M:Nat))] ?_ (by
  by_cases aK:0<a
  .obtain⟨p,bb⟩:=Z' (a-1);have aY:p<n:=I;have aZ:M<n:=I;obtain⟨L,x,y,bc,N,a0,aD,⟨bd,be⟩,⟨bf,bg⟩,-,-⟩:=K3 J Q aY aZ;have aL:P = !Go.Sort.ltInt x y:=by rw[<-V,<-bb,N,a0];simp[aK]
   have aM:(0:Int)<(a:Int):=I
   have ak:i64.wrap ((a:Int)-1)=(p:Int):=by rw[i64_in _ I];omega
   rw[bc];clear N a0;simp;(repeat (rw[Za];simp[aK,aM,ak,aD,bd,be,bf,bg,aY,aZ]));(try rw[YL]);refine XV (Τ.p (Rn x y) (Zw.refl _) Ω Ω) ?_;simp;(repeat (rw[Za];simp));(try rw[YL]);refine⟨SA Wf,?_⟩;simp[aL,Go.Sort.ltInt]
  .have aL:P=false:=by rw[<-V];simp[aK]
   have aM:a=0:=I;subst aM;simp;(repeat (rw[Za];simp));(try rw[YL]);refine⟨SA Wf,?_⟩;simp[aL])
 repeat apply Γ
 rcases Bool.eq_false_or_eq_true P with X|X
 .refine Ι (by simp[X]) ?_;rw[X] at V;simp only[Wm,decide_eq_true_eq,Bool.not_eq_true'] at V;obtain⟨⟨mid,d4⟩,N⟩:∃r,Go.Sort.partitionEqual (Go.Sort.ltInt) d3 a b M=r:=⟨_,U⟩;obtain⟨Y,am,aN,ax,-⟩:=Go.Sort.round_eq Go.Sort.swo_ltInt (Go.Sort.partitionEqual_holds _) V.1 O.1 O.2 (by rw[Q];exact w) aW V.2 N;have H:=H X;rw[N] at H;have H:=H ⟨Y,am⟩;simp only at H;have E:=oo d3 n a b M Q I O.1 O.2 w;rw[N] at E;simp only at E;refine υ λK j=>?_;refine Μ.call (first:=[]) (captured:=[]) ((E).mono (λr s ⟨o,t⟩=>?_) (λ_ _ h=>h.elim));subst o;subst t;simp;(repeat (rw[Η];simp));apply j;refine Φ ?_;refine W.exit U ?_;exact W.to (aC ⟨mid,b,D,wb,wp,d4⟩ ⟨aN.trans Q,am,w,X9,X9,ax,H.symm⟩ X9) U Ω
 refine Κ (by simp[X]) ?_;obtain⟨⟨mid,a1,d4⟩,N⟩:∃r,Go.Sort.partition (Go.Sort.ltInt) d3 a b M=r:=⟨_,U⟩;obtain⟨Y,am,aN,ax,aO,bh,a2⟩:=Go.Sort.round_part Go.Sort.swo_ltInt (Go.Sort.partition_holds _) O.1 O.2 (by rw[Q];exact w) aW N;have B:=B X;have C:=C X;rw[N] at B C;have B:=B ⟨Y,am⟩;have C:=C ⟨Y,am⟩;simp only at B C;have E:=oq d3 n a b M Q I O.1 O.2 w;rw[N] at E;simp only at E;have ay:d4.size=n:=aN.trans Q;obtain⟨u,bi⟩:=Z' (mid-a);obtain⟨v,hv⟩:=Z' (b-mid);obtain⟨aP,a3⟩:=Z' (l / 8);obtain⟨an,az⟩:=Z' (mid+1);have a4:i64.wrap ((mid:Int)-(a:Int))=(u:Int):=by rw[i64_in _ I];omega
 have a5:i64.wrap ((b:Int)-(mid:Int))=(v:Int):=by rw[i64_in _ I];omega
 have a6:i64.wrap ((l:Int) / 8)=(aP:Int):=by rw[a3];exact Gc (m:=8) I
 have a7:i64.wrap ((mid:Int)+1)=(an:Int):=by rw[i64_in _ I];omega
 rw[<-bi,<-hv,<-aD,<-a3,<-az] at B C;refine υ λK j=>?_;refine Μ.call (first:=[]) (captured:=[]) ((E).mono (λr s ⟨o,t⟩=>?_) (λ_ _ h=>h.elim));subst o;subst t;simp;(repeat (rw[Η];simp));apply j;by_cases a8:u<v
 .have aQ:(u:Int)<(v:Int):=I
  refine Z9 (Ξ a4 (Ξ a5 (Ξ a6 @aQ))) ?_;refine Ι Ω ?_;obtain⟨ab,aA⟩:=Go.Sort.pdq_sorts (Go.Sort.ltInt) Go.Sort.swo_ltInt d4 a mid D true true Y I ax;have ao:=aT (mid-a) I d4 a mid D ay (ZY _) Y I I ax;have B:=B a8;obtain⟨B',-⟩:=bh _ ab aA;have ap:=ab.1.trans ay;obtain⟨aR,aS⟩:=Wy (Go.Sort.pdq (Go.Sort.ltInt) d4 a mid D true true);rw[aS] at ao B B' ap;refine υ λK j=>?_;apply j;refine υ λK j=>?_;refine Μ.call (first:=[]) (captured:=[]) ((ao).mono (λr s ⟨o,t⟩=>?_) (λ_ _ h=>h.elim));subst o;subst t;simp;(repeat (rw[Η];simp));apply j;refine Z9 a7 ?_;exact W.to (aC ⟨an,b,D,decide (u>=aP),a1,aR⟩ ⟨ap,X9,w,X9,X9,by simp only;rw[az];exact B',B.symm⟩ X9) U Ω
 .have aQ:¬(u:Int)<(v:Int):=I
  refine Z9 (Ξ a4 (Ξ a5 (Ξ a6 @aQ))) ?_;refine Κ Ω ?_;obtain⟨ab,aA⟩:=Go.Sort.pdq_sorts (Go.Sort.ltInt) Go.Sort.swo_ltInt d4 (mid+1) b D true true I I aO;rw[<-az] at ab aA aO;have ao:=aT (b-an) I d4 an b D ay (ZY _) I w I aO;have C:=C a8;rw[<-az] at a2;obtain⟨B',-⟩:=a2 _ ab aA;have ap:=ab.1.trans ay;obtain⟨aR,aS⟩:=Wy (Go.Sort.pdq (Go.Sort.ltInt) d4 an b D true true);rw[aS] at ao C B' ap;refine υ λK j=>?_;apply j;refine Ze a7 λK j=>?_;refine Μ.call (first:=[]) (captured:=[]) ((ao).mono (λr s ⟨o,t⟩=>?_) (λ_ _ h=>h.elim));subst o;subst t;simp;(repeat (rw[Η];simp));apply j;refine Φ ?_;exact W.to (aC ⟨a,mid,D,decide (v>=aP),a1,aR⟩ ⟨ap,Y,X9,X9,X9,B',C.symm⟩ X9) U Ω
theorem ob {a:Type} [Inhabited a] {lt:a->a->Bool} (b:Go.Sort.SWO lt) (c:∀x y,lt x y=false->lt y x=false->x=y) (l:List a):(Go.Sort.pdq lt l.toArray 0 l.length (Go.Sort.bitsLen l.length) true true).toList=l.mergeSort (λx y=>!lt y x):=by
 obtain⟨d,e⟩:=Go.Sort.pdq_sorts lt b l.toArray 0 l.length (Go.Sort.bitsLen l.length) true true (Ζ _) Ω (.inl U);exact Go.Sort.sorted_unique_holds (lt:=lt) b c l.toArray _ (by simpa using d) (by simpa using e)
theorem oa:Ha 49:=λl t=>by
 obtain⟨n,a⟩:=Z' l.length;have u:Go.Sort.bitsLen n<=6:=(Go.Sort.bitsLen_le_iff n 6).2 I;have h:=oc n I n l.toArray 0 n (Go.Sort.bitsLen n) (by simp[a]) I I (ZY _) I (.inl U);have b:=ob Go.Sort.swo_ltInt (λx y c f=>by simp[Go.Sort.ltInt] at c f;omega) l;rw[<-a] at b;have e:(λx y:Int=>!Go.Sort.ltInt y x)=λx y=>decide (x<=y):=by
  funext x y
  show(!decide (y<x))=decide (x<=y);by_cases q:y<x
  .rw[decide_eq_true q,decide_eq_false I];rfl
  .rw[decide_eq_false q,decide_eq_true I];rfl
 rw[b,e] at h;rw[<-a];clear b e;have v:(l.map J).length=n:=by rw[SJ,a]
 have g:l.toArray.toList=l:=rfl;rw[g] at h;refine Μ.body Ο func167 U U ntmps167 U U Ω ?_;have i:=Yk (show n<2 ^ 62 by omega);have j:u64.wrap (n:Int)=n:=K0 I;have k:=a.symm;refine Z9 k ?_;(repeat apply Γ);refine YF λw m=>?_;simp;(repeat (rw[Η];simp[i,j]));refine Τ.d (NU n I) (Δ ?_);refine Μ.call (first:=[]) (captured:=[]) (h.mono (λr s ⟨o,p⟩=>?_) (λ_ _ h=>h.elim));subst o;subst p;simp;(repeat (rw[Η];simp));apply m;exact W.nil ⟨_,U,U,U⟩
structure Gb (s:Y6) (F:WN) (a:Bool) (N:Nat):Prop where
 XM:F.length<2 ^ 20
 cells:∀f∈F,f.cells.length=s.cells.length/\∀c∈f.cells,c.length<2 ^ 20
 some:∀c,c<s.cells.length->VR F c a≠[]/\(VR F c a).length<=N
theorem Gb.call {s:Y6} {F:WN} {a:Bool} {N:Nat} (h:Gb s F a N) (e:N<2 ^ 20) (g:Ha N) {c:Nat} (b:c<s.cells.length):Τ prog 126 [Vs F,J c,ZV a] (ζ J 1 (OO F c a)):=
 tz F c a h.XM (λf d=>⟨by rw[(h.cells f d).1];exact b,(h.cells f d).2⟩) N e g (h.some c b).1 (h.some c b).2
def Jk (s:Y6) (F:WN) (a:Int) (b:Bool):Α×Int:=
 if(S2 s a F).2.2=0 then(OO F a.toNat b,0) else([],(S2 s a F).2.2)
theorem n' (s:Y6) (i:s.small) (F:WN) (j:OP s F) (a:Int) (f:Bool) (N:Nat) (k:N<2 ^ 20) (l:Ha N) (m:(S2 s a F).2.2=0->Gb s F f N) :
  Τ prog 77 [Wr s,J a,ZV f] (.ε [ζ J 1 (Jk s F a f).1,J (Jk s F a f).2]):=by
 refine Μ.body Ο func77 U U ntmps77 U U Ω ?_;refine Φ ?_;refine ZO ?_;refine ZG (A:=[8]) Ο λo g=>Δ ?_;refine Τ.d (tD s i a F j) (Δ ?_);apply g;by_cases b:(S2 s a F).2.2=0
 case neg=>
  have e:Jk s F a f=([],(S2 s a F).2.2):=if_neg b;rw[e];generalize (S2 s a F).2.2=p at b;refine Φ ?_;refine Ι (by simp[b]) ?_;refine Φ ?_;refine W.drop (h:=0) (Ζ _) (Ζ _) Ω U [(6,.sl true 0 []),(7,J p)] Ω ?_;refine W.rt ?_;exact .ε (.cons .nil (.cons (.refl _) .nil))
 have e:Jk s F a f=(OO F a.toNat f,0):=if_pos b;obtain⟨u,v,r⟩:=rj b;obtain⟨n,rfl⟩:∃n:Nat,a=n:=⟨a.toNat,I⟩;rw[e,r];have t:=(m b).call k l (c:=n) I;refine Φ ?_;refine Κ U ?_;refine υ λo g=>?_;refine Τ.d (t) (Δ ?_);apply g;refine W.drop (h:=0) (Ζ _) (Ζ _) Ω U [(6,ζ J 1 (OO F n f)),(7,J 0)] Ω ?_;exact W.NW
end Go.TL
namespace Go.TL
open Go.IntWalk (i64_in)
open Go.IntKind (i64 u64)
open Go.Proofs.Tryz
open Go.Proofs
def Ye:List (List Z0):=[SQ Ov TY Wo,SQ [Ow,Wo] TY Wo]
def Yu (c:List XC):List (Α):=[OO (VB (Xc c).ZX) 0 false]
structure Ux (c:List XC):Prop where
 lit:∀x∈c,0<=x.Xg/\x.Xg<1
 n9:c.length<2 ^ 20
 reads:∀k,k<3->(R0 (Xc c).ZX (UC k) 0).length<=12
 many:∀k,k<3->∀i,i<=1->PU (PE (Xc c).ZX (UC k)).cells (-1) i<2 ^ 62
 err:(Xc c).ZX.err=0
 n8:VB (Xc c).ZX≠[]
 cells:∀f∈VB (Xc c).ZX,f.cells.length=1/\∀x∈f.cells,x.length<2 ^ 20
 inc:(S2 (Xc c).ZX 0 (VB (Xc c).ZX)).2.2=0
 all:VR (VB (Xc c).ZX) 0 false≠[]/\(VR (VB (Xc c).ZX) 0 false).length<=49
theorem Ou:Ux []:=⟨Z7,Z7,by decide +kernel,by decide +kernel,by decide +kernel,by decide +kernel,by decide +kernel,by decide +kernel,by decide +kernel⟩
theorem n7:Ux [⟨0,9,0⟩]:=⟨Z7,Z7,by decide +kernel,by decide +kernel,by decide +kernel,by decide +kernel,by decide +kernel,by decide +kernel,by decide +kernel⟩
theorem n6:(∀l∈Y1.ZT,l.length<1000/\∀x∈l,x.size<1000)/\(∀x∈Y1.words,x.size<1000)/\∀b∈Y1.ZC,b.Xe.size<1000:=by decide +kernel
variable {c:List XC}
theorem Ux.small (h:Ux c):(Xc c).small:=by
 obtain⟨d,f,g⟩:=n6;refine⟨⟨by show 2<2 ^ 40;decide,λl e=>⟨UJ (d l e).1 Z7,λx a=>UJ ((d l e).2 x a) Z7⟩⟩,by show 4<2 ^ 40;decide,by show 2<2 ^ 40;decide,⟨by show 4<2 ^ 40;decide,λx a=>UJ (f x a) Z7⟩,⟨by show 8<2 ^ 40;decide,λb i=>UJ (g b i) Z7⟩,by show 2<2 ^ 30;decide,by show 1<2 ^ 30;decide,by show 1<2 ^ 30;decide,λx a=>?_,λx a=>?_⟩
 .obtain rfl:=Ol.1 a;decide
 .obtain rfl:=Ol.1 a;exact UJ h.n9 Z7
theorem Ux.n5 (h:Ux c):Eb 12 (Xc c).ZX:=by
 refine⟨h.small.ZX,by show 2<2 ^ 20;decide,λx b=>?_,λk a i hi=>?_,λk a i hi=>h.many k a i hi⟩
 .obtain rfl:=Ol.1 b;exact h.lit
 .obtain rfl:i=0:=Nat.lt_one_iff.1 hi;exact h.reads k a
theorem Ux.yW (h:Ux c):@OP XA (Xc c).ZX (VB (Xc c).ZX):=q4 h.n5
end Go.TL
namespace Go.TL
open Go.IntWalk (i64_in)
open Go.IntKind (i64 u64)
open Go.Proofs.Tryz
open Go.Proofs
variable [Z1]
theorem Ga (l:List ByteArray) (g:l.length<2 ^ 30):Τ prog 51 [Yw l] (Yw l):=by
 refine Μ.body Ο func51 U U ntmps51 U U Ω ?_;have d:l.length<=4294967295:=I;have e:l.length<=4294967296:=I;by_cases a:l=[]
 .subst a;refine Φ ?_;refine υ λf b=>?_;intro j h;apply b;by_cases c:j=1
  .refine Ι (by simp[c]) ?_;refine Φ ?_;refine W.rt ?_;exact .nil
  .refine Κ (by simp[c]) ?_;refine Φ ?_;refine W.rt ?_
   first|exact .refl _|exact .ex
 .refine Φ ?_;refine Ze a λf b=>?_;apply b;refine Κ U ?_;refine Z9 (Ξ d (Ξ a e)) ?_;refine W.rt ?_
  first|exact .refl _|exact .ex
theorem n4 (l:List VA) (g:l.length<2 ^ 30):Τ prog 104 [PB l] (PB l):=by
 refine Μ.body Ο func104 U U ntmps104 U U Ω ?_;have d:l.length<=4294967295:=I;have e:l.length<=4294967296:=I;by_cases a:l=[]
 .subst a;refine Φ ?_;refine υ λf b=>?_;intro j h;apply b;by_cases c:j=1
  .refine Ι (by simp[c]) ?_;refine Φ ?_;refine W.rt ?_;exact .nil
  .refine Κ (by simp[c]) ?_;refine Φ ?_;refine W.rt ?_
   first|exact .refl _|exact .ex
 .refine Φ ?_;refine Ze a λf b=>?_;apply b;refine Κ U ?_;refine Z9 (Ξ d (Ξ a e)) ?_;refine W.rt ?_
  first|exact .refl _|exact .ex
theorem n3 (l:List T') (g:l.length<2 ^ 30):Τ prog 105 [WO l] (WO l):=by
 refine Μ.body Ο func105 U U ntmps105 U U Ω ?_;have d:l.length<=4294967295:=I;have e:l.length<=4294967296:=I;by_cases a:l=[]
 .subst a;refine Φ ?_;refine υ λf b=>?_;intro j h;apply b;by_cases c:j=1
  .refine Ι (by simp[c]) ?_;refine Φ ?_;refine W.rt ?_;exact .nil
  .refine Κ (by simp[c]) ?_;refine Φ ?_;refine W.rt ?_
   first|exact .refl _|exact .ex
 .refine Φ ?_;refine Ze a λf b=>?_;apply b;refine Κ U ?_;refine Z9 (Ξ d (Ξ a e)) ?_;refine W.rt ?_
  first|exact .refl _|exact .ex
theorem n2 (l:Α) (g:l.length<2 ^ 30):Τ prog 106 [ζ J 1 l] (ζ J 1 l):=by
 refine Μ.body Ο func106 U U ntmps106 U U Ω ?_;have d:l.length<=4294967295:=I;have e:l.length<=4294967296:=I;by_cases a:l=[]
 .subst a;refine Φ ?_;refine υ λf b=>?_;intro j h;apply b;by_cases c:j=1
  .refine Ι (by simp[c]) ?_;refine Φ ?_;refine W.rt ?_;exact .nil
  .refine Κ (by simp[c]) ?_;refine Φ ?_;refine W.rt ?_
   first|exact .refl _|exact .ex
 .refine Φ ?_;refine Ze a λf b=>?_;apply b;refine Κ U ?_;refine Z9 (Ξ d (Ξ a e)) ?_;refine W.rt ?_
  first|exact .refl _|exact .ex
theorem n1 (l:List XC) (g:l.length<2 ^ 30):Τ prog 107 [TD l] (TD l):=by
 refine Μ.body Ο func107 U U ntmps107 U U Ω ?_;have d:l.length<=4294967295:=I;have e:l.length<=4294967296:=I;by_cases a:l=[]
 .subst a;refine Φ ?_;refine υ λf b=>?_;intro j h;apply b;by_cases c:j=1
  .refine Ι (by simp[c]) ?_;refine Φ ?_;refine W.rt ?_;exact .nil
  .refine Κ (by simp[c]) ?_;refine Φ ?_;refine W.rt ?_
   first|exact .refl _|exact .ex
 .refine Φ ?_;refine Ze a λf b=>?_;apply b;refine Κ U ?_;refine Z9 (Ξ d (Ξ a e)) ?_;refine W.rt ?_
  first|exact .refl _|exact .ex
theorem nZ (l:List (List Z0)) (m:l.length<2 ^ 30) (σ:Ρ):Μ prog 61 [.sl false 1 (l.map (ζ Y7 1))] σ (λa s=>a=.ms σ.length l.length 0 l.length/\s=σ++[.cells 23 1 (l.map (ζ Y7 1))]) (λ_ _=>False):=by
 refine Μ.body Ο func61 U U ntmps61 U U Ω ?_;have g:l.length<=4294967295:=I;have i:l.length<=4294967296:=I;have k:List.take l.length (l.map (ζ Y7 1))=l.map (ζ Y7 1):=Xb Ω;by_cases c:l=[]
 .subst c;refine Φ ?_;refine υ λd b=>?_;intro j n;apply b;by_cases e:j=1
  .refine Ι (by simp[e]) ?_;refine Φ ?_;refine W.pad (σ':=σ) 23 1 U (λj r h=>⟨r,h,.inl U⟩) [(2,.ms σ.length 0 0 0)] (λp f=>by simp at f;subst f;exact .nil) ?_;exact W.ret ⟨_,U,U,U⟩
  .refine Κ (by simp[e]) ?_
   repeat apply Γ
   refine ZG (A:=[7]) Ο λd b=>Δ ?_;apply b;exact W.ret ⟨_,U,U,U⟩
 .refine Φ ?_;refine Ze c λd b=>?_;apply b;refine Κ U ?_
  repeat apply Γ
  refine ZG (A:=[7]) Ο λd b=>W8 (Ξ g (Ξ c (Ξ k i))) ?_;apply b;exact W.ret ⟨_,U,U,U⟩
theorem nY {a:Type} (l:List a) {i:Nat} (hi:i<l.length):l.take i++(l.drop (i+1)++l.drop (l.length-1))=l.eraseIdx i++l.drop (l.length-1):=by
 rw[List.eraseIdx_eq_take_drop_succ,Tq]
theorem nX {σ:Ρ} {id:Nat} (l:List (List Z0)) (D:l.length<2 ^ 30) (c:σ[id]?=some (.cells 23 1 (l.map (ζ Y7 1)))) {i:Nat} (hi:i<l.length) :
  Μ prog 60 [.ms id l.length 0 l.length,J i,J ((i:Int)+1)] σ (λa s=>a=.ms id l.length 0 (l.length-1)/\s=σ.set id (.cells 23 1 ((l.eraseIdx i).map (ζ Y7 1)++[.sl true 0 []]))) (λ_ _=>False):=by
 have j:id<σ.length:=(ZR.1 c).1;obtain⟨e,f⟩:=Z' (l.drop (i+1));have k:e.length=l.length-(i+1):=by rw[f];simp
 have m:List.take (l.length-(i+1)) (List.drop (i+1) (l.map (ζ Y7 1)))=e.map (ζ Y7 1):=by
  rw[Xb Ω,<-List.map_drop,<-f]
 obtain⟨r,g⟩:=Z' (l.eraseIdx i++l.drop (l.length-1));have h:r.length=l.length:=by rw[g,Sm,F1 hi,List.length_drop];omega
 have n:List.take i (l.map (ζ Y7 1))++(e.map (ζ Y7 1)++List.drop (i+(l.length-(i+1))) (l.map (ζ Y7 1)))=r.map (ζ Y7 1):=by
  rw[g,<-nY l hi,f,show i+(l.length-(i+1))=l.length-1 by omega,VV,VV,Qc,List.map_drop,List.map_drop]
 have o:List.take (l.length-1) (r.map (ζ Y7 1))=(l.eraseIdx i).map (ζ Y7 1):=by
  rw[g,VV,List.take_left'];rw[SJ,F1 hi]
 have p:List.drop l.length (r.map (ζ Y7 1))=[]:=Qf (by simp[h]);refine Μ.body Ο func60 U U ntmps60 U U Ω ?_;refine Ze c λd b=>?_;apply b;refine Ze c λd b=>?_;refine⟨⟨I,I⟩,?_⟩;apply b;refine Ze c λd b=>?_;apply b;refine Κ (by simp;omega) ?_;refine Ze c λd b=>?_;apply b;have t:¬i=l.length:=I
 repeat apply Γ
 have u:i<=l.length:=I
 have v:(i:Int)+1<=l.length:=I
 have w:(0:Int)<=(i:Int)+1:=I
 have x:i+1+(l.length-(i+1))<=l.length:=I
 have y:i+(l.length-(i+1))<=l.length:=I
 have B:i+(l.length-(i+1))<=4294967296:=I;refine W.draw (A:=[26]) Ο mixed λd b=>Ua (Ξ c (Ξ t (Ξ m (Ξ k (Ξ u (Ξ v (Ξ w (Ξ x (Ξ y B))))))))) ?_;rw[n,show i+(l.length-(i+1))=l.length-1 by omega];refine Yn (b _ _ ?_);have C:∀r:Row,(σ.set id r)[id]?=some r:=λr=>Xs j;refine Ze (Ξ C h) λd b=>?_;rw[o,p,show l.length-(l.length-1)=1 by omega];apply b;refine Φ ?_;exact W.ret ⟨_,U,U,U⟩
theorem Τ.eq {P:Program} {f:FuncId} {args:ψ} {r r':Ψ} (h:Τ P f args r) (e:r=r'):Τ P f args r':=e▸h
theorem nW (a b:List ByteArray) (g:a.length<2 ^ 62):Τ prog 52 [Yw a,Yw b] (ZV (decide (a=b))):=by
 refine Μ.body Ο func52 U U ntmps52 U U Ω ?_;refine Φ ?_;refine W.iter (λp:Nat×Bool=>p.1<=a.length/\(p.2=true->a.length=b.length/\∀j,j<p.1->a[j]?=b[j]?)/\(p.2=false->a≠b)) (λp=>[(0,Yw a),(1,Yw b),(5,ZV p.2),(6,J p.1)]) (λ_=>[]) (λp=>a.length-p.1) (0,decide (a.length=b.length)) ⟨Ζ _,Ω,by simp;exact λh e=>h (by rw[e])⟩ U Ω (λi hi k=>?_);rcases i with⟨i,_|_⟩
 .refine Φ ?_;refine Κ U ?_;refine W.exit U ?_;refine Φ ?_;refine W.Y' ?_;simp[hi.2.2 U]
 .refine Φ ?_;have l:=(hi.2.1 U).1;refine W.Yl U (λc=>?_) (λc=>?_)
  .have c:i<a.length:=by simpa using c
   have f:i<b.length:=I;refine Φ ?_;refine WX (Ξ c f) ?_;refine Φ ?_;refine W.forget _ ?_ (k (i+1,decide (a[i]=b[i])) ⟨by simp;omega,λh=>⟨l,λj d=>?_⟩,λh e=>?_⟩ (by simp;omega))
   .simp[Y9 c g,PC]
   .by_cases e:j=i
    .subst e;rw[Z4 c,Z4 f];exact congrArg some (by simpa using h)
    .exact(hi.2.1 U).2 j (by simp at d;omega)
   .subst e;simp at h
  .have c:a.length<=i:=by simpa using c
   refine W.exit U ?_;refine Φ ?_;refine W.rt ?_;refine .of ?_;have:a=b:=U' λj=>by
    by_cases d:j<i
    .exact(hi.2.1 U).2 j d
    .rw[W4 I,W4 I]
   simp[this]
theorem nV (a b:List (List ByteArray)) (n:a.length<2 ^ 40) (g:∀x∈a,x.length<2 ^ 40):Τ prog 16 [UA a,UA b] (ZV (decide (a=b))):=by
 refine Μ.body Ο func16 U U ntmps16 U U Ω ?_;refine Φ ?_;refine W.iter (λp:Nat×Bool=>p.1<=a.length/\(p.2=true->a.length=b.length/\∀j,j<p.1->a[j]?=b[j]?)/\(p.2=false->a≠b)) (λp=>[(0,UA a),(1,UA b),(5,ZV p.2),(6,J p.1)]) (λ_=>[]) (λp=>a.length-p.1) (0,decide (a.length=b.length)) ⟨Ζ _,Ω,by simp;exact λh e=>h (by rw[e])⟩ U Ω (λi hi k=>?_);rcases i with⟨i,_|_⟩
 .refine Φ ?_;refine Κ U ?_;refine W.exit U ?_;refine Φ ?_;refine W.Y' ?_;simp[hi.2.2 U]
 .refine Φ ?_;have l:=(hi.2.1 U).1;refine W.Yl U (λc=>?_) (λc=>?_)
  .have c:i<a.length:=by simpa using c
   have f:i<b.length:=I;refine Φ ?_;refine W.draw (A:=[]) Ο mixed λo m=>Ua (Ξ c f) ?_;refine XV (Τ.q (nW a[i] b[i] (by have:=g _ (Yq c);omega))) (VG ?_);refine Yn (m _ _ ?_);refine Φ ?_;refine W.forget _ ?_ (k (i+1,decide (a[i]=b[i])) ⟨by simp;omega,λh=>⟨l,λj d=>?_⟩,λh e=>?_⟩ (by simp;omega))
   .simp[Y9 c (show a.length<2 ^ 62 by omega)]
   .by_cases e:j=i
    .subst e;rw[Z4 c,Z4 f];simpa using h
    .exact(hi.2.1 U).2 j (by simp at d;omega)
   .subst e;simp at h
  .have c:a.length<=i:=by simpa using c
   refine W.exit U ?_;refine Φ ?_;refine W.rt ?_;refine .of ?_;have:a=b:=U' λj=>by
    by_cases d:j<i
    .exact(hi.2.1 U).2 j d
    .rw[W4 I,W4 I]
   simp[this]
section
variable {g:ZZ} {θ:Int} {P:List (List Z0)} {C:List (Α)}
def Ra (p:List Z0):List (List ByteArray):=p.map (·.1)
def Qk (g:ZZ) (θ:Int) (P:List (List Z0)) (c:Int):List (List ByteArray)×Int:=if θ≠0 then([],θ) else if c<0\/c>=g.ZT.length then([],3) else(Ra ((P[c.toNat]?).getD []),0)
structure Dm (g:ZZ) (P:List (List Z0)):Prop where
 len:P.length=g.ZT.length
 XM:∀p∈P,p.length<2 ^ 30
 pass:∀(i:Nat) (p:List Z0),P[i]?=some p->Τ prog 50 [YT g,J i] (ζ Y7 1 p)
theorem Dl (D:UM g θ P C) (x:θ=0->Dm g P) (c:Int):Τ prog 15 [YT g,J c] (.ε [UA (Qk g θ P c).1,J (Qk g θ P c).2]):=by
 refine Μ.body Ο func15 U U ntmps15 U U Ω ?_;refine Φ ?_;refine υ λi b=>?_;refine Τ.d (D.check) (Δ ?_);apply b;refine Φ ?_;by_cases k:θ=0
 case neg=>
  refine Ι (by simp[k]) ?_;refine Φ ?_;have e:Qk g θ P c=([],θ):=by unfold Qk;rw[if_pos k]
  rw[e];exact W.ret ⟨_,U,.ε (.cons .nil (.cons (.refl _) .nil)),U⟩
 refine Κ (by simp[k]) ?_;have m:=x k;have R:=m.len;by_cases f:c<0\/c>=g.ZT.length
 .have e:Qk g θ P c=([],3):=by unfold Qk;rw[if_neg (by simpa using k),if_pos f]
  rw[e];by_cases o:c<0
  .refine Ze o λi b=>?_;apply b;refine Ι U ?_;refine Φ ?_;exact W.ret ⟨_,U,.ε (.cons .nil (.cons (.refl _) .nil)),U⟩
  .have v:(g.ZT.length:Int)<=c:=I
   refine Ze (Ξ o v) λi b=>?_;apply b;refine Ι U ?_;refine Φ ?_;exact W.ret ⟨_,U,.ε (.cons .nil (.cons (.refl _) .nil)),U⟩
 obtain⟨n,rfl⟩:∃n:Nat,c=n:=⟨c.toNat,I⟩;have E:n<P.length:=I;obtain⟨p,y⟩:=Z' (P[n]);have u:P[n]?=some p:=by rw[y];exact Z4 E
 have S:=m.XM p (ZH u)
 have e:Qk g θ P n=(Ra p,0):=by unfold Qk;rw[if_neg (by simpa using k),if_neg f,Int.toNat_natCast,u];rfl
 rw[e];have F:=m.pass n p u;have o:¬(n:Int)<0:=I;have v:¬(g.ZT.length:Int)<=n:=I;have H:¬g.ZT.length<=n:=I;clear e y u x m;refine Ze (Ξ o (Ξ v H)) λi b=>?_;apply b;refine Κ U ?_;refine υ λi b=>?_;apply b;refine υ λi b=>?_;refine Τ.d (F) (Δ ?_);apply b;refine W.pad (σ':=[]) 26 1 U Ω [(7,.ms 0 0 0 0),(27,ζ Y7 1 p),(28,J p.length),(29,J 0)] (λz l=>by
  simp at l;rcases l with rfl|rfl|rfl|rfl<;>first|exact .same _|exact .nil) ?_
 repeat apply Γ
 refine W.iter (λj:Nat=>j<=p.length) (λj=>[(7,.ms 0 j 0 j),(27,ζ Y7 1 p),(28,J p.length),(29,J j)]) (λj=>[.cells 26 1 ((Ra (p.take j)).map Yw)]) (λj=>p.length-j) 0 (Ζ _) U Ω (λj T K=>?_);refine Φ ?_;by_cases f:j<p.length
 .refine Ι (by simp[f]) ?_;obtain⟨q,w⟩:=Z' (p[j]);have L:∀h:j<p.length,p[j]=q:=λ_=>w.symm;have M:Ra (p.take (j+1))=Ra (p.take j)++[q.1]:=by unfold Ra;rw[VW f,<-w,VV];rfl
  have N:(Ra (p.take j)).length=j:=by unfold Ra;simp;omega
  clear w;have O:j<=4294967295:=I;refine Ze (Ξ f L) λi b=>?_;apply b
  repeat apply Γ
  refine ZG (A:=[37]) Ο λi b=>?_;simp;(repeat (rw[Η];simp));refine Τ.c (Ga q.1 (by have:=q.2;omega)) (.cons .ex .nil) Ω Ω ?_;simp;(repeat (rw[Η];simp[N,O]));apply b;refine Φ ?_;refine W.to (K (j+1) f I) (by rw[M];simp) (by simp[Y9 f (show p.length<2 ^ 62 by omega)])
 .obtain rfl:j=p.length:=I
  refine Κ Ω ?_;refine W.exit U ?_;refine Φ ?_;refine W.cut 0 (Ζ _) [(4,UA (Ra p)),(5,J 0)] (Ζ _) (λid r h=>I) (λz l=>?_) ?_
  .simp at l;rcases l with rfl|rfl
   .exact Y0.own (id:=0) (t:=26) (Ζ _) U (by simp[Ra]) (λe Q a B=>by
     obtain⟨s,_,rfl⟩:=Zh.1 Q;simp[Ψ.cells] at B;subst B;simp)
   .exact .low (by simp[ι])
  refine W.rt ?_;exact .of U
end
end Go.TL
namespace Go.TL
open Go.IntWalk (i64_in)
open Go.IntKind (i64 u64)
open Go.Proofs.Tryz
open Go.Proofs
def VP (a b:ByteArray) (L:List (List ByteArray)):List (List Z0):=L.map λl=>SQ l a b
def KZ (a b:ByteArray) (L:List (List ByteArray)):List (List Z0):=L.map λl=>RU l a b
structure ExG (g:ZZ) (c:List XC):Prop where
 ZX:g.ZX=(Xc c).ZX
 low:g.lower=false
 ZT:g.ZT.length<1000/\∀l∈g.ZT,l.length<1000/\∀x∈l,x.size<1000
 names:g.left.size<1000/\g.right.size<1000
 words:g.words.length<1000/\∀x∈g.words,x.size<1000
 ZC:g.ZC.length<1000/\∀b∈g.ZC,b.Xe.size<1000
structure SN (g:ZZ) (c:List XC):Prop extends ExG g c where
 Dk:UR g.ZT=0/\RS g=0/\NI g=0/\SU g.UT g.US 0 9=0/\SU g.W2 g.UB 0 80=0
 nU:(∀w∈g.words,Xm w=true)/\(∀w∈g.words,∀c∈w.data.toList,Qs g.ZC c=true)/\((0<=g.UT/\g.UT<=9)/\0<=g.US/\g.US<=9)/\∀b∈g.ZC,(0<=b.lo/\b.lo<=9)/\0<=b.hi/\b.hi<=9
 XM:g.words.length<=5/\g.ZC.length<=12/\g.ZT.length<=5
 yV:∀l∈g.ZT,(RU l g.left g.right).length<=12
 nT:∀l∈g.ZT,∀x∈l,x.data.toList≠[]/\32∉x.data.toList
variable {g:ZZ} {c:List XC}
theorem Ux.nS (h:Ux c):(Yu c).length<2 ^ 40/\∀l∈Yu c,l.length<2 ^ 40:=⟨by show 1<2 ^ 40;decide,λl a=>by
  letI:Z1:=XA;obtain rfl:=Ol.1 a;have b:=tF (WM (VR (VB (Xc c).ZX) 0 false)) (WM (VR (VB (Xc c).ZX) 0 false)).length;rw[Nu] at b;have d:(WM (VR (VB (Xc c).ZX) 0 false)).length=(VR (VB (Xc c).ZX) 0 false).length:=by simp[WM]
  have e:=h.all.2;unfold OO;omega⟩
theorem Ux.nR (h:Ux c):Gb (Xc c).ZX (VB (Xc c).ZX) false 49 where
 XM:=L9 (FZ _ _) Ω
 cells f a:=h.cells f a
 some i hi:=by
  obtain rfl:i=0:=Nat.lt_one_iff.1 hi;exact h.all
theorem ExG.small (h:ExG g c) (e:Ux c):g.small:=by
 have f:=e.small.ZX;refine⟨⟨UJ h.ZT.1 Z7,λl d=>⟨UJ (h.ZT.2 l d).1 Z7,λx a=>UJ ((h.ZT.2 l d).2 x a) Z7⟩⟩,UJ h.names.1 Z7,UJ h.names.2 Z7,⟨UJ h.words.1 Z7,λx a=>UJ (h.words.2 x a) Z7⟩,⟨UJ h.ZC.1 Z7,λb i=>UJ (h.ZC.2 b i) Z7⟩,?_⟩;rw[h.ZX];exact f
theorem Ux.nQ (_:Ux c):(VB (Xc c).ZX).length<2 ^ 20:=L9 (FZ _ _) Ω
theorem ExG.check (h:ExG g c) (a:Ux c):@Τ XA prog 13 [YT g] (J (Tx g (VB (Xc c).ZX))):=by
 letI:Z1:=XA;have b:=a.yW;rw[<-h.ZX] at b;have:=pE g (h.small a) _ b (by rw[h.ZX];exact a.nQ);rw[h.ZX] at this;exact this
theorem SN.Tx (h:SN g c) (a:Ux c):Tx g (VB (Xc c).ZX)=0:=by
 obtain⟨b,d,e,f,i⟩:=h.Dk;have j:Pw g.ZX (VB (Xc c).ZX)=0:=by rw[h.ZX];unfold Pw;rw[if_pos a.err,if_neg a.n8]
 unfold Go.TL.Tx Pv;rw[b,d,e,f,i,j];rfl
theorem nP (l:List ByteArray) (a b:ByteArray):(SQ l a b).length=(RU l a b).length:=by unfold SQ;rw[List.length_mergeSort]
theorem SN.yU (h:SN g c):∀l∈VP g.left g.right g.ZT,l.length<=12:=λl a=>by
 obtain⟨x,b,rfl⟩:=Zh.1 a;rw[nP];exact h.yV x b
theorem SN.work (h:SN g c) (a:Ux c):Mp g (VP g.left g.right g.ZT) (Yu c):=by
 obtain⟨w1,b,d,e⟩:=h.nU;refine⟨w1,b,d,e,h.XM.2.1,(h.small a).ZX,⟨by have:=h.XM.2.2;simp[VP];omega,λl f=>by have:=h.yU l f;omega⟩,a.nS,by have:=h.XM.1;omega⟩
theorem SN.yT (h:SN g c):@Dm XA g (VP g.left g.right g.ZT):=by
 letI:Z1:=XA;refine⟨by simp[VP],λp a=>by have:=h.yU p a;omega,λi p a=>?_⟩;unfold VP at a;rw[Ys] at a;obtain⟨l,d,rfl⟩:=Uh.1 a;have b:=ZH d;exact pY g i l d (h.ZT.2 l b).1 (λx e=>⟨h.nT l b x e,(h.ZT.2 l b).2 x e⟩) (h.yV l b)
theorem SN.Jj (h:SN g c) (a:Ux c):@UM XA g 0 (VP g.left g.right g.ZT) (Yu c):=by
 letI:Z1:=XA;refine⟨?_,λ_=>?_,λ_=>h.work a,λ_=>h.XM.1,by have:=h.XM.1;omega⟩
 .have:=h.check a;rw[h.Tx a] at this;exact this
 .refine oW (n:=1) (by rw[h.ZX];rfl) Z7 U (by simp[VP]) (by simp[VP];exact h.XM.2.2) h.yT.pass (λi l b=>?_);have hi:i<1:=(ZR.1 b).1;obtain rfl:i=0:=Nat.lt_one_iff.1 hi;cases b;have:=n' (Xc c).ZX a.small.ZX _ a.yW 0 false 49 Z7 oa (λ_=>a.nR);unfold Jk at this;rw[if_pos a.inc] at this;rw[h.ZX,h.low];exact⟨_,this⟩
theorem Dj:SN Y1 []:=⟨⟨rfl,rfl,by decide +kernel,by decide +kernel,by decide +kernel,by decide +kernel⟩,by decide +kernel,by decide +kernel,by decide +kernel,by decide +kernel,by decide +kernel⟩
theorem nO:SN Uy [⟨0,9,0⟩]:=⟨⟨rfl,rfl,by decide +kernel,by decide +kernel,by decide +kernel,by decide +kernel⟩,by decide +kernel,by decide +kernel,by decide +kernel,by decide +kernel,by decide +kernel⟩
theorem KY:@UM XA Y1 0 Ye (Yu []):=Dj.Jj Ou
theorem yS:@UM XA Uy 0 Ye (Yu [⟨0,9,0⟩]):=nO.Jj n7
end Go.TL
namespace Go.TL
open Go.IntWalk (i64_in)
open Go.IntKind (i64 u64)
open Go.Proofs.Tryz
open Go.Conc Go.Proofs
variable [Z1]
section
variable {g:ZZ} {θ:Int} {P:List (List Z0)} {C:List (Α)}
def Pq (g:ZZ) (θ:Int) (f:Α):Xt×Int:=if UL g θ f=0 then(UO g f,0) else((0,0),UL g θ f)
theorem Di (i:UM g θ P C) (f:Α) (k:f.length<2 ^ 40):Τ prog 14 [YT g,ζ J 1 f] (.ε [.Z6 [J (Pq g θ f).1.1,J (Pq g θ f).1.2],J (Pq g θ f).2]):=by
 refine Μ.body Ο func14 U U ntmps14 U U Ω ?_;refine ZO ?_;refine ZG (A:=[4]) Ο λj a=>Δ ?_;apply a;refine υ λj a=>?_;refine Τ.d (y4 i f k) (Δ ?_);apply a;refine Φ ?_;by_cases b:UL g θ f=0
 case neg=>
  refine Ι (by simp[b]) ?_;refine Φ ?_;have e:Pq g θ f=((0,0),UL g θ f):=by unfold Pq;rw[if_neg b]
  rw[e];refine W.fix (id:=0) (σ':=[]) (Ζ _) U Ω Ω U [(4,.Ν [J 0,J 0]),(5,J (UL g θ f))] Ω ?_;refine W.rt ?_;exact .of U
 refine Κ (by simp[b]) ?_;obtain⟨l,m⟩:=y5 b;have h:=i.work l;have e:Pq g θ f=(UO g f,0):=by unfold Pq;rw[if_pos b]
 rw[e];refine υ λj a=>?_;refine Τ.c (DH g [] [] h.words h.lets h.blank h.Gf h.ZC f m) (.cons (.Z6 ?_) (Zw.refl _)) Ω Ω ?_
 .exact .cons (.refl _) (.cons (.refl _) (.cons (.refl _) (.cons (.refl _) (.cons (.refl _) (.cons (.refl _) (.cons (.refl _) (.cons (.refl _) (.cons (.refl _) (.cons (.refl _) (.cons (.refl _) (.cons (.refl _) (.cons (.refl _) (.cons .nil (.cons .nil .nil))))))))))))))
 simp;(repeat (rw[Η];simp));apply a;refine Φ ?_;refine W.fix (id:=0) (σ':=[]) (Ζ _) U Ω Ω U [(4,.Ν [J (UO g f).1,J (UO g f).2]),(5,J 0)] Ω ?_;refine W.rt ?_;exact .of U
def TX (g:ZZ) (θ:Int) (P:List (List Z0)) (C:List (Α)):Ψ:=if θ=0 then VX g P C else .Z6 [.sl true 0 [],.z (.string {data:=#[]}),.z (.string {data:=#[]}),.sl true 0 [],.sl true 0 [],J 0,J 0,J 0,J 0,.sl true 0 [],.sl true 0 [],.sl true 0 [],ZV false,.sl true 0 [],.sl true 0 []]
def XK (g:ZZ) (θ:Int) (P:List (List Z0)) (C:List (Α)):Int:=if θ≠0 then θ else if YQ g P C=[] then 11 else 0
theorem F' (h:XK g θ P C=0):θ=0/\YQ g P C≠[]:=by
 unfold XK at h;split at h
 .rename_i a;exact absurd h a
 rename_i b;split at h
 .cases h
 .rename_i c;exact⟨by simpa using b,c⟩
theorem KX (g:ZZ) (P:List (List Z0)) (C:List (Α)) (h:g.words.length<=5):(YQ g P C).length<=156:=by
 refine RH (Mc _ _) ?_;rw[y'];generalize g.words.length=n at h;have:n=0\/n=1\/n=2\/n=3\/n=4\/n=5:=I;rcases this with rfl|rfl|rfl|rfl|rfl|rfl<;>decide
theorem Ji (i:UM g θ P C):Τ prog 53 [YT g] (.ε [TX g θ P C,Ya (Wp g θ P C),J (XK g θ P C)]):=by
 refine Μ.body Ο func53 U U ntmps53 U U Ω ?_;refine ZO ?_;refine ZG (A:=[2]) Ο λm b=>Δ ?_;apply b;refine υ λm b=>?_;refine Τ.d (i.check) (Δ ?_);apply b;refine Φ ?_;by_cases f:θ=0
 case neg=>
  refine Ι (by simp[f]) ?_;refine Φ ?_;have n:XK g θ P C=θ:=by unfold XK;rw[if_pos f]
  have o:Wp g θ P C=[]:=by unfold Wp;rw[if_neg f]
  have s:TX g θ P C=.Z6 [.sl true 0 [],.z (.string {data:=#[]}),.z (.string {data:=#[]}),.sl true 0 [],.sl true 0 [],J 0,J 0,J 0,J 0,.sl true 0 [],.sl true 0 [],.sl true 0 [],ZV false,.sl true 0 [],.sl true 0 []]:=by unfold TX;rw[if_neg f]
  rw[n,o,s];refine W.fix (id:=0) (σ':=[]) (Ζ _) U Ω Ω U [(2,.Ν [.sl true 0 [],.z (.string {data:=#[]}),.z (.string {data:=#[]}),.sl true 0 [],.sl true 0 [],J 0,J 0,J 0,J 0,.sl true 0 [],.sl true 0 [],.sl true 0 [],ZV false,.sl true 0 [],.sl true 0 []]),(3,.sl true 0 []),(4,J θ)] Ω ?_;exact W.ret ⟨_,U,.ε (.cons (.refl _) (.cons .nil (.cons (.refl _) .nil))),U⟩
 refine Κ (by simp[f]) ?_;subst f;have o:Wp g 0 P C=YQ g P C:=by unfold Wp;rw[if_pos U]
 have s:TX g 0 P C=VX g P C:=by unfold TX;rw[if_pos U]
 rw[o,s];refine ZO ?_;refine ZG (A:=[6]) Ο λm b=>Δ ?_;refine Τ.c (i.Mo U) (Zw.refl _) Ω Ω ?_;simp;(repeat (rw[Η];simp));apply b;refine υ λm b=>?_;refine Τ.d (K4 (i.work U) (i.XM U)) (Δ ?_);apply b;have u:=KX g P C (i.XM U);have n:XK g 0 P C=if YQ g P C=[] then 11 else 0:=by unfold XK;rw[if_neg Ω]
 rw[n];generalize YQ g P C=t at u;refine Φ ?_;cases t with
 | nil=>
  refine Ι Ω ?_;refine Φ ?_;refine W.cut 0 (Ζ _) [(2,.Ν (YC g P C)),(3,.sl true 0 []),(4,J 11)] (Ζ _) (λid r h=>I) (λp j=>?_) ?_
  .simp only[Yd,Vw,or_false] at j;rcases j with rfl|rfl|rfl
   .exact .π (Ζ _) U U (e:=VX g P C) U (by simp[Ψ.cells]) λx a a' k l=>by
     rw[V5] at k;have:(YC g P C)[x]?=some a:=k;rw[this] at l;cases l;exact .low ((show ∀a∈YC g P C,η 0 a by simp) a (ZH this))
   .exact .low (by simp[ι])
   .exact .low (by simp[ι])
  exact W.ret ⟨_,U,.ε (.cons (.refl _) (.cons .nil (.cons (.refl _) .nil))),U⟩
 | cons d t=>
  refine Κ Ω ?_;refine Φ ?_;refine W.cut 0 (Ζ _) [(2,.Ν (YC g P C)),(3,Ya (d::t)),(4,J 0)] (Ζ _) (λid r h=>I) (λp j=>?_) ?_
  .simp only[Yd,Vw,or_false] at j;rcases j with rfl|rfl|rfl
   .exact .π (Ζ _) U U (e:=VX g P C) U (by simp[Ψ.cells]) λx a a' k l=>by
     rw[V5] at k;have:(YC g P C)[x]?=some a:=k;rw[this] at l;cases l;exact .low ((show ∀a∈YC g P C,η 0 a by simp) a (ZH this))
   .exact .low (by simp[ι])
   .exact .low (by simp[ι])
  refine W.rt ?_;exact .of U
def nN (g:ZZ) (f:Α):ByteArray:=Xl ⟨#[32]⟩ (WA g f)
def yR (g:ZZ) (a:List (Α)):ByteArray×Int:=match a with
 | [f]=>(nN g f,0)
 | _=>(⟨#[]⟩,6)
def Pp (g:ZZ) (θ:Int) (P:List (List Z0)) (C:List (Α)):ByteArray×Int:=if XK g θ P C≠0 then(⟨#[]⟩,XK g θ P C) else yR g (YQ g P C)
theorem Jh {f:Α} (a:f∈YQ g P C):Wa g f:=by
 have e:=(To.1 a).1
 have h:∀d l,Wa g l->l.length+d<=3->∀f∈UN g.words.length d l,Wa g f:=by
  intro d
  induction d with
  | zero=>intro l c _ f a;simp[UN] at a;subst a;exact c
  | succ d i=>
   intro l c hd f a;simp only[UN,Yd,KI,VN] at a;rcases a with rfl|⟨n,j,a⟩
   .exact c
   .refine i _ ⟨by simp;omega,λx b=>?_⟩ (by simp;omega) f a;rcases Uv.1 b with b|b
    .exact c.has x b
    .simp at b;subst b;omega
 exact h 3 [] ⟨Ω,Ω⟩ Ω f e
end
section
variable {g:ZZ} {θ:Int} {P:List (List Z0)} {C:List (Α)}
theorem Jg (g:ZZ) (θ:Int) (P:List (List Z0)) (C:List (Α)):∃l,TX g θ P C=.Z6 l/\l.length=15/\(∀σ,l.all (Ψ.YW σ)=true)/\∀a∈l,η 0 a:=by
 unfold TX;split
 .exact⟨_,U,U,λσ=>Ω,Ω⟩
 .exact⟨_,U,U,λσ=>Ω,Ω⟩
theorem yQ (m:UM g θ P C):Τ prog 18 [YT g] (.ε [ZP (Pp g θ P C).1,J (Pp g θ P C).2]):=by
 have a:=Ji m;refine Μ.body Ο func18 U U ntmps18 U U Ω ?_;refine Φ ?_;by_cases b:XK g θ P C=0
 case neg=>
  have e:Pp g θ P C=(⟨#[]⟩,XK g θ P C):=by unfold Pp;rw[if_pos b]
  rw[e];obtain⟨l,u,v,w,y⟩:=Jg g θ P C;rw[u] at a;generalize XK g θ P C=B at b a;generalize Wp g θ P C=n at a;refine ZO ?_;refine ZG (A:=[4]) Ο λr i=>Δ ?_;refine Τ.c a (Zw.refl _) Ω (by simpa using y) ?_;simp
  repeat (rw[Η];simp[v,w])
  apply i;refine Φ ?_;refine Ι (by simp[b]) ?_;refine Φ ?_;refine W.drop (h:=0) (Ζ _) (Ζ _) Ω U [(2,ZP ⟨#[]⟩),(3,J B)] Ω ?_;refine W.rt ?_;exact .of U
 obtain⟨rfl,j⟩:=F' b;have D:TX g 0 P C=VX g P C:=by unfold TX;rw[if_pos U]
 have E:Wp g 0 P C=YQ g P C:=by unfold Wp;rw[if_pos U]
 rw[D,E,b] at a;have e:Pp g 0 P C=yR g (YQ g P C):=by unfold Pp;rw[if_neg (by simpa using b)]
 rw[e];have k:∀f∈YQ g P C,Wa g f:=λf d=>Jh d;have o:=KX g P C (m.XM U);generalize YQ g P C=n at j o a k;refine ZO ?_;refine ZG (A:=[4]) Ο λr i=>Δ ?_;refine Τ.c a (Zw.refl _) Ω Ω ?_;simp;(repeat (rw[Η];simp));apply i;refine Φ ?_;refine Κ Ω ?_;refine Φ ?_
 match n,j,o,k with
 | [],j,_,_=>exact absurd rfl j
 | f::f'::n,_,o,_=>
  refine Ι (by simp;omega) ?_;refine Φ ?_;refine W.drop (h:=0) (Ζ _) (Ζ _) Ω U [(2,ZP ⟨#[]⟩),(3,J 6)] Ω ?_;refine W.rt ?_;exact .of U
 | [f],_,_,k=>
  refine Κ Ω ?_;have d:=k f Ω
  repeat apply Γ
  refine W.draw (A:=[]) Ο mixed λr i=>VG ?_;refine XV (Τ.p (DO g P C f d) (Zw.refl _) Ω Ω) ?_;simp;(repeat (rw[Za];simp));try rw[YL]
  have s:=(m.work U).words
  have F:=DZ ⟨#[32]⟩ Z7 (WA g f) (by unfold WA;simpa using d.XM) (λx t=>⟨(Jt s d x t).1,by have:=(Jt s d x t).2;omega⟩);refine XV (Τ.p F (Zw.refl _) Ω Ω) ?_;simp;(repeat (rw[Za];simp));try rw[YL]
  refine Yn (i _ _ ?_);refine Φ ?_;refine W.drop (h:=0) (Ζ _) (Ζ _) Ω U [(2,ZP (Xl ⟨#[32]⟩ (WA g f))),(3,J 0)] Ω ?_;refine W.rt ?_;exact .of U
end
def YD (s:ByteArray) (k:Nat):ψ:=(List.range 18).map λi=>.z (.int .i32 (if i<k then((s.get! i).toNat:Int) else 0))
theorem SM (s:ByteArray) (k:Nat):(YD s k).length=18:=by simp[YD]
theorem NC (s:ByteArray) (k:Nat) (σ:Ρ):(YD s k).all (Ψ.YW σ)=true:=by simp[YD,Ψ.YW]
theorem VO (s:ByteArray) (k h:Nat):∀a∈YD s k,η h a:=λa b=>by
 obtain⟨i,_,rfl⟩:=Zh.1 b;exact .z _
theorem nM {s:ByteArray} {p:Nat} (a:p<18):(YD s p).take p++[.z (.int .i32 ((s.get! p).toNat:Int))]++(YD s p).drop (p+1)=YD s (p+1):=by
 rw[z7 (by rw[SM];exact a)];refine U' λi=>?_;by_cases hi:i<18
 .by_cases e:p=i
  .subst e;rw[Xs (by rw[SM];exact a)];simp[YD,a]
  .rw[Xj e];have b:(i<p)=(i<p+1):=by apply propext;omega
   simp[YD,hi,b]
 .rw[W4 (by simp[SM];omega),W4 (by simp[SM];omega)]
abbrev Vy (s:ByteArray):Ψ:=.Z6 (YD s s.size)
abbrev Ym (l:List ByteArray):Ψ:=.sl false 18 (l.map Vy)
def W5 (g:ZZ) (a:List (Α)):List ByteArray:=a.map (SP g)
def Tv (l:List ByteArray):Nat:=(l.map ByteArray.size).foldl max 0
theorem nL (l:List ByteArray) (s:ByteArray):Tv (l++[s])=max (Tv l) s.size:=by simp[Tv,Pf]
section
variable {g:ZZ} {P:List (List Z0)} {C:List (Α)}
theorem Dh (x:∀w∈g.words,Xm w=true) (b:List (Α)) (ah:b.length<=156) (L:∀f∈b,Wa g f):Τ prog 57 [VX g P C,Ya b] (.ε [Ym (W5 g b),J (Tv (W5 g b))]):=by
 refine Μ.body Ο func57 U U ntmps57 U U Ω ?_;refine Φ ?_;obtain⟨M,n⟩:∃M:Nat->Nat,∀j,M j=Tv (W5 g (b.take j)):=⟨_,λ_=>rfl⟩;obtain⟨R,k⟩:∃R:Nat->ψ,∀j,R j=(W5 g (b.take j)).map Vy:=⟨_,λ_=>rfl⟩;have N:∀j,j<=b.length->(R j).length=j:=λj H=>by rw[k];simp[W5];omega
 refine W.pad (σ':=[]) 114 18 U Ω [(2,.Ν (YC g P C)),(14,Ya b),(15,J b.length),(16,J 0),(6,.ms 0 0 0 0),(7,J 0)] (λp c=>by
  simp at c;rcases c with rfl|rfl|rfl|rfl|rfl|rfl<;>first|exact .same _|exact .nil) ?_
 refine W.iter (λj:Nat=>j<=b.length) (λj=>[(2,.Ν (YC g P C)),(14,Ya b),(15,J b.length),(16,J j),(6,.ms 0 j 0 j),(7,J (M j))]) (λj=>[.cells 114 18 (R j)]) (λj=>b.length-j) 0 (Ζ _) (by simp[k,W5]) (by simp[n,Tv,W5]) (λj H O=>?_);refine Φ ?_;by_cases l:j<b.length
 .refine Ι (by simp[l]) ?_;have Q:=N j H;have y:=L b[j] (Yq l);refine Ze l λm i=>?_;apply i;refine ZO ?_;refine ZG (A:=[10]) Ο λm i=>Δ ?_;apply i;refine υ λm i=>?_;refine Τ.d (DN g P C x b[j] y) (Δ ?_);apply i;obtain⟨t,o⟩:=Z' (SP g b[j]);have S:∀p,p<t.size->Vd t p=true:=λp c=>by rw[o] at c ⊢;exact zb x y c
  have ai:t.size<=18:=by rw[o];exact Jo x y
  rw[<-o];refine υ λm i=>?_;apply i;have T:YD t 0=List.replicate 18 (.z (.int .i32 0)):=rfl
  repeat apply Γ
  refine W.iter (λp:Nat=>p<=t.size) (λp=>[(2,.Ν (YC g P C)),(14,Ya b),(15,J b.length),(16,J j),(6,.ms 0 j 0 j),(7,J (M j)),(10,.π 1 1 0 0),(11,ZP t),(24,.it 2)]) (λp=>[.cells 114 18 (R j),.cells 114 18 [.Z6 (YD t p)],.str t p]) (λp=>t.size-p) 0 (Ζ _) (by rw[T];rfl) Ω (λp c V=>?_)
  repeat apply Γ
  by_cases B:p<t.size
  .have hd:=Jy (S p B)
   have u:=SM t p
   have X:p<18:=I
   have Y:List.take p (YD t p)++Ψ.z (.int .i32 ((t.get! p).toNat:Int))::List.drop (p+1) (YD t p)=YD t (p+1):=by simpa using nM (s:=t) X
   have Z:(p:Int)<18:=I
   have aa:p<=17:=I
   have ab:p+1<=18:=I;refine Z9 B ?_;refine Ι U ?_;rw[hd];refine Φ ?_;refine Ze (Ξ u (Ξ Z (Ξ aa (Ξ ab Y)))) λm i=>?_;apply i;refine Φ ?_;refine W.to (V (p+1) B I) U Ω
  .obtain rfl:p=t.size:=I
   refine Φ ?_;refine Κ U ?_;refine W.exit U ?_
   repeat apply Γ
   have u:=SM t t.size
   have ad:List.take 18 (YD t t.size)=YD t t.size:=Xb (by rw[u];exact ZY _)
   have ae:=NC t t.size
   have af:j<=4294967295:=I;refine ZG (A:=[35]) Ο λm i=>?_;simp;(repeat (rw[Η];simp[u,ad,ae,Q,af]));have K:W5 g (b.take (j+1))=W5 g (b.take j)++[t]:=by
    rw[o];unfold W5;rw[VW l,VV];rfl
   have D:R j++[.Z6 (YD t t.size)]=R (j+1):=by rw[k,k,K,VV];rfl
   have E:(if M j<t.size then(t.size:Int) else(M j:Int))=((M (j+1):Nat):Int):=by
    rw[n (j+1),K,nL,<-n];split<;>omega
   rw[D,E];apply i;clear i m;refine W.cut 1 (Ζ _) [(2,.Ν (YC g P C)),(14,Ya b),(15,J b.length),(16,J j),(6,.ms 0 (j+1) 0 (j+1)),(7,J (M (j+1)))] Ω (λid r aj ag=>?_) (λp c=>?_) ?_
   .obtain rfl:id=0:=I
    cases ag;intro e v a F;rw[k] at v;obtain⟨s,_,rfl⟩:=Zh.1 v;exact VO _ _ _ a F
   .simp at c;rcases c with rfl|rfl|rfl|rfl|rfl|rfl<;>exact .low (by simp[ι,SB])
   refine Φ ?_;refine W.to (O (j+1) l I) U (by simp[Y9 l (show b.length<2 ^ 62 by omega)])
 .refine Κ (by simp;omega) ?_;refine W.exit U ?_;refine Φ ?_;obtain rfl:j=b.length:=I;have D:R b.length=(W5 g b).map Vy:=by rw[k,Nu]
  have E:M b.length=Tv (W5 g b):=by rw[n,Nu]
  rw[D,E];refine W.cut 0 (Ζ _) [(4,Ym (W5 g b)),(5,J (Tv (W5 g b)))] (Ζ _) (λid r h=>I) (λp c=>?_) ?_
  .simp at c;rcases c with rfl|rfl
   .exact Y0.own (id:=0) (t:=114) (Ζ _) U (by simp[W5]) (λe v a F=>by
     obtain⟨s,_,rfl⟩:=Zh.1 v;exact VO _ _ _ a F)
   .exact .low (by simp[ι])
  refine W.rt ?_;exact .of U
end
end Go.TL
namespace Go.TL
open Go.IntWalk (i64_in)
open Go.IntKind (i64 u64)
open Go.Proofs.Tryz
open Go.Proofs
variable [Z1]
theorem NB (y:Int):∀a∈(YK y).cells,η 0 a:=by simp[Ψ.cells]
theorem nK (n:Int):Τ prog 203 [YK n] (ZV false):=by
 refine Μ.body Ο func203 U U ntmps203 U U Ω ?_;refine Φ ?_;refine W.rt ?_;exact .of U
theorem nJ (a b:Int):Τ prog 152 [YK a,YK b] (ZV (decide (a<b))):=by
 refine Μ.body Ο func152 U U ntmps152 U U Ω ?_;refine Φ ?_;refine υ λe c=>?_;refine Τ.d (nK a) (Δ ?_);apply c;refine Φ ?_;refine W.Y' ?_;rw[show decide (a<b)=decide (a<b) from rfl];rfl
theorem nI (d:Array (Int)) (n a b:Nat) (R:d.size=n) (ad:a<=b) (ae:b<=n) (af:n<2 ^ 40)  :
  Μ prog 146 [.ms 0 n 0 n,J a,J b] [.cells 21 1 (d.toList.map YK)] (λr s=>r=.ε []/\s=[.cells 21 1 ((Go.Sort.insertionSort (Go.Sort.ltInt) d a b).toList.map YK)]) (λ_ _=>False):=by
 refine Μ.body Ο func146 U U ntmps146 U U Ω ?_;refine Φ ?_;have S:=Yk (show a+1<2 ^ 62 by omega);refine W.iter (λq:Nat×Array (Int)=>q.2.size=n/\Go.Sort.insOuter (Go.Sort.ltInt) a b q.1 q.2=Go.Sort.insertionSort (Go.Sort.ltInt) d a b) (λq=>[(0,.ms 0 n 0 n),(1,J a),(2,J b),(6,J q.1)]) (λq=>[.cells 21 1 (q.2.toList.map YK)]) (λq=>b-q.1) (a+1,d) ⟨R,U⟩ U (by simpa using S) (λq hi E=>?_);obtain⟨i,e⟩:=q;obtain⟨F,v⟩:=hi;simp only at F v;refine Φ ?_;by_cases l:i<b
 .refine Ι (by simp[l]) ?_;refine Φ ?_;refine W.iter (λq:Nat×Array (Int)=>q.2.size=n/\q.1<=i/\Go.Sort.insInner (Go.Sort.ltInt) a q.1 q.2=Go.Sort.insInner (Go.Sort.ltInt) a i e) (λq=>[(0,.ms 0 n 0 n),(1,J a),(2,J b),(6,J i),(7,J q.1)]) (λq=>[.cells 21 1 (q.2.toList.map YK)]) (λq=>q.1) (i,e) ⟨F,ZY _,U⟩ U Ω (λq c T=>?_);obtain⟨j,f⟩:=q;obtain⟨k,V,w⟩:=c;simp only at k V w;have H:Go.Sort.insInner (Go.Sort.ltInt) a j f=f->Go.Sort.insOuter (Go.Sort.ltInt) a b (i+1) f=Go.Sort.insertionSort (Go.Sort.ltInt) d a b:=λhd=>by
   rw[<-v,<-hd,w];conv=>rhs;rw[Go.Sort.insOuter,if_pos l]
  obtain⟨L,g⟩:=Z' (f.toList.map YK);have K:L.length=n:=by rw[g];simpa using k
  refine W.to (σ':=[.cells 21 1 L]) (env':=[(0,.ms 0 n 0 n),(1,J a),(2,J b),(6,J i),(7,J j)]) ?_ (by rw[g]) Ω
  repeat apply Γ
  by_cases c:a<j
  .obtain⟨p,M⟩:∃p,j=p+1:=⟨j-1,I⟩;have B:i64.wrap ((j:Int)-1)=(p:Int):=by have:=Yk (show p<2 ^ 62 by omega);rw[M];simpa using this
   have N:j<n:=I
   have O:p<n:=I
   have X:¬j=p:=I;obtain⟨x,m⟩:=Z' (f[j]!);obtain⟨y,o⟩:=Z' (f[p]!);have C:L[j]?=some (YK x):=by rw[g,m,Ys,Xr,R3 I];rfl
   have D:L[p]?=some (YK y):=by rw[g,o,Ys,Xr,R3 I];rfl
   have P:∀h:j<L.length,L[j]=YK x:=λh=>by have:=C;rw[Z4 h] at this;exact WU this
   have Q:∀h:p<L.length,L[p]=YK y:=λh=>by have:=D;rw[Z4 h] at this;exact WU this
   have t:Go.Sort.insInner (Go.Sort.ltInt) a j f=if Go.Sort.ltInt x y=true then Go.Sort.insInner (Go.Sort.ltInt) a p (Go.Sort.swp f j p) else f:=by
    subst M;rw[Go.Sort.insInner,m,o];simp[c]
   have Y:(Go.Sort.swp f j p).toList.map YK=(L.set j (YK y)).set p (YK x):=by rw[g,m,o];simp[Go.Sort.swp]
   have sz:(Go.Sort.swp f j p).size=n:=by simp[Go.Sort.swp,k]
   have Z:=g;clear m o;refine W.draw (A:=[]) Ο mixed λag aa=>Ua (Ξ c (Ξ B (Ξ K (Ξ N (Ξ O (Ξ C (Ξ D (Ξ P Q)))))))) ?_;refine XV (Τ.p (nJ x y) (Zw.refl _) Ω Ω) ?_;simp;(repeat (rw[Za];simp));try rw[YL]
   refine Yn (aa _ _ ?_);by_cases u:x<y
   .refine Ι (by simp[u]) ?_
    repeat apply Γ
    refine WX (Ξ c (Ξ B (Ξ K (Ξ N (Ξ O (Ξ C (Ξ D (Ξ P (Ξ Q X))))))))) ?_;refine Φ ?_;refine W.to (T (p,Go.Sort.swp f j p) ⟨sz,by simp;omega,?_⟩ (by simp;omega)) ?_ ?_
    .rw[<-w,t,if_pos (by simp[Zm,Go.Sort.ltInt,u])]
    .rw[Y]
    .simp[B]
   .refine Κ (by simp[u]) ?_;refine W.exit U ?_;refine Φ ?_;refine W.to (E (i+1,f) ⟨k,H (by rw[t,if_neg (by simp[Zm,Go.Sort.ltInt,u])])⟩ (by simp;omega)) (by rw[Z]) ?_;have:=Yk (show i+1<2 ^ 62 by omega);simpa using this
  .have t:Go.Sort.insInner (Go.Sort.ltInt) a j f=f:=by
    cases j with
    | zero=>rfl
    | succ p=>rw[Go.Sort.insInner];simp[c]
   refine WX c ?_;refine Κ U ?_;refine W.exit U ?_;refine Φ ?_;refine W.to (E (i+1,f) ⟨k,H t⟩ (by simp;omega)) (by rw[g]) ?_;have:=Yk (show i+1<2 ^ 62 by omega);simpa using this
 .refine Κ (by simp[l]) ?_;refine W.exit U ?_;have ab:Go.Sort.insOuter (Go.Sort.ltInt) a b i e=e:=by rw[Go.Sort.insOuter,if_neg l]
  exact W.nil ⟨_,U,U,by rw[<-v,ab]⟩
theorem nH (d:Array (Int)) (n f:Nat) (g:d.size=n) (k:n<=12)  :
  Μ prog 102 [.ms 0 n 0 n,J 0,J n,J f] [.cells 21 1 (d.toList.map YK)] (λr s=>r=.ε []/\s=[.cells 21 1 ((Go.Sort.insertionSort (Go.Sort.ltInt) d 0 n).toList.map YK)]) (λ_ _=>False):=by
 refine Μ.body Ο func102 U U ntmps102 U U Ω ?_;have h:=Yk (show n<2 ^ 62 by omega);have l:(n:Int)<=12:=I;refine Φ ?_;refine .loop ?_;refine Z9 h ?_;refine Ι (by simp;omega) ?_;refine υ λm i=>?_;refine Μ.one (nI d n 0 n g (Ζ _) (ZY _) I) 0 U (λe b a c=>by
  obtain⟨y,j,rfl⟩:=Zh.1 b;exact NB y a c) (λe b a c=>by
  obtain⟨y,j,rfl⟩:=Zh.1 b;exact NB y a c) (by simp[T9,OT]) (by simp[WR]) (by simp[T8,OS]) ?_
 simp[X5,V1];(repeat (rw[Η];simp));apply i;exact W.ret ⟨_,U,U,U⟩
theorem nG (d:Array (Int)) (n:Nat) (b:d.size=n) (g:n<=12)  :
  Μ prog 58 [.ms 0 n 0 n] [.cells 21 1 (d.toList.map YK)] (λr s=>r=.ε []/\s=[.cells 21 1 ((Go.Sort.insertionSort (Go.Sort.ltInt) d 0 n).toList.map YK)]) (λ_ _=>False):=by
 refine Μ.body Ο func58 U U ntmps58 U U Ω ?_;have h:=Yk (show n<2 ^ 62 by omega);have i:u64.wrap (n:Int)=n:=by unfold IntKind.wrap;simp[IntKind.bits,IntKind.signed];omega
 refine Z9 b ?_;(repeat apply Γ);refine YF λl j=>?_;simp;(repeat (rw[Η];simp[b,h,i]));refine Τ.d (NU n I) (Δ ?_);refine Μ.one (nH d n (Go.Sort.bitsLen n) b g) 0 U (λe c a f=>by
  obtain⟨y,k,rfl⟩:=Zh.1 c;exact NB y a f) (λe c a f=>by
  obtain⟨y,k,rfl⟩:=Zh.1 c;exact NB y a f) (by simp[T9,OT]) (by simp[WR]) (by simp[T8,OS]) ?_
 simp[X5,V1];(repeat (rw[Η];simp));apply j;exact W.nil ⟨_,U,U,U⟩
theorem F9 {f:Α} {L:ψ} (a:L=f.map YK) {j:Nat} {x:Int} (h:f[j]?=some x):L[j]?=some (YK x)/\∀h:j<L.length,L[j]=YK x:=by
 have e:L[j]?=some (YK x):=by rw[a,Ys,h];rfl
 exact⟨e,λb=>by rw[Z4 b] at e;exact WU e⟩
theorem nF (l:Α) (n:Nat) (d:l.length=n) (aE:n<2 ^ 40):Μ prog 59 [.ms 0 n 0 n] [.cells 21 1 (l.map YK)]
  (λr s=>∃ab:Α,(Yf l++ab).length=n/\r=.ms 0 n 0 (Yf l).length/\s=[.cells 21 1 ((Yf l++ab).map YK)]) (λ_ _=>False):=by
 refine Μ.body Ο func59 U U ntmps59 U U Ω ?_;by_cases t:(n:Int)<2
 .refine Z9 (Ξ d t) ?_;refine Ι U ?_;refine Z9 d ?_;refine W.ret ⟨_,U,[],?_⟩;have e:Yf l=l:=by
   match l,d with
   | [],_=>rfl
   | [a],_=>rfl
   | a::b::l,d=>simp at d;omega
  rw[e,Ug,d];exact⟨U,U,U⟩
 refine Z9 (Ξ d t) ?_;refine Κ U ?_;refine Φ ?_;refine W.iter (λk:Nat=>1<=k/\k<=n/\Yf (l.take k)=l.take k) (λk=>[(0,.ms 0 n 0 n),(3,J k)]) (λ_=>[.cells 21 1 (l.map YK)]) (λk=>n-k) 1 ⟨ZY _,I,by
  match l,d with
  | [],d=>rfl
  | a::l,d=>rfl⟩ rfl Ω (λk ak al=>?_)
 obtain⟨aF,c,H⟩:=ak;refine Z9 d ?_;by_cases C:k<n
 .refine Ι (by simp[C]) ?_
  repeat apply Γ
  obtain⟨p,ad⟩:∃p,k=p+1:=⟨k-1,I⟩;have am:i64.wrap ((k:Int)-1)=(p:Int):=by have:=Yk (show p<2 ^ 62 by omega);rw[ad];simpa using this
  have an:p<n:=I
  have P:k<l.length:=I
  have ao:p<l.length:=I;obtain⟨L,h⟩:=Z' (l.map YK);have K:L.length=n:=by rw[h];simpa using d
  obtain⟨Q,R⟩:=F9 h (Z4 P);obtain⟨S,T⟩:=F9 h (Z4 ao);refine W.to (σ':=[.cells 21 1 L]) (env':=[(0,.ms 0 n 0 n),(3,J k)]) ?_ (by rw[h]) Ω;generalize V:l[k]=x at Q R;generalize ap:l[p]=y at S T;refine WX (Ξ C (Ξ am (Ξ K (Ξ an (Ξ Q (Ξ R (Ξ S T))))))) ?_;have ae:Yf (l.take (k+1))=Yf (l.take k)++if x=y then [] else [x]:=by
   rw[Hc l I P I];simp only[ad,Nat.add_sub_cancel] at V ⊢;rw[V,ap]
  by_cases N:x=y
  .refine Ι (by simp[N]) ?_
   repeat apply Γ
   refine W.S4 (A:=[]) Ο [(0,.ms 0 n 0 n),(3,J k),(4,.ms 0 n k (n-k))] [.cells 21 1 L] ?_ (by
    (try simp);(repeat (rw[Η];simp[K,RG C]));(try simp[K,RG C]))
   refine Φ ?_;have af:Yf (l.take (k+1))=l.take k:=by rw[ae,if_pos N,Ug,H]
   refine W.iter (λq:Nat×Nat×Α=>1<=q.2.1/\k+q.2.1<=n/\q.2.2.length=n/\q.1<k+q.2.1/\q.1=(Yf (l.take (k+q.2.1))).length/\q.2.2.take q.1=Yf (l.take (k+q.2.1))/\∀j,k+q.2.1-1<=j->j<n->q.2.2[j]?=l[j]?)
    (λq=>[(0,.ms 0 n 0 n),(3,J q.1),(4,.ms 0 n k (n-k)),(5,J q.2.1)]) (λq=>[.cells 21 1 (q.2.2.map YK)]) (λq=>n-q.2.1) (k,1,l) ⟨ZY _,by simp;omega,d,Ω,by simp only[af];simp;omega,by simp only[af],λj _ _=>rfl⟩ (by rw[h]) Ω (λq aq ag=>?_)
   obtain⟨m,c,f⟩:=q;obtain⟨c1,c2,i,ar,D,E,F⟩:=aq;simp only at c1 c2 i ar D E F;clear h K Q R S T;refine Z9 i ?_;by_cases hd:c<n-k
   .have aG:(c:Int)<((n-k:Nat):Int):=I
    refine Ι (by simp[hd]) ?_
    repeat apply Γ
    obtain⟨o,au⟩:∃r,c=r+1:=⟨c-1,I⟩;have av:i64.wrap ((c:Int)-1)=(o:Int):=by have:=Yk (show o<2 ^ 62 by omega);rw[au];simpa using this
    have aw:o<n-k:=I;obtain⟨M,w⟩:=Z' (f.map YK);have X:M.length=n:=by rw[w];simpa using i
    have ah:f[k+c]?=some (l[k+c]'I):=by rw[F _ I I,Z4]
    have hv:f[k+o]?=some (l[k+o]'I):=by rw[F _ I I,Z4]
    have g:=Hc l (p:=k+c) I I I
    have ax:l[k+c-1]'I=l[k+o]'I:=by congr 1;omega
    rw[ax] at g;generalize l[k+c]'I=u at ah g;generalize l[k+o]'I=v at hv g;obtain⟨Y,Z⟩:=F9 w ah;obtain⟨ay,az⟩:=F9 w hv;refine W.to (σ':=[.cells 21 1 M]) (env':=[(0,.ms 0 n 0 n),(3,J m),(4,.ms 0 n k (n-k)),(5,J c)]) ?_ (by rw[w]) Ω;have B:m<n:=I;refine W.draw (A:=[]) Ο mixed λaH aA=>?_;simp;(repeat (rw[Za];simp[hd,av,aw,X,Y,Z,ay,az]));try rw[YL];refine Yn (aA _ _ ?_)
    by_cases O:u=v
    .refine Κ (by simp[O]) ?_;refine Φ ?_;rw[if_pos O,Ug] at g;refine W.to (ag (m,c+1,f) ⟨Ω,by simp;omega,i,by simp;omega,by simp only[<-U9,g];exact D,by simp only[<-U9,g];exact E,λj aa t=>F j (by simp at aa;omega) t⟩ (by simp;omega)) (by rw[w]) ?_;have:=Yk (show c+1<2 ^ 62 by omega);simpa using this
    .refine Ι (by simp[O]) ?_;rw[if_neg O] at g
     repeat apply Γ
     refine W.S4 (A:=[]) Ο [(0,.ms 0 n 0 n),(3,J m),(4,.ms 0 n k (n-k)),(5,J c)] [.cells 21 1 ((f.set m u).map YK)] ?_ (by
      (try simp);(repeat (rw[Η];simp[hd,X,B,Y,Z]));(try simp[hd,X,B,Y,Z]);subst w;simp)
     refine Φ ?_;refine W.to (ag (m+1,c+1,f.set m u) ⟨Ω,by simp;omega,by simpa using i,by simp;omega,by simp only[<-U9,g];simp;exact D,?_,λj aa t=>?_⟩ (by simp;omega)) Ω ?_
     .simp only[<-U9,g];rw[<-E,VW (by simp;omega),List.take_set_of_le (ZY _)];simp
     .simp at aa;rw[Xj I];exact F j I t
     .have ai:=Yk (show c+1<2 ^ 62 by omega)
      have aj:=Yk (show m+1<2 ^ 62 by omega);simp at ai aj ⊢;exact⟨aj,ai⟩
   .refine Κ (by simp[hd]) ?_;refine W.exit U ?_;have aB:k+c=n:=I;have aC:l.take n=l:=Xb I;rw[aB,aC] at D E
    repeat apply Γ
    have B:m<=n:=I;refine W.S4 (A:=[]) Ο [(0,.ms 0 n 0 n),(3,J m)] [.cells 21 1 ((Yf l++List.replicate (n-m) 0).map YK)] ?_ (by
     (try simp);(repeat (rw[Η];simp[i,B]));(try simp[i,B]);rw[<-Qc,E,Qf (by simp;omega),Ug])
    have aD:(Yf l).length+(n-m)=n:=I;refine Z9 (Ξ aD B) ?_;refine W.ret ⟨_,U,List.replicate (n-m) 0,by simp;omega,?_,Ω⟩;rw[<-D];rfl
  .refine Κ (by simp[N]) ?_;refine Φ ?_;refine W.to (al (k+1) ⟨I,I,?_⟩ I) (by rw[h]) ?_
   .rw[ae,if_neg N,H,<-V,<-VW P]
   .have:=Yk (show k+1<2 ^ 62 by omega);simpa using this
 .refine Κ (by simp[C]) ?_;refine W.exit U ?_;refine Φ ?_;refine W.ret ⟨_,U,[],?_⟩;have e:Yf l=l:=by rw[Xb I] at H;exact H
  rw[e,Ug,d];exact⟨U,U,U⟩
end Go.TL
