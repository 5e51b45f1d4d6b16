import Derived.Test.YtlabjopijpkiaaaGreatGAJ
set_option maxHeartbeats 16000000
set_option maxRecDepth 20000
set_option linter.unusedSectionVars false
set_option linter.unusedSimpArgs false
set_option linter.unusedVariables false
namespace Go.TL
open Go.Proofs
variable [ZS]
theorem u6 {l:List Int} (h:Xf l=0):∀x∈l,x=0:=by
 induction l with
 | nil=>simp
 | cons e l c=>
  unfold Xf at h;by_cases a:e=0
  .rw[if_pos a] at h;intro x b;rcases YZ.1 b with rfl|b
   .exact a
   .exact c h x b
  .rw[if_neg a] at h;exact absurd h a
theorem Md {f:Nat->Int} {n:Nat} (h:Xf ((List.range n).map f)=0):∀i,i<n->f i=0:=λi hi=>
 u6 h _ (YK.2 ⟨i,UY.2 hi,rfl⟩)
theorem HD:∀a<26,∀b<26,V2 ⟨#[UInt8.ofNat (97+a)]⟩ ⟨#[UInt8.ofNat (97+b)]⟩=decide (a<=b):=by decide +kernel
theorem HC {n:ByteArray} (h:Ve n=false):∃a,a<26/\n=⟨#[UInt8.ofNat (97+a)]⟩:=by
 obtain⟨b,rfl,c,d⟩:=u7 h;refine⟨b.toNat-97,U,?_⟩;rw[show 97+(b.toNat-97)=b.toNat by omega,UInt8.ofNat_toNat]
theorem u5 {a b c:ByteArray} (g:Ve a=false) (h:Ve b=false) (i:Ve c=false) (j:V2 b a=false) (k:V2 c b=false):V2 c a=false:=by
 obtain⟨x,d,rfl⟩:=HC g;obtain⟨y,e,rfl⟩:=HC h;obtain⟨z,f,rfl⟩:=HC i;rw[HD y e x d,decide_eq_false_iff_not] at j;rw[HD z f y e,decide_eq_false_iff_not] at k;rw[HD z f x d,decide_eq_false_iff_not];omega
theorem u4 {l:List Xp} (h:Wo l=0):Sw l:=by
 unfold Wo at h;by_cases o:l.length=0
 .rw[if_pos o] at h;cases h
 rw[if_neg o] at h;by_cases p:6<l.length
 .rw[if_pos p] at h;cases h
 rw[if_neg p] at h;have s:=Md h;have b:∀i (hi:i<l.length),Ve l[i].name=false/\¬(0<i/\V2 l[i].name ((l[i-1]?.map (·.name)).getD ⟨#[]⟩)=true)/\¬(l[i].ZG<1\/63<l[i].ZG)/\(l.take i).any (λx=>x.ZG==l[i].ZG)=false:=λi hi=>by
  have a:=s i hi;unfold VJ at a;rw[ε hi] at a;simp only at a;cases r:Ve l[i].name
  .rw[r,if_neg J] at a;by_cases c:0<i/\V2 l[i].name ((l[i-1]?.map (·.name)).getD ⟨#[]⟩)=true
   .rw[if_pos c] at a;cases a
   rw[if_neg c] at a;by_cases f:l[i].ZG<1\/63<l[i].ZG
   .rw[if_pos f] at a;cases a
   rw[if_neg f] at a;cases t:(l.take i).any (λx=>x.ZG==l[i].ZG)
   .exact⟨rfl,c,f,rfl⟩
   .rw[t,if_pos rfl] at a;cases a
  .rw[r,if_pos rfl] at a;cases a
 refine⟨U,U,λg u=>?_,?_,?_⟩
 .obtain⟨i,hi,rfl⟩:=T0 u;obtain⟨v,_,D,_⟩:=b i hi;exact⟨v,U,U⟩
 .refine S4.2 λi j hi m w=>?_;have next:∀k (a:k+1<l.length),V2 l[k+1].name (l[k]'U).name=false:=λk a=>by
   obtain⟨_,n,_⟩:=b (k+1) a;rw[Nat.add_sub_cancel,ε U] at n;simp only[Option.map_some,Option.getD_some] at n;cases y:V2 l[k+1].name (l[k]'U).name
   .rfl
   .exact absurd ⟨U,y⟩ n
  have A:∀d (hd:i+d+1<l.length),V2 l[i+d+1].name l[i].name=false:=λd=>by
   induction d with
   | zero=>intro hd;exact next i hd
   | succ d B=>intro hd;exact u5 (b i U).1 (b (i+d+1) U).1 (b (i+(d+1)+1) hd).1 (B U) (next (i+d+1) hd)
  obtain⟨d,rfl⟩:∃d,j=i+d+1:=⟨j-i-1,U⟩;exact A d m
 .refine S4.2 λi j hi m w e=>?_;obtain⟨_,_,_,C⟩:=b j m;have:=Q7.1 C l[i] (L9.2 ⟨i,U,rfl⟩);simp[e] at this
theorem u3 {l:List Int} (h:∀k (e:k+1<l.length),l[k]'U<l[k+1]):l.Pairwise (· < ·):=by
 refine S4.2 λi j hi a f=>?_;have b:∀d (hd:i+d+1<l.length),l[i]<l[i+d+1]:=λd=>by
  induction d with
  | zero=>intro hd;exact h i hd
  | succ d c=>intro hd;exact Int.lt_trans (c U) (h (i+d+1) hd)
 obtain⟨d,rfl⟩:∃d,j=i+d+1:=⟨j-i-1,U⟩;exact b d a
theorem u2 {L:List (List Int)} (h:Wn L=0):NA L:=by
 unfold Wn at h;by_cases g:L.length=0
 .rw[if_pos g] at h;cases h
 rw[if_neg g] at h;by_cases m:4<L.length
 .rw[if_pos m] at h;cases h
 rw[if_neg m] at h;have t:=Md (f:=λi=>Ru ((L[i]?).getD [])) h;refine⟨U,U,λl u=>?_⟩;obtain⟨i,hi,rfl⟩:=T0 u;have c:=t i hi;simp only[ε hi,Option.getD_some] at c;have v:=Md (f:=Tj L[i]) c;generalize L[i]=l at *;have one:∀j (b:j<l.length),Xo l[j]=true/\¬(0<j/\l[j]<=(l[j-1]?).getD 0):=λj b=>by
  have e:=v j b;unfold Tj at e;rw[ε b] at e;simp only at e;cases o:Xo l[j]
  .rw[o,if_pos rfl] at e;cases e
  rw[o,if_neg J] at e;by_cases p:0<j/\l[j]<=(l[j-1]?).getD 0
  .rw[if_pos p] at e;cases e
  exact⟨rfl,p⟩
 have r:l.Pairwise (· < ·):=u3 λk c=>by
  have:=(one (k+1) c).2;rw[ε U,Option.getD_some] at this;exact Int.not_le.1 λq=>this ⟨U,q⟩
 have s:∀x∈l,0<=x/\x<3:=λx d=>by
  obtain⟨j,b,rfl⟩:=T0 d;have:=(one j b).1;unfold Xo at this;simp at this;omega
 exact⟨u' (n:=3) (a:=0) r (λx d=>by have:=s x d;omega),r,s⟩
theorem u1 {s:ο} {c:List Y9} (h:VI s c=0):PI s.Β.length c:=by
 unfold VI at h;by_cases b:4<c.length
 .rw[if_pos b] at h;cases h
 rw[if_neg b] at h;have o:=Md (f:=λi=>match c[i]? with|none=>0|some p=>X6 s (c.take i) p) h;have one:∀i (hi:i<c.length),(0<=c[i].Zb/\c[i].Zb<s.Β.length)/\(c.take i).any (λx=>x.Zb==c[i].Zb)=false/\(valid c[i].seen=true/\valid c[i].bare=true)/\V0 c[i].seen c[i].bare=0:=λi hi=>by
  have e:=o i hi;rw[ε hi] at e;simp only at e;unfold X6 at e;by_cases d:c[i].Zb<0\/(s.Β.length:Int)<=c[i].Zb
  .rw[if_pos d] at e;cases e
  rw[if_neg d] at e;cases g:(c.take i).any (λx=>x.Zb==c[i].Zb)
  .rw[g,if_neg J] at e;by_cases a:valid c[i].seen=false\/valid c[i].bare=false
   .rw[if_pos a] at e;cases e
   rw[if_neg a] at e;by_cases k:V0 c[i].seen c[i].bare=0
   .refine⟨U,rfl,?_,k⟩;cases r:valid c[i].seen<;>cases t:valid c[i].bare<;>simp[r,t] at a ⊢
   .rw[if_neg k] at e;cases e
  .rw[g,if_pos rfl] at e;cases e
 refine⟨U,?_,λp u=>?_⟩
 .refine S4.2 λi j hi l y e=>?_;simp only[Yb] at hi l;simp only[List.getElem_map] at e;have:=Q7.1 (one j l).2.1 c[i] (L9.2 ⟨i,U,rfl⟩);simp[e] at this
 .obtain⟨i,hi,rfl⟩:=T0 u;obtain⟨v,_,⟨m,n⟩,w⟩:=one i hi;unfold valid at m n;simp at m n;exact⟨v,U,U,w⟩
theorem Dz {s:ο} (h:s.err=0):S7 s:=by
 unfold ο.err at h;by_cases g:Wo s.Κ=0
 .rw[if_neg (λq=>q g)] at h;by_cases l:Wn s.Β=0
  .rw[if_neg (λq=>q l)] at h;unfold TH at h;by_cases a:4<s.cells.length
   .rw[if_pos a] at h;cases h
   rw[if_neg a] at h;have b:=Md (f:=λi=>VI s ((s.cells[i]?).getD [])) h;refine⟨u4 g,u2 l,U,λc d=>?_⟩;obtain⟨i,hi,rfl⟩:=T0 d;have:=b i hi;simp only[ε hi,Option.getD_some] at this;exact u1 this
  .rw[if_pos l] at h;exact absurd h l
 .rw[if_pos g] at h;exact absurd h g
theorem uZ (s:ο) (T:s.small) (m r:List Int) (c:Int) (hi:m.length<2 ^ 62) (ad:r.length<2 ^ 62):Ν Tryz.prog 45 [Zd s,κ R 1 m,κ R 1 r,R c] (Ew (U3 s m r c)):=by
 refine Δ.body Τ Tryz.func45 rfl rfl Tryz.ntmps45 rfl rfl J ?_;refine Φ ?_;refine ZB λV v=>?_;refine Ν.d (HL s T) (Z1 ?_);apply v;refine Φ ?_;by_cases t:s.err=0
 case neg=>
  have e:U3 s m r c=(0,s.err):=by unfold U3;rw[if_pos t]
  rw[e];generalize s.err=aA at t;refine υ (by simp[t]) ?_;refine Φ ?_;refine W.rt ?_;exact .refl _
 have X:=Dz t
 have aB:=X.Κ.hi
 have aC:=X.Β.hi;rw[t];refine χ J ?_;by_cases H:m.length=2/\r.length=2
 case neg=>
  have e:U3 s m r c=(0,8):=by
   unfold U3;rw[if_neg (λh=>h t)];split
   .exact absurd ⟨rfl,rfl⟩ H
   .rfl
  rw[e]
  repeat apply Ζ
  refine W.Xv (A:=[]) Τ [(24,ZQ true)] [] ?_ (by
   by_cases C:m.length=2
   .have I:¬r.length=2:=λh=>H ⟨C,h⟩
    have Y:¬(r.length:Int)=2:=U
    have w:(m.length:Int)=2:=U;(try simp);(repeat (rw[Μ];simp[w,Y]));(try simp[w,Y])
   .have w:¬(m.length:Int)=2:=U
    (try simp);(repeat (rw[Μ];simp[w]));(try simp[w]))
  refine υ rfl ?_;refine Φ ?_;refine W.rt ?_;exact .refl _
 obtain⟨C,I⟩:=H;obtain⟨j,l,rfl⟩:∃a b,m=[a,b]:=by
  match m,C with
  | [a,b],_=>exact⟨a,b,rfl⟩
 obtain⟨o,l1,rfl⟩:∃a b,r=[a,b]:=by
  match r,I with
  | [a,b],_=>exact⟨a,b,rfl⟩
 clear C I hi ad;have ae:U3 s [j,l] [o,l1] c=if Xo j=false\/Xo l=false\/s.XZ o=true\/s.XZ l1=true\/c<0\/(s.Β.length:Int)<=c then(0,3) else if j<=l then(0,5) else(s.Yd (j,l) (o,l1) c.toNat,0):=by
  unfold U3;rw[if_neg (λh=>h t)]
 rw[ae];have af:IntKind.i64.wrap ((s.Κ.length:Int)-1)=(s.Κ.length:Int)-1:=IntWalk.i64_in _ U;have Z:IntKind.i64.wrap ((s.Β.length:Int)-1)=(s.Β.length:Int)-1:=IntWalk.i64_in _ U;have ag:∀n,Ν Tryz.prog 97 [R n,R 0,R 2] (ZQ (Xo n)):=λn=>Qr n 0 2;have ah:∀n,Ν Tryz.prog 97 [R n,R (-1),R ((s.Κ.length:Int)-1)] (ZQ (!s.XZ n)):=λn=>by
  have h:=Qr n (-1) ((s.Κ.length:Int)-1);rw[show(decide (-1<=n)&&decide (n<=(s.Κ.length:Int)-1)) = !s.XZ n by
   unfold ο.XZ;rw[PA];simp;omega] at h
  exact h
 have ai:=Qr c 0 ((s.Β.length:Int)-1);refine Φ ?_;refine χ J ?_;refine Φ ?_;refine W.iter (λk:Nat=>k<=2/\(1<=k->Xo j=true/\s.XZ o=false)/\(2<=k->Xo l=true/\s.XZ l1=false)) (λk=>[(1,κ R 1 [j,l]),(2,κ R 1 [o,l1]),(3,R c),(4,ZW s),(11,R k)]) (λ_=>[]) (λk=>2-k) 0 ⟨U,U,U⟩ rfl J (λk aj D=>?_);obtain⟨aD,E,ak⟩:=aj;by_cases u:k<2
 .have x:(k:Int)<2:=U
  have aa:=Qp (i:=k) U;obtain⟨a,f⟩:∃a,[j,l][k]?=some a:=⟨_,ε (by simpa using u)⟩;obtain⟨b,g⟩:∃b,[o,l1][k]?=some b:=⟨_,ε (by simpa using u)⟩;have K:(Xo a=false\/s.XZ b=true)->(Xo j=false\/Xo l=false\/s.XZ o=true\/s.XZ l1=true\/c<0\/(s.Β.length:Int)<=c):=λh=>by
   match k,u,f,g with
   | 0,_,f,g=>simp at f g;subst f;subst g;rcases h with h|h<;>simp[h]
   | 1,_,f,g=>simp at f g;subst f;subst g;rcases h with h|h<;>simp[h]
  have L:Xo a=true->s.XZ b=false->(1<=k+1->Xo j=true/\s.XZ o=false)/\(2<=k+1->Xo l=true/\s.XZ l1=false):=λy B=>by
   match k,u,f,g,E with
   | 0,_,f,g,_=>simp at f g;subst f;subst g;exact⟨λ_=>⟨y,B⟩,U⟩
   | 1,_,f,g,E=>simp at f g;subst f;subst g;exact⟨λ_=>E U,λ_=>⟨y,B⟩⟩
  have Xh:=ag a
  have Xg:=ah b;obtain⟨M,N⟩:=Z8 ([j,l]);obtain⟨O,P⟩:=Z8 ([o,l1]);have al:M.length=2:=by rw[N];rfl
  have am:O.length=2:=by rw[P];rfl
  rw[<-N] at f D ⊢;rw[<-P] at g D ⊢;clear N P;have an:∀h,M[k]'h=a:=λh=>by rw[ε h] at f;exact WM f
  have ao:∀h,O[k]'h=b:=λh=>by rw[ε h] at g;exact WM g
  obtain⟨p,ap⟩:=Z8 (Xo a);obtain⟨q,aq⟩:=Z8 (s.XZ b);rw[<-ap] at Xh K L;rw[<-aq] at Xg K L;refine μ x ?_;refine υ J ?_
  repeat apply Ζ
  refine W.S8 (A:=[]) Τ mixed [(46,ZQ (!p||q)),(1,κ R 1 M),(2,κ R 1 O),(3,R c),(4,ZW s),(11,R k)] [] ?_ (by
   simp;(repeat (rw[Zf];simp[f,an,al,x,u]));(try rw[Zg]);refine Yl (Ν.p Xh (ZZ.refl _) J J) ?_;cases p
   .simp;(repeat (rw[Zf];simp));(try rw[Zg]);refine⟨Ym (by kernel_rfl),?_⟩;simp
   .simp;(repeat (rw[Zf];simp[g,ao,am,x,u,af]));(try rw[Zg]);refine Yl (Ν.p Xg (ZZ.refl _) J J) ?_;simp;(repeat (rw[Zf];simp));(try rw[Zg]);refine⟨Ym (by kernel_rfl),?_⟩;simp)
  by_cases h:p=false\/q=true
  .rw[if_pos (K h)];refine υ (by rcases h with h|h<;>simp[h]) ?_;refine Φ ?_;refine W.rt ?_;exact .refl _
  .have y:p=true:=by cases p<;>simp_all
   have B:q=false:=by cases q<;>simp_all
   refine χ (by simp[y,B]) ?_;refine μ aa ?_;obtain⟨ar,au⟩:=L y B;exact W.to (D (k+1) ⟨U,ar,au⟩ U) rfl (by simp[aa])
 have x:¬(k:Int)<2:=U;obtain⟨av,Q⟩:=E U;obtain⟨aw,S⟩:=ak U;clear D;refine μ x ?_;refine χ J ?_;refine W.exit rfl ?_;refine XM Z λV v=>?_;refine Ν.d (ai) (Xx Z ?_);apply v;by_cases ax:c<0\/(s.Β.length:Int)<=c
 .rw[if_pos (by rcases ax with h|h<;>simp[h])];refine υ (by simp;omega) ?_;refine Φ ?_;refine W.rt ?_;exact .refl _
 rw[if_neg (by rw[av,Q,aw,S];simp;omega)];refine χ (by simp;omega) ?_
 repeat apply Ζ
 refine QE ?_;by_cases F:j<=l
 .rw[if_pos F];refine υ (by simp[F]) ?_;refine Φ ?_;refine W.rt ?_;exact .refl _
 rw[if_neg F];refine χ (by simp[F]) ?_;have ay:o<s.Κ.length:=by unfold ο.XZ at Q;simp at Q;omega
 have az:l1<s.Κ.length:=by unfold ο.XZ at S;simp at S;omega
 have ab:=vm s T (j,l) (o,l1) c.toNat U ay az;rw[show((c.toNat:Nat):Int)=c by omega] at ab;refine ZB λV v=>?_;refine Ν.d (ab) (Z1 ?_);apply v;refine W.rt ?_;exact .refl _
def PH:List Int:=[1,2,4,8]
def PG:List Int:=[2,1,8,4]
def S6 (n:Int):Nat->Int
 | 0=>V0 n 48
 | k+1=>S6 n k+if V0 n (PH.getD k 0)=0 then 0 else PG.getD k 0
theorem uY:∀a<64,S6 (a:Nat) 4=VZ (a:Nat)/\∀k<5,0<=S6 (a:Nat) k/\S6 (a:Nat) k<=100:=by decide +kernel
theorem uX {a:Int} (h:0<=a/\a<=63):S6 a 4=VZ a/\∀k<5,0<=S6 a k/\S6 a k<=100:=by
 obtain⟨x,rfl⟩:∃x:Nat,a=x:=⟨a.toNat,U⟩;exact uY x U
theorem Dy (n:Int) (r:0<=n/\n<=63):Ν Tryz.prog 102 [R n] (R (VZ n)):=by
 obtain⟨s,t⟩:=uX r;rw[<-s];refine Δ.body Τ Tryz.func102 rfl rfl Tryz.ntmps102 rfl rfl J ?_;refine Φ ?_;refine W.iter (λk:Nat=>k<=4) (λk=>[(0,R n),(3,R (S6 n k)),(4,YO PH),(5,YO PG),(6,R k)]) (λ_=>[]) (λk=>4-k) 0 Z2 rfl (by simp[S6,PH,PG]) (λk A c=>?_);have j:PH.length=4:=rfl;have u:PG.length=4:=rfl;by_cases o:k<4
 .have l:(k:Int)<4:=U
  have d:=Qp (i:=k) U;obtain⟨a,e⟩:∃a,PH[k]?=some a:=⟨_,ε U⟩;obtain⟨b,f⟩:∃b,PG[k]?=some b:=⟨_,ε U⟩;have v:∀h,PH[k]'h=a:=λh=>by rw[ε h] at e;exact WM e
  have w:∀h,PG[k]'h=b:=λh=>by rw[ε h] at f;exact WM f
  have x:S6 n (k+1)=S6 n k+if V0 n a=0 then 0 else b:=by
   show S6 n k+(if V0 n (PH.getD k 0)=0 then 0 else PG.getD k 0)=_;rw[Xk,Xk,e,f];rfl
  have p:=t (k+1) U
  have c:=c (k+1) U U;rw[x] at c p;generalize S6 n k=m at *;generalize PH=B at *;generalize PG=C at *;refine μ (Ρ j l) ?_;refine υ J ?_;refine μ (Ρ j (Ρ l (Ρ e (Ρ v o)))) ?_;by_cases g:V0 n a=0
  .rw[if_pos g,Int.add_zero] at c;refine χ (by simp[g]) ?_;refine μ d ?_;exact W.to c rfl (by simp[d])
  .rw[if_neg g] at c p;have y:IntKind.i64.wrap (m+b)=m+b:=IntWalk.i64_in _ U;refine υ (by simp[g]) ?_;refine μ (Ρ u (Ρ l (Ρ f (Ρ w (Ρ o y))))) ?_;refine μ d ?_;exact W.to c rfl (by simp[d])
 obtain rfl:k=4:=U;clear c;refine μ j ?_;refine χ J ?_;refine W.exit rfl ?_;refine Φ ?_;refine W.rt ?_;exact .of rfl
theorem uW (n:Int):Ν Tryz.prog 52 [R n] (.ZP [R (if valid n then VZ n else 0),R (if valid n then 0 else 1)]):=by
 have c:Ν Tryz.prog 97 [R n,R 0,R 63] (ZQ (valid n)):=Qr n 0 63;refine Δ.body Τ Tryz.func52 rfl rfl Tryz.ntmps52 rfl rfl J ?_;refine Φ ?_;refine ZB λe a=>?_;refine Ν.d (c) (Z1 ?_);apply a;cases b:valid n
 .refine υ rfl ?_;refine Φ ?_;refine W.rt ?_;exact .of rfl
 .refine χ rfl ?_;refine ZB λe a=>?_;refine Ν.d (Dy n (by unfold valid at b;simp at b;omega)) (Z1 ?_);apply a;refine W.rt ?_;exact .of rfl
end Go.TL
namespace Go.TL
open Go.Conc
variable [ZS]
section
variable {P:Program} {T:Z5} {A:List Nat} {m nt:Nat} {k:List Item} {env env':Ι} {σ:Υ} {Z:XF} {E:Yf} {ops:Array Oper} {lo pu ids:List Nat}
def RU (ids:List Nat):I->Bool
 | .Ο id _ _ _=>ids.contains id
 | .ms id _ _ _=>ids.contains id
 | _=>false
def seen (ids:List Nat) (σ:Υ):List (Option Row):=ids.map λid=>σ[id]?
def Mc (T:Z5) (A:List Nat) (env:Ι) (o:Oper) (ids:List Nat) (σ:Υ) (K:I->Prop):Prop:=match o.op with
 | .load b x=>RU ids (π env x)=true/\(Wb T A env o).Yp (λ_=>False) ((Ts T b σ (π env x)).Yp λa _=>K a)
 | .fieldAddr b x f=>RU ids (π env x)=true/\(Wb T A env o).Yp (λ_=>False) ((Tr T b f σ (π env x)).Yp λa _=>K a)
 | .indexAddr b x c=>RU ids (π env x)=true/\(Wb T A env o).Yp (λ_=>False) ((Tq T b σ (π env x) (π env c)).Yp λa _=>K a)
 | _=>False
theorem Dx {o:Oper} {ids:List Nat} {K:I->Prop}:Mc T A env o ids σ K=match o.op with
 | .load b x=>RU ids (π env x)=true/\(Wb T A env o).Yp (λ_=>False) ((Ts T b σ (π env x)).Yp λa _=>K a)
 | .fieldAddr b x f=>RU ids (π env x)=true/\(Wb T A env o).Yp (λ_=>False) ((Tr T b f σ (π env x)).Yp λa _=>K a)
 | .indexAddr b x c=>RU ids (π env x)=true/\(Wb T A env o).Yp (λ_=>False) ((Tq T b σ (π env x) (π env c)).Yp λa _=>K a)
 | _=>False:=XU rfl rfl
def UB (P:Program) (T:Z5) (A:List Nat) (nt:Nat) (ops:Array Oper) (lo pu ids:List Nat):List Nat->Ι->Υ->List Bool->(Ι->Υ->Prop)->Prop
 | [],env,σ,tags,K=>QK (Up lo pu) ops tags=true/\K env σ
 | i::is,env,σ,tags,K=>XD ops[i]? λo=>W9 nt o=true/\XD (X7 env ops o) λw=>
   WI w (UB P T A nt ops lo pu ids is (ZE o env .Zw) σ (tags++[false]) K)
    (WI (!lo.contains i) (Mc T A env o ids σ λa=>UB P T A nt ops lo pu ids is (ZE o env a) σ (tags++[true]) K)
     (QH P T A env o σ (λa=>UB P T A nt ops lo pu ids is (ZE o env a) σ (tags++[false]) K) (λa σ'=>(pu.contains i=true->seen ids σ'=seen ids σ)/\UB P T A nt ops lo pu ids is (ZE o env a) σ' (tags++[true]) K)))
theorem Dw {tags:List Bool} {K:Ι->Υ->Prop}:UB P T A nt ops lo pu ids [] env σ tags K=(QK (Up lo pu) ops tags=true/\K env σ):=XU rfl rfl
theorem Dv {i:Nat} {is:List Nat} {tags:List Bool} {K:Ι->Υ->Prop}:UB P T A nt ops lo pu ids (i::is) env σ tags K=XD ops[i]? λo=>W9 nt o=true/\XD (X7 env ops o) λw=>
   WI w (UB P T A nt ops lo pu ids is (ZE o env .Zw) σ (tags++[false]) K)
    (WI (!lo.contains i) (Mc T A env o ids σ λa=>UB P T A nt ops lo pu ids is (ZE o env a) σ (tags++[true]) K)
     (QH P T A env o σ (λa=>UB P T A nt ops lo pu ids is (ZE o env a) σ (tags++[false]) K) (λa σ'=>(pu.contains i=true->seen ids σ'=seen ids σ)/\UB P T A nt ops lo pu ids is (ZE o env a) σ' (tags++[true]) K))):=XU rfl rfl
theorem Du {i:WA} {l:ψ} (τ:Υ):(RD i l).YL τ=match QN i l with|some a=>.ok a τ|none=>.bad:=by
 unfold RD QN;split
 .split<;>rfl
 .cases l<;>rfl
theorem JE {ids:List Nat} {τ:Υ} {id:Nat} (h:seen ids τ=seen ids σ) (hi:ids.contains id=true):τ[id]?=σ[id]?:=by
 have a:=L6.1 hi;exact List.map_inj_left.1 h id a
theorem Dt {ids:List Nat} {b:TypeId} {x:I} {τ:Υ} (c:seen ids τ=seen ids σ) (d:RU ids x=true):(∀a σ',Ts T b σ x=.ok a σ'->Ts T b τ x=.ok a τ)/\∀p r,Ts T b σ x≠.Zl p r:=by
 unfold Ts;split
 .rename_i id n i j;rw[JE c d];split
  .split
   .split
    .rw[Du,Du];split
     .exact⟨λa σ' h=>(by cases h;rfl),nofun⟩
     .exact⟨nofun,nofun⟩
    .exact⟨nofun,nofun⟩
   .exact⟨nofun,nofun⟩
  .exact⟨nofun,nofun⟩
 .exact⟨nofun,nofun⟩
theorem Ds {ids:List Nat} {b:TypeId} {f:Nat} {x:I} {τ:Υ} (c:seen ids τ=seen ids σ) (d:RU ids x=true):(∀a σ',Tr T b f σ x=.ok a σ'->Tr T b f τ x=.ok a τ)/\∀p r,Tr T b f σ x≠.Zl p r:=by
 unfold Tr;split
 .rename_i id n i j;rw[JE c d];split
  .split
   .exact⟨λa σ' h=>(by cases h;rfl),nofun⟩
   .exact⟨nofun,nofun⟩
  .exact⟨nofun,nofun⟩
 .exact⟨nofun,nofun⟩
theorem Dr {ids:List Nat} {b:TypeId} {x c:I} {τ:Υ} (d:seen ids τ=seen ids σ) (e:RU ids x=true):(∀a σ',Tq T b σ x c≠.ok a σ')/\∀p a σ',Tq T b σ x c=.Zl p (.ok a σ')->Tq T b τ x c=.Zl p (.ok a τ):=by
 unfold Tq;split
 .split
  .rename_i id m i len;rw[JE d e];split
   .split
    .exact⟨nofun,λp a σ' h=>(by cases h;rfl)⟩
    .exact⟨nofun,nofun⟩
   .exact⟨nofun,nofun⟩
  .exact⟨nofun,nofun⟩
 .split
  .rename_i id m i j;rw[JE d e];split
   .split
    .exact⟨nofun,λp a σ' h=>(by cases h;rfl)⟩
    .exact⟨nofun,nofun⟩
   .exact⟨nofun,nofun⟩
  .exact⟨nofun,nofun⟩
 .exact⟨nofun,nofun⟩
theorem uV (s:ZJ P T) {i:Nat} {o:Oper} {K:I->Prop} (t:ops[i]?=some o) (hd:W9 nt o=true) (u:X7 env ops o=some true) (h:Mc T A env o ids σ K) :
  ∃a,Wq o=true/\(∀τ:Υ,seen ids τ=seen ids σ->P8 P m nt k Z E ops i o env τ a τ)/\K a:=by
 unfold Mc at h;split at h
 .rename_i v x b;obtain⟨g,h⟩:=h;unfold Zs.Yp at h;split at h
  .exact h.elim
  .exact h.2.elim
  .exact h.elim
  .rename_i l;unfold Za.Yp at h;split at h
   .rename_i a σ' d;refine⟨a,by unfold Wq;rw[b],λτ n env' rest e r=>?_,h⟩;refine .op (A:=A) s t (by rw[Vh e];exact u) hd (λc j=>by rw[b] at j;cases j) ?_;have:WJ T A env τ o=.ok a τ:=by unfold WJ;rw[b];exact(Dt n g).1 a σ' d
    rw[QI e,N8 e,l,this];exact r
   .rename_i p a σ' d;exact absurd d ((Dt (σ:=σ) (τ:=σ) rfl g).2 _ _)
   .exact h.elim
 .rename_i v x f b;obtain⟨g,h⟩:=h;unfold Zs.Yp at h;split at h
  .exact h.elim
  .exact h.2.elim
  .exact h.elim
  .rename_i l;unfold Za.Yp at h;split at h
   .rename_i a σ' d;refine⟨a,by unfold Wq;rw[b],λτ n env' rest e r=>?_,h⟩;refine .op (A:=A) s t (by rw[Vh e];exact u) hd (λc j=>by rw[b] at j;cases j) ?_;have:WJ T A env τ o=.ok a τ:=by unfold WJ;rw[b];exact(Ds n g).1 a σ' d
    rw[QI e,N8 e,l,this];exact r
   .rename_i p a σ' d;exact absurd d ((Ds (σ:=σ) (τ:=σ) rfl g).2 _ _)
   .exact h.elim
 .rename_i v x w b;obtain⟨g,h⟩:=h;unfold Zs.Yp at h;split at h
  .exact h.elim
  .exact h.2.elim
  .exact h.elim
  .rename_i l;unfold Za.Yp at h;split at h
   .rename_i a σ' d;exact absurd d ((Dr (σ:=σ) (τ:=σ) rfl g).1 _ _)
   .rename_i p a σ' d;refine⟨a,by unfold Wq;rw[b],λτ n env' rest e r=>?_,h.2⟩;refine .op (A:=A) s t (by rw[Vh e];exact u) hd (λc j=>by rw[b] at j;cases j) ?_;have:WJ T A env τ o=.Zl p (.ok a τ):=by unfold WJ;rw[b];exact(Dr n g).2 p a σ' d
    rw[QI e,N8 e,l,this];exact⟨h.1,r⟩
   .exact h.elim
 .exact h.elim
theorem uU (D:ZJ P T) {i:Nat} {o:Oper} {F:I->Prop} {H:I->Υ->Prop} (n:ops[i]?=some o) (hd:W9 nt o=true) (t:X7 env ops o=some true) (h:QH P T A env o σ F H) :
  ∃a σ' v,Wy P m nt k Z E ops i o env σ v a σ'/\(v=false->F a/\σ'=σ)/\(v=true->H a σ'):=by
 unfold QH at h;split at h
 .rename_i f args S u;have J:∀env',Tn ops o env env'->π env' f=π env f/\args.toList.map (π env')=args.toList.map (π env):=λenv' b=>by
   have w:=ML b;rw[u] at w;refine⟨w f (by simp[Op.operands,Call.operands]),MK λx O=>w x (by simp[Op.operands,Call.operands,O])⟩
  rcases h with⟨r,g,h⟩|⟨r,σ',g,h⟩
  .refine⟨r,σ,false,?_,λ_=>⟨h,rfl⟩,nofun⟩;unfold Wy;simp only[Xu,if_false];refine⟨λenv' σ' rest b j=>.call n (by rw[Vh b];exact t) hd u ?_,trivial⟩;obtain⟨B,Χ⟩:=J env' b;rw[B,Χ];exact(g σ').mono (λa s ⟨x,y⟩=>by subst x;subst y;exact j) (λ_ _ h=>h.elim)
  .refine⟨r,σ',true,?_,nofun,λ_=>h⟩;unfold Wy;simp only[if_true];refine⟨?_,λd=>by unfold Wq at d;rw[u] at d;cases d⟩;refine λenv' rest b j=>.call n (by rw[Vh b];exact t) hd u ?_;obtain⟨B,Χ⟩:=J env' b;rw[B,Χ];exact g.mono (λa s ⟨x,y⟩=>by subst x;subst y;exact j) (λ_ _ h=>h.elim)
 .exact h.elim
 .exact h.elim
 .rename_i U V L;have M:∀(r:Zs) (a:I),Wb T A env o=r->(∀K:I->Υ->Prop,∀s,K a s->(r.YL s).holds K)->(∀σ s,r.or σ s=r.YL σ)->P9 P m nt k Z E ops i o env a:=λr a d C Q env' σ' rest b j=>by
   refine .op (A:=A) D n (by rw[Vh b];exact t) hd (λc g=>L c g) ?_;rw[QI b,d,Q];exact C _ _ j
  unfold Zs.Yp at h;split at h
  .rename_i a e;refine⟨a,σ,false,?_,λ_=>⟨h,rfl⟩,nofun⟩;unfold Wy;simp only[Xu,if_false];exact⟨M _ a e (λK s l=>l) (λ_ _=>rfl),trivial⟩
  .rename_i p a e;refine⟨a,σ,false,?_,λ_=>⟨h.2,rfl⟩,nofun⟩;unfold Wy;simp only[Xu,if_false];exact⟨M _ a e (λK s l=>⟨h.1,l⟩) (λ_ _=>rfl),trivial⟩
  .exact h.elim
  .rename_i R;have N:∀(a:I) (σ':Υ) (r:Za),WJ T A env σ o=r->(∀K:I->Υ->Prop,K a σ'->r.holds K)->P8 P m nt k Z E ops i o env σ a σ':=λa σ' r d C env' rest b j=>by
    refine .op (A:=A) D n (by rw[Vh b];exact t) hd (λc g=>L c g) ?_;rw[QI b,N8 b,R,d];exact C _ j
   unfold Za.Yp at h;split at h
   .rename_i a σ' e;refine⟨a,σ',true,?_,nofun,λ_=>h⟩;unfold Wy;simp only[if_true];exact⟨N a σ' _ e λK l=>l,λd=>N7 (p:=True) d (.inl e)⟩
   .rename_i p a σ' e;refine⟨a,σ',true,?_,nofun,λ_=>h.2⟩;unfold Wy;simp only[if_true];exact⟨N a σ' _ e λK l=>⟨h.1,l⟩,λd=>N7 d (.inr e)⟩
   .exact h.elim
def HB (lo pu ids:List Nat) (P:Program) (m nt:Nat) (k:List Item) (Z:XF) (E:Yf) (ops:Array Oper) (i:Nat) (o:Oper) (env:Ι) (σ:Υ) (b:Bool) (a:I) (σ':Υ):Prop:=
 Wy P m nt k Z E ops i o env σ b a σ'/\(lo.contains i=true->b=true->Wq o=true/\∀τ:Υ,seen ids τ=seen ids σ->P8 P m nt k Z E ops i o env τ a τ)/\(pu.contains i=true->seen ids σ'=seen ids σ)
theorem uT (p:ZJ P T) {i:Nat} {is:List Nat} {tags:List Bool} {K:Ι->Υ->Prop} (h:UB P T A nt ops lo pu ids (i::is) env σ tags K) :
  ∃o a σ' d,ops[i]?=some o/\HB lo pu ids P m nt k Z E ops i o env σ d a σ'/\UB P T A nt ops lo pu ids is (ZE o env a) σ' (tags++[d]) K:=by
 unfold UB XD at h;split at h
 .exact h.elim
 .rename_i o b;obtain⟨hd,h⟩:=h;split at h
  .exact h.elim
  rename_i w j;unfold WI at h;cases w
  .replace h:=h.1 rfl
   refine⟨o,.Zw,σ,false,b,⟨?_,λ_ h=>(by cases h),λ_=>rfl⟩,h⟩;unfold Wy;simp only[Xu,if_false];exact⟨λenv' σ' rest r s=>.unwanted b (by rw[Vh r];exact j) hd s,trivial⟩
  .replace h:=h.2 rfl
   cases e:lo.contains i with
   | true=>
    rw[e] at h;obtain⟨a,f,g,l⟩:=uV (m:=m) (k:=k) (Z:=Z) (E:=E) p b hd j (h.1 rfl);refine⟨o,a,σ,true,b,⟨?_,λ_ _=>⟨f,g⟩,λ_=>rfl⟩,l⟩;unfold Wy;simp only[if_true];exact⟨g σ rfl,λ_=>trivial⟩
   | false=>
    rw[e] at h;obtain⟨a,σ',d,f,g,l⟩:=uU (m:=m) (k:=k) (Z:=Z) (E:=E) p b hd j (h.2 rfl);cases d with
    | false=>
     obtain⟨n,rfl⟩:=g rfl;exact⟨o,a,σ',false,b,⟨f,λc=>(by rw[e] at c;cases c),λ_=>rfl⟩,n⟩
    | true=>
     obtain⟨n,t⟩:=l rfl;exact⟨o,a,σ',true,b,⟨f,λc=>(by rw[e] at c;cases c),n⟩,t⟩
theorem uS (t:ZJ P T) {K:Ι->Υ->Prop} {env0:Ι}:∀(d i:Nat) (tags:List Bool) (as9:Nat->I) (σs:Nat->Υ),i+d=ops.size->tags.length=i->
  (∀j o,j<i->ops[j]?=some o->HB lo pu ids P m nt k Z E ops j o (Zp ops env0 as9 (λ_=>true) j) (σs j) (tags.getD j false) (as9 j) (σs (j+1)))->
  UB P T A nt ops lo pu ids (List.range' i d) (Zp ops env0 as9 (λ_=>true) i) (σs i) tags K->
  ∃(tags:List Bool) (as9:Nat->I) (b:Nat->Υ),QK (Up lo pu) ops tags=true/\b 0=σs 0/\(∀j o,ops[j]?=some o->HB lo pu ids P m nt k Z E ops j o (Zp ops env0 as9 (λ_=>true) j) (b j) (tags.getD j false) (as9 j) (b (j+1)))/\K (Zp ops env0 as9 (λ_=>true) ops.size) (b ops.size):=by
 intro d
 induction d with
 | zero=>
  intro i tags as9 σs hi n g h;simp only[List.range'_zero,UB] at h;have:i=ops.size:=U;subst this;exact⟨tags,as9,σs,h.1,rfl,λj o f=>g j o (UA.1 f).1 f,h.2⟩
 | succ d u=>
  intro i tags as9 σs hi n g h;rw[LY] at h;obtain⟨o,a,σ',l,f,v,h⟩:=uT (m:=m) (k:=k) (Z:=Z) (E:=E) t h;let c:Nat->I:=λj=>if j=i then a else as9 j
  let b:Nat->Υ:=λj=>if j=i+1 then σ' else σs j
  have p:∀j,j<=i->Zp ops env0 as9 (λ_=>true) j=Zp ops env0 c (λ_=>true) j:=λj g=>IV j λx L=>by simp only[c];rw[if_neg U]
  have w:Zp ops env0 c (λ_=>true) (i+1)=ZE o (Zp ops env0 as9 (λ_=>true) i) a:=by
   simp only[Zp,if_true,f];rw[<-p i (ZO i)];simp only[c,if_true]
  have:=u (i+1) (tags++[l]) c b U (by simp[n]) (λj y M r=>?_) ?_
  .obtain⟨t2,B,C,D,F,H,J⟩:=this;exact⟨t2,B,C,D,F.trans (by simp only[b];rw[if_neg U]),H,J⟩
  .by_cases e:j=i
   .subst e;rw[f] at r;cases r;rw[<-p j (ZO j)];have s:(tags++[l]).getD j false=l:=by rw[Xk,XT U,n];simp
    rw[s];simp only[c,b,if_true];rw[if_neg U];exact v
   .have:=g j y U r;rw[<-p j U];have s:(tags++[l]).getD j false=tags.getD j false:=by rw[Xk,YU U,<-Xk]
    rw[s];simp only[c,b];rw[if_neg U,if_neg U,if_neg U];exact this
  .rw[w];simp only[b,if_true];exact h
theorem W.Dq (lo pu ids:List Nat) (u:ZJ P T) (w:P.follows .mixedOrders=true) {id:Nat} (h:∀g:Ι->Υ->Prop,(∀env σ,W P m nt k env σ Z E->g env σ)->UB P T A nt ops lo pu ids (idx ops.size []) env σ [] g):W P m nt (.code (.region id ops true)::k) env σ Z E:=by
 have l:=h (λenv σ=>W P m nt k env σ Z E) λ_ _ h=>h;rw[idx_eq,L5] at l;obtain⟨tags,as9,σs,y,C,d,D⟩:=uS (m:=m) (k:=k) (Z:=Z) (E:=E) (env0:=env) u ops.size 0 [] (λ_=>.Zw) (λ_=>σ) U rfl (λj o F=>U) l;intro I mn x cs b S B H t p r f K L;refine .draw p r λn=>?_;have s:=W.Gj (lo:=lo) (pu:=pu) (v:=seen ids) (P:=P) (m:=m) (nt:=nt) (k:=k) (Z:=Z) (E:=E) (ops:=ops) (as9:=as9) (σs:=σs) (tags:=tags) (env0:=env) y
  (λi o a c=>by have:=(d i o a).1;unfold Wy at this;rw[c] at this;simpa using this)
  (λi o a c=>by have:=(d i o a).1;unfold Wy at this;rw[c] at this;simpa using this)
  (λi o a e c=>(d i o a).2.1 e c) (λi o a f=>(d i o a).2.2 f)
  (.ZM D) ops.size n (Array.replicate ops.size false) env 0 J (λi=>?_) (λi o a e=>?_) (ω _) (λj F _=>?_) ?_
 .rw[C] at s;rw[w];simp only[Region.schedule,Bool.true_or,if_true,Region.linearise];exact s I mn x cs b S B H t p r f K L
 .have:∀n,Zp ops env as9 (λi=>(Array.replicate ops.size false).getD i false) n=env:=by
   intro n
   induction n with
   | zero=>rfl
   | succ n M=>
    simp only[Zp];have:(Array.replicate ops.size false).getD n false=false:=by
     rw[W3,PE];split<;>rfl
    rw[if_neg (by rw[this];simp)];exact M
  rw[this]
 .have:(Array.replicate ops.size false).getD i false=false:=by
   rw[W3,PE];split<;>rfl
  rw[this] at e;cases e
 .have:(Array.replicate ops.size false).getD j false=false:=by
   rw[W3,PE];split<;>rfl
  rw[this];simp
 .have:=List.length_filter_le (λi=>!(Array.replicate ops.size false).getD i false) (List.range ops.size);simpa using this
end
end Go.TL
namespace Go.TL
open Go.Proofs
variable [ZS]
def XI {a:Type} (b:Nat):List (List a)->ψ
 | []=>[]
 | l::C=>.ms b l.length 0 l.length::XI (b+1) C
def Xa (C:List (List Y9)):Υ:=C.map λl=>.cells 28 3 (l.map Zv)
theorem uR {a:Type} (b:Nat) (C:List (List a)) (l:List a):XI b (C++[l])=XI b C++[.ms (b+C.length) l.length 0 l.length]:=by
 induction C generalizing b with
 | nil=>rfl
 | cons c C d=>
  show _::XI (b+1) (C++[l])=_;rw[d,show b+1+C.length=b+(c::C).length by simp;omega];rfl
theorem Nw {a:Type} (b:Nat) (C:List (List a)):(XI b C).length=C.length:=by
 induction C generalizing b with
 | nil=>rfl
 | cons c C d=>simp[XI,d]
theorem Dp (σ L:Υ) (k:Nat):(σ++L)[σ.length+k]?=L[k]?:=by rw[XT U];congr 1;omega
theorem uQ (σ L:Υ):(σ++L)[σ.length]?=L[0]?:=Dp σ L 0
theorem Dn (σ L:Υ) (k:Nat) (x:Row):(σ++L).set (σ.length+k) x=σ++L.set k x:=by rw[Qn _ _ U];congr 2;omega
theorem uP (σ L:Υ) (x:Row):(σ++L).set σ.length x=σ++L.set 0 x:=Dn σ L 0 x
theorem uO (s:ο) (h:s.small) (σ:Υ):Δ Tryz.prog 25 [Zd s] σ (λa r=>a=.Z9 [ZU s.Κ,Z3 s.Β,.ms (σ.length+2) s.cells.length 0 s.cells.length]/\r=σ++(.dead::.dead::.cells 60 1 (XI (σ.length+3) s.cells)::Xa s.cells)) (λ_ _=>False):=by
 obtain⟨E,K,m,o,Y⟩:=h;obtain⟨n,f⟩:=Z8 σ.length;have d:=Dp σ;have t:=uQ σ;have v:=Dn σ;have y:=uP σ;rw[<-f] at d t v y ⊢;refine Δ.body Τ Tryz.func25 rfl rfl Tryz.ntmps25 rfl rfl J ?_
 repeat apply Ζ
 refine YR (A:=[2]) Τ λT B=>?_;simp;(repeat (rw[Μ];simp[f.symm]));apply B;refine W.to (σ':=σ++[Y7 (.sl true 0 []) (.sl true 0 []) (.sl true 0 [])]) (env':=[(1,ZW s),(2,.Ο n 1 0 0)]) ?_ J J
 repeat apply Ζ
 refine W.draw (A:=[3]) Τ mixed λT B=>?_;simp;(repeat (rw[Zf];simp[f.symm]));try rw[Zg]
 refine⟨U,?_⟩;refine Yl (Ν.p (F4 s.Β U (λx Z=>by have:=o x Z;omega)) (ZZ.refl _) J J) ?_;simp[f.symm];(repeat (rw[Zf];simp[f.symm]));try rw[Zg]
 refine XL (B _ _ ?_);refine W.to (σ':=σ++[Y7 (.sl true 0 []) (.sl true 0 []) (.sl true 0 []),Y7 (ZU s.Κ) (Z3 s.Β) (.sl true 0 [])]) (env':=[(1,ZW s),(2,.Ο n 1 0 0),(3,.Ο (n+1) 1 0 0)]) ?_ J J;have aa:Ny (n+2) (Y7 (ZU s.Κ) (Z3 s.Β) (.sl true 0 [])) (Y7 (ZU s.Κ) (Z3 s.Β) (.ms (n+2) 0 0 0)):=by
  refine .inr ⟨26,3,_,_,rfl,rfl,rfl,λi e af E K=>?_⟩
  match i with
  | 0=>
   simp at E K;subst E;subst K;refine⟨rfl,λx a ag m o=>?_⟩
   match x with
   | 0=>simp[I.cells] at m o;subst m;subst o;exact .same _
   | 1=>simp[I.cells] at m o;subst m;subst o;exact .same _
   | 2=>simp[I.cells] at m o;subst m;subst o;exact .nil
   | x+3=>simp[I.cells] at m
  | i+1=>simp at E
 have ab:(σ++[Y7 (.sl true 0 []) (.sl true 0 []) (.sl true 0 []),Y7 (ZU s.Κ) (Z3 s.Β) (.sl true 0 [])]).length=n+2:=by simp[<-f]
 refine W.vn 60 1 (i:=n+1) (r:=Y7 (ZU s.Κ) (Z3 s.Β) (.sl true 0 [])) (r':=Y7 (ZU s.Κ) (Z3 s.Β) (.ms (n+2) 0 0 0)) (by rw[d];rfl) (by rw[ab];exact aa) [(1,ZW s),(2,.Ο n 1 0 0),(3,.Ο (n+1) 1 0 0)] (λp g=>by
  simp only[YZ,XY,or_false] at g;rcases g with rfl|rfl|rfl<;>exact .same _) ?_
 rw[v,TZ];refine Φ ?_;refine W.iter (λi:Nat=>i<=s.cells.length) (λi=>[(1,ZW s),(2,.Ο n 1 0 0),(3,.Ο (n+1) 1 0 0),(4,R i)])
  (λi=>σ++(Y7 (.sl true 0 []) (.sl true 0 []) (.sl true 0 [])::Y7 (ZU s.Κ) (Z3 s.Β) (.ms (n+2) i 0 i)::.cells 60 1 (XI (n+3) (s.cells.take i))::Xa (s.cells.take i))) (λi=>s.cells.length-i) 0 (ω _) (by simp[XI,Xa]) J (λi hi w=>?_)
 refine Φ ?_;refine W.YW rfl (λc=>?_) (λc=>?_)
 .have c:i<s.cells.length:=by simpa using c
  have g:s.cells[i].length<2 ^ 30:=Y _ (YB c)
  have L:s.cells.take (i+1)=s.cells.take i++[s.cells[i]]:=UZ c
  have ad:=YF c (show s.cells.length<2 ^ 62 by omega)
  have M:=ε c;obtain⟨l,N⟩:=Z8 (s.cells[i]);have V:∀h,s.cells[i]'h=l:=λh=>N.symm;rw[<-N] at L M g;have O:(XI (n+3) (s.cells.take i)).length=i:=by rw[Nw,Q6];omega
  have P:(Xa (s.cells.take i)).length=i:=by unfold Xa;rw[Yb,Q6];omega
  have F:=uR (n+3) (s.cells.take i) l
  have Q:Xa (s.cells.take i++[l])=Xa (s.cells.take i)++[.cells 28 3 (l.map Zv)]:=by simp[Xa]
  have ae:(s.cells.take i).length=i:=by rw[Q6];omega
  rw[ae] at F;rw[<-L] at F Q;have w:=w (i+1) c U;rw[F,Q] at w;obtain⟨u,C⟩:=Z8 (XI (n+3) (s.cells.take i));obtain⟨D,H⟩:=Z8 (Xa (s.cells.take i));rw[<-C] at O w ⊢;rw[<-H] at P w ⊢;clear C H F Q L N;have ah:∀x,(σ++(Y7 (.sl true 0 []) (.sl true 0 []) (.sl true 0 [])::Y7 (ZU s.Κ) (Z3 s.Β) (.ms (n+2) (i+1) 0 (i+1))::.cells 60 1 (u++[x])::D))[n+2]?=some (.cells 60 1 (u++[x])):=λx=>by rw[d];rfl
  repeat apply Ζ
  refine W.Dq [0,1] [8,9] [n+1] (A:=[28,30]) Τ mixed λT B=>?_;simp[f.symm,d,t,v,y,c,M,V,O,P]
  repeat (rw[Dv];simp[Dx,seen,RU,f.symm,d,t,v,y,c,M,V,O,P])
  try rw[Dw]
  refine⟨U,U,IW (by kernel_rfl),B _ _ ?_⟩;refine Φ ?_;refine W.to w ?_ (by simp[ad]);simp;omega
 .have c:i=s.cells.length:=by simp at c;omega
  subst c;refine W.exit rfl ?_;rw[LX];obtain⟨u,C⟩:=Z8 (XI (n+3) s.cells);obtain⟨D,H⟩:=Z8 (Xa s.cells);have X:u.length<=s.cells.length:=by rw[C,Nw];exact ZO _
  rw[<-C,<-H]
  repeat apply Ζ
  refine W.Xv (A:=[]) Τ [(2,.Ο n 1 0 0)] (σ++(Y7 (ZU s.Κ) (Z3 s.Β) (.ms (n+2) s.cells.length 0 s.cells.length)::Y7 (ZU s.Κ) (Z3 s.Β) (.ms (n+2) s.cells.length 0 s.cells.length)::.cells 60 1 u::D)) ?_ (by
   (try simp);(repeat (rw[Μ];simp[f.symm,d,t,v,y,X]));(try simp[f.symm,d,t,v,y,X]))
  refine W.Qq (σ':=σ++(Y7 (ZU s.Κ) (Z3 s.Β) (.ms (n+2) s.cells.length 0 s.cells.length)::.dead::.cells 60 1 u::D)) (id:=n+1) U (by rw[d];rfl) J (by rw[d];rfl) (λj r S b=>⟨r,?_,.inl rfl⟩) [(2,.Ο n 1 0 0)] (λp g=>by simp at g;subst g;exact .same _) ?_
  .by_cases e:j<n
   .rw[YU U] at b ⊢;exact b
   .obtain⟨k,rfl⟩:∃k,j=n+k:=⟨j-n,U⟩;rw[d] at b ⊢
    match k,S,b with
    | 0,_,b=>exact b
    | 1,h,_=>exact absurd rfl h
    | k+2,_,b=>exact b
  refine W.Qq (σ':=σ++(.dead::.dead::.cells 60 1 u::D)) (id:=n) U (by rw[t];rfl) J (by rw[t];rfl) (λj r S b=>⟨r,?_,.inl rfl⟩) [(2,.Ε [ZU s.Κ,Z3 s.Β,.ms (n+2) s.cells.length 0 s.cells.length])] (λp g=>by simp at g;subst g;exact .Ο (e:=.Z9 [ZU s.Κ,Z3 s.Β,.ms (n+2) s.cells.length 0 s.cells.length]) rfl) ?_
  .by_cases e:j<n
   .rw[YU U] at b ⊢;exact b
   .obtain⟨k,rfl⟩:∃k,j=n+k:=⟨j-n,U⟩;rw[d] at b ⊢
    match k,S,b with
    | 0,h,_=>exact absurd rfl h
    | k+1,_,b=>exact b
  exact W.ret ⟨_,rfl,rfl,rfl⟩
theorem uN (s:ο) (h:s.small) {σ:Υ} {K E:I->Υ->Prop} {b:I} (c:Y4 b (Zd s)) (f:Γ 0 b) (d:K (.Z9 [ZU s.Κ,Z3 s.Β,.ms (σ.length+2) s.cells.length 0 s.cells.length]) (σ++(.dead::.dead::.cells 60 1 (XI (σ.length+3) s.cells)::Xa s.cells))) :
  WZ Tryz.prog (.fn (.func 25) [] []) [b] σ K E:=
 Δ.call (first:=[]) (captured:=[]) (Δ.mono (Δ.Uo (uO s h σ) (ZZ.cons c .nil) (K':=λa r=>a=.Z9 [ZU s.Κ,Z3 s.Β,.ms (σ.length+2) s.cells.length 0 s.cells.length]/\r=σ++(.dead::.dead::.cells 60 1 (XI (σ.length+3) s.cells)::Xa s.cells)) (λa s h=>⟨_,.refl _,h⟩)) (λa r ⟨e,Χ⟩=>by rw[e,Χ];exact d) (λa s h=>h.elim))
end Go.TL
namespace Go.TL
open Go.Proofs
@[simp] theorem r4:Wd .bool=true:=rfl
section
variable [ZS]
theorem Dm {a:Type} (b:Nat) (L:List (List a)) (j:Nat):(XI b L)[j]?=L[j]?.map λl=>.ms (b+j) l.length 0 l.length:=by
 induction L generalizing b j with
 | nil=>simp[XI]
 | cons l L c=>
  cases j with
  | zero=>simp[XI]
  | succ j=>simp only[XI,List.getElem?_cons_succ];rw[c,show b+1+j=b+(j+1) by omega]
theorem uM {a:Type} (b:Nat) (L:List (List a)) (c:Nat) (x:List a):XI b (L.set c x)=(XI b L).set c (.ms (b+c) x.length 0 x.length):=by
 induction L generalizing b c with
 | nil=>simp[XI]
 | cons l L d=>
  cases c with
  | zero=>simp[XI]
  | succ c=>simp only[XI,List.set_cons_succ];rw[d,show b+1+c=b+(c+1) by omega]
theorem uL (L:List (List Y9)) (c:Nat) (x:List Y9):Xa (L.set c x)=(Xa L).set c (.cells 28 3 (x.map Zv)):=by
 unfold Xa;rw[Nl]
theorem Dl (L:List (List Y9)) (c:Nat):(Xa L)[c]?=L[c]?.map λl=>.cells 28 3 (l.map Zv):=by unfold Xa;rw[Yk]
theorem Nv (L:List (List Y9)):(Xa L).length=L.length:=by unfold Xa;rw[Yb]
theorem uK {i:Type} {f:i->I} {T t:TypeId} {k h b id:Nat} {σ:Υ} {L:List (List i)} (B:h<=b) (s:h<=id) (u:∀(j:Nat) (l:List i),L[j]?=some l->σ[b+j]?=some (.cells t k (l.map f))) (v:σ[id]?=some (.cells T 1 (XI b L))) (w:∀p,∀a∈(f p).cells,Γ h a):Yu h σ (.ms id L.length 0 L.length) (.sl false 1 (L.map λl=>.sl false k (l.map f))):=by
 have o:∀(j:Nat) (e d:I),(XI b L)[0+j]?=some e->(L.map λl=>I.sl false k (l.map f))[j]?=some d->∃l:List i,L[j]?=some l/\e=.ms (b+j) l.length 0 l.length/\d=.sl false k (l.map f):=λj e d c g=>by
  rw[VD,Dm] at c;rw[Yk] at g;cases m:L[j]? with
  | none=>rw[m] at c;cases c
  | some l=>rw[m] at c g;cases c;cases g;exact⟨l,rfl,rfl,rfl⟩
 refine .ms s v (Nw b L) (by rw[VD];exact ZO _) J (λj e d c g=>?_) (λj e d c g x a C n r=>?_)
 .obtain⟨l,_,rfl,rfl⟩:=o j e d c g;rfl
 .obtain⟨l,m,rfl,rfl⟩:=o j e d c g
  match x with
  | 0=>
   simp[I.cells] at n r;subst n;subst r;refine Yu.own U (u j l m) J (λe y a A=>?_);obtain⟨p,_,rfl⟩:=YK.1 y;exact w p a A
  | x+1=>simp[I.cells] at n
theorem uJ {h b id:Nat} {σ:Υ} {L:List (List Y9)} (d:h<=b) (e:h<=id) (g:∀(j:Nat) (l:List Y9),L[j]?=some l->σ[b+j]?=some (.cells 28 3 (l.map Zv))) (i:σ[id]?=some (.cells 60 1 (XI b L))):Yu h σ (.ms id L.length 0 L.length) (Vx L):=
 uK (f:=Zv) d e g i λp a c=>by
  simp[I.cells] at c;rcases c with rfl|rfl|rfl<;>simp
end
end Go.TL
namespace Go.TL
open Go.Proofs
variable [ZS]
theorem uI (l:List Xp) (g:Xp):Uk l g<l.length:=by
 rcases DF l g with⟨e,_⟩|⟨j,a,e,_⟩<;>rw[e]<;>omega
theorem Dk (l:List Xp):∀n,((List.range n).flatMap (WG l)).length<=n:=λn=>by
 induction n with
 | zero=>simp
 | succ n a=>
  rw[Uy,OE,Vo];have:(WG l n).length<=1:=by unfold WG;split;simp;split<;>simp
  simp only[Nq,List.flatMap_nil,TY];omega
def S5 (i v:Int) (n:Nat):List (List Int):=if 0<=v/\v<n then [[i,v]] else []
theorem Dj {i v:Int}:S5 i v 0=[]:=if_neg U
theorem Di {i:Int} {n:Nat}:S5 i n n=[]/\S5 i n (n+1)=[[i,(n:Int)]]:=⟨if_neg U,if_pos U⟩
theorem uH {i v:Int} {n:Nat} (h:v≠n):S5 i v (n+1)=S5 i v n:=by
 unfold S5;by_cases b:0<=v/\v<n
 .rw[if_pos b,if_pos U]
 .rw[if_neg b,if_neg U]
theorem uG {i v:Int} {n:Nat} (h:v<n):S5 i v n=if 0<=v then [[i,v]] else []:=by
 unfold S5;by_cases b:0<=v
 .rw[if_pos b,if_pos U]
 .rw[if_neg b,if_neg U]
theorem uF (s:ο) (Q:s.small):Ν Tryz.prog 47 [Zd s] (.ZP [Z3 (if s.err=0 then twins s.Κ else []),R s.err]):=by
 refine Δ.body Τ Tryz.func47 rfl rfl Tryz.ntmps47 rfl rfl J ?_;refine Φ ?_;refine ZB λab E=>?_;refine Ν.d (HL s Q) (Z1 ?_);apply E;refine Φ ?_;by_cases e:s.err=0
 case neg=>
  rw[if_neg e];generalize s.err=ak at e;refine υ (by simp[e]) ?_;refine Φ ?_;refine W.rt ?_;exact .ZP (.cons .nil (.cons (.refl _) .nil))
 have u:=(Dz e).Κ;rw[e,if_pos rfl];clear Q e;generalize s.Κ=G at u;generalize s.Β=k;generalize s.cells=l;have al:=u.hi;refine χ J ?_
 repeat apply Ζ
 refine TJ ?_;refine W.pad 29 1 (σ':=[]) rfl (λj r h=>⟨r,h,.inl rfl⟩) [(1,.Ε [ZU G,Z3 k,Vx l]),(5,.ms 0 0 0 0)] (λz m=>by
  simp only[YZ,XY,or_false] at m;rcases m with rfl|rfl
  .exact .same _
  .exact .nil) ?_
 rw[List.nil_append];refine Φ ?_;refine W.iter (λi:Nat=>i<=G.length) (λi=>[(1,.Ε [ZU G,Z3 k,Vx l]),(5,.ms 0 ((List.range i).flatMap (WG G)).length 0 ((List.range i).flatMap (WG G)).length),(6,R i)]) (λi=>[.cells 29 1 (((List.range i).flatMap (WG G)).map YO)]) (λi=>G.length-i) 0 (ω _) rfl J (λi hi a=>?_);by_cases f:i<G.length
 .have F:(i:Int)<(G.length:Int):=U
  have w:=ε f
  have ad:=u.each _ (YB f)
  have n:∀j (H:j<G.length),G[j].ZG=VZ G[i].ZG↔Uk G G[i]=j:=λj H=>vi u f H
  have I:=uI G G[i]
  have S:(List.range (i+1)).flatMap (WG G)=(List.range i).flatMap (WG G)++if 0<=Uk G G[i] then [[(i:Int),Uk G G[i]]] else []:=by
   rw[Uy,OE];simp only[Nq,List.flatMap_nil,TY];congr 1;unfold WG;rw[w]
  have ae:=Dk G i
  have V:=Qp (i:=i) U
  have a:=a (i+1) f U;rw[S] at a;obtain⟨b,X⟩:=Z8 ((List.range i).flatMap (WG G));rw[<-X] at a ae ⊢;obtain⟨g,y⟩:=Z8 (G[i]);rw[<-y] at w ad I a;simp only[<-y] at n;have Y:∀h,G[i]'h=g:=λh=>y.symm;have K:=Dy g.ZG U;obtain⟨v,hv⟩:=Z8 (Uk G g);rw[<-hv] at I a;simp only[<-hv] at n;obtain⟨Z,L⟩:=Z8 (VZ g.ZG);rw[<-L] at K;simp only[<-L] at n;rw[<-uG I] at a;clear X y hv L S;refine μ F ?_;refine υ J ?_;refine Φ ?_;refine W.iter (λj:Nat=>j<=G.length) (λj=>[(1,.Ε [ZU G,Z3 k,Vx l]),(5,.ms 0 (b++S5 i v j).length 0 (b++S5 i v j).length),(6,R i),(7,R j)]) (λj=>[.cells 29 1 ((b++S5 i v j).map YO)]) (λj=>G.length-j) 0 (ω _) (by rw[Dj];simp) (by rw[Dj];simp) (λj H c=>?_);by_cases hd:j<G.length
  .have B:(j:Int)<(G.length:Int):=U
   have M:=ε hd
   have N:=n j hd;obtain⟨h,O⟩:=Z8 (G[j]);rw[<-O] at M N;have aa:∀q,G[j]'q=h:=λq=>O.symm;have C:=Qp (i:=j) U;have c:=c (j+1) hd U;clear O n a;by_cases P:v=j
   .subst P;rw[Di.2] at c;rw[Di.1,TY];have af:Z=h.ZG:=(N.2 rfl).symm;have ag:b.length<=4294967295:=U;refine μ B ?_;refine υ J ?_
    repeat apply Ζ
    refine W.S8 (A:=[]) Τ mixed [(40,ZQ true),(1,.Ε [ZU G,Z3 k,Vx l]),(5,.ms 0 b.length 0 b.length),(6,R i),(7,R j)] [.cells 29 1 (b.map YO)] ?_ (by
     simp;(repeat (rw[Zf];simp[w,Y,f]));(try rw[Zg]);refine Yl (Ν.p K (ZZ.refl _) J J) ?_;simp;(repeat (rw[Zf];simp[M,aa,hd]));(try rw[Zg]);refine⟨Ym (by kernel_rfl),?_⟩;simp[af])
    refine υ rfl ?_
    repeat apply Ζ
    refine YR (A:=[46]) Τ λab E=>Xx ag ?_;apply E;refine μ C ?_;refine W.to c ?_ (by simp[C]);simp
   .rw[uH P] at c;obtain⟨D,o⟩:=Z8 (b++S5 i v j);rw[<-o] at c ⊢;have ah:¬Z=h.ZG:=λq=>P (N.1 q.symm);clear o;refine μ B ?_;refine υ J ?_
    repeat apply Ζ
    refine W.S8 (A:=[]) Τ mixed [(40,ZQ false),(1,.Ε [ZU G,Z3 k,Vx l]),(5,.ms 0 D.length 0 D.length),(6,R i),(7,R j)] [.cells 29 1 (D.map YO)] ?_ (by
     simp;(repeat (rw[Zf];simp[w,Y,f]));(try rw[Zg]);refine Yl (Ν.p K (ZZ.refl _) J J) ?_;simp;(repeat (rw[Zf];simp[M,aa,hd]));(try rw[Zg]);refine⟨Ym (by kernel_rfl),?_⟩;simp[ah])
    refine χ rfl ?_;refine μ C ?_;exact W.to c rfl (by simp[C])
  have B:¬(j:Int)<(G.length:Int):=U
  have ai:j=G.length:=U;subst ai;clear c;obtain⟨D,o⟩:=Z8 (b++S5 i v G.length);rw[<-o] at a ⊢;clear o;refine μ B ?_;refine χ J ?_;refine W.exit rfl ?_;refine μ V ?_;exact W.to a rfl (by simp[V])
 have F:¬(i:Int)<(G.length:Int):=U
 have aj:i=G.length:=U;subst aj;rw[show(List.range G.length).flatMap (WG G)=twins G from rfl];generalize twins G=T;clear a;refine μ F ?_;refine χ J ?_;refine W.exit rfl ?_;refine W.cut 0 (ω _) [(5,.sl false 1 (T.map YO))] (ω _) (λid r h=>absurd h (Nat.not_lt_zero _)) (λz m=>by
  simp only[YZ,XY,or_false] at m;subst m;exact .own (t:=29) (ω _) rfl J MD) ?_
 rw[List.take_zero];refine Φ ?_;refine W.rt ?_;exact .ZP (.cons (.map λx _=>.one .ex rfl rfl) (.cons (.refl _) .nil))
end Go.TL
namespace Go.TL
open Go.Proofs
section
variable [ZS]
variable {P:Program} {m nt:Nat} {k:List Item} {env:Ι} {σ:Υ} {Z:XF} {E:Yf}
theorem W.uE {ι:Type} {a:Item} (p:ι->Prop) (env':ι->Ι) (σ':ι->Υ) (b:W P m nt (a::k) env σ (λj e s=>j=k/\∃i,p i/\s=σ' i/\∀q∈env' i,Z' e q.1=q.2) E) (c:∀i,p i->W P m nt k (env' i) (σ' i) Z E):W P m nt (a::k) env σ Z E:=
 .bind b λj e s ⟨d,i,hi,f,g⟩=>by
  subst d;subst f;exact .forget (env' i) g (c i hi)
end
end Go.TL
namespace Go.TL
open Go.Proofs
variable [ZS]
def ο.more (s:ο) (c:Nat) (p:Y9):ο:=⟨s.Κ,s.Β,s.cells.set c ((s.cells[c]?).getD []++[p])⟩
def Room (s:ο) (x:ο):Prop:=x=s\/S7 x\/∃y c p,S7 y/\c<y.cells.length/\x=y.more c p
theorem uD {y:ο} (h:S7 y) {c:Nat} (p:Y9):(y.more c p).small:=by
 have b:=h.small;obtain⟨d,e,f,g,i⟩:=b;refine⟨d,e,by unfold ο.more;rw[No];exact f,g,λx a=>?_⟩;unfold ο.more at a;rcases L8 a with a|rfl
 .exact i x a
 .cases j:y.cells[c]? with
  | none=>simp
  | some l=>have:=(h.cells l (Zk j)).hi;simp;omega
theorem Room.small {s x:ο} (h:Room s x) (a:s.small):x.small:=by
 rcases h with rfl|h|⟨y,c,p,h,_,rfl⟩
 .exact a
 .exact h.small
 .exact uD h p
theorem uC (s:ο) (aO:s.small) (p:Y9) (d:Zu) (hd:d.ζ.length<2 ^ 63) :
  Δ Tryz.prog 23 [Zd s,Zv p,.Ο 0 1 0 0] [ZV d] (λa σ=>∃(L:List ο) (af:Zu),Y4 a (.sl true 3 (L.map Zd))/\L.length=4/\(∀x∈L,Room s x)/\σ=[ZV af]/\af.ζ.length<=d.ζ.length) (λ_ _=>False):=by
 refine Δ.body Τ Tryz.func23 rfl rfl Tryz.ntmps23 rfl rfl J ?_
 repeat apply Ζ
 refine TJ ?_;refine Y' ?_;refine YR (A:=[7]) Τ λB i=>Z1 ?_;refine RX.c (vk d hd 4 3 Z2 Z2 Z2) 0 rfl (ZZ.refl _) J (by
  rintro r ⟨s,rfl,_⟩;simp[Yx,I.cells]) ?_
 rintro r d1 ⟨C,rfl,av,_,_⟩ aP;simp;(repeat (rw[Μ];simp));apply i;clear i B;refine W.Vw (σ0:=[ZV d1]) (ZO _) (λr u=>by simp at u;subst u;exact T7 d1 _) (λa F=>by simp[I.cells] at F;rcases F with rfl|rfl|rfl<;>simp[Yx,I.cells]) [(2,.Ο 0 1 0 0),(3,ZW s),(4,.Ε [R p.Zb,R p.seen,R p.bare]),(7,ZW C)] (by simp[WH,I.cells,Yx]) ?_;have aw:d1.ζ.length<2 ^ 63:=U;refine Y' ?_;refine YR (A:=[8]) Τ λB i=>Z1 ?_;refine RX.c (va d1 aw 5 3 Z2 Z2 Z2) 0 rfl (ZZ.refl _) J (by
  rintro r ⟨s,p,rd,rfl,_⟩;simp[Yx,I.cells]) ?_
 rintro r d2 ⟨e,aQ,aR,rfl,ax⟩ aS;have D:=ax.vc;simp;(repeat (rw[Μ];simp));apply i;clear i B;refine W.Vw (σ0:=[ZV d2]) (ZO _) (λr u=>by simp at u;subst u;exact T7 d2 _) (λa F=>by simp[I.cells] at F;rcases F with rfl|rfl|rfl<;>simp[Yx,I.cells]) [(2,.Ο 0 1 0 0),(3,ZW s),(4,.Ε [R p.Zb,R p.seen,R p.bare]),(7,ZW C),(8,ZW e)] (by simp[WH,I.cells,Yx]) ?_;have ay:d2.ζ.length<2 ^ 63:=U;have az:=D.many;have aA:=D.small;obtain⟨nc,w⟩:=Z8 e.cells.length;rw[<-w] at az;obtain⟨V,X⟩:=Z8 ([ZU s.Κ,Z3 s.Β,Vx s.cells]);obtain⟨Y,Z⟩:=Z8 ([ZU C.Κ,Z3 C.Β,Vx C.cells]);obtain⟨aa,ab⟩:=Z8 ([ZU e.Κ,Z3 e.Β,Vx e.cells]);refine Y' ?_;refine YR (A:=[11]) Τ λB i=>Z1 ?_;refine uN e aA (.refl _) (by simp[I.cells,Yx]) ?_;simp[Nw,Nv]
 repeat (rw[Μ];simp[Nw,Nv])
 try rw[Sg]
 apply i;obtain⟨o,ag⟩:=Z8 (Y7 (ZU e.Κ) (Z3 e.Β) (.ms 3 nc 0 nc));refine W.to (σ':=ZV d2::.dead::.dead::.cells 60 1 (XI 4 e.cells)::(Xa e.cells++[o])) (env':=[(2,.Ο 0 1 0 0),(3,.Ε V),(4,.Ε [R p.Zb,R p.seen,R p.bare]),(7,.Ε Y),(8,.Ε aa),(11,.Ο (nc+4) 1 0 0)]) ?_ (by rw[ag];simp[w]) (by simp[w,Nv,X,Z,ab]);have ad:∀(v:Υ),v.length=nc->(v++[o])[nc]?=some (Y7 (ZU e.Κ) (Z3 e.Β) (.ms 3 nc 0 nc)):=λv h=>by rw[<-h,XT (ZO _),Qj,ag,<-h];rfl
 have ae:(Xa e.cells).length=nc:=by rw[Nv,w]
 have H:=ad _ ae
 have N:(XI 4 e.cells).length=nc:=by rw[Nw,w]
 refine μ (Ρ H N) ?_;refine W.uE (ι:=List (List Y9)×Zu) (λq=>q.1.length=nc/\q.2.ζ.length<=d.ζ.length/\Room s ⟨e.Κ,e.Β,q.1⟩)
  (λq=>[(3,.Ε V),(7,.Ε Y),(8,.Ε aa),(11,.Ο (nc+4) 1 0 0)]) (λq=>ZV q.2::.dead::.dead::.cells 60 1 (XI 4 q.1)::(Xa q.1++[o])) ?_ (λq O=>?_)
 .by_cases aB:nc=0
  .refine χ (by simp[aB]) ?_;refine W.skip ?_;refine W.stop ⟨rfl,(e.cells,d2),⟨w.symm,by simp only;omega,.inr (.inl D)⟩,rfl,J⟩
  refine υ (by simp;omega) ?_;have aC:IntKind.i64.wrap ((nc:Int)-1)=(nc:Int)-1:=IntWalk.i64_in _ U;have m:=U1 d2 ay ((nc:Int)-1);obtain⟨ah,ai⟩:=T8 d2 ((nc:Int)-1) U U;obtain⟨aj,ak⟩:=YN (XJ d2 ((nc:Int)-1));rw[ak] at m ah ai;obtain⟨c,rfl⟩:∃c:Nat,aj=c:=⟨aj.toNat,U⟩;have aD:=Xl d2 ((nc:Int)-1);obtain⟨d3,P⟩:=YN (d2.after ((nc:Int)-1));rw[P] at m aD;have aE:c<nc:=U;clear ak P ah ai;refine XM (Ρ H (Ρ N aC)) λB i=>?_;refine Ze.g (m) (Z1 ?_);apply i;have al:c<e.cells.length:=U;have K:=ε al;obtain⟨n,aF⟩:=Z8 (e.cells[c]);rw[<-aF] at K;have aT:=(D.cells n (Zk K)).hi;obtain⟨f,Q⟩:=Z8 (e.cells.set c (n++[p]));have M:f.length=nc:=by rw[Q,No,w]
  have S:Room s ⟨e.Κ,e.Β,f⟩:=.inr (.inr ⟨e,c,p,D,al,by unfold ο.more;rw[K,Q];rfl⟩)
  have T:(XI 4 e.cells)[c]?=some (.ms (c+4) n.length 0 n.length):=by rw[Dm,K,Nm];rfl
  have am:(Xa e.cells++[o])[c]?=some (.cells 28 3 (n.map Zv)):=by rw[YU U,Dl,K];rfl
  have an:(XI 4 e.cells).set c (.ms (c+4) (n.length+1) 0 (n.length+1))=XI 4 f:=by rw[Q,uM,Nm 4 c,Vo];rfl
  have ao:(Xa e.cells).set c (.cells 28 3 (n.map Zv++[Zv p]))=Xa f:=by rw[Q,uL,Xz];rfl
  obtain⟨aG,ap⟩:=Z8 (XI 4 e.cells);obtain⟨v,aq⟩:=Z8 (Xa e.cells);rw[<-ap] at N T an ⊢;rw[<-aq] at ae H am ao ⊢;clear ap aq;have aH:∀z,(v++[o]).set c z=v.set c z++[o]:=λz=>List.set_append_left _ _ U;have aI:∀z,(v.set c z++[o])[c]?=some z:=λz=>by rw[YU (by rw[No];omega),WE U]
  have aJ:∀z,(v.set c z++[o])[nc]?=some (Y7 (ZU e.Κ) (Z3 e.Β) (.ms 3 nc 0 nc)):=λz=>ad _ (by simpa using ae)
  have aK:∀h,aG[c]'h=.ms (c+4) n.length 0 n.length:=λh=>by rw[ε h] at T;exact WM T
  repeat apply Ζ
  refine W.Dq [0,1,3,4,6,7] [10] [3,nc+4] (A:=[43]) Τ mixed λB i=>?_;simp[H]
  repeat (rw[Dv];simp[Dx,seen,RU,H,aJ,N,T,aK,am,aH,aI,aE])
  try rw[Dw]
  refine⟨U,IW (by kernel_rfl),i _ _ ?_⟩;refine W.stop ⟨rfl,(f,d3),⟨M,by simp only;omega,S⟩,by rw[<-an,<-ao];(try simp[Zv]),J⟩
 obtain⟨f,d3⟩:=q;obtain⟨M,P,S⟩:=O;simp only at M P S ⊢;have aL:(Xa f).length=nc:=by rw[Nv,M]
 have aM:=ad _ aL;refine W.cut 1 (ZO _) [(3,.Ε V),(7,.Ε Y),(8,.Ε aa),(11,.Ε [ZU e.Κ,Z3 e.Β,Vx f])] J (λid r aU u=>by
  obtain rfl:id=0:=U;simp at u;subst u;exact T7 d3 _) (λq O=>by
  simp only[YZ,XY,or_false] at O;rcases O with rfl|rfl|rfl|rfl
  .exact .low (by simp[X,I.cells,Yx])
  .exact .low (by simp[Z,I.cells,Yx])
  .exact .low (by simp[ab,I.cells,Yx])
  .refine Yu.struct (id:=nc+4) (t:=26) (k:=3) (l:=[ZU e.Κ,Z3 e.Β,.ms 3 nc 0 nc]) U (by simp[aM]) rfl (λy a aV m E=>?_)
   match y with
   | 0=>simp at m E;subst m;subst E;exact .low (by simp[I.cells,Yx])
   | 1=>simp at m E;subst m;subst E;exact .low (by simp[I.cells,Yx])
   | 2=>
    simp at m E;subst m;subst E;have:=uJ (h:=1) (b:=4) (id:=3) (σ:=ZV d3::.dead::.dead::.cells 60 1 (XI 4 f)::(Xa f++[o])) (L:=f) Z2 Z2 (λj l ar=>by
     have aN:j<(Xa f).length:=by rw[Nv];exact(ZD.1 ar).1
     rw[show 4+j=j+4 by omega];simp only[List.getElem?_cons_succ];rw[YU aN,Dl,ar];rfl) rfl
    rw[M] at this;exact this
   | y+3=>simp at m) ?_
 rw[List.take_succ_cons,List.take_zero,X,Z,ab];refine Φ ?_;refine W.ret ⟨_,rfl,[s,C,e,⟨e.Κ,e.Β,f⟩],d3,.refl _,rfl,λx au=>?_,rfl,U⟩;simp only[YZ,XY,or_false] at au;rcases au with rfl|rfl|rfl|rfl
 .exact .inl rfl
 .exact .inr (.inl av)
 .exact .inr (.inl D)
 .exact S
theorem uB (s:ο) (v:s.small):Ν Tryz.prog 31 [Zd s,Zd s] (ZQ true):=by
 obtain⟨F,H,I,w,y⟩:=v;have o:=II s.Β s.Β U (λx B=>by have:=w x B;omega);simp only[beq_self_eq_true] at o;refine Δ.body Τ Tryz.func31 rfl rfl Tryz.ntmps31 rfl rfl J ?_
 repeat apply Ζ
 refine TJ ?_
 repeat apply Ζ
 refine W.Xv (A:=[]) Τ [(31,ZQ false),(2,ZW s),(3,ZW s)] [] ?_ (by
  (try simp);(repeat (rw[Μ];simp));(try simp);refine Ν.c o (ZZ.refl _) J J ?_;(try simp);(repeat (rw[Μ];simp));(try simp))
 refine χ rfl ?_;refine Φ ?_;refine W.iter (λi:Nat=>i<=s.Κ.length) (λi=>[(2,ZW s),(3,ZW s),(5,R i)]) (λ_=>[]) (λi=>s.Κ.length-i) 0 (ω _) rfl J (λi hi m=>?_);by_cases a:i<s.Κ.length
 .have d:(i:Int)<(s.Κ.length:Int):=U
  have b:=ε a;obtain⟨g,e⟩:=Z8 (s.Κ[i]);rw[<-e] at b;have f:∀h,s.Κ[i]'h=g:=λh=>e.symm;have j:=Qp (i:=i) U;refine μ d ?_;refine υ J ?_
  repeat apply Ζ
  refine W.S8 (A:=[]) Τ mixed [(49,ZQ false),(2,ZW s),(3,ZW s),(5,R i)] [] ?_ (by
   have C:(g.name==g.name)=true:=by
    show(g.name.data==g.name.data)=true;simp
   simp;(repeat (rw[Zf];simp[b,f,a,C]));(try rw[Zg]);refine⟨Ym (by kernel_rfl),?_⟩;simp)
  refine χ rfl ?_;refine μ j ?_;exact W.to (m (i+1) a U) rfl (by simp[j])
 have d:¬(i:Int)<(s.Κ.length:Int):=U;clear m;refine μ d ?_;refine χ J ?_;refine W.exit rfl ?_;refine Φ ?_;refine W.iter (λi:Nat=>i<=s.cells.length) (λi=>[(2,ZW s),(3,ZW s),(6,R i)]) (λ_=>[]) (λi=>s.cells.length-i) 0 (ω _) rfl J (λi hi m=>?_);by_cases a:i<s.cells.length
 .have d:(i:Int)<(s.cells.length:Int):=U
  have b:=ε a;obtain⟨g,e⟩:=Z8 (s.cells[i]);have K:=y g (e▸YB a);rw[<-e] at b;have f:∀h,s.cells[i]'h=g:=λh=>e.symm;have j:=Qp (i:=i) U;refine μ d ?_;refine υ J ?_
  repeat apply Ζ
  refine W.S8 (A:=[]) Τ mixed [(69,ZQ false),(2,ZW s),(3,ZW s),(6,R i)] [] ?_ (by
   simp;(repeat (rw[Zf];simp[b,f,a]));(try rw[Zg]);refine⟨Ym (by kernel_rfl),?_⟩;simp)
  refine χ rfl ?_;refine Φ ?_;refine W.iter (λk:Nat=>k<=g.length) (λk=>[(2,ZW s),(3,ZW s),(6,R i),(7,R k)]) (λ_=>[]) (λk=>g.length-k) 0 (ω _) rfl J (λk L D=>?_);by_cases l:k<g.length
  .have n:(k:Int)<(g.length:Int):=U
   have r:=ε l;obtain⟨p,t⟩:=Z8 (g[k]);rw[<-t] at r;have E:∀h,g[k]'h=p:=λh=>t.symm;have u:=Qp (i:=k) U;refine μ (Ρ b (Ρ f (Ρ a n))) ?_;refine υ (by simp[l]) ?_
   repeat apply Ζ
   refine W.S8 (A:=[]) Τ mixed [(96,ZQ false),(2,ZW s),(3,ZW s),(6,R i),(7,R k)] [] ?_ (by
    simp;(repeat (rw[Zf];simp[b,f,a,r,E,l]));(try rw[Zg]);refine⟨Ym (by kernel_rfl),?_⟩;simp)
   refine χ rfl ?_;refine μ u ?_;exact W.to (D (k+1) l U) rfl (by simp[u])
  have n:¬(k:Int)<(g.length:Int):=U;refine μ (Ρ b (Ρ f (Ρ a n))) ?_;refine χ (by simp[l]) ?_;refine W.exit rfl ?_;refine μ j ?_;exact W.to (m (i+1) a U) rfl (by simp[j])
 have d:¬(i:Int)<(s.cells.length:Int):=U;refine μ d ?_;refine χ J ?_;refine W.exit rfl ?_;refine Φ ?_;refine W.rt ?_;exact .of rfl
theorem uA (s:ο):Ν Tryz.prog 20 [Zd s] (ZQ s.Se):=by
 refine Δ.body Τ Tryz.func20 rfl rfl Tryz.ntmps20 rfl rfl J ?_;by_cases g:(20:Int)<s.Κ.length\/(20:Int)<s.Β.length\/(20:Int)<s.cells.length
 .have n:s.Se=true:=by
   unfold ο.Se;have:20<s.Κ.length\/20<s.Β.length\/20<s.cells.length:=U;rcases this with h|h|h<;>simp[h]
  rw[n];by_cases d:(20:Int)<s.Κ.length
  .refine μ @d ?_;refine υ rfl ?_;refine Φ ?_;refine W.rt ?_;exact .refl _
  by_cases f:(20:Int)<s.Β.length
  .refine μ (Ρ @d f) ?_;refine υ rfl ?_;refine Φ ?_;refine W.rt ?_;exact .refl _
  have k:(20:Int)<s.cells.length:=U;refine μ (Ρ @d (Ρ f k)) ?_;refine υ rfl ?_;refine Φ ?_;refine W.rt ?_;exact .refl _
 have d:¬(20:Int)<s.Κ.length:=λh=>g (.inl h)
 have f:¬(20:Int)<s.Β.length:=λh=>g (.inr (.inl h))
 have k:¬(20:Int)<s.cells.length:=λh=>g (.inr (.inr h))
 have el:s.Se=(s.Β.any (λx=>decide (20<x.length))||s.cells.any λx=>decide (20<x.length)):=by
  unfold ο.Se;have o:¬20<s.Κ.length:=U;have p:¬20<s.Β.length:=U;have r:¬20<s.cells.length:=U;simp only[o,p,r,decide_false,Bool.false_or]
 rw[el];clear el;refine μ (Ρ @d (Ρ f k)) ?_;refine χ rfl ?_;refine Φ ?_;refine W.iter (λi:Nat=>i<=s.Β.length/\∀j,j<i->(h:j<s.Β.length)->¬20<s.Β[j].length) (λi=>[(1,ZW s),(3,R i)]) (λ_=>[]) (λi=>s.Β.length-i) 0 ⟨ω _,λj c=>U⟩ rfl J (λi hi l=>?_);refine Φ ?_;refine W.YW rfl (λa=>?_) (λa=>?_)
 .have a:i<s.Β.length:=by simpa using a
  refine μ a ?_;refine W.YW rfl (λb=>?_) (λb=>?_)
  .have b:20<s.Β[i].length:=by simp at b;omega
   refine Φ ?_;refine W.rt ?_;refine .of ?_;have:(s.Β.any λx=>decide (20<x.length))=true:=Np.2 ⟨_,YB a,by simpa using b⟩;rw[this,Bool.true_or];rfl
  .have b:¬20<s.Β[i].length:=by simp at b;omega
   refine Φ ?_;refine W.forget _ ?_ (l (i+1) ⟨a,λj c h=>?_⟩ U)
   .simp[YF a (show s.Β.length<2 ^ 62 by omega)]
   .by_cases e:j=i
    .subst e;exact b
    .exact hi.2 j U h
 have a:i=s.Β.length:=by simp at a;omega
 have el:(s.Β.any λx=>decide (20<x.length))=false:=by
  rw[Q7];intro x m;obtain⟨j,c,rfl⟩:=T0 m;simpa using hi.2 j U c
 rw[el,Bool.false_or];refine W.exit rfl ?_;refine Φ ?_;refine W.iter (λi:Nat=>i<=s.cells.length/\∀j,j<i->(h:j<s.cells.length)->¬20<s.cells[j].length) (λi=>[(1,ZW s),(4,R i)]) (λ_=>[]) (λi=>s.cells.length-i) 0 ⟨ω _,λj c=>U⟩ rfl J (λi hi l=>?_);refine Φ ?_;refine W.YW rfl (λa=>?_) (λa=>?_)
 .have a:i<s.cells.length:=by simpa using a
  refine μ a ?_;refine W.YW rfl (λb=>?_) (λb=>?_)
  .have b:20<s.cells[i].length:=by simp at b;omega
   refine Φ ?_;refine W.rt ?_;refine .of ?_;have:(s.cells.any λx=>decide (20<x.length))=true:=Np.2 ⟨_,YB a,by simpa using b⟩;rw[this];rfl
  .have b:¬20<s.cells[i].length:=by simp at b;omega
   refine Φ ?_;refine W.forget _ ?_ (l (i+1) ⟨a,λj c h=>?_⟩ U)
   .simp[YF a (show s.cells.length<2 ^ 62 by omega)]
   .by_cases e:j=i
    .subst e;exact b
    .exact hi.2 j U h
 have a:i=s.cells.length:=by simp at a;omega
 have el:(s.cells.any λx=>decide (20<x.length))=false:=by
  rw[Q7];intro x m;obtain⟨j,c,rfl⟩:=T0 m;simpa using hi.2 j U c
 rw[el];refine W.exit rfl ?_;refine Φ ?_;refine W.rt ?_;exact .refl _
theorem uz {s:ο} (h:s.Se=false):s.small:=by
 unfold ο.Se at h;simp only[Bool.or_eq_false_iff,decide_eq_false_iff_not,Q7,decide_eq_true_eq] at h;obtain⟨⟨⟨⟨d,e⟩,f⟩,b⟩,c⟩:=h;exact⟨U,U,U,λx a=>by have:=b x a;omega,λx a=>by have:=c x a;omega⟩
end Go.TL
namespace Go.TL
open Go.Proofs
theorem Dh [ZS] (a b c d e f:List Int) (j Χ k l m o:Bool):Y4 (.sl true 1 [.sl j 1 (a.map R),.sl Χ 1 (b.map R),.sl k 1 (c.map R),.sl l 1 (d.map R),.sl m 1 (e.map R),.sl o 1 (f.map R)]) (Z3 [a,b,c,d,e,f]):=.sl rfl λi u v g h=>by
 match i with
 | 0=>simp at g h;subst g;subst h;exact .one .ex rfl rfl
 | 1=>simp at g h;subst g;subst h;exact .one .ex rfl rfl
 | 2=>simp at g h;subst g;subst h;exact .one .ex rfl rfl
 | 3=>simp at g h;subst g;subst h;exact .one .ex rfl rfl
 | 4=>simp at g h;subst g;subst h;exact .one .ex rfl rfl
 | 5=>simp at g h;subst g;subst h;exact .one .ex rfl rfl
 | n+6=>simp at g
theorem uy (s:ο) (p:Y9) (is m:List Int) (S n:Int) (l:List Int) (br:l.length<2 ^ 63) :
  @W Sz Tryz.prog 0 260 [.code (Tryz.f8.body.getD .skip)] (entry 0 [Zd s,Zv p,κ R 1 is,κ R 1 m,R S,R n,κ R 1 l]) [] (λj env _=>(∃k,j=.code .ret::k)/\Z' env 14=ZQ true) (λ_ _ _=>False):=by
 letI:ZS:=Sz;show W Tryz.prog 0 260 [.code _] _ _ _ _;refine W.seq ?_
 repeat apply Ζ
 refine TJ ?_;have Z:=uA s;by_cases aj:s.Se=true\/20<is.length\/20<m.length
 case pos=>
  repeat apply Ζ
  refine W.Xv (A:=[]) Τ [(50,ZQ true)] [] ?_ (by
   cases af:s.Se
   .rw[af] at Z;by_cases aa:20<is.length
    .have F:20<(is.length:Int):=U
     (try simp);(repeat (rw[Μ];simp[F]));(try simp[F]);refine Ν.c Z (ZZ.refl _) J J ?_;(try simp);(repeat (rw[Μ];simp[F]));(try simp[F])
    .have ak:20<m.length:=by rcases aj with h|h|h;· rw[af] at h;cases h
                             .exact absurd h aa
                             .exact h
     have F:¬20<(is.length:Int):=U
     have X:20<(m.length:Int):=U;(try simp);(repeat (rw[Μ];simp[F,X]));(try simp[F,X]);refine Ν.c Z (ZZ.refl _) J J ?_;(try simp);(repeat (rw[Μ];simp[F,X]));(try simp[F,X])
   .rw[af] at Z;(try simp);(repeat (rw[Μ];simp));(try simp);refine Ν.c Z (ZZ.refl _) J J ?_;(try simp);(repeat (rw[Μ];simp));(try simp))
  refine υ rfl ?_;refine ZB λN f=>?_;refine Ν.d (Ej) (Z1 ?_);apply f;exact W.stop ⟨⟨_,rfl⟩,rfl⟩
 have af:s.Se=false:=by cases h:s.Se;rfl;exact absurd (.inl h) aj
 have bs:is.length<=20:=by have:=λh=>aj (.inr (.inl h));omega
 have bt:m.length<=20:=by have:=λh=>aj (.inr (.inr h));omega
 have aX:=uz af;rw[af] at Z;clear af aj
 repeat apply Ζ
 refine W.Xv (A:=[]) Τ [(50,ZQ false),(2,κ R 1 is),(3,κ R 1 m),(4,R S),(5,R n),(6,κ R 1 l),(7,ZW s),(8,.Ε [R p.Zb,R p.seen,R p.bare])] [] ?_ (by
  have F:¬20<(is.length:Int):=U
  have X:¬20<(m.length:Int):=U;(try simp);(repeat (rw[Μ];simp[F,X]));(try simp[F,X]);refine Ν.c Z (ZZ.refl _) J J ?_;(try simp);(repeat (rw[Μ];simp[F,X]));(try simp[F,X]))
 clear Z;refine χ rfl ?_;refine ZB λN f=>?_;refine Δ.call (first:=[]) (captured:=[]) ((vh l).mono (λa s ⟨ab,aa⟩=>?_) (λ_ _ h=>h.elim));subst ab;subst aa;simp;(repeat (rw[Μ];simp));apply f;have aD:(⟨l,1⟩:Zu).ζ.length<2 ^ 63:=br;generalize (⟨l,1⟩:Zu)=d0 at aD;refine ZB λN f=>?_;refine Δ.call (first:=[]) (captured:=[]) ((uC s aX p d0 aD).mono (λa bD h=>?_) (λ_ _ h=>h.elim));obtain⟨L,d1,O,aY,aZ,rfl,bu⟩:=h;simp;(repeat (rw[Μ];simp));apply f;refine W.Yo [(2,κ R 1 is),(3,κ R 1 m),(4,R S),(5,R n),(15,.Ο 0 1 0 0),(16,.sl true 3 (L.map Zd))] (λq o=>by
  simp only[YZ,XY,or_false] at o;rcases o with rfl|rfl|rfl|rfl|rfl|rfl
  .exact .refl _
  .exact .refl _
  .exact .refl _
  .exact .refl _
  .exact .refl _
  .exact O) ?_
 have bv:d1.ζ.length<2 ^ 63:=U;clear O aD bu;obtain⟨al,ad,ae,am,rfl⟩:∃al ad ae am,L=[al,ad,ae,am]:=by
  match L,aY with
  | [a,b,c,d],_=>exact⟨a,b,c,d,rfl⟩
 have aE:∀x∈[al,ad,ae,am,ad,ae],x.small:=λx t=>(aZ x (by simp at t ⊢;rcases t with h|h|h|h|h|h<;>simp[h])).small aX;clear aZ aY
 repeat apply Ζ
 refine W.S8 (A:=[]) Τ mixed [(2,κ R 1 is),(3,κ R 1 m),(4,R S),(5,R n),(15,.Ο 0 1 0 0),(16,κ Zd 3 [al,ad,ae,am,ad,ae])] [ZV d1] ?_ (by
  simp;(repeat (rw[Zf];simp));(try rw[Zg]);refine⟨Ym (by kernel_rfl),?_⟩;simp)
 obtain⟨H,aF⟩:=Z8 ([al,ad,ae,am,ad,ae]);have M:H.length=6:=by rw[aF];rfl
 rw[<-aF] at aE ⊢;clear aF;have ab:=U1 d1 bv 2;obtain⟨a0,a1⟩:=T8 d1 2 U U;have a2:=Xl d1 2;obtain⟨ag,a3⟩:=YN (XJ d1 2);rw[a3] at ab a0 a1;generalize d1.after 2=d2 at ab a2;obtain⟨u,v,a4⟩:∃u v:Int,(ag=0/\u=1/\v=0)\/(ag=1/\u=2/\v=0)\/(ag=2/\u=2/\v=1):=by
  rcases(show ag=0\/ag=1\/ag=2 by omega) with h|h|h
  .exact⟨1,0,.inl ⟨h,rfl,rfl⟩⟩
  .exact⟨2,0,.inr (.inl ⟨h,rfl,rfl⟩)⟩
  .exact⟨2,1,.inr (.inr ⟨h,rfl,rfl⟩)⟩
 clear a3 a0 a1
 repeat apply Ζ
 refine W.Xv (A:=[]) Τ [(2,κ R 1 is),(3,κ R 1 m),(4,R S),(5,R n),(15,.Ο 0 1 0 0),(16,κ Zd 3 H),(17,YO [u,v])] [ZV d2] ?_ (by
  rcases a4 with⟨rfl,rfl,rfl⟩|⟨rfl,rfl,rfl⟩|⟨rfl,rfl,rfl⟩
  ·(try simp);(repeat (rw[Μ];simp));(try simp);refine Ze.c ab 0 rfl (ZZ.refl _) J J ?_;(try simp);(repeat (rw[Μ];simp));(try simp)
  ·(try simp);(repeat (rw[Μ];simp));(try simp);refine Ze.c ab 0 rfl (ZZ.refl _) J J ?_;(try simp);(repeat (rw[Μ];simp));(try simp)
  ·(try simp);(repeat (rw[Μ];simp));(try simp);refine Ze.c ab 0 rfl (ZZ.refl _) J J ?_;(try simp);(repeat (rw[Μ];simp));(try simp))
 clear ab a4;have aa:=Ra d2 U (-1) 3;have a5:=Xl d2 (IntKind.i64.wrap (3-(-1)));generalize Vb d2 (-1) 3=aG at aa;generalize d2.after (IntKind.i64.wrap (3-(-1)))=d3 at aa a5;have ak:=Ra d3 U (-1) 3;have a6:=Xl d3 (IntKind.i64.wrap (3-(-1)));generalize Vb d3 (-1) 3=aH at ak;generalize d3.after (IntKind.i64.wrap (3-(-1)))=d4 at ak a6;have au:=Ra d4 U (-1) 2;have a7:=Xl d4 (IntKind.i64.wrap (2-(-1)));generalize Vb d4 (-1) 2=aI at au;generalize d4.after (IntKind.i64.wrap (2-(-1)))=d5 at au a7;have av:=Ra d5 U (-1) 2;have a8:=Xl d5 (IntKind.i64.wrap (2-(-1)));generalize Vb d5 (-1) 2=aJ at av;generalize d5.after (IntKind.i64.wrap (2-(-1)))=d6 at av a8;have aw:=U1 d6 U 3;have a9:=Xl d6 3;generalize XJ d6 3=a' at aw;generalize d6.after 3=d7 at aw a9;have ax:=U1 d7 U 2;have ba:=Xl d7 2;generalize XJ d7 2=bb at ax;generalize d7.after 2=d8 at ax ba
 repeat apply Ζ
 refine TJ ?_;refine ZB λN f=>?_;refine Ze.g (aa) (Z1 ?_);refine Ze.g (ak) (Z1 ?_);refine Ze.g (au) (Z1 ?_);refine Ze.g (av) (Z1 ?_);apply f;refine ZB λN f=>?_;refine Ze.g (aw) (Z1 ?_);refine Ze.g (ax) (Z1 ?_);apply f;clear aa ak au av aw ax;refine Φ ?_;have bw:d8.ζ.length<2 ^ 63:=U;clear a2 a5 a6 a7 a8 a9 ba;refine W.Yo [(5,R n),(15,.Ο 0 1 0 0),(16,κ Zd 3 H),(18,Z3 [is,[u,v],[u,v],[u,v],is,[u,v]]),(19,Z3 [m,[aG,aH],[aI,aJ],[0,-1],[0,0],m]),(20,YO [S,a',bb,0,0,S]),(21,R 0)] (λq o=>by
  simp only[YZ,XY,or_false] at o;rcases o with rfl|rfl|rfl|rfl|rfl|rfl|rfl
  .exact .refl _
  .exact .refl _
  .exact .refl _
  .exact Dh is [u,v] [u,v] [u,v] is [u,v] _ _ _ _ _ _
  .exact Dh m [aG,aH] [aI,aJ] [0,-1] [0,0] m _ _ _ _ _ _
  .exact .refl _
  .exact .refl _) ?_
 obtain⟨A,ay⟩:=Z8 ([is,[u,v],[u,v],[u,v],is,[u,v]]);obtain⟨B,az⟩:=Z8 ([m,[aG,aH],[aI,aJ],[0,-1],[0,0],m]);obtain⟨C,aK⟩:=Z8 ([S,a',bb,0,0,S]);have an:A.length=6:=by rw[ay];rfl
 have ao:B.length=6:=by rw[az];rfl
 have bc:C.length=6:=by rw[aK];rfl
 have bd:∀x∈A,x.length<=20:=λx t=>by
  rw[ay] at t;simp only[YZ,XY,or_false] at t;rcases t with rfl|rfl|rfl|rfl|rfl|rfl<;>first|exact bs|simp
 have be:∀x∈B,x.length<=20:=λx t=>by
  rw[az] at t;simp only[YZ,XY,or_false] at t;rcases t with rfl|rfl|rfl|rfl|rfl|rfl<;>first|exact bt|simp
 rw[<-ay,<-az,<-aK];clear ay az aK;refine W.iter (λi:Nat=>i<=6) (λi=>[(5,R n),(15,.Ο 0 1 0 0),(16,κ Zd 3 H),(18,Z3 A),(19,Z3 B),(20,YO C),(21,R i)]) (λ_=>[ZV d8]) (λi=>6-i) 0 (ω _) rfl J (λi hi aA=>?_);by_cases K:i<6
 case neg=>
  have D:¬(i:Int)<6:=U;clear aA;refine μ (Ρ M D) ?_;refine χ J ?_;refine W.exit rfl ?_;have aL:=U1 d8 bw 63;generalize XJ d8 63=w at aL;generalize d8.after 63=d9 at aL;refine ZB λN f=>?_;refine Ze.g (aL) (Z1 ?_);apply f;refine W.cut 0 (ω _) [(33,YO [n,w])] (ω _) (λid r h=>absurd h (Nat.not_lt_zero _)) (λq o=>by
   simp only[YZ,XY,or_false] at o;subst o;exact .low J) ?_
  rw[List.take_zero];obtain⟨E,aM⟩:=Z8 ([n,w]);have aB:E.length=2:=by rw[aM];rfl
  rw[<-aM];clear aM;refine Φ ?_;refine W.iter (λj:Nat=>j<=2) (λj=>[(33,YO E),(34,R j)]) (λ_=>[]) (λj=>2-j) 0 (ω _) rfl J (λj bE bx=>?_);by_cases bf:j<2
  case neg=>
   have ap:¬(j:Int)<2:=U;refine μ (Ρ aB ap) ?_;refine χ J ?_;refine W.exit rfl ?_;refine ZB λN f=>?_;refine Ν.d (Ej) (Z1 ?_);apply f;exact W.stop ⟨⟨_,rfl⟩,rfl⟩
  have ap:(j:Int)<2:=U
  have bg:=Qp (i:=j) U
  have aN:=ε (show j<E.length by omega);obtain⟨e,aO⟩:=Z8 (E[j]);rw[<-aO] at aN;have bh:∀h,E[j]'h=e:=λh=>aO.symm;clear aO;have aP:=FQ e;have aQ:=uW e;generalize (if valid e then VZ e else 0)=bF at aP aQ;generalize (if valid e then(0:Int) else 1)=bG at aP aQ;refine μ (Ρ aB ap) ?_;refine υ J ?_;refine XM (Ρ aN (Ρ bh (Ρ aB (Ρ bf ap)))) λN f=>?_;refine Ν.c aP (ZZ.refl _) J J ?_;rw[O6];(repeat (rw[Μ];simp));apply f;refine XM (Ρ aN (Ρ bh (Ρ aB (Ρ bf ap)))) λN f=>?_;refine Ν.c aQ (ZZ.refl _) J J ?_;rw[O6];(repeat (rw[Μ];simp));apply f;refine Φ ?_;refine χ J ?_;refine μ bg ?_;exact W.to (bx (j+1) U U) rfl (by simp[bg])
 have D:(i:Int)<6:=U
 have bi:=Qp (i:=i) U
 have P:=ε (show i<H.length by omega);obtain⟨x,t⟩:=Z8 (H[i]);have Q:=aE x (t▸YB _);rw[<-t] at P;have Y:∀h,H[i]'h=x:=λh=>t.symm;have ah:=ε (show i<A.length by omega);obtain⟨a,O⟩:=Z8 (A[i]);have bH:=bd a (O▸YB _);rw[<-O] at ah;have aq:∀h,A[i]'h=a:=λh=>O.symm;have ai:=ε (show i<B.length by omega);obtain⟨b,aC⟩:=Z8 (B[i]);have bI:=be b (aC▸YB _);rw[<-aC] at ai;have ar:∀h,B[i]'h=b:=λh=>aC.symm;have aR:=ε (show i<C.length by omega);obtain⟨c,aS⟩:=Z8 (C[i]);rw[<-aS] at aR;have bj:∀h,C[i]'h=c:=λh=>aS.symm;clear t O aC aS bd be aE;have aA:=aA (i+1) U U;have bz:=zA x Q;have bA:=IK a U;have bB:=IK b U;have bk:=Ev x Q a b c;have bl:=uZ x Q a b c U U;have t1:=zT x Q;have t2:=uF x Q;have bm:=ME x Q;have bn:=HL x Q;have bC:=uB x Q;have bo:=Kv a a U;have bp:=Kv b b U;have aT:=II (if x.err=0 then twins x.Κ else []) (if x.err=0 then twins x.Κ else []) (by
  have bJ:=Q.1
  have:=Dk x.Κ x.Κ.length;split
  .exact Nr this U
  .simp) (λy aU=>by
  split at aU
  .obtain⟨q,_,o⟩:=List.mem_flatMap.1 aU;unfold WG at o;split at o
   .cases o
   .split at o
    .rw[List.mem_singleton.1 o];simp
    .cases o
  .cases aU)
 simp only[beq_self_eq_true] at bo bp aT;generalize U3 x a b c=V at bk bl;obtain⟨aV,aW⟩:=V;generalize (if x.err=0 then twins x.Κ else [])=T at t1 t2 aT;generalize x.err=bK at t1 t2 bm bn;clear Q;refine μ (Ρ M D) ?_;refine υ J ?_
 repeat apply Ζ
 refine W.S8 (A:=[22]) Τ mixed [(5,R n),(15,.Ο 0 1 0 0),(16,κ Zd 3 H),(18,Z3 A),(19,Z3 B),(20,YO C),(21,R i),(22,.Ο 1 1 0 0),(23,κ R 1 a),(24,κ R 1 b)] [ZV d8,Y7 (ZU x.Κ) (Z3 x.Β) (Vx x.cells)] ?_ (by
  simp;(repeat (rw[Zf];simp[P,Y,M,K,D,ah,aq,an,ai,ar,ao]));(try rw[Zg]);refine Yl (Ν.p bz (ZZ.refl _) J J) ?_;simp;(repeat (rw[Zf];simp[P,Y,M,K,D,ah,aq,an,ai,ar,ao]));(try rw[Zg]);refine Yl (Ν.p bA (ZZ.refl _) J J) ?_;simp;(repeat (rw[Zf];simp[P,Y,M,K,D,ah,aq,an,ai,ar,ao]));(try rw[Zg]);refine Yl (Ν.p bB (ZZ.refl _) J J) ?_;simp;(repeat (rw[Zf];simp));(try rw[Zg]);refine⟨Ym (by kernel_rfl),?_⟩;simp)
 refine W.Vw (σ0:=[ZV d8]) (ω _) (λr bq=>by simp at bq;subst bq;exact T7 d8 _) (λa O=>by simp[I.cells] at O;rcases O with rfl|rfl|rfl<;>simp[Yx,I.cells]) [(5,R n),(15,.Ο 0 1 0 0),(16,κ Zd 3 H),(18,Z3 A),(19,Z3 B),(20,YO C),(21,R i),(22,ZW x),(23,κ R 1 a),(24,κ R 1 b)] (by simp[WH,I.cells,Yx]) ?_
 repeat apply Ζ
 refine W.S8 (A:=[]) Τ mixed [(5,R n),(15,.Ο 0 1 0 0),(16,κ Zd 3 H),(18,Z3 A),(19,Z3 B),(20,YO C),(21,R i),(22,ZW x),(23,κ R 1 a),(24,κ R 1 b),(25,R aV),(26,R aW)] [ZV d8] ?_ (by
  simp;(repeat (rw[Zf];simp[aR,bj,bc,K,D]));(try rw[Zg]);refine Yl (Ν.p bk (ZZ.refl _) J J) ?_;simp;(repeat (rw[Zf];simp));(try rw[Zg]);refine⟨Ym (by kernel_rfl),?_⟩;simp)
 repeat apply Ζ
 refine W.S8 (A:=[]) Τ mixed [(5,R n),(15,.Ο 0 1 0 0),(16,κ Zd 3 H),(18,Z3 A),(19,Z3 B),(20,YO C),(21,R i),(22,ZW x),(23,κ R 1 a),(24,κ R 1 b),(25,R aV),(26,R aW),(27,R aV),(28,R aW)] [ZV d8] ?_ (by
  simp;(repeat (rw[Zf];simp[aR,bj,bc,K,D,P,Y,M,ah,aq,an,ai,ar,ao]));(try rw[Zg]);refine Yl (Ν.p bl (ZZ.refl _) J J) ?_;simp;(repeat (rw[Zf];simp));(try rw[Zg]);refine⟨Ym (by kernel_rfl),?_⟩;simp)
 refine ZB λN f=>?_;refine Ν.c t1 (ZZ.refl _) J J ?_;rw[O6];(repeat (rw[Μ];simp));apply f;refine XM (Ρ P (Ρ Y (Ρ M (Ρ K D)))) λN f=>?_;refine Ν.c t2 (ZZ.refl _) J J ?_;rw[O6];(repeat (rw[Μ];simp));apply f
 repeat apply Ζ
 refine W.S8 (A:=[]) Τ mixed [(224,ZQ false),(5,R n),(15,.Ο 0 1 0 0),(16,κ Zd 3 H),(18,Z3 A),(19,Z3 B),(20,YO C),(21,R i)] [ZV d8] ?_ (by
  simp;(repeat (rw[Zf];simp[P,Y,M,K,D]));(try rw[Zg]);refine Yl (Ν.p bm (ZZ.refl _) J J) ?_;simp;(repeat (rw[Zf];simp[P,Y,M,K,D]));(try rw[Zg]);refine Yl (Ν.p bn (ZZ.refl _) J J) ?_;simp;(repeat (rw[Zf];simp[P,Y,M,K,D]));(try rw[Zg]);refine Yl (Ν.p aT (ZZ.refl _) J J) ?_;simp;(repeat (rw[Zf];simp[P,Y,M,K,D]));(try rw[Zg]);refine Yl (Ν.p bC (ZZ.refl _) J J) ?_;simp;(repeat (rw[Zf];simp[ah,aq,an,K,D]));(try rw[Zg]);refine Yl (Ν.p bo (ZZ.refl _) J J) ?_;simp;(repeat (rw[Zf];simp[ai,ar,ao,K,D]));(try rw[Zg]);refine Yl (Ν.p bp (ZZ.refl _) J J) ?_;simp;(repeat (rw[Zf];simp));(try rw[Zg]);refine⟨Ym (by kernel_rfl),?_⟩;simp)
 refine χ rfl ?_;refine μ bi ?_;exact W.to aA rfl (by simp[bi])
end Go.TL
