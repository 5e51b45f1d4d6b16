import Derived.Sort.LotA
import Derived.Test.YtlabjopijpkiaaaGreatGAE
set_option maxHeartbeats 16000000
set_option maxRecDepth 20000
set_option linter.unusedSectionVars false
set_option linter.unusedSimpArgs false
set_option linter.unusedVariables false
namespace Go.TL
open Go.Proofs.Tryz
open Go.Sort (SWO bitsLen insInner insOuter insertionSort insertionSort_holds ltInt sorted_unique_holds swo_ltInt swp)
open Go.Proofs
variable [ZS]
instance:Inhabited Found:=⟨⟨0,0,[]⟩⟩
theorem Ai (d:Array (Int×Int)) (n a b:Nat) (V:d.size=n) (ah:a<=b) (ai:b<=n) (aj:n<2 ^ 40) (l:I) (c:Int×Int->Int×Int->Int) (ak:Γ 0 l) (X:∀x y,VM prog l [Zo x,Zo y] (R (c x y))) :
  Δ prog 234 [.ms 0 n 0 n,R a,R b,l] [.cells 112 2 (d.toList.map Zo)] (λr s=>r=.ZP []/\s=[.cells 112 2 ((insertionSort (YD c) d a b).toList.map Zo)]) (λ_ _=>False):=by
 refine Δ.body Τ func234 rfl rfl ntmps234 rfl rfl J ?_;refine Φ ?_;have Y:=Xw (show a+1<2 ^ 62 by omega);refine W.iter (λq:Nat×Array (Int×Int)=>q.2.size=n/\insOuter (YD c) a b q.1 q.2=insertionSort (YD c) d a b) (λq=>[(0,.ms 0 n 0 n),(1,R a),(2,R b),(3,l),(8,R q.1)]) (λq=>[.cells 112 2 (q.2.toList.map Zo)]) (λq=>b-q.1) (a+1,d) ⟨V,rfl⟩ rfl (by simpa using Y) (λq hi H=>?_);obtain⟨i,e⟩:=q;obtain⟨K,B⟩:=hi;simp only at K B;refine Φ ?_;by_cases o:i<b
 .refine υ (by simp[o]) ?_;refine Φ ?_;refine W.iter (λq:Nat×Array (Int×Int)=>q.2.size=n/\q.1<=i/\insInner (YD c) a q.1 q.2=insInner (YD c) a i e) (λq=>[(0,.ms 0 n 0 n),(1,R a),(2,R b),(3,l),(8,R i),(9,R q.1)]) (λq=>[.cells 112 2 (q.2.toList.map Zo)]) (λq=>q.1) (i,e) ⟨K,ZO _,rfl⟩ rfl J (λq g Z=>?_);obtain⟨j,f⟩:=q;obtain⟨m,aa,C⟩:=g;simp only at m aa C;have M:insInner (YD c) a j f=f->insOuter (YD c) a b (i+1) f=insertionSort (YD c) d a b:=λhd=>by
   rw[<-B,<-hd,C];conv=>rhs;rw[insOuter,if_pos o]
  obtain⟨L,k⟩:=Z8 (f.toList.map Zo);have N:L.length=n:=by rw[k];simpa using m
  refine W.to (σ':=[.cells 112 2 L]) (env':=[(0,.ms 0 n 0 n),(1,R a),(2,R b),(3,l),(8,R i),(9,R j)]) ?_ (by rw[k]) J
  repeat apply Ζ
  by_cases g:a<j
  .obtain⟨p,O⟩:∃p,j=p+1:=⟨j-1,U⟩;have D:IntKind.i64.wrap ((j:Int)-1)=(p:Int):=by have:=Xw (show p<2 ^ 62 by omega);rw[O];simpa using this
   have P:j<n:=U
   have Q:p<n:=U
   have ab:¬j=p:=U;obtain⟨x,t⟩:=Z8 (f[j]!);obtain⟨y,u⟩:=Z8 (f[p]!);have E:L[j]?=some (Zo x):=by rw[k,t,Yk,V7,N3 U];rfl
   have F:L[p]?=some (Zo y):=by rw[k,u,Yk,V7,N3 U];rfl
   have S:∀h:j<L.length,L[j]=Zo x:=λh=>by have:=E;rw[ε h] at this;exact WM this
   have T:∀h:p<L.length,L[p]=Zo y:=λh=>by have:=F;rw[ε h] at this;exact WM this
   have v:insInner (YD c) a j f=if YD c x y=true then insInner (YD c) a p (swp f j p) else f:=by
    subst O;rw[insInner,t,u];simp[g]
   have ad:(swp f j p).toList.map Zo=(L.set j (Zo y)).set p (Zo x):=by rw[k,t,u];simp[swp]
   have ae:(swp f j p).size=n:=by simp[swp,m]
   have af:=k;clear t u;refine W.draw (A:=[]) Τ mixed λal ag=>TI (Ρ g (Ρ D (Ρ N (Ρ P (Ρ Q (Ρ E (Ρ F (Ρ S T)))))))) ?_;refine Yl (X x y) ?_;simp;(repeat (rw[Zf];simp));try rw[Zg]
   refine XL (ag _ _ ?_);by_cases w:c x y<0
   .refine υ (by simp[w]) ?_
    repeat apply Ζ
    refine SL (Ρ g (Ρ D (Ρ N (Ρ P (Ρ Q (Ρ E (Ρ F (Ρ S (Ρ T ab))))))))) ?_;refine Φ ?_;refine W.to (Z (p,swp f j p) ⟨ae,by simp;omega,?_⟩ (by simp;omega)) ?_ ?_
    .rw[<-C,v,if_pos (by simp[YD,ltInt,w])]
    .rw[ad]
    .simp[D]
   .refine χ (by simp[w]) ?_;refine W.exit rfl ?_;refine Φ ?_;refine W.to (H (i+1,f) ⟨m,M (by rw[v,if_neg (by simp[YD,ltInt,w])])⟩ (by simp;omega)) (by rw[af]) ?_;have:=Xw (show i+1<2 ^ 62 by omega);simpa using this
  .have v:insInner (YD c) a j f=f:=by
    cases j with
    | zero=>rfl
    | succ p=>rw[insInner];simp[g]
   refine SL g ?_;refine χ rfl ?_;refine W.exit rfl ?_;refine Φ ?_;refine W.to (H (i+1,f) ⟨m,M v⟩ (by simp;omega)) (by rw[k]) ?_;have:=Xw (show i+1<2 ^ 62 by omega);simpa using this
 .refine χ (by simp[o]) ?_;refine W.exit rfl ?_;have Χ:insOuter (YD c) a b i e=e:=by rw[insOuter,if_neg o]
  exact W.nil ⟨_,rfl,rfl,by rw[<-B,Χ]⟩
theorem Ah (d:Array (Found)) (n a b:Nat) (V:d.size=n) (ah:a<=b) (ai:b<=n) (aj:n<2 ^ 40) (l:I) (c:Found->Found->Int) (ak:Γ 0 l) (X:∀x y,VM prog l [Y0 x,Y0 y] (R (c x y))) :
  Δ prog 217 [.ms 0 n 0 n,R a,R b,l] [.cells 110 3 (d.toList.map Y0)] (λr s=>r=.ZP []/\s=[.cells 110 3 ((insertionSort (YD c) d a b).toList.map Y0)]) (λ_ _=>False):=by
 refine Δ.body Τ func217 rfl rfl ntmps217 rfl rfl J ?_;refine Φ ?_;have Y:=Xw (show a+1<2 ^ 62 by omega);refine W.iter (λq:Nat×Array (Found)=>q.2.size=n/\insOuter (YD c) a b q.1 q.2=insertionSort (YD c) d a b) (λq=>[(0,.ms 0 n 0 n),(1,R a),(2,R b),(3,l),(8,R q.1)]) (λq=>[.cells 110 3 (q.2.toList.map Y0)]) (λq=>b-q.1) (a+1,d) ⟨V,rfl⟩ rfl (by simpa using Y) (λq hi H=>?_);obtain⟨i,e⟩:=q;obtain⟨K,B⟩:=hi;simp only at K B;refine Φ ?_;by_cases o:i<b
 .refine υ (by simp[o]) ?_;refine Φ ?_;refine W.iter (λq:Nat×Array (Found)=>q.2.size=n/\q.1<=i/\insInner (YD c) a q.1 q.2=insInner (YD c) a i e) (λq=>[(0,.ms 0 n 0 n),(1,R a),(2,R b),(3,l),(8,R i),(9,R q.1)]) (λq=>[.cells 110 3 (q.2.toList.map Y0)]) (λq=>q.1) (i,e) ⟨K,ZO _,rfl⟩ rfl J (λq g Z=>?_);obtain⟨j,f⟩:=q;obtain⟨m,aa,C⟩:=g;simp only at m aa C;have M:insInner (YD c) a j f=f->insOuter (YD c) a b (i+1) f=insertionSort (YD c) d a b:=λhd=>by
   rw[<-B,<-hd,C];conv=>rhs;rw[insOuter,if_pos o]
  obtain⟨L,k⟩:=Z8 (f.toList.map Y0);have N:L.length=n:=by rw[k];simpa using m
  refine W.to (σ':=[.cells 110 3 L]) (env':=[(0,.ms 0 n 0 n),(1,R a),(2,R b),(3,l),(8,R i),(9,R j)]) ?_ (by rw[k]) J
  repeat apply Ζ
  by_cases g:a<j
  .obtain⟨p,O⟩:∃p,j=p+1:=⟨j-1,U⟩;have D:IntKind.i64.wrap ((j:Int)-1)=(p:Int):=by have:=Xw (show p<2 ^ 62 by omega);rw[O];simpa using this
   have P:j<n:=U
   have Q:p<n:=U
   have ab:¬j=p:=U;obtain⟨x,t⟩:=Z8 (f[j]!);obtain⟨y,u⟩:=Z8 (f[p]!);have E:L[j]?=some (Y0 x):=by rw[k,t,Yk,V7,N3 U];rfl
   have F:L[p]?=some (Y0 y):=by rw[k,u,Yk,V7,N3 U];rfl
   have S:∀h:j<L.length,L[j]=Y0 x:=λh=>by have:=E;rw[ε h] at this;exact WM this
   have T:∀h:p<L.length,L[p]=Y0 y:=λh=>by have:=F;rw[ε h] at this;exact WM this
   have v:insInner (YD c) a j f=if YD c x y=true then insInner (YD c) a p (swp f j p) else f:=by
    subst O;rw[insInner,t,u];simp[g]
   have ad:(swp f j p).toList.map Y0=(L.set j (Y0 y)).set p (Y0 x):=by rw[k,t,u];simp[swp]
   have ae:(swp f j p).size=n:=by simp[swp,m]
   have af:=k;clear t u;refine W.draw (A:=[]) Τ mixed λal ag=>TI (Ρ g (Ρ D (Ρ N (Ρ P (Ρ Q (Ρ E (Ρ F (Ρ S T)))))))) ?_;refine Yl (X x y) ?_;simp;(repeat (rw[Zf];simp));try rw[Zg]
   refine XL (ag _ _ ?_);by_cases w:c x y<0
   .refine υ (by simp[w]) ?_
    repeat apply Ζ
    refine SL (Ρ g (Ρ D (Ρ N (Ρ P (Ρ Q (Ρ E (Ρ F (Ρ S (Ρ T ab))))))))) ?_;refine Φ ?_;refine W.to (Z (p,swp f j p) ⟨ae,by simp;omega,?_⟩ (by simp;omega)) ?_ ?_
    .rw[<-C,v,if_pos (by simp[YD,ltInt,w])]
    .rw[ad]
    .simp[D]
   .refine χ (by simp[w]) ?_;refine W.exit rfl ?_;refine Φ ?_;refine W.to (H (i+1,f) ⟨m,M (by rw[v,if_neg (by simp[YD,ltInt,w])])⟩ (by simp;omega)) (by rw[af]) ?_;have:=Xw (show i+1<2 ^ 62 by omega);simpa using this
  .have v:insInner (YD c) a j f=f:=by
    cases j with
    | zero=>rfl
    | succ p=>rw[insInner];simp[g]
   refine SL g ?_;refine χ rfl ?_;refine W.exit rfl ?_;refine Φ ?_;refine W.to (H (i+1,f) ⟨m,M v⟩ (by simp;omega)) (by rw[k]) ?_;have:=Xw (show i+1<2 ^ 62 by omega);simpa using this
 .refine χ (by simp[o]) ?_;refine W.exit rfl ?_;have Χ:insOuter (YD c) a b i e=e:=by rw[insOuter,if_neg o]
  exact W.nil ⟨_,rfl,rfl,by rw[<-B,Χ]⟩
theorem Ag (d:Array (Int)) (n a b:Nat) (Q:d.size=n) (ad:a<=b) (ae:b<=n) (af:n<2 ^ 40)  :
  Δ prog 197 [.ms 0 n 0 n,R a,R b] [.cells 3 1 (d.toList.map R)] (λr s=>r=.ZP []/\s=[.cells 3 1 ((insertionSort (ltInt) d a b).toList.map R)]) (λ_ _=>False):=by
 refine Δ.body Τ func197 rfl rfl ntmps197 rfl rfl J ?_;refine Φ ?_;have S:=Xw (show a+1<2 ^ 62 by omega);refine W.iter (λq:Nat×Array (Int)=>q.2.size=n/\insOuter (ltInt) a b q.1 q.2=insertionSort (ltInt) d a b) (λq=>[(0,.ms 0 n 0 n),(1,R a),(2,R b),(6,R q.1)]) (λq=>[.cells 3 1 (q.2.toList.map R)]) (λq=>b-q.1) (a+1,d) ⟨Q,rfl⟩ rfl (by simpa using S) (λq hi E=>?_);obtain⟨i,e⟩:=q;obtain⟨F,v⟩:=hi;simp only at F v;refine Φ ?_;by_cases l:i<b
 .refine υ (by simp[l]) ?_;refine Φ ?_;refine W.iter (λq:Nat×Array (Int)=>q.2.size=n/\q.1<=i/\insInner (ltInt) a q.1 q.2=insInner (ltInt) a i e) (λq=>[(0,.ms 0 n 0 n),(1,R a),(2,R b),(6,R i),(7,R q.1)]) (λq=>[.cells 3 1 (q.2.toList.map R)]) (λq=>q.1) (i,e) ⟨F,ZO _,rfl⟩ rfl J (λq c T=>?_);obtain⟨j,f⟩:=q;obtain⟨k,V,w⟩:=c;simp only at k V w;have H:insInner (ltInt) a j f=f->insOuter (ltInt) a b (i+1) f=insertionSort (ltInt) d a b:=λhd=>by
   rw[<-v,<-hd,w];conv=>rhs;rw[insOuter,if_pos l]
  obtain⟨L,g⟩:=Z8 (f.toList.map R);have I:L.length=n:=by rw[g];simpa using k
  refine W.to (σ':=[.cells 3 1 L]) (env':=[(0,.ms 0 n 0 n),(1,R a),(2,R b),(6,R i),(7,R j)]) ?_ (by rw[g]) J
  repeat apply Ζ
  by_cases c:a<j
  .obtain⟨p,K⟩:∃p,j=p+1:=⟨j-1,U⟩;have B:IntKind.i64.wrap ((j:Int)-1)=(p:Int):=by have:=Xw (show p<2 ^ 62 by omega);rw[K];simpa using this
   have M:j<n:=U
   have N:p<n:=U
   have X:¬j=p:=U;obtain⟨x,m⟩:=Z8 (f[j]!);obtain⟨y,o⟩:=Z8 (f[p]!);have C:L[j]?=some (R x):=by rw[g,m,Yk,V7,N3 U];rfl
   have D:L[p]?=some (R y):=by rw[g,o,Yk,V7,N3 U];rfl
   have O:∀h:j<L.length,L[j]=R x:=λh=>by have:=C;rw[ε h] at this;exact WM this
   have P:∀h:p<L.length,L[p]=R y:=λh=>by have:=D;rw[ε h] at this;exact WM this
   have t:insInner (ltInt) a j f=if ltInt x y=true then insInner (ltInt) a p (swp f j p) else f:=by
    subst K;rw[insInner,m,o];simp[c]
   have Y:(swp f j p).toList.map R=(L.set j (R y)).set p (R x):=by rw[g,m,o];simp[swp]
   have Z:(swp f j p).size=n:=by simp[swp,k]
   have aa:=g;clear m o;refine W.draw (A:=[]) Τ mixed λag ab=>TI (Ρ c (Ρ B (Ρ I (Ρ M (Ρ N (Ρ C (Ρ D (Ρ O P)))))))) ?_;refine Yl (Ν.p (Am x y) (ZZ.refl _) J J) ?_;simp;(repeat (rw[Zf];simp));try rw[Zg]
   refine XL (ab _ _ ?_);by_cases u:x<y
   .refine υ (by simp[u]) ?_
    repeat apply Ζ
    refine SL (Ρ c (Ρ B (Ρ I (Ρ M (Ρ N (Ρ C (Ρ D (Ρ O (Ρ P X))))))))) ?_;refine Φ ?_;refine W.to (T (p,swp f j p) ⟨Z,by simp;omega,?_⟩ (by simp;omega)) ?_ ?_
    .rw[<-w,t,if_pos (by simp[YD,ltInt,u])]
    .rw[Y]
    .simp[B]
   .refine χ (by simp[u]) ?_;refine W.exit rfl ?_;refine Φ ?_;refine W.to (E (i+1,f) ⟨k,H (by rw[t,if_neg (by simp[YD,ltInt,u])])⟩ (by simp;omega)) (by rw[aa]) ?_;have:=Xw (show i+1<2 ^ 62 by omega);simpa using this
  .have t:insInner (ltInt) a j f=f:=by
    cases j with
    | zero=>rfl
    | succ p=>rw[insInner];simp[c]
   refine SL c ?_;refine χ rfl ?_;refine W.exit rfl ?_;refine Φ ?_;refine W.to (E (i+1,f) ⟨k,H t⟩ (by simp;omega)) (by rw[g]) ?_;have:=Xw (show i+1<2 ^ 62 by omega);simpa using this
 .refine χ (by simp[l]) ?_;refine W.exit rfl ?_;have Χ:insOuter (ltInt) a b i e=e:=by rw[insOuter,if_neg l]
  exact W.nil ⟨_,rfl,rfl,by rw[<-v,Χ]⟩
theorem Af (n:Nat) (h:n<256):Ν prog 192 [.z (.int .u64 n)] (R (bitsLen n)):=by
 refine Δ.body Τ func192 rfl rfl ntmps192 rfl rfl J ?_;have f:¬(n:Int)>=4294967296:=U;have g:¬(n:Int)>=65536:=U;have j:¬(n:Int)>=256:=U;have a:¬(4294967296:Int)<=n:=U;have b:¬(65536:Int)<=n:=U;have c:¬(256:Int)<=n:=U;refine μ @a ?_;refine χ rfl ?_;refine μ b ?_;refine χ rfl ?_;refine μ c ?_;refine χ rfl ?_;have d:IntKind.u8.wrap (n:Int)=n:=by unfold IntKind.wrap;simp[IntKind.bits,IntKind.signed];omega
 refine XM d λk e=>?_;refine⟨Nat.lt_of_lt_of_eq h (by kernel_rfl),?_⟩;apply e;refine Φ ?_;refine W.ret ⟨_,rfl,?_,rfl⟩;refine .of (congrArg (λi=>I.z (.int .i64 i)) ?_);apply Au n h;decide +kernel
theorem MF (n:Nat) (h:n<256):Ν prog 150 [.z (.int .u64 n)] (R (bitsLen n)):=by
 refine Δ.body Τ func150 rfl rfl ntmps150 rfl rfl J ?_;refine Φ ?_;refine χ rfl ?_;refine ZB λb a=>?_;refine Ν.d (Af n h) (Z1 ?_);apply a;refine Φ ?_;refine W.rt ?_;exact .of rfl
theorem O0 (y:Int×Int):∀a∈(Zo y).cells,Γ 0 a:=by simp[I.cells]
theorem N2 (y:Found):∀a∈(Y0 y).cells,Γ 0 a:=by simp[I.cells]
theorem P6 (y:Int):∀a∈(R y).cells,Γ 0 a:=by simp[I.cells]
theorem Ae (d:Array (Int×Int)) (n i:Nat) (j:d.size=n) (p:n<=12) (b:I) (c:Int×Int->Int×Int->Int) (f:Γ 0 b) (k:∀x y,VM prog b [Zo x,Zo y] (R (c x y))) :
  Δ prog 211 [.ms 0 n 0 n,R 0,R n,R i,b] [.cells 112 2 (d.toList.map Zo)] (λr s=>r=.ZP []/\s=[.cells 112 2 ((insertionSort (YD c) d 0 n).toList.map Zo)]) (λ_ _=>False):=by
 refine Δ.body Τ func211 rfl rfl ntmps211 rfl rfl J ?_;have l:=Xw (show n<2 ^ 62 by omega);have Χ:(n:Int)<=12:=U;refine Φ ?_;refine .loop ?_;refine μ l ?_;refine υ (by simp;omega) ?_;refine ZB λt m=>?_;refine Δ.one (Ai d n 0 n j (ω _) (ZO _) U b c f k) 0 rfl (λe g a h=>by
  obtain⟨y,o,rfl⟩:=YK.1 g;exact O0 y a h) (λe g a h=>by
  obtain⟨y,o,rfl⟩:=YK.1 g;exact O0 y a h) (by simp[Tm,O2,f.V9 1]) (by simp[Xi]) (by simp[Tl,Tk,f.Yt [0]]) ?_
 simp[Yt,Wp];(repeat (rw[Μ];simp));apply m;exact W.ret ⟨_,rfl,rfl,rfl⟩
theorem Ad (d:Array (Int×Int)) (n:Nat) (c:d.size=n) (j:n<=12) (b:I) (f:Int×Int->Int×Int->Int) (g:Γ 0 b) (k:∀x y,VM prog b [Zo x,Zo y] (R (f x y))) :
  Δ prog 173 [.ms 0 n 0 n,b] [.cells 112 2 (d.toList.map Zo)] (λr s=>r=.ZP []/\s=[.cells 112 2 ((insertionSort (YD f) d 0 n).toList.map Zo)]) (λ_ _=>False):=by
 refine Δ.body Τ func173 rfl rfl ntmps173 rfl rfl J ?_;have l:=Xw (show n<2 ^ 62 by omega);have Χ:IntKind.u64.wrap (n:Int)=n:=by unfold IntKind.wrap;simp[IntKind.bits,IntKind.signed];omega
 refine μ c ?_;(repeat apply Ζ);refine YH λp m=>?_;simp;(repeat (rw[Μ];simp[c,l,Χ]));refine Ν.d (MF n U) (Z1 ?_);refine Δ.one (Ae d n (bitsLen n) c j b f g k) 0 rfl (λe h a i=>by
  obtain⟨y,o,rfl⟩:=YK.1 h;exact O0 y a i) (λe h a i=>by
  obtain⟨y,o,rfl⟩:=YK.1 h;exact O0 y a i) (by simp[Tm,O2,g.V9 1]) (by simp[Xi]) (by simp[Tl,Tk,g.Yt [0]]) ?_
 simp[Yt,Wp];(repeat (rw[Μ];simp));apply m;exact W.nil ⟨_,rfl,rfl,rfl⟩
theorem Ac (d:Array (Found)) (n i:Nat) (j:d.size=n) (p:n<=12) (b:I) (c:Found->Found->Int) (f:Γ 0 b) (k:∀x y,VM prog b [Y0 x,Y0 y] (R (c x y))) :
  Δ prog 182 [.ms 0 n 0 n,R 0,R n,R i,b] [.cells 110 3 (d.toList.map Y0)] (λr s=>r=.ZP []/\s=[.cells 110 3 ((insertionSort (YD c) d 0 n).toList.map Y0)]) (λ_ _=>False):=by
 refine Δ.body Τ func182 rfl rfl ntmps182 rfl rfl J ?_;have l:=Xw (show n<2 ^ 62 by omega);have Χ:(n:Int)<=12:=U;refine Φ ?_;refine .loop ?_;refine μ l ?_;refine υ (by simp;omega) ?_;refine ZB λt m=>?_;refine Δ.one (Ah d n 0 n j (ω _) (ZO _) U b c f k) 0 rfl (λe g a h=>by
  obtain⟨y,o,rfl⟩:=YK.1 g;exact N2 y a h) (λe g a h=>by
  obtain⟨y,o,rfl⟩:=YK.1 g;exact N2 y a h) (by simp[Tm,O2,f.V9 1]) (by simp[Xi]) (by simp[Tl,Tk,f.Yt [0]]) ?_
 simp[Yt,Wp];(repeat (rw[Μ];simp));apply m;exact W.ret ⟨_,rfl,rfl,rfl⟩
theorem Ab (d:Array (Found)) (n:Nat) (c:d.size=n) (j:n<=12) (b:I) (f:Found->Found->Int) (g:Γ 0 b) (k:∀x y,VM prog b [Y0 x,Y0 y] (R (f x y))) :
  Δ prog 147 [.ms 0 n 0 n,b] [.cells 110 3 (d.toList.map Y0)] (λr s=>r=.ZP []/\s=[.cells 110 3 ((insertionSort (YD f) d 0 n).toList.map Y0)]) (λ_ _=>False):=by
 refine Δ.body Τ func147 rfl rfl ntmps147 rfl rfl J ?_;have l:=Xw (show n<2 ^ 62 by omega);have Χ:IntKind.u64.wrap (n:Int)=n:=by unfold IntKind.wrap;simp[IntKind.bits,IntKind.signed];omega
 refine μ c ?_;(repeat apply Ζ);refine YH λp m=>?_;simp;(repeat (rw[Μ];simp[c,l,Χ]));refine Ν.d (MF n U) (Z1 ?_);refine Δ.one (Ac d n (bitsLen n) c j b f g k) 0 rfl (λe h a i=>by
  obtain⟨y,o,rfl⟩:=YK.1 h;exact N2 y a i) (λe h a i=>by
  obtain⟨y,o,rfl⟩:=YK.1 h;exact N2 y a i) (by simp[Tm,O2,g.V9 1]) (by simp[Xi]) (by simp[Tl,Tk,g.Yt [0]]) ?_
 simp[Yt,Wp];(repeat (rw[Μ];simp));apply m;exact W.nil ⟨_,rfl,rfl,rfl⟩
theorem Aa (d:Array (Int)) (n f:Nat) (g:d.size=n) (k:n<=12)  :
  Δ prog 157 [.ms 0 n 0 n,R 0,R n,R f] [.cells 3 1 (d.toList.map R)] (λr s=>r=.ZP []/\s=[.cells 3 1 ((insertionSort (ltInt) d 0 n).toList.map R)]) (λ_ _=>False):=by
 refine Δ.body Τ func157 rfl rfl ntmps157 rfl rfl J ?_;have h:=Xw (show n<2 ^ 62 by omega);have Χ:(n:Int)<=12:=U;refine Φ ?_;refine .loop ?_;refine μ h ?_;refine υ (by simp;omega) ?_;refine ZB λl i=>?_;refine Δ.one (Ag d n 0 n g (ω _) (ZO _) U) 0 rfl (λe b a c=>by
  obtain⟨y,j,rfl⟩:=YK.1 b;exact P6 y a c) (λe b a c=>by
  obtain⟨y,j,rfl⟩:=YK.1 b;exact P6 y a c) (by simp[Tm,O2]) (by simp[Xi]) (by simp[Tl,Tk]) ?_
 simp[Yt,Wp];(repeat (rw[Μ];simp));apply i;exact W.ret ⟨_,rfl,rfl,rfl⟩
theorem z' (d:Array (Int)) (n:Nat) (b:d.size=n) (g:n<=12)  :
  Δ prog 132 [.ms 0 n 0 n] [.cells 3 1 (d.toList.map R)] (λr s=>r=.ZP []/\s=[.cells 3 1 ((insertionSort (ltInt) d 0 n).toList.map R)]) (λ_ _=>False):=by
 refine Δ.body Τ func132 rfl rfl ntmps132 rfl rfl J ?_;have h:=Xw (show n<2 ^ 62 by omega);have Χ:IntKind.u64.wrap (n:Int)=n:=by unfold IntKind.wrap;simp[IntKind.bits,IntKind.signed];omega
 refine μ b ?_;(repeat apply Ζ);refine YH λk i=>?_;simp;(repeat (rw[Μ];simp[b,h,Χ]));refine Ν.d (MF n U) (Z1 ?_);refine Δ.one (Aa d n (bitsLen n) b g) 0 rfl (λe c a f=>by
  obtain⟨y,j,rfl⟩:=YK.1 c;exact P6 y a f) (λe c a f=>by
  obtain⟨y,j,rfl⟩:=YK.1 c;exact P6 y a f) (by simp[Tm,O2]) (by simp[Xi]) (by simp[Tl,Tk]) ?_
 simp[Yt,Wp];(repeat (rw[Μ];simp));apply i;exact W.nil ⟨_,rfl,rfl,rfl⟩
theorem z9 (l:List Int) (b:I) (p:Int->Bool) (g:l.length<2 ^ 62) (o:Γ 0 b) (k:∀x∈l,VM prog b [R x] (ZQ (p x))):Ν prog 131 [κ R 1 l,b] (R (idxOf p l)):=by
 refine Δ.body Τ func131 rfl rfl ntmps131 rfl rfl J ?_;refine Φ ?_;refine W.iter (λi:Nat=>i<=l.length/\∀j,j<i->(h:j<l.length)->p l[j]=false) (λi=>[(0,κ R 1 l),(1,b),(6,κ R 1 l),(7,R l.length),(8,R i)]) (λ_=>[]) (λi=>l.length-i) 0 ⟨ω _,λj f=>U⟩ rfl J (λi hi m=>?_);refine Φ ?_;refine W.YW rfl (λa=>?_) (λa=>?_)
 .have a:i<l.length:=by simpa using a
  refine μ a ?_;refine XM a λr n=>?_;refine(k _ (YB a)).c ?_;simp;(repeat (rw[Μ];simp));apply n;cases d:p l[i]
  .refine χ (by simp[d]) ?_;refine Φ ?_;refine W.forget _ ?_ (m (i+1) ⟨U,λj f h=>?_⟩ U)
   .simp[YF a g]
   .by_cases e:j=i
    .subst e;exact d
    .exact hi.2 j U h
  .refine υ (by simp[d]) ?_;refine Φ ?_;refine W.rt ?_;exact .of (by rw[Ku a d hi.2];rfl)
 .have a:l.length<=i:=by simpa using a
  refine W.exit rfl ?_;refine Φ ?_;refine W.rt ?_;exact .of (by rw[Kt λj f=>hi.2 j U f];rfl)
theorem z8 (l:List Int) (a:I) (p:Int->Bool) (d:l.length<2 ^ 62) (b:Γ 0 a) (e:∀x∈l,VM prog a [R x] (ZQ (p x))):Ν prog 94 [κ R 1 l,a] (ZQ (l.any p)):=by
 refine Δ.body Τ func94 rfl rfl ntmps94 rfl rfl J ?_;refine Φ ?_;refine ZB λg f=>?_;refine Ν.c (z9 l a p d b e) (ZZ.refl _) (by simp[b]) J ?_;simp;(repeat (rw[Μ];simp));apply f;refine Φ ?_;refine W.rt ?_;exact .of (by rw[<-Ks (p:=p)];rfl)
theorem FX (l:List Xp) (b:I) (p:Xp->Bool) (g:l.length<2 ^ 62) (o:Γ 0 b) (k:∀x∈l,VM prog b [Yr x] (ZQ (p x))):Ν prog 100 [κ Yr 2 l,b] (R (idxOf p l)):=by
 refine Δ.body Τ func100 rfl rfl ntmps100 rfl rfl J ?_;refine Φ ?_;refine W.iter (λi:Nat=>i<=l.length/\∀j,j<i->(h:j<l.length)->p l[j]=false) (λi=>[(0,κ Yr 2 l),(1,b),(6,κ Yr 2 l),(7,R l.length),(8,R i)]) (λ_=>[]) (λi=>l.length-i) 0 ⟨ω _,λj f=>U⟩ rfl J (λi hi m=>?_);refine Φ ?_;refine W.YW rfl (λa=>?_) (λa=>?_)
 .have a:i<l.length:=by simpa using a
  refine μ a ?_;refine XM a λr n=>?_;refine(k _ (YB a)).c ?_;simp;(repeat (rw[Μ];simp));apply n;cases d:p l[i]
  .refine χ (by simp[d]) ?_;refine Φ ?_;refine W.forget _ ?_ (m (i+1) ⟨U,λj f h=>?_⟩ U)
   .simp[YF a g]
   .by_cases e:j=i
    .subst e;exact d
    .exact hi.2 j U h
  .refine υ (by simp[d]) ?_;refine Φ ?_;refine W.rt ?_;exact .of (by rw[Ku a d hi.2];rfl)
 .have a:l.length<=i:=by simpa using a
  refine W.exit rfl ?_;refine Φ ?_;refine W.rt ?_;exact .of (by rw[Kt λj f=>hi.2 j U f];rfl)
theorem z7 (l:List Xp) (a:I) (p:Xp->Bool) (d:l.length<2 ^ 62) (b:Γ 0 a) (e:∀x∈l,VM prog a [Yr x] (ZQ (p x))):Ν prog 135 [κ Yr 2 l,a] (ZQ (l.any p)):=by
 refine Δ.body Τ func135 rfl rfl ntmps135 rfl rfl J ?_;refine Φ ?_;refine ZB λg f=>?_;refine Ν.c (FX l a p d b e) (ZZ.refl _) (by simp[b]) J ?_;simp;(repeat (rw[Μ];simp));apply f;refine Φ ?_;refine W.rt ?_;exact .of (by rw[<-Ks (p:=p)];rfl)
theorem z6 (l:List Y9) (b:I) (p:Y9->Bool) (g:l.length<2 ^ 62) (o:Γ 0 b) (k:∀x∈l,VM prog b [Zv x] (ZQ (p x))):Ν prog 230 [κ Zv 3 l,b] (R (idxOf p l)):=by
 refine Δ.body Τ func230 rfl rfl ntmps230 rfl rfl J ?_;refine Φ ?_;refine W.iter (λi:Nat=>i<=l.length/\∀j,j<i->(h:j<l.length)->p l[j]=false) (λi=>[(0,κ Zv 3 l),(1,b),(6,κ Zv 3 l),(7,R l.length),(8,R i)]) (λ_=>[]) (λi=>l.length-i) 0 ⟨ω _,λj f=>U⟩ rfl J (λi hi m=>?_);refine Φ ?_;refine W.YW rfl (λa=>?_) (λa=>?_)
 .have a:i<l.length:=by simpa using a
  refine μ a ?_;refine XM a λr n=>?_;refine(k _ (YB a)).c ?_;simp;(repeat (rw[Μ];simp));apply n;cases d:p l[i]
  .refine χ (by simp[d]) ?_;refine Φ ?_;refine W.forget _ ?_ (m (i+1) ⟨U,λj f h=>?_⟩ U)
   .simp[YF a g]
   .by_cases e:j=i
    .subst e;exact d
    .exact hi.2 j U h
  .refine υ (by simp[d]) ?_;refine Φ ?_;refine W.rt ?_;exact .of (by rw[Ku a d hi.2];rfl)
 .have a:l.length<=i:=by simpa using a
  refine W.exit rfl ?_;refine Φ ?_;refine W.rt ?_;exact .of (by rw[Kt λj f=>hi.2 j U f];rfl)
theorem z5 (l:List Y9) (a:I) (p:Y9->Bool) (d:l.length<2 ^ 62) (b:Γ 0 a) (e:∀x∈l,VM prog a [Zv x] (ZQ (p x))):Ν prog 194 [κ Zv 3 l,a] (ZQ (l.any p)):=by
 refine Δ.body Τ func194 rfl rfl ntmps194 rfl rfl J ?_;refine Φ ?_;refine ZB λg f=>?_;refine Ν.c (z6 l a p d b e) (ZZ.refl _) (by simp[b]) J ?_;simp;(repeat (rw[Μ];simp));apply f;refine Φ ?_;refine W.rt ?_;exact .of (by rw[<-Ks (p:=p)];rfl)
def Xf:List Int->Int
 | []=>0
 | e::l=>if e=0 then Xf l else e
theorem z4 {l:List Int} {i:Nat} (h:i<l.length) (a:l[i]≠0) (b:∀j,j<i->(c:j<l.length)->l[j]=0):Xf l=l[i]:=by
 induction l generalizing i with
 | nil=>cases h
 | cons e l d=>
  cases i with
  | zero=>simp at a;simp[Xf,a]
  | succ i=>
   have f:e=0:=b 0 U J;simp only[Xf,f,if_true,List.getElem_cons_succ];exact d (by simpa using h) (by simpa using a) λj c g=>b (j+1) U (by simpa using g)
theorem z3 {l:List Int} (h:∀j,(a:j<l.length)->l[j]=0):Xf l=0:=by
 induction l with
 | nil=>rfl
 | cons e l b=>
  have c:e=0:=h 0 J;simp only[Xf,c,if_true];exact b λj a=>h (j+1) (by simpa using a)
theorem Rw {f:Nat->Int} {n i:Nat} {e:Int} (h:i<n) (a:f i=e) (b:e≠0) (c:∀j,j<i->f j=0):Xf ((List.range n).map f)=e:=by
 rw[z4 (i:=i) (by simpa using h) (by simp[a,b]) (λj d g=>by simpa using c j d)];simp[a]
theorem Rv {f:Nat->Int} {n:Nat} (h:∀j,j<n->f j=0):Xf ((List.range n).map f)=0:=
 z3 λj a=>by simpa using h j (by simpa using a)
def Ve (n:ByteArray):Bool:=n.size != 1||M3 n ⟨#[97]⟩||!V2 n ⟨#[122]⟩
def VJ (l:List Xp) (i:Nat):Int:=match l[i]? with
 | none=>0
 | some g=>if Ve g.name then 2 else if 0<i/\V2 g.name ((l[i-1]?.map (·.name)).getD ⟨#[]⟩)=true then 5 else if g.ZG<1\/63<g.ZG then 1 else if(l.take i).any (λx=>x.ZG==g.ZG) then 4 else 0
def Wo (l:List Xp):Int:=if l.length=0 then 7 else if 6<l.length then 6 else Xf ((List.range l.length).map (VJ l))
theorem z2 (g x:Xp):Ν prog 136 [Yr x,.Ε [UK g.name,R g.ZG]] (ZQ (x.ZG==g.ZG)):=by
 refine Δ.body Τ func136 rfl rfl ntmps136 rfl rfl J ?_;refine Φ ?_;refine W.rt ?_;exact .of (by simp)
theorem z1 (s:ο) (v:s.small):Ν prog 103 [Zd s] (R (Wo s.Κ)):=by
 refine Δ.body Τ func103 rfl rfl ntmps103 rfl rfl J ?_;have I:=v.1;by_cases b:s.Κ.length=0
 .refine μ b ?_;refine υ J ?_;refine Φ ?_;refine W.rt ?_;exact .of (by rw[show Wo s.Κ=7 by simp[Wo,b]];rfl)
 by_cases k:(6:Int)<s.Κ.length
 .refine μ (Ρ b k) ?_;refine χ (by simp[b]) ?_;refine μ (Ρ b k) ?_;refine υ J ?_;refine Φ ?_;refine W.rt ?_;exact .of (by rw[show Wo s.Κ=6 by simp[Wo,b];omega];rfl)
 have w:Wo s.Κ=Xf ((List.range s.Κ.length).map (VJ s.Κ)):=by
  unfold Wo;rw[if_neg b,if_neg U]
 rw[w];refine μ (Ρ b k) ?_;refine χ (by simp[b]) ?_;refine μ (Ρ b k) ?_;refine χ J ?_;refine Φ ?_;refine W.iter (λi:Nat=>i<=s.Κ.length/\∀j,j<i->VJ s.Κ j=0) (λi=>[(1,ZW s),(17,ZU s.Κ),(18,R s.Κ.length),(19,R i)]) (λ_=>[]) (λi=>s.Κ.length-i) 0 ⟨U,λj r=>U⟩ rfl J (λi hi y=>?_);refine Φ ?_;refine W.YW rfl (λa=>?_) (λa=>?_)
 .have a:i<s.Κ.length:=by simpa using a
  have d:s.Κ[i]?=some s.Κ[i]:=ε a
  have l:∀e:Int,VJ s.Κ i=e->e≠0->Xf ((List.range s.Κ.length).map (VJ s.Κ))=e:=λe B m=>Rw a B m hi.2
  repeat apply Ζ
  refine YR (A:=[4]) Τ λC o=>Xx a ?_;apply o;refine W.fix (id:=0) (σ':=[]) (ω _) rfl J J rfl [(1,ZW s),(17,ZU s.Κ),(18,R s.Κ.length),(19,R i),(3,R i),(4,.Ε [UK s.Κ[i].name,R s.Κ[i].ZG])] J ?_
  repeat apply Ζ
  refine W.P' (A:=[]) Τ [(1,ZW s),(17,ZU s.Κ),(18,R s.Κ.length),(19,R i),(3,R i),(4,.Ε [UK s.Κ[i].name,R s.Κ[i].ZG]),(5,ZU (s.Κ.take i))] ?_ (by simp[Μ,Sg,St a])
  repeat apply Ζ
  refine W.P' (A:=[]) Τ [(28,ZQ (Ve s.Κ[i].name)),(1,ZW s),(17,ZU s.Κ),(18,R s.Κ.length),(19,R i),(3,R i),(4,.Ε [UK s.Κ[i].name,R s.Κ[i].ZG]),(5,ZU (s.Κ.take i))] ?_ (by
   unfold Ve;by_cases t:(s.Κ[i].name.size:Int)=1
   .have p:s.Κ[i].name.size=1:=U
    cases D:M3 s.Κ[i].name ⟨#[97]⟩<;>simp[Μ,Sg,t,D,p]
   .have p:¬s.Κ[i].name.size=1:=U
    simp[Μ,Sg,t,p])
  cases f:Ve s.Κ[i].name
  case true=>
   refine υ rfl ?_;refine Φ ?_;refine W.rt ?_;exact .of (by rw[l 2 (by simp[VJ,d,f]) Z2];rfl)
  refine χ rfl ?_
  repeat apply Ζ
  refine W.KB (A:=[]) Τ mixed [(43,ZQ (decide (0<i)&&V2 s.Κ[i].name ((s.Κ[i-1]?.map (·.name)).getD ⟨#[]⟩))),(1,ZW s),(17,ZU s.Κ),(18,R s.Κ.length),(19,R i),(3,R i),(4,.Ε [UK s.Κ[i].name,R s.Κ[i].ZG]),(5,ZU (s.Κ.take i))] ?_ (by
   cases i with
   | zero=>simp[Zf,Zg];exact Ym (by kernel_rfl)
   | succ n=>
    have E:n<s.Κ.length:=U
    have F:=Xw (show n<2 ^ 62 by omega)
    have m:(0:Int)<(n:Int)+1:=U
    have H:n<min (n+1) s.Κ.length:=U;simp[Zf,Zg,m,E,F,H];exact Ym (by kernel_rfl))
  cases bo:decide (0<i)&&V2 s.Κ[i].name ((s.Κ[i-1]?.map (·.name)).getD ⟨#[]⟩)
  case true=>
   refine υ rfl ?_;refine Φ ?_;refine W.rt ?_;exact .of (by rw[l 5 (by simp at bo;simp[VJ,d,f,bo]) Z2];rfl)
  refine χ rfl ?_
  repeat apply Ζ
  refine W.P' (A:=[]) Τ [(57,ZQ (decide (s.Κ[i].ZG<1)||decide (63<s.Κ[i].ZG))),(1,ZW s),(17,ZU s.Κ),(18,R s.Κ.length),(19,R i),(3,R i),(4,.Ε [UK s.Κ[i].name,R s.Κ[i].ZG]),(5,ZU (s.Κ.take i))] ?_ (by by_cases q:s.Κ[i].ZG<1<;>simp[Μ,Sg,q]);have bo':¬(0<i/\V2 s.Κ[i].name ((s.Κ[i-1]?.map (·.name)).getD ⟨#[]⟩)=true):=λh=>by simp[h] at bo
  by_cases g:s.Κ[i].ZG<1\/63<s.Κ[i].ZG
  case pos=>
   refine υ (by simpa using g) ?_;refine Φ ?_;refine W.rt ?_;exact .of (by rw[l 1 (by simp only[VJ,d,f];rw[if_neg bo',if_pos g];rfl) Z2];rfl)
  refine χ (by simpa using g) ?_;refine ZB λC o=>?_;refine Ν.c (z7 (s.Κ.take i) (.fn (.func 136) [] [.Ε [UK s.Κ[i].name,R s.Κ[i].ZG]]) (λx=>x.ZG==s.Κ[i].ZG) (by simp;omega) (by simp[VN]) (λx _=>λ_=>(z2 s.Κ[i] x).cc (by simp;exact ZZ.refl _) J J ⟨rfl,rfl⟩)) (ZZ.refl _) (by simp[VN]) J ?_;simp;(repeat (rw[Μ];simp));apply o;cases u:(s.Κ.take i).any (λx=>x.ZG==s.Κ[i].ZG)
  case true=>
   refine υ J ?_;refine Φ ?_;refine W.rt ?_;exact .of (by rw[l 4 (by simp only[VJ,d,f];rw[if_neg bo',if_neg g,u];rfl) Z2];rfl)
  refine χ J ?_;refine Φ ?_;refine W.forget _ ?_ (y (i+1) ⟨a,λj r=>?_⟩ U)
  .simp[YF a (show s.Κ.length<2 ^ 62 by omega)]
  .by_cases e:j=i
   .subst e;simp only[VJ,d,f];rw[if_neg bo',if_neg g,u];rfl
   .exact hi.2 j U
 .have a:s.Κ.length<=i:=by simpa using a
  refine W.exit rfl ?_;refine Φ ?_;refine W.rt ?_;exact .of (by rw[Rv λj r=>hi.2 j U];rfl)
end Go.TL
namespace Go.TL
open Go.Proofs.Tryz
open Go.Sort (SWO bitsLen insInner insOuter insertionSort insertionSort_holds ltInt sorted_unique_holds swo_ltInt swp)
open Go.Conc
variable [ZS]
structure Base where
 S:Α
 B:θ
 H:Ψ
 σ:Υ
 m:Nat
def V (P:Program) (a:Value->Prop) (mn:Bool) (x:W') (b:Frame) (cs:List Frame) (nt:Nat) (o:Base) (k:List Item) (env:Ι) (σ:Υ):Prop:=
 ∀(S:Α) (B:θ) (H:Ψ) (t:Array Value),Ye o.m o.S o.B o.H o.σ S B H σ->XN o.m nt S B H σ env t->ξ P a mn x (Η b t k) cs H
def FW (P:Program) (c:Value->Prop) (mn:Bool) (x:W') (b:Frame) (cs:List Frame) (o:Base) (a:I) (env:Ι) (σ:Υ):Prop:=
 ∀(S:Α) (B:θ) (H:Ψ) (t:Array Value) (k:List Item) (v:Value),Ye o.m o.S o.B o.H o.σ S B H σ->Holds S B σ H->YS S B σ env t->Θ S B σ a v->ξ P c mn x {Η b t k with mode:=.panicking [{v,recovered:=false}]} cs H
structure OZ (P:Program) (d:Deferred) (g:FuncId) (vs:Array Value):Prop where
 t1:∀r,d.target≠.collected r
 t2:d.target≠.nil
 run:∀w,(invoke d.target d.args).runT P w #[]=(.ok (.enter g vs) w,#[])
section
variable {P:Program} {T:Z5} {A:List Nat} {Q:Value->Prop} {mn:Bool} {x:W'} {b:Frame} {cs:List Frame} {m nt:Nat} {o:Base} {k:List Item} {env:Ι} {σ:Υ} {S YI:Α} {B B':θ} {H H':Ψ} {σ':Υ} {t:Array Value} {Z:XF} {E:Yf}
theorem V.XK (g:Seq x) (i:b.mode=.run) (h:W P o.m nt k env σ (V P Q mn x b cs nt o) (FW P Q mn x b cs o)):V P Q mn x b cs nt o k env σ:=
 λS B H t f l=>h Q mn x cs b S B H t g i l (λj env' σ' YI B' H' t' c n d p r=>by
  have e:c=j:=r;subst e;exact n YI B' H' t' (f.trans d) p) (λa env' σ' YI B' H' t' c v s d u w y=>s YI B' H' t' c v (f.trans d) u w y)
theorem V.Zy (a:Seq x) (h:W P o.m nt k env σ (V P Q mn x b cs nt o) (FW P Q mn x b cs o)) (c:b.mode=.run:=by rfl):V P Q mn x b cs nt o k env σ:=.XK a c h
theorem V.here (h:V P Q mn x b cs nt ⟨S,B,H,σ,m⟩ k env σ) (a:XN m nt S B H σ env t):ξ P Q mn x (Η b t k) cs H:=h S B H t .refl a
theorem W.Zt {id:Nat} {ops:Array Oper} (h:W P m nt (.inRegion ops (idx ops.size [])::k) env σ Z E):W P m nt (.code (.region id ops false)::k) env σ Z E:=
 λQ mn x cs b S B H t a c d e f=>.region a c (by rw[<-idx_eq];exact h Q mn x cs b S B H t a c d e f)
theorem W.part (c:ZJ P T) (is a:List Nat) {ops:Array Oper} {l:List Nat} (d:l=is++a) (h:∀b:Ι->Υ->Prop,(∀env σ,W P m nt (.inRegion ops a::k) env σ Z E->b env σ)->run P T A nt ops is env σ b E):W P m nt (.inRegion ops l::k) env σ Z E:=
 d▸IY c a is env σ (h _ λ_ _ h=>h)
theorem IE (e:YS S B σ env t) (args:Array Operand):X1 S B σ (args.toList.map (π env)) (args.map (ZX t)):=by
 refine⟨J,λi a v b c=>?_⟩;rw[Yk,V7] at b;rw[Qm] at c;cases d:args[i]? with
 | none=>rw[d] at b;cases b
 | some y=>rw[d] at b c;cases b;cases c;exact UN e y
theorem Plain.enter {g:FuncId} (h:Plain P g) (vs:Array Value) (w:World):(callFunc g vs).runT P w #[]=(.ok (.enter g vs) w,#[]):=by
 obtain⟨fn,a,b,c⟩:=h;unfold callFunc;show Sem.runT P (Sem.bind program λp=>_) w #[]=_;simp only[program,Sem.bind];show Sem.runT P (match P.funcs[g]? with|none=>_|some fn=>_) w #[]=_;rw[a];simp only[b,c,Xu,if_false];rfl
theorem XN.put {c:Oper} {a:I} {v:Value} (b:XN m nt S B H σ env t) (hd:W9 nt c=true) (d:Θ S B σ a v):XN m nt S B H σ (ZE c env a) (put c t v):=
 ⟨b.holds,(Ry b.Zr hd b.size d).1,(Ry b.Zr hd b.size d).2,b.rows⟩
theorem Ye.all (h:Ye m S B H σ YI B' H' σ') (b:Holds S B σ H) (a:σ.length<=m):ZC S YI B B' σ σ':=by
 have:=h.later
 rwa [TC (by rw[b.len];exact a),TC a] at this
theorem V.defer (p:Seq x) (r:b.mode=.run) (s:b.roundOf=none) {ops:Array Oper} {i:Nat} {rest:List Nat} {a:Oper} (u:ops[i]?=some a) (v:X7 env ops a=some true) (y:a.dst=none) {f:Operand} {args:Array Operand} {A:Array TypeId} (C:a.op=.defer ⟨.value f,args,A⟩)
  {g:FuncId} {first captured:ψ} (D:π env f=.fn (.func g) first captured) (E:Plain P g)
  (h:∀(S:Α) (B:θ) (H:Ψ) (t:Array Value) (d:Deferred) (vs:Array Value),Ye o.m o.S o.B o.H o.σ S B H σ->XN o.m nt S B H σ env t->X1 S B σ (first++args.toList.map (π env)++captured) vs->OZ P d g vs->
   ξ P Q mn x (Η {b with defers:=d::b.defers} t (.inRegion ops rest::k)) cs H):V P Q mn x b cs nt o (.inRegion ops (i::rest)::k) env σ:=by
 intro S B H t F c;refine .op p r u (Vz c.Zr v) (.inl s) ?_;have j:=UN c.Zr f;rw[D] at j;have I:=IE c.Zr args;have e:execOp (ZX t) a=(do pure (.defer (<-Deferred.ofValue (ZX t f) (args.map (ZX t))))):=by unfold execOp;rw[C];rfl
 rw[e];generalize ZX t f=T at j;cases j with
 | fn l n J K L M=>
  refine Ω.bind' (Ω.pure' (Ω.pure' ?_));have N:put a t undef=t:=by unfold put;rw[y]
  simp only[G4,N];have O:X1 S B σ first l:=⟨J,L⟩
  have R:X1 S B σ captured n:=⟨K,M⟩;exact h S B H t ⟨.fn (.func g) n,l++args.map (ZX t)⟩ (l++args.map (ZX t)++n) F c ((O.append I).append R) ⟨λ_ h=>(by cases h),λh=>(by cases h),λw=>E.enter _ w⟩
theorem ξ.recovered (d:Seq x) (f:b.mode=.run) (c:b.roundOf=none) {ops:Array Oper} {i:Nat} {rest:List Nat} {op:Oper} (g:ops[i]?=some op) (j:op.guard=none) {l:Array TypeId} (m:op.op=.call ⟨.builtin .recover,#[],l⟩) {v:Value} {cs':List Frame}
  (a:(tryRecover (Η b t (.inRegion ops (i::rest)::k)) cs=some (v,cs'))\/(tryRecover (Η b t (.inRegion ops (i::rest)::k)) cs=none/\v=.nilIface/\cs'=cs))
  (h:ξ P Q mn x (Η b (put op t v) (.inRegion ops rest::k)) cs' H):ξ P Q mn x (Η b t (.inRegion ops (i::rest)::k)) cs H:=by
 refine .op d f g (by unfold Region.wanted;rw[j]) (.inl c) ?_;have e:execOp (ZX t) op=pure .recover:=by unfold execOp;rw[m];rfl
 rw[e];refine Ω.pure' ⟨c,?_⟩;rcases a with a|⟨a,rfl,rfl⟩
 .rw[a];exact h
 .rw[a];exact h
end
theorem results_none {fn:Func} (h:fn.results=#[]) (t:Array Value):results fn t=pure (.tuple #[]):=by
 unfold results;rw[h];simp
theorem Sc {P:Program} {g:FuncId} {fn:Func} {body:Code} (b:P.funcs[g]?=some fn) (c:fn.body=some body) (vs:Array Value) (a:CallKind):Frame.enter P g vs a=Η (Frame.enter P g vs a) (vs++Array.replicate (fn.ntmps-vs.size) undef) [.code body]:=by
 simp[Frame.enter,Η,b,c]
theorem XN.enter {S:Α} {B:θ} {H:Ψ} {σ:Υ} {a:ψ} {vs:Array Value} {nt m:Nat} (b:Holds S B σ H) (hv:X1 S B σ a vs) (c:m<=σ.length) (d:a.length<=nt):XN m nt S B H σ (entry 0 a) (vs++Array.replicate (nt-vs.size) undef):=
 ⟨b,Gl hv _,by have:=hv.1;simp;omega,c⟩
end Go.TL
namespace Go.TL
open Go.Proofs.Tryz
open Go.Sort (SWO bitsLen insInner insOuter insertionSort insertionSort_holds ltInt sorted_unique_holds swo_ltInt swp)
open Go.Proofs
variable [ZS]
def X6 (s:ο) (a:List Y9) (p:Y9):Int:=
 if p.Zb<0\/(s.Β.length:Int)<=p.Zb then 3 else if a.any (λx=>x.Zb==p.Zb) then 4 else if valid p.seen=false\/valid p.bare=false then 1 else if V0 p.seen p.bare=0 then 0 else 9
theorem z0 (p x:Y9):Ν prog 195 [Zv x,.Ε [R p.Zb,R p.seen,R p.bare]] (ZQ (x.Zb==p.Zb)):=by
 refine Δ.body Τ func195 rfl rfl ntmps195 rfl rfl J ?_;(repeat (first|apply Ζ|(refine YH λb a=>?_;simp;(repeat (rw[Μ];simp));apply a)));refine W.ret ⟨_,rfl,?_,rfl⟩;exact .of (by simp)
theorem zZ (s:ο) (d:List Y9) (n:d.length<2 ^ 62) (p:Y9):Δ prog 153 [Zd s,Vy d,Zv p] [] (λa σ=>X6 s d p=0/\a=.ZP []/\σ=[]) (λa σ=>X6 s d p≠0/\a=.XG 38 (R (X6 s d p))/\σ=[]):=by
 refine Δ.body Τ func153 rfl rfl ntmps153 rfl rfl J ?_;(repeat (first|apply Ζ|(refine YH λf b=>?_;simp;(repeat (rw[Μ];simp));apply b)));refine W.KB (A:=[]) Τ mixed [(6,R p.seen),(7,R p.bare),(1,Vy d),(3,ZW s),(5,.Ε [R p.Zb,R p.seen,R p.bare])] ?_ (by simp[Zf,Zg];exact Ym (by kernel_rfl))
 repeat apply Ζ
 refine W.P' (A:=[]) Τ [(12,ZQ (decide (p.Zb<0)||decide ((s.Β.length:Int)<=p.Zb))),(6,R p.seen),(7,R p.bare),(1,Vy d),(3,ZW s),(5,.Ε [R p.Zb,R p.seen,R p.bare])] ?_ (by by_cases q:p.Zb<0<;>simp[Μ,Sg,q]);by_cases i:p.Zb<0\/(s.Β.length:Int)<=p.Zb
 case pos=>
  have e:X6 s d p=3:=by unfold X6;rw[if_pos i]
  rw[e];refine υ (by simpa using i) ?_;(repeat apply Ζ);refine YH λf b=>?_;simp;(repeat (rw[Μ];simp))
 refine χ (by simpa using i) ?_;(repeat apply Ζ);refine YH λf b=>?_;simp;(repeat (rw[Μ];simp));refine Ν.c (z5 d (.fn (.func 195) [] [.Ε [R p.Zb,R p.seen,R p.bare]]) (λx=>x.Zb==p.Zb) n (by simp[VN]) (λx _=>λ_=>(z0 p x).cc (by simp;exact ZZ.refl _) J J ⟨rfl,rfl⟩)) (ZZ.refl _) (by simp[VN]) J ?_;simp;(repeat (rw[Μ];simp));apply b;cases k:d.any (λx=>x.Zb==p.Zb)
 case true=>
  have e:X6 s d p=4:=by unfold X6;rw[if_neg i,if_pos k]
  rw[e];refine υ J ?_;(repeat apply Ζ);refine YH λf b=>?_;simp;(repeat (rw[Μ];simp))
 refine χ J ?_
 repeat apply Ζ
 have m:(valid p.seen=false\/valid p.bare=false)->X6 s d p=1:=λh=>by unfold X6;rw[if_neg i,k];simp[h]
 cases g:valid p.seen
 case false=>
  rw[m (.inl g)];(repeat apply Ζ);refine YH λf b=>?_;simp;(repeat (rw[Μ];simp));refine Ν.c (N4 p.seen) (ZZ.refl _) J J ?_;simp[g];(repeat (rw[Μ];simp[g]));apply b;refine υ rfl ?_;(repeat apply Ζ);refine YH λf b=>?_;simp;(repeat (rw[Μ];simp))
 cases j:valid p.bare
 case false=>
  rw[m (.inr j)];(repeat apply Ζ);refine YH λf b=>?_;simp;(repeat (rw[Μ];simp));refine Ν.c (N4 p.seen) (ZZ.refl _) J J ?_;simp[g];(repeat (rw[Μ];simp[g]));refine Ν.c (N4 p.bare) (ZZ.refl _) J J ?_;simp[j];(repeat (rw[Μ];simp[j]));apply b;refine υ rfl ?_;(repeat apply Ζ);refine YH λf b=>?_;simp;(repeat (rw[Μ];simp))
 (repeat apply Ζ);refine YH λf b=>?_;simp;(repeat (rw[Μ];simp));refine Ν.c (N4 p.seen) (ZZ.refl _) J J ?_;simp[g];(repeat (rw[Μ];simp[g]));refine Ν.c (N4 p.bare) (ZZ.refl _) J J ?_;simp[j];(repeat (rw[Μ];simp[j]));apply b;refine χ rfl ?_;(repeat apply Ζ);refine YH λf b=>?_;simp;(repeat (rw[Μ];simp));refine Ν.c (F3 p.seen p.bare) (ZZ.refl _) J J ?_;simp;(repeat (rw[Μ];simp));apply b;by_cases l:V0 p.seen p.bare=0
 .have e:X6 s d p=0:=by unfold X6;rw[if_neg i,k];simp[g,j,l]
  refine χ (by simp[l]) ?_;(repeat (first|apply Ζ|(refine YH λf b=>?_;simp;(repeat (rw[Μ];simp));apply b)));exact W.nil ⟨_,rfl,e,rfl,rfl⟩
 .have e:X6 s d p=9:=by unfold X6;rw[if_neg i,k];simp[g,j,l]
  rw[e];refine υ (by simp[l]) ?_;(repeat apply Ζ);refine YH λf b=>?_;simp;(repeat (rw[Μ];simp))
end Go.TL
namespace Go.TL
open Go.Proofs.Tryz
open Go.Sort (SWO bitsLen insInner insOuter insertionSort insertionSort_holds ltInt sorted_unique_holds swo_ltInt swp)
open Go.Proofs Go.Conc
variable [ZS]
theorem X1.later {S b:Α} {B B':θ} {σ σ':Υ} {l:ψ} {vs:Array Value} (h:X1 S B σ l vs) (c:ZC S b B B' σ σ'):X1 b B' σ' l vs:=⟨h.1,λi a v d e=>(h.2 i a v d e).later c⟩
theorem O8.fin {P:Program} {e:Value->Prop} {mn:Bool} {x:W'} {c:Frame} {rest:List Frame} {S f:Α} {H H':Ψ} {B':θ} {σ':Υ} {v:Value} {r:I} (j:O8 P e mn x c rest S [] H [] (λa s=>Y4 a r/\s=[]) (λ_ _=>False))
  (g:Ext S [] H f B' H') (k:Holds f B' σ' H') (l:∀S B σ,Θ S B σ r v):ξ P e mn x (c.finish v) rest H':=by
 obtain⟨i,d⟩:=k.close (h:=0) (λid r m=>U);simp only[List.take_zero] at i d;exact j.ret r [] _ [] H' v ⟨.refl _,rfl⟩ (g.trans d) ⟨λb o v hv=>d.YX _ _ _ (g.YX _ _ _ hv),λid r h=>by simp at h⟩ i (l _ _ _)
abbrev QD (e:Int):Υ:=[.cells 38 1 [R e]]
section
variable {Q:Value->Prop} {mn:Bool} {x:W'} {c f:Frame} {rest:List Frame} {S X5:Α} {SM:θ} {H H1:Ψ} {OY e:Int} {FV:Array Value} {t:Array Value} {env:Ι} {err:Int}
theorem FU (b:Seq x) (w:O8 prog Q mn x c rest S [] H [] (λa s=>Y4 a (R err)/\s=[]) (λ_ _=>False)) {d:Deferred} (hd:OZ prog d 152 FV)
  (y:f.fn=122) (B:f.defers=[d]) (r:f.kind=.normal) (af:f.roundOf=none) (j:(f.mode=.returning/\OY=err)\/∃v,f.mode=.panicking [{v,recovered:=false}]/\Θ X5 SM (QD OY) (.XG 38 (R err)) v)
  (C:Ext S [] H X5 SM H1) (n:Holds X5 SM (QD OY) H1) (hv:X1 X5 SM (QD OY) [.Ο 0 1 0 0] FV) (D:YS X5 SM (QD OY) env f.tmps) (E:Z' env 6=.Ο 0 1 0 0):ξ prog Q mn x f (c::rest) H1:=by
 have F:f.mode≠.run:=by rcases j with⟨h,_⟩|⟨v,h,_⟩<;>rw[h]<;>simp
 refine ξ.deferred b F B hd.t1 hd.t2 hd.run ?_;rw[Sc func152 rfl];have t:∀(f':Frame) (e:Α) (g:θ) (i:Ψ),f'.mode=.returning->f'.defers=[]->f'.kind=.normal->f'.fn=f.fn->f'.tmps=f.tmps->Ext X5 SM H1 e g i->ZC X5 e SM g (QD OY) (QD err)->Holds e g (QD err) i->ξ prog Q mn x f' (c::rest) i:=λf' e g i I K L M N O P T=>by
  refine ξ.back b I K (.inl L) (fn:=f122) (by rw[M,y];exact func122) ?_;rw[N];refine Ω.mono (λv ag ⟨ah,ai,U,aj,X,Y⟩=>?_) (λ_ _ h=>h) _ (KL Τ (a:=R err) (show Sf Z7 [.cell 6 38] env (QD err)=some (R err) by simp[Sf,QM,N',E,QN,WA.agg]) T (D.later P));cases Y;exact w.fin (C.trans (O.trans U)) X λ_ _ _=>.z _
 refine V.here (m:=1) (nt:=10) (env:=entry 0 [.Ο 0 1 0 0]) ?_ (XN.enter n hv J J);refine V.XK b rfl ?_
 repeat apply Ζ
 refine W.Zt ?_;refine W.stop ?_;intro Z aa ak t3 k u;rcases j with⟨j,rfl⟩|⟨v,j,ab⟩
 .refine ξ.recovered b rfl rfl rfl rfl rfl (v:=.nilIface) (.inr ⟨?_,rfl,rfl⟩) ?_
  .simp[tryRecover,Η,Frame.enter,j]
  .refine V.here (m:=1) ?_ (u.put rfl (.z .nilIface));refine V.XK b rfl ?_;refine W.part (A:=[]) Τ [1,2,3,4,5,6] [] rfl λad o=>?_;simp[Pg];(repeat (rw[Μ];simp[Pg]));apply o;refine W.ZM ?_;refine Φ ?_;refine χ rfl ?_;refine Φ ?_;refine W.stop ?_;intro e g i t4 l p;refine .QX b rfl rfl ?_;refine ξ.Ji b rfl rfl rfl func152 ?_;rw[results_none rfl];refine Ω.pure' ?_;simp only[j];exact t _ e g i rfl rfl r rfl rfl (k.ext.trans l.ext) ((k.trans l).all n J) p.holds
 .have ae:Θ Z aa (QD OY) (.XG 38 (R err)) v:=ab.later (k.all n J);refine ξ.recovered b rfl rfl rfl rfl rfl (v:=v) (cs':={f with defers:=[],mode:=.panicking [{v,recovered:=true}]}::c::rest) (.inl ?_) ?_
  .simp[tryRecover,Η,Frame.enter,j]
  .refine V.here (m:=1) ?_ (u.put rfl ae);refine V.XK b rfl ?_;refine W.part (A:=[]) Τ [1,2,3,4,5,6] [] rfl λad o=>?_;simp[Pg];(repeat (rw[Μ];simp[Pg]));apply o;refine W.ZM ?_;refine Φ ?_;refine υ rfl ?_;refine Φ ?_;refine W.stop ?_;intro e g i t4 l p;refine .QX b rfl rfl ?_;refine ξ.Ji b rfl rfl rfl func152 ?_;rw[results_none rfl];refine Ω.pure' ?_;exact t _ e g i rfl rfl r rfl rfl (k.ext.trans l.ext) ((k.trans l).all n J) p.holds
end
theorem zY (s:ο) (e:List Y9) (E:e.length<2 ^ 62) (p:Y9):Ν prog 122 [Zd s,Vy e,Zv p] (R (X6 s e p)):=by
 refine⟨⟨_,func122,rfl,rfl⟩,λT mn x c rest S B H vs g r hv t=>?_⟩;have F:B=[]:=YV.1 (by have:=r.len;simpa using this);subst F;rw[Sc func122 rfl];refine V.here (m:=0) (nt:=12) (env:=entry 0 [Zd s,Vy e,Zv p]) ?_ (XN.enter r hv J J);refine V.XK g rfl ?_
 repeat apply Ζ
 refine YR (A:=[6]) Τ λu h=>Z1 ?_;apply h
 repeat apply Ζ
 refine W.Zt ?_;refine W.part (A:=[]) Τ [0] [1] rfl λu h=>?_;(try simp);(repeat (rw[Μ];simp));apply h;refine W.stop ?_;refine V.defer g rfl rfl rfl rfl rfl rfl rfl ⟨_,func152,rfl,rfl⟩ λU X Y t1 d Z w i y hd=>?_;refine V.here (m:=1) ?_ ⟨i.holds,i.Zr,i.size,J⟩;refine V.XK g rfl ?_;refine W.ZM ?_;refine ZB λu h=>?_;refine WZ.mono (Δ.call (first:=[]) (captured:=[]) ((zZ s e E p).mono (K':=λa f=>X6 s e p=0/\Γ 0 a/\f=[]) (E':=λa f=>(X6 s e p≠0/\a=.XG 38 (R (X6 s e p)))/\Γ 0 a/\f=[]) (λa f ⟨l,k,n⟩=>⟨l,by subst k;simp,n⟩) (λa f ⟨l,k,n⟩=>⟨⟨l,k⟩,by subst k;simp,n⟩) |>.frame J)) (λa f ⟨C,o⟩=>?_) (λa f ⟨⟨C,I⟩,o⟩=>?_)
 .subst o;(try simp);(repeat (rw[Μ];simp));apply h;refine Φ ?_;refine W.stop ?_;intro K L M t2 j D;refine ξ.ret (b:={Frame.enter prog 122 vs .normal with defers:=[d]}) g rfl rfl ?_;exact FU g t hd rfl rfl rfl rfl (.inl ⟨rfl,C.symm⟩) (w.ext.trans j.ext) D.holds (y.later (j.all i.holds J)) D.Zr rfl
 .subst o;subst I;intro K L M t2 aa v j N O P;have Q:=j.all i.holds J;refine FU g t hd rfl rfl rfl rfl (.inr ⟨v,rfl,P⟩) (w.ext.trans j.ext) N (y.later Q) O ?_;rfl
end Go.TL
namespace Go.TL
open Go.Proofs.Tryz
open Go.Sort (SWO bitsLen insInner insOuter insertionSort insertionSort_holds ltInt sorted_unique_holds swo_ltInt swp)
open Go.Proofs
variable [ZS]
theorem zX:IntKind.i64.wrap 3=3:=Z2
def Tj (l:List Int) (i:Nat):Int:=match l[i]? with
 | none=>0
 | some n=>if Xo n=false then 3 else if 0<i/\n<=(l[i-1]?).getD 0 then 5 else 0
def Ru (l:List Int):Int:=Xf ((List.range l.length).map (Tj l))
def Wn (a:List (List Int)):Int:=if a.length=0 then 7 else if 4<a.length then 6 else Xf ((List.range a.length).map λi=>Ru ((a[i]?).getD []))
theorem zW (s:ο) (r:s.small):Ν prog 104 [Zd s] (R (Wn s.Β)):=by
 refine Δ.body Τ func104 rfl rfl ntmps104 rfl rfl J ?_;have E:=r.2.1;by_cases b:s.Β.length=0
 .refine μ b ?_;refine υ J ?_;refine Φ ?_;refine W.rt ?_;exact .of (by rw[show Wn s.Β=7 by simp[Wn,b]];rfl)
 by_cases g:(4:Int)<s.Β.length
 .refine μ (Ρ b g) ?_;refine χ (by simp[b]) ?_;refine μ (Ρ b g) ?_;refine υ J ?_;refine Φ ?_;refine W.rt ?_;exact .of (by rw[show Wn s.Β=6 by simp[Wn,b];omega];rfl)
 have v:Wn s.Β=Xf ((List.range s.Β.length).map λi=>Ru ((s.Β[i]?).getD [])):=by
  unfold Wn;rw[if_neg b,if_neg U]
 rw[v];refine μ (Ρ b g) ?_;refine χ (by simp[b]) ?_;refine μ (Ρ b g) ?_;refine χ J ?_;refine Φ ?_;refine W.iter (λi:Nat=>i<=s.Β.length/\∀j,j<i->Ru ((s.Β[j]?).getD [])=0) (λi=>[(1,ZW s),(18,Z3 s.Β),(19,R s.Β.length),(20,R i)]) (λ_=>[]) (λi=>s.Β.length-i) 0 ⟨U,λj c=>U⟩ rfl J (λi hi w=>?_);refine Φ ?_;refine W.YW rfl (λa=>?_) (λa=>?_)
 .have a:i<s.Β.length:=by simpa using a
  have t:(s.Β[i]?).getD []=s.Β[i]:=by simp[a]
  have F:s.Β[i].length<2 ^ 30:=r.2.2.2.1 _ (YB a);refine μ a ?_;refine W.iter (λn:Nat=>n<=s.Β[i].length/\∀j,j<n->Tj s.Β[i] j=0) (λn=>[(1,ZW s),(18,Z3 s.Β),(19,R s.Β.length),(20,R i),(4,κ R 1 s.Β[i]),(24,κ R 1 s.Β[i]),(25,R s.Β[i].length),(26,R n)]) (λ_=>[]) (λn=>s.Β[i].length-n) 0 ⟨U,λj c=>U⟩ rfl J (λn l x=>?_);refine Φ ?_;refine W.YW rfl (λm=>?_) (λm=>?_)
  .have hd:n<s.Β[i].length:=by simpa using m
   have o:s.Β[i][n]?=some s.Β[i][n]:=ε hd
   have u:∀e:Int,Tj s.Β[i] n=e->e≠0->Xf ((List.range s.Β.length).map λi=>Ru ((s.Β[i]?).getD []))=e:=λe y h=>
    Rw (i:=i) a (by rw[t];exact Rw hd y h l.2) h hi.2
   repeat apply Ζ
   refine IQ hd ?_;refine ZB λH B=>?_;refine Ν.d (SK s.Β[i][n]) (Z1 ?_);apply B;cases p:Xo s.Β[i][n]
   .refine υ J ?_;refine Φ ?_;refine W.rt ?_;exact .of (by rw[u 3 (by simp[Tj,o,p]) Z2];rfl)
   refine χ J ?_
   repeat apply Ζ
   refine W.P' (A:=[]) Τ [(35,ZQ (decide (0<n/\s.Β[i][n]<=(s.Β[i][n-1]?).getD 0))),(1,ZW s),(18,Z3 s.Β),(19,R s.Β.length),(20,R i),(4,κ R 1 s.Β[i]),(24,κ R 1 s.Β[i]),(25,R s.Β[i].length),(26,R n)] ?_ (by
    cases n with
    | zero=>simp[Μ,Sg]
    | succ n=>
     have C:n<s.Β[i].length:=U
     have D:=Xw (show n<2 ^ 62 by omega)
     have h:(0:Int)<(n:Int)+1:=U;simp[Μ,Sg,h,C,D])
   by_cases k:0<n/\s.Β[i][n]<=(s.Β[i][n-1]?).getD 0
   .refine υ (by simp only[k];rfl) ?_;refine Φ ?_;refine W.rt ?_;exact .of (by rw[u 5 (by simp only[Tj,o,p];rw[if_neg J,if_pos k]) Z2];rfl)
   .refine χ (by simp only[k];rfl) ?_;refine Φ ?_;refine W.forget _ ?_ (x (n+1) ⟨hd,λj c=>?_⟩ U)
    .simp[YF hd (show s.Β[i].length<2 ^ 62 by omega)]
    .by_cases e:j=n
     .subst e;simp only[Tj,o,p];rw[if_neg J,if_neg k]
     .exact l.2 j U
  .have hd:s.Β[i].length<=n:=by simpa using m
   refine W.exit rfl ?_;refine Φ ?_;refine W.forget _ ?_ (w (i+1) ⟨a,λj c=>?_⟩ U)
   .simp[YF a (show s.Β.length<2 ^ 62 by omega)]
   .by_cases e:j=i
    .subst e;rw[t];exact Rv λj c=>l.2 j U
    .exact hi.2 j U
 .have a:s.Β.length<=i:=by simpa using a
  refine W.exit rfl ?_;refine Φ ?_;refine W.rt ?_;exact .of (by rw[Rv (f:=λi=>Ru ((s.Β[i]?).getD [])) λj c=>hi.2 j U];rfl)
def VI (s:ο) (c:List Y9):Int:=if 4<c.length then 6 else Xf ((List.range c.length).map λi=>match c[i]? with|none=>0|some p=>X6 s (c.take i) p)
def TH (s:ο):Int:=if 4<s.cells.length then 6 else Xf ((List.range s.cells.length).map λi=>VI s ((s.cells[i]?).getD []))
theorem zV (s:ο) (k:s.small):Ν prog 105 [Zd s] (R (TH s)):=by
 refine Δ.body Τ func105 rfl rfl ntmps105 rfl rfl J ?_;have D:=k.2.2.1;by_cases l:(4:Int)<s.cells.length
 .refine μ l ?_;refine υ J ?_;refine Φ ?_;refine W.rt ?_;exact .of (by rw[show TH s=6 by simp[TH];omega];rfl)
 have v:TH s=Xf ((List.range s.cells.length).map λi=>VI s ((s.cells[i]?).getD [])):=by
  unfold TH;rw[if_neg U]
 rw[v];refine μ l ?_;refine χ J ?_;refine Φ ?_;refine W.iter (λi:Nat=>i<=s.cells.length/\∀j,j<i->VI s ((s.cells[j]?).getD [])=0) (λi=>[(1,ZW s),(13,Vx s.cells),(14,R s.cells.length),(15,R i)]) (λ_=>[]) (λi=>s.cells.length-i) 0 ⟨U,λj c=>U⟩ rfl J (λi hi w=>?_);refine Φ ?_;refine W.YW rfl (λa=>?_) (λa=>?_)
 .have a:i<s.cells.length:=by simpa using a
  have m:(s.cells[i]?).getD []=s.cells[i]:=by simp[a]
  have E:s.cells[i].length<2 ^ 30:=k.2.2.2.2 _ (YB a)
  have o:∀e:Int,VI s s.cells[i]=e->e≠0->Xf ((List.range s.cells.length).map λi=>VI s ((s.cells[i]?).getD []))=e:=λe x y=>
   Rw (i:=i) a (by rw[m];exact x) y hi.2
  by_cases r:(4:Int)<s.cells[i].length
  .refine μ (Ρ a r) ?_;refine υ J ?_;refine Φ ?_;refine W.rt ?_;exact .of (by rw[o 6 (by unfold VI;rw[if_pos U]) Z2];rfl)
  refine μ (Ρ a r) ?_;refine χ J ?_;refine Φ ?_;have t:VI s s.cells[i]=Xf ((List.range s.cells[i].length).map λn=>match s.cells[i][n]? with|none=>0|some p=>X6 s (s.cells[i].take n) p):=by unfold VI;rw[if_neg U]
  refine W.iter (λn:Nat=>n<=s.cells[i].length/\∀j,j<n->(match s.cells[i][j]? with|none=>0|some p=>X6 s (s.cells[i].take j) p)=0) (λn=>[(1,ZW s),(13,Vx s.cells),(14,R s.cells.length),(15,R i),(4,Vy s.cells[i]),(22,Vy s.cells[i]),(23,R s.cells[i].length),(24,R n)]) (λ_=>[]) (λn=>s.cells[i].length-n) 0 ⟨U,λj c=>U⟩ rfl J (λn d B=>?_);refine Φ ?_;refine W.YW rfl (λg=>?_) (λg=>?_)
  .have hd:n<s.cells[i].length:=by simpa using g
   have u:s.cells[i][n]?=some s.cells[i][n]:=ε hd
   repeat apply Ζ
   refine YR (A:=[6]) Τ λC h=>Xx hd ?_;apply h;refine W.fix (id:=0) (σ':=[]) (ω _) rfl J J rfl [(5,R n),(6,.Ε [R s.cells[i][n].Zb,R s.cells[i][n].seen,R s.cells[i][n].bare]),(1,ZW s),(13,Vx s.cells),(14,R s.cells.length),(15,R i),(4,Vy s.cells[i]),(22,Vy s.cells[i]),(23,R s.cells[i].length),(24,R n)] J ?_
   repeat apply Ζ
   refine W.draw (A:=[]) Τ mixed λC h=>?_;simp;(repeat (rw[Zf];simp[hd,St hd]));try rw[Zg]
   (try simp only[<-Nn]);refine Yl (Ν.q (zY s (s.cells[i].take n) (by simp;omega) s.cells[i][n])) (VK ?_);refine XL (h _ _ ?_)
   repeat apply Ζ
   refine Φ ?_;by_cases b:X6 s (s.cells[i].take n) s.cells[i][n]=0
   .refine χ (by simp[b]) ?_;refine Φ ?_;refine W.forget _ ?_ (B (n+1) ⟨hd,λj c=>?_⟩ U)
    .simp[YF hd (show s.cells[i].length<2 ^ 62 by omega)]
    .by_cases e:j=n
     .subst e;rw[u];exact b
     .exact d.2 j U
   .refine υ (by simp[b]) ?_;refine Φ ?_;refine W.rt ?_;exact .of (by rw[o (X6 s (s.cells[i].take n) s.cells[i][n]) (by rw[t];exact Rw hd (by rw[u]) b d.2) b];rfl)
  .have hd:s.cells[i].length<=n:=by simpa using g
   refine W.exit rfl ?_;refine Φ ?_;refine W.forget _ ?_ (w (i+1) ⟨a,λj c=>?_⟩ U)
   .simp[YF a (show s.cells.length<2 ^ 62 by omega)]
   .by_cases e:j=i
    .subst e;rw[m,t];exact Rv λj c=>d.2 j U
    .exact hi.2 j U
 .have a:s.cells.length<=i:=by simpa using a
  refine W.exit rfl ?_;refine Φ ?_;refine W.rt ?_;exact .of (by rw[Rv (f:=λi=>VI s ((s.cells[i]?).getD [])) λj c=>hi.2 j U];rfl)
def ο.err (s:ο):Int:=if Wo s.Κ≠0 then Wo s.Κ else if Wn s.Β≠0 then Wn s.Β else TH s
theorem ME (s:ο) (f:s.small):Ν prog 48 [Zd s] (R s.err):=by
 refine Δ.body Τ func48 rfl rfl ntmps48 rfl rfl J ?_;refine Φ ?_;refine .loop ?_;refine Φ ?_;refine υ rfl ?_;refine Φ ?_;refine ZB λh a=>?_;refine Ν.d (z1 s f) (Z1 ?_);apply a;refine Φ ?_;by_cases b:Wo s.Κ=0
 case neg=>
  refine υ (by simp[b]) ?_;refine Φ ?_;refine W.rt ?_;exact .of (by rw[show s.err=Wo s.Κ by unfold ο.err;rw[if_pos b]];rfl)
 refine χ (by simp[b]) ?_;refine μ @N5 ?_;refine .inLoop ?_;refine Φ ?_;refine υ rfl ?_;refine Φ ?_;refine ZB λh a=>?_;refine Ν.d (zW s f) (Z1 ?_);apply a;refine Φ ?_;by_cases c:Wn s.Β=0
 case neg=>
  refine υ (by simp[c]) ?_;refine Φ ?_;refine W.rt ?_;exact .of (by rw[show s.err=Wn s.Β by unfold ο.err;rw[if_neg (by simp[b]),if_pos c]];rfl)
 refine χ (by simp[c]) ?_;refine μ @MH ?_;refine .inLoop ?_;refine Φ ?_;refine υ rfl ?_;refine Φ ?_;refine ZB λh a=>?_;refine Ν.d (zV s f) (Z1 ?_);apply a;refine Φ ?_;have e:s.err=TH s:=by unfold ο.err;rw[if_neg (by simp[b]),if_neg (by simp[c])]
 rw[e];by_cases g:TH s=0
 case neg=>
  refine υ (by simp[g]) ?_;refine Φ ?_;refine W.rt ?_;exact .of rfl
 refine χ (by simp[g]) ?_;refine μ @zX ?_;refine .inLoop ?_;refine Φ ?_;refine χ rfl ?_;refine W.exit rfl ?_;refine Φ ?_;refine W.rt ?_;exact .of (by rw[g];rfl)
section
variable {P:Program} {T:Z5} {A:List Nat} {m nt:Nat} {k:List Item} {env:Ι} {σ:Υ} {Z:XF} {E:Yf}
theorem W.Xv (a:ZJ P T) (env':Ι) (σ':Υ) {id:Nat} {ops:Array Oper} (h:W P m nt k env' σ' Z E) (b:run P T A nt ops (idx ops.size []) env σ (λe s=>s=σ'/\∀p∈env',Z' e p.1=p.2) E):W P m nt (.code (.region id ops false)::k) env σ Z E:=
 YR a λg c=>KN (λe s ⟨d,f⟩=>c e s (d▸W.forget env' f h)) _ _ _ b
end
def XX (l:ψ):I:=if l.isEmpty then .sl true 0 [] else .ms 0 l.length 0 l.length
def ZY (t:TypeId) (k:Nat) (l:ψ):Υ:=if l.isEmpty then [] else [.cells t k l]
def Xn (k:Nat) (l:ψ):I:=if l.isEmpty then .sl true 0 [] else .sl false k l
theorem Ti:XX []=.sl true 0 []:=rfl
theorem VY {t k:Nat}:ZY t k []=[]:=rfl
theorem Sb {l:ψ} (h:l≠[]):XX l=.ms 0 l.length 0 l.length:=by unfold XX;rw[if_neg (by simpa using h)]
theorem Yz {t k:Nat} {l:ψ} (h:l≠[]):ZY t k l=[.cells t k l]:=by unfold ZY;rw[if_neg (by simpa using h)]
theorem P5 {l:ψ} {x:I}:XX (l++[x])=.ms 0 (l.length+1) 0 (l.length+1):=by rw[Sb J];simp
theorem Sa {t k:Nat} {l:ψ} {x:I}:ZY t k (l++[x])=[.cells t k (l++[x])]:=Yz J
theorem Yu.acc {t k:Nat} {l:ψ} (b:∀e∈l,∀a∈e.cells,Γ 0 a):Yu 0 (ZY t k l) (XX l) (Xn k l):=by
 unfold ZY XX Xn;cases h:l.isEmpty with
 | true=>exact .low J
 | false=>exact .own (ω _) rfl rfl b
theorem Y4.acc {k:Nat} {l:ψ}:Y4 (Xn k l) (.sl false k l):=by
 unfold Xn;cases h:l.isEmpty with
 | true=>rw[Q5.1 h];exact .nil
 | false=>exact .refl _
@[simp] theorem r9 {c:Type} {l:List c} {a b:c}:(l++[a]).set l.length b=l++[b]:=by rw[Qn _ _ (ZO _),Qj];rfl
@[simp] theorem r8 {t k:Nat} {l:ψ}:Γ (ZY t k l).length (XX l):=by
 unfold XX ZY;cases l.isEmpty<;>simp[TK]
theorem Γ.mono {h c:Nat} {a:I} (d:Γ h a) (g:h<=c):Γ c a:=by
 induction d with
 | z v=>exact .z v
 | Zw=>exact .Zw
 | Ε _ b=>exact .Ε b
 | sl _ b=>exact .sl b
 | Z9 _ b=>exact .Z9 b
 | ZP _ b=>exact .ZP b
 | fn _ _ e f=>exact .fn e f
 | XG _ b=>exact .XG b
 | Ο h=>exact .Ο U
 | ms h=>exact .ms U
 | mp h=>exact .mp U
 | it h=>exact .it U
theorem OX {t k h:Nat} {l:ψ} (d:∀e∈l,∀a∈e.cells,Γ 0 a):∀r∈ZY t k l,X8 h r:=by
 intro r b;unfold ZY at b;cases c:l.isEmpty with
 | true=>rw[c] at b;simp at b
 | false=>
  rw[c] at b;simp at b;subst b;exact λe f a g=>(d e f a g).mono (ω _)
section
variable {P:Program} {m nt:Nat} {k:List Item} {env:Ι} {Z:XF} {E:Yf}
theorem W.Vw {σ0:Υ} {t:TypeId} {e:I} {kk:Nat} (c:m<=σ0.length) (d:∀r∈σ0,X8 σ0.length r) (f:∀a∈e.cells,Γ σ0.length a) (env':Ι)
  (g:∀p∈env',(Z' env p.1=p.2/\Γ σ0.length p.2)\/(Z' env p.1=.Ο σ0.length 1 0 0/\p.2=.Ε e.cells)) (h:W P m nt k env' σ0 Z E):W P m nt k env (σ0++[.cells t kk [e]]) Z E:=
 W.fix (t:=t) (kk:=kk) (e:=e) c J f (λid r i b=>d r (by
  rw[YU i] at b;exact Zk b)) J env' g h
theorem W.FT {t kk:Nat} {l:ψ} {d:Nat} (f:∀e∈l,∀a∈e.cells,Γ 0 a) (env':Ι) (hd:Z' env d=XX l) (c:∀p∈env',Z' env p.1=p.2/\Γ 0 p.2) (g:W P 0 nt k ((d,Xn kk l)::env') [] Z E):W P 0 nt k env (ZY t kk l) Z E:=
 W.cut 0 (ω _) ((d,Xn kk l)::env') (ω _) (λid r h=>U) (λp b=>by
  rcases YZ.1 b with rfl|b
  .show Yu 0 _ (Z' env d) _;rw[hd];exact .acc f
  .rw[(c p b).1];exact .low (c p b).2) (by simpa using g)
end
abbrev YO (l:List Int):I:=.sl true 1 (l.map R)
theorem Y4.FR {L:List (List Int)}:Y4 (Xn 1 (L.map YO)) (Z3 L):=.trans .acc (.map λx _=>.one .ex rfl rfl)
theorem MD {L:List (List Int)}:∀e∈L.map YO,∀a∈e.cells,Γ 0 a:=by
 intro e c a b;obtain⟨x,_,rfl⟩:=YK.1 c;simp[I.cells] at b;subst b;simp
theorem FQ (n:Int):Ν prog 51 [R n] (.ZP [R (if valid n then VZ n else 0),R (if valid n then 0 else 1)]):=by
 refine Δ.body Τ func51 rfl rfl ntmps51 rfl rfl J ?_;refine Φ ?_;refine ZB λc a=>?_;refine Ν.d (N4 n) (Z1 ?_);apply a;cases b:valid n
 .refine υ rfl ?_;refine Φ ?_;refine W.rt ?_;exact .of rfl
 .refine χ rfl ?_;refine ZB λc a=>?_;refine Ν.d (F1 n) (Z1 ?_);apply a;refine Φ ?_;refine W.rt ?_;exact .of rfl
def Uk (l:List Xp) (g:Xp):Int:=idxOf (λx=>decide (x.ZG=VZ g.ZG)) l
def WG (l:List Xp) (i:Nat):List (List Int):=match l[i]? with
 | none=>[]
 | some g=>if 0<=Uk l g then [[(i:Int),Uk l g]] else []
def twins (l:List Xp):List (List Int):=(List.range l.length).flatMap (WG l)
theorem zU (g x:Xp):Ν prog 101 [Yr x,.Ε [.fn (.func 99) [R g.ZG] []]] (ZQ (x.ZG==VZ g.ZG)):=by
 refine Δ.body Τ func101 rfl rfl ntmps101 rfl rfl J ?_;refine Φ ?_;refine W.draw (A:=[]) Τ mixed λb a=>VK ?_;refine Yl (r:=R (VZ g.ZG)) (λσ=>(F1 g.ZG).cc (by simp;exact ZZ.refl _) J J ⟨rfl,rfl⟩) ?_;simp;(repeat (rw[Zf];simp));try rw[Zg]
 refine XL (a _ _ ?_);refine Φ ?_;refine W.rt ?_;exact .of (by simp)
theorem zT (s:ο) (r:s.small):Ν prog 46 [Zd s] (.ZP [Z3 (if s.err=0 then twins s.Κ else []),R s.err]):=by
 refine Δ.body Τ func46 rfl rfl ntmps46 rfl rfl J ?_;have y:=r.1;refine Φ ?_;refine ZB λm e=>?_;refine Ν.d (ME s r) (Z1 ?_);apply e;refine Φ ?_;by_cases f:s.err=0
 case neg=>
  refine υ (by simp[f]) ?_;refine Φ ?_;refine W.rt ?_;rw[if_neg f];exact .ZP (.cons .nil (.cons (.refl _) .nil))
 refine χ (by simp[f]) ?_;refine Φ ?_;rw[if_pos f,f];refine W.iter (λi:Nat=>i<=s.Κ.length) (λi=>[(1,ZW s),(5,XX (((List.range i).flatMap (WG s.Κ)).map YO)),(16,ZU s.Κ),(17,R s.Κ.length),(18,R i)])
  (λi=>ZY 29 1 (((List.range i).flatMap (WG s.Κ)).map YO)) (λi=>s.Κ.length-i) 0 (ω _) rfl (by simp[Ti]) (λi hi o=>?_)
 refine Φ ?_;refine W.YW rfl (λa=>?_) (λa=>?_)
 .have a:i<s.Κ.length:=by simpa using a
  have l:(List.range (i+1)).flatMap (WG s.Κ)=(List.range i).flatMap (WG s.Κ)++WG s.Κ i:=by rw[Uy,OE];simp
  have g:WG s.Κ i=if 0<=Uk s.Κ s.Κ[i] then [[(i:Int),Uk s.Κ s.Κ[i]]] else []:=by simp[WG,a]
  have p:=λh=>OX (t:=29) (k:=1) (h:=h) (MD (L:=(List.range i).flatMap (WG s.Κ)));obtain⟨L,b⟩:=Z8 (((List.range i).flatMap (WG s.Κ)).map YO);rw[<-b] at p;refine W.to (σ':=ZY 29 1 L) (env':=[(1,ZW s),(5,XX L),(16,ZU s.Κ),(17,R s.Κ.length),(18,R i)]) ?_ (by rw[b]) (by rw[b];simp)
  repeat apply Ζ
  refine YR (A:=[7]) Τ λm e=>Xx a ?_;apply e;refine W.Vw (ω _) (p _) J [(6,R i),(7,.Ε [UK s.Κ[i].name,R s.Κ[i].ZG]),(1,ZW s),(5,XX L),(16,ZU s.Κ),(17,R s.Κ.length),(18,R i)] J ?_
  repeat apply Ζ
  refine YR (A:=[8]) Τ λm e=>Z1 ?_;apply e;refine W.Vw (ω _) (p _) (by simp[VN]) [(8,.Ε [.fn (.func 99) [R s.Κ[i].ZG] []]),(6,R i),(1,ZW s),(5,XX L),(16,ZU s.Κ),(17,R s.Κ.length),(18,R i)] (by simp[VN]) ?_;refine ZB λm e=>?_;refine Ν.c (FX s.Κ (.fn (.func 101) [] [.Ε [.fn (.func 99) [R s.Κ[i].ZG] []]]) (λx=>x.ZG==VZ s.Κ[i].ZG) U (by simp[VN]) (λx _=>λ_=>(zU s.Κ[i] x).cc (by simp;exact ZZ.refl _) (by simp[VN]) J ⟨rfl,rfl⟩)) (ZZ.refl _) (by simp[VN]) J ?_;simp;(repeat (rw[Μ];simp));apply e;have u:idxOf (λx=>decide (x.ZG=VZ s.Κ[i].ZG)) s.Κ=Uk s.Κ s.Κ[i]:=rfl;rw[u];generalize B:Uk s.Κ s.Κ[i]=v at g;refine Φ ?_;have C:L.length<=i:=by
   rw[b,Yb];have:∀n,((List.range n).flatMap (WG s.Κ)).length<=n:=λn=>by
    induction n with
    | zero=>simp
    | succ n o=>
     rw[Uy,OE,Vo];have:(WG s.Κ n).length<=1:=by unfold WG;split;simp;split<;>simp
     simp only[Nq,List.flatMap_nil,TY];omega
   exact this i
  by_cases hv:0<=v
  .refine υ (by simp[hv]) ?_
   repeat apply Ζ
   refine W.Xv (A:=[37]) Τ [(5,XX (L++[YO [(i:Int),v]])),(1,ZW s),(16,ZU s.Κ),(17,R s.Κ.length),(18,R i)] (ZY 29 1 (L++[YO [(i:Int),v]])) ?_ (by
    by_cases j:L=[]
    .subst j;(try simp);(repeat (rw[Μ];simp[Ti,VY]));(try simp[Ti,VY]);exact⟨rfl,rfl⟩
    .have w:L.length<=4294967295:=U
     (try simp);(repeat (rw[Μ];simp[Sb j,Yz j,P5,Sa]));(try simp[Sb j,Yz j,P5,Sa]);exact w)
   refine Φ ?_;refine W.to (o (i+1) a U) ?_ ?_
   .rw[l,g,if_pos hv,b];simp
   .rw[l,g,if_pos hv,b];simp[YF a (show s.Κ.length<2 ^ 62 by omega)]
  .refine χ (by simp[hv]) ?_;refine Φ ?_;refine W.to (o (i+1) a U) ?_ ?_
   .rw[l,g,if_neg hv,b];simp
   .rw[l,g,if_neg hv,b];simp[YF a (show s.Κ.length<2 ^ 62 by omega)]
 .have a:i=s.Κ.length:=by simp at a;omega
  subst a;refine W.exit rfl ?_;refine Φ ?_;refine W.FT (d:=2) MD [(3,R 0)] J J ?_;refine W.rt ?_;exact .ZP (.cons .FR (.cons (.refl _) .nil))
def P4 {c:Type} [DecidableEq c]:c->List c->List c
 | _,[]=>[]
 | a,b::l=>if b=a then P4 a l else b::P4 b l
def Wm {b:Type} [DecidableEq b]:List b->List b
 | []=>[]
 | a::l=>a::P4 a l
theorem FP {c:Type} [DecidableEq c] (l:List c) {p:Nat} (g:0<p) (h:p<l.length) (i:p-1<l.length):Wm (l.take (p+1))=Wm (l.take p)++if l[p]=l[p-1] then [] else [l[p]]:=by
 have gen:∀(l:List c) (a:c) (p:Nat) (h:p<l.length),P4 a (l.take (p+1))=P4 a (l.take p)++if l[p]=(a::l)[p]'(by simp;omega) then [] else [l[p]]:=by
  intro l
  induction l with
  | nil=>intro a p h;cases h
  | cons b l f=>
   intro a p h;cases p with
   | zero=>by_cases e:b=a<;>simp[P4,e]
   | succ p=>
    have d:p<l.length:=by simpa using h
    by_cases e:b=a
    .subst e;have:=f b p d;simp only[List.take_succ_cons,P4,if_true,List.getElem_cons_succ] at this ⊢;exact this
    .have:=f b p d;simp only[List.take_succ_cons,P4,e,if_false,List.getElem_cons_succ,List.cons_append] at this ⊢;rw[this]
 cases l with
 | nil=>cases h
 | cons a l=>
  obtain⟨q,rfl⟩:∃q,p=q+1:=⟨p-1,U⟩;have d:q<l.length:=by simpa using h
  have:=gen l a q d;simp only[List.take_succ_cons,Wm,List.getElem_cons_succ,Nat.add_sub_cancel] at this ⊢;rw[this];rfl
theorem Kp {f:List Int} {L:ψ} (a:L=f.map R) {j:Nat} {x:Int} (h:f[j]?=some x):L[j]?=some (R x)/\∀h:j<L.length,L[j]=R x:=by
 have e:L[j]?=some (R x):=by rw[a,Yk,h];rfl
 exact⟨e,λb=>by rw[ε b] at e;exact WM e⟩
theorem zS (l:List Int) (n:Nat) (d:l.length=n) (aF:n<2 ^ 40):Δ prog 133 [.ms 0 n 0 n] [.cells 3 1 (l.map R)]
  (λr s=>∃aa:List Int,(Wm l++aa).length=n/\r=.ms 0 n 0 (Wm l).length/\s=[.cells 3 1 ((Wm l++aa).map R)]) (λ_ _=>False):=by
 refine Δ.body Τ func133 rfl rfl ntmps133 rfl rfl J ?_;by_cases t:(n:Int)<2
 .refine μ (Ρ d t) ?_;refine υ rfl ?_;refine μ d ?_;refine W.ret ⟨_,rfl,[],?_⟩;have e:Wm l=l:=by
   match l,d with
   | [],_=>rfl
   | [a],_=>rfl
   | a::b::l,d=>simp at d;omega
  rw[e,TY,d];exact⟨rfl,rfl,rfl⟩
 refine μ (Ρ d t) ?_;refine χ rfl ?_;refine Φ ?_;refine W.iter (λk:Nat=>1<=k/\k<=n/\Wm (l.take k)=l.take k) (λk=>[(0,.ms 0 n 0 n),(3,R k)]) (λ_=>[.cells 3 1 (l.map R)]) (λk=>n-k) 1 ⟨ZO _,U,by
  match l,d with
  | [],d=>rfl
  | a::l,d=>rfl⟩ rfl J (λk aj ak=>?_)
 obtain⟨aG,c,H⟩:=aj;refine μ d ?_;by_cases C:k<n
 .refine υ (by simp[C]) ?_
  repeat apply Ζ
  obtain⟨p,ab⟩:∃p,k=p+1:=⟨k-1,U⟩;have al:IntKind.i64.wrap ((k:Int)-1)=(p:Int):=by have:=Xw (show p<2 ^ 62 by omega);rw[ab];simpa using this
  have am:p<n:=U
  have N:k<l.length:=U
  have an:p<l.length:=U;obtain⟨L,h⟩:=Z8 (l.map R);have I:L.length=n:=by rw[h];simpa using d
  obtain⟨O,P⟩:=Kp h (ε N);obtain⟨Q,S⟩:=Kp h (ε an);refine W.to (σ':=[.cells 3 1 L]) (env':=[(0,.ms 0 n 0 n),(3,R k)]) ?_ (by rw[h]) J;generalize T:l[k]=x at O P;generalize ao:l[p]=y at Q S;refine SL (Ρ C (Ρ al (Ρ I (Ρ am (Ρ O (Ρ P (Ρ Q S))))))) ?_;have ad:Wm (l.take (k+1))=Wm (l.take k)++if x=y then [] else [x]:=by
   rw[FP l U N U];simp only[ab,Nat.add_sub_cancel] at T ⊢;rw[T,ao]
  by_cases K:x=y
  .refine υ (by simp[K]) ?_
   repeat apply Ζ
   refine W.Xv (A:=[]) Τ [(0,.ms 0 n 0 n),(3,R k),(4,.ms 0 n k (n-k))] [.cells 3 1 L] ?_ (by
    (try simp);(repeat (rw[Μ];simp[I,St C]));(try simp[I,St C]))
   refine Φ ?_;have ae:Wm (l.take (k+1))=l.take k:=by rw[ad,if_pos K,TY,H]
   refine W.iter (λq:Nat×Nat×List Int=>1<=q.2.1/\k+q.2.1<=n/\q.2.2.length=n/\q.1<k+q.2.1/\q.1=(Wm (l.take (k+q.2.1))).length/\q.2.2.take q.1=Wm (l.take (k+q.2.1))/\∀j,k+q.2.1-1<=j->j<n->q.2.2[j]?=l[j]?)
    (λq=>[(0,.ms 0 n 0 n),(3,R q.1),(4,.ms 0 n k (n-k)),(5,R q.2.1)]) (λq=>[.cells 3 1 (q.2.2.map R)]) (λq=>n-q.2.1) (k,1,l) ⟨ZO _,by simp;omega,d,J,by simp only[ae];simp;omega,by simp only[ae],λj _ _=>rfl⟩ (by rw[h]) J (λq ap af=>?_)
   obtain⟨m,c,f⟩:=q;obtain⟨aq,ar,i,au,D,E,F⟩:=ap;simp only at aq ar i au D E F;clear h I O P Q S;refine μ i ?_;by_cases hd:c<n-k
   .have aH:(c:Int)<((n-k:Nat):Int):=U
    refine υ (by simp[hd]) ?_
    repeat apply Ζ
    obtain⟨o,av⟩:∃r,c=r+1:=⟨c-1,U⟩;have aw:IntKind.i64.wrap ((c:Int)-1)=(o:Int):=by have:=Xw (show o<2 ^ 62 by omega);rw[av];simpa using this
    have ax:o<n-k:=U;obtain⟨ag,w⟩:=Z8 (f.map R);have V:ag.length=n:=by rw[w];simpa using i
    have ah:f[k+c]?=some (l[k+c]'U):=by rw[F _ U U,ε]
    have hv:f[k+o]?=some (l[k+o]'U):=by rw[F _ U U,ε]
    have g:=FP l (p:=k+c) U U U
    have ay:l[k+c-1]'U=l[k+o]'U:=by congr 1;omega
    rw[ay] at g;generalize l[k+c]'U=u at ah g;generalize l[k+o]'U=v at hv g;obtain⟨X,Y⟩:=Kp w ah;obtain⟨az,aA⟩:=Kp w hv;refine W.to (σ':=[.cells 3 1 ag]) (env':=[(0,.ms 0 n 0 n),(3,R m),(4,.ms 0 n k (n-k)),(5,R c)]) ?_ (by rw[w]) J;have B:m<n:=U;refine W.draw (A:=[]) Τ mixed λaI aB=>?_;simp;(repeat (rw[Zf];simp[hd,aw,ax,V,X,Y,az,aA]));try rw[Zg];refine XL (aB _ _ ?_)
    by_cases M:u=v
    .refine χ (by simp[M]) ?_;refine Φ ?_;rw[if_pos M,TY] at g;refine W.to (af (m,c+1,f) ⟨J,by simp;omega,i,by simp;omega,by simp only[<-SZ,g];exact D,by simp only[<-SZ,g];exact E,λj Z t=>F j (by simp at Z;omega) t⟩ (by simp;omega)) (by rw[w]) ?_;have:=Xw (show c+1<2 ^ 62 by omega);simpa using this
    .refine υ (by simp[M]) ?_;rw[if_neg M] at g
     repeat apply Ζ
     refine W.Xv (A:=[]) Τ [(0,.ms 0 n 0 n),(3,R m),(4,.ms 0 n k (n-k)),(5,R c)] [.cells 3 1 ((f.set m u).map R)] ?_ (by
      (try simp);(repeat (rw[Μ];simp[hd,V,B,X,Y]));(try simp[hd,V,B,X,Y]);subst w;simp)
     refine Φ ?_;refine W.to (af (m+1,c+1,f.set m u) ⟨J,by simp;omega,by simpa using i,by simp;omega,by simp only[<-SZ,g];simp;exact D,?_,λj Z t=>?_⟩ (by simp;omega)) J ?_
     .simp only[<-SZ,g];rw[<-E,UZ (by simp;omega),List.take_set_of_le (ZO _)];simp
     .simp at Z;rw[VT U];exact F j U t
     .have ai:=Xw (show c+1<2 ^ 62 by omega)
      have Χ:=Xw (show m+1<2 ^ 62 by omega);simp at ai Χ ⊢;exact⟨Χ,ai⟩
   .refine χ (by simp[hd]) ?_;refine W.exit rfl ?_;have aC:k+c=n:=U;have aD:l.take n=l:=TC U;rw[aC,aD] at D E
    repeat apply Ζ
    have B:m<=n:=U;refine W.Xv (A:=[]) Τ [(0,.ms 0 n 0 n),(3,R m)] [.cells 3 1 ((Wm l++List.replicate (n-m) 0).map R)] ?_ (by
     (try simp);(repeat (rw[Μ];simp[i,B]));(try simp[i,B]);rw[<-Nn,E,Nt (by simp;omega),TY])
    have aE:(Wm l).length+(n-m)=n:=U;refine μ (Ρ aE B) ?_;refine W.ret ⟨_,rfl,List.replicate (n-m) 0,by simp;omega,?_,J⟩;rw[<-D];rfl
  .refine χ (by simp[K]) ?_;refine Φ ?_;refine W.to (ak (k+1) ⟨U,U,?_⟩ U) (by rw[h]) ?_
   .rw[ad,if_neg K,H,<-T,<-UZ N]
   .have:=Xw (show k+1<2 ^ 62 by omega);simpa using this
 .refine χ (by simp[C]) ?_;refine W.exit rfl ?_;refine Φ ?_;refine W.ret ⟨_,rfl,[],?_⟩;have e:Wm l=l:=by rw[TC U] at H;exact H
  rw[e,TY,d];exact⟨rfl,rfl,rfl⟩
def P3:ο:=⟨[],[],[]⟩
theorem ID {e f g:Bool} {a b c:Nat}:Y4 (.Z9 [.sl e a [],.sl f b [],.sl g c []]) (Zd P3):=.Z9 (.cons .nil (.cons .nil (.cons .nil .nil)))
abbrev FO (r:ο×List Found×Int):I:=.ZP [Zd r.1,Y8 r.2.1,R r.2.2]
def XC (s:ο) (a:Bool) (F:List Found):ο×List Found×Int:=
 if s.err≠0 then(P3,[],s.err) else if a=true/\F=[] then(s,[],9) else(s,F,0)
def Tg (s:ο) (a:Int) (F:List Found):ο×List Found×Int:=
 if s.err≠0 then(P3,[],s.err) else if a<0\/(s.cells.length:Int)<=a then(P3,[],3) else XC s true F
def P2 (s:ο) (F:List Found):Prop:=s.err=0->Ν prog 116 [Zd s] (Y8 F)
theorem Ko (s:ο) (g:s.small) (c:Bool) (F:List Found) (h:P2 s F):Ν prog 75 [Zd s,ZQ c] (FO (XC s c F)):=by
 refine Δ.body Τ func75 rfl rfl ntmps75 rfl rfl J ?_
 repeat apply Ζ
 refine YR (A:=[4]) Τ λf a=>Z1 ?_;apply a;refine ZB λf a=>?_;refine Ν.d (ME s g) (Z1 ?_);apply a;refine Φ ?_;by_cases b:s.err=0
 case neg=>
  have e:XC s c F=(P3,[],s.err):=by unfold XC;rw[if_pos b]
  rw[e];refine υ (by simp[b]) ?_;refine Φ ?_;refine W.fix (id:=0) (σ':=[]) (ω _) rfl J J rfl [(4,.Ε [.sl true 0 [],.sl true 0 [],.sl true 0 []]),(5,.sl true 0 []),(6,R s.err)] J ?_;refine W.rt ?_;exact .ZP (.cons ID (.cons .nil (.cons (.refl _) .nil)))
 refine χ (by simp[b]) ?_
 repeat apply Ζ
 refine YR (A:=[8]) Τ λf a=>Z1 ?_;apply a;refine ZB λf a=>?_;refine Ν.d (h b) (Z1 ?_);apply a
 repeat apply Ζ
 cases c
 case false=>
  have e:XC s false F=(s,F,0):=by unfold XC;rw[if_neg (by simpa using b),if_neg J]
  rw[e];refine Φ ?_;refine χ rfl ?_;refine Φ ?_;refine W.fix (id:=0) (σ':=[]) (ω _) rfl J J rfl [(4,ZW s),(5,Y8 F),(6,R 0)] J ?_;refine W.rt ?_;exact .refl _
 case true=>
  refine Φ ?_;by_cases z:F=[]
  .have e:XC s true F=(s,[],9):=by unfold XC;rw[if_neg (by simpa using b),if_pos ⟨rfl,z⟩]
   rw[e];refine υ (by simp[z]) ?_;refine Φ ?_;refine W.fix (id:=0) (σ':=[]) (ω _) rfl J J rfl [(4,ZW s),(5,.sl true 0 []),(6,R 9)] J ?_;refine W.rt ?_;exact .ZP (.cons (.refl _) (.cons .nil (.cons (.refl _) .nil)))
  .have e:XC s true F=(s,F,0):=by unfold XC;rw[if_neg (by simpa using b),if_neg (by simp[z])]
   rw[e];refine χ (by simp[z]) ?_;refine Φ ?_;refine W.fix (id:=0) (σ':=[]) (ω _) rfl J J rfl [(4,ZW s),(5,Y8 F),(6,R 0)] J ?_;refine W.rt ?_;exact .refl _
theorem zR (s:ο) (g:s.small) (a:Int) (F:List Found) (j:P2 s F):Ν prog 82 [Zd s,R a] (FO (Tg s a F)):=by
 refine Δ.body Τ func82 rfl rfl ntmps82 rfl rfl J ?_
 repeat apply Ζ
 refine YR (A:=[4]) Τ λh b=>Z1 ?_;apply b;refine ZB λh b=>?_;refine Ν.d (ME s g) (Z1 ?_);apply b;refine Φ ?_;by_cases c:s.err=0
 case neg=>
  have e:Tg s a F=(P3,[],s.err):=by unfold Tg;rw[if_pos c]
  rw[e];refine υ (by simp[c]) ?_;refine Φ ?_;refine W.fix (id:=0) (σ':=[]) (ω _) rfl J J rfl [(4,.Ε [.sl true 0 [],.sl true 0 [],.sl true 0 []]),(5,.sl true 0 []),(6,R s.err)] J ?_;refine W.rt ?_;exact .ZP (.cons ID (.cons .nil (.cons (.refl _) .nil)))
 refine χ (by simp[c]) ?_;have i:Tg s a F=if a<0\/(s.cells.length:Int)<=a then(P3,[],3) else XC s true F:=by unfold Tg;rw[if_neg (by simpa using c)]
 repeat apply Ζ
 refine W.P' (A:=[]) Τ [(22,ZQ (decide (a<0)||decide ((s.cells.length:Int)<=a))),(2,ZW s),(4,.Ο 0 1 0 0),(1,R a)] ?_ (by
  by_cases q:a<0
  ·(try simp);(repeat (rw[Μ];simp[q]));(try simp[q])
  ·(try simp);(repeat (rw[Μ];simp[q]));(try simp[q]))
 by_cases f:a<0\/(s.cells.length:Int)<=a
 .rw[i,if_pos f];refine υ (by simpa using f) ?_;refine Φ ?_;refine W.fix (id:=0) (σ':=[]) (ω _) rfl J J rfl [(4,.Ε [.sl true 0 [],.sl true 0 [],.sl true 0 []]),(5,.sl true 0 []),(6,R 3)] J ?_;refine W.rt ?_;exact .ZP (.cons ID (.cons .nil (.cons (.refl _) .nil)))
 .rw[i,if_neg f];refine χ (by simpa using f) ?_;refine ZB λh b=>?_;refine Ν.d (Ko s g true F j) (Z1 ?_);apply b;refine Φ ?_;generalize XC s true F=r;refine W.fix (id:=0) (σ':=[]) (ω _) rfl J J rfl [(4,.Ε [ZU r.1.Κ,Z3 r.1.Β,Vx r.1.cells]),(5,Y8 r.2.1),(6,R r.2.2)] J ?_;refine W.rt ?_;exact .refl _
def U6 (F:List Found):List (List Int):=F.map λf=>[f.u,f.v]
theorem FN {a b:Type} (f:a->b) (l:List a) {i:Nat} (h:i<l.length):(l.take (i+1)).map f=(l.take i).map f++[f l[i]]:=by
 rw[UZ h,Xz];rfl
theorem zQ (s:ο) (r:s.small) (F:List Found) (w:P2 s F) (x:F.length<2 ^ 20):Ν prog 42 [Zd s] (.ZP [Z3 (if s.err=0 then U6 F else []),R s.err]):=by
 refine Δ.body Τ func42 rfl rfl ntmps42 rfl rfl J ?_;refine Φ ?_;refine Y' ?_;refine YR (A:=[4]) Τ λy j=>Z1 ?_;refine Ν.d (Ko s r false F w) (Z1 ?_);apply j;have e:XC s false F=if s.err=0 then(s,F,0) else(P3,[],s.err):=by
  unfold XC;by_cases b:s.err=0
  .rw[if_neg (by simpa using b),if_neg J,if_pos b]
  .rw[if_pos b,if_neg b]
 have n:(XC s false F).2.1=if s.err=0 then F else []:=by rw[e];split<;>rfl
 have Χ:(XC s false F).2.2=s.err:=by rw[e];split<;>simp[*]
 obtain⟨G,g⟩:∃G,G=if s.err=0 then F else []:=⟨_,rfl⟩
 have E:G.length<2 ^ 20:=by rw[g];split;exact x;simp
 have o:(if s.err=0 then U6 F else [])=U6 G:=by rw[g];split<;>rfl
 rw[n,Χ,o,<-g];clear g o e n Χ;generalize s.err=c;refine W.drop (h:=0) (σ':=[]) (ω _) (ω _) J rfl [(5,Y8 G),(6,R c)] J ?_;refine Φ ?_;have H:∀i,(U6 G).take i=U6 (G.take i):=λi=>by simp[U6]
 refine W.iter (λi:Nat=>i<=G.length) (λi=>[(6,R c),(7,XX ((U6 (G.take i)).map YO)),(16,Y8 G),(17,R G.length),(18,R i)])
  (λi=>ZY 29 1 ((U6 (G.take i)).map YO)) (λi=>G.length-i) 0 (ω _) rfl (by simp[Ti,U6]) (λi hi B=>?_)
 refine Φ ?_;refine W.YW rfl (λa=>?_) (λa=>?_)
 .have a:i<G.length:=by simpa using a
  have l:(U6 (G.take (i+1))).map YO=(U6 (G.take i)).map YO++[YO [G[i].u,G[i].v]]:=by
   unfold U6;rw[Pz,Pz,FN _ _ a];rfl
  have p:=λh=>OX (t:=29) (k:=1) (h:=h) (MD (L:=U6 (G.take i)))
  have C:((U6 (G.take i)).map YO).length<=i:=by simp[U6];omega
  obtain⟨L,m⟩:=Z8 ((U6 (G.take i)).map YO);rw[<-m] at p C l;refine W.to (σ':=ZY 29 1 L) (env':=[(6,R c),(7,XX L),(16,Y8 G),(17,R G.length),(18,R i)]) ?_ (by rw[m]) (by rw[m];simp)
  repeat apply Ζ
  refine YR (A:=[9]) Τ λy j=>Xx a ?_;apply j;refine W.Vw (ω _) (p _) J [(9,.Ε [R G[i].u,R G[i].v,Um G[i].cells]),(6,R c),(7,XX L),(16,Y8 G),(17,R G.length),(18,R i)] J ?_
  repeat apply Ζ
  refine W.Xv (A:=[26]) Τ [(6,R c),(7,XX (L++[YO [G[i].u,G[i].v]])),(16,Y8 G),(17,R G.length),(18,R i)] (ZY 29 1 (L++[YO [G[i].u,G[i].v]])) ?_ (by
   by_cases f:L=[]
   .subst f;(try simp);(repeat (rw[Μ];simp[Ti,VY]));(try simp[Ti,VY]);exact⟨rfl,rfl⟩
   .have D:L.length<=4294967295:=U
    (try simp);(repeat (rw[Μ];simp[Sb f,Yz f,P5,Sa]));(try simp[Sb f,Yz f,P5,Sa]);exact D)
  refine Φ ?_;refine W.to (B (i+1) a U) ?_ ?_
  .rw[l]
  .rw[l];simp[YF a (show G.length<2 ^ 62 by omega)]
 .have a:i=G.length:=by simp at a;omega
  subst a;refine W.exit rfl ?_;refine Φ ?_;refine W.FT (d:=2) MD [(3,R c)] J J ?_;refine W.rt ?_;exact .ZP (.cons .FR (.cons (.refl _) .nil))
abbrev SG (l:List Int):List Int:=l.mergeSort (λx y=>decide (x<=y))
def IC (N:Nat):Prop:=∀(l:List Int),l.length<=N->Δ prog 132 [.ms 0 l.length 0 l.length] [.cells 3 1 (l.map R)] (λr s=>r=.ZP []/\s=[.cells 3 1 ((SG l).map R)]) (λ_ _=>False)
def Uj (a:Bool) (r:Int×Int):Int:=if a then r.2 else r.1
def Tf (a:Bool) (A:List Int) (C:List (Int×Int)) (j:Nat):List Int:=A++(C.take j).map (Uj a)
theorem FM {a:Bool} {A:List Int} {C:List (Int×Int)}:Tf a A C 0=A:=by simp[Tf]
theorem zP {a:Bool} {A:List Int} {C:List (Int×Int)} {j:Nat} (h:j<C.length):Tf a A C (j+1)=Tf a A C j++[Uj a C[j]]:=by
 unfold Tf;rw[FN _ _ h,TZ]
theorem FL {a:Bool} {A:List Int} {C:List (Int×Int)} {j:Nat} (h:C.length<=j):Tf a A C j=A++C.map (Uj a):=by
 unfold Tf;rw[TC h]
theorem zO {a:Bool} {A:List Int} {C:List (Int×Int)} {j:Nat}:(Tf a A C j).length<=A.length+j:=by
 unfold Tf;simp;omega
def FK (f:Found) (a:Nat) (b:Bool):List Int:=((f.cells[a]?).getD []).map (Uj b)
def Vv (F:List Found) (a:Nat) (b:Bool):List Int:=F.flatMap λf=>FK f a b
def R' (F:List Found) (a:Nat) (b:Bool):List Int:=Wm (SG (Vv F a b))
theorem IB {l:List Int}:∀e∈l.map R,∀a∈e.cells,Γ 0 a:=by
 intro e c a b;obtain⟨x,_,rfl⟩:=YK.1 c;simp[I.cells] at b;subst b;simp
theorem zN (F:List Found) (g:Nat) (b:Bool) (an:F.length<2 ^ 20) (Z:∀f∈F,g<f.cells.length/\∀c∈f.cells,c.length<2 ^ 20) (N:Nat) (ao:N<2 ^ 20) (aa:IC N) (S:Vv F g b≠[]) (D:(Vv F g b).length<=N) :
  Ν prog 95 [Y8 F,R g,ZQ b] (κ R 1 (R' F g b)):=by
 refine Δ.body Τ func95 rfl rfl ntmps95 rfl rfl J ?_;refine Φ ?_;refine W.iter (λi:Nat=>i<=F.length) (λi=>[(1,R g),(2,ZQ b),(7,XX ((Vv (F.take i) g b).map R)),(12,Y8 F),(13,R F.length),(14,R i)])
  (λi=>ZY 3 1 ((Vv (F.take i) g b).map R)) (λi=>F.length-i) 0 (ω _) rfl (by simp[Vv,Ti]) (λi hi ab=>?_)
 refine Φ ?_;have ad:∀i,(Vv (F.take i) g b).length<=N:=λi=>by
  have e:Vv F g b=Vv (F.take i) g b++Vv (F.drop i) g b:=by
   conv=>lhs;rw[<-OH i F]
   simp only[Vv,OE]
  rw[e,Vo] at D;omega
 refine W.YW rfl (λE=>?_) (λE=>?_)
 .have n:i<F.length:=by simpa using E
  obtain⟨H,ae⟩:=Z _ (YB n);have af:F[i].cells[g].length<2 ^ 20:=ae _ (YB H);obtain⟨A,I⟩:=Z8 (Vv (F.take i) g b);have y:Vv (F.take (i+1)) g b=A++F[i].cells[g].map (Uj b):=by
   rw[I];unfold Vv;rw[UZ n,OE];simp[FK,H]
  have T:(A++F[i].cells[g].map (Uj b)).length<=N:=by rw[<-y];exact ad _
  rw[Vo,Yb] at T;refine W.to (σ':=ZY 3 1 (A.map R)) (env':=[(1,R g),(2,ZQ b),(7,XX (A.map R)),(12,Y8 F),(13,R F.length),(14,R i)]) ?_ (by rw[I]) (by rw[I];simp)
  repeat apply Ζ
  refine YR (A:=[9]) Τ λK o=>Xx n ?_;apply o;refine W.Vw (ω _) (OX IB) J [(9,.Ε [R F[i].u,R F[i].v,Um F[i].cells]),(1,R g),(2,ZQ b),(7,XX (A.map R)),(12,Y8 F),(13,R F.length),(14,R i)] J ?_;refine μ H ?_;generalize ap:F[i].cells[g]=C at af y T;refine W.iter (λj:Nat=>j<=C.length) (λj=>[(1,R g),(2,ZQ b),(7,XX ((Tf b A C j).map R)),(12,Y8 F),(13,R F.length),(14,R i),(22,Un C),(23,R C.length),(24,R j)])
   (λj=>ZY 3 1 ((Tf b A C j).map R)) (λj=>C.length-j) 0 (ω _) (by rw[FM]) (by simp[FM]) (λj aq ag=>?_)
  refine Φ ?_;refine W.YW rfl (λM=>?_) (λM=>?_)
  .have w:j<C.length:=by simpa using M
   obtain⟨L,B⟩:=Z8 (Tf b A C j);have ar:L.length<=A.length+j:=by rw[B];exact zO
   have O:Tf b A C (j+1)=L++[Uj b C[j]]:=by rw[B];exact zP w
   refine W.to (σ':=ZY 3 1 (L.map R)) (env':=[(1,R g),(2,ZQ b),(7,XX (L.map R)),(12,Y8 F),(13,R F.length),(14,R i),(22,Un C),(23,R C.length),(24,R j)]) ?_ (by rw[B]) (by rw[B];simp)
   repeat apply Ζ
   refine YR (A:=[11]) Τ λK o=>Xx w ?_;apply o;refine W.Vw (ω _) (OX IB) J [(11,.Ε [R C[j].1,R C[j].2]),(1,R g),(2,ZQ b),(7,XX (L.map R)),(12,Y8 F),(13,R F.length),(14,R i),(22,Un C),(23,R C.length),(24,R j)] J ?_
   repeat apply Ζ
   generalize C[j]=r at O;refine W.Xv (A:=[34]) Τ [(1,R g),(2,ZQ b),(7,XX ((L++[Uj b r]).map R)),(12,Y8 F),(13,R F.length),(14,R i),(22,Un C),(23,R C.length),(24,R j)] (ZY 3 1 ((L++[Uj b r]).map R)) ?_ (by
    have ah:L.length<=4294967295:=U;rw[Xz];cases b
    all_goals
     by_cases P:L.map R=[]
     .rw[P,Ti,VY];(try simp);(repeat (rw[Μ];simp));(try simp);refine Ν.d (IH _) (Z1 ?_);simp[ZY,XX,Uj]
     .rw[Sb P,Yz P];(try simp);(repeat (rw[Μ];simp));(try simp);refine Ν.d (IH _) (Z1 ?_);simp[Sa,P5,Uj,ah])
   refine Φ ?_;refine W.to (ag (j+1) w U) ?_ ?_
   .rw[O,Xz];rfl
   .rw[O];simp[YF w (show C.length<2 ^ 62 by omega)]
  .have w:C.length<=j:=by simpa using M
   refine W.exit rfl ?_;refine Φ ?_;refine W.to (ab (i+1) n U) ?_ ?_
   .rw[y,FL w]
   .rw[y,FL w];simp[YF n (show F.length<2 ^ 62 by omega)]
 .have n:i=F.length:=by simp at E;omega
  refine W.exit rfl ?_;rw[n,LX];obtain⟨h,V⟩:=Z8 (Vv F g b);rw[<-V] at S D ⊢;have X:h.map R≠[]:=by simpa using S
  have ai:R' F g b=Wm (SG h):=by rw[V];rfl
  have aj:(SG h).length=h.length:=by simp[SG]
  refine W.to (σ':=[.cells 3 1 (h.map R)]) (env':=[(7,.ms 0 h.length 0 h.length)]) ?_ (Yz X) (by simp[Sb X]);refine ZB λK o=>?_;refine Δ.one (aa h D) 0 rfl (O1 P6) (O1 P6) (by simp[Tm]) (by simp[Xi]) (by simp[Tl]) ?_;simp[Yt,Wp];(repeat (rw[Μ];simp));apply o;refine ZB λK o=>?_;have ak:=zS (SG h) h.length aj U;refine Δ.IF ak 0 rfl (O1 P6) (by simp[Tm]) (by simp[Tl]) (λa s ⟨Q,al,Y,am⟩=>⟨_,am,O1 P6,by subst Y;simp[Tm],?_⟩);subst Y;simp[Tl];(repeat (rw[Μ];simp));apply o;refine W.cut 0 (ω _) [(6,κ R 1 (Wm (SG h)))] J J ?_ ?_
  .intro p x;simp at x;subst x;have x:=Yu.part (σ:=[.cells 3 1 ((Wm (SG h)).map R++Q.map R)]) (id:=0) (t:=3) (k:=1) (l:=(Wm (SG h)).map R) (l2:=Q.map R) (m:=(Wm (SG h)).length) rfl J IB;have e:((Wm (SG h)).map R++Q.map R).length=h.length:=by rw[<-Xz,Yb];exact al
   rw[e] at x;exact x
  .rw[ai];refine W.rt ?_;exact .refl _
abbrev VH (n:Int):I:=.z (.int .i32 n)
theorem zM (l:List Int):QQ (l.map VH)=some l:=by
 induction l with
 | nil=>rfl
 | cons a l b=>simp[QQ,b]
def P1 (s:ο) (F:List Found) (a:Bool) (b:ByteArray->Int) (c:Nat):Int:=
 let l:=R' F c a
 if 1<l.length then 63 else if l.headD 0<0 then 45 else match s.Κ[(l.headD 0).toNat]? with|some g=>b g.name|none=>0
def SF (s:ο) (F:List Found) (a:Bool) (b:ByteArray->Int) (c:Nat):List Int:=(List.range c).map (P1 s F a b)
def P0 (s:ο) (F:List Found) (a:Bool) (b:ByteArray->Int):ByteArray×Int:=
 if(XC s true F).2.2=0 then(spell (SF s F a b s.cells.length),0) else(⟨#[]⟩,(XC s true F).2.2)
structure FJ (s:ο) (F:List Found) (a:Bool) (b:ByteArray->Int) (N:Nat):Prop where
 QC:F.length<2 ^ 20
 cells:∀f∈F,f.cells.length=s.cells.length/\∀c∈f.cells,c.length<2 ^ 20
 some:∀c,c<s.cells.length->Vv F c a≠[]/\(Vv F c a).length<=N/\R' F c a≠[]/\(R' F c a).length<2 ^ 30/\∀x∈R' F c a,x<s.Κ.length
 name:∀g∈s.Κ,(Conv.runesFrom g.name g.name.size 0 #[])[0]?=Option.some (.int .i32 (b g.name))
theorem zL (s:ο) (O:s.small) (F:List Found) (V:P2 s F) (a:Bool) (j:ByteArray->Int) (N:Nat) (X:N<2 ^ 20) (Y:IC N) (p:(XC s true F).2.2=0->FJ s F a j N) :
  Ν prog 40 [Zd s,ZQ a] (.ZP [UK (P0 s F a j).1,R (P0 s F a j).2]):=by
 refine Δ.body Τ func40 rfl rfl ntmps40 rfl rfl J ?_;refine Φ ?_;refine Y' ?_;refine YR (A:=[6]) Τ λB r=>Z1 ?_;refine Ν.d (Ko s O true F V) (Z1 ?_);apply r;by_cases b:(XC s true F).2.2=0
 case neg=>
  have e:P0 s F a j=(⟨#[]⟩,(XC s true F).2.2):=by unfold P0;rw[if_neg b]
  rw[e];generalize (XC s true F).2.2=Z at b;refine Φ ?_;refine υ (by simp[b]) ?_;refine Φ ?_;refine W.drop (h:=0) (σ':=[]) (ω _) (ω _) J rfl [(4,UK ⟨#[]⟩),(5,R Z)] J ?_;refine W.rt ?_;exact .refl _
 have p:=p b
 have e:XC s true F=(s,F,0):=by
  unfold XC at b ⊢;split at b
  .rename_i h;simp at b;exact absurd b h
  .split at b
   .simp at b
   .rename_i C D;rw[if_neg C,if_neg D]
 have Χ:P0 s F a j=(spell (SF s F a j s.cells.length),0):=by unfold P0;rw[if_pos b]
 rw[Χ,e];refine W.fix (id:=0) (σ':=[]) (ω _) rfl J J rfl [(1,ZQ a),(6,ZW s),(7,Y8 F),(8,R 0)] J ?_;refine Φ ?_;refine χ rfl ?_;refine Φ ?_;have af:s.cells.length<2 ^ 30:=O.2.2.1;refine W.iter (λc:Nat=>c<=s.cells.length) (λc=>[(1,ZQ a),(6,ZW s),(7,Y8 F),(9,XX ((SF s F a j c).map VH)),(25,R s.cells.length),(26,R c)])
  (λc=>ZY 21 1 ((SF s F a j c).map VH)) (λc=>s.cells.length-c) 0 (ω _) rfl (by simp[SF,Ti]) (λc ag E=>?_)
 refine Φ ?_;refine W.YW rfl (λv=>?_) (λv=>?_)
 .have n:c<s.cells.length:=by simpa using v
  obtain⟨C,D,P,aa,Q⟩:=p.some c n;obtain⟨i,t⟩:=Z8 (SF s F a j c);have ah:i.length=c:=by rw[t];simp[SF]
  have u:SF s F a j (c+1)=i++[P1 s F a j c]:=by rw[t];unfold SF;rw[Uy,Xz];rfl
  refine W.to (σ':=ZY 21 1 (i.map VH)) (env':=[(1,ZQ a),(6,ZW s),(7,Y8 F),(9,XX (i.map VH)),(25,R s.cells.length),(26,R c)]) ?_ (by rw[t]) (by rw[t];simp);refine Φ ?_;refine ZB λB r=>?_;refine Ν.d (zN F c a p.QC (λf S=>⟨by rw[(p.cells f S).1];exact n,(p.cells f S).2⟩) N X Y C D) (Z1 ?_);apply r;have H:i.length<=4294967295:=U;obtain⟨l,I⟩:=Z8 (R' F c a);have K:P1 s F a j c=if 1<l.length then 63 else if l.headD 0<0 then 45 else match s.Κ[(l.headD 0).toNat]? with|some g=>j g.name|none=>0:=by rw[I];rfl
  rw[<-I] at P aa Q ⊢;clear I t;refine Φ ?_;by_cases q:1<l.length
  .have o:P1 s F a j c=63:=by rw[K,if_pos q]
   refine υ (by simp;omega) ?_
   repeat apply Ζ
   refine W.Xv (A:=[57]) Τ [(1,ZQ a),(6,ZW s),(7,Y8 F),(9,XX ((i++[63]).map VH)),(25,R s.cells.length),(26,R c)] (ZY 21 1 ((i++[63]).map VH)) ?_ (by
    rw[Xz];by_cases m:i.map VH=[]
    .rw[m,Ti,VY];(try simp);(repeat (rw[Μ];simp));(try simp);simp[ZY,XX]
    .rw[Sb m,Yz m];(try simp);(repeat (rw[Μ];simp));(try simp);simp[Sa,P5,H])
   refine Φ ?_;refine W.to (E (c+1) n U) ?_ ?_
   .simp only[u,o,Xz,Xt,TX]
   .rw[u,o];simp[YF n (show s.cells.length<2 ^ 62 by omega)]
  .obtain⟨x,ab⟩:∃x,l=[x]:=by
    match l,P,q with
    | [x],_,_=>exact⟨x,rfl⟩
    | x::y::z,_,q=>simp at q
   subst ab;refine χ J ?_;refine Φ ?_;by_cases g:x<0
   .have o:P1 s F a j c=45:=by rw[K];simp[g]
    refine υ (by simp[g]) ?_;refine Φ ?_;refine W.Xv (A:=[57]) Τ [(1,ZQ a),(6,ZW s),(7,Y8 F),(9,XX ((i++[45]).map VH)),(25,R s.cells.length),(26,R c)] (ZY 21 1 ((i++[45]).map VH)) ?_ (by
     rw[Xz];by_cases m:i.map VH=[]
     .rw[m,Ti,VY];(try simp);(repeat (rw[Μ];simp));(try simp);simp[ZY,XX]
     .rw[Sb m,Yz m];(try simp);(repeat (rw[Μ];simp));(try simp);simp[Sa,P5,H])
    refine Φ ?_;refine W.to (E (c+1) n U) ?_ ?_
    .simp only[u,o,Xz,Xt,TX]
    .rw[u,o];simp[YF n (show s.cells.length<2 ^ 62 by omega)]
   .obtain⟨k,rfl⟩:∃k:Nat,x=k:=⟨x.toNat,U⟩;have L:k<s.Κ.length:=by have:=Q (k:Int) J;omega
    have o:P1 s F a j c=j s.Κ[k].name:=by rw[K];simp[g,L]
    have w:=p.name _ (YB L)
    have ad:∀h:0<(Conv.runesFrom s.Κ[k].name s.Κ[k].name.size 0 #[]).size,(Conv.runesFrom s.Κ[k].name s.Κ[k].name.size 0 #[])[0]'h=.int .i32 (j s.Κ[k].name):=λh=>by
     rw[X4 h] at w;exact WM w
    have T:0<(Conv.runesFrom s.Κ[k].name s.Κ[k].name.size 0 #[]).size:=(UA.1 w).1;refine χ J ?_;refine SL (Ρ L (Ρ w T)) ?_
    repeat apply Ζ
    refine W.forget [(1,ZQ a),(6,ZW s),(7,Y8 F),(9,XX (i.map VH)),(11,VH (j s.Κ[k].name)),(25,R s.cells.length),(26,R c)] (by simp[ad T]) ?_;refine W.Xv (A:=[57]) Τ [(1,ZQ a),(6,ZW s),(7,Y8 F),(9,XX ((i++[(j s.Κ[k].name)]).map VH)),(25,R s.cells.length),(26,R c)] (ZY 21 1 ((i++[(j s.Κ[k].name)]).map VH)) ?_ (by
     rw[Xz];by_cases m:i.map VH=[]
     .rw[m,Ti,VY];(try simp);(repeat (rw[Μ];simp));(try simp);simp[ZY,XX]
     .rw[Sb m,Yz m];(try simp);(repeat (rw[Μ];simp));(try simp);simp[Sa,P5,H])
    refine Φ ?_;refine W.to (E (c+1) n U) ?_ ?_
    .simp only[u,o,Xz,Xt,TX]
    .rw[u,o];simp[YF n (show s.cells.length<2 ^ 62 by omega)]
 .have v:c=s.cells.length:=by simp at v;omega
  subst v;refine W.exit rfl ?_;refine Φ ?_;obtain⟨i,t⟩:=Z8 (SF s F a j s.cells.length);rw[<-t];refine W.to (σ':=ZY 21 1 (i.map VH)) (env':=[(9,XX (i.map VH))]) ?_ rfl J;by_cases m:i.map VH=[]
  .have ae:i=[]:=by simpa using m
   rw[m,Ti,VY,ae];have M:QQ []=some []:=rfl;refine XM M λB r=>?_;apply r;refine W.rt ?_;exact .refl _
  .have M:QQ (List.take i.length (i.map VH))=some i:=by
    rw[TC J];exact zM i
   rw[Sb m,Yz m];refine XM M λB r=>?_;apply r;refine W.drop (h:=0) (σ':=[]) (ω _) (ω _) J rfl [(4,UK (spell i)),(5,R 0)] J ?_;refine W.rt ?_;exact .refl _
theorem FI {a:Type} [Inhabited a] {lt:a->a->Bool} (b:SWO lt) (c:∀x y,lt x y=false->lt y x=false->x=y) (l:List a):(insertionSort lt l.toArray 0 l.length).toList=l.mergeSort (λx y=>!lt y x):=by
 obtain⟨d,e⟩:=insertionSort_holds (lt:=lt) b l.toArray 0 l.length (ω _) J;exact sorted_unique_holds (lt:=lt) b c l.toArray _ (by simpa using d) (by simpa using e)
theorem zK (x y:Int) (h:ltInt x y=false) (k:ltInt y x=false):x=y:=by
 simp[ltInt] at h k;omega
theorem zJ:IC 12:=λl a=>by
 have h:=z' l.toArray l.length J a;rw[FI swo_ltInt zK l] at h;have e:(λx y:Int=>!ltInt y x)=λx y=>decide (x<=y):=by
  funext x y;rw[PA];simp[ltInt]
 rw[e] at h;exact h
theorem QB (x y:Int×Int):YD Sd x y=decide (x.1<y.1\/(x.1=y.1/\x.2<y.2)):=by
 unfold YD Sd;simp only[SH,SI];by_cases c:x.1<y.1
 .simp[c]
 .by_cases e:y.1<x.1
  .have:¬x.1=y.1:=U
   simp[c,e,this]
  .have a:x.1=y.1:=U
   by_cases b:x.2<y.2
   .simp[a,b]
   .by_cases d:y.2<x.2
    .simp[a,b,d]
    .simp[a,b,d]
theorem Kn:SWO (YD Sd) where
 irrefl x:=by rw[QB];simp
 trans x y z h k:=by
  rw[QB] at *;simp at *;omega
 ntrans x y z h k:=by
  rw[QB] at *;simp at *;omega
theorem zI (x y:Int×Int) (h:YD Sd x y=false) (k:YD Sd y x=false):x=y:=by
 rw[QB] at *;simp at h k;apply Prod.ext<;>omega
abbrev UJ (x y:Int×Int):Bool:=!YD Sd y x
theorem zH {l m:List (Int×Int)} (d:l.Perm m) (e:m.Pairwise λx y=>x.1<y.1\/(x.1=y.1/\x.2<y.2)):l.mergeSort UJ=m:=by
 have f:∀a b c:Int×Int,UJ a b=true->UJ b c=true->UJ a c=true:=λa b c h k=>by
  simp only[UJ,QB] at *;simp at *;omega
 have g:∀a b:Int×Int,(UJ a b||UJ b a)=true:=λa b=>by
  simp only[UJ,QB];simp;omega
 have i:=List.pairwise_mergeSort (le:=UJ) f g l
 have j:(l.mergeSort UJ).Perm m:=(List.mergeSort_perm l UJ).trans d;refine JC (le:=λa b=>UJ a b=true) (λa b _ _ h k=>?_) i (e.imp λ{a b} h=>?_) j
 .simp only[UJ,QB] at h k;simp at h k;apply Prod.ext<;>omega
 .simp only[UJ,QB];simp;omega
theorem zG (a:I) (b:Γ 0 a):Ν prog 234 [.sl true 0 [],R 0,R 0,a] (.ZP []):=by
 refine Δ.body Τ func234 rfl rfl ntmps234 rfl rfl J ?_;refine Φ ?_;refine .loop ?_;refine Φ ?_;refine χ rfl ?_;refine W.exit rfl ?_;exact W.nil ⟨_,rfl,Y4.refl _,rfl⟩
theorem zF (d:Nat) (a:I) (b:Γ 0 a):Ν prog 211 [.sl true 0 [],R 0,R 0,R d,a] (.ZP []):=by
 refine Δ.body Τ func211 rfl rfl ntmps211 rfl rfl J ?_;refine Φ ?_;refine .loop ?_;refine Φ ?_;refine υ rfl ?_;refine ZB λf e=>?_;refine Ν.c (zG a b) (ZZ.refl _) (by simp[b]) J ?_;simp;(repeat (rw[Μ];simp));apply e;exact W.ret ⟨_,rfl,Y4.refl _,rfl⟩
theorem zE (a:I) (b:Γ 0 a):Ν prog 173 [.sl true 0 [],a] (.ZP []):=by
 refine Δ.body Τ func173 rfl rfl ntmps173 rfl rfl J ?_;have Χ:IntKind.u64.wrap (0:Int)=0:=Z2;refine Φ ?_;(repeat apply Ζ);refine YH λf e=>?_;simp;(repeat (rw[Μ];simp[Χ]));refine Ν.d (MF 0 U) (Z1 ?_);refine Ν.c (zF (bitsLen 0) a b) (ZZ.refl _) (by simp[b]) J ?_;simp;(repeat (rw[Μ];simp));apply e;exact W.nil ⟨_,rfl,Y4.refl _,rfl⟩
theorem zD (a:I) (b:Γ 0 a):Ν prog 217 [.sl true 0 [],R 0,R 0,a] (.ZP []):=by
 refine Δ.body Τ func217 rfl rfl ntmps217 rfl rfl J ?_;refine Φ ?_;refine .loop ?_;refine Φ ?_;refine χ rfl ?_;refine W.exit rfl ?_;exact W.nil ⟨_,rfl,Y4.refl _,rfl⟩
theorem zC (d:Nat) (a:I) (b:Γ 0 a):Ν prog 182 [.sl true 0 [],R 0,R 0,R d,a] (.ZP []):=by
 refine Δ.body Τ func182 rfl rfl ntmps182 rfl rfl J ?_;refine Φ ?_;refine .loop ?_;refine Φ ?_;refine υ rfl ?_;refine ZB λf e=>?_;refine Ν.c (zD a b) (ZZ.refl _) (by simp[b]) J ?_;simp;(repeat (rw[Μ];simp));apply e;exact W.ret ⟨_,rfl,Y4.refl _,rfl⟩
theorem zB (a:I) (b:Γ 0 a):Ν prog 147 [.sl true 0 [],a] (.ZP []):=by
 refine Δ.body Τ func147 rfl rfl ntmps147 rfl rfl J ?_;have Χ:IntKind.u64.wrap (0:Int)=0:=Z2;refine Φ ?_;(repeat apply Ζ);refine YH λf e=>?_;simp;(repeat (rw[Μ];simp[Χ]));refine Ν.d (MF 0 U) (Z1 ?_);refine Ν.c (zC (bitsLen 0) a b) (ZZ.refl _) (by simp[b]) J ?_;simp;(repeat (rw[Μ];simp));apply e;exact W.nil ⟨_,rfl,Y4.refl _,rfl⟩
theorem Yu.struct {h id k:Nat} {σ:Υ} {t:TypeId} {l cs:ψ} (c:h<=id) (d:σ[id]?=some (.cells t k [.Z9 l])) (e:cs.length=l.length) (H:∀(x:Nat) (a b:I),l[x]?=some a->cs[x]?=some b->Yu h σ a b):Yu h σ (.Ο id 1 0 0) (.Ε cs):=
 .Ο c d rfl rfl (by simp[I.cells,e]) λx a b f g=>H x a b (by simpa[I.cells] using f) g
abbrev Y7 (a b c:I):Row:=.cells 26 3 [.Z9 [a,b,c]]
def OW (s:ο) (i:Nat):Υ:=if i=0 then [Y7 (.sl true 0 []) (.sl true 0 []) (.sl true 0 []),Y7 (ZU s.Κ) (Z3 s.Β) (.sl true 0 [])] else
 [Y7 (.sl true 0 []) (.sl true 0 []) (.sl true 0 []),Y7 (ZU s.Κ) (Z3 s.Β) (.ms 2 i 0 i),.cells 60 1 ((s.cells.take i).map Vy)]
theorem zA (s:ο) (h:s.small):Ν prog 25 [Zd s] (Zd s):=by
 refine Δ.body Τ func25 rfl rfl ntmps25 rfl rfl J ?_;obtain⟨c,b,r,l,m⟩:=h
 repeat apply Ζ
 refine YR (A:=[2]) Τ λg e=>Z1 ?_;apply e
 repeat apply Ζ
 refine W.draw (A:=[3]) Τ mixed λg e=>VK ?_;refine⟨U,?_⟩;refine Yl (Ν.q (F4 s.Β U (λx n=>by have:=l x n;omega))) (VK ?_);refine XL (e _ _ ?_);refine Φ ?_;refine W.iter (λi:Nat=>i<=s.cells.length) (λi=>[(1,ZW s),(2,.Ο 0 1 0 0),(3,.Ο 1 1 0 0),(4,R i)]) (λi=>OW s i) (λi=>s.cells.length-i) 0 (ω _) rfl J (λi hi j=>?_);refine Φ ?_;refine W.YW rfl (λd=>?_) (λd=>?_)
 .have d:i<s.cells.length:=by simpa using d
  have t:s.cells[i].length<2 ^ 30:=m _ (YB d)
  have k:(s.cells.map Vy).take (i+1)=(s.cells.map Vy).take i++[Vy s.cells[i]]:=by rw[UZ (by simpa using d)];simp
  by_cases f:i=0
  .subst f
   repeat apply Ζ
   refine W.draw (A:=[30]) Τ mixed λg e=>?_;simp;(repeat (rw[Zf];simp[OW,d]));try rw[Zg]
   refine⟨U,?_⟩;refine XL (e _ _ ?_);refine Φ ?_;refine W.to (j 1 d U) ?_ ?_
   .simp only[OW,Nn,k];simp
   .simp[N5,YF d (show s.cells.length<2 ^ 62 by omega)]
  .repeat apply Ζ
   refine W.draw (A:=[30]) Τ mixed λg e=>?_;simp;(repeat (rw[Zf];simp[OW,d,f,Nat.min_eq_left hi]));try rw[Zg]
   refine⟨U,U,?_⟩;refine XL (e _ _ ?_);refine Φ ?_;refine W.to (j (i+1) d U) ?_ ?_
   .simp[OW,k]
   .simp[YF d (show s.cells.length<2 ^ 62 by omega)]
 .have d:i=s.cells.length:=by simp at d;omega
  subst d;refine W.exit rfl ?_;by_cases f:s.cells.length=0
  ·(repeat (first|apply Ζ|(refine YH λg e=>?_;simp;(repeat (rw[Μ];simp[OW,f]));apply e)));have o:s.cells=[]:=YV.1 f;refine W.cut 0 (ω _) [(2,.Ε [ZU s.Κ,Z3 s.Β,.sl true 0 []])] J J ?_ ?_
   .simp;refine .struct (ω _) (show _=some (Row.cells _ _ [.Z9 _]) from rfl) rfl λx a p c b=>?_
    match x with
    | 0=>simp at c b;subst c;subst b;exact .low J
    | 1=>simp at c b;subst c;subst b;exact .low J
    | 2=>simp at c b;subst c;subst b;exact .low J
    | x+3=>simp at b
   .refine W.ret ?_;refine⟨_,by simp;rfl,?_,rfl⟩;show Y4 _ (.Z9 [ZU s.Κ,Z3 s.Β,.sl false 1 (s.cells.map Vy)]);rw[o];exact .Z9 (.cons (.refl _) (.cons (.refl _) (.cons .nil .nil)))
  ·(repeat (first|apply Ζ|(refine YH λg e=>?_;simp;(repeat (rw[Μ];simp[OW,f]));apply e)));refine W.cut 0 (ω _) [(2,ZW s)] J J ?_ ?_
   .simp;refine .struct (ω _) (show _=some (Row.cells _ _ [.Z9 _]) from rfl) rfl λx a p c b=>?_
    match x with
    | 0=>simp at c b;subst c;subst b;exact .low J
    | 1=>simp at c b;subst c;subst b;exact .low J
    | 2=>simp at c b;subst c;subst b;exact .own (ω _) rfl J J
    | x+3=>simp at b
   .refine W.ret ?_;refine⟨_,by simp;rfl,?_,rfl⟩;exact .refl _
abbrev YG (r:Int×Int):I×I:=(Zo r,ZQ true)
theorem zz (x y:Int×Int):aeqv Z7 112 (Zo x) (Zo y)=some (decide (x=y)):=by
 simp[aeqv,VO,Ur];rw[PA];simp[Prod.ext_iff]
theorem zy (r:Int×Int):∀(l:List (Int×Int)) (n:Nat),r∉l->WK Z7 112 (Zo r) (l.map YG) n=some none:=by
 intro l
 induction l with
 | nil=>intro n _;rfl
 | cons x l a=>
  intro n h;simp only[Xt,WK];have b:¬r=x:=λe=>h (by simp[e]);have:=zz r x;rw[this,decide_eq_false b];exact a (n+1) λc=>h (by simp[c])
def Te (i j:Nat):List (Int×Int):=(List.range j).map λy:Nat=>((i:Int)-1,(y:Int)-1)
def Rt (n i:Nat):List (Int×Int):=(List.range i).flatMap λx=>Te x (n+1)
def IA (n:Nat):List (Int×Int):=Rt n (n+1)
theorem FH (i j:Nat):Te i (j+1)=Te i j++[((i:Int)-1,(j:Int)-1)]:=by simp[Te,Uy]
theorem FG (n i:Nat):Rt n (i+1)=Rt n i++Te i (n+1):=by simp[Rt,Uy]
theorem Km {i j:Nat} {r:Int×Int} (h:r∈Te i j):r.1=(i:Int)-1/\r.2<(j:Int)-1:=by
 unfold Te at h;obtain⟨y,a,rfl⟩:=YK.1 h;have:=UY.1 a;exact⟨rfl,by simp;omega⟩
theorem FF {n i:Nat} {r:Int×Int} (h:r∈Rt n i):r.1<(i:Int)-1:=by
 unfold Rt at h;obtain⟨x,a,b⟩:=List.mem_flatMap.1 h;have:=UY.1 a;have:=(Km b).1;omega
def Td (s:ο) (p:Int×Int) (c:Nat):List (Int×Int):=(IA s.Κ.length).filter λr=>s.P7 p r c
theorem zx (i j:Nat):(Te i j).Pairwise λx y=>x.1<y.1\/(x.1=y.1/\x.2<y.2):=by
 induction j with
 | zero=>simp[Te]
 | succ j d=>
  rw[FH,OG];refine⟨d,J,λa e b c=>?_⟩;simp at c;subst c;have:=Km e;exact .inr ⟨this.1,by simpa using this.2⟩
theorem zw (n i:Nat):(Rt n i).Pairwise λx y=>x.1<y.1\/(x.1=y.1/\x.2<y.2):=by
 induction i with
 | zero=>simp[Rt]
 | succ i c=>
  rw[FG,OG];refine⟨c,zx _ _,λa d b e=>.inl ?_⟩;have:=FF d;have:=(Km e).1;omega
theorem zv (s:ο) (p:Int×Int) (c:Nat):(Td s p c).Pairwise λx y=>x.1<y.1\/(x.1=y.1/\x.2<y.2):=(zw _ _).filter _
def Iz (N:Nat):Prop:=∀(l:List (Int×Int)),l.length<=N->Δ prog 173 [.ms 0 l.length 0 l.length,.fn (.func 174) [] []] [.cells 112 2 (l.map Zo)] (λr s=>r=.ZP []/\s=[.cells 112 2 ((l.mergeSort UJ).map Zo)]) (λ_ _=>False)
theorem zu:Iz 12:=λl a=>by
 have h:=Ad l.toArray l.length J a (.fn (.func 174) [] []) Sd (by simp[VN]) (λx y=>Ν.p (Al x y) (ZZ.refl _) J J);rw[FI Kn zI l] at h;exact h
def UI (q:Int×Int->Bool) (n i j:Nat):List (Int×Int):=(Rt n i++Te i j).filter q
theorem zt {q:Int×Int->Bool} {n:Nat}:UI q n 0 0=[]:=by simp[UI,Rt,Te]
theorem zs {q:Int×Int->Bool} {n i:Nat}:UI q n i (n+1)=UI q n (i+1) 0:=by simp[UI,FG,Te]
theorem zr {q:Int×Int->Bool} {n i j:Nat}:UI q n i (j+1)=UI q n i j++if q ((i:Int)-1,(j:Int)-1) then [((i:Int)-1,(j:Int)-1)] else []:=by
 unfold UI;rw[FH,<-TZ,List.filter_append];simp[L0]
theorem zq {q:Int×Int->Bool} {n:Nat}:UI q n (n+1) 0=(IA n).filter q:=by simp[UI,Te,IA]
theorem zp {q:Int×Int->Bool} {n i j:Nat}:((i:Int)-1,(j:Int)-1)∉UI q n i j:=by
 unfold UI;rw[S0,V6];rintro⟨h|h,_⟩
 .have:=FF h;simp at this
 .have:=(Km h).2;simp at this
def TG (l:ψ):I:=if l.isEmpty then .sl true 0 [] else .ms 3 l.length 0 l.length
def Y3 (l:ψ):Υ:=if l.isEmpty then [] else [.cells 111 1 l]
abbrev WO:Row:=.cells 110 3 [.Z9 [R 0,R 0,.sl true 0 []]]
abbrev Xe (p:Int×Int) (L:ψ):Row:=.cells 110 3 [.Z9 [R p.1,R p.2,TG L]]
def Zm (id:Nat) (l:ψ):I:=if l.isEmpty then .sl true 0 [] else .ms id l.length 0 l.length
theorem XB {id:Nat} {l:ψ} (h:l≠[]):Zm id l=.ms id l.length 0 l.length:=by unfold Zm;rw[if_neg (by simpa using h)]
theorem zo {l:ψ}:Γ ((Y3 l).length+3) (TG l):=by
 unfold TG Y3;cases l.isEmpty<;>simp[TK]
theorem zn {h:Nat} {l:ψ} (d:∀e∈l,∀a∈e.cells,Γ 0 a):∀r∈Y3 l,X8 h r:=by
 intro r b;unfold Y3 at b;cases c:l.isEmpty with
 | true=>rw[c] at b;simp at b
 | false=>
  rw[c] at b;simp at b;subst b;exact λe f a g=>(d e f a g).mono (ω _)
theorem X8.mono {h f:Nat} {r:Row} (c:X8 h r) (d:h<=f):X8 f r:=by
 cases r with
 | cells t k l=>exact λe b a g=>(c e b a g).mono d
 | map es=>exact λe b=>⟨(c e b).1.mono d,(c e b).2.mono d⟩
 | iter m left i=>exact⟨L3 c.1 d,λe b=>⟨(c.2.1 e b).1.mono d,(c.2.1 e b).2.mono d⟩,λe b=>⟨(c.2.2 e b).1.mono d,(c.2.2 e b).2.mono d⟩⟩
 | dead=>trivial
theorem zm {h id:Nat} {l:ψ} (b:l≠[]->id<h):Γ h (Zm id l):=by
 by_cases a:l=[]
 .subst a;unfold Zm;simp
 .rw[XB a];exact TK.2 (b a)
theorem FE {b:Type} (l:List b) (i:Nat) (h:i<l.length):(l[i]::l.eraseIdx i).Perm l:=by
 induction l generalizing i with
 | nil=>simp at h
 | cons a l c=>
  cases i with
  | zero=>exact .refl _
  | succ i=>
   simp only[List.getElem_cons_succ,List.eraseIdx_cons_succ];exact(List.Perm.swap _ _ _).trans (.cons a (c i (by simpa using h)))
theorem Kl {h id k:Nat} {t:TypeId} {l:ψ} {σ:Υ} (c:h<=id) (d:l≠[]->σ[id]?=some (.cells t k l)) (f:∀e∈l,∀a∈e.cells,Γ h a):Yu h σ (Zm id l) (Xn k l):=by
 by_cases b:l=[]
 .subst b;exact .low (by unfold Zm;simp)
 .have e:Xn k l=.sl false k l:=by unfold Xn;rw[if_neg (by simpa using b)]
  rw[XB b,e];exact .own c (d b) rfl f
theorem FD (k:Nat) (m:ψ):∃b kk l,Xn k m=.sl b kk l:=by
 unfold Xn;split
 .exact⟨_,_,_,rfl⟩
 .exact⟨_,_,_,rfl⟩
theorem FC {b c:Type} (f:b->c) (l:List b) (i:Nat):(l.map f).eraseIdx i=(l.eraseIdx i).map f:=by
 induction l generalizing i with
 | nil=>rfl
 | cons a l d=>cases i<;>simp[d]
theorem zl (s:ο) (ao:s.small) (aZ:s.Κ.length<2 ^ 20) (p:Int×Int) (hv:∀c∈s.cells,∀x∈c,0<=x.Zb/\x.Zb<s.Β.length) (N:Nat) (a0:N<2 ^ 20) (aC:Iz N) (S:∀c,c<s.cells.length->(Td s p c).length<=N) :
  Ν prog 143 [Zd s,Zo p] (Y0 ⟨p.1,p.2,(List.range s.cells.length).map (Td s p)⟩):=by
 refine Δ.body Τ func143 rfl rfl ntmps143 rfl rfl J ?_
 repeat apply Ζ
 refine YR (A:=[4]) Τ λB g=>Z1 ?_;apply g
 repeat apply Ζ
 refine YR (A:=[5]) Τ λB g=>Z1 ?_;apply g
 repeat apply Ζ
 refine ZB λB g=>?_;apply g;refine Φ ?_;have a1:s.cells.length<2 ^ 30:=ao.2.2.1;refine W.iter (λc:Nat=>c<=s.cells.length) (λc=>[(2,ZW s),(3,.Ε [R p.1,R p.2]),(4,.Ο 0 1 0 0),(5,.Ο 1 1 0 0),(6,.mp 2),(19,R s.cells.length),(20,R c)])
  (λc=>WO::Xe p ((List.range c).map λc=>Xn 2 ((Td s p c).map Zo))::.map []::Y3 ((List.range c).map λc=>Xn 2 ((Td s p c).map Zo))) (λc=>s.cells.length-c) 0 (ω _) (by simp[TG,Y3]) J (λc ae M=>?_)
 obtain⟨L,O⟩:=Z8 ((List.range c).map λc=>Xn 2 ((Td s p c).map Zo));refine W.to (σ':=WO::Xe p L::.map []::Y3 L) (env':=[(2,ZW s),(3,.Ε [R p.1,R p.2]),(4,.Ο 0 1 0 0),(5,.Ο 1 1 0 0),(6,.mp 2),(19,R s.cells.length),(20,R c)]) ?_ (by rw[O]) J;refine Φ ?_;refine W.YW rfl (λae=>?_) (λae=>?_)
 .have af:c<s.cells.length:=by simpa using ae
  refine Φ ?_;obtain⟨n,T⟩:=Z8 s.Κ.length;have a2:n<2 ^ 20:=U;obtain⟨q,ap⟩:=Z8 (λr=>s.P7 p r c:Int×Int->Bool);have P:∀e∈L,∀a∈e.cells,Γ 0 a:=by
   rw[O];intro e o a u;obtain⟨x,_,rfl⟩:=YK.1 o;unfold Xn at u;split at u<;>simp[I.cells] at u<;>subst u<;>simp
  have V:∀(v:List (Int×Int)) (h:Nat),X8 h (.map (v.map YG)):=λv h e o=>by
   obtain⟨x,_,rfl⟩:=YK.1 o;simp
  have E:∀v:List (Int×Int),∀r∈WO::Xe p L::.map (v.map YG)::Y3 L,X8 (WO::Xe p L::.map (v.map YG)::Y3 L).length r:=λv r C=>by
   simp only[YZ] at C;rcases C with rfl|rfl|rfl|C
   .simp[X8,I.cells]
   .simp[X8,I.cells];exact zo
   .exact V v _
   .exact zn P r C
  refine W.iter (λi:Nat=>i<=n+1) (λi=>[(2,ZW s),(3,.Ε [R p.1,R p.2]),(4,.Ο 0 1 0 0),(5,.Ο 1 1 0 0),(6,.mp 2),(19,R s.cells.length),(20,R c),(7,R c),(8,R ((i:Int)-1))])
   (λi=>WO::Xe p L::.map ((UI q n i 0).map YG)::Y3 L) (λi=>n+1-i) 0 (ω _) (by rw[zt];rfl) J (λi hi X=>?_)
  refine Φ ?_;by_cases a3:i<n+1
  .refine υ (by simp[<-T];omega) ?_;refine Φ ?_;refine W.iter (λj:Nat=>j<=n+1) (λj=>[(2,ZW s),(3,.Ε [R p.1,R p.2]),(4,.Ο 0 1 0 0),(5,.Ο 1 1 0 0),(6,.mp 2),(19,R s.cells.length),(20,R c),(7,R c),(8,R ((i:Int)-1)),(9,R ((j:Int)-1))])
    (λj=>WO::Xe p L::.map ((UI q n i j).map YG)::Y3 L) (λj=>n+1-j) 0 (ω _) rfl J (λj a4 aq=>?_)
   refine Φ ?_;by_cases a5:j<n+1
   .refine υ (by simp[<-T];omega) ?_
    repeat apply Ζ
    obtain⟨v,ag⟩:=Z8 (UI q n i j);refine W.to (σ':=WO::Xe p L::.map (v.map YG)::Y3 L) (env':=[(2,ZW s),(3,.Ε [R p.1,R p.2]),(4,.Ο 0 1 0 0),(5,.Ο 1 1 0 0),(6,.mp 2),(19,R s.cells.length),(20,R c),(7,R c),(8,R ((i:Int)-1)),(9,R ((j:Int)-1))]) ?_ (by rw[ag]) J;have aD:WK Z7 112 (.Z9 [R ((i:Int)-1),R ((j:Int)-1)]) (v.map YG) 0=some none:=zy _ v 0 (by rw[ag];exact zp);have am:∀es,To (WO::Xe p L::.map es::Y3 L) 2=true:=λes=>by unfold Y3;cases L.isEmpty<;>simp[To]
    refine YR (A:=[10]) Τ λB g=>Z1 ?_;apply g;refine W.Vw (σ0:=WO::Xe p L::.map (v.map YG)::Y3 L) (ω _) (E v) J [(10,.Ε [R ((i:Int)-1),R ((j:Int)-1)]),(2,ZW s),(3,.Ε [R p.1,R p.2]),(4,.Ο 0 1 0 0),(5,.Ο 1 1 0 0),(6,.mp 2),(19,R s.cells.length),(20,R c),(7,R c),(8,R ((i:Int)-1)),(9,R ((j:Int)-1))] (by simp[WH,QL]) ?_;have ar:=Xw (show j<2 ^ 62 by omega);refine ZB λB g=>?_;refine Ν.c (Ao s ao p ((i:Int)-1,(j:Int)-1) c af (hv _ (YB af)) (by simp;omega) (by simp;omega)) (ZZ.refl _) J J ?_;simp;(repeat (rw[Μ];simp));apply g;have aE:s.P7 p ((i:Int)-1,(j:Int)-1) c=q ((i:Int)-1,(j:Int)-1):=by rw[ap]
    rw[aE];have ah:=zr (q:=q) (n:=n) (i:=i) (j:=j);cases au:q ((i:Int)-1,(j:Int)-1)
    .refine χ rfl ?_;refine μ ar ?_;rw[au] at ah;refine W.to (aq (j+1) U U) ?_ ?_
     .rw[ah,ag];simp
     .simp
    .refine υ rfl ?_
     repeat apply Ζ
     refine YH λB g=>?_;simp;(repeat (rw[Μ];simp[aD,am,-To]));apply g;refine μ ar ?_;rw[au] at ah;refine W.to (aq (j+1) U U) ?_ ?_
     .rw[ah,ag];simp
     .simp
   .refine χ (by simp[<-T];omega) ?_;refine W.exit rfl ?_;have aF:j=n+1:=U;subst aF;refine Φ ?_;refine W.to (X (i+1) U U) ?_ ?_
    .rw[zs]
    .have:=Xw (show i<2 ^ 62 by omega);simp[this]
  .refine χ (by simp[<-T];omega) ?_;refine W.exit rfl ?_;have aG:i=n+1:=U;subst aG;obtain⟨d,ai⟩:=Z8 (Td s p c);have aH:UI q n (n+1) 0=d:=by rw[zq,ai,ap,T];rfl
   rw[aH];have aI:d.length<=N:=by rw[ai];exact S c af
   refine W.to (σ':=WO::Xe p L::.map (d.map YG)::Y3 L) (env':=[(2,ZW s),(3,.Ε [R p.1,R p.2]),(4,.Ο 0 1 0 0),(5,.Ο 1 1 0 0),(6,.mp 2),(19,R s.cells.length),(20,R c),(7,R c)]) ?_ rfl J;refine Φ ?_;refine W.iter (λx:List (Int×Int)×List (Int×Int)×Option (I×I)=>(x.1++x.2.1).Perm d/\(x.2.2=none\/∃y,x.2.2=some (YG y)))
    (λx=>[(2,ZW s),(3,.Ε [R p.1,R p.2]),(4,.Ο 0 1 0 0),(5,.Ο 1 1 0 0),(6,.mp 2),(19,R s.cells.length),(20,R c),(7,R c),(11,Zm ((Y3 L).length+1+1+1+1) (x.1.map Zo)),(50,.it ((Y3 L).length+1+1+1))])
    (λx=>WO::Xe p L::.map (d.map YG)::(Y3 L++(.iter 2 (x.2.1.map YG) x.2.2::ZY 112 2 (x.1.map Zo)))) (λx=>x.2.1.length) ([],d,none) ⟨J,.inl rfl⟩ (by simp[ZY]) (by simp[Zm]) (λx aj Y=>?_)
   obtain⟨K,m,ak⟩:=x;obtain⟨al,aJ⟩:=aj;simp only at al aJ
   repeat apply Ζ
   cases m with
   | nil=>
    refine ZB λB g=>?_;apply g
    repeat apply Ζ
    refine χ rfl ?_;refine W.exit rfl ?_;have F:K.Perm d:=by simpa using al
    repeat apply Ζ
    have av:K.length<=N:=by rw[F.length_eq];exact aI
    have aK:K.mergeSort UJ=d:=by
     rw[ai] at F ⊢;exact zH F (zv s p c)
    refine W.Xv (A:=[]) Τ [(2,ZW s),(3,.Ε [R p.1,R p.2]),(4,.Ο 0 1 0 0),(5,.Ο 1 1 0 0),(6,.mp 2),(19,R s.cells.length),(20,R c),(11,Zm ((Y3 L).length+1+1+1+1) (d.map Zo))]
     (WO::Xe p L::.map (d.map YG)::(Y3 L++(.iter 2 [] ak::ZY 112 2 (d.map Zo)))) ?_ (by
     clear Y X M E V S hv P;by_cases f:K=[]
     .subst f;have aL:d=[]:=F.symm.eq_nil;rw[aL];simp only[TX,VY,show Zm ((Y3 L).length+1+1+1+1) []=.sl true 0 [] from rfl];simp;(repeat (rw[Μ];simp));refine Ν.c (zE _ (by simp[VN])) (ZZ.refl _) (by simp[VN]) J ?_;simp;(repeat (rw[Μ];simp));(try simp)
     .have Z:K.map Zo≠[]:=by simpa using f
      have aM:d≠[]:=λe=>f (by rw[e] at F;exact F.eq_nil)
      have aw:d.map Zo≠[]:=by simpa using aM
      rw[XB Z,Yz Z,XB aw,Yz aw];simp;(repeat (rw[Μ];simp));have ax:Γ 0 (.fn (.func 174) [] []):=by simp[VN]
      refine Δ.one (aC K av) ((Y3 L).length+1+1+1+1) J (O1 O0) (O1 O0) (by simp[Tm,ax.V9 1]) (by simp[Xi]) (by simp[Tl,ax.Yt [(Y3 L).length+1+1+1+1]]) ?_;simp[Yt,Wp];(repeat (rw[Μ];simp));(try simp[aK,F.length_eq]))
    refine W.cut ((Y3 L).length+1+1+1) (ω _) [(2,ZW s),(3,.Ε [R p.1,R p.2]),(4,.Ο 0 1 0 0),(5,.Ο 1 1 0 0),(6,.mp 2),(19,R s.cells.length),(20,R c),(11,Xn 2 (d.map Zo))] J (λid r ay C=>?_) ?_ ?_
    .refine E d r ?_;have e:WO::Xe p L::.map (d.map YG)::(Y3 L++(.iter 2 [] ak::ZY 112 2 (d.map Zo)))=(WO::Xe p L::.map (d.map YG)::Y3 L)++(.iter 2 [] ak::ZY 112 2 (d.map Zo)):=J;rw[e,YU (by simpa using ay)] at C;exact Zk C
    .have aN:Yu ((Y3 L).length+1+1+1) (WO::Xe p L::.map (d.map YG)::(Y3 L++(.iter 2 [] ak::ZY 112 2 (d.map Zo)))) (Zm ((Y3 L).length+1+1+1+1) (d.map Zo)) (Xn 2 (d.map Zo)):=Kl (t:=112) U (λaa=>by rw[Yz aa];simp) (λe o a u=>by
      obtain⟨z,_,rfl⟩:=YK.1 o;exact(O0 z a u).mono (ω _))
     intro z f;simp only[YZ,XY,or_false] at f;rcases f with rfl|rfl|rfl|rfl|rfl|rfl|rfl|rfl
     all_goals first|exact aN|exact .low (by simp[WH,QL])
    .obtain⟨D,ab⟩:=Z8 (L++[Xn 2 (d.map Zo)]);have a6:L.length<2 ^ 30:=by rw[O];simp;omega
     refine W.to (σ':=WO::Xe p L::.map (d.map YG)::Y3 L) (env':=[(2,ZW s),(3,.Ε [R p.1,R p.2]),(4,.Ο 0 1 0 0),(5,.Ο 1 1 0 0),(6,.mp 2),(19,R s.cells.length),(20,R c),(11,Xn 2 (d.map Zo))]) ?_ J J
     repeat apply Ζ
     refine W.Xv (A:=[65]) Τ [(2,ZW s),(3,.Ε [R p.1,R p.2]),(4,.Ο 0 1 0 0),(5,.Ο 1 1 0 0),(6,.mp 2),(19,R s.cells.length),(20,R c)] (WO::Xe p D::.map (d.map YG)::Y3 D) ?_ (by
      clear Y X M E V S hv;obtain⟨az,aA,sl,aO⟩:=FD 2 (d.map Zo);rw[aO] at ab ⊢;by_cases f:L=[]
      .have aP:D=[.sl az aA sl]:=by rw[ab,f];rfl
       rw[aP];subst f;simp only[Xe,Y3,TG,List.isEmpty_nil,List.isEmpty_cons,if_true,if_false];(try simp);(repeat (rw[Μ];simp));(try simp)
      .have ad:L.length<=4294967295:=U
       have aQ:TG L=.ms 3 L.length 0 L.length:=by unfold TG;rw[if_neg (by simpa using f)]
       have aR:Y3 L=[.cells 111 1 L]:=by unfold Y3;rw[if_neg (by simpa using f)]
       have aS:TG D=.ms 3 (L.length+1) 0 (L.length+1):=by rw[ab];unfold TG;rw[if_neg J];simp
       have aT:Y3 D=[.cells 111 1 (L++[.sl az aA sl])]:=by rw[ab];unfold Y3;rw[if_neg J]
       simp only[Xe];rw[aQ,aR,aS,aT];(try simp);(repeat (rw[Μ];simp[ad]));(try simp[ad]))
     have am:∀es,To (WO::Xe p D::.map es::Y3 D) 2=true:=λes=>by unfold Y3;cases D.isEmpty<;>simp[To]
     repeat apply Ζ
     refine YH λB g=>?_;simp;(repeat (rw[Μ];simp[am,-To]));apply g;refine Φ ?_;have aU:D=(List.range (c+1)).map λc=>Xn 2 ((Td s p c).map Zo):=by rw[ab,O,ai,Uy];simp
     refine W.to (M (c+1) U U) ?_ ?_
     .rw[<-aU]
     .simp[YF af (show s.cells.length<2 ^ 62 by omega)]
   | cons y m=>
    refine ZB λB g=>?_;intro i hi;obtain⟨x,aj⟩:=Z8 ((y::m)[i]'(by simpa using hi));have aV:(YG y::List.map YG m)[i]?=some (YG x):=by
     have:(List.map YG (y::m))[i]?=some (YG x):=by
      rw[Yk,ε (by simpa using hi),aj];rfl
     simpa using this
    have aW:(YG y::List.map YG m).eraseIdx i=((y::m).eraseIdx i).map YG:=by
     exact FC YG (y::m) i
    rw[aV,aW];simp;(repeat (rw[Μ];simp));apply g
    repeat apply Ζ
    refine υ rfl ?_
    repeat apply Ζ
    refine YR (A:=[12]) Τ λB g=>Z1 ?_;apply g;have an:∀r∈WO::Xe p L::.map (d.map YG)::(Y3 L++(.iter 2 (((y::m).eraseIdx i).map YG) (some (YG x))::ZY 112 2 (K.map Zo))),X8 (WO::Xe p L::.map (d.map YG)::(Y3 L++(.iter 2 (((y::m).eraseIdx i).map YG) (some (YG x))::ZY 112 2 (K.map Zo)))).length r:=by
     intro r C;have w:r∈WO::Xe p L::.map (d.map YG)::Y3 L\/r∈(.iter 2 (((y::m).eraseIdx i).map YG) (some (YG x))::ZY 112 2 (K.map Zo)):=by
      have:r∈(WO::Xe p L::.map (d.map YG)::Y3 L)++(.iter 2 (((y::m).eraseIdx i).map YG) (some (YG x))::ZY 112 2 (K.map Zo)):=by simpa using C
      exact V6.1 this
     rcases w with w|w
     .exact X8.mono (E d r w) J
     .rcases YZ.1 w with rfl|w
      .refine⟨J,λe o=>?_,λe o=>?_⟩
       .obtain⟨z,_,rfl⟩:=YK.1 o;simp
       .cases o;simp
      .unfold ZY at w;split at w
       .simp at w
       .simp at w;subst w;intro e o a u;obtain⟨z,_,rfl⟩:=YK.1 o;simp[I.cells] at u;rcases u with rfl|rfl<;>simp
    refine W.to (σ':=(WO::Xe p L::.map (d.map YG)::(Y3 L++(.iter 2 (((y::m).eraseIdx i).map YG) (some (YG x))::ZY 112 2 (K.map Zo))))++[.cells 112 2 [Zo x]]) (env':=[(12,.Ο (WO::Xe p L::.map (d.map YG)::(Y3 L++(.iter 2 (((y::m).eraseIdx i).map YG) (some (YG x))::ZY 112 2 (K.map Zo)))).length 1 0 0),(2,ZW s),(3,.Ε [R p.1,R p.2]),(4,.Ο 0 1 0 0),(5,.Ο 1 1 0 0),(6,.mp 2),(19,R s.cells.length),(20,R c),(7,R c),(11,Zm ((Y3 L).length+1+1+1+1) (K.map Zo)),(50,.it ((Y3 L).length+1+1+1))]) ?_ J J;refine W.Vw (σ0:=WO::Xe p L::.map (d.map YG)::(Y3 L++(.iter 2 (((y::m).eraseIdx i).map YG) (some (YG x))::ZY 112 2 (K.map Zo)))) (ω _) an J [(12,.Ε [R x.1,R x.2]),(2,ZW s),(3,.Ε [R p.1,R p.2]),(4,.Ο 0 1 0 0),(5,.Ο 1 1 0 0),(6,.mp 2),(19,R s.cells.length),(20,R c),(7,R c),(11,Zm ((Y3 L).length+1+1+1+1) (K.map Zo)),(50,.it ((Y3 L).length+1+1+1))] (by
     have aX:=zm (h:=(Y3 L).length+((ZY 112 2 (K.map Zo)).length+1)+1+1+1) (id:=(Y3 L).length+1+1+1+1) (l:=K.map Zo) (λaa=>by rw[Yz aa];simp);clear Y X M E an V S hv P;simp[WH,QL,AS,aX]
     ) ?_
    repeat apply Ζ
    have av:K.length<2 ^ 20:=by
     have:=al.length_eq;simp at this;omega
    refine W.Xv (A:=[58]) Τ [(2,ZW s),(3,.Ε [R p.1,R p.2]),(4,.Ο 0 1 0 0),(5,.Ο 1 1 0 0),(6,.mp 2),(19,R s.cells.length),(20,R c),(7,R c),(11,Zm ((Y3 L).length+1+1+1+1) ((K++[x]).map Zo)),(50,.it ((Y3 L).length+1+1+1))]
     (WO::Xe p L::.map (d.map YG)::(Y3 L++(.iter 2 (((y::m).eraseIdx i).map YG) (some (YG x))::ZY 112 2 ((K++[x]).map Zo)))) ?_ (by
     clear Y X M E an V S hv P;by_cases f:K=[]
     .subst f;simp only[TX,VY,show Zm ((Y3 L).length+1+1+1+1) []=.sl true 0 [] from rfl];(try simp);(repeat (rw[Μ];simp[VY]));(try simp[VY]);exact⟨rfl,rfl⟩
     .have ad:K.length<=4294967295:=U
      have Z:K.map Zo≠[]:=by simpa using f
      rw[XB Z,Yz Z];(try simp);(repeat (rw[Μ];simp[ad]));(try simp[ad]);rw[Yz J,XB J];simp)
    refine Φ ?_;have aB:(x::(y::m).eraseIdx i).Perm (y::m):=by
     rw[aj];exact FE _ _ _
    refine W.to (Y (K++[x],(y::m).eraseIdx i,some (YG x)) ⟨?_,.inr ⟨x,rfl⟩⟩ ?_) J J
    .simp only[TZ,List.singleton_append];exact(aB.append_left K).trans al
    .have:=aB.length_eq;simp at this;simp only[List.length_cons];omega
 .have aY:c=s.cells.length:=by simp at ae;omega
  subst aY;refine W.exit rfl ?_
  repeat apply Ζ
  clear M;have P:∀e∈L,∀a∈e.cells,Γ 0 a:=by
   rw[O];intro e o a u;obtain⟨x,_,rfl⟩:=YK.1 o;unfold Xn at u;split at u<;>simp[I.cells] at u<;>subst u<;>simp
  refine W.Xv (A:=[]) Τ [(4,.Ο 0 1 0 0)] (.cells 110 3 [.Z9 [R p.1,R p.2,TG L]]::Xe p L::.map []::Y3 L) ?_ (by
   simp only[Xe];by_cases f:L=[]
   .rw[show TG L=.sl true 0 [] by rw[f];rfl];(try simp);(repeat (rw[Μ];simp));(try simp)
   .rw[show TG L=.ms 3 L.length 0 L.length by unfold TG;rw[if_neg (by simpa using f)],show Y3 L=[.cells 111 1 L] by unfold Y3;rw[if_neg (by simpa using f)]];(try simp);(repeat (rw[Μ];simp));(try simp))
  refine W.cut 0 (ω _) [(4,.Ε [R p.1,R p.2,Xn 1 L])] (ω _) (λid r ay=>U) (λz f=>by
   simp at f;subst f;exact Yu.struct (k:=3) (t:=110) (l:=[R p.1,R p.2,TG L]) (ω _) rfl rfl (λx a a7 H Q=>by
    match x with
    | 0=>simp at H Q;subst H;subst Q;exact .low J
    | 1=>simp at H Q;subst H;subst Q;exact .low J
    | 2=>
     simp at H Q;subst H;subst Q;exact Kl (id:=3) (t:=111) (l:=L) (ω _) (λaa=>by
      have:Y3 L=[.cells 111 1 L]:=by unfold Y3;rw[if_neg (by simpa using aa)]
      simp[this]) P
    | x+3=>simp at H)) ?_
  refine Φ ?_;refine W.rt ?_;refine Y4.Z9 (ZZ.cons (.refl _) (ZZ.cons (.refl _) (ZZ.cons (.trans Y4.acc ?_) .nil)));rw[O];show Y4 _ (.sl false 1 (((List.range s.cells.length).map (Td s p)).map Un));rw[Pz];refine Y4.map λx _=>.one Y4.acc ?_ rfl;obtain⟨b,k,l,o⟩:=FD 2 ((Td s p x).map Zo);rw[o];rfl
structure UH where
 c:Int
 n:Int
 least:Int
 some:Bool
def UH.take (b:UH) (c n m:Int):UH:=if b.some=false\/m<b.least then⟨c,n,m,true⟩ else b
abbrev UG (b:UH):I:=.Z9 [R b.c,R b.n,R b.least,ZQ b.some]
theorem zk (b:UH) (c n m:Int):Δ prog 76 [.Ο 0 1 0 0,.Z9 [R c,R n],R m] [.cells 104 4 [UG b]] (λr s=>r=.ZP []/\s=[.cells 104 4 [UG (b.take c n m)]]) (λ_ _=>False):=by
 obtain⟨d,f,a,g⟩:=b;refine Δ.body Τ func76 rfl rfl ntmps76 rfl rfl J ?_;refine Φ ?_;cases g
 .have e:UH.take ⟨d,f,a,false⟩ c n m=⟨c,n,m,true⟩:=by simp[UH.take]
  rw[e];refine Φ ?_;refine υ rfl ?_;refine Φ ?_;exact W.nil ⟨_,rfl,rfl,rfl⟩
 .refine Φ ?_;by_cases h:m<a
  .have e:UH.take ⟨d,f,a,true⟩ c n m=⟨c,n,m,true⟩:=by simp[UH.take,h]
   rw[e];refine υ (by simp[h]) ?_;refine Φ ?_;exact W.nil ⟨_,rfl,rfl,rfl⟩
  .have e:UH.take ⟨d,f,a,true⟩ c n m=⟨d,f,a,true⟩:=by simp[UH.take,h]
   rw[e];refine χ (by simp[h]) ?_;refine Φ ?_;exact W.nil ⟨_,rfl,rfl,rfl⟩
abbrev Wl (e:Int×Int):I×I:=(R e.1,R e.2)
def PZ:List (Int×Int)->Int->Int->List (Int×Int)
 | [],k,n=>[(k,IntKind.i64.wrap (0+n))]
 | e::r,k,n=>if k=e.1 then(k,IntKind.i64.wrap (e.2+n))::r else e::PZ r k n
theorem zj (k n:Int):∀(m:List (Int×Int)) (d:Nat),(WK Z7 113 (R k) (m.map Wl) d=some none/\PZ m k n=m++[(k,IntKind.i64.wrap (0+n))])\/∃i v,i<m.length/\WK Z7 113 (R k) (m.map Wl) d=some (some (d+i,R v))/\PZ m k n=m.set i (k,IntKind.i64.wrap (v+n)):=by
 intro m
 induction m with
 | nil=>intro d;exact .inl ⟨rfl,rfl⟩
 | cons e r g=>
  intro d;have a:aeqv Z7 113 (R k) (R e.1)=some (k==e.1):=by simp[aeqv,VO,Ur,Wd]
  by_cases h:k=e.1
  .refine .inr ⟨0,e.2,J,?_,by simp[PZ,h]⟩;simp only[Xt,WK,a];simp[h]
  .have c:(k==e.1)=false:=by simpa using h
   rcases g (d+1) with⟨f,b⟩|⟨i,v,f,b,j⟩
   .refine .inl ⟨?_,by simp[PZ,h,b]⟩;simp only[Xt,WK,a,c,cond_false];exact f
   .refine .inr ⟨i+1,v,by simp;omega,?_,by simp[PZ,h,j]⟩;simp only[Xt,WK,a,c,cond_false];rw[b];have:d+1+i=d+(i+1):=U;rw[this]
end Go.TL
