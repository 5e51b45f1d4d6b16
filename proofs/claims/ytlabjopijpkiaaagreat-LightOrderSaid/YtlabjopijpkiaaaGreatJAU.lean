import Derived.Test.YtlabjopijpkiaaaGreatJAT
set_option maxHeartbeats 16000000
set_option maxRecDepth 20000
set_option linter.unusedSectionVars false
set_option linter.unusedSimpArgs false
set_option linter.unusedVariables false
namespace Go.TL
open Go.IntWalk (i64_in)
open Go.IntKind (i64 u64)
open Go.Proofs.Tryz
open Go.Sort (SWO bitsLen bitsLen_le_iff breakStep lt_two_pow_bitsLen partialIns partialInsertionSort_holds partitionEqual_holds partition_holds pdq pdq_done pdq_eq pdq_heap pdq_left pdq_right pdq_small pdq_sorts rd_c rd_dec rd_facts rd_false rd_lim_le rd_not rd_pi_no rd_pi_yes rd_true reverseRange_holds round_eq round_part scanSorted shiftDown shiftUp sorted_unique_holds swp two_pow_bitsLen_le xorNext xorNextN xorNext_toNat)
open Go.Proofs
variable [ZX]
theorem BG (S:Tz) (F:S=Wx\/S=Ww) (d:Array (Int×Int)) (n a b c s:Nat) (l:d.size=n) (T:a<n) (V:b<n) (X:c<n) (Y:s<2 ^ 39) (f:Ω) (e:Int×Int->Int×Int->Int) (m:ς 0 f) (o:∀x y,XS prog f [S.enc x,S.enc y] (J (e x y))) :
  Μ prog S.median [.ms 0 n 0 n,J a,J b,J c,.Κ 1 1 0 0,f] [.cells S.t S.k ((d).toList.map S.enc),.cells 3 1 [J (s:Nat)]] (λr σ=>r=J (Go.Sort.median (υ e) d a b c s).1/\σ=[.cells S.t S.k ((d).toList.map S.enc),.cells 3 1 [J ((Go.Sort.median (υ e) d a b c s).2:Nat)]]) (λ_ _=>False):=by
 have p:=sF S F;rcases F with rfl|rfl
 all_goals dsimp only[Wx,Ww] at *
 refine Μ.body Ρ func256 rfl rfl ntmps256 rfl rfl I ?_
 rotate_left
 refine Μ.body Ρ func229 rfl rfl ntmps229 rfl rfl I ?_
 all_goals
  obtain⟨M,H⟩:=ZG (Go.Sort.order2 (υ e) d a b s);have f1:=PC (υ e) d (a:=a) (b:=b) (n:=n) U U s;have u:=p d n a b s l U U U f e m o;rw[H] at f1 u;obtain⟨v,w,A⟩:=M;simp only at f1 u;obtain⟨N,Φ⟩:=ZG (Go.Sort.order2 (υ e) d w c A);have f2:=PC (υ e) d (a:=w) (b:=c) (n:=n) U U A;have B:=p d n w c A l U U U f e m o;rw[Φ] at f2 B;obtain⟨C,Z,D⟩:=N;simp only at f2 B;obtain⟨O,K⟩:=ZG (Go.Sort.order2 (υ e) d v C D);have f3:=PC (υ e) d (a:=v) (b:=C) (n:=n) U U D;have E:=p d n v C D l U U U f e m o;rw[K] at f3 E;obtain⟨aa,P,Q⟩:=O;simp only at f3 E;have R:Go.Sort.median (υ e) d a b c s=(P,Q):=by unfold Go.Sort.median;simp only[H,Φ,K]
  rw[R]
  repeat apply Ξ
  refine VT ?_;refine Z' λL g=>?_;refine Μ.call (first:=[]) (captured:=[]) ((u).mono (λr s ⟨i,j⟩=>?_) (λ_ _ h=>h.elim));subst i;subst j;simp;(repeat (rw[Ν];simp));apply g;refine Z' λL g=>?_;refine Μ.call (first:=[]) (captured:=[]) ((B).mono (λr s ⟨i,j⟩=>?_) (λ_ _ h=>h.elim));subst i;subst j;simp;(repeat (rw[Ν];simp));apply g;refine Z' λL g=>?_;refine Μ.call (first:=[]) (captured:=[]) ((E).mono (λr s ⟨i,j⟩=>?_) (λ_ _ h=>h.elim));subst i;subst j;simp;(repeat (rw[Ν];simp));apply g;refine Τ ?_;exact W.ret ⟨_,rfl,rfl,rfl⟩
theorem sE (S:Tz) (f:S=Wx\/S=Ww) (d:Array (Int×Int)) (n i s:Nat) (g:d.size=n) (D:1<=i) (hi:i+1<n) (E:n<2 ^ 40) (j:s<2 ^ 39) (b:Ω) (a:Int×Int->Int×Int->Int) (l:ς 0 b) (m:∀x y,XS prog b [S.enc x,S.enc y] (J (a x y))) :
  Μ prog S.medianAdjacent [.ms 0 n 0 n,J i,.Κ 1 1 0 0,b] [.cells S.t S.k ((d).toList.map S.enc),.cells 3 1 [J (s:Nat)]] (λr σ=>r=J (Go.Sort.medianAdjacent (υ a) d i s).1/\σ=[.cells S.t S.k ((d).toList.map S.enc),.cells 3 1 [J ((Go.Sort.medianAdjacent (υ a) d i s).2:Nat)]]) (λ_ _=>False):=by
 have o:=BG S f;rcases f with rfl|rfl
 all_goals dsimp only[Wx,Ww] at *
 refine Μ.body Ρ func255 rfl rfl ntmps255 rfl rfl I ?_
 rotate_left
 refine Μ.body Ρ func228 rfl rfl ntmps228 rfl rfl I ?_
 all_goals
  obtain⟨p,u⟩:=Η (i-1);obtain⟨q,v⟩:=Η (i+1);have w1:i64.wrap ((i:Int)-1)=(p:Int):=by rw[i64_in _ U];omega
  have w:i64.wrap ((i:Int)+1)=(q:Int):=by rw[i64_in _ U];omega
  have c:=o d n p i q s g U U U j b a l m
  have e:Go.Sort.medianAdjacent (υ a) d i s=Go.Sort.median (υ a) d p i q s:=by rw[u,v];rfl
  rw[e]
  repeat apply Ξ
  refine VT ?_;refine XB (Υ w1 w) λF A=>?_;refine Μ.call (first:=[]) (captured:=[]) ((c).mono (λr s ⟨B,C⟩=>?_) (λ_ _ h=>h.elim));subst B;subst C;simp;(repeat (rw[Ν];simp));apply A;refine Τ ?_;exact W.ret ⟨_,rfl,rfl,rfl⟩
theorem sD (S:Tz) (O:S=Wx\/S=Ww) (d:Array (Int×Int)) (n a b:Nat) (E:d.size=n) (aG:n<2 ^ 38) (aH:a+12<b) (aI:b<=n) (u:Ω) (c:Int×Int->Int×Int->Int) (F:ς 0 u) (H:∀x y,XS prog u [S.enc x,S.enc y] (J (c x y))) :
  Μ prog S.choosePivot [.ms 0 n 0 n,J a,J b,u] [.cells S.t S.k ((d).toList.map S.enc)] (λr s=>r=.ZW [J (Go.Sort.choosePivot (υ c) d a b).1,J (RV (Go.Sort.choosePivot (υ c) d a b).2)]/\s=[.cells S.t S.k ((d).toList.map S.enc)]) (λ_ _=>False):=by
 have P:=sE S O
 have an:=BG S O;rcases O with rfl|rfl
 all_goals dsimp only[Wx,Ww] at *
 refine Μ.body Ρ func237 rfl rfl ntmps237 rfl rfl I ?_
 rotate_left
 refine Μ.body Ρ func186 rfl rfl ntmps186 rfl rfl I ?_
 all_goals
  obtain⟨l,ae⟩:=Η (b-a);obtain⟨q,Q⟩:=Η (l / 4);obtain⟨R,af⟩:=Η (q*2);obtain⟨T,ag⟩:=Η (q*3);obtain⟨i,hi⟩:=Η (a+q);obtain⟨j,ah⟩:=Η (a+R);obtain⟨k,ai⟩:=Η (a+T);have ao:(8:Int)<=(l:Int):=U;have w1:i64.wrap ((b:Int)-(a:Int))=(l:Int):=by rw[i64_in _ U];omega
  have ap:i64.wrap ((l:Int) / 4)=(q:Int):=by rw[Q];exact OZ (m:=4) U
  have aq:i64.wrap (q:Int)=(q:Int):=i64_in _ U
  have ar:i64.wrap ((q:Int)*2)=(R:Int):=by rw[i64_in _ U];omega
  have au:i64.wrap ((q:Int)*3)=(T:Int):=by rw[i64_in _ U];omega
  have av:i64.wrap ((a:Int)+(q:Int))=(i:Int):=by rw[i64_in _ U];omega
  have aw:i64.wrap ((a:Int)+(R:Int))=(j:Int):=by rw[i64_in _ U];omega
  have ax:i64.wrap ((a:Int)+(T:Int))=(k:Int):=by rw[i64_in _ U];omega
  obtain⟨e,f,K,o,L,ay,az,aA,V⟩:∃e f K o:Nat,Go.Sort.choosePivot (υ c) d a b=((Go.Sort.median (υ c) d e f K o).1,if(Go.Sort.median (υ c) d e f K o).2=0 then .increasing else if(Go.Sort.median (υ c) d e f K o).2=12 then .decreasing else .unknown)/\e<n/\f<n/\K<n/\(o<=9/\((l<50/\e=i/\f=j/\K=k/\o=0)\/(50<=l/\∃t1 t2,Go.Sort.medianAdjacent (υ c) d i 0=(e,t1)/\t1<=3/\Go.Sort.medianAdjacent (υ c) d j t1=(f,t2)/\t2<=6/\Go.Sort.medianAdjacent (υ c) d k t2=(K,o)))):=by
   have aj:8<=l:=U;by_cases X:50<=l
   .have Y:=Mz (υ c) d (n:=n) (i:=i) U U 0;obtain⟨⟨e,t1⟩,B⟩:∃r,Go.Sort.medianAdjacent (υ c) d i 0=r:=⟨_,rfl⟩;rw[B] at Y;have Z:=Mz (υ c) d (n:=n) (i:=j) U U t1;obtain⟨⟨f,t2⟩,Φ⟩:∃r,Go.Sort.medianAdjacent (υ c) d j t1=r:=⟨_,rfl⟩;rw[Φ] at Z;have aa:=Mz (υ c) d (n:=n) (i:=k) U U t2;obtain⟨⟨K,o⟩,C⟩:∃r,Go.Sort.medianAdjacent (υ c) d k t2=r:=⟨_,rfl⟩;rw[C] at aa;simp only at Y Z aa;refine⟨e,f,K,o,?_,Y.1,Z.1,aa.1,U,.inr ⟨X,t1,t2,B,U,Φ,U,C⟩⟩;simp only[Go.Sort.choosePivot,<-ae,<-Q,Sp,<-af,<-ag,<-hi,<-ah,<-ai,ge_iff_le,if_pos aj,if_pos X,B,Φ,C]
   .refine⟨i,j,k,0,?_,U,U,U,U,.inl ⟨U,rfl,rfl,rfl,rfl⟩⟩;simp only[Go.Sort.choosePivot,<-ae,<-Q,Sp,<-af,<-ag,<-hi,<-ah,<-ai,ge_iff_le,if_pos aj,if_neg X]
  obtain⟨aB,em⟩:=ZG (Go.Sort.median (υ c) d e f K o);have M:=an d n e f K o E ay az aA (Qk V.1 ZY) u c F H;rw[em] at M L;obtain⟨aC,D⟩:=aB;simp only at M L;rw[L]
  repeat apply Ξ
  refine VT ?_
  repeat apply Ξ
  refine Tb w1 ?_
  repeat apply Ξ
  refine Y4 (A:=[11]) Ρ λN p=>Z6 ?_;apply p;refine Γ (Υ ap (Υ aq (Υ ar (Υ au (Υ av (Υ aw (Υ ax @ao))))))) ?_;refine Α I ?_;refine Τ ?_;refine W.NU [(0,.ms 0 n 0 n),(3,u),(11,.Κ 1 1 0 0),(12,J (e:Nat)),(13,J (f:Nat)),(14,J (K:Nat))] (d) [.cells 3 1 [J (o:Nat)]] ?_ ?_
  .clear L M;rcases V with⟨-,⟨aD,rfl,rfl,rfl,rfl⟩|⟨aD,t1,t2,B,aJ,Φ,aK,C⟩⟩
   .have g:¬(50:Int)<=(l:Int):=U
    refine Ζ (by simp[g]) ?_;refine W.skip ?_;exact W.stop ⟨rfl,rfl,I⟩
   .have g:(50:Int)<=(l:Int):=U
    have ak:=P d n i 0 E U U U U u c F H
    have al:=P d n j t1 E U U U U u c F H
    have am:=P d n k t2 E U U U U u c F H;rw[B] at ak;rw[Φ] at al;rw[C] at am;refine Α (by simp[g]) ?_;refine Z' λN p=>?_;refine Μ.call (first:=[]) (captured:=[]) ((ak).mono (λr s ⟨v,w⟩=>?_) (λ_ _ h=>h.elim));subst v;subst w;simp;(repeat (rw[Ν];simp));apply p;refine Z' λN p=>?_;refine Μ.call (first:=[]) (captured:=[]) ((al).mono (λr s ⟨v,w⟩=>?_) (λ_ _ h=>h.elim));subst v;subst w;simp;(repeat (rw[Ν];simp));apply p;refine Z' λN p=>?_;refine Μ.call (first:=[]) (captured:=[]) ((am).mono (λr s ⟨v,w⟩=>?_) (λ_ _ h=>h.elim));subst v;subst w;simp;(repeat (rw[Ν];simp));apply p;exact W.stop ⟨rfl,rfl,I⟩
  clear V;refine Z' λN p=>?_;refine Μ.call (first:=[]) (captured:=[]) ((M).mono (λr s ⟨v,w⟩=>?_) (λ_ _ h=>h.elim));subst v;subst w;simp;(repeat (rw[Ν];simp));apply p
  repeat apply Ξ
  refine VT ?_;refine W.drop (h:=1) I I (H5 (by first|exact PR|exact Lz)) rfl [(13,J (aC:Nat)),(55,J (D:Nat))] I ?_;by_cases ab:D=0
  .subst ab;refine Τ ?_;refine Α rfl ?_;refine Τ ?_;exact W.ret ⟨_,rfl,rfl,rfl⟩
  have aE:¬(D:Int)=0:=U;refine Γ aE ?_;refine Ζ (by simp[ab]) ?_;by_cases ad:D=12
  .subst ad;refine Τ ?_;refine Α rfl ?_;refine Τ ?_;exact W.ret ⟨_,rfl,rfl,rfl⟩
  have aF:¬(D:Int)=12:=U;refine Γ aF ?_;refine Ζ (by simp[ad]) ?_;refine Τ ?_;exact W.ret ⟨_,rfl,by simp[ab,ad,RV],rfl⟩
theorem BF (l:Nat) (b:l<256):Ε prog 226 [J l] (Vm ((1 <<< bitsLen l:Nat):Int)):=by
 refine Μ.body Ρ func226 rfl rfl ntmps226 rfl rfl I ?_;have Φ:u64.wrap (l:Int)=l:=Qr U;(repeat (first|apply Ξ|(refine Y9 λc a=>?_;simp;(repeat (rw[Ν];simp[Φ]));apply a)));(repeat apply Ξ);refine Y9 λc a=>?_;simp;(repeat (rw[Ν];simp[Φ]));refine Ε.d (QK l b) (Z6 ?_);apply a;refine Τ ?_;refine W.ret ⟨_,rfl,.of ?_,rfl⟩;have f:=(bitsLen_le_iff l 8).2 b;have e:=FJ 1 (bitsLen l) U;have g:1*2 ^ bitsLen l % 18446744073709551616=1 <<< bitsLen l:=by
  rw[Nat.one_mul,Kt,Qi (Qk (Mn U f) ZY)]
 rw[g] at e;show Vm (u64.wrap (2 ^ min (bitsLen l) u64.bits))=_;rw[<-e];simp
theorem BE (x:Nat) (j:x<2 ^ 64):Μ prog 227 [.Κ 0 1 0 0] [.cells 248 1 [Vm (x:Int)]] (λr s=>r=Vm ((xorNextN x:Nat):Int)/\s=[.cells 248 1 [Vm ((xorNextN x:Nat):Int)]]) (λ_ _=>False):=by
 refine Μ.body Ρ func227 rfl rfl ntmps227 rfl rfl I ?_;obtain⟨k,e⟩:=Η (x*2 ^ 13 % 18446744073709551616);obtain⟨a,b⟩:=Η (x^^^k);obtain⟨l,f⟩:=Η (a / 2 ^ 7);obtain⟨c,d⟩:=Η (a^^^l);obtain⟨m,g⟩:=Η (c*2 ^ 17 % 18446744073709551616);obtain⟨B,h⟩:=Η (c^^^m);have n:xorNextN x=B:=by rw[h,g,d,f,b,e];rfl
 rw[n];have l1:k<2 ^ 64:=U;have i:a<2 ^ 64:=by rw[b];exact Nat.xor_lt_two_pow j l1
 have l2:l<2 ^ 64:=U
 have o:c<2 ^ 64:=by rw[d];exact Nat.xor_lt_two_pow i l2
 have p:m<2 ^ 64:=U
 have t:=FJ x 13 U;rw[<-e] at t;have u:=FK j l1;rw[<-b] at u;have v:=sN a 7 U;rw[<-f] at v;have w:=FK i l2;rw[<-d] at w;have y:=FJ c 17 U;rw[<-g] at y;have A:=FK o p;rw[<-h] at A;clear h g d f b e l1 i l2 o p n;refine Τ ?_;refine XI (Υ t u) ?_;refine Τ ?_;refine XI (Υ v w) ?_;refine Τ ?_;refine XI (Υ y A) ?_;refine Τ ?_;exact W.ret ⟨_,rfl,rfl,rfl⟩
theorem sC (S:Tz) (av:S=Wx\/S=Ww) (d:Array (Int×Int)) (n a b:Nat) (aw:d.size=n) (aS:n<2 ^ 40) (aT:a+12<b) (aU:b<a+256) (aV:b<=n) (K:Ω) (ax:Int×Int->Int×Int->Int) (aW:ς 0 K) (aX:∀x y,XS prog K [S.enc x,S.enc y] (J (ax x y))) :
  Μ prog S.breakPatterns [.ms 0 n 0 n,J a,J b,K] [.cells S.t S.k ((d).toList.map S.enc)] (λr s=>r=.ZW []/\s=[.cells S.t S.k ((Go.Sort.breakPatterns d a b).toList.map S.enc)]) (λ_ _=>False):=by
 obtain⟨enc,ay⟩:=Η S.enc;rcases av with rfl|rfl
 all_goals dsimp only[Wx,Ww] at *
 refine Μ.body Ρ func236 rfl rfl ntmps236 rfl rfl I ?_
 rotate_left
 refine Μ.body Ρ func185 rfl rfl ntmps185 rfl rfl I ?_
 all_goals
  obtain⟨l,M⟩:=Η (b-a);obtain⟨q,ab⟩:=Η (l / 4);obtain⟨N,az⟩:=Η (q*2);obtain⟨c,aA⟩:=Η (a+N);obtain⟨O,ad⟩:=Η (c-1);obtain⟨P,aY⟩:=Η (c+1);obtain⟨m,Q⟩:=Η (1 <<< bitsLen l);have aB:bitsLen l<=8:=(bitsLen_le_iff l 8).2 U;have aZ:l<m/\m<=256/\m<=2*l:=by
   have v:=lt_two_pow_bitsLen l
   have w:=two_pow_bitsLen_le (n:=l) U;rw[Q,Kt];exact⟨v,X' (Mn U aB) ZY,w⟩
  obtain⟨R,ae⟩:=ZG (Qs a l m 3 O (UInt64.ofNat l,d));have aC:Go.Sort.breakPatterns d a b=R.2:=by rw[BL (c:=c) M U (by rw[aA,az,ab]),<-Q,<-ad,ae]
  rw[aC];have w1:i64.wrap ((b:Int)-(a:Int))=(l:Int):=by rw[i64_in _ U];omega
  have T:i64.wrap ((l:Int) / 4)=(q:Int):=by rw[ab];exact OZ (m:=4) U
  have V:i64.wrap ((q:Int)*2)=(N:Int):=by rw[i64_in _ U];omega
  have X:i64.wrap ((a:Int)+(N:Int))=(c:Int):=by rw[i64_in _ U];omega
  have aD:i64.wrap ((c:Int)-1)=(O:Int):=by rw[i64_in _ U];omega
  have af:i64.wrap ((c:Int)+1)=(P:Int):=by rw[i64_in _ U];omega
  have aE:u64.wrap (l:Int)=(l:Int):=Qr U
  have aF:u64.wrap ((m:Int)-1)=((m-1:Nat):Int):=by
   have e:(m:Int)-1=((m-1:Nat):Int):=U;rw[e];exact Qr U
  have aG:(8:Int)<=(l:Int):=U
  have aH:(UInt64.ofNat l).toNat=l:=by rw[UInt64.toNat_ofNat'];exact Qi U
  refine Γ (Υ w1 @aG) ?_;refine Α I ?_
  repeat apply Ξ
  refine Y4 (A:=[9]) Ρ λag p=>XJ aE ?_;apply p;have ah:=BF l U;rw[<-Q] at ah;refine Z' λag p=>?_;refine Ε.c ah (ZM.refl _) I I ?_;simp;(repeat (rw[Ν];simp));apply p;refine Γ (Υ T (Υ V (Υ X aD))) ?_;refine W.iter (λy:Nat×UInt64×Array (Int×Int)=>y.1<=3/\y.2.2.size=n/\Qs a l m y.1 (c+2-y.1) y.2=R) (λy=>[(0,.ms 0 n 0 n),(1,J a),(8,J (l:Nat)),(9,.Κ 1 1 0 0),(10,Vm (m:Nat)),(11,J (c+2-y.1:Nat))]) (λy=>[.cells _ _ ((y.2.2).toList.map _),.cells 248 1 [Vm ((y.2.1.toNat:Nat):Int)]]) (λy=>y.1) (3,UInt64.ofNat l,d) ⟨γ _,aw,by simp only;rw[<-ae,show c+2-3=O by omega]⟩ (by simp only;rw[aH]) (by simp[ad]) (λy Y aI=>?_);obtain⟨t,st,e⟩:=y;obtain⟨aJ,Z,B⟩:=Y;simp only at aJ Z B;obtain⟨f,ai⟩:=Η (c+2-t);obtain⟨x,u⟩:=Η st.toNat;have aK:x<2 ^ 64:=by rw[u];exact st.toNat_lt
  rw[<-ai] at B;refine W.to (σ':=[.cells _ _ ((e).toList.map _),.cells 248 1 [Vm ((x:Nat):Int)]]) (env':=[(0,.ms 0 n 0 n),(1,J a),(8,J (l:Nat)),(9,.Κ 1 1 0 0),(10,Vm (m:Nat)),(11,J (f:Nat))]) ?_ (by rw[u]) (by simp[ai]);cases t with
  | zero=>
   have g:¬(f:Int)<=(P:Int):=U;refine Γ (Υ T (Υ V (Υ X (Υ af g)))) ?_;refine Ζ I ?_;refine W.exit rfl ?_;refine W.drop (h:=1) I I (H5 (by first|exact PR|exact Lz)) rfl [] I ?_;exact W.nil ⟨_,rfl,rfl,by rw[<-B];rfl⟩
  | succ t=>
   have g:(f:Int)<=(P:Int):=U;obtain⟨C,aj⟩:=Η (xorNext st);obtain⟨j,D⟩:=Η C.toNat;have aL:j=xorNextN x:=by rw[D,aj,xorNext_toNat,u]
   have aM:j<2 ^ 64:=by rw[D];exact C.toNat_lt
   have ak:=BE x aK;rw[<-aL] at ak;obtain⟨z,aa⟩:=Η (j&&&(m-1));have a0:z<=m-1:=by rw[aa];exact Nat.and_le_right
   have W5:XY .u64 (j:Int) ((m-1:Nat):Int)=(z:Int):=by rw[aa];exact BK aM U
   have aN:i64.wrap (z:Int)=(z:Int):=i64_in _ U;obtain⟨o,E⟩:=Η (if z>=l then z-l else z);have a1:o<l:=by rw[E];split<;>omega
   have al:Qs a l m t (f+1) (C,swp e f (a+o))=R:=by
    rw[<-B];show _=Qs a l m t (f+1) (breakStep a l m (st,e) f);unfold breakStep;simp only;rw[<-aj,<-D,<-aa,<-E]
   obtain⟨F,aO⟩:=Η (a+o);rw[<-aO] at al;refine Γ (Υ T (Υ V (Υ X (Υ af g)))) ?_;refine Α I ?_;refine Z' λag p=>?_;refine Μ.one ak 1 rfl (by simp[V9]) (by simp[V9]) (by simp[XC,Ua]) (by simp[XC,Ua]) rfl ?_;simp[Yx,WM];(repeat (rw[Ν];simp[aF,W5,aN]));apply p;refine W.to (σ':=[.cells _ _ ((e).toList.map _),.cells 248 1 [Vm ((j:Nat):Int)]]) (env':=[(0,.ms 0 n 0 n),(1,J a),(8,J (l:Nat)),(9,.Κ 1 1 0 0),(10,Vm (m:Nat)),(11,J (f:Nat)),(12,J (z:Nat))]) ?_ rfl I;refine Τ ?_;refine W.NU [(0,.ms 0 n 0 n),(1,J a),(8,J (l:Nat)),(9,.Κ 1 1 0 0),(10,Vm (m:Nat)),(11,J (f:Nat)),(12,J (o:Nat))] (e) [.cells 248 1 [Vm ((j:Nat):Int)]] ?_ ?_
   .by_cases H:l<=z
    .have wo:i64.wrap ((z:Int)-(l:Int))=(o:Int):=by rw[i64_in _ U,E,if_pos H];omega
     refine Α (by simp[H]) ?_;refine Γ wo ?_;exact W.stop ⟨rfl,rfl,I⟩
    .refine Ζ (by simp[H]) ?_
     repeat apply Ξ
     exact W.stop ⟨rfl,rfl,by simp[E,H]⟩
   have aP:i64.wrap ((a:Int)+(o:Int))=(F:Int):=by rw[i64_in _ U];omega
   have am:f<n:=U
   have an:F<n:=U;obtain⟨L,x,y,ao,u,Y,M,⟨v,w⟩,⟨ap,aq⟩,ar,a2,au⟩:=T1 enc Z am an;simp only[ay] at ao v w ap aq ar au;rw[ao];clear u Y
   repeat apply Ξ
   refine XI (Υ M (Υ v (Υ w (Υ ap (Υ aq (Υ au (Υ am (Υ an aP)))))))) ?_;have aQ:=Yt (i:=f) U;refine Γ aQ ?_;refine W.to (aI (t,C,swp e f F) ⟨ZD,swp_size Z f F,?_⟩ I) (by rw[ar,D]) (by simp[show c+2-t=f+1 by omega]);have aR:c+2-t=f+1:=U;simp only;rw[aR];exact al
theorem sB (S:Tz) (aG:S=Wx\/S=Ww) (d:Array (Int×Int)) (n a b:Nat) (ay:d.size=n) (aV:n<2 ^ 40) (aH:a<b) (aW:b<=n) (m:Ω) (h:Int×Int->Int×Int->Int) (aX:ς 0 m) (aj:∀x y,XS prog m [S.enc x,S.enc y] (J (h x y))) :
  Μ prog S.partialInsertionSort [.ms 0 n 0 n,J a,J b,m] [.cells S.t S.k ((d).toList.map S.enc)] (λr s=>r=Z4 (Go.Sort.partialInsertionSort (υ h) d a b).2/\s=[.cells S.t S.k (((Go.Sort.partialInsertionSort (υ h) d a b).1).toList.map S.enc)]) (λ_ _=>False):=by
 obtain⟨enc,ak⟩:=Η S.enc;rcases aG with rfl|rfl
 all_goals dsimp only[Wx,Ww] at *
 refine Μ.body Ρ func239 rfl rfl ntmps239 rfl rfl I ?_
 rotate_left
 refine Μ.body Ρ func188 rfl rfl ntmps188 rfl rfl I ?_
 all_goals
  obtain⟨R,al⟩:=ZG (partialIns (υ h) a b 5 (a+1) d);have az:Go.Sort.partialInsertionSort (υ h) d a b=R:=al;rw[az];have w1:=Yt (i:=a) U;refine Γ w1 ?_;refine W.iter (λq:Nat×Nat×Array (Int×Int)=>q.1<=5/\a+1<=q.2.1/\q.2.1<=b/\q.2.2.size=n/\partialIns (υ h) a b (5-q.1) q.2.1 q.2.2=R) (λq=>[(0,.ms 0 n 0 n),(1,J a),(2,J b),(3,m),(9,J (q.2.1:Nat)),(10,J (q.1:Nat))]) (λq=>[.cells _ _ ((q.2.2).toList.map _)]) (λq=>5-q.1) (0,a+1,d) ⟨χ _,γ _,aH,ay,al⟩ rfl (by simp[w1]) (λq N aI=>?_);clear al az ay w1;obtain⟨st,i,e⟩:=q;obtain⟨aJ,aK,am,ah,l⟩:=N;simp only at aJ aK am ah l;refine W.to (σ':=[.cells _ _ ((e).toList.map _)]) (env':=[(0,.ms 0 n 0 n),(1,J a),(2,J b),(3,m),(9,J (i:Nat)),(10,J (st:Nat))]) ?_ rfl I;by_cases Z:st<5
  case neg=>
   have g:¬(st:Int)<5:=U;refine Γ g ?_;refine Ζ I ?_;refine W.exit rfl ?_;refine Τ ?_;obtain rfl:st=5:=U;exact W.ret ⟨_,rfl,by rw[<-l];rfl,by rw[<-l];rfl⟩
  have aL:(st:Int)<5:=U;refine Γ aL ?_;refine Α I ?_;obtain⟨c,an⟩:=ZG (scanSorted (υ h) e b i);have aM:=BJ (υ h) e (b:=b) (b-i) i (γ _) am;rw[an] at aM;rw[show 5-st=(4-st)+1 by omega,partialIns] at l;simp only[an] at l
  repeat apply Ξ
  refine W.sQ [(0,.ms 0 n 0 n),(1,J a),(2,J b),(3,m),(9,J (c:Nat)),(10,J (st:Nat))] (e) [] ?_ ?_
  .clear l;refine W.iter (λk:Nat=>i<=k/\k<=b/\scanSorted (υ h) e b k=c) (λk=>[(0,.ms 0 n 0 n),(1,J a),(2,J b),(3,m),(9,J (k:Nat)),(10,J (st:Nat))]) (λ_=>[.cells _ _ ((e).toList.map _)]) (λk=>b-k) i ⟨γ _,am,an⟩ rfl I (λk aN ae=>?_);obtain⟨aY,aZ,ao⟩:=aN;by_cases O:k<b
   .obtain⟨p,ap⟩:=Η (k-1);have v:k<n:=U;have w:p<n:=U;obtain⟨L,x,y,o,B,C,T,⟨D,E⟩,⟨H,K⟩,-,-⟩:=T1 enc ah v w;simp only[ak] at o D E H K;have P:scanSorted (υ h) e b k=if(!υ h x y)=true then scanSorted (υ h) e b (k+1) else k:=by rw[scanSorted];simp[O,B,<-ap,C]
    have aA:=Yt (i:=k) U
    have aO:i64.wrap ((k:Int)-1)=(p:Int):=by rw[i64_in _ U];omega
    refine W.H6 o [(0,.ms 0 n 0 n),(1,J a),(2,J b),(3,m),(9,J (k:Nat)),(10,J (st:Nat))] I ?_;clear B C
    repeat apply Ξ
    refine W.draw (A:=[]) Ρ mixed λaq V=>V8 (Υ O (Υ aO (Υ T (Υ D (Υ E (Υ H (Υ K (Υ v w)))))))) ?_;refine Yl (aj x y) ?_;simp;(repeat (rw[ZK];simp));try rw[ZL]
    refine Y8 (V _ _ ?_);by_cases u:h x y<0
    .refine Ζ (by simp[u]) ?_;refine W.exit rfl ?_;exact W.stop ⟨rfl,by rw[o],by rw[<-ao,P];simp[u,υ]⟩
    .refine Α (by simp[u]) ?_;refine Γ aA ?_;exact W.to (ae (k+1) ⟨U,U,by rw[<-ao,P];simp[u,υ]⟩ ZD) (by rw[o]) (by simp[aA])
   .repeat apply Ξ
    refine XI O ?_;refine Ζ rfl ?_;refine W.exit rfl ?_;have e:scanSorted (υ h) e b k=k:=by rw[scanSorted];simp[O]
    exact W.stop ⟨rfl,rfl,by rw[<-ao,e];simp⟩
  by_cases ai:c=b
  .have g:(c:Int)=(b:Int):=U
   rw[if_pos ai] at l;refine Γ g ?_;refine Α (by simp[ai]) ?_;refine Τ ?_;exact W.ret ⟨_,rfl,by rw[<-l];rfl,by rw[<-l]⟩
  have g:¬(c:Int)=(b:Int):=U
  have aB:=Qq (a:=a) (b:=b) U U;rw[if_neg ai] at l;refine Γ g ?_;refine Ζ (by simp[ai]) ?_;by_cases aC:b-a<50
  .have ar:((b-a:Nat):Int)<50:=U
   rw[if_pos aC] at l;refine Γ (Υ aB ar) ?_;refine Α I ?_;refine Τ ?_;exact W.ret ⟨_,rfl,by rw[<-l];rfl,by rw[<-l]⟩
  have ar:¬((b-a:Nat):Int)<50:=U;rw[if_neg aC] at l;refine Γ (Υ aB ar) ?_;refine Ζ I ?_;obtain⟨p,ap⟩:=Η (c-1);have aD:i64.wrap ((c:Int)-1)=(p:Int):=by rw[i64_in _ U];omega
  rw[<-ap] at l;refine W.two _ ah (i:=c) (j:=p) U U λL x y z B C F o Q=>?_
  repeat apply Ξ
  refine W.draw (A:=[]) Ρ mixed λaq V=>?_;simp;(repeat (rw[ZK];simp[F,aD]));try rw[ZL];refine Y8 (V _ _ ?_)
  refine W.back Q [(0,.ms 0 n 0 n),(1,J a),(2,J b),(3,m),(9,J (c:Nat)),(10,J (st:Nat))] I ?_;clear F Q o B C L x y z;obtain⟨aa,aE⟩:=Η (swp e c p);have au:aa.size=n:=by rw[aE];exact swp_size ah c p
  rw[<-aE] at l ⊢;have aP:=Qq (a:=a) (b:=c) U U;obtain⟨Φ,X⟩:=Η (if c-a>=2 then shiftDown (υ h) p aa else aa);rw[<-X] at l;have av:Φ.size=n:=by rw[X];split;exact BI (υ h) p aa au;exact au
  refine Γ aP ?_;refine W.NU [(0,.ms 0 n 0 n),(1,J a),(2,J b),(3,m),(9,J (c:Nat)),(10,J (st:Nat))] (Φ) [] ?_ ?_
  .clear l;by_cases af:2<=c-a
   .rw[if_pos af] at X;refine Α (by simp;omega) ?_;refine Γ aD ?_;subst X;refine W.iter (λq:Nat×Array (Int×Int)=>q.1<=p/\q.2.size=n/\shiftDown (υ h) q.1 q.2=shiftDown (υ h) p aa) (λq=>[(0,.ms 0 n 0 n),(1,J a),(2,J b),(3,m),(9,J (c:Nat)),(10,J (st:Nat)),(11,J (q.1:Nat))]) (λq=>[.cells _ _ ((q.2).toList.map _)]) (λq=>q.1) (p,aa) ⟨γ _,au,rfl⟩ rfl I (λq N ae=>?_);obtain⟨j,f⟩:=q;obtain⟨aw,Y,M⟩:=N;simp only at aw Y M;refine W.to (σ':=[.cells _ _ ((f).toList.map _)]) (env':=[(0,.ms 0 n 0 n),(1,J a),(2,J b),(3,m),(9,J (c:Nat)),(10,J (st:Nat)),(11,J (j:Nat))]) ?_ rfl I;by_cases O:1<=j
    .have g:(1:Int)<=(j:Int):=U
     refine Γ g ?_;refine Α I ?_;obtain⟨q,N⟩:=Η (j-1);have ab:i64.wrap ((j:Int)-1)=(q:Int):=by rw[i64_in _ U];omega
     have ag:i64.wrap ((j:Int)-1)=(q:Int):=ab
     have v:j<n:=U
     have w:q<n:=U;obtain⟨L,x,y,o,B,C,T,⟨D,E⟩,⟨H,K⟩,Q,aQ,Z⟩:=T1 enc Y v w;simp only[ak] at o D E H K Q Z;have P:shiftDown (υ h) j f=if(!υ h x y)=true then f else shiftDown (υ h) q (swp f j q):=by
      obtain rfl:j=q+1:=U;rw[shiftDown,B,C]
     refine W.H6 o [(0,.ms 0 n 0 n),(1,J a),(2,J b),(3,m),(9,J (c:Nat)),(10,J (st:Nat)),(11,J (j:Nat))] I ?_;clear B C
     repeat apply Ξ
     refine W.draw (A:=[]) Ρ mixed λaq V=>V8 (Υ ab (Υ T (Υ D (Υ E (Υ H (Υ K (Υ v w))))))) ?_;refine Yl (aj x y) ?_;simp;(repeat (rw[ZK];simp));try rw[ZL]
     refine Y8 (V _ _ ?_);by_cases u:h x y<0
     .refine Ζ (by simp[u]) ?_;refine W.to (σ':=[.cells _ _ L]) (env':=[(0,.ms 0 n 0 n),(1,J a),(2,J b),(3,m),(9,J (c:Nat)),(10,J (st:Nat)),(11,J (j:Nat))]) ?_ rfl I
      repeat apply Ξ
      refine XI (Υ ab (Υ T (Υ D (Υ E (Υ H (Υ K (Υ Z (Υ v w)))))))) ?_;refine Γ ag ?_;exact W.to (ae (q,swp f j q) ⟨U,swp_size Y j q,by rw[<-M,P];simp[u,υ]⟩ ZD) (by rw[Q]) (by simp[ag])
     .refine Α (by simp[u]) ?_;refine W.exit rfl ?_;exact W.stop ⟨rfl,by rw[<-o,<-M,P];simp[u,υ],I⟩
    .have g:¬(1:Int)<=(j:Int):=U
     refine Γ g ?_;refine Ζ I ?_;refine W.exit rfl ?_;have e:shiftDown (υ h) j f=f:=by
      obtain rfl:j=0:=U;rfl
     exact W.stop ⟨rfl,by rw[<-M,e],I⟩
   .rw[if_neg af] at X;refine Ζ (by simp;omega) ?_;refine W.skip ?_;exact W.stop ⟨rfl,by rw[X],I⟩
  clear X;have aR:=Qq (a:=c) (b:=b) U U;have aS:=Yt (i:=c) U;have aF:=Yt (i:=st) U;obtain⟨ax,ad⟩:=Η (if b-c>=2 then shiftUp (υ h) b (c+1) Φ else Φ);rw[<-ad] at l;have aT:ax.size=n:=by rw[ad];split;exact BH (υ h) (b-(c+1)) (c+1) Φ (γ _) av;exact av
  refine Γ aR ?_;refine W.NU [(0,.ms 0 n 0 n),(1,J a),(2,J b),(3,m),(9,J (c:Nat)),(10,J (st:Nat))] (ax) [] ?_ ?_
  .clear l;by_cases af:2<=b-c
   .rw[if_pos af] at ad;refine Α (by simp;omega) ?_;refine Γ aS ?_;subst ad;refine W.iter (λq:Nat×Array (Int×Int)=>c+1<=q.1/\q.1<=b/\q.2.size=n/\shiftUp (υ h) b q.1 q.2=shiftUp (υ h) b (c+1) Φ) (λq=>[(0,.ms 0 n 0 n),(1,J a),(2,J b),(3,m),(9,J (c:Nat)),(10,J (st:Nat)),(12,J (q.1:Nat))]) (λq=>[.cells _ _ ((q.2).toList.map _)]) (λq=>b-q.1) (c+1,Φ) ⟨γ _,U,av,rfl⟩ rfl I (λq N ae=>?_);obtain⟨j,f⟩:=q;obtain⟨aw,aU,Y,M⟩:=N;simp only at aw aU Y M;refine W.to (σ':=[.cells _ _ ((f).toList.map _)]) (env':=[(0,.ms 0 n 0 n),(1,J a),(2,J b),(3,m),(9,J (c:Nat)),(10,J (st:Nat)),(12,J (j:Nat))]) ?_ rfl I;by_cases O:j<b
    .have g:(j:Int)<(b:Int):=U
     refine Γ g ?_;refine Α I ?_;obtain⟨q,N⟩:=Η (j-1);have ab:i64.wrap ((j:Int)-1)=(q:Int):=by rw[i64_in _ U];omega
     have ag:=Yt (i:=j) U
     have v:j<n:=U
     have w:q<n:=U;obtain⟨L,x,y,o,B,C,T,⟨D,E⟩,⟨H,K⟩,Q,aQ,Z⟩:=T1 enc Y v w;simp only[ak] at o D E H K Q Z;have P:shiftUp (υ h) b j f=if(!υ h x y)=true then f else shiftUp (υ h) b (j+1) (swp f j q):=by
      rw[shiftUp,if_pos O,<-N,B,C]
     refine W.H6 o [(0,.ms 0 n 0 n),(1,J a),(2,J b),(3,m),(9,J (c:Nat)),(10,J (st:Nat)),(12,J (j:Nat))] I ?_;clear B C
     repeat apply Ξ
     refine W.draw (A:=[]) Ρ mixed λaq V=>V8 (Υ ab (Υ T (Υ D (Υ E (Υ H (Υ K (Υ v w))))))) ?_;refine Yl (aj x y) ?_;simp;(repeat (rw[ZK];simp));try rw[ZL]
     refine Y8 (V _ _ ?_);by_cases u:h x y<0
     .refine Ζ (by simp[u]) ?_;refine W.to (σ':=[.cells _ _ L]) (env':=[(0,.ms 0 n 0 n),(1,J a),(2,J b),(3,m),(9,J (c:Nat)),(10,J (st:Nat)),(12,J (j:Nat))]) ?_ rfl I
      repeat apply Ξ
      refine XI (Υ ab (Υ T (Υ D (Υ E (Υ H (Υ K (Υ Z (Υ v w)))))))) ?_;refine Γ ag ?_;exact W.to (ae (j+1,swp f j q) ⟨U,U,swp_size Y j q,by rw[<-M,P];simp[u,υ]⟩ ZD) (by rw[Q]) (by simp[ag])
     .refine Α (by simp[u]) ?_;refine W.exit rfl ?_;exact W.stop ⟨rfl,by rw[<-o,<-M,P];simp[u,υ],I⟩
    .have g:¬(j:Int)<(b:Int):=U
     refine Γ g ?_;refine Ζ I ?_;refine W.exit rfl ?_;have e:shiftUp (υ h) b j f=f:=by rw[shiftUp,if_neg O]
     exact W.stop ⟨rfl,by rw[<-M,e],I⟩
   .rw[if_neg af] at ad;refine Ζ (by simp;omega) ?_;refine W.skip ?_;exact W.stop ⟨rfl,by rw[ad],I⟩
  refine Γ aF ?_;exact W.to (aI (st+1,c,ax) ⟨ZD,ZD,ZD,aT,by simp only;rw[show 5-(st+1)=4-st by omega];exact l⟩ ZD) rfl (by simp[aF])
theorem BD (S:Tz) (X:S=Wx\/S=Ww) (n:Nat) (bA:n<256) (C:Ω) (c:Int×Int->Int×Int->Int) (Y:ς 0 C) (Q:∀x y,XS prog C [S.enc x,S.enc y] (J (c x y))) (ak:SWO (υ c)):∀(k:Nat) (d:Array (Int×Int)) (a b j:Nat),d.size=n->b-a<=k->a<=b->b<=n->j<2 ^ 40->Go.Sort.Below (υ c) a b d->
  Μ prog S.sM [.ms 0 n 0 n,J a,J b,J j,C] [.cells S.t S.k ((d).toList.map S.enc)] (λr s=>r=.ZW []/\s=[.cells S.t S.k ((pdq (υ c) d a b j true true).toList.map S.enc)]) (λ_ _=>False):=by
 intro k
 induction k using Nat.strongRecOn with
 | _ k a0=>
 intro d a b j bl aA al D aB am;have bm:=sC S X;have bn:=sH S X;have bo:=sL S X;have bp:=sJ S X;have bq:=sK S X;have a1:=sB S X;have br:=sD S X;have bs:=sG S X;obtain⟨enc,bt⟩:=Η S.enc;rcases X with rfl|rfl
 all_goals dsimp only[Wx,Ww] at *
 refine Μ.body Ρ func211 rfl rfl ntmps211 rfl rfl I ?_
 rotate_left
 refine Μ.body Ρ func149 rfl rfl ntmps149 rfl rfl I ?_
 all_goals
  obtain⟨R,aJ⟩:=ZG (pdq (υ c) d a b j true true);rw[aJ];refine Τ ?_;refine W.iter (λq:BM (Int×Int)=>q.e.size=n/\q.a<=q.b/\q.b<=n/\q.b-q.a<=k/\q.lim<2 ^ 40/\Go.Sort.Below (υ c) q.a q.b q.e/\pdq (υ c) q.e q.a q.b q.lim q.wb q.wp=R) (λq=>[(0,.ms 0 n 0 n),(1,J (q.a:Nat)),(2,J (q.b:Nat)),(3,J (q.lim:Nat)),(4,C),(10,Z4 q.wb),(11,Z4 q.wp)]) (λq=>[.cells _ _ ((q.e).toList.map _)]) (λq=>q.b-q.a) ⟨a,b,j,true,true,d⟩ ⟨bl,al,D,aA,aB,am,aJ⟩ rfl I (λq bu aK=>?_);clear aJ am aB D al aA;obtain⟨a,b,j,wb,wp,e⟩:=q;obtain⟨an,al,D,aA,aB,am,ah⟩:=bu;simp only at an al D aA aB am ah;obtain⟨l,aL⟩:=Η (b-a);have w1:i64.wrap ((b:Int)-(a:Int))=(l:Int):=by rw[i64_in _ U];omega
  refine W.to (σ':=[.cells _ _ ((e).toList.map _)]) (env':=[(0,.ms 0 n 0 n),(1,J (a:Nat)),(2,J (b:Nat)),(3,J (j:Nat)),(4,C),(10,Z4 wb),(11,Z4 wp)]) ?_ rfl I;by_cases ai:b-a<=12
  .have g:(l:Int)<=12:=U
   refine Γ (Υ w1 g) ?_;refine Α I ?_;refine Z' λO o=>?_;refine Μ.call (first:=[]) (captured:=[]) ((bo e n a b an al D U C c Y Q).mono (λr s ⟨w,B⟩=>?_) (λ_ _ h=>h.elim));subst w;subst B;simp;(repeat (rw[Ν];simp));apply o;rw[pdq_small ai] at ah;exact W.ret ⟨_,rfl,rfl,by rw[<-ah]⟩
  have g:¬(l:Int)<=12:=U;refine Γ (Υ w1 g) ?_;refine Ζ I ?_;by_cases ad:j=0
  .have aM:(j:Int)=0:=U
   refine Γ aM ?_;refine Α (by simp[ad]) ?_;refine Z' λO o=>?_;refine Μ.call (first:=[]) (captured:=[]) ((bn e n a b an U U D C c Y Q).mono (λr s ⟨w,B⟩=>?_) (λ_ _ h=>h.elim));subst w;subst B;simp;(repeat (rw[Ν];simp));apply o;rw[pdq_heap ai ad] at ah;exact W.ret ⟨_,rfl,rfl,by rw[<-ah]⟩
  have aM:¬(j:Int)=0:=U;refine Γ aM ?_;refine Ζ (by simp[ad]) ?_;refine Τ ?_;have F:=rd_facts (limit:=j) (wb:=wb) (wp:=wp) ak partialInsertionSort_holds reverseRange_holds (by omega:a<b) U am;have a2:=rd_lim_le (lt:=(υ c)) (d:=e) (a:=a) (b:=b) (limit:=j) (wb:=wb) (wp:=wp);have aC:=λh:wb=false=>show(Go.Sort.rd (υ c) e a b j wb wp).d1=Go.Sort.breakPatterns e a b/\(Go.Sort.rd (υ c) e a b j wb wp).lim=j-1 by subst h;exact rd_false
  have aD:=λh:wb=true=>show(Go.Sort.rd (υ c) e a b j wb wp).d1=e/\(Go.Sort.rd (υ c) e a b j wb wp).lim=j by subst h;exact rd_true
  have aE:=rd_c (lt:=(υ c)) (d:=e) (a:=a) (b:=b) (limit:=j) (wb:=wb) (wp:=wp)
  have Fd:=rd_dec (lt:=(υ c)) (d:=e) (a:=a) (b:=b) (limit:=j) (wb:=wb) (wp:=wp)
  have Fn:=rd_not (lt:=(υ c)) (d:=e) (a:=a) (b:=b) (limit:=j) (wb:=wb) (wp:=wp)
  have ao:=rd_pi_yes (lt:=(υ c)) (d:=e) (a:=a) (b:=b) (limit:=j) (wb:=wb) (wp:=wp)
  have ap:=rd_pi_no (lt:=(υ c)) (d:=e) (a:=a) (b:=b) (limit:=j) (wb:=wb) (wp:=wp)
  have aq:=pdq_done (lt:=(υ c)) (d:=e) (wb:=wb) (wp:=wp) ai ad
  have N:=pdq_eq (lt:=(υ c)) (d:=e) (wb:=wb) (wp:=wp) ai ad
  have E:=pdq_left (lt:=(υ c)) (d:=e) (wb:=wb) (wp:=wp) ai ad
  have H:=pdq_right (lt:=(υ c)) (d:=e) (wb:=wb) (wp:=wp) ai ad;rw[ah] at aq N E H;obtain⟨r,a3⟩:=ZG (Go.Sort.rd (υ c) e a b j wb wp);rw[a3] at F a2 aC aD aE Fd Fn ao ap aq N E H;clear a3;obtain⟨d1,K,⟨aN,aO⟩,d2,T,ar,d3,done⟩:=r;simp only at F a2 aC aD aE Fd Fn ao ap aq N E H;obtain⟨aP,bB,bC,aQ,bD,Z,aa,a4⟩:=F;rw[an] at aP aQ aa;refine W.NU [(0,.ms 0 n 0 n),(1,J (a:Nat)),(2,J (b:Nat)),(3,J (K:Nat)),(4,C),(10,Z4 wb),(11,Z4 wp),(12,J (l:Nat))] (d1) [] ?_ ?_
  .cases wb with
   | false=>
    obtain⟨f1,f2⟩:=aC rfl;refine Α rfl ?_;refine Z' λO o=>?_;refine Μ.call (first:=[]) (captured:=[]) ((bm e n a b an U U U D C c Y Q).mono (λr s ⟨w,B⟩=>?_) (λ_ _ h=>h.elim));subst w;subst B;simp;(repeat (rw[Ν];simp));apply o;have au:=Wf (i:=j) U U;refine Tb au ?_;exact W.stop ⟨rfl,by rw[f1],by simp[f2]⟩
   | true=>
    obtain⟨f1,f2⟩:=aD rfl;refine Ζ rfl ?_;refine W.skip ?_;exact W.stop ⟨rfl,by rw[f1],by simp[f2]⟩
  have aR:=br d1 n a b aP U U D C c Y Q;rw[<-aE] at aR;simp only at aR;refine Z' λO o=>?_;refine Μ.call (first:=[]) (captured:=[]) ((aR).mono (λr s ⟨w,B⟩=>?_) (λ_ _ h=>h.elim));subst w;subst B;simp;(repeat (rw[Ν];simp));apply o;refine W.to (σ':=[.cells _ _ ((d1).toList.map _)]) (env':=[(0,.ms 0 n 0 n),(1,J (a:Nat)),(2,J (b:Nat)),(3,J (K:Nat)),(4,C),(10,Z4 wb),(11,Z4 wp),(12,J (l:Nat)),(13,J (aN:Nat)),(14,J (RV aO))]) ?_ rfl I;refine Τ ?_;refine W.NU [(0,.ms 0 n 0 n),(1,J (a:Nat)),(2,J (b:Nat)),(3,J (K:Nat)),(4,C),(10,Z4 wb),(11,Z4 wp),(12,J (l:Nat)),(13,J (T:Nat)),(14,J (RV ar))] (d2) [] ?_ ?_
  .by_cases hd:aO=.decreasing
   .obtain⟨f1,f2,f3⟩:=Fd hd;subst hd;refine Α rfl ?_;refine Z' λO o=>?_;refine Μ.call (first:=[]) (captured:=[]) ((bs d1 n a b aP U U D C c Y Q).mono (λr s ⟨w,B⟩=>?_) (λ_ _ h=>h.elim));subst w;subst B;simp;(repeat (rw[Ν];simp));apply o;have au:=Wf (i:=b) U U;have bv:=Qq (a:=a) (b:=aN) U U;have a5:=Qq (a:=aN-a) (b:=b-1) U U;rw[<-f2] at a5;refine W.seq ?_;refine Tb (Υ au (Υ bv a5)) ?_;refine VT ?_;exact W.stop ⟨rfl,by rw[f1],by simp[f3,RV]⟩
   .obtain⟨f1,f2,f3⟩:=Fn hd;refine Ζ (by cases aO with
     | decreasing=>exact absurd rfl hd
     | unknown=>rfl
     | increasing=>rfl) ?_
    refine W.skip ?_;exact W.stop ⟨rfl,by rw[f1],by simp[f2,f3]⟩
  repeat apply Ξ
  refine W.RA (A:=[]) Ρ [(75,Z4 (wb&&wp&&decide (ar=.increasing))),(0,.ms 0 n 0 n),(1,J (a:Nat)),(2,J (b:Nat)),(3,J (K:Nat)),(4,C),(10,Z4 wb),(11,Z4 wp),(12,J (l:Nat)),(13,J (T:Nat))] ?_ (by cases wb<;>cases wp<;>cases ar<;>simp[Ν,Td,RV])
  repeat apply Ξ
  rcases KF done with ab|ab
  .cases av:(wb&&wp&&decide (ar=.increasing)) with
   | true=>
    have f:=ao av;refine Α rfl ?_;have M:=a1 d2 n a b aQ U U D C c Y Q;rw[<-f] at M;simp only[ab] at M;refine Z' λO o=>?_;refine Μ.call (first:=[]) (captured:=[]) ((M).mono (λr s ⟨w,B⟩=>?_) (λ_ _ h=>h.elim));subst w;subst B;simp;(repeat (rw[Ν];simp));apply o;refine Α rfl ?_;exact W.ret ⟨_,rfl,rfl,by rw[aq ab]⟩
   | false=>
    have f:=(Prod.mk.inj (ap av)).2;rw[ab] at f;cases f
  refine W.NU [(0,.ms 0 n 0 n),(1,J (a:Nat)),(2,J (b:Nat)),(3,J (K:Nat)),(4,C),(10,Z4 wb),(11,Z4 wp),(12,J (l:Nat)),(13,J (T:Nat))] (d3) [] ?_ ?_
  .cases av:(wb&&wp&&decide (ar=.increasing)) with
   | true=>
    have f:=ao av;refine Α rfl ?_;have M:=a1 d2 n a b aQ U U D C c Y Q;rw[<-f] at M;simp only[ab] at M;refine Z' λO o=>?_;refine Μ.call (first:=[]) (captured:=[]) ((M).mono (λr s ⟨w,B⟩=>?_) (λ_ _ h=>h.elim));subst w;subst B;simp;(repeat (rw[Ν];simp));apply o;refine Ζ rfl ?_;refine W.skip ?_;exact W.stop ⟨rfl,rfl,I⟩
   | false=>
    have f1:=(Prod.mk.inj (ap av)).1;refine Ζ rfl ?_;refine W.skip ?_;exact W.stop ⟨rfl,by rw[f1],I⟩
  clear aq ao ap Fd Fn aE aC aD;have N:=N ab;have E:=E ab;have H:=H ab;obtain⟨P,ae⟩:=ZG ((decide (a > 0)&&!υ c d3[a-1]! d3[T]!):Bool);rw[ae] at N E H
  repeat apply Ξ
  refine W.M' (A:=[]) Ρ mixed [(97,Z4 P),(0,.ms 0 n 0 n),(1,J (a:Nat)),(2,J (b:Nat)),(3,J (K:Nat)),(4,C),(10,Z4 wb),(11,Z4 wp),(12,J (l:Nat)),(13,J (T:Nat))] ?_ (by
   by_cases aS:0<a
   .obtain⟨p,bw⟩:=Η (a-1);have a6:p<n:=U;have a7:T<n:=U;obtain⟨L,x,y,a8,V,a9,aL,⟨a',ba⟩,⟨bb,bc⟩,-,-⟩:=T1 enc aa a6 a7;simp only[bt] at a8 a' ba bb bc;have aT:P = !υ c x y:=by rw[<-ae,<-bw,V,a9];simp[aS]
    have aU:(0:Int)<(a:Int):=U
    have au:i64.wrap ((a:Int)-1)=(p:Int):=by rw[i64_in _ U];omega
    rw[a8];clear V a9;simp;(repeat (rw[ZK];simp[aS,aU,au,aL,a',ba,bb,bc,a6,a7]));(try rw[ZL]);refine Yl (Q x y) ?_;simp;(repeat (rw[ZK];simp));(try rw[ZL]);refine⟨XD (by kernel_rfl),?_⟩;simp[aT,υ]
   .have aT:P=false:=by rw[<-ae];simp[aS]
    have aU:a=0:=U;subst aU;simp;(repeat (rw[ZK];simp));(try rw[ZL]);refine⟨XD (by kernel_rfl),?_⟩;simp[aT])
  repeat apply Ξ
  rcases KF P with af|af
  .refine Α (by simp[af]) ?_;rw[af] at ae;simp only[Wt,decide_eq_true_eq,Ku] at ae;obtain⟨⟨mid,d4⟩,V⟩:∃r,Go.Sort.partitionEqual (υ c) d3 a b T=r:=⟨_,rfl⟩;obtain⟨ag,aw,aV,aF,-⟩:=round_eq ak (partitionEqual_holds _) ae.1 Z.1 Z.2 (by rw[aa];exact D) a4 ae.2 V;have N:=N af;rw[V] at N;have N:=N ⟨ag,aw⟩;simp only at N;have M:=bp d3 n a b T aa U Z.1 Z.2 D C c Y Q;rw[V] at M;simp only at M;refine Z' λO o=>?_;refine Μ.call (first:=[]) (captured:=[]) ((M).mono (λr s ⟨w,B⟩=>?_) (λ_ _ h=>h.elim));subst w;subst B;simp;(repeat (rw[Ν];simp));apply o;refine Τ ?_;refine W.exit rfl ?_;exact W.to (aK ⟨mid,b,K,wb,wp,d4⟩ ⟨aV.trans aa,aw,D,ZD,ZD,aF,N.symm⟩ ZD) rfl I
  refine Ζ (by simp[af]) ?_;obtain⟨⟨mid,bd,d4⟩,V⟩:∃r,Go.Sort.partition (υ c) d3 a b T=r:=⟨_,rfl⟩;obtain⟨ag,aw,aV,aF,aW,bx,be⟩:=round_part ak (partition_holds _) Z.1 Z.2 (by rw[aa];exact D) a4 V;have E:=E af;have H:=H af;rw[V] at E H;have E:=E ⟨ag,aw⟩;have H:=H ⟨ag,aw⟩;simp only at E H;have M:=bq d3 n a b T aa U Z.1 Z.2 D C c Y Q;rw[V] at M;simp only at M;have aG:d4.size=n:=aV.trans aa;obtain⟨u,bz⟩:=Η (mid-a);obtain⟨v,hv⟩:=Η (b-mid);obtain⟨aX,bf⟩:=Η (l / 8);obtain⟨ax,aH⟩:=Η (mid+1);have bg:i64.wrap ((mid:Int)-(a:Int))=(u:Int):=by rw[i64_in _ U];omega
  have bh:i64.wrap ((b:Int)-(mid:Int))=(v:Int):=by rw[i64_in _ U];omega
  have bi:i64.wrap ((l:Int) / 8)=(aX:Int):=by rw[bf];exact OZ (m:=8) U
  have bj:i64.wrap ((mid:Int)+1)=(ax:Int):=by rw[i64_in _ U];omega
  rw[<-bz,<-hv,<-aL,<-bf,<-aH] at E H;refine Z' λO o=>?_;refine Μ.call (first:=[]) (captured:=[]) ((M).mono (λr s ⟨w,B⟩=>?_) (λ_ _ h=>h.elim));subst w;subst B;simp;(repeat (rw[Ν];simp));apply o;by_cases bk:u<v
  .have aY:(u:Int)<(v:Int):=U
   refine Γ (Υ bg (Υ bh (Υ bi @aY))) ?_;refine Α I ?_;obtain⟨aj,aI⟩:=pdq_sorts (υ c) ak d4 a mid K true true ag U aF;have ay:=a0 (mid-a) U d4 a mid K aG (γ _) ag U U aF;have E:=E bk;obtain⟨B',-⟩:=bx _ aj aI;have az:=aj.1.trans aG;obtain⟨Φ,aZ⟩:=ZG (pdq (υ c) d4 a mid K true true);rw[aZ] at ay E B' az;refine Z' λO o=>?_;apply o;refine Z' λO o=>?_;refine Μ.call (first:=[]) (captured:=[]) ((ay).mono (λr s ⟨w,B⟩=>?_) (λ_ _ h=>h.elim));subst w;subst B;simp;(repeat (rw[Ν];simp));apply o;refine Γ bj ?_;exact W.to (aK ⟨ax,b,K,decide (u>=aX),bd,Φ⟩ ⟨az,ZD,D,ZD,ZD,by simp only;rw[aH];exact B',E.symm⟩ ZD) rfl I
  .have aY:¬(u:Int)<(v:Int):=U
   refine Γ (Υ bg (Υ bh (Υ bi @aY))) ?_;refine Ζ I ?_;obtain⟨aj,aI⟩:=pdq_sorts (υ c) ak d4 (mid+1) b K true true U U aW;rw[<-aH] at aj aI aW;have ay:=a0 (b-ax) U d4 ax b K aG (γ _) U D U aW;have H:=H bk;rw[<-aH] at be;obtain⟨B',-⟩:=be _ aj aI;have az:=aj.1.trans aG;obtain⟨Φ,aZ⟩:=ZG (pdq (υ c) d4 ax b K true true);rw[aZ] at ay H B' az;refine Z' λO o=>?_;apply o;refine XB bj λO o=>?_;refine Μ.call (first:=[]) (captured:=[]) ((ay).mono (λr s ⟨w,B⟩=>?_) (λ_ _ h=>h.elim));subst w;subst B;simp;(repeat (rw[Ν];simp));apply o;refine Τ ?_;exact W.to (aK ⟨a,mid,K,decide (v>=aX),bd,Φ⟩ ⟨az,ag,ZD,ZD,ZD,B',H.symm⟩ ZD) rfl I
theorem FI {α:Type} [Inhabited α] {lt:α->α->Bool} (a:SWO lt) (b:∀x y,lt x y=false->lt y x=false->x=y) (l:List α):(pdq lt l.toArray 0 l.length (bitsLen l.length) true true).toList=l.mergeSort (λx y=>!lt y x):=by
 obtain⟨c,d⟩:=pdq_sorts lt a l.toArray 0 l.length (bitsLen l.length) true true (χ _) I (.inl rfl);exact sorted_unique_holds (lt:=lt) a b l.toArray _ (by simpa using c) (by simpa using d)
theorem sA:IV 49:=λl u=>by
 obtain⟨b,c⟩:=Η (.fn (.func 174) [] []:Ω);have g:ς 0 b:=by rw[c];simp[Va]
 have i:∀x y,XS prog b [Zj x,Zj y] (J (UH x y)):=λx y=>by rw[c];exact Ε.p (Dx x y) (ZM.refl _) I I
 obtain⟨n,a⟩:=Η l.length;have v:bitsLen n<=6:=(bitsLen_le_iff n 6).2 U;have h:=BD Wx (.inl rfl) n U b UH g i Pg n l.toArray 0 n (bitsLen n) (by simp[a]) U U (γ _) U (.inl rfl);dsimp only[Wx] at h;have f:=FI Pg IY l;rw[<-a] at f;have e:(λx y:Int×Int=>!υ UH y x)=X4:=rfl;rw[f,e] at h;rw[<-c,<-a];clear f e;have w:(l.map Zj).length=n:=by rw[Yp,a]
 refine Μ.body Ρ func173 rfl rfl ntmps173 rfl rfl I ?_;have j:=Yg (show n<2 ^ 62 by omega);have Φ:u64.wrap (n:Int)=n:=Qr U;have k:=a.symm;refine Γ k ?_;(repeat apply Ξ);refine Y9 λA m=>?_;simp;(repeat (rw[Ν];simp[j,Φ]));refine Ε.d (QK n U) (Z6 ?_);refine Μ.call (first:=[]) (captured:=[]) (h.mono (λr s ⟨o,t⟩=>?_) (λ_ _ h=>h.elim));subst o;subst t;simp;(repeat (rw[Ν];simp));apply m;exact W.nil ⟨_,rfl,rfl,rfl⟩
def BC (N:Nat):Prop:=∀(l:List (Int×Int)),l.length<=N->Μ prog 117 [.ms 0 l.length 0 l.length,.fn (.func 118) [] []] [.cells 29 1 (l.map YP)] (λr s=>r=.ZW []/\s=[.cells 29 1 ((l.mergeSort X4).map YP)]) (λ_ _=>False)
theorem sz (x y:Int×Int):XS prog (.fn (.func 118) [] []) [YP x,YP y] (J (UH x y)):=Ε.p (GM [x.1,x.2] [y.1,y.2] I) (.cons .ex (.cons .ex .nil)) I I
theorem sy:BC 255:=λl t=>by
 obtain⟨b,c⟩:=Η (.fn (.func 118) [] []:Ω);have g:ς 0 b:=by rw[c];simp[Va]
 have i:∀x y,XS prog b [YP x,YP y] (J (UH x y)):=λx y=>by rw[c];exact sz x y
 obtain⟨n,a⟩:=Η l.length;have u:bitsLen n<=8:=(bitsLen_le_iff n 8).2 U;have h:=BD Ww (.inr rfl) n U b UH g i Pg n l.toArray 0 n (bitsLen n) (by simp[a]) U U (γ _) U (.inl rfl);dsimp only[Ww] at h;have f:=FI Pg IY l;rw[<-a] at f;have e:(λx y:Int×Int=>!υ UH y x)=X4:=rfl;rw[f,e] at h;rw[<-c,<-a];clear f e;have v:(l.map YP).length=n:=by rw[Yp,a]
 refine Μ.body Ρ func117 rfl rfl ntmps117 rfl rfl I ?_;have j:=Yg (show n<2 ^ 62 by omega);have Φ:u64.wrap (n:Int)=n:=Qr U;have k:=a.symm;refine Γ k ?_;(repeat apply Ξ);refine Y9 λw m=>?_;simp;(repeat (rw[Ν];simp[j,Φ]));refine Ε.d (QK n U) (Z6 ?_);refine Μ.call (first:=[]) (captured:=[]) (h.mono (λr s ⟨o,p⟩=>?_) (λ_ _ h=>h.elim));subst o;subst p;simp;(repeat (rw[Ν];simp));apply m;exact W.nil ⟨_,rfl,rfl,rfl⟩
structure KZ (s:ψ) (F:List Found) (lower:Bool) (N:Nat):Prop where
 Ut:F.length<2 ^ 20
 cells:∀f∈F,f.cells.length=s.cells.length/\∀c∈f.cells,c.length<2 ^ 20
 some:∀c,c<s.cells.length->Xo F c lower≠[]/\(Xo F c lower).length<=N
theorem My (d:Zk) {a b:Int} (h:a<=b) (c:-1000<a) (e:b<1000):a<=S2 d a b/\S2 d a b<=b:=by
 unfold S2;rw[i64_in (b-a) U];obtain⟨t0,t1⟩:=Sx d (b-a) U U;generalize WU d (b-a)=x at t0 t1;rw[i64_in (a+x) U];omega
theorem sx (l:List Int) (k:Nat) (x:Int):(RX l k x).Perm (x::l):=by
 unfold RX;have h:(l.take k++x::l.drop k).Perm (x::(l.take k++l.drop k)):=List.perm_middle
 rwa [OP] at h
theorem FH (d:Zk) (n:Nat):(Xb d n).1.Perm ((List.range n).map λ(i:Nat)=>(i:Int)):=by
 induction n with
 | zero=>exact .refl _
 | succ n a=>
  show(RX _ _ _).Perm _;refine(sx _ _ _).trans ?_;rw[V0,Yc];refine(List.Perm.cons _ a).trans ?_;exact(List.perm_append_singleton _ _).symm
theorem H4 {d:Zk} {n:Nat} {x:Int} (h:x∈(Xb d n).1):0<=x/\x<n:=by
 have:=(FH d n).mem_iff.1 h;obtain⟨i,hi,rfl⟩:=Zq.1 this;have:=Ws.1 hi;omega
theorem H3 (d:Zk) (n:Nat):(Xb d n).1.Nodup:=by
 refine(FH d n).nodup_iff.2 ?_;unfold List.Nodup;rw[Kw];exact Mm.imp λh e=>h U
structure RU (l:List T9):Prop where
 lo:1<=l.length
 hi:l.length<=6
 each:∀g∈l,PQ g.name=false/\1<=g.X0/\g.X0<=63
 BB:l.Pairwise λa b=>P6 b.name a.name=false
 apart:l.Pairwise λa b=>a.X0≠b.X0
theorem KY {l:List Int} (h:∀x∈l,x=0):VA l=0:=by
 induction l with
 | nil=>rfl
 | cons x l a=>
  have:=h x I;subst this;simp[VA];exact a λy b=>h y (by simp[b])
theorem RU.err {l:List T9} (h:RU l):SG l=0:=by
 unfold SG;have g:=h.lo;have k:=h.hi;rw[if_neg U,if_neg U];refine KY λx c=>?_;obtain⟨i,hi,rfl⟩:=Zq.1 c;have hi:=Ws.1 hi;unfold Ry;rw[δ hi];obtain⟨d,Φ,m⟩:=h.each _ (YF hi);simp only;rw[if_neg (by rw[d];simp),if_neg,if_neg U,if_neg]
 .intro e;obtain⟨y,f,b⟩:=Kp.1 e;obtain⟨j,n,rfl⟩:=List.mem_take_iff_getElem.1 f;have:=Q'.1 h.apart j i U hi U;simp at b;exact this b
 .rintro⟨o,a⟩;rw[δ U] at a;have:=Q'.1 h.BB (i-1) i U hi U;simp only[Option.map_some,Option.getD_some] at a;rw[a] at this;cases this
def Ti (i:Nat):ByteArray:=⟨#[[97,98,99,100,111,122].getD i 0]⟩
def Vl:List Int:=[4,9,6,12,48,8,3,16,5,10,20]
def UE (a:List Int) (b:Int) (i:Nat):T9:=⟨Ti i,(Vl++[b]).getD ((a.getD i 0).toNat) 0⟩
structure Made (a:List Int):Prop where
 len:a.length=11
 mem:∀x∈a,0<=x/\x<11
 nodup:a.Nodup
theorem sw (d:Zk):Made (Xb d 11).1:=⟨K3 d 11,λ_ h=>H4 h,H3 d 11⟩
theorem Made.get {a:List Int} (h:Made a) {i:Nat} (hi:i<11):∃k:Nat,k<11/\a[i]?=some (k:Int)/\∀c,(Vl++[c])[k]?=some (Vl.getD k 0)/\1<=Vl.getD k 0/\Vl.getD k 0<=63:=by
 have d:=h.len
 have e:=h.mem _ (YF (l:=a) (n:=i) U);refine⟨(a[i]).toNat,U,by rw[δ U];congr 1;omega,λc=>?_⟩;have b:(a[i]).toNat<11:=U;generalize (a[i]).toNat=k at b;rw[YK (by simpa[Vl] using b)];have:∀k<11,Vl[k]?=some (Vl.getD k 0)/\1<=Vl.getD k 0/\Vl.getD k 0<=63:=ZY;exact this k b
theorem su:∀a<11,∀b<11,Vl.getD a 0=Vl.getD b 0->a=b:=ZY
theorem ss:∀i<6,PQ (Ti i)=false:=by decide +kernel
theorem sr:∀j<6,∀i<j,P6 (Ti j) (Ti i)=false:=by decide +kernel
theorem H2 {a:List Int} (h:Made a) (b:Int) {i:Nat} (hi:i<11):∃k:Nat,k<11/\a[i]?=some (k:Int)/\(UE a b i).X0=Vl.getD k 0/\1<=Vl.getD k 0/\Vl.getD k 0<=63:=by
 obtain⟨k,d,c,e⟩:=h.get hi;obtain⟨f,g,j⟩:=e b;refine⟨k,d,c,?_,g,j⟩;unfold UE;rw[show a.getD i 0=(k:Int) from by rw[Xr,c];rfl,Int.toNat_natCast];show(Vl++[b]).getD k 0=_;rw[Xr,f];rfl
theorem so {d:List Int} (h:Made d) (c:Int) {i j:Nat} (hi:i<11) (f:j<11) (e:(UE d c i).X0=(UE d c j).X0):i=j:=by
 obtain⟨a,g,k,l,_⟩:=H2 h c hi;obtain⟨b,m,n,o,_⟩:=H2 h c f;rw[l,o] at e;have:=su a g b m e;subst this;have p:=h.len;exact(List.getElem?_inj U h.nodup).1 (k.trans n.symm)
theorem sn {m:List Int} (h:Made m) (l:Int) {d:List Nat} (n:d.Pairwise (· < ·)) (f:∀j∈d,j<6) (p:1<=d.length) (r:d.length<=6):RU (d.map (UE m l)):=by
 refine⟨by simpa using p,by simpa using r,λg s=>?_,?_,?_⟩
 .obtain⟨j,t,rfl⟩:=Zq.1 s;have:=f j t;obtain⟨k,_,_,e,u,Φ⟩:=H2 h l (i:=j) U;exact⟨ss j this,U,U⟩
 .rw[Kw];refine(KM.2 λ{a b} c=>?_);have o:=(KM.1 n) c;exact sr b (f b (c.subset I)) a o
 .rw[Kw];refine(KM.2 λ{a b} c=>λe=>?_);have o:=(KM.1 n) c;have v:=f a (c.subset I);have w:=f b (c.subset I);have:=so h l U U e;omega
theorem RU.set {l:List T9} (h:RU l) {k:Nat} (y:k<l.length) {x:Int} (t:1<=x) (u:x<=63) (o:∀g∈l,g.X0≠x):RU (l.set k ⟨l[k].name,x⟩):=by
 have get:∀(i:Nat) (hi:i<(l.set k ⟨l[k].name,x⟩).length),(l.set k ⟨l[k].name,x⟩)[i].name=(l[i]'(by simpa using hi)).name/\((l.set k ⟨l[k].name,x⟩)[i].X0=x/\i=k\/(l.set k ⟨l[k].name,x⟩)[i].X0=(l[i]'(by simpa using hi)).X0/\i≠k):=by
  intro i hi;rw[List.getElem_set];split
  .rename_i e;subst e;exact⟨rfl,.inl ⟨rfl,rfl⟩⟩
  .rename_i e;exact⟨rfl,.inr ⟨rfl,λh=>e h.symm⟩⟩
 refine⟨by simpa using h.lo,by simpa using h.hi,λg v=>?_,?_,?_⟩
 .obtain⟨i,hi,rfl⟩:=OO v;obtain⟨f,Φ⟩:=get i hi;obtain⟨a,b,c⟩:=h.each _ (YF (l:=l) (n:=i) (by simpa using hi));rw[f];rcases Φ with⟨Φ,_⟩|⟨Φ,_⟩<;>rw[Φ]
  .exact⟨a,t,u⟩
  .exact⟨a,b,c⟩
 .rw[Q'];intro i j hi d m;rw[(get i hi).1,(get j d).1];exact Q'.1 h.BB i j (by simpa using hi) (by simpa using d) m
 .rw[Q'];intro i j hi d m;have p:i<l.length:=by simpa using hi
  have r:j<l.length:=by simpa using d
  rcases(get i hi).2 with⟨f,Φ⟩|⟨f,Φ⟩<;>rcases(get j d).2 with⟨s,w⟩|⟨s,w⟩<;>rw[f,s]
  .omega
  .exact λe=>o _ (YF r) e.symm
  .exact λe=>o _ (YF p) e
  .exact Q'.1 h.apart i j p r m
def RS (g:FuncId) (args:κ) (d:Zk) (R:Ω->Prop):Prop:=Μ prog g (.Κ 0 1 0 0::args) [ZH d] (λa s=>∃r b,Zh a r/\R r/\s=[ZH b]/\b.Z0.length<=d.Z0.length) (λ_ _=>False)
theorem RS.c {g:FuncId} {args f:κ} {d:Zk} {R:Ω->Prop} {σ:Ο} {K E:Ω->Ο->Prop} (h:RS g args d R) (id:Nat) (m:σ[id]?=some (ZH d)) (n:ZM f args) (k:∀a∈f,ς 0 a) (l:∀r,R r->ς 0 r) (o:∀r b,R r->b.Z0.length<=d.Z0.length->K r (σ.set id (ZH b))):WA prog (.fn (.func g) [] []) (.Κ id 1 0 0::f) σ K E:=by
 refine Μ.I1 (as0:=.Κ 0 1 0 0::f) (K0:=λa s=>∃b,R a/\s=[ZH b]/\b.Z0.length<=d.Z0.length) (Μ.T' h (.cons (.refl _) n) λa s ⟨r,b,e,i,j,p⟩=>⟨r,e,b,i,j,p⟩) id m (RZ d) ?_ ?_ ?_
 .intro a hm;rcases Y6.1 hm with rfl|hm
  .exact Nat.zero_lt_one
  .exact(k a hm).Wh 1
 .rw[Xg,BS k];rfl
 .rintro a s ⟨b,e,i,j⟩;exact⟨ZH b,i,RZ b,(l a e).Wh 1,by rw[(l a e).Yx];exact o a b e j⟩
section
variable {P:Program} {m nt:Nat} {k:List Item} {env:ω} {Z:X7} {E:Yn}
theorem W.BA {d:Zk} {t kk n:Nat} {l:κ} {x:Nat} (f:m<=1) (g:l.length=n) (h:∀e∈l,∀a∈e.cells,ς 0 a) (hd:Z7 env x=.ms 1 n 0 n) (i:W P m nt k [(x,.sl false kk l)] [ZH d] Z E):W P m nt k env [ZH d,.cells t kk l] Z E:=
 W.cut 1 f [(x,.sl false kk l)] I (λid r s b=>by
  have:id=0:=U;subst this;simp at b;subst b;exact TA d 1) (λp c=>by
  simp at c;subst c;show Ym 1 _ (Z7 env x) _;rw[hd];exact .own (t:=t) (γ _) rfl g (λe j a o=>(h e j a o).mono (χ _))) (by simpa using i)
end
theorem Ty {l:List T9}:∀e∈l.map XW,∀a∈e.cells,ς 0 a:=λe c a b=>by
 obtain⟨x,_,rfl⟩:=Zq.1 c;simp[Ω.cells] at b;rcases b with rfl|rfl<;>exact .z _
def Mx:List ByteArray:=[⟨#[97]⟩,⟨#[98]⟩,⟨#[99]⟩,⟨#[100]⟩,⟨#[111]⟩,⟨#[122]⟩]
theorem sm:∀i<6,Mx[i]?=some (Ti i):=ZY
structure Bz where
 i:Nat
 d:Zk
 XQ:List Nat
theorem sk (d:Zk) (hd:d.Z0.length<2 ^ 63) (H:Nat) (bn:1<=H) (bo:H<=6):RS 128 [J H] d (λr=>∃l,r=ν l/\RU l/\l.length<=H):=by
 unfold RS;refine Μ.body Ρ func128 rfl rfl ntmps128 rfl rfl I ?_;refine Τ ?_;obtain⟨aD,l1⟩:=My d (a:=1) (b:=63) ZY ZY ZY;obtain⟨m,aE⟩:=ZG (S2 d 1 63);obtain⟨d1,aF⟩:=ZG (d.after (i64.wrap (63-1)));have a7:d1.Z0.length<=d.Z0.length:=by rw[<-aF];exact VN _ _
 have aG:=MG d hd 1 63;rw[aE,aF] at aG;rw[aE] at aD l1;refine Z' λag K=>?_;refine YM.g (aG) (Z6 ?_);apply K
 repeat apply Ξ
 have aH:=H9 d1 U 11 ZY
 have Z:=sw d1
 have aI:=X' (K4 d1 11) a7;obtain⟨v,aJ⟩:=ZG ((Xb d1 11).1);obtain⟨d2,aK⟩:=ZG ((Xb d1 11).2);rw[aJ] at Z;rw[aJ,aK] at aH;rw[aK] at aI;refine Z' λag K=>?_;refine YM.g (aH) (Z6 ?_);apply K;refine Τ ?_;obtain⟨a8,a9⟩:=My d2 (a:=1) (b:=H) U ZY U;obtain⟨n,aL⟩:∃n:Nat,S2 d2 1 H=n:=⟨(S2 d2 1 H).toNat,U⟩;rw[aL] at a8 a9;obtain⟨d3,aM⟩:=ZG (d2.after (i64.wrap ((H:Int)-1)));have a':d3.Z0.length<=d.Z0.length:=by rw[<-aM];exact X' (VN _ _) aI
 have aN:=MG d2 U 1 H;rw[aL,aM] at aN;refine Z' λag K=>?_;refine YM.g (aN) (Z6 ?_);apply K;refine Τ ?_;have u:Mx.length=6:=rfl;have ah:(Vl++[m]).length=12:=by simp[Vl]
 obtain⟨O,ai⟩:=Η (Vl++[m]);rw[<-ai] at ah;have ba:∀f:List Nat,(f.map (UE v m)).length=f.length:=λf=>Yp _;refine W.iter (λx:Bz=>x.i<=6/\x.d.Z0.length<=d.Z0.length/\x.XQ.Pairwise (· < ·)/\(∀j∈x.XQ,j<x.i)/\x.XQ.length<=n/\n+x.i<=6+x.XQ.length)
  (λx=>[(0,.Κ 0 1 0 0),(5,.sl true 1 (Mx.map Tc)),(6,.sl true 1 (O.map J)),(7,Z9 J 1 v),(8,ZV 1 ((x.XQ.map (UE v m)).map XW)),(9,J n),(10,J x.i)])
  (λx=>ZH x.d::η 77 2 ((x.XQ.map (UE v m)).map XW)) (λx=>6-x.i) ⟨0,d3,[]⟩ ⟨I,a',I,I,I,by simp;omega⟩ rfl (by rw[ai];intro p aO;simp only[Y6,Ya,or_false] at aO;rcases aO with rfl|rfl|rfl|rfl|rfl|rfl|rfl<;>rfl) (λx au aj=>?_)
 obtain⟨i,B,f⟩:=x;obtain⟨bb,av,ak,aa,aP,bc⟩:=au;simp only at bb av ak aa aP bc aj ⊢;obtain⟨G,S⟩:=Η (f.map (UE v m));have o:G.length=f.length:=by rw[S];exact ba f
 rw[<-S];have T:(ZV 1 (G.map XW)=.sl true 0 []/\η 77 2 (G.map XW)=[]/\f.length=0)\/(ZV 1 (G.map XW)=.ms 1 f.length 0 f.length/\η 77 2 (G.map XW)=[.cells 77 2 (G.map XW)]/\0<f.length):=by
  by_cases V:G=[]
  .subst V;exact .inl ⟨rfl,rfl,by simpa using o.symm⟩
  .have aQ:G.map XW≠[]:=by simpa using V
   refine .inr ⟨by rw[XR aQ,Yp,o],YZ aQ,?_⟩;have:=RQ.2 V;omega
 repeat apply Ξ
 refine W.XV (A:=[]) Ρ [(35,Z4 (decide (i<6)&&decide (f.length<n))),(0,.Κ 0 1 0 0),(5,.sl true 1 (Mx.map Tc)),(6,.sl true 1 (O.map J)),(7,Z9 J 1 v),(8,ZV 1 (G.map XW)),(9,J n),(10,J i)] (ZH B::η 77 2 (G.map XW)) ?_ (by
  by_cases hi:i<6
  .have al:(i:Int)<6:=U
   rcases T with⟨s,Φ,t⟩|⟨s,Φ,t⟩
   .rw[s,Φ];(try simp);(repeat (rw[Ν];simp[al,u,t,hi]));(try simp[al,u,t,hi])
   .rw[s,Φ];(try simp);(repeat (rw[Ν];simp[al,u,o,hi]));(try simp[al,u,o,hi])
  .have hi:i=6:=U
   subst hi;rcases T with⟨s,Φ,t⟩|⟨s,Φ,t⟩
   .rw[s,Φ];(try simp);(repeat (rw[Ν];simp[u]));(try simp[u])
   .rw[s,Φ];(try simp);(repeat (rw[Ν];simp[u]));(try simp[u]))
 refine W.Yv rfl (λN=>?_) (λN=>?_)
 .simp only[Wt,decide_eq_true_eq] at N;obtain⟨hi,aR⟩:=N;have E:i64.wrap (6-(i:Int))=6-i:=i64_in _ U;have D:i64.wrap ((n:Int)-f.length)=n-f.length:=i64_in _ U;have L:i64.wrap ((i:Int)+1)=((i+1:Nat):Int):=by rw[i64_in _ U];omega
  repeat apply Ξ
  have aw:B.Z0.length<2 ^ 63:=U
  have X:=FU B aw 3 ZY ZY;obtain⟨ax,ay⟩:=ZG (NV B 3);obtain⟨ab,ad⟩:=ZG (B.after (3-1));have bd:ab.Z0.length<=d.Z0.length:=by rw[<-ad];exact X' (VN _ _) av
  rw[ay,ad] at X;obtain⟨w,M⟩:∃x,x=if(n:Int)-f.length<6-i then ab else B:=⟨_,rfl⟩
  have ae:w.Z0.length<=d.Z0.length:=by rw[M];split<;>assumption
  refine W.XV (A:=[]) Ρ [(50,Z4 (decide ((n:Int)-f.length<6-i)&&ax)),(0,.Κ 0 1 0 0),(5,.sl true 1 (Mx.map Tc)),(6,.sl true 1 (O.map J)),(7,Z9 J 1 v),(8,ZV 1 (G.map XW)),(9,J n),(10,J i)] (ZH w::η 77 2 (G.map XW)) ?_ (by
   by_cases C:(n:Int)-f.length<6-i
   .rw[if_pos C] at M;rw[M];rcases T with⟨s,Φ,t⟩|⟨s,Φ,t⟩
    .rw[s,Φ];rw[t] at C D;simp only[Int.natCast_zero,Int.sub_zero] at C D;(try simp);(repeat (rw[Ν];simp[u,E,D,C,t]));(try simp[u,E,D,C,t]);refine YM.c (X) 0 rfl (ZM.refl _) I I ?_;simp;(repeat (rw[Ν];simp));(try simp)
    .rw[s,Φ];(try simp);(repeat (rw[Ν];simp[u,E,D,C,o]));(try simp[u,E,D,C,o]);refine YM.c (X) 0 rfl (ZM.refl _) I I ?_;simp;(repeat (rw[Ν];simp));(try simp)
   .rw[if_neg C] at M;rw[M];rcases T with⟨s,Φ,t⟩|⟨s,Φ,t⟩
    .rw[s,Φ];rw[t] at C D;simp only[Int.natCast_zero,Int.sub_zero] at C D;(try simp);(repeat (rw[Ν];simp[u,E,D,C,t]));(try simp[u,E,D,C,t])
    .rw[s,Φ];(try simp);(repeat (rw[Ν];simp[u,E,D,C,o]));(try simp[u,E,D,C,o]))
  refine W.Yv rfl (λY=>?_) (λY=>?_)
  .simp only[Wt,decide_eq_true_eq] at Y;refine W.exit rfl ?_;refine Γ L ?_;refine W.to (aj ⟨i+1,w,f⟩ ⟨by show i+1<=6;omega,ae,ak,λj F=>by have:=aa j F;show j<i+1;omega,aP,by show n+(i+1)<=6+f.length;omega⟩ (by show 6-(i+1)<6-i;omega)) (by rw[S]) ?_;rw[<-S];simp[L]
  .have am:n+i+1<=6+f.length+1:=U
   obtain⟨k,az,af,P⟩:=Z.get (i:=i) U;obtain⟨P,_,_⟩:=P m;have an:UE v m i=⟨Ti i,Vl.getD k 0⟩:=by
    obtain⟨be,_,aS,e,_⟩:=H2 Z m (i:=i) U;rw[af] at aS;have bf:be=k:=by have:=Xk aS;omega
    subst bf;show(⟨Ti i,(UE v m i).X0⟩:T9)=_;rw[e]
   obtain⟨st,aT⟩:=ZG (Vl.getD k 0);rw[aT] at an;rw[aT,<-ai] at P;have ao:=sm i hi;have aU:∀h,Mx[i]'h=Ti i:=λh=>by rw[δ h] at ao;exact Xk ao
   have aV:∀h,v[i]'h=(k:Int):=λh=>by rw[δ h] at af;exact Xk af
   have aW:∀h,O[k]'h=st:=λh=>by rw[δ h] at P;exact Xk P
   have aX:=Z.len
   have ap:(G++[UE v m i])=(f++[i]).map (UE v m):=by rw[S];simp
   repeat apply Ξ
   have aq:(G++[UE v m i]).map XW≠[]:=I
   have aY:(⟨i+1,w,f++[i]⟩:Bz).i<=6/\w.Z0.length<=d.Z0.length/\(f++[i]).Pairwise (· < ·)/\(∀j∈f++[i],j<i+1)/\(f++[i]).length<=n/\n+(i+1)<=6+(f++[i]).length:=by
    refine⟨hi,ae,?_,?_,?_,?_⟩
    .rw[NJ];exact⟨ak,I,λa bg b aZ=>by simp at aZ;subst aZ;exact aa a bg⟩
    .intro j F;rcases Wd.1 F with F|F
     .have:=aa j F;omega
     .simp at F;omega
    .simp;omega
    .simp;omega
   rcases T with⟨s,Φ,t⟩|⟨s,Φ,t⟩
   .rw[s,Φ];refine W.draw (A:=[65]) Ρ mixed λag K=>V8 (Υ u (Υ ah (Υ aX (Υ ao (Υ aU (Υ af (Υ aV (Υ P aW)))))))) ?_;refine⟨U,U,U,?_⟩;refine Y8 (K _ _ ?_);refine Γ L ?_;have V:G=[]:=YL.1 U;refine W.to (aj ⟨i+1,w,f++[i]⟩ aY (by show 6-(i+1)<6-i;omega)) ?_ ?_
    .have e:η 77 2 (((f++[i]).map (UE v m)).map XW)=[.cells 77 2 [XW ⟨Ti i,st⟩]]:=by rw[<-ap,YZ aq,V,an];rfl
     simp only[e]
    .have e:ZV 1 (((f++[i]).map (UE v m)).map XW)=.ms 1 1 0 1:=by rw[<-ap,XR aq,V,an];rfl
     simp only[e];simp[L]
   .rw[s,Φ];refine W.draw (A:=[65]) Ρ mixed λag K=>V8 (Υ u (Υ ah (Υ aX (Υ ao (Υ aU (Υ af (Υ aV (Υ P (Υ aW o))))))))) ?_;refine⟨U,U,U,U,?_⟩;refine Y8 (K _ _ ?_);refine Γ L ?_;refine W.to (aj ⟨i+1,w,f++[i]⟩ aY (by show 6-(i+1)<6-i;omega)) ?_ ?_
    .have e:η 77 2 (((f++[i]).map (UE v m)).map XW)=[.cells 77 2 (G.map XW++[XW ⟨Ti i,st⟩])]:=by rw[<-ap,YZ aq,Yc,an];rfl
     simp only[e]
    .have e:ZV 1 (((f++[i]).map (UE v m)).map XW)=.ms 1 (f.length+1) 0 (f.length+1):=by rw[<-ap,XR aq,Yp,VK,o];rfl
     simp only[e];simp[L]
 .have aR:f.length=n:=by
   simp only[Bool.and_eq_false_iff,decide_eq_false_iff_not] at N;omega
  refine W.exit rfl ?_;rcases T with⟨s,Φ,t⟩|⟨s,Φ,t⟩
  .omega
  rw[aR] at s o;have a0:RU G:=by rw[S];exact sn Z m ak (λj F=>by have:=aa j F;omega) U U
  have aA:O[11]?=some m:=by rw[ai];rfl
  have bh:∀h,O[11]'h=m:=λh=>by rw[δ h] at aA;exact Xk aA
  refine W.to (env':=[(0,.Κ 0 1 0 0),(6,.sl true 1 (O.map J)),(8,.ms 1 n 0 n),(9,J n)]) (σ':=[ZH B,.cells 77 2 (G.map XW)]) ?_ (by rw[Φ]) (by rw[s];simp);have bi:i64.wrap 11=11:=ZY;refine Γ (Υ ah (Υ aA (Υ bh bi))) ?_;refine W.iter (λx:Nat×Bool=>x.1<=n/\(x.2=true->∀g∈G.take x.1,g.X0≠m)) (λx=>[(0,.Κ 0 1 0 0),(8,.ms 1 n 0 n),(11,J m),(12,Z4 x.2),(13,J x.1)]) (λ_=>[ZH B,.cells 77 2 (G.map XW)]) (λx=>n-x.1) (0,true) ⟨χ _,I⟩ rfl I (λx au a1=>?_);obtain⟨j,ο⟩:=x;obtain⟨F,am⟩:=au;simp only at F am a1 ⊢;refine Γ o ?_;refine W.Yv rfl (λN=>?_) (λN=>?_)
  .have a2:j<n:=by simpa using N
   have aB:G[j]?=some (G[j]'U):=δ U;obtain⟨g,Q⟩:=Η (G[j]'U);rw[<-Q] at aB;have a3:∀h,G[j]'h=g:=λh=>Q.symm;have L:i64.wrap ((j:Int)+1)=((j+1:Nat):Int):=by rw[i64_in _ U];omega
   have bj:G.take (j+1)=G.take j++[g]:=by rw[We U,Q]
   repeat apply Ξ
   refine W.XV (A:=[]) Ρ [(0,.Κ 0 1 0 0),(8,.ms 1 n 0 n),(11,J m),(12,Z4 (ο&&decide (g.X0≠m))),(13,J j)] [ZH B,.cells 77 2 (G.map XW)] ?_ (by
    cases ο
    ·(try simp);(repeat (rw[Ν];simp[o]));(try simp[o])
    ·(try simp);(repeat (rw[Ν];simp[o,aB,a3]));(try simp[o,aB,a3]);omega)
   refine Γ L ?_;refine W.to (a1 (j+1,ο&&decide (g.X0≠m)) ⟨a2,λh=>?_⟩ (by show n-(j+1)<n-j;omega)) rfl (by simp[L]);simp only[Wt,decide_eq_true_eq] at h;intro y R;rw[bj] at R;rcases Wd.1 R with R|R
   .exact am h.1 y R
   .simp at R;subst R;exact h.2
  .have a2:j=n:=by simp at N;omega
   have bk:ο=true->∀g∈G,g.X0≠m:=λh=>by
    have:=am h
    rwa [U4 U] at this
   refine W.exit rfl ?_;have aw:B.Z0.length<2 ^ 63:=U;have X:=FU B aw 3 ZY ZY;obtain⟨ax,ay⟩:=ZG (NV B 3);obtain⟨ab,ad⟩:=ZG (B.after (3-1));have bd:ab.Z0.length<=d.Z0.length:=by rw[<-ad];exact X' (VN _ _) av
   rw[ay,ad] at X;obtain⟨w,M⟩:=Η (if ο then ab else B);have ae:w.Z0.length<=d.Z0.length:=by rw[M];split<;>assumption
   repeat apply Ξ
   refine W.XV (A:=[]) Ρ [(92,Z4 (ο&&ax)),(0,.Κ 0 1 0 0),(8,.ms 1 n 0 n),(11,J m)] [ZH w,.cells 77 2 (G.map XW)] ?_ (by
    cases ο
    .rw[M];(try simp);(repeat (rw[Ν];simp[o]));(try simp[o])
    .rw[M];(try simp);(repeat (rw[Ν];simp[o]));(try simp[o]);refine YM.c (X) 0 rfl (ZM.refl _) I I ?_;simp;(repeat (rw[Ν];simp));(try simp))
   refine W.Yv rfl (λY=>?_) (λY=>?_)
   .simp only[Wt] at Y;have E:i64.wrap ((n:Int)-1)=n-1:=i64_in _ U;have a4:=RY w U ((n:Int)-1);obtain⟨t0,t1⟩:=Sx w ((n:Int)-1) U U;obtain⟨k,az⟩:∃k:Nat,WU w ((n:Int)-1)=k:=⟨(WU w ((n:Int)-1)).toNat,U⟩;obtain⟨aC,a5⟩:=ZG (w.after ((n:Int)-1));have bl:aC.Z0.length<=d.Z0.length:=by rw[<-a5];exact X' (VN _ _) ae
    rw[az,a5] at a4;rw[az] at t1;have ar:k<G.length:=U;have a6:G[k]?=some (G[k]'ar):=δ ar;obtain⟨g,Q⟩:=Η (G[k]'ar);rw[<-Q] at a6;have bm:∀h,G[k]'h=g:=λh=>Q.symm
    repeat apply Ξ
    refine W.XV (A:=[]) Ρ [(8,.ms 1 n 0 n)] [ZH aC,.cells 77 2 ((G.set k ⟨g.name,m⟩).map XW)] ?_ (by
     (try simp);(repeat (rw[Ν];simp[o,E]));(try simp[o,E]);refine YM.g (a4) (XJ (Υ a6 (Υ bm o)) ?_)
     first|omega|(refine⟨U,?_⟩;simp[Pw]))
    refine Τ ?_;rw[<-Pw];refine W.BA (x:=4) (n:=n) (l:=(G.set k ⟨g.name,m⟩).map XW) (γ _) (by rw[Yp];simp[o]) Ty ?_ ?_
    .simp
    exact W.ret ⟨_,rfl,_,aC,.refl _,⟨_,rfl,by rw[Q];exact a0.set ar aD l1 (bk Y.1),by rw[RP];omega⟩,rfl,bl⟩
   .refine Τ ?_;refine W.BA (x:=4) (n:=n) (l:=G.map XW) (γ _) (by rw[Yp];simp[o]) Ty ?_ ?_
    .simp
    exact W.ret ⟨_,rfl,_,w,.refl _,⟨_,rfl,a0,U⟩,rfl,ae⟩
end Go.TL
