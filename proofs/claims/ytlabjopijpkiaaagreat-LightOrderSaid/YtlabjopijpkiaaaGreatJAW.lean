import Derived.Test.YtlabjopijpkiaaaGreatJAV
set_option maxHeartbeats 16000000
set_option maxRecDepth 20000
set_option linter.unusedSectionVars false
set_option linter.unusedSimpArgs false
set_option linter.unusedVariables false
namespace Go.TL
open Go.IntWalk (i64_in)
open Go.IntKind (i64 u64)
open Go.Proofs.Tryz
open Go.Proofs
variable [ZX]
theorem FD (d:Array (Int)) (n a b s:Nat) (m:d.size=n) (o:a<n) (t:b<n) (C:s<2 ^ 40)  :
  Μ prog 253 [.ms 0 n 0 n,J a,J b,.Κ 1 1 0 0] [.cells 3 1 (d.toList.map J),.cells 3 1 [J s]] (λr σ=>r=.ZW [J (Go.Sort.order2 (Go.Sort.ltInt) d a b s).1,J (Go.Sort.order2 (Go.Sort.ltInt) d a b s).2.1]/\σ=[.cells 3 1 (d.toList.map J),.cells 3 1 [J (Go.Sort.order2 (Go.Sort.ltInt) d a b s).2.2]]) (λ_ _=>False):=by
 refine Μ.body Ρ func253 rfl rfl ntmps253 rfl rfl I ?_;obtain⟨L,e⟩:=Η (d.toList.map J);have u:L.length=n:=by rw[e];simpa using m
 obtain⟨x,f⟩:=Η (d[a]!);obtain⟨y,g⟩:=Η (d[b]!);have i:L[a]?=some (J x):=by rw[e,f,YU,Wv,Rz U];rfl
 have j:L[b]?=some (J y):=by rw[e,g,YU,Wv,Rz U];rfl
 have v:∀h:a<L.length,L[a]=J x:=λh=>by have:=i;rw[δ h] at this;exact Xk this
 have w:∀h:b<L.length,L[b]=J y:=λh=>by have:=j;rw[δ h] at this;exact Xk this
 have k:i64.wrap ((s:Int)+1)=((s+1:Nat):Int):=by rw[i64_in _ U];omega
 have l:Go.Sort.order2 (Go.Sort.ltInt) d a b s=if Go.Sort.ltInt y x=true then(b,a,s+1) else(a,b,s):=by unfold Go.Sort.order2;rw[<-f,<-g]
 rw[l,<-e];clear e f g l;refine Τ ?_;refine W.draw (A:=[]) Ρ mixed λD B=>V8 (Υ u (Υ i (Υ j (Υ v w)))) ?_;refine⟨t,o,?_⟩;refine Yl (Ε.p (Ta y x) (ZM.refl _) I I) ?_;simp;(repeat (rw[ZK];simp));try rw[ZL]
 refine Y8 (B _ _ ?_);by_cases c:y<x
 .refine Α (by simp[c]) ?_;refine Γ k ?_;exact W.ret ⟨_,rfl,by simp[υ,Go.Sort.ltInt,c],by simp[υ,Go.Sort.ltInt,c]⟩
 .refine Ζ (by simp[c]) ?_;refine Γ k ?_;exact W.ret ⟨_,rfl,by simp[υ,Go.Sort.ltInt,c],by simp[υ,Go.Sort.ltInt,c]⟩
theorem Bj (d:Array (Int)) (n a b c s:Nat) (i:d.size=n) (F:a<n) (H:b<n) (K:c<n) (L:s<2 ^ 39)  :
  Μ prog 233 [.ms 0 n 0 n,J a,J b,J c,.Κ 1 1 0 0] [.cells 3 1 ((d).toList.map J),.cells 3 1 [J (s:Nat)]] (λr σ=>r=J (Go.Sort.median (Go.Sort.ltInt) d a b c s).1/\σ=[.cells 3 1 ((d).toList.map J),.cells 3 1 [J ((Go.Sort.median (Go.Sort.ltInt) d a b c s).2:Nat)]]) (λ_ _=>False):=by
 refine Μ.body Ρ func233 rfl rfl ntmps233 rfl rfl I ?_;obtain⟨y,v⟩:=ZG (Go.Sort.order2 (Go.Sort.ltInt) d a b s);have f1:=PC (Go.Sort.ltInt) d (a:=a) (b:=b) (n:=n) U U s;have j:=FD d n a b s i U U U;rw[v] at f1 j;obtain⟨k,l,m⟩:=y;simp only at f1 j;obtain⟨A,Φ⟩:=ZG (Go.Sort.order2 (Go.Sort.ltInt) d l c m);have f2:=PC (Go.Sort.ltInt) d (a:=l) (b:=c) (n:=n) U U m;have o:=FD d n l c m i U U U;rw[Φ] at f2 o;obtain⟨p,M,t⟩:=A;simp only at f2 o;obtain⟨B,w⟩:=ZG (Go.Sort.order2 (Go.Sort.ltInt) d k p t);have f3:=PC (Go.Sort.ltInt) d (a:=k) (b:=p) (n:=n) U U t;have u:=FD d n k p t i U U U;rw[w] at f3 u;obtain⟨N,C,D⟩:=B;simp only at f3 u;have E:Go.Sort.median (Go.Sort.ltInt) d a b c s=(C,D):=by unfold Go.Sort.median;simp only[v,Φ,w]
 rw[E]
 repeat apply Ξ
 refine VT ?_;refine Z' λx e=>?_;refine Μ.call (first:=[]) (captured:=[]) ((j).mono (λr s ⟨f,g⟩=>?_) (λ_ _ h=>h.elim));subst f;subst g;simp;(repeat (rw[Ν];simp));apply e;refine Z' λx e=>?_;refine Μ.call (first:=[]) (captured:=[]) ((o).mono (λr s ⟨f,g⟩=>?_) (λ_ _ h=>h.elim));subst f;subst g;simp;(repeat (rw[Ν];simp));apply e;refine Z' λx e=>?_;refine Μ.call (first:=[]) (captured:=[]) ((u).mono (λr s ⟨f,g⟩=>?_) (λ_ _ h=>h.elim));subst f;subst g;simp;(repeat (rw[Ν];simp));apply e;refine Τ ?_;exact W.ret ⟨_,rfl,rfl,rfl⟩
theorem FC (d:Array (Int)) (n i s:Nat) (a:d.size=n) (o:1<=i) (hi:i+1<n) (t:n<2 ^ 40) (b:s<2 ^ 39)  :
  Μ prog 232 [.ms 0 n 0 n,J i,.Κ 1 1 0 0] [.cells 3 1 ((d).toList.map J),.cells 3 1 [J (s:Nat)]] (λr σ=>r=J (Go.Sort.medianAdjacent (Go.Sort.ltInt) d i s).1/\σ=[.cells 3 1 ((d).toList.map J),.cells 3 1 [J ((Go.Sort.medianAdjacent (Go.Sort.ltInt) d i s).2:Nat)]]) (λ_ _=>False):=by
 refine Μ.body Ρ func232 rfl rfl ntmps232 rfl rfl I ?_;obtain⟨p,f⟩:=Η (i-1);obtain⟨q,g⟩:=Η (i+1);have w1:i64.wrap ((i:Int)-1)=(p:Int):=by rw[i64_in _ U];omega
 have j:i64.wrap ((i:Int)+1)=(q:Int):=by rw[i64_in _ U];omega
 have c:=Bj d n p i q s a U U U b
 have e:Go.Sort.medianAdjacent (Go.Sort.ltInt) d i s=Go.Sort.median (Go.Sort.ltInt) d p i q s:=by rw[f,g];rfl
 rw[e]
 repeat apply Ξ
 refine VT ?_;refine XB (Υ w1 j) λu k=>?_;refine Μ.call (first:=[]) (captured:=[]) ((c).mono (λr s ⟨l,m⟩=>?_) (λ_ _ h=>h.elim));subst l;subst m;simp;(repeat (rw[Ν];simp));apply k;refine Τ ?_;exact W.ret ⟨_,rfl,rfl,rfl⟩
theorem rZ (d:Array (Int)) (n a b:Nat) (x:d.size=n) (av:n<2 ^ 38) (aw:a+12<b) (ax:b<=n)  :
  Μ prog 200 [.ms 0 n 0 n,J a,J b] [.cells 3 1 ((d).toList.map J)] (λr s=>r=.ZW [J (Go.Sort.choosePivot (Go.Sort.ltInt) d a b).1,J (RV (Go.Sort.choosePivot (Go.Sort.ltInt) d a b).2)]/\s=[.cells 3 1 ((d).toList.map J)]) (λ_ _=>False):=by
 refine Μ.body Ρ func200 rfl rfl ntmps200 rfl rfl I ?_;obtain⟨l,R⟩:=Η (b-a);obtain⟨q,D⟩:=Η (l / 4);obtain⟨E,S⟩:=Η (q*2);obtain⟨F,T⟩:=Η (q*3);obtain⟨i,hi⟩:=Η (a+q);obtain⟨j,V⟩:=Η (a+E);obtain⟨k,X⟩:=Η (a+F);have ad:(8:Int)<=(l:Int):=U;have w1:i64.wrap ((b:Int)-(a:Int))=(l:Int):=by rw[i64_in _ U];omega
 have ae:i64.wrap ((l:Int) / 4)=(q:Int):=by rw[D];exact OZ (m:=4) U
 have af:i64.wrap (q:Int)=(q:Int):=i64_in _ U
 have ag:i64.wrap ((q:Int)*2)=(E:Int):=by rw[i64_in _ U];omega
 have ah:i64.wrap ((q:Int)*3)=(F:Int):=by rw[i64_in _ U];omega
 have ai:i64.wrap ((a:Int)+(q:Int))=(i:Int):=by rw[i64_in _ U];omega
 have aj:i64.wrap ((a:Int)+(E:Int))=(j:Int):=by rw[i64_in _ U];omega
 have ak:i64.wrap ((a:Int)+(F:Int))=(k:Int):=by rw[i64_in _ U];omega
 obtain⟨c,e,K,f,y,al,am,an,H⟩:∃c e K f:Nat,Go.Sort.choosePivot (Go.Sort.ltInt) d a b=((Go.Sort.median (Go.Sort.ltInt) d c e K f).1,if(Go.Sort.median (Go.Sort.ltInt) d c e K f).2=0 then .increasing else if(Go.Sort.median (Go.Sort.ltInt) d c e K f).2=12 then .decreasing else .unknown)/\c<n/\e<n/\K<n/\(f<=9/\((l<50/\c=i/\e=j/\K=k/\f=0)\/(50<=l/\∃t1 t2,Go.Sort.medianAdjacent (Go.Sort.ltInt) d i 0=(c,t1)/\t1<=3/\Go.Sort.medianAdjacent (Go.Sort.ltInt) d j t1=(e,t2)/\t2<=6/\Go.Sort.medianAdjacent (Go.Sort.ltInt) d k t2=(K,f)))):=by
  have Y:8<=l:=U;by_cases L:50<=l
  .have M:=Mz (Go.Sort.ltInt) d (n:=n) (i:=i) U U 0;obtain⟨⟨c,t1⟩,u⟩:∃r,Go.Sort.medianAdjacent (Go.Sort.ltInt) d i 0=r:=⟨_,rfl⟩;rw[u] at M;have N:=Mz (Go.Sort.ltInt) d (n:=n) (i:=j) U U t1;obtain⟨⟨e,t2⟩,Φ⟩:∃r,Go.Sort.medianAdjacent (Go.Sort.ltInt) d j t1=r:=⟨_,rfl⟩;rw[Φ] at N;have O:=Mz (Go.Sort.ltInt) d (n:=n) (i:=k) U U t2;obtain⟨⟨K,f⟩,v⟩:∃r,Go.Sort.medianAdjacent (Go.Sort.ltInt) d k t2=r:=⟨_,rfl⟩;rw[v] at O;simp only at M N O;refine⟨c,e,K,f,?_,M.1,N.1,O.1,U,.inr ⟨L,t1,t2,u,U,Φ,U,v⟩⟩;simp only[Go.Sort.choosePivot,<-R,<-D,Sp,<-S,<-T,<-hi,<-V,<-X,ge_iff_le,if_pos Y,if_pos L,u,Φ,v]
  .refine⟨i,j,k,0,?_,U,U,U,U,.inl ⟨U,rfl,rfl,rfl,rfl⟩⟩;simp only[Go.Sort.choosePivot,<-R,<-D,Sp,<-S,<-T,<-hi,<-V,<-X,ge_iff_le,if_pos Y,if_neg L]
 obtain⟨ao,em⟩:=ZG (Go.Sort.median (Go.Sort.ltInt) d c e K f);have B:=Bj d n c e K f x al am an (Qk H.1 ZY);rw[em] at B y;obtain⟨ap,w⟩:=ao;simp only at B y;rw[y]
 repeat apply Ξ
 refine VT ?_
 repeat apply Ξ
 refine Tb w1 ?_
 repeat apply Ξ
 refine Y4 (A:=[9]) Ρ λC o=>Z6 ?_;apply o;refine Γ (Υ ae (Υ af (Υ ag (Υ ah (Υ ai (Υ aj (Υ ak @ad))))))) ?_;refine Α I ?_;refine Τ ?_;refine W.upto [(0,.ms 0 n 0 n),(9,.Κ 1 1 0 0),(10,J (c:Nat)),(11,J (e:Nat)),(12,J (K:Nat))] [.cells 3 1 ((d).toList.map J),.cells 3 1 [J (f:Nat)]] ?_ ?_
 .clear y B;rcases H with⟨-,⟨aq,rfl,rfl,rfl,rfl⟩|⟨aq,t1,t2,u,ay,Φ,az,v⟩⟩
  .have g:¬(50:Int)<=(l:Int):=U
   refine Ζ (by simp[g]) ?_;refine W.skip ?_;exact W.stop ⟨rfl,rfl,I⟩
  .have g:(50:Int)<=(l:Int):=U
   have Z:=FC d n i 0 x U U U U
   have aa:=FC d n j t1 x U U U U
   have ab:=FC d n k t2 x U U U U;rw[u] at Z;rw[Φ] at aa;rw[v] at ab;refine Α (by simp[g]) ?_;refine Z' λC o=>?_;refine Μ.call (first:=[]) (captured:=[]) ((Z).mono (λr s ⟨p,t⟩=>?_) (λ_ _ h=>h.elim));subst p;subst t;simp;(repeat (rw[Ν];simp));apply o;refine Z' λC o=>?_;refine Μ.call (first:=[]) (captured:=[]) ((aa).mono (λr s ⟨p,t⟩=>?_) (λ_ _ h=>h.elim));subst p;subst t;simp;(repeat (rw[Ν];simp));apply o;refine Z' λC o=>?_;refine Μ.call (first:=[]) (captured:=[]) ((ab).mono (λr s ⟨p,t⟩=>?_) (λ_ _ h=>h.elim));subst p;subst t;simp;(repeat (rw[Ν];simp));apply o;exact W.stop ⟨rfl,rfl,I⟩
 clear H;refine Z' λC o=>?_;refine Μ.call (first:=[]) (captured:=[]) ((B).mono (λr s ⟨p,t⟩=>?_) (λ_ _ h=>h.elim));subst p;subst t;simp;(repeat (rw[Ν];simp));apply o
 repeat apply Ξ
 refine VT ?_;refine W.drop (h:=1) I I (H5 QJ) rfl [(11,J (ap:Nat)),(49,J (w:Nat))] I ?_;by_cases P:w=0
 .subst P;refine Τ ?_;refine Α rfl ?_;refine Τ ?_;exact W.ret ⟨_,rfl,rfl,rfl⟩
 have ar:¬(w:Int)=0:=U;refine Γ ar ?_;refine Ζ (by simp[P]) ?_;by_cases Q:w=12
 .subst Q;refine Τ ?_;refine Α rfl ?_;refine Τ ?_;exact W.ret ⟨_,rfl,rfl,rfl⟩
 have au:¬(w:Int)=12:=U;refine Γ au ?_;refine Ζ (by simp[Q]) ?_;refine Τ ?_;exact W.ret ⟨_,rfl,by simp[P,Q,RV],rfl⟩
theorem rY (d:Array (Int)) (n a b:Nat) (al:d.size=n) (aM:n<2 ^ 40) (aN:a+12<b) (aO:b<a+256) (aP:b<=n)  :
  Μ prog 199 [.ms 0 n 0 n,J a,J b] [.cells 3 1 ((d).toList.map J)] (λr s=>r=.ZW []/\s=[.cells 3 1 ((Go.Sort.breakPatterns d a b).toList.map J)]) (λ_ _=>False):=by
 refine Μ.body Ρ func199 rfl rfl ntmps199 rfl rfl I ?_;obtain⟨l,E⟩:=Η (b-a);obtain⟨q,Y⟩:=Η (l / 4);obtain⟨F,am⟩:=Η (q*2);obtain⟨c,an⟩:=Η (a+F);obtain⟨H,Z⟩:=Η (c-1);obtain⟨K,aQ⟩:=Η (c+1);obtain⟨m,M⟩:=Η (1 <<< Go.Sort.bitsLen l);have ao:Go.Sort.bitsLen l<=8:=(Go.Sort.bitsLen_le_iff l 8).2 U;have aR:l<m/\m<=256/\m<=2*l:=by
  have N:=Go.Sort.lt_two_pow_bitsLen l
  have O:=Go.Sort.two_pow_bitsLen_le (n:=l) U;rw[M,Kt];exact⟨N,X' (Mn U ao) ZY,O⟩
 obtain⟨R,aa⟩:=ZG (Qs a l m 3 H (UInt64.ofNat l,d));have ap:Go.Sort.breakPatterns d a b=R.2:=by rw[BL (c:=c) E U (by rw[an,am,Y]),<-M,<-Z,aa]
 rw[ap];have w1:i64.wrap ((b:Int)-(a:Int))=(l:Int):=by rw[i64_in _ U];omega
 have P:i64.wrap ((l:Int) / 4)=(q:Int):=by rw[Y];exact OZ (m:=4) U
 have Q:i64.wrap ((q:Int)*2)=(F:Int):=by rw[i64_in _ U];omega
 have S:i64.wrap ((a:Int)+(F:Int))=(c:Int):=by rw[i64_in _ U];omega
 have aq:i64.wrap ((c:Int)-1)=(H:Int):=by rw[i64_in _ U];omega
 have ab:i64.wrap ((c:Int)+1)=(K:Int):=by rw[i64_in _ U];omega
 have ar:u64.wrap (l:Int)=(l:Int):=Qr U
 have au:u64.wrap ((m:Int)-1)=((m-1:Nat):Int):=by
  have e:(m:Int)-1=((m-1:Nat):Int):=U;rw[e];exact Qr U
 have av:(8:Int)<=(l:Int):=U
 have aw:(UInt64.ofNat l).toNat=l:=by rw[UInt64.toNat_ofNat'];exact Qi U
 refine Γ (Υ w1 @av) ?_;refine Α I ?_
 repeat apply Ξ
 refine Y4 (A:=[7]) Ρ λad k=>XJ ar ?_;apply k;have ae:=BF l U;rw[<-M] at ae;refine Z' λad k=>?_;refine Ε.c ae (ZM.refl _) I I ?_;simp;(repeat (rw[Ν];simp));apply k;refine Γ (Υ P (Υ Q (Υ S aq))) ?_;refine W.iter (λy:Nat×UInt64×Array (Int)=>y.1<=3/\y.2.2.size=n/\Qs a l m y.1 (c+2-y.1) y.2=R) (λy=>[(0,.ms 0 n 0 n),(1,J a),(6,J (l:Nat)),(7,.Κ 1 1 0 0),(8,Vm (m:Nat)),(9,J (c+2-y.1:Nat))]) (λy=>[.cells 3 1 ((y.2.2).toList.map J),.cells 248 1 [Vm ((y.2.1.toNat:Nat):Int)]]) (λy=>y.1) (3,UInt64.ofNat l,d) ⟨γ _,al,by simp only;rw[<-aa,show c+2-3=H by omega]⟩ (by simp only;rw[aw]) (by simp[Z]) (λy T ax=>?_);obtain⟨t,st,e⟩:=y;obtain⟨ay,V,u⟩:=T;simp only at ay V u;obtain⟨f,af⟩:=Η (c+2-t);obtain⟨x,p⟩:=Η st.toNat;have az:x<2 ^ 64:=by rw[p];exact st.toNat_lt
 rw[<-af] at u;refine W.to (σ':=[.cells 3 1 ((e).toList.map J),.cells 248 1 [Vm ((x:Nat):Int)]]) (env':=[(0,.ms 0 n 0 n),(1,J a),(6,J (l:Nat)),(7,.Κ 1 1 0 0),(8,Vm (m:Nat)),(9,J (f:Nat))]) ?_ (by rw[p]) (by simp[af]);cases t with
 | zero=>
  have g:¬(f:Int)<=(K:Int):=U;refine Γ (Υ P (Υ Q (Υ S (Υ ab g)))) ?_;refine Ζ I ?_;refine W.exit rfl ?_;refine W.drop (h:=1) I I (H5 QJ) rfl [] I ?_;exact W.nil ⟨_,rfl,rfl,by rw[<-u];rfl⟩
 | succ t=>
  have g:(f:Int)<=(K:Int):=U;obtain⟨v,ag⟩:=Η (Go.Sort.xorNext st);obtain⟨j,w⟩:=Η v.toNat;have aA:j=Go.Sort.xorNextN x:=by rw[w,ag,Go.Sort.xorNext_toNat,p]
  have aB:j<2 ^ 64:=by rw[w];exact v.toNat_lt
  have ah:=BE x az;rw[<-aA] at ah;obtain⟨z,X⟩:=Η (j&&&(m-1));have aS:z<=m-1:=by rw[X];exact Nat.and_le_right
  have W5:XY .u64 (j:Int) ((m-1:Nat):Int)=(z:Int):=by rw[X];exact BK aB U
  have aC:i64.wrap (z:Int)=(z:Int):=i64_in _ U;obtain⟨o,B⟩:=Η (if z>=l then z-l else z);have aT:o<l:=by rw[B];split<;>omega
  have ai:Qs a l m t (f+1) (v,Go.Sort.swp e f (a+o))=R:=by
   rw[<-u];show _=Qs a l m t (f+1) (Go.Sort.breakStep a l m (st,e) f);unfold Go.Sort.breakStep;simp only;rw[<-ag,<-w,<-X,<-B]
  obtain⟨C,aD⟩:=Η (a+o);rw[<-aD] at ai;refine Γ (Υ P (Υ Q (Υ S (Υ ab g)))) ?_;refine Α I ?_;refine Z' λad k=>?_;refine Μ.one ah 1 rfl (by simp[V9]) (by simp[V9]) (by simp[XC,Ua]) (by simp[XC,Ua]) rfl ?_;simp[Yx,WM];(repeat (rw[Ν];simp[au,W5,aC]));apply k;refine W.to (σ':=[.cells 3 1 ((e).toList.map J),.cells 248 1 [Vm ((j:Nat):Int)]]) (env':=[(0,.ms 0 n 0 n),(1,J a),(6,J (l:Nat)),(7,.Κ 1 1 0 0),(8,Vm (m:Nat)),(9,J (f:Nat)),(10,J (z:Nat))]) ?_ rfl I;refine Τ ?_;refine W.upto [(0,.ms 0 n 0 n),(1,J a),(6,J (l:Nat)),(7,.Κ 1 1 0 0),(8,Vm (m:Nat)),(9,J (f:Nat)),(10,J (o:Nat))] [.cells 3 1 ((e).toList.map J),.cells 248 1 [Vm ((j:Nat):Int)]] ?_ ?_
  .by_cases D:l<=z
   .have wo:i64.wrap ((z:Int)-(l:Int))=(o:Int):=by rw[i64_in _ U,B,if_pos D];omega
    refine Α (by simp[D]) ?_;refine Γ wo ?_;exact W.stop ⟨rfl,rfl,I⟩
   .refine Ζ (by simp[D]) ?_
    repeat apply Ξ
    exact W.stop ⟨rfl,rfl,by simp[B,D]⟩
  have aE:i64.wrap ((a:Int)+(o:Int))=(C:Int):=by rw[i64_in _ U];omega
  have aj:f<n:=U
  have ak:C<n:=U;obtain⟨L,x,y,aF,p,T,E,⟨N,O⟩,⟨aG,aH⟩,aI,aU,aJ⟩:=T1 J V aj ak;rw[aF];clear p T
  repeat apply Ξ
  refine XI (Υ E (Υ N (Υ O (Υ aG (Υ aH (Υ aJ (Υ aj (Υ ak aE)))))))) ?_;have aK:=Yt (i:=f) U;refine Γ aK ?_;refine W.to (ax (t,v,Go.Sort.swp e f C) ⟨ZD,swp_size V f C,?_⟩ I) (by rw[aI,w]) (by simp[show c+2-t=f+1 by omega]);have aL:c+2-t=f+1:=U;simp only;rw[aL];exact ai
theorem Bi (d:Array (Int)) (n a b:Nat) (aq:d.size=n) (aO:n<2 ^ 40) (aA:a<b) (aP:b<=n)  :
  Μ prog 202 [.ms 0 n 0 n,J a,J b] [.cells 3 1 ((d).toList.map J)] (λr s=>r=Z4 (Go.Sort.partialInsertionSort (Go.Sort.ltInt) d a b).2/\s=[.cells 3 1 (((Go.Sort.partialInsertionSort (Go.Sort.ltInt) d a b).1).toList.map J)]) (λ_ _=>False):=by
 refine Μ.body Ρ func202 rfl rfl ntmps202 rfl rfl I ?_;obtain⟨R,af⟩:=ZG (Go.Sort.partialIns (Go.Sort.ltInt) a b 5 (a+1) d);have ar:Go.Sort.partialInsertionSort (Go.Sort.ltInt) d a b=R:=af;rw[ar];have w1:=Yt (i:=a) U;refine Γ w1 ?_;refine W.iter (λq:Nat×Nat×Array (Int)=>q.1<=5/\a+1<=q.2.1/\q.2.1<=b/\q.2.2.size=n/\Go.Sort.partialIns (Go.Sort.ltInt) a b (5-q.1) q.2.1 q.2.2=R) (λq=>[(0,.ms 0 n 0 n),(1,J a),(2,J b),(7,J (q.2.1:Nat)),(8,J (q.1:Nat))]) (λq=>[.cells 3 1 ((q.2.2).toList.map J)]) (λq=>5-q.1) (0,a+1,d) ⟨χ _,γ _,aA,aq,af⟩ rfl (by simp[w1]) (λq B aB=>?_);clear af ar aq w1;obtain⟨st,i,e⟩:=q;obtain⟨aC,aD,ag,ab,h⟩:=B;simp only at aC aD ag ab h;refine W.to (σ':=[.cells 3 1 ((e).toList.map J)]) (env':=[(0,.ms 0 n 0 n),(1,J a),(2,J b),(7,J (i:Nat)),(8,J (st:Nat))]) ?_ rfl I;by_cases ad:st<5
 case neg=>
  have g:¬(st:Int)<5:=U;refine Γ g ?_;refine Ζ I ?_;refine W.exit rfl ?_;refine Τ ?_;obtain rfl:st=5:=U;exact W.ret ⟨_,rfl,by rw[<-h];rfl,by rw[<-h];rfl⟩
 have aE:(st:Int)<5:=U;refine Γ aE ?_;refine Α I ?_;obtain⟨c,ah⟩:=ZG (Go.Sort.scanSorted (Go.Sort.ltInt) e b i);have aF:=BJ (Go.Sort.ltInt) e (b:=b) (b-i) i (γ _) ag;rw[ah] at aF;rw[show 5-st=(4-st)+1 by omega,Go.Sort.partialIns] at h;simp only[ah] at h
 repeat apply Ξ
 refine W.H7 [(0,.ms 0 n 0 n),(1,J a),(2,J b),(7,J (c:Nat)),(8,J (st:Nat))] [.cells 3 1 ((e).toList.map J)] ?_ ?_
 .clear h;refine W.iter (λk:Nat=>i<=k/\k<=b/\Go.Sort.scanSorted (Go.Sort.ltInt) e b k=c) (λk=>[(0,.ms 0 n 0 n),(1,J a),(2,J b),(7,J (k:Nat)),(8,J (st:Nat))]) (λ_=>[.cells 3 1 ((e).toList.map J)]) (λk=>b-k) i ⟨γ _,ag,ah⟩ rfl I (λk aG Y=>?_);obtain⟨aQ,aR,ai⟩:=aG;by_cases C:k<b
  .obtain⟨p,aj⟩:=Η (k-1);have o:k<n:=U;have t:p<n:=U;obtain⟨L,x,y,m,u,v,E,⟨H,K⟩,⟨M,N⟩,-,-⟩:=T1 J ab o t;have D:Go.Sort.scanSorted (Go.Sort.ltInt) e b k=if(!Go.Sort.ltInt x y)=true then Go.Sort.scanSorted (Go.Sort.ltInt) e b (k+1) else k:=by rw[Go.Sort.scanSorted];simp[C,u,<-aj,v]
   have au:=Yt (i:=k) U
   have aH:i64.wrap ((k:Int)-1)=(p:Int):=by rw[i64_in _ U];omega
   refine W.to (σ':=[.cells 3 1 L]) (env':=[(0,.ms 0 n 0 n),(1,J a),(2,J b),(7,J (k:Nat)),(8,J (st:Nat))]) ?_ (by rw[m]) I;clear u v
   repeat apply Ξ
   refine W.draw (A:=[]) Ρ mixed λak O=>V8 (Υ C (Υ aH (Υ E (Υ H (Υ K (Υ M (Υ N (Υ o t)))))))) ?_;refine Yl (Ε.p (Ta x y) (ZM.refl _) I I) ?_;simp;(repeat (rw[ZK];simp));try rw[ZL]
   refine Y8 (O _ _ ?_);by_cases l:x<y
   .refine Ζ (by simp[l]) ?_;refine W.exit rfl ?_;exact W.stop ⟨rfl,by rw[m],by rw[<-ai,D];simp[l,Go.Sort.ltInt]⟩
   .refine Α (by simp[l]) ?_;refine Γ au ?_;exact W.to (Y (k+1) ⟨U,U,by rw[<-ai,D];simp[l,Go.Sort.ltInt]⟩ ZD) (by rw[m]) (by simp[au])
  .repeat apply Ξ
   refine XI C ?_;refine Ζ rfl ?_;refine W.exit rfl ?_;have e:Go.Sort.scanSorted (Go.Sort.ltInt) e b k=k:=by rw[Go.Sort.scanSorted];simp[C]
   exact W.stop ⟨rfl,rfl,by rw[<-ai,e];simp⟩
 by_cases ae:c=b
 .have g:(c:Int)=(b:Int):=U
  rw[if_pos ae] at h;refine Γ g ?_;refine Α (by simp[ae]) ?_;refine Τ ?_;exact W.ret ⟨_,rfl,by rw[<-h];rfl,by rw[<-h]⟩
 have g:¬(c:Int)=(b:Int):=U
 have av:=Qq (a:=a) (b:=b) U U;rw[if_neg ae] at h;refine Γ g ?_;refine Ζ (by simp[ae]) ?_;by_cases aw:b-a<50
 .have al:((b-a:Nat):Int)<50:=U
  rw[if_pos aw] at h;refine Γ (Υ av al) ?_;refine Α I ?_;refine Τ ?_;exact W.ret ⟨_,rfl,by rw[<-h];rfl,by rw[<-h]⟩
 have al:¬((b-a:Nat):Int)<50:=U;rw[if_neg aw] at h;refine Γ (Υ av al) ?_;refine Ζ I ?_;obtain⟨p,aj⟩:=Η (c-1);have ax:i64.wrap ((c:Int)-1)=(p:Int):=by rw[i64_in _ U];omega
 rw[<-aj] at h;refine W.two J ab (i:=c) (j:=p) U U λL x y z u v F m S=>?_
 repeat apply Ξ
 refine W.draw (A:=[]) Ρ mixed λak O=>?_;simp;(repeat (rw[ZK];simp[F,ax]));try rw[ZL];refine Y8 (O _ _ ?_)
 refine W.back S [(0,.ms 0 n 0 n),(1,J a),(2,J b),(7,J (c:Nat)),(8,J (st:Nat))] I ?_;clear F S m u v L x y z;obtain⟨T,ay⟩:=Η (Go.Sort.swp e c p);have am:T.size=n:=by rw[ay];exact swp_size ab c p
 rw[<-ay] at h ⊢;have aI:=Qq (a:=a) (b:=c) U U;obtain⟨Φ,P⟩:=Η (if c-a>=2 then Go.Sort.shiftDown (Go.Sort.ltInt) p T else T);rw[<-P] at h;have an:Φ.size=n:=by rw[P];split;exact BI (Go.Sort.ltInt) p T am;exact am
 refine Γ aI ?_;refine W.upto [(0,.ms 0 n 0 n),(1,J a),(2,J b),(7,J (c:Nat)),(8,J (st:Nat))] [.cells 3 1 ((Φ).toList.map J)] ?_ ?_
 .clear h;by_cases Z:2<=c-a
  .rw[if_pos Z] at P;refine Α (by simp;omega) ?_;refine Γ ax ?_;subst P;refine W.iter (λq:Nat×Array (Int)=>q.1<=p/\q.2.size=n/\Go.Sort.shiftDown (Go.Sort.ltInt) q.1 q.2=Go.Sort.shiftDown (Go.Sort.ltInt) p T) (λq=>[(0,.ms 0 n 0 n),(1,J a),(2,J b),(7,J (c:Nat)),(8,J (st:Nat)),(9,J (q.1:Nat))]) (λq=>[.cells 3 1 ((q.2).toList.map J)]) (λq=>q.1) (p,T) ⟨γ _,am,rfl⟩ rfl I (λq B Y=>?_);obtain⟨j,f⟩:=q;obtain⟨ao,Q,w⟩:=B;simp only at ao Q w;refine W.to (σ':=[.cells 3 1 ((f).toList.map J)]) (env':=[(0,.ms 0 n 0 n),(1,J a),(2,J b),(7,J (c:Nat)),(8,J (st:Nat)),(9,J (j:Nat))]) ?_ rfl I;by_cases C:1<=j
   .have g:(1:Int)<=(j:Int):=U
    refine Γ g ?_;refine Α I ?_;obtain⟨q,B⟩:=Η (j-1);have V:i64.wrap ((j:Int)-1)=(q:Int):=by rw[i64_in _ U];omega
    have aa:i64.wrap ((j:Int)-1)=(q:Int):=V
    have o:j<n:=U
    have t:q<n:=U;obtain⟨L,x,y,m,u,v,E,⟨H,K⟩,⟨M,N⟩,S,aJ,ad⟩:=T1 J Q o t;have D:Go.Sort.shiftDown (Go.Sort.ltInt) j f=if(!Go.Sort.ltInt x y)=true then f else Go.Sort.shiftDown (Go.Sort.ltInt) q (Go.Sort.swp f j q):=by
     obtain rfl:j=q+1:=U;rw[Go.Sort.shiftDown,u,v]
    refine W.to (σ':=[.cells 3 1 L]) (env':=[(0,.ms 0 n 0 n),(1,J a),(2,J b),(7,J (c:Nat)),(8,J (st:Nat)),(9,J (j:Nat))]) ?_ (by rw[m]) I;clear u v
    repeat apply Ξ
    refine W.draw (A:=[]) Ρ mixed λak O=>V8 (Υ V (Υ E (Υ H (Υ K (Υ M (Υ N (Υ o t))))))) ?_;refine Yl (Ε.p (Ta x y) (ZM.refl _) I I) ?_;simp;(repeat (rw[ZK];simp));try rw[ZL]
    refine Y8 (O _ _ ?_);by_cases l:x<y
    .refine Ζ (by simp[l]) ?_;refine W.to (σ':=[.cells 3 1 L]) (env':=[(0,.ms 0 n 0 n),(1,J a),(2,J b),(7,J (c:Nat)),(8,J (st:Nat)),(9,J (j:Nat))]) ?_ rfl I
     repeat apply Ξ
     refine XI (Υ V (Υ E (Υ H (Υ K (Υ M (Υ N (Υ ad (Υ o t)))))))) ?_;refine Γ aa ?_;exact W.to (Y (q,Go.Sort.swp f j q) ⟨U,swp_size Q j q,by rw[<-w,D];simp[l,Go.Sort.ltInt]⟩ ZD) (by rw[S]) (by simp[aa])
    .refine Α (by simp[l]) ?_;refine W.exit rfl ?_;exact W.stop ⟨rfl,by rw[<-m,<-w,D];simp[l,Go.Sort.ltInt],I⟩
   .have g:¬(1:Int)<=(j:Int):=U
    refine Γ g ?_;refine Ζ I ?_;refine W.exit rfl ?_;have e:Go.Sort.shiftDown (Go.Sort.ltInt) j f=f:=by
     obtain rfl:j=0:=U;rfl
    exact W.stop ⟨rfl,by rw[<-w,e],I⟩
  .rw[if_neg Z] at P;refine Ζ (by simp;omega) ?_;refine W.skip ?_;exact W.stop ⟨rfl,by rw[P],I⟩
 clear P;have aK:=Qq (a:=c) (b:=b) U U;have aL:=Yt (i:=c) U;have az:=Yt (i:=st) U;obtain⟨ap,X⟩:=Η (if b-c>=2 then Go.Sort.shiftUp (Go.Sort.ltInt) b (c+1) Φ else Φ);rw[<-X] at h;have aM:ap.size=n:=by rw[X];split;exact BH (Go.Sort.ltInt) (b-(c+1)) (c+1) Φ (γ _) an;exact an
 refine Γ aK ?_;refine W.upto [(0,.ms 0 n 0 n),(1,J a),(2,J b),(7,J (c:Nat)),(8,J (st:Nat))] [.cells 3 1 ((ap).toList.map J)] ?_ ?_
 .clear h;by_cases Z:2<=b-c
  .rw[if_pos Z] at X;refine Α (by simp;omega) ?_;refine Γ aL ?_;subst X;refine W.iter (λq:Nat×Array (Int)=>c+1<=q.1/\q.1<=b/\q.2.size=n/\Go.Sort.shiftUp (Go.Sort.ltInt) b q.1 q.2=Go.Sort.shiftUp (Go.Sort.ltInt) b (c+1) Φ) (λq=>[(0,.ms 0 n 0 n),(1,J a),(2,J b),(7,J (c:Nat)),(8,J (st:Nat)),(10,J (q.1:Nat))]) (λq=>[.cells 3 1 ((q.2).toList.map J)]) (λq=>b-q.1) (c+1,Φ) ⟨γ _,U,an,rfl⟩ rfl I (λq B Y=>?_);obtain⟨j,f⟩:=q;obtain⟨ao,aN,Q,w⟩:=B;simp only at ao aN Q w;refine W.to (σ':=[.cells 3 1 ((f).toList.map J)]) (env':=[(0,.ms 0 n 0 n),(1,J a),(2,J b),(7,J (c:Nat)),(8,J (st:Nat)),(10,J (j:Nat))]) ?_ rfl I;by_cases C:j<b
   .have g:(j:Int)<(b:Int):=U
    refine Γ g ?_;refine Α I ?_;obtain⟨q,B⟩:=Η (j-1);have V:i64.wrap ((j:Int)-1)=(q:Int):=by rw[i64_in _ U];omega
    have aa:=Yt (i:=j) U
    have o:j<n:=U
    have t:q<n:=U;obtain⟨L,x,y,m,u,v,E,⟨H,K⟩,⟨M,N⟩,S,aJ,ad⟩:=T1 J Q o t;have D:Go.Sort.shiftUp (Go.Sort.ltInt) b j f=if(!Go.Sort.ltInt x y)=true then f else Go.Sort.shiftUp (Go.Sort.ltInt) b (j+1) (Go.Sort.swp f j q):=by
     rw[Go.Sort.shiftUp,if_pos C,<-B,u,v]
    refine W.to (σ':=[.cells 3 1 L]) (env':=[(0,.ms 0 n 0 n),(1,J a),(2,J b),(7,J (c:Nat)),(8,J (st:Nat)),(10,J (j:Nat))]) ?_ (by rw[m]) I;clear u v
    repeat apply Ξ
    refine W.draw (A:=[]) Ρ mixed λak O=>V8 (Υ V (Υ E (Υ H (Υ K (Υ M (Υ N (Υ o t))))))) ?_;refine Yl (Ε.p (Ta x y) (ZM.refl _) I I) ?_;simp;(repeat (rw[ZK];simp));try rw[ZL]
    refine Y8 (O _ _ ?_);by_cases l:x<y
    .refine Ζ (by simp[l]) ?_;refine W.to (σ':=[.cells 3 1 L]) (env':=[(0,.ms 0 n 0 n),(1,J a),(2,J b),(7,J (c:Nat)),(8,J (st:Nat)),(10,J (j:Nat))]) ?_ rfl I
     repeat apply Ξ
     refine XI (Υ V (Υ E (Υ H (Υ K (Υ M (Υ N (Υ ad (Υ o t)))))))) ?_;refine Γ aa ?_;exact W.to (Y (j+1,Go.Sort.swp f j q) ⟨U,U,swp_size Q j q,by rw[<-w,D];simp[l,Go.Sort.ltInt]⟩ ZD) (by rw[S]) (by simp[aa])
    .refine Α (by simp[l]) ?_;refine W.exit rfl ?_;exact W.stop ⟨rfl,by rw[<-m,<-w,D];simp[l,Go.Sort.ltInt],I⟩
   .have g:¬(j:Int)<(b:Int):=U
    refine Γ g ?_;refine Ζ I ?_;refine W.exit rfl ?_;have e:Go.Sort.shiftUp (Go.Sort.ltInt) b j f=f:=by rw[Go.Sort.shiftUp,if_neg C]
    exact W.stop ⟨rfl,by rw[<-w,e],I⟩
  .rw[if_neg Z] at X;refine Ζ (by simp;omega) ?_;refine W.skip ?_;exact W.stop ⟨rfl,by rw[X],I⟩
 refine Γ az ?_;exact W.to (aB (st+1,c,ap) ⟨ZD,ZD,ZD,aM,by simp only;rw[show 5-(st+1)=4-st by omega];exact h⟩ ZD) rfl (by simp[az])
theorem rX (n:Nat) (bi:n<256)  : ∀(k:Nat) (d:Array (Int)) (a b c:Nat),d.size=n->b-a<=k->a<=b->b<=n->c<2 ^ 40->Go.Sort.Below (Go.Sort.ltInt) a b d->
  Μ prog 157 [.ms 0 n 0 n,J a,J b,J c] [.cells 3 1 ((d).toList.map J)] (λr s=>r=.ZW []/\s=[.cells 3 1 ((Go.Sort.pdq (Go.Sort.ltInt) d a b c true true).toList.map J)]) (λ_ _=>False):=by
 intro k
 induction k using Nat.strongRecOn with
 | _ k aS=>
 intro d a b c a8 aq ad w ar ae;refine Μ.body Ρ func157 rfl rfl ntmps157 rfl rfl I ?_;obtain⟨R,aB⟩:=ZG (Go.Sort.pdq (Go.Sort.ltInt) d a b c true true);rw[aB];refine Τ ?_;refine W.iter (λq:BM (Int)=>q.e.size=n/\q.a<=q.b/\q.b<=n/\q.b-q.a<=k/\q.lim<2 ^ 40/\Go.Sort.Below (Go.Sort.ltInt) q.a q.b q.e/\Go.Sort.pdq (Go.Sort.ltInt) q.e q.a q.b q.lim q.wb q.wp=R) (λq=>[(0,.ms 0 n 0 n),(1,J (q.a:Nat)),(2,J (q.b:Nat)),(3,J (q.lim:Nat)),(8,Z4 q.wb),(9,Z4 q.wp)]) (λq=>[.cells 3 1 ((q.e).toList.map J)]) (λq=>q.b-q.a) ⟨a,b,c,true,true,d⟩ ⟨a8,ad,w,aq,ar,ae,aB⟩ rfl I (λq a9 aC=>?_);clear aB ae ar w ad aq;obtain⟨a,b,c,wb,wp,e⟩:=q;obtain⟨af,ad,w,aq,ar,ae,Z⟩:=a9;simp only at af ad w aq ar ae Z;obtain⟨l,aD⟩:=Η (b-a);have w1:i64.wrap ((b:Int)-(a:Int))=(l:Int):=by rw[i64_in _ U];omega
 refine W.to (σ':=[.cells 3 1 ((e).toList.map J)]) (env':=[(0,.ms 0 n 0 n),(1,J (a:Nat)),(2,J (b:Nat)),(3,J (c:Nat)),(8,Z4 wb),(9,Z4 wp)]) ?_ rfl I;by_cases aa:b-a<=12
 .have g:(l:Int)<=12:=U
  refine Γ (Υ w1 g) ?_;refine Α I ?_;refine Z' λK j=>?_;refine Μ.call (first:=[]) (captured:=[]) ((Du e n a b af ad w U).mono (λr s ⟨o,t⟩=>?_) (λ_ _ h=>h.elim));subst o;subst t;simp;(repeat (rw[Ν];simp));apply j;rw[Go.Sort.pdq_small aa] at Z;exact W.ret ⟨_,rfl,rfl,by rw[<-Z]⟩
 have g:¬(l:Int)<=12:=U;refine Γ (Υ w1 g) ?_;refine Ζ I ?_;by_cases T:c=0
 .have aE:(c:Int)=0:=U
  refine Γ aE ?_;refine Α (by simp[T]) ?_;refine Z' λK j=>?_;refine Μ.call (first:=[]) (captured:=[]) ((r5 e n a b af U U w).mono (λr s ⟨o,t⟩=>?_) (λ_ _ h=>h.elim));subst o;subst t;simp;(repeat (rw[Ν];simp));apply j;rw[Go.Sort.pdq_heap aa T] at Z;exact W.ret ⟨_,rfl,rfl,by rw[<-Z]⟩
 have aE:¬(c:Int)=0:=U;refine Γ aE ?_;refine Ζ (by simp[T]) ?_;refine Τ ?_;have F:=Go.Sort.rd_facts (limit:=c) (wb:=wb) (wp:=wp) Go.Sort.swo_ltInt Go.Sort.partialInsertionSort_holds Go.Sort.reverseRange_holds (by omega:a<b) U ae;have aT:=Go.Sort.rd_lim_le (lt:=(Go.Sort.ltInt)) (d:=e) (a:=a) (b:=b) (limit:=c) (wb:=wb) (wp:=wp);have au:=λh:wb=false=>show(Go.Sort.rd (Go.Sort.ltInt) e a b c wb wp).d1=Go.Sort.breakPatterns e a b/\(Go.Sort.rd (Go.Sort.ltInt) e a b c wb wp).lim=c-1 by subst h;exact Go.Sort.rd_false
 have av:=λh:wb=true=>show(Go.Sort.rd (Go.Sort.ltInt) e a b c wb wp).d1=e/\(Go.Sort.rd (Go.Sort.ltInt) e a b c wb wp).lim=c by subst h;exact Go.Sort.rd_true
 have aw:=Go.Sort.rd_c (lt:=(Go.Sort.ltInt)) (d:=e) (a:=a) (b:=b) (limit:=c) (wb:=wb) (wp:=wp)
 have Fd:=Go.Sort.rd_dec (lt:=(Go.Sort.ltInt)) (d:=e) (a:=a) (b:=b) (limit:=c) (wb:=wb) (wp:=wp)
 have Fn:=Go.Sort.rd_not (lt:=(Go.Sort.ltInt)) (d:=e) (a:=a) (b:=b) (limit:=c) (wb:=wb) (wp:=wp)
 have ag:=Go.Sort.rd_pi_yes (lt:=(Go.Sort.ltInt)) (d:=e) (a:=a) (b:=b) (limit:=c) (wb:=wb) (wp:=wp)
 have ah:=Go.Sort.rd_pi_no (lt:=(Go.Sort.ltInt)) (d:=e) (a:=a) (b:=b) (limit:=c) (wb:=wb) (wp:=wp)
 have ai:=Go.Sort.pdq_done (lt:=(Go.Sort.ltInt)) (d:=e) (wb:=wb) (wp:=wp) aa T
 have H:=Go.Sort.pdq_eq (lt:=(Go.Sort.ltInt)) (d:=e) (wb:=wb) (wp:=wp) aa T
 have B:=Go.Sort.pdq_left (lt:=(Go.Sort.ltInt)) (d:=e) (wb:=wb) (wp:=wp) aa T
 have C:=Go.Sort.pdq_right (lt:=(Go.Sort.ltInt)) (d:=e) (wb:=wb) (wp:=wp) aa T;rw[Z] at ai H B C;obtain⟨r,aU⟩:=ZG (Go.Sort.rd (Go.Sort.ltInt) e a b c wb wp);rw[aU] at F aT au av aw Fd Fn ag ah ai H B C;clear aU;obtain⟨d1,D,⟨aF,aG⟩,d2,M,aj,d3,done⟩:=r;simp only at F aT au av aw Fd Fn ag ah ai H B C;obtain⟨aH,bj,bk,aI,bl,O,Q,aV⟩:=F;rw[af] at aH aI Q;refine W.upto [(0,.ms 0 n 0 n),(1,J (a:Nat)),(2,J (b:Nat)),(3,J (D:Nat)),(8,Z4 wb),(9,Z4 wp),(10,J (l:Nat))] [.cells 3 1 ((d1).toList.map J)] ?_ ?_
 .cases wb with
  | false=>
   obtain⟨f1,f2⟩:=au rfl;refine Α rfl ?_;refine Z' λK j=>?_;refine Μ.call (first:=[]) (captured:=[]) ((rY e n a b af U U U w).mono (λr s ⟨o,t⟩=>?_) (λ_ _ h=>h.elim));subst o;subst t;simp;(repeat (rw[Ν];simp));apply j;have ak:=Wf (i:=c) U U;refine Tb ak ?_;exact W.stop ⟨rfl,by rw[f1],by simp[f2]⟩
  | true=>
   obtain⟨f1,f2⟩:=av rfl;refine Ζ rfl ?_;refine W.skip ?_;exact W.stop ⟨rfl,by rw[f1],by simp[f2]⟩
 have aJ:=rZ d1 n a b aH U U w;rw[<-aw] at aJ;simp only at aJ;refine Z' λK j=>?_;refine Μ.call (first:=[]) (captured:=[]) ((aJ).mono (λr s ⟨o,t⟩=>?_) (λ_ _ h=>h.elim));subst o;subst t;simp;(repeat (rw[Ν];simp));apply j;refine W.to (σ':=[.cells 3 1 ((d1).toList.map J)]) (env':=[(0,.ms 0 n 0 n),(1,J (a:Nat)),(2,J (b:Nat)),(3,J (D:Nat)),(8,Z4 wb),(9,Z4 wp),(10,J (l:Nat)),(11,J (aF:Nat)),(12,J (RV aG))]) ?_ rfl I;refine Τ ?_;refine W.upto [(0,.ms 0 n 0 n),(1,J (a:Nat)),(2,J (b:Nat)),(3,J (D:Nat)),(8,Z4 wb),(9,Z4 wp),(10,J (l:Nat)),(11,J (M:Nat)),(12,J (RV aj))] [.cells 3 1 ((d2).toList.map J)] ?_ ?_
 .by_cases hd:aG=.decreasing
  .obtain⟨f1,f2,f3⟩:=Fd hd;subst hd;refine Α rfl ?_;refine Z' λK j=>?_;refine Μ.call (first:=[]) (captured:=[]) ((r4 d1 n a b aH U U w).mono (λr s ⟨o,t⟩=>?_) (λ_ _ h=>h.elim));subst o;subst t;simp;(repeat (rw[Ν];simp));apply j;have ak:=Wf (i:=b) U U;have a':=Qq (a:=a) (b:=aF) U U;have aW:=Qq (a:=aF-a) (b:=b-1) U U;rw[<-f2] at aW;refine W.seq ?_;refine Tb (Υ ak (Υ a' aW)) ?_;refine VT ?_;exact W.stop ⟨rfl,by rw[f1],by simp[f3,RV]⟩
  .obtain⟨f1,f2,f3⟩:=Fn hd;refine Ζ (by cases aG with
    | decreasing=>exact absurd rfl hd
    | unknown=>rfl
    | increasing=>rfl) ?_
   refine W.skip ?_;exact W.stop ⟨rfl,by rw[f1],by simp[f2,f3]⟩
 repeat apply Ξ
 refine W.RA (A:=[]) Ρ [(68,Z4 (wb&&wp&&decide (aj=.increasing))),(0,.ms 0 n 0 n),(1,J (a:Nat)),(2,J (b:Nat)),(3,J (D:Nat)),(8,Z4 wb),(9,Z4 wp),(10,J (l:Nat)),(11,J (M:Nat))] ?_ (by cases wb<;>cases wp<;>cases aj<;>simp[Ν,Td,RV])
 repeat apply Ξ
 rcases KF done with S|S
 .cases al:(wb&&wp&&decide (aj=.increasing)) with
  | true=>
   have f:=ag al;refine Α rfl ?_;have E:=Bi d2 n a b aI U U w;rw[<-f] at E;simp only[S] at E;refine Z' λK j=>?_;refine Μ.call (first:=[]) (captured:=[]) ((E).mono (λr s ⟨o,t⟩=>?_) (λ_ _ h=>h.elim));subst o;subst t;simp;(repeat (rw[Ν];simp));apply j;refine Α rfl ?_;exact W.ret ⟨_,rfl,rfl,by rw[ai S]⟩
  | false=>
   have f:=(Prod.mk.inj (ah al)).2;rw[S] at f;cases f
 refine W.upto [(0,.ms 0 n 0 n),(1,J (a:Nat)),(2,J (b:Nat)),(3,J (D:Nat)),(8,Z4 wb),(9,Z4 wp),(10,J (l:Nat)),(11,J (M:Nat))] [.cells 3 1 ((d3).toList.map J)] ?_ ?_
 .cases al:(wb&&wp&&decide (aj=.increasing)) with
  | true=>
   have f:=ag al;refine Α rfl ?_;have E:=Bi d2 n a b aI U U w;rw[<-f] at E;simp only[S] at E;refine Z' λK j=>?_;refine Μ.call (first:=[]) (captured:=[]) ((E).mono (λr s ⟨o,t⟩=>?_) (λ_ _ h=>h.elim));subst o;subst t;simp;(repeat (rw[Ν];simp));apply j;refine Ζ rfl ?_;refine W.skip ?_;exact W.stop ⟨rfl,rfl,I⟩
  | false=>
   have f1:=(Prod.mk.inj (ah al)).1;refine Ζ rfl ?_;refine W.skip ?_;exact W.stop ⟨rfl,by rw[f1],I⟩
 clear ai ag ah Fd Fn aw au av;have H:=H S;have B:=B S;have C:=C S;obtain⟨P,V⟩:=ZG ((decide (a > 0)&&!Go.Sort.ltInt d3[a-1]! d3[M]!):Bool);rw[V] at H B C
 repeat apply Ξ
 refine W.M' (A:=[]) Ρ mixed [(87,Z4 P),(0,.ms 0 n 0 n),(1,J (a:Nat)),(2,J (b:Nat)),(3,J (D:Nat)),(8,Z4 wb),(9,Z4 wp),(10,J (l:Nat)),(11,J (M:Nat))] ?_ (by
  by_cases aK:0<a
  .obtain⟨p,ba⟩:=Η (a-1);have aX:p<n:=U;have aY:M<n:=U;obtain⟨L,x,y,bb,N,aZ,aD,⟨bc,bd⟩,⟨be,bf⟩,-,-⟩:=T1 J Q aX aY;have aL:P = !Go.Sort.ltInt x y:=by rw[<-V,<-ba,N,aZ];simp[aK]
   have aM:(0:Int)<(a:Int):=U
   have ak:i64.wrap ((a:Int)-1)=(p:Int):=by rw[i64_in _ U];omega
   rw[bb];clear N aZ;simp;(repeat (rw[ZK];simp[aK,aM,ak,aD,bc,bd,be,bf,aX,aY]));(try rw[ZL]);refine Yl (Ε.p (Ta x y) (ZM.refl _) I I) ?_;simp;(repeat (rw[ZK];simp));(try rw[ZL]);refine⟨XD (by kernel_rfl),?_⟩;simp[aL,Go.Sort.ltInt]
  .have aL:P=false:=by rw[<-V];simp[aK]
   have aM:a=0:=U;subst aM;simp;(repeat (rw[ZK];simp));(try rw[ZL]);refine⟨XD (by kernel_rfl),?_⟩;simp[aL])
 repeat apply Ξ
 rcases KF P with X|X
 .refine Α (by simp[X]) ?_;rw[X] at V;simp only[Wt,decide_eq_true_eq,Ku] at V;obtain⟨⟨mid,d4⟩,N⟩:∃r,Go.Sort.partitionEqual (Go.Sort.ltInt) d3 a b M=r:=⟨_,rfl⟩;obtain⟨Y,am,aN,ax,-⟩:=Go.Sort.round_eq Go.Sort.swo_ltInt (Go.Sort.partitionEqual_holds _) V.1 O.1 O.2 (by rw[Q];exact w) aV V.2 N;have H:=H X;rw[N] at H;have H:=H ⟨Y,am⟩;simp only at H;have E:=r6 d3 n a b M Q U O.1 O.2 w;rw[N] at E;simp only at E;refine Z' λK j=>?_;refine Μ.call (first:=[]) (captured:=[]) ((E).mono (λr s ⟨o,t⟩=>?_) (λ_ _ h=>h.elim));subst o;subst t;simp;(repeat (rw[Ν];simp));apply j;refine Τ ?_;refine W.exit rfl ?_;exact W.to (aC ⟨mid,b,D,wb,wp,d4⟩ ⟨aN.trans Q,am,w,ZD,ZD,ax,H.symm⟩ ZD) rfl I
 refine Ζ (by simp[X]) ?_;obtain⟨⟨mid,a0,d4⟩,N⟩:∃r,Go.Sort.partition (Go.Sort.ltInt) d3 a b M=r:=⟨_,rfl⟩;obtain⟨Y,am,aN,ax,aO,bg,a1⟩:=Go.Sort.round_part Go.Sort.swo_ltInt (Go.Sort.partition_holds _) O.1 O.2 (by rw[Q];exact w) aV N;have B:=B X;have C:=C X;rw[N] at B C;have B:=B ⟨Y,am⟩;have C:=C ⟨Y,am⟩;simp only at B C;have E:=r7 d3 n a b M Q U O.1 O.2 w;rw[N] at E;simp only at E;have ay:d4.size=n:=aN.trans Q;obtain⟨u,bh⟩:=Η (mid-a);obtain⟨v,hv⟩:=Η (b-mid);obtain⟨aP,a2⟩:=Η (l / 8);obtain⟨an,az⟩:=Η (mid+1);have a3:i64.wrap ((mid:Int)-(a:Int))=(u:Int):=by rw[i64_in _ U];omega
 have a4:i64.wrap ((b:Int)-(mid:Int))=(v:Int):=by rw[i64_in _ U];omega
 have a5:i64.wrap ((l:Int) / 8)=(aP:Int):=by rw[a2];exact OZ (m:=8) U
 have a6:i64.wrap ((mid:Int)+1)=(an:Int):=by rw[i64_in _ U];omega
 rw[<-bh,<-hv,<-aD,<-a2,<-az] at B C;refine Z' λK j=>?_;refine Μ.call (first:=[]) (captured:=[]) ((E).mono (λr s ⟨o,t⟩=>?_) (λ_ _ h=>h.elim));subst o;subst t;simp;(repeat (rw[Ν];simp));apply j;by_cases a7:u<v
 .have aQ:(u:Int)<(v:Int):=U
  refine Γ (Υ a3 (Υ a4 (Υ a5 @aQ))) ?_;refine Α I ?_;obtain⟨ab,aA⟩:=Go.Sort.pdq_sorts (Go.Sort.ltInt) Go.Sort.swo_ltInt d4 a mid D true true Y U ax;have ao:=aS (mid-a) U d4 a mid D ay (γ _) Y U U ax;have B:=B a7;obtain⟨B',-⟩:=bg _ ab aA;have ap:=ab.1.trans ay;obtain⟨Φ,aR⟩:=ZG (Go.Sort.pdq (Go.Sort.ltInt) d4 a mid D true true);rw[aR] at ao B B' ap;refine Z' λK j=>?_;apply j;refine Z' λK j=>?_;refine Μ.call (first:=[]) (captured:=[]) ((ao).mono (λr s ⟨o,t⟩=>?_) (λ_ _ h=>h.elim));subst o;subst t;simp;(repeat (rw[Ν];simp));apply j;refine Γ a6 ?_;exact W.to (aC ⟨an,b,D,decide (u>=aP),a0,Φ⟩ ⟨ap,ZD,w,ZD,ZD,by simp only;rw[az];exact B',B.symm⟩ ZD) rfl I
 .have aQ:¬(u:Int)<(v:Int):=U
  refine Γ (Υ a3 (Υ a4 (Υ a5 @aQ))) ?_;refine Ζ I ?_;obtain⟨ab,aA⟩:=Go.Sort.pdq_sorts (Go.Sort.ltInt) Go.Sort.swo_ltInt d4 (mid+1) b D true true U U aO;rw[<-az] at ab aA aO;have ao:=aS (b-an) U d4 an b D ay (γ _) U w U aO;have C:=C a7;rw[<-az] at a1;obtain⟨B',-⟩:=a1 _ ab aA;have ap:=ab.1.trans ay;obtain⟨Φ,aR⟩:=ZG (Go.Sort.pdq (Go.Sort.ltInt) d4 an b D true true);rw[aR] at ao C B' ap;refine Z' λK j=>?_;apply j;refine XB a6 λK j=>?_;refine Μ.call (first:=[]) (captured:=[]) ((ao).mono (λr s ⟨o,t⟩=>?_) (λ_ _ h=>h.elim));subst o;subst t;simp;(repeat (rw[Ν];simp));apply j;refine Τ ?_;exact W.to (aC ⟨a,mid,D,decide (v>=aP),a0,Φ⟩ ⟨ap,Y,ZD,ZD,ZD,B',C.symm⟩ ZD) rfl I
theorem HX:N5 255:=λl p=>by
 obtain⟨n,a⟩:=Η l.length;have t:Go.Sort.bitsLen n<=8:=(Go.Sort.bitsLen_le_iff n 8).2 U;have h:=rX n U n l.toArray 0 n (Go.Sort.bitsLen n) (by simp[a]) U U (γ _) U (.inl rfl);have b:=FI Go.Sort.swo_ltInt (λx y c f=>by simp[Go.Sort.ltInt] at c f;omega) l;rw[<-a] at b;have e:(λx y:Int=>!Go.Sort.ltInt y x)=λx y=>decide (x<=y):=by
  funext x y
  show(!decide (y<x))=decide (x<=y);by_cases q:y<x
  .rw[decide_eq_true q,decide_eq_false U];rfl
  .rw[decide_eq_false q,decide_eq_true U];rfl
 rw[b,e] at h;rw[<-a];clear b e;have u:(l.map J).length=n:=by rw[Yp,a]
 have g:l.toArray.toList=l:=rfl;rw[g] at h;refine Μ.body Ρ func132 rfl rfl ntmps132 rfl rfl I ?_;have i:=Yg (show n<2 ^ 62 by omega);have Φ:u64.wrap (n:Int)=n:=Qr U;have j:=a.symm;refine Γ j ?_;(repeat apply Ξ);refine Y9 λv k=>?_;simp;(repeat (rw[Ν];simp[i,Φ]));refine Ε.d (QK n U) (Z6 ?_);refine Μ.call (first:=[]) (captured:=[]) (h.mono (λr s ⟨m,o⟩=>?_) (λ_ _ h=>h.elim));subst m;subst o;simp;(repeat (rw[Ν];simp));apply k;exact W.nil ⟨_,rfl,rfl,rfl⟩
theorem rW {s:ψ} {p:Int×Int}:∀{n:Nat},n<=s.cells.length->0<Xh (YX s p).cells (-1) n->∀c,c<n->0<(X3 s p c).length:=by
 intro n
 induction n with
 | zero=>intro _ _ c a;omega
 | succ n b=>
  intro d h c a;rw[HZ p U] at h;by_cases e:c=n
  .subst e;exact Nat.pos_of_mul_pos_left h
  .exact b U (Nat.pos_of_mul_pos_right h) c U
theorem Mt {s:ψ} {f:Found} (d:f∈Z1 s):f.cells.length=s.cells.length/\∀c,c<s.cells.length->∃k,k<3/\f=YX s (Ze k)/\f.cells[c]?=some (X3 s (Ze k) c)/\0<(X3 s (Ze k) c).length:=by
 obtain⟨k,e,a,rfl⟩:=OY.1 d;refine⟨by simp[YX],λc b=>⟨k,e,rfl,by simp[YX,b],?_⟩⟩;rw[KT] at a;exact rW (γ _) a c b
theorem Bh {s:ψ} {p r:Int×Int} {c:Nat} (h:r∈X3 s p c):(-1<=r.1/\r.1<s.Ι.length)/\(-1<=r.2/\r.2<s.Ι.length):=Mu.1 (Vh.1 h).1
theorem Bg {s:ψ} {c:Nat} {lower:Bool} {x:Int} (e:c<s.cells.length):x∈Xo (Z1 s) c lower↔∃f∈Z1 s,∃r∈(f.cells[c]?).getD [],x=Vz lower r:=by
 unfold Xo N4;constructor
 .intro h;obtain⟨f,a,d⟩:=Qf.1 h;obtain⟨r,b,rfl⟩:=Zq.1 d;exact⟨f,a,r,b,rfl⟩
 .rintro⟨f,a,r,b,rfl⟩;exact Qf.2 ⟨f,a,Zq.2 ⟨r,b,rfl⟩⟩
theorem rV {s:ψ} {c:Nat} {lower:Bool} (a:c<s.cells.length) {x:Int} (h:x∈Xo (Z1 s) c lower):-1<=x/\x<s.Ι.length:=by
 obtain⟨f,d,r,b,rfl⟩:=(Bg a).1 h;obtain⟨k,_,_,e,_⟩:=(Mt d).2 c a;rw[e] at b;have:=Bh b;unfold Vz;cases lower<;>simp<;>omega
theorem FB {s:ψ} {c:Nat} {lower:Bool} (a:c<s.cells.length) (d:Z1 s≠[]):Xo (Z1 s) c lower≠[]:=by
 obtain⟨f,b⟩:=HK _ d;obtain⟨k,_,_,e,g⟩:=(Mt b).2 c a;obtain⟨r,i⟩:=HK _ (RQ.1 g);have:Vz lower r∈Xo (Z1 s) c lower:=(Bg a).2 ⟨f,b,r,by rw[e];exact i,rfl⟩;intro h;rw[h] at this;cases this
theorem Bf {s:ψ} (h:Yd s) (c:Nat) (lower:Bool) (d:c<s.cells.length):(Xo (Z1 s) c lower).length<=147:=by
 have i:∀F:List Found,(∀f∈F,f∈Z1 s)->(Xo F c lower).length<=F.length*49:=by
  intro F
  induction F with
  | nil=>intro _;simp[Xo]
  | cons f F j=>
   intro b;have l:=j λg a=>b g (by simp[a]);obtain⟨k,_,_,a,_⟩:=(Mt (b f I)).2 c d;have m:=KW h (Ze k) c;have e:Xo (f::F) c lower=N4 f c lower++Xo F c lower:=rfl;rw[e,VK,List.length_cons];have:(N4 f c lower).length<=49:=by unfold N4;rw[a];simpa using m
   omega
 have l:=i (Z1 s) λ_ h=>h
 have:=Re s;omega
theorem NR {s:ψ} (h:Yd s) (d:Z1 s≠[]) (lower:Bool):KZ s (Z1 s) lower 255 where
 Ut:=Qk (Re s) ZY
 cells f b:=⟨(Mt b).1,λc a=>by
  obtain⟨k,_,_,rfl⟩:=OY.1 b;have:=H0 h _ c a;omega⟩
 some c a:=⟨FB a d,by have:=Bf h c lower a;omega⟩
theorem Be {α:Type} [DecidableEq α] {x:α}:∀{l:List α} {a:α},x∈Vr a l\/x=a↔x∈l\/x=a:=by
 intro l
 induction l with
 | nil=>intro a;simp[Vr]
 | cons b l c=>
  intro a;unfold Vr;split
  .rename_i h;have h:b=a:=by simpa using h
   subst h;rw[c];simp only[Y6];exact⟨λh=>h.elim (λh=>.inl (.inr h)) .inr,λh=>h.elim (λh=>h.elim .inr .inl) .inr⟩
  .have:=c (a:=b);simp only[Y6] at this ⊢;constructor
   .rintro((h|h)|h)
    .exact .inl (.inl h)
    .rcases this.1 (.inl h) with h|h
     .exact .inl (.inr h)
     .exact .inl (.inl h)
    .exact .inr h
   .rintro((h|h)|h)
    .exact .inl (.inl h)
    .rcases this.2 (.inl h) with h|h
     .exact .inl (.inr h)
     .exact .inl (.inl h)
    .exact .inr h
theorem HW {α:Type} [DecidableEq α] {x:α} {l:List α}:x∈Yk l↔x∈l:=by
 cases l with
 | nil=>exact Iff.rfl
 | cons a l=>
  show x∈a::Vr a l↔_
  have:=Be (x:=x) (l:=l) (a:=a);simp only[Y6];constructor
  .rintro(h|h)
   .exact .inl h
   .rcases this.1 (.inl h) with h|h
    .exact .inr h
    .exact .inl h
  .rintro(h|h)
   .exact .inl h
   .rcases this.2 (.inl h) with h|h
    .exact .inr h
    .exact .inl h
theorem rU:∀{l:List Int} {a:Int},(a::l).Pairwise (·<=·)->(a::Vr a l).Pairwise (· < ·):=by
 intro l
 induction l with
 | nil=>intro a _;simp[Vr]
 | cons b l d=>
  intro a h;obtain⟨g,e⟩:=OJ.1 h;have i:=g b I;unfold Vr;split
  .rename_i q;have q:b=a:=by simpa using q
   subst q;exact d e
  .rename_i q;have q:b≠a:=by simpa using q
   have f:=d e;refine OJ.2 ⟨λy c=>?_,f⟩;rcases Y6.1 c with rfl|c
   .omega
   .have:=(OJ.1 f).1 y c;omega
theorem rT {l:List Int} (h:l.Pairwise (·<=·)):(Yk l).Pairwise (· < ·):=by
 cases l with
 | nil=>exact .nil
 | cons a l=>exact rU h
theorem rS {n:Nat}:∀{l:List Int} {a:Int},l.Pairwise (· < ·)->(∀x∈l,a<=x/\x<a+n)->l.length<=n:=by
 induction n with
 | zero=>
  intro l a _ h;cases l with
  | nil=>simp
  | cons x l=>have:=h x I;omega
 | succ n c=>
  intro l a d h;cases l with
  | nil=>simp
  | cons x l=>
   obtain⟨e,f⟩:=OJ.1 d;have g:=h x I;have:=c (a:=a+1) f λy b=>by have:=e y b;have:=h y (by simp[b]);omega
   simp only[List.length_cons];omega
theorem rR (l:List Int):(TM l).Pairwise (·<=·):=by
 have:=KE (le:=λx y:Int=>decide (x<=y)) (λa b c d e=>by simp at d e ⊢;omega) (λa b=>by simp;omega) l;exact this.imp λh=>by simpa using h
theorem rQ {x:Int} {l:List Int}:x∈TM l↔x∈l:=(NG _ _).mem_iff
theorem HV {F:List Found} {c:Nat} {lower:Bool} {x:Int}:x∈Yb F c lower↔x∈Xo F c lower:=by unfold Yb;rw[HW,rQ]
theorem Bd (F:List Found) (c:Nat) (lower:Bool):(Yb F c lower).Pairwise (· < ·):=rT (rR _)
theorem FA {s:ψ} {c:Nat} {lower:Bool} (a:c<s.cells.length) {x:Int} (h:x∈Yb (Z1 s) c lower):-1<=x/\x<s.Ι.length:=rV a (HV.1 h)
theorem Fz {s:ψ} {c:Nat} {lower:Bool} (b:c<s.cells.length):(Yb (Z1 s) c lower).length<=s.Ι.length+1:=
 rS (a:=-1) (Bd _ _ _) λx h=>by have:=FA b h;omega
end Go.TL
namespace Go.TL
open Go.IntWalk (i64_in)
open Go.IntKind (i64 u64)
open Go.Proofs.Tryz
open Go.Conc
variable [ZX]
section
variable {P:Program} {T:ZR} {A:List Nat} {m nt:Nat} {k:List Item} {env env':ω} {σ:Ο} {Z:X7} {E:Yn} {ops:Array Oper} {lo pu ids:List Nat}
def seen (ids:List Nat) (σ:Ο):List (Option Row):=ids.map λid=>σ[id]?
end
end Go.TL
namespace Go.TL
open Go.IntWalk (i64_in)
open Go.IntKind (i64 u64)
open Go.Proofs.Tryz
open Go.Proofs
@[simp] theorem mX:VF .bool=true:=rfl
end Go.TL
namespace Go.TL
open Go.IntWalk (i64_in)
open Go.IntKind (i64 u64)
open Go.Proofs.Tryz
open Go.Proofs
variable [ZX]
theorem Bc (F:List Found) (c:Nat):Xo F c true=(Xs F c).map (Vz true):=by
 unfold Xo Xs;rw[List.map_flatMap];rfl
theorem KS {s:ψ} (h:Yd s) (g:Z1 s≠[]) {c:Nat} (a:c<s.cells.length):(Z1 s).length<2 ^ 20/\(∀f∈Z1 s,c<f.cells.length/\∀d∈f.cells,d.length<2 ^ 20)/\Xs (Z1 s) c≠[]/\(Xs (Z1 s) c).length<=255:=by
 have b:=NR h g true
 have i:=FB (lower:=true) a g
 have j:=Bf h c true a;rw[Bc] at i j;rw[Yp] at j;refine⟨b.Ut,λf k=>⟨by rw[(b.cells f k).1];exact a,(b.cells f k).2⟩,λe=>i (by rw[e];rfl),U⟩
theorem Fy {s:ψ} (h:Yd s) {c:Nat} (a:c<s.cells.length):Sv s (Z1 s) c=if Z1 s=[] then([],9) else(VM (Z1 s) c,0):=by
 have e:(Xp s c (Z1 s)).2.2=if Z1 s=[] then 9 else 0:=by
  unfold Xp;rw[if_neg (by rw[h.err];simp),if_neg U];unfold Yr;rw[if_neg (by rw[h.err];simp)];by_cases q:Z1 s=[]
  .rw[if_pos ⟨rfl,q⟩,if_pos q]
  .rw[if_neg (λh=>q h.2),if_neg q]
 unfold Sv;rw[e];by_cases q:Z1 s=[]
 .rw[if_pos q,if_pos q];rfl
 .rw[if_neg q,if_neg q];rfl
theorem HU {s:ψ} (h:Yd s) {c:Nat} (a:c<s.cells.length) (b:S9 s (Z1 s)):Ε prog 62 [Yz s,J c] (.ZW [NS (Sv s (Z1 s) c).1,J (Sv s (Z1 s) c).2]):=
 r8 s h.small _ b c 255 ZY sy λe=>by
  have d:Z1 s≠[]:=λq=>by
   unfold Xp at e;rw[if_neg (by rw[h.err];simp),if_neg U] at e;unfold Yr at e;rw[if_neg (by rw[h.err];simp),if_pos ⟨rfl,q⟩] at e;cases e
  rw[Int.toNat_natCast];exact KS h d a
theorem Fx (F:List Found) (c:Nat):(VM F c).length<=(Xs F c).length:=by
 have:=w8 ((Xs F c).mergeSort X4) ((Xs F c).mergeSort X4).length;rw[OI,List.length_mergeSort] at this;exact this
end Go.TL
