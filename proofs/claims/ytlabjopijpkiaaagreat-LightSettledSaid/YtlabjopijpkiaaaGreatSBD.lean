import Derived.Test.YtlabjopijpkiaaaGreatSAS
import Derived.Test.YtlabjopijpkiaaaGreatSAZ
import Derived.Test.YtlabjopijpkiaaaGreatSBB
import Derived.Test.YtlabjopijpkiaaaGreatSBC
set_option maxHeartbeats 16000000
set_option maxRecDepth 20000
set_option linter.unusedSectionVars false
set_option linter.unusedSimpArgs false
set_option linter.unusedVariables false
namespace Go.TL
open Go.Proofs
variable [bm]
theorem gδ (d:Array (Int×Int)) (n a b c s:Nat) (Η:d.size=n) (ξ:a<n) (hb:b<n) (ζ:c<n) (ο:s<2 ^ 39) (an:θ) (cmp:Int×Int->Int×Int->Int) (bV:au 0 an) (Φ:∀x y,gj Tryz.prog an [az x,az y] (R (cmp x y))) :
  ak Tryz.prog 256 [.ms 0 n 0 n,R a,R b,R c,.al 1 1 0 0,an] [.cells 112 2 ((d).toList.map az),.cells 3 1 [R (s:Nat)]] (λr σ=>r=R (Go.Sort.median (av cmp) d a b c s).1/\σ=[.cells 112 2 ((d).toList.map az),.cells 3 1 [R ((Go.Sort.median (av cmp) d a b c s).2:Nat)]]) (λ_ _=>False):=by
 refine ak.body Ι Tryz.func256 rfl rfl Tryz.ntmps256 rfl rfl (by simp) ?_;obtain⟨r1,Ζ⟩:∃r,Go.Sort.order2 (av cmp) d a b s=r:=⟨_,rfl⟩;have f1:=Kc (av cmp) d (a:=a) (b:=b) (n:=n) (by omega) (by omega) s;have c1:=KB d n a b s Η (by omega) (by omega) (by omega) an cmp bV Φ;rw[Ζ] at f1 c1;obtain⟨a1,bG,s1⟩:=r1;simp only at f1 c1;obtain⟨r2,Ε⟩:∃r,Go.Sort.order2 (av cmp) d bG c s1=r:=⟨_,rfl⟩;have f2:=Kc (av cmp) d (a:=bG) (b:=c) (n:=n) (by omega) (by omega) s1;have c2:=KB d n bG c s1 Η (by omega) (by omega) (by omega) an cmp bV Φ;rw[Ε] at f2 c2;obtain⟨bl,dj,s2⟩:=r2;simp only at f2 c2;obtain⟨r3,aY⟩:∃r,Go.Sort.order2 (av cmp) d a1 bl s2=r:=⟨_,rfl⟩;have f3:=Kc (av cmp) d (a:=a1) (b:=bl) (n:=n) (by omega) (by omega) s2;have c3:=KB d n a1 bl s2 Η (by omega) (by omega) (by omega) an cmp bV Φ;rw[aY] at f3 c3;obtain⟨cz,fT,oK⟩:=r3;simp only at f3 c3;have hm:Go.Sort.median (av cmp) d a b c s=(fT,oK):=by unfold Go.Sort.median;simp only[Ζ,Ε,aY]
 rw[hm]
 repeat apply κ
 refine ν λη I=>?_;simp;(repeat (rw[δ];simp));apply I;(repeat apply κ);refine ν λη I=>?_;simp;(repeat (rw[δ];simp));refine ak.call (first:=[]) (captured:=[]) ((c1).mono (λr s ⟨ea,dT⟩=>?_) (λ_ _ h=>h.elim));subst ea;subst dT;simp;(repeat (rw[δ];simp));apply I;(repeat apply κ);refine ν λη I=>?_;simp;(repeat (rw[δ];simp));refine ak.call (first:=[]) (captured:=[]) ((c2).mono (λr s ⟨ea,dT⟩=>?_) (λ_ _ h=>h.elim));subst ea;subst dT;simp;(repeat (rw[δ];simp));apply I;(repeat apply κ);refine ν λη I=>?_;simp;(repeat (rw[δ];simp));refine ak.call (first:=[]) (captured:=[]) ((c3).mono (λr s ⟨ea,dT⟩=>?_) (λ_ _ h=>h.elim));subst ea;subst dT;simp;(repeat (rw[δ];simp));apply I;(repeat (first|apply κ|(refine ν λη I=>?_;simp;(repeat (rw[δ];simp));apply I)));exact W.ret ⟨_,rfl,rfl,rfl⟩
theorem gε (d:Array (Int×Int)) (n a b:Nat) (Η:d.size=n) (ο:n<2 ^ 38) (gL:a+12<b) (RO:b<a+50) (hb:b<=n) (an:θ) (cmp:Int×Int->Int×Int->Int) (bV:au 0 an) (Φ:∀x y,gj Tryz.prog an [az x,az y] (R (cmp x y))) :
  ak Tryz.prog 237 [.ms 0 n 0 n,R a,R b,an] [.cells 112 2 ((d).toList.map az)] (λr s=>r=.bn [R (Go.Sort.choosePivot (av cmp) d a b).1,R (yH (Go.Sort.choosePivot (av cmp) d a b).2)]/\s=[.cells 112 2 ((d).toList.map az)]) (λ_ _=>False):=by
 refine ak.body Ι Tryz.func237 rfl rfl Tryz.ntmps237 rfl rfl (by simp) ?_;obtain⟨l,ω⟩:∃l,l=b-a:=⟨_,rfl⟩;obtain⟨q,Ρ⟩:∃q,q=l / 4:=⟨_,rfl⟩;obtain⟨ew,KD⟩:∃x,x=q*2:=⟨_,rfl⟩;obtain⟨iE,gζ⟩:∃x,x=q*3:=⟨_,rfl⟩;obtain⟨i,hi⟩:∃x,x=a+q:=⟨_,rfl⟩;obtain⟨j,ε⟩:∃x,x=a+ew:=⟨_,rfl⟩;obtain⟨k,χ⟩:∃x,x=a+iE:=⟨_,rfl⟩;obtain⟨gg,em⟩:∃r,Go.Sort.median (av cmp) d i j k 0=r:=⟨_,rfl⟩;have KE:=gδ d n i j k 0 Η (by omega) (by omega) (by omega) (by omega) an cmp bV Φ;rw[em] at KE;obtain⟨oE,og⟩:=gg;simp only at KE;have dA:Go.Sort.choosePivot (av cmp) d a b=(oE,if og=0 then .increasing else if og=12 then .decreasing else .unknown):=by
  have nY:8<=l:=by omega
  have gη:¬50<=l:=by omega
  simp only[Go.Sort.choosePivot,<-ω,<-Ρ,Nat.mul_one,<-KD,<-gζ,<-hi,<-ε,<-χ,ge_iff_le,if_pos nY,if_neg gη,em]
 rw[dA];have s8:(8:Int)<=(l:Int):=by omega
 have gθ:¬(50:Int)<=(l:Int):=by omega
 have w1:IntKind.i64.wrap ((b:Int)-(a:Int))=(l:Int):=by rw[IntWalk.i64_in _ (by omega)];omega
 have w2:IntKind.i64.wrap ((l:Int) / 4)=(q:Int):=by rw[Ρ];exact Ft (m:=4) (by omega)
 have w3:IntKind.i64.wrap (q:Int)=(q:Int):=IntWalk.i64_in _ (by omega)
 have w4:IntKind.i64.wrap ((q:Int)*2)=(ew:Int):=by rw[IntWalk.i64_in _ (by omega)];omega
 have yM:IntKind.i64.wrap ((q:Int)*3)=(iE:Int):=by rw[IntWalk.i64_in _ (by omega)];omega
 have qG:IntKind.i64.wrap ((a:Int)+(q:Int))=(i:Int):=by rw[IntWalk.i64_in _ (by omega)];omega
 have qH:IntKind.i64.wrap ((a:Int)+(ew:Int))=(j:Int):=by rw[IntWalk.i64_in _ (by omega)];omega
 have wX:IntKind.i64.wrap ((a:Int)+(iE:Int))=(k:Int):=by rw[IntWalk.i64_in _ (by omega)];omega
 repeat apply κ
 refine ν λη I=>?_;simp;(repeat (rw[δ];simp));apply I
 repeat apply κ
 refine ν λη I=>?_;simp;(repeat (rw[δ];simp[w1]));apply I
 repeat apply κ
 refine dw (A:=[11]) Ι λη I=>?_;simp;(repeat (rw[δ];simp));apply I;(repeat (first|apply κ|(refine ν λη I=>?_;simp;(repeat (rw[δ];simp[w2,w3,w4,yM,qG,qH,wX,s8]));apply I)));refine aj (by simp) ?_;(repeat (first|apply κ|(refine ν λη I=>?_;simp;(repeat (rw[δ];simp[gθ]));apply I)));refine ah (by simp) ?_;(repeat apply κ);refine ν λη I=>?_;simp;(repeat (rw[δ];simp));refine ak.call (first:=[]) (captured:=[]) ((KE).mono (λr s ⟨ea,dT⟩=>?_) (λ_ _ h=>h.elim));subst ea;subst dT;simp;(repeat (rw[δ];simp));apply I
 repeat apply κ
 refine ν λη I=>?_;simp;(repeat (rw[δ];simp));apply I;refine W.drop (h:=1) (by simp) (by simp) (Rr sR) rfl [(13,R (oE:Nat)),(55,R (og:Nat))] (by simp) ?_;by_cases ag:og=0
 ·subst ag;(repeat (first|apply κ|(refine ν λη I=>?_;simp;(repeat (rw[δ];simp));apply I)));refine aj rfl ?_;(repeat (first|apply κ|(refine ν λη I=>?_;simp;(repeat (rw[δ];simp));apply I)));exact W.ret ⟨_,rfl,rfl,rfl⟩
 have gι:¬(og:Int)=0:=by omega
 (repeat (first|apply κ|(refine ν λη I=>?_;simp;(repeat (rw[δ];simp[gι]));apply I)));refine ah (by simp[ag]) ?_;by_cases j7:og=12
 ·subst j7;(repeat (first|apply κ|(refine ν λη I=>?_;simp;(repeat (rw[δ];simp));apply I)));refine aj rfl ?_;(repeat (first|apply κ|(refine ν λη I=>?_;simp;(repeat (rw[δ];simp));apply I)));exact W.ret ⟨_,rfl,rfl,rfl⟩
 have gκ:¬(og:Int)=12:=by omega
 (repeat (first|apply κ|(refine ν λη I=>?_;simp;(repeat (rw[δ];simp[gκ]));apply I)));refine ah (by simp[j7]) ?_;(repeat (first|apply κ|(refine ν λη I=>?_;simp;(repeat (rw[δ];simp));apply I)));exact W.ret ⟨_,rfl,by simp[ag,j7,yH],rfl⟩
theorem RP (d:Array (Int×Int)) (n a b:Nat) (Η:d.size=n) (ο:n<2 ^ 40) (gL:a<b) (RO:b<a+50) (hb:b<=n) (an:θ) (cmp:Int×Int->Int×Int->Int) (bV:au 0 an) (Φ:∀x y,gj Tryz.prog an [az x,az y] (R (cmp x y))) :
  ak Tryz.prog 239 [.ms 0 n 0 n,R a,R b,an] [.cells 112 2 ((d).toList.map az)] (λr s=>r=a4 (Go.Sort.partialInsertionSort (av cmp) d a b).2/\s=[.cells 112 2 (((Go.Sort.partialInsertionSort (av cmp) d a b).1).toList.map az)]) (λ_ _=>False):=by
 refine ak.body Ι Tryz.func239 rfl rfl Tryz.ntmps239 rfl rfl (by simp) ?_;obtain⟨a0,fj⟩:∃a0,Go.Sort.scanSorted (av cmp) d b (a+1)=a0:=⟨_,rfl⟩;have dA:Go.Sort.partialInsertionSort (av cmp) d a b=(d,decide (a0=b)):=by
  unfold Go.Sort.partialInsertionSort;rw[Go.Sort.partialIns,fj];by_cases h:a0=b
  ·simp[h]
  ·simp[h];omega
 rw[dA];have w1:=gY (i:=a) (by omega);(repeat (first|apply κ|(refine ν λη I=>?_;simp;(repeat (rw[δ];simp[w1]));apply I)));refine .loop ?_;(repeat (first|apply κ|(refine ν λη I=>?_;simp;(repeat (rw[δ];simp));apply I)));refine aj rfl ?_
 repeat apply κ
 refine W.rW [(0,.ms 0 n 0 n),(1,R a),(2,R b),(3,an),(9,R (a0:Nat))] [.cells 112 2 ((d).toList.map az)] ?_ ?_
 ·refine W.iter (λi:Nat=>a+1<=i/\i<=b/\Go.Sort.scanSorted (av cmp) d b i=a0) (λi=>[(0,.ms 0 n 0 n),(1,R a),(2,R b),(3,an),(9,R (i:Nat))]) (λ_=>[.cells 112 2 ((d).toList.map az)]) (λi=>b-i) (a+1) ⟨Nat.le_refl _,by omega,fj⟩ rfl (by simp[w1]) (λi hi Δ=>?_);obtain⟨mJ,jR,fp⟩:=hi;by_cases ζ:i<b
  ·obtain⟨p,ψ⟩:∃p,p=i-1:=⟨_,rfl⟩;have a9:i<n:=by omega
   have bp:p<n:=by omega
   obtain⟨L,x,y,aC,U,Ξ,ω,⟨J,γ⟩,⟨π,Μ⟩,-,-⟩:=jQ az Η a9 bp;have un:Go.Sort.scanSorted (av cmp) d b i=if(!av cmp x y)=true then Go.Sort.scanSorted (av cmp) d b (i+1) else i:=by rw[Go.Sort.scanSorted];simp[ζ,U,<-ψ,Ξ]
   have hw:=gY (i:=i) (by omega)
   have hO:IntKind.i64.wrap ((i:Int)-1)=(p:Int):=by rw[IntWalk.i64_in _ (by omega)];omega
   refine W.to (σ':=[.cells 112 2 L]) (env':=[(0,.ms 0 n 0 n),(1,R a),(2,R b),(3,an),(9,R (i:Nat))]) ?_ (by rw[aC]) (by simp);clear U Ξ
   repeat apply κ
   refine W.draw (A:=[]) Ι mixed λη I=>?_;simp;(repeat (rw[ba];simp[ζ,hO,ω,J,γ,π,Μ,a9,bp]));try rw[a']
   refine fI (Φ x y) ?_;simp;(repeat (rw[ba];simp));try rw[a']
   refine⟨bK (by kernel_rfl),I _ _ ?_⟩;by_cases hm:cmp x y<0
   ·refine ah (by simp[hm]) ?_;refine W.exit rfl ?_;exact W.stop ⟨rfl,by rw[aC],by rw[<-fp,un];simp[hm,av]⟩
   ·refine aj (by simp[hm]) ?_;(repeat (first|apply κ|(refine ν λη I=>?_;simp;(repeat (rw[δ];simp[hw]));apply I)));exact W.to (Δ (i+1) ⟨by omega,by omega,by rw[<-fp,un];simp[hm,av]⟩ (by(try simp only);omega)) (by rw[aC]) (by simp[hw])
  ·repeat apply κ
   refine W.draw (A:=[]) Ι mixed λη I=>?_;simp;(repeat (rw[ba];simp[ζ]));try rw[a']
   refine⟨bK (by kernel_rfl),I _ _ ?_⟩;refine ah rfl ?_;refine W.exit rfl ?_;have e:Go.Sort.scanSorted (av cmp) d b i=i:=by rw[Go.Sort.scanSorted];simp[ζ]
   exact W.stop ⟨rfl,rfl,by rw[<-fp,e];simp⟩
 by_cases Fz:a0=b
 ·have g:(a0:Int)=(b:Int):=by omega
  (repeat (first|apply κ|(refine ν λη I=>?_;simp;(repeat (rw[δ];simp[g]));apply I)));refine aj (by simp[Fz]) ?_;(repeat (first|apply κ|(refine ν λη I=>?_;simp;(repeat (rw[δ];simp));apply I)));exact W.ret ⟨_,rfl,by simp[Fz],rfl⟩
 ·have g:¬(a0:Int)=(b:Int):=by omega
  have af:((b-a:Nat):Int)<50:=by omega
  have w2:=Kg (a:=a) (b:=b) (by omega) (by omega);(repeat (first|apply κ|(refine ν λη I=>?_;simp;(repeat (rw[δ];simp[g]));apply I)));refine ah (by simp[Fz]) ?_;(repeat (first|apply κ|(refine ν λη I=>?_;simp;(repeat (rw[δ];simp[w2,af]));apply I)));refine aj (by simp) ?_;(repeat (first|apply κ|(refine ν λη I=>?_;simp;(repeat (rw[δ];simp));apply I)));exact W.ret ⟨_,rfl,by simp[Fz],rfl⟩
theorem gμ (l:Nat) (ω:l<256):ay Tryz.prog 226 [R l] (oC ((1 <<< Go.Sort.bitsLen l:Nat):Int)):=by
 refine ak.body Ι Tryz.func226 rfl rfl Tryz.ntmps226 rfl rfl (by simp) ?_;have Ε:IntKind.u64.wrap (l:Int)=l:=yI (by omega);(repeat (first|apply κ|(refine ν λη I=>?_;simp;(repeat (rw[δ];simp[Ε]));apply I)));(repeat apply κ);refine ν λη I=>?_;simp;(repeat (rw[δ];simp[Ε]));refine ay.c (wa l ω) (aK.refl _) (by simp) (by simp) ?_;simp;(repeat (rw[δ];simp));apply I;(repeat (first|apply κ|(refine ν λη I=>?_;simp;(repeat (rw[δ];simp));apply I)));refine W.ret ⟨_,rfl,.of ?_,rfl⟩;have hb:=(Go.Sort.bitsLen_le_iff l 8).2 ω;have e:=Kf 1 (Go.Sort.bitsLen l) (by omega);have aY:1*2 ^ Go.Sort.bitsLen l % 18446744073709551616=1 <<< Go.Sort.bitsLen l:=by
  rw[Nat.one_mul,Nat.one_shiftLeft,Nat.mod_eq_of_lt (Nat.lt_of_le_of_lt (Nat.pow_le_pow_right (by omega) hb) (by decide))]
 rw[aY] at e;show oC (IntKind.u64.wrap (2 ^ min (Go.Sort.bitsLen l) IntKind.u64.bits))=_;rw[<-e];simp
theorem gν (x:Nat) (U:x<2 ^ 64):ak Tryz.prog 227 [.al 0 1 0 0] [.cells 248 1 [oC (x:Int)]] (λr s=>r=oC ((Go.Sort.xorNextN x:Nat):Int)/\s=[.cells 248 1 [oC ((Go.Sort.xorNextN x:Nat):Int)]]) (λ_ _=>False):=by
 refine ak.body Ι Tryz.func227 rfl rfl Tryz.ntmps227 rfl rfl (by simp) ?_;obtain⟨eN,hX⟩:∃y,y=x*2 ^ 13 % 18446744073709551616:=⟨_,rfl⟩;obtain⟨nn,uR⟩:∃y,y=x^^^eN:=⟨_,rfl⟩;obtain⟨ej,hY⟩:∃y,y=nn / 2 ^ 7:=⟨_,rfl⟩;obtain⟨ss,FA⟩:∃y,y=nn^^^ej:=⟨_,rfl⟩;obtain⟨um,KF⟩:∃y,y=ss*2 ^ 17 % 18446744073709551616:=⟨_,rfl⟩;obtain⟨Ha,KG⟩:∃y,y=ss^^^um:=⟨_,rfl⟩;have dA:Go.Sort.xorNextN x=Ha:=by rw[KG,KF,FA,hY,uR,hX];rfl
 rw[dA];have l1:eN<2 ^ 64:=by omega
 have k1:nn<2 ^ 64:=by rw[uR];exact Nat.xor_lt_two_pow U l1
 have l2:ej<2 ^ 64:=by omega
 have cC:ss<2 ^ 64:=by rw[FA];exact Nat.xor_lt_two_pow k1 l2
 have oJ:um<2 ^ 64:=by omega
 have a1:=Kf x 13 (by omega);rw[<-hX] at a1;have bl:=Ke U l1;rw[<-uR] at bl;have cz:=fθ nn 7 (by omega);rw[<-hY] at cz;have gb:=Ke k1 l2;rw[<-FA] at gb;have hA:=Kf ss 17 (by omega);rw[<-KF] at hA;have md:=Ke cC oJ;rw[<-KG] at md;clear KG KF FA hY uR hX l1 k1 l2 cC oJ dA;(repeat (first|apply κ|(refine ν λη I=>?_;simp;(repeat (rw[δ];simp));apply I)));refine W.draw (A:=[]) Ι mixed λη I=>?_;simp;(repeat (rw[ba];simp[a1,bl]));try rw[a']
 refine⟨bK (by kernel_rfl),I _ _ ?_⟩;(repeat (first|apply κ|(refine ν λη I=>?_;simp;(repeat (rw[δ];simp));apply I)));refine W.draw (A:=[]) Ι mixed λη I=>?_;simp;(repeat (rw[ba];simp[cz,gb]));try rw[a']
 refine⟨bK (by kernel_rfl),I _ _ ?_⟩;(repeat (first|apply κ|(refine ν λη I=>?_;simp;(repeat (rw[δ];simp));apply I)));refine W.draw (A:=[]) Ι mixed λη I=>?_;simp;(repeat (rw[ba];simp[hA,md]));try rw[a']
 refine⟨bK (by kernel_rfl),I _ _ ?_⟩;(repeat (first|apply κ|(refine ν λη I=>?_;simp;(repeat (rw[δ];simp));apply I)));exact W.ret ⟨_,rfl,rfl,rfl⟩
theorem gξ (d:Array (Int×Int)) (n a b:Nat) (Η:d.size=n) (ο:n<2 ^ 40) (gL:a+12<b) (RO:b<a+50) (hb:b<=n) (an:θ) (cmp:Int×Int->Int×Int->Int) (bV:au 0 an) (Φ:∀x y,gj Tryz.prog an [az x,az y] (R (cmp x y))) :
  ak Tryz.prog 236 [.ms 0 n 0 n,R a,R b,an] [.cells 112 2 ((d).toList.map az)] (λr s=>r=.bn []/\s=[.cells 112 2 ((Go.Sort.breakPatterns d a b).toList.map az)]) (λ_ _=>False):=by
 refine ak.body Ι Tryz.func236 rfl rfl Tryz.ntmps236 rfl rfl (by simp) ?_;obtain⟨l,ω⟩:∃l,l=b-a:=⟨_,rfl⟩;obtain⟨q,Ρ⟩:∃q,q=l / 4:=⟨_,rfl⟩;obtain⟨ew,KD⟩:∃x,x=q*2:=⟨_,rfl⟩;obtain⟨c,ζ⟩:∃x,x=a+ew:=⟨_,rfl⟩;obtain⟨dD,jz⟩:∃x,x=c-1:=⟨_,rfl⟩;obtain⟨c1,ns⟩:∃x,x=c+1:=⟨_,rfl⟩;obtain⟨m,hm⟩:∃x,x=1 <<< Go.Sort.bitsLen l:=⟨_,rfl⟩;have gο:Go.Sort.bitsLen l<=6:=(Go.Sort.bitsLen_le_iff l 6).2 (by omega);have H6:l<m/\m<=64/\m<=2*l:=by
  have J:=Go.Sort.lt_two_pow_bitsLen l
  have γ:=Go.Sort.two_pow_bitsLen_le (n:=l) (by omega);rw[hm,Nat.one_shiftLeft];exact⟨J,Nat.le_trans (Nat.pow_le_pow_right (by omega) gο) (by decide),γ⟩
 obtain⟨Ω,l6⟩:∃Ω,yG a l m 3 dD (UInt64.ofNat l,d)=Ω:=⟨_,rfl⟩;have dA:Go.Sort.breakPatterns d a b=Ω.2:=by rw[fζ (c:=c) ω (by omega) (by rw[ζ,KD,Ρ]),<-hm,<-jz,l6]
 rw[dA];have w1:IntKind.i64.wrap ((b:Int)-(a:Int))=(l:Int):=by rw[IntWalk.i64_in _ (by omega)];omega
 have w2:IntKind.i64.wrap ((l:Int) / 4)=(q:Int):=by rw[Ρ];exact Ft (m:=4) (by omega)
 have w4:IntKind.i64.wrap ((q:Int)*2)=(ew:Int):=by rw[IntWalk.i64_in _ (by omega)];omega
 have qG:IntKind.i64.wrap ((a:Int)+(ew:Int))=(c:Int):=by rw[IntWalk.i64_in _ (by omega)];omega
 have qH:IntKind.i64.wrap ((c:Int)-1)=(dD:Int):=by rw[IntWalk.i64_in _ (by omega)];omega
 have wX:IntKind.i64.wrap ((c:Int)+1)=(c1:Int):=by rw[IntWalk.i64_in _ (by omega)];omega
 have gπ:IntKind.u64.wrap (l:Int)=(l:Int):=yI (by omega)
 have gρ:IntKind.u64.wrap ((m:Int)-1)=((m-1:Nat):Int):=by
  have e:(m:Int)-1=((m-1:Nat):Int):=by omega
  rw[e];exact yI (by omega)
 have s8:(8:Int)<=(l:Int):=by omega
 have cv:(UInt64.ofNat l).toNat=l:=by rw[UInt64.toNat_ofNat'];exact Nat.mod_eq_of_lt (by omega)
 (repeat (first|apply κ|(refine ν λη I=>?_;simp;(repeat (rw[δ];simp[w1,s8]));apply I)));refine aj (by simp) ?_
 repeat apply κ
 refine dw (A:=[9]) Ι λη I=>?_;simp;(repeat (rw[δ];simp[gπ]));apply I;have Dj:=gμ l (by omega);rw[<-hm] at Dj;(repeat apply κ);refine ν λη I=>?_;simp;(repeat (rw[δ];simp));refine ay.c Dj (aK.refl _) (by simp) (by simp) ?_;simp;(repeat (rw[δ];simp));apply I;(repeat (first|apply κ|(refine ν λη I=>?_;simp;(repeat (rw[δ];simp[w2,w4,qG,qH]));apply I)));refine W.iter (λy:Nat×UInt64×Array (Int×Int)=>y.1<=3/\y.2.2.size=n/\yG a l m y.1 (c+2-y.1) y.2=Ω) (λy=>[(0,.ms 0 n 0 n),(1,R a),(8,R (l:Nat)),(9,.al 1 1 0 0),(10,oC (m:Nat)),(11,R (c+2-y.1:Nat))]) (λy=>[.cells 112 2 ((y.2.2).toList.map az),.cells 248 1 [oC ((y.2.1.toNat:Nat):Int)]]) (λy=>y.1) (3,UInt64.ofNat l,d) ⟨Nat.le_refl _,Η,by simp only;rw[<-l6,show c+2-3=dD by omega]⟩ (by simp only;rw[cv]) (by simp[jz]) (λy Ξ Δ=>?_);obtain⟨t,st,e⟩:=y;obtain⟨Ο,e4,bb⟩:=Ξ;simp only at Ο e4 bb;obtain⟨bZ,o1⟩:∃x,x=c+2-t:=⟨_,rfl⟩;obtain⟨x,U⟩:∃x,x=st.toNat:=⟨_,rfl⟩;have tV:x<2 ^ 64:=by rw[U];exact st.toNat_lt
 rw[<-o1] at bb;refine W.to (σ':=[.cells 112 2 ((e).toList.map az),.cells 248 1 [oC ((x:Nat):Int)]]) (env':=[(0,.ms 0 n 0 n),(1,R a),(8,R (l:Nat)),(9,.al 1 1 0 0),(10,oC (m:Nat)),(11,R (bZ:Nat))]) ?_ (by rw[U]) (by simp[o1]);cases t with
 | zero=>
  have g:¬(bZ:Int)<=(c1:Int):=by omega
  (repeat (first|apply κ|(refine ν λη I=>?_;simp;(repeat (rw[δ];simp[w2,w4,qG,wX,g]));apply I)));refine ah (by simp) ?_;refine W.exit rfl ?_;refine W.drop (h:=1) (by simp) (by simp) (Rr sR) rfl [] (by simp) ?_;exact W.nil ⟨_,rfl,rfl,by rw[<-bb];rfl⟩
 | succ t=>
  have g:(bZ:Int)<=(c1:Int):=by omega
  obtain⟨FB,Ca⟩:∃s,s=Go.Sort.xorNext st:=⟨_,rfl⟩;obtain⟨kO,my⟩:∃x,x=FB.toNat:=⟨_,rfl⟩;have gς:kO=Go.Sort.xorNextN x:=by rw[my,Ca,Go.Sort.xorNext_toNat,U]
  have gτ:kO<2 ^ 64:=by rw[my];exact FB.toNat_lt
  have RQ:=gν x tV;rw[<-gς] at RQ;obtain⟨z,Θ⟩:∃z,z=kO&&&(m-1):=⟨_,rfl⟩;have gl:z<=m-1:=by rw[Θ];exact Nat.and_le_right
  have aZ:eS .u64 (kO:Int) ((m-1:Nat):Int)=(z:Int):=by rw[Θ];exact fι gτ (by omega)
  have gυ:IntKind.i64.wrap (z:Int)=(z:Int):=IntWalk.i64_in _ (by omega);obtain⟨o,Γ⟩:∃o,o=if z>=l then z-l else z:=⟨_,rfl⟩
  have zR:o<l:=by rw[Γ];split<;>omega
  have tg:yG a l m t (bZ+1) (FB,Go.Sort.swp e bZ (a+o))=Ω:=by
   rw[<-bb];show _=yG a l m t (bZ+1) (Go.Sort.breakStep a l m (st,e) bZ);unfold Go.Sort.breakStep;simp only;rw[<-Ca,<-my,<-Θ,<-Γ]
  obtain⟨FC,FD⟩:∃x,x=a+o:=⟨_,rfl⟩;rw[<-FD] at tg;(repeat (first|apply κ|(refine ν λη I=>?_;simp;(repeat (rw[δ];simp[w2,w4,qG,wX,g]));apply I)));refine aj (by simp) ?_;(repeat apply κ);refine ν λη I=>?_;simp;(repeat (rw[δ];simp));refine ak.one RQ 1 rfl (by simp[iG]) (by simp[iG]) (by simp[ga,o8]) (by simp[ga,o8]) rfl ?_;simp[dM,hH];(repeat (rw[δ];simp[gρ,aZ,gυ]));apply I;refine W.to (σ':=[.cells 112 2 ((e).toList.map az),.cells 248 1 [oC ((kO:Nat):Int)]]) (env':=[(0,.ms 0 n 0 n),(1,R a),(8,R (l:Nat)),(9,.al 1 1 0 0),(10,oC (m:Nat)),(11,R (bZ:Nat)),(12,R (z:Nat))]) ?_ rfl (by simp);(repeat (first|apply κ|(refine ν λη I=>?_;simp;(repeat (rw[δ];simp));apply I)));refine W.upto [(0,.ms 0 n 0 n),(1,R a),(8,R (l:Nat)),(9,.al 1 1 0 0),(10,oC (m:Nat)),(11,R (bZ:Nat)),(12,R (o:Nat))] [.cells 112 2 ((e).toList.map az),.cells 248 1 [oC ((kO:Nat):Int)]] ?_ ?_
  ·by_cases o5:l<=z
   ·have wo:IntKind.i64.wrap ((z:Int)-(l:Int))=(o:Int):=by rw[IntWalk.i64_in _ (by omega),Γ,if_pos o5];omega
    refine aj (by simp[o5]) ?_;(repeat (first|apply κ|(refine ν λη I=>?_;simp;(repeat (rw[δ];simp[wo]));apply I)));exact W.stop ⟨rfl,rfl,by simp⟩
   ·refine ah (by simp[o5]) ?_
    repeat apply κ
    exact W.stop ⟨rfl,rfl,by simp[Γ,o5]⟩
  have gφ:IntKind.i64.wrap ((a:Int)+(o:Int))=(FC:Int):=by rw[IntWalk.i64_in _ (by omega)];omega
  have a9:bZ<n:=by omega
  have bp:FC<n:=by omega
  obtain⟨L,x,y,aC,U,Ξ,ω,⟨J,γ⟩,⟨π,Μ⟩,eH,kn,aA⟩:=jQ az e4 a9 bp;rw[aC];clear U Ξ
  repeat apply κ
  refine W.draw (A:=[]) Ι mixed λη I=>?_;simp;(repeat (rw[ba];simp[ω,J,γ,π,Μ,aA,a9,bp,gφ]));try rw[a']
  refine⟨bK (by kernel_rfl),I _ _ ?_⟩;have gχ:=gY (i:=bZ) (by omega);(repeat (first|apply κ|(refine ν λη I=>?_;simp;(repeat (rw[δ];simp[gχ]));apply I)));refine W.to (Δ (t,FB,Go.Sort.swp e bZ FC) ⟨by(try simp only);omega,swp_size e4 bZ FC,?_⟩ (by simp)) (by rw[eH,my]) (by simp[show c+2-t=bZ+1 by omega]);have Ζ:c+2-t=bZ+1:=by omega
  simp only;rw[Ζ];exact tg
theorem gψ (n:Nat) (ο:n<50) (an:θ) (cmp:Int×Int->Int×Int->Int) (bV:au 0 an) (Φ:∀x y,gj Tryz.prog an [az x,az y] (R (cmp x y))) (e5:Go.Sort.SWO (av cmp)):∀(k:Nat) (d:Array (Int×Int)) (a b lim:Nat),d.size=n->b-a<=k->a<=b->b<=n->lim<2 ^ 40->Go.Sort.Below (av cmp) a b d->
  ak Tryz.prog 211 [.ms 0 n 0 n,R a,R b,R lim,an] [.cells 112 2 ((d).toList.map az)] (λr s=>r=.bn []/\s=[.cells 112 2 ((Go.Sort.pdq (av cmp) d a b lim true true).toList.map az)]) (λ_ _=>False):=by
 intro k
 induction k using Nat.strongRecOn with
 | _ k xw=>
 intro d a b lim Η χ gL hb FE e';refine ak.body Ι Tryz.func211 rfl rfl Tryz.ntmps211 rfl rfl (by simp) ?_;obtain⟨Ω,l6⟩:∃Ω,Go.Sort.pdq (av cmp) d a b lim true true=Ω:=⟨_,rfl⟩;rw[l6];(repeat (first|apply κ|(refine ν λη I=>?_;simp;(repeat (rw[δ];simp));apply I)));refine W.iter (λq:fε (Int×Int)=>q.e.size=n/\q.a<=q.b/\q.b<=n/\q.b-q.a<=k/\q.lim<2 ^ 40/\Go.Sort.Below (av cmp) q.a q.b q.e/\Go.Sort.pdq (av cmp) q.e q.a q.b q.lim q.wb q.wp=Ω) (λq=>[(0,.ms 0 n 0 n),(1,R (q.a:Nat)),(2,R (q.b:Nat)),(3,R (q.lim:Nat)),(4,an),(10,a4 q.wb),(11,a4 q.wp)]) (λq=>[.cells 112 2 ((q.e).toList.map az)]) (λq=>q.b-q.a) ⟨a,b,lim,true,true,d⟩ ⟨Η,gL,hb,χ,FE,e',l6⟩ rfl (by simp) (λq Ρ Δ=>?_);clear l6 e' FE hb gL χ;obtain⟨a,b,lim,wb,wp,e⟩:=q;obtain⟨e4,gL,hb,χ,FE,e',bb⟩:=Ρ;simp only at e4 gL hb χ FE e' bb;obtain⟨l,ω⟩:∃l,l=b-a:=⟨_,rfl⟩;have w1:IntKind.i64.wrap ((b:Int)-(a:Int))=(l:Int):=by rw[IntWalk.i64_in _ (by omega)];omega
 refine W.to (σ':=[.cells 112 2 ((e).toList.map az)]) (env':=[(0,.ms 0 n 0 n),(1,R (a:Nat)),(2,R (b:Nat)),(3,R (lim:Nat)),(4,an),(10,a4 wb),(11,a4 wp)]) ?_ rfl (by simp);by_cases j7:b-a<=12
 ·have g:(l:Int)<=12:=by omega
  (repeat (first|apply κ|(refine ν λη I=>?_;simp;(repeat (rw[δ];simp[w1,g]));apply I)));refine aj (by simp) ?_;(repeat apply κ);refine ν λη I=>?_;simp;(repeat (rw[δ];simp));refine ak.call (first:=[]) (captured:=[]) ((Oi e n a b e4 gL hb (by omega) an cmp bV Φ).mono (λr s ⟨ea,dT⟩=>?_) (λ_ _ h=>h.elim));subst ea;subst dT;simp;(repeat (rw[δ];simp));apply I;rw[Go.Sort.pdq_small j7] at bb;exact W.ret ⟨_,rfl,rfl,by rw[<-bb]⟩
 have g:¬(l:Int)<=12:=by omega
 (repeat (first|apply κ|(refine ν λη I=>?_;simp;(repeat (rw[δ];simp[w1,g]));apply I)));refine ah (by simp) ?_;by_cases ag:lim=0
 ·have cP:(lim:Int)=0:=by omega
  (repeat (first|apply κ|(refine ν λη I=>?_;simp;(repeat (rw[δ];simp[cP]));apply I)));refine aj (by simp[ag]) ?_;(repeat apply κ);refine ν λη I=>?_;simp;(repeat (rw[δ];simp));refine ak.call (first:=[]) (captured:=[]) ((fΧ e n a b e4 (by omega) (by omega) hb an cmp bV Φ).mono (λr s ⟨ea,dT⟩=>?_) (λ_ _ h=>h.elim));subst ea;subst dT;simp;(repeat (rw[δ];simp));apply I;rw[Go.Sort.pdq_heap j7 ag] at bb;exact W.ret ⟨_,rfl,rfl,by rw[<-bb]⟩
 have cP:¬(lim:Int)=0:=by omega
 (repeat (first|apply κ|(refine ν λη I=>?_;simp;(repeat (rw[δ];simp[cP]));apply I)));refine ah (by simp[ag]) ?_;(repeat (first|apply κ|(refine ν λη I=>?_;simp;(repeat (rw[δ];simp));apply I)));have F:=Go.Sort.rd_facts (limit:=lim) (wb:=wb) (wp:=wp) e5 Go.Sort.partialInsertionSort_holds Go.Sort.reverseRange_holds (by omega:a<b) (by omega) e';have RR:=Go.Sort.rd_lim_le (lt:=(av cmp)) (d:=e) (a:=a) (b:=b) (limit:=lim) (wb:=wb) (wp:=wp);have FF:=λh:wb=false=>show(Go.Sort.rd (av cmp) e a b lim wb wp).d1=Go.Sort.breakPatterns e a b/\(Go.Sort.rd (av cmp) e a b lim wb wp).lim=lim-1 by subst h;exact Go.Sort.rd_false
 have FG:=λh:wb=true=>show(Go.Sort.rd (av cmp) e a b lim wb wp).d1=e/\(Go.Sort.rd (av cmp) e a b lim wb wp).lim=lim by subst h;exact Go.Sort.rd_true
 have FH:=Go.Sort.rd_c (lt:=(av cmp)) (d:=e) (a:=a) (b:=b) (limit:=lim) (wb:=wb) (wp:=wp)
 have Fd:=Go.Sort.rd_dec (lt:=(av cmp)) (d:=e) (a:=a) (b:=b) (limit:=lim) (wb:=wb) (wp:=wp)
 have Fn:=Go.Sort.rd_not (lt:=(av cmp)) (d:=e) (a:=a) (b:=b) (limit:=lim) (wb:=wb) (wp:=wp)
 have Bv:=Go.Sort.rd_pi_yes (lt:=(av cmp)) (d:=e) (a:=a) (b:=b) (limit:=lim) (wb:=wb) (wp:=wp)
 have Bw:=Go.Sort.rd_pi_no (lt:=(av cmp)) (d:=e) (a:=a) (b:=b) (limit:=lim) (wb:=wb) (wp:=wp)
 have pE:=Go.Sort.pdq_done (lt:=(av cmp)) (d:=e) (wb:=wb) (wp:=wp) j7 ag
 have m4:=Go.Sort.pdq_eq (lt:=(av cmp)) (d:=e) (wb:=wb) (wp:=wp) j7 ag
 have ll:=Go.Sort.pdq_left (lt:=(av cmp)) (d:=e) (wb:=wb) (wp:=wp) j7 ag
 have ln:=Go.Sort.pdq_right (lt:=(av cmp)) (d:=e) (wb:=wb) (wp:=wp) j7 ag;rw[bb] at pE m4 ll ln;obtain⟨r,μ⟩:∃r,Go.Sort.rd (av cmp) e a b lim wb wp=r:=⟨_,rfl⟩;rw[μ] at F RR FF FG FH Fd Fn Bv Bw pE m4 ll ln;clear μ;obtain⟨d1,g0,⟨KH,ch⟩,d2,oE,Bx,d3,done⟩:=r;simp only at F RR FF FG FH Fd Fn Bv Bw pE m4 ll ln;obtain⟨KI,mη,mθ,KJ,mι,u1,u2,RS⟩:=F;rw[e4] at KI KJ u2;refine W.upto [(0,.ms 0 n 0 n),(1,R (a:Nat)),(2,R (b:Nat)),(3,R (g0:Nat)),(4,an),(10,a4 wb),(11,a4 wp),(12,R (l:Nat))] [.cells 112 2 ((d1).toList.map az)] ?_ ?_
 ·cases wb with
  | false=>
   obtain⟨f1,f2⟩:=FF rfl;refine aj rfl ?_;(repeat apply κ);refine ν λη I=>?_;simp;(repeat (rw[δ];simp));refine ak.call (first:=[]) (captured:=[]) ((gξ e n a b e4 (by omega) (by omega) (by omega) hb an cmp bV Φ).mono (λr s ⟨ea,dT⟩=>?_) (λ_ _ h=>h.elim));subst ea;subst dT;simp;(repeat (rw[δ];simp));apply I;have w2:=oD (i:=lim) (by omega) (by omega);refine ν λη I=>?_;simp;(repeat (rw[δ];simp[w2]));apply I;exact W.stop ⟨rfl,by rw[f1],by simp[f2]⟩
  | true=>
   obtain⟨f1,f2⟩:=FG rfl;refine ah rfl ?_;refine W.skip ?_;exact W.stop ⟨rfl,by rw[f1],by simp[f2]⟩
 have KL:=gε d1 n a b KI (by omega) (by omega) (by omega) hb an cmp bV Φ;rw[<-FH] at KL;simp only at KL;(repeat apply κ);refine ν λη I=>?_;simp;(repeat (rw[δ];simp));refine ak.call (first:=[]) (captured:=[]) ((KL).mono (λr s ⟨ea,dT⟩=>?_) (λ_ _ h=>h.elim));subst ea;subst dT;simp;(repeat (rw[δ];simp));apply I;refine W.to (σ':=[.cells 112 2 ((d1).toList.map az)]) (env':=[(0,.ms 0 n 0 n),(1,R (a:Nat)),(2,R (b:Nat)),(3,R (g0:Nat)),(4,an),(10,a4 wb),(11,a4 wp),(12,R (l:Nat)),(13,R (KH:Nat)),(14,R (yH ch))]) ?_ rfl (by simp);(repeat (first|apply κ|(refine ν λη I=>?_;simp;(repeat (rw[δ];simp));apply I)));refine W.upto [(0,.ms 0 n 0 n),(1,R (a:Nat)),(2,R (b:Nat)),(3,R (g0:Nat)),(4,an),(10,a4 wb),(11,a4 wp),(12,R (l:Nat)),(13,R (oE:Nat)),(14,R (yH Bx))] [.cells 112 2 ((d2).toList.map az)] ?_ ?_
 ·by_cases hd:ch=.decreasing
  ·obtain⟨f1,f2,f3⟩:=Fd hd;subst hd;refine aj rfl ?_;(repeat apply κ);refine ν λη I=>?_;simp;(repeat (rw[δ];simp));refine ak.call (first:=[]) (captured:=[]) ((gα d1 n a b KI (by omega) (by omega) hb an cmp bV Φ).mono (λr s ⟨ea,dT⟩=>?_) (λ_ _ h=>h.elim));subst ea;subst dT;simp;(repeat (rw[δ];simp));apply I;have w2:=oD (i:=b) (by omega) (by omega);have w3:=Kg (a:=a) (b:=KH) (by omega) (by omega);have w4:=Kg (a:=KH-a) (b:=b-1) (by omega) (by omega);rw[<-f2] at w4;refine W.seq ?_;refine ν λη I=>?_;simp;(repeat (rw[δ];simp[w2,w3,w4]));apply I;refine ν λη I=>?_;simp;(repeat (rw[δ];simp));apply I;exact W.stop ⟨rfl,by rw[f1],by simp[f3,yH]⟩
  ·obtain⟨f1,f2,f3⟩:=Fn hd;refine ah (by cases ch with
    | decreasing=>exact absurd rfl hd
    | unknown=>rfl
    | increasing=>rfl) ?_
   refine W.skip ?_;exact W.stop ⟨rfl,by rw[f1],by simp[f2,f3]⟩
 repeat apply κ
 refine W.sJ (A:=[]) Ι [(75,a4 (wb&&wp&&decide (Bx=.increasing))),(0,.ms 0 n 0 n),(1,R (a:Nat)),(2,R (b:Nat)),(3,R (g0:Nat)),(4,an),(10,a4 wb),(11,a4 wp),(12,R (l:Nat)),(13,R (oE:Nat))] ?_ (by cases wb<;>cases wp<;>cases Bx<;>simp[δ,qc,yH])
 repeat apply κ
 rcases Bool.eq_false_or_eq_true done with kM|kM
 ·cases ζ:(wb&&wp&&decide (Bx=.increasing)) with
  | true=>
   have f:=Bv ζ;refine aj rfl ?_;have m5:=RP d2 n a b KJ (by omega) (by omega) (by omega) hb an cmp bV Φ;rw[<-f] at m5;simp only[kM] at m5;(repeat apply κ);refine ν λη I=>?_;simp;(repeat (rw[δ];simp));refine ak.call (first:=[]) (captured:=[]) ((m5).mono (λr s ⟨ea,dT⟩=>?_) (λ_ _ h=>h.elim));subst ea;subst dT;simp;(repeat (rw[δ];simp));apply I;refine aj rfl ?_;exact W.ret ⟨_,rfl,rfl,by rw[pE kM]⟩
  | false=>
   have f:=(Prod.mk.inj (Bw ζ)).2;rw[kM] at f;cases f
 refine W.upto [(0,.ms 0 n 0 n),(1,R (a:Nat)),(2,R (b:Nat)),(3,R (g0:Nat)),(4,an),(10,a4 wb),(11,a4 wp),(12,R (l:Nat)),(13,R (oE:Nat))] [.cells 112 2 ((d3).toList.map az)] ?_ ?_
 ·cases ζ:(wb&&wp&&decide (Bx=.increasing)) with
  | true=>
   have f:=Bv ζ;refine aj rfl ?_;have m5:=RP d2 n a b KJ (by omega) (by omega) (by omega) hb an cmp bV Φ;rw[<-f] at m5;simp only[kM] at m5;(repeat apply κ);refine ν λη I=>?_;simp;(repeat (rw[δ];simp));refine ak.call (first:=[]) (captured:=[]) ((m5).mono (λr s ⟨ea,dT⟩=>?_) (λ_ _ h=>h.elim));subst ea;subst dT;simp;(repeat (rw[δ];simp));apply I;refine ah rfl ?_;refine W.skip ?_;exact W.stop ⟨rfl,rfl,by simp⟩
  | false=>
   have f1:=(Prod.mk.inj (Bw ζ)).1;refine ah rfl ?_;refine W.skip ?_;exact W.stop ⟨rfl,by rw[f1],by simp⟩
 clear pE Bv Bw Fd Fn FH FF FG;have m4:=m4 kM;have ll:=ll kM;have ln:=ln kM;obtain⟨P,wY⟩:∃P:Bool,(decide (a > 0)&&!av cmp d3[a-1]! d3[oE]!)=P:=⟨_,rfl⟩;rw[wY] at m4 ll ln
 repeat apply κ
 refine W.DU (A:=[]) Ι mixed [(97,a4 P),(0,.ms 0 n 0 n),(1,R (a:Nat)),(2,R (b:Nat)),(3,R (g0:Nat)),(4,an),(10,a4 wb),(11,a4 wp),(12,R (l:Nat)),(13,R (oE:Nat))] ?_ (by
  by_cases ξ:0<a
  ·obtain⟨p,ψ⟩:∃p,p=a-1:=⟨_,rfl⟩;have a9:p<n:=by omega
   have bp:oE<n:=by omega
   obtain⟨L,x,y,aC,U,Ξ,ω,⟨J,γ⟩,⟨π,Μ⟩,-,-⟩:=jQ az u2 a9 bp;have KM:P = !av cmp x y:=by rw[<-wY,<-ψ,U,Ξ];simp[ξ]
   have dO:(0:Int)<(a:Int):=by omega
   have w2:IntKind.i64.wrap ((a:Int)-1)=(p:Int):=by rw[IntWalk.i64_in _ (by omega)];omega
   rw[aC];clear U Ξ;simp;(repeat (rw[ba];simp[ξ,dO,w2,ω,J,γ,π,Μ,a9,bp]));(try rw[a']);refine fI (Φ x y) ?_;simp;(repeat (rw[ba];simp));(try rw[a']);refine⟨bK (by kernel_rfl),?_⟩;simp[KM,av]
  ·have KM:P=false:=by rw[<-wY];simp[ξ]
   have dO:a=0:=by omega
   subst dO;simp;(repeat (rw[ba];simp));(try rw[a']);refine⟨bK (by kernel_rfl),?_⟩;simp[KM])
 repeat apply κ
 rcases Bool.eq_false_or_eq_true P with wZ|wZ
 ·refine aj (by simp[wZ]) ?_;rw[wZ] at wY;simp only[Bool.and_eq_true,decide_eq_true_eq,Bool.not_eq_true'] at wY;obtain⟨⟨mid,d4⟩,U⟩:∃r,Go.Sort.partitionEqual (av cmp) d3 a b oE=r:=⟨_,rfl⟩;obtain⟨eN,ej,um,x2,-⟩:=Go.Sort.round_eq e5 (Go.Sort.partitionEqual_holds _) wY.1 u1.1 u1.2 (by rw[u2];exact hb) RS wY.2 U;have m4:=m4 wZ;rw[U] at m4;have m4:=m4 ⟨eN,ej⟩;simp only at m4;have m5:=fΤ d3 n a b oE u2 (by omega) u1.1 u1.2 hb an cmp bV Φ;rw[U] at m5;simp only at m5;(repeat apply κ);refine ν λη I=>?_;simp;(repeat (rw[δ];simp));refine ak.call (first:=[]) (captured:=[]) ((m5).mono (λr s ⟨ea,dT⟩=>?_) (λ_ _ h=>h.elim));subst ea;subst dT;simp;(repeat (rw[δ];simp));apply I;(repeat (first|apply κ|(refine ν λη I=>?_;simp;(repeat (rw[δ];simp));apply I)));refine W.exit rfl ?_;exact W.to (Δ ⟨mid,b,g0,wb,wp,d4⟩ ⟨um.trans u2,ej,hb,by(try simp only);omega,by(try simp only);omega,x2,m4.symm⟩ (by(try simp only);omega)) rfl (by simp)
 refine ah (by simp[wZ]) ?_;obtain⟨⟨mid,ap,d4⟩,U⟩:∃r,Go.Sort.partition (av cmp) d3 a b oE=r:=⟨_,rfl⟩;obtain⟨eN,ej,um,x2,Ak,gω,RU⟩:=Go.Sort.round_part e5 (Go.Sort.partition_holds _) u1.1 u1.2 (by rw[u2];exact hb) RS U;have ll:=ll wZ;have ln:=ln wZ;rw[U] at ll ln;have ll:=ll ⟨eN,ej⟩;have ln:=ln ⟨eN,ej⟩;simp only at ll ln;have m5:=fΞ d3 n a b oE u2 (by omega) u1.1 u1.2 hb an cmp bV Φ;rw[U] at m5;simp only at m5;have FI:d4.size=n:=um.trans u2;obtain⟨u,hu⟩:∃x,x=mid-a:=⟨_,rfl⟩;obtain⟨v,hv⟩:∃x,x=b-mid:=⟨_,rfl⟩;obtain⟨vc,RV⟩:∃x,x=l / 8:=⟨_,rfl⟩;obtain⟨cK,iF⟩:∃x,x=mid+1:=⟨_,rfl⟩;have yM:IntKind.i64.wrap ((mid:Int)-(a:Int))=(u:Int):=by rw[IntWalk.i64_in _ (by omega)];omega
 have qG:IntKind.i64.wrap ((b:Int)-(mid:Int))=(v:Int):=by rw[IntWalk.i64_in _ (by omega)];omega
 have qH:IntKind.i64.wrap ((l:Int) / 8)=(vc:Int):=by rw[RV];exact Ft (m:=8) (by omega)
 have wX:IntKind.i64.wrap ((mid:Int)+1)=(cK:Int):=by rw[IntWalk.i64_in _ (by omega)];omega
 rw[<-hu,<-hv,<-ω,<-RV,<-iF] at ll ln;(repeat apply κ);refine ν λη I=>?_;simp;(repeat (rw[δ];simp));refine ak.call (first:=[]) (captured:=[]) ((m5).mono (λr s ⟨ea,dT⟩=>?_) (λ_ _ h=>h.elim));subst ea;subst dT;simp;(repeat (rw[δ];simp));apply I;by_cases oo:u<v
 ·have Τ:(u:Int)<(v:Int):=by omega
  (repeat (first|apply κ|(refine ν λη I=>?_;simp;(repeat (rw[δ];simp[yM,qG,qH,Τ]));apply I)));refine aj (by simp) ?_;obtain⟨dH,p2⟩:=Go.Sort.pdq_sorts (av cmp) e5 d4 a mid g0 true true eN (by omega) x2;have By:=xw (mid-a) (by omega) d4 a mid g0 FI (Nat.le_refl _) eN (by omega) (by omega) x2;have ll:=ll oo;obtain⟨B',-⟩:=gω _ dH p2;have s1:=dH.1.trans FI;obtain⟨Ε,lQ⟩:∃x,Go.Sort.pdq (av cmp) d4 a mid g0 true true=x:=⟨_,rfl⟩;rw[lQ] at By ll B' s1;(repeat apply κ);refine ν λη I=>?_;simp;(repeat (rw[δ];simp));apply I;(repeat apply κ);refine ν λη I=>?_;simp;(repeat (rw[δ];simp));refine ak.call (first:=[]) (captured:=[]) ((By).mono (λr s ⟨ea,dT⟩=>?_) (λ_ _ h=>h.elim));subst ea;subst dT;simp;(repeat (rw[δ];simp));apply I;(repeat (first|apply κ|(refine ν λη I=>?_;simp;(repeat (rw[δ];simp[wX]));apply I)));exact W.to (Δ ⟨cK,b,g0,decide (u>=vc),ap,Ε⟩ ⟨s1,by(try simp only);omega,hb,by(try simp only);omega,by(try simp only);omega,by simp only;rw[iF];exact B',ll.symm⟩ (by(try simp only);omega)) rfl (by simp)
 ·have Τ:¬(u:Int)<(v:Int):=by omega
  (repeat (first|apply κ|(refine ν λη I=>?_;simp;(repeat (rw[δ];simp[yM,qG,qH,Τ]));apply I)));refine ah (by simp) ?_;obtain⟨dH,p2⟩:=Go.Sort.pdq_sorts (av cmp) e5 d4 (mid+1) b g0 true true (by omega) (by omega) Ak;rw[<-iF] at dH p2 Ak;have By:=xw (b-cK) (by omega) d4 cK b g0 FI (Nat.le_refl _) (by omega) hb (by omega) Ak;have ln:=ln oo;rw[<-iF] at RU;obtain⟨B',-⟩:=RU _ dH p2;have s1:=dH.1.trans FI;obtain⟨Ε,lQ⟩:∃x,Go.Sort.pdq (av cmp) d4 cK b g0 true true=x:=⟨_,rfl⟩;rw[lQ] at By ln B' s1;(repeat apply κ);refine ν λη I=>?_;simp;(repeat (rw[δ];simp));apply I;(repeat apply κ);refine ν λη I=>?_;simp;(repeat (rw[δ];simp[wX]));refine ak.call (first:=[]) (captured:=[]) ((By).mono (λr s ⟨ea,dT⟩=>?_) (λ_ _ h=>h.elim));subst ea;subst dT;simp;(repeat (rw[δ];simp));apply I;(repeat (first|apply κ|(refine ν λη I=>?_;simp;(repeat (rw[δ];simp));apply I)));exact W.to (Δ ⟨a,mid,g0,decide (v>=vc),ap,Ε⟩ ⟨s1,eN,by(try simp only);omega,by(try simp only);omega,by(try simp only);omega,B',ln.symm⟩ (by(try simp only);omega)) rfl (by simp)
theorem gΑ {α:Type} [Inhabited α] {lt:α->α->Bool} (ο:Go.Sort.SWO lt) (ξ:∀x y,lt x y=false->lt y x=false->x=y) (l:List α):(Go.Sort.pdq lt l.toArray 0 l.length (Go.Sort.bitsLen l.length) true true).toList=l.mergeSort (λx y=>!lt y x):=by
 obtain⟨J,γ⟩:=Go.Sort.pdq_sorts lt ο l.toArray 0 l.length (Go.Sort.bitsLen l.length) true true (Nat.zero_le _) (by simp) (.inl rfl);exact Go.Sort.sorted_unique_holds (lt:=lt) ο ξ l.toArray _ (by simpa using J) (by simpa using γ)
theorem gΒ:Eh 49:=λl ω=>by
 obtain⟨an,bV⟩:∃x:θ,x=.fn (.func 174) [] []:=⟨_,rfl⟩;have gΓ:au 0 an:=by rw[bV];simp[lP]
 have Φ:∀x y,gj Tryz.prog an [az x,az y] (R (nB x y)):=λx y=>by rw[bV];exact ay.p (Oh x y) (aK.refl _) (by simp) (by simp)
 obtain⟨n,Η⟩:∃n,n=l.length:=⟨_,rfl⟩;have hb:Go.Sort.bitsLen n<=6:=(Go.Sort.bitsLen_le_iff n 6).2 (by omega);have h:=gψ n (by omega) an nB gΓ Φ x5 n l.toArray 0 n (Go.Sort.bitsLen n) (by simp[Η]) (by omega) (by omega) (Nat.le_refl _) (by omega) (.inl rfl);have ψ:=gΑ x5 OF l;rw[<-Η] at ψ;have e:(λx y:Int×Int=>!av nB y x)=kZ:=rfl;rw[ψ,e] at h;rw[<-bV,<-Η];clear ψ e;have jH:(l.map az).length=n:=by rw[List.length_map,Η]
 have cv:l.toArray.toList=l:=rfl;rw[cv] at h;refine ak.body Ι Tryz.func173 rfl rfl Tryz.ntmps173 rfl rfl (by simp) ?_;have Ζ:=fJ (show n<2 ^ 62 by omega);have Ε:IntKind.u64.wrap (n:Int)=n:=yI (by omega);have sV:=Η.symm;(repeat (first|apply κ|(refine ν λη I=>?_;simp;(repeat (rw[δ];simp[sV]));apply I)));(repeat apply κ);refine ν λη I=>?_;simp;(repeat (rw[δ];simp[Ζ,Ε]));refine ay.c (wa n (by omega)) (aK.refl _) (by simp) (by simp) ?_;simp;(repeat (rw[δ];simp));refine ak.call (first:=[]) (captured:=[]) (h.mono (λr s ⟨ea,dT⟩=>?_) (λ_ _ h=>h.elim));subst ea;subst dT;simp;(repeat (rw[δ];simp));apply I;exact W.nil ⟨_,rfl,rfl,rfl⟩
theorem RX:∀k,k<3->0<=(cS k).2/\(cS k).2<(cS k).1/\(cS k).1<=2:=by decide
theorem FJ {s:aL} (h:gX s) (p:Int×Int) (c:Nat):(ff s p c).length<=49:=by
 have J:=Kk (λr=>s.mM p r c) s.ae.length (s.ae.length+1) 0;rw[Ei] at J;have γ:=h.ae.hi;have π:(s.ae.length+1)*(s.ae.length+1)<=7*7:=Nat.mul_le_mul (by omega) (by omega);unfold ff;omega
theorem gΔ {l:List (List (Int×Int))} (h:∀c∈l,c.length<=49) (gQ:Int) (i:Nat):ig l gQ i<=49 ^ i:=by
 induction i with
 | zero=>simp[ig]
 | succ i Δ=>
  rw[D9,Nat.pow_succ];refine Nat.mul_le_mul Δ ?_;split
  ·omega
  ·cases ζ:l[i]? with
   | none=>simp
   | some c=>simpa using h c (ck ζ)
theorem RY {s:aL} (h:gX s) (p:Int×Int):∀c∈(fC s p).cells,c.length<=49:=λc ζ=>by
 obtain⟨i,_,rfl⟩:=List.mem_map.1 ζ;exact FJ h p i
theorem KN {s:aL} (h:gX s) (p:Int×Int) (gQ:Int) {i:Nat} (hi:i<=s.cells.length):ig (fC s p).cells gQ i<=5764801:=by
 have:=h.many;exact Nat.le_trans (gΔ (RY h p) gQ i) (Nat.le_trans (Nat.pow_le_pow_right (by decide) (show i<=4 by omega)) (by decide))
theorem gΕ {s:aL} (h:gX s):JQ 49 s where
 small:=h.small
 ae:=by have:=h.ae.hi;omega
 lit c ζ x U:=((h.cells c ζ).each x U).1
 reads k _ c _:=FJ h _ c
 many k _ i hi:=by have:=KN h (cS k) (-1) hi;omega
theorem gΖ {s:aL} (h:gX s):@sY oy s (eX s):=Qz (by decide) (λc=>@gΒ c) (gΕ h)
theorem KO {s:aL} {f:Found}:f∈eX s↔∃k,k<3/\0<(fC s (cS k)).many (-1)/\f=fC s (cS k):=by
 unfold eX;rw[List.mem_filterMap];constructor
 ·rintro⟨k,χ,h⟩;unfold g8 at h;split at h
  ·rename_i ζ;exact⟨k,ζ.1,ζ.2,(Option.some.inj h).symm⟩
  ·cases h
 ·rintro⟨k,χ,J,rfl⟩;exact⟨k,List.mem_range.2 χ,by unfold g8;rw[if_pos ⟨χ,J⟩]⟩
theorem gΗ (s:aL):(eX s).length<=3:=by
 unfold eX;exact Nat.le_trans (List.length_filterMap_le _ _) (by simp)
def w5 (s:aL) (i:Nat):Nat:=((List.range i).map λk=>(fC s (cS k)).many (-1)).sum
theorem RZ (s:aL) (i:Nat):w5 s (i+1)=w5 s i+(fC s (cS i)).many (-1):=by simp[w5,List.range_succ]
theorem gΘ (s:aL):ja (eX s)=w5 s 3:=by
 have key:∀i,i<=3->ja ((List.range i).filterMap (g8 s))=w5 s i:=by
  intro i
  induction i with
  | zero=>intro _;rfl
  | succ i Δ=>
   intro hi;rw[RZ,<-Δ (by omega),List.range_succ,List.filterMap_append];unfold ja;rw[List.map_append,List.sum_append];congr 1;unfold g8;by_cases hm:0<(fC s (cS i)).many (-1)
   ·have:i<3/\0<(fC s (cS i)).many (-1):=⟨by omega,hm⟩;simp[this]
   ·have:¬(i<3/\0<(fC s (cS i)).many (-1)):=λh=>hm h.2;simp[this];omega
 exact key 3 (Nat.le_refl _)
theorem KP {s:aL} (p:Int×Int):(fC s p).many (-1)=ig (fC s p).cells (-1) s.cells.length:=by
 unfold Found.many;simp[fC]
theorem R0 {s:aL} (p:Int×Int) {c:Nat} (ζ:c<s.cells.length):ig (fC s p).cells (-1) (c+1)=ig (fC s p).cells (-1) c*(ff s p c).length:=by
 rw[D9,if_neg (by omega)];have:(fC s p).cells[c]?=some (ff s p c):=by
  unfold fC;simp[ζ]
 rw[this];rfl
def cnt (x n:Int):Nat->Int
 | 0=>0
 | k+1=>cnt x n k+(if eS .i64 x (2 ^ k)≠0 then 1 else 0)-(if eS .i64 n (2 ^ k)≠0 then 1 else 0)
end Go.TL
