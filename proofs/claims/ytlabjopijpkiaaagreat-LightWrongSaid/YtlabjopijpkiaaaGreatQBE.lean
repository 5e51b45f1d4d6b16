import Derived.Test.YtlabjopijpkiaaaGreatQAS
import Derived.Test.YtlabjopijpkiaaaGreatQAZ
import Derived.Test.YtlabjopijpkiaaaGreatQBB
import Derived.Test.YtlabjopijpkiaaaGreatQBD
set_option maxHeartbeats 16000000
set_option maxRecDepth 20000
set_option linter.unusedSectionVars false
set_option linter.unusedSimpArgs false
set_option linter.unusedVariables false
namespace Go.TL
open Go.Proofs
variable [bn]
theorem eν (l:Nat) (Α:l<256):az Tryz.prog 226 [R l] (oh ((1 <<< Go.Sort.bitsLen l:Nat):Int)):=by
 refine ak.body Κ Tryz.func226 rfl rfl Tryz.ntmps226 rfl rfl (by simp) ?_;have Ζ:IntKind.u64.wrap (l:Int)=l:=yS (by omega);(repeat (first|apply κ|(refine ξ λη I=>?_;simp;(repeat (rw[δ];simp[Ζ]));apply I)));(repeat apply κ);refine ξ λη I=>?_;simp;(repeat (rw[δ];simp[Ζ]));refine az.c (v3 l Α) (aK.refl _) (by simp) (by simp) ?_;simp;(repeat (rw[δ];simp));apply I;(repeat (first|apply κ|(refine ξ λη I=>?_;simp;(repeat (rw[δ];simp));apply I)));refine W.ret ⟨_,rfl,.of ?_,rfl⟩;have hb:=(Go.Sort.bitsLen_le_iff l 8).2 Α;have e:=Kc 1 (Go.Sort.bitsLen l) (by omega);have a6:1*2 ^ Go.Sort.bitsLen l % 18446744073709551616=1 <<< Go.Sort.bitsLen l:=by
  rw[Nat.one_mul,Nat.one_shiftLeft,Nat.mod_eq_of_lt (Nat.lt_of_le_of_lt (Nat.pow_le_pow_right (by omega) hb) (by decide))]
 rw[a6] at e;show oh (IntKind.u64.wrap (2 ^ min (Go.Sort.bitsLen l) IntKind.u64.bits))=_;rw[<-e];simp
theorem eξ (x:Nat) (U:x<2 ^ 64):ak Tryz.prog 227 [.Ψ 0 1 0 0] [.cells 248 1 [oh (x:Int)]] (λr s=>r=oh ((Go.Sort.xorNextN x:Nat):Int)/\s=[.cells 248 1 [oh ((Go.Sort.xorNextN x:Nat):Int)]]) (λ_ _=>False):=by
 refine ak.body Κ Tryz.func227 rfl rfl Tryz.ntmps227 rfl rfl (by simp) ?_;obtain⟨eU,hB⟩:∃y,y=x*2 ^ 13 % 18446744073709551616:=⟨_,rfl⟩;obtain⟨lx,qm⟩:∃y,y=x^^^eU:=⟨_,rfl⟩;obtain⟨ew,iz⟩:∃y,y=lx / 2 ^ 7:=⟨_,rfl⟩;obtain⟨pD,xc⟩:∃y,y=lx^^^ew:=⟨_,rfl⟩;obtain⟨uh,KB⟩:∃y,y=pD*2 ^ 17 % 18446744073709551616:=⟨_,rfl⟩;obtain⟨zJ,tj⟩:∃y,y=pD^^^uh:=⟨_,rfl⟩;have dF:Go.Sort.xorNextN x=zJ:=by rw[tj,KB,xc,iz,qm,hB];rfl
 rw[dF];have l1:eU<2 ^ 64:=by omega
 have k1:lx<2 ^ 64:=by rw[qm];exact Nat.xor_lt_two_pow U l1
 have l2:ew<2 ^ 64:=by omega
 have cy:pD<2 ^ 64:=by rw[xc];exact Nat.xor_lt_two_pow k1 l2
 have oq:uh<2 ^ 64:=by omega
 have a1:=Kc x 13 (by omega);rw[<-hB] at a1;have ba:=Kb U l1;rw[<-qm] at ba;have cm:=dδ lx 7 (by omega);rw[<-iz] at cm;have fY:=Kb k1 l2;rw[<-xc] at fY;have hH:=Kc pD 17 (by omega);rw[<-KB] at hH;have l6:=Kb cy oq;rw[<-tj] at l6;clear tj KB xc iz qm hB l1 k1 l2 cy oq dF;(repeat (first|apply κ|(refine ξ λη I=>?_;simp;(repeat (rw[δ];simp));apply I)));refine W.draw (A:=[]) Κ mixed λη I=>?_;simp;(repeat (rw[bD];simp[a1,ba]));try rw[bC]
 refine⟨bW (by kernel_rfl),I _ _ ?_⟩;(repeat (first|apply κ|(refine ξ λη I=>?_;simp;(repeat (rw[δ];simp));apply I)));refine W.draw (A:=[]) Κ mixed λη I=>?_;simp;(repeat (rw[bD];simp[cm,fY]));try rw[bC]
 refine⟨bW (by kernel_rfl),I _ _ ?_⟩;(repeat (first|apply κ|(refine ξ λη I=>?_;simp;(repeat (rw[δ];simp));apply I)));refine W.draw (A:=[]) Κ mixed λη I=>?_;simp;(repeat (rw[bD];simp[hH,l6]));try rw[bC]
 refine⟨bW (by kernel_rfl),I _ _ ?_⟩;(repeat (first|apply κ|(refine ξ λη I=>?_;simp;(repeat (rw[δ];simp));apply I)));exact W.ret ⟨_,rfl,rfl,rfl⟩
theorem eο (d:Array (Int×Int)) (n a b:Nat) (Ι:d.size=n) (ο:n<2 ^ 40) (gS:a+12<b) (Q7:b<a+50) (hb:b<=n) (an:θ) (cmp:Int×Int->Int×Int->Int) (bR:av 0 an) (Τ:∀x y,gj Tryz.prog an [aA x,aA y] (R (cmp x y))) :
  ak Tryz.prog 236 [.ms 0 n 0 n,R a,R b,an] [.cells 112 2 ((d).toList.map aA)] (λr s=>r=.bu []/\s=[.cells 112 2 ((Go.Sort.breakPatterns d a b).toList.map aA)]) (λ_ _=>False):=by
 refine ak.body Κ Tryz.func236 rfl rfl Tryz.ntmps236 rfl rfl (by simp) ?_;obtain⟨l,Α⟩:∃l,l=b-a:=⟨_,rfl⟩;obtain⟨q,Χ⟩:∃q,q=l / 4:=⟨_,rfl⟩;obtain⟨dM,tg⟩:∃x,x=q*2:=⟨_,rfl⟩;obtain⟨c,ζ⟩:∃x,x=a+dM:=⟨_,rfl⟩;obtain⟨dC,kl⟩:∃x,x=c-1:=⟨_,rfl⟩;obtain⟨c1,oN⟩:∃x,x=c+1:=⟨_,rfl⟩;obtain⟨m,hm⟩:∃x,x=1 <<< Go.Sort.bitsLen l:=⟨_,rfl⟩;have eπ:Go.Sort.bitsLen l<=6:=(Go.Sort.bitsLen_le_iff l 6).2 (by omega);have HW:l<m/\m<=64/\m<=2*l:=by
  have J:=Go.Sort.lt_two_pow_bitsLen l
  have γ:=Go.Sort.two_pow_bitsLen_le (n:=l) (by omega);rw[hm,Nat.one_shiftLeft];exact⟨J,Nat.le_trans (Nat.pow_le_pow_right (by omega) eπ) (by decide),γ⟩
 obtain⟨af,lX⟩:∃af,yQ a l m 3 dC (UInt64.ofNat l,d)=af:=⟨_,rfl⟩;have dF:Go.Sort.breakPatterns d a b=af.2:=by rw[dβ (c:=c) Α (by omega) (by rw[ζ,tg,Χ]),<-hm,<-kl,lX]
 rw[dF];have w1:IntKind.i64.wrap ((b:Int)-(a:Int))=(l:Int):=by rw[IntWalk.i64_in _ (by omega)];omega
 have w2:IntKind.i64.wrap ((l:Int) / 4)=(q:Int):=by rw[Χ];exact Fu (m:=4) (by omega)
 have w4:IntKind.i64.wrap ((q:Int)*2)=(dM:Int):=by rw[IntWalk.i64_in _ (by omega)];omega
 have qt:IntKind.i64.wrap ((a:Int)+(dM:Int))=(c:Int):=by rw[IntWalk.i64_in _ (by omega)];omega
 have qu:IntKind.i64.wrap ((c:Int)-1)=(dC:Int):=by rw[IntWalk.i64_in _ (by omega)];omega
 have xb:IntKind.i64.wrap ((c:Int)+1)=(c1:Int):=by rw[IntWalk.i64_in _ (by omega)];omega
 have eρ:IntKind.u64.wrap (l:Int)=(l:Int):=yS (by omega)
 have eς:IntKind.u64.wrap ((m:Int)-1)=((m-1:Nat):Int):=by
  have e:(m:Int)-1=((m-1:Nat):Int):=by omega
  rw[e];exact yS (by omega)
 have sS:(8:Int)<=(l:Int):=by omega
 have cI:(UInt64.ofNat l).toNat=l:=by rw[UInt64.toNat_ofNat'];exact Nat.mod_eq_of_lt (by omega)
 (repeat (first|apply κ|(refine ξ λη I=>?_;simp;(repeat (rw[δ];simp[w1,sS]));apply I)));refine al (by simp) ?_
 repeat apply κ
 refine c7 (A:=[9]) Κ λη I=>?_;simp;(repeat (rw[δ];simp[eρ]));apply I;have Du:=eν l (by omega);rw[<-hm] at Du;(repeat apply κ);refine ξ λη I=>?_;simp;(repeat (rw[δ];simp));refine az.c Du (aK.refl _) (by simp) (by simp) ?_;simp;(repeat (rw[δ];simp));apply I;(repeat (first|apply κ|(refine ξ λη I=>?_;simp;(repeat (rw[δ];simp[w2,w4,qt,qu]));apply I)));refine W.iter (λy:Nat×UInt64×Array (Int×Int)=>y.1<=3/\y.2.2.size=n/\yQ a l m y.1 (c+2-y.1) y.2=af) (λy=>[(0,.ms 0 n 0 n),(1,R a),(8,R (l:Nat)),(9,.Ψ 1 1 0 0),(10,oh (m:Nat)),(11,R (c+2-y.1:Nat))]) (λy=>[.cells 112 2 ((y.2.2).toList.map aA),.cells 248 1 [oh ((y.2.1.toNat:Nat):Int)]]) (λy=>y.1) (3,UInt64.ofNat l,d) ⟨Nat.le_refl _,Ι,by simp only;rw[<-lX,show c+2-3=dC by omega]⟩ (by simp only;rw[cI]) (by simp[kl]) (λy Ο Δ=>?_);obtain⟨t,st,e⟩:=y;obtain⟨Ξ,eP,bg⟩:=Ο;simp only at Ξ eP bg;obtain⟨cg,oI⟩:∃x,x=c+2-t:=⟨_,rfl⟩;obtain⟨x,U⟩:∃x,x=st.toNat:=⟨_,rfl⟩;have tP:x<2 ^ 64:=by rw[U];exact st.toNat_lt
 rw[<-oI] at bg;refine W.to (σ':=[.cells 112 2 ((e).toList.map aA),.cells 248 1 [oh ((x:Nat):Int)]]) (env':=[(0,.ms 0 n 0 n),(1,R a),(8,R (l:Nat)),(9,.Ψ 1 1 0 0),(10,oh (m:Nat)),(11,R (cg:Nat))]) ?_ (by rw[U]) (by simp[oI]);cases t with
 | zero=>
  have g:¬(cg:Int)<=(c1:Int):=by omega
  (repeat (first|apply κ|(refine ξ λη I=>?_;simp;(repeat (rw[δ];simp[w2,w4,qt,xb,g]));apply I)));refine aj (by simp) ?_;refine W.exit rfl ?_;refine W.drop (h:=1) (by simp) (by simp) (QE sA) rfl [] (by simp) ?_;exact W.nil ⟨_,rfl,rfl,by rw[<-bg];rfl⟩
 | succ t=>
  have g:(cg:Int)<=(c1:Int):=by omega
  obtain⟨FJ,Cm⟩:∃s,s=Go.Sort.xorNext st:=⟨_,rfl⟩;obtain⟨nR,nP⟩:∃x,x=FJ.toNat:=⟨_,rfl⟩;have eτ:nR=Go.Sort.xorNextN x:=by rw[nP,Cm,Go.Sort.xorNext_toNat,U]
  have eυ:nR<2 ^ 64:=by rw[nP];exact FJ.toNat_lt
  have Q9:=eξ x tP;rw[<-eτ] at Q9;obtain⟨z,Η⟩:∃z,z=nR&&&(m-1):=⟨_,rfl⟩;have gp:z<=m-1:=by rw[Η];exact Nat.and_le_right
  have aZ:gz .u64 (nR:Int) ((m-1:Nat):Int)=(z:Int):=by rw[Η];exact dε eυ (by omega)
  have eφ:IntKind.i64.wrap (z:Int)=(z:Int):=IntWalk.i64_in _ (by omega);obtain⟨o,Γ⟩:∃o,o=if z>=l then z-l else z:=⟨_,rfl⟩
  have z1:o<l:=by rw[Γ];split<;>omega
  have s':yQ a l m t (cg+1) (FJ,Go.Sort.swp e cg (a+o))=af:=by
   rw[<-bg];show _=yQ a l m t (cg+1) (Go.Sort.breakStep a l m (st,e) cg);unfold Go.Sort.breakStep;simp only;rw[<-Cm,<-nP,<-Η,<-Γ]
  obtain⟨FK,eχ⟩:∃x,x=a+o:=⟨_,rfl⟩;rw[<-eχ] at s';(repeat (first|apply κ|(refine ξ λη I=>?_;simp;(repeat (rw[δ];simp[w2,w4,qt,xb,g]));apply I)));refine al (by simp) ?_;(repeat apply κ);refine ξ λη I=>?_;simp;(repeat (rw[δ];simp));refine ak.one Q9 1 rfl (by simp[iv]) (by simp[iv]) (by simp[fS,oR]) (by simp[fS,oR]) rfl ?_;simp[dI,hN];(repeat (rw[δ];simp[eς,aZ,eφ]));apply I;refine W.to (σ':=[.cells 112 2 ((e).toList.map aA),.cells 248 1 [oh ((nR:Nat):Int)]]) (env':=[(0,.ms 0 n 0 n),(1,R a),(8,R (l:Nat)),(9,.Ψ 1 1 0 0),(10,oh (m:Nat)),(11,R (cg:Nat)),(12,R (z:Nat))]) ?_ rfl (by simp);(repeat (first|apply κ|(refine ξ λη I=>?_;simp;(repeat (rw[δ];simp));apply I)));refine W.upto [(0,.ms 0 n 0 n),(1,R a),(8,R (l:Nat)),(9,.Ψ 1 1 0 0),(10,oh (m:Nat)),(11,R (cg:Nat)),(12,R (o:Nat))] [.cells 112 2 ((e).toList.map aA),.cells 248 1 [oh ((nR:Nat):Int)]] ?_ ?_
  ·by_cases nd:l<=z
   ·have wo:IntKind.i64.wrap ((z:Int)-(l:Int))=(o:Int):=by rw[IntWalk.i64_in _ (by omega),Γ,if_pos nd];omega
    refine al (by simp[nd]) ?_;(repeat (first|apply κ|(refine ξ λη I=>?_;simp;(repeat (rw[δ];simp[wo]));apply I)));exact W.stop ⟨rfl,rfl,by simp⟩
   ·refine aj (by simp[nd]) ?_
    repeat apply κ
    exact W.stop ⟨rfl,rfl,by simp[Γ,nd]⟩
  have eψ:IntKind.i64.wrap ((a:Int)+(o:Int))=(FK:Int):=by rw[IntWalk.i64_in _ (by omega)];omega
  have a9:cg<n:=by omega
  have bp:FK<n:=by omega
  obtain⟨L,x,y,aD,U,Ο,Α,⟨J,γ⟩,⟨π,Μ⟩,er,j9,aB⟩:=jO aA eP a9 bp;rw[aD];clear U Ο
  repeat apply κ
  refine W.draw (A:=[]) Κ mixed λη I=>?_;simp;(repeat (rw[bD];simp[Α,J,γ,π,Μ,aB,a9,bp,eψ]));try rw[bC]
  refine⟨bW (by kernel_rfl),I _ _ ?_⟩;have eω:=gH (i:=cg) (by omega);(repeat (first|apply κ|(refine ξ λη I=>?_;simp;(repeat (rw[δ];simp[eω]));apply I)));refine W.to (Δ (t,FJ,Go.Sort.swp e cg FK) ⟨by(try simp only);omega,swp_size eP cg FK,?_⟩ (by simp)) (by rw[er,nP]) (by simp[show c+2-t=cg+1 by omega]);have Ε:c+2-t=cg+1:=by omega
  simp only;rw[Ε];exact s'
theorem eΑ (n:Nat) (ο:n<50) (an:θ) (cmp:Int×Int->Int×Int->Int) (bR:av 0 an) (Τ:∀x y,gj Tryz.prog an [aA x,aA y] (R (cmp x y))) (gi:Go.Sort.SWO (ax cmp)):∀(k:Nat) (d:Array (Int×Int)) (a b lim:Nat),d.size=n->b-a<=k->a<=b->b<=n->lim<2 ^ 40->Go.Sort.Below (ax cmp) a b d->
  ak Tryz.prog 211 [.ms 0 n 0 n,R a,R b,R lim,an] [.cells 112 2 ((d).toList.map aA)] (λr s=>r=.bu []/\s=[.cells 112 2 ((Go.Sort.pdq (ax cmp) d a b lim true true).toList.map aA)]) (λ_ _=>False):=by
 intro k
 induction k using Nat.strongRecOn with
 | _ k xC=>
 intro d a b lim Ι χ gS hb FL fb;refine ak.body Κ Tryz.func211 rfl rfl Tryz.ntmps211 rfl rfl (by simp) ?_;obtain⟨af,lX⟩:∃af,Go.Sort.pdq (ax cmp) d a b lim true true=af:=⟨_,rfl⟩;rw[lX];(repeat (first|apply κ|(refine ξ λη I=>?_;simp;(repeat (rw[δ];simp));apply I)));refine W.iter (λq:dα (Int×Int)=>q.e.size=n/\q.a<=q.b/\q.b<=n/\q.b-q.a<=k/\q.lim<2 ^ 40/\Go.Sort.Below (ax cmp) q.a q.b q.e/\Go.Sort.pdq (ax cmp) q.e q.a q.b q.lim q.wb q.wp=af) (λq=>[(0,.ms 0 n 0 n),(1,R (q.a:Nat)),(2,R (q.b:Nat)),(3,R (q.lim:Nat)),(4,an),(10,bA q.wb),(11,bA q.wp)]) (λq=>[.cells 112 2 ((q.e).toList.map aA)]) (λq=>q.b-q.a) ⟨a,b,lim,true,true,d⟩ ⟨Ι,gS,hb,χ,FL,fb,lX⟩ rfl (by simp) (λq Χ Δ=>?_);clear lX fb FL hb gS χ;obtain⟨a,b,lim,wb,wp,e⟩:=q;obtain⟨eP,gS,hb,χ,FL,fb,bg⟩:=Χ;simp only at eP gS hb χ FL fb bg;obtain⟨l,Α⟩:∃l,l=b-a:=⟨_,rfl⟩;have w1:IntKind.i64.wrap ((b:Int)-(a:Int))=(l:Int):=by rw[IntWalk.i64_in _ (by omega)];omega
 refine W.to (σ':=[.cells 112 2 ((e).toList.map aA)]) (env':=[(0,.ms 0 n 0 n),(1,R (a:Nat)),(2,R (b:Nat)),(3,R (lim:Nat)),(4,an),(10,bA wb),(11,bA wp)]) ?_ rfl (by simp);by_cases j1:b-a<=12
 ·have g:(l:Int)<=12:=by omega
  (repeat (first|apply κ|(refine ξ λη I=>?_;simp;(repeat (rw[δ];simp[w1,g]));apply I)));refine al (by simp) ?_;(repeat apply κ);refine ξ λη I=>?_;simp;(repeat (rw[δ];simp));refine ak.call (first:=[]) (captured:=[]) ((NG e n a b eP gS hb (by omega) an cmp bR Τ).mono (λr s ⟨ez,ed⟩=>?_) (λ_ _ h=>h.elim));subst ez;subst ed;simp;(repeat (rw[δ];simp));apply I;rw[Go.Sort.pdq_small j1] at bg;exact W.ret ⟨_,rfl,rfl,by rw[<-bg]⟩
 have g:¬(l:Int)<=12:=by omega
 (repeat (first|apply κ|(refine ξ λη I=>?_;simp;(repeat (rw[δ];simp[w1,g]));apply I)));refine aj (by simp) ?_;by_cases ah:lim=0
 ·have cP:(lim:Int)=0:=by omega
  (repeat (first|apply κ|(refine ξ λη I=>?_;simp;(repeat (rw[δ];simp[cP]));apply I)));refine al (by simp[ah]) ?_;(repeat apply κ);refine ξ λη I=>?_;simp;(repeat (rw[δ];simp));refine ak.call (first:=[]) (captured:=[]) ((dΩ e n a b eP (by omega) (by omega) hb an cmp bR Τ).mono (λr s ⟨ez,ed⟩=>?_) (λ_ _ h=>h.elim));subst ez;subst ed;simp;(repeat (rw[δ];simp));apply I;rw[Go.Sort.pdq_heap j1 ah] at bg;exact W.ret ⟨_,rfl,rfl,by rw[<-bg]⟩
 have cP:¬(lim:Int)=0:=by omega
 (repeat (first|apply κ|(refine ξ λη I=>?_;simp;(repeat (rw[δ];simp[cP]));apply I)));refine aj (by simp[ah]) ?_;(repeat (first|apply κ|(refine ξ λη I=>?_;simp;(repeat (rw[δ];simp));apply I)));have F:=Go.Sort.rd_facts (limit:=lim) (wb:=wb) (wp:=wp) gi Go.Sort.partialInsertionSort_holds Go.Sort.reverseRange_holds (by omega:a<b) (by omega) fb;have Q':=Go.Sort.rd_lim_le (lt:=(ax cmp)) (d:=e) (a:=a) (b:=b) (limit:=lim) (wb:=wb) (wp:=wp);have FM:=λh:wb=false=>show(Go.Sort.rd (ax cmp) e a b lim wb wp).d1=Go.Sort.breakPatterns e a b/\(Go.Sort.rd (ax cmp) e a b lim wb wp).lim=lim-1 by subst h;exact Go.Sort.rd_false
 have FN:=λh:wb=true=>show(Go.Sort.rd (ax cmp) e a b lim wb wp).d1=e/\(Go.Sort.rd (ax cmp) e a b lim wb wp).lim=lim by subst h;exact Go.Sort.rd_true
 have FO:=Go.Sort.rd_c (lt:=(ax cmp)) (d:=e) (a:=a) (b:=b) (limit:=lim) (wb:=wb) (wp:=wp)
 have Fd:=Go.Sort.rd_dec (lt:=(ax cmp)) (d:=e) (a:=a) (b:=b) (limit:=lim) (wb:=wb) (wp:=wp)
 have Fn:=Go.Sort.rd_not (lt:=(ax cmp)) (d:=e) (a:=a) (b:=b) (limit:=lim) (wb:=wb) (wp:=wp)
 have BJ:=Go.Sort.rd_pi_yes (lt:=(ax cmp)) (d:=e) (a:=a) (b:=b) (limit:=lim) (wb:=wb) (wp:=wp)
 have BK:=Go.Sort.rd_pi_no (lt:=(ax cmp)) (d:=e) (a:=a) (b:=b) (limit:=lim) (wb:=wb) (wp:=wp)
 have pk:=Go.Sort.pdq_done (lt:=(ax cmp)) (d:=e) (wb:=wb) (wp:=wp) j1 ah
 have mT:=Go.Sort.pdq_eq (lt:=(ax cmp)) (d:=e) (wb:=wb) (wp:=wp) j1 ah
 have k7:=Go.Sort.pdq_left (lt:=(ax cmp)) (d:=e) (wb:=wb) (wp:=wp) j1 ah
 have k8:=Go.Sort.pdq_right (lt:=(ax cmp)) (d:=e) (wb:=wb) (wp:=wp) j1 ah;rw[bg] at pk mT k7 k8;obtain⟨r,μ⟩:∃r,Go.Sort.rd (ax cmp) e a b lim wb wp=r:=⟨_,rfl⟩;rw[μ] at F Q' FM FN FO Fd Fn BJ BK pk mT k7 k8;clear μ;obtain⟨d1,g3,⟨KC,ch⟩,d2,om,BL,d3,done⟩:=r;simp only at F Q' FM FN FO Fd Fn BJ BK pk mT k7 k8;obtain⟨KD,jχ,jψ,KE,jω,uY,uZ,Ra⟩:=F;rw[eP] at KD KE uZ;refine W.upto [(0,.ms 0 n 0 n),(1,R (a:Nat)),(2,R (b:Nat)),(3,R (g3:Nat)),(4,an),(10,bA wb),(11,bA wp),(12,R (l:Nat))] [.cells 112 2 ((d1).toList.map aA)] ?_ ?_
 ·cases wb with
  | false=>
   obtain⟨f1,f2⟩:=FM rfl;refine al rfl ?_;(repeat apply κ);refine ξ λη I=>?_;simp;(repeat (rw[δ];simp));refine ak.call (first:=[]) (captured:=[]) ((eο e n a b eP (by omega) (by omega) (by omega) hb an cmp bR Τ).mono (λr s ⟨ez,ed⟩=>?_) (λ_ _ h=>h.elim));subst ez;subst ed;simp;(repeat (rw[δ];simp));apply I;have w2:=oi (i:=lim) (by omega) (by omega);refine ξ λη I=>?_;simp;(repeat (rw[δ];simp[w2]));apply I;exact W.stop ⟨rfl,by rw[f1],by simp[f2]⟩
  | true=>
   obtain⟨f1,f2⟩:=FN rfl;refine aj rfl ?_;refine W.skip ?_;exact W.stop ⟨rfl,by rw[f1],by simp[f2]⟩
 have KF:=eη d1 n a b KD (by omega) (by omega) (by omega) hb an cmp bR Τ;rw[<-FO] at KF;simp only at KF;(repeat apply κ);refine ξ λη I=>?_;simp;(repeat (rw[δ];simp));refine ak.call (first:=[]) (captured:=[]) ((KF).mono (λr s ⟨ez,ed⟩=>?_) (λ_ _ h=>h.elim));subst ez;subst ed;simp;(repeat (rw[δ];simp));apply I;refine W.to (σ':=[.cells 112 2 ((d1).toList.map aA)]) (env':=[(0,.ms 0 n 0 n),(1,R (a:Nat)),(2,R (b:Nat)),(3,R (g3:Nat)),(4,an),(10,bA wb),(11,bA wp),(12,R (l:Nat)),(13,R (KC:Nat)),(14,R (yR ch))]) ?_ rfl (by simp);(repeat (first|apply κ|(refine ξ λη I=>?_;simp;(repeat (rw[δ];simp));apply I)));refine W.upto [(0,.ms 0 n 0 n),(1,R (a:Nat)),(2,R (b:Nat)),(3,R (g3:Nat)),(4,an),(10,bA wb),(11,bA wp),(12,R (l:Nat)),(13,R (om:Nat)),(14,R (yR BL))] [.cells 112 2 ((d2).toList.map aA)] ?_ ?_
 ·by_cases hd:ch=.decreasing
  ·obtain⟨f1,f2,f3⟩:=Fd hd;subst hd;refine al rfl ?_;(repeat apply κ);refine ξ λη I=>?_;simp;(repeat (rw[δ];simp));refine ak.call (first:=[]) (captured:=[]) ((eγ d1 n a b KD (by omega) (by omega) hb an cmp bR Τ).mono (λr s ⟨ez,ed⟩=>?_) (λ_ _ h=>h.elim));subst ez;subst ed;simp;(repeat (rw[δ];simp));apply I;have w2:=oi (i:=b) (by omega) (by omega);have w3:=Kd (a:=a) (b:=KC) (by omega) (by omega);have w4:=Kd (a:=KC-a) (b:=b-1) (by omega) (by omega);rw[<-f2] at w4;refine W.seq ?_;refine ξ λη I=>?_;simp;(repeat (rw[δ];simp[w2,w3,w4]));apply I;refine ξ λη I=>?_;simp;(repeat (rw[δ];simp));apply I;exact W.stop ⟨rfl,by rw[f1],by simp[f3,yR]⟩
  ·obtain⟨f1,f2,f3⟩:=Fn hd;refine aj (by cases ch with
    | decreasing=>exact absurd rfl hd
    | unknown=>rfl
    | increasing=>rfl) ?_
   refine W.skip ?_;exact W.stop ⟨rfl,by rw[f1],by simp[f2,f3]⟩
 repeat apply κ
 refine W.tU (A:=[]) Κ [(75,bA (wb&&wp&&decide (BL=.increasing))),(0,.ms 0 n 0 n),(1,R (a:Nat)),(2,R (b:Nat)),(3,R (g3:Nat)),(4,an),(10,bA wb),(11,bA wp),(12,R (l:Nat)),(13,R (om:Nat))] ?_ (by cases wb<;>cases wp<;>cases BL<;>simp[δ,q6,yR])
 repeat apply κ
 rcases Bool.eq_false_or_eq_true done with kF|kF
 ·cases ζ:(wb&&wp&&decide (BL=.increasing)) with
  | true=>
   have f:=BJ ζ;refine al rfl ?_;have mU:=Q8 d2 n a b KE (by omega) (by omega) (by omega) hb an cmp bR Τ;rw[<-f] at mU;simp only[kF] at mU;(repeat apply κ);refine ξ λη I=>?_;simp;(repeat (rw[δ];simp));refine ak.call (first:=[]) (captured:=[]) ((mU).mono (λr s ⟨ez,ed⟩=>?_) (λ_ _ h=>h.elim));subst ez;subst ed;simp;(repeat (rw[δ];simp));apply I;refine al rfl ?_;exact W.ret ⟨_,rfl,rfl,by rw[pk kF]⟩
  | false=>
   have f:=(Prod.mk.inj (BK ζ)).2;rw[kF] at f;cases f
 refine W.upto [(0,.ms 0 n 0 n),(1,R (a:Nat)),(2,R (b:Nat)),(3,R (g3:Nat)),(4,an),(10,bA wb),(11,bA wp),(12,R (l:Nat)),(13,R (om:Nat))] [.cells 112 2 ((d3).toList.map aA)] ?_ ?_
 ·cases ζ:(wb&&wp&&decide (BL=.increasing)) with
  | true=>
   have f:=BJ ζ;refine al rfl ?_;have mU:=Q8 d2 n a b KE (by omega) (by omega) (by omega) hb an cmp bR Τ;rw[<-f] at mU;simp only[kF] at mU;(repeat apply κ);refine ξ λη I=>?_;simp;(repeat (rw[δ];simp));refine ak.call (first:=[]) (captured:=[]) ((mU).mono (λr s ⟨ez,ed⟩=>?_) (λ_ _ h=>h.elim));subst ez;subst ed;simp;(repeat (rw[δ];simp));apply I;refine aj rfl ?_;refine W.skip ?_;exact W.stop ⟨rfl,rfl,by simp⟩
  | false=>
   have f1:=(Prod.mk.inj (BK ζ)).1;refine aj rfl ?_;refine W.skip ?_;exact W.stop ⟨rfl,by rw[f1],by simp⟩
 clear pk BJ BK Fd Fn FO FM FN;have mT:=mT kF;have k7:=k7 kF;have k8:=k8 kF;obtain⟨P,xd⟩:∃P:Bool,(decide (a > 0)&&!ax cmp d3[a-1]! d3[om]!)=P:=⟨_,rfl⟩;rw[xd] at mT k7 k8
 repeat apply κ
 refine W.D2 (A:=[]) Κ mixed [(97,bA P),(0,.ms 0 n 0 n),(1,R (a:Nat)),(2,R (b:Nat)),(3,R (g3:Nat)),(4,an),(10,bA wb),(11,bA wp),(12,R (l:Nat)),(13,R (om:Nat))] ?_ (by
  by_cases ν:0<a
  ·obtain⟨p,ω⟩:∃p,p=a-1:=⟨_,rfl⟩;have a9:p<n:=by omega
   have bp:om<n:=by omega
   obtain⟨L,x,y,aD,U,Ο,Α,⟨J,γ⟩,⟨π,Μ⟩,-,-⟩:=jO aA uZ a9 bp;have KG:P = !ax cmp x y:=by rw[<-xd,<-ω,U,Ο];simp[ν]
   have eh:(0:Int)<(a:Int):=by omega
   have w2:IntKind.i64.wrap ((a:Int)-1)=(p:Int):=by rw[IntWalk.i64_in _ (by omega)];omega
   rw[aD];clear U Ο;simp;(repeat (rw[bD];simp[ν,eh,w2,Α,J,γ,π,Μ,a9,bp]));(try rw[bC]);refine gU (Τ x y) ?_;simp;(repeat (rw[bD];simp));(try rw[bC]);refine⟨bW (by kernel_rfl),?_⟩;simp[KG,ax]
  ·have KG:P=false:=by rw[<-xd];simp[ν]
   have eh:a=0:=by omega
   subst eh;simp;(repeat (rw[bD];simp));(try rw[bC]);refine⟨bW (by kernel_rfl),?_⟩;simp[KG])
 repeat apply κ
 rcases Bool.eq_false_or_eq_true P with xe|xe
 ·refine al (by simp[xe]) ?_;rw[xe] at xd;simp only[Bool.and_eq_true,decide_eq_true_eq,Bool.not_eq_true'] at xd;obtain⟨⟨mid,d4⟩,U⟩:∃r,Go.Sort.partitionEqual (ax cmp) d3 a b om=r:=⟨_,rfl⟩;obtain⟨eU,ew,uh,x',-⟩:=Go.Sort.round_eq gi (Go.Sort.partitionEqual_holds _) xd.1 uY.1 uY.2 (by rw[uZ];exact hb) Ra xd.2 U;have mT:=mT xe;rw[U] at mT;have mT:=mT ⟨eU,ew⟩;simp only at mT;have mU:=dΦ d3 n a b om uZ (by omega) uY.1 uY.2 hb an cmp bR Τ;rw[U] at mU;simp only at mU;(repeat apply κ);refine ξ λη I=>?_;simp;(repeat (rw[δ];simp));refine ak.call (first:=[]) (captured:=[]) ((mU).mono (λr s ⟨ez,ed⟩=>?_) (λ_ _ h=>h.elim));subst ez;subst ed;simp;(repeat (rw[δ];simp));apply I;(repeat (first|apply κ|(refine ξ λη I=>?_;simp;(repeat (rw[δ];simp));apply I)));refine W.exit rfl ?_;exact W.to (Δ ⟨mid,b,g3,wb,wp,d4⟩ ⟨uh.trans uZ,ew,hb,by(try simp only);omega,by(try simp only);omega,x',mT.symm⟩ (by(try simp only);omega)) rfl (by simp)
 refine aj (by simp[xe]) ?_;obtain⟨⟨mid,ap,d4⟩,U⟩:∃r,Go.Sort.partition (ax cmp) d3 a b om=r:=⟨_,rfl⟩;obtain⟨eU,ew,uh,x',AD,eΒ,Rb⟩:=Go.Sort.round_part gi (Go.Sort.partition_holds _) uY.1 uY.2 (by rw[uZ];exact hb) Ra U;have k7:=k7 xe;have k8:=k8 xe;rw[U] at k7 k8;have k7:=k7 ⟨eU,ew⟩;have k8:=k8 ⟨eU,ew⟩;simp only at k7 k8;have mU:=dΡ d3 n a b om uZ (by omega) uY.1 uY.2 hb an cmp bR Τ;rw[U] at mU;simp only at mU;have FP:d4.size=n:=uh.trans uZ;obtain⟨u,hu⟩:∃x,x=mid-a:=⟨_,rfl⟩;obtain⟨v,hv⟩:∃x,x=b-mid:=⟨_,rfl⟩;obtain⟨u6,Rc⟩:∃x,x=l / 8:=⟨_,rfl⟩;obtain⟨cM,iL⟩:∃x,x=mid+1:=⟨_,rfl⟩;have yX:IntKind.i64.wrap ((mid:Int)-(a:Int))=(u:Int):=by rw[IntWalk.i64_in _ (by omega)];omega
 have qt:IntKind.i64.wrap ((b:Int)-(mid:Int))=(v:Int):=by rw[IntWalk.i64_in _ (by omega)];omega
 have qu:IntKind.i64.wrap ((l:Int) / 8)=(u6:Int):=by rw[Rc];exact Fu (m:=8) (by omega)
 have xb:IntKind.i64.wrap ((mid:Int)+1)=(cM:Int):=by rw[IntWalk.i64_in _ (by omega)];omega
 rw[<-hu,<-hv,<-Α,<-Rc,<-iL] at k7 k8;(repeat apply κ);refine ξ λη I=>?_;simp;(repeat (rw[δ];simp));refine ak.call (first:=[]) (captured:=[]) ((mU).mono (λr s ⟨ez,ed⟩=>?_) (λ_ _ h=>h.elim));subst ez;subst ed;simp;(repeat (rw[δ];simp));apply I;by_cases ye:u<v
 ·have Ρ:(u:Int)<(v:Int):=by omega
  (repeat (first|apply κ|(refine ξ λη I=>?_;simp;(repeat (rw[δ];simp[yX,qt,qu,Ρ]));apply I)));refine al (by simp) ?_;obtain⟨dP,p2⟩:=Go.Sort.pdq_sorts (ax cmp) gi d4 a mid g3 true true eU (by omega) x';have BM:=xC (mid-a) (by omega) d4 a mid g3 FP (Nat.le_refl _) eU (by omega) (by omega) x';have k7:=k7 ye;obtain⟨B',-⟩:=eΒ _ dP p2;have s1:=dP.1.trans FP;obtain⟨Ζ,lF⟩:∃x,Go.Sort.pdq (ax cmp) d4 a mid g3 true true=x:=⟨_,rfl⟩;rw[lF] at BM k7 B' s1;(repeat apply κ);refine ξ λη I=>?_;simp;(repeat (rw[δ];simp));apply I;(repeat apply κ);refine ξ λη I=>?_;simp;(repeat (rw[δ];simp));refine ak.call (first:=[]) (captured:=[]) ((BM).mono (λr s ⟨ez,ed⟩=>?_) (λ_ _ h=>h.elim));subst ez;subst ed;simp;(repeat (rw[δ];simp));apply I;(repeat (first|apply κ|(refine ξ λη I=>?_;simp;(repeat (rw[δ];simp[xb]));apply I)));exact W.to (Δ ⟨cM,b,g3,decide (u>=u6),ap,Ζ⟩ ⟨s1,by(try simp only);omega,hb,by(try simp only);omega,by(try simp only);omega,by simp only;rw[iL];exact B',k7.symm⟩ (by(try simp only);omega)) rfl (by simp)
 ·have Ρ:¬(u:Int)<(v:Int):=by omega
  (repeat (first|apply κ|(refine ξ λη I=>?_;simp;(repeat (rw[δ];simp[yX,qt,qu,Ρ]));apply I)));refine aj (by simp) ?_;obtain⟨dP,p2⟩:=Go.Sort.pdq_sorts (ax cmp) gi d4 (mid+1) b g3 true true (by omega) (by omega) AD;rw[<-iL] at dP p2 AD;have BM:=xC (b-cM) (by omega) d4 cM b g3 FP (Nat.le_refl _) (by omega) hb (by omega) AD;have k8:=k8 ye;rw[<-iL] at Rb;obtain⟨B',-⟩:=Rb _ dP p2;have s1:=dP.1.trans FP;obtain⟨Ζ,lF⟩:∃x,Go.Sort.pdq (ax cmp) d4 cM b g3 true true=x:=⟨_,rfl⟩;rw[lF] at BM k8 B' s1;(repeat apply κ);refine ξ λη I=>?_;simp;(repeat (rw[δ];simp));apply I;(repeat apply κ);refine ξ λη I=>?_;simp;(repeat (rw[δ];simp[xb]));refine ak.call (first:=[]) (captured:=[]) ((BM).mono (λr s ⟨ez,ed⟩=>?_) (λ_ _ h=>h.elim));subst ez;subst ed;simp;(repeat (rw[δ];simp));apply I;(repeat (first|apply κ|(refine ξ λη I=>?_;simp;(repeat (rw[δ];simp));apply I)));exact W.to (Δ ⟨a,mid,g3,decide (v>=u6),ap,Ζ⟩ ⟨s1,eU,by(try simp only);omega,by(try simp only);omega,by(try simp only);omega,B',k8.symm⟩ (by(try simp only);omega)) rfl (by simp)
theorem eΓ {α:Type} [Inhabited α] {lt:α->α->Bool} (ο:Go.Sort.SWO lt) (ν:∀x y,lt x y=false->lt y x=false->x=y) (l:List α):(Go.Sort.pdq lt l.toArray 0 l.length (Go.Sort.bitsLen l.length) true true).toList=l.mergeSort (λx y=>!lt y x):=by
 obtain⟨J,γ⟩:=Go.Sort.pdq_sorts lt ο l.toArray 0 l.length (Go.Sort.bitsLen l.length) true true (Nat.zero_le _) (by simp) (.inl rfl);exact Go.Sort.sorted_unique_holds (lt:=lt) ο ν l.toArray _ (by simpa using J) (by simpa using γ)
theorem eΔ:El 49:=λl Α=>by
 obtain⟨an,bR⟩:∃x:θ,x=.fn (.func 174) [] []:=⟨_,rfl⟩;have eΕ:av 0 an:=by rw[bR];simp[lE]
 have Τ:∀x y,gj Tryz.prog an [aA x,aA y] (R (nm x y)):=λx y=>by rw[bR];exact az.p (ND x y) (aK.refl _) (by simp) (by simp)
 obtain⟨n,Ι⟩:∃n,n=l.length:=⟨_,rfl⟩;have hb:Go.Sort.bitsLen n<=6:=(Go.Sort.bitsLen_le_iff n 6).2 (by omega);have h:=eΑ n (by omega) an nm eΕ Τ yf n l.toArray 0 n (Go.Sort.bitsLen n) (by simp[Ι]) (by omega) (by omega) (Nat.le_refl _) (by omega) (.inl rfl);have ω:=eΓ yf NY l;rw[<-Ι] at ω;have e:(λx y:Int×Int=>!ax nm y x)=kT:=rfl;rw[ω,e] at h;rw[<-bR,<-Ι];clear ω e;have j0:(l.map aA).length=n:=by rw[List.length_map,Ι]
 have cI:l.toArray.toList=l:=rfl;rw[cI] at h;refine ak.body Κ Tryz.func173 rfl rfl Tryz.ntmps173 rfl rfl (by simp) ?_;have Ε:=gl (show n<2 ^ 62 by omega);have Ζ:IntKind.u64.wrap (n:Int)=n:=yS (by omega);have sF:=Ι.symm;(repeat (first|apply κ|(refine ξ λη I=>?_;simp;(repeat (rw[δ];simp[sF]));apply I)));(repeat apply κ);refine ξ λη I=>?_;simp;(repeat (rw[δ];simp[Ε,Ζ]));refine az.c (v3 n (by omega)) (aK.refl _) (by simp) (by simp) ?_;simp;(repeat (rw[δ];simp));refine ak.call (first:=[]) (captured:=[]) (h.mono (λr s ⟨ez,ed⟩=>?_) (λ_ _ h=>h.elim));subst ez;subst ed;simp;(repeat (rw[δ];simp));apply I;exact W.nil ⟨_,rfl,rfl,rfl⟩
theorem Re {s:aR} (h:lV s) (p:Int×Int) (c:Nat):(jK s p c).length<=49:=by
 have J:=dζ (λr=>s.re p r c) s.ai.length (s.ai.length+1) 0;rw[N1] at J;have γ:=h.ai.hi;have π:(s.ai.length+1)*(s.ai.length+1)<=7*7:=Nat.mul_le_mul (by omega) (by omega);unfold jK;omega
theorem eΖ {l:List (List (Int×Int))} (h:∀c∈l,c.length<=49) (gB:Int) (i:Nat):h5 l gB i<=49 ^ i:=by
 induction i with
 | zero=>simp[h5]
 | succ i Δ=>
  rw[Ec,Nat.pow_succ];refine Nat.mul_le_mul Δ ?_;split
  ·omega
  ·cases ζ:l[i]? with
   | none=>simp
   | some c=>simpa using h c (cv ζ)
theorem Rf {s:aR} (h:lV s) (p:Int×Int):∀c∈(gG s p).cells,c.length<=49:=λc ζ=>by
 obtain⟨i,_,rfl⟩:=List.mem_map.1 ζ;exact Re h p i
theorem KH {s:aR} (h:lV s) (p:Int×Int) (gB:Int) {i:Nat} (hi:i<=s.cells.length):h5 (gG s p).cells gB i<=5764801:=by
 have:=h.many;exact Nat.le_trans (eΖ (Rf h p) gB i) (Nat.le_trans (Nat.pow_le_pow_right (by decide) (show i<=4 by omega)) (by decide))
theorem eΗ {s:aR} (h:lV s):JM 49 s where
 small:=h.small
 ai:=by have:=h.ai.hi;omega
 lit c ζ x U:=((h.cells c ζ).each x U).1
 reads k _ c _:=Re h _ c
 many k _ i hi:=by have:=KH h (fU k) (-1) hi;omega
theorem Rg {s:aR} (h:lV s):@rj oe s (fl s):=PN (by decide) (λc=>@eΔ c) (eΗ h)
theorem KI {s:aR} {f:Found}:f∈fl s↔∃k,k<3/\0<(gG s (fU k)).many (-1)/\f=gG s (fU k):=by
 unfold fl;rw[List.mem_filterMap];constructor
 ·rintro⟨k,χ,h⟩;unfold j8 at h;split at h
  ·rename_i ζ;exact⟨k,ζ.1,ζ.2,(Option.some.inj h).symm⟩
  ·cases h
 ·rintro⟨k,χ,J,rfl⟩;exact⟨k,List.mem_range.2 χ,by unfold j8;rw[if_pos ⟨χ,J⟩]⟩
theorem Rh (s:aR):(fl s).length<=3:=by
 unfold fl;exact Nat.le_trans (List.length_filterMap_le _ _) (by simp)
theorem eΘ {s:aR} (h:lV s):Small (fl s):=by
 have Μ:=h.many;refine⟨by have:=Rh s;omega,λf Τ=>?_⟩;obtain⟨k,_,_,rfl⟩:=KI.1 Τ;have Α:(gG s (fU k)).cells.length=s.cells.length:=by simp[gG]
 refine⟨by rw[Α];omega,λi hi gB=>?_,λc ζ=>?_⟩
 ·have:=KH h (fU k) gB (show i<=s.cells.length by omega);omega
 ·have:=Rf h (fU k) c ζ;omega
def xf (s:aR) (i:Nat):Nat:=((List.range i).map λk=>(gG s (fU k)).many (-1)).sum
theorem Ri (s:aR) (i:Nat):xf s (i+1)=xf s i+(gG s (fU i)).many (-1):=by simp[xf,List.range_succ]
theorem eΙ (s:aR):gm (fl s)=xf s 3:=by
 have key:∀i,i<=3->gm ((List.range i).filterMap (j8 s))=xf s i:=by
  intro i
  induction i with
  | zero=>intro _;rfl
  | succ i Δ=>
   intro hi;rw[Ri,<-Δ (by omega),List.range_succ,List.filterMap_append];unfold gm;rw[List.map_append,List.sum_append];congr 1;unfold j8;by_cases hm:0<(gG s (fU i)).many (-1)
   ·have:i<3/\0<(gG s (fU i)).many (-1):=⟨by omega,hm⟩;simp[this]
   ·have:¬(i<3/\0<(gG s (fU i)).many (-1)):=λh=>hm h.2;simp[this];omega
 exact key 3 (Nat.le_refl _)
theorem Rj {s:aR} (p:Int×Int):(gG s p).many (-1)=h5 (gG s p).cells (-1) s.cells.length:=by
 unfold Found.many;simp[gG]
theorem eΚ {s:aR} (p:Int×Int) {c:Nat} (ζ:c<s.cells.length):h5 (gG s p).cells (-1) (c+1)=h5 (gG s p).cells (-1) c*(jK s p c).length:=by
 rw[Ec,if_neg (by omega)];have:(gG s p).cells[c]?=some (jK s p c):=by
  unfold gG;simp[ζ]
 rw[this];rfl
theorem eΜ (l:List Int) (n:Nat) (ae:List di) (i:Nat):(hT l n ae i).Sublist ae:=by
 have key:∀i,i<=ae.length->(hT l n ae i).Sublist (ae.take i):=by
  intro i
  induction i with
  | zero=>intro _;simp[hT]
  | succ i Δ=>
   intro hi;rw[Fw l n ae hi,List.take_succ_eq_append_getElem hi];refine List.Sublist.append (Δ (by omega)) ?_;split<;>simp
 by_cases h:i<=ae.length
 ·exact(key i h).trans (List.take_sublist _ _)
 ·have e:hT l n ae i=hT l n ae ae.length:=by
   have:∀d,hT l n ae (ae.length+d)=hT l n ae ae.length:=by
    intro d
    induction d with
    | zero=>rfl
    | succ d Δ=>
     rw[<-Δ];unfold hT;rw[<-Nat.add_assoc,List.range_succ,List.filterMap_append];simp
   have:=this (i-ae.length)
   rwa [show ae.length+(i-ae.length)=i by omega] at this
  rw[e];exact(key _ (Nat.le_refl _)).trans (List.take_sublist _ _)
theorem KJ {s:aR} (h:lV s) (l:List Int):lV (s.lW l) where
 ai:=h.ai
 ao:=h.ao
 many:=by simp[aR.lW];exact h.many
 cells c ζ:=by
  obtain⟨i,hi,rfl⟩:=List.mem_map.1 ζ;have hi:=List.mem_range.1 hi;have hm:s.cells.getD i []∈s.cells:=by
   rw[List.getD_eq_getElem?_getD,a2 hi];exact List.getElem_mem hi
  have Τ:=h.cells _ hm
  have ο:(rN l s.cells i).Sublist (s.cells.getD i []):=eΜ _ _ _ _;exact⟨Nat.le_trans ο.length_le Τ.hi,(ο.map _).nodup Τ.apart,λp ω=>Τ.each p (ο.subset ω)⟩
theorem eΝ {s:aR} (h:lV s) (π:s.cells.length<=3):fs s.cells s.cells.length<=9:=by
 have key:∀c,c<=s.cells.length->fs s.cells c<=c*3:=by
  intro c
  induction c with
  | zero=>intro _;simp[fs]
  | succ c Δ=>
   intro ζ;rw[yT s.cells ζ];have:=(h.cells _ (List.getElem_mem ζ)).hi;have:=Δ (by omega);omega
 have:=key _ (Nat.le_refl _);omega
theorem eΞ {s:aR}:gm (fl s)=0↔fl s=[]:=by
 constructor
 ·intro h;cases gf:fl s with
  | nil=>rfl
  | cons f r=>
   have:f∈fl s:=by rw[gf];simp
   obtain⟨k,_,J,rfl⟩:=KI.1 this;rw[gf] at h;unfold gm at h;simp at h;omega
 ·intro h;rw[h];rfl
theorem eΟ:∀n<10,iQ n 0=(List.range (n+1)).flatMap (fW n):=by decide +kernel
theorem Rk:∀n<10,∀i<n+1,∀c∈fW n i,∀x∈c,x<n:=by decide +kernel
theorem Rl:∀n<10,∀i<n+1,(fW n i).length<1000:=by decide +kernel
theorem eΡ:∀n<10,fW n n=[List.range n]:=by decide +kernel
section
variable {P:Program} {T:bd} {A:List Nat} {m nt:Nat} {k:List Item} {env:Ω} {σ:List Row} {Z:List Item->Ω->List Row->Prop} {E:θ->Ω->List Row->Prop}
theorem W.eΤ (Θ:bT P T) (env':Ω) (σ':List Row) {ops:Array Oper} {l:List Nat} (h:W P m nt k env' σ' Z E) (μ:run P T A nt ops l env σ (λe s=>W P m nt k env' σ' Z E->W P m nt k e s Z E) E):W P m nt (.inRegion ops l::k) env σ Z E:=by
 have:=HG (m:=m) (k:=k) (Z:=Z) Θ [] l env σ (DL (λe s f=>W.bJ (f h)) _ _ _ μ);simpa using this
end
def nF (l:List di):θ:=dk 3 (l.map cw)
def bF (done:List (List di)) (nc:Nat):List θ:=done.map nF++List.replicate (nc-done.length) bE
theorem eΥ (nc:Nat):bF [] nc=List.replicate nc bE:=by simp[bF]
theorem xg {done:List (List di)} {nc:Nat} (h:done.length<=nc):(bF done nc).length=nc:=by simp[bF];omega
theorem eΦ {done:List (List di)}:bF done done.length=done.map nF:=by simp[bF]
theorem eΧ {done:List (List di)} {nc:Nat} (h:done.length<nc):(bF done nc)[done.length]?=some bE:=by
 unfold bF;rw[hE (by simp),List.length_map,Nat.sub_self,List.getElem?_replicate,if_pos (by omega)]
theorem eΨ {done:List (List di)} {nc:Nat} (h:done.length<nc) (ae:List di):(bF done nc).set done.length (nF ae)=bF (done++[ae]) nc:=by
 unfold bF;obtain⟨r,μ⟩:∃r,nc-done.length=r+1:=⟨nc-done.length-1,by omega⟩;have e:nc-(done++[ae]).length=r:=by simp;omega
 rw[μ,e,List.replicate_succ,List.set_append_right _ _ (by simp),List.length_map,Nat.sub_self,List.set_cons_zero,List.map_append,List.append_assoc];rfl
theorem Rm (l:List di):av 0 (nF l):=by
 unfold nF dk;split
 ·simp
 ·refine fJ.2 λe he a ν=>?_;obtain⟨x,_,rfl⟩:=List.mem_map.1 he;simp[θ.cells] at ν;rcases ν with rfl|rfl|rfl<;>exact .z _
theorem Rn (l:List di):(nF l).cells=[nF l]:=by
 unfold nF dk;split<;>rfl
theorem KL {done:List (List di)} {nc:Nat}:∀e∈bF done nc,e.cells=[e]/\av 0 e:=λe he=>by
 unfold bF at he;rcases List.mem_append.1 he with he|he
 ·obtain⟨x,_,rfl⟩:=List.mem_map.1 he;exact⟨Rn x,Rm x⟩
 ·have:=List.eq_of_mem_replicate he;subst this;exact⟨rfl,by simp⟩
structure eΩ where
 d:cG
 done:List (List di)
structure fα where
 k:Nat
 d:cG
 ae:List di
theorem fβ (d:cG) (hd:d.bm.length<2 ^ 63) (iB cells:Nat) (hB:1<=iB) (yM:iB<=6) (Fs:cells<=4) :
  uR 37 [R iB,R cells] d (λr=>∃s,r=d' s/\lV s/\s.cells.length<=cells):=by
 unfold uR;refine ak.body Κ Tryz.func37 rfl rfl Tryz.ntmps37 rfl rfl (by simp) ?_
 repeat apply κ
 refine c7 (A:=[6]) Κ λη I=>?_;simp;(repeat (rw[δ];simp));apply I
 repeat apply κ
 refine W.cl ?_;refine W.part (A:=[7]) Κ [0,1,2,3] [4,5] rfl λη I=>?_;(try simp);(repeat (rw[δ];simp));refine cΦ d hd iB cells hB yM Fs rfl ?_;intro G L nc d1 cX aD sj j2;simp only[List.length_cons,List.length_nil,Nat.reduceAdd,List.set_cons_zero,List.cons_append,List.nil_append];obtain⟨yY,KM⟩:∃x,x=aX 5 (List.replicate nc bE):=⟨_,rfl⟩;have uX:(nc=0/\yY=bE)\/(0<nc/\yY=.ms 5 nc 0 nc):=by
  by_cases Η:nc=0
  ·subst Η;exact .inl ⟨rfl,KM⟩
  ·exact .inr ⟨by omega,by rw[KM,fi (by simp[Η]),List.length_replicate]⟩
 have BN:∀done:List (List di),done.length<=nc->(nc=0/\aL 60 1 (bF done nc)=[])\/(0<nc/\aL 60 1 (bF done nc)=[.cells 60 1 (bF done nc)]):=λdone kF=>by
  by_cases Η:nc=0
  ·subst Η;have:=dp.1 (xg kF);exact .inl ⟨rfl,by rw[this];rfl⟩
  ·exact .inr ⟨by omega,c8 (λh=>by have:=xg kF;rw[h] at this;simp at this;omega)⟩
 rw[<-KM,<-eΥ];rw[M8,q6];apply I;clear I η;have yZ:av ([b4 d1,eH bE bE bE,.dead,.dead,.dead]++aL 60 1 (bF [] nc)).length yY:=by
  rcases uX with⟨_,e⟩|⟨cI,e⟩
  ·rw[e];simp
  ·rcases BN [] (Nat.zero_le _) with⟨ah,_⟩|⟨_,Ζ⟩
   ·omega
   ·rw[e,Ζ];exact ng.2 (by simp)
 refine W.eΤ (A:=[7]) Κ [(0,.Ψ 0 1 0 0),(6,.Ψ 1 1 0 0),(7,.ad [aQ G,aN L,yY])] ([b4 d1,eH bE bE bE,.dead,.dead,.dead]++aL 60 1 (bF [] nc)) ?_ (by
  have bL:∀h,∀r∈[b4 d1,eH bE bE bE,.dead,.dead,.dead]++aL 60 1 (bF [] nc),ek h r:=λh r μ=>by
   rcases List.mem_append.1 μ with μ|μ
   ·simp only[List.mem_cons,List.not_mem_nil,or_false] at μ;rcases μ with rfl|rfl|rfl|rfl|rfl
    ·exact ta d1 h
    ·intro e he a ν;simp[θ.cells] at he;subst he;simp[θ.cells] at ν;subst ν;simp
    ·trivial
    ·trivial
    ·trivial
   ·exact sI (λe he a ν=>by obtain⟨J,γ⟩:=KL e he;rw[J] at ν;simp at ν;subst ν;exact γ) r μ
  rcases uX with⟨cI,e⟩|⟨cI,e⟩<;>rcases BN [] (Nat.zero_le _) with⟨ah,Ζ⟩|⟨ah,Ζ⟩
  ·rw[Ζ] at bL yZ;rw[e] at yZ;rw[e,Ζ];(try simp);(repeat (rw[δ];simp));(try simp[]);intro hW;exact W.nn (σ0:=[b4 d1,eH bE bE bE,.dead,.dead,.dead]) (by simp) (bL _) (λa ν=>by
    simp[θ.cells] at ν;rcases ν with rfl|rfl|rfl
    ·exact(fJ.2 rJ:av 0 _).mono (Nat.zero_le _)
    ·exact(fJ.2 rL:av 0 _).mono (Nat.zero_le _)
    ·exact yZ) [(0,.Ψ 0 1 0 0),(6,.Ψ 1 1 0 0),(7,.ad [aQ G,aN L,bE])] (by simp[hM,θ.cells]) hW
  ·omega
  ·omega
  ·rw[Ζ] at bL yZ;rw[e] at yZ;rw[e,Ζ];have nq:(bF [] nc).length=nc:=xg (Nat.zero_le _);(try simp);(repeat (rw[δ];simp[nq]));(try simp[nq]);intro hW;exact W.nn (σ0:=[b4 d1,eH bE bE bE,.dead,.dead,.dead,.cells 60 1 (bF [] nc)]) (by simp) (bL _) (λa ν=>by
    simp[θ.cells] at ν;rcases ν with rfl|rfl|rfl
    ·exact(fJ.2 rJ:av 0 _).mono (Nat.zero_le _)
    ·exact(fJ.2 rL:av 0 _).mono (Nat.zero_le _)
    ·exact yZ) [(0,.Ψ 0 1 0 0),(6,.Ψ 1 1 0 0),(7,.ad [aQ G,aN L,.ms 5 nc 0 nc])] (by simp[hM,θ.cells]) hW)
 obtain⟨k9,FQ⟩:∃n,n=L.length:=⟨_,rfl⟩;have Io:=aD.lo;have s4:=aD.hi;rw[<-FQ] at Io s4;have Kz:(L.map (bf R 1)).length=k9:=by rw[List.length_map,FQ]
 (repeat (first|apply κ|(refine ξ λη I=>?_;simp;(repeat (rw[δ];simp));apply I)));refine W.iter (λx:eΩ=>x.done.length<=nc/\x.d.bm.length<=d.bm.length/\∀c∈x.done,yP k9 c)
  (λx=>[(0,.Ψ 0 1 0 0),(6,.Ψ 1 1 0 0),(7,.ad [aQ G,aN L,yY]),(8,R x.done.length)])
  (λx=>[b4 x.d,eH bE bE bE,.dead,.dead,.dead]++aL 60 1 (bF x.done nc)) (λx=>nc-x.done.length) ⟨d1,[]⟩ ⟨by simp,j2,by simp⟩ rfl (by simp) (λx U Δ=>?_)
 obtain⟨D,done⟩:=x;obtain⟨kF,nA,BI⟩:=U;simp only at kF nA BI Δ ⊢;obtain⟨c,BO⟩:∃c,c=done.length:=⟨_,rfl⟩;rw[<-BO] at kF Δ;rw[<-BO]
 repeat apply κ
 refine W.fC (A:=[]) Κ [(20,bA (decide (c<nc))),(0,.Ψ 0 1 0 0),(6,.Ψ 1 1 0 0),(7,.ad [aQ G,aN L,yY]),(8,R c)] ([b4 D,eH bE bE bE,.dead,.dead,.dead]++aL 60 1 (bF done nc)) ?_ (by
  have nq:(bF done nc).length=nc:=xg (by omega);rcases uX with⟨cI,e⟩|⟨cI,e⟩<;>rcases BN done (by omega) with⟨ah,Ζ⟩|⟨ah,Ζ⟩
  ·rw[e,Ζ,ah];(try simp);(repeat (rw[δ];simp));(try simp[])
  ·omega
  ·omega
  ·rw[e,Ζ];(try simp);(repeat (rw[δ];simp[nq]));(try simp[nq]))
 refine W.en rfl (λζ=>?_) (λζ=>?_)
 ·have ζ:c<nc:=by simpa using ζ
  rcases uX with⟨cI,_⟩|⟨cI,e⟩
  ·omega
  rcases BN done (by omega) with⟨ah,_⟩|⟨ah,Ζ⟩
  ·omega
  obtain⟨X,hh⟩:∃X,X=bF done nc:=⟨_,rfl⟩;have FF:X.length=nc:=by rw[hh];exact xg (by omega)
  have Ro:X[c]?=some bE:=by rw[hh,BO];exact eΧ (by omega)
  have fγ:∀ae,X.set c (nF ae)=bF (done++[ae]) nc:=λae=>by rw[hh,BO];exact eΨ (by omega) ae
  have FG:∀e∈X,e.cells=[e]/\av 0 e:=by rw[hh];exact KL
  have FR:X.set c bE=X:=by
   apply List.ext_getElem?;intro i;rw[List.getElem?_set];split
   ·rename_i e;subst e;split
    ·exact Ro.symm
    ·rename_i h;exact(h (by omega)).elim
   ·rfl
  have j0:L.length=k9:=FQ.symm;rw[e,Ζ,<-hh];simp only[List.cons_append,List.nil_append];have Γ:=Qe D (by omega) k9 (by omega);have rF:=JW D k9;have py:∀x∈(hj D k9).1,0<=x/\x<k9:=λx h=>Qj h;have tc:=Qk D k9;have fδ:=JU D k9;obtain⟨ord,uO⟩:∃x,(hj D k9).1=x:=⟨_,rfl⟩;obtain⟨BP,fε⟩:∃x,(hj D k9).2=x:=⟨_,rfl⟩;rw[uO] at Γ rF py tc;rw[fε] at Γ fδ;(repeat apply κ);refine ξ λη I=>?_;simp;(repeat (rw[δ];simp[j0]));refine eL.c (Γ) 0 rfl (aK.refl _) (by simp) (by simp) ?_;simp;(repeat (rw[δ];simp));apply I;have Ξ:=uQ BP (by omega) k9;obtain⟨t0,t1⟩:=s9 BP k9 (by omega) (by omega);obtain⟨eC,k4⟩:∃k:Nat,hS BP k9=k:=⟨(hS BP k9).toNat,by omega⟩;obtain⟨pf,qo⟩:∃x,BP.after k9=x:=⟨_,rfl⟩;have J1:pf.bm.length<=d.bm.length:=by rw[<-qo];exact Nat.le_trans (mP _ _) (by omega)
  rw[k4,qo] at Ξ;rw[k4] at t1;(repeat apply κ);refine ξ λη I=>?_;simp;(repeat (rw[δ];simp[j0]));refine eL.c (Ξ) 0 rfl (aK.refl _) (by simp) (by simp) ?_;simp;(repeat (rw[δ];simp));apply I
  repeat apply κ
  refine W.iter (λx:fα=>x.ae.length+x.k=eC/\x.d.bm.length<=d.bm.length/\x.ae.map (·.cV)=((ord.take eC).drop x.k).reverse/\∀p∈x.ae,(0<=p.seen/\p.seen<=63)/\(0<=p.bare/\p.bare<=63)/\rb p.seen p.bare=0)
   (λx=>[(0,.Ψ 0 1 0 0),(6,.Ψ 1 1 0 0),(7,.ad [aQ G,aN L,.ms 5 nc 0 nc]),(8,R c),(9,bf R 1 ord),(10,R x.k)])
   (λx=>b4 x.d::eH bE bE bE::.dead::.dead::.dead::.cells 60 1 (X.set c (aX 6 (x.ae.map cw)))::aL 28 3 (x.ae.map cw)) (λx=>x.k) ⟨eC,pf,[]⟩
   ⟨by simp,J1,by simp,by simp⟩ (by simp only[List.map_nil];rw[show aX 6 []=bE from rfl,FR];rfl) (by simp) (λx U Bz=>?_)
  obtain⟨k,E,ae⟩:=x;obtain⟨χ,KN,eX,KO⟩:=U;simp only at χ KN eX KO Bz ⊢;(repeat (first|apply κ|(refine ξ λη I=>?_;simp;(repeat (rw[δ];simp));apply I)));refine W.en rfl (λa4=>?_) (λa4=>?_)
  ·have k4:0<k:=by simpa using a4
   obtain⟨j,ε⟩:∃j,k=j+1:=⟨k-1,by omega⟩;have hw:IntKind.i64.wrap ((k:Int)-1)=j:=by rw[IntWalk.i64_in _ (by omega)];omega
   have Ja:j<ord.length:=by omega
   have dv:ord[j]?=some ord[j]:=a2 Ja;obtain⟨y0,ec⟩:∃x,x=ord[j]:=⟨_,rfl⟩;rw[<-ec] at dv;have Rp:∀h,ord[j]'h=y0:=λh=>ec.symm;have KP:=uQ E (by omega) 63;obtain⟨w8,a1⟩:=s9 E 63 (by decide) (by decide);obtain⟨vx,sC⟩:∃x,hS E 63=x:=⟨_,rfl⟩;obtain⟨ps,Rq⟩:∃x,E.after 63=x:=⟨_,rfl⟩;have fζ:ps.bm.length<=d.bm.length:=by rw[<-Rq];exact Nat.le_trans (mP _ _) KN
   rw[sC,Rq] at KP;rw[sC] at w8 a1;have kX:=uQ ps (by omega) 63;obtain⟨cK,bP⟩:=s9 ps 63 (by decide) (by decide);obtain⟨nR,nP⟩:∃x,hS ps 63=x:=⟨_,rfl⟩;obtain⟨pt,Rr⟩:∃x,ps.after 63=x:=⟨_,rfl⟩;have fη:pt.bm.length<=d.bm.length:=by rw[<-Rr];exact Nat.le_trans (mP _ _) fζ
   rw[nP,Rr] at kX;rw[nP] at cK bP;obtain⟨⟨hJ,dZ⟩,_,_⟩:=J8 ⟨w8,a1⟩ ⟨cK,bP⟩;obtain⟨qQ,BQ⟩:∃x,gz .i64 vx nR=x:=⟨_,rfl⟩;rw[BQ] at hJ dZ;have wQ:=bΦ pt (by omega) [0,0,qQ] (by simp) (by simp);obtain⟨xh,dc⟩:∃x,([0,0,qQ]:List Int).getD (yI pt [0,0,qQ]) 0=x:=⟨_,rfl⟩;have Rs:0<=xh/\xh<=63:=by
    rw[<-dc]
    match yI pt [0,0,qQ] with
    | 0=>simp
    | 1=>simp
    | 2=>simp;omega
    | n+3=>simp
   obtain⟨y1,Rt⟩:∃x,pt.after ((([0,0,qQ]:List Int).length:Int)-1)=x:=⟨_,rfl⟩;have fθ:y1.bm.length<=d.bm.length:=by rw[<-Rt];exact Nat.le_trans (mP _ _) fη
   rw[dc,Rt] at wQ;obtain⟨rQ,lY⟩:∃x:List Row,x=eH bE bE bE::.dead::.dead::.dead::.cells 60 1 (X.set c (aX 6 (ae.map cw)))::aL 28 3 (ae.map cw):=⟨_,rfl⟩;have BR:(aX 6 (ae.map cw)=bE/\aL 28 3 (ae.map cw)=[]/\ae=[])\/(aX 6 (ae.map cw)=.ms 6 ae.length 0 ae.length/\aL 28 3 (ae.map cw)=[.cells 28 3 (ae.map cw)]/\0<ae.length):=by
    by_cases Η:ae=[]
    ·subst Η;exact .inl ⟨rfl,rfl,rfl⟩
    ·have gp:ae.map cw≠[]:=by simpa using Η
     exact .inr ⟨by rw[fi gp,List.length_map],c8 gp,List.length_pos_iff.2 Η⟩
   rw[<-lY]
   repeat apply κ
   refine W.Qb (A:=[11]) Κ mixed [(0,.Ψ 0 1 0 0),(6,.Ψ 1 1 0 0),(7,.ad [aQ G,aN L,.ms 5 nc 0 nc]),(8,R c),(9,bf R 1 ord),(10,R k),(11,.Ψ (rQ.length+1) 1 0 0)] (b4 y1::rQ++[.cells 28 3 [.aW [R y0,R xh,R 0]]]) ?_ (by
    rcases BR with⟨f1,f2,f3⟩|⟨f1,f2,f3⟩
    ·rw[f1,f2] at lY;rw[lY];simp;(repeat (rw[ku];simp[hw,dv,Rp,rF]));(try rw[ks]);refine⟨by omega,?_⟩;refine eL.e (KP) (aK.refl _) (by simp) (by simp) ?_;simp[];(repeat (rw[ku];simp[]));(try rw[ks]);refine eL.e (kX) (aK.refl _) (by simp) (by simp) ?_;simp[BQ];(repeat (rw[ku];simp[BQ]));(try rw[ks]);refine eL.e wQ (.cons .ex .nil) (by simp) (by simp) ?_;simp;(repeat (rw[ku];simp[]));(try rw[ks]);refine⟨bW (by kernel_rfl),bW (by kernel_rfl),?_⟩;simp
    ·rw[f1,f2] at lY;rw[lY];simp;(repeat (rw[ku];simp[hw,dv,Rp,rF]));(try rw[ks]);refine⟨by omega,?_⟩;refine eL.e (KP) (aK.refl _) (by simp) (by simp) ?_;simp[];(repeat (rw[ku];simp[]));(try rw[ks]);refine eL.e (kX) (aK.refl _) (by simp) (by simp) ?_;simp[BQ];(repeat (rw[ku];simp[BQ]));(try rw[ks]);refine eL.e wQ (.cons .ex .nil) (by simp) (by simp) ?_;simp;(repeat (rw[ku];simp[]));(try rw[ks]);refine⟨bW (by kernel_rfl),bW (by kernel_rfl),?_⟩;simp)
   have ob:=uQ y1 (by omega) 63;obtain⟨dC,c1⟩:=s9 y1 63 (by decide) (by decide);obtain⟨lx,qm⟩:∃x,hS y1 63=x:=⟨_,rfl⟩;obtain⟨BS,Ru⟩:∃x,y1.after 63=x:=⟨_,rfl⟩;have fι:BS.bm.length<=d.bm.length:=by rw[<-Ru];exact Nat.le_trans (mP _ _) fθ
   rw[qm,Ru] at ob;rw[qm] at dC c1;have A7:=uQ BS (by omega) 63;obtain⟨d0,Rv⟩:=s9 BS 63 (by decide) (by decide);obtain⟨pD,xc⟩:∃x,hS BS 63=x:=⟨_,rfl⟩;obtain⟨qv,Rw⟩:∃x,BS.after 63=x:=⟨_,rfl⟩;have fκ:qv.bm.length<=d.bm.length:=by rw[<-Rw];exact Nat.le_trans (mP _ _) fι
   rw[xc,Rw] at A7;rw[xc] at d0 Rv;obtain⟨Rx,_,_⟩:=J8 ⟨dC,c1⟩ ⟨d0,Rv⟩;obtain⟨zJ,tj⟩:∃x,gz .i64 lx pD=x:=⟨_,rfl⟩;rw[tj] at Rx;obtain⟨_,rk,Η⟩:=J8 Rx Rs;obtain⟨za,q0⟩:∃x,qS .i64 zJ xh=x:=⟨_,rfl⟩;rw[q0] at rk Η
   repeat apply κ
   refine W.Qb (A:=[]) Κ mixed [(11,.Ψ (rQ.length+1) 1 0 0),(0,.Ψ 0 1 0 0),(6,.Ψ 1 1 0 0),(7,.ad [aQ G,aN L,.ms 5 nc 0 nc]),(8,R c),(9,bf R 1 ord),(10,R k)] ((b4 qv::rQ)++[.cells 28 3 [.aW [R y0,R xh,R za]]]) ?_ (by
    rcases BR with⟨f1,f2,f3⟩|⟨f1,f2,f3⟩
    ·rw[f1,f2] at lY;rw[lY];simp;(repeat (rw[ku];simp[]));(try rw[ks]);refine eL.e (ob) (aK.refl _) (by simp) (by simp) ?_;simp[];(repeat (rw[ku];simp[]));(try rw[ks]);refine eL.e (A7) (aK.refl _) (by simp) (by simp) ?_;simp[tj,q0];(repeat (rw[ku];simp[tj,q0]));(try rw[ks]);refine⟨bW (by kernel_rfl),bW (by kernel_rfl),?_⟩;simp
    ·rw[f1,f2] at lY;rw[lY];simp;(repeat (rw[ku];simp[]));(try rw[ks]);refine eL.e (ob) (aK.refl _) (by simp) (by simp) ?_;simp[];(repeat (rw[ku];simp[]));(try rw[ks]);refine eL.e (A7) (aK.refl _) (by simp) (by simp) ?_;simp[tj,q0];(repeat (rw[ku];simp[tj,q0]));(try rw[ks]);refine⟨bW (by kernel_rfl),bW (by kernel_rfl),?_⟩;simp)
   have fμ:∀r∈b4 qv::rQ,ek (b4 qv::rQ).length r:=λr μ=>by
    rcases List.mem_cons.1 μ with rfl|μ
    ·exact ta qv _
    have hlen:0<ae.length->6<(b4 qv::rQ).length:=λh=>by
     rcases BR with⟨_,_,f3⟩|⟨_,f2,_⟩
     ·rw[f3] at h;simp at h
     ·rw[lY,f2];simp
    generalize (b4 qv::rQ).length=N at hlen;rw[lY] at μ;simp only[List.mem_cons] at μ;rcases μ with rfl|rfl|rfl|rfl|rfl|μ
    ·intro e he a ν;simp[θ.cells] at he;subst he;simp[θ.cells] at ν;subst ν;simp
    ·trivial
    ·trivial
    ·trivial
    ·intro e he a ν;rcases List.mem_or_eq_of_mem_set he with he|rfl
     ·obtain⟨J,γ⟩:=FG e he;rw[J] at ν;simp at ν;subst ν;exact γ.mono (Nat.zero_le _)
     ·rcases BR with⟨f1,_,_⟩|⟨f1,_,f3⟩
      ·rw[f1] at ν;simp[θ.cells] at ν;subst ν;simp
      ·rw[f1] at ν;simp[θ.cells] at ν;subst ν;exact ng.2 (hlen f3)
    ·refine sI (λe he a ν=>?_) r μ;obtain⟨x,_,rfl⟩:=List.mem_map.1 he;simp[θ.cells] at ν;rcases ν with rfl|rfl|rfl<;>exact .z _
   have jΑ:6<=(b4 qv::rQ).length:=by rw[lY];simp
   refine W.nn (σ0:=b4 qv::rQ) (by simp) fμ (λa ν=>by simp[θ.cells] at ν;rcases ν with rfl|rfl|rfl<;>exact .z _) [(11,.ad [R y0,R xh,R za]),(0,.Ψ 0 1 0 0),(6,.Ψ 1 1 0 0),(7,.ad [aQ G,aN L,.ms 5 nc 0 nc]),(8,R c),(9,bf R 1 ord),(10,R k)] (λp ω=>by
    simp only[List.mem_cons,List.not_mem_nil,or_false] at ω;rcases ω with rfl|rfl|rfl|rfl|rfl|rfl|rfl
    ·exact .inr ⟨rfl,rfl⟩
    ·exact .inl ⟨rfl,hM.2 (by omega)⟩
    ·exact .inl ⟨rfl,hM.2 (by omega)⟩
    ·refine .inl ⟨rfl,HI.2 λa ν=>?_⟩;simp only[List.mem_cons,List.not_mem_nil,or_false] at ν;rcases ν with rfl|rfl|rfl
     ·exact(fJ.2 rJ:av 0 _).mono (Nat.zero_le _)
     ·exact(fJ.2 rL:av 0 _).mono (Nat.zero_le _)
     ·exact ng.2 (by omega)
    ·exact .inl ⟨rfl,.z _⟩
    ·exact .inl ⟨rfl,(fJ.2 (λe he a ν=>by obtain⟨x,_,rfl⟩:=List.mem_map.1 he;simp[θ.cells] at ν;subst ν;exact .z _):av 0 _).mono (Nat.zero_le _)⟩
    ·exact .inl ⟨rfl,.z _⟩) ?_
   obtain⟨va,KQ⟩:∃p:di,p=⟨y0,xh,za⟩:=⟨_,rfl⟩;have bw:(ae++[va]).map cw≠[]:=by simp
   repeat apply κ
   refine W.JR (A:=[70]) Κ mixed [(0,.Ψ 0 1 0 0),(6,.Ψ 1 1 0 0),(7,.ad [aQ G,aN L,.ms 5 nc 0 nc]),(8,R c),(9,bf R 1 ord),(10,R k)] (b4 qv::eH bE bE bE::.dead::.dead::.dead::.cells 60 1 (X.set c (aX 6 ((ae++[va]).map cw)))::aL 28 3 ((ae++[va]).map cw)) ?_ (by
    rw[fi bw,c8 bw,List.length_map,List.length_append,List.map_append,List.map_cons,List.map_nil,KQ];rcases BR with⟨f1,f2,f3⟩|⟨f1,f2,f3⟩
    ·rw[f1,f2] at lY;rw[lY,FR,f3];simp;(repeat (rw[bD];simp[FF,Ro]));(try rw[bC]);refine⟨by omega,?_⟩;refine⟨bW (by kernel_rfl),?_⟩;simp
    ·rw[f1,f2] at lY;rw[lY];have fν:∀v,(X.set c v)[c]?=some v:=λv=>by rw[List.getElem?_set_self (by omega)]
     have fξ:∀v h,(X.set c v)[c]'h=v:=λv h=>List.getElem_set_self h;simp;(repeat (rw[bD];simp[FF,fν,fξ]));(try rw[bC]);refine⟨by omega,by omega,by omega,?_⟩;refine⟨bW (by kernel_rfl),?_⟩;simp)
   (repeat (first|apply κ|(refine ξ λη I=>?_;simp;(repeat (rw[δ];simp[hw]));apply I)));have kM:(ord.take eC).drop j=y0::(ord.take eC).drop k:=by
    have gV:j<(ord.take eC).length:=by rw[List.length_take];omega
    rw[List.drop_eq_getElem_cons gV,ε,List.getElem_take,ec]
   refine W.to (Bz ⟨j,qv,ae++[va]⟩ ⟨by show(ae++[va]).length+j=eC;rw[List.length_append];simp;omega,fκ,?_,λp ω=>?_⟩ (by show j<k;omega)) (by simp) (by simp[hw])
   ·show(ae++[va]).map (·.cV)=((ord.take eC).drop j).reverse;rw[kM,List.map_append,eX,List.reverse_cons,KQ];rfl
   ·rcases List.mem_append.1 ω with ω|ω
    ·exact KO p ω
    ·simp at ω;subst ω;subst KQ;exact⟨Rs,rk,Η⟩
  ·have k4:k=0:=by simp at a4;omega
   subst k4;have jΒ:ae.length=eC:=by omega
   rw[List.drop_zero] at eX;have m6:yP k9 ae:=by
    refine⟨by omega,?_,λp ω=>?_⟩
    ·rw[eX];unfold List.Nodup;rw[List.pairwise_reverse];exact(tc.sublist (List.take_sublist _ _)).imp Ne.symm
    ·have hm:p.cV∈ae.map (·.cV):=List.mem_map.2 ⟨p,ω,rfl⟩;rw[eX,List.mem_reverse] at hm;have:=py _ (List.mem_of_mem_take hm);obtain⟨Ρ,ag,aV⟩:=KO p ω;exact⟨this,Ρ,ag,aV⟩
   have hw:IntKind.i64.wrap ((c:Int)+1)=((c+1:Nat):Int):=by rw[IntWalk.i64_in _ (by omega)];omega
   have fο:(done++[ae]).length=c+1:=by simp;omega
   have y2:=Δ ⟨E,done++[ae]⟩ ⟨by show(done++[ae]).length<=nc;omega,KN,λx U=>by
    rcases List.mem_append.1 U with U|U
    ·exact BI x U
    ·simp at U;subst U;exact m6⟩ (by show nc-(done++[ae]).length<nc-c;omega)
   have fπ:bF (done++[ae]) nc≠[]:=λh=>by
    have:=xg (done:=done++[ae]) (nc:=nc) (by omega);rw[h] at this;simp at this;omega
   simp only[fο] at y2;rw[c8 fπ,<-fγ ae,e] at y2;refine W.exit rfl ?_;by_cases Η:ae=[]
   ·subst Η;rw[show nF []=bE from rfl,FR] at y2;rw[show aX 6 (([]:List di).map cw)=bE from rfl,show aL 28 3 (([]:List di).map cw)=[] from rfl,FR];(repeat (first|apply κ|(refine ξ λη I=>?_;simp;(repeat (rw[δ];simp[hw]));apply I)));exact W.to y2 rfl (by simp[hw])
   ·have gp:ae.map cw≠[]:=by simpa using Η
    have Ry:nF ae=.sl false 3 (ae.map cw):=by unfold nF dk;rw[if_neg (by simpa using Η)]
    rw[Ry] at y2;rw[fi gp,c8 gp];refine W.uS (σ':=b4 E::eH bE bE bE::.dead::.dead::.dead::.cells 60 1 (X.set c (.sl false 3 (ae.map cw)))::[.dead]) (id:=6) (by simp) rfl rfl rfl (λi r hi μ=>?_) [(0,.Ψ 0 1 0 0),(6,.Ψ 1 1 0 0),(7,.ad [aQ G,aN L,.ms 5 nc 0 nc]),(8,R c)] (λp ω=>by
     simp only[List.mem_cons,List.not_mem_nil,or_false] at ω;rcases ω with rfl|rfl|rfl|rfl<;>exact .same _) ?_
    ·match i,hi,μ with
     | 0,_,μ=>exact⟨r,μ,.inl rfl⟩
     | 1,_,μ=>exact⟨r,μ,.inl rfl⟩
     | 2,_,μ=>exact⟨r,μ,.inl rfl⟩
     | 3,_,μ=>exact⟨r,μ,.inl rfl⟩
     | 4,_,μ=>exact⟨r,μ,.inl rfl⟩
     | 5,_,μ=>
      simp at μ;subst μ;refine⟨_,rfl,.inr ⟨60,1,_,_,rfl,rfl,by simp,λy e aJ J γ=>?_⟩⟩;by_cases Ο:y=c
      ·subst Ο;rw[List.getElem?_set_self (by omega)] at J γ;cases J;cases γ;refine⟨rfl,λx a b9 π Μ=>?_⟩
       match x with
       | 0=>simp[θ.cells] at π Μ;subst π;subst Μ;have:=rK.ms (id:=6) (k:=3) (l:=ae.map cw);rwa [List.length_map] at this
       | x+1=>simp[θ.cells] at π
      ·rw[List.getElem?_set_ne (Ne.symm Ο)] at J γ;rw[J] at γ;cases γ;exact⟨rfl,λx a b9 π Μ=>by rw[π] at Μ;cases Μ;exact .same _⟩
     | 6,h,_=>exact absurd rfl h
     | i+7,_,μ=>simp at μ
    refine W.drop (h:=6) (by simp) (by simp) (λi r hi μ=>?_) rfl [(0,.Ψ 0 1 0 0),(6,.Ψ 1 1 0 0),(7,.ad [aQ G,aN L,.ms 5 nc 0 nc]),(8,R c)] ?_ ?_
    ·match i,hi,μ with
     | 0,_,μ=>simp at μ;subst μ;exact ta E 6
     | 1,_,μ=>simp at μ;subst μ;intro e he a ν;simp[θ.cells] at he;subst he;simp[θ.cells] at ν;subst ν;simp
     | 2,_,μ=>simp at μ;subst μ;trivial
     | 3,_,μ=>simp at μ;subst μ;trivial
     | 4,_,μ=>simp at μ;subst μ;trivial
     | 5,_,μ=>
      simp at μ;subst μ;intro e he a ν;rcases List.mem_or_eq_of_mem_set he with he|rfl
      ·obtain⟨J,γ⟩:=FG e he;rw[J] at ν;simp at ν;subst ν;exact γ.mono (Nat.zero_le _)
      ·simp[θ.cells] at ν;subst ν;have:=Rm ae;rw[Ry] at this;exact this.mono (Nat.zero_le _)
     | i+6,h,_=>omega
    ·intro p ω;simp only[List.mem_cons,List.not_mem_nil,or_false] at ω;rcases ω with rfl|rfl|rfl|rfl
     ·exact⟨rfl,hM.2 (by omega)⟩
     ·exact⟨rfl,hM.2 (by omega)⟩
     ·refine⟨rfl,HI.2 λa ν=>?_⟩;simp only[List.mem_cons,List.not_mem_nil,or_false] at ν;rcases ν with rfl|rfl|rfl
      ·exact(fJ.2 rJ:av 0 _).mono (Nat.zero_le _)
      ·exact(fJ.2 rL:av 0 _).mono (Nat.zero_le _)
      ·exact ng.2 (by omega)
     ·exact⟨rfl,.z _⟩
    (repeat (first|apply κ|(refine ξ λη I=>?_;simp;(repeat (rw[δ];simp[hw]));apply I)));exact W.to y2 rfl (by simp[hw])
 ·have ζ:c=nc:=by simp at ζ;omega
  subst ζ;refine W.exit rfl ?_;have oM:lV ⟨G,L,done⟩:=⟨cX,aD,by show done.length<=4;omega,λx U=>by show yP L.length x;rw[<-FQ];exact BI x U⟩;have fρ:bF done c=done.map nF:=by rw[BO];exact eΦ
  have JK:cC (.aW [aQ G,aN L,.sl false 1 (done.map nF)]) (d' ⟨G,L,done⟩):=by
   refine .aW (.cons (.refl _) (.cons (.refl _) (.cons ?_ .nil)));exact .map λx _=>.one .acc (Rn x) rfl
  rcases uX with⟨cI,e⟩|⟨cI,e⟩<;>rcases BN done (by omega) with⟨ah,Ζ⟩|⟨ah,Ζ⟩
  ·rw[e,Ζ];(repeat (first|apply κ|(refine ξ λη I=>?_;simp;(repeat (rw[δ];simp));apply I)));have fς:done=[]:=dp.1 (by omega);refine W.cut 1 (by simp) [(6,.ad [aQ G,aN L,bE])] (by simp) (λid r bS μ=>?_) (λp ω=>?_) ?_
   ·have:id=0:=by omega
    subst this;simp at μ;subst μ;exact ta D 1
   ·simp only[List.mem_cons,List.not_mem_nil,or_false] at ω;subst ω;show eE 1 _ (a5 _ 6) _;simp;refine .struct (by simp) (show _=some (Row.cells _ _ [.aW _]) from rfl) rfl λx a b9 J γ=>?_
    match x with
    | 0=>simp at J γ;subst J;subst γ;exact .low ((fJ.2 rJ:av 0 _).mono (Nat.zero_le _))
    | 1=>simp at J γ;subst J;subst γ;exact .low ((fJ.2 rL:av 0 _).mono (Nat.zero_le _))
    | 2=>simp at J γ;subst J;subst γ;exact .low (by simp)
    | x+3=>simp at γ
   ·refine W.ret ⟨_,rfl,_,D,?_,⟨_,rfl,oM,by show done.length<=cells;omega⟩,rfl,nA⟩;rw[fς];exact .aW (.cons (.refl _) (.cons (.refl _) (.cons .nil .nil)))
  ·omega
  ·omega
  ·have nq:(bF done c).length=c:=xg (by omega);rw[e,Ζ];(repeat (first|apply κ|(refine ξ λη I=>?_;simp;(repeat (rw[δ];simp[nq]));apply I)));refine W.cut 1 (by simp) [(6,.ad [aQ G,aN L,.sl false 1 (bF done c)])] (by simp) (λid r bS μ=>?_) (λp ω=>?_) ?_
   ·have:id=0:=by omega
    subst this;simp at μ;subst μ;exact ta D 1
   ·simp only[List.mem_cons,List.not_mem_nil,or_false] at ω;subst ω;show eE 1 _ (a5 _ 6) _;simp;refine .struct (by simp) (show _=some (Row.cells _ _ [.aW _]) from rfl) rfl λx a b9 J γ=>?_
    match x with
    | 0=>simp at J γ;subst J;subst γ;exact .low ((fJ.2 rJ:av 0 _).mono (Nat.zero_le _))
    | 1=>simp at J γ;subst J;subst γ;exact .low ((fJ.2 rL:av 0 _).mono (Nat.zero_le _))
    | 2=>simp at J γ;subst J;subst γ;exact .own (t:=60) (by simp) rfl nq (λe he a ν=>by
      obtain⟨dZ,dM⟩:=KL e he;rw[dZ] at ν;simp at ν;subst ν;exact dM.mono (Nat.zero_le _))
    | x+3=>simp at γ
   ·rw[fρ];exact W.ret ⟨_,rfl,_,D,JK,⟨_,rfl,oM,by show done.length<=cells;omega⟩,rfl,nA⟩
def cnt (x n:Int):Nat->Int
 | 0=>0
 | k+1=>cnt x n k+(if gz .i64 x (2 ^ k)≠0 then 1 else 0)-(if gz .i64 n (2 ^ k)≠0 then 1 else 0)
end Go.TL
