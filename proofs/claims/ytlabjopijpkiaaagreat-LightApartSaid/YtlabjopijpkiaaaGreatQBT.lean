import Derived.Test.YtlabjopijpkiaaaGreatQAY
import Derived.Test.YtlabjopijpkiaaaGreatQBC
import Derived.Test.YtlabjopijpkiaaaGreatQBR
import Derived.Test.YtlabjopijpkiaaaGreatQBS
set_option maxHeartbeats 16000000
set_option maxRecDepth 20000
set_option linter.unusedSectionVars false
set_option linter.unusedSimpArgs false
set_option linter.unusedVariables false
namespace Go.TL
open Go.Proofs
variable [bd]
theorem IV (d:Array (Int×Int)) (n a b s:Nat) (Η:d.size=n) (μ:a<n) (hb:b<n) (ξ:s<2 ^ 40) (ai:θ) (cmp:Int×Int→Int×Int→Int) (bR:az 0 ai) (Ρ:∀x y,fT Tryz.prog ai [ax x,ax y] (U (cmp x y))) :
  ak Tryz.prog 258 [.ms 0 n 0 n,U a,U b,.ag 1 1 0 0,ai] [.cells 112 2 (d.toList.map ax),.cells 3 1 [U s]] (fun r σ=>r=.bt [U (Go.Sort.order2 (ar cmp) d a b s).1,U (Go.Sort.order2 (ar cmp) d a b s).2.1]∧σ=[.cells 112 2 (d.toList.map ax),.cells 3 1 [U (Go.Sort.order2 (ar cmp) d a b s).2.2]]) (fun _ _=>False):=by
 refine ak.body Θ Tryz.func258 rfl rfl Tryz.ntmps258 rfl rfl (by simp) ?_;obtain⟨L,aD⟩:∃L,L=d.toList.map ax:=⟨_,rfl⟩;have jA:L.length=n:=by rw[aD];simpa using Η
 obtain⟨x,δ⟩:∃x,x=d[a]!:=⟨_,rfl⟩;obtain⟨y,Ο⟩:∃y,y=d[b]!:=⟨_,rfl⟩;have IW:L[a]?=some (ax x):=by rw[aD,δ,List.getElem?_map,Array.getElem?_toList,rJ (by omega)];rfl
 have rV:L[b]?=some (ax y):=by rw[aD,Ο,List.getElem?_map,Array.getElem?_toList,rJ (by omega)];rfl
 have bΒ:∀h:a<L.length,L[a]=ax x:=fun h=>by have:=IW;rw[bc h] at this;exact Option.some.inj this
 have bΓ:∀h:b<L.length,L[b]=ax y:=fun h=>by have:=rV;rw[bc h] at this;exact Option.some.inj this
 have hw:IntKind.i64.wrap ((s:Int)+1)=((s+1:Nat):Int):=by rw[IntWalk.i64_in _ (by omega)];omega
 have Β:Go.Sort.order2 (ar cmp) d a b s=if ar cmp y x=true then(b,a,s+1) else(a,b,s):=by unfold Go.Sort.order2;rw[←δ,←Ο]
 rw[Β,←aD];clear aD δ Ο Β;(repeat (first|apply ι|(refine ν fun J I=>?_;simp;(repeat (rw[ζ];simp));apply I;clear I J)));refine W.draw (A:=[]) Θ mixed fun J I=>?_;simp;(repeat (rw[bp];simp[jA,IW,rV,bΒ,bΓ]));refine⟨hb,μ,?_⟩;refine gn (Ρ y x) ?_;simp;(repeat (rw[bp];simp));refine⟨bL (by kernel_rfl),I _ _ ?_⟩;clear I J;by_cases hm:cmp y x<0
 ·refine al (by simp[hm]) ?_;(repeat (first|apply ι|(refine ν fun J I=>?_;simp;(repeat (rw[ζ];simp[hw]));apply I;clear I J)));exact W.ret ⟨_,rfl,by simp[ar,Go.Sort.ltInt,hm],by simp[ar,Go.Sort.ltInt,hm]⟩
 ·refine ah (by simp[hm]) ?_;(repeat (first|apply ι|(refine ν fun J I=>?_;simp;(repeat (rw[ζ];simp[hw]));apply I;clear I J)));exact W.ret ⟨_,rfl,by simp[ar,Go.Sort.ltInt,hm],by simp[ar,Go.Sort.ltInt,hm]⟩
theorem bΔ (d:Array (Int×Int)) (n a b c s:Nat) (Η:d.size=n) (μ:a<n) (hb:b<n) (η:c<n) (ξ:s<2 ^ 39) (ai:θ) (cmp:Int×Int→Int×Int→Int) (bR:az 0 ai) (Ρ:∀x y,fT Tryz.prog ai [ax x,ax y] (U (cmp x y))) :
  ak Tryz.prog 256 [.ms 0 n 0 n,U a,U b,U c,.ag 1 1 0 0,ai] [.cells 112 2 ((d).toList.map ax),.cells 3 1 [U (s:Nat)]] (fun r σ=>r=U (Go.Sort.median (ar cmp) d a b c s).1∧σ=[.cells 112 2 ((d).toList.map ax),.cells 3 1 [U ((Go.Sort.median (ar cmp) d a b c s).2:Nat)]]) (fun _ _=>False):=by
 refine ak.body Θ Tryz.func256 rfl rfl Tryz.ntmps256 rfl rfl (by simp) ?_;obtain⟨r1,Ε⟩:∃r,Go.Sort.order2 (ar cmp) d a b s=r:=⟨_,rfl⟩;have f1:=IJ (ar cmp) d (a:=a) (b:=b) (n:=n) (by omega) (by omega) s;have c1:=IV d n a b s Η (by omega) (by omega) (by omega) ai cmp bR Ρ;rw[Ε] at f1 c1;obtain⟨a1,bI,s1⟩:=r1;simp only at f1 c1;obtain⟨r2,Δ⟩:∃r,Go.Sort.order2 (ar cmp) d bI c s1=r:=⟨_,rfl⟩;have f2:=IJ (ar cmp) d (a:=bI) (b:=c) (n:=n) (by omega) (by omega) s1;have c2:=IV d n bI c s1 Η (by omega) (by omega) (by omega) ai cmp bR Ρ;rw[Δ] at f2 c2;obtain⟨bg,dc,s2⟩:=r2;simp only at f2 c2;obtain⟨r3,a4⟩:∃r,Go.Sort.order2 (ar cmp) d a1 bg s2=r:=⟨_,rfl⟩;have f3:=IJ (ar cmp) d (a:=a1) (b:=bg) (n:=n) (by omega) (by omega) s2;have c3:=IV d n a1 bg s2 Η (by omega) (by omega) (by omega) ai cmp bR Ρ;rw[a4] at f3 c3;obtain⟨cv,fB,nO⟩:=r3;simp only at f3 c3;have hm:Go.Sort.median (ar cmp) d a b c s=(fB,nO):=by unfold Go.Sort.median;simp only[Ε,Δ,a4]
 rw[hm]
 repeat (first|apply ι)
 refine ν fun J I=>?_;simp;(repeat (rw[ζ];simp));apply I;clear I J;(repeat (first|apply ι));refine ν fun J I=>?_;simp;(repeat (rw[ζ];simp));refine ak.call (first:=[]) (captured:=[]) ((c1).mono (fun r s ⟨eh,dT⟩=>?_) (fun _ _ h=>h.elim));subst eh;subst dT;simp;(repeat (rw[ζ];simp));apply I;clear I J;(repeat (first|apply ι));refine ν fun J I=>?_;simp;(repeat (rw[ζ];simp));refine ak.call (first:=[]) (captured:=[]) ((c2).mono (fun r s ⟨eh,dT⟩=>?_) (fun _ _ h=>h.elim));subst eh;subst dT;simp;(repeat (rw[ζ];simp));apply I;clear I J;(repeat (first|apply ι));refine ν fun J I=>?_;simp;(repeat (rw[ζ];simp));refine ak.call (first:=[]) (captured:=[]) ((c3).mono (fun r s ⟨eh,dT⟩=>?_) (fun _ _ h=>h.elim));subst eh;subst dT;simp;(repeat (rw[ζ];simp));apply I;clear I J;(repeat (first|apply ι|(refine ν fun J I=>?_;simp;(repeat (rw[ζ];simp));apply I;clear I J)));exact W.ret ⟨_,rfl,rfl,rfl⟩
theorem bΕ (d:Array (Int×Int)) (n a b:Nat) (Η:d.size=n) (ξ:n<2 ^ 38) (gw:a+12<b) (Pm:b<a+50) (hb:b≤n) (ai:θ) (cmp:Int×Int→Int×Int→Int) (bR:az 0 ai) (Ρ:∀x y,fT Tryz.prog ai [ax x,ax y] (U (cmp x y))) :
  ak Tryz.prog 237 [.ms 0 n 0 n,U a,U b,ai] [.cells 112 2 ((d).toList.map ax)] (fun r s=>r=.bt [U (Go.Sort.choosePivot (ar cmp) d a b).1,U (xC (Go.Sort.choosePivot (ar cmp) d a b).2)]∧s=[.cells 112 2 ((d).toList.map ax)]) (fun _ _=>False):=by
 refine ak.body Θ Tryz.func237 rfl rfl Tryz.ntmps237 rfl rfl (by simp) ?_;obtain⟨l,ω⟩:∃l,l=b-a:=⟨_,rfl⟩;obtain⟨q,Υ⟩:∃q,q=l / 4:=⟨_,rfl⟩;obtain⟨en,IX⟩:∃x,x=q*2:=⟨_,rfl⟩;obtain⟨ia,bΖ⟩:∃x,x=q*3:=⟨_,rfl⟩;obtain⟨i,hi⟩:∃x,x=a+q:=⟨_,rfl⟩;obtain⟨j,ε⟩:∃x,x=a+en:=⟨_,rfl⟩;obtain⟨k,υ⟩:∃x,x=a+ia:=⟨_,rfl⟩;obtain⟨fN,em⟩:∃r,Go.Sort.median (ar cmp) d i j k 0=r:=⟨_,rfl⟩;have IY:=bΔ d n i j k 0 Η (by omega) (by omega) (by omega) (by omega) ai cmp bR Ρ;rw[em] at IY;obtain⟨nL,nu⟩:=fN;simp only at IY;have dR:Go.Sort.choosePivot (ar cmp) d a b=(nL,if nu=0 then .increasing else if nu=12 then .decreasing else .unknown):=by
  have m2:8≤l:=by omega
  have bΗ:¬50≤l:=by omega
  simp only[Go.Sort.choosePivot,←ω,←Υ,Nat.mul_one,←IX,←bΖ,←hi,←ε,←υ,ge_iff_le,if_pos m2,if_neg bΗ,em]
 rw[dR];have r4:(8:Int)≤(l:Int):=by omega
 have bΘ:¬(50:Int)≤(l:Int):=by omega
 have w1:IntKind.i64.wrap ((b:Int)-(a:Int))=(l:Int):=by rw[IntWalk.i64_in _ (by omega)];omega
 have w2:IntKind.i64.wrap ((l:Int) / 4)=(q:Int):=by rw[Υ];exact D8 (m:=4) (by omega)
 have w3:IntKind.i64.wrap (q:Int)=(q:Int):=IntWalk.i64_in _ (by omega)
 have w4:IntKind.i64.wrap ((q:Int)*2)=(en:Int):=by rw[IntWalk.i64_in _ (by omega)];omega
 have xG:IntKind.i64.wrap ((q:Int)*3)=(ia:Int):=by rw[IntWalk.i64_in _ (by omega)];omega
 have pM:IntKind.i64.wrap ((a:Int)+(q:Int))=(i:Int):=by rw[IntWalk.i64_in _ (by omega)];omega
 have pN:IntKind.i64.wrap ((a:Int)+(en:Int))=(j:Int):=by rw[IntWalk.i64_in _ (by omega)];omega
 have vu:IntKind.i64.wrap ((a:Int)+(ia:Int))=(k:Int):=by rw[IntWalk.i64_in _ (by omega)];omega
 repeat (first|apply ι)
 refine ν fun J I=>?_;simp;(repeat (rw[ζ];simp));apply I;clear I J
 repeat (first|apply ι)
 refine ν fun J I=>?_;simp;(repeat (rw[ζ];simp[w1]));apply I;clear I J
 repeat (first|apply ι)
 refine de (A:=[11]) Θ fun J I=>?_;simp;(repeat (rw[ζ];simp));apply I;clear I J;(repeat (first|apply ι|(refine ν fun J I=>?_;simp;(repeat (rw[ζ];simp[w2,w3,w4,xG,pM,pN,vu,r4]));apply I;clear I J)));refine al (by simp) ?_;(repeat (first|apply ι|(refine ν fun J I=>?_;simp;(repeat (rw[ζ];simp[bΘ]));apply I;clear I J)));refine ah (by simp) ?_;(repeat (first|apply ι));refine ν fun J I=>?_;simp;(repeat (rw[ζ];simp));refine ak.call (first:=[]) (captured:=[]) ((IY).mono (fun r s ⟨eh,dT⟩=>?_) (fun _ _ h=>h.elim));subst eh;subst dT;simp;(repeat (rw[ζ];simp));apply I;clear I J
 repeat (first|apply ι)
 refine ν fun J I=>?_;simp;(repeat (rw[ζ];simp));apply I;clear I J;refine W.drop (h:=1) (by simp) (by simp) (Pe rK) rfl [(13,U (nL:Nat)),(55,U (nu:Nat))] (by simp) ?_;by_cases ae:nu=0
 ·subst ae;(repeat (first|apply ι|(refine ν fun J I=>?_;simp;(repeat (rw[ζ];simp));apply I;clear I J)));refine al rfl ?_;(repeat (first|apply ι|(refine ν fun J I=>?_;simp;(repeat (rw[ζ];simp));apply I;clear I J)));exact W.ret ⟨_,rfl,rfl,rfl⟩
 have bΙ:¬(nu:Int)=0:=by omega
 (repeat (first|apply ι|(refine ν fun J I=>?_;simp;(repeat (rw[ζ];simp[bΙ]));apply I;clear I J)));refine ah (by simp[ae]) ?_;by_cases jB:nu=12
 ·subst jB;(repeat (first|apply ι|(refine ν fun J I=>?_;simp;(repeat (rw[ζ];simp));apply I;clear I J)));refine al rfl ?_;(repeat (first|apply ι|(refine ν fun J I=>?_;simp;(repeat (rw[ζ];simp));apply I;clear I J)));exact W.ret ⟨_,rfl,rfl,rfl⟩
 have bΚ:¬(nu:Int)=12:=by omega
 (repeat (first|apply ι|(refine ν fun J I=>?_;simp;(repeat (rw[ζ];simp[bΚ]));apply I;clear I J)));refine ah (by simp[jB]) ?_;(repeat (first|apply ι|(refine ν fun J I=>?_;simp;(repeat (rw[ζ];simp));apply I;clear I J)));exact W.ret ⟨_,rfl,by simp[ae,jB,xC],rfl⟩
theorem Pn (d:Array (Int×Int)) (n a b:Nat) (Η:d.size=n) (ξ:n<2 ^ 40) (gw:a<b) (Pm:b<a+50) (hb:b≤n) (ai:θ) (cmp:Int×Int→Int×Int→Int) (bR:az 0 ai) (Ρ:∀x y,fT Tryz.prog ai [ax x,ax y] (U (cmp x y))) :
  ak Tryz.prog 239 [.ms 0 n 0 n,U a,U b,ai] [.cells 112 2 ((d).toList.map ax)] (fun r s=>r=bm (Go.Sort.partialInsertionSort (ar cmp) d a b).2∧s=[.cells 112 2 (((Go.Sort.partialInsertionSort (ar cmp) d a b).1).toList.map ax)]) (fun _ _=>False):=by
 refine ak.body Θ Tryz.func239 rfl rfl Tryz.ntmps239 rfl rfl (by simp) ?_;obtain⟨aW,fa⟩:∃aW,Go.Sort.scanSorted (ar cmp) d b (a+1)=aW:=⟨_,rfl⟩;have dR:Go.Sort.partialInsertionSort (ar cmp) d a b=(d,decide (aW=b)):=by
  unfold Go.Sort.partialInsertionSort;rw[Go.Sort.partialIns,fa];by_cases h:aW=b
  ·simp[h]
  ·simp[h];omega
 rw[dR];have w1:=lj (i:=a) (by omega);(repeat (first|apply ι|(refine ν fun J I=>?_;simp;(repeat (rw[ζ];simp[w1]));apply I;clear I J)));refine .loop ?_;(repeat (first|apply ι|(refine ν fun J I=>?_;simp;(repeat (rw[ζ];simp));apply I;clear I J)));refine al rfl ?_
 repeat (first|apply ι)
 refine W.qU [(0,.ms 0 n 0 n),(1,U a),(2,U b),(3,ai),(9,U (aW:Nat))] [.cells 112 2 ((d).toList.map ax)] ?_ ?_
 ·refine W.iter (fun i:Nat=>a+1≤i∧i≤b∧Go.Sort.scanSorted (ar cmp) d b i=aW) (fun i=>[(0,.ms 0 n 0 n),(1,U a),(2,U b),(3,ai),(9,U (i:Nat))]) (fun _=>[.cells 112 2 ((d).toList.map ax)]) (fun i=>b-i) (a+1) ⟨Nat.le_refl _,by omega,fa⟩ rfl (by simp[w1]) (fun i hi Γ=>?_);obtain⟨nk,nK,e8⟩:=hi;by_cases η:i<b
  ·obtain⟨p,χ⟩:∃p,p=i-1:=⟨_,rfl⟩;have a2:i<n:=by omega
   have bh:p<n:=by omega
   obtain⟨L,x,y,aD,δ,Ο,ω,⟨R,γ⟩,⟨ο,Ι⟩,-,-⟩:=jm ax Η a2 bh;have un:Go.Sort.scanSorted (ar cmp) d b i=if(!ar cmp x y)=true then Go.Sort.scanSorted (ar cmp) d b (i+1) else i:=by rw[Go.Sort.scanSorted];simp[η,δ,←χ,Ο]
   have hw:=lj (i:=i) (by omega)
   have h3:IntKind.i64.wrap ((i:Int)-1)=(p:Int):=by rw[IntWalk.i64_in _ (by omega)];omega
   refine W.to (σ':=[.cells 112 2 L]) (env':=[(0,.ms 0 n 0 n),(1,U a),(2,U b),(3,ai),(9,U (i:Nat))]) ?_ (by rw[aD]) (by simp);clear δ Ο
   repeat (first|apply ι)
   refine W.draw (A:=[]) Θ mixed fun J I=>?_;simp;(repeat (rw[bp];simp[η,h3,ω,R,γ,ο,Ι,a2,bh]));refine gn (Ρ x y) ?_;simp;(repeat (rw[bp];simp));refine⟨bL (by kernel_rfl),I _ _ ?_⟩;clear I J;by_cases hm:cmp x y<0
   ·refine ah (by simp[hm]) ?_;refine W.exit rfl ?_;exact W.stop ⟨rfl,by rw[aD],by rw[←e8,un];simp[hm,ar]⟩
   ·refine al (by simp[hm]) ?_;(repeat (first|apply ι|(refine ν fun J I=>?_;simp;(repeat (rw[ζ];simp[hw]));apply I;clear I J)));exact W.to (Γ (i+1) ⟨by omega,by omega,by rw[←e8,un];simp[hm,ar]⟩ (by(try simp only);omega)) (by rw[aD]) (by simp[hw])
  ·repeat (first|apply ι)
   refine W.draw (A:=[]) Θ mixed fun J I=>?_;simp;(repeat (rw[bp];simp[η]));refine⟨bL (by kernel_rfl),I _ _ ?_⟩;clear I J;refine ah rfl ?_;refine W.exit rfl ?_;have e:Go.Sort.scanSorted (ar cmp) d b i=i:=by rw[Go.Sort.scanSorted];simp[η]
   exact W.stop ⟨rfl,rfl,by rw[←e8,e];simp⟩
 by_cases D':aW=b
 ·have g:(aW:Int)=(b:Int):=by omega
  (repeat (first|apply ι|(refine ν fun J I=>?_;simp;(repeat (rw[ζ];simp[g]));apply I;clear I J)));refine al (by simp[D']) ?_;(repeat (first|apply ι|(refine ν fun J I=>?_;simp;(repeat (rw[ζ];simp));apply I;clear I J)));exact W.ret ⟨_,rfl,by simp[D'],rfl⟩
 ·have g:¬(aW:Int)=(b:Int):=by omega
  have ad:((b-a:Nat):Int)<50:=by omega
  have w2:=IN (a:=a) (b:=b) (by omega) (by omega);(repeat (first|apply ι|(refine ν fun J I=>?_;simp;(repeat (rw[ζ];simp[g]));apply I;clear I J)));refine ah (by simp[D']) ?_;(repeat (first|apply ι|(refine ν fun J I=>?_;simp;(repeat (rw[ζ];simp[w2,ad]));apply I;clear I J)));refine al (by simp) ?_;(repeat (first|apply ι|(refine ν fun J I=>?_;simp;(repeat (rw[ζ];simp));apply I;clear I J)));exact W.ret ⟨_,rfl,by simp[D'],rfl⟩
theorem bΜ (l:Nat) (ω:l<256):av Tryz.prog 226 [U l] (nI ((1 <<< Go.Sort.bitsLen l:Nat):Int)):=by
 refine ak.body Θ Tryz.func226 rfl rfl Tryz.ntmps226 rfl rfl (by simp) ?_;have Δ:IntKind.u64.wrap (l:Int)=l:=xD (by omega);(repeat (first|apply ι|(refine ν fun J I=>?_;simp;(repeat (rw[ζ];simp[Δ]));apply I;clear I J)));(repeat (first|apply ι));refine ν fun J I=>?_;simp;(repeat (rw[ζ];simp[Δ]));refine av.c (uU l ω) (aI.refl _) (by simp) (by simp) ?_;simp;(repeat (rw[ζ];simp));apply I;clear I J;(repeat (first|apply ι|(refine ν fun J I=>?_;simp;(repeat (rw[ζ];simp));apply I;clear I J)));refine W.ret ⟨_,rfl,.of ?_,rfl⟩;have hb:=(Go.Sort.bitsLen_le_iff l 8).2 ω;have e:=IM 1 (Go.Sort.bitsLen l) (by omega);have a4:1*2 ^ Go.Sort.bitsLen l % 18446744073709551616=1 <<< Go.Sort.bitsLen l:=by
  rw[Nat.one_mul,Nat.one_shiftLeft,Nat.mod_eq_of_lt (Nat.lt_of_le_of_lt (Nat.pow_le_pow_right (by omega) hb) (by decide))]
 rw[a4] at e;show nI (IntKind.u64.wrap (2 ^ min (Go.Sort.bitsLen l) IntKind.u64.bits))=_;rw[←e];simp
theorem bΝ (x:Nat) (δ:x<2 ^ 64):ak Tryz.prog 227 [.ag 0 1 0 0] [.cells 248 1 [nI (x:Int)]] (fun r s=>r=nI ((Go.Sort.xorNextN x:Nat):Int)∧s=[.cells 248 1 [nI ((Go.Sort.xorNextN x:Nat):Int)]]) (fun _ _=>False):=by
 refine ak.body Θ Tryz.func227 rfl rfl Tryz.ntmps227 rfl rfl (by simp) ?_;obtain⟨eH,hY⟩:∃y,y=x*2 ^ 13 % 18446744073709551616:=⟨_,rfl⟩;obtain⟨kU,pI⟩:∃y,y=x^^^eH:=⟨_,rfl⟩;obtain⟨ef,jj⟩:∃y,y=kU / 2 ^ 7:=⟨_,rfl⟩;obtain⟨o0,vv⟩:∃y,y=kU^^^ef:=⟨_,rfl⟩;obtain⟨sZ,IZ⟩:∃y,y=o0*2 ^ 17 % 18446744073709551616:=⟨_,rfl⟩;obtain⟨yu,sf⟩:∃y,y=o0^^^sZ:=⟨_,rfl⟩;have dR:Go.Sort.xorNextN x=yu:=by rw[sf,IZ,vv,jj,pI,hY];rfl
 rw[dR];have l1:eH<2 ^ 64:=by omega
 have k1:kU<2 ^ 64:=by rw[pI];exact Nat.xor_lt_two_pow δ l1
 have l2:ef<2 ^ 64:=by omega
 have cx:o0<2 ^ 64:=by rw[vv];exact Nat.xor_lt_two_pow k1 l2
 have nN:sZ<2 ^ 64:=by omega
 have a1:=IM x 13 (by omega);rw[←hY] at a1;have bg:=IL δ l1;rw[←pI] at bg;have cv:=bα kU 7 (by omega);rw[←jj] at cv;have fK:=IL k1 l2;rw[←vv] at fK;have ha:=IM o0 17 (by omega);rw[←IZ] at ha;have lx:=IL cx nN;rw[←sf] at lx;clear sf IZ vv jj pI hY l1 k1 l2 cx nN dR;(repeat (first|apply ι|(refine ν fun J I=>?_;simp;(repeat (rw[ζ];simp));apply I;clear I J)));refine W.draw (A:=[]) Θ mixed fun J I=>?_;simp;(repeat (rw[bp];simp[a1,bg]));refine⟨bL (by kernel_rfl),I _ _ ?_⟩;clear I J;(repeat (first|apply ι|(refine ν fun J I=>?_;simp;(repeat (rw[ζ];simp));apply I;clear I J)));refine W.draw (A:=[]) Θ mixed fun J I=>?_;simp;(repeat (rw[bp];simp[cv,fK]));refine⟨bL (by kernel_rfl),I _ _ ?_⟩;clear I J;(repeat (first|apply ι|(refine ν fun J I=>?_;simp;(repeat (rw[ζ];simp));apply I;clear I J)));refine W.draw (A:=[]) Θ mixed fun J I=>?_;simp;(repeat (rw[bp];simp[ha,lx]));refine⟨bL (by kernel_rfl),I _ _ ?_⟩;clear I J;(repeat (first|apply ι|(refine ν fun J I=>?_;simp;(repeat (rw[ζ];simp));apply I;clear I J)));exact W.ret ⟨_,rfl,rfl,rfl⟩
theorem bΞ (d:Array (Int×Int)) (n a b:Nat) (Η:d.size=n) (ξ:n<2 ^ 40) (gw:a+12<b) (Pm:b<a+50) (hb:b≤n) (ai:θ) (cmp:Int×Int→Int×Int→Int) (bR:az 0 ai) (Ρ:∀x y,fT Tryz.prog ai [ax x,ax y] (U (cmp x y))) :
  ak Tryz.prog 236 [.ms 0 n 0 n,U a,U b,ai] [.cells 112 2 ((d).toList.map ax)] (fun r s=>r=.bt []∧s=[.cells 112 2 ((Go.Sort.breakPatterns d a b).toList.map ax)]) (fun _ _=>False):=by
 refine ak.body Θ Tryz.func236 rfl rfl Tryz.ntmps236 rfl rfl (by simp) ?_;obtain⟨l,ω⟩:∃l,l=b-a:=⟨_,rfl⟩;obtain⟨q,Υ⟩:∃q,q=l / 4:=⟨_,rfl⟩;obtain⟨en,IX⟩:∃x,x=q*2:=⟨_,rfl⟩;obtain⟨c,η⟩:∃x,x=a+en:=⟨_,rfl⟩;obtain⟨dr,jP⟩:∃x,x=c-1:=⟨_,rfl⟩;obtain⟨c1,nb⟩:∃x,x=c+1:=⟨_,rfl⟩;obtain⟨m,hm⟩:∃x,x=1 <<< Go.Sort.bitsLen l:=⟨_,rfl⟩;have bΟ:Go.Sort.bitsLen l≤6:=(Go.Sort.bitsLen_le_iff l 6).2 (by omega);have Gv:l<m∧m≤64∧m≤2*l:=by
  have R:=Go.Sort.lt_two_pow_bitsLen l
  have γ:=Go.Sort.two_pow_bitsLen_le (n:=l) (by omega);rw[hm,Nat.one_shiftLeft];exact⟨R,Nat.le_trans (Nat.pow_le_pow_right (by omega) bΟ) (by decide),γ⟩
 obtain⟨ab,lk⟩:∃ab,xB a l m 3 dr (UInt64.ofNat l,d)=ab:=⟨_,rfl⟩;have dR:Go.Sort.breakPatterns d a b=ab.2:=by rw[aΨ (c:=c) ω (by omega) (by rw[η,IX,Υ]),←hm,←jP,lk]
 rw[dR];have w1:IntKind.i64.wrap ((b:Int)-(a:Int))=(l:Int):=by rw[IntWalk.i64_in _ (by omega)];omega
 have w2:IntKind.i64.wrap ((l:Int) / 4)=(q:Int):=by rw[Υ];exact D8 (m:=4) (by omega)
 have w4:IntKind.i64.wrap ((q:Int)*2)=(en:Int):=by rw[IntWalk.i64_in _ (by omega)];omega
 have pM:IntKind.i64.wrap ((a:Int)+(en:Int))=(c:Int):=by rw[IntWalk.i64_in _ (by omega)];omega
 have pN:IntKind.i64.wrap ((c:Int)-1)=(dr:Int):=by rw[IntWalk.i64_in _ (by omega)];omega
 have vu:IntKind.i64.wrap ((c:Int)+1)=(c1:Int):=by rw[IntWalk.i64_in _ (by omega)];omega
 have bΡ:IntKind.u64.wrap (l:Int)=(l:Int):=xD (by omega)
 have ιx:IntKind.u64.wrap ((m:Int)-1)=((m-1:Nat):Int):=by
  have e:(m:Int)-1=((m-1:Nat):Int):=by omega
  rw[e];exact xD (by omega)
 have r4:(8:Int)≤(l:Int):=by omega
 have cA:(UInt64.ofNat l).toNat=l:=by rw[UInt64.toNat_ofNat'];exact Nat.mod_eq_of_lt (by omega)
 (repeat (first|apply ι|(refine ν fun J I=>?_;simp;(repeat (rw[ζ];simp[w1,r4]));apply I;clear I J)));refine al (by simp) ?_
 repeat (first|apply ι)
 refine de (A:=[9]) Θ fun J I=>?_;simp;(repeat (rw[ζ];simp[bΡ]));apply I;clear I J;have B5:=bΜ l (by omega);rw[←hm] at B5;(repeat (first|apply ι));refine ν fun J I=>?_;simp;(repeat (rw[ζ];simp));refine av.c B5 (aI.refl _) (by simp) (by simp) ?_;simp;(repeat (rw[ζ];simp));apply I;clear I J;(repeat (first|apply ι|(refine ν fun J I=>?_;simp;(repeat (rw[ζ];simp[w2,w4,pM,pN]));apply I;clear I J)));refine W.iter (fun y:Nat×UInt64×Array (Int×Int)=>y.1≤3∧y.2.2.size=n∧xB a l m y.1 (c+2-y.1) y.2=ab) (fun y=>[(0,.ms 0 n 0 n),(1,U a),(8,U (l:Nat)),(9,.ag 1 1 0 0),(10,nI (m:Nat)),(11,U (c+2-y.1:Nat))]) (fun y=>[.cells 112 2 ((y.2.2).toList.map ax),.cells 248 1 [nI ((y.2.1.toNat:Nat):Int)]]) (fun y=>y.1) (3,UInt64.ofNat l,d) ⟨Nat.le_refl _,Η,by simp only;rw[←lk,show c+2-3=dr by omega]⟩ (by simp only;rw[cA]) (by simp[jP]) (fun y Ο Γ=>?_);obtain⟨t,st,e⟩:=y;obtain⟨Μ,eW,a8⟩:=Ο;simp only at Μ eW a8;obtain⟨b8,n7⟩:∃x,x=c+2-t:=⟨_,rfl⟩;obtain⟨x,δ⟩:∃x,x=st.toNat:=⟨_,rfl⟩;have sN:x<2 ^ 64:=by rw[δ];exact st.toNat_lt
 rw[←n7] at a8;refine W.to (σ':=[.cells 112 2 ((e).toList.map ax),.cells 248 1 [nI ((x:Nat):Int)]]) (env':=[(0,.ms 0 n 0 n),(1,U a),(8,U (l:Nat)),(9,.ag 1 1 0 0),(10,nI (m:Nat)),(11,U (b8:Nat))]) ?_ (by rw[δ]) (by simp[n7]);cases t with
 | zero=>
  have g:¬(b8:Int)≤(c1:Int):=by omega
  (repeat (first|apply ι|(refine ν fun J I=>?_;simp;(repeat (rw[ζ];simp[w2,w4,pM,vu,g]));apply I;clear I J)));refine ah (by simp) ?_;refine W.exit rfl ?_;refine W.drop (h:=1) (by simp) (by simp) (Pe rK) rfl [] (by simp) ?_;exact W.nil ⟨_,rfl,rfl,by rw[←a8];rfl⟩
 | succ t=>
  have g:(b8:Int)≤(c1:Int):=by omega
  obtain⟨Ea,AX⟩:∃s,s=Go.Sort.xorNext st:=⟨_,rfl⟩;obtain⟨m9,m7⟩:∃x,x=Ea.toNat:=⟨_,rfl⟩;have bΤ:m9=Go.Sort.xorNextN x:=by rw[m7,AX,Go.Sort.xorNext_toNat,δ]
  have bΥ:m9<2 ^ 64:=by rw[m7];exact Ea.toNat_lt
  have Po:=bΝ x sN;rw[←bΤ] at Po;obtain⟨z,Ν⟩:∃z,z=m9&&&(m-1):=⟨_,rfl⟩;have fV:z≤m-1:=by rw[Ν];exact Nat.and_le_right
  have aV:fH .u64 (m9:Int) ((m-1:Nat):Int)=(z:Int):=by rw[Ν];exact bβ bΥ (by omega)
  have bΦ:IntKind.i64.wrap (z:Int)=(z:Int):=IntWalk.i64_in _ (by omega);obtain⟨o,Β⟩:∃o,o=if z≥l then z-l else z:=⟨_,rfl⟩
  have yM:o<l:=by rw[Β];split<;>omega
  have sb:xB a l m t (b8+1) (Ea,Go.Sort.swp e b8 (a+o))=ab:=by
   rw[←a8];show _=xB a l m t (b8+1) (Go.Sort.breakStep a l m (st,e) b8);unfold Go.Sort.breakStep;simp only;rw[←AX,←m7,←Ν,←Β]
  obtain⟨Eb,bΧ⟩:∃x,x=a+o:=⟨_,rfl⟩;rw[←bΧ] at sb;(repeat (first|apply ι|(refine ν fun J I=>?_;simp;(repeat (rw[ζ];simp[w2,w4,pM,vu,g]));apply I;clear I J)));refine al (by simp) ?_;(repeat (first|apply ι));refine ν fun J I=>?_;simp;(repeat (rw[ζ];simp));refine ak.one Po 1 rfl (by simp[ie]) (by simp[ie]) (by simp[fJ,oh]) (by simp[fJ,oh]) rfl ?_;simp[dP,hE];(repeat (rw[ζ];simp[ιx,aV,bΦ]));apply I;clear I J;refine W.to (σ':=[.cells 112 2 ((e).toList.map ax),.cells 248 1 [nI ((m9:Nat):Int)]]) (env':=[(0,.ms 0 n 0 n),(1,U a),(8,U (l:Nat)),(9,.ag 1 1 0 0),(10,nI (m:Nat)),(11,U (b8:Nat)),(12,U (z:Nat))]) ?_ rfl (by simp);(repeat (first|apply ι|(refine ν fun J I=>?_;simp;(repeat (rw[ζ];simp));apply I;clear I J)));refine W.upto [(0,.ms 0 n 0 n),(1,U a),(8,U (l:Nat)),(9,.ag 1 1 0 0),(10,nI (m:Nat)),(11,U (b8:Nat)),(12,U (o:Nat))] [.cells 112 2 ((e).toList.map ax),.cells 248 1 [nI ((m9:Nat):Int)]] ?_ ?_
  ·by_cases ob:l≤z
   ·have wo:IntKind.i64.wrap ((z:Int)-(l:Int))=(o:Int):=by rw[IntWalk.i64_in _ (by omega),Β,if_pos ob];omega
    refine al (by simp[ob]) ?_;(repeat (first|apply ι|(refine ν fun J I=>?_;simp;(repeat (rw[ζ];simp[wo]));apply I;clear I J)));exact W.stop ⟨rfl,rfl,by simp⟩
   ·refine ah (by simp[ob]) ?_
    repeat (first|apply ι)
    exact W.stop ⟨rfl,rfl,by simp[Β,ob]⟩
  have bΨ:IntKind.i64.wrap ((a:Int)+(o:Int))=(Eb:Int):=by rw[IntWalk.i64_in _ (by omega)];omega
  have a2:b8<n:=by omega
  have bh:Eb<n:=by omega
  obtain⟨L,x,y,aD,δ,Ο,ω,⟨R,γ⟩,⟨ο,Ι⟩,ez,jJ,ay⟩:=jm ax eW a2 bh;rw[aD];clear δ Ο
  repeat (first|apply ι)
  refine W.draw (A:=[]) Θ mixed fun J I=>?_;simp;(repeat (rw[bp];simp[ω,R,γ,ο,Ι,ay,a2,bh,bΨ]));refine⟨bL (by kernel_rfl),I _ _ ?_⟩;clear I J;have bΩ:=lj (i:=b8) (by omega);(repeat (first|apply ι|(refine ν fun J I=>?_;simp;(repeat (rw[ζ];simp[bΩ]));apply I;clear I J)));refine W.to (Γ (t,Ea,Go.Sort.swp e b8 Eb) ⟨by(try simp only);omega,swp_size eW b8 Eb,?_⟩ (by simp)) (by rw[ez,m7]) (by simp[show c+2-t=b8+1 by omega]);have Ε:c+2-t=b8+1:=by omega
  simp only;rw[Ε];exact sb
theorem cα (n:Nat) (ξ:n<50) (ai:θ) (cmp:Int×Int→Int×Int→Int) (bR:az 0 ai) (Ρ:∀x y,fT Tryz.prog ai [ax x,ax y] (U (cmp x y))) (fS:Go.Sort.SWO (ar cmp)):∀(k:Nat) (d:Array (Int×Int)) (a b lim:Nat),d.size=n→b-a≤k→a≤b→b≤n→lim<2 ^ 40→Go.Sort.Below (ar cmp) a b d→
  ak Tryz.prog 211 [.ms 0 n 0 n,U a,U b,U lim,ai] [.cells 112 2 ((d).toList.map ax)] (fun r s=>r=.bt []∧s=[.cells 112 2 ((Go.Sort.pdq (ar cmp) d a b lim true true).toList.map ax)]) (fun _ _=>False):=by
 intro k
 induction k using Nat.strongRecOn with
 | _ k vU=>
 intro d a b lim Η υ gw hb Ec e1;refine ak.body Θ Tryz.func211 rfl rfl Tryz.ntmps211 rfl rfl (by simp) ?_;obtain⟨ab,lk⟩:∃ab,Go.Sort.pdq (ar cmp) d a b lim true true=ab:=⟨_,rfl⟩;rw[lk];(repeat (first|apply ι|(refine ν fun J I=>?_;simp;(repeat (rw[ζ];simp));apply I;clear I J)));refine W.iter (fun q:aΧ (Int×Int)=>q.e.size=n∧q.a≤q.b∧q.b≤n∧q.b-q.a≤k∧q.lim<2 ^ 40∧Go.Sort.Below (ar cmp) q.a q.b q.e∧Go.Sort.pdq (ar cmp) q.e q.a q.b q.lim q.wb q.wp=ab) (fun q=>[(0,.ms 0 n 0 n),(1,U (q.a:Nat)),(2,U (q.b:Nat)),(3,U (q.lim:Nat)),(4,ai),(10,bm q.wb),(11,bm q.wp)]) (fun q=>[.cells 112 2 ((q.e).toList.map ax)]) (fun q=>q.b-q.a) ⟨a,b,lim,true,true,d⟩ ⟨Η,gw,hb,υ,Ec,e1,lk⟩ rfl (by simp) (fun q Υ Γ=>?_);clear lk e1 Ec hb gw υ;obtain⟨a,b,lim,wb,wp,e⟩:=q;obtain⟨eW,gw,hb,υ,Ec,e1,a8⟩:=Υ;simp only at eW gw hb υ Ec e1 a8;obtain⟨l,ω⟩:∃l,l=b-a:=⟨_,rfl⟩;have w1:IntKind.i64.wrap ((b:Int)-(a:Int))=(l:Int):=by rw[IntWalk.i64_in _ (by omega)];omega
 refine W.to (σ':=[.cells 112 2 ((e).toList.map ax)]) (env':=[(0,.ms 0 n 0 n),(1,U (a:Nat)),(2,U (b:Nat)),(3,U (lim:Nat)),(4,ai),(10,bm wb),(11,bm wp)]) ?_ rfl (by simp);by_cases jB:b-a≤12
 ·have g:(l:Int)≤12:=by omega
  (repeat (first|apply ι|(refine ν fun J I=>?_;simp;(repeat (rw[ζ];simp[w1,g]));apply I;clear I J)));refine al (by simp) ?_;(repeat (first|apply ι));refine ν fun J I=>?_;simp;(repeat (rw[ζ];simp));refine ak.call (first:=[]) (captured:=[]) ((L4 e n a b eW gw hb (by omega) ai cmp bR Ρ).mono (fun r s ⟨eh,dT⟩=>?_) (fun _ _ h=>h.elim));subst eh;subst dT;simp;(repeat (rw[ζ];simp));apply I;clear I J;rw[Go.Sort.pdq_small jB] at a8;exact W.ret ⟨_,rfl,rfl,by rw[←a8]⟩
 have g:¬(l:Int)≤12:=by omega
 (repeat (first|apply ι|(refine ν fun J I=>?_;simp;(repeat (rw[ζ];simp[w1,g]));apply I;clear I J)));refine ah (by simp) ?_;by_cases ae:lim=0
 ·have cH:(lim:Int)=0:=by omega
  (repeat (first|apply ι|(refine ν fun J I=>?_;simp;(repeat (rw[ζ];simp[cH]));apply I;clear I J)));refine al (by simp[ae]) ?_;(repeat (first|apply ι));refine ν fun J I=>?_;simp;(repeat (rw[ζ];simp));refine ak.call (first:=[]) (captured:=[]) ((bχ e n a b eW (by omega) (by omega) hb ai cmp bR Ρ).mono (fun r s ⟨eh,dT⟩=>?_) (fun _ _ h=>h.elim));subst eh;subst dT;simp;(repeat (rw[ζ];simp));apply I;clear I J;rw[Go.Sort.pdq_heap jB ae] at a8;exact W.ret ⟨_,rfl,rfl,by rw[←a8]⟩
 have cH:¬(lim:Int)=0:=by omega
 (repeat (first|apply ι|(refine ν fun J I=>?_;simp;(repeat (rw[ζ];simp[cH]));apply I;clear I J)));refine ah (by simp[ae]) ?_;(repeat (first|apply ι|(refine ν fun J I=>?_;simp;(repeat (rw[ζ];simp));apply I;clear I J)));have F:=Go.Sort.rd_facts (limit:=lim) (wb:=wb) (wp:=wp) fS Go.Sort.partialInsertionSort_holds Go.Sort.reverseRange_holds (by omega:a<b) (by omega) e1;have Pp:=Go.Sort.rd_lim_le (lt:=(ar cmp)) (d:=e) (a:=a) (b:=b) (limit:=lim) (wb:=wb) (wp:=wp);have Ed:=fun h:wb=false=>show(Go.Sort.rd (ar cmp) e a b lim wb wp).d1=Go.Sort.breakPatterns e a b∧(Go.Sort.rd (ar cmp) e a b lim wb wp).lim=lim-1 by subst h;exact Go.Sort.rd_false
 have Ee:=fun h:wb=true=>show(Go.Sort.rd (ar cmp) e a b lim wb wp).d1=e∧(Go.Sort.rd (ar cmp) e a b lim wb wp).lim=lim by subst h;exact Go.Sort.rd_true
 have Ef:=Go.Sort.rd_c (lt:=(ar cmp)) (d:=e) (a:=a) (b:=b) (limit:=lim) (wb:=wb) (wp:=wp)
 have Fd:=Go.Sort.rd_dec (lt:=(ar cmp)) (d:=e) (a:=a) (b:=b) (limit:=lim) (wb:=wb) (wp:=wp)
 have Fn:=Go.Sort.rd_not (lt:=(ar cmp)) (d:=e) (a:=a) (b:=b) (limit:=lim) (wb:=wb) (wp:=wp)
 have Aj:=Go.Sort.rd_pi_yes (lt:=(ar cmp)) (d:=e) (a:=a) (b:=b) (limit:=lim) (wb:=wb) (wp:=wp)
 have Ak:=Go.Sort.rd_pi_no (lt:=(ar cmp)) (d:=e) (a:=a) (b:=b) (limit:=lim) (wb:=wb) (wp:=wp)
 have oN:=Go.Sort.pdq_done (lt:=(ar cmp)) (d:=e) (wb:=wb) (wp:=wp) jB ae
 have mc:=Go.Sort.pdq_eq (lt:=(ar cmp)) (d:=e) (wb:=wb) (wp:=wp) jB ae
 have kC:=Go.Sort.pdq_left (lt:=(ar cmp)) (d:=e) (wb:=wb) (wp:=wp) jB ae
 have kD:=Go.Sort.pdq_right (lt:=(ar cmp)) (d:=e) (wb:=wb) (wp:=wp) jB ae;rw[a8] at oN mc kC kD;obtain⟨r,κ⟩:∃r,Go.Sort.rd (ar cmp) e a b lim wb wp=r:=⟨_,rfl⟩;rw[κ] at F Pp Ed Ee Ef Fd Fn Aj Ak oN mc kC kD;clear κ;obtain⟨d1,gJ,⟨I0,ch⟩,d2,nL,Al,d3,done⟩:=r;simp only at F Pp Ed Ee Ef Fd Fn Aj Ak oN mc kC kD;obtain⟨I1,gΟ,gΡ,I2,gΤ,tx,tz,Pq⟩:=F;rw[eW] at I1 I2 tz;refine W.upto [(0,.ms 0 n 0 n),(1,U (a:Nat)),(2,U (b:Nat)),(3,U (gJ:Nat)),(4,ai),(10,bm wb),(11,bm wp),(12,U (l:Nat))] [.cells 112 2 ((d1).toList.map ax)] ?_ ?_
 ·cases wb with
  | false=>
   obtain⟨f1,f2⟩:=Ed rfl;refine al rfl ?_;(repeat (first|apply ι));refine ν fun J I=>?_;simp;(repeat (rw[ζ];simp));refine ak.call (first:=[]) (captured:=[]) ((bΞ e n a b eW (by omega) (by omega) (by omega) hb ai cmp bR Ρ).mono (fun r s ⟨eh,dT⟩=>?_) (fun _ _ h=>h.elim));subst eh;subst dT;simp;(repeat (rw[ζ];simp));apply I;clear I J;have w2:=nJ (i:=lim) (by omega) (by omega);refine ν fun J I=>?_;simp;(repeat (rw[ζ];simp[w2]));apply I;clear I J;exact W.stop ⟨rfl,by rw[f1],by simp[f2]⟩
  | true=>
   obtain⟨f1,f2⟩:=Ee rfl;refine ah rfl ?_;refine W.skip ?_;exact W.stop ⟨rfl,by rw[f1],by simp[f2]⟩
 have I3:=bΕ d1 n a b I1 (by omega) (by omega) (by omega) hb ai cmp bR Ρ;rw[←Ef] at I3;simp only at I3;(repeat (first|apply ι));refine ν fun J I=>?_;simp;(repeat (rw[ζ];simp));refine ak.call (first:=[]) (captured:=[]) ((I3).mono (fun r s ⟨eh,dT⟩=>?_) (fun _ _ h=>h.elim));subst eh;subst dT;simp;(repeat (rw[ζ];simp));apply I;clear I J;refine W.to (σ':=[.cells 112 2 ((d1).toList.map ax)]) (env':=[(0,.ms 0 n 0 n),(1,U (a:Nat)),(2,U (b:Nat)),(3,U (gJ:Nat)),(4,ai),(10,bm wb),(11,bm wp),(12,U (l:Nat)),(13,U (I0:Nat)),(14,U (xC ch))]) ?_ rfl (by simp);(repeat (first|apply ι|(refine ν fun J I=>?_;simp;(repeat (rw[ζ];simp));apply I;clear I J)));refine W.upto [(0,.ms 0 n 0 n),(1,U (a:Nat)),(2,U (b:Nat)),(3,U (gJ:Nat)),(4,ai),(10,bm wb),(11,bm wp),(12,U (l:Nat)),(13,U (nL:Nat)),(14,U (xC Al))] [.cells 112 2 ((d2).toList.map ax)] ?_ ?_
 ·by_cases hd:ch=.decreasing
  ·obtain⟨f1,f2,f3⟩:=Fd hd;subst hd;refine al rfl ?_;(repeat (first|apply ι));refine ν fun J I=>?_;simp;(repeat (rw[ζ];simp));refine ak.call (first:=[]) (captured:=[]) ((bΑ d1 n a b I1 (by omega) (by omega) hb ai cmp bR Ρ).mono (fun r s ⟨eh,dT⟩=>?_) (fun _ _ h=>h.elim));subst eh;subst dT;simp;(repeat (rw[ζ];simp));apply I;clear I J;have w2:=nJ (i:=b) (by omega) (by omega);have w3:=IN (a:=a) (b:=I0) (by omega) (by omega);have w4:=IN (a:=I0-a) (b:=b-1) (by omega) (by omega);rw[←f2] at w4;refine W.seq ?_;refine ν fun J I=>?_;simp;(repeat (rw[ζ];simp[w2,w3,w4]));apply I;clear I J;refine ν fun J I=>?_;simp;(repeat (rw[ζ];simp));apply I;clear I J;exact W.stop ⟨rfl,by rw[f1],by simp[f3,xC]⟩
  ·obtain⟨f1,f2,f3⟩:=Fn hd;refine ah (by cases ch with
    | decreasing=>exact absurd rfl hd
    | unknown=>rfl
    | increasing=>rfl) ?_
   refine W.skip ?_;exact W.stop ⟨rfl,by rw[f1],by simp[f2,f3]⟩
 repeat (first|apply ι)
 refine W.rA (A:=[]) Θ [(75,bm (wb&&wp&&decide (Al=.increasing))),(0,.ms 0 n 0 n),(1,U (a:Nat)),(2,U (b:Nat)),(3,U (gJ:Nat)),(4,ai),(10,bm wb),(11,bm wp),(12,U (l:Nat)),(13,U (nL:Nat))] ?_ (by cases wb<;>cases wp<;>cases Al<;>simp[ζ,oc,xC])
 repeat (first|apply ι)
 rcases Bool.eq_false_or_eq_true done with j8|j8
 ·cases η:(wb&&wp&&decide (Al=.increasing)) with
  | true=>
   have f:=Aj η;refine al rfl ?_;have md:=Pn d2 n a b I2 (by omega) (by omega) (by omega) hb ai cmp bR Ρ;rw[←f] at md;simp only[j8] at md;(repeat (first|apply ι));refine ν fun J I=>?_;simp;(repeat (rw[ζ];simp));refine ak.call (first:=[]) (captured:=[]) ((md).mono (fun r s ⟨eh,dT⟩=>?_) (fun _ _ h=>h.elim));subst eh;subst dT;simp;(repeat (rw[ζ];simp));apply I;clear I J;refine al rfl ?_;exact W.ret ⟨_,rfl,rfl,by rw[oN j8]⟩
  | false=>
   have f:=(Prod.mk.inj (Ak η)).2;rw[j8] at f;cases f
 refine W.upto [(0,.ms 0 n 0 n),(1,U (a:Nat)),(2,U (b:Nat)),(3,U (gJ:Nat)),(4,ai),(10,bm wb),(11,bm wp),(12,U (l:Nat)),(13,U (nL:Nat))] [.cells 112 2 ((d3).toList.map ax)] ?_ ?_
 ·cases η:(wb&&wp&&decide (Al=.increasing)) with
  | true=>
   have f:=Aj η;refine al rfl ?_;have md:=Pn d2 n a b I2 (by omega) (by omega) (by omega) hb ai cmp bR Ρ;rw[←f] at md;simp only[j8] at md;(repeat (first|apply ι));refine ν fun J I=>?_;simp;(repeat (rw[ζ];simp));refine ak.call (first:=[]) (captured:=[]) ((md).mono (fun r s ⟨eh,dT⟩=>?_) (fun _ _ h=>h.elim));subst eh;subst dT;simp;(repeat (rw[ζ];simp));apply I;clear I J;refine ah rfl ?_;refine W.skip ?_;exact W.stop ⟨rfl,rfl,by simp⟩
  | false=>
   have f1:=(Prod.mk.inj (Ak η)).1;refine ah rfl ?_;refine W.skip ?_;exact W.stop ⟨rfl,by rw[f1],by simp⟩
 clear oN Aj Ak Fd Fn Ef Ed Ee;have mc:=mc j8;have kC:=kC j8;have kD:=kD j8;obtain⟨P,vw⟩:∃P:Bool,(decide (a > 0)&&!ar cmp d3[a-1]! d3[nL]!)=P:=⟨_,rfl⟩;rw[vw] at mc kC kD
 repeat (first|apply ι)
 refine W.CA (A:=[]) Θ mixed [(97,bm P),(0,.ms 0 n 0 n),(1,U (a:Nat)),(2,U (b:Nat)),(3,U (gJ:Nat)),(4,ai),(10,bm wb),(11,bm wp),(12,U (l:Nat)),(13,U (nL:Nat))] ?_ (by
  by_cases μ:0<a
  ·obtain⟨p,χ⟩:∃p,p=a-1:=⟨_,rfl⟩;have a2:p<n:=by omega
   have bh:nL<n:=by omega
   obtain⟨L,x,y,aD,δ,Ο,ω,⟨R,γ⟩,⟨ο,Ι⟩,-,-⟩:=jm ax tz a2 bh;have I4:P = !ar cmp x y:=by rw[←vw,←χ,δ,Ο];simp[μ]
   have dV:(0:Int)<(a:Int):=by omega
   have w2:IntKind.i64.wrap ((a:Int)-1)=(p:Int):=by rw[IntWalk.i64_in _ (by omega)];omega
   rw[aD];clear δ Ο;simp;(repeat (rw[bp];simp[μ,dV,w2,ω,R,γ,ο,Ι,a2,bh]));refine gn (Ρ x y) ?_;simp;(repeat (rw[bp];simp));refine⟨bL (by kernel_rfl),?_⟩;simp[I4,ar]
  ·have I4:P=false:=by rw[←vw];simp[μ]
   have dV:a=0:=by omega
   subst dV;simp;(repeat (rw[bp];simp));refine⟨bL (by kernel_rfl),?_⟩;simp[I4])
 repeat (first|apply ι)
 rcases Bool.eq_false_or_eq_true P with vx|vx
 ·refine al (by simp[vx]) ?_;rw[vx] at vw;simp only[Bool.and_eq_true,decide_eq_true_eq,Bool.not_eq_true'] at vw;obtain⟨⟨mid,d4⟩,δ⟩:∃r,Go.Sort.partitionEqual (ar cmp) d3 a b nL=r:=⟨_,rfl⟩;obtain⟨eH,ef,sZ,wI,-⟩:=Go.Sort.round_eq fS (Go.Sort.partitionEqual_holds _) vw.1 tx.1 tx.2 (by rw[tz];exact hb) Pq vw.2 δ;have mc:=mc vx;rw[δ] at mc;have mc:=mc ⟨eH,ef⟩;simp only at mc;have md:=bτ d3 n a b nL tz (by omega) tx.1 tx.2 hb ai cmp bR Ρ;rw[δ] at md;simp only at md;(repeat (first|apply ι));refine ν fun J I=>?_;simp;(repeat (rw[ζ];simp));refine ak.call (first:=[]) (captured:=[]) ((md).mono (fun r s ⟨eh,dT⟩=>?_) (fun _ _ h=>h.elim));subst eh;subst dT;simp;(repeat (rw[ζ];simp));apply I;clear I J;(repeat (first|apply ι|(refine ν fun J I=>?_;simp;(repeat (rw[ζ];simp));apply I;clear I J)));refine W.exit rfl ?_;exact W.to (Γ ⟨mid,b,gJ,wb,wp,d4⟩ ⟨sZ.trans tz,ef,hb,by(try simp only);omega,by(try simp only);omega,wI,mc.symm⟩ (by(try simp only);omega)) rfl (by simp)
 refine ah (by simp[vx]) ?_;obtain⟨⟨mid,ap,d4⟩,δ⟩:∃r,Go.Sort.partition (ar cmp) d3 a b nL=r:=⟨_,rfl⟩;obtain⟨eH,ef,sZ,wI,zi,cβ,Pr⟩:=Go.Sort.round_part fS (Go.Sort.partition_holds _) tx.1 tx.2 (by rw[tz];exact hb) Pq δ;have kC:=kC vx;have kD:=kD vx;rw[δ] at kC kD;have kC:=kC ⟨eH,ef⟩;have kD:=kD ⟨eH,ef⟩;simp only at kC kD;have md:=bπ d3 n a b nL tz (by omega) tx.1 tx.2 hb ai cmp bR Ρ;rw[δ] at md;simp only at md;have Eg:d4.size=n:=sZ.trans tz;obtain⟨u,hu⟩:∃x,x=mid-a:=⟨_,rfl⟩;obtain⟨v,hv⟩:∃x,x=b-mid:=⟨_,rfl⟩;obtain⟨tH,Ps⟩:∃x,x=l / 8:=⟨_,rfl⟩;obtain⟨cD,ib⟩:∃x,x=mid+1:=⟨_,rfl⟩;have xG:IntKind.i64.wrap ((mid:Int)-(a:Int))=(u:Int):=by rw[IntWalk.i64_in _ (by omega)];omega
 have pM:IntKind.i64.wrap ((b:Int)-(mid:Int))=(v:Int):=by rw[IntWalk.i64_in _ (by omega)];omega
 have pN:IntKind.i64.wrap ((l:Int) / 8)=(tH:Int):=by rw[Ps];exact D8 (m:=8) (by omega)
 have vu:IntKind.i64.wrap ((mid:Int)+1)=(cD:Int):=by rw[IntWalk.i64_in _ (by omega)];omega
 rw[←hu,←hv,←ω,←Ps,←ib] at kC kD;(repeat (first|apply ι));refine ν fun J I=>?_;simp;(repeat (rw[ζ];simp));refine ak.call (first:=[]) (captured:=[]) ((md).mono (fun r s ⟨eh,dT⟩=>?_) (fun _ _ h=>h.elim));subst eh;subst dT;simp;(repeat (rw[ζ];simp));apply I;clear I J;by_cases wP:u<v
 ·have Ξ:(u:Int)<(v:Int):=by omega
  (repeat (first|apply ι|(refine ν fun J I=>?_;simp;(repeat (rw[ζ];simp[xG,pM,pN,Ξ]));apply I;clear I J)));refine al (by simp) ?_;obtain⟨dB,p2⟩:=Go.Sort.pdq_sorts (ar cmp) fS d4 a mid gJ true true eH (by omega) wI;have Am:=vU (mid-a) (by omega) d4 a mid gJ Eg (Nat.le_refl _) eH (by omega) (by omega) wI;have kC:=kC wP;obtain⟨B',-⟩:=cβ _ dB p2;have s1:=dB.1.trans Eg;obtain⟨Δ,mE⟩:∃x,Go.Sort.pdq (ar cmp) d4 a mid gJ true true=x:=⟨_,rfl⟩;rw[mE] at Am kC B' s1;(repeat (first|apply ι));refine ν fun J I=>?_;simp;(repeat (rw[ζ];simp));apply I;clear I J;(repeat (first|apply ι));refine ν fun J I=>?_;simp;(repeat (rw[ζ];simp));refine ak.call (first:=[]) (captured:=[]) ((Am).mono (fun r s ⟨eh,dT⟩=>?_) (fun _ _ h=>h.elim));subst eh;subst dT;simp;(repeat (rw[ζ];simp));apply I;clear I J;(repeat (first|apply ι|(refine ν fun J I=>?_;simp;(repeat (rw[ζ];simp[vu]));apply I;clear I J)));exact W.to (Γ ⟨cD,b,gJ,decide (u≥tH),ap,Δ⟩ ⟨s1,by(try simp only);omega,hb,by(try simp only);omega,by(try simp only);omega,by simp only;rw[ib];exact B',kC.symm⟩ (by(try simp only);omega)) rfl (by simp)
 ·have Ξ:¬(u:Int)<(v:Int):=by omega
  (repeat (first|apply ι|(refine ν fun J I=>?_;simp;(repeat (rw[ζ];simp[xG,pM,pN,Ξ]));apply I;clear I J)));refine ah (by simp) ?_;obtain⟨dB,p2⟩:=Go.Sort.pdq_sorts (ar cmp) fS d4 (mid+1) b gJ true true (by omega) (by omega) zi;rw[←ib] at dB p2 zi;have Am:=vU (b-cD) (by omega) d4 cD b gJ Eg (Nat.le_refl _) (by omega) hb (by omega) zi;have kD:=kD wP;rw[←ib] at Pr;obtain⟨B',-⟩:=Pr _ dB p2;have s1:=dB.1.trans Eg;obtain⟨Δ,mE⟩:∃x,Go.Sort.pdq (ar cmp) d4 cD b gJ true true=x:=⟨_,rfl⟩;rw[mE] at Am kD B' s1;(repeat (first|apply ι));refine ν fun J I=>?_;simp;(repeat (rw[ζ];simp));apply I;clear I J;(repeat (first|apply ι));refine ν fun J I=>?_;simp;(repeat (rw[ζ];simp[vu]));refine ak.call (first:=[]) (captured:=[]) ((Am).mono (fun r s ⟨eh,dT⟩=>?_) (fun _ _ h=>h.elim));subst eh;subst dT;simp;(repeat (rw[ζ];simp));apply I;clear I J;(repeat (first|apply ι|(refine ν fun J I=>?_;simp;(repeat (rw[ζ];simp));apply I;clear I J)));exact W.to (Γ ⟨a,mid,gJ,decide (v≥tH),ap,Δ⟩ ⟨s1,eH,by(try simp only);omega,by(try simp only);omega,by(try simp only);omega,B',kD.symm⟩ (by(try simp only);omega)) rfl (by simp)
theorem cγ {α:Type} [Inhabited α] {lt:α→α→Bool} (ξ:Go.Sort.SWO lt) (μ:∀x y,lt x y=false→lt y x=false→x=y) (l:List α):(Go.Sort.pdq lt l.toArray 0 l.length (Go.Sort.bitsLen l.length) true true).toList=l.mergeSort (fun x y=>!lt y x):=by
 obtain⟨R,γ⟩:=Go.Sort.pdq_sorts lt ξ l.toArray 0 l.length (Go.Sort.bitsLen l.length) true true (Nat.zero_le _) (by simp) (.inl rfl);exact Go.Sort.sorted_unique_holds (lt:=lt) ξ μ l.toArray _ (by simpa using R) (by simpa using γ)
theorem cδ:CY 49:=fun l ω=>by
 obtain⟨ai,bR⟩:∃x:θ,x=.fn (.func 174) [] []:=⟨_,rfl⟩;have cε:az 0 ai:=by rw[bR];simp[k2]
 have Ρ:∀x y,fT Tryz.prog ai [ax x,ax y] (U (mI x y)):=fun x y=>by rw[bR];exact av.p (L2 x y) (aI.refl _) (by simp) (by simp)
 obtain⟨n,Η⟩:∃n,n=l.length:=⟨_,rfl⟩;have hb:Go.Sort.bitsLen n≤6:=(Go.Sort.bitsLen_le_iff n 6).2 (by omega);have h:=cα n (by omega) ai mI cε Ρ wQ n l.toArray 0 n (Go.Sort.bitsLen n) (by simp[Η]) (by omega) (by omega) (Nat.le_refl _) (by omega) (.inl rfl);have χ:=cγ wQ Mo l;rw[←Η] at χ;have e:(fun x y:Int×Int=>!ar mI y x)=kq:=rfl;rw[χ,e] at h;rw[←bR,←Η];clear χ e;have jA:(l.map ax).length=n:=by rw[List.length_map,Η]
 have cA:l.toArray.toList=l:=rfl;rw[cA] at h;refine ak.body Θ Tryz.func173 rfl rfl Tryz.ntmps173 rfl rfl (by simp) ?_;have Ε:=fy (show n<2 ^ 62 by omega);have Δ:IntKind.u64.wrap (n:Int)=n:=xD (by omega);have rP:=Η.symm;(repeat (first|apply ι|(refine ν fun J I=>?_;simp;(repeat (rw[ζ];simp[rP]));apply I;clear I J)));(repeat (first|apply ι));refine ν fun J I=>?_;simp;(repeat (rw[ζ];simp[Ε,Δ]));refine av.c (uU n (by omega)) (aI.refl _) (by simp) (by simp) ?_;simp;(repeat (rw[ζ];simp));refine ak.call (first:=[]) (captured:=[]) (h.mono (fun r s ⟨eh,dT⟩=>?_) (fun _ _ h=>h.elim));subst eh;subst dT;simp;(repeat (rw[ζ];simp));apply I;clear I J;exact W.nil ⟨_,rfl,rfl,rfl⟩
end Go.TL
