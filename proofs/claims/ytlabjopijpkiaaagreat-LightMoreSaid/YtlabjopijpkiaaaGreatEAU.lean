import Derived.Test.YtlabjopijpkiaaaGreatEAH
import Derived.Test.YtlabjopijpkiaaaGreatEAN
import Derived.Test.YtlabjopijpkiaaaGreatEAR
import Derived.Test.YtlabjopijpkiaaaGreatEAS
import Derived.Test.YtlabjopijpkiaaaGreatEAT
set_option maxHeartbeats 16000000
set_option maxRecDepth 20000
set_option linter.unusedSectionVars false
set_option linter.unusedSimpArgs false
set_option linter.unusedVariables false
namespace Go.TL
open Go.Proofs
variable [bq]
theorem fΟ (n:Nat) (ξ:n<50) (Ο:θ) (cmp:Int×Int->Int×Int->Int) (a9:aG 0 Ο) (Ρ:∀x y,ef Tryz.prog Ο [aK x,aK y] (I (cmp x y))) (eC:Go.Sort.SWO (Ξ cmp)):∀(k:Nat) (d:Array (Int×Int)) (a b lim:Nat),d.size=n->b-a<=k->a<=b->b<=n->lim<2 ^ 40->Go.Sort.Below (Ξ cmp) a b d->
  af Tryz.prog 211 [.ms 0 n 0 n,I a,I b,I lim,Ο] [.cells 112 2 ((d).toList.map aK)] (λr s=>r=.bj []/\s=[.cells 112 2 ((Go.Sort.pdq (Ξ cmp) d a b lim true true).toList.map aK)]) (λ_ _=>False):=by
 intro k
 induction k using Nat.strongRecOn with
 | _ k s8=>
 intro d a b lim Θ ψ e' hb uk dV;refine af.body Φ Tryz.func211 rfl rfl Tryz.ntmps211 rfl rfl η ?_;obtain⟨R,fF⟩:=bG (Go.Sort.pdq (Ξ cmp) d a b lim true true);rw[fF];refine Η ?_;refine W.iter (λq:Rm (Int×Int)=>q.e.size=n/\q.a<=q.b/\q.b<=n/\q.b-q.a<=k/\q.lim<2 ^ 40/\Go.Sort.Below (Ξ cmp) q.a q.b q.e/\Go.Sort.pdq (Ξ cmp) q.e q.a q.b q.lim q.wb q.wp=R) (λq=>[(0,.ms 0 n 0 n),(1,I (q.a:Nat)),(2,I (q.b:Nat)),(3,I (q.lim:Nat)),(4,Ο),(10,ba q.wb),(11,ba q.wp)]) (λq=>[.cells 112 2 ((q.e).toList.map aK)]) (λq=>q.b-q.a) ⟨a,b,lim,true,true,d⟩ ⟨Θ,e',hb,ψ,uk,dV,fF⟩ rfl η (λq Χ Α=>?_);clear fF dV uk hb e' ψ;obtain⟨a,b,lim,wb,wp,e⟩:=q;obtain⟨cw,e',hb,ψ,uk,dV,aM⟩:=Χ;simp only at cw e' hb ψ uk dV aM;obtain⟨l,π⟩:=aF (b-a);have w1:IntKind.i64.wrap ((b:Int)-(a:Int))=(l:Int):=by rw[IntWalk.i64_in _ J];omega
 refine W.to (σ':=[.cells 112 2 ((e).toList.map aK)]) (env':=[(0,.ms 0 n 0 n),(1,I (a:Nat)),(2,I (b:Nat)),(3,I (lim:Nat)),(4,Ο),(10,ba wb),(11,ba wp)]) ?_ rfl η;by_cases hf:b-a<=12
 ·have g:(l:Int)<=12:=J
  refine aE (ς w1 g) ?_;refine aC η ?_;refine bc λΚ κ=>?_;refine af.call (first:=[]) (captured:=[]) ((OD e n a b cw e' hb J Ο cmp a9 Ρ).mono (λr s ⟨bI,bw⟩=>?_) (λ_ _ h=>h.elim));subst bI;subst bw;simp;(repeat (rw[ah];simp));apply κ;rw[Go.Sort.pdq_small hf] at aM;exact W.ret ⟨_,rfl,rfl,by rw[<-aM]⟩
 have g:¬(l:Int)<=12:=J;refine aE (ς w1 g) ?_;refine ay η ?_;by_cases ao:lim=0
 ·have cN:(lim:Int)=0:=J
  refine aE cN ?_;refine aC (by simp[ao]) ?_;refine bc λΚ κ=>?_;refine af.call (first:=[]) (captured:=[]) ((fΘ e n a b cw J J hb Ο cmp a9 Ρ).mono (λr s ⟨bI,bw⟩=>?_) (λ_ _ h=>h.elim));subst bI;subst bw;simp;(repeat (rw[ah];simp));apply κ;rw[Go.Sort.pdq_heap hf ao] at aM;exact W.ret ⟨_,rfl,rfl,by rw[<-aM]⟩
 have cN:¬(lim:Int)=0:=J;refine aE cN ?_;refine ay (by simp[ao]) ?_;refine Η ?_;have F:=Go.Sort.rd_facts (limit:=lim) (wb:=wb) (wp:=wp) eC Go.Sort.partialInsertionSort_holds Go.Sort.reverseRange_holds (by omega:a<b) J dV;have Ci:=Go.Sort.rd_lim_le (lt:=(Ξ cmp)) (d:=e) (a:=a) (b:=b) (limit:=lim) (wb:=wb) (wp:=wp);have um:=λh:wb=false=>show(Go.Sort.rd (Ξ cmp) e a b lim wb wp).d1=Go.Sort.breakPatterns e a b/\(Go.Sort.rd (Ξ cmp) e a b lim wb wp).lim=lim-1 by subst h;exact Go.Sort.rd_false
 have uo:=λh:wb=true=>show(Go.Sort.rd (Ξ cmp) e a b lim wb wp).d1=e/\(Go.Sort.rd (Ξ cmp) e a b lim wb wp).lim=lim by subst h;exact Go.Sort.rd_true
 have uq:=Go.Sort.rd_c (lt:=(Ξ cmp)) (d:=e) (a:=a) (b:=b) (limit:=lim) (wb:=wb) (wp:=wp)
 have Fd:=Go.Sort.rd_dec (lt:=(Ξ cmp)) (d:=e) (a:=a) (b:=b) (limit:=lim) (wb:=wb) (wp:=wp)
 have Fn:=Go.Sort.rd_not (lt:=(Ξ cmp)) (d:=e) (a:=a) (b:=b) (limit:=lim) (wb:=wb) (wp:=wp)
 have rB:=Go.Sort.rd_pi_yes (lt:=(Ξ cmp)) (d:=e) (a:=a) (b:=b) (limit:=lim) (wb:=wb) (wp:=wp)
 have rC:=Go.Sort.rd_pi_no (lt:=(Ξ cmp)) (d:=e) (a:=a) (b:=b) (limit:=lim) (wb:=wb) (wp:=wp)
 have iK:=Go.Sort.pdq_done (lt:=(Ξ cmp)) (d:=e) (wb:=wb) (wp:=wp) hf ao
 have g0:=Go.Sort.pdq_eq (lt:=(Ξ cmp)) (d:=e) (wb:=wb) (wp:=wp) hf ao
 have fT:=Go.Sort.pdq_left (lt:=(Ξ cmp)) (d:=e) (wb:=wb) (wp:=wp) hf ao
 have fU:=Go.Sort.pdq_right (lt:=(Ξ cmp)) (d:=e) (wb:=wb) (wp:=wp) hf ao;rw[aM] at iK g0 fT fU;obtain⟨r,μ⟩:=bG (Go.Sort.rd (Ξ cmp) e a b lim wb wp);rw[μ] at F Ci um uo uq Fd Fn rB rC iK g0 fT fU;clear μ;obtain⟨d1,eO,⟨xN,ch⟩,d2,iu,rD,d3,done⟩:=r;simp only at F Ci um uo uq Fd Fn rB rC iK g0 fT fU;obtain⟨xO,fΓ,fΔ,xP,fΕ,mh,mi,Cj⟩:=F;rw[cw] at xO xP mi;refine W.upto [(0,.ms 0 n 0 n),(1,I (a:Nat)),(2,I (b:Nat)),(3,I (eO:Nat)),(4,Ο),(10,ba wb),(11,ba wp),(12,I (l:Nat))] [.cells 112 2 ((d1).toList.map aK)] ?_ ?_
 ·cases wb with
  | false=>
   obtain⟨f1,f2⟩:=um rfl;refine aC rfl ?_;refine bc λΚ κ=>?_;refine af.call (first:=[]) (captured:=[]) ((fχ e n a b cw J J J hb Ο cmp a9 Ρ).mono (λr s ⟨bI,bw⟩=>?_) (λ_ _ h=>h.elim));subst bI;subst bw;simp;(repeat (rw[ah];simp));apply κ;have w2:=ir (i:=lim) J J;refine ov w2 ?_;exact W.stop ⟨rfl,by rw[f1],by simp[f2]⟩
  | true=>
   obtain⟨f1,f2⟩:=uo rfl;refine ay rfl ?_;refine W.skip ?_;exact W.stop ⟨rfl,by rw[f1],by simp[f2]⟩
 have xQ:=fΜ d1 n a b xO J J J hb Ο cmp a9 Ρ;rw[<-uq] at xQ;simp only at xQ;refine bc λΚ κ=>?_;refine af.call (first:=[]) (captured:=[]) ((xQ).mono (λr s ⟨bI,bw⟩=>?_) (λ_ _ h=>h.elim));subst bI;subst bw;simp;(repeat (rw[ah];simp));apply κ;refine W.to (σ':=[.cells 112 2 ((d1).toList.map aK)]) (env':=[(0,.ms 0 n 0 n),(1,I (a:Nat)),(2,I (b:Nat)),(3,I (eO:Nat)),(4,Ο),(10,ba wb),(11,ba wp),(12,I (l:Nat)),(13,I (xN:Nat)),(14,I (qt ch))]) ?_ rfl η;refine Η ?_;refine W.upto [(0,.ms 0 n 0 n),(1,I (a:Nat)),(2,I (b:Nat)),(3,I (eO:Nat)),(4,Ο),(10,ba wb),(11,ba wp),(12,I (l:Nat)),(13,I (iu:Nat)),(14,I (qt rD))] [.cells 112 2 ((d2).toList.map aK)] ?_ ?_
 ·by_cases hd:ch=.decreasing
  ·obtain⟨f1,f2,f3⟩:=Fd hd;subst hd;refine aC rfl ?_;refine bc λΚ κ=>?_;refine af.call (first:=[]) (captured:=[]) ((fΙ d1 n a b xO J J hb Ο cmp a9 Ρ).mono (λr s ⟨bI,bw⟩=>?_) (λ_ _ h=>h.elim));subst bI;subst bw;simp;(repeat (rw[ah];simp));apply κ;have w2:=ir (i:=b) J J;have w3:=vO (a:=a) (b:=xN) J J;have w4:=vO (a:=xN-a) (b:=b-1) J J;rw[<-f2] at w4;refine W.seq ?_;refine ov (ς w2 (ς w3 w4)) ?_;refine l9 ?_;exact W.stop ⟨rfl,by rw[f1],by simp[f3,qt]⟩
  ·obtain⟨f1,f2,f3⟩:=Fn hd;refine ay (by cases ch with
    | decreasing=>exact absurd rfl hd
    | unknown=>rfl
    | increasing=>rfl) ?_
   refine W.skip ?_;exact W.stop ⟨rfl,by rw[f1],by simp[f2,f3]⟩
 repeat apply ae
 refine W.ts (A:=[]) Φ [(75,ba (wb&&wp&&decide (rD=.increasing))),(0,.ms 0 n 0 n),(1,I (a:Nat)),(2,I (b:Nat)),(3,I (eO:Nat)),(4,Ο),(10,ba wb),(11,ba wp),(12,I (l:Nat)),(13,I (iu:Nat))] ?_ (by cases wb<;>cases wp<;>cases rD<;>simp[ah,pY,qt])
 repeat apply ae
 rcases Bool.eq_false_or_eq_true done with h8|h8
 ·cases ε:(wb&&wp&&decide (rD=.increasing)) with
  | true=>
   have f:=rB ε;refine aC rfl ?_;have g1:=Rv d2 n a b xP J J J hb Ο cmp a9 Ρ;rw[<-f] at g1;simp only[h8] at g1;refine bc λΚ κ=>?_;refine af.call (first:=[]) (captured:=[]) ((g1).mono (λr s ⟨bI,bw⟩=>?_) (λ_ _ h=>h.elim));subst bI;subst bw;simp;(repeat (rw[ah];simp));apply κ;refine aC rfl ?_;exact W.ret ⟨_,rfl,rfl,by rw[iK h8]⟩
  | false=>
   have f:=(Prod.mk.inj (rC ε)).2;rw[h8] at f;cases f
 refine W.upto [(0,.ms 0 n 0 n),(1,I (a:Nat)),(2,I (b:Nat)),(3,I (eO:Nat)),(4,Ο),(10,ba wb),(11,ba wp),(12,I (l:Nat)),(13,I (iu:Nat))] [.cells 112 2 ((d3).toList.map aK)] ?_ ?_
 ·cases ε:(wb&&wp&&decide (rD=.increasing)) with
  | true=>
   have f:=rB ε;refine aC rfl ?_;have g1:=Rv d2 n a b xP J J J hb Ο cmp a9 Ρ;rw[<-f] at g1;simp only[h8] at g1;refine bc λΚ κ=>?_;refine af.call (first:=[]) (captured:=[]) ((g1).mono (λr s ⟨bI,bw⟩=>?_) (λ_ _ h=>h.elim));subst bI;subst bw;simp;(repeat (rw[ah];simp));apply κ;refine ay rfl ?_;refine W.skip ?_;exact W.stop ⟨rfl,rfl,η⟩
  | false=>
   have f1:=(Prod.mk.inj (rC ε)).1;refine ay rfl ?_;refine W.skip ?_;exact W.stop ⟨rfl,by rw[f1],η⟩
 clear iK rB rC Fd Fn uq um uo;have g0:=g0 h8;have fT:=fT h8;have fU:=fU h8;obtain⟨P,n1⟩:=bG ((decide (a > 0)&&!Ξ cmp d3[a-1]! d3[iu]!):Bool);rw[n1] at g0 fT fU
 repeat apply ae
 refine W.yP (A:=[]) Φ mixed [(97,ba P),(0,.ms 0 n 0 n),(1,I (a:Nat)),(2,I (b:Nat)),(3,I (eO:Nat)),(4,Ο),(10,ba wb),(11,ba wp),(12,I (l:Nat)),(13,I (iu:Nat))] ?_ (by
  by_cases ν:0<a
  ·obtain⟨p,ω⟩:=aF (a-1);have aH:p<n:=J;have aI:iu<n:=J;obtain⟨L,x,y,ad,δ,Μ,π,⟨U,γ⟩,⟨ο,Ι⟩,-,-⟩:=eQ aK mi aH aI;have xR:P = !Ξ cmp x y:=by rw[<-n1,<-ω,δ,Μ];simp[ν]
   have ew:(0:Int)<(a:Int):=J
   have w2:IntKind.i64.wrap ((a:Int)-1)=(p:Int):=by rw[IntWalk.i64_in _ J];omega
   rw[ad];clear δ Μ;simp;(repeat (rw[cY];simp[ν,ew,w2,π,U,γ,ο,Ι,aH,aI]));(try rw[cX]);refine eD (Ρ x y) ?_;simp;(repeat (rw[cY];simp));(try rw[cX]);refine⟨hX (by kernel_rfl),?_⟩;simp[xR,Ξ]
  ·have xR:P=false:=by rw[<-n1];simp[ν]
   have ew:a=0:=J;subst ew;simp;(repeat (rw[cY];simp));(try rw[cX]);refine⟨hX (by kernel_rfl),?_⟩;simp[xR])
 repeat apply ae
 rcases Bool.eq_false_or_eq_true P with n2|n2
 ·refine aC (by simp[n2]) ?_;rw[n2] at n1;simp only[Bool.and_eq_true,decide_eq_true_eq,Bool.not_eq_true'] at n1;obtain⟨⟨mid,d4⟩,δ⟩:∃r,Go.Sort.partitionEqual (Ξ cmp) d3 a b iu=r:=⟨_,rfl⟩;obtain⟨d',dG,mY,q6,-⟩:=Go.Sort.round_eq eC (Go.Sort.partitionEqual_holds _) n1.1 mh.1 mh.2 (by rw[mi];exact hb) Cj n1.2 δ;have g0:=g0 n2;rw[δ] at g0;have g0:=g0 ⟨d',dG⟩;simp only at g0;have g1:=fΗ d3 n a b iu mi J mh.1 mh.2 hb Ο cmp a9 Ρ;rw[δ] at g1;simp only at g1;refine bc λΚ κ=>?_;refine af.call (first:=[]) (captured:=[]) ((g1).mono (λr s ⟨bI,bw⟩=>?_) (λ_ _ h=>h.elim));subst bI;subst bw;simp;(repeat (rw[ah];simp));apply κ;refine Η ?_;refine W.exit rfl ?_;exact W.to (Α ⟨mid,b,eO,wb,wp,d4⟩ ⟨mY.trans mi,dG,hb,bi,bi,q6,g0.symm⟩ bi) rfl η
 refine ay (by simp[n2]) ?_;obtain⟨⟨mid,ap,d4⟩,δ⟩:∃r,Go.Sort.partition (Ξ cmp) d3 a b iu=r:=⟨_,rfl⟩;obtain⟨d',dG,mY,q6,tJ,K4,Ck⟩:=Go.Sort.round_part eC (Go.Sort.partition_holds _) mh.1 mh.2 (by rw[mi];exact hb) Cj δ;have fT:=fT n2;have fU:=fU n2;rw[δ] at fT fU;have fT:=fT ⟨d',dG⟩;have fU:=fU ⟨d',dG⟩;simp only at fT fU;have g1:=fΖ d3 n a b iu mi J mh.1 mh.2 hb Ο cmp a9 Ρ;rw[δ] at g1;simp only at g1;have uu:d4.size=n:=mY.trans mi;obtain⟨u,hu⟩:=aF (mid-a);obtain⟨v,hv⟩:=aF (b-mid);obtain⟨qz,Cl⟩:=aF (l / 8);obtain⟨b9,g8⟩:=aF (mid+1);have kR:IntKind.i64.wrap ((mid:Int)-(a:Int))=(u:Int):=by rw[IntWalk.i64_in _ J];omega
 have iI:IntKind.i64.wrap ((b:Int)-(mid:Int))=(v:Int):=by rw[IntWalk.i64_in _ J];omega
 have iJ:IntKind.i64.wrap ((l:Int) / 8)=(qz:Int):=by rw[Cl];exact vN (m:=8) J
 have lN:IntKind.i64.wrap ((mid:Int)+1)=(b9:Int):=by rw[IntWalk.i64_in _ J];omega
 rw[<-hu,<-hv,<-π,<-Cl,<-g8] at fT fU;refine bc λΚ κ=>?_;refine af.call (first:=[]) (captured:=[]) ((g1).mono (λr s ⟨bI,bw⟩=>?_) (λ_ _ h=>h.elim));subst bI;subst bw;simp;(repeat (rw[ah];simp));apply κ;by_cases qe:u<v
 ·have aa:(u:Int)<(v:Int):=J
  refine aE (ς kR (ς iI (ς iJ @aa))) ?_;refine aC η ?_;obtain⟨dz,p2⟩:=Go.Sort.pdq_sorts (Ξ cmp) eC d4 a mid eO true true d' J q6;have rE:=s8 (mid-a) J d4 a mid eO uu (Nat.le_refl _) d' J J q6;have fT:=fT qe;obtain⟨B',-⟩:=K4 _ dz p2;have s1:=dz.1.trans uu;obtain⟨Ε,ie⟩:=bG (Go.Sort.pdq (Ξ cmp) d4 a mid eO true true);rw[ie] at rE fT B' s1;refine bc λΚ κ=>?_;apply κ;refine bc λΚ κ=>?_;refine af.call (first:=[]) (captured:=[]) ((rE).mono (λr s ⟨bI,bw⟩=>?_) (λ_ _ h=>h.elim));subst bI;subst bw;simp;(repeat (rw[ah];simp));apply κ;refine aE lN ?_;exact W.to (Α ⟨b9,b,eO,decide (u>=qz),ap,Ε⟩ ⟨s1,bi,hb,bi,bi,by simp only;rw[g8];exact B',fT.symm⟩ bi) rfl η
 ·have aa:¬(u:Int)<(v:Int):=J
  refine aE (ς kR (ς iI (ς iJ @aa))) ?_;refine ay η ?_;obtain⟨dz,p2⟩:=Go.Sort.pdq_sorts (Ξ cmp) eC d4 (mid+1) b eO true true J J tJ;rw[<-g8] at dz p2 tJ;have rE:=s8 (b-b9) J d4 b9 b eO uu (Nat.le_refl _) J hb J tJ;have fU:=fU qe;rw[<-g8] at Ck;obtain⟨B',-⟩:=Ck _ dz p2;have s1:=dz.1.trans uu;obtain⟨Ε,ie⟩:=bG (Go.Sort.pdq (Ξ cmp) d4 b9 b eO true true);rw[ie] at rE fU B' s1;refine bc λΚ κ=>?_;apply κ;refine g9 lN λΚ κ=>?_;refine af.call (first:=[]) (captured:=[]) ((rE).mono (λr s ⟨bI,bw⟩=>?_) (λ_ _ h=>h.elim));subst bI;subst bw;simp;(repeat (rw[ah];simp));apply κ;refine Η ?_;exact W.to (Α ⟨a,mid,eO,decide (v>=qz),ap,Ε⟩ ⟨s1,d',bi,bi,bi,B',fU.symm⟩ bi) rfl η
theorem Rw {α:Type} [Inhabited α] {lt:α->α->Bool} (ξ:Go.Sort.SWO lt) (ν:∀x y,lt x y=false->lt y x=false->x=y) (l:List α):(Go.Sort.pdq lt l.toArray 0 l.length (Go.Sort.bitsLen l.length) true true).toList=l.mergeSort (λx y=>!lt y x):=by
 obtain⟨U,γ⟩:=Go.Sort.pdq_sorts lt ξ l.toArray 0 l.length (Go.Sort.bitsLen l.length) true true (Nat.zero_le _) η (.inl rfl);exact Go.Sort.sorted_unique_holds (lt:=lt) ξ ν l.toArray _ (by simpa using U) (by simpa using γ)
theorem fΡ:Fa 49:=λl π=>by
 obtain⟨Ο,a9⟩:=aF (.fn (.func 174) [] []:θ);have K6:aG 0 Ο:=by rw[a9];simp[kG]
 have Ρ:∀x y,ef Tryz.prog Ο [aK x,aK y] (I (lH x y)):=λx y=>by rw[a9];exact aB.p (OB x y) (b2.refl _) η η
 obtain⟨n,Θ⟩:=aF l.length;have hb:Go.Sort.bitsLen n<=6:=(Go.Sort.bitsLen_le_iff n 6).2 J;have h:=fΟ n J Ο lH K6 Ρ vl n l.toArray 0 n (Go.Sort.bitsLen n) (by simp[Θ]) J J (Nat.le_refl _) J (.inl rfl);have ω:=Rw vl E8 l;rw[<-Θ] at ω;have e:(λx y:Int×Int=>!Ξ lH y x)=e7:=rfl;rw[ω,e] at h;rw[<-a9,<-Θ];clear ω e;have hc:(l.map aK).length=n:=by rw[List.length_map,Θ]
 have cu:l.toArray.toList=l:=rfl;rw[cu] at h;refine af.body Φ Tryz.func173 rfl rfl Tryz.ntmps173 rfl rfl η ?_;have Ζ:=eY (show n<2 ^ 62 by omega);have Ε:IntKind.u64.wrap (n:Int)=n:=ub J;have oz:=Θ.symm;refine aE oz ?_;(repeat apply ae);refine dt λΚ κ=>?_;simp;(repeat (rw[ah];simp[Ζ,Ε]));refine aB.d (tG n J) (bp ?_);refine af.call (first:=[]) (captured:=[]) (h.mono (λr s ⟨bI,bw⟩=>?_) (λ_ _ h=>h.elim));subst bI;subst bw;simp;(repeat (rw[ah];simp));apply κ;exact W.nil ⟨_,rfl,rfl,rfl⟩
def Rx (N:Nat):Prop:=∀(l:List (Int×Int)),l.length<=N->af Tryz.prog 117 [.ms 0 l.length 0 l.length,.fn (.func 118) [] []] [.cells 29 1 (l.map aL)] (λr s=>r=.bj []/\s=[.cells 29 1 ((l.mergeSort e7).map aL)]) (λ_ _=>False)
theorem fΤ (x y:Int×Int):ef Tryz.prog (.fn (.func 118) [] []) [aL x,aL y] (I (lH x y)):=aB.p (I0 [x.1,x.2] [y.1,y.2] η) (.cons .ex (.cons .ex .nil)) η η
theorem fΥ:Rx 255:=λl π=>by
 obtain⟨Ο,a9⟩:=aF (.fn (.func 118) [] []:θ);have K6:aG 0 Ο:=by rw[a9];simp[kG]
 have Ρ:∀x y,ef Tryz.prog Ο [aL x,aL y] (I (lH x y)):=λx y=>by rw[a9];exact fΤ x y
 obtain⟨n,Θ⟩:=aF l.length;have hb:Go.Sort.bitsLen n<=8:=(Go.Sort.bitsLen_le_iff n 8).2 J;have h:=fΒ n J Ο lH K6 Ρ vl n l.toArray 0 n (Go.Sort.bitsLen n) (by simp[Θ]) J J (Nat.le_refl _) J (.inl rfl);have ω:=Rw vl E8 l;rw[<-Θ] at ω;have e:(λx y:Int×Int=>!Ξ lH y x)=e7:=rfl;rw[ω,e] at h;rw[<-a9,<-Θ];clear ω e;have hc:(l.map aL).length=n:=by rw[List.length_map,Θ]
 have cu:l.toArray.toList=l:=rfl;rw[cu] at h;refine af.body Φ Tryz.func117 rfl rfl Tryz.ntmps117 rfl rfl η ?_;have Ζ:=eY (show n<2 ^ 62 by omega);have Ε:IntKind.u64.wrap (n:Int)=n:=ub J;have oz:=Θ.symm;refine aE oz ?_;(repeat apply ae);refine dt λΚ κ=>?_;simp;(repeat (rw[ah];simp[Ζ,Ε]));refine aB.d (tG n J) (bp ?_);refine af.call (first:=[]) (captured:=[]) (h.mono (λr s ⟨bI,bw⟩=>?_) (λ_ _ h=>h.elim));subst bI;subst bw;simp;(repeat (rw[ah];simp));apply κ;exact W.nil ⟨_,rfl,rfl,rfl⟩
structure fΦ (s:aU) (F:List Found) (lower:Bool) (N:Nat):Prop where
 nM:F.length<2 ^ 20
 cells:∀f∈F,f.cells.length=s.cells.length/\∀c∈f.cells,c.length<2 ^ 20
 some:∀c,c<s.cells.length->gH F c lower≠[]/\(gH F c lower).length<=N
theorem zy (d:cJ) {a b:Int} (h:a<=b) (ν:-1000<a) (hb:b<1000):a<=oI d a b/\oI d a b<=b:=by
 unfold oI;rw[IntWalk.i64_in (b-a) J];obtain⟨t0,t1⟩:=pA d (b-a) J J;generalize hN d (b-a)=x at t0 t1;rw[IntWalk.i64_in (a+x) J];omega
theorem fΧ (l:List Int) (k:Nat) (x:Int):(qs l k x).Perm (x::l):=by
 unfold qs;have h:(l.take k++x::l.drop k).Perm (x::(l.take k++l.drop k)):=List.perm_middle
 rwa [List.take_append_drop] at h
theorem Ry (d:cJ) (n:Nat):(h1 d n).1.Perm ((List.range n).map λ(i:Nat)=>(i:Int)):=by
 induction n with
 | zero=>exact .refl _
 | succ n Α=>
  show(qs _ _ _).Perm _;refine(fΧ _ _ _).trans ?_;rw[List.range_succ,List.map_append];refine(List.Perm.cons _ Α).trans ?_;exact(List.perm_append_singleton _ _).symm
theorem Rz {d:cJ} {n:Nat} {x:Int} (h:x∈(h1 d n).1):0<=x/\x<n:=by
 have:=(Ry d n).mem_iff.1 h;obtain⟨i,hi,rfl⟩:=List.mem_map.1 this;have:=List.mem_range.1 hi;omega
theorem RA (d:cJ) (n:Nat):(h1 d n).1.Nodup:=by
 refine(Ry d n).nodup_iff.2 ?_;unfold List.Nodup;rw[List.pairwise_map];exact List.nodup_range.imp λh e=>h J
structure qu (l:List mU):Prop where
 lo:1<=l.length
 hi:l.length<=6
 each:∀g∈l,yT g.name=false/\1<=g.strokes/\g.strokes<=63
 RB:l.Pairwise λa b=>tj b.name a.name=false
 apart:l.Pairwise λa b=>a.strokes≠b.strokes
theorem Cm {l:List Int} (h:∀x∈l,x=0):jO l=0:=by
 induction l with
 | nil=>rfl
 | cons x l Α=>
  have:=h x η;subst this;simp[jO];exact Α λy Μ=>h y (by simp[Μ])
theorem qu.err {l:List mU} (h:qu l):pg l=0:=by
 unfold pg;have U:=h.lo;have γ:=h.hi;rw[if_neg J,if_neg J];refine Cm λx δ=>?_;obtain⟨i,hi,rfl⟩:=List.mem_map.1 δ;have hi:=List.mem_range.1 hi;unfold q4;rw[a6 hi];obtain⟨Ζ,Ε,a8⟩:=h.each _ (List.getElem_mem hi);simp only;rw[if_neg (by rw[Ζ];simp),if_neg,if_neg J,if_neg]
 ·intro ν;obtain⟨y,Μ,he⟩:=List.any_eq_true.1 ν;obtain⟨j,ζ,rfl⟩:=List.mem_take_iff_getElem.1 Μ;have:=List.pairwise_iff_getElem.1 h.apart j i J hi J;simp at he;exact this he
 ·rintro⟨lS,ξ⟩;rw[a6 J] at ξ;have:=List.pairwise_iff_getElem.1 h.RB (i-1) i J hi J;simp only[Option.map_some,Option.getD_some] at ξ;rw[ξ] at this;cases this
def od (i:Nat):ByteArray:=⟨#[[97,98,99,100,111,122].getD i 0]⟩
def km:List Int:=[4,9,6,12,48,8,3,16,5,10,20]
def lO (ord:List Int) (last:Int) (i:Nat):mU:=⟨od i,(km++[last]).getD ((ord.getD i 0).toNat) 0⟩
structure Made (ord:List Int):Prop where
 len:ord.length=11
 mem:∀x∈ord,0<=x/\x<11
 nodup:ord.Nodup
theorem fΨ (d:cJ):Made (h1 d 11).1:=⟨Kv d 11,λ_ h=>Rz h,RA d 11⟩
theorem Made.get {ord:List Int} (h:Made ord) {i:Nat} (hi:i<11):∃k:Nat,k<11/\ord[i]?=some (k:Int)/\∀last,(km++[last])[k]?=some (km.getD k 0)/\1<=km.getD k 0/\km.getD k 0<=63:=by
 have π:=h.len
 have hm:=h.mem _ (List.getElem_mem (l:=ord) (n:=i) J);refine⟨(ord[i]).toNat,J,by rw[a6 J];congr 1;omega,λlast=>?_⟩;have ψ:(ord[i]).toNat<11:=J;generalize (ord[i]).toNat=k at ψ;rw[dM (by simpa[km] using ψ)];have:∀k<11,km[k]?=some (km.getD k 0)/\1<=km.getD k 0/\km.getD k 0<=63:=br;exact this k ψ
theorem fΩ:∀a<11,∀b<11,km.getD a 0=km.getD b 0->a=b:=br
theorem gα:∀i<6,yT (od i)=false:=by decide +kernel
theorem gβ:∀j<6,∀i<j,tj (od j) (od i)=false:=by decide +kernel
theorem Gh {ord:List Int} (h:Made ord) (last:Int) {i:Nat} (hi:i<11):∃k:Nat,k<11/\ord[i]?=some (k:Int)/\(lO ord last i).strokes=km.getD k 0/\1<=km.getD k 0/\km.getD k 0<=63:=by
 obtain⟨k,ψ,Β,ξ⟩:=h.get hi;obtain⟨U,γ,ο⟩:=ξ last;refine⟨k,ψ,Β,?_,γ,ο⟩;unfold lO;rw[show ord.getD i 0=(k:Int) from by rw[List.getD_eq_getElem?_getD,Β];rfl,Int.toNat_natCast];show(km++[last]).getD k 0=_;rw[List.getD_eq_getElem?_getD,U];rfl
theorem gγ {ord:List Int} (h:Made ord) (last:Int) {i j:Nat} (hi:i<11) (ζ:j<11) (e:(lO ord last i).strokes=(lO ord last j).strokes):i=j:=by
 obtain⟨a,ν,lb,gδ,_⟩:=Gh h last hi;obtain⟨b,hb,jE,Fc,_⟩:=Gh h last ζ;rw[gδ,Fc] at e;have:=fΩ a ν b hb e;subst this;have π:=h.len;exact(List.getElem?_inj J h.nodup).1 (lb.trans jE.symm)
theorem gε {ord:List Int} (h:Made ord) (last:Int) {av:List Nat} (cV:av.Pairwise (· < ·)) (bf:∀j∈av,j<6) (U:1<=av.length) (Θ:av.length<=6):qu (av.map (lO ord last)):=by
 refine⟨by simpa using U,by simpa using Θ,λg Ω=>?_,?_,?_⟩
 ·obtain⟨j,ζ,rfl⟩:=List.mem_map.1 Ω;have:=bf j ζ;obtain⟨k,_,_,e,Ζ,Ε⟩:=Gh h last (i:=j) J;exact⟨gα j this,J,J⟩
 ·rw[List.pairwise_map];refine(List.pairwise_iff_forall_sublist.2 λ{a b} ξ=>?_);have e':=(List.pairwise_iff_forall_sublist.1 cV) ξ;exact gβ b (bf b (ξ.subset η)) a e'
 ·rw[List.pairwise_map];refine(List.pairwise_iff_forall_sublist.2 λ{a b} ξ=>λe=>?_);have e':=(List.pairwise_iff_forall_sublist.1 cV) ξ;have ν:=bf a (ξ.subset η);have hb:=bf b (ξ.subset η);have:=gγ h last J J e;omega
theorem qu.set {l:List mU} (h:qu l) {k:Nat} (ψ:k<l.length) {x:Int} (U:1<=x) (γ:x<=63) (Ρ:∀g∈l,g.strokes≠x):qu (l.set k ⟨l[k].name,x⟩):=by
 have get:∀(i:Nat) (hi:i<(l.set k ⟨l[k].name,x⟩).length),(l.set k ⟨l[k].name,x⟩)[i].name=(l[i]'(by simpa using hi)).name/\((l.set k ⟨l[k].name,x⟩)[i].strokes=x/\i=k\/(l.set k ⟨l[k].name,x⟩)[i].strokes=(l[i]'(by simpa using hi)).strokes/\i≠k):=by
  intro i hi;rw[List.getElem_set];split
  ·rename_i e;subst e;exact⟨rfl,.inl ⟨rfl,rfl⟩⟩
  ·rename_i e;exact⟨rfl,.inr ⟨rfl,λh=>e h.symm⟩⟩
 refine⟨by simpa using h.lo,by simpa using h.hi,λg Ω=>?_,?_,?_⟩
 ·obtain⟨i,hi,rfl⟩:=List.getElem_of_mem Ω;obtain⟨Ζ,Ε⟩:=get i hi;obtain⟨a,b,c⟩:=h.each _ (List.getElem_mem (l:=l) (n:=i) (by simpa using hi));rw[Ζ];rcases Ε with⟨Ε,_⟩|⟨Ε,_⟩<;>rw[Ε]
  ·exact⟨a,U,γ⟩
  ·exact⟨a,b,c⟩
 ·rw[List.pairwise_iff_getElem];intro i j hi ζ fP;rw[(get i hi).1,(get j ζ).1];exact List.pairwise_iff_getElem.1 h.RB i j (by simpa using hi) (by simpa using ζ) fP
 ·rw[List.pairwise_iff_getElem];intro i j hi ζ fP;have aH:i<l.length:=by simpa using hi
  have aI:j<l.length:=by simpa using ζ
  rcases(get i hi).2 with⟨Ζ,Ε⟩|⟨Ζ,Ε⟩<;>rcases(get j ζ).2 with⟨a8,cR⟩|⟨a8,cR⟩<;>rw[Ζ,a8]
  ·omega
  ·exact λe=>Ρ _ (List.getElem_mem aI) e.symm
  ·exact λe=>Ρ _ (List.getElem_mem aH) e
  ·exact List.pairwise_iff_getElem.1 h.apart i j aH aI fP
def vR (g:FuncId) (args:am) (d:cJ) (R:θ->Prop):Prop:=af Tryz.prog g (.ak 0 1 0 0::args) [b4 d] (λa s=>∃r eo,dD a r/\R r/\s=[b4 eo]/\eo.bg.length<=d.bg.length) (λ_ _=>False)
theorem vR.c {g:FuncId} {args gV:am} {d:cJ} {R:θ->Prop} {σ:ac} {K E:θ->ac->Prop} (h:vR g args d R) (id:Nat) (cb:σ[id]?=some (b4 d)) (he:b2 gV args) (ν:∀a∈gV,aG 0 a) (μ:∀r,R r->aG 0 r) (κ:∀r eo,R r->eo.bg.length<=d.bg.length->K r (σ.set id (b4 eo))):hV Tryz.prog (.fn (.func g) [] []) (.ak id 1 0 0::gV) σ K E:=by
 refine af.E4 (as0:=.ak 0 1 0 0::gV) (K0:=λa s=>∃eo,R a/\s=[b4 eo]/\eo.bg.length<=d.bg.length) (af.nG h (.cons (.refl _) he) λa s ⟨r,eo,U,γ,ο,Ι⟩=>⟨r,U,eo,γ,ο,Ι⟩) id cb (qp d) ?_ ?_ ?_
 ·intro a hm;rcases List.mem_cons.1 hm with rfl|hm
  ·exact Nat.zero_lt_one
  ·exact(ν a hm).jN 1
 ·rw[List.map_cons,Ra ν];rfl
 ·rintro a s ⟨eo,U,γ,ο⟩;exact⟨b4 eo,γ,qp eo,(μ a U).jN 1,by rw[(μ a U).eg];exact κ a eo U ο⟩
section
variable {P:Program} {m nt:Nat} {k:List Item} {env:ab} {Z:be} {E:aq}
theorem W.RD {d:cJ} {t kk n:Nat} {l:am} {x:Nat} (hm:m<=1) (π:l.length=n) (hb:∀e∈l,∀a∈e.cells,aG 0 a) (hd:a' env x=.ms 1 n 0 n) (hW:W P m nt k [(x,.sl false kk l)] [b4 d] Z E):W P m nt k env [b4 d,.cells t kk l] Z E:=
 W.cut 1 hm [(x,.sl false kk l)] η (λid r cb μ=>by
  have:id=0:=J;subst this;simp at μ;subst μ;exact vL d 1) (λp ω=>by
  simp at ω;subst ω;show eK 1 _ (a' env x) _;rw[hd];exact .own (t:=t) (Nat.le_refl _) rfl π (λe he a ν=>(hb e he a ν).mono (Nat.zero_le _))) (by simpa using hW)
end
theorem uv {l:List mU}:∀e∈l.map e5,∀a∈e.cells,aG 0 a:=λe he a ν=>by
 obtain⟨x,_,rfl⟩:=List.mem_map.1 he;simp[θ.cells] at ν;rcases ν with rfl|rfl<;>exact .z _
def zz:List ByteArray:=[⟨#[97]⟩,⟨#[98]⟩,⟨#[99]⟩,⟨#[100]⟩,⟨#[111]⟩,⟨#[122]⟩]
theorem gζ:∀i<6,zz[i]?=some (od i):=br
structure RE where
 i:Nat
 d:cJ
 av:List Nat
theorem gη (d:cJ) (hd:d.bg.length<2 ^ 63) (gy:Nat) (hZ:1<=gy) (zA:gy<=6):vR 128 [I gy] d (λr=>∃l,r=aY l/\qu l/\l.length<=gy):=by
 unfold vR;refine af.body Φ Tryz.func128 rfl rfl Tryz.ntmps128 rfl rfl η ?_;refine Η ?_;obtain⟨l0,l1⟩:=zy d (a:=1) (b:=63) br br br;obtain⟨last,ku⟩:=bG (oI d 1 63);obtain⟨d1,lk⟩:=bG (d.after (IntKind.i64.wrap (63-1)));have gθ:d1.bg.length<=d.bg.length:=by rw[<-lk];exact jy _ _
 have Ρ:=zu d hd 1 63;rw[ku,lk] at Ρ;rw[ku] at l0 l1;refine bc λΚ κ=>?_;refine dU.g (Ρ) (bp ?_);apply κ
 repeat apply ae
 have Β:=Rc d1 J 11 br
 have Cn:=fΨ d1
 have Gi:=Nat.le_trans (Kt d1 11) gθ;obtain⟨ord,vJ⟩:=bG ((h1 d1 11).1);obtain⟨d2,j9⟩:=bG ((h1 d1 11).2);rw[vJ] at Cn;rw[vJ,j9] at Β;rw[j9] at Gi;refine bc λΚ κ=>?_;refine dU.g (Β) (bp ?_);apply κ;refine Η ?_;obtain⟨qI,iy⟩:=zy d2 (a:=1) (b:=gy) J br J;obtain⟨n,Θ⟩:∃n:Nat,oI d2 1 gy=n:=⟨(oI d2 1 gy).toNat,J⟩;rw[Θ] at qI iy;obtain⟨d3,uw⟩:=bG (d2.after (IntKind.i64.wrap ((gy:Int)-1)));have K7:d3.bg.length<=d.bg.length:=by rw[<-uw];exact Nat.le_trans (jy _ _) Gi
 have H6:=zu d2 J 1 gy;rw[Θ,uw] at H6;refine bc λΚ κ=>?_;refine dU.g (H6) (bp ?_);apply κ;refine Η ?_;have cK:zz.length=6:=rfl;have eC:(km++[last]).length=12:=by simp[km]
 obtain⟨xS,Gj⟩:=aF (km++[last]);rw[<-Gj] at eC;have di:∀av:List Nat,(av.map (lO ord last)).length=av.length:=λav=>List.length_map _;refine W.iter (λx:RE=>x.i<=6/\x.d.bg.length<=d.bg.length/\x.av.Pairwise (· < ·)/\(∀j∈x.av,j<x.i)/\x.av.length<=n/\n+x.i<=6+x.av.length)
  (λx=>[(0,.ak 0 1 0 0),(5,.sl true 1 (zz.map ou)),(6,.sl true 1 (xS.map I)),(7,bD I 1 ord),(8,c9 1 ((x.av.map (lO ord last)).map e5)),(9,I n),(10,I x.i)])
  (λx=>b4 x.d::bF 77 2 ((x.av.map (lO ord last)).map e5)) (λx=>6-x.i) ⟨0,d3,[]⟩ ⟨η,K7,η,η,η,by simp;omega⟩ rfl (by rw[Gj];intro p ω;simp only[List.mem_cons,List.not_mem_nil,or_false] at ω;rcases ω with rfl|rfl|rfl|rfl|rfl|rfl|rfl<;>rfl) (λx δ Α=>?_)
 obtain⟨i,D,av⟩:=x;obtain⟨gι,nZ,Gk,Co,RF,gκ⟩:=δ;simp only at gι nZ Gk Co RF gκ Α ⊢;obtain⟨G,zB⟩:=aF (av.map (lO ord last));have il:G.length=av.length:=by rw[zB];exact di av
 rw[<-zB];have sV:(c9 1 (G.map e5)=.sl true 0 []/\bF 77 2 (G.map e5)=[]/\av.length=0)\/(c9 1 (G.map e5)=.ms 1 av.length 0 av.length/\bF 77 2 (G.map e5)=[.cells 77 2 (G.map e5)]/\0<av.length):=by
  by_cases Ψ:G=[]
  ·subst Ψ;exact .inl ⟨rfl,rfl,by simpa using il.symm⟩
  ·have gI:G.map e5≠[]:=by simpa using Ψ
   refine .inr ⟨by rw[hs gI,List.length_map,il],eL gI,?_⟩;have:=List.length_pos_iff.2 Ψ;omega
 repeat apply ae
 refine W.gX (A:=[]) Φ [(35,ba (decide (i<6)&&decide (av.length<n))),(0,.ak 0 1 0 0),(5,.sl true 1 (zz.map ou)),(6,.sl true 1 (xS.map I)),(7,bD I 1 ord),(8,c9 1 (G.map e5)),(9,I n),(10,I i)] (b4 D::bF 77 2 (G.map e5)) ?_ (by
  by_cases hi:i<6
  ·have aH:(i:Int)<6:=J
   rcases sV with⟨Ζ,Ε,a8⟩|⟨Ζ,Ε,a8⟩
   ·rw[Ζ,Ε];(try simp);(repeat (rw[ah];simp[aH,cK,a8,hi]));(try simp[aH,cK,a8,hi])
   ·rw[Ζ,Ε];(try simp);(repeat (rw[ah];simp[aH,cK,il,hi]));(try simp[aH,cK,il,hi])
  ·have hi:i=6:=J
   subst hi;rcases sV with⟨Ζ,Ε,a8⟩|⟨Ζ,Ε,a8⟩
   ·rw[Ζ,Ε];(try simp);(repeat (rw[ah];simp[cK]));(try simp[cK])
   ·rw[Ζ,Ε];(try simp);(repeat (rw[ah];simp[cK]));(try simp[cK]))
 refine W.ey rfl (λε=>?_) (λε=>?_)
 ·simp only[Bool.and_eq_true,decide_eq_true_eq] at ε;obtain⟨hi,RG⟩:=ε;have h0:IntKind.i64.wrap (6-(i:Int))=6-i:=IntWalk.i64_in _ J;have g4:IntKind.i64.wrap ((n:Int)-av.length)=n-av.length:=IntWalk.i64_in _ J;have gZ:IntKind.i64.wrap ((i:Int)+1)=((i+1:Nat):Int):=by rw[IntWalk.i64_in _ J];omega
  repeat apply ae
  have xn:D.bg.length<2 ^ 63:=J
  have uy:=Ks D xn 3 br br;obtain⟨υ,tn⟩:=bG (xI D 3);obtain⟨kS,rF⟩:=bG (D.after (3-1));have RH:kS.bg.length<=d.bg.length:=by rw[<-rF];exact Nat.le_trans (jy _ _) nZ
  rw[tn,rF] at uy;obtain⟨kn,rG⟩:∃x,x=if(n:Int)-av.length<6-i then kS else D:=⟨_,rfl⟩
  have Cp:kn.bg.length<=d.bg.length:=by rw[rG];split<;>assumption
  refine W.gX (A:=[]) Φ [(50,ba (decide ((n:Int)-av.length<6-i)&&υ)),(0,.ak 0 1 0 0),(5,.sl true 1 (zz.map ou)),(6,.sl true 1 (xS.map I)),(7,bD I 1 ord),(8,c9 1 (G.map e5)),(9,I n),(10,I i)] (b4 kn::bF 77 2 (G.map e5)) ?_ (by
   by_cases oJ:(n:Int)-av.length<6-i
   ·rw[if_pos oJ] at rG;rw[rG];rcases sV with⟨Ζ,Ε,a8⟩|⟨Ζ,Ε,a8⟩
    ·rw[Ζ,Ε];rw[a8] at oJ g4;simp only[Int.natCast_zero,Int.sub_zero] at oJ g4;(try simp);(repeat (rw[ah];simp[cK,h0,g4,oJ,a8]));(try simp[cK,h0,g4,oJ,a8]);refine dU.c (uy) 0 rfl (b2.refl _) η η ?_;simp;(repeat (rw[ah];simp));(try simp)
    ·rw[Ζ,Ε];(try simp);(repeat (rw[ah];simp[cK,h0,g4,oJ,il]));(try simp[cK,h0,g4,oJ,il]);refine dU.c (uy) 0 rfl (b2.refl _) η η ?_;simp;(repeat (rw[ah];simp));(try simp)
   ·rw[if_neg oJ] at rG;rw[rG];rcases sV with⟨Ζ,Ε,a8⟩|⟨Ζ,Ε,a8⟩
    ·rw[Ζ,Ε];rw[a8] at oJ g4;simp only[Int.natCast_zero,Int.sub_zero] at oJ g4;(try simp);(repeat (rw[ah];simp[cK,h0,g4,oJ,a8]));(try simp[cK,h0,g4,oJ,a8])
    ·rw[Ζ,Ε];(try simp);(repeat (rw[ah];simp[cK,h0,g4,oJ,il]));(try simp[cK,h0,g4,oJ,il]))
  refine W.ey rfl (λa2=>?_) (λa2=>?_)
  ·simp only[Bool.and_eq_true,decide_eq_true_eq] at a2;refine W.exit rfl ?_;refine aE gZ ?_;refine W.to (Α ⟨i+1,kn,av⟩ ⟨by show i+1<=6;omega,Cp,Gk,λj ζ=>by have:=Co j ζ;show j<i+1;omega,RF,by show n+(i+1)<=6+av.length;omega⟩ (by show 6-(i+1)<6-i;omega)) (by rw[zB]) ?_;rw[<-zB];simp[gZ]
  ·have hy:n+i+1<=6+av.length+1:=J
   obtain⟨k,ψ,Cq,cD⟩:=Cn.get (i:=i) J;obtain⟨cD,_,_⟩:=cD last;have Gl:lO ord last i=⟨od i,km.getD k 0⟩:=by
    obtain⟨al,_,h7,e,_⟩:=Gh Cn last (i:=i) J;rw[Cq] at h7;have sf:al=k:=by have:=Option.some.inj h7;omega
    subst sf;show(⟨od i,(lO ord last i).strokes⟩:mU)=_;rw[e]
   obtain⟨st,np⟩:=bG (km.getD k 0);rw[np] at Gl;rw[np,<-Gj] at cD;have l5:=gζ i hi;have RI:∀h,zz[i]'h=od i:=λh=>by rw[a6 h] at l5;exact Option.some.inj l5
   have RJ:∀h,ord[i]'h=(k:Int):=λh=>by rw[a6 h] at Cq;exact Option.some.inj Cq
   have RK:∀h,xS[k]'h=st:=λh=>by rw[a6 h] at cD;exact Option.some.inj cD
   have yC:=Cn.len
   have vS:(G++[lO ord last i])=(av++[i]).map (lO ord last):=by rw[zB];simp
   repeat apply ae
   have bx:(G++[lO ord last i]).map e5≠[]:=η
   have vG:(⟨i+1,kn,av++[i]⟩:RE).i<=6/\kn.bg.length<=d.bg.length/\(av++[i]).Pairwise (· < ·)/\(∀j∈av++[i],j<i+1)/\(av++[i]).length<=n/\n+(i+1)<=6+(av++[i]).length:=by
    refine⟨hi,Cp,?_,?_,?_,?_⟩
    ·rw[List.pairwise_append];exact⟨Gk,η,λa ν b hb=>by simp at hb;subst hb;exact Co a ν⟩
    ·intro j ζ;rcases List.mem_append.1 ζ with ζ|ζ
     ·have:=Co j ζ;omega
     ·simp at ζ;omega
    ·simp;omega
    ·simp;omega
   rcases sV with⟨Ζ,Ε,a8⟩|⟨Ζ,Ε,a8⟩
   ·rw[Ζ,Ε];refine W.draw (A:=[65]) Φ mixed λΚ κ=>gi (ς cK (ς eC (ς yC (ς l5 (ς RI (ς Cq (ς RJ (ς cD RK)))))))) ?_;refine⟨J,J,J,?_⟩;refine en (κ _ _ ?_);refine aE gZ ?_;have Ψ:G=[]:=dO.1 J;refine W.to (Α ⟨i+1,kn,av++[i]⟩ vG (by show 6-(i+1)<6-i;omega)) ?_ ?_
    ·have e:bF 77 2 (((av++[i]).map (lO ord last)).map e5)=[.cells 77 2 [e5 ⟨od i,st⟩]]:=by rw[<-vS,eL bx,Ψ,Gl];rfl
     simp only[e]
    ·have e:c9 1 (((av++[i]).map (lO ord last)).map e5)=.ms 1 1 0 1:=by rw[<-vS,hs bx,Ψ,Gl];rfl
     simp only[e];simp[gZ]
   ·rw[Ζ,Ε];refine W.draw (A:=[65]) Φ mixed λΚ κ=>gi (ς cK (ς eC (ς yC (ς l5 (ς RI (ς Cq (ς RJ (ς cD (ς RK il))))))))) ?_;refine⟨J,J,J,J,?_⟩;refine en (κ _ _ ?_);refine aE gZ ?_;refine W.to (Α ⟨i+1,kn,av++[i]⟩ vG (by show 6-(i+1)<6-i;omega)) ?_ ?_
    ·have e:bF 77 2 (((av++[i]).map (lO ord last)).map e5)=[.cells 77 2 (G.map e5++[e5 ⟨od i,st⟩])]:=by rw[<-vS,eL bx,List.map_append,Gl];rfl
     simp only[e]
    ·have e:c9 1 (((av++[i]).map (lO ord last)).map e5)=.ms 1 (av.length+1) 0 (av.length+1):=by rw[<-vS,hs bx,List.length_map,List.length_append,il];rfl
     simp only[e];simp[gZ]
 ·have RG:av.length=n:=by
   simp only[Bool.and_eq_false_iff,decide_eq_false_iff_not] at ε;omega
  refine W.exit rfl ?_;rcases sV with⟨Ζ,Ε,a8⟩|⟨Ζ,Ε,a8⟩
  ·omega
  rw[RG] at Ζ il;have RL:qu G:=by rw[zB];exact gε Cn last Gk (λj ζ=>by have:=Co j ζ;omega) J J
  have K8:xS[11]?=some last:=by rw[Gj];rfl
  have gμ:∀h,xS[11]'h=last:=λh=>by rw[a6 h] at K8;exact Option.some.inj K8
  refine W.to (env':=[(0,.ak 0 1 0 0),(6,.sl true 1 (xS.map I)),(8,.ms 1 n 0 n),(9,I n)]) (σ':=[b4 D,.cells 77 2 (G.map e5)]) ?_ (by rw[Ε]) (by rw[Ζ];simp);have gν:IntKind.i64.wrap 11=11:=br;refine aE (ς eC (ς K8 (ς gμ gν))) ?_;refine W.iter (λx:Nat×Bool=>x.1<=n/\(x.2=true->∀g∈G.take x.1,g.strokes≠last)) (λx=>[(0,.ak 0 1 0 0),(8,.ms 1 n 0 n),(11,I last),(12,ba x.2),(13,I x.1)]) (λ_=>[b4 D,.cells 77 2 (G.map e5)]) (λx=>n-x.1) (0,true) ⟨Nat.zero_le _,η⟩ rfl η (λx δ Cr=>?_);obtain⟨j,aD⟩:=x;obtain⟨ζ,hy⟩:=δ;simp only at ζ hy Cr ⊢;refine aE il ?_;refine W.ey rfl (λε=>?_) (λε=>?_)
  ·have fe:j<n:=by simpa using ε
   have K9:G[j]?=some (G[j]'J):=a6 J;obtain⟨g,Ω⟩:=aF (G[j]'J);rw[<-Ω] at K9;have RN:∀h,G[j]'h=g:=λh=>Ω.symm;have gZ:IntKind.i64.wrap ((j:Int)+1)=((j+1:Nat):Int):=by rw[IntWalk.i64_in _ J];omega
   have l6:G.take (j+1)=G.take j++[g]:=by rw[List.take_succ_eq_append_getElem J,Ω]
   repeat apply ae
   refine W.gX (A:=[]) Φ [(0,.ak 0 1 0 0),(8,.ms 1 n 0 n),(11,I last),(12,ba (aD&&decide (g.strokes≠last))),(13,I j)] [b4 D,.cells 77 2 (G.map e5)] ?_ (by
    cases aD
    ·(try simp);(repeat (rw[ah];simp[il]));(try simp[il])
    ·(try simp);(repeat (rw[ah];simp[il,K9,RN]));(try simp[il,K9,RN]);omega)
   refine aE gZ ?_;refine W.to (Cr (j+1,aD&&decide (g.strokes≠last)) ⟨fe,λh=>?_⟩ (by show n-(j+1)<n-j;omega)) rfl (by simp[gZ]);simp only[Bool.and_eq_true,decide_eq_true_eq] at h;intro y Μ;rw[l6] at Μ;rcases List.mem_append.1 Μ with Μ|Μ
   ·exact hy h.1 y Μ
   ·simp at Μ;subst Μ;exact h.2
  ·have fe:j=n:=by simp at ε;omega
   have gξ:aD=true->∀g∈G,g.strokes≠last:=λh=>by
    have:=hy h
    rwa [List.take_of_length_le J] at this
   refine W.exit rfl ?_;have xn:D.bg.length<2 ^ 63:=J;have uy:=Ks D xn 3 br br;obtain⟨υ,tn⟩:=bG (xI D 3);obtain⟨kS,rF⟩:=bG (D.after (3-1));have RH:kS.bg.length<=d.bg.length:=by rw[<-rF];exact Nat.le_trans (jy _ _) nZ
   rw[tn,rF] at uy;obtain⟨kn,rG⟩:=aF (if aD then kS else D);have Cp:kn.bg.length<=d.bg.length:=by rw[rG];split<;>assumption
   repeat apply ae
   refine W.gX (A:=[]) Φ [(92,ba (aD&&υ)),(0,.ak 0 1 0 0),(8,.ms 1 n 0 n),(11,I last)] [b4 kn,.cells 77 2 (G.map e5)] ?_ (by
    cases aD
    ·rw[rG];(try simp);(repeat (rw[ah];simp[il]));(try simp[il])
    ·rw[rG];(try simp);(repeat (rw[ah];simp[il]));(try simp[il]);refine dU.c (uy) 0 rfl (b2.refl _) η η ?_;simp;(repeat (rw[ah];simp));(try simp))
   refine W.ey rfl (λa2=>?_) (λa2=>?_)
   ·simp only[Bool.and_eq_true] at a2;have h0:IntKind.i64.wrap ((n:Int)-1)=n-1:=IntWalk.i64_in _ J;have yn:=qq kn J ((n:Int)-1);obtain⟨t0,t1⟩:=pA kn ((n:Int)-1) J J;obtain⟨k,ψ⟩:∃k:Nat,hN kn ((n:Int)-1)=k:=⟨(hN kn ((n:Int)-1)).toNat,J⟩;obtain⟨zC,Cs⟩:=bG (kn.after ((n:Int)-1));have La:zC.bg.length<=d.bg.length:=by rw[<-Cs];exact Nat.le_trans (jy _ _) Cp
    rw[ψ,Cs] at yn;rw[ψ] at t1;have Gm:k<G.length:=J;have RO:G[k]?=some (G[k]'Gm):=a6 Gm;obtain⟨g,Ω⟩:=aF (G[k]'Gm);rw[<-Ω] at RO;have gο:∀h,G[k]'h=g:=λh=>Ω.symm
    repeat apply ae
    refine W.gX (A:=[]) Φ [(8,.ms 1 n 0 n)] [b4 zC,.cells 77 2 ((G.set k ⟨g.name,last⟩).map e5)] ?_ (by
     (try simp);(repeat (rw[ah];simp[il,h0]));(try simp[il,h0]);refine dU.g (yn) (gh (ς RO (ς gο il)) ?_)
     first|omega|(refine⟨J,?_⟩;simp[List.map_set]))
    refine Η ?_;rw[<-List.map_set];refine W.RD (x:=4) (n:=n) (l:=(G.set k ⟨g.name,last⟩).map e5) (Nat.le_refl _) (by rw[List.length_map];simp[il]) uv ?_ ?_
    ·simp
    exact W.ret ⟨_,rfl,_,zC,.refl _,⟨_,rfl,by rw[Ω];exact RL.set Gm l0 l1 (gξ a2.1),by rw[List.length_set];omega⟩,rfl,La⟩
   ·refine Η ?_;refine W.RD (x:=4) (n:=n) (l:=G.map e5) (Nat.le_refl _) (by rw[List.length_map];simp[il]) uv ?_ ?_
    ·simp
    exact W.ret ⟨_,rfl,_,kn,.refl _,⟨_,rfl,RL,J⟩,rfl,Cp⟩
end Go.TL
namespace Go.TL
open Go.Conc
variable [bq]
inductive sQ (id k:Nat) (l:am):θ->θ->Prop where
 | same (a:θ):sQ id k l a a
 | ms:sQ id k l (.ms id l.length 0 l.length) (.sl false k l)
 | ak {e:θ}:l=[e]->sQ id k l (.ak id 1 0 0) (.au e.cells)
def Ct (id k:Nat) (l:am) (r r':Row):Prop:=r'=r\/∃t n es es',r=.cells t n es/\r'=.cells t n es'/\es'.length=es.length/\
 ∀(i:Nat) (e aP:θ),es[i]?=some e->es'[i]?=some aP->aP.cells.length=e.cells.length/\∀(x:Nat) (a cj:θ),e.cells[x]?=some a->aP.cells[x]?=some cj->sQ id k l a cj
section
variable {P:Program} {S:aO} {B:a0} {H:Γ} {σ σ':ac} {m nt id k:Nat} {t:TypeId} {l:am} {kk:List Item} {env:ab} {Z:be} {E:aq}
def aO.set (S:aO) (B:a0) (H:Γ) (id:Nat):aO:=λb o=>match B[id]? with
 | some (some (df,_))=>if b=df then(H.aS b o).map (·.1) else S b o
 | _=>S b o
theorem RP {b N:Nat} (hb:B[id]?=some (some (b,N))) (o:Nat):S.set B H id b o=(H.aS b o).map (·.1):=by
 unfold aO.set;rw[hb];simp
theorem RQ (Δ:Holds S B σ H) (bX:σ[id]?=some (.cells t k l)):∀b o v,S b o=some v->S.set B H id b o=some v:=λb o v hv=>by
 unfold aO.set;split
 ·rename_i df N hb;split
  ·rename_i e;subst e;rw[Δ.sep id _ b N bX trivial hb o] at hv;cases hv
  ·exact hv
 ·exact hv
theorem b8.vT (Δ:Holds S B σ H) (bX:σ[id]?=some (.cells t k l)) (zD:σ'[id]?=some .dead) (k4:∀j r,j≠id->σ[j]?=some r->∃r',σ'[j]?=some r'/\Ct id k l r r'):b8 S (S.set B H id) B B σ σ':=
 ⟨RQ Δ bX,λj r μ=>by
  by_cases e:j=id
  ·subst e;rw[bX] at μ;cases μ;exact⟨.dead,zD,.inr λn _=>trivial⟩
  ·obtain⟨r',U,γ⟩:=k4 j r e μ;refine⟨r',U,?_⟩;rcases γ with rfl|⟨t,n,es,es',rfl,rfl,ο,_⟩
   ·exact Row.tc _ _
   ·exact .inl ⟨es',rfl,ο,rfl⟩⟩
theorem aA.RR (Δ:Holds S B σ H) (bX:σ[id]?=some (.cells t k l)) (π:b8 S (S.set B H id) B B σ σ') {a cj:θ} (ξ:sQ id k l a cj) {v:Value} (μ:aA S B σ a v):aA (S.set B H id) B σ' cj v:=by
 cases ξ with
 | same=>exact μ.later π
 | ms=>
  cases μ with
  | ms cap aa ai aZ cn gr jm=>
   rw[bX] at aa;cases aa;by_cases Ψ:l=[]
   ·subst Ψ;exact .iT _ _ η
   ·have qS:0<l.length:=List.length_pos_iff.2 Ψ;rcases jm with jm|⟨b,N,rfl,rfl,jm⟩
    ·omega
    ·obtain⟨_,_,_,w,hw⟩:=Δ.row id _ _ bX aZ;rw[Nat.zero_mul];refine .sl b 0 cap (λj x=>w j x) η gr (λj e ζ=>(hw j e ζ).1) (λj e ζ x c δ=>?_) (λj e ζ x c δ=>?_)
     ·have:=((hw j e ζ).2 x c δ).1;rw[RP aZ,Nat.zero_add,this];rfl
     ·exact(((hw j e ζ).2 x c δ).2.1).later π
  | jZ v aa ai=>rw[bX] at aa;cases aa;simp only[Row.hT] at ai;omega
 | @ak e he=>
  subst he;cases μ with
  | ak aa ai aZ=>
   rw[bX] at aa;cases aa;obtain⟨_,_,_,w,hw⟩:=Δ.row id _ _ bX aZ;have ao:=hw 0 e rfl;refine .au _ _ (λx=>w 0 x) (λx a δ=>?_) (λx a δ=>?_)
   ·have:=(ao.2 x a δ).1;rw[RP aZ,Nat.add_zero,this];rfl
   ·exact((ao.2 x a δ).2.1).later π
  | kB v aa ai=>rw[bX] at aa;cases aa;simp[Row.hT] at ai
theorem W.vT (hm:m<=id) (bX:σ[id]?=some (.cells t k l)) (hlen:σ'.length=σ.length) (zD:σ'[id]?=some .dead) (k4:∀j r,j≠id->σ[j]?=some r->∃r',σ'[j]?=some r'/\Ct id k l r r') (env':ab) (cO:∀p∈env',sQ id k l (a' env p.1) p.2)
  (hW:W P m nt kk env' σ' Z E):W P m nt kk env σ Z E:=by
 intro Q mn x cs b S B H bm δ hb ω Ψ he;have Δ:=ω.holds;have π:=b8.vT Δ bX zD k4;have back:∀j r',j≠id->σ'[j]?=some r'->∃r,σ[j]?=some r/\Ct id k l r r':=λj r' ζ h=>by
  have aN:j<σ.length:=by rw[<-hlen];exact(b0.1 h).1
  obtain⟨r2,U,γ⟩:=k4 j _ ζ (a6 aN);rw[h] at U;cases U;exact⟨_,a6 aN,γ⟩
 have live:∀{r r':Row},Ct id k l r r'->r'.live->r.live:=λ{r r'} h hv=>by
  rcases h with rfl|⟨_,_,_,_,rfl,rfl,_⟩
  ·exact hv
  ·trivial
 have jo:Holds (S.set B H id) B σ' H:=by
  refine⟨λb o v h=>?_,by rw[hlen];exact Δ.len,λj r bo μ eJ=>?_,λi j eF cp b gO gP fP hi ζ g5 ek g6 cT=>?_,λj r b N μ fr hb o=>?_⟩
  ·unfold aO.set at h;split at h
   ·split at h
    ·cases ε:H.aS b o with
     | none=>rw[ε] at h;cases h
     | some x=>rw[ε] at h;cases h;exact⟨x.2,rfl⟩
    ·exact Δ.dy b o v h
   ·exact Δ.dy b o v h
  ·by_cases e:j=id
   ·subst e;rw[zD] at μ;cases μ;trivial
   ·obtain⟨r0,U,γ⟩:=back j r e μ;have ο:=Δ.row j r0 bo U eJ;rcases γ with rfl|⟨t2,n,es,es',rfl,rfl,Ι,ax⟩
    ·refine ο.later π (λb N _=>⟨λ_=>rfl,rfl,rfl⟩) λb9 left cur Ε=>?_;subst Ε;obtain⟨_,_,a4,lB,xs,clock,seen,_,e2,⟨es,dq⟩,_⟩:=ο;refine⟨?_,rfl,λb N _=>⟨λ_=>rfl,rfl,rfl⟩⟩;have bx:b9≠id:=λe=>by subst e;rw[bX] at dq;cases dq
     obtain⟨r',dz,p2⟩:=k4 b9 _ bx dq;rcases p2 with rfl|⟨_,_,_,_,p3,_⟩
     ·rw[dz,dq]
     ·cases p3
    ·cases bo with
     | none=>
      have:es=[]:=ο;subst this;exact dO.1 Ι
     | some y=>
      obtain⟨b,N⟩:=y;obtain⟨aa,ai,aZ,w,cn⟩:=ο;refine⟨aa,by rw[Ι];exact ai,aZ,w,λi aP hi=>?_⟩;have aN:i<es.length:=by rw[<-Ι];exact(b0.1 hi).1
      obtain⟨c1,c2⟩:=cn i _ (a6 aN);obtain⟨d1,d2⟩:=ax i _ aP (a6 aN) hi;refine⟨d1.trans c1,λx cj δ=>?_⟩;have o6:x<(es[i]).cells.length:=by rw[<-d1];exact(b0.1 δ).1
      obtain⟨e2,dq,hU⟩:=c2 x _ (a6 o6);exact⟨e2,dq.RR Δ bX π (d2 x _ cj (a6 o6) δ),hU⟩
  ·have RS:∀j r,σ'[j]?=some r->r.live->j≠id:=λj r h hv e=>by subst e;rw[zD] at h;cases h;exact hv
   obtain⟨r1,a1,bb⟩:=back i eF (RS i eF hi g5) hi;obtain⟨r2,bE,c6⟩:=back j cp (RS j cp ζ ek) ζ;exact Δ.inj i j r1 r2 b gO gP fP a1 bE (live bb g5) (live c6 ek) g6 cT
  ·have bx:j≠id:=λe=>by subst e;rw[zD] at μ;cases μ;exact fr
   obtain⟨r1,a1,bb⟩:=back j r bx μ;have ξ:=Δ.sep j r1 b N a1 (live bb fr) hb o;unfold aO.set;split
   ·rename_i df h5 kA;split
    ·rename_i e;subst e;exact(Δ.inj j id r1 _ b N h5 bx a1 bX (live bb fr) trivial hb kA).elim
    ·exact ξ
   ·exact ξ
 have pX:Ext S B H (S.set B H id) B H:=by
  refine⟨RQ Δ bX,λ_ _ _=>og.of ⟨λ_=>rfl,rfl,rfl⟩,λ_ h=>.inl h,λb o v hv=>?_,λ_ h=>h⟩;unfold aO.set at hv;split at hv
  ·rename_i df N kA;split at hv
   ·rename_i e;subst e;exact .inr (.inl ⟨N,cy kA⟩)
   ·exact .inl hv
  ·exact .inl hv
 have ν:ff m S B H σ (S.set B H id) B H σ':=⟨pX,π.left m⟩
 have wY:∀(l2:ab),(∀p∈l2,sQ id k l (a' env p.1) p.2)->∀i,aA S B σ (a' env i) (bm.getD i undef)->aA (S.set B H id) B σ' (a' l2 i) (bm.getD i undef):=by
  intro l2
  induction l2 with
  | nil=>intro _ i _;exact .cz _
  | cons p l2 Α=>
   intro oz i μ;simp only[a'];split
   ·rename_i e;subst e;exact μ.RR Δ bX π (oz p η)
   ·exact Α (λq Χ=>oz q (by simp[Χ])) i μ
 refine hW Q mn x cs b _ _ H bm δ hb ⟨jo,λi=>wY env' cO i (ω.cH i),ω.size,by rw[hlen];exact ω.rows⟩ (λj gS gf c8 e3 bN t2 bT aa ai aZ cn=>?_) (λa gS gf c8 e3 bN t2 bT v aa ai aZ cn gr=>?_)
 ·exact Ψ j gS gf c8 e3 bN t2 bT aa (ν.trans ai) aZ cn
 ·exact he a gS gf c8 e3 bN t2 bT v aa (ν.trans ai) aZ cn gr
end
end Go.TL
namespace Go.TL
open Go.Proofs
variable [bq]
theorem gπ (d:cJ) (n:Nat):(jc d n).1.Pairwise (· < ·)/\∀x∈(jc d n).1,0<=x/\x<n:=by
 induction n with
 | zero=>exact⟨List.Pairwise.nil,λx h=>(by cases h)⟩
 | succ n Α=>
  show((jc d n).1++_).Pairwise _/\∀x∈(jc d n).1++_,_;constructor
  ·rw[List.pairwise_append];refine⟨Α.1,by split<;>simp,λa ν b hb=>?_⟩;have:=Α.2 a ν;split at hb
   ·simp at hb;omega
   ·simp at hb
  ·intro x δ;rcases List.mem_append.1 δ with δ|δ
   ·have:=Α.2 x δ;omega
   ·split at δ
    ·simp at δ;omega
    ·simp at δ
structure xT (L:List (List Int)):Prop where
 lo:1<=L.length
 hi:L.length<=4
 each:∀l∈L,l.length<=3/\l.Pairwise (· < ·)/\∀x∈l,0<=x/\x<3
theorem gρ {l:List Int} (U:l.Pairwise (· < ·)) (γ:∀x∈l,0<=x/\x<3):yV l=0:=by
 refine Cm λx δ=>?_;obtain⟨i,hi,rfl⟩:=List.mem_map.1 δ;have hi:=List.mem_range.1 hi;unfold xj;rw[a6 hi];have ο:=γ _ (List.getElem_mem hi);simp only;rw[if_neg,if_neg]
 ·rintro⟨ao,Ι⟩;rw[a6 J] at Ι;have:=List.pairwise_iff_getElem.1 U (i-1) i J hi J;simp only[Option.getD_some] at Ι;omega
 ·unfold ox;simp;omega
theorem xT.err {L:List (List Int)} (h:xT L):pj L=0:=by
 unfold pj;have U:=h.lo;have γ:=h.hi;rw[if_neg J,if_neg J];refine Cm λx δ=>?_;obtain⟨i,hi,rfl⟩:=List.mem_map.1 δ;have hi:=List.mem_range.1 hi;rw[a6 hi];obtain⟨_,ο,Ι⟩:=h.each _ (List.getElem_mem hi);exact gρ ο Ι
abbrev bK:θ:=.sl true 0 []
structure gς where
 k:Nat
 d:cJ
 L:List (List Int)
theorem zE {L:List (List Int)}:∀e∈L.map (bD I 1),∀a∈e.cells,aG 0 a:=λe he a ν=>by
 obtain⟨x,_,rfl⟩:=List.mem_map.1 he;simp[θ.cells] at ν;subst ν;simp[g7,θ.cells]
theorem gτ (d:cJ) (hd:d.bg.length<2 ^ 63) (gy cells:Nat) (hZ:1<=gy) (zA:gy<=6) (Gn:cells<=4) :
  af Tryz.prog 90 [.ak 0 1 0 0,I gy,I cells] [b4 d] (λa s=>∃G L nc eo,dD a (.a3 [aY G,aX L,c9 4 (List.replicate nc bK)])/\qu G/\xT L/\(nc<=cells/\G.length<=gy/\L.length<=3)/\s=b4 eo::.dead::.dead::.dead::bF 60 1 (List.replicate nc bK)/\eo.bg.length<=d.bg.length) (λ_ _=>False):=by
 refine af.body Φ Tryz.func90 rfl rfl Tryz.ntmps90 rfl rfl η ?_
 repeat apply ae
 refine dj (A:=[6]) Φ λΚ κ=>bp ?_;apply κ
 repeat apply ae
 refine dj (A:=[7]) Φ λΚ κ=>bp ?_;refine vR.c (gη d hd gy hZ zA) 0 rfl (b2.refl _) η (by rintro r ⟨l,rfl,_⟩;exact g7.2 uv) ?_;rintro r d1 ⟨G,rfl,di,Lb⟩ lk;simp;(repeat (rw[ah];simp));apply κ;have Gp:d1.bg.length<2 ^ 63:=J;obtain⟨qI,iy⟩:=zy d1 (a:=1) (b:=3) br br br;obtain⟨nl,tF⟩:∃n:Nat,oI d1 1 3=n:=⟨(oI d1 1 3).toNat,J⟩;rw[tF] at qI iy;obtain⟨d2,j9⟩:=bG (d1.after (IntKind.i64.wrap (3-1)));have Gi:d2.bg.length<=d.bg.length:=by rw[<-j9];exact Nat.le_trans (jy _ _) lk
 have Ρ:=zu d1 Gp 1 3;rw[tF,j9] at Ρ;refine bc λΚ κ=>?_;refine dU.g (Ρ) (bp ?_);apply κ;have Lc:∀L:List (List Int),(c9 3 (L.map (bD I 1))=.sl true 0 []/\bF 29 1 (L.map (bD I 1))=[]/\L=[])\/(c9 3 (L.map (bD I 1))=.ms 3 L.length 0 L.length/\bF 29 1 (L.map (bD I 1))=[.cells 29 1 (L.map (bD I 1))]/\0<L.length):=λL=>by
  by_cases Ψ:L=[]
  ·subst Ψ;exact .inl ⟨rfl,rfl,rfl⟩
  ·have gI:L.map (bD I 1)≠[]:=by simpa using Ψ
   exact .inr ⟨by rw[hs gI,List.length_map],eL gI,List.length_pos_iff.2 Ψ⟩
 repeat apply ae
 refine W.iter (λx:gς=>x.L.length+x.k=nl/\x.d.bg.length<=d.bg.length/\∀l∈x.L,l.length<=3/\l.Pairwise (· < ·)/\∀y∈l,0<=y/\y<3)
  (λx=>[(0,.ak 0 1 0 0),(2,I cells),(6,.ak 1 1 0 0),(7,.ak 2 1 0 0),(8,I x.k)])
  (λx=>b4 x.d::ez bK bK bK::ez (aY G) (c9 3 (x.L.map (bD I 1))) bK::bF 29 1 (x.L.map (bD I 1))) (λx=>x.k) ⟨nl,d2,[]⟩ ⟨η,Gi,η⟩ rfl η (λx δ Α=>?_)
 obtain⟨k,D,L⟩:=x;obtain⟨ψ,nZ,ad⟩:=δ;simp only at ψ nZ ad Α ⊢;refine Η ?_;refine W.ey rfl (λε=>?_) (λε=>?_)
 ·have kj:0<k:=by simpa using ε
  obtain⟨j,ζ⟩:∃j,k=j+1:=⟨k-1,J⟩;have hw:IntKind.i64.wrap ((k:Int)-1)=j:=by rw[IntWalk.i64_in _ J];omega
  have hi:=eΚ D J
  have ν:=gπ D 3
  have Ld:=Rg D 3
  have E7:=Rf D 3;obtain⟨l,π⟩:=bG ((jc D 3).1);obtain⟨kS,rF⟩:=bG ((jc D 3).2);rw[π,rF] at hi;rw[π] at ν Ld;rw[rF] at E7;have vG:(L++[l]).length+j=nl/\kS.bg.length<=d.bg.length/\∀x∈L++[l],x.length<=3/\x.Pairwise (· < ·)/\∀y∈x,0<=y/\y<3:=by
   refine⟨by simp;omega,J,λx δ=>?_⟩;rcases List.mem_append.1 δ with δ|δ
   ·exact ad x δ
   ·simp at δ;subst δ;exact⟨Ld,ν.1,ν.2⟩
  have bx:(L++[l]).map (bD I 1)≠[]:=η
  repeat apply ae
  rcases Lc L with⟨Ζ,Ε,a8⟩|⟨Ζ,Ε,a8⟩
  ·rw[Ζ,Ε];refine W.Kq (A:=[25]) Φ mixed λΚ κ=>?_;simp;(repeat (rw[m8];simp));(try rw[m7]);refine dU.h (hi) (zt ?_);refine⟨hX (by kernel_rfl),hX (by kernel_rfl),κ _ _ ?_⟩;refine aE hw ?_;subst a8;refine W.to (Α ⟨j,kS,[]++[l]⟩ vG (by show j<k;omega)) ?_ ?_
   ·have e:c9 3 (([]++[l]).map (bD I 1))=.ms 3 1 0 1:=rfl
    have aP:bF 29 1 (([]++[l]).map (bD I 1))=[.cells 29 1 [bD I 1 l]]:=rfl;simp only[e,aP]
   ·simp
  ·rw[Ζ,Ε];refine W.Kq (A:=[25]) Φ mixed λΚ κ=>?_;simp;(repeat (rw[m8];simp));(try rw[m7]);refine dU.h (hi) (zt ?_);refine⟨J,?_⟩;refine⟨hX (by kernel_rfl),hX (by kernel_rfl),κ _ _ ?_⟩;refine aE hw ?_;refine W.to (Α ⟨j,kS,L++[l]⟩ vG (by show j<k;omega)) ?_ ?_
   ·have e:c9 3 ((L++[l]).map (bD I 1))=.ms 3 (L.length+1) 0 (L.length+1):=by rw[hs bx,List.length_map,List.length_append];rfl
    have aP:bF 29 1 ((L++[l]).map (bD I 1))=[.cells 29 1 (L.map (bD I 1)++[bD I 1 l])]:=by rw[eL bx,List.map_append];rfl
    simp only[e,aP]
   ·simp
 ·have kj:k=0:=by simp at ε;omega
  subst kj;have kM:L.length=nl:=J;have gυ:xT L:=⟨J,J,ad⟩;rcases Lc L with⟨Ζ,Ε,a8⟩|⟨Ζ,Ε,a8⟩
  ·subst a8;simp at kM;omega
  refine W.to (env':=[(0,.ak 0 1 0 0),(2,I cells),(6,.ak 1 1 0 0),(7,.ak 2 1 0 0)]) (σ':=[b4 D,ez bK bK bK,ez (aY G) (.ms 3 L.length 0 L.length) bK,.cells 29 1 (L.map (bD I 1))]) ?_ (by rw[Ζ,Ε]) η;clear Α ε Lc Ζ Ε;refine W.exit rfl ?_;have xn:D.bg.length<2 ^ 63:=J;obtain⟨dZ,d'⟩:=zy D (a:=0) (b:=cells) J br J;obtain⟨nc,kD⟩:∃n:Nat,oI D 0 cells=n:=⟨(oI D 0 cells).toNat,J⟩;rw[kD] at dZ d';obtain⟨d3,uw⟩:=bG (D.after (IntKind.i64.wrap ((cells:Int)-0)));have K7:d3.bg.length<=d.bg.length:=by rw[<-uw];exact Nat.le_trans (jy _ _) nZ
  have Ρ:=zu D xn 0 cells;rw[kD,uw] at Ρ;refine bc λΚ κ=>?_;refine dU.g (Ρ) (bp ?_);apply κ
  repeat apply ae
  refine W.iter (λx:Nat×Nat=>x.1+x.2=nc)
   (λx=>[(0,.ak 0 1 0 0),(6,.ak 1 1 0 0),(7,.ak 2 1 0 0),(9,I x.1)])
   (λx=>b4 d3::ez bK bK bK::ez (aY G) (.ms 3 L.length 0 L.length) (c9 4 (List.replicate x.2 bK))::.cells 29 1 (L.map (bD I 1))::bF 60 1 (List.replicate x.2 bK)) (λx=>x.1) (nc,0) η rfl η (λx δ Α=>?_)
  obtain⟨k,c⟩:=x;simp only at δ Α ⊢;refine Η ?_;refine W.ey rfl (λε=>?_) (λε=>?_)
  ·have kj:0<k:=by simpa using ε
   obtain⟨j,ζ⟩:∃j,k=j+1:=⟨k-1,J⟩;have hw:IntKind.i64.wrap ((k:Int)-1)=j:=by rw[IntWalk.i64_in _ J];omega
   have H3:c9 4 (List.replicate (c+1) bK)=.ms 4 (c+1) 0 (c+1):=by rw[hs η,List.length_replicate]
   have Bm:bF 60 1 (List.replicate (c+1) bK)=[.cells 60 1 (List.replicate c bK++[bK])]:=by rw[eL η,List.replicate_succ']
   repeat apply ae
   by_cases Ψ:c=0
   ·subst Ψ;have qP:c9 4 (List.replicate 0 bK)=bK:=rfl;have u2:bF 60 1 (List.replicate 0 bK)=[]:=rfl;rw[qP,u2];refine dj (A:=[37]) Φ λΚ κ=>bp ?_;apply κ;refine aE hw ?_;refine W.to (Α (j,1) (by show j+1=nc;omega) (by show j<k;omega)) ?_ ?_
    ·simp only[H3,Bm];rfl
    ·simp
   ·have qP:c9 4 (List.replicate c bK)=.ms 4 c 0 c:=by rw[hs (by simp[Ψ]),List.length_replicate]
    have u2:bF 60 1 (List.replicate c bK)=[.cells 60 1 (List.replicate c bK)]:=eL (by simp[Ψ]);rw[qP,u2];refine dj (A:=[37]) Φ λΚ κ=>bp ?_;refine⟨J,?_⟩;apply κ;refine aE hw ?_;refine W.to (Α (j,c+1) (by show j+(c+1)=nc;omega) (by show j<k;omega)) ?_ ?_
    ·simp only[H3,Bm]
    ·simp
  ·have kj:k=0:=by simp at ε;omega
   have pO:c=nc:=J;subst pO;refine W.exit rfl ?_;obtain⟨C,hC⟩:=aF (c9 4 (List.replicate c bK));obtain⟨RC,Gq⟩:=aF (bF 60 1 (List.replicate c bK));rw[<-hC,<-Gq];have gφ:(C=bK/\RC=[])\/(C=.ms 4 c 0 c/\RC=[.cells 60 1 (List.replicate c bK)]):=by
    by_cases Ψ:c=0
    ·subst Ψ;exact .inl ⟨hC,Gq⟩
    ·exact .inr ⟨by rw[hC,hs (by simp[Ψ]),List.length_replicate],by rw[Gq,eL (by simp[Ψ])]⟩
   repeat apply ae
   refine W.gX (A:=[]) Φ [(6,.ak 1 1 0 0)] (b4 d3::ez (aY G) (.ms 3 L.length 0 L.length) C::ez (aY G) (.ms 3 L.length 0 L.length) C::.cells 29 1 (L.map (bD I 1))::RC) ?_ (by
    rcases gφ with⟨Ζ,Ε⟩|⟨Ζ,Ε⟩
    ·rw[Ζ,Ε];(try simp);(repeat (rw[ah];simp));(try simp)
    ·rw[Ζ,Ε];(try simp);(repeat (rw[ah];simp));(try simp))
   have s7:sQ 3 1 (L.map (bD I 1)) (.ms 3 L.length 0 L.length) (aX L):=by
    have:=sQ.ms (id:=3) (k:=1) (l:=L.map (bD I 1))
    rwa [List.length_map] at this
   have cv:Ct 3 1 (L.map (bD I 1)) (ez (aY G) (.ms 3 L.length 0 L.length) C) (ez (aY G) (aX L) C):=by
    refine .inr ⟨26,3,_,_,rfl,rfl,rfl,λi e aP U γ=>?_⟩
    match i with
    | 0=>
     simp at U γ;subst U;subst γ;refine⟨rfl,λx a cj ο Ι=>?_⟩
     match x with
     | 0=>simp[θ.cells] at ο Ι;subst ο;subst Ι;exact .same _
     | 1=>simp[θ.cells] at ο Ι;subst ο;subst Ι;exact s7
     | 2=>simp[θ.cells] at ο Ι;subst ο;subst Ι;exact .same _
     | x+3=>simp[θ.cells] at ο
    | i+1=>simp at U
   refine W.vT (σ':=b4 d3::ez (aY G) (aX L) C::ez (aY G) (aX L) C::.dead::RC) (id:=3) η rfl rfl rfl (λj r ζ μ=>?_) [(6,.ak 1 1 0 0)] (λp ω=>by simp at ω;subst ω;exact .same _) ?_
   ·match j,ζ,μ with
    | 0,_,μ=>simp at μ;subst μ;exact⟨_,rfl,.inl rfl⟩
    | 1,_,μ=>simp at μ;subst μ;exact⟨_,rfl,cv⟩
    | 2,_,μ=>simp at μ;subst μ;exact⟨_,rfl,cv⟩
    | 3,h,_=>exact absurd rfl h
    | j+4,_,μ=>exact⟨r,μ,.inl rfl⟩
   refine W.vT (σ':=b4 d3::ez (aY G) (aX L) C::.dead::.dead::RC) (id:=2) η rfl rfl rfl (λj r ζ μ=>?_) [(6,.ak 1 1 0 0)] (λp ω=>by simp at ω;subst ω;exact .same _) ?_
   ·match j,ζ,μ with
    | 0,_,μ=>exact⟨r,μ,.inl rfl⟩
    | 1,_,μ=>exact⟨r,μ,.inl rfl⟩
    | 2,h,_=>exact absurd rfl h
    | j+3,_,μ=>exact⟨r,μ,.inl rfl⟩
   refine W.vT (σ':=b4 d3::.dead::.dead::.dead::RC) (id:=1) η rfl rfl rfl (λj r ζ μ=>?_) [(6,.au [aY G,aX L,C])] (λp ω=>by simp at ω;subst ω;exact .ak (e:=.a3 [aY G,aX L,C]) rfl) ?_
   ·match j,ζ,μ with
    | 0,_,μ=>exact⟨r,μ,.inl rfl⟩
    | 1,h,_=>exact absurd rfl h
    | j+2,_,μ=>exact⟨r,μ,.inl rfl⟩
   refine W.ret ⟨_,rfl,?_⟩;refine⟨G,L,c,d3,?_,di,gυ,⟨J,Lb,J⟩,by rw[Gq],K7⟩;rw[<-hC];exact .refl _
theorem gχ:∀a<64,∀b<64,0<=eG .i64 (a:Nat) (b:Nat)/\eG .i64 (a:Nat) (b:Nat)<=63/\0<=eP .i64 (a:Nat) (b:Nat)/\eP .i64 (a:Nat) (b:Nat)<=63/\eG .i64 (b:Nat) (eP .i64 (a:Nat) (b:Nat))=0:=by decide +kernel
theorem zF {a b:Int} (ν:0<=a/\a<=63) (hb:0<=b/\b<=63):(0<=eG .i64 a b/\eG .i64 a b<=63)/\(0<=eP .i64 a b/\eP .i64 a b<=63)/\eG .i64 b (eP .i64 a b)=0:=by
 obtain⟨x,rfl⟩:∃x:Nat,a=x:=⟨a.toNat,J⟩;obtain⟨y,rfl⟩:∃y:Nat,b=y:=⟨b.toNat,J⟩;obtain⟨U,γ,ο,Ι,ax⟩:=gχ x J y J;exact⟨⟨U,γ⟩,⟨ο,Ι⟩,ax⟩
structure oK (n:Nat) (c:List cZ):Prop where
 hi:c.length<=4
 apart:(c.map (·.cd)).Nodup
 each:∀p∈c,(0<=p.cd/\p.cd<n)/\(0<=p.seen/\p.seen<=63)/\(0<=p.bare/\p.bare<=63)/\ow p.seen p.bare=0
theorem gψ:∀(n:Nat) (l:List Int),l.Nodup->(∀x∈l,0<=x/\x<n)->l.length<=n:=by
 intro n
 induction n with
 | zero=>
  intro l _ h;cases l with
  | nil=>simp
  | cons x l=>have:=h x η;omega
 | succ n Α=>
  intro l hd h;have U:=Α (l.erase n) (hd.erase _) λx δ=>by
   have δ:=hd.mem_erase_iff.1 δ
   have:=h x δ.2;omega
  rw[List.length_erase] at U;split at U<;>omega
theorem oK.nM {n:Nat} {c:List cZ} (h:oK n c):c.length<=n:=by
 have:=gψ n (c.map (·.cd)) h.apart λx δ=>by
  obtain⟨p,ω,rfl⟩:=List.mem_map.1 δ;exact(h.each p ω).1
 simpa using this
structure je (s:aU):Prop where
 ar:qu s.ar
 az:xT s.az
 many:s.cells.length<=4
 cells:∀c∈s.cells,oK s.az.length c
theorem oK.err {s:aU} {c:List cZ} (h:oK s.az.length c):q9 s c=0:=by
 unfold q9;have:=h.hi;rw[if_neg J];refine Cm λx δ=>?_;obtain⟨i,hi,rfl⟩:=List.mem_map.1 δ;have hi:=List.mem_range.1 hi;rw[a6 hi];obtain⟨U,γ,ο,Ι⟩:=h.each _ (List.getElem_mem hi);simp only;unfold js;rw[if_neg J,if_neg,if_neg (by unfold valid;simp;omega),if_pos Ι];intro ν;obtain⟨y,Μ,he⟩:=List.any_eq_true.1 ν;obtain⟨j,ζ,rfl⟩:=List.mem_take_iff_getElem.1 Μ;have hd:=List.pairwise_iff_getElem.1 h.apart j i (by simp;omega) (by simpa using hi) J;simp at he hd;exact hd he
theorem je.err {s:aU} (h:je s):s.err=0:=by
 unfold aU.err;rw[h.ar.err,h.az.err,if_neg η,if_neg η];unfold tM;have:=h.many;rw[if_neg J];refine Cm λx δ=>?_;obtain⟨i,hi,rfl⟩:=List.mem_map.1 δ;have hi:=List.mem_range.1 hi;rw[a6 hi];exact(h.cells _ (List.getElem_mem hi)).err
theorem je.small {s:aU} (h:je s):s.small:=by
 have U:=h.ar.hi
 have γ:=h.az.hi
 have ο:=h.many;refine⟨J,J,J,λx δ=>?_,λx δ=>?_⟩
 ·have:=(h.az.each x δ).1;omega
 ·have:=(h.cells x δ).hi;omega
theorem gω (d:cJ) (hd:d.bg.length<2 ^ 63) (gy cells:Nat) (hZ:1<=gy) (zA:gy<=6) (Gn:cells<=4) {σ:ac} {K E:θ->ac->Prop} (ao:σ[0]?=some (b4 d))
  (κ:∀G L nc eo,qu G->xT L->nc<=cells/\G.length<=gy/\L.length<=3->eo.bg.length<=d.bg.length->K (.a3 [aY G,aX L,c9 (σ.length+3) (List.replicate nc bK)]) (σ.set 0 (b4 eo)++(.dead::.dead::.dead::bF 60 1 (List.replicate nc bK)))) :
  hV Tryz.prog (.fn (.func 90) [] []) [.ak 0 1 0 0,I gy,I cells] σ K E:=by
 have ω:∀nc,∀r∈bF 60 1 (List.replicate nc bK),A9 r:=λnc r μ=>by
  unfold bF at μ;split at μ
  ·cases μ
  ·simp at μ;subst μ;refine .inl λe he a ν=>?_;have:=List.eq_of_mem_replicate he;subst this;simp[θ.cells] at ν;subst ν;simp[g7]
 have U:=af.nG (gτ d hd gy cells hZ zA Gn) (b2.refl _) (K':=λa s=>∃G L nc eo,a=.a3 [aY G,aX L,c9 4 (List.replicate nc bK)]/\qu G/\xT L/\(nc<=cells/\G.length<=gy/\L.length<=3)/\s=b4 eo::.dead::.dead::.dead::bF 60 1 (List.replicate nc bK)/\eo.bg.length<=d.bg.length) (λa s ⟨G,L,nc,eo,U,γ⟩=>⟨_,U,G,L,nc,eo,rfl,γ⟩)
 have a5:=af.Om (σ:=σ) U [0] η rfl (λj i ζ=>by
  cases j with
  | zero=>simp at ζ;subst ζ;exact ao
  | succ j=>simp at ζ) (λr μ=>by simp at μ;subst μ;exact qp d) (by
   intro a ν;simp at ν;rcases ν with rfl|rfl|rfl
   ·exact Nat.zero_lt_one
   ·exact(aG.z _).jN 1
   ·exact(aG.z _).jN 1) (K':=K) (E':=E) (λa s=>by
   rintro⟨G,L,nc,eo,rfl,aa,ai,aZ,rfl,cn⟩;refine⟨λr μ=>?_,?_,?_⟩
   ·simp only[List.mem_cons] at μ;rcases μ with rfl|rfl|rfl|rfl|μ
    ·exact .inl (qp eo)
    ·exact .inr rfl
    ·exact .inr rfl
    ·exact .inr rfl
    ·exact ω nc r μ
   ·intro a ν;simp only[List.mem_cons,List.not_mem_nil,or_false] at ν;rcases ν with rfl|rfl|rfl
    ·exact aG.top (g7.2 uv) _
    ·exact aG.top (g7.2 zE) _
    ·unfold c9 bF;split
     ·exact aG.top η _
     ·show 4<_;simp
   ·have Ζ:tE σ [0] (b4 eo::.dead::.dead::.dead::bF 60 1 (List.replicate nc bK))=σ.set 0 (b4 eo)++(.dead::.dead::.dead::bF 60 1 (List.replicate nc bK)):=by
     simp[tE,jL]
    have Ε:eg (names [0] σ.length (b4 eo::.dead::.dead::.dead::bF 60 1 (List.replicate nc bK))) (.a3 [aY G,aX L,c9 4 (List.replicate nc bK)])=.a3 [aY G,aX L,c9 (σ.length+3) (List.replicate nc bK)]:=by
     by_cases Ψ:nc=0
     ·subst Ψ;rfl
     ·rw[hs (by simp[Ψ]),hs (by simp[Ψ]),eL (by simp[Ψ])];show θ.a3 [_,_,_]=_;simp[hF,names,List.range_succ]
    rw[Ζ,Ε];exact κ G L nc eo aa ai aZ cn) (λa s h=>h.elim)
 exact af.call (first:=[]) (captured:=[]) (by simpa[pe,eg,hF] using a5)
theorem gΑ:∀a<64,∀b<64,(eP .i64 (a:Nat) (b:Nat)=0↔eG .i64 (b:Nat) (a:Nat)=(a:Nat))/\0<=fB .i64 (a:Nat) (b:Nat)/\fB .i64 (a:Nat) (b:Nat)<=63:=by decide +kernel
theorem Le {a b:Int} (ν:0<=a/\a<=63) (hb:0<=b/\b<=63):(eP .i64 a b=0↔eG .i64 b a=a)/\0<=fB .i64 a b/\fB .i64 a b<=63:=by
 obtain⟨x,rfl⟩:∃x:Nat,a=x:=⟨a.toNat,J⟩;obtain⟨y,rfl⟩:∃y:Nat,b=y:=⟨b.toNat,J⟩;exact gΑ x J y J
theorem Lf {s:aU} (h:je s) {g:Int}:0<=s.of g/\s.of g<=63:=by
 unfold aU.of;split
 ·omega
 ·cases Ω:s.ar[g.toNat]? with
  | none=>simp
  | some x=>
   obtain⟨_,a,b⟩:=h.ar.each x (cy Ω);simp;omega
theorem RU {s:aU} (h:je s) (p r:Int×Int) (n:Nat):0<=s.gv p r n/\s.gv p r n<=63:=by
 have a:∀g,0<=pZ 0 (s.of g)/\pZ 0 (s.of g)<=63:=λg=>(Le (a:=0) J (Lf h)).2
 have z:(0:Int)<=0/\(0:Int)<=63:=J;unfold aU.gv;simp only;split
 ·split
  ·exact(Le (a r.1) (Lf h)).2
  ·exact(Le z (Lf h)).2
 ·split
  ·exact a r.1
  ·exact z
abbrev Ε (r:Int×Int):θ:=gw [r.1,r.2]
theorem RV {L:List (Int×Int)}:∀e∈L.map Ε,∀a∈e.cells,aG 0 a:=λe he a ν=>by
 obtain⟨x,_,rfl⟩:=List.mem_map.1 he;simp[θ.cells] at ν;subst ν;simp
theorem gΒ (q:Int×Int->Bool) (n i j:Nat):(lL q n i j).length<=i*(n+1)+j:=by
 have h:(pn n i).length=i*(n+1):=by
  induction i with
  | zero=>simp[pn]
  | succ i Α=>rw[Jd,List.length_append,Α,Nat.succ_mul];simp[mZ]
 unfold lL;refine Nat.le_trans (List.length_filter_le _ _) ?_;rw[List.length_append,h];simp[mZ]
abbrev Lg (l:List (Int×Int)):List (List Int):=l.map λr=>[r.1,r.2]
end Go.TL
namespace Go.TL
open Go.Conc Go.Proofs
variable [bq]
end Go.TL
namespace Go.TL
open Go.Proofs
variable [bq]
section
variable {P:Program} {T:bk} {A:List Nat} {m nt:Nat} {k:List Item} {env:ab} {σ:ac} {Z:be} {E:aq}
theorem W.gΓ (Ν:bU P T) (env':ab) (σ':ac) {ops:Array Oper} {l:List Nat} (h:W P m nt k env' σ' Z E) (μ:run P T A nt ops l env σ (λe s=>W P m nt k env' σ' Z E->W P m nt k e s Z E) E):W P m nt (.inRegion ops l::k) env σ Z E:=by
 have:=IA (m:=m) (k:=k) (Z:=Z) Ν [] l env σ (EA (λe s f=>W.bL (f h)) _ _ _ μ);simpa using this
end
def oL (l:List cZ):θ:=hg 3 (l.map dX)
def bH (done:List (List cZ)) (nc:Nat):am:=done.map oL++List.replicate (nc-done.length) bK
theorem gΔ (nc:Nat):bH [] nc=List.replicate nc bK:=by simp[bH]
theorem xU {done:List (List cZ)} {nc:Nat} (h:done.length<=nc):(bH done nc).length=nc:=by simp[bH];omega
theorem gΕ {done:List (List cZ)}:bH done done.length=done.map oL:=by simp[bH]
theorem gΖ {done:List (List cZ)} {nc:Nat} (h:done.length<nc):(bH done nc)[done.length]?=some bK:=by
 unfold bH;rw[gA η,List.length_map,Nat.sub_self,List.getElem?_replicate,if_pos J]
theorem gΗ {done:List (List cZ)} {nc:Nat} (h:done.length<nc) (aQ:List cZ):(bH done nc).set done.length (oL aQ)=bH (done++[aQ]) nc:=by
 unfold bH;obtain⟨r,μ⟩:∃r,nc-done.length=r+1:=⟨nc-done.length-1,J⟩;have e:nc-(done++[aQ]).length=r:=by simp;omega
 rw[μ,e,List.replicate_succ,List.set_append_right _ _ η,List.length_map,Nat.sub_self,List.set_cons_zero,List.map_append,List.append_assoc];rfl
theorem RX (l:List cZ):aG 0 (oL l):=by
 unfold oL hg;split
 ·simp
 ·refine g7.2 λe he a ν=>?_;obtain⟨x,_,rfl⟩:=List.mem_map.1 he;simp[θ.cells] at ν;rcases ν with rfl|rfl|rfl<;>exact .z _
theorem RY (l:List cZ):(oL l).cells=[oL l]:=by
 unfold oL hg;split<;>rfl
theorem Lh {done:List (List cZ)} {nc:Nat}:∀e∈bH done nc,e.cells=[e]/\aG 0 e:=λe he=>by
 unfold bH at he;rcases List.mem_append.1 he with he|he
 ·obtain⟨x,_,rfl⟩:=List.mem_map.1 he;exact⟨RY x,RX x⟩
 ·have:=List.eq_of_mem_replicate he;subst this;exact⟨rfl,η⟩
structure gΘ where
 k:Nat
 d:cJ
 aQ:List cZ
theorem RZ (s:aU) (g:Int) (Ω:g<s.ar.length) (σ:ac) (id m:Nat) (X:am) (jR:X.length=m) (pN:σ[id]?=some (.cells 60 1 X)):af Tryz.prog 130 [.a3 [aY s.ar,aX s.az,.ms id m 0 m],I g] σ (λa r=>a=I (s.of g)/\r=σ) (λ_ _=>False):=by
 refine af.body Φ Tryz.func130 rfl rfl Tryz.ntmps130 rfl rfl η ?_;refine aE (ς pN jR) ?_;refine W.ey rfl (λε=>?_) (λε=>?_)
 ·have ε:g<0:=by simpa using ε
  refine Η ?_;refine W.ret ⟨_,rfl,?_,rfl⟩;show I 0=_;simp[aU.of,ε]
 ·have ε:¬g<0:=by simpa using ε
  obtain⟨n,rfl⟩:∃n:Nat,g=n:=⟨g.toNat,J⟩;have Θ:n<s.ar.length:=J;refine aE Θ ?_;refine W.ret ⟨_,rfl,?_,rfl⟩;show I s.ar[n].strokes=_;simp[aU.of,Θ];intro h;omega
theorem gΙ (s:aU) (p r:Int×Int) (n:Nat) (Θ:n<s.az.length) (π:∀x∈s.az,x.length<2 ^ 62) (U:r.1<s.ar.length) (γ:r.2<s.ar.length) (σ:ac) (id m:Nat) (X:am) (jR:X.length=m) (pN:σ[id]?=some (.cells 60 1 X)) :
  af Tryz.prog 91 [.a3 [aY s.ar,aX s.az,.ms id m 0 m],bD I 1 [p.1,p.2],bD I 1 [r.1,r.2],I n] σ (λa r2=>a=I (s.gv p r n)/\r2=σ) (λ_ _=>False):=by
 have Cu:=a6 Θ
 have jI:=π _ (List.getElem_mem Θ);obtain⟨l,π⟩:=aF (s.az[n]);rw[<-π] at Cu jI;have Li:∀h,s.az[n]'h=l:=λh=>π.symm;have hv:s.gv p r n=if l.contains p.2 then pZ (if l.contains p.1 then pZ 0 (s.of r.1) else 0) (s.of r.2) else if l.contains p.1 then pZ 0 (s.of r.1) else 0:=by
  unfold aU.gv;rw[Cu];rfl
 rw[hv];have bz:∀x:Int,(0<=(if x∈l then((l.idxOf x:Nat):Int) else -1))↔x∈l:=λx=>by
  by_cases h:x∈l
  ·simp[h]
  ·simp[h]
 have s1:=RZ s r.1 U σ id m X jR pN
 have s2:=RZ s r.2 γ σ id m X jR pN;generalize s.of r.1=dR at s1 ⊢;generalize s.of r.2=iO at s2 ⊢;refine af.body Φ Tryz.func91 rfl rfl Tryz.ntmps91 rfl rfl η ?_;refine aE (ς pN jR) ?_;refine W.draw (A:=[]) Φ mixed λΚ κ=>gi (ς Θ (ς Cu Li)) ?_;refine eD (aB.p (IX l p.1 jI) (b2.refl _) η η) ?_;simp[bz];(repeat (rw[cY];simp[bz]));try rw[cX]
 refine en (κ _ _ ?_);by_cases c1:p.1∈l
 ·refine aC (by simp[c1]) ?_;have Ζ:l.contains p.1=true:=by simpa using c1
  rw[if_pos Ζ]
  repeat apply ae
  refine W.draw (A:=[]) Φ mixed λΚ κ=>gi (ς pN jR) ?_;refine EL (af.call (first:=[]) (captured:=[]) s1) ?_;simp;(repeat (rw[cY];simp));try rw[cX]
  refine en (κ _ _ ?_)
  repeat apply ae
  refine W.draw (A:=[]) Φ mixed λΚ κ=>gi (ς Θ (ς Cu Li)) ?_;refine eD (aB.p (IX l p.2 jI) (b2.refl _) η η) ?_;simp[bz];(repeat (rw[cY];simp[bz]));try rw[cX]
  refine en (κ _ _ ?_);by_cases c2:p.2∈l
  ·refine aC (by simp[c2]) ?_;have Ε:l.contains p.2=true:=by simpa using c2
   rw[if_pos Ε]
   repeat apply ae
   refine W.draw (A:=[]) Φ mixed λΚ κ=>gi (ς pN jR) ?_;refine EL (af.call (first:=[]) (captured:=[]) s2) ?_;simp;(repeat (rw[cY];simp));try rw[cX]
   refine en (κ _ _ ?_);refine Η ?_;exact W.ret ⟨_,rfl,rfl,rfl⟩
  ·refine ay (by simp[c2]) ?_;have Ε:¬l.contains p.2=true:=by simpa using c2
   rw[if_neg Ε];refine Η ?_;exact W.ret ⟨_,rfl,rfl,rfl⟩
 ·refine ay (by simp[c1]) ?_;have Ζ:¬l.contains p.1=true:=by simpa using c1
  rw[if_neg Ζ]
  repeat apply ae
  refine W.draw (A:=[]) Φ mixed λΚ κ=>gi (ς Θ (ς Cu Li)) ?_;refine eD (aB.p (IX l p.2 jI) (b2.refl _) η η) ?_;simp[bz];(repeat (rw[cY];simp[bz]));try rw[cX]
  refine en (κ _ _ ?_);by_cases c2:p.2∈l
  ·refine aC (by simp[c2]) ?_;have Ε:l.contains p.2=true:=by simpa using c2
   rw[if_pos Ε]
   repeat apply ae
   refine W.draw (A:=[]) Φ mixed λΚ κ=>gi (ς pN jR) ?_;refine EL (af.call (first:=[]) (captured:=[]) s2) ?_;simp;(repeat (rw[cY];simp));try rw[cX]
   refine en (κ _ _ ?_);refine Η ?_;exact W.ret ⟨_,rfl,rfl,rfl⟩
  ·refine ay (by simp[c2]) ?_;have Ε:¬l.contains p.2=true:=by simpa using c2
   rw[if_neg Ε];refine Η ?_;exact W.ret ⟨_,rfl,rfl,rfl⟩
theorem Lj {s:aU} (h:je s) (p:Int×Int) (c:Nat):(hH s p c).length<=49:=by
 have U:=gΒ (λr=>s.p1 p r c) s.ar.length (s.ar.length+1) 0;rw[OV] at U;have γ:=h.ar.hi;have ο:(s.ar.length+1)*(s.ar.length+1)<=7*7:=Nat.mul_le_mul J J;unfold hH;omega
theorem gΚ {l:List (List (Int×Int))} (h:∀c∈l,c.length<=49) (ha:Int) (i:Nat):hG l ha i<=49 ^ i:=by
 induction i with
 | zero=>simp[hG]
 | succ i Α=>
  rw[E1,Nat.pow_succ];refine Nat.mul_le_mul Α ?_;split
  ·omega
  ·cases ε:l[i]? with
   | none=>simp
   | some c=>simpa using h c (cy ε)
theorem Lk {s:aU} (h:je s) (p:Int×Int):∀c∈(e8 s p).cells,c.length<=49:=λc ε=>by
 obtain⟨i,_,rfl⟩:=List.mem_map.1 ε;exact Lj h p i
theorem Ll {s:aU} (h:je s) (p:Int×Int) (ha:Int) {i:Nat} (hi:i<=s.cells.length):hG (e8 s p).cells ha i<=5764801:=by
 have:=h.many;exact Nat.le_trans (gΚ (Lk h p) ha i) (Nat.le_trans (Nat.pow_le_pow_right br (show i<=4 by omega)) br)
theorem gΜ {s:aU} (h:je s):Km 49 s where
 small:=h.small
 ar:=by have:=h.ar.hi;omega
 lit c ε x δ:=((h.cells c ε).each x δ).1
 reads k _ c _:=Lj h _ c
 many k _ i hi:=by have:=Ll h (eb k) (-1) hi;omega
theorem R0 {s:aU} (h:je s):@qa py s (cf s):=QM br (λc=>@fΡ c) (gΜ h)
theorem xV {s:aU} {f:Found}:f∈cf s↔∃k,k<3/\0<(e8 s (eb k)).many (-1)/\f=e8 s (eb k):=by
 unfold cf;rw[List.mem_filterMap];constructor
 ·rintro⟨k,ψ,h⟩;unfold lr at h;split at h
  ·rename_i ε;exact⟨k,ε.1,ε.2,(Option.some.inj h).symm⟩
  ·cases h
 ·rintro⟨k,ψ,U,rfl⟩;exact⟨k,List.mem_range.2 ψ,by unfold lr;rw[if_pos ⟨ψ,U⟩]⟩
theorem xW (s:aU):(cf s).length<=3:=by
 unfold cf;exact Nat.le_trans (List.length_filterMap_le _ _) η
theorem R1 {s:aU} (h:je s):Small (cf s):=by
 have Ι:=h.many;refine⟨by have:=xW s;omega,λf Ρ=>?_⟩;obtain⟨k,_,_,rfl⟩:=xV.1 Ρ;have π:(e8 s (eb k)).cells.length=s.cells.length:=by simp[e8]
 refine⟨by rw[π];omega,λi hi ha=>?_,λc ε=>?_⟩
 ·have:=Ll h (eb k) ha (show i<=s.cells.length by omega);omega
 ·have:=Lk h (eb k) c ε;omega
def vU (s:aU) (i:Nat):Nat:=((List.range i).map λk=>(e8 s (eb k)).many (-1)).sum
theorem rH (s:aU) (i:Nat):vU s (i+1)=vU s i+(e8 s (eb i)).many (-1):=by simp[vU,List.range_succ]
theorem Cv (s:aU):fR (cf s)=vU s 3:=by
 have key:∀i,i<=3->fR ((List.range i).filterMap (lr s))=vU s i:=by
  intro i
  induction i with
  | zero=>intro _;rfl
  | succ i Α=>
   intro hi;rw[rH,<-Α J,List.range_succ,List.filterMap_append];unfold fR;rw[List.map_append,List.sum_append];congr 1;unfold lr;by_cases hm:0<(e8 s (eb i)).many (-1)
   ·have:i<3/\0<(e8 s (eb i)).many (-1):=⟨J,hm⟩;simp[this]
   ·have:¬(i<3/\0<(e8 s (eb i)).many (-1)):=λh=>hm h.2;simp[this];omega
 exact key 3 (Nat.le_refl _)
theorem Cw {s:aU} (p:Int×Int):(e8 s p).many (-1)=hG (e8 s p).cells (-1) s.cells.length:=by
 unfold Found.many;simp[e8]
theorem Gr {s:aU} (p:Int×Int) {c:Nat} (ε:c<s.cells.length):hG (e8 s p).cells (-1) (c+1)=hG (e8 s p).cells (-1) c*(hH s p c).length:=by
 rw[E1,if_neg J];have:(e8 s p).cells[c]?=some (hH s p c):=by
  unfold e8;simp[ε]
 rw[this];rfl
def cnt (x n:Int):Nat->Int
 | 0=>0
 | k+1=>cnt x n k+(if eG .i64 x (2 ^ k)≠0 then 1 else 0)-(if eG .i64 n (2 ^ k)≠0 then 1 else 0)
end Go.TL
