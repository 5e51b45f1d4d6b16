/- LightBlind: under a light that shows no ink nothing is visible, and photographs under it in which nothing is seen change neither the number of truths nor the line. No conditions. -/
import Derived.Carry
import Derived.ChangeSlices
import Derived.Conc.HoldsTime
import Derived.KernelRfl
import Derived.OpenShut
import Derived.Test.YtlabjopijpkiaaaGreatCAZ
import Derived.Test.YtlabjopijpkiaaaGreatCBA
import Derived.Test.YtlabjopijpkiaaaGreatCBC
import Derived.Test.YtlabjopijpkiaaaGreatCBE
import Derived.Test.YtlabjopijpkiaaaGreatRows
set_option maxHeartbeats 16000000
set_option maxRecDepth 20000
set_option linter.unusedSectionVars false
set_option linter.unusedSimpArgs false
set_option linter.unusedVariables false
namespace Go.TL
open Go.Proofs
variable [bp]
theorem fΜ (n:Nat) (ν:n<256)  : ∀(k:Nat) (d:Array (Int)) (a b lim:Nat),d.size=n->b-a<=k->a<=b->b<=n->lim<2 ^ 40->Go.Sort.Below (Go.Sort.ltInt) a b d->
  ab Tryz.prog 157 [.ms 0 n 0 n,I a,I b,I lim] [.cells 3 1 ((d).toList.map I)] (λr s=>r=.bq []/\s=[.cells 3 1 ((Go.Sort.pdq (Go.Sort.ltInt) d a b lim true true).toList.map I)]) (λ_ _=>False):=by
 intro k
 induction k using Nat.strongRecOn with
 | _ k sK=>
 intro d a b lim Ζ χ eO hb tS dX;refine ab.body Υ Tryz.func157 rfl rfl Tryz.ntmps157 rfl rfl ζ ?_;obtain⟨ak,fq⟩:=b2 (Go.Sort.pdq (Go.Sort.ltInt) d a b lim true true);rw[fq];refine Η ?_;refine W.iter (λq:Ri (Int)=>q.e.size=n/\q.a<=q.b/\q.b<=n/\q.b-q.a<=k/\q.lim<2 ^ 40/\Go.Sort.Below (Go.Sort.ltInt) q.a q.b q.e/\Go.Sort.pdq (Go.Sort.ltInt) q.e q.a q.b q.lim q.wb q.wp=ak) (λq=>[(0,.ms 0 n 0 n),(1,I (q.a:Nat)),(2,I (q.b:Nat)),(3,I (q.lim:Nat)),(8,a' q.wb),(9,a' q.wp)]) (λq=>[.cells 3 1 ((q.e).toList.map I)]) (λq=>q.b-q.a) ⟨a,b,lim,true,true,d⟩ ⟨Ζ,eO,hb,χ,tS,dX,fq⟩ rfl ζ (λq Ξ ω=>?_);clear fq dX tS hb eO χ;obtain⟨a,b,lim,wb,wp,e⟩:=q;obtain⟨cq,eO,hb,χ,tS,dX,aI⟩:=Ξ;simp only at cq eO hb χ tS dX aI;obtain⟨l,ξ⟩:=aK (b-a);have w1:IntKind.i64.wrap ((b:Int)-(a:Int))=(l:Int):=by rw[IntWalk.i64_in _ R];omega
 refine W.to (σ':=[.cells 3 1 ((e).toList.map I)]) (env':=[(0,.ms 0 n 0 n),(1,I (a:Nat)),(2,I (b:Nat)),(3,I (lim:Nat)),(8,a' wb),(9,a' wp)]) ?_ rfl ζ;by_cases gU:b-a<=12
 ·have g:(l:Int)<=12:=by omega
  refine aE (υ w1 g) ?_;refine aD ζ ?_;refine bh λΘ θ=>?_;refine ab.call (first:=[]) (captured:=[]) ((NJ e n a b cq eO hb R).mono (λr s ⟨b9,bZ⟩=>?_) (λ_ _ h=>h.elim));subst b9;subst bZ;simp;(repeat (rw[al];simp[]));apply θ;rw[Go.Sort.pdq_small gU] at aI;exact W.ret ⟨_,rfl,rfl,by rw[<-aI]⟩
 have g:¬(l:Int)<=12:=R;refine aE (υ w1 g) ?_;refine aA ζ ?_;by_cases an:lim=0
 ·have cQ:(lim:Int)=0:=by omega
  refine aE cQ ?_;refine aD (by simp[an]) ?_;refine bh λΘ θ=>?_;refine ab.call (first:=[]) (captured:=[]) ((fψ e n a b cq R R hb).mono (λr s ⟨b9,bZ⟩=>?_) (λ_ _ h=>h.elim));subst b9;subst bZ;simp;(repeat (rw[al];simp[]));apply θ;rw[Go.Sort.pdq_heap gU an] at aI;exact W.ret ⟨_,rfl,rfl,by rw[<-aI]⟩
 have cQ:¬(lim:Int)=0:=R;refine aE cQ ?_;refine aA (by simp[an]) ?_;refine Η ?_;have F:=Go.Sort.rd_facts (limit:=lim) (wb:=wb) (wp:=wp) Go.Sort.swo_ltInt Go.Sort.partialInsertionSort_holds Go.Sort.reverseRange_holds (by omega:a<b) R dX;have B9:=Go.Sort.rd_lim_le (lt:=(Go.Sort.ltInt)) (d:=e) (a:=a) (b:=b) (limit:=lim) (wb:=wb) (wp:=wp);have tT:=λh:wb=false=>show(Go.Sort.rd (Go.Sort.ltInt) e a b lim wb wp).d1=Go.Sort.breakPatterns e a b/\(Go.Sort.rd (Go.Sort.ltInt) e a b lim wb wp).lim=lim-1 by subst h;exact Go.Sort.rd_false
 have tU:=λh:wb=true=>show(Go.Sort.rd (Go.Sort.ltInt) e a b lim wb wp).d1=e/\(Go.Sort.rd (Go.Sort.ltInt) e a b lim wb wp).lim=lim by subst h;exact Go.Sort.rd_true
 have tV:=Go.Sort.rd_c (lt:=(Go.Sort.ltInt)) (d:=e) (a:=a) (b:=b) (limit:=lim) (wb:=wb) (wp:=wp)
 have Fd:=Go.Sort.rd_dec (lt:=(Go.Sort.ltInt)) (d:=e) (a:=a) (b:=b) (limit:=lim) (wb:=wb) (wp:=wp)
 have Fn:=Go.Sort.rd_not (lt:=(Go.Sort.ltInt)) (d:=e) (a:=a) (b:=b) (limit:=lim) (wb:=wb) (wp:=wp)
 have q3:=Go.Sort.rd_pi_yes (lt:=(Go.Sort.ltInt)) (d:=e) (a:=a) (b:=b) (limit:=lim) (wb:=wb) (wp:=wp)
 have q4:=Go.Sort.rd_pi_no (lt:=(Go.Sort.ltInt)) (d:=e) (a:=a) (b:=b) (limit:=lim) (wb:=wb) (wp:=wp)
 have iu:=Go.Sort.pdq_done (lt:=(Go.Sort.ltInt)) (d:=e) (wb:=wb) (wp:=wp) gU an
 have gL:=Go.Sort.pdq_eq (lt:=(Go.Sort.ltInt)) (d:=e) (wb:=wb) (wp:=wp) gU an
 have fG:=Go.Sort.pdq_left (lt:=(Go.Sort.ltInt)) (d:=e) (wb:=wb) (wp:=wp) gU an
 have fH:=Go.Sort.pdq_right (lt:=(Go.Sort.ltInt)) (d:=e) (wb:=wb) (wp:=wp) gU an;rw[aI] at iu gL fG fH;obtain⟨r,ι⟩:=b2 (Go.Sort.rd (Go.Sort.ltInt) e a b lim wb wp);rw[ι] at F B9 tT tU tV Fd Fn q3 q4 iu gL fG fH;clear ι;obtain⟨d1,eA,⟨xv,ch⟩,d2,h3,q5,d3,done⟩:=r;simp only at F B9 tT tU tV Fd Fn q3 q4 iu gL fG fH;obtain⟨xw,fι,fκ,xx,fμ,lQ,lR,Ca⟩:=F;rw[cq] at xw xx lR;refine W.upto [(0,.ms 0 n 0 n),(1,I (a:Nat)),(2,I (b:Nat)),(3,I (eA:Nat)),(8,a' wb),(9,a' wp),(10,I (l:Nat))] [.cells 3 1 ((d1).toList.map I)] ?_ ?_
 ·cases wb with
  | false=>
   obtain⟨f1,f2⟩:=tT rfl;refine aD rfl ?_;refine bh λΘ θ=>?_;refine ab.call (first:=[]) (captured:=[]) ((fΘ e n a b cq R R R hb).mono (λr s ⟨b9,bZ⟩=>?_) (λ_ _ h=>h.elim));subst b9;subst bZ;simp;(repeat (rw[al];simp[]));apply θ;have w2:=h2 (i:=lim) R R;refine nU w2 ?_;exact W.stop ⟨rfl,by rw[f1],by simp[f2]⟩
  | true=>
   obtain⟨f1,f2⟩:=tU rfl;refine aA rfl ?_;refine W.skip ?_;exact W.stop ⟨rfl,by rw[f1],by simp[f2]⟩
 have xy:=fΔ d1 n a b xw R R hb;rw[<-tV] at xy;simp only at xy;refine bh λΘ θ=>?_;refine ab.call (first:=[]) (captured:=[]) ((xy).mono (λr s ⟨b9,bZ⟩=>?_) (λ_ _ h=>h.elim));subst b9;subst bZ;simp;(repeat (rw[al];simp[]));apply θ;refine W.to (σ':=[.cells 3 1 ((d1).toList.map I)]) (env':=[(0,.ms 0 n 0 n),(1,I (a:Nat)),(2,I (b:Nat)),(3,I (eA:Nat)),(8,a' wb),(9,a' wp),(10,I (l:Nat)),(11,I (xv:Nat)),(12,I (pT ch))]) ?_ rfl ζ;refine Η ?_;refine W.upto [(0,.ms 0 n 0 n),(1,I (a:Nat)),(2,I (b:Nat)),(3,I (eA:Nat)),(8,a' wb),(9,a' wp),(10,I (l:Nat)),(11,I (h3:Nat)),(12,I (pT q5))] [.cells 3 1 ((d2).toList.map I)] ?_ ?_
 ·by_cases hd:ch=.decreasing
  ·obtain⟨f1,f2,f3⟩:=Fd hd;subst hd;refine aD rfl ?_;refine bh λΘ θ=>?_;refine ab.call (first:=[]) (captured:=[]) ((fω d1 n a b xw R R hb).mono (λr s ⟨b9,bZ⟩=>?_) (λ_ _ h=>h.elim));subst b9;subst bZ;simp;(repeat (rw[al];simp[]));apply θ;have w2:=h2 (i:=b) R R;have w3:=vw (a:=a) (b:=xv) R R;have w4:=vw (a:=xv-a) (b:=b-1) R R;rw[<-f2] at w4;refine W.seq ?_;refine nU (υ w2 (υ w3 w4)) ?_;refine lE ?_;exact W.stop ⟨rfl,by rw[f1],by simp[f3,pT]⟩
  ·obtain⟨f1,f2,f3⟩:=Fn hd;refine aA (by cases ch with
    | decreasing=>exact absurd rfl hd
    | unknown=>rfl
    | increasing=>rfl) ?_
   refine W.skip ?_;exact W.stop ⟨rfl,by rw[f1],by simp[f2,f3]⟩
 repeat apply Ω
 refine W.s6 (A:=[]) Υ [(68,a' (wb&&wp&&decide (q5=.increasing))),(0,.ms 0 n 0 n),(1,I (a:Nat)),(2,I (b:Nat)),(3,I (eA:Nat)),(8,a' wb),(9,a' wp),(10,I (l:Nat)),(11,I (h3:Nat))] ?_ (by cases wb<;>cases wp<;>cases q5<;>simp[al,pv,pT])
 repeat apply Ω
 rcases Bool.eq_false_or_eq_true done with hM|hM
 ·cases ε:(wb&&wp&&decide (q5=.increasing)) with
  | true=>
   have f:=q3 ε;refine aD rfl ?_;have gM:=Rx d2 n a b xx R R hb;rw[<-f] at gM;simp only[hM] at gM;refine bh λΘ θ=>?_;refine ab.call (first:=[]) (captured:=[]) ((gM).mono (λr s ⟨b9,bZ⟩=>?_) (λ_ _ h=>h.elim));subst b9;subst bZ;simp;(repeat (rw[al];simp[]));apply θ;refine aD rfl ?_;exact W.ret ⟨_,rfl,rfl,by rw[iu hM]⟩
  | false=>
   have f:=(Prod.mk.inj (q4 ε)).2;rw[hM] at f;cases f
 refine W.upto [(0,.ms 0 n 0 n),(1,I (a:Nat)),(2,I (b:Nat)),(3,I (eA:Nat)),(8,a' wb),(9,a' wp),(10,I (l:Nat)),(11,I (h3:Nat))] [.cells 3 1 ((d3).toList.map I)] ?_ ?_
 ·cases ε:(wb&&wp&&decide (q5=.increasing)) with
  | true=>
   have f:=q3 ε;refine aD rfl ?_;have gM:=Rx d2 n a b xx R R hb;rw[<-f] at gM;simp only[hM] at gM;refine bh λΘ θ=>?_;refine ab.call (first:=[]) (captured:=[]) ((gM).mono (λr s ⟨b9,bZ⟩=>?_) (λ_ _ h=>h.elim));subst b9;subst bZ;simp;(repeat (rw[al];simp[]));apply θ;refine aA rfl ?_;refine W.skip ?_;exact W.stop ⟨rfl,rfl,ζ⟩
  | false=>
   have f1:=(Prod.mk.inj (q4 ε)).1;refine aA rfl ?_;refine W.skip ?_;exact W.stop ⟨rfl,by rw[f1],ζ⟩
 clear iu q3 q4 Fd Fn tV tT tU;have gL:=gL hM;have fG:=fG hM;have fH:=fH hM;obtain⟨P,nx⟩:=b2 ((decide (a > 0)&&!Go.Sort.ltInt d3[a-1]! d3[h3]!):Bool);rw[nx] at gL fG fH
 repeat apply Ω
 refine W.yn (A:=[]) Υ mixed [(87,a' P),(0,.ms 0 n 0 n),(1,I (a:Nat)),(2,I (b:Nat)),(3,I (eA:Nat)),(8,a' wb),(9,a' wp),(10,I (l:Nat)),(11,I (h3:Nat))] ?_ (by
  by_cases κ:0<a
  ·obtain⟨p,π⟩:=aK (a-1);have aC:p<n:=R;have aH:h3<n:=R;obtain⟨L,x,y,ai,γ,Κ,ξ,⟨J,U⟩,⟨μ,Ε⟩,-,-⟩:=eC I lR aC aH;have xz:P = !Go.Sort.ltInt x y:=by rw[<-nx,<-π,γ,Κ];simp[κ]
   have eo:(0:Int)<(a:Int):=R
   have w2:IntKind.i64.wrap ((a:Int)-1)=(p:Int):=by rw[IntWalk.i64_in _ R];omega
   rw[ai];clear γ Κ;simp;(repeat (rw[dq];simp[κ,eo,w2,ξ,J,U,μ,Ε,aC,aH]));(try rw[dp]);refine eZ (az.p (nV x y) (bI.refl _) ζ ζ) ?_;simp;(repeat (rw[dq];simp[]));(try rw[dp]);refine⟨hg (by kernel_rfl),?_⟩;simp[xz,Go.Sort.ltInt]
  ·have xz:P=false:=by rw[<-nx];simp[κ]
   have eo:a=0:=R;subst eo;simp;(repeat (rw[dq];simp[]));(try rw[dp]);refine⟨hg (by kernel_rfl),?_⟩;simp[xz])
 repeat apply Ω
 rcases Bool.eq_false_or_eq_true P with ny|ny
 ·refine aD (by simp[ny]) ?_;rw[ny] at nx;simp only[Bool.and_eq_true,decide_eq_true_eq,Bool.not_eq_true'] at nx;obtain⟨⟨mid,d4⟩,γ⟩:∃r,Go.Sort.partitionEqual (Go.Sort.ltInt) d3 a b h3=r:=⟨_,rfl⟩;obtain⟨dU,dA,mo,qC,-⟩:=Go.Sort.round_eq Go.Sort.swo_ltInt (Go.Sort.partitionEqual_holds _) nx.1 lQ.1 lQ.2 (by rw[lR];exact hb) Ca nx.2 γ;have gL:=gL ny;rw[γ] at gL;have gL:=gL ⟨dU,dA⟩;simp only at gL;have gM:=fχ d3 n a b h3 lR R lQ.1 lQ.2 hb;rw[γ] at gM;simp only at gM;refine bh λΘ θ=>?_;refine ab.call (first:=[]) (captured:=[]) ((gM).mono (λr s ⟨b9,bZ⟩=>?_) (λ_ _ h=>h.elim));subst b9;subst bZ;simp;(repeat (rw[al];simp[]));apply θ;refine Η ?_;refine W.exit rfl ?_;exact W.to (ω ⟨mid,b,eA,wb,wp,d4⟩ ⟨mo.trans lR,dA,hb,by(try simp only);omega,by(try simp only);omega,qC,gL.symm⟩ (by(try simp only);omega)) rfl ζ
 refine aA (by simp[ny]) ?_;obtain⟨⟨mid,ap,d4⟩,γ⟩:∃r,Go.Sort.partition (Go.Sort.ltInt) d3 a b h3=r:=⟨_,rfl⟩;obtain⟨dU,dA,mo,qC,tn,Ky,Cb⟩:=Go.Sort.round_part Go.Sort.swo_ltInt (Go.Sort.partition_holds _) lQ.1 lQ.2 (by rw[lR];exact hb) Ca γ;have fG:=fG ny;have fH:=fH ny;rw[γ] at fG fH;have fG:=fG ⟨dU,dA⟩;have fH:=fH ⟨dU,dA⟩;simp only at fG fH;have gM:=fφ d3 n a b h3 lR R lQ.1 lQ.2 hb;rw[γ] at gM;simp only at gM;have tW:d4.size=n:=mo.trans lR;obtain⟨u,hu⟩:=aK (mid-a);obtain⟨v,hv⟩:=aK (b-mid);obtain⟨pX,Cc⟩:=aK (l / 8);obtain⟨b4,gR⟩:=aK (mid+1);have kv:IntKind.i64.wrap ((mid:Int)-(a:Int))=(u:Int):=by rw[IntWalk.i64_in _ R];omega
 have iq:IntKind.i64.wrap ((b:Int)-(mid:Int))=(v:Int):=by rw[IntWalk.i64_in _ R];omega
 have ir:IntKind.i64.wrap ((l:Int) / 8)=(pX:Int):=by rw[Cc];exact vv (m:=8) R
 have lf:IntKind.i64.wrap ((mid:Int)+1)=(b4:Int):=by rw[IntWalk.i64_in _ R];omega
 rw[<-hu,<-hv,<-ξ,<-Cc,<-gR] at fG fH;refine bh λΘ θ=>?_;refine ab.call (first:=[]) (captured:=[]) ((gM).mono (λr s ⟨b9,bZ⟩=>?_) (λ_ _ h=>h.elim));subst b9;subst bZ;simp;(repeat (rw[al];simp[]));apply θ;by_cases tv:u<v
 ·have Ρ:(u:Int)<(v:Int):=by omega
  refine aE (υ kv (υ iq (υ ir @Ρ))) ?_;refine aD ζ ?_;obtain⟨dn,p2⟩:=Go.Sort.pdq_sorts (Go.Sort.ltInt) Go.Sort.swo_ltInt d4 a mid eA true true dU R qC;have q6:=sK (mid-a) R d4 a mid eA tW (Nat.le_refl _) dU R R qC;have fG:=fG tv;obtain⟨B',-⟩:=Ky _ dn p2;have s1:=dn.1.trans tW;obtain⟨Δ,g2⟩:=b2 (Go.Sort.pdq (Go.Sort.ltInt) d4 a mid eA true true);rw[g2] at q6 fG B' s1;refine bh λΘ θ=>?_;apply θ;refine bh λΘ θ=>?_;refine ab.call (first:=[]) (captured:=[]) ((q6).mono (λr s ⟨b9,bZ⟩=>?_) (λ_ _ h=>h.elim));subst b9;subst bZ;simp;(repeat (rw[al];simp[]));apply θ;refine aE lf ?_;exact W.to (ω ⟨b4,b,eA,decide (u>=pX),ap,Δ⟩ ⟨s1,by(try simp only);omega,hb,by(try simp only);omega,by(try simp only);omega,by simp only;rw[gR];exact B',fG.symm⟩ (by(try simp only);omega)) rfl ζ
 ·have Ρ:¬(u:Int)<(v:Int):=by omega
  refine aE (υ kv (υ iq (υ ir @Ρ))) ?_;refine aA ζ ?_;obtain⟨dn,p2⟩:=Go.Sort.pdq_sorts (Go.Sort.ltInt) Go.Sort.swo_ltInt d4 (mid+1) b eA true true R R tn;rw[<-gR] at dn p2 tn;have q6:=sK (b-b4) R d4 b4 b eA tW (Nat.le_refl _) R hb R tn;have fH:=fH tv;rw[<-gR] at Cb;obtain⟨B',-⟩:=Cb _ dn p2;have s1:=dn.1.trans tW;obtain⟨Δ,g2⟩:=b2 (Go.Sort.pdq (Go.Sort.ltInt) d4 b4 b eA true true);rw[g2] at q6 fH B' s1;refine bh λΘ θ=>?_;apply θ;refine hz lf λΘ θ=>?_;refine ab.call (first:=[]) (captured:=[]) ((q6).mono (λr s ⟨b9,bZ⟩=>?_) (λ_ _ h=>h.elim));subst b9;subst bZ;simp;(repeat (rw[al];simp[]));apply θ;refine Η ?_;exact W.to (ω ⟨a,mid,eA,decide (v>=pX),ap,Δ⟩ ⟨s1,dU,by(try simp only);omega,by(try simp only);omega,by(try simp only);omega,B',fH.symm⟩ (by(try simp only);omega)) rfl ζ
theorem Ry:EC 255:=λl ξ=>by
 obtain⟨n,Ζ⟩:=aK l.length;have hb:Go.Sort.bitsLen n<=8:=(Go.Sort.bitsLen_le_iff n 8).2 R;have h:=fΜ n R n l.toArray 0 n (Go.Sort.bitsLen n) (by simp[Ζ]) R R (Nat.le_refl _) R (.inl rfl);have π:=Rp Go.Sort.swo_ltInt (λx y J U=>by simp[Go.Sort.ltInt] at J U;omega) l;rw[<-Ζ] at π;have e:(λx y:Int=>!Go.Sort.ltInt y x)=λx y=>decide (x<=y):=by
  funext x y
  show(!decide (y<x))=decide (x<=y);by_cases q:y<x
  ·rw[decide_eq_true q,decide_eq_false R];rfl
  ·rw[decide_eq_false q,decide_eq_true R];rfl
 rw[π,e] at h;rw[<-Ζ];clear π e;have kl:(l.map I).length=n:=by rw[List.length_map,Ζ]
 have cF:l.toArray.toList=l:=rfl;rw[cF] at h;refine ab.body Υ Tryz.func132 rfl rfl Tryz.ntmps132 rfl rfl ζ ?_;have Γ:=gq (show n<2 ^ 62 by omega);have Δ:IntKind.u64.wrap (n:Int)=n:=tN R;have nY:=Ζ.symm;refine aE nY ?_;(repeat apply Ω);refine dx λΘ θ=>?_;simp;(repeat (rw[al];simp[Γ,Δ]));refine az.d (uY n R) (bD ?_);refine ab.call (first:=[]) (captured:=[]) (h.mono (λr s ⟨b9,bZ⟩=>?_) (λ_ _ h=>h.elim));subst b9;subst bZ;simp;(repeat (rw[al];simp[]));apply θ;exact W.nil ⟨_,rfl,rfl,rfl⟩
theorem fΝ {s:aS} {p:Int×Int}:∀{n:Nat},n<=s.cells.length->0<je (fF s p).cells (-1) n->∀c,c<n->0<(iO s p c).length:=by
 intro n
 induction n with
 | zero=>intro _ _ c ε;omega
 | succ n ω=>
  intro Ζ h c ε;rw[fρ p R] at h;by_cases e:c=n
  ·subst e;exact Nat.pos_of_mul_pos_left h
  ·exact ω R (Nat.pos_of_mul_pos_right h) c R
theorem FW {s:aS} {f:Found} (Τ:f∈dN s):f.cells.length=s.cells.length/\∀c,c<s.cells.length->∃k,k<3/\f=fF s (fE k)/\f.cells[c]?=some (iO s (fE k) c)/\0<(iO s (fE k) c).length:=by
 obtain⟨k,χ,hm,rfl⟩:=KD.1 Τ;refine⟨by simp[fF],λc ε=>⟨k,χ,rfl,by simp[fF,ε],?_⟩⟩;rw[Rt] at hm;exact fΝ (Nat.le_refl _) hm c ε
theorem fΞ {s:aS} {p r:Int×Int} {c:Nat} (h:r∈iO s p c):(-1<=r.1/\r.1<s.ae.length)/\(-1<=r.2/\r.2<s.ae.length):=fτ.1 (List.mem_filter.1 h).1
theorem Rz {s:aS} {c:Nat} {lower:Bool} {x:Int} (ε:c<s.cells.length):x∈gr (dN s) c lower↔∃f∈dN s,∃r∈(f.cells[c]?).getD [],x=k6 lower r:=by
 unfold gr yw;constructor
 ·intro h;obtain⟨f,Τ,γ⟩:=List.mem_flatMap.1 h;obtain⟨r,ι,rfl⟩:=List.mem_map.1 γ;exact⟨f,Τ,r,ι,rfl⟩
 ·rintro⟨f,Τ,r,ι,rfl⟩;exact List.mem_flatMap.2 ⟨f,Τ,List.mem_map.2 ⟨r,ι,rfl⟩⟩
theorem fΟ {s:aS} {c:Nat} {lower:Bool} (ε:c<s.cells.length) {x:Int} (h:x∈gr (dN s) c lower):-1<=x/\x<s.ae.length:=by
 obtain⟨f,Τ,r,ι,rfl⟩:=(Rz ε).1 h;obtain⟨k,_,_,Ο,_⟩:=(FW Τ).2 c ε;rw[Ο] at ι;have:=fΞ ι;unfold k6;cases lower<;>simp<;>omega
theorem RA {s:aS} {c:Nat} {lower:Bool} (ε:c<s.cells.length) (ev:dN s≠[]):gr (dN s) c lower≠[]:=by
 obtain⟨f,Τ⟩:=List.exists_mem_of_ne_nil _ ev;obtain⟨k,_,_,Ο,π⟩:=(FW Τ).2 c ε;obtain⟨r,ι⟩:=List.exists_mem_of_ne_nil _ (List.length_pos_iff.1 π);have:k6 lower r∈gr (dN s) c lower:=(Rz ε).2 ⟨f,Τ,r,by rw[Ο];exact ι,rfl⟩;intro h;rw[h] at this;cases this
theorem fΡ {s:aS} (h:il s) (c:Nat) (lower:Bool) (ε:c<s.cells.length):(gr (dN s) c lower).length<=147:=by
 have key:∀F:List Found,(∀f∈F,f∈dN s)->(gr F c lower).length<=F.length*49:=by
  intro F
  induction F with
  | nil=>intro _;simp[gr]
  | cons f F ω=>
   intro ev;have J:=ω λg Ο=>ev g (by simp[Ο]);obtain⟨k,_,_,Ο,_⟩:=(FW (ev f ζ)).2 c ε;have U:=Kz h (fE k) c;have e:gr (f::F) c lower=yw f c lower++gr F c lower:=rfl;rw[e,List.length_append,List.length_cons];have:(yw f c lower).length<=49:=by unfold yw;rw[Ο];simpa using U
   omega
 have J:=key (dN s) λ_ h=>h
 have:=KE s;omega
theorem FX {s:aS} (h:il s) (ev:dN s≠[]) (lower:Bool):fυ s (dN s) lower 255 where
 n1:=Nat.lt_of_le_of_lt (KE s) br
 cells f Τ:=⟨(FW Τ).1,λc ε=>by
  obtain⟨k,_,_,rfl⟩:=KD.1 Τ;have:=KA h _ c ε;omega⟩
 some c ε:=⟨RA ε ev,by have:=fΡ h c lower ε;omega⟩
theorem fΤ {α:Type} [DecidableEq α] {x:α}:∀{l:List α} {a:α},x∈nd a l\/x=a↔x∈l\/x=a:=by
 intro l
 induction l with
 | nil=>intro a;simp[nd]
 | cons b l ω=>
  intro a;unfold nd;split
  ·rename_i h;have h:b=a:=by simpa using h
   subst h;rw[ω];simp only[List.mem_cons];exact⟨λh=>h.elim (λh=>.inl (.inr h)) .inr,λh=>h.elim (λh=>h.elim .inr .inl) .inr⟩
  ·have:=ω (a:=b);simp only[List.mem_cons] at this ⊢;constructor
   ·rintro((h|h)|h)
    ·exact .inl (.inl h)
    ·rcases this.1 (.inl h) with h|h
     ·exact .inl (.inr h)
     ·exact .inl (.inl h)
    ·exact .inr h
   ·rintro((h|h)|h)
    ·exact .inl (.inl h)
    ·rcases this.2 (.inl h) with h|h
     ·exact .inl (.inr h)
     ·exact .inl (.inl h)
    ·exact .inr h
theorem fΥ {α:Type} [DecidableEq α] {x:α} {l:List α}:x∈ig l↔x∈l:=by
 cases l with
 | nil=>exact Iff.rfl
 | cons a l=>
  show x∈a::nd a l↔_
  have:=fΤ (x:=x) (l:=l) (a:=a);simp only[List.mem_cons];constructor
  ·rintro(h|h)
   ·exact .inl h
   ·rcases this.1 (.inl h) with h|h
    ·exact .inr h
    ·exact .inl h
  ·rintro(h|h)
   ·exact .inl h
   ·rcases this.2 (.inl h) with h|h
    ·exact .inr h
    ·exact .inl h
theorem fΦ:∀{l:List Int} {a:Int},(a::l).Pairwise (·<=·)->(a::nd a l).Pairwise (· < ·):=by
 intro l
 induction l with
 | nil=>intro a _;simp[nd]
 | cons b l ω=>
  intro a h;obtain⟨J,U⟩:=List.pairwise_cons.1 h;have eO:=J b ζ;unfold nd;split
  ·rename_i q;have q:b=a:=by simpa using q
   subst q;exact ω U
  ·rename_i q;have q:b≠a:=by simpa using q
   have μ:=ω U;refine List.pairwise_cons.2 ⟨λy Κ=>?_,μ⟩;rcases List.mem_cons.1 Κ with rfl|Κ
   ·omega
   ·have:=(List.pairwise_cons.1 μ).1 y Κ;omega
theorem fΧ {l:List Int} (h:l.Pairwise (·<=·)):(ig l).Pairwise (· < ·):=by
 cases l with
 | nil=>exact .nil
 | cons a l=>exact fΦ h
theorem fΨ {n:Nat}:∀{l:List Int} {a:Int},l.Pairwise (· < ·)->(∀x∈l,a<=x/\x<a+n)->l.length<=n:=by
 induction n with
 | zero=>
  intro l a _ h;cases l with
  | nil=>simp
  | cons x l=>have:=h x ζ;omega
 | succ n ω=>
  intro l a π h;cases l with
  | nil=>simp
  | cons x l=>
   obtain⟨J,U⟩:=List.pairwise_cons.1 π;have γ:=h x ζ;have:=ω (a:=a+1) U λy Κ=>by have:=J y Κ;have:=h y (by simp[Κ]);omega
   simp only[List.length_cons];omega
theorem fΩ (l:List Int):(nZ l).Pairwise (·<=·):=by
 have:=List.pairwise_mergeSort (le:=λx y:Int=>decide (x<=y)) (λa b c J U=>by simp at J U ⊢;omega) (λa b=>by simp;omega) l;exact this.imp λh=>by simpa using h
theorem gα {x:Int} {l:List Int}:x∈nZ l↔x∈l:=(List.mergeSort_perm _ _).mem_iff
theorem RB {F:List Found} {c:Nat} {lower:Bool} {x:Int}:x∈lH F c lower↔x∈gr F c lower:=by unfold lH;rw[fΥ,gα]
theorem gβ (F:List Found) (c:Nat) (lower:Bool):(lH F c lower).Pairwise (· < ·):=fΧ (fΩ _)
theorem gγ {s:aS} {c:Nat} {lower:Bool} (ε:c<s.cells.length) (ev:dN s≠[]):lH (dN s) c lower≠[]:=by
 obtain⟨x,γ⟩:=List.exists_mem_of_ne_nil _ (RA (lower:=lower) ε ev);intro h;have:=RB.2 γ;rw[h] at this;cases this
theorem RD {s:aS} {c:Nat} {lower:Bool} (ε:c<s.cells.length) {x:Int} (h:x∈lH (dN s) c lower):-1<=x/\x<s.ae.length:=fΟ ε (RB.1 h)
theorem gδ {s:aS} {c:Nat} {lower:Bool} (ε:c<s.cells.length):(lH (dN s) c lower).length<=s.ae.length+1:=
 fΨ (a:=-1) (gβ _ _ _) λx h=>by have:=RD ε h;omega
theorem gε:∀k<256,tk ⟨#[UInt8.ofNat k]⟩=false->97<=k/\k<=122:=by decide +kernel
theorem gζ {n:ByteArray} (h:tk n=false):∃b:UInt8,n=⟨#[b]⟩/\97<=b.toNat/\b.toNat<=122:=by
 have ν:n.size=1:=by
  unfold tk at h;simp only[Bool.or_eq_false_iff] at h;have:=h.1.1;simpa using this
 obtain⟨d⟩:=n;have hd:d=#[d[0]'(by show 0<ByteArray.size ⟨d⟩;omega)]:=by
  apply Array.ext
  ·exact ν
  ·intro i J U;have:i=0:=by simp at U;exact U
   subst this;rfl
 generalize d[0]'_=b at hd;subst hd;refine⟨b,rfl,gε b.toNat b.toNat_lt ?_⟩;rw[UInt8.ofNat_toNat];exact h
def xB (n:ByteArray):Int:=((n.data.toList.headD 0).toNat:Nat)
theorem gη {b:UInt8} (h:b.toNat<128):Utf8.decode ⟨#[b]⟩ 0=(b.toNat,1):=by
 unfold Utf8.decode;have e:(ByteArray.get! ⟨#[b]⟩ 0)=b:=rfl;simp only[Nat.add_zero,e];rw[if_pos h]
theorem gθ {b:UInt8} (h:b.toNat<128):(Conv.runesFrom ⟨#[b]⟩ (ByteArray.size ⟨#[b]⟩) 0 #[])[0]?=some (.int .i32 (xB ⟨#[b]⟩)):=by
 have e:ByteArray.size ⟨#[b]⟩=1:=rfl;rw[e,Conv.runesFrom,if_pos (by rw[e];omega),gη h];rfl
theorem RE {s:aS} (h:il s) (ev:dN s≠[]) (lower:Bool):Ip s (dN s) lower xB 255 where
 n1:=(FX h ev lower).n1
 cells:=(FX h ev lower).cells
 some c ε:=⟨(FX h ev lower).some c ε |>.1,(FX h ev lower).some c ε |>.2,gγ ε ev,by have:=gδ (lower:=lower) ε;have:=h.ae.hi;omega,λx γ=>(RD ε γ).2⟩
 name g Ο:=by
  obtain⟨b,hb,bC,dt⟩:=gζ (h.ae.each g Ο).1;rw[hb];exact gθ R
def aS.hF (s:aS):aS:=⟨s.ae,s.aj++[[]],s.cells⟩
theorem pS.more {n m:Nat} {c:List c8} (h:pS n c) (Ζ:n<=m):pS m c:=⟨h.hi,h.apart,λp π=>by have:=h.each p π;refine⟨⟨this.1.1,by have:=this.1.2;omega⟩,this.2⟩⟩
theorem FY {s:aS} (h:il s) (μ:s.aj.length<=3):il s.hF where
 ae:=h.ae
 aj:=⟨by simp[aS.hF],by simp[aS.hF];omega,λl ξ=>by
  rcases List.mem_append.1 ξ with ξ|ξ
  ·exact h.aj.each l ξ
  ·simp at ξ;subst ξ;simp⟩
 many:=h.many
 cells c ε:=by
  have:=h.cells c ε;exact this.more (by simp[aS.hF])
def Cd (s:aS) (D:List (List c8)):Prop:=∀(j:Nat) (l:List c8),D[j]?=some l->∃c b,s.cells[j]?=some c/\(0<=b/\b<=63)/\l=c++[⟨s.aj.length,0,b⟩]
def aS.oc (s:aS) (D:List (List c8)):aS:=⟨s.ae,s.aj++[[]],D⟩
theorem RF:∀b<64,ga .i64 0 ((b:Nat):Int)=0/\pj .i64 0 0=0:=by decide +kernel
theorem RG {s:aS} (h:il s) (μ:s.aj.length<=3) {D:List (List c8)} (cY:D.length=s.cells.length) (ν:Cd s D):il (s.oc D) where
 ae:=h.ae
 aj:=(FY h μ).aj
 many:=by show D.length<=4;rw[cY];exact h.many
 cells l ξ:=by
  obtain⟨j,δ,rfl⟩:=List.getElem_of_mem ξ;obtain⟨c,b,ε,hb,e⟩:=ν j _ (a8 δ);have Τ:=h.cells c (cG ε);show pS (s.aj++[[]]).length (D[j]'δ);have e:D[j]'δ=c++[⟨s.aj.length,0,b⟩]:=e;rw[e];have Ζ:(s.aj++[[]]).length=s.aj.length+1:=ζ;rw[Ζ];refine⟨?_,?_,λp π=>?_⟩
  ·have:=Τ.n1;simp;omega
  ·rw[List.map_append];refine List.nodup_append.2 ⟨Τ.apart,ζ,λx γ y Κ=>?_⟩;obtain⟨p,π,rfl⟩:=List.mem_map.1 γ;simp at Κ;have:=(Τ.each p π).1;omega
  ·rcases List.mem_append.1 π with π|π
   ·have:=Τ.each p π;exact⟨⟨this.1.1,by have:=this.1.2;omega⟩,this.2⟩
   ·simp at π;subst π;obtain⟨k,rfl⟩:∃k:Nat,b=k:=⟨b.toNat,R⟩;exact⟨⟨ζ,by simp;omega⟩,ζ,hb,(RF k R).1⟩
theorem RH {s:aS} (p r:Int×Int):s.hF.hA p r s.aj.length=0:=by
 unfold aS.hA;simp[aS.hF]
theorem gι {s:aS} (D:List (List c8)) (p r:Int×Int) (n:Nat):(s.oc D).hA p r n=s.hF.hA p r n:=rfl
theorem gκ {s:aS} {D:List (List c8)} (cY:D.length=s.cells.length) (ν:Cd s D) (p r:Int×Int) (c:Nat):(s.oc D).rO p r c=s.hF.rO p r c:=by
 have dQ:∀x,(s.oc D).px p r x=s.hF.px p r x:=λx=>rfl;unfold aS.rO;show((D[c]?).getD []).all _=((s.cells[c]?).getD []).all _;cases ε:D[c]? with
 | none=>
  have:s.cells[c]?=none:=List.getElem?_eq_none (by rw[<-cY];exact List.getElem?_eq_none_iff.1 ε);rw[this];rfl
 | some l=>
  obtain⟨d,b,hd,hb,e⟩:=ν c l ε;rw[hd,e];simp only[Option.getD_some,List.all_append,List.all_cons,List.all_nil,Bool.and_true];have:(s.oc D).px p r ⟨s.aj.length,0,b⟩=true:=by
   obtain⟨k,rfl⟩:∃k:Nat,b=k:=⟨b.toNat,R⟩;obtain⟨k1,cp⟩:=RF k R;unfold aS.px;simp only[Int.toNat_natCast];rw[gι,RH];show(pj .i64 0 0==0&&ga .i64 0 (k:Int)==0)=true;rw[k1,cp];rfl
  rw[this,Bool.and_true];rfl
theorem RI {s:aS} {D:List (List c8)} (cY:D.length=s.cells.length) (ν:Cd s D):dN (s.oc D)=dN s.hF:=by
 have ι:∀p,iO (s.oc D) p=iO s.hF p:=λp=>by
  funext c
  unfold iO;show(wN s.ae.length).filter _=(wN s.ae.length).filter _;exact List.filter_congr λr _=>gκ cY ν p r c
 have Τ:∀p,fF (s.oc D) p=fF s.hF p:=λp=>by
  unfold fF;rw[ι];show Found.mk _ _ ((List.range D.length).map _)=Found.mk _ _ ((List.range s.cells.length).map _);rw[cY]
 unfold dN;have:jC (s.oc D)=jC s.hF:=by
  funext k
  unfold jC;rw[Τ]
 rw[this]
theorem gμ {s:aS} (h:il s) (μ:s.aj.length<=3) {t a f:Int} (Ν:0<=t/\t<=1) (κ:-1<=a/\a<s.ae.length) (Τ:-1<=f/\f<s.ae.length):pK s.hF [2,t] [a,f] (s.aj.length:Nat)=(0,0):=by
 have:=eΝ (FY h μ) (p:=(2,t)) (r:=(a,f)) (l:=(s.aj.length:Nat)) ⟨R,by simp;omega,ζ⟩ κ Τ ⟨R,by simp[aS.hF];omega⟩;rw[this,Int.toNat_natCast,RH]
theorem gν {s:aS} (h:il s) (μ:s.aj.length<=3) {D:List (List c8)} (cY:D.length=s.cells.length) (ν:Cd s D) (lower:Bool):pE (s.oc D) (dN (s.oc D)) lower xB=pE s.hF (dN s.hF) lower xB:=by
 rw[RI cY ν];have e:∀F,(eK (s.oc D) true F).2.2=(eK s.hF true F).2.2:=λF=>by
  unfold eK;rw[(RG h μ cY ν).err,(FY h μ).err];simp only[ne_eq,not_true_eq_false,if_false,true_and];split<;>rfl
 unfold pE;rw[e];show(if _ then(spell (n0 (s.oc D) _ _ _ D.length),(0:Int)) else _)=(if _ then(spell (n0 s.hF _ _ _ s.cells.length),(0:Int)) else _);rw[cY];rfl
end Go.TL
namespace Go.TL
open Go.Proofs
@[simp] theorem kβ:ju .bool=true:=rfl
section
variable [bp]
theorem c6.ao {l m:List η} (h:bI l m):c6 (.ao l) (.ao m):=λS B σ v x=>by
 cases x with
 | ao b o w J U=>
  have key:∀(j:Nat) (a:η),m[j]?=some a->∃bT,l[j]?=some bT/\c6 bT a:=λj a δ=>by
   have aO:j<l.length:=by rw[h.1];exact(bX.1 δ).1
   exact⟨_,a8 aO,h.2 j _ a (a8 aO) δ⟩
  refine .ao b o w (λj a δ=>?_) (λj a δ=>?_)
  ·obtain⟨bT,k1,_⟩:=key j a δ;exact J j bT k1
  ·obtain⟨bT,k1,cp⟩:=key j a δ;exact cp S B σ _ (U j bT k1)
theorem RJ (b:Nat) (L:List (List c8)) (j:Nat):(gK b L)[j]?=L[j]?.map λl=>.ms (b+j) l.length 0 l.length:=by
 induction L generalizing b j with
 | nil=>simp[gK]
 | cons l L ω=>
  cases j with
  | zero=>simp[gK]
  | succ j=>simp only[gK,List.getElem?_cons_succ];rw[ω,show b+1+j=b+(j+1) by omega]
theorem gξ (b:Nat) (L:List (List c8)) (c:Nat) (x:List c8):gK b (L.set c x)=(gK b L).set c (.ms (b+c) x.length 0 x.length):=by
 induction L generalizing b c with
 | nil=>simp[gK]
 | cons l L ω=>
  cases c with
  | zero=>simp[gK]
  | succ c=>simp only[gK,List.set_cons_succ];rw[ω,show b+1+c=b+(c+1) by omega]
theorem gο (L:List (List c8)) (c:Nat) (x:List c8):gv (L.set c x)=(gv L).set c (.cells 28 3 (x.map eB)):=by
 unfold gv;rw[List.map_set]
theorem RK (L:List (List c8)) (c:Nat):(gv L)[c]?=L[c]?.map λl=>.cells 28 3 (l.map eB):=by unfold gv;rw[List.getElem?_map]
theorem Ce (L:List (List c8)):(gv L).length=L.length:=by unfold gv;rw[List.length_map]
theorem gπ {h b id:Nat} {σ:List Row} {L:List (List c8)} (hb:h<=b) (b5:h<=id) (ι:∀(j:Nat) (l:List c8),L[j]?=some l->σ[b+j]?=some (.cells 28 3 (l.map eB))) (bQ:σ[id]?=some (.cells 60 1 (gK b L))):eJ h σ (.ms id L.length 0 L.length) (bx L):=by
 have key:∀(j:Nat) (e aM:η),(gK b L)[0+j]?=some e->(L.map oG)[j]?=some aM->∃l:List c8,L[j]?=some l/\e=.ms (b+j) l.length 0 l.length/\aM=oG l:=λj e aM J U=>by
  rw[Nat.zero_add,RJ] at J;rw[List.getElem?_map] at U;cases ξ:L[j]? with
  | none=>rw[ξ] at J;cases J
  | some l=>rw[ξ] at J U;cases J;cases U;exact⟨l,rfl,rfl,rfl⟩
 refine .ms b5 bQ (y8 b L) (by rw[Nat.zero_add];exact Nat.le_refl _) ζ (λj e aM J U=>?_) (λj e aM J U x a bT μ Ε=>?_)
 ·obtain⟨l,_,rfl,rfl⟩:=key j e aM J U;rfl
 ·obtain⟨l,ξ,rfl,rfl⟩:=key j e aM J U
  match x with
  | 0=>
   simp[η.cells] at μ Ε;subst μ;subst Ε;refine eJ.own R (ι j l ξ) ζ (λe he a κ=>?_);obtain⟨p,_,rfl⟩:=List.mem_map.1 he;simp[η.cells] at κ;rcases κ with rfl|rfl|rfl<;>simp
  | x+1=>simp[η.cells] at μ
end
theorem gρ (l:List Int) (ξ:l.length<2 ^ 63):@W oV Tryz.prog 0 130 [.code (Tryz.f6.body.getD .skip)] (entry 0 [bt I 1 l]) [] (λj env _=>(∃k,j=.code .ret::k)/\a5 env 2=a' true) (λ_ _ _=>False):=by
 letI:bp:=oV;show W Tryz.prog 0 130 [.code _] _ _ _ _;refine W.seq ?_
 repeat apply Ω
 refine lE ?_;refine bh λΘ θ=>?_;refine ab.call (first:=[]) (captured:=[]) ((fς l).mono (λa s ⟨J,U⟩=>?_) (λ_ _ h=>h.elim));subst J;subst U;simp;(repeat (rw[al];simp[]));apply θ;have RL:(⟨l,1⟩:cz).a7.length<2 ^ 63:=ξ;generalize (⟨l,1⟩:cz)=d0 at RL
 repeat apply Ω
 refine dB (A:=[4]) Υ λΘ θ=>bD ?_;refine eΘ d0 RL 4 3 br br br rfl ?_;intro s d1 ν kγ tL kL;simp;(repeat (rw[al];simp[]));apply θ;clear θ Θ;have uA:=ν.small;obtain⟨N,ck⟩:=aK s.aj.length;obtain⟨im,q1⟩:=aK (s.aj.map (bt I 1));have kQ:im.length=N:=by rw[q1,List.length_map,ck]
 rw[<-ck] at tL;rw[<-ck,<-q1]
 repeat apply Ω
 refine W.iN (A:=[26]) Υ [(3,.ah 0 1 0 0),(4,.ah 6 1 0 0)] [bz d1,.dead,.dead,.dead,.cells 29 1 (im++[.sl true 0 []]),.dead,ek (aT s.ae) (.ms 4 (N+1) 0 (N+1)) (bx s.cells)] ?_ (by
  (try simp);(repeat (rw[al];simp[kQ]));(try simp[kQ]);omega)
 refine W.cut 1 (Nat.zero_le _) [(3,.ah 0 1 0 0),(4,.ao [aT s.ae,.sl false 1 (im++[.sl true 0 []]),bx s.cells])] ζ (λid r b5 ι=>by
  obtain rfl:id=0:=R;simp at ι;subst ι;exact xh d1 _) (λp π=>by
  simp only[List.mem_cons,List.not_mem_nil,or_false] at π;rcases π with rfl|rfl
  ·exact .low (by simp[ki])
  ·refine eJ.struct (id:=6) (t:=26) (k:=3) (l:=[aT s.ae,.ms 4 (N+1) 0 (N+1),bx s.cells]) R ζ rfl (λx a bT J U=>?_)
   match x with
   | 0=>simp at J U;subst J;subst U;exact .low (by simp[η.cells,iG])
   | 1=>
    simp at J U;subst J;subst U;refine eJ.own R rfl (by simp[kQ]) (λe he a κ=>?_);rcases List.mem_append.1 he with he|he
    ·rw[q1] at he;obtain⟨x,_,rfl⟩:=List.mem_map.1 he;simp[η.cells] at κ;subst κ;simp[iG,η.cells]
    ·simp at he;subst he;simp[η.cells] at κ;subst κ;simp[iG]
   | 2=>simp at J U;subst J;subst U;exact .low (by simp[η.cells,iG])
   | x+3=>simp at J) ?_
 rw[q1];rw[ck] at tL;clear q1 kQ im;refine W.eX [(3,.ah 0 1 0 0),(4,.ao [aT s.hF.ae,a6 s.hF.aj,bx s.hF.cells])] (λp π=>by
  simp only[List.mem_cons,List.not_mem_nil,or_false] at π;rcases π with rfl|rfl
  ·exact .refl _
  ·refine c6.ao (.cons (.refl _) (.cons ?_ (.cons (.refl _) .nil)));refine .sl (by simp[aS.hF]) λi a b J U=>?_;simp only[aS.hF,List.map_append,List.map_cons,List.map_nil] at U;by_cases hi:i<s.aj.length
   ·rw[dI (by simpa using hi)] at J U;rw[J] at U;cases U;exact .refl _
   ·rw[hp (by simp;omega)] at J U;cases δ:i-(s.aj.map (bt I 1)).length with
    | zero=>rw[δ] at J U;cases J;cases U;exact .one .nil rfl rfl
    | succ j=>rw[δ] at J;cases J) ?_
 have q7:=FY ν tL
 have Cf:=q7.small
 have rX:s.hF.aj.length=N+1:=by rw[ck];simp[aS.hF]
 obtain⟨D,cY⟩:=aK s.hF;rw[<-cY] at q7 Cf rX ⊢;have hB:IntKind.i64.wrap (((N+1:Nat):Int)-1)=(N:Int):=by rw[IntWalk.i64_in _ R];omega
 have gO:IntKind.i64.wrap (N:Int)=(N:Int):=IntWalk.i64_in _ R;refine aE (υ rX (υ hB gO)) ?_;refine c7 ?_;refine dB (A:=[6]) Υ λΘ θ=>bD ?_;refine dΑ D Cf (.refl _) (by simp[η.cells,iG]) ?_;simp[y8,Ce]
 repeat (rw[al];simp[y8,Ce])
 try rw[pv]
 apply θ;obtain⟨nc,m1⟩:=aK D.cells.length;have k8:nc<=4:=by rw[m1];exact q7.many
 obtain⟨Y,yY⟩:=aK (ek (aT D.ae) (a6 D.aj) (.ms 3 nc 0 nc));refine W.to (σ':=bz d1::.dead::.dead::.cells 60 1 (gK 4 D.cells)::(gv D.cells++[Y])) (env':=[(3,.ah 0 1 0 0),(4,.ao [aT D.ae,a6 D.aj,bx D.cells]),(5,I N),(6,.ah (nc+4) 1 0 0)]) ?_ (by rw[yY];simp[m1]) (by simp[m1,Ce]);refine Η ?_;refine W.iter (λq:Nat×cz×List (List c8)=>q.1<=nc/\q.2.1.a7.length<2 ^ 63/\q.2.2.length=nc/\∀j l,q.2.2[j]?=some l->(q.1<=j/\D.cells[j]?=some l)\/∃x b,j<q.1/\D.cells[j]?=some x/\(0<=b/\b<=63)/\l=x++[⟨N,0,b⟩])
  (λq=>[(3,.ah 0 1 0 0),(4,.ao [aT D.ae,a6 D.aj,bx D.cells]),(5,I N),(6,.ah (nc+4) 1 0 0),(7,I q.1)])
  (λq=>bz q.2.1::.dead::.dead::.cells 60 1 (gK 4 q.2.2)::(gv q.2.2++[Y])) (λq=>nc-q.1) (0,d1,D.cells) ⟨Nat.zero_le _,by simp only;omega,m1.symm,λj l h=>.inl ⟨Nat.zero_le _,h⟩⟩ rfl ζ (λq Ξ vz=>?_)
 obtain⟨c,d,L⟩:=q;obtain⟨eP,du,gd,oA⟩:=Ξ;simp only at eP du gd oA;refine W.to (σ':=bz d::.dead::.dead::.cells 60 1 (gK 4 L)::(gv L++[Y])) (env':=[(3,.ah 0 1 0 0),(4,.ao [aT D.ae,a6 D.aj,bx D.cells]),(5,I N),(6,.ah (nc+4) 1 0 0),(7,I c)]) ?_ rfl ζ;have mr:=Ce L;have tH:=y8 4 L;rw[gd] at mr tH;have KL:∀(ak:List Row) (y:Row),ak.length=nc->(ak++[y])[nc]?=some y:=λak y h=>by rw[<-h];simp
 by_cases mS:c<nc
 case neg=>
  have g:¬(c:Int)<(nc:Int):=R
  have tY:(gv L++[Y])[nc]?=some (ek (aT D.ae) (a6 D.aj) (.ms 3 nc 0 nc)):=by rw[KL _ _ mr,yY]
  refine aE (υ tY (υ tH g)) ?_;refine aA ζ ?_;refine W.exit rfl ?_;have mc:c=nc:=R;refine W.cut 1 (Nat.zero_le _) [(3,.ah 0 1 0 0),(4,.ao [aT D.ae,a6 D.aj,bx D.cells]),(5,I N),(6,.ao [aT D.ae,a6 D.aj,bx L])] ζ (λid r b5 ι=>by
   obtain rfl:id=0:=R;simp at ι;subst ι;exact xh d _) (λp π=>by
   simp only[List.mem_cons,List.not_mem_nil,or_false] at π;rcases π with rfl|rfl|rfl|rfl
   ·exact .low (by simp[ki])
   ·exact .low (by simp[η.cells,iG])
   ·exact .low ζ
   ·refine eJ.struct (id:=nc+4) (t:=26) (k:=3) (l:=[aT D.ae,a6 D.aj,.ms 3 nc 0 nc]) R (by simp[tY]) rfl (λx a bT J U=>?_)
    match x with
    | 0=>simp at J U;subst J;subst U;exact .low (by simp[η.cells,iG])
    | 1=>simp at J U;subst J;subst U;exact .low (by simp[η.cells,iG])
    | 2=>
     simp at J U;subst J;subst U;have:=gπ (h:=1) (b:=4) (id:=3) (σ:=bz d::.dead::.dead::.cells 60 1 (gK 4 L)::(gv L++[Y])) (L:=L) br br (λj l δ=>by
      have e2:j<(gv L).length:=by rw[Ce];exact(bX.1 δ).1
      rw[show 4+j=j+4 by omega];simp only[List.getElem?_cons_succ];rw[dI e2,RK,δ];rfl) rfl
     rw[gd] at this;exact this
    | x+3=>simp at J) ?_
  have FZ:Cd s L:=λj l δ=>by
   rcases oA j l δ with⟨J,_⟩|⟨x,b,J,U,μ,Ε⟩
   ·have:=(bX.1 δ).1;omega
   ·exact⟨x,b,by rw[cY] at U;exact U,μ,by rw[<-ck];exact Ε⟩
  have jh:L.length=s.cells.length:=by rw[gd,m1,cY];rfl
  have ss:=RG ν tL jh FZ
  have KM:=RI jh FZ
  have KN:=gν ν tL jh FZ true
  have KO:=λ{t a f:Int} (J:0<=t/\t<=1) (U:-1<=a/\a<s.ae.length) (μ:-1<=f/\f<s.ae.length)=>gμ ν tL (t:=t) (a:=a) (f:=f) J U μ;obtain⟨X,qU⟩:=aK (s.oc L);have RN:[aT D.ae,a6 D.aj,bx L]=[aT X.ae,a6 X.aj,bx X.cells]:=by rw[qU,cY];rfl
  rw[<-qU] at ss KM KN;rw[<-cY] at KM KN;rw[show s.ae=D.ae by rw[cY];rfl,<-ck,<-cY] at KO;rw[RN];have gς:=q7.ae.hi;obtain⟨su,F0⟩:=aK D.ae.length;rw[<-F0] at KO gς;have gτ:=λ(t a f:Int)=>PX D Cf [2,t] [a,f] N;clear RN qU FZ jh vz;refine Η ?_;refine W.iter (λq:Nat×cz=>q.1<=su+1/\q.2.a7.length<2 ^ 63) (λq=>[(3,.ah 0 1 0 0),(4,.ao [aT D.ae,a6 D.aj,bx D.cells]),(5,I N),(6,.ao [aT X.ae,a6 X.aj,bx X.cells]),(8,I ((q.1:Int)-1))]) (λq=>[bz q.2]) (λq=>su+1-q.1) (0,d) ⟨Nat.zero_le _,du⟩ rfl ζ (λq Ξ ω=>?_);obtain⟨k,e⟩:=q;obtain⟨r1,r2⟩:=Ξ;simp only at r1 r2;refine W.to (σ':=[bz e]) (env':=[(3,.ah 0 1 0 0),(4,.ao [aT D.ae,a6 D.aj,bx D.cells]),(5,I N),(6,.ao [aT X.ae,a6 X.aj,bx X.cells]),(8,I ((k:Int)-1))]) ?_ rfl ζ;by_cases χ:k<su+1
  case neg=>
   have g:¬(k:Int)-1<(su:Int):=R;(repeat (first|apply Ω|(refine dx λΘ θ=>?_;simp;(repeat (rw[al];simp[F0.symm,g]));apply θ)));refine aA ζ ?_;refine W.exit rfl ?_;have RO:=KC q7;have wZ:=NT D Cf (dN D) RO (Rq q7) (by rw[Rs];have:=Ru q7 3;omega);have F1:=NT X ss.small (dN X) (KC ss) (Rq ss) (by rw[Rs];have:=Ru ss 3;omega);have RP:∀{s:aS},(eK s true (dN s)).2.2=0->s.err=0->dN s≠[]:=λ{s} h he ev=>by
    unfold eK at h;rw[ev,he] at h;simp at h
   have RQ:=Iq D Cf _ RO true xB 255 br Ry (λh=>RE q7 (RP h q7.err) true)
   have KP:=Iq X ss.small _ (KC ss) true xB 255 br Ry (λh=>RE ss (RP h ss.err) true);rw[q7.err] at wZ;rw[ss.err,KM] at F1;rw[KN] at KP;simp only[if_true] at wZ F1;generalize g3 (dN D)=uM at wZ F1;generalize pE D (dN D) true xB=B at RQ KP;obtain⟨B,fZ⟩:=B;refine bh λΘ θ=>?_;refine az.d (wZ) (bD ?_);apply θ;refine bh λΘ θ=>?_;refine az.d (F1) (bD ?_);apply θ;refine bh λΘ θ=>?_;refine az.d (RQ) (bD ?_);apply θ;refine bh λΘ θ=>?_;refine az.d (KP) (bD ?_);apply θ;refine bh λΘ θ=>?_;refine az.d (cν) (bD ?_);apply θ;exact W.stop ⟨⟨_,rfl⟩,rfl⟩
  have g:(k:Int)-1<(su:Int):=R;(repeat (first|apply Ω|(refine dx λΘ θ=>?_;simp;(repeat (rw[al];simp[F0.symm,g]));apply θ)));refine aD ζ ?_;have zf:=sm e r2 1;obtain⟨t0,t1⟩:=qW e 1 br br;obtain⟨t,Ν⟩:=b2 (hD e 1);obtain⟨Γ,te⟩:=b2 (e.after 1);have RR:Γ.a7.length<2 ^ 63:=by rw[<-te];exact Nat.lt_of_le_of_lt (k' _ _) r2
  rw[Ν,te] at zf;rw[Ν] at t0 t1;have F2:IntKind.i64.wrap ((D.ae.length:Int)-1)=(su:Int)-1:=by rw[<-F0];exact IntWalk.i64_in _ R
  have kq:=BN Γ RR (-1) ((su:Int)-1);obtain⟨f0,f1⟩:=BR Γ (a:=-1) (b:=(su:Int)-1) R R R;obtain⟨f,Τ⟩:=b2 (oX Γ (-1) ((su:Int)-1));obtain⟨KQ,g2⟩:=b2 (Γ.after (IntKind.i64.wrap ((su:Int)-1- -1)));have gυ:KQ.a7.length<2 ^ 63:=by rw[<-g2];exact Nat.lt_of_le_of_lt (k' _ _) RR
  rw[Τ,g2] at kq;rw[Τ] at f0 f1;have hv:=gτ t ((k:Int)-1) f;rw[KO ⟨t0,t1⟩ ⟨R,R⟩ ⟨f0,R⟩] at hv;have wW:IntKind.i64.wrap (k:Int)=(k:Int):=IntWalk.i64_in _ R;have ω:=ω (k+1,KQ) ⟨by simp only;omega,gυ⟩ (by simp only;omega);obtain⟨gφ,gχ⟩:=aK ([aT X.ae,a6 X.aj,bx X.cells]);simp only[<-gχ] at ω ⊢
  repeat apply Ω
  refine W.JK (A:=[]) Υ mixed [(3,.ah 0 1 0 0),(4,.ao [aT D.ae,a6 D.aj,bx D.cells]),(5,I N),(6,.ao gφ),(8,I ((k:Int)-1)),(9,I 0),(10,I 0)] [bz KQ] ?_ (by
   simp;(repeat (rw[oZ];simp[F2]));(try rw[oY]);refine ee.h (zf) (xe ?_);simp[F2];(repeat (rw[oZ];simp[F2]));(try rw[oY]);refine ee.h (kq) (BM F2 ?_);refine cΕ (az.p hv (.cons (.refl _) (.cons .ex (.cons .ex (.cons (.refl _) .nil)))) ζ ζ) ?_;simp;(repeat (rw[oZ];simp[]));(try rw[oY]);refine⟨hg (by kernel_rfl),hg (by kernel_rfl),?_⟩;simp)
  refine Η ?_;refine aA ζ ?_;refine aE wW ?_;refine W.to ω ?_ ζ;simp
 have g:(c:Int)<(nc:Int):=R
 have wT:=ho (i:=c) R;obtain⟨x,γ⟩:∃x,L[c]?=some x:=⟨_,a8 R⟩;have RS:D.cells[c]?=some x:=by
  rcases oA c x γ with h|⟨_,_,h,_⟩
  ·exact h.2
  ·omega
 have nN:x.length<=4:=by
  have:=(q7.cells x (cG RS)).hi;exact this
 have sS:=sm d du 63;obtain⟨dd,bC⟩:=qW d 63 br br;obtain⟨b,hb⟩:=b2 (hD d 63);obtain⟨cJ,qs⟩:=b2 (d.after 63);have FT:cJ.a7.length<2 ^ 63:=by rw[<-qs];exact Nat.lt_of_le_of_lt (k' _ _) du
 rw[hb,qs] at sS;rw[hb] at dd bC;have vz:=vz (c+1,cJ,L.set c (x++[⟨N,0,b⟩])) ⟨by simp only;omega,FT,by simpa using gd,λj l h=>by
  simp only at h;by_cases e:c=j
  ·subst e;rw[List.getElem?_set_self R] at h;cases h;exact .inr ⟨x,b,ζ,RS,⟨dd,bC⟩,rfl⟩
  ·rw[List.getElem?_set_ne e] at h;rcases oA j l h with⟨J,U⟩|⟨y,z,J,U,μ,Ε⟩
   ·exact .inl ⟨by simp only;omega,U⟩
   ·exact .inr ⟨y,z,by simp only;omega,U,μ,Ε⟩⟩ (by simp only;omega)
 simp only[gξ,gο] at vz;have Cg:(gK 4 L)[c]?=some (.ms (c+4) x.length 0 x.length):=by rw[RJ,γ,Nat.add_comm];rfl
 have zU:(gv L++[Y])[c]?=some (.cells 28 3 (x.map eB)):=by rw[dI R,RK,γ];rfl
 have KR:∀z,(gv L++[Y]).set c z=(gv L).set c z++[Y]:=λz=>List.set_append_left _ _ R
 have RU:∀z,((gv L).set c z++[Y])[c]?=some z:=λz=>by rw[dI (by rw[List.length_set];omega),List.getElem?_set_self R]
 have tY:(gv L++[Y])[nc]?=some (ek (aT D.ae) (a6 D.aj) (.ms 3 nc 0 nc)):=by rw[KL _ _ mr,yY]
 have KS:∀z,((gv L).set c z++[Y])[nc]?=some (ek (aT D.ae) (a6 D.aj) (.ms 3 nc 0 nc)):=λz=>by rw[KL _ _ (by simpa using mr),yY]
 rw[Nat.add_comm 4 c] at vz;obtain⟨M,dG⟩:=aK (gK 4 L);obtain⟨ak,aI⟩:=aK (gv L);rw[<-dG] at tH Cg vz ⊢;rw[<-aI] at mr zU KR RU tY KS vz ⊢;clear dG aI;have RV:∀h,M[c]'h=.ms (c+4) x.length 0 x.length:=λh=>by rw[a8 h] at Cg;exact Option.some.inj Cg
 refine aE (υ tY (υ tH g)) ?_;refine aD ζ ?_
 repeat apply Ω
 refine W.QC [0,1,3,4,6,7] [10,13] [3,nc+4] (A:=[54]) Υ mixed λΘ θ=>?_;simp[tY]
 repeat (rw[JU];simp[JS,seen,pP,tY,KS,tH,Cg,RV,zU,KR,mS])
 refine ee.d sS 0 ζ (bI.refl _) ζ ζ ?_;simp[seen,tY]
 repeat (rw[JU];simp[JS,seen,pP,tY,KS,tH,Cg,RV,zU,KR,RU,mS])
 try rw[Qx]
 refine⟨R,HY (by kernel_rfl),θ _ _ ?_⟩;refine aE wT ?_;refine W.to vz ?_ ζ;simp[eB]
theorem gψ:(laidOutB Tryz.prog)=true:=by kernel_rfl
theorem gω:(mapsRowed Tryz.prog)=true:=by kernel_rfl
theorem gΑ:((Tryz.prog.stops==[]))=true:=by kernel_rfl
theorem gΒ:((Tryz.prog.stopKnobs==[]))=true:=by kernel_rfl
theorem gΓ:(Tryz.prog.stopsHeard)=true:=by kernel_rfl
theorem gΔ:(Tryz.prog.mayEnter)=true:=by kernel_rfl
theorem gΕ:(YtlabjopijpkiaaaGreat.Rows.lightBlindRow.wf (OpenSpec.ofChange YtlabjopijpkiaaaGreat.Rows.lightBlindSpec))=true:=by kernel_rfl
theorem gΖ:(Tryz.f6.params.all (Tryz.prog.readableRec ·))=true:=by kernel_rfl
theorem gΗ:(namedTie Tryz.prog YtlabjopijpkiaaaGreat.Rows.lightBlindRow.named YtlabjopijpkiaaaGreat.Rows.lightBlindSpec.vars)=true:=by kernel_rfl
theorem gΘ:((YtlabjopijpkiaaaGreat.Rows.lightBlindRow.stops==[]))=true:=by kernel_rfl
theorem gΙ:((YtlabjopijpkiaaaGreat.Rows.lightBlindRow.knobs==[]))=true:=by kernel_rfl
theorem gΚ:((YtlabjopijpkiaaaGreat.Rows.lightBlindRow.inPlace==Tryz.prog.inPlace 6))=true:=by kernel_rfl
theorem gΜ:((YtlabjopijpkiaaaGreat.Rows.lightBlindRow.unfollowed==Tryz.prog.unfollowed 6))=true:=by kernel_rfl
theorem gΝ:((YtlabjopijpkiaaaGreat.Rows.lightBlindRow.recurses==Tryz.prog.recurses 6))=true:=by kernel_rfl
theorem gΞ:((YtlabjopijpkiaaaGreat.Rows.lightBlindRow.named==Tryz.prog.varsNamed 6))=true:=by kernel_rfl
theorem gΟ:((YtlabjopijpkiaaaGreat.Rows.lightBlindRow.maps==(Tryz.f6.params.toList++YtlabjopijpkiaaaGreat.Rows.lightBlindSpec.plain.varTypes Tryz.prog).any (Tryz.prog.mapsRec ·)))=true:=by kernel_rfl
theorem gΡ:((YtlabjopijpkiaaaGreat.Rows.lightBlindRow.ifaces==(Tryz.f6.params.toList++YtlabjopijpkiaaaGreat.Rows.lightBlindSpec.plain.varTypes Tryz.prog).any (Tryz.prog.ifacesRec ·)))=true:=by kernel_rfl
theorem gΤ:((YtlabjopijpkiaaaGreat.Rows.lightBlindRow.mapsOut==Tryz.prog.mapsAmong Tryz.f6.resultTypes.toList))=true:=by kernel_rfl
theorem gΥ:((YtlabjopijpkiaaaGreat.Rows.lightBlindRow.loops==(Tryz.f6.params.toList++YtlabjopijpkiaaaGreat.Rows.lightBlindSpec.plain.varTypes Tryz.prog).any (Tryz.prog.loopsFrom ·)))=true:=by kernel_rfl
theorem gΦ:((YtlabjopijpkiaaaGreat.Rows.lightBlindRow.wideKeys==(Tryz.f6.params.toList++YtlabjopijpkiaaaGreat.Rows.lightBlindSpec.plain.varTypes Tryz.prog++Tryz.f6.resultTypes.toList).any (Tryz.prog.wideKeysFrom ·)))=true:=by kernel_rfl
theorem gΧ:(YtlabjopijpkiaaaGreat.Rows.lightBlindSpec.vars.all (Tryz.prog.varReadable ·))=true:=by kernel_rfl
theorem gΨ:(Tryz.f6.resultTypes.all (λt=>Tryz.prog.readableRec t&&decide (t<Tryz.prog.types.size)))=true:=by kernel_rfl
theorem gΩ:((YtlabjopijpkiaaaGreat.Rows.lightBlindRow.ifacesOut==Tryz.f6.resultTypes.toList.any (Tryz.prog.ifacesRec ·)))=true:=by kernel_rfl
theorem hα:((YtlabjopijpkiaaaGreat.Rows.lightBlindRow.loopsOut==Tryz.f6.resultTypes.toList.any (Tryz.prog.loopsFrom ·)))=true:=by kernel_rfl
theorem hβ:((YtlabjopijpkiaaaGreat.Rows.lightBlindRow.plainKeys==Tryz.prog.plainKeys))=true:=by kernel_rfl
theorem hγ:(YtlabjopijpkiaaaGreat.Rows.lightBlindRow.shortTexts.isNone)=true:=by kernel_rfl
theorem hδ:((YtlabjopijpkiaaaGreat.Rows.lightBlindRow.lifted==Tryz.prog.liftsFinal))=true:=by kernel_rfl
theorem hε:((Tryz.prog.make==some YtlabjopijpkiaaaGreat.Rows.lightBlindRow.make))=true:=by kernel_rfl
theorem hζ:((YtlabjopijpkiaaaGreat.Rows.lightBlindRow.kinds==(if YtlabjopijpkiaaaGreat.Rows.lightBlindRow.domain.isEmpty then [] else Tryz.f6.params.toList.map λt=>match Tryz.prog.underlying t with|some (.int k)=>some k|_=>none)))=true:=by kernel_rfl
theorem hη:((YtlabjopijpkiaaaGreat.Rows.lightBlindRow.pinned==YtlabjopijpkiaaaGreat.Rows.lightBlindRow.pinnedBy))=true:=by kernel_rfl
theorem hθ:((YtlabjopijpkiaaaGreat.Rows.lightBlindRow.veiled==(Tryz.f6.params.toList++YtlabjopijpkiaaaGreat.Rows.lightBlindSpec.plain.varTypes Tryz.prog++Tryz.f6.resultTypes.toList).any (Tryz.prog.veiledRec ·)))=true:=by kernel_rfl
theorem hι:(YtlabjopijpkiaaaGreat.Rows.lightBlindRow.veiledFits Tryz.prog Tryz.f6.params.toList (Tryz.f6.params.toList++YtlabjopijpkiaaaGreat.Rows.lightBlindSpec.plain.varTypes Tryz.prog++Tryz.f6.resultTypes.toList))=true:=by kernel_rfl
theorem hκ:joinedFacts Tryz.prog 6 Tryz.f6 YtlabjopijpkiaaaGreat.Rows.lightBlindSpec YtlabjopijpkiaaaGreat.Rows.lightBlindRow=true:=by
 unfold joinedFacts;simp only[Bool.and_eq_true];exact⟨⟨⟨⟨⟨⟨⟨⟨⟨⟨⟨⟨⟨⟨⟨⟨⟨⟨⟨⟨⟨⟨⟨⟨⟨⟨⟨⟨⟨⟨⟨gΕ,gψ⟩,gω⟩,gΖ⟩,gΗ⟩,gΘ⟩,gΑ⟩,gΙ⟩,gΒ⟩,gΚ⟩,gΜ⟩,gΝ⟩,gΞ⟩,gΟ⟩,gΡ⟩,gΤ⟩,gΥ⟩,gΦ⟩,gΧ⟩,gΨ⟩,gΩ⟩,hα⟩,hβ⟩,hγ⟩,gΓ⟩,gΔ⟩,hδ⟩,hε⟩,hζ⟩,hη⟩,hθ⟩,hι⟩
end Go.TL
namespace Go.TL
open Go.Conc Go.ConcM Go.Proofs
open Go.ChangeShapes Go.WideShapes Go.ChangeAt Go.RowKit
set_option maxRecDepth 100000 in
theorem hμ (hW:∀(W:World) (l:List Int) (v:Value),l.length<2 ^ 63->av (qY W) [] [] (bt I 1 l) v->Comes Tryz.prog (λv=>v=.bool true) W (solo (Go.Conc.G (Frame.enter Tryz.prog 6 #[v] .normal) []) W) #[])
  (os:Os) (started:os.Started) (H:Type) (enc:TypeId×Value->H) (F:Stop.Interp) :
  ReturnsInLeavingWide YtlabjopijpkiaaaGreat.Rows.lightBlindRow.assume Tryz.checked os 6 .any (YtlabjopijpkiaaaGreat.Rows.lightBlindSpec.pre6 enc Tryz.prog Tryz.f6 YtlabjopijpkiaaaGreat.Rows.lightBlindRow.domain YtlabjopijpkiaaaGreat.Rows.lightBlindRow.apart)
   ((OpenSpec.ofChange YtlabjopijpkiaaaGreat.Rows.lightBlindSpec).postWith enc Tryz.prog Tryz.f6 F (outsideKept [.timePasses]) YtlabjopijpkiaaaGreat.Rows.lightBlindRow.apart YtlabjopijpkiaaaGreat.Rows.lightBlindRow.fresh YtlabjopijpkiaaaGreat.Rows.lightBlindRow.handsOn):=by
 refine returnsInLeavingWide_of_change_time (C:=Tryz.checked) dθ started Tryz.func6
  (ChangeSpec.witness6c (enc:=enc) (C:=Tryz.checked) ⟨#[],#[.slice none 0 0],[]⟩ 8 (by kernel_rfl) (by kernel_rfl) (by kernel_rfl) (by kernel_rfl)) ?_
 intro W base args ds gs before hν RX _ _ _;have Fu:∀(j:Nat) t v,Tryz.f6.params[j]?=some t->args[j]?=some v->Value.okWide Tryz.prog W .any base t v:=hν;have RY:=RX;obtain⟨p,q,hξ,Gq,rfl,Mh,kZ⟩:=RX;have bY:DataW.TrodAll enc Tryz.prog W 0 (λ_=>true) true Tryz.f6.params.toList args.toList ds p:=hξ;rw[Tryz.params6] at bY Fu;obtain⟨v0,d0,rfl,rfl,an⟩:=trodAll_one bY;obtain⟨rfl,rfl⟩:=trodVars_none Gq;have aO:∀x∈p,x.block<W.heap.size:=λx γ=>by simpa using RY.lt x (List.mem_append_left _ γ)
 have m4:∀(KT:World),Below W.heap.size W KT->DataW.Trod enc Tryz.prog KT 0 (λb=>decide (b<W.heap.size)) true 29 v0 d0 p:=
  λKT Ζ=>Below.trod dι (by kernel_rfl) (of_decide_eq_true (by kernel_rfl)) an Ζ aO
 obtain⟨l,ξ,Dt⟩:∃l:List Int,l.length<2 ^ 63/\av (qY W) [] [] (bt I 1 l) v0:=by
  obtain⟨xj,len,cap,rfl⟩:=okWide_slice Tryz.underlying29 (Fu 0 29 v0 rfl rfl);obtain⟨kδ,Τ⟩:=an;rcases open_ints Tryz.underlying29 Tryz.underlying3 dκ Τ with⟨iZ,γ⟩|⟨a,kε,G9,gp,iZ,_,ξ,hm,Φ,γ,yB,kζ⟩
  ·simp[Value.cells] at iZ;obtain⟨rfl,rfl,rfl⟩:=iZ;exact⟨[],br,.iB _ _ ζ⟩
  ·simp[Value.cells] at iZ;obtain⟨rfl,rfl,rfl⟩:=iZ;simp only[if_true] at Φ;refine⟨gp.take len,?_,dν ξ R yB⟩;rw[List.length_take];unfold maxLen at hm;omega
 obtain⟨M,last,o,w',t',r1,r2,r3,v,e,π,Ρ,aa,aX,ca⟩:=hW W l v0 ξ Dt;refine⟨M,last,o,w',t',r1,r2,r3,v,e,⟨?_,π.2.os⟩,Ρ,aa,aX,ca⟩;obtain⟨rfl,χ⟩:=π;exact⟨_,_,_,[],_,[],RY,trodAll_mk1 (shut_bool Tryz.underlying4 _),trodAll_mk1 (m4 _ χ.below),rfl,χ.below.frame _,λh=>by cases h⟩
theorem hο (W:World) (l:List Int) (v:Value) (ξ:l.length<2 ^ 63) (ι:av (qY W) [] [] (bt I 1 l) v):Comes Tryz.prog (λv=>v=.bool true) W (solo (Go.Conc.G (Frame.enter Tryz.prog 6 #[v] .normal) []) W) #[]:=
 dη (d:=2) (l:=[bt I 1 l]) Tryz.func6 rfl (by kernel_rfl) (by kernel_rfl) ⟨rfl,λi a u J U=>by
  match i with
  | 0=>simp at J U;subst J;subst U;exact ι
  | i+1=>simp at J⟩ (by rw[Tryz.ntmps6];simp) (gρ l ξ)
end Go.TL
namespace Go.Proofs.YtlabjopijpkiaaaGreat
open Go.TL
theorem light_blind:Rows.LightBlindSaid:=
 OpenClaim.holds_of_wide_leaving_time 6 Tryz.f6 rfl rfl rfl rfl rfl rfl rfl ⟨rfl,rfl,rfl,rfl,rfl⟩ rfl rfl rfl rfl rfl (by kernel_rfl) Tryz.func6 hκ
  (of_decide_eq_true (by kernel_rfl)) (by unfold Func.isWrapper;first|(rw[if_pos (by decide +kernel)];kernel_rfl)|(rw[if_neg (by decide +kernel)];exact⟨rfl,rfl⟩))
  (λos started H enc _ F=>hμ hο os started H enc F)
end Go.Proofs.YtlabjopijpkiaaaGreat
