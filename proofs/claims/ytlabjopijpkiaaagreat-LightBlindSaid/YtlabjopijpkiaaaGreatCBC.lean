import Derived.Test.YtlabjopijpkiaaaGreatCAS
import Derived.Test.YtlabjopijpkiaaaGreatCAY
import Derived.Test.YtlabjopijpkiaaaGreatCBA
import Derived.Test.YtlabjopijpkiaaaGreatCBB
set_option maxHeartbeats 16000000
set_option maxRecDepth 20000
set_option linter.unusedSectionVars false
set_option linter.unusedSimpArgs false
set_option linter.unusedVariables false
namespace Go.TL
open Go.Proofs
variable [bp]
theorem fθ (n:Nat) (ν:n<50) (ay:η) (cmp:Int×Int->Int×Int->Int) (b8:aJ 0 ay) (Τ:∀x y,gi Tryz.prog ay [aG x,aG y] (I (cmp x y))) (gh:Go.Sort.SWO (aB cmp)):∀(k:Nat) (d:Array (Int×Int)) (a b lim:Nat),d.size=n->b-a<=k->a<=b->b<=n->lim<2 ^ 40->Go.Sort.Below (aB cmp) a b d->
  ab Tryz.prog 211 [.ms 0 n 0 n,I a,I b,I lim,ay] [.cells 112 2 ((d).toList.map aG)] (λr s=>r=.bq []/\s=[.cells 112 2 ((Go.Sort.pdq (aB cmp) d a b lim true true).toList.map aG)]) (λ_ _=>False):=by
 intro k
 induction k using Nat.strongRecOn with
 | _ k sK=>
 intro d a b lim Ζ χ eO hb tS dX;refine ab.body Υ Tryz.func211 rfl rfl Tryz.ntmps211 rfl rfl ζ ?_;obtain⟨ak,fq⟩:=b2 (Go.Sort.pdq (aB cmp) d a b lim true true);rw[fq];refine Η ?_;refine W.iter (λq:Ri (Int×Int)=>q.e.size=n/\q.a<=q.b/\q.b<=n/\q.b-q.a<=k/\q.lim<2 ^ 40/\Go.Sort.Below (aB cmp) q.a q.b q.e/\Go.Sort.pdq (aB cmp) q.e q.a q.b q.lim q.wb q.wp=ak) (λq=>[(0,.ms 0 n 0 n),(1,I (q.a:Nat)),(2,I (q.b:Nat)),(3,I (q.lim:Nat)),(4,ay),(10,a' q.wb),(11,a' q.wp)]) (λq=>[.cells 112 2 ((q.e).toList.map aG)]) (λq=>q.b-q.a) ⟨a,b,lim,true,true,d⟩ ⟨Ζ,eO,hb,χ,tS,dX,fq⟩ rfl ζ (λq Ξ ω=>?_);clear fq dX tS hb eO χ;obtain⟨a,b,lim,wb,wp,e⟩:=q;obtain⟨cq,eO,hb,χ,tS,dX,aI⟩:=Ξ;simp only at cq eO hb χ tS dX aI;obtain⟨l,ξ⟩:=aK (b-a);have w1:IntKind.i64.wrap ((b:Int)-(a:Int))=(l:Int):=by rw[IntWalk.i64_in _ R];omega
 refine W.to (σ':=[.cells 112 2 ((e).toList.map aG)]) (env':=[(0,.ms 0 n 0 n),(1,I (a:Nat)),(2,I (b:Nat)),(3,I (lim:Nat)),(4,ay),(10,a' wb),(11,a' wp)]) ?_ rfl ζ;by_cases gU:b-a<=12
 ·have g:(l:Int)<=12:=by omega
  refine aE (υ w1 g) ?_;refine aD ζ ?_;refine bh λΘ θ=>?_;refine ab.call (first:=[]) (captured:=[]) ((NI e n a b cq eO hb R ay cmp b8 Τ).mono (λr s ⟨b9,bZ⟩=>?_) (λ_ _ h=>h.elim));subst b9;subst bZ;simp;(repeat (rw[al];simp[]));apply θ;rw[Go.Sort.pdq_small gU] at aI;exact W.ret ⟨_,rfl,rfl,by rw[<-aI]⟩
 have g:¬(l:Int)<=12:=R;refine aE (υ w1 g) ?_;refine aA ζ ?_;by_cases an:lim=0
 ·have cQ:(lim:Int)=0:=by omega
  refine aE cQ ?_;refine aD (by simp[an]) ?_;refine bh λΘ θ=>?_;refine ab.call (first:=[]) (captured:=[]) ((fα e n a b cq R R hb ay cmp b8 Τ).mono (λr s ⟨b9,bZ⟩=>?_) (λ_ _ h=>h.elim));subst b9;subst bZ;simp;(repeat (rw[al];simp[]));apply θ;rw[Go.Sort.pdq_heap gU an] at aI;exact W.ret ⟨_,rfl,rfl,by rw[<-aI]⟩
 have cQ:¬(lim:Int)=0:=R;refine aE cQ ?_;refine aA (by simp[an]) ?_;refine Η ?_;have F:=Go.Sort.rd_facts (limit:=lim) (wb:=wb) (wp:=wp) gh Go.Sort.partialInsertionSort_holds Go.Sort.reverseRange_holds (by omega:a<b) R dX;have B9:=Go.Sort.rd_lim_le (lt:=(aB cmp)) (d:=e) (a:=a) (b:=b) (limit:=lim) (wb:=wb) (wp:=wp);have tT:=λh:wb=false=>show(Go.Sort.rd (aB cmp) e a b lim wb wp).d1=Go.Sort.breakPatterns e a b/\(Go.Sort.rd (aB cmp) e a b lim wb wp).lim=lim-1 by subst h;exact Go.Sort.rd_false
 have tU:=λh:wb=true=>show(Go.Sort.rd (aB cmp) e a b lim wb wp).d1=e/\(Go.Sort.rd (aB cmp) e a b lim wb wp).lim=lim by subst h;exact Go.Sort.rd_true
 have tV:=Go.Sort.rd_c (lt:=(aB cmp)) (d:=e) (a:=a) (b:=b) (limit:=lim) (wb:=wb) (wp:=wp)
 have Fd:=Go.Sort.rd_dec (lt:=(aB cmp)) (d:=e) (a:=a) (b:=b) (limit:=lim) (wb:=wb) (wp:=wp)
 have Fn:=Go.Sort.rd_not (lt:=(aB cmp)) (d:=e) (a:=a) (b:=b) (limit:=lim) (wb:=wb) (wp:=wp)
 have q3:=Go.Sort.rd_pi_yes (lt:=(aB cmp)) (d:=e) (a:=a) (b:=b) (limit:=lim) (wb:=wb) (wp:=wp)
 have q4:=Go.Sort.rd_pi_no (lt:=(aB cmp)) (d:=e) (a:=a) (b:=b) (limit:=lim) (wb:=wb) (wp:=wp)
 have iu:=Go.Sort.pdq_done (lt:=(aB cmp)) (d:=e) (wb:=wb) (wp:=wp) gU an
 have gL:=Go.Sort.pdq_eq (lt:=(aB cmp)) (d:=e) (wb:=wb) (wp:=wp) gU an
 have fG:=Go.Sort.pdq_left (lt:=(aB cmp)) (d:=e) (wb:=wb) (wp:=wp) gU an
 have fH:=Go.Sort.pdq_right (lt:=(aB cmp)) (d:=e) (wb:=wb) (wp:=wp) gU an;rw[aI] at iu gL fG fH;obtain⟨r,ι⟩:=b2 (Go.Sort.rd (aB cmp) e a b lim wb wp);rw[ι] at F B9 tT tU tV Fd Fn q3 q4 iu gL fG fH;clear ι;obtain⟨d1,eA,⟨xv,ch⟩,d2,h3,q5,d3,done⟩:=r;simp only at F B9 tT tU tV Fd Fn q3 q4 iu gL fG fH;obtain⟨xw,fι,fκ,xx,fμ,lQ,lR,Ca⟩:=F;rw[cq] at xw xx lR;refine W.upto [(0,.ms 0 n 0 n),(1,I (a:Nat)),(2,I (b:Nat)),(3,I (eA:Nat)),(4,ay),(10,a' wb),(11,a' wp),(12,I (l:Nat))] [.cells 112 2 ((d1).toList.map aG)] ?_ ?_
 ·cases wb with
  | false=>
   obtain⟨f1,f2⟩:=tT rfl;refine aD rfl ?_;refine bh λΘ θ=>?_;refine ab.call (first:=[]) (captured:=[]) ((fη e n a b cq R R R hb ay cmp b8 Τ).mono (λr s ⟨b9,bZ⟩=>?_) (λ_ _ h=>h.elim));subst b9;subst bZ;simp;(repeat (rw[al];simp[]));apply θ;have w2:=h2 (i:=lim) R R;refine nU w2 ?_;exact W.stop ⟨rfl,by rw[f1],by simp[f2]⟩
  | true=>
   obtain⟨f1,f2⟩:=tU rfl;refine aA rfl ?_;refine W.skip ?_;exact W.stop ⟨rfl,by rw[f1],by simp[f2]⟩
 have xy:=fδ d1 n a b xw R R R hb ay cmp b8 Τ;rw[<-tV] at xy;simp only at xy;refine bh λΘ θ=>?_;refine ab.call (first:=[]) (captured:=[]) ((xy).mono (λr s ⟨b9,bZ⟩=>?_) (λ_ _ h=>h.elim));subst b9;subst bZ;simp;(repeat (rw[al];simp[]));apply θ;refine W.to (σ':=[.cells 112 2 ((d1).toList.map aG)]) (env':=[(0,.ms 0 n 0 n),(1,I (a:Nat)),(2,I (b:Nat)),(3,I (eA:Nat)),(4,ay),(10,a' wb),(11,a' wp),(12,I (l:Nat)),(13,I (xv:Nat)),(14,I (pT ch))]) ?_ rfl ζ;refine Η ?_;refine W.upto [(0,.ms 0 n 0 n),(1,I (a:Nat)),(2,I (b:Nat)),(3,I (eA:Nat)),(4,ay),(10,a' wb),(11,a' wp),(12,I (l:Nat)),(13,I (h3:Nat)),(14,I (pT q5))] [.cells 112 2 ((d2).toList.map aG)] ?_ ?_
 ·by_cases hd:ch=.decreasing
  ·obtain⟨f1,f2,f3⟩:=Fd hd;subst hd;refine aD rfl ?_;refine bh λΘ θ=>?_;refine ab.call (first:=[]) (captured:=[]) ((fβ d1 n a b xw R R hb ay cmp b8 Τ).mono (λr s ⟨b9,bZ⟩=>?_) (λ_ _ h=>h.elim));subst b9;subst bZ;simp;(repeat (rw[al];simp[]));apply θ;have w2:=h2 (i:=b) R R;have w3:=vw (a:=a) (b:=xv) R R;have w4:=vw (a:=xv-a) (b:=b-1) R R;rw[<-f2] at w4;refine W.seq ?_;refine nU (υ w2 (υ w3 w4)) ?_;refine lE ?_;exact W.stop ⟨rfl,by rw[f1],by simp[f3,pT]⟩
  ·obtain⟨f1,f2,f3⟩:=Fn hd;refine aA (by cases ch with
    | decreasing=>exact absurd rfl hd
    | unknown=>rfl
    | increasing=>rfl) ?_
   refine W.skip ?_;exact W.stop ⟨rfl,by rw[f1],by simp[f2,f3]⟩
 repeat apply Ω
 refine W.s6 (A:=[]) Υ [(75,a' (wb&&wp&&decide (q5=.increasing))),(0,.ms 0 n 0 n),(1,I (a:Nat)),(2,I (b:Nat)),(3,I (eA:Nat)),(4,ay),(10,a' wb),(11,a' wp),(12,I (l:Nat)),(13,I (h3:Nat))] ?_ (by cases wb<;>cases wp<;>cases q5<;>simp[al,pv,pT])
 repeat apply Ω
 rcases Bool.eq_false_or_eq_true done with hM|hM
 ·cases ε:(wb&&wp&&decide (q5=.increasing)) with
  | true=>
   have f:=q3 ε;refine aD rfl ?_;have gM:=Rm d2 n a b xx R R R hb ay cmp b8 Τ;rw[<-f] at gM;simp only[hM] at gM;refine bh λΘ θ=>?_;refine ab.call (first:=[]) (captured:=[]) ((gM).mono (λr s ⟨b9,bZ⟩=>?_) (λ_ _ h=>h.elim));subst b9;subst bZ;simp;(repeat (rw[al];simp[]));apply θ;refine aD rfl ?_;exact W.ret ⟨_,rfl,rfl,by rw[iu hM]⟩
  | false=>
   have f:=(Prod.mk.inj (q4 ε)).2;rw[hM] at f;cases f
 refine W.upto [(0,.ms 0 n 0 n),(1,I (a:Nat)),(2,I (b:Nat)),(3,I (eA:Nat)),(4,ay),(10,a' wb),(11,a' wp),(12,I (l:Nat)),(13,I (h3:Nat))] [.cells 112 2 ((d3).toList.map aG)] ?_ ?_
 ·cases ε:(wb&&wp&&decide (q5=.increasing)) with
  | true=>
   have f:=q3 ε;refine aD rfl ?_;have gM:=Rm d2 n a b xx R R R hb ay cmp b8 Τ;rw[<-f] at gM;simp only[hM] at gM;refine bh λΘ θ=>?_;refine ab.call (first:=[]) (captured:=[]) ((gM).mono (λr s ⟨b9,bZ⟩=>?_) (λ_ _ h=>h.elim));subst b9;subst bZ;simp;(repeat (rw[al];simp[]));apply θ;refine aA rfl ?_;refine W.skip ?_;exact W.stop ⟨rfl,rfl,ζ⟩
  | false=>
   have f1:=(Prod.mk.inj (q4 ε)).1;refine aA rfl ?_;refine W.skip ?_;exact W.stop ⟨rfl,by rw[f1],ζ⟩
 clear iu q3 q4 Fd Fn tV tT tU;have gL:=gL hM;have fG:=fG hM;have fH:=fH hM;obtain⟨P,nx⟩:=b2 ((decide (a > 0)&&!aB cmp d3[a-1]! d3[h3]!):Bool);rw[nx] at gL fG fH
 repeat apply Ω
 refine W.yn (A:=[]) Υ mixed [(97,a' P),(0,.ms 0 n 0 n),(1,I (a:Nat)),(2,I (b:Nat)),(3,I (eA:Nat)),(4,ay),(10,a' wb),(11,a' wp),(12,I (l:Nat)),(13,I (h3:Nat))] ?_ (by
  by_cases κ:0<a
  ·obtain⟨p,π⟩:=aK (a-1);have aC:p<n:=R;have aH:h3<n:=R;obtain⟨L,x,y,ai,γ,Κ,ξ,⟨J,U⟩,⟨μ,Ε⟩,-,-⟩:=eC aG lR aC aH;have xz:P = !aB cmp x y:=by rw[<-nx,<-π,γ,Κ];simp[κ]
   have eo:(0:Int)<(a:Int):=R
   have w2:IntKind.i64.wrap ((a:Int)-1)=(p:Int):=by rw[IntWalk.i64_in _ R];omega
   rw[ai];clear γ Κ;simp;(repeat (rw[dq];simp[κ,eo,w2,ξ,J,U,μ,Ε,aC,aH]));(try rw[dp]);refine eZ (Τ x y) ?_;simp;(repeat (rw[dq];simp[]));(try rw[dp]);refine⟨hg (by kernel_rfl),?_⟩;simp[xz,aB]
  ·have xz:P=false:=by rw[<-nx];simp[κ]
   have eo:a=0:=R;subst eo;simp;(repeat (rw[dq];simp[]));(try rw[dp]);refine⟨hg (by kernel_rfl),?_⟩;simp[xz])
 repeat apply Ω
 rcases Bool.eq_false_or_eq_true P with ny|ny
 ·refine aD (by simp[ny]) ?_;rw[ny] at nx;simp only[Bool.and_eq_true,decide_eq_true_eq,Bool.not_eq_true'] at nx;obtain⟨⟨mid,d4⟩,γ⟩:∃r,Go.Sort.partitionEqual (aB cmp) d3 a b h3=r:=⟨_,rfl⟩;obtain⟨dU,dA,mo,qC,-⟩:=Go.Sort.round_eq gh (Go.Sort.partitionEqual_holds _) nx.1 lQ.1 lQ.2 (by rw[lR];exact hb) Ca nx.2 γ;have gL:=gL ny;rw[γ] at gL;have gL:=gL ⟨dU,dA⟩;simp only at gL;have gM:=eΦ d3 n a b h3 lR R lQ.1 lQ.2 hb ay cmp b8 Τ;rw[γ] at gM;simp only at gM;refine bh λΘ θ=>?_;refine ab.call (first:=[]) (captured:=[]) ((gM).mono (λr s ⟨b9,bZ⟩=>?_) (λ_ _ h=>h.elim));subst b9;subst bZ;simp;(repeat (rw[al];simp[]));apply θ;refine Η ?_;refine W.exit rfl ?_;exact W.to (ω ⟨mid,b,eA,wb,wp,d4⟩ ⟨mo.trans lR,dA,hb,by(try simp only);omega,by(try simp only);omega,qC,gL.symm⟩ (by(try simp only);omega)) rfl ζ
 refine aA (by simp[ny]) ?_;obtain⟨⟨mid,ap,d4⟩,γ⟩:∃r,Go.Sort.partition (aB cmp) d3 a b h3=r:=⟨_,rfl⟩;obtain⟨dU,dA,mo,qC,tn,Ky,Cb⟩:=Go.Sort.round_part gh (Go.Sort.partition_holds _) lQ.1 lQ.2 (by rw[lR];exact hb) Ca γ;have fG:=fG ny;have fH:=fH ny;rw[γ] at fG fH;have fG:=fG ⟨dU,dA⟩;have fH:=fH ⟨dU,dA⟩;simp only at fG fH;have gM:=eΟ d3 n a b h3 lR R lQ.1 lQ.2 hb ay cmp b8 Τ;rw[γ] at gM;simp only at gM;have tW:d4.size=n:=mo.trans lR;obtain⟨u,hu⟩:=aK (mid-a);obtain⟨v,hv⟩:=aK (b-mid);obtain⟨pX,Cc⟩:=aK (l / 8);obtain⟨b4,gR⟩:=aK (mid+1);have kv:IntKind.i64.wrap ((mid:Int)-(a:Int))=(u:Int):=by rw[IntWalk.i64_in _ R];omega
 have iq:IntKind.i64.wrap ((b:Int)-(mid:Int))=(v:Int):=by rw[IntWalk.i64_in _ R];omega
 have ir:IntKind.i64.wrap ((l:Int) / 8)=(pX:Int):=by rw[Cc];exact vv (m:=8) R
 have lf:IntKind.i64.wrap ((mid:Int)+1)=(b4:Int):=by rw[IntWalk.i64_in _ R];omega
 rw[<-hu,<-hv,<-ξ,<-Cc,<-gR] at fG fH;refine bh λΘ θ=>?_;refine ab.call (first:=[]) (captured:=[]) ((gM).mono (λr s ⟨b9,bZ⟩=>?_) (λ_ _ h=>h.elim));subst b9;subst bZ;simp;(repeat (rw[al];simp[]));apply θ;by_cases tv:u<v
 ·have Ρ:(u:Int)<(v:Int):=by omega
  refine aE (υ kv (υ iq (υ ir @Ρ))) ?_;refine aD ζ ?_;obtain⟨dn,p2⟩:=Go.Sort.pdq_sorts (aB cmp) gh d4 a mid eA true true dU R qC;have q6:=sK (mid-a) R d4 a mid eA tW (Nat.le_refl _) dU R R qC;have fG:=fG tv;obtain⟨B',-⟩:=Ky _ dn p2;have s1:=dn.1.trans tW;obtain⟨Δ,g2⟩:=b2 (Go.Sort.pdq (aB cmp) d4 a mid eA true true);rw[g2] at q6 fG B' s1;refine bh λΘ θ=>?_;apply θ;refine bh λΘ θ=>?_;refine ab.call (first:=[]) (captured:=[]) ((q6).mono (λr s ⟨b9,bZ⟩=>?_) (λ_ _ h=>h.elim));subst b9;subst bZ;simp;(repeat (rw[al];simp[]));apply θ;refine aE lf ?_;exact W.to (ω ⟨b4,b,eA,decide (u>=pX),ap,Δ⟩ ⟨s1,by(try simp only);omega,hb,by(try simp only);omega,by(try simp only);omega,by simp only;rw[gR];exact B',fG.symm⟩ (by(try simp only);omega)) rfl ζ
 ·have Ρ:¬(u:Int)<(v:Int):=by omega
  refine aE (υ kv (υ iq (υ ir @Ρ))) ?_;refine aA ζ ?_;obtain⟨dn,p2⟩:=Go.Sort.pdq_sorts (aB cmp) gh d4 (mid+1) b eA true true R R tn;rw[<-gR] at dn p2 tn;have q6:=sK (b-b4) R d4 b4 b eA tW (Nat.le_refl _) R hb R tn;have fH:=fH tv;rw[<-gR] at Cb;obtain⟨B',-⟩:=Cb _ dn p2;have s1:=dn.1.trans tW;obtain⟨Δ,g2⟩:=b2 (Go.Sort.pdq (aB cmp) d4 b4 b eA true true);rw[g2] at q6 fH B' s1;refine bh λΘ θ=>?_;apply θ;refine hz lf λΘ θ=>?_;refine ab.call (first:=[]) (captured:=[]) ((q6).mono (λr s ⟨b9,bZ⟩=>?_) (λ_ _ h=>h.elim));subst b9;subst bZ;simp;(repeat (rw[al];simp[]));apply θ;refine Η ?_;exact W.to (ω ⟨a,mid,eA,decide (v>=pX),ap,Δ⟩ ⟨s1,dU,by(try simp only);omega,by(try simp only);omega,by(try simp only);omega,B',fH.symm⟩ (by(try simp only);omega)) rfl ζ
theorem Rp {α:Type} [Inhabited α] {lt:α->α->Bool} (ν:Go.Sort.SWO lt) (κ:∀x y,lt x y=false->lt y x=false->x=y) (l:List α):(Go.Sort.pdq lt l.toArray 0 l.length (Go.Sort.bitsLen l.length) true true).toList=l.mergeSort (λx y=>!lt y x):=by
 obtain⟨J,U⟩:=Go.Sort.pdq_sorts lt ν l.toArray 0 l.length (Go.Sort.bitsLen l.length) true true (Nat.zero_le _) ζ (.inl rfl);exact Go.Sort.sorted_unique_holds (lt:=lt) ν κ l.toArray _ (by simpa using J) (by simpa using U)
theorem fν:EG 49:=λl ξ=>by
 obtain⟨ay,b8⟩:=aK (.fn (.func 174) [] []:η);have fξ:aJ 0 ay:=by rw[b8];simp[mg]
 have Τ:∀x y,gi Tryz.prog ay [aG x,aG y] (I (nW x y)):=λx y=>by rw[b8];exact az.p (NG x y) (bI.refl _) ζ ζ
 obtain⟨n,Ζ⟩:=aK l.length;have hb:Go.Sort.bitsLen n<=6:=(Go.Sort.bitsLen_le_iff n 6).2 R;have h:=fθ n R ay nW fξ Τ yx n l.toArray 0 n (Go.Sort.bitsLen n) (by simp[Ζ]) R R (Nat.le_refl _) R (.inl rfl);have π:=Rp yx N0 l;rw[<-Ζ] at π;have e:(λx y:Int×Int=>!aB nW y x)=lI:=rfl;rw[π,e] at h;rw[<-b8,<-Ζ];clear π e;have kl:(l.map aG).length=n:=by rw[List.length_map,Ζ]
 have cF:l.toArray.toList=l:=rfl;rw[cF] at h;refine ab.body Υ Tryz.func173 rfl rfl Tryz.ntmps173 rfl rfl ζ ?_;have Γ:=gq (show n<2 ^ 62 by omega);have Δ:IntKind.u64.wrap (n:Int)=n:=tN R;have nY:=Ζ.symm;refine aE nY ?_;(repeat apply Ω);refine dx λΘ θ=>?_;simp;(repeat (rw[al];simp[Γ,Δ]));refine az.d (uY n R) (bD ?_);refine ab.call (first:=[]) (captured:=[]) (h.mono (λr s ⟨b9,bZ⟩=>?_) (λ_ _ h=>h.elim));subst b9;subst bZ;simp;(repeat (rw[al];simp[]));apply θ;exact W.nil ⟨_,rfl,rfl,rfl⟩
theorem Kz {s:aS} (h:il s) (p:Int×Int) (c:Nat):(iO s p c).length<=49:=by
 have J:=eΞ (λr=>s.rO p r c) s.ae.length (s.ae.length+1) 0;rw[N3] at J;have U:=h.ae.hi;have μ:(s.ae.length+1)*(s.ae.length+1)<=7*7:=Nat.mul_le_mul R R;unfold iO;omega
theorem fο {l:List (List (Int×Int))} (h:∀c∈l,c.length<=49) (gT:Int) (i:Nat):je l gT i<=49 ^ i:=by
 induction i with
 | zero=>simp[je]
 | succ i ω=>
  rw[Ex,Nat.pow_succ];refine Nat.mul_le_mul ω ?_;split
  ·omega
  ·cases ε:l[i]? with
   | none=>simp
   | some c=>simpa using h c (cG ε)
theorem KA {s:aS} (h:il s) (p:Int×Int):∀c∈(fF s p).cells,c.length<=49:=λc ε=>by
 obtain⟨i,_,rfl⟩:=List.mem_map.1 ε;exact Kz h p i
theorem KB {s:aS} (h:il s) (p:Int×Int) (gT:Int) {i:Nat} (hi:i<=s.cells.length):je (fF s p).cells gT i<=5764801:=by
 have:=h.many;exact Nat.le_trans (fο (KA h p) gT i) (Nat.le_trans (Nat.pow_le_pow_right br (show i<=4 by omega)) br)
theorem fπ {s:aS} (h:il s):JF 49 s where
 small:=h.small
 ae:=by have:=h.ae.hi;omega
 lit c ε x γ:=((h.cells c ε).each x γ).1
 reads k _ c _:=Kz h _ c
 many k _ i hi:=by have:=KB h (fE k) (-1) hi;omega
theorem KC {s:aS} (h:il s):@rT oV s (dN s):=PZ br (λc=>@fν c) (fπ h)
theorem KD {s:aS} {f:Found}:f∈dN s↔∃k,k<3/\0<(fF s (fE k)).many (-1)/\f=fF s (fE k):=by
 unfold dN;rw[List.mem_filterMap];constructor
 ·rintro⟨k,χ,h⟩;unfold jC at h;split at h
  ·rename_i ε;exact⟨k,ε.1,ε.2,(Option.some.inj h).symm⟩
  ·cases h
 ·rintro⟨k,χ,J,rfl⟩;exact⟨k,List.mem_range.2 χ,by unfold jC;rw[if_pos ⟨χ,J⟩]⟩
theorem KE (s:aS):(dN s).length<=3:=by
 unfold dN;exact Nat.le_trans (List.length_filterMap_le _ _) ζ
theorem Rq {s:aS} (h:il s):Small (dN s):=by
 have Ε:=h.many;refine⟨by have:=KE s;omega,λf Τ=>?_⟩;obtain⟨k,_,_,rfl⟩:=KD.1 Τ;have ξ:(fF s (fE k)).cells.length=s.cells.length:=by simp[fF]
 refine⟨by rw[ξ];omega,λi hi gT=>?_,λc ε=>?_⟩
 ·have:=KB h (fE k) gT (show i<=s.cells.length by omega);omega
 ·have:=KA h (fE k) c ε;omega
def xA (s:aS) (i:Nat):Nat:=((List.range i).map λk=>(fF s (fE k)).many (-1)).sum
theorem Rr (s:aS) (i:Nat):xA s (i+1)=xA s i+(fF s (fE i)).many (-1):=by simp[xA,List.range_succ]
theorem Rs (s:aS):g3 (dN s)=xA s 3:=by
 have key:∀i,i<=3->g3 ((List.range i).filterMap (jC s))=xA s i:=by
  intro i
  induction i with
  | zero=>intro _;rfl
  | succ i ω=>
   intro hi;rw[Rr,<-ω R,List.range_succ,List.filterMap_append];unfold g3;rw[List.map_append,List.sum_append];congr 1;unfold jC;by_cases hm:0<(fF s (fE i)).many (-1)
   ·have:i<3/\0<(fF s (fE i)).many (-1):=⟨R,hm⟩;simp[this]
   ·have:¬(i<3/\0<(fF s (fE i)).many (-1)):=λh=>hm h.2;simp[this];omega
 exact key 3 (Nat.le_refl _)
theorem Rt {s:aS} (p:Int×Int):(fF s p).many (-1)=je (fF s p).cells (-1) s.cells.length:=by
 unfold Found.many;simp[fF]
theorem fρ {s:aS} (p:Int×Int) {c:Nat} (ε:c<s.cells.length):je (fF s p).cells (-1) (c+1)=je (fF s p).cells (-1) c*(iO s p c).length:=by
 rw[Ex,if_neg R];have:(fF s p).cells[c]?=some (iO s p c):=by
  unfold fF;simp[ε]
 rw[this];rfl
def cnt (x n:Int):Nat->Int
 | 0=>0
 | k+1=>cnt x n k+(if ga .i64 x (2 ^ k)≠0 then 1 else 0)-(if ga .i64 n (2 ^ k)≠0 then 1 else 0)
end Go.TL
