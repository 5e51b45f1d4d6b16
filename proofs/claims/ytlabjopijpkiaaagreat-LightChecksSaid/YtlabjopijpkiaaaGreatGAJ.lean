import Derived.Sort.LotC
import Derived.Sort.LotD5
import Derived.Sort.Walk13a
import Derived.Test.YtlabjopijpkiaaaGreatGAI
set_option maxHeartbeats 16000000
set_option maxRecDepth 20000
set_option linter.unusedSectionVars false
set_option linter.unusedSimpArgs false
set_option linter.unusedVariables false
namespace Go.TL
open Go.Proofs.Tryz
open Go.Conc Go.ConcM Go.Proofs
open Go.ChangeShapes Go.WideShapes Go.ChangeAt Go.RowKit Go.Deep
section
variable {H:Type} {enc:TypeId×Value->H} {W:World}
theorem JH {P:Program} {t:TypeId} {k:Nat} {b:Type} {c:b->Prop} {F:b->I} (h:Wh enc P W t k c F):Wh enc P W t k (λ_=>True) F:=λd cs x e=>by
 obtain⟨a,_,f⟩:=h d cs x e;exact⟨a,trivial,f⟩
theorem JG:Wh enc prog W 29 1 (λl:List Int=>l.length<2 ^ 63/\∀a∈l,True) (κ R 1):=Mh underlying29 (by kernel_rfl) Z2 (OM underlying3)
theorem vO:Wh enc prog W 23 1 (λ_:List (List Int)=>True) Z3:=JH (Mh underlying23 (by kernel_rfl) Z2 JG)
theorem D3:Wh enc prog W 28 3 (λ_:Y9=>True) Zv:=
 D4 (λa b c=>(⟨a,b,c⟩:Y9)) underlying28 rfl rfl rfl (by kernel_rfl) (by kernel_rfl) (by kernel_rfl) (by kernel_rfl) (OM underlying3) (OM underlying3) (OM underlying3) (λ_ _ _=>rfl) (λ_ _ _ _ _ _=>trivial)
theorem vN:Wh enc prog W 77 (1+1) (λ_:Xp=>True) Yr:=
 vP (λa b=>(⟨a,b⟩:Xp)) underlying77 rfl rfl (by kernel_rfl) (by kernel_rfl) (by kernel_rfl) (vQ underlying9) (OM underlying3) (λ_ _=>rfl) (λ_ _ _ _=>trivial)
theorem vM:Wh enc prog W 22 1 (λ_:List Xp=>True) ZU:=JH (Mh underlying22 (by kernel_rfl) Z2 vN)
theorem vL:Wh enc prog W 60 1 (λ_:List Y9=>True) Vy:=JH (Mh underlying60 (by kernel_rfl) Z2 D3)
theorem vK:Wh enc prog W 24 1 (λ_:List (List Y9)=>True) Vx:=JH (Mh underlying24 (by kernel_rfl) Z2 vL)
theorem vJ:Wh enc prog W 26 3 (λ_:ο=>True) Zd:=
 D4 (λa b c=>(⟨a,b,c⟩:ο)) underlying26 rfl rfl rfl (by kernel_rfl) (by kernel_rfl) (by kernel_rfl) (by kernel_rfl) vM vO vK (λ_ _ _=>rfl) (λ_ _ _ _ _ _=>trivial)
theorem Mf {t:TypeId} {b:Type} {c:b->Prop} {F:b->I} (h:Wh enc prog W t 1 c F) (e:∀a,(F a).cells=[F a]) {v:Value} {d:DataW H} {f:List MemPlace} (hd:DataW.Trod enc prog W 0 (λ_=>true) true t v d f) (hv:v.cells.toList=[v]):∃a,c a/\Θ (U0 W) [] [] (F a) v:=by
 obtain⟨g,i⟩:=hd;obtain⟨a,j,_,_,k⟩:=h g _ _ i;exact⟨a,j,k 0 (F a) v (by rw[e];rfl) (by rw[hv];rfl)⟩
theorem D2 {t:TypeId} {k:Nat} {b:Type} {f:b->Prop} {F:b->I} (h:Wh enc prog W t k f F) (j:∀a,F a=.Z9 (F a).cells) {cs:Array Value} {d:DataW H} {l:List MemPlace} (hd:DataW.Trod enc prog W 0 (λ_=>true) true t (.agg cs) d l):∃a,f a/\Θ (U0 W) [] [] (F a) (.agg cs):=by
 obtain⟨m,g⟩:=hd;have e:(Value.agg cs).cells.toList=cs.toList:=rfl;rw[e] at g;obtain⟨a,n,o,p,r⟩:=h m _ _ g;refine⟨a,n,?_⟩;rw[j a];exact .Z9 cs (by rw[o,<-p];simp) λi c v s u=>r i c v s (by simpa using u)
theorem D1 {P:Program} {g:World} (i:laidOutB P=true) (j:Below W.heap.size W g):∀{a:List TypeId} {vs:List Value} {ds:List (DataW H)} {c:List MemPlace},(∀t∈a,P.readableRec t=true/\t<P.types.size)->
  DataW.TrodAll enc P W 0 (λ_=>true) true a vs ds c->(∀x∈c,x.block<W.heap.size)->DataW.TrodAll enc P g 0 (λb=>decide (b<W.heap.size)) true a vs ds c
 | [],_,_,_,_,h,_=>by
  obtain⟨rfl,rfl,rfl⟩:=trodAll_nil h;exact trodAll_mk0
 | t::a,_,_,_,e,h,k=>by
  obtain⟨v,o,d,r,p,q,rfl,rfl,rfl,l,m⟩:=trodAll_cons h;exact trodAll_cons_mk (Below.trod i (e t J).1 (e t J).2 l j λx f=>k x (List.mem_append_left _ f)) (D1 i j (λu n=>e u (by simp[n])) m λx f=>k x (List.mem_append_right _ f))
end
end Go.TL
namespace Go.TL
open Go.Proofs.Tryz
open Go.Proofs
variable [ZS]
theorem Qr (n lo hi:Int):Ν prog 97 [R n,R lo,R hi] (ZQ (decide (lo<=n)&&decide (n<=hi))):=by
 refine Δ.body Τ func97 rfl rfl ntmps97 rfl rfl J ?_;by_cases a:lo<=n
 .refine μ a ?_;refine W.rt ?_;exact .of (by simp[a])
 .refine μ a ?_;refine W.rt ?_;exact .of (by simp[a])
theorem vI (l:List Xp) (P:l.length<2 ^ 30):Ν prog 106 [ZU l] (R (Wo l)):=by
 refine Δ.body Τ func106 rfl rfl ntmps106 rfl rfl J ?_;by_cases b:l.length=0
 .refine μ b ?_;refine υ J ?_;refine Φ ?_;refine W.rt ?_;exact .of (by rw[show Wo l=7 by simp[Wo,b]];rfl)
 by_cases p:(6:Int)<l.length
 .refine μ (Ρ b p) ?_;refine χ (by simp[b]) ?_;refine μ (Ρ b p) ?_;refine υ J ?_;refine Φ ?_;refine W.rt ?_;exact .of (by rw[show Wo l=6 by simp[Wo,b];omega];rfl)
 have E:Wo l=Xf ((List.range l.length).map (VJ l)):=by
  unfold Wo;rw[if_neg b,if_neg U]
 rw[E];refine μ (Ρ b p) ?_;refine χ (by simp[b]) ?_;refine μ (Ρ b p) ?_;refine χ J ?_;refine Φ ?_;refine W.iter (λi:Nat=>i<=l.length/\∀j,j<i->VJ l j=0) (λi=>[(0,ZU l),(3,R i)]) (λ_=>[]) (λi=>l.length-i) 0 ⟨U,λj g=>U⟩ rfl J (λi hi F=>?_);refine Φ ?_;refine W.YW rfl (λa=>?_) (λa=>?_)
 .have a:i<l.length:=by simpa using a
  have m:l[i]?=some l[i]:=ε a
  have r:∀e:Int,VJ l i=e->e≠0->Xf ((List.range l.length).map (VJ l))=e:=λe H v=>Rw a H v hi.2
  have B:=YF a (show l.length<2 ^ 62 by omega)
  repeat apply Ζ
  refine W.P' (A:=[]) Τ [(39,ZQ (Ve l[i].name)),(0,ZU l),(3,R i)] ?_ (by
   unfold Ve;by_cases f:(l[i].name.size:Int)=1
   .have c:l[i].name.size=1:=U
    cases s:M3 l[i].name ⟨#[97]⟩
    ·(try simp);(repeat (rw[Μ];simp[f,s,c,a]));(try simp[f,s,c,a])
    ·(try simp);(repeat (rw[Μ];simp[f,s,c,a]));(try simp[f,s,c,a])
   .have c:¬l[i].name.size=1:=U
    (try simp);(repeat (rw[Μ];simp[f,c,a]));(try simp[f,c,a]))
  cases o:Ve l[i].name
  case true=>
   refine υ rfl ?_;refine Φ ?_;refine W.rt ?_;exact .of (by rw[r 2 (by simp[VJ,m,o]) Z2];rfl)
  refine χ rfl ?_
  repeat apply Ζ
  refine W.KB (A:=[]) Τ mixed [(55,ZQ (decide (0<i)&&V2 l[i].name ((l[i-1]?.map (·.name)).getD ⟨#[]⟩))),(0,ZU l),(3,R i)] ?_ (by
   cases i with
   | zero=>
    simp;(repeat (rw[Zf];simp));(try rw[Zg]);refine⟨Ym (by kernel_rfl),?_⟩;simp
   | succ n=>
    have I:n<l.length:=U
    have K:=Xw (show n<2 ^ 62 by omega)
    have v:(0:Int)<(n:Int)+1:=U;simp;(repeat (rw[Zf];simp[v,I,K,a]));(try rw[Zg]);refine⟨U,?_⟩;refine⟨Ym (by kernel_rfl),?_⟩;simp)
  cases bo:decide (0<i)&&V2 l[i].name ((l[i-1]?.map (·.name)).getD ⟨#[]⟩)
  case true=>
   refine υ rfl ?_;refine Φ ?_;refine W.rt ?_;exact .of (by rw[r 5 (by simp at bo;simp[VJ,m,o,bo]) Z2];rfl)
  refine χ rfl ?_;have bo':¬(0<i/\V2 l[i].name ((l[i-1]?.map (·.name)).getD ⟨#[]⟩)=true):=λh=>by simp[h] at bo
  refine XM a λQ L=>?_;refine Ν.d (Qr l[i].ZG 1 63) (Z1 ?_);apply L;by_cases w:l[i].ZG<1\/63<l[i].ZG
  case pos=>
   refine υ (by simp;omega) ?_;refine Φ ?_;refine W.rt ?_;exact .of (by rw[r 1 (by simp only[VJ,m,o];rw[if_neg bo',if_pos w];rfl) Z2];rfl)
  refine χ (by simp;omega) ?_;refine Φ ?_;refine W.iter (λk:Nat=>k<=i/\∀j,j<k->(h:j<l.length)->l[j].ZG≠l[i].ZG) (λk=>[(0,ZU l),(3,R i),(4,R k)]) (λ_=>[]) (λk=>i-k) 0 ⟨U,λj g=>U⟩ rfl J (λk C M=>?_);refine Φ ?_;by_cases t:k<i
  .refine υ (by simp[t]) ?_;have N:k<l.length:=U;have D:=YF t (show i<2 ^ 62 by omega)
   repeat apply Ζ
   refine SL (Ρ a N) ?_;by_cases u:l[k].ZG=l[i].ZG
   .refine υ (by simp[u]) ?_;refine Φ ?_;have y:(l.take i).any (λx=>x.ZG==l[i].ZG)=true:=Np.2 ⟨l[k],L9.2 ⟨k,U,rfl⟩,by simpa using u⟩;refine W.rt ?_;exact .of (by rw[r 4 (by simp only[VJ,m,o];rw[if_neg bo',if_neg w,y];rfl) Z2];rfl)
   .refine χ (by simp[u]) ?_;refine μ D ?_;refine W.to (M (k+1) ⟨t,λj g h=>?_⟩ U) rfl (by simp[D]);by_cases e:j=k
    .subst e;exact u
    .exact C.2 j U h
  .refine χ (by simp[t]) ?_;refine W.exit rfl ?_;obtain rfl:k=i:=U;have y:(l.take k).any (λx=>x.ZG==l[k].ZG)=false:=Q7.2 λx O=>by
    obtain⟨j,g,rfl⟩:=L9.1 O;simpa using C.2 j U U
   refine μ B ?_;refine W.to (F (k+1) ⟨a,λj g=>?_⟩ U) rfl (by simp[B]);by_cases e:j=k
   .subst e;simp only[VJ,m,o];rw[if_neg bo',if_neg w,y];rfl
   .exact hi.2 j U
 .have a:l.length<=i:=by simpa using a
  refine W.exit rfl ?_;refine Φ ?_;refine W.rt ?_;exact .of (by rw[Rv λj g=>hi.2 j U];rfl)
theorem vH (a:List (List Int)) (O:a.length<2 ^ 30) (C:∀x∈a,x.length<2 ^ 30):Ν prog 107 [Z3 a] (R (Wn a)):=by
 refine Δ.body Τ func107 rfl rfl ntmps107 rfl rfl J ?_;by_cases c:a.length=0
 .refine μ c ?_;refine υ J ?_;refine Φ ?_;refine W.rt ?_;exact .of (by rw[show Wn a=7 by simp[Wn,c]];rfl)
 by_cases m:(4:Int)<a.length
 .refine μ (Ρ c m) ?_;refine χ (by simp[c]) ?_;refine μ (Ρ c m) ?_;refine υ J ?_;refine Φ ?_;refine W.rt ?_;exact .of (by rw[show Wn a=6 by simp[Wn,c];omega];rfl)
 have D:Wn a=Xf ((List.range a.length).map λi=>Ru ((a[i]?).getD [])):=by
  unfold Wn;rw[if_neg c,if_neg U]
 rw[D];refine μ (Ρ c m) ?_;refine χ (by simp[c]) ?_;refine μ (Ρ c m) ?_;refine χ J ?_;refine Φ ?_;refine W.iter (λi:Nat=>i<=a.length/\∀j,j<i->Ru ((a[j]?).getD [])=0) (λi=>[(0,Z3 a),(3,R i)]) (λ_=>[]) (λi=>a.length-i) 0 ⟨U,λj k=>U⟩ rfl J (λi hi E=>?_);refine Φ ?_;refine W.YW rfl (λb=>?_) (λb=>?_)
 .have b:i<a.length:=by simpa using b
  have l:=ε b
  have F:a[i].length<2 ^ 30:=C _ (YB b)
  have u:=YF b (show a.length<2 ^ 62 by omega);obtain⟨L,v⟩:=Z8 (a[i]);rw[<-v] at l F;have r:∀h,a[i]'h=L:=λh=>v.symm;have w:(a[i]?).getD []=L:=by rw[l];rfl
  refine Φ ?_;refine W.iter (λn:Nat=>n<=L.length/\∀j,j<n->Tj L j=0) (λn=>[(0,Z3 a),(3,R i),(4,R n)]) (λ_=>[]) (λn=>L.length-n) 0 ⟨U,λj k=>U⟩ rfl J (λn s H=>?_);refine μ (Ρ l (Ρ r b)) ?_;by_cases hd:n<L.length
  .refine υ (by simp[hd]) ?_;have t:L[n]?=some L[n]:=ε hd;have y:=YF hd (show L.length<2 ^ 62 by omega);have B:∀e:Int,Tj L n=e->e≠0->Xf ((List.range a.length).map λi=>Ru ((a[i]?).getD []))=e:=λe I o=>
    Rw (i:=i) b (by rw[w];exact Rw hd I o s.2) o hi.2
   refine XM (Ρ l (Ρ r (Ρ b hd))) λP K=>?_;refine Ν.d (Qr L[n] 0 2) (Z1 ?_);apply K;cases g:Xo L[n]
   .refine υ (by unfold Xo at g;simp at g;simp;omega) ?_;refine Φ ?_;refine W.rt ?_;exact .of (by rw[B 3 (by simp[Tj,t,g]) Z2];rfl)
   refine χ (by unfold Xo at g;simp at g;simp;omega) ?_
   repeat apply Ζ
   refine W.KB (A:=[]) Τ mixed [(54,ZQ (decide (0<n/\L[n]<=(L[n-1]?).getD 0))),(0,Z3 a),(3,R i),(4,R n)] ?_ (by
    cases n with
    | zero=>
    simp;(repeat (rw[Zf];simp));(try rw[Zg]);refine⟨Ym (by kernel_rfl),?_⟩;simp
    | succ n=>
     have M:n<L.length:=U
     have N:=Xw (show n<2 ^ 62 by omega)
     have o:(0:Int)<(n:Int)+1:=U;simp;(repeat (rw[Zf];simp[o,M,N,l,r,b,hd]));(try rw[Zg]);refine⟨U,?_⟩;refine⟨Ym (by kernel_rfl),?_⟩;simp)
   by_cases p:0<n/\L[n]<=(L[n-1]?).getD 0
   .refine υ (by simp only[p];rfl) ?_;refine Φ ?_;refine W.rt ?_;exact .of (by rw[B 5 (by simp only[Tj,t,g];rw[if_neg J,if_pos p]) Z2];rfl)
   .refine χ (by simp only[p];rfl) ?_;refine μ y ?_;refine W.to (H (n+1) ⟨hd,λj k=>?_⟩ U) rfl (by simp[y]);by_cases e:j=n
    .subst e;simp only[Tj,t,g];rw[if_neg J,if_neg p]
    .exact s.2 j U
  .refine χ (by simp[hd]) ?_;refine W.exit rfl ?_;refine μ u ?_;refine W.to (E (i+1) ⟨b,λj k=>?_⟩ U) rfl (by simp[u]);by_cases e:j=i
   .subst e;rw[w];exact Rv λj k=>s.2 j U
   .exact hi.2 j U
 .have b:a.length<=i:=by simpa using b
  refine W.exit rfl ?_;refine Φ ?_;refine W.rt ?_;exact .of (by rw[Rv (f:=λi=>Ru ((a[i]?).getD [])) λj k=>hi.2 j U];rfl)
theorem vG (s:ο) (E:s.Β.length<2 ^ 30) (a:List Y9) (A:a.length<2 ^ 62) (p:Y9):Ν prog 108 [Zd s,Vy a,Zv p] (R (X6 s a p)):=by
 refine Δ.body Τ func108 rfl rfl ntmps108 rfl rfl J ?_;have v:IntKind.i64.wrap ((s.Β.length:Int)-1)=(s.Β.length:Int)-1:=IntWalk.i64_in _ U;refine Φ ?_;refine XM v λt f=>?_;refine Ν.d (Qr p.Zb 0 ((s.Β.length:Int)-1)) (Xx v ?_);apply f;by_cases g:p.Zb<0\/(s.Β.length:Int)<=p.Zb
 case pos=>
  refine υ (by simp;omega) ?_;refine Φ ?_;refine W.rt ?_;exact .of (by rw[show X6 s a p=3 by unfold X6;rw[if_pos g]];rfl)
 refine χ (by simp;omega) ?_;refine Φ ?_;refine W.iter (λi:Nat=>i<=a.length/\∀j,j<i->(h:j<a.length)->a[j].Zb≠p.Zb) (λi=>[(1,Vy a),(5,.Ε [R p.Zb,R p.seen,R p.bare]),(7,R i)]) (λ_=>[]) (λi=>a.length-i) 0 ⟨U,λj u=>U⟩ rfl J (λi hi B=>?_);refine Φ ?_;refine W.YW rfl (λc=>?_) (λc=>?_)
 .have c:i<a.length:=by simpa using c
  have w:=YF c A
  repeat apply Ζ
  refine SL c ?_;by_cases o:a[i].Zb=p.Zb
  .refine υ (by simp[o]) ?_;refine Φ ?_;have k:a.any (λx=>x.Zb==p.Zb)=true:=Np.2 ⟨_,YB c,by simpa using o⟩;refine W.rt ?_;exact .of (by rw[show X6 s a p=4 by unfold X6;rw[if_neg g,if_pos k]];rfl)
  .refine χ (by simp[o]) ?_;refine μ w ?_;refine W.to (B (i+1) ⟨c,λj u h=>?_⟩ U) rfl (by simp[w]);by_cases e:j=i
   .subst e;exact o
   .exact hi.2 j U h
 have c:a.length<=i:=by simpa using c
 refine W.exit rfl ?_;have k:a.any (λx=>x.Zb==p.Zb)=false:=Q7.2 λx C=>by
  obtain⟨j,u,rfl⟩:=T0 C;simpa using hi.2 j U u
 have D:∀b,(decide (0<=b)&&decide (b<=63))=valid b:=λb=>rfl
 have y:(valid p.seen=false\/valid p.bare=false)->X6 s a p=1:=λh=>by unfold X6;rw[if_neg g,k];simp[h]
 have w1:=Qr p.seen 0 63
 have l:=Qr p.bare 0 63;rw[D] at w1 l;cases m:valid p.seen
 case false=>
  rw[m] at w1;rw[y (.inl m)];refine ZB λt f=>?_;refine Ν.d (w1) (Z1 ?_);apply f;refine υ rfl ?_;refine Φ ?_;refine W.rt ?_;exact .of rfl
 rw[m] at w1;cases n:valid p.bare
 case false=>
  rw[n] at l;rw[y (.inr n)];refine ZB λt f=>?_;refine Ν.d (w1) (Z1 ?_);refine Ν.d (l) (Z1 ?_);apply f;refine υ rfl ?_;refine Φ ?_;refine W.rt ?_;exact .of rfl
 rw[n] at l;refine ZB λt f=>?_;refine Ν.d (w1) (Z1 ?_);refine Ν.d (l) (Z1 ?_);apply f;refine χ rfl ?_;refine Φ ?_;by_cases r:V0 p.seen p.bare=0
 .refine χ (by simp[r]) ?_;refine Φ ?_;refine W.rt ?_;exact .of (by rw[show X6 s a p=0 by unfold X6;rw[if_neg g,k];simp[m,n,r]];rfl)
 .refine υ (by simp[r]) ?_;refine Φ ?_;refine W.rt ?_;exact .of (by rw[show X6 s a p=9 by unfold X6;rw[if_neg g,k];simp[m,n,r]];rfl)
def OL (s:ο) (c:List Y9) (n:Nat):Int:=((c[n]?).map (X6 s (c.take n))).getD 0
theorem HL (s:ο) (c:s.small):Ν prog 49 [Zd s] (R s.err):=by
 refine Δ.body Τ func49 rfl rfl ntmps49 rfl rfl J ?_;refine Φ ?_;refine ZB λu k=>?_;refine Ν.d (vI s.Κ c.1) (Z1 ?_);apply k;refine Φ ?_;by_cases l:Wo s.Κ=0
 case neg=>
  refine υ (by simp[l]) ?_;refine Φ ?_;refine W.rt ?_;exact .of (by rw[show s.err=Wo s.Κ by unfold ο.err;rw[if_pos l]];rfl)
 refine χ (by simp[l]) ?_;refine ZB λu k=>?_;refine Ν.d (vH s.Β c.2.1 c.2.2.2.1) (Z1 ?_);apply k;refine Φ ?_;by_cases o:Wn s.Β=0
 case neg=>
  refine υ (by simp[o]) ?_;refine Φ ?_;refine W.rt ?_;exact .of (by rw[show s.err=Wn s.Β by unfold ο.err;rw[if_neg (by simp[l]),if_pos o]];rfl)
 refine χ (by simp[o]) ?_;have e:s.err=TH s:=by unfold ο.err;rw[if_neg (by simp[l]),if_neg (by simp[o])]
 rw[e];have O:=c.2.2.1;by_cases v:(4:Int)<s.cells.length
 .refine μ v ?_;refine υ J ?_;refine Φ ?_;refine W.rt ?_;exact .of (by rw[show TH s=6 by simp[TH];omega];rfl)
 have w:TH s=Xf ((List.range s.cells.length).map λi=>VI s ((s.cells[i]?).getD [])):=by
  unfold TH;rw[if_neg U]
 rw[w];clear e w;refine μ v ?_;refine χ J ?_;refine Φ ?_;refine W.iter (λi:Nat=>i<=s.cells.length/\∀j,j<i->VI s ((s.cells[j]?).getD [])=0) (λi=>[(1,ZW s),(5,R i)]) (λ_=>[]) (λi=>s.cells.length-i) 0 ⟨U,λj m=>U⟩ rfl J (λi hi H=>?_);refine Φ ?_;refine W.YW rfl (λa=>?_) (λa=>?_)
 .have a:i<s.cells.length:=by simpa using a
  have g:=ε a
  have I:s.cells[i].length<2 ^ 30:=c.2.2.2.2 _ (YB a)
  have x:=YF a (show s.cells.length<2 ^ 62 by omega);obtain⟨L,y⟩:=Z8 (s.cells[i]);rw[<-y] at g I;have p:∀h,s.cells[i]'h=L:=λh=>y.symm;have B:(s.cells[i]?).getD []=L:=by rw[g];rfl
  have C:∀e:Int,VI s L=e->e≠0->Xf ((List.range s.cells.length).map λi=>VI s ((s.cells[i]?).getD []))=e:=λe K M=>
   Rw (i:=i) a (by rw[B];exact K) M hi.2
  by_cases r:(4:Int)<L.length
  .refine μ (Ρ g (Ρ p (Ρ a r))) ?_;refine υ (by simp[r]) ?_;refine Φ ?_;refine W.rt ?_;exact .of (by rw[C 6 (by unfold VI;rw[if_pos U]) Z2];rfl)
  refine μ (Ρ g (Ρ p (Ρ a r))) ?_;refine χ J ?_;refine Φ ?_;have D:VI s L=Xf ((List.range L.length).map (OL s L)):=by
   unfold VI;rw[if_neg U];congr 1;refine Ns λn _=>?_;unfold OL;cases L[n]?<;>rfl
  refine W.iter (λn:Nat=>n<=L.length/\∀j,j<n->OL s L j=0) (λn=>[(1,ZW s),(5,R i),(6,R n)]) (λ_=>[]) (λn=>L.length-n) 0 ⟨U,λj m=>U⟩ rfl J (λn t N=>?_);refine μ (Ρ g (Ρ p a)) ?_;by_cases hd:n<L.length
  .refine υ (by simp[hd]) ?_;have E:L[n]?=some L[n]:=ε hd;have F:=YF hd (show L.length<2 ^ 62 by omega)
   repeat apply Ζ
   refine W.draw (A:=[]) Τ mixed λu k=>?_;simp;(repeat (rw[Zf];simp[g,p,a,hd,St hd]));try rw[Zg]
   (try simp only[<-Nn]);refine Yl (Ν.q (vG s c.2.1 (L.take n) (by simp;omega) L[n])) (VK ?_);refine XL (k _ _ ?_);refine Φ ?_;by_cases b:X6 s (L.take n) L[n]=0
   .refine χ (by simp[b]) ?_;refine μ F ?_;refine W.to (N (n+1) ⟨hd,λj m=>?_⟩ U) rfl (by simp[F]);by_cases e:j=n
    .subst e;unfold OL;rw[E];exact b
    .exact t.2 j U
   .refine υ (by simp[b]) ?_;refine Φ ?_;refine W.ret ⟨_,rfl,?_,rfl⟩;have:=C (X6 s (L.take n) L[n]) (by rw[D];exact Rw (f:=OL s L) hd (by unfold OL;rw[E];rfl) b t.2) b;rw[this];exact .of rfl
  .refine χ (by simp[hd]) ?_;refine W.exit rfl ?_;refine μ x ?_;refine W.to (H (i+1) ⟨a,λj m=>?_⟩ U) rfl (by simp[x]);by_cases e:j=i
   .subst e;rw[B,D];exact Rv (f:=OL s L) λj m=>t.2 j U
   .exact hi.2 j U
 .have a:s.cells.length<=i:=by simpa using a
  refine W.exit rfl ?_;refine Φ ?_;refine W.rt ?_;exact .of (by rw[Rv (f:=λi=>VI s ((s.cells[i]?).getD [])) λj m=>hi.2 j U];rfl)
theorem NC (d:Zu) {a b:Int} (h:a<=b) (c:-1000<a) (e:b<1000):a<=Vb d a b/\Vb d a b<=b:=by
 unfold Vb;rw[IntWalk.i64_in (b-a) U];obtain⟨t0,t1⟩:=T8 d (b-a) U U;generalize XJ d (b-a)=x at t0 t1;rw[IntWalk.i64_in (a+x) U];omega
theorem vF (l:List Int) (k:Nat) (x:Int):(Sx l k x).Perm (x::l):=by
 unfold Sx;have h:(l.take k++x::l.drop k).Perm (x::(l.take k++l.drop k)):=List.perm_middle
 rwa [OH] at h
theorem DZ (d:Zu) (n:Nat):(Xb d n).1.Perm ((List.range n).map λ(i:Nat)=>(i:Int)):=by
 induction n with
 | zero=>exact .refl _
 | succ n a=>
  show(Sx _ _ _).Perm _;refine(vF _ _ _).trans ?_;rw[Uy,Xz];refine(List.Perm.cons _ a).trans ?_;exact(List.perm_append_singleton _ _).symm
theorem HK {d:Zu} {n:Nat} {x:Int} (h:x∈(Xb d n).1):0<=x/\x<n:=by
 have:=(DZ d n).mem_iff.1 h;obtain⟨i,hi,rfl⟩:=YK.1 this;have:=UY.1 hi;omega
theorem HJ (d:Zu) (n:Nat):(Xb d n).1.Nodup:=by
 refine(DZ d n).nodup_iff.2 ?_;unfold List.Nodup;rw[L1];exact LZ.imp λh e=>h U
structure Sw (l:List Xp):Prop where
 lo:1<=l.length
 hi:l.length<=6
 each:∀g∈l,Ve g.name=false/\1<=g.ZG/\g.ZG<=63
 vE:l.Pairwise λa b=>V2 b.name a.name=false
 apart:l.Pairwise λa b=>a.ZG≠b.ZG
def TP (i:Nat):ByteArray:=⟨#[[97,98,99,100,111,122].getD i 0]⟩
def VU:List Int:=[4,9,6,12,48,8,3,16,5,10,20]
def Va (a:List Int) (b:Int) (i:Nat):Xp:=⟨TP i,(VU++[b]).getD ((a.getD i 0).toNat) 0⟩
structure Made (a:List Int):Prop where
 len:a.length=11
 mem:∀x∈a,0<=x/\x<11
 nodup:a.Nodup
theorem vD (d:Zu):Made (Xb d 11).1:=⟨JI d 11,λ_ h=>HK h,HJ d 11⟩
theorem Made.get {a:List Int} (h:Made a) {i:Nat} (hi:i<11):∃k:Nat,k<11/\a[i]?=some (k:Int)/\∀c,(VU++[c])[k]?=some (VU.getD k 0)/\1<=VU.getD k 0/\VU.getD k 0<=63:=by
 have d:=h.len
 have e:=h.mem _ (YB (l:=a) (n:=i) U);refine⟨(a[i]).toNat,U,by rw[ε U];congr 1;omega,λc=>?_⟩;have b:(a[i]).toNat<11:=U;generalize (a[i]).toNat=k at b;rw[YU (by simpa[VU] using b)];have:∀k<11,VU[k]?=some (VU.getD k 0)/\1<=VU.getD k 0/\VU.getD k 0<=63:=Z2;exact this k b
theorem vC:∀a<11,∀b<11,VU.getD a 0=VU.getD b 0->a=b:=Z2
theorem vB:∀i<6,Ve (TP i)=false:=by decide +kernel
theorem vA:∀j<6,∀i<j,V2 (TP j) (TP i)=false:=by decide +kernel
theorem JF {a:List Int} (h:Made a) (b:Int) {i:Nat} (hi:i<11):∃k:Nat,k<11/\a[i]?=some (k:Int)/\(Va a b i).ZG=VU.getD k 0/\1<=VU.getD k 0/\VU.getD k 0<=63:=by
 obtain⟨k,d,c,e⟩:=h.get hi;obtain⟨f,g,j⟩:=e b;refine⟨k,d,c,?_,g,j⟩;unfold Va;rw[show a.getD i 0=(k:Int) from by rw[Xk,c];rfl,Int.toNat_natCast];show(VU++[b]).getD k 0=_;rw[Xk,f];rfl
theorem vz {d:List Int} (h:Made d) (c:Int) {i j:Nat} (hi:i<11) (f:j<11) (e:(Va d c i).ZG=(Va d c j).ZG):i=j:=by
 obtain⟨a,g,k,l,_⟩:=JF h c hi;obtain⟨b,m,n,o,_⟩:=JF h c f;rw[l,o] at e;have:=vC a g b m e;subst this;have p:=h.len;exact(List.getElem?_inj U h.nodup).1 (k.trans n.symm)
theorem vy {m:List Int} (h:Made m) (l:Int) {d:List Nat} (n:d.Pairwise (· < ·)) (f:∀j∈d,j<6) (p:1<=d.length) (r:d.length<=6):Sw (d.map (Va m l)):=by
 refine⟨by simpa using p,by simpa using r,λg s=>?_,?_,?_⟩
 .obtain⟨j,t,rfl⟩:=YK.1 s;have:=f j t;obtain⟨k,_,_,e,u,Χ⟩:=JF h l (i:=j) U;exact⟨vB j this,U,U⟩
 .rw[L1];refine(Mb.2 λ{a b} c=>?_);have o:=(Mb.1 n) c;exact vA b (f b (c.subset J)) a o
 .rw[L1];refine(Mb.2 λ{a b} c=>λe=>?_);have o:=(Mb.1 n) c;have v:=f a (c.subset J);have w:=f b (c.subset J);have:=vz h l U U e;omega
theorem Sw.set {l:List Xp} (h:Sw l) {k:Nat} (y:k<l.length) {x:Int} (t:1<=x) (u:x<=63) (o:∀g∈l,g.ZG≠x):Sw (l.set k ⟨l[k].name,x⟩):=by
 have get:∀(i:Nat) (hi:i<(l.set k ⟨l[k].name,x⟩).length),(l.set k ⟨l[k].name,x⟩)[i].name=(l[i]'(by simpa using hi)).name/\((l.set k ⟨l[k].name,x⟩)[i].ZG=x/\i=k\/(l.set k ⟨l[k].name,x⟩)[i].ZG=(l[i]'(by simpa using hi)).ZG/\i≠k):=by
  intro i hi;rw[List.getElem_set];split
  .rename_i e;subst e;exact⟨rfl,.inl ⟨rfl,rfl⟩⟩
  .rename_i e;exact⟨rfl,.inr ⟨rfl,λh=>e h.symm⟩⟩
 refine⟨by simpa using h.lo,by simpa using h.hi,λg v=>?_,?_,?_⟩
 .obtain⟨i,hi,rfl⟩:=T0 v;obtain⟨f,Χ⟩:=get i hi;obtain⟨a,b,c⟩:=h.each _ (YB (l:=l) (n:=i) (by simpa using hi));rw[f];rcases Χ with⟨Χ,_⟩|⟨Χ,_⟩<;>rw[Χ]
  .exact⟨a,t,u⟩
  .exact⟨a,b,c⟩
 .rw[S4];intro i j hi d m;rw[(get i hi).1,(get j d).1];exact S4.1 h.vE i j (by simpa using hi) (by simpa using d) m
 .rw[S4];intro i j hi d m;have p:i<l.length:=by simpa using hi
  have r:j<l.length:=by simpa using d
  rcases(get i hi).2 with⟨f,Χ⟩|⟨f,Χ⟩<;>rcases(get j d).2 with⟨s,w⟩|⟨s,w⟩<;>rw[f,s]
  .omega
  .exact λe=>o _ (YB r) e.symm
  .exact λe=>o _ (YB p) e
  .exact S4.1 h.apart i j p r m
def RX (g:FuncId) (args:ψ) (d:Zu) (c:I->Prop):Prop:=Δ prog g (.Ο 0 1 0 0::args) [ZV d] (λa s=>∃r b,Y4 a r/\c r/\s=[ZV b]/\b.ζ.length<=d.ζ.length) (λ_ _=>False)
theorem RX.c {g:FuncId} {args f:ψ} {d:Zu} {i:I->Prop} {σ:Υ} {K E:I->Υ->Prop} (h:RX g args d i) (id:Nat) (n:σ[id]?=some (ZV d)) (o:ZZ f args) (l:∀a∈f,Γ 0 a) (m:∀r,i r->Γ 0 r) (p:∀r b,i r->b.ζ.length<=d.ζ.length->K r (σ.set id (ZV b))):WZ prog (.fn (.func g) [] []) (.Ο id 1 0 0::f) σ K E:=by
 refine Δ.IF (as0:=.Ο 0 1 0 0::f) (K0:=λa s=>∃b,i a/\s=[ZV b]/\b.ζ.length<=d.ζ.length) (Δ.Uo h (.cons (.refl _) o) λa s ⟨r,b,e,j,k,t⟩=>⟨r,e,b,j,k,t⟩) id n (Sy d) ?_ ?_ ?_
 .intro a hm;rcases YZ.1 hm with rfl|hm
  .exact Nat.zero_lt_one
  .exact(l a hm).V9 1
 .rw[Xt,D9 l];rfl
 .rintro a s ⟨b,e,j,k⟩;exact⟨ZV b,j,Sy b,(m a e).V9 1,by rw[(m a e).Yt];exact p a b e k⟩
section
variable {P:Program} {m nt:Nat} {k:List Item} {env:Ι} {Z:XF} {E:Yf}
theorem W.DY {d:Zu} {t kk n:Nat} {l:ψ} {x:Nat} (f:m<=1) (g:l.length=n) (h:∀e∈l,∀a∈e.cells,Γ 0 a) (hd:Z' env x=.ms 1 n 0 n) (i:W P m nt k [(x,.sl false kk l)] [ZV d] Z E):W P m nt k env [ZV d,.cells t kk l] Z E:=
 W.cut 1 f [(x,.sl false kk l)] J (λid r s b=>by
  have:id=0:=U;subst this;simp at b;subst b;exact T7 d 1) (λp c=>by
  simp at c;subst c;show Yu 1 _ (Z' env x) _;rw[hd];exact .own (t:=t) (ZO _) rfl g (λe j a o=>(h e j a o).mono (ω _))) (by simpa using i)
end
theorem T6 {l:List Xp}:∀e∈l.map Yr,∀a∈e.cells,Γ 0 a:=λe c a b=>by
 obtain⟨x,_,rfl⟩:=YK.1 c;simp[I.cells] at b;rcases b with rfl|rfl<;>exact .z _
def NB:List ByteArray:=[⟨#[97]⟩,⟨#[98]⟩,⟨#[99]⟩,⟨#[100]⟩,⟨#[111]⟩,⟨#[122]⟩]
theorem vx:∀i<6,NB[i]?=some (TP i):=Z2
structure DX where
 i:Nat
 d:Zu
 Yi:List Nat
theorem vw (d:Zu) (hd:d.ζ.length<2 ^ 63) (H:Nat) (bn:1<=H) (bo:H<=6):RX 128 [R H] d (λr=>∃l,r=ZU l/\Sw l/\l.length<=H):=by
 unfold RX;refine Δ.body Τ func128 rfl rfl ntmps128 rfl rfl J ?_;refine Φ ?_;obtain⟨aD,l1⟩:=NC d (a:=1) (b:=63) Z2 Z2 Z2;obtain⟨m,aE⟩:=YN (Vb d 1 63);obtain⟨d1,aF⟩:=YN (d.after (IntKind.i64.wrap (63-1)));have a7:d1.ζ.length<=d.ζ.length:=by rw[<-aF];exact Xl _ _
 have aG:=Ra d hd 1 63;rw[aE,aF] at aG;rw[aE] at aD l1;refine ZB λag I=>?_;refine Ze.g (aG) (Z1 ?_);apply I
 repeat apply Ζ
 have aH:=HN d1 U 11 Z2
 have Z:=vD d1
 have aI:=Xs (JJ d1 11) a7;obtain⟨v,aJ⟩:=YN ((Xb d1 11).1);obtain⟨d2,aK⟩:=YN ((Xb d1 11).2);rw[aJ] at Z;rw[aJ,aK] at aH;rw[aK] at aI;refine ZB λag I=>?_;refine Ze.g (aH) (Z1 ?_);apply I;refine Φ ?_;obtain⟨a8,a9⟩:=NC d2 (a:=1) (b:=H) U Z2 U;obtain⟨n,aL⟩:∃n:Nat,Vb d2 1 H=n:=⟨(Vb d2 1 H).toNat,U⟩;rw[aL] at a8 a9;obtain⟨d3,aM⟩:=YN (d2.after (IntKind.i64.wrap ((H:Int)-1)));have a':d3.ζ.length<=d.ζ.length:=by rw[<-aM];exact Xs (Xl _ _) aI
 have aN:=Ra d2 U 1 H;rw[aL,aM] at aN;refine ZB λag I=>?_;refine Ze.g (aN) (Z1 ?_);apply I;refine Φ ?_;have u:NB.length=6:=rfl;have ah:(VU++[m]).length=12:=by simp[VU]
 obtain⟨N,ai⟩:=Z8 (VU++[m]);rw[<-ai] at ah;have ba:∀f:List Nat,(f.map (Va v m)).length=f.length:=λf=>Yb _;refine W.iter (λx:DX=>x.i<=6/\x.d.ζ.length<=d.ζ.length/\x.Yi.Pairwise (· < ·)/\(∀j∈x.Yi,j<x.i)/\x.Yi.length<=n/\n+x.i<=6+x.Yi.length)
  (λx=>[(0,.Ο 0 1 0 0),(5,.sl true 1 (NB.map UK)),(6,.sl true 1 (N.map R)),(7,κ R 1 v),(8,Zm 1 ((x.Yi.map (Va v m)).map Yr)),(9,R n),(10,R x.i)])
  (λx=>ZV x.d::ZY 77 2 ((x.Yi.map (Va v m)).map Yr)) (λx=>6-x.i) ⟨0,d3,[]⟩ ⟨J,a',J,J,J,by simp;omega⟩ rfl (by rw[ai];intro p aO;simp only[YZ,XY,or_false] at aO;rcases aO with rfl|rfl|rfl|rfl|rfl|rfl|rfl<;>rfl) (λx au aj=>?_)
 obtain⟨i,B,f⟩:=x;obtain⟨bb,av,ak,aa,aP,bc⟩:=au;simp only at bb av ak aa aP bc aj ⊢;obtain⟨G,S⟩:=Z8 (f.map (Va v m));have o:G.length=f.length:=by rw[S];exact ba f
 rw[<-S];have T:(Zm 1 (G.map Yr)=.sl true 0 []/\ZY 77 2 (G.map Yr)=[]/\f.length=0)\/(Zm 1 (G.map Yr)=.ms 1 f.length 0 f.length/\ZY 77 2 (G.map Yr)=[.cells 77 2 (G.map Yr)]/\0<f.length):=by
  by_cases V:G=[]
  .subst V;exact .inl ⟨rfl,rfl,by simpa using o.symm⟩
  .have aQ:G.map Yr≠[]:=by simpa using V
   refine .inr ⟨by rw[XB aQ,Yb,o],Yz aQ,?_⟩;have:=Q9.2 V;omega
 repeat apply Ζ
 refine W.Xv (A:=[]) Τ [(35,ZQ (decide (i<6)&&decide (f.length<n))),(0,.Ο 0 1 0 0),(5,.sl true 1 (NB.map UK)),(6,.sl true 1 (N.map R)),(7,κ R 1 v),(8,Zm 1 (G.map Yr)),(9,R n),(10,R i)] (ZV B::ZY 77 2 (G.map Yr)) ?_ (by
  by_cases hi:i<6
  .have al:(i:Int)<6:=U
   rcases T with⟨s,Χ,t⟩|⟨s,Χ,t⟩
   .rw[s,Χ];(try simp);(repeat (rw[Μ];simp[al,u,t,hi]));(try simp[al,u,t,hi])
   .rw[s,Χ];(try simp);(repeat (rw[Μ];simp[al,u,o,hi]));(try simp[al,u,o,hi])
  .have hi:i=6:=U
   subst hi;rcases T with⟨s,Χ,t⟩|⟨s,Χ,t⟩
   .rw[s,Χ];(try simp);(repeat (rw[Μ];simp[u]));(try simp[u])
   .rw[s,Χ];(try simp);(repeat (rw[Μ];simp[u]));(try simp[u]))
 refine W.YW rfl (λM=>?_) (λM=>?_)
 .simp only[VE,decide_eq_true_eq] at M;obtain⟨hi,aR⟩:=M;have E:IntKind.i64.wrap (6-(i:Int))=6-i:=IntWalk.i64_in _ U;have D:IntKind.i64.wrap ((n:Int)-f.length)=n-f.length:=IntWalk.i64_in _ U;have K:IntKind.i64.wrap ((i:Int)+1)=((i+1:Nat):Int):=by rw[IntWalk.i64_in _ U];omega
  repeat apply Ζ
  have aw:B.ζ.length<2 ^ 63:=U
  have X:=HP B aw 3 Z2 Z2;obtain⟨ax,ay⟩:=YN (ON B 3);obtain⟨ab,ad⟩:=YN (B.after (3-1));have bd:ab.ζ.length<=d.ζ.length:=by rw[<-ad];exact Xs (Xl _ _) av
  rw[ay,ad] at X;obtain⟨w,L⟩:∃x,x=if(n:Int)-f.length<6-i then ab else B:=⟨_,rfl⟩
  have ae:w.ζ.length<=d.ζ.length:=by rw[L];split<;>assumption
  refine W.Xv (A:=[]) Τ [(50,ZQ (decide ((n:Int)-f.length<6-i)&&ax)),(0,.Ο 0 1 0 0),(5,.sl true 1 (NB.map UK)),(6,.sl true 1 (N.map R)),(7,κ R 1 v),(8,Zm 1 (G.map Yr)),(9,R n),(10,R i)] (ZV w::ZY 77 2 (G.map Yr)) ?_ (by
   by_cases C:(n:Int)-f.length<6-i
   .rw[if_pos C] at L;rw[L];rcases T with⟨s,Χ,t⟩|⟨s,Χ,t⟩
    .rw[s,Χ];rw[t] at C D;simp only[Int.natCast_zero,Int.sub_zero] at C D;(try simp);(repeat (rw[Μ];simp[u,E,D,C,t]));(try simp[u,E,D,C,t]);refine Ze.c (X) 0 rfl (ZZ.refl _) J J ?_;simp;(repeat (rw[Μ];simp));(try simp)
    .rw[s,Χ];(try simp);(repeat (rw[Μ];simp[u,E,D,C,o]));(try simp[u,E,D,C,o]);refine Ze.c (X) 0 rfl (ZZ.refl _) J J ?_;simp;(repeat (rw[Μ];simp));(try simp)
   .rw[if_neg C] at L;rw[L];rcases T with⟨s,Χ,t⟩|⟨s,Χ,t⟩
    .rw[s,Χ];rw[t] at C D;simp only[Int.natCast_zero,Int.sub_zero] at C D;(try simp);(repeat (rw[Μ];simp[u,E,D,C,t]));(try simp[u,E,D,C,t])
    .rw[s,Χ];(try simp);(repeat (rw[Μ];simp[u,E,D,C,o]));(try simp[u,E,D,C,o]))
  refine W.YW rfl (λY=>?_) (λY=>?_)
  .simp only[VE,decide_eq_true_eq] at Y;refine W.exit rfl ?_;refine μ K ?_;refine W.to (aj ⟨i+1,w,f⟩ ⟨by show i+1<=6;omega,ae,ak,λj F=>by have:=aa j F;show j<i+1;omega,aP,by show n+(i+1)<=6+f.length;omega⟩ (by show 6-(i+1)<6-i;omega)) (by rw[S]) ?_;rw[<-S];simp[K]
  .have am:n+i+1<=6+f.length+1:=U
   obtain⟨k,az,af,O⟩:=Z.get (i:=i) U;obtain⟨O,_,_⟩:=O m;have an:Va v m i=⟨TP i,VU.getD k 0⟩:=by
    obtain⟨be,_,aS,e,_⟩:=JF Z m (i:=i) U;rw[af] at aS;have bf:be=k:=by have:=WM aS;omega
    subst bf;show(⟨TP i,(Va v m i).ZG⟩:Xp)=_;rw[e]
   obtain⟨st,aT⟩:=YN (VU.getD k 0);rw[aT] at an;rw[aT,<-ai] at O;have ao:=vx i hi;have aU:∀h,NB[i]'h=TP i:=λh=>by rw[ε h] at ao;exact WM ao
   have aV:∀h,v[i]'h=(k:Int):=λh=>by rw[ε h] at af;exact WM af
   have aW:∀h,N[k]'h=st:=λh=>by rw[ε h] at O;exact WM O
   have aX:=Z.len
   have ap:(G++[Va v m i])=(f++[i]).map (Va v m):=by rw[S];simp
   repeat apply Ζ
   have aq:(G++[Va v m i]).map Yr≠[]:=J
   have aY:(⟨i+1,w,f++[i]⟩:DX).i<=6/\w.ζ.length<=d.ζ.length/\(f++[i]).Pairwise (· < ·)/\(∀j∈f++[i],j<i+1)/\(f++[i]).length<=n/\n+(i+1)<=6+(f++[i]).length:=by
    refine⟨hi,ae,?_,?_,?_,?_⟩
    .rw[OG];exact⟨ak,J,λa bg b aZ=>by simp at aZ;subst aZ;exact aa a bg⟩
    .intro j F;rcases V6.1 F with F|F
     .have:=aa j F;omega
     .simp at F;omega
    .simp;omega
    .simp;omega
   rcases T with⟨s,Χ,t⟩|⟨s,Χ,t⟩
   .rw[s,Χ];refine W.draw (A:=[65]) Τ mixed λag I=>TI (Ρ u (Ρ ah (Ρ aX (Ρ ao (Ρ aU (Ρ af (Ρ aV (Ρ O aW)))))))) ?_;refine⟨U,U,U,?_⟩;refine XL (I _ _ ?_);refine μ K ?_;have V:G=[]:=YV.1 U;refine W.to (aj ⟨i+1,w,f++[i]⟩ aY (by show 6-(i+1)<6-i;omega)) ?_ ?_
    .have e:ZY 77 2 (((f++[i]).map (Va v m)).map Yr)=[.cells 77 2 [Yr ⟨TP i,st⟩]]:=by rw[<-ap,Yz aq,V,an];rfl
     simp only[e]
    .have e:Zm 1 (((f++[i]).map (Va v m)).map Yr)=.ms 1 1 0 1:=by rw[<-ap,XB aq,V,an];rfl
     simp only[e];simp[K]
   .rw[s,Χ];refine W.draw (A:=[65]) Τ mixed λag I=>TI (Ρ u (Ρ ah (Ρ aX (Ρ ao (Ρ aU (Ρ af (Ρ aV (Ρ O (Ρ aW o))))))))) ?_;refine⟨U,U,U,U,?_⟩;refine XL (I _ _ ?_);refine μ K ?_;refine W.to (aj ⟨i+1,w,f++[i]⟩ aY (by show 6-(i+1)<6-i;omega)) ?_ ?_
    .have e:ZY 77 2 (((f++[i]).map (Va v m)).map Yr)=[.cells 77 2 (G.map Yr++[Yr ⟨TP i,st⟩])]:=by rw[<-ap,Yz aq,Xz,an];rfl
     simp only[e]
    .have e:Zm 1 (((f++[i]).map (Va v m)).map Yr)=.ms 1 (f.length+1) 0 (f.length+1):=by rw[<-ap,XB aq,Yb,Vo,o];rfl
     simp only[e];simp[K]
 .have aR:f.length=n:=by
   simp only[Bool.and_eq_false_iff,decide_eq_false_iff_not] at M;omega
  refine W.exit rfl ?_;rcases T with⟨s,Χ,t⟩|⟨s,Χ,t⟩
  .omega
  rw[aR] at s o;have a0:Sw G:=by rw[S];exact vy Z m ak (λj F=>by have:=aa j F;omega) U U
  have aA:N[11]?=some m:=by rw[ai];rfl
  have bh:∀h,N[11]'h=m:=λh=>by rw[ε h] at aA;exact WM aA
  refine W.to (env':=[(0,.Ο 0 1 0 0),(6,.sl true 1 (N.map R)),(8,.ms 1 n 0 n),(9,R n)]) (σ':=[ZV B,.cells 77 2 (G.map Yr)]) ?_ (by rw[Χ]) (by rw[s];simp);have bi:IntKind.i64.wrap 11=11:=Z2;refine μ (Ρ ah (Ρ aA (Ρ bh bi))) ?_;refine W.iter (λx:Nat×Bool=>x.1<=n/\(x.2=true->∀g∈G.take x.1,g.ZG≠m)) (λx=>[(0,.Ο 0 1 0 0),(8,.ms 1 n 0 n),(11,R m),(12,ZQ x.2),(13,R x.1)]) (λ_=>[ZV B,.cells 77 2 (G.map Yr)]) (λx=>n-x.1) (0,true) ⟨ω _,J⟩ rfl J (λx au a1=>?_);obtain⟨j,Η⟩:=x;obtain⟨F,am⟩:=au;simp only at F am a1 ⊢;refine μ o ?_;refine W.YW rfl (λM=>?_) (λM=>?_)
  .have a2:j<n:=by simpa using M
   have aB:G[j]?=some (G[j]'U):=ε U;obtain⟨g,P⟩:=Z8 (G[j]'U);rw[<-P] at aB;have a3:∀h,G[j]'h=g:=λh=>P.symm;have K:IntKind.i64.wrap ((j:Int)+1)=((j+1:Nat):Int):=by rw[IntWalk.i64_in _ U];omega
   have bj:G.take (j+1)=G.take j++[g]:=by rw[UZ U,P]
   repeat apply Ζ
   refine W.Xv (A:=[]) Τ [(0,.Ο 0 1 0 0),(8,.ms 1 n 0 n),(11,R m),(12,ZQ (Η&&decide (g.ZG≠m))),(13,R j)] [ZV B,.cells 77 2 (G.map Yr)] ?_ (by
    cases Η
    ·(try simp);(repeat (rw[Μ];simp[o]));(try simp[o])
    ·(try simp);(repeat (rw[Μ];simp[o,aB,a3]));(try simp[o,aB,a3]);omega)
   refine μ K ?_;refine W.to (a1 (j+1,Η&&decide (g.ZG≠m)) ⟨a2,λh=>?_⟩ (by show n-(j+1)<n-j;omega)) rfl (by simp[K]);simp only[VE,decide_eq_true_eq] at h;intro y Q;rw[bj] at Q;rcases V6.1 Q with Q|Q
   .exact am h.1 y Q
   .simp at Q;subst Q;exact h.2
  .have a2:j=n:=by simp at M;omega
   have bk:Η=true->∀g∈G,g.ZG≠m:=λh=>by
    have:=am h
    rwa [TC U] at this
   refine W.exit rfl ?_;have aw:B.ζ.length<2 ^ 63:=U;have X:=HP B aw 3 Z2 Z2;obtain⟨ax,ay⟩:=YN (ON B 3);obtain⟨ab,ad⟩:=YN (B.after (3-1));have bd:ab.ζ.length<=d.ζ.length:=by rw[<-ad];exact Xs (Xl _ _) av
   rw[ay,ad] at X;obtain⟨w,L⟩:=Z8 (if Η then ab else B);have ae:w.ζ.length<=d.ζ.length:=by rw[L];split<;>assumption
   repeat apply Ζ
   refine W.Xv (A:=[]) Τ [(92,ZQ (Η&&ax)),(0,.Ο 0 1 0 0),(8,.ms 1 n 0 n),(11,R m)] [ZV w,.cells 77 2 (G.map Yr)] ?_ (by
    cases Η
    .rw[L];(try simp);(repeat (rw[Μ];simp[o]));(try simp[o])
    .rw[L];(try simp);(repeat (rw[Μ];simp[o]));(try simp[o]);refine Ze.c (X) 0 rfl (ZZ.refl _) J J ?_;simp;(repeat (rw[Μ];simp));(try simp))
   refine W.YW rfl (λY=>?_) (λY=>?_)
   .simp only[VE] at Y;have E:IntKind.i64.wrap ((n:Int)-1)=n-1:=IntWalk.i64_in _ U;have a4:=U1 w U ((n:Int)-1);obtain⟨t0,t1⟩:=T8 w ((n:Int)-1) U U;obtain⟨k,az⟩:∃k:Nat,XJ w ((n:Int)-1)=k:=⟨(XJ w ((n:Int)-1)).toNat,U⟩;obtain⟨aC,a5⟩:=YN (w.after ((n:Int)-1));have bl:aC.ζ.length<=d.ζ.length:=by rw[<-a5];exact Xs (Xl _ _) ae
    rw[az,a5] at a4;rw[az] at t1;have ar:k<G.length:=U;have a6:G[k]?=some (G[k]'ar):=ε ar;obtain⟨g,P⟩:=Z8 (G[k]'ar);rw[<-P] at a6;have bm:∀h,G[k]'h=g:=λh=>P.symm
    repeat apply Ζ
    refine W.Xv (A:=[]) Τ [(8,.ms 1 n 0 n)] [ZV aC,.cells 77 2 ((G.set k ⟨g.name,m⟩).map Yr)] ?_ (by
     (try simp);(repeat (rw[Μ];simp[o,E]));(try simp[o,E]);refine Ze.g (a4) (Xx (Ρ a6 (Ρ bm o)) ?_)
     first|omega|(refine⟨U,?_⟩;simp[Nl]))
    refine Φ ?_;rw[<-Nl];refine W.DY (x:=4) (n:=n) (l:=(G.set k ⟨g.name,m⟩).map Yr) (ZO _) (by rw[Yb];simp[o]) T6 ?_ ?_
    .simp
    exact W.ret ⟨_,rfl,_,aC,.refl _,⟨_,rfl,by rw[P];exact a0.set ar aD l1 (bk Y.1),by rw[No];omega⟩,rfl,bl⟩
   .refine Φ ?_;refine W.DY (x:=4) (n:=n) (l:=G.map Yr) (ZO _) (by rw[Yb];simp[o]) T6 ?_ ?_
    .simp
    exact W.ret ⟨_,rfl,_,w,.refl _,⟨_,rfl,a0,U⟩,rfl,ae⟩
end Go.TL
namespace Go.TL
open Go.Proofs.Tryz
open Go.Conc
variable [ZS]
inductive RV (id k:Nat) (l:ψ):I->I->Prop where
 | same (a:I):RV id k l a a
 | ms:RV id k l (.ms id l.length 0 l.length) (.sl false k l)
 | Ο {e:I}:l=[e]->RV id k l (.Ο id 1 0 0) (.Ε e.cells)
def Me (id k:Nat) (l:ψ) (r r':Row):Prop:=r'=r\/∃t n es es',r=.cells t n es/\r'=.cells t n es'/\es'.length=es.length/\
 ∀(i:Nat) (e b:I),es[i]?=some e->es'[i]?=some b->b.cells.length=e.cells.length/\∀(x:Nat) (a c:I),e.cells[x]?=some a->b.cells[x]?=some c->RV id k l a c
section
variable {P:Program} {S:Α} {B:θ} {H:Ψ} {σ σ':Υ} {m nt id k:Nat} {t:TypeId} {l:ψ} {kk:List Item} {env:Ι} {Z:XF} {E:Yf}
def Α.set (S:Α) (B:θ) (H:Ψ) (id:Nat):Α:=λb o=>match B[id]? with
 | some (some (a,_))=>if b=a then(H.ς b o).map (·.1) else S b o
 | _=>S b o
theorem DW {b N:Nat} (a:B[id]?=some (some (b,N))) (o:Nat):S.set B H id b o=(H.ς b o).map (·.1):=by
 unfold Α.set;rw[a];simp
theorem DV (a:Holds S B σ H) (c:σ[id]?=some (.cells t k l)):∀b o v,S b o=some v->S.set B H id b o=some v:=λb o v hv=>by
 unfold Α.set;split
 .rename_i f N d;split
  .rename_i e;subst e;rw[a.sep id _ b N c trivial d o] at hv;cases hv
  .exact hv
 .exact hv
theorem ZC.Qq (c:Holds S B σ H) (b:σ[id]?=some (.cells t k l)) (d:σ'[id]?=some .dead) (f:∀j r,j≠id->σ[j]?=some r->∃r',σ'[j]?=some r'/\Me id k l r r'):ZC S (S.set B H id) B B σ σ':=
 ⟨DV c b,λj r a=>by
  by_cases e:j=id
  .subst e;rw[b] at a;cases a;exact⟨.dead,d,.inr λn _=>trivial⟩
  .obtain⟨r',g,h⟩:=f j r e a;refine⟨r',g,?_⟩;rcases h with rfl|⟨t,n,es,es',rfl,rfl,i,_⟩
   .exact Row.QW _ _
   .exact .inl ⟨es',rfl,i,rfl⟩⟩
theorem Θ.DU (s:Holds S B σ H) (g:σ[id]?=some (.cells t k l)) (o:ZC S (S.set B H id) B B σ σ') {a u:I} (C:RV id k l a u) {v:Value} (p:Θ S B σ a v):Θ (S.set B H id) B σ' u v:=by
 cases C with
 | same=>exact p.later o
 | ms=>
  cases p with
  | ms cap d h i F D r=>
   rw[g] at d;cases d;by_cases y:l=[]
   .subst y;exact .WB _ _ J
   .have K:0<l.length:=Q9.2 y;rcases r with r|⟨b,N,rfl,rfl,r⟩
    .omega
    .obtain⟨_,_,_,w,m⟩:=s.row id _ _ g i;rw[Qk];refine .sl b 0 cap (λj x=>w j x) J D (λj e n=>(m j e n).1) (λj e n x c f=>?_) (λj e n x c f=>?_)
     .have:=((m j e n).2 x c f).1;rw[DW i,VD,this];rfl
     .exact(((m j e n).2 x c f).2.1).later o
  | V3 v d h=>rw[g] at d;cases d;simp only[Row.W0] at h;omega
 | @Ο e E=>
  subst E;cases p with
  | Ο d h i=>
   rw[g] at d;cases d;obtain⟨_,_,_,w,m⟩:=s.row id _ _ g i;have A:=m 0 e rfl;refine .Ε _ _ (λx=>w 0 x) (λx a f=>?_) (λx a f=>?_)
   .have:=(A.2 x a f).1;rw[DW i,Nat.add_zero,this];rfl
   .exact((A.2 x a f).2.1).later o
  | VQ v d h=>rw[g] at d;cases d;simp[Row.W0] at h
theorem W.Qq (a8:m<=id) (f:σ[id]?=some (.cells t k l)) (ab:σ'.length=σ.length) (F:σ'[id]?=some .dead) (ad:∀j r,j≠id->σ[j]?=some r->∃r',σ'[j]?=some r'/\Me id k l r r') (env':Ι) (aD:∀p∈env',RV id k l (Z' env p.1) p.2)
  (aE:W P m nt kk env' σ' Z E):W P m nt kk env σ Z E:=by
 intro aF mn x cs b S B H Z7 I K L aG aH;have c:=L.holds;have M:=ZC.Qq c f F ad;have O:∀j r',j≠id->σ'[j]?=some r'->∃r,σ[j]?=some r/\Me id k l r r':=λj r' Q h=>by
  have s:j<σ.length:=by rw[<-ab];exact(ZD.1 h).1
  obtain⟨ao,R,ae⟩:=ad j _ Q (ε s);rw[h] at R;cases R;exact⟨_,ε s,ae⟩
 have T:∀{r r':Row},Me id k l r r'->r'.live->r.live:=λ{r r'} h hv=>by
  rcases h with rfl|⟨_,_,_,_,rfl,rfl,_⟩
  .exact hv
  .trivial
 have aI:Holds (S.set B H id) B σ' H:=by
  refine⟨λb o v h=>?_,by rw[ab];exact c.len,λj r bo d aJ=>?_,λi j ap aq b aK aL aM hi Q ar au aN aO=>?_,λj r b N d af K o=>?_⟩
  .unfold Α.set at h;split at h
   .split at h
    .cases av:H.ς b o with
     | none=>rw[av] at h;cases h
     | some x=>rw[av] at h;cases h;exact⟨x.2,rfl⟩
    .exact c.YX b o v h
   .exact c.YX b o v h
  .by_cases e:j=id
   .subst e;rw[F] at d;cases d;trivial
   .obtain⟨aP,R,ae⟩:=O j r e d;have U:=c.row j aP bo R aJ;rcases ae with rfl|⟨t2,n,es,es',rfl,rfl,ag,aQ⟩
    .refine U.later M (λb N _=>⟨λ_=>rfl,rfl,rfl⟩) λaw left a9 Χ=>?_;subst Χ;obtain⟨_,_,a',ba,xs,bb,seen,_,ax,⟨es,g⟩,_⟩:=U;refine⟨?_,rfl,λb N _=>⟨λ_=>rfl,rfl,rfl⟩⟩;have V:aw≠id:=λe=>by subst e;rw[f] at g;cases g
     obtain⟨r',aR,aS⟩:=ad aw _ V g;rcases aS with rfl|⟨_,_,_,_,aT,_⟩
     .rw[aR,g]
     .cases aT
    .cases bo with
     | none=>
      have:es=[]:=U;subst this;exact YV.1 ag
     | some y=>
      obtain⟨b,N⟩:=y;obtain⟨u,A,C,w,D⟩:=U;refine⟨u,by rw[ag];exact A,C,w,λi aU hi=>?_⟩;have s:i<es.length:=by rw[<-ag];exact(ZD.1 hi).1
      obtain⟨aV,aW⟩:=D i _ (ε s);obtain⟨d1,d2⟩:=aQ i _ aU (ε s) hi;refine⟨d1.trans aV,λx aX I=>?_⟩;have ay:x<(es[i]).cells.length:=by rw[<-d1];exact(ZD.1 I).1
      obtain⟨ax,g,aY⟩:=aW x _ (ε ay);exact⟨ax,g.DU c f M (d2 x _ aX (ε ay) I),aY⟩
  .have az:∀j r,σ'[j]?=some r->r.live->j≠id:=λj r h hv e=>by subst e;rw[F] at h;cases h;exact hv
   obtain⟨X,Y,aa⟩:=O i ap (az i ap hi ar) hi;obtain⟨ao,aZ,a0⟩:=O j aq (az j aq Q au) Q;exact c.inj i j X ao b aK aL aM Y aZ (T aa ar) (T a0 au) aN aO
  .have V:j≠id:=λe=>by subst e;rw[F] at d;cases d;exact af
   obtain⟨X,Y,aa⟩:=O j r V d;have aA:=c.sep j X b N Y (T aa af) K o;unfold Α.set;split
   .rename_i a1 a2 ah;split
    .rename_i e;subst e;exact(c.inj j id X _ b N a2 V Y f (T aa af) trivial K ah).elim
    .exact aA
   .exact aA
 have a3:Ext S B H (S.set B H id) B H:=by
  refine⟨DV c f,λ_ _ _=>TN.of ⟨λ_=>rfl,rfl,rfl⟩,λ_ h=>.inl h,λb o v hv=>?_,λ_ h=>h⟩;unfold Α.set at hv;split at hv
  .rename_i a1 N ah;split at hv
   .rename_i e;subst e;exact .inr (.inl ⟨N,Zk ah⟩)
   .exact .inl hv
  .exact .inl hv
 have aB:Ye m S B H σ (S.set B H id) B H σ':=⟨a3,M.left m⟩
 have a4:∀(l2:Ι),(∀p∈l2,RV id k l (Z' env p.1) p.2)->∀i,Θ S B σ (Z' env i) (Z7.getD i undef)->Θ (S.set B H id) B σ' (Z' l2 i) (Z7.getD i undef):=by
  intro l2
  induction l2 with
  | nil=>intro _ i _;exact .Zw _
  | cons p l2 a5=>
   intro aC i d;simp only[Z'];split
   .rename_i e;subst e;exact d.DU c f M (aC p J)
   .exact a5 (λq a6=>aC q (by simp[a6])) i d
 refine aE aF mn x cs b _ _ H Z7 I K ⟨aI,λi=>a4 env' aD i (L.Zr i),L.size,by rw[ab];exact L.rows⟩ (λj ai aj ak al am t2 an u A C D=>?_) (λa ai aj ak al am t2 an v u A C D a7=>?_)
 .exact aG j ai aj ak al am t2 an u (aB.trans A) C D
 .exact aH a ai aj ak al am t2 an v u (aB.trans A) C D a7
end
end Go.TL
namespace Go.TL
open Go.Proofs.Tryz
open Go.Proofs
variable [ZS]
theorem vv (d:Zu) (n:Nat):(Ww d n).1.Pairwise (· < ·)/\∀x∈(Ww d n).1,0<=x/\x<n:=by
 induction n with
 | zero=>exact⟨List.Pairwise.nil,λx h=>(by cases h)⟩
 | succ n e=>
  show((Ww d n).1++_).Pairwise _/\∀x∈(Ww d n).1++_,_;constructor
  .rw[OG];refine⟨e.1,by split<;>simp,λa g b f=>?_⟩;have:=e.2 a g;split at f
   .simp at f;omega
   .simp at f
  .intro x c;rcases V6.1 c with c|c
   .have:=e.2 x c;omega
   .split at c
    .simp at c;omega
    .simp at c
structure NA (L:List (List Int)):Prop where
 lo:1<=L.length
 hi:L.length<=4
 each:∀l∈L,l.length<=3/\l.Pairwise (· < ·)/\∀x∈l,0<=x/\x<3
abbrev δ:I:=.sl true 0 []
structure vu where
 k:Nat
 d:Zu
 L:List (List Int)
theorem Sv {L:List (List Int)}:∀e∈L.map (κ R 1),∀a∈e.cells,Γ 0 a:=λe c a b=>by
 obtain⟨x,_,rfl⟩:=YK.1 c;simp[I.cells] at b;subst b;simp[Yx,I.cells]
theorem vr (d:Zu) (hd:d.ζ.length<2 ^ 63) (N v:Nat) (az:1<=N) (aA:N<=6) (aT:v<=4) :
  Δ prog 90 [.Ο 0 1 0 0,R N,R v] [ZV d] (λa s=>∃G L nc ah,Y4 a (.Z9 [ZU G,Z3 L,Zm 4 (List.replicate nc δ)])/\Sw G/\NA L/\(nc<=v/\G.length<=N/\L.length<=3)/\s=ZV ah::.dead::.dead::.dead::ZY 60 1 (List.replicate nc δ)/\ah.ζ.length<=d.ζ.length) (λ_ _=>False):=by
 refine Δ.body Τ func90 rfl rfl ntmps90 rfl rfl J ?_
 repeat apply Ζ
 refine YR (A:=[6]) Τ λF m=>Z1 ?_;apply m
 repeat apply Ζ
 refine YR (A:=[7]) Τ λF m=>Z1 ?_;refine RX.c (vw d hd N az aA) 0 rfl (ZZ.refl _) J (by rintro r ⟨l,rfl,_⟩;exact Yx.2 T6) ?_;rintro r d1 ⟨G,rfl,aB,aC⟩ aD;simp;(repeat (rw[Μ];simp));apply m;have aE:d1.ζ.length<2 ^ 63:=U;obtain⟨aF,aG⟩:=NC d1 (a:=1) (b:=3) Z2 Z2 Z2;obtain⟨S,ai⟩:∃n:Nat,Vb d1 1 3=n:=⟨(Vb d1 1 3).toNat,U⟩;rw[ai] at aF aG;obtain⟨d2,aj⟩:=YN (d1.after (IntKind.i64.wrap (3-1)));have aH:d2.ζ.length<=d.ζ.length:=by rw[<-aj];exact Xs (Xl _ _) aD
 have O:=Ra d1 aE 1 3;rw[ai,aj] at O;refine ZB λF m=>?_;refine Ze.g (O) (Z1 ?_);apply m;have Z:∀L:List (List Int),(Zm 3 (L.map (κ R 1))=.sl true 0 []/\ZY 29 1 (L.map (κ R 1))=[]/\L=[])\/(Zm 3 (L.map (κ R 1))=.ms 3 L.length 0 L.length/\ZY 29 1 (L.map (κ R 1))=[.cells 29 1 (L.map (κ R 1))]/\0<L.length):=λL=>by
  by_cases t:L=[]
  .subst t;exact .inl ⟨rfl,rfl,rfl⟩
  .have ak:L.map (κ R 1)≠[]:=by simpa using t
   exact .inr ⟨by rw[XB ak,Yb],Yz ak,Q9.2 t⟩
 repeat apply Ζ
 refine W.iter (λx:vu=>x.L.length+x.k=S/\x.d.ζ.length<=d.ζ.length/\∀l∈x.L,l.length<=3/\l.Pairwise (· < ·)/\∀y∈l,0<=y/\y<3)
  (λx=>[(0,.Ο 0 1 0 0),(2,R v),(6,.Ο 1 1 0 0),(7,.Ο 2 1 0 0),(8,R x.k)])
  (λx=>ZV x.d::Y7 δ δ δ::Y7 (ZU G) (Zm 3 (x.L.map (κ R 1))) δ::ZY 29 1 (x.L.map (κ R 1))) (λx=>x.k) ⟨S,d2,[]⟩ ⟨J,aH,J⟩ rfl J (λx w B=>?_)
 obtain⟨k,o,L⟩:=x;obtain⟨aI,al,aa⟩:=w;simp only at aI al aa B ⊢;refine Φ ?_;refine W.YW rfl (λD=>?_) (λD=>?_)
 .have T:0<k:=by simpa using D
  obtain⟨j,H⟩:∃j,k=j+1:=⟨k-1,U⟩;have P:IntKind.i64.wrap ((k:Int)-1)=j:=by rw[IntWalk.i64_in _ U];omega
  have hi:=vX o U
  have ab:=vv o 3
  have am:=D6 o 3
  have aJ:=D7 o 3;obtain⟨l,an⟩:=YN ((Ww o 3).1);obtain⟨ad,ao⟩:=YN ((Ww o 3).2);rw[an,ao] at hi;rw[an] at ab am;rw[ao] at aJ;have ap:(L++[l]).length+j=S/\ad.ζ.length<=d.ζ.length/\∀x∈L++[l],x.length<=3/\x.Pairwise (· < ·)/\∀y∈x,0<=y/\y<3:=by
   refine⟨by simp;omega,U,λx w=>?_⟩;rcases V6.1 w with w|w
   .exact aa x w
   .simp at w;subst w;exact⟨am,ab.1,ab.2⟩
  have aq:(L++[l]).map (κ R 1)≠[]:=J
  repeat apply Ζ
  rcases Z L with⟨u,Χ,Q⟩|⟨u,Χ,Q⟩
  .rw[u,Χ];refine W.HR (A:=[25]) Τ mixed λF m=>?_;simp;(repeat (rw[Vq];simp));(try rw[Vr]);refine Ze.h (hi) (Rb ?_);refine⟨Ym (by kernel_rfl),Ym (by kernel_rfl),m _ _ ?_⟩;refine μ P ?_;subst Q;refine W.to (B ⟨j,ad,[]++[l]⟩ ap (by show j<k;omega)) ?_ ?_
   .have e:Zm 3 (([]++[l]).map (κ R 1))=.ms 3 1 0 1:=rfl
    have V:ZY 29 1 (([]++[l]).map (κ R 1))=[.cells 29 1 [κ R 1 l]]:=rfl;simp only[e,V]
   .simp
  .rw[u,Χ];refine W.HR (A:=[25]) Τ mixed λF m=>?_;simp;(repeat (rw[Vq];simp));(try rw[Vr]);refine Ze.h (hi) (Rb ?_);refine⟨U,?_⟩;refine⟨Ym (by kernel_rfl),Ym (by kernel_rfl),m _ _ ?_⟩;refine μ P ?_;refine W.to (B ⟨j,ad,L++[l]⟩ ap (by show j<k;omega)) ?_ ?_
   .have e:Zm 3 ((L++[l]).map (κ R 1))=.ms 3 (L.length+1) 0 (L.length+1):=by rw[XB aq,Yb,Vo];rfl
    have V:ZY 29 1 ((L++[l]).map (κ R 1))=[.cells 29 1 (L.map (κ R 1)++[κ R 1 l])]:=by rw[Yz aq,Xz];rfl
    simp only[e,V]
   .simp
 .have T:k=0:=by simp at D;omega
  subst T;have aK:L.length=S:=U;have aL:NA L:=⟨U,U,aa⟩;rcases Z L with⟨u,Χ,Q⟩|⟨u,Χ,Q⟩
  .subst Q;simp at aK;omega
  refine W.to (env':=[(0,.Ο 0 1 0 0),(2,R v),(6,.Ο 1 1 0 0),(7,.Ο 2 1 0 0)]) (σ':=[ZV o,Y7 δ δ δ,Y7 (ZU G) (.ms 3 L.length 0 L.length) δ,.cells 29 1 (L.map (κ R 1))]) ?_ (by rw[u,Χ]) J;clear B D Z u Χ;refine W.exit rfl ?_;have aM:o.ζ.length<2 ^ 63:=U;obtain⟨aN,aO⟩:=NC o (a:=0) (b:=v) U Z2 U;obtain⟨nc,ar⟩:∃n:Nat,Vb o 0 v=n:=⟨(Vb o 0 v).toNat,U⟩;rw[ar] at aN aO;obtain⟨d3,au⟩:=YN (o.after (IntKind.i64.wrap ((v:Int)-0)));have aP:d3.ζ.length<=d.ζ.length:=by rw[<-au];exact Xs (Xl _ _) al
  have O:=Ra o aM 0 v;rw[ar,au] at O;refine ZB λF m=>?_;refine Ze.g (O) (Z1 ?_);apply m
  repeat apply Ζ
  refine W.iter (λx:Nat×Nat=>x.1+x.2=nc)
   (λx=>[(0,.Ο 0 1 0 0),(6,.Ο 1 1 0 0),(7,.Ο 2 1 0 0),(9,R x.1)])
   (λx=>ZV d3::Y7 δ δ δ::Y7 (ZU G) (.ms 3 L.length 0 L.length) (Zm 4 (List.replicate x.2 δ))::.cells 29 1 (L.map (κ R 1))::ZY 60 1 (List.replicate x.2 δ)) (λx=>x.1) (nc,0) J rfl J (λx w B=>?_)
  obtain⟨k,c⟩:=x;simp only at w B ⊢;refine Φ ?_;refine W.YW rfl (λD=>?_) (λD=>?_)
  .have T:0<k:=by simpa using D
   obtain⟨j,H⟩:∃j,k=j+1:=⟨k-1,U⟩;have P:IntKind.i64.wrap ((k:Int)-1)=j:=by rw[IntWalk.i64_in _ U];omega
   have av:Zm 4 (List.replicate (c+1) δ)=.ms 4 (c+1) 0 (c+1):=by rw[XB J,Qo]
   have aw:ZY 60 1 (List.replicate (c+1) δ)=[.cells 60 1 (List.replicate c δ++[δ])]:=by rw[Yz J,List.replicate_succ']
   repeat apply Ζ
   by_cases t:c=0
   .subst t;have ae:Zm 4 (List.replicate 0 δ)=δ:=rfl;have af:ZY 60 1 (List.replicate 0 δ)=[]:=rfl;rw[ae,af];refine YR (A:=[37]) Τ λF m=>Z1 ?_;apply m;refine μ P ?_;refine W.to (B (j,1) (by show j+1=nc;omega) (by show j<k;omega)) ?_ ?_
    .simp only[av,aw];rfl
    .simp
   .have ae:Zm 4 (List.replicate c δ)=.ms 4 c 0 c:=by rw[XB (by simp[t]),Qo]
    have af:ZY 60 1 (List.replicate c δ)=[.cells 60 1 (List.replicate c δ)]:=Yz (by simp[t]);rw[ae,af];refine YR (A:=[37]) Τ λF m=>Z1 ?_;refine⟨U,?_⟩;apply m;refine μ P ?_;refine W.to (B (j,c+1) (by show j+(c+1)=nc;omega) (by show j<k;omega)) ?_ ?_
    .simp only[av,aw]
    .simp
  .have T:k=0:=by simp at D;omega
   have aQ:c=nc:=U;subst aQ;refine W.exit rfl ?_;obtain⟨C,X⟩:=Z8 (Zm 4 (List.replicate c δ));obtain⟨RC,Y⟩:=Z8 (ZY 60 1 (List.replicate c δ));rw[<-X,<-Y];have aR:(C=δ/\RC=[])\/(C=.ms 4 c 0 c/\RC=[.cells 60 1 (List.replicate c δ)]):=by
    by_cases t:c=0
    .subst t;exact .inl ⟨X,Y⟩
    .exact .inr ⟨by rw[X,XB (by simp[t]),Qo],by rw[Y,Yz (by simp[t])]⟩
   repeat apply Ζ
   refine W.Xv (A:=[]) Τ [(6,.Ο 1 1 0 0)] (ZV d3::Y7 (ZU G) (.ms 3 L.length 0 L.length) C::Y7 (ZU G) (.ms 3 L.length 0 L.length) C::.cells 29 1 (L.map (κ R 1))::RC) ?_ (by
    rcases aR with⟨u,Χ⟩|⟨u,Χ⟩
    .rw[u,Χ];(try simp);(repeat (rw[Μ];simp));(try simp)
    .rw[u,Χ];(try simp);(repeat (rw[Μ];simp));(try simp))
   have aS:RV 3 1 (L.map (κ R 1)) (.ms 3 L.length 0 L.length) (Z3 L):=by
    have:=RV.ms (id:=3) (k:=1) (l:=L.map (κ R 1))
    rwa [Yb] at this
   have ax:Me 3 1 (L.map (κ R 1)) (Y7 (ZU G) (.ms 3 L.length 0 L.length) C) (Y7 (ZU G) (Z3 L) C):=by
    refine .inr ⟨26,3,_,_,rfl,rfl,rfl,λi e V ag ay=>?_⟩
    match i with
    | 0=>
     simp at ag ay;subst ag;subst ay;refine⟨rfl,λx a aU K M=>?_⟩
     match x with
     | 0=>simp[I.cells] at K M;subst K;subst M;exact .same _
     | 1=>simp[I.cells] at K M;subst K;subst M;exact aS
     | 2=>simp[I.cells] at K M;subst K;subst M;exact .same _
     | x+3=>simp[I.cells] at K
    | i+1=>simp at ag
   refine W.Qq (σ':=ZV d3::Y7 (ZU G) (Z3 L) C::Y7 (ZU G) (Z3 L) C::.dead::RC) (id:=3) J rfl rfl rfl (λj r H f=>?_) [(6,.Ο 1 1 0 0)] (λp E=>by simp at E;subst E;exact .same _) ?_
   .match j,H,f with
    | 0,_,f=>simp at f;subst f;exact⟨_,rfl,.inl rfl⟩
    | 1,_,f=>simp at f;subst f;exact⟨_,rfl,ax⟩
    | 2,_,f=>simp at f;subst f;exact⟨_,rfl,ax⟩
    | 3,h,_=>exact absurd rfl h
    | j+4,_,f=>exact⟨r,f,.inl rfl⟩
   refine W.Qq (σ':=ZV d3::Y7 (ZU G) (Z3 L) C::.dead::.dead::RC) (id:=2) J rfl rfl rfl (λj r H f=>?_) [(6,.Ο 1 1 0 0)] (λp E=>by simp at E;subst E;exact .same _) ?_
   .match j,H,f with
    | 0,_,f=>exact⟨r,f,.inl rfl⟩
    | 1,_,f=>exact⟨r,f,.inl rfl⟩
    | 2,h,_=>exact absurd rfl h
    | j+3,_,f=>exact⟨r,f,.inl rfl⟩
   refine W.Qq (σ':=ZV d3::.dead::.dead::.dead::RC) (id:=1) J rfl rfl rfl (λj r H f=>?_) [(6,.Ε [ZU G,Z3 L,C])] (λp E=>by simp at E;subst E;exact .Ο (e:=.Z9 [ZU G,Z3 L,C]) rfl) ?_
   .match j,H,f with
    | 0,_,f=>exact⟨r,f,.inl rfl⟩
    | 1,h,_=>exact absurd rfl h
    | j+2,_,f=>exact⟨r,f,.inl rfl⟩
   refine W.ret ⟨_,rfl,?_⟩;refine⟨G,L,c,d3,?_,aB,aL,⟨U,aC,U⟩,by rw[Y],aP⟩;rw[<-X];exact .refl _
theorem vq:∀a<64,∀b<64,0<=X9 .i64 (a:Nat) (b:Nat)/\X9 .i64 (a:Nat) (b:Nat)<=63/\0<=Vi .i64 (a:Nat) (b:Nat)/\Vi .i64 (a:Nat) (b:Nat)<=63/\X9 .i64 (b:Nat) (Vi .i64 (a:Nat) (b:Nat))=0:=by decide +kernel
theorem Nz {a b:Int} (h:0<=a/\a<=63) (i:0<=b/\b<=63):(0<=X9 .i64 a b/\X9 .i64 a b<=63)/\(0<=Vi .i64 a b/\Vi .i64 a b<=63)/\X9 .i64 b (Vi .i64 a b)=0:=by
 obtain⟨x,rfl⟩:∃x:Nat,a=x:=⟨a.toNat,U⟩;obtain⟨y,rfl⟩:∃y:Nat,b=y:=⟨b.toNat,U⟩;obtain⟨c,d,e,f,g⟩:=vq x U y U;exact⟨⟨c,d⟩,⟨e,f⟩,g⟩
structure PI (n:Nat) (c:List Y9):Prop where
 hi:c.length<=4
 apart:(c.map (·.Zb)).Nodup
 each:∀p∈c,(0<=p.Zb/\p.Zb<n)/\(0<=p.seen/\p.seen<=63)/\(0<=p.bare/\p.bare<=63)/\V0 p.seen p.bare=0
structure S7 (s:ο):Prop where
 Κ:Sw s.Κ
 Β:NA s.Β
 many:s.cells.length<=4
 cells:∀c∈s.cells,PI s.Β.length c
theorem S7.small {s:ο} (h:S7 s):s.small:=by
 have b:=h.Κ.hi
 have c:=h.Β.hi
 have d:=h.many;refine⟨U,U,U,λx a=>?_,λx a=>?_⟩
 .have:=(h.Β.each x a).1;omega
 .have:=(h.cells x a).hi;omega
theorem DT (d:Zu) (hd:d.ζ.length<2 ^ 63) (g k:Nat) (o:1<=g) (p:g<=6) (t:k<=4) {σ:Υ} {K E:I->Υ->Prop} (u:σ[0]?=some (ZV d))
  (v:∀G L nc b,Sw G->NA L->nc<=k/\G.length<=g/\L.length<=3->b.ζ.length<=d.ζ.length->K (.Z9 [ZU G,Z3 L,Zm (σ.length+3) (List.replicate nc δ)]) (σ.set 0 (ZV b)++(.dead::.dead::.dead::ZY 60 1 (List.replicate nc δ)))) :
  WZ prog (.fn (.func 90) [] []) [.Ο 0 1 0 0,R g,R k] σ K E:=by
 have w:∀nc,∀r∈ZY 60 1 (List.replicate nc δ),MJ r:=λnc r c=>by
  unfold ZY at c;split at c
  .cases c
  .simp at c;subst c;refine .inl λe x a f=>?_;have:=JD x;subst this;simp[I.cells] at f;subst f;simp[Yx]
 have m:=Δ.Uo (vr d hd g k o p t) (ZZ.refl _) (K':=λa s=>∃G L nc b,a=.Z9 [ZU G,Z3 L,Zm 4 (List.replicate nc δ)]/\Sw G/\NA L/\(nc<=k/\G.length<=g/\L.length<=3)/\s=ZV b::.dead::.dead::.dead::ZY 60 1 (List.replicate nc δ)/\b.ζ.length<=d.ζ.length) (λa s ⟨G,L,nc,b,m,y⟩=>⟨_,m,G,L,nc,b,rfl,y⟩)
 have A:=Δ.Gc (σ:=σ) m [0] J rfl (λj i n=>by
  cases j with
  | zero=>simp at n;subst n;exact u
  | succ j=>simp at n) (λr c=>by simp at c;subst c;exact Sy d) (by
   intro a f;simp at f;rcases f with rfl|rfl|rfl
   .exact Nat.zero_lt_one
   .exact(Γ.z _).V9 1
   .exact(Γ.z _).V9 1) (K':=K) (E':=E) (λa s=>by
   rintro⟨G,L,nc,b,rfl,B,C,D,rfl,F⟩;refine⟨λr c=>?_,?_,?_⟩
   .simp only[YZ] at c;rcases c with rfl|rfl|rfl|rfl|c
    .exact .inl (Sy b)
    .exact .inr rfl
    .exact .inr rfl
    .exact .inr rfl
    .exact w nc r c
   .intro a f;simp only[YZ,XY,or_false] at f;rcases f with rfl|rfl|rfl
    .exact Γ.top (Yx.2 T6) _
    .exact Γ.top (Yx.2 Sv) _
    .unfold Zm ZY;split
     .exact Γ.top J _
     .show 4<_;simp
   .have H:QF σ [0] (ZV b::.dead::.dead::.dead::ZY 60 1 (List.replicate nc δ))=σ.set 0 (ZV b)++(.dead::.dead::.dead::ZY 60 1 (List.replicate nc δ)):=by
     simp[QF,Wa]
    have Χ:Yt (names [0] σ.length (ZV b::.dead::.dead::.dead::ZY 60 1 (List.replicate nc δ))) (.Z9 [ZU G,Z3 L,Zm 4 (List.replicate nc δ)])=.Z9 [ZU G,Z3 L,Zm (σ.length+3) (List.replicate nc δ)]:=by
     by_cases l:nc=0
     .subst l;rfl
     .rw[XB (by simp[l]),XB (by simp[l]),Yz (by simp[l])];show I.Z9 [_,_,_]=_;simp[Wp,names,Uy]
    rw[H,Χ];exact v G L nc b B C D F) (λa s h=>h.elim)
 exact Δ.call (first:=[]) (captured:=[]) (by simpa[Tk,Yt,Wp] using A)
section
variable {P:Program} {m nt:Nat} {k:List Item} {env:Ι} {σ:Υ} {Z:XF} {E:Yf}
theorem W.bind {n:XF} (h:W P m nt k env σ n E) (w:∀j e s,n j e s->W P m nt j e s Z E):W P m nt k env σ Z E:=
 λo mn x cs b S B H t p r y A u=>h o mn x cs b S B H t p r y
  (λj e s C B' H' t' M D v F I=>by
   cases I;exact w j e s D o mn x cs b C B' H' t' p r F (λJ Χ a c d f t2 g i l=>A J Χ a c d f t2 g i (v.trans l)) (λl Χ a c d f t2 g K i L=>u l Χ a c d f t2 g K i (v.trans L)))
  u
end
theorem Qp {i:Nat} (a:i<2 ^ 61):IntKind.i64.wrap ((i:Int)+1)=((i+1:Nat):Int):=by
 rw[IntWalk.i64_in _ U];omega
theorem vp:∀a<64,∀b<64,(Vi .i64 (a:Nat) (b:Nat)=0↔X9 .i64 (b:Nat) (a:Nat)=(a:Nat))/\0<=RE .i64 (a:Nat) (b:Nat)/\RE .i64 (a:Nat) (b:Nat)<=63:=by decide +kernel
theorem HI {a b:Int} (c:0<=a/\a<=63) (d:0<=b/\b<=63):(Vi .i64 a b=0↔X9 .i64 b a=a)/\0<=RE .i64 a b/\RE .i64 a b<=63:=by
 obtain⟨x,rfl⟩:∃x:Nat,a=x:=⟨a.toNat,U⟩;obtain⟨y,rfl⟩:∃y:Nat,b=y:=⟨b.toNat,U⟩;exact vp x U y U
theorem HH {s:ο} (h:S7 s) {g:Int}:0<=s.of g/\s.of g<=63:=by
 unfold ο.of;split
 .omega
 .cases c:s.Κ[g.toNat]? with
  | none=>simp
  | some x=>
   obtain⟨_,a,b⟩:=h.Κ.each x (Zk c);simp;omega
theorem vo {s:ο} (h:S7 s) (p r:Int×Int) (n:Nat):0<=s.Yd p r n/\s.Yd p r n<=63:=by
 have a:∀g,0<=Vg 0 (s.of g)/\Vg 0 (s.of g)<=63:=λg=>(HI (a:=0) U (HH h)).2
 have z:(0:Int)<=0/\(0:Int)<=63:=U;unfold ο.Yd;simp only;split
 .split
  .exact(HI (a r.1) (HH h)).2
  .exact(HI z (HH h)).2
 .split
  .exact a r.1
  .exact z
abbrev Χ (r:Int×Int):I:=YO [r.1,r.2]
theorem DS {L:List (Int×Int)}:∀e∈L.map Χ,∀a∈e.cells,Γ 0 a:=λe c a b=>by
 obtain⟨x,_,rfl⟩:=YK.1 c;simp[I.cells] at b;subst b;simp
abbrev HG (l:List (Int×Int)):List (List Int):=l.map λr=>[r.1,r.2]
theorem DR (l:List Int) (n:Int) (a:l.length<2 ^ 62):Ν prog 112 [κ R 1 l,R n] (ZQ (l.contains n)):=
 (Ar l n a).mono (λ_ _ ⟨b,c⟩=>⟨.of b,c⟩) (λ_ _ h=>h)
end Go.TL
namespace Go.TL
open Go.Proofs.Tryz
open Go.Conc
variable [ZS]
inductive OK (id:Nat):I->I->Prop where
 | same (a:I):OK id a a
 | nil {k:Nat}:OK id (.sl true k []) (.ms id 0 0 0)
def Ny (id:Nat) (r r':Row):Prop:=r'=r\/∃t n es es',r=.cells t n es/\r'=.cells t n es'/\es'.length=es.length/\
 ∀(i:Nat) (e b:I),es[i]?=some e->es'[i]?=some b->b.cells.length=e.cells.length/\∀(x:Nat) (a c:I),e.cells[x]?=some a->b.cells[x]?=some c->OK id a c
section
variable {P:Program} {S:Α} {B:θ} {H:Ψ} {σ σ':Υ} {m nt k:Nat} {t:TypeId} {kk:List Item} {env:Ι} {Z:XF} {E:Yf}
theorem ZC.pad (g:B.length=σ.length) (i:σ'.length=σ.length) (b:∀(j:Nat) (r:Row),σ[j]?=some r->∃r',σ'[j]?=some r'/\Ny σ.length r r'):ZC S S B (B++[none]) σ (σ'++[.cells t k []]):=
 ⟨λ_ _ _ h=>h,λj r a=>by
  have l:=(ZD.1 a).1;obtain⟨r',c,d⟩:=b j r a;have e:(B++[none])[j]?=B[j]?:=YU U;refine⟨r',by rw[YU U];exact c,?_⟩;rw[e];rcases d with rfl|⟨t,n,es,es',rfl,rfl,f,_⟩
  .exact Row.QW _ _
  .exact .inl ⟨es',rfl,f,rfl⟩⟩
theorem Θ.DQ (i:B.length=σ.length) (j:σ'.length=σ.length) (l:ZC S S B (B++[none]) σ (σ'++[.cells t k []])) {a c:I} (h:OK σ.length a c) {v:Value} (d:Θ S B σ a v):Θ S (B++[none]) (σ'++[.cells t k []]) c v:=by
 cases h with
 | same=>exact d.later l
 | nil=>
  have e:(σ'++[Row.cells t k []])[σ.length]?=some (.cells t k []):=by rw[<-j];simp
  have f:(B++[none])[σ.length]?=some none:=by rw[<-i];simp
  cases d with
  | WB base cap g=>
   obtain rfl:=g rfl;exact .ms 0 e rfl f (ZO _) (ZO _) (.inl rfl)
  | sl b o cap w g=>
   obtain rfl:cap=0:=g rfl;exact .ms 0 e rfl f (ZO _) (ZO _) (.inl rfl)
theorem W.pad (t:TypeId) (k:Nat) (L:σ'.length=σ.length) (X:∀(j:Nat) (r:Row),σ[j]?=some r->∃r',σ'[j]?=some r'/\Ny σ.length r r') (env':Ι) (aA:∀p∈env',OK σ.length (Z' env p.1) p.2)
  (aB:W P m nt kk env' (σ'++[.cells t k []]) Z E):W P m nt kk env σ Z E:=by
 intro aC mn x cs b S B H Z7 M g O aD aE;have f:=O.holds;have Q:=f.len;have R:ZC S S B (B++[none]) σ (σ'++[.cells t k []]):=ZC.pad Q L X;have ap:∀j,j<σ.length->(σ'++[Row.cells t k []])[j]?=σ'[j]?:=λj h=>YU U;have l:∀j,j<σ.length->(B++[none])[j]?=B[j]?:=λj h=>YU U;have T:∀j r',j<σ.length->(σ'++[Row.cells t k []])[j]?=some r'->∃r,σ[j]?=some r/\Ny σ.length r r':=λj r' s h=>by
  rw[ap j s] at h;obtain⟨aq,d,Y⟩:=X j _ (ε s);rw[h] at d;cases d;exact⟨_,ε s,Y⟩
 have aa:∀{r r':Row},Ny σ.length r r'->r'.live->r.live:=λ{r r'} h hv=>by
  rcases h with rfl|⟨_,_,_,_,rfl,rfl,_⟩
  .exact hv
  .trivial
 have low:∀j y,(B++[none])[j]?=some (some y)->j<σ.length:=λj y h=>by
  have d:=(ZD.1 h).1;simp at d;by_cases e:j=B.length
  .subst e;simp at h
  .omega
 have aF:Holds S (B++[none]) (σ'++[.cells t k []]) H:=by
  refine⟨f.YX,by simp;omega,λj r bo c u=>?_,λi j aG aH b aI aJ aK hi s aL aM ab ad=>?_,λj r b N c aN g o=>?_⟩
  .by_cases e:j<σ.length
   .rw[l j e] at u;obtain⟨aO,d,Y⟩:=T j r e c;have V:=f.row j aO bo d u;rcases Y with rfl|⟨t2,n,es,es',rfl,rfl,ae,aP⟩
    .refine V.later R (λb N _=>⟨λ_=>rfl,rfl,rfl⟩) λaf left a6 Χ=>?_;subst Χ;obtain⟨_,_,a7,a8,xs,a9,seen,_,ar,⟨es,A⟩,_⟩:=V;have au:=(ZD.1 A).1;refine⟨?_,l af au,λb N _=>⟨λ_=>rfl,rfl,rfl⟩⟩;obtain⟨r',aQ,aR⟩:=X af _ A;rcases aR with rfl|⟨_,_,_,_,aS,_⟩
     .rw[ap af au,aQ,A]
     .cases aS
    .cases bo with
     | none=>
      have:es=[]:=V;subst this;exact YV.1 ae
     | some y=>
      obtain⟨b,N⟩:=y;obtain⟨C,D,F,w,I⟩:=V;refine⟨C,by rw[ae];exact D,F,w,λi aT hi=>?_⟩;have av:i<es.length:=by rw[<-ae];exact(ZD.1 hi).1
      obtain⟨aU,aV⟩:=I i _ (ε av);obtain⟨d1,d2⟩:=aP i _ aT (ε av) hi;refine⟨d1.trans aU,λx aW M=>?_⟩;have aw:x<(es[i]).cells.length:=by rw[<-d1];exact(ZD.1 M).1
      obtain⟨ar,A,aX⟩:=aV x _ (ε aw);exact⟨ar,A.DQ Q L R (d2 x _ aW (ε aw) M),aX⟩
   .have d:=(ZD.1 c).1;simp at d;have aY:j=σ'.length:=U;subst aY;rw[L,<-Q] at u;simp at c u;subst c;subst u;rfl
  .have ax:=low i _ ab
   have K:=low j _ ad;obtain⟨ag,ah,ai⟩:=T i aG ax hi;obtain⟨aq,aZ,a0⟩:=T j aH K s;rw[l i ax] at ab;rw[l j K] at ad;exact f.inj i j ag aq b aI aJ aK ah aZ (aa ai aL) (aa a0 aM) ab ad
  .have K:=low j _ g;obtain⟨ag,ah,ai⟩:=T j r K c;rw[l j K] at g;exact f.sep j ag b N ah (aa ai aN) g o
 have a1:Ext S B H S (B++[none]) H:=(f.push (r:=.cells t k []) (bo:=none) (λb N h=>by cases h) (λb _=>⟨λ_=>rfl,rfl,rfl⟩) (λ_=>rfl)).2.1
 have ay:Ye m S B H σ S (B++[none]) H (σ'++[.cells t k []]):=⟨a1,R.left m⟩
 have a2:∀(l2:Ι),(∀p∈l2,OK σ.length (Z' env p.1) p.2)->∀i,Θ S B σ (Z' env i) (Z7.getD i undef)->Θ S (B++[none]) (σ'++[.cells t k []]) (Z' l2 i) (Z7.getD i undef):=by
  intro l2
  induction l2 with
  | nil=>intro _ i _;exact .Zw _
  | cons p l2 a3=>
   intro az i c;simp only[Z'];split
   .rename_i e;subst e;exact c.DQ Q L R (az p J)
   .exact a3 (λq a4=>az q (by simp[a4])) i c
 refine aB aC mn x cs b _ _ H Z7 M g ⟨aF,λi=>a2 env' aA i (O.Zr i),O.size,by have:=O.rows;simp;omega⟩ (λj aj ak al am an t2 ao C D F I=>?_) (λa aj ak al am an t2 ao v C D F I a5=>?_)
 .exact aD j aj ak al am an t2 ao C (ay.trans D) F I
 .exact aE a aj ak al am an t2 ao v C (ay.trans D) F I a5
theorem W.vn (t:TypeId) (k:Nat) {i:Nat} {r r':Row} (hi:σ[i]?=some r) (b:Ny σ.length r r') (env':Ι) (c:∀p∈env',OK σ.length (Z' env p.1) p.2) (d:W P m nt kk env' (σ.set i r'++[.cells t k []]) Z E):W P m nt kk env σ Z E:=
 W.pad t k J (λj q a=>by
  by_cases e:j=i
  .subst e;rw[hi] at a;cases a;exact⟨r',by rw[WE (ZD.1 hi).1],b⟩
  .exact⟨q,by rw[VT (Y2 e)];exact a,.inl rfl⟩) env' c d
end
end Go.TL
namespace Go.TL
open Go.Proofs.Tryz
open Go.Proofs
variable [ZS]
theorem DO (s:ο) (g:Int) (c:g<s.Κ.length):Ν prog 134 [Zd s,R g] (R (s.of g)):=by
 refine Δ.body Τ func134 rfl rfl ntmps134 rfl rfl J ?_;refine Φ ?_;refine W.YW rfl (λa=>?_) (λa=>?_)
 .have a:g<0:=by simpa using a
  refine Φ ?_;refine W.rt ?_;exact .of (by rw[show s.of g=0 by simp[ο.of,a]];rfl)
 .have a:¬g<0:=by simpa using a
  obtain⟨n,rfl⟩:∃n:Nat,g=n:=⟨g.toNat,U⟩;have b:n<s.Κ.length:=U;refine μ b ?_;refine W.rt ?_;exact .of (by rw[show s.of n=s.Κ[n].ZG by simp[ο.of,b];intro h;omega];rfl)
theorem vm (s:ο) (m:s.small) (p r:Int×Int) (n:Nat) (e:n<s.Β.length) (o:r.1<s.Κ.length) (t:r.2<s.Κ.length) :
  Ν prog 98 [Zd s,κ R 1 [p.1,p.2],κ R 1 [r.1,r.2],R n] (R (s.Yd p r n)):=by
 have f:=ε e
 have g:s.Β[n].length<2 ^ 62:=by have:=m.2.2.2.1 _ (YB e);omega
 obtain⟨L,k⟩:=Z8 (s.Β[n]);rw[<-k] at f g;have l:∀h,s.Β[n]'h=L:=λh=>k.symm;have hv:s.Yd p r n=if L.contains p.2 then Vg (if L.contains p.1 then Vg 0 (s.of r.1) else 0) (s.of r.2) else(if L.contains p.1 then Vg 0 (s.of r.1) else 0):=by unfold ο.Yd;rw[f];rfl
 refine Δ.body Τ func98 rfl rfl ntmps98 rfl rfl J ?_;refine Φ ?_;refine W.iter (λq:Nat×Int=>q.1<=2/\(q.1=0->q.2=0)/\(q.1=1->q.2=if L.contains p.1 then Vg 0 (s.of r.1) else 0)/\(q.1=2->q.2=s.Yd p r n))
  (λq=>[(1,κ R 1 [p.1,p.2]),(2,κ R 1 [r.1,r.2]),(3,R n),(4,ZW s),(9,R q.2),(10,R q.1)]) (λ_=>[]) (λq=>2-q.1) (0,0) ⟨U,J,J,J⟩ rfl J (λq hi a=>?_)
 rcases q with⟨i,x⟩
 match i,hi,a with
 | 0,hi,a=>
  have c:x=0:=hi.2.1 rfl;subst c;refine Φ ?_;refine υ rfl ?_
  repeat apply Ζ
  refine W.draw (A:=[]) Τ mixed λj d=>TI (Ρ f (Ρ l e)) ?_;refine Yl (Ν.q (DR L p.1 g)) (VK ?_);refine XL (d _ _ ?_);by_cases b:p.1∈L
  .refine υ (by simp[b]) ?_
   repeat apply Ζ
   refine W.draw (A:=[]) Τ mixed λj d=>VK ?_;refine Yl (Ν.q (DO s r.1 o)) (VK ?_);refine XL (d _ _ ?_);refine Φ ?_;refine W.forget _ ?_ (a (1,Vg 0 (s.of r.1)) ⟨J,J,by simp[b],J⟩ J);simp[N5]
  .refine χ (by simp[b]) ?_;refine Φ ?_;refine W.forget _ ?_ (a (1,0) ⟨J,J,by simp[b],J⟩ J);simp[N5]
 | 1,hi,a=>
  have c:=hi.2.2.1 rfl;simp at c;refine Φ ?_;refine υ rfl ?_
  repeat apply Ζ
  refine W.draw (A:=[]) Τ mixed λj d=>TI (Ρ f (Ρ l e)) ?_;refine Yl (Ν.q (DR L p.2 g)) (VK ?_);refine XL (d _ _ ?_);by_cases b:p.2∈L
  .refine υ (by simp[b]) ?_
   repeat apply Ζ
   refine W.draw (A:=[]) Τ mixed λj d=>VK ?_;refine Yl (Ν.q (DO s r.2 t)) (VK ?_);refine XL (d _ _ ?_);refine Φ ?_;refine W.forget _ ?_ (a (2,Vg x (s.of r.2)) ⟨J,J,J,λ_=>by rw[hv];simp[b,c]⟩ J);simp[MH]
  .refine χ (by simp[b]) ?_;refine Φ ?_;refine W.forget _ ?_ (a (2,x) ⟨J,J,J,λ_=>by rw[hv];simp[b,c]⟩ J);simp[MH]
 | 2,hi,a=>
  have c:=hi.2.2.2 rfl;refine Φ ?_;refine χ rfl ?_;refine W.exit rfl ?_;refine Φ ?_;refine W.rt ?_;exact .of (by rw[<-show x=s.Yd p r n from c];rfl)
 | i+3,hi,a=>exact absurd hi.1 J
section
variable {P:Program} {T:Z5} {A:List Nat} {m nt:Nat} {k:List Item} {env:Ι} {σ:Υ} {Z:XF} {E:Yf}
theorem W.DN (a:ZJ P T) (env':Ι) (σ':Υ) {ops:Array Oper} {l:List Nat} (h:W P m nt k env' σ' Z E) (b:run P T A nt ops l env σ (λe s=>W P m nt k env' σ' Z E->W P m nt k e s Z E) E):W P m nt (.inRegion ops l::k) env σ Z E:=by
 have:=IY (m:=m) (k:=k) (Z:=Z) a [] l env σ (KN (λe s f=>W.ZM (f h)) _ _ _ b);simpa using this
end
def VF (l:List Y9):I:=Xn 3 (l.map Zv)
def Z4 (done:List (List Y9)) (nc:Nat):ψ:=done.map VF++List.replicate (nc-done.length) δ
theorem DL (nc:Nat):Z4 [] nc=List.replicate nc δ:=by simp[Z4]
theorem TD {done:List (List Y9)} {nc:Nat} (h:done.length<=nc):(Z4 done nc).length=nc:=by simp[Z4];omega
theorem DK {done:List (List Y9)}:Z4 done done.length=done.map VF:=by simp[Z4]
theorem DJ {done:List (List Y9)} {nc:Nat} (h:done.length<nc):(Z4 done nc)[done.length]?=some δ:=by
 unfold Z4;rw[XT J,Yb,Qj,Nu,if_pos U]
theorem DI {done:List (List Y9)} {nc:Nat} (h:done.length<nc) (a:List Y9):(Z4 done nc).set done.length (VF a)=Z4 (done++[a]) nc:=by
 unfold Z4;obtain⟨r,b⟩:∃r,nc-done.length=r+1:=⟨nc-done.length-1,U⟩;have e:nc-(done++[a]).length=r:=by simp;omega
 rw[b,e,List.replicate_succ,Qn _ _ J,Yb,Qj,List.set_cons_zero,Xz,TZ];rfl
theorem HF (l:List Y9):Γ 0 (VF l):=by
 unfold VF Xn;split
 .simp
 .refine Yx.2 λe c a b=>?_;obtain⟨x,_,rfl⟩:=YK.1 c;simp[I.cells] at b;rcases b with rfl|rfl|rfl<;>exact .z _
theorem HE (l:List Y9):(VF l).cells=[VF l]:=by
 unfold VF Xn;split<;>rfl
theorem Nx {done:List (List Y9)} {nc:Nat}:∀e∈Z4 done nc,e.cells=[e]/\Γ 0 e:=λe he=>by
 unfold Z4 at he;rcases V6.1 he with he|he
 .obtain⟨x,_,rfl⟩:=YK.1 he;exact⟨HE x,HF x⟩
 .have:=JD he;subst this;exact⟨rfl,J⟩
structure vl where
 d:Zu
 done:List (List Y9)
structure DH where
 k:Nat
 d:Zu
 Q':List Y9
theorem vk (d:Zu) (hd:d.ζ.length<2 ^ 63) (aC ab:Nat) (bH:1<=aC) (bI:aC<=6) (bJ:ab<=4) :
  RX 37 [R aC,R ab] d (λr=>∃s,r=Zd s/\S7 s/\s.cells.length<=ab/\s.Β.length<=3):=by
 unfold RX;refine Δ.body Τ func37 rfl rfl ntmps37 rfl rfl J ?_
 repeat apply Ζ
 refine YR (A:=[6]) Τ λaD X=>Z1 ?_;apply X
 repeat apply Ζ
 refine W.Zt ?_;refine W.part (A:=[7]) Τ [0,1,2,3] [4,5] rfl λaD X=>?_;(try simp);(repeat (rw[Μ];simp));refine DT d hd aC ab bH bI bJ rfl ?_;intro G L nc d1 bK a5 ⟨cn,cp,bL⟩ bM;simp only[List.length_cons,List.length_nil,Nat.reduceAdd,List.set_cons_zero,List.cons_append,List.nil_append];obtain⟨ad,aH⟩:=Z8 (Zm 5 (List.replicate nc δ));have ak:(nc=0/\ad=δ)\/(0<nc/\ad=.ms 5 nc 0 nc):=by
  by_cases F:nc=0
  .subst F;exact .inl ⟨rfl,aH⟩
  .exact .inr ⟨U,by rw[aH,XB (by simp[F]),Qo]⟩
 have al:∀done:List (List Y9),done.length<=nc->(nc=0/\ZY 60 1 (Z4 done nc)=[])\/(0<nc/\ZY 60 1 (Z4 done nc)=[.cells 60 1 (Z4 done nc)]):=λdone am=>by
  by_cases F:nc=0
  .subst F;have:=YV.1 (TD am);exact .inl ⟨rfl,by rw[this];rfl⟩
  .exact .inr ⟨U,Yz (λh=>by have:=TD am;rw[h] at this;simp at this;omega)⟩
 rw[<-aH,<-DL];rw[O6,Sg];apply X;clear X aD;have ae:Γ ([ZV d1,Y7 δ δ δ,.dead,.dead,.dead]++ZY 60 1 (Z4 [] nc)).length ad:=by
  rcases ak with⟨_,e⟩|⟨Y,e⟩
  .rw[e];simp
  .rcases al [] (ω _) with⟨S,_⟩|⟨_,Χ⟩
   .omega
   .rw[e,Χ];exact TK.2 J
 refine W.DN (A:=[7]) Τ [(0,.Ο 0 1 0 0),(6,.Ο 1 1 0 0),(7,.Ε [ZU G,Z3 L,ad])] ([ZV d1,Y7 δ δ δ,.dead,.dead,.dead]++ZY 60 1 (Z4 [] nc)) ?_ (by
  have aE:∀h,∀r∈[ZV d1,Y7 δ δ δ,.dead,.dead,.dead]++ZY 60 1 (Z4 [] nc),X8 h r:=λh r b=>by
   rcases V6.1 b with b|b
   .simp only[YZ,XY,or_false] at b;rcases b with rfl|rfl|rfl|rfl|rfl
    .exact T7 d1 h
    .intro e u a f;simp[I.cells] at u;subst u;simp[I.cells] at f;subst f;simp
    .trivial
    .trivial
    .trivial
   .exact OX (λe u a f=>by obtain⟨w,o⟩:=Nx e u;rw[w] at f;simp at f;subst f;exact o) r b
  rcases ak with⟨Y,e⟩|⟨Y,e⟩<;>rcases al [] (ω _) with⟨S,Χ⟩|⟨S,Χ⟩
  .rw[Χ] at aE ae;rw[e] at ae;rw[e,Χ];(try simp);(repeat (rw[Μ];simp));(try simp);intro aI;exact W.Vw (σ0:=[ZV d1,Y7 δ δ δ,.dead,.dead,.dead]) J (aE _) (λa f=>by
    simp[I.cells] at f;rcases f with rfl|rfl|rfl
    .exact(Yx.2 T6:Γ 0 _).mono (ω _)
    .exact(Yx.2 Sv:Γ 0 _).mono (ω _)
    .exact ae) [(0,.Ο 0 1 0 0),(6,.Ο 1 1 0 0),(7,.Ε [ZU G,Z3 L,δ])] (by simp[WH,I.cells]) aI
  .omega
  .omega
  .rw[Χ] at aE ae;rw[e] at ae;rw[e,Χ];have Z:(Z4 [] nc).length=nc:=TD (ω _);(try simp);(repeat (rw[Μ];simp[Z]));(try simp[Z]);intro aI;exact W.Vw (σ0:=[ZV d1,Y7 δ δ δ,.dead,.dead,.dead,.cells 60 1 (Z4 [] nc)]) J (aE _) (λa f=>by
    simp[I.cells] at f;rcases f with rfl|rfl|rfl
    .exact(Yx.2 T6:Γ 0 _).mono (ω _)
    .exact(Yx.2 Sv:Γ 0 _).mono (ω _)
    .exact ae) [(0,.Ο 0 1 0 0),(6,.Ο 1 1 0 0),(7,.Ε [ZU G,Z3 L,.ms 5 nc 0 nc])] (by simp[WH,I.cells]) aI)
 obtain⟨C,aF⟩:=Z8 L.length;have bN:=a5.lo;rw[<-aF] at bN bL;have cq:(L.map (κ R 1)).length=C:=by rw[Yb,aF]
 refine Φ ?_;refine W.iter (λx:vl=>x.done.length<=nc/\x.d.ζ.length<=d.ζ.length/\∀c∈x.done,PI C c)
  (λx=>[(0,.Ο 0 1 0 0),(6,.Ο 1 1 0 0),(7,.Ε [ZU G,Z3 L,ad]),(8,R x.done.length)])
  (λx=>[ZV x.d,Y7 δ δ δ,.dead,.dead,.dead]++ZY 60 1 (Z4 x.done nc)) (λx=>nc-x.done.length) ⟨d1,[]⟩ ⟨J,bM,J⟩ rfl J (λx K aJ=>?_)
 obtain⟨M,done⟩:=x;obtain⟨am,aK,aL⟩:=K;simp only at am aK aL aJ ⊢;obtain⟨c,an⟩:=Z8 done.length;rw[<-an] at am aJ;rw[<-an]
 repeat apply Ζ
 refine W.Xv (A:=[]) Τ [(20,ZQ (decide (c<nc))),(0,.Ο 0 1 0 0),(6,.Ο 1 1 0 0),(7,.Ε [ZU G,Z3 L,ad]),(8,R c)] ([ZV M,Y7 δ δ δ,.dead,.dead,.dead]++ZY 60 1 (Z4 done nc)) ?_ (by
  have Z:(Z4 done nc).length=nc:=TD U;rcases ak with⟨Y,e⟩|⟨Y,e⟩<;>rcases al done U with⟨S,Χ⟩|⟨S,Χ⟩
  .rw[e,Χ,S];(try simp);(repeat (rw[Μ];simp));(try simp)
  .omega
  .omega
  .rw[e,Χ];(try simp);(repeat (rw[Μ];simp[Z]));(try simp[Z]))
 refine W.YW rfl (λaf=>?_) (λaf=>?_)
 .have af:c<nc:=by simpa using af
  rcases ak with⟨Y,_⟩|⟨Y,e⟩
  .omega
  rcases al done U with⟨S,_⟩|⟨S,Χ⟩
  .omega
  obtain⟨O,ao⟩:=Z8 (Z4 done nc);have a6:O.length=nc:=by rw[ao];exact TD U
  have a7:O[c]?=some δ:=by rw[ao,an];exact DJ U
  have bO:∀m,O.set c (VF m)=Z4 (done++[m]) nc:=λm=>by rw[ao,an];exact DI U m
  have a8:∀e∈O,e.cells=[e]/\Γ 0 e:=by rw[ao];exact Nx
  have aG:O.set c δ=O:=by
   apply Su;intro i;rw[List.getElem?_set];split
   .rename_i e;subst e;split
    .exact a7.symm
    .rename_i h;exact(h U).elim
   .rfl
  have a9:L.length=C:=aF.symm;rw[e,Χ,<-ao];simp only[List.cons_append,List.nil_append];have aM:=HN M U C U;have aN:=JI M C;have a':∀x∈(Xb M C).1,0<=x/\x<C:=λx h=>HK h;have ba:=HJ M C;have bP:=JJ M C;obtain⟨H,bQ⟩:=YN ((Xb M C).1);obtain⟨ap,bR⟩:=YN ((Xb M C).2);rw[bQ] at aM aN a' ba;rw[bR] at aM bP;refine XM a9 λaD X=>?_;refine Ze.g (aM) (Z1 ?_);apply X;have bb:=U1 ap U C;obtain⟨t0,t1⟩:=T8 ap C U U;obtain⟨T,aq⟩:∃k:Nat,XJ ap C=k:=⟨(XJ ap C).toNat,U⟩;obtain⟨bc,bd⟩:=YN (ap.after C);have bS:bc.ζ.length<=d.ζ.length:=by rw[<-bd];exact Xs (Xl _ _) U
  rw[aq,bd] at bb;rw[aq] at t1;refine XM a9 λaD X=>?_;refine Ze.g (bb) (Z1 ?_);apply X
  repeat apply Ζ
  refine W.iter (λx:DH=>x.Q'.length+x.k=T/\x.d.ζ.length<=d.ζ.length/\x.Q'.map (·.Zb)=((H.take T).drop x.k).reverse/\∀p∈x.Q',(0<=p.seen/\p.seen<=63)/\(0<=p.bare/\p.bare<=63)/\V0 p.seen p.bare=0)
   (λx=>[(0,.Ο 0 1 0 0),(6,.Ο 1 1 0 0),(7,.Ε [ZU G,Z3 L,.ms 5 nc 0 nc]),(8,R c),(9,κ R 1 H),(10,R x.k)])
   (λx=>ZV x.d::Y7 δ δ δ::.dead::.dead::.dead::.cells 60 1 (O.set c (Zm 6 (x.Q'.map Zv)))::ZY 28 3 (x.Q'.map Zv)) (λx=>x.k) ⟨T,bc,[]⟩
   ⟨J,bS,J,J⟩ (by simp only[TX];rw[show Zm 6 []=δ from rfl,aG];rfl) J (λx K be=>?_)
  obtain⟨k,E,m⟩:=x;obtain⟨bT,aO,ar,aP⟩:=K;simp only at bT aO ar aP be ⊢;refine Φ ?_;refine W.YW rfl (λaQ=>?_) (λaQ=>?_)
  .have aq:0<k:=by simpa using aQ
   obtain⟨j,bU⟩:∃j,k=j+1:=⟨k-1,U⟩;have V:IntKind.i64.wrap ((k:Int)-1)=j:=by rw[IntWalk.i64_in _ U];omega
   have bV:j<H.length:=U
   have aR:H[j]?=some H[j]:=ε bV;obtain⟨ag,aS⟩:=Z8 (H[j]);rw[<-aS] at aR;have bf:∀h,H[j]'h=ag:=λh=>aS.symm;have aT:=U1 E U 63;obtain⟨bg,bh⟩:=T8 E 63 Z2 Z2;obtain⟨bW,bi⟩:=YN (XJ E 63);obtain⟨au,bj⟩:=YN (E.after 63);have bX:au.ζ.length<=d.ζ.length:=by rw[<-bj];exact Xs (Xl _ _) aO
   rw[bi,bj] at aT;rw[bi] at bg bh;have aU:=U1 au U 63;obtain⟨bk,bl⟩:=T8 au 63 Z2 Z2;obtain⟨bY,bm⟩:=YN (XJ au 63);obtain⟨av,bn⟩:=YN (au.after 63);have bZ:av.ζ.length<=d.ζ.length:=by rw[<-bn];exact Xs (Xl _ _) bX
   rw[bm,bn] at aU;rw[bm] at bk bl;obtain⟨⟨b0,aV⟩,_,_⟩:=Nz ⟨bg,bh⟩ ⟨bk,bl⟩;obtain⟨aw,aW⟩:=YN (X9 .i64 bW bY);rw[aW] at b0 aV;have aX:=HQ av U [0,0,aw] J J;obtain⟨aa,bo⟩:=YN (([0,0,aw]:List Int).getD (RY av [0,0,aw]) 0);have bp:0<=aa/\aa<=63:=by
    rw[<-bo]
    match RY av [0,0,aw] with
    | 0=>simp
    | 1=>simp
    | 2=>simp;omega
    | n+3=>simp
   obtain⟨ah,bq⟩:=YN (av.after ((([0,0,aw]:List Int).length:Int)-1));have b1:ah.ζ.length<=d.ζ.length:=by rw[<-bq];exact Xs (Xl _ _) bZ
   rw[bo,bq] at aX;obtain⟨Q,D⟩:=Z8 (Y7 δ δ δ::.dead::.dead::.dead::.cells 60 1 (O.set c (Zm 6 (m.map Zv)))::ZY 28 3 (m.map Zv):Υ);have ax:(Zm 6 (m.map Zv)=δ/\ZY 28 3 (m.map Zv)=[]/\m=[])\/(Zm 6 (m.map Zv)=.ms 6 m.length 0 m.length/\ZY 28 3 (m.map Zv)=[.cells 28 3 (m.map Zv)]/\0<m.length):=by
    by_cases F:m=[]
    .subst F;exact .inl ⟨rfl,rfl,rfl⟩
    .have ay:m.map Zv≠[]:=by simpa using F
     exact .inr ⟨by rw[XB ay,Yb],Yz ay,Q9.2 F⟩
   rw[<-D]
   repeat apply Ζ
   refine W.JL (A:=[11]) Τ mixed [(0,.Ο 0 1 0 0),(6,.Ο 1 1 0 0),(7,.Ε [ZU G,Z3 L,.ms 5 nc 0 nc]),(8,R c),(9,κ R 1 H),(10,R k),(11,.Ο (Q.length+1) 1 0 0)] (ZV ah::Q++[.cells 28 3 [.Z9 [R ag,R aa,R 0]]]) ?_ (by
    rcases ax with⟨f1,f2,f3⟩|⟨f1,f2,f3⟩
    .rw[f1,f2] at D;rw[D];simp;(repeat (rw[Vq];simp[V,aR,bf,aN]));(try rw[Vr]);refine⟨U,?_⟩;refine Ze.h (aT) (Rb ?_);refine Ze.h (aU) (JK aW ?_);refine Ze.e aX (.cons .ex .nil) J J ?_;simp;(repeat (rw[Vq];simp));(try rw[Vr]);refine⟨Ym (by kernel_rfl),Ym (by kernel_rfl),?_⟩;simp
    .rw[f1,f2] at D;rw[D];simp;(repeat (rw[Vq];simp[V,aR,bf,aN]));(try rw[Vr]);refine⟨U,?_⟩;refine Ze.h (aT) (Rb ?_);refine Ze.h (aU) (JK aW ?_);refine Ze.e aX (.cons .ex .nil) J J ?_;simp;(repeat (rw[Vq];simp));(try rw[Vr]);refine⟨Ym (by kernel_rfl),Ym (by kernel_rfl),?_⟩;simp)
   have aY:=U1 ah U 63;obtain⟨br,bs⟩:=T8 ah 63 Z2 Z2;obtain⟨b2,bt⟩:=YN (XJ ah 63);obtain⟨az,bu⟩:=YN (ah.after 63);have b3:az.ζ.length<=d.ζ.length:=by rw[<-bu];exact Xs (Xl _ _) b1
   rw[bt,bu] at aY;rw[bt] at br bs;have aZ:=U1 az U 63;obtain⟨d0,bv⟩:=T8 az 63 Z2 Z2;obtain⟨b4,bw⟩:=YN (XJ az 63);obtain⟨P,bx⟩:=YN (az.after 63);have b5:P.ζ.length<=d.ζ.length:=by rw[<-bx];exact Xs (Xl _ _) b3
   rw[bw,bx] at aZ;rw[bw] at d0 bv;obtain⟨bz,_,_⟩:=Nz ⟨br,bs⟩ ⟨d0,bv⟩;obtain⟨b6,a0⟩:=YN (X9 .i64 b2 b4);rw[a0] at bz;obtain⟨_,bA,F⟩:=Nz bz bp;obtain⟨a1,a2⟩:=YN (Vi .i64 b6 aa);rw[a2] at bA F
   repeat apply Ζ
   refine W.JL (A:=[]) Τ mixed [(11,.Ο (Q.length+1) 1 0 0),(0,.Ο 0 1 0 0),(6,.Ο 1 1 0 0),(7,.Ε [ZU G,Z3 L,.ms 5 nc 0 nc]),(8,R c),(9,κ R 1 H),(10,R k)] ((ZV P::Q)++[.cells 28 3 [.Z9 [R ag,R aa,R a1]]]) ?_ (by
    rcases ax with⟨f1,f2,f3⟩|⟨f1,f2,f3⟩
    .rw[f1,f2] at D;rw[D];simp;(repeat (rw[Vq];simp));(try rw[Vr]);refine Ze.h (aY) (Rb ?_);refine Ze.h (aZ) (JK (Ρ a0 a2) ?_);refine⟨Ym (by kernel_rfl),Ym (by kernel_rfl),?_⟩;simp
    .rw[f1,f2] at D;rw[D];simp;(repeat (rw[Vq];simp));(try rw[Vr]);refine Ze.h (aY) (Rb ?_);refine Ze.h (aZ) (JK (Ρ a0 a2) ?_);refine⟨Ym (by kernel_rfl),Ym (by kernel_rfl),?_⟩;simp)
   have b7:∀r∈ZV P::Q,X8 (ZV P::Q).length r:=λr b=>by
    rcases YZ.1 b with rfl|b
    .exact T7 P _
    have bB:0<m.length->6<(ZV P::Q).length:=λh=>by
     rcases ax with⟨_,_,f3⟩|⟨_,f2,_⟩
     .rw[f3] at h;simp at h
     .rw[D,f2];simp
    generalize (ZV P::Q).length=N at bB;rw[D] at b;simp only[YZ] at b;rcases b with rfl|rfl|rfl|rfl|rfl|b
    .intro e u a f;simp[I.cells] at u;subst u;simp[I.cells] at f;subst f;simp
    .trivial
    .trivial
    .trivial
    .intro e u a f;rcases L8 u with u|rfl
     .obtain⟨w,o⟩:=a8 e u;rw[w] at f;simp at f;subst f;exact o.mono (ω _)
     .rcases ax with⟨f1,_,_⟩|⟨f1,_,f3⟩
      .rw[f1] at f;simp[I.cells] at f;subst f;simp
      .rw[f1] at f;simp[I.cells] at f;subst f;exact TK.2 (bB f3)
    .refine OX (λe u a f=>?_) r b;obtain⟨x,_,rfl⟩:=YK.1 u;simp[I.cells] at f;rcases f with rfl|rfl|rfl<;>exact .z _
   have cr:6<=(ZV P::Q).length:=by rw[D];simp
   refine W.Vw (σ0:=ZV P::Q) J b7 (λa f=>by simp[I.cells] at f;rcases f with rfl|rfl|rfl<;>exact .z _) [(11,.Ε [R ag,R aa,R a1]),(0,.Ο 0 1 0 0),(6,.Ο 1 1 0 0),(7,.Ε [ZU G,Z3 L,.ms 5 nc 0 nc]),(8,R c),(9,κ R 1 H),(10,R k)] (λp B=>by
    simp only[YZ,XY,or_false] at B;rcases B with rfl|rfl|rfl|rfl|rfl|rfl|rfl
    .exact .inr ⟨rfl,rfl⟩
    .exact .inl ⟨rfl,WH.2 U⟩
    .exact .inl ⟨rfl,WH.2 U⟩
    .refine .inl ⟨rfl,KJ.2 λa f=>?_⟩;simp only[YZ,XY,or_false] at f;rcases f with rfl|rfl|rfl
     .exact(Yx.2 T6:Γ 0 _).mono (ω _)
     .exact(Yx.2 Sv:Γ 0 _).mono (ω _)
     .exact TK.2 U
    .exact .inl ⟨rfl,.z _⟩
    .exact .inl ⟨rfl,(Yx.2 (λe u a f=>by obtain⟨x,_,rfl⟩:=YK.1 u;simp[I.cells] at f;subst f;exact .z _):Γ 0 _).mono (ω _)⟩
    .exact .inl ⟨rfl,.z _⟩) ?_
   obtain⟨ai,a3⟩:=Z8 (⟨ag,aa,a1⟩:Y9);have bC:(m++[ai]).map Zv≠[]:=J
   repeat apply Ζ
   refine W.S8 (A:=[70]) Τ mixed [(0,.Ο 0 1 0 0),(6,.Ο 1 1 0 0),(7,.Ε [ZU G,Z3 L,.ms 5 nc 0 nc]),(8,R c),(9,κ R 1 H),(10,R k)] (ZV P::Y7 δ δ δ::.dead::.dead::.dead::.cells 60 1 (O.set c (Zm 6 ((m++[ai]).map Zv)))::ZY 28 3 ((m++[ai]).map Zv)) ?_ (by
    rw[XB bC,Yz bC,Yb,Vo,Xz,Xt,TX,a3];rcases ax with⟨f1,f2,f3⟩|⟨f1,f2,f3⟩
    .rw[f1,f2] at D;rw[D,aG,f3];simp;(repeat (rw[Zf];simp[a6,a7]));(try rw[Zg]);refine⟨U,?_⟩;refine⟨Ym (by kernel_rfl),?_⟩;simp
    .rw[f1,f2] at D;rw[D];have b8:∀v,(O.set c v)[c]?=some v:=λv=>by rw[WE U]
     have b9:∀v h,(O.set c v)[c]'h=v:=λv h=>List.getElem_set_self h;simp;(repeat (rw[Zf];simp[a6,b8,b9]));(try rw[Zg]);refine⟨U,U,U,?_⟩;refine⟨Ym (by kernel_rfl),?_⟩;simp)
   refine μ V ?_;have b':(H.take T).drop j=ag::(H.take T).drop k:=by
    have ca:j<(H.take T).length:=by rw[Q6];omega
    rw[PF ca,bU,List.getElem_take,aS]
   refine W.to (be ⟨j,P,m++[ai]⟩ ⟨by show(m++[ai]).length+j=T;rw[Vo];simp;omega,b5,?_,λp B=>?_⟩ (by show j<k;omega)) J (by simp[V])
   .show(m++[ai]).map (·.Zb)=((H.take T).drop j).reverse;rw[b',Xz,ar,List.reverse_cons,a3];rfl
   .rcases V6.1 B with B|B
    .exact aP p B
    .simp at B;subst B;subst a3;exact⟨bp,bA,F⟩
  .have aq:k=0:=by simp at aQ;omega
   subst aq;have cs:m.length=T:=U;rw[List.drop_zero] at ar;have cb:PI C m:=by
    refine⟨U,?_,λp B=>?_⟩
    .rw[ar];unfold List.Nodup;rw[List.pairwise_reverse];exact(ba.sublist (List.take_sublist _ _)).imp Y2
    .have bD:p.Zb∈m.map (·.Zb):=YK.2 ⟨p,B,rfl⟩;rw[ar,List.mem_reverse] at bD;have:=a' _ (L4 bD);obtain⟨cc,cd,ce⟩:=aP p B;exact⟨this,cc,cd,ce⟩
   have V:IntKind.i64.wrap ((c:Int)+1)=((c+1:Nat):Int):=by rw[IntWalk.i64_in _ U];omega
   have cf:(done++[m]).length=c+1:=by simp;omega
   have aj:=aJ ⟨E,done++[m]⟩ ⟨by show(done++[m]).length<=nc;omega,aO,λx K=>by
    rcases V6.1 K with K|K
    .exact aL x K
    .simp at K;subst K;exact cb⟩ (by show nc-(done++[m]).length<nc-c;omega)
   have cg:Z4 (done++[m]) nc≠[]:=λh=>by
    have:=TD (done:=done++[m]) (nc:=nc) U;rw[h] at this;simp at this;omega
   simp only[cf] at aj;rw[Yz cg,<-bO m,e] at aj;refine W.exit rfl ?_;by_cases F:m=[]
   .subst F;rw[show VF []=δ from rfl,aG] at aj;rw[show Zm 6 (([]:List Y9).map Zv)=δ from rfl,show ZY 28 3 (([]:List Y9).map Zv)=[] from rfl,aG];refine μ V ?_;exact W.to aj rfl (by simp[V])
   .have ay:m.map Zv≠[]:=by simpa using F
    have bE:VF m=.sl false 3 (m.map Zv):=by unfold VF Xn;rw[if_neg (by simpa using F)]
    rw[bE] at aj;rw[XB ay,Yz ay];refine W.Qq (σ':=ZV E::Y7 δ δ δ::.dead::.dead::.dead::.cells 60 1 (O.set c (.sl false 3 (m.map Zv)))::[.dead]) (id:=6) J rfl rfl rfl (λi r hi b=>?_) [(0,.Ο 0 1 0 0),(6,.Ο 1 1 0 0),(7,.Ε [ZU G,Z3 L,.ms 5 nc 0 nc]),(8,R c)] (λp B=>by
     simp only[YZ,XY,or_false] at B;rcases B with rfl|rfl|rfl|rfl<;>exact .same _) ?_
    .match i,hi,b with
     | 0,_,b=>exact⟨r,b,.inl rfl⟩
     | 1,_,b=>exact⟨r,b,.inl rfl⟩
     | 2,_,b=>exact⟨r,b,.inl rfl⟩
     | 3,_,b=>exact⟨r,b,.inl rfl⟩
     | 4,_,b=>exact⟨r,b,.inl rfl⟩
     | 5,_,b=>
      simp at b;subst b;refine⟨_,rfl,.inr ⟨60,1,_,_,rfl,rfl,J,λy e ct w o=>?_⟩⟩;by_cases bF:y=c
      .subst bF;rw[WE U] at w o;cases w;cases o;refine⟨rfl,λx a a4 aA aB=>?_⟩
       match x with
       | 0=>simp[I.cells] at aA aB;subst aA;subst aB;have:=RV.ms (id:=6) (k:=3) (l:=m.map Zv);rwa [Yb] at this
       | x+1=>simp[I.cells] at aA
      .rw[VT (Y2 bF)] at w o;rw[w] at o;cases o;exact⟨rfl,λx a a4 aA aB=>by rw[aA] at aB;cases aB;exact .same _⟩
     | 6,h,_=>exact absurd rfl h
     | i+7,_,b=>simp at b
    refine W.drop (h:=6) J J (λi r hi b=>?_) rfl [(0,.Ο 0 1 0 0),(6,.Ο 1 1 0 0),(7,.Ε [ZU G,Z3 L,.ms 5 nc 0 nc]),(8,R c)] ?_ ?_
    .match i,hi,b with
     | 0,_,b=>simp at b;subst b;exact T7 E 6
     | 1,_,b=>simp at b;subst b;intro e u a f;simp[I.cells] at u;subst u;simp[I.cells] at f;subst f;simp
     | 2,_,b=>simp at b;subst b;trivial
     | 3,_,b=>simp at b;subst b;trivial
     | 4,_,b=>simp at b;subst b;trivial
     | 5,_,b=>
      simp at b;subst b;intro e u a f;rcases L8 u with u|rfl
      .obtain⟨w,o⟩:=a8 e u;rw[w] at f;simp at f;subst f;exact o.mono (ω _)
      .simp[I.cells] at f;subst f;have:=HF m;rw[bE] at this;exact this.mono (ω _)
     | i+6,h,_=>omega
    .intro p B;simp only[YZ,XY,or_false] at B;rcases B with rfl|rfl|rfl|rfl
     .exact⟨rfl,WH.2 U⟩
     .exact⟨rfl,WH.2 U⟩
     .refine⟨rfl,KJ.2 λa f=>?_⟩;simp only[YZ,XY,or_false] at f;rcases f with rfl|rfl|rfl
      .exact(Yx.2 T6:Γ 0 _).mono (ω _)
      .exact(Yx.2 Sv:Γ 0 _).mono (ω _)
      .exact TK.2 U
     .exact⟨rfl,.z _⟩
    refine μ V ?_;exact W.to aj rfl (by simp[V])
 .have af:c=nc:=by simp at af;omega
  subst af;refine W.exit rfl ?_;have bG:S7 ⟨G,L,done⟩:=⟨bK,a5,by show done.length<=4;omega,λx K=>by show PI L.length x;rw[<-aF];exact aL x K⟩;have ci:Z4 done c=done.map VF:=by rw[an];exact DK
  have cj:Y4 (.Z9 [ZU G,Z3 L,.sl false 1 (done.map VF)]) (Zd ⟨G,L,done⟩):=by
   refine .Z9 (.cons (.refl _) (.cons (.refl _) (.cons ?_ .nil)));exact .map λx _=>.one .acc (HE x) rfl
  rcases ak with⟨Y,e⟩|⟨Y,e⟩<;>rcases al done U with⟨S,Χ⟩|⟨S,Χ⟩
  .rw[e,Χ];refine Φ ?_;have ck:done=[]:=YV.1 U;refine W.cut 1 J [(6,.Ε [ZU G,Z3 L,δ])] J (λid r cl b=>?_) (λp B=>?_) ?_
   .have:id=0:=U
    subst this;simp at b;subst b;exact T7 M 1
   .simp only[YZ,XY,or_false] at B;subst B;show Yu 1 _ (Z' _ 6) _;simp;refine .struct J (show _=some (Row.cells _ _ [.Z9 _]) from rfl) rfl λx a a4 w o=>?_
    match x with
    | 0=>simp at w o;subst w;subst o;exact .low ((Yx.2 T6:Γ 0 _).mono (ω _))
    | 1=>simp at w o;subst w;subst o;exact .low ((Yx.2 Sv:Γ 0 _).mono (ω _))
    | 2=>simp at w o;subst w;subst o;exact .low J
    | x+3=>simp at o
   .refine W.ret ⟨_,rfl,_,M,?_,⟨_,rfl,bG,⟨by show done.length<=ab;omega,by show L.length<=3;omega⟩⟩,rfl,aK⟩;rw[ck];exact .Z9 (.cons (.refl _) (.cons (.refl _) (.cons .nil .nil)))
  .omega
  .omega
  .have Z:(Z4 done c).length=c:=TD U;rw[e,Χ];refine μ Z ?_;refine W.cut 1 J [(6,.Ε [ZU G,Z3 L,.sl false 1 (Z4 done c)])] J (λid r cl b=>?_) (λp B=>?_) ?_
   .have:id=0:=U
    subst this;simp at b;subst b;exact T7 M 1
   .simp only[YZ,XY,or_false] at B;subst B;show Yu 1 _ (Z' _ 6) _;simp;refine .struct J (show _=some (Row.cells _ _ [.Z9 _]) from rfl) rfl λx a a4 w o=>?_
    match x with
    | 0=>simp at w o;subst w;subst o;exact .low ((Yx.2 T6:Γ 0 _).mono (ω _))
    | 1=>simp at w o;subst w;subst o;exact .low ((Yx.2 Sv:Γ 0 _).mono (ω _))
    | 2=>simp at w o;subst w;subst o;exact .own (t:=60) J rfl Z (λe u a f=>by
      obtain⟨aV,cm⟩:=Nx e u;rw[aV] at f;simp at f;subst f;exact cm.mono (ω _))
    | x+3=>simp at o
   .rw[ci];exact W.ret ⟨_,rfl,_,M,cj,⟨_,rfl,bG,⟨by show done.length<=ab;omega,by show L.length<=3;omega⟩⟩,rfl,aK⟩
theorem DG (s:ο) (g:Int) (i:g<s.Κ.length) (σ:Υ) (id m:Nat) (c:ψ) (e:c.length=m) (f:σ[id]?=some (.cells 60 1 c)):Δ prog 130 [.Z9 [ZU s.Κ,Z3 s.Β,.ms id m 0 m],R g] σ (λa r=>a=R (s.of g)/\r=σ) (λ_ _=>False):=by
 refine Δ.body Τ func130 rfl rfl ntmps130 rfl rfl J ?_;refine μ (Ρ f e) ?_;refine W.YW rfl (λb=>?_) (λb=>?_)
 .have b:g<0:=by simpa using b
  refine Φ ?_;refine W.ret ⟨_,rfl,?_,rfl⟩;show R 0=_;simp[ο.of,b]
 .have b:¬g<0:=by simpa using b
  obtain⟨n,rfl⟩:∃n:Nat,g=n:=⟨g.toNat,U⟩;have d:n<s.Κ.length:=U;refine μ d ?_;refine W.ret ⟨_,rfl,?_,rfl⟩;show R s.Κ[n].ZG=_;simp[ο.of,d];intro h;omega
theorem vj (s:ο) (p r:Int×Int) (n:Nat) (g:n<s.Β.length) (k:∀x∈s.Β,x.length<2 ^ 62) (C:r.1<s.Κ.length) (D:r.2<s.Κ.length) (σ:Υ) (id m:Nat) (o:ψ) (d:o.length=m) (e:σ[id]?=some (.cells 60 1 o)) :
  Δ prog 91 [.Z9 [ZU s.Κ,Z3 s.Β,.ms id m 0 m],κ R 1 [p.1,p.2],κ R 1 [r.1,r.2],R n] σ (λa E=>a=R (s.Yd p r n)/\E=σ) (λ_ _=>False):=by
 have i:=ε g
 have t:=k _ (YB g);obtain⟨l,k⟩:=Z8 (s.Β[n]);rw[<-k] at i t;have v:∀h,s.Β[n]'h=l:=λh=>k.symm;have hv:s.Yd p r n=if l.contains p.2 then Vg (if l.contains p.1 then Vg 0 (s.of r.1) else 0) (s.of r.2) else if l.contains p.1 then Vg 0 (s.of r.1) else 0:=by
  unfold ο.Yd;rw[i];rfl
 rw[hv];have f:∀x:Int,(0<=(if x∈l then((l.idxOf x:Nat):Int) else -1))↔x∈l:=λx=>by
  by_cases h:x∈l
  .simp[h]
  .simp[h]
 have B:=DG s r.1 C σ id m o d e
 have w:=DG s r.2 D σ id m o d e;generalize s.of r.1=F at B ⊢;generalize s.of r.2=H at w ⊢;refine Δ.body Τ func91 rfl rfl ntmps91 rfl rfl J ?_;refine μ (Ρ e d) ?_;refine W.draw (A:=[]) Τ mixed λj b=>TI (Ρ g (Ρ i v)) ?_;refine Yl (Ν.p (IJ l p.1 t) (ZZ.refl _) J J) ?_;simp[f];(repeat (rw[Zf];simp[f]));try rw[Zg]
 refine XL (b _ _ ?_);by_cases u:p.1∈l
 .refine υ (by simp[u]) ?_;have y:l.contains p.1=true:=by simpa using u
  rw[if_pos y]
  repeat apply Ζ
  refine W.draw (A:=[]) Τ mixed λj b=>TI (Ρ e d) ?_;refine KC (Δ.call (first:=[]) (captured:=[]) B) ?_;simp;(repeat (rw[Zf];simp));try rw[Zg]
  refine XL (b _ _ ?_)
  repeat apply Ζ
  refine W.draw (A:=[]) Τ mixed λj b=>TI (Ρ g (Ρ i v)) ?_;refine Yl (Ν.p (IJ l p.2 t) (ZZ.refl _) J J) ?_;simp[f];(repeat (rw[Zf];simp[f]));try rw[Zg]
  refine XL (b _ _ ?_);by_cases c:p.2∈l
  .refine υ (by simp[c]) ?_;have Χ:l.contains p.2=true:=by simpa using c
   rw[if_pos Χ]
   repeat apply Ζ
   refine W.draw (A:=[]) Τ mixed λj b=>TI (Ρ e d) ?_;refine KC (Δ.call (first:=[]) (captured:=[]) w) ?_;simp;(repeat (rw[Zf];simp));try rw[Zg]
   refine XL (b _ _ ?_);refine Φ ?_;exact W.ret ⟨_,rfl,rfl,rfl⟩
  .refine χ (by simp[c]) ?_;have Χ:¬l.contains p.2=true:=by simpa using c
   rw[if_neg Χ];refine Φ ?_;exact W.ret ⟨_,rfl,rfl,rfl⟩
 .refine χ (by simp[u]) ?_;have y:¬l.contains p.1=true:=by simpa using u
  rw[if_neg y]
  repeat apply Ζ
  refine W.draw (A:=[]) Τ mixed λj b=>TI (Ρ g (Ρ i v)) ?_;refine Yl (Ν.p (IJ l p.2 t) (ZZ.refl _) J J) ?_;simp[f];(repeat (rw[Zf];simp[f]));try rw[Zg]
  refine XL (b _ _ ?_);by_cases c:p.2∈l
  .refine υ (by simp[c]) ?_;have Χ:l.contains p.2=true:=by simpa using c
   rw[if_pos Χ]
   repeat apply Ζ
   refine W.draw (A:=[]) Τ mixed λj b=>TI (Ρ e d) ?_;refine KC (Δ.call (first:=[]) (captured:=[]) w) ?_;simp;(repeat (rw[Zf];simp));try rw[Zg]
   refine XL (b _ _ ?_);refine Φ ?_;exact W.ret ⟨_,rfl,rfl,rfl⟩
  .refine χ (by simp[c]) ?_;have Χ:¬l.contains p.2=true:=by simpa using c
   rw[if_neg Χ];refine Φ ?_;exact W.ret ⟨_,rfl,rfl,rfl⟩
def cnt (x n:Int):Nat->Int
 | 0=>0
 | k+1=>cnt x n k+(if X9 .i64 x (2 ^ k)≠0 then 1 else 0)-(if X9 .i64 n (2 ^ k)≠0 then 1 else 0)
theorem DF (l:List Xp) (g:Xp):(Uk l g=-1/\∀x∈l,x.ZG≠VZ g.ZG)\/∃j:Nat,∃h:j<l.length,Uk l g=j/\l[j].ZG=VZ g.ZG:=by
 unfold Uk idxOf;cases a:l.any λx=>decide (x.ZG=VZ g.ZG) with
 | false=>
  refine .inl ⟨J,λx c e=>?_⟩;rw[Q7] at a;exact a x c (by simpa using e)
 | true=>
  have b:l.findIdx (λx=>decide (x.ZG=VZ g.ZG))<l.length:=by
   rw[List.findIdx_lt_length];simpa using a
  have d:=List.findIdx_getElem (w:=b);refine .inr ⟨_,b,J,by simpa using d⟩
theorem vi {l:List Xp} (h:Sw l) {i j:Nat} (hi:i<l.length) (a:j<l.length):l[j].ZG=VZ l[i].ZG↔Uk l l[i]=j:=by
 rcases DF l l[i] with⟨e,f⟩|⟨k,d,e,b⟩
 .rw[e];exact⟨λx=>absurd x (f _ (YB a)),λx=>U⟩
 .rw[e];constructor
  .intro x;have:k=j:=by
    apply T4;intro g;rcases Nat.lt_or_gt_of_ne g with c|c
    .exact S4.1 h.apart k j d a c (b.trans x.symm)
    .exact S4.1 h.apart j k a d c (x.trans b.symm)
   subst this;rfl
  .intro x;have:k=j:=U;subst this;exact b
end Go.TL
namespace Go.TL
open Go.Proofs.Tryz
open Go.Proofs
section
variable [ZS]
theorem vh (l:List Int):Δ prog 22 [κ R 1 l] [] (λr s=>r=.Ο 0 1 0 0/\s=[ZV ⟨l,1⟩]) (λ_ _=>False):=by
 refine Δ.body Τ func22 rfl rfl ntmps22 rfl rfl J ?_
 repeat apply Ζ
 refine TJ ?_
 repeat apply Ζ
 refine YR (A:=[5]) Τ λb a=>Z1 ?_;apply a;refine Φ ?_;exact W.ret ⟨_,rfl,rfl,rfl⟩
end
abbrev DD:ψ:=[YO [1,0],YO [2,0],YO [2,1]]
theorem vg:∀i,i<3->DD[i]?=some (YO [(WX i).1,(WX i).2])/\∀h,DD[i]'h=YO [(WX i).1,(WX i).2]:=λi hi=>by
 match i with
 | 0=>exact⟨rfl,λ_=>rfl⟩
 | 1=>exact⟨rfl,λ_=>rfl⟩
 | 2=>exact⟨rfl,λ_=>rfl⟩
end Go.TL
namespace Go.TL
open Go.Proofs.Tryz
open Go.Proofs
variable [ZS]
theorem vf:∀n<64,∀s<64,Vi .i64 (s:Nat) (n:Nat)=0->∀o<64,X9 .i64 (s:Nat) (Vi .i64 (o:Nat) (n:Nat))=0:=by decide +kernel
theorem ve:∀n<64,∀o<64,Vi .i64 (X9 .i64 (n:Nat) (o:Nat)) (n:Nat)=0:=by decide +kernel
theorem vd {n a b:Int} (c:0<=n/\n<=63) (d:0<=a/\a<=63) (h:0<=b/\b<=63):Vi .i64 (X9 .i64 n a) n=0/\X9 .i64 (X9 .i64 n a) (Vi .i64 b n)=0:=by
 obtain⟨⟨i,f⟩,_,_⟩:=Nz c d;obtain⟨x,rfl⟩:∃x:Nat,n=x:=⟨n.toNat,U⟩;obtain⟨y,rfl⟩:∃y:Nat,a=y:=⟨a.toNat,U⟩;obtain⟨z,rfl⟩:∃z:Nat,b=z:=⟨b.toNat,U⟩;have e:=ve x U y U;refine⟨e,?_⟩;obtain⟨w,g⟩:∃w:Nat,X9 .i64 (x:Int) (y:Int)=w:=⟨(X9 .i64 (x:Int) (y:Int)).toNat,U⟩;rw[g] at e f ⊢;exact vf x U w U e z U
structure DC (a b:Nat) (s:ο) (p:Int×Int) (rd:List (Int×Int)):Prop where
 r6:∃k,k<3/\p=WX k
 vc:S7 s
 many:s.cells.length<=b
 QC:s.Κ.length<=a
 r5:s.Β.length<=3
 len:rd.length=s.cells.length
 each:∀r∈rd,(-1<=r.1/\r.1<s.Κ.length)/\(-1<=r.2/\r.2<s.Κ.length)
 right:∀(c:Nat) (r:Int×Int),rd[c]?=some r->s.P7 p r c=true
structure vb where
 d:Zu
 done:List (List Y9)
 rd:List (Int×Int)
theorem va (d:Zu) (hd:d.ζ.length<2 ^ 63) (ak al:Nat) (cw:1<=ak) (cx:ak<=6) (cy:al<=4) :
  RX 32 [R ak,R al] d (λr=>∃s p rd,r=.ZP [Zd s,κ R 1 [p.1,p.2],Z3 (HG rd)]/\DC ak al s p rd):=by
 unfold RX;refine Δ.body Τ func32 rfl rfl ntmps32 rfl rfl J ?_
 repeat apply Ζ
 refine YR (A:=[6]) Τ λaR ae=>Z1 ?_;apply ae
 repeat apply Ζ
 refine W.Zt ?_;refine W.part (A:=[9]) Τ [0,1,2,3] [4,5] rfl λaR ae=>?_;(try simp);(repeat (rw[Μ];simp));refine DT d hd ak al cw cx cy rfl ?_;intro G L nc d1 aS aT ⟨dn,cz,bG⟩ cA;simp only[List.length_cons,List.length_nil,Nat.reduceAdd,List.set_cons_zero,List.cons_append,List.nil_append];obtain⟨ah,ba⟩:=Z8 (Zm 5 (List.replicate nc δ));have am:(nc=0/\ah=δ)\/(0<nc/\ah=.ms 5 nc 0 nc):=by
  by_cases B:nc=0
  .subst B;exact .inl ⟨rfl,ba⟩
  .exact .inr ⟨U,by rw[ba,XB (by simp[B]),Qo]⟩
 have an:∀done:List (List Y9),done.length<=nc->(nc=0/\ZY 60 1 (Z4 done nc)=[])\/(0<nc/\ZY 60 1 (Z4 done nc)=[.cells 60 1 (Z4 done nc)]):=λdone aw=>by
  by_cases B:nc=0
  .subst B;have:=YV.1 (TD aw);exact .inl ⟨rfl,by rw[this];rfl⟩
  .exact .inr ⟨U,Yz (λh=>by have:=TD aw;rw[h] at this;simp at this;omega)⟩
 rw[<-ba,<-DL];rw[O6,Sg];apply ae;clear ae aR;have ao:Γ ([ZV d1,Y7 δ δ δ,.dead,.dead,.dead]++ZY 60 1 (Z4 [] nc)).length ah:=by
  rcases am with⟨_,e⟩|⟨T,e⟩
  .rw[e];simp
  .rcases an [] (ω _) with⟨O,_⟩|⟨_,Χ⟩
   .omega
   .rw[e,Χ];exact TK.2 J
 refine W.DN (A:=[9]) Τ [(0,.Ο 0 1 0 0),(6,.Ο 1 1 0 0),(9,.Ε [ZU G,Z3 L,ah])] ([ZV d1,Y7 δ δ δ,.dead,.dead,.dead]++ZY 60 1 (Z4 [] nc)) ?_ (by
  have aU:∀h,∀r∈[ZV d1,Y7 δ δ δ,.dead,.dead,.dead]++ZY 60 1 (Z4 [] nc),X8 h r:=λh r f=>by
   rcases V6.1 f with f|f
   .simp only[YZ,XY,or_false] at f;rcases f with rfl|rfl|rfl|rfl|rfl
    .exact T7 d1 h
    .intro e H a w;simp[I.cells] at H;subst H;simp[I.cells] at w;subst w;simp
    .trivial
    .trivial
    .trivial
   .exact OX (λe H a w=>by obtain⟨u,o⟩:=Nx e H;rw[u] at w;simp at w;subst w;exact o) r f
  rcases am with⟨T,e⟩|⟨T,e⟩<;>rcases an [] (ω _) with⟨O,Χ⟩|⟨O,Χ⟩
  .rw[Χ] at aU ao;rw[e] at ao;rw[e,Χ];(try simp);(repeat (rw[Μ];simp));(try simp);intro bb;exact W.Vw (σ0:=[ZV d1,Y7 δ δ δ,.dead,.dead,.dead]) J (aU _) (λa w=>by
    simp[I.cells] at w;rcases w with rfl|rfl|rfl
    .exact(Yx.2 T6:Γ 0 _).mono (ω _)
    .exact(Yx.2 Sv:Γ 0 _).mono (ω _)
    .exact ao) [(0,.Ο 0 1 0 0),(6,.Ο 1 1 0 0),(9,.Ε [ZU G,Z3 L,δ])] (by simp[WH,I.cells]) bb
  .omega
  .omega
  .rw[Χ] at aU ao;rw[e] at ao;rw[e,Χ];have af:(Z4 [] nc).length=nc:=TD (ω _);(try simp);(repeat (rw[Μ];simp[af]));(try simp[af]);intro bb;exact W.Vw (σ0:=[ZV d1,Y7 δ δ δ,.dead,.dead,.dead,.cells 60 1 (Z4 [] nc)]) J (aU _) (λa w=>by
    simp[I.cells] at w;rcases w with rfl|rfl|rfl
    .exact(Yx.2 T6:Γ 0 _).mono (ω _)
    .exact(Yx.2 Sv:Γ 0 _).mono (ω _)
    .exact ao) [(0,.Ο 0 1 0 0),(6,.Ο 1 1 0 0),(9,.Ε [ZU G,Z3 L,.ms 5 nc 0 nc])] (by simp[WH,I.cells]) bb)
 obtain⟨K,aV⟩:=Z8 L.length;have cB:=aT.lo;have cC:=bG;have cD:=aS.hi;have cE:=aS.lo;obtain⟨g,bc⟩:=Z8 G.length;rw[<-bc] at cD cE;rw[<-aV] at cB bG;have dp:(L.map (κ R 1)).length=K:=by rw[Yb,aV]
 have ap:=U1 d1 U 2;obtain⟨t0,t1⟩:=T8 d1 2 Z2 Z2;obtain⟨bH,bI⟩:=YN (XJ d1 2);rw[bI] at ap t0 t1;clear bI;obtain⟨P,aW⟩:∃k:Nat,bH=k:=⟨bH.toNat,U⟩;obtain⟨d2,bJ⟩:=YN (d1.after 2);have cF:d2.ζ.length<=d.ζ.length:=by rw[<-bJ];exact Xs (Xl _ _) cA
 rw[aW,bJ] at ap;rw[aW] at t1;have bK:P<3:=U;obtain⟨aq,bd⟩:=vg P bK;obtain⟨p,V⟩:=Z8 (WX P);rw[<-V] at aq bd
 repeat apply Ζ
 refine W.Xv (A:=[]) Τ [(0,.Ο 0 1 0 0),(6,.Ο 1 1 0 0),(9,.Ε [ZU G,Z3 L,ah]),(10,YO [p.1,p.2])] ([ZV d2,Y7 δ δ δ,.dead,.dead,.dead]++ZY 60 1 (Z4 [] nc)) ?_ (by
  have dq:(P:Int)<3:=U;rcases am with⟨T,e⟩|⟨T,e⟩<;>rcases an [] (ω _) with⟨O,Χ⟩|⟨O,Χ⟩
  .rw[e,Χ];(try simp);(repeat (rw[Μ];simp));(try simp);refine Ze.c ap 0 rfl (ZZ.refl _) J J ?_;clear ap aq bd aW;obtain rfl|rfl|rfl:P=0\/P=1\/P=2:=U
   all_goals
    subst V;simp;(repeat (rw[Μ];simp));(try simp[WX])
  .omega
  .omega
  .rw[e,Χ];(try simp);(repeat (rw[Μ];simp));(try simp);refine Ze.c ap 0 rfl (ZZ.refl _) J J ?_;clear ap aq bd aW;obtain rfl|rfl|rfl:P=0\/P=1\/P=2:=U
   all_goals
    subst V;simp;(repeat (rw[Μ];simp));(try simp[WX]))
 obtain⟨Z,ai⟩:=Z8 (⟨G,L,[]⟩:ο);refine Φ ?_;refine W.iter (λx:vb=>x.done.length<=nc/\x.d.ζ.length<=d.ζ.length/\(∀c∈x.done,PI K c)/\x.rd.length=x.done.length/\(∀r∈x.rd,(-1<=r.1/\r.1<g)/\(-1<=r.2/\r.2<g))/\∀(c:Nat) (r:Int×Int) (m:List Y9),x.rd[c]?=some r->x.done[c]?=some m->∀y∈m,Z.SJ p r y=true)
  (λx=>[(0,.Ο 0 1 0 0),(6,.Ο 1 1 0 0),(9,.Ε [ZU G,Z3 L,ah]),(10,YO [p.1,p.2]),(11,Zm 6 (x.rd.map Χ)),(12,R x.done.length)])
  (λx=>[ZV x.d,Y7 δ δ δ,.dead,.dead,.dead]++ZY 60 1 (Z4 x.done nc)++ZY 29 1 (x.rd.map Χ)) (λx=>nc-x.done.length) ⟨d2,[],[]⟩ ⟨J,cF,J,rfl,J,J⟩ (by simp[VY]) (by simp[Zm]) (λx D be=>?_)
 obtain⟨aa,done,rd⟩:=x;obtain⟨aw,aX,bf,Q,bg,bh⟩:=D;simp only at aw aX bf Q bg bh be ⊢;obtain⟨c,aj⟩:=Z8 done.length;rw[<-aj] at aw be Q;rw[<-aj];have cG:(nc=0/\rd=[])\/0<nc:=by
  by_cases B:nc=0
  .exact .inl ⟨B,YV.1 U⟩
  .exact .inr U
 repeat apply Ζ
 refine W.Xv (A:=[]) Τ [(33,ZQ (decide (c<nc))),(0,.Ο 0 1 0 0),(6,.Ο 1 1 0 0),(9,.Ε [ZU G,Z3 L,ah]),(10,YO [p.1,p.2]),(11,Zm 6 (rd.map Χ)),(12,R c)] ([ZV aa,Y7 δ δ δ,.dead,.dead,.dead]++ZY 60 1 (Z4 done nc)++ZY 29 1 (rd.map Χ)) ?_ (by
  have af:(Z4 done nc).length=nc:=TD U;obtain⟨bL,aY⟩:=Z8 (ZY 29 1 (rd.map Χ));obtain⟨bM,aZ⟩:=Z8 (Zm 6 (rd.map Χ));rw[<-aY,<-aZ];rcases am with⟨T,e⟩|⟨T,e⟩<;>rcases an done U with⟨O,Χ⟩|⟨O,Χ⟩
  .rw[e,Χ,O];(try simp);(repeat (rw[Μ];simp));(try simp)
  .omega
  .omega
  .rw[e,Χ];(try simp);(repeat (rw[Μ];simp[af]));(try simp[af]))
 refine W.YW rfl (λar=>?_) (λar=>?_)
 .have ar:c<nc:=by simpa using ar
  rcases am with⟨T,_⟩|⟨T,e⟩
  .omega
  rcases an done U with⟨O,_⟩|⟨O,ax⟩
  .omega
  obtain⟨M,ay⟩:=Z8 (Z4 done nc);have az:M.length=nc:=by rw[ay];exact TD U
  have bi:M[c]?=some δ:=by rw[ay,aj];exact DJ U
  have cH:∀m,M.set c (VF m)=Z4 (done++[m]) nc:=λm=>by rw[ay,aj];exact DI U m
  have cI:∀e∈M,e.cells=[e]/\Γ 0 e:=by rw[ay];exact Nx
  have a0:M.set c δ=M:=by
   apply Su;intro i;rw[List.getElem?_set];split
   .rename_i e;subst e;split
    .exact bi.symm
    .rename_i h;exact(h U).elim
   .rfl
  have bN:L.length=K:=aV.symm
  have bj:G.length=g:=bc.symm;rw[e,ax,<-ay];simp only[List.cons_append,List.nil_append];obtain⟨ab,cJ⟩:=Z8 ((g:Int)-1:Int);have bk:IntKind.i64.wrap ((g:Int)-1)=ab:=by rw[cJ];exact IntWalk.i64_in _ U
  have bO:=Ra aa U (-1) ab;obtain⟨a1,a2⟩:=NC aa (a:=-1) (b:=ab) U Z2 U;obtain⟨bl,bP⟩:=YN (Vb aa (-1) ab);obtain⟨aA,bQ⟩:=YN (aa.after (IntKind.i64.wrap (ab- -1)));have cK:aA.ζ.length<=d.ζ.length:=by rw[<-bQ];exact Xs (Xl _ _) aX
  rw[bP,bQ] at bO;rw[bP] at a1 a2;have bR:=Ra aA U (-1) ab;obtain⟨a3,a4⟩:=NC aA (a:=-1) (b:=ab) U Z2 U;obtain⟨bm,bS⟩:=YN (Vb aA (-1) ab);obtain⟨X,bT⟩:=YN (aA.after (IntKind.i64.wrap (ab- -1)));have dr:X.ζ.length<=d.ζ.length:=by rw[<-bT];exact Xs (Xl _ _) cK
  rw[bS,bT] at bR;rw[bS] at a3 a4;obtain⟨r,f⟩:=Z8 ((bl,bm):Int×Int);have cL:r.1=bl:=by rw[f]
  have cM:r.2=bm:=by rw[f]
  obtain⟨bL,aY⟩:=Z8 (ZY 29 1 (rd.map Χ));obtain⟨bM,aZ⟩:=Z8 (Zm 6 (rd.map Χ));rw[<-aY,<-aZ]
  repeat apply Ζ
  refine W.JL (A:=[]) Τ mixed [(0,.Ο 0 1 0 0),(6,.Ο 1 1 0 0),(9,.Ε [ZU G,Z3 L,.ms 5 nc 0 nc]),(10,YO [p.1,p.2]),(11,bM),(12,R c),(13,Χ r)] (ZV X::Y7 δ δ δ::.dead::.dead::.dead::.cells 60 1 M::bL) ?_ (by
   simp;(repeat (rw[Vq];simp[bj,bk]));(try rw[Vr]);refine Ze.e bO (ZZ.refl _) J J ?_;simp;(repeat (rw[Vq];simp[bj,bk]));(try rw[Vr]);refine Ze.e bR (ZZ.refl _) J J ?_;simp;(repeat (rw[Vq];simp[bj,bk]));(try rw[Vr]);refine⟨Ym (by kernel_rfl),Ym (by kernel_rfl),?_⟩;simp[f])
  obtain⟨ag,a5⟩:=Z8 ((rd++[r]).map Χ);have ds:ag.length=c+1:=by rw[a5];simp[Q]
  have cN:∀e∈ag,∀a∈e.cells,Γ 0 a:=by rw[a5];exact DS
  repeat apply Ζ
  refine W.Xv (A:=[52]) Τ [(0,.Ο 0 1 0 0),(6,.Ο 1 1 0 0),(9,.Ε [ZU G,Z3 L,.ms 5 nc 0 nc]),(10,YO [p.1,p.2]),(11,.ms 6 (c+1) 0 (c+1)),(12,R c),(13,Χ r)] (ZV X::Y7 δ δ δ::.dead::.dead::.dead::.cells 60 1 M::[.cells 29 1 ag]) ?_ (by
   rw[a5,aY,aZ];by_cases B:rd=[]
   .subst B;have cO:c=0:=by simpa using Q.symm
    subst cO;have bn:Zm 6 (([]:List (Int×Int)).map Χ)=.sl true 0 []:=rfl;have cP:ZY 29 1 (([]:List (Int×Int)).map Χ)=[]:=rfl;rw[bn,cP];(try simp);(repeat (rw[Μ];simp));(try simp)
   .have bU:rd.map Χ≠[]:=by simpa using B
    rw[XB bU,Yz bU];have bV:c<=4294967295:=U;(try simp);(repeat (rw[Μ];simp[Q,bV]));(try simp[Q,bV]))
  have bo:=HN X U K U
  have a6:=JI X K
  have bp:∀x∈(Xb X K).1,0<=x/\x<K:=λx h=>HK h
  have bW:=HJ X K
  have cQ:=JJ X K;obtain⟨N,cR⟩:=YN ((Xb X K).1);obtain⟨a7,cS⟩:=YN ((Xb X K).2);rw[cR] at bo a6 bp bW;rw[cS] at bo cQ;refine XM bN λaR ae=>?_;refine Ze.g (bo) (Z1 ?_);apply ae;have bq:=U1 a7 U K;obtain⟨cT,bX⟩:=T8 a7 K U U;obtain⟨bY,bZ⟩:=YN (XJ a7 K);rw[bZ] at bq cT bX;clear bZ;obtain⟨ad,aB⟩:∃k:Nat,bY=k:=⟨bY.toNat,U⟩;obtain⟨b0,b1⟩:=YN (a7.after K);have cU:b0.ζ.length<=d.ζ.length:=by rw[<-b1];exact Xs (Xl _ _) U
  rw[aB,b1] at bq;rw[aB] at bX;refine XM bN λaR ae=>?_;refine Ze.g (bq) (Z1 ?_);apply ae
  repeat apply Ζ
  refine W.iter (λx:DH=>x.Q'.length+x.k=ad/\x.d.ζ.length<=d.ζ.length/\x.Q'.map (·.Zb)=((N.take ad).drop x.k).reverse/\∀y∈x.Q',((0<=y.seen/\y.seen<=63)/\(0<=y.bare/\y.bare<=63)/\V0 y.seen y.bare=0)/\Z.SJ p r y=true)
   (λx=>[(0,.Ο 0 1 0 0),(6,.Ο 1 1 0 0),(9,.Ε [ZU G,Z3 L,.ms 5 nc 0 nc]),(10,YO [p.1,p.2]),(11,.ms 6 (c+1) 0 (c+1)),(12,R c),(13,Χ r),(14,κ R 1 N),(15,R x.k)])
   (λx=>ZV x.d::Y7 δ δ δ::.dead::.dead::.dead::.cells 60 1 (M.set c (Zm 7 (x.Q'.map Zv)))::.cells 29 1 ag::ZY 28 3 (x.Q'.map Zv)) (λx=>x.k) ⟨ad,b0,[]⟩
   ⟨J,cU,J,J⟩ (by simp only[TX];rw[show Zm 7 []=δ from rfl,a0];rfl) J (λx D b2=>?_)
  obtain⟨k,E,m⟩:=x;obtain⟨cV,br,aC,a8⟩:=D;simp only at cV br aC a8 b2 ⊢;refine Φ ?_;refine W.YW rfl (λbs=>?_) (λbs=>?_)
  .have aB:0<k:=by simpa using bs
   obtain⟨j,cW⟩:∃j,k=j+1:=⟨k-1,U⟩;have Y:IntKind.i64.wrap ((k:Int)-1)=j:=by rw[IntWalk.i64_in _ U];omega
   have b3:j<N.length:=U
   have aD:N[j]?=some N[j]:=ε b3
   have b4:=bp _ (YB b3);obtain⟨bt,bu⟩:=Z8 (N[j]);rw[<-bu] at aD b4;have a9:∀h,N[j]'h=bt:=λh=>bu.symm;obtain⟨S,b5⟩:∃n:Nat,bt=n:=⟨bt.toNat,U⟩;rw[b5] at aD a9 b4;have cX:(Zm 7 (m.map Zv)=δ/\ZY 28 3 (m.map Zv)=[]/\m=[])\/(Zm 7 (m.map Zv)=.ms 7 m.length 0 m.length/\ZY 28 3 (m.map Zv)=[.cells 28 3 (m.map Zv)]/\0<m.length):=by
    by_cases B:m=[]
    .subst B;exact .inl ⟨rfl,rfl,rfl⟩
    .have aE:m.map Zv≠[]:=by simpa using B
     exact .inr ⟨by rw[XB aE,Yb],Yz aE,Q9.2 B⟩
   have aF:=vj Z p r S (by rw[ai];show S<L.length;omega) (λx D=>by rw[ai] at D;have:=(aT.each x D).1;omega) (by rw[ai,f];show bl<G.length;omega) (by rw[ai,f];show bm<G.length;omega) (ZV E::Y7 δ δ δ::.dead::.dead::.dead::.cells 60 1 (M.set c (Zm 7 (m.map Zv)))::.cells 29 1 ag::ZY 28 3 (m.map Zv)) 5 nc (M.set c (Zm 7 (m.map Zv))) (by rw[No];exact az) rfl
   have a':0<=Z.Yd p r S/\Z.Yd p r S<=63:=by
    have cY:S7 ⟨G,L,[]⟩:=⟨aS,aT,J,J⟩;rw[ai];exact vo cY p r S
   have b6:∀a b:Int,Z.SJ p r ⟨S,a,b⟩=(O3 a (Z.Yd p r S)==0&&V0 (Z.Yd p r S) b==0):=λa b=>by unfold ο.SJ;simp
   obtain⟨aG,b7⟩:=Z8 (Z.Yd p r S);rw[<-b7] at aF a';simp only[<-b7] at b6;rw[ai] at aF
   repeat apply Ζ
   refine W.S8 (A:=[]) Τ mixed [(0,.Ο 0 1 0 0),(6,.Ο 1 1 0 0),(9,.Ε [ZU G,Z3 L,.ms 5 nc 0 nc]),(10,YO [p.1,p.2]),(11,.ms 6 (c+1) 0 (c+1)),(12,R c),(13,Χ r),(14,κ R 1 N),(15,R k),(16,R aG)] (ZV E::Y7 δ δ δ::.dead::.dead::.dead::.cells 60 1 (M.set c (Zm 7 (m.map Zv)))::.cells 29 1 ag::ZY 28 3 (m.map Zv)) ?_ (by
    obtain⟨dt,b8⟩:=Z8 (ZY 28 3 (m.map Zv));obtain⟨du,b9⟩:=Z8 (Zm 7 (m.map Zv));rw[<-b8,<-b9] at aF;rw[<-b8,<-b9,f];rw[f] at aF;simp;(repeat (rw[Zf];simp[Y,aD,a9,a6]));(try rw[Zg]);refine⟨U,?_⟩;refine KC (Δ.call (first:=[]) (captured:=[]) (Δ.Uo aF (.cons (.refl _) (.cons .ex (.cons .ex (.cons (.refl _) .nil)))) (λa s h=>⟨_,.refl _,h⟩))) ?_;simp;(repeat (rw[Zf];simp));(try rw[Zg]);refine⟨Ym (by kernel_rfl),?_⟩;simp)
   have bv:=U1 E U 63;obtain⟨a1,a2⟩:=T8 E 63 Z2 Z2;obtain⟨aH,b'⟩:=YN (XJ E 63);obtain⟨aI,ca⟩:=YN (E.after 63);have cZ:aI.ζ.length<=d.ζ.length:=by rw[<-ca];exact Xs (Xl _ _) br
   rw[b',ca] at bv;rw[b'] at a1 a2;have pick:∀(F:Zu) (x:Int),0<=x->x<=63->0<=([63,x]:List Int).getD (RY F [63,x]) 0/\([63,x]:List Int).getD (RY F [63,x]) 0<=63:=λF x u o=>by
    match RY F [63,x] with
    | 0=>simp
    | 1=>simp;omega
    | n+2=>simp
   have bw:=HQ aI U [63,aH] J J
   have bx:=pick aI aH a1 a2;obtain⟨c0,cb⟩:=YN (([63,aH]:List Int).getD (RY aI [63,aH]) 0);obtain⟨aJ,cc⟩:=YN (aI.after ((([63,aH]:List Int).length:Int)-1));have c1:aJ.ζ.length<=d.ζ.length:=by rw[<-cc];exact Xs (Xl _ _) cZ
   rw[cb,cc] at bw;rw[cb] at bx;have bz:=U1 aJ U 63;obtain⟨a3,a4⟩:=T8 aJ 63 Z2 Z2;obtain⟨aK,cd⟩:=YN (XJ aJ 63);obtain⟨aL,ce⟩:=YN (aJ.after 63);have c2:aL.ζ.length<=d.ζ.length:=by rw[<-ce];exact Xs (Xl _ _) c1
   rw[cd,ce] at bz;rw[cd] at a3 a4;have bA:=HQ aL U [63,aK] J J;have bB:=pick aL aK a3 a4;obtain⟨c3,cf⟩:=YN (([63,aK]:List Int).getD (RY aL [63,aK]) 0);obtain⟨bC,cg⟩:=YN (aL.after ((([63,aK]:List Int).length:Int)-1));have c4:bC.ζ.length<=d.ζ.length:=by rw[<-cg];exact Xs (Xl _ _) c2
   rw[cf,cg] at bA;rw[cf] at bB;obtain⟨ci,_,_⟩:=Nz a' bx;obtain⟨_,cj,ck⟩:=Nz bB a';obtain⟨cl,bD⟩:=vd a' bx bB;obtain⟨cm,aM⟩:=YN (X9 .i64 aG c0);obtain⟨cn,aN⟩:=YN (Vi .i64 c3 aG);rw[aM] at ci cl bD;rw[aN] at cj ck bD;obtain⟨au,bE⟩:=Z8 (⟨S,cm,cn⟩:Y9);have cp:(m++[au]).map Zv≠[]:=J
   repeat apply Ζ
   refine W.JL (A:=[105]) Τ mixed [(0,.Ο 0 1 0 0),(6,.Ο 1 1 0 0),(9,.Ε [ZU G,Z3 L,.ms 5 nc 0 nc]),(10,YO [p.1,p.2]),(11,.ms 6 (c+1) 0 (c+1)),(12,R c),(13,Χ r),(14,κ R 1 N),(15,R k)] (ZV bC::Y7 δ δ δ::.dead::.dead::.dead::.cells 60 1 (M.set c (Zm 7 ((m++[au]).map Zv)))::.cells 29 1 ag::ZY 28 3 ((m++[au]).map Zv)) ?_ (by
    rw[XB cp,Yz cp,Yb,Vo,Xz,Xt,TX,bE];rcases cX with⟨f1,f2,f3⟩|⟨f1,f2,f3⟩
    .rw[f1,f2,a0,f3];simp;(repeat (rw[Vq];simp[Y,aD,a9,a6,az,bi]));(try rw[Vr]);refine⟨U,U,?_⟩;refine Ze.h (bv) (Rb ?_);refine Ze.e bw (.cons .ex .nil) J J ?_;simp[aM];(repeat (rw[Vq];simp[aM]));(try rw[Vr]);refine Ze.h (bz) (Rb ?_);refine Ze.e bA (.cons .ex .nil) J J ?_;simp[aN];(repeat (rw[Vq];simp[aN,az,bi]));(try rw[Vr]);refine⟨U,?_⟩;refine⟨Ym (by kernel_rfl),Ym (by kernel_rfl),?_⟩;simp
    .rw[f1,f2];have cq:∀v,(M.set c v)[c]?=some v:=λv=>by rw[WE U]
     have cr:∀v h,(M.set c v)[c]'h=v:=λv h=>List.getElem_set_self h;simp;(repeat (rw[Vq];simp[Y,aD,a9,a6,az,cq,cr]));(try rw[Vr]);refine⟨U,U,?_⟩;refine Ze.h (bv) (Rb ?_);refine Ze.e bw (.cons .ex .nil) J J ?_;simp[aM];(repeat (rw[Vq];simp[aM]));(try rw[Vr]);refine Ze.h (bz) (Rb ?_);refine Ze.e bA (.cons .ex .nil) J J ?_;simp[aN];(repeat (rw[Vq];simp[aN,az,cq,cr]));(try rw[Vr]);refine⟨U,U,?_⟩;refine⟨Ym (by kernel_rfl),Ym (by kernel_rfl),?_⟩;simp)
   refine μ Y ?_;have c5:(N.take ad).drop j=(S:Int)::(N.take ad).drop k:=by
    have c6:j<(N.take ad).length:=by rw[Q6];omega
    rw[PF c6,cW,List.getElem_take,<-bu,b5]
   refine W.to (b2 ⟨j,bC,m++[au]⟩ ⟨by show(m++[au]).length+j=ad;rw[Vo];simp;omega,c4,?_,λy C=>?_⟩ (by show j<k;omega)) J (by simp[Y])
   .show(m++[au]).map (·.Zb)=((N.take ad).drop j).reverse;rw[c5,Xz,aC,List.reverse_cons,bE];rfl
   .rcases V6.1 C with C|C
    .exact a8 y C
    .simp at C;subst C;subst bE;refine⟨⟨ci,cj,bD⟩,?_⟩;rw[b6];have c7:O3 cm aG=0:=cl;have c8:V0 aG cn=0:=ck;rw[c7,c8];rfl
  .have aB:k=0:=by simp at bs;omega
   subst aB;have dv:m.length=ad:=U;rw[List.drop_zero] at aC;have c9:PI K m:=by
    refine⟨U,?_,λy C=>?_⟩
    .rw[aC];unfold List.Nodup;rw[List.pairwise_reverse];exact(bW.sublist (List.take_sublist _ _)).imp Y2
    .have cs:y.Zb∈m.map (·.Zb):=YK.2 ⟨y,C,rfl⟩;rw[aC,List.mem_reverse] at cs;have:=bp _ (L4 cs);obtain⟨⟨c',da,db⟩,_⟩:=a8 y C;exact⟨this,c',da,db⟩
   have Y:IntKind.i64.wrap ((c:Int)+1)=((c+1:Nat):Int):=by rw[IntWalk.i64_in _ U];omega
   have dc:(done++[m]).length=c+1:=by simp;omega
   have av:=be ⟨E,done++[m],rd++[r]⟩ ⟨by show(done++[m]).length<=nc;omega,br,λx D=>by
    rcases V6.1 D with D|D
    .exact bf x D
    .simp at D;subst D;exact c9,by show(rd++[r]).length=_;simp[Q,aj],λy C=>by
    rcases V6.1 C with C|C
    .exact bg y C
    .simp at C;subst C;rw[cL,cM];omega,λx y z u o=>by
    by_cases D:x<c
    .rw[YU U] at u o;exact bh x y z u o
    .rw[XT U] at u o;have bn:x-rd.length=x-c:=by rw[Q]
     rw[bn] at u;rw[<-aj] at o;cases ct:x-c with
     | zero=>rw[ct] at u o;simp at u o;subst u;subst o;exact λy C=>(a8 y C).2
     | succ q=>rw[ct] at u;simp at u⟩ (by show nc-(done++[m]).length<nc-c;omega)
   have dd:Z4 (done++[m]) nc≠[]:=λh=>by
    have:=TD (done:=done++[m]) (nc:=nc) U;rw[h] at this;simp at this;omega
   have cu:(rd++[r]).map Χ≠[]:=J
   have de:((rd++[r]).map Χ).length=c+1:=by simp[Q]
   simp only[dc] at av;rw[Yz dd,Yz cu,XB cu,de,<-a5,<-cH m,e] at av;refine W.exit rfl ?_;by_cases B:m=[]
   .subst B;rw[show VF []=δ from rfl,a0] at av;rw[show Zm 7 (([]:List Y9).map Zv)=δ from rfl,show ZY 28 3 (([]:List Y9).map Zv)=[] from rfl,a0];refine μ Y ?_;exact W.to av rfl (by simp[Y])
   .have aE:m.map Zv≠[]:=by simpa using B
    have aq:VF m=.sl false 3 (m.map Zv):=by unfold VF Xn;rw[if_neg (by simpa using B)]
    rw[aq] at av;rw[XB aE,Yz aE];refine W.Qq (σ':=ZV E::Y7 δ δ δ::.dead::.dead::.dead::.cells 60 1 (M.set c (.sl false 3 (m.map Zv)))::.cells 29 1 ag::[.dead]) (id:=7) J rfl rfl rfl (λi r hi f=>?_) [(0,.Ο 0 1 0 0),(6,.Ο 1 1 0 0),(9,.Ε [ZU G,Z3 L,.ms 5 nc 0 nc]),(10,YO [p.1,p.2]),(11,.ms 6 (c+1) 0 (c+1)),(12,R c)] (λp V=>by
     simp only[YZ,XY,or_false] at V;rcases V with rfl|rfl|rfl|rfl|rfl|rfl<;>exact .same _) ?_
    .match i,hi,f with
     | 0,_,f=>exact⟨r,f,.inl rfl⟩
     | 1,_,f=>exact⟨r,f,.inl rfl⟩
     | 2,_,f=>exact⟨r,f,.inl rfl⟩
     | 3,_,f=>exact⟨r,f,.inl rfl⟩
     | 4,_,f=>exact⟨r,f,.inl rfl⟩
     | 5,_,f=>
      simp at f;subst f;refine⟨_,rfl,.inr ⟨60,1,_,_,rfl,rfl,J,λy e dw u o=>?_⟩⟩;by_cases C:y=c
      .subst C;rw[WE U] at u o;cases u;cases o;refine⟨rfl,λx a bF aO aP=>?_⟩
       match x with
       | 0=>simp[I.cells] at aO aP;subst aO;subst aP;have:=RV.ms (id:=7) (k:=3) (l:=m.map Zv);rwa [Yb] at this
       | x+1=>simp[I.cells] at aO
      .rw[VT (Y2 C)] at u o;rw[u] at o;cases o;exact⟨rfl,λx a bF aO aP=>by rw[aO] at aP;cases aP;exact .same _⟩
     | 6,_,f=>exact⟨r,f,.inl rfl⟩
     | 7,h,_=>exact absurd rfl h
     | i+8,_,f=>simp at f
    refine W.drop (h:=7) J J (λi r hi f=>?_) rfl [(0,.Ο 0 1 0 0),(6,.Ο 1 1 0 0),(9,.Ε [ZU G,Z3 L,.ms 5 nc 0 nc]),(10,YO [p.1,p.2]),(11,.ms 6 (c+1) 0 (c+1)),(12,R c)] ?_ ?_
    .match i,hi,f with
     | 0,_,f=>simp at f;subst f;exact T7 E 7
     | 1,_,f=>simp at f;subst f;intro e H a w;simp[I.cells] at H;subst H;simp[I.cells] at w;subst w;simp
     | 2,_,f=>simp at f;subst f;trivial
     | 3,_,f=>simp at f;subst f;trivial
     | 4,_,f=>simp at f;subst f;trivial
     | 5,_,f=>
      simp at f;subst f;intro e H a w;rcases L8 H with H|rfl
      .obtain⟨u,o⟩:=cI e H;rw[u] at w;simp at w;subst w;exact o.mono (ω _)
      .simp[I.cells] at w;subst w;have:=HF m;rw[aq] at this;exact this.mono (ω _)
     | 6,_,f=>simp at f;subst f;exact λe H a w=>(cN e H a w).mono (ω _)
     | i+7,h,_=>omega
    .intro p V;simp only[YZ,XY,or_false] at V;rcases V with rfl|rfl|rfl|rfl|rfl|rfl
     .exact⟨rfl,WH.2 U⟩
     .exact⟨rfl,WH.2 U⟩
     .refine⟨rfl,KJ.2 λa w=>?_⟩;simp only[YZ,XY,or_false] at w;rcases w with rfl|rfl|rfl
      .exact(Yx.2 T6:Γ 0 _).mono (ω _)
      .exact(Yx.2 Sv:Γ 0 _).mono (ω _)
      .exact TK.2 U
     .exact⟨rfl,J⟩
     .exact⟨rfl,TK.2 U⟩
     .exact⟨rfl,.z _⟩
    refine μ Y ?_;exact W.to av rfl (by simp[Y])
 .have ar:c=nc:=by simp at ar;omega
  subst ar;refine W.exit rfl ?_;have df:S7 ⟨G,L,done⟩:=⟨aS,aT,by show done.length<=4;omega,λx D=>by show PI L.length x;rw[<-aV];exact bf x D⟩;have dg:Z4 done c=done.map VF:=by rw[aj];exact DK
  have cv:DC ak al ⟨G,L,done⟩ p rd:=⟨⟨P,bK,V⟩,df,by show done.length<=al;omega,cz,cC,by show rd.length=done.length;omega,λr f=>by show(-1<=r.1/\r.1<G.length)/\_;rw[<-bc];exact bg r f,λx y h=>by
   unfold ο.P7;show((done[x]?).getD []).all _=true;cases D:done[x]? with
   | none=>rfl
   | some m=>
    refine WN.2 λz B=>?_;have:=bh x y m h D z B;rw[ai] at this;exact this⟩
  have dh:Y4 (.Z9 [ZU G,Z3 L,.sl false 1 (done.map VF)]) (Zd ⟨G,L,done⟩):=by
   refine .Z9 (.cons (.refl _) (.cons (.refl _) (.cons ?_ .nil)));exact .map λx _=>.one .acc (HE x) rfl
  have di:Y4 (.sl false 1 (rd.map Χ)) (Z3 (HG rd)):=by
   show Y4 (.sl false 1 (rd.map Χ)) (.sl false 1 ((HG rd).map (κ R 1)));rw[Pz];exact .map λr _=>.one .ex rfl rfl
  rcases am with⟨T,e⟩|⟨T,e⟩<;>rcases an done U with⟨O,ax⟩|⟨O,ax⟩
  .have aQ:rd=[]:=by rcases cG with⟨_,h⟩|h;exact h;omega
   have dj:done=[]:=YV.1 U;rw[e,ax,aQ];rw[show Zm 6 (([]:List (Int×Int)).map Χ)=δ from rfl,show ZY 29 1 (([]:List (Int×Int)).map Χ)=[] from rfl];refine Φ ?_;refine W.cut 1 J [(6,.Ε [ZU G,Z3 L,δ]),(7,YO [p.1,p.2]),(8,δ)] J (λid r dk f=>?_) (λz B=>?_) ?_
   .have:id=0:=U
    subst this;simp at f;subst f;exact T7 aa 1
   .simp only[YZ,XY,or_false] at B;rcases B with rfl|rfl|rfl
    .show Yu 1 _ (Z' _ 6) _;simp;refine .struct J (show _=some (Row.cells _ _ [.Z9 _]) from rfl) rfl λx a bF u o=>?_
     match x with
     | 0=>simp at u o;subst u;subst o;exact .low ((Yx.2 T6:Γ 0 _).mono (ω _))
     | 1=>simp at u o;subst u;subst o;exact .low ((Yx.2 Sv:Γ 0 _).mono (ω _))
     | 2=>simp at u o;subst u;subst o;exact .low J
     | x+3=>simp at o
    .exact .low J
    .exact .low J
   .refine W.ret ⟨_,rfl,_,aa,?_,⟨_,p,rd,rfl,cv⟩,rfl,aX⟩;rw[dj,aQ];exact .ZP (.cons (.Z9 (.cons (.refl _) (.cons (.refl _) (.cons .nil .nil)))) (.cons .ex (.cons .nil .nil)))
  .omega
  .omega
  .have af:(Z4 done c).length=c:=TD U
   have aQ:rd.map Χ≠[]:=λh=>by
    have:(rd.map Χ).length=0:=by rw[h];rfl
    rw[Yb] at this;omega
   rw[e,ax,XB aQ,Yz aQ,Yb,Q];refine μ af ?_;refine W.cut 1 J [(6,.Ε [ZU G,Z3 L,.sl false 1 (Z4 done c)]),(7,YO [p.1,p.2]),(8,.sl false 1 (rd.map Χ))] J (λid r dk f=>?_) (λz B=>?_) ?_
   .have:id=0:=U
    subst this;simp at f;subst f;exact T7 aa 1
   .simp only[YZ,XY,or_false] at B;rcases B with rfl|rfl|rfl
    .show Yu 1 _ (Z' _ 6) _;simp;refine .struct J (show _=some (Row.cells _ _ [.Z9 _]) from rfl) rfl λx a bF u o=>?_
     match x with
     | 0=>simp at u o;subst u;subst o;exact .low ((Yx.2 T6:Γ 0 _).mono (ω _))
     | 1=>simp at u o;subst u;subst o;exact .low ((Yx.2 Sv:Γ 0 _).mono (ω _))
     | 2=>simp at u o;subst u;subst o;exact .own (t:=60) J rfl af (λe H a w=>by
       obtain⟨dl,dm⟩:=Nx e H;rw[dl] at w;simp at w;subst w;exact dm.mono (ω _))
     | x+3=>simp at o
    .exact .low J
    .show Yu 1 _ (Z' _ 8) _;simp;exact .own (t:=29) (id:=6) J rfl (by simp[Q]) (λe H a w=>(DS e H a w).mono (ω _))
   .rw[dg];exact W.ret ⟨_,rfl,_,aa,.ZP (.cons dh (.cons .ex (.cons di .nil))),⟨_,p,rd,rfl,cv⟩,rfl,aX⟩
end Go.TL
namespace Go.TL
open Go.Proofs.Tryz
open Go.Conc Go.Proofs
variable [ZS]
theorem W.Yo {P:Program} {m nt:Nat} {k:List Item} {env:Ι} {σ:Υ} {Z:XF} {E:Yf} (env':Ι) (d:∀p∈env',Y4 (Z' env p.1) p.2) (f:W P m nt k env' σ Z E):W P m nt k env σ Z E:=
 λg mn x cs b S B H t h j a n o=>by
 have r:∀(l:Ι),(∀p∈l,Y4 (Z' env p.1) p.2)->∀i,Y4 (Z' env i) (Z' l i):=by
  intro l
  induction l with
  | nil=>intro _ i;exact .Zw _
  | cons p l s=>
   intro c i;simp only[Z'];split
   .rename_i e;rw[<-e];exact c p J
   .exact s (λq u=>c q (by simp[u])) i
 exact f g mn x cs b S B H t h j ⟨a.holds,λi=>r env' d i S B σ _ (a.Zr i),a.size,a.rows⟩ n o
end Go.TL
namespace Go.TL
open Go.Proofs.Tryz
open Go.Proofs
variable [ZS]
theorem u' {n:Nat}:∀{l:List Int} {a:Int},l.Pairwise (· < ·)->(∀x∈l,a<=x/\x<a+n)->l.length<=n:=by
 induction n with
 | zero=>
  intro l a _ h;cases l with
  | nil=>simp
  | cons x l=>have:=h x J;omega
 | succ n c=>
  intro l a d h;cases l with
  | nil=>simp
  | cons x l=>
   obtain⟨e,f⟩:=List.pairwise_cons.1 d;have g:=h x J;have:=c (a:=a+1) f λy b=>by have:=e y b;have:=h y (by simp[b]);omega
   simp only[List.length_cons];omega
theorem u9:∀k<256,Ve ⟨#[UInt8.ofNat k]⟩=false->97<=k/\k<=122:=by decide +kernel
theorem u7 {n:ByteArray} (h:Ve n=false):∃b:UInt8,n=⟨#[b]⟩/\97<=b.toNat/\b.toNat<=122:=by
 have c:n.size=1:=by
  unfold Ve at h;simp only[Bool.or_eq_false_iff] at h;have:=h.1.1;simpa using this
 obtain⟨d⟩:=n;have hd:d=#[d[0]'(by show 0<ByteArray.size ⟨d⟩;omega)]:=by
  apply Array.ext
  .exact c
  .intro i e a;have:i=0:=by simp at a;exact a
   subst this;rfl
 generalize d[0]'_=b at hd;subst hd;refine⟨b,rfl,u9 b.toNat b.toNat_lt ?_⟩;rw[UInt8.ofNat_toNat];exact h
end Go.TL
