import Derived.Sort.LotC
import Derived.Sort.LotD5
import Derived.Sort.Walk13a
import Derived.Test.YtlabjopijpkiaaaGreatCAI
set_option maxHeartbeats 16000000
set_option maxRecDepth 20000
set_option linter.unusedSectionVars false
set_option linter.unusedSimpArgs false
set_option linter.unusedVariables false
namespace Go.TL
open Go.IntWalk (i64_in)
open Go.IntKind (i64 u64)
open Go.Proofs.Tryz
open Go.Conc Go.ConcM Go.Proofs
open Go.ChangeShapes Go.WideShapes Go.ChangeAt Go.RowKit Go.Deep
section
variable {H:Type} {enc:TypeId×Value->H} {W:World}
theorem II {P:Program} {t:TypeId} {k:Nat} {b:Type} {c:b->Prop} {F:b->I} (h:VW enc P W t k c F):VW enc P W t k (λ_=>True) F:=λd cs x e=>by
 obtain⟨a,_,f⟩:=h d cs x e;exact⟨a,trivial,f⟩
theorem Cs:VW enc prog W 29 1 (λl:List Int=>l.length<2 ^ 63/\∀a∈l,True) (ζ R 1):=Lj underlying29 (by kernel_rfl) Z0 (MO underlying3)
theorem tE:VW enc prog W 23 1 (λ_:List (List Int)=>True) θ:=II (Lj underlying23 (by kernel_rfl) Z0 Cs)
theorem Cr:VW enc prog W 28 3 (λ_:ZF=>True) Z2:=
 Ct (λa b c=>(⟨a,b,c⟩:ZF)) underlying28 rfl rfl rfl (by kernel_rfl) (by kernel_rfl) (by kernel_rfl) (by kernel_rfl) (MO underlying3) (MO underlying3) (MO underlying3) (λ_ _ _=>rfl) (λ_ _ _ _ _ _=>trivial)
theorem tD:VW enc prog W 77 (1+1) (λ_:VL=>True) X9:=
 tF (λa b=>(⟨a,b⟩:VL)) underlying77 rfl rfl (by kernel_rfl) (by kernel_rfl) (by kernel_rfl) (tG underlying9) (MO underlying3) (λ_ _=>rfl) (λ_ _ _ _=>trivial)
theorem tC:VW enc prog W 22 1 (λ_:List VL=>True) Z6:=II (Lj underlying22 (by kernel_rfl) Z0 tD)
theorem tB:VW enc prog W 60 1 (λ_:List ZF=>True) Xt:=II (Lj underlying60 (by kernel_rfl) Z0 Cr)
theorem tA:VW enc prog W 24 1 (λ_:List (List ZF)=>True) XL:=II (Lj underlying24 (by kernel_rfl) Z0 tB)
theorem tz:VW enc prog W 26 3 (λ_:υ=>True) ZB:=
 Ct (λa b c=>(⟨a,b,c⟩:υ)) underlying26 rfl rfl rfl (by kernel_rfl) (by kernel_rfl) (by kernel_rfl) (by kernel_rfl) tC tE tA (λ_ _ _=>rfl) (λ_ _ _ _ _ _=>trivial)
theorem Cq {t:TypeId} {b:Type} {c:b->Prop} {F:b->I} (h:VW enc prog W t 1 c F) (e:∀a,(F a).cells=[F a]) {v:Value} {d:DataW H} {f:List MemPlace} (hd:DataW.Trod enc prog W 0 (λ_=>true) true t v d f) (hv:v.cells.toList=[v]):∃a,c a/\ς (Uy W) [] [] (F a) v:=by
 obtain⟨g,i⟩:=hd;obtain⟨a,j,_,_,k⟩:=h g _ _ i;exact⟨a,j,k 0 (F a) v (by rw[e];rfl) (by rw[hv];rfl)⟩
theorem Cp {t:TypeId} {k:Nat} {b:Type} {f:b->Prop} {F:b->I} (h:VW enc prog W t k f F) (j:∀a,F a=.Z' (F a).cells) {cs:Array Value} {d:DataW H} {l:List MemPlace} (hd:DataW.Trod enc prog W 0 (λ_=>true) true t (.agg cs) d l):∃a,f a/\ς (Uy W) [] [] (F a) (.agg cs):=by
 obtain⟨m,g⟩:=hd;have e:(Value.agg cs).cells.toList=cs.toList:=rfl;rw[e] at g;obtain⟨a,n,o,p,r⟩:=h m _ _ g;refine⟨a,n,?_⟩;rw[j a];exact .Z' cs (by rw[o,<-p];simp) λi c v s u=>r i c v s (by simpa using u)
theorem Co {P:Program} {g:World} (i:laidOutB P=true) (j:Below W.heap.size W g):∀{a:List TypeId} {vs:List Value} {ds:List (DataW H)} {c:List MemPlace},(∀t∈a,P.readableRec t=true/\t<P.types.size)->
  DataW.TrodAll enc P W 0 (λ_=>true) true a vs ds c->(∀x∈c,x.block<W.heap.size)->DataW.TrodAll enc P g 0 (λb=>decide (b<W.heap.size)) true a vs ds c
 | [],_,_,_,_,h,_=>by
  obtain⟨rfl,rfl,rfl⟩:=trodAll_nil h;exact trodAll_mk0
 | t::a,_,_,_,e,h,k=>by
  obtain⟨v,o,d,r,p,q,rfl,rfl,rfl,l,m⟩:=trodAll_cons h;exact trodAll_cons_mk (Below.trod i (e t J).1 (e t J).2 l j λx f=>k x (List.mem_append_left _ f)) (Co i j (λu n=>e u (by simp[n])) m λx f=>k x (List.mem_append_right _ f))
end
end Go.TL
namespace Go.TL
open Go.IntWalk (i64_in)
open Go.IntKind (i64 u64)
open Go.Proofs.Tryz
open Go.Proofs
variable [ZN]
theorem MN (n lo hi:Int):Κ prog 97 [R n,R lo,R hi] (ZU (decide (lo<=n)&&decide (n<=hi))):=by
 refine Μ.body Υ func97 rfl rfl ntmps97 rfl rfl J ?_;by_cases a:lo<=n
 .refine Ζ a ?_;refine W.rt ?_;exact .of (by simp[a])
 .refine Ζ a ?_;refine W.rt ?_;exact .of (by simp[a])
theorem tx (l:List VL) (P:l.length<2 ^ 30):Κ prog 106 [Z6 l] (R (Wq l)):=by
 refine Μ.body Υ func106 rfl rfl ntmps106 rfl rfl J ?_;by_cases b:l.length=0
 .refine Ζ b ?_;refine Γ J ?_;refine Χ ?_;refine W.rt ?_;exact .of (by rw[show Wq l=7 by simp[Wq,b]];rfl)
 by_cases p:(6:Int)<l.length
 .refine Ζ (Τ b p) ?_;refine Η (by simp[b]) ?_;refine Ζ (Τ b p) ?_;refine Γ J ?_;refine Χ ?_;refine W.rt ?_;exact .of (by rw[show Wq l=6 by simp[Wq,b];omega];rfl)
 have E:Wq l=Xg ((List.range l.length).map (Vu l)):=by
  unfold Wq;rw[if_neg b,if_neg U]
 rw[E];refine Ζ (Τ b p) ?_;refine Η (by simp[b]) ?_;refine Ζ (Τ b p) ?_;refine Η J ?_;refine Χ ?_;refine W.iter (λi:Nat=>i<=l.length/\∀j,j<i->Vu l j=0) (λi=>[(0,Z6 l),(3,R i)]) (λ_=>[]) (λi=>l.length-i) 0 ⟨U,λj g=>U⟩ rfl J (λi hi F=>?_);refine Χ ?_;refine W.YN rfl (λa=>?_) (λa=>?_)
 .have a:i<l.length:=by simpa using a
  have m:l[i]?=some l[i]:=ε a
  have r:∀e:Int,Vu l i=e->e≠0->Xg ((List.range l.length).map (Vu l))=e:=λe H v=>QV a H v hi.2
  have B:=Yw a (show l.length<2 ^ 62 by omega)
  repeat apply Ξ
  refine W.Qd (A:=[]) Υ [(39,ZU (UK l[i].name)),(0,Z6 l),(3,R i)] ?_ (by
   unfold UK;by_cases f:(l[i].name.size:Int)=1
   .have c:l[i].name.size=1:=U
    cases s:Mc l[i].name ⟨#[97]⟩
    ·(try simp);(repeat (rw[Ν];simp[f,s,c,a]));(try simp[f,s,c,a])
    ·(try simp);(repeat (rw[Ν];simp[f,s,c,a]));(try simp[f,s,c,a])
   .have c:¬l[i].name.size=1:=U
    (try simp);(repeat (rw[Ν];simp[f,c,a]));(try simp[f,c,a]))
  cases o:UK l[i].name
  case true=>
   refine Γ rfl ?_;refine Χ ?_;refine W.rt ?_;exact .of (by rw[r 2 (by simp[Vu,m,o]) Z0];rfl)
  refine Η rfl ?_
  repeat apply Ξ
  refine W.Nj (A:=[]) Υ mixed [(55,ZU (decide (0<i)&&Vw l[i].name ((l[i-1]?.map (·.name)).getD ⟨#[]⟩))),(0,Z6 l),(3,R i)] ?_ (by
   cases i with
   | zero=>
    simp;(repeat (rw[ZG];simp));(try rw[ZH]);refine⟨Yt (by kernel_rfl),?_⟩;simp
   | succ n=>
    have I:n<l.length:=U
    have K:=XW (show n<2 ^ 62 by omega)
    have v:(0:Int)<(n:Int)+1:=U;simp;(repeat (rw[ZG];simp[v,I,K,a]));(try rw[ZH]);refine⟨U,?_⟩;refine⟨Yt (by kernel_rfl),?_⟩;simp)
  cases bo:decide (0<i)&&Vw l[i].name ((l[i-1]?.map (·.name)).getD ⟨#[]⟩)
  case true=>
   refine Γ rfl ?_;refine Χ ?_;refine W.rt ?_;exact .of (by rw[r 5 (by simp at bo;simp[Vu,m,o,bo]) Z0];rfl)
  refine Η rfl ?_;have bo':¬(0<i/\Vw l[i].name ((l[i-1]?.map (·.name)).getD ⟨#[]⟩)=true):=λh=>by simp[h] at bo
  refine XX a λQ L=>?_;refine Κ.d (MN l[i].YT 1 63) (ZY ?_);apply L;by_cases w:l[i].YT<1\/63<l[i].YT
  case pos=>
   refine Γ (by simp;omega) ?_;refine Χ ?_;refine W.rt ?_;exact .of (by rw[r 1 (by simp only[Vu,m,o];rw[if_neg bo',if_pos w];rfl) Z0];rfl)
  refine Η (by simp;omega) ?_;refine Χ ?_;refine W.iter (λk:Nat=>k<=i/\∀j,j<k->(h:j<l.length)->l[j].YT≠l[i].YT) (λk=>[(0,Z6 l),(3,R i),(4,R k)]) (λ_=>[]) (λk=>i-k) 0 ⟨U,λj g=>U⟩ rfl J (λk C M=>?_);refine Χ ?_;by_cases t:k<i
  .refine Γ (by simp[t]) ?_;have N:k<l.length:=U;have D:=Yw t (show i<2 ^ 62 by omega)
   repeat apply Ξ
   refine W0 (Τ a N) ?_;by_cases u:l[k].YT=l[i].YT
   .refine Γ (by simp[u]) ?_;refine Χ ?_;have y:(l.take i).any (λx=>x.YT==l[i].YT)=true:=PB.2 ⟨l[k],NX.2 ⟨k,U,rfl⟩,by simpa using u⟩;refine W.rt ?_;exact .of (by rw[r 4 (by simp only[Vu,m,o];rw[if_neg bo',if_neg w,y];rfl) Z0];rfl)
   .refine Η (by simp[u]) ?_;refine Ζ D ?_;refine W.to (M (k+1) ⟨t,λj g h=>?_⟩ U) rfl (by simp[D]);by_cases e:j=k
    .subst e;exact u
    .exact C.2 j U h
  .refine Η (by simp[t]) ?_;refine W.exit rfl ?_;obtain rfl:k=i:=U;have y:(l.take k).any (λx=>x.YT==l[k].YT)=false:=Qw.2 λx O=>by
    obtain⟨j,g,rfl⟩:=NX.1 O;simpa using C.2 j U U
   refine Ζ B ?_;refine W.to (F (k+1) ⟨a,λj g=>?_⟩ U) rfl (by simp[B]);by_cases e:j=k
   .subst e;simp only[Vu,m,o];rw[if_neg bo',if_neg w,y];rfl
   .exact hi.2 j U
 .have a:l.length<=i:=by simpa using a
  refine W.exit rfl ?_;refine Χ ?_;refine W.rt ?_;exact .of (by rw[QU λj g=>hi.2 j U];rfl)
theorem tw (a:List (List Int)) (O:a.length<2 ^ 30) (C:∀x∈a,x.length<2 ^ 30):Κ prog 107 [θ a] (R (Wp a)):=by
 refine Μ.body Υ func107 rfl rfl ntmps107 rfl rfl J ?_;by_cases c:a.length=0
 .refine Ζ c ?_;refine Γ J ?_;refine Χ ?_;refine W.rt ?_;exact .of (by rw[show Wp a=7 by simp[Wp,c]];rfl)
 by_cases m:(4:Int)<a.length
 .refine Ζ (Τ c m) ?_;refine Η (by simp[c]) ?_;refine Ζ (Τ c m) ?_;refine Γ J ?_;refine Χ ?_;refine W.rt ?_;exact .of (by rw[show Wp a=6 by simp[Wp,c];omega];rfl)
 have D:Wp a=Xg ((List.range a.length).map λi=>RA ((a[i]?).getD [])):=by
  unfold Wp;rw[if_neg c,if_neg U]
 rw[D];refine Ζ (Τ c m) ?_;refine Η (by simp[c]) ?_;refine Ζ (Τ c m) ?_;refine Η J ?_;refine Χ ?_;refine W.iter (λi:Nat=>i<=a.length/\∀j,j<i->RA ((a[j]?).getD [])=0) (λi=>[(0,θ a),(3,R i)]) (λ_=>[]) (λi=>a.length-i) 0 ⟨U,λj k=>U⟩ rfl J (λi hi E=>?_);refine Χ ?_;refine W.YN rfl (λb=>?_) (λb=>?_)
 .have b:i<a.length:=by simpa using b
  have l:=ε b
  have F:a[i].length<2 ^ 30:=C _ (Y2 b)
  have u:=Yw b (show a.length<2 ^ 62 by omega);obtain⟨L,v⟩:=Ι (a[i]);rw[<-v] at l F;have r:∀h,a[i]'h=L:=λh=>v.symm;have w:(a[i]?).getD []=L:=by rw[l];rfl
  refine Χ ?_;refine W.iter (λn:Nat=>n<=L.length/\∀j,j<n->Ta L j=0) (λn=>[(0,θ a),(3,R i),(4,R n)]) (λ_=>[]) (λn=>L.length-n) 0 ⟨U,λj k=>U⟩ rfl J (λn s H=>?_);refine Ζ (Τ l (Τ r b)) ?_;by_cases hd:n<L.length
  .refine Γ (by simp[hd]) ?_;have t:L[n]?=some L[n]:=ε hd;have y:=Yw hd (show L.length<2 ^ 62 by omega);have B:∀e:Int,Ta L n=e->e≠0->Xg ((List.range a.length).map λi=>RA ((a[i]?).getD []))=e:=λe I o=>
    QV (i:=i) b (by rw[w];exact QV hd I o s.2) o hi.2
   refine XX (Τ l (Τ r (Τ b hd))) λP K=>?_;refine Κ.d (MN L[n] 0 2) (ZY ?_);apply K;cases g:Vd L[n]
   .refine Γ (by unfold Vd at g;simp at g;simp;omega) ?_;refine Χ ?_;refine W.rt ?_;exact .of (by rw[B 3 (by simp[Ta,t,g]) Z0];rfl)
   refine Η (by unfold Vd at g;simp at g;simp;omega) ?_
   repeat apply Ξ
   refine W.Nj (A:=[]) Υ mixed [(54,ZU (decide (0<n/\L[n]<=(L[n-1]?).getD 0))),(0,θ a),(3,R i),(4,R n)] ?_ (by
    cases n with
    | zero=>
    simp;(repeat (rw[ZG];simp));(try rw[ZH]);refine⟨Yt (by kernel_rfl),?_⟩;simp
    | succ n=>
     have M:n<L.length:=U
     have N:=XW (show n<2 ^ 62 by omega)
     have o:(0:Int)<(n:Int)+1:=U;simp;(repeat (rw[ZG];simp[o,M,N,l,r,b,hd]));(try rw[ZH]);refine⟨U,?_⟩;refine⟨Yt (by kernel_rfl),?_⟩;simp)
   by_cases p:0<n/\L[n]<=(L[n-1]?).getD 0
   .refine Γ (by simp only[p];rfl) ?_;refine Χ ?_;refine W.rt ?_;exact .of (by rw[B 5 (by simp only[Ta,t,g];rw[if_neg J,if_pos p]) Z0];rfl)
   .refine Η (by simp only[p];rfl) ?_;refine Ζ y ?_;refine W.to (H (n+1) ⟨hd,λj k=>?_⟩ U) rfl (by simp[y]);by_cases e:j=n
    .subst e;simp only[Ta,t,g];rw[if_neg J,if_neg p]
    .exact s.2 j U
  .refine Η (by simp[hd]) ?_;refine W.exit rfl ?_;refine Ζ u ?_;refine W.to (E (i+1) ⟨b,λj k=>?_⟩ U) rfl (by simp[u]);by_cases e:j=i
   .subst e;rw[w];exact QU λj k=>s.2 j U
   .exact hi.2 j U
 .have b:a.length<=i:=by simpa using b
  refine W.exit rfl ?_;refine Χ ?_;refine W.rt ?_;exact .of (by rw[QU (f:=λi=>RA ((a[i]?).getD [])) λj k=>hi.2 j U];rfl)
theorem Cn (s:υ) (E:s.Β.length<2 ^ 30) (a:List ZF) (A:a.length<2 ^ 62) (p:ZF):Κ prog 108 [ZB s,Xt a,Z2 p] (R (Yy s a p)):=by
 refine Μ.body Υ func108 rfl rfl ntmps108 rfl rfl J ?_;have v:i64.wrap ((s.Β.length:Int)-1)=(s.Β.length:Int)-1:=i64_in _ U;refine Χ ?_;refine XX v λt f=>?_;refine Κ.d (MN p.Zs 0 ((s.Β.length:Int)-1)) (XF v ?_);apply f;by_cases g:p.Zs<0\/(s.Β.length:Int)<=p.Zs
 case pos=>
  refine Γ (by simp;omega) ?_;refine Χ ?_;refine W.rt ?_;exact .of (by rw[show Yy s a p=3 by unfold Yy;rw[if_pos g]];rfl)
 refine Η (by simp;omega) ?_;refine Χ ?_;refine W.iter (λi:Nat=>i<=a.length/\∀j,j<i->(h:j<a.length)->a[j].Zs≠p.Zs) (λi=>[(1,Xt a),(5,.ω [R p.Zs,R p.seen,R p.bare]),(7,R i)]) (λ_=>[]) (λi=>a.length-i) 0 ⟨U,λj u=>U⟩ rfl J (λi hi B=>?_);refine Χ ?_;refine W.YN rfl (λc=>?_) (λc=>?_)
 .have c:i<a.length:=by simpa using c
  have w:=Yw c A
  repeat apply Ξ
  refine W0 c ?_;by_cases o:a[i].Zs=p.Zs
  .refine Γ (by simp[o]) ?_;refine Χ ?_;have k:a.any (λx=>x.Zs==p.Zs)=true:=PB.2 ⟨_,Y2 c,by simpa using o⟩;refine W.rt ?_;exact .of (by rw[show Yy s a p=4 by unfold Yy;rw[if_neg g,if_pos k]];rfl)
  .refine Η (by simp[o]) ?_;refine Ζ w ?_;refine W.to (B (i+1) ⟨c,λj u h=>?_⟩ U) rfl (by simp[w]);by_cases e:j=i
   .subst e;exact o
   .exact hi.2 j U h
 have c:a.length<=i:=by simpa using c
 refine W.exit rfl ?_;have k:a.any (λx=>x.Zs==p.Zs)=false:=Qw.2 λx C=>by
  obtain⟨j,u,rfl⟩:=To C;simpa using hi.2 j U u
 have D:∀b,(decide (0<=b)&&decide (b<=63))=valid b:=λb=>rfl
 have y:(valid p.seen=false\/valid p.bare=false)->Yy s a p=1:=λh=>by unfold Yy;rw[if_neg g,k];simp[h]
 have w1:=MN p.seen 0 63
 have l:=MN p.bare 0 63;rw[D] at w1 l;cases m:valid p.seen
 case false=>
  rw[m] at w1;rw[y (.inl m)];refine ZP λt f=>?_;refine Κ.d (w1) (ZY ?_);apply f;refine Γ rfl ?_;refine Χ ?_;refine W.rt ?_;exact .of rfl
 rw[m] at w1;cases n:valid p.bare
 case false=>
  rw[n] at l;rw[y (.inr n)];refine ZP λt f=>?_;refine Κ.d (w1) (ZY ?_);refine Κ.d (l) (ZY ?_);apply f;refine Γ rfl ?_;refine Χ ?_;refine W.rt ?_;exact .of rfl
 rw[n] at l;refine ZP λt f=>?_;refine Κ.d (w1) (ZY ?_);refine Κ.d (l) (ZY ?_);apply f;refine Η rfl ?_;refine Χ ?_;by_cases r:WB p.seen p.bare=0
 .refine Η (by simp[r]) ?_;refine Χ ?_;refine W.rt ?_;exact .of (by rw[show Yy s a p=0 by unfold Yy;rw[if_neg g,k];simp[m,n,r]];rfl)
 .refine Γ (by simp[r]) ?_;refine Χ ?_;refine W.rt ?_;exact .of (by rw[show Yy s a p=9 by unfold Yy;rw[if_neg g,k];simp[m,n,r]];rfl)
def N3 (s:υ) (c:List ZF) (n:Nat):Int:=((c[n]?).map (Yy s (c.take n))).getD 0
theorem Cm (s:υ) (c:s.small):Κ prog 49 [ZB s] (R s.err):=by
 refine Μ.body Υ func49 rfl rfl ntmps49 rfl rfl J ?_;refine Χ ?_;refine ZP λu k=>?_;refine Κ.d (tx s.Α c.1) (ZY ?_);apply k;refine Χ ?_;by_cases l:Wq s.Α=0
 case neg=>
  refine Γ (by simp[l]) ?_;refine Χ ?_;refine W.rt ?_;exact .of (by rw[show s.err=Wq s.Α by unfold υ.err;rw[if_pos l]];rfl)
 refine Η (by simp[l]) ?_;refine ZP λu k=>?_;refine Κ.d (tw s.Β c.2.1 c.2.2.2.1) (ZY ?_);apply k;refine Χ ?_;by_cases o:Wp s.Β=0
 case neg=>
  refine Γ (by simp[o]) ?_;refine Χ ?_;refine W.rt ?_;exact .of (by rw[show s.err=Wp s.Β by unfold υ.err;rw[if_neg (by simp[l]),if_pos o]];rfl)
 refine Η (by simp[o]) ?_;have e:s.err=TP s:=by unfold υ.err;rw[if_neg (by simp[l]),if_neg (by simp[o])]
 rw[e];have O:=c.2.2.1;by_cases v:(4:Int)<s.cells.length
 .refine Ζ v ?_;refine Γ J ?_;refine Χ ?_;refine W.rt ?_;exact .of (by rw[show TP s=6 by simp[TP];omega];rfl)
 have w:TP s=Xg ((List.range s.cells.length).map λi=>VJ s ((s.cells[i]?).getD [])):=by
  unfold TP;rw[if_neg U]
 rw[w];clear e w;refine Ζ v ?_;refine Η J ?_;refine Χ ?_;refine W.iter (λi:Nat=>i<=s.cells.length/\∀j,j<i->VJ s ((s.cells[j]?).getD [])=0) (λi=>[(1,Z9 s),(5,R i)]) (λ_=>[]) (λi=>s.cells.length-i) 0 ⟨U,λj m=>U⟩ rfl J (λi hi H=>?_);refine Χ ?_;refine W.YN rfl (λa=>?_) (λa=>?_)
 .have a:i<s.cells.length:=by simpa using a
  have g:=ε a
  have I:s.cells[i].length<2 ^ 30:=c.2.2.2.2 _ (Y2 a)
  have x:=Yw a (show s.cells.length<2 ^ 62 by omega);obtain⟨L,y⟩:=Ι (s.cells[i]);rw[<-y] at g I;have p:∀h,s.cells[i]'h=L:=λh=>y.symm;have B:(s.cells[i]?).getD []=L:=by rw[g];rfl
  have C:∀e:Int,VJ s L=e->e≠0->Xg ((List.range s.cells.length).map λi=>VJ s ((s.cells[i]?).getD []))=e:=λe K M=>
   QV (i:=i) a (by rw[B];exact K) M hi.2
  by_cases r:(4:Int)<L.length
  .refine Ζ (Τ g (Τ p (Τ a r))) ?_;refine Γ (by simp[r]) ?_;refine Χ ?_;refine W.rt ?_;exact .of (by rw[C 6 (by unfold VJ;rw[if_pos U]) Z0];rfl)
  refine Ζ (Τ g (Τ p (Τ a r))) ?_;refine Η J ?_;refine Χ ?_;have D:VJ s L=Xg ((List.range L.length).map (N3 s L)):=by
   unfold VJ;rw[if_neg U];congr 1;refine MA λn _=>?_;unfold N3;cases L[n]?<;>rfl
  refine W.iter (λn:Nat=>n<=L.length/\∀j,j<n->N3 s L j=0) (λn=>[(1,Z9 s),(5,R i),(6,R n)]) (λ_=>[]) (λn=>L.length-n) 0 ⟨U,λj m=>U⟩ rfl J (λn t N=>?_);refine Ζ (Τ g (Τ p a)) ?_;by_cases hd:n<L.length
  .refine Γ (by simp[hd]) ?_;have E:L[n]?=some L[n]:=ε hd;have F:=Yw hd (show L.length<2 ^ 62 by omega)
   repeat apply Ξ
   refine W.draw (A:=[]) Υ mixed λu k=>?_;simp;(repeat (rw[ZG];simp[g,p,a,hd,RP hd]));try rw[ZH]
   (try simp only[<-Mw]);refine Ys (Κ.q (Cn s c.2.1 (L.take n) (by simp;omega) L[n])) (Vf ?_);refine YF (k _ _ ?_);refine Χ ?_;by_cases b:Yy s (L.take n) L[n]=0
   .refine Η (by simp[b]) ?_;refine Ζ F ?_;refine W.to (N (n+1) ⟨hd,λj m=>?_⟩ U) rfl (by simp[F]);by_cases e:j=n
    .subst e;unfold N3;rw[E];exact b
    .exact t.2 j U
   .refine Γ (by simp[b]) ?_;refine Χ ?_;refine W.ret ⟨_,rfl,?_,rfl⟩;have:=C (Yy s (L.take n) L[n]) (by rw[D];exact QV (f:=N3 s L) hd (by unfold N3;rw[E];rfl) b t.2) b;rw[this];exact .of rfl
  .refine Η (by simp[hd]) ?_;refine W.exit rfl ?_;refine Ζ x ?_;refine W.to (H (i+1) ⟨a,λj m=>?_⟩ U) rfl (by simp[x]);by_cases e:j=i
   .subst e;rw[B,D];exact QU (f:=N3 s L) λj m=>t.2 j U
   .exact hi.2 j U
 .have a:s.cells.length<=i:=by simpa using a
  refine W.exit rfl ?_;refine Χ ?_;refine W.rt ?_;exact .of (by rw[QU (f:=λi=>VJ s ((s.cells[i]?).getD [])) λj m=>hi.2 j U];rfl)
theorem MM (d:Zg) {a b:Int} (h:a<=b) (c:-1000<a) (e:b<1000):a<=S6 d a b/\S6 d a b<=b:=by
 unfold S6;rw[i64_in (b-a) U];obtain⟨t0,t1⟩:=S5 d (b-a) U U;generalize XD d (b-a)=x at t0 t1;rw[i64_in (a+x) U];omega
theorem tv (l:List Int) (k:Nat) (x:Int):(RZ l k x).Perm (x::l):=by
 unfold RZ;have h:(l.take k++x::l.drop k).Perm (x::(l.take k++l.drop k)):=List.perm_middle
 rwa [NT] at h
theorem Cl (d:Zg) (n:Nat):(W7 d n).1.Perm ((List.range n).map λ(i:Nat)=>(i:Int)):=by
 induction n with
 | zero=>exact .refl _
 | succ n a=>
  show(RZ _ _ _).Perm _;refine(tv _ _ _).trans ?_;rw[VA,Yd];refine(List.Perm.cons _ a).trans ?_;exact(List.perm_append_singleton _ _).symm
theorem Gx {d:Zg} {n:Nat} {x:Int} (h:x∈(W7 d n).1):0<=x/\x<n:=by
 have:=(Cl d n).mem_iff.1 h;obtain⟨i,hi,rfl⟩:=Zd.1 this;have:=Wb.1 hi;omega
theorem Gw (d:Zg) (n:Nat):(W7 d n).1.Nodup:=by
 refine(Cl d n).nodup_iff.2 ?_;unfold List.Nodup;rw[KV];exact KR.imp λh e=>h U
structure Sz (l:List VL):Prop where
 lo:1<=l.length
 hi:l.length<=6
 each:∀g∈l,UK g.name=false/\1<=g.YT/\g.YT<=63
 Ck:l.Pairwise λa b=>Vw b.name a.name=false
 apart:l.Pairwise λa b=>a.YT≠b.YT
theorem Lh {l:List Int} (h:∀x∈l,x=0):Xg l=0:=by
 induction l with
 | nil=>rfl
 | cons x l a=>
  have:=h x J;subst this;simp[Xg];exact a λy b=>h y (by simp[b])
theorem Sz.err {l:List VL} (h:Sz l):Wq l=0:=by
 unfold Wq;have g:=h.lo;have k:=h.hi;rw[if_neg U,if_neg U];refine Lh λx c=>?_;obtain⟨i,hi,rfl⟩:=Zd.1 c;have hi:=Wb.1 hi;unfold Vu;rw[ε hi];obtain⟨d,Φ,m⟩:=h.each _ (Y2 hi);simp only;rw[if_neg (by rw[d];simp),if_neg,if_neg U,if_neg]
 .intro e;obtain⟨y,f,b⟩:=PB.1 e;obtain⟨j,n,rfl⟩:=NX.1 f;have:=Tr.1 h.apart j i U hi U;simp at b;exact this b
 .rintro⟨o,a⟩;rw[ε U] at a;have:=Tr.1 h.Ck (i-1) i U hi U;simp only[Option.map_some,Option.getD_some] at a;rw[a] at this;cases this
def Te (i:Nat):ByteArray:=⟨#[[97,98,99,100,111,122].getD i 0]⟩
def Vo:List Int:=[4,9,6,12,48,8,3,16,5,10,20]
def UJ (a:List Int) (b:Int) (i:Nat):VL:=⟨Te i,(Vo++[b]).getD ((a.getD i 0).toNat) 0⟩
structure Made (a:List Int):Prop where
 len:a.length=11
 mem:∀x∈a,0<=x/\x<11
 nodup:a.Nodup
theorem tu (d:Zg):Made (W7 d 11).1:=⟨IJ d 11,λ_ h=>Gx h,Gw d 11⟩
theorem Made.get {a:List Int} (h:Made a) {i:Nat} (hi:i<11):∃k:Nat,k<11/\a[i]?=some (k:Int)/\∀c,(Vo++[c])[k]?=some (Vo.getD k 0)/\1<=Vo.getD k 0/\Vo.getD k 0<=63:=by
 have d:=h.len
 have e:=h.mem _ (Y2 (l:=a) (n:=i) U);refine⟨(a[i]).toNat,U,by rw[ε U];congr 1;omega,λc=>?_⟩;have b:(a[i]).toNat<11:=U;generalize (a[i]).toNat=k at b;rw[Y0 (by simpa[Vo] using b)];have:∀k<11,Vo[k]?=some (Vo.getD k 0)/\1<=Vo.getD k 0/\Vo.getD k 0<=63:=Z0;exact this k b
theorem tt:∀a<11,∀b<11,Vo.getD a 0=Vo.getD b 0->a=b:=Z0
theorem ts:∀i<6,UK (Te i)=false:=by decide +kernel
theorem tr:∀j<6,∀i<j,Vw (Te j) (Te i)=false:=by decide +kernel
theorem IH {a:List Int} (h:Made a) (b:Int) {i:Nat} (hi:i<11):∃k:Nat,k<11/\a[i]?=some (k:Int)/\(UJ a b i).YT=Vo.getD k 0/\1<=Vo.getD k 0/\Vo.getD k 0<=63:=by
 obtain⟨k,d,c,e⟩:=h.get hi;obtain⟨f,g,j⟩:=e b;refine⟨k,d,c,?_,g,j⟩;unfold UJ;rw[show a.getD i 0=(k:Int) from by rw[XJ,c];rfl,Int.toNat_natCast];show(Vo++[b]).getD k 0=_;rw[XJ,f];rfl
theorem tq {d:List Int} (h:Made d) (c:Int) {i j:Nat} (hi:i<11) (f:j<11) (e:(UJ d c i).YT=(UJ d c j).YT):i=j:=by
 obtain⟨a,g,k,l,_⟩:=IH h c hi;obtain⟨b,m,n,o,_⟩:=IH h c f;rw[l,o] at e;have:=tt a g b m e;subst this;have p:=h.len;exact(List.getElem?_inj U h.nodup).1 (k.trans n.symm)
theorem tp {m:List Int} (h:Made m) (l:Int) {d:List Nat} (n:d.Pairwise (· < ·)) (f:∀j∈d,j<6) (p:1<=d.length) (r:d.length<=6):Sz (d.map (UJ m l)):=by
 refine⟨by simpa using p,by simpa using r,λg s=>?_,?_,?_⟩
 .obtain⟨j,t,rfl⟩:=Zd.1 s;have:=f j t;obtain⟨k,_,_,e,u,Φ⟩:=IH h l (i:=j) U;exact⟨ts j this,U,U⟩
 .rw[KV];refine(K8.2 λ{a b} c=>?_);have o:=(K8.1 n) c;exact tr b (f b (c.subset J)) a o
 .rw[KV];refine(K8.2 λ{a b} c=>λe=>?_);have o:=(K8.1 n) c;have v:=f a (c.subset J);have w:=f b (c.subset J);have:=tq h l U U e;omega
theorem Sz.set {l:List VL} (h:Sz l) {k:Nat} (y:k<l.length) {x:Int} (t:1<=x) (u:x<=63) (o:∀g∈l,g.YT≠x):Sz (l.set k ⟨l[k].name,x⟩):=by
 have get:∀(i:Nat) (hi:i<(l.set k ⟨l[k].name,x⟩).length),(l.set k ⟨l[k].name,x⟩)[i].name=(l[i]'(by simpa using hi)).name/\((l.set k ⟨l[k].name,x⟩)[i].YT=x/\i=k\/(l.set k ⟨l[k].name,x⟩)[i].YT=(l[i]'(by simpa using hi)).YT/\i≠k):=by
  intro i hi;rw[List.getElem_set];split
  .rename_i e;subst e;exact⟨rfl,.inl ⟨rfl,rfl⟩⟩
  .rename_i e;exact⟨rfl,.inr ⟨rfl,λh=>e h.symm⟩⟩
 refine⟨by simpa using h.lo,by simpa using h.hi,λg v=>?_,?_,?_⟩
 .obtain⟨i,hi,rfl⟩:=To v;obtain⟨f,Φ⟩:=get i hi;obtain⟨a,b,c⟩:=h.each _ (Y2 (l:=l) (n:=i) (by simpa using hi));rw[f];rcases Φ with⟨Φ,_⟩|⟨Φ,_⟩<;>rw[Φ]
  .exact⟨a,t,u⟩
  .exact⟨a,b,c⟩
 .rw[Tr];intro i j hi d m;rw[(get i hi).1,(get j d).1];exact Tr.1 h.Ck i j (by simpa using hi) (by simpa using d) m
 .rw[Tr];intro i j hi d m;have p:i<l.length:=by simpa using hi
  have r:j<l.length:=by simpa using d
  rcases(get i hi).2 with⟨f,Φ⟩|⟨f,Φ⟩<;>rcases(get j d).2 with⟨s,w⟩|⟨s,w⟩<;>rw[f,s]
  .omega
  .exact λe=>o _ (Y2 r) e.symm
  .exact λe=>o _ (Y2 p) e
  .exact Tr.1 h.apart i j p r m
def Rk (g:FuncId) (args:ξ) (d:Zg) (c:I->Prop):Prop:=Μ prog g (.Ο 0 1 0 0::args) [ZK d] (λa s=>∃r b,Zi a r/\c r/\s=[ZK b]/\b.Z3.length<=d.Z3.length) (λ_ _=>False)
theorem Rk.c {g:FuncId} {args f:ξ} {d:Zg} {i:I->Prop} {σ:Ρ} {K E:I->Ρ->Prop} (h:Rk g args d i) (id:Nat) (n:σ[id]?=some (ZK d)) (o:ZT f args) (l:∀a∈f,ψ 0 a) (m:∀r,i r->ψ 0 r) (p:∀r b,i r->b.Z3.length<=d.Z3.length->K r (σ.set id (ZK b))):W5 prog (.fn (.func g) [] []) (.Ο id 1 0 0::f) σ K E:=by
 refine Μ.Hu (as0:=.Ο 0 1 0 0::f) (K0:=λa s=>∃b,i a/\s=[ZK b]/\b.Z3.length<=d.Z3.length) (Μ.UD h (.cons (.refl _) o) λa s ⟨r,b,e,j,k,t⟩=>⟨r,e,b,j,k,t⟩) id n (R1 d) ?_ ?_ ?_
 .intro a hm;rcases Zm.1 hm with rfl|hm
  .exact Nat.zero_lt_one
  .exact(l a hm).WA 1
 .rw[XC,Cy l];rfl
 .rintro a s ⟨b,e,j,k⟩;exact⟨ZK b,j,R1 b,(m a e).WA 1,by rw[(m a e).Yk];exact p a b e k⟩
section
variable {P:Program} {m nt:Nat} {k:List Item} {env:Δ} {Z:XZ} {E:Yf}
theorem W.Cj {d:Zg} {t kk n:Nat} {l:ξ} {x:Nat} (f:m<=1) (g:l.length=n) (h:∀e∈l,∀a∈e.cells,ψ 0 a) (hd:Z7 env x=.ms 1 n 0 n) (i:W P m nt k [(x,.sl false kk l)] [ZK d] Z E):W P m nt k env [ZK d,.cells t kk l] Z E:=
 W.cut 1 f [(x,.sl false kk l)] J (λid r s b=>by
  have:id=0:=U;subst this;simp at b;subst b;exact Tz d 1) (λp c=>by
  simp at c;subst c;show Yz 1 _ (Z7 env x) _;rw[hd];exact .own (t:=t) (Z1 _) rfl g (λe j a o=>(h e j a o).mono (Ε _))) (by simpa using i)
end
theorem Ty {l:List VL}:∀e∈l.map X9,∀a∈e.cells,ψ 0 a:=λe c a b=>by
 obtain⟨x,_,rfl⟩:=Zd.1 c;simp[I.cells] at b;rcases b with rfl|rfl<;>exact .z _
def ML:List ByteArray:=[⟨#[97]⟩,⟨#[98]⟩,⟨#[99]⟩,⟨#[100]⟩,⟨#[111]⟩,⟨#[122]⟩]
theorem tn:∀i<6,ML[i]?=some (Te i):=Z0
structure Ci where
 i:Nat
 d:Zg
 XV:List Nat
theorem tm (d:Zg) (hd:d.Z3.length<2 ^ 63) (H:Nat) (bn:1<=H) (bo:H<=6):Rk 128 [R H] d (λr=>∃l,r=Z6 l/\Sz l/\l.length<=H):=by
 unfold Rk;refine Μ.body Υ func128 rfl rfl ntmps128 rfl rfl J ?_;refine Χ ?_;obtain⟨aD,l1⟩:=MM d (a:=1) (b:=63) Z0 Z0 Z0;obtain⟨m,aE⟩:=Zl (S6 d 1 63);obtain⟨d1,aF⟩:=Zl (d.after (i64.wrap (63-1)));have a7:d1.Z3.length<=d.Z3.length:=by rw[<-aF];exact Xc _ _
 have aG:=MP d hd 1 63;rw[aE,aF] at aG;rw[aE] at aD l1;refine ZP λag I=>?_;refine Y3.g (aG) (ZY ?_);apply I
 repeat apply Ξ
 have aH:=Gz d1 U 11 Z0
 have Z:=tu d1
 have aI:=X1 (IK d1 11) a7;obtain⟨v,aJ⟩:=Zl ((W7 d1 11).1);obtain⟨d2,aK⟩:=Zl ((W7 d1 11).2);rw[aJ] at Z;rw[aJ,aK] at aH;rw[aK] at aI;refine ZP λag I=>?_;refine Y3.g (aH) (ZY ?_);apply I;refine Χ ?_;obtain⟨a8,a9⟩:=MM d2 (a:=1) (b:=H) U Z0 U;obtain⟨n,aL⟩:∃n:Nat,S6 d2 1 H=n:=⟨(S6 d2 1 H).toNat,U⟩;rw[aL] at a8 a9;obtain⟨d3,aM⟩:=Zl (d2.after (i64.wrap ((H:Int)-1)));have a':d3.Z3.length<=d.Z3.length:=by rw[<-aM];exact X1 (Xc _ _) aI
 have aN:=MP d2 U 1 H;rw[aL,aM] at aN;refine ZP λag I=>?_;refine Y3.g (aN) (ZY ?_);apply I;refine Χ ?_;have u:ML.length=6:=rfl;have ah:(Vo++[m]).length=12:=by simp[Vo]
 obtain⟨N,ai⟩:=Ι (Vo++[m]);rw[<-ai] at ah;have ba:∀f:List Nat,(f.map (UJ v m)).length=f.length:=λf=>Yp _;refine W.iter (λx:Ci=>x.i<=6/\x.d.Z3.length<=d.Z3.length/\x.XV.Pairwise (· < ·)/\(∀j∈x.XV,j<x.i)/\x.XV.length<=n/\n+x.i<=6+x.XV.length)
  (λx=>[(0,.Ο 0 1 0 0),(5,.sl true 1 (ML.map TV)),(6,.sl true 1 (N.map R)),(7,ζ R 1 v),(8,Z4 1 ((x.XV.map (UJ v m)).map X9)),(9,R n),(10,R x.i)])
  (λx=>ZK x.d::μ 77 2 ((x.XV.map (UJ v m)).map X9)) (λx=>6-x.i) ⟨0,d3,[]⟩ ⟨J,a',J,J,J,by simp;omega⟩ rfl (by rw[ai];intro p aO;simp only[Zm,YM,or_false] at aO;rcases aO with rfl|rfl|rfl|rfl|rfl|rfl|rfl<;>rfl) (λx au aj=>?_)
 obtain⟨i,B,f⟩:=x;obtain⟨bb,av,ak,aa,aP,bc⟩:=au;simp only at bb av ak aa aP bc aj ⊢;obtain⟨G,S⟩:=Ι (f.map (UJ v m));have o:G.length=f.length:=by rw[S];exact ba f
 rw[<-S];have T:(Z4 1 (G.map X9)=.sl true 0 []/\μ 77 2 (G.map X9)=[]/\f.length=0)\/(Z4 1 (G.map X9)=.ms 1 f.length 0 f.length/\μ 77 2 (G.map X9)=[.cells 77 2 (G.map X9)]/\0<f.length):=by
  by_cases V:G=[]
  .subst V;exact .inl ⟨rfl,rfl,by simpa using o.symm⟩
  .have aQ:G.map X9≠[]:=by simpa using V
   refine .inr ⟨by rw[X8 aQ,Yp,o],YY aQ,?_⟩;have:=RR.2 V;omega
 repeat apply Ξ
 refine W.Yn (A:=[]) Υ [(35,ZU (decide (i<6)&&decide (f.length<n))),(0,.Ο 0 1 0 0),(5,.sl true 1 (ML.map TV)),(6,.sl true 1 (N.map R)),(7,ζ R 1 v),(8,Z4 1 (G.map X9)),(9,R n),(10,R i)] (ZK B::μ 77 2 (G.map X9)) ?_ (by
  by_cases hi:i<6
  .have al:(i:Int)<6:=U
   rcases T with⟨s,Φ,t⟩|⟨s,Φ,t⟩
   .rw[s,Φ];(try simp);(repeat (rw[Ν];simp[al,u,t,hi]));(try simp[al,u,t,hi])
   .rw[s,Φ];(try simp);(repeat (rw[Ν];simp[al,u,o,hi]));(try simp[al,u,o,hi])
  .have hi:i=6:=U
   subst hi;rcases T with⟨s,Φ,t⟩|⟨s,Φ,t⟩
   .rw[s,Φ];(try simp);(repeat (rw[Ν];simp[u]));(try simp[u])
   .rw[s,Φ];(try simp);(repeat (rw[Ν];simp[u]));(try simp[u]))
 refine W.YN rfl (λM=>?_) (λM=>?_)
 .simp only[VT,decide_eq_true_eq] at M;obtain⟨hi,aR⟩:=M;have E:i64.wrap (6-(i:Int))=6-i:=i64_in _ U;have D:i64.wrap ((n:Int)-f.length)=n-f.length:=i64_in _ U;have K:i64.wrap ((i:Int)+1)=((i+1:Nat):Int):=by rw[i64_in _ U];omega
  repeat apply Ξ
  have aw:B.Z3.length<2 ^ 63:=U
  have X:=GB B aw 3 Z0 Z0;obtain⟨ax,ay⟩:=Zl (N4 B 3);obtain⟨ab,ad⟩:=Zl (B.after (3-1));have bd:ab.Z3.length<=d.Z3.length:=by rw[<-ad];exact X1 (Xc _ _) av
  rw[ay,ad] at X;obtain⟨w,L⟩:∃x,x=if(n:Int)-f.length<6-i then ab else B:=⟨_,rfl⟩
  have ae:w.Z3.length<=d.Z3.length:=by rw[L];split<;>assumption
  refine W.Yn (A:=[]) Υ [(50,ZU (decide ((n:Int)-f.length<6-i)&&ax)),(0,.Ο 0 1 0 0),(5,.sl true 1 (ML.map TV)),(6,.sl true 1 (N.map R)),(7,ζ R 1 v),(8,Z4 1 (G.map X9)),(9,R n),(10,R i)] (ZK w::μ 77 2 (G.map X9)) ?_ (by
   by_cases C:(n:Int)-f.length<6-i
   .rw[if_pos C] at L;rw[L];rcases T with⟨s,Φ,t⟩|⟨s,Φ,t⟩
    .rw[s,Φ];rw[t] at C D;simp only[Int.natCast_zero,Int.sub_zero] at C D;(try simp);(repeat (rw[Ν];simp[u,E,D,C,t]));(try simp[u,E,D,C,t]);refine Y3.c (X) 0 rfl (ZT.refl _) J J ?_;simp;(repeat (rw[Ν];simp));(try simp)
    .rw[s,Φ];(try simp);(repeat (rw[Ν];simp[u,E,D,C,o]));(try simp[u,E,D,C,o]);refine Y3.c (X) 0 rfl (ZT.refl _) J J ?_;simp;(repeat (rw[Ν];simp));(try simp)
   .rw[if_neg C] at L;rw[L];rcases T with⟨s,Φ,t⟩|⟨s,Φ,t⟩
    .rw[s,Φ];rw[t] at C D;simp only[Int.natCast_zero,Int.sub_zero] at C D;(try simp);(repeat (rw[Ν];simp[u,E,D,C,t]));(try simp[u,E,D,C,t])
    .rw[s,Φ];(try simp);(repeat (rw[Ν];simp[u,E,D,C,o]));(try simp[u,E,D,C,o]))
  refine W.YN rfl (λY=>?_) (λY=>?_)
  .simp only[VT,decide_eq_true_eq] at Y;refine W.exit rfl ?_;refine Ζ K ?_;refine W.to (aj ⟨i+1,w,f⟩ ⟨by show i+1<=6;omega,ae,ak,λj F=>by have:=aa j F;show j<i+1;omega,aP,by show n+(i+1)<=6+f.length;omega⟩ (by show 6-(i+1)<6-i;omega)) (by rw[S]) ?_;rw[<-S];simp[K]
  .have am:n+i+1<=6+f.length+1:=U
   obtain⟨k,az,af,O⟩:=Z.get (i:=i) U;obtain⟨O,_,_⟩:=O m;have an:UJ v m i=⟨Te i,Vo.getD k 0⟩:=by
    obtain⟨be,_,aS,e,_⟩:=IH Z m (i:=i) U;rw[af] at aS;have bf:be=k:=by have:=W3 aS;omega
    subst bf;show(⟨Te i,(UJ v m i).YT⟩:VL)=_;rw[e]
   obtain⟨st,aT⟩:=Zl (Vo.getD k 0);rw[aT] at an;rw[aT,<-ai] at O;have ao:=tn i hi;have aU:∀h,ML[i]'h=Te i:=λh=>by rw[ε h] at ao;exact W3 ao
   have aV:∀h,v[i]'h=(k:Int):=λh=>by rw[ε h] at af;exact W3 af
   have aW:∀h,N[k]'h=st:=λh=>by rw[ε h] at O;exact W3 O
   have aX:=Z.len
   have ap:(G++[UJ v m i])=(f++[i]).map (UJ v m):=by rw[S];simp
   repeat apply Ξ
   have aq:(G++[UJ v m i]).map X9≠[]:=J
   have aY:(⟨i+1,w,f++[i]⟩:Ci).i<=6/\w.Z3.length<=d.Z3.length/\(f++[i]).Pairwise (· < ·)/\(∀j∈f++[i],j<i+1)/\(f++[i]).length<=n/\n+(i+1)<=6+(f++[i]).length:=by
    refine⟨hi,ae,?_,?_,?_,?_⟩
    .rw[NR];exact⟨ak,J,λa bg b aZ=>by simp at aZ;subst aZ;exact aa a bg⟩
    .intro j F;rcases WK.1 F with F|F
     .have:=aa j F;omega
     .simp at F;omega
    .simp;omega
    .simp;omega
   rcases T with⟨s,Φ,t⟩|⟨s,Φ,t⟩
   .rw[s,Φ];refine W.draw (A:=[65]) Υ mixed λag I=>Ve (Τ u (Τ ah (Τ aX (Τ ao (Τ aU (Τ af (Τ aV (Τ O aW)))))))) ?_;refine⟨U,U,U,?_⟩;refine YF (I _ _ ?_);refine Ζ K ?_;have V:G=[]:=YP.1 U;refine W.to (aj ⟨i+1,w,f++[i]⟩ aY (by show 6-(i+1)<6-i;omega)) ?_ ?_
    .have e:μ 77 2 (((f++[i]).map (UJ v m)).map X9)=[.cells 77 2 [X9 ⟨Te i,st⟩]]:=by rw[<-ap,YY aq,V,an];rfl
     simp only[e]
    .have e:Z4 1 (((f++[i]).map (UJ v m)).map X9)=.ms 1 1 0 1:=by rw[<-ap,X8 aq,V,an];rfl
     simp only[e];simp[K]
   .rw[s,Φ];refine W.draw (A:=[65]) Υ mixed λag I=>Ve (Τ u (Τ ah (Τ aX (Τ ao (Τ aU (Τ af (Τ aV (Τ O (Τ aW o))))))))) ?_;refine⟨U,U,U,U,?_⟩;refine YF (I _ _ ?_);refine Ζ K ?_;refine W.to (aj ⟨i+1,w,f++[i]⟩ aY (by show 6-(i+1)<6-i;omega)) ?_ ?_
    .have e:μ 77 2 (((f++[i]).map (UJ v m)).map X9)=[.cells 77 2 (G.map X9++[X9 ⟨Te i,st⟩])]:=by rw[<-ap,YY aq,Yd,an];rfl
     simp only[e]
    .have e:Z4 1 (((f++[i]).map (UJ v m)).map X9)=.ms 1 (f.length+1) 0 (f.length+1):=by rw[<-ap,X8 aq,Yp,Wc,o];rfl
     simp only[e];simp[K]
 .have aR:f.length=n:=by
   simp only[Bool.and_eq_false_iff,decide_eq_false_iff_not] at M;omega
  refine W.exit rfl ?_;rcases T with⟨s,Φ,t⟩|⟨s,Φ,t⟩
  .omega
  rw[aR] at s o;have a0:Sz G:=by rw[S];exact tp Z m ak (λj F=>by have:=aa j F;omega) U U
  have aA:N[11]?=some m:=by rw[ai];rfl
  have bh:∀h,N[11]'h=m:=λh=>by rw[ε h] at aA;exact W3 aA
  refine W.to (env':=[(0,.Ο 0 1 0 0),(6,.sl true 1 (N.map R)),(8,.ms 1 n 0 n),(9,R n)]) (σ':=[ZK B,.cells 77 2 (G.map X9)]) ?_ (by rw[Φ]) (by rw[s];simp);have bi:i64.wrap 11=11:=Z0;refine Ζ (Τ ah (Τ aA (Τ bh bi))) ?_;refine W.iter (λx:Nat×Bool=>x.1<=n/\(x.2=true->∀g∈G.take x.1,g.YT≠m)) (λx=>[(0,.Ο 0 1 0 0),(8,.ms 1 n 0 n),(11,R m),(12,ZU x.2),(13,R x.1)]) (λ_=>[ZK B,.cells 77 2 (G.map X9)]) (λx=>n-x.1) (0,true) ⟨Ε _,J⟩ rfl J (λx au a1=>?_);obtain⟨j,π⟩:=x;obtain⟨F,am⟩:=au;simp only at F am a1 ⊢;refine Ζ o ?_;refine W.YN rfl (λM=>?_) (λM=>?_)
  .have a2:j<n:=by simpa using M
   have aB:G[j]?=some (G[j]'U):=ε U;obtain⟨g,P⟩:=Ι (G[j]'U);rw[<-P] at aB;have a3:∀h,G[j]'h=g:=λh=>P.symm;have K:i64.wrap ((j:Int)+1)=((j+1:Nat):Int):=by rw[i64_in _ U];omega
   have bj:G.take (j+1)=G.take j++[g]:=by rw[Wx U,P]
   repeat apply Ξ
   refine W.Yn (A:=[]) Υ [(0,.Ο 0 1 0 0),(8,.ms 1 n 0 n),(11,R m),(12,ZU (π&&decide (g.YT≠m))),(13,R j)] [ZK B,.cells 77 2 (G.map X9)] ?_ (by
    cases π
    ·(try simp);(repeat (rw[Ν];simp[o]));(try simp[o])
    ·(try simp);(repeat (rw[Ν];simp[o,aB,a3]));(try simp[o,aB,a3]);omega)
   refine Ζ K ?_;refine W.to (a1 (j+1,π&&decide (g.YT≠m)) ⟨a2,λh=>?_⟩ (by show n-(j+1)<n-j;omega)) rfl (by simp[K]);simp only[VT,decide_eq_true_eq] at h;intro y Q;rw[bj] at Q;rcases WK.1 Q with Q|Q
   .exact am h.1 y Q
   .simp at Q;subst Q;exact h.2
  .have a2:j=n:=by simp at M;omega
   have bk:π=true->∀g∈G,g.YT≠m:=λh=>by
    have:=am h
    rwa [VB U] at this
   refine W.exit rfl ?_;have aw:B.Z3.length<2 ^ 63:=U;have X:=GB B aw 3 Z0 Z0;obtain⟨ax,ay⟩:=Zl (N4 B 3);obtain⟨ab,ad⟩:=Zl (B.after (3-1));have bd:ab.Z3.length<=d.Z3.length:=by rw[<-ad];exact X1 (Xc _ _) av
   rw[ay,ad] at X;obtain⟨w,L⟩:=Ι (if π then ab else B);have ae:w.Z3.length<=d.Z3.length:=by rw[L];split<;>assumption
   repeat apply Ξ
   refine W.Yn (A:=[]) Υ [(92,ZU (π&&ax)),(0,.Ο 0 1 0 0),(8,.ms 1 n 0 n),(11,R m)] [ZK w,.cells 77 2 (G.map X9)] ?_ (by
    cases π
    .rw[L];(try simp);(repeat (rw[Ν];simp[o]));(try simp[o])
    .rw[L];(try simp);(repeat (rw[Ν];simp[o]));(try simp[o]);refine Y3.c (X) 0 rfl (ZT.refl _) J J ?_;simp;(repeat (rw[Ν];simp));(try simp))
   refine W.YN rfl (λY=>?_) (λY=>?_)
   .simp only[VT] at Y;have E:i64.wrap ((n:Int)-1)=n-1:=i64_in _ U;have a4:=U9 w U ((n:Int)-1);obtain⟨t0,t1⟩:=S5 w ((n:Int)-1) U U;obtain⟨k,az⟩:∃k:Nat,XD w ((n:Int)-1)=k:=⟨(XD w ((n:Int)-1)).toNat,U⟩;obtain⟨aC,a5⟩:=Zl (w.after ((n:Int)-1));have bl:aC.Z3.length<=d.Z3.length:=by rw[<-a5];exact X1 (Xc _ _) ae
    rw[az,a5] at a4;rw[az] at t1;have ar:k<G.length:=U;have a6:G[k]?=some (G[k]'ar):=ε ar;obtain⟨g,P⟩:=Ι (G[k]'ar);rw[<-P] at a6;have bm:∀h,G[k]'h=g:=λh=>P.symm
    repeat apply Ξ
    refine W.Yn (A:=[]) Υ [(8,.ms 1 n 0 n)] [ZK aC,.cells 77 2 ((G.set k ⟨g.name,m⟩).map X9)] ?_ (by
     (try simp);(repeat (rw[Ν];simp[o,E]));(try simp[o,E]);refine Y3.g (a4) (XF (Τ a6 (Τ bm o)) ?_)
     first|omega|(refine⟨U,?_⟩;simp[Mv]))
    refine Χ ?_;rw[<-Mv];refine W.Cj (x:=4) (n:=n) (l:=(G.set k ⟨g.name,m⟩).map X9) (Z1 _) (by rw[Yp];simp[o]) Ty ?_ ?_
    .simp
    exact W.ret ⟨_,rfl,_,aC,.refl _,⟨_,rfl,by rw[P];exact a0.set ar aD l1 (bk Y.1),by rw[Sr];omega⟩,rfl,bl⟩
   .refine Χ ?_;refine W.Cj (x:=4) (n:=n) (l:=G.map X9) (Z1 _) (by rw[Yp];simp[o]) Ty ?_ ?_
    .simp
    exact W.ret ⟨_,rfl,_,w,.refl _,⟨_,rfl,a0,U⟩,rfl,ae⟩
end Go.TL
namespace Go.TL
open Go.IntWalk (i64_in)
open Go.IntKind (i64 u64)
open Go.Proofs.Tryz
open Go.Conc
variable [ZN]
inductive Rj (id k:Nat) (l:ξ):I->I->Prop where
 | same (a:I):Rj id k l a a
 | ms:Rj id k l (.ms id l.length 0 l.length) (.sl false k l)
 | Ο {e:I}:l=[e]->Rj id k l (.Ο id 1 0 0) (.ω e.cells)
def N2 (id k:Nat) (l:ξ) (r r':Row):Prop:=r'=r\/∃t n es es',r=.cells t n es/\r'=.cells t n es'/\es'.length=es.length/\
 ∀(i:Nat) (e b:I),es[i]?=some e->es'[i]?=some b->b.cells.length=e.cells.length/\∀(x:Nat) (a c:I),e.cells[x]?=some a->b.cells[x]?=some c->Rj id k l a c
section
variable {P:Program} {S:ο} {B:Z8} {H:Ψ} {σ σ':Ρ} {m nt id k:Nat} {t:TypeId} {l:ξ} {kk:List Item} {env:Δ} {Z:XZ} {E:Yf}
def ο.set (S:ο) (B:Z8) (H:Ψ) (id:Nat):ο:=λb o=>match B[id]? with
 | some (some (a,_))=>if b=a then(H.κ b o).map (·.1) else S b o
 | _=>S b o
theorem Ch {b N:Nat} (a:B[id]?=some (some (b,N))) (o:Nat):S.set B H id b o=(H.κ b o).map (·.1):=by
 unfold ο.set;rw[a];simp
theorem Cg (a:Holds S B σ H) (c:σ[id]?=some (.cells t k l)):∀b o v,S b o=some v->S.set B H id b o=some v:=λb o v hv=>by
 unfold ο.set;split
 .rename_i f N d;split
  .rename_i e;subst e;rw[a.sep id _ b N c trivial d o] at hv;cases hv
  .exact hv
 .exact hv
theorem Zw.RY (c:Holds S B σ H) (b:σ[id]?=some (.cells t k l)) (d:σ'[id]?=some .dead) (f:∀j r,j≠id->σ[j]?=some r->∃r',σ'[j]?=some r'/\N2 id k l r r'):Zw S (S.set B H id) B B σ σ':=
 ⟨Cg c b,λj r a=>by
  by_cases e:j=id
  .subst e;rw[b] at a;cases a;exact⟨.dead,d,.inr λn _=>trivial⟩
  .obtain⟨r',g,h⟩:=f j r e a;refine⟨r',g,?_⟩;rcases h with rfl|⟨t,n,es,es',rfl,rfl,i,_⟩
   .exact Row.Ql _ _
   .exact .inl ⟨es',rfl,i,rfl⟩⟩
theorem ς.Cf (s:Holds S B σ H) (g:σ[id]?=some (.cells t k l)) (o:Zw S (S.set B H id) B B σ σ') {a u:I} (C:Rj id k l a u) {v:Value} (p:ς S B σ a v):ς (S.set B H id) B σ' u v:=by
 cases C with
 | same=>exact p.later o
 | ms=>
  cases p with
  | ms cap d h i F D r=>
   rw[g] at d;cases d;by_cases y:l=[]
   .subst y;exact .Wj _ _ J
   .have K:0<l.length:=RR.2 y;rcases r with r|⟨b,N,rfl,rfl,r⟩
    .omega
    .obtain⟨_,_,_,w,m⟩:=s.row id _ _ g i;rw[Pz];refine .sl b 0 cap (λj x=>w j x) J D (λj e n=>(m j e n).1) (λj e n x c f=>?_) (λj e n x c f=>?_)
     .have:=((m j e n).2 x c f).1;rw[Ch i,Vl,this];rfl
     .exact(((m j e n).2 x c f).2.1).later o
  | Vx v d h=>rw[g] at d;cases d;simp only[Row.WQ] at h;omega
 | @Ο e E=>
  subst E;cases p with
  | Ο d h i=>
   rw[g] at d;cases d;obtain⟨_,_,_,w,m⟩:=s.row id _ _ g i;have A:=m 0 e rfl;refine .ω _ _ (λx=>w 0 x) (λx a f=>?_) (λx a f=>?_)
   .have:=(A.2 x a f).1;rw[Ch i,Nat.add_zero,this];rfl
   .exact((A.2 x a f).2.1).later o
  | Vi v d h=>rw[g] at d;cases d;simp[Row.WQ] at h
theorem W.RY (a7:m<=id) (f:σ[id]?=some (.cells t k l)) (aa:σ'.length=σ.length) (F:σ'[id]?=some .dead) (ab:∀j r,j≠id->σ[j]?=some r->∃r',σ'[j]?=some r'/\N2 id k l r r') (env':Δ) (aC:∀p∈env',Rj id k l (Z7 env p.1) p.2)
  (aD:W P m nt kk env' σ' Z E):W P m nt kk env σ Z E:=by
 intro aE mn x cs b S B H ZW I K L aF aG;have c:=L.holds;have M:=Zw.RY c f F ab;have back:∀j r',j≠id->σ'[j]?=some r'->∃r,σ[j]?=some r/\N2 id k l r r':=λj r' O h=>by
  have s:j<σ.length:=by rw[<-aa];exact(Zu.1 h).1
  obtain⟨an,Q,ad⟩:=ab j _ O (ε s);rw[h] at Q;cases Q;exact⟨_,ε s,ad⟩
 have R:∀{r r':Row},N2 id k l r r'->r'.live->r.live:=λ{r r'} h hv=>by
  rcases h with rfl|⟨_,_,_,_,rfl,rfl,_⟩
  .exact hv
  .trivial
 have aH:Holds (S.set B H id) B σ' H:=by
  refine⟨λb o v h=>?_,by rw[aa];exact c.len,λj r bo d aI=>?_,λi j ao ap b aJ aK aL hi O aq ar aM aN=>?_,λj r b N d ae K o=>?_⟩
  .unfold ο.set at h;split at h
   .split at h
    .cases au:H.κ b o with
     | none=>rw[au] at h;cases h
     | some x=>rw[au] at h;cases h;exact⟨x.2,rfl⟩
    .exact c.YL b o v h
   .exact c.YL b o v h
  .by_cases e:j=id
   .subst e;rw[F] at d;cases d;trivial
   .obtain⟨aO,Q,ad⟩:=back j r e d;have T:=c.row j aO bo Q aI;rcases ad with rfl|⟨t2,n,es,es',rfl,rfl,af,aP⟩
    .refine T.later M (λb N _=>⟨λ_=>rfl,rfl,rfl⟩) λav left a8 Φ=>?_;subst Φ;obtain⟨_,_,a9,a',xs,ba,seen,_,aw,⟨es,g⟩,_⟩:=T;refine⟨?_,rfl,λb N _=>⟨λ_=>rfl,rfl,rfl⟩⟩;have U:av≠id:=λe=>by subst e;rw[f] at g;cases g
     obtain⟨r',aQ,aR⟩:=ab av _ U g;rcases aR with rfl|⟨_,_,_,_,aS,_⟩
     .rw[aQ,g]
     .cases aS
    .cases bo with
     | none=>
      have:es=[]:=T;subst this;exact YP.1 af
     | some y=>
      obtain⟨b,N⟩:=y;obtain⟨u,A,C,w,D⟩:=T;refine⟨u,by rw[af];exact A,C,w,λi aT hi=>?_⟩;have s:i<es.length:=by rw[<-af];exact(Zu.1 hi).1
      obtain⟨aU,aV⟩:=D i _ (ε s);obtain⟨d1,d2⟩:=aP i _ aT (ε s) hi;refine⟨d1.trans aU,λx aW I=>?_⟩;have ax:x<(es[i]).cells.length:=by rw[<-d1];exact(Zu.1 I).1
      obtain⟨aw,g,aX⟩:=aV x _ (ε ax);exact⟨aw,g.Cf c f M (d2 x _ aW (ε ax) I),aX⟩
  .have ay:∀j r,σ'[j]?=some r->r.live->j≠id:=λj r h hv e=>by subst e;rw[F] at h;cases h;exact hv
   obtain⟨V,X,Y⟩:=back i ao (ay i ao hi aq) hi;obtain⟨an,aY,aZ⟩:=back j ap (ay j ap O ar) O;exact c.inj i j V an b aJ aK aL X aY (R Y aq) (R aZ ar) aM aN
  .have U:j≠id:=λe=>by subst e;rw[F] at d;cases d;exact ae
   obtain⟨V,X,Y⟩:=back j r U d;have az:=c.sep j V b N X (R Y ae) K o;unfold ο.set;split
   .rename_i a0 a1 ag;split
    .rename_i e;subst e;exact(c.inj j id V _ b N a1 U X f (R Y ae) trivial K ag).elim
    .exact az
   .exact az
 have a2:Ext S B H (S.set B H id) B H:=by
  refine⟨Cg c f,λ_ _ _=>Tc.of ⟨λ_=>rfl,rfl,rfl⟩,λ_ h=>.inl h,λb o v hv=>?_,λ_ h=>h⟩;unfold ο.set at hv;split at hv
  .rename_i a0 N ag;split at hv
   .rename_i e;subst e;exact .inr (.inl ⟨N,Zf ag⟩)
   .exact .inl hv
  .exact .inl hv
 have aA:X5 m S B H σ (S.set B H id) B H σ':=⟨a2,M.left m⟩
 have a3:∀(l2:Δ),(∀p∈l2,Rj id k l (Z7 env p.1) p.2)->∀i,ς S B σ (Z7 env i) (ZW.getD i undef)->ς (S.set B H id) B σ' (Z7 l2 i) (ZW.getD i undef):=by
  intro l2
  induction l2 with
  | nil=>intro _ i _;exact .Zk _
  | cons p l2 a4=>
   intro aB i d;simp only[Z7];split
   .rename_i e;subst e;exact d.Cf c f M (aB p J)
   .exact a4 (λq a5=>aB q (by simp[a5])) i d
 refine aD aE mn x cs b _ _ H ZW I K ⟨aH,λi=>a3 env' aC i (L.Zn i),L.size,by rw[aa];exact L.rows⟩ (λj ah ai aj ak al t2 am u A C D=>?_) (λa ah ai aj ak al t2 am v u A C D a6=>?_)
 .exact aF j ah ai aj ak al t2 am u (aA.trans A) C D
 .exact aG a ah ai aj ak al t2 am v u (aA.trans A) C D a6
end
end Go.TL
namespace Go.TL
open Go.IntWalk (i64_in)
open Go.IntKind (i64 u64)
open Go.Proofs.Tryz
open Go.Proofs
variable [ZN]
theorem tl (d:Zg) (n:Nat):(Wd d n).1.Pairwise (· < ·)/\∀x∈(Wd d n).1,0<=x/\x<n:=by
 induction n with
 | zero=>exact⟨List.Pairwise.nil,λx h=>(by cases h)⟩
 | succ n e=>
  show((Wd d n).1++_).Pairwise _/\∀x∈(Wd d n).1++_,_;constructor
  .rw[NR];refine⟨e.1,by split<;>simp,λa g b f=>?_⟩;have:=e.2 a g;split at f
   .simp at f;omega
   .simp at f
  .intro x c;rcases WK.1 c with c|c
   .have:=e.2 x c;omega
   .split at c
    .simp at c;omega
    .simp at c
structure OX (L:List (List Int)):Prop where
 lo:1<=L.length
 hi:L.length<=4
 each:∀l∈L,l.length<=3/\l.Pairwise (· < ·)/\∀x∈l,0<=x/\x<3
theorem tk {l:List Int} (b:l.Pairwise (· < ·)) (c:∀x∈l,0<=x/\x<3):RA l=0:=by
 refine Lh λx d=>?_;obtain⟨i,hi,rfl⟩:=Zd.1 d;have hi:=Wb.1 hi;unfold Ta;rw[ε hi];have e:=c _ (Y2 hi);simp only;rw[if_neg,if_neg]
 .rintro⟨f,a⟩;rw[ε U] at a;have:=Tr.1 b (i-1) i U hi U;simp only[Option.getD_some] at a;omega
 .unfold Vd;simp;omega
theorem OX.err {L:List (List Int)} (h:OX L):Wp L=0:=by
 unfold Wp;have d:=h.lo;have e:=h.hi;rw[if_neg U,if_neg U];refine Lh λx a=>?_;obtain⟨i,hi,rfl⟩:=Zd.1 a;have hi:=Wb.1 hi;rw[ε hi];obtain⟨_,b,c⟩:=h.each _ (Y2 hi);exact tk b c
abbrev γ:I:=.sl true 0 []
structure tj where
 k:Nat
 d:Zg
 L:List (List Int)
theorem RX {L:List (List Int)}:∀e∈L.map (ζ R 1),∀a∈e.cells,ψ 0 a:=λe c a b=>by
 obtain⟨x,_,rfl⟩:=Zd.1 c;simp[I.cells] at b;subst b;simp[Y6,I.cells]
theorem ti (d:Zg) (hd:d.Z3.length<2 ^ 63) (N v:Nat) (az:1<=N) (aA:N<=6) (aT:v<=4) :
  Μ prog 90 [.Ο 0 1 0 0,R N,R v] [ZK d] (λa s=>∃G L nc ah,Zi a (.Z' [Z6 G,θ L,Z4 4 (List.replicate nc γ)])/\Sz G/\OX L/\(nc<=v/\G.length<=N/\L.length<=3)/\s=ZK ah::.dead::.dead::.dead::μ 60 1 (List.replicate nc γ)/\ah.Z3.length<=d.Z3.length) (λ_ _=>False):=by
 refine Μ.body Υ func90 rfl rfl ntmps90 rfl rfl J ?_
 repeat apply Ξ
 refine Zj (A:=[6]) Υ λF m=>ZY ?_;apply m
 repeat apply Ξ
 refine Zj (A:=[7]) Υ λF m=>ZY ?_;refine Rk.c (tm d hd N az aA) 0 rfl (ZT.refl _) J (by rintro r ⟨l,rfl,_⟩;exact Y6.2 Ty) ?_;rintro r d1 ⟨G,rfl,aB,aC⟩ aD;simp;(repeat (rw[Ν];simp));apply m;have aE:d1.Z3.length<2 ^ 63:=U;obtain⟨aF,aG⟩:=MM d1 (a:=1) (b:=3) Z0 Z0 Z0;obtain⟨S,ai⟩:∃n:Nat,S6 d1 1 3=n:=⟨(S6 d1 1 3).toNat,U⟩;rw[ai] at aF aG;obtain⟨d2,aj⟩:=Zl (d1.after (i64.wrap (3-1)));have aH:d2.Z3.length<=d.Z3.length:=by rw[<-aj];exact X1 (Xc _ _) aD
 have O:=MP d1 aE 1 3;rw[ai,aj] at O;refine ZP λF m=>?_;refine Y3.g (O) (ZY ?_);apply m;have Z:∀L:List (List Int),(Z4 3 (L.map (ζ R 1))=.sl true 0 []/\μ 29 1 (L.map (ζ R 1))=[]/\L=[])\/(Z4 3 (L.map (ζ R 1))=.ms 3 L.length 0 L.length/\μ 29 1 (L.map (ζ R 1))=[.cells 29 1 (L.map (ζ R 1))]/\0<L.length):=λL=>by
  by_cases t:L=[]
  .subst t;exact .inl ⟨rfl,rfl,rfl⟩
  .have ak:L.map (ζ R 1)≠[]:=by simpa using t
   exact .inr ⟨by rw[X8 ak,Yp],YY ak,RR.2 t⟩
 repeat apply Ξ
 refine W.iter (λx:tj=>x.L.length+x.k=S/\x.d.Z3.length<=d.Z3.length/\∀l∈x.L,l.length<=3/\l.Pairwise (· < ·)/\∀y∈l,0<=y/\y<3)
  (λx=>[(0,.Ο 0 1 0 0),(2,R v),(6,.Ο 1 1 0 0),(7,.Ο 2 1 0 0),(8,R x.k)])
  (λx=>ZK x.d::ZI γ γ γ::ZI (Z6 G) (Z4 3 (x.L.map (ζ R 1))) γ::μ 29 1 (x.L.map (ζ R 1))) (λx=>x.k) ⟨S,d2,[]⟩ ⟨J,aH,J⟩ rfl J (λx w B=>?_)
 obtain⟨k,o,L⟩:=x;obtain⟨aI,al,aa⟩:=w;simp only at aI al aa B ⊢;refine Χ ?_;refine W.YN rfl (λD=>?_) (λD=>?_)
 .have T:0<k:=by simpa using D
  obtain⟨j,H⟩:∃j,k=j+1:=⟨k-1,U⟩;have P:i64.wrap ((k:Int)-1)=j:=by rw[i64_in _ U];omega
  have hi:=tN o U
  have ab:=tl o 3
  have am:=Cv o 3
  have aJ:=Cw o 3;obtain⟨l,an⟩:=Zl ((Wd o 3).1);obtain⟨ad,ao⟩:=Zl ((Wd o 3).2);rw[an,ao] at hi;rw[an] at ab am;rw[ao] at aJ;have ap:(L++[l]).length+j=S/\ad.Z3.length<=d.Z3.length/\∀x∈L++[l],x.length<=3/\x.Pairwise (· < ·)/\∀y∈x,0<=y/\y<3:=by
   refine⟨by simp;omega,U,λx w=>?_⟩;rcases WK.1 w with w|w
   .exact aa x w
   .simp at w;subst w;exact⟨am,ab.1,ab.2⟩
  have aq:(L++[l]).map (ζ R 1)≠[]:=J
  repeat apply Ξ
  rcases Z L with⟨u,Φ,Q⟩|⟨u,Φ,Q⟩
  .rw[u,Φ];refine W.GC (A:=[25]) Υ mixed λF m=>?_;simp;(repeat (rw[VD];simp));(try rw[VE]);refine Y3.h (hi) (QB ?_);refine⟨Yt (by kernel_rfl),Yt (by kernel_rfl),m _ _ ?_⟩;refine Ζ P ?_;subst Q;refine W.to (B ⟨j,ad,[]++[l]⟩ ap (by show j<k;omega)) ?_ ?_
   .have e:Z4 3 (([]++[l]).map (ζ R 1))=.ms 3 1 0 1:=rfl
    have V:μ 29 1 (([]++[l]).map (ζ R 1))=[.cells 29 1 [ζ R 1 l]]:=rfl;simp only[e,V]
   .simp
  .rw[u,Φ];refine W.GC (A:=[25]) Υ mixed λF m=>?_;simp;(repeat (rw[VD];simp));(try rw[VE]);refine Y3.h (hi) (QB ?_);refine⟨U,?_⟩;refine⟨Yt (by kernel_rfl),Yt (by kernel_rfl),m _ _ ?_⟩;refine Ζ P ?_;refine W.to (B ⟨j,ad,L++[l]⟩ ap (by show j<k;omega)) ?_ ?_
   .have e:Z4 3 ((L++[l]).map (ζ R 1))=.ms 3 (L.length+1) 0 (L.length+1):=by rw[X8 aq,Yp,Wc];rfl
    have V:μ 29 1 ((L++[l]).map (ζ R 1))=[.cells 29 1 (L.map (ζ R 1)++[ζ R 1 l])]:=by rw[YY aq,Yd];rfl
    simp only[e,V]
   .simp
 .have T:k=0:=by simp at D;omega
  subst T;have aK:L.length=S:=U;have aL:OX L:=⟨U,U,aa⟩;rcases Z L with⟨u,Φ,Q⟩|⟨u,Φ,Q⟩
  .subst Q;simp at aK;omega
  refine W.to (env':=[(0,.Ο 0 1 0 0),(2,R v),(6,.Ο 1 1 0 0),(7,.Ο 2 1 0 0)]) (σ':=[ZK o,ZI γ γ γ,ZI (Z6 G) (.ms 3 L.length 0 L.length) γ,.cells 29 1 (L.map (ζ R 1))]) ?_ (by rw[u,Φ]) J;clear B D Z u Φ;refine W.exit rfl ?_;have aM:o.Z3.length<2 ^ 63:=U;obtain⟨aN,aO⟩:=MM o (a:=0) (b:=v) U Z0 U;obtain⟨nc,ar⟩:∃n:Nat,S6 o 0 v=n:=⟨(S6 o 0 v).toNat,U⟩;rw[ar] at aN aO;obtain⟨d3,au⟩:=Zl (o.after (i64.wrap ((v:Int)-0)));have aP:d3.Z3.length<=d.Z3.length:=by rw[<-au];exact X1 (Xc _ _) al
  have O:=MP o aM 0 v;rw[ar,au] at O;refine ZP λF m=>?_;refine Y3.g (O) (ZY ?_);apply m
  repeat apply Ξ
  refine W.iter (λx:Nat×Nat=>x.1+x.2=nc)
   (λx=>[(0,.Ο 0 1 0 0),(6,.Ο 1 1 0 0),(7,.Ο 2 1 0 0),(9,R x.1)])
   (λx=>ZK d3::ZI γ γ γ::ZI (Z6 G) (.ms 3 L.length 0 L.length) (Z4 4 (List.replicate x.2 γ))::.cells 29 1 (L.map (ζ R 1))::μ 60 1 (List.replicate x.2 γ)) (λx=>x.1) (nc,0) J rfl J (λx w B=>?_)
  obtain⟨k,c⟩:=x;simp only at w B ⊢;refine Χ ?_;refine W.YN rfl (λD=>?_) (λD=>?_)
  .have T:0<k:=by simpa using D
   obtain⟨j,H⟩:∃j,k=j+1:=⟨k-1,U⟩;have P:i64.wrap ((k:Int)-1)=j:=by rw[i64_in _ U];omega
   have av:Z4 4 (List.replicate (c+1) γ)=.ms 4 (c+1) 0 (c+1):=by rw[X8 J,PG]
   have aw:μ 60 1 (List.replicate (c+1) γ)=[.cells 60 1 (List.replicate c γ++[γ])]:=by rw[YY J,List.replicate_succ']
   repeat apply Ξ
   by_cases t:c=0
   .subst t;have ae:Z4 4 (List.replicate 0 γ)=γ:=rfl;have af:μ 60 1 (List.replicate 0 γ)=[]:=rfl;rw[ae,af];refine Zj (A:=[37]) Υ λF m=>ZY ?_;apply m;refine Ζ P ?_;refine W.to (B (j,1) (by show j+1=nc;omega) (by show j<k;omega)) ?_ ?_
    .simp only[av,aw];rfl
    .simp
   .have ae:Z4 4 (List.replicate c γ)=.ms 4 c 0 c:=by rw[X8 (by simp[t]),PG]
    have af:μ 60 1 (List.replicate c γ)=[.cells 60 1 (List.replicate c γ)]:=YY (by simp[t]);rw[ae,af];refine Zj (A:=[37]) Υ λF m=>ZY ?_;refine⟨U,?_⟩;apply m;refine Ζ P ?_;refine W.to (B (j,c+1) (by show j+(c+1)=nc;omega) (by show j<k;omega)) ?_ ?_
    .simp only[av,aw]
    .simp
  .have T:k=0:=by simp at D;omega
   have aQ:c=nc:=U;subst aQ;refine W.exit rfl ?_;obtain⟨C,X⟩:=Ι (Z4 4 (List.replicate c γ));obtain⟨RC,Y⟩:=Ι (μ 60 1 (List.replicate c γ));rw[<-X,<-Y];have aR:(C=γ/\RC=[])\/(C=.ms 4 c 0 c/\RC=[.cells 60 1 (List.replicate c γ)]):=by
    by_cases t:c=0
    .subst t;exact .inl ⟨X,Y⟩
    .exact .inr ⟨by rw[X,X8 (by simp[t]),PG],by rw[Y,YY (by simp[t])]⟩
   repeat apply Ξ
   refine W.Yn (A:=[]) Υ [(6,.Ο 1 1 0 0)] (ZK d3::ZI (Z6 G) (.ms 3 L.length 0 L.length) C::ZI (Z6 G) (.ms 3 L.length 0 L.length) C::.cells 29 1 (L.map (ζ R 1))::RC) ?_ (by
    rcases aR with⟨u,Φ⟩|⟨u,Φ⟩
    .rw[u,Φ];(try simp);(repeat (rw[Ν];simp));(try simp)
    .rw[u,Φ];(try simp);(repeat (rw[Ν];simp));(try simp))
   have aS:Rj 3 1 (L.map (ζ R 1)) (.ms 3 L.length 0 L.length) (θ L):=by
    have:=Rj.ms (id:=3) (k:=1) (l:=L.map (ζ R 1))
    rwa [Yp] at this
   have ax:N2 3 1 (L.map (ζ R 1)) (ZI (Z6 G) (.ms 3 L.length 0 L.length) C) (ZI (Z6 G) (θ L) C):=by
    refine .inr ⟨26,3,_,_,rfl,rfl,rfl,λi e V ag ay=>?_⟩
    match i with
    | 0=>
     simp at ag ay;subst ag;subst ay;refine⟨rfl,λx a aU K M=>?_⟩
     match x with
     | 0=>simp[I.cells] at K M;subst K;subst M;exact .same _
     | 1=>simp[I.cells] at K M;subst K;subst M;exact aS
     | 2=>simp[I.cells] at K M;subst K;subst M;exact .same _
     | x+3=>simp[I.cells] at K
    | i+1=>simp at ag
   refine W.RY (σ':=ZK d3::ZI (Z6 G) (θ L) C::ZI (Z6 G) (θ L) C::.dead::RC) (id:=3) J rfl rfl rfl (λj r H f=>?_) [(6,.Ο 1 1 0 0)] (λp E=>by simp at E;subst E;exact .same _) ?_
   .match j,H,f with
    | 0,_,f=>simp at f;subst f;exact⟨_,rfl,.inl rfl⟩
    | 1,_,f=>simp at f;subst f;exact⟨_,rfl,ax⟩
    | 2,_,f=>simp at f;subst f;exact⟨_,rfl,ax⟩
    | 3,h,_=>exact absurd rfl h
    | j+4,_,f=>exact⟨r,f,.inl rfl⟩
   refine W.RY (σ':=ZK d3::ZI (Z6 G) (θ L) C::.dead::.dead::RC) (id:=2) J rfl rfl rfl (λj r H f=>?_) [(6,.Ο 1 1 0 0)] (λp E=>by simp at E;subst E;exact .same _) ?_
   .match j,H,f with
    | 0,_,f=>exact⟨r,f,.inl rfl⟩
    | 1,_,f=>exact⟨r,f,.inl rfl⟩
    | 2,h,_=>exact absurd rfl h
    | j+3,_,f=>exact⟨r,f,.inl rfl⟩
   refine W.RY (σ':=ZK d3::.dead::.dead::.dead::RC) (id:=1) J rfl rfl rfl (λj r H f=>?_) [(6,.ω [Z6 G,θ L,C])] (λp E=>by simp at E;subst E;exact .Ο (e:=.Z' [Z6 G,θ L,C]) rfl) ?_
   .match j,H,f with
    | 0,_,f=>exact⟨r,f,.inl rfl⟩
    | 1,h,_=>exact absurd rfl h
    | j+2,_,f=>exact⟨r,f,.inl rfl⟩
   refine W.ret ⟨_,rfl,?_⟩;refine⟨G,L,c,d3,?_,aB,aL,⟨U,aC,U⟩,by rw[Y],aP⟩;rw[<-X];exact .refl _
theorem th:∀a<64,∀b<64,0<=XY .i64 (a:Nat) (b:Nat)/\XY .i64 (a:Nat) (b:Nat)<=63/\0<=U2 .i64 (a:Nat) (b:Nat)/\U2 .i64 (a:Nat) (b:Nat)<=63/\XY .i64 (b:Nat) (U2 .i64 (a:Nat) (b:Nat))=0:=by decide +kernel
theorem MK {a b:Int} (h:0<=a/\a<=63) (i:0<=b/\b<=63):(0<=XY .i64 a b/\XY .i64 a b<=63)/\(0<=U2 .i64 a b/\U2 .i64 a b<=63)/\XY .i64 b (U2 .i64 a b)=0:=by
 obtain⟨x,rfl⟩:∃x:Nat,a=x:=⟨a.toNat,U⟩;obtain⟨y,rfl⟩:∃y:Nat,b=y:=⟨b.toNat,U⟩;obtain⟨c,d,e,f,g⟩:=th x U y U;exact⟨⟨c,d⟩,⟨e,f⟩,g⟩
structure QA (n:Nat) (c:List ZF):Prop where
 hi:c.length<=4
 apart:(c.map (·.Zs)).Nodup
 each:∀p∈c,(0<=p.Zs/\p.Zs<n)/\(0<=p.seen/\p.seen<=63)/\(0<=p.bare/\p.bare<=63)/\WB p.seen p.bare=0
theorem tg:∀(n:Nat) (l:List Int),l.Nodup->(∀x∈l,0<=x/\x<n)->l.length<=n:=by
 intro n
 induction n with
 | zero=>
  intro l _ h;cases l with
  | nil=>simp
  | cons x l=>have:=h x J;omega
 | succ n c=>
  intro l hd h;have b:=c (l.erase n) (hd.erase _) λx a=>by
   have a:=hd.mem_erase_iff.1 a
   have:=h x a.2;omega
  rw[List.length_erase] at b;split at b<;>omega
structure WV (s:υ):Prop where
 Α:Sz s.Α
 Β:OX s.Β
 many:s.cells.length<=4
 cells:∀c∈s.cells,QA s.Β.length c
theorem QA.err {s:υ} {c:List ZF} (h:QA s.Β.length c):VJ s c=0:=by
 unfold VJ;have:=h.hi;rw[if_neg U];refine Lh λx b=>?_;obtain⟨i,hi,rfl⟩:=Zd.1 b;have hi:=Wb.1 hi;rw[ε hi];obtain⟨g,k,l,d⟩:=h.each _ (Y2 hi);simp only;unfold Yy;rw[if_neg U,if_neg,if_neg (by unfold valid;simp;omega),if_pos d];intro e;obtain⟨y,f,a⟩:=PB.1 e;obtain⟨j,m,rfl⟩:=NX.1 f;have hd:=Tr.1 h.apart j i (by simp;omega) (by simpa using hi) U;simp at a hd;exact hd a
theorem WV.err {s:υ} (h:WV s):s.err=0:=by
 unfold υ.err;rw[h.Α.err,h.Β.err,if_neg J,if_neg J];unfold TP;have:=h.many;rw[if_neg U];refine Lh λx a=>?_;obtain⟨i,hi,rfl⟩:=Zd.1 a;have hi:=Wb.1 hi;rw[ε hi];exact(h.cells _ (Y2 hi)).err
theorem WV.small {s:υ} (h:WV s):s.small:=by
 have b:=h.Α.hi
 have c:=h.Β.hi
 have d:=h.many;refine⟨U,U,U,λx a=>?_,λx a=>?_⟩
 .have:=(h.Β.each x a).1;omega
 .have:=(h.cells x a).hi;omega
theorem Ce (d:Zg) (hd:d.Z3.length<2 ^ 63) (g k:Nat) (o:1<=g) (p:g<=6) (t:k<=4) {σ:Ρ} {K E:I->Ρ->Prop} (u:σ[0]?=some (ZK d))
  (v:∀G L nc b,Sz G->OX L->nc<=k/\G.length<=g/\L.length<=3->b.Z3.length<=d.Z3.length->K (.Z' [Z6 G,θ L,Z4 (σ.length+3) (List.replicate nc γ)]) (σ.set 0 (ZK b)++(.dead::.dead::.dead::μ 60 1 (List.replicate nc γ)))) :
  W5 prog (.fn (.func 90) [] []) [.Ο 0 1 0 0,R g,R k] σ K E:=by
 have w:∀nc,∀r∈μ 60 1 (List.replicate nc γ),LQ r:=λnc r c=>by
  unfold μ at c;split at c
  .cases c
  .simp at c;subst c;refine .inl λe x a f=>?_;have:=Is x;subst this;simp[I.cells] at f;subst f;simp[Y6]
 have m:=Μ.UD (ti d hd g k o p t) (ZT.refl _) (K':=λa s=>∃G L nc b,a=.Z' [Z6 G,θ L,Z4 4 (List.replicate nc γ)]/\Sz G/\OX L/\(nc<=k/\G.length<=g/\L.length<=3)/\s=ZK b::.dead::.dead::.dead::μ 60 1 (List.replicate nc γ)/\b.Z3.length<=d.Z3.length) (λa s ⟨G,L,nc,b,m,y⟩=>⟨_,m,G,L,nc,b,rfl,y⟩)
 have A:=Μ.EA (σ:=σ) m [0] J rfl (λj i n=>by
  cases j with
  | zero=>simp at n;subst n;exact u
  | succ j=>simp at n) (λr c=>by simp at c;subst c;exact R1 d) (by
   intro a f;simp at f;rcases f with rfl|rfl|rfl
   .exact Nat.zero_lt_one
   .exact(ψ.z _).WA 1
   .exact(ψ.z _).WA 1) (K':=K) (E':=E) (λa s=>by
   rintro⟨G,L,nc,b,rfl,B,C,D,rfl,F⟩;refine⟨λr c=>?_,?_,?_⟩
   .simp only[Zm] at c;rcases c with rfl|rfl|rfl|rfl|c
    .exact .inl (R1 b)
    .exact .inr rfl
    .exact .inr rfl
    .exact .inr rfl
    .exact w nc r c
   .intro a f;simp only[Zm,YM,or_false] at f;rcases f with rfl|rfl|rfl
    .exact ψ.top (Y6.2 Ty) _
    .exact ψ.top (Y6.2 RX) _
    .unfold Z4 μ;split
     .exact ψ.top J _
     .show 4<_;simp
   .have H:P6 σ [0] (ZK b::.dead::.dead::.dead::μ 60 1 (List.replicate nc γ))=σ.set 0 (ZK b)++(.dead::.dead::.dead::μ 60 1 (List.replicate nc γ)):=by
     simp[P6,VM]
    have Φ:Yk (names [0] σ.length (ZK b::.dead::.dead::.dead::μ 60 1 (List.replicate nc γ))) (.Z' [Z6 G,θ L,Z4 4 (List.replicate nc γ)])=.Z' [Z6 G,θ L,Z4 (σ.length+3) (List.replicate nc γ)]:=by
     by_cases l:nc=0
     .subst l;rfl
     .rw[X8 (by simp[l]),X8 (by simp[l]),YY (by simp[l])];show I.Z' [_,_,_]=_;simp[Wf,names,VA]
    rw[H,Φ];exact v G L nc b B C D F) (λa s h=>h.elim)
 exact Μ.call (first:=[]) (captured:=[]) (by simpa[TQ,Yk,Wf] using A)
section
variable {P:Program} {m nt:Nat} {k:List Item} {env:Δ} {σ:Ρ} {Z:XZ} {E:Yf}
theorem W.bind {n:XZ} (h:W P m nt k env σ n E) (w:∀j e s,n j e s->W P m nt j e s Z E):W P m nt k env σ Z E:=
 λo mn x cs b S B H t p r y A u=>h o mn x cs b S B H t p r y
  (λj e s C B' H' t' M D v F I=>by
   cases I;exact w j e s D o mn x cs b C B' H' t' p r F (λJ Φ a c d f t2 g i l=>A J Φ a c d f t2 g i (v.trans l)) (λl Φ a c d f t2 g K i L=>u l Φ a c d f t2 g K i (v.trans L)))
  u
theorem W.upto {a:Item} (env':Δ) (σ':Ρ) (b:W P m nt (a::k) env σ (λj e s=>j=k/\s=σ'/\∀p∈env',Z7 e p.1=p.2) E) (c:W P m nt k env' σ' Z E):W P m nt (a::k) env σ Z E:=
 .bind b λj e s ⟨d,f,g⟩=>by
  subst d;subst f;exact .forget env' g c
theorem W.Cd {a:Item} {l:Nat} (env':Δ) (σ':Ρ) (b:W P m nt (a::.inBlock l::k) env σ (λj e s=>j=k/\s=σ'/\∀p∈env',Z7 e p.1=p.2) E) (c:W P m nt k env' σ' Z E):W P m nt (a::.inBlock l::k) env σ Z E:=
 .bind b λj e s ⟨d,f,g⟩=>by
  subst d;subst f;exact .forget env' g c
end
section
variable {α:Type} [Inhabited α]
theorem Lg (enc:α->I) (d:Array α) {i:Nat} (h:i<d.size):(d.toList.map enc)[i]?=some (enc d[i]!):=by
 rw[Yh,Wl,P3 h];rfl
theorem PN (enc:α->I) {d:Array α} {n:Nat} (b:d.size=n) {i j:Nat} (hi:i<n) (a:j<n):∃(L:ξ) (x y:α),d.toList.map enc=L/\d[i]! = x/\d[j]! = y/\L.length=n/\(L[i]?=some (enc x)/\∀h,L[i]'h=enc x)/\(L[j]?=some (enc y)/\∀h,L[j]'h=enc y)/\(Go.Sort.swp d i j).toList.map enc=(L.set i (enc y)).set j (enc x)/\∃z,∀h,(L.set i (enc y))[j]'h=enc z:=by
 subst b;refine⟨_,_,_,rfl,rfl,rfl,J,⟨Lg enc d hi,λh=>?_⟩,⟨Lg enc d a,λh=>?_⟩,by simp[Go.Sort.swp],if i=j then d[j]! else d[j]!,λh=>?_⟩
 .have:=Lg enc d hi;rw[ε h] at this;exact W3 this
 .have:=Lg enc d a;rw[ε h] at this;exact W3 this
 .rw[List.getElem_set,ite_self];split
  .rfl
  .have:=Lg enc d a;rw[ε (by simpa using h)] at this;exact W3 this
theorem W.two {P:Program} {m nt:Nat} {k:List Item} {env:Δ} {Z:XZ} {E:Yf} (enc:α->I) {d:Array α} {n:Nat} (c:d.size=n) {i j:Nat} (hi:i<n) (a:j<n) {t:TypeId} {kk:Nat}
  (h:∀(L:ξ) (x y z:α),d[i]! = x->d[j]! = y->(L.length=n/\(L[i]?=some (enc x)/\∀h,L[i]'h=enc x)/\(L[j]?=some (enc y)/\∀h,L[j]'h=enc y)/\(∀h,(L.set i (enc y))[j]'h=enc z)/\i<n/\j<n)->d.toList.map enc=L->(Go.Sort.swp d i j).toList.map enc=(L.set i (enc y)).set j (enc x)->W P m nt k env [.cells t kk L] Z E):W P m nt k env [.cells t kk (d.toList.map enc)] Z E:=by
 obtain⟨L,x,y,b,e,f,g,l,o,p,z,r⟩:=PN enc c hi a;rw[b];exact h L x y z e f ⟨g,l,o,r,hi,a⟩ b p
theorem Gv {p:α->Bool} {d:Array α} {b i a:Nat} (h:Go.Sort.scanUp p d b i=a) (c:i<=b) (e:p d[i]! = true):Go.Sort.scanUp p d b (i+1)=a:=by
 rw[Go.Sort.scanUp] at h;simpa[c,e] using h
theorem Gu {p:α->Bool} {d:Array α} {b i a:Nat} (h:Go.Sort.scanUp p d b i=a) (c:i<=b) (e:p d[i]! = false):i=a:=by
 rw[Go.Sort.scanUp] at h;simpa[c,e] using h
theorem Gt {p:α->Bool} {d:Array α} {b i a:Nat} (h:Go.Sort.scanUp p d b i=a) (c:¬i<=b):i=a:=by
 rw[Go.Sort.scanUp] at h;simpa[c] using h
theorem Gs {p:α->Bool} {d:Array α} {b i a:Nat} (h:Go.Sort.scanDown p d b i=a) (c:b<=i) (f:0<i) (e:p d[i]! = true):Go.Sort.scanDown p d b (i-1)=a:=by
 obtain⟨q,rfl⟩:∃q,i=q+1:=⟨i-1,U⟩;rw[Go.Sort.scanDown] at h;simpa[c,e] using h
theorem Gr {p:α->Bool} {d:Array α} {b i a:Nat} (h:Go.Sort.scanDown p d b i=a) (c:b<=i) (f:0<i) (e:p d[i]! = false):i=a:=by
 obtain⟨q,rfl⟩:∃q,i=q+1:=⟨i-1,U⟩;rw[Go.Sort.scanDown] at h;simpa[c,e] using h
theorem W.back {P:Program} {m nt:Nat} {k:List Item} {env:Δ} {Z:XZ} {E:Yf} {enc:α->I} {d:Array α} {L:ξ} {t:TypeId} {kk:Nat} (h:d.toList.map enc=L) (env':Δ) (a:∀p∈env',Z7 env p.1=p.2)
  (b:W P m nt k env' [.cells t kk (d.toList.map enc)] Z E):W P m nt k env [.cells t kk L] Z E:=h▸W.forget env' a b
theorem W.tf {P:Program} {m nt:Nat} {k:List Item} {env:Δ} {Z:XZ} {E:Yf} {enc:α->I} {d:Array α} {t:TypeId} {kk:Nat} {a:Item} (env':Δ) (b:Array α)
  (c:W P m nt (a::k) env [.cells t kk (d.toList.map enc)] (λj e s=>j=k/\s=[.cells t kk (b.toList.map enc)]/\∀p∈env',Z7 e p.1=p.2) E) (f:W P m nt k env' [.cells t kk (b.toList.map enc)] Z E):W P m nt (a::k) env [.cells t kk (d.toList.map enc)] Z E:=W.upto env' _ c f
theorem W.N1 {P:Program} {m nt:Nat} {k:List Item} {env:Δ} {Z:XZ} {E:Yf} {enc:α->I} {d:Array α} {t:TypeId} {kk:Nat} {τ:Ρ} {a:Item} (env':Δ) (b:Array α) (c:Ρ)
  (f:W P m nt (a::k) env (.cells t kk (d.toList.map enc)::τ) (λj e s=>j=k/\s=.cells t kk (b.toList.map enc)::c/\∀p∈env',Z7 e p.1=p.2) E) (g:W P m nt k env' (.cells t kk (b.toList.map enc)::c) Z E):W P m nt (a::k) env (.cells t kk (d.toList.map enc)::τ) Z E:=W.upto env' _ f g
theorem W.te {P:Program} {m nt:Nat} {k:List Item} {env:Δ} {Z:XZ} {E:Yf} {enc:α->I} {d:Array α} {t:TypeId} {kk:Nat} {τ:Ρ} {a:Item} {l:Nat} (env':Δ) (b:Array α) (c:Ρ)
  (f:W P m nt (a::.inBlock l::k) env (.cells t kk (d.toList.map enc)::τ) (λj e s=>j=k/\s=.cells t kk (b.toList.map enc)::c/\∀p∈env',Z7 e p.1=p.2) E) (g:W P m nt k env' (.cells t kk (b.toList.map enc)::c) Z E):W P m nt (a::.inBlock l::k) env (.cells t kk (d.toList.map enc)::τ) Z E:=W.Cd env' _ f g
theorem W.IG {P:Program} {m nt:Nat} {k:List Item} {env:Δ} {Z:XZ} {E:Yf} {enc:α->I} {d:Array α} {L:ξ} {t:TypeId} {kk:Nat} (h:d.toList.map enc=L) (env':Δ) (a:∀p∈env',Z7 env p.1=p.2)
  (b:W P m nt k env' [.cells t kk L] Z E):W P m nt k env [.cells t kk (d.toList.map enc)] Z E:=h▸W.forget env' a b
theorem W.VH {P:Program} {m nt:Nat} {k:List Item} {env:Δ} {Z:XZ} {E:Yf} {enc:α->I} {d:Array α} {t:TypeId} {kk:Nat} {a:Item} {l:Nat} (env':Δ) (b:Array α)
  (c:W P m nt (a::.inBlock l::k) env [.cells t kk (d.toList.map enc)] (λj e s=>j=k/\s=[.cells t kk (b.toList.map enc)]/\∀p∈env',Z7 e p.1=p.2) E) (f:W P m nt k env' [.cells t kk (b.toList.map enc)] Z E):W P m nt (a::.inBlock l::k) env [.cells t kk (d.toList.map enc)] Z E:=W.Cd env' _ c f
theorem swp_size {d:Array α} {n:Nat} (a:d.size=n) (i j:Nat):(Go.Sort.swp d i j).size=n:=by simp[Go.Sort.swp,a]
theorem Lf (p q:α->Bool) (r:∀x,q x = !p x) (d:Array α) {i j a b:Nat} (u:0<i) (f:i<=j+1) (s:Go.Sort.scanUp p d j i=a) (t:Go.Sort.scanDown q d a j=b):i<=a/\a<=j+1/\b<=j/\a<=b+1/\(a<=b->a<b):=by
 obtain⟨g,c,v,k⟩:=Go.Sort.scanUp_spec p d j _ i rfl;obtain⟨l,m,w,n⟩:=Go.Sort.scanDown_spec q d a j;rw[s] at g c k;rw[t] at l m n;refine⟨g,c f,l,m (c f),λh=>?_⟩;rcases OO a b with o|o
 .exact o
 .have e:a=b:=U
  have f1:=k U
  have f2:=n h U;rw[r,<-e,f1] at f2;cases f2
theorem tc (lt:α->α->Bool) {a b n:Nat}:∀(m i j:Nat) (g:Array α),j+1-i<=m->g.size=n->0<i->i<=j+1->j<b->(Go.Sort.partLoop lt a i j g).2.size=n/\(Go.Sort.partLoop lt a i j g).1<b:=by
 intro m
 induction m with
 | zero=>
  intro i j g s k l o t;rw[Go.Sort.partLoop_eq];obtain⟨c,e⟩:=Zl (Go.Sort.scanUp (λx=>lt x g[a]!) g j i);obtain⟨d,f⟩:=Zl (Go.Sort.scanDown (λx=>!lt x g[a]!) g c j);obtain⟨u,v,w,y,p⟩:=Lf (λx=>lt x g[a]!) (λx=>!lt x g[a]!) (λx=>rfl) g l o e f;rw[e,f,if_pos (by apply Ts;intro h;have:=p U;omega)];exact⟨k,by show d<b;omega⟩
 | succ m A=>
  intro i j g s k l o t;rw[Go.Sort.partLoop_eq];obtain⟨c,e⟩:=Zl (Go.Sort.scanUp (λx=>lt x g[a]!) g j i);obtain⟨d,f⟩:=Zl (Go.Sort.scanDown (λx=>!lt x g[a]!) g c j);obtain⟨u,v,w,y,p⟩:=Lf (λx=>lt x g[a]!) (λx=>!lt x g[a]!) (λx=>rfl) g l o e f;rw[e,f];by_cases r:c > d
  .rw[if_pos r];exact⟨k,by show d<b;omega⟩
  .rw[if_neg r];have:=p U;exact A (c+1) (d-1) _ U (swp_size k c d) U U U
theorem ta (lt:α->α->Bool) (hi first r:Nat) (e:Array α) {c k:Nat} (f:c=2*r+1) (h:c<hi) (a:k=if(decide (c+1<hi)&&lt e[first+c]! e[first+(c+1)]!)=true then c+1 else c) :
  Go.Sort.siftDown lt hi first r e=if(!lt e[first+r]! e[first+k]!)=true then e else Go.Sort.siftDown lt hi first k (Go.Sort.swp e (first+r) (first+k)):=by
 subst f;rw[Go.Sort.siftDown,dif_neg U];have d:first+(2*r+1)+1=first+(2*r+1+1):=U
 have Φ:2*r+2=2*r+1+1:=U;by_cases b:(decide (2*r+1+1<hi)&&lt e[first+(2*r+1)]! e[first+(2*r+1+1)]!)=true
 .rw[if_pos b] at a;subst a;rw[d,Φ,if_pos b];have g:2*r+1+1<hi:=by simp at b;exact b.1
  simp only[dif_pos g]
 .rw[if_neg b] at a;subst a;rw[d,if_neg b]
theorem Gq {lt:α->α->Bool} {hi first n:Nat}:∀{r:Nat} {e:Array α},e.size=n->(Go.Sort.siftDown lt hi first r e).size=n:=by
 have c:∀(m r:Nat) (e:Array α),hi-r<=m->e.size=n->(Go.Sort.siftDown lt hi first r e).size=n:=by
  intro m
  induction m with
  | zero=>
   intro r e d a;rw[Go.Sort.siftDown,dif_pos U];exact a
  | succ m b=>
   intro r e d a;rw[Go.Sort.siftDown];split
   .exact a
   .split
    .split
     .exact a
     .split
      .exact b _ _ U (swp_size a _ _)
      .exact a
    .split
     .exact a
     .exact b _ _ U (swp_size a _ _)
 intro r e a;exact c _ r e (Z1 _) a
theorem Cc {lt:α->α->Bool} {hi first n:Nat}:∀{k:Nat} {e:Array α},e.size=n->(Go.Sort.heapBuild lt hi first k e).size=n
 | 0,_,a=>a
 | k+1,e,a=>by
  show(Go.Sort.heapBuild lt hi first k (Go.Sort.siftDown lt hi first k e)).size=n;exact Cc (Gq a)
theorem MJ (lt:α->α->Bool) (d:Array α) {a b n:Nat} (c:a<n) (e:b<n) (s:Nat):(Go.Sort.order2 lt d a b s).1<n/\(Go.Sort.order2 lt d a b s).2.1<n/\(Go.Sort.order2 lt d a b s).2.2<=s+1:=by
 unfold Go.Sort.order2;split
 .exact⟨e,c,Z1 _⟩
 .exact⟨c,e,Nat.le_succ _⟩
theorem s' (p:α->Bool) (d:Array α) {i j:Nat} (h:j<i):Go.Sort.scanDown p d i j=j:=by
 cases j with
 | zero=>rfl
 | succ j=>rw[Go.Sort.scanDown,if_neg (by simp;omega)]
theorem Gp {p:α->Bool} {d:Array α} {b i a:Nat} (h:Go.Sort.scanDown p d b i=a) (c:¬b<=i):i=a:=by rw[<-h,s' p d U]
end
structure s9 (c:Type) where
 a:Nat
 b:Nat
 lim:Nat
 wb:Bool
 wp:Bool
 e:Array c
def MI {b:Type} [Inhabited b] (a l m:Nat):Nat->Nat->UInt64×Array b->UInt64×Array b
 | 0,_,st=>st
 | k+1,idx,st=>MI a l m k (idx+1) (Go.Sort.breakStep a l m st idx)
theorem s8 {e:Type} [Inhabited e] {d:Array e} {a b l c:Nat} (f:l=b-a) (g:8<=l) (h:c=a+(l / 4)*2):Go.Sort.breakPatterns d a b=(MI a l (1 <<< Go.Sort.bitsLen l) 3 (c-1) (UInt64.ofNat l,d)).2:=by
 subst f;subst h;unfold Go.Sort.breakPatterns;simp only[ge_iff_le,g,if_true];rfl
abbrev Sy (n:Int):I:=.z (.int .u64 n)
def MH:Go.Sort.Hint->Int
 | .unknown=>0
 | .increasing=>1
 | .decreasing=>2
theorem Cb {b:Type} {enc:b->I} {t k:Nat} {d:Array b} {f:Row} (g:∀y,∀a∈(enc y).cells,ψ 0 a) (id:Nat) (r:Row) (j:id<1) (c:[Row.cells t k (d.toList.map enc),f][id]?=some r):Yc 1 r:=by
 obtain rfl:id=0:=U;simp at c;subst c;intro e h a i;obtain⟨y,_,rfl⟩:=Zd.1 h;exact ψ.mono (g y a i) (Ε _)
theorem s7 {l m:Nat} (h:l<2 ^ 62):i64.wrap (Int.tdiv (l:Int) (m:Int))=((l / m:Nat):Int):=by
 rw[It U];have a:l / m<=l:=Nat.div_le_self l m;have b:((l:Int) / (m:Int))=((l / m:Nat):Int):=rfl;rw[b];obtain⟨q,c⟩:=Ι (l / m);rw[<-c] at a ⊢;rw[i64_in _ U]
theorem IF {l m:Nat} (h:l<2 ^ 62):i64.wrap ((l:Int) / (m:Int))=((l / m:Nat):Int):=by
 have:=s7 (m:=m) h;rw[It U] at this;exact this
theorem MG {x:Nat} (h:x<2 ^ 64):u64.wrap (x:Int)=(x:Int):=by
 unfold IntKind.wrap;simp[IntKind.bits,IntKind.signed];omega
theorem Gn {x y:Nat} (a:x<2 ^ 64) (b:y<2 ^ 64):Md .u64 (x:Int) (y:Int)=((x^^^y:Nat):Int):=by
 have h:x^^^y<2 ^ 64:=Nat.xor_lt_two_pow a b
 have e:(BitVec.ofInt 64 (x:Int)^^^BitVec.ofInt 64 (y:Int)).toNat=x^^^y:=by
  rw[BitVec.toNat_xor,BitVec.ofInt_natCast,BitVec.ofInt_natCast,BitVec.toNat_ofNat,BitVec.toNat_ofNat,PC a,PC b]
 show u64.wrap (BitVec.ofInt 64 (x:Int)^^^BitVec.ofInt 64 (y:Int)).toNat=_;rw[e];exact MG h
theorem Gm (x k:Nat) (a:k<=64):u64.wrap ((x:Int)*2 ^ min k u64.bits)=((x*2 ^ k % 18446744073709551616:Nat):Int):=by
 have e:min k u64.bits=k:=Nat.min_eq_left a;rw[e];have Φ:(x:Int)*2 ^ k=((x*2 ^ k:Nat):Int):=J;rw[Φ];obtain⟨y,b⟩:=Ι (x*2 ^ k);rw[<-b];unfold IntKind.wrap;simp[IntKind.bits,IntKind.signed]
theorem s6 (x k:Nat) (a:k<=64):(x:Int).fdiv (2 ^ min k u64.bits)=((x / 2 ^ k:Nat):Int):=by
 have e:min k u64.bits=k:=Nat.min_eq_left a;rw[e,Iu _ (Int.le_of_lt (Int.pow_pos Z0))];simp
theorem s5 {x y:Nat} (a:x<2 ^ 64) (b:y<2 ^ 64):XY .u64 (x:Int) (y:Int)=((x&&&y:Nat):Int):=by
 have h:x&&&y<2 ^ 64:=OR Nat.and_le_left a
 have e:(BitVec.ofInt 64 (x:Int)&&&BitVec.ofInt 64 (y:Int)).toNat=x&&&y:=by
  rw[BitVec.toNat_and,BitVec.ofInt_natCast,BitVec.ofInt_natCast,BitVec.toNat_ofNat,BitVec.toNat_ofNat,PC a,PC b]
 show u64.wrap (BitVec.ofInt 64 (x:Int)&&&BitVec.ofInt 64 (y:Int)).toNat=_;rw[e];exact MG h
theorem Sx {i:Nat} (h:0<i) (a:i<2 ^ 62):i64.wrap ((i:Int)-1)=((i-1:Nat):Int):=by
 rw[i64_in _ U];omega
theorem XP {i:Nat} (a:i<2 ^ 61):i64.wrap ((i:Int)+1)=((i+1:Nat):Int):=by
 rw[i64_in _ U];omega
theorem Le {a b:Nat} (h:a<=b) (c:b<2 ^ 62):i64.wrap ((b:Int)-a)=((b-a:Nat):Int):=by
 rw[i64_in _ U];omega
theorem s4:∀a<64,∀b<64,(U2 .i64 (a:Nat) (b:Nat)=0↔XY .i64 (b:Nat) (a:Nat)=(a:Nat))/\0<=Q3 .i64 (a:Nat) (b:Nat)/\Q3 .i64 (a:Nat) (b:Nat)<=63:=by decide +kernel
theorem IE {a b:Int} (c:0<=a/\a<=63) (d:0<=b/\b<=63):(U2 .i64 a b=0↔XY .i64 b a=a)/\0<=Q3 .i64 a b/\Q3 .i64 a b<=63:=by
 obtain⟨x,rfl⟩:∃x:Nat,a=x:=⟨a.toNat,U⟩;obtain⟨y,rfl⟩:∃y:Nat,b=y:=⟨b.toNat,U⟩;exact s4 x U y U
theorem Gl {s:υ} (h:WV s) {g:Int}:0<=s.of g/\s.of g<=63:=by
 unfold υ.of;split
 .omega
 .cases c:s.Α[g.toNat]? with
  | none=>simp
  | some x=>
   obtain⟨_,a,b⟩:=h.Α.each x (Zf c);simp;omega
theorem Ca {s:υ} (h:WV s) (p r:Int×Int) (n:Nat):0<=s.X4 p r n/\s.X4 p r n<=63:=by
 have a:∀g,0<=UM 0 (s.of g)/\UM 0 (s.of g)<=63:=λg=>(IE (a:=0) U (Gl h)).2
 have z:(0:Int)<=0/\(0:Int)<=63:=U;unfold υ.X4;simp only;split
 .split
  .exact(IE (a r.1) (Gl h)).2
  .exact(IE z (Gl h)).2
 .split
  .exact a r.1
  .exact z
def υ.Gk (s:υ) (p r:Int×Int) (x:ZF):Bool:=decide (WB (s.X4 p r x.Zs.toNat) x.seen=x.seen)&&decide (WB (s.X4 p r x.Zs.toNat) x.bare=0)
theorem s3 {s:υ} (h:WV s) (p r:Int×Int) {c:List ZF} (a:c∈s.cells) {x:ZF} (b:x∈c):s.Gk p r x=s.V3 p r x:=by
 obtain⟨_,d,_,_⟩:=(h.cells c a).each x b;have:=(IE d (Ca h p r x.Zs.toNat)).1;unfold υ.Gk υ.V3;rw[OQ];simp only[VT,decide_eq_true_eq,beq_iff_eq];rw[this]
abbrev Φ (r:Int×Int):I:=ZE [r.1,r.2]
theorem Gj {L:List (Int×Int)}:∀e∈L.map Φ,∀a∈e.cells,ψ 0 a:=λe c a b=>by
 obtain⟨x,_,rfl⟩:=Zd.1 c;simp[I.cells] at b;subst b;simp
theorem B9 (q:Int×Int->Bool) (n i j:Nat):(WM q n i j).length<=i*(n+1)+j:=by
 have h:(VH n i).length=i*(n+1):=by
  induction i with
  | zero=>simp[VH]
  | succ i a=>rw[Ho,Wc,a,Nat.succ_mul];simp[TN]
 unfold WM;refine X1 (K3 _ _) ?_;rw[Wc,h];simp[TN]
abbrev Gi (l:List (List (List Int))):I:=ζ θ 1 l
abbrev Sw (l:List (Int×Int)):List (List Int):=l.map λr=>[r.1,r.2]
structure Tx where
 t:TypeId
 k:Nat
 enc:Int×Int->I
 partition:FuncId
 partitionEqual:FuncId
 siftDown:FuncId
 heapSort:FuncId
 reverseRange:FuncId
 median:FuncId
 medianAdjacent:FuncId
 choosePivot:FuncId
 insertionSort:FuncId
 partialInsertionSort:FuncId
 breakPatterns:FuncId
 order2:FuncId
 s0:FuncId
abbrev WL:Tx:=⟨112,2,Zh,241,240,254,235,238,256,255,237,234,239,236,258,211⟩
abbrev Wm:Tx:=⟨29,1,Uj,190,189,225,184,187,229,228,186,183,188,185,252,149⟩
theorem sZ [ZN] (S:Tx) (m:S=WL\/S=Wm) (d:Array (Int×Int)) (n a b:Nat) (f:d.size=n) (g:a<=b) (h:b<=n) (i:n<2 ^ 40) (c:I) (e:Int×Int->Int×Int->Int) (j:ψ 0 c) (l:∀x y,Xu prog c [S.enc x,S.enc y] (R (e x y))) :
  Μ prog S.insertionSort [.ms 0 n 0 n,R a,R b,c] [.cells S.t S.k (d.toList.map S.enc)] (λr s=>r=.ZV []/\s=[.cells S.t S.k ((Go.Sort.insertionSort (χ e) d a b).toList.map S.enc)]) (λ_ _=>False):=by
 rcases m with rfl|rfl
 .exact Ej d n a b f g h i c e j l
 .exact yo d n a b f g h i c e j l
theorem sY (S:Tx) (au:S=WL\/S=Wm) (d:Array (Int×Int)) (n a b p:Nat) (al:d.size=n) (az:n<2 ^ 40) (aA:a<=p) (aB:p<b) (aC:b<=n) (B:I) (o:Int×Int->Int×Int->Int) (aD:ψ 0 B) (ae:∀x y,Xu prog B [S.enc x,S.enc y] (R (o x y))) :
  Μ prog S.partition [.ms 0 n 0 n,R a,R b,R p,B] [.cells S.t S.k ((d).toList.map S.enc)] (λr s=>r=.ZV [R (Go.Sort.partition (χ o) d a b p).1,ZU (Go.Sort.partition (χ o) d a b p).2.1]/\s=[.cells S.t S.k (((Go.Sort.partition (χ o) d a b p).2.2).toList.map S.enc)]) (λ_ _=>False):=by
 rcases au with rfl|rfl
 all_goals dsimp only[WL,Wm] at *
 refine Μ.body Υ func241 rfl rfl ntmps241 rfl rfl J ?_
 rotate_left
 refine Μ.body Υ func190 rfl rfl ntmps190 rfl rfl J ?_
 all_goals
  have av:=XP (i:=a) U
  have aw:=Sx (i:=b) U U
  repeat apply Ξ
  refine Wr ?_;refine W.two _ al (i:=a) (j:=p) U U λL x y z u v F w H=>?_
  repeat apply Ξ
  refine W.draw (A:=[]) Υ mixed λO D=>?_;simp;(repeat (rw[ZG];simp[F]));try rw[ZH];refine YF (D _ _ ?_)
  refine W.back H [(0,.ms 0 n 0 n),(1,R a),(2,R b),(3,R p),(4,B)] J ?_;clear F H w u v L x y z;obtain⟨e,ah⟩:=Ι (Go.Sort.swp d a p);have Y:e.size=n:=by rw[ah];exact swp_size al a p
  rw[<-ah]
  repeat apply Ξ
  refine P5 (Τ av aw) ?_;refine W.to (σ':=[.cells _ _ ((e).toList.map _)]) (env':=[(0,.ms 0 n 0 n),(1,R a),(4,B),(12,R (a+1:Nat)),(13,R (b-1:Nat))]) ?_ rfl J;obtain⟨c,P⟩:=Zl (Go.Sort.scanUp (λx=>χ o x e[a]!) e (b-1) (a+1));obtain⟨l,Q⟩:=Zl (Go.Sort.scanDown (λx=>!χ o x e[a]!) e c (b-1));obtain⟨am,an,ao,ap,af⟩:=Lf (λx=>χ o x e[a]!) (λx=>!χ o x e[a]!) (λx=>rfl) e U U P Q;have K:Go.Sort.partition (χ o) d a b p=if c > l then(l,true,Go.Sort.swp e l a) else((Go.Sort.partLoop (χ o) a (c+1) (l-1) (Go.Sort.swp e c l)).1,false,Go.Sort.swp (Go.Sort.partLoop (χ o) a (c+1) (l-1) (Go.Sort.swp e c l)).2 (Go.Sort.partLoop (χ o) a (c+1) (l-1) (Go.Sort.swp e c l)).1 a):=by
   unfold Go.Sort.partition;simp only[<-ah,P,Q]
  repeat apply Ξ
  repeat apply Ξ
  refine W.VH [(0,.ms 0 n 0 n),(1,R a),(4,B),(12,R (c:Nat)),(13,R (b-1:Nat))] e ?_ ?_
  .refine W.iter (λi:Nat=>(a+1)<=i/\i<=(b-1)+1/\Go.Sort.scanUp (λx=>χ o x e[a]!) e (b-1) i=c) (λi=>[(0,.ms 0 n 0 n),(1,R a),(4,B),(12,R (i:Nat)),(13,R (b-1:Nat))]) (λ_=>[.cells _ _ ((e).toList.map _)]) (λi=>(b-1)+1-i) ((a+1)) ⟨Z1 _,U,P⟩ rfl J (λi hi N=>?_);obtain⟨Z,aa,E⟩:=hi;by_cases m:i<=(b-1)
   .refine W.two _ Y (i:=i) (j:=a) U U λL x y _ u v F w _=>?_;have M:=XP (i:=i) U
    repeat apply Ξ
    refine W.draw (A:=[]) Υ mixed λO D=>?_;simp;(repeat (rw[ZG];simp[m,F]));try rw[ZH]
    refine Ys (ae x y) ?_;simp;(repeat (rw[ZG];simp));try rw[ZH]
    refine YF (D _ _ ?_);by_cases C:o x y<0
    .refine Γ (by simp[C]) ?_;refine Ζ M ?_;exact W.to (N (i+1) ⟨U,U,Gv E m (by simp[u,v,C,χ])⟩ Yl) (by rw[w]) (by simp[M])
    .refine Η (by simp[C]) ?_;refine W.exit rfl ?_;exact W.stop ⟨rfl,by rw[w],by rw[<-Gu E m (by simp[u,v,C,χ])];simp⟩
   .repeat apply Ξ
    refine W0 m ?_;refine Η rfl ?_;refine W.exit rfl ?_;exact W.stop ⟨rfl,rfl,by rw[<-Gt E m];simp⟩
  repeat apply Ξ
  refine W.VH [(0,.ms 0 n 0 n),(1,R a),(4,B),(12,R (c:Nat)),(13,R (l:Nat))] e ?_ ?_
  .refine W.iter (λi:Nat=>i<=(b-1)/\c<=i+1/\Go.Sort.scanDown (λx=>!χ o x e[a]!) e c i=l) (λi=>[(0,.ms 0 n 0 n),(1,R a),(4,B),(12,R (c:Nat)),(13,R (i:Nat))]) (λ_=>[.cells _ _ ((e).toList.map _)]) (λi=>i+1-c) ((b-1)) ⟨Z1 _,U,Q⟩ rfl J (λi hi N=>?_);obtain⟨Z,aa,E⟩:=hi;by_cases m:c<=i
   .refine W.two _ Y (i:=i) (j:=a) U U λL x y _ u v F w _=>?_;have M:=Sx (i:=i) U U
    repeat apply Ξ
    refine W.draw (A:=[]) Υ mixed λO D=>?_;simp;(repeat (rw[ZG];simp[m,F]));try rw[ZH]
    refine Ys (ae x y) ?_;simp;(repeat (rw[ZG];simp));try rw[ZH]
    refine YF (D _ _ ?_);by_cases C:o x y<0
    .refine Η (by simp[C]) ?_;refine W.exit rfl ?_;exact W.stop ⟨rfl,by rw[w],by rw[<-Gr E m U (by simp[u,v,C,χ])];simp⟩
    .refine Γ (by simp[C]) ?_;refine Ζ M ?_;exact W.to (N (i-1) ⟨U,U,Gs E m U (by simp[u,v,C,χ])⟩ Yl) (by rw[w]) (by simp[M])
   .repeat apply Ξ
    refine W0 m ?_;refine Η rfl ?_;refine W.exit rfl ?_;exact W.stop ⟨rfl,rfl,by rw[<-Gp E m];simp⟩
  repeat apply Ξ
  by_cases m:c > l
  .have T:((l:Nat):Int)<(c:Nat):=U
   refine Ζ T ?_;refine Γ (by simp[m]) ?_;refine W.two _ Y (i:=l) (j:=a) U U λL x y z u v F w H=>?_
   repeat apply Ξ
   refine W.draw (A:=[]) Υ mixed λO D=>?_;simp;(repeat (rw[ZG];simp[F]));try rw[ZH];refine YF (D _ _ ?_)
   refine W.back H [(0,.ms 0 n 0 n),(1,R a),(4,B),(12,R (c:Nat)),(13,R (l:Nat))] J ?_;clear F H w u v L x y z;refine Χ ?_;exact W.ret ⟨_,rfl,by rw[K,if_pos m];rfl,by rw[K,if_pos m]⟩
  have T:¬((l:Nat):Int)<(c:Nat):=U
  have ax:=af U
  have V:=XP (i:=c) U
  have X:=Sx (i:=l) U U;refine Ζ T ?_;refine Η (by simp[m]) ?_;refine W.two _ Y (i:=c) (j:=l) U U λL x y z u v F w H=>?_
  repeat apply Ξ
  refine W.draw (A:=[]) Υ mixed λO D=>?_;simp;(repeat (rw[ZG];simp[F]));try rw[ZH];refine YF (D _ _ ?_)
  refine W.back H [(0,.ms 0 n 0 n),(1,R a),(4,B),(12,R (c:Nat)),(13,R (l:Nat))] J ?_;clear F H w u v L x y z;have ai:=swp_size Y c l;rw[if_neg m] at K;obtain⟨g,aj⟩:=Ι (Go.Sort.swp e c l);rw[<-aj] at K ai;rw[<-aj];refine Ζ (Τ V X) ?_;refine W.to (σ':=[.cells _ _ ((g).toList.map _)]) (env':=[(0,.ms 0 n 0 n),(1,R a),(4,B),(12,R (c+1:Nat)),(13,R (l-1:Nat))]) ?_ rfl (by simp[V,X]);have aE:a<c:=U;have aF:l<b:=U;have aG:c+1<=l-1+1:=U;clear P Q T m am an ao ap af aj V X;obtain⟨ag,ak⟩:=Zl (Go.Sort.partLoop (χ o) a (c+1) (l-1) g)
  repeat apply Ξ
  refine W.VH [(0,.ms 0 n 0 n),(1,R a),(13,R ag.1)] ag.2 ?_ ?_
  .refine W.iter (λq:Nat×Nat×Array (Int×Int)=>q.2.2.size=n/\a<q.1/\q.1<=q.2.1+1/\q.2.1<b/\Go.Sort.partLoop (χ o) a q.1 q.2.1 q.2.2=ag) (λq=>[(0,.ms 0 n 0 n),(1,R a),(4,B),(12,R (q.1:Nat)),(13,R (q.2.1:Nat))]) (λq=>[.cells _ _ ((q.2.2).toList.map _)]) (λq=>q.2.1+1-q.1) (c+1,l-1,g) ⟨ai,Yl,Yl,Yl,ak⟩ rfl J (λq hi N=>?_);obtain⟨i,j,f⟩:=q;obtain⟨ab,Z,aa,E,ad⟩:=hi;simp only at ab Z aa E ad;obtain⟨c,P⟩:=Zl (Go.Sort.scanUp (λx=>χ o x f[a]!) f (j) (i));obtain⟨l,Q⟩:=Zl (Go.Sort.scanDown (λx=>!χ o x f[a]!) f c (j));obtain⟨am,an,ao,ap,af⟩:=Lf (λx=>χ o x f[a]!) (λx=>!χ o x f[a]!) (λx=>rfl) f U U P Q;have K:Go.Sort.partLoop (χ o) a i j f=if c > l then(l,f) else Go.Sort.partLoop (χ o) a (c+1) (l-1) (Go.Sort.swp f c l):=by
    rw[Go.Sort.partLoop_eq];simp only[P,Q]
   refine W.to (σ':=[.cells _ _ ((f).toList.map _)]) (env':=[(0,.ms 0 n 0 n),(1,R a),(4,B),(12,R (i:Nat)),(13,R (j:Nat))]) ?_ rfl J;refine W.block ?_
   repeat apply Ξ
   refine W.VH [(0,.ms 0 n 0 n),(1,R a),(4,B),(12,R (c:Nat)),(13,R (j:Nat))] f ?_ ?_
   .refine W.iter (λi:Nat=>(i)<=i/\i<=(j)+1/\Go.Sort.scanUp (λx=>χ o x f[a]!) f (j) i=c) (λi=>[(0,.ms 0 n 0 n),(1,R a),(4,B),(12,R (i:Nat)),(13,R (j:Nat))]) (λ_=>[.cells _ _ ((f).toList.map _)]) (λi=>(j)+1-i) ((i)) ⟨Z1 _,U,P⟩ rfl J (λi hi N=>?_);obtain⟨Z,aa,E⟩:=hi;by_cases m:i<=(j)
    .refine W.two _ ab (i:=i) (j:=a) U U λL x y _ u v F w _=>?_;have M:=XP (i:=i) U
     repeat apply Ξ
     refine W.draw (A:=[]) Υ mixed λO D=>?_;simp;(repeat (rw[ZG];simp[m,F]));try rw[ZH]
     refine Ys (ae x y) ?_;simp;(repeat (rw[ZG];simp));try rw[ZH]
     refine YF (D _ _ ?_);by_cases C:o x y<0
     .refine Γ (by simp[C]) ?_;refine Ζ M ?_;exact W.to (N (i+1) ⟨U,U,Gv E m (by simp[u,v,C,χ])⟩ Yl) (by rw[w]) (by simp[M])
     .refine Η (by simp[C]) ?_;refine W.exit rfl ?_;exact W.stop ⟨rfl,by rw[w],by rw[<-Gu E m (by simp[u,v,C,χ])];simp⟩
    .repeat apply Ξ
     refine W0 m ?_;refine Η rfl ?_;refine W.exit rfl ?_;exact W.stop ⟨rfl,rfl,by rw[<-Gt E m];simp⟩
   repeat apply Ξ
   refine W.VH [(0,.ms 0 n 0 n),(1,R a),(4,B),(12,R (c:Nat)),(13,R (l:Nat))] f ?_ ?_
   .refine W.iter (λi:Nat=>i<=(j)/\c<=i+1/\Go.Sort.scanDown (λx=>!χ o x f[a]!) f c i=l) (λi=>[(0,.ms 0 n 0 n),(1,R a),(4,B),(12,R (c:Nat)),(13,R (i:Nat))]) (λ_=>[.cells _ _ ((f).toList.map _)]) (λi=>i+1-c) ((j)) ⟨Z1 _,U,Q⟩ rfl J (λi hi N=>?_);obtain⟨Z,aa,E⟩:=hi;by_cases m:c<=i
    .refine W.two _ ab (i:=i) (j:=a) U U λL x y _ u v F w _=>?_;have M:=Sx (i:=i) U U
     repeat apply Ξ
     refine W.draw (A:=[]) Υ mixed λO D=>?_;simp;(repeat (rw[ZG];simp[m,F]));try rw[ZH]
     refine Ys (ae x y) ?_;simp;(repeat (rw[ZG];simp));try rw[ZH]
     refine YF (D _ _ ?_);by_cases C:o x y<0
     .refine Η (by simp[C]) ?_;refine W.exit rfl ?_;exact W.stop ⟨rfl,by rw[w],by rw[<-Gr E m U (by simp[u,v,C,χ])];simp⟩
     .refine Γ (by simp[C]) ?_;refine Ζ M ?_;exact W.to (N (i-1) ⟨U,U,Gs E m U (by simp[u,v,C,χ])⟩ Yl) (by rw[w]) (by simp[M])
    .repeat apply Ξ
     refine W0 m ?_;refine Η rfl ?_;refine W.exit rfl ?_;exact W.stop ⟨rfl,rfl,by rw[<-Gp E m];simp⟩
   repeat apply Ξ
   by_cases m:c > l
   .have T:((l:Nat):Int)<(c:Nat):=U
    refine Ζ T ?_;refine Γ (by simp[m]) ?_;refine W.exit rfl ?_;rw[K,if_pos m] at ad;exact W.stop ⟨rfl,by rw[<-ad],by rw[<-ad];simp⟩
   .have T:¬((l:Nat):Int)<(c:Nat):=U
    have ax:=af U
    have V:=XP (i:=c) U
    have X:=Sx (i:=l) U U;refine Ζ T ?_;refine Η (by simp[m]) ?_;refine W.two _ ab (i:=c) (j:=l) U U λL x y z u v F w H=>?_
    repeat apply Ξ
    refine W.draw (A:=[]) Υ mixed λO D=>?_;simp;(repeat (rw[ZG];simp[F]));try rw[ZH];refine YF (D _ _ ?_)
    refine W.back H [(0,.ms 0 n 0 n),(1,R a),(4,B),(12,R (c:Nat)),(13,R (l:Nat))] J ?_;clear F H w u v L x y z;refine Ζ (Τ V X) ?_;exact W.to (N (c+1,l-1,Go.Sort.swp f c l) ⟨swp_size ab c l,Yl,Yl,Yl,by simp;rw[<-ad,K,if_neg m]⟩ Yl) rfl (by simp[V,X])
  rw[ak] at K;have aq:=tc (χ o) (a:=a) (b:=b) _ (c+1) (l-1) g (Z1 _) ai U U U;rw[ak] at aq;obtain⟨ar,ay⟩:=aq;obtain⟨j,h⟩:=ag;simp only at ar ay K;refine W.two _ ar (i:=j) (j:=a) U U λL x y z u v F w H=>?_
  repeat apply Ξ
  refine W.draw (A:=[]) Υ mixed λO D=>?_;simp;(repeat (rw[ZG];simp[F]));try rw[ZH];refine YF (D _ _ ?_)
  refine W.back H [(0,.ms 0 n 0 n),(1,R a),(13,R (j:Nat))] J ?_;clear F H w u v L x y z;refine Χ ?_;exact W.ret ⟨_,rfl,by rw[K];rfl,by rw[K]⟩
theorem sX (S:Tx) (ag:S=WL\/S=Wm) (d:Array (Int×Int)) (n a b p:Nat) (aa:d.size=n) (al:n<2 ^ 40) (am:a<=p) (an:p<b) (ao:b<=n) (m:I) (g:Int×Int->Int×Int->Int) (ap:ψ 0 m) (ab:∀x y,Xu prog m [S.enc x,S.enc y] (R (g x y))) :
  Μ prog S.partitionEqual [.ms 0 n 0 n,R a,R b,R p,m] [.cells S.t S.k ((d).toList.map S.enc)] (λr s=>r=R (Go.Sort.partitionEqual (χ g) d a b p).1/\s=[.cells S.t S.k (((Go.Sort.partitionEqual (χ g) d a b p).2).toList.map S.enc)]) (λ_ _=>False):=by
 rcases ag with rfl|rfl
 all_goals dsimp only[WL,Wm] at *
 refine Μ.body Υ func240 rfl rfl ntmps240 rfl rfl J ?_
 rotate_left
 refine Μ.body Υ func189 rfl rfl ntmps189 rfl rfl J ?_
 all_goals
  have ah:=XP (i:=a) U
  have ai:=Sx (i:=b) U U
  repeat apply Ξ
  refine Wr ?_;refine W.two _ aa (i:=a) (j:=p) U U λL x y z o u F v D=>?_
  repeat apply Ξ
  refine W.draw (A:=[]) Υ mixed λP C=>?_;simp;(repeat (rw[ZG];simp[F]));try rw[ZH];refine YF (C _ _ ?_)
  refine W.back D [(0,.ms 0 n 0 n),(1,R a),(2,R b),(3,R p),(4,m)] J ?_;clear F D v o u L x y z;obtain⟨e,Q⟩:=Ι (Go.Sort.swp d a p);have aj:e.size=n:=by rw[Q];exact swp_size aa a p
  rw[<-Q]
  repeat apply Ξ
  refine P5 (Τ ah ai) ?_;refine W.to (σ':=[.cells _ _ ((e).toList.map _)]) (env':=[(0,.ms 0 n 0 n),(1,R a),(4,m),(11,R (a+1:Nat)),(12,R (b-1:Nat))]) ?_ rfl J;obtain⟨O,ad⟩:=Zl (Go.Sort.partEqLoop (χ g) a (a+1) (b-1) e)
  repeat apply Ξ
  refine W.VH [(11,R O.1)] O.2 ?_ ?_
  .refine W.iter (λq:Nat×Nat×Array (Int×Int)=>q.2.2.size=n/\a<q.1/\q.1<=q.2.1+1/\q.2.1<b/\Go.Sort.partEqLoop (χ g) a q.1 q.2.1 q.2.2=O) (λq=>[(0,.ms 0 n 0 n),(1,R a),(4,m),(11,R (q.1:Nat)),(12,R (q.2.1:Nat))]) (λq=>[.cells _ _ ((q.2.2).toList.map _)]) (λq=>q.2.1+1-q.1) (a+1,b-1,e) ⟨aj,Yl,Yl,Yl,ad⟩ rfl J (λq hi E=>?_);obtain⟨i,j,f⟩:=q;obtain⟨H,T,V,w,K⟩:=hi;simp only at H T V w K;obtain⟨c,X⟩:=Zl (Go.Sort.scanUp (λx=>!χ g f[a]! x) f (j) (i));obtain⟨l,Y⟩:=Zl (Go.Sort.scanDown (λx=>χ g f[a]! x) f c (j));obtain⟨aq,ar,au,av,ak⟩:=Lf (λx=>!χ g f[a]! x) (λx=>χ g f[a]! x) (λx=>J) f U U X Y;have M:Go.Sort.partEqLoop (χ g) a i j f=if c > l then(c,f) else Go.Sort.partEqLoop (χ g) a (c+1) (l-1) (Go.Sort.swp f c l):=by
    rw[Go.Sort.partEqLoop_eq];simp only[X,Y]
   refine W.to (σ':=[.cells _ _ ((f).toList.map _)]) (env':=[(0,.ms 0 n 0 n),(1,R a),(4,m),(11,R (i:Nat)),(12,R (j:Nat))]) ?_ rfl J;refine W.block ?_
   repeat apply Ξ
   refine W.VH [(0,.ms 0 n 0 n),(1,R a),(4,m),(11,R (c:Nat)),(12,R (j:Nat))] f ?_ ?_
   .refine W.iter (λi:Nat=>(i)<=i/\i<=(j)+1/\Go.Sort.scanUp (λx=>!χ g f[a]! x) f (j) i=c) (λi=>[(0,.ms 0 n 0 n),(1,R a),(4,m),(11,R (i:Nat)),(12,R (j:Nat))]) (λ_=>[.cells _ _ ((f).toList.map _)]) (λi=>(j)+1-i) ((i)) ⟨Z1 _,U,X⟩ rfl J (λi hi E=>?_);obtain⟨T,V,w⟩:=hi;by_cases h:i<=(j)
    .refine W.two _ H (i:=i) (j:=a) U U λL x y _ o u F v _=>?_;have N:=XP (i:=i) U
     repeat apply Ξ
     refine W.draw (A:=[]) Υ mixed λP C=>?_;simp;(repeat (rw[ZG];simp[h,F]));try rw[ZH]
     refine Ys (ab y x) ?_;simp;(repeat (rw[ZG];simp));try rw[ZH]
     refine YF (C _ _ ?_);by_cases B:g y x<0
     .refine Η (by simp[B]) ?_;refine W.exit rfl ?_;exact W.stop ⟨rfl,by rw[v],by rw[<-Gu w h (by simp[o,u,B,χ])];simp⟩
     .refine Γ (by simp[B]) ?_;refine Ζ N ?_;exact W.to (E (i+1) ⟨U,U,Gv w h (by simp[o,u,B,χ])⟩ Yl) (by rw[v]) (by simp[N])
    .repeat apply Ξ
     refine W0 h ?_;refine Η rfl ?_;refine W.exit rfl ?_;exact W.stop ⟨rfl,rfl,by rw[<-Gt w h];simp⟩
   repeat apply Ξ
   refine W.VH [(0,.ms 0 n 0 n),(1,R a),(4,m),(11,R (c:Nat)),(12,R (l:Nat))] f ?_ ?_
   .refine W.iter (λi:Nat=>i<=(j)/\c<=i+1/\Go.Sort.scanDown (λx=>χ g f[a]! x) f c i=l) (λi=>[(0,.ms 0 n 0 n),(1,R a),(4,m),(11,R (c:Nat)),(12,R (i:Nat))]) (λ_=>[.cells _ _ ((f).toList.map _)]) (λi=>i+1-c) ((j)) ⟨Z1 _,U,Y⟩ rfl J (λi hi E=>?_);obtain⟨T,V,w⟩:=hi;by_cases h:c<=i
    .refine W.two _ H (i:=i) (j:=a) U U λL x y _ o u F v _=>?_;have N:=Sx (i:=i) U U
     repeat apply Ξ
     refine W.draw (A:=[]) Υ mixed λP C=>?_;simp;(repeat (rw[ZG];simp[h,F]));try rw[ZH]
     refine Ys (ab y x) ?_;simp;(repeat (rw[ZG];simp));try rw[ZH]
     refine YF (C _ _ ?_);by_cases B:g y x<0
     .refine Γ (by simp[B]) ?_;refine Ζ N ?_;exact W.to (E (i-1) ⟨U,U,Gs w h U (by simp[o,u,B,χ])⟩ Yl) (by rw[v]) (by simp[N])
     .refine Η (by simp[B]) ?_;refine W.exit rfl ?_;exact W.stop ⟨rfl,by rw[v],by rw[<-Gr w h U (by simp[o,u,B,χ])];simp⟩
    .repeat apply Ξ
     refine W0 h ?_;refine Η rfl ?_;refine W.exit rfl ?_;exact W.stop ⟨rfl,rfl,by rw[<-Gp w h];simp⟩
   repeat apply Ξ
   by_cases h:c > l
   .have Z:((l:Nat):Int)<(c:Nat):=U
    refine Ζ Z ?_;refine Γ (by simp[h]) ?_;refine W.exit rfl ?_;rw[M,if_pos h] at K;exact W.stop ⟨rfl,by rw[<-K],by rw[<-K];simp⟩
   .have Z:¬((l:Nat):Int)<(c:Nat):=U
    have aw:=ak U
    have ae:=XP (i:=c) U
    have af:=Sx (i:=l) U U;refine Ζ Z ?_;refine Η (by simp[h]) ?_;refine W.two _ H (i:=c) (j:=l) U U λL x y z o u F v D=>?_
    repeat apply Ξ
    refine W.draw (A:=[]) Υ mixed λP C=>?_;simp;(repeat (rw[ZG];simp[F]));try rw[ZH];refine YF (C _ _ ?_)
    refine W.back D [(0,.ms 0 n 0 n),(1,R a),(4,m),(11,R (c:Nat)),(12,R (l:Nat))] J ?_;clear F D v o u L x y z;refine Ζ (Τ ae af) ?_;exact W.to (E (c+1,l-1,Go.Sort.swp f c l) ⟨swp_size H c l,Yl,Yl,Yl,by simp;rw[<-K,M,if_neg h]⟩ Yl) rfl (by simp[ae,af])
  refine Χ ?_;have M:Go.Sort.partitionEqual (χ g) d a b p=O:=by unfold Go.Sort.partitionEqual;rw[<-Q,ad]
  exact W.ret ⟨_,rfl,by rw[M];rfl,by rw[M]⟩
theorem sW (S:Tx) (ae:S=WL\/S=Wm) (d:Array (Int×Int)) (n lo hi first:Nat) (af:d.size=n) (ay:n<2 ^ 40) (az:first+hi<=n) (ag:lo<=n) (a:I) (b:Int×Int->Int×Int->Int) (aA:ψ 0 a) (T:∀x y,Xu prog a [S.enc x,S.enc y] (R (b x y))) :
  Μ prog S.siftDown [.ms 0 n 0 n,R lo,R hi,R first,a] [.cells S.t S.k ((d).toList.map S.enc)] (λr s=>r=.ZV []/\s=[.cells S.t S.k ((Go.Sort.siftDown (χ b) hi first lo d).toList.map S.enc)]) (λ_ _=>False):=by
 obtain⟨enc,V⟩:=Ι S.enc;rcases ae with rfl|rfl
 all_goals dsimp only[WL,Wm] at *
 refine Μ.body Υ func254 rfl rfl ntmps254 rfl rfl J ?_
 rotate_left
 refine Μ.body Υ func225 rfl rfl ntmps225 rfl rfl J ?_
 all_goals
  refine Χ ?_;obtain⟨ah,X⟩:=Zl (Go.Sort.siftDown (χ b) hi first lo d);rw[X];refine W.iter (λq:Nat×Array (Int×Int)=>q.2.size=n/\q.1<=n/\Go.Sort.siftDown (χ b) hi first q.1 q.2=ah) (λq=>[(0,.ms 0 n 0 n),(2,R hi),(3,R first),(4,a),(10,R (q.1:Nat))]) (λq=>[.cells _ _ ((q.2).toList.map _)]) (λq=>hi-q.1) (lo,d) ⟨af,ag,X⟩ rfl J (λq ai aj=>?_);obtain⟨r,e⟩:=q;obtain⟨D,ak,f⟩:=ai;simp only at D ak f;obtain⟨c,al⟩:=Ι (2*r+1);obtain⟨M,N⟩:=Ι (c+1);obtain⟨π,am⟩:=Ι (first+r);obtain⟨O,an⟩:=Ι (first+c);obtain⟨fd,ao⟩:=Ι (first+(c+1));have w1:i64.wrap (2*(r:Int))=2*(r:Int):=by rw[i64_in _ U]
  have ap:i64.wrap (2*(r:Int)+1)=(c:Int):=by rw[i64_in _ U];omega
  have P:i64.wrap ((c:Int)+1)=(M:Int):=by rw[i64_in _ U];omega
  have aq:i64.wrap ((first:Int)+(c:Int))=(O:Int):=by rw[i64_in _ U];omega
  have ar:i64.wrap ((O:Int)+1)=(fd:Int):=by rw[i64_in _ U];omega
  have Y:i64.wrap ((first:Int)+(r:Int))=(π:Int):=by rw[i64_in _ U];omega
  refine W.to (σ':=[.cells _ _ ((e).toList.map _)]) (env':=[(0,.ms 0 n 0 n),(2,R hi),(3,R first),(4,a),(10,R (r:Nat))]) ?_ rfl J;refine Ζ (Τ w1 ap) ?_;by_cases Z:hi<=c
  .refine Γ (by simp[Z]) ?_;refine W.exit rfl ?_;exact W.nil ⟨_,rfl,rfl,by rw[<-f,Go.Sort.siftDown,dif_pos U]⟩
  refine Η (by simp[Z]) ?_;obtain⟨B,u⟩:=Ι ((decide (c+1<hi)&&χ b e[first+c]! e[first+(c+1)]!):Bool);obtain⟨k,v⟩:∃k,k=if B=true then c+1 else c:=⟨_,rfl⟩
  have aB:k<hi:=by
   rw[v];split
   .rename_i h;rw[h] at u;have:=u.symm;simp at this;omega
   .omega
  have au:=ta (χ b) hi first r e (k:=k) al U (by rw[<-u];exact v)
  rw[au] at f
  repeat apply Ξ
  refine W.Nj (A:=[]) Υ mixed [(40,ZU B),(0,.ms 0 n 0 n),(2,R hi),(3,R first),(4,a),(10,R r),(11,R c)] ?_ (by
   by_cases E:M<hi
   .have g:O<n:=U
    have i:fd<n:=U;obtain⟨L,x,y,j,w,C,F,⟨l,m⟩,⟨o,p⟩,-,-⟩:=PN enc D g i;simp only[V] at j l m o p;have Q:B=χ b x y:=by rw[u,<-w,<-C,an,ao];simp[<-N,E]
    have av:(M:Int)<hi:=U;rw[j];clear w C;simp;(repeat (rw[ZG];simp[P,aq,ar,E,av,F,l,m,o,p,g,i]));(try rw[ZH]);refine Ys (T x y) ?_;simp;(repeat (rw[ZG];simp));(try rw[ZH]);refine⟨Yt (by kernel_rfl),?_⟩;simp[Q,χ]
   .have Q:B=false:=by rw[u];simp[<-N,E]
    simp;(repeat (rw[ZG];simp[P,E]));(try rw[ZH]);refine⟨Yt (by kernel_rfl),?_⟩;simp[Q])
  have aC:r<k:=by rw[v];split<;>omega
  repeat apply Ξ
  refine W.tf [(0,.ms 0 n 0 n),(2,R hi),(3,R first),(4,a),(10,R (r:Nat)),(11,R (k:Nat))] e ?_ ?_
  .cases B with
   | true=>
    refine Γ rfl ?_;refine P5 P ?_;exact W.stop ⟨rfl,rfl,by simp[v,N]⟩
   | false=>
    refine Η rfl ?_;refine W.skip ?_;exact W.stop ⟨rfl,rfl,by simp[v]⟩
  obtain⟨H,aw⟩:=Ι (first+k);rw[<-am,<-aw] at f;have aa:i64.wrap ((first:Int)+(k:Int))=(H:Int):=by rw[i64_in _ U];omega
  have g:π<n:=U
  have i:H<n:=U;obtain⟨L,x,y,j,w,C,F,⟨l,m⟩,⟨o,p⟩,ab,aD,ad⟩:=PN enc D g i;simp only[V] at j l m o p ab ad;rw[w,C] at f;refine W.IG j [(0,.ms 0 n 0 n),(2,R hi),(3,R first),(4,a),(10,R (r:Nat)),(11,R (k:Nat))] J ?_;clear w C
  repeat apply Ξ
  refine W.draw (A:=[]) Υ mixed λaE ax=>Ve (Τ Y (Τ aa (Τ F (Τ l (Τ m (Τ o (Τ p (Τ g i)))))))) ?_;refine Ys (T x y) ?_;simp;(repeat (rw[ZG];simp));try rw[ZH]
  refine YF (ax _ _ ?_);by_cases K:b x y<0
  .refine Η (by simp[K]) ?_
   repeat apply Ξ
   refine W0 (Τ Y (Τ aa (Τ F (Τ l (Τ m (Τ o (Τ p (Τ ad (Τ g i))))))))) ?_;refine Χ ?_;refine W.to (aj (k,Go.Sort.swp e π H) ⟨swp_size D π H,Yl,?_⟩ Yl) (by rw[ab]) J;rw[<-f];simp[K,χ]
  .refine Γ (by simp[K]) ?_;refine Χ ?_;exact W.ret ⟨_,rfl,rfl,by rw[<-j,<-f];simp[K,χ]⟩
theorem sV (S:Tx) (O:S=WL\/S=Wm) (d:Array (Int×Int)) (n a b:Nat) (P:d.size=n) (Q:n<2 ^ 40) (an:a<b) (ao:b<=n) (f:I) (c:Int×Int->Int×Int->Int) (T:ψ 0 f) (V:∀x y,Xu prog f [S.enc x,S.enc y] (R (c x y))) :
  Μ prog S.heapSort [.ms 0 n 0 n,R a,R b,f] [.cells S.t S.k ((d).toList.map S.enc)] (λr s=>r=.ZV []/\s=[.cells S.t S.k ((Go.Sort.heapSort (χ c) d a b).toList.map S.enc)]) (λ_ _=>False):=by
 have X:=sW S O;rcases O with rfl|rfl
 all_goals dsimp only[WL,Wm] at *
 refine Μ.body Υ func235 rfl rfl ntmps235 rfl rfl J ?_
 rotate_left
 refine Μ.body Υ func184 rfl rfl ntmps184 rfl rfl J ?_
 all_goals
  obtain⟨m,af⟩:=Zl (b-a);have w1:i64.wrap ((b:Int)-(a:Int))=(m:Int):=by rw[i64_in _ U];omega
  have w:i64.wrap ((m:Int)-1)=((m-1:Nat):Int):=Sx U U
  have Y:i64.wrap (((m-1:Nat):Int) / 2)=(((m-1) / 2:Nat):Int):=IF (m:=2) U;obtain⟨ap,B⟩:=Ι (m-1);obtain⟨C,Z⟩:=Ι ((m-1) / 2);rw[<-Z,<-B] at Y;rw[<-B] at w;have wp:∀k:Nat,k<=n->i64.wrap ((k:Int)-1)=(k:Int)-1:=λk v=>by rw[i64_in _ U]
  obtain⟨o,D⟩:=Zl (Go.Sort.heapBuild (χ c) m a (C+1) d);have aa:Go.Sort.heapSort (χ c) d a b=Go.Sort.heapPop (χ c) a m o:=by unfold Go.Sort.heapSort;rw[af,<-Z,D]
  refine Ζ (Τ w1 (Τ w Y)) ?_;refine W.VH [(0,.ms 0 n 0 n),(3,f),(8,R a),(9,R 0),(10,R m)] o ?_ ?_
  .refine W.iter (λq:Nat×Array (Int×Int)=>q.2.size=n/\q.1<=C+1/\Go.Sort.heapBuild (χ c) m a q.1 q.2=o) (λq=>[(0,.ms 0 n 0 n),(3,f),(8,R a),(9,R 0),(10,R m),(11,.z (.int .i64 ((q.1:Int)-1)))]) (λq=>[.cells _ _ ((q.2).toList.map _)]) (λq=>q.1) (C+1,d) ⟨P,Z1 _,D⟩ rfl J (λq E H=>?_);obtain⟨k,e⟩:=q;obtain⟨g,v,l⟩:=E;simp only at g v l;cases k with
   | zero=>
    refine Χ ?_;refine Η rfl ?_;refine W.exit rfl ?_;exact W.stop ⟨rfl,by rw[<-l];rfl,J⟩
   | succ k=>
    have K:(0:Int)<=(k:Int):=U;refine W.to (σ':=[.cells _ _ ((e).toList.map _)]) (env':=[(0,.ms 0 n 0 n),(3,f),(8,R a),(9,R 0),(10,R m),(11,.z (.int .i64 ((k:Int))))]) ?_ rfl J;refine Ζ K ?_;refine Γ J ?_;refine ZP λab u=>?_;refine Μ.call (first:=[]) (captured:=[]) ((X e n k m a g Q U U f c T V).mono (λr s ⟨M,N⟩=>?_) (λ_ _ h=>h.elim));subst M;subst N;simp;(repeat (rw[Ν];simp));apply u;refine Ζ (wp k U) ?_;exact W.to (H (k,Go.Sort.siftDown (χ c) m a k e) ⟨Gq g,Yl,l⟩ J) rfl (by simp[wp k U])
  obtain⟨ag,ad⟩:=Zl (Go.Sort.heapPop (χ c) a m o);have ah:o.size=n:=by rw[<-D];exact Cc P
  rw[ad] at aa;refine Ζ w ?_;refine W.iter (λq:Nat×Array (Int×Int)=>q.2.size=n/\q.1<=m/\Go.Sort.heapPop (χ c) a q.1 q.2=ag) (λq=>[(0,.ms 0 n 0 n),(3,f),(8,R a),(9,R 0),(10,R m),(12,.z (.int .i64 ((q.1:Int)-1)))]) (λq=>[.cells _ _ ((q.2).toList.map _)]) (λq=>q.1) (m,o) ⟨ah,Z1 _,ad⟩ rfl (by simp[B];omega) (λq E H=>?_);obtain⟨k,e⟩:=q;obtain⟨g,v,l⟩:=E;simp only at g v l;cases k with
  | zero=>
   refine Χ ?_;refine Η rfl ?_;refine W.exit rfl ?_;exact W.nil ⟨_,rfl,rfl,by rw[aa,<-l];rfl⟩
  | succ k=>
   have K:(0:Int)<=(k:Int):=U;obtain⟨p,ai⟩:=Ι (a+k);have aj:i64.wrap ((a:Int)+(k:Int))=(p:Int):=by rw[i64_in _ U];omega
   refine W.to (σ':=[.cells _ _ ((e).toList.map _)]) (env':=[(0,.ms 0 n 0 n),(3,f),(8,R a),(9,R 0),(10,R m),(12,.z (.int .i64 ((k:Int))))]) ?_ rfl J;refine Ζ K ?_;refine Γ J ?_;refine W.two _ g (i:=a) (j:=p) U U λL x y z ak al F am ae=>?_
   repeat apply Ξ
   refine W.draw (A:=[]) Υ mixed λab u=>?_;simp;(repeat (rw[ZG];simp[F,aj]));try rw[ZH];refine YF (u _ _ ?_)
   refine W.back ae [(0,.ms 0 n 0 n),(3,f),(8,R a),(9,R 0),(10,R m),(12,.z (.int .i64 ((k:Int))))] J ?_;clear F ae am ak al L x y z;refine ZP λab u=>?_;refine Μ.call (first:=[]) (captured:=[]) ((X (Go.Sort.swp e a p) n 0 k a (swp_size g a p) Q U U f c T V).mono (λr s ⟨M,N⟩=>?_) (λ_ _ h=>h.elim));subst M;subst N;simp;(repeat (rw[Ν];simp));apply u;refine Ζ (wp k U) ?_;exact W.to (H (k,Go.Sort.siftDown (χ c) k a 0 (Go.Sort.swp e a p)) ⟨Gq (swp_size g a p),Yl,by rw[ai];exact l⟩ J) rfl (by simp[wp k U])
theorem sU (S:Tx) (p:S=WL\/S=Wm) (d:Array (Int×Int)) (n a b:Nat) (u:d.size=n) (M:n<2 ^ 40) (N:a<b) (O:b<=n) (g:I) (v:Int×Int->Int×Int->Int) (P:ψ 0 g) (Q:∀x y,Xu prog g [S.enc x,S.enc y] (R (v x y))) :
  Μ prog S.reverseRange [.ms 0 n 0 n,R a,R b,g] [.cells S.t S.k ((d).toList.map S.enc)] (λr s=>r=.ZV []/\s=[.cells S.t S.k ((Go.Sort.reverseRange d a b).toList.map S.enc)]) (λ_ _=>False):=by
 rcases p with rfl|rfl
 all_goals dsimp only[WL,Wm] at *
 refine Μ.body Υ func238 rfl rfl ntmps238 rfl rfl J ?_
 rotate_left
 refine Μ.body Υ func187 rfl rfl ntmps187 rfl rfl J ?_
 all_goals
  have w1:=Sx (i:=b) U U;refine Ζ w1 ?_;refine W.iter (λq:Nat×Nat×Array (Int×Int)=>q.2.2.size=n/\q.1<n/\q.2.1<n/\Go.Sort.reverseLoop q.1 q.2.1 q.2.2=Go.Sort.reverseRange d a b) (λq=>[(0,.ms 0 n 0 n),(8,R (q.1:Nat)),(9,R (q.2.1:Nat))]) (λq=>[.cells _ _ ((q.2.2).toList.map _)]) (λq=>q.2.1-q.1) (a,b-1,d) ⟨u,Yl,Yl,rfl⟩ rfl (by simp[w1]) (λq w B=>?_);obtain⟨i,j,e⟩:=q;obtain⟨h,hi,C,c⟩:=w;simp only at h hi C c;rw[Go.Sort.reverseLoop] at c;refine W.to (σ':=[.cells _ _ ((e).toList.map _)]) (env':=[(0,.ms 0 n 0 n),(8,R (i:Nat)),(9,R (j:Nat))]) ?_ rfl J;refine Χ ?_;by_cases f:i<j
  .refine Γ (by simp[f]) ?_;rw[if_pos f] at c;have l:=XP (i:=i) U;have m:=Sx (i:=j) U U;refine W.two _ h (i:=i) (j:=j) U U λL x y z D E F H o=>?_
   repeat apply Ξ
   refine W.draw (A:=[]) Υ mixed λT K=>?_;simp;(repeat (rw[ZG];simp[F]));try rw[ZH];refine YF (K _ _ ?_)
   refine W.back o [(0,.ms 0 n 0 n),(8,R (i:Nat)),(9,R (j:Nat))] J ?_;clear F o H D E L x y z;refine Ζ (Τ l m) ?_;exact W.to (B (i+1,j-1,Go.Sort.swp e i j) ⟨swp_size h i j,Yl,Yl,c⟩ Yl) rfl (by simp[l,m])
  .refine Η (by simp[f]) ?_;refine W.exit rfl ?_;rw[if_neg f] at c;exact W.nil ⟨_,rfl,rfl,by rw[c]⟩
theorem sT (S:Tx) (B:S=WL\/S=Wm) (d:Array (Int×Int)) (n a b s:Nat) (C:d.size=n) (h:a<n) (i:b<n) (K:s<2 ^ 40) (f:I) (c:Int×Int->Int×Int->Int) (M:ψ 0 f) (D:∀x y,Xu prog f [S.enc x,S.enc y] (R (c x y))) :
  Μ prog S.order2 [.ms 0 n 0 n,R a,R b,.Ο 1 1 0 0,f] [.cells S.t S.k (d.toList.map S.enc),.cells 3 1 [R s]] (λr σ=>r=.ZV [R (Go.Sort.order2 (χ c) d a b s).1,R (Go.Sort.order2 (χ c) d a b s).2.1]/\σ=[.cells S.t S.k (d.toList.map S.enc),.cells 3 1 [R (Go.Sort.order2 (χ c) d a b s).2.2]]) (λ_ _=>False):=by
 obtain⟨enc,E⟩:=Ι S.enc;rcases B with rfl|rfl
 all_goals dsimp only[WL,Wm] at *
 refine Μ.body Υ func258 rfl rfl ntmps258 rfl rfl J ?_
 rotate_left
 refine Μ.body Υ func252 rfl rfl ntmps252 rfl rfl J ?_
 all_goals
  obtain⟨L,x,y,g,j,l,F,⟨m,o⟩,⟨p,u⟩,-,-⟩:=PN enc C h i;simp only[E] at g m o p u;have v:i64.wrap ((s:Int)+1)=((s+1:Nat):Int):=by rw[i64_in _ U];omega
  have w:Go.Sort.order2 (χ c) d a b s=if χ c y x=true then(b,a,s+1) else(a,b,s):=by unfold Go.Sort.order2;rw[j,l]
  rw[w,g];clear g j l w;refine Χ ?_;refine W.draw (A:=[]) Υ mixed λN H=>Ve (Τ F (Τ m (Τ p (Τ o u)))) ?_;refine⟨i,h,?_⟩;refine Ys (D y x) ?_;simp;(repeat (rw[ZG];simp));try rw[ZH]
  refine YF (H _ _ ?_);by_cases e:c y x<0
  .refine Γ (by simp[e]) ?_;refine Ζ v ?_;exact W.ret ⟨_,rfl,by simp[χ,e],by simp[χ,e]⟩
  .refine Η (by simp[e]) ?_;refine Ζ v ?_;exact W.ret ⟨_,rfl,by simp[χ,e],by simp[χ,e]⟩
section
variable {α:Type} [Inhabited α]
theorem sS (lt:α->α->Bool) (d:Array α) {b:Nat}:∀(m i:Nat),b-i<=m->i<=b->i<=Go.Sort.scanSorted lt d b i/\Go.Sort.scanSorted lt d b i<=b:=by
 intro m
 induction m with
 | zero=>intro i h hi;rw[Go.Sort.scanSorted,if_neg (by simp;omega)];omega
 | succ m a=>
  intro i h hi;rw[Go.Sort.scanSorted];split
  .rename_i c;simp only[VT,decide_eq_true_eq] at c;have:=a (i+1) U U;omega
  .omega
theorem sR (lt:α->α->Bool) {n:Nat}:∀(j:Nat) (d:Array α),d.size=n->(Go.Sort.shiftDown lt j d).size=n:=by
 intro j
 induction j with
 | zero=>intro d h;exact h
 | succ j a=>
  intro d h;rw[Go.Sort.shiftDown];split
  .exact h
  .exact a _ (swp_size h _ _)
theorem sQ (lt:α->α->Bool) {b n:Nat}:∀(m j:Nat) (d:Array α),b-j<=m->d.size=n->(Go.Sort.shiftUp lt b j d).size=n:=by
 intro m
 induction m with
 | zero=>intro j d h hd;rw[Go.Sort.shiftUp,if_neg U];exact hd
 | succ m a=>
  intro j d h hd;rw[Go.Sort.shiftUp];split
  .split
   .exact hd
   .exact a _ _ U (swp_size hd _ _)
  .exact hd
theorem Gh (lt:α->α->Bool) (d:Array α) {i n:Nat} (f:1<=i) (hi:i+1<n) (s:Nat):(Go.Sort.medianAdjacent lt d i s).1<n/\(Go.Sort.medianAdjacent lt d i s).2<=s+3:=by
 unfold Go.Sort.medianAdjacent Go.Sort.median;have f1:=MJ lt d (a:=i-1) (b:=i) (n:=n) U U s;generalize Go.Sort.order2 lt d (i-1) i s=c at f1 ⊢;have f2:=MJ lt d (a:=c.2.1) (b:=i+1) (n:=n) U hi c.2.2;simp only;generalize Go.Sort.order2 lt d c.2.1 (i+1) c.2.2=e at f2 ⊢;have f3:=MJ lt d (a:=c.1) (b:=e.1) (n:=n) U U e.2.2;generalize Go.Sort.order2 lt d c.1 e.1 e.2.2=g at f3 ⊢;omega
end
theorem B8 (S:Tx) (F:S=WL\/S=Wm) (d:Array (Int×Int)) (n a b c s:Nat) (l:d.size=n) (V:a<n) (X:b<n) (Y:c<n) (Z:s<2 ^ 39) (f:I) (e:Int×Int->Int×Int->Int) (m:ψ 0 f) (o:∀x y,Xu prog f [S.enc x,S.enc y] (R (e x y))) :
  Μ prog S.median [.ms 0 n 0 n,R a,R b,R c,.Ο 1 1 0 0,f] [.cells S.t S.k ((d).toList.map S.enc),.cells 3 1 [R (s:Nat)]] (λr σ=>r=R (Go.Sort.median (χ e) d a b c s).1/\σ=[.cells S.t S.k ((d).toList.map S.enc),.cells 3 1 [R ((Go.Sort.median (χ e) d a b c s).2:Nat)]]) (λ_ _=>False):=by
 have p:=sT S F;rcases F with rfl|rfl
 all_goals dsimp only[WL,Wm] at *
 refine Μ.body Υ func256 rfl rfl ntmps256 rfl rfl J ?_
 rotate_left
 refine Μ.body Υ func229 rfl rfl ntmps229 rfl rfl J ?_
 all_goals
  obtain⟨M,H⟩:=Zl (Go.Sort.order2 (χ e) d a b s);have f1:=MJ (χ e) d (a:=a) (b:=b) (n:=n) U U s;have u:=p d n a b s l U U U f e m o;rw[H] at f1 u;obtain⟨v,w,A⟩:=M;simp only at f1 u;obtain⟨N,Φ⟩:=Zl (Go.Sort.order2 (χ e) d w c A);have f2:=MJ (χ e) d (a:=w) (b:=c) (n:=n) U U A;have B:=p d n w c A l U U U f e m o;rw[Φ] at f2 B;obtain⟨C,aa,D⟩:=N;simp only at f2 B;obtain⟨O,K⟩:=Zl (Go.Sort.order2 (χ e) d v C D);have f3:=MJ (χ e) d (a:=v) (b:=C) (n:=n) U U D;have E:=p d n v C D l U U U f e m o;rw[K] at f3 E;obtain⟨ab,P,Q⟩:=O;simp only at f3 E;have T:Go.Sort.median (χ e) d a b c s=(P,Q):=by unfold Go.Sort.median;simp only[H,Φ,K]
  rw[T]
  repeat apply Ξ
  refine Wr ?_;refine ZP λL g=>?_;refine Μ.call (first:=[]) (captured:=[]) ((u).mono (λr s ⟨i,j⟩=>?_) (λ_ _ h=>h.elim));subst i;subst j;simp;(repeat (rw[Ν];simp));apply g;refine ZP λL g=>?_;refine Μ.call (first:=[]) (captured:=[]) ((B).mono (λr s ⟨i,j⟩=>?_) (λ_ _ h=>h.elim));subst i;subst j;simp;(repeat (rw[Ν];simp));apply g;refine ZP λL g=>?_;refine Μ.call (first:=[]) (captured:=[]) ((E).mono (λr s ⟨i,j⟩=>?_) (λ_ _ h=>h.elim));subst i;subst j;simp;(repeat (rw[Ν];simp));apply g;refine Χ ?_;exact W.ret ⟨_,rfl,rfl,rfl⟩
theorem sP (S:Tx) (f:S=WL\/S=Wm) (d:Array (Int×Int)) (n i s:Nat) (g:d.size=n) (D:1<=i) (hi:i+1<n) (E:n<2 ^ 40) (j:s<2 ^ 39) (b:I) (a:Int×Int->Int×Int->Int) (l:ψ 0 b) (m:∀x y,Xu prog b [S.enc x,S.enc y] (R (a x y))) :
  Μ prog S.medianAdjacent [.ms 0 n 0 n,R i,.Ο 1 1 0 0,b] [.cells S.t S.k ((d).toList.map S.enc),.cells 3 1 [R (s:Nat)]] (λr σ=>r=R (Go.Sort.medianAdjacent (χ a) d i s).1/\σ=[.cells S.t S.k ((d).toList.map S.enc),.cells 3 1 [R ((Go.Sort.medianAdjacent (χ a) d i s).2:Nat)]]) (λ_ _=>False):=by
 have o:=B8 S f;rcases f with rfl|rfl
 all_goals dsimp only[WL,Wm] at *
 refine Μ.body Υ func255 rfl rfl ntmps255 rfl rfl J ?_
 rotate_left
 refine Μ.body Υ func228 rfl rfl ntmps228 rfl rfl J ?_
 all_goals
  obtain⟨p,u⟩:=Ι (i-1);obtain⟨q,v⟩:=Ι (i+1);have w1:i64.wrap ((i:Int)-1)=(p:Int):=by rw[i64_in _ U];omega
  have w:i64.wrap ((i:Int)+1)=(q:Int):=by rw[i64_in _ U];omega
  have c:=o d n p i q s g U U U j b a l m
  have e:Go.Sort.medianAdjacent (χ a) d i s=Go.Sort.median (χ a) d p i q s:=by rw[u,v];rfl
  rw[e]
  repeat apply Ξ
  refine Wr ?_;refine XX (Τ w1 w) λF A=>?_;refine Μ.call (first:=[]) (captured:=[]) ((c).mono (λr s ⟨B,C⟩=>?_) (λ_ _ h=>h.elim));subst B;subst C;simp;(repeat (rw[Ν];simp));apply A;refine Χ ?_;exact W.ret ⟨_,rfl,rfl,rfl⟩
theorem sO (S:Tx) (O:S=WL\/S=Wm) (d:Array (Int×Int)) (n a b:Nat) (E:d.size=n) (aH:n<2 ^ 38) (aI:a+12<b) (aJ:b<=n) (u:I) (c:Int×Int->Int×Int->Int) (F:ψ 0 u) (H:∀x y,Xu prog u [S.enc x,S.enc y] (R (c x y))) :
  Μ prog S.choosePivot [.ms 0 n 0 n,R a,R b,u] [.cells S.t S.k ((d).toList.map S.enc)] (λr s=>r=.ZV [R (Go.Sort.choosePivot (χ c) d a b).1,R (MH (Go.Sort.choosePivot (χ c) d a b).2)]/\s=[.cells S.t S.k ((d).toList.map S.enc)]) (λ_ _=>False):=by
 have P:=sP S O
 have ao:=B8 S O;rcases O with rfl|rfl
 all_goals dsimp only[WL,Wm] at *
 refine Μ.body Υ func237 rfl rfl ntmps237 rfl rfl J ?_
 rotate_left
 refine Μ.body Υ func186 rfl rfl ntmps186 rfl rfl J ?_
 all_goals
  obtain⟨l,af⟩:=Ι (b-a);obtain⟨q,Q⟩:=Ι (l / 4);obtain⟨T,ag⟩:=Ι (q*2);obtain⟨V,ah⟩:=Ι (q*3);obtain⟨i,hi⟩:=Ι (a+q);obtain⟨j,ai⟩:=Ι (a+T);obtain⟨k,aj⟩:=Ι (a+V);have ap:(8:Int)<=(l:Int):=U;have w1:i64.wrap ((b:Int)-(a:Int))=(l:Int):=by rw[i64_in _ U];omega
  have aq:i64.wrap ((l:Int) / 4)=(q:Int):=by rw[Q];exact IF (m:=4) U
  have ar:i64.wrap (q:Int)=(q:Int):=i64_in _ U
  have au:i64.wrap ((q:Int)*2)=(T:Int):=by rw[i64_in _ U];omega
  have av:i64.wrap ((q:Int)*3)=(V:Int):=by rw[i64_in _ U];omega
  have aw:i64.wrap ((a:Int)+(q:Int))=(i:Int):=by rw[i64_in _ U];omega
  have ax:i64.wrap ((a:Int)+(T:Int))=(j:Int):=by rw[i64_in _ U];omega
  have ay:i64.wrap ((a:Int)+(V:Int))=(k:Int):=by rw[i64_in _ U];omega
  obtain⟨e,f,K,o,L,az,aA,aB,X⟩:∃e f K o:Nat,Go.Sort.choosePivot (χ c) d a b=((Go.Sort.median (χ c) d e f K o).1,if(Go.Sort.median (χ c) d e f K o).2=0 then .increasing else if(Go.Sort.median (χ c) d e f K o).2=12 then .decreasing else .unknown)/\e<n/\f<n/\K<n/\(o<=9/\((l<50/\e=i/\f=j/\K=k/\o=0)\/(50<=l/\∃t1 t2,Go.Sort.medianAdjacent (χ c) d i 0=(e,t1)/\t1<=3/\Go.Sort.medianAdjacent (χ c) d j t1=(f,t2)/\t2<=6/\Go.Sort.medianAdjacent (χ c) d k t2=(K,o)))):=by
   have ak:8<=l:=U;by_cases Y:50<=l
   .have Z:=Gh (χ c) d (n:=n) (i:=i) U U 0;obtain⟨⟨e,t1⟩,B⟩:∃r,Go.Sort.medianAdjacent (χ c) d i 0=r:=⟨_,rfl⟩;rw[B] at Z;have aa:=Gh (χ c) d (n:=n) (i:=j) U U t1;obtain⟨⟨f,t2⟩,Φ⟩:∃r,Go.Sort.medianAdjacent (χ c) d j t1=r:=⟨_,rfl⟩;rw[Φ] at aa;have ab:=Gh (χ c) d (n:=n) (i:=k) U U t2;obtain⟨⟨K,o⟩,C⟩:∃r,Go.Sort.medianAdjacent (χ c) d k t2=r:=⟨_,rfl⟩;rw[C] at ab;simp only at Z aa ab;refine⟨e,f,K,o,?_,Z.1,aa.1,ab.1,U,.inr ⟨Y,t1,t2,B,U,Φ,U,C⟩⟩;simp only[Go.Sort.choosePivot,<-af,<-Q,Qt,<-ag,<-ah,<-hi,<-ai,<-aj,ge_iff_le,if_pos ak,if_pos Y,B,Φ,C]
   .refine⟨i,j,k,0,?_,U,U,U,U,.inl ⟨U,rfl,rfl,rfl,rfl⟩⟩;simp only[Go.Sort.choosePivot,<-af,<-Q,Qt,<-ag,<-ah,<-hi,<-ai,<-aj,ge_iff_le,if_pos ak,if_neg Y]
  obtain⟨aC,em⟩:=Zl (Go.Sort.median (χ c) d e f K o);have M:=ao d n e f K o E az aA aB (OR X.1 Z0) u c F H;rw[em] at M L;obtain⟨aD,D⟩:=aC;simp only at M L;rw[L]
  repeat apply Ξ
  refine Wr ?_
  repeat apply Ξ
  refine P5 w1 ?_
  repeat apply Ξ
  refine Zj (A:=[11]) Υ λN p=>ZY ?_;apply p;refine Ζ (Τ aq (Τ ar (Τ au (Τ av (Τ aw (Τ ax (Τ ay @ap))))))) ?_;refine Γ J ?_;refine Χ ?_;refine W.N1 [(0,.ms 0 n 0 n),(3,u),(11,.Ο 1 1 0 0),(12,R (e:Nat)),(13,R (f:Nat)),(14,R (K:Nat))] (d) [.cells 3 1 [R (o:Nat)]] ?_ ?_
  .clear L M;rcases X with⟨-,⟨aE,rfl,rfl,rfl,rfl⟩|⟨aE,t1,t2,B,aK,Φ,aL,C⟩⟩
   .have g:¬(50:Int)<=(l:Int):=U
    refine Η (by simp[g]) ?_;refine W.skip ?_;exact W.stop ⟨rfl,rfl,J⟩
   .have g:(50:Int)<=(l:Int):=U
    have al:=P d n i 0 E U U U U u c F H
    have am:=P d n j t1 E U U U U u c F H
    have an:=P d n k t2 E U U U U u c F H;rw[B] at al;rw[Φ] at am;rw[C] at an;refine Γ (by simp[g]) ?_;refine ZP λN p=>?_;refine Μ.call (first:=[]) (captured:=[]) ((al).mono (λr s ⟨v,w⟩=>?_) (λ_ _ h=>h.elim));subst v;subst w;simp;(repeat (rw[Ν];simp));apply p;refine ZP λN p=>?_;refine Μ.call (first:=[]) (captured:=[]) ((am).mono (λr s ⟨v,w⟩=>?_) (λ_ _ h=>h.elim));subst v;subst w;simp;(repeat (rw[Ν];simp));apply p;refine ZP λN p=>?_;refine Μ.call (first:=[]) (captured:=[]) ((an).mono (λr s ⟨v,w⟩=>?_) (λ_ _ h=>h.elim));subst v;subst w;simp;(repeat (rw[Ν];simp));apply p;exact W.stop ⟨rfl,rfl,J⟩
  clear X;refine ZP λN p=>?_;refine Μ.call (first:=[]) (captured:=[]) ((M).mono (λr s ⟨v,w⟩=>?_) (λ_ _ h=>h.elim));subst v;subst w;simp;(repeat (rw[Ν];simp));apply p
  repeat apply Ξ
  refine Wr ?_;refine W.drop (h:=1) J J (Cb (by first|exact P2|exact Ei)) rfl [(13,R (aD:Nat)),(55,R (D:Nat))] J ?_;by_cases ad:D=0
  .subst ad;refine Χ ?_;refine Γ rfl ?_;refine Χ ?_;exact W.ret ⟨_,rfl,rfl,rfl⟩
  have aF:¬(D:Int)=0:=U;refine Ζ aF ?_;refine Η (by simp[ad]) ?_;by_cases ae:D=12
  .subst ae;refine Χ ?_;refine Γ rfl ?_;refine Χ ?_;exact W.ret ⟨_,rfl,rfl,rfl⟩
  have aG:¬(D:Int)=12:=U;refine Ζ aG ?_;refine Η (by simp[ae]) ?_;refine Χ ?_;exact W.ret ⟨_,rfl,by simp[ad,ae,MH],rfl⟩
theorem sN (l:Nat) (b:l<256):Κ prog 226 [R l] (Sy ((1 <<< Go.Sort.bitsLen l:Nat):Int)):=by
 refine Μ.body Υ func226 rfl rfl ntmps226 rfl rfl J ?_;have Φ:u64.wrap (l:Int)=l:=MG U;(repeat (first|apply Ξ|(refine Y8 λc a=>?_;simp;(repeat (rw[Ν];simp[Φ]));apply a)));(repeat apply Ξ);refine Y8 λc a=>?_;simp;(repeat (rw[Ν];simp[Φ]));refine Κ.d (Of l b) (ZY ?_);apply a;refine Χ ?_;refine W.ret ⟨_,rfl,.of ?_,rfl⟩;have f:=(Go.Sort.bitsLen_le_iff l 8).2 b;have e:=Gm 1 (Go.Sort.bitsLen l) U;have g:1*2 ^ Go.Sort.bitsLen l % 18446744073709551616=1 <<< Go.Sort.bitsLen l:=by
  rw[Nat.one_mul,Nat.one_shiftLeft,PC (OR (KZ U f) Z0)]
 rw[g] at e;show Sy (u64.wrap (2 ^ min (Go.Sort.bitsLen l) u64.bits))=_;rw[<-e];simp
theorem sM (x:Nat) (j:x<2 ^ 64):Μ prog 227 [.Ο 0 1 0 0] [.cells 248 1 [Sy (x:Int)]] (λr s=>r=Sy ((Go.Sort.xorNextN x:Nat):Int)/\s=[.cells 248 1 [Sy ((Go.Sort.xorNextN x:Nat):Int)]]) (λ_ _=>False):=by
 refine Μ.body Υ func227 rfl rfl ntmps227 rfl rfl J ?_;obtain⟨k,e⟩:=Ι (x*2 ^ 13 % 18446744073709551616);obtain⟨a,b⟩:=Ι (x^^^k);obtain⟨l,f⟩:=Ι (a / 2 ^ 7);obtain⟨c,d⟩:=Ι (a^^^l);obtain⟨m,g⟩:=Ι (c*2 ^ 17 % 18446744073709551616);obtain⟨B,h⟩:=Ι (c^^^m);have n:Go.Sort.xorNextN x=B:=by rw[h,g,d,f,b,e];rfl
 rw[n];have l1:k<2 ^ 64:=U;have i:a<2 ^ 64:=by rw[b];exact Nat.xor_lt_two_pow j l1
 have l2:l<2 ^ 64:=U
 have o:c<2 ^ 64:=by rw[d];exact Nat.xor_lt_two_pow i l2
 have p:m<2 ^ 64:=U
 have t:=Gm x 13 U;rw[<-e] at t;have u:=Gn j l1;rw[<-b] at u;have v:=s6 a 7 U;rw[<-f] at v;have w:=Gn i l2;rw[<-d] at w;have y:=Gm c 17 U;rw[<-g] at y;have A:=Gn o p;rw[<-h] at A;clear h g d f b e l1 i l2 o p n;refine Χ ?_;refine W0 (Τ t u) ?_;refine Χ ?_;refine W0 (Τ v w) ?_;refine Χ ?_;refine W0 (Τ y A) ?_;refine Χ ?_;exact W.ret ⟨_,rfl,rfl,rfl⟩
theorem sL (S:Tx) (aw:S=WL\/S=Wm) (d:Array (Int×Int)) (n a b:Nat) (ax:d.size=n) (aT:n<2 ^ 40) (aU:a+12<b) (aV:b<a+256) (aW:b<=n) (K:I) (ay:Int×Int->Int×Int->Int) (aX:ψ 0 K) (aY:∀x y,Xu prog K [S.enc x,S.enc y] (R (ay x y))) :
  Μ prog S.breakPatterns [.ms 0 n 0 n,R a,R b,K] [.cells S.t S.k ((d).toList.map S.enc)] (λr s=>r=.ZV []/\s=[.cells S.t S.k ((Go.Sort.breakPatterns d a b).toList.map S.enc)]) (λ_ _=>False):=by
 obtain⟨enc,az⟩:=Ι S.enc;rcases aw with rfl|rfl
 all_goals dsimp only[WL,Wm] at *
 refine Μ.body Υ func236 rfl rfl ntmps236 rfl rfl J ?_
 rotate_left
 refine Μ.body Υ func185 rfl rfl ntmps185 rfl rfl J ?_
 all_goals
  obtain⟨l,M⟩:=Ι (b-a);obtain⟨q,ad⟩:=Ι (l / 4);obtain⟨N,aA⟩:=Ι (q*2);obtain⟨c,aB⟩:=Ι (a+N);obtain⟨O,ae⟩:=Ι (c-1);obtain⟨P,aZ⟩:=Ι (c+1);obtain⟨m,Q⟩:=Ι (1 <<< Go.Sort.bitsLen l);have aC:Go.Sort.bitsLen l<=8:=(Go.Sort.bitsLen_le_iff l 8).2 U;have a0:l<m/\m<=256/\m<=2*l:=by
   have v:=Go.Sort.lt_two_pow_bitsLen l
   have w:=Go.Sort.two_pow_bitsLen_le (n:=l) U;rw[Q,Nat.one_shiftLeft];exact⟨v,X1 (KZ U aC) Z0,w⟩
  obtain⟨T,af⟩:=Zl (MI a l m 3 O (UInt64.ofNat l,d));have aD:Go.Sort.breakPatterns d a b=T.2:=by rw[s8 (c:=c) M U (by rw[aB,aA,ad]),<-Q,<-ae,af]
  rw[aD];have w1:i64.wrap ((b:Int)-(a:Int))=(l:Int):=by rw[i64_in _ U];omega
  have V:i64.wrap ((l:Int) / 4)=(q:Int):=by rw[ad];exact IF (m:=4) U
  have X:i64.wrap ((q:Int)*2)=(N:Int):=by rw[i64_in _ U];omega
  have Y:i64.wrap ((a:Int)+(N:Int))=(c:Int):=by rw[i64_in _ U];omega
  have aE:i64.wrap ((c:Int)-1)=(O:Int):=by rw[i64_in _ U];omega
  have ag:i64.wrap ((c:Int)+1)=(P:Int):=by rw[i64_in _ U];omega
  have aF:u64.wrap (l:Int)=(l:Int):=MG U
  have aG:u64.wrap ((m:Int)-1)=((m-1:Nat):Int):=by
   have e:(m:Int)-1=((m-1:Nat):Int):=U;rw[e];exact MG U
  have aH:(8:Int)<=(l:Int):=U
  have aI:(UInt64.ofNat l).toNat=l:=by rw[UInt64.toNat_ofNat'];exact PC U
  refine Ζ (Τ w1 @aH) ?_;refine Γ J ?_
  repeat apply Ξ
  refine Zj (A:=[9]) Υ λah p=>XF aF ?_;apply p;have ai:=sN l U;rw[<-Q] at ai;refine ZP λah p=>?_;refine Κ.c ai (ZT.refl _) J J ?_;simp;(repeat (rw[Ν];simp));apply p;refine Ζ (Τ V (Τ X (Τ Y aE))) ?_;refine W.iter (λy:Nat×UInt64×Array (Int×Int)=>y.1<=3/\y.2.2.size=n/\MI a l m y.1 (c+2-y.1) y.2=T) (λy=>[(0,.ms 0 n 0 n),(1,R a),(8,R (l:Nat)),(9,.Ο 1 1 0 0),(10,Sy (m:Nat)),(11,R (c+2-y.1:Nat))]) (λy=>[.cells _ _ ((y.2.2).toList.map _),.cells 248 1 [Sy ((y.2.1.toNat:Nat):Int)]]) (λy=>y.1) (3,UInt64.ofNat l,d) ⟨Z1 _,ax,by simp only;rw[<-af,show c+2-3=O by omega]⟩ (by simp only;rw[aI]) (by simp[ae]) (λy Z aJ=>?_);obtain⟨t,st,e⟩:=y;obtain⟨aK,aa,B⟩:=Z;simp only at aK aa B;obtain⟨f,aj⟩:=Ι (c+2-t);obtain⟨x,u⟩:=Ι st.toNat;have aL:x<2 ^ 64:=by rw[u];exact st.toNat_lt
  rw[<-aj] at B;refine W.to (σ':=[.cells _ _ ((e).toList.map _),.cells 248 1 [Sy ((x:Nat):Int)]]) (env':=[(0,.ms 0 n 0 n),(1,R a),(8,R (l:Nat)),(9,.Ο 1 1 0 0),(10,Sy (m:Nat)),(11,R (f:Nat))]) ?_ (by rw[u]) (by simp[aj]);cases t with
  | zero=>
   have g:¬(f:Int)<=(P:Int):=U;refine Ζ (Τ V (Τ X (Τ Y (Τ ag g)))) ?_;refine Η J ?_;refine W.exit rfl ?_;refine W.drop (h:=1) J J (Cb (by first|exact P2|exact Ei)) rfl [] J ?_;exact W.nil ⟨_,rfl,rfl,by rw[<-B];rfl⟩
  | succ t=>
   have g:(f:Int)<=(P:Int):=U;obtain⟨C,ak⟩:=Ι (Go.Sort.xorNext st);obtain⟨j,D⟩:=Ι C.toNat;have aM:j=Go.Sort.xorNextN x:=by rw[D,ak,Go.Sort.xorNext_toNat,u]
   have aN:j<2 ^ 64:=by rw[D];exact C.toNat_lt
   have al:=sM x aL;rw[<-aM] at al;obtain⟨z,ab⟩:=Ι (j&&&(m-1));have a1:z<=m-1:=by rw[ab];exact Nat.and_le_right
   have W4:XY .u64 (j:Int) ((m-1:Nat):Int)=(z:Int):=by rw[ab];exact s5 aN U
   have aO:i64.wrap (z:Int)=(z:Int):=i64_in _ U;obtain⟨o,E⟩:=Ι (if z>=l then z-l else z);have a2:o<l:=by rw[E];split<;>omega
   have am:MI a l m t (f+1) (C,Go.Sort.swp e f (a+o))=T:=by
    rw[<-B];show _=MI a l m t (f+1) (Go.Sort.breakStep a l m (st,e) f);unfold Go.Sort.breakStep;simp only;rw[<-ak,<-D,<-ab,<-E]
   obtain⟨F,aP⟩:=Ι (a+o);rw[<-aP] at am;refine Ζ (Τ V (Τ X (Τ Y (Τ ag g)))) ?_;refine Γ J ?_;refine ZP λah p=>?_;refine Μ.one al 1 rfl (by simp[V4]) (by simp[V4]) (by simp[Xh,Sd]) (by simp[Xh,Sd]) rfl ?_;simp[Yk,Wf];(repeat (rw[Ν];simp[aG,W4,aO]));apply p;refine W.to (σ':=[.cells _ _ ((e).toList.map _),.cells 248 1 [Sy ((j:Nat):Int)]]) (env':=[(0,.ms 0 n 0 n),(1,R a),(8,R (l:Nat)),(9,.Ο 1 1 0 0),(10,Sy (m:Nat)),(11,R (f:Nat)),(12,R (z:Nat))]) ?_ rfl J;refine Χ ?_;refine W.N1 [(0,.ms 0 n 0 n),(1,R a),(8,R (l:Nat)),(9,.Ο 1 1 0 0),(10,Sy (m:Nat)),(11,R (f:Nat)),(12,R (o:Nat))] (e) [.cells 248 1 [Sy ((j:Nat):Int)]] ?_ ?_
   .by_cases H:l<=z
    .have wo:i64.wrap ((z:Int)-(l:Int))=(o:Int):=by rw[i64_in _ U,E,if_pos H];omega
     refine Γ (by simp[H]) ?_;refine Ζ wo ?_;exact W.stop ⟨rfl,rfl,J⟩
    .refine Η (by simp[H]) ?_
     repeat apply Ξ
     exact W.stop ⟨rfl,rfl,by simp[E,H]⟩
   have aQ:i64.wrap ((a:Int)+(o:Int))=(F:Int):=by rw[i64_in _ U];omega
   have an:f<n:=U
   have ao:F<n:=U;obtain⟨L,x,y,ap,u,Z,M,⟨v,w⟩,⟨aq,ar⟩,au,a3,av⟩:=PN enc aa an ao;simp only[az] at ap v w aq ar au av;rw[ap];clear u Z
   repeat apply Ξ
   refine W0 (Τ M (Τ v (Τ w (Τ aq (Τ ar (Τ av (Τ an (Τ ao aQ)))))))) ?_;have aR:=XP (i:=f) U;refine Ζ aR ?_;refine W.to (aJ (t,C,Go.Sort.swp e f F) ⟨Yl,swp_size aa f F,?_⟩ J) (by rw[au,D]) (by simp[show c+2-t=f+1 by omega]);have aS:c+2-t=f+1:=U;simp only;rw[aS];exact am
end Go.TL
