import Derived.Sort.LotC
import Derived.Sort.LotD5
import Derived.Sort.Walk13a
import Derived.Test.YtlabjopijpkiaaaGreatLAI
set_option maxHeartbeats 16000000
set_option maxRecDepth 20000
set_option linter.unusedSectionVars false
set_option linter.unusedSimpArgs false
set_option linter.unusedVariables false
namespace Go.TL
open Go.IntWalk (i64_in)
open Go.IntKind (i64 u64)
open Go.Proofs.Tryz
open Go.Conc Go.ConcM Go.Proofs
open Go.ChangeShapes Go.WideShapes Go.ChangeAt Go.RowKit Go.Deep
section
variable {H:Type} {enc:TypeId×Value->H} {W:World}
theorem Ig {P:Program} {t:TypeId} {k:Nat} {b:Type} {c:b->Prop} {F:b->Ψ} (h:VQ enc P W t k c F):VQ enc P W t k (λ_=>True) F:=λd cs x e=>by
 obtain⟨a,_,f⟩:=h d cs x e;exact⟨a,trivial,f⟩
theorem F0:VQ enc prog W 29 1 (λl:ZZ=>l.length<2 ^ 63/\∀a∈l,True) (δ I 1):=K5 underlying29 Zr ZT (OR underlying3)
theorem sR:VQ enc prog W 23 1 (λ_:List (ZZ)=>True) ZM:=Ig (K5 underlying23 Zr ZT F0)
theorem FZ:VQ enc prog W 28 3 (λ_:YV=>True) Zi:=
 BT (λa b c=>(⟨a,b,c⟩:YV)) underlying28 U U U Zr Zr Zr Zr (OR underlying3) (OR underlying3) (OR underlying3) (λ_ _ _=>rfl) (λ_ _ _ _ _ _=>trivial)
theorem sQ:VQ enc prog W 77 (1+1) (λ_:U3=>True) XW:=
 sS (λa b=>(⟨a,b⟩:U3)) underlying77 U U Zr Zr Zr (sT underlying9) (OR underlying3) (λ_ _=>rfl) (λ_ _ _ _=>trivial)
theorem sP:VQ enc prog W 22 1 (λ_:List U3=>True) ZD:=Ig (K5 underlying22 Zr ZT sQ)
theorem sO:VQ enc prog W 60 1 (λ_:List YV=>True) UN:=Ig (K5 underlying60 Zr ZT FZ)
theorem sN:VQ enc prog W 24 1 (λ_:List (List YV)=>True) Sv:=Ig (K5 underlying24 Zr ZT sO)
theorem BS:VQ enc prog W 26 3 (λ_:ω=>True) Zq:=
 BT (λa b c=>(⟨a,b,c⟩:ω)) underlying26 U U U Zr Zr Zr Zr sP sR sN (λ_ _ _=>rfl) (λ_ _ _ _ _ _=>trivial)
theorem NT {t:TypeId} {b:Type} {c:b->Prop} {F:b->Ψ} (h:VQ enc prog W t 1 c F) (e:∀a,(F a).cells=[F a]) {v:Value} {d:DataW H} {f:List MemPlace} (hd:DataW.Trod enc prog W 0 (λ_=>true) true t v d f) (hv:v.cells.toList=[v]):∃a,c a/\υ (UW W) [] [] (F a) v:=by
 obtain⟨g,i⟩:=hd;obtain⟨a,j,_,_,k⟩:=h g _ _ i;exact⟨a,j,k 0 (F a) v (by rw[e];rfl) (by rw[hv];rfl)⟩
theorem Ie {t:TypeId} {k:Nat} {b:Type} {f:b->Prop} {F:b->Ψ} (h:VQ enc prog W t k f F) (j:∀a,F a=.ZW (F a).cells) {cs:ζ} {d:DataW H} {l:List MemPlace} (hd:DataW.Trod enc prog W 0 (λ_=>true) true t (.agg cs) d l):∃a,f a/\υ (UW W) [] [] (F a) (.agg cs):=by
 obtain⟨m,g⟩:=hd;have e:(Value.agg cs).cells.toList=cs.toList:=rfl;rw[e] at g;obtain⟨a,n,o,p,r⟩:=h m _ _ g;refine⟨a,n,?_⟩;rw[j a];exact .ZW cs (by rw[o,<-p];simp) λi c v s u=>r i c v s (by simpa using u)
theorem FY {P:Program} {g:World} (i:laidOutB P=true) (j:Below W.heap.size W g):∀{a:List TypeId} {vs:List Value} {ds:List (DataW H)} {c:List MemPlace},(∀t∈a,P.readableRec t=true/\t<P.types.size)->
  DataW.TrodAll enc P W 0 (λ_=>true) true a vs ds c->(∀x∈c,x.block<W.heap.size)->DataW.TrodAll enc P g 0 (λb=>decide (b<W.heap.size)) true a vs ds c
 | [],_,_,_,_,h,_=>by
  obtain⟨rfl,rfl,rfl⟩:=trodAll_nil h;exact trodAll_mk0
 | t::a,_,_,_,e,h,k=>by
  obtain⟨v,o,d,r,p,q,rfl,rfl,rfl,l,m⟩:=trodAll_cons h;exact trodAll_cons_mk (Below.trod i (e t Ω).1 (e t Ω).2 l j λx f=>k x (List.mem_append_left _ f)) (FY i j (λu n=>e u (by simp[n])) m λx f=>k x (List.mem_append_right _ f))
end
end Go.TL
namespace Go.TL
open Go.IntWalk (i64_in)
open Go.IntKind (i64 u64)
open Go.Proofs.Tryz
open Go.Proofs
variable [ZP]
theorem NS (n lo hi:Int):Κ prog 97 [I n,I lo,I hi] (ν (decide (lo<=n)&&decide (n<=hi))):=by
 refine Μ.body Ο func97 U U ntmps97 U U Ω ?_;by_cases a:lo<=n
 .refine Ι a ?_;refine W.ZA ?_;simp[a]
 .refine Ι a ?_;refine W.ZA ?_;simp[a]
theorem sM (l:List U3) (Q:l.length<2 ^ 30):Κ prog 106 [ZD l] (I (VG l)):=by
 refine Μ.body Ο func106 U U ntmps106 U U Ω ?_;by_cases b:l.length=0
 .refine Ι b ?_;refine Ζ Ω ?_;refine Χ ?_;refine W.ZA ?_;rw[show VG l=7 by simp[VG,b]];rfl
 by_cases p:(6:Int)<l.length
 .refine Ι (Υ b p) ?_;refine Η (by simp[b]) ?_;refine Ι (Υ b p) ?_;refine Ζ Ω ?_;refine Χ ?_;refine W.ZA ?_;rw[show VG l=6 by simp[VG,b];omega];rfl
 have E:VG l=WM ((List.range l.length).map (U2 l)):=by
  unfold VG;rw[if_neg b,if_neg J]
 rw[E];refine Ι (Υ b p) ?_;refine Η (by simp[b]) ?_;refine Ι (Υ b p) ?_;refine Η Ω ?_;refine Χ ?_;refine W.iter (λi:Nat=>i<=l.length/\∀j,j<i->U2 l j=0) (λi=>[(0,ZD l),(3,I i)]) (λ_=>[]) (λi=>l.length-i) 0 ⟨J,λj g=>J⟩ U Ω (λi hi F=>?_);refine Χ ?_;refine W.YH U (λa=>?_) (λa=>?_)
 .have a:i<l.length:=by simpa using a
  have m:l[i]?=some l[i]:=Z7 a
  have r:∀e:Int,U2 l i=e->e≠0->WM ((List.range l.length).map (U2 l))=e:=λe H v=>QP a H v hi.2
  have B:=Yn a (show l.length<2 ^ 62 by omega)
  repeat apply Ν
  refine W.Ry (A:=[]) Ο [(39,ν (UJ l[i].name)),(0,ZD l),(3,I i)] ?_ (by
   unfold UJ;by_cases f:(l[i].name.size:Int)=1
   .have c:l[i].name.size=1:=J
    cases s:LR l[i].name ⟨#[97]⟩
    ·(try simp);(repeat (rw[Θ];simp[f,s,c,a]));(try simp[f,s,c,a])
    ·(try simp);(repeat (rw[Θ];simp[f,s,c,a]));(try simp[f,s,c,a])
   .have c:¬l[i].name.size=1:=J
    (try simp);(repeat (rw[Θ];simp[f,c,a]));(try simp[f,c,a]))
  cases o:UJ l[i].name
  case true=>
   refine Ζ U ?_;refine Χ ?_;refine W.ZA ?_;rw[r 2 (by simp[U2,m,o]) ZT];rfl
  refine Η U ?_
  repeat apply Ν
  refine W.Pf (A:=[]) Ο mixed [(55,ν (decide (0<i)&&Vl l[i].name ((l[i-1]?.map (·.name)).getD ⟨#[]⟩))),(0,ZD l),(3,I i)] ?_ (by
   cases i with
   | zero=>
    simp;(repeat (rw[Z1];simp));(try rw[Z2]);refine⟨Yq Zr,?_⟩;simp
   | succ n=>
    have K:n<l.length:=J
    have L:=Yi (show n<2 ^ 62 by omega)
    have v:(0:Int)<(n:Int)+1:=J;simp;(repeat (rw[Z1];simp[v,K,L,a]));(try rw[Z2]);refine⟨J,?_⟩;refine⟨Yq Zr,?_⟩;simp)
  cases bo:decide (0<i)&&Vl l[i].name ((l[i-1]?.map (·.name)).getD ⟨#[]⟩)
  case true=>
   refine Ζ U ?_;refine Χ ?_;refine W.ZA ?_;rw[r 5 (by simp at bo;simp[U2,m,o,bo]) ZT];rfl
  refine Η U ?_;have bo':¬(0<i/\Vl l[i].name ((l[i-1]?.map (·.name)).getD ⟨#[]⟩)=true):=λh=>by simp[h] at bo
  refine XD a λR M=>?_;refine Κ.d (NS l[i].YJ 1 63) (Z9 ?_);apply M;by_cases w:l[i].YJ<1\/63<l[i].YJ
  case pos=>
   refine Ζ (by simp;omega) ?_;refine Χ ?_;refine W.ZA ?_;rw[r 1 (by simp only[U2,m,o];rw[if_neg bo',if_pos w];rfl) ZT];rfl
  refine Η (by simp;omega) ?_;refine Χ ?_;refine W.iter (λk:Nat=>k<=i/\∀j,j<k->(h:j<l.length)->l[j].YJ≠l[i].YJ) (λk=>[(0,ZD l),(3,I i),(4,I k)]) (λ_=>[]) (λk=>i-k) 0 ⟨J,λj g=>J⟩ U Ω (λk C N=>?_);refine Χ ?_;by_cases t:k<i
  .refine Ζ (by simp[t]) ?_;have O:k<l.length:=J;have D:=Yn t (show i<2 ^ 62 by omega)
   repeat apply Ν
   refine XJ (Υ a O) ?_;by_cases u:l[k].YJ=l[i].YJ
   .refine Ζ (by simp[u]) ?_;refine Χ ?_;have y:(l.take i).any (λx=>x.YJ==l[i].YJ)=true:=Me.2 ⟨l[k],KQ.2 ⟨k,J,U⟩,by simpa using u⟩;refine W.ZA ?_;rw[r 4 (by simp only[U2,m,o];rw[if_neg bo',if_neg w,y];rfl) ZT];rfl
   .refine Η (by simp[u]) ?_;refine Ι D ?_;refine W.to (N (k+1) ⟨t,λj g h=>?_⟩ J) U (by simp[D]);by_cases e:j=k
    .subst e;exact u
    .exact C.2 j J h
  .refine Η (by simp[t]) ?_;refine W.exit U ?_;obtain rfl:k=i:=J;have y:(l.take k).any (λx=>x.YJ==l[k].YJ)=false:=Pw.2 λx P=>by
    obtain⟨j,g,rfl⟩:=KQ.1 P;simpa using C.2 j J J
   refine Ι B ?_;refine W.to (F (k+1) ⟨a,λj g=>?_⟩ J) U (by simp[B]);by_cases e:j=k
   .subst e;simp only[U2,m,o];rw[if_neg bo',if_neg w,y];rfl
   .exact hi.2 j J
 .have a:l.length<=i:=by simpa using a
  refine W.exit U ?_;refine Χ ?_;refine W.ZA ?_;rw[QO λj g=>hi.2 j J];rfl
theorem sL (a:List (ZZ)) (P:a.length<2 ^ 30) (C:∀x∈a,x.length<2 ^ 30):Κ prog 107 [ZM a] (I (VF a)):=by
 refine Μ.body Ο func107 U U ntmps107 U U Ω ?_;by_cases c:a.length=0
 .refine Ι c ?_;refine Ζ Ω ?_;refine Χ ?_;refine W.ZA ?_;rw[show VF a=7 by simp[VF,c]];rfl
 by_cases m:(4:Int)<a.length
 .refine Ι (Υ c m) ?_;refine Η (by simp[c]) ?_;refine Ι (Υ c m) ?_;refine Ζ Ω ?_;refine Χ ?_;refine W.ZA ?_;rw[show VF a=6 by simp[VF,c];omega];rfl
 have D:VF a=WM ((List.range a.length).map λi=>QN ((a[i]?).getD [])):=by
  unfold VF;rw[if_neg c,if_neg J]
 rw[D];refine Ι (Υ c m) ?_;refine Η (by simp[c]) ?_;refine Ι (Υ c m) ?_;refine Η Ω ?_;refine Χ ?_;refine W.iter (λi:Nat=>i<=a.length/\∀j,j<i->QN ((a[j]?).getD [])=0) (λi=>[(0,ZM a),(3,I i)]) (λ_=>[]) (λi=>a.length-i) 0 ⟨J,λj k=>J⟩ U Ω (λi hi E=>?_);refine Χ ?_;refine W.YH U (λb=>?_) (λb=>?_)
 .have b:i<a.length:=by simpa using b
  have l:=Z7 b
  have F:a[i].length<2 ^ 30:=C _ (Yx b)
  have u:=Yn b (show a.length<2 ^ 62 by omega);obtain⟨L,v⟩:=Ε (a[i]);rw[<-v] at l F;have r:∀h,a[i]'h=L:=λh=>v.symm;have w:(a[i]?).getD []=L:=by rw[l];rfl
  refine Χ ?_;refine W.iter (λn:Nat=>n<=L.length/\∀j,j<n->St L j=0) (λn=>[(0,ZM a),(3,I i),(4,I n)]) (λ_=>[]) (λn=>L.length-n) 0 ⟨J,λj k=>J⟩ U Ω (λn s H=>?_);refine Ι (Υ l (Υ r b)) ?_;by_cases hd:n<L.length
  .refine Ζ (by simp[hd]) ?_;have t:L[n]?=some L[n]:=Z7 hd;have y:=Yn hd (show L.length<2 ^ 62 by omega);have B:∀e:Int,St L n=e->e≠0->WM ((List.range a.length).map λi=>QN ((a[i]?).getD []))=e:=λe K o=>
    QP (i:=i) b (by rw[w];exact QP hd K o s.2) o hi.2
   refine XD (Υ l (Υ r (Υ b hd))) λQ M=>?_;refine Κ.d (NS L[n] 0 2) (Z9 ?_);apply M;cases g:UL L[n]
   .refine Ζ (by unfold UL at g;simp at g;simp;omega) ?_;refine Χ ?_;refine W.ZA ?_;rw[B 3 (by simp[St,t,g]) ZT];rfl
   refine Η (by unfold UL at g;simp at g;simp;omega) ?_
   repeat apply Ν
   refine W.Pf (A:=[]) Ο mixed [(54,ν (decide (0<n/\L[n]<=(L[n-1]?).getD 0))),(0,ZM a),(3,I i),(4,I n)] ?_ (by
    cases n with
    | zero=>
    simp;(repeat (rw[Z1];simp));(try rw[Z2]);refine⟨Yq Zr,?_⟩;simp
    | succ n=>
     have N:n<L.length:=J
     have O:=Yi (show n<2 ^ 62 by omega)
     have o:(0:Int)<(n:Int)+1:=J;simp;(repeat (rw[Z1];simp[o,N,O,l,r,b,hd]));(try rw[Z2]);refine⟨J,?_⟩;refine⟨Yq Zr,?_⟩;simp)
   by_cases p:0<n/\L[n]<=(L[n-1]?).getD 0
   .refine Ζ (by simp only[p];rfl) ?_;refine Χ ?_;refine W.ZA ?_;rw[B 5 (by simp only[St,t,g];rw[if_neg Ω,if_pos p]) ZT];rfl
   .refine Η (by simp only[p];rfl) ?_;refine Ι y ?_;refine W.to (H (n+1) ⟨hd,λj k=>?_⟩ J) U (by simp[y]);by_cases e:j=n
    .subst e;simp only[St,t,g];rw[if_neg Ω,if_neg p]
    .exact s.2 j J
  .refine Η (by simp[hd]) ?_;refine W.exit U ?_;refine Ι u ?_;refine W.to (E (i+1) ⟨b,λj k=>?_⟩ J) U (by simp[u]);by_cases e:j=i
   .subst e;rw[w];exact QO λj k=>s.2 j J
   .exact hi.2 j J
 .have b:a.length<=i:=by simpa using b
  refine W.exit U ?_;refine Χ ?_;refine W.ZA ?_;rw[QO (f:=λi=>QN ((a[i]?).getD [])) λj k=>hi.2 j J];rfl
theorem sK (s:ω) (E:s.θ.length<2 ^ 30) (a:List YV) (A:a.length<2 ^ 62) (p:YV):Κ prog 108 [Zq s,UN a,Zi p] (I (Xw s a p)):=by
 refine Μ.body Ο func108 U U ntmps108 U U Ω ?_;have v:i64.wrap ((s.θ.length:Int)-1)=(s.θ.length:Int)-1:=i64_in _ J;refine Χ ?_;refine XD v λt f=>?_;refine Κ.d (NS p.YX 0 ((s.θ.length:Int)-1)) (XK v ?_);apply f;by_cases g:p.YX<0\/(s.θ.length:Int)<=p.YX
 case pos=>
  refine Ζ (by simp;omega) ?_;refine Χ ?_;refine W.ZA ?_;rw[show Xw s a p=3 by unfold Xw;rw[if_pos g]];rfl
 refine Η (by simp;omega) ?_;refine Χ ?_;refine W.iter (λi:Nat=>i<=a.length/\∀j,j<i->(h:j<a.length)->a[j].YX≠p.YX) (λi=>[(1,UN a),(5,.ξ [I p.YX,I p.seen,I p.bare]),(7,I i)]) (λ_=>[]) (λi=>a.length-i) 0 ⟨J,λj u=>J⟩ U Ω (λi hi B=>?_);refine Χ ?_;refine W.YH U (λc=>?_) (λc=>?_)
 .have c:i<a.length:=by simpa using c
  have w:=Yn c A
  repeat apply Ν
  refine XJ c ?_;by_cases o:a[i].YX=p.YX
  .refine Ζ (by simp[o]) ?_;refine Χ ?_;have k:a.any (λx=>x.YX==p.YX)=true:=Me.2 ⟨_,Yx c,by simpa using o⟩;refine W.ZA ?_;rw[show Xw s a p=4 by unfold Xw;rw[if_neg g,if_pos k]];rfl
  .refine Η (by simp[o]) ?_;refine Ι w ?_;refine W.to (B (i+1) ⟨c,λj u h=>?_⟩ J) U (by simp[w]);by_cases e:j=i
   .subst e;exact o
   .exact hi.2 j J h
 have c:a.length<=i:=by simpa using c
 refine W.exit U ?_;have k:a.any (λx=>x.YX==p.YX)=false:=Pw.2 λx C=>by
  obtain⟨j,u,rfl⟩:=S8 C;simpa using hi.2 j J u
 have D:∀b,(decide (0<=b)&&decide (b<=63))=valid b:=λb=>rfl
 have y:(valid p.seen=false\/valid p.bare=false)->Xw s a p=1:=λh=>by unfold Xw;rw[if_neg g,k];simp[h]
 have w1:=NS p.seen 0 63
 have l:=NS p.bare 0 63;rw[D] at w1 l;cases m:valid p.seen
 case false=>
  rw[m] at w1;rw[y (.inl m)];refine Z8 λt f=>?_;refine Κ.d (w1) (Z9 ?_);apply f;refine Ζ U ?_;refine Χ ?_;refine W.rt ?_;exact .of U
 rw[m] at w1;cases n:valid p.bare
 case false=>
  rw[n] at l;rw[y (.inr n)];refine Z8 λt f=>?_;refine Κ.d (w1) (Z9 ?_);refine Κ.d (l) (Z9 ?_);apply f;refine Ζ U ?_;refine Χ ?_;refine W.rt ?_;exact .of U
 rw[n] at l;refine Z8 λt f=>?_;refine Κ.d (w1) (Z9 ?_);refine Κ.d (l) (Z9 ?_);apply f;refine Η U ?_;refine Χ ?_;by_cases r:UM p.seen p.bare=0
 .refine Η (by simp[r]) ?_;refine Χ ?_;refine W.ZA ?_;rw[show Xw s a p=0 by unfold Xw;rw[if_neg g,k];simp[m,n,r]];rfl
 .refine Ζ (by simp[r]) ?_;refine Χ ?_;refine W.ZA ?_;rw[show Xw s a p=9 by unfold Xw;rw[if_neg g,k];simp[m,n,r]];rfl
def NR (s:ω) (c:List YV) (n:Nat):Int:=((c[n]?).map (Xw s (c.take n))).getD 0
theorem MD (s:ω) (c:s.small):Κ prog 49 [Zq s] (I s.err):=by
 refine Μ.body Ο func49 U U ntmps49 U U Ω ?_;refine Χ ?_;refine Z8 λu k=>?_;refine Κ.d (sM s.χ c.1) (Z9 ?_);apply k;refine Χ ?_;by_cases l:VG s.χ=0
 case neg=>
  refine Ζ (by simp[l]) ?_;refine Χ ?_;refine W.ZA ?_;rw[show s.err=VG s.χ by unfold ω.err;rw[if_pos l]];rfl
 refine Η (by simp[l]) ?_;refine Z8 λu k=>?_;refine Κ.d (sL s.θ c.2.1 c.2.2.2.1) (Z9 ?_);apply k;refine Χ ?_;by_cases o:VF s.θ=0
 case neg=>
  refine Ζ (by simp[o]) ?_;refine Χ ?_;refine W.ZA ?_;rw[show s.err=VF s.θ by unfold ω.err;rw[if_neg (by simp[l]),if_pos o]];rfl
 refine Η (by simp[o]) ?_;have e:s.err=SW s:=by unfold ω.err;rw[if_neg (by simp[l]),if_neg (by simp[o])]
 rw[e];have P:=c.2.2.1;by_cases v:(4:Int)<s.cells.length
 .refine Ι v ?_;refine Ζ Ω ?_;refine Χ ?_;refine W.ZA ?_;rw[show SW s=6 by simp[SW];omega];rfl
 have w:SW s=WM ((List.range s.cells.length).map λi=>U1 s ((s.cells[i]?).getD [])):=by
  unfold SW;rw[if_neg J]
 rw[w];clear e w;refine Ι v ?_;refine Η Ω ?_;refine Χ ?_;refine W.iter (λi:Nat=>i<=s.cells.length/\∀j,j<i->U1 s ((s.cells[j]?).getD [])=0) (λi=>[(1,ZV s),(5,I i)]) (λ_=>[]) (λi=>s.cells.length-i) 0 ⟨J,λj m=>J⟩ U Ω (λi hi H=>?_);refine Χ ?_;refine W.YH U (λa=>?_) (λa=>?_)
 .have a:i<s.cells.length:=by simpa using a
  have g:=Z7 a
  have K:s.cells[i].length<2 ^ 30:=c.2.2.2.2 _ (Yx a)
  have x:=Yn a (show s.cells.length<2 ^ 62 by omega);obtain⟨L,y⟩:=Ε (s.cells[i]);rw[<-y] at g K;have p:∀h,s.cells[i]'h=L:=λh=>y.symm;have B:(s.cells[i]?).getD []=L:=by rw[g];rfl
  have C:∀e:Int,U1 s L=e->e≠0->WM ((List.range s.cells.length).map λi=>U1 s ((s.cells[i]?).getD []))=e:=λe M N=>
   QP (i:=i) a (by rw[B];exact M) N hi.2
  by_cases r:(4:Int)<L.length
  .refine Ι (Υ g (Υ p (Υ a r))) ?_;refine Ζ (by simp[r]) ?_;refine Χ ?_;refine W.ZA ?_;rw[C 6 (by unfold U1;rw[if_pos J]) ZT];rfl
  refine Ι (Υ g (Υ p (Υ a r))) ?_;refine Η Ω ?_;refine Χ ?_;have D:U1 s L=WM ((List.range L.length).map (NR s L)):=by
   unfold U1;rw[if_neg J];congr 1;refine Mh λn _=>?_;unfold NR;cases L[n]?<;>rfl
  refine W.iter (λn:Nat=>n<=L.length/\∀j,j<n->NR s L j=0) (λn=>[(1,ZV s),(5,I i),(6,I n)]) (λ_=>[]) (λn=>L.length-n) 0 ⟨J,λj m=>J⟩ U Ω (λn t O=>?_);refine Ι (Υ g (Υ p a)) ?_;by_cases hd:n<L.length
  .refine Ζ (by simp[hd]) ?_;have E:L[n]?=some L[n]:=Z7 hd;have F:=Yn hd (show L.length<2 ^ 62 by omega)
   repeat apply Ν
   refine W.draw (A:=[]) Ο mixed λu k=>?_;simp;(repeat (rw[Z1];simp[g,p,a,hd,SM hd]));try rw[Z2]
   (try simp only[<-Ny]);refine Zc (Κ.q (sK s c.2.1 (L.take n) (by simp;omega) L[n])) (Xa ?_);refine Zf (k _ _ ?_);refine Χ ?_;by_cases b:Xw s (L.take n) L[n]=0
   .refine Η (by simp[b]) ?_;refine Ι F ?_;refine W.to (O (n+1) ⟨hd,λj m=>?_⟩ J) U (by simp[F]);by_cases e:j=n
    .subst e;unfold NR;rw[E];exact b
    .exact t.2 j J
   .refine Ζ (by simp[b]) ?_;refine Χ ?_;refine W.ret ⟨_,U,?_,U⟩;have:=C (Xw s (L.take n) L[n]) (by rw[D];exact QP (f:=NR s L) hd (by unfold NR;rw[E];rfl) b t.2) b;rw[this];exact .of U
  .refine Η (by simp[hd]) ?_;refine W.exit U ?_;refine Ι x ?_;refine W.to (H (i+1) ⟨a,λj m=>?_⟩ J) U (by simp[x]);by_cases e:j=i
   .subst e;rw[B,D];exact QO (f:=NR s L) λj m=>t.2 j J
   .exact hi.2 j J
 .have a:s.cells.length<=i:=by simpa using a
  refine W.exit U ?_;refine Χ ?_;refine W.ZA ?_;rw[QO (f:=λi=>U1 s ((s.cells[i]?).getD [])) λj m=>hi.2 j J];rfl
theorem MC (d:Zd) {a b:Int} (h:a<=b) (c:-1000<a) (e:b<1000):a<=TO d a b/\TO d a b<=b:=by
 unfold TO;rw[i64_in (b-a) J];obtain⟨t0,t1⟩:=SQ d (b-a) J J;generalize W9 d (b-a)=x at t0 t1;rw[i64_in (a+x) J];omega
theorem sJ (l:ZZ) (k:Nat) (x:Int):(RR l k x).Perm (x::l):=by
 unfold RR;have h:(l.take k++x::l.drop k).Perm (x::(l.take k++l.drop k)):=List.perm_middle
 rwa [OK] at h
theorem BR (d:Zd) (n:Nat):(WH d n).1.Perm ((List.range n).map λ(i:Nat)=>(i:Int)):=by
 induction n with
 | zero=>exact .refl _
 | succ n a=>
  show(RR _ _ _).Perm _;refine(sJ _ _ _).trans ?_;rw[UB,XA];refine(List.Perm.cons _ a).trans ?_;exact(List.perm_append_singleton _ _).symm
theorem FX {d:Zd} {n:Nat} {x:Int} (h:x∈(WH d n).1):0<=x/\x<n:=by
 have:=(BR d n).mem_iff.1 h;obtain⟨i,hi,rfl⟩:=YO.1 this;have:=UT.1 hi;omega
theorem FW (d:Zd) (n:Nat):(WH d n).1.Nodup:=by
 refine(BR d n).nodup_iff.2 ?_;unfold List.Nodup;rw[KD];exact Kz.imp λh e=>h J
structure Rh (l:List U3):Prop where
 lo:1<=l.length
 hi:l.length<=6
 each:∀g∈l,UJ g.name=false/\1<=g.YJ/\g.YJ<=63
 sI:l.Pairwise λa b=>Vl b.name a.name=false
 apart:l.Pairwise λa b=>a.YJ≠b.YJ
def S0 (i:Nat):ByteArray:=⟨#[[97,98,99,100,111,122].getD i 0]⟩
def Ve:ZZ:=[4,9,6,12,48,8,3,16,5,10,20]
def Un (a:ZZ) (b:Int) (i:Nat):U3:=⟨S0 i,(Ve++[b]).getD ((a.getD i 0).toNat) 0⟩
structure Made (a:ZZ):Prop where
 len:a.length=11
 mem:∀x∈a,0<=x/\x<11
 nodup:a.Nodup
theorem sH (d:Zd):Made (WH d 11).1:=⟨Ih d 11,λ_ h=>FX h,FW d 11⟩
theorem Made.get {a:ZZ} (h:Made a) {i:Nat} (hi:i<11):∃k:Nat,k<11/\a[i]?=some (k:Int)/\∀c,(Ve++[c])[k]?=some (Ve.getD k 0)/\1<=Ve.getD k 0/\Ve.getD k 0<=63:=by
 have d:=h.len
 have e:=h.mem _ (Yx (l:=a) (n:=i) J);refine⟨(a[i]).toNat,J,by rw[Z7 J];congr 1;omega,λc=>?_⟩;have b:(a[i]).toNat<11:=J;generalize (a[i]).toNat=k at b;rw[Yz (by simpa[Ve] using b)];have:∀k<11,Ve[k]?=some (Ve.getD k 0)/\1<=Ve.getD k 0/\Ve.getD k 0<=63:=ZT;exact this k b
theorem sG:∀a<11,∀b<11,Ve.getD a 0=Ve.getD b 0->a=b:=ZT
theorem sF:∀i<6,UJ (S0 i)=false:=by decide +kernel
theorem sE:∀j<6,∀i<j,Vl (S0 j) (S0 i)=false:=by decide +kernel
theorem Ic {a:ZZ} (h:Made a) (b:Int) {i:Nat} (hi:i<11):∃k:Nat,k<11/\a[i]?=some (k:Int)/\(Un a b i).YJ=Ve.getD k 0/\1<=Ve.getD k 0/\Ve.getD k 0<=63:=by
 obtain⟨k,d,c,e⟩:=h.get hi;obtain⟨f,g,j⟩:=e b;refine⟨k,d,c,?_,g,j⟩;unfold Un;rw[show a.getD i 0=(k:Int) from by rw[WB,c];rfl,Int.toNat_natCast];show(Ve++[b]).getD k 0=_;rw[WB,f];rfl
theorem sD {d:ZZ} (h:Made d) (c:Int) {i j:Nat} (hi:i<11) (f:j<11) (e:(Un d c i).YJ=(Un d c j).YJ):i=j:=by
 obtain⟨a,g,k,l,_⟩:=Ic h c hi;obtain⟨b,m,n,o,_⟩:=Ic h c f;rw[l,o] at e;have:=sG a g b m e;subst this;have p:=h.len;exact(List.getElem?_inj J h.nodup).1 (k.trans n.symm)
theorem sC {m:ZZ} (h:Made m) (l:Int) {d:ο} (n:d.Pairwise (· < ·)) (f:∀j∈d,j<6) (p:1<=d.length) (r:d.length<=6):Rh (d.map (Un m l)):=by
 refine⟨by simpa using p,by simpa using r,λg s=>?_,?_,?_⟩
 .obtain⟨j,t,rfl⟩:=YO.1 s;have:=f j t;obtain⟨k,_,_,e,u,Ρ⟩:=Ic h l (i:=j) J;exact⟨sF j this,J,J⟩
 .rw[KD];refine(KU.2 λ{a b} c=>?_);have o:=(KU.1 n) c;exact sE b (f b (c.subset Ω)) a o
 .rw[KD];refine(KU.2 λ{a b} c=>λe=>?_);have o:=(KU.1 n) c;have v:=f a (c.subset Ω);have w:=f b (c.subset Ω);have:=sD h l J J e;omega
theorem Rh.set {l:List U3} (h:Rh l) {k:Nat} (y:k<l.length) {x:Int} (t:1<=x) (u:x<=63) (o:∀g∈l,g.YJ≠x):Rh (l.set k ⟨l[k].name,x⟩):=by
 have get:∀(i:Nat) (hi:i<(l.set k ⟨l[k].name,x⟩).length),(l.set k ⟨l[k].name,x⟩)[i].name=(l[i]'(by simpa using hi)).name/\((l.set k ⟨l[k].name,x⟩)[i].YJ=x/\i=k\/(l.set k ⟨l[k].name,x⟩)[i].YJ=(l[i]'(by simpa using hi)).YJ/\i≠k):=by
  intro i hi;rw[List.getElem_set];split
  .rename_i e;subst e;exact⟨U,.inl ⟨U,U⟩⟩
  .rename_i e;exact⟨U,.inr ⟨U,λh=>e h.symm⟩⟩
 refine⟨by simpa using h.lo,by simpa using h.hi,λg v=>?_,?_,?_⟩
 .obtain⟨i,hi,rfl⟩:=S8 v;obtain⟨f,Ρ⟩:=get i hi;obtain⟨a,b,c⟩:=h.each _ (Yx (l:=l) (n:=i) (by simpa using hi));rw[f];rcases Ρ with⟨Ρ,_⟩|⟨Ρ,_⟩<;>rw[Ρ]
  .exact⟨a,t,u⟩
  .exact⟨a,b,c⟩
 .rw[Rc];intro i j hi d m;rw[(get i hi).1,(get j d).1];exact Rc.1 h.sI i j (by simpa using hi) (by simpa using d) m
 .rw[Rc];intro i j hi d m;have p:i<l.length:=by simpa using hi
  have r:j<l.length:=by simpa using d
  rcases(get i hi).2 with⟨f,Ρ⟩|⟨f,Ρ⟩<;>rcases(get j d).2 with⟨s,w⟩|⟨s,w⟩<;>rw[f,s]
  .omega
  .exact λe=>o _ (Yx r) e.symm
  .exact λe=>o _ (Yx p) e
  .exact Rc.1 h.apart i j p r m
def Rg (g:FuncId) (args:μ) (d:Zd) (R:Ψ->Prop):Prop:=Μ prog g (.Δ 0 1 0 0::args) [ZF d] (λa s=>∃r b,YR a r/\R r/\s=[ZF b]/\b.Z0.length<=d.Z0.length) (λ_ _=>False)
theorem Rg.c {g:FuncId} {args f:μ} {d:Zd} {R:Ψ->Prop} {σ:Ξ} {K E:Ψ->Ξ->Prop} (h:Rg g args d R) (id:Nat) (m:σ[id]?=some (ZF d)) (n:ZN f args) (k:∀a∈f,ς 0 a) (l:∀r,R r->ς 0 r) (o:∀r b,R r->b.Z0.length<=d.Z0.length->K r (σ.set id (ZF b))):Wm prog (.fn (.func g) [] []) (.Δ id 1 0 0::f) σ K E:=by
 refine Μ.I6 (as0:=.Δ 0 1 0 0::f) (K0:=λa s=>∃b,R a/\s=[ZF b]/\b.Z0.length<=d.Z0.length) (Μ.Tt h (.cons (.refl _) n) λa s ⟨r,b,e,i,j,p⟩=>⟨r,e,b,i,j,p⟩) id m (RS d) ?_ ?_ ?_
 .intro a hm;rcases Y9.1 hm with rfl|hm
  .exact Nat.zero_lt_one
  .exact(k a hm).Vr 1
 .rw[WZ,B2 k];rfl
 .rintro a s ⟨b,e,i,j⟩;exact⟨ZF b,i,RS b,(l a e).Vr 1,by rw[(l a e).Yh];exact o a b e j⟩
section
variable {P:Program} {m nt:Nat} {k:Zz} {env:Β} {Z:XO} {E:Ya}
theorem W.BQ {d:Zd} {t kk n:Nat} {l:μ} {x:Nat} (f:m<=1) (g:l.length=n) (h:∀e∈l,∀a∈e.cells,ς 0 a) (hd:Z3 env x=.ms 1 n 0 n) (i:W P m nt k [(x,.sl false kk l)] [ZF d] Z E):W P m nt k env [ZF d,.cells t kk l] Z E:=
 W.cut 1 f [(x,.sl false kk l)] Ω (λid r s b=>by
  have:id=0:=J;subst this;simp at b;subst b;exact SP d 1) (λp c=>by
  simp at c;subst c;show X' 1 _ (Z3 env x) _;rw[hd];exact .own (t:=t) (Z6 _) U g (λe j a o=>(h e j a o).mono (Α _))) (by simpa using i)
end
theorem Tf {l:List U3}:∀e∈l.map XW,∀a∈e.cells,ς 0 a:=λe c a b=>by
 obtain⟨x,_,rfl⟩:=YO.1 c;simp[Ψ.cells] at b;rcases b with rfl|rfl<;>exact .z _
def MB:List ByteArray:=[⟨#[97]⟩,⟨#[98]⟩,⟨#[99]⟩,⟨#[100]⟩,⟨#[111]⟩,⟨#[122]⟩]
theorem sB:∀i<6,MB[i]?=some (S0 i):=ZT
structure BP where
 i:Nat
 d:Zd
 XI:ο
theorem sA (d:Zd) (hd:d.Z0.length<2 ^ 63) (H:Nat) (bn:1<=H) (bo:H<=6):Rg 128 [I H] d (λr=>∃l,r=ZD l/\Rh l/\l.length<=H):=by
 unfold Rg;refine Μ.body Ο func128 U U ntmps128 U U Ω ?_;refine Χ ?_;obtain⟨aD,l1⟩:=MC d (a:=1) (b:=63) ZT ZT ZT;obtain⟨m,aE⟩:=ZG (TO d 1 63);obtain⟨d1,aF⟩:=ZG (d.after (i64.wrap (63-1)));have a7:d1.Z0.length<=d.Z0.length:=by rw[<-aF];exact WE _ _
 have aG:=OS d hd 1 63;rw[aE,aF] at aG;rw[aE] at aD l1;refine Z8 λag K=>?_;refine YM.g (aG) (Z9 ?_);apply K
 repeat apply Ν
 have aH:=F2 d1 J 11 ZT
 have Z:=sH d1
 have aI:=XQ (Ii d1 11) a7;obtain⟨v,aJ⟩:=ZG ((WH d1 11).1);obtain⟨d2,aK⟩:=ZG ((WH d1 11).2);rw[aJ] at Z;rw[aJ,aK] at aH;rw[aK] at aI;refine Z8 λag K=>?_;refine YM.g (aH) (Z9 ?_);apply K;refine Χ ?_;obtain⟨a8,a9⟩:=MC d2 (a:=1) (b:=H) J ZT J;obtain⟨n,aL⟩:∃n:Nat,TO d2 1 H=n:=⟨(TO d2 1 H).toNat,J⟩;rw[aL] at a8 a9;obtain⟨d3,aM⟩:=ZG (d2.after (i64.wrap ((H:Int)-1)));have a':d3.Z0.length<=d.Z0.length:=by rw[<-aM];exact XQ (WE _ _) aI
 have aN:=OS d2 J 1 H;rw[aL,aM] at aN;refine Z8 λag K=>?_;refine YM.g (aN) (Z9 ?_);apply K;refine Χ ?_;have u:MB.length=6:=rfl;have ah:(Ve++[m]).length=12:=by simp[Ve]
 obtain⟨O,ai⟩:=Ε (Ve++[m]);rw[<-ai] at ah;have ba:∀f:ο,(f.map (Un v m)).length=f.length:=λf=>X2 _;refine W.iter (λx:BP=>x.i<=6/\x.d.Z0.length<=d.Z0.length/\x.XI.Pairwise (· < ·)/\(∀j∈x.XI,j<x.i)/\x.XI.length<=n/\n+x.i<=6+x.XI.length)
  (λx=>[(0,.Δ 0 1 0 0),(5,.sl true 1 (MB.map U4)),(6,.sl true 1 (O.map I)),(7,δ I 1 v),(8,Y2 1 ((x.XI.map (Un v m)).map XW)),(9,I n),(10,I x.i)])
  (λx=>ZF x.d::ZL 77 2 ((x.XI.map (Un v m)).map XW)) (λx=>6-x.i) ⟨0,d3,[]⟩ ⟨Ω,a',Ω,Ω,Ω,by simp;omega⟩ U (by rw[ai];intro p aO;simp only[Y9,Yb,or_false] at aO;rcases aO with rfl|rfl|rfl|rfl|rfl|rfl|rfl<;>rfl) (λx au aj=>?_)
 obtain⟨i,B,f⟩:=x;obtain⟨bb,av,ak,aa,aP,bc⟩:=au;simp only at bb av ak aa aP bc aj ⊢;obtain⟨G,S⟩:=Ε (f.map (Un v m));have o:G.length=f.length:=by rw[S];exact ba f
 rw[<-S];have T:(Y2 1 (G.map XW)=.sl true 0 []/\ZL 77 2 (G.map XW)=[]/\f.length=0)\/(Y2 1 (G.map XW)=.ms 1 f.length 0 f.length/\ZL 77 2 (G.map XW)=[.cells 77 2 (G.map XW)]/\0<f.length):=by
  by_cases V:G=[]
  .subst V;exact .inl ⟨U,U,by simpa using o.symm⟩
  .have aQ:G.map XW≠[]:=by simpa using V
   refine .inr ⟨by rw[W2 aQ,X2,o],Yd aQ,?_⟩;have:=RN.2 V;omega
 repeat apply Ν
 refine W.Xq (A:=[]) Ο [(35,ν (decide (i<6)&&decide (f.length<n))),(0,.Δ 0 1 0 0),(5,.sl true 1 (MB.map U4)),(6,.sl true 1 (O.map I)),(7,δ I 1 v),(8,Y2 1 (G.map XW)),(9,I n),(10,I i)] (ZF B::ZL 77 2 (G.map XW)) ?_ (by
  by_cases hi:i<6
  .have al:(i:Int)<6:=J
   rcases T with⟨s,Ρ,t⟩|⟨s,Ρ,t⟩
   .rw[s,Ρ];(try simp);(repeat (rw[Θ];simp[al,u,t,hi]));(try simp[al,u,t,hi])
   .rw[s,Ρ];(try simp);(repeat (rw[Θ];simp[al,u,o,hi]));(try simp[al,u,o,hi])
  .have hi:i=6:=J
   subst hi;rcases T with⟨s,Ρ,t⟩|⟨s,Ρ,t⟩
   .rw[s,Ρ];(try simp);(repeat (rw[Θ];simp[u]));(try simp[u])
   .rw[s,Ρ];(try simp);(repeat (rw[Θ];simp[u]));(try simp[u]))
 refine W.YH U (λN=>?_) (λN=>?_)
 .simp only[VO,decide_eq_true_eq] at N;obtain⟨hi,aR⟩:=N;have E:i64.wrap (6-(i:Int))=6-i:=i64_in _ J;have D:i64.wrap ((n:Int)-f.length)=n-f.length:=i64_in _ J;have L:i64.wrap ((i:Int)+1)=((i+1:Nat):Int):=by rw[i64_in _ J];omega
  repeat apply Ν
  have aw:B.Z0.length<2 ^ 63:=J
  have X:=F4 B aw 3 ZT ZT;obtain⟨ax,ay⟩:=ZG (NU B 3);obtain⟨ab,ad⟩:=ZG (B.after (3-1));have bd:ab.Z0.length<=d.Z0.length:=by rw[<-ad];exact XQ (WE _ _) av
  rw[ay,ad] at X;obtain⟨w,M⟩:∃x,x=if(n:Int)-f.length<6-i then ab else B:=⟨_,U⟩
  have ae:w.Z0.length<=d.Z0.length:=by rw[M];split<;>assumption
  refine W.Xq (A:=[]) Ο [(50,ν (decide ((n:Int)-f.length<6-i)&&ax)),(0,.Δ 0 1 0 0),(5,.sl true 1 (MB.map U4)),(6,.sl true 1 (O.map I)),(7,δ I 1 v),(8,Y2 1 (G.map XW)),(9,I n),(10,I i)] (ZF w::ZL 77 2 (G.map XW)) ?_ (by
   by_cases C:(n:Int)-f.length<6-i
   .rw[if_pos C] at M;rw[M];rcases T with⟨s,Ρ,t⟩|⟨s,Ρ,t⟩
    .rw[s,Ρ];rw[t] at C D;simp only[Int.natCast_zero,Int.sub_zero] at C D;(try simp);(repeat (rw[Θ];simp[u,E,D,C,t]));(try simp[u,E,D,C,t]);refine YM.c (X) 0 U (ZN.refl _) Ω Ω ?_;simp;(repeat (rw[Θ];simp));(try simp)
    .rw[s,Ρ];(try simp);(repeat (rw[Θ];simp[u,E,D,C,o]));(try simp[u,E,D,C,o]);refine YM.c (X) 0 U (ZN.refl _) Ω Ω ?_;simp;(repeat (rw[Θ];simp));(try simp)
   .rw[if_neg C] at M;rw[M];rcases T with⟨s,Ρ,t⟩|⟨s,Ρ,t⟩
    .rw[s,Ρ];rw[t] at C D;simp only[Int.natCast_zero,Int.sub_zero] at C D;(try simp);(repeat (rw[Θ];simp[u,E,D,C,t]));(try simp[u,E,D,C,t])
    .rw[s,Ρ];(try simp);(repeat (rw[Θ];simp[u,E,D,C,o]));(try simp[u,E,D,C,o]))
  refine W.YH U (λY=>?_) (λY=>?_)
  .simp only[VO,decide_eq_true_eq] at Y;refine W.exit U ?_;refine Ι L ?_;refine W.to (aj ⟨i+1,w,f⟩ ⟨by show i+1<=6;omega,ae,ak,λj F=>by have:=aa j F;show j<i+1;omega,aP,by show n+(i+1)<=6+f.length;omega⟩ (by show 6-(i+1)<6-i;omega)) (by rw[S]) ?_;rw[<-S];simp[L]
  .have am:n+i+1<=6+f.length+1:=J
   obtain⟨k,az,af,P⟩:=Z.get (i:=i) J;obtain⟨P,_,_⟩:=P m;have an:Un v m i=⟨S0 i,Ve.getD k 0⟩:=by
    obtain⟨be,_,aS,e,_⟩:=Ic Z m (i:=i) J;rw[af] at aS;have bf:be=k:=by have:=WW aS;omega
    subst bf;show(⟨S0 i,(Un v m i).YJ⟩:U3)=_;rw[e]
   obtain⟨st,aT⟩:=ZG (Ve.getD k 0);rw[aT] at an;rw[aT,<-ai] at P;have ao:=sB i hi;have aU:∀h,MB[i]'h=S0 i:=λh=>by rw[Z7 h] at ao;exact WW ao
   have aV:∀h,v[i]'h=(k:Int):=λh=>by rw[Z7 h] at af;exact WW af
   have aW:∀h,O[k]'h=st:=λh=>by rw[Z7 h] at P;exact WW P
   have aX:=Z.len
   have ap:(G++[Un v m i])=(f++[i]).map (Un v m):=by rw[S];simp
   repeat apply Ν
   have aq:(G++[Un v m i]).map XW≠[]:=Ω
   have aY:(⟨i+1,w,f++[i]⟩:BP).i<=6/\w.Z0.length<=d.Z0.length/\(f++[i]).Pairwise (· < ·)/\(∀j∈f++[i],j<i+1)/\(f++[i]).length<=n/\n+(i+1)<=6+(f++[i]).length:=by
    refine⟨hi,ae,?_,?_,?_,?_⟩
    .rw[NF];exact⟨ak,Ω,λa bg b aZ=>by simp at aZ;subst aZ;exact aa a bg⟩
    .intro j F;rcases V4.1 F with F|F
     .have:=aa j F;omega
     .simp at F;omega
    .simp;omega
    .simp;omega
   rcases T with⟨s,Ρ,t⟩|⟨s,Ρ,t⟩
   .rw[s,Ρ];refine W.draw (A:=[65]) Ο mixed λag K=>V8 (Υ u (Υ ah (Υ aX (Υ ao (Υ aU (Υ af (Υ aV (Υ P aW)))))))) ?_;refine⟨J,J,J,?_⟩;refine Zf (K _ _ ?_);refine Ι L ?_;have V:G=[]:=YA.1 J;refine W.to (aj ⟨i+1,w,f++[i]⟩ aY (by show 6-(i+1)<6-i;omega)) ?_ ?_
    .have e:ZL 77 2 (((f++[i]).map (Un v m)).map XW)=[.cells 77 2 [XW ⟨S0 i,st⟩]]:=by rw[<-ap,Yd aq,V,an];rfl
     simp only[e]
    .have e:Y2 1 (((f++[i]).map (Un v m)).map XW)=.ms 1 1 0 1:=by rw[<-ap,W2 aq,V,an];rfl
     simp only[e];simp[L]
   .rw[s,Ρ];refine W.draw (A:=[65]) Ο mixed λag K=>V8 (Υ u (Υ ah (Υ aX (Υ ao (Υ aU (Υ af (Υ aV (Υ P (Υ aW o))))))))) ?_;refine⟨J,J,J,J,?_⟩;refine Zf (K _ _ ?_);refine Ι L ?_;refine W.to (aj ⟨i+1,w,f++[i]⟩ aY (by show 6-(i+1)<6-i;omega)) ?_ ?_
    .have e:ZL 77 2 (((f++[i]).map (Un v m)).map XW)=[.cells 77 2 (G.map XW++[XW ⟨S0 i,st⟩])]:=by rw[<-ap,Yd aq,XA,an];rfl
     simp only[e]
    .have e:Y2 1 (((f++[i]).map (Un v m)).map XW)=.ms 1 (f.length+1) 0 (f.length+1):=by rw[<-ap,W2 aq,X2,Vz,o];rfl
     simp only[e];simp[L]
 .have aR:f.length=n:=by
   simp only[Bool.and_eq_false_iff,decide_eq_false_iff_not] at N;omega
  refine W.exit U ?_;rcases T with⟨s,Ρ,t⟩|⟨s,Ρ,t⟩
  .omega
  rw[aR] at s o;have a0:Rh G:=by rw[S];exact sC Z m ak (λj F=>by have:=aa j F;omega) J J
  have aA:O[11]?=some m:=by rw[ai];rfl
  have bh:∀h,O[11]'h=m:=λh=>by rw[Z7 h] at aA;exact WW aA
  refine W.to (env':=[(0,.Δ 0 1 0 0),(6,.sl true 1 (O.map I)),(8,.ms 1 n 0 n),(9,I n)]) (σ':=[ZF B,.cells 77 2 (G.map XW)]) ?_ (by rw[Ρ]) (by rw[s];simp);have bi:i64.wrap 11=11:=ZT;refine Ι (Υ ah (Υ aA (Υ bh bi))) ?_;refine W.iter (λx:Nat×Bool=>x.1<=n/\(x.2=true->∀g∈G.take x.1,g.YJ≠m)) (λx=>[(0,.Δ 0 1 0 0),(8,.ms 1 n 0 n),(11,I m),(12,ν x.2),(13,I x.1)]) (λ_=>[ZF B,.cells 77 2 (G.map XW)]) (λx=>n-x.1) (0,true) ⟨Α _,Ω⟩ U Ω (λx au a1=>?_);obtain⟨j,π⟩:=x;obtain⟨F,am⟩:=au;simp only at F am a1 ⊢;refine Ι o ?_;refine W.YH U (λN=>?_) (λN=>?_)
  .have a2:j<n:=by simpa using N
   have aB:G[j]?=some (G[j]'J):=Z7 J;obtain⟨g,Q⟩:=Ε (G[j]'J);rw[<-Q] at aB;have a3:∀h,G[j]'h=g:=λh=>Q.symm;have L:i64.wrap ((j:Int)+1)=((j+1:Nat):Int):=by rw[i64_in _ J];omega
   have bj:G.take (j+1)=G.take j++[g]:=by rw[Ws J,Q]
   repeat apply Ν
   refine W.Xq (A:=[]) Ο [(0,.Δ 0 1 0 0),(8,.ms 1 n 0 n),(11,I m),(12,ν (π&&decide (g.YJ≠m))),(13,I j)] [ZF B,.cells 77 2 (G.map XW)] ?_ (by
    cases π
    ·(try simp);(repeat (rw[Θ];simp[o]));(try simp[o])
    ·(try simp);(repeat (rw[Θ];simp[o,aB,a3]));(try simp[o,aB,a3]);omega)
   refine Ι L ?_;refine W.to (a1 (j+1,π&&decide (g.YJ≠m)) ⟨a2,λh=>?_⟩ (by show n-(j+1)<n-j;omega)) U (by simp[L]);simp only[VO,decide_eq_true_eq] at h;intro y R;rw[bj] at R;rcases V4.1 R with R|R
   .exact am h.1 y R
   .simp at R;subst R;exact h.2
  .have a2:j=n:=by simp at N;omega
   have bk:π=true->∀g∈G,g.YJ≠m:=λh=>by
    have:=am h
    rwa [VP J] at this
   refine W.exit U ?_;have aw:B.Z0.length<2 ^ 63:=J;have X:=F4 B aw 3 ZT ZT;obtain⟨ax,ay⟩:=ZG (NU B 3);obtain⟨ab,ad⟩:=ZG (B.after (3-1));have bd:ab.Z0.length<=d.Z0.length:=by rw[<-ad];exact XQ (WE _ _) av
   rw[ay,ad] at X;obtain⟨w,M⟩:=Ε (if π then ab else B);have ae:w.Z0.length<=d.Z0.length:=by rw[M];split<;>assumption
   repeat apply Ν
   refine W.Xq (A:=[]) Ο [(92,ν (π&&ax)),(0,.Δ 0 1 0 0),(8,.ms 1 n 0 n),(11,I m)] [ZF w,.cells 77 2 (G.map XW)] ?_ (by
    cases π
    .rw[M];(try simp);(repeat (rw[Θ];simp[o]));(try simp[o])
    .rw[M];(try simp);(repeat (rw[Θ];simp[o]));(try simp[o]);refine YM.c (X) 0 U (ZN.refl _) Ω Ω ?_;simp;(repeat (rw[Θ];simp));(try simp))
   refine W.YH U (λY=>?_) (λY=>?_)
   .simp only[VO] at Y;have E:i64.wrap ((n:Int)-1)=n-1:=i64_in _ J;have a4:=Ud w J ((n:Int)-1);obtain⟨t0,t1⟩:=SQ w ((n:Int)-1) J J;obtain⟨k,az⟩:∃k:Nat,W9 w ((n:Int)-1)=k:=⟨(W9 w ((n:Int)-1)).toNat,J⟩;obtain⟨aC,a5⟩:=ZG (w.after ((n:Int)-1));have bl:aC.Z0.length<=d.Z0.length:=by rw[<-a5];exact XQ (WE _ _) ae
    rw[az,a5] at a4;rw[az] at t1;have ar:k<G.length:=J;have a6:G[k]?=some (G[k]'ar):=Z7 ar;obtain⟨g,Q⟩:=Ε (G[k]'ar);rw[<-Q] at a6;have bm:∀h,G[k]'h=g:=λh=>Q.symm
    repeat apply Ν
    refine W.Xq (A:=[]) Ο [(8,.ms 1 n 0 n)] [ZF aC,.cells 77 2 ((G.set k ⟨g.name,m⟩).map XW)] ?_ (by
     (try simp);(repeat (rw[Θ];simp[o,E]));(try simp[o,E]);refine YM.g (a4) (XK (Υ a6 (Υ bm o)) ?_)
     first|omega|(refine⟨J,?_⟩;simp[Ma]))
    refine Χ ?_;rw[<-Ma];refine W.BQ (x:=4) (n:=n) (l:=(G.set k ⟨g.name,m⟩).map XW) (Z6 _) (by rw[X2];simp[o]) Tf ?_ ?_
    .simp
    exact W.ret ⟨_,U,_,aC,.refl _,⟨_,U,by rw[Q];exact a0.set ar aD l1 (bk Y.1),by rw[Mc];omega⟩,U,bl⟩
   .refine Χ ?_;refine W.BQ (x:=4) (n:=n) (l:=G.map XW) (Z6 _) (by rw[X2];simp[o]) Tf ?_ ?_
    .simp
    exact W.ret ⟨_,U,_,w,.refl _,⟨_,U,a0,J⟩,U,ae⟩
end Go.TL
namespace Go.TL
open Go.IntWalk (i64_in)
open Go.IntKind (i64 u64)
open Go.Proofs.Tryz
open Go.Conc
variable [ZP]
inductive Rf (id k:Nat) (l:μ):Ψ->Ψ->Prop where
 | same (a:Ψ):Rf id k l a a
 | ms:Rf id k l (.ms id l.length 0 l.length) (.sl false k l)
 | Δ {e:Ψ}:l=[e]->Rf id k l (.Δ id 1 0 0) (.ξ e.cells)
def K3 (id k:Nat) (l:μ) (r r':Row):Prop:=r'=r\/∃t n es es',r=.cells t n es/\r'=.cells t n es'/\es'.length=es.length/\
 ∀(i:Nat) (e b:Ψ),es[i]?=some e->es'[i]?=some b->b.cells.length=e.cells.length/\∀(x:Nat) (a c:Ψ),e.cells[x]?=some a->b.cells[x]?=some c->Rf id k l a c
section
variable {P:Program} {S:κ} {B:Z5} {H:Τ} {σ σ':Ξ} {m nt id k:Nat} {t:TypeId} {l:μ} {kk:Zz} {env:Β} {Z:XO} {E:Ya}
def κ.set (S:κ) (B:Z5) (H:Τ) (id:Nat):κ:=λb o=>match B[id]? with
 | some (some (a,_))=>if b=a then(H.η b o).map (·.1) else S b o
 | _=>S b o
theorem BO {b N:Nat} (a:B[id]?=some (some (b,N))) (o:Nat):S.set B H id b o=(H.η b o).map (·.1):=by
 unfold κ.set;rw[a];simp
theorem BN (a:Holds S B σ H) (c:σ[id]?=some (.cells t k l)):∀b o v,S b o=some v->S.set B H id b o=some v:=λb o v hv=>by
 unfold κ.set;split
 .rename_i f N d;split
  .rename_i e;subst e;rw[a.sep id _ b N c trivial d o] at hv;cases hv
  .exact hv
 .exact hv
theorem Zm.PD (c:Holds S B σ H) (b:σ[id]?=some (.cells t k l)) (d:σ'[id]?=some .dead) (f:∀j r,j≠id->σ[j]?=some r->∃r',σ'[j]?=some r'/\K3 id k l r r'):Zm S (S.set B H id) B B σ σ':=
 ⟨BN c b,λj r a=>by
  by_cases e:j=id
  .subst e;rw[b] at a;cases a;exact⟨.dead,d,.inr λn _=>trivial⟩
  .obtain⟨r',g,h⟩:=f j r e a;refine⟨r',g,?_⟩;rcases h with rfl|⟨t,n,es,es',rfl,rfl,i,_⟩
   .exact Row.Qa _ _
   .exact .inl ⟨es',U,i,U⟩⟩
theorem υ.BM (s:Holds S B σ H) (g:σ[id]?=some (.cells t k l)) (o:Zm S (S.set B H id) B B σ σ') {a u:Ψ} (C:Rf id k l a u) {v:Value} (p:υ S B σ a v):υ (S.set B H id) B σ' u v:=by
 cases C with
 | same=>exact p.later o
 | ms=>
  cases p with
  | ms cap d h i F D r=>
   rw[g] at d;cases d;by_cases y:l=[]
   .subst y;exact .VY _ _ Ω
   .have I:0<l.length:=RN.2 y;rcases r with r|⟨b,N,rfl,rfl,r⟩
    .omega
    .obtain⟨_,_,_,w,m⟩:=s.row id _ _ g i;rw[Pt];refine .sl b 0 cap (λj x=>w j x) Ω D (λj e n=>(m j e n).1) (λj e n x c f=>?_) (λj e n x c f=>?_)
     .have:=((m j e n).2 x c f).1;rw[BO i,US,this];rfl
     .exact(((m j e n).2 x c f).2.1).later o
  | Vm v d h=>rw[g] at d;cases d;simp only[Row.Wo] at h;omega
 | @Δ e E=>
  subst E;cases p with
  | Δ d h i=>
   rw[g] at d;cases d;obtain⟨_,_,_,w,m⟩:=s.row id _ _ g i;have A:=m 0 e U;refine .ξ _ _ (λx=>w 0 x) (λx a f=>?_) (λx a f=>?_)
   .have:=(A.2 x a f).1;rw[BO i,Nat.add_zero,this];rfl
   .exact((A.2 x a f).2.1).later o
  | U8 v d h=>rw[g] at d;cases d;simp[Row.Wo] at h
theorem W.PD (a7:m<=id) (f:σ[id]?=some (.cells t k l)) (aa:σ'.length=σ.length) (F:σ'[id]?=some .dead) (ab:∀j r,j≠id->σ[j]?=some r->∃r',σ'[j]?=some r'/\K3 id k l r r') (env':Β) (aC:∀p∈env',Rf id k l (Z3 env p.1) p.2)
  (aD:W P m nt kk env' σ' Z E):W P m nt kk env σ Z E:=by
 intro aE mn x cs b S B H ZS I J K aF aG;have c:=K.holds;have L:=Zm.PD c f F ab;have back:∀j r',j≠id->σ'[j]?=some r'->∃r,σ[j]?=some r/\K3 id k l r r':=λj r' M h=>by
  have s:j<σ.length:=by rw[<-aa];exact(Zo.1 h).1
  obtain⟨an,O,ad⟩:=ab j _ M (Z7 s);rw[h] at O;cases O;exact⟨_,Z7 s,ad⟩
 have Q:∀{r r':Row},K3 id k l r r'->r'.live->r.live:=λ{r r'} h hv=>by
  rcases h with rfl|⟨_,_,_,_,rfl,rfl,_⟩
  .exact hv
  .trivial
 have aH:Holds (S.set B H id) B σ' H:=by
  refine⟨λb o v h=>?_,by rw[aa];exact c.len,λj r bo d aI=>?_,λi j ao ap b aJ aK aL hi M aq ar aM aN=>?_,λj r b N d ae J o=>?_⟩
  .unfold κ.set at h;split at h
   .split at h
    .cases au:H.η b o with
     | none=>rw[au] at h;cases h
     | some x=>rw[au] at h;cases h;exact⟨x.2,rfl⟩
    .exact c.Yy b o v h
   .exact c.Yy b o v h
  .by_cases e:j=id
   .subst e;rw[F] at d;cases d;trivial
   .obtain⟨aO,O,ad⟩:=back j r e d;have R:=c.row j aO bo O aI;rcases ad with rfl|⟨t2,n,es,es',rfl,rfl,af,aP⟩
    .refine R.later L (λb N _=>⟨λ_=>rfl,U,U⟩) λav left a8 Ρ=>?_;subst Ρ;obtain⟨_,_,a9,a',xs,ba,seen,_,aw,⟨es,g⟩,_⟩:=R;refine⟨?_,U,λb N _=>⟨λ_=>rfl,U,U⟩⟩;have T:av≠id:=λe=>by subst e;rw[f] at g;cases g
     obtain⟨r',aQ,aR⟩:=ab av _ T g;rcases aR with rfl|⟨_,_,_,_,aS,_⟩
     .rw[aQ,g]
     .cases aS
    .cases bo with
     | none=>
      have:es=[]:=R;subst this;exact YA.1 af
     | some y=>
      obtain⟨b,N⟩:=y;obtain⟨u,A,C,w,D⟩:=R;refine⟨u,by rw[af];exact A,C,w,λi aT hi=>?_⟩;have s:i<es.length:=by rw[<-af];exact(Zo.1 hi).1
      obtain⟨aU,aV⟩:=D i _ (Z7 s);obtain⟨d1,d2⟩:=aP i _ aT (Z7 s) hi;refine⟨d1.trans aU,λx aW I=>?_⟩;have ax:x<(es[i]).cells.length:=by rw[<-d1];exact(Zo.1 I).1
      obtain⟨aw,g,aX⟩:=aV x _ (Z7 ax);exact⟨aw,g.BM c f L (d2 x _ aW (Z7 ax) I),aX⟩
  .have ay:∀j r,σ'[j]?=some r->r.live->j≠id:=λj r h hv e=>by subst e;rw[F] at h;cases h;exact hv
   obtain⟨V,X,Y⟩:=back i ao (ay i ao hi aq) hi;obtain⟨an,aY,aZ⟩:=back j ap (ay j ap M ar) M;exact c.inj i j V an b aJ aK aL X aY (Q Y aq) (Q aZ ar) aM aN
  .have T:j≠id:=λe=>by subst e;rw[F] at d;cases d;exact ae
   obtain⟨V,X,Y⟩:=back j r T d;have az:=c.sep j V b N X (Q Y ae) J o;unfold κ.set;split
   .rename_i a0 a1 ag;split
    .rename_i e;subst e;exact(c.inj j id V _ b N a1 T X f (Q Y ae) trivial J ag).elim
    .exact az
   .exact az
 have a2:Ext S B H (S.set B H id) B H:=by
  refine⟨BN c f,λ_ _ _=>SY.of ⟨λ_=>rfl,U,U⟩,λ_ h=>.inl h,λb o v hv=>?_,λ_ h=>h⟩;unfold κ.set at hv;split at hv
  .rename_i a0 N ag;split at hv
   .rename_i e;subst e;exact .inr (.inl ⟨N,Y1 ag⟩)
   .exact .inl hv
  .exact .inl hv
 have aA:XE m S B H σ (S.set B H id) B H σ':=⟨a2,L.left m⟩
 have a3:∀(l2:Β),(∀p∈l2,Rf id k l (Z3 env p.1) p.2)->∀i,υ S B σ (Z3 env i) (ZS.getD i undef)->υ (S.set B H id) B σ' (Z3 l2 i) (ZS.getD i undef):=by
  intro l2
  induction l2 with
  | nil=>intro _ i _;exact .Ze _
  | cons p l2 a4=>
   intro aB i d;simp only[Z3];split
   .rename_i e;subst e;exact d.BM c f L (aB p Ω)
   .exact a4 (λq a5=>aB q (by simp[a5])) i d
 refine aD aE mn x cs b _ _ H ZS I J ⟨aH,λi=>a3 env' aC i (K.Y7 i),K.size,by rw[aa];exact K.rows⟩ (λj ah ai aj ak al t2 am u A C D=>?_) (λa ah ai aj ak al t2 am v u A C D a6=>?_)
 .exact aF j ah ai aj ak al t2 am u (aA.trans A) C D
 .exact aG a ah ai aj ak al t2 am v u (aA.trans A) C D a6
end
end Go.TL
namespace Go.TL
open Go.IntWalk (i64_in)
open Go.IntKind (i64 u64)
open Go.Proofs.Tryz
open Go.Proofs
variable [ZP]
theorem sz (d:Zd) (n:Nat):(VR d n).1.Pairwise (· < ·)/\∀x∈(VR d n).1,0<=x/\x<n:=by
 induction n with
 | zero=>exact⟨List.Pairwise.nil,λx h=>(by cases h)⟩
 | succ n e=>
  show((VR d n).1++_).Pairwise _/\∀x∈(VR d n).1++_,_;constructor
  .rw[NF];refine⟨e.1,by split<;>simp,λa g b f=>?_⟩;have:=e.2 a g;split at f
   .simp at f;omega
   .simp at f
  .intro x c;rcases V4.1 c with c|c
   .have:=e.2 x c;omega
   .split at c
    .simp at c;omega
    .simp at c
structure MA (L:List (ZZ)):Prop where
 lo:1<=L.length
 hi:L.length<=4
 each:∀l∈L,l.length<=3/\l.Pairwise (· < ·)/\∀x∈l,0<=x/\x<3
abbrev ZX:Ψ:=.sl true 0 []
structure sy where
 k:Nat
 d:Zd
 L:List (ZZ)
theorem RQ {L:List (ZZ)}:∀e∈L.map (δ I 1),∀a∈e.cells,ς 0 a:=λe c a b=>by
 obtain⟨x,_,rfl⟩:=YO.1 c;simp[Ψ.cells] at b;subst b;simp[YD,Ψ.cells]
theorem sx (d:Zd) (hd:d.Z0.length<2 ^ 63) (N v:Nat) (ay:1<=N) (az:N<=6) (aS:v<=4) :
  Μ prog 90 [.Δ 0 1 0 0,I N,I v] [ZF d] (λa s=>∃G L nc ag,YR a (.ZW [ZD G,ZM L,Y2 4 (List.replicate nc ZX)])/\Rh G/\MA L/\(nc<=v/\G.length<=N/\L.length<=3)/\s=ZF ag::.dead::.dead::.dead::ZL 60 1 (List.replicate nc ZX)/\ag.Z0.length<=d.Z0.length) (λ_ _=>False):=by
 refine Μ.body Ο func90 U U ntmps90 U U Ω ?_
 repeat apply Ν
 refine YY (A:=[6]) Ο λF m=>Z9 ?_;apply m
 repeat apply Ν
 refine YY (A:=[7]) Ο λF m=>Z9 ?_;refine Rg.c (sA d hd N ay az) 0 U (ZN.refl _) Ω (by rintro r ⟨l,rfl,_⟩;exact YD.2 Tf) ?_;rintro r d1 ⟨G,rfl,aA,aB⟩ aC;simp;(repeat (rw[Θ];simp));apply m;have aD:d1.Z0.length<2 ^ 63:=J;obtain⟨aE,aF⟩:=MC d1 (a:=1) (b:=3) ZT ZT ZT;obtain⟨R,ah⟩:∃n:Nat,TO d1 1 3=n:=⟨(TO d1 1 3).toNat,J⟩;rw[ah] at aE aF;obtain⟨d2,ai⟩:=ZG (d1.after (i64.wrap (3-1)));have aG:d2.Z0.length<=d.Z0.length:=by rw[<-ai];exact XQ (WE _ _) aC
 have O:=OS d1 aD 1 3;rw[ah,ai] at O;refine Z8 λF m=>?_;refine YM.g (O) (Z9 ?_);apply m;have Y:∀L:List (ZZ),(Y2 3 (L.map (δ I 1))=.sl true 0 []/\ZL 29 1 (L.map (δ I 1))=[]/\L=[])\/(Y2 3 (L.map (δ I 1))=.ms 3 L.length 0 L.length/\ZL 29 1 (L.map (δ I 1))=[.cells 29 1 (L.map (δ I 1))]/\0<L.length):=λL=>by
  by_cases t:L=[]
  .subst t;exact .inl ⟨U,U,U⟩
  .have aj:L.map (δ I 1)≠[]:=by simpa using t
   exact .inr ⟨by rw[W2 aj,X2],Yd aj,RN.2 t⟩
 repeat apply Ν
 refine W.iter (λx:sy=>x.L.length+x.k=R/\x.d.Z0.length<=d.Z0.length/\∀l∈x.L,l.length<=3/\l.Pairwise (· < ·)/\∀y∈l,0<=y/\y<3)
  (λx=>[(0,.Δ 0 1 0 0),(2,I v),(6,.Δ 1 1 0 0),(7,.Δ 2 1 0 0),(8,I x.k)])
  (λx=>ZF x.d::YI ZX ZX ZX::YI (ZD G) (Y2 3 (x.L.map (δ I 1))) ZX::ZL 29 1 (x.L.map (δ I 1))) (λx=>x.k) ⟨R,d2,[]⟩ ⟨Ω,aG,Ω⟩ U Ω (λx w B=>?_)
 obtain⟨k,o,L⟩:=x;obtain⟨aH,ak,Z⟩:=w;simp only at aH ak Z B ⊢;refine Χ ?_;refine W.YH U (λD=>?_) (λD=>?_)
 .have S:0<k:=by simpa using D
  obtain⟨j,H⟩:∃j,k=j+1:=⟨k-1,J⟩;have P:i64.wrap ((k:Int)-1)=j:=by rw[i64_in _ J];omega
  have hi:=sX o J
  have aa:=sz o 3
  have al:=BZ o 3
  have aI:=B0 o 3;obtain⟨l,am⟩:=ZG ((VR o 3).1);obtain⟨ab,an⟩:=ZG ((VR o 3).2);rw[am,an] at hi;rw[am] at aa al;rw[an] at aI;have ao:(L++[l]).length+j=R/\ab.Z0.length<=d.Z0.length/\∀x∈L++[l],x.length<=3/\x.Pairwise (· < ·)/\∀y∈x,0<=y/\y<3:=by
   refine⟨by simp;omega,J,λx w=>?_⟩;rcases V4.1 w with w|w
   .exact Z x w
   .simp at w;subst w;exact⟨al,aa.1,aa.2⟩
  have ap:(L++[l]).map (δ I 1)≠[]:=Ω
  repeat apply Ν
  rcases Y L with⟨u,Ρ,Q⟩|⟨u,Ρ,Q⟩
  .rw[u,Ρ];refine W.F6 (A:=[25]) Ο mixed λF m=>?_;simp;(repeat (rw[UD];simp));(try rw[UE]);refine YM.h (hi) (Qw ?_);refine⟨Yq Zr,Yq Zr,m _ _ ?_⟩;refine Ι P ?_;subst Q;refine W.to (B ⟨j,ab,[]++[l]⟩ ao (by show j<k;omega)) ?_ ?_
   .have e:Y2 3 (([]++[l]).map (δ I 1))=.ms 3 1 0 1:=rfl
    have T:ZL 29 1 (([]++[l]).map (δ I 1))=[.cells 29 1 [δ I 1 l]]:=rfl;simp only[e,T]
   .simp
  .rw[u,Ρ];refine W.F6 (A:=[25]) Ο mixed λF m=>?_;simp;(repeat (rw[UD];simp));(try rw[UE]);refine YM.h (hi) (Qw ?_);refine⟨J,?_⟩;refine⟨Yq Zr,Yq Zr,m _ _ ?_⟩;refine Ι P ?_;refine W.to (B ⟨j,ab,L++[l]⟩ ao (by show j<k;omega)) ?_ ?_
   .have e:Y2 3 ((L++[l]).map (δ I 1))=.ms 3 (L.length+1) 0 (L.length+1):=by rw[W2 ap,X2,Vz];rfl
    have T:ZL 29 1 ((L++[l]).map (δ I 1))=[.cells 29 1 (L.map (δ I 1)++[δ I 1 l])]:=by rw[Yd ap,XA];rfl
    simp only[e,T]
   .simp
 .have S:k=0:=by simp at D;omega
  subst S;have aJ:L.length=R:=J;have aK:MA L:=⟨J,J,Z⟩;rcases Y L with⟨u,Ρ,Q⟩|⟨u,Ρ,Q⟩
  .subst Q;simp at aJ;omega
  refine W.to (env':=[(0,.Δ 0 1 0 0),(2,I v),(6,.Δ 1 1 0 0),(7,.Δ 2 1 0 0)]) (σ':=[ZF o,YI ZX ZX ZX,YI (ZD G) (.ms 3 L.length 0 L.length) ZX,.cells 29 1 (L.map (δ I 1))]) ?_ (by rw[u,Ρ]) Ω;clear B D Y u Ρ;refine W.exit U ?_;have aL:o.Z0.length<2 ^ 63:=J;obtain⟨aM,aN⟩:=MC o (a:=0) (b:=v) J ZT J;obtain⟨nc,aq⟩:∃n:Nat,TO o 0 v=n:=⟨(TO o 0 v).toNat,J⟩;rw[aq] at aM aN;obtain⟨d3,ar⟩:=ZG (o.after (i64.wrap ((v:Int)-0)));have aO:d3.Z0.length<=d.Z0.length:=by rw[<-ar];exact XQ (WE _ _) ak
  have O:=OS o aL 0 v;rw[aq,ar] at O;refine Z8 λF m=>?_;refine YM.g (O) (Z9 ?_);apply m
  repeat apply Ν
  refine W.iter (λx:Nat×Nat=>x.1+x.2=nc)
   (λx=>[(0,.Δ 0 1 0 0),(6,.Δ 1 1 0 0),(7,.Δ 2 1 0 0),(9,I x.1)])
   (λx=>ZF d3::YI ZX ZX ZX::YI (ZD G) (.ms 3 L.length 0 L.length) (Y2 4 (List.replicate x.2 ZX))::.cells 29 1 (L.map (δ I 1))::ZL 60 1 (List.replicate x.2 ZX)) (λx=>x.1) (nc,0) Ω U Ω (λx w B=>?_)
  obtain⟨k,c⟩:=x;simp only at w B ⊢;refine Χ ?_;refine W.YH U (λD=>?_) (λD=>?_)
  .have S:0<k:=by simpa using D
   obtain⟨j,H⟩:∃j,k=j+1:=⟨k-1,J⟩;have P:i64.wrap ((k:Int)-1)=j:=by rw[i64_in _ J];omega
   have au:Y2 4 (List.replicate (c+1) ZX)=.ms 4 (c+1) 0 (c+1):=by rw[W2 Ω,Pz]
   have av:ZL 60 1 (List.replicate (c+1) ZX)=[.cells 60 1 (List.replicate c ZX++[ZX])]:=by rw[Yd Ω,List.replicate_succ']
   repeat apply Ν
   by_cases t:c=0
   .subst t;have ad:Y2 4 (List.replicate 0 ZX)=ZX:=rfl;have ae:ZL 60 1 (List.replicate 0 ZX)=[]:=rfl;rw[ad,ae];refine YY (A:=[37]) Ο λF m=>Z9 ?_;apply m;refine Ι P ?_;refine W.to (B (j,1) (by show j+1=nc;omega) (by show j<k;omega)) ?_ ?_
    .simp only[au,av];rfl
    .simp
   .have ad:Y2 4 (List.replicate c ZX)=.ms 4 c 0 c:=by rw[W2 (by simp[t]),Pz]
    have ae:ZL 60 1 (List.replicate c ZX)=[.cells 60 1 (List.replicate c ZX)]:=Yd (by simp[t]);rw[ad,ae];refine YY (A:=[37]) Ο λF m=>Z9 ?_;refine⟨J,?_⟩;apply m;refine Ι P ?_;refine W.to (B (j,c+1) (by show j+(c+1)=nc;omega) (by show j<k;omega)) ?_ ?_
    .simp only[au,av]
    .simp
  .have S:k=0:=by simp at D;omega
   have aP:c=nc:=J;subst aP;refine W.exit U ?_;obtain⟨C,V⟩:=Ε (Y2 4 (List.replicate c ZX));obtain⟨RC,X⟩:=Ε (ZL 60 1 (List.replicate c ZX));rw[<-V,<-X];have aQ:(C=ZX/\RC=[])\/(C=.ms 4 c 0 c/\RC=[.cells 60 1 (List.replicate c ZX)]):=by
    by_cases t:c=0
    .subst t;exact .inl ⟨V,X⟩
    .exact .inr ⟨by rw[V,W2 (by simp[t]),Pz],by rw[X,Yd (by simp[t])]⟩
   repeat apply Ν
   refine W.Xq (A:=[]) Ο [(6,.Δ 1 1 0 0)] (ZF d3::YI (ZD G) (.ms 3 L.length 0 L.length) C::YI (ZD G) (.ms 3 L.length 0 L.length) C::.cells 29 1 (L.map (δ I 1))::RC) ?_ (by
    rcases aQ with⟨u,Ρ⟩|⟨u,Ρ⟩
    .rw[u,Ρ];(try simp);(repeat (rw[Θ];simp));(try simp)
    .rw[u,Ρ];(try simp);(repeat (rw[Θ];simp));(try simp))
   have aR:Rf 3 1 (L.map (δ I 1)) (.ms 3 L.length 0 L.length) (ZM L):=by
    have:=Rf.ms (id:=3) (k:=1) (l:=L.map (δ I 1))
    rwa [X2] at this
   have aw:K3 3 1 (L.map (δ I 1)) (YI (ZD G) (.ms 3 L.length 0 L.length) C) (YI (ZD G) (ZM L) C):=by
    refine .inr ⟨26,3,_,_,U,U,U,λi e T af ax=>?_⟩
    match i with
    | 0=>
     simp at af ax;subst af;subst ax;refine⟨U,λx a aT K M=>?_⟩
     match x with
     | 0=>simp[Ψ.cells] at K M;subst K;subst M;exact .same _
     | 1=>simp[Ψ.cells] at K M;subst K;subst M;exact aR
     | 2=>simp[Ψ.cells] at K M;subst K;subst M;exact .same _
     | x+3=>simp[Ψ.cells] at K
    | i+1=>simp at af
   refine W.PD (σ':=ZF d3::YI (ZD G) (ZM L) C::YI (ZD G) (ZM L) C::.dead::RC) (id:=3) Ω U U U (λj r H f=>?_) [(6,.Δ 1 1 0 0)] (λp E=>by simp at E;subst E;exact .same _) ?_
   .match j,H,f with
    | 0,_,f=>simp at f;subst f;exact⟨_,rfl,.inl rfl⟩
    | 1,_,f=>simp at f;subst f;exact⟨_,rfl,aw⟩
    | 2,_,f=>simp at f;subst f;exact⟨_,rfl,aw⟩
    | 3,h,_=>exact absurd rfl h
    | j+4,_,f=>exact⟨r,f,.inl rfl⟩
   refine W.PD (σ':=ZF d3::YI (ZD G) (ZM L) C::.dead::.dead::RC) (id:=2) Ω U U U (λj r H f=>?_) [(6,.Δ 1 1 0 0)] (λp E=>by simp at E;subst E;exact .same _) ?_
   .match j,H,f with
    | 0,_,f=>exact⟨r,f,.inl rfl⟩
    | 1,_,f=>exact⟨r,f,.inl rfl⟩
    | 2,h,_=>exact absurd rfl h
    | j+3,_,f=>exact⟨r,f,.inl rfl⟩
   refine W.PD (σ':=ZF d3::.dead::.dead::.dead::RC) (id:=1) Ω U U U (λj r H f=>?_) [(6,.ξ [ZD G,ZM L,C])] (λp E=>by simp at E;subst E;exact .Δ (e:=.ZW [ZD G,ZM L,C]) U) ?_
   .match j,H,f with
    | 0,_,f=>exact⟨r,f,.inl rfl⟩
    | 1,h,_=>exact absurd rfl h
    | j+2,_,f=>exact⟨r,f,.inl rfl⟩
   refine W.ret ⟨_,U,?_⟩;refine⟨G,L,c,d3,?_,aA,aK,⟨J,aB,J⟩,by rw[X],aO⟩;rw[<-V];exact .refl _
theorem sw:∀a<64,∀b<64,0<=XT .i64 (a:Nat) (b:Nat)/\XT .i64 (a:Nat) (b:Nat)<=63/\0<=Uu .i64 (a:Nat) (b:Nat)/\Uu .i64 (a:Nat) (b:Nat)<=63/\XT .i64 (b:Nat) (Uu .i64 (a:Nat) (b:Nat))=0:=by decide +kernel
theorem Mz {a b:Int} (h:0<=a/\a<=63) (i:0<=b/\b<=63):(0<=XT .i64 a b/\XT .i64 a b<=63)/\(0<=Uu .i64 a b/\Uu .i64 a b<=63)/\XT .i64 b (Uu .i64 a b)=0:=by
 obtain⟨x,rfl⟩:∃x:Nat,a=x:=⟨a.toNat,J⟩;obtain⟨y,rfl⟩:∃y:Nat,b=y:=⟨b.toNat,J⟩;obtain⟨c,d,e,f,g⟩:=sw x J y J;exact⟨⟨c,d⟩,⟨e,f⟩,g⟩
structure OQ (n:Nat) (c:List YV):Prop where
 hi:c.length<=4
 apart:(c.map (·.YX)).Nodup
 each:∀p∈c,(0<=p.YX/\p.YX<n)/\(0<=p.seen/\p.seen<=63)/\(0<=p.bare/\p.bare<=63)/\UM p.seen p.bare=0
structure W0 (s:ω):Prop where
 χ:Rh s.χ
 θ:MA s.θ
 many:s.cells.length<=4
 cells:∀c∈s.cells,OQ s.θ.length c
theorem W0.small {s:ω} (h:W0 s):s.small:=by
 have b:=h.χ.hi
 have c:=h.θ.hi
 have d:=h.many;refine⟨J,J,J,λx a=>?_,λx a=>?_⟩
 .have:=(h.θ.each x a).1;omega
 .have:=(h.cells x a).hi;omega
theorem BL (d:Zd) (hd:d.Z0.length<2 ^ 63) (g k:Nat) (o:1<=g) (p:g<=6) (t:k<=4) {σ:Ξ} {K E:Ψ->Ξ->Prop} (u:σ[0]?=some (ZF d))
  (v:∀G L nc b,Rh G->MA L->nc<=k/\G.length<=g/\L.length<=3->b.Z0.length<=d.Z0.length->K (.ZW [ZD G,ZM L,Y2 (σ.length+3) (List.replicate nc ZX)]) (σ.set 0 (ZF b)++(.dead::.dead::.dead::ZL 60 1 (List.replicate nc ZX)))) :
  Wm prog (.fn (.func 90) [] []) [.Δ 0 1 0 0,I g,I k] σ K E:=by
 have w:∀nc,∀r∈ZL 60 1 (List.replicate nc ZX),Lx r:=λnc r c=>by
  unfold ZL at c;split at c
  .cases c
  .simp at c;subst c;refine .inl λe x a f=>?_;have:=KO x;subst this;simp[Ψ.cells] at f;subst f;simp[YD]
 have m:=Μ.Tt (sx d hd g k o p t) (ZN.refl _) (K':=λa s=>∃G L nc b,a=.ZW [ZD G,ZM L,Y2 4 (List.replicate nc ZX)]/\Rh G/\MA L/\(nc<=k/\G.length<=g/\L.length<=3)/\s=ZF b::.dead::.dead::.dead::ZL 60 1 (List.replicate nc ZX)/\b.Z0.length<=d.Z0.length) (λa s ⟨G,L,nc,b,m,y⟩=>⟨_,m,G,L,nc,b,U,y⟩)
 have A:=Μ.D2 (σ:=σ) m [0] Ω U (λj i n=>by
  cases j with
  | zero=>simp at n;subst n;exact u
  | succ j=>simp at n) (λr c=>by simp at c;subst c;exact RS d) (by
   intro a f;simp at f;rcases f with rfl|rfl|rfl
   .exact Nat.zero_lt_one
   .exact(ς.z _).Vr 1
   .exact(ς.z _).Vr 1) (K':=K) (E':=E) (λa s=>by
   rintro⟨G,L,nc,b,rfl,B,C,D,rfl,F⟩;refine⟨λr c=>?_,?_,?_⟩
   .simp only[Y9] at c;rcases c with rfl|rfl|rfl|rfl|c
    .exact .inl (RS b)
    .exact .inr U
    .exact .inr U
    .exact .inr U
    .exact w nc r c
   .intro a f;simp only[Y9,Yb,or_false] at f;rcases f with rfl|rfl|rfl
    .exact ς.top (YD.2 Tf) _
    .exact ς.top (YD.2 RQ) _
    .unfold Y2 ZL;split
     .exact ς.top Ω _
     .show 4<_;simp
   .have H:PU σ [0] (ZF b::.dead::.dead::.dead::ZL 60 1 (List.replicate nc ZX))=σ.set 0 (ZF b)++(.dead::.dead::.dead::ZL 60 1 (List.replicate nc ZX)):=by
     simp[PU,Vs]
    have Ρ:Yh (names [0] σ.length (ZF b::.dead::.dead::.dead::ZL 60 1 (List.replicate nc ZX))) (.ZW [ZD G,ZM L,Y2 4 (List.replicate nc ZX)])=.ZW [ZD G,ZM L,Y2 (σ.length+3) (List.replicate nc ZX)]:=by
     by_cases l:nc=0
     .subst l;rfl
     .rw[W2 (by simp[l]),W2 (by simp[l]),Yd (by simp[l])];show Ψ.ZW [_,_,_]=_;simp[Wx,names,UB]
    rw[H,Ρ];exact v G L nc b B C D F) (λa s h=>h.elim)
 exact Μ.call (first:=[]) (captured:=[]) (by simpa[Su,Yh,Wx] using A)
section
variable {P:Program} {m nt:Nat} {k:Zz} {env:Β} {σ:Ξ} {Z:XO} {E:Ya}
theorem W.bind {n:XO} (h:W P m nt k env σ n E) (w:∀j e s,n j e s->W P m nt j e s Z E):W P m nt k env σ Z E:=
 λo mn x cs b S B H t p r y A u=>h o mn x cs b S B H t p r y
  (λj e s C B' H' t' M D v F I=>by
   cases I;exact w j e s D o mn x cs b C B' H' t' p r F (λJ Ρ a c d f t2 g i l=>A J Ρ a c d f t2 g i (v.trans l)) (λl Ρ a c d f t2 g K i L=>u l Ρ a c d f t2 g K i (v.trans L)))
  u
theorem W.upto {a:Item} (env':Β) (σ':Ξ) (b:W P m nt (a::k) env σ (λj e s=>j=k/\s=σ'/\∀p∈env',Z3 e p.1=p.2) E) (c:W P m nt k env' σ' Z E):W P m nt (a::k) env σ Z E:=
 .bind b λj e s ⟨d,f,g⟩=>by
  subst d;subst f;exact .forget env' g c
theorem W.Ib {a:Item} {l:Nat} (env':Β) (σ':Ξ) (b:W P m nt (a::.inBlock l::k) env σ (λj e s=>j=k/\s=σ'/\∀p∈env',Z3 e p.1=p.2) E) (c:W P m nt k env' σ' Z E):W P m nt (a::.inBlock l::k) env σ Z E:=
 .bind b λj e s ⟨d,f,g⟩=>by
  subst d;subst f;exact .forget env' g c
end
section
variable {α:Type} [Inhabited α]
theorem K2 (enc:α->Ψ) (d:Array α) {i:Nat} (h:i<d.size):(d.toList.map enc)[i]?=some (enc d[i]!):=by
 rw[Yc,Wh,Rx h];rfl
theorem TN (enc:α->Ψ) {d:Array α} {n:Nat} (b:d.size=n) {i j:Nat} (hi:i<n) (a:j<n):∃(L:μ) (x y:α),d.toList.map enc=L/\d[i]! = x/\d[j]! = y/\L.length=n/\(L[i]?=some (enc x)/\∀h,L[i]'h=enc x)/\(L[j]?=some (enc y)/\∀h,L[j]'h=enc y)/\(Go.Sort.swp d i j).toList.map enc=(L.set i (enc y)).set j (enc x)/\∃z,∀h,(L.set i (enc y))[j]'h=enc z:=by
 subst b;refine⟨_,_,_,U,U,U,Ω,⟨K2 enc d hi,λh=>?_⟩,⟨K2 enc d a,λh=>?_⟩,by simp[Go.Sort.swp],if i=j then d[j]! else d[j]!,λh=>?_⟩
 .have:=K2 enc d hi;rw[Z7 h] at this;exact WW this
 .have:=K2 enc d a;rw[Z7 h] at this;exact WW this
 .rw[List.getElem_set,ite_self];split
  .rfl
  .have:=K2 enc d a;rw[Z7 (by simpa using h)] at this;exact WW this
theorem W.two {P:Program} {m nt:Nat} {k:Zz} {env:Β} {Z:XO} {E:Ya} (enc:α->Ψ) {d:Array α} {n:Nat} (c:d.size=n) {i j:Nat} (hi:i<n) (a:j<n) {t:TypeId} {kk:Nat}
  (h:∀(L:μ) (x y z:α),d[i]! = x->d[j]! = y->(L.length=n/\(L[i]?=some (enc x)/\∀h,L[i]'h=enc x)/\(L[j]?=some (enc y)/\∀h,L[j]'h=enc y)/\(∀h,(L.set i (enc y))[j]'h=enc z)/\i<n/\j<n)->d.toList.map enc=L->(Go.Sort.swp d i j).toList.map enc=(L.set i (enc y)).set j (enc x)->W P m nt k env [.cells t kk L] Z E):W P m nt k env [.cells t kk (d.toList.map enc)] Z E:=by
 obtain⟨L,x,y,b,e,f,g,l,o,p,z,r⟩:=TN enc c hi a;rw[b];exact h L x y z e f ⟨g,l,o,r,hi,a⟩ b p
theorem My {p:α->Bool} {d:Array α} {b i R:Nat} (h:Go.Sort.scanUp p d b i=R) (a:i<=b) (c:p d[i]! = true):Go.Sort.scanUp p d b (i+1)=R:=by
 rw[Go.Sort.scanUp] at h;simpa[a,c] using h
theorem Mx {p:α->Bool} {d:Array α} {b i R:Nat} (h:Go.Sort.scanUp p d b i=R) (a:i<=b) (c:p d[i]! = false):i=R:=by
 rw[Go.Sort.scanUp] at h;simpa[a,c] using h
theorem Mw {p:α->Bool} {d:Array α} {b i R:Nat} (h:Go.Sort.scanUp p d b i=R) (a:¬i<=b):i=R:=by
 rw[Go.Sort.scanUp] at h;simpa[a] using h
theorem Mv {p:α->Bool} {d:Array α} {b i R:Nat} (h:Go.Sort.scanDown p d b i=R) (a:b<=i) (e:0<i) (c:p d[i]! = true):Go.Sort.scanDown p d b (i-1)=R:=by
 obtain⟨q,rfl⟩:∃q,i=q+1:=⟨i-1,J⟩;rw[Go.Sort.scanDown] at h;simpa[a,c] using h
theorem Mu {p:α->Bool} {d:Array α} {b i R:Nat} (h:Go.Sort.scanDown p d b i=R) (a:b<=i) (e:0<i) (c:p d[i]! = false):i=R:=by
 obtain⟨q,rfl⟩:∃q,i=q+1:=⟨i-1,J⟩;rw[Go.Sort.scanDown] at h;simpa[a,c] using h
theorem W.back {P:Program} {m nt:Nat} {k:Zz} {env:Β} {Z:XO} {E:Ya} {enc:α->Ψ} {d:Array α} {L:μ} {t:TypeId} {kk:Nat} (h:d.toList.map enc=L) (env':Β) (a:∀p∈env',Z3 env p.1=p.2)
  (b:W P m nt k env' [.cells t kk (d.toList.map enc)] Z E):W P m nt k env [.cells t kk L] Z E:=h▸W.forget env' a b
theorem W.su {P:Program} {m nt:Nat} {k:Zz} {env:Β} {Z:XO} {E:Ya} {enc:α->Ψ} {d:Array α} {t:TypeId} {kk:Nat} {a:Item} (env':Β) (b:Array α)
  (c:W P m nt (a::k) env [.cells t kk (d.toList.map enc)] (λj e s=>j=k/\s=[.cells t kk (b.toList.map enc)]/\∀p∈env',Z3 e p.1=p.2) E) (f:W P m nt k env' [.cells t kk (b.toList.map enc)] Z E):W P m nt (a::k) env [.cells t kk (d.toList.map enc)] Z E:=W.upto env' _ c f
theorem W.NQ {P:Program} {m nt:Nat} {k:Zz} {env:Β} {Z:XO} {E:Ya} {enc:α->Ψ} {d:Array α} {t:TypeId} {kk:Nat} {τ:Ξ} {a:Item} (env':Β) (b:Array α) (c:Ξ)
  (f:W P m nt (a::k) env (.cells t kk (d.toList.map enc)::τ) (λj e s=>j=k/\s=.cells t kk (b.toList.map enc)::c/\∀p∈env',Z3 e p.1=p.2) E) (g:W P m nt k env' (.cells t kk (b.toList.map enc)::c) Z E):W P m nt (a::k) env (.cells t kk (d.toList.map enc)::τ) Z E:=W.upto env' _ f g
theorem W.ss {P:Program} {m nt:Nat} {k:Zz} {env:Β} {Z:XO} {E:Ya} {enc:α->Ψ} {d:Array α} {t:TypeId} {kk:Nat} {τ:Ξ} {a:Item} {l:Nat} (env':Β) (b:Array α) (c:Ξ)
  (f:W P m nt (a::.inBlock l::k) env (.cells t kk (d.toList.map enc)::τ) (λj e s=>j=k/\s=.cells t kk (b.toList.map enc)::c/\∀p∈env',Z3 e p.1=p.2) E) (g:W P m nt k env' (.cells t kk (b.toList.map enc)::c) Z E):W P m nt (a::.inBlock l::k) env (.cells t kk (d.toList.map enc)::τ) Z E:=W.Ib env' _ f g
theorem W.Ia {P:Program} {m nt:Nat} {k:Zz} {env:Β} {Z:XO} {E:Ya} {enc:α->Ψ} {d:Array α} {L:μ} {t:TypeId} {kk:Nat} (h:d.toList.map enc=L) (env':Β) (a:∀p∈env',Z3 env p.1=p.2)
  (b:W P m nt k env' [.cells t kk L] Z E):W P m nt k env [.cells t kk (d.toList.map enc)] Z E:=h▸W.forget env' a b
theorem W.WQ {P:Program} {m nt:Nat} {k:Zz} {env:Β} {Z:XO} {E:Ya} {enc:α->Ψ} {d:Array α} {t:TypeId} {kk:Nat} {a:Item} {l:Nat} (env':Β) (b:Array α)
  (c:W P m nt (a::.inBlock l::k) env [.cells t kk (d.toList.map enc)] (λj e s=>j=k/\s=[.cells t kk (b.toList.map enc)]/\∀p∈env',Z3 e p.1=p.2) E) (f:W P m nt k env' [.cells t kk (b.toList.map enc)] Z E):W P m nt (a::.inBlock l::k) env [.cells t kk (d.toList.map enc)] Z E:=W.Ib env' _ c f
theorem swp_size {d:Array α} {n:Nat} (a:d.size=n) (i j:Nat):(Go.Sort.swp d i j).size=n:=by simp[Go.Sort.swp,a]
theorem OP (p q:α->Bool) (r:∀x,q x = !p x) (d:Array α) {i j a b:Nat} (u:0<i) (f:i<=j+1) (s:Go.Sort.scanUp p d j i=a) (t:Go.Sort.scanDown q d a j=b):i<=a/\a<=j+1/\b<=j/\a<=b+1/\(a<=b->a<b):=by
 obtain⟨g,c,v,k⟩:=Go.Sort.scanUp_spec p d j _ i U;obtain⟨l,m,w,n⟩:=Go.Sort.scanDown_spec q d a j;rw[s] at g c k;rw[t] at l m n;refine⟨g,c f,l,m (c f),λh=>?_⟩;rcases OF a b with o|o
 .exact o
 .have e:a=b:=J
  have f1:=k J
  have f2:=n h J;rw[r,<-e,f1] at f2;cases f2
theorem BK (lt:α->α->Bool) {a b n:Nat}:∀(m i j:Nat) (g:Array α),j+1-i<=m->g.size=n->0<i->i<=j+1->j<b->(Go.Sort.partLoop lt a i j g).2.size=n/\(Go.Sort.partLoop lt a i j g).1<b:=by
 intro m
 induction m with
 | zero=>
  intro i j g s k l o t;rw[Go.Sort.partLoop_eq];obtain⟨c,e⟩:=ZG (Go.Sort.scanUp (λx=>lt x g[a]!) g j i);obtain⟨d,f⟩:=ZG (Go.Sort.scanDown (λx=>!lt x g[a]!) g c j);obtain⟨u,v,w,y,p⟩:=OP (λx=>lt x g[a]!) (λx=>!lt x g[a]!) (λx=>rfl) g l o e f;rw[e,f,if_pos (by apply Tb;intro h;have:=p J;omega)];exact⟨k,by show d<b;omega⟩
 | succ m A=>
  intro i j g s k l o t;rw[Go.Sort.partLoop_eq];obtain⟨c,e⟩:=ZG (Go.Sort.scanUp (λx=>lt x g[a]!) g j i);obtain⟨d,f⟩:=ZG (Go.Sort.scanDown (λx=>!lt x g[a]!) g c j);obtain⟨u,v,w,y,p⟩:=OP (λx=>lt x g[a]!) (λx=>!lt x g[a]!) (λx=>rfl) g l o e f;rw[e,f];by_cases r:c > d
  .rw[if_pos r];exact⟨k,by show d<b;omega⟩
  .rw[if_neg r];have:=p J;exact A (c+1) (d-1) _ J (swp_size k c d) J J J
theorem BJ (lt:α->α->Bool) (hi first r:Nat) (e:Array α) {c k:Nat} (f:c=2*r+1) (h:c<hi) (a:k=if(decide (c+1<hi)&&lt e[first+c]! e[first+(c+1)]!)=true then c+1 else c) :
  Go.Sort.siftDown lt hi first r e=if(!lt e[first+r]! e[first+k]!)=true then e else Go.Sort.siftDown lt hi first k (Go.Sort.swp e (first+r) (first+k)):=by
 subst f;rw[Go.Sort.siftDown,dif_neg J];have d:first+(2*r+1)+1=first+(2*r+1+1):=J
 have Ρ:2*r+2=2*r+1+1:=J;by_cases b:(decide (2*r+1+1<hi)&&lt e[first+(2*r+1)]! e[first+(2*r+1+1)]!)=true
 .rw[if_pos b] at a;subst a;rw[d,Ρ,if_pos b];have g:2*r+1+1<hi:=by simp at b;exact b.1
  simp only[dif_pos g]
 .rw[if_neg b] at a;subst a;rw[d,if_neg b]
theorem K1 {lt:α->α->Bool} {hi first n:Nat}:∀{r:Nat} {e:Array α},e.size=n->(Go.Sort.siftDown lt hi first r e).size=n:=by
 have c:∀(m r:Nat) (e:Array α),hi-r<=m->e.size=n->(Go.Sort.siftDown lt hi first r e).size=n:=by
  intro m
  induction m with
  | zero=>
   intro r e d a;rw[Go.Sort.siftDown,dif_pos J];exact a
  | succ m b=>
   intro r e d a;rw[Go.Sort.siftDown];split
   .exact a
   .split
    .split
     .exact a
     .split
      .exact b _ _ J (swp_size a _ _)
      .exact a
    .split
     .exact a
     .exact b _ _ J (swp_size a _ _)
 intro r e a;exact c _ r e (Z6 _) a
theorem FV {lt:α->α->Bool} {hi first n:Nat}:∀{k:Nat} {e:Array α},e.size=n->(Go.Sort.heapBuild lt hi first k e).size=n
 | 0,_,a=>a
 | k+1,e,a=>by
  show(Go.Sort.heapBuild lt hi first k (Go.Sort.siftDown lt hi first k e)).size=n;exact FV (K1 a)
theorem PC (lt:α->α->Bool) (d:Array α) {a b n:Nat} (c:a<n) (e:b<n) (s:Nat):(Go.Sort.order2 lt d a b s).1<n/\(Go.Sort.order2 lt d a b s).2.1<n/\(Go.Sort.order2 lt d a b s).2.2<=s+1:=by
 unfold Go.Sort.order2;split
 .exact⟨e,c,Z6 _⟩
 .exact⟨c,e,Nat.le_succ _⟩
theorem sr (p:α->Bool) (d:Array α) {i j:Nat} (h:j<i):Go.Sort.scanDown p d i j=j:=by
 cases j with
 | zero=>rfl
 | succ j=>rw[Go.Sort.scanDown,if_neg (by simp;omega)]
theorem Mt {p:α->Bool} {d:Array α} {b i R:Nat} (h:Go.Sort.scanDown p d b i=R) (a:¬b<=i):i=R:=by rw[<-h,sr p d J]
end
structure BI (c:Type) where
 a:Nat
 b:Nat
 lim:Nat
 wb:Bool
 wp:Bool
 e:Array c
def Qv {b:Type} [Inhabited b] (a l m:Nat):Nat->Nat->UInt64×Array b->UInt64×Array b
 | 0,_,st=>st
 | k+1,idx,st=>Qv a l m k (idx+1) (Go.Sort.breakStep a l m st idx)
theorem BH {e:Type} [Inhabited e] {d:Array e} {a b l c:Nat} (f:l=b-a) (g:8<=l) (h:c=a+(l / 4)*2):Go.Sort.breakPatterns d a b=(Qv a l (1 <<< Go.Sort.bitsLen l) 3 (c-1) (UInt64.ofNat l,d)).2:=by
 subst f;subst h;unfold Go.Sort.breakPatterns;simp only[ge_iff_le,g,if_true];rfl
abbrev Vd (n:Int):Ψ:=.z (.int .u64 n)
def RP:Go.Sort.Hint->Int
 | .unknown=>0
 | .increasing=>1
 | .decreasing=>2
theorem H9 {b:Type} {enc:b->Ψ} {t k:Nat} {d:Array b} {f:Row} (g:∀y,∀a∈(enc y).cells,ς 0 a) (id:Nat) (r:Row) (j:id<1) (c:[Row.cells t k (d.toList.map enc),f][id]?=some r):XF 1 r:=by
 obtain rfl:id=0:=J;simp at c;subst c;intro e h a i;obtain⟨y,_,rfl⟩:=YO.1 h;exact ς.mono (g y a i) (Α _)
theorem so {l m:Nat} (h:l<2 ^ 62):i64.wrap (Int.tdiv (l:Int) (m:Int))=((l / m:Nat):Int):=by
 rw[HW J];have a:l / m<=l:=Nat.div_le_self l m;have b:((l:Int) / (m:Int))=((l / m:Nat):Int):=rfl;rw[b];obtain⟨q,c⟩:=Ε (l / m);rw[<-c] at a ⊢;rw[i64_in _ J]
theorem OO {l m:Nat} (h:l<2 ^ 62):i64.wrap ((l:Int) / (m:Int))=((l / m:Nat):Int):=by
 have:=so (m:=m) h;rw[HW J] at this;exact this
theorem Qu {x:Nat} (h:x<2 ^ 64):u64.wrap (x:Int)=(x:Int):=by
 unfold IntKind.wrap;simp[IntKind.bits,IntKind.signed];omega
theorem FU {x y:Nat} (a:x<2 ^ 64) (b:y<2 ^ 64):LS .u64 (x:Int) (y:Int)=((x^^^y:Nat):Int):=by
 have h:x^^^y<2 ^ 64:=Nat.xor_lt_two_pow a b
 have e:(BitVec.ofInt 64 (x:Int)^^^BitVec.ofInt 64 (y:Int)).toNat=x^^^y:=by
  rw[BitVec.toNat_xor,BitVec.ofInt_natCast,BitVec.ofInt_natCast,BitVec.toNat_ofNat,BitVec.toNat_ofNat,Ql a,Ql b]
 show u64.wrap (BitVec.ofInt 64 (x:Int)^^^BitVec.ofInt 64 (y:Int)).toNat=_;rw[e];exact Qu h
theorem FT (x k:Nat) (a:k<=64):u64.wrap ((x:Int)*2 ^ min k u64.bits)=((x*2 ^ k % 18446744073709551616:Nat):Int):=by
 have e:min k u64.bits=k:=Nat.min_eq_left a;rw[e];have Ρ:(x:Int)*2 ^ k=((x*2 ^ k:Nat):Int):=Ω;rw[Ρ];obtain⟨y,b⟩:=Ε (x*2 ^ k);rw[<-b];unfold IntKind.wrap;simp[IntKind.bits,IntKind.signed]
theorem sn (x k:Nat) (a:k<=64):(x:Int).fdiv (2 ^ min k u64.bits)=((x / 2 ^ k:Nat):Int):=by
 have e:min k u64.bits=k:=Nat.min_eq_left a;rw[e,HX _ (Int.le_of_lt (Int.pow_pos ZT))];simp
theorem BG {x y:Nat} (a:x<2 ^ 64) (b:y<2 ^ 64):XT .u64 (x:Int) (y:Int)=((x&&&y:Nat):Int):=by
 have h:x&&&y<2 ^ 64:=Qp Nat.and_le_left a
 have e:(BitVec.ofInt 64 (x:Int)&&&BitVec.ofInt 64 (y:Int)).toNat=x&&&y:=by
  rw[BitVec.toNat_and,BitVec.ofInt_natCast,BitVec.ofInt_natCast,BitVec.toNat_ofNat,BitVec.toNat_ofNat,Ql a,Ql b]
 show u64.wrap (BitVec.ofInt 64 (x:Int)&&&BitVec.ofInt 64 (y:Int)).toNat=_;rw[e];exact Qu h
theorem V6 {i:Nat} (h:0<i) (a:i<2 ^ 62):i64.wrap ((i:Int)-1)=((i-1:Nat):Int):=by
 rw[i64_in _ J];omega
theorem X3 {i:Nat} (a:i<2 ^ 61):i64.wrap ((i:Int)+1)=((i+1:Nat):Int):=by
 rw[i64_in _ J];omega
theorem Qt {a b:Nat} (h:a<=b) (c:b<2 ^ 62):i64.wrap ((b:Int)-a)=((b-a:Nat):Int):=by
 rw[i64_in _ J];omega
theorem sm:∀a<64,∀b<64,(Uu .i64 (a:Nat) (b:Nat)=0↔XT .i64 (b:Nat) (a:Nat)=(a:Nat))/\0<=QY .i64 (a:Nat) (b:Nat)/\QY .i64 (a:Nat) (b:Nat)<=63:=by decide +kernel
theorem H8 {a b:Int} (c:0<=a/\a<=63) (d:0<=b/\b<=63):(Uu .i64 a b=0↔XT .i64 b a=a)/\0<=QY .i64 a b/\QY .i64 a b<=63:=by
 obtain⟨x,rfl⟩:∃x:Nat,a=x:=⟨a.toNat,J⟩;obtain⟨y,rfl⟩:∃y:Nat,b=y:=⟨b.toNat,J⟩;exact sm x J y J
theorem FR {s:ω} (h:W0 s) {g:Int}:0<=s.of g/\s.of g<=63:=by
 unfold ω.of;split
 .omega
 .cases c:s.χ[g.toNat]? with
  | none=>simp
  | some x=>
   obtain⟨_,a,b⟩:=h.χ.each x (Y1 c);simp;omega
theorem BF {s:ω} (h:W0 s) (p r:Int×Int) (n:Nat):0<=s.XS p r n/\s.XS p r n<=63:=by
 have a:∀g,0<=Ur 0 (s.of g)/\Ur 0 (s.of g)<=63:=λg=>(H8 (a:=0) J (FR h)).2
 have z:(0:Int)<=0/\(0:Int)<=63:=J;unfold ω.XS;simp only;split
 .split
  .exact(H8 (a r.1) (FR h)).2
  .exact(H8 z (FR h)).2
 .split
  .exact a r.1
  .exact z
def ω.FQ (s:ω) (p r:Int×Int) (x:YV):Bool:=decide (UM (s.XS p r x.YX.toNat) x.seen=x.seen)&&decide (UM (s.XS p r x.YX.toNat) x.bare=0)
theorem sk {s:ω} (h:W0 s) (p r:Int×Int) {c:List YV} (a:c∈s.cells) {x:YV} (b:x∈c):s.FQ p r x=s.VH p r x:=by
 obtain⟨_,d,_,_⟩:=(h.cells c a).each x b;have:=(H8 d (BF h p r x.YX.toNat)).1;unfold ω.FQ ω.VH;rw[Pu];simp only[VO,decide_eq_true_eq,beq_iff_eq];rw[this]
abbrev Ρ (r:Int×Int):Ψ:=Yu [r.1,r.2]
theorem H7 {L:List Zu}:∀e∈L.map Ρ,∀a∈e.cells,ς 0 a:=λe c a b=>by
 obtain⟨x,_,rfl⟩:=YO.1 c;simp[Ψ.cells] at b;subst b;simp
theorem FP (q:Int×Int->Bool) (n i j:Nat):(Xo q n i j).length<=i*(n+1)+j:=by
 have h:(WQ n i).length=i*(n+1):=by
  induction i with
  | zero=>simp[WQ]
  | succ i a=>rw[GO,Vz,a,Nat.succ_mul];simp[TV]
 unfold Xo;refine XQ (Mk _ _) ?_;rw[Vz,h];simp[TV]
abbrev FO (l:List (List (ZZ))):Ψ:=δ ZM 1 l
abbrev Um (l:List Zu):List (ZZ):=l.map λr=>[r.1,r.2]
structure Te where
 t:TypeId
 k:Nat
 enc:Int×Int->Ψ
 partition:FuncId
 partitionEqual:FuncId
 siftDown:FuncId
 heapSort:FuncId
 reverseRange:FuncId
 median:FuncId
 medianAdjacent:FuncId
 choosePivot:FuncId
 insertionSort:FuncId
 partialInsertionSort:FuncId
 breakPatterns:FuncId
 order2:FuncId
 sj:FuncId
abbrev Wj:Te:=⟨112,2,Zb,241,240,254,235,238,256,255,237,234,239,236,258,211⟩
abbrev Wi:Te:=⟨29,1,YC,190,189,225,184,187,229,228,186,183,188,185,252,149⟩
theorem si [ZP] (S:Te) (m:S=Wj\/S=Wi) (d:Array Zu) (n a b:Nat) (f:d.size=n) (g:a<=b) (h:b<=n) (i:n<2 ^ 40) (c:Ψ) (e:Int×Int->Int×Int->Int) (j:ς 0 c) (l:∀x y,XM prog c [S.enc x,S.enc y] (I (e x y))) :
  Μ prog S.insertionSort [.ms 0 n 0 n,I a,I b,c] [.cells S.t S.k (d.toList.map S.enc)] (λr s=>r=.ZY []/\s=[.cells S.t S.k ((Go.Sort.insertionSort (ψ e) d a b).toList.map S.enc)]) (λ_ _=>False):=by
 rcases m with rfl|rfl
 .exact DL d n a b f g h i c e j l
 .exact xC d n a b f g h i c e j l
theorem sh (S:Te) (ar:S=Wj\/S=Wi) (d:Array Zu) (n a b p:Nat) (ak:d.size=n) (ay:n<2 ^ 40) (az:a<=p) (aA:p<b) (aB:b<=n) (B:Ψ) (o:Int×Int->Int×Int->Int) (aC:ς 0 B) (ae:∀x y,XM prog B [S.enc x,S.enc y] (I (o x y))) :
  Μ prog S.partition [.ms 0 n 0 n,I a,I b,I p,B] [.cells S.t S.k ((d).toList.map S.enc)] (λr s=>r=.ZY [I (Go.Sort.partition (ψ o) d a b p).1,ν (Go.Sort.partition (ψ o) d a b p).2.1]/\s=[.cells S.t S.k (((Go.Sort.partition (ψ o) d a b p).2.2).toList.map S.enc)]) (λ_ _=>False):=by
 rcases ar with rfl|rfl
 all_goals dsimp only[Wj,Wi] at *
 refine Μ.body Ο func241 U U ntmps241 U U Ω ?_
 rotate_left
 refine Μ.body Ο func190 U U ntmps190 U U Ω ?_
 all_goals
  have au:=X3 (i:=a) J
  have av:=V6 (i:=b) J J
  repeat apply Ν
  refine Xh ?_;refine W.two _ ak (i:=a) (j:=p) J J λL x y z u v F w H=>?_
  repeat apply Ν
  refine W.draw (A:=[]) Ο mixed λO D=>?_;simp;(repeat (rw[Z1];simp[F]));try rw[Z2];refine Zf (D _ _ ?_)
  refine W.back H [(0,.ms 0 n 0 n),(1,I a),(2,I b),(3,I p),(4,B)] Ω ?_;clear F H w u v L x y z;obtain⟨e,ag⟩:=Ε (Go.Sort.swp d a p);have Y:e.size=n:=by rw[ag];exact swp_size ak a p
  rw[<-ag]
  repeat apply Ν
  refine Ts (Υ au av) ?_;refine W.to (σ':=[.cells _ _ ((e).toList.map _)]) (env':=[(0,.ms 0 n 0 n),(1,I a),(4,B),(12,I (a+1:Nat)),(13,I (b-1:Nat))]) ?_ U Ω;obtain⟨c,P⟩:=ZG (Go.Sort.scanUp (λx=>ψ o x e[a]!) e (b-1) (a+1));obtain⟨l,Q⟩:=ZG (Go.Sort.scanDown (λx=>!ψ o x e[a]!) e c (b-1));obtain⟨al,am,an,ao,af⟩:=OP (λx=>ψ o x e[a]!) (λx=>!ψ o x e[a]!) (λx=>rfl) e J J P Q;have K:Go.Sort.partition (ψ o) d a b p=if c > l then(l,true,Go.Sort.swp e l a) else((Go.Sort.partLoop (ψ o) a (c+1) (l-1) (Go.Sort.swp e c l)).1,false,Go.Sort.swp (Go.Sort.partLoop (ψ o) a (c+1) (l-1) (Go.Sort.swp e c l)).2 (Go.Sort.partLoop (ψ o) a (c+1) (l-1) (Go.Sort.swp e c l)).1 a):=by
   unfold Go.Sort.partition;simp only[<-ag,P,Q]
  repeat apply Ν
  repeat apply Ν
  refine W.WQ [(0,.ms 0 n 0 n),(1,I a),(4,B),(12,I (c:Nat)),(13,I (b-1:Nat))] e ?_ ?_
  .refine W.iter (λi:Nat=>(a+1)<=i/\i<=(b-1)+1/\Go.Sort.scanUp (λx=>ψ o x e[a]!) e (b-1) i=c) (λi=>[(0,.ms 0 n 0 n),(1,I a),(4,B),(12,I (i:Nat)),(13,I (b-1:Nat))]) (λ_=>[.cells _ _ ((e).toList.map _)]) (λi=>(b-1)+1-i) ((a+1)) ⟨Z6 _,J,P⟩ U Ω (λi hi N=>?_);obtain⟨Z,aa,E⟩:=hi;by_cases m:i<=(b-1)
   .refine W.two _ Y (i:=i) (j:=a) J J λL x y _ u v F w _=>?_;have M:=X3 (i:=i) J
    repeat apply Ν
    refine W.draw (A:=[]) Ο mixed λO D=>?_;simp;(repeat (rw[Z1];simp[m,F]));try rw[Z2]
    refine Zc (ae x y) ?_;simp;(repeat (rw[Z1];simp));try rw[Z2]
    refine Zf (D _ _ ?_);by_cases C:o x y<0
    .refine Ζ (by simp[C]) ?_;refine Ι M ?_;exact W.to (N (i+1) ⟨J,J,My E m (by simp[u,v,C,ψ])⟩ Zy) (by rw[w]) (by simp[M])
    .refine Η (by simp[C]) ?_;refine W.exit U ?_;exact W.stop ⟨U,by rw[w],by rw[<-Mx E m (by simp[u,v,C,ψ])];simp⟩
   .repeat apply Ν
    refine XJ m ?_;refine Η U ?_;refine W.exit U ?_;exact W.stop ⟨U,U,by rw[<-Mw E m];simp⟩
  repeat apply Ν
  refine W.WQ [(0,.ms 0 n 0 n),(1,I a),(4,B),(12,I (c:Nat)),(13,I (l:Nat))] e ?_ ?_
  .refine W.iter (λi:Nat=>i<=(b-1)/\c<=i+1/\Go.Sort.scanDown (λx=>!ψ o x e[a]!) e c i=l) (λi=>[(0,.ms 0 n 0 n),(1,I a),(4,B),(12,I (c:Nat)),(13,I (i:Nat))]) (λ_=>[.cells _ _ ((e).toList.map _)]) (λi=>i+1-c) ((b-1)) ⟨Z6 _,J,Q⟩ U Ω (λi hi N=>?_);obtain⟨Z,aa,E⟩:=hi;by_cases m:c<=i
   .refine W.two _ Y (i:=i) (j:=a) J J λL x y _ u v F w _=>?_;have M:=V6 (i:=i) J J
    repeat apply Ν
    refine W.draw (A:=[]) Ο mixed λO D=>?_;simp;(repeat (rw[Z1];simp[m,F]));try rw[Z2]
    refine Zc (ae x y) ?_;simp;(repeat (rw[Z1];simp));try rw[Z2]
    refine Zf (D _ _ ?_);by_cases C:o x y<0
    .refine Η (by simp[C]) ?_;refine W.exit U ?_;exact W.stop ⟨U,by rw[w],by rw[<-Mu E m J (by simp[u,v,C,ψ])];simp⟩
    .refine Ζ (by simp[C]) ?_;refine Ι M ?_;exact W.to (N (i-1) ⟨J,J,Mv E m J (by simp[u,v,C,ψ])⟩ Zy) (by rw[w]) (by simp[M])
   .repeat apply Ν
    refine XJ m ?_;refine Η U ?_;refine W.exit U ?_;exact W.stop ⟨U,U,by rw[<-Mt E m];simp⟩
  repeat apply Ν
  by_cases m:c > l
  .have T:((l:Nat):Int)<(c:Nat):=J
   refine Ι T ?_;refine Ζ (by simp[m]) ?_;refine W.two _ Y (i:=l) (j:=a) J J λL x y z u v F w H=>?_
   repeat apply Ν
   refine W.draw (A:=[]) Ο mixed λO D=>?_;simp;(repeat (rw[Z1];simp[F]));try rw[Z2];refine Zf (D _ _ ?_)
   refine W.back H [(0,.ms 0 n 0 n),(1,I a),(4,B),(12,I (c:Nat)),(13,I (l:Nat))] Ω ?_;clear F H w u v L x y z;refine Χ ?_;exact W.ret ⟨_,U,by rw[K,if_pos m];rfl,by rw[K,if_pos m]⟩
  have T:¬((l:Nat):Int)<(c:Nat):=J
  have aw:=af J
  have V:=X3 (i:=c) J
  have X:=V6 (i:=l) J J;refine Ι T ?_;refine Η (by simp[m]) ?_;refine W.two _ Y (i:=c) (j:=l) J J λL x y z u v F w H=>?_
  repeat apply Ν
  refine W.draw (A:=[]) Ο mixed λO D=>?_;simp;(repeat (rw[Z1];simp[F]));try rw[Z2];refine Zf (D _ _ ?_)
  refine W.back H [(0,.ms 0 n 0 n),(1,I a),(4,B),(12,I (c:Nat)),(13,I (l:Nat))] Ω ?_;clear F H w u v L x y z;have ah:=swp_size Y c l;rw[if_neg m] at K;obtain⟨g,ai⟩:=Ε (Go.Sort.swp e c l);rw[<-ai] at K ah;rw[<-ai];refine Ι (Υ V X) ?_;refine W.to (σ':=[.cells _ _ ((g).toList.map _)]) (env':=[(0,.ms 0 n 0 n),(1,I a),(4,B),(12,I (c+1:Nat)),(13,I (l-1:Nat))]) ?_ U (by simp[V,X]);have aD:a<c:=J;have aE:l<b:=J;have aF:c+1<=l-1+1:=J;clear P Q T m al am an ao af ai V X;obtain⟨R,aj⟩:=ZG (Go.Sort.partLoop (ψ o) a (c+1) (l-1) g)
  repeat apply Ν
  refine W.WQ [(0,.ms 0 n 0 n),(1,I a),(13,I R.1)] R.2 ?_ ?_
  .refine W.iter (λq:Nat×Nat×Array Zu=>q.2.2.size=n/\a<q.1/\q.1<=q.2.1+1/\q.2.1<b/\Go.Sort.partLoop (ψ o) a q.1 q.2.1 q.2.2=R) (λq=>[(0,.ms 0 n 0 n),(1,I a),(4,B),(12,I (q.1:Nat)),(13,I (q.2.1:Nat))]) (λq=>[.cells _ _ ((q.2.2).toList.map _)]) (λq=>q.2.1+1-q.1) (c+1,l-1,g) ⟨ah,Zy,Zy,Zy,aj⟩ U Ω (λq hi N=>?_);obtain⟨i,j,f⟩:=q;obtain⟨ab,Z,aa,E,ad⟩:=hi;simp only at ab Z aa E ad;obtain⟨c,P⟩:=ZG (Go.Sort.scanUp (λx=>ψ o x f[a]!) f (j) (i));obtain⟨l,Q⟩:=ZG (Go.Sort.scanDown (λx=>!ψ o x f[a]!) f c (j));obtain⟨al,am,an,ao,af⟩:=OP (λx=>ψ o x f[a]!) (λx=>!ψ o x f[a]!) (λx=>rfl) f J J P Q;have K:Go.Sort.partLoop (ψ o) a i j f=if c > l then(l,f) else Go.Sort.partLoop (ψ o) a (c+1) (l-1) (Go.Sort.swp f c l):=by
    rw[Go.Sort.partLoop_eq];simp only[P,Q]
   refine W.to (σ':=[.cells _ _ ((f).toList.map _)]) (env':=[(0,.ms 0 n 0 n),(1,I a),(4,B),(12,I (i:Nat)),(13,I (j:Nat))]) ?_ U Ω;refine W.block ?_
   repeat apply Ν
   refine W.WQ [(0,.ms 0 n 0 n),(1,I a),(4,B),(12,I (c:Nat)),(13,I (j:Nat))] f ?_ ?_
   .refine W.iter (λi:Nat=>(i)<=i/\i<=(j)+1/\Go.Sort.scanUp (λx=>ψ o x f[a]!) f (j) i=c) (λi=>[(0,.ms 0 n 0 n),(1,I a),(4,B),(12,I (i:Nat)),(13,I (j:Nat))]) (λ_=>[.cells _ _ ((f).toList.map _)]) (λi=>(j)+1-i) ((i)) ⟨Z6 _,J,P⟩ U Ω (λi hi N=>?_);obtain⟨Z,aa,E⟩:=hi;by_cases m:i<=(j)
    .refine W.two _ ab (i:=i) (j:=a) J J λL x y _ u v F w _=>?_;have M:=X3 (i:=i) J
     repeat apply Ν
     refine W.draw (A:=[]) Ο mixed λO D=>?_;simp;(repeat (rw[Z1];simp[m,F]));try rw[Z2]
     refine Zc (ae x y) ?_;simp;(repeat (rw[Z1];simp));try rw[Z2]
     refine Zf (D _ _ ?_);by_cases C:o x y<0
     .refine Ζ (by simp[C]) ?_;refine Ι M ?_;exact W.to (N (i+1) ⟨J,J,My E m (by simp[u,v,C,ψ])⟩ Zy) (by rw[w]) (by simp[M])
     .refine Η (by simp[C]) ?_;refine W.exit U ?_;exact W.stop ⟨U,by rw[w],by rw[<-Mx E m (by simp[u,v,C,ψ])];simp⟩
    .repeat apply Ν
     refine XJ m ?_;refine Η U ?_;refine W.exit U ?_;exact W.stop ⟨U,U,by rw[<-Mw E m];simp⟩
   repeat apply Ν
   refine W.WQ [(0,.ms 0 n 0 n),(1,I a),(4,B),(12,I (c:Nat)),(13,I (l:Nat))] f ?_ ?_
   .refine W.iter (λi:Nat=>i<=(j)/\c<=i+1/\Go.Sort.scanDown (λx=>!ψ o x f[a]!) f c i=l) (λi=>[(0,.ms 0 n 0 n),(1,I a),(4,B),(12,I (c:Nat)),(13,I (i:Nat))]) (λ_=>[.cells _ _ ((f).toList.map _)]) (λi=>i+1-c) ((j)) ⟨Z6 _,J,Q⟩ U Ω (λi hi N=>?_);obtain⟨Z,aa,E⟩:=hi;by_cases m:c<=i
    .refine W.two _ ab (i:=i) (j:=a) J J λL x y _ u v F w _=>?_;have M:=V6 (i:=i) J J
     repeat apply Ν
     refine W.draw (A:=[]) Ο mixed λO D=>?_;simp;(repeat (rw[Z1];simp[m,F]));try rw[Z2]
     refine Zc (ae x y) ?_;simp;(repeat (rw[Z1];simp));try rw[Z2]
     refine Zf (D _ _ ?_);by_cases C:o x y<0
     .refine Η (by simp[C]) ?_;refine W.exit U ?_;exact W.stop ⟨U,by rw[w],by rw[<-Mu E m J (by simp[u,v,C,ψ])];simp⟩
     .refine Ζ (by simp[C]) ?_;refine Ι M ?_;exact W.to (N (i-1) ⟨J,J,Mv E m J (by simp[u,v,C,ψ])⟩ Zy) (by rw[w]) (by simp[M])
    .repeat apply Ν
     refine XJ m ?_;refine Η U ?_;refine W.exit U ?_;exact W.stop ⟨U,U,by rw[<-Mt E m];simp⟩
   repeat apply Ν
   by_cases m:c > l
   .have T:((l:Nat):Int)<(c:Nat):=J
    refine Ι T ?_;refine Ζ (by simp[m]) ?_;refine W.exit U ?_;rw[K,if_pos m] at ad;exact W.stop ⟨U,by rw[<-ad],by rw[<-ad];simp⟩
   .have T:¬((l:Nat):Int)<(c:Nat):=J
    have aw:=af J
    have V:=X3 (i:=c) J
    have X:=V6 (i:=l) J J;refine Ι T ?_;refine Η (by simp[m]) ?_;refine W.two _ ab (i:=c) (j:=l) J J λL x y z u v F w H=>?_
    repeat apply Ν
    refine W.draw (A:=[]) Ο mixed λO D=>?_;simp;(repeat (rw[Z1];simp[F]));try rw[Z2];refine Zf (D _ _ ?_)
    refine W.back H [(0,.ms 0 n 0 n),(1,I a),(4,B),(12,I (c:Nat)),(13,I (l:Nat))] Ω ?_;clear F H w u v L x y z;refine Ι (Υ V X) ?_;exact W.to (N (c+1,l-1,Go.Sort.swp f c l) ⟨swp_size ab c l,Zy,Zy,Zy,by simp;rw[<-ad,K,if_neg m]⟩ Zy) U (by simp[V,X])
  rw[aj] at K;have ap:=BK (ψ o) (a:=a) (b:=b) _ (c+1) (l-1) g (Z6 _) ah J J J;rw[aj] at ap;obtain⟨aq,ax⟩:=ap;obtain⟨j,h⟩:=R;simp only at aq ax K;refine W.two _ aq (i:=j) (j:=a) J J λL x y z u v F w H=>?_
  repeat apply Ν
  refine W.draw (A:=[]) Ο mixed λO D=>?_;simp;(repeat (rw[Z1];simp[F]));try rw[Z2];refine Zf (D _ _ ?_)
  refine W.back H [(0,.ms 0 n 0 n),(1,I a),(13,I (j:Nat))] Ω ?_;clear F H w u v L x y z;refine Χ ?_;exact W.ret ⟨_,U,by rw[K];rfl,by rw[K]⟩
theorem sg (S:Te) (af:S=Wj\/S=Wi) (d:Array Zu) (n a b p:Nat) (Z:d.size=n) (ak:n<2 ^ 40) (al:a<=p) (am:p<b) (an:b<=n) (m:Ψ) (g:Int×Int->Int×Int->Int) (ao:ς 0 m) (aa:∀x y,XM prog m [S.enc x,S.enc y] (I (g x y))) :
  Μ prog S.partitionEqual [.ms 0 n 0 n,I a,I b,I p,m] [.cells S.t S.k ((d).toList.map S.enc)] (λr s=>r=I (Go.Sort.partitionEqual (ψ g) d a b p).1/\s=[.cells S.t S.k (((Go.Sort.partitionEqual (ψ g) d a b p).2).toList.map S.enc)]) (λ_ _=>False):=by
 rcases af with rfl|rfl
 all_goals dsimp only[Wj,Wi] at *
 refine Μ.body Ο func240 U U ntmps240 U U Ω ?_
 rotate_left
 refine Μ.body Ο func189 U U ntmps189 U U Ω ?_
 all_goals
  have ag:=X3 (i:=a) J
  have ah:=V6 (i:=b) J J
  repeat apply Ν
  refine Xh ?_;refine W.two _ Z (i:=a) (j:=p) J J λL x y z o u F v D=>?_
  repeat apply Ν
  refine W.draw (A:=[]) Ο mixed λO C=>?_;simp;(repeat (rw[Z1];simp[F]));try rw[Z2];refine Zf (C _ _ ?_)
  refine W.back D [(0,.ms 0 n 0 n),(1,I a),(2,I b),(3,I p),(4,m)] Ω ?_;clear F D v o u L x y z;obtain⟨e,P⟩:=Ε (Go.Sort.swp d a p);have ai:e.size=n:=by rw[P];exact swp_size Z a p
  rw[<-P]
  repeat apply Ν
  refine Ts (Υ ag ah) ?_;refine W.to (σ':=[.cells _ _ ((e).toList.map _)]) (env':=[(0,.ms 0 n 0 n),(1,I a),(4,m),(11,I (a+1:Nat)),(12,I (b-1:Nat))]) ?_ U Ω;obtain⟨R,ab⟩:=ZG (Go.Sort.partEqLoop (ψ g) a (a+1) (b-1) e)
  repeat apply Ν
  refine W.WQ [(11,I R.1)] R.2 ?_ ?_
  .refine W.iter (λq:Nat×Nat×Array Zu=>q.2.2.size=n/\a<q.1/\q.1<=q.2.1+1/\q.2.1<b/\Go.Sort.partEqLoop (ψ g) a q.1 q.2.1 q.2.2=R) (λq=>[(0,.ms 0 n 0 n),(1,I a),(4,m),(11,I (q.1:Nat)),(12,I (q.2.1:Nat))]) (λq=>[.cells _ _ ((q.2.2).toList.map _)]) (λq=>q.2.1+1-q.1) (a+1,b-1,e) ⟨ai,Zy,Zy,Zy,ab⟩ U Ω (λq hi E=>?_);obtain⟨i,j,f⟩:=q;obtain⟨H,Q,T,w,K⟩:=hi;simp only at H Q T w K;obtain⟨c,V⟩:=ZG (Go.Sort.scanUp (λx=>!ψ g f[a]! x) f (j) (i));obtain⟨l,X⟩:=ZG (Go.Sort.scanDown (λx=>ψ g f[a]! x) f c (j));obtain⟨ap,aq,ar,au,aj⟩:=OP (λx=>!ψ g f[a]! x) (λx=>ψ g f[a]! x) (λx=>Ω) f J J V X;have M:Go.Sort.partEqLoop (ψ g) a i j f=if c > l then(c,f) else Go.Sort.partEqLoop (ψ g) a (c+1) (l-1) (Go.Sort.swp f c l):=by
    rw[Go.Sort.partEqLoop_eq];simp only[V,X]
   refine W.to (σ':=[.cells _ _ ((f).toList.map _)]) (env':=[(0,.ms 0 n 0 n),(1,I a),(4,m),(11,I (i:Nat)),(12,I (j:Nat))]) ?_ U Ω;refine W.block ?_
   repeat apply Ν
   refine W.WQ [(0,.ms 0 n 0 n),(1,I a),(4,m),(11,I (c:Nat)),(12,I (j:Nat))] f ?_ ?_
   .refine W.iter (λi:Nat=>(i)<=i/\i<=(j)+1/\Go.Sort.scanUp (λx=>!ψ g f[a]! x) f (j) i=c) (λi=>[(0,.ms 0 n 0 n),(1,I a),(4,m),(11,I (i:Nat)),(12,I (j:Nat))]) (λ_=>[.cells _ _ ((f).toList.map _)]) (λi=>(j)+1-i) ((i)) ⟨Z6 _,J,V⟩ U Ω (λi hi E=>?_);obtain⟨Q,T,w⟩:=hi;by_cases h:i<=(j)
    .refine W.two _ H (i:=i) (j:=a) J J λL x y _ o u F v _=>?_;have N:=X3 (i:=i) J
     repeat apply Ν
     refine W.draw (A:=[]) Ο mixed λO C=>?_;simp;(repeat (rw[Z1];simp[h,F]));try rw[Z2]
     refine Zc (aa y x) ?_;simp;(repeat (rw[Z1];simp));try rw[Z2]
     refine Zf (C _ _ ?_);by_cases B:g y x<0
     .refine Η (by simp[B]) ?_;refine W.exit U ?_;exact W.stop ⟨U,by rw[v],by rw[<-Mx w h (by simp[o,u,B,ψ])];simp⟩
     .refine Ζ (by simp[B]) ?_;refine Ι N ?_;exact W.to (E (i+1) ⟨J,J,My w h (by simp[o,u,B,ψ])⟩ Zy) (by rw[v]) (by simp[N])
    .repeat apply Ν
     refine XJ h ?_;refine Η U ?_;refine W.exit U ?_;exact W.stop ⟨U,U,by rw[<-Mw w h];simp⟩
   repeat apply Ν
   refine W.WQ [(0,.ms 0 n 0 n),(1,I a),(4,m),(11,I (c:Nat)),(12,I (l:Nat))] f ?_ ?_
   .refine W.iter (λi:Nat=>i<=(j)/\c<=i+1/\Go.Sort.scanDown (λx=>ψ g f[a]! x) f c i=l) (λi=>[(0,.ms 0 n 0 n),(1,I a),(4,m),(11,I (c:Nat)),(12,I (i:Nat))]) (λ_=>[.cells _ _ ((f).toList.map _)]) (λi=>i+1-c) ((j)) ⟨Z6 _,J,X⟩ U Ω (λi hi E=>?_);obtain⟨Q,T,w⟩:=hi;by_cases h:c<=i
    .refine W.two _ H (i:=i) (j:=a) J J λL x y _ o u F v _=>?_;have N:=V6 (i:=i) J J
     repeat apply Ν
     refine W.draw (A:=[]) Ο mixed λO C=>?_;simp;(repeat (rw[Z1];simp[h,F]));try rw[Z2]
     refine Zc (aa y x) ?_;simp;(repeat (rw[Z1];simp));try rw[Z2]
     refine Zf (C _ _ ?_);by_cases B:g y x<0
     .refine Ζ (by simp[B]) ?_;refine Ι N ?_;exact W.to (E (i-1) ⟨J,J,Mv w h J (by simp[o,u,B,ψ])⟩ Zy) (by rw[v]) (by simp[N])
     .refine Η (by simp[B]) ?_;refine W.exit U ?_;exact W.stop ⟨U,by rw[v],by rw[<-Mu w h J (by simp[o,u,B,ψ])];simp⟩
    .repeat apply Ν
     refine XJ h ?_;refine Η U ?_;refine W.exit U ?_;exact W.stop ⟨U,U,by rw[<-Mt w h];simp⟩
   repeat apply Ν
   by_cases h:c > l
   .have Y:((l:Nat):Int)<(c:Nat):=J
    refine Ι Y ?_;refine Ζ (by simp[h]) ?_;refine W.exit U ?_;rw[M,if_pos h] at K;exact W.stop ⟨U,by rw[<-K],by rw[<-K];simp⟩
   .have Y:¬((l:Nat):Int)<(c:Nat):=J
    have av:=aj J
    have ad:=X3 (i:=c) J
    have ae:=V6 (i:=l) J J;refine Ι Y ?_;refine Η (by simp[h]) ?_;refine W.two _ H (i:=c) (j:=l) J J λL x y z o u F v D=>?_
    repeat apply Ν
    refine W.draw (A:=[]) Ο mixed λO C=>?_;simp;(repeat (rw[Z1];simp[F]));try rw[Z2];refine Zf (C _ _ ?_)
    refine W.back D [(0,.ms 0 n 0 n),(1,I a),(4,m),(11,I (c:Nat)),(12,I (l:Nat))] Ω ?_;clear F D v o u L x y z;refine Ι (Υ ad ae) ?_;exact W.to (E (c+1,l-1,Go.Sort.swp f c l) ⟨swp_size H c l,Zy,Zy,Zy,by simp;rw[<-K,M,if_neg h]⟩ Zy) U (by simp[ad,ae])
  refine Χ ?_;have M:Go.Sort.partitionEqual (ψ g) d a b p=R:=by unfold Go.Sort.partitionEqual;rw[<-P,ab]
  exact W.ret ⟨_,U,by rw[M];rfl,by rw[M]⟩
theorem sf (S:Te) (ae:S=Wj\/S=Wi) (d:Array Zu) (n lo hi first:Nat) (af:d.size=n) (ax:n<2 ^ 40) (ay:first+hi<=n) (ag:lo<=n) (a:Ψ) (b:Int×Int->Int×Int->Int) (az:ς 0 a) (T:∀x y,XM prog a [S.enc x,S.enc y] (I (b x y))) :
  Μ prog S.siftDown [.ms 0 n 0 n,I lo,I hi,I first,a] [.cells S.t S.k ((d).toList.map S.enc)] (λr s=>r=.ZY []/\s=[.cells S.t S.k ((Go.Sort.siftDown (ψ b) hi first lo d).toList.map S.enc)]) (λ_ _=>False):=by
 obtain⟨enc,V⟩:=Ε S.enc;rcases ae with rfl|rfl
 all_goals dsimp only[Wj,Wi] at *
 refine Μ.body Ο func254 U U ntmps254 U U Ω ?_
 rotate_left
 refine Μ.body Ο func225 U U ntmps225 U U Ω ?_
 all_goals
  refine Χ ?_;obtain⟨R,X⟩:=ZG (Go.Sort.siftDown (ψ b) hi first lo d);rw[X];refine W.iter (λq:Nat×Array Zu=>q.2.size=n/\q.1<=n/\Go.Sort.siftDown (ψ b) hi first q.1 q.2=R) (λq=>[(0,.ms 0 n 0 n),(2,I hi),(3,I first),(4,a),(10,I (q.1:Nat))]) (λq=>[.cells _ _ ((q.2).toList.map _)]) (λq=>hi-q.1) (lo,d) ⟨af,ag,X⟩ U Ω (λq ah ai=>?_);obtain⟨r,e⟩:=q;obtain⟨D,aj,f⟩:=ah;simp only at D aj f;obtain⟨c,ak⟩:=Ε (2*r+1);obtain⟨M,N⟩:=Ε (c+1);obtain⟨π,al⟩:=Ε (first+r);obtain⟨O,am⟩:=Ε (first+c);obtain⟨fd,an⟩:=Ε (first+(c+1));have w1:i64.wrap (2*(r:Int))=2*(r:Int):=by rw[i64_in _ J]
  have ao:i64.wrap (2*(r:Int)+1)=(c:Int):=by rw[i64_in _ J];omega
  have P:i64.wrap ((c:Int)+1)=(M:Int):=by rw[i64_in _ J];omega
  have ap:i64.wrap ((first:Int)+(c:Int))=(O:Int):=by rw[i64_in _ J];omega
  have aq:i64.wrap ((O:Int)+1)=(fd:Int):=by rw[i64_in _ J];omega
  have Y:i64.wrap ((first:Int)+(r:Int))=(π:Int):=by rw[i64_in _ J];omega
  refine W.to (σ':=[.cells _ _ ((e).toList.map _)]) (env':=[(0,.ms 0 n 0 n),(2,I hi),(3,I first),(4,a),(10,I (r:Nat))]) ?_ U Ω;refine Ι (Υ w1 ao) ?_;by_cases Z:hi<=c
  .refine Ζ (by simp[Z]) ?_;refine W.exit U ?_;exact W.nil ⟨_,U,U,by rw[<-f,Go.Sort.siftDown,dif_pos J]⟩
  refine Η (by simp[Z]) ?_;obtain⟨B,u⟩:=Ε ((decide (c+1<hi)&&ψ b e[first+c]! e[first+(c+1)]!):Bool);obtain⟨k,v⟩:∃k,k=if B=true then c+1 else c:=⟨_,U⟩
  have aA:k<hi:=by
   rw[v];split
   .rename_i h;rw[h] at u;have:=u.symm;simp at this;omega
   .omega
  have ar:=BJ (ψ b) hi first r e (k:=k) ak J (by rw[<-u];exact v)
  rw[ar] at f
  repeat apply Ν
  refine W.Pf (A:=[]) Ο mixed [(40,ν B),(0,.ms 0 n 0 n),(2,I hi),(3,I first),(4,a),(10,I r),(11,I c)] ?_ (by
   by_cases E:M<hi
   .have g:O<n:=J
    have i:fd<n:=J;obtain⟨L,x,y,j,w,C,F,⟨l,m⟩,⟨o,p⟩,-,-⟩:=TN enc D g i;simp only[V] at j l m o p;have Q:B=ψ b x y:=by rw[u,<-w,<-C,am,an];simp[<-N,E]
    have au:(M:Int)<hi:=J;rw[j];clear w C;simp;(repeat (rw[Z1];simp[P,ap,aq,E,au,F,l,m,o,p,g,i]));(try rw[Z2]);refine Zc (T x y) ?_;simp;(repeat (rw[Z1];simp));(try rw[Z2]);refine⟨Yq Zr,?_⟩;simp[Q,ψ]
   .have Q:B=false:=by rw[u];simp[<-N,E]
    simp;(repeat (rw[Z1];simp[P,E]));(try rw[Z2]);refine⟨Yq Zr,?_⟩;simp[Q])
  have aB:r<k:=by rw[v];split<;>omega
  repeat apply Ν
  refine W.su [(0,.ms 0 n 0 n),(2,I hi),(3,I first),(4,a),(10,I (r:Nat)),(11,I (k:Nat))] e ?_ ?_
  .cases B with
   | true=>
    refine Ζ U ?_;refine Ts P ?_;exact W.stop ⟨U,U,by simp[v,N]⟩
   | false=>
    refine Η U ?_;refine W.skip ?_;exact W.stop ⟨U,U,by simp[v]⟩
  obtain⟨H,av⟩:=Ε (first+k);rw[<-al,<-av] at f;have aa:i64.wrap ((first:Int)+(k:Int))=(H:Int):=by rw[i64_in _ J];omega
  have g:π<n:=J
  have i:H<n:=J;obtain⟨L,x,y,j,w,C,F,⟨l,m⟩,⟨o,p⟩,ab,aC,ad⟩:=TN enc D g i;simp only[V] at j l m o p ab ad;rw[w,C] at f;refine W.Ia j [(0,.ms 0 n 0 n),(2,I hi),(3,I first),(4,a),(10,I (r:Nat)),(11,I (k:Nat))] Ω ?_;clear w C
  repeat apply Ν
  refine W.draw (A:=[]) Ο mixed λaD aw=>V8 (Υ Y (Υ aa (Υ F (Υ l (Υ m (Υ o (Υ p (Υ g i)))))))) ?_;refine Zc (T x y) ?_;simp;(repeat (rw[Z1];simp));try rw[Z2]
  refine Zf (aw _ _ ?_);by_cases K:b x y<0
  .refine Η (by simp[K]) ?_
   repeat apply Ν
   refine XJ (Υ Y (Υ aa (Υ F (Υ l (Υ m (Υ o (Υ p (Υ ad (Υ g i))))))))) ?_;refine Χ ?_;refine W.to (ai (k,Go.Sort.swp e π H) ⟨swp_size D π H,Zy,?_⟩ Zy) (by rw[ab]) Ω;rw[<-f];simp[K,ψ]
  .refine Ζ (by simp[K]) ?_;refine Χ ?_;exact W.ret ⟨_,U,U,by rw[<-j,<-f];simp[K,ψ]⟩
theorem se (S:Te) (O:S=Wj\/S=Wi) (d:Array Zu) (n a b:Nat) (P:d.size=n) (Q:n<2 ^ 40) (am:a<b) (an:b<=n) (f:Ψ) (c:Int×Int->Int×Int->Int) (R:ς 0 f) (T:∀x y,XM prog f [S.enc x,S.enc y] (I (c x y))) :
  Μ prog S.heapSort [.ms 0 n 0 n,I a,I b,f] [.cells S.t S.k ((d).toList.map S.enc)] (λr s=>r=.ZY []/\s=[.cells S.t S.k ((Go.Sort.heapSort (ψ c) d a b).toList.map S.enc)]) (λ_ _=>False):=by
 have V:=sf S O;rcases O with rfl|rfl
 all_goals dsimp only[Wj,Wi] at *
 refine Μ.body Ο func235 U U ntmps235 U U Ω ?_
 rotate_left
 refine Μ.body Ο func184 U U ntmps184 U U Ω ?_
 all_goals
  obtain⟨m,ae⟩:=ZG (b-a);have w1:i64.wrap ((b:Int)-(a:Int))=(m:Int):=by rw[i64_in _ J];omega
  have w:i64.wrap ((m:Int)-1)=((m-1:Nat):Int):=V6 J J
  have X:i64.wrap (((m-1:Nat):Int) / 2)=(((m-1) / 2:Nat):Int):=OO (m:=2) J;obtain⟨ao,B⟩:=Ε (m-1);obtain⟨C,Y⟩:=Ε ((m-1) / 2);rw[<-Y,<-B] at X;rw[<-B] at w;have wp:∀k:Nat,k<=n->i64.wrap ((k:Int)-1)=(k:Int)-1:=λk v=>by rw[i64_in _ J]
  obtain⟨o,D⟩:=ZG (Go.Sort.heapBuild (ψ c) m a (C+1) d);have Z:Go.Sort.heapSort (ψ c) d a b=Go.Sort.heapPop (ψ c) a m o:=by unfold Go.Sort.heapSort;rw[ae,<-Y,D]
  refine Ι (Υ w1 (Υ w X)) ?_;refine W.WQ [(0,.ms 0 n 0 n),(3,f),(8,I a),(9,I 0),(10,I m)] o ?_ ?_
  .refine W.iter (λq:Nat×Array Zu=>q.2.size=n/\q.1<=C+1/\Go.Sort.heapBuild (ψ c) m a q.1 q.2=o) (λq=>[(0,.ms 0 n 0 n),(3,f),(8,I a),(9,I 0),(10,I m),(11,.z (.int .i64 ((q.1:Int)-1)))]) (λq=>[.cells _ _ ((q.2).toList.map _)]) (λq=>q.1) (C+1,d) ⟨P,Z6 _,D⟩ U Ω (λq E H=>?_);obtain⟨k,e⟩:=q;obtain⟨g,v,l⟩:=E;simp only at g v l;cases k with
   | zero=>
    refine Χ ?_;refine Η U ?_;refine W.exit U ?_;exact W.stop ⟨U,by rw[<-l];rfl,Ω⟩
   | succ k=>
    have K:(0:Int)<=(k:Int):=J;refine W.to (σ':=[.cells _ _ ((e).toList.map _)]) (env':=[(0,.ms 0 n 0 n),(3,f),(8,I a),(9,I 0),(10,I m),(11,.z (.int .i64 ((k:Int))))]) ?_ U Ω;refine Ι K ?_;refine Ζ Ω ?_;refine Z8 λaa u=>?_;refine Μ.call (first:=[]) (captured:=[]) ((V e n k m a g Q J J f c R T).mono (λr s ⟨M,N⟩=>?_) (λ_ _ h=>h.elim));subst M;subst N;simp;(repeat (rw[Θ];simp));apply u;refine Ι (wp k J) ?_;exact W.to (H (k,Go.Sort.siftDown (ψ c) m a k e) ⟨K1 g,Zy,l⟩ Ω) U (by simp[wp k J])
  obtain⟨af,ab⟩:=ZG (Go.Sort.heapPop (ψ c) a m o);have ag:o.size=n:=by rw[<-D];exact FV P
  rw[ab] at Z;refine Ι w ?_;refine W.iter (λq:Nat×Array Zu=>q.2.size=n/\q.1<=m/\Go.Sort.heapPop (ψ c) a q.1 q.2=af) (λq=>[(0,.ms 0 n 0 n),(3,f),(8,I a),(9,I 0),(10,I m),(12,.z (.int .i64 ((q.1:Int)-1)))]) (λq=>[.cells _ _ ((q.2).toList.map _)]) (λq=>q.1) (m,o) ⟨ag,Z6 _,ab⟩ U (by simp[B];omega) (λq E H=>?_);obtain⟨k,e⟩:=q;obtain⟨g,v,l⟩:=E;simp only at g v l;cases k with
  | zero=>
   refine Χ ?_;refine Η U ?_;refine W.exit U ?_;exact W.nil ⟨_,U,U,by rw[Z,<-l];rfl⟩
  | succ k=>
   have K:(0:Int)<=(k:Int):=J;obtain⟨p,ah⟩:=Ε (a+k);have ai:i64.wrap ((a:Int)+(k:Int))=(p:Int):=by rw[i64_in _ J];omega
   refine W.to (σ':=[.cells _ _ ((e).toList.map _)]) (env':=[(0,.ms 0 n 0 n),(3,f),(8,I a),(9,I 0),(10,I m),(12,.z (.int .i64 ((k:Int))))]) ?_ U Ω;refine Ι K ?_;refine Ζ Ω ?_;refine W.two _ g (i:=a) (j:=p) J J λL x y z aj ak F al ad=>?_
   repeat apply Ν
   refine W.draw (A:=[]) Ο mixed λaa u=>?_;simp;(repeat (rw[Z1];simp[F,ai]));try rw[Z2];refine Zf (u _ _ ?_)
   refine W.back ad [(0,.ms 0 n 0 n),(3,f),(8,I a),(9,I 0),(10,I m),(12,.z (.int .i64 ((k:Int))))] Ω ?_;clear F ad al aj ak L x y z;refine Z8 λaa u=>?_;refine Μ.call (first:=[]) (captured:=[]) ((V (Go.Sort.swp e a p) n 0 k a (swp_size g a p) Q J J f c R T).mono (λr s ⟨M,N⟩=>?_) (λ_ _ h=>h.elim));subst M;subst N;simp;(repeat (rw[Θ];simp));apply u;refine Ι (wp k J) ?_;exact W.to (H (k,Go.Sort.siftDown (ψ c) k a 0 (Go.Sort.swp e a p)) ⟨K1 (swp_size g a p),Zy,by rw[ah];exact l⟩ Ω) U (by simp[wp k J])
theorem sd (S:Te) (p:S=Wj\/S=Wi) (d:Array Zu) (n a b:Nat) (u:d.size=n) (M:n<2 ^ 40) (N:a<b) (O:b<=n) (g:Ψ) (v:Int×Int->Int×Int->Int) (P:ς 0 g) (Q:∀x y,XM prog g [S.enc x,S.enc y] (I (v x y))) :
  Μ prog S.reverseRange [.ms 0 n 0 n,I a,I b,g] [.cells S.t S.k ((d).toList.map S.enc)] (λr s=>r=.ZY []/\s=[.cells S.t S.k ((Go.Sort.reverseRange d a b).toList.map S.enc)]) (λ_ _=>False):=by
 rcases p with rfl|rfl
 all_goals dsimp only[Wj,Wi] at *
 refine Μ.body Ο func238 U U ntmps238 U U Ω ?_
 rotate_left
 refine Μ.body Ο func187 U U ntmps187 U U Ω ?_
 all_goals
  have w1:=V6 (i:=b) J J;refine Ι w1 ?_;refine W.iter (λq:Nat×Nat×Array Zu=>q.2.2.size=n/\q.1<n/\q.2.1<n/\Go.Sort.reverseLoop q.1 q.2.1 q.2.2=Go.Sort.reverseRange d a b) (λq=>[(0,.ms 0 n 0 n),(8,I (q.1:Nat)),(9,I (q.2.1:Nat))]) (λq=>[.cells _ _ ((q.2.2).toList.map _)]) (λq=>q.2.1-q.1) (a,b-1,d) ⟨u,Zy,Zy,U⟩ U (by simp[w1]) (λq w B=>?_);obtain⟨i,j,e⟩:=q;obtain⟨h,hi,C,c⟩:=w;simp only at h hi C c;rw[Go.Sort.reverseLoop] at c;refine W.to (σ':=[.cells _ _ ((e).toList.map _)]) (env':=[(0,.ms 0 n 0 n),(8,I (i:Nat)),(9,I (j:Nat))]) ?_ U Ω;refine Χ ?_;by_cases f:i<j
  .refine Ζ (by simp[f]) ?_;rw[if_pos f] at c;have l:=X3 (i:=i) J;have m:=V6 (i:=j) J J;refine W.two _ h (i:=i) (j:=j) J J λL x y z D E F H o=>?_
   repeat apply Ν
   refine W.draw (A:=[]) Ο mixed λR K=>?_;simp;(repeat (rw[Z1];simp[F]));try rw[Z2];refine Zf (K _ _ ?_)
   refine W.back o [(0,.ms 0 n 0 n),(8,I (i:Nat)),(9,I (j:Nat))] Ω ?_;clear F o H D E L x y z;refine Ι (Υ l m) ?_;exact W.to (B (i+1,j-1,Go.Sort.swp e i j) ⟨swp_size h i j,Zy,Zy,c⟩ Zy) U (by simp[l,m])
  .refine Η (by simp[f]) ?_;refine W.exit U ?_;rw[if_neg f] at c;exact W.nil ⟨_,U,U,by rw[c]⟩
theorem sc (S:Te) (B:S=Wj\/S=Wi) (d:Array Zu) (n a b s:Nat) (C:d.size=n) (h:a<n) (i:b<n) (K:s<2 ^ 40) (f:Ψ) (c:Int×Int->Int×Int->Int) (M:ς 0 f) (D:∀x y,XM prog f [S.enc x,S.enc y] (I (c x y))) :
  Μ prog S.order2 [.ms 0 n 0 n,I a,I b,.Δ 1 1 0 0,f] [.cells S.t S.k (d.toList.map S.enc),.cells 3 1 [I s]] (λr σ=>r=.ZY [I (Go.Sort.order2 (ψ c) d a b s).1,I (Go.Sort.order2 (ψ c) d a b s).2.1]/\σ=[.cells S.t S.k (d.toList.map S.enc),.cells 3 1 [I (Go.Sort.order2 (ψ c) d a b s).2.2]]) (λ_ _=>False):=by
 obtain⟨enc,E⟩:=Ε S.enc;rcases B with rfl|rfl
 all_goals dsimp only[Wj,Wi] at *
 refine Μ.body Ο func258 U U ntmps258 U U Ω ?_
 rotate_left
 refine Μ.body Ο func252 U U ntmps252 U U Ω ?_
 all_goals
  obtain⟨L,x,y,g,j,l,F,⟨m,o⟩,⟨p,u⟩,-,-⟩:=TN enc C h i;simp only[E] at g m o p u;have v:i64.wrap ((s:Int)+1)=((s+1:Nat):Int):=by rw[i64_in _ J];omega
  have w:Go.Sort.order2 (ψ c) d a b s=if ψ c y x=true then(b,a,s+1) else(a,b,s):=by unfold Go.Sort.order2;rw[j,l]
  rw[w,g];clear g j l w;refine Χ ?_;refine W.draw (A:=[]) Ο mixed λN H=>V8 (Υ F (Υ m (Υ p (Υ o u)))) ?_;refine⟨i,h,?_⟩;refine Zc (D y x) ?_;simp;(repeat (rw[Z1];simp));try rw[Z2]
  refine Zf (H _ _ ?_);by_cases e:c y x<0
  .refine Ζ (by simp[e]) ?_;refine Ι v ?_;exact W.ret ⟨_,U,by simp[ψ,e],by simp[ψ,e]⟩
  .refine Η (by simp[e]) ?_;refine Ι v ?_;exact W.ret ⟨_,U,by simp[ψ,e],by simp[ψ,e]⟩
section
variable {α:Type} [Inhabited α]
theorem BE (lt:α->α->Bool) (d:Array α) {b:Nat}:∀(m i:Nat),b-i<=m->i<=b->i<=Go.Sort.scanSorted lt d b i/\Go.Sort.scanSorted lt d b i<=b:=by
 intro m
 induction m with
 | zero=>intro i h hi;rw[Go.Sort.scanSorted,if_neg (by simp;omega)];omega
 | succ m a=>
  intro i h hi;rw[Go.Sort.scanSorted];split
  .rename_i c;simp only[VO,decide_eq_true_eq] at c;have:=a (i+1) J J;omega
  .omega
theorem BD (lt:α->α->Bool) {n:Nat}:∀(j:Nat) (d:Array α),d.size=n->(Go.Sort.shiftDown lt j d).size=n:=by
 intro j
 induction j with
 | zero=>intro d h;exact h
 | succ j a=>
  intro d h;rw[Go.Sort.shiftDown];split
  .exact h
  .exact a _ (swp_size h _ _)
theorem BC (lt:α->α->Bool) {b n:Nat}:∀(m j:Nat) (d:Array α),b-j<=m->d.size=n->(Go.Sort.shiftUp lt b j d).size=n:=by
 intro m
 induction m with
 | zero=>intro j d h hd;rw[Go.Sort.shiftUp,if_neg J];exact hd
 | succ m a=>
  intro j d h hd;rw[Go.Sort.shiftUp];split
  .split
   .exact hd
   .exact a _ _ J (swp_size hd _ _)
  .exact hd
theorem Ms (lt:α->α->Bool) (d:Array α) {i n:Nat} (f:1<=i) (hi:i+1<n) (s:Nat):(Go.Sort.medianAdjacent lt d i s).1<n/\(Go.Sort.medianAdjacent lt d i s).2<=s+3:=by
 unfold Go.Sort.medianAdjacent Go.Sort.median;have f1:=PC lt d (a:=i-1) (b:=i) (n:=n) J J s;generalize Go.Sort.order2 lt d (i-1) i s=c at f1 ⊢;have f2:=PC lt d (a:=c.2.1) (b:=i+1) (n:=n) J hi c.2.2;simp only;generalize Go.Sort.order2 lt d c.2.1 (i+1) c.2.2=e at f2 ⊢;have f3:=PC lt d (a:=c.1) (b:=e.1) (n:=n) J J e.2.2;generalize Go.Sort.order2 lt d c.1 e.1 e.2.2=g at f3 ⊢;omega
end
theorem BB (S:Te) (F:S=Wj\/S=Wi) (d:Array Zu) (n a b c s:Nat) (l:d.size=n) (T:a<n) (V:b<n) (X:c<n) (Y:s<2 ^ 39) (f:Ψ) (e:Int×Int->Int×Int->Int) (m:ς 0 f) (o:∀x y,XM prog f [S.enc x,S.enc y] (I (e x y))) :
  Μ prog S.median [.ms 0 n 0 n,I a,I b,I c,.Δ 1 1 0 0,f] [.cells S.t S.k ((d).toList.map S.enc),.cells 3 1 [I (s:Nat)]] (λr σ=>r=I (Go.Sort.median (ψ e) d a b c s).1/\σ=[.cells S.t S.k ((d).toList.map S.enc),.cells 3 1 [I ((Go.Sort.median (ψ e) d a b c s).2:Nat)]]) (λ_ _=>False):=by
 have p:=sc S F;rcases F with rfl|rfl
 all_goals dsimp only[Wj,Wi] at *
 refine Μ.body Ο func256 U U ntmps256 U U Ω ?_
 rotate_left
 refine Μ.body Ο func229 U U ntmps229 U U Ω ?_
 all_goals
  obtain⟨M,H⟩:=ZG (Go.Sort.order2 (ψ e) d a b s);have f1:=PC (ψ e) d (a:=a) (b:=b) (n:=n) J J s;have u:=p d n a b s l J J J f e m o;rw[H] at f1 u;obtain⟨v,w,A⟩:=M;simp only at f1 u;obtain⟨N,Ρ⟩:=ZG (Go.Sort.order2 (ψ e) d w c A);have f2:=PC (ψ e) d (a:=w) (b:=c) (n:=n) J J A;have B:=p d n w c A l J J J f e m o;rw[Ρ] at f2 B;obtain⟨C,Z,D⟩:=N;simp only at f2 B;obtain⟨O,K⟩:=ZG (Go.Sort.order2 (ψ e) d v C D);have f3:=PC (ψ e) d (a:=v) (b:=C) (n:=n) J J D;have E:=p d n v C D l J J J f e m o;rw[K] at f3 E;obtain⟨aa,P,Q⟩:=O;simp only at f3 E;have R:Go.Sort.median (ψ e) d a b c s=(P,Q):=by unfold Go.Sort.median;simp only[H,Ρ,K]
  rw[R]
  repeat apply Ν
  refine Xh ?_;refine Z8 λL g=>?_;refine Μ.call (first:=[]) (captured:=[]) ((u).mono (λr s ⟨i,j⟩=>?_) (λ_ _ h=>h.elim));subst i;subst j;simp;(repeat (rw[Θ];simp));apply g;refine Z8 λL g=>?_;refine Μ.call (first:=[]) (captured:=[]) ((B).mono (λr s ⟨i,j⟩=>?_) (λ_ _ h=>h.elim));subst i;subst j;simp;(repeat (rw[Θ];simp));apply g;refine Z8 λL g=>?_;refine Μ.call (first:=[]) (captured:=[]) ((E).mono (λr s ⟨i,j⟩=>?_) (λ_ _ h=>h.elim));subst i;subst j;simp;(repeat (rw[Θ];simp));apply g;refine Χ ?_;exact W.ret ⟨_,U,U,U⟩
theorem sb (S:Te) (f:S=Wj\/S=Wi) (d:Array Zu) (n i s:Nat) (g:d.size=n) (D:1<=i) (hi:i+1<n) (E:n<2 ^ 40) (j:s<2 ^ 39) (b:Ψ) (a:Int×Int->Int×Int->Int) (l:ς 0 b) (m:∀x y,XM prog b [S.enc x,S.enc y] (I (a x y))) :
  Μ prog S.medianAdjacent [.ms 0 n 0 n,I i,.Δ 1 1 0 0,b] [.cells S.t S.k ((d).toList.map S.enc),.cells 3 1 [I (s:Nat)]] (λr σ=>r=I (Go.Sort.medianAdjacent (ψ a) d i s).1/\σ=[.cells S.t S.k ((d).toList.map S.enc),.cells 3 1 [I ((Go.Sort.medianAdjacent (ψ a) d i s).2:Nat)]]) (λ_ _=>False):=by
 have o:=BB S f;rcases f with rfl|rfl
 all_goals dsimp only[Wj,Wi] at *
 refine Μ.body Ο func255 U U ntmps255 U U Ω ?_
 rotate_left
 refine Μ.body Ο func228 U U ntmps228 U U Ω ?_
 all_goals
  obtain⟨p,u⟩:=Ε (i-1);obtain⟨q,v⟩:=Ε (i+1);have w1:i64.wrap ((i:Int)-1)=(p:Int):=by rw[i64_in _ J];omega
  have w:i64.wrap ((i:Int)+1)=(q:Int):=by rw[i64_in _ J];omega
  have c:=o d n p i q s g J J J j b a l m
  have e:Go.Sort.medianAdjacent (ψ a) d i s=Go.Sort.median (ψ a) d p i q s:=by rw[u,v];rfl
  rw[e]
  repeat apply Ν
  refine Xh ?_;refine XD (Υ w1 w) λF A=>?_;refine Μ.call (first:=[]) (captured:=[]) ((c).mono (λr s ⟨B,C⟩=>?_) (λ_ _ h=>h.elim));subst B;subst C;simp;(repeat (rw[Θ];simp));apply A;refine Χ ?_;exact W.ret ⟨_,U,U,U⟩
theorem sa (S:Te) (O:S=Wj\/S=Wi) (d:Array Zu) (n a b:Nat) (E:d.size=n) (aG:n<2 ^ 38) (aH:a+12<b) (aI:b<=n) (u:Ψ) (c:Int×Int->Int×Int->Int) (F:ς 0 u) (H:∀x y,XM prog u [S.enc x,S.enc y] (I (c x y))) :
  Μ prog S.choosePivot [.ms 0 n 0 n,I a,I b,u] [.cells S.t S.k ((d).toList.map S.enc)] (λr s=>r=.ZY [I (Go.Sort.choosePivot (ψ c) d a b).1,I (RP (Go.Sort.choosePivot (ψ c) d a b).2)]/\s=[.cells S.t S.k ((d).toList.map S.enc)]) (λ_ _=>False):=by
 have P:=sb S O
 have an:=BB S O;rcases O with rfl|rfl
 all_goals dsimp only[Wj,Wi] at *
 refine Μ.body Ο func237 U U ntmps237 U U Ω ?_
 rotate_left
 refine Μ.body Ο func186 U U ntmps186 U U Ω ?_
 all_goals
  obtain⟨l,ae⟩:=Ε (b-a);obtain⟨q,Q⟩:=Ε (l / 4);obtain⟨R,af⟩:=Ε (q*2);obtain⟨T,ag⟩:=Ε (q*3);obtain⟨i,hi⟩:=Ε (a+q);obtain⟨j,ah⟩:=Ε (a+R);obtain⟨k,ai⟩:=Ε (a+T);have ao:(8:Int)<=(l:Int):=J;have w1:i64.wrap ((b:Int)-(a:Int))=(l:Int):=by rw[i64_in _ J];omega
  have ap:i64.wrap ((l:Int) / 4)=(q:Int):=by rw[Q];exact OO (m:=4) J
  have aq:i64.wrap (q:Int)=(q:Int):=i64_in _ J
  have ar:i64.wrap ((q:Int)*2)=(R:Int):=by rw[i64_in _ J];omega
  have au:i64.wrap ((q:Int)*3)=(T:Int):=by rw[i64_in _ J];omega
  have av:i64.wrap ((a:Int)+(q:Int))=(i:Int):=by rw[i64_in _ J];omega
  have aw:i64.wrap ((a:Int)+(R:Int))=(j:Int):=by rw[i64_in _ J];omega
  have ax:i64.wrap ((a:Int)+(T:Int))=(k:Int):=by rw[i64_in _ J];omega
  obtain⟨e,f,K,o,L,ay,az,aA,V⟩:∃e f K o:Nat,Go.Sort.choosePivot (ψ c) d a b=((Go.Sort.median (ψ c) d e f K o).1,if(Go.Sort.median (ψ c) d e f K o).2=0 then .increasing else if(Go.Sort.median (ψ c) d e f K o).2=12 then .decreasing else .unknown)/\e<n/\f<n/\K<n/\(o<=9/\((l<50/\e=i/\f=j/\K=k/\o=0)\/(50<=l/\∃t1 t2,Go.Sort.medianAdjacent (ψ c) d i 0=(e,t1)/\t1<=3/\Go.Sort.medianAdjacent (ψ c) d j t1=(f,t2)/\t2<=6/\Go.Sort.medianAdjacent (ψ c) d k t2=(K,o)))):=by
   have aj:8<=l:=J;by_cases X:50<=l
   .have Y:=Ms (ψ c) d (n:=n) (i:=i) J J 0;obtain⟨⟨e,t1⟩,B⟩:∃r,Go.Sort.medianAdjacent (ψ c) d i 0=r:=⟨_,U⟩;rw[B] at Y;have Z:=Ms (ψ c) d (n:=n) (i:=j) J J t1;obtain⟨⟨f,t2⟩,Ρ⟩:∃r,Go.Sort.medianAdjacent (ψ c) d j t1=r:=⟨_,U⟩;rw[Ρ] at Z;have aa:=Ms (ψ c) d (n:=n) (i:=k) J J t2;obtain⟨⟨K,o⟩,C⟩:∃r,Go.Sort.medianAdjacent (ψ c) d k t2=r:=⟨_,U⟩;rw[C] at aa;simp only at Y Z aa;refine⟨e,f,K,o,?_,Y.1,Z.1,aa.1,J,.inr ⟨X,t1,t2,B,J,Ρ,J,C⟩⟩;simp only[Go.Sort.choosePivot,<-ae,<-Q,RL,<-af,<-ag,<-hi,<-ah,<-ai,ge_iff_le,if_pos aj,if_pos X,B,Ρ,C]
   .refine⟨i,j,k,0,?_,J,J,J,J,.inl ⟨J,U,U,U,U⟩⟩;simp only[Go.Sort.choosePivot,<-ae,<-Q,RL,<-af,<-ag,<-hi,<-ah,<-ai,ge_iff_le,if_pos aj,if_neg X]
  obtain⟨aB,em⟩:=ZG (Go.Sort.median (ψ c) d e f K o);have M:=an d n e f K o E ay az aA (Qp V.1 ZT) u c F H;rw[em] at M L;obtain⟨aC,D⟩:=aB;simp only at M L;rw[L]
  repeat apply Ν
  refine Xh ?_
  repeat apply Ν
  refine Ts w1 ?_
  repeat apply Ν
  refine YY (A:=[11]) Ο λN p=>Z9 ?_;apply p;refine Ι (Υ ap (Υ aq (Υ ar (Υ au (Υ av (Υ aw (Υ ax @ao))))))) ?_;refine Ζ Ω ?_;refine Χ ?_;refine W.NQ [(0,.ms 0 n 0 n),(3,u),(11,.Δ 1 1 0 0),(12,I (e:Nat)),(13,I (f:Nat)),(14,I (K:Nat))] (d) [.cells 3 1 [I (o:Nat)]] ?_ ?_
  .clear L M;rcases V with⟨-,⟨aD,rfl,rfl,rfl,rfl⟩|⟨aD,t1,t2,B,aJ,Ρ,aK,C⟩⟩
   .have g:¬(50:Int)<=(l:Int):=J
    refine Η (by simp[g]) ?_;refine W.skip ?_;exact W.stop ⟨U,U,Ω⟩
   .have g:(50:Int)<=(l:Int):=J
    have ak:=P d n i 0 E J J J J u c F H
    have al:=P d n j t1 E J J J J u c F H
    have am:=P d n k t2 E J J J J u c F H;rw[B] at ak;rw[Ρ] at al;rw[C] at am;refine Ζ (by simp[g]) ?_;refine Z8 λN p=>?_;refine Μ.call (first:=[]) (captured:=[]) ((ak).mono (λr s ⟨v,w⟩=>?_) (λ_ _ h=>h.elim));subst v;subst w;simp;(repeat (rw[Θ];simp));apply p;refine Z8 λN p=>?_;refine Μ.call (first:=[]) (captured:=[]) ((al).mono (λr s ⟨v,w⟩=>?_) (λ_ _ h=>h.elim));subst v;subst w;simp;(repeat (rw[Θ];simp));apply p;refine Z8 λN p=>?_;refine Μ.call (first:=[]) (captured:=[]) ((am).mono (λr s ⟨v,w⟩=>?_) (λ_ _ h=>h.elim));subst v;subst w;simp;(repeat (rw[Θ];simp));apply p;exact W.stop ⟨U,U,Ω⟩
  clear V;refine Z8 λN p=>?_;refine Μ.call (first:=[]) (captured:=[]) ((M).mono (λr s ⟨v,w⟩=>?_) (λ_ _ h=>h.elim));subst v;subst w;simp;(repeat (rw[Θ];simp));apply p
  repeat apply Ν
  refine Xh ?_;refine W.drop (h:=1) Ω Ω (H9 (by first|exact PR|exact Lt)) rfl [(13,I (aC:Nat)),(55,I (D:Nat))] Ω ?_;by_cases ab:D=0
  .subst ab;refine Χ ?_;refine Ζ U ?_;refine Χ ?_;exact W.ret ⟨_,U,U,U⟩
  have aE:¬(D:Int)=0:=J;refine Ι aE ?_;refine Η (by simp[ab]) ?_;by_cases ad:D=12
  .subst ad;refine Χ ?_;refine Ζ U ?_;refine Χ ?_;exact W.ret ⟨_,U,U,U⟩
  have aF:¬(D:Int)=12:=J;refine Ι aF ?_;refine Η (by simp[ad]) ?_;refine Χ ?_;exact W.ret ⟨_,U,by simp[ab,ad,RP],U⟩
theorem BA (l:Nat) (b:l<256):Κ prog 226 [I l] (Vd ((1 <<< Go.Sort.bitsLen l:Nat):Int)):=by
 refine Μ.body Ο func226 U U ntmps226 U U Ω ?_;have Ρ:u64.wrap (l:Int)=l:=Qu J;(repeat (first|apply Ν|(refine YZ λc a=>?_;simp;(repeat (rw[Θ];simp[Ρ]));apply a)));(repeat apply Ν);refine YZ λc a=>?_;simp;(repeat (rw[Θ];simp[Ρ]));refine Κ.d (QR l b) (Z9 ?_);apply a;refine Χ ?_;refine W.ret ⟨_,U,.of ?_,U⟩;have f:=(Go.Sort.bitsLen_le_iff l 8).2 b;have e:=FT 1 (Go.Sort.bitsLen l) J;have g:1*2 ^ Go.Sort.bitsLen l % 18446744073709551616=1 <<< Go.Sort.bitsLen l:=by
  rw[Nat.one_mul,KB,Ql (Qp (Mi J f) ZT)]
 rw[g] at e;show Vd (u64.wrap (2 ^ min (Go.Sort.bitsLen l) u64.bits))=_;rw[<-e];simp
theorem Bz (x:Nat) (j:x<2 ^ 64):Μ prog 227 [.Δ 0 1 0 0] [.cells 248 1 [Vd (x:Int)]] (λr s=>r=Vd ((Go.Sort.xorNextN x:Nat):Int)/\s=[.cells 248 1 [Vd ((Go.Sort.xorNextN x:Nat):Int)]]) (λ_ _=>False):=by
 refine Μ.body Ο func227 U U ntmps227 U U Ω ?_;obtain⟨k,e⟩:=Ε (x*2 ^ 13 % 18446744073709551616);obtain⟨a,b⟩:=Ε (x^^^k);obtain⟨l,f⟩:=Ε (a / 2 ^ 7);obtain⟨c,d⟩:=Ε (a^^^l);obtain⟨m,g⟩:=Ε (c*2 ^ 17 % 18446744073709551616);obtain⟨B,h⟩:=Ε (c^^^m);have n:Go.Sort.xorNextN x=B:=by rw[h,g,d,f,b,e];rfl
 rw[n];have l1:k<2 ^ 64:=J;have i:a<2 ^ 64:=by rw[b];exact Nat.xor_lt_two_pow j l1
 have l2:l<2 ^ 64:=J
 have o:c<2 ^ 64:=by rw[d];exact Nat.xor_lt_two_pow i l2
 have p:m<2 ^ 64:=J
 have t:=FT x 13 J;rw[<-e] at t;have u:=FU j l1;rw[<-b] at u;have v:=sn a 7 J;rw[<-f] at v;have w:=FU i l2;rw[<-d] at w;have y:=FT c 17 J;rw[<-g] at y;have A:=FU o p;rw[<-h] at A;clear h g d f b e l1 i l2 o p n;refine Χ ?_;refine XJ (Υ t u) ?_;refine Χ ?_;refine XJ (Υ v w) ?_;refine Χ ?_;refine XJ (Υ y A) ?_;refine Χ ?_;exact W.ret ⟨_,U,U,U⟩
theorem r9 (S:Te) (av:S=Wj\/S=Wi) (d:Array Zu) (n a b:Nat) (aw:d.size=n) (aS:n<2 ^ 40) (aT:a+12<b) (aU:b<a+256) (aV:b<=n) (K:Ψ) (ax:Int×Int->Int×Int->Int) (aW:ς 0 K) (aX:∀x y,XM prog K [S.enc x,S.enc y] (I (ax x y))) :
  Μ prog S.breakPatterns [.ms 0 n 0 n,I a,I b,K] [.cells S.t S.k ((d).toList.map S.enc)] (λr s=>r=.ZY []/\s=[.cells S.t S.k ((Go.Sort.breakPatterns d a b).toList.map S.enc)]) (λ_ _=>False):=by
 obtain⟨enc,ay⟩:=Ε S.enc;rcases av with rfl|rfl
 all_goals dsimp only[Wj,Wi] at *
 refine Μ.body Ο func236 U U ntmps236 U U Ω ?_
 rotate_left
 refine Μ.body Ο func185 U U ntmps185 U U Ω ?_
 all_goals
  obtain⟨l,M⟩:=Ε (b-a);obtain⟨q,ab⟩:=Ε (l / 4);obtain⟨N,az⟩:=Ε (q*2);obtain⟨c,aA⟩:=Ε (a+N);obtain⟨O,ad⟩:=Ε (c-1);obtain⟨P,aY⟩:=Ε (c+1);obtain⟨m,Q⟩:=Ε (1 <<< Go.Sort.bitsLen l);have aB:Go.Sort.bitsLen l<=8:=(Go.Sort.bitsLen_le_iff l 8).2 J;have aZ:l<m/\m<=256/\m<=2*l:=by
   have v:=Go.Sort.lt_two_pow_bitsLen l
   have w:=Go.Sort.two_pow_bitsLen_le (n:=l) J;rw[Q,KB];exact⟨v,XQ (Mi J aB) ZT,w⟩
  obtain⟨R,ae⟩:=ZG (Qv a l m 3 O (UInt64.ofNat l,d));have aC:Go.Sort.breakPatterns d a b=R.2:=by rw[BH (c:=c) M J (by rw[aA,az,ab]),<-Q,<-ad,ae]
  rw[aC];have w1:i64.wrap ((b:Int)-(a:Int))=(l:Int):=by rw[i64_in _ J];omega
  have T:i64.wrap ((l:Int) / 4)=(q:Int):=by rw[ab];exact OO (m:=4) J
  have V:i64.wrap ((q:Int)*2)=(N:Int):=by rw[i64_in _ J];omega
  have X:i64.wrap ((a:Int)+(N:Int))=(c:Int):=by rw[i64_in _ J];omega
  have aD:i64.wrap ((c:Int)-1)=(O:Int):=by rw[i64_in _ J];omega
  have af:i64.wrap ((c:Int)+1)=(P:Int):=by rw[i64_in _ J];omega
  have aE:u64.wrap (l:Int)=(l:Int):=Qu J
  have aF:u64.wrap ((m:Int)-1)=((m-1:Nat):Int):=by
   have e:(m:Int)-1=((m-1:Nat):Int):=J;rw[e];exact Qu J
  have aG:(8:Int)<=(l:Int):=J
  have aH:(UInt64.ofNat l).toNat=l:=by rw[UInt64.toNat_ofNat'];exact Ql J
  refine Ι (Υ w1 @aG) ?_;refine Ζ Ω ?_
  repeat apply Ν
  refine YY (A:=[9]) Ο λag p=>XK aE ?_;apply p;have ah:=BA l J;rw[<-Q] at ah;refine Z8 λag p=>?_;refine Κ.c ah (ZN.refl _) Ω Ω ?_;simp;(repeat (rw[Θ];simp));apply p;refine Ι (Υ T (Υ V (Υ X aD))) ?_;refine W.iter (λy:Nat×UInt64×Array Zu=>y.1<=3/\y.2.2.size=n/\Qv a l m y.1 (c+2-y.1) y.2=R) (λy=>[(0,.ms 0 n 0 n),(1,I a),(8,I (l:Nat)),(9,.Δ 1 1 0 0),(10,Vd (m:Nat)),(11,I (c+2-y.1:Nat))]) (λy=>[.cells _ _ ((y.2.2).toList.map _),.cells 248 1 [Vd ((y.2.1.toNat:Nat):Int)]]) (λy=>y.1) (3,UInt64.ofNat l,d) ⟨Z6 _,aw,by simp only;rw[<-ae,show c+2-3=O by omega]⟩ (by simp only;rw[aH]) (by simp[ad]) (λy Y aI=>?_);obtain⟨t,st,e⟩:=y;obtain⟨aJ,Z,B⟩:=Y;simp only at aJ Z B;obtain⟨f,ai⟩:=Ε (c+2-t);obtain⟨x,u⟩:=Ε st.toNat;have aK:x<2 ^ 64:=by rw[u];exact st.toNat_lt
  rw[<-ai] at B;refine W.to (σ':=[.cells _ _ ((e).toList.map _),.cells 248 1 [Vd ((x:Nat):Int)]]) (env':=[(0,.ms 0 n 0 n),(1,I a),(8,I (l:Nat)),(9,.Δ 1 1 0 0),(10,Vd (m:Nat)),(11,I (f:Nat))]) ?_ (by rw[u]) (by simp[ai]);cases t with
  | zero=>
   have g:¬(f:Int)<=(P:Int):=J;refine Ι (Υ T (Υ V (Υ X (Υ af g)))) ?_;refine Η Ω ?_;refine W.exit U ?_;refine W.drop (h:=1) Ω Ω (H9 (by first|exact PR|exact Lt)) rfl [] Ω ?_;exact W.nil ⟨_,rfl,rfl,by rw[<-B];rfl⟩
  | succ t=>
   have g:(f:Int)<=(P:Int):=J;obtain⟨C,aj⟩:=Ε (Go.Sort.xorNext st);obtain⟨j,D⟩:=Ε C.toNat;have aL:j=Go.Sort.xorNextN x:=by rw[D,aj,Go.Sort.xorNext_toNat,u]
   have aM:j<2 ^ 64:=by rw[D];exact C.toNat_lt
   have ak:=Bz x aK;rw[<-aL] at ak;obtain⟨z,aa⟩:=Ε (j&&&(m-1));have a0:z<=m-1:=by rw[aa];exact Nat.and_le_right
   have WU:XT .u64 (j:Int) ((m-1:Nat):Int)=(z:Int):=by rw[aa];exact BG aM J
   have aN:i64.wrap (z:Int)=(z:Int):=i64_in _ J;obtain⟨o,E⟩:=Ε (if z>=l then z-l else z);have a1:o<l:=by rw[E];split<;>omega
   have al:Qv a l m t (f+1) (C,Go.Sort.swp e f (a+o))=R:=by
    rw[<-B];show _=Qv a l m t (f+1) (Go.Sort.breakStep a l m (st,e) f);unfold Go.Sort.breakStep;simp only;rw[<-aj,<-D,<-aa,<-E]
   obtain⟨F,aO⟩:=Ε (a+o);rw[<-aO] at al;refine Ι (Υ T (Υ V (Υ X (Υ af g)))) ?_;refine Ζ Ω ?_;refine Z8 λag p=>?_;refine Μ.one ak 1 U (by simp[VU]) (by simp[VU]) (by simp[Xr,T0]) (by simp[Xr,T0]) U ?_;simp[Yh,Wx];(repeat (rw[Θ];simp[aF,WU,aN]));apply p;refine W.to (σ':=[.cells _ _ ((e).toList.map _),.cells 248 1 [Vd ((j:Nat):Int)]]) (env':=[(0,.ms 0 n 0 n),(1,I a),(8,I (l:Nat)),(9,.Δ 1 1 0 0),(10,Vd (m:Nat)),(11,I (f:Nat)),(12,I (z:Nat))]) ?_ U Ω;refine Χ ?_;refine W.NQ [(0,.ms 0 n 0 n),(1,I a),(8,I (l:Nat)),(9,.Δ 1 1 0 0),(10,Vd (m:Nat)),(11,I (f:Nat)),(12,I (o:Nat))] (e) [.cells 248 1 [Vd ((j:Nat):Int)]] ?_ ?_
   .by_cases H:l<=z
    .have wo:i64.wrap ((z:Int)-(l:Int))=(o:Int):=by rw[i64_in _ J,E,if_pos H];omega
     refine Ζ (by simp[H]) ?_;refine Ι wo ?_;exact W.stop ⟨U,U,Ω⟩
    .refine Η (by simp[H]) ?_
     repeat apply Ν
     exact W.stop ⟨U,U,by simp[E,H]⟩
   have aP:i64.wrap ((a:Int)+(o:Int))=(F:Int):=by rw[i64_in _ J];omega
   have am:f<n:=J
   have an:F<n:=J;obtain⟨L,x,y,ao,u,Y,M,⟨v,w⟩,⟨ap,aq⟩,ar,a2,au⟩:=TN enc Z am an;simp only[ay] at ao v w ap aq ar au;rw[ao];clear u Y
   repeat apply Ν
   refine XJ (Υ M (Υ v (Υ w (Υ ap (Υ aq (Υ au (Υ am (Υ an aP)))))))) ?_;have aQ:=X3 (i:=f) J;refine Ι aQ ?_;refine W.to (aI (t,C,Go.Sort.swp e f F) ⟨Zy,swp_size Z f F,?_⟩ Ω) (by rw[ar,D]) (by simp[show c+2-t=f+1 by omega]);have aR:c+2-t=f+1:=J;simp only;rw[aR];exact al
end Go.TL
