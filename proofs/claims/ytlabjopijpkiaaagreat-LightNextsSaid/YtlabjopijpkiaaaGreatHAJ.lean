import Derived.Sort.LotC
import Derived.Sort.LotD5
import Derived.Sort.Walk13a
import Derived.Test.YtlabjopijpkiaaaGreatHAI
set_option maxHeartbeats 16000000
set_option maxRecDepth 20000
set_option linter.unusedSectionVars false
set_option linter.unusedSimpArgs false
set_option linter.unusedVariables false
namespace Go.TL
open Go.IntWalk (i64_in)
open Go.IntKind (i64 u64)
open Go.Proofs.Tryz
open Go.Conc Go.ConcM Go.Proofs
open Go.ChangeShapes Go.WideShapes Go.ChangeAt Go.RowKit Go.Deep
section
variable {H:Type} {enc:TypeId×Value->H} {W:World}
theorem IW {P:Program} {t:TypeId} {k:Nat} {b:Type} {c:b->Prop} {F:b->I} (h:Wb enc P W t k c F):Wb enc P W t k (λ_=>True) F:=λd cs x e=>by
 obtain⟨a,_,f⟩:=h d cs x e;exact⟨a,trivial,f⟩
theorem Cs:Wb enc prog W 29 1 (λl:List Int=>l.length<2 ^ 63/\∀a∈l,True) (ν R 1):=Lv underlying29 (by kernel_rfl) Z3 (MQ underlying3)
theorem tB:Wb enc prog W 23 1 (λ_:List (List Int)=>True) ZT:=IW (Lv underlying23 (by kernel_rfl) Z3 Cs)
theorem Cr:Wb enc prog W 28 3 (λ_:Y9=>True) Zr:=
 Ct (λa b c=>(⟨a,b,c⟩:Y9)) underlying28 rfl rfl rfl (by kernel_rfl) (by kernel_rfl) (by kernel_rfl) (by kernel_rfl) (MQ underlying3) (MQ underlying3) (MQ underlying3) (λ_ _ _=>rfl) (λ_ _ _ _ _ _=>trivial)
theorem tA:Wb enc prog W 77 (1+1) (λ_:VA=>True) Ye:=
 tC (λa b=>(⟨a,b⟩:VA)) underlying77 rfl rfl (by kernel_rfl) (by kernel_rfl) (by kernel_rfl) (tD underlying9) (MQ underlying3) (λ_ _=>rfl) (λ_ _ _ _=>trivial)
theorem tz:Wb enc prog W 22 1 (λ_:List VA=>True) ZI:=IW (Lv underlying22 (by kernel_rfl) Z3 tA)
theorem tx:Wb enc prog W 60 1 (λ_:List Y9=>True) U4:=IW (Lv underlying60 (by kernel_rfl) Z3 Cr)
theorem tw:Wb enc prog W 24 1 (λ_:List (List Y9)=>True) SK:=IW (Lv underlying24 (by kernel_rfl) Z3 tx)
theorem tv:Wb enc prog W 26 3 (λ_:Δ=>True) Zh:=
 Ct (λa b c=>(⟨a,b,c⟩:Δ)) underlying26 rfl rfl rfl (by kernel_rfl) (by kernel_rfl) (by kernel_rfl) (by kernel_rfl) tz tB tw (λ_ _ _=>rfl) (λ_ _ _ _ _ _=>trivial)
theorem GH {t:TypeId} {b:Type} {c:b->Prop} {F:b->I} (h:Wb enc prog W t 1 c F) (e:∀a,(F a).cells=[F a]) {v:Value} {d:DataW H} {f:List MemPlace} (hd:DataW.Trod enc prog W 0 (λ_=>true) true t v d f) (hv:v.cells.toList=[v]):∃a,c a/\Α (Uu W) [] [] (F a) v:=by
 obtain⟨g,i⟩:=hd;obtain⟨a,j,_,_,k⟩:=h g _ _ i;exact⟨a,j,k 0 (F a) v (by rw[e];rfl) (by rw[hv];rfl)⟩
theorem Cq {t:TypeId} {k:Nat} {b:Type} {f:b->Prop} {F:b->I} (h:Wb enc prog W t k f F) (j:∀a,F a=.Z7 (F a).cells) {cs:Array Value} {d:DataW H} {l:List MemPlace} (hd:DataW.Trod enc prog W 0 (λ_=>true) true t (.agg cs) d l):∃a,f a/\Α (Uu W) [] [] (F a) (.agg cs):=by
 obtain⟨m,g⟩:=hd;have e:(Value.agg cs).cells.toList=cs.toList:=rfl;rw[e] at g;obtain⟨a,n,o,p,r⟩:=h m _ _ g;refine⟨a,n,?_⟩;rw[j a];exact .Z7 cs (by rw[o,<-p];simp) λi c v s u=>r i c v s (by simpa using u)
theorem Cp {P:Program} {g:World} (i:laidOutB P=true) (j:Below W.heap.size W g):∀{a:List TypeId} {vs:List Value} {ds:List (DataW H)} {c:List MemPlace},(∀t∈a,P.readableRec t=true/\t<P.types.size)->
  DataW.TrodAll enc P W 0 (λ_=>true) true a vs ds c->(∀x∈c,x.block<W.heap.size)->DataW.TrodAll enc P g 0 (λb=>decide (b<W.heap.size)) true a vs ds c
 | [],_,_,_,_,h,_=>by
  obtain⟨rfl,rfl,rfl⟩:=trodAll_nil h;exact trodAll_mk0
 | t::a,_,_,_,e,h,k=>by
  obtain⟨v,o,d,r,p,q,rfl,rfl,rfl,l,m⟩:=trodAll_cons h;exact trodAll_cons_mk (Below.trod i (e t J).1 (e t J).2 l j λx f=>k x (List.mem_append_left _ f)) (Cp i j (λu n=>e u (by simp[n])) m λx f=>k x (List.mem_append_right _ f))
end
end Go.TL
namespace Go.TL
open Go.IntWalk (i64_in)
open Go.IntKind (i64 u64)
open Go.Proofs.Tryz
open Go.Proofs
variable [ZV]
theorem MP (n lo hi:Int):Κ prog 97 [R n,R lo,R hi] (ε (decide (lo<=n)&&decide (n<=hi))):=by
 refine Ξ.body Ρ func97 rfl rfl ntmps97 rfl rfl J ?_;by_cases a:lo<=n
 .refine Ι a ?_;refine W.rt ?_;exact .of (by simp[a])
 .refine Ι a ?_;refine W.rt ?_;exact .of (by simp[a])
theorem tu (l:List VA) (P:l.length<2 ^ 30):Κ prog 106 [ZI l] (R (Wv l)):=by
 refine Ξ.body Ρ func106 rfl rfl ntmps106 rfl rfl J ?_;by_cases b:l.length=0
 .refine Ι b ?_;refine Ε J ?_;refine Χ ?_;refine W.rt ?_;exact .of (by rw[show Wv l=7 by simp[Wv,b]];rfl)
 by_cases p:(6:Int)<l.length
 .refine Ι (Υ b p) ?_;refine Η (by simp[b]) ?_;refine Ι (Υ b p) ?_;refine Ε J ?_;refine Χ ?_;refine W.rt ?_;exact .of (by rw[show Wv l=6 by simp[Wv,b];omega];rfl)
 have E:Wv l=Xl ((List.range l.length).map (Vz l)):=by
  unfold Wv;rw[if_neg b,if_neg U]
 rw[E];refine Ι (Υ b p) ?_;refine Η (by simp[b]) ?_;refine Ι (Υ b p) ?_;refine Η J ?_;refine Χ ?_;refine W.iter (λi:Nat=>i<=l.length/\∀j,j<i->Vz l j=0) (λi=>[(0,ZI l),(3,R i)]) (λ_=>[]) (λi=>l.length-i) 0 ⟨U,λj g=>U⟩ rfl J (λi hi F=>?_);refine Χ ?_;refine W.YM rfl (λa=>?_) (λa=>?_)
 .have a:i<l.length:=by simpa using a
  have m:l[i]?=some l[i]:=ζ a
  have r:∀e:Int,Vz l i=e->e≠0->Xl ((List.range l.length).map (Vz l))=e:=λe H v=>QV a H v hi.2
  have B:=Yx a (show l.length<2 ^ 62 by omega)
  repeat apply Ο
  refine W.Qc (A:=[]) Ρ [(39,ε (UI l[i].name)),(0,ZI l),(3,R i)] ?_ (by
   unfold UI;by_cases f:(l[i].name.size:Int)=1
   .have c:l[i].name.size=1:=U
    cases s:Me l[i].name ⟨#[97]⟩
    ·(try simp);(repeat (rw[Μ];simp[f,s,c,a]));(try simp[f,s,c,a])
    ·(try simp);(repeat (rw[Μ];simp[f,s,c,a]));(try simp[f,s,c,a])
   .have c:¬l[i].name.size=1:=U
    (try simp);(repeat (rw[Μ];simp[f,c,a]));(try simp[f,c,a]))
  cases o:UI l[i].name
  case true=>
   refine Ε rfl ?_;refine Χ ?_;refine W.rt ?_;exact .of (by rw[r 2 (by simp[Vz,m,o]) Z3];rfl)
  refine Η rfl ?_
  repeat apply Ο
  refine W.Nn (A:=[]) Ρ mixed [(55,ε (decide (0<i)&&VC l[i].name ((l[i-1]?.map (·.name)).getD ⟨#[]⟩))),(0,ZI l),(3,R i)] ?_ (by
   cases i with
   | zero=>
    simp;(repeat (rw[ZL];simp));(try rw[ZM]);refine⟨Yw (by kernel_rfl),?_⟩;simp
   | succ n=>
    have I:n<l.length:=U
    have K:=X7 (show n<2 ^ 62 by omega)
    have v:(0:Int)<(n:Int)+1:=U;simp;(repeat (rw[ZL];simp[v,I,K,a]));(try rw[ZM]);refine⟨U,?_⟩;refine⟨Yw (by kernel_rfl),?_⟩;simp)
  cases bo:decide (0<i)&&VC l[i].name ((l[i-1]?.map (·.name)).getD ⟨#[]⟩)
  case true=>
   refine Ε rfl ?_;refine Χ ?_;refine W.rt ?_;exact .of (by rw[r 5 (by simp at bo;simp[Vz,m,o,bo]) Z3];rfl)
  refine Η rfl ?_;have bo':¬(0<i/\VC l[i].name ((l[i-1]?.map (·.name)).getD ⟨#[]⟩)=true):=λh=>by simp[h] at bo
  refine XM a λQ L=>?_;refine Κ.d (MP l[i].YW 1 63) (Z1 ?_);apply L;by_cases w:l[i].YW<1\/63<l[i].YW
  case pos=>
   refine Ε (by simp;omega) ?_;refine Χ ?_;refine W.rt ?_;exact .of (by rw[r 1 (by simp only[Vz,m,o];rw[if_neg bo',if_pos w];rfl) Z3];rfl)
  refine Η (by simp;omega) ?_;refine Χ ?_;refine W.iter (λk:Nat=>k<=i/\∀j,j<k->(h:j<l.length)->l[j].YW≠l[i].YW) (λk=>[(0,ZI l),(3,R i),(4,R k)]) (λ_=>[]) (λk=>i-k) 0 ⟨U,λj g=>U⟩ rfl J (λk C M=>?_);refine Χ ?_;by_cases t:k<i
  .refine Ε (by simp[t]) ?_;have N:k<l.length:=U;have D:=Yx t (show i<2 ^ 62 by omega)
   repeat apply Ο
   refine W0 (Υ a N) ?_;by_cases u:l[k].YW=l[i].YW
   .refine Ε (by simp[u]) ?_;refine Χ ?_;have y:(l.take i).any (λx=>x.YW==l[i].YW)=true:=OS.2 ⟨l[k],NZ.2 ⟨k,U,rfl⟩,by simpa using u⟩;refine W.rt ?_;exact .of (by rw[r 4 (by simp only[Vz,m,o];rw[if_neg bo',if_neg w,y];rfl) Z3];rfl)
   .refine Η (by simp[u]) ?_;refine Ι D ?_;refine W.to (M (k+1) ⟨t,λj g h=>?_⟩ U) rfl (by simp[D]);by_cases e:j=k
    .subst e;exact u
    .exact C.2 j U h
  .refine Η (by simp[t]) ?_;refine W.exit rfl ?_;obtain rfl:k=i:=U;have y:(l.take k).any (λx=>x.YW==l[k].YW)=false:=PD.2 λx O=>by
    obtain⟨j,g,rfl⟩:=NZ.1 O;simpa using C.2 j U U
   refine Ι B ?_;refine W.to (F (k+1) ⟨a,λj g=>?_⟩ U) rfl (by simp[B]);by_cases e:j=k
   .subst e;simp only[Vz,m,o];rw[if_neg bo',if_neg w,y];rfl
   .exact hi.2 j U
 .have a:l.length<=i:=by simpa using a
  refine W.exit rfl ?_;refine Χ ?_;refine W.rt ?_;exact .of (by rw[QU λj g=>hi.2 j U];rfl)
theorem tt (a:List (List Int)) (O:a.length<2 ^ 30) (C:∀x∈a,x.length<2 ^ 30):Κ prog 107 [ZT a] (R (Wu a)):=by
 refine Ξ.body Ρ func107 rfl rfl ntmps107 rfl rfl J ?_;by_cases c:a.length=0
 .refine Ι c ?_;refine Ε J ?_;refine Χ ?_;refine W.rt ?_;exact .of (by rw[show Wu a=7 by simp[Wu,c]];rfl)
 by_cases m:(4:Int)<a.length
 .refine Ι (Υ c m) ?_;refine Η (by simp[c]) ?_;refine Ι (Υ c m) ?_;refine Ε J ?_;refine Χ ?_;refine W.rt ?_;exact .of (by rw[show Wu a=6 by simp[Wu,c];omega];rfl)
 have D:Wu a=Xl ((List.range a.length).map λi=>RA ((a[i]?).getD [])):=by
  unfold Wu;rw[if_neg c,if_neg U]
 rw[D];refine Ι (Υ c m) ?_;refine Η (by simp[c]) ?_;refine Ι (Υ c m) ?_;refine Η J ?_;refine Χ ?_;refine W.iter (λi:Nat=>i<=a.length/\∀j,j<i->RA ((a[j]?).getD [])=0) (λi=>[(0,ZT a),(3,R i)]) (λ_=>[]) (λi=>a.length-i) 0 ⟨U,λj k=>U⟩ rfl J (λi hi E=>?_);refine Χ ?_;refine W.YM rfl (λb=>?_) (λb=>?_)
 .have b:i<a.length:=by simpa using b
  have l:=ζ b
  have F:a[i].length<2 ^ 30:=C _ (Y7 b)
  have u:=Yx b (show a.length<2 ^ 62 by omega);obtain⟨L,v⟩:=ψ (a[i]);rw[<-v] at l F;have r:∀h,a[i]'h=L:=λh=>v.symm;have w:(a[i]?).getD []=L:=by rw[l];rfl
  refine Χ ?_;refine W.iter (λn:Nat=>n<=L.length/\∀j,j<n->Td L j=0) (λn=>[(0,ZT a),(3,R i),(4,R n)]) (λ_=>[]) (λn=>L.length-n) 0 ⟨U,λj k=>U⟩ rfl J (λn s H=>?_);refine Ι (Υ l (Υ r b)) ?_;by_cases hd:n<L.length
  .refine Ε (by simp[hd]) ?_;have t:L[n]?=some L[n]:=ζ hd;have y:=Yx hd (show L.length<2 ^ 62 by omega);have B:∀e:Int,Td L n=e->e≠0->Xl ((List.range a.length).map λi=>RA ((a[i]?).getD []))=e:=λe I o=>
    QV (i:=i) b (by rw[w];exact QV hd I o s.2) o hi.2
   refine XM (Υ l (Υ r (Υ b hd))) λP K=>?_;refine Κ.d (MP L[n] 0 2) (Z1 ?_);apply K;cases g:Vi L[n]
   .refine Ε (by unfold Vi at g;simp at g;simp;omega) ?_;refine Χ ?_;refine W.rt ?_;exact .of (by rw[B 3 (by simp[Td,t,g]) Z3];rfl)
   refine Η (by unfold Vi at g;simp at g;simp;omega) ?_
   repeat apply Ο
   refine W.Nn (A:=[]) Ρ mixed [(54,ε (decide (0<n/\L[n]<=(L[n-1]?).getD 0))),(0,ZT a),(3,R i),(4,R n)] ?_ (by
    cases n with
    | zero=>
    simp;(repeat (rw[ZL];simp));(try rw[ZM]);refine⟨Yw (by kernel_rfl),?_⟩;simp
    | succ n=>
     have M:n<L.length:=U
     have N:=X7 (show n<2 ^ 62 by omega)
     have o:(0:Int)<(n:Int)+1:=U;simp;(repeat (rw[ZL];simp[o,M,N,l,r,b,hd]));(try rw[ZM]);refine⟨U,?_⟩;refine⟨Yw (by kernel_rfl),?_⟩;simp)
   by_cases p:0<n/\L[n]<=(L[n-1]?).getD 0
   .refine Ε (by simp only[p];rfl) ?_;refine Χ ?_;refine W.rt ?_;exact .of (by rw[B 5 (by simp only[Td,t,g];rw[if_neg J,if_pos p]) Z3];rfl)
   .refine Η (by simp only[p];rfl) ?_;refine Ι y ?_;refine W.to (H (n+1) ⟨hd,λj k=>?_⟩ U) rfl (by simp[y]);by_cases e:j=n
    .subst e;simp only[Td,t,g];rw[if_neg J,if_neg p]
    .exact s.2 j U
  .refine Η (by simp[hd]) ?_;refine W.exit rfl ?_;refine Ι u ?_;refine W.to (E (i+1) ⟨b,λj k=>?_⟩ U) rfl (by simp[u]);by_cases e:j=i
   .subst e;rw[w];exact QU λj k=>s.2 j U
   .exact hi.2 j U
 .have b:a.length<=i:=by simpa using b
  refine W.exit rfl ?_;refine Χ ?_;refine W.rt ?_;exact .of (by rw[QU (f:=λi=>RA ((a[i]?).getD [])) λj k=>hi.2 j U];rfl)
theorem ts (s:Δ) (E:s.Β.length<2 ^ 30) (a:List Y9) (A:a.length<2 ^ 62) (p:Y9):Κ prog 108 [Zh s,U4 a,Zr p] (R (XX s a p)):=by
 refine Ξ.body Ρ func108 rfl rfl ntmps108 rfl rfl J ?_;have v:i64.wrap ((s.Β.length:Int)-1)=(s.Β.length:Int)-1:=i64_in _ U;refine Χ ?_;refine XM v λt f=>?_;refine Κ.d (MP p.Zd 0 ((s.Β.length:Int)-1)) (XC v ?_);apply f;by_cases g:p.Zd<0\/(s.Β.length:Int)<=p.Zd
 case pos=>
  refine Ε (by simp;omega) ?_;refine Χ ?_;refine W.rt ?_;exact .of (by rw[show XX s a p=3 by unfold XX;rw[if_pos g]];rfl)
 refine Η (by simp;omega) ?_;refine Χ ?_;refine W.iter (λi:Nat=>i<=a.length/\∀j,j<i->(h:j<a.length)->a[j].Zd≠p.Zd) (λi=>[(1,U4 a),(5,.π [R p.Zd,R p.seen,R p.bare]),(7,R i)]) (λ_=>[]) (λi=>a.length-i) 0 ⟨U,λj u=>U⟩ rfl J (λi hi B=>?_);refine Χ ?_;refine W.YM rfl (λc=>?_) (λc=>?_)
 .have c:i<a.length:=by simpa using c
  have w:=Yx c A
  repeat apply Ο
  refine W0 c ?_;by_cases o:a[i].Zd=p.Zd
  .refine Ε (by simp[o]) ?_;refine Χ ?_;have k:a.any (λx=>x.Zd==p.Zd)=true:=OS.2 ⟨_,Y7 c,by simpa using o⟩;refine W.rt ?_;exact .of (by rw[show XX s a p=4 by unfold XX;rw[if_neg g,if_pos k]];rfl)
  .refine Η (by simp[o]) ?_;refine Ι w ?_;refine W.to (B (i+1) ⟨c,λj u h=>?_⟩ U) rfl (by simp[w]);by_cases e:j=i
   .subst e;exact o
   .exact hi.2 j U h
 have c:a.length<=i:=by simpa using c
 refine W.exit rfl ?_;have k:a.any (λx=>x.Zd==p.Zd)=false:=PD.2 λx C=>by
  obtain⟨j,u,rfl⟩:=Us C;simpa using hi.2 j U u
 have D:∀b,(decide (0<=b)&&decide (b<=63))=valid b:=λb=>rfl
 have y:(valid p.seen=false\/valid p.bare=false)->XX s a p=1:=λh=>by unfold XX;rw[if_neg g,k];simp[h]
 have w1:=MP p.seen 0 63
 have l:=MP p.bare 0 63;rw[D] at w1 l;cases m:valid p.seen
 case false=>
  rw[m] at w1;rw[y (.inl m)];refine ZU λt f=>?_;refine Κ.d (w1) (Z1 ?_);apply f;refine Ε rfl ?_;refine Χ ?_;refine W.rt ?_;exact .of rfl
 rw[m] at w1;cases n:valid p.bare
 case false=>
  rw[n] at l;rw[y (.inr n)];refine ZU λt f=>?_;refine Κ.d (w1) (Z1 ?_);refine Κ.d (l) (Z1 ?_);apply f;refine Ε rfl ?_;refine Χ ?_;refine W.rt ?_;exact .of rfl
 rw[n] at l;refine ZU λt f=>?_;refine Κ.d (w1) (Z1 ?_);refine Κ.d (l) (Z1 ?_);apply f;refine Η rfl ?_;refine Χ ?_;by_cases r:U3 p.seen p.bare=0
 .refine Η (by simp[r]) ?_;refine Χ ?_;refine W.rt ?_;exact .of (by rw[show XX s a p=0 by unfold XX;rw[if_neg g,k];simp[m,n,r]];rfl)
 .refine Ε (by simp[r]) ?_;refine Χ ?_;refine W.rt ?_;exact .of (by rw[show XX s a p=9 by unfold XX;rw[if_neg g,k];simp[m,n,r]];rfl)
def N7 (s:Δ) (c:List Y9) (n:Nat):Int:=((c[n]?).map (XX s (c.take n))).getD 0
theorem GG (s:Δ) (c:s.small):Κ prog 49 [Zh s] (R s.err):=by
 refine Ξ.body Ρ func49 rfl rfl ntmps49 rfl rfl J ?_;refine Χ ?_;refine ZU λu k=>?_;refine Κ.d (tu s.ς c.1) (Z1 ?_);apply k;refine Χ ?_;by_cases l:Wv s.ς=0
 case neg=>
  refine Ε (by simp[l]) ?_;refine Χ ?_;refine W.rt ?_;exact .of (by rw[show s.err=Wv s.ς by unfold Δ.err;rw[if_pos l]];rfl)
 refine Η (by simp[l]) ?_;refine ZU λu k=>?_;refine Κ.d (tt s.Β c.2.1 c.2.2.2.1) (Z1 ?_);apply k;refine Χ ?_;by_cases o:Wu s.Β=0
 case neg=>
  refine Ε (by simp[o]) ?_;refine Χ ?_;refine W.rt ?_;exact .of (by rw[show s.err=Wu s.Β by unfold Δ.err;rw[if_neg (by simp[l]),if_pos o]];rfl)
 refine Η (by simp[o]) ?_;have e:s.err=TK s:=by unfold Δ.err;rw[if_neg (by simp[l]),if_neg (by simp[o])]
 rw[e];have O:=c.2.2.1;by_cases v:(4:Int)<s.cells.length
 .refine Ι v ?_;refine Ε J ?_;refine Χ ?_;refine W.rt ?_;exact .of (by rw[show TK s=6 by simp[TK];omega];rfl)
 have w:TK s=Xl ((List.range s.cells.length).map λi=>VK s ((s.cells[i]?).getD [])):=by
  unfold TK;rw[if_neg U]
 rw[w];clear e w;refine Ι v ?_;refine Η J ?_;refine Χ ?_;refine W.iter (λi:Nat=>i<=s.cells.length/\∀j,j<i->VK s ((s.cells[j]?).getD [])=0) (λi=>[(1,Z6 s),(5,R i)]) (λ_=>[]) (λi=>s.cells.length-i) 0 ⟨U,λj m=>U⟩ rfl J (λi hi H=>?_);refine Χ ?_;refine W.YM rfl (λa=>?_) (λa=>?_)
 .have a:i<s.cells.length:=by simpa using a
  have g:=ζ a
  have I:s.cells[i].length<2 ^ 30:=c.2.2.2.2 _ (Y7 a)
  have x:=Yx a (show s.cells.length<2 ^ 62 by omega);obtain⟨L,y⟩:=ψ (s.cells[i]);rw[<-y] at g I;have p:∀h,s.cells[i]'h=L:=λh=>y.symm;have B:(s.cells[i]?).getD []=L:=by rw[g];rfl
  have C:∀e:Int,VK s L=e->e≠0->Xl ((List.range s.cells.length).map λi=>VK s ((s.cells[i]?).getD []))=e:=λe K M=>
   QV (i:=i) a (by rw[B];exact K) M hi.2
  by_cases r:(4:Int)<L.length
  .refine Ι (Υ g (Υ p (Υ a r))) ?_;refine Ε (by simp[r]) ?_;refine Χ ?_;refine W.rt ?_;exact .of (by rw[C 6 (by unfold VK;rw[if_pos U]) Z3];rfl)
  refine Ι (Υ g (Υ p (Υ a r))) ?_;refine Η J ?_;refine Χ ?_;have D:VK s L=Xl ((List.range L.length).map (N7 s L)):=by
   unfold VK;rw[if_neg U];congr 1;refine MC λn _=>?_;unfold N7;cases L[n]?<;>rfl
  refine W.iter (λn:Nat=>n<=L.length/\∀j,j<n->N7 s L j=0) (λn=>[(1,Z6 s),(5,R i),(6,R n)]) (λ_=>[]) (λn=>L.length-n) 0 ⟨U,λj m=>U⟩ rfl J (λn t N=>?_);refine Ι (Υ g (Υ p a)) ?_;by_cases hd:n<L.length
  .refine Ε (by simp[hd]) ?_;have E:L[n]?=some L[n]:=ζ hd;have F:=Yx hd (show L.length<2 ^ 62 by omega)
   repeat apply Ο
   refine W.draw (A:=[]) Ρ mixed λu k=>?_;simp;(repeat (rw[ZL];simp[g,p,a,hd,RP hd]));try rw[ZM]
   (try simp only[<-Mz]);refine YD (Κ.q (ts s c.2.1 (L.take n) (by simp;omega) L[n])) (U5 ?_);refine YG (k _ _ ?_);refine Χ ?_;by_cases b:XX s (L.take n) L[n]=0
   .refine Η (by simp[b]) ?_;refine Ι F ?_;refine W.to (N (n+1) ⟨hd,λj m=>?_⟩ U) rfl (by simp[F]);by_cases e:j=n
    .subst e;unfold N7;rw[E];exact b
    .exact t.2 j U
   .refine Ε (by simp[b]) ?_;refine Χ ?_;refine W.ret ⟨_,rfl,?_,rfl⟩;have:=C (XX s (L.take n) L[n]) (by rw[D];exact QV (f:=N7 s L) hd (by unfold N7;rw[E];rfl) b t.2) b;rw[this];exact .of rfl
  .refine Η (by simp[hd]) ?_;refine W.exit rfl ?_;refine Ι x ?_;refine W.to (H (i+1) ⟨a,λj m=>?_⟩ U) rfl (by simp[x]);by_cases e:j=i
   .subst e;rw[B,D];exact QU (f:=N7 s L) λj m=>t.2 j U
   .exact hi.2 j U
 .have a:s.cells.length<=i:=by simpa using a
  refine W.exit rfl ?_;refine Χ ?_;refine W.rt ?_;exact .of (by rw[QU (f:=λi=>VK s ((s.cells[i]?).getD [])) λj m=>hi.2 j U];rfl)
theorem MO (d:Zo) {a b:Int} (h:a<=b) (c:-1000<a) (e:b<1000):a<=S9 d a b/\S9 d a b<=b:=by
 unfold S9;rw[i64_in (b-a) U];obtain⟨t0,t1⟩:=S8 d (b-a) U U;generalize Xj d (b-a)=x at t0 t1;rw[i64_in (a+x) U];omega
theorem tr (l:List Int) (k:Nat) (x:Int):(R2 l k x).Perm (x::l):=by
 unfold R2;have h:(l.take k++x::l.drop k).Perm (x::(l.take k++l.drop k)):=List.perm_middle
 rwa [NW] at h
theorem Co (d:Zo) (n:Nat):(W8 d n).1.Perm ((List.range n).map λ(i:Nat)=>(i:Int)):=by
 induction n with
 | zero=>exact .refl _
 | succ n a=>
  show(R2 _ _ _).Perm _;refine(tr _ _ _).trans ?_;rw[Vp,XR];refine(List.Perm.cons _ a).trans ?_;exact(List.perm_append_singleton _ _).symm
theorem GF {d:Zo} {n:Nat} {x:Int} (h:x∈(W8 d n).1):0<=x/\x<n:=by
 have:=(Co d n).mem_iff.1 h;obtain⟨i,hi,rfl⟩:=Zc.1 this;have:=Wm.1 hi;omega
theorem GD (d:Zo) (n:Nat):(W8 d n).1.Nodup:=by
 refine(Co d n).nodup_iff.2 ?_;unfold List.Nodup;rw[K7];exact K5.imp λh e=>h U
structure SB (l:List VA):Prop where
 lo:1<=l.length
 hi:l.length<=6
 each:∀g∈l,UI g.name=false/\1<=g.YW/\g.YW<=63
 Cn:l.Pairwise λa b=>VC b.name a.name=false
 apart:l.Pairwise λa b=>a.YW≠b.YW
theorem Lt {l:List Int} (h:∀x∈l,x=0):Xl l=0:=by
 induction l with
 | nil=>rfl
 | cons x l a=>
  have:=h x J;subst this;simp[Xl];exact a λy b=>h y (by simp[b])
theorem SB.err {l:List VA} (h:SB l):Wv l=0:=by
 unfold Wv;have g:=h.lo;have k:=h.hi;rw[if_neg U,if_neg U];refine Lt λx c=>?_;obtain⟨i,hi,rfl⟩:=Zc.1 c;have hi:=Wm.1 hi;unfold Vz;rw[ζ hi];obtain⟨d,Φ,m⟩:=h.each _ (Y7 hi);simp only;rw[if_neg (by rw[d];simp),if_neg,if_neg U,if_neg]
 .intro e;obtain⟨y,f,b⟩:=OS.1 e;obtain⟨j,n,rfl⟩:=NZ.1 f;have:=Tu.1 h.apart j i U hi U;simp at b;exact this b
 .rintro⟨o,a⟩;rw[ζ U] at a;have:=Tu.1 h.Cn (i-1) i U hi U;simp only[Option.map_some,Option.getD_some] at a;rw[a] at this;cases this
def Ti (i:Nat):ByteArray:=⟨#[[97,98,99,100,111,122].getD i 0]⟩
def Vs:List Int:=[4,9,6,12,48,8,3,16,5,10,20]
def UH (a:List Int) (b:Int) (i:Nat):VA:=⟨Ti i,(Vs++[b]).getD ((a.getD i 0).toNat) 0⟩
structure Made (a:List Int):Prop where
 len:a.length=11
 mem:∀x∈a,0<=x/\x<11
 nodup:a.Nodup
theorem tq (d:Zo):Made (W8 d 11).1:=⟨IX d 11,λ_ h=>GF h,GD d 11⟩
theorem Made.get {a:List Int} (h:Made a) {i:Nat} (hi:i<11):∃k:Nat,k<11/\a[i]?=some (k:Int)/\∀c,(Vs++[c])[k]?=some (Vs.getD k 0)/\1<=Vs.getD k 0/\Vs.getD k 0<=63:=by
 have d:=h.len
 have e:=h.mem _ (Y7 (l:=a) (n:=i) U);refine⟨(a[i]).toNat,U,by rw[ζ U];congr 1;omega,λc=>?_⟩;have b:(a[i]).toNat<11:=U;generalize (a[i]).toNat=k at b;rw[YL (by simpa[Vs] using b)];have:∀k<11,Vs[k]?=some (Vs.getD k 0)/\1<=Vs.getD k 0/\Vs.getD k 0<=63:=Z3;exact this k b
theorem tp:∀a<11,∀b<11,Vs.getD a 0=Vs.getD b 0->a=b:=Z3
theorem tn:∀i<6,UI (Ti i)=false:=by decide +kernel
theorem tm:∀j<6,∀i<j,VC (Ti j) (Ti i)=false:=by decide +kernel
theorem IV {a:List Int} (h:Made a) (b:Int) {i:Nat} (hi:i<11):∃k:Nat,k<11/\a[i]?=some (k:Int)/\(UH a b i).YW=Vs.getD k 0/\1<=Vs.getD k 0/\Vs.getD k 0<=63:=by
 obtain⟨k,d,c,e⟩:=h.get hi;obtain⟨f,g,j⟩:=e b;refine⟨k,d,c,?_,g,j⟩;unfold UH;rw[show a.getD i 0=(k:Int) from by rw[Xd,c];rfl,Int.toNat_natCast];show(Vs++[b]).getD k 0=_;rw[Xd,f];rfl
theorem tl {d:List Int} (h:Made d) (c:Int) {i j:Nat} (hi:i<11) (f:j<11) (e:(UH d c i).YW=(UH d c j).YW):i=j:=by
 obtain⟨a,g,k,l,_⟩:=IV h c hi;obtain⟨b,m,n,o,_⟩:=IV h c f;rw[l,o] at e;have:=tp a g b m e;subst this;have p:=h.len;exact(List.getElem?_inj U h.nodup).1 (k.trans n.symm)
theorem tk {m:List Int} (h:Made m) (l:Int) {d:List Nat} (n:d.Pairwise (· < ·)) (f:∀j∈d,j<6) (p:1<=d.length) (r:d.length<=6):SB (d.map (UH m l)):=by
 refine⟨by simpa using p,by simpa using r,λg s=>?_,?_,?_⟩
 .obtain⟨j,t,rfl⟩:=Zc.1 s;have:=f j t;obtain⟨k,_,_,e,u,Φ⟩:=IV h l (i:=j) U;exact⟨tn j this,U,U⟩
 .rw[K7];refine(Lj.2 λ{a b} c=>?_);have o:=(Lj.1 n) c;exact tm b (f b (c.subset J)) a o
 .rw[K7];refine(Lj.2 λ{a b} c=>λe=>?_);have o:=(Lj.1 n) c;have v:=f a (c.subset J);have w:=f b (c.subset J);have:=tl h l U U e;omega
theorem SB.set {l:List VA} (h:SB l) {k:Nat} (y:k<l.length) {x:Int} (t:1<=x) (u:x<=63) (o:∀g∈l,g.YW≠x):SB (l.set k ⟨l[k].name,x⟩):=by
 have get:∀(i:Nat) (hi:i<(l.set k ⟨l[k].name,x⟩).length),(l.set k ⟨l[k].name,x⟩)[i].name=(l[i]'(by simpa using hi)).name/\((l.set k ⟨l[k].name,x⟩)[i].YW=x/\i=k\/(l.set k ⟨l[k].name,x⟩)[i].YW=(l[i]'(by simpa using hi)).YW/\i≠k):=by
  intro i hi;rw[List.getElem_set];split
  .rename_i e;subst e;exact⟨rfl,.inl ⟨rfl,rfl⟩⟩
  .rename_i e;exact⟨rfl,.inr ⟨rfl,λh=>e h.symm⟩⟩
 refine⟨by simpa using h.lo,by simpa using h.hi,λg v=>?_,?_,?_⟩
 .obtain⟨i,hi,rfl⟩:=Us v;obtain⟨f,Φ⟩:=get i hi;obtain⟨a,b,c⟩:=h.each _ (Y7 (l:=l) (n:=i) (by simpa using hi));rw[f];rcases Φ with⟨Φ,_⟩|⟨Φ,_⟩<;>rw[Φ]
  .exact⟨a,t,u⟩
  .exact⟨a,b,c⟩
 .rw[Tu];intro i j hi d m;rw[(get i hi).1,(get j d).1];exact Tu.1 h.Cn i j (by simpa using hi) (by simpa using d) m
 .rw[Tu];intro i j hi d m;have p:i<l.length:=by simpa using hi
  have r:j<l.length:=by simpa using d
  rcases(get i hi).2 with⟨f,Φ⟩|⟨f,Φ⟩<;>rcases(get j d).2 with⟨s,w⟩|⟨s,w⟩<;>rw[f,s]
  .omega
  .exact λe=>o _ (Y7 r) e.symm
  .exact λe=>o _ (Y7 p) e
  .exact Tu.1 h.apart i j p r m
def Rk (g:FuncId) (args:ξ) (d:Zo) (c:I->Prop):Prop:=Ξ prog g (.Ν 0 1 0 0::args) [ZK d] (λa s=>∃r b,Y3 a r/\c r/\s=[ZK b]/\b.Z9.length<=d.Z9.length) (λ_ _=>False)
theorem Rk.c {g:FuncId} {args f:ξ} {d:Zo} {i:I->Prop} {σ:Τ} {K E:I->Τ->Prop} (h:Rk g args d i) (id:Nat) (n:σ[id]?=some (ZK d)) (o:ZO f args) (l:∀a∈f,χ 0 a) (m:∀r,i r->χ 0 r) (p:∀r b,i r->b.Z9.length<=d.Z9.length->K r (σ.set id (ZK b))):WO prog (.fn (.func g) [] []) (.Ν id 1 0 0::f) σ K E:=by
 refine Ξ.HF (as0:=.Ν 0 1 0 0::f) (K0:=λa s=>∃b,i a/\s=[ZK b]/\b.Z9.length<=d.Z9.length) (Ξ.TP h (.cons (.refl _) o) λa s ⟨r,b,e,j,k,t⟩=>⟨r,e,b,j,k,t⟩) id n (R3 d) ?_ ?_ ?_
 .intro a hm;rcases Zf.1 hm with rfl|hm
  .exact Nat.zero_lt_one
  .exact(l a hm).VL 1
 .rw[X3,Cy l];rfl
 .rintro a s ⟨b,e,j,k⟩;exact⟨ZK b,j,R3 b,(m a e).VL 1,by rw[(m a e).Ym];exact p a b e k⟩
section
variable {P:Program} {m nt:Nat} {k:List Item} {env:Ζ} {Z:X9} {E:Yn}
theorem W.Cm {d:Zo} {t kk n:Nat} {l:ξ} {x:Nat} (f:m<=1) (g:l.length=n) (h:∀e∈l,∀a∈e.cells,χ 0 a) (hd:Z' env x=.ms 1 n 0 n) (i:W P m nt k [(x,.sl false kk l)] [ZK d] Z E):W P m nt k env [ZK d,.cells t kk l] Z E:=
 W.cut 1 f [(x,.sl false kk l)] J (λid r s b=>by
  have:id=0:=U;subst this;simp at b;subst b;exact S7 d 1) (λp c=>by
  simp at c;subst c;show Yr 1 _ (Z' env x) _;rw[hd];exact .own (t:=t) (Z5 _) rfl g (λe j a o=>(h e j a o).mono (ω _))) (by simpa using i)
end
theorem Tx {l:List VA}:∀e∈l.map Ye,∀a∈e.cells,χ 0 a:=λe c a b=>by
 obtain⟨x,_,rfl⟩:=Zc.1 c;simp[I.cells] at b;rcases b with rfl|rfl<;>exact .z _
def MN:List ByteArray:=[⟨#[97]⟩,⟨#[98]⟩,⟨#[99]⟩,⟨#[100]⟩,⟨#[111]⟩,⟨#[122]⟩]
theorem tj:∀i<6,MN[i]?=some (Ti i):=Z3
structure Cl where
 i:Nat
 d:Zo
 X2:List Nat
theorem ti (d:Zo) (hd:d.Z9.length<2 ^ 63) (H:Nat) (bn:1<=H) (bo:H<=6):Rk 128 [R H] d (λr=>∃l,r=ZI l/\SB l/\l.length<=H):=by
 unfold Rk;refine Ξ.body Ρ func128 rfl rfl ntmps128 rfl rfl J ?_;refine Χ ?_;obtain⟨aD,l1⟩:=MO d (a:=1) (b:=63) Z3 Z3 Z3;obtain⟨m,aE⟩:=Zt (S9 d 1 63);obtain⟨d1,aF⟩:=Zt (d.after (i64.wrap (63-1)));have a7:d1.Z9.length<=d.Z9.length:=by rw[<-aF];exact Ws _ _
 have aG:=MR d hd 1 63;rw[aE,aF] at aG;rw[aE] at aD l1;refine ZU λag I=>?_;refine YT.g (aG) (Z1 ?_);apply I
 repeat apply Ο
 have aH:=GJ d1 U 11 Z3
 have Z:=tq d1
 have aI:=Ya (IY d1 11) a7;obtain⟨v,aJ⟩:=Zt ((W8 d1 11).1);obtain⟨d2,aK⟩:=Zt ((W8 d1 11).2);rw[aJ] at Z;rw[aJ,aK] at aH;rw[aK] at aI;refine ZU λag I=>?_;refine YT.g (aH) (Z1 ?_);apply I;refine Χ ?_;obtain⟨a8,a9⟩:=MO d2 (a:=1) (b:=H) U Z3 U;obtain⟨n,aL⟩:∃n:Nat,S9 d2 1 H=n:=⟨(S9 d2 1 H).toNat,U⟩;rw[aL] at a8 a9;obtain⟨d3,aM⟩:=Zt (d2.after (i64.wrap ((H:Int)-1)));have a':d3.Z9.length<=d.Z9.length:=by rw[<-aM];exact Ya (Ws _ _) aI
 have aN:=MR d2 U 1 H;rw[aL,aM] at aN;refine ZU λag I=>?_;refine YT.g (aN) (Z1 ?_);apply I;refine Χ ?_;have u:MN.length=6:=rfl;have ah:(Vs++[m]).length=12:=by simp[Vs]
 obtain⟨N,ai⟩:=ψ (Vs++[m]);rw[<-ai] at ah;have ba:∀f:List Nat,(f.map (UH v m)).length=f.length:=λf=>Yh _;refine W.iter (λx:Cl=>x.i<=6/\x.d.Z9.length<=d.Z9.length/\x.X2.Pairwise (· < ·)/\(∀j∈x.X2,j<x.i)/\x.X2.length<=n/\n+x.i<=6+x.X2.length)
  (λx=>[(0,.Ν 0 1 0 0),(5,.sl true 1 (MN.map TO)),(6,.sl true 1 (N.map R)),(7,ν R 1 v),(8,Zg 1 ((x.X2.map (UH v m)).map Ye)),(9,R n),(10,R x.i)])
  (λx=>ZK x.d::ZR 77 2 ((x.X2.map (UH v m)).map Ye)) (λx=>6-x.i) ⟨0,d3,[]⟩ ⟨J,a',J,J,J,by simp;omega⟩ rfl (by rw[ai];intro p aO;simp only[Zf,Yk,or_false] at aO;rcases aO with rfl|rfl|rfl|rfl|rfl|rfl|rfl<;>rfl) (λx au aj=>?_)
 obtain⟨i,B,f⟩:=x;obtain⟨bb,av,ak,aa,aP,bc⟩:=au;simp only at bb av ak aa aP bc aj ⊢;obtain⟨G,S⟩:=ψ (f.map (UH v m));have o:G.length=f.length:=by rw[S];exact ba f
 rw[<-S];have T:(Zg 1 (G.map Ye)=.sl true 0 []/\ZR 77 2 (G.map Ye)=[]/\f.length=0)\/(Zg 1 (G.map Ye)=.ms 1 f.length 0 f.length/\ZR 77 2 (G.map Ye)=[.cells 77 2 (G.map Ye)]/\0<f.length):=by
  by_cases V:G=[]
  .subst V;exact .inl ⟨rfl,rfl,by simpa using o.symm⟩
  .have aQ:G.map Ye≠[]:=by simpa using V
   refine .inr ⟨by rw[Xq aQ,Yh,o],Yq aQ,?_⟩;have:=Qy.2 V;omega
 repeat apply Ο
 refine W.Xk (A:=[]) Ρ [(35,ε (decide (i<6)&&decide (f.length<n))),(0,.Ν 0 1 0 0),(5,.sl true 1 (MN.map TO)),(6,.sl true 1 (N.map R)),(7,ν R 1 v),(8,Zg 1 (G.map Ye)),(9,R n),(10,R i)] (ZK B::ZR 77 2 (G.map Ye)) ?_ (by
  by_cases hi:i<6
  .have al:(i:Int)<6:=U
   rcases T with⟨s,Φ,t⟩|⟨s,Φ,t⟩
   .rw[s,Φ];(try simp);(repeat (rw[Μ];simp[al,u,t,hi]));(try simp[al,u,t,hi])
   .rw[s,Φ];(try simp);(repeat (rw[Μ];simp[al,u,o,hi]));(try simp[al,u,o,hi])
  .have hi:i=6:=U
   subst hi;rcases T with⟨s,Φ,t⟩|⟨s,Φ,t⟩
   .rw[s,Φ];(try simp);(repeat (rw[Μ];simp[u]));(try simp[u])
   .rw[s,Φ];(try simp);(repeat (rw[Μ];simp[u]));(try simp[u]))
 refine W.YM rfl (λM=>?_) (λM=>?_)
 .simp only[V9,decide_eq_true_eq] at M;obtain⟨hi,aR⟩:=M;have E:i64.wrap (6-(i:Int))=6-i:=i64_in _ U;have D:i64.wrap ((n:Int)-f.length)=n-f.length:=i64_in _ U;have K:i64.wrap ((i:Int)+1)=((i+1:Nat):Int):=by rw[i64_in _ U];omega
  repeat apply Ο
  have aw:B.Z9.length<2 ^ 63:=U
  have X:=GL B aw 3 Z3 Z3;obtain⟨ax,ay⟩:=Zt (N8 B 3);obtain⟨ab,ad⟩:=Zt (B.after (3-1));have bd:ab.Z9.length<=d.Z9.length:=by rw[<-ad];exact Ya (Ws _ _) av
  rw[ay,ad] at X;obtain⟨w,L⟩:∃x,x=if(n:Int)-f.length<6-i then ab else B:=⟨_,rfl⟩
  have ae:w.Z9.length<=d.Z9.length:=by rw[L];split<;>assumption
  refine W.Xk (A:=[]) Ρ [(50,ε (decide ((n:Int)-f.length<6-i)&&ax)),(0,.Ν 0 1 0 0),(5,.sl true 1 (MN.map TO)),(6,.sl true 1 (N.map R)),(7,ν R 1 v),(8,Zg 1 (G.map Ye)),(9,R n),(10,R i)] (ZK w::ZR 77 2 (G.map Ye)) ?_ (by
   by_cases C:(n:Int)-f.length<6-i
   .rw[if_pos C] at L;rw[L];rcases T with⟨s,Φ,t⟩|⟨s,Φ,t⟩
    .rw[s,Φ];rw[t] at C D;simp only[Int.natCast_zero,Int.sub_zero] at C D;(try simp);(repeat (rw[Μ];simp[u,E,D,C,t]));(try simp[u,E,D,C,t]);refine YT.c (X) 0 rfl (ZO.refl _) J J ?_;simp;(repeat (rw[Μ];simp));(try simp)
    .rw[s,Φ];(try simp);(repeat (rw[Μ];simp[u,E,D,C,o]));(try simp[u,E,D,C,o]);refine YT.c (X) 0 rfl (ZO.refl _) J J ?_;simp;(repeat (rw[Μ];simp));(try simp)
   .rw[if_neg C] at L;rw[L];rcases T with⟨s,Φ,t⟩|⟨s,Φ,t⟩
    .rw[s,Φ];rw[t] at C D;simp only[Int.natCast_zero,Int.sub_zero] at C D;(try simp);(repeat (rw[Μ];simp[u,E,D,C,t]));(try simp[u,E,D,C,t])
    .rw[s,Φ];(try simp);(repeat (rw[Μ];simp[u,E,D,C,o]));(try simp[u,E,D,C,o]))
  refine W.YM rfl (λY=>?_) (λY=>?_)
  .simp only[V9,decide_eq_true_eq] at Y;refine W.exit rfl ?_;refine Ι K ?_;refine W.to (aj ⟨i+1,w,f⟩ ⟨by show i+1<=6;omega,ae,ak,λj F=>by have:=aa j F;show j<i+1;omega,aP,by show n+(i+1)<=6+f.length;omega⟩ (by show 6-(i+1)<6-i;omega)) (by rw[S]) ?_;rw[<-S];simp[K]
  .have am:n+i+1<=6+f.length+1:=U
   obtain⟨k,az,af,O⟩:=Z.get (i:=i) U;obtain⟨O,_,_⟩:=O m;have an:UH v m i=⟨Ti i,Vs.getD k 0⟩:=by
    obtain⟨be,_,aS,e,_⟩:=IV Z m (i:=i) U;rw[af] at aS;have bf:be=k:=by have:=W4 aS;omega
    subst bf;show(⟨Ti i,(UH v m i).YW⟩:VA)=_;rw[e]
   obtain⟨st,aT⟩:=Zt (Vs.getD k 0);rw[aT] at an;rw[aT,<-ai] at O;have ao:=tj i hi;have aU:∀h,MN[i]'h=Ti i:=λh=>by rw[ζ h] at ao;exact W4 ao
   have aV:∀h,v[i]'h=(k:Int):=λh=>by rw[ζ h] at af;exact W4 af
   have aW:∀h,N[k]'h=st:=λh=>by rw[ζ h] at O;exact W4 O
   have aX:=Z.len
   have ap:(G++[UH v m i])=(f++[i]).map (UH v m):=by rw[S];simp
   repeat apply Ο
   have aq:(G++[UH v m i]).map Ye≠[]:=J
   have aY:(⟨i+1,w,f++[i]⟩:Cl).i<=6/\w.Z9.length<=d.Z9.length/\(f++[i]).Pairwise (· < ·)/\(∀j∈f++[i],j<i+1)/\(f++[i]).length<=n/\n+(i+1)<=6+(f++[i]).length:=by
    refine⟨hi,ae,?_,?_,?_,?_⟩
    .rw[NU];exact⟨ak,J,λa bg b aZ=>by simp at aZ;subst aZ;exact aa a bg⟩
    .intro j F;rcases VG.1 F with F|F
     .have:=aa j F;omega
     .simp at F;omega
    .simp;omega
    .simp;omega
   rcases T with⟨s,Φ,t⟩|⟨s,Φ,t⟩
   .rw[s,Φ];refine W.draw (A:=[65]) Ρ mixed λag I=>Vj (Υ u (Υ ah (Υ aX (Υ ao (Υ aU (Υ af (Υ aV (Υ O aW)))))))) ?_;refine⟨U,U,U,?_⟩;refine YG (I _ _ ?_);refine Ι K ?_;have V:G=[]:=YR.1 U;refine W.to (aj ⟨i+1,w,f++[i]⟩ aY (by show 6-(i+1)<6-i;omega)) ?_ ?_
    .have e:ZR 77 2 (((f++[i]).map (UH v m)).map Ye)=[.cells 77 2 [Ye ⟨Ti i,st⟩]]:=by rw[<-ap,Yq aq,V,an];rfl
     simp only[e]
    .have e:Zg 1 (((f++[i]).map (UH v m)).map Ye)=.ms 1 1 0 1:=by rw[<-ap,Xq aq,V,an];rfl
     simp only[e];simp[K]
   .rw[s,Φ];refine W.draw (A:=[65]) Ρ mixed λag I=>Vj (Υ u (Υ ah (Υ aX (Υ ao (Υ aU (Υ af (Υ aV (Υ O (Υ aW o))))))))) ?_;refine⟨U,U,U,U,?_⟩;refine YG (I _ _ ?_);refine Ι K ?_;refine W.to (aj ⟨i+1,w,f++[i]⟩ aY (by show 6-(i+1)<6-i;omega)) ?_ ?_
    .have e:ZR 77 2 (((f++[i]).map (UH v m)).map Ye)=[.cells 77 2 (G.map Ye++[Ye ⟨Ti i,st⟩])]:=by rw[<-ap,Yq aq,XR,an];rfl
     simp only[e]
    .have e:Zg 1 (((f++[i]).map (UH v m)).map Ye)=.ms 1 (f.length+1) 0 (f.length+1):=by rw[<-ap,Xq aq,Yh,VU,o];rfl
     simp only[e];simp[K]
 .have aR:f.length=n:=by
   simp only[Bool.and_eq_false_iff,decide_eq_false_iff_not] at M;omega
  refine W.exit rfl ?_;rcases T with⟨s,Φ,t⟩|⟨s,Φ,t⟩
  .omega
  rw[aR] at s o;have a0:SB G:=by rw[S];exact tk Z m ak (λj F=>by have:=aa j F;omega) U U
  have aA:N[11]?=some m:=by rw[ai];rfl
  have bh:∀h,N[11]'h=m:=λh=>by rw[ζ h] at aA;exact W4 aA
  refine W.to (env':=[(0,.Ν 0 1 0 0),(6,.sl true 1 (N.map R)),(8,.ms 1 n 0 n),(9,R n)]) (σ':=[ZK B,.cells 77 2 (G.map Ye)]) ?_ (by rw[Φ]) (by rw[s];simp);have bi:i64.wrap 11=11:=Z3;refine Ι (Υ ah (Υ aA (Υ bh bi))) ?_;refine W.iter (λx:Nat×Bool=>x.1<=n/\(x.2=true->∀g∈G.take x.1,g.YW≠m)) (λx=>[(0,.Ν 0 1 0 0),(8,.ms 1 n 0 n),(11,R m),(12,ε x.2),(13,R x.1)]) (λ_=>[ZK B,.cells 77 2 (G.map Ye)]) (λx=>n-x.1) (0,true) ⟨ω _,J⟩ rfl J (λx au a1=>?_);obtain⟨j,υ⟩:=x;obtain⟨F,am⟩:=au;simp only at F am a1 ⊢;refine Ι o ?_;refine W.YM rfl (λM=>?_) (λM=>?_)
  .have a2:j<n:=by simpa using M
   have aB:G[j]?=some (G[j]'U):=ζ U;obtain⟨g,P⟩:=ψ (G[j]'U);rw[<-P] at aB;have a3:∀h,G[j]'h=g:=λh=>P.symm;have K:i64.wrap ((j:Int)+1)=((j+1:Nat):Int):=by rw[i64_in _ U];omega
   have bj:G.take (j+1)=G.take j++[g]:=by rw[Wp U,P]
   repeat apply Ο
   refine W.Xk (A:=[]) Ρ [(0,.Ν 0 1 0 0),(8,.ms 1 n 0 n),(11,R m),(12,ε (υ&&decide (g.YW≠m))),(13,R j)] [ZK B,.cells 77 2 (G.map Ye)] ?_ (by
    cases υ
    ·(try simp);(repeat (rw[Μ];simp[o]));(try simp[o])
    ·(try simp);(repeat (rw[Μ];simp[o,aB,a3]));(try simp[o,aB,a3]);omega)
   refine Ι K ?_;refine W.to (a1 (j+1,υ&&decide (g.YW≠m)) ⟨a2,λh=>?_⟩ (by show n-(j+1)<n-j;omega)) rfl (by simp[K]);simp only[V9,decide_eq_true_eq] at h;intro y Q;rw[bj] at Q;rcases VG.1 Q with Q|Q
   .exact am h.1 y Q
   .simp at Q;subst Q;exact h.2
  .have a2:j=n:=by simp at M;omega
   have bk:υ=true->∀g∈G,g.YW≠m:=λh=>by
    have:=am h
    rwa [US U] at this
   refine W.exit rfl ?_;have aw:B.Z9.length<2 ^ 63:=U;have X:=GL B aw 3 Z3 Z3;obtain⟨ax,ay⟩:=Zt (N8 B 3);obtain⟨ab,ad⟩:=Zt (B.after (3-1));have bd:ab.Z9.length<=d.Z9.length:=by rw[<-ad];exact Ya (Ws _ _) av
   rw[ay,ad] at X;obtain⟨w,L⟩:=ψ (if υ then ab else B);have ae:w.Z9.length<=d.Z9.length:=by rw[L];split<;>assumption
   repeat apply Ο
   refine W.Xk (A:=[]) Ρ [(92,ε (υ&&ax)),(0,.Ν 0 1 0 0),(8,.ms 1 n 0 n),(11,R m)] [ZK w,.cells 77 2 (G.map Ye)] ?_ (by
    cases υ
    .rw[L];(try simp);(repeat (rw[Μ];simp[o]));(try simp[o])
    .rw[L];(try simp);(repeat (rw[Μ];simp[o]));(try simp[o]);refine YT.c (X) 0 rfl (ZO.refl _) J J ?_;simp;(repeat (rw[Μ];simp));(try simp))
   refine W.YM rfl (λY=>?_) (λY=>?_)
   .simp only[V9] at Y;have E:i64.wrap ((n:Int)-1)=n-1:=i64_in _ U;have a4:=Ty w U ((n:Int)-1);obtain⟨t0,t1⟩:=S8 w ((n:Int)-1) U U;obtain⟨k,az⟩:∃k:Nat,Xj w ((n:Int)-1)=k:=⟨(Xj w ((n:Int)-1)).toNat,U⟩;obtain⟨aC,a5⟩:=Zt (w.after ((n:Int)-1));have bl:aC.Z9.length<=d.Z9.length:=by rw[<-a5];exact Ya (Ws _ _) ae
    rw[az,a5] at a4;rw[az] at t1;have ar:k<G.length:=U;have a6:G[k]?=some (G[k]'ar):=ζ ar;obtain⟨g,P⟩:=ψ (G[k]'ar);rw[<-P] at a6;have bm:∀h,G[k]'h=g:=λh=>P.symm
    repeat apply Ο
    refine W.Xk (A:=[]) Ρ [(8,.ms 1 n 0 n)] [ZK aC,.cells 77 2 ((G.set k ⟨g.name,m⟩).map Ye)] ?_ (by
     (try simp);(repeat (rw[Μ];simp[o,E]));(try simp[o,E]);refine YT.g (a4) (XC (Υ a6 (Υ bm o)) ?_)
     first|omega|(refine⟨U,?_⟩;simp[Mx]))
    refine Χ ?_;rw[<-Mx];refine W.Cm (x:=4) (n:=n) (l:=(G.set k ⟨g.name,m⟩).map Ye) (Z5 _) (by rw[Yh];simp[o]) Tx ?_ ?_
    .simp
    exact W.ret ⟨_,rfl,_,aC,.refl _,⟨_,rfl,by rw[P];exact a0.set ar aD l1 (bk Y.1),by rw[MA];omega⟩,rfl,bl⟩
   .refine Χ ?_;refine W.Cm (x:=4) (n:=n) (l:=G.map Ye) (Z5 _) (by rw[Yh];simp[o]) Tx ?_ ?_
    .simp
    exact W.ret ⟨_,rfl,_,w,.refl _,⟨_,rfl,a0,U⟩,rfl,ae⟩
end Go.TL
namespace Go.TL
open Go.IntWalk (i64_in)
open Go.IntKind (i64 u64)
open Go.Proofs.Tryz
open Go.Conc
variable [ZV]
inductive Rj (id k:Nat) (l:ξ):I->I->Prop where
 | same (a:I):Rj id k l a a
 | ms:Rj id k l (.ms id l.length 0 l.length) (.sl false k l)
 | Ν {e:I}:l=[e]->Rj id k l (.Ν id 1 0 0) (.π e.cells)
def Ls (id k:Nat) (l:ξ) (r r':Row):Prop:=r'=r\/∃t n es es',r=.cells t n es/\r'=.cells t n es'/\es'.length=es.length/\
 ∀(i:Nat) (e b:I),es[i]?=some e->es'[i]?=some b->b.cells.length=e.cells.length/\∀(x:Nat) (a c:I),e.cells[x]?=some a->b.cells[x]?=some c->Rj id k l a c
section
variable {P:Program} {S:ο} {B:δ} {H:Ψ} {σ σ':Τ} {m nt id k:Nat} {t:TypeId} {l:ξ} {kk:List Item} {env:Ζ} {Z:X9} {E:Yn}
def ο.set (S:ο) (B:δ) (H:Ψ) (id:Nat):ο:=λb o=>match B[id]? with
 | some (some (a,_))=>if b=a then(H.μ b o).map (·.1) else S b o
 | _=>S b o
theorem Ck {b N:Nat} (a:B[id]?=some (some (b,N))) (o:Nat):S.set B H id b o=(H.μ b o).map (·.1):=by
 unfold ο.set;rw[a];simp
theorem Cj (a:Holds S B σ H) (c:σ[id]?=some (.cells t k l)):∀b o v,S b o=some v->S.set B H id b o=some v:=λb o v hv=>by
 unfold ο.set;split
 .rename_i f N d;split
  .rename_i e;subst e;rw[a.sep id _ b N c trivial d o] at hv;cases hv
  .exact hv
 .exact hv
theorem Zy.PJ (c:Holds S B σ H) (b:σ[id]?=some (.cells t k l)) (d:σ'[id]?=some .dead) (f:∀j r,j≠id->σ[j]?=some r->∃r',σ'[j]?=some r'/\Ls id k l r r'):Zy S (S.set B H id) B B σ σ':=
 ⟨Cj c b,λj r a=>by
  by_cases e:j=id
  .subst e;rw[b] at a;cases a;exact⟨.dead,d,.inr λn _=>trivial⟩
  .obtain⟨r',g,h⟩:=f j r e a;refine⟨r',g,?_⟩;rcases h with rfl|⟨t,n,es,es',rfl,rfl,i,_⟩
   .exact Row.Ql _ _
   .exact .inl ⟨es',rfl,i,rfl⟩⟩
theorem Α.Ci (s:Holds S B σ H) (g:σ[id]?=some (.cells t k l)) (o:Zy S (S.set B H id) B B σ σ') {a u:I} (C:Rj id k l a u) {v:Value} (p:Α S B σ a v):Α (S.set B H id) B σ' u v:=by
 cases C with
 | same=>exact p.later o
 | ms=>
  cases p with
  | ms cap d h i F D r=>
   rw[g] at d;cases d;by_cases y:l=[]
   .subst y;exact .Wk _ _ J
   .have K:0<l.length:=Qy.2 y;rcases r with r|⟨b,N,rfl,rfl,r⟩
    .omega
    .obtain⟨_,_,_,w,m⟩:=s.row id _ _ g i;rw[Qu];refine .sl b 0 cap (λj x=>w j x) J D (λj e n=>(m j e n).1) (λj e n x c f=>?_) (λj e n x c f=>?_)
     .have:=((m j e n).2 x c f).1;rw[Ck i,U',this];rfl
     .exact(((m j e n).2 x c f).2.1).later o
  | VD v d h=>rw[g] at d;cases d;simp only[Row.WR] at h;omega
 | @Ν e E=>
  subst E;cases p with
  | Ν d h i=>
   rw[g] at d;cases d;obtain⟨_,_,_,w,m⟩:=s.row id _ _ g i;have A:=m 0 e rfl;refine .π _ _ (λx=>w 0 x) (λx a f=>?_) (λx a f=>?_)
   .have:=(A.2 x a f).1;rw[Ck i,Nat.add_zero,this];rfl
   .exact((A.2 x a f).2.1).later o
  | Vm v d h=>rw[g] at d;cases d;simp[Row.WR] at h
theorem W.PJ (a7:m<=id) (f:σ[id]?=some (.cells t k l)) (aa:σ'.length=σ.length) (F:σ'[id]?=some .dead) (ab:∀j r,j≠id->σ[j]?=some r->∃r',σ'[j]?=some r'/\Ls id k l r r') (env':Ζ) (aC:∀p∈env',Rj id k l (Z' env p.1) p.2)
  (aD:W P m nt kk env' σ' Z E):W P m nt kk env σ Z E:=by
 intro aE mn x cs b S B H Z2 I K L aF aG;have c:=L.holds;have M:=Zy.PJ c f F ab;have back:∀j r',j≠id->σ'[j]?=some r'->∃r,σ[j]?=some r/\Ls id k l r r':=λj r' O h=>by
  have s:j<σ.length:=by rw[<-aa];exact(ZB.1 h).1
  obtain⟨an,Q,ad⟩:=ab j _ O (ζ s);rw[h] at Q;cases Q;exact⟨_,ζ s,ad⟩
 have R:∀{r r':Row},Ls id k l r r'->r'.live->r.live:=λ{r r'} h hv=>by
  rcases h with rfl|⟨_,_,_,_,rfl,rfl,_⟩
  .exact hv
  .trivial
 have aH:Holds (S.set B H id) B σ' H:=by
  refine⟨λb o v h=>?_,by rw[aa];exact c.len,λj r bo d aI=>?_,λi j ao ap b aJ aK aL hi O aq ar aM aN=>?_,λj r b N d ae K o=>?_⟩
  .unfold ο.set at h;split at h
   .split at h
    .cases au:H.μ b o with
     | none=>rw[au] at h;cases h
     | some x=>rw[au] at h;cases h;exact⟨x.2,rfl⟩
    .exact c.YO b o v h
   .exact c.YO b o v h
  .by_cases e:j=id
   .subst e;rw[F] at d;cases d;trivial
   .obtain⟨aO,Q,ad⟩:=back j r e d;have T:=c.row j aO bo Q aI;rcases ad with rfl|⟨t2,n,es,es',rfl,rfl,af,aP⟩
    .refine T.later M (λb N _=>⟨λ_=>rfl,rfl,rfl⟩) λav left a8 Φ=>?_;subst Φ;obtain⟨_,_,a9,a',xs,ba,seen,_,aw,⟨es,g⟩,_⟩:=T;refine⟨?_,rfl,λb N _=>⟨λ_=>rfl,rfl,rfl⟩⟩;have U:av≠id:=λe=>by subst e;rw[f] at g;cases g
     obtain⟨r',aQ,aR⟩:=ab av _ U g;rcases aR with rfl|⟨_,_,_,_,aS,_⟩
     .rw[aQ,g]
     .cases aS
    .cases bo with
     | none=>
      have:es=[]:=T;subst this;exact YR.1 af
     | some y=>
      obtain⟨b,N⟩:=y;obtain⟨u,A,C,w,D⟩:=T;refine⟨u,by rw[af];exact A,C,w,λi aT hi=>?_⟩;have s:i<es.length:=by rw[<-af];exact(ZB.1 hi).1
      obtain⟨aU,aV⟩:=D i _ (ζ s);obtain⟨d1,d2⟩:=aP i _ aT (ζ s) hi;refine⟨d1.trans aU,λx aW I=>?_⟩;have ax:x<(es[i]).cells.length:=by rw[<-d1];exact(ZB.1 I).1
      obtain⟨aw,g,aX⟩:=aV x _ (ζ ax);exact⟨aw,g.Ci c f M (d2 x _ aW (ζ ax) I),aX⟩
  .have ay:∀j r,σ'[j]?=some r->r.live->j≠id:=λj r h hv e=>by subst e;rw[F] at h;cases h;exact hv
   obtain⟨V,X,Y⟩:=back i ao (ay i ao hi aq) hi;obtain⟨an,aY,aZ⟩:=back j ap (ay j ap O ar) O;exact c.inj i j V an b aJ aK aL X aY (R Y aq) (R aZ ar) aM aN
  .have U:j≠id:=λe=>by subst e;rw[F] at d;cases d;exact ae
   obtain⟨V,X,Y⟩:=back j r U d;have az:=c.sep j V b N X (R Y ae) K o;unfold ο.set;split
   .rename_i a0 a1 ag;split
    .rename_i e;subst e;exact(c.inj j id V _ b N a1 U X f (R Y ae) trivial K ag).elim
    .exact az
   .exact az
 have a2:Ext S B H (S.set B H id) B H:=by
  refine⟨Cj c f,λ_ _ _=>Tf.of ⟨λ_=>rfl,rfl,rfl⟩,λ_ h=>.inl h,λb o v hv=>?_,λ_ h=>h⟩;unfold ο.set at hv;split at hv
  .rename_i a0 N ag;split at hv
   .rename_i e;subst e;exact .inr (.inl ⟨N,Zp ag⟩)
   .exact .inl hv
  .exact .inl hv
 have aA:XY m S B H σ (S.set B H id) B H σ':=⟨a2,M.left m⟩
 have a3:∀(l2:Ζ),(∀p∈l2,Rj id k l (Z' env p.1) p.2)->∀i,Α S B σ (Z' env i) (Z2.getD i undef)->Α (S.set B H id) B σ' (Z' l2 i) (Z2.getD i undef):=by
  intro l2
  induction l2 with
  | nil=>intro _ i _;exact .Zs _
  | cons p l2 a4=>
   intro aB i d;simp only[Z'];split
   .rename_i e;subst e;exact d.Ci c f M (aB p J)
   .exact a4 (λq a5=>aB q (by simp[a5])) i d
 refine aD aE mn x cs b _ _ H Z2 I K ⟨aH,λi=>a3 env' aC i (L.Zn i),L.size,by rw[aa];exact L.rows⟩ (λj ah ai aj ak al t2 am u A C D=>?_) (λa ah ai aj ak al t2 am v u A C D a6=>?_)
 .exact aF j ah ai aj ak al t2 am u (aA.trans A) C D
 .exact aG a ah ai aj ak al t2 am v u (aA.trans A) C D a6
end
end Go.TL
namespace Go.TL
open Go.IntWalk (i64_in)
open Go.IntKind (i64 u64)
open Go.Proofs.Tryz
open Go.Proofs
variable [ZV]
theorem th (d:Zo) (n:Nat):(Wc d n).1.Pairwise (· < ·)/\∀x∈(Wc d n).1,0<=x/\x<n:=by
 induction n with
 | zero=>exact⟨List.Pairwise.nil,λx h=>(by cases h)⟩
 | succ n e=>
  show((Wc d n).1++_).Pairwise _/\∀x∈(Wc d n).1++_,_;constructor
  .rw[NU];refine⟨e.1,by split<;>simp,λa g b f=>?_⟩;have:=e.2 a g;split at f
   .simp at f;omega
   .simp at f
  .intro x c;rcases VG.1 c with c|c
   .have:=e.2 x c;omega
   .split at c
    .simp at c;omega
    .simp at c
structure O3 (L:List (List Int)):Prop where
 lo:1<=L.length
 hi:L.length<=4
 each:∀l∈L,l.length<=3/\l.Pairwise (· < ·)/\∀x∈l,0<=x/\x<3
theorem tg {l:List Int} (b:l.Pairwise (· < ·)) (c:∀x∈l,0<=x/\x<3):RA l=0:=by
 refine Lt λx d=>?_;obtain⟨i,hi,rfl⟩:=Zc.1 d;have hi:=Wm.1 hi;unfold Td;rw[ζ hi];have e:=c _ (Y7 hi);simp only;rw[if_neg,if_neg]
 .rintro⟨f,a⟩;rw[ζ U] at a;have:=Tu.1 b (i-1) i U hi U;simp only[Option.getD_some] at a;omega
 .unfold Vi;simp;omega
theorem O3.err {L:List (List Int)} (h:O3 L):Wu L=0:=by
 unfold Wu;have d:=h.lo;have e:=h.hi;rw[if_neg U,if_neg U];refine Lt λx a=>?_;obtain⟨i,hi,rfl⟩:=Zc.1 a;have hi:=Wm.1 hi;rw[ζ hi];obtain⟨_,b,c⟩:=h.each _ (Y7 hi);exact tg b c
abbrev Z8:I:=.sl true 0 []
structure tf where
 k:Nat
 d:Zo
 L:List (List Int)
theorem R1 {L:List (List Int)}:∀e∈L.map (ν R 1),∀a∈e.cells,χ 0 a:=λe c a b=>by
 obtain⟨x,_,rfl⟩:=Zc.1 c;simp[I.cells] at b;subst b;simp[YN,I.cells]
theorem te (d:Zo) (hd:d.Z9.length<2 ^ 63) (N v:Nat) (az:1<=N) (aA:N<=6) (aT:v<=4) :
  Ξ prog 90 [.Ν 0 1 0 0,R N,R v] [ZK d] (λa s=>∃G L nc ah,Y3 a (.Z7 [ZI G,ZT L,Zg 4 (List.replicate nc Z8)])/\SB G/\O3 L/\(nc<=v/\G.length<=N/\L.length<=3)/\s=ZK ah::.dead::.dead::.dead::ZR 60 1 (List.replicate nc Z8)/\ah.Z9.length<=d.Z9.length) (λ_ _=>False):=by
 refine Ξ.body Ρ func90 rfl rfl ntmps90 rfl rfl J ?_
 repeat apply Ο
 refine Y4 (A:=[6]) Ρ λF m=>Z1 ?_;apply m
 repeat apply Ο
 refine Y4 (A:=[7]) Ρ λF m=>Z1 ?_;refine Rk.c (ti d hd N az aA) 0 rfl (ZO.refl _) J (by rintro r ⟨l,rfl,_⟩;exact YN.2 Tx) ?_;rintro r d1 ⟨G,rfl,aB,aC⟩ aD;simp;(repeat (rw[Μ];simp));apply m;have aE:d1.Z9.length<2 ^ 63:=U;obtain⟨aF,aG⟩:=MO d1 (a:=1) (b:=3) Z3 Z3 Z3;obtain⟨S,ai⟩:∃n:Nat,S9 d1 1 3=n:=⟨(S9 d1 1 3).toNat,U⟩;rw[ai] at aF aG;obtain⟨d2,aj⟩:=Zt (d1.after (i64.wrap (3-1)));have aH:d2.Z9.length<=d.Z9.length:=by rw[<-aj];exact Ya (Ws _ _) aD
 have O:=MR d1 aE 1 3;rw[ai,aj] at O;refine ZU λF m=>?_;refine YT.g (O) (Z1 ?_);apply m;have Z:∀L:List (List Int),(Zg 3 (L.map (ν R 1))=.sl true 0 []/\ZR 29 1 (L.map (ν R 1))=[]/\L=[])\/(Zg 3 (L.map (ν R 1))=.ms 3 L.length 0 L.length/\ZR 29 1 (L.map (ν R 1))=[.cells 29 1 (L.map (ν R 1))]/\0<L.length):=λL=>by
  by_cases t:L=[]
  .subst t;exact .inl ⟨rfl,rfl,rfl⟩
  .have ak:L.map (ν R 1)≠[]:=by simpa using t
   exact .inr ⟨by rw[Xq ak,Yh],Yq ak,Qy.2 t⟩
 repeat apply Ο
 refine W.iter (λx:tf=>x.L.length+x.k=S/\x.d.Z9.length<=d.Z9.length/\∀l∈x.L,l.length<=3/\l.Pairwise (· < ·)/\∀y∈l,0<=y/\y<3)
  (λx=>[(0,.Ν 0 1 0 0),(2,R v),(6,.Ν 1 1 0 0),(7,.Ν 2 1 0 0),(8,R x.k)])
  (λx=>ZK x.d::YV Z8 Z8 Z8::YV (ZI G) (Zg 3 (x.L.map (ν R 1))) Z8::ZR 29 1 (x.L.map (ν R 1))) (λx=>x.k) ⟨S,d2,[]⟩ ⟨J,aH,J⟩ rfl J (λx w B=>?_)
 obtain⟨k,o,L⟩:=x;obtain⟨aI,al,aa⟩:=w;simp only at aI al aa B ⊢;refine Χ ?_;refine W.YM rfl (λD=>?_) (λD=>?_)
 .have T:0<k:=by simpa using D
  obtain⟨j,H⟩:∃j,k=j+1:=⟨k-1,U⟩;have P:i64.wrap ((k:Int)-1)=j:=by rw[i64_in _ U];omega
  have hi:=tL o U
  have ab:=th o 3
  have am:=Cv o 3
  have aJ:=Cw o 3;obtain⟨l,an⟩:=Zt ((Wc o 3).1);obtain⟨ad,ao⟩:=Zt ((Wc o 3).2);rw[an,ao] at hi;rw[an] at ab am;rw[ao] at aJ;have ap:(L++[l]).length+j=S/\ad.Z9.length<=d.Z9.length/\∀x∈L++[l],x.length<=3/\x.Pairwise (· < ·)/\∀y∈x,0<=y/\y<3:=by
   refine⟨by simp;omega,U,λx w=>?_⟩;rcases VG.1 w with w|w
   .exact aa x w
   .simp at w;subst w;exact⟨am,ab.1,ab.2⟩
  have aq:(L++[l]).map (ν R 1)≠[]:=J
  repeat apply Ο
  rcases Z L with⟨u,Φ,Q⟩|⟨u,Φ,Q⟩
  .rw[u,Φ];refine W.GN (A:=[25]) Ρ mixed λF m=>?_;simp;(repeat (rw[UU];simp));(try rw[UW]);refine YT.h (hi) (QC ?_);refine⟨Yw (by kernel_rfl),Yw (by kernel_rfl),m _ _ ?_⟩;refine Ι P ?_;subst Q;refine W.to (B ⟨j,ad,[]++[l]⟩ ap (by show j<k;omega)) ?_ ?_
   .have e:Zg 3 (([]++[l]).map (ν R 1))=.ms 3 1 0 1:=rfl
    have V:ZR 29 1 (([]++[l]).map (ν R 1))=[.cells 29 1 [ν R 1 l]]:=rfl;simp only[e,V]
   .simp
  .rw[u,Φ];refine W.GN (A:=[25]) Ρ mixed λF m=>?_;simp;(repeat (rw[UU];simp));(try rw[UW]);refine YT.h (hi) (QC ?_);refine⟨U,?_⟩;refine⟨Yw (by kernel_rfl),Yw (by kernel_rfl),m _ _ ?_⟩;refine Ι P ?_;refine W.to (B ⟨j,ad,L++[l]⟩ ap (by show j<k;omega)) ?_ ?_
   .have e:Zg 3 ((L++[l]).map (ν R 1))=.ms 3 (L.length+1) 0 (L.length+1):=by rw[Xq aq,Yh,VU];rfl
    have V:ZR 29 1 ((L++[l]).map (ν R 1))=[.cells 29 1 (L.map (ν R 1)++[ν R 1 l])]:=by rw[Yq aq,XR];rfl
    simp only[e,V]
   .simp
 .have T:k=0:=by simp at D;omega
  subst T;have aK:L.length=S:=U;have aL:O3 L:=⟨U,U,aa⟩;rcases Z L with⟨u,Φ,Q⟩|⟨u,Φ,Q⟩
  .subst Q;simp at aK;omega
  refine W.to (env':=[(0,.Ν 0 1 0 0),(2,R v),(6,.Ν 1 1 0 0),(7,.Ν 2 1 0 0)]) (σ':=[ZK o,YV Z8 Z8 Z8,YV (ZI G) (.ms 3 L.length 0 L.length) Z8,.cells 29 1 (L.map (ν R 1))]) ?_ (by rw[u,Φ]) J;clear B D Z u Φ;refine W.exit rfl ?_;have aM:o.Z9.length<2 ^ 63:=U;obtain⟨aN,aO⟩:=MO o (a:=0) (b:=v) U Z3 U;obtain⟨nc,ar⟩:∃n:Nat,S9 o 0 v=n:=⟨(S9 o 0 v).toNat,U⟩;rw[ar] at aN aO;obtain⟨d3,au⟩:=Zt (o.after (i64.wrap ((v:Int)-0)));have aP:d3.Z9.length<=d.Z9.length:=by rw[<-au];exact Ya (Ws _ _) al
  have O:=MR o aM 0 v;rw[ar,au] at O;refine ZU λF m=>?_;refine YT.g (O) (Z1 ?_);apply m
  repeat apply Ο
  refine W.iter (λx:Nat×Nat=>x.1+x.2=nc)
   (λx=>[(0,.Ν 0 1 0 0),(6,.Ν 1 1 0 0),(7,.Ν 2 1 0 0),(9,R x.1)])
   (λx=>ZK d3::YV Z8 Z8 Z8::YV (ZI G) (.ms 3 L.length 0 L.length) (Zg 4 (List.replicate x.2 Z8))::.cells 29 1 (L.map (ν R 1))::ZR 60 1 (List.replicate x.2 Z8)) (λx=>x.1) (nc,0) J rfl J (λx w B=>?_)
  obtain⟨k,c⟩:=x;simp only at w B ⊢;refine Χ ?_;refine W.YM rfl (λD=>?_) (λD=>?_)
  .have T:0<k:=by simpa using D
   obtain⟨j,H⟩:∃j,k=j+1:=⟨k-1,U⟩;have P:i64.wrap ((k:Int)-1)=j:=by rw[i64_in _ U];omega
   have av:Zg 4 (List.replicate (c+1) Z8)=.ms 4 (c+1) 0 (c+1):=by rw[Xq J,PG]
   have aw:ZR 60 1 (List.replicate (c+1) Z8)=[.cells 60 1 (List.replicate c Z8++[Z8])]:=by rw[Yq J,List.replicate_succ']
   repeat apply Ο
   by_cases t:c=0
   .subst t;have ae:Zg 4 (List.replicate 0 Z8)=Z8:=rfl;have af:ZR 60 1 (List.replicate 0 Z8)=[]:=rfl;rw[ae,af];refine Y4 (A:=[37]) Ρ λF m=>Z1 ?_;apply m;refine Ι P ?_;refine W.to (B (j,1) (by show j+1=nc;omega) (by show j<k;omega)) ?_ ?_
    .simp only[av,aw];rfl
    .simp
   .have ae:Zg 4 (List.replicate c Z8)=.ms 4 c 0 c:=by rw[Xq (by simp[t]),PG]
    have af:ZR 60 1 (List.replicate c Z8)=[.cells 60 1 (List.replicate c Z8)]:=Yq (by simp[t]);rw[ae,af];refine Y4 (A:=[37]) Ρ λF m=>Z1 ?_;refine⟨U,?_⟩;apply m;refine Ι P ?_;refine W.to (B (j,c+1) (by show j+(c+1)=nc;omega) (by show j<k;omega)) ?_ ?_
    .simp only[av,aw]
    .simp
  .have T:k=0:=by simp at D;omega
   have aQ:c=nc:=U;subst aQ;refine W.exit rfl ?_;obtain⟨C,X⟩:=ψ (Zg 4 (List.replicate c Z8));obtain⟨RC,Y⟩:=ψ (ZR 60 1 (List.replicate c Z8));rw[<-X,<-Y];have aR:(C=Z8/\RC=[])\/(C=.ms 4 c 0 c/\RC=[.cells 60 1 (List.replicate c Z8)]):=by
    by_cases t:c=0
    .subst t;exact .inl ⟨X,Y⟩
    .exact .inr ⟨by rw[X,Xq (by simp[t]),PG],by rw[Y,Yq (by simp[t])]⟩
   repeat apply Ο
   refine W.Xk (A:=[]) Ρ [(6,.Ν 1 1 0 0)] (ZK d3::YV (ZI G) (.ms 3 L.length 0 L.length) C::YV (ZI G) (.ms 3 L.length 0 L.length) C::.cells 29 1 (L.map (ν R 1))::RC) ?_ (by
    rcases aR with⟨u,Φ⟩|⟨u,Φ⟩
    .rw[u,Φ];(try simp);(repeat (rw[Μ];simp));(try simp)
    .rw[u,Φ];(try simp);(repeat (rw[Μ];simp));(try simp))
   have aS:Rj 3 1 (L.map (ν R 1)) (.ms 3 L.length 0 L.length) (ZT L):=by
    have:=Rj.ms (id:=3) (k:=1) (l:=L.map (ν R 1))
    rwa [Yh] at this
   have ax:Ls 3 1 (L.map (ν R 1)) (YV (ZI G) (.ms 3 L.length 0 L.length) C) (YV (ZI G) (ZT L) C):=by
    refine .inr ⟨26,3,_,_,rfl,rfl,rfl,λi e V ag ay=>?_⟩
    match i with
    | 0=>
     simp at ag ay;subst ag;subst ay;refine⟨rfl,λx a aU K M=>?_⟩
     match x with
     | 0=>simp[I.cells] at K M;subst K;subst M;exact .same _
     | 1=>simp[I.cells] at K M;subst K;subst M;exact aS
     | 2=>simp[I.cells] at K M;subst K;subst M;exact .same _
     | x+3=>simp[I.cells] at K
    | i+1=>simp at ag
   refine W.PJ (σ':=ZK d3::YV (ZI G) (ZT L) C::YV (ZI G) (ZT L) C::.dead::RC) (id:=3) J rfl rfl rfl (λj r H f=>?_) [(6,.Ν 1 1 0 0)] (λp E=>by simp at E;subst E;exact .same _) ?_
   .match j,H,f with
    | 0,_,f=>simp at f;subst f;exact⟨_,rfl,.inl rfl⟩
    | 1,_,f=>simp at f;subst f;exact⟨_,rfl,ax⟩
    | 2,_,f=>simp at f;subst f;exact⟨_,rfl,ax⟩
    | 3,h,_=>exact absurd rfl h
    | j+4,_,f=>exact⟨r,f,.inl rfl⟩
   refine W.PJ (σ':=ZK d3::YV (ZI G) (ZT L) C::.dead::.dead::RC) (id:=2) J rfl rfl rfl (λj r H f=>?_) [(6,.Ν 1 1 0 0)] (λp E=>by simp at E;subst E;exact .same _) ?_
   .match j,H,f with
    | 0,_,f=>exact⟨r,f,.inl rfl⟩
    | 1,_,f=>exact⟨r,f,.inl rfl⟩
    | 2,h,_=>exact absurd rfl h
    | j+3,_,f=>exact⟨r,f,.inl rfl⟩
   refine W.PJ (σ':=ZK d3::.dead::.dead::.dead::RC) (id:=1) J rfl rfl rfl (λj r H f=>?_) [(6,.π [ZI G,ZT L,C])] (λp E=>by simp at E;subst E;exact .Ν (e:=.Z7 [ZI G,ZT L,C]) rfl) ?_
   .match j,H,f with
    | 0,_,f=>exact⟨r,f,.inl rfl⟩
    | 1,h,_=>exact absurd rfl h
    | j+2,_,f=>exact⟨r,f,.inl rfl⟩
   refine W.ret ⟨_,rfl,?_⟩;refine⟨G,L,c,d3,?_,aB,aL,⟨U,aC,U⟩,by rw[Y],aP⟩;rw[<-X];exact .refl _
theorem tc:∀a<64,∀b<64,0<=X8 .i64 (a:Nat) (b:Nat)/\X8 .i64 (a:Nat) (b:Nat)<=63/\0<=UM .i64 (a:Nat) (b:Nat)/\UM .i64 (a:Nat) (b:Nat)<=63/\X8 .i64 (b:Nat) (UM .i64 (a:Nat) (b:Nat))=0:=by decide +kernel
theorem MM {a b:Int} (h:0<=a/\a<=63) (i:0<=b/\b<=63):(0<=X8 .i64 a b/\X8 .i64 a b<=63)/\(0<=UM .i64 a b/\UM .i64 a b<=63)/\X8 .i64 b (UM .i64 a b)=0:=by
 obtain⟨x,rfl⟩:∃x:Nat,a=x:=⟨a.toNat,U⟩;obtain⟨y,rfl⟩:∃y:Nat,b=y:=⟨b.toNat,U⟩;obtain⟨c,d,e,f,g⟩:=tc x U y U;exact⟨⟨c,d⟩,⟨e,f⟩,g⟩
structure QB (n:Nat) (c:List Y9):Prop where
 hi:c.length<=4
 apart:(c.map (·.Zd)).Nodup
 each:∀p∈c,(0<=p.Zd/\p.Zd<n)/\(0<=p.seen/\p.seen<=63)/\(0<=p.bare/\p.bare<=63)/\U3 p.seen p.bare=0
structure Yd (s:Δ):Prop where
 ς:SB s.ς
 Β:O3 s.Β
 many:s.cells.length<=4
 cells:∀c∈s.cells,QB s.Β.length c
theorem QB.err {s:Δ} {c:List Y9} (h:QB s.Β.length c):VK s c=0:=by
 unfold VK;have:=h.hi;rw[if_neg U];refine Lt λx b=>?_;obtain⟨i,hi,rfl⟩:=Zc.1 b;have hi:=Wm.1 hi;rw[ζ hi];obtain⟨g,k,l,d⟩:=h.each _ (Y7 hi);simp only;unfold XX;rw[if_neg U,if_neg,if_neg (by unfold valid;simp;omega),if_pos d];intro e;obtain⟨y,f,a⟩:=OS.1 e;obtain⟨j,m,rfl⟩:=NZ.1 f;have hd:=Tu.1 h.apart j i (by simp;omega) (by simpa using hi) U;simp at a hd;exact hd a
theorem Yd.err {s:Δ} (h:Yd s):s.err=0:=by
 unfold Δ.err;rw[h.ς.err,h.Β.err,if_neg J,if_neg J];unfold TK;have:=h.many;rw[if_neg U];refine Lt λx a=>?_;obtain⟨i,hi,rfl⟩:=Zc.1 a;have hi:=Wm.1 hi;rw[ζ hi];exact(h.cells _ (Y7 hi)).err
theorem Yd.small {s:Δ} (h:Yd s):s.small:=by
 have b:=h.ς.hi
 have c:=h.Β.hi
 have d:=h.many;refine⟨U,U,U,λx a=>?_,λx a=>?_⟩
 .have:=(h.Β.each x a).1;omega
 .have:=(h.cells x a).hi;omega
theorem Ch (d:Zo) (hd:d.Z9.length<2 ^ 63) (g k:Nat) (o:1<=g) (p:g<=6) (t:k<=4) {σ:Τ} {K E:I->Τ->Prop} (u:σ[0]?=some (ZK d))
  (v:∀G L nc b,SB G->O3 L->nc<=k/\G.length<=g/\L.length<=3->b.Z9.length<=d.Z9.length->K (.Z7 [ZI G,ZT L,Zg (σ.length+3) (List.replicate nc Z8)]) (σ.set 0 (ZK b)++(.dead::.dead::.dead::ZR 60 1 (List.replicate nc Z8)))) :
  WO prog (.fn (.func 90) [] []) [.Ν 0 1 0 0,R g,R k] σ K E:=by
 have w:∀nc,∀r∈ZR 60 1 (List.replicate nc Z8),LW r:=λnc r c=>by
  unfold ZR at c;split at c
  .cases c
  .simp at c;subst c;refine .inl λe x a f=>?_;have:=IF x;subst this;simp[I.cells] at f;subst f;simp[YN]
 have m:=Ξ.TP (te d hd g k o p t) (ZO.refl _) (K':=λa s=>∃G L nc b,a=.Z7 [ZI G,ZT L,Zg 4 (List.replicate nc Z8)]/\SB G/\O3 L/\(nc<=k/\G.length<=g/\L.length<=3)/\s=ZK b::.dead::.dead::.dead::ZR 60 1 (List.replicate nc Z8)/\b.Z9.length<=d.Z9.length) (λa s ⟨G,L,nc,b,m,y⟩=>⟨_,m,G,L,nc,b,rfl,y⟩)
 have A:=Ξ.EG (σ:=σ) m [0] J rfl (λj i n=>by
  cases j with
  | zero=>simp at n;subst n;exact u
  | succ j=>simp at n) (λr c=>by simp at c;subst c;exact R3 d) (by
   intro a f;simp at f;rcases f with rfl|rfl|rfl
   .exact Nat.zero_lt_one
   .exact(χ.z _).VL 1
   .exact(χ.z _).VL 1) (K':=K) (E':=E) (λa s=>by
   rintro⟨G,L,nc,b,rfl,B,C,D,rfl,F⟩;refine⟨λr c=>?_,?_,?_⟩
   .simp only[Zf] at c;rcases c with rfl|rfl|rfl|rfl|c
    .exact .inl (R3 b)
    .exact .inr rfl
    .exact .inr rfl
    .exact .inr rfl
    .exact w nc r c
   .intro a f;simp only[Zf,Yk,or_false] at f;rcases f with rfl|rfl|rfl
    .exact χ.top (YN.2 Tx) _
    .exact χ.top (YN.2 R1) _
    .unfold Zg ZR;split
     .exact χ.top J _
     .show 4<_;simp
   .have H:P4 σ [0] (ZK b::.dead::.dead::.dead::ZR 60 1 (List.replicate nc Z8))=σ.set 0 (ZK b)++(.dead::.dead::.dead::ZR 60 1 (List.replicate nc Z8)):=by
     simp[P4,VN]
    have Φ:Ym (names [0] σ.length (ZK b::.dead::.dead::.dead::ZR 60 1 (List.replicate nc Z8))) (.Z7 [ZI G,ZT L,Zg 4 (List.replicate nc Z8)])=.Z7 [ZI G,ZT L,Zg (σ.length+3) (List.replicate nc Z8)]:=by
     by_cases l:nc=0
     .subst l;rfl
     .rw[Xq (by simp[l]),Xq (by simp[l]),Yq (by simp[l])];show I.Z7 [_,_,_]=_;simp[Wg,names,Vp]
    rw[H,Φ];exact v G L nc b B C D F) (λa s h=>h.elim)
 exact Ξ.call (first:=[]) (captured:=[]) (by simpa[SH,Ym,Wg] using A)
section
variable {P:Program} {m nt:Nat} {k:List Item} {env:Ζ} {σ:Τ} {Z:X9} {E:Yn}
theorem W.bind {n:X9} (h:W P m nt k env σ n E) (w:∀j e s,n j e s->W P m nt j e s Z E):W P m nt k env σ Z E:=
 λo mn x cs b S B H t p r y A u=>h o mn x cs b S B H t p r y
  (λj e s C B' H' t' M D v F I=>by
   cases I;exact w j e s D o mn x cs b C B' H' t' p r F (λJ Φ a c d f t2 g i l=>A J Φ a c d f t2 g i (v.trans l)) (λl Φ a c d f t2 g K i L=>u l Φ a c d f t2 g K i (v.trans L)))
  u
theorem W.upto {a:Item} (env':Ζ) (σ':Τ) (b:W P m nt (a::k) env σ (λj e s=>j=k/\s=σ'/\∀p∈env',Z' e p.1=p.2) E) (c:W P m nt k env' σ' Z E):W P m nt (a::k) env σ Z E:=
 .bind b λj e s ⟨d,f,g⟩=>by
  subst d;subst f;exact .forget env' g c
theorem W.Cg {a:Item} {l:Nat} (env':Ζ) (σ':Τ) (b:W P m nt (a::.inBlock l::k) env σ (λj e s=>j=k/\s=σ'/\∀p∈env',Z' e p.1=p.2) E) (c:W P m nt k env' σ' Z E):W P m nt (a::.inBlock l::k) env σ Z E:=
 .bind b λj e s ⟨d,f,g⟩=>by
  subst d;subst f;exact .forget env' g c
end
section
variable {α:Type} [Inhabited α]
theorem Lr (enc:α->I) (d:Array α) {i:Nat} (h:i<d.size):(d.toList.map enc)[i]?=some (enc d[i]!):=by
 rw[Yl,Wn,P1 h];rfl
theorem PI (enc:α->I) {d:Array α} {n:Nat} (b:d.size=n) {i j:Nat} (hi:i<n) (a:j<n):∃(L:ξ) (x y:α),d.toList.map enc=L/\d[i]! = x/\d[j]! = y/\L.length=n/\(L[i]?=some (enc x)/\∀h,L[i]'h=enc x)/\(L[j]?=some (enc y)/\∀h,L[j]'h=enc y)/\(Go.Sort.swp d i j).toList.map enc=(L.set i (enc y)).set j (enc x)/\∃z,∀h,(L.set i (enc y))[j]'h=enc z:=by
 subst b;refine⟨_,_,_,rfl,rfl,rfl,J,⟨Lr enc d hi,λh=>?_⟩,⟨Lr enc d a,λh=>?_⟩,by simp[Go.Sort.swp],if i=j then d[j]! else d[j]!,λh=>?_⟩
 .have:=Lr enc d hi;rw[ζ h] at this;exact W4 this
 .have:=Lr enc d a;rw[ζ h] at this;exact W4 this
 .rw[List.getElem_set,ite_self];split
  .rfl
  .have:=Lr enc d a;rw[ζ (by simpa using h)] at this;exact W4 this
theorem W.two {P:Program} {m nt:Nat} {k:List Item} {env:Ζ} {Z:X9} {E:Yn} (enc:α->I) {d:Array α} {n:Nat} (c:d.size=n) {i j:Nat} (hi:i<n) (a:j<n) {t:TypeId} {kk:Nat}
  (h:∀(L:ξ) (x y z:α),d[i]! = x->d[j]! = y->(L.length=n/\(L[i]?=some (enc x)/\∀h,L[i]'h=enc x)/\(L[j]?=some (enc y)/\∀h,L[j]'h=enc y)/\(∀h,(L.set i (enc y))[j]'h=enc z)/\i<n/\j<n)->d.toList.map enc=L->(Go.Sort.swp d i j).toList.map enc=(L.set i (enc y)).set j (enc x)->W P m nt k env [.cells t kk L] Z E):W P m nt k env [.cells t kk (d.toList.map enc)] Z E:=by
 obtain⟨L,x,y,b,e,f,g,l,o,p,z,r⟩:=PI enc c hi a;rw[b];exact h L x y z e f ⟨g,l,o,r,hi,a⟩ b p
theorem GC {p:α->Bool} {d:Array α} {b i a:Nat} (h:Go.Sort.scanUp p d b i=a) (c:i<=b) (e:p d[i]! = true):Go.Sort.scanUp p d b (i+1)=a:=by
 rw[Go.Sort.scanUp] at h;simpa[c,e] using h
theorem GB {p:α->Bool} {d:Array α} {b i a:Nat} (h:Go.Sort.scanUp p d b i=a) (c:i<=b) (e:p d[i]! = false):i=a:=by
 rw[Go.Sort.scanUp] at h;simpa[c,e] using h
theorem GA {p:α->Bool} {d:Array α} {b i a:Nat} (h:Go.Sort.scanUp p d b i=a) (c:¬i<=b):i=a:=by
 rw[Go.Sort.scanUp] at h;simpa[c] using h
theorem Gz {p:α->Bool} {d:Array α} {b i a:Nat} (h:Go.Sort.scanDown p d b i=a) (c:b<=i) (f:0<i) (e:p d[i]! = true):Go.Sort.scanDown p d b (i-1)=a:=by
 obtain⟨q,rfl⟩:∃q,i=q+1:=⟨i-1,U⟩;rw[Go.Sort.scanDown] at h;simpa[c,e] using h
theorem Gy {p:α->Bool} {d:Array α} {b i a:Nat} (h:Go.Sort.scanDown p d b i=a) (c:b<=i) (f:0<i) (e:p d[i]! = false):i=a:=by
 obtain⟨q,rfl⟩:∃q,i=q+1:=⟨i-1,U⟩;rw[Go.Sort.scanDown] at h;simpa[c,e] using h
theorem W.back {P:Program} {m nt:Nat} {k:List Item} {env:Ζ} {Z:X9} {E:Yn} {enc:α->I} {d:Array α} {L:ξ} {t:TypeId} {kk:Nat} (h:d.toList.map enc=L) (env':Ζ) (a:∀p∈env',Z' env p.1=p.2)
  (b:W P m nt k env' [.cells t kk (d.toList.map enc)] Z E):W P m nt k env [.cells t kk L] Z E:=h▸W.forget env' a b
theorem W.ta {P:Program} {m nt:Nat} {k:List Item} {env:Ζ} {Z:X9} {E:Yn} {enc:α->I} {d:Array α} {t:TypeId} {kk:Nat} {a:Item} (env':Ζ) (b:Array α)
  (c:W P m nt (a::k) env [.cells t kk (d.toList.map enc)] (λj e s=>j=k/\s=[.cells t kk (b.toList.map enc)]/\∀p∈env',Z' e p.1=p.2) E) (f:W P m nt k env' [.cells t kk (b.toList.map enc)] Z E):W P m nt (a::k) env [.cells t kk (d.toList.map enc)] Z E:=W.upto env' _ c f
theorem W.N6 {P:Program} {m nt:Nat} {k:List Item} {env:Ζ} {Z:X9} {E:Yn} {enc:α->I} {d:Array α} {t:TypeId} {kk:Nat} {τ:Τ} {a:Item} (env':Ζ) (b:Array α) (c:Τ)
  (f:W P m nt (a::k) env (.cells t kk (d.toList.map enc)::τ) (λj e s=>j=k/\s=.cells t kk (b.toList.map enc)::c/\∀p∈env',Z' e p.1=p.2) E) (g:W P m nt k env' (.cells t kk (b.toList.map enc)::c) Z E):W P m nt (a::k) env (.cells t kk (d.toList.map enc)::τ) Z E:=W.upto env' _ f g
theorem W.s' {P:Program} {m nt:Nat} {k:List Item} {env:Ζ} {Z:X9} {E:Yn} {enc:α->I} {d:Array α} {t:TypeId} {kk:Nat} {τ:Τ} {a:Item} {l:Nat} (env':Ζ) (b:Array α) (c:Τ)
  (f:W P m nt (a::.inBlock l::k) env (.cells t kk (d.toList.map enc)::τ) (λj e s=>j=k/\s=.cells t kk (b.toList.map enc)::c/\∀p∈env',Z' e p.1=p.2) E) (g:W P m nt k env' (.cells t kk (b.toList.map enc)::c) Z E):W P m nt (a::.inBlock l::k) env (.cells t kk (d.toList.map enc)::τ) Z E:=W.Cg env' _ f g
theorem W.IU {P:Program} {m nt:Nat} {k:List Item} {env:Ζ} {Z:X9} {E:Yn} {enc:α->I} {d:Array α} {L:ξ} {t:TypeId} {kk:Nat} (h:d.toList.map enc=L) (env':Ζ) (a:∀p∈env',Z' env p.1=p.2)
  (b:W P m nt k env' [.cells t kk L] Z E):W P m nt k env [.cells t kk (d.toList.map enc)] Z E:=h▸W.forget env' a b
theorem W.V0 {P:Program} {m nt:Nat} {k:List Item} {env:Ζ} {Z:X9} {E:Yn} {enc:α->I} {d:Array α} {t:TypeId} {kk:Nat} {a:Item} {l:Nat} (env':Ζ) (b:Array α)
  (c:W P m nt (a::.inBlock l::k) env [.cells t kk (d.toList.map enc)] (λj e s=>j=k/\s=[.cells t kk (b.toList.map enc)]/\∀p∈env',Z' e p.1=p.2) E) (f:W P m nt k env' [.cells t kk (b.toList.map enc)] Z E):W P m nt (a::.inBlock l::k) env [.cells t kk (d.toList.map enc)] Z E:=W.Cg env' _ c f
theorem swp_size {d:Array α} {n:Nat} (a:d.size=n) (i j:Nat):(Go.Sort.swp d i j).size=n:=by simp[Go.Sort.swp,a]
theorem Lq (p q:α->Bool) (r:∀x,q x = !p x) (d:Array α) {i j a b:Nat} (u:0<i) (f:i<=j+1) (s:Go.Sort.scanUp p d j i=a) (t:Go.Sort.scanDown q d a j=b):i<=a/\a<=j+1/\b<=j/\a<=b+1/\(a<=b->a<b):=by
 obtain⟨g,c,v,k⟩:=Go.Sort.scanUp_spec p d j _ i rfl;obtain⟨l,m,w,n⟩:=Go.Sort.scanDown_spec q d a j;rw[s] at g c k;rw[t] at l m n;refine⟨g,c f,l,m (c f),λh=>?_⟩;rcases OQ a b with o|o
 .exact o
 .have e:a=b:=U
  have f1:=k U
  have f2:=n h U;rw[r,<-e,f1] at f2;cases f2
theorem s9 (lt:α->α->Bool) {a b n:Nat}:∀(m i j:Nat) (g:Array α),j+1-i<=m->g.size=n->0<i->i<=j+1->j<b->(Go.Sort.partLoop lt a i j g).2.size=n/\(Go.Sort.partLoop lt a i j g).1<b:=by
 intro m
 induction m with
 | zero=>
  intro i j g s k l o t;rw[Go.Sort.partLoop_eq];obtain⟨c,e⟩:=Zt (Go.Sort.scanUp (λx=>lt x g[a]!) g j i);obtain⟨d,f⟩:=Zt (Go.Sort.scanDown (λx=>!lt x g[a]!) g c j);obtain⟨u,v,w,y,p⟩:=Lq (λx=>lt x g[a]!) (λx=>!lt x g[a]!) (λx=>rfl) g l o e f;rw[e,f,if_pos (by apply Va;intro h;have:=p U;omega)];exact⟨k,by show d<b;omega⟩
 | succ m A=>
  intro i j g s k l o t;rw[Go.Sort.partLoop_eq];obtain⟨c,e⟩:=Zt (Go.Sort.scanUp (λx=>lt x g[a]!) g j i);obtain⟨d,f⟩:=Zt (Go.Sort.scanDown (λx=>!lt x g[a]!) g c j);obtain⟨u,v,w,y,p⟩:=Lq (λx=>lt x g[a]!) (λx=>!lt x g[a]!) (λx=>rfl) g l o e f;rw[e,f];by_cases r:c > d
  .rw[if_pos r];exact⟨k,by show d<b;omega⟩
  .rw[if_neg r];have:=p U;exact A (c+1) (d-1) _ U (swp_size k c d) U U U
theorem s8 (lt:α->α->Bool) (hi first r:Nat) (e:Array α) {c k:Nat} (f:c=2*r+1) (h:c<hi) (a:k=if(decide (c+1<hi)&&lt e[first+c]! e[first+(c+1)]!)=true then c+1 else c) :
  Go.Sort.siftDown lt hi first r e=if(!lt e[first+r]! e[first+k]!)=true then e else Go.Sort.siftDown lt hi first k (Go.Sort.swp e (first+r) (first+k)):=by
 subst f;rw[Go.Sort.siftDown,dif_neg U];have d:first+(2*r+1)+1=first+(2*r+1+1):=U
 have Φ:2*r+2=2*r+1+1:=U;by_cases b:(decide (2*r+1+1<hi)&&lt e[first+(2*r+1)]! e[first+(2*r+1+1)]!)=true
 .rw[if_pos b] at a;subst a;rw[d,Φ,if_pos b];have g:2*r+1+1<hi:=by simp at b;exact b.1
  simp only[dif_pos g]
 .rw[if_neg b] at a;subst a;rw[d,if_neg b]
theorem Gx {lt:α->α->Bool} {hi first n:Nat}:∀{r:Nat} {e:Array α},e.size=n->(Go.Sort.siftDown lt hi first r e).size=n:=by
 have c:∀(m r:Nat) (e:Array α),hi-r<=m->e.size=n->(Go.Sort.siftDown lt hi first r e).size=n:=by
  intro m
  induction m with
  | zero=>
   intro r e d a;rw[Go.Sort.siftDown,dif_pos U];exact a
  | succ m b=>
   intro r e d a;rw[Go.Sort.siftDown];split
   .exact a
   .split
    .split
     .exact a
     .split
      .exact b _ _ U (swp_size a _ _)
      .exact a
    .split
     .exact a
     .exact b _ _ U (swp_size a _ _)
 intro r e a;exact c _ r e (Z5 _) a
theorem Cf {lt:α->α->Bool} {hi first n:Nat}:∀{k:Nat} {e:Array α},e.size=n->(Go.Sort.heapBuild lt hi first k e).size=n
 | 0,_,a=>a
 | k+1,e,a=>by
  show(Go.Sort.heapBuild lt hi first k (Go.Sort.siftDown lt hi first k e)).size=n;exact Cf (Gx a)
theorem ML (lt:α->α->Bool) (d:Array α) {a b n:Nat} (c:a<n) (e:b<n) (s:Nat):(Go.Sort.order2 lt d a b s).1<n/\(Go.Sort.order2 lt d a b s).2.1<n/\(Go.Sort.order2 lt d a b s).2.2<=s+1:=by
 unfold Go.Sort.order2;split
 .exact⟨e,c,Z5 _⟩
 .exact⟨c,e,Nat.le_succ _⟩
theorem s7 (p:α->Bool) (d:Array α) {i j:Nat} (h:j<i):Go.Sort.scanDown p d i j=j:=by
 cases j with
 | zero=>rfl
 | succ j=>rw[Go.Sort.scanDown,if_neg (by simp;omega)]
theorem Gw {p:α->Bool} {d:Array α} {b i a:Nat} (h:Go.Sort.scanDown p d b i=a) (c:¬b<=i):i=a:=by rw[<-h,s7 p d U]
end
structure s6 (c:Type) where
 a:Nat
 b:Nat
 lim:Nat
 wb:Bool
 wp:Bool
 e:Array c
def MK {b:Type} [Inhabited b] (a l m:Nat):Nat->Nat->UInt64×Array b->UInt64×Array b
 | 0,_,st=>st
 | k+1,idx,st=>MK a l m k (idx+1) (Go.Sort.breakStep a l m st idx)
theorem s5 {e:Type} [Inhabited e] {d:Array e} {a b l c:Nat} (f:l=b-a) (g:8<=l) (h:c=a+(l / 4)*2):Go.Sort.breakPatterns d a b=(MK a l (1 <<< Go.Sort.bitsLen l) 3 (c-1) (UInt64.ofNat l,d)).2:=by
 subst f;subst h;unfold Go.Sort.breakPatterns;simp only[ge_iff_le,g,if_true];rfl
abbrev SA (n:Int):I:=.z (.int .u64 n)
def MJ:Go.Sort.Hint->Int
 | .unknown=>0
 | .increasing=>1
 | .decreasing=>2
theorem Ce {b:Type} {enc:b->I} {t k:Nat} {d:Array b} {f:Row} (g:∀y,∀a∈(enc y).cells,χ 0 a) (id:Nat) (r:Row) (j:id<1) (c:[Row.cells t k (d.toList.map enc),f][id]?=some r):XZ 1 r:=by
 obtain rfl:id=0:=U;simp at c;subst c;intro e h a i;obtain⟨y,_,rfl⟩:=Zc.1 h;exact χ.mono (g y a i) (ω _)
theorem s4 {l m:Nat} (h:l<2 ^ 62):i64.wrap (Int.tdiv (l:Int) (m:Int))=((l / m:Nat):Int):=by
 rw[IG U];have a:l / m<=l:=Nat.div_le_self l m;have b:((l:Int) / (m:Int))=((l / m:Nat):Int):=rfl;rw[b];obtain⟨q,c⟩:=ψ (l / m);rw[<-c] at a ⊢;rw[i64_in _ U]
theorem IT {l m:Nat} (h:l<2 ^ 62):i64.wrap ((l:Int) / (m:Int))=((l / m:Nat):Int):=by
 have:=s4 (m:=m) h;rw[IG U] at this;exact this
theorem MI {x:Nat} (h:x<2 ^ 64):u64.wrap (x:Int)=(x:Int):=by
 unfold IntKind.wrap;simp[IntKind.bits,IntKind.signed];omega
theorem Gv {x y:Nat} (a:x<2 ^ 64) (b:y<2 ^ 64):Mf .u64 (x:Int) (y:Int)=((x^^^y:Nat):Int):=by
 have h:x^^^y<2 ^ 64:=Nat.xor_lt_two_pow a b
 have e:(BitVec.ofInt 64 (x:Int)^^^BitVec.ofInt 64 (y:Int)).toNat=x^^^y:=by
  rw[BitVec.toNat_xor,BitVec.ofInt_natCast,BitVec.ofInt_natCast,BitVec.toNat_ofNat,BitVec.toNat_ofNat,PC a,PC b]
 show u64.wrap (BitVec.ofInt 64 (x:Int)^^^BitVec.ofInt 64 (y:Int)).toNat=_;rw[e];exact MI h
theorem Gu (x k:Nat) (a:k<=64):u64.wrap ((x:Int)*2 ^ min k u64.bits)=((x*2 ^ k % 18446744073709551616:Nat):Int):=by
 have e:min k u64.bits=k:=Nat.min_eq_left a;rw[e];have Φ:(x:Int)*2 ^ k=((x*2 ^ k:Nat):Int):=J;rw[Φ];obtain⟨y,b⟩:=ψ (x*2 ^ k);rw[<-b];unfold IntKind.wrap;simp[IntKind.bits,IntKind.signed]
theorem s3 (x k:Nat) (a:k<=64):(x:Int).fdiv (2 ^ min k u64.bits)=((x / 2 ^ k:Nat):Int):=by
 have e:min k u64.bits=k:=Nat.min_eq_left a;rw[e,IH _ (Int.le_of_lt (Int.pow_pos Z3))];simp
theorem s0 {x y:Nat} (a:x<2 ^ 64) (b:y<2 ^ 64):X8 .u64 (x:Int) (y:Int)=((x&&&y:Nat):Int):=by
 have h:x&&&y<2 ^ 64:=OU Nat.and_le_left a
 have e:(BitVec.ofInt 64 (x:Int)&&&BitVec.ofInt 64 (y:Int)).toNat=x&&&y:=by
  rw[BitVec.toNat_and,BitVec.ofInt_natCast,BitVec.ofInt_natCast,BitVec.toNat_ofNat,BitVec.toNat_ofNat,PC a,PC b]
 show u64.wrap (BitVec.ofInt 64 (x:Int)&&&BitVec.ofInt 64 (y:Int)).toNat=_;rw[e];exact MI h
theorem Sz {i:Nat} (h:0<i) (a:i<2 ^ 62):i64.wrap ((i:Int)-1)=((i-1:Nat):Int):=by
 rw[i64_in _ U];omega
theorem XI {i:Nat} (a:i<2 ^ 61):i64.wrap ((i:Int)+1)=((i+1:Nat):Int):=by
 rw[i64_in _ U];omega
theorem Lp {a b:Nat} (h:a<=b) (c:b<2 ^ 62):i64.wrap ((b:Int)-a)=((b-a:Nat):Int):=by
 rw[i64_in _ U];omega
theorem sZ:∀a<64,∀b<64,(UM .i64 (a:Nat) (b:Nat)=0↔X8 .i64 (b:Nat) (a:Nat)=(a:Nat))/\0<=Q1 .i64 (a:Nat) (b:Nat)/\Q1 .i64 (a:Nat) (b:Nat)<=63:=by decide +kernel
theorem IS {a b:Int} (c:0<=a/\a<=63) (d:0<=b/\b<=63):(UM .i64 a b=0↔X8 .i64 b a=a)/\0<=Q1 .i64 a b/\Q1 .i64 a b<=63:=by
 obtain⟨x,rfl⟩:∃x:Nat,a=x:=⟨a.toNat,U⟩;obtain⟨y,rfl⟩:∃y:Nat,b=y:=⟨b.toNat,U⟩;exact sZ x U y U
theorem Gt {s:Δ} (h:Yd s) {g:Int}:0<=s.of g/\s.of g<=63:=by
 unfold Δ.of;split
 .omega
 .cases c:s.ς[g.toNat]? with
  | none=>simp
  | some x=>
   obtain⟨_,a,b⟩:=h.ς.each x (Zp c);simp;omega
theorem Gs {s:Δ} (h:Yd s) (p r:Int×Int) (n:Nat):0<=s.Y1 p r n/\s.Y1 p r n<=63:=by
 have a:∀g,0<=UJ 0 (s.of g)/\UJ 0 (s.of g)<=63:=λg=>(IS (a:=0) U (Gt h)).2
 have z:(0:Int)<=0/\(0:Int)<=63:=U;unfold Δ.Y1;simp only;split
 .split
  .exact(IS (a r.1) (Gt h)).2
  .exact(IS z (Gt h)).2
 .split
  .exact a r.1
  .exact z
def Δ.Gr (s:Δ) (p r:Int×Int) (x:Y9):Bool:=decide (U3 (s.Y1 p r x.Zd.toNat) x.seen=x.seen)&&decide (U3 (s.Y1 p r x.Zd.toNat) x.bare=0)
theorem sY {s:Δ} (h:Yd s) (p r:Int×Int) {c:List Y9} (a:c∈s.cells) {x:Y9} (b:x∈c):s.Gr p r x=s.V2 p r x:=by
 obtain⟨_,d,_,_⟩:=(h.cells c a).each x b;have:=(IS d (Gs h p r x.Zd.toNat)).1;unfold Δ.Gr Δ.V2;rw[OR];simp only[V9,decide_eq_true_eq,beq_iff_eq];rw[this]
abbrev Φ (r:Int×Int):I:=Yi [r.1,r.2]
theorem Gq {L:List (Int×Int)}:∀e∈L.map Φ,∀a∈e.cells,χ 0 a:=λe c a b=>by
 obtain⟨x,_,rfl⟩:=Zc.1 c;simp[I.cells] at b;subst b;simp
theorem Cd (q:Int×Int->Bool) (n i j:Nat):(WM q n i j).length<=i*(n+1)+j:=by
 have h:(V0 n i).length=i*(n+1):=by
  induction i with
  | zero=>simp[V0]
  | succ i a=>rw[Hz,VU,a,Nat.succ_mul];simp[Uc]
 unfold WM;refine Ya (Ld _ _) ?_;rw[VU,h];simp[Uc]
abbrev Gp (l:List (List (List Int))):I:=ν ZT 1 l
abbrev Sy (l:List (Int×Int)):List (List Int):=l.map λr=>[r.1,r.2]
structure Tw where
 t:TypeId
 k:Nat
 enc:Int×Int->I
 partition:FuncId
 partitionEqual:FuncId
 siftDown:FuncId
 heapSort:FuncId
 reverseRange:FuncId
 median:FuncId
 medianAdjacent:FuncId
 choosePivot:FuncId
 insertionSort:FuncId
 partialInsertionSort:FuncId
 breakPatterns:FuncId
 order2:FuncId
 sX:FuncId
abbrev WL:Tw:=⟨112,2,Zq,241,240,254,235,238,256,255,237,234,239,236,258,211⟩
abbrev Wr:Tw:=⟨29,1,Ud,190,189,225,184,187,229,228,186,183,188,185,252,149⟩
theorem sW [ZV] (S:Tw) (m:S=WL\/S=Wr) (d:Array (Int×Int)) (n a b:Nat) (f:d.size=n) (g:a<=b) (h:b<=n) (i:n<2 ^ 40) (c:I) (e:Int×Int->Int×Int->Int) (j:χ 0 c) (l:∀x y,XD prog c [S.enc x,S.enc y] (R (e x y))) :
  Ξ prog S.insertionSort [.ms 0 n 0 n,R a,R b,c] [.cells S.t S.k (d.toList.map S.enc)] (λr s=>r=.ZX []/\s=[.cells S.t S.k ((Go.Sort.insertionSort (Γ e) d a b).toList.map S.enc)]) (λ_ _=>False):=by
 rcases m with rfl|rfl
 .exact Ep d n a b f g h i c e j l
 .exact ym d n a b f g h i c e j l
theorem sV (S:Tw) (au:S=WL\/S=Wr) (d:Array (Int×Int)) (n a b p:Nat) (al:d.size=n) (az:n<2 ^ 40) (aA:a<=p) (aB:p<b) (aC:b<=n) (B:I) (o:Int×Int->Int×Int->Int) (aD:χ 0 B) (ae:∀x y,XD prog B [S.enc x,S.enc y] (R (o x y))) :
  Ξ prog S.partition [.ms 0 n 0 n,R a,R b,R p,B] [.cells S.t S.k ((d).toList.map S.enc)] (λr s=>r=.ZX [R (Go.Sort.partition (Γ o) d a b p).1,ε (Go.Sort.partition (Γ o) d a b p).2.1]/\s=[.cells S.t S.k (((Go.Sort.partition (Γ o) d a b p).2.2).toList.map S.enc)]) (λ_ _=>False):=by
 rcases au with rfl|rfl
 all_goals dsimp only[WL,Wr] at *
 refine Ξ.body Ρ func241 rfl rfl ntmps241 rfl rfl J ?_
 rotate_left
 refine Ξ.body Ρ func190 rfl rfl ntmps190 rfl rfl J ?_
 all_goals
  have av:=XI (i:=a) U
  have aw:=Sz (i:=b) U U
  repeat apply Ο
  refine WB ?_;refine W.two _ al (i:=a) (j:=p) U U λL x y z u v F w H=>?_
  repeat apply Ο
  refine W.draw (A:=[]) Ρ mixed λO D=>?_;simp;(repeat (rw[ZL];simp[F]));try rw[ZM];refine YG (D _ _ ?_)
  refine W.back H [(0,.ms 0 n 0 n),(1,R a),(2,R b),(3,R p),(4,B)] J ?_;clear F H w u v L x y z;obtain⟨e,ah⟩:=ψ (Go.Sort.swp d a p);have Y:e.size=n:=by rw[ah];exact swp_size al a p
  rw[<-ah]
  repeat apply Ο
  refine P3 (Υ av aw) ?_;refine W.to (σ':=[.cells _ _ ((e).toList.map _)]) (env':=[(0,.ms 0 n 0 n),(1,R a),(4,B),(12,R (a+1:Nat)),(13,R (b-1:Nat))]) ?_ rfl J;obtain⟨c,P⟩:=Zt (Go.Sort.scanUp (λx=>Γ o x e[a]!) e (b-1) (a+1));obtain⟨l,Q⟩:=Zt (Go.Sort.scanDown (λx=>!Γ o x e[a]!) e c (b-1));obtain⟨am,an,ao,ap,af⟩:=Lq (λx=>Γ o x e[a]!) (λx=>!Γ o x e[a]!) (λx=>rfl) e U U P Q;have K:Go.Sort.partition (Γ o) d a b p=if c > l then(l,true,Go.Sort.swp e l a) else((Go.Sort.partLoop (Γ o) a (c+1) (l-1) (Go.Sort.swp e c l)).1,false,Go.Sort.swp (Go.Sort.partLoop (Γ o) a (c+1) (l-1) (Go.Sort.swp e c l)).2 (Go.Sort.partLoop (Γ o) a (c+1) (l-1) (Go.Sort.swp e c l)).1 a):=by
   unfold Go.Sort.partition;simp only[<-ah,P,Q]
  repeat apply Ο
  repeat apply Ο
  refine W.V0 [(0,.ms 0 n 0 n),(1,R a),(4,B),(12,R (c:Nat)),(13,R (b-1:Nat))] e ?_ ?_
  .refine W.iter (λi:Nat=>(a+1)<=i/\i<=(b-1)+1/\Go.Sort.scanUp (λx=>Γ o x e[a]!) e (b-1) i=c) (λi=>[(0,.ms 0 n 0 n),(1,R a),(4,B),(12,R (i:Nat)),(13,R (b-1:Nat))]) (λ_=>[.cells _ _ ((e).toList.map _)]) (λi=>(b-1)+1-i) ((a+1)) ⟨Z5 _,U,P⟩ rfl J (λi hi N=>?_);obtain⟨Z,aa,E⟩:=hi;by_cases m:i<=(b-1)
   .refine W.two _ Y (i:=i) (j:=a) U U λL x y _ u v F w _=>?_;have M:=XI (i:=i) U
    repeat apply Ο
    refine W.draw (A:=[]) Ρ mixed λO D=>?_;simp;(repeat (rw[ZL];simp[m,F]));try rw[ZM]
    refine YD (ae x y) ?_;simp;(repeat (rw[ZL];simp));try rw[ZM]
    refine YG (D _ _ ?_);by_cases C:o x y<0
    .refine Ε (by simp[C]) ?_;refine Ι M ?_;exact W.to (N (i+1) ⟨U,U,GC E m (by simp[u,v,C,Γ])⟩ Yt) (by rw[w]) (by simp[M])
    .refine Η (by simp[C]) ?_;refine W.exit rfl ?_;exact W.stop ⟨rfl,by rw[w],by rw[<-GB E m (by simp[u,v,C,Γ])];simp⟩
   .repeat apply Ο
    refine W0 m ?_;refine Η rfl ?_;refine W.exit rfl ?_;exact W.stop ⟨rfl,rfl,by rw[<-GA E m];simp⟩
  repeat apply Ο
  refine W.V0 [(0,.ms 0 n 0 n),(1,R a),(4,B),(12,R (c:Nat)),(13,R (l:Nat))] e ?_ ?_
  .refine W.iter (λi:Nat=>i<=(b-1)/\c<=i+1/\Go.Sort.scanDown (λx=>!Γ o x e[a]!) e c i=l) (λi=>[(0,.ms 0 n 0 n),(1,R a),(4,B),(12,R (c:Nat)),(13,R (i:Nat))]) (λ_=>[.cells _ _ ((e).toList.map _)]) (λi=>i+1-c) ((b-1)) ⟨Z5 _,U,Q⟩ rfl J (λi hi N=>?_);obtain⟨Z,aa,E⟩:=hi;by_cases m:c<=i
   .refine W.two _ Y (i:=i) (j:=a) U U λL x y _ u v F w _=>?_;have M:=Sz (i:=i) U U
    repeat apply Ο
    refine W.draw (A:=[]) Ρ mixed λO D=>?_;simp;(repeat (rw[ZL];simp[m,F]));try rw[ZM]
    refine YD (ae x y) ?_;simp;(repeat (rw[ZL];simp));try rw[ZM]
    refine YG (D _ _ ?_);by_cases C:o x y<0
    .refine Η (by simp[C]) ?_;refine W.exit rfl ?_;exact W.stop ⟨rfl,by rw[w],by rw[<-Gy E m U (by simp[u,v,C,Γ])];simp⟩
    .refine Ε (by simp[C]) ?_;refine Ι M ?_;exact W.to (N (i-1) ⟨U,U,Gz E m U (by simp[u,v,C,Γ])⟩ Yt) (by rw[w]) (by simp[M])
   .repeat apply Ο
    refine W0 m ?_;refine Η rfl ?_;refine W.exit rfl ?_;exact W.stop ⟨rfl,rfl,by rw[<-Gw E m];simp⟩
  repeat apply Ο
  by_cases m:c > l
  .have T:((l:Nat):Int)<(c:Nat):=U
   refine Ι T ?_;refine Ε (by simp[m]) ?_;refine W.two _ Y (i:=l) (j:=a) U U λL x y z u v F w H=>?_
   repeat apply Ο
   refine W.draw (A:=[]) Ρ mixed λO D=>?_;simp;(repeat (rw[ZL];simp[F]));try rw[ZM];refine YG (D _ _ ?_)
   refine W.back H [(0,.ms 0 n 0 n),(1,R a),(4,B),(12,R (c:Nat)),(13,R (l:Nat))] J ?_;clear F H w u v L x y z;refine Χ ?_;exact W.ret ⟨_,rfl,by rw[K,if_pos m];rfl,by rw[K,if_pos m]⟩
  have T:¬((l:Nat):Int)<(c:Nat):=U
  have ax:=af U
  have V:=XI (i:=c) U
  have X:=Sz (i:=l) U U;refine Ι T ?_;refine Η (by simp[m]) ?_;refine W.two _ Y (i:=c) (j:=l) U U λL x y z u v F w H=>?_
  repeat apply Ο
  refine W.draw (A:=[]) Ρ mixed λO D=>?_;simp;(repeat (rw[ZL];simp[F]));try rw[ZM];refine YG (D _ _ ?_)
  refine W.back H [(0,.ms 0 n 0 n),(1,R a),(4,B),(12,R (c:Nat)),(13,R (l:Nat))] J ?_;clear F H w u v L x y z;have ai:=swp_size Y c l;rw[if_neg m] at K;obtain⟨g,aj⟩:=ψ (Go.Sort.swp e c l);rw[<-aj] at K ai;rw[<-aj];refine Ι (Υ V X) ?_;refine W.to (σ':=[.cells _ _ ((g).toList.map _)]) (env':=[(0,.ms 0 n 0 n),(1,R a),(4,B),(12,R (c+1:Nat)),(13,R (l-1:Nat))]) ?_ rfl (by simp[V,X]);have aE:a<c:=U;have aF:l<b:=U;have aG:c+1<=l-1+1:=U;clear P Q T m am an ao ap af aj V X;obtain⟨ag,ak⟩:=Zt (Go.Sort.partLoop (Γ o) a (c+1) (l-1) g)
  repeat apply Ο
  refine W.V0 [(0,.ms 0 n 0 n),(1,R a),(13,R ag.1)] ag.2 ?_ ?_
  .refine W.iter (λq:Nat×Nat×Array (Int×Int)=>q.2.2.size=n/\a<q.1/\q.1<=q.2.1+1/\q.2.1<b/\Go.Sort.partLoop (Γ o) a q.1 q.2.1 q.2.2=ag) (λq=>[(0,.ms 0 n 0 n),(1,R a),(4,B),(12,R (q.1:Nat)),(13,R (q.2.1:Nat))]) (λq=>[.cells _ _ ((q.2.2).toList.map _)]) (λq=>q.2.1+1-q.1) (c+1,l-1,g) ⟨ai,Yt,Yt,Yt,ak⟩ rfl J (λq hi N=>?_);obtain⟨i,j,f⟩:=q;obtain⟨ab,Z,aa,E,ad⟩:=hi;simp only at ab Z aa E ad;obtain⟨c,P⟩:=Zt (Go.Sort.scanUp (λx=>Γ o x f[a]!) f (j) (i));obtain⟨l,Q⟩:=Zt (Go.Sort.scanDown (λx=>!Γ o x f[a]!) f c (j));obtain⟨am,an,ao,ap,af⟩:=Lq (λx=>Γ o x f[a]!) (λx=>!Γ o x f[a]!) (λx=>rfl) f U U P Q;have K:Go.Sort.partLoop (Γ o) a i j f=if c > l then(l,f) else Go.Sort.partLoop (Γ o) a (c+1) (l-1) (Go.Sort.swp f c l):=by
    rw[Go.Sort.partLoop_eq];simp only[P,Q]
   refine W.to (σ':=[.cells _ _ ((f).toList.map _)]) (env':=[(0,.ms 0 n 0 n),(1,R a),(4,B),(12,R (i:Nat)),(13,R (j:Nat))]) ?_ rfl J;refine W.block ?_
   repeat apply Ο
   refine W.V0 [(0,.ms 0 n 0 n),(1,R a),(4,B),(12,R (c:Nat)),(13,R (j:Nat))] f ?_ ?_
   .refine W.iter (λi:Nat=>(i)<=i/\i<=(j)+1/\Go.Sort.scanUp (λx=>Γ o x f[a]!) f (j) i=c) (λi=>[(0,.ms 0 n 0 n),(1,R a),(4,B),(12,R (i:Nat)),(13,R (j:Nat))]) (λ_=>[.cells _ _ ((f).toList.map _)]) (λi=>(j)+1-i) ((i)) ⟨Z5 _,U,P⟩ rfl J (λi hi N=>?_);obtain⟨Z,aa,E⟩:=hi;by_cases m:i<=(j)
    .refine W.two _ ab (i:=i) (j:=a) U U λL x y _ u v F w _=>?_;have M:=XI (i:=i) U
     repeat apply Ο
     refine W.draw (A:=[]) Ρ mixed λO D=>?_;simp;(repeat (rw[ZL];simp[m,F]));try rw[ZM]
     refine YD (ae x y) ?_;simp;(repeat (rw[ZL];simp));try rw[ZM]
     refine YG (D _ _ ?_);by_cases C:o x y<0
     .refine Ε (by simp[C]) ?_;refine Ι M ?_;exact W.to (N (i+1) ⟨U,U,GC E m (by simp[u,v,C,Γ])⟩ Yt) (by rw[w]) (by simp[M])
     .refine Η (by simp[C]) ?_;refine W.exit rfl ?_;exact W.stop ⟨rfl,by rw[w],by rw[<-GB E m (by simp[u,v,C,Γ])];simp⟩
    .repeat apply Ο
     refine W0 m ?_;refine Η rfl ?_;refine W.exit rfl ?_;exact W.stop ⟨rfl,rfl,by rw[<-GA E m];simp⟩
   repeat apply Ο
   refine W.V0 [(0,.ms 0 n 0 n),(1,R a),(4,B),(12,R (c:Nat)),(13,R (l:Nat))] f ?_ ?_
   .refine W.iter (λi:Nat=>i<=(j)/\c<=i+1/\Go.Sort.scanDown (λx=>!Γ o x f[a]!) f c i=l) (λi=>[(0,.ms 0 n 0 n),(1,R a),(4,B),(12,R (c:Nat)),(13,R (i:Nat))]) (λ_=>[.cells _ _ ((f).toList.map _)]) (λi=>i+1-c) ((j)) ⟨Z5 _,U,Q⟩ rfl J (λi hi N=>?_);obtain⟨Z,aa,E⟩:=hi;by_cases m:c<=i
    .refine W.two _ ab (i:=i) (j:=a) U U λL x y _ u v F w _=>?_;have M:=Sz (i:=i) U U
     repeat apply Ο
     refine W.draw (A:=[]) Ρ mixed λO D=>?_;simp;(repeat (rw[ZL];simp[m,F]));try rw[ZM]
     refine YD (ae x y) ?_;simp;(repeat (rw[ZL];simp));try rw[ZM]
     refine YG (D _ _ ?_);by_cases C:o x y<0
     .refine Η (by simp[C]) ?_;refine W.exit rfl ?_;exact W.stop ⟨rfl,by rw[w],by rw[<-Gy E m U (by simp[u,v,C,Γ])];simp⟩
     .refine Ε (by simp[C]) ?_;refine Ι M ?_;exact W.to (N (i-1) ⟨U,U,Gz E m U (by simp[u,v,C,Γ])⟩ Yt) (by rw[w]) (by simp[M])
    .repeat apply Ο
     refine W0 m ?_;refine Η rfl ?_;refine W.exit rfl ?_;exact W.stop ⟨rfl,rfl,by rw[<-Gw E m];simp⟩
   repeat apply Ο
   by_cases m:c > l
   .have T:((l:Nat):Int)<(c:Nat):=U
    refine Ι T ?_;refine Ε (by simp[m]) ?_;refine W.exit rfl ?_;rw[K,if_pos m] at ad;exact W.stop ⟨rfl,by rw[<-ad],by rw[<-ad];simp⟩
   .have T:¬((l:Nat):Int)<(c:Nat):=U
    have ax:=af U
    have V:=XI (i:=c) U
    have X:=Sz (i:=l) U U;refine Ι T ?_;refine Η (by simp[m]) ?_;refine W.two _ ab (i:=c) (j:=l) U U λL x y z u v F w H=>?_
    repeat apply Ο
    refine W.draw (A:=[]) Ρ mixed λO D=>?_;simp;(repeat (rw[ZL];simp[F]));try rw[ZM];refine YG (D _ _ ?_)
    refine W.back H [(0,.ms 0 n 0 n),(1,R a),(4,B),(12,R (c:Nat)),(13,R (l:Nat))] J ?_;clear F H w u v L x y z;refine Ι (Υ V X) ?_;exact W.to (N (c+1,l-1,Go.Sort.swp f c l) ⟨swp_size ab c l,Yt,Yt,Yt,by simp;rw[<-ad,K,if_neg m]⟩ Yt) rfl (by simp[V,X])
  rw[ak] at K;have aq:=s9 (Γ o) (a:=a) (b:=b) _ (c+1) (l-1) g (Z5 _) ai U U U;rw[ak] at aq;obtain⟨ar,ay⟩:=aq;obtain⟨j,h⟩:=ag;simp only at ar ay K;refine W.two _ ar (i:=j) (j:=a) U U λL x y z u v F w H=>?_
  repeat apply Ο
  refine W.draw (A:=[]) Ρ mixed λO D=>?_;simp;(repeat (rw[ZL];simp[F]));try rw[ZM];refine YG (D _ _ ?_)
  refine W.back H [(0,.ms 0 n 0 n),(1,R a),(13,R (j:Nat))] J ?_;clear F H w u v L x y z;refine Χ ?_;exact W.ret ⟨_,rfl,by rw[K];rfl,by rw[K]⟩
theorem sU (S:Tw) (ag:S=WL\/S=Wr) (d:Array (Int×Int)) (n a b p:Nat) (aa:d.size=n) (al:n<2 ^ 40) (am:a<=p) (an:p<b) (ao:b<=n) (m:I) (g:Int×Int->Int×Int->Int) (ap:χ 0 m) (ab:∀x y,XD prog m [S.enc x,S.enc y] (R (g x y))) :
  Ξ prog S.partitionEqual [.ms 0 n 0 n,R a,R b,R p,m] [.cells S.t S.k ((d).toList.map S.enc)] (λr s=>r=R (Go.Sort.partitionEqual (Γ g) d a b p).1/\s=[.cells S.t S.k (((Go.Sort.partitionEqual (Γ g) d a b p).2).toList.map S.enc)]) (λ_ _=>False):=by
 rcases ag with rfl|rfl
 all_goals dsimp only[WL,Wr] at *
 refine Ξ.body Ρ func240 rfl rfl ntmps240 rfl rfl J ?_
 rotate_left
 refine Ξ.body Ρ func189 rfl rfl ntmps189 rfl rfl J ?_
 all_goals
  have ah:=XI (i:=a) U
  have ai:=Sz (i:=b) U U
  repeat apply Ο
  refine WB ?_;refine W.two _ aa (i:=a) (j:=p) U U λL x y z o u F v D=>?_
  repeat apply Ο
  refine W.draw (A:=[]) Ρ mixed λP C=>?_;simp;(repeat (rw[ZL];simp[F]));try rw[ZM];refine YG (C _ _ ?_)
  refine W.back D [(0,.ms 0 n 0 n),(1,R a),(2,R b),(3,R p),(4,m)] J ?_;clear F D v o u L x y z;obtain⟨e,Q⟩:=ψ (Go.Sort.swp d a p);have aj:e.size=n:=by rw[Q];exact swp_size aa a p
  rw[<-Q]
  repeat apply Ο
  refine P3 (Υ ah ai) ?_;refine W.to (σ':=[.cells _ _ ((e).toList.map _)]) (env':=[(0,.ms 0 n 0 n),(1,R a),(4,m),(11,R (a+1:Nat)),(12,R (b-1:Nat))]) ?_ rfl J;obtain⟨O,ad⟩:=Zt (Go.Sort.partEqLoop (Γ g) a (a+1) (b-1) e)
  repeat apply Ο
  refine W.V0 [(11,R O.1)] O.2 ?_ ?_
  .refine W.iter (λq:Nat×Nat×Array (Int×Int)=>q.2.2.size=n/\a<q.1/\q.1<=q.2.1+1/\q.2.1<b/\Go.Sort.partEqLoop (Γ g) a q.1 q.2.1 q.2.2=O) (λq=>[(0,.ms 0 n 0 n),(1,R a),(4,m),(11,R (q.1:Nat)),(12,R (q.2.1:Nat))]) (λq=>[.cells _ _ ((q.2.2).toList.map _)]) (λq=>q.2.1+1-q.1) (a+1,b-1,e) ⟨aj,Yt,Yt,Yt,ad⟩ rfl J (λq hi E=>?_);obtain⟨i,j,f⟩:=q;obtain⟨H,T,V,w,K⟩:=hi;simp only at H T V w K;obtain⟨c,X⟩:=Zt (Go.Sort.scanUp (λx=>!Γ g f[a]! x) f (j) (i));obtain⟨l,Y⟩:=Zt (Go.Sort.scanDown (λx=>Γ g f[a]! x) f c (j));obtain⟨aq,ar,au,av,ak⟩:=Lq (λx=>!Γ g f[a]! x) (λx=>Γ g f[a]! x) (λx=>J) f U U X Y;have M:Go.Sort.partEqLoop (Γ g) a i j f=if c > l then(c,f) else Go.Sort.partEqLoop (Γ g) a (c+1) (l-1) (Go.Sort.swp f c l):=by
    rw[Go.Sort.partEqLoop_eq];simp only[X,Y]
   refine W.to (σ':=[.cells _ _ ((f).toList.map _)]) (env':=[(0,.ms 0 n 0 n),(1,R a),(4,m),(11,R (i:Nat)),(12,R (j:Nat))]) ?_ rfl J;refine W.block ?_
   repeat apply Ο
   refine W.V0 [(0,.ms 0 n 0 n),(1,R a),(4,m),(11,R (c:Nat)),(12,R (j:Nat))] f ?_ ?_
   .refine W.iter (λi:Nat=>(i)<=i/\i<=(j)+1/\Go.Sort.scanUp (λx=>!Γ g f[a]! x) f (j) i=c) (λi=>[(0,.ms 0 n 0 n),(1,R a),(4,m),(11,R (i:Nat)),(12,R (j:Nat))]) (λ_=>[.cells _ _ ((f).toList.map _)]) (λi=>(j)+1-i) ((i)) ⟨Z5 _,U,X⟩ rfl J (λi hi E=>?_);obtain⟨T,V,w⟩:=hi;by_cases h:i<=(j)
    .refine W.two _ H (i:=i) (j:=a) U U λL x y _ o u F v _=>?_;have N:=XI (i:=i) U
     repeat apply Ο
     refine W.draw (A:=[]) Ρ mixed λP C=>?_;simp;(repeat (rw[ZL];simp[h,F]));try rw[ZM]
     refine YD (ab y x) ?_;simp;(repeat (rw[ZL];simp));try rw[ZM]
     refine YG (C _ _ ?_);by_cases B:g y x<0
     .refine Η (by simp[B]) ?_;refine W.exit rfl ?_;exact W.stop ⟨rfl,by rw[v],by rw[<-GB w h (by simp[o,u,B,Γ])];simp⟩
     .refine Ε (by simp[B]) ?_;refine Ι N ?_;exact W.to (E (i+1) ⟨U,U,GC w h (by simp[o,u,B,Γ])⟩ Yt) (by rw[v]) (by simp[N])
    .repeat apply Ο
     refine W0 h ?_;refine Η rfl ?_;refine W.exit rfl ?_;exact W.stop ⟨rfl,rfl,by rw[<-GA w h];simp⟩
   repeat apply Ο
   refine W.V0 [(0,.ms 0 n 0 n),(1,R a),(4,m),(11,R (c:Nat)),(12,R (l:Nat))] f ?_ ?_
   .refine W.iter (λi:Nat=>i<=(j)/\c<=i+1/\Go.Sort.scanDown (λx=>Γ g f[a]! x) f c i=l) (λi=>[(0,.ms 0 n 0 n),(1,R a),(4,m),(11,R (c:Nat)),(12,R (i:Nat))]) (λ_=>[.cells _ _ ((f).toList.map _)]) (λi=>i+1-c) ((j)) ⟨Z5 _,U,Y⟩ rfl J (λi hi E=>?_);obtain⟨T,V,w⟩:=hi;by_cases h:c<=i
    .refine W.two _ H (i:=i) (j:=a) U U λL x y _ o u F v _=>?_;have N:=Sz (i:=i) U U
     repeat apply Ο
     refine W.draw (A:=[]) Ρ mixed λP C=>?_;simp;(repeat (rw[ZL];simp[h,F]));try rw[ZM]
     refine YD (ab y x) ?_;simp;(repeat (rw[ZL];simp));try rw[ZM]
     refine YG (C _ _ ?_);by_cases B:g y x<0
     .refine Ε (by simp[B]) ?_;refine Ι N ?_;exact W.to (E (i-1) ⟨U,U,Gz w h U (by simp[o,u,B,Γ])⟩ Yt) (by rw[v]) (by simp[N])
     .refine Η (by simp[B]) ?_;refine W.exit rfl ?_;exact W.stop ⟨rfl,by rw[v],by rw[<-Gy w h U (by simp[o,u,B,Γ])];simp⟩
    .repeat apply Ο
     refine W0 h ?_;refine Η rfl ?_;refine W.exit rfl ?_;exact W.stop ⟨rfl,rfl,by rw[<-Gw w h];simp⟩
   repeat apply Ο
   by_cases h:c > l
   .have Z:((l:Nat):Int)<(c:Nat):=U
    refine Ι Z ?_;refine Ε (by simp[h]) ?_;refine W.exit rfl ?_;rw[M,if_pos h] at K;exact W.stop ⟨rfl,by rw[<-K],by rw[<-K];simp⟩
   .have Z:¬((l:Nat):Int)<(c:Nat):=U
    have aw:=ak U
    have ae:=XI (i:=c) U
    have af:=Sz (i:=l) U U;refine Ι Z ?_;refine Η (by simp[h]) ?_;refine W.two _ H (i:=c) (j:=l) U U λL x y z o u F v D=>?_
    repeat apply Ο
    refine W.draw (A:=[]) Ρ mixed λP C=>?_;simp;(repeat (rw[ZL];simp[F]));try rw[ZM];refine YG (C _ _ ?_)
    refine W.back D [(0,.ms 0 n 0 n),(1,R a),(4,m),(11,R (c:Nat)),(12,R (l:Nat))] J ?_;clear F D v o u L x y z;refine Ι (Υ ae af) ?_;exact W.to (E (c+1,l-1,Go.Sort.swp f c l) ⟨swp_size H c l,Yt,Yt,Yt,by simp;rw[<-K,M,if_neg h]⟩ Yt) rfl (by simp[ae,af])
  refine Χ ?_;have M:Go.Sort.partitionEqual (Γ g) d a b p=O:=by unfold Go.Sort.partitionEqual;rw[<-Q,ad]
  exact W.ret ⟨_,rfl,by rw[M];rfl,by rw[M]⟩
theorem sT (S:Tw) (ae:S=WL\/S=Wr) (d:Array (Int×Int)) (n lo hi first:Nat) (af:d.size=n) (ay:n<2 ^ 40) (az:first+hi<=n) (ag:lo<=n) (a:I) (b:Int×Int->Int×Int->Int) (aA:χ 0 a) (T:∀x y,XD prog a [S.enc x,S.enc y] (R (b x y))) :
  Ξ prog S.siftDown [.ms 0 n 0 n,R lo,R hi,R first,a] [.cells S.t S.k ((d).toList.map S.enc)] (λr s=>r=.ZX []/\s=[.cells S.t S.k ((Go.Sort.siftDown (Γ b) hi first lo d).toList.map S.enc)]) (λ_ _=>False):=by
 obtain⟨enc,V⟩:=ψ S.enc;rcases ae with rfl|rfl
 all_goals dsimp only[WL,Wr] at *
 refine Ξ.body Ρ func254 rfl rfl ntmps254 rfl rfl J ?_
 rotate_left
 refine Ξ.body Ρ func225 rfl rfl ntmps225 rfl rfl J ?_
 all_goals
  refine Χ ?_;obtain⟨ah,X⟩:=Zt (Go.Sort.siftDown (Γ b) hi first lo d);rw[X];refine W.iter (λq:Nat×Array (Int×Int)=>q.2.size=n/\q.1<=n/\Go.Sort.siftDown (Γ b) hi first q.1 q.2=ah) (λq=>[(0,.ms 0 n 0 n),(2,R hi),(3,R first),(4,a),(10,R (q.1:Nat))]) (λq=>[.cells _ _ ((q.2).toList.map _)]) (λq=>hi-q.1) (lo,d) ⟨af,ag,X⟩ rfl J (λq ai aj=>?_);obtain⟨r,e⟩:=q;obtain⟨D,ak,f⟩:=ai;simp only at D ak f;obtain⟨c,al⟩:=ψ (2*r+1);obtain⟨M,N⟩:=ψ (c+1);obtain⟨υ,am⟩:=ψ (first+r);obtain⟨O,an⟩:=ψ (first+c);obtain⟨fd,ao⟩:=ψ (first+(c+1));have w1:i64.wrap (2*(r:Int))=2*(r:Int):=by rw[i64_in _ U]
  have ap:i64.wrap (2*(r:Int)+1)=(c:Int):=by rw[i64_in _ U];omega
  have P:i64.wrap ((c:Int)+1)=(M:Int):=by rw[i64_in _ U];omega
  have aq:i64.wrap ((first:Int)+(c:Int))=(O:Int):=by rw[i64_in _ U];omega
  have ar:i64.wrap ((O:Int)+1)=(fd:Int):=by rw[i64_in _ U];omega
  have Y:i64.wrap ((first:Int)+(r:Int))=(υ:Int):=by rw[i64_in _ U];omega
  refine W.to (σ':=[.cells _ _ ((e).toList.map _)]) (env':=[(0,.ms 0 n 0 n),(2,R hi),(3,R first),(4,a),(10,R (r:Nat))]) ?_ rfl J;refine Ι (Υ w1 ap) ?_;by_cases Z:hi<=c
  .refine Ε (by simp[Z]) ?_;refine W.exit rfl ?_;exact W.nil ⟨_,rfl,rfl,by rw[<-f,Go.Sort.siftDown,dif_pos U]⟩
  refine Η (by simp[Z]) ?_;obtain⟨B,u⟩:=ψ ((decide (c+1<hi)&&Γ b e[first+c]! e[first+(c+1)]!):Bool);obtain⟨k,v⟩:∃k,k=if B=true then c+1 else c:=⟨_,rfl⟩
  have aB:k<hi:=by
   rw[v];split
   .rename_i h;rw[h] at u;have:=u.symm;simp at this;omega
   .omega
  have au:=s8 (Γ b) hi first r e (k:=k) al U (by rw[<-u];exact v)
  rw[au] at f
  repeat apply Ο
  refine W.Nn (A:=[]) Ρ mixed [(40,ε B),(0,.ms 0 n 0 n),(2,R hi),(3,R first),(4,a),(10,R r),(11,R c)] ?_ (by
   by_cases E:M<hi
   .have g:O<n:=U
    have i:fd<n:=U;obtain⟨L,x,y,j,w,C,F,⟨l,m⟩,⟨o,p⟩,-,-⟩:=PI enc D g i;simp only[V] at j l m o p;have Q:B=Γ b x y:=by rw[u,<-w,<-C,an,ao];simp[<-N,E]
    have av:(M:Int)<hi:=U;rw[j];clear w C;simp;(repeat (rw[ZL];simp[P,aq,ar,E,av,F,l,m,o,p,g,i]));(try rw[ZM]);refine YD (T x y) ?_;simp;(repeat (rw[ZL];simp));(try rw[ZM]);refine⟨Yw (by kernel_rfl),?_⟩;simp[Q,Γ]
   .have Q:B=false:=by rw[u];simp[<-N,E]
    simp;(repeat (rw[ZL];simp[P,E]));(try rw[ZM]);refine⟨Yw (by kernel_rfl),?_⟩;simp[Q])
  have aC:r<k:=by rw[v];split<;>omega
  repeat apply Ο
  refine W.ta [(0,.ms 0 n 0 n),(2,R hi),(3,R first),(4,a),(10,R (r:Nat)),(11,R (k:Nat))] e ?_ ?_
  .cases B with
   | true=>
    refine Ε rfl ?_;refine P3 P ?_;exact W.stop ⟨rfl,rfl,by simp[v,N]⟩
   | false=>
    refine Η rfl ?_;refine W.skip ?_;exact W.stop ⟨rfl,rfl,by simp[v]⟩
  obtain⟨H,aw⟩:=ψ (first+k);rw[<-am,<-aw] at f;have aa:i64.wrap ((first:Int)+(k:Int))=(H:Int):=by rw[i64_in _ U];omega
  have g:υ<n:=U
  have i:H<n:=U;obtain⟨L,x,y,j,w,C,F,⟨l,m⟩,⟨o,p⟩,ab,aD,ad⟩:=PI enc D g i;simp only[V] at j l m o p ab ad;rw[w,C] at f;refine W.IU j [(0,.ms 0 n 0 n),(2,R hi),(3,R first),(4,a),(10,R (r:Nat)),(11,R (k:Nat))] J ?_;clear w C
  repeat apply Ο
  refine W.draw (A:=[]) Ρ mixed λaE ax=>Vj (Υ Y (Υ aa (Υ F (Υ l (Υ m (Υ o (Υ p (Υ g i)))))))) ?_;refine YD (T x y) ?_;simp;(repeat (rw[ZL];simp));try rw[ZM]
  refine YG (ax _ _ ?_);by_cases K:b x y<0
  .refine Η (by simp[K]) ?_
   repeat apply Ο
   refine W0 (Υ Y (Υ aa (Υ F (Υ l (Υ m (Υ o (Υ p (Υ ad (Υ g i))))))))) ?_;refine Χ ?_;refine W.to (aj (k,Go.Sort.swp e υ H) ⟨swp_size D υ H,Yt,?_⟩ Yt) (by rw[ab]) J;rw[<-f];simp[K,Γ]
  .refine Ε (by simp[K]) ?_;refine Χ ?_;exact W.ret ⟨_,rfl,rfl,by rw[<-j,<-f];simp[K,Γ]⟩
theorem sS (S:Tw) (O:S=WL\/S=Wr) (d:Array (Int×Int)) (n a b:Nat) (P:d.size=n) (Q:n<2 ^ 40) (an:a<b) (ao:b<=n) (f:I) (c:Int×Int->Int×Int->Int) (T:χ 0 f) (V:∀x y,XD prog f [S.enc x,S.enc y] (R (c x y))) :
  Ξ prog S.heapSort [.ms 0 n 0 n,R a,R b,f] [.cells S.t S.k ((d).toList.map S.enc)] (λr s=>r=.ZX []/\s=[.cells S.t S.k ((Go.Sort.heapSort (Γ c) d a b).toList.map S.enc)]) (λ_ _=>False):=by
 have X:=sT S O;rcases O with rfl|rfl
 all_goals dsimp only[WL,Wr] at *
 refine Ξ.body Ρ func235 rfl rfl ntmps235 rfl rfl J ?_
 rotate_left
 refine Ξ.body Ρ func184 rfl rfl ntmps184 rfl rfl J ?_
 all_goals
  obtain⟨m,af⟩:=Zt (b-a);have w1:i64.wrap ((b:Int)-(a:Int))=(m:Int):=by rw[i64_in _ U];omega
  have w:i64.wrap ((m:Int)-1)=((m-1:Nat):Int):=Sz U U
  have Y:i64.wrap (((m-1:Nat):Int) / 2)=(((m-1) / 2:Nat):Int):=IT (m:=2) U;obtain⟨ap,B⟩:=ψ (m-1);obtain⟨C,Z⟩:=ψ ((m-1) / 2);rw[<-Z,<-B] at Y;rw[<-B] at w;have wp:∀k:Nat,k<=n->i64.wrap ((k:Int)-1)=(k:Int)-1:=λk v=>by rw[i64_in _ U]
  obtain⟨o,D⟩:=Zt (Go.Sort.heapBuild (Γ c) m a (C+1) d);have aa:Go.Sort.heapSort (Γ c) d a b=Go.Sort.heapPop (Γ c) a m o:=by unfold Go.Sort.heapSort;rw[af,<-Z,D]
  refine Ι (Υ w1 (Υ w Y)) ?_;refine W.V0 [(0,.ms 0 n 0 n),(3,f),(8,R a),(9,R 0),(10,R m)] o ?_ ?_
  .refine W.iter (λq:Nat×Array (Int×Int)=>q.2.size=n/\q.1<=C+1/\Go.Sort.heapBuild (Γ c) m a q.1 q.2=o) (λq=>[(0,.ms 0 n 0 n),(3,f),(8,R a),(9,R 0),(10,R m),(11,.z (.int .i64 ((q.1:Int)-1)))]) (λq=>[.cells _ _ ((q.2).toList.map _)]) (λq=>q.1) (C+1,d) ⟨P,Z5 _,D⟩ rfl J (λq E H=>?_);obtain⟨k,e⟩:=q;obtain⟨g,v,l⟩:=E;simp only at g v l;cases k with
   | zero=>
    refine Χ ?_;refine Η rfl ?_;refine W.exit rfl ?_;exact W.stop ⟨rfl,by rw[<-l];rfl,J⟩
   | succ k=>
    have K:(0:Int)<=(k:Int):=U;refine W.to (σ':=[.cells _ _ ((e).toList.map _)]) (env':=[(0,.ms 0 n 0 n),(3,f),(8,R a),(9,R 0),(10,R m),(11,.z (.int .i64 ((k:Int))))]) ?_ rfl J;refine Ι K ?_;refine Ε J ?_;refine ZU λab u=>?_;refine Ξ.call (first:=[]) (captured:=[]) ((X e n k m a g Q U U f c T V).mono (λr s ⟨M,N⟩=>?_) (λ_ _ h=>h.elim));subst M;subst N;simp;(repeat (rw[Μ];simp));apply u;refine Ι (wp k U) ?_;exact W.to (H (k,Go.Sort.siftDown (Γ c) m a k e) ⟨Gx g,Yt,l⟩ J) rfl (by simp[wp k U])
  obtain⟨ag,ad⟩:=Zt (Go.Sort.heapPop (Γ c) a m o);have ah:o.size=n:=by rw[<-D];exact Cf P
  rw[ad] at aa;refine Ι w ?_;refine W.iter (λq:Nat×Array (Int×Int)=>q.2.size=n/\q.1<=m/\Go.Sort.heapPop (Γ c) a q.1 q.2=ag) (λq=>[(0,.ms 0 n 0 n),(3,f),(8,R a),(9,R 0),(10,R m),(12,.z (.int .i64 ((q.1:Int)-1)))]) (λq=>[.cells _ _ ((q.2).toList.map _)]) (λq=>q.1) (m,o) ⟨ah,Z5 _,ad⟩ rfl (by simp[B];omega) (λq E H=>?_);obtain⟨k,e⟩:=q;obtain⟨g,v,l⟩:=E;simp only at g v l;cases k with
  | zero=>
   refine Χ ?_;refine Η rfl ?_;refine W.exit rfl ?_;exact W.nil ⟨_,rfl,rfl,by rw[aa,<-l];rfl⟩
  | succ k=>
   have K:(0:Int)<=(k:Int):=U;obtain⟨p,ai⟩:=ψ (a+k);have aj:i64.wrap ((a:Int)+(k:Int))=(p:Int):=by rw[i64_in _ U];omega
   refine W.to (σ':=[.cells _ _ ((e).toList.map _)]) (env':=[(0,.ms 0 n 0 n),(3,f),(8,R a),(9,R 0),(10,R m),(12,.z (.int .i64 ((k:Int))))]) ?_ rfl J;refine Ι K ?_;refine Ε J ?_;refine W.two _ g (i:=a) (j:=p) U U λL x y z ak al F am ae=>?_
   repeat apply Ο
   refine W.draw (A:=[]) Ρ mixed λab u=>?_;simp;(repeat (rw[ZL];simp[F,aj]));try rw[ZM];refine YG (u _ _ ?_)
   refine W.back ae [(0,.ms 0 n 0 n),(3,f),(8,R a),(9,R 0),(10,R m),(12,.z (.int .i64 ((k:Int))))] J ?_;clear F ae am ak al L x y z;refine ZU λab u=>?_;refine Ξ.call (first:=[]) (captured:=[]) ((X (Go.Sort.swp e a p) n 0 k a (swp_size g a p) Q U U f c T V).mono (λr s ⟨M,N⟩=>?_) (λ_ _ h=>h.elim));subst M;subst N;simp;(repeat (rw[Μ];simp));apply u;refine Ι (wp k U) ?_;exact W.to (H (k,Go.Sort.siftDown (Γ c) k a 0 (Go.Sort.swp e a p)) ⟨Gx (swp_size g a p),Yt,by rw[ai];exact l⟩ J) rfl (by simp[wp k U])
theorem sR (S:Tw) (p:S=WL\/S=Wr) (d:Array (Int×Int)) (n a b:Nat) (u:d.size=n) (M:n<2 ^ 40) (N:a<b) (O:b<=n) (g:I) (v:Int×Int->Int×Int->Int) (P:χ 0 g) (Q:∀x y,XD prog g [S.enc x,S.enc y] (R (v x y))) :
  Ξ prog S.reverseRange [.ms 0 n 0 n,R a,R b,g] [.cells S.t S.k ((d).toList.map S.enc)] (λr s=>r=.ZX []/\s=[.cells S.t S.k ((Go.Sort.reverseRange d a b).toList.map S.enc)]) (λ_ _=>False):=by
 rcases p with rfl|rfl
 all_goals dsimp only[WL,Wr] at *
 refine Ξ.body Ρ func238 rfl rfl ntmps238 rfl rfl J ?_
 rotate_left
 refine Ξ.body Ρ func187 rfl rfl ntmps187 rfl rfl J ?_
 all_goals
  have w1:=Sz (i:=b) U U;refine Ι w1 ?_;refine W.iter (λq:Nat×Nat×Array (Int×Int)=>q.2.2.size=n/\q.1<n/\q.2.1<n/\Go.Sort.reverseLoop q.1 q.2.1 q.2.2=Go.Sort.reverseRange d a b) (λq=>[(0,.ms 0 n 0 n),(8,R (q.1:Nat)),(9,R (q.2.1:Nat))]) (λq=>[.cells _ _ ((q.2.2).toList.map _)]) (λq=>q.2.1-q.1) (a,b-1,d) ⟨u,Yt,Yt,rfl⟩ rfl (by simp[w1]) (λq w B=>?_);obtain⟨i,j,e⟩:=q;obtain⟨h,hi,C,c⟩:=w;simp only at h hi C c;rw[Go.Sort.reverseLoop] at c;refine W.to (σ':=[.cells _ _ ((e).toList.map _)]) (env':=[(0,.ms 0 n 0 n),(8,R (i:Nat)),(9,R (j:Nat))]) ?_ rfl J;refine Χ ?_;by_cases f:i<j
  .refine Ε (by simp[f]) ?_;rw[if_pos f] at c;have l:=XI (i:=i) U;have m:=Sz (i:=j) U U;refine W.two _ h (i:=i) (j:=j) U U λL x y z D E F H o=>?_
   repeat apply Ο
   refine W.draw (A:=[]) Ρ mixed λT K=>?_;simp;(repeat (rw[ZL];simp[F]));try rw[ZM];refine YG (K _ _ ?_)
   refine W.back o [(0,.ms 0 n 0 n),(8,R (i:Nat)),(9,R (j:Nat))] J ?_;clear F o H D E L x y z;refine Ι (Υ l m) ?_;exact W.to (B (i+1,j-1,Go.Sort.swp e i j) ⟨swp_size h i j,Yt,Yt,c⟩ Yt) rfl (by simp[l,m])
  .refine Η (by simp[f]) ?_;refine W.exit rfl ?_;rw[if_neg f] at c;exact W.nil ⟨_,rfl,rfl,by rw[c]⟩
theorem sQ (S:Tw) (B:S=WL\/S=Wr) (d:Array (Int×Int)) (n a b s:Nat) (C:d.size=n) (h:a<n) (i:b<n) (K:s<2 ^ 40) (f:I) (c:Int×Int->Int×Int->Int) (M:χ 0 f) (D:∀x y,XD prog f [S.enc x,S.enc y] (R (c x y))) :
  Ξ prog S.order2 [.ms 0 n 0 n,R a,R b,.Ν 1 1 0 0,f] [.cells S.t S.k (d.toList.map S.enc),.cells 3 1 [R s]] (λr σ=>r=.ZX [R (Go.Sort.order2 (Γ c) d a b s).1,R (Go.Sort.order2 (Γ c) d a b s).2.1]/\σ=[.cells S.t S.k (d.toList.map S.enc),.cells 3 1 [R (Go.Sort.order2 (Γ c) d a b s).2.2]]) (λ_ _=>False):=by
 obtain⟨enc,E⟩:=ψ S.enc;rcases B with rfl|rfl
 all_goals dsimp only[WL,Wr] at *
 refine Ξ.body Ρ func258 rfl rfl ntmps258 rfl rfl J ?_
 rotate_left
 refine Ξ.body Ρ func252 rfl rfl ntmps252 rfl rfl J ?_
 all_goals
  obtain⟨L,x,y,g,j,l,F,⟨m,o⟩,⟨p,u⟩,-,-⟩:=PI enc C h i;simp only[E] at g m o p u;have v:i64.wrap ((s:Int)+1)=((s+1:Nat):Int):=by rw[i64_in _ U];omega
  have w:Go.Sort.order2 (Γ c) d a b s=if Γ c y x=true then(b,a,s+1) else(a,b,s):=by unfold Go.Sort.order2;rw[j,l]
  rw[w,g];clear g j l w;refine Χ ?_;refine W.draw (A:=[]) Ρ mixed λN H=>Vj (Υ F (Υ m (Υ p (Υ o u)))) ?_;refine⟨i,h,?_⟩;refine YD (D y x) ?_;simp;(repeat (rw[ZL];simp));try rw[ZM]
  refine YG (H _ _ ?_);by_cases e:c y x<0
  .refine Ε (by simp[e]) ?_;refine Ι v ?_;exact W.ret ⟨_,rfl,by simp[Γ,e],by simp[Γ,e]⟩
  .refine Η (by simp[e]) ?_;refine Ι v ?_;exact W.ret ⟨_,rfl,by simp[Γ,e],by simp[Γ,e]⟩
section
variable {α:Type} [Inhabited α]
theorem sP (lt:α->α->Bool) (d:Array α) {b:Nat}:∀(m i:Nat),b-i<=m->i<=b->i<=Go.Sort.scanSorted lt d b i/\Go.Sort.scanSorted lt d b i<=b:=by
 intro m
 induction m with
 | zero=>intro i h hi;rw[Go.Sort.scanSorted,if_neg (by simp;omega)];omega
 | succ m a=>
  intro i h hi;rw[Go.Sort.scanSorted];split
  .rename_i c;simp only[V9,decide_eq_true_eq] at c;have:=a (i+1) U U;omega
  .omega
theorem sO (lt:α->α->Bool) {n:Nat}:∀(j:Nat) (d:Array α),d.size=n->(Go.Sort.shiftDown lt j d).size=n:=by
 intro j
 induction j with
 | zero=>intro d h;exact h
 | succ j a=>
  intro d h;rw[Go.Sort.shiftDown];split
  .exact h
  .exact a _ (swp_size h _ _)
theorem sN (lt:α->α->Bool) {b n:Nat}:∀(m j:Nat) (d:Array α),b-j<=m->d.size=n->(Go.Sort.shiftUp lt b j d).size=n:=by
 intro m
 induction m with
 | zero=>intro j d h hd;rw[Go.Sort.shiftUp,if_neg U];exact hd
 | succ m a=>
  intro j d h hd;rw[Go.Sort.shiftUp];split
  .split
   .exact hd
   .exact a _ _ U (swp_size hd _ _)
  .exact hd
theorem Gn (lt:α->α->Bool) (d:Array α) {i n:Nat} (f:1<=i) (hi:i+1<n) (s:Nat):(Go.Sort.medianAdjacent lt d i s).1<n/\(Go.Sort.medianAdjacent lt d i s).2<=s+3:=by
 unfold Go.Sort.medianAdjacent Go.Sort.median;have f1:=ML lt d (a:=i-1) (b:=i) (n:=n) U U s;generalize Go.Sort.order2 lt d (i-1) i s=c at f1 ⊢;have f2:=ML lt d (a:=c.2.1) (b:=i+1) (n:=n) U hi c.2.2;simp only;generalize Go.Sort.order2 lt d c.2.1 (i+1) c.2.2=e at f2 ⊢;have f3:=ML lt d (a:=c.1) (b:=e.1) (n:=n) U U e.2.2;generalize Go.Sort.order2 lt d c.1 e.1 e.2.2=g at f3 ⊢;omega
end
theorem Cc (S:Tw) (F:S=WL\/S=Wr) (d:Array (Int×Int)) (n a b c s:Nat) (l:d.size=n) (V:a<n) (X:b<n) (Y:c<n) (Z:s<2 ^ 39) (f:I) (e:Int×Int->Int×Int->Int) (m:χ 0 f) (o:∀x y,XD prog f [S.enc x,S.enc y] (R (e x y))) :
  Ξ prog S.median [.ms 0 n 0 n,R a,R b,R c,.Ν 1 1 0 0,f] [.cells S.t S.k ((d).toList.map S.enc),.cells 3 1 [R (s:Nat)]] (λr σ=>r=R (Go.Sort.median (Γ e) d a b c s).1/\σ=[.cells S.t S.k ((d).toList.map S.enc),.cells 3 1 [R ((Go.Sort.median (Γ e) d a b c s).2:Nat)]]) (λ_ _=>False):=by
 have p:=sQ S F;rcases F with rfl|rfl
 all_goals dsimp only[WL,Wr] at *
 refine Ξ.body Ρ func256 rfl rfl ntmps256 rfl rfl J ?_
 rotate_left
 refine Ξ.body Ρ func229 rfl rfl ntmps229 rfl rfl J ?_
 all_goals
  obtain⟨M,H⟩:=Zt (Go.Sort.order2 (Γ e) d a b s);have f1:=ML (Γ e) d (a:=a) (b:=b) (n:=n) U U s;have u:=p d n a b s l U U U f e m o;rw[H] at f1 u;obtain⟨v,w,A⟩:=M;simp only at f1 u;obtain⟨N,Φ⟩:=Zt (Go.Sort.order2 (Γ e) d w c A);have f2:=ML (Γ e) d (a:=w) (b:=c) (n:=n) U U A;have B:=p d n w c A l U U U f e m o;rw[Φ] at f2 B;obtain⟨C,aa,D⟩:=N;simp only at f2 B;obtain⟨O,K⟩:=Zt (Go.Sort.order2 (Γ e) d v C D);have f3:=ML (Γ e) d (a:=v) (b:=C) (n:=n) U U D;have E:=p d n v C D l U U U f e m o;rw[K] at f3 E;obtain⟨ab,P,Q⟩:=O;simp only at f3 E;have T:Go.Sort.median (Γ e) d a b c s=(P,Q):=by unfold Go.Sort.median;simp only[H,Φ,K]
  rw[T]
  repeat apply Ο
  refine WB ?_;refine ZU λL g=>?_;refine Ξ.call (first:=[]) (captured:=[]) ((u).mono (λr s ⟨i,j⟩=>?_) (λ_ _ h=>h.elim));subst i;subst j;simp;(repeat (rw[Μ];simp));apply g;refine ZU λL g=>?_;refine Ξ.call (first:=[]) (captured:=[]) ((B).mono (λr s ⟨i,j⟩=>?_) (λ_ _ h=>h.elim));subst i;subst j;simp;(repeat (rw[Μ];simp));apply g;refine ZU λL g=>?_;refine Ξ.call (first:=[]) (captured:=[]) ((E).mono (λr s ⟨i,j⟩=>?_) (λ_ _ h=>h.elim));subst i;subst j;simp;(repeat (rw[Μ];simp));apply g;refine Χ ?_;exact W.ret ⟨_,rfl,rfl,rfl⟩
theorem sM (S:Tw) (f:S=WL\/S=Wr) (d:Array (Int×Int)) (n i s:Nat) (g:d.size=n) (D:1<=i) (hi:i+1<n) (E:n<2 ^ 40) (j:s<2 ^ 39) (b:I) (a:Int×Int->Int×Int->Int) (l:χ 0 b) (m:∀x y,XD prog b [S.enc x,S.enc y] (R (a x y))) :
  Ξ prog S.medianAdjacent [.ms 0 n 0 n,R i,.Ν 1 1 0 0,b] [.cells S.t S.k ((d).toList.map S.enc),.cells 3 1 [R (s:Nat)]] (λr σ=>r=R (Go.Sort.medianAdjacent (Γ a) d i s).1/\σ=[.cells S.t S.k ((d).toList.map S.enc),.cells 3 1 [R ((Go.Sort.medianAdjacent (Γ a) d i s).2:Nat)]]) (λ_ _=>False):=by
 have o:=Cc S f;rcases f with rfl|rfl
 all_goals dsimp only[WL,Wr] at *
 refine Ξ.body Ρ func255 rfl rfl ntmps255 rfl rfl J ?_
 rotate_left
 refine Ξ.body Ρ func228 rfl rfl ntmps228 rfl rfl J ?_
 all_goals
  obtain⟨p,u⟩:=ψ (i-1);obtain⟨q,v⟩:=ψ (i+1);have w1:i64.wrap ((i:Int)-1)=(p:Int):=by rw[i64_in _ U];omega
  have w:i64.wrap ((i:Int)+1)=(q:Int):=by rw[i64_in _ U];omega
  have c:=o d n p i q s g U U U j b a l m
  have e:Go.Sort.medianAdjacent (Γ a) d i s=Go.Sort.median (Γ a) d p i q s:=by rw[u,v];rfl
  rw[e]
  repeat apply Ο
  refine WB ?_;refine XM (Υ w1 w) λF A=>?_;refine Ξ.call (first:=[]) (captured:=[]) ((c).mono (λr s ⟨B,C⟩=>?_) (λ_ _ h=>h.elim));subst B;subst C;simp;(repeat (rw[Μ];simp));apply A;refine Χ ?_;exact W.ret ⟨_,rfl,rfl,rfl⟩
theorem sL (S:Tw) (O:S=WL\/S=Wr) (d:Array (Int×Int)) (n a b:Nat) (E:d.size=n) (aH:n<2 ^ 38) (aI:a+12<b) (aJ:b<=n) (u:I) (c:Int×Int->Int×Int->Int) (F:χ 0 u) (H:∀x y,XD prog u [S.enc x,S.enc y] (R (c x y))) :
  Ξ prog S.choosePivot [.ms 0 n 0 n,R a,R b,u] [.cells S.t S.k ((d).toList.map S.enc)] (λr s=>r=.ZX [R (Go.Sort.choosePivot (Γ c) d a b).1,R (MJ (Go.Sort.choosePivot (Γ c) d a b).2)]/\s=[.cells S.t S.k ((d).toList.map S.enc)]) (λ_ _=>False):=by
 have P:=sM S O
 have ao:=Cc S O;rcases O with rfl|rfl
 all_goals dsimp only[WL,Wr] at *
 refine Ξ.body Ρ func237 rfl rfl ntmps237 rfl rfl J ?_
 rotate_left
 refine Ξ.body Ρ func186 rfl rfl ntmps186 rfl rfl J ?_
 all_goals
  obtain⟨l,af⟩:=ψ (b-a);obtain⟨q,Q⟩:=ψ (l / 4);obtain⟨T,ag⟩:=ψ (q*2);obtain⟨V,ah⟩:=ψ (q*3);obtain⟨i,hi⟩:=ψ (a+q);obtain⟨j,ai⟩:=ψ (a+T);obtain⟨k,aj⟩:=ψ (a+V);have ap:(8:Int)<=(l:Int):=U;have w1:i64.wrap ((b:Int)-(a:Int))=(l:Int):=by rw[i64_in _ U];omega
  have aq:i64.wrap ((l:Int) / 4)=(q:Int):=by rw[Q];exact IT (m:=4) U
  have ar:i64.wrap (q:Int)=(q:Int):=i64_in _ U
  have au:i64.wrap ((q:Int)*2)=(T:Int):=by rw[i64_in _ U];omega
  have av:i64.wrap ((q:Int)*3)=(V:Int):=by rw[i64_in _ U];omega
  have aw:i64.wrap ((a:Int)+(q:Int))=(i:Int):=by rw[i64_in _ U];omega
  have ax:i64.wrap ((a:Int)+(T:Int))=(j:Int):=by rw[i64_in _ U];omega
  have ay:i64.wrap ((a:Int)+(V:Int))=(k:Int):=by rw[i64_in _ U];omega
  obtain⟨e,f,K,o,L,az,aA,aB,X⟩:∃e f K o:Nat,Go.Sort.choosePivot (Γ c) d a b=((Go.Sort.median (Γ c) d e f K o).1,if(Go.Sort.median (Γ c) d e f K o).2=0 then .increasing else if(Go.Sort.median (Γ c) d e f K o).2=12 then .decreasing else .unknown)/\e<n/\f<n/\K<n/\(o<=9/\((l<50/\e=i/\f=j/\K=k/\o=0)\/(50<=l/\∃t1 t2,Go.Sort.medianAdjacent (Γ c) d i 0=(e,t1)/\t1<=3/\Go.Sort.medianAdjacent (Γ c) d j t1=(f,t2)/\t2<=6/\Go.Sort.medianAdjacent (Γ c) d k t2=(K,o)))):=by
   have ak:8<=l:=U;by_cases Y:50<=l
   .have Z:=Gn (Γ c) d (n:=n) (i:=i) U U 0;obtain⟨⟨e,t1⟩,B⟩:∃r,Go.Sort.medianAdjacent (Γ c) d i 0=r:=⟨_,rfl⟩;rw[B] at Z;have aa:=Gn (Γ c) d (n:=n) (i:=j) U U t1;obtain⟨⟨f,t2⟩,Φ⟩:∃r,Go.Sort.medianAdjacent (Γ c) d j t1=r:=⟨_,rfl⟩;rw[Φ] at aa;have ab:=Gn (Γ c) d (n:=n) (i:=k) U U t2;obtain⟨⟨K,o⟩,C⟩:∃r,Go.Sort.medianAdjacent (Γ c) d k t2=r:=⟨_,rfl⟩;rw[C] at ab;simp only at Z aa ab;refine⟨e,f,K,o,?_,Z.1,aa.1,ab.1,U,.inr ⟨Y,t1,t2,B,U,Φ,U,C⟩⟩;simp only[Go.Sort.choosePivot,<-af,<-Q,Re,<-ag,<-ah,<-hi,<-ai,<-aj,ge_iff_le,if_pos ak,if_pos Y,B,Φ,C]
   .refine⟨i,j,k,0,?_,U,U,U,U,.inl ⟨U,rfl,rfl,rfl,rfl⟩⟩;simp only[Go.Sort.choosePivot,<-af,<-Q,Re,<-ag,<-ah,<-hi,<-ai,<-aj,ge_iff_le,if_pos ak,if_neg Y]
  obtain⟨aC,em⟩:=Zt (Go.Sort.median (Γ c) d e f K o);have M:=ao d n e f K o E az aA aB (OU X.1 Z3) u c F H;rw[em] at M L;obtain⟨aD,D⟩:=aC;simp only at M L;rw[L]
  repeat apply Ο
  refine WB ?_
  repeat apply Ο
  refine P3 w1 ?_
  repeat apply Ο
  refine Y4 (A:=[11]) Ρ λN p=>Z1 ?_;apply p;refine Ι (Υ aq (Υ ar (Υ au (Υ av (Υ aw (Υ ax (Υ ay @ap))))))) ?_;refine Ε J ?_;refine Χ ?_;refine W.N6 [(0,.ms 0 n 0 n),(3,u),(11,.Ν 1 1 0 0),(12,R (e:Nat)),(13,R (f:Nat)),(14,R (K:Nat))] (d) [.cells 3 1 [R (o:Nat)]] ?_ ?_
  .clear L M;rcases X with⟨-,⟨aE,rfl,rfl,rfl,rfl⟩|⟨aE,t1,t2,B,aK,Φ,aL,C⟩⟩
   .have g:¬(50:Int)<=(l:Int):=U
    refine Η (by simp[g]) ?_;refine W.skip ?_;exact W.stop ⟨rfl,rfl,J⟩
   .have g:(50:Int)<=(l:Int):=U
    have al:=P d n i 0 E U U U U u c F H
    have am:=P d n j t1 E U U U U u c F H
    have an:=P d n k t2 E U U U U u c F H;rw[B] at al;rw[Φ] at am;rw[C] at an;refine Ε (by simp[g]) ?_;refine ZU λN p=>?_;refine Ξ.call (first:=[]) (captured:=[]) ((al).mono (λr s ⟨v,w⟩=>?_) (λ_ _ h=>h.elim));subst v;subst w;simp;(repeat (rw[Μ];simp));apply p;refine ZU λN p=>?_;refine Ξ.call (first:=[]) (captured:=[]) ((am).mono (λr s ⟨v,w⟩=>?_) (λ_ _ h=>h.elim));subst v;subst w;simp;(repeat (rw[Μ];simp));apply p;refine ZU λN p=>?_;refine Ξ.call (first:=[]) (captured:=[]) ((an).mono (λr s ⟨v,w⟩=>?_) (λ_ _ h=>h.elim));subst v;subst w;simp;(repeat (rw[Μ];simp));apply p;exact W.stop ⟨rfl,rfl,J⟩
  clear X;refine ZU λN p=>?_;refine Ξ.call (first:=[]) (captured:=[]) ((M).mono (λr s ⟨v,w⟩=>?_) (λ_ _ h=>h.elim));subst v;subst w;simp;(repeat (rw[Μ];simp));apply p
  repeat apply Ο
  refine WB ?_;refine W.drop (h:=1) J J (Ce (by first|exact P0|exact Eo)) rfl [(13,R (aD:Nat)),(55,R (D:Nat))] J ?_;by_cases ad:D=0
  .subst ad;refine Χ ?_;refine Ε rfl ?_;refine Χ ?_;exact W.ret ⟨_,rfl,rfl,rfl⟩
  have aF:¬(D:Int)=0:=U;refine Ι aF ?_;refine Η (by simp[ad]) ?_;by_cases ae:D=12
  .subst ae;refine Χ ?_;refine Ε rfl ?_;refine Χ ?_;exact W.ret ⟨_,rfl,rfl,rfl⟩
  have aG:¬(D:Int)=12:=U;refine Ι aG ?_;refine Η (by simp[ae]) ?_;refine Χ ?_;exact W.ret ⟨_,rfl,by simp[ad,ae,MJ],rfl⟩
theorem sK (l:Nat) (b:l<256):Κ prog 226 [R l] (SA ((1 <<< Go.Sort.bitsLen l:Nat):Int)):=by
 refine Ξ.body Ρ func226 rfl rfl ntmps226 rfl rfl J ?_;have Φ:u64.wrap (l:Int)=l:=MI U;(repeat (first|apply Ο|(refine YX λc a=>?_;simp;(repeat (rw[Μ];simp[Φ]));apply a)));(repeat apply Ο);refine YX λc a=>?_;simp;(repeat (rw[Μ];simp[Φ]));refine Κ.d (Oh l b) (Z1 ?_);apply a;refine Χ ?_;refine W.ret ⟨_,rfl,.of ?_,rfl⟩;have f:=(Go.Sort.bitsLen_le_iff l 8).2 b;have e:=Gu 1 (Go.Sort.bitsLen l) U;have g:1*2 ^ Go.Sort.bitsLen l % 18446744073709551616=1 <<< Go.Sort.bitsLen l:=by
  rw[Nat.one_mul,Nat.one_shiftLeft,PC (OU (Lb U f) Z3)]
 rw[g] at e;show SA (u64.wrap (2 ^ min (Go.Sort.bitsLen l) u64.bits))=_;rw[<-e];simp
theorem sJ (x:Nat) (j:x<2 ^ 64):Ξ prog 227 [.Ν 0 1 0 0] [.cells 248 1 [SA (x:Int)]] (λr s=>r=SA ((Go.Sort.xorNextN x:Nat):Int)/\s=[.cells 248 1 [SA ((Go.Sort.xorNextN x:Nat):Int)]]) (λ_ _=>False):=by
 refine Ξ.body Ρ func227 rfl rfl ntmps227 rfl rfl J ?_;obtain⟨k,e⟩:=ψ (x*2 ^ 13 % 18446744073709551616);obtain⟨a,b⟩:=ψ (x^^^k);obtain⟨l,f⟩:=ψ (a / 2 ^ 7);obtain⟨c,d⟩:=ψ (a^^^l);obtain⟨m,g⟩:=ψ (c*2 ^ 17 % 18446744073709551616);obtain⟨B,h⟩:=ψ (c^^^m);have n:Go.Sort.xorNextN x=B:=by rw[h,g,d,f,b,e];rfl
 rw[n];have l1:k<2 ^ 64:=U;have i:a<2 ^ 64:=by rw[b];exact Nat.xor_lt_two_pow j l1
 have l2:l<2 ^ 64:=U
 have o:c<2 ^ 64:=by rw[d];exact Nat.xor_lt_two_pow i l2
 have p:m<2 ^ 64:=U
 have t:=Gu x 13 U;rw[<-e] at t;have u:=Gv j l1;rw[<-b] at u;have v:=s3 a 7 U;rw[<-f] at v;have w:=Gv i l2;rw[<-d] at w;have y:=Gu c 17 U;rw[<-g] at y;have A:=Gv o p;rw[<-h] at A;clear h g d f b e l1 i l2 o p n;refine Χ ?_;refine W0 (Υ t u) ?_;refine Χ ?_;refine W0 (Υ v w) ?_;refine Χ ?_;refine W0 (Υ y A) ?_;refine Χ ?_;exact W.ret ⟨_,rfl,rfl,rfl⟩
theorem sI (S:Tw) (aw:S=WL\/S=Wr) (d:Array (Int×Int)) (n a b:Nat) (ax:d.size=n) (aT:n<2 ^ 40) (aU:a+12<b) (aV:b<a+256) (aW:b<=n) (K:I) (ay:Int×Int->Int×Int->Int) (aX:χ 0 K) (aY:∀x y,XD prog K [S.enc x,S.enc y] (R (ay x y))) :
  Ξ prog S.breakPatterns [.ms 0 n 0 n,R a,R b,K] [.cells S.t S.k ((d).toList.map S.enc)] (λr s=>r=.ZX []/\s=[.cells S.t S.k ((Go.Sort.breakPatterns d a b).toList.map S.enc)]) (λ_ _=>False):=by
 obtain⟨enc,az⟩:=ψ S.enc;rcases aw with rfl|rfl
 all_goals dsimp only[WL,Wr] at *
 refine Ξ.body Ρ func236 rfl rfl ntmps236 rfl rfl J ?_
 rotate_left
 refine Ξ.body Ρ func185 rfl rfl ntmps185 rfl rfl J ?_
 all_goals
  obtain⟨l,M⟩:=ψ (b-a);obtain⟨q,ad⟩:=ψ (l / 4);obtain⟨N,aA⟩:=ψ (q*2);obtain⟨c,aB⟩:=ψ (a+N);obtain⟨O,ae⟩:=ψ (c-1);obtain⟨P,aZ⟩:=ψ (c+1);obtain⟨m,Q⟩:=ψ (1 <<< Go.Sort.bitsLen l);have aC:Go.Sort.bitsLen l<=8:=(Go.Sort.bitsLen_le_iff l 8).2 U;have a0:l<m/\m<=256/\m<=2*l:=by
   have v:=Go.Sort.lt_two_pow_bitsLen l
   have w:=Go.Sort.two_pow_bitsLen_le (n:=l) U;rw[Q,Nat.one_shiftLeft];exact⟨v,Ya (Lb U aC) Z3,w⟩
  obtain⟨T,af⟩:=Zt (MK a l m 3 O (UInt64.ofNat l,d));have aD:Go.Sort.breakPatterns d a b=T.2:=by rw[s5 (c:=c) M U (by rw[aB,aA,ad]),<-Q,<-ae,af]
  rw[aD];have w1:i64.wrap ((b:Int)-(a:Int))=(l:Int):=by rw[i64_in _ U];omega
  have V:i64.wrap ((l:Int) / 4)=(q:Int):=by rw[ad];exact IT (m:=4) U
  have X:i64.wrap ((q:Int)*2)=(N:Int):=by rw[i64_in _ U];omega
  have Y:i64.wrap ((a:Int)+(N:Int))=(c:Int):=by rw[i64_in _ U];omega
  have aE:i64.wrap ((c:Int)-1)=(O:Int):=by rw[i64_in _ U];omega
  have ag:i64.wrap ((c:Int)+1)=(P:Int):=by rw[i64_in _ U];omega
  have aF:u64.wrap (l:Int)=(l:Int):=MI U
  have aG:u64.wrap ((m:Int)-1)=((m-1:Nat):Int):=by
   have e:(m:Int)-1=((m-1:Nat):Int):=U;rw[e];exact MI U
  have aH:(8:Int)<=(l:Int):=U
  have aI:(UInt64.ofNat l).toNat=l:=by rw[UInt64.toNat_ofNat'];exact PC U
  refine Ι (Υ w1 @aH) ?_;refine Ε J ?_
  repeat apply Ο
  refine Y4 (A:=[9]) Ρ λah p=>XC aF ?_;apply p;have ai:=sK l U;rw[<-Q] at ai;refine ZU λah p=>?_;refine Κ.c ai (ZO.refl _) J J ?_;simp;(repeat (rw[Μ];simp));apply p;refine Ι (Υ V (Υ X (Υ Y aE))) ?_;refine W.iter (λy:Nat×UInt64×Array (Int×Int)=>y.1<=3/\y.2.2.size=n/\MK a l m y.1 (c+2-y.1) y.2=T) (λy=>[(0,.ms 0 n 0 n),(1,R a),(8,R (l:Nat)),(9,.Ν 1 1 0 0),(10,SA (m:Nat)),(11,R (c+2-y.1:Nat))]) (λy=>[.cells _ _ ((y.2.2).toList.map _),.cells 248 1 [SA ((y.2.1.toNat:Nat):Int)]]) (λy=>y.1) (3,UInt64.ofNat l,d) ⟨Z5 _,ax,by simp only;rw[<-af,show c+2-3=O by omega]⟩ (by simp only;rw[aI]) (by simp[ae]) (λy Z aJ=>?_);obtain⟨t,st,e⟩:=y;obtain⟨aK,aa,B⟩:=Z;simp only at aK aa B;obtain⟨f,aj⟩:=ψ (c+2-t);obtain⟨x,u⟩:=ψ st.toNat;have aL:x<2 ^ 64:=by rw[u];exact st.toNat_lt
  rw[<-aj] at B;refine W.to (σ':=[.cells _ _ ((e).toList.map _),.cells 248 1 [SA ((x:Nat):Int)]]) (env':=[(0,.ms 0 n 0 n),(1,R a),(8,R (l:Nat)),(9,.Ν 1 1 0 0),(10,SA (m:Nat)),(11,R (f:Nat))]) ?_ (by rw[u]) (by simp[aj]);cases t with
  | zero=>
   have g:¬(f:Int)<=(P:Int):=U;refine Ι (Υ V (Υ X (Υ Y (Υ ag g)))) ?_;refine Η J ?_;refine W.exit rfl ?_;refine W.drop (h:=1) J J (Ce (by first|exact P0|exact Eo)) rfl [] J ?_;exact W.nil ⟨_,rfl,rfl,by rw[<-B];rfl⟩
  | succ t=>
   have g:(f:Int)<=(P:Int):=U;obtain⟨C,ak⟩:=ψ (Go.Sort.xorNext st);obtain⟨j,D⟩:=ψ C.toNat;have aM:j=Go.Sort.xorNextN x:=by rw[D,ak,Go.Sort.xorNext_toNat,u]
   have aN:j<2 ^ 64:=by rw[D];exact C.toNat_lt
   have al:=sJ x aL;rw[<-aM] at al;obtain⟨z,ab⟩:=ψ (j&&&(m-1));have a1:z<=m-1:=by rw[ab];exact Nat.and_le_right
   have W7:X8 .u64 (j:Int) ((m-1:Nat):Int)=(z:Int):=by rw[ab];exact s0 aN U
   have aO:i64.wrap (z:Int)=(z:Int):=i64_in _ U;obtain⟨o,E⟩:=ψ (if z>=l then z-l else z);have a2:o<l:=by rw[E];split<;>omega
   have am:MK a l m t (f+1) (C,Go.Sort.swp e f (a+o))=T:=by
    rw[<-B];show _=MK a l m t (f+1) (Go.Sort.breakStep a l m (st,e) f);unfold Go.Sort.breakStep;simp only;rw[<-ak,<-D,<-ab,<-E]
   obtain⟨F,aP⟩:=ψ (a+o);rw[<-aP] at am;refine Ι (Υ V (Υ X (Υ Y (Υ ag g)))) ?_;refine Ε J ?_;refine ZU λah p=>?_;refine Ξ.one al 1 rfl (by simp[VM]) (by simp[VM]) (by simp[Xm,Sg]) (by simp[Xm,Sg]) rfl ?_;simp[Ym,Wg];(repeat (rw[Μ];simp[aG,W7,aO]));apply p;refine W.to (σ':=[.cells _ _ ((e).toList.map _),.cells 248 1 [SA ((j:Nat):Int)]]) (env':=[(0,.ms 0 n 0 n),(1,R a),(8,R (l:Nat)),(9,.Ν 1 1 0 0),(10,SA (m:Nat)),(11,R (f:Nat)),(12,R (z:Nat))]) ?_ rfl J;refine Χ ?_;refine W.N6 [(0,.ms 0 n 0 n),(1,R a),(8,R (l:Nat)),(9,.Ν 1 1 0 0),(10,SA (m:Nat)),(11,R (f:Nat)),(12,R (o:Nat))] (e) [.cells 248 1 [SA ((j:Nat):Int)]] ?_ ?_
   .by_cases H:l<=z
    .have wo:i64.wrap ((z:Int)-(l:Int))=(o:Int):=by rw[i64_in _ U,E,if_pos H];omega
     refine Ε (by simp[H]) ?_;refine Ι wo ?_;exact W.stop ⟨rfl,rfl,J⟩
    .refine Η (by simp[H]) ?_
     repeat apply Ο
     exact W.stop ⟨rfl,rfl,by simp[E,H]⟩
   have aQ:i64.wrap ((a:Int)+(o:Int))=(F:Int):=by rw[i64_in _ U];omega
   have an:f<n:=U
   have ao:F<n:=U;obtain⟨L,x,y,ap,u,Z,M,⟨v,w⟩,⟨aq,ar⟩,au,a3,av⟩:=PI enc aa an ao;simp only[az] at ap v w aq ar au av;rw[ap];clear u Z
   repeat apply Ο
   refine W0 (Υ M (Υ v (Υ w (Υ aq (Υ ar (Υ av (Υ an (Υ ao aQ)))))))) ?_;have aR:=XI (i:=f) U;refine Ι aR ?_;refine W.to (aJ (t,C,Go.Sort.swp e f F) ⟨Yt,swp_size aa f F,?_⟩ J) (by rw[au,D]) (by simp[show c+2-t=f+1 by omega]);have aS:c+2-t=f+1:=U;simp only;rw[aS];exact am
end Go.TL
