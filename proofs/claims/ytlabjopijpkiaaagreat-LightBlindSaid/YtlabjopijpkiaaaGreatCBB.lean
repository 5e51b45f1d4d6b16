import Derived.Sort.LotC
import Derived.Sort.LotD5
import Derived.Sort.Walk13a
import Derived.Test.YtlabjopijpkiaaaGreatCAP
import Derived.Test.YtlabjopijpkiaaaGreatCAR
import Derived.Test.YtlabjopijpkiaaaGreatCAS
import Derived.Test.YtlabjopijpkiaaaGreatCAX
import Derived.Test.YtlabjopijpkiaaaGreatCBA
set_option maxHeartbeats 16000000
set_option maxRecDepth 20000
set_option linter.unusedSectionVars false
set_option linter.unusedSimpArgs false
set_option linter.unusedVariables false
namespace Go.TL
open Go.Proofs
variable [bp]
section
variable {P:Program} {m nt:Nat} {k:List Item} {env:Χ} {σ:List Row} {Z:List Item->Χ->List Row->Prop} {E:η->Χ->List Row->Prop}
theorem W.bind {Re:List Item->Χ->List Row->Prop} (h:W P m nt k env σ Re E) (U:∀j e s,Re j e s->W P m nt j e s Z E):W P m nt k env σ Z E:=
 λQ mn x cs b S B H t γ hb π Φ he=>h Q mn x cs b S B H t γ hb π
  (λj e s aF B' H' t' af uH κ iw χ=>by
   cases χ;exact U j e s uH Q mn x cs b aF B' H' t' γ hb iw (λeΙ Δ s2 cU eQ bH t2 cp p8 a9=>Φ eΙ Δ s2 cU eQ bH t2 cp p8 (κ.trans a9)) (λa9 Δ s2 cU eQ bH t2 cp v2 p8 qd=>he a9 Δ s2 cU eQ bH t2 cp v2 p8 (κ.trans qd)))
  he
theorem W.upto {a:Item} (env':Χ) (σ':List Row) (J:W P m nt (a::k) env σ (λj e s=>j=k/\s=σ'/\∀p∈env',a5 e p.1=p.2) E) (U:W P m nt k env' σ' Z E):W P m nt (a::k) env σ Z E:=
 .bind J λj e s ⟨δ,ν,he⟩=>by
  subst δ;subst ν;exact .forget env' he U
theorem W.ku {a:Item} {l:Nat} (env':Χ) (σ':List Row) (J:W P m nt (a::.inBlock l::k) env σ (λj e s=>j=k/\s=σ'/\∀p∈env',a5 e p.1=p.2) E) (U:W P m nt k env' σ' Z E):W P m nt (a::.inBlock l::k) env σ Z E:=
 .bind J λj e s ⟨δ,ν,he⟩=>by
  subst δ;subst ν;exact .forget env' he U
end
section
variable {α:Type} [Inhabited α]
theorem B5 (enc:α->η) (d:Array α) {i:Nat} (h:i<d.size):(d.toList.map enc)[i]?=some (enc d[i]!):=by
 rw[List.getElem?_map,Array.getElem?_toList,qx h];rfl
theorem eC (enc:α->η) {d:Array α} {n:Nat} (Ζ:d.size=n) {i j:Nat} (hi:i<n) (δ:j<n):∃(L:List η) (x y:α),d.toList.map enc=L/\d[i]! = x/\d[j]! = y/\L.length=n/\(L[i]?=some (enc x)/\∀h,L[i]'h=enc x)/\(L[j]?=some (enc y)/\∀h,L[j]'h=enc y)/\(Go.Sort.swp d i j).toList.map enc=(L.set i (enc y)).set j (enc x)/\∃z,∀h,(L.set i (enc y))[j]'h=enc z:=by
 subst Ζ;refine⟨_,_,_,rfl,rfl,rfl,ζ,⟨B5 enc d hi,λh=>?_⟩,⟨B5 enc d δ,λh=>?_⟩,by simp[Go.Sort.swp],if i=j then d[j]! else d[j]!,λh=>?_⟩
 ·have:=B5 enc d hi;rw[a8 h] at this;exact Option.some.inj this
 ·have:=B5 enc d δ;rw[a8 h] at this;exact Option.some.inj this
 ·rw[List.getElem_set,ite_self];split
  ·rfl
  ·have:=B5 enc d δ;rw[a8 (by simpa using h)] at this;exact Option.some.inj this
theorem swp_size {d:Array α} {n:Nat} (Ζ:d.size=n) (i j:Nat):(Go.Sort.swp d i j).size=n:=by simp[Go.Sort.swp,Ζ]
theorem vu (p q:α->Bool) (Ξ:∀x,q x = !p x) (d:Array α) {i j ag ar:Nat} (an:0<i) (fz:i<=j+1) (dP:Go.Sort.scanUp p d j i=ag) (cR:Go.Sort.scanDown q d ag j=ar):i<=ag/\ag<=j+1/\ar<=j/\ag<=ar+1/\(ag<=ar->ag<ar):=by
 obtain⟨b9,bZ,jΩ,Rf⟩:=Go.Sort.scanUp_spec p d j _ i rfl;obtain⟨v1,v2,xa,v4⟩:=Go.Sort.scanDown_spec q d ag j;rw[dP] at b9 bZ Rf;rw[cR] at v1 v2 v4;refine⟨b9,bZ fz,v1,v2 (bZ fz),λh=>?_⟩;rcases Nat.lt_or_ge ag ar with c9|c9
 ·exact c9
 ·have e:ag=ar:=by omega
  have f1:=Rf R
  have f2:=v4 h R;rw[Ξ,<-e,f1] at f2;cases f2
theorem Rg (lt:α->α->Bool) {a b n:Nat}:∀(m i j:Nat) (g:Array α),j+1-i<=m->g.size=n->0<i->i<=j+1->j<b->(Go.Sort.partLoop lt a i j g).2.size=n/\(Go.Sort.partLoop lt a i j g).1<b:=by
 intro m
 induction m with
 | zero=>
  intro i j g hm Ο an fz δ;rw[Go.Sort.partLoop_eq];obtain⟨ag,dP⟩:=b2 (Go.Sort.scanUp (λx=>lt x g[a]!) g j i);obtain⟨ar,cR⟩:=b2 (Go.Sort.scanDown (λx=>!lt x g[a]!) g ag j);obtain⟨s1,s2,kR,pY,kz⟩:=vu (λx=>lt x g[a]!) (λx=>!lt x g[a]!) (λx=>rfl) g an fz dP cR;rw[dP,cR,if_pos (by apply Classical.byContradiction;intro h;have:=kz R;omega)];exact⟨Ο,by show ar<b;omega⟩
 | succ m ω=>
  intro i j g hm Ο an fz δ;rw[Go.Sort.partLoop_eq];obtain⟨ag,dP⟩:=b2 (Go.Sort.scanUp (λx=>lt x g[a]!) g j i);obtain⟨ar,cR⟩:=b2 (Go.Sort.scanDown (λx=>!lt x g[a]!) g ag j);obtain⟨s1,s2,kR,pY,kz⟩:=vu (λx=>lt x g[a]!) (λx=>!lt x g[a]!) (λx=>rfl) g an fz dP cR;rw[dP,cR];by_cases ε:ag > ar
  ·rw[if_pos ε];exact⟨Ο,by show ar<b;omega⟩
  ·rw[if_neg ε];have:=kz R;exact ω (ag+1) (ar-1) _ R (swp_size Ο ag ar) R R R
theorem Rh (lt:α->α->Bool) (hi first r:Nat) (e:Array α) {c k:Nat} (ε:c=2*r+1) (h:c<hi) (χ:k=if(decide (c+1<hi)&&lt e[first+c]! e[first+(c+1)]!)=true then c+1 else c) :
  Go.Sort.siftDown lt hi first r e=if(!lt e[first+r]! e[first+k]!)=true then e else Go.Sort.siftDown lt hi first k (Go.Sort.swp e (first+r) (first+k)):=by
 subst ε;rw[Go.Sort.siftDown,dif_neg R];have Γ:first+(2*r+1)+1=first+(2*r+1+1):=R
 have Δ:2*r+2=2*r+1+1:=R;by_cases b:(decide (2*r+1+1<hi)&&lt e[first+(2*r+1)]! e[first+(2*r+1+1)]!)=true
 ·rw[if_pos b] at χ;subst χ;rw[Γ,Δ,if_pos b];have aY:2*r+1+1<hi:=by simp at b;exact b.1
  simp only[dif_pos aY]
 ·rw[if_neg b] at χ;subst χ;rw[Γ,if_neg b]
theorem B6 {lt:α->α->Bool} {hi first n:Nat}:∀{r:Nat} {e:Array α},e.size=n->(Go.Sort.siftDown lt hi first r e).size=n:=by
 have key:∀(m r:Nat) (e:Array α),hi-r<=m->e.size=n->(Go.Sort.siftDown lt hi first r e).size=n:=by
  intro m
  induction m with
  | zero=>
   intro r e hm he;rw[Go.Sort.siftDown,dif_pos R];exact he
  | succ m ω=>
   intro r e hm he;rw[Go.Sort.siftDown];split
   ·exact he
   ·split
    ·split
     ·exact he
     ·split
      ·exact ω _ _ R (swp_size he _ _)
      ·exact he
    ·split
     ·exact he
     ·exact ω _ _ R (swp_size he _ _)
 intro r e he;exact key _ r e (Nat.le_refl _) he
theorem Ka {lt:α->α->Bool} {hi first n:Nat}:∀{k:Nat} {e:Array α},e.size=n->(Go.Sort.heapBuild lt hi first k e).size=n
 | 0,_,he=>he
 | k+1,e,he=>by
  show(Go.Sort.heapBuild lt hi first k (Go.Sort.siftDown lt hi first k e)).size=n;exact Ka (B6 he)
theorem tM (lt:α->α->Bool) (d:Array α) {a b n:Nat} (κ:a<n) (hb:b<n) (s:Nat):(Go.Sort.order2 lt d a b s).1<n/\(Go.Sort.order2 lt d a b s).2.1<n/\(Go.Sort.order2 lt d a b s).2.2<=s+1:=by
 unfold Go.Sort.order2;split
 ·exact⟨hb,κ,Nat.le_refl _⟩
 ·exact⟨κ,hb,Nat.le_succ _⟩
theorem zi (p:α->Bool) (d:Array α) {i j:Nat} (h:j<i):Go.Sort.scanDown p d i j=j:=by
 cases j with
 | zero=>rfl
 | succ j=>rw[Go.Sort.scanDown,if_neg (by simp;omega)]
end
structure Ri (α:Type) where
 a:Nat
 b:Nat
 lim:Nat
 wb:Bool
 wp:Bool
 e:Array α
def sr {α:Type} [Inhabited α] (a l m:Nat):Nat->Nat->UInt64×Array α->UInt64×Array α
 | 0,_,st=>st
 | k+1,idx,st=>sr a l m k (idx+1) (Go.Sort.breakStep a l m st idx)
theorem Rj {α:Type} [Inhabited α] {d:Array α} {a b l c:Nat} (ξ:l=b-a) (l3:8<=l) (ε:c=a+(l / 4)*2):Go.Sort.breakPatterns d a b=(sr a l (1 <<< Go.Sort.bitsLen l) 3 (c-1) (UInt64.ofNat l,d)).2:=by
 subst ξ;subst ε;unfold Go.Sort.breakPatterns;simp only[ge_iff_le,l3,if_true];rfl
abbrev jZ (n:Int):η:=.z (.int .u64 n)
def pT:Go.Sort.Hint->Int
 | .unknown=>0
 | .increasing=>1
 | .decreasing=>2
theorem FU {α:Type} {enc:α->η} {t k:Nat} {d:Array α} {r2:Row} (hb:∀y,∀a∈(enc y).cells,aJ 0 a) (id:Nat) (r:Row) (b5:id<1) (ι:[Row.cells t k (d.toList.map enc),r2][id]?=some r):e3 1 r:=by
 obtain rfl:id=0:=R;simp at ι;subst ι;intro e he a κ;obtain⟨y,_,rfl⟩:=List.mem_map.1 he;exact aJ.mono (hb y a κ) (Nat.zero_le _)
theorem eΚ {l m:Nat} (h:l<2 ^ 62):IntKind.i64.wrap (Int.tdiv (l:Int) (m:Int))=((l / m:Nat):Int):=by
 rw[Int.tdiv_eq_ediv_of_nonneg R];have J:l / m<=l:=Nat.div_le_self l m;have U:((l:Int) / (m:Int))=((l / m:Nat):Int):=rfl;rw[U];obtain⟨q,Ξ⟩:=aK (l / m);rw[<-Ξ] at J ⊢;rw[IntWalk.i64_in _ R]
theorem vv {l m:Nat} (h:l<2 ^ 62):IntKind.i64.wrap ((l:Int) / (m:Int))=((l / m:Nat):Int):=by
 have:=eΚ (m:=m) h;rw[Int.tdiv_eq_ediv_of_nonneg R] at this;exact this
theorem tN {x:Nat} (h:x<2 ^ 64):IntKind.u64.wrap (x:Int)=(x:Int):=by
 unfold IntKind.wrap;simp[IntKind.bits,IntKind.signed];omega
theorem Kb {x y:Nat} (γ:x<2 ^ 64) (Κ:y<2 ^ 64):z7 .u64 (x:Int) (y:Int)=((x^^^y:Nat):Int):=by
 have h:x^^^y<2 ^ 64:=Nat.xor_lt_two_pow γ Κ
 have e:(BitVec.ofInt 64 (x:Int)^^^BitVec.ofInt 64 (y:Int)).toNat=x^^^y:=by
  rw[BitVec.toNat_xor,BitVec.ofInt_natCast,BitVec.ofInt_natCast,BitVec.toNat_ofNat,BitVec.toNat_ofNat,Nat.mod_eq_of_lt γ,Nat.mod_eq_of_lt Κ]
 show IntKind.u64.wrap (BitVec.ofInt 64 (x:Int)^^^BitVec.ofInt 64 (y:Int)).toNat=_;rw[e];exact tN h
theorem Kc (x k:Nat) (χ:k<=64):IntKind.u64.wrap ((x:Int)*2 ^ min k IntKind.u64.bits)=((x*2 ^ k % 18446744073709551616:Nat):Int):=by
 have e:min k IntKind.u64.bits=k:=Nat.min_eq_left χ;rw[e];have Δ:(x:Int)*2 ^ k=((x*2 ^ k:Nat):Int):=ζ;rw[Δ];obtain⟨y,Κ⟩:=aK (x*2 ^ k);rw[<-Κ];unfold IntKind.wrap;simp[IntKind.bits,IntKind.signed]
theorem eΜ (x k:Nat) (χ:k<=64):(x:Int).fdiv (2 ^ min k IntKind.u64.bits)=((x / 2 ^ k:Nat):Int):=by
 have e:min k IntKind.u64.bits=k:=Nat.min_eq_left χ;rw[e,Int.fdiv_eq_ediv_of_nonneg _ (Int.le_of_lt (Int.pow_pos br))];simp
theorem Rk {x y:Nat} (γ:x<2 ^ 64) (Κ:y<2 ^ 64):ga .u64 (x:Int) (y:Int)=((x&&&y:Nat):Int):=by
 have h:x&&&y<2 ^ 64:=Nat.lt_of_le_of_lt Nat.and_le_left γ
 have e:(BitVec.ofInt 64 (x:Int)&&&BitVec.ofInt 64 (y:Int)).toNat=x&&&y:=by
  rw[BitVec.toNat_and,BitVec.ofInt_natCast,BitVec.ofInt_natCast,BitVec.toNat_ofNat,BitVec.toNat_ofNat,Nat.mod_eq_of_lt γ,Nat.mod_eq_of_lt Κ]
 show IntKind.u64.wrap (BitVec.ofInt 64 (x:Int)&&&BitVec.ofInt 64 (y:Int)).toNat=_;rw[e];exact tN h
theorem h2 {i:Nat} (h:0<i) (U:i<2 ^ 62):IntKind.i64.wrap ((i:Int)-1)=((i-1:Nat):Int):=by
 rw[IntWalk.i64_in _ R];omega
theorem ho {i:Nat} (U:i<2 ^ 61):IntKind.i64.wrap ((i:Int)+1)=((i+1:Nat):Int):=by
 rw[IntWalk.i64_in _ R];omega
theorem vw {a b:Nat} (h:a<=b) (U:b<2 ^ 62):IntKind.i64.wrap ((b:Int)-a)=((b-a:Nat):Int):=by
 rw[IntWalk.i64_in _ R];omega
theorem eΝ {s:aS} (h:il s) {p r:Int×Int} (π:0<=p.2/\p.2<p.1/\p.1<=2) (J:-1<=r.1/\r.1<s.ae.length) (U:-1<=r.2/\r.2<s.ae.length) {l:Int} (ξ:0<=l/\l<s.aj.length):pK s [p.1,p.2] [r.1,r.2] l=(s.hA p r l.toNat,0):=by
 have Γ:k2 p.1=true:=by unfold k2;simp;omega
 have Δ:k2 p.2=true:=by unfold k2;simp;omega
 have Ρ:s.ik r.1=false:=by unfold aS.ik;simp;omega
 have aa:s.ik r.2=false:=by unfold aS.ik;simp;omega
 unfold pK;rw[h.err];simp only[ne_eq,not_true_eq_false,if_false];rw[if_neg (by rw[Γ,Δ,Ρ,aa];simp;omega),if_neg R]
abbrev Δ (r:Int×Int):η:=mq [r.1,r.2]
theorem eΞ (q:Int×Int->Bool) (n i j:Nat):(k7 q n i j).length<=i*(n+1)+j:=by
 have h:(oO n i).length=i*(n+1):=by
  induction i with
  | zero=>simp[oO]
  | succ i ω=>rw[It,List.length_append,ω,Nat.succ_mul];simp[mw]
 unfold k7;refine Nat.le_trans (List.length_filter_le _ _) ?_;rw[List.length_append,h];simp[mw]
end Go.TL
namespace Go.TL
open Go.Conc Go.Proofs
variable [bp]
end Go.TL
namespace Go.TL
open Go.Proofs
variable [bp]
theorem eΟ (d:Array (Int×Int)) (n a b p:Nat) (Ζ:d.size=n) (ν:n<2 ^ 40) (iA:a<=p) (Kd:p<b) (hb:b<=n) (ay:η) (cmp:Int×Int->Int×Int->Int) (b8:aJ 0 ay) (Τ:∀x y,gi Tryz.prog ay [aG x,aG y] (I (cmp x y))) :
  ab Tryz.prog 241 [.ms 0 n 0 n,I a,I b,I p,ay] [.cells 112 2 ((d).toList.map aG)] (λr s=>r=.bq [I (Go.Sort.partition (aB cmp) d a b p).1,a' (Go.Sort.partition (aB cmp) d a b p).2.1]/\s=[.cells 112 2 (((Go.Sort.partition (aB cmp) d a b p).2.2).toList.map aG)]) (λ_ _=>False):=by
 refine ab.body Υ Tryz.func241 rfl rfl Tryz.ntmps241 rfl rfl ζ ?_;have hB:=ho (i:=a) R;have gO:=h2 (i:=b) R R
 repeat apply Ω
 refine lE ?_;have aC:a<n:=R;have aH:p<n:=R;obtain⟨L,x,y,ai,γ,Κ,ξ,⟨J,U⟩,⟨μ,Ε⟩,cr,eD,au⟩:=eC aG Ζ aC aH;refine W.to (σ':=[.cells 112 2 L]) (env':=[(0,.ms 0 n 0 n),(1,I a),(2,I b),(3,I p),(4,ay)]) ?_ (by rw[ai]) ζ;clear γ Κ
 repeat apply Ω
 refine dR (υ ξ (υ J (υ U (υ μ (υ Ε (υ au (υ aC aH))))))) ?_;refine W.to (σ':=[.cells 112 2 ((Go.Sort.swp d a p).toList.map aG)]) (env':=[(0,.ms 0 n 0 n),(1,I a),(2,I b),(3,I p),(4,ay)]) ?_ (by rw[cr]) ζ;clear aC aH J U μ Ε au cr ξ ai L x y eD;obtain⟨e,he⟩:=aK (Go.Sort.swp d a p);have cq:e.size=n:=by rw[he];exact swp_size Ζ a p
 rw[<-he]
 repeat apply Ω
 refine nU (υ hB gO) ?_;refine W.to (σ':=[.cells 112 2 ((e).toList.map aG)]) (env':=[(0,.ms 0 n 0 n),(1,I a),(4,ay),(12,I (a+1:Nat)),(13,I (b-1:Nat))]) ?_ rfl ζ;obtain⟨ag,dP⟩:=b2 (Go.Sort.scanUp (λx=>aB cmp x e[a]!) e (b-1) (a+1));obtain⟨ar,cR⟩:=b2 (Go.Sort.scanDown (λx=>!aB cmp x e[a]!) e ag (b-1));obtain⟨s1,s2,kR,pY,kz⟩:=vu (λx=>aB cmp x e[a]!) (λx=>!aB cmp x e[a]!) (λx=>rfl) e R R dP cR;have cB:Go.Sort.partition (aB cmp) d a b p=if ag > ar then(ar,true,Go.Sort.swp e ar a) else((Go.Sort.partLoop (aB cmp) a (ag+1) (ar-1) (Go.Sort.swp e ag ar)).1,false,Go.Sort.swp (Go.Sort.partLoop (aB cmp) a (ag+1) (ar-1) (Go.Sort.swp e ag ar)).2 (Go.Sort.partLoop (aB cmp) a (ag+1) (ar-1) (Go.Sort.swp e ag ar)).1 a):=by
  unfold Go.Sort.partition;simp only[<-he,dP,cR]
 repeat apply Ω
 repeat apply Ω
 refine W.ku [(0,.ms 0 n 0 n),(1,I a),(4,ay),(12,I (ag:Nat)),(13,I (b-1:Nat))] [.cells 112 2 ((e).toList.map aG)] ?_ ?_
 ·refine W.iter (λi:Nat=>(a+1)<=i/\i<=(b-1)+1/\Go.Sort.scanUp (λx=>aB cmp x e[a]!) e (b-1) i=ag) (λi=>[(0,.ms 0 n 0 n),(1,I a),(4,ay),(12,I (i:Nat)),(13,I (b-1:Nat))]) (λ_=>[.cells 112 2 ((e).toList.map aG)]) (λi=>(b-1)+1-i) ((a+1)) ⟨Nat.le_refl _,R,dP⟩ rfl ζ (λi hi ω=>?_);obtain⟨iL,iR,dh⟩:=hi;by_cases ε:i<=(b-1)
  ·have aC:i<n:=by omega
   have aH:a<n:=R;obtain⟨L,x,y,ai,γ,Κ,ξ,⟨J,U⟩,⟨μ,Ε⟩,-,-⟩:=eC aG cq aC aH;have un:Go.Sort.scanUp (λx=>aB cmp x e[a]!) e (b-1) i=if(aB cmp x y)=true then Go.Sort.scanUp (λx=>aB cmp x e[a]!) e (b-1) (i+1) else i:=by rw[Go.Sort.scanUp];simp[ε,γ,Κ]
   have hw:=ho (i:=i) R;refine W.to (σ':=[.cells 112 2 L]) (env':=[(0,.ms 0 n 0 n),(1,I a),(4,ay),(12,I (i:Nat)),(13,I (b-1:Nat))]) ?_ (by rw[ai]) ζ;clear γ Κ
   repeat apply Ω
   refine W.draw (A:=[]) Υ mixed λΘ θ=>hV (υ ε (υ ξ (υ J (υ U (υ μ (υ Ε (υ aC aH))))))) ?_;refine eZ (Τ x y) ?_;simp;(repeat (rw[dq];simp[]));try rw[dp]
   refine e5 (θ _ _ ?_);by_cases hm:cmp x y<0
   ·refine aD (by simp[hm]) ?_;refine aE hw ?_;exact W.to (ω (i+1) ⟨R,R,by rw[<-dh,un];simp[hm,aB]⟩ (by(try simp only);omega)) (by rw[ai]) (by simp[hw])
   ·refine aA (by simp[hm]) ?_;refine W.exit rfl ?_;exact W.stop ⟨rfl,by rw[ai],by rw[<-dh,un];simp[hm,aB]⟩
  ·repeat apply Ω
   refine dR ε ?_;refine aA rfl ?_;refine W.exit rfl ?_;have e:Go.Sort.scanUp (λx=>aB cmp x e[a]!) e (b-1) i=i:=by rw[Go.Sort.scanUp];simp[ε]
   exact W.stop ⟨rfl,rfl,by rw[<-dh,e];simp⟩
 repeat apply Ω
 refine W.ku [(0,.ms 0 n 0 n),(1,I a),(4,ay),(12,I (ag:Nat)),(13,I (ar:Nat))] [.cells 112 2 ((e).toList.map aG)] ?_ ?_
 ·refine W.iter (λi:Nat=>i<=(b-1)/\ag<=i+1/\Go.Sort.scanDown (λx=>!aB cmp x e[a]!) e ag i=ar) (λi=>[(0,.ms 0 n 0 n),(1,I a),(4,ay),(12,I (ag:Nat)),(13,I (i:Nat))]) (λ_=>[.cells 112 2 ((e).toList.map aG)]) (λi=>i+1-ag) ((b-1)) ⟨Nat.le_refl _,R,cR⟩ rfl ζ (λi hi ω=>?_);obtain⟨iL,iR,dh⟩:=hi;by_cases ε:ag<=i
  ·have aC:i<n:=by omega
   have aH:a<n:=R;obtain⟨L,x,y,ai,γ,Κ,ξ,⟨J,U⟩,⟨μ,Ε⟩,-,-⟩:=eC aG cq aC aH;obtain⟨q,Ξ⟩:∃q,i=q+1:=⟨i-1,R⟩;have un:Go.Sort.scanDown (λx=>!aB cmp x e[a]!) e ag i=if(!aB cmp x y)=true then Go.Sort.scanDown (λx=>!aB cmp x e[a]!) e ag (i-1) else i:=by subst Ξ;rw[Go.Sort.scanDown];simp[ε,γ,Κ]
   have hw:=h2 (i:=i) R R;refine W.to (σ':=[.cells 112 2 L]) (env':=[(0,.ms 0 n 0 n),(1,I a),(4,ay),(12,I (ag:Nat)),(13,I (i:Nat))]) ?_ (by rw[ai]) ζ;clear γ Κ
   repeat apply Ω
   refine W.draw (A:=[]) Υ mixed λΘ θ=>hV (υ ε (υ ξ (υ J (υ U (υ μ (υ Ε (υ aC aH))))))) ?_;refine eZ (Τ x y) ?_;simp;(repeat (rw[dq];simp[]));try rw[dp]
   refine e5 (θ _ _ ?_);by_cases hm:cmp x y<0
   ·refine aA (by simp[hm]) ?_;refine W.exit rfl ?_;exact W.stop ⟨rfl,by rw[ai],by rw[<-dh,un];simp[hm,aB]⟩
   ·refine aD (by simp[hm]) ?_;refine aE hw ?_;exact W.to (ω (i-1) ⟨R,R,by rw[<-dh,un];simp[hm,aB]⟩ (by(try simp only);omega)) (by rw[ai]) (by simp[hw])
  ·repeat apply Ω
   refine dR ε ?_;refine aA rfl ?_;refine W.exit rfl ?_;have e:Go.Sort.scanDown (λx=>!aB cmp x e[a]!) e ag i=i:=by exact zi _ _ R
   exact W.stop ⟨rfl,rfl,by rw[<-dh,e];simp⟩
 repeat apply Ω
 by_cases ε:ag > ar
 ·have a3:((ar:Nat):Int)<(ag:Nat):=by omega
  refine aE a3 ?_;refine aD (by simp[ε]) ?_;have aC:ar<n:=R;have aH:a<n:=R;obtain⟨L,x,y,ai,γ,Κ,ξ,⟨J,U⟩,⟨μ,Ε⟩,cr,eD,au⟩:=eC aG cq aC aH;refine W.to (σ':=[.cells 112 2 L]) (env':=[(0,.ms 0 n 0 n),(1,I a),(4,ay),(12,I (ag:Nat)),(13,I (ar:Nat))]) ?_ (by rw[ai]) ζ;clear γ Κ
  repeat apply Ω
  refine dR (υ ξ (υ J (υ U (υ μ (υ Ε (υ au (υ aC aH))))))) ?_;refine W.to (σ':=[.cells 112 2 ((Go.Sort.swp e ar a).toList.map aG)]) (env':=[(0,.ms 0 n 0 n),(1,I a),(4,ay),(12,I (ag:Nat)),(13,I (ar:Nat))]) ?_ (by rw[cr]) ζ;clear aC aH J U μ Ε au cr ξ ai L x y eD;refine Η ?_;exact W.ret ⟨_,rfl,by rw[cB,if_pos ε];rfl,by rw[cB,if_pos ε]⟩
 have a3:¬((ar:Nat):Int)<(ag:Nat):=R
 have vG:=kz R
 have gJ:=ho (i:=ag) R
 have jB:=h2 (i:=ar) R R;refine aE a3 ?_;refine aA (by simp[ε]) ?_;have aC:ag<n:=R;have aH:ar<n:=R;obtain⟨L,x,y,ai,γ,Κ,ξ,⟨J,U⟩,⟨μ,Ε⟩,cr,eD,au⟩:=eC aG cq aC aH;refine W.to (σ':=[.cells 112 2 L]) (env':=[(0,.ms 0 n 0 n),(1,I a),(4,ay),(12,I (ag:Nat)),(13,I (ar:Nat))]) ?_ (by rw[ai]) ζ;clear γ Κ
 repeat apply Ω
 refine dR (υ ξ (υ J (υ U (υ μ (υ Ε (υ au (υ aC aH))))))) ?_;refine W.to (σ':=[.cells 112 2 ((Go.Sort.swp e ag ar).toList.map aG)]) (env':=[(0,.ms 0 n 0 n),(1,I a),(4,ay),(12,I (ag:Nat)),(13,I (ar:Nat))]) ?_ (by rw[cr]) ζ;clear aC aH J U μ Ε au cr ξ ai L x y eD;have p7:=swp_size cq ag ar;rw[if_neg ε] at cB;obtain⟨g,Ο⟩:=aK (Go.Sort.swp e ag ar);rw[<-Ο] at cB p7;rw[<-Ο];refine aE (υ gJ jB) ?_;refine W.to (σ':=[.cells 112 2 ((g).toList.map aG)]) (env':=[(0,.ms 0 n 0 n),(1,I a),(4,ay),(12,I (ag+1:Nat)),(13,I (ar-1:Nat))]) ?_ rfl (by simp[gJ,jB]);have eΡ:a<ag:=R;have eΤ:ar<b:=R;have eΥ:ag+1<=ar-1+1:=R;clear dP cR a3 ε s1 s2 kR pY kz Ο gJ jB;obtain⟨ak,fq⟩:=b2 (Go.Sort.partLoop (aB cmp) a (ag+1) (ar-1) g)
 repeat apply Ω
 refine W.ku [(0,.ms 0 n 0 n),(1,I a),(13,I ak.1)] [.cells 112 2 ((ak.2).toList.map aG)] ?_ ?_
 ·refine W.iter (λq:Nat×Nat×Array (Int×Int)=>q.2.2.size=n/\a<q.1/\q.1<=q.2.1+1/\q.2.1<b/\Go.Sort.partLoop (aB cmp) a q.1 q.2.1 q.2.2=ak) (λq=>[(0,.ms 0 n 0 n),(1,I a),(4,ay),(12,I (q.1:Nat)),(13,I (q.2.1:Nat))]) (λq=>[.cells 112 2 ((q.2.2).toList.map aG)]) (λq=>q.2.1+1-q.1) (ag+1,ar-1,g) ⟨p7,by(try simp only);omega,by(try simp only);omega,by(try simp only);omega,fq⟩ rfl ζ (λq hi ω=>?_);obtain⟨i,j,f⟩:=q;obtain⟨bL,iL,iR,dh,aI⟩:=hi;simp only at bL iL iR dh aI;obtain⟨ag,dP⟩:=b2 (Go.Sort.scanUp (λx=>aB cmp x f[a]!) f (j) (i));obtain⟨ar,cR⟩:=b2 (Go.Sort.scanDown (λx=>!aB cmp x f[a]!) f ag (j));obtain⟨s1,s2,kR,pY,kz⟩:=vu (λx=>aB cmp x f[a]!) (λx=>!aB cmp x f[a]!) (λx=>rfl) f R R dP cR;have cB:Go.Sort.partLoop (aB cmp) a i j f=if ag > ar then(ar,f) else Go.Sort.partLoop (aB cmp) a (ag+1) (ar-1) (Go.Sort.swp f ag ar):=by
   rw[Go.Sort.partLoop_eq];simp only[dP,cR]
  refine W.to (σ':=[.cells 112 2 ((f).toList.map aG)]) (env':=[(0,.ms 0 n 0 n),(1,I a),(4,ay),(12,I (i:Nat)),(13,I (j:Nat))]) ?_ rfl ζ;refine W.block ?_
  repeat apply Ω
  refine W.ku [(0,.ms 0 n 0 n),(1,I a),(4,ay),(12,I (ag:Nat)),(13,I (j:Nat))] [.cells 112 2 ((f).toList.map aG)] ?_ ?_
  ·refine W.iter (λi:Nat=>(i)<=i/\i<=(j)+1/\Go.Sort.scanUp (λx=>aB cmp x f[a]!) f (j) i=ag) (λi=>[(0,.ms 0 n 0 n),(1,I a),(4,ay),(12,I (i:Nat)),(13,I (j:Nat))]) (λ_=>[.cells 112 2 ((f).toList.map aG)]) (λi=>(j)+1-i) ((i)) ⟨Nat.le_refl _,R,dP⟩ rfl ζ (λi hi ω=>?_);obtain⟨iL,iR,dh⟩:=hi;by_cases ε:i<=(j)
   ·have aC:i<n:=by omega
    have aH:a<n:=R;obtain⟨L,x,y,ai,γ,Κ,ξ,⟨J,U⟩,⟨μ,Ε⟩,-,-⟩:=eC aG bL aC aH;have un:Go.Sort.scanUp (λx=>aB cmp x f[a]!) f (j) i=if(aB cmp x y)=true then Go.Sort.scanUp (λx=>aB cmp x f[a]!) f (j) (i+1) else i:=by rw[Go.Sort.scanUp];simp[ε,γ,Κ]
    have hw:=ho (i:=i) R;refine W.to (σ':=[.cells 112 2 L]) (env':=[(0,.ms 0 n 0 n),(1,I a),(4,ay),(12,I (i:Nat)),(13,I (j:Nat))]) ?_ (by rw[ai]) ζ;clear γ Κ
    repeat apply Ω
    refine W.draw (A:=[]) Υ mixed λΘ θ=>hV (υ ε (υ ξ (υ J (υ U (υ μ (υ Ε (υ aC aH))))))) ?_;refine eZ (Τ x y) ?_;simp;(repeat (rw[dq];simp[]));try rw[dp]
    refine e5 (θ _ _ ?_);by_cases hm:cmp x y<0
    ·refine aD (by simp[hm]) ?_;refine aE hw ?_;exact W.to (ω (i+1) ⟨R,R,by rw[<-dh,un];simp[hm,aB]⟩ (by(try simp only);omega)) (by rw[ai]) (by simp[hw])
    ·refine aA (by simp[hm]) ?_;refine W.exit rfl ?_;exact W.stop ⟨rfl,by rw[ai],by rw[<-dh,un];simp[hm,aB]⟩
   ·repeat apply Ω
    refine dR ε ?_;refine aA rfl ?_;refine W.exit rfl ?_;have e:Go.Sort.scanUp (λx=>aB cmp x f[a]!) f (j) i=i:=by rw[Go.Sort.scanUp];simp[ε]
    exact W.stop ⟨rfl,rfl,by rw[<-dh,e];simp⟩
  repeat apply Ω
  refine W.ku [(0,.ms 0 n 0 n),(1,I a),(4,ay),(12,I (ag:Nat)),(13,I (ar:Nat))] [.cells 112 2 ((f).toList.map aG)] ?_ ?_
  ·refine W.iter (λi:Nat=>i<=(j)/\ag<=i+1/\Go.Sort.scanDown (λx=>!aB cmp x f[a]!) f ag i=ar) (λi=>[(0,.ms 0 n 0 n),(1,I a),(4,ay),(12,I (ag:Nat)),(13,I (i:Nat))]) (λ_=>[.cells 112 2 ((f).toList.map aG)]) (λi=>i+1-ag) ((j)) ⟨Nat.le_refl _,R,cR⟩ rfl ζ (λi hi ω=>?_);obtain⟨iL,iR,dh⟩:=hi;by_cases ε:ag<=i
   ·have aC:i<n:=by omega
    have aH:a<n:=R;obtain⟨L,x,y,ai,γ,Κ,ξ,⟨J,U⟩,⟨μ,Ε⟩,-,-⟩:=eC aG bL aC aH;obtain⟨q,Ξ⟩:∃q,i=q+1:=⟨i-1,R⟩;have un:Go.Sort.scanDown (λx=>!aB cmp x f[a]!) f ag i=if(!aB cmp x y)=true then Go.Sort.scanDown (λx=>!aB cmp x f[a]!) f ag (i-1) else i:=by subst Ξ;rw[Go.Sort.scanDown];simp[ε,γ,Κ]
    have hw:=h2 (i:=i) R R;refine W.to (σ':=[.cells 112 2 L]) (env':=[(0,.ms 0 n 0 n),(1,I a),(4,ay),(12,I (ag:Nat)),(13,I (i:Nat))]) ?_ (by rw[ai]) ζ;clear γ Κ
    repeat apply Ω
    refine W.draw (A:=[]) Υ mixed λΘ θ=>hV (υ ε (υ ξ (υ J (υ U (υ μ (υ Ε (υ aC aH))))))) ?_;refine eZ (Τ x y) ?_;simp;(repeat (rw[dq];simp[]));try rw[dp]
    refine e5 (θ _ _ ?_);by_cases hm:cmp x y<0
    ·refine aA (by simp[hm]) ?_;refine W.exit rfl ?_;exact W.stop ⟨rfl,by rw[ai],by rw[<-dh,un];simp[hm,aB]⟩
    ·refine aD (by simp[hm]) ?_;refine aE hw ?_;exact W.to (ω (i-1) ⟨R,R,by rw[<-dh,un];simp[hm,aB]⟩ (by(try simp only);omega)) (by rw[ai]) (by simp[hw])
   ·repeat apply Ω
    refine dR ε ?_;refine aA rfl ?_;refine W.exit rfl ?_;have e:Go.Sort.scanDown (λx=>!aB cmp x f[a]!) f ag i=i:=by exact zi _ _ R
    exact W.stop ⟨rfl,rfl,by rw[<-dh,e];simp⟩
  repeat apply Ω
  by_cases ε:ag > ar
  ·have a3:((ar:Nat):Int)<(ag:Nat):=by omega
   refine aE a3 ?_;refine aD (by simp[ε]) ?_;refine W.exit rfl ?_;rw[cB,if_pos ε] at aI;exact W.stop ⟨rfl,by rw[<-aI],by rw[<-aI];simp⟩
  ·have a3:¬((ar:Nat):Int)<(ag:Nat):=by omega
   have vG:=kz R
   have gJ:=ho (i:=ag) R
   have jB:=h2 (i:=ar) R R;refine aE a3 ?_;refine aA (by simp[ε]) ?_;have aC:ag<n:=R;have aH:ar<n:=R;obtain⟨L,x,y,ai,γ,Κ,ξ,⟨J,U⟩,⟨μ,Ε⟩,cr,eD,au⟩:=eC aG bL aC aH;refine W.to (σ':=[.cells 112 2 L]) (env':=[(0,.ms 0 n 0 n),(1,I a),(4,ay),(12,I (ag:Nat)),(13,I (ar:Nat))]) ?_ (by rw[ai]) ζ;clear γ Κ
   repeat apply Ω
   refine dR (υ ξ (υ J (υ U (υ μ (υ Ε (υ au (υ aC aH))))))) ?_;refine W.to (σ':=[.cells 112 2 ((Go.Sort.swp f ag ar).toList.map aG)]) (env':=[(0,.ms 0 n 0 n),(1,I a),(4,ay),(12,I (ag:Nat)),(13,I (ar:Nat))]) ?_ (by rw[cr]) ζ;clear aC aH J U μ Ε au cr ξ ai L x y eD;refine aE (υ gJ jB) ?_;exact W.to (ω (ag+1,ar-1,Go.Sort.swp f ag ar) ⟨swp_size bL ag ar,by(try simp only);omega,by(try simp only);omega,by(try simp only);omega,by simp;rw[<-aI,cB,if_neg ε]⟩ (by(try simp only);omega)) rfl (by simp[gJ,jB])
 rw[fq] at cB;have Ξ:=Rg (aB cmp) (a:=a) (b:=b) _ (ag+1) (ar-1) g (Nat.le_refl _) p7 R R R;rw[fq] at Ξ;obtain⟨yU,Ke⟩:=Ξ;obtain⟨j,h⟩:=ak;simp only at yU Ke cB;have aC:j<n:=R;have aH:a<n:=R;obtain⟨L,x,y,ai,γ,Κ,ξ,⟨J,U⟩,⟨μ,Ε⟩,cr,eD,au⟩:=eC aG yU aC aH;refine W.to (σ':=[.cells 112 2 L]) (env':=[(0,.ms 0 n 0 n),(1,I a),(13,I (j:Nat))]) ?_ (by rw[ai]) ζ;clear γ Κ
 repeat apply Ω
 refine dR (υ ξ (υ J (υ U (υ μ (υ Ε (υ au (υ aC aH))))))) ?_;refine W.to (σ':=[.cells 112 2 ((Go.Sort.swp h j a).toList.map aG)]) (env':=[(0,.ms 0 n 0 n),(1,I a),(13,I (j:Nat))]) ?_ (by rw[cr]) ζ;clear aC aH J U μ Ε au cr ξ ai L x y eD;refine Η ?_;exact W.ret ⟨_,rfl,by rw[cB];rfl,by rw[cB]⟩
theorem eΦ (d:Array (Int×Int)) (n a b p:Nat) (Ζ:d.size=n) (ν:n<2 ^ 40) (iA:a<=p) (Kd:p<b) (hb:b<=n) (ay:η) (cmp:Int×Int->Int×Int->Int) (b8:aJ 0 ay) (Τ:∀x y,gi Tryz.prog ay [aG x,aG y] (I (cmp x y))) :
  ab Tryz.prog 240 [.ms 0 n 0 n,I a,I b,I p,ay] [.cells 112 2 ((d).toList.map aG)] (λr s=>r=I (Go.Sort.partitionEqual (aB cmp) d a b p).1/\s=[.cells 112 2 (((Go.Sort.partitionEqual (aB cmp) d a b p).2).toList.map aG)]) (λ_ _=>False):=by
 refine ab.body Υ Tryz.func240 rfl rfl Tryz.ntmps240 rfl rfl ζ ?_;have hB:=ho (i:=a) R;have gO:=h2 (i:=b) R R
 repeat apply Ω
 refine lE ?_;have aC:a<n:=R;have aH:p<n:=R;obtain⟨L,x,y,ai,γ,Κ,ξ,⟨J,U⟩,⟨μ,Ε⟩,cr,eD,au⟩:=eC aG Ζ aC aH;refine W.to (σ':=[.cells 112 2 L]) (env':=[(0,.ms 0 n 0 n),(1,I a),(2,I b),(3,I p),(4,ay)]) ?_ (by rw[ai]) ζ;clear γ Κ
 repeat apply Ω
 refine dR (υ ξ (υ J (υ U (υ μ (υ Ε (υ au (υ aC aH))))))) ?_;refine W.to (σ':=[.cells 112 2 ((Go.Sort.swp d a p).toList.map aG)]) (env':=[(0,.ms 0 n 0 n),(1,I a),(2,I b),(3,I p),(4,ay)]) ?_ (by rw[cr]) ζ;clear aC aH J U μ Ε au cr ξ ai L x y eD;obtain⟨e,he⟩:=aK (Go.Sort.swp d a p);have cq:e.size=n:=by rw[he];exact swp_size Ζ a p
 rw[<-he]
 repeat apply Ω
 refine nU (υ hB gO) ?_;refine W.to (σ':=[.cells 112 2 ((e).toList.map aG)]) (env':=[(0,.ms 0 n 0 n),(1,I a),(4,ay),(11,I (a+1:Nat)),(12,I (b-1:Nat))]) ?_ rfl ζ;obtain⟨ak,fq⟩:=b2 (Go.Sort.partEqLoop (aB cmp) a (a+1) (b-1) e)
 repeat apply Ω
 refine W.ku [(11,I ak.1)] [.cells 112 2 ((ak.2).toList.map aG)] ?_ ?_
 ·refine W.iter (λq:Nat×Nat×Array (Int×Int)=>q.2.2.size=n/\a<q.1/\q.1<=q.2.1+1/\q.2.1<b/\Go.Sort.partEqLoop (aB cmp) a q.1 q.2.1 q.2.2=ak) (λq=>[(0,.ms 0 n 0 n),(1,I a),(4,ay),(11,I (q.1:Nat)),(12,I (q.2.1:Nat))]) (λq=>[.cells 112 2 ((q.2.2).toList.map aG)]) (λq=>q.2.1+1-q.1) (a+1,b-1,e) ⟨cq,by(try simp only);omega,by(try simp only);omega,by(try simp only);omega,fq⟩ rfl ζ (λq hi ω=>?_);obtain⟨i,j,f⟩:=q;obtain⟨bL,iL,iR,dh,aI⟩:=hi;simp only at bL iL iR dh aI;obtain⟨ag,dP⟩:=b2 (Go.Sort.scanUp (λx=>!aB cmp f[a]! x) f (j) (i));obtain⟨ar,cR⟩:=b2 (Go.Sort.scanDown (λx=>aB cmp f[a]! x) f ag (j));obtain⟨s1,s2,kR,pY,kz⟩:=vu (λx=>!aB cmp f[a]! x) (λx=>aB cmp f[a]! x) (λx=>ζ) f R R dP cR;have cB:Go.Sort.partEqLoop (aB cmp) a i j f=if ag > ar then(ag,f) else Go.Sort.partEqLoop (aB cmp) a (ag+1) (ar-1) (Go.Sort.swp f ag ar):=by
   rw[Go.Sort.partEqLoop_eq];simp only[dP,cR]
  refine W.to (σ':=[.cells 112 2 ((f).toList.map aG)]) (env':=[(0,.ms 0 n 0 n),(1,I a),(4,ay),(11,I (i:Nat)),(12,I (j:Nat))]) ?_ rfl ζ;refine W.block ?_
  repeat apply Ω
  refine W.ku [(0,.ms 0 n 0 n),(1,I a),(4,ay),(11,I (ag:Nat)),(12,I (j:Nat))] [.cells 112 2 ((f).toList.map aG)] ?_ ?_
  ·refine W.iter (λi:Nat=>(i)<=i/\i<=(j)+1/\Go.Sort.scanUp (λx=>!aB cmp f[a]! x) f (j) i=ag) (λi=>[(0,.ms 0 n 0 n),(1,I a),(4,ay),(11,I (i:Nat)),(12,I (j:Nat))]) (λ_=>[.cells 112 2 ((f).toList.map aG)]) (λi=>(j)+1-i) ((i)) ⟨Nat.le_refl _,R,dP⟩ rfl ζ (λi hi ω=>?_);obtain⟨iL,iR,dh⟩:=hi;by_cases ε:i<=(j)
   ·have aC:i<n:=by omega
    have aH:a<n:=R;obtain⟨L,x,y,ai,γ,Κ,ξ,⟨J,U⟩,⟨μ,Ε⟩,-,-⟩:=eC aG bL aC aH;have un:Go.Sort.scanUp (λx=>!aB cmp f[a]! x) f (j) i=if(!aB cmp y x)=true then Go.Sort.scanUp (λx=>!aB cmp f[a]! x) f (j) (i+1) else i:=by rw[Go.Sort.scanUp];simp[ε,γ,Κ]
    have hw:=ho (i:=i) R;refine W.to (σ':=[.cells 112 2 L]) (env':=[(0,.ms 0 n 0 n),(1,I a),(4,ay),(11,I (i:Nat)),(12,I (j:Nat))]) ?_ (by rw[ai]) ζ;clear γ Κ
    repeat apply Ω
    refine W.draw (A:=[]) Υ mixed λΘ θ=>hV (υ ε (υ ξ (υ J (υ U (υ μ (υ Ε (υ aC aH))))))) ?_;refine eZ (Τ y x) ?_;simp;(repeat (rw[dq];simp[]));try rw[dp]
    refine e5 (θ _ _ ?_);by_cases hm:cmp y x<0
    ·refine aA (by simp[hm]) ?_;refine W.exit rfl ?_;exact W.stop ⟨rfl,by rw[ai],by rw[<-dh,un];simp[hm,aB]⟩
    ·refine aD (by simp[hm]) ?_;refine aE hw ?_;exact W.to (ω (i+1) ⟨R,R,by rw[<-dh,un];simp[hm,aB]⟩ (by(try simp only);omega)) (by rw[ai]) (by simp[hw])
   ·repeat apply Ω
    refine dR ε ?_;refine aA rfl ?_;refine W.exit rfl ?_;have e:Go.Sort.scanUp (λx=>!aB cmp f[a]! x) f (j) i=i:=by rw[Go.Sort.scanUp];simp[ε]
    exact W.stop ⟨rfl,rfl,by rw[<-dh,e];simp⟩
  repeat apply Ω
  refine W.ku [(0,.ms 0 n 0 n),(1,I a),(4,ay),(11,I (ag:Nat)),(12,I (ar:Nat))] [.cells 112 2 ((f).toList.map aG)] ?_ ?_
  ·refine W.iter (λi:Nat=>i<=(j)/\ag<=i+1/\Go.Sort.scanDown (λx=>aB cmp f[a]! x) f ag i=ar) (λi=>[(0,.ms 0 n 0 n),(1,I a),(4,ay),(11,I (ag:Nat)),(12,I (i:Nat))]) (λ_=>[.cells 112 2 ((f).toList.map aG)]) (λi=>i+1-ag) ((j)) ⟨Nat.le_refl _,R,cR⟩ rfl ζ (λi hi ω=>?_);obtain⟨iL,iR,dh⟩:=hi;by_cases ε:ag<=i
   ·have aC:i<n:=by omega
    have aH:a<n:=R;obtain⟨L,x,y,ai,γ,Κ,ξ,⟨J,U⟩,⟨μ,Ε⟩,-,-⟩:=eC aG bL aC aH;obtain⟨q,Ξ⟩:∃q,i=q+1:=⟨i-1,R⟩;have un:Go.Sort.scanDown (λx=>aB cmp f[a]! x) f ag i=if(aB cmp y x)=true then Go.Sort.scanDown (λx=>aB cmp f[a]! x) f ag (i-1) else i:=by subst Ξ;rw[Go.Sort.scanDown];simp[ε,γ,Κ]
    have hw:=h2 (i:=i) R R;refine W.to (σ':=[.cells 112 2 L]) (env':=[(0,.ms 0 n 0 n),(1,I a),(4,ay),(11,I (ag:Nat)),(12,I (i:Nat))]) ?_ (by rw[ai]) ζ;clear γ Κ
    repeat apply Ω
    refine W.draw (A:=[]) Υ mixed λΘ θ=>hV (υ ε (υ ξ (υ J (υ U (υ μ (υ Ε (υ aC aH))))))) ?_;refine eZ (Τ y x) ?_;simp;(repeat (rw[dq];simp[]));try rw[dp]
    refine e5 (θ _ _ ?_);by_cases hm:cmp y x<0
    ·refine aD (by simp[hm]) ?_;refine aE hw ?_;exact W.to (ω (i-1) ⟨R,R,by rw[<-dh,un];simp[hm,aB]⟩ (by(try simp only);omega)) (by rw[ai]) (by simp[hw])
    ·refine aA (by simp[hm]) ?_;refine W.exit rfl ?_;exact W.stop ⟨rfl,by rw[ai],by rw[<-dh,un];simp[hm,aB]⟩
   ·repeat apply Ω
    refine dR ε ?_;refine aA rfl ?_;refine W.exit rfl ?_;have e:Go.Sort.scanDown (λx=>aB cmp f[a]! x) f ag i=i:=by exact zi _ _ R
    exact W.stop ⟨rfl,rfl,by rw[<-dh,e];simp⟩
  repeat apply Ω
  by_cases ε:ag > ar
  ·have a3:((ar:Nat):Int)<(ag:Nat):=by omega
   refine aE a3 ?_;refine aD (by simp[ε]) ?_;refine W.exit rfl ?_;rw[cB,if_pos ε] at aI;exact W.stop ⟨rfl,by rw[<-aI],by rw[<-aI];simp⟩
  ·have a3:¬((ar:Nat):Int)<(ag:Nat):=by omega
   have vG:=kz R
   have gJ:=ho (i:=ag) R
   have jB:=h2 (i:=ar) R R;refine aE a3 ?_;refine aA (by simp[ε]) ?_;have aC:ag<n:=R;have aH:ar<n:=R;obtain⟨L,x,y,ai,γ,Κ,ξ,⟨J,U⟩,⟨μ,Ε⟩,cr,eD,au⟩:=eC aG bL aC aH;refine W.to (σ':=[.cells 112 2 L]) (env':=[(0,.ms 0 n 0 n),(1,I a),(4,ay),(11,I (ag:Nat)),(12,I (ar:Nat))]) ?_ (by rw[ai]) ζ;clear γ Κ
   repeat apply Ω
   refine dR (υ ξ (υ J (υ U (υ μ (υ Ε (υ au (υ aC aH))))))) ?_;refine W.to (σ':=[.cells 112 2 ((Go.Sort.swp f ag ar).toList.map aG)]) (env':=[(0,.ms 0 n 0 n),(1,I a),(4,ay),(11,I (ag:Nat)),(12,I (ar:Nat))]) ?_ (by rw[cr]) ζ;clear aC aH J U μ Ε au cr ξ ai L x y eD;refine aE (υ gJ jB) ?_;exact W.to (ω (ag+1,ar-1,Go.Sort.swp f ag ar) ⟨swp_size bL ag ar,by(try simp only);omega,by(try simp only);omega,by(try simp only);omega,by simp;rw[<-aI,cB,if_neg ε]⟩ (by(try simp only);omega)) rfl (by simp[gJ,jB])
 refine Η ?_;have cB:Go.Sort.partitionEqual (aB cmp) d a b p=ak:=by unfold Go.Sort.partitionEqual;rw[<-he,fq]
 exact W.ret ⟨_,rfl,by rw[cB];rfl,by rw[cB]⟩
theorem Rl (d:Array (Int×Int)) (n lo hi first:Nat) (Ζ:d.size=n) (ν:n<2 ^ 40) (eΧ:first+hi<=n) (hP:lo<=n) (ay:η) (cmp:Int×Int->Int×Int->Int) (b8:aJ 0 ay) (Τ:∀x y,gi Tryz.prog ay [aG x,aG y] (I (cmp x y))) :
  ab Tryz.prog 254 [.ms 0 n 0 n,I lo,I hi,I first,ay] [.cells 112 2 ((d).toList.map aG)] (λr s=>r=.bq []/\s=[.cells 112 2 ((Go.Sort.siftDown (aB cmp) hi first lo d).toList.map aG)]) (λ_ _=>False):=by
 refine ab.body Υ Tryz.func254 rfl rfl Tryz.ntmps254 rfl rfl ζ ?_;refine Η ?_;obtain⟨ak,fq⟩:=b2 (Go.Sort.siftDown (aB cmp) hi first lo d);rw[fq];refine W.iter (λq:Nat×Array (Int×Int)=>q.2.size=n/\q.1<=n/\Go.Sort.siftDown (aB cmp) hi first q.1 q.2=ak) (λq=>[(0,.ms 0 n 0 n),(2,I hi),(3,I first),(4,ay),(10,I (q.1:Nat))]) (λq=>[.cells 112 2 ((q.2).toList.map aG)]) (λq=>hi-q.1) (lo,d) ⟨Ζ,hP,fq⟩ rfl ζ (λq Ξ ω=>?_);obtain⟨r,e⟩:=q;obtain⟨cq,ι,aI⟩:=Ξ;simp only at cq ι aI;obtain⟨c,ε⟩:=aK (2*r+1);obtain⟨c1,lz⟩:=aK (c+1);obtain⟨ax,g8⟩:=aK (first+r);obtain⟨xr,xn⟩:=aK (first+c);obtain⟨fd,vj⟩:=aK (first+(c+1));have w1:IntKind.i64.wrap (2*(r:Int))=2*(r:Int):=by rw[IntWalk.i64_in _ R]
 have w2:IntKind.i64.wrap (2*(r:Int)+1)=(c:Int):=by rw[IntWalk.i64_in _ R];omega
 have w3:IntKind.i64.wrap ((c:Int)+1)=(c1:Int):=by rw[IntWalk.i64_in _ R];omega
 have w4:IntKind.i64.wrap ((first:Int)+(c:Int))=(xr:Int):=by rw[IntWalk.i64_in _ R];omega
 have kv:IntKind.i64.wrap ((xr:Int)+1)=(fd:Int):=by rw[IntWalk.i64_in _ R];omega
 have iq:IntKind.i64.wrap ((first:Int)+(r:Int))=(ax:Int):=by rw[IntWalk.i64_in _ R];omega
 refine W.to (σ':=[.cells 112 2 ((e).toList.map aG)]) (env':=[(0,.ms 0 n 0 n),(2,I hi),(3,I first),(4,ay),(10,I (r:Nat))]) ?_ rfl ζ;refine aE (υ w1 w2) ?_;by_cases B7:hi<=c
 ·refine aD (by simp[B7]) ?_;refine W.exit rfl ?_;exact W.nil ⟨_,rfl,rfl,by rw[<-aI,Go.Sort.siftDown,dif_pos R]⟩
 refine aA (by simp[B7]) ?_;obtain⟨B,dX⟩:=aK ((decide (c+1<hi)&&aB cmp e[first+c]! e[first+(c+1)]!):Bool);obtain⟨k,χ⟩:∃k,k=if B=true then c+1 else c:=⟨_,rfl⟩
 have eΨ:k<hi:=by
  rw[χ];split
  ·rename_i h;rw[h] at dX;have:=dX.symm;simp at this;omega
  ·omega
 have un:=Rh (aB cmp) hi first r e (k:=k) ε R (by rw[<-dX];exact χ)
 rw[un] at aI
 repeat apply Ω
 refine W.yn (A:=[]) Υ mixed [(40,a' B),(0,.ms 0 n 0 n),(2,I hi),(3,I first),(4,ay),(10,I r),(11,I c)] ?_ (by
  by_cases lj:c1<hi
  ·have aC:xr<n:=by omega
   have aH:fd<n:=R;obtain⟨L,x,y,ai,γ,Κ,ξ,⟨J,U⟩,⟨μ,Ε⟩,-,-⟩:=eC aG cq aC aH;have xu:B=aB cmp x y:=by rw[dX,<-γ,<-Κ,xn,vj];simp[<-lz,lj]
   have Kf:(c1:Int)<hi:=R;rw[ai];clear γ Κ;simp;(repeat (rw[dq];simp[w3,w4,kv,lj,Kf,ξ,J,U,μ,Ε,aC,aH]));(try rw[dp]);refine eZ (Τ x y) ?_;simp;(repeat (rw[dq];simp[]));(try rw[dp]);refine⟨hg (by kernel_rfl),?_⟩;simp[xu,aB]
  ·have xu:B=false:=by rw[dX];simp[<-lz,lj]
   simp;(repeat (rw[dq];simp[w3,lj]));(try rw[dp]);refine⟨hg (by kernel_rfl),?_⟩;simp[xu])
 have eΩ:r<k:=by rw[χ];split<;>omega
 repeat apply Ω
 refine W.upto [(0,.ms 0 n 0 n),(2,I hi),(3,I first),(4,ay),(10,I (r:Nat)),(11,I (k:Nat))] [.cells 112 2 ((e).toList.map aG)] ?_ ?_
 ·cases B with
  | true=>
   refine aD rfl ?_;refine nU w3 ?_;exact W.stop ⟨rfl,rfl,by simp[χ,lz]⟩
  | false=>
   refine aA rfl ?_;refine W.skip ?_;exact W.stop ⟨rfl,rfl,by simp[χ]⟩
 obtain⟨fk,Kg⟩:=aK (first+k);rw[<-g8,<-Kg] at aI;have ir:IntKind.i64.wrap ((first:Int)+(k:Int))=(fk:Int):=by rw[IntWalk.i64_in _ R];omega
 have aC:ax<n:=R
 have aH:fk<n:=R;obtain⟨L,x,y,ai,γ,Κ,ξ,⟨J,U⟩,⟨μ,Ε⟩,cr,eD,au⟩:=eC aG cq aC aH;rw[γ,Κ] at aI;refine W.to (σ':=[.cells 112 2 L]) (env':=[(0,.ms 0 n 0 n),(2,I hi),(3,I first),(4,ay),(10,I (r:Nat)),(11,I (k:Nat))]) ?_ (by rw[ai]) ζ;clear γ Κ
 repeat apply Ω
 refine W.draw (A:=[]) Υ mixed λΘ θ=>hV (υ iq (υ ir (υ ξ (υ J (υ U (υ μ (υ Ε (υ aC aH)))))))) ?_;refine eZ (Τ x y) ?_;simp;(repeat (rw[dq];simp[]));try rw[dp]
 refine e5 (θ _ _ ?_);by_cases hm:cmp x y<0
 ·refine aA (by simp[hm]) ?_
  repeat apply Ω
  refine dR (υ iq (υ ir (υ ξ (υ J (υ U (υ μ (υ Ε (υ au (υ aC aH))))))))) ?_;refine Η ?_;refine W.to (ω (k,Go.Sort.swp e ax fk) ⟨swp_size cq ax fk,by(try simp only);omega,?_⟩ (by(try simp only);omega)) (by rw[cr]) ζ;rw[<-aI];simp[hm,aB]
 ·refine aD (by simp[hm]) ?_;refine Η ?_;exact W.ret ⟨_,rfl,rfl,by rw[<-ai,<-aI];simp[hm,aB]⟩
theorem fα (d:Array (Int×Int)) (n a b:Nat) (Ζ:d.size=n) (ν:n<2 ^ 40) (eO:a<b) (hb:b<=n) (ay:η) (cmp:Int×Int->Int×Int->Int) (b8:aJ 0 ay) (Τ:∀x y,gi Tryz.prog ay [aG x,aG y] (I (cmp x y))) :
  ab Tryz.prog 235 [.ms 0 n 0 n,I a,I b,ay] [.cells 112 2 ((d).toList.map aG)] (λr s=>r=.bq []/\s=[.cells 112 2 ((Go.Sort.heapSort (aB cmp) d a b).toList.map aG)]) (λ_ _=>False):=by
 refine ab.body Υ Tryz.func235 rfl rfl Tryz.ntmps235 rfl rfl ζ ?_;obtain⟨m,hm⟩:=b2 (b-a);have w1:IntKind.i64.wrap ((b:Int)-(a:Int))=(m:Int):=by rw[IntWalk.i64_in _ R];omega
 have w2:IntKind.i64.wrap ((m:Int)-1)=((m-1:Nat):Int):=h2 R R
 have w3:IntKind.i64.wrap (((m-1:Nat):Int) / 2)=(((m-1) / 2:Nat):Int):=vv (m:=2) R;obtain⟨dU,g5⟩:=aK (m-1);obtain⟨dA,jj⟩:=aK ((m-1) / 2);rw[<-jj,<-g5] at w3;rw[<-g5] at w2;have wp:∀k:Nat,k<=n->IntKind.i64.wrap ((k:Int)-1)=(k:Int)-1:=λk χ=>by rw[IntWalk.i64_in _ R]
 obtain⟨iu,qX⟩:=b2 (Go.Sort.heapBuild (aB cmp) m a (dA+1) d);have cB:Go.Sort.heapSort (aB cmp) d a b=Go.Sort.heapPop (aB cmp) a m iu:=by unfold Go.Sort.heapSort;rw[hm,<-jj,qX]
 refine aE (υ w1 (υ w2 w3)) ?_;refine W.ku [(0,.ms 0 n 0 n),(3,ay),(8,I a),(9,I 0),(10,I m)] [.cells 112 2 ((iu).toList.map aG)] ?_ ?_
 ·refine W.iter (λq:Nat×Array (Int×Int)=>q.2.size=n/\q.1<=dA+1/\Go.Sort.heapBuild (aB cmp) m a q.1 q.2=iu) (λq=>[(0,.ms 0 n 0 n),(3,ay),(8,I a),(9,I 0),(10,I m),(11,.z (.int .i64 ((q.1:Int)-1)))]) (λq=>[.cells 112 2 ((q.2).toList.map aG)]) (λq=>q.1) (dA+1,d) ⟨Ζ,Nat.le_refl _,qX⟩ rfl ζ (λq Ξ ω=>?_);obtain⟨k,e⟩:=q;obtain⟨cq,χ,aI⟩:=Ξ;simp only at cq χ aI;cases k with
  | zero=>
   refine Η ?_;refine aA rfl ?_;refine W.exit rfl ?_;exact W.stop ⟨rfl,by rw[<-aI];rfl,ζ⟩
  | succ k=>
   have jX:(0:Int)<=(k:Int):=R;refine W.to (σ':=[.cells 112 2 ((e).toList.map aG)]) (env':=[(0,.ms 0 n 0 n),(3,ay),(8,I a),(9,I 0),(10,I m),(11,.z (.int .i64 ((k:Int))))]) ?_ rfl ζ;refine aE jX ?_;refine aD ζ ?_;refine bh λΘ θ=>?_;refine ab.call (first:=[]) (captured:=[]) ((Rl e n k m a cq ν R R ay cmp b8 Τ).mono (λr s ⟨b9,bZ⟩=>?_) (λ_ _ h=>h.elim));subst b9;subst bZ;simp;(repeat (rw[al];simp[]));apply θ;refine aE (wp k R) ?_;exact W.to (ω (k,Go.Sort.siftDown (aB cmp) m a k e) ⟨B6 cq,by(try simp only);omega,aI⟩ ζ) rfl (by simp[wp k R])
 obtain⟨gL,nv⟩:=b2 (Go.Sort.heapPop (aB cmp) a m iu);have Kh:iu.size=n:=by rw[<-qX];exact Ka Ζ
 rw[nv] at cB;refine aE w2 ?_;refine W.iter (λq:Nat×Array (Int×Int)=>q.2.size=n/\q.1<=m/\Go.Sort.heapPop (aB cmp) a q.1 q.2=gL) (λq=>[(0,.ms 0 n 0 n),(3,ay),(8,I a),(9,I 0),(10,I m),(12,.z (.int .i64 ((q.1:Int)-1)))]) (λq=>[.cells 112 2 ((q.2).toList.map aG)]) (λq=>q.1) (m,iu) ⟨Kh,Nat.le_refl _,nv⟩ rfl (by simp[g5];omega) (λq Ξ ω=>?_);obtain⟨k,e⟩:=q;obtain⟨cq,χ,aI⟩:=Ξ;simp only at cq χ aI;cases k with
 | zero=>
  refine Η ?_;refine aA rfl ?_;refine W.exit rfl ?_;exact W.nil ⟨_,rfl,rfl,by rw[cB,<-aI];rfl⟩
 | succ k=>
  have jX:(0:Int)<=(k:Int):=R;obtain⟨kK,Ki⟩:=aK (a+k);have ir:IntKind.i64.wrap ((a:Int)+(k:Int))=(kK:Int):=by rw[IntWalk.i64_in _ R];omega
  refine W.to (σ':=[.cells 112 2 ((e).toList.map aG)]) (env':=[(0,.ms 0 n 0 n),(3,ay),(8,I a),(9,I 0),(10,I m),(12,.z (.int .i64 ((k:Int))))]) ?_ rfl ζ;refine aE jX ?_;refine aD ζ ?_;have aC:a<n:=R;have aH:kK<n:=R;obtain⟨L,x,y,ai,γ,Κ,ξ,⟨J,U⟩,⟨μ,Ε⟩,cr,eD,au⟩:=eC aG cq aC aH;refine W.to (σ':=[.cells 112 2 L]) (env':=[(0,.ms 0 n 0 n),(3,ay),(8,I a),(9,I 0),(10,I m),(12,.z (.int .i64 ((k:Int))))]) ?_ (by rw[ai]) ζ;clear γ Κ
  repeat apply Ω
  refine dR (υ ξ (υ J (υ U (υ μ (υ Ε (υ au (υ aC (υ aH ir)))))))) ?_;refine W.to (σ':=[.cells 112 2 ((Go.Sort.swp e a kK).toList.map aG)]) (env':=[(0,.ms 0 n 0 n),(3,ay),(8,I a),(9,I 0),(10,I m),(12,.z (.int .i64 ((k:Int))))]) ?_ (by rw[cr]) ζ;clear aC aH J U μ Ε au cr ξ ai L x y eD;refine bh λΘ θ=>?_;refine ab.call (first:=[]) (captured:=[]) ((Rl (Go.Sort.swp e a kK) n 0 k a (swp_size cq a kK) ν R R ay cmp b8 Τ).mono (λr s ⟨b9,bZ⟩=>?_) (λ_ _ h=>h.elim));subst b9;subst bZ;simp;(repeat (rw[al];simp[]));apply θ;refine aE (wp k R) ?_;exact W.to (ω (k,Go.Sort.siftDown (aB cmp) k a 0 (Go.Sort.swp e a kK)) ⟨B6 (swp_size cq a kK),by(try simp only);omega,by rw[Ki];exact aI⟩ ζ) rfl (by simp[wp k R])
theorem fβ (d:Array (Int×Int)) (n a b:Nat) (Ζ:d.size=n) (ν:n<2 ^ 40) (eO:a<b) (hb:b<=n) (ay:η) (cmp:Int×Int->Int×Int->Int) (b8:aJ 0 ay) (Τ:∀x y,gi Tryz.prog ay [aG x,aG y] (I (cmp x y))) :
  ab Tryz.prog 238 [.ms 0 n 0 n,I a,I b,ay] [.cells 112 2 ((d).toList.map aG)] (λr s=>r=.bq []/\s=[.cells 112 2 ((Go.Sort.reverseRange d a b).toList.map aG)]) (λ_ _=>False):=by
 refine ab.body Υ Tryz.func238 rfl rfl Tryz.ntmps238 rfl rfl ζ ?_;have w1:=h2 (i:=b) R R;refine aE w1 ?_;refine W.iter (λq:Nat×Nat×Array (Int×Int)=>q.2.2.size=n/\q.1<n/\q.2.1<n/\Go.Sort.reverseLoop q.1 q.2.1 q.2.2=Go.Sort.reverseRange d a b) (λq=>[(0,.ms 0 n 0 n),(8,I (q.1:Nat)),(9,I (q.2.1:Nat))]) (λq=>[.cells 112 2 ((q.2.2).toList.map aG)]) (λq=>q.2.1-q.1) (a,b-1,d) ⟨Ζ,by(try simp only);omega,by(try simp only);omega,rfl⟩ rfl (by simp[w1]) (λq Ξ ω=>?_);obtain⟨i,j,e⟩:=q;obtain⟨cq,hi,δ,aI⟩:=Ξ;simp only at cq hi δ aI;rw[Go.Sort.reverseLoop] at aI;refine W.to (σ':=[.cells 112 2 ((e).toList.map aG)]) (env':=[(0,.ms 0 n 0 n),(8,I (i:Nat)),(9,I (j:Nat))]) ?_ rfl ζ;refine Η ?_;by_cases ε:i<j
 ·refine aD (by simp[ε]) ?_;rw[if_pos ε] at aI;have w2:=ho (i:=i) R;have w3:=h2 (i:=j) R R;have aC:i<n:=R;have aH:j<n:=R;obtain⟨L,x,y,ai,γ,Κ,ξ,⟨J,U⟩,⟨μ,Ε⟩,cr,eD,au⟩:=eC aG cq aC aH;refine W.to (σ':=[.cells 112 2 L]) (env':=[(0,.ms 0 n 0 n),(8,I (i:Nat)),(9,I (j:Nat))]) ?_ (by rw[ai]) ζ;clear γ Κ
  repeat apply Ω
  refine dR (υ ξ (υ J (υ U (υ μ (υ Ε (υ au (υ aC aH))))))) ?_;refine W.to (σ':=[.cells 112 2 ((Go.Sort.swp e i j).toList.map aG)]) (env':=[(0,.ms 0 n 0 n),(8,I (i:Nat)),(9,I (j:Nat))]) ?_ (by rw[cr]) ζ;clear aC aH J U μ Ε au cr ξ ai L x y eD;refine aE (υ w2 w3) ?_;exact W.to (ω (i+1,j-1,Go.Sort.swp e i j) ⟨swp_size cq i j,by(try simp only);omega,by(try simp only);omega,aI⟩ (by(try simp only);omega)) rfl (by simp[w2,w3])
 ·refine aA (by simp[ε]) ?_;refine W.exit rfl ?_;rw[if_neg ε] at aI;exact W.nil ⟨_,rfl,rfl,by rw[aI]⟩
theorem Kj (d:Array (Int×Int)) (n a b s:Nat) (Ζ:d.size=n) (κ:a<n) (hb:b<n) (ν:s<2 ^ 40) (ay:η) (cmp:Int×Int->Int×Int->Int) (b8:aJ 0 ay) (Τ:∀x y,gi Tryz.prog ay [aG x,aG y] (I (cmp x y))) :
  ab Tryz.prog 258 [.ms 0 n 0 n,I a,I b,.ah 1 1 0 0,ay] [.cells 112 2 (d.toList.map aG),.cells 3 1 [I s]] (λr σ=>r=.bq [I (Go.Sort.order2 (aB cmp) d a b s).1,I (Go.Sort.order2 (aB cmp) d a b s).2.1]/\σ=[.cells 112 2 (d.toList.map aG),.cells 3 1 [I (Go.Sort.order2 (aB cmp) d a b s).2.2]]) (λ_ _=>False):=by
 refine ab.body Υ Tryz.func258 rfl rfl Tryz.ntmps258 rfl rfl ζ ?_;obtain⟨L,ai⟩:=aK (d.toList.map aG);have kl:L.length=n:=by rw[ai];simpa using Ζ
 obtain⟨x,γ⟩:=aK (d[a]!);obtain⟨y,Κ⟩:=aK (d[b]!);have kQ:L[a]?=some (aG x):=by rw[ai,γ,List.getElem?_map,Array.getElem?_toList,qx R];rfl
 have mx:L[b]?=some (aG y):=by rw[ai,Κ,List.getElem?_map,Array.getElem?_toList,qx R];rfl
 have Kk:∀h:a<L.length,L[a]=aG x:=λh=>by have:=kQ;rw[a8 h] at this;exact Option.some.inj this
 have Kl:∀h:b<L.length,L[b]=aG y:=λh=>by have:=mx;rw[a8 h] at this;exact Option.some.inj this
 have hw:IntKind.i64.wrap ((s:Int)+1)=((s+1:Nat):Int):=by rw[IntWalk.i64_in _ R];omega
 have ψ:Go.Sort.order2 (aB cmp) d a b s=if aB cmp y x=true then(b,a,s+1) else(a,b,s):=by unfold Go.Sort.order2;rw[<-γ,<-Κ]
 rw[ψ,<-ai];clear ai γ Κ ψ;refine Η ?_;refine W.draw (A:=[]) Υ mixed λΘ θ=>hV (υ kl (υ kQ (υ mx (υ Kk Kl)))) ?_;refine⟨hb,κ,?_⟩;refine eZ (Τ y x) ?_;simp;(repeat (rw[dq];simp[]));try rw[dp]
 refine e5 (θ _ _ ?_);by_cases hm:cmp y x<0
 ·refine aD (by simp[hm]) ?_;refine aE hw ?_;exact W.ret ⟨_,rfl,by simp[aB,Go.Sort.ltInt,hm],by simp[aB,Go.Sort.ltInt,hm]⟩
 ·refine aA (by simp[hm]) ?_;refine aE hw ?_;exact W.ret ⟨_,rfl,by simp[aB,Go.Sort.ltInt,hm],by simp[aB,Go.Sort.ltInt,hm]⟩
theorem fγ (d:Array (Int×Int)) (n a b c s:Nat) (Ζ:d.size=n) (κ:a<n) (hb:b<n) (ε:c<n) (ν:s<2 ^ 39) (ay:η) (cmp:Int×Int->Int×Int->Int) (b8:aJ 0 ay) (Τ:∀x y,gi Tryz.prog ay [aG x,aG y] (I (cmp x y))) :
  ab Tryz.prog 256 [.ms 0 n 0 n,I a,I b,I c,.ah 1 1 0 0,ay] [.cells 112 2 ((d).toList.map aG),.cells 3 1 [I (s:Nat)]] (λr σ=>r=I (Go.Sort.median (aB cmp) d a b c s).1/\σ=[.cells 112 2 ((d).toList.map aG),.cells 3 1 [I ((Go.Sort.median (aB cmp) d a b c s).2:Nat)]]) (λ_ _=>False):=by
 refine ab.body Υ Tryz.func256 rfl rfl Tryz.ntmps256 rfl rfl ζ ?_;obtain⟨r1,Γ⟩:=b2 (Go.Sort.order2 (aB cmp) d a b s);have f1:=tM (aB cmp) d (a:=a) (b:=b) (n:=n) R R s;have c1:=Kj d n a b s Ζ R R R ay cmp b8 Τ;rw[Γ] at f1 c1;obtain⟨a1,bC,s1⟩:=r1;simp only at f1 c1;obtain⟨r2,Δ⟩:=b2 (Go.Sort.order2 (aB cmp) d bC c s1);have f2:=tM (aB cmp) d (a:=bC) (b:=c) (n:=n) R R s1;have c2:=Kj d n bC c s1 Ζ R R R ay cmp b8 Τ;rw[Δ] at f2 c2;obtain⟨a9,dt,s2⟩:=r2;simp only at f2 c2;obtain⟨r3,a4⟩:=b2 (Go.Sort.order2 (aB cmp) d a1 a9 s2);have f3:=tM (aB cmp) d (a:=a1) (b:=a9) (n:=n) R R s2;have c3:=Kj d n a1 a9 s2 Ζ R R R ay cmp b8 Τ;rw[a4] at f3 c3;obtain⟨cK,fK,kR⟩:=r3;simp only at f3 c3;have hm:Go.Sort.median (aB cmp) d a b c s=(fK,kR):=by unfold Go.Sort.median;simp only[Γ,Δ,a4]
 rw[hm]
 repeat apply Ω
 refine lE ?_;refine bh λΘ θ=>?_;refine ab.call (first:=[]) (captured:=[]) ((c1).mono (λr s ⟨b9,bZ⟩=>?_) (λ_ _ h=>h.elim));subst b9;subst bZ;simp;(repeat (rw[al];simp[]));apply θ;refine bh λΘ θ=>?_;refine ab.call (first:=[]) (captured:=[]) ((c2).mono (λr s ⟨b9,bZ⟩=>?_) (λ_ _ h=>h.elim));subst b9;subst bZ;simp;(repeat (rw[al];simp[]));apply θ;refine bh λΘ θ=>?_;refine ab.call (first:=[]) (captured:=[]) ((c3).mono (λr s ⟨b9,bZ⟩=>?_) (λ_ _ h=>h.elim));subst b9;subst bZ;simp;(repeat (rw[al];simp[]));apply θ;refine Η ?_;exact W.ret ⟨_,rfl,rfl,rfl⟩
theorem fδ (d:Array (Int×Int)) (n a b:Nat) (Ζ:d.size=n) (ν:n<2 ^ 38) (eO:a+12<b) (tO:b<a+50) (hb:b<=n) (ay:η) (cmp:Int×Int->Int×Int->Int) (b8:aJ 0 ay) (Τ:∀x y,gi Tryz.prog ay [aG x,aG y] (I (cmp x y))) :
  ab Tryz.prog 237 [.ms 0 n 0 n,I a,I b,ay] [.cells 112 2 ((d).toList.map aG)] (λr s=>r=.bq [I (Go.Sort.choosePivot (aB cmp) d a b).1,I (pT (Go.Sort.choosePivot (aB cmp) d a b).2)]/\s=[.cells 112 2 ((d).toList.map aG)]) (λ_ _=>False):=by
 refine ab.body Υ Tryz.func237 rfl rfl Tryz.ntmps237 rfl rfl ζ ?_;obtain⟨l,ξ⟩:=aK (b-a);obtain⟨q,Ξ⟩:=aK (l / 4);obtain⟨du,vx⟩:=aK (q*2);obtain⟨gd,FV⟩:=aK (q*3);obtain⟨i,hi⟩:=aK (a+q);obtain⟨j,δ⟩:=aK (a+du);obtain⟨k,χ⟩:=aK (a+gd);obtain⟨fW,em⟩:=b2 (Go.Sort.median (aB cmp) d i j k 0);have vy:=fγ d n i j k 0 Ζ R R R R ay cmp b8 Τ;rw[em] at vy;obtain⟨h3,kJ⟩:=fW;simp only at vy;have cB:Go.Sort.choosePivot (aB cmp) d a b=(h3,if kJ=0 then .increasing else if kJ=12 then .decreasing else .unknown):=by
  have l3:8<=l:=R
  have fε:¬50<=l:=R;simp only[Go.Sort.choosePivot,<-ξ,<-Ξ,Nat.mul_one,<-vx,<-FV,<-hi,<-δ,<-χ,ge_iff_le,if_pos l3,if_neg fε,em]
 rw[cB];have oR:(8:Int)<=(l:Int):=R;have fζ:¬(50:Int)<=(l:Int):=R;have w1:IntKind.i64.wrap ((b:Int)-(a:Int))=(l:Int):=by rw[IntWalk.i64_in _ R];omega
 have w2:IntKind.i64.wrap ((l:Int) / 4)=(q:Int):=by rw[Ξ];exact vv (m:=4) R
 have w3:IntKind.i64.wrap (q:Int)=(q:Int):=IntWalk.i64_in _ R
 have w4:IntKind.i64.wrap ((q:Int)*2)=(du:Int):=by rw[IntWalk.i64_in _ R];omega
 have kv:IntKind.i64.wrap ((q:Int)*3)=(gd:Int):=by rw[IntWalk.i64_in _ R];omega
 have iq:IntKind.i64.wrap ((a:Int)+(q:Int))=(i:Int):=by rw[IntWalk.i64_in _ R];omega
 have ir:IntKind.i64.wrap ((a:Int)+(du:Int))=(j:Int):=by rw[IntWalk.i64_in _ R];omega
 have lf:IntKind.i64.wrap ((a:Int)+(gd:Int))=(k:Int):=by rw[IntWalk.i64_in _ R];omega
 repeat apply Ω
 refine lE ?_
 repeat apply Ω
 refine nU w1 ?_
 repeat apply Ω
 refine dB (A:=[11]) Υ λΘ θ=>bD ?_;apply θ;refine aE (υ w2 (υ w3 (υ w4 (υ kv (υ iq (υ ir (υ lf @oR))))))) ?_;refine aD ζ ?_;refine aE @fζ ?_;refine aA ζ ?_;refine bh λΘ θ=>?_;refine ab.call (first:=[]) (captured:=[]) ((vy).mono (λr s ⟨b9,bZ⟩=>?_) (λ_ _ h=>h.elim));subst b9;subst bZ;simp;(repeat (rw[al];simp[]));apply θ
 repeat apply Ω
 refine lE ?_;refine W.drop (h:=1) ζ ζ (FU tj) rfl [(13,I (h3:Nat)),(55,I (kJ:Nat))] ζ ?_;by_cases an:kJ=0
 ·subst an;refine Η ?_;refine aD rfl ?_;refine Η ?_;exact W.ret ⟨_,rfl,rfl,rfl⟩
 have Km:¬(kJ:Int)=0:=R;refine aE Km ?_;refine aA (by simp[an]) ?_;by_cases gU:kJ=12
 ·subst gU;refine Η ?_;refine aD rfl ?_;refine Η ?_;exact W.ret ⟨_,rfl,rfl,rfl⟩
 have Kn:¬(kJ:Int)=12:=R;refine aE Kn ?_;refine aA (by simp[gU]) ?_;refine Η ?_;exact W.ret ⟨_,rfl,by simp[an,gU,pT],rfl⟩
theorem Rm (d:Array (Int×Int)) (n a b:Nat) (Ζ:d.size=n) (ν:n<2 ^ 40) (eO:a<b) (tO:b<a+50) (hb:b<=n) (ay:η) (cmp:Int×Int->Int×Int->Int) (b8:aJ 0 ay) (Τ:∀x y,gi Tryz.prog ay [aG x,aG y] (I (cmp x y))) :
  ab Tryz.prog 239 [.ms 0 n 0 n,I a,I b,ay] [.cells 112 2 ((d).toList.map aG)] (λr s=>r=a' (Go.Sort.partialInsertionSort (aB cmp) d a b).2/\s=[.cells 112 2 (((Go.Sort.partialInsertionSort (aB cmp) d a b).1).toList.map aG)]) (λ_ _=>False):=by
 refine ab.body Υ Tryz.func239 rfl rfl Tryz.ntmps239 rfl rfl ζ ?_;obtain⟨ag,dP⟩:=b2 (Go.Sort.scanSorted (aB cmp) d b (a+1));have cB:Go.Sort.partialInsertionSort (aB cmp) d a b=(d,decide (ag=b)):=by
  unfold Go.Sort.partialInsertionSort;rw[Go.Sort.partialIns,dP];by_cases h:ag=b
  ·simp[h]
  ·simp[h];omega
 rw[cB];have w1:=ho (i:=a) R;refine aE w1 ?_;refine .loop ?_;refine Η ?_;refine aD rfl ?_
 repeat apply Ω
 refine W.ku [(0,.ms 0 n 0 n),(1,I a),(2,I b),(3,ay),(9,I (ag:Nat))] [.cells 112 2 ((d).toList.map aG)] ?_ ?_
 ·refine W.iter (λi:Nat=>a+1<=i/\i<=b/\Go.Sort.scanSorted (aB cmp) d b i=ag) (λi=>[(0,.ms 0 n 0 n),(1,I a),(2,I b),(3,ay),(9,I (i:Nat))]) (λ_=>[.cells 112 2 ((d).toList.map aG)]) (λi=>b-i) (a+1) ⟨Nat.le_refl _,R,dP⟩ rfl (by simp[w1]) (λi hi ω=>?_);obtain⟨iL,iR,dh⟩:=hi;by_cases ε:i<b
  ·obtain⟨p,π⟩:=aK (i-1);have aC:i<n:=R;have aH:p<n:=R;obtain⟨L,x,y,ai,γ,Κ,ξ,⟨J,U⟩,⟨μ,Ε⟩,-,-⟩:=eC aG Ζ aC aH;have un:Go.Sort.scanSorted (aB cmp) d b i=if(!aB cmp x y)=true then Go.Sort.scanSorted (aB cmp) d b (i+1) else i:=by rw[Go.Sort.scanSorted];simp[ε,γ,<-π,Κ]
   have hw:=ho (i:=i) R
   have gO:IntKind.i64.wrap ((i:Int)-1)=(p:Int):=by rw[IntWalk.i64_in _ R];omega
   refine W.to (σ':=[.cells 112 2 L]) (env':=[(0,.ms 0 n 0 n),(1,I a),(2,I b),(3,ay),(9,I (i:Nat))]) ?_ (by rw[ai]) ζ;clear γ Κ
   repeat apply Ω
   refine W.draw (A:=[]) Υ mixed λΘ θ=>hV (υ ε (υ gO (υ ξ (υ J (υ U (υ μ (υ Ε (υ aC aH)))))))) ?_;refine eZ (Τ x y) ?_;simp;(repeat (rw[dq];simp[]));try rw[dp]
   refine e5 (θ _ _ ?_);by_cases hm:cmp x y<0
   ·refine aA (by simp[hm]) ?_;refine W.exit rfl ?_;exact W.stop ⟨rfl,by rw[ai],by rw[<-dh,un];simp[hm,aB]⟩
   ·refine aD (by simp[hm]) ?_;refine aE hw ?_;exact W.to (ω (i+1) ⟨R,R,by rw[<-dh,un];simp[hm,aB]⟩ (by(try simp only);omega)) (by rw[ai]) (by simp[hw])
  ·repeat apply Ω
   refine dR ε ?_;refine aA rfl ?_;refine W.exit rfl ?_;have e:Go.Sort.scanSorted (aB cmp) d b i=i:=by rw[Go.Sort.scanSorted];simp[ε]
   exact W.stop ⟨rfl,rfl,by rw[<-dh,e];simp⟩
 by_cases tP:ag=b
 ·have g:(ag:Int)=(b:Int):=by omega
  refine aE g ?_;refine aD (by simp[tP]) ?_;refine Η ?_;exact W.ret ⟨_,rfl,by simp[tP],rfl⟩
 ·have g:¬(ag:Int)=(b:Int):=by omega
  have aa:((b-a:Nat):Int)<50:=R
  have w2:=vw (a:=a) (b:=b) R R;refine aE g ?_;refine aA (by simp[tP]) ?_;refine aE (υ w2 aa) ?_;refine aD ζ ?_;refine Η ?_;exact W.ret ⟨_,rfl,by simp[tP],rfl⟩
theorem Rn (l:Nat) (ξ:l<256):az Tryz.prog 226 [I l] (jZ ((1 <<< Go.Sort.bitsLen l:Nat):Int)):=by
 refine ab.body Υ Tryz.func226 rfl rfl Tryz.ntmps226 rfl rfl ζ ?_;have Δ:IntKind.u64.wrap (l:Int)=l:=tN R;(repeat (first|apply Ω|(refine dx λΘ θ=>?_;simp;(repeat (rw[al];simp[Δ]));apply θ)));(repeat apply Ω);refine dx λΘ θ=>?_;simp;(repeat (rw[al];simp[Δ]));refine az.d (uY l ξ) (bD ?_);apply θ;refine Η ?_;refine W.ret ⟨_,rfl,.of ?_,rfl⟩;have hb:=(Go.Sort.bitsLen_le_iff l 8).2 ξ;have e:=Kc 1 (Go.Sort.bitsLen l) R;have a4:1*2 ^ Go.Sort.bitsLen l % 18446744073709551616=1 <<< Go.Sort.bitsLen l:=by
  rw[Nat.one_mul,Nat.one_shiftLeft,Nat.mod_eq_of_lt (Nat.lt_of_le_of_lt (Nat.pow_le_pow_right R hb) br)]
 rw[a4] at e;show jZ (IntKind.u64.wrap (2 ^ min (Go.Sort.bitsLen l) IntKind.u64.bits))=_;rw[<-e];simp
theorem Ro (x:Nat) (γ:x<2 ^ 64):ab Tryz.prog 227 [.ah 0 1 0 0] [.cells 248 1 [jZ (x:Int)]] (λr s=>r=jZ ((Go.Sort.xorNextN x:Nat):Int)/\s=[.cells 248 1 [jZ ((Go.Sort.xorNextN x:Nat):Int)]]) (λ_ _=>False):=by
 refine ab.body Υ Tryz.func227 rfl rfl Tryz.ntmps227 rfl rfl ζ ?_;obtain⟨dU,g5⟩:=aK (x*2 ^ 13 % 18446744073709551616);obtain⟨nK,qV⟩:=aK (x^^^dU);obtain⟨dA,jj⟩:=aK (nK / 2 ^ 7);obtain⟨qd,xp⟩:=aK (nK^^^dA);obtain⟨mo,Ko⟩:=aK (qd*2 ^ 17 % 18446744073709551616);obtain⟨z3,xq⟩:=aK (qd^^^mo);have cB:Go.Sort.xorNextN x=z3:=by rw[xq,Ko,xp,jj,qV,g5];rfl
 rw[cB];have l1:dU<2 ^ 64:=R;have k1:nK<2 ^ 64:=by rw[qV];exact Nat.xor_lt_two_pow γ l1
 have l2:dA<2 ^ 64:=R
 have cp:qd<2 ^ 64:=by rw[xp];exact Nat.xor_lt_two_pow k1 l2
 have o2:mo<2 ^ 64:=R
 have a1:=Kc x 13 R;rw[<-g5] at a1;have a9:=Kb γ l1;rw[<-qV] at a9;have cK:=eΜ nK 7 R;rw[<-jj] at cK;have gx:=Kb k1 l2;rw[<-xp] at gx;have h6:=Kc qd 17 R;rw[<-Ko] at h6;have mM:=Kb cp o2;rw[<-xq] at mM;clear xq Ko xp jj qV g5 l1 k1 l2 cp o2 cB;refine Η ?_;refine dR (υ a1 a9) ?_;refine Η ?_;refine dR (υ cK gx) ?_;refine Η ?_;refine dR (υ h6 mM) ?_;refine Η ?_;exact W.ret ⟨_,rfl,rfl,rfl⟩
theorem fη (d:Array (Int×Int)) (n a b:Nat) (Ζ:d.size=n) (ν:n<2 ^ 40) (eO:a+12<b) (tO:b<a+50) (hb:b<=n) (ay:η) (cmp:Int×Int->Int×Int->Int) (b8:aJ 0 ay) (Τ:∀x y,gi Tryz.prog ay [aG x,aG y] (I (cmp x y))) :
  ab Tryz.prog 236 [.ms 0 n 0 n,I a,I b,ay] [.cells 112 2 ((d).toList.map aG)] (λr s=>r=.bq []/\s=[.cells 112 2 ((Go.Sort.breakPatterns d a b).toList.map aG)]) (λ_ _=>False):=by
 refine ab.body Υ Tryz.func236 rfl rfl Tryz.ntmps236 rfl rfl ζ ?_;obtain⟨l,ξ⟩:=aK (b-a);obtain⟨q,Ξ⟩:=aK (l / 4);obtain⟨du,vx⟩:=aK (q*2);obtain⟨c,ε⟩:=aK (a+du);obtain⟨dY,jM⟩:=aK (c-1);obtain⟨c1,lz⟩:=aK (c+1);obtain⟨m,hm⟩:=aK (1 <<< Go.Sort.bitsLen l);have Kp:Go.Sort.bitsLen l<=6:=(Go.Sort.bitsLen_le_iff l 6).2 R;have Ep:l<m/\m<=64/\m<=2*l:=by
  have J:=Go.Sort.lt_two_pow_bitsLen l
  have U:=Go.Sort.two_pow_bitsLen_le (n:=l) R;rw[hm,Nat.one_shiftLeft];exact⟨J,Nat.le_trans (Nat.pow_le_pow_right R Kp) br,U⟩
 obtain⟨ak,fq⟩:=b2 (sr a l m 3 dY (UInt64.ofNat l,d));have cB:Go.Sort.breakPatterns d a b=ak.2:=by rw[Rj (c:=c) ξ R (by rw[ε,vx,Ξ]),<-hm,<-jM,fq]
 rw[cB];have w1:IntKind.i64.wrap ((b:Int)-(a:Int))=(l:Int):=by rw[IntWalk.i64_in _ R];omega
 have w2:IntKind.i64.wrap ((l:Int) / 4)=(q:Int):=by rw[Ξ];exact vv (m:=4) R
 have w4:IntKind.i64.wrap ((q:Int)*2)=(du:Int):=by rw[IntWalk.i64_in _ R];omega
 have iq:IntKind.i64.wrap ((a:Int)+(du:Int))=(c:Int):=by rw[IntWalk.i64_in _ R];omega
 have ir:IntKind.i64.wrap ((c:Int)-1)=(dY:Int):=by rw[IntWalk.i64_in _ R];omega
 have lf:IntKind.i64.wrap ((c:Int)+1)=(c1:Int):=by rw[IntWalk.i64_in _ R];omega
 have Kq:IntKind.u64.wrap (l:Int)=(l:Int):=tN R
 have Kr:IntKind.u64.wrap ((m:Int)-1)=((m-1:Nat):Int):=by
  have e:(m:Int)-1=((m-1:Nat):Int):=R;rw[e];exact tN R
 have oR:(8:Int)<=(l:Int):=R
 have cF:(UInt64.ofNat l).toNat=l:=by rw[UInt64.toNat_ofNat'];exact Nat.mod_eq_of_lt R
 refine aE (υ w1 @oR) ?_;refine aD ζ ?_
 repeat apply Ω
 refine dB (A:=[9]) Υ λΘ θ=>gS Kq ?_;apply θ;have uM:=Rn l R;rw[<-hm] at uM;refine bh λΘ θ=>?_;refine az.c uM (bI.refl _) ζ ζ ?_;simp;(repeat (rw[al];simp[]));apply θ;refine aE (υ w2 (υ w4 (υ iq ir))) ?_;refine W.iter (λy:Nat×UInt64×Array (Int×Int)=>y.1<=3/\y.2.2.size=n/\sr a l m y.1 (c+2-y.1) y.2=ak) (λy=>[(0,.ms 0 n 0 n),(1,I a),(8,I (l:Nat)),(9,.ah 1 1 0 0),(10,jZ (m:Nat)),(11,I (c+2-y.1:Nat))]) (λy=>[.cells 112 2 ((y.2.2).toList.map aG),.cells 248 1 [jZ ((y.2.1.toNat:Nat):Int)]]) (λy=>y.1) (3,UInt64.ofNat l,d) ⟨Nat.le_refl _,Ζ,by simp only;rw[<-fq,show c+2-3=dY by omega]⟩ (by simp only;rw[cF]) (by simp[jM]) (λy Κ ω=>?_);obtain⟨t,st,e⟩:=y;obtain⟨Ν,cq,aI⟩:=Κ;simp only at Ν cq aI;obtain⟨bB,m0⟩:=aK (c+2-t);obtain⟨x,γ⟩:=aK st.toNat;have nN:x<2 ^ 64:=by rw[γ];exact st.toNat_lt
 rw[<-m0] at aI;refine W.to (σ':=[.cells 112 2 ((e).toList.map aG),.cells 248 1 [jZ ((x:Nat):Int)]]) (env':=[(0,.ms 0 n 0 n),(1,I a),(8,I (l:Nat)),(9,.ah 1 1 0 0),(10,jZ (m:Nat)),(11,I (bB:Nat))]) ?_ (by rw[γ]) (by simp[m0]);cases t with
 | zero=>
  have g:¬(bB:Int)<=(c1:Int):=R;refine aE (υ w2 (υ w4 (υ iq (υ lf g)))) ?_;refine aA ζ ?_;refine W.exit rfl ?_;refine W.drop (h:=1) ζ ζ (FU tj) rfl [] ζ ?_;exact W.nil ⟨_,rfl,rfl,by rw[<-aI];rfl⟩
 | succ t=>
  have g:(bB:Int)<=(c1:Int):=R;obtain⟨tQ,vX⟩:=aK (Go.Sort.xorNext st);obtain⟨kg,kW⟩:=aK tQ.toNat;have Ks:kg=Go.Sort.xorNextN x:=by rw[kW,vX,Go.Sort.xorNext_toNat,γ]
  have Kt:kg<2 ^ 64:=by rw[kW];exact tQ.toNat_lt
  have B8:=Ro x nN;rw[<-Ks] at B8;obtain⟨z,Φ⟩:=aK (kg&&&(m-1));have gu:z<=m-1:=by rw[Φ];exact Nat.and_le_right
  have gG:ga .u64 (kg:Int) ((m-1:Nat):Int)=(z:Int):=by rw[Φ];exact Rk Kt R
  have Ku:IntKind.i64.wrap (z:Int)=(z:Int):=IntWalk.i64_in _ R;obtain⟨o,ψ⟩:=aK (if z>=l then z-l else z);have yc:o<l:=by rw[ψ];split<;>omega
  have nv:sr a l m t (bB+1) (tQ,Go.Sort.swp e bB (a+o))=ak:=by
   rw[<-aI];show _=sr a l m t (bB+1) (Go.Sort.breakStep a l m (st,e) bB);unfold Go.Sort.breakStep;simp only;rw[<-vX,<-kW,<-Φ,<-ψ]
  obtain⟨tR,Kv⟩:=aK (a+o);rw[<-Kv] at nv;refine aE (υ w2 (υ w4 (υ iq (υ lf g)))) ?_;refine aD ζ ?_;refine bh λΘ θ=>?_;refine ab.one B8 1 rfl (by simp[iJ]) (by simp[iJ]) (by simp[fR,nS]) (by simp[fR,nS]) rfl ?_;simp[ed,hS];(repeat (rw[al];simp[Kr,gG,Ku]));apply θ;refine W.to (σ':=[.cells 112 2 ((e).toList.map aG),.cells 248 1 [jZ ((kg:Nat):Int)]]) (env':=[(0,.ms 0 n 0 n),(1,I a),(8,I (l:Nat)),(9,.ah 1 1 0 0),(10,jZ (m:Nat)),(11,I (bB:Nat)),(12,I (z:Nat))]) ?_ rfl ζ;refine Η ?_;refine W.upto [(0,.ms 0 n 0 n),(1,I a),(8,I (l:Nat)),(9,.ah 1 1 0 0),(10,jZ (m:Nat)),(11,I (bB:Nat)),(12,I (o:Nat))] [.cells 112 2 ((e).toList.map aG),.cells 248 1 [jZ ((kg:Nat):Int)]] ?_ ?_
  ·by_cases lA:l<=z
   ·have wo:IntKind.i64.wrap ((z:Int)-(l:Int))=(o:Int):=by rw[IntWalk.i64_in _ R,ψ,if_pos lA];omega
    refine aD (by simp[lA]) ?_;refine aE wo ?_;exact W.stop ⟨rfl,rfl,ζ⟩
   ·refine aA (by simp[lA]) ?_
    repeat apply Ω
    exact W.stop ⟨rfl,rfl,by simp[ψ,lA]⟩
  have Kw:IntKind.i64.wrap ((a:Int)+(o:Int))=(tR:Int):=by rw[IntWalk.i64_in _ R];omega
  have aC:bB<n:=R
  have aH:tR<n:=R;obtain⟨L,x,y,ai,γ,Κ,ξ,⟨J,U⟩,⟨μ,Ε⟩,cr,eD,au⟩:=eC aG cq aC aH;rw[ai];clear γ Κ
  repeat apply Ω
  refine dR (υ ξ (υ J (υ U (υ μ (υ Ε (υ au (υ aC (υ aH Kw)))))))) ?_;have Kx:=ho (i:=bB) R;refine aE Kx ?_;refine W.to (ω (t,tQ,Go.Sort.swp e bB tR) ⟨by(try simp only);omega,swp_size cq bB tR,?_⟩ ζ) (by rw[cr,kW]) (by simp[show c+2-t=bB+1 by omega]);have Γ:c+2-t=bB+1:=R;simp only;rw[Γ];exact nv
end Go.TL
