import Derived.Test.YtlabjopijpkiaaaGreatCAN
import Derived.Test.YtlabjopijpkiaaaGreatCAP
import Derived.Test.YtlabjopijpkiaaaGreatCAR
set_option maxHeartbeats 16000000
set_option maxRecDepth 20000
set_option linter.unusedSectionVars false
set_option linter.unusedSimpArgs false
set_option linter.unusedVariables false
namespace Go.TL
open Go.Proofs
variable [bp]
theorem Xv (ay:η) (b8:aJ 0 ay):az Tryz.prog 234 [.sl true 0 [],I 0,I 0,ay] (.bq []):=by
 refine ab.body Υ Tryz.func234 rfl rfl Tryz.ntmps234 rfl rfl ζ ?_;refine Η ?_;refine .loop ?_;refine Η ?_;refine aA rfl ?_;refine W.exit rfl ?_;exact W.nil ⟨_,rfl,c6.refl _,rfl⟩
theorem Xw (lim:Nat) (ay:η) (b8:aJ 0 ay):az Tryz.prog 211 [.sl true 0 [],I 0,I 0,I lim,ay] (.bq []):=by
 refine ab.body Υ Tryz.func211 rfl rfl Tryz.ntmps211 rfl rfl ζ ?_;refine Η ?_;refine .loop ?_;refine Η ?_;refine aD rfl ?_;refine bh λΘ θ=>?_;refine az.c (Xv ay b8) (bI.refl _) (by simp[b8]) ζ ?_;simp;(repeat (rw[al];simp[]));apply θ;exact W.ret ⟨_,rfl,c6.refl _,rfl⟩
theorem Xx (ay:η) (b8:aJ 0 ay):az Tryz.prog 173 [.sl true 0 [],ay] (.bq []):=by
 refine ab.body Υ Tryz.func173 rfl rfl Tryz.ntmps173 rfl rfl ζ ?_;have Δ:IntKind.u64.wrap (0:Int)=0:=br;refine Η ?_;(repeat apply Ω);refine dx λΘ θ=>?_;simp;(repeat (rw[al];simp[Δ]));refine az.d (uY 0 R) (bD ?_);refine az.c (Xw (Go.Sort.bitsLen 0) ay b8) (bI.refl _) (by simp[b8]) ζ ?_;simp;(repeat (rw[al];simp[]));apply θ;exact W.nil ⟨_,rfl,c6.refl _,rfl⟩
theorem Xy (ay:η) (b8:aJ 0 ay):az Tryz.prog 217 [.sl true 0 [],I 0,I 0,ay] (.bq []):=by
 refine ab.body Υ Tryz.func217 rfl rfl Tryz.ntmps217 rfl rfl ζ ?_;refine Η ?_;refine .loop ?_;refine Η ?_;refine aA rfl ?_;refine W.exit rfl ?_;exact W.nil ⟨_,rfl,c6.refl _,rfl⟩
theorem Xz (lim:Nat) (ay:η) (b8:aJ 0 ay):az Tryz.prog 182 [.sl true 0 [],I 0,I 0,I lim,ay] (.bq []):=by
 refine ab.body Υ Tryz.func182 rfl rfl Tryz.ntmps182 rfl rfl ζ ?_;refine Η ?_;refine .loop ?_;refine Η ?_;refine aD rfl ?_;refine bh λΘ θ=>?_;refine az.c (Xy ay b8) (bI.refl _) (by simp[b8]) ζ ?_;simp;(repeat (rw[al];simp[]));apply θ;exact W.ret ⟨_,rfl,c6.refl _,rfl⟩
theorem XA (ay:η) (b8:aJ 0 ay):az Tryz.prog 147 [.sl true 0 [],ay] (.bq []):=by
 refine ab.body Υ Tryz.func147 rfl rfl Tryz.ntmps147 rfl rfl ζ ?_;have Δ:IntKind.u64.wrap (0:Int)=0:=br;refine Η ?_;(repeat apply Ω);refine dx λΘ θ=>?_;simp;(repeat (rw[al];simp[Δ]));refine az.d (uY 0 R) (bD ?_);refine az.c (Xz (Go.Sort.bitsLen 0) ay b8) (bI.refl _) (by simp[b8]) ζ ?_;simp;(repeat (rw[al];simp[]));apply θ;exact W.nil ⟨_,rfl,c6.refl _,rfl⟩
theorem eJ.struct {h id k:Nat} {σ:List Row} {t:TypeId} {l cs:List η} (b5:h<=id) (bQ:σ[id]?=some (.cells t k [.a0 l])) (hlen:cs.length=l.length) (H:∀(x:Nat) (a bT:η),l[x]?=some a->cs[x]?=some bT->eJ h σ a bT):eJ h σ (.ah id 1 0 0) (.ao cs):=
 .ah b5 bQ rfl rfl (by simp[η.cells,hlen]) λx a bT J U=>H x a bT (by simpa[η.cells] using J) U
abbrev ek (a b c:η):Row:=.cells 26 3 [.a0 [a,b,c]]
abbrev dM (r:Int×Int):η×η:=(aG r,a' true)
theorem XB (x y:Int×Int):aeqv bg 112 (aG x) (aG y)=some (decide (x=y)):=by
 simp[aeqv,kh,m2];rw[Bool.eq_iff_iff];simp[Prod.ext_iff]
theorem XC (r:Int×Int):∀(l:List (Int×Int)) (n:Nat),r∉l->ia bg 112 (aG r) (l.map dM) n=some none:=by
 intro l
 induction l with
 | nil=>intro n _;rfl
 | cons x l ω=>
  intro n h;simp only[List.map_cons,ia];have J:¬r=x:=λe=>h (by simp[e]);have:=XB r x;rw[this,decide_eq_false J];exact ω (n+1) λhm=>h (by simp[hm])
def mw (i j:Nat):List (Int×Int):=(List.range j).map λy:Nat=>((i:Int)-1,(y:Int)-1)
def oO (n i:Nat):List (Int×Int):=(List.range i).flatMap λx=>mw x (n+1)
def wN (n:Nat):List (Int×Int):=oO n (n+1)
theorem N1 (i j:Nat):mw i (j+1)=mw i j++[((i:Int)-1,(j:Int)-1)]:=by simp[mw,List.range_succ]
theorem It (n i:Nat):oO n (i+1)=oO n i++mw i (n+1):=by simp[oO,List.range_succ]
theorem EF {i j:Nat} {r:Int×Int} (h:r∈mw i j):r.1=(i:Int)-1/\r.2<(j:Int)-1:=by
 unfold mw at h;obtain⟨y,Κ,rfl⟩:=List.mem_map.1 h;have:=List.mem_range.1 Κ;exact⟨rfl,by simp;omega⟩
theorem N2 {n i:Nat} {r:Int×Int} (h:r∈oO n i):r.1<(i:Int)-1:=by
 unfold oO at h;obtain⟨x,γ,U⟩:=List.mem_flatMap.1 h;have:=List.mem_range.1 γ;have:=(EF U).1;omega
def iO (s:aS) (p:Int×Int) (c:Nat):List (Int×Int):=(wN s.ae.length).filter λr=>s.rO p r c
theorem XD (i j:Nat):(mw i j).Pairwise λx y=>x.1<y.1\/(x.1=y.1/\x.2<y.2):=by
 induction j with
 | zero=>simp[mw]
 | succ j ω=>
  rw[N1,List.pairwise_append];refine⟨ω,ζ,λa κ b hb=>?_⟩;simp at hb;subst hb;have:=EF κ;exact .inr ⟨this.1,by simpa using this.2⟩
theorem XE (n i:Nat):(oO n i).Pairwise λx y=>x.1<y.1\/(x.1=y.1/\x.2<y.2):=by
 induction i with
 | zero=>simp[oO]
 | succ i ω=>
  rw[It,List.pairwise_append];refine⟨ω,XD _ _,λa κ b hb=>.inl ?_⟩;have:=N2 κ;have:=(EF hb).1;omega
theorem XF (s:aS) (p:Int×Int) (c:Nat):(iO s p c).Pairwise λx y=>x.1<y.1\/(x.1=y.1/\x.2<y.2):=(XE _ _).filter _
def EG (N:Nat):Prop:=∀(l:List (Int×Int)),l.length<=N->ab Tryz.prog 173 [.ms 0 l.length 0 l.length,.fn (.func 174) [] []] [.cells 112 2 (l.map aG)] (λr s=>r=.bq []/\s=[.cells 112 2 ((l.mergeSort lI).map aG)]) (λ_ _=>False)
theorem XG:EG 12:=λl ξ=>by
 have h:=WR l.toArray l.length ζ ξ (.fn (.func 174) [] []) nW (by simp[mg]) (λx y=>az.p (NG x y) (bI.refl _) ζ ζ);rw[NZ yx N0 l] at h;exact h
def k7 (q:Int×Int->Bool) (n i j:Nat):List (Int×Int):=(oO n i++mw i j).filter q
theorem XH {q:Int×Int->Bool} {n:Nat}:k7 q n 0 0=[]:=by simp[k7,oO,mw]
theorem XI {q:Int×Int->Bool} {n i:Nat}:k7 q n i (n+1)=k7 q n (i+1) 0:=by simp[k7,It,mw]
theorem XJ {q:Int×Int->Bool} {n i j:Nat}:k7 q n i (j+1)=k7 q n i j++if q ((i:Int)-1,(j:Int)-1) then [((i:Int)-1,(j:Int)-1)] else []:=by
 unfold k7;rw[N1,<-List.append_assoc,List.filter_append];simp[List.filter_cons]
theorem N3 {q:Int×Int->Bool} {n:Nat}:k7 q n (n+1) 0=(wN n).filter q:=by simp[k7,mw,wN]
theorem XK {q:Int×Int->Bool} {n i j:Nat}:((i:Int)-1,(j:Int)-1)∉k7 q n i j:=by
 unfold k7;rw[List.mem_filter,List.mem_append];rintro⟨h|h,_⟩
 ·have:=N2 h;simp at this
 ·have:=(EF h).2;simp at this
def n2 (l:List η):η:=if l.isEmpty then .sl true 0 [] else .ms 3 l.length 0 l.length
def da (l:List η):List Row:=if l.isEmpty then [] else [.cells 111 1 l]
abbrev hZ:Row:=.cells 110 3 [.a0 [I 0,I 0,.sl true 0 []]]
abbrev gW (p:Int×Int) (L:List η):Row:=.cells 110 3 [.a0 [I p.1,I p.2,n2 L]]
def dC (id:Nat) (l:List η):η:=if l.isEmpty then .sl true 0 [] else .ms id l.length 0 l.length
theorem h0 {id:Nat} {l:List η} (h:l≠[]):dC id l=.ms id l.length 0 l.length:=by unfold dC;rw[if_neg (by simpa using h)]
theorem XL {l:List η}:aJ ((da l).length+3) (n2 l):=by
 unfold n2 da;cases l.isEmpty<;>simp[m5]
theorem XM {h:Nat} {l:List η} (hb:∀e∈l,∀a∈e.cells,aJ 0 a):∀r∈da l,e3 h r:=by
 intro r ι;unfold da at ι;cases ξ:l.isEmpty with
 | true=>rw[ξ] at ι;simp at ι
 | false=>
  rw[ξ] at ι;simp at ι;subst ι;exact λe he a κ=>(hb e he a κ).mono (Nat.zero_le _)
theorem e3.mono {h c9:Nat} {r:Row} (hb:e3 h r) (aY:h<=c9):e3 c9 r:=by
 cases r with
 | cells t k l=>exact λe he a κ=>(hb e he a κ).mono aY
 | map es=>exact λe he=>⟨(hb e he).1.mono aY,(hb e he).2.mono aY⟩
 | iter m left cur=>exact⟨Nat.lt_of_lt_of_le hb.1 aY,λe he=>⟨(hb.2.1 e he).1.mono aY,(hb.2.1 e he).2.mono aY⟩,λe he=>⟨(hb.2.2 e he).1.mono aY,(hb.2.2 e he).2.mono aY⟩⟩
 | dead=>trivial
theorem XN {h id:Nat} {l:List η} (aY:l≠[]->id<h):aJ h (dC id l):=by
 by_cases ξ:l=[]
 ·subst ξ;unfold dC;simp
 ·rw[h0 ξ];exact m5.2 (aY ξ)
theorem N4 {α:Type} (l:List α) (i:Nat) (h:i<l.length):(l[i]::l.eraseIdx i).Perm l:=by
 induction l generalizing i with
 | nil=>simp at h
 | cons a l ω=>
  cases i with
  | zero=>exact .refl _
  | succ i=>
   simp only[List.getElem_cons_succ,List.eraseIdx_cons_succ];exact(List.Perm.swap _ _ _).trans (.cons a (ω i (by simpa using h)))
theorem EH {h id k:Nat} {t:TypeId} {l:List η} {σ:List Row} (b5:h<=id) (ι:l≠[]->σ[id]?=some (.cells t k l)) (hb:∀e∈l,∀a∈e.cells,aJ h a):eJ h σ (dC id l) (gV k l):=by
 by_cases ξ:l=[]
 ·subst ξ;exact .low (by unfold dC;simp)
 ·have e:gV k l=.sl false k l:=by unfold gV;rw[if_neg (by simpa using ξ)]
  rw[h0 ξ,e];exact .own b5 (ι ξ) rfl hb
theorem N5 (k:Nat) (m:List η):∃b kk l,gV k m=.sl b kk l:=by
 unfold gV;split
 ·exact⟨_,_,_,rfl⟩
 ·exact⟨_,_,_,rfl⟩
theorem N6 {α β:Type} (f:α->β) (l:List α) (i:Nat):(l.map f).eraseIdx i=(l.eraseIdx i).map f:=by
 induction l generalizing i with
 | nil=>rfl
 | cons a l ω=>cases i<;>simp[ω]
theorem XO (s:aS) (ν:s.small) (Ο:s.ae.length<2 ^ 20) (p:Int×Int) (hv:∀c∈s.cells,∀x∈c,0<=x.light/\x.light<s.aj.length) (N:Nat) (ck:N<2 ^ 20) (gh:EG N) (hle:∀c,c<s.cells.length->(iO s p c).length<=N) :
  az Tryz.prog 143 [fS s,aG p] (dg ⟨p.1,p.2,(List.range s.cells.length).map (iO s p)⟩):=by
 refine ab.body Υ Tryz.func143 rfl rfl Tryz.ntmps143 rfl rfl ζ ?_
 repeat apply Ω
 refine dB (A:=[4]) Υ λΘ θ=>bD ?_;apply θ
 repeat apply Ω
 refine dB (A:=[5]) Υ λΘ θ=>bD ?_;apply θ
 repeat apply Ω
 refine bh λΘ θ=>?_;apply θ;refine Η ?_;have iZ:s.cells.length<2 ^ 30:=ν.2.2.1;refine W.iter (λc:Nat=>c<=s.cells.length) (λc=>[(2,.ao [aT s.ae,a6 s.aj,bx s.cells]),(3,.ao [I p.1,I p.2]),(4,.ah 0 1 0 0),(5,.ah 1 1 0 0),(6,.mp 2),(19,I s.cells.length),(20,I c)])
  (λc=>hZ::gW p ((List.range c).map λc=>gV 2 ((iO s p c).map aG))::.map []::da ((List.range c).map λc=>gV 2 ((iO s p c).map aG))) (λc=>s.cells.length-c) 0 (Nat.zero_le _) (by simp[n2,da]) ζ (λc ε ω=>?_)
 obtain⟨L,ai⟩:=aK ((List.range c).map λc=>gV 2 ((iO s p c).map aG));refine W.to (σ':=hZ::gW p L::.map []::da L) (env':=[(2,.ao [aT s.ae,a6 s.aj,bx s.cells]),(3,.ao [I p.1,I p.2]),(4,.ah 0 1 0 0),(5,.ah 1 1 0 0),(6,.mp 2),(19,I s.cells.length),(20,I c)]) ?_ (by rw[ai]) ζ;refine Η ?_;refine W.eS rfl (λε=>?_) (λε=>?_)
 ·have a3:c<s.cells.length:=by simpa using ε
  refine Η ?_;obtain⟨n,Ζ⟩:=aK s.ae.length;have rz:n<2 ^ 20:=R;obtain⟨q,Ξ⟩:=aK (λr=>s.rO p r c:Int×Int->Bool);have mx:∀e∈L,∀a∈e.cells,aJ 0 a:=by
   rw[ai];intro e he a κ;obtain⟨x,_,rfl⟩:=List.mem_map.1 he;unfold gV at κ;split at κ<;>simp[η.cells] at κ<;>subst κ<;>simp
  have gl:∀(M:List (Int×Int)) (h:Nat),e3 h (.map (M.map dM)):=λM h e he=>by
   obtain⟨x,_,rfl⟩:=List.mem_map.1 he;simp
  have kB:∀M:List (Int×Int),∀r∈hZ::gW p L::.map (M.map dM)::da L,e3 (hZ::gW p L::.map (M.map dM)::da L).length r:=λM r ι=>by
   simp only[List.mem_cons] at ι;rcases ι with rfl|rfl|rfl|ι
   ·simp[e3,η.cells]
   ·simp[e3,η.cells];exact XL
   ·exact gl M _
   ·exact XM mx r ι
  refine W.iter (λi:Nat=>i<=n+1) (λi=>[(2,.ao [aT s.ae,a6 s.aj,bx s.cells]),(3,.ao [I p.1,I p.2]),(4,.ah 0 1 0 0),(5,.ah 1 1 0 0),(6,.mp 2),(19,I s.cells.length),(20,I c),(7,I c),(8,I ((i:Int)-1))])
   (λi=>hZ::gW p L::.map ((k7 q n i 0).map dM)::da L) (λi=>n+1-i) 0 (Nat.zero_le _) (by rw[XH];rfl) ζ (λi hi g4=>?_)
  refine Η ?_;by_cases bf:i<n+1
  ·refine aD (by simp[<-Ζ];omega) ?_;refine Η ?_;refine W.iter (λj:Nat=>j<=n+1) (λj=>[(2,.ao [aT s.ae,a6 s.aj,bx s.cells]),(3,.ao [I p.1,I p.2]),(4,.ah 0 1 0 0),(5,.ah 1 1 0 0),(6,.mp 2),(19,I s.cells.length),(20,I c),(7,I c),(8,I ((i:Int)-1)),(9,I ((j:Int)-1))])
    (λj=>hZ::gW p L::.map ((k7 q n i j).map dM)::da L) (λj=>n+1-j) 0 (Nat.zero_le _) rfl ζ (λj δ rV=>?_)
   refine Η ?_;by_cases e2:j<n+1
   ·refine aD (by simp[<-Ζ];omega) ?_
    repeat apply Ω
    obtain⟨M,dG⟩:=aK (k7 q n i j);refine W.to (σ':=hZ::gW p L::.map (M.map dM)::da L) (env':=[(2,.ao [aT s.ae,a6 s.aj,bx s.cells]),(3,.ao [I p.1,I p.2]),(4,.ah 0 1 0 0),(5,.ah 1 1 0 0),(6,.mp 2),(19,I s.cells.length),(20,I c),(7,I c),(8,I ((i:Int)-1)),(9,I ((j:Int)-1))]) ?_ (by rw[dG]) ζ;have XP:ia bg 112 (.a0 [I ((i:Int)-1),I ((j:Int)-1)]) (M.map dM) 0=some none:=XC _ M 0 (by rw[dG];exact XK);have lp:∀es,oD (hZ::gW p L::.map es::da L) 2=true:=λes=>by unfold da;cases L.isEmpty<;>simp[oD]
    refine dB (A:=[10]) Υ λΘ θ=>bD ?_;apply θ;refine W.pD (σ0:=hZ::gW p L::.map (M.map dM)::da L) (Nat.zero_le _) (kB M) ζ [(10,.ao [I ((i:Int)-1),I ((j:Int)-1)]),(2,.ao [aT s.ae,a6 s.aj,bx s.cells]),(3,.ao [I p.1,I p.2]),(4,.ah 0 1 0 0),(5,.ah 1 1 0 0),(6,.mp 2),(19,I s.cells.length),(20,I c),(7,I c),(8,I ((i:Int)-1)),(9,I ((j:Int)-1))] (by simp[ki,s9]) ?_;have rW:=gq (show j<2 ^ 62 by omega);refine bh λΘ θ=>?_;refine az.c (WK s ν p ((i:Int)-1,(j:Int)-1) c a3 (hv _ (List.getElem_mem a3)) (by simp;omega) (by simp;omega)) (bI.refl _) ζ ζ ?_;simp;(repeat (rw[al];simp[]));apply θ;have XQ:s.rO p ((i:Int)-1,(j:Int)-1) c=q ((i:Int)-1,(j:Int)-1):=by rw[Ξ]
    rw[XQ];have eW:=XJ (q:=q) (n:=n) (i:=i) (j:=j);cases N7:q ((i:Int)-1,(j:Int)-1)
    ·refine aA rfl ?_;refine aE rW ?_;rw[N7] at eW;refine W.to (rV (j+1) R R) ?_ ?_
     ·rw[eW,dG];simp
     ·simp
    ·refine aD rfl ?_
     repeat apply Ω
     refine dx λΘ θ=>?_;simp;(repeat (rw[al];simp[XP,lp,-oD]));apply θ;refine aE rW ?_;rw[N7] at eW;refine W.to (rV (j+1) R R) ?_ ?_
     ·rw[eW,dG];simp
     ·simp
   ·refine aA (by simp[<-Ζ];omega) ?_;refine W.exit rfl ?_;have A2:j=n+1:=R;subst A2;refine Η ?_;refine W.to (g4 (i+1) R R) ?_ ?_
    ·rw[XI]
    ·have:=gq (show i<2 ^ 62 by omega);simp[this]
  ·refine aA (by simp[<-Ζ];omega) ?_;refine W.exit rfl ?_;have eI:i=n+1:=R;subst eI;obtain⟨D,cY⟩:=aK (iO s p c);have XR:k7 q n (n+1) 0=D:=by rw[N3,cY,Ξ,Ζ];rfl
   rw[XR];have rX:D.length<=N:=by rw[cY];exact hle c a3
   refine W.to (σ':=hZ::gW p L::.map (D.map dM)::da L) (env':=[(2,.ao [aT s.ae,a6 s.aj,bx s.cells]),(3,.ao [I p.1,I p.2]),(4,.ah 0 1 0 0),(5,.ah 1 1 0 0),(6,.mp 2),(19,I s.cells.length),(20,I c),(7,I c)]) ?_ rfl ζ;refine Η ?_;refine W.iter (λx:List (Int×Int)×List (Int×Int)×Option (η×η)=>(x.1++x.2.1).Perm D/\(x.2.2=none\/∃y,x.2.2=some (dM y)))
    (λx=>[(2,.ao [aT s.ae,a6 s.aj,bx s.cells]),(3,.ao [I p.1,I p.2]),(4,.ah 0 1 0 0),(5,.ah 1 1 0 0),(6,.mp 2),(19,I s.cells.length),(20,I c),(7,I c),(11,dC ((da L).length+1+1+1+1) (x.1.map aG)),(50,.it ((da L).length+1+1+1))])
    (λx=>hZ::gW p L::.map (D.map dM)::(da L++(.iter 2 (x.2.1.map dM) x.2.2::bW 112 2 (x.1.map aG)))) (λx=>x.2.1.length) ([],D,none) ⟨ζ,.inl rfl⟩ (by simp[bW]) (by simp[dC]) (λx γ wO=>?_)
   obtain⟨K,ak,cur⟩:=x;obtain⟨π,DO⟩:=γ;simp only at π DO
   repeat apply Ω
   cases ak with
   | nil=>
    refine bh λΘ θ=>?_;apply θ
    repeat apply Ω
    refine aA rfl ?_;refine W.exit rfl ?_;have wP:K.Perm D:=by simpa using π
    repeat apply Ω
    have N8:K.length<=N:=by rw[wP.length_eq];exact rX
    have XS:K.mergeSort lI=D:=by
     rw[cY] at wP ⊢;exact Xu wP (XF s p c)
    refine W.iN (A:=[]) Υ [(2,.ao [aT s.ae,a6 s.aj,bx s.cells]),(3,.ao [I p.1,I p.2]),(4,.ah 0 1 0 0),(5,.ah 1 1 0 0),(6,.mp 2),(19,I s.cells.length),(20,I c),(11,dC ((da L).length+1+1+1+1) (D.map aG))]
     (hZ::gW p L::.map (D.map dM)::(da L++(.iter 2 [] cur::bW 112 2 (D.map aG)))) ?_ (by
     clear wO g4 ω kB gl hle hv mx;by_cases Φ:K=[]
     ·subst Φ;have XT:D=[]:=wP.symm.eq_nil;rw[XT];simp only[List.map_nil,k5,show dC ((da L).length+1+1+1+1) []=.sl true 0 [] from rfl];simp;(repeat (rw[al];simp[]));refine az.c (Xx _ (by simp[mg])) (bI.refl _) (by simp[mg]) ζ ?_;simp;(repeat (rw[al];simp[]));(try simp)
     ·have gu:K.map aG≠[]:=by simpa using Φ
      have XU:D≠[]:=λe=>Φ (by rw[e] at wP;exact wP.eq_nil)
      have N9:D.map aG≠[]:=by simpa using XU
      rw[h0 gu,e6 gu,h0 N9,e6 N9];simp;(repeat (rw[al];simp[]));have ph:aJ 0 (.fn (.func 174) [] []):=by simp[mg]
      refine ab.one (gh K N8) ((da L).length+1+1+1+1) ζ (wJ tj) (wJ tj) (by simp[oH,ph.iM 1]) (by simp[fR]) (by simp[oI,ph.ed [(da L).length+1+1+1+1]]) ?_;simp[ed,hS];(repeat (rw[al];simp[]));(try simp[XS,wP.length_eq]))
    refine W.cut ((da L).length+1+1+1) (Nat.zero_le _) [(2,.ao [aT s.ae,a6 s.aj,bx s.cells]),(3,.ao [I p.1,I p.2]),(4,.ah 0 1 0 0),(5,.ah 1 1 0 0),(6,.mp 2),(19,I s.cells.length),(20,I c),(11,gV 2 (D.map aG))] ζ (λid r b5 ι=>?_) ?_ ?_
    ·refine kB D r ?_;have e:hZ::gW p L::.map (D.map dM)::(da L++(.iter 2 [] cur::bW 112 2 (D.map aG)))=(hZ::gW p L::.map (D.map dM)::da L)++(.iter 2 [] cur::bW 112 2 (D.map aG)):=ζ;rw[e,dI (by simpa using b5)] at ι;exact cG ι
    ·have XV:eJ ((da L).length+1+1+1) (hZ::gW p L::.map (D.map dM)::(da L++(.iter 2 [] cur::bW 112 2 (D.map aG)))) (dC ((da L).length+1+1+1+1) (D.map aG)) (gV 2 (D.map aG)):=EH (t:=112) R (λξ=>by rw[e6 ξ];simp) (λe he a κ=>by
      obtain⟨z,_,rfl⟩:=List.mem_map.1 he;exact(tj z a κ).mono (Nat.zero_le _))
     intro z Φ;simp only[List.mem_cons,List.not_mem_nil,or_false] at Φ;rcases Φ with rfl|rfl|rfl|rfl|rfl|rfl|rfl|rfl
     all_goals first|exact XV|exact .low (by simp[ki,s9])
    ·obtain⟨kT,wQ⟩:=aK (L++[gV 2 (D.map aG)]);have jh:L.length<2 ^ 30:=by rw[ai];simp;omega
     refine W.to (σ':=hZ::gW p L::.map (D.map dM)::da L) (env':=[(2,.ao [aT s.ae,a6 s.aj,bx s.cells]),(3,.ao [I p.1,I p.2]),(4,.ah 0 1 0 0),(5,.ah 1 1 0 0),(6,.mp 2),(19,I s.cells.length),(20,I c),(11,gV 2 (D.map aG))]) ?_ ζ ζ
     repeat apply Ω
     refine W.iN (A:=[65]) Υ [(2,.ao [aT s.ae,a6 s.aj,bx s.cells]),(3,.ao [I p.1,I p.2]),(4,.ah 0 1 0 0),(5,.ah 1 1 0 0),(6,.mp 2),(19,I s.cells.length),(20,I c)] (hZ::gW p kT::.map (D.map dM)::da kT) ?_ (by
      clear wO g4 ω kB gl hle hv;obtain⟨EI,N',sl,rU⟩:=N5 2 (D.map aG);rw[rU] at wQ ⊢;by_cases Φ:L=[]
      ·have Iu:kT=[.sl EI N' sl]:=by rw[wQ,Φ];rfl
       rw[Iu];subst Φ;simp only[gW,da,n2,List.isEmpty_nil,List.isEmpty_cons,if_true,if_false];(try simp);(repeat (rw[al];simp[]));(try simp[])
      ·have nf:L.length<=4294967295:=by omega
       have c1:n2 L=.ms 3 L.length 0 L.length:=by unfold n2;rw[if_neg (by simpa using Φ)]
       have c2:da L=[.cells 111 1 L]:=by unfold da;rw[if_neg (by simpa using Φ)]
       have c3:n2 kT=.ms 3 (L.length+1) 0 (L.length+1):=by rw[wQ];unfold n2;rw[if_neg ζ];simp
       have c4:da kT=[.cells 111 1 (L++[.sl EI N' sl])]:=by rw[wQ];unfold da;rw[if_neg ζ]
       simp only[gW];rw[c1,c2,c3,c4];(try simp);(repeat (rw[al];simp[nf]));(try simp[nf]))
     have lp:∀es,oD (hZ::gW p kT::.map es::da kT) 2=true:=λes=>by unfold da;cases kT.isEmpty<;>simp[oD]
     repeat apply Ω
     refine dx λΘ θ=>?_;simp;(repeat (rw[al];simp[lp,-oD]));apply θ;refine Η ?_;have A0:kT=(List.range (c+1)).map λc=>gV 2 ((iO s p c).map aG):=by rw[wQ,ai,cY,List.range_succ];simp
     refine W.to (ω (c+1) R R) ?_ ?_
     ·rw[<-A0]
     ·simp[fl a3 (show s.cells.length<2 ^ 62 by omega)]
   | cons y ak=>
    refine bh λΘ θ=>?_;intro i hi;obtain⟨x,γ⟩:=aK ((y::ak)[i]'(by simpa using hi));have Iv:(dM y::List.map dM ak)[i]?=some (dM x):=by
     have:(List.map dM (y::ak))[i]?=some (dM x):=by
      rw[List.getElem?_map,a8 (by simpa using hi),γ];rfl
     simpa using this
    have Iw:(dM y::List.map dM ak).eraseIdx i=((y::ak).eraseIdx i).map dM:=by
     exact N6 dM (y::ak) i
    rw[Iv,Iw];simp;(repeat (rw[al];simp[]));apply θ
    repeat apply Ω
    refine aD rfl ?_
    repeat apply Ω
    refine dB (A:=[12]) Υ λΘ θ=>bD ?_;apply θ;have dP:∀r∈hZ::gW p L::.map (D.map dM)::(da L++(.iter 2 (((y::ak).eraseIdx i).map dM) (some (dM x))::bW 112 2 (K.map aG))),e3 (hZ::gW p L::.map (D.map dM)::(da L++(.iter 2 (((y::ak).eraseIdx i).map dM) (some (dM x))::bW 112 2 (K.map aG)))).length r:=by
     intro r ι;have ft:r∈hZ::gW p L::.map (D.map dM)::da L\/r∈(.iter 2 (((y::ak).eraseIdx i).map dM) (some (dM x))::bW 112 2 (K.map aG)):=by
      have:r∈(hZ::gW p L::.map (D.map dM)::da L)++(.iter 2 (((y::ak).eraseIdx i).map dM) (some (dM x))::bW 112 2 (K.map aG)):=by simpa using ι
      exact List.mem_append.1 this
     rcases ft with ft|ft
     ·exact e3.mono (kB D r ft) ζ
     ·rcases List.mem_cons.1 ft with rfl|ft
      ·refine⟨ζ,λe he=>?_,λe he=>?_⟩
       ·obtain⟨z,_,rfl⟩:=List.mem_map.1 he;simp
       ·cases he;simp
      ·unfold bW at ft;split at ft
       ·simp at ft
       ·simp at ft;subst ft;intro e he a κ;obtain⟨z,_,rfl⟩:=List.mem_map.1 he;simp[η.cells] at κ;rcases κ with rfl|rfl<;>simp
    refine W.to (σ':=(hZ::gW p L::.map (D.map dM)::(da L++(.iter 2 (((y::ak).eraseIdx i).map dM) (some (dM x))::bW 112 2 (K.map aG))))++[.cells 112 2 [aG x]]) (env':=[(12,.ah (hZ::gW p L::.map (D.map dM)::(da L++(.iter 2 (((y::ak).eraseIdx i).map dM) (some (dM x))::bW 112 2 (K.map aG)))).length 1 0 0),(2,.ao [aT s.ae,a6 s.aj,bx s.cells]),(3,.ao [I p.1,I p.2]),(4,.ah 0 1 0 0),(5,.ah 1 1 0 0),(6,.mp 2),(19,I s.cells.length),(20,I c),(7,I c),(11,dC ((da L).length+1+1+1+1) (K.map aG)),(50,.it ((da L).length+1+1+1))]) ?_ ζ ζ;refine W.pD (σ0:=hZ::gW p L::.map (D.map dM)::(da L++(.iter 2 (((y::ak).eraseIdx i).map dM) (some (dM x))::bW 112 2 (K.map aG)))) (Nat.zero_le _) dP ζ [(12,.ao [I x.1,I x.2]),(2,.ao [aT s.ae,a6 s.aj,bx s.cells]),(3,.ao [I p.1,I p.2]),(4,.ah 0 1 0 0),(5,.ah 1 1 0 0),(6,.mp 2),(19,I s.cells.length),(20,I c),(7,I c),(11,dC ((da L).length+1+1+1+1) (K.map aG)),(50,.it ((da L).length+1+1+1))] (by
     have hb:=XN (h:=(da L).length+((bW 112 2 (K.map aG)).length+1)+1+1+1) (id:=(da L).length+1+1+1+1) (l:=K.map aG) (λξ=>by rw[e6 ξ];simp);clear wO g4 ω kB dP gl hle hv mx;simp[ki,s9,V3,hb]
     ) ?_
    repeat apply Ω
    have N8:K.length<2 ^ 20:=by
     have:=π.length_eq;simp at this;omega
    refine W.iN (A:=[58]) Υ [(2,.ao [aT s.ae,a6 s.aj,bx s.cells]),(3,.ao [I p.1,I p.2]),(4,.ah 0 1 0 0),(5,.ah 1 1 0 0),(6,.mp 2),(19,I s.cells.length),(20,I c),(7,I c),(11,dC ((da L).length+1+1+1+1) ((K++[x]).map aG)),(50,.it ((da L).length+1+1+1))]
     (hZ::gW p L::.map (D.map dM)::(da L++(.iter 2 (((y::ak).eraseIdx i).map dM) (some (dM x))::bW 112 2 ((K++[x]).map aG)))) ?_ (by
     clear wO g4 ω kB dP gl hle hv mx;by_cases Φ:K=[]
     ·subst Φ;simp only[List.map_nil,k5,show dC ((da L).length+1+1+1+1) []=.sl true 0 [] from rfl];(try simp);(repeat (rw[al];simp[k5]));(try simp[k5]);exact⟨rfl,rfl⟩
     ·have nf:K.length<=4294967295:=by omega
      have gu:K.map aG≠[]:=by simpa using Φ
      rw[h0 gu,e6 gu];(try simp);(repeat (rw[al];simp[nf]));(try simp[nf]);rw[e6 ζ,h0 ζ];simp)
    refine Η ?_;have Oa:(x::(y::ak).eraseIdx i).Perm (y::ak):=by
     rw[γ];exact N4 _ _ _
    refine W.to (wO (K++[x],(y::ak).eraseIdx i,some (dM x)) ⟨?_,.inr ⟨x,rfl⟩⟩ ?_) ζ ζ
    ·simp only[List.append_assoc,List.singleton_append];exact(Oa.append_left K).trans π
    ·have:=Oa.length_eq;simp at this;simp only[List.length_cons];omega
 ·have Ix:c=s.cells.length:=by simp at ε;omega
  subst Ix;refine W.exit rfl ?_
  repeat apply Ω
  clear ω;have mx:∀e∈L,∀a∈e.cells,aJ 0 a:=by
   rw[ai];intro e he a κ;obtain⟨x,_,rfl⟩:=List.mem_map.1 he;unfold gV at κ;split at κ<;>simp[η.cells] at κ<;>subst κ<;>simp
  refine W.iN (A:=[]) Υ [(4,.ah 0 1 0 0)] (.cells 110 3 [.a0 [I p.1,I p.2,n2 L]]::gW p L::.map []::da L) ?_ (by
   simp only[gW];by_cases Φ:L=[]
   ·rw[show n2 L=.sl true 0 [] by rw[Φ];rfl];(try simp);(repeat (rw[al];simp[]));(try simp[])
   ·rw[show n2 L=.ms 3 L.length 0 L.length by unfold n2;rw[if_neg (by simpa using Φ)],show da L=[.cells 111 1 L] by unfold da;rw[if_neg (by simpa using Φ)]];(try simp);(repeat (rw[al];simp[]));(try simp[]))
  refine W.cut 0 (Nat.zero_le _) [(4,.ao [I p.1,I p.2,gV 1 L])] (Nat.zero_le _) (λid r b5=>R) (λz Φ=>by
   simp at Φ;subst Φ;exact eJ.struct (k:=3) (t:=110) (l:=[I p.1,I p.2,n2 L]) (Nat.zero_le _) rfl rfl (λx a bT J U=>by
    match x with
    | 0=>simp at J U;subst J;subst U;exact .low ζ
    | 1=>simp at J U;subst J;subst U;exact .low ζ
    | 2=>
     simp at J U;subst J;subst U;exact EH (id:=3) (t:=111) (l:=L) (Nat.zero_le _) (λξ=>by
      have:da L=[.cells 111 1 L]:=by unfold da;rw[if_neg (by simpa using ξ)]
      simp[this]) mx
    | x+3=>simp at J)) ?_
  refine Η ?_;refine W.rt ?_;refine c6.a0 (bI.cons (.refl _) (bI.cons (.refl _) (bI.cons (.trans c6.acc ?_) .nil)));rw[ai];show c6 _ (.sl false 1 (((List.range s.cells.length).map (iO s p)).map m9));rw[List.map_map];refine c6.map λx _=>.one c6.acc ?_ rfl;obtain⟨b,k,l,he⟩:=N5 2 ((iO s p x).map aG);rw[he];rfl
structure my where
 c:Int
 n:Int
 least:Int
 some:Bool
def my.take (b:my) (c n m:Int):my:=if b.some=false\/m<b.least then⟨c,n,m,true⟩ else b
abbrev mz (b:my):η:=.a0 [I b.c,I b.n,I b.least,a' b.some]
theorem XW (b:my) (c n m:Int):ab Tryz.prog 76 [.ah 0 1 0 0,.a0 [I c,I n],I m] [.cells 104 4 [mz b]] (λr s=>r=.bq []/\s=[.cells 104 4 [mz (b.take c n m)]]) (λ_ _=>False):=by
 obtain⟨dY,p',l0,F9⟩:=b;refine ab.body Υ Tryz.func76 rfl rfl Tryz.ntmps76 rfl rfl ζ ?_;refine Η ?_;cases F9
 ·have e:my.take ⟨dY,p',l0,false⟩ c n m=⟨c,n,m,true⟩:=by simp[my.take]
  rw[e];refine Η ?_;refine aD rfl ?_;refine Η ?_;exact W.nil ⟨_,rfl,rfl,rfl⟩
 ·refine Η ?_;by_cases h:m<l0
  ·have e:my.take ⟨dY,p',l0,true⟩ c n m=⟨c,n,m,true⟩:=by simp[my.take,h]
   rw[e];refine aD (by simp[h]) ?_;refine Η ?_;exact W.nil ⟨_,rfl,rfl,rfl⟩
  ·have e:my.take ⟨dY,p',l0,true⟩ c n m=⟨dY,p',l0,true⟩:=by simp[my.take,h]
   rw[e];refine aA (by simp[h]) ?_;refine Η ?_;exact W.nil ⟨_,rfl,rfl,rfl⟩
abbrev ji (e:Int×Int):η×η:=(I e.1,I e.2)
def u4:List (Int×Int)->Int->Int->List (Int×Int)
 | [],k,n=>[(k,IntKind.i64.wrap (0+n))]
 | e::r,k,n=>if k=e.1 then(k,IntKind.i64.wrap (e.2+n))::r else e::u4 r k n
theorem XX (k n:Int):∀(m:List (Int×Int)) (d:Nat),(ia bg 113 (I k) (m.map ji) d=some none/\u4 m k n=m++[(k,IntKind.i64.wrap (0+n))])\/∃i v,i<m.length/\ia bg 113 (I k) (m.map ji) d=some (some (d+i,I v))/\u4 m k n=m.set i (k,IntKind.i64.wrap (v+n)):=by
 intro m
 induction m with
 | nil=>intro d;exact .inl ⟨rfl,rfl⟩
 | cons e r ω=>
  intro d;have Ξ:aeqv bg 113 (I k) (I e.1)=some (k==e.1):=by simp[aeqv,kh,m2,ju]
  by_cases h:k=e.1
  ·refine .inr ⟨0,e.2,ζ,?_,by simp[u4,h]⟩;simp only[List.map_cons,ia,Ξ];simp[h]
  ·have hb:(k==e.1)=false:=by simpa using h
   rcases ω (d+1) with⟨J,U⟩|⟨i,v,J,U,μ⟩
   ·refine .inl ⟨?_,by simp[u4,h,U]⟩;simp only[List.map_cons,ia,Ξ,hb,cond_false];exact J
   ·refine .inr ⟨i+1,v,by simp;omega,?_,by simp[u4,h,μ]⟩;simp only[List.map_cons,ia,Ξ,hb,cond_false];rw[U];have:d+1+i=d+(i+1):=R;rw[this]
theorem ab.XY {P:Program} {σ:List Row} {g:FuncId} {as0 first:List η} {row row':Row} {r:η} {K E:η->List Row->Prop} (h:ab P g as0 [row] (λa s=>a=r/\s=[row']) (λ_ _=>False)) (id:Nat) (b5:σ[id]?=some row) (π:iJ row) (iw:iJ row') (κ:∀a∈as0,fR 1 a) (ι:fR 1 r)
  {args:List η} (m4:first++args=as0.map (ed [id])) (θ:K (ed [id] r) (σ.set id row')):ha P (.fn (.func g) first []) args σ K E:=by
 have aY:=ab.rows (σ:=σ) h [id] ζ rfl (λj i δ=>by
  cases j with
  | zero=>simp at δ;subst δ;exact b5
  | succ j=>simp at δ) (λr ι=>by simp at ι;subst ι;exact π) (by simpa using κ) (K':=K) (E':=E) (λa s ⟨J,U⟩=>by
   subst J;subst U;refine⟨λx γ=>by simp at γ;subst γ;exact iw,ι,?_⟩;simpa[names,qw,jd] using θ) (λa s h=>h.elim)
 exact ab.call (first:=first) (captured:=[]) (by rw[List.append_nil,m4];exact aY)
def u5 (s:aS) (f:Found) (c n:Nat) (m:List (Int×Int)) (j:Nat):List (Int×Int):=(((f.cells[c]?).getD []).take j).foldl (λm r=>u4 m (s.hA (f.u,f.v) r n) (f.many c)) m
def wR (s:aS) (F:List Found) (c n i:Nat):List (Int×Int):=(F.take i).foldl (λm f=>u5 s f c n m ((f.cells[c]?).getD []).length) []
def u6 (a:Int) (l:List (Int×Int)):Int:=l.foldl (λa e=>max a e.2) a
def EJ (s:aS) (F:List Found) (c n:Nat):Int:=u6 0 (wR s F c n F.length)
def wS (s:aS) (F:List Found) (c:Nat) (b:my) (n:Nat):my:=(List.range n).foldl (λb (n:Nat)=>b.take c n (EJ s F c n)) b
def u7 (s:aS) (F:List Found) (c:Nat):my:=(List.range c).foldl (λb (c:Nat)=>wS s F c b s.aj.length) ⟨0,0,0,false⟩
theorem XZ (s:aS) (F:List Found) (c:Nat) (b:my) (n:Nat):wS s F c b (n+1)=(wS s F c b n).take c n (EJ s F c n):=by simp[wS,List.range_succ,List.foldl_append]
theorem X0 (s:aS) (F:List Found) (c:Nat):u7 s F (c+1)=wS s F c (u7 s F c) s.aj.length:=by simp[u7,List.range_succ,List.foldl_append]
theorem X1 (s:aS) (f:Found) (c n:Nat) (m:List (Int×Int)) (j:Nat) (h:j<((f.cells[c]?).getD []).length):u5 s f c n m (j+1)=u4 (u5 s f c n m j) (s.hA (f.u,f.v) ((f.cells[c]?).getD [])[j] n) (f.many c):=by
 unfold u5;rw[List.take_succ_eq_append_getElem h,List.foldl_append];rfl
theorem X2 (s:aS) (F:List Found) (c n i:Nat) (h:i<F.length):wR s F c n (i+1)=u5 s F[i] c n (wR s F c n i) ((F[i].cells[c]?).getD []).length:=by
 unfold wR;rw[List.take_succ_eq_append_getElem h,List.foldl_append];rfl
theorem X3 {a:Int} {l m:List (Int×Int)} (h:l.Perm m):u6 a l=u6 a m:=h.foldl_eq' (λx _ y _ z=>R) a
def tx (s:aS) (F:List Found):Int×Int×Int×Int:=
 if(eK s true F).2.2≠0 then(0,0,0,(eK s true F).2.2)
 else let b:=u7 s F s.cells.length;if b.some=false\/b.least=g3 F then(0,0,0,11) else(b.c,b.n,b.least,0)
structure EK (s:aS) (F:List Found):Prop where
 n1:F.length<2 ^ 20
 cells:∀f∈F,f.cells.length=s.cells.length/\(∀c∈f.cells,c.length<2 ^ 20/\∀r∈c,r.1<s.ae.length/\r.2<s.ae.length)
 many:∀f∈F,f.cells.length<2 ^ 62/\∀(gT:Int) i,i<=f.cells.length->je f.cells gT i<2 ^ 62
 count:g3 F<2 ^ 62
theorem X4 (s:aS) (ν:s.small) (F:List Found) (ev:rT s F) (ck:EK s F) :
  az Tryz.prog 26 [fS s] (.bq [I (tx s F).1,I (tx s F).2.1,I (tx s F).2.2.1,I (tx s F).2.2.2]):=by
 refine ab.body Υ Tryz.func26 rfl rfl Tryz.ntmps26 rfl rfl ζ ?_;refine Η ?_;refine c7 ?_;refine dB (A:=[6]) Υ λΘ θ=>bD ?_;refine az.d (AZ s ν true F ev) (bD ?_);apply θ;by_cases b:(eK s true F).2.2=0
 case neg=>
  have e:tx s F=(0,0,0,(eK s true F).2.2):=by unfold tx;rw[if_pos b]
  rw[e];generalize (eK s true F).2.2=fZ at b;refine Η ?_;refine aD (by simp[b]) ?_;refine Η ?_;refine W.drop (h:=0) (σ':=[]) (Nat.zero_le _) (Nat.zero_le _) ζ rfl [(2,I 0),(3,I 0),(4,I 0),(5,I fZ)] ζ ?_;refine W.rt ?_;exact .refl _
 have e:eK s true F=(s,F,0):=by
  unfold eK at b ⊢;split at b
  ·rename_i h;simp at b;exact absurd b h
  ·split at b
   ·simp at b
   ·rename_i J U;rw[if_neg J,if_neg U]
 have Δ:tx s F=let b:=u7 s F s.cells.length;if b.some=false\/b.least=g3 F then(0,0,0,11) else(b.c,b.n,b.least,0):=by unfold tx;rw[if_neg (by simpa using b)]
 rw[Δ,e];clear Δ;refine W.fix (id:=0) (σ':=[]) (Nat.zero_le _) rfl ζ ζ rfl [(5,I 0),(6,.ao [aT s.ae,a6 s.aj,bx s.cells]),(7,cW F)] ζ ?_;refine Η ?_;refine aA rfl ?_
 repeat apply Ω
 refine dB (A:=[8]) Υ λΘ θ=>bD ?_;apply θ;refine Η ?_;have iZ:s.cells.length<2 ^ 30:=ν.2.2.1;have jχ:s.aj.length<2 ^ 30:=ν.2.1;have rY:∀{b:my} (M:List (Int×Int)),∀r∈[Row.cells 104 4 [mz b],.map (M.map ji)],e3 [Row.cells 104 4 [mz b],.map (M.map ji)].length r:=λ{b} M r ι=>by
  simp only[List.mem_cons,List.not_mem_nil,or_false] at ι;rcases ι with rfl|rfl
  ·simp[e3,η.cells]
  ·intro e he;obtain⟨x,_,rfl⟩:=List.mem_map.1 he;simp
 refine W.iter (λc:Nat=>c<=s.cells.length) (λc=>[(6,.ao [aT s.ae,a6 s.aj,bx s.cells]),(7,cW F),(8,.ah 0 1 0 0),(9,.fn (.func 76) [.ah 0 1 0 0] []),(33,I s.cells.length),(34,I c)])
  (λc=>[.cells 104 4 [mz (u7 s F c)]]) (λc=>s.cells.length-c) 0 (Nat.zero_le _) rfl ζ (λc jM ω=>?_)
 refine Η ?_;refine W.eS rfl (λε=>?_) (λε=>?_)
 ·have mc:c<s.cells.length:=by simpa using ε
  refine Η ?_;obtain⟨dd,j8⟩:=aK (u7 s F c);refine W.iter (λn:Nat=>n<=s.aj.length) (λn=>[(6,.ao [aT s.ae,a6 s.aj,bx s.cells]),(7,cW F),(8,.ah 0 1 0 0),(9,.fn (.func 76) [.ah 0 1 0 0] []),(10,I c),(33,I s.cells.length),(34,I c),(40,I s.aj.length),(41,I n)])
   (λn=>[.cells 104 4 [mz (wS s F c dd n)]]) (λn=>s.aj.length-n) 0 (Nat.zero_le _) (by rw[j8];rfl) ζ (λn rE g4=>?_)
  refine Η ?_;refine W.eS rfl (λa3=>?_) (λa3=>?_)
  ·have rz:n<s.aj.length:=by simpa using a3
   obtain⟨bC,lu⟩:=aK (wS s F c dd n);refine W.to (σ':=[.cells 104 4 [mz bC]]) (env':=[(6,.ao [aT s.ae,a6 s.aj,bx s.cells]),(7,cW F),(8,.ah 0 1 0 0),(9,.fn (.func 76) [.ah 0 1 0 0] []),(10,I c),(33,I s.cells.length),(34,I c),(40,I s.aj.length),(41,I n)]) ?_ (by rw[lu]) ζ;refine Η ?_;refine W.iter (λi:Nat=>i<=F.length) (λi=>[(6,.ao [aT s.ae,a6 s.aj,bx s.cells]),(7,cW F),(8,.ah 0 1 0 0),(9,.fn (.func 76) [.ah 0 1 0 0] []),(10,I c),(33,I s.cells.length),(34,I c),(40,I s.aj.length),(41,I n),(11,I n),(12,.mp 1),(45,cW F),(46,I F.length),(47,I i)])
    (λi=>[.cells 104 4 [mz bC],.map ((wR s F c n i).map ji)]) (λi=>F.length-i) 0 (Nat.zero_le _) rfl ζ (λi hi wO=>?_)
   refine Η ?_;by_cases lJ:i<F.length
   ·refine aD (by simp[lJ]) ?_;obtain⟨M,dG⟩:=aK (wR s F c n i);have qG:=X2 s F c n i lJ;rw[<-dG] at qG;obtain⟨n3,iX⟩:=ck.cells _ (List.getElem_mem lJ);obtain⟨g5,jj⟩:=ck.many _ (List.getElem_mem lJ);generalize Τ:F[i]=f at qG n3 iX g5 jj;have cm:c<f.cells.length:=by rw[n3];exact mc
    refine W.to (σ':=[.cells 104 4 [mz bC],.map (M.map ji)]) (env':=[(6,.ao [aT s.ae,a6 s.aj,bx s.cells]),(7,cW F),(8,.ah 0 1 0 0),(9,.fn (.func 76) [.ah 0 1 0 0] []),(10,I c),(33,I s.cells.length),(34,I c),(40,I s.aj.length),(41,I n),(11,I n),(12,.mp 1),(45,cW F),(46,I F.length),(47,I i)]) ?_ (by rw[dG]) ζ
    repeat apply Ω
    refine dB (A:=[14]) Υ λΘ θ=>gS (υ lJ Τ) ?_;apply θ;refine W.pD (σ0:=[.cells 104 4 [mz bC],.map (M.map ji)]) (Nat.zero_le _) (rY _) ζ [(14,.ao [I f.u,I f.v,m' f.cells]),(6,.ao [aT s.ae,a6 s.aj,bx s.cells]),(7,cW F),(8,.ah 0 1 0 0),(9,.fn (.func 76) [.ah 0 1 0 0] []),(10,I c),(33,I s.cells.length),(34,I c),(40,I s.aj.length),(41,I n),(11,I n),(12,.mp 1),(45,cW F),(46,I F.length),(47,I i)] (by simp[ki,s9]) ?_;refine aE cm ?_;have A3:(f.cells[c]?).getD []=f.cells[c]:=by simp[cm]
    rw[A3] at qG;have A4:=iX _ (List.getElem_mem cm);have qH:=X1 s f c n M;rw[A3] at qH;generalize f.cells[c]=C at qG A4 qH;obtain⟨X5,Iy⟩:=A4;refine W.iter (λj:Nat=>j<=C.length) (λj=>[(14,.ao [I f.u,I f.v,m' f.cells]),(6,.ao [aT s.ae,a6 s.aj,bx s.cells]),(7,cW F),(8,.ah 0 1 0 0),(9,.fn (.func 76) [.ah 0 1 0 0] []),(10,I c),(33,I s.cells.length),(34,I c),(40,I s.aj.length),(41,I n),(11,I n),(12,.mp 1),(45,cW F),(46,I F.length),(47,I i),(55,m9 C),(56,I C.length),(57,I j)])
     (λj=>[.cells 104 4 [mz bC],.map ((u5 s f c n M j).map ji)]) (λj=>C.length-j) 0 (Nat.zero_le _) (by simp[u5]) ζ (λj δ rV=>?_)
    refine Η ?_;by_cases mA:j<C.length
    ·refine aD (by simp[mA]) ?_;obtain⟨M2,yy⟩:=aK (u5 s f c n M j);have qI:=qH j mA;rw[<-yy] at qI;refine W.to (σ':=[.cells 104 4 [mz bC],.map (M2.map ji)]) (env':=[(14,.ao [I f.u,I f.v,m' f.cells]),(6,.ao [aT s.ae,a6 s.aj,bx s.cells]),(7,cW F),(8,.ah 0 1 0 0),(9,.fn (.func 76) [.ah 0 1 0 0] []),(10,I c),(33,I s.cells.length),(34,I c),(40,I s.aj.length),(41,I n),(11,I n),(12,.mp 1),(45,cW F),(46,I F.length),(47,I i),(55,m9 C),(56,I C.length),(57,I j)]) ?_ (by rw[yy]) ζ;obtain⟨sJ,u2⟩:=Iy _ (List.getElem_mem mA);generalize ι:C[j]=r at qI sJ u2
     repeat apply Ω
     refine dB (A:=[16]) Υ λΘ θ=>gS (υ mA ι) ?_;apply θ;refine W.pD (σ0:=[.cells 104 4 [mz bC],.map (M2.map ji)]) (Nat.zero_le _) (rY _) ζ [(16,.ao [I r.1,I r.2]),(14,.ao [I f.u,I f.v,m' f.cells]),(6,.ao [aT s.ae,a6 s.aj,bx s.cells]),(7,cW F),(8,.ah 0 1 0 0),(9,.fn (.func 76) [.ah 0 1 0 0] []),(10,I c),(33,I s.cells.length),(34,I c),(40,I s.aj.length),(41,I n),(11,I n),(12,.mp 1),(45,cW F),(46,I F.length),(47,I i),(55,m9 C),(56,I C.length),(57,I j)] (by simp[ki,s9]) ?_
     repeat apply Ω
     have rW:=fl mA (show C.length<2 ^ 62 by omega);rcases XX (s.hA (f.u,f.v) r n) (f.many c) M2 0 with⟨Ρ,aa⟩|⟨bB,v,cQ,Ρ,aa⟩
     ·refine W.draw (A:=[]) Υ mixed λΘ θ=>?_;simp;(repeat (rw[dq];simp[Ρ,ju]));try rw[dp]
      refine eZ (az.p (AR s ν (f.u,f.v) r n rz sJ u2) (bI.refl _) ζ ζ) ?_;simp[Ρ,ju];(repeat (rw[dq];simp[Ρ,ju]));try rw[dp]
      refine eZ (az.p (Ey f c g5 (jj c)) (bI.refl _) ζ ζ) ?_;simp[Ρ,ju];(repeat (rw[dq];simp[Ρ,ju]));try rw[dp]
      refine e5 (θ _ _ ?_);refine aE rW ?_;refine W.to (rV (j+1) mA R) ?_ ?_
      ·rw[qI,aa];simp
      ·simp[rW]
     ·refine W.draw (A:=[]) Υ mixed λΘ θ=>?_;simp;(repeat (rw[dq];simp[Ρ,ju]));try rw[dp]
      refine eZ (az.p (AR s ν (f.u,f.v) r n rz sJ u2) (bI.refl _) ζ ζ) ?_;simp[Ρ,ju];(repeat (rw[dq];simp[Ρ,ju]));try rw[dp]
      refine eZ (az.p (Ey f c g5 (jj c)) (bI.refl _) ζ ζ) ?_;simp[Ρ,ju];(repeat (rw[dq];simp[Ρ,ju]));try rw[dp]
      refine e5 (θ _ _ ?_);refine aE rW ?_;refine W.to (rV (j+1) mA R) ?_ ?_
      ·rw[qI,aa];simp
      ·simp[rW]
    ·have A2:j=C.length:=by omega
     subst A2;have kj:=fl lJ (show F.length<2 ^ 62 by have:=ck.n1;omega);refine aA ζ ?_;refine W.exit rfl ?_;refine aE kj ?_;refine W.to (wO (i+1) lJ R) ?_ ?_
     ·rw[qG]
     ·simp[kj]
   ·have eI:i=F.length:=by omega
    subst eI;refine aA ζ ?_;refine W.exit rfl ?_;obtain⟨M,dG⟩:=aK (wR s F c n F.length);have X6:EJ s F c n=u6 0 M:=by rw[dG];rfl
    refine W.to (σ':=[.cells 104 4 [mz bC],.map (M.map ji)]) (env':=[(6,.ao [aT s.ae,a6 s.aj,bx s.cells]),(7,cW F),(8,.ah 0 1 0 0),(9,.fn (.func 76) [.ah 0 1 0 0] []),(10,I c),(33,I s.cells.length),(34,I c),(40,I s.aj.length),(41,I n),(11,I n),(12,.mp 1)]) ?_ (by rw[dG]) ζ;refine Η ?_;refine W.iter (λx:Int×List (Int×Int)×Option (η×η)=>u6 x.1 x.2.1=u6 0 M) (λx=>[(6,.ao [aT s.ae,a6 s.aj,bx s.cells]),(7,cW F),(8,.ah 0 1 0 0),(9,.fn (.func 76) [.ah 0 1 0 0] []),(10,I c),(33,I s.cells.length),(34,I c),(40,I s.aj.length),(41,I n),(11,I n),(12,.mp 1),(17,I x.1),(76,.it 2)])
     (λx=>[.cells 104 4 [mz bC],.map (M.map ji),.iter 1 (x.2.1.map ji) x.2.2]) (λx=>x.2.1.length) (0,M,none) rfl rfl ζ (λx γ X7=>?_)
    obtain⟨oF,ak,cur⟩:=x;simp only at γ
    repeat apply Ω
    cases ak with
    | nil=>
     refine bh λΘ θ=>?_;apply θ
     repeat apply Ω
     refine aA rfl ?_;refine W.exit rfl ?_;have Iz:oF=EJ s F c n:=by rw[X6,<-γ];rfl
     have A5:=fl rz (show s.aj.length<2 ^ 62 by omega);refine bh λΘ θ=>?_;refine ab.XY (as0:=[.ah 0 1 0 0,.a0 [I c,I n],I oF]) (XW bC c n oF) 0 rfl (by simp[iJ,η.cells]) (by simp[iJ,η.cells]) (by simp[fR,nS]) (by simp[fR]) rfl ?_;simp[ed,hS];(repeat (rw[al];simp[]));apply θ;refine W.drop (h:=1) (σ':=[.cells 104 4 [mz (bC.take c n oF)]]) (Nat.zero_le _) ζ (λid r b5 ι=>?_) rfl [(6,.ao [aT s.ae,a6 s.aj,bx s.cells]),(7,cW F),(8,.ah 0 1 0 0),(9,.fn (.func 76) [.ah 0 1 0 0] []),(10,I c),(33,I s.cells.length),(34,I c),(40,I s.aj.length),(41,I n)] (by simp[ki]) ?_
     ·obtain rfl:id=0:=by omega
      simp at ι;subst ι;simp[e3,η.cells]
     refine aE A5 ?_;refine W.to (g4 (n+1) rz R) ?_ ?_
     ·rw[XZ,<-lu,Iz]
     ·simp[A5]
    | cons y ak=>
     refine bh λΘ θ=>?_;intro bB m0;obtain⟨x,kW⟩:=aK ((y::ak)[bB]'(by simpa using m0));have Iv:(ji y::List.map ji ak)[bB]?=some (ji x):=by
      have:(List.map ji (y::ak))[bB]?=some (ji x):=by
       rw[List.getElem?_map,a8 (by simpa using m0),kW];rfl
      simpa using this
     have Iw:(ji y::List.map ji ak).eraseIdx bB=((y::ak).eraseIdx bB).map ji:=N6 ji (y::ak) bB;rw[Iv,Iw];simp;(repeat (rw[al];simp[]));apply θ
     repeat apply Ω
     refine aD rfl ?_;refine Η ?_;have Ob:bB<(y::ak).length:=by simpa using m0
     have hinv:u6 (max oF x.2) ((y::ak).eraseIdx bB)=u6 0 M:=by
      rw[<-γ,<-X3 (N4 (y::ak) bB Ob),<-kW];rfl
     have Iz:max oF x.2=if oF<x.2 then x.2 else oF:=by split<;>omega
     refine W.to (X7 (max oF x.2,(y::ak).eraseIdx bB,some (ji x)) hinv (by simp only[List.length_eraseIdx,Ob,if_true];omega)) ?_ ?_
     ·simp
     ·simp[Iz]
  ·have bA:n=s.aj.length:=by simp at a3;omega
   subst bA;have wT:=fl mc (show s.cells.length<2 ^ 62 by omega);refine W.exit rfl ?_;refine aE wT ?_;refine W.to (ω (c+1) mc R) ?_ ?_
   ·rw[X0,<-j8]
   ·simp[wT]
 ·have ε:c=s.cells.length:=by simp at ε;omega
  subst ε;refine W.exit rfl ?_;refine Η ?_;obtain⟨⟨Oc,uZ,mQ,m3⟩,dX⟩:∃B,B=u7 s F s.cells.length:=⟨_,rfl⟩;rw[<-dX];refine W.fix (id:=0) (σ':=[]) (Nat.zero_le _) rfl ζ ζ rfl [(7,cW F),(8,.ao [I Oc,I uZ,I mQ,a' m3])] ζ ?_;have J:∀f∈F,f.cells.length<2 ^ 62/\∀i,i<=f.cells.length->je f.cells (-1) i<2 ^ 62:=λf Τ=>⟨(ck.many f Τ).1,(ck.many f Τ).2 (-1)⟩;cases m3
  ·refine uV ?_;refine aD rfl ?_;refine Η ?_;refine W.drop (h:=0) (σ':=[]) (Nat.zero_le _) (Nat.zero_le _) ζ rfl [(2,I 0),(3,I 0),(4,I 0),(5,I 11)] ζ ?_;refine W.rt ?_;exact .of ζ
  ·refine W.draw (A:=[]) Υ mixed λΘ θ=>rM ?_;refine eZ (az.p (NH F (by have:=ck.n1;omega) J ck.count) (bI.refl _) ζ ζ) ?_;simp;(repeat (rw[dq];simp[]));try rw[dp]
   refine e5 (θ _ _ ?_);by_cases q:mQ=g3 F
   ·refine aD (by simp[q]) ?_;refine Η ?_;refine W.drop (h:=0) (σ':=[]) (Nat.zero_le _) (Nat.zero_le _) ζ rfl [(2,I 0),(3,I 0),(4,I 0),(5,I 11)] ζ ?_;refine W.rt ?_;exact .of (by simp[q])
   ·refine aA (by simp[q]) ?_;refine Η ?_;refine uV ?_;refine W.drop (h:=0) (σ':=[]) (Nat.zero_le _) (Nat.zero_le _) ζ rfl [(2,I Oc),(3,I uZ),(4,I mQ),(5,I 0)] ζ ?_;refine W.rt ?_;exact .of (by simp[q])
theorem X8 (l:List Int) (ξ:l.length<2 ^ 30) :
  ab Tryz.prog 85 [.ms 0 l.length 0 l.length] [.cells 3 1 (l.map I)] (λr s=>(∃e k,r=.sl e k (l.map I)/\(l≠[]->k=1))/\s=[.cells 3 1 (l.map I)]) (λ_ _=>False):=by
 refine ab.body Υ Tryz.func85 rfl rfl Tryz.ntmps85 rfl rfl ζ ?_;have nf:l.length<=4294967295:=R;by_cases Φ:l=[]
 ·subst Φ;refine Η ?_;refine bh λΘ θ=>?_;intro j δ;apply θ;by_cases rK:j=1
  ·refine aD (by simp[rK]) ?_;refine Η ?_;exact W.ret ⟨_,rfl,⟨true,0,rfl,λh=>absurd rfl h⟩,rfl⟩
  ·refine aA (by simp[rK]) ?_
   repeat apply Ω
   refine dB (A:=[5,7]) Υ λΘ θ=>bD ?_;apply θ;refine W.cut 1 (Nat.le_refl _) [(2,.sl false 1 [])] ζ (λid r b5 ι=>?_) (λp π=>?_) ?_
   ·obtain rfl:id=0:=by omega
    simp at ι;subst ι;simp[e3]
   ·obtain rfl:p=(2,.sl false 1 []):=by simpa using π
    exact eJ.own (id:=1) (t:=3) (Nat.le_refl _) rfl ζ ζ
   ·exact W.ret ⟨_,rfl,⟨false,1,rfl,λ_=>rfl⟩,rfl⟩
 ·refine Η ?_;refine hz Φ λΘ θ=>?_;apply θ;refine aA rfl ?_
  repeat apply Ω
  have lC:List.take l.length (l.map I)=l.map I:=List.take_of_length_le ζ
  have X9:l.length<=4294967296:=R;refine dB (A:=[5,7]) Υ λΘ θ=>gS (υ nf (υ Φ (υ lC X9))) ?_;apply θ;have hb:∀e∈l.map I,∀a∈e.cells,aJ 1 a:=λe he a κ=>by
   obtain⟨x,_,rfl⟩:=List.mem_map.1 he;simp[η.cells] at κ;subst κ;simp
  refine W.cut 1 (Nat.le_refl _) [(2,.sl false 1 (l.map I))] ζ (λid r b5 ι=>?_) (λp π=>?_) ?_
  ·obtain rfl:id=0:=by omega
   simp at ι;subst ι;exact hb
  ·obtain rfl:p=(2,.sl false 1 (l.map I)):=by simpa using π
   exact eJ.own (id:=1) (t:=3) (Nat.le_refl _) rfl ζ hb
  ·exact W.ret ⟨_,rfl,⟨false,1,rfl,λ_=>rfl⟩,rfl⟩
abbrev u9 (k:List Int):η:=.a0 (k.map I)
abbrev pF (e:List Int×Int):η×η:=(u9 e.1,I e.2)
def A6 (m:List (List Int×Int)):Prop:=∀e∈m,e.1.length=4
theorem X' (x y:List Int) (γ:x.length=4) (Κ:y.length=4):aeqv bg 157 (u9 x) (u9 y)=some (decide (x=y)):=by
 match x,γ,y,Κ with
 | [a,b,c,d],_,[bT,Ψ,c',cJ],_=>
  simp[aeqv,kh,m2,Bool.eq_iff_iff]
def kM:List (List Int×Int)->List Int->Int->List (List Int×Int)
 | [],k,v=>[(k,v)]
 | e::r,k,v=>if k=e.1 then(k,v)::r else e::kM r k v
def wU:List (List Int×Int)->List Int->Option Int
 | [],_=>none
 | e::r,k=>if k=e.1 then some e.2 else wU r k
theorem Ya (k:List Int) (χ:k.length=4):∀(m:List (List Int×Int)) (d:Nat),A6 m->(ia bg 157 (u9 k) (m.map pF) d=some none/\wU m k=none/\∀v,kM m k v=m++[(k,v)])\/
  ∃i x,i<m.length/\ia bg 157 (u9 k) (m.map pF) d=some (some (d+i,I x))/\wU m k=some x/\∀v,kM m k v=m.set i (k,v):=by
 intro m
 induction m with
 | nil=>intro d _;exact .inl ⟨rfl,rfl,λ_=>rfl⟩
 | cons e r ω=>
  intro d Ε;have Ξ:=X' k e.1 χ (Ε e ζ);by_cases h:k=e.1
  ·refine .inr ⟨0,e.2,ζ,?_,by simp[wU,h],λv=>by simp[kM,h]⟩;simp only[List.map_cons,ia,Ξ];simp[h]
  ·have hb:decide (k=e.1)=false:=by simpa using h
   rcases ω (d+1) (λx γ=>Ε x (by simp[γ])) with⟨J,U,μ⟩|⟨i,x,J,U,μ,au⟩
   ·refine .inl ⟨?_,by simp[wU,h,U],λv=>by simp[kM,h,μ]⟩;simp only[List.map_cons,ia,Ξ,hb,cond_false];exact J
   ·refine .inr ⟨i+1,x,by simp;omega,?_,by simp[wU,h,μ],λv=>by simp[kM,h,au]⟩;simp only[List.map_cons,ia,Ξ,hb,cond_false];rw[U];have:d+1+i=d+(i+1):=R;rw[this]
theorem Od {m:List (List Int×Int)} (h:A6 m) {k:List Int} (χ:k.length=4) (v:Int):A6 (kM m k v):=by
 induction m with
 | nil=>intro e he;simp[kM] at he;subst he;exact χ
 | cons a r ω=>
  intro e he;unfold kM at he;split at he
  ·rcases List.mem_cons.1 he with rfl|he
   ·exact χ
   ·exact h e (by simp[he])
  ·rcases List.mem_cons.1 he with rfl|he
   ·exact h _ ζ
   ·exact ω (λx γ=>h x (by simp[γ])) e he
def pG (s:aS) (p r:Int×Int) (L:List Nat) (k:Nat):List Int:=((L.take k).map λx=>s.hA p r x)++List.replicate (4-k) 0
theorem Oe {s:aS} {p r:Int×Int} {L:List Nat} {k:Nat} (χ:k<=L.length) (Ε:L.length<=4):(pG s p r L k).length=4:=by simp[pG];omega
theorem Yb {s:aS} {p r:Int×Int} {L:List Nat} {k:Nat} (χ:k<L.length) (Ε:L.length<=4):(pG s p r L k).take k++s.hA p r L[k]::(pG s p r L k).drop (k+1)=pG s p r L (k+1):=by
 have Γ:((L.take k).map λx=>s.hA p r x).length=k:=by simp;omega
 have Δ:4-k=(4-(k+1))+1:=R;unfold pG;rw[List.take_left' Γ,List.drop_append,List.drop_eq_nil_of_le R,Γ,List.take_succ_eq_append_getElem χ,List.map_append,Δ,List.replicate_succ];have a4:k+1-k=1:=R;rw[a4];simp
abbrev yz:=Option (List (List Int×Int))
def yA (m:yz) (k:List Int) (v:Int):yz:=m.bind λm=>match wU m k with|some x=>if x=v then some (kM m k v) else none|none=>some (kM m k v)
def ng (s:aS) (f:Found) (cell:Nat) (lower:Bool) (L:List Nat) (m:yz) (j:Nat):yz:=(((f.cells[cell]?).getD []).take j).foldl (λm r=>yA m (pG s (f.u,f.v) r L L.length) (k6 lower r)) m
def u' (s:aS) (F:List Found) (cell:Nat) (lower:Bool) (L:List Nat) (i:Nat):yz:=(F.take i).foldl (λm f=>ng s f cell lower L m ((f.cells[cell]?).getD []).length) (some [])
def rZ (s:aS) (F:List Found) (cell:Nat) (lower:Bool) (L:List Nat):Bool:=(u' s F cell lower L F.length).isSome
theorem Yc (s:aS) (f:Found) (cell:Nat) (lower:Bool) (L:List Nat) (m:yz) (j:Nat) (h:j<((f.cells[cell]?).getD []).length):ng s f cell lower L m (j+1)=yA (ng s f cell lower L m j) (pG s (f.u,f.v) ((f.cells[cell]?).getD [])[j] L L.length) (k6 lower ((f.cells[cell]?).getD [])[j]):=by
 unfold ng;rw[List.take_succ_eq_append_getElem h,List.foldl_append];rfl
theorem Of (s:aS) (F:List Found) (cell:Nat) (lower:Bool) (L:List Nat) (i:Nat) (h:i<F.length):u' s F cell lower L (i+1)=ng s F[i] cell lower L (u' s F cell lower L i) ((F[i].cells[cell]?).getD []).length:=by
 unfold u';rw[List.take_succ_eq_append_getElem h,List.foldl_append];rfl
theorem Og (l:List (Int×Int)) (k:(Int×Int)->List Int) (v:Int×Int->Int):l.foldl (λm r=>yA m (k r) (v r)) none=none:=by
 induction l with
 | nil=>rfl
 | cons a l ω=>exact ω
theorem Yd (s:aS) (F:List Found) (cell:Nat) (lower:Bool) (L:List Nat) {i j:Nat} (hi:i<F.length) (δ:j<=((F[i].cells[cell]?).getD []).length) (h:ng s F[i] cell lower L (u' s F cell lower L i) j=none):rZ s F cell lower L=false:=by
 have J:ng s F[i] cell lower L (u' s F cell lower L i) ((F[i].cells[cell]?).getD []).length=none:=by
  unfold ng at h ⊢;rw[List.take_length]
  conv=>lhs;rw[<-List.take_append_drop j ((F[i].cells[cell]?).getD [])]
  rw[List.foldl_append,h];exact Og _ _ _
 rw[<-Of s F cell lower L i hi] at J;unfold rZ;unfold u' at J ⊢;rw[List.take_length]
 conv=>lhs;rw[<-List.take_append_drop (i+1) F]
 rw[List.foldl_append,J];have:∀l:List Found,(l.foldl (λm f=>ng s f cell lower L m ((f.cells[cell]?).getD []).length) none)=none:=λl=>by
  induction l with
  | nil=>rfl
  | cons a l ω=>
   rw[List.foldl_cons];have:ng s a cell lower L none ((a.cells[cell]?).getD []).length=none:=by unfold ng;exact Og _ _ _
   rw[this];exact ω
 rw[this];rfl
abbrev fD (L:List Nat):Row:=.cells 3 1 (L.map λn:Nat=>I n)
theorem IA {h:Nat} {L:List Nat}:e3 h (fD L):=λe he a κ=>by
 obtain⟨x,_,rfl⟩:=List.mem_map.1 he;simp[η.cells] at κ;subst κ;simp
theorem Ye (s:aS) (ν:s.small) (F:List Found) (ck:EK s F) (cell:Nat) (yB:cell<s.cells.length) (lower:Bool) (L:List Nat) (ai:L.length<=4) (jh:∀x∈L,x<s.aj.length) :
  ab Tryz.prog 84 [fS s,cW F,I cell,a' lower,.ms 0 L.length 0 L.length] [fD L] (λr σ=>r=a' (rZ s F cell lower L)/\σ=[fD L]) (λ_ _=>False):=by
 refine ab.body Υ Tryz.func84 rfl rfl Tryz.ntmps84 rfl rfl ζ ?_;refine Η ?_;have rY:∀M:List (List Int×Int),∀r∈[fD L,.map (M.map pF)],e3 [fD L,.map (M.map pF)].length r:=λM r ι=>by
  simp only[List.mem_cons,List.not_mem_nil,or_false] at ι;rcases ι with rfl|rfl
  ·exact IA
  ·intro e he;obtain⟨x,_,rfl⟩:=List.mem_map.1 he;simp
 refine W.iter (λx:Nat×List (List Int×Int)=>x.1<=F.length/\u' s F cell lower L x.1=some x.2/\A6 x.2) (λ(i,_)=>[(2,I cell),(3,a' lower),(4,.ms 0 L.length 0 L.length),(5,.ao [aT s.ae,a6 s.aj,bx s.cells]),(11,.mp 1),(23,cW F),(24,I F.length),(25,I i)])
  (λ(_,M)=>[fD L,.map (M.map pF)]) (λx=>F.length-x.1) (0,[]) ⟨Nat.zero_le _,rfl,λe he=>by cases he⟩ rfl ζ (λx γ ω=>?_)
 obtain⟨i,M⟩:=x;obtain⟨hi,dG,Ε⟩:=γ;simp only at hi dG Ε ⊢;refine Η ?_;by_cases lJ:i<F.length
 ·refine aD (by simp[lJ]) ?_;have qG:=Of s F cell lower L i lJ;have sA:=λj=>Yd s F cell lower L (i:=i) (j:=j) lJ;rw[dG] at qG sA;obtain⟨n3,iX⟩:=ck.cells _ (List.getElem_mem lJ);generalize Τ:F[i]=f at qG sA n3 iX;have cm:cell<f.cells.length:=by rw[n3];exact yB
  repeat apply Ω
  refine dB (A:=[13]) Υ λΘ θ=>gS (υ lJ Τ) ?_;apply θ;refine W.pD (σ0:=[fD L,.map (M.map pF)]) ζ (rY _) ζ [(13,.ao [I f.u,I f.v,m' f.cells]),(2,I cell),(3,a' lower),(4,.ms 0 L.length 0 L.length),(5,.ao [aT s.ae,a6 s.aj,bx s.cells]),(11,.mp 1),(23,cW F),(24,I F.length),(25,I i)] (by simp[ki,s9,m5]) ?_;refine aE cm ?_;have A3:(f.cells[cell]?).getD []=f.cells[cell]:=by simp[cm]
  rw[A3] at qG sA;have A4:=iX _ (List.getElem_mem cm);have qH:=Yc s f cell lower L (some M);rw[A3] at qH;generalize f.cells[cell]=C at qG A4 qH sA;obtain⟨X5,Iy⟩:=A4;refine W.iter (λx:Nat×List (List Int×Int)=>x.1<=C.length/\ng s f cell lower L (some M) x.1=some x.2/\A6 x.2) (λ(j,_)=>[(2,I cell),(3,a' lower),(4,.ms 0 L.length 0 L.length),(5,.ao [aT s.ae,a6 s.aj,bx s.cells]),(11,.mp 1),(23,cW F),(24,I F.length),(25,I i),(13,.ao [I f.u,I f.v,m' f.cells]),(33,m9 C),(34,I C.length),(35,I j)])
   (λ(_,M)=>[fD L,.map (M.map pF)]) (λx=>C.length-x.1) (0,M) ⟨Nat.zero_le _,rfl,Ε⟩ rfl ζ (λx γ g4=>?_)
  obtain⟨j,M2⟩:=x;obtain⟨δ,yy,A7⟩:=γ;simp only at δ yy A7 ⊢;refine Η ?_;by_cases mA:j<C.length
  ·refine aD (by simp[mA]) ?_;have qI:=qH j mA;rw[yy] at qI;obtain⟨sJ,u2⟩:=Iy _ (List.getElem_mem mA);generalize ι:C[j]=r at qI sJ u2
   repeat apply Ω
   refine dB (A:=[15]) Υ λΘ θ=>gS (υ mA ι) ?_;apply θ;refine W.pD (σ0:=[fD L,.map (M2.map pF)]) ζ (rY _) ζ [(15,.ao [I r.1,I r.2]),(2,I cell),(3,a' lower),(4,.ms 0 L.length 0 L.length),(5,.ao [aT s.ae,a6 s.aj,bx s.cells]),(11,.mp 1),(23,cW F),(24,I F.length),(25,I i),(13,.ao [I f.u,I f.v,m' f.cells]),(33,m9 C),(34,I C.length),(35,I j)] (by simp[ki,s9,m5]) ?_
   repeat apply Ω
   refine dB (A:=[16]) Υ λΘ θ=>bD ?_;apply θ;refine Η ?_;refine W.iter (λk:Nat=>k<=L.length) (λk=>[(2,I cell),(3,a' lower),(4,.ms 0 L.length 0 L.length),(5,.ao [aT s.ae,a6 s.aj,bx s.cells]),(11,.mp 1),(23,cW F),(24,I F.length),(25,I i),(13,.ao [I f.u,I f.v,m' f.cells]),(33,m9 C),(34,I C.length),(35,I j),(15,.ao [I r.1,I r.2]),(16,.ah 2 1 0 0),(39,.ms 0 L.length 0 L.length),(40,I L.length),(41,I k)])
    (λk=>[fD L,.map (M2.map pF),.cells 157 4 [u9 (pG s (f.u,f.v) r L k)]]) (λk=>L.length-k) 0 (Nat.zero_le _) (by simp[pG]) ζ (λk χ rV=>?_)
   refine Η ?_;by_cases jK:k<L.length
   ·refine aD (by simp[jK]) ?_;have wV:(k:Int)<4:=R;have jq:k<=3:=R;have uJ:=Yb (s:=s) (p:=(f.u,f.v)) (r:=r) jK ai;have hlen:=Oe (s:=s) (p:=(f.u,f.v)) (r:=r) (Nat.le_of_lt jK) ai;have Yf:=jh _ (List.getElem_mem jK);obtain⟨K,θ⟩:=aK (pG s (f.u,f.v) r L k);rw[<-θ] at uJ hlen ⊢;refine aE (υ jK (υ wV hlen)) ?_;refine hz (υ wV hlen) λΘ θ=>?_;refine az.c (AR s ν (f.u,f.v) r L[k] Yf sJ u2) (bI.refl _) ζ ζ ?_;simp[wV,jq,hlen];(repeat (rw[al];simp[wV,jq,hlen]));apply θ;have wW:=fl jK (show L.length<2 ^ 62 by omega);refine aE wW ?_;refine W.to (rV (k+1) jK R) ?_ ?_
    ·rw[<-uJ];simp
    ·simp[wW]
   ·have Yg:k=L.length:=by omega
    subst Yg;refine aA ζ ?_;refine W.exit rfl ?_;have hlen:=Oe (s:=s) (p:=(f.u,f.v)) (r:=r) (Nat.le_refl _) ai;obtain⟨K,θ⟩:=aK (pG s (f.u,f.v) r L L.length);obtain⟨v,hv⟩:=aK (k6 lower r);rw[<-θ,<-hv] at qI;rw[<-θ] at hlen ⊢
    repeat apply Ω
    refine W.s6 (A:=[]) Υ [(2,I cell),(3,a' lower),(4,.ms 0 L.length 0 L.length),(5,.ao [aT s.ae,a6 s.aj,bx s.cells]),(11,.mp 1),(23,cW F),(24,I F.length),(25,I i),(13,.ao [I f.u,I f.v,m' f.cells]),(33,m9 C),(34,I C.length),(35,I j),(15,.ao [I r.1,I r.2]),(16,.ah 2 1 0 0),(19,I v)] ?_ (by
     rw[hv];cases lower
     all_goals
      (try simp);(repeat (rw[al];simp[]));(try simp[]);refine az.d (Ic _) (bD ?_);simp[k6])
    clear rV hv;have rW:=fl mA (show C.length<2 ^ 62 by omega);have lp:oD [fD L,.map (M2.map pF),.cells 157 4 [u9 K]] 1=true:=by simp[oD]
    have qb:oB bg 157 (u9 K)=true:=by
     match K,hlen with
     | [a,b,c,d],_=>simp[oB,kh,m2]
    have lC:List.take 4 (K.map I)=K.map I:=List.take_of_length_le (by simp[hlen]);rcases Ya K hlen M2 0 A7 with⟨Ρ,aa,aX⟩|⟨bB,x,cQ,Ρ,aa,aX⟩
    ·have aX:=aX v
     have hm:ng s f cell lower L (some M) (j+1)=some (kM M2 K v):=by rw[qI];simp[yA,aa]
     (repeat (first|apply Ω|(refine dx λΘ θ=>?_;simp;(repeat (rw[al];simp[Ρ,qb,lC,hlen,-oB]));apply θ)));refine aA rfl ?_;(repeat (first|apply Ω|(refine dx λΘ θ=>?_;simp;(repeat (rw[al];simp[Ρ,qb,lC,hlen,-oB]));apply θ)));refine W.drop (h:=2) (σ':=[fD L,.map ((kM M2 K v).map pF)]) ζ ζ (λid w b5 hw=>e3.mono (rY (kM M2 K v) w (by
      match id,b5,hw with
      | 0,_,hw=>simp at hw;subst hw;simp
      | 1,_,hw=>simp[aX] at hw;subst hw;simp[aX])) ζ) (by simp[aX]) [(2,I cell),(3,a' lower),(4,.ms 0 L.length 0 L.length),(5,.ao [aT s.ae,a6 s.aj,bx s.cells]),(11,.mp 1),(23,cW F),(24,I F.length),(25,I i),(13,.ao [I f.u,I f.v,m' f.cells]),(33,m9 C),(34,I C.length),(35,I ((j:Int)+1))] (by simp[ki,s9,m5,rW]) ?_
     refine W.to (g4 (j+1,kM M2 K v) ⟨mA,hm,Od A7 hlen v⟩ (by simp only;omega)) rfl ?_;simp
    ·have aX:=aX v;(repeat (first|apply Ω|(refine dx λΘ θ=>?_;simp;(repeat (rw[al];simp[Ρ,qb,lC,hlen,-oB]));apply θ)));by_cases EL:x=v
     ·have hm:ng s f cell lower L (some M) (j+1)=some (kM M2 K v):=by rw[qI];simp[yA,aa,EL]
      refine aA (by simp[EL]) ?_;(repeat (first|apply Ω|(refine dx λΘ θ=>?_;simp;(repeat (rw[al];simp[Ρ,qb,lC,hlen,-oB]));apply θ)));refine W.drop (h:=2) (σ':=[fD L,.map ((kM M2 K v).map pF)]) ζ ζ (λid w b5 hw=>e3.mono (rY (kM M2 K v) w (by
       match id,b5,hw with
       | 0,_,hw=>simp at hw;subst hw;simp
       | 1,_,hw=>simp[aX] at hw;subst hw;simp[aX])) ζ) (by simp[aX]) [(2,I cell),(3,a' lower),(4,.ms 0 L.length 0 L.length),(5,.ao [aT s.ae,a6 s.aj,bx s.cells]),(11,.mp 1),(23,cW F),(24,I F.length),(25,I i),(13,.ao [I f.u,I f.v,m' f.cells]),(33,m9 C),(34,I C.length),(35,I ((j:Int)+1))] (by simp[ki,s9,m5,rW]) ?_
      refine W.to (g4 (j+1,kM M2 K v) ⟨mA,hm,Od A7 hlen v⟩ (by simp only;omega)) rfl ?_;simp
     ·have hm:ng s f cell lower L (some M) (j+1)=none:=by rw[qI];simp[yA,aa,EL]
      have pe:=sA (j+1) mA hm;rw[pe];refine aD (by simp[EL]) ?_;refine Η ?_;refine W.drop (h:=1) (σ':=[fD L]) ζ ζ (λid w b5 hw=>by
       obtain rfl:id=0:=R;simp at hw;subst hw;exact IA) rfl [(10,a' false)] ζ ?_
      exact W.ret ⟨_,rfl,rfl,rfl⟩
  ·have A2:j=C.length:=by omega
   subst A2;have kj:=fl lJ (show F.length<2 ^ 62 by have:=ck.n1;omega);refine aA ζ ?_;refine W.exit rfl ?_;refine aE kj ?_;refine W.to (ω (i+1,M2) ⟨lJ,by rw[qG];exact yy,A7⟩ (by simp only;omega)) rfl ?_;simp[kj]
 ·have eI:i=F.length:=by omega
  subst eI;have pe:rZ s F cell lower L=true:=by unfold rZ;rw[dG];rfl
  rw[pe];refine aA ζ ?_;refine W.exit rfl ?_;refine Η ?_;refine W.drop (h:=1) (σ':=[fD L]) ζ ζ (λid w b5 hw=>by
   obtain rfl:id=0:=R;simp at hw;subst hw;exact IA) rfl [(10,a' true)] ζ ?_
  exact W.ret ⟨_,rfl,rfl,rfl⟩
end Go.TL
namespace Go.TL
open Go.Conc Go.Proofs
variable [bp]
section
variable {P:Program} {Q:Value->Prop} {mn:Bool} {x:g9} {cs rest:List Frame} {H:Α} {b f c:Frame} {t:Array Value} {k:List Item} {fn:Func}
theorem ς.getLoop {L:Nat} {r:Loop} (h:H.obj L=some (.loop r)) {K:Loop->Α->Prop} {E:Value->Α->Prop} (χ:K r H):ς P (Instr.getLoop L) H K E:=by
 unfold Instr.getLoop;refine ς.bind' ?_;exact⟨_,h,rfl,ς.pure' χ⟩
theorem ς.IB {L:Nat} {r r':Loop} (h:H.obj L=some (.loop r)) {K:Unit->Α->Prop} {E:Value->Α->Prop} (χ:K () (H.bK L (.loop r'))):ς P (setObj L (.loop r')) H K E:=
 ⟨⟨_,h⟩,rfl,rfl,ς.pure' χ⟩
abbrev Oh (st:LoopState) (EM:Option Code) (f:FuncId) (t:Array Value) (cZ:Array Tmp) (a sN:Code) (d:Nat):Loop:={state:=st,pending:=EM,fn:=f,tmps:=t,params:=cZ,assign:=a,body:=sN,defers:=d}
theorem aU.rangeFunc (γ:Seq x) (hb:b.mode=.run) (cu:b.roundOf=none) {fo:Operand} {cZ:Array Tmp} {assign body:Code} {g:FuncId} {nh:Array Value} (Yh:bl t fo=.func (.func g) #[] nh) (Ο:Plain P g)
  (h:∀r1 r2,H.fresh r1->(H.bK r1 (.deferred (some []))).fresh r2->aU P Q mn x (Frame.enter P g (#[.func (.yield r2) #[] #[]]++nh) .normal) ({ax b t (.inRangeFunc r2::k) with defers:=⟨.collected r1,#[]⟩::b.defers}::cs)
   ((H.bK r1 (.deferred (some []))).bK r2 (.loop (Oh .ready none b.fn t cZ assign body r1)))) :
  aU P Q mn x (ax b t (.code (.rangeFunc fo cZ assign body)::k)) cs H:=by
 refine .own γ λw Τ=>?_;have cr:ς P (Instr.enterLoop b.fn t cZ assign body none) H (λv H'=>∃r1 r2,H.fresh r1/\(H.bK r1 (.deferred (some []))).fresh r2/\v=(r2,[⟨.collected r1,#[]⟩])/\H'=(H.bK r1 (.deferred (some []))).bK r2 (.loop (Oh .ready none b.fn t cZ assign body r1))) (λ_ _=>False):=by
  unfold Instr.enterLoop;refine ς.bind' (λr1 J=>ς.pure' (ς.bind' (ς.pure' ?_)));refine ς.bind' (λr2 U=>ς.pure' (ς.pure' ?_));exact⟨r1,r2,J,U,rfl,rfl⟩
 obtain⟨H',w',es',hu,iy⟩:=ς.sound (P:=P) (G0:=H) (w0:=w) _ cr (ec.start Τ);rcases iy with⟨v,eh,r1,r2,J,U,rfl,rfl⟩|⟨v,eh,dz⟩
 ·refine⟨_,_,w',seen P b.fn es',_,?_,hu.sub λe he=>mem_seen he,h r1 r2 J U⟩;have dK:∀F:Frame,F.tmps=t->resolve F.eval {callee:=.value fo,args:=#[.const (.func (.yield r2) #[] #[])],argTypes:=#[]} 0=Deferred.ofValue (.func (.func g) #[] nh) #[.func (.yield r2) #[] #[]]:=λF ev=>by
   have:F.eval fo=.func (.func g) #[] nh:=by rw[<-Yh,<-ev];cases fo<;>rfl
   unfold resolve;simp only;rw[this];simp[Frame.eval]
  have hinv:((do let d <-Deferred.ofValue (.func (.func g) #[] nh) #[.func (.yield r2) #[] #[]];invoke d.target d.args:Sem Next)).runT P w' #[]=(.ok (.enter g (#[.func (.yield r2) #[] #[]]++nh)) w',#[]):=by
   have:=Ο.enter (#[.func (.yield r2) #[] #[]]++nh) w';simpa[Deferred.ofValue,invoke] using this
  rw[jN hb];unfold stepG.exec;simp only[ax,cu,eh];rw[dK _ rfl];unfold stepG.apply;simp only[if_true,hinv];simp[GStep.after,Go.Conc.G,ax,seen_none]
 ·exact dz.elim
theorem aU.Oi (γ:Seq x) (hb:b.mode=.run) {L:Nat} {r:Loop} (ai:H.obj L=some (.loop r)) (ν:r.state≠.busy)
  (h:aU P Q mn x (ax b t ((r.pending.map Item.code).toList++k)) cs (H.bK L (.loop {r with state:=.exhausted}))):aU P Q mn x (ax b t (.endRangeFunc L::k)) cs H:=by
 refine .own γ λw Τ=>?_;have cr:ς P (Instr.endLoop L) H (λv H'=>v=r.pending/\H'=H.bK L (.loop {r with state:=.exhausted})) (λ_ _=>False):=by
  unfold Instr.endLoop;refine ς.bind' (ς.getLoop ai ?_);have e:(r.state==.busy)=false:=by cases Ξ:r.state<;>first|rfl|exact absurd Ξ ν
  simp only[e,Bool.false_eq_true,if_false];exact ς.bind' (ς.IB ai (ς.pure' ⟨rfl,rfl⟩))
 obtain⟨H',w',es',hu,iy⟩:=ς.sound (P:=P) (G0:=H) (w0:=w) _ cr (ec.start Τ);rcases iy with⟨v,eh,rfl,rfl⟩|⟨v,eh,dz⟩
 ·refine⟨_,_,w',seen P b.fn es',_,?_,hu.sub λe he=>mem_seen he,h⟩;rw[jN hb];unfold stepG.exec;simp only[ax,eh];simp[GStep.after,Go.Conc.G]
 ·exact dz.elim
theorem aU.beginRound (γ:Seq x) (hb:b.mode=.run) {L:Nat} (cu:b.roundOf=some L) {r:Loop} (ai:H.obj L=some (.loop r)) (ν:r.state=.ready)
  (h:aU P Q mn x (ax b t k) cs (H.bK L (.loop {r with state:=.busy}))):aU P Q mn x (ax b t (.beginRound::k)) cs H:=by
 refine .own γ λw Τ=>?_;have cr:ς P (Instr.beginRound L) H (λ_ H'=>H'=H.bK L (.loop {r with state:=.busy})) (λ_ _=>False):=by
  unfold Instr.beginRound;refine ς.bind' (ς.getLoop ai (ς.bind' (ς.IB ai ?_)));rw[ν];exact ς.pure' rfl
 have Yi:ς P (do Instr.beginRound L;pure Next.skip:Sem Next) H (λv H'=>v=.skip/\H'=H.bK L (.loop {r with state:=.busy})) (λ_ _=>False):=
  ς.bind' (ς.mono (λ_ _ e=>ς.pure' ⟨rfl,e⟩) (λ_ _ h=>h) _ cr)
 obtain⟨H',w',es',hu,iy⟩:=ς.sound (P:=P) (G0:=H) (w0:=w) _ Yi (ec.start Τ);rcases iy with⟨v,eh,rfl,rfl⟩|⟨v,eh,dz⟩
 ·generalize gl:(if b.kind==.early then #[] else es')=ou;have kC:∀e∈seen P b.fn ou,e∈es':=λe he=>by
   have:=mem_seen he;rw[<-gl] at this;split at this
   ·simp at this
   ·exact this
  refine⟨_,_,w',seen P b.fn ou,_,?_,hu.sub kC,h⟩;rw[jN hb];unfold stepG.exec;simp only[ax,cu,Option.elim];unfold stepG.apply;simp only[if_true,eh];rw[gl];simp[GStep.after,Go.Conc.G,Frame.finish]
 ·exact dz.elim
theorem aU.endRound (γ:Seq x) (hb:b.mode=.run) {L:Nat} (cu:b.roundOf=some L) (χ:b.kind=.normal) {r:Loop} (ai:H.obj L=some (.loop r)) {jump:Option Code} (δ:(jump=none/\k=[])\/(jump=some .ret/\∃af,k=.code .ret::af)\/∃id af,jump=some (.exit id)/\k=.code (.exit id)::af/\exitTo id af=none)
  (h:aU P Q mn x (c.finish (.bool jump.isNone)) rest (H.bK L (.loop {r with state:=if jump.isNone then .ready else .done,pending:=jump}))):aU P Q mn x (ax b t k) (c::rest) H:=by
 refine .own γ λw Τ=>?_;have cr:ς P (Instr.endRound L jump) H (λv H'=>v=.bool jump.isNone/\H'=H.bK L (.loop {r with state:=if jump.isNone then .ready else .done,pending:=jump})) (λ_ _=>False):=by
  unfold Instr.endRound;exact ς.bind' (ς.getLoop ai (ς.bind' (ς.IB ai (ς.pure' ⟨rfl,rfl⟩))))
 obtain⟨H',w',es',hu,iy⟩:=ς.sound (P:=P) (G0:=H) (w0:=w) _ cr (ec.start Τ);rcases iy with⟨v,eh,rfl,rfl⟩|⟨v,eh,dz⟩
 ·refine⟨_,_,w',seen P b.fn es',_,?_,hu.sub λe he=>mem_seen he,h⟩;rw[jN hb];unfold stepG.exec;rcases δ with⟨rfl,rfl⟩|⟨rfl,af,rfl⟩|⟨id,af,rfl,rfl,he⟩
  ·simp only[ax,cu,eh];simp[GStep.after,Go.Conc.G,doReturn,χ]
  ·simp only[ax,cu,eh];simp[GStep.after,Go.Conc.G,doReturn,χ]
  ·simp only[ax,cu,he,Option.elim,eh];simp[GStep.after,Go.Conc.G,doReturn,χ]
 ·exact dz.elim
theorem aU.collected (γ:Seq x) (hm:f.mode=.returning) {r:Nat} {ds:List Deferred} (hd:f.defers=⟨.collected r,#[]⟩::ds) (ι:H.obj r=some (.deferred (some [])))
  (h:aU P Q mn x {f with defers:=ds} cs (H.bK r (.deferred none))):aU P Q mn x f cs H:=by
 refine .own γ λw Τ=>?_;have cr:ς P (Instr.takeDeferred r) H (λv H'=>v=[]/\H'=H.bK r (.deferred none)) (λ_ _=>False):=by
  unfold Instr.takeDeferred;refine ς.bind' ?_;exact⟨_,ι,rfl,ς.pure' (ς.bind' ⟨⟨_,ι⟩,rfl,rfl,ς.pure' (ς.pure' ⟨rfl,rfl⟩)⟩)⟩
 obtain⟨H',w',es',hu,iy⟩:=ς.sound (P:=P) (G0:=H) (w0:=w) _ cr (ec.start Τ);rcases iy with⟨v,eh,rfl,rfl⟩|⟨v,eh,dz⟩
 ·refine⟨_,_,w',seen P f.fn es',_,?_,hu.sub λe he=>mem_seen he,h⟩;rw[xX (by rw[hm];simp)];unfold unwind;simp only[hd,eh];simp[GStep.after,Go.Conc.G]
 ·exact dz.elim
end
end Go.TL
