import Derived.Sort.AssemblyPlain
import Derived.Sort.LotA
import Derived.Test.YtkndbcflmgogjaaGreatQAF
set_option maxHeartbeats 16000000
set_option maxRecDepth 20000
set_option linter.unusedSectionVars false
set_option linter.unusedSimpArgs false
set_option linter.unusedVariables false
namespace Go.TL
open Go.Proofs.Tryz
open Go.Sort (SWO bitsLen insInner insOuter insertionSort insertionSort_holds ltInt sorted_unique_holds swp)
open Go.Proofs
variable [Z1]
def idxOf {a:Type} (p:a->Bool) (l:List a):Int:=if l.any p then(l.findIdx p:Nat) else -1
theorem MN {b:Type} {p:b->Bool} {l:List b} {i:Nat} (h:i<l.length) (c:p l[i]=true) (e:∀j,j<i->(g:j<l.length)->p l[j]=false):idxOf p l=(i:Nat):=by
 have f:l.any p=true:=Qe.2 ⟨_,Yq h,c⟩
 have:l.findIdx p=i:=by
  have k:¬l.findIdx p<i:=λa=>by
   have d:l.findIdx p<l.length:=I
   have:=List.findIdx_getElem (p:=p) (w:=d);rw[e _ a d] at this;cases this
  have m:¬i<l.findIdx p:=λa=>by
   have:=List.not_of_lt_findIdx a;rw[c] at this;simp at this
  omega
 unfold idxOf;rw[if_pos f,this]
theorem MM {a:Type} {p:a->Bool} {l:List a} (h:∀j,(b:j<l.length)->p l[j]=false):idxOf p l=-1:=by
 have:l.any p=false:=by
  rw[KL];intro x c;obtain⟨j,b,rfl⟩:=Om c;simp[h j b]
 unfold idxOf;rw[this];rfl
theorem ML {a:Type} {p:a->Bool} {l:List a}:decide (idxOf p l>=0)=l.any p:=by
 unfold idxOf;cases h:l.any p<;>simp
theorem uu (l:Α) (n:Int) (f:l.length<2 ^ 62):Τ prog 101 [ζ J 1 l,J n] (J (idxOf (·==n) l)):=by
 refine Μ.body Ο func101 U U ntmps101 U U Ω ?_;refine Φ ?_;refine W.iter (λi:Nat=>i<=l.length/\∀j,j<i->(h:j<l.length)->(l[j]==n)=false) (λi=>[(0,ζ J 1 l),(1,J n),(6,ζ J 1 l),(7,J l.length),(8,J i)]) (λ_=>[]) (λi=>l.length-i) 0 ⟨Ζ _,λj b=>I⟩ U Ω (λi hi g=>?_);refine Φ ?_;refine W.Yl U (λa=>?_) (λa=>?_)
 .have a:i<l.length:=by simpa using a
  refine Z9 a ?_;refine W.Yl U (λc=>?_) (λc=>?_)
  .have d:n=l[i]:=by simpa using c
   refine Φ ?_;refine W.Y' ?_;rw[MN a (by simp[d]) hi.2];rfl
  .have d:¬n=l[i]:=by simpa using c
   refine Φ ?_;refine W.forget _ ?_ (g (i+1) ⟨I,λj b h=>?_⟩ I)
   .simp[Y9 a f]
   .by_cases e:j=i
    .subst e;simpa using λx=>d x.symm
    .exact hi.2 j I h
 .have a:l.length<=i:=by simpa using a
  refine W.exit U ?_;refine Φ ?_;refine W.Y' ?_;rw[MM λj b=>hi.2 j I b];rfl
theorem any_beq (l:Α) (n:Int):(l.any λx=>x==n)=l.contains n:=by
 rw[Qd];simp
theorem EU (l:Α) (n:Int) (a:l.length<2 ^ 62):Τ prog 56 [ζ J 1 l,J n] (ZV (l.contains n)):=by
 refine Μ.body Ο func56 U U ntmps56 U U Ω ?_;refine Φ ?_;refine υ λc b=>?_;refine Τ.d (uu l n a) (Δ ?_);apply b;refine Φ ?_;refine W.Y' ?_;rw[<-any_beq,<-ML];rfl
@[simp high] theorem uq {h:Nat} {e:Bool} {k:Nat} {c:Type} {f:c->Ψ} {l:List c}:η h (.sl e k (l.map f))↔∀x∈l,∀a∈(f x).cells,η h a:=by
 rw[BL];simp only[Zh];exact⟨λH x b=>H _ ⟨x,b,U⟩,λH e ⟨x,b,d⟩=>d▸H x b⟩
@[simp high] theorem iO {h:Nat} {e:Bool} {k n:Nat} {b:Type} {f:b->Ψ} {l:List b}:η h (.sl e k ((l.map f).take n))↔∀x∈l.take n,∀a∈(f x).cells,η h a:=by
 rw[<-Qc];exact uq
abbrev Zb (r:Int×Int):Ψ:=.Z6 [J r.1,J r.2]
abbrev Lw (l:List Xt):Ψ:=ζ Zb 2 l
abbrev Hh (l:List (List Xt)):Ψ:=ζ Lw 1 l
structure Found where
 u:Int
 v:Int
 cells:List (List Xt)
deriving DecidableEq
abbrev WN:=List Found
abbrev YE (f:Found):Ψ:=.Z6 [J f.u,J f.v,Hh f.cells]
abbrev Vs (l:WN):Ψ:=ζ YE 3 l
def Y6.of (s:Y6) (g:Int):Int:=if g<0 then 0 else((s.ZN[g.toNat]?).map (·.V0)).getD 0
theorem Hl (s:Y6) (g:Int) (c:g<s.ZN.length):Τ prog 262 [Wr s,J g] (J (s.of g)):=by
 refine Μ.body Ο func262 U U ntmps262 U U Ω ?_;refine Φ ?_;refine W.Yl U (λa=>?_) (λa=>?_)
 .have a:g<0:=by simpa using a
  refine Φ ?_;refine W.Y' ?_;rw[show s.of g=0 by simp[Y6.of,a]];rfl
 .have a:¬g<0:=by simpa using a
  obtain⟨n,rfl⟩:∃n:Nat,g=n:=⟨g.toNat,I⟩;have b:n<s.ZN.length:=I;refine Z9 b ?_;refine W.Y' ?_;rw[show s.of n=s.ZN[n].V0 by simp[Y6.of,b];intro h;omega];rfl
def Y6.Sy (s:Y6) (p r:Int×Int) (b:Nat):Int:=
 let l:=(s.ZF[b]?).getD []
 let a:=if l.contains p.1 then J4 0 (s.of r.1) else 0
 if l.contains p.2 then J4 a (s.of r.2) else a
theorem uo (s:Y6) (j:s.small) (p r:Int×Int) (n:Nat) (f:n<s.ZF.length) (k:r.1<s.ZN.length) (l:r.2<s.ZN.length) :
  Τ prog 242 [Wr s,Zb p,Zb r,J n] (J (s.Sy p r n)):=by
 refine Μ.body Ο func242 U U ntmps242 U U Ω ?_;have h:s.ZF[n].length<2 ^ 62:=by have:=j.2.2.2.1 _ (Yq f);omega
 refine Φ ?_;refine W.iter (λq:Nat×Int=>q.1<=2/\(q.1=0->q.2=0)/\(q.1=1->q.2=if s.ZF[n].contains p.1 then J4 0 (s.of r.1) else 0)/\(q.1=2->q.2=s.Sy p r n))
  (λq=>[(3,J n),(4,XP s),(5,.Ν [J p.1,J p.2]),(6,.Ν [J r.1,J r.2]),(9,J q.2),(12,Zb p),(13,J q.1)]) (λ_=>[]) (λq=>2-q.1) (0,0) ⟨I,Ω,Ω,Ω⟩ U Ω (λq hi a=>?_)
 rcases q with⟨i,x⟩
 match i,hi,a with
 | 0,hi,a=>
  have c:x=0:=hi.2.1 U;subst c;refine Φ ?_;refine Ι U ?_;refine Φ ?_;refine Ze f λg e=>?_;refine Τ.d (EU s.ZF[n] p.1 h) (Δ ?_);apply e;by_cases b:p.1∈s.ZF[n]
  .refine Ι (by simp[b]) ?_;refine Φ ?_;refine W.draw (A:=[]) Ο mixed λg e=>VG ?_;refine XV (Τ.q (Hl s r.1 k)) (VG ?_);refine Yn (e _ _ ?_);refine Φ ?_;refine W.forget _ ?_ (a (1,J4 0 (s.of r.1)) ⟨Ω,Ω,by simp[b],Ω⟩ Ω);simp[EY]
  .refine Κ (by simp[b]) ?_;refine Φ ?_;refine W.forget _ ?_ (a (1,0) ⟨Ω,Ω,by simp[b],Ω⟩ Ω);simp[EY]
 | 1,hi,a=>
  have c:=hi.2.2.1 U;simp at c;refine Φ ?_;refine Ι U ?_;refine Φ ?_;refine Ze f λg e=>?_;refine Τ.d (EU s.ZF[n] p.2 h) (Δ ?_);apply e;by_cases b:p.2∈s.ZF[n]
  .refine Ι (by simp[b]) ?_;refine Φ ?_;refine W.draw (A:=[]) Ο mixed λg e=>VG ?_;refine XV (Τ.q (Hl s r.2 l)) (VG ?_);refine Yn (e _ _ ?_);refine Φ ?_;refine W.forget _ ?_ (a (2,J4 x (s.of r.2)) ⟨Ω,Ω,Ω,λ_=>by simp only[Y6.Sy,Z4 f];simp[b,c]⟩ Ω);simp[EX]
  .refine Κ (by simp[b]) ?_;refine Φ ?_;refine W.forget _ ?_ (a (2,x) ⟨Ω,Ω,Ω,λ_=>by simp only[Y6.Sy,Z4 f];simp[b,c]⟩ Ω);simp[EX]
 | 2,hi,a=>
  have c:=hi.2.2.2 U;refine Φ ?_;refine Κ U ?_;refine W.exit U ?_;refine Φ ?_;refine W.Y' ?_;rw[<-show x=s.Sy p r n from c];rfl
 | i+3,hi,a=>exact absurd hi.1 Ω
def Y6.NV (s:Y6) (p r:Int×Int) (x:XC):Bool:=Hi x.seen (s.Sy p r x.Xg.toNat)==0&&Lx (s.Sy p r x.Xg.toNat) x.bare==0
def Y6.Lv (s:Y6) (p r:Int×Int) (c:Nat):Bool:=((s.cells[c]?).getD []).all (s.NV p r)
theorem um (s:Y6) (o:s.small) (p r:Int×Int) (c:Nat) (k:c<s.cells.length) (hv:∀x∈s.cells[c],0<=x.Xg/\x.Xg<s.ZF.length) (v:r.1<s.ZN.length) (w:r.2<s.ZN.length) :
  Τ prog 222 [Wr s,Zb p,Zb r,J c] (ZV (s.Lv p r c)):=by
 refine Μ.body Ο func222 U U ntmps222 U U Ω ?_;have y:s.cells[c].length<2 ^ 62:=by have:=o.2.2.2.2 _ (Yq k);omega
 have B:s.Lv p r c=s.cells[c].all (s.NV p r):=by simp[Y6.Lv,k]
 rw[B];refine Z9 k ?_;refine W.iter (λi:Nat=>i<=s.cells[c].length/\∀j,j<i->(h:j<s.cells[c].length)->s.NV p r s.cells[c][j]=true)
  (λi=>[(4,XP s),(5,.Ν [J p.1,J p.2]),(6,.Ν [J r.1,J r.2]),(17,TD s.cells[c]),(18,J s.cells[c].length),(19,J i)]) (λ_=>[]) (λi=>s.cells[c].length-i) 0 ⟨I,λj l=>I⟩ U Ω (λi hi C=>?_)
 refine Φ ?_;refine W.Yl U (λa=>?_) (λa=>?_)
 .have a:i<s.cells[c].length:=by simpa using a
  have t:=hv _ (Yq a);obtain⟨n,u⟩:∃n:Nat,s.cells[c][i].Xg=n:=⟨s.cells[c][i].Xg.toNat,I⟩;have D:n<s.ZF.length:=I;have ZW:s.NV p r s.cells[c][i]=(Hi s.cells[c][i].seen (s.Sy p r n)==0&&Lx (s.Sy p r n) s.cells[c][i].bare==0):=by simp[Y6.NV,u]
  repeat apply Γ
  refine ZG (A:=[10]) Ο λm b=>W8 a ?_;apply b
  repeat apply Γ
  refine Ze u λm b=>?_;refine Τ.d (uo s o p r n D v w) (Δ ?_);apply b
  repeat apply Γ
  by_cases f:Hi s.cells[c][i].seen (s.Sy p r n)=0
  .refine Ze @f λm b=>?_;refine Τ.d (Br s.cells[c][i].seen (s.Sy p r n)) (W8 @f ?_);refine Τ.d (Bs (s.Sy p r n) s.cells[c][i].bare) (Δ ?_);apply b;by_cases g:Lx (s.Sy p r n) s.cells[c][i].bare=0
   .refine Κ (by simp[g]) ?_;refine Φ ?_;refine W.drop (h:=0) (Ζ _) (Ζ _) Ω U _ ?_ (C (i+1) ⟨I,λj l h=>?_⟩ I)
    .simp[Y9 a y]
    .by_cases e:j=i
     .subst e;rw[ZW];simp[f,g]
     .exact hi.2 j I h
   .refine Ι (by simp[g]) ?_;refine Φ ?_;refine W.drop (h:=0) (Ζ _) (Ζ _) Ω U [(8,ZV false)] Ω ?_;refine W.Y' ?_;rw[show s.cells[c].all (s.NV p r)=false from IS.2 ⟨_,Yq a,by rw[ZW];simp[g]⟩];rfl
  .refine Ze @f λm b=>?_;refine Τ.d (Br s.cells[c][i].seen (s.Sy p r n)) (W8 @f ?_);apply b;refine Ι Ω ?_;refine Φ ?_;refine W.drop (h:=0) (Ζ _) (Ζ _) Ω U [(8,ZV false)] Ω ?_;refine W.Y' ?_;rw[show s.cells[c].all (s.NV p r)=false from IS.2 ⟨_,Yq a,by rw[ZW];simp[f]⟩];rfl
 .have a:s.cells[c].length<=i:=by simpa using a
  refine W.exit U ?_;refine Φ ?_;refine W.ret ⟨_,U,?_,U⟩;refine .of ?_;rw[show s.cells[c].all (s.NV p r)=true from XJ.2 λx t=>by
   obtain⟨j,l,rfl⟩:=Om t;exact hi.2 j I l]
  rfl
def PU (l:List (List Xt)) (a:Int) (i:Nat):Nat:=((List.range i).map λj:Nat=>if(j:Int)=a then 1 else((l[j]?).getD []).length).prod
theorem uk (l:List (List Xt)) (a:Int) (i:Nat):PU l a (i+1)=PU l a i*(if(i:Int)=a then 1 else((l[i]?).getD []).length):=by
 unfold PU;rw[Q4,VV,List.prod_append];simp
def Found.many (f:Found) (a:Int):Nat:=PU f.cells a f.cells.length
theorem Yk {n:Nat} (h:n<2 ^ 62):IntKind.i64.wrap (n:Int)=n:=IntWalk.i64_in _ I
theorem uj (f:Found) (b:Int) (d:f.cells.length<2 ^ 62) (j:∀i,i<=f.cells.length->PU f.cells b i<2 ^ 62) :
  Τ prog 183 [YE f,J b] (J (f.many b)):=by
 refine Μ.body Ο func183 U U ntmps183 U U Ω ?_;refine Φ ?_;refine W.iter (λi:Nat=>i<=f.cells.length) (λi=>[(1,J b),(5,J (PU f.cells b i)),(9,Hh f.cells),(10,J f.cells.length),(11,J i)]) (λ_=>[]) (λi=>f.cells.length-i) 0 (Ζ _) U (by simp[PU]) (λi hi e=>?_);refine Φ ?_;refine W.Yl U (λa=>?_) (λa=>?_)
 .have a:i<f.cells.length:=by simpa using a
  have c:=uk f.cells b i
  have h:=j (i+1) a;refine Z9 a ?_;by_cases g:(i:Int)=b
  .refine Κ (by simp[g]) ?_;refine Φ ?_;refine W.forget _ ?_ (e (i+1) a I);rw[c,if_pos g];simp[Y9 a d]
  .refine Ι (by simp[g]) ?_;have hv:PU f.cells b i*f.cells[i].length<2 ^ 62:=by rw[c,if_neg g] at h;simpa[a] using h
   refine Z9 a ?_;refine W.forget _ ?_ (e (i+1) a I);rw[c,if_neg g];simp only[Z4 a,Option.getD_some];have:=Yk hv;simp[Y9 a d] at this ⊢;simp[this]
 .have a:i=f.cells.length:=by simp at a;omega
  subst a;refine W.exit U ?_;refine Φ ?_;refine W.rt ?_;exact .of U
def Ro (a b:Int):Int:=if a<b then -1 else if b<a then 1 else 0
theorem ui (a b:Int):Τ prog 226 [J a,J b] (J (Ro a b)):=by
 refine Μ.body Ο func226 U U ntmps226 U U Ω ?_;refine Φ ?_;refine υ λg f=>?_;refine Τ.d (EV a) (Δ ?_);apply f;refine υ λg f=>?_;refine Τ.d (EV b) (Δ ?_);apply f;refine Φ ?_;refine Κ U ?_;refine Φ ?_;refine Κ U ?_;refine Φ ?_;refine W.Yl U (λc=>?_) (λc=>?_)
 .have c:a<b:=by simpa using c
  refine Φ ?_;refine W.Y' ?_;rw[show Ro a b=-1 by simp[Ro,c]];rfl
 .have c:¬a<b:=by simpa using c
  refine Φ ?_;refine W.Yl U (λe=>?_) (λe=>?_)
  .have e:b<a:=by simpa using e
   refine Φ ?_;refine W.Y' ?_;rw[show Ro a b=1 by simp[Ro,c,e]];rfl
  .have e:¬b<a:=by simpa using e
   refine Φ ?_;refine W.Y' ?_;rw[show Ro a b=0 by simp[Ro,c,e]];rfl
theorem Rn (a b:Int):Τ prog 237 [J a,J b] (ZV (decide (a<b))):=by
 refine Μ.body Ο func237 U U ntmps237 U U Ω ?_;refine Φ ?_;refine υ λe c=>?_;refine Τ.d (EV a) (Δ ?_);apply c;refine Φ ?_;refine W.Y' ?_;rw[show decide (a<b)=decide (a<b) from rfl];rfl
def Rm:Α->Α->Int
 | [],[]=>0
 | [],_::_=>-1
 | _::_,[]=>1
 | a::l,b::m=>if Ro a b≠0 then Ro a b else Rm l m
theorem Bp (a b:Α) (k:a.length<2 ^ 62):Τ prog 186 [ζ J 1 a,ζ J 1 b] (J (Rm a b)):=by
 refine Μ.body Ο func186 U U ntmps186 U U Ω ?_;refine Φ ?_;refine W.iter (λi:Nat=>i<=a.length/\i<=b.length/\Rm a b=Rm (a.drop i) (b.drop i)) (λi=>[(0,ζ J 1 a),(1,ζ J 1 b),(9,ζ J 1 a),(10,J a.length),(11,J i)]) (λ_=>[]) (λi=>a.length-i) 0 ⟨I,I,Ω⟩ U Ω (λi hi l=>?_);obtain⟨n,o,j⟩:=hi;refine Φ ?_;refine W.Yl U (λc=>?_) (λc=>?_)
 .have c:i<a.length:=by simpa using c
  have h:a.drop i=a[i]::a.drop (i+1):=Ph c;refine Z9 c ?_;refine W.Yl U (λe=>?_) (λe=>?_)
  .have e:b.length<=i:=by simp at e;omega
   refine Φ ?_;have f:b.drop i=[]:=Qf e;refine W.Y' ?_;rw[show Rm a b=1 by rw[j,h,f];rfl];rfl
  .have e:i<b.length:=by simp at e;omega
   have f:b.drop i=b[i]::b.drop (i+1):=Ph e
   repeat apply Γ
   refine QL e ?_;refine υ λp m=>?_;refine Τ.d (ui a[i] b[i]) (Δ ?_);apply m;refine Φ ?_;by_cases g:Ro a[i] b[i]=0
   .refine Κ (by simp[g]) ?_;refine Φ ?_;refine W.forget _ ?_ (l (i+1) ⟨c,e,?_⟩ I)
    .simp[Y9 c k]
    .rw[j,h,f,Rm,if_neg (by simpa using g)]
   .refine Ι (by simp[g]) ?_;refine Φ ?_;refine W.Y' ?_;rw[show Rm a b=Ro a[i] b[i] by rw[j,h,f,Rm,if_pos g]];rfl
 .have c:i=a.length:=by simp at c;omega
  have h:a.drop i=[]:=Qf I;refine W.exit U ?_;refine Φ ?_;by_cases g:a.length<b.length
  .refine Ι (by simp[g]) ?_;refine Φ ?_;have f:b.drop i=b[i]::b.drop (i+1):=Ph I;refine W.Y' ?_;rw[show Rm a b=-1 by rw[j,h,f];rfl];rfl
  .refine Κ (by simp[g]) ?_;refine Φ ?_;have f:b.drop i=[]:=Qf I;refine W.Y' ?_;rw[show Rm a b=0 by rw[j,h,f];rfl];rfl
def QK (x y:Int×Int):Int:=Rm [x.1,x.2] [y.1,y.2]
theorem uh (x y:Int×Int):Τ prog 224 [Zb x,Zb y] (J (QK x y)):=by
 refine Μ.body Ο func224 U U ntmps224 U U Ω ?_;refine Φ ?_;refine W.draw (A:=[]) Ο mixed λb a=>VG ?_;refine XV (Τ.p (Bp [x.1,x.2] [y.1,y.2] Ω) (.cons .ex (.cons .ex .nil)) Ω Ω) ?_;simp;(repeat (rw[Za];simp));try rw[YL]
 refine Yn (a _ _ ?_);refine Φ ?_;refine W.rt ?_;exact .of U
theorem ug (x y:Found):Τ prog 185 [YE x,YE y] (J (QK (x.u,x.v) (y.u,y.v))):=by
 refine Μ.body Ο func185 U U ntmps185 U U Ω ?_;refine Φ ?_;refine W.draw (A:=[]) Ο mixed λb a=>VG ?_;refine XV (Τ.p (Bp [x.u,x.v] [y.u,y.v] Ω) (.cons .ex (.cons .ex .nil)) Ω Ω) ?_;simp;(repeat (rw[Za];simp));try rw[YL]
 refine Yn (a _ _ ?_);refine Φ ?_;refine W.rt ?_;exact .of U
theorem η.V1 {a:Ψ} (h:η 0 a) (ρ:κ):V1 ρ a=a:=by
 cases h with
 | π h=>omega
 | ms h=>omega
 | mp h=>omega
 | it h=>omega
 | _=>rfl
theorem Hg {l:ψ} (h:∀a∈l,η 0 a) (ρ:κ):l.map (V1 ρ)=l:=by
 induction l with
 | nil=>rfl
 | cons a l b=>rw[V6,(h a Ω).V1,b λx c=>h x (by simp[c])]
theorem η.X5 {a:Ψ} (h:η 0 a) (ρ:κ):X5 ρ a=a:=by
 have b:=h;cases h with
 | Z6 h=>simp only[Go.TL.X5];rw[Hg h]
 | ε h=>simp only[Go.TL.X5];rw[Hg h]
 | fn c d=>simp only[Go.TL.X5];rw[Hg c,Hg d]
 | _=>exact b.V1 ρ
theorem η.top {a:Ψ} (h:η 0 a) (n:Nat):NX n a:=by
 have b:=h;cases h with
 | π h=>omega
 | ms h=>omega
 | mp h=>omega
 | it h=>omega
 | _=>exact b
theorem η.PT {a:Ψ} (h:η 0 a) (n:Nat):WR n a:=by
 have c:=h;cases h with
 | Z6 h=>exact λa b=>(h a b).top n
 | ε h=>exact λa b=>(h a b).top n
 | fn d e=>exact⟨λa b=>(d a b).top n,λa b=>(e a b).top n⟩
 | _=>exact c.top n
theorem T9 {h id n i len:Nat}:WR h (.ms id n i len)↔id<h:=Iff.rfl
theorem OT {h:Nat} {v:Value}:WR h (.z v)↔True:=⟨λ_=>trivial,λ_=>(η.z v).PT h⟩
theorem T8 {ρ:κ} {id n i len:Nat}:X5 ρ (.ms id n i len)=.ms (ρ.getD id 0) n i len:=rfl
theorem OS {ρ:κ} {v:Value}:X5 ρ (.z v)=.z v:=rfl
section
variable {P:Program} {σ:Ρ}
theorem Μ.one {g:FuncId} {c:ψ} {d e:Row} {r:Ψ} {K E:Ψ->Ρ->Prop} (h:Μ P g c [d] (λa s=>a=r/\s=[e]) (λ_ _=>False)) (id:Nat) (l:σ[id]?=some d) (m:S6 d) (n:S6 e) (o:∀a∈c,WR 1 a) (b:WR 1 r)
  {args:ψ} (p:args=c.map (X5 [id])) (t:K (X5 [id] r) (σ.set id e)):Yg P (.fn (.func g) [] []) args σ K E:=by
 subst p;have u:=Μ.rows (σ:=σ) h [id] Ω U (λj i f=>by
  cases j with
  | zero=>simp at f;subst f;exact l
  | succ j=>simp at f) (λr b=>by simp at b;subst b;exact m) (by simpa using o) (K':=K) (E':=E) (λa s ⟨v,w⟩=>by
   subst v;subst w;refine⟨λx k=>by simp at k;subst k;exact n,b,?_⟩;simpa[names,Lz,U1] using t) (λa s h=>h.elim)
 exact Μ.call (first:=[]) (captured:=[]) (by simpa using u)
end
section
variable {P:Program} {σ:Ρ}
theorem Μ.Bo {g:FuncId} {d:ψ} {e:Row} {k K E:Ψ->Ρ->Prop} (h:Μ P g d [e] k (λ_ _=>False)) (id:Nat) (m:σ[id]?=some e) (n:S6 e) (o:∀a∈d,WR 1 a)
  {args:ψ} (p:args=d.map (X5 [id])) (t:∀a s,k a s->∃b,s=[b]/\S6 b/\WR 1 a/\K (X5 [id] a) (σ.set id b)):Yg P (.fn (.func g) [] []) args σ K E:=by
 subst p;have u:=Μ.rows (σ:=σ) h [id] Ω U (λj i f=>by
  cases j with
  | zero=>simp at f;subst f;exact m
  | succ j=>simp at f) (λr c=>by simp at c;subst c;exact n) (by simpa using o) (K':=K) (E':=E) (λa s v=>by
   obtain⟨b,rfl,w,c,y⟩:=t a s v;refine⟨λx l=>by simp at l;subst l;exact w,c,?_⟩;simpa[names,Lz,U1] using y) (λa s h=>h.elim)
 exact Μ.call (first:=[]) (captured:=[]) (by simpa using u)
end
theorem PS {b:Type} {f:b->Ψ} {t k:Nat} {l:List b} (h:∀x,∀a∈(f x).cells,η 0 a):S6 (.cells t k (l.map f)):=λe c a d=>by
 obtain⟨x,_,rfl⟩:=Zh.1 c;exact h x a d
theorem Y0.part {id k m:Nat} {σ:Ρ} {t:TypeId} {l l2:ψ} (h:σ[id]?=some (.cells t k (l++l2))) (i:l.length=m) (n:∀e∈l,∀a∈e.cells,η 0 a):Y0 0 σ (.ms id (l++l2).length 0 m) (.sl false k l):=by
 subst i;refine .ms (Ζ _) h U Ω U (λj e o c b=>?_) (λj e o c b x a a' f g=>?_)
 .have d:=(ZR.1 b).1;rw[V5,YN d] at c;rw[c] at b;cases b;rfl
 .have d:=(ZR.1 b).1;rw[V5,YN d] at c;rw[c] at b;cases b;rw[f] at g;cases g;exact .low (n e (ZH c) a (ZH f))
theorem R3 {a:Type} [Inhabited a] {d:Array a} {i:Nat} (h:i<d.size):d[i]?=some d[i]!:=by simp[h]
def Zm {a:Type} (b:a->a->Int) (x y:a):Bool:=decide (b x y<0)
instance:Inhabited Found:=⟨⟨0,0,[]⟩⟩
theorem uf (d:Array Xt) (n a b:Nat) (T:d.size=n) (ag:a<=b) (ah:b<=n) (ai:n<2 ^ 40) (l:Ψ) (c:Int×Int->Int×Int->Int) (aj:η 0 l) (V:∀x y,WY prog l [Zb x,Zb y] (J (c x y))) :
  Μ prog 263 [.ms 0 n 0 n,J a,J b,l] [.cells 246 2 (d.toList.map Zb)] (λr s=>r=.ε []/\s=[.cells 246 2 ((insertionSort (Zm c) d a b).toList.map Zb)]) (λ_ _=>False):=by
 refine Μ.body Ο func263 U U ntmps263 U U Ω ?_;refine Φ ?_;have X:=Yk (show a+1<2 ^ 62 by omega);refine W.iter (λq:Nat×Array Xt=>q.2.size=n/\insOuter (Zm c) a b q.1 q.2=insertionSort (Zm c) d a b) (λq=>[(0,.ms 0 n 0 n),(1,J a),(2,J b),(3,l),(8,J q.1)]) (λq=>[.cells 246 2 (q.2.toList.map Zb)]) (λq=>b-q.1) (a+1,d) ⟨T,U⟩ U (by simpa using X) (λq hi H=>?_);obtain⟨i,e⟩:=q;obtain⟨K,B⟩:=hi;simp only at K B;refine Φ ?_;by_cases o:i<b
 .refine Ι (by simp[o]) ?_;refine Φ ?_;refine W.iter (λq:Nat×Array Xt=>q.2.size=n/\q.1<=i/\insInner (Zm c) a q.1 q.2=insInner (Zm c) a i e) (λq=>[(0,.ms 0 n 0 n),(1,J a),(2,J b),(3,l),(8,J i),(9,J q.1)]) (λq=>[.cells 246 2 (q.2.toList.map Zb)]) (λq=>q.1) (i,e) ⟨K,ZY _,U⟩ U Ω (λq g Y=>?_);obtain⟨j,f⟩:=q;obtain⟨m,Z,C⟩:=g;simp only at m Z C;have M:insInner (Zm c) a j f=f->insOuter (Zm c) a b (i+1) f=insertionSort (Zm c) d a b:=λhd=>by
   rw[<-B,<-hd,C];conv=>rhs;rw[insOuter,if_pos o]
  obtain⟨L,k⟩:=Z' (f.toList.map Zb);have N:L.length=n:=by rw[k];simpa using m
  refine W.to (σ':=[.cells 246 2 L]) (env':=[(0,.ms 0 n 0 n),(1,J a),(2,J b),(3,l),(8,J i),(9,J j)]) ?_ (by rw[k]) Ω
  repeat apply Γ
  by_cases g:a<j
  .obtain⟨p,O⟩:∃p,j=p+1:=⟨j-1,I⟩;have D:IntKind.i64.wrap ((j:Int)-1)=(p:Int):=by have:=Yk (show p<2 ^ 62 by omega);rw[O];simpa using this
   have P:j<n:=I
   have Q:p<n:=I
   have aa:¬j=p:=I;obtain⟨x,t⟩:=Z' (f[j]!);obtain⟨y,u⟩:=Z' (f[p]!);have E:L[j]?=some (Zb x):=by rw[k,t,Ys,Xr,R3 I];rfl
   have F:L[p]?=some (Zb y):=by rw[k,u,Ys,Xr,R3 I];rfl
   have R:∀h:j<L.length,L[j]=Zb x:=λh=>by have:=E;rw[Z4 h] at this;exact WU this
   have S:∀h:p<L.length,L[p]=Zb y:=λh=>by have:=F;rw[Z4 h] at this;exact WU this
   have v:insInner (Zm c) a j f=if Zm c x y=true then insInner (Zm c) a p (swp f j p) else f:=by
    subst O;rw[insInner,t,u];simp[g]
   have ab:(swp f j p).toList.map Zb=(L.set j (Zb y)).set p (Zb x):=by rw[k,t,u];simp[swp]
   have sz:(swp f j p).size=n:=by simp[swp,m]
   have ad:=k;clear t u;refine W.draw (A:=[]) Ο mixed λak ae=>Ua (Ξ g (Ξ D (Ξ N (Ξ P (Ξ Q (Ξ E (Ξ F (Ξ R S)))))))) ?_;refine XV (V x y) ?_;simp;(repeat (rw[Za];simp));try rw[YL]
   refine Yn (ae _ _ ?_);by_cases w:c x y<0
   .refine Ι (by simp[w]) ?_
    repeat apply Γ
    refine WX (Ξ g (Ξ D (Ξ N (Ξ P (Ξ Q (Ξ E (Ξ F (Ξ R (Ξ S aa))))))))) ?_;refine Φ ?_;refine W.to (Y (p,swp f j p) ⟨sz,by simp;omega,?_⟩ (by simp;omega)) ?_ ?_
    .rw[<-C,v,if_pos (by simp[Zm,ltInt,w])]
    .rw[ab]
    .simp[D]
   .refine Κ (by simp[w]) ?_;refine W.exit U ?_;refine Φ ?_;refine W.to (H (i+1,f) ⟨m,M (by rw[v,if_neg (by simp[Zm,ltInt,w])])⟩ (by simp;omega)) (by rw[ad]) ?_;have:=Yk (show i+1<2 ^ 62 by omega);simpa using this
  .have v:insInner (Zm c) a j f=f:=by
    cases j with
    | zero=>rfl
    | succ p=>rw[insInner];simp[g]
   refine WX g ?_;refine Κ U ?_;refine W.exit U ?_;refine Φ ?_;refine W.to (H (i+1,f) ⟨m,M v⟩ (by simp;omega)) (by rw[k]) ?_;have:=Yk (show i+1<2 ^ 62 by omega);simpa using this
 .refine Κ (by simp[o]) ?_;refine W.exit U ?_;have af:insOuter (Zm c) a b i e=e:=by rw[insOuter,if_neg o]
  exact W.nil ⟨_,U,U,by rw[<-B,af]⟩
theorem ub (d:Array (Found)) (n a b:Nat) (T:d.size=n) (ag:a<=b) (ah:b<=n) (ai:n<2 ^ 40) (l:Ψ) (c:Found->Found->Int) (aj:η 0 l) (V:∀x y,WY prog l [YE x,YE y] (J (c x y))) :
  Μ prog 246 [.ms 0 n 0 n,J a,J b,l] [.cells 173 3 (d.toList.map YE)] (λr s=>r=.ε []/\s=[.cells 173 3 ((insertionSort (Zm c) d a b).toList.map YE)]) (λ_ _=>False):=by
 refine Μ.body Ο func246 U U ntmps246 U U Ω ?_;refine Φ ?_;have X:=Yk (show a+1<2 ^ 62 by omega);refine W.iter (λq:Nat×Array (Found)=>q.2.size=n/\insOuter (Zm c) a b q.1 q.2=insertionSort (Zm c) d a b) (λq=>[(0,.ms 0 n 0 n),(1,J a),(2,J b),(3,l),(8,J q.1)]) (λq=>[.cells 173 3 (q.2.toList.map YE)]) (λq=>b-q.1) (a+1,d) ⟨T,U⟩ U (by simpa using X) (λq hi H=>?_);obtain⟨i,e⟩:=q;obtain⟨K,B⟩:=hi;simp only at K B;refine Φ ?_;by_cases o:i<b
 .refine Ι (by simp[o]) ?_;refine Φ ?_;refine W.iter (λq:Nat×Array (Found)=>q.2.size=n/\q.1<=i/\insInner (Zm c) a q.1 q.2=insInner (Zm c) a i e) (λq=>[(0,.ms 0 n 0 n),(1,J a),(2,J b),(3,l),(8,J i),(9,J q.1)]) (λq=>[.cells 173 3 (q.2.toList.map YE)]) (λq=>q.1) (i,e) ⟨K,ZY _,U⟩ U Ω (λq g Y=>?_);obtain⟨j,f⟩:=q;obtain⟨m,Z,C⟩:=g;simp only at m Z C;have M:insInner (Zm c) a j f=f->insOuter (Zm c) a b (i+1) f=insertionSort (Zm c) d a b:=λhd=>by
   rw[<-B,<-hd,C];conv=>rhs;rw[insOuter,if_pos o]
  obtain⟨L,k⟩:=Z' (f.toList.map YE);have N:L.length=n:=by rw[k];simpa using m
  refine W.to (σ':=[.cells 173 3 L]) (env':=[(0,.ms 0 n 0 n),(1,J a),(2,J b),(3,l),(8,J i),(9,J j)]) ?_ (by rw[k]) Ω
  repeat apply Γ
  by_cases g:a<j
  .obtain⟨p,O⟩:∃p,j=p+1:=⟨j-1,I⟩;have D:IntKind.i64.wrap ((j:Int)-1)=(p:Int):=by have:=Yk (show p<2 ^ 62 by omega);rw[O];simpa using this
   have P:j<n:=I
   have Q:p<n:=I
   have aa:¬j=p:=I;obtain⟨x,t⟩:=Z' (f[j]!);obtain⟨y,u⟩:=Z' (f[p]!);have E:L[j]?=some (YE x):=by rw[k,t,Ys,Xr,R3 I];rfl
   have F:L[p]?=some (YE y):=by rw[k,u,Ys,Xr,R3 I];rfl
   have R:∀h:j<L.length,L[j]=YE x:=λh=>by have:=E;rw[Z4 h] at this;exact WU this
   have S:∀h:p<L.length,L[p]=YE y:=λh=>by have:=F;rw[Z4 h] at this;exact WU this
   have v:insInner (Zm c) a j f=if Zm c x y=true then insInner (Zm c) a p (swp f j p) else f:=by
    subst O;rw[insInner,t,u];simp[g]
   have ab:(swp f j p).toList.map YE=(L.set j (YE y)).set p (YE x):=by rw[k,t,u];simp[swp]
   have sz:(swp f j p).size=n:=by simp[swp,m]
   have ad:=k;clear t u;refine W.draw (A:=[]) Ο mixed λak ae=>Ua (Ξ g (Ξ D (Ξ N (Ξ P (Ξ Q (Ξ E (Ξ F (Ξ R S)))))))) ?_;refine XV (V x y) ?_;simp;(repeat (rw[Za];simp));try rw[YL]
   refine Yn (ae _ _ ?_);by_cases w:c x y<0
   .refine Ι (by simp[w]) ?_
    repeat apply Γ
    refine WX (Ξ g (Ξ D (Ξ N (Ξ P (Ξ Q (Ξ E (Ξ F (Ξ R (Ξ S aa))))))))) ?_;refine Φ ?_;refine W.to (Y (p,swp f j p) ⟨sz,by simp;omega,?_⟩ (by simp;omega)) ?_ ?_
    .rw[<-C,v,if_pos (by simp[Zm,ltInt,w])]
    .rw[ab]
    .simp[D]
   .refine Κ (by simp[w]) ?_;refine W.exit U ?_;refine Φ ?_;refine W.to (H (i+1,f) ⟨m,M (by rw[v,if_neg (by simp[Zm,ltInt,w])])⟩ (by simp;omega)) (by rw[ad]) ?_;have:=Yk (show i+1<2 ^ 62 by omega);simpa using this
  .have v:insInner (Zm c) a j f=f:=by
    cases j with
    | zero=>rfl
    | succ p=>rw[insInner];simp[g]
   refine WX g ?_;refine Κ U ?_;refine W.exit U ?_;refine Φ ?_;refine W.to (H (i+1,f) ⟨m,M v⟩ (by simp;omega)) (by rw[k]) ?_;have:=Yk (show i+1<2 ^ 62 by omega);simpa using this
 .refine Κ (by simp[o]) ?_;refine W.exit U ?_;have af:insOuter (Zm c) a b i e=e:=by rw[insOuter,if_neg o]
  exact W.nil ⟨_,U,U,by rw[<-B,af]⟩
theorem ua (d:Array (Int)) (n a b:Nat) (R:d.size=n) (ad:a<=b) (ae:b<=n) (af:n<2 ^ 40)  :
  Μ prog 231 [.ms 0 n 0 n,J a,J b] [.cells 3 1 (d.toList.map J)] (λr s=>r=.ε []/\s=[.cells 3 1 ((insertionSort (ltInt) d a b).toList.map J)]) (λ_ _=>False):=by
 refine Μ.body Ο func231 U U ntmps231 U U Ω ?_;refine Φ ?_;have S:=Yk (show a+1<2 ^ 62 by omega);refine W.iter (λq:Nat×Array (Int)=>q.2.size=n/\insOuter (ltInt) a b q.1 q.2=insertionSort (ltInt) d a b) (λq=>[(0,.ms 0 n 0 n),(1,J a),(2,J b),(6,J q.1)]) (λq=>[.cells 3 1 (q.2.toList.map J)]) (λq=>b-q.1) (a+1,d) ⟨R,U⟩ U (by simpa using S) (λq hi E=>?_);obtain⟨i,e⟩:=q;obtain⟨F,v⟩:=hi;simp only at F v;refine Φ ?_;by_cases l:i<b
 .refine Ι (by simp[l]) ?_;refine Φ ?_;refine W.iter (λq:Nat×Array (Int)=>q.2.size=n/\q.1<=i/\insInner (ltInt) a q.1 q.2=insInner (ltInt) a i e) (λq=>[(0,.ms 0 n 0 n),(1,J a),(2,J b),(6,J i),(7,J q.1)]) (λq=>[.cells 3 1 (q.2.toList.map J)]) (λq=>q.1) (i,e) ⟨F,ZY _,U⟩ U Ω (λq c T=>?_);obtain⟨j,f⟩:=q;obtain⟨k,V,w⟩:=c;simp only at k V w;have H:insInner (ltInt) a j f=f->insOuter (ltInt) a b (i+1) f=insertionSort (ltInt) d a b:=λhd=>by
   rw[<-v,<-hd,w];conv=>rhs;rw[insOuter,if_pos l]
  obtain⟨L,g⟩:=Z' (f.toList.map J);have K:L.length=n:=by rw[g];simpa using k
  refine W.to (σ':=[.cells 3 1 L]) (env':=[(0,.ms 0 n 0 n),(1,J a),(2,J b),(6,J i),(7,J j)]) ?_ (by rw[g]) Ω
  repeat apply Γ
  by_cases c:a<j
  .obtain⟨p,M⟩:∃p,j=p+1:=⟨j-1,I⟩;have B:IntKind.i64.wrap ((j:Int)-1)=(p:Int):=by have:=Yk (show p<2 ^ 62 by omega);rw[M];simpa using this
   have N:j<n:=I
   have O:p<n:=I
   have X:¬j=p:=I;obtain⟨x,m⟩:=Z' (f[j]!);obtain⟨y,o⟩:=Z' (f[p]!);have C:L[j]?=some (J x):=by rw[g,m,Ys,Xr,R3 I];rfl
   have D:L[p]?=some (J y):=by rw[g,o,Ys,Xr,R3 I];rfl
   have P:∀h:j<L.length,L[j]=J x:=λh=>by have:=C;rw[Z4 h] at this;exact WU this
   have Q:∀h:p<L.length,L[p]=J y:=λh=>by have:=D;rw[Z4 h] at this;exact WU this
   have t:insInner (ltInt) a j f=if ltInt x y=true then insInner (ltInt) a p (swp f j p) else f:=by
    subst M;rw[insInner,m,o];simp[c]
   have Y:(swp f j p).toList.map J=(L.set j (J y)).set p (J x):=by rw[g,m,o];simp[swp]
   have sz:(swp f j p).size=n:=by simp[swp,k]
   have Z:=g;clear m o;refine W.draw (A:=[]) Ο mixed λag aa=>Ua (Ξ c (Ξ B (Ξ K (Ξ N (Ξ O (Ξ C (Ξ D (Ξ P Q)))))))) ?_;refine XV (Τ.p (Rn x y) (Zw.refl _) Ω Ω) ?_;simp;(repeat (rw[Za];simp));try rw[YL]
   refine Yn (aa _ _ ?_);by_cases u:x<y
   .refine Ι (by simp[u]) ?_
    repeat apply Γ
    refine WX (Ξ c (Ξ B (Ξ K (Ξ N (Ξ O (Ξ C (Ξ D (Ξ P (Ξ Q X))))))))) ?_;refine Φ ?_;refine W.to (T (p,swp f j p) ⟨sz,by simp;omega,?_⟩ (by simp;omega)) ?_ ?_
    .rw[<-w,t,if_pos (by simp[Zm,ltInt,u])]
    .rw[Y]
    .simp[B]
   .refine Κ (by simp[u]) ?_;refine W.exit U ?_;refine Φ ?_;refine W.to (E (i+1,f) ⟨k,H (by rw[t,if_neg (by simp[Zm,ltInt,u])])⟩ (by simp;omega)) (by rw[Z]) ?_;have:=Yk (show i+1<2 ^ 62 by omega);simpa using this
  .have t:insInner (ltInt) a j f=f:=by
    cases j with
    | zero=>rfl
    | succ p=>rw[insInner];simp[c]
   refine WX c ?_;refine Κ U ?_;refine W.exit U ?_;refine Φ ?_;refine W.to (E (i+1,f) ⟨k,H t⟩ (by simp;omega)) (by rw[g]) ?_;have:=Yk (show i+1<2 ^ 62 by omega);simpa using this
 .refine Κ (by simp[l]) ?_;refine W.exit U ?_;have ab:insOuter (ltInt) a b i e=e:=by rw[insOuter,if_neg l]
  exact W.nil ⟨_,U,U,by rw[<-v,ab]⟩
theorem tZ (n:Nat) (h:n<256):Τ prog 156 [.z (.int .u64 n)] (J (bitsLen n)):=by
 refine Μ.body Ο func156 U U ntmps156 U U Ω ?_;have f:¬(n:Int)>=4294967296:=I;have g:¬(n:Int)>=65536:=I;have j:¬(n:Int)>=256:=I;have a:¬(4294967296:Int)<=n:=I;have b:¬(65536:Int)<=n:=I;have c:¬(256:Int)<=n:=I;refine Z9 @a ?_;refine Κ U ?_;refine Z9 b ?_;refine Κ U ?_;refine Z9 c ?_;refine Κ U ?_;have d:IntKind.u8.wrap (n:Int)=n:=by unfold IntKind.wrap;simp[IntKind.bits,IntKind.signed];omega
 refine Ze d λk e=>?_;refine⟨Nat.lt_of_lt_of_eq h Wf,?_⟩;apply e;refine Φ ?_;refine W.ret ⟨_,U,?_,U⟩;refine .of (congrArg (λi=>Ψ.z (.int .i64 i)) ?_);apply uA n h;decide +kernel
theorem NU (n:Nat) (h:n<256):Τ prog 103 [.z (.int .u64 n)] (J (bitsLen n)):=by
 refine Μ.body Ο func103 U U ntmps103 U U Ω ?_;refine Φ ?_;refine Κ U ?_;refine υ λb a=>?_;refine Τ.d (tZ n h) (Δ ?_);apply a;refine Φ ?_;refine W.rt ?_;exact .of U
theorem MK (y:Int×Int):∀a∈(Zb y).cells,η 0 a:=by simp[Ψ.cells]
theorem Lu (y:Found):∀a∈(YE y).cells,η 0 a:=by simp[Ψ.cells]
theorem Lt (y:Int):∀a∈(J y).cells,η 0 a:=by simp[Ψ.cells]
theorem tY (d:Array Xt) (n i:Nat) (j:d.size=n) (p:n<=12) (b:Ψ) (c:Int×Int->Int×Int->Int) (f:η 0 b) (k:∀x y,WY prog b [Zb x,Zb y] (J (c x y))) :
  Μ prog 245 [.ms 0 n 0 n,J 0,J n,J i,b] [.cells 246 2 (d.toList.map Zb)] (λr s=>r=.ε []/\s=[.cells 246 2 ((insertionSort (Zm c) d 0 n).toList.map Zb)]) (λ_ _=>False):=by
 refine Μ.body Ο func245 U U ntmps245 U U Ω ?_;have l:=Yk (show n<2 ^ 62 by omega);have t:(n:Int)<=12:=I;refine Φ ?_;refine .loop ?_;refine Z9 l ?_;refine Ι (by simp;omega) ?_;refine υ λu m=>?_;refine Μ.one (uf d n 0 n j (Ζ _) (ZY _) I b c f k) 0 U (λe g a h=>by
  obtain⟨y,o,rfl⟩:=Zh.1 g;exact MK y a h) (λe g a h=>by
  obtain⟨y,o,rfl⟩:=Zh.1 g;exact MK y a h) (by simp[T9,OT,f.PT 1]) (by simp[WR]) (by simp[T8,OS,f.X5 [0]]) ?_
 simp[X5,V1];(repeat (rw[Η];simp));apply m;exact W.ret ⟨_,U,U,U⟩
theorem tX (d:Array Xt) (n:Nat) (c:d.size=n) (j:n<=12) (b:Ψ) (f:Int×Int->Int×Int->Int) (g:η 0 b) (k:∀x y,WY prog b [Zb x,Zb y] (J (f x y))) :
  Μ prog 223 [.ms 0 n 0 n,b] [.cells 246 2 (d.toList.map Zb)] (λr s=>r=.ε []/\s=[.cells 246 2 ((insertionSort (Zm f) d 0 n).toList.map Zb)]) (λ_ _=>False):=by
 refine Μ.body Ο func223 U U ntmps223 U U Ω ?_;have l:=Yk (show n<2 ^ 62 by omega);have m:IntKind.u64.wrap (n:Int)=n:=by unfold IntKind.wrap;simp[IntKind.bits,IntKind.signed];omega
 refine Z9 c ?_;(repeat apply Γ);refine YF λt o=>?_;simp;(repeat (rw[Η];simp[c,l,m]));refine Τ.d (NU n I) (Δ ?_);refine Μ.one (tY d n (bitsLen n) c j b f g k) 0 U (λe h a i=>by
  obtain⟨y,p,rfl⟩:=Zh.1 h;exact MK y a i) (λe h a i=>by
  obtain⟨y,p,rfl⟩:=Zh.1 h;exact MK y a i) (by simp[T9,OT,g.PT 1]) (by simp[WR]) (by simp[T8,OS,g.X5 [0]]) ?_
 simp[X5,V1];(repeat (rw[Η];simp));apply o;exact W.nil ⟨_,U,U,U⟩
theorem tW (d:Array (Found)) (n i:Nat) (j:d.size=n) (p:n<=12) (b:Ψ) (c:Found->Found->Int) (f:η 0 b) (k:∀x y,WY prog b [YE x,YE y] (J (c x y))) :
  Μ prog 225 [.ms 0 n 0 n,J 0,J n,J i,b] [.cells 173 3 (d.toList.map YE)] (λr s=>r=.ε []/\s=[.cells 173 3 ((insertionSort (Zm c) d 0 n).toList.map YE)]) (λ_ _=>False):=by
 refine Μ.body Ο func225 U U ntmps225 U U Ω ?_;have l:=Yk (show n<2 ^ 62 by omega);have t:(n:Int)<=12:=I;refine Φ ?_;refine .loop ?_;refine Z9 l ?_;refine Ι (by simp;omega) ?_;refine υ λu m=>?_;refine Μ.one (ub d n 0 n j (Ζ _) (ZY _) I b c f k) 0 U (λe g a h=>by
  obtain⟨y,o,rfl⟩:=Zh.1 g;exact Lu y a h) (λe g a h=>by
  obtain⟨y,o,rfl⟩:=Zh.1 g;exact Lu y a h) (by simp[T9,OT,f.PT 1]) (by simp[WR]) (by simp[T8,OS,f.X5 [0]]) ?_
 simp[X5,V1];(repeat (rw[Η];simp));apply m;exact W.ret ⟨_,U,U,U⟩
theorem tV (d:Array (Found)) (n:Nat) (c:d.size=n) (j:n<=12) (b:Ψ) (f:Found->Found->Int) (g:η 0 b) (k:∀x y,WY prog b [YE x,YE y] (J (f x y))) :
  Μ prog 184 [.ms 0 n 0 n,b] [.cells 173 3 (d.toList.map YE)] (λr s=>r=.ε []/\s=[.cells 173 3 ((insertionSort (Zm f) d 0 n).toList.map YE)]) (λ_ _=>False):=by
 refine Μ.body Ο func184 U U ntmps184 U U Ω ?_;have l:=Yk (show n<2 ^ 62 by omega);have m:IntKind.u64.wrap (n:Int)=n:=by unfold IntKind.wrap;simp[IntKind.bits,IntKind.signed];omega
 refine Z9 c ?_;(repeat apply Γ);refine YF λt o=>?_;simp;(repeat (rw[Η];simp[c,l,m]));refine Τ.d (NU n I) (Δ ?_);refine Μ.one (tW d n (bitsLen n) c j b f g k) 0 U (λe h a i=>by
  obtain⟨y,p,rfl⟩:=Zh.1 h;exact Lu y a i) (λe h a i=>by
  obtain⟨y,p,rfl⟩:=Zh.1 h;exact Lu y a i) (by simp[T9,OT,g.PT 1]) (by simp[WR]) (by simp[T8,OS,g.X5 [0]]) ?_
 simp[X5,V1];(repeat (rw[Η];simp));apply o;exact W.nil ⟨_,U,U,U⟩
theorem tU (l:Α) (b:Ψ) (p:Int->Bool) (g:l.length<2 ^ 62) (o:η 0 b) (k:∀x∈l,WY prog b [J x] (ZV (p x))):Τ prog 109 [ζ J 1 l,b] (J (idxOf p l)):=by
 refine Μ.body Ο func109 U U ntmps109 U U Ω ?_;refine Φ ?_;refine W.iter (λi:Nat=>i<=l.length/\∀j,j<i->(h:j<l.length)->p l[j]=false) (λi=>[(0,ζ J 1 l),(1,b),(6,ζ J 1 l),(7,J l.length),(8,J i)]) (λ_=>[]) (λi=>l.length-i) 0 ⟨Ζ _,λj f=>I⟩ U Ω (λi hi m=>?_);refine Φ ?_;refine W.Yl U (λa=>?_) (λa=>?_)
 .have a:i<l.length:=by simpa using a
  refine Z9 a ?_;refine Ze a λr n=>?_;refine(k _ (Yq a)).c ?_;simp;(repeat (rw[Η];simp));apply n;cases d:p l[i]
  .refine Κ (by simp[d]) ?_;refine Φ ?_;refine W.forget _ ?_ (m (i+1) ⟨I,λj f h=>?_⟩ I)
   .simp[Y9 a g]
   .by_cases e:j=i
    .subst e;exact d
    .exact hi.2 j I h
  .refine Ι (by simp[d]) ?_;refine Φ ?_;refine W.Y' ?_;rw[MN a d hi.2];rfl
 .have a:l.length<=i:=by simpa using a
  refine W.exit U ?_;refine Φ ?_;refine W.Y' ?_;rw[MM λj f=>hi.2 j I f];rfl
theorem tT (l:Α) (a:Ψ) (p:Int->Bool) (d:l.length<2 ^ 62) (b:η 0 a) (e:∀x∈l,WY prog a [J x] (ZV (p x))):Τ prog 70 [ζ J 1 l,a] (ZV (l.any p)):=by
 refine Μ.body Ο func70 U U ntmps70 U U Ω ?_;refine Φ ?_;refine υ λg f=>?_;refine Τ.c (tU l a p d b e) (Zw.refl _) (by simp[b]) Ω ?_;simp;(repeat (rw[Η];simp));apply f;refine Φ ?_;refine W.Y' ?_;rw[<-ML (p:=p)];rfl
theorem Bn (l:List T') (b:Ψ) (p:T'->Bool) (g:l.length<2 ^ 62) (o:η 0 b) (k:∀x∈l,WY prog b [R5 x] (ZV (p x))):Τ prog 175 [ζ R5 2 l,b] (J (idxOf p l)):=by
 refine Μ.body Ο func175 U U ntmps175 U U Ω ?_;refine Φ ?_;refine W.iter (λi:Nat=>i<=l.length/\∀j,j<i->(h:j<l.length)->p l[j]=false) (λi=>[(0,ζ R5 2 l),(1,b),(6,ζ R5 2 l),(7,J l.length),(8,J i)]) (λ_=>[]) (λi=>l.length-i) 0 ⟨Ζ _,λj f=>I⟩ U Ω (λi hi m=>?_);refine Φ ?_;refine W.Yl U (λa=>?_) (λa=>?_)
 .have a:i<l.length:=by simpa using a
  refine Z9 a ?_;refine Ze a λr n=>?_;refine(k _ (Yq a)).c ?_;simp;(repeat (rw[Η];simp));apply n;cases d:p l[i]
  .refine Κ (by simp[d]) ?_;refine Φ ?_;refine W.forget _ ?_ (m (i+1) ⟨I,λj f h=>?_⟩ I)
   .simp[Y9 a g]
   .by_cases e:j=i
    .subst e;exact d
    .exact hi.2 j I h
  .refine Ι (by simp[d]) ?_;refine Φ ?_;refine W.Y' ?_;rw[MN a d hi.2];rfl
 .have a:l.length<=i:=by simpa using a
  refine W.exit U ?_;refine Φ ?_;refine W.Y' ?_;rw[MM λj f=>hi.2 j I f];rfl
theorem tS (l:List T') (a:Ψ) (p:T'->Bool) (d:l.length<2 ^ 62) (b:η 0 a) (e:∀x∈l,WY prog a [R5 x] (ZV (p x))):Τ prog 218 [ζ R5 2 l,a] (ZV (l.any p)):=by
 refine Μ.body Ο func218 U U ntmps218 U U Ω ?_;refine Φ ?_;refine υ λg f=>?_;refine Τ.c (Bn l a p d b e) (Zw.refl _) (by simp[b]) Ω ?_;simp;(repeat (rw[Η];simp));apply f;refine Φ ?_;refine W.Y' ?_;rw[<-ML (p:=p)];rfl
theorem tR (l:List XC) (b:Ψ) (p:XC->Bool) (g:l.length<2 ^ 62) (o:η 0 b) (k:∀x∈l,WY prog b [R4 x] (ZV (p x))):Τ prog 275 [ζ R4 3 l,b] (J (idxOf p l)):=by
 refine Μ.body Ο func275 U U ntmps275 U U Ω ?_;refine Φ ?_;refine W.iter (λi:Nat=>i<=l.length/\∀j,j<i->(h:j<l.length)->p l[j]=false) (λi=>[(0,ζ R4 3 l),(1,b),(6,ζ R4 3 l),(7,J l.length),(8,J i)]) (λ_=>[]) (λi=>l.length-i) 0 ⟨Ζ _,λj f=>I⟩ U Ω (λi hi m=>?_);refine Φ ?_;refine W.Yl U (λa=>?_) (λa=>?_)
 .have a:i<l.length:=by simpa using a
  refine Z9 a ?_;refine Ze a λr n=>?_;refine(k _ (Yq a)).c ?_;simp;(repeat (rw[Η];simp));apply n;cases d:p l[i]
  .refine Κ (by simp[d]) ?_;refine Φ ?_;refine W.forget _ ?_ (m (i+1) ⟨I,λj f h=>?_⟩ I)
   .simp[Y9 a g]
   .by_cases e:j=i
    .subst e;exact d
    .exact hi.2 j I h
  .refine Ι (by simp[d]) ?_;refine Φ ?_;refine W.Y' ?_;rw[MN a d hi.2];rfl
 .have a:l.length<=i:=by simpa using a
  refine W.exit U ?_;refine Φ ?_;refine W.Y' ?_;rw[MM λj f=>hi.2 j I f];rfl
theorem tQ (l:List XC) (a:Ψ) (p:XC->Bool) (d:l.length<2 ^ 62) (b:η 0 a) (e:∀x∈l,WY prog a [R4 x] (ZV (p x))):Τ prog 259 [ζ R4 3 l,a] (ZV (l.any p)):=by
 refine Μ.body Ο func259 U U ntmps259 U U Ω ?_;refine Φ ?_;refine υ λg f=>?_;refine Τ.c (tR l a p d b e) (Zw.refl _) (by simp[b]) Ω ?_;simp;(repeat (rw[Η];simp));apply f;refine Φ ?_;refine W.Y' ?_;rw[<-ML (p:=p)];rfl
def XB:Α->Int
 | []=>0
 | e::l=>if e=0 then XB l else e
theorem Hf {l:Α} {i:Nat} (h:i<l.length) (a:l[i]≠0) (b:∀j,j<i->(c:j<l.length)->l[j]=0):XB l=l[i]:=by
 induction l generalizing i with
 | nil=>cases h
 | cons e l d=>
  cases i with
  | zero=>simp at a;simp[XB,a]
  | succ i=>
   have f:e=0:=b 0 I Ω;simp only[XB,f,if_true,List.getElem_cons_succ];exact d (by simpa using h) (by simpa using a) λj c g=>b (j+1) I (by simpa using g)
theorem He {l:Α} (h:∀j,(a:j<l.length)->l[j]=0):XB l=0:=by
 induction l with
 | nil=>rfl
 | cons e l b=>
  have c:e=0:=h 0 Ω;simp only[XB,c,if_true];exact b λj a=>h (j+1) (by simpa using a)
theorem MJ {f:Nat->Int} {n i:Nat} {e:Int} (h:i<n) (a:f i=e) (b:e≠0) (c:∀j,j<i->f j=0):XB ((List.range n).map f)=e:=by
 rw[Hf (i:=i) (by simpa using h) (by simp[a,b]) (λj d g=>by simpa using c j d)];simp[a]
theorem MI {f:Nat->Int} {n:Nat} (h:∀j,j<n->f j=0):XB ((List.range n).map f)=0:=
 He λj a=>by simpa using h j (by simpa using a)
def Hd (n:ByteArray):Bool:=n.size != 1||Ud n ⟨#[97]⟩||!Ta n ⟨#[122]⟩
def PR (l:List T') (i:Nat):Int:=match l[i]? with
 | none=>0
 | some g=>if Hd g.name then 2 else if 0<i/\Ta g.name ((l[i-1]?.map (·.name)).getD ⟨#[]⟩)=true then 5 else if g.V0<1\/63<g.V0 then 1 else if(l.take i).any (λx=>x.V0==g.V0) then 4 else 0
def QJ (l:List T'):Int:=if l.length=0 then 7 else if 6<l.length then 6 else XB ((List.range l.length).map (PR l))
theorem tP (g x:T'):Τ prog 219 [R5 x,.Ν [ZP g.name,J g.V0]] (ZV (x.V0==g.V0)):=by
 refine Μ.body Ο func219 U U ntmps219 U U Ω ?_;refine Φ ?_;refine W.Y' ?_;simp
theorem tO (s:Y6) (v:s.small):Τ prog 178 [Wr s] (J (QJ s.ZN)):=by
 refine Μ.body Ο func178 U U ntmps178 U U Ω ?_;have K:=v.1;by_cases b:s.ZN.length=0
 .refine Z9 b ?_;refine Ι Ω ?_;refine Φ ?_;refine W.Y' ?_;rw[show QJ s.ZN=7 by simp[QJ,b]];rfl
 by_cases k:(6:Int)<s.ZN.length
 .refine Z9 (Ξ b k) ?_;refine Κ (by simp[b]) ?_;refine Z9 (Ξ b k) ?_;refine Ι Ω ?_;refine Φ ?_;refine W.Y' ?_;rw[show QJ s.ZN=6 by simp[QJ,b];omega];rfl
 have w:QJ s.ZN=XB ((List.range s.ZN.length).map (PR s.ZN)):=by
  unfold QJ;rw[if_neg b,if_neg I]
 rw[w];refine Z9 (Ξ b k) ?_;refine Κ (by simp[b]) ?_;refine Z9 (Ξ b k) ?_;refine Κ Ω ?_;refine Φ ?_;refine W.iter (λi:Nat=>i<=s.ZN.length/\∀j,j<i->PR s.ZN j=0) (λi=>[(1,XP s),(17,WO s.ZN),(18,J s.ZN.length),(19,J i)]) (λ_=>[]) (λi=>s.ZN.length-i) 0 ⟨I,λj r=>I⟩ U Ω (λi hi y=>?_);refine Φ ?_;refine W.Yl U (λa=>?_) (λa=>?_)
 .have a:i<s.ZN.length:=by simpa using a
  have d:s.ZN[i]?=some s.ZN[i]:=Z4 a
  have l:∀e:Int,PR s.ZN i=e->e≠0->XB ((List.range s.ZN.length).map (PR s.ZN))=e:=λe B m=>MJ a B m hi.2
  repeat apply Γ
  refine ZG (A:=[4]) Ο λC o=>W8 a ?_;apply o;refine W.fix (id:=0) (σ':=[]) (Ζ _) U Ω Ω U [(1,XP s),(17,WO s.ZN),(18,J s.ZN.length),(19,J i),(3,J i),(4,.Ν [ZP s.ZN[i].name,J s.ZN[i].V0])] Ω ?_
  repeat apply Γ
  refine W.QP (A:=[]) Ο [(1,XP s),(17,WO s.ZN),(18,J s.ZN.length),(19,J i),(3,J i),(4,.Ν [ZP s.ZN[i].name,J s.ZN[i].V0]),(5,WO (s.ZN.take i))] ?_ (by simp[Η,QQ,RG a])
  repeat apply Γ
  refine W.QP (A:=[]) Ο [(28,ZV (Hd s.ZN[i].name)),(1,XP s),(17,WO s.ZN),(18,J s.ZN.length),(19,J i),(3,J i),(4,.Ν [ZP s.ZN[i].name,J s.ZN[i].V0]),(5,WO (s.ZN.take i))] ?_ (by
   unfold Hd;by_cases t:(s.ZN[i].name.size:Int)=1
   .have p:s.ZN[i].name.size=1:=I
    cases D:Ud s.ZN[i].name ⟨#[97]⟩<;>simp[Η,QQ,t,D,p]
   .have p:¬s.ZN[i].name.size=1:=I
    simp[Η,QQ,t,p])
  cases f:Hd s.ZN[i].name
  case true=>
   refine Ι U ?_;refine Φ ?_;refine W.Y' ?_;rw[l 2 (by simp[PR,d,f]) Z7];rfl
  refine Κ U ?_
  repeat apply Γ
  refine W.J5 (A:=[]) Ο mixed [(43,ZV (decide (0<i)&&Ta s.ZN[i].name ((s.ZN[i-1]?.map (·.name)).getD ⟨#[]⟩))),(1,XP s),(17,WO s.ZN),(18,J s.ZN.length),(19,J i),(3,J i),(4,.Ν [ZP s.ZN[i].name,J s.ZN[i].V0]),(5,WO (s.ZN.take i))] ?_ (by
   cases i with
   | zero=>simp[Za,YL];exact SA Wf
   | succ n=>
    have E:n<s.ZN.length:=I
    have F:=Yk (show n<2 ^ 62 by omega)
    have m:(0:Int)<(n:Int)+1:=I
    have H:n<min (n+1) s.ZN.length:=I;simp[Za,YL,m,E,F,H];exact SA Wf)
  cases bo:decide (0<i)&&Ta s.ZN[i].name ((s.ZN[i-1]?.map (·.name)).getD ⟨#[]⟩)
  case true=>
   refine Ι U ?_;refine Φ ?_;refine W.Y' ?_;rw[l 5 (by simp at bo;simp[PR,d,f,bo]) Z7];rfl
  refine Κ U ?_
  repeat apply Γ
  refine W.QP (A:=[]) Ο [(57,ZV (decide (s.ZN[i].V0<1)||decide (63<s.ZN[i].V0))),(1,XP s),(17,WO s.ZN),(18,J s.ZN.length),(19,J i),(3,J i),(4,.Ν [ZP s.ZN[i].name,J s.ZN[i].V0]),(5,WO (s.ZN.take i))] ?_ (by by_cases q:s.ZN[i].V0<1<;>simp[Η,QQ,q]);have bo':¬(0<i/\Ta s.ZN[i].name ((s.ZN[i-1]?.map (·.name)).getD ⟨#[]⟩)=true):=λh=>by simp[h] at bo
  by_cases g:s.ZN[i].V0<1\/63<s.ZN[i].V0
  case pos=>
   refine Ι (by simpa using g) ?_;refine Φ ?_;refine W.Y' ?_;rw[l 1 (by simp only[PR,d,f];rw[if_neg bo',if_pos g];rfl) Z7];rfl
  refine Κ (by simpa using g) ?_;refine υ λC o=>?_;refine Τ.c (tS (s.ZN.take i) (.fn (.func 219) [] [.Ν [ZP s.ZN[i].name,J s.ZN[i].V0]]) (λx=>x.V0==s.ZN[i].V0) (by simp;omega) (by simp[S9]) (λx _=>λ_=>(tP s.ZN[i] x).cc (by simp;exact Zw.refl _) Ω Ω ⟨U,U⟩)) (Zw.refl _) (by simp[S9]) Ω ?_;simp;(repeat (rw[Η];simp));apply o;cases u:(s.ZN.take i).any (λx=>x.V0==s.ZN[i].V0)
  case true=>
   refine Ι Ω ?_;refine Φ ?_;refine W.Y' ?_;rw[l 4 (by simp only[PR,d,f];rw[if_neg bo',if_neg g,u];rfl) Z7];rfl
  refine Κ Ω ?_;refine Φ ?_;refine W.forget _ ?_ (y (i+1) ⟨a,λj r=>?_⟩ I)
  .simp[Y9 a (show s.ZN.length<2 ^ 62 by omega)]
  .by_cases e:j=i
   .subst e;simp only[PR,d,f];rw[if_neg bo',if_neg g,u];rfl
   .exact hi.2 j I
 .have a:s.ZN.length<=i:=by simpa using a
  refine W.exit U ?_;refine Φ ?_;refine W.Y' ?_;rw[MI λj r=>hi.2 j I];rfl
end Go.TL
namespace Go.TL
open Go.Proofs.Tryz
open Go.Sort (SWO bitsLen insInner insOuter insertionSort insertionSort_holds ltInt sorted_unique_holds swp)
open Go.Conc
variable [Z1]
structure Base where
 S:ς
 B:δ
 H:Υ
 σ:Ρ
 m:Nat
def V (P:Program) (a:Value->Prop) (mn:Bool) (x:Wv) (b:Frame) (cs:Y3) (nt:Nat) (o:Base) (k:ZA) (env:Β) (σ:Ρ):Prop:=
 ∀(S:ς) (B:δ) (H:Υ) (t:ν),Xw o.m o.S o.B o.H o.σ S B H σ->XR o.m nt S B H σ env t->μ P a mn x (χ b t k) cs H
def ET (P:Program) (c:Value->Prop) (mn:Bool) (x:Wv) (b:Frame) (cs:Y3) (o:Base) (a:Ψ) (env:Β) (σ:Ρ):Prop:=
 ∀(S:ς) (B:δ) (H:Υ) (t:ν) (k:ZA) (v:Value),Xw o.m o.S o.B o.H o.σ S B H σ->Holds S B σ H->Zg S B σ env t->Θ S B σ a v->μ P c mn x {χ b t k with mode:=.panicking [{v,recovered:=false}]} cs H
structure PQ (P:Program) (d:Deferred) (g:FuncId) (vs:ν):Prop where
 t1:∀r,d.target≠.collected r
 t2:d.target≠.nil
 run:∀w,(invoke d.target d.args).runT P w #[]=(.ok (.enter g vs) w,#[])
section
variable {P:Program} {T:Z2} {A:κ} {Q:Value->Prop} {mn:Bool} {x:Wv} {b:Frame} {cs:Y3} {m nt:Nat} {o:Base} {k:ZA} {env:Β} {σ:Ρ} {S S':ς} {B B':δ} {H H':Υ} {σ':Ρ} {t:ν} {Z:XD} {E:Yb}
theorem V.YA (g:Seq x) (i:b.mode=.run) (h:W P o.m nt k env σ (V P Q mn x b cs nt o) (ET P Q mn x b cs o)):V P Q mn x b cs nt o k env σ:=
 λS B H t f l=>h Q mn x cs b S B H t g i l (λj env' σ' S' B' H' t' c n d p r=>by
  have e:c=j:=r;subst e;exact n S' B' H' t' (f.trans d) p) (λa env' σ' S' B' H' t' c v s d u w y=>s S' B' H' t' c v (f.trans d) u w y)
theorem V.Zk (a:Seq x) (h:W P o.m nt k env σ (V P Q mn x b cs nt o) (ET P Q mn x b cs o)) (c:b.mode=.run:=by rfl):V P Q mn x b cs nt o k env σ:=.YA a c h
theorem V.here (h:V P Q mn x b cs nt ⟨S,B,H,σ,m⟩ k env σ) (a:XR m nt S B H σ env t):μ P Q mn x (χ b t k) cs H:=h S B H t .refl a
theorem W.Zs {id:Nat} {ops:ZI} (h:W P m nt (.inRegion ops (idx ops.size [])::k) env σ Z E):W P m nt (.code (.region id ops false)::k) env σ Z E:=
 λQ mn x cs b S B H t a c d e f=>.region a c (by rw[<-idx_eq];exact h Q mn x cs b S B H t a c d e f)
theorem W.part (c:ZL P T) (is a:κ) {ops:ZI} {l:κ} (d:l=is++a) (h:∀b:Β->Ρ->Prop,(∀env σ,W P m nt (.inRegion ops a::k) env σ Z E->b env σ)->run P T A nt ops is env σ b E):W P m nt (.inRegion ops l::k) env σ Z E:=
 d▸BN c a is env σ (h _ λ_ _ h=>h)
theorem Bm (e:Zg S B σ env t) (args:Array Operand):XQ S B σ (args.toList.map (ο env)) (args.map (ZW t)):=by
 refine⟨Ω,λi a v b c=>?_⟩;rw[Ys,Xr] at b;rw[Oj] at c;cases d:args[i]? with
 | none=>rw[d] at b;cases b
 | some y=>rw[d] at b c;cases b;cases c;exact TH e y
theorem Plain.enter {g:FuncId} (h:Plain P g) (vs:ν) (w:World):(callFunc g vs).runT P w #[]=(.ok (.enter g vs) w,#[]):=by
 obtain⟨fn,a,b,c⟩:=h;unfold callFunc;show Sem.runT P (Sem.bind program λp=>_) w #[]=_;simp only[program,Sem.bind];show Sem.runT P (match P.funcs[g]? with|none=>_|some fn=>_) w #[]=_;rw[a];simp only[b,c,Xq,if_false];rfl
theorem XR.put {c:Oper} {a:Ψ} {v:Value} (b:XR m nt S B H σ env t) (hd:WS nt c=true) (d:Θ S B σ a v):XR m nt S B H σ (Zu c env a) (put c t v):=
 ⟨b.holds,(PV b.Zt hd b.size d).1,(PV b.Zt hd b.size d).2,b.rows⟩
theorem Xw.all (h:Xw m S B H σ S' B' H' σ') (b:Holds S B σ H) (a:σ.length<=m):ZJ S S' B B' σ σ':=by
 have:=h.later
 rwa [Xb (by rw[b.len];exact a),Xb a] at this
theorem V.defer (p:Seq x) (r:b.mode=.run) (s:b.roundOf=none) {ops:ZI} {i:Nat} {rest:κ} {a:Oper} (u:ops[i]?=some a) (v:XG env ops a=some true) (y:a.dst=none) {f:Operand} {args:Array Operand} {ts:Array TypeId} (A:a.op=.defer ⟨.value f,args,ts⟩)
  {g:FuncId} {first captured:ψ} (C:ο env f=.fn (.func g) first captured) (D:Plain P g)
  (h:∀(S:ς) (B:δ) (H:Υ) (t:ν) (d:Deferred) (vs:ν),Xw o.m o.S o.B o.H o.σ S B H σ->XR o.m nt S B H σ env t->XQ S B σ (first++args.toList.map (ο env)++captured) vs->PQ P d g vs->
   μ P Q mn x (χ {b with defers:=d::b.defers} t (.inRegion ops rest::k)) cs H):V P Q mn x b cs nt o (.inRegion ops (i::rest)::k) env σ:=by
 intro S B H t E c;refine .op p r u (UF c.Zt v) (.inl s) ?_;have j:=TH c.Zt f;rw[C] at j;have F:=Bm c.Zt args;have e:execOp (ZW t) a=(do pure (.defer (<-Deferred.ofValue (ZW t f) (args.map (ZW t))))):=by unfold execOp;rw[A];rfl
 rw[e];generalize ZW t f=R at j;cases j with
 | fn l n I J K L=>
  refine Χ.bind' (Χ.pure' (Χ.pure' ?_));have M:put a t undef=t:=by unfold put;rw[y]
  simp only[Cy,M];have N:XQ S B σ first l:=⟨I,K⟩
  have O:XQ S B σ captured n:=⟨J,L⟩;exact h S B H t ⟨.fn (.func g) n,l++args.map (ZW t)⟩ (l++args.map (ZW t)++n) E c ((N.append F).append O) ⟨λ_ h=>(by cases h),λh=>(by cases h),λw=>D.enter _ w⟩
theorem μ.recovered (d:Seq x) (f:b.mode=.run) (c:b.roundOf=none) {ops:ZI} {i:Nat} {rest:κ} {op:Oper} (g:ops[i]?=some op) (j:op.guard=none) {ts:Array TypeId} (l:op.op=.call ⟨.builtin .recover,#[],ts⟩) {v:Value} {cs':Y3}
  (a:(tryRecover (χ b t (.inRegion ops (i::rest)::k)) cs=some (v,cs'))\/(tryRecover (χ b t (.inRegion ops (i::rest)::k)) cs=none/\v=.nilIface/\cs'=cs))
  (h:μ P Q mn x (χ b (put op t v) (.inRegion ops rest::k)) cs' H):μ P Q mn x (χ b t (.inRegion ops (i::rest)::k)) cs H:=by
 refine .op d f g (by unfold Region.wanted;rw[j]) (.inl c) ?_;have e:execOp (ZW t) op=pure .recover:=by unfold execOp;rw[l];rfl
 rw[e];refine Χ.pure' ⟨c,?_⟩;rcases a with a|⟨a,rfl,rfl⟩
 .rw[a];exact h
 .rw[a];exact h
end
theorem results_none {fn:Func} (h:fn.results=#[]) (t:ν):results fn t=pure (.tuple #[]):=by
 unfold results;rw[h];simp
theorem T7 {P:Program} {g:FuncId} {fn:Func} {body:Code} (b:P.funcs[g]?=some fn) (c:fn.body=some body) (vs:ν) (a:CallKind):Frame.enter P g vs a=χ (Frame.enter P g vs a) (vs++Array.replicate (fn.ntmps-vs.size) undef) [.code body]:=by
 simp[Frame.enter,χ,b,c]
theorem XR.enter {S:ς} {B:δ} {H:Υ} {σ:Ρ} {a:ψ} {vs:ν} {nt m:Nat} (b:Holds S B σ H) (hv:XQ S B σ a vs) (c:m<=σ.length) (d:a.length<=nt):XR m nt S B H σ (entry 0 a) (vs++Array.replicate (nt-vs.size) undef):=
 ⟨b,Fc hv _,by have:=hv.1;simp;omega,c⟩
end Go.TL
namespace Go.TL
open Go.Proofs.Tryz
open Go.Sort (SWO bitsLen insInner insOuter insertionSort insertionSort_holds ltInt sorted_unique_holds swp)
open Go.Proofs
variable [Z1]
def Vr (s:Y6) (a:List XC) (p:XC):Int:=
 if p.Xg<0\/(s.ZF.length:Int)<=p.Xg then 3 else if a.any (λx=>x.Xg==p.Xg) then 4 else if valid p.seen=false\/valid p.bare=false then 1 else if Lx p.seen p.bare=0 then 0 else 9
theorem tN (p x:XC):Τ prog 260 [R4 x,.Ν [J p.Xg,J p.seen,J p.bare]] (ZV (x.Xg==p.Xg)):=by
 refine Μ.body Ο func260 U U ntmps260 U U Ω ?_;(repeat (first|apply Γ|(refine YF λb a=>?_;simp;(repeat (rw[Η];simp));apply a)));refine W.ret ⟨_,U,?_,U⟩;exact .of (by simp)
theorem tM (s:Y6) (d:List XC) (n:d.length<2 ^ 62) (p:XC):Μ prog 241 [Wr s,TD d,R4 p] [] (λa σ=>Vr s d p=0/\a=.ε []/\σ=[]) (λa σ=>Vr s d p≠0/\a=.Xi 41 (J (Vr s d p))/\σ=[]):=by
 refine Μ.body Ο func241 U U ntmps241 U U Ω ?_;(repeat (first|apply Γ|(refine YF λf b=>?_;simp;(repeat (rw[Η];simp));apply b)));refine W.J5 (A:=[]) Ο mixed [(6,J p.seen),(7,J p.bare),(1,TD d),(3,XP s),(5,.Ν [J p.Xg,J p.seen,J p.bare])] ?_ (by simp[Za,YL];exact SA Wf)
 repeat apply Γ
 refine W.QP (A:=[]) Ο [(12,ZV (decide (p.Xg<0)||decide ((s.ZF.length:Int)<=p.Xg))),(6,J p.seen),(7,J p.bare),(1,TD d),(3,XP s),(5,.Ν [J p.Xg,J p.seen,J p.bare])] ?_ (by by_cases q:p.Xg<0<;>simp[Η,QQ,q]);by_cases i:p.Xg<0\/(s.ZF.length:Int)<=p.Xg
 case pos=>
  have e:Vr s d p=3:=by unfold Vr;rw[if_pos i]
  rw[e];refine Ι (by simpa using i) ?_;(repeat apply Γ);refine YF λf b=>?_;simp;(repeat (rw[Η];simp))
 refine Κ (by simpa using i) ?_;(repeat apply Γ);refine YF λf b=>?_;simp;(repeat (rw[Η];simp));refine Τ.c (tQ d (.fn (.func 260) [] [.Ν [J p.Xg,J p.seen,J p.bare]]) (λx=>x.Xg==p.Xg) n (by simp[S9]) (λx _=>λ_=>(tN p x).cc (by simp;exact Zw.refl _) Ω Ω ⟨U,U⟩)) (Zw.refl _) (by simp[S9]) Ω ?_;simp;(repeat (rw[Η];simp));apply b;cases k:d.any (λx=>x.Xg==p.Xg)
 case true=>
  have e:Vr s d p=4:=by unfold Vr;rw[if_neg i,if_pos k]
  rw[e];refine Ι Ω ?_;(repeat apply Γ);refine YF λf b=>?_;simp;(repeat (rw[Η];simp))
 refine Κ Ω ?_
 repeat apply Γ
 have m:(valid p.seen=false\/valid p.bare=false)->Vr s d p=1:=λh=>by unfold Vr;rw[if_neg i,k];simp[h]
 cases g:valid p.seen
 case false=>
  rw[m (.inl g)];(repeat apply Γ);refine YF λf b=>?_;simp;(repeat (rw[Η];simp));refine Τ.c (J2 p.seen) (Zw.refl _) Ω Ω ?_;simp[g];(repeat (rw[Η];simp[g]));apply b;refine Ι U ?_;(repeat apply Γ);refine YF λf b=>?_;simp;(repeat (rw[Η];simp))
 cases j:valid p.bare
 case false=>
  rw[m (.inr j)];(repeat apply Γ);refine YF λf b=>?_;simp;(repeat (rw[Η];simp));refine Τ.c (J2 p.seen) (Zw.refl _) Ω Ω ?_;simp[g];(repeat (rw[Η];simp[g]));refine Τ.c (J2 p.bare) (Zw.refl _) Ω Ω ?_;simp[j];(repeat (rw[Η];simp[j]));apply b;refine Ι U ?_;(repeat apply Γ);refine YF λf b=>?_;simp;(repeat (rw[Η];simp))
 (repeat apply Γ);refine YF λf b=>?_;simp;(repeat (rw[Η];simp));refine Τ.c (J2 p.seen) (Zw.refl _) Ω Ω ?_;simp[g];(repeat (rw[Η];simp[g]));refine Τ.c (J2 p.bare) (Zw.refl _) Ω Ω ?_;simp[j];(repeat (rw[Η];simp[j]));apply b;refine Κ U ?_;(repeat apply Γ);refine YF λf b=>?_;simp;(repeat (rw[Η];simp));refine Τ.c (Bs p.seen p.bare) (Zw.refl _) Ω Ω ?_;simp;(repeat (rw[Η];simp));apply b;by_cases l:Lx p.seen p.bare=0
 .have e:Vr s d p=0:=by unfold Vr;rw[if_neg i,k];simp[g,j,l]
  refine Κ (by simp[l]) ?_;(repeat (first|apply Γ|(refine YF λf b=>?_;simp;(repeat (rw[Η];simp));apply b)));exact W.nil ⟨_,U,e,U,U⟩
 .have e:Vr s d p=9:=by unfold Vr;rw[if_neg i,k];simp[g,j,l]
  rw[e];refine Ι (by simp[l]) ?_;(repeat apply Γ);refine YF λf b=>?_;simp;(repeat (rw[Η];simp))
end Go.TL
namespace Go.TL
open Go.Proofs.Tryz
open Go.Sort (SWO bitsLen insInner insOuter insertionSort insertionSort_holds ltInt sorted_unique_holds swp)
open Go.Proofs Go.Conc
variable [Z1]
theorem XQ.later {S S':ς} {B B':δ} {σ σ':Ρ} {l:ψ} {vs:ν} (h:XQ S B σ l vs) (b:ZJ S S' B B' σ σ'):XQ S' B' σ' l vs:=⟨h.1,λi a v c d=>(h.2 i a v c d).later b⟩
theorem MS.fin {P:Program} {e:Value->Prop} {mn:Bool} {x:Wv} {c:Frame} {rest:Y3} {S S':ς} {H H':Υ} {B':δ} {σ':Ρ} {v:Value} {r:Ψ} (i:MS P e mn x c rest S [] H [] (λa s=>Yx a r/\s=[]) (λ_ _=>False))
  (f:Ext S [] H S' B' H') (j:Holds S' B' σ' H') (k:∀S B σ,Θ S B σ r v):μ P e mn x (c.finish v) rest H':=by
 obtain⟨g,d⟩:=j.close (h:=0) (λid r l=>I);simp only[List.take_zero] at g d;exact i.ret r [] _ [] H' v ⟨.refl _,U⟩ (f.trans d) ⟨λb o v hv=>d.Zf _ _ _ (f.Zf _ _ _ hv),λid r h=>by simp at h⟩ g (k _ _ _)
abbrev OR (e:Int):Ρ:=[.cells 41 1 [J e]]
section
variable {Q:Value->Prop} {mn:Bool} {x:Wv} {c f:Frame} {rest:Y3} {S Y8:ς} {W9:δ} {H H1:Υ} {MH e:Int} {Bl:ν} {t:ν} {env:Β} {err:Int}
theorem Bj (b:Seq x) (w:MS prog Q mn x c rest S [] H [] (λa s=>Yx a (J err)/\s=[]) (λ_ _=>False)) {d:Deferred} (hd:PQ prog d 240 Bl)
  (y:f.fn=221) (B:f.defers=[d]) (r:f.kind=.normal) (af:f.roundOf=none) (j:(f.mode=.returning/\MH=err)\/∃v,f.mode=.panicking [{v,recovered:=false}]/\Θ Y8 W9 (OR MH) (.Xi 41 (J err)) v)
  (C:Ext S [] H Y8 W9 H1) (n:Holds Y8 W9 (OR MH) H1) (hv:XQ Y8 W9 (OR MH) [.π 0 1 0 0] Bl) (D:Zg Y8 W9 (OR MH) env f.tmps) (E:ι env 6=.π 0 1 0 0):μ prog Q mn x f (c::rest) H1:=by
 have F:f.mode≠.run:=by rcases j with⟨h,_⟩|⟨v,h,_⟩<;>rw[h]<;>simp
 refine μ.deferred b F B hd.t1 hd.t2 hd.run ?_;rw[T7 func240 U];have t:∀(f':Frame) (e:ς) (g:δ) (i:Υ),f'.mode=.returning->f'.defers=[]->f'.kind=.normal->f'.fn=f.fn->f'.tmps=f.tmps->Ext Y8 W9 H1 e g i->ZJ Y8 e W9 g (OR MH) (OR err)->Holds e g (OR err) i->μ prog Q mn x f' (c::rest) i:=λf' e g i I K L M N O P R=>by
  refine μ.back b I K (.inl L) (fn:=f221) (by rw[M,y];exact func221) ?_;rw[N];refine Χ.mono (λv ag ⟨ah,ai,T,aj,X,Y⟩=>?_) (λ_ _ h=>h) _ (MQ Ο (a:=J err) (show QO ξ [.cell 6 41] env (OR err)=some (J err) by simp[QO,N2,J',E,N3,V2.agg]) R (D.later P));cases Y;exact w.fin (C.trans (O.trans T)) X λ_ _ _=>.z _
 refine V.here (m:=1) (nt:=10) (env:=entry 0 [.π 0 1 0 0]) ?_ (XR.enter n hv Ω Ω);refine V.YA b U ?_
 repeat apply Γ
 refine W.Zs ?_;refine W.stop ?_;intro Z aa ak t3 k u;rcases j with⟨j,rfl⟩|⟨v,j,ab⟩
 .refine μ.recovered b U U U U U (v:=.nilIface) (.inr ⟨?_,U,U⟩) ?_
  .simp[tryRecover,χ,Frame.enter,j]
  .refine V.here (m:=1) ?_ (u.put U (.z .nilIface));refine V.YA b U ?_;refine W.part (A:=[]) Ο [1,2,3,4,5,6] [] U λad o=>?_;simp[M8];(repeat (rw[Η];simp[M8]));apply o;refine W.ZM ?_;refine Φ ?_;refine Κ U ?_;refine Φ ?_;refine W.stop ?_;intro e g i t4 l p;refine .Rt b U U ?_;refine μ.Ir b U U U func240 ?_;rw[results_none U];refine Χ.pure' ?_;simp only[j];exact t _ e g i U U r U U (k.ext.trans l.ext) ((k.trans l).all n Ω) p.holds
 .have ae:Θ Z aa (OR MH) (.Xi 41 (J err)) v:=ab.later (k.all n Ω);refine μ.recovered b U U U U U (v:=v) (cs':={f with defers:=[],mode:=.panicking [{v,recovered:=true}]}::c::rest) (.inl ?_) ?_
  .simp[tryRecover,χ,Frame.enter,j]
  .refine V.here (m:=1) ?_ (u.put U ae);refine V.YA b U ?_;refine W.part (A:=[]) Ο [1,2,3,4,5,6] [] U λad o=>?_;simp[M8];(repeat (rw[Η];simp[M8]));apply o;refine W.ZM ?_;refine Φ ?_;refine Ι U ?_;refine Φ ?_;refine W.stop ?_;intro e g i t4 l p;refine .Rt b U U ?_;refine μ.Ir b U U U func240 ?_;rw[results_none U];refine Χ.pure' ?_;exact t _ e g i U U r U U (k.ext.trans l.ext) ((k.trans l).all n Ω) p.holds
end
theorem tL (s:Y6) (e:List XC) (E:e.length<2 ^ 62) (p:XC):Τ prog 221 [Wr s,TD e,R4 p] (J (Vr s e p)):=by
 refine⟨⟨_,func221,U,U⟩,λR mn x c rest S B H vs g r hv t=>?_⟩;have F:B=[]:=YZ.1 (by have:=r.len;simpa using this);subst F;rw[T7 func221 U];refine V.here (m:=0) (nt:=12) (env:=entry 0 [Wr s,TD e,R4 p]) ?_ (XR.enter r hv Ω Ω);refine V.YA g U ?_
 repeat apply Γ
 refine ZG (A:=[6]) Ο λu h=>Δ ?_;apply h
 repeat apply Γ
 refine W.Zs ?_;refine W.part (A:=[]) Ο [0] [1] U λu h=>?_;(try simp);(repeat (rw[Η];simp));apply h;refine W.stop ?_;refine V.defer g U U U U U U U ⟨_,func240,U,U⟩ λT X Y t1 d Z w i y hd=>?_;refine V.here (m:=1) ?_ ⟨i.holds,i.Zt,i.size,Ω⟩;refine V.YA g U ?_;refine W.ZM ?_;refine υ λu h=>?_;refine Yg.mono (Μ.call (first:=[]) (captured:=[]) ((tM s e E p).mono (K':=λa f=>Vr s e p=0/\η 0 a/\f=[]) (E':=λa f=>(Vr s e p≠0/\a=.Xi 41 (J (Vr s e p)))/\η 0 a/\f=[]) (λa f ⟨l,k,n⟩=>⟨l,by subst k;simp,n⟩) (λa f ⟨l,k,n⟩=>⟨⟨l,k⟩,by subst k;simp,n⟩) |>.frame Ω)) (λa f ⟨C,o⟩=>?_) (λa f ⟨⟨C,I⟩,o⟩=>?_)
 .subst o;(try simp);(repeat (rw[Η];simp));apply h;refine Φ ?_;refine W.stop ?_;intro K L M t2 j D;refine μ.ret (b:={Frame.enter prog 221 vs .normal with defers:=[d]}) g U U ?_;exact Bj g t hd U U U U (.inl ⟨U,C.symm⟩) (w.ext.trans j.ext) D.holds (y.later (j.all i.holds Ω)) D.Zt U
 .subst o;subst I;intro K L M t2 aa v j N O P;have Q:=j.all i.holds Ω;refine Bj g t hd U U U U (.inr ⟨v,U,P⟩) (w.ext.trans j.ext) N (y.later Q) O ?_;rfl
end Go.TL
namespace Go.TL
open Go.Proofs.Tryz
open Go.Sort (SWO bitsLen insInner insOuter insertionSort insertionSort_holds ltInt sorted_unique_holds swp)
open Go.Proofs
variable [Z1]
theorem tK:IntKind.i64.wrap 3=3:=Z7
def Ls (l:Α) (i:Nat):Int:=match l[i]? with
 | none=>0
 | some n=>if J3 n=false then 3 else if 0<i/\n<=(l[i-1]?).getD 0 then 5 else 0
def J1 (l:Α):Int:=XB ((List.range l.length).map (Ls l))
def QI (a:List (Α)):Int:=if a.length=0 then 7 else if 4<a.length then 6 else XB ((List.range a.length).map λi=>J1 ((a[i]?).getD []))
theorem tJ (s:Y6) (r:s.small):Τ prog 179 [Wr s] (J (QI s.ZF)):=by
 refine Μ.body Ο func179 U U ntmps179 U U Ω ?_;have E:=r.2.1;by_cases b:s.ZF.length=0
 .refine Z9 b ?_;refine Ι Ω ?_;refine Φ ?_;refine W.Y' ?_;rw[show QI s.ZF=7 by simp[QI,b]];rfl
 by_cases g:(4:Int)<s.ZF.length
 .refine Z9 (Ξ b g) ?_;refine Κ (by simp[b]) ?_;refine Z9 (Ξ b g) ?_;refine Ι Ω ?_;refine Φ ?_;refine W.Y' ?_;rw[show QI s.ZF=6 by simp[QI,b];omega];rfl
 have v:QI s.ZF=XB ((List.range s.ZF.length).map λi=>J1 ((s.ZF[i]?).getD [])):=by
  unfold QI;rw[if_neg b,if_neg I]
 rw[v];refine Z9 (Ξ b g) ?_;refine Κ (by simp[b]) ?_;refine Z9 (Ξ b g) ?_;refine Κ Ω ?_;refine Φ ?_;refine W.iter (λi:Nat=>i<=s.ZF.length/\∀j,j<i->J1 ((s.ZF[j]?).getD [])=0) (λi=>[(1,XP s),(18,Ya s.ZF),(19,J s.ZF.length),(20,J i)]) (λ_=>[]) (λi=>s.ZF.length-i) 0 ⟨I,λj c=>I⟩ U Ω (λi hi w=>?_);refine Φ ?_;refine W.Yl U (λa=>?_) (λa=>?_)
 .have a:i<s.ZF.length:=by simpa using a
  have t:(s.ZF[i]?).getD []=s.ZF[i]:=by simp[a]
  have F:s.ZF[i].length<2 ^ 30:=r.2.2.2.1 _ (Yq a);refine Z9 a ?_;refine W.iter (λn:Nat=>n<=s.ZF[i].length/\∀j,j<n->Ls s.ZF[i] j=0) (λn=>[(1,XP s),(18,Ya s.ZF),(19,J s.ZF.length),(20,J i),(4,ζ J 1 s.ZF[i]),(24,ζ J 1 s.ZF[i]),(25,J s.ZF[i].length),(26,J n)]) (λ_=>[]) (λn=>s.ZF[i].length-n) 0 ⟨I,λj c=>I⟩ U Ω (λn l x=>?_);refine Φ ?_;refine W.Yl U (λm=>?_) (λm=>?_)
  .have hd:n<s.ZF[i].length:=by simpa using m
   have o:s.ZF[i][n]?=some s.ZF[i][n]:=Z4 hd
   have u:∀e:Int,Ls s.ZF[i] n=e->e≠0->XB ((List.range s.ZF.length).map λi=>J1 ((s.ZF[i]?).getD []))=e:=λe y h=>
    MJ (i:=i) a (by rw[t];exact MJ hd y h l.2) h hi.2
   repeat apply Γ
   refine QL hd ?_;refine υ λH B=>?_;refine Τ.d (uv s.ZF[i][n]) (Δ ?_);apply B;cases p:J3 s.ZF[i][n]
   .refine Ι Ω ?_;refine Φ ?_;refine W.Y' ?_;rw[u 3 (by simp[Ls,o,p]) Z7];rfl
   refine Κ Ω ?_
   repeat apply Γ
   refine W.QP (A:=[]) Ο [(35,ZV (decide (0<n/\s.ZF[i][n]<=(s.ZF[i][n-1]?).getD 0))),(1,XP s),(18,Ya s.ZF),(19,J s.ZF.length),(20,J i),(4,ζ J 1 s.ZF[i]),(24,ζ J 1 s.ZF[i]),(25,J s.ZF[i].length),(26,J n)] ?_ (by
    cases n with
    | zero=>simp[Η,QQ]
    | succ n=>
     have C:n<s.ZF[i].length:=I
     have D:=Yk (show n<2 ^ 62 by omega)
     have h:(0:Int)<(n:Int)+1:=I;simp[Η,QQ,h,C,D])
   by_cases k:0<n/\s.ZF[i][n]<=(s.ZF[i][n-1]?).getD 0
   .refine Ι (by simp only[k];rfl) ?_;refine Φ ?_;refine W.Y' ?_;rw[u 5 (by simp only[Ls,o,p];rw[if_neg Ω,if_pos k]) Z7];rfl
   .refine Κ (by simp only[k];rfl) ?_;refine Φ ?_;refine W.forget _ ?_ (x (n+1) ⟨hd,λj c=>?_⟩ I)
    .simp[Y9 hd (show s.ZF[i].length<2 ^ 62 by omega)]
    .by_cases e:j=n
     .subst e;simp only[Ls,o,p];rw[if_neg Ω,if_neg k]
     .exact l.2 j I
  .have hd:s.ZF[i].length<=n:=by simpa using m
   refine W.exit U ?_;refine Φ ?_;refine W.forget _ ?_ (w (i+1) ⟨a,λj c=>?_⟩ I)
   .simp[Y9 a (show s.ZF.length<2 ^ 62 by omega)]
   .by_cases e:j=i
    .subst e;rw[t];exact MI λj c=>l.2 j I
    .exact hi.2 j I
 .have a:s.ZF.length<=i:=by simpa using a
  refine W.exit U ?_;refine Φ ?_;refine W.Y' ?_;rw[MI (f:=λi=>J1 ((s.ZF[i]?).getD [])) λj c=>hi.2 j I];rfl
def OQ (s:Y6) (c:List XC):Int:=if 4<c.length then 6 else XB ((List.range c.length).map λi=>match c[i]? with|none=>0|some p=>Vr s (c.take i) p)
def NT (s:Y6):Int:=if 4<s.cells.length then 6 else XB ((List.range s.cells.length).map λi=>OQ s ((s.cells[i]?).getD []))
theorem tI (s:Y6) (k:s.small):Τ prog 180 [Wr s] (J (NT s)):=by
 refine Μ.body Ο func180 U U ntmps180 U U Ω ?_;have D:=k.2.2.1;by_cases l:(4:Int)<s.cells.length
 .refine Z9 l ?_;refine Ι Ω ?_;refine Φ ?_;refine W.Y' ?_;rw[show NT s=6 by simp[NT];omega];rfl
 have v:NT s=XB ((List.range s.cells.length).map λi=>OQ s ((s.cells[i]?).getD [])):=by
  unfold NT;rw[if_neg I]
 rw[v];refine Z9 l ?_;refine Κ Ω ?_;refine Φ ?_;refine W.iter (λi:Nat=>i<=s.cells.length/\∀j,j<i->OQ s ((s.cells[j]?).getD [])=0) (λi=>[(1,XP s),(13,S5 s.cells),(14,J s.cells.length),(15,J i)]) (λ_=>[]) (λi=>s.cells.length-i) 0 ⟨I,λj c=>I⟩ U Ω (λi hi w=>?_);refine Φ ?_;refine W.Yl U (λa=>?_) (λa=>?_)
 .have a:i<s.cells.length:=by simpa using a
  have m:(s.cells[i]?).getD []=s.cells[i]:=by simp[a]
  have E:s.cells[i].length<2 ^ 30:=k.2.2.2.2 _ (Yq a)
  have o:∀e:Int,OQ s s.cells[i]=e->e≠0->XB ((List.range s.cells.length).map λi=>OQ s ((s.cells[i]?).getD []))=e:=λe x y=>
   MJ (i:=i) a (by rw[m];exact x) y hi.2
  by_cases r:(4:Int)<s.cells[i].length
  .refine Z9 (Ξ a r) ?_;refine Ι Ω ?_;refine Φ ?_;refine W.Y' ?_;rw[o 6 (by unfold OQ;rw[if_pos I]) Z7];rfl
  refine Z9 (Ξ a r) ?_;refine Κ Ω ?_;refine Φ ?_;have t:OQ s s.cells[i]=XB ((List.range s.cells[i].length).map λn=>match s.cells[i][n]? with|none=>0|some p=>Vr s (s.cells[i].take n) p):=by unfold OQ;rw[if_neg I]
  refine W.iter (λn:Nat=>n<=s.cells[i].length/\∀j,j<n->(match s.cells[i][j]? with|none=>0|some p=>Vr s (s.cells[i].take j) p)=0) (λn=>[(1,XP s),(13,S5 s.cells),(14,J s.cells.length),(15,J i),(4,TD s.cells[i]),(22,TD s.cells[i]),(23,J s.cells[i].length),(24,J n)]) (λ_=>[]) (λn=>s.cells[i].length-n) 0 ⟨I,λj c=>I⟩ U Ω (λn d B=>?_);refine Φ ?_;refine W.Yl U (λg=>?_) (λg=>?_)
  .have hd:n<s.cells[i].length:=by simpa using g
   have u:s.cells[i][n]?=some s.cells[i][n]:=Z4 hd
   repeat apply Γ
   refine ZG (A:=[6]) Ο λC h=>W8 hd ?_;apply h;refine W.fix (id:=0) (σ':=[]) (Ζ _) U Ω Ω U [(5,J n),(6,.Ν [J s.cells[i][n].Xg,J s.cells[i][n].seen,J s.cells[i][n].bare]),(1,XP s),(13,S5 s.cells),(14,J s.cells.length),(15,J i),(4,TD s.cells[i]),(22,TD s.cells[i]),(23,J s.cells[i].length),(24,J n)] Ω ?_
   repeat apply Γ
   refine W.draw (A:=[]) Ο mixed λC h=>?_;simp;(repeat (rw[Za];simp[hd,RG hd]));try rw[YL]
   (try simp only[<-Qc]);refine XV (Τ.q (tL s (s.cells[i].take n) (by simp;omega) s.cells[i][n])) (VG ?_);refine Yn (h _ _ ?_)
   repeat apply Γ
   refine Φ ?_;by_cases b:Vr s (s.cells[i].take n) s.cells[i][n]=0
   .refine Κ (by simp[b]) ?_;refine Φ ?_;refine W.forget _ ?_ (B (n+1) ⟨hd,λj c=>?_⟩ I)
    .simp[Y9 hd (show s.cells[i].length<2 ^ 62 by omega)]
    .by_cases e:j=n
     .subst e;rw[u];exact b
     .exact d.2 j I
   .refine Ι (by simp[b]) ?_;refine Φ ?_;refine W.Y' ?_;rw[o (Vr s (s.cells[i].take n) s.cells[i][n]) (by rw[t];exact MJ hd (by rw[u]) b d.2) b];rfl
  .have hd:s.cells[i].length<=n:=by simpa using g
   refine W.exit U ?_;refine Φ ?_;refine W.forget _ ?_ (w (i+1) ⟨a,λj c=>?_⟩ I)
   .simp[Y9 a (show s.cells.length<2 ^ 62 by omega)]
   .by_cases e:j=i
    .subst e;rw[m,t];exact MI λj c=>d.2 j I
    .exact hi.2 j I
 .have a:s.cells.length<=i:=by simpa using a
  refine W.exit U ?_;refine Φ ?_;refine W.Y' ?_;rw[MI (f:=λi=>OQ s ((s.cells[i]?).getD [])) λj c=>hi.2 j I];rfl
def Y6.err (s:Y6):Int:=if QJ s.ZN≠0 then QJ s.ZN else if QI s.ZF≠0 then QI s.ZF else NT s
theorem Bi (s:Y6) (f:s.small):Τ prog 140 [Wr s] (J s.err):=by
 refine Μ.body Ο func140 U U ntmps140 U U Ω ?_;refine Φ ?_;refine .loop ?_;refine Φ ?_;refine Ι U ?_;refine Φ ?_;refine υ λh a=>?_;refine Τ.d (tO s f) (Δ ?_);apply a;refine Φ ?_;by_cases b:QJ s.ZN=0
 case neg=>
  refine Ι (by simp[b]) ?_;refine Φ ?_;refine W.Y' ?_;rw[show s.err=QJ s.ZN by unfold Y6.err;rw[if_pos b]];rfl
 refine Κ (by simp[b]) ?_;refine Z9 @EY ?_;refine .inLoop ?_;refine Φ ?_;refine Ι U ?_;refine Φ ?_;refine υ λh a=>?_;refine Τ.d (tJ s f) (Δ ?_);apply a;refine Φ ?_;by_cases c:QI s.ZF=0
 case neg=>
  refine Ι (by simp[c]) ?_;refine Φ ?_;refine W.Y' ?_;rw[show s.err=QI s.ZF by unfold Y6.err;rw[if_neg (by simp[b]),if_pos c]];rfl
 refine Κ (by simp[c]) ?_;refine Z9 @EX ?_;refine .inLoop ?_;refine Φ ?_;refine Ι U ?_;refine Φ ?_;refine υ λh a=>?_;refine Τ.d (tI s f) (Δ ?_);apply a;refine Φ ?_;have e:s.err=NT s:=by unfold Y6.err;rw[if_neg (by simp[b]),if_neg (by simp[c])]
 rw[e];by_cases g:NT s=0
 case neg=>
  refine Ι (by simp[g]) ?_;refine Φ ?_;refine W.rt ?_;exact .of U
 refine Κ (by simp[g]) ?_;refine Z9 @tK ?_;refine .inLoop ?_;refine Φ ?_;refine Κ U ?_;refine W.exit U ?_;refine Φ ?_;refine W.Y' ?_;rw[g];rfl
section
variable {P:Program} {T:Z2} {A:κ} {m nt:Nat} {k:ZA} {env:Β} {σ:Ρ} {Z:XD} {E:Yb}
theorem W.S4 (a:ZL P T) (env':Β) (σ':Ρ) {id:Nat} {ops:ZI} (h:W P m nt k env' σ' Z E) (b:run P T A nt ops (idx ops.size []) env σ (λe s=>s=σ'/\∀p∈env',ι e p.1=p.2) E):W P m nt (.code (.region id ops false)::k) env σ Z E:=
 ZG a λg c=>Ff (λe s ⟨d,f⟩=>c e s (d▸W.forget env' f h)) _ _ _ b
end
def Vh (l:ψ):Ψ:=if l.isEmpty then .sl true 0 [] else .ms 0 l.length 0 l.length
def XO (t:TypeId) (k:Nat) (l:ψ):Ρ:=if l.isEmpty then [] else [.cells t k l]
def VF (k:Nat) (l:ψ):Ψ:=if l.isEmpty then .sl true 0 [] else .sl false k l
theorem J0:Vh []=.sl true 0 []:=rfl
theorem PO {t k:Nat}:XO t k []=[]:=rfl
theorem JZ {l:ψ} (h:l≠[]):Vh l=.ms 0 l.length 0 l.length:=by unfold Vh;rw[if_neg (by simpa using h)]
theorem Sx {t k:Nat} {l:ψ} (h:l≠[]):XO t k l=[.cells t k l]:=by unfold XO;rw[if_neg (by simpa using h)]
theorem ES {l:ψ} {x:Ψ}:Vh (l++[x])=.ms 0 (l.length+1) 0 (l.length+1):=by rw[JZ Ω];simp
theorem JY {t k:Nat} {l:ψ} {x:Ψ}:XO t k (l++[x])=[.cells t k (l++[x])]:=Sx Ω
theorem Y0.acc {t k:Nat} {l:ψ} (b:∀e∈l,∀a∈e.cells,η 0 a):Y0 0 (XO t k l) (Vh l) (VF k l):=by
 unfold XO Vh VF;cases h:l.isEmpty with
 | true=>exact .low Ω
 | false=>exact .own (Ζ _) rfl rfl b
theorem Yx.acc {k:Nat} {l:ψ}:Yx (VF k l) (.sl false k l):=by
 unfold VF;cases h:l.isEmpty with
 | true=>rw[Tp.1 h];exact .nil
 | false=>exact .refl _
@[simp] theorem iN {c:Type} {l:List c} {a b:c}:(l++[a]).set l.length b=l++[b]:=by rw[List.set_append_right _ _ (ZY _),Nat.sub_self];rfl
@[simp] theorem iM {t k:Nat} {l:ψ}:η (XO t k l).length (Vh l):=by
 unfold Vh XO;cases l.isEmpty<;>simp[SB]
theorem η.mono {h c:Nat} {a:Ψ} (d:η h a) (g:h<=c):η c a:=by
 induction d with
 | z v=>exact .z v
 | Zx=>exact .Zx
 | Ν _ b=>exact .Ν b
 | sl _ b=>exact .sl b
 | Z6 _ b=>exact .Z6 b
 | ε _ b=>exact .ε b
 | fn _ _ e f=>exact .fn e f
 | Xi _ b=>exact .Xi b
 | π h=>exact .π I
 | ms h=>exact .ms I
 | mp h=>exact .mp I
 | it h=>exact .it I
theorem ER {t k h:Nat} {l:ψ} (d:∀e∈l,∀a∈e.cells,η 0 a):∀r∈XO t k l,YR h r:=by
 intro r b;unfold XO at b;cases c:l.isEmpty with
 | true=>rw[c] at b;simp at b
 | false=>
  rw[c] at b;simp at b;subst b;exact λe f a g=>(d e f a g).mono (Ζ _)
section
variable {P:Program} {m nt:Nat} {k:ZA} {env:Β} {Z:XD} {E:Yb}
theorem W.QH {σ0:Ρ} {t:TypeId} {e:Ψ} {kk:Nat} (c:m<=σ0.length) (d:∀r∈σ0,YR σ0.length r) (f:∀a∈e.cells,η σ0.length a) (env':Β)
  (g:∀p∈env',(ι env p.1=p.2/\η σ0.length p.2)\/(ι env p.1=.π σ0.length 1 0 0/\p.2=.Ν e.cells)) (h:W P m nt k env' σ0 Z E):W P m nt k env (σ0++[.cells t kk [e]]) Z E:=
 W.fix (t:=t) (kk:=kk) (e:=e) c Ω f (λid r i b=>d r (by
  rw[YN i] at b;exact ZH b)) Ω env' g h
theorem W.tH {t kk:Nat} {l:ψ} {d:Nat} (f:∀e∈l,∀a∈e.cells,η 0 a) (env':Β) (hd:ι env d=Vh l) (c:∀p∈env',ι env p.1=p.2/\η 0 p.2) (g:W P 0 nt k ((d,VF kk l)::env') [] Z E):W P 0 nt k env (XO t kk l) Z E:=
 W.cut 0 (Ζ _) ((d,VF kk l)::env') (Ζ _) (λid r h=>I) (λp b=>by
  rcases Yd.1 b with rfl|b
  .show Y0 0 _ (ι env d) _;rw[hd];exact .acc f
  .rw[(c p b).1];exact .low (c p b).2) (by simpa using g)
end
abbrev T6 (l:Α):Ψ:=.sl true 1 (l.map J)
theorem Yx.tG {L:List (Α)}:Yx (VF 1 (L.map T6)) (Ya L):=.trans .acc (.map λx _=>.one .ex rfl rfl)
theorem Bh {L:List (Α)}:∀e∈L.map T6,∀a∈e.cells,η 0 a:=by
 intro e c a b;obtain⟨x,_,rfl⟩:=Zh.1 c;simp[Ψ.cells] at b;subst b;simp
def S3 {c:Type} [DecidableEq c]:c->List c->List c
 | _,[]=>[]
 | a,b::l=>if b=a then S3 a l else b::S3 b l
def Yf {b:Type} [DecidableEq b]:List b->List b
 | []=>[]
 | a::l=>a::S3 a l
theorem Hc {c:Type} [DecidableEq c] (l:List c) {p:Nat} (g:0<p) (h:p<l.length) (i:p-1<l.length):Yf (l.take (p+1))=Yf (l.take p)++if l[p]=l[p-1] then [] else [l[p]]:=by
 have gen:∀(l:List c) (a:c) (p:Nat) (h:p<l.length),S3 a (l.take (p+1))=S3 a (l.take p)++if l[p]=(a::l)[p]'(by simp;omega) then [] else [l[p]]:=by
  intro l
  induction l with
  | nil=>intro a p h;cases h
  | cons b l f=>
   intro a p h;cases p with
   | zero=>by_cases e:b=a<;>simp[S3,e]
   | succ p=>
    have d:p<l.length:=by simpa using h
    by_cases e:b=a
    .subst e;have:=f b p d;simp only[List.take_succ_cons,S3,if_true,List.getElem_cons_succ] at this ⊢;exact this
    .have:=f b p d;simp only[List.take_succ_cons,S3,e,if_false,List.getElem_cons_succ,List.cons_append] at this ⊢;rw[this]
 cases l with
 | nil=>cases h
 | cons a l=>
  obtain⟨q,rfl⟩:∃q,p=q+1:=⟨p-1,I⟩;have d:q<l.length:=by simpa using h
  have:=gen l a q d;simp only[List.take_succ_cons,Yf,List.getElem_cons_succ,Nat.add_sub_cancel] at this ⊢;rw[this];rfl
theorem tF {c:Type} [DecidableEq c] (l:List c) (p:Nat):(Yf (l.take p)).length<=p:=by
 have gen:∀(l:List c) (a:c),(S3 a l).length<=l.length:=by
  intro l
  induction l with
  | nil=>intro a;simp[S3]
  | cons b l d=>
   intro a;simp only[S3];split
   .have:=d a;simp;omega
   .have:=d b;simp;omega
 cases h:l.take p with
 | nil=>simp[Yf]
 | cons a m=>
  have e:(a::m).length<=p:=by rw[<-h];simp;omega
  have:=gen m a;simp only[Yf,List.length_cons] at e ⊢;omega
theorem Hb {f:Α} {L:ψ} (a:L=f.map J) {j:Nat} {x:Int} (h:f[j]?=some x):L[j]?=some (J x)/\∀h:j<L.length,L[j]=J x:=by
 have e:L[j]?=some (J x):=by rw[a,Ys,h];rfl
 exact⟨e,λb=>by rw[Z4 b] at e;exact WU e⟩
theorem tE (l:Α) (n:Nat) (d:l.length=n) (aE:n<2 ^ 40):Μ prog 168 [.ms 0 n 0 n] [.cells 3 1 (l.map J)]
  (λr s=>∃ab:Α,(Yf l++ab).length=n/\r=.ms 0 n 0 (Yf l).length/\s=[.cells 3 1 ((Yf l++ab).map J)]) (λ_ _=>False):=by
 refine Μ.body Ο func168 U U ntmps168 U U Ω ?_;by_cases t:(n:Int)<2
 .refine Z9 (Ξ d t) ?_;refine Ι U ?_;refine Z9 d ?_;refine W.ret ⟨_,U,[],?_⟩;have e:Yf l=l:=by
   match l,d with
   | [],_=>rfl
   | [a],_=>rfl
   | a::b::l,d=>simp at d;omega
  rw[e,Ug,d];exact⟨U,U,U⟩
 refine Z9 (Ξ d t) ?_;refine Κ U ?_;refine Φ ?_;refine W.iter (λk:Nat=>1<=k/\k<=n/\Yf (l.take k)=l.take k) (λk=>[(0,.ms 0 n 0 n),(3,J k)]) (λ_=>[.cells 3 1 (l.map J)]) (λk=>n-k) 1 ⟨ZY _,I,by
  match l,d with
  | [],d=>rfl
  | a::l,d=>rfl⟩ rfl Ω (λk ak al=>?_)
 obtain⟨aF,c,H⟩:=ak;refine Z9 d ?_;by_cases C:k<n
 .refine Ι (by simp[C]) ?_
  repeat apply Γ
  obtain⟨p,ad⟩:∃p,k=p+1:=⟨k-1,I⟩;have am:IntKind.i64.wrap ((k:Int)-1)=(p:Int):=by have:=Yk (show p<2 ^ 62 by omega);rw[ad];simpa using this
  have an:p<n:=I
  have P:k<l.length:=I
  have ao:p<l.length:=I;obtain⟨L,h⟩:=Z' (l.map J);have K:L.length=n:=by rw[h];simpa using d
  obtain⟨Q,R⟩:=Hb h (Z4 P);obtain⟨S,T⟩:=Hb h (Z4 ao);refine W.to (σ':=[.cells 3 1 L]) (env':=[(0,.ms 0 n 0 n),(3,J k)]) ?_ (by rw[h]) Ω;generalize V:l[k]=x at Q R;generalize ap:l[p]=y at S T;refine WX (Ξ C (Ξ am (Ξ K (Ξ an (Ξ Q (Ξ R (Ξ S T))))))) ?_;have ae:Yf (l.take (k+1))=Yf (l.take k)++if x=y then [] else [x]:=by
   rw[Hc l I P I];simp only[ad,Nat.add_sub_cancel] at V ⊢;rw[V,ap]
  by_cases N:x=y
  .refine Ι (by simp[N]) ?_
   repeat apply Γ
   refine W.S4 (A:=[]) Ο [(0,.ms 0 n 0 n),(3,J k),(4,.ms 0 n k (n-k))] [.cells 3 1 L] ?_ (by
    (try simp);(repeat (rw[Η];simp[K,RG C]));(try simp[K,RG C]))
   refine Φ ?_;have af:Yf (l.take (k+1))=l.take k:=by rw[ae,if_pos N,Ug,H]
   refine W.iter (λq:Nat×Nat×Α=>1<=q.2.1/\k+q.2.1<=n/\q.2.2.length=n/\q.1<k+q.2.1/\q.1=(Yf (l.take (k+q.2.1))).length/\q.2.2.take q.1=Yf (l.take (k+q.2.1))/\∀j,k+q.2.1-1<=j->j<n->q.2.2[j]?=l[j]?)
    (λq=>[(0,.ms 0 n 0 n),(3,J q.1),(4,.ms 0 n k (n-k)),(5,J q.2.1)]) (λq=>[.cells 3 1 (q.2.2.map J)]) (λq=>n-q.2.1) (k,1,l) ⟨ZY _,by simp;omega,d,Ω,by simp only[af];simp;omega,by simp only[af],λj _ _=>rfl⟩ (by rw[h]) Ω (λq aq ag=>?_)
   obtain⟨m,c,f⟩:=q;obtain⟨c1,c2,i,ar,D,E,F⟩:=aq;simp only at c1 c2 i ar D E F;clear h K Q R S T;refine Z9 i ?_;by_cases hd:c<n-k
   .have aG:(c:Int)<((n-k:Nat):Int):=I
    refine Ι (by simp[hd]) ?_
    repeat apply Γ
    obtain⟨o,au⟩:∃r,c=r+1:=⟨c-1,I⟩;have av:IntKind.i64.wrap ((c:Int)-1)=(o:Int):=by have:=Yk (show o<2 ^ 62 by omega);rw[au];simpa using this
    have aw:o<n-k:=I;obtain⟨M,w⟩:=Z' (f.map J);have X:M.length=n:=by rw[w];simpa using i
    have ah:f[k+c]?=some (l[k+c]'I):=by rw[F _ I I,Z4]
    have hv:f[k+o]?=some (l[k+o]'I):=by rw[F _ I I,Z4]
    have g:=Hc l (p:=k+c) I I I
    have ax:l[k+c-1]'I=l[k+o]'I:=by congr 1;omega
    rw[ax] at g;generalize l[k+c]'I=u at ah g;generalize l[k+o]'I=v at hv g;obtain⟨Y,Z⟩:=Hb w ah;obtain⟨ay,az⟩:=Hb w hv;refine W.to (σ':=[.cells 3 1 M]) (env':=[(0,.ms 0 n 0 n),(3,J m),(4,.ms 0 n k (n-k)),(5,J c)]) ?_ (by rw[w]) Ω;have B:m<n:=I;refine W.draw (A:=[]) Ο mixed λaH aA=>?_;simp;(repeat (rw[Za];simp[hd,av,aw,X,Y,Z,ay,az]));try rw[YL];refine Yn (aA _ _ ?_)
    by_cases O:u=v
    .refine Κ (by simp[O]) ?_;refine Φ ?_;rw[if_pos O,Ug] at g;refine W.to (ag (m,c+1,f) ⟨Ω,by simp;omega,i,by simp;omega,by simp only[<-U9,g];exact D,by simp only[<-U9,g];exact E,λj aa t=>F j (by simp at aa;omega) t⟩ (by simp;omega)) (by rw[w]) ?_;have:=Yk (show c+1<2 ^ 62 by omega);simpa using this
    .refine Ι (by simp[O]) ?_;rw[if_neg O] at g
     repeat apply Γ
     refine W.S4 (A:=[]) Ο [(0,.ms 0 n 0 n),(3,J m),(4,.ms 0 n k (n-k)),(5,J c)] [.cells 3 1 ((f.set m u).map J)] ?_ (by
      (try simp);(repeat (rw[Η];simp[hd,X,B,Y,Z]));(try simp[hd,X,B,Y,Z]);subst w;simp)
     refine Φ ?_;refine W.to (ag (m+1,c+1,f.set m u) ⟨Ω,by simp;omega,by simpa using i,by simp;omega,by simp only[<-U9,g];simp;exact D,?_,λj aa t=>?_⟩ (by simp;omega)) Ω ?_
     .simp only[<-U9,g];rw[<-E,VW (by simp;omega),List.take_set_of_le (ZY _)];simp
     .simp at aa;rw[Xj I];exact F j I t
     .have ai:=Yk (show c+1<2 ^ 62 by omega)
      have aj:=Yk (show m+1<2 ^ 62 by omega);simp at ai aj ⊢;exact⟨aj,ai⟩
   .refine Κ (by simp[hd]) ?_;refine W.exit U ?_;have aB:k+c=n:=I;have aC:l.take n=l:=Xb I;rw[aB,aC] at D E
    repeat apply Γ
    have B:m<=n:=I;refine W.S4 (A:=[]) Ο [(0,.ms 0 n 0 n),(3,J m)] [.cells 3 1 ((Yf l++List.replicate (n-m) 0).map J)] ?_ (by
     (try simp);(repeat (rw[Η];simp[i,B]));(try simp[i,B]);rw[<-Qc,E,Qf (by simp;omega),Ug])
    have aD:(Yf l).length+(n-m)=n:=I;refine Z9 (Ξ aD B) ?_;refine W.ret ⟨_,U,List.replicate (n-m) 0,by simp;omega,?_,Ω⟩;rw[<-D];rfl
  .refine Κ (by simp[N]) ?_;refine Φ ?_;refine W.to (al (k+1) ⟨I,I,?_⟩ I) (by rw[h]) ?_
   .rw[ae,if_neg N,H,<-V,<-VW P]
   .have:=Yk (show k+1<2 ^ 62 by omega);simpa using this
 .refine Κ (by simp[C]) ?_;refine W.exit U ?_;refine Φ ?_;refine W.ret ⟨_,U,[],?_⟩;have e:Yf l=l:=by rw[Xb I] at H;exact H
  rw[e,Ug,d];exact⟨U,U,U⟩
def NS:Y6:=⟨[],[],[]⟩
theorem EP {e f g:Bool} {a b c:Nat}:Yx (.Z6 [.sl e a [],.sl f b [],.sl g c []]) (Wr NS):=.Z6 (.cons .nil (.cons .nil (.cons .nil .nil)))
abbrev Bg (r:Y6×WN×Int):Ψ:=.ε [Wr r.1,Vs r.2.1,J r.2.2]
def T5 (s:Y6) (a:Bool) (F:WN):Y6×WN×Int:=
 if s.err≠0 then(NS,[],s.err) else if a=true/\F=[] then(s,[],9) else(s,F,0)
def S2 (s:Y6) (a:Int) (F:WN):Y6×WN×Int:=
 if s.err≠0 then(NS,[],s.err) else if a<0\/(s.cells.length:Int)<=a then(NS,[],3) else T5 s true F
def OP (s:Y6) (F:WN):Prop:=s.err=0->Τ prog 141 [Wr s] (Vs F)
theorem Bf (s:Y6) (g:s.small) (c:Bool) (F:WN) (h:OP s F):Τ prog 94 [Wr s,ZV c] (Bg (T5 s c F)):=by
 refine Μ.body Ο func94 U U ntmps94 U U Ω ?_
 repeat apply Γ
 refine ZG (A:=[4]) Ο λf a=>Δ ?_;apply a;refine υ λf a=>?_;refine Τ.d (Bi s g) (Δ ?_);apply a;refine Φ ?_;by_cases b:s.err=0
 case neg=>
  have e:T5 s c F=(NS,[],s.err):=by unfold T5;rw[if_pos b]
  rw[e];refine Ι (by simp[b]) ?_;refine Φ ?_;refine W.fix (id:=0) (σ':=[]) (Ζ _) U Ω Ω U [(4,.Ν [.sl true 0 [],.sl true 0 [],.sl true 0 []]),(5,.sl true 0 []),(6,J s.err)] Ω ?_;refine W.rt ?_;exact .ε (.cons EP (.cons .nil (.cons (.refl _) .nil)))
 refine Κ (by simp[b]) ?_
 repeat apply Γ
 refine ZG (A:=[8]) Ο λf a=>Δ ?_;apply a;refine υ λf a=>?_;refine Τ.d (h b) (Δ ?_);apply a
 repeat apply Γ
 cases c
 case false=>
  have e:T5 s false F=(s,F,0):=by unfold T5;rw[if_neg (by simpa using b),if_neg Ω]
  rw[e];refine Φ ?_;refine Κ U ?_;refine Φ ?_;refine W.fix (id:=0) (σ':=[]) (Ζ _) U Ω Ω U [(4,XP s),(5,Vs F),(6,J 0)] Ω ?_;exact W.NW
 case true=>
  refine Φ ?_;by_cases z:F=[]
  .have e:T5 s true F=(s,[],9):=by unfold T5;rw[if_neg (by simpa using b),if_pos ⟨U,z⟩]
   rw[e];refine Ι (by simp[z]) ?_;refine Φ ?_;refine W.fix (id:=0) (σ':=[]) (Ζ _) U Ω Ω U [(4,XP s),(5,.sl true 0 []),(6,J 9)] Ω ?_;refine W.rt ?_;exact .ε (.cons (.refl _) (.cons .nil (.cons (.refl _) .nil)))
  .have e:T5 s true F=(s,F,0):=by unfold T5;rw[if_neg (by simpa using b),if_neg (by simp[z])]
   rw[e];refine Κ (by simp[z]) ?_;refine Φ ?_;refine W.fix (id:=0) (σ':=[]) (Ζ _) U Ω Ω U [(4,XP s),(5,Vs F),(6,J 0)] Ω ?_;exact W.NW
theorem tD (s:Y6) (g:s.small) (a:Int) (F:WN) (j:OP s F):Τ prog 125 [Wr s,J a] (Bg (S2 s a F)):=by
 refine Μ.body Ο func125 U U ntmps125 U U Ω ?_
 repeat apply Γ
 refine ZG (A:=[4]) Ο λh b=>Δ ?_;apply b;refine υ λh b=>?_;refine Τ.d (Bi s g) (Δ ?_);apply b;refine Φ ?_;by_cases c:s.err=0
 case neg=>
  have e:S2 s a F=(NS,[],s.err):=by unfold S2;rw[if_pos c]
  rw[e];refine Ι (by simp[c]) ?_;refine Φ ?_;refine W.fix (id:=0) (σ':=[]) (Ζ _) U Ω Ω U [(4,.Ν [.sl true 0 [],.sl true 0 [],.sl true 0 []]),(5,.sl true 0 []),(6,J s.err)] Ω ?_;refine W.rt ?_;exact .ε (.cons EP (.cons .nil (.cons (.refl _) .nil)))
 refine Κ (by simp[c]) ?_;have i:S2 s a F=if a<0\/(s.cells.length:Int)<=a then(NS,[],3) else T5 s true F:=by unfold S2;rw[if_neg (by simpa using c)]
 repeat apply Γ
 refine W.QP (A:=[]) Ο [(22,ZV (decide (a<0)||decide ((s.cells.length:Int)<=a))),(2,XP s),(4,.π 0 1 0 0),(1,J a)] ?_ (by
  by_cases q:a<0
  ·(try simp);(repeat (rw[Η];simp[q]));(try simp[q])
  ·(try simp);(repeat (rw[Η];simp[q]));(try simp[q]))
 by_cases f:a<0\/(s.cells.length:Int)<=a
 .rw[i,if_pos f];refine Ι (by simpa using f) ?_;refine Φ ?_;refine W.fix (id:=0) (σ':=[]) (Ζ _) U Ω Ω U [(4,.Ν [.sl true 0 [],.sl true 0 [],.sl true 0 []]),(5,.sl true 0 []),(6,J 3)] Ω ?_;refine W.rt ?_;exact .ε (.cons EP (.cons .nil (.cons (.refl _) .nil)))
 .rw[i,if_neg f];refine Κ (by simpa using f) ?_;refine υ λh b=>?_;refine Τ.d (Bf s g true F j) (Δ ?_);apply b;refine Φ ?_;generalize T5 s true F=r;refine W.fix (id:=0) (σ':=[]) (Ζ _) U Ω Ω U [(4,.Ν [WO r.1.ZN,Ya r.1.ZF,S5 r.1.cells]),(5,Vs r.2.1),(6,J r.2.2)] Ω ?_;exact W.NW
def U0 (F:WN):List (Α):=F.map λf=>[f.u,f.v]
theorem Be {a b:Type} (f:a->b) (l:List a) {i:Nat} (h:i<l.length):(l.take (i+1)).map f=(l.take i).map f++[f l[i]]:=by
 rw[VW h,VV];rfl
theorem tC (s:Y6) (w:s.small) (F:WN) (x:OP s F) (y:F.length<2 ^ 20):Τ prog 49 [Wr s] (.ε [Ya (if s.err=0 then U0 F else []),J s.err]):=by
 refine Μ.body Ο func49 U U ntmps49 U U Ω ?_;refine Φ ?_;refine ZO ?_;refine ZG (A:=[4]) Ο λB j=>Δ ?_;refine Τ.d (Bf s w false F x) (Δ ?_);apply j;have e:T5 s false F=if s.err=0 then(s,F,0) else(NS,[],s.err):=by
  unfold T5;by_cases b:s.err=0
  .rw[if_neg (by simpa using b),if_neg Ω,if_pos b]
  .rw[if_pos b,if_neg b]
 have n:(T5 s false F).2.1=if s.err=0 then F else []:=by rw[e];split<;>rfl
 have o:(T5 s false F).2.2=s.err:=by rw[e];split<;>simp[*]
 obtain⟨G,g⟩:∃G,G=if s.err=0 then F else []:=⟨_,U⟩
 have H:G.length<2 ^ 20:=by rw[g];split;exact y;simp
 have p:(if s.err=0 then U0 F else [])=U0 G:=by rw[g];split<;>rfl
 rw[n,o,p,<-g];clear g p e n o;generalize s.err=c;refine W.drop (h:=0) (σ':=[]) (Ζ _) (Ζ _) Ω U [(5,Vs G),(6,J c)] Ω ?_;refine Φ ?_;have K:∀i,(U0 G).take i=U0 (G.take i):=λi=>by simp[U0]
 refine W.iter (λi:Nat=>i<=G.length) (λi=>[(6,J c),(7,Vh ((U0 (G.take i)).map T6)),(16,Vs G),(17,J G.length),(18,J i)])
  (λi=>XO 22 1 ((U0 (G.take i)).map T6)) (λi=>G.length-i) 0 (Ζ _) U (by simp[J0,U0]) (λi hi C=>?_)
 refine Φ ?_;refine W.Yl U (λa=>?_) (λa=>?_)
 .have a:i<G.length:=by simpa using a
  have l:(U0 (G.take (i+1))).map T6=(U0 (G.take i)).map T6++[T6 [G[i].u,G[i].v]]:=by
   unfold U0;rw[Nq,Nq,Be _ _ a];rfl
  have r:=λh=>ER (t:=22) (k:=1) (h:=h) (Bh (L:=U0 (G.take i)))
  have D:((U0 (G.take i)).map T6).length<=i:=by simp[U0];omega
  obtain⟨L,m⟩:=Z' ((U0 (G.take i)).map T6);rw[<-m] at r D l;refine W.to (σ':=XO 22 1 L) (env':=[(6,J c),(7,Vh L),(16,Vs G),(17,J G.length),(18,J i)]) ?_ (by rw[m]) (by rw[m];simp)
  repeat apply Γ
  refine ZG (A:=[9]) Ο λB j=>W8 a ?_;apply j;refine W.QH (Ζ _) (r _) Ω [(9,.Ν [J G[i].u,J G[i].v,Hh G[i].cells]),(6,J c),(7,Vh L),(16,Vs G),(17,J G.length),(18,J i)] Ω ?_
  repeat apply Γ
  refine W.S4 (A:=[26]) Ο [(6,J c),(7,Vh (L++[T6 [G[i].u,G[i].v]])),(16,Vs G),(17,J G.length),(18,J i)] (XO 22 1 (L++[T6 [G[i].u,G[i].v]])) ?_ (by
   by_cases f:L=[]
   .subst f;(try simp);(repeat (rw[Η];simp[J0,PO]));(try simp[J0,PO]);exact⟨U,U⟩
   .have E:L.length<=4294967295:=I
    (try simp);(repeat (rw[Η];simp[JZ f,Sx f,ES,JY]));(try simp[JZ f,Sx f,ES,JY]);exact E)
  refine Φ ?_;refine W.to (C (i+1) a I) ?_ ?_
  .rw[l]
  .rw[l];simp[Y9 a (show G.length<2 ^ 62 by omega)]
 .have a:i=G.length:=by simp at a;omega
  subst a;refine W.exit U ?_;refine Φ ?_;refine W.tH (d:=2) Bh [(3,J c)] Ω Ω ?_;refine W.rt ?_;exact .ε (.cons .tG (.cons (.refl _) .nil))
abbrev WM (l:Α):Α:=l.mergeSort (λx y=>decide (x<=y))
def Ha (N:Nat):Prop:=∀(l:Α),l.length<=N->Μ prog 167 [.ms 0 l.length 0 l.length] [.cells 3 1 (l.map J)] (λr s=>r=.ε []/\s=[.cells 3 1 ((WM l).map J)]) (λ_ _=>False)
def QG (a:Bool) (r:Int×Int):Int:=if a then r.2 else r.1
def R2 (a:Bool) (A:Α) (C:List Xt) (j:Nat):Α:=A++(C.take j).map (QG a)
theorem Bd {a:Bool} {A:Α} {C:List Xt}:R2 a A C 0=A:=by simp[R2]
theorem tB {a:Bool} {A:Α} {C:List Xt} {j:Nat} (h:j<C.length):R2 a A C (j+1)=R2 a A C j++[QG a C[j]]:=by
 unfold R2;rw[Be _ _ h,Tq]
theorem Bc {a:Bool} {A:Α} {C:List Xt} {j:Nat} (h:C.length<=j):R2 a A C j=A++C.map (QG a):=by
 unfold R2;rw[Xb h]
theorem tA {a:Bool} {A:Α} {C:List Xt} {j:Nat}:(R2 a A C j).length<=A.length+j:=by
 unfold R2;simp;omega
def Bb (f:Found) (a:Nat) (b:Bool):Α:=((f.cells[a]?).getD []).map (QG b)
def VR (F:WN) (a:Nat) (b:Bool):Α:=F.flatMap λf=>Bb f a b
def OO (F:WN) (a:Nat) (b:Bool):Α:=Yf (WM (VR F a b))
theorem EO {l:Α}:∀e∈l.map J,∀a∈e.cells,η 0 a:=by
 intro e c a b;obtain⟨x,_,rfl⟩:=Zh.1 c;simp[Ψ.cells] at b;subst b;simp
theorem tz (F:WN) (g:Nat) (b:Bool) (an:F.length<2 ^ 20) (Z:∀f∈F,g<f.cells.length/\∀c∈f.cells,c.length<2 ^ 20) (N:Nat) (ao:N<2 ^ 20) (aa:Ha N) (S:VR F g b≠[]) (B:(VR F g b).length<=N) :
  Τ prog 126 [Vs F,J g,ZV b] (ζ J 1 (OO F g b)):=by
 refine Μ.body Ο func126 U U ntmps126 U U Ω ?_;refine Φ ?_;refine W.iter (λi:Nat=>i<=F.length) (λi=>[(1,J g),(2,ZV b),(7,Vh ((VR (F.take i) g b).map J)),(12,Vs F),(13,J F.length),(14,J i)])
  (λi=>XO 3 1 ((VR (F.take i) g b).map J)) (λi=>F.length-i) 0 (Ζ _) U (by simp[VR,J0]) (λi hi ab=>?_)
 refine Φ ?_;have ad:∀i,(VR (F.take i) g b).length<=N:=λi=>by
  have e:VR F g b=VR (F.take i) g b++VR (F.drop i) g b:=by
   conv=>lhs;rw[<-List.take_append_drop i F]
   simp only[VR,KP]
  rw[e,Sm] at B;omega
 refine W.Yl U (λD=>?_) (λD=>?_)
 .have h:i<F.length:=by simpa using D
  obtain⟨E,ae⟩:=Z _ (Yq h);have af:F[i].cells[g].length<2 ^ 20:=ae _ (Yq E);obtain⟨A,H⟩:=Z' (VR (F.take i) g b);have x:VR (F.take (i+1)) g b=A++F[i].cells[g].map (QG b):=by
   rw[H];unfold VR;rw[VW h,KP];simp[Bb,E]
  have T:(A++F[i].cells[g].map (QG b)).length<=N:=by rw[<-x];exact ad _
  rw[Sm,SJ] at T;refine W.to (σ':=XO 3 1 (A.map J)) (env':=[(1,J g),(2,ZV b),(7,Vh (A.map J)),(12,Vs F),(13,J F.length),(14,J i)]) ?_ (by rw[H]) (by rw[H];simp)
  repeat apply Γ
  refine ZG (A:=[9]) Ο λK n=>W8 h ?_;apply n;refine W.QH (Ζ _) (ER EO) Ω [(9,.Ν [J F[i].u,J F[i].v,Hh F[i].cells]),(1,J g),(2,ZV b),(7,Vh (A.map J)),(12,Vs F),(13,J F.length),(14,J i)] Ω ?_;refine Z9 E ?_;generalize ap:F[i].cells[g]=C at af x T;refine W.iter (λj:Nat=>j<=C.length) (λj=>[(1,J g),(2,ZV b),(7,Vh ((R2 b A C j).map J)),(12,Vs F),(13,J F.length),(14,J i),(22,Lw C),(23,J C.length),(24,J j)])
   (λj=>XO 3 1 ((R2 b A C j).map J)) (λj=>C.length-j) 0 (Ζ _) (by rw[Bd]) (by simp[Bd]) (λj aq ag=>?_)
  refine Φ ?_;refine W.Yl U (λO=>?_) (λO=>?_)
  .have o:j<C.length:=by simpa using O
   obtain⟨L,y⟩:=Z' (R2 b A C j);have ar:L.length<=A.length+j:=by rw[y];exact tA
   have P:R2 b A C (j+1)=L++[QG b C[j]]:=by rw[y];exact tB o
   refine W.to (σ':=XO 3 1 (L.map J)) (env':=[(1,J g),(2,ZV b),(7,Vh (L.map J)),(12,Vs F),(13,J F.length),(14,J i),(22,Lw C),(23,J C.length),(24,J j)]) ?_ (by rw[y]) (by rw[y];simp)
   repeat apply Γ
   refine ZG (A:=[11]) Ο λK n=>W8 o ?_;apply n;refine W.QH (Ζ _) (ER EO) Ω [(11,.Ν [J C[j].1,J C[j].2]),(1,J g),(2,ZV b),(7,Vh (L.map J)),(12,Vs F),(13,J F.length),(14,J i),(22,Lw C),(23,J C.length),(24,J j)] Ω ?_
   repeat apply Γ
   generalize C[j]=r at P;refine W.S4 (A:=[34]) Ο [(1,J g),(2,ZV b),(7,Vh ((L++[QG b r]).map J)),(12,Vs F),(13,J F.length),(14,J i),(22,Lw C),(23,J C.length),(24,J j)] (XO 3 1 ((L++[QG b r]).map J)) ?_ (by
    have ah:L.length<=4294967295:=I;rw[VV];cases b
    all_goals
     by_cases Q:L.map J=[]
     .rw[Q,J0,PO];(try simp);(repeat (rw[Η];simp));(try simp);refine Τ.d (Bq _) (Δ ?_);simp[XO,Vh,QG]
     .rw[JZ Q,Sx Q];(try simp);(repeat (rw[Η];simp));(try simp);refine Τ.d (Bq _) (Δ ?_);simp[JY,ES,QG,ah])
   refine Φ ?_;refine W.to (ag (j+1) o I) ?_ ?_
   .rw[P,VV];rfl
   .rw[P];simp[Y9 o (show C.length<2 ^ 62 by omega)]
  .have o:C.length<=j:=by simpa using O
   refine W.exit U ?_;refine Φ ?_;refine W.to (ab (i+1) h I) ?_ ?_
   .rw[x,Bc o]
   .rw[x,Bc o];simp[Y9 h (show F.length<2 ^ 62 by omega)]
 .have h:i=F.length:=by simp at D;omega
  refine W.exit U ?_;rw[h,Nu];obtain⟨M,V⟩:=Z' (VR F g b);rw[<-V] at S B ⊢;have X:M.map J≠[]:=by simpa using S
  have ai:OO F g b=Yf (WM M):=by rw[V];rfl
  have aj:(WM M).length=M.length:=by simp[WM]
  refine W.to (σ':=[.cells 3 1 (M.map J)]) (env':=[(7,.ms 0 M.length 0 M.length)]) ?_ (Sx X) (by simp[JZ X]);refine υ λK n=>?_;refine Μ.one (aa M B) 0 U (PS Lt) (PS Lt) (by simp[T9]) (by simp[WR]) (by simp[T8]) ?_;simp[X5,V1];(repeat (rw[Η];simp));apply n;refine υ λK n=>?_;have ak:=tE (WM M) M.length aj I;refine Μ.Bo ak 0 U (PS Lt) (by simp[T9]) (by simp[T8]) (λa s ⟨R,al,Y,am⟩=>⟨_,am,PS Lt,by subst Y;simp[T9],?_⟩);subst Y;simp[T8];(repeat (rw[Η];simp));apply n;refine W.cut 0 (Ζ _) [(6,ζ J 1 (Yf (WM M)))] Ω Ω ?_ ?_
  .intro p w;simp at w;subst w;have w:=Y0.part (σ:=[.cells 3 1 ((Yf (WM M)).map J++R.map J)]) (id:=0) (t:=3) (k:=1) (l:=(Yf (WM M)).map J) (l2:=R.map J) (m:=(Yf (WM M)).length) U Ω EO;have e:((Yf (WM M)).map J++R.map J).length=M.length:=by rw[<-VV,SJ];exact al
   rw[e] at w;exact w
  .rw[ai];exact W.NW
abbrev YK (n:Int):Ψ:=.z (.int .i32 n)
theorem tx (l:Α):MW (l.map YK)=some l:=by
 induction l with
 | nil=>rfl
 | cons a l b=>simp[MW,b]
end Go.TL
namespace Go.TL
open Go.Proofs.Tryz
open Go.Sort (SWO bitsLen insInner insOuter insertionSort insertionSort_holds ltInt sorted_unique_holds swp)
open Go.Proofs
theorem G9 {b c:Type} (f:b->c) (l:List b) (i:Nat):(l.map f).eraseIdx i=(l.eraseIdx i).map f:=by
 induction l generalizing i with
 | nil=>rfl
 | cons a l d=>cases i<;>simp[d]
theorem Ba {b:Type} [DecidableEq b] {l:List b} {i:Nat} {x:b} (h:l[i]?=some x):l.Perm (x::l.eraseIdx i):=by
 induction l generalizing i with
 | nil=>simp at h
 | cons a l c=>
  cases i with
  | zero=>simp at h;subst h;exact .refl _
  | succ i=>
   simp at h;exact((c h).cons a).trans (.swap ..)
variable [Z1]
section
variable {P:Program} {m nt:Nat} {k:ZA} {env:Β} {σ:Ρ} {Z:XD} {E:Yb}
theorem W.bind {o:XD} (h:W P m nt k env σ o E) (y:∀j e s,o j e s->W P m nt j e s Z E):W P m nt k env σ Z E:=
 λp mn x cs b S B H t r u A C v=>h p mn x cs b S B H t r u A
  (λj e s S' B' H' t' M D w F I=>by
   cases I;exact y j e s D p mn x cs b S' B' H' t' r u F (λJ a c d f g t2 i l n=>C J a c d f g t2 i l (w.trans n)) (λn a c d f g t2 i K l L=>v n a c d f g t2 i K l (w.trans L)))
  v
theorem W.upto {a:Item} (env':Β) (σ':Ρ) (b:W P m nt (a::k) env σ (λj e s=>j=k/\s=σ'/\∀p∈env',ι e p.1=p.2) E) (c:W P m nt k env' σ' Z E):W P m nt (a::k) env σ Z E:=
 .bind b λj e s ⟨d,f,g⟩=>by
  subst d;subst f;exact .forget env' g c
theorem W.JX {a:Item} {l:Nat} (env':Β) (σ':Ρ) (b:W P m nt (a::.inBlock l::k) env σ (λj e s=>j=k/\s=σ'/\∀p∈env',ι e p.1=p.2) E) (c:W P m nt k env' σ' Z E):W P m nt (a::.inBlock l::k) env σ Z E:=
 .bind b λj e s ⟨d,f,g⟩=>by
  subst d;subst f;exact .forget env' g c
theorem W.tw {b:Type} {a:Item} (p:b->Prop) (env':b->Β) (σ':b->Ρ) (c:W P m nt (a::k) env σ (λj e s=>j=k/\∃i,p i/\s=σ' i/\∀q∈env' i,ι e q.1=q.2) E) (d:∀i,p i->W P m nt k (env' i) (σ' i) Z E):W P m nt (a::k) env σ Z E:=
 .bind c λj e s ⟨f,i,hi,g,h⟩=>by
  subst f;subst g;exact .forget (env' i) h (d i hi)
end
end Go.TL
namespace Go.TL
open Go.Proofs.Tryz
open Go.Sort (SWO bitsLen insInner insOuter insertionSort insertionSort_holds ltInt sorted_unique_holds swp)
open Go.Proofs
variable [Z1]
theorem EN {a:Type} [Inhabited a] {lt:a->a->Bool} (b:SWO lt) (c:∀x y,lt x y=false->lt y x=false->x=y) (l:List a):(insertionSort lt l.toArray 0 l.length).toList=l.mergeSort (λx y=>!lt y x):=by
 obtain⟨d,e⟩:=insertionSort_holds (lt:=lt) b l.toArray 0 l.length (Ζ _) Ω;exact sorted_unique_holds (lt:=lt) b c l.toArray _ (by simpa using d) (by simpa using e)
theorem tv (x y:Int) (h:ltInt x y=false) (k:ltInt y x=false):x=y:=by
 simp[ltInt] at h k;omega
theorem ON (x y:Int×Int):Zm QK x y=decide (x.1<y.1\/(x.1=y.1/\x.2<y.2)):=by
 unfold Zm QK;simp only[Rm,Ro];by_cases c:x.1<y.1
 .simp[c]
 .by_cases e:y.1<x.1
  .have:¬x.1=y.1:=I
   simp[c,e,this]
  .have a:x.1=y.1:=I
   by_cases b:x.2<y.2
   .simp[a,b]
   .by_cases d:y.2<x.2
    .simp[a,b,d]
    .simp[a,b,d]
theorem G8:SWO (Zm QK) where
 irrefl x:=by rw[ON];simp
 trans x y z h k:=by
  rw[ON] at *;simp at *;omega
 ntrans x y z h k:=by
  rw[ON] at *;simp at *;omega
theorem tu (x y:Int×Int) (h:Zm QK x y=false) (k:Zm QK y x=false):x=y:=by
 rw[ON] at *;simp at h k;apply Prod.ext<;>omega
abbrev TC (x y:Int×Int):Bool:=!Zm QK y x
theorem tt {l m:List Xt} (d:l.Perm m) (e:m.Pairwise λx y=>x.1<y.1\/(x.1=y.1/\x.2<y.2)):l.mergeSort TC=m:=by
 have f:∀a b c:Int×Int,TC a b=true->TC b c=true->TC a c=true:=λa b c h k=>by
  simp only[TC,ON] at *;simp at *;omega
 have g:∀a b:Int×Int,(TC a b||TC b a)=true:=λa b=>by
  simp only[TC,ON];simp;omega
 have i:=I5 (le:=TC) f g l
 have j:(l.mergeSort TC).Perm m:=(Ma l TC).trans d;refine I7 (le:=λa b=>TC a b=true) (λa b _ _ h k=>?_) i (e.imp λ{a b} h=>?_) j
 .simp only[TC,ON] at h k;simp at h k;apply Prod.ext<;>omega
 .simp only[TC,ON];simp;omega
theorem tr (a:Ψ) (b:η 0 a):Τ prog 263 [.sl true 0 [],J 0,J 0,a] (.ε []):=by
 refine Μ.body Ο func263 U U ntmps263 U U Ω ?_;refine Φ ?_;refine .loop ?_;refine Φ ?_;refine Κ U ?_;refine W.exit U ?_;exact W.nil ⟨_,U,Yx.refl _,U⟩
theorem tq (d:Nat) (a:Ψ) (b:η 0 a):Τ prog 245 [.sl true 0 [],J 0,J 0,J d,a] (.ε []):=by
 refine Μ.body Ο func245 U U ntmps245 U U Ω ?_;refine Φ ?_;refine .loop ?_;refine Φ ?_;refine Ι U ?_;refine υ λf e=>?_;refine Τ.c (tr a b) (Zw.refl _) (by simp[b]) Ω ?_;simp;(repeat (rw[Η];simp));apply e;exact W.ret ⟨_,U,Yx.refl _,U⟩
theorem tp (a:Ψ) (b:η 0 a):Τ prog 223 [.sl true 0 [],a] (.ε []):=by
 refine Μ.body Ο func223 U U ntmps223 U U Ω ?_;have e:IntKind.u64.wrap (0:Int)=0:=Z7;refine Φ ?_;(repeat apply Γ);refine YF λg f=>?_;simp;(repeat (rw[Η];simp[e]));refine Τ.d (NU 0 I) (Δ ?_);refine Τ.c (tq (bitsLen 0) a b) (Zw.refl _) (by simp[b]) Ω ?_;simp;(repeat (rw[Η];simp));apply f;exact W.nil ⟨_,U,Yx.refl _,U⟩
theorem tn (a:Ψ) (b:η 0 a):Τ prog 246 [.sl true 0 [],J 0,J 0,a] (.ε []):=by
 refine Μ.body Ο func246 U U ntmps246 U U Ω ?_;refine Φ ?_;refine .loop ?_;refine Φ ?_;refine Κ U ?_;refine W.exit U ?_;exact W.nil ⟨_,U,Yx.refl _,U⟩
theorem tm (d:Nat) (a:Ψ) (b:η 0 a):Τ prog 225 [.sl true 0 [],J 0,J 0,J d,a] (.ε []):=by
 refine Μ.body Ο func225 U U ntmps225 U U Ω ?_;refine Φ ?_;refine .loop ?_;refine Φ ?_;refine Ι U ?_;refine υ λf e=>?_;refine Τ.c (tn a b) (Zw.refl _) (by simp[b]) Ω ?_;simp;(repeat (rw[Η];simp));apply e;exact W.ret ⟨_,U,Yx.refl _,U⟩
theorem tl (a:Ψ) (b:η 0 a):Τ prog 184 [.sl true 0 [],a] (.ε []):=by
 refine Μ.body Ο func184 U U ntmps184 U U Ω ?_;have e:IntKind.u64.wrap (0:Int)=0:=Z7;refine Φ ?_;(repeat apply Γ);refine YF λg f=>?_;simp;(repeat (rw[Η];simp[e]));refine Τ.d (NU 0 I) (Δ ?_);refine Τ.c (tm (bitsLen 0) a b) (Zw.refl _) (by simp[b]) Ω ?_;simp;(repeat (rw[Η];simp));apply f;exact W.nil ⟨_,U,Yx.refl _,U⟩
theorem Y0.struct {h id k:Nat} {σ:Ρ} {t:TypeId} {l cs:ψ} (b:h<=id) (c:σ[id]?=some (.cells t k [.Z6 l])) (d:cs.length=l.length) (H:∀(x:Nat) (a a':Ψ),l[x]?=some a->cs[x]?=some a'->Y0 h σ a a'):Y0 h σ (.π id 1 0 0) (.Ν cs):=
 .π b c U U (by simp[Ψ.cells,d]) λx a a' e f=>H x a a' (by simpa[Ψ.cells] using e) f
end Go.TL
