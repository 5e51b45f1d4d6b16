import Derived.Test.YtkndbcflmgogjaaGreatTAK
set_option linter.defProp false
set_option maxHeartbeats 16000000
set_option maxRecDepth 20000
set_option linter.unusedSectionVars false
set_option linter.unusedSimpArgs false
set_option linter.unusedVariables false
namespace Go.TL
open Go.Proofs.Tryz
open Go.Proofs
structure Qu{a:Type}(c:a->a->Int):Prop where
 Ki:∀x,c x x=0
 OT:∀x y,c x y=0->x=y
 N2:∀x y,c y x=- c x y
 trans:∀x y z,c x y<0->c y z<0->c x z<0
def PG{c:Type}(lt:c->c->Bool)(a b:c):Int:=if lt a b=true then -1 else if lt b a=true then 1 else 0
def Qu.of_lt{c:Type}{lt:c->c->Bool}(d:∀x,lt x x=false)(f:∀x y z,lt x y=true->lt y z=true->lt x z=true)(g:∀x y,lt x y=false->lt y x=false->x=y):Qu (PG lt) where
 Ki x:=by unfold PG;simp[d]
 OT x y h:=by
  unfold PG at h;cases a:lt x y<;>cases b:lt y x<;>simp[a,b]at h;exact g x y a b
 N2 x y:=by
  unfold PG;cases a:lt x y<;>cases b:lt y x<;>simp;have:=f x y x a b;rw[d]at this;cases this
 trans x y z h k:=by
  have e:∀x y,PG lt x y<0->lt x y=true:=λx y h=>by
   unfold PG at h;cases a:lt x y with
   | true=>rfl
   | false=>rw[a]at h;simp at h;split at h<;>omega
  have:=f x y z (e x y h) (e y z k);unfold PG;rw[if_pos this];decide
def TS{d:Type}(c:d->d->Int):List d->List d->Int
 | [],[]=>0
 | [],_::_=>-1
 | _::_,[]=>1
 | a::l,b::m=>if c a b≠0 then c a b else TS c l m
def Qu.lex{j:Type}{c:j->j->Int}(h:Qu c):Qu (TS c) where
 Ki x:=by
  induction x with
  | nil=>rfl
  | cons a l f=>simp[TS,h.Ki,f]
 OT x y:=by
  induction x generalizing y with
  | nil=>cases y<;>simp[TS]
  | cons a l f=>
   cases y with
   | nil=>simp[TS]
   | cons b m=>
    intro g;simp only[TS]at g;split at g
    .rename_i n;exact absurd g n
    rename_i n;rw[f m g,h.OT a b J]
 N2 x y:=by
  induction x generalizing y with
  | nil=>cases y<;>simp[TS]
  | cons a l f=>
   cases y with
   | nil=>simp[TS]
   | cons b m=>
    simp only[TS,h.N2 a b];by_cases e:c a b=0
    .rw[if_neg J,if_neg J];exact f m
    rw[if_pos J,if_pos J]
 trans x y z:=by
  induction x generalizing y z with
  | nil=>
   cases y<;>cases z<;>simp[TS]
  | cons a l f=>
   cases y with
   | nil=>simp[TS]
   | cons b m=>
    cases z with
    | nil=>simp[TS]
    | cons d n=>
     simp only[TS];intro g k;by_cases i:c a b=0
     .have o:=h.OT a b i;subst o;rw[if_neg J]at g;by_cases Υ:c a d=0
      .rw[if_neg J]at k ⊢;exact f m n g k
      rw[if_pos Υ]at k ⊢;exact k
     rw[if_pos i]at g;by_cases Υ:c b d=0
     .have p:=h.OT b d Υ;subst p;rw[if_pos i];exact g
     rw[if_pos Υ]at k;have:=h.trans a b d g k;rw[if_pos J];exact this
def Qu.FC{a:Type}{c:a->a->Int}(h:Qu c):Go.Sort.SWO (Zh c) where
 irrefl x:=by simp[Zh,Go.Sort.ltInt,h.Ki]
 trans x y z g k:=by
  simp[Zh,Go.Sort.ltInt] at *;exact h.trans x y z g k
 ntrans x y z g k:=by
  simp[Zh,Go.Sort.ltInt] at *;have d:=h.N2 x y;have e:=h.N2 y z;have f:=h.N2 x z;by_cases b:c x y=0
  .rw[h.OT x y b];exact k
  by_cases Υ:c y z=0
  .rw[<-h.OT y z Υ];exact g
  have:=h.trans z y x J J;omega
def Qu.yc{a:Type}{c:a->a->Int}(h:Qu c)(x y:a)(g:Zh c x y=false)(k:Zh c y x=false):x=y:=by
 simp[Zh,Go.Sort.ltInt]at g k;have:=h.N2 x y;exact h.OT x y J
def CJ(l:List UInt8):Op.bytesLess l l=false:=by
 induction l with
 | nil=>rfl
 | cons a l b=>simp[Op.bytesLess,b]
def yb(l m n:List UInt8)(g:Op.bytesLess l m=true)(k:Op.bytesLess m n=true):Op.bytesLess l n=true:=by
 induction l generalizing m n with
 | nil=>cases m<;>cases n<;>simp[Op.bytesLess] at *
 | cons a l c=>
  cases m with
  | nil=>simp[Op.bytesLess]at g
  | cons b m=>
   cases n with
   | nil=>simp[Op.bytesLess]at k
   | cons d n=>
    simp only[Op.bytesLess,Bool.or_eq_true,decide_eq_true_eq,U2,beq_iff_eq] at *;rcases g with g|⟨rfl,g⟩
    .rcases k with k|⟨rfl,k⟩
     .exact .inl (UInt8.lt_trans g k)
     exact .inl g
    rcases k with k|⟨rfl,k⟩
    .exact .inl k
    exact .inr ⟨U,c m n g k⟩
def nK(l m:List UInt8)(g:Op.bytesLess l m=false)(k:Op.bytesLess m l=false):l=m:=by
 induction l generalizing m with
 | nil=>cases m with
  | nil=>rfl
  | cons b m=>simp[Op.bytesLess]at g
 | cons a l c=>
  cases m with
  | nil=>simp[Op.bytesLess]at k
  | cons b m=>
   simp only[Op.bytesLess,Bool.or_eq_false_iff,decide_eq_false_iff_not,Bool.and_eq_false_iff,beq_eq_false_iff_ne] at *;have e:a=b:=UInt8.le_antisymm (UInt8.not_lt.1 k.1) (UInt8.not_lt.1 g.1);subst e;rw[c m (by simpa using g.2) (by simpa using k.2)]
def PF(a b:ByteArray):Int:=PG TG a b
variable[Z8]
def ya(a b:ByteArray)(g:TG a b=false)(k:TG b a=false):a=b:=by
 have h:a.toList=b.toList:=nK _ _ g k
 have:=OU a b;rw[h]at this;simpa using this.symm
def FB:Qu PF:=Qu.of_lt (λx=>CJ _) (λx y z g k=>yb _ _ _ g k) ya
abbrev Nb:List ByteArray->List ByteArray->Int:=TS PF
def x'(n:ByteArray):Μ prog 187 [ZQ n] (ZU false):=by
 refine Ν.body Τ func187 U U ntmps187 U U o ?_;refine Χ ?_;refine W.rt ?_;exact .of o
def nJ(a b:ByteArray):UD a b = !(TG b a):=by
 unfold UD;rw[OU];show(TG a b||decide (a=b)) = !(TG b a);by_cases e:a=b
 .subst e;have:TG a a=false:=CJ _;simp[this]
 cases c:TG a b<;>cases d:TG b a<;>simp[e]
 .exact e (ya a b c d)
 have:TG a a=true:=yb _ _ _ c d
 have f:TG a a=false:=CJ _;rw[f]at this;cases this
def nI(a b:ByteArray):Μ prog 142 [ZQ a,ZQ b] (I (PF a b)):=by
 refine Ν.body Τ func142 U U ntmps142 U U o ?_;refine Χ ?_;refine ο λg c=>?_;refine Μ.d (x' a) (ς ?_);apply c;refine ο λg c=>?_;refine Μ.d (x' b) (ς ?_);apply c;refine Χ ?_;refine Δ U ?_;refine Χ ?_;refine Δ U ?_;refine Χ ?_;cases e:TG a b
 .refine Δ U ?_;refine γ @nJ ?_;cases f:TG b a
  .refine Δ U ?_;refine Χ ?_;refine W.Y0 ?_;rw[show PF a b=0 by simp[PF,PG,e,f]];rfl
  refine Β U ?_;refine Χ ?_;refine W.Y0 ?_;rw[show PF a b=1 by simp[PF,PG,e,f]];rfl
 refine Β U ?_;refine Χ ?_;refine W.Y0 ?_;rw[show PF a b=-1 by simp[PF,PG,e]];rfl
def nH(a b:List ByteArray)(k:a.length<2 ^ 62):Μ prog 96 [Zb a,Zb b] (I (Nb a b)):=by
 refine Ν.body Τ func96 U U ntmps96 U U o ?_;refine Χ ?_;refine W.iter (λi:Nat=>i<=a.length/\i<=b.length/\Nb a b=Nb (a.drop i) (b.drop i)) (λi=>[(0,Zb a),(1,Zb b),(9,Zb a),(10,I a.length),(11,I i)]) (λ_=>[]) (λi=>a.length-i) 0 ⟨J,J,o⟩ U o (λi hi l=>?_);obtain⟨n,p,j⟩:=hi;refine Χ ?_;refine W.YD U (λc=>?_) (λc=>?_)
 .have c:i<a.length:=by simpa using c
  have h:a.drop i=a[i]::a.drop (i+1):=Pw c;refine γ c ?_;refine W.YD U (λe=>?_) (λe=>?_)
  .have e:b.length<=i:=by simp at e;omega
   refine Χ ?_;have f:b.drop i=[]:=OH e;refine W.Y0 ?_;rw[show Nb a b=1 by rw[j,h,f];rfl];rfl
  have e:i<b.length:=by simp at e;omega
  have f:b.drop i=b[i]::b.drop (i+1):=Pw e
  repeat apply Ζ
  refine Ns e ?_;refine ο λr m=>?_;refine Μ.d (nI a[i] b[i]) (ς ?_);apply m;refine Χ ?_;by_cases g:PF a[i] b[i]=0
  .refine Δ (by simp[g]) ?_;refine Χ ?_;refine W.forget _ ?_ (l (i+1) ⟨c,e,?_⟩ J)
   .simp[YR c k]
   rw[j,h,f];show TS _ _ _=_;rw[TS,if_neg (by simpa using g)]
  refine Β (by simp[g]) ?_;refine Χ ?_;refine W.Y0 ?_;rw[show Nb a b=PF a[i] b[i] by rw[j,h,f];show TS _ _ _=_;rw[TS,if_pos g]];rfl
 have c:i=a.length:=by simp at c;omega
 have h:a.drop i=[]:=OH J;refine W.exit U ?_;refine Χ ?_;by_cases g:a.length<b.length
 .refine Β (by simp[g]) ?_;refine Χ ?_;have f:b.drop i=b[i]::b.drop (i+1):=Pw J;refine W.Y0 ?_;rw[show Nb a b=-1 by rw[j,h,f];rfl];rfl
 refine Δ (by simp[g]) ?_;refine Χ ?_;have f:b.drop i=[]:=OH J;refine W.Y0 ?_;rw[show Nb a b=0 by rw[j,h,f];rfl];rfl
abbrev II(x y:ZM):Int:=Nb x.1 y.1
def Kh:Qu II where
 Ki x:=FB.lex.Ki x.1
 OT x y h:=Subtype.ext (FB.lex.OT x.1 y.1 h)
 N2 x y:=FB.lex.N2 x.1 y.1
 trans x y z:=FB.lex.trans x.1 y.1 z.1
abbrev VJ(x y:ZM):Bool:=!Zh II y x
abbrev CI:Ψ:=.fn (.func 96) [] []
def nG(l:List ZM)(a:l.length<=12):Ν prog 97 [.ms 0 l.length 0 l.length,CI] [.cells 26 1 (l.map Ym)] (λr s=>r=.Z7 []/\s=[.cells 26 1 ((l.mergeSort VJ).map Ym)]) (λ_ _=>False):=by
 have h:=nL l.toArray l.length o a CI II (by simp[Su]) (λx y=>Μ.p (nH x.1 y.1 (by have:=x.2;omega)) (.cons .ex (.cons .ex .nil)) o o);rw[Gl Kh.FC Kh.yc l]at h;exact h
end Go.TL
namespace Go.TL
open Go.Proofs.Tryz
open Go.Proofs
variable[Z8]
def x9(c x y:ByteArray)(r:List ByteArray):W9 c (x::y::r)=x++c++W9 c (y::r):=by
 have d:∀(r:List ByteArray)(a b:ByteArray),r.foldl (λa y=>a++c++y) (a++b)=a++r.foldl (λa y=>a++c++y) b:=by
  intro r
  induction r with
  | nil=>intro a b;rfl
  | cons z r e=>
   intro a b;rw[List.foldl_cons,List.foldl_cons,<-e,E2,E2,E2]
 show r.foldl _ (x++c++y)=_;exact d r (x++c) y
abbrev OS:ByteArray:=⟨#[32]⟩
def Tp(x:ByteArray):Prop:=x.data.toList≠[]/\32∉x.data.toList
def FA{a b:ByteArray}(h:a.data.toList=b.data.toList):a=b:=by
 obtain⟨⟨x⟩⟩:=a;obtain⟨⟨y⟩⟩:=b;simp at h;subst h;rfl
def nF{a b c d:List UInt8}(f:32∉a)(g:32∉b)(h:a++32::c=b++32::d):a=b/\c=d:=by
 induction a generalizing b with
 | nil=>cases b with
  | nil=>exact⟨rfl,by simpa using h⟩
  | cons y b=>simp at h;exact absurd (h.1▸SJ ..) g
 | cons x a i=>cases b with
  | nil=>simp at h;exact absurd (h.1▸SJ ..) f
  | cons y b=>
   simp at h;obtain⟨j,k⟩:=i (λe=>f (SK _ e)) (λe=>g (SK _ e)) h.2;exact⟨by rw[h.1,j],k⟩
def IH(x y:ByteArray)(r:List ByteArray):(W9 OS (x::y::r)).data.toList=x.data.toList++32::(W9 OS (y::r)).data.toList:=by
 rw[x9];simp
def nE:∀(p q:List ByteArray),(∀x∈p,Tp x)->(∀x∈q,Tp x)->W9 OS p=W9 OS q->p=q:=by
 intro p
 induction p with
 | nil=>
  intro q _ b h
  match q,b,h with
  | [],_,_=>rfl
  | [y],b,h=>exact absurd (by rw[show W9 OS [y]=y from rfl]at h;rw[<-h];rfl) (b y o).1
  | y::z::r,b,h=>
   have:=congrArg (λa=>a.data.toList) h;simp only[IH]at this;simp[W9]at this
 | cons x p e=>
  intro q c b h
  match p,q,c,b,h,e with
  | [],[],c,_,h,_=>exact absurd (by rw[show W9 OS [x]=x from rfl]at h;rw[h];rfl) (c x o).1
  | [],[y],_,_,h,_=>exact congrArg (λa=>[a]) h
  | [],y::z::r,c,_,h,_=>
   have:=congrArg (λa=>a.data.toList) h;simp only[IH]at this;exact absurd (by rw[show W9 OS [x]=x from rfl]at this;rw[this];simp) (c x o).2
  | w::p,[],_,_,h,_=>
   have:=congrArg (λa=>a.data.toList) h;simp only[IH]at this;simp[W9]at this
  | w::p,[y],_,b,h,_=>
   have:=congrArg (λa=>a.data.toList) h;simp only[IH]at this;exact absurd (by rw[show W9 OS [y]=y from rfl]at this;rw[<-this];simp) (b y o).2
  | w::p,y::z::r,c,b,h,e=>
   have:=congrArg (λa=>a.data.toList) h;simp only[IH]at this;obtain⟨f,g⟩:=nF (c x o).2 (b y o).2 this;have i:=e (z::r) (λa d=>c a (by simp at d ⊢;exact .inr d)) (λa d=>b a (by simp at d ⊢;exact .inr d)) (FA g);rw[FA f,i]
def cutAt(l:List ByteArray)(f t:Int):ZM:=⟨((l.drop (f+1).toNat).take (t-f-1).toNat).take 3,by simp;omega⟩
def N1(f t:Int):Bool:=decide (f<t/\t-f-1<=3)
def Fz(l:List ByteArray)(f t:Int):List ZM:=if N1 f t then [cutAt l f t] else []
instance hf(p:ZM)(M:List ZM):Decidable (p∈M):=decidable_of_iff (M.any (λq=>decide (q=p))=true) o
def N0(M:List ZM)(p:ZM):List ZM:=if p∈M then M else M++[p]
def SP(l:List ByteArray)(M:List ZM)(f:Int)(T:ψ):List ZM:=(T.flatMap (Fz l f)).foldl N0 M
def Qt(l:List ByteArray)(M:List ZM)(F T:ψ):List ZM:=F.foldl (λM f=>SP l M f T) M
def Si(l:List ByteArray)(left right:ByteArray):List ZM:=Qt l [] (placesOf l left (-1)) (placesOf l right l.length)
def OR(l:List ByteArray)(left right:ByteArray):List ZM:=(Si l left right).mergeSort VJ
def nD(l:List ByteArray)(M:List ZM)(f:Int)(T:ψ)(t:Int):SP l M f (T++[t])=if N1 f t then N0 (SP l M f T) (cutAt l f t) else SP l M f T:=by
 unfold SP;rw[J8,SI];simp only[J5,List.flatMap_nil,TM,Fz];split<;>rfl
def nC(l:List ByteArray)(M:List ZM)(F T:ψ)(f:Int):Qt l M (F++[f]) T=SP l (Qt l M F T) f T:=by
 unfold Qt;rw[SI];rfl
def nB{d:ZM->Prop}{M:List ZM}{p:ZM}(h:M.Nodup/\∀q∈M,d q)(f:d p):(N0 M p).Nodup/\∀q∈N0 M p,d q:=by
 unfold N0;split
 .exact h
 rename_i g;refine⟨J6.2 ⟨h.1,o,λa i b e=>by simp at e;subst e;rintro rfl;exact g i⟩,λq c=>?_⟩;rcases VS.1 c with c|c
 .exact h.2 q c
 simp at c;subst c;exact f
def x8{l:List ByteArray}{W:ByteArray->Prop}(h:∀x∈l,W x)(f t:Int):∀x∈(cutAt l f t).1,W x:=λx a=>h x (List.mem_of_mem_drop (MU (MU a)))
def x7{l:List ByteArray}{W:ByteArray->Prop}(h:∀x∈l,W x){M:List ZM}(b:M.Nodup/\∀q∈M,∀x∈q.1,W x)(f:Int)(T:ψ):(SP l M f T).Nodup/\∀q∈SP l M f T,∀x∈q.1,W x:=by
 unfold SP;generalize c:T.flatMap (Fz l f)=C;have d:∀p∈C,∀x∈p.1,W x:=by
  rw[<-c];intro p e;obtain⟨t,_,a⟩:=MQ.1 e;unfold Fz at a;split at a
  .simp at a;subst a;exact x8 h f t
  simp at a
 clear c
 induction C generalizing M with
 | nil=>exact b
 | cons p C g=>exact g (nB b (d p o)) (λq i=>d q (by simp[i]))
def x6{l:List ByteArray}{W:ByteArray->Prop}(h:∀x∈l,W x){M:List ZM}(a:M.Nodup/\∀q∈M,∀x∈q.1,W x)(F T:ψ):(Qt l M F T).Nodup/\∀q∈Qt l M F T,∀x∈q.1,W x:=by
 unfold Qt
 induction F generalizing M with
 | nil=>exact a
 | cons f F b=>exact b (x7 h a f T)
abbrev TR(p:ZM):ByteArray:=W9 OS p.1
abbrev W8(p:ZM):Ψ×Ψ:=(ZQ (TR p),Ym p)
def nA(M:List ZM):Prop:=M.Nodup/\∀q∈M,∀x∈q.1,Tp x
def nz(a b):aeqv υ 9 (ZQ a) (ZQ b)=some (decide (a=b)):=by
 have e:(a==b)=decide (a=b):=by
  rw[Pv,decide_eq_true_eq];show(a.data==b.data)=true↔_;rw[beq_iff_eq];exact⟨λh=>by cases a;cases b;simp at h;rw[h],λh=>by rw[h]⟩
 simp[e];rfl
def key_inj{p q}(a:∀x∈p.1,Tp x)(b:∀x∈q.1,Tp x)(h:TR p=TR q):p=q:=Subtype.ext (nE _ _ a b h)
def x5(p)(g:∀x∈p.1,Tp x):∀(M:List ZM) d,(∀q∈M,∀x∈q.1,Tp x)->(p∉M/\V2 υ 9 (ZQ (TR p)) (M.map W8) d=some none)\/∃i,M[i]?=some p/\V2 υ 9 (ZQ (TR p)) (M.map W8) d=some (some (d+i,Ym p)):=by
 intro M
 induction M with
 | nil=>intro d _;exact .inl ⟨o,rfl⟩
 | cons q M h=>
  intro d f;have j:=f q o;have e:=nz (TR p) (TR q);simp only[WY,V2,e];by_cases a:TR p=TR q
  .have:=key_inj g j a;subst this;exact .inr ⟨0,U,o⟩
  rw[decide_eq_false a];rcases h (d+1) (λr k=>f r (by simp[k]))with⟨b,c⟩|⟨i,b,c⟩
  .exact .inl ⟨λhm=>by rcases YU.1 hm with rfl|hm;exact a rfl;exact b hm,c⟩
  exact .inr ⟨i+1,by simpa using b,by simpa[UJ,NO 1 i] using c⟩
def ny(p)(d:∀x∈p.1,Tp x)(M)(f:∀q∈M,∀x∈q.1,Tp x)(σ)(g:UC (.map (M.map W8)::σ) 0=true) :
  Ot υ 174 (.map (M.map W8)::σ) (.mp 0) (ZQ (TR p)) (Ym p)=.ok .Zl (.map ((N0 M p).map W8)::σ):=by
 have h:Pg υ 9 (ZQ (TR p))=true:=by kernel_rfl
 have k:Pf υ 174=some (9,26):=by kernel_rfl
 unfold Ot;rw[k];simp only[List.getElem?_cons_zero,h,g];rcases x5 p d M 0 f with⟨a,b⟩|⟨i,a,b⟩
 .rw[b];unfold N0;rw[if_neg a];simp
 rw[b];unfold N0;have l:=ZD a;rw[if_pos l];have:(M.map W8).set i (ZQ (TR p),Ym p)=M.map W8:=by
  have c:(M.map W8)[i]?=some (ZQ (TR p),Ym p):=by rw[YK,a];rfl
  refine T6 λj=>?_;by_cases e:i=j
  .subst e;rw[Xz (ZT.1 c).1,c]
  rw[XJ e]
 simp[this]
def x4{l w n x}(h:x∈placesOf l w n):x=n\/0<=x/\x<l.length:=by
 unfold placesOf at h;split at h
 .simp at h;exact .inl h
 unfold RV at h;obtain⟨j,a,rfl⟩:=ZG.1 h;have:=(TK.1 a).1;simp at this;exact .inr ⟨o,by simp;omega⟩
def nx(x)(c:∀y∈x.1,Tp y)(C L:List ZM)(d:∀q∈C,∀y∈q.1,Tp y)(f:x∈C)(K b) :
  ∃j,C[j]?=some x/\NA υ 174 [.map (C.map W8),.cells 26 1 K,.iter 0 (L.map W8) b] (.mp 0) (ZQ (TR x))=.Zw (∀e∈L.map W8,∃w,e.1=.z w/\w≠.string (TR x)) (.ok (.z (.tuple #[])) [.map ((C.eraseIdx j).map W8),.cells 26 1 K,.iter 0 (L.map W8) none]):=by
 have g:Pg υ 9 (ZQ (TR x))=true:=by kernel_rfl
 have h:Pf υ 174=some (9,26):=by kernel_rfl
 rcases x5 x c C 0 d with⟨a,_⟩|⟨j,a,i⟩
 .exact absurd f a
 refine⟨j,a,?_⟩;unfold NA;rw[h];have k:Jx 0 [Row.map (C.map W8),.cells 26 1 K,.iter 0 (L.map W8) b] 0=some 2:=rfl;have l:UC [Row.map (C.map W8),.cells 26 1 K,.dead] 0=true:=rfl;simp only[List.getElem?_cons_zero,List.getElem?_cons_succ,k,g,l,and_self,if_true,i,Vu,List.set_cons_zero,List.set_cons_succ,DU]
def CH{l:List ZM}:∀e∈l.map Ym,∀a∈e.cells,ω 0 a:=λe b a c=>by
 obtain⟨y,_,rfl⟩:=ZG.1 b;exact IJ y a c
def x3(g)(c:Nat)(l)(u:g.Zf[c]?=some l)(ap:l.length<1000)(aa:∀x∈l,Tp x/\x.size<1000)(af:(Si l g.left g.right).length<=12) :
  Μ prog 50 [VX g,I c] (δ Ym 1 (OR l g.left g.right)):=by
 have aE:c<g.Zf.length:=(ZT.1 u).1
 have aF:∀h,g.Zf[c]=l:=λh=>(ZT.1 u).2
 let ⟨F,ab⟩:=ν (placesOf l g.left (-1))
 let ⟨T,ad⟩:=ν (placesOf l g.right l.length)
 have a7:F.length<=1000:=by
  rw[ab];unfold placesOf;split
  .simp
  exact WL (CK ..) J
 have a8:T.length<=1000:=by
  rw[ad];unfold placesOf;split
  .simp
  exact WL (CK ..) J
 apply Ν.body Τ func50 U U ntmps50 U U o;refine γ (Ξ aE aF) ?_;refine ο λv m=>?_;refine Μ.d (yd l ap g.left (-1)) (ς ?_);rw[<-ab];apply m
 repeat apply Ζ
 refine W.iter (λi=>i<=F.length) (λi=>[(2,.Κ (Yo g)),(5,Zb l),(6,.mp 0),(26,δ I 1 F),(27,I F.length),(28,I i)]) (λi=>[.map ((Qt l [] (F.take i) T).map W8)]) (λi=>F.length-i) 0 (Γ _) (by simp[Qt]) o (λi hi aG=>?_);refine Χ ?_;refine W.YD U (λu=>?_) (λu=>?_)
 .have E:i<F.length:=by simpa using u
  refine γ E ?_;refine ο λv m=>?_;refine Μ.d (yd l ap g.right l.length) (ς ?_);rw[<-ad];apply m;let ⟨f,ag⟩:=ν (F[i]);let ⟨M,ah⟩:=ν (Qt l [] (F.take i) T)
  repeat apply Ζ
  apply W.Gm [(2,.Κ (Yo g)),(5,Zb l),(6,.mp 0),(26,δ I 1 F),(27,I F.length),(28,I i)] [.map ((SP l M f T).map W8)]
  .have aH:f∈placesOf l g.left (-1):=by rw[<-ab,ag];exact YW E
   have a9:=x4 aH;rw[<-ag,<-ah];refine W.iter (λj:Nat=>j<=T.length) (λj=>[(2,.Κ (Yo g)),(5,Zb l),(6,.mp 0),(26,δ I 1 F),(27,I F.length),(28,I i),(8,I f),(37,δ I 1 T),(38,I T.length),(39,I j)]) (λj=>[.map ((SP l M f (T.take j)).map W8)]) (λj=>T.length-j) 0 (Γ _) (by simp[SP]) o (λj aq ai=>?_);refine Χ ?_;refine W.YD U (λu=>?_) (λu=>?_)
   .have s:j<T.length:=by simpa using u
    let ⟨t,P⟩:=ν (T[j])
    have aI:t∈placesOf l g.right l.length:=by rw[<-ad,P];exact YW s
    have a':=x4 aI
    have ba:T[j]?=some t:=by rw[P];exact ξ s
    have aJ:∀h:j<T.length,T[j]=t:=λh=>P.symm
    have H:SP l M f (T.take (j+1))=if N1 f t then N0 (SP l M f (T.take j)) (cutAt l f t) else SP l M f (T.take j):=by
     rw[Ws s,<-P,nD]
    clear P;have w1:IntKind.i64.wrap (t-f)=t-f:=IntWalk.i64_in _ J;have ar:IntKind.i64.wrap (t-f-1)=t-f-1:=IntWalk.i64_in _ J;have aK:IntKind.i64.wrap (f+1)=f+1:=IntWalk.i64_in _ J;refine γ (Ξ s aJ) ?_;by_cases B:f<t
    .by_cases L:t-f-1<=3
     .have Q:N1 f t=true:=by simp[N1,B,L]
      rw[Q,if_pos U]at H;refine γ (Ξ B (Ξ w1 (Ξ ar L))) ?_;apply Β (by simp[B,L]);refine YC aK λv m=>?_;refine⟨⟨J,J,J⟩,?_⟩;have aL:List.drop (f+1).toNat (List.take t.toNat (List.map ZQ l))=(cutAt l f t).1.map ZQ:=by
       have aM:t.toNat-(f+1).toNat=(t-f-1).toNat:=J;rw[List.drop_take,aM];show _=((((l.drop (f+1).toNat).take (t-f-1).toNat).take 3).map ZQ);rw[List.take_take,show min 3 (t-f-1).toNat=(t-f-1).toNat by omega,J4,List.map_drop]
      rw[aL];apply m;let ⟨p,S⟩:=ν (cutAt l f t);have aj:∀x∈p.1,Tp x/\x.size<1000:=by rw[S];exact x8 aa f t
      rw[<-S]at H ⊢;refine ο λv m=>?_;have aN:∀x∈p.1,0<x.size/\x.size<1000:=λx n=>⟨Nat.pos_of_ne_zero λh=>(aj x n).1.1 (by rw[(yk x).2 h]),(aj x n).2⟩;have aO:∀q∈SP l M f (T.take j),∀x∈q.1,Tp x:=by
       refine(x7 (λx n=>(aa x n).1) ?_ f _).2;rw[ah];exact x6 (λx n=>(aa x n).1) ⟨o,o⟩ _ _
      have aP:=ny p (λx n=>(aj x n).1) _ aO [] U;apply Μ.c (CL OS θ p.1 p.2 aN) (.cons .ex (.cons (.refl _) .nil)) o o;simp[-Ot];(repeat (rw[Ι];simp[-Ot,aP]));apply m;refine Χ ?_;refine W.to (ai (j+1) s J) (by rw[H]) (by simp[YR s (show T.length<2 ^ 62 by omega)])
     have Q:N1 f t=false:=by simp[N1,B,L]
     rw[Q,if_neg o]at H;refine γ (Ξ B (Ξ w1 (Ξ ar L))) ?_;apply Δ (by simp[B,L]);refine Χ ?_;refine W.to (ai (j+1) s J) (by rw[H]) (by simp[YR s (show T.length<2 ^ 62 by omega)])
    have Q:N1 f t=false:=by simp[N1,B]
    rw[Q,if_neg o]at H;refine γ B ?_;apply Δ (by simp[B]);refine Χ ?_;refine W.to (ai (j+1) s J) (by rw[H]) (by simp[YR s (show T.length<2 ^ 62 by omega)])
   have s:T.length<=j:=by simpa using u
   have aQ:T.take j=T:=Wl s;apply W.exit U;exact .stop ⟨U,by rw[aQ],o⟩
  refine Χ ?_;refine W.to (aG (i+1) E J) (by rw[Ws E,nC,<-ag,<-ah]) (by simp[YR E (show F.length<2 ^ 62 by omega)])
 have E:F.length<=i:=by simpa using u
 have au:Qt l [] (F.take i) T=Si l g.left g.right:=by rw[Wl E,ab,ad];rfl
 rw[au];apply W.exit U;refine ο λv m=>?_;apply m;apply W.pad 26 1 (σ':=[.map ((Si l g.left g.right).map W8)]) U (λj r h=>⟨r,h,.inl U⟩) [(6,.mp 0),(12,.ms 1 0 0 0)] (λz V=>by
  simp at V;rcases V with rfl|rfl
  .exact .same _
  exact .nil)
 refine Χ ?_;let ⟨D,X⟩:=ν (Si l g.left g.right);have av:nA D:=by rw[X];exact x6 (λx n=>(aa x n).1) ⟨o,o⟩ _ _
 have S:OR l g.left g.right=D.mergeSort VJ:=by rw[X];rfl
 rw[<-X]at af;rw[S,<-X];clear S X au;refine W.iter (λx:List ZM×List ZM×List ZM=>(x.1++x.2.1).Perm D/\x.2.2.Perm x.2.1) (λx=>[(6,.mp 0),(12,.ms 1 x.1.length 0 x.1.length),(66,.it 2)]) (λx=>[.map (x.2.2.map W8),.cells 26 1 (x.1.map Ym),.iter 0 (x.2.1.map W8) none]) (λx=>x.2.1.length) ([],D,D) ⟨o,.refl _⟩ U o (λx n aR=>?_);let ⟨K,R,C⟩:=x;let ⟨N,Y⟩:=n;simp only at N Y
 repeat apply Ζ
 cases R with
 | nil=>
  refine ο λv m=>?_;apply m
  repeat apply Ζ
  apply Δ U;apply W.exit U;have aS:C=[]:=Y.eq_nil;have ak:K.Perm D:=by simpa using N
  have aT:K.length<=12:=by rw[ak.length_eq];exact af
  subst aS;refine Χ ?_;refine ο λv m=>?_;have aw:ω 0 CI:=by simp[Su]
  apply Ν.one (nG K aT) 1 o (CH) (CH) (by simp[Uj,aw.U' 1]) (by simp[Xc]) (by simp[Ui,aw.Yt [1]]);simp[Yt,WE];(repeat (rw[Ι];simp));apply m;refine Χ ?_;have aU:K.mergeSort VJ=D.mergeSort VJ:=by
   have ax:∀a b c:ZM,VJ a b=true->VJ b c=true->VJ a c=true:=λa b c g k=>by
    have:=Kh.FC.ntrans c b a (by simpa[VJ] using k) (by simpa[VJ] using g);simp[VJ,this]
   have ay:∀a b:ZM,(VJ a b||VJ b a)=true:=λa b=>by
    cases az:Zh II b a<;>cases aA:Zh II a b<;>simp[VJ,az,aA];have:=Kh.FC.trans a b a aA az;rw[Kh.FC.irrefl]at this;cases this
   have aV:=Il (le:=VJ) ax ay K
   have aW:=Il (le:=VJ) ax ay D;exact Io (le:=λa b=>VJ a b=true) (λa b _ _ h k=>Kh.yc a b (by simpa[VJ] using k) (by simpa[VJ] using h)) aV aW ((Ln K _).trans (ak.trans (Ln D _).symm))
  rw[aU];have al:K.length=(D.mergeSort VJ).length:=by rw[ak.length_eq];simp
  apply W.cut 0 (Γ _) [(4,δ Ym 1 (D.mergeSort VJ))] o (λid r bb bc=>J) (λz V=>by
   simp at V;subst V;exact Yx.own (id:=1) (t:=26) (Γ _) U (by simp[al]) (λe am a aX=>CH e am a aX))
  refine W.rt ?_;exact .of U
 | cons y R=>
  have ae:∀q∈K++y::R,∀z∈q.1,Tp z:=λq O=>av.2 q (N.subset O)
  have aY:(K++y::R).Nodup:=N.symm.nodup av.1
  have al:(K++y::R).length<=12:=by rw[N.length_eq];exact af
  refine ο λv m=>?_;intro i hi;let ⟨x,n⟩:=ν ((y::R)[i]'(by simpa using hi));have an:(y::R)[i]?=some x:=by rw[n];exact ξ _
  have aZ:(W8 y::List.map W8 R)[i]?=some (W8 x):=by
   have:(List.map W8 (y::R))[i]?=some (W8 x):=by rw[YK,an];rfl
   simpa using this
  have a0:(W8 y::List.map W8 R).eraseIdx i=((y::R).eraseIdx i).map W8:=DU W8 (y::R) i
  have ao:x∈y::R:=ZD an
  have Z:=Ac an;rw[aZ,a0];simp;(repeat (rw[Ι];simp));apply m
  repeat apply Ζ
  apply Β U;refine Χ ?_;refine ZA ?_;refine ZB (A:=[75]) Τ λv m=>ς ?_;refine⟨by simp at al;omega,?_⟩;apply m;have a1:x∈C:=Y.symm.subset ao;let ⟨j,aq,aB⟩:=nx x (ae x (by simp[ao])) C ((y::R).eraseIdx i) (λq O=>ae q (List.mem_append_right _ (Y.subset O))) a1 (K.map Ym++[Ym x]) (some (W8 x));have a2:∀e∈((y::R).eraseIdx i).map W8,∃w,e.1=.z w/\w≠.string (TR x):=λe am=>by
   obtain⟨q,O,rfl⟩:=ZG.1 am;refine⟨_,U,λh=>?_⟩;have a3:q∈y::R:=Z.symm.subset (SK _ O);have a4:=key_inj (ae q (by simp[a3])) (ae x (by simp[ao])) (by simpa using h);subst a4;have a5:(q::(y::R).eraseIdx i).Nodup:=Z.nodup (J6.1 aY).2.1;exact(Q2.1 a5).1 O
  obtain⟨aC,aD⟩:∃aC:Prop,aC↔∀e∈((y::R).eraseIdx i).map W8,∃w,e.1=.z w/\w≠.string (TR x):=⟨_,.rfl⟩;rw[<-propext aD]at aB;have a6:(C.eraseIdx j).Perm ((y::R).eraseIdx i):=((Ac aq).symm.trans (Y.trans Z)).cons_inv
  repeat apply Ζ
  refine Yz λv m=>?_;simp[-NA];(repeat (rw[Ι];simp[-NA,aB]));refine⟨aD.mpr a2,?_⟩;apply m;refine Χ ?_;refine W.to (aR (K++[x],(y::R).eraseIdx i,C.eraseIdx j) ⟨?_,a6⟩ ?_) o o
  .exact((Sc K [x] _)▸(Z.symm.append_left K)).trans N
  have:=Z.length_eq;simp only[List.length_cons]at this ⊢;omega
structure ZN.small(g:ZN):Prop where
 Zf:yi g.Zf
 left:g.left.size<2 ^ 40
 right:g.right.size<2 ^ 40
 words:CP g.words
 ZV:g.ZV.length<2 ^ 40/\∀b∈g.ZV,b.Ya.size<2 ^ 40
 Zz:g.Zz.small
def nv{s:ByteArray}(h:s=⟨#[]⟩):s.toList.isEmpty=true:=by rw[IL,h];rfl
def nu{s:ByteArray}(h:¬s=⟨#[]⟩):s.toList.isEmpty=false:=by
 have a:¬s=ByteArray.empty:=h;rw[IL];simpa using a
def Ub(s:ByteArray):Int:=if s≠⟨#[]⟩/\X0 s=false then 2 else 0
def PE(l:List ByteArray)(i:Nat):Int:=match l[i]? with
 | none=>0
 | some w=>if X0 w=false then 2 else if 0<i/\UD w ((l[i-1]?).getD ⟨#[]⟩)=true then 5 else 0
def Kg(l:List ByteArray):Int:=XK ((List.range l.length).map (PE l))
def PD(g:ZN):Int:=if XK ([g.left,g.right].map Ub)≠0 then XK ([g.left,g.right].map Ub) else if 5<g.words.length then 6 else Kg g.words
def ns(g:ZN)(x:g.small):Μ prog 42 [VX g] (I (PD g)):=by
 have aa:=x.words.1;refine Ν.body Τ func42 U U ntmps42 U U o ?_;refine Χ ?_;have K:∀s∈[g.left,g.right],s.size<2 ^ 40:=λs k=>by
  simp at k;rcases k with rfl|rfl
  .exact x.left
  exact x.right
 obtain⟨L,p⟩:=ν ([g.left,g.right]);have ab:L.length=2:=by rw[p];rfl
 have ad:([ZQ g.left,ZQ g.right]:μ)=L.map ZQ:=by rw[p];rfl
 have M:PD g=if XK (L.map Ub)≠0 then XK (L.map Ub) else if 5<g.words.length then 6 else Kg g.words:=by rw[p];rfl
 rw[<-p]at K;rw[M];refine W.iter (λi:Nat=>i<=L.length/\∀j,j<i->∀h:j<L.length,Ub L[j]=0) (λi=>[(1,.Κ (Yo g)),(2,I 0),(11,.sl true 1 (L.map ZQ)),(12,I 2),(13,I i)]) (λ_=>[]) (λi=>L.length-i) 0 ⟨Γ _,λj c=>J⟩ U (by simp[p]) (λi hi r=>?_);refine Χ ?_;refine W.YD U (λa=>?_) (λa=>?_)
 .have a:i<L.length:=by have:(i:Int)<2:=(by simpa using a);omega
  have D:Ub L[i]≠0->XK (L.map Ub)=Ub L[i]:=λR=>by
   have:=Gr (l:=L.map Ub) (i:=i) (by simpa using a) (by simpa using R) (λj c h=>by simpa using hi.2 j c (by simpa using h));simpa using this
  obtain⟨s,k⟩:=ν (L[i]);have N:∀h:i<L.length,L[i]=s:=λ_=>k.symm;have t:=K _ (YW a);rw[<-k]at D t;have y:Ub s=0->∀j,j<i+1->∀h:j<L.length,Ub L[j]=0:=λb j c h=>by
   by_cases e:j=i
   .subst e;rw[N h];exact b
   exact hi.2 j J h
  clear k;refine γ (Ξ a N) ?_;by_cases b:s=⟨#[]⟩
  .have u:Ub s=0:=by unfold Ub;rw[if_neg (λh=>h.1 b)]
   have E:=nv b;refine YC E λO v=>?_;apply v;refine Δ U ?_;refine Χ ?_;refine W.to (r (i+1) ⟨a,y u⟩ J) U (by simp[YR a (show L.length<2 ^ 62 by omega)])
  have E:=nu b;refine YC E λO v=>?_;refine Μ.d (CQ s t) (ς ?_);apply v;cases m:X0 s with
  | true=>
   have u:Ub s=0:=by unfold Ub;rw[if_neg (λh=>by rw[m]at h;exact absurd h.2 o)]
   refine Δ U ?_;refine Χ ?_;refine W.to (r (i+1) ⟨a,y u⟩ J) U (by simp[YR a (show L.length<2 ^ 62 by omega)])
  | false=>
   have u:Ub s=2:=by unfold Ub;rw[if_pos ⟨b,m⟩]
   rw[u]at D;refine Β U ?_;refine Χ ?_;rw[D θ];refine W.rt ?_;exact .of U
 have a:2<=i:=by have:¬(i:Int)<2:=(by simpa using a);omega
 have b:XK (L.map Ub)=0:=Gq λj c=>by
  have S:j<L.length:=by simpa using c
  simpa using hi.2 j J S
 rw[b,if_neg o];refine W.exit U ?_;refine Χ ?_;by_cases P:5<g.words.length
 .refine Β (by simp;omega) ?_;refine Χ ?_;rw[if_pos P];refine W.rt ?_;exact .of U
 refine Δ (by simp;omega) ?_;rw[if_neg P];refine Χ ?_;clear r hi b M;have T:=x.words.2;refine W.iter (λi:Nat=>i<=g.words.length/\∀j,j<i->PE g.words j=0) (λi=>[(1,.Κ (Yo g)),(30,Zb g.words),(31,I g.words.length),(32,I i)]) (λ_=>[]) (λi=>g.words.length-i) 0 ⟨Γ _,λj c=>J⟩ U o (λi hi r=>?_);refine Χ ?_;refine W.YD U (λa=>?_) (λa=>?_)
 .have a:i<g.words.length:=by simpa using a
  have B:g.words[i]?=some g.words[i]:=ξ a
  have Q:∀e:Int,PE g.words i=e->e≠0->Kg g.words=e:=λe V F=>L1 a V F hi.2
  have y:PE g.words i=0->∀j,j<i+1->PE g.words j=0:=λb j c=>by
   by_cases e:j=i
   .subst e;exact b
   exact hi.2 j J
  have t:=T _ (YW a);obtain⟨w,m⟩:=ν (g.words[i]);have X:∀h:i<g.words.length,g.words[i]=w:=λ_=>m.symm;rw[<-m]at B t;clear m;refine γ (Ξ a X) ?_;refine ο λO v=>?_;refine Μ.d (CQ w t) (ς ?_);apply v;cases H:X0 w with
  | false=>
   refine Β U ?_;refine Χ ?_;rw[Q 2 (by unfold PE;rw[B];simp only;rw[if_pos H]) θ];refine W.rt ?_;exact .of U
  | true=>
   refine Δ U ?_
   repeat apply Ζ
   refine W.P4 (A:=[]) Τ [(41,ZU (decide (0<i/\UD w ((g.words[i-1]?).getD ⟨#[]⟩)=true))),(1,.Κ (Yo g)),(30,Zb g.words),(31,I g.words.length),(32,I i)] ?_ (by
    cases i with
    | zero=>simp[Ι,QL]
    | succ n=>
     have Y:n<g.words.length:=J
     have Z:=Yh (show n<2 ^ 62 by omega)
     have F:(0:Int)<(n:Int)+1:=J;simp[Ι,QL,F,Y,Z])
   by_cases C:0<i/\UD w ((g.words[i-1]?).getD ⟨#[]⟩)=true
   .refine Β (by simp only[C];rfl) ?_;refine Χ ?_;rw[Q 5 (by unfold PE;rw[B];simp only;rw[if_neg (by rw[H];simp),if_pos C]) θ];refine W.rt ?_;exact .of U
   refine Δ (by simp only[C];rfl) ?_;refine Χ ?_;refine W.to (r (i+1) ⟨a,y (by unfold PE;rw[B];simp only;rw[if_neg (by rw[H];simp),if_neg C])⟩ J) U (by simp[YR a (show g.words.length<2 ^ 62 by omega)])
 have a:g.words.length<=i:=by simpa using a
 refine W.exit U ?_;refine Χ ?_;rw[show Kg g.words=0 from L0 (f:=PE g.words) λj c=>hi.2 j J];refine W.rt ?_;exact .of U
def x2(l:List Xt)(b:Ψ)(p:Xt->Bool)(g:l.length<2 ^ 62)(r:ω 0 b)(k:∀x∈l,WG prog b [SQ x] (ZU (p x))):Μ prog 86 [δ SQ 3 l,b] (I (idxOf p l)):=by
 refine Ν.body Τ func86 U U ntmps86 U U o ?_;refine Χ ?_;refine W.iter (λi:Nat=>i<=l.length/\∀j,j<i->(h:j<l.length)->p l[j]=false) (λi=>[(0,δ SQ 3 l),(1,b),(6,δ SQ 3 l),(7,I l.length),(8,I i)]) (λ_=>[]) (λi=>l.length-i) 0 ⟨Γ _,λj f=>J⟩ U o (λi hi m=>?_);refine Χ ?_;refine W.YD U (λa=>?_) (λa=>?_)
 .have a:i<l.length:=by simpa using a
  refine γ a ?_;refine YC a λs n=>?_;refine(k _ (YW a)).c ?_;simp;(repeat (rw[Ι];simp));apply n;cases d:p l[i]
  .refine Δ (by simp[d]) ?_;refine Χ ?_;refine W.forget _ ?_ (m (i+1) ⟨J,λj f h=>?_⟩ J)
   .simp[YR a g]
   by_cases e:j=i
   .subst e;exact d
   exact hi.2 j J h
  refine Β (by simp[d]) ?_;refine Χ ?_;refine W.Y0 ?_;rw[L5 a d hi.2];rfl
 have a:l.length<=i:=by simpa using a
 refine W.exit U ?_;refine Χ ?_;refine W.Y0 ?_;rw[L4 λj f=>hi.2 j J f];rfl
def nq(l:List Xt)(a:Ψ)(p:Xt->Bool)(d:l.length<2 ^ 62)(b:ω 0 a)(e:∀x∈l,WG prog a [SQ x] (ZU (p x))):Μ prog 92 [δ SQ 3 l,a] (ZU (l.any p)):=by
 refine Ν.body Τ func92 U U ntmps92 U U o ?_;refine Χ ?_;refine ο λg f=>?_;refine Μ.c (x2 l a p d b e) (ZJ.refl _) (by simp[b]) o ?_;simp;(repeat (rw[Ι];simp));apply f;refine Χ ?_;refine W.Y0 ?_;rw[<-L3 (p:=p)];rfl
def np(l:List ZM)(b:Ψ)(p:ZM->Bool)(g:l.length<2 ^ 62)(r:ω 0 b)(k:∀x∈l,WG prog b [Ym x] (ZU (p x))):Μ prog 174 [δ Ym 1 l,b] (I (idxOf p l)):=by
 refine Ν.body Τ func174 U U ntmps174 U U o ?_;refine Χ ?_;refine W.iter (λi:Nat=>i<=l.length/\∀j,j<i->(h:j<l.length)->p l[j]=false) (λi=>[(0,δ Ym 1 l),(1,b),(6,δ Ym 1 l),(7,I l.length),(8,I i)]) (λ_=>[]) (λi=>l.length-i) 0 ⟨Γ _,λj f=>J⟩ U o (λi hi m=>?_);refine Χ ?_;refine W.YD U (λa=>?_) (λa=>?_)
 .have a:i<l.length:=by simpa using a
  refine γ a ?_;refine YC a λs n=>?_;refine(k _ (YW a)).c ?_;simp;(repeat (rw[Ι];simp));apply n;cases d:p l[i]
  .refine Δ (by simp[d]) ?_;refine Χ ?_;refine W.forget _ ?_ (m (i+1) ⟨J,λj f h=>?_⟩ J)
   .simp[YR a g]
   by_cases e:j=i
   .subst e;exact d
   exact hi.2 j J h
  refine Β (by simp[d]) ?_;refine Χ ?_;refine W.Y0 ?_;rw[L5 a d hi.2];rfl
 have a:l.length<=i:=by simpa using a
 refine W.exit U ?_;refine Χ ?_;refine W.Y0 ?_;rw[L4 λj f=>hi.2 j J f];rfl
def nn(l:List ZM)(a:Ψ)(p:ZM->Bool)(d:l.length<2 ^ 62)(b:ω 0 a)(e:∀x∈l,WG prog a [Ym x] (ZU (p x))):Μ prog 134 [δ Ym 1 l,a] (ZU (l.any p)):=by
 refine Ν.body Τ func134 U U ntmps134 U U o ?_;refine Χ ?_;refine ο λg f=>?_;refine Μ.c (np l a p d b e) (ZJ.refl _) (by simp[b]) o ?_;simp;(repeat (rw[Ι];simp));apply f;refine Χ ?_;refine W.Y0 ?_;rw[<-L3 (p:=p)];rfl
abbrev Xs(c:UInt8):ByteArray:=⟨#[c]⟩
def x1{c:UInt8}(h:c.toNat<128):Utf8.encode (c.toNat:Int)=Xs c:=by
 unfold Utf8.encode;have a:Utf8.valid (c.toNat:Int)=true:=by unfold Utf8.valid;simp;omega
 simp only[a,if_true,Int.toNat_natCast,h];simp
def UN(l:List Xt)(c:UInt8):Bool:=l.any λb=>decide (b.Ya=Xs c)
def nm(b:Xt){c:UInt8}(h:c.toNat<128):Μ prog 93 [SQ b,.Κ [.z (.int .i32 c.toNat)]] (ZU (decide (b.Ya=Xs c))):=by
 refine Ν.body Τ func93 U U ntmps93 U U o ?_;have e:=x1 h;refine γ e ?_;refine W.rt ?_;have Υ:(b.Ya.toList==[c])=decide (b.Ya=Xs c):=by
  have:=OU b.Ya (Xs c);rw[Kk (Xs c)]at this;exact this
 exact .of (by simp[Υ])
def Qs(l:List Xt)(i:Nat):Int:=match l[i]? with
 | none=>0
 | some b=>if b.Ya.size≠1\/X0 b.Ya=false then 2 else if 0<i/\UD b.Ya (((l[i-1]?).map (·.Ya)).getD ⟨#[]⟩)=true then 5 else Uc b.lo b.hi 1 9
def Na(l:List Xt):Int:=XK ((List.range l.length).map (Qs l))
def PC(l:List Xt)(w:ByteArray):Bool:=w.data.toList.any λc=>!UN l c
def M'(g:ZN):Int:=if 12<g.ZV.length then 6 else if Na g.ZV≠0 then Na g.ZV else if g.words.any (PC g.ZV) then 3 else 0
def get_mem{w:ByteArray}{p:Nat}(h:p<w.size):w.get! p∈w.data.toList:=by
 have a:p<w.data.toList.length:=by simpa using h
 have e:w.get! p=w.data.toList[p]:=by
  show w.data[p]! = _;rw[getElem!_pos w.data p (by simpa using h)];simp
 rw[e];exact YW a
def CG{w:ByteArray}{c:UInt8}(h:c∈w.data.toList):∃p,p<w.size/\w.get! p=c:=by
 obtain⟨p,b,rfl⟩:=Qg h;have a:p<w.data.size:=by simpa using b
 refine⟨p,a,?_⟩;show w.data[p]! = _;rw[getElem!_pos w.data p a];simp
def nk{l:List Xt}{w:ByteArray}(h:∀q,q<w.size->UN l (w.get! q)=true):PC l w=false:=by
 rw[H8];intro b;obtain⟨c,d,a⟩:=Ti.1 b;obtain⟨p,e,rfl⟩:=CG d;rw[h p e]at a;cases a
def nj{l:List Xt}{w:ByteArray}{p:Nat}(a:p<w.size)(h:UN l (w.get! p)=false):PC l w=true:=Ti.2 ⟨_,get_mem a,by rw[h];rfl⟩
def ni(g:ZN)(B:g.small)(ad:∀w∈g.words,X0 w=true):Μ prog 44 [VX g] (I (M' g)):=by
 have ak:=B.ZV.1;refine Ν.body Τ func44 U U ntmps44 U U o ?_;refine Χ ?_;by_cases P:12<g.ZV.length
 .refine Β (by simp;omega) ?_;refine Χ ?_;rw[show M' g=6 from if_pos P];refine W.rt ?_;exact .of U
 refine Δ (by simp;omega) ?_;have Q:M' g=if Na g.ZV≠0 then Na g.ZV else if g.words.any (PC g.ZV) then 3 else 0:=if_neg P
 rw[Q];clear Q;refine Χ ?_;refine W.iter (λi:Nat=>i<=g.ZV.length/\∀j,j<i->Qs g.ZV j=0) (λi=>[(1,.Κ (Yo g)),(15,Qw g.ZV),(16,I g.ZV.length),(17,I i)]) (λ_=>[]) (λi=>g.ZV.length-i) 0 ⟨Γ _,λj s=>J⟩ U o (λi hi C=>?_);refine Χ ?_;refine W.YD U (λa=>?_) (λa=>?_)
 .have a:i<g.ZV.length:=by simpa using a
  have u:g.ZV[i]?=some g.ZV[i]:=ξ a
  have D:∀e:Int,Qs g.ZV i=e->e≠0->Na g.ZV=e:=λe ae L=>L1 a ae L hi.2
  have E:Qs g.ZV i=0->∀j,j<i+1->Qs g.ZV j=0:=λl j s=>by
   by_cases e:j=i
   .subst e;exact l
   exact hi.2 j J
  have F:=B.ZV.2 _ (YW a);obtain⟨b,v⟩:=ν (g.ZV[i]);have af:∀h:i<g.ZV.length,g.ZV[i]=b:=λ_=>v.symm;rw[<-v]at u F;clear v
  repeat apply Ζ
  refine ZB (A:=[4]) Τ λy k=>Wb (Ξ a af) ?_;apply k;refine W.Rp (σ0:=[]) (Γ _) o o [(4,.Κ [ZQ b.Ya,I b.lo,I b.hi]),(3,I i),(1,.Κ (Yo g)),(15,Qw g.ZV),(16,I g.ZV.length),(17,I i)] o ?_
  repeat apply Ζ
  by_cases M:(b.Ya.size:Int)=1
  case neg=>
   have r:=D 2 (by unfold Qs;rw[u];simp only;rw[if_pos (.inl (λh=>M (by rw[h];rfl)))]) θ;refine YC M λy k=>?_;apply k;refine Β U ?_;refine Χ ?_;rw[r,if_pos θ];refine W.rt ?_;exact .of U
  refine YC M λy k=>?_;refine Μ.d (CQ b.Ya F) (ς ?_);apply k;cases m:X0 b.Ya with
  | false=>
   have r:=D 2 (by unfold Qs;rw[u];simp only;rw[if_pos (.inr m)]) θ;refine Β U ?_;refine Χ ?_;rw[r,if_pos θ];refine W.rt ?_;exact .of U
  | true=>
   refine Δ U ?_
   repeat apply Ζ
   refine W.GA (A:=[]) Τ mixed [(33,ZU (decide (0<i/\UD b.Ya (((g.ZV[i-1]?).map (·.Ya)).getD ⟨#[]⟩)=true))),(4,.Κ [ZQ b.Ya,I b.lo,I b.hi]),(3,I i),(1,.Κ (Yo g)),(15,Qw g.ZV),(16,I g.ZV.length),(17,I i)] ?_ (by
    cases i with
    | zero=>simp;(repeat (rw[Y3];simp));(try rw[YL]);refine⟨UW XL,?_⟩;simp
    | succ n=>
     have R:n<g.ZV.length:=J
     have ag:=Yh (show n<2 ^ 62 by omega)
     have L:(0:Int)<(n:Int)+1:=J;simp;(repeat (rw[Y3];simp[L,R,ag]));(try rw[YL]);refine⟨UW XL,?_⟩;simp[R])
   by_cases H:0<i/\UD b.Ya (((g.ZV[i-1]?).map (·.Ya)).getD ⟨#[]⟩)=true
   .have r:=D 5 (by unfold Qs;rw[u];simp only;rw[if_neg (by rw[m];simp;omega),if_pos H]) θ;refine Β (by simp only[H];rfl) ?_;refine Χ ?_;rw[r,if_pos θ];refine W.rt ?_;exact .of U
   refine Δ (by simp only[H];rfl) ?_;have S:Qs g.ZV i=Uc b.lo b.hi 1 9:=by unfold Qs;rw[u];simp only;rw[if_neg (by rw[m];simp;omega),if_neg H]
   refine ο λy k=>?_;refine Μ.d (CO b.lo b.hi 1 9) (ς ?_);apply k;refine Χ ?_;by_cases l:Uc b.lo b.hi 1 9=0
   .refine Δ (by simp[l]) ?_;refine Χ ?_;refine W.to (C (i+1) ⟨a,E (by rw[S,l])⟩ J) U (by simp[YR a (show g.ZV.length<2 ^ 62 by omega)])
   have r:=D _ S l;refine Β (by simp[l]) ?_;refine Χ ?_;rw[r,if_pos l];refine W.rt ?_;exact .of U
 have a:g.ZV.length<=i:=by simpa using a
 rw[show Na g.ZV=0 from L0 (f:=Qs g.ZV) λj s=>hi.2 j J,if_neg o];clear C hi;refine W.exit U ?_;refine Χ ?_;refine W.iter (λi:Nat=>i<=g.words.length/\∀j,j<i->∀h:j<g.words.length,PC g.ZV g.words[j]=false) (λi=>[(1,.Κ (Yo g)),(56,Zb g.words),(57,I g.words.length),(58,I i)]) (λ_=>[]) (λi=>g.words.length-i) 0 ⟨Γ _,λj s=>J⟩ U o (λi hi C=>?_);have al:=B.words.1;refine Χ ?_;refine W.YD U (λa=>?_) (λa=>?_)
 .have a:i<g.words.length:=by simpa using a
  have F:=B.words.2 _ (YW a)
  have T:=ad _ (YW a)
  have V:PC g.ZV g.words[i]=true->g.words.any (PC g.ZV)=true:=λh=>Ti.2 ⟨_,YW a,h⟩
  have E:PC g.ZV g.words[i]=false->∀j,j<i+1->∀h:j<g.words.length,PC g.ZV g.words[j]=false:=λl j s h=>by
   by_cases e:j=i
   .subst e;exact l
   exact hi.2 j J h
  obtain⟨w,m⟩:=ν (g.words[i]);have ah:∀h:i<g.words.length,g.words[i]=w:=λ_=>m.symm;rw[<-m]at F T V E;clear m;refine γ (Ξ a ah) ?_;refine W.iter (λp:Nat=>p<=w.size/\∀q,q<p->UN g.ZV (w.get! q)=true) (λ_=>[(1,.Κ (Yo g)),(56,Zb g.words),(57,I g.words.length),(58,I i),(63,.it 0)]) (λp=>[.str w p]) (λp=>w.size-p) 0 ⟨Γ _,λq X=>J⟩ U o (λp Y ai=>?_);have Z:=(Kj.1 T).1 p;by_cases t:p<w.size
  .have hd:=IK (Z t)
   have v:=Z t;simp only[UO,U2,decide_eq_true_eq]at v;have aa:(w.get! p).toNat<128:=J;obtain⟨c,N⟩:=ν (w.get! p);rw[<-N]at hd aa;refine γ t ?_;refine Β U ?_;rw[hd]
   repeat apply Ζ
   refine ZB (A:=[9]) Τ λy k=>ς ?_;apply k;refine W.Rp (σ0:=[.str w (p+1)]) (Γ _) (by simp[YO]) o [(9,.Κ [.z (.int .i32 c.toNat)]),(1,.Κ (Yo g)),(56,Zb g.words),(57,I g.words.length),(58,I i),(63,.it 0)] (by simp[Eh]) ?_;have aj:=nq g.ZV (.fn (.func 93) [] [.Κ [.z (.int .i32 c.toNat)]]) (λb=>decide (b.Ya=Xs c)) J (by simp[Su]) (λx _=>λ_=>(nm x aa).cc (by simp;exact ZJ.refl _) o o ⟨U,U⟩);refine ο λy k=>?_;refine Μ.d (aj) (ς ?_);apply k;cases K:UN g.ZV c with
   | true=>
    have O:(g.ZV.any λb=>decide (b.Ya=Xs c))=true:=K;refine Δ (by simp[O]) ?_;refine Χ ?_;refine W.to (ai (p+1) ⟨t,λq X=>?_⟩ J) U o;by_cases e:q=p
    .subst e;rw[<-N];exact K
    exact Y.2 q J
   | false=>
    have O:(g.ZV.any λb=>decide (b.Ya=Xs c))=false:=K;refine Β (by simp[O]) ?_;refine Χ ?_;refine W.drop (h:=0) (Γ _) (Γ _) o U [(2,I 3)] o ?_;rw[if_pos (V (nj t (by rw[<-N];exact K)))];refine W.rt ?_;exact .of U
  have am:p=w.size:=J
  refine γ t ?_;refine Δ U ?_;refine W.exit U ?_;refine Χ ?_;refine W.drop (h:=0) (σ':=[]) (Γ _) (Γ _) o U [(1,.Κ (Yo g)),(56,Zb g.words),(57,I g.words.length),(58,I (i+1:Nat))] (by simp[YR a (show g.words.length<2 ^ 62 by omega)]) ?_;refine W.to (C (i+1) ⟨a,E (nk λq X=>Y.2 q J)⟩ J) U o
 have a:g.words.length<=i:=by simpa using a
 have e:g.words.any (PC g.ZV)=false:=by
  rw[H8];intro h;obtain⟨w,m,ab⟩:=Ti.1 h;obtain⟨j,s,rfl⟩:=Qg m;rw[hi.2 j J s]at ab;cases ab
 rw[e];refine W.exit U ?_;refine Χ ?_;refine W.rt ?_;exact .of U
def nh{l:ψ}(h:XK l=0):∀x∈l,x=0:=by
 induction l with
 | nil=>simp
 | cons e l c=>
  unfold XK at h;by_cases a:e=0
  .rw[if_pos a]at h;intro x b;rcases YU.1 b with rfl|b
   .exact a
   exact c h x b
  rw[if_neg a]at h;exact absurd h a
def Qr(s:Zm)(F:Wz):Int:=if s.err=0 then(if F=[] then 9 else 0) else s.err
def LB(g:ZN)(F:Wz):ψ:=[Qv g.Zf,PD g,M' g,Uc g.X' g.XX 0 9,Uc g.XH g.Vx 0 80,Qr g.Zz F]
def OQ(g:ZN)(F:Wz):Int:=XK (LB g F)
def ng(g:ZN)(a:g.small):Μ prog 39 [.Κ (Yo g)] (I (Qv g.Zf)):=by
 refine Ν.body Τ func39 U U ntmps39 U U o ?_;refine Χ ?_;refine ο λc b=>?_;refine Μ.d (n7 g.Zf a.Zf) (ς ?_);apply b;refine Χ ?_;refine W.rt ?_;exact .of U
def nf(g:ZN)(a:g.small):Μ prog 41 [.Κ (Yo g)] (I (PD g)):=by
 refine Ν.body Τ func41 U U ntmps41 U U o ?_;refine Χ ?_;refine ο λc b=>?_;refine Μ.d (ns g a) (ς ?_);apply b;refine Χ ?_;refine W.rt ?_;exact .of U
def nd{g:ZN}(h:PD g=0):∀w∈g.words,X0 w=true:=by
 unfold PD at h;split at h
 .rename_i c;exact absurd h c
 split at h
 .cases h
 intro w d;obtain⟨j,b,rfl⟩:=Qg d;cases e:X0 g.words[j] with
 | true=>rfl
 | false=>
  exfalso;have a:=nh h (PE g.words j) (ZG.2 ⟨j,by simpa using b,U⟩);unfold PE at a;rw[ξ b]at a;simp only[e,if_true]at a;cases a
def nb(g:ZN)(a:g.small)(h:PD g=0):Μ prog 43 [.Κ (Yo g)] (I (M' g)):=by
 refine Ν.body Τ func43 U U ntmps43 U U o ?_;refine Χ ?_;refine ο λc b=>?_;refine Μ.d (ni g a (nd h)) (ς ?_);apply b;refine Χ ?_;refine W.rt ?_;exact .of U
def na(g:ZN):Μ prog 45 [.Κ (Yo g)] (I (Uc g.X' g.XX 0 9)):=by
 refine Ν.body Τ func45 U U ntmps45 U U o ?_;refine Χ ?_;refine ο λb a=>?_;refine Μ.d (CO g.X' g.XX 0 9) (ς ?_);apply a;refine Χ ?_;refine W.rt ?_;exact .of U
def m'(g:ZN):Μ prog 47 [.Κ (Yo g)] (I (Uc g.XH g.Vx 0 80)):=by
 refine Ν.body Τ func47 U U ntmps47 U U o ?_;refine Χ ?_;refine ο λb a=>?_;refine Μ.d (CO g.XH g.Vx 0 80) (ς ?_);apply a;refine Χ ?_;refine W.rt ?_;exact .of U
def m9(g:ZN)(e:g.small)(F:Wz)(f:O8 g.Zz F)(h:F.length<2 ^ 20):Μ prog 48 [.Κ (Yo g)] (I (Qr g.Zz F)):=by
 refine Ν.body Τ func48 U U ntmps48 U U o ?_;refine Χ ?_;refine ο λj i=>?_;refine Μ.d (sb g.Zz e.Zz F f h) (ς ?_);apply i;by_cases a:g.Zz.err=0
 .rw[a];simp only[if_true];by_cases b:F=[]
  .subst b;refine Χ ?_;refine Β U ?_;refine Χ ?_;rw[show Qr g.Zz []=9 by simp[Qr,a]];refine W.rt ?_;exact .of U
  have k:(Uz F).length≠0:=by simpa[Uz] using b
  have c:¬Uz F=[]:=by simpa[Uz] using b
  refine γ c ?_;refine Δ (by simp[c]) ?_;refine Χ ?_;rw[show Qr g.Zz F=0 by simp[Qr,a,b]];refine W.rt ?_;exact .of U
 refine γ a ?_;refine Δ (by simp[a]) ?_;refine Χ ?_;rw[show Qr g.Zz F=g.Zz.err by simp[Qr,a]];refine W.rt ?_;exact .of U
def m8{l:ψ}{i:Nat}{e:Int}(h:l[i]?=some e)(a:e≠0)(b:∀j,j<i->∀x,l[j]?=some x->x=0):XK l=e:=by
 obtain⟨hi,rfl⟩:=ZT.1 h;exact Gr hi a λj c d=>b j c _ (ξ d)
def x0(g:ZN)(m:g.small)(F:Wz)(w:O8 g.Zz F)(y:F.length<2 ^ 20):Μ prog 13 [VX g] (I (OQ g F)):=by
 refine Ν.body Τ func13 U U ntmps13 U U o ?_;refine Χ ?_;obtain⟨a,n⟩:=ν ([.fn (.func 39) [] [.Κ (Yo g)],.fn (.func 41) [] [.Κ (Yo g)],.fn (.func 43) [] [.Κ (Yo g)],.fn (.func 45) [] [.Κ (Yo g)],.fn (.func 47) [] [.Κ (Yo g)],.fn (.func 48) [] [.Κ (Yo g)]]:μ);have A:a.length=6:=by rw[n];rfl
 have d:∀{k:FuncId}{e:Int},Μ prog k [.Κ (Yo g)] (I e)->WG prog (.fn (.func k) [] [.Κ (Yo g)]) [] (I e):=λh σ=>h.cc (ZJ.refl _) o o ⟨U,U⟩
 have B:∀(i:Nat)(f:Ψ),a[i]?=some f->(∀j,j<i->∀x:Int,(LB g F)[j]?=some x->x=0)->∃e,(LB g F)[i]?=some e/\f.cells=[f]/\WG prog f [] (I e):=λi f hi l=>by
  have p:i<6:=by rw[<-A];exact(ZT.1 hi).1
  rw[n]at hi;obtain rfl|rfl|rfl|rfl|rfl|rfl:i=0\/i=1\/i=2\/i=3\/i=4\/i=5:=J
  .cases hi;exact⟨_,U,U,d (ng g m)⟩
  .cases hi;exact⟨_,U,U,d (nf g m)⟩
  .cases hi;exact⟨_,U,U,d (nb g m (l 1 J (PD g) U))⟩
  .cases hi;exact⟨_,U,U,d (na g)⟩
  .cases hi;exact⟨_,U,U,d (m' g)⟩
  cases hi;exact⟨_,U,U,d (m9 g m F w y)⟩
 refine W.iter (λi:Nat=>i<=6/\∀j,j<i->∀x:Int,(LB g F)[j]?=some x->x=0) (λi=>[(12,.sl true 1 a),(13,I 6),(14,I i)]) (λ_=>[]) (λi=>6-i) 0 ⟨Γ _,λj r=>J⟩ U (by simp[n]) (λi hi C=>?_);refine Χ ?_;refine W.YD U (λb=>?_) (λb=>?_)
 .have b:i<6:=by have:(i:Int)<6:=(by simpa using b);omega
  have p:i<a.length:=J;obtain⟨f,s⟩:=ν (a[i]);have D:∀h:i<a.length,a[i]=f:=λ_=>s.symm;obtain⟨e,v,E,H⟩:=B i f (by rw[s];exact ξ p) hi.2;clear s
  repeat apply Ζ
  refine Yz λK t=>?_;simp[-Ψ.cells]
  repeat (rw[Ι];simp[-Ψ.cells,p,D,E])
  apply t;refine ο λK t=>?_;refine H.c ?_;simp;(repeat (rw[Ι];simp));apply t;refine Χ ?_;by_cases l:e=0
  .refine Δ (by simp[l]) ?_;refine Χ ?_;refine W.to (C (i+1) ⟨b,λj r x u=>?_⟩ J) U (by simp[YR b (show 6<2 ^ 62 by omega)]);by_cases L:j=i
   .subst L;rw[v]at u;cases u;exact l
   exact hi.2 j J x u
  refine Β (by simp[l]) ?_;refine Χ ?_;rw[show OQ g F=e from m8 v l hi.2];refine W.rt ?_;exact .of U
 have b:6<=i:=by have:¬(i:Int)<6:=(by simpa using b);omega
 refine W.exit U ?_;refine Χ ?_;rw[show OQ g F=0 from Gq λj r=>hi.2 j (by have:(LB g F).length=6:=rfl;omega) _ (ξ r)];refine W.rt ?_;exact .of U
abbrev UM(P:List (List ZM)):Ψ:=.sl false 1 (P.map (δ Ym 1))
abbrev Yl(g:ZN)(P:List (List ZM))(C:List (ψ)):μ:=[FE g.Zf,ZQ g.left,ZQ g.right,Zb g.words,Qw g.ZV,I g.X',I g.XX,I g.XH,I g.Vx,UA g.Zz.Z2,Yv g.Zz.ZE,Tz g.Zz.cells,ZU g.lower,UM P,Yv C]
abbrev Vj(g:ZN)(P:List (List ZM))(C:List (ψ)):Ψ:=.Z' (Yl g P C)
structure Wn(g:ZN)(f:ψ):Prop where
 Yf:f.length<=3
 has:∀n∈f,0<=n/\n<g.words.length
def Rc(g:ZN)(n:Int):ByteArray:=(g.words[n.toNat]?).getD ⟨#[]⟩
def XR(g:ZN)(f:ψ):List ByteArray:=f.map (Rc g)
def UL(g:ZN)(f:ψ):ByteArray:=W9 ⟨#[]⟩ (XR g f)
def Fy{g:ZN}{n:Int}(h:0<=n/\n<g.words.length):Rc g n∈g.words:=by
 unfold Rc;have a:n.toNat<g.words.length:=J;rw[ξ a];exact YW a
def CF(g:ZN)(P:List (List ZM))(C:List (ψ))(f:ψ)(k:Wn g f):Μ prog 55 [Vj g P C,δ I 1 f] (Zb (XR g f)):=by
 have M:=k.Yf;refine Ν.body Τ func55 U U ntmps55 U U o ?_;refine ο λl c=>?_;apply c;refine ο λl c=>?_;apply c;refine W.pad 9 1 (σ':=[]) U (λj r h=>⟨r,h,.inl U⟩) [(1,δ I 1 f),(2,.Κ (Yl g P C)),(5,.ms 0 0 0 0)] (λz m=>by
  simp at m;rcases m with rfl|rfl|rfl
  .exact .same _
  .exact .same _
  exact .nil) ?_
 refine Χ ?_;refine W.iter (λi:Nat=>i<=f.length) (λi=>[(2,.Κ (Yl g P C)),(5,.ms 0 i 0 i),(8,δ I 1 f),(9,I f.length),(10,I i)]) (λi=>[.cells 9 1 ((XR g (f.take i)).map ZQ)]) (λi=>f.length-i) 0 (Γ _) U o (λi hi w=>?_);refine Χ ?_;refine W.YD U (λb=>?_) (λb=>?_)
 .have b:i<f.length:=by simpa using b
  have s:=k.has _ (YW b);obtain⟨n,d⟩:=ν (f[i]);have y:∀h:i<f.length,f[i]=n:=λ_=>d.symm;have B:XR g (f.take (i+1))=XR g (f.take i)++[Rc g n]:=by
   unfold XR;rw[Ws b,WT,<-d];rfl
  rw[<-d]at s;have D:n.toNat<g.words.length:=J;have E:∀h:n.toNat<g.words.length,g.words[n.toNat]=Rc g n:=λh=>by unfold Rc;rw[ξ h];rfl
  have F:(XR g (f.take i)).length=i:=by unfold XR;simp;omega
  clear d;refine γ (Ξ b y) ?_;refine ZA ?_;refine ZB (A:=[22]) Τ λl c=>Wb (Ξ s (Ξ D (Ξ E F))) ?_;refine⟨J,?_⟩;apply c;refine Χ ?_;refine W.to (w (i+1) b J) (by rw[B];simp) (by simp[YR b (show f.length<2 ^ 62 by omega)])
 have b:f.length<=i:=by simpa using b
 have H:XR g (f.take i)=XR g f:=by rw[Wl b]
 have K:i=(XR g f).length:=by unfold XR;simp;omega
 rw[H];refine W.exit U ?_;refine Χ ?_;refine W.cut 0 (Z3 _) [(4,Zb (XR g f))] o (λid r N O=>J) (λp u=>by
  simp at u;subst u;exact Yx.own (id:=0) (t:=9) (Γ _) U (by simp;exact K.symm) (λe L a v=>by
   obtain⟨x,_,rfl⟩:=ZG.1 L;simp[Ψ.cells]at v;subst v;simp)) ?_
 refine W.rt ?_;exact .of U
def IG{g:ZN}(a:∀w∈g.words,X0 w=true){f:ψ}(b:Wn g f):∀x∈XR g f,0<x.size/\x.size<=6:=λx c=>by
 obtain⟨n,d,rfl⟩:=ZG.1 c;have:=(Kj.1 (a _ (Fy (b.has n d)))).2;omega
def CE(g:ZN)(P:List (List ZM))(C:List (ψ))(b:∀w∈g.words,X0 w=true)(f:ψ)(a:Wn g f):Μ prog 85 [Vj g P C,δ I 1 f] (ZQ (UL g f)):=by
 refine Ν.body Τ func85 U U ntmps85 U U o ?_;refine Χ ?_;refine ο λi e=>?_;refine Μ.d (CF g P C f a) (ς ?_);have h:=CL ⟨#[]⟩ θ (XR g f) (by unfold XR;simpa using a.Yf) (λx c=>⟨(IG b a x c).1,by have:=(IG b a x c).2;omega⟩);refine Μ.d (h) (ς ?_);apply e;refine Χ ?_;refine W.rt ?_;exact .of U
def Xm(l:ψ):Int:=l.foldl (· + ·) 0
def xZ(l:ψ)(h:l.length<2 ^ 20)(c:∀x∈l,0<=x/\x<2 ^ 20):Μ prog 88 [δ I 1 l] (I (Xm l)):=by
 have d:∀i,0<=Xm (l.take i)/\Xm (l.take i)<=(2 ^ 20)*i:=λi=>by
  induction i with
  | zero=>simp[Xm]
  | succ i b=>
   by_cases hi:i<l.length
   .rw[Ws hi];unfold Xm at b ⊢;rw[SI];have:=c _ (YW hi);simp only[List.foldl_cons,List.foldl_nil];omega
   rw[Wl J];rw[Wl J]at b;omega
 refine Ν.body Τ func88 U U ntmps88 U U o ?_;refine Χ ?_;refine W.iter (λi:Nat=>i<=l.length) (λi=>[(3,I (Xm (l.take i))),(6,δ I 1 l),(7,I l.length),(8,I i)]) (λi=>[]) (λi=>l.length-i) 0 (Γ _) U (by simp[Xm]) (λi hi b=>?_);refine Χ ?_;refine W.YD U (λa=>?_) (λa=>?_)
 .have a:i<l.length:=by simpa using a
  have j:=c _ (YW a)
  have k:=d i
  have f:Xm (l.take (i+1))=Xm (l.take i)+l[i]:=by
   rw[Ws a];unfold Xm;rw[SI];rfl
  have e:IntKind.i64.wrap (Xm (l.take i)+l[i])=Xm (l.take (i+1)):=by rw[f];exact IntWalk.i64_in _ J
  refine γ (Ξ a e) ?_;refine W.to (b (i+1) a J) U (by simp[e,YR a (show l.length<2 ^ 62 by omega)])
 have a:l.length<=i:=by simpa using a
 have g:l.take i=l:=Wl a;rw[g];refine W.exit U ?_;refine Χ ?_;refine W.rt ?_;exact .of U
end Go.TL
namespace Go.TL
open Go.Proofs.Tryz
open Go.Conc Go.Proofs
open Go.ConcN (sumTo upd sumTo_upd upd_ne upd_same sumTo_congr le_sumTo)
abbrev Qq(c n ca:Nat):Value:=.slice (some ⟨c,0,none⟩) n ca
abbrev NZ(g:ZN)(P:List (List ZM))(a n co:Nat):μ:=Yo g++[UM P,.z (Qq a n co)]
section
variable[Z8]
variable{n i Y9 ca:Nat}{g:ZN}{Zg:ψ}{ZL:Int}{u:Ψ}
def m7(hi:i<n)(a:Μ prog 77 [Wa g.Zz,I i,ZU g.lower] (.Z7 [δ I 1 Zg,I ZL])) :
  Yi prog (.fn (.func 76) [] [.Κ (Yo g),.Κ [I i],.Κ [.z (Qq Y9 n ca)]]) [] [XS Y9 (i*4) 0 1 u (.sl true 0 [])] (λr s=>r=.Z7 []/\s=[XS Y9 (i*4) 0 1 u (δ I 1 Zg)]) (λ_ _=>False):=by
 apply Ν.call (first:=[]) (args:=[]) (captured:=[.Κ (Yo g),.Κ [I i],.Κ [.z (Qq Y9 n ca)]]);simp[List.nil_append];apply Ν.body Τ func76 U U ntmps76 U U o
 repeat apply Ζ
 refine W.draw (A:=[]) Τ mixed λc b=>Rt ?_;refine Wf (Μ.q (a)) (Rt ?_);refine⟨hi,?_⟩;refine X5 (b _ _ ?_);exact W.nil ⟨_,U,U,U⟩
end
def PB(a:Nat->ψ)(L:Z6)(i:Nat):Ψ:=if i∈L then δ I 1 (a i) else .sl true 0 []
abbrev OP(n:Nat)(a:Nat->ψ)(L:Z6):Row:=.cells 22 1 ((List.range n).map (PB a L))
def LA(a:Nat)(b:ζ)(c d e n:Nat)(f:Nat->ψ)(L:Z6)(E:Φ):Prop:=
 Tt a b E/\∃S B,Holds S B [OP n f L] E/\B[0]?=some (some (c,d))/\∀g,S e g=none
def m6{n i a L}:((List.range n).map (PB a L)).set i (δ I 1 (a i))=(List.range n).map (PB a (L++[i])):=by
 refine T6 λj=>?_;by_cases e:i=j
 .subst e;by_cases b:i<n
  .rw[Xz (by simpa using b)];simp[b,PB]
  rw[Wk (by simp;omega),Wk (by simp;omega)]
 rw[XJ e];by_cases c:j<n
 .have d:¬j=i:=λh=>e h.symm;simp[c,PB,d]
 rw[Wk (by simp;omega),Wk (by simp;omega)]
abbrev IF(s m a b n ca co:Nat)(g:ZN)(P:List (List ZM))(i:Nat):μ:=[.z (ptr s 0),.Κ [.z (Qq a n ca)],.Κ [I i],.Κ (Yo g),.z (ptr m 0),.Κ (NZ g P b n co)]
abbrev CD(s i:Nat)(sp:Spec):Nat->Option (Tok×Spec):=λa=>if a=s then some (.ch i .idle .work,sp) else none
noncomputable abbrev m5(vs:ZP)(ds:List Deferred):Frame:={Frame.enter prog 73 vs .deferred with defers:=ds}
noncomputable def CC:Code:=f73.body.getD .skip
section
variable{β s m Y9 Xl n ca co Uu i:Nat}{Y2:ζ}{sp:Spec}{g:ZN}{P:List (List ZM)}{VW:Nat->ψ}{u:Ψ}{y:Z0}{Q:Value->Prop}
def m4[Z8]{S B σ}{env:κ}{t j a a'}(h:Y' S B σ ((j,a)::env) t)(b:∀v,Θ S B σ a v->Θ S B σ a' v):Y' S B σ ((j,a')::env) t:=λi=>by
 have:=h i;simp[ε]at this ⊢;split
 .rename_i e;rw[if_pos e]at this;exact b _ this
 rename_i e;rw[if_neg e]at this;exact this
def m3(a:I4 y s sp)(e:sp.D i Φ.empty){c H v d1}(b:O9 prog d1 74 #[ptr s 0])
  (d:c.mode=.returning) (f:c.defers=[d1]) (g:c.kind=.deferred) (h:c.fn=73):Zx prog Q false (ZW y s (.ch i .done .work) v 0) c [under prog] H:=by
 letI:Z8:=Yg;have j:Seq (one (ZW y s (.ch i .done .work) v 0)):=Seq.PV trivial a.rel a.Z9;refine η.deferred j (by rw[d];simp) f b.t1 b.t2 b.run (λy k=>?_) _ U;cases k;refine zn a e d ?_;exact zh (by rw[h];exact func73) U U d g
def m2(aj:sp.Yd=LA β Y2 Xl Uu Y9 n VW)(ay:sp.D i Φ.empty)(bf:n<=co)(bg:co<=Uu)(hi:i<n)(az:β<Y9){L}(aA:i∉L)(ak:Vk y s m sp)(aB:I4 y s sp){K f A E}
  (T:Holds K f [XS Y9 (i*4) 1 0 u (δ I 1 (VW i))] A) (aC:ω 0 u) (al:sp.Yd L E) (aD:Apart A E) (aE:∃w,Fits A w/\Fits E w) (aF:Tt β Y2 A) (aG:∃q x,A.Α β q=some x)
  {t} (aH:Y' K f [XS Y9 (i*4) 1 0 u (δ I 1 (VW i))] [(5,.Κ (NZ g P Xl n co)),(1,.Κ [.z (Qq Y9 n ca)]),(2,.Κ [I i]),(4,.z (ptr m 0))] t) (aI:t.size=22) {vs d1} (aJ:O9 prog d1 74 #[ptr s 0]) {ops} :
  Zx prog Q false (ZW y s (.ch i (.YG L) .work) none 0) (χ (m5 vs [d1]) t [.inRegion ops [],.code (YN [1,1,1] CC)]) [under prog] (join A E):=by
 letI:Z8:=Yg;have M:Seq (one (ZW y s (.ch i (.YG L) .work) none 0)):=ak.seq _ _ _;rw[aj]at al;let ⟨am,aa,C,ab,aK,aL⟩:=al;have an:∀L,∀r∈[OP n VW L],Ts r:=λL r d=>by
  obtain rfl:r=OP n VW L:=by simpa using d
  exact⟨_,_,_,U⟩
 let ⟨bo,ad⟩:=TH T (id:=0) U;obtain⟨aM,_,_,rfl,_⟩:=T.row 0 _ bo U ad;let ⟨aN,l2,aO⟩:=yn T ab aD aE (an L) (λr d=>by
  obtain rfl:r=XS Y9 (i*4) 1 0 u (δ I 1 (VW i)):=by simpa using d
  refine⟨.inr ⟨_,_,_,U,o⟩,?_⟩;simp only[YO,YU,XW,or_false];rintro a (rfl|rfl|rfl|rfl)
  .exact .z _
  .exact .z _
  .exact aC
  .simp) (λid r b N d X ae=>by
  match id,d,X with
  | 0,d,X=>rw[ad]at X;cases X;exact aL ae
  | id+1,d,_=>simp at d)
 have aP:∀b,C.has b->β<b:=λb=>am.blocks ab (an L)
 have aQ:∃q x,(join A E).Α β q=some x:=let ⟨q,x,h⟩:=aG;⟨q,x,join_some h⟩
 have aR:f=[some (Y9,aM)]:=by
  have aS:=T.len
  match f,aS,ad with
  | [z],_,h=>simp at h;rw[h]
 have ao:(C++f)[0]?=some (some (Xl,Uu)):=by
  rw[YT (by rw[ab.len];exact OF)];exact aK
 have ap:∀b,ZZ.has (C++f) b->β<b:=λb ⟨N,h⟩=>by
  rcases VS.1 h with h|h
  .exact aP b ⟨N,h⟩
  rw[aR]at h;simp at h;rw[h.1];exact az
 have aT:∀k,ω 0 (ε [(5,Ψ.Κ (NZ g P Xl n co)),(1,.Κ [.z (Qq Y9 n ca)]),(2,.Κ [I i]),(4,.z (ptr m 0))] k):=λk=>by
  simp only[ε]
  repeat' split
  all_goals first|exact .Zl|simp
 have aU:Y' (K.plus aa) (C++f) ([OP n VW L]++[XS Y9 (i*4) 1 0 u (δ I 1 (VW i))]) [(5,.Κ (NZ g P Xl n co)),(1,.Κ [.z (Qq Y9 n ca)]),(2,.Κ [I i]),(4,.z (ptr m 0))] t:=
  λk=>((aH k).any (aT k) _ _).later ⟨aO,λid r h=>⟨r,h,r.Sv _⟩⟩
 have aV:=m4 aU (λv hv=>yl (j:=14) (a':=.ms 0 n 0 n) hv λa bh h d=>by
  cases h;cases d;exact .ms co U o ao J J (.inr ⟨Xl,Uu,U,o,J⟩))
 have aW:∀(O)(F)(H)(c)(d2),Xi 2 (K.plus aa) (C++f) (join A E) [OP n VW L,XS Y9 (i*4) 1 0 u (δ I 1 (VW i))] O F H [OP n VW (L++[i]),XS Y9 (i*4) 1 0 u (δ I 1 (VW i))]->
   Holds O F [OP n VW (L++[i]),XS Y9 (i*4) 1 0 u (δ I 1 (VW i))] H->O9 prog d2 79 #[ptr m 0]->c.mode=.returning->c.defers=[d2,d1]->c.kind=.deferred->c.fn=73->
   Zx prog Q false (ZW y s (.ch i (.YG L) .work) none 0) c [under prog] H:=λO F H c d2 af aq R ag Υ aX aY=>by
  refine η.deferred M (by rw[ag];simp) Υ R.t1 R.t2 R.run (λar aZ=>?_) _ U;cases aZ;refine zy (c:={c with defers:=[d1]}) ak aq ag λbi a0 au a1=>⟨Φ.empty,a0,⟨Sub.empty _,Sub.refl _,(Apart.Po _).symm⟩,?_,λbj bk bl _=>m3 aB ay aJ ag U aX aY⟩;rw[aj];let ⟨Y,bm,bn⟩:=aq.back au a1;let ⟨a2,bp⟩:=Y.close (h:=1) (λid r a3 d=>by
   match id,a3,d with
   | 0,_,d=>
    cases d;intro e a4 a Z;obtain⟨j,_,rfl⟩:=ZG.1 a4;unfold PB at Z;split at Z<;>simp[Ψ.cells]at Z<;>subst Z<;>simp)
  let ⟨q,x,av⟩:=aQ
  have ah:=FW af.ext (λh=>Nat.lt_irrefl _ (ap β h)) ⟨q,x,av⟩
  let ⟨bq,br,ah⟩:=ah;refine⟨((aF.join am).ext af.ext ap av).ext au (λb ⟨N,h⟩=>by simp at h) ah,_,_,a2,?_,λae=>?_⟩
  .let ⟨r',ai,p⟩:=af.later.rows 0 (OP n VW L) U;cases ai;have aw:F[0]?=((C++f).take 2)[0]?:=by
    rcases p with⟨a5,bs,bt,a6⟩|p
    .exact a6
    have:=p n o;simp[Row.W3]at this
   rw[UK θ,aw,UK θ];exact ao
  unfold ζ.close;rw[if_neg]
  .let ⟨a7,ax⟩:=TH Y (id:=1) U;obtain⟨a8,_,_,rfl,_⟩:=Y.row 1 _ a7 U ax;exact Y.sep 1 _ Y9 a8 U trivial ax ae
  rintro⟨id,t',bu,a5,bv,ai,p,aw⟩
  match id,ai,p with
  | 1,_,p=>cases p
  | id+2,_,p=>simp at p
 refine V.here (x:=one _) (m:=2) (nt:=22) (S:=K.plus aa) (B:=C++f) (σ:=[OP n VW L,XS Y9 (i*4) 1 0 u (δ I 1 (VW i))]) (env:=[(5,.Κ (Yo g++[UM P,.ms 0 n 0 n])),(1,.Κ [.z (Qq Y9 n ca)]),(2,.Κ [I i]),(4,.z (ptr m 0))]) ?_ ⟨aN,aV,aI,o⟩ _ U;apply V.Ys M U;apply W.ZK;simp only[CC,f73,Option.getD_some,YN]
 repeat apply Ζ
 refine W.Zs (.stop ?_);refine V.defer M U U U U U U U ⟨_,func79,U,U⟩ λbw bx bz t3 d2 bA a9 ba bb R=>?_;obtain rfl:=V8 (l:=[ptr m 0]) bb;rintro ar rfl;refine V.here (x:=one _) (m:=2) (nt:=22) ?_ ba _ U;apply V.Ys M U;apply W.ZK;have bc:PB VW L i=.sl true 0 []:=by unfold PB;rw[if_neg aA]
 refine VB (Ξ hi bc) ?_;rw[m6];apply W.stop;intro O F H t6 bd be;apply η.QR M U U;rintro ar rfl;exact aW O F H _ d2 (a9.trans bd) be.holds R U U U U
end
def Fx(j:Nat)(v:Value):Prop:=match j with|0=>v=.int .u32 0|1=>v=.int .i32 0|2=>v=.int .u32 0|_=>∃base,v=.slice base 0 0
section
variable{β s m Y9 Xl n ca co Uu i M:Nat}{t:TypeId}{f:Nat->Option (Value×Bool)}{S Y2:ζ}{sp:Spec}{g:ZN}{P:List (List ZM)}{VW:Nat->ψ}{ZL:Int}{vs:ZP}
def m1(ae:sp.ZR=some m)(J:sp.top<7)(af:sp.Yd=LA β Y2 Xl Uu Y9 n VW)(ag:sp.D i Φ.empty)(ah:n<=co)(ai:co<=Uu)(hi:i<n)(aj:@Μ Ye prog 77 [Wa g.Zz,I i,ZU g.lower] (.Z7 [δ I 1 (VW i),I ZL]))
  (ak:∃q v,S β q=some v) (al:∀b q v,S b q=some v->Y2 b q≠none\/β<b) (am:∀K,S Y9 K=none) (B:β<Y9) (O:∀j,j<4->∃v,f (i*4+j)=some (v,true)/\Fx j v) (R:XF S [] [] (IF s m Y9 Xl n ca co g P i) vs) {Q} :
  Goes prog Q false (born prog ⟨.fn (.func 73) vs,#[]⟩) {ZW (Ud s sp) s (.ch i .idle .work) none 0 with G:=Sj S Y9 (t,M) f}:=by
 letI:Z8:=Ye;apply Quiet.goes (.cons ⟨U,U⟩ (λw=>zi ⟨_,func73,U,U⟩ w) (.nil _)) (.inl U) ⟨U,U⟩;have an:Calm (CD s i sp) (ZW (Ud s sp) s (.ch i .idle .work) none 0):=⟨U,U,U,λr=>by
  by_cases e:r=s
  .subst e;refine .inr ⟨sp,by rw[Zn];simp,Dg,by rw[Zn];trivial,by rw[Zn];exact id⟩
  exact .inl ⟨by simp[e],by rw[Nm e];trivial⟩⟩
 suffices h:η prog Q false (calm (CD s i sp)) (Frame.enter prog 73 vs .deferred) [under prog] (Sj S Y9 (t,M) f) from h _ an
 have C:Seq (calm (CD s i sp)):=⟨⟨_,U⟩,λy k=>k.rel,λy k=>k.Z9⟩
 have T:Holds S [some (Y9,4)] [XS Y9 (i*4) 0 0 (.z (.int .u32 0)) (.sl true 0 [])] (Sj S Y9 (t,M) f):=by
  obtain⟨w,A⟩:∃w,∀j,j<4->f (i*4+j)=some (w j,true)/\Fx j (w j):=⟨λj=>if h:j<4 then(O j h).choose else undef,λj c=>by simp only[c,dif_pos];exact(O j c).choose_spec⟩;refine oa (w:=w) am (λj a c=>?_) 4
  match j,c with
  | 0,c=>cases c;let ⟨d,p⟩:=A 0 θ;have u:=p;rw[u]at d ⊢;exact⟨d,.z _,trivial,.z _⟩
  | 1,c=>cases c;let ⟨d,p⟩:=A 1 θ;have u:=p;rw[u]at d ⊢;exact⟨d,.z _,trivial,.z _⟩
  | 2,c=>cases c;let ⟨d,p⟩:=A 2 θ;have u:=p;rw[u]at d ⊢;exact⟨d,.z _,trivial,.z _⟩
  | 3,c=>cases c;let ⟨d,base,u⟩:=A 3 θ;rw[u]at d ⊢;exact⟨d,.WI _ _ (λ_=>rfl),trivial,o⟩
  | j+4,c=>simp at c
 have ao:∀a∈IF s m Y9 Xl n ca co g P i,ω 0 a:=o
 have ap:XF S [some (Y9,4)] [XS Y9 (i*4) 0 0 (.z (.int .u32 0)) (.sl true 0 [])] (IF s m Y9 Xl n ca co g P i) vs:=⟨R.1,λj a v d p=>(R.2 j a v d p).any (ao a (ZD d)) _ _⟩;rw[Ty func73 U];refine V.here ?_ (XG.enter T ap (Z3 _) o);apply V.Ys C U;simp only[CC,f73,Option.getD_some]
 repeat apply Ζ
 refine W.Zs (.stop ?_);refine V.defer C U U U U U U U ⟨_,func74,U,U⟩ λaO aP aQ t3 d1 aR X aq ar au=>?_;obtain rfl:=V8 (l:=[ptr s 0]) ar;have aS:=X.all T (Z3 _);refine V.here (m:=1) (nt:=22) ?_ aq;apply V.Ys C U;apply W.ZK;refine ο λaT av=>?_;refine⟨hi,?_⟩;apply Ν.LD (oc (m7 hi aj));simp;(repeat (rw[Ι];simp));apply av
 repeat apply Ζ
 refine W.Zs (.stop ?_);refine V.call C ⟨U,U,by simp[Frame.enter],U⟩ U U U ⟨_,func78,U,U⟩ λaU aV aW t4 aX aw F ax=>?_;obtain rfl:=V8 (l:=[ptr m 0]) ax;intro y k;obtain⟨ay,Y⟩:y.tok s=.ch i .idle .work/\y.spec s=some sp:=by
  rcases k.own s with⟨h,_⟩|⟨az,h,p,_⟩
  .simp at h
  simp at h;rw[<-h.2]at p;exact⟨h.1.symm,p⟩
 have aA:∀r,r≠s->Xp (y.tok r):=λr H=>by
  rcases k.own r with⟨_,h⟩|⟨az,h,_⟩
  .exact h
  simp[H]at h
 have Z:Vk y s m sp:=⟨k.rel,k.Z9,Y,ae,J,λr _=>k.still r⟩
 have aB:I4 y s sp:=⟨k.rel,k.Z9,Y,J,aA⟩
 have aC:ZW y s (.ch i .idle .work) (y.view s) 0=y:=by
  rw[<-ay,<-k.deaf];exact rl
 rw[<-aC];refine zG Z F.holds λaY aZ L E aD aE aF aG ⟨a0,aH,A⟩=>?_;rw[VQ U];let ⟨aI,aJ,aK⟩:=F.holds.back aD aE;have aa:=X.ext.trans (aw.ext.trans aJ);have H:∀b,ZZ.has [some (Y9,4)] b->β<b:=λb ⟨N,h⟩=>by simp at h;rw[h.1];exact B
 let ⟨ab,aL,aM⟩:=ak
 have ad:(Sj S Y9 (t,M) f).Α β ab=some (aL,false):=by rw[FF (Nat.ne_of_lt B)];exact I3 aM
 have aN:Tt β Y2 (Sj S Y9 (t,M) f):=(zk al).join ⟨λb K x h=>by
  by_cases e:b=Y9
  .exact .inr (e▸B)
  .simp[U8,e]at h,λb x h=>by
  by_cases e:b=Y9
  .exact e▸B
  simp[U8,e]at h,λb x h=>by cases h⟩
 refine m2 (g:=g) (P:=P) (ca:=ca) af ag ah ai hi B aH Z aB aI (.z _) aF aG A (aN.ext aa H ad) (FW aa (λh=>Nat.lt_irrefl _ (H β h)) ⟨ab,_,ad⟩) ?_ ?_ au
 .exact Y'.later (Rk (F.put (a:=.z (.tuple #[])) U (.z _)).Zt (by simp[Zr])) aK
 exact(F.put (a:=.z (.tuple #[])) U (.z _)).size
end
end Go.TL
namespace Go.TL
open Go.Proofs.Tryz
open Go.Conc Go.Proofs
open Go.ConcN (sumTo upd sumTo_upd upd_ne upd_same sumTo_congr le_sumTo)
variable[Z8]
def Φ.less(H:Φ)(c:Nat)(p:Nat->Bool):Φ:={H with Α:=λb a=>if b=c/\p a=true then none else H.Α b a}
def Qp(H:Φ)(c:Nat)(p:Nat->Bool)(a:Nat):Option (Value×Bool):=if p a=true then H.Α c a else none
section
variable{S YE Uv Y2:ζ}{B B':ZZ}{σ σ':Ρ}{H H' WV:Φ}{c:Nat}{p:Nat->Bool}
def IE{b a:Nat}(d:b≠c):(H.less c p).Α b a=H.Α b a:=by simp[Φ.less,d]
def m0{a:Nat}:(H.less c p).Α c a=if p a=true then none else H.Α c a:=by simp[Φ.less]
def Kf{b a:Nat}{x:Value×Bool}(h:(H.less c p).Α b a=some x):H.Α b a=some x/\¬(b=c/\p a=true):=by
 unfold Φ.less at h;simp only at h;split at h
 .cases h
 rename_i d;exact⟨h,d⟩
def Holds.keep(a:Holds S B σ H)(g:∀r∈σ,Ts r)(h:∀b d v,S b d=some v->∃q,H'.Α b d=some (v,q))(i:∀(id:Nat)(r:Row)(b N:Nat),σ[id]?=some r->B[id]?=some (some (b,N))->UY H H' b):Holds S B σ H':=
 ⟨h,a.len,λid r bo c f=>(a.row id r bo c f).later (ZC.refl S B σ) (λb N e=>i id r b N c (by rw[f,e])) (λm left j e=>by
  subst e;obtain⟨t,k,l,e⟩:=g _ (ZD c);cases e),a.inj,a.sep⟩
def Holds.less(f:Holds S B σ H)(g:∀r∈σ,Ts r)(i:∀a,S c a=none)(j:∀N,some (c,N)∉B):Holds S B σ (H.less c p):=
 f.keep g (λb a v h=>by
  have d:b≠c:=λe=>by subst e;rw[i a]at h;cases h
  rw[IE d];exact f.Za b a v h) λid r b N _ d=>by
  have k:b≠c:=λe=>by subst e;exact j N (ZD d)
  exact⟨λa=>IE k,U,U⟩
def mZ(a:Holds S B σ H)(c:∀r∈σ,Ts r):Holds S B σ (R2 S H):=
 a.keep c (λb d v h=>⟨false,Ni h⟩) λid r b N f g=>by
  obtain⟨t,k,l,e⟩:=c _ (ZD f);exact⟨λd=>Nh (a.sep id r b N f (by rw[e];trivial) g d),U,U⟩
def mY(a:Holds S B σ H):Ext S B H S B (R2 S H):=by
 have h:=zm a.bare;exact⟨h.Za,λb _ c=>h.XU b (λ⟨N,x⟩=>by simp at x) c,λb h=>.inl h,λb d v h=>.inl h,h.grow⟩
def Ext.less(h:Ext Uv [] WV S B H)(r:WV.fresh c):Ext Uv [] WV S B (H.less c p):=by
 have s:∀b,¬ZZ.has ([]:ZZ) b:=λb ⟨N,x⟩=>by simp at x
 have o:∀b,¬WV.fresh b->b≠c:=λb d e=>d (e▸r);refine⟨h.Za,λb d f=>?_,h.blocks,h.S6,λb d=>?_⟩
 .obtain⟨k,l,m⟩:=h.XU b d f;exact⟨λg=>by rw[IE (o b f)];exact k g,l,m⟩
 apply Tn;intro t;have i:∀a,b<=a->(∀g,WV.Α a g=none)/\WV.row a=none/\WV.obj a=none:=λa u=>by
  by_cases f:WV.fresh a
  .exact⟨f.1,f.2.1,f.2.2.1⟩
  obtain⟨k,l,m⟩:=h.XU a (s a) f;have n:(∀g,(H.less c p).Α a g=none)/\H.row a=none/\H.obj a=none:=by
   rcases Nat.lt_or_eq_of_le u with w|he
   .exact d.2.2.2 a w
   subst he;exact⟨d.1,d.2.1,d.2.2.1⟩
  refine⟨λg=>?_,by rw[<-l];exact n.2.1,by rw[<-m];exact n.2.2⟩;have j:=n.1 g;rw[IE (o a f)]at j;rcases k g with e|⟨v,q,_,_,e⟩
  .rw[<-e];exact j
  rw[e]at j;cases j
 exact t ⟨(i b (Z3 _)).1,(i b (Z3 _)).2.1,(i b (Z3 _)).2.2,λa y=>i a (RO y)⟩
def mX{g:TypeId×Nat}(i:H.row c=some g):Split H (H.less c p) (U8 c g (Qp H c p)):=by
 refine⟨⟨λb a v q h=>⟨q,(Kf h).1,id⟩,λb x h=>h,λb x h=>h⟩,⟨λb a v q h=>⟨q,?_,id⟩,λb x h=>?_,λb x h=>by cases h⟩,⟨λb a ⟨v,h⟩ ⟨x,k⟩=>?_,λb a ⟨v,h⟩ ⟨x,k⟩=>?_,λb _ ⟨x,h⟩=>by cases h⟩⟩
 .by_cases e:b=c
  .subst e;simp only[U8,if_true,Qp]at h;split at h
   .exact h
   cases h
  simp[U8,e]at h
 .by_cases e:b=c
  .subst e;simp only[U8,if_true]at h;rw[i];exact h
  simp[U8,e]at h
 .obtain⟨_,d⟩:=Kf h;by_cases e:b=c
  .subst e;simp only[U8,if_true,Qp]at k;split at k
   .rename_i f;exact d ⟨U,f⟩
   cases k
  simp[U8,e]at k
 obtain⟨_,d⟩:=Kf k;by_cases e:b=c
 .subst e;simp only[U8,if_true,Qp]at h;split at h
  .rename_i f;exact d ⟨U,f⟩
  cases h
 simp[U8,e]at h
def mW{a:TypeId×Nat}(o:Holds S B σ H)(r:H.row c=some a)(g:∀d,S c d=none):Split H (R2 S (H.less c p)) (Sj S c a (Qp H c p)):=by
 have n:=o.Za;refine⟨⟨λb d v q h=>?_,λb x h=>h,λb x h=>h⟩,⟨λb d v q h=>?_,λb x h=>?_,λb x h=>?_⟩,⟨λb d ⟨v,h⟩ ⟨x,k⟩=>?_,λb d ⟨v,h⟩ ⟨x,k⟩=>?_,λb _ ⟨x,h⟩=>?_⟩⟩
 .cases l:S b d with
  | some u=>
   rw[Ni l]at h;cases h;obtain⟨m,f⟩:=n b d _ l;exact⟨m,f,λe=>by cases e⟩
  | none=>rw[Nh l]at h;exact⟨q,(Kf h).1,id⟩
 .by_cases e:b=c
  .subst e;rw[FG (M:=a.2) (t:=a.1) g]at h;unfold Qp at h;split at h
   .exact⟨q,h,id⟩
   cases h
  rw[FF (M:=a.2) (t:=a.1) e]at h;obtain⟨u,i,j⟩:=LP h;cases j;obtain⟨m,f⟩:=n b d _ i;exact⟨m,f,λe=>by cases e⟩
 .rw[ym (t:=a.1) (M:=a.2)]at h;split at h
  .rename_i e;subst e;cases h;exact r
  cases h
 .simp[Sj,join,Ue,U8]at h
 .by_cases e:b=c
  .subst e;rw[FG (M:=a.2) (t:=a.1) g]at k;rw[Nh (g d)]at h;unfold Qp at k;split at k
   .rename_i f;exact(Kf h).2 ⟨U,f⟩
   cases k
  rw[FF (M:=a.2) (t:=a.1) e]at k;obtain⟨u,i,j⟩:=LP k;rw[Ni i]at h;cases h
 .by_cases e:b=c
  .subst e;rw[FG (M:=a.2) (t:=a.1) g]at h;rw[Nh (g d)]at k;unfold Qp at h;split at h
   .rename_i f;exact(Kf k).2 ⟨U,f⟩
   cases h
  rw[FF (M:=a.2) (t:=a.1) e]at h;obtain⟨u,i,j⟩:=LP h;cases j
 simp[Sj,join,Ue,U8]at h
end
section
variable{P:Program}{Q:Value->Prop}{mn:Bool}{y:Z0}{f b:Frame}{cs:YM}{H:Φ}{t:ZP}{k:Zk}{ops:Y5}{i:Nat}{rest:Z6}{op:Oper}
def Zx.xY{sp:Spec}{s m:Nat}{c d:TypeId}{G' E:Φ}(g:y.rel=false)(n:y.Z9=λ_=>none)(o:m<s)(i:sp.ZR=some m)(p:Split H G' E)(r:sp.Yd [] E)
  (h:y.tok s=.nil->Zx P Q mn {y with tok:=upd y.tok s (.par 0 0 .add),spec:=upd y.spec s (some sp),view:=upd y.view s none} f cs G') :
  Zx P Q mn {y with Z9:=upd (upd y.Z9 m (some (#[.int .i32 0,.int .u32 0],d))) s (some (#[.int .u64 0,.int .u32 0],c))} f cs H:=by
 have j:m≠s:=Nat.ne_of_lt o;refine Goes.step (XY.ok (.inl g)) (.inr ⟨⟨U,U⟩,.inr (.inr (.inr (.inr (.inr (.inr (.inr (.inr (.inr (.inr (.inr ⟨s,sp,c,G',E,?_,λv k=>?_,g,p,λ_=>r,λt=>?_⟩))))))))))⟩)
 .show upd _ s _ s=_;rw[upd_same]
 .rw[i]at k;cases k;refine⟨j,d,?_⟩;show upd (upd y.Z9 m _) s _ m=_;rw[upd_ne _ _ j,upd_same]
 have e:(λa=>if a=s\/sp.ZR=some a then none else upd (upd y.Z9 m (some (#[.int .i32 0,.int .u32 0],d))) s (some (#[.int .u64 0,.int .u32 0],c)) a)=y.Z9:=by
  funext a
  rw[n];by_cases b:a=s\/sp.ZR=some a
  .rw[if_pos b]
  rw[if_neg b];rw[i]at b;have Υ:a≠s:=λe=>b (.inl e);have u:a≠m:=λe=>b (.inr (by rw[e]));rw[upd_ne _ _ Υ,upd_ne _ _ u]
 have l:Goes P Q mn (Go.Conc.G f cs) {y with G:=G',Z9:=y.Z9,tok:=upd y.tok s (.par 0 0 .add),spec:=upd y.spec s (some sp),view:=upd y.view s none}:=h t;rw[<-e]at l;exact l
def Zx.mV{s n p:Nat}{sp:Spec}{g:FuncId}{d:ZP}{h f:Φ}(l:y.rel=false)(m:y.deaf=0)(o:y.spec s=some sp)(r:y.tok s=.par n (p+1) .add)(c:SV b ops i op)(u:op.guard=none){j:Operand}{v:Array TypeId}(x:op.op=.go ⟨.value j,#[],v⟩)(A:op.dst=none)
  (hv:ZX t j=.func (.func g) #[] d) (B:Split H h f) (C:Zx P Q mn {y with tok:=upd y.tok s (.par n p .add),view:=upd y.view s none} (χ b t (.inRegion ops rest::k)) cs h)
  (D:Goes P Q false (born P ⟨.fn (.func g) d,#[]⟩) {ZW (Ud s sp) s (.ch (n-(p+1)) .idle .work) none 0 with G:=f}):Zx P Q mn y (χ b t (.inRegion ops (i::rest)::k)) cs H:=by
 have E:Region.wanted op (yielded ops t)=true:=by unfold Region.wanted;rw[u]
 have F:∀w,stepG P mn (Go.Conc.G (χ b t (.inRegion ops (i::rest)::k)) cs) w=.spawn (Go.Conc.G (χ b t (.inRegion ops rest::k)) cs) (born P ⟨.fn (.func g) d,#[]⟩) w #[]:=λw=>by
  have e:execOp (ZX t) op=(do pure (.spawn (<-Deferred.ofValue (ZX t j) (#[].map (ZX t))))):=by unfold execOp;rw[x];rfl
  rw[Xa c.run c.ro,Xa c.run c.ro];have I:(execOp (⟨t,b.defers⟩:_root_.Go.Act).eval op).run P w=.ok (.spawn ⟨.fn (.func g) d,#[]⟩) w:=by rw[Uy,e,hv];simp[Deferred.ofValue,Result.andThen]
  have J:(execOp (⟨t,b.defers⟩:_root_.Go.Act).eval op).events P w #[]=#[]:=by rw[Uy,e,hv];simp[Deferred.ofValue,Result.andThen,Result.evThen]
  rw[stepG_spawn (a:=⟨t,b.defers⟩) c.op E c.kd I U];have:(⟨t,b.defers⟩:_root_.Go.Act).put op.dst undef=⟨t,b.defers⟩:=by rw[A];rfl
  rw[this];unfold listed;rw[J,seen_none]
 refine Goes.step (XY.ok (.inl l)) (.inr ⟨⟨U,U⟩,.inr (.inr (.inr (.inr (.inr (.inr (.inr (.inr (.inl ⟨s,sp,n,p,Go.Conc.G (χ b t (.inRegion ops rest::k)) cs,born P ⟨.fn (.func g) d,#[]⟩,h,f,o,r,m,⟨U,U⟩,⟨U,U⟩,l,λw _=>F w,B,C,?_⟩))))))))⟩);have e:({ZW (Ud s sp) s (.ch (n-(p+1)) .idle .work) none 0 with G:=f}:Z0)=⟨f,λ_=>none,upd (λ_=>.nil) s (.ch (n-(p+1)) .idle .work),upd (λ_=>none) s (some sp),λ_=>none,0,false⟩:=by
  unfold ZW;simp only[zd]
 rw[<-e];exact D
end
end Go.TL
namespace Go.TL
open Go.Proofs.Tryz
open Go.Conc Go.Proofs
open Go.ConcN (sumTo upd sumTo_upd upd_ne upd_same sumTo_congr le_sumTo)
structure PA(f:ζ)(g:Φ)(d:ζ)(e c:Nat)(h:TypeId×Nat)(n:Nat)(j:Row)(i:Nat)(S:ζ)(B:ZZ)(H:Φ):Prop where
 ext:Ext f [] g S B H
 holds:Holds S B [j] H
 sub:∀b a v,d b a=some v->S b a=some v
 st:∀b q v,S b q=some v->d b q≠none\/e<b
 Lz:∀a,S c a=none
 row:H.row c=some h
 Α:∀a,4*i<=a->a<4*n->∃v,H.Α c a=some (v,true)/\Fx (a % 4) v
 ID:∀b,B.has b->e<b/\b≠c
def IC(i a:Nat):Bool:=decide (4*i<=a/\a<4*i+4)
section
variable[Z8]
variable{Uv Y2 S YE:ζ}{WV H H':Φ}{β Y9 n i:Nat}{ty:TypeId×Nat}{r0:Row}{B B':ZZ}
def PA.step(h:PA Uv WV Y2 β Y9 ty n r0 i S B H)(k:∃q v,Y2 β q=some v)(c:Ext S B H YE B' H')(l:Holds YE B' [r0] H'):PA Uv WV Y2 β Y9 ty n r0 i YE B' H':=by
 obtain⟨A,C,m⟩:=k;obtain⟨D,g⟩:=h.holds.Za _ _ _ (h.sub _ _ _ m);have d:¬H.fresh Y9:=λo=>by have:=h.row;rw[o.2.1]at this;cases this
 have j:¬B.has Y9:=λf=>(h.ID Y9 f).2 U;obtain⟨r,s,_⟩:=c.XU Y9 j d;refine⟨h.ext.trans c,l,λb a v hv=>c.Za b a v (h.sub b a v hv),λb q v hv=>?_,λa=>?_,by rw[s];exact h.row,λa t w=>?_,λb f=>?_⟩
 .rcases c.S6 b q v hv with e|e|e
  .exact h.st b q v e
  .exact .inr (h.ID b e).1
  exact .inr (Kq g e)
 .cases hv:YE Y9 a with
  | none=>rfl
  | some v=>
   rcases c.S6 Y9 a v hv with e|e|e
   .rw[h.Lz a]at e;cases e
   .exact absurd e j
   exact absurd e d
 .obtain⟨v,hv,y⟩:=h.Α a t w;refine⟨v,?_,y⟩;rcases r a with e|⟨u,p,e,_⟩
  .rw[e];exact hv
  rw[h.Lz a]at e;cases e
 rcases c.blocks b f with e|e
 .exact h.ID b e
 exact⟨Kq g e,λx=>d (x▸e)⟩
def PA.fork(h:PA Uv WV Y2 β Y9 ty n r0 i S B H)(d:WV.fresh Y9)(e:Ts r0):PA Uv WV Y2 β Y9 ty n r0 (i+1) S B (R2 S (H.less Y9 (IC i))):=by
 have a:∀r∈[r0],Ts r:=λr f=>by
  obtain rfl:r=r0:=by simpa using f
  exact e
 have b:Holds S B [r0] (H.less Y9 (IC i)):=h.holds.less a h.Lz λN g=>(h.ID Y9 ⟨N,g⟩).2 U;refine⟨(h.ext.less d).trans (mY b),mZ b a,h.sub,h.st,h.Lz,h.row,λc k Υ=>?_,h.ID⟩;obtain⟨v,hv,j⟩:=h.Α c J Υ;refine⟨v,?_,j⟩;rw[Nh (h.Lz c),m0,if_neg (by simp[IC];omega)];exact hv
end
noncomputable def Qo:Code:=f32.body.getD .skip
noncomputable def OO:Code:=YN [1,1,1,1,1,1,0,1,0,0] Qo
noncomputable abbrev Fw(vs:ZP):Frame:=Frame.enter prog 32 vs .normal
abbrev M9(s m a b n ca co:Nat)(g:ZN)(P:List (List ZM))(i:Nat):κ:=[(39,I i),(38,I n),(7,.z (ptr s 0)),(6,.z (ptr m 0)),(5,.Κ [.z (Qq a n ca)]),(3,.Κ (NZ g P b n co)),(2,.Ο 0 1 0 0),(1,.Κ (Yo g))]
section
variable{Uv Y2:ζ}{WV:Φ}{β s m Y9 Xl n ca co Uu i:Nat}{ty:TypeId×Nat}{r0:Row}{sp:Spec}{g:ZN}{P:List (List ZM)}{VW:Nat->ψ}{ZL:Int}{y:Z0}{Q:Value->Prop}{mn:Bool}{vs:ZP}{cs:YM}{k:Zk}
def mU(e:Uw y s sp)(X:sp.ZR=some m)(Y:sp.Yd=LA β Y2 Xl Uu Y9 n VW)(Z:∀k,sp.D k Φ.empty)(aa:sp.top=6)(aL:n<=5)(hi:i<n)(ab:n<=co)(ad:co<=Uu)(ae:@Μ Ye prog 77 [Wa g.Zz,I i,ZU g.lower] (.Z7 [δ I 1 (VW i),I ZL]))
  (C:∃q v,Y2 β q=some v) (af:β<Y9) (ag:WV.fresh Y9) (ah:Ts r0) (ai:YO 1 r0)
  (aj:∀(S:ζ)(B:ZZ)(H:Φ)(t:ZP)(v:Option (Nat×Z5)),PA Uv WV Y2 β Y9 ty n r0 (i+1) S B H->Y' S B [r0] (M9 s m Y9 Xl n ca co g P (i+1)) t->t.size=47->Zx prog Q mn (ZW y s (.par (i+1) 0 .add) v 0) (χ (Fw vs) t (.code OO::.inLoop OO::k)) cs H)
  {S:ζ} {B:ZZ} {H:Φ} {t:ZP} {v:Option (Nat×Z5)} (L:PA Uv WV Y2 β Y9 ty n r0 i S B H) (ak:Y' S B [r0] (M9 s m Y9 Xl n ca co g P i) t) (al:t.size=47) :
  Zx prog Q mn (ZW y s (.par i 0 .add) v 0) (χ (Fw vs) t (.code OO::.inLoop OO::k)) cs H:=by
 letI:Z8:=Yg;have f:=e.seq;refine V.here (x:=one (ZW y s (.par i 0 .add) v 0)) (m:=1) (nt:=47) (S:=S) (B:=B) (H:=H) (σ:=[r0]) (env:=M9 s m Y9 Xl n ca co g P i) ?_ ⟨L.holds,ak,al,o⟩ _ U;refine V.Ys (f _ _ _) U ?_;simp only[OO,Qo,f32,Option.getD_some,YN];refine ο λam E=>?_;apply E
 repeat apply Ζ
 refine Β (by simp;omega) ?_;refine ZA ?_;refine ZB (A:=[8]) Τ λam E=>ς ?_;apply E;refine W.fix (id:=1) (σ':=[r0]) (Z3 _) U o (λid q aM M=>by
  obtain rfl:id=0:=J;simp at M;subst M;exact ai) U ((8,.Κ [I i])::M9 s m Y9 Xl n ca co g P i) (by simp[S3]) ?_
 repeat apply Ζ
 refine W.Zs (.stop ?_);refine V.call (f _ _ _) ⟨U,U,by simp[Frame.enter],U⟩ U U U ⟨_,func72,U,U⟩ λaN an aO aP aQ ao c hv=>?_;obtain rfl:=V8 (l:=[ptr s 0,.int .i64 1]) hv;rintro N rfl;refine zv e (by rw[aa];omega) c.holds λaR ap aS aq ar=>?_;rw[VQ U];obtain⟨au,av,aw⟩:=c.holds.back aq ar;refine V.here (x:=one _) (m:=1) (nt:=47) (S:=ap) (B:=an) (σ:=[r0]) (env:=(42,.z (.tuple #[]))::(8,.Κ [I i])::M9 s m Y9 Xl n ca co g P i) ?_ ⟨au,Y'.later (Y'.put c.Zt (d:=42) (by rw[c.size];omega) (.z (.tuple #[]))) aw,X3 (Vh ..) c.size,Z3 _⟩ _ U;refine V.Ys (f _ _ _) U ?_;refine W.ZK ?_
 repeat apply Ζ
 refine W.Zs ?_;refine XB [0] [1] ?_;refine W.stop ?_;intro O ax aT t3 ay h;rintro N rfl;have b:=L.step C (ao.ext.trans (av.trans ay.ext)) h.holds;have F:=h.Zt 43;simp only[ε,if_true]at F;obtain⟨aU,R⟩:=ν (t3.getD 43 undef);rw[<-R]at F;cases F with
 | fn w1 az aA aB aV aC=>
  have aD:w1=#[]:=OI (by rw[<-aA];rfl);subst aD;have aE:∀a∈IF s m Y9 Xl n ca co g P i,ω 0 a:=o;have aF:XF O [] [] (IF s m Y9 Xl n ca co g P i) az:=⟨aB,λi a v r w=>(aC i a v r w).any (aE a (ZD r)) _ _⟩;refine Zx.mV (s:=s) (n:=i+1) (p:=0) (sp:=sp) e.rel U e.spec Zn ⟨U,U,by simp[Frame.enter],U⟩ U U U R.symm (mW (p:=IC i) b.holds b.row b.Lz) ?_ ?_
  .rw[Ww];have T:=b.fork ag ah;refine V.here (x:=one _) (m:=1) (nt:=47) (S:=O) (B:=ax) (σ:=[r0]) (env:=M9 s m Y9 Xl n ca co g P i) ?_ ⟨T.holds,Rk h.Zt o,h.size,Z3 _⟩ _ U;refine V.Ys (f _ _ _) U ?_;refine W.ZK ?_;refine γ (YR hi (show n<2 ^ 62 by omega)) ?_;refine .inLoop (.stop ?_);intro aG aH aI t5 aJ K;rintro N rfl;exact aj aG aH aI t5 none (T.step C aJ.ext K.holds) (Rk K.Zt o) K.size
  refine m1 X J Y (Z _) ab ad hi ae ?_ b.st b.Lz af (λj aW=>?_) aF
  .obtain⟨q,u,aK⟩:=C;exact⟨q,u,b.sub _ _ _ aK⟩
  obtain⟨v,r,w⟩:=b.Α (i*4+j) J J;refine⟨v,?_,?_⟩
  .unfold Qp;rw[if_pos (by simp[IC];omega)];exact r
  have:(i*4+j) % 4=j:=J
  rw[this]at w;exact w
end
end Go.TL
namespace Go.TL
open Go.Proofs.Tryz
open Go.Conc Go.Proofs
attribute [congr] y2
attribute [simp] y1 y0 yZ yX yW yV pE
abbrev xX:Ψ:=.Z' [.sl true 0 [],.z (.string {data:=#[]}),.z (.string {data:=#[]}),.sl true 0 [],.sl true 0 [],I 0,I 0,I 0,I 0,.sl true 0 [],.sl true 0 [],.sl true 0 [],ZU false,.sl true 0 [],.sl true 0 []]
abbrev WN:Row:=.cells 80 15 [xX]
abbrev Pz(n:Nat):Row:=.cells 22 1 (List.replicate n (.sl true 0 []))
abbrev xW:Ψ:=.Z' [.z (.int .u32 0),.z (.int .i32 0),.z (.int .u32 0),.sl true 0 []]
abbrev NY(n:Nat):Row:=.cells 149 4 (List.replicate n xW)
abbrev U7(g:ZN)(p:Ψ)(n:Nat):μ:=Yo g++[p,.ms 0 n 0 n]
def SR.cell{id t k j kk:Nat}{l:μ}(g:l[j]?=some (.sl true kk [])):SR id (.cells t k [.Z' l]) (.cells t k [.Z' (l.set j (.ms id 0 0 0))]):=by
 refine .inr ⟨_,_,_,_,U,U,U,λi e h b f=>?_⟩
 match i,b,f with
 | 0,b,f=>
  cases b;cases f;refine⟨by simp[Ψ.cells],λx a a' d c=>?_⟩;simp only[Ψ.cells]at d c;by_cases e:j=x
  .subst e;rw[g]at d;cases d;rw[Xz (ZT.1 g).1]at c;cases c;exact .nil
  rw[XJ e,d]at c;cases c;exact .same _
 | i+1,b,_=>simp at b
section
variable[Z8]{g:ZN}{P:List (List ZM)}{n:Nat}
def mT(y:g.Zz.cells.length=n)(O:n<=5)(Q:P.length=g.Zf.length)(R:P.length<=5)(E:∀(i:Nat)(p:List ZM),P[i]?=some p->Μ prog 50 [VX g,I i] (δ Ym 1 p)) :
  W prog 0 47 [.code (YN [1] Qo)] [(2,.Ο 1 1 0 0),(1,.Κ (Yo g))] [.cells 22 1 [],WN]
   (λk e s=>k=[.code (YN [1,1,1,1] Qo)]/\s=[Pz n,WN,NY n]/\∀p∈[(5,.Κ [.ms 2 n 0 n]),(3,.Κ (U7 g (UM P) n)),(2,.Ο 1 1 0 0),(1,.Κ (Yo g))],ε e p.1=p.2) (λ_ _ _=>False):=by
 unfold Qo;simp only[f32,Option.getD_some,YN]
 repeat apply Ζ
 refine W.yU (A:=[14,4110,3]) Τ mixed λB d=>?_;simp;(repeat (rw[OW];simp[y]));(try rw[OX]);refine⟨J,?_⟩;refine⟨UW XL,UW XL,d _ _ ?_⟩;refine W.seq (W.seq ?_);refine Χ ?_;refine W.pad (σ':=[Pz n,WN,.cells 80 15 [.Z' (U7 g (.ms 3 0 0 0) n)]]) 23 1 U (λj r c=>?_) [(20,I 0),(19,I g.Zf.length),(3,.Ο 2 1 0 0),(2,.Ο 1 1 0 0),(1,.Κ (Yo g))] (λp f=>?_) ?_
 .match j,c with
  | 0,c=>cases c;exact⟨_,rfl,.inl rfl⟩
  | 1,c=>cases c;exact⟨_,rfl,.inl rfl⟩
  | 2,c=>cases c;exact⟨_,rfl,SR.cell (j:=13) rfl⟩
  | j+3,c=>simp at c
 .simp only[YU,XW,or_false]at f;rcases f with rfl|rfl|rfl|rfl|rfl<;>exact .same _
 refine W.iter (λi:Nat=>i<=P.length) (λi=>[(20,I i),(19,I g.Zf.length),(3,.Ο 2 1 0 0),(2,.Ο 1 1 0 0),(1,.Κ (Yo g))]) (λi=>[Pz n,WN,.cells 80 15 [.Z' (U7 g (.ms 3 i 0 i) n)],.cells 23 1 ((P.map (δ Ym 1)).take i)]) (λi=>P.length-i) 0 (Γ _) U o (λi hi F=>?_);refine Χ ?_;by_cases u:i<P.length
 .refine Β (by simp;omega) ?_;refine Χ ?_;have S:(P.take i).length=i:=by simp;omega
  refine W.draw (A:=[29]) Τ mixed λB d=>?_;simp;(repeat (rw[Y3];simp));try rw[YL]
  refine Wf (Μ.p (E i P[i] (ξ u)) (ZJ.refl _) o o) ?_;simp;have H:min i P.length=i:=J;(repeat (rw[Y3];simp[H]));try rw[YL]
  refine⟨J,?_⟩;refine X5 (d _ _ ?_);have K:List.take i (P.map (δ Ym 1))++[δ Ym 1 P[i]]=(P.map (δ Ym 1)).take (i+1):=by rw[Ws (by simpa using u)];simp
  rw[K];refine Χ ?_;refine W.to (F (i+1) u J) U (by simp[YR u (show P.length<2 ^ 62 by omega)])
 refine Δ (by simp;omega) ?_;refine W.exit U ?_;obtain rfl:i=P.length:=J;rw[Wl o];have L:∀a∈U7 g (UM P) n,ω 2 a:=by simp[S2]
 refine W.cut 2 (Γ _) [(3,.Κ (U7 g (UM P) n)),(2,.Ο 1 1 0 0),(1,.Κ (Yo g))] o (λid r v b=>?_) (λp f=>?_) ?_
 .match id,v,b with
  | 0,_,b=>cases b;simp[YO,Ψ.cells]
  | 1,_,b=>cases b;simp[YO,Ψ.cells]
 .simp only[YU,XW,or_false]at f;rcases f with rfl|rfl|rfl
  .refine .Ο (id:=2) (n:=1) (i:=0) (j:=0) (k:=15) (e:=.Z' (U7 g (.ms 3 P.length 0 P.length) n)) (Z3 _) U U U (by simp[Ψ.cells]) (λx a a' w m=>?_);rw[Vu]at w;by_cases e:x=13
   .subst e;cases w;cases m;exact Yx.own (id:=3) (t:=23) θ U o (λe M a C=>by
     obtain⟨l,_,rfl⟩:=ZG.1 M;simp[Ψ.cells]at C;subst C;simp)
   have D:(U7 g (UM P) n)[x]?=(U7 g (.ms 3 P.length 0 P.length) n)[x]?:=by
    show((U7 g (.ms 3 P.length 0 P.length) n).set 13 (UM P))[x]?=_;rw[XJ (λh=>e h.symm)]
   rw[D]at m;have N:a=a':=by
    have:(U7 g (.ms 3 P.length 0 P.length) n)[x]?=some a:=w;rw[this]at m;cases m;rfl
   subst N;exact .low (L a (ZD (D.trans m)))
  .exact .low (by simp[ε,S3])
  exact .low (by simp[ε])
 refine ZA ?_;refine ZB (A:=[36,5]) Τ λB d=>ς ?_;refine⟨J,?_⟩;rw[y];apply d;refine W.fix (id:=3) (σ':=[Pz n,WN,NY n]) (Γ _) U (by simp[S2]) (λid r v b=>?_) U [(5,.Κ [.ms 2 n 0 n]),(3,.Κ (U7 g (UM P) n)),(2,.Ο 1 1 0 0),(1,.Κ (Yo g))] (by simp[S3,S2]) ?_
 .match id,v,b with
  | 0,_,b=>cases b;simp[YO,Ψ.cells]
  | 1,_,b=>cases b;simp[YO,Ψ.cells]
  | 2,_,b=>cases b;simp[YO,Ψ.cells]
 exact W.stop ⟨U,U,o⟩
end
end Go.TL
namespace Go.TL
open Go.Proofs.Tryz
open Go.Conc Go.Proofs
variable[Z8]
section
variable{P:Program}{S:ζ}{B:ZZ}{H:Φ}{σ:Ρ}{j L p nt:Nat}{st M8:LoopState}{M7:Array Tmp}{a bd:Code}{env env1:κ}{v:Ψ}{K E:Ψ->Ρ->Prop}
def Holds.CB(g:Holds S B σ H)(h:σ[j]?=some (.loop L st M7 a bd nt env))(o:UC σ j=true)(M8:LoopState) :
  ∃f d t,H.obj L=some (.loop {state:=st,pending:=none,fn:=f,tmps:=t,params:=M7,assign:=a,body:=bd,defers:=d})/\t.size=nt/\Y' S B σ env t/\
   Holds S B (σ.set j (.loop L M8 M7 a bd nt env)) (H.Zp L (.loop {state:=M8,pending:=none,fn:=f,tmps:=t,params:=M7,assign:=a,body:=bd,defers:=d}))/\
   Ext S B H S B (H.Zp L (.loop {state:=M8,pending:=none,fn:=f,tmps:=t,params:=M7,assign:=a,body:=bd,defers:=d}))/\ZC S S B B σ (σ.set j (.loop L M8 M7 a bd nt env)):=by
 obtain⟨bo,c⟩:=TH g h;obtain⟨N,f,d,t,rfl,k,l,m⟩:=g.row j _ bo h c;refine⟨f,d,t,k,l,m,?_⟩;have p:B.set j (some (L,N))=B:=by
  refine T6 λi=>?_;by_cases e:j=i
  .subst e;rw[Xz (ZT.1 c).1,c]
  rw[XJ e]
 have n:=g.QP (r':=.loop L M8 M7 a bd nt env) (bo':=some (L,N)) (H':=H.Zp L (.loop {state:=M8,pending:=none,fn:=f,tmps:=t,params:=M7,assign:=a,body:=bd,defers:=d})) h trivial c (.inl ⟨M8,U,U⟩)
  (λb r e=>.inl ⟨r,e⟩) (λb s _=>by
   have u:b≠L:=λe=>s N (by rw[e]);exact⟨λ_=>rfl,U,by simp[Φ.Zp,u]⟩) (λb v=>(zU ⟨_,k⟩ b).1 v) (Ex o)
  (λw=>⟨N,f,d,t,U,by simp[Φ.Zp],l,λi=>(m i).later w⟩)
 rw[p]at n;exact n
def W.IB{m nt:Nat}{k:Zk}{env:κ}{σ:Ρ}{Z:Xv}{F:XM}(h:W P m nt k env σ Z (λ_ _ _=>False)):W P m nt k env σ Z F:=W.mono h (λ_ _ _ h=>h) (λ_ _ _ h=>h.elim)
def mS(u:σ[j]?=some (.loop L .ready #[p] a bd nt env))(y:UC σ j=true)(J:p<nt)
  (h:W P σ.length nt [.code a,.beginRound,.code bd] ((p,v)::env) σ (λk e s=>k=[.beginRound,.code bd]/\s=σ/\∀q∈env1,ε e q.1=q.2) (λ_ _ _=>False))
  (M:W P σ.length nt [.code bd] env1 (σ.set j (.loop L .busy #[p] a bd nt env)) (λk e s=>k=[]/\s[j]?=some (.loop L .busy #[p] a bd nt env)/\UC s j=true/\K (.z (.bool true)) (s.set j (.loop L .ready #[p] a bd nt env))) (λ_ _ _=>False)) :
  Yi P (.fn (.yield L) [] []) [v] σ K E:=by
 intro N mn x c rest S B H aB vs g i O hv Q;obtain⟨f,d,t,R,A,T,_⟩:=i.CB u y .ready;obtain⟨w,rfl⟩:∃w,vs=#[w]:=by
  have h:=hv.1;clear hv;obtain⟨X⟩:=vs
  match X,h with
  | [w],_=>exact⟨w,rfl⟩
 have Y:Θ S B σ v w:=hv.2 0 _ _ U U;cases O with
 | fn Z aa ab ad aC aD=>
  have ae:Z=#[]:=OI (by rw[<-ab];rfl)
  have Υ:aa=#[]:=OI (by rw[<-ad];rfl);subst ae;subst Υ;refine Ω.bind' (Ω.pure' ?_);have af:invoke (Target.fn (Fn.yield L) #[]) (#[]++#[w])=Instr.yield L #[w]:=by simp[invoke]
  show Ω P (invoke (Target.fn (Fn.yield L) #[]) (#[]++#[w])) H _ _;rw[af];unfold Instr.yield;refine Ω.bind' (Ω.getLoop R ?_);rw[if_neg o];refine Ω.bind' (Ω.pure' (Ω.pure' ?_));show η P N mn x (Frame.round L f (((#[p]:Array Tmp).zip #[w]).foldl (λl (t,a)=>l.setIfInBounds t a) t) a bd .normal) (c::rest) H;have ag:((#[p]:Array Tmp).zip #[w]).foldl (λl (t,a)=>l.setIfInBounds t a) t=t.setIfInBounds p w:=o;rw[ag];refine V.here (b:=Frame.round L f t .skip .skip .normal) (t:=t.setIfInBounds p w) (m:=σ.length) (nt:=nt) (S:=S) (B:=B) (H:=H) (σ:=σ) (env:=(p,v)::env) ?_ ⟨i,T.put (by rw[A];exact J) Y,X3 (Vh ..) A,Z3 _⟩;refine V.Ys g U (W.bind (W.IB h) λk e s ⟨n,ah,ai⟩=>?_);subst n;subst ah;refine W.stop ?_;intro aj ak aE t3 C r;have al:=C.all i (Z3 _);obtain⟨f3,d3,aF,am,aG,aH,D,an,F⟩:=r.holds.CB u y .busy;refine η.beginRound g U U am U ?_;refine V.here (b:=Frame.round L f t .skip .skip .normal) (m:=s.length) (nt:=nt) (S:=aj) (B:=ak) (σ:=s.set j (.loop L .busy #[p] a bd nt env)) (env:=env1) ?_ ⟨D,?_,r.size,o⟩
  .refine V.Ys g U (W.bind (W.IB M) λk aI aJ ⟨n,ao,ap,aq⟩=>?_);subst n;refine W.stop ?_;intro ar au aK t5 I av;have aw:=I.all D o;obtain⟨f5,d5,aL,ax,aM,aN,ay,az,aA⟩:=av.holds.CB ao ap .ready;refine η.endRound g U U U ax (jump:=none) (.inl ⟨U,U⟩) ?_;exact Q.ret _ _ ar au _ _ aq (C.ext.trans (an.trans (I.ext.trans az))) (al.trans (F.trans (aw.trans aA))) ay (.z _)
  have:=r.Zt.later F;exact Rk this ai
end
end Go.TL
namespace Go.TL
open Go.Proofs.Tryz
open Go.Conc Go.Proofs
open Go.ConcN (sumTo upd sumTo_upd upd_ne upd_same sumTo_congr le_sumTo)
section
variable[Z8]{S:ζ}{B:ZZ}{σ:Ρ}{H:Φ}
def xV{l v j a}(h:Θ S B σ (.Κ l) v)(c:l[j]?=some a):∃u,Θ S B σ a u/\Θ S B σ (.Κ (l.set j (.z u))) v:=by
 have m:=h;cases h with
 | Κ b f w g d=>
  refine⟨w j,d j a c,.Κ b f w (λi x hi=>?_) (λi x hi=>?_)⟩
  .have k:i<l.length:=by simpa using (ZT.1 hi).1
   exact g i _ (ξ k)
  by_cases e:j=i
  .subst e;rw[Xz (ZT.1 c).1]at hi;cases hi;exact .z _
  rw[XJ e]at hi;exact d i x hi
def xU{id n k b N t l u}(h:Θ S B σ (.ms id n 0 n) u)(c:σ[id]?=some (.cells t k l))(m:l.length=n)(p:0<n)(g:B[id]?=some (some (b,N))):∃cap,u=.slice (some ⟨b,0,none⟩) n cap/\n<=cap/\cap*k<=N:=by
 cases h with
 | ms cap d r e s w a=>
  rw[c]at d;cases d;rw[g]at e;cases e;rcases a with a|⟨x,y,i,rfl,a⟩
  .omega
  cases i;exact⟨cap,o,J,by simpa using a⟩
 | VP v f j=>rw[c]at f;cases f;simp[Row.W3]at j;omega
def Holds.mR{id:Nat}{r bo}(c:Holds S B σ H)(e:σ[id]?=some r)(f:B[id]?=some bo)(g:LC r)(k:YO 0 r):Holds S [bo] [r] H:=by
 refine⟨c.Za,U,λi q b hi a=>?_,λi j n o b p s l hi d=>?_,λi q b N hi _ a m=>?_⟩
 .match i,hi,a with
  | 0,hi,a=>
   cases hi;cases a;have:=(c.row id r bo e f).yo (E:=Φ.empty) (B':=[bo]) (σ':=[r]) g k λ_ _ _ h=>h;rw[Mw]at this;exact this
  | i+1,hi,_=>simp at hi
 .match i,j,hi,d with
  | 0,0,_,_=>exact absurd rfl l
  | i+1,_,hi,_=>simp at hi
  | 0,j+1,_,d=>simp at d
 match i,hi,a with
 | 0,hi,a=>cases hi;cases a;exact c.sep id r b N e g.live f m
 | i+1,hi,_=>simp at hi
end
section
variable{Uv Y2:ζ}{WV:Φ}{β s m Y9 Xl n ca co Uu:Nat}{ty:TypeId×Nat}{sp:Spec}{g:ZN}{P:List (List ZM)}{C:List (ψ)}{y:Z0}{Q:Value->Prop}{mn:Bool}{vs:ZP}{c:Frame}{cs:YM}{T:Nat->Option (Tok×Spec)}
abbrev M6(C:List (ψ))(i:Nat):ψ:=C.getD i []
def mQ{Sy}(d:C.length=n)(a:Sy.Perm (List.range n)):(List.range n).map (PB (M6 C) Sy)=C.map (δ I 1):=by
 refine T6 λi=>?_;by_cases hi:i<n
 .have b:=a.mem_iff.2 (VR.2 hi)
  have c:i<C.length:=J;simp[hi,c,PB,b]
 rw[Wk (by simp;omega),Wk (by simp;omega)]
def xT[Z8](i:C.length=n):W prog 0 47 [.code (YN [1,1,1,1,1,1,1,1] Qo)] [(3,.Κ (U7 g (UM P) n)),(2,.Ο 1 1 0 0)] [.cells 22 1 (C.map (δ I 1)),WN]
  (λk e s=>(∃j,k=.code .ret::j)/\s=[]/\ε e 2=.Κ (Yl g P C)) (λ_ _ _=>False):=by
 simp[f32];refine ο λy m=>?_;apply m;refine W.cut 0 (Γ _) [(2,.Κ (Yl g P C))] (Γ _) (λid r h=>J) (λp t=>?_) ?_
 .obtain rfl:p=(2,.Κ (Yl g P C)):=by simpa using t
  have u:∀a∈Yl g P C,ω 0 a:=o;refine .Ο (Γ _) U U U (by simp[Ψ.cells]) (λx a a' c b=>?_);rw[Vu]at c;by_cases e:x=14
  .subst e;cases c;cases b;exact Yx.own (Γ _) U (by simp[i]) (λe v a d=>by
    obtain⟨l,_,rfl⟩:=ZG.1 v;simp[Ψ.cells]at d;subst d;simp)
  have f:(Yl g P C)[x]?=(U7 g (UM P) n)[x]?:=by
   show((U7 g (UM P) n).set 14 (Yv C))[x]?=_;rw[XJ (λh=>e h.symm)]
  rw[f]at b;have w:a=a':=by
   have:(U7 g (UM P) n)[x]?=some a:=c;rw[this]at b;cases b;rfl
  subst w;exact .low (u a (ZD (f.trans b)))
 exact W.stop ⟨⟨_,U⟩,U,U⟩
def mP(ap:Uw y s sp)(aE:sp.ZR=some m)(aF:sp.Yd=LA β Y2 Xl Uu Y9 n (M6 C))(aG:∀k E,sp.D k E->E=Φ.empty)(ai:C.length=n)(bn:n<=co)(bp:co<=Uu)(aH:∃q v,Y2 β q=some v)(aI:WV.fresh β)(bq:n<2 ^ 20)
  (aJ:∀v,Calm T (ZW y s (.par n 0 .Zg) v 0)) (aK:Me prog Q mn (calm T) c cs Uv [] WV [] (λa s=>Yw a (Vj g P C)/\s=[]) (λ_ _=>False))
  {S B H t v} (aq:PA Uv WV Y2 β Y9 ty n WN n S B H) (Y:Y' S B [WN] (M9 s m Y9 Xl n ca co g P n) t) (aL:t.size=47) :
  Zx prog Q mn (ZW y s (.par n 0 .add) v 0) (χ (Fw vs) t (.code OO::.inLoop OO::.inBlock 2::[.code (YN [1,1,1,1,1,1,1] Qo)])) (c::cs) H:=by
 letI:Z8:=Yg;have Z:=ap.seq;refine V.here (x:=one (ZW y s (.par n 0 .add) v 0)) (m:=1) ?_ ⟨aq.holds,Y,aL,o⟩ _ U;apply V.Ys (Z _ _ _) U;simp only[OO,Qo,f32,Option.getD_some,YN];refine ο λbr aM=>?_;apply aM
 repeat apply Ζ
 apply Δ o
 repeat apply Ζ
 apply W.exit U
 repeat apply Ζ
 refine W.Zs (.stop ?_);refine V.call (Z _ _ _) ⟨U,U,by simp[Frame.enter],U⟩ U U U ⟨_,func80,U,U⟩ λaN i bs ar bt aO A hv=>?_;obtain rfl:=V8 (l:=[ptr s 0]) hv;rintro aP rfl;refine Dr ap A.holds λL H' aQ aR aS aT ad au bu aU aV bv bw av bx aW bz bA bB aj=>?_;rw[VQ U];obtain rfl:=Dd aG aQ aS aU;rw[Mw]at aj;let ⟨aX,aw⟩:=aV (by rw[aE];simp);rw[aF]at aw;let ⟨hi,M,F,O,aY,bC⟩:=aw;let ⟨w,f1,f2,f3⟩:=aW;let ⟨ae,aZ,bD⟩:=A.holds.back ad au;have R:=aq.step aH (aO.ext.trans aZ) ae;have a0:OP n (M6 C) aR=.cells 22 1 (C.map (δ I 1)):=by rw[<-mQ ai aX]
 rw[a0]at O;have ax:∀r∈[Row.cells 22 1 (C.map (δ I 1))],Ts r:=λr f=>by
  obtain rfl:r=.cells 22 1 (C.map (δ I 1)):=by simpa using f
  exact⟨_,_,_,U⟩
 let ⟨bo,af⟩:=TH ae (id:=0) U
 have ak:=ae.row 0 _ bo U af;obtain⟨aa,al,rfl⟩:∃aa al,bo=some (aa,al):=by
  cases bo with
  | none=>cases ak
  | some x=>exact⟨x.1,x.2,rfl⟩
 have a1:=(Dl f3 f1 (ob av) ak.1 ak.2.2.1).1
 let ⟨a2,bE,a3⟩:=yn ae O av ⟨w,f1,f3⟩ ax (λr f=>by
  obtain rfl:r=WN:=by simpa using f
  exact⟨.inl ⟨_,_,_,U,o⟩,by simp[YO,Ψ.cells]⟩) (λid r b N f K X=>by
  match id,f,K with
  | 0,f,K=>
   rw[af]at K;cases K;cases Y:M aa X with
   | none=>rfl
   | some u=>let ⟨p,A⟩:=O.Za aa X u Y;rw[a1 X]at A;cases A
  | id+1,f,_=>simp at f)
 have ab:=zj (S:=L) (H:=H') ⟨R.ext.Za,λb a4 ag=>R.ext.XU b a4 ag,λb ⟨N,h⟩=>by simp at h,R.ext.S6,R.ext.grow⟩ R.sub aI hi au O ax
 have a5:Ext Uv [] WV (L.plus M) (F++i) (join H' aT):=⟨ab.Za,ab.XU,λb ⟨N,h⟩=>by
  rcases VS.1 h with h|h
  .exact ab.blocks b ⟨N,h⟩
  exact R.ext.blocks b ⟨N,h⟩,ab.S6,ab.grow⟩
 let ⟨a6,a7⟩:=a2.P8 (λb K=>aj.P8 K) aj.grow
 have a8:=a5.trans a7
 have am:=Y'.put A.Zt (d:=45) (by rw[A.size];omega) (.z (.tuple #[]))
 have ay:(ar.setIfInBounds 45 (.tuple #[])).size=47:=X3 (Vh ..) A.size
 let ⟨ah,az⟩:=ν (ar.setIfInBounds 45 (.tuple #[]));rw[<-az]at am ay;have a9:(F++i)[0]?=some (some (Xl,Uu)):=by rw[YT (by rw[O.len];exact OF)];exact aY
 have ba:(F++i)[1]?=some (some (aa,al)):=by
  rw[W5 (by rw[O.len];exact Z3 _),O.len];exact af
 have bb:∀(a)(u),Θ aN i [WN] a u->ω 0 a->Θ (L.plus M) (F++i) [Row.cells 22 1 (C.map (δ I 1)),WN] a u:=λa u f K=>(f.any K _ _).later ⟨λb X v h=>a3 b X v (ad.Za b X v h),λid r h=>⟨r,h,r.Sv _⟩⟩
 have bc:Θ (L.plus M) (F++i) [Row.cells 22 1 (C.map (δ I 1)),WN] (.Κ (U7 g (UM P) n)) (ah.getD 3 undef):=by
  refine yl (j:=14) (a':=.ms 0 n 0 n) (bb (.Κ (NZ g P Xl n co)) _ (am 3) o) λa u h f=>?_;cases h;cases f;exact .ms co U (by simp[ai]) a9 J J (.inr ⟨Xl,Uu,U,o,J⟩)
 have bd:Θ (L.plus M) (F++i) [Row.cells 22 1 (C.map (δ I 1)),WN] (.Ο 1 1 0 0) (ah.getD 2 undef):=by
  have ag:=am 2;generalize ah.getD 2 undef=u at ag;cases ag with
  | Ο an aA aB=>
   cases an;rw[af]at aB;cases aB;exact .Ο (σ:=[Row.cells 22 1 (C.map (δ I 1)),WN]) U U ba
  | Vo v an aA=>cases an;simp[Row.W3]at aA
 have be:Y' (L.plus M) (F++i) [Row.cells 22 1 (C.map (δ I 1)),WN] [(3,.Κ (U7 g (UM P) n)),(2,.Ο 1 1 0 0)] ah:=λk=>by
  simp only[ε];split
  .rename_i e;subst e;exact bc
  split
  .rename_i e;subst e;exact bd
  exact .Zl _
 subst az;refine V.here (x:=one _) (m:=0) (nt:=47) (S:=L.plus M) (B:=F++i) (σ:=[Row.cells 22 1 (C.map (δ I 1)),WN]) (env:=[(3,.Κ (U7 g (UM P) n)),(2,.Ο 1 1 0 0)]) ?_ ⟨a6,be,ay,Γ _⟩ _ U;apply V.Ys (Z _ _ _) U;apply W.ZK;refine W.bind (W.IB (xT ai)) λk e s ⟨bf,Y,ad⟩=>?_;obtain⟨bF,rfl⟩:=bf;subst Y;apply W.forget [(2,.Κ (Yl g P C))] (by simp[ad]);apply W.stop;intro bG bg bH t5 bh ao;obtain rfl:bg=[]:=YY.1 ao.holds.len;refine η.ret (Z _ _ _) U U (η.back (Z _ _ _) U U (.inl U) func32 ?_);refine Ω.mono (λu bi ⟨bj,bk,bl,bI,aC,bm⟩=>?_) (λ_ _ h=>h) _ (Mc Τ (a:=Vj g P C) U ao.holds ao.Zt);obtain rfl:bk=[]:=YY.1 aC.len;rintro aP rfl;have aD:=a8.trans (bh.ext.trans bl);exact aK.ret _ [] bj [] bi u ⟨.refl _,U⟩ aD ⟨aD.Za,λid r h=>by simp at h⟩ aC bm _ (aJ _)
end
section
variable[Z8]{S:ζ}{B:ZZ}{H:Φ}{n Xl Uu β Y9:Nat}{Y2:ζ}{VW:Nat->ψ}
def mO{σ}{id:Nat}(o:Holds S B σ H)(p:σ[id]?=some (Pz n))(s:B[id]?=some (some (Xl,Uu)))(g:β<Xl):LA β Y2 Xl Uu Y9 n VW [] (U8 Xl (22,Uu) (Qp H Xl λ_=>true)):=by
 let ⟨J,t,y,w,A⟩:=o.row id _ _ p s;refine⟨⟨λb d x h=>?_,λb x h=>?_,λb x h=>(by cases h)⟩,WZ,[some (Xl,Uu)],⟨λb d v h=>(by cases h),U,λi r bo hi f=>?_,λi j K L b M O C hi c=>?_,λi r b N hi _ f d=>rfl⟩,U,λd=>rfl⟩
 .by_cases e:b=Xl
  .exact .inr (e▸g)
  simp[U8,e]at h
 .by_cases e:b=Xl
  .exact e▸g
  simp[U8,e]at h
 .match i,hi,f with
  | 0,hi,f=>
   cases hi;cases f;refine⟨by simp[U8],by simpa using t,λd D=>?_,w,λi e k=>?_⟩
   .let ⟨u,E⟩:=y d D;exact⟨u,by simp[U8,Qp,E]⟩
   have hi:i<n:=by simpa using (ZT.1 k).1
   have F:e=.sl true 0 []:=by simpa[hi,PB] using k.symm
   subst F;refine⟨U,λj a c=>?_⟩;let ⟨l,m,I⟩:=(A i (.sl true 0 []) (by simp[hi])).2 j a c;refine⟨by rw[SH]at l;simp[U8,Qp,l],?_,I⟩
   match j,c with
   | 0,c=>
    cases c;generalize w i 0=u at m;cases m with
    | WI base cap h=>exact .WI base cap h
    | sl b d cap w' h=>exact .WI _ _ h
   | j+1,c=>simp[Ψ.cells]at c
  | i+1,hi,_=>simp at hi
 match i,j,hi,c with
 | 0,0,_,_=>exact absurd rfl C
 | i+1,_,hi,_=>simp at hi
 | 0,j+1,_,c=>simp at c
def mN{σ}{id f:Nat}(g:Holds S B σ H)(k:σ[id]?=some (NY n))(l:B[id]?=some (some (Y9,f))):∀d,d<4*n->∃v,H.Α Y9 d=some (v,true)/\Fx (d % 4) v:=by
 let ⟨r,s,t,w,m⟩:=g.row id _ _ k l;intro d x;obtain⟨i,j,o,rfl⟩:∃i j,j<4/\d=i*4+j:=⟨d / 4,d % 4,Lg _ θ,J⟩;have hi:i<n:=J;have p:(i*4+j) % 4=j:=J;have e:=(m i xW (by simp[hi])).2;rw[p]
 match j,o with
 | 0,_=>let ⟨a,c,_⟩:=e 0 _ rfl;generalize w i 0=u at a c;cases c;exact⟨_,a,rfl⟩
 | 1,_=>let ⟨a,c,_⟩:=e 1 _ rfl;generalize w i 1=u at a c;cases c;exact⟨_,a,rfl⟩
 | 2,_=>let ⟨a,c,_⟩:=e 2 _ rfl;generalize w i 2=u at a c;cases c;exact⟨_,a,rfl⟩
 | 3,_=>
  let ⟨a,c,_⟩:=e 3 _ U;generalize w i 3=u at a c;cases c with
  | WI base cap h=>obtain rfl:=h rfl;exact⟨_,a,base,rfl⟩
  | sl b d cap w' h=>obtain rfl:cap=0:=h rfl;exact⟨_,a,some ⟨b,d,none⟩,rfl⟩
def CA{σ}{id k:Nat}{t l}(a:Holds S B σ H)(c:σ[id]?=some (.cells t k l))(e:l≠[]):∃b N,B[id]?=some (some (b,N)):=by
 let ⟨bo,d⟩:=TH a c
 have h:=a.row id _ bo c d;cases bo with
 | none=>exact absurd h e
 | some x=>exact⟨x.1,x.2,d⟩
end
section
variable{g:ZN}{P:List (List ZM)}{C:List (ψ)}{n:Nat}
def xS(bm:g.Zz.cells.length=n)(a0:n<=5)(a1:C.length=n)(av:P.length=g.Zf.length)(bn:P.length<=5)(bo:∀(i:Nat)(p),P[i]?=some p->@Μ Ye prog 50 [VX g,I i] (δ Ym 1 p))
  (bp:∀(i:Nat)(c),C[i]?=some c->∃aL,@Μ Ye prog 77 [Wa g.Zz,I i,ZU g.lower] (.Z7 [δ I 1 c,I aL])):@Μ Ye prog 32 [VX g] (Vj g P C):=by
 refine⟨⟨_,func32,U,U⟩,λa2 mn x c rest an bq X vs aF a3 br a4=>?_⟩;obtain⟨T,rfl⟩:∃T,x=calm T:=@Seq.cls Ye x aF;obtain rfl:bq=[]:=YY.1 a3.len;have bs:η prog a2 mn (calm T) (Frame.enter prog 32 vs .normal) (c::rest) X:=by
  letI:Z8:=Ye;rw[Ty (body:=Qo) func32 U];refine V.here (m:=0) (nt:=47) (S:=an) (B:=[]) (H:=X) (σ:=[]) (env:=entry 0 [VX g]) ?_ (XG.enter a3 br (Z3 _) o);apply V.Ys aF U;simp only[Qo,f32,Option.getD_some]
  repeat apply Ζ
  refine W.Zs (.stop ?_);refine V.boxed aF U U U U U (l:=Yo g) U U o λS B H t aa bt aw w bu a5 aM ao a6 bv=>?_;obtain rfl:B=[]:=YY.1 w.holds.len;refine V.here (m:=0) (nt:=47) (S:=S.lay aa bt) (B:=[]) (σ:=[]) (env:=[(1,.Κ (Yo g))]) ?_
   ⟨a6,Rk (Y'.put (w.Zt.later aM) (d:=1) (by rw[w.size];omega) bv) o,X3 (Vh ..) w.size,Γ _⟩
  apply V.Ys aF U;apply W.pad (σ':=[]) 22 1 U o [(1,.Κ (Yo g))] (λp w=>by simp at w;subst w;exact .same _);refine W.part (A:=[2]) Τ [1] [] U λaN ae=>?_;(try simp);(repeat (rw[Ι];simp));apply ae;apply W.ZK;refine W.bind (W.IB (mT (g:=g) (P:=P) bm a0 av bn bo)) λk e s ⟨aO,af,ax⟩=>?_;subst aO;subst af;apply W.forget [(5,.Κ [.ms 2 n 0 n]),(3,.Κ (U7 g (UM P) n)),(2,.Ο 1 1 0 0),(1,.Κ (Yo g))] ax;simp only[Qo,f32,Option.getD_some,YN]
  repeat apply Ζ
  refine W.Zs (.stop ?_);intro F ag ay t2 aP f;intro y Y;have Z:=Y.rel;have ap:=Y.Z9;have a7:=Y.deaf;letI:Z8:=Yg;have aQ:∃q v,F aa q=some v:=let ⟨u,bw⟩:=a5;⟨0,u,aP.ext.Za _ _ _ bw⟩;let ⟨ck,bx⟩:=a5;let ⟨cl,bz⟩:=a6.Za _ _ _ bx;have aR:∀b,ag.has b->aa<b/\X.fresh b:=λb aS=>by
   rcases aP.ext.blocks b aS with h|h
   .let ⟨N,h⟩:=h;simp at h
   exact⟨Kq bz h,aw.ext.grow _ (ao.grow _ h)⟩
  have az:Ext an [] X F ag ay:=aw.ext.trans (ao.trans aP.ext)
  have bA:X.fresh aa:=aw.ext.grow _ bu
  let ⟨cm,bB,bC⟩:=IZ zb
  let ⟨cn,bD,bE⟩:=IZ za;refine Zx.I0 Z ⟨U,U,by simp[Frame.enter],U⟩ U U bB bC λm cp _=>?_;apply Zx.next
  .exact .inl Z
  .rfl
  refine Zx.I0 ?_ ⟨U,U,by simp[Frame.enter],U⟩ U U bD bE λs cq bF=>?_
  .exact Z
  have a8:m<s:=bF m _ (upd_same ..);rcases Nat.eq_zero_or_pos n with aG|aG
  .subst aG;obtain rfl:C=[]:=YY.1 a1;obtain⟨sp,Q⟩:∃sp:Spec,sp=⟨some m,λ_ E=>E=Φ.empty,λ_ E=>E=Φ.empty,6⟩:=⟨_,U⟩;have aq:sp.ZR=some m:=by rw[Q]
   have ar:∀L E,sp.Yd L E↔E=Φ.empty:=λL E=>by rw[Q]
   have aH:∀k E,sp.D k E↔E=Φ.empty:=λk E=>by rw[Q]
   have aI:sp.top=6:=by rw[Q]
   clear Q;refine Zx.xY (y:=y) (sp:=sp) (G':=ay) (E:=Φ.empty) Z ap a8 aq ⟨Sub.refl _,Sub.empty _,Apart.Po _⟩ ((ar _ _).2 U) λaT=>?_;let ⟨ab,ah⟩:=ν ({y with spec:=upd y.spec s (some sp)}:Z0);have aU:({y with tok:=upd y.tok s (.par 0 0 .add),spec:=upd y.spec s (some sp),view:=upd y.view s none}:Z0)=ZW ab s (.par 0 0 .add) none 0:=by
    rw[ah];unfold ZW;simp only[a7]
   rw[aU];have au:Uw ab s sp:=by
    rw[ah];exact⟨Z,ap,upd_same ..,by rw[aI];decide,λK _=>Y.still K⟩
   have aV:∀v,Calm T (ZW ab s (.par 0 0 .Zg) v 0):=λv=>by
    rw[ah];refine⟨Z,ap,U,λK=>?_⟩;by_cases e:K=s
    .subst e;rw[Zn];exact .inl ⟨Y.none (by rw[aT];trivial),trivial⟩
    rw[Nm e];show _\/∃aA,T K=some (y.tok K,aA)/\upd y.spec s (some sp) K=some aA/\_;rw[upd_ne _ _ e];exact Y.own K
   have ai:=au.seq;refine V.here (x:=one _) (m:=3) (nt:=47) (S:=F) (B:=ag) (σ:=[Pz 0,WN,NY 0]) (env:=(7,.z (ptr s 0))::(6,.z (ptr m 0))::[(5,.Κ [.ms 2 0 0 0]),(3,.Κ (U7 g (UM P) 0)),(2,.Ο 1 1 0 0),(1,.Κ (Yo g))]) ?_
    ⟨f.holds,Y'.put (Y'.put f.Zt (d:=6) (by rw[f.size];omega) (.z (ptr m 0))) (d:=7) (by rw[Vh,f.size];omega) (.z (ptr s 0)),X3 (Vh ..) (X3 (Vh ..) f.size),Z3 _⟩ _ U
   apply V.Ys (ai _ _ _) U;apply W.ZK;refine W.seq (W.seq ?_);refine ο λaN ae=>?_;apply ae;apply W.block;refine .loop ?_;refine ο λaN ae=>?_;apply ae
   repeat apply Ζ
   refine Δ o ?_
   repeat apply Ζ
   refine W.exit U ?_
   repeat apply Ζ
   refine W.Zs (.stop ?_);refine V.call (ai _ _ _) ⟨U,U,by simp[Frame.enter],U⟩ U U U ⟨_,func80,U,U⟩ λcr a9 cs ct cu aw w hv=>?_;obtain rfl:=V8 (l:=[ptr s 0]) hv;rintro a' rfl;refine Dr au w.holds (n:=0) λba H' bG cv bH cw ao bI cx bJ bK aW cy cz cA cB cC cD bL ax=>?_;rw[VQ U];obtain rfl:=Dd (λk E=>(aH k E).1) bG bH bJ;let ⟨_,bM⟩:=bK (by rw[aq];simp);obtain rfl:=(ar _ _).1 bM;rw[Mw,Mw]at ax;let ⟨aB,aJ,aK⟩:=w.holds.back ao bI;let ⟨bN,bO⟩:=aB.P8 (λb aS=>ax.P8 aS) ax.grow;have bP:Ext an [] X ba a9 bL:=(az.trans aw.ext).trans (aJ.trans bO);refine V.here (x:=one _) (m:=0) (nt:=47) (S:=ba) (B:=a9) (σ:=[Pz 0,WN,NY 0]) (env:=[(3,.Κ (U7 g (UM P) 0)),(2,.Ο 1 1 0 0)]) ?_
    ⟨bN,Rk (Y'.later (Y'.put w.Zt (d:=45) (by rw[w.size];omega) (.z (.tuple #[]))) aK) o,X3 (Vh ..) w.size,Γ _⟩ _ U
   refine V.Ys (ai _ _ _) U ?_;refine W.ZK ?_;refine W.cut 2 (Γ _) [(3,.Κ (U7 g (UM P) 0)),(2,.Ο 1 1 0 0)] o (λid r bQ aj=>?_) (λp w=>?_) ?_
   .match id,bQ,aj with
    | 0,_,aj=>cases aj;simp[YO,Ψ.cells]
    | 1,_,aj=>cases aj;simp[YO,Ψ.cells]
   .simp only[YU,XW,or_false]at w;rcases w with rfl|rfl
    .exact .low (by simp[ε,S2])
    exact .low (by simp[ε,S3])
   refine W.bind (W.IB (xT (g:=g) (P:=P) (C:=[]) (n:=0) U)) λk e s ⟨aO,af,ao⟩=>?_;obtain⟨cE,rfl⟩:=aO;subst af;refine W.forget [(2,.Κ (Yl g P []))] (by simp[ao]) ?_;refine W.stop ?_;intro bb aX bc t5 aY ak;obtain rfl:aX=[]:=YY.1 ak.holds.len;refine η.ret (ai _ _ _) U U (η.back (ai _ _ _) U U (.inl U) func32 ?_);refine Ω.mono (λu bR ⟨bS,bT,bU,cF,bd,bV⟩=>?_) (λ_ _ h=>h) _ (Mc Τ (a:=Vj g P []) U ak.holds ak.Zt);obtain rfl:bT=[]:=YY.1 bd.len;rintro a' rfl;have be:=bP.trans (aY.ext.trans bU);exact a4.ret _ [] bS [] bR u ⟨.refl _,U⟩ be ⟨be.Za,λid r h=>by simp at h⟩ bd bV _ (aV _)
  let ⟨O,aC,al⟩:=CA f.holds (id:=0) (t:=22) (k:=1) U (by simp;omega)
  let ⟨R,ad,aD⟩:=CA f.holds (id:=1) (t:=80) (k:=15) (l:=[xX]) U o
  let ⟨M,aE,am⟩:=CA f.holds (id:=2) (t:=149) (k:=4) U (by simp;omega)
  have bf:=aR O (S5 al)
  have bg:=aR R (S5 aD)
  have bh:=aR M (S5 am)
  have bW:O≠R:=λe=>f.holds.inj 0 1 _ _ R aC ad θ U U trivial trivial (e▸al) aD
  have bX:R≠M:=λe=>f.holds.inj 1 2 _ _ M ad aE θ U U trivial trivial (e▸aD) am
  have bY:O≠M:=λe=>f.holds.inj 0 2 _ _ M aC aE θ U U trivial trivial (e▸al) am
  have bZ:=f.holds.row 0 _ _ U al
  have b0:=f.holds.row 2 _ _ U am
  have b1:=f.holds.sep 0 _ O aC U trivial al
  have b2:=f.holds.sep 2 _ M aE U trivial am
  let ⟨cG,b3,b4⟩:=xV (j:=0) (f.Zt 5) U;obtain⟨ca,rfl,cH,_⟩:=xU b3 (k:=4) (t:=149) U o aG am;let ⟨cI,b5,b6⟩:=xV (j:=14) (f.Zt 3) U;obtain⟨co,rfl,bi,bj⟩:=xU b5 (k:=1) (t:=22) U o aG al;have b7:Θ F ag [Pz n,WN,NY n] (.Κ [.z (Qq M n ca)]) (t2.getD 5 undef):=b4;have b8:Θ F ag [Pz n,WN,NY n] (.Κ (NZ g P O n co)) (t2.getD 3 undef):=b6;obtain⟨sp,Q⟩:∃sp:Spec,sp=⟨some m,LA aa F O aC M n (M6 C),λ_ E=>E=Φ.empty,6⟩:=⟨_,U⟩;have aq:sp.ZR=some m:=by rw[Q]
  have ar:sp.Yd=LA aa F O aC M n (M6 C):=by rw[Q]
  have aH:∀k E,sp.D k E↔E=Φ.empty:=λk E=>by rw[Q]
  have aI:sp.top=6:=by rw[Q]
  clear Q;refine Zx.xY (y:=y) (sp:=sp) Z ap a8 aq (mX (p:=λ_=>true) bZ.1) (by rw[ar];exact mO f.holds U al bf.1) λaT=>?_;let ⟨ab,ah⟩:=ν ({y with spec:=upd y.spec s (some sp)}:Z0);have aU:({y with tok:=upd y.tok s (.par 0 0 .add),spec:=upd y.spec s (some sp),view:=upd y.view s none}:Z0)=ZW ab s (.par 0 0 .add) none 0:=by
   rw[ah];unfold ZW;simp only[a7]
  rw[aU];have au:Uw ab s sp:=by
   rw[ah];exact⟨Z,ap,upd_same ..,by rw[aI];decide,λK _=>Y.still K⟩
  have aV:∀v,Calm T (ZW ab s (.par n 0 .Zg) v 0):=λv=>by
   rw[ah];refine⟨Z,ap,U,λK=>?_⟩;by_cases e:K=s
   .subst e;rw[Zn];exact .inl ⟨Y.none (by rw[aT];trivial),trivial⟩
   rw[Nm e];show _\/∃aA,T K=some (y.tok K,aA)/\upd y.spec s (some sp) K=some aA/\_;rw[upd_ne _ _ e];exact Y.own K
  have ai:=au.seq
  have b9:∀r∈[WN],Ts r:=λr aj=>by
   obtain rfl:r=WN:=by simpa using aj
   exact⟨_,_,_,U⟩
  have bk:Holds F [some (R,ad)] [WN] (ay.less O λ_=>true):=(f.holds.mR U aD (.inl ⟨_,_,_,U,o⟩) (by simp[YO,Ψ.cells])).less b9 b1 λN aW=>by
   simp at aW;exact bW aW.1
  have b':Ext an [] X F [some (R,ad)] (ay.less O λ_=>true):=Ext.less ⟨az.Za,az.XU,λb ⟨N,h⟩=>by simp at h;rw[h.1];exact .inr bg.2,az.S6,az.grow⟩ bf.2
  have cb:PA an X F aa M (149,aE) n WN 0 F [some (R,ad)] (ay.less O λ_=>true):=by
   refine⟨b',bk,λ_ _ _ h=>h,λb q v h=>.inl (by rw[h];simp),b2,b0.1,λcc _ cd=>?_,λb ⟨N,h⟩=>by simp at h;rw[h.1];exact⟨bg.1,bX⟩⟩;rw[IE (YX bY)];exact mN f.holds U am cc cd
  have ce:∀d i,i+d=n->∀(S:ζ)(B:ZZ)(H:Φ)(t:ZP)(v:Option (Nat×Z5)),PA an X F aa M (149,aE) n WN i S B H->Y' S B [WN] (M9 s m M O n ca co g P i) t->t.size=47->
    Zx prog a2 mn (ZW ab s (.par i 0 .add) v 0) (χ (Fw vs) t (.code OO::.inLoop OO::.inBlock 2::[.code (YN [1,1,1,1,1,1,1] Qo)])) (c::rest) H:=by
   intro d
   induction d with
   | zero=>
    intro i hi S B H t v av af aZ;obtain rfl:i=n:=J;exact mP au aq ar (λk E=>(aH k E).1) a1 bi (by simpa using bj) aQ bA J aV a4 av af aZ
   | succ d cf=>
    intro i hi S B H t v av af aZ;let ⟨aL,aM⟩:=bp i _ (ξ (show i<C.length by omega));have cg:@Μ Ye prog 77 [Wa g.Zz,I i,ZU g.lower] (.Z7 [δ I 1 (M6 C i),I aL]):=by
     have:M6 C i=C[i]'J:=by unfold M6;rw[XA,ξ J];rfl
     rw[this];exact aM
    exact mU au aq ar (λk=>(aH k _).2 U) aI a0 J bi (by simpa using bj) cg aQ bh.1 bh.2 ⟨_,_,_,U⟩ (by simp[YO,Ψ.cells]) (λS B H t v=>cf (i+1) J S B H t v) av af aZ
  have ci:Y' F [some (R,ad)] [WN] [(5,.Κ [.z (Qq M n ca)]),(3,.Κ (NZ g P O n co)),(2,.Ο 0 1 0 0),(1,.Κ (Yo g))] t2:=λk=>by
   simp only[ε];split
   .rename_i e;subst e;exact b7.any o _ _
   split
   .rename_i e;subst e;exact b8.any o _ _
   split
   .rename_i e;subst e;have bl:Θ F ag [Pz n,WN,NY n] (.Ο 1 1 0 0) (t2.getD 2 undef):=f.Zt 2;generalize t2.getD 2 undef=u at bl;cases bl with
    | Ο aB aJ aK=>
     cases aB;rw[aD]at aK;cases aK;exact .Ο (σ:=[WN]) (B:=[some (R,ad)]) U U U
    | Vo v aB aJ=>cases aB;simp[Row.W3]at aJ
   split
   .rename_i e;subst e;have cj:Θ F ag [Pz n,WN,NY n] (.Κ (Yo g)) (t2.getD 1 undef):=f.Zt 1;exact cj.any o _ _
   exact .Zl _
  refine V.here (x:=one _) (m:=1) (nt:=47) (S:=F) (B:=[some (R,ad)]) (σ:=[WN]) (env:=(7,.z (ptr s 0))::(6,.z (ptr m 0))::[(5,.Κ [.z (Qq M n ca)]),(3,.Κ (NZ g P O n co)),(2,.Ο 0 1 0 0),(1,.Κ (Yo g))]) ?_
   ⟨bk,Y'.put (Y'.put ci (d:=6) (by rw[f.size];omega) (.z (ptr m 0))) (d:=7) (by rw[Vh,f.size];omega) (.z (ptr s 0)),X3 (Vh ..) (X3 (Vh ..) f.size),Z3 _⟩ _ U
  refine V.Ys (ai _ _ _) U ?_;refine W.ZK ?_;refine W.seq (W.seq ?_);refine ο λaN ae=>?_;apply ae;refine W.block ?_;refine .loop (.stop ?_);intro bb aX bc t5 aY ak;rintro a' rfl;exact ce n 0 J bb aX bc t5 none (cb.step aQ aY.ext ak.holds) (Rk ak.Zt o) ak.size
 exact bs
end
end Go.TL
