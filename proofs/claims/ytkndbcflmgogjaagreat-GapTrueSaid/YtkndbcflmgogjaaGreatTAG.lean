import Derived.Sort.AssemblyPlain
import Derived.Sort.LotA
import Derived.Test.YtkndbcflmgogjaaGreatTAF
set_option linter.defProp false
set_option maxHeartbeats 16000000
set_option maxRecDepth 20000
set_option linter.unusedSectionVars false
set_option linter.unusedSimpArgs false
set_option linter.unusedVariables false
namespace Go.TL
open Go.Proofs.Tryz
open Go.Sort (SWO bitsLen insInner insOuter insertionSort insertionSort_holds ltInt sorted_unique_holds swo_ltInt swp)
open Go.Proofs
variable[Z8]
@[simp] theorem hn(x y:Int):(x != y) = !decide (x=y):=by rw[Pv];simp
section
variable{P:Program}{m nt:Nat}{k:Zk}{env:κ}{σ σ':Ρ}{Z:Xv}{E:XM}
def W.drop{h:Nat}(c:m<=h)(d:h<=σ.length)(e:∀(id:Nat)(r:Row),id<h->σ[id]?=some r->YO h r)(f:σ.take h=σ')(env':κ)(a:∀p∈env',ε env p.1=p.2/\ω h p.2)(g:W P m nt k env' σ' Z E):W P m nt k env σ Z E:=
 W.cut h c env' d e (λp b=>by rw[(a p b).1];exact .low (a p b).2) (by rw[f];exact g)
def W.fix{id:Nat}{t:TypeId}{e:Ψ}{kk:Nat}(i:m<=id)(f:σ[id]?=some (.cells t kk [e]))(j:∀a∈e.cells,ω id a)(l:∀(g:Nat)(r:Row),g<id->σ[g]?=some r->YO id r)(n:σ.take id=σ')(env':κ)
  (s:∀p∈env',(ε env p.1=p.2/\ω id p.2)\/(ε env p.1=.Ο id 1 0 0/\p.2=.Κ e.cells)) (u:W P m nt k env' σ' Z E):W P m nt k env σ Z E:=
 W.cut id i env' (RO (ZT.1 f).1) l (λp v=>by
  rcases s p v with⟨b,c⟩|⟨b,c⟩
  .rw[b];exact .low c
  rw[b,c];refine .Ο (Z3 _) f U (e:=e) U o λx a a' d h=>?_;rw[Vu]at d;rw[d]at h;cases h;exact .low (j a (ZD d))) (by rw[n];exact u)
def W.to{env':κ}(h:W P m nt k env' σ' Z E)(a:σ=σ')(b:∀p∈env',ε env p.1=p.2):W P m nt k env σ Z E:=a▸W.forget env' b h
end
abbrev L6(a b:Int):Int:=UX .i64 a b
abbrev Nr(a b:Int):Int:=RD .i64 a b
abbrev Gu(a b:Int):Int:=Mv .i64 a b
section
variable{P:Program}{σ:Ρ}
def WG.c{f:Ψ}{args:μ}{r:Ψ}{K E:Ψ->Ρ->Prop}(h:WG P f args r)(b:K r σ):Yi P f args σ K E:=
 Yi.mono (h σ) (λa s ⟨d,e⟩=>by subst d;subst e;exact b) (λ_ _ h=>h.elim)
end
def KH(n:Int):Bool:=decide (0<=n)&&decide (n<=2)
def sS(n:Int):Μ prog 220 [I n] (ZU (KH n)):=by
 refine Ν.body Τ func220 U U ntmps220 U U o ?_;by_cases h:0<=n
 .refine γ h ?_;refine W.Y0 ?_;simp[KH,h]
 refine γ h ?_;refine W.Y0 ?_;simp[KH,h]
def valid(n:Int):Bool:=decide (0<=n)&&decide (n<=63)
def Jn(n:Int):Μ prog 261 [I n] (ZU (valid n)):=by
 refine Ν.body Τ func261 U U ntmps261 U U o ?_;by_cases h:0<=n
 .refine γ h ?_;refine W.Y0 ?_;simp[valid,h]
 refine γ h ?_;refine W.Y0 ?_;simp[valid,h]
def Au(a b:Int):Μ prog 244 [I a,I b] (ZU (L6 a b==0)):=by
 refine Ν.body Τ func244 U U ntmps244 U U o ?_;refine Χ ?_;refine W.rt ?_;exact .of o
def As(a b:Int):Μ prog 243 [I a,I b] (ZU (Gu a b==0)):=by
 refine Ν.body Τ func243 U U ntmps243 U U o ?_;refine Χ ?_;refine W.rt ?_;exact .of o
def Ar(b:Bool):Μ prog 166 [ZU b] (I (if b then 1 else 0)):=by
 refine Ν.body Τ func166 U U ntmps166 U U o ?_;cases b
 .refine Χ ?_;refine Δ U ?_;refine Χ ?_;exact W.Nt
 refine Χ ?_;refine Β U ?_;refine Χ ?_;exact W.Nt
def D3(n:Int):Μ prog 254 [I n] (ZU false):=by
 refine Ν.body Τ func254 U U ntmps254 U U o ?_;refine Χ ?_;refine W.rt ?_;exact .of o
def idxOf{a:Type}(p:a->Bool)(l:List a):Int:=if l.any p then(l.findIdx p:Nat) else -1
def L5{b:Type}{p:b->Bool}{l:List b}{i:Nat}(h:i<l.length)(c:p l[i]=true)(e:∀j,j<i->(g:j<l.length)->p l[j]=false):idxOf p l=(i:Nat):=by
 have f:l.any p=true:=Ti.2 ⟨_,YW h,c⟩
 have:l.findIdx p=i:=by
  have k:¬l.findIdx p<i:=λa=>by
   have d:l.findIdx p<l.length:=J
   have:=List.findIdx_getElem (p:=p) (w:=d);rw[e _ a d]at this;cases this
  have m:¬i<l.findIdx p:=λa=>by
   have:=List.not_of_lt_findIdx a;rw[c]at this;simp at this
  omega
 unfold idxOf;rw[if_pos f,this]
def L4{a:Type}{p:a->Bool}{l:List a}(h:∀j,(b:j<l.length)->p l[j]=false):idxOf p l=-1:=by
 have:l.any p=false:=by
  rw[List.any_eq_false];intro x c;obtain⟨j,b,rfl⟩:=Qg c;simp[h j b]
 unfold idxOf;rw[this];rfl
def L3{a:Type}{p:a->Bool}{l:List a}:decide (idxOf p l>=0)=l.any p:=by
 unfold idxOf;cases h:l.any p<;>simp
def sR(l:ψ)(n:Int)(f:l.length<2 ^ 62):Μ prog 101 [δ I 1 l,I n] (I (idxOf (·==n) l)):=by
 refine Ν.body Τ func101 U U ntmps101 U U o ?_;refine Χ ?_;refine W.iter (λi:Nat=>i<=l.length/\∀j,j<i->(h:j<l.length)->(l[j]==n)=false) (λi=>[(0,δ I 1 l),(1,I n),(6,δ I 1 l),(7,I l.length),(8,I i)]) (λ_=>[]) (λi=>l.length-i) 0 ⟨Γ _,λj b=>J⟩ U o (λi hi g=>?_);refine Χ ?_;refine W.YD U (λa=>?_) (λa=>?_)
 .have a:i<l.length:=by simpa using a
  refine γ a ?_;refine W.YD U (λc=>?_) (λc=>?_)
  .have d:n=l[i]:=by simpa using c
   refine Χ ?_;refine W.Y0 ?_;rw[L5 a (by simp[d]) hi.2];rfl
  have d:¬n=l[i]:=by simpa using c
  refine Χ ?_;refine W.forget _ ?_ (g (i+1) ⟨J,λj b h=>?_⟩ J)
  .simp[YR a f]
  by_cases e:j=i
  .subst e;simpa using λx=>d x.symm
  exact hi.2 j J h
 have a:l.length<=i:=by simpa using a
 refine W.exit U ?_;refine Χ ?_;refine W.Y0 ?_;rw[L4 λj b=>hi.2 j J b];rfl
def any_beq(l:ψ)(n:Int):(l.any λx=>x==n)=l.contains n:=by
 rw[Pv];simp
def Aq(l:ψ)(n:Int)(a:l.length<2 ^ 62):Μ prog 56 [δ I 1 l,I n] (ZU (l.contains n)):=by
 refine Ν.body Τ func56 U U ntmps56 U U o ?_;refine Χ ?_;refine ο λc b=>?_;refine Μ.d (sR l n a) (ς ?_);apply b;refine Χ ?_;refine W.Y0 ?_;rw[<-any_beq,<-L3];rfl
@[simp high] theorem sQ{h:Nat}{e:Bool}{k:Nat}{c:Type}{f:c->Ψ}{l:List c}:ω h (.sl e k (l.map f))↔∀x∈l,∀a∈(f x).cells,ω h a:=by
 rw[TY];simp only[ZG];exact⟨λH x b=>H _ ⟨x,b,U⟩,λH e ⟨x,b,d⟩=>d▸H x b⟩
@[simp high] theorem hl{h:Nat}{e:Bool}{k n:Nat}{b:Type}{f:b->Ψ}{l:List b}:ω h (.sl e k ((l.map f).take n))↔∀x∈l.take n,∀a∈(f x).cells,ω h a:=by
 rw[<-J4];exact sQ
abbrev Y6(r:Int×Int):Ψ:=.Z' [I r.1,I r.2]
abbrev KG(l:List Wm):Ψ:=δ Y6 2 l
abbrev Gt(l:List (List Wm)):Ψ:=δ KG 1 l
structure Found where
 u:Int
 v:Int
 cells:List (List Wm)
deriving DecidableEq
abbrev Wz:=List Found
abbrev YB(f:Found):Ψ:=.Z' [I f.u,I f.v,Gt f.cells]
abbrev Va(l:Wz):Ψ:=δ YB 3 l
def Zm.of(s:Zm)(g:Int):Int:=if g<0 then 0 else((s.Z2[g.toNat]?).map (·.X8)).getD 0
def Gw(s:Zm)(g:Int)(c:g<s.Z2.length):Μ prog 262 [Wa s,I g] (I (s.of g)):=by
 refine Ν.body Τ func262 U U ntmps262 U U o ?_;refine Χ ?_;refine W.YD U (λa=>?_) (λa=>?_)
 .have a:g<0:=by simpa using a
  refine Χ ?_;refine W.Y0 ?_;rw[show s.of g=0 by simp[Zm.of,a]];rfl
 have a:¬g<0:=by simpa using a
 obtain⟨n,rfl⟩:∃n:Nat,g=n:=⟨g.toNat,J⟩;have b:n<s.Z2.length:=J;refine γ b ?_;refine W.Y0 ?_;rw[show s.of n=s.Z2[n].X8 by simp[Zm.of,b];intro h;omega];rfl
def Zm.TX(s:Zm)(p r:Int×Int)(b:Nat):Int:=
 let l:=(s.ZE[b]?).getD []
 let a:=if l.contains p.1 then Nr 0 (s.of r.1) else 0
 if l.contains p.2 then Nr a (s.of r.2) else a
def sP(s:Zm)(j:s.small)(p r:Int×Int)(n:Nat)(f:n<s.ZE.length)(k:r.1<s.Z2.length)(l:r.2<s.Z2.length) :
  Μ prog 242 [Wa s,Y6 p,Y6 r,I n] (I (s.TX p r n)):=by
 refine Ν.body Τ func242 U U ntmps242 U U o ?_;have h:s.ZE[n].length<2 ^ 62:=by have:=j.2.2.2.1 _ (YW f);omega
 refine Χ ?_;refine W.iter (λq:Nat×Int=>q.1<=2/\(q.1=0->q.2=0)/\(q.1=1->q.2=if s.ZE[n].contains p.1 then Nr 0 (s.of r.1) else 0)/\(q.1=2->q.2=s.TX p r n))
  (λq=>[(3,I n),(4,XC s),(5,.Κ [I p.1,I p.2]),(6,.Κ [I r.1,I r.2]),(9,I q.2),(12,Y6 p),(13,I q.1)]) (λ_=>[]) (λq=>2-q.1) (0,0) ⟨J,o,o,o⟩ U o (λq hi a=>?_)
 rcases q with⟨i,x⟩
 match i,hi,a with
 | 0,hi,a=>
  have c:x=0:=hi.2.1 U;subst c;refine Χ ?_;refine Β U ?_;refine Χ ?_;refine YC f λg e=>?_;refine Μ.d (Aq s.ZE[n] p.1 h) (ς ?_);apply e;by_cases b:p.1∈s.ZE[n]
  .refine Β (by simp[b]) ?_;refine Χ ?_;refine W.draw (A:=[]) Τ mixed λg e=>Rt ?_;refine Wf (Μ.q (Gw s r.1 k)) (Rt ?_);refine X5 (e _ _ ?_);refine Χ ?_;refine W.forget _ ?_ (a (1,Nr 0 (s.of r.1)) ⟨o,o,by simp[b],o⟩ o);simp[D6]
  refine Δ (by simp[b]) ?_;refine Χ ?_;refine W.forget _ ?_ (a (1,0) ⟨o,o,by simp[b],o⟩ o);simp[D6]
 | 1,hi,a=>
  have c:=hi.2.2.1 U;simp at c;refine Χ ?_;refine Β U ?_;refine Χ ?_;refine YC f λg e=>?_;refine Μ.d (Aq s.ZE[n] p.2 h) (ς ?_);apply e;by_cases b:p.2∈s.ZE[n]
  .refine Β (by simp[b]) ?_;refine Χ ?_;refine W.draw (A:=[]) Τ mixed λg e=>Rt ?_;refine Wf (Μ.q (Gw s r.2 l)) (Rt ?_);refine X5 (e _ _ ?_);refine Χ ?_;refine W.forget _ ?_ (a (2,Nr x (s.of r.2)) ⟨o,o,o,λ_=>by simp only[Zm.TX,ξ f];simp[b,c]⟩ o);simp[D5]
  refine Δ (by simp[b]) ?_;refine Χ ?_;refine W.forget _ ?_ (a (2,x) ⟨o,o,o,λ_=>by simp only[Zm.TX,ξ f];simp[b,c]⟩ o);simp[D5]
 | 2,hi,a=>
  have c:=hi.2.2.2 U;refine Χ ?_;refine Δ U ?_;refine W.exit U ?_;refine Χ ?_;refine W.Y0 ?_;rw[<-show x=s.TX p r n from c];rfl
 | i+3,hi,a=>exact absurd hi.1 o
def Zm.Nq(s:Zm)(p r:Int×Int)(x:Xo):Bool:=Gu x.seen (s.TX p r x.Xn.toNat)==0&&L6 (s.TX p r x.Xn.toNat) x.bare==0
def Zm.KF(s:Zm)(p r:Int×Int)(c:Nat):Bool:=((s.cells[c]?).getD []).all (s.Nq p r)
def sO(s:Zm)(t:s.small)(p r:Int×Int)(c:Nat)(k:c<s.cells.length)(hv:∀x∈s.cells[c],0<=x.Xn/\x.Xn<s.ZE.length)(w:r.1<s.Z2.length)(y:r.2<s.Z2.length) :
  Μ prog 222 [Wa s,Y6 p,Y6 r,I c] (ZU (s.KF p r c)):=by
 refine Ν.body Τ func222 U U ntmps222 U U o ?_;have B:s.cells[c].length<2 ^ 62:=by have:=t.2.2.2.2 _ (YW k);omega
 have C:s.KF p r c=s.cells[c].all (s.Nq p r):=by simp[Zm.KF,k]
 rw[C];refine γ k ?_;refine W.iter (λi:Nat=>i<=s.cells[c].length/\∀j,j<i->(h:j<s.cells[c].length)->s.Nq p r s.cells[c][j]=true)
  (λi=>[(4,XC s),(5,.Κ [I p.1,I p.2]),(6,.Κ [I r.1,I r.2]),(17,TA s.cells[c]),(18,I s.cells[c].length),(19,I i)]) (λ_=>[]) (λi=>s.cells[c].length-i) 0 ⟨J,λj l=>J⟩ U o (λi hi D=>?_)
 refine Χ ?_;refine W.YD U (λa=>?_) (λa=>?_)
 .have a:i<s.cells[c].length:=by simpa using a
  have u:=hv _ (YW a);obtain⟨n,v⟩:∃n:Nat,s.cells[c][i].Xn=n:=⟨s.cells[c][i].Xn.toNat,J⟩;have E:n<s.ZE.length:=J;have ZX:s.Nq p r s.cells[c][i]=(Gu s.cells[c][i].seen (s.TX p r n)==0&&L6 (s.TX p r n) s.cells[c][i].bare==0):=by simp[Zm.Nq,v]
  repeat apply Ζ
  refine ZB (A:=[10]) Τ λm b=>Wb a ?_;apply b
  repeat apply Ζ
  refine YC v λm b=>?_;refine Μ.d (sP s t p r n E w y) (ς ?_);apply b
  repeat apply Ζ
  by_cases f:Gu s.cells[c][i].seen (s.TX p r n)=0
  .refine YC @f λm b=>?_;refine Μ.d (As s.cells[c][i].seen (s.TX p r n)) (Wb @f ?_);refine Μ.d (Au (s.TX p r n) s.cells[c][i].bare) (ς ?_);apply b;by_cases g:L6 (s.TX p r n) s.cells[c][i].bare=0
   .refine Δ (by simp[g]) ?_;refine Χ ?_;refine W.drop (h:=0) (Γ _) (Γ _) o U _ ?_ (D (i+1) ⟨J,λj l h=>?_⟩ J)
    .simp[YR a B]
    by_cases e:j=i
    .subst e;rw[ZX];simp[f,g]
    exact hi.2 j J h
   refine Β (by simp[g]) ?_;refine Χ ?_;refine W.drop (h:=0) (Γ _) (Γ _) o U [(8,ZU false)] o ?_;refine W.Y0 ?_;rw[show s.cells[c].all (s.Nq p r)=false from List.all_eq_false.2 ⟨_,YW a,by rw[ZX];simp[g]⟩];rfl
  refine YC @f λm b=>?_;refine Μ.d (As s.cells[c][i].seen (s.TX p r n)) (Wb @f ?_);apply b;refine Β o ?_;refine Χ ?_;refine W.drop (h:=0) (Γ _) (Γ _) o U [(8,ZU false)] o ?_;refine W.Y0 ?_;rw[show s.cells[c].all (s.Nq p r)=false from List.all_eq_false.2 ⟨_,YW a,by rw[ZX];simp[f]⟩];rfl
 have a:s.cells[c].length<=i:=by simpa using a
 refine W.exit U ?_;refine Χ ?_;refine W.ret ⟨_,U,?_,U⟩;refine .of ?_;rw[show s.cells[c].all (s.Nq p r)=true from Xk.2 λx u=>by
  obtain⟨j,l,rfl⟩:=Qg u;exact hi.2 j J l]
 rfl
def QH(l:List (List Wm))(a:Int)(i:Nat):Nat:=((List.range i).map λj:Nat=>if(j:Int)=a then 1 else((l[j]?).getD []).length).prod
def sN(l:List (List Wm))(a:Int)(i:Nat):QH l a (i+1)=QH l a i*(if(i:Int)=a then 1 else((l[i]?).getD []).length):=by
 unfold QH;rw[Ur,WT,List.prod_append];simp
def Found.many(f:Found)(a:Int):Nat:=QH f.cells a f.cells.length
def Yh{n:Nat}(h:n<2 ^ 62):IntKind.i64.wrap (n:Int)=n:=IntWalk.i64_in _ J
def sM(f:Found)(b:Int)(d:f.cells.length<2 ^ 62)(j:∀i,i<=f.cells.length->QH f.cells b i<2 ^ 62) :
  Μ prog 183 [YB f,I b] (I (f.many b)):=by
 refine Ν.body Τ func183 U U ntmps183 U U o ?_;refine Χ ?_;refine W.iter (λi:Nat=>i<=f.cells.length) (λi=>[(1,I b),(5,I (QH f.cells b i)),(9,Gt f.cells),(10,I f.cells.length),(11,I i)]) (λ_=>[]) (λi=>f.cells.length-i) 0 (Γ _) U (by simp[QH]) (λi hi e=>?_);refine Χ ?_;refine W.YD U (λa=>?_) (λa=>?_)
 .have a:i<f.cells.length:=by simpa using a
  have c:=sN f.cells b i
  have h:=j (i+1) a;refine γ a ?_;by_cases g:(i:Int)=b
  .refine Δ (by simp[g]) ?_;refine Χ ?_;refine W.forget _ ?_ (e (i+1) a J);rw[c,if_pos g];simp[YR a d]
  refine Β (by simp[g]) ?_;have hv:QH f.cells b i*f.cells[i].length<2 ^ 62:=by rw[c,if_neg g]at h;simpa[a] using h
  refine γ a ?_;refine W.forget _ ?_ (e (i+1) a J);rw[c,if_neg g];simp only[ξ a,Option.getD_some];have:=Yh hv;simp[YR a d]at this ⊢;simp[this]
 have a:i=f.cells.length:=by simp at a;omega
 subst a;refine W.exit U ?_;refine Χ ?_;refine W.rt ?_;exact .of U
def QG(a b:Int):Int:=if a<b then -1 else if b<a then 1 else 0
def sL(a b:Int):Μ prog 226 [I a,I b] (I (QG a b)):=by
 refine Ν.body Τ func226 U U ntmps226 U U o ?_;refine Χ ?_;refine ο λg f=>?_;refine Μ.d (D3 a) (ς ?_);apply f;refine ο λg f=>?_;refine Μ.d (D3 b) (ς ?_);apply f;refine Χ ?_;refine Δ U ?_;refine Χ ?_;refine Δ U ?_;refine Χ ?_;refine W.YD U (λc=>?_) (λc=>?_)
 .have c:a<b:=by simpa using c
  refine Χ ?_;refine W.Y0 ?_;rw[show QG a b=-1 by simp[QG,c]];rfl
 have c:¬a<b:=by simpa using c
 refine Χ ?_;refine W.YD U (λe=>?_) (λe=>?_)
 .have e:b<a:=by simpa using e
  refine Χ ?_;refine W.Y0 ?_;rw[show QG a b=1 by simp[QG,c,e]];rfl
 have e:¬b<a:=by simpa using e
 refine Χ ?_;refine W.Y0 ?_;rw[show QG a b=0 by simp[QG,c,e]];rfl
def Oj(a b:Int):Μ prog 237 [I a,I b] (ZU (decide (a<b))):=by
 refine Ν.body Τ func237 U U ntmps237 U U o ?_;refine Χ ?_;refine ο λe c=>?_;refine Μ.d (D3 a) (ς ?_);apply c;refine Χ ?_;refine W.Y0 ?_;rw[show decide (a<b)=decide (a<b) from rfl];rfl
def QF:ψ->ψ->Int
 | [],[]=>0
 | [],_::_=>-1
 | _::_,[]=>1
 | a::l,b::m=>if QG a b≠0 then QG a b else QF l m
def Ap(a b:ψ)(k:a.length<2 ^ 62):Μ prog 186 [δ I 1 a,δ I 1 b] (I (QF a b)):=by
 refine Ν.body Τ func186 U U ntmps186 U U o ?_;refine Χ ?_;refine W.iter (λi:Nat=>i<=a.length/\i<=b.length/\QF a b=QF (a.drop i) (b.drop i)) (λi=>[(0,δ I 1 a),(1,δ I 1 b),(9,δ I 1 a),(10,I a.length),(11,I i)]) (λ_=>[]) (λi=>a.length-i) 0 ⟨J,J,o⟩ U o (λi hi l=>?_);obtain⟨n,p,j⟩:=hi;refine Χ ?_;refine W.YD U (λc=>?_) (λc=>?_)
 .have c:i<a.length:=by simpa using c
  have h:a.drop i=a[i]::a.drop (i+1):=Pw c;refine γ c ?_;refine W.YD U (λe=>?_) (λe=>?_)
  .have e:b.length<=i:=by simp at e;omega
   refine Χ ?_;have f:b.drop i=[]:=OH e;refine W.Y0 ?_;rw[show QF a b=1 by rw[j,h,f];rfl];rfl
  have e:i<b.length:=by simp at e;omega
  have f:b.drop i=b[i]::b.drop (i+1):=Pw e
  repeat apply Ζ
  refine Ns e ?_;refine ο λr m=>?_;refine Μ.d (sL a[i] b[i]) (ς ?_);apply m;refine Χ ?_;by_cases g:QG a[i] b[i]=0
  .refine Δ (by simp[g]) ?_;refine Χ ?_;refine W.forget _ ?_ (l (i+1) ⟨c,e,?_⟩ J)
   .simp[YR c k]
   rw[j,h,f,QF,if_neg (by simpa using g)]
  refine Β (by simp[g]) ?_;refine Χ ?_;refine W.Y0 ?_;rw[show QF a b=QG a[i] b[i] by rw[j,h,f,QF,if_pos g]];rfl
 have c:i=a.length:=by simp at c;omega
 have h:a.drop i=[]:=OH J;refine W.exit U ?_;refine Χ ?_;by_cases g:a.length<b.length
 .refine Β (by simp[g]) ?_;refine Χ ?_;have f:b.drop i=b[i]::b.drop (i+1):=Pw J;refine W.Y0 ?_;rw[show QF a b=-1 by rw[j,h,f];rfl];rfl
 refine Δ (by simp[g]) ?_;refine Χ ?_;have f:b.drop i=[]:=OH J;refine W.Y0 ?_;rw[show QF a b=0 by rw[j,h,f];rfl];rfl
def P0(x y:Int×Int):Int:=QF [x.1,x.2] [y.1,y.2]
def sK(x y:Int×Int):Μ prog 224 [Y6 x,Y6 y] (I (P0 x y)):=by
 refine Ν.body Τ func224 U U ntmps224 U U o ?_;refine Χ ?_;refine W.draw (A:=[]) Τ mixed λb a=>Rt ?_;refine Wf (Μ.p (Ap [x.1,x.2] [y.1,y.2] o) (.cons .ex (.cons .ex .nil)) o o) ?_;simp;(repeat (rw[Y3];simp));try rw[YL]
 refine X5 (a _ _ ?_);refine Χ ?_;refine W.rt ?_;exact .of U
def sJ(x y:Found):Μ prog 185 [YB x,YB y] (I (P0 (x.u,x.v) (y.u,y.v))):=by
 refine Ν.body Τ func185 U U ntmps185 U U o ?_;refine Χ ?_;refine W.draw (A:=[]) Τ mixed λb a=>Rt ?_;refine Wf (Μ.p (Ap [x.u,x.v] [y.u,y.v] o) (.cons .ex (.cons .ex .nil)) o o) ?_;simp;(repeat (rw[Y3];simp));try rw[YL]
 refine X5 (a _ _ ?_);refine Χ ?_;refine W.rt ?_;exact .of U
def ω.WE{a:Ψ}(h:ω 0 a)(ρ:Z6):WE ρ a=a:=by
 cases h with
 | Ο h=>omega
 | ms h=>omega
 | mp h=>omega
 | it h=>omega
 | _=>rfl
def Gs{l:μ}(h:∀a∈l,ω 0 a)(ρ:Z6):l.map (WE ρ)=l:=by
 induction l with
 | nil=>rfl
 | cons a l b=>rw[WY,(h a o).WE,b λx c=>h x (by simp[c])]
def ω.Yt{a:Ψ}(h:ω 0 a)(ρ:Z6):Yt ρ a=a:=by
 have b:=h;cases h with
 | Z' h=>simp only[Go.TL.Yt];rw[Gs h]
 | Z7 h=>simp only[Go.TL.Yt];rw[Gs h]
 | fn c d=>simp only[Go.TL.Yt];rw[Gs c,Gs d]
 | _=>exact b.WE ρ
def ω.top{a:Ψ}(h:ω 0 a)(n:Nat):Ol n a:=by
 have b:=h;cases h with
 | Ο h=>omega
 | ms h=>omega
 | mp h=>omega
 | it h=>omega
 | _=>exact b
def ω.U'{a:Ψ}(h:ω 0 a)(n:Nat):Xc n a:=by
 have c:=h;cases h with
 | Z' h=>exact λa b=>(h a b).top n
 | Z7 h=>exact λa b=>(h a b).top n
 | fn d e=>exact⟨λa b=>(d a b).top n,λa b=>(e a b).top n⟩
 | _=>exact c.top n
def Uj{h id n i len:Nat}:Xc h (.ms id n i len)↔id<h:=Iff.rfl
def PZ{h:Nat}{v:Value}:Xc h (.z v)↔True:=⟨λ_=>trivial,λ_=>(ω.z v).U' h⟩
def Ui{ρ:Z6}{id n i len:Nat}:Yt ρ (.ms id n i len)=.ms (ρ.getD id 0) n i len:=rfl
def TW{ρ:Z6}{v:Value}:Yt ρ (.z v)=.z v:=rfl
section
variable{P:Program}{σ:Ρ}
def Ν.one{g:FuncId}{as0:μ}{c row':Row}{r:Ψ}{K E:Ψ->Ρ->Prop}(h:Ν P g as0 [c] (λa s=>a=r/\s=[row']) (λ_ _=>False))(id:Nat)(f:σ[id]?=some c)(k:S0 c)(l:S0 row')(m:∀a∈as0,Xc 1 a)(b:Xc 1 r)
  {args:μ} (n:args=as0.map (Yt [id])) (p:K (Yt [id] r) (σ.set id row')):Yi P (.fn (.func g) [] []) args σ K E:=by
 subst n;have t:=Ν.rows (σ:=σ) h [id] o U (λj i d=>by
  cases j with
  | zero=>simp at d;subst d;exact f
  | succ j=>simp at d) (λr b=>by simp at b;subst b;exact k) (by simpa using m) (K':=K) (E':=E) (λa s ⟨u,v⟩=>by
   subst u;subst v;refine⟨λx e=>by simp at e;subst e;exact l,b,?_⟩;simpa[names,Ss,VC] using p) (λa s h=>h.elim)
 exact Ν.call (first:=[]) (captured:=[]) (by simpa using t)
end
section
variable{P:Program}{σ:Ρ}
def Ν.D2{g:FuncId}{as0:μ}{c:Row}{K0 K E:Ψ->Ρ->Prop}(h:Ν P g as0 [c] K0 (λ_ _=>False))(id:Nat)(f:σ[id]?=some c)(k:S0 c)(l:∀a∈as0,Xc 1 a)
  {args:μ} (m:args=as0.map (Yt [id])) (n:∀a s,K0 a s->∃row',s=[row']/\S0 row'/\Xc 1 a/\K (Yt [id] a) (σ.set id row')):Yi P (.fn (.func g) [] []) args σ K E:=by
 subst m;have p:=Ν.rows (σ:=σ) h [id] o U (λj i d=>by
  cases j with
  | zero=>simp at d;subst d;exact f
  | succ j=>simp at d) (λr b=>by simp at b;subst b;exact k) (by simpa using l) (K':=K) (E':=E) (λa s t=>by
   obtain⟨row',rfl,u,b,v⟩:=n a s t;refine⟨λx e=>by simp at e;subst e;exact u,b,?_⟩;simpa[names,Ss,VC] using v) (λa s h=>h.elim)
 exact Ν.call (first:=[]) (captured:=[]) (by simpa using p)
end
def Pa{b:Type}{f:b->Ψ}{t k:Nat}{l:List b}(h:∀x,∀a∈(f x).cells,ω 0 a):S0 (.cells t k (l.map f)):=λe c a d=>by
 obtain⟨x,_,rfl⟩:=ZG.1 c;exact h x a d
def Yx.part{id k m:Nat}{σ:Ρ}{t:TypeId}{l l2:μ}(h:σ[id]?=some (.cells t k (l++l2)))(i:l.length=m)(n:∀e∈l,∀a∈e.cells,ω 0 a):Yx 0 σ (.ms id (l++l2).length 0 m) (.sl false k l):=by
 subst i;refine .ms (Γ _) h U o U (λj e p c b=>?_) (λj e p c b x a a' f g=>?_)
 .have d:=(ZT.1 b).1;rw[Vu,YT d]at c;rw[c]at b;cases b;rfl
 have d:=(ZT.1 b).1;rw[Vu,YT d]at c;rw[c]at b;cases b;rw[f]at g;cases g;exact .low (n e (ZD c) a (ZD f))
def Rs{a:Type}[Inhabited a]{d:Array a}{i:Nat}(h:i<d.size):d[i]?=some d[i]!:=by simp[h]
def Zh{a:Type}(b:a->a->Int)(x y:a):Bool:=decide (b x y<0)
instance:Inhabited Found:=⟨⟨0,0,[]⟩⟩
def sI(d n a b)(V:d.size=n)(ag:a<=b)(ah:b<=n)(ai:n<2 ^ 40)(l c)(aj:ω 0 l)(X:∀x y,WG prog l [Y6 x,Y6 y] (I (c x y))) :
  Ν prog 263 [.ms 0 n 0 n,I a,I b,l] [.cells 246 2 (d.toList.map Y6)] (λr s=>r=.Z7 []/\s=[.cells 246 2 ((insertionSort (Zh c) d a b).toList.map Y6)]) (λ_ _=>False):=by
 apply Ν.body Τ func263 U U ntmps263 U U o;refine Χ ?_;have Y:=Yh (show a+1<2 ^ 62 by omega);refine W.iter (λq=>q.2.size=n/\insOuter (Zh c) a b q.1 q.2=insertionSort (Zh c) d a b) (λq=>[(0,.ms 0 n 0 n),(1,I a),(2,I b),(3,l),(8,I q.1)]) (λq=>[.cells 246 2 (q.2.toList.map Y6)]) (λq=>b-q.1) (a+1,d) ⟨V,U⟩ U (by simpa using Y) (λq hi K=>?_);let ⟨i,e⟩:=q;let ⟨M,C⟩:=hi;simp only at M C;refine Χ ?_;by_cases t:i<b
 .apply Β (by simp[t]);refine Χ ?_;refine W.iter (λq=>q.2.size=n/\q.1<=i/\insInner (Zh c) a q.1 q.2=insInner (Zh c) a i e) (λq=>[(0,.ms 0 n 0 n),(1,I a),(2,I b),(3,l),(8,I i),(9,I q.1)]) (λq=>[.cells 246 2 (q.2.toList.map Y6)]) (λq=>q.1) (i,e) ⟨M,Z3 _,U⟩ U o (λq g Z=>?_);let ⟨j,f⟩:=q;let ⟨m,aa,D⟩:=g;simp only at m aa D;have N:insInner (Zh c) a j f=f->insOuter (Zh c) a b (i+1) f=insertionSort (Zh c) d a b:=λhd=>by
   rw[<-C,<-hd,D];conv=>rhs;rw[insOuter,if_pos t]
  let ⟨L,k⟩:=ν (f.toList.map Y6)
  have O:L.length=n:=by rw[k];simpa using m
  refine W.to (σ':=[.cells 246 2 L]) (env':=[(0,.ms 0 n 0 n),(1,I a),(2,I b),(3,l),(8,I i),(9,I j)]) ?_ (by rw[k]) o
  repeat apply Ζ
  by_cases g:a<j
  .obtain⟨p,P⟩:∃p,j=p+1:=⟨j-1,J⟩;have E:IntKind.i64.wrap (j-1)=p:=by have:=Yh (show p<2 ^ 62 by omega);rw[P];simpa using this
   have Q:j<n:=J
   have R:p<n:=J
   have ab:¬j=p:=J
   let ⟨x,u⟩:=ν (f[j]!)
   let ⟨y,v⟩:=ν (f[p]!)
   have F:L[j]?=some (Y6 x):=by rw[k,u,YK,Xf,Rs J];rfl
   have H:L[p]?=some (Y6 y):=by rw[k,v,YK,Xf,Rs J];rfl
   have S:∀h,L[j]=Y6 x:=λh=>by have:=F;rw[ξ h]at this;exact Xq this
   have T:∀h,L[p]=Y6 y:=λh=>by have:=H;rw[ξ h]at this;exact Xq this
   have w:insInner (Zh c) a j f=if Zh c x y=true then insInner (Zh c) a p (swp f j p) else f:=by
    subst P;rw[insInner,u,v];simp[g]
   have ad:(swp f j p).toList.map Y6=(L.set j (Y6 y)).set p (Y6 x):=by rw[k,u,v];simp[swp]
   have sz:(swp f j p).size=n:=by simp[swp,m]
   have ae:=k;clear u v;refine W.draw (A:=[]) Τ mixed λak af=>SY (Ξ g (Ξ E (Ξ O (Ξ Q (Ξ R (Ξ F (Ξ H (Ξ S T)))))))) ?_;apply Wf (X x y);simp;(repeat (rw[Y3];simp));try rw[YL]
   refine X5 (af _ _ ?_);by_cases B:c x y<0
   .apply Β (by simp[B])
    repeat apply Ζ
    refine VB (Ξ g (Ξ E (Ξ O (Ξ Q (Ξ R (Ξ F (Ξ H (Ξ S (Ξ T ab))))))))) ?_;refine Χ ?_;refine W.to (Z (p,swp f j p) ⟨sz,by simp;omega,?_⟩ (by simp;omega)) ?_ ?_
    .rw[<-D,w,if_pos (by simp[Zh,ltInt,B])]
    .rw[ad]
    simp[E]
   apply Δ (by simp[B]);apply W.exit U;refine Χ ?_;apply W.to (K (i+1,f) ⟨m,N (by rw[w,if_neg (by simp[Zh,ltInt,B])])⟩ (by simp;omega)) (by rw[ae]);have:=Yh (show i+1<2 ^ 62 by omega);simpa using this
  have w:insInner (Zh c) a j f=f:=by
   cases j with
   | zero=>rfl
   | succ p=>rw[insInner];simp[g]
  refine VB g ?_;apply Δ U;apply W.exit U;refine Χ ?_;apply W.to (K (i+1,f) ⟨m,N w⟩ (by simp;omega)) (by rw[k]);have:=Yh (show i+1<2 ^ 62 by omega);simpa using this
 apply Δ (by simp[t]);apply W.exit U;have Υ:insOuter (Zh c) a b i e=e:=by rw[insOuter,if_neg t]
 exact W.nil ⟨_,U,U,by rw[<-C,Υ]⟩
def sH(d n a b)(V:d.size=n)(ag:a<=b)(ah:b<=n)(ai:n<2 ^ 40)(l c)(aj:ω 0 l)(X:∀x y,WG prog l [YB x,YB y] (I (c x y))) :
  Ν prog 246 [.ms 0 n 0 n,I a,I b,l] [.cells 173 3 (d.toList.map YB)] (λr s=>r=.Z7 []/\s=[.cells 173 3 ((insertionSort (Zh c) d a b).toList.map YB)]) (λ_ _=>False):=by
 apply Ν.body Τ func246 U U ntmps246 U U o;refine Χ ?_;have Y:=Yh (show a+1<2 ^ 62 by omega);refine W.iter (λq=>q.2.size=n/\insOuter (Zh c) a b q.1 q.2=insertionSort (Zh c) d a b) (λq=>[(0,.ms 0 n 0 n),(1,I a),(2,I b),(3,l),(8,I q.1)]) (λq=>[.cells 173 3 (q.2.toList.map YB)]) (λq=>b-q.1) (a+1,d) ⟨V,U⟩ U (by simpa using Y) (λq hi K=>?_);let ⟨i,e⟩:=q;let ⟨M,C⟩:=hi;simp only at M C;refine Χ ?_;by_cases t:i<b
 .apply Β (by simp[t]);refine Χ ?_;refine W.iter (λq=>q.2.size=n/\q.1<=i/\insInner (Zh c) a q.1 q.2=insInner (Zh c) a i e) (λq=>[(0,.ms 0 n 0 n),(1,I a),(2,I b),(3,l),(8,I i),(9,I q.1)]) (λq=>[.cells 173 3 (q.2.toList.map YB)]) (λq=>q.1) (i,e) ⟨M,Z3 _,U⟩ U o (λq g Z=>?_);let ⟨j,f⟩:=q;let ⟨m,aa,D⟩:=g;simp only at m aa D;have N:insInner (Zh c) a j f=f->insOuter (Zh c) a b (i+1) f=insertionSort (Zh c) d a b:=λhd=>by
   rw[<-C,<-hd,D];conv=>rhs;rw[insOuter,if_pos t]
  let ⟨L,k⟩:=ν (f.toList.map YB)
  have O:L.length=n:=by rw[k];simpa using m
  refine W.to (σ':=[.cells 173 3 L]) (env':=[(0,.ms 0 n 0 n),(1,I a),(2,I b),(3,l),(8,I i),(9,I j)]) ?_ (by rw[k]) o
  repeat apply Ζ
  by_cases g:a<j
  .obtain⟨p,P⟩:∃p,j=p+1:=⟨j-1,J⟩;have E:IntKind.i64.wrap (j-1)=p:=by have:=Yh (show p<2 ^ 62 by omega);rw[P];simpa using this
   have Q:j<n:=J
   have R:p<n:=J
   have ab:¬j=p:=J
   let ⟨x,u⟩:=ν (f[j]!)
   let ⟨y,v⟩:=ν (f[p]!)
   have F:L[j]?=some (YB x):=by rw[k,u,YK,Xf,Rs J];rfl
   have H:L[p]?=some (YB y):=by rw[k,v,YK,Xf,Rs J];rfl
   have S:∀h,L[j]=YB x:=λh=>by have:=F;rw[ξ h]at this;exact Xq this
   have T:∀h,L[p]=YB y:=λh=>by have:=H;rw[ξ h]at this;exact Xq this
   have w:insInner (Zh c) a j f=if Zh c x y=true then insInner (Zh c) a p (swp f j p) else f:=by
    subst P;rw[insInner,u,v];simp[g]
   have ad:(swp f j p).toList.map YB=(L.set j (YB y)).set p (YB x):=by rw[k,u,v];simp[swp]
   have sz:(swp f j p).size=n:=by simp[swp,m]
   have ae:=k;clear u v;refine W.draw (A:=[]) Τ mixed λak af=>SY (Ξ g (Ξ E (Ξ O (Ξ Q (Ξ R (Ξ F (Ξ H (Ξ S T)))))))) ?_;apply Wf (X x y);simp;(repeat (rw[Y3];simp));try rw[YL]
   refine X5 (af _ _ ?_);by_cases B:c x y<0
   .apply Β (by simp[B])
    repeat apply Ζ
    refine VB (Ξ g (Ξ E (Ξ O (Ξ Q (Ξ R (Ξ F (Ξ H (Ξ S (Ξ T ab))))))))) ?_;refine Χ ?_;refine W.to (Z (p,swp f j p) ⟨sz,by simp;omega,?_⟩ (by simp;omega)) ?_ ?_
    .rw[<-D,w,if_pos (by simp[Zh,ltInt,B])]
    .rw[ad]
    simp[E]
   apply Δ (by simp[B]);apply W.exit U;refine Χ ?_;apply W.to (K (i+1,f) ⟨m,N (by rw[w,if_neg (by simp[Zh,ltInt,B])])⟩ (by simp;omega)) (by rw[ae]);have:=Yh (show i+1<2 ^ 62 by omega);simpa using this
  have w:insInner (Zh c) a j f=f:=by
   cases j with
   | zero=>rfl
   | succ p=>rw[insInner];simp[g]
  refine VB g ?_;apply Δ U;apply W.exit U;refine Χ ?_;apply W.to (K (i+1,f) ⟨m,N w⟩ (by simp;omega)) (by rw[k]);have:=Yh (show i+1<2 ^ 62 by omega);simpa using this
 apply Δ (by simp[t]);apply W.exit U;have Υ:insOuter (Zh c) a b i e=e:=by rw[insOuter,if_neg t]
 exact W.nil ⟨_,U,U,by rw[<-C,Υ]⟩
def D1(d n a b)(S:d.size=n)(ad:a<=b)(ae:b<=n)(af:n<2 ^ 40)  :
  Ν prog 231 [.ms 0 n 0 n,I a,I b] [.cells 3 1 (d.toList.map I)] (λr s=>r=.Z7 []/\s=[.cells 3 1 ((insertionSort (ltInt) d a b).toList.map I)]) (λ_ _=>False):=by
 apply Ν.body Τ func231 U U ntmps231 U U o;refine Χ ?_;have T:=Yh (show a+1<2 ^ 62 by omega);refine W.iter (λq=>q.2.size=n/\insOuter (ltInt) a b q.1 q.2=insertionSort (ltInt) d a b) (λq=>[(0,.ms 0 n 0 n),(1,I a),(2,I b),(6,I q.1)]) (λq=>[.cells 3 1 (q.2.toList.map I)]) (λq=>b-q.1) (a+1,d) ⟨S,U⟩ U (by simpa using T) (λq hi F=>?_);let ⟨i,e⟩:=q;let ⟨H,w⟩:=hi;simp only at H w;refine Χ ?_;by_cases l:i<b
 .apply Β (by simp[l]);refine Χ ?_;refine W.iter (λq=>q.2.size=n/\q.1<=i/\insInner (ltInt) a q.1 q.2=insInner (ltInt) a i e) (λq=>[(0,.ms 0 n 0 n),(1,I a),(2,I b),(6,I i),(7,I q.1)]) (λq=>[.cells 3 1 (q.2.toList.map I)]) (λq=>q.1) (i,e) ⟨H,Z3 _,U⟩ U o (λq c V=>?_);let ⟨j,f⟩:=q;let ⟨k,X,B⟩:=c;simp only at k X B;have K:insInner (ltInt) a j f=f->insOuter (ltInt) a b (i+1) f=insertionSort (ltInt) d a b:=λhd=>by
   rw[<-w,<-hd,B];conv=>rhs;rw[insOuter,if_pos l]
  let ⟨L,g⟩:=ν (f.toList.map I)
  have M:L.length=n:=by rw[g];simpa using k
  refine W.to (σ':=[.cells 3 1 L]) (env':=[(0,.ms 0 n 0 n),(1,I a),(2,I b),(6,I i),(7,I j)]) ?_ (by rw[g]) o
  repeat apply Ζ
  by_cases c:a<j
  .obtain⟨p,N⟩:∃p,j=p+1:=⟨j-1,J⟩;have C:IntKind.i64.wrap (j-1)=p:=by have:=Yh (show p<2 ^ 62 by omega);rw[N];simpa using this
   have O:j<n:=J
   have P:p<n:=J
   have Y:¬j=p:=J
   let ⟨x,m⟩:=ν (f[j]!)
   let ⟨y,t⟩:=ν (f[p]!)
   have D:L[j]?=some (I x):=by rw[g,m,YK,Xf,Rs J];rfl
   have E:L[p]?=some (I y):=by rw[g,t,YK,Xf,Rs J];rfl
   have Q:∀h,L[j]=I x:=λh=>by have:=D;rw[ξ h]at this;exact Xq this
   have R:∀h,L[p]=I y:=λh=>by have:=E;rw[ξ h]at this;exact Xq this
   have u:insInner (ltInt) a j f=if ltInt x y=true then insInner (ltInt) a p (swp f j p) else f:=by
    subst N;rw[insInner,m,t];simp[c]
   have Z:(swp f j p).toList.map I=(L.set j (I y)).set p (I x):=by rw[g,m,t];simp[swp]
   have sz:(swp f j p).size=n:=by simp[swp,k]
   have aa:=g;clear m t;refine W.draw (A:=[]) Τ mixed λag ab=>SY (Ξ c (Ξ C (Ξ M (Ξ O (Ξ P (Ξ D (Ξ E (Ξ Q R)))))))) ?_;apply Wf (Μ.p (Oj x y) (ZJ.refl _) o o);simp;(repeat (rw[Y3];simp));try rw[YL]
   refine X5 (ab _ _ ?_);by_cases v:x<y
   .apply Β (by simp[v])
    repeat apply Ζ
    refine VB (Ξ c (Ξ C (Ξ M (Ξ O (Ξ P (Ξ D (Ξ E (Ξ Q (Ξ R Y))))))))) ?_;refine Χ ?_;refine W.to (V (p,swp f j p) ⟨sz,by simp;omega,?_⟩ (by simp;omega)) ?_ ?_
    .rw[<-B,u,if_pos (by simp[Zh,ltInt,v])]
    .rw[Z]
    simp[C]
   apply Δ (by simp[v]);apply W.exit U;refine Χ ?_;apply W.to (F (i+1,f) ⟨k,K (by rw[u,if_neg (by simp[Zh,ltInt,v])])⟩ (by simp;omega)) (by rw[aa]);have:=Yh (show i+1<2 ^ 62 by omega);simpa using this
  have u:insInner (ltInt) a j f=f:=by
   cases j with
   | zero=>rfl
   | succ p=>rw[insInner];simp[c]
  refine VB c ?_;apply Δ U;apply W.exit U;refine Χ ?_;apply W.to (F (i+1,f) ⟨k,K u⟩ (by simp;omega)) (by rw[g]);have:=Yh (show i+1<2 ^ 62 by omega);simpa using this
 apply Δ (by simp[l]);apply W.exit U;have Υ:insOuter (ltInt) a b i e=e:=by rw[insOuter,if_neg l]
 exact W.nil ⟨_,U,U,by rw[<-w,Υ]⟩
def sG(n:Nat)(h:n<256):Μ prog 156 [.z (.int .u64 n)] (I (bitsLen n)):=by
 refine Ν.body Τ func156 U U ntmps156 U U o ?_;have f:¬(n:Int)>=4294967296:=J;have g:¬(n:Int)>=65536:=J;have j:¬(n:Int)>=256:=J;have a:¬(4294967296:Int)<=n:=J;have b:¬(65536:Int)<=n:=J;have c:¬(256:Int)<=n:=J;refine γ @a ?_;refine Δ U ?_;refine γ b ?_;refine Δ U ?_;refine γ c ?_;refine Δ U ?_;have d:IntKind.u8.wrap (n:Int)=n:=by unfold IntKind.wrap;simp[IntKind.bits,IntKind.signed];omega
 refine YC d λk e=>?_;refine⟨Nat.lt_of_lt_of_eq h XL,?_⟩;apply e;refine Χ ?_;refine W.ret ⟨_,U,?_,U⟩;refine .of (congrArg (λi=>Ψ.z (.int .i64 i)) ?_);apply sW n h;decide +kernel
def Np(n:Nat)(h:n<256):Μ prog 103 [.z (.int .u64 n)] (I (bitsLen n)):=by
 refine Ν.body Τ func103 U U ntmps103 U U o ?_;refine Χ ?_;refine Δ U ?_;refine ο λb a=>?_;refine Μ.d (sG n h) (ς ?_);apply a;refine Χ ?_;refine W.rt ?_;exact .of U
def L2(y:Int×Int):∀a∈(Y6 y).cells,ω 0 a:=by simp[Ψ.cells]
def KE(y:Found):∀a∈(YB y).cells,ω 0 a:=by simp[Ψ.cells]
def Oi(y:Int):∀a∈(I y).cells,ω 0 a:=by simp[Ψ.cells]
def sF(d:Array Wm)(n i:Nat)(j:d.size=n)(t:n<=12)(b:Ψ)(c:Int×Int->Int×Int->Int)(f:ω 0 b)(k:∀x y,WG prog b [Y6 x,Y6 y] (I (c x y))) :
  Ν prog 245 [.ms 0 n 0 n,I 0,I n,I i,b] [.cells 246 2 (d.toList.map Y6)] (λr s=>r=.Z7 []/\s=[.cells 246 2 ((insertionSort (Zh c) d 0 n).toList.map Y6)]) (λ_ _=>False):=by
 refine Ν.body Τ func245 U U ntmps245 U U o ?_;have l:=Yh (show n<2 ^ 62 by omega);have Υ:(n:Int)<=12:=J;refine Χ ?_;refine .loop ?_;refine γ l ?_;refine Β (by simp;omega) ?_;refine ο λu m=>?_;refine Ν.one (sI d n 0 n j (Γ _) (Z3 _) J b c f k) 0 U (λe g a h=>by
  obtain⟨y,p,rfl⟩:=ZG.1 g;exact L2 y a h) (λe g a h=>by
  obtain⟨y,p,rfl⟩:=ZG.1 g;exact L2 y a h) (by simp[Uj,PZ,f.U' 1]) (by simp[Xc]) (by simp[Ui,TW,f.Yt [0]]) ?_
 simp[Yt,WE];(repeat (rw[Ι];simp));apply m;exact W.ret ⟨_,U,U,U⟩
def sE(d:Array Wm)(n:Nat)(c:d.size=n)(j:n<=12)(b:Ψ)(f:Int×Int->Int×Int->Int)(g:ω 0 b)(k:∀x y,WG prog b [Y6 x,Y6 y] (I (f x y))) :
  Ν prog 223 [.ms 0 n 0 n,b] [.cells 246 2 (d.toList.map Y6)] (λr s=>r=.Z7 []/\s=[.cells 246 2 ((insertionSort (Zh f) d 0 n).toList.map Y6)]) (λ_ _=>False):=by
 refine Ν.body Τ func223 U U ntmps223 U U o ?_;have l:=Yh (show n<2 ^ 62 by omega);have Υ:IntKind.u64.wrap (n:Int)=n:=by unfold IntKind.wrap;simp[IntKind.bits,IntKind.signed];omega
 refine γ c ?_;(repeat apply Ζ);refine Yz λt m=>?_;simp;(repeat (rw[Ι];simp[c,l,Υ]));refine Μ.d (Np n J) (ς ?_);refine Ν.one (sF d n (bitsLen n) c j b f g k) 0 U (λe h a i=>by
  obtain⟨y,p,rfl⟩:=ZG.1 h;exact L2 y a i) (λe h a i=>by
  obtain⟨y,p,rfl⟩:=ZG.1 h;exact L2 y a i) (by simp[Uj,PZ,g.U' 1]) (by simp[Xc]) (by simp[Ui,TW,g.Yt [0]]) ?_
 simp[Yt,WE];(repeat (rw[Ι];simp));apply m;exact W.nil ⟨_,U,U,U⟩
def sD(d:Array (Found))(n i:Nat)(j:d.size=n)(t:n<=12)(b:Ψ)(c:Found->Found->Int)(f:ω 0 b)(k:∀x y,WG prog b [YB x,YB y] (I (c x y))) :
  Ν prog 225 [.ms 0 n 0 n,I 0,I n,I i,b] [.cells 173 3 (d.toList.map YB)] (λr s=>r=.Z7 []/\s=[.cells 173 3 ((insertionSort (Zh c) d 0 n).toList.map YB)]) (λ_ _=>False):=by
 refine Ν.body Τ func225 U U ntmps225 U U o ?_;have l:=Yh (show n<2 ^ 62 by omega);have Υ:(n:Int)<=12:=J;refine Χ ?_;refine .loop ?_;refine γ l ?_;refine Β (by simp;omega) ?_;refine ο λu m=>?_;refine Ν.one (sH d n 0 n j (Γ _) (Z3 _) J b c f k) 0 U (λe g a h=>by
  obtain⟨y,p,rfl⟩:=ZG.1 g;exact KE y a h) (λe g a h=>by
  obtain⟨y,p,rfl⟩:=ZG.1 g;exact KE y a h) (by simp[Uj,PZ,f.U' 1]) (by simp[Xc]) (by simp[Ui,TW,f.Yt [0]]) ?_
 simp[Yt,WE];(repeat (rw[Ι];simp));apply m;exact W.ret ⟨_,U,U,U⟩
def sC(d:Array (Found))(n:Nat)(c:d.size=n)(j:n<=12)(b:Ψ)(f:Found->Found->Int)(g:ω 0 b)(k:∀x y,WG prog b [YB x,YB y] (I (f x y))) :
  Ν prog 184 [.ms 0 n 0 n,b] [.cells 173 3 (d.toList.map YB)] (λr s=>r=.Z7 []/\s=[.cells 173 3 ((insertionSort (Zh f) d 0 n).toList.map YB)]) (λ_ _=>False):=by
 refine Ν.body Τ func184 U U ntmps184 U U o ?_;have l:=Yh (show n<2 ^ 62 by omega);have Υ:IntKind.u64.wrap (n:Int)=n:=by unfold IntKind.wrap;simp[IntKind.bits,IntKind.signed];omega
 refine γ c ?_;(repeat apply Ζ);refine Yz λt m=>?_;simp;(repeat (rw[Ι];simp[c,l,Υ]));refine Μ.d (Np n J) (ς ?_);refine Ν.one (sD d n (bitsLen n) c j b f g k) 0 U (λe h a i=>by
  obtain⟨y,p,rfl⟩:=ZG.1 h;exact KE y a i) (λe h a i=>by
  obtain⟨y,p,rfl⟩:=ZG.1 h;exact KE y a i) (by simp[Uj,PZ,g.U' 1]) (by simp[Xc]) (by simp[Ui,TW,g.Yt [0]]) ?_
 simp[Yt,WE];(repeat (rw[Ι];simp));apply m;exact W.nil ⟨_,U,U,U⟩
def sB(d:Array (Int))(n f:Nat)(g:d.size=n)(k:n<=12)  :
  Ν prog 210 [.ms 0 n 0 n,I 0,I n,I f] [.cells 3 1 (d.toList.map I)] (λr s=>r=.Z7 []/\s=[.cells 3 1 ((insertionSort (ltInt) d 0 n).toList.map I)]) (λ_ _=>False):=by
 refine Ν.body Τ func210 U U ntmps210 U U o ?_;have h:=Yh (show n<2 ^ 62 by omega);have Υ:(n:Int)<=12:=J;refine Χ ?_;refine .loop ?_;refine γ h ?_;refine Β (by simp;omega) ?_;refine ο λl i=>?_;refine Ν.one (D1 d n 0 n g (Γ _) (Z3 _) J) 0 U (λe b a c=>by
  obtain⟨y,j,rfl⟩:=ZG.1 b;exact Oi y a c) (λe b a c=>by
  obtain⟨y,j,rfl⟩:=ZG.1 b;exact Oi y a c) (by simp[Uj,PZ]) (by simp[Xc]) (by simp[Ui,TW]) ?_
 simp[Yt,WE];(repeat (rw[Ι];simp));apply i;exact W.ret ⟨_,U,U,U⟩
def sA(d:Array (Int))(n:Nat)(b:d.size=n)(g:n<=12)  :
  Ν prog 167 [.ms 0 n 0 n] [.cells 3 1 (d.toList.map I)] (λr s=>r=.Z7 []/\s=[.cells 3 1 ((insertionSort (ltInt) d 0 n).toList.map I)]) (λ_ _=>False):=by
 refine Ν.body Τ func167 U U ntmps167 U U o ?_;have h:=Yh (show n<2 ^ 62 by omega);have Υ:IntKind.u64.wrap (n:Int)=n:=by unfold IntKind.wrap;simp[IntKind.bits,IntKind.signed];omega
 refine γ b ?_;(repeat apply Ζ);refine Yz λk i=>?_;simp;(repeat (rw[Ι];simp[b,h,Υ]));refine Μ.d (Np n J) (ς ?_);refine Ν.one (sB d n (bitsLen n) b g) 0 U (λe c a f=>by
  obtain⟨y,j,rfl⟩:=ZG.1 c;exact Oi y a f) (λe c a f=>by
  obtain⟨y,j,rfl⟩:=ZG.1 c;exact Oi y a f) (by simp[Uj,PZ]) (by simp[Xc]) (by simp[Ui,TW]) ?_
 simp[Yt,WE];(repeat (rw[Ι];simp));apply i;exact W.nil ⟨_,U,U,U⟩
def sy(l:ψ)(b:Ψ)(p:Int->Bool)(g:l.length<2 ^ 62)(r:ω 0 b)(k:∀x∈l,WG prog b [I x] (ZU (p x))):Μ prog 109 [δ I 1 l,b] (I (idxOf p l)):=by
 refine Ν.body Τ func109 U U ntmps109 U U o ?_;refine Χ ?_;refine W.iter (λi:Nat=>i<=l.length/\∀j,j<i->(h:j<l.length)->p l[j]=false) (λi=>[(0,δ I 1 l),(1,b),(6,δ I 1 l),(7,I l.length),(8,I i)]) (λ_=>[]) (λi=>l.length-i) 0 ⟨Γ _,λj f=>J⟩ U o (λi hi m=>?_);refine Χ ?_;refine W.YD U (λa=>?_) (λa=>?_)
 .have a:i<l.length:=by simpa using a
  refine γ a ?_;refine YC a λs n=>?_;refine(k _ (YW a)).c ?_;simp;(repeat (rw[Ι];simp));apply n;cases d:p l[i]
  .refine Δ (by simp[d]) ?_;refine Χ ?_;refine W.forget _ ?_ (m (i+1) ⟨J,λj f h=>?_⟩ J)
   .simp[YR a g]
   by_cases e:j=i
   .subst e;exact d
   exact hi.2 j J h
  refine Β (by simp[d]) ?_;refine Χ ?_;refine W.Y0 ?_;rw[L5 a d hi.2];rfl
 have a:l.length<=i:=by simpa using a
 refine W.exit U ?_;refine Χ ?_;refine W.Y0 ?_;rw[L4 λj f=>hi.2 j J f];rfl
def sx(l:ψ)(a:Ψ)(p:Int->Bool)(d:l.length<2 ^ 62)(b:ω 0 a)(e:∀x∈l,WG prog a [I x] (ZU (p x))):Μ prog 70 [δ I 1 l,a] (ZU (l.any p)):=by
 refine Ν.body Τ func70 U U ntmps70 U U o ?_;refine Χ ?_;refine ο λg f=>?_;refine Μ.c (sy l a p d b e) (ZJ.refl _) (by simp[b]) o ?_;simp;(repeat (rw[Ι];simp));apply f;refine Χ ?_;refine W.Y0 ?_;rw[<-L3 (p:=p)];rfl
def Ao(l:List Xb)(b:Ψ)(p:Xb->Bool)(g:l.length<2 ^ 62)(r:ω 0 b)(k:∀x∈l,WG prog b [X4 x] (ZU (p x))):Μ prog 175 [δ X4 2 l,b] (I (idxOf p l)):=by
 refine Ν.body Τ func175 U U ntmps175 U U o ?_;refine Χ ?_;refine W.iter (λi:Nat=>i<=l.length/\∀j,j<i->(h:j<l.length)->p l[j]=false) (λi=>[(0,δ X4 2 l),(1,b),(6,δ X4 2 l),(7,I l.length),(8,I i)]) (λ_=>[]) (λi=>l.length-i) 0 ⟨Γ _,λj f=>J⟩ U o (λi hi m=>?_);refine Χ ?_;refine W.YD U (λa=>?_) (λa=>?_)
 .have a:i<l.length:=by simpa using a
  refine γ a ?_;refine YC a λs n=>?_;refine(k _ (YW a)).c ?_;simp;(repeat (rw[Ι];simp));apply n;cases d:p l[i]
  .refine Δ (by simp[d]) ?_;refine Χ ?_;refine W.forget _ ?_ (m (i+1) ⟨J,λj f h=>?_⟩ J)
   .simp[YR a g]
   by_cases e:j=i
   .subst e;exact d
   exact hi.2 j J h
  refine Β (by simp[d]) ?_;refine Χ ?_;refine W.Y0 ?_;rw[L5 a d hi.2];rfl
 have a:l.length<=i:=by simpa using a
 refine W.exit U ?_;refine Χ ?_;refine W.Y0 ?_;rw[L4 λj f=>hi.2 j J f];rfl
def sw(l:List Xb)(a:Ψ)(p:Xb->Bool)(d:l.length<2 ^ 62)(b:ω 0 a)(e:∀x∈l,WG prog a [X4 x] (ZU (p x))):Μ prog 218 [δ X4 2 l,a] (ZU (l.any p)):=by
 refine Ν.body Τ func218 U U ntmps218 U U o ?_;refine Χ ?_;refine ο λg f=>?_;refine Μ.c (Ao l a p d b e) (ZJ.refl _) (by simp[b]) o ?_;simp;(repeat (rw[Ι];simp));apply f;refine Χ ?_;refine W.Y0 ?_;rw[<-L3 (p:=p)];rfl
def su(l:List Xo)(b:Ψ)(p:Xo->Bool)(g:l.length<2 ^ 62)(r:ω 0 b)(k:∀x∈l,WG prog b [UB x] (ZU (p x))):Μ prog 275 [δ UB 3 l,b] (I (idxOf p l)):=by
 refine Ν.body Τ func275 U U ntmps275 U U o ?_;refine Χ ?_;refine W.iter (λi:Nat=>i<=l.length/\∀j,j<i->(h:j<l.length)->p l[j]=false) (λi=>[(0,δ UB 3 l),(1,b),(6,δ UB 3 l),(7,I l.length),(8,I i)]) (λ_=>[]) (λi=>l.length-i) 0 ⟨Γ _,λj f=>J⟩ U o (λi hi m=>?_);refine Χ ?_;refine W.YD U (λa=>?_) (λa=>?_)
 .have a:i<l.length:=by simpa using a
  refine γ a ?_;refine YC a λs n=>?_;refine(k _ (YW a)).c ?_;simp;(repeat (rw[Ι];simp));apply n;cases d:p l[i]
  .refine Δ (by simp[d]) ?_;refine Χ ?_;refine W.forget _ ?_ (m (i+1) ⟨J,λj f h=>?_⟩ J)
   .simp[YR a g]
   by_cases e:j=i
   .subst e;exact d
   exact hi.2 j J h
  refine Β (by simp[d]) ?_;refine Χ ?_;refine W.Y0 ?_;rw[L5 a d hi.2];rfl
 have a:l.length<=i:=by simpa using a
 refine W.exit U ?_;refine Χ ?_;refine W.Y0 ?_;rw[L4 λj f=>hi.2 j J f];rfl
def ss(l:List Xo)(a:Ψ)(p:Xo->Bool)(d:l.length<2 ^ 62)(b:ω 0 a)(e:∀x∈l,WG prog a [UB x] (ZU (p x))):Μ prog 259 [δ UB 3 l,a] (ZU (l.any p)):=by
 refine Ν.body Τ func259 U U ntmps259 U U o ?_;refine Χ ?_;refine ο λg f=>?_;refine Μ.c (su l a p d b e) (ZJ.refl _) (by simp[b]) o ?_;simp;(repeat (rw[Ι];simp));apply f;refine Χ ?_;refine W.Y0 ?_;rw[<-L3 (p:=p)];rfl
def XK:ψ->Int
 | []=>0
 | e::l=>if e=0 then XK l else e
def Gr{l:ψ}{i:Nat}(h:i<l.length)(a:l[i]≠0)(b:∀j,j<i->(c:j<l.length)->l[j]=0):XK l=l[i]:=by
 induction l generalizing i with
 | nil=>cases h
 | cons e l d=>
  cases i with
  | zero=>simp at a;simp[XK,a]
  | succ i=>
   have f:e=0:=b 0 J o;simp only[XK,f,if_true,List.getElem_cons_succ];exact d (by simpa using h) (by simpa using a) λj c g=>b (j+1) J (by simpa using g)
def Gq{l:ψ}(h:∀j,(a:j<l.length)->l[j]=0):XK l=0:=by
 induction l with
 | nil=>rfl
 | cons e l b=>
  have c:e=0:=h 0 o;simp only[XK,c,if_true];exact b λj a=>h (j+1) (by simpa using a)
def L1{f:Nat->Int}{n i:Nat}{e:Int}(h:i<n)(a:f i=e)(b:e≠0)(c:∀j,j<i->f j=0):XK ((List.range n).map f)=e:=by
 rw[Gr (i:=i) (by simpa using h) (by simp[a,b]) (λj d g=>by simpa using c j d)];simp[a]
def L0{f:Nat->Int}{n:Nat}(h:∀j,j<n->f j=0):XK ((List.range n).map f)=0:=
 Gq λj a=>by simpa using h j (by simpa using a)
def LZ(n:ByteArray):Bool:=n.size != 1||TG n ⟨#[97]⟩||!UD n ⟨#[122]⟩
def PY(l:List Xb)(i:Nat):Int:=match l[i]? with
 | none=>0
 | some g=>if LZ g.name then 2 else if 0<i/\UD g.name ((l[i-1]?.map (·.name)).getD ⟨#[]⟩)=true then 5 else if g.X8<1\/63<g.X8 then 1 else if(l.take i).any (λx=>x.X8==g.X8) then 4 else 0
def Rr(l:List Xb):Int:=if l.length=0 then 7 else if 6<l.length then 6 else XK ((List.range l.length).map (PY l))
def sr(g x:Xb):Μ prog 219 [X4 x,.Κ [ZQ g.name,I g.X8]] (ZU (x.X8==g.X8)):=by
 refine Ν.body Τ func219 U U ntmps219 U U o ?_;refine Χ ?_;refine W.Y0 ?_;simp
def so(s:Zm)(w:s.small):Μ prog 178 [Wa s] (I (Rr s.Z2)):=by
 refine Ν.body Τ func178 U U ntmps178 U U o ?_;have L:=w.1;by_cases b:s.Z2.length=0
 .refine γ b ?_;refine Β o ?_;refine Χ ?_;refine W.Y0 ?_;rw[show Rr s.Z2=7 by simp[Rr,b]];rfl
 by_cases k:(6:Int)<s.Z2.length
 .refine γ (Ξ b k) ?_;refine Δ (by simp[b]) ?_;refine γ (Ξ b k) ?_;refine Β o ?_;refine Χ ?_;refine W.Y0 ?_;rw[show Rr s.Z2=6 by simp[Rr,b];omega];rfl
 have y:Rr s.Z2=XK ((List.range s.Z2.length).map (PY s.Z2)):=by
  unfold Rr;rw[if_neg b,if_neg J]
 rw[y];refine γ (Ξ b k) ?_;refine Δ (by simp[b]) ?_;refine γ (Ξ b k) ?_;refine Δ o ?_;refine Χ ?_;refine W.iter (λi:Nat=>i<=s.Z2.length/\∀j,j<i->PY s.Z2 j=0) (λi=>[(1,XC s),(17,UA s.Z2),(18,I s.Z2.length),(19,I i)]) (λ_=>[]) (λi=>s.Z2.length-i) 0 ⟨J,λj t=>J⟩ U o (λi hi B=>?_);refine Χ ?_;refine W.YD U (λa=>?_) (λa=>?_)
 .have a:i<s.Z2.length:=by simpa using a
  have d:s.Z2[i]?=some s.Z2[i]:=ξ a
  have l:∀e:Int,PY s.Z2 i=e->e≠0->XK ((List.range s.Z2.length).map (PY s.Z2))=e:=λe C m=>L1 a C m hi.2
  repeat apply Ζ
  refine ZB (A:=[4]) Τ λD p=>Wb a ?_;apply p;refine W.fix (id:=0) (σ':=[]) (Γ _) U o o U [(1,XC s),(17,UA s.Z2),(18,I s.Z2.length),(19,I i),(3,I i),(4,.Κ [ZQ s.Z2[i].name,I s.Z2[i].X8])] o ?_
  repeat apply Ζ
  refine W.P4 (A:=[]) Τ [(1,XC s),(17,UA s.Z2),(18,I s.Z2.length),(19,I i),(3,I i),(4,.Κ [ZQ s.Z2[i].name,I s.Z2[i].X8]),(5,UA (s.Z2.take i))] ?_ (by simp[Ι,QL,RO a])
  repeat apply Ζ
  refine W.P4 (A:=[]) Τ [(28,ZU (LZ s.Z2[i].name)),(1,XC s),(17,UA s.Z2),(18,I s.Z2.length),(19,I i),(3,I i),(4,.Κ [ZQ s.Z2[i].name,I s.Z2[i].X8]),(5,UA (s.Z2.take i))] ?_ (by
   unfold LZ;by_cases u:(s.Z2[i].name.size:Int)=1
   .have r:s.Z2[i].name.size=1:=J
    cases E:TG s.Z2[i].name ⟨#[97]⟩<;>simp[Ι,QL,u,E,r]
   have r:¬s.Z2[i].name.size=1:=J
   simp[Ι,QL,u,r])
  cases f:LZ s.Z2[i].name
  case true=>
   refine Β U ?_;refine Χ ?_;refine W.Y0 ?_;rw[l 2 (by simp[PY,d,f]) θ];rfl
  refine Δ U ?_
  repeat apply Ζ
  refine W.GA (A:=[]) Τ mixed [(43,ZU (decide (0<i)&&UD s.Z2[i].name ((s.Z2[i-1]?.map (·.name)).getD ⟨#[]⟩))),(1,XC s),(17,UA s.Z2),(18,I s.Z2.length),(19,I i),(3,I i),(4,.Κ [ZQ s.Z2[i].name,I s.Z2[i].X8]),(5,UA (s.Z2.take i))] ?_ (by
   cases i with
   | zero=>simp[Y3,YL];exact UW XL
   | succ n=>
    have F:n<s.Z2.length:=J
    have H:=Yh (show n<2 ^ 62 by omega)
    have m:(0:Int)<(n:Int)+1:=J
    have K:n<min (n+1) s.Z2.length:=J;simp[Y3,YL,m,F,H,K];exact UW XL)
  cases bo:decide (0<i)&&UD s.Z2[i].name ((s.Z2[i-1]?.map (·.name)).getD ⟨#[]⟩)
  case true=>
   refine Β U ?_;refine Χ ?_;refine W.Y0 ?_;rw[l 5 (by simp at bo;simp[PY,d,f,bo]) θ];rfl
  refine Δ U ?_
  repeat apply Ζ
  refine W.P4 (A:=[]) Τ [(57,ZU (decide (s.Z2[i].X8<1)||decide (63<s.Z2[i].X8))),(1,XC s),(17,UA s.Z2),(18,I s.Z2.length),(19,I i),(3,I i),(4,.Κ [ZQ s.Z2[i].name,I s.Z2[i].X8]),(5,UA (s.Z2.take i))] ?_ (by by_cases q:s.Z2[i].X8<1<;>simp[Ι,QL,q]);have bo':¬(0<i/\UD s.Z2[i].name ((s.Z2[i-1]?.map (·.name)).getD ⟨#[]⟩)=true):=λh=>by simp[h]at bo
  by_cases g:s.Z2[i].X8<1\/63<s.Z2[i].X8
  case pos=>
   refine Β (by simpa using g) ?_;refine Χ ?_;refine W.Y0 ?_;rw[l 1 (by simp only[PY,d,f];rw[if_neg bo',if_pos g];rfl) θ];rfl
  refine Δ (by simpa using g) ?_;refine ο λD p=>?_;refine Μ.c (sw (s.Z2.take i) (.fn (.func 219) [] [.Κ [ZQ s.Z2[i].name,I s.Z2[i].X8]]) (λx=>x.X8==s.Z2[i].X8) (by simp;omega) (by simp[Su]) (λx _=>λ_=>(sr s.Z2[i] x).cc (by simp;exact ZJ.refl _) o o ⟨U,U⟩)) (ZJ.refl _) (by simp[Su]) o ?_;simp;(repeat (rw[Ι];simp));apply p;cases v:(s.Z2.take i).any (λx=>x.X8==s.Z2[i].X8)
  case true=>
   refine Β o ?_;refine Χ ?_;refine W.Y0 ?_;rw[l 4 (by simp only[PY,d,f];rw[if_neg bo',if_neg g,v];rfl) θ];rfl
  refine Δ o ?_;refine Χ ?_;refine W.forget _ ?_ (B (i+1) ⟨a,λj t=>?_⟩ J)
  .simp[YR a (show s.Z2.length<2 ^ 62 by omega)]
  by_cases e:j=i
  .subst e;simp only[PY,d,f];rw[if_neg bo',if_neg g,v];rfl
  exact hi.2 j J
 have a:s.Z2.length<=i:=by simpa using a
 refine W.exit U ?_;refine Χ ?_;refine W.Y0 ?_;rw[L0 λj t=>hi.2 j J];rfl
end Go.TL
namespace Go.TL
open Go.Proofs.Tryz
open Go.Sort (SWO bitsLen insInner insOuter insertionSort insertionSort_holds ltInt sorted_unique_holds swo_ltInt swp)
open Go.Conc
variable[Z8]
structure Base where
 S:ζ
 B:ZZ
 H:Φ
 σ:Ρ
 m:Nat
def V(P:Program)(c:Value->Prop)(mn:Bool)(x:Vp)(b:Frame)(cs:YM)(nt:Nat)(a:Base)(k:Zk)(env:κ)(σ:Ρ):Prop:=
 ∀(S:ζ)(B:ZZ)(H:Φ)(t:ZP),Xi a.m a.S a.B a.H a.σ S B H σ->XG a.m nt S B H σ env t->η P c mn x (χ b t k) cs H
def DZ(P:Program)(d:Value->Prop)(mn:Bool)(x:Vp)(b:Frame)(cs:YM)(c:Base)(a:Ψ)(env:κ)(σ:Ρ):Prop:=
 ∀(S:ζ)(B:ZZ)(H:Φ)(t:ZP)(k:Zk)(v:Value),Xi c.m c.S c.B c.H c.σ S B H σ->Holds S B σ H->Y' S B σ env t->Θ S B σ a v->η P d mn x {χ b t k with mode:=.panicking [{v,recovered:=false}]} cs H
structure O9(P:Program)(d:Deferred)(g:FuncId)(vs:ZP):Prop where
 t1:∀r,d.target≠.collected r
 t2:d.target≠.nil
 run:∀w,(invoke d.target d.args).runT P w #[]=(.ok (.enter g vs) w,#[])
section
variable{P:Program}{T:ZY}{A:Z6}{Q:Value->Prop}{mn:Bool}{x:Vp}{b:Frame}{cs:YM}{m nt:Nat}{Η:Base}{k:Zk}{env:κ}{σ:Ρ}{S YE:ζ}{B B':ZZ}{H H':Φ}{σ':Ρ}{t:ZP}{Z:Xv}{E:XM}
def V.Ys(g:Seq x)(i:b.mode=.run)(h:W P Η.m nt k env σ (V P Q mn x b cs nt Η) (DZ P Q mn x b cs Η)):V P Q mn x b cs nt Η k env σ:=
 λS B H t f l=>h Q mn x cs b S B H t g i l (λj env' σ' YE B' H' t' c n d o p=>by
  have e:c=j:=p;subst e;exact n YE B' H' t' (f.trans d) o) (λa env' σ' YE B' H' t' c v r d s u w=>r YE B' H' t' c v (f.trans d) s u w)
def V.Zi(a:Seq x)(h:W P Η.m nt k env σ (V P Q mn x b cs nt Η) (DZ P Q mn x b cs Η))(c:b.mode=.run:=by rfl):V P Q mn x b cs nt Η k env σ:=.Ys a c h
def V.here(h:V P Q mn x b cs nt ⟨S,B,H,σ,m⟩ k env σ)(a:XG m nt S B H σ env t):η P Q mn x (χ b t k) cs H:=h S B H t .refl a
def W.Zs{id:Nat}{ops:Y5}(h:W P m nt (.inRegion ops (idx ops.size [])::k) env σ Z E):W P m nt (.code (.region id ops false)::k) env σ Z E:=
 λQ mn x cs b S B H t a c d e f=>.region a c (by rw[<-idx_eq];exact h Q mn x cs b S B H t a c d e f)
def W.part(c:ZH P T)(is a:Z6){ops:Y5}{l:Z6}(d:l=is++a)(h:∀b:κ->Ρ->Prop,(∀env σ,W P m nt (.inRegion ops a::k) env σ Z E->b env σ)->run P T A nt ops is env σ b E):W P m nt (.inRegion ops l::k) env σ Z E:=
 d▸Ek c a is env σ (h _ λ_ _ h=>h)
def An(e:Y' S B σ env t)(args:Array Operand):XF S B σ (args.toList.map (π env)) (args.map (ZX t)):=by
 refine⟨o,λi a v b c=>?_⟩;rw[YK,Xf]at b;rw[NQ]at c;cases d:args[i]? with
 | none=>rw[d]at b;cases b
 | some y=>rw[d]at b c;cases b;cases c;exact S4 e y
def Plain.enter{g:FuncId}(h:Plain P g)(vs:ZP)(w:World):(callFunc g vs).runT P w #[]=(.ok (.enter g vs) w,#[]):=by
 obtain⟨fn,a,b,c⟩:=h;unfold callFunc;show Sem.runT P (Sem.bind program λp=>_) w #[]=_;simp only[program,Sem.bind];show Sem.runT P (match P.funcs[g]? with|none=>_|some fn=>_) w #[]=_;rw[a];simp only[b,c,Vg,if_false];rfl
def XG.put{c:Oper}{a:Ψ}{v:Value}(b:XG m nt S B H σ env t)(hd:WA nt c=true)(d:Θ S B σ a v):XG m nt S B H σ (Zr c env a) (put c t v):=
 ⟨b.holds,(Pb b.Zt hd b.size d).1,(Pb b.Zt hd b.size d).2,b.rows⟩
def Xi.all(h:Xi m S B H σ YE B' H' σ')(b:Holds S B σ H)(a:σ.length<=m):ZC S YE B B' σ σ':=by
 have:=h.later
 rwa [Wl (by rw[b.len];exact a),Wl a]at this
def V.defer(o:Seq x)(p:b.mode=.run)(r:b.roundOf=none){ops:Y5}{i:Nat}{rest:Z6}{a:Oper}(s:ops[i]?=some a)(u:XE env ops a=some true)(v:a.dst=none){f:Operand}{args:Array Operand}{y:Array TypeId}(A:a.op=.defer ⟨.value f,args,y⟩)
  {g:FuncId} {first captured:μ} (C:π env f=.fn (.func g) first captured) (D:Plain P g)
  (h:∀(S:ζ)(B:ZZ)(H:Φ)(t:ZP)(d:Deferred)(vs:ZP),Xi Η.m Η.S Η.B Η.H Η.σ S B H σ->XG Η.m nt S B H σ env t->XF S B σ (first++args.toList.map (π env)++captured) vs->O9 P d g vs->
   η P Q mn x (χ {b with defers:=d::b.defers} t (.inRegion ops rest::k)) cs H):V P Q mn x b cs nt Η (.inRegion ops (i::rest)::k) env σ:=by
 intro S B H t E c;refine .op o p s (Uk c.Zt u) (.inl r) ?_;have j:=S4 c.Zt f;rw[C]at j;have F:=An c.Zt args;have e:execOp (ZX t) a=(do pure (.defer (<-Deferred.ofValue (ZX t f) (args.map (ZX t))))):=by unfold execOp;rw[A];rfl
 rw[e];generalize ZX t f=R at j;cases j with
 | fn l n I J K L=>
  refine Ω.bind' (Ω.pure' (Ω.pure' ?_));have M:put a t undef=t:=by unfold put;rw[v]
  simp only[BH,M];have N:XF S B σ first l:=⟨I,K⟩
  have O:XF S B σ captured n:=⟨J,L⟩;exact h S B H t ⟨.fn (.func g) n,l++args.map (ZX t)⟩ (l++args.map (ZX t)++n) E c ((N.append F).append O) ⟨λ_ h=>(by cases h),λh=>(by cases h),λw=>D.enter _ w⟩
def η.recovered(d:Seq x)(f:b.mode=.run)(c:b.roundOf=none){ops:Y5}{i:Nat}{rest:Z6}{op:Oper}(g:ops[i]?=some op)(j:op.guard=none){l:Array TypeId}(m:op.op=.call ⟨.builtin .recover,#[],l⟩){v:Value}{cs':YM}
  (a:(tryRecover (χ b t (.inRegion ops (i::rest)::k)) cs=some (v,cs'))\/(tryRecover (χ b t (.inRegion ops (i::rest)::k)) cs=none/\v=.nilIface/\cs'=cs))
  (h:η P Q mn x (χ b (put op t v) (.inRegion ops rest::k)) cs' H):η P Q mn x (χ b t (.inRegion ops (i::rest)::k)) cs H:=by
 refine .op d f g (by unfold Region.wanted;rw[j]) (.inl c) ?_;have e:execOp (ZX t) op=pure .recover:=by unfold execOp;rw[m];rfl
 rw[e];refine Ω.pure' ⟨c,?_⟩;rcases a with a|⟨a,rfl,rfl⟩
 .rw[a];exact h
 rw[a];exact h
end
def results_none{fn:Func}(h:fn.results=#[])(t:ZP):results fn t=pure (.tuple #[]):=by
 unfold results;rw[h];simp
def Ty{P:Program}{g:FuncId}{fn:Func}{body:Code}(b:P.funcs[g]?=some fn)(c:fn.body=some body)(vs:ZP)(a:CallKind):Frame.enter P g vs a=χ (Frame.enter P g vs a) (vs++Array.replicate (fn.ntmps-vs.size) undef) [.code body]:=by
 simp[Frame.enter,χ,b,c]
def XG.enter{S:ζ}{B:ZZ}{H:Φ}{σ:Ρ}{a:μ}{vs:ZP}{nt m:Nat}(b:Holds S B σ H)(hv:XF S B σ a vs)(c:m<=σ.length)(d:a.length<=nt):XG m nt S B H σ (entry 0 a) (vs++Array.replicate (nt-vs.size) undef):=
 ⟨b,Ei hv _,by have:=hv.1;simp;omega,c⟩
end Go.TL
namespace Go.TL
open Go.Proofs.Tryz
open Go.Sort (SWO bitsLen insInner insOuter insertionSort insertionSort_holds ltInt sorted_unique_holds swo_ltInt swp)
open Go.Proofs
variable[Z8]
def U9(s:Zm)(a:List Xo)(p:Xo):Int:=
 if p.Xn<0\/(s.ZE.length:Int)<=p.Xn then 3 else if a.any (λx=>x.Xn==p.Xn) then 4 else if valid p.seen=false\/valid p.bare=false then 1 else if L6 p.seen p.bare=0 then 0 else 9
def sn(p x:Xo):Μ prog 260 [UB x,.Κ [I p.Xn,I p.seen,I p.bare]] (ZU (x.Xn==p.Xn)):=by
 refine Ν.body Τ func260 U U ntmps260 U U o ?_;(repeat (first|apply Ζ|(refine Yz λb a=>?_;simp;(repeat (rw[Ι];simp));apply a)));refine W.ret ⟨_,U,?_,U⟩;exact .of (by simp)
def sm(s:Zm)(d:List Xo)(n:d.length<2 ^ 62)(p:Xo):Ν prog 241 [Wa s,TA d,UB p] [] (λa σ=>U9 s d p=0/\a=.Z7 []/\σ=[]) (λa σ=>U9 s d p≠0/\a=.W4 41 (I (U9 s d p))/\σ=[]):=by
 refine Ν.body Τ func241 U U ntmps241 U U o ?_;(repeat (first|apply Ζ|(refine Yz λf b=>?_;simp;(repeat (rw[Ι];simp));apply b)));refine W.GA (A:=[]) Τ mixed [(6,I p.seen),(7,I p.bare),(1,TA d),(3,XC s),(5,.Κ [I p.Xn,I p.seen,I p.bare])] ?_ (by simp[Y3,YL];exact UW XL)
 repeat apply Ζ
 refine W.P4 (A:=[]) Τ [(12,ZU (decide (p.Xn<0)||decide ((s.ZE.length:Int)<=p.Xn))),(6,I p.seen),(7,I p.bare),(1,TA d),(3,XC s),(5,.Κ [I p.Xn,I p.seen,I p.bare])] ?_ (by by_cases q:p.Xn<0<;>simp[Ι,QL,q]);by_cases i:p.Xn<0\/(s.ZE.length:Int)<=p.Xn
 case pos=>
  have e:U9 s d p=3:=by unfold U9;rw[if_pos i]
  rw[e];refine Β (by simpa using i) ?_;(repeat apply Ζ);refine Yz λf b=>?_;simp;(repeat (rw[Ι];simp))
 refine Δ (by simpa using i) ?_;(repeat apply Ζ);refine Yz λf b=>?_;simp;(repeat (rw[Ι];simp));refine Μ.c (ss d (.fn (.func 260) [] [.Κ [I p.Xn,I p.seen,I p.bare]]) (λx=>x.Xn==p.Xn) n (by simp[Su]) (λx _=>λ_=>(sn p x).cc (by simp;exact ZJ.refl _) o o ⟨U,U⟩)) (ZJ.refl _) (by simp[Su]) o ?_;simp;(repeat (rw[Ι];simp));apply b;cases k:d.any (λx=>x.Xn==p.Xn)
 case true=>
  have e:U9 s d p=4:=by unfold U9;rw[if_neg i,if_pos k]
  rw[e];refine Β o ?_;(repeat apply Ζ);refine Yz λf b=>?_;simp;(repeat (rw[Ι];simp))
 refine Δ o ?_
 repeat apply Ζ
 have m:(valid p.seen=false\/valid p.bare=false)->U9 s d p=1:=λh=>by unfold U9;rw[if_neg i,k];simp[h]
 cases g:valid p.seen
 case false=>
  rw[m (.inl g)];(repeat apply Ζ);refine Yz λf b=>?_;simp;(repeat (rw[Ι];simp));refine Μ.c (Jn p.seen) (ZJ.refl _) o o ?_;simp[g];(repeat (rw[Ι];simp[g]));apply b;refine Β U ?_;(repeat apply Ζ);refine Yz λf b=>?_;simp;(repeat (rw[Ι];simp))
 cases j:valid p.bare
 case false=>
  rw[m (.inr j)];(repeat apply Ζ);refine Yz λf b=>?_;simp;(repeat (rw[Ι];simp));refine Μ.c (Jn p.seen) (ZJ.refl _) o o ?_;simp[g];(repeat (rw[Ι];simp[g]));refine Μ.c (Jn p.bare) (ZJ.refl _) o o ?_;simp[j];(repeat (rw[Ι];simp[j]));apply b;refine Β U ?_;(repeat apply Ζ);refine Yz λf b=>?_;simp;(repeat (rw[Ι];simp))
 (repeat apply Ζ);refine Yz λf b=>?_;simp;(repeat (rw[Ι];simp));refine Μ.c (Jn p.seen) (ZJ.refl _) o o ?_;simp[g];(repeat (rw[Ι];simp[g]));refine Μ.c (Jn p.bare) (ZJ.refl _) o o ?_;simp[j];(repeat (rw[Ι];simp[j]));apply b;refine Δ U ?_;(repeat apply Ζ);refine Yz λf b=>?_;simp;(repeat (rw[Ι];simp));refine Μ.c (Au p.seen p.bare) (ZJ.refl _) o o ?_;simp;(repeat (rw[Ι];simp));apply b;by_cases l:L6 p.seen p.bare=0
 .have e:U9 s d p=0:=by unfold U9;rw[if_neg i,k];simp[g,j,l]
  refine Δ (by simp[l]) ?_;(repeat (first|apply Ζ|(refine Yz λf b=>?_;simp;(repeat (rw[Ι];simp));apply b)));exact W.nil ⟨_,U,e,U,U⟩
 have e:U9 s d p=9:=by unfold U9;rw[if_neg i,k];simp[g,j,l]
 rw[e];refine Β (by simp[l]) ?_;(repeat apply Ζ);refine Yz λf b=>?_;simp;(repeat (rw[Ι];simp))
end Go.TL
namespace Go.TL
open Go.Proofs.Tryz
open Go.Sort (SWO bitsLen insInner insOuter insertionSort insertionSort_holds ltInt sorted_unique_holds swo_ltInt swp)
open Go.Proofs Go.Conc
variable[Z8]
def XF.later{S b B B' σ σ' l vs}(h:XF S B σ l vs)(c:ZC S b B B' σ σ'):XF b B' σ' l vs:=⟨h.1,λi a v d e=>(h.2 i a v d e).later c⟩
def Me.fin{P Q mn x c rest S e H H' B' σ' v r}(i:Me P Q mn x c rest S [] H [] (λa s=>Yw a r/\s=[]) (λ_ _=>False))
  (f:Ext S [] H e B' H') (j:Holds e B' σ' H') (k:∀S B σ,Θ S B σ r v):η P Q mn x (c.finish v) rest H':=by
 let ⟨g,d⟩:=j.close (h:=0) (λid r l=>J);simp[List.take_zero]at g d;exact i.ret r [] _ [] H' v ⟨.refl _,U⟩ (f.trans d) ⟨λb m v hv=>d.Za _ _ _ (f.Za _ _ _ hv),λid r h=>by simp at h⟩ g (k _ _ _)
abbrev Oh(e:Int):Ρ:=[.cells 41 1 [I e]]
section
variable{Q:Value->Prop}{mn:Bool}{x:Vp}{c f:Frame}{rest:YM}{S Y2:ζ}{WW:ZZ}{H H1:Φ}{LY e:Int}{Am:ZP}{t:ZP}{env:κ}{err:Int}
def Al(b:Seq x)(y:Me prog Q mn x c rest S [] H [] (λa s=>Yw a (I err)/\s=[]) (λ_ _=>False)){d}(hd:O9 prog d 240 Am)
  (B:f.fn=221) (C:f.defers=[d]) (t:f.kind=.normal) (ag:f.roundOf=none) (j:(f.mode=.returning/\LY=err)\/∃v,f.mode=.panicking [{v,recovered:=false}]/\Θ Y2 WW (Oh LY) (.W4 41 (I err)) v)
  (D:Ext S [] H Y2 WW H1) (n:Holds Y2 WW (Oh LY) H1) (hv:XF Y2 WW (Oh LY) [.Ο 0 1 0 0] Am) (E:Y' Y2 WW (Oh LY) env f.tmps) (F:ε env 6=.Ο 0 1 0 0):η prog Q mn x f (c::rest) H1:=by
 have J:f.mode≠.run:=by rcases j with⟨h,_⟩|⟨v,h,_⟩<;>rw[h]<;>simp
 apply η.deferred b J C hd.t1 hd.t2 hd.run;rw[Ty func240 U];have u:∀(f')(e)(g)(i:Φ),f'.mode=.returning->f'.defers=[]->f'.kind=.normal->f'.fn=f.fn->f'.tmps=f.tmps->Ext Y2 WW H1 e g i->ZC Y2 e WW g (Oh LY) (Oh err)->Holds e g (Oh err) i->η prog Q mn x f' (c::rest) i:=λf' e g i K L M N O P R T=>by
  apply η.back b K L (.inl M) (fn:=f221) (by rw[N,B];exact func221);rw[O];refine Ω.mono (λv ah ⟨ai,aj,X,ak,Y,Z⟩=>?_) (λ_ _ h=>h) _ (Mc Τ (a:=I err) (show P3 υ [.cell 6 41] env (Oh err)=some (I err) by simp[P3,Nx,Jv,F,Ny,T1.agg]) T (E.later R));cases Z;exact y.fin (D.trans (P.trans X)) Y λ_ _ _=>.z _
 refine V.here (m:=1) (nt:=10) (env:=entry 0 [.Ο 0 1 0 0]) ?_ (XG.enter n hv o o);apply V.Ys b U
 repeat apply Ζ
 apply W.Zs;apply W.stop;intro aa ab al t3 k w;rcases j with⟨j,rfl⟩|⟨v,j,ad⟩
 .refine η.recovered b U U U U U (v:=.nilIface) (.inr ⟨?_,U,U⟩) ?_
  .simp[tryRecover,χ,Frame.enter,j]
  refine V.here (m:=1) ?_ (w.put U (.z .nilIface));apply V.Ys b U;refine W.part (A:=[]) Τ [1,2,3,4,5,6] [] U λae p=>?_;simp[Mu];(repeat (rw[Ι];simp[Mu]));apply p;apply W.ZK;refine Χ ?_;apply Δ U;refine Χ ?_;apply W.stop;intro e g i t4 l r;refine .QR b U U ?_;refine η.HI b U U U func240 ?_;rw[results_none U];apply Ω.pure';simp only[j];exact u _ e g i U U t U U (k.ext.trans l.ext) ((k.trans l).all n o) r.holds
 have af:Θ aa ab (Oh LY) (.W4 41 (I err)) v:=ad.later (k.all n o);refine η.recovered b U U U U U (v:=v) (cs':={f with defers:=[],mode:=.panicking [{v,recovered:=true}]}::c::rest) (.inl ?_) ?_
 .simp[tryRecover,χ,Frame.enter,j]
 refine V.here (m:=1) ?_ (w.put U af);apply V.Ys b U;refine W.part (A:=[]) Τ [1,2,3,4,5,6] [] U λae p=>?_;simp[Mu];(repeat (rw[Ι];simp[Mu]));apply p;apply W.ZK;refine Χ ?_;apply Β U;refine Χ ?_;apply W.stop;intro e g i t4 l r;refine .QR b U U ?_;refine η.HI b U U U func240 ?_;rw[results_none U];apply Ω.pure';exact u _ e g i U U t U U (k.ext.trans l.ext) ((k.trans l).all n o) r.holds
end
def sk(s e)(F:e.length<2 ^ 62)(p):Μ prog 221 [Wa s,TA e,UB p] (I (U9 s e p)):=by
 refine⟨⟨_,func221,U,U⟩,λT mn x c rest S B H vs f t hv u=>?_⟩;have J:=YY.1 (by have:=t.len;simpa using this);subst J;rw[Ty func221 U];refine V.here (m:=0) ?_ (XG.enter t hv o o);apply V.Ys f U
 repeat apply Ζ
 refine ZB (A:=[6]) Τ λw g=>ς ?_;apply g
 repeat apply Ζ
 apply W.Zs;refine W.part (A:=[]) Τ [0] [1] U λw g=>?_;(try simp);(repeat (rw[Ι];simp));apply g;apply W.stop;refine V.defer f U U U U U U U ⟨_,func240,U,U⟩ λX Y Z t1 d aa y h C hd=>?_;refine V.here (m:=1) ?_ ⟨h.holds,h.Zt,h.size,o⟩;apply V.Ys f U;apply W.ZK;refine ο λw g=>?_;refine Yi.mono (Ν.call ((sm s e F p).mono (E':=λa i=>(U9 s e p≠0/\a=.W4 41 (I (U9 s e p)))/\ω 0 a/\i=[]) (λa i ⟨l,k,n⟩=>⟨l,by subst k;simp,n⟩) (λa i ⟨l,k,n⟩=>⟨⟨l,k⟩,by subst k;simp,n⟩) |>.frame o)) (λa i ⟨D,r⟩=>?_) (λa i ⟨⟨D,K⟩,r⟩=>?_)
 .subst r;(try simp);(repeat (rw[Ι];simp));apply g;refine Χ ?_;apply W.stop;intro L M N t2 j E;apply η.ret (b:={Frame.enter prog 221 vs .normal with defers:=[d]}) f U U;exact Al f u hd U U U U (.inl ⟨U,D.symm⟩) (y.ext.trans j.ext) E.holds (C.later (j.all h.holds o)) E.Zt U
 subst r;subst K;intro L M N t2 ab v j O P Q;have R:=j.all h.holds o;apply Al f u hd U U U U (.inr ⟨v,U,Q⟩) (y.ext.trans j.ext) O (C.later R) P;rfl
end Go.TL
namespace Go.TL
open Go.Proofs.Tryz
open Go.Sort (SWO bitsLen insInner insOuter insertionSort insertionSort_holds ltInt sorted_unique_holds swo_ltInt swp)
open Go.Proofs
variable[Z8]
def sj:IntKind.i64.wrap 3=3:=θ
def LX(l:ψ)(i:Nat):Int:=match l[i]? with
 | none=>0
 | some n=>if KH n=false then 3 else if 0<i/\n<=(l[i-1]?).getD 0 then 5 else 0
def KD(l:ψ):Int:=XK ((List.range l.length).map (LX l))
def Rq(a:List (ψ)):Int:=if a.length=0 then 7 else if 4<a.length then 6 else XK ((List.range a.length).map λi=>KD ((a[i]?).getD []))
def si(s:Zm)(t:s.small):Μ prog 179 [Wa s] (I (Rq s.ZE)):=by
 refine Ν.body Τ func179 U U ntmps179 U U o ?_;have F:=t.2.1;by_cases b:s.ZE.length=0
 .refine γ b ?_;refine Β o ?_;refine Χ ?_;refine W.Y0 ?_;rw[show Rq s.ZE=7 by simp[Rq,b]];rfl
 by_cases g:(4:Int)<s.ZE.length
 .refine γ (Ξ b g) ?_;refine Δ (by simp[b]) ?_;refine γ (Ξ b g) ?_;refine Β o ?_;refine Χ ?_;refine W.Y0 ?_;rw[show Rq s.ZE=6 by simp[Rq,b];omega];rfl
 have w:Rq s.ZE=XK ((List.range s.ZE.length).map λi=>KD ((s.ZE[i]?).getD [])):=by
  unfold Rq;rw[if_neg b,if_neg J]
 rw[w];refine γ (Ξ b g) ?_;refine Δ (by simp[b]) ?_;refine γ (Ξ b g) ?_;refine Δ o ?_;refine Χ ?_;refine W.iter (λi:Nat=>i<=s.ZE.length/\∀j,j<i->KD ((s.ZE[j]?).getD [])=0) (λi=>[(1,XC s),(18,Yv s.ZE),(19,I s.ZE.length),(20,I i)]) (λ_=>[]) (λi=>s.ZE.length-i) 0 ⟨J,λj c=>J⟩ U o (λi hi x=>?_);refine Χ ?_;refine W.YD U (λa=>?_) (λa=>?_)
 .have a:i<s.ZE.length:=by simpa using a
  have u:(s.ZE[i]?).getD []=s.ZE[i]:=by simp[a]
  have H:s.ZE[i].length<2 ^ 30:=t.2.2.2.1 _ (YW a);refine γ a ?_;refine W.iter (λn:Nat=>n<=s.ZE[i].length/\∀j,j<n->LX s.ZE[i] j=0) (λn=>[(1,XC s),(18,Yv s.ZE),(19,I s.ZE.length),(20,I i),(4,δ I 1 s.ZE[i]),(24,δ I 1 s.ZE[i]),(25,I s.ZE[i].length),(26,I n)]) (λ_=>[]) (λn=>s.ZE[i].length-n) 0 ⟨J,λj c=>J⟩ U o (λn l y=>?_);refine Χ ?_;refine W.YD U (λm=>?_) (λm=>?_)
  .have hd:n<s.ZE[i].length:=by simpa using m
   have p:s.ZE[i][n]?=some s.ZE[i][n]:=ξ hd
   have v:∀e:Int,LX s.ZE[i] n=e->e≠0->XK ((List.range s.ZE.length).map λi=>KD ((s.ZE[i]?).getD []))=e:=λe B h=>
    L1 (i:=i) a (by rw[u];exact L1 hd B h l.2) h hi.2
   repeat apply Ζ
   refine Ns hd ?_;refine ο λK C=>?_;refine Μ.d (sS s.ZE[i][n]) (ς ?_);apply C;cases r:KH s.ZE[i][n]
   .refine Β o ?_;refine Χ ?_;refine W.Y0 ?_;rw[v 3 (by simp[LX,p,r]) θ];rfl
   refine Δ o ?_
   repeat apply Ζ
   refine W.P4 (A:=[]) Τ [(35,ZU (decide (0<n/\s.ZE[i][n]<=(s.ZE[i][n-1]?).getD 0))),(1,XC s),(18,Yv s.ZE),(19,I s.ZE.length),(20,I i),(4,δ I 1 s.ZE[i]),(24,δ I 1 s.ZE[i]),(25,I s.ZE[i].length),(26,I n)] ?_ (by
    cases n with
    | zero=>simp[Ι,QL]
    | succ n=>
     have D:n<s.ZE[i].length:=J
     have E:=Yh (show n<2 ^ 62 by omega)
     have h:(0:Int)<(n:Int)+1:=J;simp[Ι,QL,h,D,E])
   by_cases k:0<n/\s.ZE[i][n]<=(s.ZE[i][n-1]?).getD 0
   .refine Β (by simp only[k];rfl) ?_;refine Χ ?_;refine W.Y0 ?_;rw[v 5 (by simp only[LX,p,r];rw[if_neg o,if_pos k]) θ];rfl
   refine Δ (by simp only[k];rfl) ?_;refine Χ ?_;refine W.forget _ ?_ (y (n+1) ⟨hd,λj c=>?_⟩ J)
   .simp[YR hd (show s.ZE[i].length<2 ^ 62 by omega)]
   by_cases e:j=n
   .subst e;simp only[LX,p,r];rw[if_neg o,if_neg k]
   exact l.2 j J
  have hd:s.ZE[i].length<=n:=by simpa using m
  refine W.exit U ?_;refine Χ ?_;refine W.forget _ ?_ (x (i+1) ⟨a,λj c=>?_⟩ J)
  .simp[YR a (show s.ZE.length<2 ^ 62 by omega)]
  by_cases e:j=i
  .subst e;rw[u];exact L0 λj c=>l.2 j J
  exact hi.2 j J
 have a:s.ZE.length<=i:=by simpa using a
 refine W.exit U ?_;refine Χ ?_;refine W.Y0 ?_;rw[L0 (f:=λi=>KD ((s.ZE[i]?).getD [])) λj c=>hi.2 j J];rfl
def PX(s:Zm)(c:List Xo):Int:=if 4<c.length then 6 else XK ((List.range c.length).map λi=>match c[i]? with|none=>0|some p=>U9 s (c.take i) p)
def Og(s:Zm):Int:=if 4<s.cells.length then 6 else XK ((List.range s.cells.length).map λi=>PX s ((s.cells[i]?).getD []))
def sh(s:Zm)(k:s.small):Μ prog 180 [Wa s] (I (Og s)):=by
 refine Ν.body Τ func180 U U ntmps180 U U o ?_;have E:=k.2.2.1;by_cases l:(4:Int)<s.cells.length
 .refine γ l ?_;refine Β o ?_;refine Χ ?_;refine W.Y0 ?_;rw[show Og s=6 by simp[Og];omega];rfl
 have w:Og s=XK ((List.range s.cells.length).map λi=>PX s ((s.cells[i]?).getD [])):=by
  unfold Og;rw[if_neg J]
 rw[w];refine γ l ?_;refine Δ o ?_;refine Χ ?_;refine W.iter (λi:Nat=>i<=s.cells.length/\∀j,j<i->PX s ((s.cells[j]?).getD [])=0) (λi=>[(1,XC s),(13,Tz s.cells),(14,I s.cells.length),(15,I i)]) (λ_=>[]) (λi=>s.cells.length-i) 0 ⟨J,λj c=>J⟩ U o (λi hi x=>?_);refine Χ ?_;refine W.YD U (λa=>?_) (λa=>?_)
 .have a:i<s.cells.length:=by simpa using a
  have m:(s.cells[i]?).getD []=s.cells[i]:=by simp[a]
  have F:s.cells[i].length<2 ^ 30:=k.2.2.2.2 _ (YW a)
  have r:∀e:Int,PX s s.cells[i]=e->e≠0->XK ((List.range s.cells.length).map λi=>PX s ((s.cells[i]?).getD []))=e:=λe y B=>
   L1 (i:=i) a (by rw[m];exact y) B hi.2
  by_cases t:(4:Int)<s.cells[i].length
  .refine γ (Ξ a t) ?_;refine Β o ?_;refine Χ ?_;refine W.Y0 ?_;rw[r 6 (by unfold PX;rw[if_pos J]) θ];rfl
  refine γ (Ξ a t) ?_;refine Δ o ?_;refine Χ ?_;have u:PX s s.cells[i]=XK ((List.range s.cells[i].length).map λn=>match s.cells[i][n]? with|none=>0|some p=>U9 s (s.cells[i].take n) p):=by unfold PX;rw[if_neg J]
  refine W.iter (λn:Nat=>n<=s.cells[i].length/\∀j,j<n->(match s.cells[i][j]? with|none=>0|some p=>U9 s (s.cells[i].take j) p)=0) (λn=>[(1,XC s),(13,Tz s.cells),(14,I s.cells.length),(15,I i),(4,TA s.cells[i]),(22,TA s.cells[i]),(23,I s.cells[i].length),(24,I n)]) (λ_=>[]) (λn=>s.cells[i].length-n) 0 ⟨J,λj c=>J⟩ U o (λn d C=>?_);refine Χ ?_;refine W.YD U (λg=>?_) (λg=>?_)
  .have hd:n<s.cells[i].length:=by simpa using g
   have v:s.cells[i][n]?=some s.cells[i][n]:=ξ hd
   repeat apply Ζ
   refine ZB (A:=[6]) Τ λD h=>Wb hd ?_;apply h;refine W.fix (id:=0) (σ':=[]) (Γ _) U o o U [(5,I n),(6,.Κ [I s.cells[i][n].Xn,I s.cells[i][n].seen,I s.cells[i][n].bare]),(1,XC s),(13,Tz s.cells),(14,I s.cells.length),(15,I i),(4,TA s.cells[i]),(22,TA s.cells[i]),(23,I s.cells[i].length),(24,I n)] o ?_
   repeat apply Ζ
   refine W.draw (A:=[]) Τ mixed λD h=>?_;simp;(repeat (rw[Y3];simp[hd,RO hd]));try rw[YL]
   (try simp only[<-J4]);refine Wf (Μ.q (sk s (s.cells[i].take n) (by simp;omega) s.cells[i][n])) (Rt ?_);refine X5 (h _ _ ?_)
   repeat apply Ζ
   refine Χ ?_;by_cases b:U9 s (s.cells[i].take n) s.cells[i][n]=0
   .refine Δ (by simp[b]) ?_;refine Χ ?_;refine W.forget _ ?_ (C (n+1) ⟨hd,λj c=>?_⟩ J)
    .simp[YR hd (show s.cells[i].length<2 ^ 62 by omega)]
    by_cases e:j=n
    .subst e;rw[v];exact b
    exact d.2 j J
   refine Β (by simp[b]) ?_;refine Χ ?_;refine W.Y0 ?_;rw[r (U9 s (s.cells[i].take n) s.cells[i][n]) (by rw[u];exact L1 hd (by rw[v]) b d.2) b];rfl
  have hd:s.cells[i].length<=n:=by simpa using g
  refine W.exit U ?_;refine Χ ?_;refine W.forget _ ?_ (x (i+1) ⟨a,λj c=>?_⟩ J)
  .simp[YR a (show s.cells.length<2 ^ 62 by omega)]
  by_cases e:j=i
  .subst e;rw[m,u];exact L0 λj c=>d.2 j J
  exact hi.2 j J
 have a:s.cells.length<=i:=by simpa using a
 refine W.exit U ?_;refine Χ ?_;refine W.Y0 ?_;rw[L0 (f:=λi=>PX s ((s.cells[i]?).getD [])) λj c=>hi.2 j J];rfl
def Zm.err(s:Zm):Int:=if Rr s.Z2≠0 then Rr s.Z2 else if Rq s.ZE≠0 then Rq s.ZE else Og s
def Ak(s:Zm)(f:s.small):Μ prog 140 [Wa s] (I s.err):=by
 refine Ν.body Τ func140 U U ntmps140 U U o ?_;refine Χ ?_;refine .loop ?_;refine Χ ?_;refine Β U ?_;refine Χ ?_;refine ο λh a=>?_;refine Μ.d (so s f) (ς ?_);apply a;refine Χ ?_;by_cases b:Rr s.Z2=0
 case neg=>
  refine Β (by simp[b]) ?_;refine Χ ?_;refine W.Y0 ?_;rw[show s.err=Rr s.Z2 by unfold Zm.err;rw[if_pos b]];rfl
 refine Δ (by simp[b]) ?_;refine γ @D6 ?_;refine .inLoop ?_;refine Χ ?_;refine Β U ?_;refine Χ ?_;refine ο λh a=>?_;refine Μ.d (si s f) (ς ?_);apply a;refine Χ ?_;by_cases c:Rq s.ZE=0
 case neg=>
  refine Β (by simp[c]) ?_;refine Χ ?_;refine W.Y0 ?_;rw[show s.err=Rq s.ZE by unfold Zm.err;rw[if_neg (by simp[b]),if_pos c]];rfl
 refine Δ (by simp[c]) ?_;refine γ @D5 ?_;refine .inLoop ?_;refine Χ ?_;refine Β U ?_;refine Χ ?_;refine ο λh a=>?_;refine Μ.d (sh s f) (ς ?_);apply a;refine Χ ?_;have e:s.err=Og s:=by unfold Zm.err;rw[if_neg (by simp[b]),if_neg (by simp[c])]
 rw[e];by_cases g:Og s=0
 case neg=>
  refine Β (by simp[g]) ?_;refine Χ ?_;refine W.rt ?_;exact .of U
 refine Δ (by simp[g]) ?_;refine γ @sj ?_;refine .inLoop ?_;refine Χ ?_;refine Δ U ?_;refine W.exit U ?_;refine Χ ?_;refine W.Y0 ?_;rw[g];rfl
section
variable{P:Program}{T:ZY}{A:Z6}{m nt:Nat}{k:Zk}{env:κ}{σ:Ρ}{Z:Xv}{E:XM}
def W.Wr(a:ZH P T)(env':κ)(σ':Ρ){id:Nat}{ops:Y5}(h:W P m nt k env' σ' Z E)(b:run P T A nt ops (idx ops.size []) env σ (λe s=>s=σ'/\∀p∈env',ε e p.1=p.2) E):W P m nt (.code (.region id ops false)::k) env σ Z E:=
 ZB a λg c=>GO (λe s ⟨d,f⟩=>c e s (d▸W.forget env' f h)) _ _ _ b
end
def UU(l:μ):Ψ:=if l.isEmpty then .sl true 0 [] else .ms 0 l.length 0 l.length
def X1(t:TypeId)(k:Nat)(l:μ):Ρ:=if l.isEmpty then [] else [.cells t k l]
def V9(k:Nat)(l:μ):Ψ:=if l.isEmpty then .sl true 0 [] else .sl false k l
def Jm:UU []=.sl true 0 []:=rfl
def R6{t k:Nat}:X1 t k []=[]:=rfl
def Jl{l:μ}(h:l≠[]):UU l=.ms 0 l.length 0 l.length:=by unfold UU;rw[if_neg (by simpa using h)]
def UT{t k:Nat}{l:μ}(h:l≠[]):X1 t k l=[.cells t k l]:=by unfold X1;rw[if_neg (by simpa using h)]
def DY{l:μ}{x:Ψ}:UU (l++[x])=.ms 0 (l.length+1) 0 (l.length+1):=by rw[Jl o];simp
def KC{t k:Nat}{l:μ}{x:Ψ}:X1 t k (l++[x])=[.cells t k (l++[x])]:=UT o
def Yx.acc{t k:Nat}{l:μ}(b:∀e∈l,∀a∈e.cells,ω 0 a):Yx 0 (X1 t k l) (UU l) (V9 k l):=by
 unfold X1 UU V9;cases h:l.isEmpty with
 | true=>exact .low o
 | false=>exact .own (Γ _) rfl rfl b
def Yw.acc{k:Nat}{l:μ}:Yw (V9 k l) (.sl false k l):=by
 unfold V9;cases h:l.isEmpty with
 | true=>rw[Tj.1 h];exact .nil
 | false=>exact .refl _
@[simp] theorem hk{c:Type}{l:List c}{a b:c}:(l++[a]).set l.length b=l++[b]:=by rw[J9 _ _ (Z3 _),Nat.sub_self];rfl
@[simp] theorem hj{t k:Nat}{l:μ}:ω (X1 t k l).length (UU l):=by
 unfold UU X1;cases l.isEmpty<;>simp[S2]
def ω.mono{h c:Nat}{a:Ψ}(d:ω h a)(g:h<=c):ω c a:=by
 induction d with
 | z v=>exact .z v
 | Zl=>exact .Zl
 | Κ _ b=>exact .Κ b
 | sl _ b=>exact .sl b
 | Z' _ b=>exact .Z' b
 | Z7 _ b=>exact .Z7 b
 | fn _ _ e f=>exact .fn e f
 | W4 _ b=>exact .W4 b
 | Ο h=>exact .Ο J
 | ms h=>exact .ms J
 | mp h=>exact .mp J
 | it h=>exact .it J
def DX{t k h:Nat}{l:μ}(d:∀e∈l,∀a∈e.cells,ω 0 a):∀r∈X1 t k l,YO h r:=by
 intro r b;unfold X1 at b;cases c:l.isEmpty with
 | true=>rw[c]at b;simp at b
 | false=>
  rw[c]at b;simp at b;subst b;exact λe f a g=>(d e f a g).mono (Γ _)
section
variable{P:Program}{m nt:Nat}{k:Zk}{env:κ}{Z:Xv}{E:XM}
def W.Rp{σ0:Ρ}{t:TypeId}{e:Ψ}{kk:Nat}(c:m<=σ0.length)(d:∀r∈σ0,YO σ0.length r)(f:∀a∈e.cells,ω σ0.length a)(env':κ)
  (g:∀p∈env',(ε env p.1=p.2/\ω σ0.length p.2)\/(ε env p.1=.Ο σ0.length 1 0 0/\p.2=.Κ e.cells)) (h:W P m nt k env' σ0 Z E):W P m nt k env (σ0++[.cells t kk [e]]) Z E:=
 W.fix (t:=t) (kk:=kk) (e:=e) c o f (λid r i b=>d r (by
  rw[YT i]at b;exact ZD b)) o env' g h
def W.sg{t kk:Nat}{l:μ}{d:Nat}(f:∀e∈l,∀a∈e.cells,ω 0 a)(env':κ)(hd:ε env d=UU l)(c:∀p∈env',ε env p.1=p.2/\ω 0 p.2)(g:W P 0 nt k ((d,V9 kk l)::env') [] Z E):W P 0 nt k env (X1 t kk l) Z E:=
 W.cut 0 (Γ _) ((d,V9 kk l)::env') (Γ _) (λid r h=>J) (λp b=>by
  rcases YU.1 b with rfl|b
  .show Yx 0 _ (ε env d) _;rw[hd];exact .acc f
  rw[(c p b).1];exact .low (c p b).2) (by simpa using g)
end
abbrev Xh(l:ψ):Ψ:=.sl true 1 (l.map I)
def Yw.sf{L:List (ψ)}:Yw (V9 1 (L.map Xh)) (Yv L):=.trans .acc (.map λx _=>.one .ex rfl rfl)
def Aj{L:List (ψ)}:∀e∈L.map Xh,∀a∈e.cells,ω 0 a:=by
 intro e c a b;obtain⟨x,_,rfl⟩:=ZG.1 c;simp[Ψ.cells]at b;subst b;simp
def Sr{c:Type}[DecidableEq c]:c->List c->List c
 | _,[]=>[]
 | a,b::l=>if b=a then Sr a l else b::Sr b l
def X7{α}[DecidableEq α]:List α->List α
 | []=>[]
 | a::l=>a::Sr a l
def Gp{α}[DecidableEq α](l:List α){p}(f:0<p)(h:p<l.length)(g:p-1<l.length):X7 (l.take (p+1))=X7 (l.take p)++if l[p]=l[p-1] then [] else [l[p]]:=by
 have gen:∀(l)(a:α)(p)(h),Sr a (l.take (p+1))=Sr a (l.take p)++if l[p]=(a::l)[p]'(by simp;omega) then [] else [l[p]]:=by
  intro l
  induction l with
  | nil=>intro a p h;cases h
  | cons b l d=>
   intro a p h;cases p with
   | zero=>by_cases e:b=a<;>simp[Sr]
   | succ p=>
    have c:p<l.length:=by simpa using h
    by_cases e:b=a
    .subst e;have:=d b p c;simp[Sr]at this ⊢;exact this
    have:=d b p c;simp[Sr,e]at this ⊢;rw[this]
 cases l with
 | nil=>cases h
 | cons a l=>
  obtain⟨q,rfl⟩:∃q,p=q+1:=⟨p-1,J⟩;have c:q<l.length:=by simpa using h
  have:=gen l a q c;simp only[List.take_succ_cons,X7,List.getElem_cons_succ,Nat.add_sub_cancel]at this ⊢;rw[this];rfl
def se{α}[DecidableEq α](l:List α)(p):(X7 (l.take p)).length<=p:=by
 have gen:∀(l)(a:α),(Sr a l).length<=l.length:=by
  intro l
  induction l with
  | nil=>intro a;simp[Sr]
  | cons b l c=>
   intro a;simp[Sr];split
   .have:=c a;simp;omega
   have:=c b;simp;omega
 cases h:l.take p with
 | nil=>simp[X7]
 | cons a m=>
  have d:(a::m).length<=p:=by rw[<-h];simp;omega
  have:=gen m a;simp[X7]at d ⊢;omega
def Gn{f:ψ}{L}(a:L=f.map I){j x}(h:f[j]?=some x):L[j]?=some (I x)/\∀h:j<L.length,L[j]=I x:=by
 have e:L[j]?=some (I x):=by rw[a,YK,h];rfl
 exact⟨e,λb=>by rw[ξ b]at e;exact Xq e⟩
def sd(l n)(d:l.length=n)(aG:n<2 ^ 40):Ν prog 168 [.ms 0 n 0 n] [.cells 3 1 (l.map I)]
  (λr s=>∃ad,(X7 l++ad).length=n/\r=.ms 0 n 0 (X7 l).length/\s=[.cells 3 1 ((X7 l++ad).map I)]) (λ_ _=>False):=by
 apply Ν.body Τ func168 U U ntmps168 U U o;by_cases w:(n:Int)<2
 .refine γ (Ξ d w) ?_;apply Β U;refine γ d ?_;refine W.ret ⟨_,U,[],?_⟩;have e:X7 l=l:=by
   match l,d with
   | [],_=>rfl
   | [a],_=>rfl
   | a::b::l,d=>simp at d;omega
  rw[e,TM,d];exact⟨U,U,U⟩
 refine γ (Ξ d w) ?_;apply Δ U;refine Χ ?_;refine W.iter (λk=>1<=k/\k<=n/\X7 (l.take k)=l.take k) (λk=>[(0,.ms 0 n 0 n),(3,I k)]) (λ_=>[.cells 3 1 (l.map I)]) (λk=>n-k) 1 ⟨Z3 _,J,by
  match l,d with
  | [],d=>rfl
  | a::l,d=>rfl⟩ rfl o (λk ak al=>?_)
 let ⟨aH,c,K⟩:=ak;refine γ d ?_;by_cases D:k<n
 .apply Β (by simp[D])
  repeat apply Ζ
  obtain⟨p,ae⟩:∃p,k=p+1:=⟨k-1,J⟩;have am:IntKind.i64.wrap (k-1)=p:=by have:=Yh (show p<2 ^ 62 by omega);rw[ae];simpa using this
  have an:p<n:=J
  have Q:k<l.length:=J
  have ao:p<l.length:=J
  let ⟨L,h⟩:=ν (l.map I)
  have N:L.length=n:=by rw[h];simpa using d
  let ⟨R,S⟩:=Gn h (ξ Q)
  let ⟨T,V⟩:=Gn h (ξ ao);refine W.to (σ':=[.cells 3 1 L]) (env':=[(0,.ms 0 n 0 n),(3,I k)]) ?_ (by rw[h]) o;generalize X:l[k]=x at R S;generalize ap:l[p]=y at T V;refine VB (Ξ D (Ξ am (Ξ N (Ξ an (Ξ R (Ξ S (Ξ T V))))))) ?_;have af:X7 (l.take (k+1))=X7 (l.take k)++if x=y then [] else [x]:=by
   rw[Gp l J Q J];simp only[ae,Nat.add_sub_cancel]at X ⊢;rw[X,ap]
  by_cases O:x=y
  .apply Β (by simp[O])
   repeat apply Ζ
   refine W.Wr (A:=[]) Τ [(0,.ms 0 n 0 n),(3,I k),(4,.ms 0 n k (n-k))] [.cells 3 1 L] ?_ (by
    (try simp);(repeat (rw[Ι];simp[N,RO D]));(try simp[N,RO D]))
   refine Χ ?_;have ag:X7 (l.take (k+1))=l.take k:=by rw[af,if_pos O,TM,K]
   refine W.iter (λq=>1<=q.2.1/\k+q.2.1<=n/\q.2.2.length=n/\q.1<k+q.2.1/\q.1=(X7 (l.take (k+q.2.1))).length/\q.2.2.take q.1=X7 (l.take (k+q.2.1))/\∀j,k+q.2.1-1<=j->j<n->q.2.2[j]?=l[j]?)
    (λq=>[(0,.ms 0 n 0 n),(3,I q.1),(4,.ms 0 n k (n-k)),(5,I q.2.1)]) (λq=>[.cells 3 1 (q.2.2.map I)]) (λq=>n-q.2.1) (k,1,l) ⟨Z3 _,by simp;omega,d,o,by simp only[ag];simp;omega,by simp only[ag],λj _ _=>rfl⟩ (by rw[h]) o (λq aq ah=>?_)
   let ⟨m,c,f⟩:=q
   let ⟨ar,au,i,av,E,F,H⟩:=aq;simp only at ar au i av E F H;clear h N R S T V;refine γ i ?_;by_cases hd:c<n-k
   .have aI:c<((n-k:Nat):Int):=J
    apply Β (by simp[hd])
    repeat apply Ζ
    obtain⟨t,aw⟩:∃r,c=r+1:=⟨c-1,J⟩;have ax:IntKind.i64.wrap (c-1)=t:=by have:=Yh (show t<2 ^ 62 by omega);rw[aw];simpa using this
    have ay:t<n-k:=J
    let ⟨M,B⟩:=ν (f.map I)
    have Y:M.length=n:=by rw[B];simpa using i
    have ai:f[k+c]?=some (l[k+c]'J):=by rw[H _ J J,ξ]
    have hv:f[k+t]?=some (l[k+t]'J):=by rw[H _ J J,ξ]
    have g:=Gp l (p:=k+c) J J J
    have az:l[k+c-1]'J=l[k+t]'J:=by congr 1;omega
    rw[az]at g;generalize l[k+c]'J=u at ai g;generalize l[k+t]'J=v at hv g;let ⟨Z,aa⟩:=Gn B ai;let ⟨aA,aB⟩:=Gn B hv;refine W.to (σ':=[.cells 3 1 M]) (env':=[(0,.ms 0 n 0 n),(3,I m),(4,.ms 0 n k (n-k)),(5,I c)]) ?_ (by rw[B]) o;have C:m<n:=J;refine W.draw (A:=[]) Τ mixed λaJ aC=>?_;simp;(repeat (rw[Y3];simp[hd,ax,ay,Y,Z,aa,aA,aB]));try rw[YL];refine X5 (aC _ _ ?_)
    by_cases P:u=v
    .apply Δ (by simp[P]);refine Χ ?_;rw[if_pos P,TM]at g;apply W.to (ah (m,c+1,f) ⟨o,by simp;omega,i,by simp;omega,by simp only[<-UJ,g];exact E,by simp only[<-UJ,g];exact F,λj ab w=>H j (by simp at ab;omega) w⟩ (by simp;omega)) (by rw[B]);have:=Yh (show c+1<2 ^ 62 by omega);simpa using this
    apply Β (by simp[P]);rw[if_neg P]at g
    repeat apply Ζ
    refine W.Wr (A:=[]) Τ [(0,.ms 0 n 0 n),(3,I m),(4,.ms 0 n k (n-k)),(5,I c)] [.cells 3 1 ((f.set m u).map I)] ?_ (by
     (try simp);(repeat (rw[Ι];simp[hd,Y,C,Z,aa]));(try simp[hd,Y,C,Z,aa]);subst B;simp)
    refine Χ ?_;refine W.to (ah (m+1,c+1,f.set m u) ⟨o,by simp;omega,by simpa using i,by simp;omega,by simp only[<-UJ,g];simp;exact E,?_,λj ab w=>?_⟩ (by simp;omega)) o ?_
    .simp only[<-UJ,g];rw[<-F,Ws (by simp;omega),List.take_set_of_le (Z3 _)];simp
    .simp at ab;rw[XJ J];exact H j J w
    have aj:=Yh (show c+1<2 ^ 62 by omega)
    have Υ:=Yh (show m+1<2 ^ 62 by omega);simp at aj Υ ⊢;exact⟨Υ,aj⟩
   apply Δ (by simp[hd]);apply W.exit U;have aD:k+c=n:=J;have aE:l.take n=l:=Wl J;rw[aD,aE]at E F
   repeat apply Ζ
   have C:m<=n:=J;refine W.Wr (A:=[]) Τ [(0,.ms 0 n 0 n),(3,I m)] [.cells 3 1 ((X7 l++List.replicate (n-m) 0).map I)] ?_ (by
    (try simp);(repeat (rw[Ι];simp[i,C]));(try simp[i,C]);rw[<-J4,F,OH (by simp;omega),TM])
   have aF:(X7 l).length+(n-m)=n:=J;refine γ (Ξ aF C) ?_;refine W.ret ⟨_,U,List.replicate (n-m) 0,by simp;omega,?_,o⟩;rw[<-E];rfl
  apply Δ (by simp[O]);refine Χ ?_;refine W.to (al (k+1) ⟨J,J,?_⟩ J) (by rw[h]) ?_
  .rw[af,if_neg O,K,<-X,<-Ws Q]
  have:=Yh (show k+1<2 ^ 62 by omega);simpa using this
 apply Δ (by simp[D]);apply W.exit U;refine Χ ?_;refine W.ret ⟨_,U,[],?_⟩;have e:X7 l=l:=by rw[Wl J]at K;exact K
 rw[e,TM,d];exact⟨U,U,U⟩
def No:Zm:=⟨[],[],[]⟩
def DW{e f g:Bool}{a b c:Nat}:Yw (.Z' [.sl e a [],.sl f b [],.sl g c []]) (Wa No):=.Z' (.cons .nil (.cons .nil (.cons .nil .nil)))
abbrev Ai(r:Zm×Wz×Int):Ψ:=.Z7 [Wa r.1,Va r.2.1,I r.2.2]
def Tx(s:Zm)(a:Bool)(F:Wz):Zm×Wz×Int:=
 if s.err≠0 then(No,[],s.err) else if a=true/\F=[] then(s,[],9) else(s,F,0)
def Sq(s:Zm)(a:Int)(F:Wz):Zm×Wz×Int:=
 if s.err≠0 then(No,[],s.err) else if a<0\/(s.cells.length:Int)<=a then(No,[],3) else Tx s true F
def O8(s:Zm)(F:Wz):Prop:=s.err=0->Μ prog 141 [Wa s] (Va F)
def Ah(s:Zm)(g:s.small)(c:Bool)(F:Wz)(h:O8 s F):Μ prog 94 [Wa s,ZU c] (Ai (Tx s c F)):=by
 refine Ν.body Τ func94 U U ntmps94 U U o ?_
 repeat apply Ζ
 refine ZB (A:=[4]) Τ λf a=>ς ?_;apply a;refine ο λf a=>?_;refine Μ.d (Ak s g) (ς ?_);apply a;refine Χ ?_;by_cases b:s.err=0
 case neg=>
  have e:Tx s c F=(No,[],s.err):=by unfold Tx;rw[if_pos b]
  rw[e];refine Β (by simp[b]) ?_;refine Χ ?_;refine W.fix (id:=0) (σ':=[]) (Γ _) U o o U [(4,.Κ [.sl true 0 [],.sl true 0 [],.sl true 0 []]),(5,.sl true 0 []),(6,I s.err)] o ?_;refine W.rt ?_;exact .Z7 (.cons DW (.cons .nil (.cons (.refl _) .nil)))
 refine Δ (by simp[b]) ?_
 repeat apply Ζ
 refine ZB (A:=[8]) Τ λf a=>ς ?_;apply a;refine ο λf a=>?_;refine Μ.d (h b) (ς ?_);apply a
 repeat apply Ζ
 cases c
 case false=>
  have e:Tx s false F=(s,F,0):=by unfold Tx;rw[if_neg (by simpa using b),if_neg o]
  rw[e];refine Χ ?_;refine Δ U ?_;refine Χ ?_;refine W.fix (id:=0) (σ':=[]) (Γ _) U o o U [(4,XC s),(5,Va F),(6,I 0)] o ?_;exact W.Nt
 case true=>
  refine Χ ?_;by_cases z:F=[]
  .have e:Tx s true F=(s,[],9):=by unfold Tx;rw[if_neg (by simpa using b),if_pos ⟨U,z⟩]
   rw[e];refine Β (by simp[z]) ?_;refine Χ ?_;refine W.fix (id:=0) (σ':=[]) (Γ _) U o o U [(4,XC s),(5,.sl true 0 []),(6,I 9)] o ?_;refine W.rt ?_;exact .Z7 (.cons (.refl _) (.cons .nil (.cons (.refl _) .nil)))
  have e:Tx s true F=(s,F,0):=by unfold Tx;rw[if_neg (by simpa using b),if_neg (by simp[z])]
  rw[e];refine Δ (by simp[z]) ?_;refine Χ ?_;refine W.fix (id:=0) (σ':=[]) (Γ _) U o o U [(4,XC s),(5,Va F),(6,I 0)] o ?_;exact W.Nt
def sc(s:Zm)(g:s.small)(a:Int)(F:Wz)(j:O8 s F):Μ prog 125 [Wa s,I a] (Ai (Sq s a F)):=by
 refine Ν.body Τ func125 U U ntmps125 U U o ?_
 repeat apply Ζ
 refine ZB (A:=[4]) Τ λh b=>ς ?_;apply b;refine ο λh b=>?_;refine Μ.d (Ak s g) (ς ?_);apply b;refine Χ ?_;by_cases c:s.err=0
 case neg=>
  have e:Sq s a F=(No,[],s.err):=by unfold Sq;rw[if_pos c]
  rw[e];refine Β (by simp[c]) ?_;refine Χ ?_;refine W.fix (id:=0) (σ':=[]) (Γ _) U o o U [(4,.Κ [.sl true 0 [],.sl true 0 [],.sl true 0 []]),(5,.sl true 0 []),(6,I s.err)] o ?_;refine W.rt ?_;exact .Z7 (.cons DW (.cons .nil (.cons (.refl _) .nil)))
 refine Δ (by simp[c]) ?_;have i:Sq s a F=if a<0\/(s.cells.length:Int)<=a then(No,[],3) else Tx s true F:=by unfold Sq;rw[if_neg (by simpa using c)]
 repeat apply Ζ
 refine W.P4 (A:=[]) Τ [(22,ZU (decide (a<0)||decide ((s.cells.length:Int)<=a))),(2,XC s),(4,.Ο 0 1 0 0),(1,I a)] ?_ (by
  by_cases q:a<0
  ·(try simp);(repeat (rw[Ι];simp[q]));(try simp[q])
  ·(try simp);(repeat (rw[Ι];simp[q]));(try simp[q]))
 by_cases f:a<0\/(s.cells.length:Int)<=a
 .rw[i,if_pos f];refine Β (by simpa using f) ?_;refine Χ ?_;refine W.fix (id:=0) (σ':=[]) (Γ _) U o o U [(4,.Κ [.sl true 0 [],.sl true 0 [],.sl true 0 []]),(5,.sl true 0 []),(6,I 3)] o ?_;refine W.rt ?_;exact .Z7 (.cons DW (.cons .nil (.cons (.refl _) .nil)))
 rw[i,if_neg f];refine Δ (by simpa using f) ?_;refine ο λh b=>?_;refine Μ.d (Ah s g true F j) (ς ?_);apply b;refine Χ ?_;generalize Tx s true F=r;refine W.fix (id:=0) (σ':=[]) (Γ _) U o o U [(4,.Κ [UA r.1.Z2,Yv r.1.ZE,Tz r.1.cells]),(5,Va r.2.1),(6,I r.2.2)] o ?_;exact W.Nt
def Uz(F:Wz):List (ψ):=F.map λf=>[f.u,f.v]
def Ag{a b:Type}(f:a->b)(l:List a){i:Nat}(h:i<l.length):(l.take (i+1)).map f=(l.take i).map f++[f l[i]]:=by
 rw[Ws h,WT];rfl
def sb(s:Zm)(w:s.small)(F:Wz)(x:O8 s F)(y:F.length<2 ^ 20):Μ prog 49 [Wa s] (.Z7 [Yv (if s.err=0 then Uz F else []),I s.err]):=by
 refine Ν.body Τ func49 U U ntmps49 U U o ?_;refine Χ ?_;refine ZA ?_;refine ZB (A:=[4]) Τ λB j=>ς ?_;refine Μ.d (Ah s w false F x) (ς ?_);apply j;have e:Tx s false F=if s.err=0 then(s,F,0) else(No,[],s.err):=by
  unfold Tx;by_cases b:s.err=0
  .rw[if_neg (by simpa using b),if_neg o,if_pos b]
  rw[if_pos b,if_neg b]
 have n:(Tx s false F).2.1=if s.err=0 then F else []:=by rw[e];split<;>rfl
 have Υ:(Tx s false F).2.2=s.err:=by rw[e];split<;>simp[*]
 obtain⟨G,g⟩:∃G,G=if s.err=0 then F else []:=⟨_,U⟩
 have H:G.length<2 ^ 20:=by rw[g];split;exact y;simp
 have p:(if s.err=0 then Uz F else [])=Uz G:=by rw[g];split<;>rfl
 rw[n,Υ,p,<-g];clear g p e n Υ;generalize s.err=c;refine W.drop (h:=0) (σ':=[]) (Γ _) (Γ _) o U [(5,Va G),(6,I c)] o ?_;refine Χ ?_;have K:∀i,(Uz G).take i=Uz (G.take i):=λi=>by simp[Uz]
 refine W.iter (λi:Nat=>i<=G.length) (λi=>[(6,I c),(7,UU ((Uz (G.take i)).map Xh)),(16,Va G),(17,I G.length),(18,I i)])
  (λi=>X1 22 1 ((Uz (G.take i)).map Xh)) (λi=>G.length-i) 0 (Γ _) U (by simp[Jm,Uz]) (λi hi C=>?_)
 refine Χ ?_;refine W.YD U (λa=>?_) (λa=>?_)
 .have a:i<G.length:=by simpa using a
  have l:(Uz (G.take (i+1))).map Xh=(Uz (G.take i)).map Xh++[Xh [G[i].u,G[i].v]]:=by
   unfold Uz;rw[Li,Li,Ag _ _ a];rfl
  have r:=λh=>DX (t:=22) (k:=1) (h:=h) (Aj (L:=Uz (G.take i)))
  have D:((Uz (G.take i)).map Xh).length<=i:=by simp[Uz];omega
  obtain⟨L,m⟩:=ν ((Uz (G.take i)).map Xh);rw[<-m]at r D l;refine W.to (σ':=X1 22 1 L) (env':=[(6,I c),(7,UU L),(16,Va G),(17,I G.length),(18,I i)]) ?_ (by rw[m]) (by rw[m];simp)
  repeat apply Ζ
  refine ZB (A:=[9]) Τ λB j=>Wb a ?_;apply j;refine W.Rp (Γ _) (r _) o [(9,.Κ [I G[i].u,I G[i].v,Gt G[i].cells]),(6,I c),(7,UU L),(16,Va G),(17,I G.length),(18,I i)] o ?_
  repeat apply Ζ
  refine W.Wr (A:=[26]) Τ [(6,I c),(7,UU (L++[Xh [G[i].u,G[i].v]])),(16,Va G),(17,I G.length),(18,I i)] (X1 22 1 (L++[Xh [G[i].u,G[i].v]])) ?_ (by
   by_cases f:L=[]
   .subst f;(try simp);(repeat (rw[Ι];simp[Jm,R6]));(try simp[Jm,R6]);exact⟨U,U⟩
   have E:L.length<=4294967295:=J
   (try simp);(repeat (rw[Ι];simp[Jl f,UT f,DY,KC]));(try simp[Jl f,UT f,DY,KC]);exact E)
  refine Χ ?_;refine W.to (C (i+1) a J) ?_ ?_
  .rw[l]
  rw[l];simp[YR a (show G.length<2 ^ 62 by omega)]
 have a:i=G.length:=by simp at a;omega
 subst a;refine W.exit U ?_;refine Χ ?_;refine W.sg (d:=2) Aj [(3,I c)] o o ?_;refine W.rt ?_;exact .Z7 (.cons .sf (.cons (.refl _) .nil))
abbrev WQ(l:ψ):ψ:=l.mergeSort (λx y=>decide (x<=y))
def KB(l:ψ):Prop:=Ν prog 167 [.ms 0 l.length 0 l.length] [.cells 3 1 (l.map I)] (λr s=>r=.Z7 []/\s=[.cells 3 1 ((WQ l).map I)]) (λ_ _=>False)
def sa(N:Nat):Prop:=∀l:ψ,l.length<=N->KB l
def PW(a:Bool)(r:Int×Int):Int:=if a then r.2 else r.1
def Ro(a:Bool)(A:ψ)(C:List Wm)(j:Nat):ψ:=A++(C.take j).map (PW a)
def Af{lower A C}:Ro lower A C 0=A:=by simp[Ro]
def r9{lower A C j}(h:j<C.length):Ro lower A C (j+1)=Ro lower A C j++[PW lower C[j]]:=by
 unfold Ro;rw[Ag _ _ h,Sc]
def Ae{lower A C j}(h:C.length<=j):Ro lower A C j=A++C.map (PW lower):=by
 unfold Ro;rw[Wl h]
def r8{lower A C j}:(Ro lower A C j).length<=A.length+j:=by
 unfold Ro;simp;omega
def Ad(f:Found)(a:Nat)(b:Bool):ψ:=((f.cells[a]?).getD []).map (PW b)
def Wy(F:Wz)(a:Nat)(b:Bool):ψ:=F.flatMap λf=>Ad f a b
def Of(F:Wz)(a:Nat)(b:Bool):ψ:=X7 (WQ (Wy F a b))
def DV{l:ψ}:∀e∈l.map I,∀a∈e.cells,ω 0 a:=by
 intro e c a b;obtain⟨x,_,rfl⟩:=ZG.1 c;simp[Ψ.cells]at b;subst b;simp
def r7(F:Wz)(g:Nat)(b:Bool)(ao:F.length<2 ^ 20)(ab:∀f∈F,g<f.cells.length/\∀c∈f.cells,c.length<2 ^ 20)(N:Nat)(ap:N<2 ^ 20)(S:KB (Wy F g b))(T:Wy F g b≠[])(V:(Wy F g b).length<=N) :
  Μ prog 126 [Va F,I g,ZU b] (δ I 1 (Of F g b)):=by
 refine Ν.body Τ func126 U U ntmps126 U U o ?_;refine Χ ?_;refine W.iter (λi:Nat=>i<=F.length) (λi=>[(1,I g),(2,ZU b),(7,UU ((Wy (F.take i) g b).map I)),(12,Va F),(13,I F.length),(14,I i)])
  (λi=>X1 3 1 ((Wy (F.take i) g b).map I)) (λi=>F.length-i) 0 (Γ _) U (by simp[Wy,Jm]) (λi hi ad=>?_)
 refine Χ ?_;have ae:∀i,(Wy (F.take i) g b).length<=N:=λi=>by
  have e:Wy F g b=Wy (F.take i) g b++Wy (F.drop i) g b:=by
   conv=>lhs;rw[<-List.take_append_drop i F]
   simp only[Wy,J8]
  rw[e,VH]at V;omega
 refine W.YD U (λD=>?_) (λD=>?_)
 .have h:i<F.length:=by simpa using D
  obtain⟨E,af⟩:=ab _ (YW h);have ag:F[i].cells[g].length<2 ^ 20:=af _ (YW E);obtain⟨A,H⟩:=ν (Wy (F.take i) g b);have y:Wy (F.take (i+1)) g b=A++F[i].cells[g].map (PW b):=by
   rw[H];unfold Wy;rw[Ws h,J8];simp[Ad,E]
  have X:(A++F[i].cells[g].map (PW b)).length<=N:=by rw[<-y];exact ae _
  rw[VH,WS]at X;refine W.to (σ':=X1 3 1 (A.map I)) (env':=[(1,I g),(2,ZU b),(7,UU (A.map I)),(12,Va F),(13,I F.length),(14,I i)]) ?_ (by rw[H]) (by rw[H];simp)
  repeat apply Ζ
  refine ZB (A:=[9]) Τ λK n=>Wb h ?_;apply n;refine W.Rp (Γ _) (DX DV) o [(9,.Κ [I F[i].u,I F[i].v,Gt F[i].cells]),(1,I g),(2,ZU b),(7,UU (A.map I)),(12,Va F),(13,I F.length),(14,I i)] o ?_;refine γ E ?_;generalize aq:F[i].cells[g]=C at ag y X;refine W.iter (λj:Nat=>j<=C.length) (λj=>[(1,I g),(2,ZU b),(7,UU ((Ro b A C j).map I)),(12,Va F),(13,I F.length),(14,I i),(22,KG C),(23,I C.length),(24,I j)])
   (λj=>X1 3 1 ((Ro b A C j).map I)) (λj=>C.length-j) 0 (Γ _) (by rw[Af]) (by simp[Af]) (λj ar ah=>?_)
  refine Χ ?_;refine W.YD U (λO=>?_) (λO=>?_)
  .have w:j<C.length:=by simpa using O
   obtain⟨L,B⟩:=ν (Ro b A C j);have au:L.length<=A.length+j:=by rw[B];exact r8
   have P:Ro b A C (j+1)=L++[PW b C[j]]:=by rw[B];exact r9 w
   refine W.to (σ':=X1 3 1 (L.map I)) (env':=[(1,I g),(2,ZU b),(7,UU (L.map I)),(12,Va F),(13,I F.length),(14,I i),(22,KG C),(23,I C.length),(24,I j)]) ?_ (by rw[B]) (by rw[B];simp)
   repeat apply Ζ
   refine ZB (A:=[11]) Τ λK n=>Wb w ?_;apply n;refine W.Rp (Γ _) (DX DV) o [(11,.Κ [I C[j].1,I C[j].2]),(1,I g),(2,ZU b),(7,UU (L.map I)),(12,Va F),(13,I F.length),(14,I i),(22,KG C),(23,I C.length),(24,I j)] o ?_
   repeat apply Ζ
   generalize C[j]=r at P;refine W.Wr (A:=[34]) Τ [(1,I g),(2,ZU b),(7,UU ((L++[PW b r]).map I)),(12,Va F),(13,I F.length),(14,I i),(22,KG C),(23,I C.length),(24,I j)] (X1 3 1 ((L++[PW b r]).map I)) ?_ (by
    have ai:L.length<=4294967295:=J;rw[WT];cases b
    all_goals
     by_cases Q:L.map I=[]
     .rw[Q,Jm,R6];(try simp);(repeat (rw[Ι];simp));(try simp);refine Μ.d (Ar _) (ς ?_);simp[X1,UU,PW]
     rw[Jl Q,UT Q];(try simp);(repeat (rw[Ι];simp));(try simp);refine Μ.d (Ar _) (ς ?_);simp[KC,DY,PW,ai])
   refine Χ ?_;refine W.to (ah (j+1) w J) ?_ ?_
   .rw[P,WT];rfl
   rw[P];simp[YR w (show C.length<2 ^ 62 by omega)]
  have w:C.length<=j:=by simpa using O
  refine W.exit U ?_;refine Χ ?_;refine W.to (ad (i+1) h J) ?_ ?_
  .rw[y,Ae w]
  rw[y,Ae w];simp[YR h (show F.length<2 ^ 62 by omega)]
 have h:i=F.length:=by simp at D;omega
 refine W.exit U ?_;rw[h,OG];obtain⟨M,Y⟩:=ν (Wy F g b);rw[<-Y]at S T V ⊢;have Z:M.map I≠[]:=by simpa using T
 have aj:Of F g b=X7 (WQ M):=by rw[Y];rfl
 have ak:(WQ M).length=M.length:=by simp[WQ]
 refine W.to (σ':=[.cells 3 1 (M.map I)]) (env':=[(7,.ms 0 M.length 0 M.length)]) ?_ (UT Z) (by simp[Jl Z]);refine ο λK n=>?_;refine Ν.one S 0 U (Pa Oi) (Pa Oi) (by simp[Uj]) (by simp[Xc]) (by simp[Ui]) ?_;simp[Yt,WE];(repeat (rw[Ι];simp));apply n;refine ο λK n=>?_;have al:=sd (WQ M) M.length ak J;refine Ν.D2 al 0 U (Pa Oi) (by simp[Uj]) (by simp[Ui]) (λa s ⟨R,am,aa,an⟩=>⟨_,an,Pa Oi,by subst aa;simp[Uj],?_⟩);subst aa;simp[Ui];(repeat (rw[Ι];simp));apply n;refine W.cut 0 (Γ _) [(6,δ I 1 (X7 (WQ M)))] o o ?_ ?_
 .intro p x;simp at x;subst x;have x:=Yx.part (σ:=[.cells 3 1 ((X7 (WQ M)).map I++R.map I)]) (id:=0) (t:=3) (k:=1) (l:=(X7 (WQ M)).map I) (l2:=R.map I) (m:=(X7 (WQ M)).length) U o DV;have e:((X7 (WQ M)).map I++R.map I).length=M.length:=by rw[<-WT,WS];exact am
  rw[e]at x;exact x
 rw[aj];exact W.Nt
abbrev YH(n:Int):Ψ:=.z (.int .i32 n)
def r6(l:ψ):Mj (l.map YH)=some l:=by
 induction l with
 | nil=>rfl
 | cons a l b=>simp[Mj,b]
end Go.TL
namespace Go.TL
open Go.Proofs.Tryz
open Go.Sort (SWO bitsLen insInner insOuter insertionSort insertionSort_holds ltInt sorted_unique_holds swo_ltInt swp)
open Go.Proofs
def DU{b c:Type}(f:b->c)(l:List b)(i:Nat):(l.map f).eraseIdx i=(l.eraseIdx i).map f:=by
 induction l generalizing i with
 | nil=>rfl
 | cons a l d=>cases i<;>simp[d]
def Ac{b:Type}[DecidableEq b]{l:List b}{i:Nat}{x:b}(h:l[i]?=some x):l.Perm (x::l.eraseIdx i):=by
 induction l generalizing i with
 | nil=>simp at h
 | cons a l c=>
  cases i with
  | zero=>simp at h;subst h;exact .refl _
  | succ i=>
   simp at h;exact((c h).cons a).trans (.swap ..)
variable[Z8]
section
variable{P:Program}{m nt:Nat}{k:Zk}{env:κ}{σ:Ρ}{Z:Xv}{E:XM}
def W.bind{n:Xv}(h:W P m nt k env σ n E)(w:∀j e s,n j e s->W P m nt j e s Z E):W P m nt k env σ Z E:=
 λo mn x cs b S B H t p r y A u=>h o mn x cs b S B H t p r y
  (λj e s C B' H' t' M D v F I=>by
   cases I;exact w j e s D o mn x cs b C B' H' t' p r F (λJ Υ a c d f t2 g i l=>A J Υ a c d f t2 g i (v.trans l)) (λl Υ a c d f t2 g K i L=>u l Υ a c d f t2 g K i (v.trans L)))
  u
def W.upto{a:Item}(env':κ)(σ':Ρ)(b:W P m nt (a::k) env σ (λj e s=>j=k/\s=σ'/\∀p∈env',ε e p.1=p.2) E)(c:W P m nt k env' σ' Z E):W P m nt (a::k) env σ Z E:=
 .bind b λj e s ⟨d,f,g⟩=>by
  subst d;subst f;exact .forget env' g c
def W.Gm{a:Item}{l:Nat}(env':κ)(σ':Ρ)(b:W P m nt (a::.inBlock l::k) env σ (λj e s=>j=k/\s=σ'/\∀p∈env',ε e p.1=p.2) E)(c:W P m nt k env' σ' Z E):W P m nt (a::.inBlock l::k) env σ Z E:=
 .bind b λj e s ⟨d,f,g⟩=>by
  subst d;subst f;exact .forget env' g c
def W.DT{ι:Type}{a:Item}(p:ι->Prop)(env':ι->κ)(σ':ι->Ρ)(b:W P m nt (a::k) env σ (λj e s=>j=k/\∃i,p i/\s=σ' i/\∀q∈env' i,ε e q.1=q.2) E)(c:∀i,p i->W P m nt k (env' i) (σ' i) Z E):W P m nt (a::k) env σ Z E:=
 .bind b λj e s ⟨d,i,hi,f,g⟩=>by
  subst d;subst f;exact .forget (env' i) g (c i hi)
end
end Go.TL
namespace Go.TL
open Go.Proofs.Tryz
open Go.Sort (SWO bitsLen insInner insOuter insertionSort insertionSort_holds ltInt sorted_unique_holds swo_ltInt swp)
open Go.Proofs
variable[Z8]
def Gl{a:Type}[Inhabited a]{lt:a->a->Bool}(b:SWO lt)(c:∀x y,lt x y=false->lt y x=false->x=y)(l:List a):(insertionSort lt l.toArray 0 l.length).toList=l.mergeSort (λx y=>!lt y x):=by
 obtain⟨d,e⟩:=insertionSort_holds (lt:=lt) b l.toArray 0 l.length (Γ _) o;exact sorted_unique_holds (lt:=lt) b c l.toArray _ (by simpa using d) (by simpa using e)
def Ab(x y:Int)(h:ltInt x y=false)(k:ltInt y x=false):x=y:=by
 simp[ltInt]at h k;omega
def r5:sa 12:=λl a=>by
 have h:=sA l.toArray l.length o a;rw[Gl swo_ltInt Ab l]at h;have e:(λx y:Int=>!ltInt y x)=λx y=>decide (x<=y):=by
  funext x y;rw[Pv];simp[ltInt]
 rw[e]at h;exact h
def Oe(x y:Int×Int):Zh P0 x y=decide (x.1<y.1\/(x.1=y.1/\x.2<y.2)):=by
 unfold Zh P0;simp only[QF,QG];by_cases c:x.1<y.1
 .simp[c]
 by_cases e:y.1<x.1
 .have:¬x.1=y.1:=J
  simp[c,e,this]
 have a:x.1=y.1:=J
 by_cases b:x.2<y.2
 .simp[a,b]
 by_cases d:y.2<x.2
 .simp[a,b,d]
 simp[a,b,d]
def Gk:SWO (Zh P0) where
 irrefl x:=by rw[Oe];simp
 trans x y z h k:=by
  rw[Oe] at *;simp at *;omega
 ntrans x y z h k:=by
  rw[Oe] at *;simp at *;omega
def r4(x y:Int×Int)(h:Zh P0 x y=false)(k:Zh P0 y x=false):x=y:=by
 rw[Oe] at *;simp at h k;apply NM<;>omega
abbrev SX(x y:Int×Int):Bool:=!Zh P0 y x
def rZ{l m:List Wm}(d:l.Perm m)(e:m.Pairwise λx y=>x.1<y.1\/(x.1=y.1/\x.2<y.2)):l.mergeSort SX=m:=by
 have f:∀a b c:Int×Int,SX a b=true->SX b c=true->SX a c=true:=λa b c h k=>by
  simp only[SX,Oe] at *;simp at *;omega
 have g:∀a b:Int×Int,(SX a b||SX b a)=true:=λa b=>by
  simp only[SX,Oe];simp;omega
 have i:=Il (le:=SX) f g l
 have j:(l.mergeSort SX).Perm m:=(Ln l SX).trans d;refine Io (le:=λa b=>SX a b=true) (λa b _ _ h k=>?_) i (e.imp λ{a b} h=>?_) j
 .simp only[SX,Oe]at h k;simp at h k;apply NM<;>omega
 simp only[SX,Oe];simp;omega
def rY(a:Ψ)(b:ω 0 a):Μ prog 263 [.sl true 0 [],I 0,I 0,a] (.Z7 []):=by
 refine Ν.body Τ func263 U U ntmps263 U U o ?_;refine Χ ?_;refine .loop ?_;refine Χ ?_;refine Δ U ?_;refine W.exit U ?_;exact W.nil ⟨_,U,Yw.refl _,U⟩
def rX(d:Nat)(a:Ψ)(b:ω 0 a):Μ prog 245 [.sl true 0 [],I 0,I 0,I d,a] (.Z7 []):=by
 refine Ν.body Τ func245 U U ntmps245 U U o ?_;refine Χ ?_;refine .loop ?_;refine Χ ?_;refine Β U ?_;refine ο λf e=>?_;refine Μ.c (rY a b) (ZJ.refl _) (by simp[b]) o ?_;simp;(repeat (rw[Ι];simp));apply e;exact W.ret ⟨_,U,Yw.refl _,U⟩
def rW(a:Ψ)(b:ω 0 a):Μ prog 223 [.sl true 0 [],a] (.Z7 []):=by
 refine Ν.body Τ func223 U U ntmps223 U U o ?_;have Υ:IntKind.u64.wrap (0:Int)=0:=θ;refine Χ ?_;(repeat apply Ζ);refine Yz λf e=>?_;simp;(repeat (rw[Ι];simp[Υ]));refine Μ.d (Np 0 J) (ς ?_);refine Μ.c (rX (bitsLen 0) a b) (ZJ.refl _) (by simp[b]) o ?_;simp;(repeat (rw[Ι];simp));apply e;exact W.nil ⟨_,U,Yw.refl _,U⟩
def rV(a:Ψ)(b:ω 0 a):Μ prog 246 [.sl true 0 [],I 0,I 0,a] (.Z7 []):=by
 refine Ν.body Τ func246 U U ntmps246 U U o ?_;refine Χ ?_;refine .loop ?_;refine Χ ?_;refine Δ U ?_;refine W.exit U ?_;exact W.nil ⟨_,U,Yw.refl _,U⟩
def rU(d:Nat)(a:Ψ)(b:ω 0 a):Μ prog 225 [.sl true 0 [],I 0,I 0,I d,a] (.Z7 []):=by
 refine Ν.body Τ func225 U U ntmps225 U U o ?_;refine Χ ?_;refine .loop ?_;refine Χ ?_;refine Β U ?_;refine ο λf e=>?_;refine Μ.c (rV a b) (ZJ.refl _) (by simp[b]) o ?_;simp;(repeat (rw[Ι];simp));apply e;exact W.ret ⟨_,U,Yw.refl _,U⟩
def rT(a:Ψ)(b:ω 0 a):Μ prog 184 [.sl true 0 [],a] (.Z7 []):=by
 refine Ν.body Τ func184 U U ntmps184 U U o ?_;have Υ:IntKind.u64.wrap (0:Int)=0:=θ;refine Χ ?_;(repeat apply Ζ);refine Yz λf e=>?_;simp;(repeat (rw[Ι];simp[Υ]));refine Μ.d (Np 0 J) (ς ?_);refine Μ.c (rU (bitsLen 0) a b) (ZJ.refl _) (by simp[b]) o ?_;simp;(repeat (rw[Ι];simp));apply e;exact W.nil ⟨_,U,Yw.refl _,U⟩
def Yx.struct{h id k:Nat}{σ:Ρ}{t:TypeId}{l cs:μ}(b:h<=id)(c:σ[id]?=some (.cells t k [.Z' l]))(d:cs.length=l.length)(H:∀(x:Nat)(a a':Ψ),l[x]?=some a->cs[x]?=some a'->Yx h σ a a'):Yx h σ (.Ο id 1 0 0) (.Κ cs):=
 .Ο b c U U (by simp[Ψ.cells,d]) λx a a' e f=>H x a a' (by simpa[Ψ.cells] using e) f
abbrev Rn(a b c:Ψ):Row:=.cells 34 3 [.Z' [a,b,c]]
end Go.TL
