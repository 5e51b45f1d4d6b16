import Derived.Test.YtlabjopijpkiaaaGreatJAR
set_option maxHeartbeats 16000000
set_option maxRecDepth 20000
set_option linter.unusedSectionVars false
set_option linter.unusedSimpArgs false
set_option linter.unusedVariables false
namespace Go.TL
open Go.IntKind (i64 u64)
open Go.Proofs.Tryz
open Go.Proofs
variable [ZX]
def ψ.V7 (s:ψ) (n:Int):Bool:=decide (n< -1)||decide ((s.Ι.length:Int)<=n)
def Ri (s:ψ) (inks e:List Int) (a:Int):Int×Int:=
 if s.err≠0 then(0,s.err) else
 match inks,e with
 | [b,c],[d,l1]=>if UI b=false\/UI c=false\/s.V7 d=true\/s.V7 l1=true\/a<0\/(s.Δ.length:Int)<=a then(0,3) else if b<=c then(0,5) else(s.XA (b,c) (d,l1) a.toNat,0)
 | _,_=>(0,8)
theorem tG (s:ψ) (n:Int):Ε prog 92 [J n,.Θ [ν s.Ι,ξ s.Δ,Z2 s.cells]] (Z4 (s.V7 n)):=by
 refine Μ.body Ρ func92 rfl rfl ntmps92 rfl rfl I ?_;by_cases h:n< -1
 .refine Γ h ?_;refine W.rt ?_;exact .of (by simp[ψ.V7,h])
 .refine Γ h ?_;refine W.rt ?_;exact .of (by simp[ψ.V7,h])
abbrev tF (p:Int×Int):Ω:=.ZW [J p.1,J p.2]
theorem Cd (s:ψ) (F:s.small) (inks l:List Int) (g:Int):Ε prog 34 [Yz s,Z9 J 1 inks,Z9 J 1 l,J g] (tF (Ri s inks l g)):=by
 refine Μ.body Ρ func34 rfl rfl ntmps34 rfl rfl I ?_;refine Τ ?_;refine Z' λm f=>?_;refine Ε.d (Lw s F) (Z6 ?_);apply f;refine Τ ?_;by_cases y:s.err=0
 case neg=>
  refine Α (by simp[y]) ?_;refine Τ ?_;refine W.rt ?_;exact .of (by rw[show Ri s inks l g=(0,s.err) by unfold Ri;rw[if_pos y]];rfl)
 refine Ζ (by simp[y]) ?_;refine Τ ?_;have hv:Ri s inks l g=match (generalizing:=false) inks,l with
   | [i,j],[k,l1]=>if UI i=false\/UI j=false\/s.V7 k=true\/s.V7 l1=true\/g<0\/(s.Δ.length:Int)<=g then(0,3) else if i<=j then(0,5) else(s.XA (i,j) (k,l1) g.toNat,0)
   | _,_=>(0,8):=by unfold Ri;rw[if_neg (by simpa using y)]
 by_cases B:(inks.length:Int)=2
 case neg=>
  have e:Ri s inks l g=(0,8):=by
   rw[hv];split
   .simp at B
   .rfl
  refine XB B λm f=>?_;apply f;refine Α rfl ?_;refine Τ ?_;refine W.rt ?_;exact .of (by rw[e];rfl)
 by_cases E:(l.length:Int)=2
 case neg=>
  have e:Ri s inks l g=(0,8):=by
   rw[hv];split
   .simp at E
   .rfl
  refine XB (Υ B E) λm f=>?_;apply f;refine Α rfl ?_;refine Τ ?_;refine W.rt ?_;exact .of (by rw[e];rfl)
 obtain⟨i,j,rfl⟩:∃a b,inks=[a,b]:=by
  match inks,B with
  | [a,b],_=>exact⟨a,b,rfl⟩
  | [],h=>simp at h
  | [_],h=>simp at h
  | _::_::_::_,h=>simp at h;omega
 obtain⟨k,l1,rfl⟩:∃a b,l=[a,b]:=by
  match l,E with
  | [a,b],_=>exact⟨a,b,rfl⟩
  | [],h=>simp at h
  | [_],h=>simp at h
  | _::_::_::_,h=>simp at h;omega
 simp only at hv;refine Z' λm f=>?_;apply f;refine Ζ rfl ?_
 repeat apply Ξ
 have f3:(UI i=false\/UI j=false\/s.V7 k=true\/s.V7 l1=true\/g<0\/(s.Δ.length:Int)<=g)->Ri s [i,j] [k,l1] g=(0,3):=λh=>by rw[hv];exact if_pos h
 have H:([k,l1].any s.V7)=(s.V7 k||s.V7 l1):=I
 have call3:Ε prog 94 [Z9 J 1 [k,l1],.fn (.func 92) [] [.Θ [ν s.Ι,ξ s.Δ,Z2 s.cells]]] (Z4 (s.V7 k||s.V7 l1)):=by
  rw[<-H];exact xo [k,l1] _ s.V7 I (by simp[Va]) (λx _=>λ_=>(tG s x).cc (by simp;exact ZM.refl _) I I ⟨rfl,rfl⟩)
 cases t:UI i
 case false=>
  have r:=f3 (.inl t);refine Z' λm f=>?_;refine Ε.d (Sa i) (XJ t ?_);apply f;refine Α rfl ?_;refine Τ ?_;refine W.rt ?_;exact .of (by rw[r];rfl)
 cases u:UI j
 case false=>
  have r:=f3 (.inr (.inl u));refine Z' λm f=>?_;refine Ε.d (Sa i) (XJ t ?_);refine Ε.d (Sa j) (XJ u ?_);apply f;refine Α rfl ?_;refine Τ ?_;refine W.rt ?_;exact .of (by rw[r];rfl)
 cases o:s.V7 k||s.V7 l1
 case true=>
  have r:=f3 (.inr (.inr (by rcases Bool.or_eq_true _ _ |>.mp o with h|h<;>simp[h])));refine Z' λm f=>?_;refine Ε.d (Sa i) (XJ t ?_);refine Ε.d (Sa j) (XJ u ?_);refine Ε.c call3 (ZM.refl _) (by simp[Va]) I ?_;simp[o];(repeat (rw[Ν];simp[o]));apply f;refine Α rfl ?_;refine Τ ?_;refine W.rt ?_;exact .of (by rw[r];rfl)
 by_cases v:g<0
 .have r:=f3 (.inr (.inr (.inr (.inr (.inl v)))));refine Z' λm f=>?_;refine Ε.d (Sa i) (XJ t ?_);refine Ε.d (Sa j) (XJ u ?_);refine Ε.c call3 (ZM.refl _) (by simp[Va]) I ?_;simp[o,v];(repeat (rw[Ν];simp[o,v]));apply f;refine Α rfl ?_;refine Τ ?_;refine W.rt ?_;exact .of (by rw[r];rfl)
 by_cases w:(s.Δ.length:Int)<=g
 .have r:=f3 (.inr (.inr (.inr (.inr (.inr w)))));refine Z' λm f=>?_;refine Ε.d (Sa i) (XJ t ?_);refine Ε.d (Sa j) (XJ u ?_);refine Ε.c call3 (ZM.refl _) (by simp[Va]) I ?_;simp[o,v,w];(repeat (rw[Ν];simp[o,v,w]));apply f;refine Α rfl ?_;refine Τ ?_;refine W.rt ?_;exact .of (by rw[r];rfl)
 have C:s.V7 k=false/\s.V7 l1=false:=by simpa using o
 rw[if_neg (by rw[t,u,C.1,C.2];simp;omega)] at hv;refine Z' λm f=>?_;refine Ε.d (Sa i) (XJ t ?_);refine Ε.d (Sa j) (XJ u ?_);refine Ε.c call3 (ZM.refl _) (by simp[Va]) I ?_;simp[o,v,w];(repeat (rw[Ν];simp[o,v,w]));apply f;refine Ζ rfl ?_
 repeat apply Ξ
 refine Pj ?_;by_cases D:i<=j
 .rw[if_pos D] at hv;refine Α (by simp[D]) ?_;refine Τ ?_;refine W.rt ?_;exact .of (by rw[hv];rfl)
 .rw[if_neg D] at hv;refine Ζ (by simp[D]) ?_;obtain⟨n,rfl⟩:∃n:Nat,g=n:=⟨g.toNat,U⟩;have K:n<s.Δ.length:=U;have L:k<s.Ι.length:=by have:=C.1;simp[ψ.V7] at this;omega
  have M:l1<s.Ι.length:=by have:=C.2;simp[ψ.V7] at this;omega
  repeat apply Ξ
  refine W.draw (A:=[]) Ρ mixed λm f=>QL ?_;refine Yl (Ε.p (LA s F (i,j) (k,l1) n K L M) (ZM.refl _) I I) ?_;simp;(repeat (rw[ZK];simp));try rw[ZL]
  refine Y8 (f _ _ ?_);refine Τ ?_;refine W.rt ?_;exact .of (by rw[hv];rfl)
end Go.TL
namespace Go.TL
open Go.IntKind (i64 u64)
open Go.Proofs.Tryz
open Go.Proofs
def Ze:Nat->Int×Int
 | 0=>(1,0)
 | 1=>(2,0)
 | _=>(2,1)
def YX (s:ψ) (p:Int×Int):Found:=⟨p.1,p.2,(List.range s.cells.length).map (X3 s p)⟩
def WH (s:ψ) (k:Nat):Option Found:=if k<3/\0<(YX s (Ze k)).many (-1) then some (YX s (Ze k)) else none
def Z1 (s:ψ):List Found:=(List.range 3).filterMap (WH s)
structure F0 (N:Nat) (s:ψ):Prop where
 small:s.small
 Ι:s.Ι.length<2 ^ 20
 lit:∀c∈s.cells,∀x∈c,0<=x.Ys/\x.Ys<s.Δ.length
 reads:∀k,k<3->∀c,c<s.cells.length->(X3 s (Ze k) c).length<=N
 many:∀k,k<3->∀i,i<=s.cells.length->Xh (YX s (Ze k)).cells (-1) i<2 ^ 62
abbrev Cc (s:ψ):Prop:=F0 12 s
theorem Cb {N:Nat} (n:N<2 ^ 20) (o:∀c:ZX,@IV c N) {s:ψ} (h:F0 N s):@S9 Uq s (Z1 s):=λ_=>by
 refine tH (fd:=WH s) (pr:=Ze) (F:=λk=>YX s (Ze k)) (N:=λk=>(YX s (Ze k)).many (-1)) ⟨λk g c=>?_,λk g c=>?_,λk=>rfl⟩ rfl rfl rfl rfl ?_
 .exact @wE c s h.small h.Ι (Ze k) h.lit N n (o c) (h.reads k g)
 .have l:(YX s (Ze k)).cells.length=s.cells.length:=by simp[YX]
  have:=h.small.2.2.1;exact @I3 c (YX s (Ze k)) (-1) (by rw[l];omega) (λi hi=>h.many k g i (by rw[<-l];exact hi))
 .have e:(List.range 3).filterMap (WH s)=(WH s 0).toList++(WH s 1).toList++(WH s 2).toList:=by
   show [0,1,2].filterMap (WH s)=_;simp only[List.filterMap_cons,List.filterMap_nil];cases WH s 0<;>cases WH s 1<;>cases WH s 2<;>rfl
  show((List.range 3).filterMap (WH s)).Pairwise Sy;rw[e];have m:∀k x,x∈(WH s k).toList->x=YX s (Ze k):=λk x f=>by
   unfold WH at f;split at f
   .simpa using f
   .simp at f
  have one:∀k,((WH s k).toList).Pairwise Sy:=λk=>by cases WH s k<;>simp
  rw[NJ,NJ];refine⟨⟨one 0,one 1,λa d b j=>?_⟩,one 2,λa d b j=>?_⟩
  .rw[m 0 a d,m 1 b j];exact .inl (show(Ze 0).1<(Ze 1).1 by decide)
  .rw[m 2 b j];rcases Wd.1 d with d|d
   .rw[m 0 a d];exact .inl (show(Ze 0).1<(Ze 2).1 by decide)
   .rw[m 1 a d];exact .inr ⟨rfl,show(Ze 1).2<(Ze 2).2 by decide⟩
theorem tE {s:ψ} (h:Cc s):@S9 Uq s (Z1 s):=Cb ZY (λc=>@wI c) h
theorem Ca:Cc Xt:=by
 refine⟨by unfold ψ.small;decide,ZY,ZY,?_,?_⟩
 .have:∀k<3,∀c<2,(X3 Xt (Ze k) c).length<=12:=by decide +kernel
  exact this
 .have:∀k<3,∀i<3,Xh (YX Xt (Ze k)).cells (-1) i<2 ^ 62:=by decide +kernel
  exact λk a i hi=>this k a i (by have:i<=2:=hi;omega)
theorem B9:Xt.err=0:=by decide +kernel
theorem tD:SC Xt (Z1 Xt)=(1,1,2,0):=by decide +kernel
theorem tC:S3 Xt (Z1 Xt) 1 true=([1],0):=by decide +kernel
theorem tB:Ri Xt [1,0] [1,4] 1=(12,0):=by decide +kernel
theorem tA:W0 (Z1 Xt)=[[1,0],[2,0]]:=by decide +kernel
def MJ (b:ByteArray):Int:=(b.data[0]!).toNat
theorem B8 {l m:List Int} (d:l.Perm m) (e:m.Pairwise λa b=>a<=b):TM l=m:=by
 have f:∀a b c:Int,decide (a<=b)=true->decide (b<=c)=true->decide (a<=c)=true:=λa b c h k=>by simp at *;omega
 have g:∀a b:Int,(decide (a<=b)||decide (b<=a))=true:=λa b=>by simp;omega
 have i:=KE (le:=λx y:Int=>decide (x<=y)) f g l
 have j:(l.mergeSort λx y:Int=>decide (x<=y)).Perm m:=(NG l _).trans d;exact KH (le:=λa b:Int=>a<=b) (λa b _ _ h k=>U) (i.imp λ{a b} h=>by simpa using h) e j
theorem B7:Xo (Z1 Xt) 0 true=[4,4]:=by decide +kernel
theorem B6:Xo (Z1 Xt) 1 true=[1,2,1,2]:=by decide +kernel
theorem tz:(spell [111,63]).toList=[111,63]:=by decide +kernel
theorem tx:(Yr Xt true (Z1 Xt)).2.2=0:=by decide +kernel
theorem tw {l:List (List (Int×Int))} {a:Int} (h:∀j:Nat,((l[j]?).getD []).length<=2):∀i,Xh l a i<=2 ^ i:=by
 intro i
 induction i with
 | zero=>simp[Xh]
 | succ i b=>
  rw[@I4 ⟨λ_=>True⟩,Nat.pow_succ];refine Mk b ?_;split
  .omega
  .exact h i
theorem tv:∀f∈Z1 Xt,f.cells.length=2/\∀c∈f.cells,c.length<=2:=by decide +kernel
theorem B5:Lr Xt (Z1 Xt):=by
 refine⟨by decide +kernel,by decide +kernel,?_,by decide +kernel⟩;intro f a;obtain⟨b,d⟩:=tv f a;refine⟨by rw[b];decide,λg i hi=>Qk (tw (λj=>?_) i) ?_⟩
 .cases e:f.cells[j]? with
  | none=>simp
  | some c=>simpa using d c (Zi e)
 .have:2 ^ i<=2 ^ 2:=Mn U U;omega
theorem B4:Yb (Z1 Xt) 0 true=[4]:=by
 unfold Yb;rw[B7,B8 (m:=[4,4]) (.refl _) ZY];decide
theorem B3:Yb (Z1 Xt) 1 true=[1,2]:=by
 unfold Yb;rw[B6,B8 (m:=[1,1,2,2]) ZY ZY];decide
theorem tu:GH Xt (Z1 Xt) true MJ 12:=by
 refine⟨by decide +kernel,by decide +kernel,λc a=>?_,λg b=>?_⟩
 .have a:c<2:=a
  match c,a with
  | 0,_=>rw[B7,B4];decide
  | 1,_=>rw[B6,B3];decide
 .simp only[Xt,Y6,Ya,or_false] at b;rcases b with rfl|rfl|rfl|rfl|rfl<;>rfl
theorem tt:S8 Xt (Z1 Xt) true MJ 2=[111,63]:=by
 show [0,1].map (Ph Xt (Z1 Xt) true MJ)=_;simp only[Xg,UA,Ph,B4,B3];decide +kernel
theorem ts:R6 Xt (Z1 Xt) true MJ=(spell [111,63],0):=by
 unfold R6;rw[if_pos tx];show(spell (S8 Xt (Z1 Xt) true MJ 2),(0:Int))=_;rw[tt]
theorem FZ:@Ε Uq prog 21 [] (Z4 true):=by
 letI:ZX:=Uq;have e:=Ca.small;have h:=tE Ca;refine Μ.body Ρ func21 rfl rfl ntmps21 rfl rfl I ?_;refine Τ ?_;refine Z' λb a=>?_;refine Ε.d (K9) (Z6 ?_);refine Ε.c (Cd Xt e [1,0] [1,4] 1) (.cons (.refl _) (.cons .ex (.cons .ex (.cons (.refl _) .nil)))) I I ?_;rw[tB];simp;(repeat (rw[Ν];simp));apply a;refine Z' λb a=>?_;refine Ε.d (K9) (Z6 ?_);refine Ε.c (Lu Xt e _ h (by decide +kernel)) (ZM.refl _) I I ?_;rw[if_pos B9,B9,tA];simp;(repeat (rw[Ν];simp));apply a;refine Z' λb a=>?_;refine Ε.d (K9) (Z6 ?_);refine Ε.c (GG Xt e _ h true MJ 12 ZY wX (λ_=>tu)) (ZM.refl _) I I ?_;rw[ts];simp;(repeat (rw[Ν];simp));apply a;refine Z' λb a=>?_;refine Ε.d (K9) (Z6 ?_);refine Ε.c (GF Xt e _ h B5) (ZM.refl _) I I ?_;rw[tD];simp;(repeat (rw[Ν];simp));apply a;refine Z' λb a=>?_;refine Ε.d (K9) (Z6 ?_);refine Ε.c (F5 Xt e _ h B5 1 true ZY) (ZM.refl _) I I ?_;rw[tC];simp;(repeat (rw[Ν];simp));apply a;refine Z' λb a=>?_;refine Ε.c (w9 9) (ZM.refl _) I I ?_;have i:valid 9=true:=by decide +kernel
 have j:I5 9=6:=by decide +kernel
 rw[i,j];simp;(repeat (rw[Ν];simp));apply a;refine XB @tz λb a=>?_;refine Ε.c (I6 [[1,0],[2,0]] [[1,0],[2,0]] ZY ZY) (.cons (.refl _) (.cons ?_ .nil)) I I ?_
 .exact .map (l:=[[1,0],[2,0]]) (f:=λl:List Int=>.sl true 1 (l.map J)) (g:=Z9 J 1) λx _=>.one .ex rfl rfl
 simp;(repeat (rw[Ν];simp));refine Ε.c (LF [1] [1] ZY) (.cons (.refl _) (.cons .ex .nil)) I I ?_;simp;(repeat (rw[Ν];simp));apply a;refine W.rt ?_;exact .of I
end Go.TL
namespace Go.TL
open Go.IntKind (i64 u64)
open Go.Proofs.Tryz
open Go.Proofs
variable [ZX]
structure Zk where
 Z0:List Int
 state:Int
abbrev B2 (n:Int):Ω:=.z (.int .u64 n)
abbrev tr (d:Zk):Ω:=.ZT [Z9 J 1 d.Z0,B2 d.state]
abbrev ZH (d:Zk):Row:=.cells 93 2 [tr d]
def K8 (d:Zk):Int:=u64.wrap (d.Z0.headD 0)
def MI (d:Zk):Int:=u64.wrap (u64.wrap (u64.wrap (d.state+(if d.Z0=[] then 0 else K8 d))+6364136223846793005)*15074714826142052245)
def PD (d:Zk):Int:=L3 .u64 (MI d) ((MI d).fdiv (2 ^ min 29 u64.bits))
def Qu (d:Zk):Int:=(u64.wrap (L3 .u64 (PD d) ((PD d).fdiv (2 ^ min 33 u64.bits))*18397679294719823053)).fdiv (2 ^ min 32 u64.bits)
def Zk.next (d:Zk):Zk:=⟨d.Z0.tail,PD d⟩
theorem tq (d:Zk) (hd:d.Z0.length<2 ^ 63):Μ prog 73 [.Κ 0 1 0 0] [ZH d] (λr s=>r=B2 (Qu d)/\s=[ZH d.next]) (λ_ _=>False):=by
 obtain⟨l,q⟩:=d;refine Μ.body Ρ func73 rfl rfl ntmps73 rfl rfl I ?_;refine Τ ?_;cases l with
 | nil=>
  refine Ζ I ?_;refine Τ ?_;refine Pj ?_
  repeat apply Ξ
  refine Pj ?_;refine Τ ?_;exact W.ret ⟨_,rfl,by simp[Qu,PD,MI,K8],by simp[Zk.next,PD,MI,K8]⟩
 | cons a l=>
  refine Α I ?_;refine Τ ?_;have b:List.take l.length (l.map J)=l.map J:=U4 I;refine XB b λe c=>?_;refine⟨U,?_⟩;apply c;refine Τ ?_;refine Pj ?_
  repeat apply Ξ
  refine Pj ?_;refine Τ ?_;exact W.ret ⟨_,rfl,by simp[Qu,PD,MI,K8],by simp[Zk.next,PD,MI,K8]⟩
def WU (d:Zk) (n:Int):Int:=if n<=0 then 0 else i64.wrap ((u64.wrap (Qu d*u64.wrap (i64.wrap (n+1)))).fdiv (2 ^ min 32 u64.bits))
def Zk.after (d:Zk) (n:Int):Zk:=if n<=0 then d else d.next
theorem RZ (d:Zk):V9 (ZH d):=by simp[V9,Ω.cells]
theorem FY (d:Zk) (hd:d.Z0.length<2 ^ 63) (n:Int):Μ prog 24 [.Κ 0 1 0 0,J n] [ZH d] (λr s=>r=J (WU d n)/\s=[ZH (d.after n)]) (λ_ _=>False):=by
 refine Μ.body Ρ func24 rfl rfl ntmps24 rfl rfl I ?_;refine Τ ?_;by_cases h:n<=0
 .refine Α (by simp[h]) ?_;refine Τ ?_;exact W.ret ⟨_,rfl,by simp[WU,h],by simp[Zk.after,h]⟩
 .refine Ζ (by simp[h]) ?_;refine Τ ?_;refine Z' λb a=>?_;refine Μ.one (as0:=[.Κ 0 1 0 0]) (tq d hd) 0 rfl (RZ d) (RZ d.next) (by simp[XC,Ua]) ((ς.z _).Wh 1) rfl ?_;simp[TN];(repeat (rw[Ν];simp));apply a;exact W.ret ⟨_,rfl,by simp[WU,h],by simp[Zk.after,h]⟩
def S2 (d:Zk) (a b:Int):Int:=i64.wrap (a+WU d (i64.wrap (b-a)))
theorem tp (d:Zk) (hd:d.Z0.length<2 ^ 63) (a b:Int):Μ prog 38 [.Κ 0 1 0 0,J a,J b] [ZH d] (λr s=>r=J (S2 d a b)/\s=[ZH (d.after (i64.wrap (b-a)))]) (λ_ _=>False):=by
 refine Μ.body Ρ func38 rfl rfl ntmps38 rfl rfl I ?_;refine Τ ?_;refine Z' λe c=>?_;refine Μ.one (as0:=[.Κ 0 1 0 0,J (i64.wrap (b-a))]) (FY d hd _) 0 rfl (RZ d) (RZ _) (by simp[XC,Ua]) ((ς.z _).Wh 1) rfl ?_;simp[TN];(repeat (rw[Ν];simp));apply c;exact W.ret ⟨_,rfl,rfl,rfl⟩
end Go.TL
namespace Go.TL
open Go.IntKind (i64 u64)
open Go.Proofs.Tryz
open Go.Proofs
theorem tn (x:Int):0<=u64.wrap x/\u64.wrap x<18446744073709551616:=by
 unfold IntKind.wrap;simp[IntKind.bits,IntKind.signed];omega
theorem u64_in (x:Int) (h:0<=x) (a:x<18446744073709551616):u64.wrap x=x:=by
 unfold IntKind.wrap;simp[IntKind.bits,IntKind.signed];omega
theorem B1:(2:Int) ^ min 32 u64.bits=4294967296:=ZY
theorem tm (d:Zk):0<=Qu d/\Qu d<4294967296:=by
 unfold Qu;rw[B1];generalize a:u64.wrap _=x;have:=tn (L3 .u64 (PD d) ((PD d).fdiv (2 ^ min 33 u64.bits))*18397679294719823053);rw[a] at this;rw[HM _ ZY];omega
theorem Sx (d:Zk) (n:Int) (e:0<=n) (f:n<2147483647):0<=WU d n/\WU d n<=n:=by
 unfold WU;split
 .omega
 .obtain⟨b,g⟩:=tm d;rw[B1,IntWalk.i64_in (n+1) U,u64_in (n+1) U U];have c:Qu d*(n+1)<=4294967295*(n+1):=Int.mul_le_mul_of_nonneg_right U U;have a:0<=Qu d*(n+1):=Int.mul_nonneg b U;generalize Qu d*(n+1)=y at c a;rw[u64_in y a U,HM _ ZY,IntWalk.i64_in _ U];omega
end Go.TL
namespace Go.TL
open Go.IntKind (i64 u64)
open Go.Proofs.Tryz
open Go.Proofs
variable [ZX]
def Rh (d:Zk) (l:List Int):Nat:=(WU d ((l.length:Int)-1)).toNat
theorem tl (d:Zk) (hd:d.Z0.length<2 ^ 63) (l:List Int) (g:0<l.length) (h:l.length<1000000):Μ prog 61 [.Κ 0 1 0 0,Z9 J 1 l] [ZH d] (λr s=>r=J (l.getD (Rh d l) 0)/\s=[ZH (d.after ((l.length:Int)-1))]) (λ_ _=>False):=by
 refine Μ.body Ρ func61 rfl rfl ntmps61 rfl rfl I ?_;have c:i64.wrap ((l.length:Int)-1)=(l.length:Int)-1:=IntWalk.i64_in _ U;obtain⟨t0,t1⟩:=Sx d ((l.length:Int)-1) U U;obtain⟨k,b⟩:∃k:Nat,WU d ((l.length:Int)-1)=k:=⟨(WU d ((l.length:Int)-1)).toNat,U⟩;have a:k<l.length:=U;have e:Rh d l=k:=by unfold Rh;rw[b];rfl
 refine Τ ?_;refine XB c λi f=>?_;refine Μ.one (as0:=[.Κ 0 1 0 0,J ((l.length:Int)-1)]) (FY d hd _) 0 rfl (RZ d) (RZ _) (by simp[XC,Ua]) ((ς.z _).Wh 1) rfl ?_;rw[b];simp[TN,a];(repeat (rw[Ν];simp[a]));apply f;exact W.ret ⟨_,rfl,by rw[e];simp[Xr,a],rfl⟩
end Go.TL
namespace Go.TL
open Go.IntKind (i64 u64)
open Go.Proofs.Tryz
open Go.Conc
variable [ZX]
section
variable {P:Program} {T:ZR} {A:List Nat} {m nt:Nat} {k:List Item} {env:ω} {σ:Ο} {Z:X7} {E:Yn} {ops:Array Oper}
def B0 (P:Program) (m nt:Nat) (k:List Item) (Z:X7) (E:Yn) (ops:Array Oper) (i:Nat) (o:Oper) (env:ω) (r:Row) (a:Ω) (b:Row):Prop:=
 ∀env' τ rest,SI ops o env env'->W P m nt (.inRegion ops rest::k) (Zt o env' a) (b::τ) Z E->W P m nt (.inRegion ops (i::rest)::k) env' (r::τ) Z E
def StepB (P:Program) (m nt:Nat) (k:List Item) (Z:X7) (E:Yn) (ops:Array Oper) (i:Nat) (o:Oper) (env:ω) (τ:Ο) (a:Ω) (b:Ο):Prop:=
 ∀env' r rest,SI ops o env env'->W P m nt (.inRegion ops rest::k) (Zt o env' a) (r::b) Z E->W P m nt (.inRegion ops (i::rest)::k) env' (r::τ) Z E
theorem BZ {α:Type} {f:Nat->α} {tags:List Bool} (l:∀i o,ops[i]?=some o->writer ops tags i=false->f (i+1)=f i):∀a b,a<=ops.size->b<=ops.size->(∀j,j<ops.size->writer ops tags j=true->(j<a↔j<b))->f a=f b:=by
 have g:∀(d a:Nat),a+d<=ops.size->(∀j,a<=j->j<a+d->writer ops tags j=false)->f (a+d)=f a:=by
  intro d
  induction d with
  | zero=>intro a _ _;rfl
  | succ d m=>
   intro a hle h;have c:ops[a+d]?=some ops[a+d]:=XG U;have:=l (a+d) _ c (h (a+d) U U);rw[show a+(d+1)=a+d+1 by omega,this];exact m a U λj c k=>h j c U
 intro a b n p h;rcases Nat.le_total a b with hle|hle
 .have:=g (b-a) a U λj c k=>by
   cases e:writer ops tags j with
   | false=>rfl
   | true=>have:=(h j U e).2 U;omega
  rw[show a+(b-a)=b by omega] at this;exact this.symm
 .have:=g (a-b) b U λj c k=>by
   cases e:writer ops tags j with
   | false=>rfl
   | true=>have:=(h j U e).1 U;omega
  rw[show b+(a-b)=a by omega] at this;exact this
theorem BY {tags:List Bool} (a:TP ops tags=true):∀i o,ops[i]?=some o->(∀j∈WN o,j<i)/\∀j b,j<i->ops[j]?=some b->clash ops tags i j o b=true->j∈(Jg ops).getD i []:=by
 intro i o d;have hi:i<ops.size:=(TY.1 d).1;unfold TP PX at a;simp only[WQ,Ws] at a;have h:=a i hi;rw[d] at h;simp only[Wt,WQ,decide_eq_true_eq,Ws] at h;refine⟨h.1,λj b f g e=>?_⟩;have c:=h.2 j f;rw[g] at c;unfold clash at e;simp only[e,Bool.not_true,Bool.false_or,PA] at c;exact c
theorem BX {tags:List Bool}:∀j,writer ops tags j=true->tags.getD j false=true:=λj h=>by
 unfold writer at h;rw[Wt] at h;exact h.1
theorem BW {tags:List Bool} {i:Nat} {c:Oper} (e:tags.getD i false=true):∀j a,ops[j]?=some a->writer ops tags j=true->clash ops tags i j c a=true/\clash ops tags j i a c=true:=λj a f b=>by
 have d:=BX j b;unfold writer at b;rw[d,f] at b;have g:VU a=false:=by simpa using b
 unfold clash Ub PW;rw[d,e,g];simp
theorem W.tk {as9:Nat->Ω} {ρs:Nat->Row} {τs:Nat->Ο} {td tb:List Bool} {env0:ω} (ay:TP ops td=true) (az:TP ops tb=true)
  (aA:∀i o,ops[i]?=some o->td.getD i false=false->tb.getD i false=false->Pl P m nt k Z E ops i o (Zc ops env0 as9 (λ_=>true) i) (as9 i))
  (aB:∀i o,ops[i]?=some o->td.getD i false=true->B0 P m nt k Z E ops i o (Zc ops env0 as9 (λ_=>true) i) (ρs i) (as9 i) (ρs (i+1))/\tb.getD i false=false)
  (aC:∀i o,ops[i]?=some o->tb.getD i false=true->StepB P m nt k Z E ops i o (Zc ops env0 as9 (λ_=>true) i) (τs i) (as9 i) (τs (i+1)))
  (aD:∀i o,ops[i]?=some o->writer ops td i=false->ρs (i+1)=ρs i) (aE:∀i o,ops[i]?=some o->writer ops tb i=false->τs (i+1)=τs i)
  (aF:W P m nt (.inRegion ops []::k) (Zc ops env0 as9 (λ_=>true) ops.size) (ρs ops.size::τs ops.size) Z E) :
  ∀(O:Nat) (t:Nat) (listed:Array Bool) (env:ω) (g n:Nat),listed.size=ops.size->
   (∀i,Z7 env i=Z7 (Zc ops env0 as9 (λi=>listed.getD i false) ops.size) i)->
   (∀i o,ops[i]?=some o->listed.getD i false=true->∀j∈WN o,listed.getD j false=true)->
   g<=ops.size->n<=ops.size->(∀j,j<ops.size->writer ops td j=true->(listed.getD j false=true↔j<g))->(∀j,j<ops.size->writer ops tb j=true->(listed.getD j false=true↔j<n))->
   ((List.range ops.size).filter λi=>!listed.getD i false).length<=O->
   W P m nt (.inRegion ops (Region.linearise.go .any ops O t listed [])::k) env (ρs g::τs n) Z E:=by
 have ab:=BY ay
 have al:=BY az
 have ad:∀i o,ops[i]?=some o->∀j∈WN o,j<i:=λi o l=>(ab i o l).1
 have am:=BZ aD
 have an:=BZ aE;intro O;have done:∀(t:Nat) (listed:Array Bool) (env:ω) (g n:Nat),(∀i,i<ops.size->listed.getD i false=true)->(∀i,Z7 env i=Z7 (Zc ops env0 as9 (λi=>listed.getD i false) ops.size) i)->g<=ops.size->n<=ops.size->
   (∀j,j<ops.size->writer ops td j=true->(listed.getD j false=true↔j<g))->(∀j,j<ops.size->writer ops tb j=true->(listed.getD j false=true↔j<n))->W P m nt (.inRegion ops []::k) env (ρs g::τs n) Z E:=λt listed env g n K L F H v J=>by
  have aG:ρs g=ρs ops.size:=am g ops.size F (γ _) λj d p=>by rw[<-v j d p];simp[K j d,d]
  have Φ:τs n=τs ops.size:=an n ops.size H (γ _) λj d p=>by rw[<-J j d p];simp[K j d,d]
  rw[aG,Φ];refine .congr (λi=>?_) aF;rw[L i];exact Nc ops.size λi o hi _ _=>K i hi
 have aH:∀listed:Array Bool,listed.size=ops.size->(∃i,i<ops.size/\listed.getD i false=false)->∃i,i<ops.size/\listed.getD i false=false/\∀j,j<i->listed.getD j false=true:=λlisted Q ⟨i,hi,s⟩=>by
  induction i using Nat.strongRecOn with
  | _ i S=>
   by_cases d:∃j,j<i/\listed.getD j false=false
   .obtain⟨j,w,A⟩:=d;exact S j w U A
   .exact⟨i,hi,s,λj aI=>by
     cases h:listed.getD j false with
     | true=>rfl
     | false=>exact absurd ⟨j,aI,h⟩ d⟩
 induction O with
 | zero=>
  intro t listed env g n Q L T F H v J aJ;have K:∀i,i<ops.size->listed.getD i false=true:=λi hi=>by
   cases h:listed.getD i false with
   | true=>rfl
   | false=>
    have Y:i∈(List.range ops.size).filter λi=>!listed.getD i false:=by rw[Vh];exact⟨Ws.2 hi,by rw[h];rfl⟩
    have:((List.range ops.size).filter λi=>!listed.getD i false)=[]:=YL.1 U;rw[this] at Y;simp at Y
  exact done t listed env g n K L F H v J
 | succ O S=>
  intro t listed env g n Q L T F H v J aJ;simp only[Region.linearise.go];generalize aK:((List.range ops.size).filter λi=>!listed.getD i true&&((ops[i]?).map (·.after.all λe=>!Region.binds .any e||listed.getD e.on false)).getD false)=M;have ao:∀i,i<ops.size->listed.getD i true=listed.getD i false:=λi hi=>by
   rw[WG,WG,XG U];rfl
  have ap:∀i,i∈M↔i<ops.size/\listed.getD i false=false/\∀o,ops[i]?=some o->∀j∈WN o,listed.getD j false=true:=λi=>by
   rw[<-aK];simp only[Vh,Ws,Wt,Ku];constructor
   .rintro⟨w,A,C⟩;rw[ao i w] at A;refine⟨w,A,λo l j d=>?_⟩;rw[l] at C;simp only[Option.map_some,Option.getD_some,Ky] at C;unfold WN at d;simp only[Zq,Vh] at d;obtain⟨e,⟨aL,aM⟩,rfl⟩:=d;have:=C e (by simpa using aL);simpa[aM] using this
   .rintro⟨w,A,C⟩;refine⟨w,by rw[ao i w];exact A,?_⟩;have l:ops[i]?=some ops[i]:=XG w;rw[l];simp only[Option.map_some,Option.getD_some,Ky];intro e aN;by_cases aq:Region.binds .any e=true
    .have:=C _ l e.on (by unfold WN;simp only[Zq,Vh];exact⟨e,⟨by simpa using aN,aq⟩,rfl⟩);simp[this]
    .simp[aq]
  cases hi:M[t % M.length]? with
  | none=>
   simp only[List.reverse_nil];have aO:M=[]:=by
    cases aP:M with
    | nil=>rfl
    | cons x xs=>
     rw[aP] at hi;have ae:t % (x::xs).length<(x::xs).length:=Nat.mod_lt _ I;rw[δ ae] at hi;cases hi
   have K:∀i,i<ops.size->listed.getD i false=true:=λi N=>by
    cases h:listed.getD i false with
    | true=>rfl
    | false=>
     obtain⟨r,w,A,C⟩:=aH listed Q ⟨i,N,h⟩;have:r∈M:=(ap r).2 ⟨w,A,λo l j d=>C j (ad r o l j d)⟩;rw[aO] at this;simp at this
   exact done t listed env g n K L F H v J
  | some i=>
   simp only;rw[DR];have Y:i∈M:=Zi hi;obtain⟨w,A,C⟩:=(ap i).1 Y;have l:ops[i]?=some ops[i]:=XG w;have aQ:=Jf ad (λj=>listed.getD j false=true) (λj o d s=>T j o d s) i _ l (C _ l);have low:∀j f,j<i->ops[j]?=some f->(clash ops td i j ops[i] f=true\/clash ops tb i j ops[i] f=true)->listed.getD j false=true:=λj f d u B=>aQ j (B.elim (λB=>(ab i _ l).2 j f d u B) (λB=>(al i _ l).2 j f d u B));have high:∀j f,i<j->ops[j]?=some f->(clash ops td j i f ops[i]=true\/clash ops tb j i f ops[i]=true)->listed.getD j false=false:=λj f d u B=>by
    cases s:listed.getD j false with
    | false=>rfl
    | true=>
     have:=Jf ad (λj=>listed.getD j false=true) (λj o d s=>T j o d s) j f u (T j f u s) i (B.elim (λB=>(ab j f u).2 i _ d l B) (λB=>(al j f u).2 i _ d l B));rw[A] at this;cases this
   have same:SI ops ops[i] (Zc ops env0 as9 (λ_=>true) i) env:=λx ar=>by
    rw[L x];have af:Z7 (Zc ops env0 as9 (λi=>listed.getD i false) ops.size) x=Z7 (Zc ops env0 as9 (λi=>listed.getD i false) i) x:=Je U λj f aR aS u hd=>by
     by_cases e:j=i
     .subst e;exact A
     .refine high j f U u ?_;unfold clash Ub PW;simp[hd,ar]
    rw[af];exact Nc i λj f d u hd=>low j f d u (.inl (by unfold clash Ub PW;simp[hd,ar]))
   have ag:∀x,Z7 (Zt ops[i] env (as9 i)) x=Z7 (Zc ops env0 as9 (λj=>(listed.setIfInBounds i true).getD j false) ops.size) x:=λx=>by
    have D:∀j,(listed.setIfInBounds i true).getD j false=if j=i then true else listed.getD j false:=λj=>by
     rw[WG,WG];by_cases e:j=i
     .subst e;rw[Tv U];simp
     .rw[UR (YR e),if_neg e]
    rw[Oc];by_cases hd:ops[i].dst=some x
    .rw[if_pos hd];have af:Z7 (Zc ops env0 as9 (λj=>(listed.setIfInBounds i true).getD j false) ops.size) x=Z7 (Zc ops env0 as9 (λj=>(listed.setIfInBounds i true).getD j false) (i+1)) x:=Je U λj f aR aS u ah=>by
      rw[D,if_neg U];refine high j f U u (.inl ?_);unfold clash Ub PW;simp[hd,ah]
     rw[af];simp only[Zc,D,if_true,l,Oc,hd]
    .rw[if_neg hd,L x];exact Nc ops.size λj f d u ah=>by
      rw[D,if_neg];intro e;subst e;rw[l] at u;cases u;exact hd ah
   have D:∀j,(listed.setIfInBounds i true).getD j false=if j=i then true else listed.getD j false:=λj=>by
    rw[WG,WG];by_cases e:j=i
    .subst e;rw[Tv U];simp
    .rw[UR (YR e),if_neg e]
   have ai:((List.range ops.size).filter λj=>!(listed.setIfInBounds i true).getD j false).length<=O:=by
    have ae:((List.range ops.size).filter λj=>!(listed.setIfInBounds i true).getD j false).length<((List.range ops.size).filter λj=>!listed.getD j false).length:=by
     have:((List.range ops.size).filter λj=>!(listed.setIfInBounds i true).getD j false)=((List.range ops.size).filter λj=>!listed.getD j false).filter λj=>j != i:=by
      rw[List.filter_filter];apply Kv;intro j _;rw[D];by_cases e:j=i
      .subst e;simp
      .simp[e]
     rw[this];have aT:i∈(List.range ops.size).filter λj=>!listed.getD j false:=by
      rw[Vh];exact⟨Ws.2 w,by rw[A];rfl⟩
     exact List.length_filter_lt_length_iff_exists.2 ⟨i,aT,I⟩
    omega
   have aj:∀j o,ops[j]?=some o->(listed.setIfInBounds i true).getD j false=true->∀y∈WN o,(listed.setIfInBounds i true).getD y false=true:=λj o d s y au=>by
    rw[D] at s ⊢;by_cases e:y=i
    .rw[if_pos e]
    .rw[if_neg e];by_cases Φ:j=i
     .subst Φ;rw[l] at d;cases d;exact C _ l y au
     .rw[if_neg Φ] at s;exact T j o d s y au
   have aa:∀(tags:List Bool) (g:Nat),tags.getD i false=false->(∀j,j<ops.size->writer ops tags j=true->(listed.getD j false=true↔j<g))->∀j,j<ops.size->writer ops tags j=true->((listed.setIfInBounds i true).getD j false=true↔j<g):=λtags g V v j d p=>by
    rw[D];have:j≠i:=λe=>by subst e;rw[BX j p] at V;cases V
    rw[if_neg this];exact v j d p
   have keepW:∀(tags:List Bool) (g:Nat),writer ops tags i=false->(∀j,j<ops.size->writer ops tags j=true->(listed.getD j false=true↔j<g))->∀j,j<ops.size->writer ops tags j=true->((listed.setIfInBounds i true).getD j false=true↔j<g):=λtags g av v j d p=>by
    rw[D];have:j≠i:=λe=>by subst e;rw[p] at av;cases av
    rw[if_neg this];exact v j d p
   have aw:∀(tags:List Bool),tags.getD i false=true->(∀j f,j<i->ops[j]?=some f->clash ops tags i j ops[i] f=true->listed.getD j false=true)->(∀j f,i<j->ops[j]?=some f->clash ops tags j i f ops[i]=true->listed.getD j false=false)->
     (∀j,j<ops.size->writer ops tags j=true->j<i->listed.getD j false=true)/\(∀j,j<ops.size->writer ops tags j=true->i<j->listed.getD j false=false):=λtags V lo hi=>⟨λj d p ak=>lo j _ ak (XG d) (BW V j _ (XG d) p).1,λj d p ak=>hi j _ ak (XG d) (BW V j _ (XG d) p).2⟩
   have ax:∀(tags:List Bool) (g:Nat),(∀j,j<ops.size->writer ops tags j=true->j<i->listed.getD j false=true)->(∀j,j<ops.size->writer ops tags j=true->i<j->listed.getD j false=false)->(∀j,j<ops.size->writer ops tags j=true->(listed.getD j false=true↔j<g))->∀j,j<ops.size->writer ops tags j=true->(j<g↔j<i):=λtags g lo hi v j d p=>by
    rw[<-v j d p];constructor
    .intro s;apply Tu;intro aU;by_cases e:j=i
     .subst e;rw[A] at s;cases s
     .rw[hi j d p U] at s;cases s
    .exact lo j d p
   have next:∀(tags:List Bool),(∀j,j<ops.size->writer ops tags j=true->j<i->listed.getD j false=true)->(∀j,j<ops.size->writer ops tags j=true->i<j->listed.getD j false=false)->∀j,j<ops.size->writer ops tags j=true->((listed.setIfInBounds i true).getD j false=true↔j<i+1):=λtags lo hi j d p=>by
    rw[D];by_cases e:j=i
    .subst e;simp
    .rw[if_neg e];constructor
     .intro s;apply Tu;intro aU;rw[hi j d p U] at s;cases s
     .intro ae;exact lo j d p U
   cases X:td.getD i false with
   | true=>
    obtain⟨aV,R⟩:=aB i _ l X;obtain⟨lo,N⟩:=aw td X (λj f a b c=>low j f a b (.inl c)) (λj f a b c=>high j f a b (.inl c));rw[am g i F U (ax td g lo N v)];refine aV env _ _ same ?_;exact S _ _ _ (i+1) n (by simpa using Q) ag aj U H (next td lo N) (aa tb n R J) ai
   | false=>
    cases R:tb.getD i false with
    | false=>
     refine aA i _ l X R env _ _ same ?_;exact S _ _ _ g n (by simpa using Q) ag aj F H (aa td g X v) (aa tb n R J) ai
    | true=>
     obtain⟨lo,N⟩:=aw tb R (λj f a b c=>low j f a b (.inr c)) (λj f a b c=>high j f a b (.inr c));rw[an n i H U (ax tb n lo N J)];refine aC i _ l R env _ _ same ?_;exact S _ _ _ g (i+1) (by simpa using Q) ag aj F U (aa td g X v) (next tb lo N) ai
def MH (f:Row->Y2) (K:Ω->Ο->Prop):Prop:=∃a b,((∀r,f r=.ok a (r::b))\/∃p:Prop,p/\∀r,f r=.Y' p (.ok a (r::b)))/\K a b
theorem tj {f g:Row->Y2} {K:Ω->Ο->Prop} (h:∀r,f r=g r):MH f K=MH g K:=by rw[funext h]
theorem ti {a:Ω} {τ:Ο} {K:Ω->Ο->Prop}:MH (λr=>.ok a (r::τ)) K=K a τ:=by
 refine propext ⟨λ⟨b,f,h,d⟩=>?_,λh=>⟨a,τ,.inl λ_=>rfl,h⟩⟩;rcases h with h|⟨p,_,h⟩
 .have:=h (.map []);injection this with e c
  injection c with _ c
  rw[e,c];exact d
 .have:=h (.map []);cases this
theorem th {p:Prop} {a:Ω} {τ:Ο} {K:Ω->Ο->Prop}:MH (λr=>.Y' p (.ok a (r::τ))) K=(p/\K a τ):=by
 refine propext ⟨λ⟨b,i,h,e⟩=>?_,λh=>⟨a,τ,.inr ⟨p,h.1,λ_=>rfl⟩,h.2⟩⟩;rcases h with h|⟨q,f,h⟩
 .have:=h (.map []);cases this
 .have:=h (.map []);injection this with g c
  injection c with c d
  injection d with _ d
  rw[c,d];exact⟨g▸f,e⟩
def K7 (P:Program) (f:Ω) (args:κ) (r:Row) (c:Ω->Prop) (d:Ω->Row->Prop):Prop:=
 (∃a,XS P f args a/\c a)\/∃a r',(∀τ,WA P f args (r::τ) (λb s=>b=a/\s=r'::τ) (λ_ _=>False))/\d a r'
theorem tg {P:Program} {f:Ω} {args:κ} {r r':Row} {d:Ω->Prop} {c:Ω->Row->Prop} {a:Ω} (h:∀τ,WA P f args (r::τ) (λb s=>b=a/\s=r'::τ) (λ_ _=>False)) (k:c a r'):K7 P f args r d c:=.inr ⟨a,r',h,k⟩
def K6 (P:Program) (T:ZR) (A:List Nat) (env:ω) (o:Oper) (r:Row) (τ:Ο) (a:Ω->Prop) (b:Ω->Row->Prop) (c:Ω->Ο->Prop):Prop:=match o.op with
 | .call ⟨.value f,args,_⟩=>K7 P (ζ env f) (args.toList.map (ζ env)) r a b
 | .panic _=>False
 | .defer _=>False
 | _=>(VD T A env o).X1 a (MH (λr=>Wb T A env (r::τ) o) c)
theorem tf {P:Program} {T:ZR} {A:List Nat} {env:ω} {o:Oper} {r:Row} {τ:Ο} {a:Ω->Prop} {b:Ω->Row->Prop} {c:Ω->Ο->Prop}:K6 P T A env o r τ a b c=match o.op with
 | .call ⟨.value f,args,_⟩=>K7 P (ζ env f) (args.toList.map (ζ env)) r a b
 | .panic _=>False
 | .defer _=>False
 | _=>(VD T A env o).X1 a (MH (λr=>Wb T A env (r::τ) o) c):=Xx rfl rfl
def VO (P:Program) (T:ZR) (A:List Nat) (nt:Nat) (ops:Array Oper):List Nat->ω->Row->Ο->List Bool->List Bool->(ω->Ο->Prop)->Prop
 | [],env,r,τ,td,tb,K=>TP ops td=true/\TP ops tb=true/\K env (r::τ)
 | i::is,env,r,τ,td,tb,K=>Xc ops[i]? λo=>WO nt o=true/\Xc (XK env ops o) λw=>
   Wa w (VO P T A nt ops is (Zt o env .Zl) r τ (td++[false]) (tb++[false]) K)
    (K6 P T A env o r τ (λa=>VO P T A nt ops is (Zt o env a) r τ (td++[false]) (tb++[false]) K) (λa r'=>VO P T A nt ops is (Zt o env a) r' τ (td++[true]) (tb++[false]) K) (λa b=>VO P T A nt ops is (Zt o env a) r b (td++[false]) (tb++[true]) K))
def BV (P:Program) (T:ZR) (A:List Nat) (nt:Nat) (ops:Array Oper) (is:List Nat) (o:Oper) (env:ω) (r:Row) (τ:Ο) (td tb:List Bool) (K:ω->Ο->Prop) (a:Ω):Prop:=VO P T A nt ops is (Zt o env a) r τ (td++[false]) (tb++[false]) K
def BU (P:Program) (T:ZR) (A:List Nat) (nt:Nat) (ops:Array Oper) (is:List Nat) (o:Oper) (env:ω) (τ:Ο) (td tb:List Bool) (K:ω->Ο->Prop) (a:Ω) (r:Row):Prop:=VO P T A nt ops is (Zt o env a) r τ (td++[true]) (tb++[false]) K
def BT (P:Program) (T:ZR) (A:List Nat) (nt:Nat) (ops:Array Oper) (is:List Nat) (o:Oper) (env:ω) (r:Row) (td tb:List Bool) (K:ω->Ο->Prop) (a:Ω) (τ:Ο):Prop:=VO P T A nt ops is (Zt o env a) r τ (td++[false]) (tb++[true]) K
section
variable {is:List Nat} {i:Nat} {o:Oper} {r:Row} {τ:Ο} {td tb:List Bool} {K:ω->Ο->Prop} {a:Ω}
theorem UU:VO P T A nt ops [] env r τ td tb K=(TP ops td=true/\TP ops tb=true/\K env (r::τ)):=Xx rfl rfl
theorem UT:VO P T A nt ops (i::is) env r τ td tb K=Xc ops[i]? λo=>WO nt o=true/\Xc (XK env ops o) λw=>
   Wa w (VO P T A nt ops is (Zt o env .Zl) r τ (td++[false]) (tb++[false]) K) (K6 P T A env o r τ (BV P T A nt ops is o env r τ td tb K) (BU P T A nt ops is o env τ td tb K) (BT P T A nt ops is o env r td tb K)):=Xx rfl rfl
theorem te:BV P T A nt ops is o env r τ td tb K a=VO P T A nt ops is (Zt o env a) r τ (td++[false]) (tb++[false]) K:=Xx rfl rfl
theorem tc:BU P T A nt ops is o env τ td tb K a r=VO P T A nt ops is (Zt o env a) r τ (td++[true]) (tb++[false]) K:=Xx rfl rfl
theorem ta:BT P T A nt ops is o env r td tb K a τ=VO P T A nt ops is (Zt o env a) r τ (td++[false]) (tb++[true]) K:=Xx rfl rfl
end
def FX (P:Program) (m nt:Nat) (k:List Item) (Z:X7) (E:Yn) (ops:Array Oper) (i:Nat) (o:Oper) (env:ω) (r:Row) (τ:Ο) (d b:Bool) (a:Ω) (r':Row) (c:Ο):Prop:=
 (d=true/\b=false/\B0 P m nt k Z E ops i o env r a r'/\c=τ)\/(d=false/\b=true/\StepB P m nt k Z E ops i o env τ a c/\r'=r/\(VU o=true->c=τ))\/(d=false/\b=false/\Pl P m nt k Z E ops i o env a/\r'=r/\c=τ)
theorem s' (L:ZB P T) {i:Nat} {is:List Nat} {r:Row} {τ:Ο} {td tb:List Bool} {K:ω->Ο->Prop} (h:VO P T A nt ops (i::is) env r τ td tb K) :
  ∃o a r' g d b,ops[i]?=some o/\FX P m nt k Z E ops i o env r τ d b a r' g/\(d=true->VU o=false)/\VO P T A nt ops is (Zt o env a) r' g (td++[d]) (tb++[b]) K:=by
 unfold VO Xc at h;split at h
 .exact h.elim
 .rename_i o j;obtain⟨hd,h⟩:=h;split at h
  .exact h.elim
  rename_i w B;unfold Wa at h;cases w
  .replace h:=h.1 rfl
   exact⟨o,.Zl,r,τ,false,false,j,.inr (.inr ⟨rfl,rfl,λenv' σ' rest e n=>.unwanted j (by rw[UJ e];exact B) hd n,rfl,rfl⟩),λh=>(by cases h),h⟩
  .replace h:=h.2 rfl
   unfold K6 at h;split at h
   .rename_i f args W D;have M:∀env',SI ops o env env'->ζ env' f=ζ env f/\args.toList.map (ζ env')=args.toList.map (ζ env):=λenv' e=>by
     have F:=LJ e;rw[D] at F;refine⟨F f (by simp[Op.operands,Call.operands]),LI λx R=>F x (by simp[Op.operands,Call.operands,R])⟩
    rcases h with⟨a,v,h⟩|⟨a,r',v,h⟩
    .refine⟨o,a,r,τ,false,false,j,.inr (.inr ⟨rfl,rfl,λenv' σ' rest e n=>.call j (by rw[UJ e];exact B) hd D ?_,rfl,rfl⟩),λh=>(by cases h),h⟩;obtain⟨H,Φ⟩:=M env' e;rw[H,Φ];exact(v σ').mono (λa s ⟨x,y⟩=>by subst x;subst y;exact n) (λ_ _ h=>h.elim)
    .refine⟨o,a,r',τ,true,false,j,.inl ⟨rfl,rfl,λenv' g rest e n=>.call j (by rw[UJ e];exact B) hd D ?_,rfl⟩,λ_=>(by unfold VU;rw[D]),h⟩;obtain⟨H,Φ⟩:=M env' e;rw[H,Φ];exact(v g).mono (λa s ⟨x,y⟩=>by subst x;subst y;exact n) (λ_ _ h=>h.elim)
   .exact h.elim
   .exact h.elim
   .rename_i X Y N;have O:∀(C:Zf) (a:Ω),VD T A env o=C->(∀K:Ω->Ο->Prop,∀s,K a s->(C.YD s).holds K)->(∀σ s,C.or σ s=C.YD σ)->Pl P m nt k Z E ops i o env a:=λC a u I S env' σ' rest e n=>by
     refine .op (A:=A) L j (by rw[UJ e];exact B) hd (λc v=>N c v) ?_;rw[PV e,u,S];exact I _ _ n
    unfold Zf.X1 at h;split at h
    .rename_i a J;exact⟨o,a,r,τ,false,false,j,.inr (.inr ⟨rfl,rfl,O _ a J (λK s t=>t) (λ_ _=>rfl),rfl,rfl⟩),λh=>(by cases h),h⟩
    .rename_i p a J;exact⟨o,a,r,τ,false,false,j,.inr (.inr ⟨rfl,rfl,O _ a J (λK s t=>⟨h.1,t⟩) (λ_ _=>rfl),rfl,rfl⟩),λh=>(by cases h),h.2⟩
    .exact h.elim
    .rename_i U;have V:∀(a:Ω) (g:Ο),(∀r,∃x:Y2,Wb T A env (r::τ) o=x/\∀K:Ω->Ο->Prop,K a (r::g)->x.holds K)->StepB P m nt k Z E ops i o env τ a g:=λa g u env' r rest e n=>by
      obtain⟨x,u,I⟩:=u r;refine .op (A:=A) L j (by rw[UJ e];exact B) hd (λc v=>N c v) ?_;rw[PV e,Nb e,U,u];exact I _ n
     obtain⟨a,g,l,t⟩:=h;refine⟨o,a,r,g,false,true,j,.inr (.inl ⟨rfl,rfl,V a g λr=>?_,rfl,λu=>?_⟩),λh=>(by cases h),t⟩
     .rcases l with l|⟨p,Q,l⟩
      .exact⟨_,l r,λK t=>t⟩
      .exact⟨_,l r,λK t=>⟨Q,t⟩⟩
     .have:r::g=r::τ:=by
       rcases l with l|⟨p,Q,l⟩
       .exact Na (p:=True) u (.inl (l r))
       .exact Na u (.inr (l r))
      injection this
theorem s9 (B:ZB P T) {K:ω->Ο->Prop} {env0:ω}:∀(d i:Nat) (td tb:List Bool) (as9:Nat->Ω) (ρs:Nat->Row) (τs:Nat->Ο),i+d=ops.size->td.length=i->tb.length=i->
  (∀j o,j<i->ops[j]?=some o->FX P m nt k Z E ops j o (Zc ops env0 as9 (λ_=>true) j) (ρs j) (τs j) (td.getD j false) (tb.getD j false) (as9 j) (ρs (j+1)) (τs (j+1))/\(td.getD j false=true->VU o=false))->
  VO P T A nt ops (List.range' i d) (Zc ops env0 as9 (λ_=>true) i) (ρs i) (τs i) td tb K->
  ∃(td tb:List Bool) (as9:Nat->Ω) (b:Nat->Row) (c:Nat->Ο),TP ops td=true/\TP ops tb=true/\b 0=ρs 0/\c 0=τs 0/\(∀j o,ops[j]?=some o->FX P m nt k Z E ops j o (Zc ops env0 as9 (λ_=>true) j) (b j) (c j) (td.getD j false) (tb.getD j false) (as9 j) (b (j+1)) (c (j+1))/\(td.getD j false=true->VU o=false))/\K (Zc ops env0 as9 (λ_=>true) ops.size) (b ops.size::c ops.size):=by
 intro d
 induction d with
 | zero=>
  intro i td tb as9 ρs τs hi n p g h;simp only[List.range'_zero,VO] at h;have:i=ops.size:=U;subst this;exact⟨td,tb,as9,ρs,τs,h.1,h.2.1,rfl,rfl,λj o l=>g j o (TY.1 l).1 l,h.2.2⟩
 | succ d C=>
  intro i td tb as9 ρs τs hi n p g h;rw[Kq] at h;obtain⟨o,a,r',D,r,s,l,F,H,h⟩:=s' (m:=m) (k:=k) (Z:=Z) (E:=E) B h;let f:Nat->Ω:=λj=>if j=i then a else as9 j
  let b:Nat->Row:=λj=>if j=i+1 then r' else ρs j
  let c:Nat->Ο:=λj=>if j=i+1 then D else τs j
  have u:∀j,j<=i->Zc ops env0 as9 (λ_=>true) j=Zc ops env0 f (λ_=>true) j:=λj g=>G1 j λx X=>by simp only[f];rw[if_neg U]
  have I:Zc ops env0 f (λ_=>true) (i+1)=Zt o (Zc ops env0 as9 (λ_=>true) i) a:=by
   simp only[Zc,if_true,l];rw[<-u i (γ i)];simp only[f,if_true]
  have w:∀(t:List Bool) (x:Bool),t.length=i->(t++[x]).getD i false=x:=λt x h=>by rw[Xr,W8 U,h];simp
  have y:∀(t:List Bool) (x:Bool) (j:Nat),t.length=i->j<i->(t++[x]).getD j false=t.getD j false:=λt x j h g=>by rw[Xr,YK U,<-Xr]
  have:=C (i+1) (td++[r]) (tb++[s]) f b c U (by simp[n]) (by simp[p]) (λj J Y v=>?_) ?_
  .obtain⟨t1,t2,L,M,N,O,Q,R,S,V,W⟩:=this;exact⟨t1,t2,L,M,N,O,Q,R.trans (by simp only[b];rw[if_neg U]),S.trans (by simp only[c];rw[if_neg U]),V,W⟩
  .by_cases e:j=i
   .subst e;rw[l] at v;cases v;rw[<-u j (γ j),w td r n,w tb s p];simp only[f,b,c,if_true];rw[if_neg U,if_neg U];exact⟨F,H⟩
   .have:=g j J U v;rw[<-u j U,y td r j n U,y tb s j p U];simp only[f,b,c];rw[if_neg U,if_neg U,if_neg U,if_neg U,if_neg U];exact this
  .rw[I];simp only[b,c,if_true];exact h
theorem W.FW (C:ZB P T) (D:P.follows .mixedOrders=true) {r:Row} {τ:Ο} {id:Nat} (h:∀l:ω->Ο->Prop,(∀env σ,W P m nt k env σ Z E->l env σ)->VO P T A nt ops (idx ops.size []) env r τ [] [] l):W P m nt (.code (.region id ops true)::k) env (r::τ) Z E:=by
 have p:=h (λenv σ=>W P m nt k env σ Z E) λ_ _ h=>h;rw[idx_eq,KB] at p;obtain⟨td,tb,as9,ρs,τs,F,J,K,L,f,M⟩:=s9 (m:=m) (k:=k) (Z:=Z) (E:=E) (env0:=env) C ops.size 0 [] [] (λ_=>.Zl) (λ_=>r) (λ_=>τ) U rfl rfl (λj o s=>U) p;intro N mn x cs b S B H t u v O Q R;refine .draw u v λn=>?_;have g:∀i:Nat,(Array.replicate ops.size false).getD i false=false:=λi=>by
  rw[WG,OR];split<;>rfl
 have w:=W.tk (P:=P) (m:=m) (nt:=nt) (k:=k) (Z:=Z) (E:=E) (ops:=ops) (as9:=as9) (ρs:=ρs) (τs:=τs) (td:=td) (tb:=tb) (env0:=env) F J
  (λi o c d V=>by
   rcases(f i o c).1 with⟨a,_⟩|⟨_,a,_⟩|⟨_,_,a,_⟩
   .rw[d] at a;cases a
   .rw[V] at a;cases a
   .exact a)
  (λi o c d=>by
   rcases(f i o c).1 with⟨_,b,a,_⟩|⟨a,_⟩|⟨a,_⟩
   .exact⟨a,b⟩
   .rw[d] at a;cases a
   .rw[d] at a;cases a)
  (λi o c d=>by
   rcases(f i o c).1 with⟨_,a,_⟩|⟨_,_,a,_⟩|⟨_,a,_⟩
   .rw[d] at a;cases a
   .exact a
   .rw[d] at a;cases a)
  (λi o c e=>by
   rcases(f i o c).1 with⟨a,_⟩|⟨_,_,_,a,_⟩|⟨_,_,_,a,_⟩
   .unfold writer at e;rw[a,c] at e;simp[(f i o c).2 a] at e
   .exact a
   .exact a)
  (λi o c e=>by
   rcases(f i o c).1 with⟨_,_,_,a⟩|⟨_,b,_,_,a⟩|⟨_,_,_,_,a⟩
   .exact a
   .refine a ?_;unfold writer at e;rw[b,c] at e;simpa using e
   .exact a)
  (.ZF M) ops.size n (Array.replicate ops.size false) env 0 0 I (λi=>?_) (λi o c y=>?_) (χ _) (χ _) (λj s _=>?_) (λj s _=>?_) ?_
 .rw[K,L] at w;rw[D];simp only[Region.schedule,Bool.true_or,if_true,Region.linearise];exact w N mn x cs b S B H t u v O Q R
 .have:∀n,Zc ops env as9 (λi=>(Array.replicate ops.size false).getD i false) n=env:=by
   intro n
   induction n with
   | zero=>rfl
   | succ n X=>
    simp only[Zc];rw[if_neg (by rw[g n];simp)];exact X
  rw[this]
 .rw[g] at y;cases y
 .rw[g];simp
 .rw[g];simp
 .have:=KC (λi=>!(Array.replicate ops.size false).getD i false) (List.range ops.size);simpa using this
theorem s8 {K K':ω->Ο->Prop} (l:∀e s,K e s->K' e s):∀(is:List Nat) (env:ω) (r:Row) (τ:Ο) (td tb:List Bool),VO P T A nt ops is env r τ td tb K->VO P T A nt ops is env r τ td tb K':=by
 intro is
 induction is with
 | nil=>intro env r τ td tb h;exact⟨h.1,h.2.1,l _ _ h.2.2⟩
 | cons i is c=>
  intro env r τ td tb h;unfold VO Xc at h ⊢;cases g:ops[i]? with
  | none=>rw[g] at h;exact h.elim
  | some o=>
   rw[g] at h;simp only at h ⊢;refine⟨h.1,?_⟩
   replace h:=h.2
   cases j:XK env ops o with
   | none=>rw[j] at h;exact h.elim
   | some w=>
    rw[j] at h;unfold Wa at h ⊢;refine⟨λe=>c _ _ _ _ _ (h.1 e),λe=>?_⟩
    replace h:=h.2 e
    unfold K6 at h ⊢;split
    .rename_i f args k b;rw[b] at h;simp only at h;rcases h with⟨a,d,h⟩|⟨a,r',d,h⟩
     .exact .inl ⟨a,d,c _ _ _ _ _ h⟩
     .exact .inr ⟨a,r',d,c _ _ _ _ _ h⟩
    .rename_i b;rw[b] at h;exact h
    .rename_i b;rw[b] at h;exact h
    .rename_i m n p;split at h
     .rename_i f args k b;exact absurd b (m f args k)
     .rename_i y b;exact absurd b (n y)
     .rename_i y b;exact absurd b (p y)
     .unfold Zf.X1 at h ⊢;split at h
      .exact c _ _ _ _ _ h
      .exact⟨h.1,c _ _ _ _ _ h.2⟩
      .exact h.elim
      .obtain⟨a,t,u,v⟩:=h;exact⟨a,t,u,c _ _ _ _ _ v⟩
theorem W.Ia (c:ZB P T) (d:P.follows .mixedOrders=true) (a:ω) (b:Ο) {r:Row} {τ:Ο} {id:Nat} (h:W P m nt k a b Z E) (f:VO P T A nt ops (idx ops.size []) env r τ [] [] (λe s=>s=b/\∀p∈a,Z7 e p.1=p.2)):W P m nt (.code (.region id ops true)::k) env (r::τ) Z E:=
 W.FW c d λl g=>s8 (λe s ⟨i,j⟩=>g e s (i▸W.forget a j h)) _ _ _ _ _ _ f
theorem W.K5 (c:ZB P T) (d:P.follows .mixedOrders=true) (a:ω) (b:Ο) {id:Nat} (h:W P m nt k a b Z E) (f:Vs P T A nt ops (idx ops.size []) env σ [] (λe s=>s=b/\∀p∈a,Z7 e p.1=p.2)):W P m nt (.code (.region id ops true)::k) env σ Z E:=
 W.draw c d λl g=>DJ (λe s ⟨i,j⟩=>g e s (i▸W.forget a j h)) _ _ _ _ f
end
end Go.TL
namespace Go.TL
open Go.IntKind (i64 u64)
open Go.Proofs.Tryz
open Go.Proofs
variable [ZX]
attribute [congr] tj
attribute [simp] ti th tf te tc ta
def YM (g:FuncId) (args:κ) (d:Zk) (r:Ω) (b:Zk):Prop:=Μ prog g (.Κ 0 1 0 0::args) [ZH d] (λa s=>Zh a r/\s=[ZH b]) (λ_ _=>False)
theorem BS {l:κ} (h:∀a∈l,ς 0 a) (ρ:List Nat):l.map (Yx ρ)=l:=by
 induction l with
 | nil=>rfl
 | cons a l b=>rw[Xg,(h a I).Yx,b λx c=>h x (by simp[c])]
theorem YM.c {g:FuncId} {args b:κ} {d e:Zk} {r:Ω} {σ:Ο} {K E:Ω->Ο->Prop} (h:YM g args d r e) (id:Nat) (j:σ[id]?=some (ZH d)) (k:ZM b args) (f:∀a∈b,ς 0 a) (i:ς 0 r) (l:K r (σ.set id (ZH e))):WA prog (.fn (.func g) [] []) (.Κ id 1 0 0::b) σ K E:=by
 refine Μ.one (as0:=.Κ 0 1 0 0::b) (r:=r) (row':=ZH e) (Μ.T' h (.cons (.refl _) k) λa s ⟨m,n⟩=>⟨r,m,rfl,n⟩) id j (RZ d) (RZ e) ?_ (i.Wh 1) ?_ ?_
 .intro a hm;rcases Y6.1 hm with rfl|hm
  .exact Nat.zero_lt_one
  .exact(f a hm).Wh 1
 .rw[Xg,BS f];rfl
 .rw[i.Yx];exact l
theorem YM.e {g:FuncId} {args b:κ} {d f:Zk} {r:Ω} {j:Ω->Prop} {i:Ω->Row->Prop} (h:YM g args d r f) (k:ZM b args) (l:∀a∈b,ς 0 a) (m:ς 0 r) (n:i r (ZH f)):K7 prog (.fn (.func g) [] []) (.Κ 0 1 0 0::b) (ZH d) j i:=
 tg (λτ=>h.c 0 rfl k l m ⟨rfl,rfl⟩) n
theorem YM.g {g:FuncId} {args:κ} {d b:Zk} {r:Ω} {σ:Ο} {K E:Ω->Ο->Prop} (h:YM g args d r b) (e:K r ((ZH d::σ).set 0 (ZH b))) (f:∀a∈args,ς 0 a:=by simp) (i:ς 0 r:=by simp):WA prog (.fn (.func g) [] []) (.Κ 0 1 0 0::args) (ZH d::σ) K E:=h.c 0 rfl (ZM.refl _) f i e
theorem YM.h {g:FuncId} {args:κ} {d b:Zk} {r:Ω} {f:Ω->Prop} {c:Ω->Row->Prop} (h:YM g args d r b) (i:c r (ZH b)) (j:∀a∈args,ς 0 a:=by simp) (k:ς 0 r:=by simp):K7 prog (.fn (.func g) [] []) (.Κ 0 1 0 0::args) (ZH d) f c:=h.e (ZM.refl _) j k i
theorem Qt {p q:Prop} (k:q) (h:q->p:=by intro k;simp;(repeat (rw[UT];simp));(try rw[UU]);exact k):p:=h k
@[simp] theorem VN (d:Zk) (n:Int):(d.after n).Z0.length<=d.Z0.length:=by
 unfold Zk.after;split
 .exact γ _
 .simp[Zk.next]
theorem RY (d:Zk) (hd:d.Z0.length<2 ^ 63) (n:Int):YM 24 [J n] d (J (WU d n)) (d.after n):=(FY d hd n).mono (λa s ⟨b,c⟩=>⟨.of b,c⟩) (λ_ _ h=>h)
theorem MG (d:Zk) (hd:d.Z0.length<2 ^ 63) (a b:Int):YM 38 [J a,J b] d (J (S2 d a b)) (d.after (i64.wrap (b-a))):=(tp d hd a b).mono (λa s ⟨c,e⟩=>⟨.of c,e⟩) (λ_ _ h=>h)
theorem FV (d:Zk) (hd:d.Z0.length<2 ^ 63) (l:List Int) (b:0<l.length) (c:l.length<1000000):YM 61 [Z9 J 1 l] d (J (l.getD (Rh d l) 0)) (d.after ((l.length:Int)-1)):=(tl d hd l b c).mono (λa s ⟨e,f⟩=>⟨.of e,f⟩) (λ_ _ h=>h)
def NV (d:Zk) (n:Int):Bool:=decide (WU d (n-1)=n.tdiv 2)
theorem FU (d:Zk) (hd:d.Z0.length<2 ^ 63) (n:Int) (e:1<=n) (f:n<1000):YM 156 [J n] d (Z4 (NV d n)) (d.after (n-1)):=by
 have a:i64.wrap (n-1)=n-1:=IntWalk.i64_in _ U;unfold YM;refine Μ.body Ρ func156 rfl rfl ntmps156 rfl rfl I ?_;refine Τ ?_;refine XB a λh b=>?_;refine YM.g (RY d hd (n-1)) (XJ a ?_);apply b;have c:i64.wrap (n.tdiv 2)=n.tdiv 2:=by
  rw[HL U];exact IntWalk.i64_in _ U
 rw[c];exact W.ret ⟨_,rfl,.refl _,rfl⟩
def RX (l:List Int) (k:Nat) (x:Int):List Int:=l.take k++x::l.drop k
def Xb (d:Zk):Nat->List Int×Zk
 | 0=>([],d)
 | i+1=>(RX (Xb d i).1 (WU (Xb d i).2 i).toNat i,(Xb d i).2.after i)
theorem K4 (d:Zk) (n:Nat):(Xb d n).2.Z0.length<=d.Z0.length:=by
 induction n with
 | zero=>exact γ _
 | succ n a=>exact X' (VN _ _) a
theorem FT {l:List Int} {k:Nat} {x:Int}:(RX l k x).length=l.length+1:=by
 unfold RX;simp;omega
theorem K3 (d:Zk) (n:Nat):(Xb d n).1.length=n:=by
 induction n with
 | zero=>rfl
 | succ n a=>show(RX _ _ _).length=_;rw[FT,a]
def Vn (l:List Int) (k:Nat):List Int:=(l++[0]).take (k+1)++l.drop k
theorem s7 (l:List Int):Vn l l.length=l++[0]:=by unfold Vn;rw[U4 I];simp
theorem BR {l:List Int} {k:Nat} (h:k<=l.length):(Vn l k).length=l.length+1:=by
 unfold Vn;simp;omega
theorem s6 {l:List Int} {k:Nat} (h:k<l.length):(Vn l (k+1))[k]?=some l[k]:=by
 unfold Vn;rw[YK (by simp;omega),Tt U,YK h,δ h]
theorem s5 {l:List Int} {k:Nat} (h:k<l.length):(Vn l (k+1)).set (k+1) l[k]=Vn l k:=by
 unfold Vn;have a:((l++[0]).take (k+1+1))=(l++[0]).take (k+1)++[(l++[0])[k+1]'(by simp;omega)]:=We (by simp;omega);have Φ:l.drop k=l[k]::l.drop (k+1):=OS h;rw[a,Φ,Vi,Pz _ _ (by simp;omega)];congr 1;have:k+1-((l++[0]).take (k+1)).length=0:=by simp;omega
 rw[this];rfl
theorem s4 {l:List Int} {k:Nat} {x:Int} (h:k<=l.length):(Vn l k).set k x=RX l k x:=by
 unfold Vn RX;have a:((l++[0]).take (k+1))=l.take k++[(l++[0])[k]'(by simp;omega)]:=by
  rw[We (by simp;omega),List.take_append_of_le_length h]
 rw[a,Vi,Pz _ _ (by rw[SY];omega)];have:k-(l.take k).length=0:=by rw[SY];omega
 rw[this];rfl
theorem H9 (d:Zk) (hd:d.Z0.length<2 ^ 63) (n:Nat) (ak:n<1000):YM 63 [J n] d (Z9 J 1 (Xb d n).1) (Xb d n).2:=by
 unfold YM;refine Μ.body Ρ func63 rfl rfl ntmps63 rfl rfl I ?_;refine Τ ?_;refine W.iter (λi:Nat=>i<=n) (λi=>[(0,.Κ 0 1 0 0),(1,J n),(5,ZV 1 ((Xb d i).1.map J)),(6,J i)]) (λi=>ZH (Xb d i).2::η 3 1 ((Xb d i).1.map J)) (λi=>n-i) 0 (χ _) rfl (by simp[ZV,Xb]) (λi hi ab=>?_);refine Τ ?_;refine W.Yv rfl (λf=>?_) (λf=>?_)
 .have f:i<n:=by simpa using f
  have B:Xb d (i+1)=(RX (Xb d i).1 (WU (Xb d i).2 i).toNat i,(Xb d i).2.after i):=rfl;obtain⟨L,D⟩:=Η ((Xb d i).1);obtain⟨c,E⟩:=Η ((Xb d i).2);have l:L.length=i:=by rw[D];exact K3 d i
  have ad:c.Z0.length<2 ^ 63:=by rw[E];exact Qk (K4 d i) hd
  rw[<-D,<-E] at B;rw[<-D,<-E];obtain⟨t0,t1⟩:=Sx c i U U;obtain⟨m,Q⟩:∃k:Nat,WU c i=k:=⟨(WU c i).toNat,U⟩;rw[Q] at B t1;have ae:m<=i:=U;refine Z' λS u=>?_;refine YM.g (RY c ad i) (Z6 ?_);rw[Q];apply u
  repeat apply Ξ
  refine W.XV (A:=[19]) Ρ [(0,.Κ 0 1 0 0),(1,J n),(5,.ms 1 (i+1) 0 (i+1)),(6,J i),(7,J m)] [ZH (c.after i),.cells 3 1 ((Vn L i).map J)] ?_ (by
    have af:(Vn L i).map J=L.map J++[J 0]:=by rw[<-l,s7];simp
    rw[af];by_cases T:L=[]
    .subst T;have ag:i=0:=by simpa using l.symm
     subst ag;(try simp);(repeat (rw[Ν];simp[Wy,show ZV 1 []=.sl true 0 [] from rfl]));(try simp[Wy,show ZV 1 []=.sl true 0 [] from rfl])
    .have o:L.map J≠[]:=by simpa using T
     (try simp);(repeat (rw[Ν];simp[XR o,YZ o,l]));(try simp[XR o,YZ o,l]);omega)
  refine Τ ?_;refine W.iter (λk:Nat=>m<=k/\k<=i) (λk=>[(0,.Κ 0 1 0 0),(1,J n),(5,.ms 1 (i+1) 0 (i+1)),(6,J i),(7,J m),(8,J k)]) (λk=>[ZH (c.after i),.cells 3 1 ((Vn L k).map J)]) (λk=>k) i ⟨ae,γ _⟩ rfl I (λk al ah=>?_);refine Τ ?_;refine W.Yv rfl (λF=>?_) (λF=>?_)
  .have V:m<k:=by simpa using F
   obtain⟨j,X⟩:∃j,k=j+1:=⟨k-1,U⟩;have Y:j<L.length:=U;have v:i64.wrap ((k:Int)-1)=j:=by rw[IntWalk.i64_in _ U];omega
   have H:(Vn L k).length=i+1:=by rw[BR U,l]
   obtain⟨y,K⟩:∃y,(Vn L k)[k]?=some y:=⟨_,δ U⟩;obtain⟨R,b⟩:=Η ((Vn L k).map J);have M:R.length=i+1:=by rw[b,Yp,H]
   have N:R[j]?=some (J L[j]):=by rw[b,YU,X,s6 Y];rfl
   have s:R[k]?=some (J y):=by rw[b,YU,K];rfl
   have O:R.set k (J L[j])=(Vn L j).map J:=by rw[b,<-s5 Y,Pw,X]
   have ai:∀h,R[j]'h=J L[j]:=λh=>by rw[δ h] at N;exact Xk N
   have P:∀h,R[k]'h=J y:=λh=>by rw[δ h] at s;exact Xk s
   refine W.to (σ':=[ZH (c.after i),.cells 3 1 R]) (env':=[(0,.Κ 0 1 0 0),(1,J n),(5,.ms 1 (i+1) 0 (i+1)),(6,J i),(7,J m),(8,J k)]) ?_ (by rw[b]) I;refine XB (Υ v (Υ M (Υ N (Υ s (Υ ai P))))) λS u=>?_;refine⟨U,U,?_⟩;apply u;refine Γ v ?_;refine W.to (ah j ⟨U,U⟩ U) ?_ ?_
   .rw[O]
   .simp
  .have V:k=m:=by simp at F;omega
   subst V;refine W.exit rfl ?_;have H:(Vn L k).length=i+1:=by rw[BR U,l]
   obtain⟨y,K⟩:∃y,(Vn L k)[k]?=some y:=⟨_,δ U⟩;obtain⟨R,b⟩:=Η ((Vn L k).map J);have M:R.length=i+1:=by rw[b,Yp,H]
   have s:R[k]?=some (J y):=by rw[b,YU,K];rfl
   have O:R.set k (J i)=(RX L k i).map J:=by rw[b,<-s4 U,Pw]
   have P:∀h,R[k]'h=J y:=λh=>by rw[δ h] at s;exact Xk s
   refine W.to (σ':=[ZH (c.after i),.cells 3 1 R]) (env':=[(0,.Κ 0 1 0 0),(1,J n),(5,.ms 1 (i+1) 0 (i+1)),(6,J i),(7,J k)]) ?_ (by rw[b]) I;refine XB (Υ M (Υ s P)) λS u=>?_;refine⟨U,?_⟩;apply u;have v:=X5 f (show n<2 ^ 62 by omega);refine Γ v ?_;have o:(RX L k i).map J≠[]:=λh=>by have:=congrArg List.length h;rw[Yp,FT] at this;simp at this
   refine W.to (ab (i+1) f U) ?_ ?_
   .rw[B,O,YZ (by simpa using o)];rfl
   .rw[B];simp only[Int.toNat_natCast];rw[XR o];simp[v,FT,l]
 .have f:i=n:=by simp at f;omega
  subst f;refine W.exit rfl ?_;refine Τ ?_;refine W.cut 1 I [(4,YC 1 ((Xb d i).1.map J))] I (λid r am Z=>?_) ?_ ?_
  .have:id=0:=U
   subst this;simp at Z;subst Z;exact λe C a w=>by simp[Ω.cells] at C;subst C;simp[Ω.cells] at w;rcases w with rfl|rfl<;>simp[YG,Ω.cells]
  .intro p aa;simp at aa;subst aa;show Ym 1 _ (Z7 _ 4) _;simp;refine PL (t:=3) (γ _) (λaj=>by rw[YZ aj];rfl) (λe C a w=>?_);obtain⟨x,_,rfl⟩:=Zq.1 C;simp[Ω.cells] at w;subst w;exact .z _
  .exact W.ret ⟨_,rfl,.acc,rfl⟩
theorem TA (d:Zk) (h:Nat):X6 h (ZH d):=λe b a c=>by
 simp[Ω.cells] at b;subst b;simp[Ω.cells] at c;rcases c with rfl|rfl<;>simp[YG,Ω.cells]
section
variable {P:Program} {m nt:Nat} {k:List Item} {env:ω} {Z:X7} {E:Yn}
theorem W.s3 {d:Zk} {t kk:Nat} {l:κ} {x:Nat} (g:m<=1) (h:∀e∈l,∀a∈e.cells,ς 0 a) (env':ω) (hd:Z7 env x=ZV 1 l) (c:∀p∈env',Z7 env p.1=p.2/\ς 1 p.2) (i:W P m nt k ((x,YC kk l)::env') [ZH d] Z E):W P m nt k env (ZH d::η t kk l) Z E:=
 W.cut 1 g ((x,YC kk l)::env') I (λid r s f=>by
  have:id=0:=U;subst this;simp at f;subst f;exact TA d 1) (λp b=>by
  rcases Y6.1 b with rfl|b
  .show Ym 1 _ (Z7 env x) _;rw[hd];exact PL (t:=t) (γ _) (λj=>by rw[YZ j];rfl) (λe n a o=>(h e n a o).mono (χ _))
  .rw[(c p b).1];exact .low (c p b).2) (by simpa using i)
end
theorem s0 {i n:Nat} (h:i<n) (a:n<1000):i64.wrap ((i:Int)+1)=((i+1:Nat):Int):=by
 rw[IntWalk.i64_in _ U];omega
def V1 (d:Zk):Nat->List Int×Zk
 | 0=>([],d)
 | i+1=>((V1 d i).1++(if NV (V1 d i).2 2 then [(i:Int)] else []),(V1 d i).2.after 1)
theorem BQ (d:Zk) (n:Nat):(V1 d n).2.Z0.length<=d.Z0.length:=by
 induction n with
 | zero=>exact γ _
 | succ n a=>exact X' (VN _ _) a
theorem BP (d:Zk) (n:Nat):(V1 d n).1.length<=n:=by
 induction n with
 | zero=>exact γ _
 | succ n a=>
  show((V1 d n).1++_).length<=_;rw[VK];split<;>simp<;>omega
theorem sZ (d:Zk) (hd:d.Z0.length<2 ^ 63):YM 156 [J 2] d (Z4 (NV d 2)) (d.after 1):=FU d hd 2 ZY ZY
theorem sY (d:Zk) (hd:d.Z0.length<2 ^ 63):YM 129 [] d (Z9 J 1 (V1 d 3).1) (V1 d 3).2:=by
 unfold YM;obtain⟨n,t⟩:=Η 3;rw[<-t];refine Μ.body Ρ func129 rfl rfl ntmps129 rfl rfl I ?_;refine Τ ?_;refine W.iter (λi:Nat=>i<=n) (λi=>[(0,.Κ 0 1 0 0),(3,ZV 1 ((V1 d i).1.map J)),(4,J i)]) (λi=>ZH (V1 d i).2::η 3 1 ((V1 d i).1.map J)) (λi=>n-i) 0 (χ _) rfl (by simp[ZV,V1]) (λi hi p=>?_);refine Τ ?_;refine W.Yv rfl (λb=>?_) (λb=>?_)
 .have b:i<n:=by simp at b;omega
  have c:V1 d (i+1)=((V1 d i).1++(if NV (V1 d i).2 2 then [(i:Int)] else []),(V1 d i).2.after 1):=rfl
  have u:=BP d i;obtain⟨L,m⟩:=Η ((V1 d i).1);obtain⟨f,o⟩:=Η ((V1 d i).2);have v:f.Z0.length<2 ^ 63:=by rw[o];exact Qk (BQ d i) hd
  rw[<-m,<-o] at c;rw[<-m] at u;rw[<-m,<-o];have h:=s0 b U;refine Z' λB w=>?_;refine YM.g (sZ f v) (Z6 ?_);apply w;cases j:NV f 2
  .refine Ζ rfl ?_;refine Γ h ?_;refine W.to (p (i+1) b U) ?_ ?_
   .rw[c,j];simp
   .rw[c,j];simp[h]
  .refine Α rfl ?_
   repeat apply Ξ
   refine W.XV (A:=[14]) Ρ [(0,.Κ 0 1 0 0),(3,ZV 1 ((L++[(i:Int)]).map J)),(4,J i)] (ZH (f.after 1)::η 3 1 ((L++[(i:Int)]).map J)) ?_ (by
    rw[Yc,Xg,UA,QI,XR (l:=L.map J++[J i]) I];by_cases r:L=[]
    .subst r;(try simp);(repeat (rw[Ν];simp[Wy,show ZV 1 []=.sl true 0 [] from rfl]));(try simp[Wy,show ZV 1 []=.sl true 0 [] from rfl])
    .have k:L.map J≠[]:=by simpa using r
     (try simp);(repeat (rw[Ν];simp[XR k,YZ k]));(try simp[XR k,YZ k]);omega)
   refine Γ h ?_;refine W.to (p (i+1) b U) ?_ ?_
   .rw[c,j];simp
   .rw[c,j];simp[h]
 .have b:i=n:=by simp at b;omega
  subst b;refine W.exit rfl ?_;refine Τ ?_;refine W.s3 (x:=2) I (λe y a s=>?_) [] I I ?_
  .obtain⟨x,_,rfl⟩:=Zq.1 y;simp[Ω.cells] at s;subst s;exact .z _
  .exact W.ret ⟨_,rfl,.acc,rfl⟩
end Go.TL
namespace Go.TL
open Go.IntKind (i64 u64)
open Go.Proofs.Tryz
open Go.Conc Go.Proofs
theorem FR:@Seq Uq calm:=@Seq.mk Uq calm rfl (λ_ h=>h.rel) (λ_ h=>h.Z3)
theorem sX (w:World):Calm (ZZ.start w):=⟨rfl,rfl,rfl,λ_=>trivial⟩
def Up (w:World):μ:=λb o=>((Χ.Ug w).θ b o).map (·.1)
theorem sW (w:World):Holds (Up w) [] [] (Χ.Ug w):=
 ⟨λb o v h=>by
  unfold Up at h;cases a:(Χ.Ug w).θ b o with
  | none=>rw[a] at h;cases h
  | some x=>rw[a] at h;cases h;exact⟨x.2,rfl⟩,rfl,λid r bo h=>by simp at h,λi j c d b e f _ h=>by simp at h,λid r b N h=>by simp at h⟩
theorem FQ {P:Program} {f:FuncId} {fn:Func} {body:Code} {d:Nat} (b:P.funcs[f]?=some fn) (g:fn.body=some body) (i:fn.results=#[.tmp d]) (m:P.inits.idxOf? f=none) {w:World} {l:κ} {args:Array Value} (n:Xv (Up w) [] [] l args) (o:l.length<=fn.ntmps)
  (p:@W Uq P 0 fn.ntmps [.code body] (entry 0 l) [] (λj env _=>(∃k,j=.code .ret::k)/\Z7 env d=Z4 true) (λ_ _ _=>False)):Comes P (λv=>v=.bool true) w (solo (Go.Conc.G (Frame.enter P f args .normal) []) w) #[]:=by
 letI:ZX:=Uq;refine Goes.comes ?_;show Zd P _ true (ZZ.start w) (Frame.enter P f args .normal) [] (Χ.Ug w);rw[SF b g];refine p (λv=>v=.bool true) true calm [] (Frame.enter P f args .normal) (Up w) [] (Χ.Ug w) _ FR rfl (Xw.enter (sW w) n (γ _) o) (λj env' σ' r B' H' t' c s C t x=>?_) (λa env' σ' r B' H' t' c v A=>A.elim) (ZZ.start w) (sX w);obtain⟨⟨k,B⟩,hd⟩:=s;have e:c=j:=x;subst e;subst B;refine ι.ret FR rfl rfl (ι.done (v:=.bool true) FR (λy h=>h.shut) (λy h=>h.deaf) rfl rfl rfl b m ?_ rfl);have hv:t'.getD d undef=.bool true:=by
  have:=t.Zm d;rw[hd] at this;generalize t'.getD d undef=u at this;cases this;rfl
 show results fn t'=_;unfold results;rw[i];rw[WG] at hv;simp[hv]
end Go.TL
