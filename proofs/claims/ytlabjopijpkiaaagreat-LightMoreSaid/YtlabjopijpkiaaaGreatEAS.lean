import Derived.Carry
import Derived.ChangeSlices
import Derived.Conc.HoldsTime
import Derived.OpenShut
import Derived.Sort.LotC
import Derived.Sort.LotD5
import Derived.Sort.Walk13a
import Derived.Test.YtlabjopijpkiaaaGreatEAD
import Derived.Test.YtlabjopijpkiaaaGreatEAH
import Derived.Test.YtlabjopijpkiaaaGreatEAJ
import Derived.Test.YtlabjopijpkiaaaGreatEAL
import Derived.Test.YtlabjopijpkiaaaGreatEAN
import Derived.Test.YtlabjopijpkiaaaGreatEAR
import Derived.Test.YtlabjopijpkiaaaGreatRows
set_option maxHeartbeats 16000000
set_option maxRecDepth 20000
set_option linter.unusedSectionVars false
set_option linter.unusedSimpArgs false
set_option linter.unusedVariables false
namespace Go.TL
open Go.Proofs
def eb:Nat->Int×Int
 | 0=>(1,0)
 | 1=>(2,0)
 | _=>(2,1)
def e8 (s:aU) (p:Int×Int):Found:=⟨p.1,p.2,(List.range s.cells.length).map (hH s p)⟩
def lr (s:aU) (k:Nat):Option Found:=if k<3/\0<(e8 s (eb k)).many (-1) then some (e8 s (eb k)) else none
def cf (s:aU):List Found:=(List.range 3).filterMap (lr s)
structure Km (N:Nat) (s:aU):Prop where
 small:s.small
 ar:s.ar.length<2 ^ 20
 lit:∀c∈s.cells,∀x∈c,0<=x.cd/\x.cd<s.az.length
 reads:∀k,k<3->∀c,c<s.cells.length->(hH s (eb k) c).length<=N
 many:∀k,k<3->∀i,i<=s.cells.length->hG (e8 s (eb k)).cells (-1) i<2 ^ 62
abbrev QL (s:aU):Prop:=Km 12 s
theorem QM {N:Nat} (cK:N<2 ^ 20) (eC:∀c:bq,@Fa c N) {s:aU} (h:Km N s):@qa py s (cf s):=λ_=>by
 refine dω (fd:=lr s) (pr:=eb) (F:=λk=>e8 s (eb k)) (N:=λk=>(e8 s (eb k)).many (-1)) ⟨λk ψ c=>?_,λk ψ c=>?_,λk=>rfl⟩ rfl rfl rfl rfl ?_
 ·exact @Y0 c s h.small h.ar (eb k) h.lit N cK (eC c) (h.reads k ψ)
 ·have π:(e8 s (eb k)).cells.length=s.cells.length:=by simp[e8]
  have:=h.small.2.2.1;exact @E2 c (e8 s (eb k)) (-1) (by rw[π];omega) (λi hi=>h.many k ψ i (by rw[<-π];exact hi))
 ·have e:(List.range 3).filterMap (lr s)=(lr s 0).toList++(lr s 1).toList++(lr s 2).toList:=by
   show [0,1,2].filterMap (lr s)=_;simp only[List.filterMap_cons,List.filterMap_nil];cases lr s 0<;>cases lr s 1<;>cases lr s 2<;>rfl
  show((List.range 3).filterMap (lr s)).Pairwise pz;rw[e];have m:∀k x,x∈(lr s k).toList->x=e8 s (eb k):=λk x δ=>by
   unfold lr at δ;split at δ
   ·simpa using δ
   ·simp at δ
  have one:∀k,((lr s k).toList).Pairwise pz:=λk=>by cases lr s k<;>simp
  rw[List.pairwise_append,List.pairwise_append];refine⟨⟨one 0,one 1,λa ν b hb=>?_⟩,one 2,λa ν b hb=>?_⟩
  ·rw[m 0 a ν,m 1 b hb];exact .inl (show(eb 0).1<(eb 1).1 by decide)
  ·rw[m 2 b hb];rcases List.mem_append.1 ν with ν|ν
   ·rw[m 0 a ν];exact .inl (show(eb 0).1<(eb 2).1 by decide)
   ·rw[m 1 a ν];exact .inr ⟨rfl,show(eb 1).2<(eb 2).2 by decide⟩
theorem dΙ {s:aU} (h:QL s):@qa py s (cf s):=QM br (λc=>@YS c) h
theorem QN:QL fN:=by
 refine⟨by unfold aU.small;decide,br,br,?_,?_⟩
 ·have:∀k<3,∀c<2,(hH fN (eb k) c).length<=12:=by decide +kernel
  exact this
 ·have:∀k<3,∀i<3,hG (e8 fN (eb k)).cells (-1) i<2 ^ 62:=by decide +kernel
  exact λk ψ i hi=>this k ψ i (by have:i<=2:=hi;omega)
theorem QO:fN.err=0:=by decide +kernel
theorem dΚ:tQ fN (cf fN)=(1,1,2,0):=by decide +kernel
theorem dΜ:vH fN (cf fN) 1 true=([1],0):=by decide +kernel
theorem dΝ:tY fN [1,0] [1,4] 1=(12,0):=by decide +kernel
theorem dΞ:hr (cf fN)=[[1,0],[2,0]]:=by decide +kernel
def zp (b:ByteArray):Int:=(b.data[0]!).toNat
theorem QP {l m:List Int} (ω:l.Perm m) (hm:m.Pairwise λa b=>a<=b):qb l=m:=by
 have Bn:∀a b c:Int,decide (a<=b)=true->decide (b<=c)=true->decide (a<=c)=true:=λa b c h k=>by simp at *;omega
 have Bo:∀a b:Int,(decide (a<=b)||decide (b<=a))=true:=λa b=>by simp;omega
 have s1:=List.pairwise_mergeSort (le:=λx y:Int=>decide (x<=y)) Bn Bo l
 have dz:(l.mergeSort λx y:Int=>decide (x<=y)).Perm m:=(List.mergeSort_perm l _).trans ω;exact List.Perm.eq_of_pairwise (le:=λa b:Int=>a<=b) (λa b _ _ h k=>J) (s1.imp λ{a b} h=>by simpa using h) hm dz
theorem QQ:gH (cf fN) 0 true=[4,4]:=by decide +kernel
theorem QR:gH (cf fN) 1 true=[1,2,1,2]:=by decide +kernel
theorem dΟ:(spell [111,63]).toList=[111,63]:=by decide +kernel
theorem dΡ:(fa fN true (cf fN)).2.2=0:=by decide +kernel
theorem dΤ {l:List (List (Int×Int))} {ha:Int} (h:∀j:Nat,((l[j]?).getD []).length<=2):∀i,hG l ha i<=2 ^ i:=by
 intro i
 induction i with
 | zero=>simp[hG]
 | succ i Α=>
  rw[@E1 ⟨λ_=>True⟩,Nat.pow_succ];refine Nat.mul_le_mul Α ?_;split
  ·omega
  ·exact h i
theorem dΥ:∀f∈cf fN,f.cells.length=2/\∀c∈f.cells,c.length<=2:=by decide +kernel
theorem QS:Fg fN (cf fN):=by
 refine⟨by decide +kernel,by decide +kernel,?_,by decide +kernel⟩;intro f Ρ;obtain⟨U,γ⟩:=dΥ f Ρ;refine⟨by rw[U];decide,λha i hi=>Nat.lt_of_le_of_lt (dΤ (λj=>?_) i) ?_⟩
 ·cases ζ:f.cells[j]? with
  | none=>simp
  | some c=>simpa using γ c (cy ζ)
 ·have:2 ^ i<=2 ^ 2:=Nat.pow_le_pow_right J J;omega
theorem QT:ra (cf fN) 0 true=[4]:=by
 unfold ra;rw[QQ,QP (m:=[4,4]) (.refl _) br];decide
theorem QU:ra (cf fN) 1 true=[1,2]:=by
 unfold ra;rw[QR,QP (m:=[1,1,2,2]) br br];decide
theorem dΦ:OR fN (cf fN) true zp 12:=by
 refine⟨by decide +kernel,by decide +kernel,λc ε=>?_,λg Ω=>?_⟩
 ·have ε:c<2:=ε
  match c,ε with
  | 0,_=>rw[QQ,QT];decide
  | 1,_=>rw[QR,QU];decide
 ·simp only[fN,List.mem_cons,List.not_mem_nil,or_false] at Ω;rcases Ω with rfl|rfl|rfl|rfl|rfl<;>rfl
theorem dΧ:qd fN (cf fN) true zp 2=[111,63]:=by
 show [0,1].map (vj fN (cf fN) true zp)=_;simp only[List.map_cons,List.map_nil,vj,QT,QU];decide +kernel
theorem dΨ:vk fN (cf fN) true zp=(spell [111,63],0):=by
 unfold vk;rw[if_pos dΡ];show(spell (qd fN (cf fN) true zp 2),(0:Int))=_;rw[dΧ]
theorem QV:@aB py Tryz.prog 21 [] (ba true):=by
 letI:bq:=py;have ξ:=QN.small;have Ν:=dΙ QN;refine af.body Φ Tryz.func21 rfl rfl Tryz.ntmps21 rfl rfl η ?_;refine Η ?_;refine bc λΚ κ=>?_;refine aB.d (B3) (bp ?_);refine aB.c (dΗ fN ξ [1,0] [1,4] 1) (.cons (.refl _) (.cons .ex (.cons .ex (.cons (.refl _) .nil)))) η η ?_;rw[dΝ];simp;(repeat (rw[ah];simp));apply κ;refine bc λΚ κ=>?_;refine aB.d (B3) (bp ?_);refine aB.c (I9 fN ξ _ Ν (by decide +kernel)) (b2.refl _) η η ?_;rw[if_pos QO,QO,dΞ];simp;(repeat (rw[ah];simp));apply κ;refine bc λΚ κ=>?_;refine aB.d (B3) (bp ?_);refine aB.c (YA fN ξ _ Ν true zp 12 br YC (λ_=>dΦ)) (b2.refl _) η η ?_;rw[dΨ];simp;(repeat (rw[ah];simp));apply κ;refine bc λΚ κ=>?_;refine aB.d (B3) (bp ?_);refine aB.c (Zf fN ξ _ Ν QS) (b2.refl _) η η ?_;rw[dΚ];simp;(repeat (rw[ah];simp));apply κ;refine bc λΚ κ=>?_;refine aB.d (B3) (bp ?_);refine aB.c (cπ fN ξ _ Ν QS 1 true br) (b2.refl _) η η ?_;rw[dΜ];simp;(repeat (rw[ah];simp));apply κ;refine bc λΚ κ=>?_;refine aB.c (Ys 9) (b2.refl _) η η ?_;have d':valid 9=true:=by decide +kernel
 have dG:EX 9=6:=by decide +kernel
 rw[d',dG];simp;(repeat (rw[ah];simp));apply κ;refine g9 @dΟ λΚ κ=>?_;refine aB.c (XS [[1,0],[2,0]] [[1,0],[2,0]] br br) (.cons (.refl _) (.cons ?_ .nil)) η η ?_
 ·exact .map (l:=[[1,0],[2,0]]) (f:=λl:List Int=>.sl true 1 (l.map I)) (g:=bD I 1) λx _=>.one .ex rfl rfl
 simp;(repeat (rw[ah];simp));refine aB.c (IW [1] [1] br) (.cons (.refl _) (.cons .ex .nil)) η η ?_;simp;(repeat (rw[ah];simp));apply κ;refine W.rt ?_;exact .of η
end Go.TL
namespace Go.TL
open Go.Proofs
variable [bq]
structure cJ where
 bg:List Int
 state:Int
abbrev QW (n:Int):θ:=.z (.int .u64 n)
abbrev dΩ (d:cJ):θ:=.a3 [bD I 1 d.bg,QW d.state]
abbrev b4 (d:cJ):Row:=.cells 93 2 [dΩ d]
def B7 (d:cJ):Int:=IntKind.u64.wrap (d.bg.headD 0)
def zq (d:cJ):Int:=IntKind.u64.wrap (IntKind.u64.wrap (IntKind.u64.wrap (d.state+(if d.bg=[] then 0 else B7 d))+6364136223846793005)*15074714826142052245)
def tZ (d:cJ):Int:=Av .u64 (zq d) ((zq d).fdiv (2 ^ min 29 IntKind.u64.bits))
def sM (d:cJ):Int:=(IntKind.u64.wrap (Av .u64 (tZ d) ((tZ d).fdiv (2 ^ min 33 IntKind.u64.bits))*18397679294719823053)).fdiv (2 ^ min 32 IntKind.u64.bits)
def cJ.next (d:cJ):cJ:=⟨d.bg.tail,tZ d⟩
theorem QX (l:List (List Int)) (x:List Int) (π:l.length<2 ^ 62) (ξ:∀y∈l,y.length<2 ^ 62):aB Tryz.prog 43 [aX l,bD I 1 x] (ba (l.contains x)):=by
 refine af.body Φ Tryz.func43 rfl rfl Tryz.ntmps43 rfl rfl η ?_;refine Η ?_;refine W.iter (λi:Nat=>i<=l.length/\∀j,j<i->(h:j<l.length)->l[j]≠x) (λi=>[(0,aX l),(1,bD I 1 x),(5,I i)]) (λ_=>[]) (λi=>l.length-i) 0 ⟨Nat.zero_le _,λj ζ=>J⟩ rfl η (λi hi Α=>?_);refine Η ?_;refine W.ey rfl (λε=>?_) (λε=>?_)
 ·have ε:i<l.length:=by simpa using ε
  refine g9 ε λΚ κ=>?_;refine aB.d (IW l[i] x (ξ _ (List.getElem_mem ε))) (bp ?_);apply κ;by_cases Χ:l[i]=x
  ·refine aC (by simp[Χ]) ?_;refine Η ?_;refine W.rt ?_;have:x∈l:=Χ▸List.getElem_mem _;exact .of (by simp[this])
  ·refine ay (by simp[Χ]) ?_;have hw:=eX ε π;refine aE hw ?_;refine W.forget _ ?_ (Α (i+1) ⟨J,λj ζ h=>?_⟩ J)
   ·simp[hw]
   ·by_cases e:j=i
    ·subst e;exact Χ
    ·exact hi.2 j J h
 ·have ε:i=l.length:=by simp at ε;omega
  subst ε;refine W.exit rfl ?_;refine Η ?_;refine W.rt ?_;have:¬x∈l:=λh=>by
   obtain⟨j,ζ,e⟩:=List.getElem_of_mem h;exact hi.2 j ζ ζ e
  exact .of (by simp[this])
theorem eα (d:cJ) (hd:d.bg.length<2 ^ 63):af Tryz.prog 73 [.ak 0 1 0 0] [b4 d] (λr s=>r=QW (sM d)/\s=[b4 d.next]) (λ_ _=>False):=by
 obtain⟨l,q⟩:=d;refine af.body Φ Tryz.func73 rfl rfl Tryz.ntmps73 rfl rfl η ?_;refine Η ?_;cases l with
 | nil=>
  refine ay η ?_;refine Η ?_;refine vf ?_
  repeat apply ae
  refine vf ?_;refine Η ?_;exact W.ret ⟨_,rfl,by simp[sM,tZ,zq,B7],by simp[cJ.next,tZ,zq,B7]⟩
 | cons a l=>
  refine aC η ?_;refine Η ?_;have l6:List.take l.length (l.map I)=l.map I:=List.take_of_length_le η;refine g9 l6 λΚ κ=>?_;refine⟨J,?_⟩;apply κ;refine Η ?_;refine vf ?_
  repeat apply ae
  refine vf ?_;refine Η ?_;exact W.ret ⟨_,rfl,by simp[sM,tZ,zq,B7],by simp[cJ.next,tZ,zq,B7]⟩
def hN (d:cJ) (n:Int):Int:=if n<=0 then 0 else IntKind.i64.wrap ((IntKind.u64.wrap (sM d*IntKind.u64.wrap (IntKind.i64.wrap (n+1)))).fdiv (2 ^ min 32 IntKind.u64.bits))
def cJ.after (d:cJ) (n:Int):cJ:=if n<=0 then d else d.next
theorem qp (d:cJ):iY (b4 d):=by simp[iY,θ.cells]
theorem Kn (d:cJ) (hd:d.bg.length<2 ^ 63) (n:Int):af Tryz.prog 24 [.ak 0 1 0 0,I n] [b4 d] (λr s=>r=I (hN d n)/\s=[b4 (d.after n)]) (λ_ _=>False):=by
 refine af.body Φ Tryz.func24 rfl rfl Tryz.ntmps24 rfl rfl η ?_;refine Η ?_;by_cases h:n<=0
 ·refine aC (by simp[h]) ?_;refine Η ?_;exact W.ret ⟨_,rfl,by simp[hN,h],by simp[cJ.after,h]⟩
 ·refine ay (by simp[h]) ?_;refine Η ?_;refine bc λΚ κ=>?_;refine af.one (as0:=[.ak 0 1 0 0]) (eα d hd) 0 rfl (qp d) (qp d.next) (by simp[fD,mS]) ((aG.z _).jN 1) rfl ?_;simp[pe];(repeat (rw[ah];simp));apply κ;exact W.ret ⟨_,rfl,by simp[hN,h],by simp[cJ.after,h]⟩
def oI (d:cJ) (a b:Int):Int:=IntKind.i64.wrap (a+hN d (IntKind.i64.wrap (b-a)))
theorem eβ (d:cJ) (hd:d.bg.length<2 ^ 63) (a b:Int):af Tryz.prog 38 [.ak 0 1 0 0,I a,I b] [b4 d] (λr s=>r=I (oI d a b)/\s=[b4 (d.after (IntKind.i64.wrap (b-a)))]) (λ_ _=>False):=by
 refine af.body Φ Tryz.func38 rfl rfl Tryz.ntmps38 rfl rfl η ?_;refine Η ?_;refine bc λΚ κ=>?_;refine af.one (as0:=[.ak 0 1 0 0,I (IntKind.i64.wrap (b-a))]) (Kn d hd _) 0 rfl (qp d) (qp _) (by simp[fD,mS]) ((aG.z _).jN 1) rfl ?_;simp[pe];(repeat (rw[ah];simp));apply κ;exact W.ret ⟨_,rfl,rfl,rfl⟩
end Go.TL
namespace Go.TL
open Go.Proofs
theorem eγ (x:Int):0<=IntKind.u64.wrap x/\IntKind.u64.wrap x<18446744073709551616:=by
 unfold IntKind.wrap;simp[IntKind.bits,IntKind.signed];omega
theorem u64_in (x:Int) (h:0<=x) (γ:x<18446744073709551616):IntKind.u64.wrap x=x:=by
 unfold IntKind.wrap;simp[IntKind.bits,IntKind.signed];omega
theorem QY:(2:Int) ^ min 32 IntKind.u64.bits=4294967296:=br
theorem eδ (d:cJ):0<=sM d/\sM d<4294967296:=by
 unfold sM;rw[QY];generalize δ:IntKind.u64.wrap _=x;have:=eγ (Av .u64 (tZ d) ((tZ d).fdiv (2 ^ min 33 IntKind.u64.bits))*18397679294719823053);rw[δ] at this;rw[Int.fdiv_eq_ediv_of_nonneg _ br];omega
theorem pA (d:cJ) (n:Int) (ao:0<=n) (Θ:n<2147483647):0<=hN d n/\hN d n<=n:=by
 unfold hN;split
 ·omega
 ·obtain⟨r0,r1⟩:=eδ d;rw[QY,IntWalk.i64_in (n+1) J,u64_in (n+1) J J];have hm:sM d*(n+1)<=4294967295*(n+1):=Int.mul_le_mul_of_nonneg_right J J;have ω:0<=sM d*(n+1):=Int.mul_nonneg r0 J;generalize sM d*(n+1)=y at hm ω;rw[u64_in y ω J,Int.fdiv_eq_ediv_of_nonneg _ br,IntWalk.i64_in _ J];omega
end Go.TL
namespace Go.TL
open Go.Proofs
variable [bq]
def ry (d:cJ) (l:List Int):Nat:=(hN d ((l.length:Int)-1)).toNat
theorem eε (d:cJ) (hd:d.bg.length<2 ^ 63) (l:List Int) (ao:0<l.length) (π:l.length<1000000):af Tryz.prog 61 [.ak 0 1 0 0,bD I 1 l] [b4 d] (λr s=>r=I (l.getD (ry d l) 0)/\s=[b4 (d.after ((l.length:Int)-1))]) (λ_ _=>False):=by
 refine af.body Φ Tryz.func61 rfl rfl Tryz.ntmps61 rfl rfl η ?_;have hw:IntKind.i64.wrap ((l.length:Int)-1)=(l.length:Int)-1:=IntWalk.i64_in _ J;obtain⟨t0,t1⟩:=pA d ((l.length:Int)-1) J J;obtain⟨k,ψ⟩:∃k:Nat,hN d ((l.length:Int)-1)=k:=⟨(hN d ((l.length:Int)-1)).toNat,J⟩;have iA:k<l.length:=J;have ea:ry d l=k:=by unfold ry;rw[ψ];rfl
 refine Η ?_;refine g9 hw λΚ κ=>?_;refine af.one (as0:=[.ak 0 1 0 0,I ((l.length:Int)-1)]) (Kn d hd _) 0 rfl (qp d) (qp _) (by simp[fD,mS]) ((aG.z _).jN 1) rfl ?_;rw[ψ];simp[pe,iA];(repeat (rw[ah];simp[iA]));apply κ;exact W.ret ⟨_,rfl,by rw[ea];simp[List.getD_eq_getElem?_getD,iA],rfl⟩
end Go.TL
namespace Go.TL
open Go.Conc
variable [bq]
section
variable {P:Program} {T:bk} {A:List Nat} {m nt:Nat} {k:List Item} {env:ab} {σ:ac} {Z:be} {E:aq} {ops:Array Oper}
def QZ (P:Program) (m nt:Nat) (k:List Item) (Z:be) (E:aq) (ops:Array Oper) (i:Nat) (o:Oper) (env:ab) (r:Row) (a:θ) (r2:Row):Prop:=
 ∀env' τ rest,pa ops o env env'->W P m nt (.inRegion ops rest::k) (b7 o env' a) (r2::τ) Z E->W P m nt (.inRegion ops (i::rest)::k) env' (r::τ) Z E
def StepB (P:Program) (m nt:Nat) (k:List Item) (Z:be) (E:aq) (ops:Array Oper) (i:Nat) (o:Oper) (env:ab) (τ:ac) (a:θ) (eζ:ac):Prop:=
 ∀env' r rest,pa ops o env env'->W P m nt (.inRegion ops rest::k) (b7 o env' a) (r::eζ) Z E->W P m nt (.inRegion ops (i::rest)::k) env' (r::τ) Z E
theorem Q0 {α:Type} {f:Nat->α} {tags:List Bool} (AY:∀i o,ops[i]?=some o->writer ops tags i=false->f (i+1)=f i):∀a b,a<=ops.size->b<=ops.size->(∀j,j<ops.size->writer ops tags j=true->(j<a↔j<b))->f a=f b:=by
 have AZ:∀(d a:Nat),a+d<=ops.size->(∀j,a<=j->j<a+d->writer ops tags j=false)->f (a+d)=f a:=by
  intro d
  induction d with
  | zero=>intro a _ _;rfl
  | succ d Α=>
   intro a hle h;have U:ops[a+d]?=some ops[a+d]:=fw J;have:=AY (a+d) _ U (h (a+d) J J);rw[show a+(d+1)=a+d+1 by omega,this];exact Α a J λj U γ=>h j U J
 intro a b ν hb h;rcases Nat.le_total a b with hle|hle
 ·have:=AZ (b-a) a J λj U γ=>by
   cases Υ:writer ops tags j with
   | false=>rfl
   | true=>have:=(h j J Υ).2 J;omega
  rw[show a+(b-a)=b by omega] at this;exact this.symm
 ·have:=AZ (a-b) b J λj U γ=>by
   cases Υ:writer ops tags j with
   | false=>rfl
   | true=>have:=(h j J Υ).1 J;omega
  rw[show b+(a-b)=a by omega] at this;exact this
theorem Q1 {tags:List Bool} (ea:nE ops tags=true):∀i o,ops[i]?=some o->(∀j∈hE o,j<i)/\∀j bZ,j<i->ops[j]?=some bZ->clash ops tags i j o bZ=true->j∈(ED ops).getD i []:=by
 intro i o Β;have hi:i<ops.size:=(Array.getElem?_eq_some_iff.1 Β).1;unfold nE tw at ea;simp only[List.all_eq_true,List.mem_range] at ea;have h:=ea i hi;rw[Β] at h;simp only[Bool.and_eq_true,List.all_eq_true,decide_eq_true_eq,List.mem_range] at h;refine⟨h.1,λj bZ ζ dg ε=>?_⟩;have γ:=h.2 j ζ;rw[dg] at γ;unfold clash at ε;simp only[ε,Bool.not_true,Bool.false_or,List.contains_iff_mem] at γ;exact γ
theorem Q2 {tags:List Bool}:∀j,writer ops tags j=true->tags.getD j false=true:=λj h=>by
 unfold writer at h;rw[Bool.and_eq_true] at h;exact h.1
theorem Q3 {tags:List Bool} {i:Nat} {mQ:Oper} (mR:tags.getD i false=true):∀j bZ,ops[j]?=some bZ->writer ops tags j=true->clash ops tags i j mQ bZ=true/\clash ops tags j i bZ mQ=true:=λj bZ dg Υ=>by
 have U:=Q2 j Υ;unfold writer at Υ;rw[U,dg] at Υ;have γ:jq bZ=false:=by simpa using Υ
 unfold clash mP tx;rw[U,mR,γ];simp
theorem W.eη {as9:Nat->θ} {ρs:Nat->Row} {τs:Nat->ac} {td tb:List Bool} {env0:ab} (eθ:nE ops td=true) (eι:nE ops tb=true)
  (cF:∀i o,ops[i]?=some o->td.getD i false=false->tb.getD i false=false->u' P m nt k Z E ops i o (cI ops env0 as9 (λ_=>true) i) (as9 i))
  (eH:∀i o,ops[i]?=some o->td.getD i false=true->QZ P m nt k Z E ops i o (cI ops env0 as9 (λ_=>true) i) (ρs i) (as9 i) (ρs (i+1))/\tb.getD i false=false)
  (eC:∀i o,ops[i]?=some o->tb.getD i false=true->StepB P m nt k Z E ops i o (cI ops env0 as9 (λ_=>true) i) (τs i) (as9 i) (τs (i+1)))
  (eκ:∀i o,ops[i]?=some o->writer ops td i=false->ρs (i+1)=ρs i) (eμ:∀i o,ops[i]?=some o->writer ops tb i=false->τs (i+1)=τs i)
  (AX:W P m nt (.inRegion ops []::k) (cI ops env0 as9 (λ_=>true) ops.size) (ρs ops.size::τs ops.size) Z E) :
  ∀(fuel:Nat) (t:Nat) (listed:Array Bool) (env:ab) (b9 hS:Nat),listed.size=ops.size->
   (∀i,a' env i=a' (cI ops env0 as9 (λi=>listed.getD i false) ops.size) i)->
   (∀i o,ops[i]?=some o->listed.getD i false=true->∀j∈hE o,listed.getD j false=true)->
   b9<=ops.size->hS<=ops.size->(∀j,j<ops.size->writer ops td j=true->(listed.getD j false=true↔j<b9))->(∀j,j<ops.size->writer ops tb j=true->(listed.getD j false=true↔j<hS))->
   ((List.range ops.size).filter λi=>!listed.getD i false).length<=fuel->
   W P m nt (.inRegion ops (Region.linearise.go .any ops fuel t listed [])::k) env (ρs b9::τs hS) Z E:=by
 have w9:=Q1 eθ
 have Q4:=Q1 eι
 have tz:∀i o,ops[i]?=some o->∀j∈hE o,j<i:=λi o Β=>(w9 i o Β).1
 have Q5:=Q0 eκ
 have Q6:=Q0 eμ;intro fuel;have done:∀(t:Nat) (listed:Array Bool) (env:ab) (b9 hS:Nat),(∀i,i<ops.size->listed.getD i false=true)->(∀i,a' env i=a' (cI ops env0 as9 (λi=>listed.getD i false) ops.size) i)->b9<=ops.size->hS<=ops.size->
   (∀j,j<ops.size->writer ops td j=true->(listed.getD j false=true↔j<b9))->(∀j,j<ops.size->writer ops tb j=true->(listed.getD j false=true↔j<hS))->W P m nt (.inRegion ops []::k) env (ρs b9::τs hS) Z E:=λt listed env b9 hS g3 cO g8 oW jr vK=>by
  have Ζ:ρs b9=ρs ops.size:=Q5 b9 ops.size g8 (Nat.le_refl _) λj ζ Υ=>by rw[<-jr j ζ Υ];simp[g3 j ζ,ζ]
  have Ε:τs hS=τs ops.size:=Q6 hS ops.size oW (Nat.le_refl _) λj ζ Υ=>by rw[<-vK j ζ Υ];simp[g3 j ζ,ζ]
  rw[Ζ,Ε];refine .congr (λi=>?_) AX;rw[cO i];exact yL ops.size λi o hi _ _=>g3 i hi
 have IE:∀listed:Array Bool,listed.size=ops.size->(∃i,i<ops.size/\listed.getD i false=false)->∃i,i<ops.size/\listed.getD i false=false/\∀j,j<i->listed.getD j false=true:=λlisted cA ⟨i,hi,π⟩=>by
  induction i using Nat.strongRecOn with
  | _ i Α=>
   by_cases ζ:∃j,j<i/\listed.getD j false=false
   ·obtain⟨j,U,γ⟩:=ζ;exact Α j U J γ
   ·exact⟨i,hi,π,λj aI=>by
     cases h:listed.getD j false with
     | true=>rfl
     | false=>exact absurd ⟨j,aI,h⟩ ζ⟩
 induction fuel with
 | zero=>
  intro t listed env b9 hS cA cO b3 g8 oW jr vK IF;have g3:∀i,i<ops.size->listed.getD i false=true:=λi hi=>by
   cases h:listed.getD i false with
   | true=>rfl
   | false=>
    have l4:i∈(List.range ops.size).filter λi=>!listed.getD i false:=by rw[List.mem_filter];exact⟨List.mem_range.2 hi,by rw[h];rfl⟩
    have:((List.range ops.size).filter λi=>!listed.getD i false)=[]:=dO.1 J;rw[this] at l4;simp at l4
  exact done t listed env b9 hS g3 cO g8 oW jr vK
 | succ fuel Α=>
  intro t listed env b9 hS cA cO b3 g8 oW jr vK IF;simp only[Region.linearise.go];generalize kX:((List.range ops.size).filter λi=>!listed.getD i true&&((ops[i]?).map (·.after.all λe=>!Region.binds .any e||listed.getD e.on false)).getD false)=rs;have A0:∀i,i<ops.size->listed.getD i true=listed.getD i false:=λi hi=>by
   rw[Array.getD_eq_getD_getElem?,Array.getD_eq_getD_getElem?,fw J];rfl
  have A1:∀i,i∈rs↔i<ops.size/\listed.getD i false=false/\∀o,ops[i]?=some o->∀j∈hE o,listed.getD j false=true:=λi=>by
   rw[<-kX];simp only[List.mem_filter,List.mem_range,Bool.and_eq_true,Bool.not_eq_true'];constructor
   ·rintro⟨U,γ,ο⟩;rw[A0 i U] at γ;refine⟨U,γ,λo Β j ζ=>?_⟩;rw[Β] at ο;simp only[Option.map_some,Option.getD_some,Array.all_eq_true'] at ο;unfold hE at ζ;simp only[List.mem_map,List.mem_filter] at ζ;obtain⟨e,⟨yM,ie⟩,rfl⟩:=ζ;have:=ο e (by simpa using yM);simpa[ie] using this
   ·rintro⟨U,γ,ο⟩;refine⟨U,by rw[A0 i U];exact γ,?_⟩;have Β:ops[i]?=some ops[i]:=fw U;rw[Β];simp only[Option.map_some,Option.getD_some,Array.all_eq_true'];intro e he;by_cases hb:Region.binds .any e=true
    ·have:=ο _ Β e.on (by unfold hE;simp only[List.mem_map,List.mem_filter];exact⟨e,⟨by simpa using he,hb⟩,rfl⟩);simp[this]
    ·simp[hb]
  cases hi:rs[t % rs.length]? with
  | none=>
   simp only[List.reverse_nil];have Ac:rs=[]:=by
    cases μ:rs with
    | nil=>rfl
    | cons x xs=>
     rw[μ] at hi;have aN:t % (x::xs).length<(x::xs).length:=Nat.mod_lt _ η;rw[a6 aN] at hi;cases hi
   have g3:∀i,i<ops.size->listed.getD i false=true:=λi aH=>by
    cases h:listed.getD i false with
    | true=>rfl
    | false=>
     obtain⟨r,U,γ,ο⟩:=IE listed cA ⟨i,aH,h⟩;have:r∈rs:=(A1 r).2 ⟨U,γ,λo Β j ζ=>ο j (tz r o Β j ζ)⟩;rw[Ac] at this;simp at this
   exact done t listed env b9 hS g3 cO g8 oW jr vK
  | some i=>
   simp only;rw[N8];have l4:i∈rs:=cy hi;obtain⟨U,γ,ο⟩:=(A1 i).1 l4;have Β:ops[i]?=some ops[i]:=fw U;have IG:=EE tz (λj=>listed.getD j false=true) (λj o ζ π=>b3 j o ζ π) i _ Β (ο _ Β);have low:∀j bZ,j<i->ops[j]?=some bZ->(clash ops td i j ops[i] bZ=true\/clash ops tb i j ops[i] bZ=true)->listed.getD j false=true:=λj bZ ζ dg ε=>IG j (ε.elim (λε=>(w9 i _ Β).2 j bZ ζ dg ε) (λε=>(Q4 i _ Β).2 j bZ ζ dg ε));have high:∀j bZ,i<j->ops[j]?=some bZ->(clash ops td j i bZ ops[i]=true\/clash ops tb j i bZ ops[i]=true)->listed.getD j false=false:=λj bZ ζ dg ε=>by
    cases π:listed.getD j false with
    | false=>rfl
    | true=>
     have:=EE tz (λj=>listed.getD j false=true) (λj o ζ π=>b3 j o ζ π) j bZ dg (b3 j bZ dg π) i (ε.elim (λε=>(w9 j bZ dg).2 i _ ζ Β ε) (λε=>(Q4 j bZ dg).2 i _ ζ Β ε));rw[γ] at this;cases this
   have same:pa ops ops[i] (cI ops env0 as9 (λ_=>true) i) env:=λx δ=>by
    rw[cO x];have c1:a' (cI ops env0 as9 (λi=>listed.getD i false) ops.size) x=a' (cI ops env0 as9 (λi=>listed.getD i false) i) x:=EG J λj bZ sk A2 dg hd=>by
     by_cases e:j=i
     ·subst e;exact γ
     ·refine high j bZ J dg ?_;unfold clash mP tx;simp[hd,δ]
    rw[c1];exact yL i λj bZ ζ dg hd=>low j bZ ζ dg (.inl (by unfold clash mP tx;simp[hd,δ]))
   have nx:∀x,a' (b7 ops[i] env (as9 i)) x=a' (cI ops env0 as9 (λj=>(listed.setIfInBounds i true).getD j false) ops.size) x:=λx=>by
    have k7:∀j,(listed.setIfInBounds i true).getD j false=if j=i then true else listed.getD j false:=λj=>by
     rw[Array.getD_eq_getD_getElem?,Array.getD_eq_getD_getElem?];by_cases e:j=i
     ·subst e;rw[Array.getElem?_setIfInBounds_self_of_lt J];simp
     ·rw[Array.getElem?_setIfInBounds_ne (Ne.symm e),if_neg e]
    rw[w7];by_cases hd:ops[i].dst=some x
    ·rw[if_pos hd];have c1:a' (cI ops env0 as9 (λj=>(listed.setIfInBounds i true).getD j false) ops.size) x=a' (cI ops env0 as9 (λj=>(listed.setIfInBounds i true).getD j false) (i+1)) x:=EG J λj bZ sk A2 dg tA=>by
      rw[k7,if_neg J];refine high j bZ J dg (.inl ?_);unfold clash mP tx;simp[hd,tA]
     rw[c1];simp only[cI,k7,if_true,Β,w7,hd]
    ·rw[if_neg hd,cO x];exact yL ops.size λj bZ ζ dg tA=>by
      rw[k7,if_neg];intro e;subst e;rw[Β] at dg;cases dg;exact hd tA
   have k7:∀j,(listed.setIfInBounds i true).getD j false=if j=i then true else listed.getD j false:=λj=>by
    rw[Array.getD_eq_getD_getElem?,Array.getD_eq_getD_getElem?];by_cases e:j=i
    ·subst e;rw[Array.getElem?_setIfInBounds_self_of_lt J];simp
    ·rw[Array.getElem?_setIfInBounds_ne (Ne.symm e),if_neg e]
   have vb:((List.range ops.size).filter λj=>!(listed.setIfInBounds i true).getD j false).length<=fuel:=by
    have aN:((List.range ops.size).filter λj=>!(listed.setIfInBounds i true).getD j false).length<((List.range ops.size).filter λj=>!listed.getD j false).length:=by
     have:((List.range ops.size).filter λj=>!(listed.setIfInBounds i true).getD j false)=((List.range ops.size).filter λj=>!listed.getD j false).filter λj=>j != i:=by
      rw[List.filter_filter];apply List.filter_congr;intro j _;rw[k7];by_cases e:j=i
      ·subst e;simp
      ·simp[e]
     rw[this];have hm:i∈(List.range ops.size).filter λj=>!listed.getD j false:=by
      rw[List.mem_filter];exact⟨List.mem_range.2 U,by rw[γ];rfl⟩
     exact List.length_filter_lt_length_iff_exists.2 ⟨i,hm,η⟩
    omega
   have ot:∀j o,ops[j]?=some o->(listed.setIfInBounds i true).getD j false=true->∀y∈hE o,(listed.setIfInBounds i true).getD y false=true:=λj o ζ π y Μ=>by
    rw[k7] at π ⊢;by_cases e:y=i
    ·rw[if_pos e]
    ·rw[if_neg e];by_cases Ε:j=i
     ·subst Ε;rw[Β] at ζ;cases ζ;exact ο _ Β y Μ
     ·rw[if_neg Ε] at π;exact b3 j o ζ π y Μ
   have keep:∀(tags:List Bool) (b9:Nat),tags.getD i false=false->(∀j,j<ops.size->writer ops tags j=true->(listed.getD j false=true↔j<b9))->∀j,j<ops.size->writer ops tags j=true->((listed.setIfInBounds i true).getD j false=true↔j<b9):=λtags b9 mR jr j ζ Υ=>by
    rw[k7];have:j≠i:=λe=>by subst e;rw[Q2 j Υ] at mR;cases mR
    rw[if_neg this];exact jr j ζ Υ
   have keepW:∀(tags:List Bool) (b9:Nat),writer ops tags i=false->(∀j,j<ops.size->writer ops tags j=true->(listed.getD j false=true↔j<b9))->∀j,j<ops.size->writer ops tags j=true->((listed.setIfInBounds i true).getD j false=true↔j<b9):=λtags b9 gT jr j ζ Υ=>by
    rw[k7];have:j≠i:=λe=>by subst e;rw[Υ] at gT;cases gT
    rw[if_neg this];exact jr j ζ Υ
   have both:∀(tags:List Bool),tags.getD i false=true->(∀j bZ,j<i->ops[j]?=some bZ->clash ops tags i j ops[i] bZ=true->listed.getD j false=true)->(∀j bZ,i<j->ops[j]?=some bZ->clash ops tags j i bZ ops[i]=true->listed.getD j false=false)->
     (∀j,j<ops.size->writer ops tags j=true->j<i->listed.getD j false=true)/\(∀j,j<ops.size->writer ops tags j=true->i<j->listed.getD j false=false):=λtags mR lo hi=>⟨λj ζ Υ xa=>lo j _ xa (fw ζ) (Q3 mR j _ (fw ζ) Υ).1,λj ζ Υ xa=>hi j _ xa (fw ζ) (Q3 mR j _ (fw ζ) Υ).2⟩
   have Q7:∀(tags:List Bool) (b9:Nat),(∀j,j<ops.size->writer ops tags j=true->j<i->listed.getD j false=true)->(∀j,j<ops.size->writer ops tags j=true->i<j->listed.getD j false=false)->(∀j,j<ops.size->writer ops tags j=true->(listed.getD j false=true↔j<b9))->∀j,j<ops.size->writer ops tags j=true->(j<b9↔j<i):=λtags b9 lo hi jr j ζ Υ=>by
    rw[<-jr j ζ Υ];constructor
    ·intro π;apply Classical.byContradiction;intro Θ;by_cases e:j=i
     ·subst e;rw[γ] at π;cases π
     ·rw[hi j ζ Υ J] at π;cases π
    ·exact lo j ζ Υ
   have next:∀(tags:List Bool),(∀j,j<ops.size->writer ops tags j=true->j<i->listed.getD j false=true)->(∀j,j<ops.size->writer ops tags j=true->i<j->listed.getD j false=false)->∀j,j<ops.size->writer ops tags j=true->((listed.setIfInBounds i true).getD j false=true↔j<i+1):=λtags lo hi j ζ Υ=>by
    rw[k7];by_cases e:j=i
    ·subst e;simp
    ·rw[if_neg e];constructor
     ·intro π;apply Classical.byContradiction;intro Θ;rw[hi j ζ Υ J] at π;cases π
     ·intro aN;exact lo j ζ Υ J
   cases B8:td.getD i false with
   | true=>
    obtain⟨cD,zr⟩:=eH i _ Β B8;obtain⟨lo,aH⟩:=both td B8 (λj bZ a b c=>low j bZ a b (.inl c)) (λj bZ a b c=>high j bZ a b (.inl c));rw[Q5 b9 i g8 J (Q7 td b9 lo aH jr)];refine cD env _ _ same ?_;exact Α _ _ _ (i+1) hS (by simpa using cA) nx ot J oW (next td lo aH) (keep tb hS zr vK) vb
   | false=>
    cases zr:tb.getD i false with
    | false=>
     refine cF i _ Β B8 zr env _ _ same ?_;exact Α _ _ _ b9 hS (by simpa using cA) nx ot g8 oW (keep td b9 B8 jr) (keep tb hS zr vK) vb
    | true=>
     obtain⟨lo,aH⟩:=both tb zr (λj bZ a b c=>low j bZ a b (.inr c)) (λj bZ a b c=>high j bZ a b (.inr c));rw[Q6 hS i oW J (Q7 tb hS lo aH vK)];refine eC i _ Β zr env _ _ same ?_;exact Α _ _ _ b9 (i+1) (by simpa using cA) nx ot g8 J (keep td b9 B8 jr) (next tb lo aH) vb
def zs (f:Row->c5) (K:θ->ac->Prop):Prop:=∃a fb,((∀r,f r=.ok a (r::fb))\/∃p:Prop,p/\∀r,f r=.b' p (.ok a (r::fb)))/\K a fb
theorem eν {f g:Row->c5} {K:θ->ac->Prop} (h:∀r,f r=g r):zs f K=zs g K:=by rw[funext h]
theorem eξ {a:θ} {τ:ac} {K:θ->ac->Prop}:zs (λr=>.ok a (r::τ)) K=K a τ:=by
 refine propext ⟨λ⟨b,fb,h,ψ⟩=>?_,λh=>⟨a,τ,.inl λ_=>rfl,h⟩⟩;rcases h with h|⟨p,_,h⟩
 ·have:=h (.map []);injection this with U γ
  injection γ with _ γ
  rw[U,γ];exact ψ
 ·have:=h (.map []);cases this
theorem eο {p:Prop} {a:θ} {τ:ac} {K:θ->ac->Prop}:zs (λr=>.b' p (.ok a (r::τ))) K=(p/\K a τ):=by
 refine propext ⟨λ⟨b,fb,h,ψ⟩=>?_,λh=>⟨a,τ,.inr ⟨p,h.1,λ_=>rfl⟩,h.2⟩⟩;rcases h with h|⟨q,Χ,h⟩
 ·have:=h (.map []);cases this
 ·have:=h (.map []);injection this with ao U
  injection U with U γ
  injection γ with _ γ
  rw[U,γ];exact⟨ao▸Χ,ψ⟩
def B9 (P:Program) (f:θ) (args:am) (r:Row) (gU:θ->Prop) (nY:θ->Row->Prop):Prop:=
 (∃a,ef P f args a/\gU a)\/∃a r',(∀τ,hV P f args (r::τ) (λb s=>b=a/\s=r'::τ) (λ_ _=>False))/\nY a r'
theorem eπ {P:Program} {f:θ} {args:am} {r r':Row} {gU:θ->Prop} {nY:θ->Row->Prop} {a:θ} (h:∀τ,hV P f args (r::τ) (λb s=>b=a/\s=r'::τ) (λ_ _=>False)) (k:nY a r'):B9 P f args r gU nY:=.inr ⟨a,r',h,k⟩
def Ca (P:Program) (T:bk) (A:List Nat) (env:ab) (o:Oper) (r:Row) (τ:ac) (gU:θ->Prop) (nY:θ->Row->Prop) (j0:θ->ac->Prop):Prop:=match o.op with
 | .call ⟨.value f,args,_⟩=>B9 P (aT env f) (args.toList.map (aT env)) r gU nY
 | .panic _=>False
 | .defer _=>False
 | _=>(jK T A env o).ee gU (zs (λr=>iD T A env (r::τ) o) j0)
theorem eρ {P:Program} {T:bk} {A:List Nat} {env:ab} {o:Oper} {r:Row} {τ:ac} {gU:θ->Prop} {nY:θ->Row->Prop} {j0:θ->ac->Prop}:Ca P T A env o r τ gU nY j0=match o.op with
 | .call ⟨.value f,args,_⟩=>B9 P (aT env f) (args.toList.map (aT env)) r gU nY
 | .panic _=>False
 | .defer _=>False
 | _=>(jK T A env o).ee gU (zs (λr=>iD T A env (r::τ) o) j0):=Eq.trans rfl rfl
def jx (P:Program) (T:bk) (A:List Nat) (nt:Nat) (ops:Array Oper):List Nat->ab->Row->ac->List Bool->List Bool->(ab->ac->Prop)->Prop
 | [],env,r,τ,td,tb,K=>nE ops td=true/\nE ops tb=true/\K env (r::τ)
 | i::is,env,r,τ,td,tb,K=>gu ops[i]? λo=>hD nt o=true/\gu (ft env ops o) λw=>
   iE w (jx P T A nt ops is (b7 o env .cz) r τ (td++[false]) (tb++[false]) K)
    (Ca P T A env o r τ (λa=>jx P T A nt ops is (b7 o env a) r τ (td++[false]) (tb++[false]) K) (λa r'=>jx P T A nt ops is (b7 o env a) r' τ (td++[true]) (tb++[false]) K) (λa fb=>jx P T A nt ops is (b7 o env a) r fb (td++[false]) (tb++[true]) K))
def Q8 (P:Program) (T:bk) (A:List Nat) (nt:Nat) (ops:Array Oper) (is:List Nat) (o:Oper) (env:ab) (r:Row) (τ:ac) (td tb:List Bool) (K:ab->ac->Prop) (a:θ):Prop:=jx P T A nt ops is (b7 o env a) r τ (td++[false]) (tb++[false]) K
def Q9 (P:Program) (T:bk) (A:List Nat) (nt:Nat) (ops:Array Oper) (is:List Nat) (o:Oper) (env:ab) (τ:ac) (td tb:List Bool) (K:ab->ac->Prop) (a:θ) (r:Row):Prop:=jx P T A nt ops is (b7 o env a) r τ (td++[true]) (tb++[false]) K
def Q' (P:Program) (T:bk) (A:List Nat) (nt:Nat) (ops:Array Oper) (is:List Nat) (o:Oper) (env:ab) (r:Row) (td tb:List Bool) (K:ab->ac->Prop) (a:θ) (τ:ac):Prop:=jx P T A nt ops is (b7 o env a) r τ (td++[false]) (tb++[true]) K
section
variable {is:List Nat} {i:Nat} {o:Oper} {r:Row} {τ:ac} {td tb:List Bool} {K:ab->ac->Prop} {a:θ}
theorem m7:jx P T A nt ops [] env r τ td tb K=(nE ops td=true/\nE ops tb=true/\K env (r::τ)):=Eq.trans rfl rfl
theorem m8:jx P T A nt ops (i::is) env r τ td tb K=gu ops[i]? λo=>hD nt o=true/\gu (ft env ops o) λw=>
   iE w (jx P T A nt ops is (b7 o env .cz) r τ (td++[false]) (tb++[false]) K) (Ca P T A env o r τ (Q8 P T A nt ops is o env r τ td tb K) (Q9 P T A nt ops is o env τ td tb K) (Q' P T A nt ops is o env r td tb K)):=Eq.trans rfl rfl
theorem eς:Q8 P T A nt ops is o env r τ td tb K a=jx P T A nt ops is (b7 o env a) r τ (td++[false]) (tb++[false]) K:=Eq.trans rfl rfl
theorem eτ:Q9 P T A nt ops is o env τ td tb K a r=jx P T A nt ops is (b7 o env a) r τ (td++[true]) (tb++[false]) K:=Eq.trans rfl rfl
theorem eυ:Q' P T A nt ops is o env r td tb K a τ=jx P T A nt ops is (b7 o env a) r τ (td++[false]) (tb++[true]) K:=Eq.trans rfl rfl
end
def Ko (P:Program) (m nt:Nat) (k:List Item) (Z:be) (E:aq) (ops:Array Oper) (i:Nat) (o:Oper) (env:ab) (r:Row) (τ:ac) (d b:Bool) (a:θ) (r':Row) (fb:ac):Prop:=
 (d=true/\b=false/\QZ P m nt k Z E ops i o env r a r'/\fb=τ)\/(d=false/\b=true/\StepB P m nt k Z E ops i o env τ a fb/\r'=r/\(jq o=true->fb=τ))\/(d=false/\b=false/\u' P m nt k Z E ops i o env a/\r'=r/\fb=τ)
theorem eφ (Ν:bU P T) {i:Nat} {is:List Nat} {r:Row} {τ:ac} {td tb:List Bool} {K:ab->ac->Prop} (h:jx P T A nt ops (i::is) env r τ td tb K) :
  ∃o a r' fb d b,ops[i]?=some o/\Ko P m nt k Z E ops i o env r τ d b a r' fb/\(d=true->jq o=false)/\jx P T A nt ops is (b7 o env a) r' fb (td++[d]) (tb++[b]) K:=by
 unfold jx gu at h;split at h
 ·exact h.elim
 ·rename_i o Β;obtain⟨hd,h⟩:=h;split at h
  ·exact h.elim
  rename_i w hw;unfold iE at h;cases w
  ·replace h:=h.1 rfl
   exact⟨o,.cz,r,τ,false,false,Β,.inr (.inr ⟨rfl,rfl,λenv' σ' rest ξ hW=>.unwanted Β (by rw[lG ξ];exact hw) hd hW,rfl,rfl⟩),λh=>(by cases h),h⟩
  ·replace h:=h.2 rfl
   unfold Ca at h;split at h
   ·rename_i f args eu Τ;have vd:∀env',pa ops o env env'->aT env' f=aT env f/\args.toList.map (aT env')=args.toList.map (aT env):=λenv' ξ=>by
     have δ:=A3 ξ;rw[Τ] at δ;refine⟨δ f (by simp[Op.operands,Call.operands]),A4 λx A5=>δ x (by simp[Op.operands,Call.operands,A5])⟩
    rcases h with⟨a,ε,h⟩|⟨a,r',ε,h⟩
    ·refine⟨o,a,r,τ,false,false,Β,.inr (.inr ⟨rfl,rfl,λenv' σ' rest ξ hW=>.call Β (by rw[lG ξ];exact hw) hd Τ ?_,rfl,rfl⟩),λh=>(by cases h),h⟩;obtain⟨Ζ,Ε⟩:=vd env' ξ;rw[Ζ,Ε];exact(ε σ').mono (λa s ⟨x,y⟩=>by subst x;subst y;exact hW) (λ_ _ h=>h.elim)
    ·refine⟨o,a,r',τ,true,false,Β,.inl ⟨rfl,rfl,λenv' fb rest ξ hW=>.call Β (by rw[lG ξ];exact hw) hd Τ ?_,rfl⟩,λ_=>(by unfold jq;rw[Τ]),h⟩;obtain⟨Ζ,Ε⟩:=vd env' ξ;rw[Ζ,Ε];exact(ε fb).mono (λa s ⟨x,y⟩=>by subst x;subst y;exact hW) (λ_ _ h=>h.elim)
   ·exact h.elim
   ·exact h.elim
   ·rename_i U γ ο;have ve:∀(Cb:cB) (a:θ),jK T A env o=Cb->(∀K:θ->ac->Prop,∀s,K a s->(Cb.dC s).holds K)->(∀σ s,Cb.or σ s=Cb.dC σ)->u' P m nt k Z E ops i o env a:=λCb a μ a5 A6 env' σ' rest ξ hW=>by
     refine .op (A:=A) Ν Β (by rw[lG ξ];exact hw) hd (λc ε=>ο c ε) ?_;rw[tB ξ,μ,A6];exact a5 _ _ hW
    unfold cB.ee at h;split at h
    ·rename_i a ν;exact⟨o,a,r,τ,false,false,Β,.inr (.inr ⟨rfl,rfl,ve _ a ν (λK s ψ=>ψ) (λ_ _=>rfl),rfl,rfl⟩),λh=>(by cases h),h⟩
    ·rename_i p a ν;exact⟨o,a,r,τ,false,false,Β,.inr (.inr ⟨rfl,rfl,ve _ a ν (λK s ψ=>⟨h.1,ψ⟩) (λ_ _=>rfl),rfl,rfl⟩),λh=>(by cases h),h.2⟩
    ·exact h.elim
    ·rename_i oo;have xb:∀(a:θ) (fb:ac),(∀r,∃x:c5,iD T A env (r::τ) o=x/\∀K:θ->ac->Prop,K a (r::fb)->x.holds K)->StepB P m nt k Z E ops i o env τ a fb:=λa fb μ env' r rest ξ hW=>by
      obtain⟨x,μ,a5⟩:=μ r;refine .op (A:=A) Ν Β (by rw[lG ξ];exact hw) hd (λc ε=>ο c ε) ?_;rw[tB ξ,yN ξ,oo,μ];exact a5 _ hW
     obtain⟨a,fb,hu,ψ⟩:=h;refine⟨o,a,r,fb,false,true,Β,.inr (.inl ⟨rfl,rfl,xb a fb λr=>?_,rfl,λμ=>?_⟩),λh=>(by cases h),ψ⟩
     ·rcases hu with hu|⟨p,ω,hu⟩
      ·exact⟨_,hu r,λK ψ=>ψ⟩
      ·exact⟨_,hu r,λK ψ=>⟨ω,ψ⟩⟩
     ·have:r::fb=r::τ:=by
       rcases hu with hu|⟨p,ω,hu⟩
       ·exact yO (p:=True) μ (.inl (hu r))
       ·exact yO μ (.inr (hu r))
      injection this
theorem eχ (Ν:bU P T) {K:ab->ac->Prop} {env0:ab}:∀(d i:Nat) (td tb:List Bool) (as9:Nat->θ) (ρs:Nat->Row) (τs:Nat->ac),i+d=ops.size->td.length=i->tb.length=i->
  (∀j o,j<i->ops[j]?=some o->Ko P m nt k Z E ops j o (cI ops env0 as9 (λ_=>true) j) (ρs j) (τs j) (td.getD j false) (tb.getD j false) (as9 j) (ρs (j+1)) (τs (j+1))/\(td.getD j false=true->jq o=false))->
  jx P T A nt ops (List.range' i d) (cI ops env0 as9 (λ_=>true) i) (ρs i) (τs i) td tb K->
  ∃(td tb:List Bool) (as9:Nat->θ) (sN:Nat->Row) (sO:Nat->ac),nE ops td=true/\nE ops tb=true/\sN 0=ρs 0/\sO 0=τs 0/\(∀j o,ops[j]?=some o->Ko P m nt k Z E ops j o (cI ops env0 as9 (λ_=>true) j) (sN j) (sO j) (td.getD j false) (tb.getD j false) (as9 j) (sN (j+1)) (sO (j+1))/\(td.getD j false=true->jq o=false))/\K (cI ops env0 as9 (λ_=>true) ops.size) (sN ops.size::sO ops.size):=by
 intro d
 induction d with
 | zero=>
  intro i td tb as9 ρs τs hi Υ xC ζ h;simp only[List.range'_zero,jx] at h;have:i=ops.size:=J;subst this;exact⟨td,tb,as9,ρs,τs,h.1,h.2.1,rfl,rfl,λj o Β=>ζ j o (Array.getElem?_eq_some_iff.1 Β).1 Β,h.2.2⟩
 | succ d Α=>
  intro i td tb as9 ρs τs hi Υ xC ζ h;rw[List.range'_succ] at h;obtain⟨o,a,r',fb,Kp,pI,Β,A7,cv,h⟩:=eφ (m:=m) (k:=k) (Z:=Z) (E:=E) Ν h;let ig:Nat->θ:=λj=>if j=i then a else as9 j
  let sN:Nat->Row:=λj=>if j=i+1 then r' else ρs j
  let sO:Nat->ac:=λj=>if j=i+1 then fb else τs j
  have q0:∀j,j<=i->cI ops env0 as9 (λ_=>true) j=cI ops env0 ig (λ_=>true) j:=λj ζ=>IJ j λx δ=>by simp only[ig];rw[if_neg J]
  have A8:cI ops env0 ig (λ_=>true) (i+1)=b7 o (cI ops env0 as9 (λ_=>true) i) a:=by
   simp only[cI,if_true,Β];rw[<-q0 i (Nat.le_refl i)];simp only[ig,if_true]
  have ym:∀(t:List Bool) (x:Bool),t.length=i->(t++[x]).getD i false=x:=λt x h=>by rw[List.getD_eq_getElem?_getD,gA J,h];simp
  have Cc:∀(t:List Bool) (x:Bool) (j:Nat),t.length=i->j<i->(t++[x]).getD j false=t.getD j false:=λt x j h ζ=>by rw[List.getD_eq_getElem?_getD,dM J,<-List.getD_eq_getElem?_getD]
  have:=Α (i+1) (td++[Kp]) (tb++[pI]) ig sN sO J (by simp[Υ]) (by simp[xC]) (λj bZ aN dg=>?_) ?_
  ·obtain⟨t1,t2,bb,r2,s2,aa,ai,aZ,cn,gr,jm⟩:=this;exact⟨t1,t2,bb,r2,s2,aa,ai,aZ.trans (by simp only[sN];rw[if_neg J]),cn.trans (by simp only[sO];rw[if_neg J]),gr,jm⟩
  ·by_cases e:j=i
   ·subst e;rw[Β] at dg;cases dg;rw[<-q0 j (Nat.le_refl j),ym td Kp Υ,ym tb pI xC];simp only[ig,sN,sO,if_true];rw[if_neg J,if_neg J];exact⟨A7,cv⟩
   ·have:=ζ j bZ J dg;rw[<-q0 j J,Cc td Kp j Υ J,Cc tb pI j xC J];simp only[ig,sN,sO];rw[if_neg J,if_neg J,if_neg J,if_neg J,if_neg J];exact this
  ·rw[A8];simp only[sN,sO,if_true];exact h
theorem W.Kq (Ν:bU P T) (q1:P.follows .mixedOrders=true) {r:Row} {τ:ac} {id:Nat} (h:∀Κ:ab->ac->Prop,(∀env σ,W P m nt k env σ Z E->Κ env σ)->jx P T A nt ops (idx ops.size []) env r τ [] [] Κ):W P m nt (.code (.region id ops true)::k) env (r::τ) Z E:=by
 have ao:=h (λenv σ=>W P m nt k env σ Z E) λ_ _ h=>h;rw[idx_eq,List.range_eq_range'] at ao;obtain⟨td,tb,as9,ρs,τs,aa,ai,aZ,cn,gr,jm⟩:=eχ (m:=m) (k:=k) (Z:=Z) (E:=E) (env0:=env) Ν ops.size 0 [] [] (λ_=>.cz) (λ_=>r) (λ_=>τ) J rfl rfl (λj o ζ=>J) ao;intro Q mn x cs b S B H t δ hb ω Ψ he;refine .draw δ hb λn=>?_;have Gb:∀i:Nat,(Array.replicate ops.size false).getD i false=false:=λi=>by
  rw[Array.getD_eq_getD_getElem?,Array.getElem?_replicate];split<;>rfl
 have key:=W.eη (P:=P) (m:=m) (nt:=nt) (k:=k) (Z:=Z) (E:=E) (ops:=ops) (as9:=as9) (ρs:=ρs) (τs:=τs) (td:=td) (tb:=tb) (env0:=env) aa ai
  (λi o Β U γ=>by
   rcases(gr i o Β).1 with⟨a,_⟩|⟨_,a,_⟩|⟨_,_,a,_⟩
   ·rw[U] at a;cases a
   ·rw[γ] at a;cases a
   ·exact a)
  (λi o Β U=>by
   rcases(gr i o Β).1 with⟨_,b,a,_⟩|⟨a,_⟩|⟨a,_⟩
   ·exact⟨a,b⟩
   ·rw[U] at a;cases a
   ·rw[U] at a;cases a)
  (λi o Β U=>by
   rcases(gr i o Β).1 with⟨_,a,_⟩|⟨_,_,a,_⟩|⟨_,a,_⟩
   ·rw[U] at a;cases a
   ·exact a
   ·rw[U] at a;cases a)
  (λi o Β hw=>by
   rcases(gr i o Β).1 with⟨a,_⟩|⟨_,_,_,a,_⟩|⟨_,_,_,a,_⟩
   ·unfold writer at hw;rw[a,Β] at hw;simp[(gr i o Β).2 a] at hw
   ·exact a
   ·exact a)
  (λi o Β hw=>by
   rcases(gr i o Β).1 with⟨_,_,_,a⟩|⟨_,b,_,_,a⟩|⟨_,_,_,_,a⟩
   ·exact a
   ·refine a ?_;unfold writer at hw;rw[b,Β] at hw;simpa using hw
   ·exact a)
  (.bL jm) ops.size n (Array.replicate ops.size false) env 0 0 η (λi=>?_) (λi o Β π=>?_) (Nat.zero_le _) (Nat.zero_le _) (λj ζ _=>?_) (λj ζ _=>?_) ?_
 ·rw[aZ,cn] at key;rw[q1];simp only[Region.schedule,Bool.true_or,if_true,Region.linearise];exact key Q mn x cs b S B H t δ hb ω Ψ he
 ·have:∀n,cI ops env as9 (λi=>(Array.replicate ops.size false).getD i false) n=env:=by
   intro n
   induction n with
   | zero=>rfl
   | succ n Α=>
    simp only[cI];rw[if_neg (by rw[Gb n];simp)];exact Α
  rw[this]
 ·rw[Gb] at π;cases π
 ·rw[Gb];simp
 ·rw[Gb];simp
 ·have:=List.length_filter_le (λi=>!(Array.replicate ops.size false).getD i false) (List.range ops.size);simpa using this
theorem eψ {K K':ab->ac->Prop} (κ:∀e s,K e s->K' e s):∀(is:List Nat) (env:ab) (r:Row) (τ:ac) (td tb:List Bool),jx P T A nt ops is env r τ td tb K->jx P T A nt ops is env r τ td tb K':=by
 intro is
 induction is with
 | nil=>intro env r τ td tb h;exact⟨h.1,h.2.1,κ _ _ h.2.2⟩
 | cons i is Α=>
  intro env r τ td tb h;unfold jx gu at h ⊢;cases Β:ops[i]? with
  | none=>rw[Β] at h;exact h.elim
  | some o=>
   rw[Β] at h;simp only at h ⊢;refine⟨h.1,?_⟩
   replace h:=h.2
   cases hw:ft env ops o with
   | none=>rw[hw] at h;exact h.elim
   | some w=>
    rw[hw] at h;unfold iE at h ⊢;refine⟨λe=>Α _ _ _ _ _ (h.1 e),λe=>?_⟩
    replace h:=h.2 e
    unfold Ca at h ⊢;split
    ·rename_i f args eu Τ;rw[Τ] at h;simp only at h;rcases h with⟨a,ε,h⟩|⟨a,r',ε,h⟩
     ·exact .inl ⟨a,ε,Α _ _ _ _ _ h⟩
     ·exact .inr ⟨a,r',ε,Α _ _ _ _ _ h⟩
    ·rename_i Τ;rw[Τ] at h;exact h
    ·rename_i Τ;rw[Τ] at h;exact h
    ·rename_i U γ ο;split at h
     ·rename_i f args eu Τ;exact absurd Τ (U f args eu)
     ·rename_i y Τ;exact absurd Τ (γ y)
     ·rename_i y Τ;exact absurd Τ (ο y)
     ·unfold cB.ee at h ⊢;split at h
      ·exact Α _ _ _ _ _ h
      ·exact⟨h.1,Α _ _ _ _ _ h.2⟩
      ·exact h.elim
      ·obtain⟨a,fb,hu,ψ⟩:=h;exact⟨a,fb,hu,Α _ _ _ _ _ ψ⟩
theorem W.Gc (Ν:bU P T) (q1:P.follows .mixedOrders=true) (gS:ab) (gf:ac) {r:Row} {τ:ac} {id:Nat} (h:W P m nt k gS gf Z E) (μ:jx P T A nt ops (idx ops.size []) env r τ [] [] (λe s=>s=gf/\∀p∈gS,a' e p.1=p.2)):W P m nt (.code (.region id ops true)::k) env (r::τ) Z E:=
 W.Kq Ν q1 λΚ κ=>eψ (λe s ⟨U,γ⟩=>κ e s (U▸W.forget gS γ h)) _ _ _ _ _ _ μ
theorem W.eω (Ν:bU P T) (q1:P.follows .mixedOrders=true) (gS:ab) (gf:ac) {id:Nat} (h:W P m nt k gS gf Z E) (μ:j1 P T A nt ops (idx ops.size []) env σ [] (λe s=>s=gf/\∀p∈gS,a' e p.1=p.2)):W P m nt (.code (.region id ops true)::k) env σ Z E:=
 W.draw Ν q1 λΚ κ=>Og (λe s ⟨U,γ⟩=>κ e s (U▸W.forget gS γ h)) _ _ _ _ μ
end
end Go.TL
namespace Go.TL
open Go.Proofs
variable [bq]
attribute [congr] eν
attribute [simp] eξ eο eρ eς eτ eυ
def dU (g:FuncId) (args:am) (d:cJ) (r:θ) (eo:cJ):Prop:=af Tryz.prog g (.ak 0 1 0 0::args) [b4 d] (λa s=>dD a r/\s=[b4 eo]) (λ_ _=>False)
theorem Ra {l:am} (h:∀a∈l,aG 0 a) (ρ:List Nat):l.map (eg ρ)=l:=by
 induction l with
 | nil=>rfl
 | cons a l Α=>rw[List.map_cons,(h a η).eg,Α λx δ=>h x (by simp[δ])]
theorem dU.c {g:FuncId} {args gV:am} {d eo:cJ} {r:θ} {σ:ac} {K E:θ->ac->Prop} (h:dU g args d r eo) (id:Nat) (cb:σ[id]?=some (b4 d)) (he:b2 gV args) (ν:∀a∈gV,aG 0 a) (μ:aG 0 r) (κ:K r (σ.set id (b4 eo))):hV Tryz.prog (.fn (.func g) [] []) (.ak id 1 0 0::gV) σ K E:=by
 refine af.one (as0:=.ak 0 1 0 0::gV) (r:=r) (row':=b4 eo) (af.nG h (.cons (.refl _) he) λa s ⟨U,γ⟩=>⟨r,U,rfl,γ⟩) id cb (qp d) (qp eo) ?_ (μ.jN 1) ?_ ?_
 ·intro a hm;rcases List.mem_cons.1 hm with rfl|hm
  ·exact Nat.zero_lt_one
  ·exact(ν a hm).jN 1
 ·rw[List.map_cons,Ra ν];rfl
 ·rw[μ.eg];exact κ
theorem dU.e {g:FuncId} {args gV:am} {d eo:cJ} {r:θ} {gU:θ->Prop} {nY:θ->Row->Prop} (h:dU g args d r eo) (he:b2 gV args) (ν:∀a∈gV,aG 0 a) (μ:aG 0 r) (κ:nY r (b4 eo)):B9 Tryz.prog (.fn (.func g) [] []) (.ak 0 1 0 0::gV) (b4 d) gU nY:=
 eπ (λτ=>h.c 0 rfl he ν μ ⟨rfl,rfl⟩) κ
theorem dU.g {g:FuncId} {args:am} {d eo:cJ} {r:θ} {σ:ac} {K E:θ->ac->Prop} (h:dU g args d r eo) (κ:K r ((b4 d::σ).set 0 (b4 eo))) (ν:∀a∈args,aG 0 a:=by simp) (μ:aG 0 r:=by simp):hV Tryz.prog (.fn (.func g) [] []) (.ak 0 1 0 0::args) (b4 d::σ) K E:=h.c 0 rfl (b2.refl _) ν μ κ
theorem dU.h {g:FuncId} {args:am} {d eo:cJ} {r:θ} {gU:θ->Prop} {nY:θ->Row->Prop} (h:dU g args d r eo) (κ:nY r (b4 eo)) (ν:∀a∈args,aG 0 a:=by simp) (μ:aG 0 r:=by simp):B9 Tryz.prog (.fn (.func g) [] []) (.ak 0 1 0 0::args) (b4 d) gU nY:=h.e (b2.refl _) ν μ κ
theorem zt {p q:Prop} (k:q) (h:q->p:=by intro k;simp;(repeat (rw[m8];simp));(try rw[m7]);exact k):p:=h k
@[simp] theorem jy (d:cJ) (n:Int):(d.after n).bg.length<=d.bg.length:=by
 unfold cJ.after;split
 ·exact Nat.le_refl _
 ·simp[cJ.next]
theorem qq (d:cJ) (hd:d.bg.length<2 ^ 63) (n:Int):dU 24 [I n] d (I (hN d n)) (d.after n):=(Kn d hd n).mono (λa s ⟨U,γ⟩=>⟨.of U,γ⟩) (λ_ _ h=>h)
theorem zu (d:cJ) (hd:d.bg.length<2 ^ 63) (a b:Int):dU 38 [I a,I b] d (I (oI d a b)) (d.after (IntKind.i64.wrap (b-a))):=(eβ d hd a b).mono (λa s ⟨U,γ⟩=>⟨.of U,γ⟩) (λ_ _ h=>h)
theorem Kr (d:cJ) (hd:d.bg.length<2 ^ 63) (l:List Int) (ao:0<l.length) (π:l.length<1000000):dU 61 [bD I 1 l] d (I (l.getD (ry d l) 0)) (d.after ((l.length:Int)-1)):=(eε d hd l ao π).mono (λa s ⟨U,γ⟩=>⟨.of U,γ⟩) (λ_ _ h=>h)
def xI (d:cJ) (n:Int):Bool:=decide (hN d (n-1)=n.tdiv 2)
theorem Ks (d:cJ) (hd:d.bg.length<2 ^ 63) (n:Int) (U:1<=n) (γ:n<1000):dU 156 [I n] d (ba (xI d n)) (d.after (n-1)):=by
 have hw:IntKind.i64.wrap (n-1)=n-1:=IntWalk.i64_in _ J;unfold dU;refine af.body Φ Tryz.func156 rfl rfl Tryz.ntmps156 rfl rfl η ?_;refine Η ?_;refine g9 hw λΚ κ=>?_;refine dU.g (qq d hd (n-1)) (gh hw ?_);apply κ;have Υ:IntKind.i64.wrap (n.tdiv 2)=n.tdiv 2:=by
  rw[Int.tdiv_eq_ediv_of_nonneg J];exact IntWalk.i64_in _ J
 rw[Υ];exact W.ret ⟨_,rfl,.refl _,rfl⟩
def qs (l:List Int) (k:Nat) (x:Int):List Int:=l.take k++x::l.drop k
def h1 (d:cJ):Nat->List Int×cJ
 | 0=>([],d)
 | i+1=>(qs (h1 d i).1 (hN (h1 d i).2 i).toNat i,(h1 d i).2.after i)
theorem Kt (d:cJ) (n:Nat):(h1 d n).2.bg.length<=d.bg.length:=by
 induction n with
 | zero=>exact Nat.le_refl _
 | succ n Α=>exact Nat.le_trans (jy _ _) Α
theorem Ku {l:List Int} {k:Nat} {x:Int}:(qs l k x).length=l.length+1:=by
 unfold qs;simp;omega
theorem Kv (d:cJ) (n:Nat):(h1 d n).1.length=n:=by
 induction n with
 | zero=>rfl
 | succ n Α=>show(qs _ _ _).length=_;rw[Ku,Α]
def ki (l:List Int) (k:Nat):List Int:=(l++[0]).take (k+1)++l.drop k
theorem eΑ (l:List Int):ki l l.length=l++[0]:=by unfold ki;rw[List.take_of_length_le η];simp
theorem Rb {l:List Int} {k:Nat} (h:k<=l.length):(ki l k).length=l.length+1:=by
 unfold ki;simp;omega
theorem eΒ {l:List Int} {k:Nat} (h:k<l.length):(ki l (k+1))[k]?=some l[k]:=by
 unfold ki;rw[dM (by simp;omega),List.getElem?_take_of_lt J,dM h,a6 h]
theorem eΓ {l:List Int} {k:Nat} (h:k<l.length):(ki l (k+1)).set (k+1) l[k]=ki l k:=by
 unfold ki;have Ζ:((l++[0]).take (k+1+1))=(l++[0]).take (k+1)++[(l++[0])[k+1]'(by simp;omega)]:=List.take_succ_eq_append_getElem (by simp;omega);have Ε:l.drop k=l[k]::l.drop (k+1):=List.drop_eq_getElem_cons h;rw[Ζ,Ε,List.append_assoc,List.set_append_right _ _ (by simp;omega)];congr 1;have:k+1-((l++[0]).take (k+1)).length=0:=by simp;omega
 rw[this];rfl
theorem eΔ {l:List Int} {k:Nat} {x:Int} (h:k<=l.length):(ki l k).set k x=qs l k x:=by
 unfold ki qs;have Ζ:((l++[0]).take (k+1))=l.take k++[(l++[0])[k]'(by simp;omega)]:=by
  rw[List.take_succ_eq_append_getElem (by simp;omega),List.take_append_of_le_length h]
 rw[Ζ,List.append_assoc,List.set_append_right _ _ (by rw[List.length_take];omega)];have:k-(l.take k).length=0:=by rw[List.length_take];omega
 rw[this];rfl
theorem Rc (d:cJ) (hd:d.bg.length<2 ^ 63) (n:Nat) (Θ:n<1000):dU 63 [I n] d (bD I 1 (h1 d n).1) (h1 d n).2:=by
 unfold dU;refine af.body Φ Tryz.func63 rfl rfl Tryz.ntmps63 rfl rfl η ?_;refine Η ?_;refine W.iter (λi:Nat=>i<=n) (λi=>[(0,.ak 0 1 0 0),(1,I n),(5,c9 1 ((h1 d i).1.map I)),(6,I i)]) (λi=>b4 (h1 d i).2::bF 3 1 ((h1 d i).1.map I)) (λi=>n-i) 0 (Nat.zero_le _) rfl (by simp[c9,h1]) (λi hi Α=>?_);refine Η ?_;refine W.ey rfl (λε=>?_) (λε=>?_)
 ·have ε:i<n:=by simpa using ε
  have dI:h1 d (i+1)=(qs (h1 d i).1 (hN (h1 d i).2 i).toNat i,(h1 d i).2.after i):=rfl;obtain⟨L,ad⟩:=aF ((h1 d i).1);obtain⟨D,eH⟩:=aF ((h1 d i).2);have kM:L.length=i:=by rw[ad];exact Kv d i
  have nZ:D.bg.length<2 ^ 63:=by rw[eH];exact Nat.lt_of_le_of_lt (Kt d i) hd
  rw[<-ad,<-eH] at dI;rw[<-ad,<-eH];obtain⟨t0,t1⟩:=pA D i J J;obtain⟨e1,kj⟩:∃k:Nat,hN D i=k:=⟨(hN D i).toNat,J⟩;rw[kj] at dI t1;have eΕ:e1<=i:=J;refine bc λΚ κ=>?_;refine dU.g (qq D nZ i) (bp ?_);rw[kj];apply κ
  repeat apply ae
  refine W.gX (A:=[19]) Φ [(0,.ak 0 1 0 0),(1,I n),(5,.ms 1 (i+1) 0 (i+1)),(6,I i),(7,I e1)] [b4 (D.after i),.cells 3 1 ((ki L i).map I)] ?_ (by
    have Ν:(ki L i).map I=L.map I++[I 0]:=by rw[<-kM,eΑ];simp
    rw[Ν];by_cases Ψ:L=[]
    ·subst Ψ;have lS:i=0:=by simpa using kM.symm
     subst lS;(try simp);(repeat (rw[ah];simp[kL,show c9 1 []=.sl true 0 [] from rfl]));(try simp[kL,show c9 1 []=.sl true 0 [] from rfl])
    ·have gI:L.map I≠[]:=by simpa using Ψ
     (try simp);(repeat (rw[ah];simp[hs gI,eL gI,kM]));(try simp[hs gI,eL gI,kM]);omega)
  refine Η ?_;refine W.iter (λk:Nat=>e1<=k/\k<=i) (λk=>[(0,.ak 0 1 0 0),(1,I n),(5,.ms 1 (i+1) 0 (i+1)),(6,I i),(7,I e1),(8,I k)]) (λk=>[b4 (D.after i),.cells 3 1 ((ki L k).map I)]) (λk=>k) i ⟨eΕ,Nat.le_refl _⟩ rfl η (λk ψ s8=>?_);refine Η ?_;refine W.ey rfl (λa2=>?_) (λa2=>?_)
  ·have oY:e1<k:=by simpa using a2
   obtain⟨j,Re⟩:∃j,k=j+1:=⟨k-1,J⟩;have iZ:j<L.length:=J;have hw:IntKind.i64.wrap ((k:Int)-1)=j:=by rw[IntWalk.i64_in _ J];omega
   have j6:(ki L k).length=i+1:=by rw[Rb J,kM]
   obtain⟨y,Μ⟩:∃y,(ki L k)[k]?=some y:=⟨_,a6 J⟩;obtain⟨R,aM⟩:=aF ((ki L k).map I);have rz:R.length=i+1:=by rw[aM,List.length_map,j6]
   have n0:R[j]?=some (I L[j]):=by rw[aM,List.getElem?_map,Re,eΒ iZ];rfl
   have xJ:R[k]?=some (I y):=by rw[aM,List.getElem?_map,Μ];rfl
   have Kw:R.set k (I L[j])=(ki L j).map I:=by rw[aM,<-eΓ iZ,List.map_set,Re]
   have eΖ:∀h,R[j]'h=I L[j]:=λh=>by rw[a6 h] at n0;exact Option.some.inj n0
   have Kx:∀h,R[k]'h=I y:=λh=>by rw[a6 h] at xJ;exact Option.some.inj xJ
   refine W.to (σ':=[b4 (D.after i),.cells 3 1 R]) (env':=[(0,.ak 0 1 0 0),(1,I n),(5,.ms 1 (i+1) 0 (i+1)),(6,I i),(7,I e1),(8,I k)]) ?_ (by rw[aM]) η;refine g9 (ς hw (ς rz (ς n0 (ς xJ (ς eΖ Kx))))) λΚ κ=>?_;refine⟨J,J,?_⟩;apply κ;refine aE hw ?_;refine W.to (s8 j ⟨J,J⟩ J) ?_ ?_
   ·rw[Kw]
   ·simp
  ·have oY:k=e1:=by simp at a2;omega
   subst oY;refine W.exit rfl ?_;have j6:(ki L k).length=i+1:=by rw[Rb J,kM]
   obtain⟨y,Μ⟩:∃y,(ki L k)[k]?=some y:=⟨_,a6 J⟩;obtain⟨R,aM⟩:=aF ((ki L k).map I);have rz:R.length=i+1:=by rw[aM,List.length_map,j6]
   have xJ:R[k]?=some (I y):=by rw[aM,List.getElem?_map,Μ];rfl
   have Kw:R.set k (I i)=(qs L k i).map I:=by rw[aM,<-eΔ J,List.map_set]
   have Kx:∀h,R[k]'h=I y:=λh=>by rw[a6 h] at xJ;exact Option.some.inj xJ
   refine W.to (σ':=[b4 (D.after i),.cells 3 1 R]) (env':=[(0,.ak 0 1 0 0),(1,I n),(5,.ms 1 (i+1) 0 (i+1)),(6,I i),(7,I k)]) ?_ (by rw[aM]) η;refine g9 (ς rz (ς xJ Kx)) λΚ κ=>?_;refine⟨J,?_⟩;apply κ;have hw:=eX ε (show n<2 ^ 62 by omega);refine aE hw ?_;have gI:(qs L k i).map I≠[]:=λh=>by have:=congrArg List.length h;rw[List.length_map,Ku] at this;simp at this
   refine W.to (Α (i+1) ε J) ?_ ?_
   ·rw[dI,Kw,eL (by simpa using gI)];rfl
   ·rw[dI];simp only[Int.toNat_natCast];rw[hs gI];simp[hw,Ku,kM]
 ·have ε:i=n:=by simp at ε;omega
  subst ε;refine W.exit rfl ?_;refine Η ?_;refine W.cut 1 η [(4,hg 1 ((h1 d i).1.map I))] η (λid r cb μ=>?_) ?_ ?_
  ·have:id=0:=J
   subst this;simp at μ;subst μ;exact λe he a ν=>by simp[θ.cells] at he;subst he;simp[θ.cells] at ν;rcases ν with rfl|rfl<;>simp[g7,θ.cells]
  ·intro p ω;simp at ω;subst ω;show eK 1 _ (a' _ 4) _;simp;refine Fb (t:=3) (Nat.le_refl _) (λπ=>by rw[eL π];rfl) (λe he a ν=>?_);obtain⟨x,_,rfl⟩:=List.mem_map.1 he;simp[θ.cells] at ν;subst ν;exact .z _
  ·exact W.ret ⟨_,rfl,.acc,rfl⟩
theorem vL (d:cJ) (h:Nat):fC h (b4 d):=λe he a ν=>by
 simp[θ.cells] at he;subst he;simp[θ.cells] at ν;rcases ν with rfl|rfl<;>simp[g7,θ.cells]
section
variable {P:Program} {m nt:Nat} {k:List Item} {env:ab} {Z:be} {E:aq}
theorem W.eΗ {d:cJ} {t kk:Nat} {l:am} {x:Nat} (hm:m<=1) (hb:∀e∈l,∀a∈e.cells,aG 0 a) (env':ab) (hd:a' env x=c9 1 l) (cO:∀p∈env',a' env p.1=p.2/\aG 1 p.2) (hW:W P m nt k ((x,hg kk l)::env') [b4 d] Z E):W P m nt k env (b4 d::bF t kk l) Z E:=
 W.cut 1 hm ((x,hg kk l)::env') η (λid r cb μ=>by
  have:id=0:=J;subst this;simp at μ;subst μ;exact vL d 1) (λp ω=>by
  rcases List.mem_cons.1 ω with rfl|ω
  ·show eK 1 _ (a' env x) _;rw[hd];exact Fb (t:=t) (Nat.le_refl _) (λπ=>by rw[eL π];rfl) (λe he a ν=>(hb e he a ν).mono (Nat.zero_le _))
  ·rw[(cO p ω).1];exact .low (cO p ω).2) (by simpa using hW)
end
theorem eΘ {i n:Nat} (h:i<n) (Θ:n<1000):IntKind.i64.wrap ((i:Int)+1)=((i+1:Nat):Int):=by
 rw[IntWalk.i64_in _ J];omega
def jc (d:cJ):Nat->List Int×cJ
 | 0=>([],d)
 | i+1=>((jc d i).1++(if xI (jc d i).2 2 then [(i:Int)] else []),(jc d i).2.after 1)
theorem Rf (d:cJ) (n:Nat):(jc d n).2.bg.length<=d.bg.length:=by
 induction n with
 | zero=>exact Nat.le_refl _
 | succ n Α=>exact Nat.le_trans (jy _ _) Α
theorem Rg (d:cJ) (n:Nat):(jc d n).1.length<=n:=by
 induction n with
 | zero=>exact Nat.le_refl _
 | succ n Α=>
  show((jc d n).1++_).length<=_;rw[List.length_append];split<;>simp<;>omega
theorem eΙ (d:cJ) (hd:d.bg.length<2 ^ 63):dU 156 [I 2] d (ba (xI d 2)) (d.after 1):=Ks d hd 2 br br
theorem eΚ (d:cJ) (hd:d.bg.length<2 ^ 63):dU 129 [] d (bD I 1 (jc d 3).1) (jc d 3).2:=by
 unfold dU;obtain⟨n,Θ⟩:=aF 3;rw[<-Θ];refine af.body Φ Tryz.func129 rfl rfl Tryz.ntmps129 rfl rfl η ?_;refine Η ?_;refine W.iter (λi:Nat=>i<=n) (λi=>[(0,.ak 0 1 0 0),(3,c9 1 ((jc d i).1.map I)),(4,I i)]) (λi=>b4 (jc d i).2::bF 3 1 ((jc d i).1.map I)) (λi=>n-i) 0 (Nat.zero_le _) rfl (by simp[c9,jc]) (λi hi Α=>?_);refine Η ?_;refine W.ey rfl (λε=>?_) (λε=>?_)
 ·have ε:i<n:=by simp at ε;omega
  have dI:jc d (i+1)=((jc d i).1++(if xI (jc d i).2 2 then [(i:Int)] else []),(jc d i).2.after 1):=rfl
  have kM:=Rg d i;obtain⟨L,ad⟩:=aF ((jc d i).1);obtain⟨D,eH⟩:=aF ((jc d i).2);have nZ:D.bg.length<2 ^ 63:=by rw[eH];exact Nat.lt_of_le_of_lt (Rf d i) hd
  rw[<-ad,<-eH] at dI;rw[<-ad] at kM;rw[<-ad,<-eH];have hw:=eΘ ε J;refine bc λΚ κ=>?_;refine dU.g (eΙ D nZ) (bp ?_);apply κ;cases hb:xI D 2
  ·refine ay rfl ?_;refine aE hw ?_;refine W.to (Α (i+1) ε J) ?_ ?_
   ·rw[dI,hb];simp
   ·rw[dI,hb];simp[hw]
  ·refine aC rfl ?_
   repeat apply ae
   refine W.gX (A:=[14]) Φ [(0,.ak 0 1 0 0),(3,c9 1 ((L++[(i:Int)]).map I)),(4,I i)] (b4 (D.after 1)::bF 3 1 ((L++[(i:Int)]).map I)) ?_ (by
    rw[List.map_append,List.map_cons,List.map_nil,sr,hs (l:=L.map I++[I i]) η];by_cases Ψ:L=[]
    ·subst Ψ;(try simp);(repeat (rw[ah];simp[kL,show c9 1 []=.sl true 0 [] from rfl]));(try simp[kL,show c9 1 []=.sl true 0 [] from rfl])
    ·have gI:L.map I≠[]:=by simpa using Ψ
     (try simp);(repeat (rw[ah];simp[hs gI,eL gI]));(try simp[hs gI,eL gI]);omega)
   refine aE hw ?_;refine W.to (Α (i+1) ε J) ?_ ?_
   ·rw[dI,hb];simp
   ·rw[dI,hb];simp[hw]
 ·have ε:i=n:=by simp at ε;omega
  subst ε;refine W.exit rfl ?_;refine Η ?_;refine W.eΗ (x:=2) η (λe he a ν=>?_) [] η η ?_
  ·obtain⟨x,_,rfl⟩:=List.mem_map.1 he;simp[θ.cells] at ν;subst ν;exact .z _
  ·exact W.ret ⟨_,rfl,.acc,rfl⟩
end Go.TL
namespace Go.TL
open Go.Conc Go.Proofs
theorem Ky:@Seq py calm:=@Seq.mk py calm rfl (λ_ h=>h.rel) (λ_ h=>h.aR)
theorem eΜ (w:World):Calm (a7.start w):=⟨rfl,rfl,rfl,λ_=>trivial⟩
def rA (w:World):aO:=λb o=>((Γ.mE w).aS b o).map (·.1)
theorem eΝ (w:World):Holds (rA w) [] [] (Γ.mE w):=
 ⟨λb o v h=>by
  unfold rA at h;cases ε:(Γ.mE w).aS b o with
  | none=>rw[ε] at h;cases h
  | some x=>rw[ε] at h;cases h;exact⟨x.2,rfl⟩,rfl,λid r bo h=>by simp at h,λi j eF cp b gO gP _ h=>by simp at h,λid r b N h=>by simp at h⟩
theorem eΞ {P:Program} {f:FuncId} {fn:Func} {body:Code} {d:Nat} (bR:P.funcs[f]?=some fn) (oq:fn.body=some body) (fs:fn.results=#[.tmp d]) (bd:P.inits.idxOf? f=none) {w:World} {l:am} {args:Array Value} (μ:gg (rA w) [] [] l args) (Θ:l.length<=fn.ntmps)
  (hW:@W py P 0 fn.ntmps [.code body] (entry 0 l) [] (λj env _=>(∃k,j=.code .ret::k)/\a' env d=ba true) (λ_ _ _=>False)):Comes P (λv=>v=.bool true) w (solo (Go.Conc.G (Frame.enter P f args .normal) []) w) #[]:=by
 letI:bq:=py;refine Goes.comes ?_;show cG P _ true (a7.start w) (Frame.enter P f args .normal) [] (Γ.mE w);rw[q5 bR oq];refine hW (λv=>v=.bool true) true calm [] (Frame.enter P f args .normal) (rA w) [] (Γ.mE w) _ Ky rfl (gd.enter (eΝ w) μ (Nat.le_refl _) Θ) (λj env' σ' aJ B' H' t' al Ψ ν ω π=>?_) (λa env' σ' aJ B' H' t' al v he=>he.elim) (a7.start w) (eΜ w);obtain⟨⟨k,ζ⟩,hd⟩:=Ψ;have e:al=j:=π;subst e;subst ζ;refine aV.ret Ky rfl rfl (aV.done (v:=.bool true) Ky (λy h=>h.shut) (λy h=>h.deaf) rfl rfl rfl bR bd ?_ rfl);have hv:t'.getD d undef=.bool true:=by
  have:=ω.cH d;rw[hd] at this;generalize t'.getD d undef=u at this;cases this;rfl
 show results fn t'=_;unfold results;rw[fs];rw[Array.getD_eq_getD_getElem?] at hv;simp[hv]
end Go.TL
namespace Go.TL
open Go.Conc Go.ConcM Go.Proofs
open Go.ChangeShapes Go.WideShapes Go.ChangeAt Go.RowKit
theorem eΟ:ownKnob Tryz.prog.godebug=none:=by kernel_rfl
theorem fV.below {W w:World} (h:fV (λ_ _=>False) (λ_=>False) W w):Below W.heap.size W {w with os:=W.os}:=by
 refine⟨rfl,h.tape,h.output,h.size,λk ψ=>?_⟩;show w.heap[k]?=W.heap[k]?;have e:=fw ψ;cases ε:Obj.sS W.heap[k] with
 | false=>rw[e];exact h.n5 k _ e ε id
 | true=>
  cases δ:W.heap[k] with
  | cells c t ep=>
   rw[δ] at e;obtain⟨c',U,γ,ο⟩:=h.cells k c t ep e;have:c'=c:=by
    apply Array.ext' ;apply List.ext_getElem?;intro o;have:=ο o id;simpa using this
   rw[e,U,this]
  | _=>rw[δ] at ε;simp[Obj.sS] at ε
theorem eΡ:laidOutB Tryz.prog=true:=by kernel_rfl
theorem eΤ:Tryz.prog.cellsOf 3=1:=by kernel_rfl
theorem eΥ {W:World} {b o:Nat} {v:Value} (h:W.cell? ⟨b,o,none⟩=some v):rA W b o=some v:=by
 unfold World.cell? at h;unfold rA Γ.mE;simp only at h ⊢;split at h
 ·rename_i c t ep ε;rw[ε];simp at h ⊢;exact h
 ·cases h
theorem eΦ {W:World} {a:Addr} {len cap:Nat} {gG:List Int} (π:len<=cap) (Ψ:len<=gG.length) (ε:∀i,i<gG.length->W.cell? (a.add i)=some (.int .i64 (gG.getD i 0))) :
  aA (rA W) [] [] (bD I 1 (gG.take len)) (.slice (some a) len cap):=by
 by_cases ao:len=0
 ·subst ao;exact .iT _ _ η
 ·have ξ:a.spot=none:=by
   have:=ε 0 J;unfold World.cell? Addr.add at this;rw[if_pos rfl] at this;cases ca:a.spot with
   | none=>rfl
   | some x=>
    rw[ca] at this;simp at this;split at this<;>simp at this
  obtain⟨b,o,sp⟩:=a;simp only at ξ;subst ξ;have hlen:(gG.take len).length=len:=by rw[List.length_take];omega
  have one:∀(i:Nat) (e:θ),((gG.take len).map I)[i]?=some e->i<len/\e=I (gG.getD i 0):=λi e hi=>by
   have hA:i<len:=by have:=(b0.1 hi).1;rw[List.length_map,hlen] at this;exact this
   rw[List.getElem?_map,List.getElem?_take_of_lt hA,a6 J] at hi;refine⟨hA,?_⟩;rw[List.getD_eq_getElem?_getD,a6 J];simpa using hi.symm
  have:=aA.sl (S:=rA W) (B:=[]) (σ:=[]) (ex:=false) (k:=1) (l:=(gG.take len).map I) b o cap (λi _=>.int .i64 (gG.getD i 0)) η (by rw[List.length_map,hlen];exact π)
   (λi e hi=>by rw[(one i e hi).2];rfl) (λi e hi j c ζ=>by
    obtain⟨U,rfl⟩:=one i e hi
    match j with
    | 0=>
     refine eΥ ?_;have:=ε i J;unfold Addr.add at this;rw[Nat.mul_one,Nat.add_zero];split at this
     ·rename_i cu;subst cu;exact this
     ·exact this
    | j+1=>simp[θ.cells] at ζ) (λi e hi j c ζ=>by
    obtain⟨U,rfl⟩:=one i e hi
    match j with
    | 0=>simp[θ.cells] at ζ;subst ζ;exact .z _
    | j+1=>simp[θ.cells] at ζ)
  rw[List.length_map,hlen] at this;exact this
end Go.TL
namespace Go.TL
open Go.Proofs
variable [bq]
theorem eΧ {c:Prop} [Decidable c] {K} {a b:c5} (h:c) (ψ:c5.holds K a):c5.holds K (if c then a else b):=by rw[if_pos h];exact ψ
theorem eΨ (a b:List Int) (ν:a.length<2 ^ 62):aB Tryz.prog 120 [bD I 1 a,bD I 1 b] (ba (decide (a=b))):=by
 refine af.body Φ Tryz.func120 rfl rfl Tryz.ntmps120 rfl rfl η ?_;refine Η ?_;by_cases π:a.length=b.length
 case neg=>
  refine aC (by simp;omega) ?_;refine Η ?_;refine W.rt ?_;exact .of (by simp[show ¬a=b from λh=>π (by rw[h])])
 refine ay (by simp;omega) ?_;refine Η ?_;refine W.iter (λi:Nat=>i<=a.length/\∀j,j<i->a[j]?=b[j]?) (λi=>[(0,bD I 1 a),(1,bD I 1 b),(12,I a.length),(13,I i)]) (λ_=>[]) (λi=>a.length-i) 0 ⟨Nat.zero_le _,λj ζ=>J⟩ rfl η (λi hi Α=>?_);obtain⟨U,γ⟩:=hi;refine Η ?_;refine W.ey rfl (λε=>?_) (λε=>?_)
 ·have ε:i<a.length:=by simpa using ε
  have a2:i<b.length:=J;refine Η ?_;refine dH (ς ε a2) ?_;by_cases q:a[i]=b[i]
  ·refine ay (by simp[q]) ?_;refine Η ?_;refine W.forget _ ?_ (Α (i+1) ⟨ε,λj ζ=>?_⟩ J)
   ·simp[eX ε ν]
   ·by_cases e:j=i
    ·subst e;rw[a6 ε,a6 a2,q]
    ·exact γ j J
  ·refine aC (by simp[q]) ?_;refine Η ?_;refine W.rt ?_;exact .of (by simp[show ¬a=b from λh=>q (by simp[h])])
 ·have ε:a.length<=i:=by simpa using ε
  refine W.exit rfl ?_;refine Η ?_;have:a=b:=List.ext_getElem? λj=>by
   by_cases ζ:j<i
   ·exact γ j ζ
   ·rw[List.getElem?_eq_none J,List.getElem?_eq_none J]
  refine W.rt ?_;exact .of (by simp[this])
theorem Gd {α:Type} {enc:α->θ} {f:List α} {T:am} {L:am} (ad:L=f.map enc++T) {j:Nat} {x:α} (h:f[j]?=some x):L[j]?=some (enc x)/\∀h:j<L.length,L[j]=enc x:=by
 have ζ:=(b0.1 h).1
 have e:L[j]?=some (enc x):=by rw[ad,dM (by simpa using ζ),List.getElem?_map,h];rfl
 exact⟨e,λζ=>by rw[a6 ζ] at e;exact Option.some.inj e⟩
theorem eΩ (l:List (Int×Int)) (n:Nat) (Θ:l.length=n) (ξ:n<2 ^ 40) (Ο:θ) (a9:aG 0 Ο) (Ρ:∀x y,ef Tryz.prog Ο [aL x,aL y] (ba (decide (x=y)))):af Tryz.prog 119 [.ms 0 n 0 n,Ο] [.cells 29 1 (l.map aL)]
  (λr s=>∃T:am,(∀a∈T,a=.sl true 0 []\/∃x,a=aL x)/\(eM l).length+T.length=n/\r=.ms 0 n 0 (eM l).length/\s=[.cells 29 1 ((eM l).map aL++T)]) (λ_ _=>False):=by
 refine af.body Φ Tryz.func119 rfl rfl Tryz.ntmps119 rfl rfl η ?_;by_cases γ:(n:Int)<2
 ·refine aE (ς Θ γ) ?_;refine aC rfl ?_;refine aE Θ ?_;refine W.ret ⟨_,rfl,[],?_⟩;have e:eM l=l:=by
   match l,Θ with
   | [],_=>rfl
   | [a],_=>rfl
   | a::b::l,Θ=>simp at Θ;omega
  rw[e,List.append_nil,Θ];exact⟨η,η,rfl,rfl⟩
 refine aE (ς Θ γ) ?_;refine ay rfl ?_;refine Η ?_;refine W.iter (λk:Nat=>1<=k/\k<=n/\eM (l.take k)=l.take k) (λk=>[(0,.ms 0 n 0 n),(1,Ο),(5,I k)]) (λ_=>[.cells 29 1 (l.map aL)]) (λk=>n-k) 1 ⟨Nat.le_refl _,J,by
  match l,Θ with
  | [],Θ=>rfl
  | a::l,Θ=>rfl⟩ rfl η (λk ψ Α=>?_)
 obtain⟨k1,bT,k9⟩:=ψ;refine aE Θ ?_;by_cases ε:k<n
 ·refine aC (by simp[ε]) ?_
  repeat apply ae
  obtain⟨p,ω⟩:∃p,k=p+1:=⟨k-1,J⟩;have lf:IntKind.i64.wrap ((k:Int)-1)=(p:Int):=by have:=eY (show p<2 ^ 62 by omega);rw[ω];simpa using this
  have lg:p<n:=J
  have iA:k<l.length:=J
  have ib:p<l.length:=J;obtain⟨L,ad⟩:=aF (l.map aL);have rb:L=l.map aL++[]:=by rw[ad,List.append_nil]
  have hc:L.length=n:=by rw[ad];simpa using Θ
  obtain⟨a1,bb⟩:=Gd rb (a6 iA);obtain⟨bE,c6⟩:=Gd rb (a6 ib);refine W.to (σ':=[.cells 29 1 L]) (env':=[(0,.ms 0 n 0 n),(1,Ο),(5,I k)]) ?_ (by rw[ad]) η;generalize δ:l[k]=x at a1 bb;generalize Μ:l[p]=y at bE c6;refine W.draw (A:=[]) Φ mixed λΚ κ=>gi (ς ε (ς lf (ς hc (ς lg (ς a1 (ς bb (ς bE c6))))))) ?_;refine eD (Ρ x y) ?_;simp;(repeat (rw[cY];simp));try rw[cX]
  refine en (κ _ _ ?_);have dI:eM (l.take (k+1))=eM (l.take k)++if x=y then [] else [x]:=by
   rw[E5 l J iA J];simp only[ω,Nat.add_sub_cancel] at δ ⊢;rw[δ,Μ]
  by_cases qV:x=y
  ·refine aC (by simp[qV]) ?_
   repeat apply ae
   refine W.gX (A:=[]) Φ [(0,.ms 0 n 0 n),(1,Ο),(5,I k),(6,.ms 0 n k (n-k))] [.cells 29 1 L] ?_ (by
    (try simp);(repeat (rw[ah];simp[hc,Nat.le_of_lt ε]));(try simp[hc,Nat.le_of_lt ε]))
   refine Η ?_;have cD:eM (l.take (k+1))=l.take k:=by rw[dI,if_pos qV,List.append_nil,k9]
   refine W.iter (λq:Nat×Nat×List (Int×Int)=>1<=q.2.1/\k+q.2.1<=n/\q.2.2.length=n/\q.1<k+q.2.1/\q.1=(eM (l.take (k+q.2.1))).length/\q.2.2.take q.1=eM (l.take (k+q.2.1))/\∀j,k+q.2.1-1<=j->j<n->q.2.2[j]?=l[j]?)
    (λq=>[(0,.ms 0 n 0 n),(1,Ο),(5,I q.1),(6,.ms 0 n k (n-k)),(7,I q.2.1)]) (λq=>[.cells 29 1 (q.2.2.map aL)]) (λq=>n-q.2.1) (k,1,l) ⟨Nat.le_refl _,by simp;omega,Θ,η,by simp only[cD];simp;omega,by simp only[cD],λj _ _=>rfl⟩ (by rw[ad]) η (λq Χ fL=>?_)
   obtain⟨m,bT,f⟩:=q;obtain⟨c1,c2,c3,c4,kE,nA,mL⟩:=Χ;simp only at c1 c2 c3 c4 kE nA mL;clear ad rb hc a1 bb bE c6;refine aE c3 ?_;by_cases hd:bT<n-k
   ·have tA:(bT:Int)<((n-k:Nat):Int):=J
    refine aC (by simp[hd]) ?_
    repeat apply ae
    obtain⟨nL,iN⟩:∃r,bT=r+1:=⟨bT-1,J⟩;have fK:IntKind.i64.wrap ((bT:Int)-1)=(nL:Int):=by have:=eY (show nL<2 ^ 62 by omega);rw[iN];simpa using this
    have μ:nL<n-k:=J;obtain⟨M,db⟩:=aF (f.map aL);have Rh:M=f.map aL++[]:=by rw[db,List.append_nil]
    have xl:M.length=n:=by rw[db];simpa using c3
    have hu:f[k+bT]?=some (l[k+bT]'J):=by rw[mL _ J J,a6]
    have hv:f[k+nL]?=some (l[k+nL]'J):=by rw[mL _ J J,a6]
    have de:=E5 l (p:=k+bT) J J J
    have I5:l[k+bT-1]'J=l[k+nL]'J:=by congr 1;omega
    rw[I5] at de;generalize l[k+bT]'J=u at hu de;generalize l[k+nL]'J=v at hv de;obtain⟨bI,bw⟩:=Gd Rh hu;obtain⟨v1,v2⟩:=Gd Rh hv;refine W.to (σ':=[.cells 29 1 M]) (env':=[(0,.ms 0 n 0 n),(1,Ο),(5,I m),(6,.ms 0 n k (n-k)),(7,I bT)]) ?_ (by rw[db]) η;have kY:m<n:=J;refine W.draw (A:=[]) Φ mixed λΚ κ=>?_;simp;(repeat (rw[cY];simp[hd,fK,μ,xl,bI,bw,v1,v2]));try rw[cX]
    refine eD (Ρ u v) ?_;simp;(repeat (rw[cY];simp));try rw[cX]
    refine en (κ _ _ ?_);by_cases tN:u=v
    ·refine ay (by simp[tN]) ?_;refine Η ?_;rw[if_pos tN,List.append_nil] at de;refine W.to (fL (m,bT+1,f) ⟨η,by simp;omega,c3,by simp;omega,by simp only[<-Nat.add_assoc,de];exact kE,by simp only[<-Nat.add_assoc,de];exact nA,λj U γ=>mL j (by simp at U;omega) γ⟩ (by simp;omega)) (by rw[db]) ?_;have:=eY (show bT+1<2 ^ 62 by omega);simpa using this
    ·refine aC (by simp[tN]) ?_;rw[if_neg tN] at de
     repeat apply ae
     refine W.gX (A:=[]) Φ [(0,.ms 0 n 0 n),(1,Ο),(5,I m),(6,.ms 0 n k (n-k)),(7,I bT)] [.cells 29 1 ((f.set m u).map aL)] ?_ (by
      (try simp);(repeat (rw[ah];simp[hd,xl,kY,bI,bw]));(try simp[hd,xl,kY,bI,bw]);subst db;simp)
     refine Η ?_;refine W.to (fL (m+1,bT+1,f.set m u) ⟨η,by simp;omega,by simpa using c3,by simp;omega,by simp only[<-Nat.add_assoc,de];simp;exact kE,?_,λj U γ=>?_⟩ (by simp;omega)) η ?_
     ·simp only[<-Nat.add_assoc,de];rw[<-nA,List.take_succ_eq_append_getElem (by simp;omega),List.take_set_of_le (Nat.le_refl _)];simp
     ·simp at U;rw[List.getElem?_set_ne J];exact mL j J γ
     ·have Ζ:=eY (show bT+1<2 ^ 62 by omega)
      have Ε:=eY (show m+1<2 ^ 62 by omega);simp at Ζ Ε ⊢;exact⟨Ε,Ζ⟩
   ·refine ay (by simp[hd]) ?_;refine W.exit rfl ?_;have he:k+bT=n:=J;have I6:l.take n=l:=List.take_of_length_le J;rw[he,I6] at kE nA
    repeat apply ae
    have kY:m<=n:=J;refine W.gX (A:=[]) Φ [(0,.ms 0 n 0 n),(5,I m)] [.cells 29 1 ((eM l).map aL++List.replicate (n-m) (.sl true 0 []))] ?_ (by
     (try simp);(repeat (rw[ah];simp[c3,kY]));(try simp[c3,kY]);rw[<-List.map_take,nA,List.drop_eq_nil_of_le (by simp;omega),List.append_nil];refine eΧ ⟨by simpa using c3,rfl,J,λa ν=>?_⟩ ?_
     ·obtain⟨x,_,rfl⟩:=List.mem_map.1 ν;rfl
     ·simp)
    have I7:(eM l).length+(n-m)=n:=J;refine aE (ς I7 kY) ?_;refine W.ret ⟨_,rfl,List.replicate (n-m) (.sl true 0 []),λa ν=>.inl (List.eq_of_mem_replicate ν),by simp;omega,?_,rfl⟩;rw[<-kE];rfl
  ·refine ay (by simp[qV]) ?_;refine Η ?_;refine W.to (Α (k+1) ⟨J,J,?_⟩ J) (by rw[ad]) ?_
   ·rw[dI,if_neg qV,k9,<-δ,<-List.take_succ_eq_append_getElem iA]
   ·have:=eY (show k+1<2 ^ 62 by omega);simpa using this
 ·refine ay (by simp[ε]) ?_;refine W.exit rfl ?_;refine Η ?_;refine W.ret ⟨_,rfl,[],?_⟩;have e:eM l=l:=by rw[List.take_of_length_le J] at k9;exact k9
  rw[e,List.append_nil,Θ];exact⟨η,η,rfl,rfl⟩
section
variable {P:Program} {m nt:Nat} {k:List Item} {env:ab} {σ:ac} {Z:be} {E:aq}
theorem W.bind {Ri:be} (h:W P m nt k env σ Ri E) (γ:∀j e s,Ri j e s->W P m nt j e s Z E):W P m nt k env σ Z E:=
 λQ mn x cs b S B H t δ hb ω Ψ he=>h Q mn x cs b S B H t δ hb ω
  (λj e s aJ B' H' t' al qP ν iP ψ=>by
   cases ψ;exact γ j e s qP Q mn x cs b aJ B' H' t' δ hb iP (λfα Ε s2 c8 e3 bN t2 bT mB bb=>Ψ fα Ε s2 c8 e3 bN t2 bT mB (ν.trans bb)) (λbb Ε s2 c8 e3 bN t2 bT v2 mB tg=>he bb Ε s2 c8 e3 bN t2 bT v2 mB (ν.trans tg)))
  he
theorem W.upto {a:Item} (env':ab) (σ':ac) (U:W P m nt (a::k) env σ (λj e s=>j=k/\s=σ'/\∀p∈env',a' e p.1=p.2) E) (γ:W P m nt k env' σ' Z E):W P m nt (a::k) env σ Z E:=
 .bind U λj e s ⟨ζ,ξ,he⟩=>by
  subst ζ;subst ξ;exact .forget env' he γ
theorem W.kQ {a:Item} {l:Nat} (env':ab) (σ':ac) (U:W P m nt (a::.inBlock l::k) env σ (λj e s=>j=k/\s=σ'/\∀p∈env',a' e p.1=p.2) E) (γ:W P m nt k env' σ' Z E):W P m nt (a::.inBlock l::k) env σ Z E:=
 .bind U λj e s ⟨ζ,ξ,he⟩=>by
  subst ζ;subst ξ;exact .forget env' he γ
end
section
variable {α:Type} [Inhabited α]
theorem Cd (enc:α->θ) (d:Array α) {i:Nat} (h:i<d.size):(d.toList.map enc)[i]?=some (enc d[i]!):=by
 rw[List.getElem?_map,Array.getElem?_toList,pf h];rfl
theorem eQ (enc:α->θ) {d:Array α} {n:Nat} (Θ:d.size=n) {i j:Nat} (hi:i<n) (ζ:j<n):∃(L:am) (x y:α),d.toList.map enc=L/\d[i]! = x/\d[j]! = y/\L.length=n/\(L[i]?=some (enc x)/\∀h,L[i]'h=enc x)/\(L[j]?=some (enc y)/\∀h,L[j]'h=enc y)/\(Go.Sort.swp d i j).toList.map enc=(L.set i (enc y)).set j (enc x)/\∃z,∀h,(L.set i (enc y))[j]'h=enc z:=by
 subst Θ;refine⟨_,_,_,rfl,rfl,rfl,η,⟨Cd enc d hi,λh=>?_⟩,⟨Cd enc d ζ,λh=>?_⟩,by simp[Go.Sort.swp],if i=j then d[j]! else d[j]!,λh=>?_⟩
 ·have:=Cd enc d hi;rw[a6 h] at this;exact Option.some.inj this
 ·have:=Cd enc d ζ;rw[a6 h] at this;exact Option.some.inj this
 ·rw[List.getElem_set,ite_self];split
  ·rfl
  ·have:=Cd enc d ζ;rw[a6 (by simpa using h)] at this;exact Option.some.inj this
theorem swp_size {d:Array α} {n:Nat} (Θ:d.size=n) (i j:Nat):(Go.Sort.swp d i j).size=n:=by simp[Go.Sort.swp,Θ]
theorem vM (p q:α->Bool) (Χ:∀x,q x = !p x) (d:Array α) {i j an av:Nat} (ao:0<i) (fP:i<=j+1) (dW:Go.Sort.scanUp p d j i=an) (cV:Go.Sort.scanDown q d an j=av):i<=an/\an<=j+1/\av<=j/\an<=av+1/\(an<=av->an<av):=by
 obtain⟨bI,bw,Ce,Rj⟩:=Go.Sort.scanUp_spec p d j _ i rfl;obtain⟨v1,v2,rv,v4⟩:=Go.Sort.scanDown_spec q d an j;rw[dW] at bI bw Rj;rw[cV] at v1 v2 v4;refine⟨bI,bw fP,v1,v2 (bw fP),λh=>?_⟩;rcases Nat.lt_or_ge an av with dh|dh
 ·exact dh
 ·have e:an=av:=J
  have f1:=Rj J
  have f2:=v4 h J;rw[Χ,<-e,f1] at f2;cases f2
theorem Rk (lt:α->α->Bool) {a b n:Nat}:∀(m i j:Nat) (g:Array α),j+1-i<=m->g.size=n->0<i->i<=j+1->j<b->(Go.Sort.partLoop lt a i j g).2.size=n/\(Go.Sort.partLoop lt a i j g).1<b:=by
 intro m
 induction m with
 | zero=>
  intro i j g hm Ω ao fP ζ;rw[Go.Sort.partLoop_eq];obtain⟨an,dW⟩:=bG (Go.Sort.scanUp (λx=>lt x g[a]!) g j i);obtain⟨av,cV⟩:=bG (Go.Sort.scanDown (λx=>!lt x g[a]!) g an j);obtain⟨s1,s2,lu,qA,kV⟩:=vM (λx=>lt x g[a]!) (λx=>!lt x g[a]!) (λx=>rfl) g ao fP dW cV;rw[dW,cV,if_pos (by apply Classical.byContradiction;intro h;have:=kV J;omega)];exact⟨Ω,by show av<b;omega⟩
 | succ m Α=>
  intro i j g hm Ω ao fP ζ;rw[Go.Sort.partLoop_eq];obtain⟨an,dW⟩:=bG (Go.Sort.scanUp (λx=>lt x g[a]!) g j i);obtain⟨av,cV⟩:=bG (Go.Sort.scanDown (λx=>!lt x g[a]!) g an j);obtain⟨s1,s2,lu,qA,kV⟩:=vM (λx=>lt x g[a]!) (λx=>!lt x g[a]!) (λx=>rfl) g ao fP dW cV;rw[dW,cV];by_cases ε:an > av
  ·rw[if_pos ε];exact⟨Ω,by show av<b;omega⟩
  ·rw[if_neg ε];have:=kV J;exact Α (an+1) (av-1) _ J (swp_size Ω an av) J J J
theorem Rl (lt:α->α->Bool) (hi first r:Nat) (e:Array α) {c k:Nat} (ε:c=2*r+1) (h:c<hi) (ψ:k=if(decide (c+1<hi)&&lt e[first+c]! e[first+(c+1)]!)=true then c+1 else c) :
  Go.Sort.siftDown lt hi first r e=if(!lt e[first+r]! e[first+k]!)=true then e else Go.Sort.siftDown lt hi first k (Go.Sort.swp e (first+r) (first+k)):=by
 subst ε;rw[Go.Sort.siftDown,dif_neg J];have Ζ:first+(2*r+1)+1=first+(2*r+1+1):=J
 have Ε:2*r+2=2*r+1+1:=J;by_cases b:(decide (2*r+1+1<hi)&&lt e[first+(2*r+1)]! e[first+(2*r+1+1)]!)=true
 ·rw[if_pos b] at ψ;subst ψ;rw[Ζ,Ε,if_pos b];have a5:2*r+1+1<hi:=by simp at b;exact b.1
  simp only[dif_pos a5]
 ·rw[if_neg b] at ψ;subst ψ;rw[Ζ,if_neg b]
theorem Cf {lt:α->α->Bool} {hi first n:Nat}:∀{r:Nat} {e:Array α},e.size=n->(Go.Sort.siftDown lt hi first r e).size=n:=by
 have key:∀(m r:Nat) (e:Array α),hi-r<=m->e.size=n->(Go.Sort.siftDown lt hi first r e).size=n:=by
  intro m
  induction m with
  | zero=>
   intro r e hm he;rw[Go.Sort.siftDown,dif_pos J];exact he
  | succ m Α=>
   intro r e hm he;rw[Go.Sort.siftDown];split
   ·exact he
   ·split
    ·split
     ·exact he
     ·split
      ·exact Α _ _ J (swp_size he _ _)
      ·exact he
    ·split
     ·exact he
     ·exact Α _ _ J (swp_size he _ _)
 intro r e he;exact key _ r e (Nat.le_refl _) he
theorem Kz {lt:α->α->Bool} {hi first n:Nat}:∀{k:Nat} {e:Array α},e.size=n->(Go.Sort.heapBuild lt hi first k e).size=n
 | 0,_,he=>he
 | k+1,e,he=>by
  show(Go.Sort.heapBuild lt hi first k (Go.Sort.siftDown lt hi first k e)).size=n;exact Kz (Cf he)
theorem ua (lt:α->α->Bool) (d:Array α) {a b n:Nat} (ν:a<n) (hb:b<n) (s:Nat):(Go.Sort.order2 lt d a b s).1<n/\(Go.Sort.order2 lt d a b s).2.1<n/\(Go.Sort.order2 lt d a b s).2.2<=s+1:=by
 unfold Go.Sort.order2;split
 ·exact⟨hb,ν,Nat.le_refl _⟩
 ·exact⟨ν,hb,Nat.le_succ _⟩
theorem zv (p:α->Bool) (d:Array α) {i j:Nat} (h:j<i):Go.Sort.scanDown p d i j=j:=by
 cases j with
 | zero=>rfl
 | succ j=>rw[Go.Sort.scanDown,if_neg (by simp;omega)]
end
structure Rm (α:Type) where
 a:Nat
 b:Nat
 lim:Nat
 wb:Bool
 wp:Bool
 e:Array α
def sP {α:Type} [Inhabited α] (a l m:Nat):Nat->Nat->UInt64×Array α->UInt64×Array α
 | 0,_,st=>st
 | k+1,idx,st=>sP a l m k (idx+1) (Go.Sort.breakStep a l m st idx)
theorem Rn {α:Type} [Inhabited α] {d:Array α} {a b l c:Nat} (π:l=b-a) (mz:8<=l) (ε:c=a+(l / 4)*2):Go.Sort.breakPatterns d a b=(sP a l (1 <<< Go.Sort.bitsLen l) 3 (c-1) (UInt64.ofNat l,d)).2:=by
 subst π;subst ε;unfold Go.Sort.breakPatterns;simp only[ge_iff_le,mz,if_true];rfl
abbrev kl (n:Int):θ:=.z (.int .u64 n)
def qt:Go.Sort.Hint->Int
 | .unknown=>0
 | .increasing=>1
 | .decreasing=>2
theorem Ge {α:Type} {enc:α->θ} {t k:Nat} {d:Array α} {r2:Row} (hb:∀y,∀a∈(enc y).cells,aG 0 a) (id:Nat) (r:Row) (cb:id<1) (μ:[Row.cells t k (d.toList.map enc),r2][id]?=some r):fC 1 r:=by
 obtain rfl:id=0:=J;simp at μ;subst μ;intro e he a ν;obtain⟨y,_,rfl⟩:=List.mem_map.1 he;exact aG.mono (hb y a ν) (Nat.zero_le _)
theorem fβ {l m:Nat} (h:l<2 ^ 62):IntKind.i64.wrap (Int.tdiv (l:Int) (m:Int))=((l / m:Nat):Int):=by
 rw[Int.tdiv_eq_ediv_of_nonneg J];have U:l / m<=l:=Nat.div_le_self l m;have γ:((l:Int) / (m:Int))=((l / m:Nat):Int):=rfl;rw[γ];obtain⟨q,Χ⟩:=aF (l / m);rw[<-Χ] at U ⊢;rw[IntWalk.i64_in _ J]
theorem vN {l m:Nat} (h:l<2 ^ 62):IntKind.i64.wrap ((l:Int) / (m:Int))=((l / m:Nat):Int):=by
 have:=fβ (m:=m) h;rw[Int.tdiv_eq_ediv_of_nonneg J] at this;exact this
theorem ub {x:Nat} (h:x<2 ^ 64):IntKind.u64.wrap (x:Int)=(x:Int):=by
 unfold IntKind.wrap;simp[IntKind.bits,IntKind.signed];omega
theorem KA {x y:Nat} (δ:x<2 ^ 64) (Μ:y<2 ^ 64):Av .u64 (x:Int) (y:Int)=((x^^^y:Nat):Int):=by
 have h:x^^^y<2 ^ 64:=Nat.xor_lt_two_pow δ Μ
 have e:(BitVec.ofInt 64 (x:Int)^^^BitVec.ofInt 64 (y:Int)).toNat=x^^^y:=by
  rw[BitVec.toNat_xor,BitVec.ofInt_natCast,BitVec.ofInt_natCast,BitVec.toNat_ofNat,BitVec.toNat_ofNat,Nat.mod_eq_of_lt δ,Nat.mod_eq_of_lt Μ]
 show IntKind.u64.wrap (BitVec.ofInt 64 (x:Int)^^^BitVec.ofInt 64 (y:Int)).toNat=_;rw[e];exact ub h
theorem KB (x k:Nat) (ψ:k<=64):IntKind.u64.wrap ((x:Int)*2 ^ min k IntKind.u64.bits)=((x*2 ^ k % 18446744073709551616:Nat):Int):=by
 have e:min k IntKind.u64.bits=k:=Nat.min_eq_left ψ;rw[e];have Ε:(x:Int)*2 ^ k=((x*2 ^ k:Nat):Int):=η;rw[Ε];obtain⟨y,Μ⟩:=aF (x*2 ^ k);rw[<-Μ];unfold IntKind.wrap;simp[IntKind.bits,IntKind.signed]
theorem fγ (x k:Nat) (ψ:k<=64):(x:Int).fdiv (2 ^ min k IntKind.u64.bits)=((x / 2 ^ k:Nat):Int):=by
 have e:min k IntKind.u64.bits=k:=Nat.min_eq_left ψ;rw[e,Int.fdiv_eq_ediv_of_nonneg _ (Int.le_of_lt (Int.pow_pos br))];simp
theorem Ro {x y:Nat} (δ:x<2 ^ 64) (Μ:y<2 ^ 64):eG .u64 (x:Int) (y:Int)=((x&&&y:Nat):Int):=by
 have h:x&&&y<2 ^ 64:=Nat.lt_of_le_of_lt Nat.and_le_left δ
 have e:(BitVec.ofInt 64 (x:Int)&&&BitVec.ofInt 64 (y:Int)).toNat=x&&&y:=by
  rw[BitVec.toNat_and,BitVec.ofInt_natCast,BitVec.ofInt_natCast,BitVec.toNat_ofNat,BitVec.toNat_ofNat,Nat.mod_eq_of_lt δ,Nat.mod_eq_of_lt Μ]
 show IntKind.u64.wrap (BitVec.ofInt 64 (x:Int)&&&BitVec.ofInt 64 (y:Int)).toNat=_;rw[e];exact ub h
theorem ir {i:Nat} (h:0<i) (γ:i<2 ^ 62):IntKind.i64.wrap ((i:Int)-1)=((i-1:Nat):Int):=by
 rw[IntWalk.i64_in _ J];omega
theorem hn {i:Nat} (γ:i<2 ^ 61):IntKind.i64.wrap ((i:Int)+1)=((i+1:Nat):Int):=by
 rw[IntWalk.i64_in _ J];omega
theorem vO {a b:Nat} (h:a<=b) (γ:b<2 ^ 62):IntKind.i64.wrap ((b:Int)-a)=((b-a:Nat):Int):=by
 rw[IntWalk.i64_in _ J];omega
theorem fδ (d:Array (Int×Int)) (n a b p:Nat) (Θ:d.size=n) (ξ:n<2 ^ 40) (iR:a<=p) (KC:p<b) (hb:b<=n) (Ο:θ) (cmp:Int×Int->Int×Int->Int) (a9:aG 0 Ο) (Ρ:∀x y,ef Tryz.prog Ο [aL x,aL y] (I (cmp x y))) :
  af Tryz.prog 190 [.ms 0 n 0 n,I a,I b,I p,Ο] [.cells 29 1 ((d).toList.map aL)] (λr s=>r=.bj [I (Go.Sort.partition (Ξ cmp) d a b p).1,ba (Go.Sort.partition (Ξ cmp) d a b p).2.1]/\s=[.cells 29 1 (((Go.Sort.partition (Ξ cmp) d a b p).2.2).toList.map aL)]) (λ_ _=>False):=by
 refine af.body Φ Tryz.func190 rfl rfl Tryz.ntmps190 rfl rfl η ?_;have h0:=hn (i:=a) J;have g4:=ir (i:=b) J J
 repeat apply ae
 refine l9 ?_;have aH:a<n:=J;have aI:p<n:=J;obtain⟨L,x,y,ad,δ,Μ,π,⟨U,γ⟩,⟨ο,Ι⟩,cx,eR,ax⟩:=eQ aL Θ aH aI;refine W.to (σ':=[.cells 29 1 L]) (env':=[(0,.ms 0 n 0 n),(1,I a),(2,I b),(3,I p),(4,Ο)]) ?_ (by rw[ad]) η;clear δ Μ
 repeat apply ae
 refine dH (ς π (ς U (ς γ (ς ο (ς Ι (ς ax (ς aH aI))))))) ?_;refine W.to (σ':=[.cells 29 1 ((Go.Sort.swp d a p).toList.map aL)]) (env':=[(0,.ms 0 n 0 n),(1,I a),(2,I b),(3,I p),(4,Ο)]) ?_ (by rw[cx]) η;clear aH aI U γ ο Ι ax cx π ad L x y eR;obtain⟨e,he⟩:=aF (Go.Sort.swp d a p);have cw:e.size=n:=by rw[he];exact swp_size Θ a p
 rw[<-he]
 repeat apply ae
 refine ov (ς h0 g4) ?_;refine W.to (σ':=[.cells 29 1 ((e).toList.map aL)]) (env':=[(0,.ms 0 n 0 n),(1,I a),(4,Ο),(12,I (a+1:Nat)),(13,I (b-1:Nat))]) ?_ rfl η;obtain⟨an,dW⟩:=bG (Go.Sort.scanUp (λx=>Ξ cmp x e[a]!) e (b-1) (a+1));obtain⟨av,cV⟩:=bG (Go.Sort.scanDown (λx=>!Ξ cmp x e[a]!) e an (b-1));obtain⟨s1,s2,lu,qA,kV⟩:=vM (λx=>Ξ cmp x e[a]!) (λx=>!Ξ cmp x e[a]!) (λx=>rfl) e J J dW cV;have cF:Go.Sort.partition (Ξ cmp) d a b p=if an > av then(av,true,Go.Sort.swp e av a) else((Go.Sort.partLoop (Ξ cmp) a (an+1) (av-1) (Go.Sort.swp e an av)).1,false,Go.Sort.swp (Go.Sort.partLoop (Ξ cmp) a (an+1) (av-1) (Go.Sort.swp e an av)).2 (Go.Sort.partLoop (Ξ cmp) a (an+1) (av-1) (Go.Sort.swp e an av)).1 a):=by
  unfold Go.Sort.partition;simp only[<-he,dW,cV]
 repeat apply ae
 repeat apply ae
 refine W.kQ [(0,.ms 0 n 0 n),(1,I a),(4,Ο),(12,I (an:Nat)),(13,I (b-1:Nat))] [.cells 29 1 ((e).toList.map aL)] ?_ ?_
 ·refine W.iter (λi:Nat=>(a+1)<=i/\i<=(b-1)+1/\Go.Sort.scanUp (λx=>Ξ cmp x e[a]!) e (b-1) i=an) (λi=>[(0,.ms 0 n 0 n),(1,I a),(4,Ο),(12,I (i:Nat)),(13,I (b-1:Nat))]) (λ_=>[.cells 29 1 ((e).toList.map aL)]) (λi=>(b-1)+1-i) ((a+1)) ⟨Nat.le_refl _,J,dW⟩ rfl η (λi hi Α=>?_);obtain⟨i',jd,dv⟩:=hi;by_cases ε:i<=(b-1)
  ·have aH:i<n:=J
   have aI:a<n:=J;obtain⟨L,x,y,ad,δ,Μ,π,⟨U,γ⟩,⟨ο,Ι⟩,-,-⟩:=eQ aL cw aH aI;have un:Go.Sort.scanUp (λx=>Ξ cmp x e[a]!) e (b-1) i=if(Ξ cmp x y)=true then Go.Sort.scanUp (λx=>Ξ cmp x e[a]!) e (b-1) (i+1) else i:=by rw[Go.Sort.scanUp];simp[ε,δ,Μ]
   have hw:=hn (i:=i) J;refine W.to (σ':=[.cells 29 1 L]) (env':=[(0,.ms 0 n 0 n),(1,I a),(4,Ο),(12,I (i:Nat)),(13,I (b-1:Nat))]) ?_ (by rw[ad]) η;clear δ Μ
   repeat apply ae
   refine W.draw (A:=[]) Φ mixed λΚ κ=>gi (ς ε (ς π (ς U (ς γ (ς ο (ς Ι (ς aH aI))))))) ?_;refine eD (Ρ x y) ?_;simp;(repeat (rw[cY];simp));try rw[cX]
   refine en (κ _ _ ?_);by_cases hm:cmp x y<0
   ·refine aC (by simp[hm]) ?_;refine aE hw ?_;exact W.to (Α (i+1) ⟨J,J,by rw[<-dv,un];simp[hm,Ξ]⟩ bi) (by rw[ad]) (by simp[hw])
   ·refine ay (by simp[hm]) ?_;refine W.exit rfl ?_;exact W.stop ⟨rfl,by rw[ad],by rw[<-dv,un];simp[hm,Ξ]⟩
  ·repeat apply ae
   refine dH ε ?_;refine ay rfl ?_;refine W.exit rfl ?_;have e:Go.Sort.scanUp (λx=>Ξ cmp x e[a]!) e (b-1) i=i:=by rw[Go.Sort.scanUp];simp[ε]
   exact W.stop ⟨rfl,rfl,by rw[<-dv,e];simp⟩
 repeat apply ae
 refine W.kQ [(0,.ms 0 n 0 n),(1,I a),(4,Ο),(12,I (an:Nat)),(13,I (av:Nat))] [.cells 29 1 ((e).toList.map aL)] ?_ ?_
 ·refine W.iter (λi:Nat=>i<=(b-1)/\an<=i+1/\Go.Sort.scanDown (λx=>!Ξ cmp x e[a]!) e an i=av) (λi=>[(0,.ms 0 n 0 n),(1,I a),(4,Ο),(12,I (an:Nat)),(13,I (i:Nat))]) (λ_=>[.cells 29 1 ((e).toList.map aL)]) (λi=>i+1-an) ((b-1)) ⟨Nat.le_refl _,J,cV⟩ rfl η (λi hi Α=>?_);obtain⟨i',jd,dv⟩:=hi;by_cases ε:an<=i
  ·have aH:i<n:=J
   have aI:a<n:=J;obtain⟨L,x,y,ad,δ,Μ,π,⟨U,γ⟩,⟨ο,Ι⟩,-,-⟩:=eQ aL cw aH aI;obtain⟨q,Χ⟩:∃q,i=q+1:=⟨i-1,J⟩;have un:Go.Sort.scanDown (λx=>!Ξ cmp x e[a]!) e an i=if(!Ξ cmp x y)=true then Go.Sort.scanDown (λx=>!Ξ cmp x e[a]!) e an (i-1) else i:=by subst Χ;rw[Go.Sort.scanDown];simp[ε,δ,Μ]
   have hw:=ir (i:=i) J J;refine W.to (σ':=[.cells 29 1 L]) (env':=[(0,.ms 0 n 0 n),(1,I a),(4,Ο),(12,I (an:Nat)),(13,I (i:Nat))]) ?_ (by rw[ad]) η;clear δ Μ
   repeat apply ae
   refine W.draw (A:=[]) Φ mixed λΚ κ=>gi (ς ε (ς π (ς U (ς γ (ς ο (ς Ι (ς aH aI))))))) ?_;refine eD (Ρ x y) ?_;simp;(repeat (rw[cY];simp));try rw[cX]
   refine en (κ _ _ ?_);by_cases hm:cmp x y<0
   ·refine ay (by simp[hm]) ?_;refine W.exit rfl ?_;exact W.stop ⟨rfl,by rw[ad],by rw[<-dv,un];simp[hm,Ξ]⟩
   ·refine aC (by simp[hm]) ?_;refine aE hw ?_;exact W.to (Α (i-1) ⟨J,J,by rw[<-dv,un];simp[hm,Ξ]⟩ bi) (by rw[ad]) (by simp[hw])
  ·repeat apply ae
   refine dH ε ?_;refine ay rfl ?_;refine W.exit rfl ?_;have e:Go.Sort.scanDown (λx=>!Ξ cmp x e[a]!) e an i=i:=by exact zv _ _ J
   exact W.stop ⟨rfl,rfl,by rw[<-dv,e];simp⟩
 repeat apply ae
 by_cases ε:an > av
 ·have a2:((av:Nat):Int)<(an:Nat):=J
  refine aE a2 ?_;refine aC (by simp[ε]) ?_;have aH:av<n:=J;have aI:a<n:=J;obtain⟨L,x,y,ad,δ,Μ,π,⟨U,γ⟩,⟨ο,Ι⟩,cx,eR,ax⟩:=eQ aL cw aH aI;refine W.to (σ':=[.cells 29 1 L]) (env':=[(0,.ms 0 n 0 n),(1,I a),(4,Ο),(12,I (an:Nat)),(13,I (av:Nat))]) ?_ (by rw[ad]) η;clear δ Μ
  repeat apply ae
  refine dH (ς π (ς U (ς γ (ς ο (ς Ι (ς ax (ς aH aI))))))) ?_;refine W.to (σ':=[.cells 29 1 ((Go.Sort.swp e av a).toList.map aL)]) (env':=[(0,.ms 0 n 0 n),(1,I a),(4,Ο),(12,I (an:Nat)),(13,I (av:Nat))]) ?_ (by rw[cx]) η;clear aH aI U γ ο Ι ax cx π ad L x y eR;refine Η ?_;exact W.ret ⟨_,rfl,by rw[cF,if_pos ε];rfl,by rw[cF,if_pos ε]⟩
 have a2:¬((av:Nat):Int)<(an:Nat):=J
 have wa:=kV J
 have gZ:=hn (i:=an) J
 have jQ:=ir (i:=av) J J;refine aE a2 ?_;refine ay (by simp[ε]) ?_;have aH:an<n:=J;have aI:av<n:=J;obtain⟨L,x,y,ad,δ,Μ,π,⟨U,γ⟩,⟨ο,Ι⟩,cx,eR,ax⟩:=eQ aL cw aH aI;refine W.to (σ':=[.cells 29 1 L]) (env':=[(0,.ms 0 n 0 n),(1,I a),(4,Ο),(12,I (an:Nat)),(13,I (av:Nat))]) ?_ (by rw[ad]) η;clear δ Μ
 repeat apply ae
 refine dH (ς π (ς U (ς γ (ς ο (ς Ι (ς ax (ς aH aI))))))) ?_;refine W.to (σ':=[.cells 29 1 ((Go.Sort.swp e an av).toList.map aL)]) (env':=[(0,.ms 0 n 0 n),(1,I a),(4,Ο),(12,I (an:Nat)),(13,I (av:Nat))]) ?_ (by rw[cx]) η;clear aH aI U γ ο Ι ax cx π ad L x y eR;have qG:=swp_size cw an av;rw[if_neg ε] at cF;obtain⟨g,Ω⟩:=aF (Go.Sort.swp e an av);rw[<-Ω] at cF qG;rw[<-Ω];refine aE (ς gZ jQ) ?_;refine W.to (σ':=[.cells 29 1 ((g).toList.map aL)]) (env':=[(0,.ms 0 n 0 n),(1,I a),(4,Ο),(12,I (an+1:Nat)),(13,I (av-1:Nat))]) ?_ rfl (by simp[gZ,jQ]);have fε:a<an:=J;have fζ:av<b:=J;have fη:an+1<=av-1+1:=J;clear dW cV a2 ε s1 s2 lu qA kV Ω gZ jQ;obtain⟨R,fF⟩:=bG (Go.Sort.partLoop (Ξ cmp) a (an+1) (av-1) g)
 repeat apply ae
 refine W.kQ [(0,.ms 0 n 0 n),(1,I a),(13,I R.1)] [.cells 29 1 ((R.2).toList.map aL)] ?_ ?_
 ·refine W.iter (λq:Nat×Nat×Array (Int×Int)=>q.2.2.size=n/\a<q.1/\q.1<=q.2.1+1/\q.2.1<b/\Go.Sort.partLoop (Ξ cmp) a q.1 q.2.1 q.2.2=R) (λq=>[(0,.ms 0 n 0 n),(1,I a),(4,Ο),(12,I (q.1:Nat)),(13,I (q.2.1:Nat))]) (λq=>[.cells 29 1 ((q.2.2).toList.map aL)]) (λq=>q.2.1+1-q.1) (an+1,av-1,g) ⟨qG,bi,bi,bi,fF⟩ rfl η (λq hi Α=>?_);obtain⟨i,j,f⟩:=q;obtain⟨bR,i',jd,dv,aM⟩:=hi;simp only at bR i' jd dv aM;obtain⟨an,dW⟩:=bG (Go.Sort.scanUp (λx=>Ξ cmp x f[a]!) f (j) (i));obtain⟨av,cV⟩:=bG (Go.Sort.scanDown (λx=>!Ξ cmp x f[a]!) f an (j));obtain⟨s1,s2,lu,qA,kV⟩:=vM (λx=>Ξ cmp x f[a]!) (λx=>!Ξ cmp x f[a]!) (λx=>rfl) f J J dW cV;have cF:Go.Sort.partLoop (Ξ cmp) a i j f=if an > av then(av,f) else Go.Sort.partLoop (Ξ cmp) a (an+1) (av-1) (Go.Sort.swp f an av):=by
   rw[Go.Sort.partLoop_eq];simp only[dW,cV]
  refine W.to (σ':=[.cells 29 1 ((f).toList.map aL)]) (env':=[(0,.ms 0 n 0 n),(1,I a),(4,Ο),(12,I (i:Nat)),(13,I (j:Nat))]) ?_ rfl η;refine W.block ?_
  repeat apply ae
  refine W.kQ [(0,.ms 0 n 0 n),(1,I a),(4,Ο),(12,I (an:Nat)),(13,I (j:Nat))] [.cells 29 1 ((f).toList.map aL)] ?_ ?_
  ·refine W.iter (λi:Nat=>(i)<=i/\i<=(j)+1/\Go.Sort.scanUp (λx=>Ξ cmp x f[a]!) f (j) i=an) (λi=>[(0,.ms 0 n 0 n),(1,I a),(4,Ο),(12,I (i:Nat)),(13,I (j:Nat))]) (λ_=>[.cells 29 1 ((f).toList.map aL)]) (λi=>(j)+1-i) ((i)) ⟨Nat.le_refl _,J,dW⟩ rfl η (λi hi Α=>?_);obtain⟨i',jd,dv⟩:=hi;by_cases ε:i<=(j)
   ·have aH:i<n:=J
    have aI:a<n:=J;obtain⟨L,x,y,ad,δ,Μ,π,⟨U,γ⟩,⟨ο,Ι⟩,-,-⟩:=eQ aL bR aH aI;have un:Go.Sort.scanUp (λx=>Ξ cmp x f[a]!) f (j) i=if(Ξ cmp x y)=true then Go.Sort.scanUp (λx=>Ξ cmp x f[a]!) f (j) (i+1) else i:=by rw[Go.Sort.scanUp];simp[ε,δ,Μ]
    have hw:=hn (i:=i) J;refine W.to (σ':=[.cells 29 1 L]) (env':=[(0,.ms 0 n 0 n),(1,I a),(4,Ο),(12,I (i:Nat)),(13,I (j:Nat))]) ?_ (by rw[ad]) η;clear δ Μ
    repeat apply ae
    refine W.draw (A:=[]) Φ mixed λΚ κ=>gi (ς ε (ς π (ς U (ς γ (ς ο (ς Ι (ς aH aI))))))) ?_;refine eD (Ρ x y) ?_;simp;(repeat (rw[cY];simp));try rw[cX]
    refine en (κ _ _ ?_);by_cases hm:cmp x y<0
    ·refine aC (by simp[hm]) ?_;refine aE hw ?_;exact W.to (Α (i+1) ⟨J,J,by rw[<-dv,un];simp[hm,Ξ]⟩ bi) (by rw[ad]) (by simp[hw])
    ·refine ay (by simp[hm]) ?_;refine W.exit rfl ?_;exact W.stop ⟨rfl,by rw[ad],by rw[<-dv,un];simp[hm,Ξ]⟩
   ·repeat apply ae
    refine dH ε ?_;refine ay rfl ?_;refine W.exit rfl ?_;have e:Go.Sort.scanUp (λx=>Ξ cmp x f[a]!) f (j) i=i:=by rw[Go.Sort.scanUp];simp[ε]
    exact W.stop ⟨rfl,rfl,by rw[<-dv,e];simp⟩
  repeat apply ae
  refine W.kQ [(0,.ms 0 n 0 n),(1,I a),(4,Ο),(12,I (an:Nat)),(13,I (av:Nat))] [.cells 29 1 ((f).toList.map aL)] ?_ ?_
  ·refine W.iter (λi:Nat=>i<=(j)/\an<=i+1/\Go.Sort.scanDown (λx=>!Ξ cmp x f[a]!) f an i=av) (λi=>[(0,.ms 0 n 0 n),(1,I a),(4,Ο),(12,I (an:Nat)),(13,I (i:Nat))]) (λ_=>[.cells 29 1 ((f).toList.map aL)]) (λi=>i+1-an) ((j)) ⟨Nat.le_refl _,J,cV⟩ rfl η (λi hi Α=>?_);obtain⟨i',jd,dv⟩:=hi;by_cases ε:an<=i
   ·have aH:i<n:=J
    have aI:a<n:=J;obtain⟨L,x,y,ad,δ,Μ,π,⟨U,γ⟩,⟨ο,Ι⟩,-,-⟩:=eQ aL bR aH aI;obtain⟨q,Χ⟩:∃q,i=q+1:=⟨i-1,J⟩;have un:Go.Sort.scanDown (λx=>!Ξ cmp x f[a]!) f an i=if(!Ξ cmp x y)=true then Go.Sort.scanDown (λx=>!Ξ cmp x f[a]!) f an (i-1) else i:=by subst Χ;rw[Go.Sort.scanDown];simp[ε,δ,Μ]
    have hw:=ir (i:=i) J J;refine W.to (σ':=[.cells 29 1 L]) (env':=[(0,.ms 0 n 0 n),(1,I a),(4,Ο),(12,I (an:Nat)),(13,I (i:Nat))]) ?_ (by rw[ad]) η;clear δ Μ
    repeat apply ae
    refine W.draw (A:=[]) Φ mixed λΚ κ=>gi (ς ε (ς π (ς U (ς γ (ς ο (ς Ι (ς aH aI))))))) ?_;refine eD (Ρ x y) ?_;simp;(repeat (rw[cY];simp));try rw[cX]
    refine en (κ _ _ ?_);by_cases hm:cmp x y<0
    ·refine ay (by simp[hm]) ?_;refine W.exit rfl ?_;exact W.stop ⟨rfl,by rw[ad],by rw[<-dv,un];simp[hm,Ξ]⟩
    ·refine aC (by simp[hm]) ?_;refine aE hw ?_;exact W.to (Α (i-1) ⟨J,J,by rw[<-dv,un];simp[hm,Ξ]⟩ bi) (by rw[ad]) (by simp[hw])
   ·repeat apply ae
    refine dH ε ?_;refine ay rfl ?_;refine W.exit rfl ?_;have e:Go.Sort.scanDown (λx=>!Ξ cmp x f[a]!) f an i=i:=by exact zv _ _ J
    exact W.stop ⟨rfl,rfl,by rw[<-dv,e];simp⟩
  repeat apply ae
  by_cases ε:an > av
  ·have a2:((av:Nat):Int)<(an:Nat):=J
   refine aE a2 ?_;refine aC (by simp[ε]) ?_;refine W.exit rfl ?_;rw[cF,if_pos ε] at aM;exact W.stop ⟨rfl,by rw[<-aM],by rw[<-aM];simp⟩
  ·have a2:¬((av:Nat):Int)<(an:Nat):=J
   have wa:=kV J
   have gZ:=hn (i:=an) J
   have jQ:=ir (i:=av) J J;refine aE a2 ?_;refine ay (by simp[ε]) ?_;have aH:an<n:=J;have aI:av<n:=J;obtain⟨L,x,y,ad,δ,Μ,π,⟨U,γ⟩,⟨ο,Ι⟩,cx,eR,ax⟩:=eQ aL bR aH aI;refine W.to (σ':=[.cells 29 1 L]) (env':=[(0,.ms 0 n 0 n),(1,I a),(4,Ο),(12,I (an:Nat)),(13,I (av:Nat))]) ?_ (by rw[ad]) η;clear δ Μ
   repeat apply ae
   refine dH (ς π (ς U (ς γ (ς ο (ς Ι (ς ax (ς aH aI))))))) ?_;refine W.to (σ':=[.cells 29 1 ((Go.Sort.swp f an av).toList.map aL)]) (env':=[(0,.ms 0 n 0 n),(1,I a),(4,Ο),(12,I (an:Nat)),(13,I (av:Nat))]) ?_ (by rw[cx]) η;clear aH aI U γ ο Ι ax cx π ad L x y eR;refine aE (ς gZ jQ) ?_;exact W.to (Α (an+1,av-1,Go.Sort.swp f an av) ⟨swp_size bR an av,bi,bi,bi,by simp;rw[<-aM,cF,if_neg ε]⟩ bi) rfl (by simp[gZ,jQ])
 rw[fF] at cF;have Χ:=Rk (Ξ cmp) (a:=a) (b:=b) _ (an+1) (av-1) g (Nat.le_refl _) qG J J J;rw[fF] at Χ;obtain⟨zk,KD⟩:=Χ;obtain⟨j,h⟩:=R;simp only at zk KD cF;have aH:j<n:=J;have aI:a<n:=J;obtain⟨L,x,y,ad,δ,Μ,π,⟨U,γ⟩,⟨ο,Ι⟩,cx,eR,ax⟩:=eQ aL zk aH aI;refine W.to (σ':=[.cells 29 1 L]) (env':=[(0,.ms 0 n 0 n),(1,I a),(13,I (j:Nat))]) ?_ (by rw[ad]) η;clear δ Μ
 repeat apply ae
 refine dH (ς π (ς U (ς γ (ς ο (ς Ι (ς ax (ς aH aI))))))) ?_;refine W.to (σ':=[.cells 29 1 ((Go.Sort.swp h j a).toList.map aL)]) (env':=[(0,.ms 0 n 0 n),(1,I a),(13,I (j:Nat))]) ?_ (by rw[cx]) η;clear aH aI U γ ο Ι ax cx π ad L x y eR;refine Η ?_;exact W.ret ⟨_,rfl,by rw[cF];rfl,by rw[cF]⟩
theorem fθ (d:Array (Int×Int)) (n a b p:Nat) (Θ:d.size=n) (ξ:n<2 ^ 40) (iR:a<=p) (KC:p<b) (hb:b<=n) (Ο:θ) (cmp:Int×Int->Int×Int->Int) (a9:aG 0 Ο) (Ρ:∀x y,ef Tryz.prog Ο [aL x,aL y] (I (cmp x y))) :
  af Tryz.prog 189 [.ms 0 n 0 n,I a,I b,I p,Ο] [.cells 29 1 ((d).toList.map aL)] (λr s=>r=I (Go.Sort.partitionEqual (Ξ cmp) d a b p).1/\s=[.cells 29 1 (((Go.Sort.partitionEqual (Ξ cmp) d a b p).2).toList.map aL)]) (λ_ _=>False):=by
 refine af.body Φ Tryz.func189 rfl rfl Tryz.ntmps189 rfl rfl η ?_;have h0:=hn (i:=a) J;have g4:=ir (i:=b) J J
 repeat apply ae
 refine l9 ?_;have aH:a<n:=J;have aI:p<n:=J;obtain⟨L,x,y,ad,δ,Μ,π,⟨U,γ⟩,⟨ο,Ι⟩,cx,eR,ax⟩:=eQ aL Θ aH aI;refine W.to (σ':=[.cells 29 1 L]) (env':=[(0,.ms 0 n 0 n),(1,I a),(2,I b),(3,I p),(4,Ο)]) ?_ (by rw[ad]) η;clear δ Μ
 repeat apply ae
 refine dH (ς π (ς U (ς γ (ς ο (ς Ι (ς ax (ς aH aI))))))) ?_;refine W.to (σ':=[.cells 29 1 ((Go.Sort.swp d a p).toList.map aL)]) (env':=[(0,.ms 0 n 0 n),(1,I a),(2,I b),(3,I p),(4,Ο)]) ?_ (by rw[cx]) η;clear aH aI U γ ο Ι ax cx π ad L x y eR;obtain⟨e,he⟩:=aF (Go.Sort.swp d a p);have cw:e.size=n:=by rw[he];exact swp_size Θ a p
 rw[<-he]
 repeat apply ae
 refine ov (ς h0 g4) ?_;refine W.to (σ':=[.cells 29 1 ((e).toList.map aL)]) (env':=[(0,.ms 0 n 0 n),(1,I a),(4,Ο),(11,I (a+1:Nat)),(12,I (b-1:Nat))]) ?_ rfl η;obtain⟨R,fF⟩:=bG (Go.Sort.partEqLoop (Ξ cmp) a (a+1) (b-1) e)
 repeat apply ae
 refine W.kQ [(11,I R.1)] [.cells 29 1 ((R.2).toList.map aL)] ?_ ?_
 ·refine W.iter (λq:Nat×Nat×Array (Int×Int)=>q.2.2.size=n/\a<q.1/\q.1<=q.2.1+1/\q.2.1<b/\Go.Sort.partEqLoop (Ξ cmp) a q.1 q.2.1 q.2.2=R) (λq=>[(0,.ms 0 n 0 n),(1,I a),(4,Ο),(11,I (q.1:Nat)),(12,I (q.2.1:Nat))]) (λq=>[.cells 29 1 ((q.2.2).toList.map aL)]) (λq=>q.2.1+1-q.1) (a+1,b-1,e) ⟨cw,bi,bi,bi,fF⟩ rfl η (λq hi Α=>?_);obtain⟨i,j,f⟩:=q;obtain⟨bR,i',jd,dv,aM⟩:=hi;simp only at bR i' jd dv aM;obtain⟨an,dW⟩:=bG (Go.Sort.scanUp (λx=>!Ξ cmp f[a]! x) f (j) (i));obtain⟨av,cV⟩:=bG (Go.Sort.scanDown (λx=>Ξ cmp f[a]! x) f an (j));obtain⟨s1,s2,lu,qA,kV⟩:=vM (λx=>!Ξ cmp f[a]! x) (λx=>Ξ cmp f[a]! x) (λx=>η) f J J dW cV;have cF:Go.Sort.partEqLoop (Ξ cmp) a i j f=if an > av then(an,f) else Go.Sort.partEqLoop (Ξ cmp) a (an+1) (av-1) (Go.Sort.swp f an av):=by
   rw[Go.Sort.partEqLoop_eq];simp only[dW,cV]
  refine W.to (σ':=[.cells 29 1 ((f).toList.map aL)]) (env':=[(0,.ms 0 n 0 n),(1,I a),(4,Ο),(11,I (i:Nat)),(12,I (j:Nat))]) ?_ rfl η;refine W.block ?_
  repeat apply ae
  refine W.kQ [(0,.ms 0 n 0 n),(1,I a),(4,Ο),(11,I (an:Nat)),(12,I (j:Nat))] [.cells 29 1 ((f).toList.map aL)] ?_ ?_
  ·refine W.iter (λi:Nat=>(i)<=i/\i<=(j)+1/\Go.Sort.scanUp (λx=>!Ξ cmp f[a]! x) f (j) i=an) (λi=>[(0,.ms 0 n 0 n),(1,I a),(4,Ο),(11,I (i:Nat)),(12,I (j:Nat))]) (λ_=>[.cells 29 1 ((f).toList.map aL)]) (λi=>(j)+1-i) ((i)) ⟨Nat.le_refl _,J,dW⟩ rfl η (λi hi Α=>?_);obtain⟨i',jd,dv⟩:=hi;by_cases ε:i<=(j)
   ·have aH:i<n:=J
    have aI:a<n:=J;obtain⟨L,x,y,ad,δ,Μ,π,⟨U,γ⟩,⟨ο,Ι⟩,-,-⟩:=eQ aL bR aH aI;have un:Go.Sort.scanUp (λx=>!Ξ cmp f[a]! x) f (j) i=if(!Ξ cmp y x)=true then Go.Sort.scanUp (λx=>!Ξ cmp f[a]! x) f (j) (i+1) else i:=by rw[Go.Sort.scanUp];simp[ε,δ,Μ]
    have hw:=hn (i:=i) J;refine W.to (σ':=[.cells 29 1 L]) (env':=[(0,.ms 0 n 0 n),(1,I a),(4,Ο),(11,I (i:Nat)),(12,I (j:Nat))]) ?_ (by rw[ad]) η;clear δ Μ
    repeat apply ae
    refine W.draw (A:=[]) Φ mixed λΚ κ=>gi (ς ε (ς π (ς U (ς γ (ς ο (ς Ι (ς aH aI))))))) ?_;refine eD (Ρ y x) ?_;simp;(repeat (rw[cY];simp));try rw[cX]
    refine en (κ _ _ ?_);by_cases hm:cmp y x<0
    ·refine ay (by simp[hm]) ?_;refine W.exit rfl ?_;exact W.stop ⟨rfl,by rw[ad],by rw[<-dv,un];simp[hm,Ξ]⟩
    ·refine aC (by simp[hm]) ?_;refine aE hw ?_;exact W.to (Α (i+1) ⟨J,J,by rw[<-dv,un];simp[hm,Ξ]⟩ bi) (by rw[ad]) (by simp[hw])
   ·repeat apply ae
    refine dH ε ?_;refine ay rfl ?_;refine W.exit rfl ?_;have e:Go.Sort.scanUp (λx=>!Ξ cmp f[a]! x) f (j) i=i:=by rw[Go.Sort.scanUp];simp[ε]
    exact W.stop ⟨rfl,rfl,by rw[<-dv,e];simp⟩
  repeat apply ae
  refine W.kQ [(0,.ms 0 n 0 n),(1,I a),(4,Ο),(11,I (an:Nat)),(12,I (av:Nat))] [.cells 29 1 ((f).toList.map aL)] ?_ ?_
  ·refine W.iter (λi:Nat=>i<=(j)/\an<=i+1/\Go.Sort.scanDown (λx=>Ξ cmp f[a]! x) f an i=av) (λi=>[(0,.ms 0 n 0 n),(1,I a),(4,Ο),(11,I (an:Nat)),(12,I (i:Nat))]) (λ_=>[.cells 29 1 ((f).toList.map aL)]) (λi=>i+1-an) ((j)) ⟨Nat.le_refl _,J,cV⟩ rfl η (λi hi Α=>?_);obtain⟨i',jd,dv⟩:=hi;by_cases ε:an<=i
   ·have aH:i<n:=J
    have aI:a<n:=J;obtain⟨L,x,y,ad,δ,Μ,π,⟨U,γ⟩,⟨ο,Ι⟩,-,-⟩:=eQ aL bR aH aI;obtain⟨q,Χ⟩:∃q,i=q+1:=⟨i-1,J⟩;have un:Go.Sort.scanDown (λx=>Ξ cmp f[a]! x) f an i=if(Ξ cmp y x)=true then Go.Sort.scanDown (λx=>Ξ cmp f[a]! x) f an (i-1) else i:=by subst Χ;rw[Go.Sort.scanDown];simp[ε,δ,Μ]
    have hw:=ir (i:=i) J J;refine W.to (σ':=[.cells 29 1 L]) (env':=[(0,.ms 0 n 0 n),(1,I a),(4,Ο),(11,I (an:Nat)),(12,I (i:Nat))]) ?_ (by rw[ad]) η;clear δ Μ
    repeat apply ae
    refine W.draw (A:=[]) Φ mixed λΚ κ=>gi (ς ε (ς π (ς U (ς γ (ς ο (ς Ι (ς aH aI))))))) ?_;refine eD (Ρ y x) ?_;simp;(repeat (rw[cY];simp));try rw[cX]
    refine en (κ _ _ ?_);by_cases hm:cmp y x<0
    ·refine aC (by simp[hm]) ?_;refine aE hw ?_;exact W.to (Α (i-1) ⟨J,J,by rw[<-dv,un];simp[hm,Ξ]⟩ bi) (by rw[ad]) (by simp[hw])
    ·refine ay (by simp[hm]) ?_;refine W.exit rfl ?_;exact W.stop ⟨rfl,by rw[ad],by rw[<-dv,un];simp[hm,Ξ]⟩
   ·repeat apply ae
    refine dH ε ?_;refine ay rfl ?_;refine W.exit rfl ?_;have e:Go.Sort.scanDown (λx=>Ξ cmp f[a]! x) f an i=i:=by exact zv _ _ J
    exact W.stop ⟨rfl,rfl,by rw[<-dv,e];simp⟩
  repeat apply ae
  by_cases ε:an > av
  ·have a2:((av:Nat):Int)<(an:Nat):=J
   refine aE a2 ?_;refine aC (by simp[ε]) ?_;refine W.exit rfl ?_;rw[cF,if_pos ε] at aM;exact W.stop ⟨rfl,by rw[<-aM],by rw[<-aM];simp⟩
  ·have a2:¬((av:Nat):Int)<(an:Nat):=J
   have wa:=kV J
   have gZ:=hn (i:=an) J
   have jQ:=ir (i:=av) J J;refine aE a2 ?_;refine ay (by simp[ε]) ?_;have aH:an<n:=J;have aI:av<n:=J;obtain⟨L,x,y,ad,δ,Μ,π,⟨U,γ⟩,⟨ο,Ι⟩,cx,eR,ax⟩:=eQ aL bR aH aI;refine W.to (σ':=[.cells 29 1 L]) (env':=[(0,.ms 0 n 0 n),(1,I a),(4,Ο),(11,I (an:Nat)),(12,I (av:Nat))]) ?_ (by rw[ad]) η;clear δ Μ
   repeat apply ae
   refine dH (ς π (ς U (ς γ (ς ο (ς Ι (ς ax (ς aH aI))))))) ?_;refine W.to (σ':=[.cells 29 1 ((Go.Sort.swp f an av).toList.map aL)]) (env':=[(0,.ms 0 n 0 n),(1,I a),(4,Ο),(11,I (an:Nat)),(12,I (av:Nat))]) ?_ (by rw[cx]) η;clear aH aI U γ ο Ι ax cx π ad L x y eR;refine aE (ς gZ jQ) ?_;exact W.to (Α (an+1,av-1,Go.Sort.swp f an av) ⟨swp_size bR an av,bi,bi,bi,by simp;rw[<-aM,cF,if_neg ε]⟩ bi) rfl (by simp[gZ,jQ])
 refine Η ?_;have cF:Go.Sort.partitionEqual (Ξ cmp) d a b p=R:=by unfold Go.Sort.partitionEqual;rw[<-he,fF]
 exact W.ret ⟨_,rfl,by rw[cF];rfl,by rw[cF]⟩
end Go.TL
