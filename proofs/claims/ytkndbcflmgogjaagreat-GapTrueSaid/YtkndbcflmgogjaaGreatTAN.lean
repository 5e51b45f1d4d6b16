import Derived.Test.YtkndbcflmgogjaaGreatTAM
set_option linter.defProp false
set_option maxHeartbeats 16000000
set_option maxRecDepth 20000
set_option linter.unusedSectionVars false
set_option linter.unusedSimpArgs false
set_option linter.unusedVariables false
namespace Go.TL
open Go.Proofs.Tryz
open Go.Proofs
variable[Z8]
def NU:ψ:=[-1,-1,-1,0,0,0,1,1,1,-1,-1,-1,0,0,0,1,1,1,-1,-1,-1,0,0,0,1,1,1]
def xo:Array Int:=(Go.Sort.partition Go.Sort.ltInt NU.toArray 0 27 12).2.2
def Co:Array Int:=Go.Sort.insertionSort Go.Sort.ltInt xo 0 9
def xn:Array Int:=(Go.Sort.partitionEqual Go.Sort.ltInt Co 10 27 18).2
def lP:xp NU.toArray xo Co xn (WQ NU).toArray:=by
 have a:(Go.Sort.partition Go.Sort.ltInt NU.toArray 0 27 12).1=9/\(Go.Sort.partition Go.Sort.ltInt NU.toArray 0 27 12).2.1=false:=by decide +kernel
 have b:(Go.Sort.partitionEqual Go.Sort.ltInt Co 10 27 18).1=18:=by decide +kernel
 refine⟨by decide +kernel,by decide +kernel,NM a.1 (NM a.2 U),U,by decide +kernel,by decide +kernel,NM b U,?_⟩;have c:Go.Sort.insertionSort Go.Sort.ltInt xn 18 27=#[-1,-1,-1,-1,-1,-1,-1,-1,-1,0,0,0,0,0,0,0,0,0,1,1,1,1,1,1,1,1,1]:=by decide +kernel
 rw[c,pN (l:=NU) (m:=[-1,-1,-1,-1,-1,-1,-1,-1,-1,0,0,0,0,0,0,0,0,0,1,1,1,1,1,1,1,1,1]) θ θ]
def lO:KB NU:=by
 obtain⟨L,b⟩:=ν NU;obtain⟨n,a⟩:=ν L.length;obtain⟨i,c⟩:=ν (Go.Sort.bitsLen n);have e:n=27:=by rw[a,b];rfl
 have j:i=5:=by rw[c,e];decide
 have h:=lQ e j lP;rw[<-b,c]at h;have f:L.toArray.toList=L:=rfl;have g:(WQ L).toArray.toList=WQ L:=rfl;rw[f,g]at h;have u:(L.map I).length=n:=by rw[WS,a]
 show Ν _ _ _ _ _ _;rw[<-b,<-a];clear c f g;refine Ν.body Τ func167 U U ntmps167 U U o ?_;have k:=Yh (show n<2 ^ 62 by omega);have Υ:IntKind.u64.wrap (n:Int)=n:=oQ J;have l:=a.symm;refine γ l ?_;(repeat apply Ζ);refine Yz λv m=>?_;simp;(repeat (rw[Ι];simp[k,Υ]));refine Μ.d (Np n J) (ς ?_);refine Ν.call (first:=[]) (captured:=[]) (h.mono (λr s ⟨p,t⟩=>?_) (λ_ _ h=>h.elim));subst p;subst t;simp;(repeat (rw[Ι];simp));apply m;exact W.nil ⟨_,U,U,U⟩
structure Fi(s:Zm)(F:Wz)(a:Bool)(N:Nat):Prop where
 Yf:F.length<2 ^ 20
 cells:∀f∈F,f.cells.length=s.cells.length/\∀c∈f.cells,c.length<2 ^ 20
 some:∀c,c<s.cells.length->Wy F c a≠[]/\(Wy F c a).length<=N
def Fi.call{s:Zm}{F:Wz}{a:Bool}{N:Nat}(h:Fi s F a N)(e:N<2 ^ 20){c:Nat}(g:KB (Wy F c a))(b:c<s.cells.length):Μ prog 126 [Va F,I c,ZU a] (δ I 1 (Of F c a)):=
 r7 F c a h.Yf (λf d=>⟨by rw[(h.cells f d).1];exact b,(h.cells f d).2⟩) N e g (h.some c b).1 (h.some c b).2
def Iv(s:Zm)(F:Wz)(a:Int)(b:Bool):ψ×Int:=
 if(Sq s a F).2.2=0 then(Of F a.toNat b,0) else([],(Sq s a F).2.2)
def lN(s:Zm)(i:s.small)(F:Wz)(j:O8 s F)(a:Int)(f:Bool)(N:Nat)(k:N<2 ^ 20)(l:KB (Wy F a.toNat f))(m:(Sq s a F).2.2=0->Fi s F f N) :
  Μ prog 77 [Wa s,I a,ZU f] (.Z7 [δ I 1 (Iv s F a f).1,I (Iv s F a f).2]):=by
 refine Ν.body Τ func77 U U ntmps77 U U o ?_;refine Χ ?_;refine ZA ?_;refine ZB (A:=[8]) Τ λp g=>ς ?_;refine Μ.d (sc s i a F j) (ς ?_);apply g;by_cases b:(Sq s a F).2.2=0
 case neg=>
  have e:Iv s F a f=([],(Sq s a F).2.2):=if_neg b;rw[e];generalize (Sq s a F).2.2=r at b;refine Χ ?_;refine Β (by simp[b]) ?_;refine Χ ?_;refine W.drop (h:=0) (Γ _) (Γ _) o U [(6,.sl true 0 []),(7,I r)] o ?_;refine W.rt ?_;exact .Z7 (.cons .nil (.cons (.refl _) .nil))
 have e:Iv s F a f=(Of F a.toNat f,0):=if_pos b;obtain⟨v,w,t⟩:=p0 b;obtain⟨n,rfl⟩:∃n:Nat,a=n:=⟨a.toNat,J⟩;rw[e,t];have u:=(m b).call k (c:=n) l J;refine Χ ?_;refine Δ U ?_;refine ο λp g=>?_;refine Μ.d (u) (ς ?_);apply g;refine W.drop (h:=0) (Γ _) (Γ _) o U [(6,δ I 1 (Of F n f)),(7,I 0)] o ?_;exact W.Nt
end Go.TL
namespace Go.TL
open Go.Proofs.Tryz
open Go.Proofs
def RR:List (List ZM):=[OR Fp W6 T',OR [Fq,T'] W6 T']
def TO(c:List Xo):List (ψ):=[Of (VY (WM c).Zz) 0 false]
structure T9(c:List Xo):Prop where
 lit:∀x∈c,0<=x.Xn/\x.Xn<1
 lM:c.length<2 ^ 20
 reads:∀k,k<3->(Rl (WM c).Zz (Wu k) 0).length<=12
 many:∀k,k<3->∀i,i<=1->QH (SU (WM c).Zz (Wu k)).cells (-1) i<2 ^ 62
 err:(WM c).Zz.err=0
 lL:VY (WM c).Zz≠[]
 cells:∀f∈VY (WM c).Zz,f.cells.length=1/\∀x∈f.cells,x.length<2 ^ 20
 inc:(Sq (WM c).Zz 0 (VY (WM c).Zz)).2.2=0
 all:Wy (VY (WM c).Zz) 0 false≠[]/\(Wy (VY (WM c).Zz) 0 false).length<=49
def lK:T9 []:=⟨θ,θ,by decide +kernel,by decide +kernel,by decide +kernel,by decide +kernel,by decide +kernel,by decide +kernel,by decide +kernel⟩
def lJ:T9 [⟨0,9,0⟩]:=⟨θ,θ,by decide +kernel,by decide +kernel,by decide +kernel,by decide +kernel,by decide +kernel,by decide +kernel,by decide +kernel⟩
def lI:(∀l∈Sg.Zf,l.length<1000/\∀x∈l,x.size<1000)/\(∀x∈Sg.words,x.size<1000)/\∀b∈Sg.ZV,b.Ya.size<1000:=by decide +kernel
variable{c:List Xo}
def T9.small(h:T9 c):(WM c).small:=by
 obtain⟨d,f,g⟩:=lI;refine⟨⟨by show 2<2 ^ 40;decide,λl e=>⟨Tg (d l e).1 θ,λx a=>Tg ((d l e).2 x a) θ⟩⟩,by show 4<2 ^ 40;decide,by show 2<2 ^ 40;decide,⟨by show 4<2 ^ 40;decide,λx a=>Tg (f x a) θ⟩,⟨by show 8<2 ^ 40;decide,λb i=>Tg (g b i) θ⟩,by show 2<2 ^ 30;decide,by show 1<2 ^ 30;decide,by show 1<2 ^ 30;decide,λx a=>?_,λx a=>?_⟩
 .obtain rfl:=Us.1 a;decide
 obtain rfl:=Us.1 a;exact Tg h.lM θ
def T9.lH(h:T9 c):Db 12 (WM c).Zz:=by
 refine⟨h.small.Zz,by show 2<2 ^ 20;decide,λx b=>?_,λk a i hi=>?_,λk a i hi=>h.many k a i hi⟩
 .obtain rfl:=Us.1 b;exact h.lit
 obtain rfl:i=0:=Nat.lt_one_iff.1 hi;exact h.reads k a
def T9.xm(h:T9 c):@O8 Ye (WM c).Zz (VY (WM c).Zz):=y' h.lH
end Go.TL
namespace Go.TL
open Go.Proofs.Tryz
open Go.Proofs
def TN(a b:ByteArray)(L:List (List ByteArray)):List (List ZM):=L.map λl=>OR l a b
structure ExG(g:ZN)(c:List Xo):Prop where
 Zz:g.Zz=(WM c).Zz
 low:g.lower=false
 Zf:g.Zf.length<1000/\∀l∈g.Zf,l.length<1000/\∀x∈l,x.size<1000
 names:g.left.size<1000/\g.right.size<1000
 words:g.words.length<1000/\∀x∈g.words,x.size<1000
 ZV:g.ZV.length<1000/\∀b∈g.ZV,b.Ya.size<1000
structure Qj(g:ZN)(c:List Xo):Prop extends ExG g c where
 lG:Qv g.Zf=0/\PD g=0/\M' g=0/\Uc g.X' g.XX 0 9=0/\Uc g.XH g.Vx 0 80=0
 Fh:(∀w∈g.words,X0 w=true)/\(∀w∈g.words,∀c∈w.data.toList,UN g.ZV c=true)/\((0<=g.X'/\g.X'<=9)/\0<=g.XX/\g.XX<=9)/\∀b∈g.ZV,(0<=b.lo/\b.lo<=9)/\0<=b.hi/\b.hi<=9
 Yf:g.words.length<=5/\g.ZV.length<=12/\g.Zf.length<=5
 Iu:∀l∈g.Zf,(Si l g.left g.right).length<=12
 lF:∀l∈g.Zf,∀x∈l,x.data.toList≠[]/\32∉x.data.toList
variable{g:ZN}{c:List Xo}
def T9.lE(h:T9 c):(TO c).length<2 ^ 40/\∀l∈TO c,l.length<2 ^ 40:=⟨by show 1<2 ^ 40;decide,λl a=>by
  letI:Z8:=Ye;obtain rfl:=Us.1 a;have b:=se (WQ (Wy (VY (WM c).Zz) 0 false)) (WQ (Wy (VY (WM c).Zz) 0 false)).length;rw[OG]at b;have d:(WQ (Wy (VY (WM c).Zz) 0 false)).length=(Wy (VY (WM c).Zz) 0 false).length:=by simp[WQ]
  have e:=h.all.2;unfold Of;omega⟩
def T9.lD(h:T9 c):Fi (WM c).Zz (VY (WM c).Zz) false 49 where
 Yf:=Ll (Im _ _) o
 cells f a:=h.cells f a
 some i hi:=by
  obtain rfl:i=0:=Nat.lt_one_iff.1 hi;exact h.all
def ExG.small(h:ExG g c)(e:T9 c):g.small:=by
 have f:=e.small.Zz;refine⟨⟨Tg h.Zf.1 θ,λl d=>⟨Tg (h.Zf.2 l d).1 θ,λx a=>Tg ((h.Zf.2 l d).2 x a) θ⟩⟩,Tg h.names.1 θ,Tg h.names.2 θ,⟨Tg h.words.1 θ,λx a=>Tg (h.words.2 x a) θ⟩,⟨Tg h.ZV.1 θ,λb i=>Tg (h.ZV.2 b i) θ⟩,?_⟩;rw[h.Zz];exact f
def T9.lC(_:T9 c):(VY (WM c).Zz).length<2 ^ 20:=Ll (Im _ _) o
def ExG.check(h:ExG g c)(a:T9 c):@Μ Ye prog 13 [VX g] (I (OQ g (VY (WM c).Zz))):=by
 letI:Z8:=Ye;have b:=a.xm;rw[<-h.Zz]at b;have:=x0 g (h.small a) _ b (by rw[h.Zz];exact a.lC);rw[h.Zz]at this;exact this
def Qj.OQ(h:Qj g c)(a:T9 c):OQ g (VY (WM c).Zz)=0:=by
 obtain⟨b,Υ,d,e,f⟩:=h.lG;have i:Qr g.Zz (VY (WM c).Zz)=0:=by rw[h.Zz];unfold Qr;rw[if_pos a.err,if_neg a.lL]
 unfold Go.TL.OQ LB;rw[b,Υ,d,e,f,i];rfl
def xl(l:List ByteArray)(a b:ByteArray):(OR l a b).length=(Si l a b).length:=by unfold OR;rw[List.length_mergeSort]
def Qj.xk(h:Qj g c):∀l∈TN g.left g.right g.Zf,l.length<=12:=λl a=>by
 obtain⟨x,b,rfl⟩:=ZG.1 a;rw[xl];exact h.Iu x b
def Qj.work(h:Qj g c)(a:T9 c):Fu g (TN g.left g.right g.Zf) (TO c):=by
 obtain⟨w1,b,d,e⟩:=h.Fh;refine⟨w1,b,d,e,h.Yf.2.1,(h.small a).Zz,⟨by have:=h.Yf.2.2;simp[TN];omega,λl f=>by have:=h.xk l f;omega⟩,a.lE,by have:=h.Yf.1;omega⟩
def Qj.lB(h:Qj g c):@ma Ye g (TN g.left g.right g.Zf):=by
 letI:Z8:=Ye;refine⟨by simp[TN],λp a=>by have:=h.xk p a;omega,λi p a=>?_⟩;unfold TN at a;rw[YK]at a;obtain⟨l,d,rfl⟩:=T7.1 a;have b:=ZD d;exact x3 g i l d (h.Zf.2 l b).1 (λx e=>⟨h.lF l b x e,(h.Zf.2 l b).2 x e⟩) (h.Iu l b)
def Qj.xj(h:Qj g c)(a:T9 c)(d:@KB Ye (Wy (VY (WM c).Zz) 0 false)):@Ra Ye g 0 (TN g.left g.right g.Zf) (TO c):=by
 letI:Z8:=Ye;refine⟨?_,λ_=>?_,λ_=>h.work a,λ_=>h.Yf.1,by have:=h.Yf.1;omega⟩
 .have:=h.check a;rw[h.OQ a]at this;exact this
 refine xS (n:=1) (by rw[h.Zz];rfl) θ U (by simp[TN]) (by simp[TN];exact h.Yf.2.2) h.lB.pass (λi l b=>?_);have hi:i<1:=(ZT.1 b).1;obtain rfl:i=0:=Nat.lt_one_iff.1 hi;cases b;have:=lN (WM c).Zz a.small.Zz _ a.xm 0 false 49 θ d (λ_=>a.lD);unfold Iv at this;rw[if_pos a.inc]at this;rw[h.Zz,h.low];exact⟨_,this⟩
def lA:Qj Sg []:=⟨⟨rfl,rfl,by decide +kernel,by decide +kernel,by decide +kernel,by decide +kernel⟩,by decide +kernel,by decide +kernel,by decide +kernel,by decide +kernel,by decide +kernel⟩
def lz:Qj M0 [⟨0,9,0⟩]:=⟨⟨rfl,rfl,by decide +kernel,by decide +kernel,by decide +kernel,by decide +kernel⟩,by decide +kernel,by decide +kernel,by decide +kernel,by decide +kernel,by decide +kernel⟩
def It:@Ra Ye Sg 0 RR (TO []):=lA.xj lK (by
 letI:Z8:=Ye;have e:Wy (VY (WM []).Zz) 0 false=NU:=by decide +kernel
 rw[e];exact lO)
def ly:@Ra Ye M0 0 RR (TO [⟨0,9,0⟩]):=lz.xj lJ (by letI:Z8:=Ye;exact r5 _ (by decide +kernel))
end Go.TL
namespace Go.TL
open Go.Proofs.Tryz
open Go.Conc Go.Proofs
variable[Z8]
section
variable{g:ZN}{ZL:Int}{P:List (List ZM)}{C:List (ψ)}
def MY(g:ZN)(ZL:Int)(f:ψ):Wm×Int:=if U5 g ZL f=0 then(W7 g f,0) else((0,0),U5 g ZL f)
def lx(i:Ra g ZL P C)(f:ψ)(k:f.length<2 ^ 40):Μ prog 14 [VX g,δ I 1 f] (.Z7 [.Z' [I (MY g ZL f).1.1,I (MY g ZL f).1.2],I (MY g ZL f).2]):=by
 refine Ν.body Τ func14 U U ntmps14 U U o ?_;refine ZA ?_;refine ZB (A:=[4]) Τ λj a=>ς ?_;apply a;refine ο λj a=>?_;refine Μ.d (xI i f k) (ς ?_);apply a;refine Χ ?_;by_cases b:U5 g ZL f=0
 case neg=>
  refine Β (by simp[b]) ?_;refine Χ ?_;have e:MY g ZL f=((0,0),U5 g ZL f):=by unfold MY;rw[if_neg b]
  rw[e];refine W.fix (id:=0) (σ':=[]) (Γ _) U o o U [(4,.Κ [I 0,I 0]),(5,I (U5 g ZL f))] o ?_;refine W.rt ?_;exact .of U
 refine Δ (by simp[b]) ?_;obtain⟨l,m⟩:=xJ b;have h:=i.work l;have e:MY g ZL f=(W7 g f,0):=by unfold MY;rw[if_pos b]
 rw[e];refine ο λj a=>?_;refine Μ.c (Cv g [] [] h.words h.lets h.blank h.M5 h.ZV f m) (.cons (.Z' ?_) (ZJ.refl _)) o o ?_
 .exact .cons (.refl _) (.cons (.refl _) (.cons (.refl _) (.cons (.refl _) (.cons (.refl _) (.cons (.refl _) (.cons (.refl _) (.cons (.refl _) (.cons (.refl _) (.cons (.refl _) (.cons (.refl _) (.cons (.refl _) (.cons (.refl _) (.cons .nil (.cons .nil .nil))))))))))))))
 simp;(repeat (rw[Ι];simp));apply a;refine Χ ?_;refine W.fix (id:=0) (σ':=[]) (Γ _) U o o U [(4,.Κ [I (W7 g f).1,I (W7 g f).2]),(5,I 0)] o ?_;refine W.rt ?_;exact .of U
def Q7(g:ZN)(ZL:Int)(P:List (List ZM))(C:List (ψ)):Ψ:=if ZL=0 then Vj g P C else .Z' [.sl true 0 [],.z (.string {data:=#[]}),.z (.string {data:=#[]}),.sl true 0 [],.sl true 0 [],I 0,I 0,I 0,I 0,.sl true 0 [],.sl true 0 [],.sl true 0 [],ZU false,.sl true 0 [],.sl true 0 []]
def VT(g:ZN)(ZL:Int)(P:List (List ZM))(C:List (ψ)):Int:=if ZL≠0 then ZL else if XQ g P C=[] then 11 else 0
def Cn(h:VT g ZL P C=0):ZL=0/\XQ g P C≠[]:=by
 unfold VT at h;split at h
 .rename_i a;exact absurd h a
 rename_i b;split at h
 .cases h
 rename_i c;exact⟨by simpa using b,c⟩
def Fg(g:ZN)(P:List (List ZM))(C:List (ψ))(h:g.words.length<=5):(XQ g P C).length<=156:=by
 refine WL (J' _ _) ?_;rw[Ct];generalize g.words.length=n at h;have:n=0\/n=1\/n=2\/n=3\/n=4\/n=5:=J;rcases this with rfl|rfl|rfl|rfl|rfl|rfl<;>decide
def Cm(i:Ra g ZL P C):Μ prog 53 [VX g] (.Z7 [Q7 g ZL P C,Yv (Ua g ZL P C),I (VT g ZL P C)]):=by
 refine Ν.body Τ func53 U U ntmps53 U U o ?_;refine ZA ?_;refine ZB (A:=[2]) Τ λm b=>ς ?_;apply b;refine ο λm b=>?_;refine Μ.d (i.check) (ς ?_);apply b;refine Χ ?_;by_cases f:ZL=0
 case neg=>
  refine Β (by simp[f]) ?_;refine Χ ?_;have n:VT g ZL P C=ZL:=by unfold VT;rw[if_pos f]
  have Υ:Ua g ZL P C=[]:=by unfold Ua;rw[if_neg f]
  have s:Q7 g ZL P C=.Z' [.sl true 0 [],.z (.string {data:=#[]}),.z (.string {data:=#[]}),.sl true 0 [],.sl true 0 [],I 0,I 0,I 0,I 0,.sl true 0 [],.sl true 0 [],.sl true 0 [],ZU false,.sl true 0 [],.sl true 0 []]:=by unfold Q7;rw[if_neg f]
  rw[n,Υ,s];refine W.fix (id:=0) (σ':=[]) (Γ _) U o o U [(2,.Κ [.sl true 0 [],.z (.string {data:=#[]}),.z (.string {data:=#[]}),.sl true 0 [],.sl true 0 [],I 0,I 0,I 0,I 0,.sl true 0 [],.sl true 0 [],.sl true 0 [],ZU false,.sl true 0 [],.sl true 0 []]),(3,.sl true 0 []),(4,I ZL)] o ?_;exact W.ret ⟨_,U,.Z7 (.cons (.refl _) (.cons .nil (.cons (.refl _) .nil))),U⟩
 refine Δ (by simp[f]) ?_;subst f;have Υ:Ua g 0 P C=XQ g P C:=by unfold Ua;rw[if_pos U]
 have s:Q7 g 0 P C=Vj g P C:=by unfold Q7;rw[if_pos U]
 rw[Υ,s];refine ZA ?_;refine ZB (A:=[6]) Τ λm b=>ς ?_;refine Μ.c (i.Fs U) (ZJ.refl _) o o ?_;simp;(repeat (rw[Ι];simp));apply b;refine ο λm b=>?_;refine Μ.d (xK (i.work U) (i.Yf U)) (ς ?_);apply b;have t:=Fg g P C (i.Yf U);have n:VT g 0 P C=if XQ g P C=[] then 11 else 0:=by unfold VT;rw[if_neg o]
 rw[n];generalize XQ g P C=D at t;refine Χ ?_;cases D with
 | nil=>
  refine Β o ?_;refine Χ ?_;refine W.cut 0 (Γ _) [(2,.Κ (Yl g P C)),(3,.sl true 0 []),(4,I 11)] (Γ _) (λid r h=>J) (λp j=>?_) ?_
  .simp only[YU,XW,or_false]at j;rcases j with rfl|rfl|rfl
   .exact .Ο (Γ _) U U (e:=Vj g P C) U (by simp[Ψ.cells]) λx a a' k l=>by
     rw[Vu]at k;have:(Yl g P C)[x]?=some a:=k;rw[this]at l;cases l;exact .low ((show ∀a∈Yl g P C,ω 0 a by simp) a (ZD this))
   .exact .low (by simp[ε])
   exact .low (by simp[ε])
  exact W.ret ⟨_,U,.Z7 (.cons (.refl _) (.cons .nil (.cons (.refl _) .nil))),U⟩
 | cons d D=>
  refine Δ o ?_;refine Χ ?_;refine W.cut 0 (Γ _) [(2,.Κ (Yl g P C)),(3,Yv (d::D)),(4,I 0)] (Γ _) (λid r h=>J) (λp j=>?_) ?_
  .simp only[YU,XW,or_false]at j;rcases j with rfl|rfl|rfl
   .exact .Ο (Γ _) U U (e:=Vj g P C) U (by simp[Ψ.cells]) λx a a' k l=>by
     rw[Vu]at k;have:(Yl g P C)[x]?=some a:=k;rw[this]at l;cases l;exact .low ((show ∀a∈Yl g P C,ω 0 a by simp) a (ZD this))
   .exact .low (by simp[ε])
   exact .low (by simp[ε])
  refine W.rt ?_;exact .of U
def lu(g:ZN)(f:ψ):ByteArray:=W9 ⟨#[32]⟩ (XR g f)
def xi(g:ZN)(D:List (ψ)):ByteArray×Int:=match D with
 | [f]=>(lu g f,0)
 | _=>(⟨#[]⟩,6)
def MX(g:ZN)(ZL:Int)(P:List (List ZM))(C:List (ψ)):ByteArray×Int:=if VT g ZL P C≠0 then(⟨#[]⟩,VT g ZL P C) else xi g (XQ g P C)
def Cl{f:ψ}(a:f∈XQ g P C):Wn g f:=by
 have e:=(TK.1 a).1
 have h:∀d l,Wn g l->l.length+d<=3->∀f∈VV g.words.length d l,Wn g f:=by
  intro d
  induction d with
  | zero=>intro l c _ f a;simp[VV]at a;subst a;exact c
  | succ d i=>
   intro l c hd f a;simp only[VV,YU,MQ,VR]at a;rcases a with rfl|⟨n,j,a⟩
   .exact c
   refine i _ ⟨by simp;omega,λx b=>?_⟩ (by simp;omega) f a;rcases VS.1 b with b|b
   .exact c.has x b
   simp at b;subst b;omega
 exact h 3 [] ⟨o,o⟩ o f e
end
section
variable{g:ZN}{ZL:Int}{P:List (List ZM)}{C:List (ψ)}
def Ck(g:ZN)(ZL:Int)(P:List (List ZM))(C:List (ψ)):∃l,Q7 g ZL P C=.Z' l/\l.length=15/\(∀σ,l.all (Ψ.Y8 σ)=true)/\∀a∈l,ω 0 a:=by
 unfold Q7;split
 .exact⟨_,U,U,λσ=>o,o⟩
 exact⟨_,U,U,λσ=>o,o⟩
def lr(m:Ra g ZL P C):Μ prog 18 [VX g] (.Z7 [ZQ (MX g ZL P C).1,I (MX g ZL P C).2]):=by
 have a:=Cm m;refine Ν.body Τ func18 U U ntmps18 U U o ?_;refine Χ ?_;by_cases b:VT g ZL P C=0
 case neg=>
  have e:MX g ZL P C=(⟨#[]⟩,VT g ZL P C):=by unfold MX;rw[if_pos b]
  rw[e];obtain⟨l,u,v,w,y⟩:=Ck g ZL P C;rw[u]at a;generalize VT g ZL P C=B at b a;generalize Ua g ZL P C=D at a;refine ZA ?_;refine ZB (A:=[4]) Τ λr i=>ς ?_;refine Μ.c a (ZJ.refl _) o (by simpa using y) ?_;simp
  repeat (rw[Ι];simp[v,w])
  apply i;refine Χ ?_;refine Β (by simp[b]) ?_;refine Χ ?_;refine W.drop (h:=0) (Γ _) (Γ _) o U [(2,ZQ ⟨#[]⟩),(3,I B)] o ?_;refine W.rt ?_;exact .of U
 obtain⟨rfl,j⟩:=Cn b;have E:Q7 g 0 P C=Vj g P C:=by unfold Q7;rw[if_pos U]
 have Υ:Ua g 0 P C=XQ g P C:=by unfold Ua;rw[if_pos U]
 rw[E,Υ,b]at a;have e:MX g 0 P C=xi g (XQ g P C):=by unfold MX;rw[if_neg (by simpa using b)]
 rw[e];have k:∀f∈XQ g P C,Wn g f:=λf d=>Cl d;have n:=Fg g P C (m.Yf U);generalize XQ g P C=D at j n a k;refine ZA ?_;refine ZB (A:=[4]) Τ λr i=>ς ?_;refine Μ.c a (ZJ.refl _) o o ?_;simp;(repeat (rw[Ι];simp));apply i;refine Χ ?_;refine Δ o ?_;refine Χ ?_
 match D,j,n,k with
 | [],j,_,_=>exact absurd rfl j
 | f::f'::D,_,n,_=>
  refine Β (by simp;omega) ?_;refine Χ ?_;refine W.drop (h:=0) (Γ _) (Γ _) o U [(2,ZQ ⟨#[]⟩),(3,I 6)] o ?_;refine W.rt ?_;exact .of U
 | [f],_,_,k=>
  refine Δ o ?_;have d:=k f o
  repeat apply Ζ
  refine W.draw (A:=[]) Τ mixed λr i=>Rt ?_;refine Wf (Μ.p (CF g P C f d) (ZJ.refl _) o o) ?_;simp;(repeat (rw[Y3];simp));try rw[YL]
  have s:=(m.work U).words
  have F:=CL ⟨#[32]⟩ θ (XR g f) (by unfold XR;simpa using d.Yf) (λx t=>⟨(IG s d x t).1,by have:=(IG s d x t).2;omega⟩);refine Wf (Μ.p F (ZJ.refl _) o o) ?_;simp;(repeat (rw[Y3];simp));try rw[YL]
  refine X5 (i _ _ ?_);refine Χ ?_;refine W.drop (h:=0) (Γ _) (Γ _) o U [(2,ZQ (W9 ⟨#[32]⟩ (XR g f))),(3,I 0)] o ?_;refine W.rt ?_;exact .of U
end
def Xr(s:ByteArray)(k:Nat):μ:=(List.range 18).map λi=>.z (.int .i32 (if i<k then((s.get! i).toNat:Int) else 0))
def OL(s:ByteArray)(k:Nat):(Xr s k).length=18:=by simp[Xr]
def Ff(s:ByteArray)(k:Nat)(σ:Ρ):(Xr s k).all (Ψ.Y8 σ)=true:=by simp[Xr,Ψ.Y8]
def OK(s:ByteArray)(k h:Nat):∀a∈Xr s k,ω h a:=λa b=>by
 obtain⟨i,_,rfl⟩:=ZG.1 b;exact .z _
def lq{s:ByteArray}{p:Nat}(a:p<18):(Xr s p).take p++[.z (.int .i32 ((s.get! p).toNat:Int))]++(Xr s p).drop (p+1)=Xr s (p+1):=by
 rw[yt (by rw[OL];exact a)];refine T6 λi=>?_;by_cases hi:i<18
 .by_cases e:p=i
  .subst e;rw[Xz (by rw[OL];exact a)];simp[Xr,a]
  rw[XJ e];have b:(i<p)=(i<p+1):=by apply propext;omega
  simp[Xr,hi,b]
 rw[Wk (by simp[OL];omega),Wk (by simp[OL];omega)]
abbrev OJ(s:ByteArray):Ψ:=.Z' (Xr s s.size)
abbrev VI(l:List ByteArray):Ψ:=.sl false 18 (l.map OJ)
def Vw(g:ZN)(D:List (ψ)):List ByteArray:=D.map (UL g)
def RQ(l:List ByteArray):Nat:=(l.map ByteArray.size).foldl max 0
def lp(l:List ByteArray)(s:ByteArray):RQ (l++[s])=max (RQ l) s.size:=by simp[RQ,SI]
section
variable{g:ZN}{P:List (List ZM)}{C:List (ψ)}
def xh(x:∀w∈g.words,X0 w=true)(D:List (ψ))(ai:D.length<=156)(N:∀f∈D,Wn g f):Μ prog 57 [Vj g P C,Yv D] (.Z7 [VI (Vw g D),I (RQ (Vw g D))]):=by
 refine Ν.body Τ func57 U U ntmps57 U U o ?_;refine Χ ?_;obtain⟨M,m⟩:∃M:Nat->Nat,∀j,M j=RQ (Vw g (D.take j)):=⟨_,λ_=>rfl⟩;obtain⟨R,i⟩:∃R:Nat->μ,∀j,R j=(Vw g (D.take j)).map OJ:=⟨_,λ_=>rfl⟩;have O:∀j,j<=D.length->(R j).length=j:=λj K=>by rw[i];simp[Vw];omega
 refine W.pad (σ':=[]) 114 18 U o [(2,.Κ (Yl g P C)),(14,Yv D),(15,I D.length),(16,I 0),(6,.ms 0 0 0 0),(7,I 0)] (λp b=>by
  simp at b;rcases b with rfl|rfl|rfl|rfl|rfl|rfl<;>first|exact .same _|exact .nil) ?_
 refine W.iter (λj:Nat=>j<=D.length) (λj=>[(2,.Κ (Yl g P C)),(14,Yv D),(15,I D.length),(16,I j),(6,.ms 0 j 0 j),(7,I (M j))]) (λj=>[.cells 114 18 (R j)]) (λj=>D.length-j) 0 (Γ _) (by simp[i,Vw]) (by simp[m,RQ,Vw]) (λj K Q=>?_);refine Χ ?_;by_cases k:j<D.length
 .refine Β (by simp[k]) ?_;have S:=O j K;have y:=N D[j] (YW k);refine YC k λl c=>?_;apply c;refine ZA ?_;refine ZB (A:=[10]) Τ λl c=>ς ?_;apply c;refine ο λl c=>?_;refine Μ.d (CE g P C x D[j] y) (ς ?_);apply c;obtain⟨t,n⟩:=ν (UL g D[j]);have T:∀p,p<t.size->UO t p=true:=λp b=>by rw[n]at b ⊢;exact xQ x y b
  have aj:t.size<=18:=by rw[n];exact Fv x y
  rw[<-n];refine ο λl c=>?_;apply c;have V:Xr t 0=List.replicate 18 (.z (.int .i32 0)):=rfl
  repeat apply Ζ
  refine W.iter (λp:Nat=>p<=t.size) (λp=>[(2,.Κ (Yl g P C)),(14,Yv D),(15,I D.length),(16,I j),(6,.ms 0 j 0 j),(7,I (M j)),(10,.Ο 1 1 0 0),(11,ZQ t),(24,.it 2)]) (λp=>[.cells 114 18 (R j),.cells 114 18 [.Z' (Xr t p)],.str t p]) (λp=>t.size-p) 0 (Γ _) (by rw[V];rfl) o (λp b X=>?_)
  repeat apply Ζ
  by_cases B:p<t.size
  .have hd:=IK (T p B)
   have u:=OL t p
   have Y:p<18:=J
   have Z:List.take p (Xr t p)++Ψ.z (.int .i32 ((t.get! p).toNat:Int))::List.drop (p+1) (Xr t p)=Xr t (p+1):=by simpa using lq (s:=t) Y
   have aa:(p:Int)<18:=J
   have ab:p<=17:=J
   have ad:p+1<=18:=J;refine γ B ?_;refine Β U ?_;rw[hd];refine Χ ?_;refine YC (Ξ u (Ξ aa (Ξ ab (Ξ ad Z)))) λl c=>?_;apply c;refine Χ ?_;refine W.to (X (p+1) B J) U o
  obtain rfl:p=t.size:=J
  refine Χ ?_;refine Δ U ?_;refine W.exit U ?_
  repeat apply Ζ
  have u:=OL t t.size
  have ae:List.take 18 (Xr t t.size)=Xr t t.size:=Wl (by rw[u];exact Z3 _)
  have af:=Ff t t.size
  have ag:j<=4294967295:=J;refine ZB (A:=[35]) Τ λl c=>?_;simp;(repeat (rw[Ι];simp[u,ae,af,S,ag]));have L:Vw g (D.take (j+1))=Vw g (D.take j)++[t]:=by
   rw[n];unfold Vw;rw[Ws k,WT];rfl
  have E:R j++[.Z' (Xr t t.size)]=R (j+1):=by rw[i,i,L,WT];rfl
  have F:(if M j<t.size then(t.size:Int) else(M j:Int))=((M (j+1):Nat):Int):=by
   rw[m (j+1),L,lp,<-m];split<;>omega
  rw[E,F];apply c;clear c l;refine W.cut 1 (Γ _) [(2,.Κ (Yl g P C)),(14,Yv D),(15,I D.length),(16,I j),(6,.ms 0 (j+1) 0 (j+1)),(7,I (M (j+1)))] o (λid r ak ah=>?_) (λp b=>?_) ?_
  .obtain rfl:id=0:=J
   cases ah;intro e v a H;rw[i]at v;obtain⟨s,_,rfl⟩:=ZG.1 v;exact OK _ _ _ a H
  .simp at b;rcases b with rfl|rfl|rfl|rfl|rfl|rfl<;>exact .low (by simp[ε,S2])
  refine Χ ?_;refine W.to (Q (j+1) k J) U (by simp[YR k (show D.length<2 ^ 62 by omega)])
 refine Δ (by simp;omega) ?_;refine W.exit U ?_;refine Χ ?_;obtain rfl:j=D.length:=J;have E:R D.length=(Vw g D).map OJ:=by rw[i,OG]
 have F:M D.length=RQ (Vw g D):=by rw[m,OG]
 rw[E,F];refine W.cut 0 (Γ _) [(4,VI (Vw g D)),(5,I (RQ (Vw g D)))] (Γ _) (λid r h=>J) (λp b=>?_) ?_
 .simp at b;rcases b with rfl|rfl
  .exact Yx.own (id:=0) (t:=114) (Γ _) U (by simp[Vw]) (λe v a H=>by
    obtain⟨s,_,rfl⟩:=ZG.1 v;exact OK _ _ _ a H)
  exact .low (by simp[ε])
 refine W.rt ?_;exact .of U
end
end Go.TL
namespace Go.TL
open Go.Proofs.Tryz
open Go.Proofs
variable[Z8]
def MW(y):∀a∈(YH y).cells,ω 0 a:=by simp[Ψ.cells]
def ln(n):Μ prog 203 [YH n] (ZU false):=by
 apply Ν.body Τ func203 U U ntmps203 U U o;refine Χ ?_;refine W.rt ?_;exact .of U
def ll(a b):Μ prog 152 [YH a,YH b] (ZU (decide (a<b))):=by
 apply Ν.body Τ func152 U U ntmps152 U U o;refine Χ ?_;refine ο λe c=>?_;refine Μ.d (ln a) (ς ?_);apply c;refine Χ ?_;refine W.Y0 ?_;rw[show decide (a<b)=decide (a<b) from rfl];rfl
def lk(d n a b)(S:d.size=n)(ad:a<=b)(ae:b<=n)(af:n<2 ^ 40)  :
  Ν prog 146 [.ms 0 n 0 n,I a,I b] [.cells 21 1 (d.toList.map YH)] (λr s=>r=.Z7 []/\s=[.cells 21 1 ((Go.Sort.insertionSort (Go.Sort.ltInt) d a b).toList.map YH)]) (λ_ _=>False):=by
 apply Ν.body Τ func146 U U ntmps146 U U o;refine Χ ?_;have T:=Yh (show a+1<2 ^ 62 by omega);refine W.iter (λq=>q.2.size=n/\Go.Sort.insOuter (Go.Sort.ltInt) a b q.1 q.2=Go.Sort.insertionSort (Go.Sort.ltInt) d a b) (λq=>[(0,.ms 0 n 0 n),(1,I a),(2,I b),(6,I q.1)]) (λq=>[.cells 21 1 (q.2.toList.map YH)]) (λq=>b-q.1) (a+1,d) ⟨S,U⟩ U (by simpa using T) (λq hi F=>?_);let ⟨i,e⟩:=q;let ⟨H,w⟩:=hi;simp only at H w;refine Χ ?_;by_cases l:i<b
 .apply Β (by simp[l]);refine Χ ?_;refine W.iter (λq=>q.2.size=n/\q.1<=i/\Go.Sort.insInner (Go.Sort.ltInt) a q.1 q.2=Go.Sort.insInner (Go.Sort.ltInt) a i e) (λq=>[(0,.ms 0 n 0 n),(1,I a),(2,I b),(6,I i),(7,I q.1)]) (λq=>[.cells 21 1 (q.2.toList.map YH)]) (λq=>q.1) (i,e) ⟨H,Z3 _,U⟩ U o (λq c V=>?_);let ⟨j,f⟩:=q;let ⟨k,X,B⟩:=c;simp only at k X B;have K:Go.Sort.insInner (Go.Sort.ltInt) a j f=f->Go.Sort.insOuter (Go.Sort.ltInt) a b (i+1) f=Go.Sort.insertionSort (Go.Sort.ltInt) d a b:=λhd=>by
   rw[<-w,<-hd,B];conv=>rhs;rw[Go.Sort.insOuter,if_pos l]
  let ⟨L,g⟩:=ν (f.toList.map YH)
  have M:L.length=n:=by rw[g];simpa using k
  refine W.to (σ':=[.cells 21 1 L]) (env':=[(0,.ms 0 n 0 n),(1,I a),(2,I b),(6,I i),(7,I j)]) ?_ (by rw[g]) o
  repeat apply Ζ
  by_cases c:a<j
  .obtain⟨p,N⟩:∃p,j=p+1:=⟨j-1,J⟩;have C:IntKind.i64.wrap (j-1)=p:=by have:=Yh (show p<2 ^ 62 by omega);rw[N];simpa using this
   have O:j<n:=J
   have P:p<n:=J
   have Y:¬j=p:=J
   let ⟨x,m⟩:=ν (f[j]!)
   let ⟨y,t⟩:=ν (f[p]!)
   have D:L[j]?=some (YH x):=by rw[g,m,YK,Xf,Rs J];rfl
   have E:L[p]?=some (YH y):=by rw[g,t,YK,Xf,Rs J];rfl
   have Q:∀h,L[j]=YH x:=λh=>by have:=D;rw[ξ h]at this;exact Xq this
   have R:∀h,L[p]=YH y:=λh=>by have:=E;rw[ξ h]at this;exact Xq this
   have u:Go.Sort.insInner (Go.Sort.ltInt) a j f=if Go.Sort.ltInt x y=true then Go.Sort.insInner (Go.Sort.ltInt) a p (Go.Sort.swp f j p) else f:=by
    subst N;rw[Go.Sort.insInner,m,t];simp[c]
   have Z:(Go.Sort.swp f j p).toList.map YH=(L.set j (YH y)).set p (YH x):=by rw[g,m,t];simp[Go.Sort.swp]
   have sz:(Go.Sort.swp f j p).size=n:=by simp[Go.Sort.swp,k]
   have aa:=g;clear m t;refine W.draw (A:=[]) Τ mixed λag ab=>SY (Ξ c (Ξ C (Ξ M (Ξ O (Ξ P (Ξ D (Ξ E (Ξ Q R)))))))) ?_;apply Wf (Μ.p (ll x y) (ZJ.refl _) o o);simp;(repeat (rw[Y3];simp));try rw[YL]
   refine X5 (ab _ _ ?_);by_cases v:x<y
   .apply Β (by simp[v])
    repeat apply Ζ
    refine VB (Ξ c (Ξ C (Ξ M (Ξ O (Ξ P (Ξ D (Ξ E (Ξ Q (Ξ R Y))))))))) ?_;refine Χ ?_;refine W.to (V (p,Go.Sort.swp f j p) ⟨sz,by simp;omega,?_⟩ (by simp;omega)) ?_ ?_
    .rw[<-B,u,if_pos (by simp[Zh,Go.Sort.ltInt,v])]
    .rw[Z]
    simp[C]
   apply Δ (by simp[v]);apply W.exit U;refine Χ ?_;apply W.to (F (i+1,f) ⟨k,K (by rw[u,if_neg (by simp[Zh,Go.Sort.ltInt,v])])⟩ (by simp;omega)) (by rw[aa]);have:=Yh (show i+1<2 ^ 62 by omega);simpa using this
  have u:Go.Sort.insInner (Go.Sort.ltInt) a j f=f:=by
   cases j with
   | zero=>rfl
   | succ p=>rw[Go.Sort.insInner];simp[c]
  refine VB c ?_;apply Δ U;apply W.exit U;refine Χ ?_;apply W.to (F (i+1,f) ⟨k,K u⟩ (by simp;omega)) (by rw[g]);have:=Yh (show i+1<2 ^ 62 by omega);simpa using this
 apply Δ (by simp[l]);apply W.exit U;have Υ:Go.Sort.insOuter (Go.Sort.ltInt) a b i e=e:=by rw[Go.Sort.insOuter,if_neg l]
 exact W.nil ⟨_,U,U,by rw[<-w,Υ]⟩
def lj(d)(n f:Nat)(g:d.size=n)(k:n<=12)  :
  Ν prog 102 [.ms 0 n 0 n,I 0,I n,I f] [.cells 21 1 (d.toList.map YH)] (λr s=>r=.Z7 []/\s=[.cells 21 1 ((Go.Sort.insertionSort (Go.Sort.ltInt) d 0 n).toList.map YH)]) (λ_ _=>False):=by
 apply Ν.body Τ func102 U U ntmps102 U U o;have h:=Yh (show n<2 ^ 62 by omega);have Υ:n<=12:=J;refine Χ ?_;refine .loop ?_;refine γ h ?_;apply Β (by simp;omega);refine ο λl i=>?_;apply Ν.one (lk d n 0 n g (Γ _) (Z3 _) J) 0 U (λe b a c=>by
  obtain⟨y,j,rfl⟩:=ZG.1 b;exact MW y a c) (λe b a c=>by
  obtain⟨y,j,rfl⟩:=ZG.1 b;exact MW y a c) (by simp[Uj,PZ]) (by simp[Xc]) (by simp[Ui,TW])
 simp;(repeat (rw[Ι];simp));apply i;exact W.ret ⟨_,U,U,U⟩
def lh(d n)(f:d.size=n)(g:n<=12)  :
  Ν prog 58 [.ms 0 n 0 n] [.cells 21 1 (d.toList.map YH)] (λr s=>r=.Z7 []/\s=[.cells 21 1 ((Go.Sort.insertionSort (Go.Sort.ltInt) d 0 n).toList.map YH)]) (λ_ _=>False):=by
 apply Ν.body Τ func58 U U ntmps58 U U o;have h:=Yh (show n<2 ^ 62 by omega);have Υ:IntKind.u64.wrap n=n:=by unfold IntKind.wrap;simp[IntKind.bits];omega
 refine γ f ?_;(repeat apply Ζ);refine Yz λk i=>?_;simp;(repeat (rw[Ι];simp[h,Υ]));refine Μ.d (Np n J) (ς ?_);apply Ν.one (lj d n (Go.Sort.bitsLen n) f g) 0 U (λe b a c=>by
  obtain⟨y,j,rfl⟩:=ZG.1 b;exact MW y a c) (λe b a c=>by
  obtain⟨y,j,rfl⟩:=ZG.1 b;exact MW y a c) (by simp[Uj,PZ]) (by simp[Xc]) (by simp[Ui,TW])
 simp;(repeat (rw[Ι];simp));apply i;exact W.nil ⟨_,U,U,U⟩
def Fe{f:ψ}{L}(a:L=f.map YH){j x}(h:f[j]?=some x):L[j]?=some (YH x)/\∀h:j<L.length,L[j]=YH x:=by
 have e:L[j]?=some (YH x):=by rw[a,YK,h];rfl
 exact⟨e,λb=>by rw[ξ b]at e;exact Xq e⟩
def lg(l n)(d:l.length=n)(aG:n<2 ^ 40):Ν prog 59 [.ms 0 n 0 n] [.cells 21 1 (l.map YH)]
  (λr s=>∃ad,(X7 l++ad).length=n/\r=.ms 0 n 0 (X7 l).length/\s=[.cells 21 1 ((X7 l++ad).map YH)]) (λ_ _=>False):=by
 apply Ν.body Τ func59 U U ntmps59 U U o;by_cases w:(n:Int)<2
 .refine γ (Ξ d w) ?_;apply Β U;refine γ d ?_;refine W.ret ⟨_,U,[],?_⟩;have e:X7 l=l:=by
   match l,d with
   | [],_=>rfl
   | [a],_=>rfl
   | a::b::l,d=>simp at d;omega
  rw[e,TM,d];exact⟨U,U,U⟩
 refine γ (Ξ d w) ?_;apply Δ U;refine Χ ?_;refine W.iter (λk=>1<=k/\k<=n/\X7 (l.take k)=l.take k) (λk=>[(0,.ms 0 n 0 n),(3,I k)]) (λ_=>[.cells 21 1 (l.map YH)]) (λk=>n-k) 1 ⟨Z3 _,J,by
  match l,d with
  | [],d=>rfl
  | a::l,d=>rfl⟩ rfl o (λk ak al=>?_)
 let ⟨aH,c,K⟩:=ak;refine γ d ?_;by_cases D:k<n
 .apply Β (by simp[D])
  repeat apply Ζ
  obtain⟨p,ae⟩:∃p,k=p+1:=⟨k-1,J⟩;have am:IntKind.i64.wrap (k-1)=p:=by have:=Yh (show p<2 ^ 62 by omega);rw[ae];simpa using this
  have an:p<n:=J
  have Q:k<l.length:=J
  have ao:p<l.length:=J
  let ⟨L,h⟩:=ν (l.map YH)
  have N:L.length=n:=by rw[h];simpa using d
  let ⟨R,S⟩:=Fe h (ξ Q)
  let ⟨T,V⟩:=Fe h (ξ ao);refine W.to (σ':=[.cells 21 1 L]) (env':=[(0,.ms 0 n 0 n),(3,I k)]) ?_ (by rw[h]) o;generalize X:l[k]=x at R S;generalize ap:l[p]=y at T V;refine VB (Ξ D (Ξ am (Ξ N (Ξ an (Ξ R (Ξ S (Ξ T V))))))) ?_;have af:X7 (l.take (k+1))=X7 (l.take k)++if x=y then [] else [x]:=by
   rw[Gp l J Q J];simp only[ae,Nat.add_sub_cancel]at X ⊢;rw[X,ap]
  by_cases O:x=y
  .apply Β (by simp[O])
   repeat apply Ζ
   refine W.Wr (A:=[]) Τ [(0,.ms 0 n 0 n),(3,I k),(4,.ms 0 n k (n-k))] [.cells 21 1 L] ?_ (by
    (try simp);(repeat (rw[Ι];simp[N,RO D]));(try simp[N,RO D]))
   refine Χ ?_;have ag:X7 (l.take (k+1))=l.take k:=by rw[af,if_pos O,TM,K]
   refine W.iter (λq=>1<=q.2.1/\k+q.2.1<=n/\q.2.2.length=n/\q.1<k+q.2.1/\q.1=(X7 (l.take (k+q.2.1))).length/\q.2.2.take q.1=X7 (l.take (k+q.2.1))/\∀j,k+q.2.1-1<=j->j<n->q.2.2[j]?=l[j]?)
    (λq=>[(0,.ms 0 n 0 n),(3,I q.1),(4,.ms 0 n k (n-k)),(5,I q.2.1)]) (λq=>[.cells 21 1 (q.2.2.map YH)]) (λq=>n-q.2.1) (k,1,l) ⟨Z3 _,by simp;omega,d,o,by simp only[ag];simp;omega,by simp only[ag],λj _ _=>rfl⟩ (by rw[h]) o (λq aq ah=>?_)
   let ⟨m,c,f⟩:=q
   let ⟨ar,au,i,av,E,F,H⟩:=aq;simp only at ar au i av E F H;clear h N R S T V;refine γ i ?_;by_cases hd:c<n-k
   .have aI:c<((n-k:Nat):Int):=J
    apply Β (by simp[hd])
    repeat apply Ζ
    obtain⟨t,aw⟩:∃r,c=r+1:=⟨c-1,J⟩;have ax:IntKind.i64.wrap (c-1)=t:=by have:=Yh (show t<2 ^ 62 by omega);rw[aw];simpa using this
    have ay:t<n-k:=J
    let ⟨M,B⟩:=ν (f.map YH)
    have Y:M.length=n:=by rw[B];simpa using i
    have ai:f[k+c]?=some (l[k+c]'J):=by rw[H _ J J,ξ]
    have hv:f[k+t]?=some (l[k+t]'J):=by rw[H _ J J,ξ]
    have g:=Gp l (p:=k+c) J J J
    have az:l[k+c-1]'J=l[k+t]'J:=by congr 1;omega
    rw[az]at g;generalize l[k+c]'J=u at ai g;generalize l[k+t]'J=v at hv g;let ⟨Z,aa⟩:=Fe B ai;let ⟨aA,aB⟩:=Fe B hv;refine W.to (σ':=[.cells 21 1 M]) (env':=[(0,.ms 0 n 0 n),(3,I m),(4,.ms 0 n k (n-k)),(5,I c)]) ?_ (by rw[B]) o;have C:m<n:=J;refine W.draw (A:=[]) Τ mixed λaJ aC=>?_;simp;(repeat (rw[Y3];simp[hd,ax,ay,Y,Z,aa,aA,aB]));try rw[YL];refine X5 (aC _ _ ?_)
    by_cases P:u=v
    .apply Δ (by simp[P]);refine Χ ?_;rw[if_pos P,TM]at g;apply W.to (ah (m,c+1,f) ⟨o,by simp;omega,i,by simp;omega,by simp only[<-UJ,g];exact E,by simp only[<-UJ,g];exact F,λj ab w=>H j (by simp at ab;omega) w⟩ (by simp;omega)) (by rw[B]);have:=Yh (show c+1<2 ^ 62 by omega);simpa using this
    apply Β (by simp[P]);rw[if_neg P]at g
    repeat apply Ζ
    refine W.Wr (A:=[]) Τ [(0,.ms 0 n 0 n),(3,I m),(4,.ms 0 n k (n-k)),(5,I c)] [.cells 21 1 ((f.set m u).map YH)] ?_ (by
     (try simp);(repeat (rw[Ι];simp[hd,Y,C,Z,aa]));(try simp[hd,Y,C,Z,aa]);subst B;simp)
    refine Χ ?_;refine W.to (ah (m+1,c+1,f.set m u) ⟨o,by simp;omega,by simpa using i,by simp;omega,by simp only[<-UJ,g];simp;exact E,?_,λj ab w=>?_⟩ (by simp;omega)) o ?_
    .simp only[<-UJ,g];rw[<-F,Ws (by simp;omega),List.take_set_of_le (Z3 _)];simp
    .simp at ab;rw[XJ J];exact H j J w
    have aj:=Yh (show c+1<2 ^ 62 by omega)
    have Υ:=Yh (show m+1<2 ^ 62 by omega);simp at aj Υ ⊢;exact⟨Υ,aj⟩
   apply Δ (by simp[hd]);apply W.exit U;have aD:k+c=n:=J;have aE:l.take n=l:=Wl J;rw[aD,aE]at E F
   repeat apply Ζ
   have C:m<=n:=J;refine W.Wr (A:=[]) Τ [(0,.ms 0 n 0 n),(3,I m)] [.cells 21 1 ((X7 l++List.replicate (n-m) 0).map YH)] ?_ (by
    (try simp);(repeat (rw[Ι];simp[i,C]));(try simp[i,C]);rw[<-J4,F,OH (by simp;omega),TM])
   have aF:(X7 l).length+(n-m)=n:=J;refine γ (Ξ aF C) ?_;refine W.ret ⟨_,U,List.replicate (n-m) 0,by simp;omega,?_,o⟩;rw[<-E];rfl
  apply Δ (by simp[O]);refine Χ ?_;refine W.to (al (k+1) ⟨J,J,?_⟩ J) (by rw[h]) ?_
  .rw[af,if_neg O,K,<-X,<-Ws Q]
  have:=Yh (show k+1<2 ^ 62 by omega);simpa using this
 apply Δ (by simp[D]);apply W.exit U;refine Χ ?_;refine W.ret ⟨_,U,[],?_⟩;have e:X7 l=l:=by rw[Wl J]at K;exact K
 rw[e,TM,d];exact⟨U,U,U⟩
end Go.TL
namespace Go.TL
open Go.Proofs.Tryz
open Go.Conc Go.Proofs
variable[Z8]
def xg(N:Nat):Prop:=∀(l:ψ),l.length<=N->Ν prog 58 [.ms 0 l.length 0 l.length] [.cells 21 1 (l.map YH)] (λr s=>r=.Z7 []/\s=[.cells 21 1 ((WQ l).map YH)]) (λ_ _=>False)
def lf:xg 12:=λl a=>by
 have h:=lh l.toArray l.length o a;rw[Gl Go.Sort.swo_ltInt Ab l]at h;have e:(λx y:Int=>!Go.Sort.ltInt y x)=λx y=>decide (x<=y):=by
  funext x y;rw[Pv];simp[Go.Sort.ltInt]
 rw[e]at h;exact h
def RP(s:ByteArray)(i:Nat):Int:=if i<s.size then((s.get! i).toNat:Int) else 0
def T8(a:Int)(s:ByteArray):Int:=if a<18/\RP s a.toNat≠0 then RP s a.toNat else 45
def xf{s:ByteArray}{i:Nat}(h:i<18):(Xr s s.size)[i]?=some (YH (RP s i)):=by simp[Xr,h,RP]
def Fc(g:ZN)(D:List (ψ))(a:Int):ByteArray:=spell (X7 (WQ ((Vw g D).map (T8 a))))
def Qi(g:ZN)(b:Int)(P:List (List ZM))(C:List (ψ))(a:Int):ByteArray×Int:=
 if b≠0 then(⟨#[]⟩,b) else if a<0 then(⟨#[]⟩,1) else if VT g b P C≠0 then(⟨#[]⟩,VT g b P C) else(Fc g (XQ g P C) a,0)
section
variable{g:ZN}{ZL:Int}{P:List (List ZM)}{C:List (ψ)}
def lb(H:Ra g ZL P C)(a:Int)(N:Nat)(aR:N<2 ^ 20)(ao:xg N)(ap:ZL=0->(XQ g P C).length<=N):Μ prog 20 [VX g,I a] (.Z7 [ZQ (Qi g ZL P C a).1,I (Qi g ZL P C a).2]):=by
 have B:=Cm H;refine Ν.body Τ func20 U U ntmps20 U U o ?_;refine Χ ?_;refine ο λi b=>?_;refine Μ.d (H.check) (ς ?_);apply b;refine Χ ?_;by_cases m:ZL=0
 case neg=>
  refine Β (by simp[m]) ?_;refine Χ ?_;have e:Qi g ZL P C a=(⟨#[]⟩,ZL):=by unfold Qi;rw[if_pos m]
  rw[e];refine W.rt ?_;exact .of U
 refine Δ (by simp[m]) ?_;refine Χ ?_;by_cases t:a<0
 .refine Β (by simp[t]) ?_;refine Χ ?_;have e:Qi g ZL P C a=(⟨#[]⟩,1):=by unfold Qi;rw[if_neg (by simpa using m),if_pos t]
  rw[e];refine W.rt ?_;exact .of U
 refine Δ (by simp[t]) ?_;by_cases u:VT g ZL P C=0
 case neg=>
  have e:Qi g ZL P C a=(⟨#[]⟩,VT g ZL P C):=by unfold Qi;rw[if_neg (by simpa using m),if_neg t,if_pos u]
  rw[e];obtain⟨l,aq,ar,V,au⟩:=Ck g ZL P C;rw[aq]at B;generalize VT g ZL P C=av at u B;generalize Ua g ZL P C=D at B;refine ZA ?_;refine ZB (A:=[7]) Τ λi b=>ς ?_;refine Μ.c B (ZJ.refl _) o (by simpa using au) ?_;simp
  repeat (rw[Ι];simp[ar,V])
  apply b;refine Χ ?_;refine Β (by simp[u]) ?_;refine Χ ?_;refine W.drop (h:=0) (Γ _) (Γ _) o U [(4,ZQ ⟨#[]⟩),(5,I av)] o ?_;refine W.rt ?_;exact .of U
 subst m;have aw:=(Cn u).2;have ax:Q7 g 0 P C=Vj g P C:=by unfold Q7;rw[if_pos U]
 have Υ:Ua g 0 P C=XQ g P C:=by unfold Ua;rw[if_pos U]
 rw[ax,Υ,u]at B;have e:Qi g 0 P C a=(Fc g (XQ g P C) a,0):=by unfold Qi;rw[if_neg o,if_neg t,if_neg (by simpa using u)]
 rw[e];have ai:∀f∈XQ g P C,Wn g f:=λf ay=>Cl ay;have aj:=Fg g P C (H.Yf U);have az:=ap U;generalize XQ g P C=D at aw aj B ai az;have aA:=(H.work U).words;refine ZA ?_;refine ZB (A:=[7]) Τ λi b=>ς ?_;refine Μ.c B (ZJ.refl _) o o ?_;simp;(repeat (rw[Ι];simp));apply b;refine Χ ?_;refine Δ o ?_;refine ο λi b=>?_;refine Μ.c (xh (P:=P) (C:=C) aA D aj ai) (ZJ.refl _) o (by
  have aB:∀s k,∀a∈Xr s k,ω 0 a:=λs k=>OK s k 0;simp[Ψ.cells];exact λs _=>aB _ _) ?_
 simp;(repeat (rw[Ι];simp));apply b;obtain⟨T,K⟩:=ν (Vw g D);have aS:T.length=D.length:=by rw[K];simp[Vw]
 have ak:Fc g D a=spell (X7 (WQ (T.map (T8 a)))):=by rw[K];rfl
 rw[ak,<-K];clear K ak;refine Χ ?_;have al:∀e∈T.map OJ,∀a∈e.cells,ω 0 a:=λe E a t=>by
  obtain⟨s,_,rfl⟩:=ZG.1 E;exact OK _ _ _ a t
 obtain⟨n,rfl⟩:∃n:Nat,a=n:=⟨a.toNat,J⟩;refine W.cut 0 (Γ _) [(1,I n),(38,VI T),(39,I T.length),(40,I 0),(12,.sl true 0 [])] (Γ _) (λid r h=>J) (λp w=>?_) ?_
 .simp at w;rcases w with rfl|rfl|rfl|rfl|rfl
  .exact .low (by simp[ε])
  .exact .low (.sl al)
  .exact .low (by simp[ε])
  .exact .low (by simp[ε])
  exact .low (by simp[ε])
 refine W.pad (σ':=[]) 21 1 U o [(1,I n),(38,VI T),(39,I T.length),(40,I 0),(12,.ms 0 0 0 0)] (λp w=>by
  simp at w;rcases w with rfl|rfl|rfl|rfl|rfl<;>first|exact .same _|exact .nil) ?_
 refine W.iter (λj:Nat=>j<=T.length) (λj=>[(1,I n),(38,VI T),(39,I T.length),(40,I j),(12,.ms 0 j 0 j)]) (λj=>[.cells 21 1 ((T.map λs=>YH (T8 n s)).take j)]) (λj=>T.length-j) 0 (Γ _) U o (λj aT aC=>?_);refine Χ ?_;by_cases x:j<T.length
 .refine Β (by simp[x]) ?_
  repeat apply Ζ
  obtain⟨s,X⟩:=ν (T[j]);have aU:(T.map OJ)[j]?=some (OJ s):=by rw[X,YK,ξ x];rfl
  have aD:∀h:j<T.length,T[j]=s:=λ_=>X.symm
  have Y:=OL s s.size
  have aE:List.take 18 (Xr s s.size)=Xr s s.size:=Wl (by rw[Y];exact Z3 _)
  have V:=Ff s s.size;refine ZA ?_;refine ZB (A:=[14]) Τ λi b=>Wb (Ξ x (Ξ aD (Ξ Y (Ξ aE V)))) ?_;apply b;have O:((T.map λs=>YH (T8 n s)).take j).length=j:=by simp;omega
  have Z:j<=4294967295:=J
  have y:(T.map λs=>YH (T8 n s)).take j++[YH (T8 n s)]=(T.map λs=>YH (T8 n s)).take (j+1):=by
   rw[Ws (by simpa using x)];simp[X]
  generalize (T.map λs=>YH (T8 n s)).take j=L at O y ⊢;obtain⟨aa,Q⟩:=ν ((T.map λs=>YH (T8 n s)).take (j+1));rw[<-Q]at y;have R:=aC (j+1) x J;rw[<-Q]at R;have aV:min j T.length=j:=J;refine Χ ?_;have aF:∀e∈aa,∀a∈e.cells,ω 1 a:=λe E a t=>by
   rw[Q]at E;obtain⟨s,_,rfl⟩:=ZG.1 (MU E);simp[Ψ.cells]at t;subst t;exact .z _
  have ab:∀(id:Nat)(r:Row),id<1->[Row.cells 21 1 aa,.cells 114 18 [.Z' (Xr s s.size)]][id]?=some r->YO 1 r:=λid r aW u=>by
   obtain rfl:id=0:=J;cases u;exact aF
  have ad:∀(env:κ),ε env 1=I n->ε env 38=VI T->ε env 39=I T.length->ε env 40=I j->ε env 12=.ms 0 (j+1) 0 (j+1)->∀p∈[(1,I n),(38,VI T),(39,I T.length),(40,I j),(12,Ψ.ms 0 (j+1) 0 (j+1))],Yx 1 [Row.cells 21 1 aa,.cells 114 18 [.Z' (Xr s s.size)]] (ε env p.1) p.2:=λenv ae S af aG aH p w=>by
   simp at w;rcases w with rfl|rfl|rfl|rfl|rfl
   .rw[ae];exact .low (.z _)
   .rw[S];exact .low (.sl λe E a t=>(al e E a t).mono J)
   .rw[af];exact .low (.z _)
   .rw[aG];exact .low (.z _)
   rw[aH];exact .low (by simp[S2])
  clear Q;by_cases F:(n:Int)<18
  .have am:n<18:=J
   have ag:=xf (s:=s) am;obtain⟨v,hv⟩:=ν (RP s n);rw[<-hv]at ag;have aI:∀h:n<(Xr s s.size).length,(Xr s s.size)[n]=YH v:=λh=>by
    rw[ξ h]at ag;exact Xq ag
   have ah:List.drop n (Xr s s.size)=YH v::List.drop (n+1) (Xr s s.size):=by
    rw[Pw (by rw[Y];exact am),aI]
   by_cases m:v=0
   .have ZL:T8 n s=45:=by unfold T8;rw[if_neg];simp[<-hv,m]
    refine YC (Ξ F (Ξ ah m)) λi b=>?_;apply b;refine Δ (by simp[m]) ?_;rw[ZL]at y;refine ZA ?_;refine ZB (A:=[58]) Τ λi b=>Wb (Ξ O (Ξ Z y)) ?_;apply b;refine W.cut 1 (Γ _) [(1,I n),(38,VI T),(39,I T.length),(40,I j),(12,.ms 0 (j+1) 0 (j+1))] o ab (ad _ U U U U U) ?_;refine Χ ?_;exact W.to R U (by simp[YR x (show T.length<2 ^ 62 by omega)])
   have ZL:T8 n s=v:=by unfold T8;rw[if_pos ⟨F,by simp[<-hv,m]⟩];simp[<-hv]
   refine YC (Ξ F (Ξ ah m)) λi b=>?_;apply b;refine Β (by simp[m]) ?_;refine YC (Ξ F ah) λi b=>?_;apply b;rw[ZL]at y;refine ZA ?_;refine ZB (A:=[58]) Τ λi b=>Wb (Ξ O (Ξ Z y)) ?_;apply b;refine W.cut 1 (Γ _) [(1,I n),(38,VI T),(39,I T.length),(40,I j),(12,.ms 0 (j+1) 0 (j+1))] o ab (ad _ U U U U U) ?_;refine Χ ?_;exact W.to R U (by simp[YR x (show T.length<2 ^ 62 by omega)])
  have ZL:T8 n s=45:=by unfold T8;rw[if_neg (λh=>F h.1)]
  refine YC F λi b=>?_;apply b;refine Δ U ?_;rw[ZL]at y;refine ZA ?_;refine ZB (A:=[58]) Τ λi b=>Wb (Ξ O (Ξ Z y)) ?_;apply b;refine W.cut 1 (Γ _) [(1,I n),(38,VI T),(39,I T.length),(40,I j),(12,.ms 0 (j+1) 0 (j+1))] o ab (ad _ U U U U U) ?_;refine Χ ?_;exact W.to R U (by simp[YR x (show T.length<2 ^ 62 by omega)])
 obtain rfl:j=T.length:=J
 refine Δ o ?_;refine W.exit U ?_;rw[Wl o];have aJ:(T.map λs=>YH (T8 n s))=(T.map (T8 n)).map YH:=by rw[Li];rfl
 rw[aJ];obtain⟨M,an⟩:=ν (T.map (T8 n));have aK:T.length=M.length:=by rw[an];simp
 rw[<-an];refine W.to (σ':=[.cells 21 1 (M.map YH)]) (env':=[(12,.ms 0 M.length 0 M.length)]) ?_ U (by simp[aK]);refine ο λi b=>?_;refine Ν.one (ao M J) 0 U (Pa MW) (Pa MW) (by simp[Uj]) (by simp[Xc]) (by simp[Ui]) ?_;simp[Yt,WE];(repeat (rw[Ι];simp));apply b;refine ο λi b=>?_;have aL:(WQ M).length=M.length:=by simp[WQ]
 have aM:=lg (WQ M) M.length aL J;refine Ν.D2 aM 0 U (Pa MW) (by simp[Uj]) (by simp[Ui]) (λa s ⟨aN,ae,S,af⟩=>⟨_,af,Pa MW,by subst S;simp[Uj],?_⟩);subst S;have aO:(X7 (WQ M)).length+aN.length=M.length:=by rw[<-VH];exact ae
 have aP:(X7 (WQ M)).length<=M.length:=J
 have aQ:=r6 (X7 (WQ M));simp[Ui];(repeat (rw[Ι];simp[aO,aP,aQ]));apply b;refine Χ ?_;refine W.drop (h:=0) (Γ _) (Γ _) o U [(4,ZQ (spell (X7 (WQ M)))),(5,I 0)] o ?_;refine W.rt ?_;exact .of U
end
def k'{s:ByteArray}{n:Nat}(h:n<18):List.drop n (Xr s s.size)=YH (RP s n)::List.drop (n+1) (Xr s s.size):=by
 have a:=xf (s:=s) h
 have b:=OL s s.size;rw[Pw (by rw[b];exact h)];rw[ξ (by rw[b];exact h)]at a;rw[Xq a]
abbrev Kc(n:Nat):Ψ:=.fn (.func 138) [] [.Κ [I n]]
abbrev Vi(n:Nat):Ψ:=.Z' [I n,Kc n]
def k9(s:ByteArray){n:Nat}(b:n<18):Μ prog 138 [OJ s,.Κ [I n]] (YH (RP s n)):=by
 have hd:=k' (s:=s) b
 have c:=OL s s.size
 have d:=Ff s s.size
 have e:(n:Int)<18:=J;refine Ν.body Τ func138 U U ntmps138 U U o ?_;refine YC d λf a=>?_;apply a;refine YC (Ξ hd (Ξ c e)) λf a=>?_;apply a;refine W.rt ?_;exact .of U
def k8(m:Nat)(w:m<=18):Μ prog 89 [I m] (.sl false 2 ((List.range m).map Vi)):=by
 refine Ν.body Τ func89 U U ntmps89 U U o ?_;refine Χ ?_;refine W.pad (σ':=[]) 159 2 U o [(3,.ms 0 0 0 0),(5,I m),(6,I 0)] (λp b=>by
  simp at b;rcases b with rfl|rfl|rfl<;>first|exact .same _|exact .nil) ?_
 refine W.iter (λj:Nat=>j<=m) (λj=>[(3,.ms 0 j 0 j),(5,I m),(6,I j)]) (λj=>[.cells 159 2 ((List.range j).map Vi)]) (λj=>m-j) 0 (Γ _) U o (λj x k=>?_);refine Χ ?_;by_cases d:j<m
 .refine Β (by simp[d]) ?_;refine ZA ?_;refine ZB (A:=[4]) Τ λl f=>ς ?_;apply f;have n:∀(id:Nat)(r:Row),id<1->[Row.cells 159 2 ((List.range j).map Vi),.cells 3 1 [I j]][id]?=some r->YO 1 r:=λid r y s=>by
   obtain rfl:id=0:=J;cases s;intro e g a c;obtain⟨i,_,rfl⟩:=ZG.1 g;simp[Ψ.cells]at c;rcases c with rfl|rfl<;>simp
  refine W.fix (id:=1) (σ':=[.cells 159 2 ((List.range j).map Vi)]) (Γ _) U o n U [(4,.Κ [I j]),(3,.ms 0 j 0 j),(5,I m),(6,I j)] (by simp[S2]) ?_;have B:((List.range j).map Vi).length=j:=o;have u:j<=4294967295:=J;have v:(List.range j).map Vi++[Vi j]=(List.range (j+1)).map Vi:=by rw[Ur,WT];rfl
  refine ZA ?_;refine ZB (A:=[14]) Τ λl f=>Wb u ?_;apply f;rw[v];refine Χ ?_;refine W.to (k (j+1) d J) U (by simp[YR d (show m<2 ^ 62 by omega)])
 obtain rfl:j=m:=J
 refine Δ o ?_;refine W.exit U ?_;refine Χ ?_;refine W.cut 0 (Γ _) [(2,.sl false 2 ((List.range j).map Vi))] (Γ _) (λid r h=>J) (λp b=>?_) ?_
 .simp at b;subst b;exact Yx.own (id:=0) (t:=159) (Γ _) U o (λe g a c=>by
   obtain⟨i,_,rfl⟩:=ZG.1 g;simp[Ψ.cells]at c;rcases c with rfl|rfl<;>simp)
 refine W.rt ?_;exact .of U
abbrev NT(e:Int×Int):Ψ×Ψ:=(YH e.1,I e.2)
def k7(k n:Int):∀(m:List Wm)(d:Nat),(V2 υ 21 (YH k) (m.map NT) d=some none/\Wq m k n=m++[(k,IntKind.i64.wrap (0+n))])\/∃i v,i<m.length/\V2 υ 21 (YH k) (m.map NT) d=some (some (d+i,I v))/\Wq m k n=m.set i (k,IntKind.i64.wrap (v+n)):=by
 intro m
 induction m with
 | nil=>intro d;exact .inl ⟨rfl,rfl⟩
 | cons e r g=>
  intro d;have a:aeqv υ 21 (YH k) (YH e.1)=some (k==e.1):=by simp[aeqv,Ul,QN,T2]
  by_cases h:k=e.1
  .refine .inr ⟨0,e.2,o,?_,by simp[Wq,h]⟩;simp only[WY,V2,a];simp[h]
  have c:(k==e.1)=false:=by simpa using h
  rcases g (d+1)with⟨f,b⟩|⟨i,v,f,b,j⟩
  .refine .inl ⟨?_,by simp[Wq,h,b]⟩;simp only[WY,V2,a,c,cond_false];exact f
  refine .inr ⟨i+1,v,by simp;omega,?_,by simp[Wq,h,j]⟩;simp only[WY,V2,a,c,cond_false];rw[b];have:d+1+i=d+(i+1):=J;rw[this]
def Qh:List Wm->Int->Int
 | [],_=>0
 | e::r,k=>if k=e.1 then e.2 else Qh r k
def k6(k n):∀(m) d,∃i,i<(Wq m k n).length/\V2 υ 21 (YH k) ((Wq m k n).map NT) d=some (some (d+i,I (Qh (Wq m k n) k))):=by
 intro m
 induction m with
 | nil=>intro d;exact⟨0,by simp[Wq],by simp[Wq,Qh,T2]⟩
 | cons e r a=>
  intro d;have b:aeqv υ 21 (YH k) (YH e.1)=some (k==e.1):=by simp[Ul,T2]
  by_cases h:k=e.1
  .refine⟨0,by simp[Wq,h],?_⟩;simp[Wq,h,Qh,T2]
  have c:(k==e.1)=false:=by simpa using h
  let ⟨i,j,f⟩:=a (d+1);refine⟨i+1,by simp[Wq,h];omega,?_⟩;have g:Wq (e::r) k n=e::Wq r k n:=by simp[Wq,h]
  have Υ:Qh (e::Wq r k n) k=Qh (Wq r k n) k:=by simp[Qh,h]
  rw[g,Υ];simp only[WY,V2,b,c,cond_false];rw[f];have:d+1+i=d+(i+1):=J;rw[this]
def SM(T:List ByteArray)(i j:Nat):List Wm×Int:=(T.take j).foldl (λx s=>(Wq x.1 (RP s i) 1,max x.2 (Qh (Wq x.1 (RP s i) 1) (RP s i)))) ([],0)
def k5(T i){j}(h:j<T.length):SM T i (j+1)=(Wq (SM T i j).1 (RP T[j] i) 1,max (SM T i j).2 (Qh (Wq (SM T i j).1 (RP T[j] i) 1) (RP T[j] i))):=by
 unfold SM;rw[Ws h,SI];rfl
def Se(T:List ByteArray)(m:Nat):Int×Int:=(List.range m).foldl (λ(x)(i)=>if(SM T i T.length).2<x.2 then(i,(SM T i T.length).2) else x) (0,T.length)
def k4(T m):Se T (m+1)=if(SM T m T.length).2<(Se T m).2 then((m:Int),(SM T m T.length).2) else Se T m:=by
 unfold Se;rw[Ur,SI];rfl
def Cj(T:List ByteArray):Int×Int×Int:=if(Se T (RQ T)).2=T.length then(0,0,12) else((Se T (RQ T)).1,(Se T (RQ T)).2,0)
def NS(g:ZN)(a:Int)(P:List (List ZM))(C:List (ψ)):Int×Int×Int:=
 if VT g a P C≠0 then(0,0,VT g a P C) else Cj (Vw g (XQ g P C))
def k3{T n}(h:∀t∈T,t.size<=n):RQ T<=n:=by
 unfold RQ;have:∀(l:Z6)(a),a<=n->(∀x∈l,x<=n)->l.foldl max a<=n:=by
  intro l
  induction l with
  | nil=>intro a h _;exact h
  | cons x l c=>intro a d b;exact c _ (Nat.max_le.2 ⟨d,b x o⟩) λy e=>b y (by simp[e])
 exact this _ 0 J λx f=>by obtain⟨t,g,rfl⟩:=ZG.1 f;exact h t g
section
variable{g:ZN}{ZL:Int}{P:List (List ZM)}{C:List (ψ)}
def k2(Z:Ra g ZL P C):Μ prog 37 [VX g] (.Z7 [I (NS g ZL P C).1,I (NS g ZL P C).2.1,I (NS g ZL P C).2.2]):=by
 have B:=Cm Z;apply Ν.body Τ func37 U U ntmps37 U U o;refine Χ ?_;by_cases E:VT g ZL P C=0
 case neg=>
  have e:NS g ZL P C=(0,0,VT g ZL P C):=by unfold NS;rw[if_pos E]
  rw[e];let ⟨l,H,ay,V,N⟩:=Ck g ZL P C;rw[H]at B;generalize VT g ZL P C=az at E B;generalize Ua g ZL P C=D at B;refine ZA ?_;refine ZB (A:=[5]) Τ λu n=>ς ?_;apply Μ.c B (ZJ.refl _) o (by simpa using N);simp
  repeat (rw[Ι];simp[ay,V])
  apply n;refine Χ ?_;apply Β (by simp[E]);refine Χ ?_;apply W.drop (h:=0) (Γ _) (Γ _) o U [(2,I 0),(3,I 0),(4,I az)] o;refine W.rt ?_;exact .of U
 obtain⟨rfl,ak⟩:=Cn E;have aA:Q7 g 0 P C=Vj g P C:=by unfold Q7;rw[if_pos U]
 have Υ:Ua g 0 P C=XQ g P C:=by unfold Ua;rw[if_pos U]
 rw[aA,Υ,E]at B;have e:NS g 0 P C=Cj (Vw g (XQ g P C)):=by unfold NS;rw[if_neg (by simpa using E)]
 rw[e];have X:∀f∈XQ g P C,Wn g f:=λf aa=>Cl aa;have ab:=Fg g P C (Z.Yf U);generalize XQ g P C=D at ak ab B X;have ad:=(Z.work U).words;refine ZA ?_;refine ZB (A:=[5]) Τ λu n=>ς ?_;apply Μ.c B (ZJ.refl _) o o;simp;(repeat (rw[Ι];simp));apply n;refine Χ ?_;apply Δ o;have ae:∀t∈Vw g D,t.size<=18:=λt aB=>by
  obtain⟨f,aa,rfl⟩:=ZG.1 aB;exact Fv ad (X f aa)
 refine ο λu n=>?_;apply Μ.c (xh (P:=P) (C:=C) ad D ab X) (ZJ.refl _) o (by
  have aC:∀s k,∀a∈Xr s k,ω 0 a:=λs k=>OK s k 0;simp[Ψ.cells];exact λs _=>aC _ _)
 simp;(repeat (rw[Ι];simp));apply n;let ⟨T,af⟩:=ν (Vw g D);have aD:T.length=D.length:=by rw[af];simp[Vw]
 rw[<-af]at ae ⊢;clear af;have al:=k3 ae;let ⟨m,ag⟩:=ν (RQ T);have am:Cj T=if(Se T m).2=T.length then(0,0,12) else((Se T m).1,(Se T m).2,0):=by rw[ag];rfl
 rw[am,<-ag];rw[<-ag]at al;have an:∀e∈T.map OJ,∀a∈e.cells,ω 0 a:=λe O a w=>by
  obtain⟨s,_,rfl⟩:=ZG.1 O;exact OK _ _ _ a w
 refine Χ ?_;refine ο λu n=>?_;refine Μ.d (k8 m al) (ς ?_);apply n;have ao:∀e∈(List.range m).map Vi,∀a∈e.cells,ω 0 a:=λe O a w=>by
  obtain⟨i,_,rfl⟩:=ZG.1 O;simp[Ψ.cells]at w;rcases w with rfl|rfl<;>simp
 refine W.cut 0 (Γ _) [(2,I 0),(3,I T.length),(7,VI T),(34,.sl false 2 ((List.range m).map Vi)),(35,I m),(36,I 0)] (Γ _) (λid r h=>J) (λp Q=>?_) ?_
 .simp at Q;rcases Q with rfl|rfl|rfl|rfl|rfl|rfl
  .exact .low (by simp[ε])
  .exact .low (by simp[ε])
  .exact .low (.sl an)
  .exact .low (.sl ao)
  .exact .low (by simp[ε])
  exact .low (by simp[ε])
 have aO:T.length<2 ^ 62:=J;clear X B ae ab ak aD ad am;refine Χ ?_;refine W.iter (λi=>i<=m) (λi=>[(2,I (Se T i).1),(3,I (Se T i).2),(7,VI T),(34,.sl false 2 ((List.range m).map Vi)),(35,I m),(36,I i)]) (λi=>[]) (λi=>m-i) 0 (Γ _) U (by simp[Se,-List.map_map]) (λi hi ap=>?_);refine Χ ?_;by_cases K:i<m
 .apply Β (by simp[K]);have aP:((List.range m).map Vi)[i]?=some (Vi i):=by simp[K]
  have aE:i<18:=J;refine ZA ?_;refine ZB (A:=[10]) Τ λu n=>Wb K ?_;apply n;let ⟨a,w⟩:=ν (Se T i);have R:=ap (i+1) K J;rw[k4,<-w]at R;rw[<-w];clear ap w;apply W.fix (id:=0) (σ':=[]) (Γ _) U o o U [(10,.Κ [I i,Kc i]),(2,I a.1),(3,I a.2),(7,VI T),(34,.sl false 2 ((List.range m).map Vi)),(35,I m),(36,I i)] (by simp;exact λx _=>OK _ _ _);refine Χ ?_;refine W.iter (λj=>j<=T.length) (λj=>[(10,.Κ [I i,Kc i]),(2,I a.1),(3,I a.2),(7,VI T),(34,.sl false 2 ((List.range m).map Vi)),(35,I m),(36,I i),(11,.mp 0),(12,I (SM T i j).2),(41,VI T),(42,I T.length),(43,I j)])
   (λj=>[.map ((SM T i j).1.map NT)]) (λj=>T.length-j) 0 (Γ _) U (by simp[SM]) (λj aQ aq=>?_)
  refine Χ ?_;by_cases F:j<T.length
  .apply Β (by simp[F]);let ⟨b,N⟩:=ν (SM T i j);have S:=aq (j+1) F J;rw[k5 T i F,<-N]at S;rw[<-N];clear aq N;let ⟨M,L⟩:=b;let ⟨s,Y⟩:=ν (T[j]);have aR:(T.map OJ)[j]?=some (OJ s):=by rw[Y,YK,ξ F];rfl
   have aF:∀h,T[j]=s:=λ_=>Y.symm
   have ah:=OL s s.size
   have ar:List.take 18 (Xr s s.size)=Xr s s.size:=Wl (by rw[ah];exact Z3 _)
   have V:=Ff s s.size;rw[<-Y]at S;clear Y;refine ZA ?_;refine ZB (A:=[14]) Τ λu n=>Wb (Ξ F (Ξ aF (Ξ ah (Ξ ar V)))) ?_;apply n;have aG:∀(id:Nat)(r:Row),id<1->[Row.map (M.map NT),.cells 114 18 [.Z' (Xr s s.size)]][id]?=some r->YO 1 r:=λid r aS E=>by
    obtain rfl:id=0:=J;cases E;intro e O;obtain⟨x,_,rfl⟩:=ZG.1 O;simp
   apply W.fix (id:=1) (σ':=[.map (M.map NT)]) (Γ _) U (by simp;exact OK _ _ _) aG U [(14,.Κ (Xr s s.size)),(10,.Κ [I i,Kc i]),(2,I a.1),(3,I a.2),(7,VI T),(34,.sl false 2 ((List.range m).map Vi)),(35,I m),(36,I i),(11,.mp 0),(12,I L),(41,VI T),(42,I T.length),(43,I j)] (by simp[GL];exact λx _=>OK _ _ _);refine Χ ?_;have au:=k9 s aE;let ⟨v,hv⟩:=ν (RP s i);rw[<-hv]at au S;let ⟨aT,aU,av⟩:=k6 v 1 M 0;refine YC (Ξ ah (Ξ ar V)) λu n=>?_;apply Μ.cc au (ZJ.refl _) (by simp;exact OK _ _ _) o;simp;(repeat (rw[Ι];simp));apply n;have aw:(if L<Qh (Wq M v 1) v then Qh (Wq M v 1) v else L)=max L (Qh (Wq M v 1) v):=by split<;>omega
   rcases k7 v 1 M 0 with⟨ai,aj⟩|⟨aV,v',aW,ai,aj⟩
   ·(repeat apply Ζ);refine Yz λu n=>?_;simp;(repeat (rw[Ι];simp[ai,T2]));apply n;refine W.to (σ':=[.map ((Wq M v 1).map NT)]) (env':=[(15,YH v),(10,.Κ [I i,Kc i]),(2,I a.1),(3,I a.2),(7,VI T),(34,.sl false 2 ((List.range m).map Vi)),(35,I m),(36,I i),(11,.mp 0),(12,I L),(41,VI T),(42,I T.length),(43,I j)]) ?_ (by rw[aj];simp) o;(repeat apply Ζ);refine Yz λu n=>?_;simp;(repeat (rw[Ι];simp[av,T2]));apply n;rw[aw];refine Χ ?_;exact W.to S U (by simp[YR F (show T.length<2 ^ 62 by omega)])
   ·(repeat apply Ζ);refine Yz λu n=>?_;simp;(repeat (rw[Ι];simp[ai,T2]));apply n;refine W.to (σ':=[.map ((Wq M v 1).map NT)]) (env':=[(15,YH v),(10,.Κ [I i,Kc i]),(2,I a.1),(3,I a.2),(7,VI T),(34,.sl false 2 ((List.range m).map Vi)),(35,I m),(36,I i),(11,.mp 0),(12,I L),(41,VI T),(42,I T.length),(43,I j)]) ?_ (by rw[aj];simp) o;(repeat apply Ζ);refine Yz λu n=>?_;simp;(repeat (rw[Ι];simp[av,T2]));apply n;rw[aw];refine Χ ?_;exact W.to S U (by simp[YR F (show T.length<2 ^ 62 by omega)])
  obtain rfl:j=T.length:=J
  apply Δ o;apply W.exit U;refine Χ ?_;have ax:∀(env:κ){x y:Ψ},ε env 7=VI T->ε env 34=.sl false 2 ((List.range m).map Vi)->ε env 35=I m->ε env 36=I (i+1:Nat)->(∃z,ε env 2=I z/\x=I z)->(∃z,ε env 3=I z/\y=I z)->∀p∈[(2,x),(3,y),(7,VI T),(34,.sl false 2 ((List.range m).map Vi)),(35,I m),(36,I (i+1:Nat))],Yx 0 [Row.map ((SM T i T.length).1.map NT)] (ε env p.1) p.2:=λenv x y aH aI aJ aK ⟨_,aL,ex⟩ ⟨_,aM,aN⟩ p Q=>by
   subst ex aN;simp only[YU,XW,or_false]at Q;rcases Q with rfl|rfl|rfl|rfl|rfl|rfl
   .rw[aL];exact .low (.z _)
   .rw[aM];exact .low (.z _)
   .rw[aH];exact .low (.sl an)
   .rw[aI];exact .low (.sl ao)
   .rw[aJ];exact .low (.z _)
   rw[aK];exact .low (.z _)
  by_cases H:(SM T i T.length).2<a.2
  .apply Β (by simp[H]);rw[if_pos H]at R;refine Χ ?_;apply W.cut 0 (Γ _) [(2,I i),(3,I (SM T i T.length).2),(7,VI T),(34,.sl false 2 ((List.range m).map Vi)),(35,I m),(36,I (i+1:Nat))] (Γ _) (λid r h=>J) (ax _ U U U (by simp[ε,YR K (show m<2 ^ 62 by omega)]) ⟨_,U,U⟩ ⟨_,U,U⟩);exact W.to R U o
  apply Δ (by simp[H]);rw[if_neg H]at R;refine Χ ?_;apply W.cut 0 (Γ _) [(2,I a.1),(3,I a.2),(7,VI T),(34,.sl false 2 ((List.range m).map Vi)),(35,I m),(36,I (i+1:Nat))] (Γ _) (λid r h=>J) (ax _ U U U (by simp[ε,YR K (show m<2 ^ 62 by omega)]) ⟨_,U,U⟩ ⟨_,U,U⟩);exact W.to R U o
 obtain rfl:i=m:=J
 apply Δ o;apply W.exit U;refine Χ ?_;let ⟨a,w⟩:=ν (Se T i);rw[<-w];by_cases h:a.2=T.length
 .apply Β (by simp[h]);rw[if_pos h];refine Χ ?_;refine W.rt ?_;exact .of U
 apply Δ (by simpa using h);rw[if_neg h];refine Χ ?_;refine W.rt ?_;exact .of U
end
def Kb(g:ZN)(l:ψ):Int:=max (max 0 (IntKind.i64.wrap ((W7 g l).1-g.Vx))) (IntKind.i64.wrap (g.XH-(W7 g l).2))
def Ci(g:ZN)(P:List (List ZM))(C:List (ψ))(l:ψ):Bool:=toldOf g P l&&Qn g C l&&decide ((W7 g l).1<=80)
def Py(g:ZN)(P:List (List ZM))(C:List (ψ))(s:Int)(l:ψ):Int:=if Ci g P C l=true/\(s<0\/Kb g l<s) then Kb g l else s
def NR(g:ZN)(P:List (List ZM))(C:List (ψ)):Int:=(VV g.words.length 3 []).foldl (Py g P C) (-1)
def Lt(g:ZN)(a:Int)(P:List (List ZM))(C:List (ψ)):Int×Int:=if a≠0 then(0,a) else if NR g P C<0 then(0,11) else(NR g P C,0)
def k0(g P C f):Mv .i64 (TQ g P C f) 1=(if toldOf g P f then 0 else 2)+(if Qn g C f then 0 else 4):=by
 unfold TQ;cases Iz g f<;>cases toldOf g P f<;>cases Qn g C f<;>decide
section
variable{g:ZN}{ZL:Int}{P:List (List ZM)}{C:List (ψ)}
def kZ(N:Ra g ZL P C):Μ prog 9 [VX g] (.Z7 [I (Lt g ZL P C).1,I (Lt g ZL P C).2]):=by
 by_cases ae:ZL=0
 case neg=>
  have e:Lt g ZL P C=(0,ZL):=by unfold Lt;rw[if_pos ae]
  rw[e];apply Ν.body Τ func9 U U ntmps9 U U o;refine Χ ?_;refine ο λj b=>?_;refine Μ.d (N.check) (ς ?_);apply b;refine Χ ?_;apply Β (by simp[ae]);refine Χ ?_;refine W.rt ?_;exact .of U
 subst ae;have e:Lt g 0 P C=if NR g P C<0 then(0,11) else(NR g P C,0):=by unfold Lt;rw[if_neg o]
 rw[e];clear e;have h:=N.work U;have aF:=N.Yf U;refine⟨⟨_,func9,U,U⟩,λal mn x c rest am aG an vs L ao aH af=>?_⟩;obtain rfl:aG=[]:=YY.1 ao.len;rw[Ty (body:=Tryz.f9.body.getD .skip) func9 U];refine V.here (x:=x) (m:=0) (nt:=59) (S:=am) (B:=[]) (H:=an) (σ:=[]) (env:=entry 0 [VX g]) ?_ (XG.enter ao aH (Z3 _) o);apply V.Ys L U;simp only[Tryz.f9,Option.getD_some];refine Χ ?_;refine ο λj b=>?_;refine Μ.d (N.check) (ς ?_);apply b;refine Χ ?_;apply Δ o;refine ZA ?_;refine ZB (A:=[5]) Τ λj b=>ς ?_;refine Μ.d (N.Fs U) (ς ?_);apply b;apply W.fix (id:=0) (σ':=[]) (Γ _) U o o U [(5,.Κ (Yl g P C))] o;refine ZA ?_;refine ZB (A:=[6]) Τ λj b=>ς ?_;apply b;refine ο λj b=>?_;refine Μ.d (xO g P C) (ς ?_);apply b
 repeat apply Ζ
 apply W.forget [(18,.fn (.func 83) [] [.Κ (Yl g P C)]),(5,.Κ (Yl g P C)),(6,.Ο 0 1 0 0)] o;apply W.stop;intro aX aY aZ t1 ap aq;refine η.xM (R:=λs=>[Row.cells 3 1 [I s]]) (n0:=1) (s:=-1) (sz:=λ_=>0) (M:=2 ^ 20) (step:=Py g P C) (env:=[(5,.Κ (Yl g P C)),(6,.Ο 0 1 0 0)]) (env1:=λ_ l=>[(7,δ I 1 l),(5,.Κ (Yl g P C)),(6,.Ο 0 1 0 0)])
  (λs l=>Γ _) ?_ L U U (λ_=>rfl) (λs r f=>?_) (λs r f=>?_) (λi=>?_) h.Yf θ U aq o (λs l ar O K ag au av=>?_) (λs l ar O K ag au av=>?_) (λS B H O aI a0 ah aJ aK f ai=>?_)
 .generalize g.words.length=n at aF ⊢;have:n=0\/n=1\/n=2\/n=3\/n=4\/n=5:=J;rcases this with rfl|rfl|rfl|rfl|rfl|rfl<;>decide
 .simp only[YU,XW,or_false]at f;subst f;exact⟨_,_,_,U⟩
 .simp only[YU,XW,or_false]at f;subst f;simp[YO,Ψ.cells]
 .simp only[ε];split
  .simp
  split
  .simp[S3]
  exact .Zl
 .refine Χ ?_;exact W.stop ⟨U,U,o⟩
 .refine Χ ?_;have aw:=Cv g P C h.words h.lets h.blank h.M5 h.ZV l ag;have t:=Cu g P C h l ag;have Q:=k0 g P C l;have E:Py g P C s l=if(toldOf g P l&&Qn g C l&&decide ((W7 g l).1<=80))=true/\(s<0\/max (max 0 (IntKind.i64.wrap ((W7 g l).1-g.Vx))) (IntKind.i64.wrap (g.XH-(W7 g l).2))<s) then max (max 0 (IntKind.i64.wrap ((W7 g l).1-g.Vx))) (IntKind.i64.wrap (g.XH-(W7 g l).2)) else s:=rfl
  generalize Py g P C s l=aL at E ⊢;generalize W7 g l=w at aw E;generalize TQ g P C l=ax at t Q;generalize toldOf g P l=to at Q E;generalize Qn g C l=aj at Q E;let ⟨w1,aa⟩:=w;refine ZA ?_;refine ZB (A:=[8]) Τ λj b=>ς ?_;refine Μ.d (aw) (ς ?_);apply b;refine W.fix (id:=3) (σ':=[Row.cells 3 1 [I s],ar,O]) (Z3 _) U o (λid r aM f=>?_) U [(8,.Κ [I w1,I aa]),(7,δ I 1 l),(5,.Κ (Yl g P C)),(6,.Ο 0 1 0 0)] (by simp[S3]) ?_
  .match id,aM,f with
   | 0,_,f=>cases f;simp[YO,Ψ.cells]
   | 1,_,f=>cases f;exact au
   | 2,_,f=>cases f;exact av
  by_cases T:(to&&aj)=true
  case neg=>
   have ab:¬Mv .i64 ax 1=0:=by rw[Q];revert T;cases to<;>cases aj<;>simp
   rw[if_neg (λX=>T (by have:=X.1;simp only[U2]at this ⊢;exact this.1))]at E;subst E;refine ο λj b=>?_;refine Μ.d (t) (ς ?_);simp[ab];(repeat (rw[Ι];simp));apply b;apply Β o;apply W.exit U;exact W.stop ⟨U,U⟩
  have ab:Mv .i64 ax 1=0:=by rw[Q];revert T;cases to<;>cases aj<;>simp
  by_cases ay:w1<=80
  case neg=>
   rw[if_neg (λX=>ay (by simpa[T] using X.1))]at E;subst E;have Y:80<w1:=J;refine ο λj b=>?_;refine Μ.d (t) (ς ?_);simp[ab];(repeat (rw[Ι];simp[Y]));apply b;apply Β (by simp[Y]);apply W.exit U;exact W.stop ⟨U,U⟩
  have Y:¬80<w1:=J
  have F:aL=if s<0\/max (max 0 (IntKind.i64.wrap (w1-g.Vx))) (IntKind.i64.wrap (g.XH-aa))<s then max (max 0 (IntKind.i64.wrap (w1-g.Vx))) (IntKind.i64.wrap (g.XH-aa)) else s:=by rw[E];simp[T,ay]
  clear E;refine ο λj b=>?_;refine Μ.d (t) (ς ?_);simp[ab];(repeat (rw[Ι];simp[Y]));apply b;apply Δ (by simp[Y]);refine ο λj b=>?_;apply b;generalize IntKind.i64.wrap (w1-g.Vx)=u at F ⊢;generalize IntKind.i64.wrap (g.XH-aa)=v at F ⊢;have hv:(if(if 0<u then u else 0)<v then v else if 0<u then u else 0)=max (max 0 u) v:=by split<;>split at *<;>omega
  rw[hv];generalize max (max 0 u) v=z at F ⊢;by_cases Z:s<0
  .rw[if_pos (.inl Z)]at F;subst F;refine YC Z λj b=>?_;apply b;apply Β o;refine Χ ?_;exact W.stop ⟨U,U⟩
  by_cases K:z<s
  .rw[if_pos (.inr K)]at F;subst F;refine YC (Ξ Z K) λj b=>?_;apply b;apply Β (by simp[K]);refine Χ ?_;exact W.stop ⟨U,U⟩
  rw[if_neg (λX=>X.elim Z K)]at F;subst F;refine YC (Ξ Z K) λj b=>?_;apply b;apply Δ (by simp[K]);refine Χ ?_;exact W.stop ⟨U,U⟩
 change Holds S B [Row.cells 3 1 [I (NR g P C)]] H at ah;change Y' S B [Row.cells 3 1 [I (NR g P C)]] _ _ at ai;generalize NR g P C=D at ah ai af;have aN:Ext am [] an S B H:=ap.ext.trans aI;obtain⟨a,t⟩:∃a:Int×Int,a=if D<0 then(0,11) else(D,0):=⟨_,U⟩
 rw[<-t]at af;refine V.here (m:=0) (nt:=59) (S:=S) (B:=B) (σ:=[Row.cells 3 1 [I D]]) (env:=[(6,.Ο 0 1 0 0)]) ?_ ⟨ah,Rk ai o,aq.size,Γ _⟩;apply V.Ys L U;refine Χ ?_;have az:∀{k}{e},ε e 2=I a.1->ε e 3=I a.2->W prog 0 59 (.code .ret::k) e [Row.cells 3 1 [I D]] (V prog al mn x (χ {Frame.enter prog 9 vs .normal with defers:=⟨.collected O,#[]⟩::(Frame.enter prog 9 vs .normal).defers} #[] []) (c::rest) 59 {S:=S,B:=B,H:=H,σ:=[Row.cells 3 1 [I D]],m:=0}) (DZ prog al mn x (χ {Frame.enter prog 9 vs .normal with defers:=⟨.collected O,#[]⟩::(Frame.enter prog 9 vs .normal).defers} #[] []) (c::rest) {S:=S,B:=B,H:=H,σ:=[Row.cells 3 1 [I D]],m:=0}):=λ{k e} aO aP=>by
  refine W.cut 0 (Γ _) [(2,I a.1),(3,I a.2)] (Γ _) (λid r h=>J) (λp aA=>?_) ?_
  .simp only[YU,XW,or_false]at aA;rcases aA with rfl|rfl
   .rw[aO];exact .low (.z _)
   rw[aP];exact .low (.z _)
  apply W.stop;intro a1 aQ a2 t5 aB ak;obtain rfl:aQ=[]:=YY.1 ak.holds.len;let ⟨aR,aC⟩:=DK aB.ext aK f;refine η.ret L U U (η.collected L U U aC ?_);apply η.back L U U (.inl U) func9;refine Ω.mono (λu aS ⟨aT,aU,aV,a3,aD,aW⟩=>?_) (λ_ _ h=>h) _ (Mc Τ (a:=.Z7 [I a.1,I a.2]) U (ak.holds.Zp (y:=.deferred none) aR) ak.Zt);obtain rfl:aU=[]:=YY.1 aD.len;have aE:=((aN.trans aB.ext).Zp (ap.ext.grow _ aJ) (y:=.deferred none) ⟨_,aC⟩).trans aV;exact af.ret _ [] aT [] aS u ⟨.refl _,U⟩ aE ⟨aE.Za,λid r h=>by simp at h⟩ aD aW
 by_cases ad:D<0
 .rw[if_pos ad]at t;subst t;apply Β (by simp[ad]);refine Χ ?_;exact az U U
 rw[if_neg ad]at t;subst t;apply Δ (by simp[ad]);refine Χ ?_;exact az U U
end
end Go.TL
namespace Go.TL
open Go.Proofs.Tryz
open Go.Proofs
def kY{c:Type}[DecidableEq c]{x:c}:∀{l:List c}{a:c},x∈Sr a l\/x=a↔x∈l\/x=a:=by
 intro l
 induction l with
 | nil=>intro a;simp[Sr]
 | cons b l d=>
  intro a;unfold Sr;split
  .rename_i h;have h:b=a:=by simpa using h
   subst h;rw[d];simp only[YU];exact⟨λh=>h.elim (λh=>.inl (.inr h)) .inr,λh=>h.elim (λh=>h.elim .inr .inl) .inr⟩
  have:=d (a:=b);simp only[YU]at this ⊢;constructor
  .rintro((h|h)|h)
   .exact .inl (.inl h)
   .rcases this.1 (.inl h)with h|h
    .exact .inl (.inr h)
    exact .inl (.inl h)
   exact .inr h
  rintro((h|h)|h)
  .exact .inl (.inl h)
  .rcases this.2 (.inl h)with h|h
   .exact .inl (.inr h)
   exact .inl (.inl h)
  exact .inr h
def kX{b:Type}[DecidableEq b]{x:b}{l:List b}:x∈X7 l↔x∈l:=by
 cases l with
 | nil=>exact Iff.rfl
 | cons a l=>
  show x∈a::Sr a l↔_
  have:=kY (x:=x) (l:=l) (a:=a);simp only[YU];constructor
  .rintro(h|h)
   .exact .inl h
   rcases this.1 (.inl h)with h|h
   .exact .inr h
   exact .inl h
  rintro(h|h)
  .exact .inl h
  rcases this.2 (.inl h)with h|h
  .exact .inr h
  exact .inl h
def kW{x:Int}{l:ψ}:x∈WQ l↔x∈l:=(Ln _ _).mem_iff
def Fb:List (List ZM):=[Si Fp W6 T',Si [Fq,T'] W6 T']
def Fa(c:List Xo):List (ψ):=[Wy (VY (WM c).Zz) 0 false]
def xe{c:Type}{l d:List c}(h:∀x,x∈l↔x∈d)(p:c->Bool):l.any p=d.any p:=by
 rw[Pv,Ti,Ti];exact⟨λ⟨x,a,b⟩=>⟨x,(h x).1 a,b⟩,λ⟨x,a,b⟩=>⟨x,(h x).2 a,b⟩⟩
def xd(a:List ByteArray)(l:List ZM):SO a (l.mergeSort VJ)=SO a l:=by
 unfold SO;have b:(l.mergeSort VJ).length=l.length:=List.length_mergeSort _;have c:∀x,x∈l.mergeSort VJ↔x∈l:=λx=>(Ln _ _).mem_iff;have d:(l.mergeSort VJ).isEmpty=l.isEmpty:=by rw[Pv,Tj,Tj,<-YY,b,YY]
 rw[d,xe c]
def kV(g:ZN)(f:ψ):toldOf g RR f=toldOf g Fb f:=by
 unfold toldOf RR Fb OR;simp[xd]
def kU(g:ZN)(c:List Xo)(f:ψ):Qn g (TO c) f=Qn g (Fa c) f:=by
 unfold Qn TO Fa Of;simp only[List.length_cons,List.length_nil,Ur,List.range_zero,List.nil_append,List.all_cons,List.all_nil,Bool.and_true,List.getElem?_cons_zero,Option.getD_some,Vu];rw[xe λx=>kX.trans kW]
def xc(g:ZN)(c:List Xo)(f:ψ):TQ g RR (TO c) f=TQ g Fb (Fa c) f:=by
 unfold TQ;rw[kV,kU]
def xb(g:ZN)(c:List Xo):XQ g RR (TO c)=XQ g Fb (Fa c):=by
 unfold XQ;simp only[xc]
def Is:XQ Sg RR (TO [])=[[0,1],[2,3]]:=by rw[xb];decide +kernel
def xa:XQ M0 RR (TO [⟨0,9,0⟩])=[[2,3]]:=by rw[xb];decide +kernel
def kT:TQ Sg RR (TO []) [3,2]=6:=by rw[xc];decide +kernel
def kS:MX M0 0 RR (TO [⟨0,9,0⟩])=(⟨#[115,97,119,32,116,104,101]⟩,0):=by
 have h:VT M0 0 RR (TO [⟨0,9,0⟩])=0:=by unfold VT;rw[xa];decide
 unfold MX;rw[if_neg (by rw[h];simp),xa];decide +kernel
def w9:VT Sg 0 RR (TO [])=0:=by unfold VT;rw[Is];decide
def kR:NS Sg 0 RR (TO [])=(0,1,0):=by
 unfold NS;rw[if_neg (by rw[w9];simp),Is];decide +kernel
def kQ:Qi Sg 0 RR (TO []) 4=(⟨#[45,104]⟩,0):=by
 unfold Qi;rw[if_neg o,if_neg θ,if_neg (by rw[w9];simp),Is];have e:(Vw Sg [[0,1],[2,3]]).map (T8 4)=[45,104]:=by decide +kernel
 have Υ:WQ [45,104]=[45,104]:=List.mergeSort_of_pairwise θ;unfold Fc;rw[e,Υ];decide +kernel
def Ch(L:List ByteArray):Nat->List (List ByteArray)
 | 0=>[[]]
 | n+1=>[]::(Ch L n).flatMap λl=>L.map (·::l)
def w8{L:List ByteArray}:∀(n:Nat)(l:List ByteArray),l.length<=n->(∀x∈l,x∈L)->l∈Ch L n
 | 0,l,h,_=>by
  obtain rfl:l=[]:=YY.1 J;exact Us.2 U
 | n+1,[],_,_=>SJ ..
 | n+1,x::l,h,a=>by
  refine SK _ (MQ.2 ⟨l,w8 n l (by simpa using h) λy b=>a y (SK _ b),?_⟩);exact ZG.2 ⟨x,a x (SJ ..),U⟩
def E9:List ByteArray->List (List ByteArray)
 | []=>[[]]
 | x::l=>E9 l++(E9 l).map (x::·)
def kP{W L:List ByteArray}(h:W.Sublist L):W∈E9 L:=by
 induction h with
 | slnil=>exact Us.2 rfl
 | cons x _ a=>exact List.mem_append_left _ a
 | cons_cons x _ a=>exact List.mem_append_right _ (ZG.2 ⟨_,a,rfl⟩)
structure w7(a c:List ByteArray):Prop where
 Iu:(Si c W6 U4).length<=12
 told:SO a (Si c W6 U4)=true
 len:c.length<=8
 Fh:c.all X0=true
def kO:∀a∈Ch Wt 3,∀c∈[W6::(a++[U4]),TP::W6::(a++[U4])],(Si c W6 U4).length<=12/\SO a (Si c W6 U4)=true/\c.length<=8/\c.all X0=true:=by decide +kernel
def kN{l:List ByteArray}{w:ByteArray}(n:Int)(a:w≠⟨#[]⟩)(h:w∉l):placesOf l w n=[]:=by
 unfold placesOf RV;rw[if_neg a];have e:(List.range l.length).filter (λj=>decide (l[j]?=some w))=[]:=List.filter_eq_nil_iff.2 λj _=>by
  have:l[j]?≠some w:=λe=>h (ZD e);simpa using this
 rw[e];rfl
def w6(l:List ByteArray)(M:List ZM):∀F,Qt l M F []=M
 | []=>rfl
 | f::F=>w6 l M F
def kM{a c:List ByteArray}(k:a.length<=3)(l:∀w∈a,w∈Wt)(h:Iw a c):w7 a c:=by
 have j:=kO a (w8 3 a k l);rcases h with rfl|rfl|h
 .obtain⟨d,f,g,i⟩:=j _ (SJ ..);exact⟨d,f,g,i⟩
 .obtain⟨d,f,g,i⟩:=j _ (SK _ (SJ ..));exact⟨d,f,g,i⟩
 have b:∀x∈c,x∈[Ql,Qk,W6,TP,T']:=λx b=>by
  rcases h.has x b with h|h
  .simp at h;simp;rcases h with h|h<;>simp[h]
  simp[Sf]at h;simp;rcases h with h|h|h<;>simp[h]
 have m:U4∉c:=λh=>by
  have:∀x∈[Ql,Qk,W6,TP,T'],x≠U4:=θ;exact this _ (b _ h) U
 have e:Si c W6 U4=[]:=by
  unfold Si;rw[kN _ θ m,w6]
 have n:∀x∈[Ql,Qk,W6,TP,T'],X0 x=true:=by decide +kernel
 refine⟨by rw[e];decide,by rw[e];rfl,WL h.Yf θ,Xk.2 λx o=>n x (b x o)⟩
def Ls(W:List ByteArray):List ByteArray:=((List.range 123).filter λx=>decide (97<=x)&&RU W x W.length).map Ix
structure w5(W:List ByteArray)(T:List ByteArray):Prop where
 lex:Kg W=0
 Yf:T.length<=12
 one:∀x∈T,x.size=1/\X0 x=true
 FM:T.Pairwise λa b=>UD b a=false
 nodup:T.Nodup
 words:∀w∈W,X0 w=true/\∀c∈w.data.toList,Xs c∈T
def kL:∀W∈E9 Wt,Kg W=0/\(Ls W).length<=12/\(∀x∈Ls W,x.size=1/\X0 x=true)/\(Ls W).Pairwise (λa b=>UD b a=false)/\(Ls W).Pairwise (λa b=>a≠b)/\∀w∈W,X0 w=true/\∀c∈w.data.toList,((Ls W).any λb=>decide (b=Xs c))=true:=by decide +kernel
def kK{W:List ByteArray}(h:W.Sublist Wt):w5 W (Ls W):=by
 obtain⟨f,g,i,j,k,a⟩:=kL W (kP h);exact⟨f,g,i,j,k,λw d=>⟨(a w d).1,λc l=>by
  obtain⟨b,m,e⟩:=Ti.1 ((a w d).2 c l);have e:b=Xs c:=by simpa using e
  rwa [<-e]⟩⟩
end Go.TL
namespace Go.TL
open Go.Proofs.Tryz
open Go.Proofs
variable[Z8]
variable[Z8]
def kJ(l:ψ)(a:Int):l.foldl (· + ·) a=a+Xm l:=by
 unfold Xm
 induction l generalizing a with
 | nil=>simp
 | cons x l b=>
  rw[List.foldl_cons,List.foldl_cons,b (a+x),b (0+x)];omega
def MV(x:Int)(l:ψ):Xm (x::l)=x+Xm l:=by
 have:=kJ l (0+x)
 show l.foldl (· + ·) (0+x)=_;rw[this];omega
def E8(l m:ψ):Xm (l++m)=Xm l+Xm m:=by
 induction l with
 | nil=>show Xm m=0+Xm m;omega
 | cons x l a=>rw[List.cons_append,MV,MV,a];omega
abbrev Q6(a:List Xt)(l:List UInt8):Int:=Xm (l.map λc=>(U6 a c).lo)
abbrev Q5(a:List Xt)(l:List UInt8):Int:=Xm (l.map λc=>(U6 a c).hi)
def kI{t:ByteArray}{i:Nat}(hi:i<t.size):t.extract i (i+1)=Xs (t.get! i):=by
 refine FA ?_;have hd:i<t.data.size:=hi;have a:(t.extract i (i+1)).data=t.data.extract i (i+1):=o;rw[a];have b:t.get! i=t.data[i]:=getElem!_pos t.data i hd;rw[b];simp[List.take_one,List.head?_drop,ξ (show i<t.data.toList.length by simpa using hd)]
def wZ{x:ByteArray}:∀{c:List Xt}{a:Int×Int},(∀b∈c,b.Ya≠x)->c.foldl (Q9 x) a=a
 | [],_,_=>rfl
 | b::c,a,h=>by
  rw[List.foldl_cons];have e:Q9 x a b=a:=if_neg (h b (SJ ..));rw[e];exact wZ λy d=>h y (SK _ d)
def wY{c:UInt8}:∀{d:List Xt}{a:Int×Int},(d.map (·.Ya)).Nodup->UN d c=true->d.foldl (Q9 (Xs c)) a=(a.1+(U6 d c).lo,a.2+(U6 d c).hi)
 | [],_,_,h=>by simp[UN]at h
 | b::d,a,g,h=>by
  rw[WY,Q2]at g;rw[List.foldl_cons];by_cases f:b.Ya=Xs c
  .have e:Q9 (Xs c) a b=(a.1+b.lo,a.2+b.hi):=if_pos f
   have Υ:U6 (b::d) c=b:=by unfold U6;rw[List.find?_cons_of_pos (by simpa using f)];rfl
   rw[e,Υ];exact wZ λy i j=>g.1 (ZG.2 ⟨y,i,j.trans f.symm⟩)
  have e:Q9 (Xs c) a b=a:=if_neg f
  have Υ:U6 (b::d) c=U6 d c:=by unfold U6;rw[List.find?_cons_of_neg (by simpa using f)]
  rw[e,Υ];refine wY g.2 ?_;unfold UN at h ⊢;rw[List.any_cons]at h;simpa[f] using h
def kH{b:List Xt}{w:ByteArray}{a:Int×Int}(g:(b.map (·.Ya)).Nodup)(h:∀c∈w.data.toList,UN b c=true):Fj b w a=(a.1+Q6 b w.data.toList,a.2+Q5 b w.data.toList):=by
 have e:w.data.toList.length=w.size:=o
 have i:∀k,k<=w.size->(List.range k).foldl (Kd b w) a=(a.1+Q6 b (w.data.toList.take k),a.2+Q5 b (w.data.toList.take k)):=by
  intro k
  induction k with
  | zero=>intro _;simp[Q6,Q5,Xm]
  | succ k j=>
   intro m;have d:k<w.data.toList.length:=J;have f:w.get! k=w.data.toList[k]:=by
    have l:w.get! k=w.data[k]'(by simpa using d):=getElem!_pos w.data k _;rw[l];simp
   rw[Ur,SI,j J,List.foldl_cons,List.foldl_nil];unfold Kd;rw[kI J,wY g (h _ (by rw[f];exact YW d)),Ws d,<-f];unfold Q6 Q5;rw[WT,WT,E8,E8];simp only[WY,OE,MV];refine NM ?_ ?_
   .show _=a.1+(_+(_+Xm []));simp[Xm];omega
   show _=a.2+(_+(_+Xm []));simp[Xm];omega
 have:=i w.size (Z3 _);rw[<-e,OG,e]at this;exact this
def kG{g:ZN}{f:ψ}(b:(g.ZV.map (·.Ya)).Nodup)(d:∀w∈g.words,∀c∈w.data.toList,UN g.ZV c=true)(e:∀n∈f,0<=n/\n<g.words.length):To g f=W7 g f:=by
 have i:∀(f:ψ)(a:Int×Int),(∀n∈f,0<=n/\n<g.words.length)->f.foldl (λa n=>Fj g.ZV (Rc g n) (a.1+g.X',a.2+g.XX)) a=(a.1+(f.length:Int)*g.X'+Q6 g.ZV (f.flatMap λn=>(Rc g n).data.toList),a.2+(f.length:Int)*g.XX+Q5 g.ZV (f.flatMap λn=>(Rc g n).data.toList)):=by
  intro f
  induction f with
  | nil=>intro a _;simp[Q6,Q5,Xm]
  | cons n f j=>
   intro a h;rw[List.foldl_cons,j _ λm k=>h m (SK _ k),kH b (d _ (Fy (h n (SJ ..))))];have l:(((n::f).length:Nat):Int)*g.X'=(f.length:Int)*g.X'+g.X':=by rw[List.length_cons,Int.natCast_succ,Int.add_mul,Int.one_mul]
   have Υ:(((n::f).length:Nat):Int)*g.XX=(f.length:Int)*g.XX+g.XX:=by rw[List.length_cons,Int.natCast_succ,Int.add_mul,Int.one_mul]
   rw[l,Υ,J5];unfold Q6 Q5;rw[WT,WT,E8,E8];refine NM ?_ ?_<;>(simp only;omega)
 unfold To;rw[i f _ e];unfold W7 Cz Cy UL XR;rw[IA,List.flatMap_map,MV,MV,Int.add_mul,Int.add_mul,Int.one_mul,Int.one_mul];unfold Q6 Q5;refine NM ?_ ?_<;>(simp only;omega)
def wX{a:List Xt}(b:Lu a):∀l:List UInt8,(∀c∈l,UN a c=true)->0<=Q6 a l/\Q6 a l<=Q5 a l/\Q5 a l<=6*l.length
 | [],_=>by simp[Q6,Q5,Xm]
 | c::l,h=>by
  obtain⟨d,e,f⟩:=wX b l λx g=>h x (SK _ g);obtain⟨i,_,hi,j⟩:=Cx (h c (SJ ..));have:=b _ (j▸YW hi);simp only[Q6,Q5,WY,MV,List.length_cons]at d e f ⊢;omega
end Go.TL
namespace Go.TL
open Go.Proofs.Tryz
open Go.Proofs
section
variable[Z8]
def kF{x:ByteArray}(h:X0 x=true):Tp x/\x.size<1000:=by
 obtain⟨b,c,d⟩:=Kj.1 h;refine⟨⟨λe=>?_,λa=>?_⟩,J⟩
 .have:x.data.toList.length=x.size:=by simp
  rw[e]at this;simp at this;omega
 have:=(xR h a).1;exact absurd this θ
def kE{G:List Xb}(h:Tr G)(d:G.length<=4):Tr (Sk G):=by
 have e:=Qx d
 have a:∀i (hi:i<(Sk G).length),(Sk G)[i]=⟨TU.getD i ⟨#[]⟩,(G[i]'J).X8⟩:=λi hi=>by
  have:=yv d (show i<G.length by omega);rw[ξ hi]at this;exact Xq this
 have f:∀i,i<4->LZ (TU.getD i ⟨#[]⟩)=false:=by decide +kernel
 have g:∀i,i<4->∀j,j<i->UD (TU.getD i ⟨#[]⟩) (TU.getD j ⟨#[]⟩)=false:=by decide +kernel
 refine⟨by rw[e];exact h.lo,by rw[e];exact h.hi,λx k=>?_,?_,?_⟩
 .obtain⟨i,hi,rfl⟩:=Qg k;rw[a i hi];exact⟨f i J,(h.each _ (YW (show i<G.length by omega))).2⟩
 .refine Tm.2 λi j hi b c=>?_;rw[a i hi,a j b];exact g j J i c
 refine Tm.2 λi j hi b c=>?_;rw[a i hi,a j b];exact Tm.1 h.apart i j J J c
def kD{s:Zm}(a:Tr s.Z2)(b:N5 s.ZE)(d:s.Z2.length<=4):LF {IM s with cells:=[]}:=
 ⟨kE a d,b,Γ _,λc e=>by cases e⟩
def kC{s:Zm}(h:LF s)(b:s.cells=[]):@O8 Ye s (VY s)/\VY s≠[]:=by
 have d:∀p i,i<=s.cells.length->QH (SU s p).cells (-1) i=1:=λp i hi=>by
  rw[b]at hi;obtain rfl:i=0:=Nat.le_zero.1 hi;simp[QH]
 refine⟨y' ⟨h.small,by have:=h.Z2.hi;omega,λc a=>(by rw[b]at a;cases a),λk _ c a=>(by rw[b]at a;cases a),λk _ i hi=>(by rw[d _ i hi];decide)⟩,λe=>?_⟩;have f:0<(SU s (Wu 0)).many (-1):=by
  have Υ:(SU s (Wu 0)).cells.length=s.cells.length:=by unfold SU;simp
  unfold Found.many;rw[Υ,d _ _ (Z3 _)];exact OF
 have g:SS s 0=some (SU s (Wu 0)):=if_pos ⟨θ,f⟩
 have:SU s (Wu 0)∈VY s:=List.mem_filterMap.2 ⟨0,θ,g⟩;rw[e]at this;cases this
end
structure Px(g:ZN)(f:ψ)(P:List (List ZM)):Prop where
 Cg:@Ra Ye g 0 P []
 RS:Wn g f
 told:toldOf g P f=true
 width:(W7 g f).1<=80/\(W7 g f).1<=g.Vx/\g.XH<=(W7 g f).2
 words:g.words.length<=5
 small:0<=g.XH/\g.XH<=g.Vx/\g.Vx<=80/\0<=(W7 g f).1/\(W7 g f).2<=80
def wW{g:ZN}{T:List ByteArray}(h:g.ZV.map (·.Ya)=T){c:UInt8}(a:Xs c∈T):UN g.ZV c=true:=by
 rw[<-h]at a;obtain⟨b,d,e⟩:=ZG.1 a;exact Ti.2 ⟨b,d,by simpa using e⟩
def kB{g:ZN}(a:w5 g.words (g.ZV.map (·.Ya)))(l:Lu g.ZV):M' g=0:=by
 letI:Z8:=Ye;letI:Z8:=Ye;have m:∀w∈g.words,∀c∈w.data.toList,UN g.ZV c=true:=λw d c e=>wW U ((a.words w d).2 c e);have s:g.ZV.length<=12:=by have:=a.Yf;rwa [WS]at this
 have n:Na g.ZV=0:=by
  unfold Na;refine LJ λx p=>?_;obtain⟨i,hi,rfl⟩:=ZG.1 p;have hi:=VR.1 hi;unfold Qs;rw[ξ hi];have r:=a.one g.ZV[i].Ya (ZG.2 ⟨_,YW hi,U⟩);have t:=l _ (YW hi);simp only;rw[if_neg (by simp[r]),if_neg]
  .unfold Uc;rw[if_neg J,if_neg J]
  rintro⟨u,b⟩;have f:=Tm.1 a.FM (i-1) i (by rw[WS];omega) (by rw[WS];omega) J;rw[List.getElem_map,List.getElem_map]at f;rw[ξ (show i-1<g.ZV.length by omega)]at b;simp only[Option.map_some,Option.getD_some]at b;rw[f]at b;cases b
 unfold M';rw[if_neg J,n,if_neg o,if_neg];intro h;obtain⟨w,d,j⟩:=Ti.1 h;unfold PC at j;obtain⟨c,e,k⟩:=Ti.1 j;rw[m w d c e]at k;cases k
def kA{g:ZN}{f:ψ}(h:xr g f):Px g f (TN W6 U4 g.Zf):=by
 letI:Z8:=Ye;obtain⟨u,v⟩:=h.ends;have j:=kK h.words;have T:g.ZV.map (·.Ya)=Ls g.words:=h.ZV.Fl;rw[<-T]at j;have A:Lu g.ZV:=h.ZV.M5;have d:∀w∈g.words,∀c∈w.data.toList,UN g.ZV c=true:=λw e c a=>wW U ((j.words w e).2 c a);have L:g.words.length<=5:=(Cq h.words).1;have V:=xq h.words;have W:g.ZV.length<=12:=by have:=j.Yf;rwa [WS]at this
 obtain⟨ax,M,B⟩:=h.Zz;have C:LF g.Zz:=by rw[M];exact kD B.Z2 B.ZE B.Yf
 have N:g.Zz.cells=[]:=by rw[M]
 obtain⟨X,Y⟩:=kC C N;obtain⟨ay,az,Z⟩:=h.Zf;have aa:(XR g f).length<=3:=by have:=h.RS.Yf;unfold XR;rwa [WS]
 have O:∀w∈XR g f,w∈Wt:=λw e=>by
  obtain⟨n,ab,rfl⟩:=ZG.1 e;exact h.words.subset (Fy (h.RS.has n ab))
 have r:∀c∈g.Zf,w7 (XR g f) c:=λc a=>kM aa O (Z c a)
 have s:∀c∈g.Zf,c.length<1000/\∀x∈c,Tp x/\x.size<1000:=λc a=>⟨by have:=(r c a).len;omega,λx t=>kF (Xk.1 (r c a).Fh x t)⟩
 have P:g.small:=⟨⟨J,λc a=>⟨by have:=(s c a).1;omega,λx t=>Tg ((s c a).2 x t).2 θ⟩⟩,by rw[u];decide,by rw[v];decide,⟨J,λw e=>by have:=V w e;omega⟩,⟨J,λb D=>by have:=(j.one b.Ya (ZG.2 ⟨b,D,U⟩)).1;omega⟩,C.small⟩
 have ad:To g f=W7 g f:=kG j.nodup d h.RS.has;obtain⟨Q,aA,ae,aB⟩:=h.blank;have aC:0<=(W7 g f).1/\(W7 g f).1<=(W7 g f).2/\(W7 g f).2<=80:=by
  have af:∀c∈(UL g f).data.toList,UN g.ZV c=true:=λc a=>by
   obtain⟨w,e,s⟩:=Cw h.RS a;exact d w e c s
  obtain⟨aD,aE,aF⟩:=wX A _ af;have aG:(UL g f).data.toList.length<=9:=by
   unfold UL;rw[IA];have:∀l:List ByteArray,(∀w∈l,w∈Wt)->(l.flatMap λw=>w.data.toList).length<=3*l.length:=by
    intro l d
    induction l with
    | nil=>simp
    | cons w l ag=>
     have R:=ag λx t=>d x (SK _ t)
     have Υ:∀w∈Wt,w.data.toList.length<=3:=θ
     have aH:=Υ w (d w (SJ ..));rw[J5,VH,List.length_cons];omega
   have:=this _ O;omega
  have aI:=h.RS.Yf;obtain⟨k,S⟩:=ν ((f.length:Int)+1:Int);have E:0<=k/\k<=4:=J;have aJ:0<=k*g.X':=Int.mul_nonneg E.1 Q;have aK:k*g.X'<=k*g.XX:=Int.mul_le_mul_of_nonneg_left ae E.1;have aL:k*g.XX<=4*4:=J3 (E7 E.2 J) (Int.mul_le_mul_of_nonneg_left J θ);have R:(W7 g f).1=k*g.X'+Q6 g.ZV (UL g f).data.toList:=by rw[S];exact MV _ _
  have Υ:(W7 g f).2=k*g.XX+Q5 g.ZV (UL g f).data.toList:=by rw[S];exact MV _ _
  rw[R,Υ];omega
 obtain⟨m,x,y,ah,ai,⟨aM,aN⟩,⟨aO,aP⟩,aQ,aR⟩:=h.room;rw[ad]at ah ai;have aj:∀c∈g.Zf,(OR c W6 U4).length<=12:=λc a=>by rw[xl];exact(r c a).Iu
 have ak:∀l∈TN W6 U4 g.Zf,l.length<=12:=λl d=>by
  obtain⟨c,a,rfl⟩:=ZG.1 d;exact aj c a
 have F:(TN W6 U4 g.Zf).length=g.Zf.length:=by unfold TN;rw[WS]
 have al:∀(i:Nat)(p:List ZM),(TN W6 U4 g.Zf)[i]?=some p->Μ prog 50 [VX g,I i] (δ Ym 1 p):=λi p H=>by
  unfold TN at H;rw[YK]at H;obtain⟨c,a,rfl⟩:=T7.1 H;have K:=ZD a;have:=x3 g i c a (s c K).1 (s c K).2 (by rw[u,v];exact(r c K).Iu);rw[u,v]at this;exact this
 have am:XK ([g.left,g.right].map Ub)=0:=by rw[u,v];decide +kernel
 have an:OQ g (VY g.Zz)=0:=by
  have ao:Qv g.Zf=0:=by
   unfold Qv;rw[if_neg J,if_neg J];refine LJ λz ap=>?_;obtain⟨c,a,rfl⟩:=ZG.1 ap;unfold Rf N3;rw[if_neg (by have:=(r c a).len;omega),if_pos (r c a).Fh]
  have aq:PD g=0:=by
   unfold PD;rw[am,if_neg o,if_neg J];exact j.lex
  have ar:=kB j A
  have au:Uc g.X' g.XX 0 9=0:=by unfold Uc;rw[if_neg J,if_neg J]
  have av:Uc g.XH g.Vx 0 80=0:=by unfold Uc;rw[if_neg J,if_neg J]
  have aw:Qr g.Zz (VY g.Zz)=0:=by unfold Qr;rw[if_pos C.err,if_neg Y]
  unfold OQ LB;rw[ao,aq,ar,au,av,aw];rfl
 refine⟨⟨?_,λ_=>?_,λ_=>?_,λ_=>L,J⟩,h.RS,?_,J,L,J⟩
 .have:=x0 g P _ X (Ll (Im _ _) o);rw[an]at this;exact this
 .exact xS (n:=0) (by rw[N];rfl) θ U F (by rw[F];omega) al (λi c a=>by simp at a)
 .exact⟨λw e=>(j.words w e).1,d,⟨⟨Q,J⟩,J,J⟩,λb D=>by have:=A b D;omega,W,P.Zz,⟨by rw[F];omega,λl d=>by have:=ak l d;omega⟩,⟨o,λl d=>by cases d⟩,J⟩
 unfold toldOf;refine Xk.2 λl d=>?_;obtain⟨c,a,rfl⟩:=ZG.1 d;unfold OR;rw[xd];exact(r c a).told
def Cf(a:Nat):∀(d:Nat)(l m:ψ),m.length<=d->(∀n∈m,0<=n/\n<a)->l++m∈VV a d l
 | 0,l,m,h,_=>by
  obtain rfl:m=[]:=YY.1 J;unfold VV;simp
 | d+1,l,[],_,_=>by unfold VV;simp
 | d+1,l,n::m,h,b=>by
  have f:=b n (SJ ..)
  have:=Cf a d (l++[n]) m (by simpa using h) λx c=>b x (SK _ c);unfold VV;refine SK _ (MQ.2 ⟨n.toNat,VR.2 J,?_⟩);have e:((n.toNat:Nat):Int)=n:=J;rw[e];simpa using this
def wV(a:Nat):∀(d:Nat)(l x:ψ),x∈VV a d l->x.length<=l.length+d
 | 0,l,x,h=>by
  unfold VV at h;obtain rfl:=Us.1 h;omega
 | d+1,l,x,h=>by
  unfold VV at h;rcases YU.1 h with rfl|h
  .omega
  obtain⟨n,_,h⟩:=MQ.1 h;have:=wV a d _ x h;rw[VH,List.length_singleton]at this;omega
section
variable{g:ZN}{f:ψ}{P:List (List ZM)}
def Px.wU(h:Px g f P):TQ g P [] f=0:=by
 letI:Z8:=Ye;letI:Z8:=Ye;have e:Iz g f=false:=by unfold Iz;have:=h.width;simp;omega
 unfold TQ;rw[e,h.told];rfl
def Px.err(h:Px g f P):U5 g 0 f=0:=by
 letI:Z8:=Ye;letI:Z8:=Ye;unfold U5;rw[if_neg o,if_neg (by have:=h.RS.Yf;omega),if_neg];intro a;obtain⟨n,b,c⟩:=Ti.1 a;have:=h.RS.has n b;simp[M3]at c;omega
def Px.mem(h:Px g f P):f∈XQ g P []:=by
 letI:Z8:=Ye;letI:Z8:=Ye;unfold XQ;refine TK.2 ⟨?_,by simpa using h.wU⟩;have:=Cf g.words.length 3 [] f h.RS.Yf h.RS.has;simpa using this
def kz:∀n,n<=5->Rb n 3<=156:=θ
def Px.Yf(h:Px g f P):(XQ g P []).length<=156:=by
 letI:Z8:=Ye;letI:Z8:=Ye;unfold XQ;refine WL (J' _ _) ?_;rw[Ct];exact kz _ h.words
def Px.least(h:Px g f P):NR g P []=0:=by
 letI:Z8:=Ye;letI:Z8:=Ye;have i:Kb g f=0:=by
  have r:=h.width
  have t:=h.small;unfold Kb;rw[IntWalk.i64_in _ J,IntWalk.i64_in _ J];omega
 have j:Ci g P [] f=true:=by
  unfold Ci;rw[h.told,decide_eq_true h.width.1];rfl
 have c:∀l,0<=Kb g l:=λl=>by unfold Kb;omega
 have k:∀(L:List (ψ)),L.foldl (Py g P []) 0=0:=by
  intro L
  induction L with
  | nil=>rfl
  | cons l L b=>
   rw[List.foldl_cons];have e:Py g P [] 0 l=0:=by
    unfold Py;rw[if_neg];rintro⟨_,m⟩;have:=c l;omega
   rw[e];exact b
 have n:∀(L:List (ψ))(s:Int),-1<=s->f∈L->L.foldl (Py g P []) s=0:=by
  intro L
  induction L with
  | nil=>intro s _ a;cases a
  | cons l L b=>
   intro s o a;rw[List.foldl_cons];by_cases d:l=f
   .subst d;have e:Py g P [] s l=0:=by
     unfold Py;by_cases p:s=0
     .subst p;rw[if_neg];rintro⟨_,m⟩;omega
     rw[if_pos ⟨j,J⟩,i]
    rw[e];exact k L
   have a:f∈L:=by
    rcases YU.1 a with h|h
    .exact absurd h.symm d
    exact h
   refine b _ ?_ a;unfold Py;split
   .have:=c l;omega
   exact o
 unfold NR;have:=Cf g.words.length 3 [] f h.RS.Yf h.RS.has;exact n _ _ θ (by simpa using this)
end
end Go.TL
namespace Go.TL
open Go.Proofs.Tryz
open Go.Conc Go.Proofs
variable[Z8]
abbrev U3(g:ZN)(a:Nat):Row:=Cr g (.ms 4 a 0 a)
abbrev ky:Row:=.cells 36 13 [Ψ.Z' [Ψ.sl true 0 [],ZQ ⟨#[]⟩,ZQ ⟨#[]⟩,Ψ.sl true 0 [],Ψ.sl true 0 [],I 0,I 0,I 0,I 0,Ψ.sl true 0 [],Ψ.sl true 0 [],Ψ.sl true 0 [],ZU false]]
def wT(D g h)(C:List (List ByteArray))(R){id r}(f:id<6)(a:(ZS D::ky::.dead::.dead::.cells 26 1 (C.map Zb)::U3 g h::R)[id]?=some r):YO 6 r:=by
 match id,f,a with
 | 0,_,a=>cases a;exact Ng D 6
 | 1,_,a=>
  cases a;intro e d b hb;obtain rfl:=Us.1 d;simp[Ψ.cells]at hb
  repeat' (rcases hb with rfl|hb)
  all_goals simp
 | 2,_,a=>cases a;trivial
 | 3,_,a=>cases a;trivial
 | 4,_,a=>
  cases a;intro e d b hb;obtain⟨c,_,rfl⟩:=ZG.1 d;simp[Ψ.cells]at hb;subst hb;simp
 | 5,_,a=>
  cases a;intro e d b hb;obtain rfl:=Us.1 d;simp[Ψ.cells]at hb
  repeat' (rcases hb with rfl|hb)
  all_goals first|exact .ms θ|simp
 | i+6,f,_=>exact absurd f J
def kx(d:ZF)(hd:d.Z4.length<2 ^ 63):PJ 5 [] d (λr=>∃g f,r=.Z7 [VX g,δ I 1 f]/\xr g f):=by
 unfold PJ;refine Ν.body Τ func5 U U ntmps5 U U o ?_
 repeat apply Ζ
 refine ZB (A:=[2]) Τ λB l=>ς ?_;apply l;refine ZA ?_;refine ZB (A:=[4]) Τ λB l=>ς ?_;refine l6 d hd U ?_;intro Un d1 ab bH;simp;(repeat (rw[Ι];simp));apply l;obtain⟨F,aF⟩:=ν (Row.cells 36 13 [Ψ.Z' [Ψ.sl true 0 [],ZQ ⟨#[]⟩,ZQ ⟨#[]⟩,Ψ.sl true 0 [],Ψ.sl true 0 [],I 0,I 0,I 0,I 0,Ψ.sl true 0 [],Ψ.sl true 0 [],Ψ.sl true 0 [],ZU false]]);obtain⟨C,be⟩:=ν Un.Zf;obtain⟨s,aQ⟩:=ν C.length;obtain⟨Zd,aR⟩:=ν (Row.cells 26 1 (C.map Zb));refine W.to (σ':=[ZS d1,F,.dead,.dead,Zd,U3 Un s]) (env':=[(0,.Ο 0 1 0 0),(2,.Ο 1 1 0 0),(3,Yu),(4,.Ο 5 1 0 0)]) ?_ (by rw[aF,aR,aQ,be]) o;refine ο λB l=>?_;apply l;obtain⟨g,ad⟩:=ν ({Un with left:=W6,right:=U4}:ZN);refine W.to (σ':=[ZS d1,F,.dead,.dead,Zd,U3 g s]) (env':=[(0,.Ο 0 1 0 0),(2,.Ο 1 1 0 0),(3,Yu),(4,.Ο 5 1 0 0)]) ?_ (by rw[ad]) o;have aS:g.words.Sublist Wt:=by rw[ad];exact ab.words
 have aT:Lw g.words 123 g.ZV:=by rw[ad];exact ab.ZV
 have ak:0<=g.X'/\g.X'<=2/\g.X'<=g.XX/\g.XX<=g.X'+2:=by rw[ad];exact ab.blank
 have bI:=lY aT
 have bJ:=xq aS;obtain⟨cr,_⟩:=Cq aS;have aU:Lu g.ZV:=aT.M5;refine ο λB l=>?_;apply l;refine ο λB l=>?_;apply l;refine W.pad (σ':=[ZS d1,F,.dead,.dead,Zd,U3 g s]) 3 1 U (λj r P=>⟨r,P,.inl U⟩) [(0,.Ο 0 1 0 0),(2,.Ο 1 1 0 0),(4,.Ο 5 1 0 0),(5,.ms 6 0 0 0),(6,Yu)] (λp al=>by
  simp at al;rcases al with rfl|rfl|rfl|rfl|rfl<;>first|exact .same _|exact .nil) ?_
 refine W.pad (σ':=[ZS d1,F,.dead,.dead,Zd,U3 g s,.cells 3 1 []]) 9 1 U (λj r P=>⟨r,P,.inl U⟩) [(0,.Ο 0 1 0 0),(2,.Ο 1 1 0 0),(4,.Ο 5 1 0 0),(5,.ms 6 0 0 0),(6,.ms 7 0 0 0)] (λp al=>by
  simp at al;rcases al with rfl|rfl|rfl|rfl|rfl<;>first|exact .same _|exact .nil) ?_
 refine W.to (σ':=[ZS d1,F,.dead,.dead,Zd,U3 g s,.cells 3 1 [],.cells 9 1 []]) (env':=[(0,.Ο 0 1 0 0),(2,.Ο 1 1 0 0),(4,.Ο 5 1 0 0),(5,.ms 6 0 0 0),(6,.ms 7 0 0 0)]) ?_ U o
 repeat apply Ζ
 refine Jo ?_;refine Rg 3 bH λaG d2 bK aV Q=>?_;refine ο λB l=>?_;refine Zc.g (Q) (ς ?_);apply l;obtain⟨am,an⟩:∃am:ψ->ZF->Ρ,∀f D,am f D=[ZS D,F,.dead,.dead,Zd,U3 g s,.cells 3 1 (f.map I),.cells 9 1 ((XR g f).map ZQ)]:=⟨_,λ_ _=>rfl⟩;refine W.to (σ':=am [] d2) (env':=[(0,.Ο 0 1 0 0),(2,.Ο 1 1 0 0),(4,.Ο 5 1 0 0),(5,.ms 6 0 0 0),(6,.ms 7 0 0 0),(7,I g.X'),(8,I g.XX),(9,I aG)]) ?_ (by rw[an];rfl) o
 repeat apply Ζ
 refine W.iter (λx:Nat×ψ×ZF=>x.1+x.2.1.length=aG/\Wn g x.2.1/\Q8 (1000*(x.2.1.length+1)) (To g x.2.1)/\x.2.2.Z4.length<=d.Z4.length) (λx=>[(0,.Ο 0 1 0 0),(2,.Ο 1 1 0 0),(4,.Ο 5 1 0 0),(5,.ms 6 x.2.1.length 0 x.2.1.length),(6,.ms 7 x.2.1.length 0 x.2.1.length),(7,I (To g x.2.1).1),(8,I (To g x.2.1).2),(9,I x.1)]) (λx=>am x.2.1 x.2.2) (λx=>x.1) (aG,[],d2) ⟨o,⟨o,o⟩,by show 0<=g.X'/\g.X'<=g.XX/\g.XX<=_;simp;omega,bK⟩ U (by simp[To]) (λx T X=>?_);obtain⟨j,f,D⟩:=x;obtain⟨v,u,ao,aW⟩:=T;simp only at v u ao aW X ⊢;obtain⟨a,K⟩:=ν (To g f);have aX:=l5 g f;rw[<-K]at ao aX ⊢;have aH:(XR g f).length=f.length:=by unfold XR;simp
 obtain⟨m,Y⟩:=ν f.length;have bL:=u.Yf;rw[<-Y]at v ao aH ⊢
 repeat apply Ζ
 refine W.Wr (A:=[]) Τ [(35,ZU (decide (0<j)&&decide (0<g.words.length))),(0,.Ο 0 1 0 0),(2,.Ο 1 1 0 0),(4,.Ο 5 1 0 0),(5,.ms 6 m 0 m),(6,.ms 7 m 0 m),(7,I a.1),(8,I a.2),(9,I j)] (am f D) ?_ (by
  rw[an];by_cases ae:0<j
  ·(try simp);(repeat (rw[Ι];simp[ae]));(try simp[ae])
  ·(try simp);(repeat (rw[Ι];simp[ae]));(try simp[ae]))
 by_cases aY:0<j/\0<g.words.length
 case neg=>
  refine Δ (by simp;intro h;by_cases z:g.words.length=0;exact List.eq_nil_of_length_eq_zero z;exact absurd ⟨h,J⟩ aY) ?_;refine W.exit U ?_;clear X aY aX Q;obtain⟨bM,bN,bO⟩:=ao;obtain⟨y,aI⟩:=ν (XR g f);have cs:y.length<=3:=by rw[aI,aH,Y];exact bL
  rw[an,<-aI];refine W.cut 6 o [(0,.Ο 0 1 0 0),(2,.Ο 1 1 0 0),(4,.Ο 5 1 0 0),(5,δ I 1 f),(6,Zb y),(7,I a.1),(8,I a.2)] o (λid r aJ P=>?_) (λz L=>?_) ?_
  .rw[aF,aR]at P;exact wT D g s C _ aJ P
  .simp only[YU,XW,or_false]at L;rcases L with rfl|rfl|rfl|rfl|rfl|rfl|rfl
   .exact .low (.Ο θ)
   .exact .low (.Ο θ)
   .exact .low (.Ο θ)
   .exact Yx.own (id:=6) (t:=3) o U (by simp[Y]) (λe aa a K=>by
     obtain⟨x,_,rfl⟩:=ZG.1 aa;simp[Ψ.cells]at K;subst K;simp)
   .exact Yx.own (id:=7) (t:=9) o U (by simp[aI,aH]) (λe aa a K=>by
     obtain⟨x,_,rfl⟩:=ZG.1 aa;simp[Ψ.cells]at K;subst K;simp)
   .exact .low o
   exact .low o
  refine W.to (σ':=[ZS D,F,.dead,.dead,Zd,U3 g s]) (env':=[(0,.Ο 0 1 0 0),(2,.Ο 1 1 0 0),(4,.Ο 5 1 0 0),(5,δ I 1 f),(6,Zb y),(7,I a.1),(8,I a.2)]) ?_ U o;refine Nf a.1 a.2 aW λN ct bP bQ aV Q=>?_;refine ο λB l=>?_;refine Zc.g (Q) (ς ?_);apply l;clear Q;refine Rg 2 bP λaf R bR bS Q=>Rg 2 bR λag aZ bT bU bf=>?_;have w1:IntKind.i64.wrap (N-af)=N-af:=IntWalk.i64_in _ J;have aK:IntKind.i64.wrap (N+ag)=N+ag:=IntWalk.i64_in _ J;refine ο λB l=>?_;refine Zc.g (Q) (Wb w1 ?_);refine Zc.g (bf) (Wb aK ?_);apply l;clear Q bf w1 aK;obtain⟨bg,bh⟩:∃z:Int,z=if(af:Int)<N then N-af else 0:=⟨_,U⟩
  obtain⟨bi,bj⟩:∃z:Int,z=if N+ag<80 then N+ag else 80:=⟨_,U⟩
  obtain⟨a0,bk⟩:=ν ({g with XH:=bg,Vx:=bi}:ZN);refine W.to (σ':=[ZS aZ,F,.dead,.dead,Zd,U3 a0 s]) (env':=[(0,.Ο 0 1 0 0),(2,.Ο 1 1 0 0),(4,.Ο 5 1 0 0),(5,δ I 1 f),(6,Zb y)]) ?_ (by rw[bk,bh,bj]) o;refine ο λB l=>?_;apply l;obtain⟨O,bl⟩:=ν ({a0 with Zz:={a0.Zz with cells:=[]}}:ZN);refine W.l' (id:=5) [.Z' (Lv O (.ms 4 s 0 s))] U U (λi a b v u=>by
   match i with
   | 0=>
    simp at v u;subst v;subst u;rw[bl];simp[Ψ.cells]
    repeat (first|exact .nil|refine .cons ?_ ?_|exact Yw.refl _|exact .ex|exact .nil)
   | i+1=>simp at v) ?_
  refine W.to (σ':=[ZS aZ,F,.dead,.dead,Zd,U3 O s]) (env':=[(0,.Ο 0 1 0 0),(2,.Ο 1 1 0 0),(4,.Ο 5 1 0 0),(5,δ I 1 f),(6,Zb y)]) ?_ U o;refine ο λB l=>?_;apply l
  repeat apply Ζ
  have bV:s=C.length:=aQ
  have cu:1<=s/\s<=3:=by rw[aQ,be];exact⟨ab.Zf.1,ab.Zf.2.1⟩
  rw[aR];refine W.iter (λx:Nat×List (List ByteArray)×ZF=>x.1<=s/\x.2.1.length=s/\(∀i,i<x.1->∀c,x.2.1[i]?=some c->Iw y c)/\x.2.2.Z4.length<=d.Z4.length) (λx=>[(0,.Ο 0 1 0 0),(2,.Ο 1 1 0 0),(4,.Ο 5 1 0 0),(5,δ I 1 f),(6,Zb y),(14,I x.1)]) (λx=>[ZS x.2.2,F,.dead,.dead,.cells 26 1 (x.2.1.map Zb),U3 O s]) (λx=>s-x.1) (0,C,aZ) ⟨Γ _,bV.symm,λi hi=>absurd hi (Nat.not_lt_zero _),bT⟩ U o (λx T X=>?_);obtain⟨j,H,aL⟩:=x;obtain⟨bW,ap,a1,a2⟩:=T;simp only at bW ap a1 a2 X ⊢;have aq:IntKind.i64.wrap ((j:Int)+1)=((j+1:Nat):Int):=by rw[IntWalk.i64_in _ J];omega
  refine YC ap λB l=>?_;apply l;by_cases a3:j<s
  case neg=>
   refine Δ (by simp[a3]) ?_;refine W.exit U ?_;clear X;rw[aF];refine ο λB l=>?_;apply l;refine W.cut 1 o [(2,.Κ (Yo {O with Zf:=H})),(3,δ I 1 f)] o (λid r aJ P=>?_) (λz L=>?_) ?_
   .obtain rfl:id=0:=J
    cases P;exact Ng aL 1
   .simp only[YU,XW,or_false]at L;rcases L with rfl|rfl
    .refine Yx.struct (h:=1) (id:=1) (Z3 _) U U λx a a' v u=>?_
     match x,v,u with
     | 0,v,u=>
      cases v;cases u;exact Yx.own (id:=4) (t:=26) θ U (by simp[ap]) (λe aa a K=>by
       obtain⟨x,_,rfl⟩:=ZG.1 aa;simp[Ψ.cells]at K;subst K;simp[TY,Ψ.cells])
     | 1,v,u|2,v,u|3,v,u|4,v,u|5,v,u|6,v,u|7,v,u|8,v,u|9,v,u|10,v,u|11,v,u|12,v,u=>cases v;cases u;exact .low (by simp[TY,Ψ.cells])
    exact .low (by simp[TY,Ψ.cells])
   refine W.ret ⟨_,U,_,aL,.refl _,⟨{O with Zf:=H},f,U,?_⟩,U,a2⟩;obtain⟨bX,bY,bZ⟩:=ab.Zz;subst bl;subst bk;refine⟨aS,by rw[ad];exact⟨U,U⟩,aT,⟨by show 1<=H.length;omega,by show H.length<=3;omega,λc a4=>?_⟩,ak,⟨u.Yf,u.has⟩,⟨N,af,ag,by show(To g f).1<=N;rw[<-K];exact bQ,by show N<=(To g f).2;rw[<-K];exact aV,⟨J,bS⟩,⟨J,bU⟩,?_,?_⟩,bX,?_,bZ⟩
   .obtain⟨i,hi,rfl⟩:=Qg a4;have b0:i<H.length:=hi;have:=a1 i J _ (ξ b0);rw[aI]at this;exact this
   .show bg=max 0 (N-af);rw[bh];split<;>omega
   .show bi=min 80 (N+ag);rw[bj];split<;>omega
   show {g.Zz with cells:=[]}=_;rw[ad];show {Un.Zz with cells:=[]}=_;rw[bY]
  refine Β (by simp[a3]) ?_;obtain⟨mid,ar⟩:=ν (W6::(y++[U4]));have cv:mid.length<=5:=by rw[ar];simp;omega
  have bm:mid≠[]:=by rw[ar];simp
  repeat apply Ζ
  refine W.Wr (A:=[145,147]) Τ [(0,.Ο 0 1 0 0),(2,.Ο 1 1 0 0),(4,.Ο 5 1 0 0),(5,δ I 1 f),(6,Zb y),(14,I j),(15,.ms 6 mid.length 0 mid.length)] [ZS aL,F,.dead,.dead,.cells 26 1 (H.map Zb),U3 O s,.cells 9 1 (mid.map ZQ)] ?_ (by
   rw[ar];by_cases a5:y=[]
   .rw[a5];(try simp);(repeat (rw[Ι];simp));(try simp)
   have b1:1+y.length<=4294967296:=J
   have bn:y.length<=4294967295:=J
   have bo:y.length<=4294967294:=J
   have bp:1+y.length=y.length+1:=NO _ _;clear b1;(try simp);(repeat (rw[Ι];simp[a5,bp,bn,bo]));(try simp[a5,bp,bn,bo]))
  have bq:∀(D:ZF)(c:List ByteArray)(k:Zk)(Z:Xv)(E:XM)(env:κ),
    (∀p∈[(0,Ψ.Ο 0 1 0 0),(2,.Ο 1 1 0 0),(4,.Ο 5 1 0 0),(5,δ I 1 f),(6,Zb y),(14,I j),(15,.ms 6 c.length 0 c.length)],ε env p.1=p.2)->
    W prog [ZS d].length 166 k [(0,.Ο 0 1 0 0),(2,.Ο 1 1 0 0),(4,.Ο 5 1 0 0),(5,δ I 1 f),(6,Zb y),(14,I j),(15,Zb c)] [ZS D,F,.dead,.dead,.cells 26 1 (H.map Zb),U3 O s] Z E->
    W prog [ZS d].length 166 k env [ZS D,F,.dead,.dead,.cells 26 1 (H.map Zb),U3 O s,.cells 9 1 (c.map ZQ)] Z E:=λD c k Z E env b2 b3=>by
   refine W.forget _ b2 ?_;refine W.cut 6 o [(0,.Ο 0 1 0 0),(2,.Ο 1 1 0 0),(4,.Ο 5 1 0 0),(5,δ I 1 f),(6,Zb y),(14,I j),(15,Zb c)] o (λid r aJ P=>?_) (λz L=>?_) b3
   .rw[aF]at P;exact wT D O s H _ aJ P
   simp only[YU,XW,or_false]at L;rcases L with rfl|rfl|rfl|rfl|rfl|rfl|rfl
   .exact .low (.Ο θ)
   .exact .low (.Ο θ)
   .exact .low (.Ο θ)
   .exact .low (by simp[TY,Ψ.cells])
   .exact .low (by simp[TY,Ψ.cells])
   .exact .low o
   exact Yx.own (id:=6) (t:=9) o U o (λe aa a K=>by
    obtain⟨x,_,rfl⟩:=ZG.1 aa;simp[Ψ.cells]at K;subst K;simp)
  refine bq aL mid _ _ _ _ o ?_;refine IT 3 a2 λb4 a6 b5 au=>?_;refine ο λB l=>?_;refine Zc.g (au) (ς ?_);apply l;clear au;refine W.DT (ι:=List ByteArray) (λc=>Iw y c) (λc=>[(0,.Ο 0 1 0 0),(2,.Ο 1 1 0 0),(4,.Ο 5 1 0 0),(5,δ I 1 f),(6,Zb y),(14,I j),(15,Zb c)]) (λ_=>[ZS a6,F,.dead,.dead,.cells 26 1 (H.map Zb),U3 O s]) ?_ (λc a4=>?_)
  .cases b4
   .refine Δ o ?_;refine W.skip ?_;exact W.stop ⟨U,mid,.inl ar,U,o⟩
   refine Β o ?_
   repeat apply Ζ
   refine W.Wr (A:=[152]) Τ [(0,.Ο 0 1 0 0),(2,.Ο 1 1 0 0),(4,.Ο 5 1 0 0),(5,δ I 1 f),(6,Zb y),(14,I j),(15,.ms 6 (TP::mid).length 0 (TP::mid).length)] [ZS a6,F,.dead,.dead,.cells 26 1 (H.map Zb),U3 O s,.cells 9 1 ((TP::mid).map ZQ)] ?_ (by
    (try simp);(repeat (rw[Ι];simp[bm,NO]));(try simp[bm,NO])
    try omega)
   refine bq a6 (TP::mid) _ _ _ _ o ?_;exact W.stop ⟨U,TP::mid,.inr (.inl (by rw[ar])),U,o⟩
  refine IT 3 b5 λb6 av br au=>?_;refine ο λB l=>?_;refine Zc.g (au) (ς ?_);apply l;clear au;have bs:=xw av J [Ql,Qk] θ 4 θ;obtain⟨bt,bu⟩:=xx av [Ql,Qk] θ 4 θ;obtain⟨b7,a7⟩:=ν ((OM av [Ql,Qk] 4).1);obtain⟨b8,a8⟩:=ν ((OM av [Ql,Qk] 4).2);rw[<-a7,<-a8]at bs;rw[<-a7]at bt;rw[<-a8]at bu;clear a7 a8;refine W.DT (ι:=List ByteArray×ZF) (λx=>Iw y x.1/\x.2.Z4.length<=d.Z4.length) (λx=>[(0,.Ο 0 1 0 0),(2,.Ο 1 1 0 0),(4,.Ο 5 1 0 0),(5,δ I 1 f),(6,Zb y),(14,I j),(15,Zb x.1)]) (λx=>[ZS x.2,F,.dead,.dead,.cells 26 1 (H.map Zb),U3 O s]) ?_ (λx T=>?_)
  .cases b6
   .refine Δ o ?_;refine W.skip ?_;exact W.stop ⟨U,(c,av),⟨a4,br⟩,U,o⟩
   refine Β o ?_;refine ο λB l=>?_;refine Zc.c bs 0 U (.cons .ex (.cons (Yw.refl _) .nil)) o o ?_;simp;(repeat (rw[Ι];simp));apply l;exact W.stop ⟨U,(b7,b8),⟨.inr (.inr bt),WL bu br⟩,U,o⟩
  obtain⟨c',R⟩:=x;obtain⟨bv,bw⟩:=T;simp only at bv bw ⊢;have M:=X (j+1,H.set j c',R) ⟨by show j+1<=s;omega,by show(H.set j c').length=s;rw[Lj];exact ap,λi hi z L=>by
   simp only at hi L;by_cases e:i=j
   .subst e;rw[Xz J]at L;cases L;exact bv
   rw[XJ (YX e)]at L;exact a1 i J z L,bw⟩ (by show s-(j+1)<s-j;omega)
  simp only[Lh]at M;have b9:j<H.length:=J;have b':H[j]?=some H[j]:=ξ b9;refine YC (Ξ ap b') λB l=>?_;refine⟨a3,?_⟩;apply l;refine γ aq ?_;exact W.to M U (by simp[aq])
 obtain⟨ae,ca⟩:=aY;refine Β (by simp[ae,ca]) ?_;rw[an];have bx:IntKind.i64.wrap ((g.words.length:Int)-1)=(g.words.length:Int)-1:=IntWalk.i64_in _ J;refine Rg ((g.words.length:Int)-1) aW λq R cb aV Q=>?_;have aw:q<g.words.length:=J;obtain⟨w,a9⟩:=ν (Rc g (q:Int));have ax:g.words[q]?=some w:=by rw[a9,ξ aw];unfold Rc;simp[aw]
 have cc:w∈g.words:=ZD ax
 have cd:=bJ w cc;refine YC bx λB l=>?_;refine Zc.g (Q) (Wb bx ?_);apply l;have ce:Wn g (f++[(q:Int)]):=⟨by simp;omega,λn ay=>by
  rcases VS.1 ay with ay|ay
  .exact u.has n ay
  obtain rfl:=Us.1 ay;omega⟩
 have ba:=aX q;rw[<-a9]at ba;have aM:=an (f++[(q:Int)]) R;have cf:XR g (f++[(q:Int)])=XR g f++[w]:=by unfold XR;rw[WT,a9];rfl
 rw[cf]at aM;simp only[WT,WY,OE]at aM
 repeat apply Ζ
 refine W.L8 [5,6] [3] [5] (A:=[47,55]) Τ mixed λB l=>?_;simp[ax]
 repeat (rw[Rv];simp[QI,XD,VD,ax,<-Y,aH])
 try rw[P2]
 refine⟨J,aw,J,L' XL,l _ _ ?_⟩;obtain⟨az,bz⟩:=ν (Row.cells 3 1 (f.map I++[I (q:Int)]));obtain⟨aA,bA⟩:=ν (Row.cells 9 1 ((XR g f).map ZQ++[ZQ w]));rw[<-bz,<-bA]at aM;obtain⟨ah,aN⟩:=ν ((a.1+g.X',a.2+g.XX):Int×Int);rw[<-aN]at ba;obtain⟨bM,bN,bO⟩:=ao;have cg:Q8 (1000*(m+1)+4) ah:=by rw[aN];show 0<=a.1+g.X'/\a.1+g.X'<=a.2+g.XX/\a.2+g.XX<=1000*((m:Int)+1)+4;omega
 have ci:IntKind.i64.wrap (a.1+g.X')=ah.1:=by rw[IntWalk.i64_in _ J,aN]
 have cj:IntKind.i64.wrap (a.2+g.XX)=ah.2:=by rw[IntWalk.i64_in _ J,aN]
 refine W.to (σ':=[ZS R,F,.dead,.dead,Zd,U3 g s,az,aA]) (env':=[(0,.Ο 0 1 0 0),(2,.Ο 1 1 0 0),(4,.Ο 5 1 0 0),(5,.ms 6 (m+1) 0 (m+1)),(6,.ms 7 (m+1) 0 (m+1)),(7,I a.1),(8,I a.2),(9,I j),(10,I q)]) ?_ (by rw[bz,bA]) o
 repeat apply Ζ
 refine VB (Ξ ci cj) ?_;refine W.to (σ':=[ZS R,F,.dead,.dead,Zd,U3 g s,az,aA]) (env':=[(0,.Ο 0 1 0 0),(2,.Ο 1 1 0 0),(4,.Ο 5 1 0 0),(5,.ms 6 (m+1) 0 (m+1)),(6,.ms 7 (m+1) 0 (m+1)),(7,I ah.1),(8,I ah.2),(9,I j),(10,I q)]) ?_ U o;obtain⟨S,aB⟩:∃S:Nat->Int×Int,∀k,S k=(List.range k).foldl (Kd g.ZV w) ah:=⟨_,λ_=>rfl⟩;have bB:∀k,k<=3->Q8 (1000*(m+1)+472) (S k):=λk bC=>by
  obtain⟨ai,aj,aC⟩:=lZ aU w cg k;have ck:6*g.ZV.length*k<=6*26*3:=Nat.mul_le_mul (Nat.mul_le_mul_left 6 bI) bC;have cw:(6*(g.ZV.length:Int)*k)<=468:=by exact_mod_cast ck
  rw[aB];refine⟨ai,aj,J3 aC ?_⟩;omega
 refine ο λB l=>?_;apply l
 repeat apply Ζ
 refine W.iter (λk:Nat=>k<=w.size) (λk=>[(0,.Ο 0 1 0 0),(2,.Ο 1 1 0 0),(4,.Ο 5 1 0 0),(5,.ms 6 (m+1) 0 (m+1)),(6,.ms 7 (m+1) 0 (m+1)),(7,I (S k).1),(8,I (S k).2),(9,I j),(10,I q),(11,I k)]) (λ_=>[ZS R,F,.dead,.dead,Zd,U3 g s,az,aA]) (λk=>w.size-k) 0 (Γ _) U (by simp[aB]) (λk bC bD=>?_);refine YC ax λB l=>?_;refine⟨aw,?_⟩;apply l;by_cases cl:k<w.size
 case neg=>
  obtain rfl:k=w.size:=J;refine Δ o ?_;refine W.exit U ?_;clear bD;have bE:S w.size=To g (f++[(q:Int)]):=by rw[aB,ba];rfl
  have aq:IntKind.i64.wrap ((j:Int)-1)=((j-1:Nat):Int):=by rw[IntWalk.i64_in _ J];omega
  obtain⟨ai,aj,aC⟩:=bB w.size cd;have M:=X (j-1,f++[(q:Int)],R) ⟨by show j-1+(f++[(q:Int)]).length=aG;rw[VH,<-Y];simp;omega,ce,by rw[<-bE];refine⟨ai,aj,?_⟩;simp only[VH,List.length_singleton,<-Y];omega,cb⟩ (by show j-1<j;omega);simp only[VH,List.length_singleton,<-Y,<-bE,aM]at M;refine γ aq ?_;exact W.to M U (by simp[aq])
 refine Β (by simp[cl]) ?_;refine ο λB l=>?_;apply l
 repeat apply Ζ
 obtain⟨x,T⟩:=ν (w.extract k (k+1));obtain⟨cm,bb⟩:=ν (S k);obtain⟨V,aD⟩:∃V:Nat->Int×Int,∀i,V i=(g.ZV.take i).foldl (Q9 x) cm:=⟨_,λ_=>rfl⟩;have cn:∀i,i<=g.ZV.length->Q8 (1000*(m+1)+1000) (V i):=λi hi=>by
  obtain⟨ai,aj,aC⟩:=xt aU x (bB k J) i hi;rw[aD,bb];refine⟨ai,aj,J3 aC ?_⟩;omega
 refine W.iter (λi:Nat=>i<=g.ZV.length) (λi=>[(0,.Ο 0 1 0 0),(2,.Ο 1 1 0 0),(4,.Ο 5 1 0 0),(5,.ms 6 (m+1) 0 (m+1)),(6,.ms 7 (m+1) 0 (m+1)),(7,I (V i).1),(8,I (V i).2),(9,I j),(10,I q),(11,I k),(12,I i)]) (λ_=>[ZS R,F,.dead,.dead,Zd,U3 g s,az,aA]) (λi=>g.ZV.length-i) 0 (Γ _) U (by simp[aD,bb]) (λi hi bF=>?_);have bc:IntKind.i64.wrap ((k:Int)+1)=((k+1:Nat):Int):=by rw[IntWalk.i64_in _ J];omega
 have aO:IntKind.i64.wrap ((i:Int)+1)=((i+1:Nat):Int):=by rw[IntWalk.i64_in _ J];omega
 refine Χ ?_;by_cases aE:i<g.ZV.length
 case neg=>
  obtain rfl:i=g.ZV.length:=J;refine Δ o ?_;refine W.exit U ?_;clear bF;have cp:V g.ZV.length=S (k+1):=by rw[aD,OG,bb,aB,aB,Ur,SI,T];rfl
  have M:=bD (k+1) J (by show w.size-(k+1)<w.size-k;omega);rw[<-cp]at M;refine γ bc ?_;exact W.to M U (by simp[bc])
 refine Β (by simp[aE]) ?_;obtain⟨b,bG⟩:=ν (g.ZV[i]);have ak:g.ZV[i]?=some b:=by rw[bG,ξ aE]
 have cq:V (i+1)=Q9 x (V i) b:=by rw[aD,aD,Ws aE,SI,bG];rfl
 have M:=bF (i+1) J (by show g.ZV.length-(i+1)<g.ZV.length-i;omega);rw[cq]at M;obtain⟨ai,aj,aC⟩:=cn i hi;have cx:=aU b (ZD ak)
 repeat apply Ζ
 refine W.draw (A:=[]) Τ mixed λB l=>SY (Ξ ax (Ξ ak bc)) ?_;refine⟨aE,aw,⟨J,J⟩,UW XL,l _ _ ?_⟩;refine W.to (σ':=[ZS R,F,.dead,.dead,Zd,U3 g s,az,aA]) (env':=[(0,.Ο 0 1 0 0),(2,.Ο 1 1 0 0),(4,.Ο 5 1 0 0),(5,.ms 6 (m+1) 0 (m+1)),(6,.ms 7 (m+1) 0 (m+1)),(7,I (V i).1),(8,I (V i).2),(9,I j),(10,I q),(11,I k),(12,I i),(98,ZU (decide (b.Ya=x)))]) ?_ U (by simp[OU,T]);by_cases aP:b.Ya=x
 .have bd:Q9 x (V i) b=((V i).1+b.lo,(V i).2+b.hi):=if_pos aP;rw[bd]at M;have w1:IntKind.i64.wrap ((V i).1+b.lo)=(V i).1+b.lo:=IntWalk.i64_in _ J;have aK:IntKind.i64.wrap ((V i).2+b.hi)=(V i).2+b.hi:=IntWalk.i64_in _ J
  repeat apply Ζ
  refine Β (by simp[aP]) ?_
  repeat apply Ζ
  refine W.draw (A:=[]) Τ mixed λB l=>SY (Ξ ak (Ξ w1 aK)) ?_;refine⟨aE,UW XL,l _ _ ?_⟩;refine γ aO ?_;exact W.to M U (by simp[aO])
 have bd:Q9 x (V i) b=V i:=if_neg aP;rw[bd]at M
 repeat apply Ζ
 refine Δ (by simp[aP]) ?_;refine γ aO ?_;exact W.to M U (by simp[aO])
end Go.TL
namespace Go.TL
open Go.Proofs.Tryz
open Go.Proofs
def kv:@Μ Ye prog 11 [] (ZU true):=by
 letI:Z8:=Ye;have w1:MY Sg 0 [2,3]=((18,22),0):=by decide +kernel
 have g:=(lx It [2,3] θ).eq (r':=.Z7 [.Z' [I 18,I 22],I 0]) (by rw[w1])
 have h:=(xG It).eq (r':=.Z7 [Yv [[0,1],[2,3]],I 0]) (by unfold Ua;rw[if_pos U,Is])
 have i:=(lr ly).eq (r':=.Z7 [ZQ ⟨#[115,97,119,32,116,104,101]⟩,I 0]) (by rw[kS])
 have j:=(xH It [3,2] θ).eq (r':=.Z7 [I 6,I 0]) (by unfold M1;rw[if_pos (by decide +kernel),kT])
 have k:=(k2 It).eq (r':=.Z7 [I 0,I 1,I 0]) (by rw[kR])
 have m:=(lb It 4 12 θ lf (λ_=>by rw[Is];decide)).eq (r':=.Z7 [ZQ ⟨#[45,104]⟩,I 0]) (by rw[kQ])
 have b:=mr
 have n:=mm
 have p:=sT [[0,1],[2,3]] [[0,1],[2,3]] θ θ;clear w1;generalize Sg=r at g h j k m b;generalize M0=s at i n;refine Ν.body Τ func11 U U ntmps11 U U o ?_
 repeat apply Ζ
 refine Χ ?_;refine ZA ?_;refine ZB (A:=[1]) Τ λe a=>ς ?_;refine Μ.d (b) (ς ?_);refine Μ.c g (.cons (.refl _) (.cons .ex .nil)) o o ?_;simp;(repeat (rw[Ι];simp));apply a;refine W.fix (id:=0) (σ':=[]) (Γ _) U o o U [(1,.Κ [I 18,I 22]),(2,I 0)] o ?_;refine ο λe a=>?_;refine Μ.d (b) (ς ?_);refine Μ.c h (ZJ.refl _) o o ?_;simp;(repeat (rw[Ι];simp));apply a;refine ο λe a=>?_;refine Μ.d (n) (ς ?_);refine Μ.d (i) (ς ?_);apply a;refine ο λe a=>?_;refine Μ.d (b) (ς ?_);refine Μ.c j (.cons (.refl _) (.cons .ex .nil)) o o ?_;simp;(repeat (rw[Ι];simp));apply a;refine ο λe a=>?_;refine Μ.d (b) (ς ?_);refine Μ.d (k) (ς ?_);apply a;refine ο λe a=>?_;refine Μ.d (b) (ς ?_);refine Μ.d (m) (ς ?_);apply a;refine ο λe a=>?_;refine Μ.c p (.cons (.refl _) (.cons (.map (l:=[[0,1],[2,3]]) (f:=Xh) λx _=>.one .ex U U) .nil)) o o ?_;simp;(repeat (rw[Ι];simp));apply a;refine Χ ?_;refine W.rt ?_;exact .of U
end Go.TL
namespace Go.TL
open Go.Proofs.Tryz
open Go.Proofs
variable[Z8]
def ku(l:List (ψ))(f:ψ)(w:l.length<2 ^ 40)(n:∀x∈l,x.length<2 ^ 40):Μ prog 10 [Yv l,δ I 1 f] (ZU (l.any λx=>x==f)):=by
 refine Ν.body Τ func10 U U ntmps10 U U o ?_;refine Χ ?_;refine W.iter (λj:Nat=>j<=l.length/\((l.take j).any λx=>x==f)=false) (λj=>[(0,Yv l),(1,δ I 1 f),(5,I j)]) (λ_=>[]) (λj=>l.length-j) 0 ⟨Γ _,U⟩ U o (λj i p=>?_);obtain⟨i,e⟩:=i;refine Χ ?_;by_cases a:j<l.length
 .refine Β (by simp[a]) ?_;obtain⟨x,b⟩:=ν (l[j]);have r:(l.map (δ I 1))[j]?=some (δ I 1 x):=by rw[b,YK,ξ a];rfl
  have s:∀h:j<l.length,l[j]=x:=λ_=>b.symm
  have k:x∈l:=by rw[b];exact YW _
  have y:=n x k
  have t:(j:Int)<l.length:=J
  have u:((l.take (j+1)).any λx=>x==f)=(x==f):=by
   rw[Ws a,List.any_append,e];simp[b]
  clear b
  repeat apply Ζ
  refine YC (Ξ r (Ξ s (Ξ t a))) λA v=>?_;refine Μ.d (Av x f J) (ς ?_);apply v;by_cases c:x=f
  .have g:(l.any λx=>x==f)=true:=Ti.2 ⟨x,k,by simpa using c⟩;rw[g];refine Β (by simp[c]) ?_;refine Χ ?_;refine W.rt ?_;exact .of U
  have g:(x==f)=false:=by simpa using c
  refine Δ (by simp[c]) ?_;have m:=YR a (show l.length<2 ^ 62 by omega);refine γ m ?_;refine W.to (p (j+1) ⟨a,by rw[u,g]⟩ J) U (by simp[m])
 obtain rfl:j=l.length:=J
 rw[OG]at e;rw[e];refine Δ o ?_;refine W.exit U ?_;refine Χ ?_;refine W.rt ?_;exact .of U
end Go.TL
namespace Go.TL
open Go.Proofs.Tryz
open Go.Conc Go.Proofs
def kt(l:ψ)(D:l.length<2 ^ 63):@W Ye prog 0 64 [.code (Tryz.f3.body.getD .skip)] (entry 0 [δ I 1 l]) [] (λj env _=>(∃k,j=.code .ret::k)/\ε env 2=ZU true) (λ_ _ _=>False):=by
 letI:Z8:=Ye;show W prog 0 64 [.code _] _ _ _ _;refine W.seq ?_
 repeat apply Ζ
 refine L7 ?_;refine ZA ?_;refine ZB (A:=[3]) Τ λi b=>ς ?_;refine Ν.call (first:=[]) (captured:=[]) ((oK l).mono (λa s ⟨m,E⟩=>?_) (λ_ _ h=>h.elim));subst m;subst E;simp;(repeat (rw[Ι];simp));have u:(⟨l,1⟩:ZF).Z4.length<2 ^ 63:=D;generalize (⟨l,1⟩:ZF)=d0 at u;refine PJ.c (kx d0 u) 0 U (ZJ.refl _) o (by
  rintro r ⟨g,f,rfl,_⟩;simp[TY,Ψ.cells]) ?_
 rintro r d1 ⟨g,f,rfl,v⟩ P;simp;(repeat (rw[Ι];simp));apply b;clear b i;refine W.Rp (σ0:=[ZS d1]) (Γ _) (λr w=>by simp at w;subst w;exact Ng d1 _) (λa y=>by simp[Ψ.cells]at y;rcases y with rfl|rfl|rfl|rfl|rfl|rfl|rfl|rfl|rfl|rfl|rfl|rfl|rfl<;>simp[TY,Ψ.cells]) [(3,.Κ (Yo g)),(4,δ I 1 f)] o ?_;have e:=kA v;have F:=(xH e.Cg f (by have:=e.RS.Yf;omega)).eq (r':=.Z7 [I 0,I 0]) (by unfold M1;rw[if_pos e.err,e.wU]);have B:=(xG e.Cg).eq (r':=.Z7 [Yv (XQ g (TN W6 U4 g.Zf) []),I 0]) (by unfold Ua;rw[if_pos rfl]);have H:=(kZ e.Cg).eq (r':=.Z7 [I 0,I 0]) (by unfold Lt;rw[if_neg o,e.least,if_neg θ]);have n:=e.mem;have K:=e.Yf;have p:∀x∈XQ g (TN W6 U4 g.Zf) [],x.length<2 ^ 40:=λx M=>by
  have m:=(TK.1 M).1
  have:=wV g.words.length 3 [] x m;simp at this;omega
 obtain⟨L,C⟩:=ν (XQ g (TN W6 U4 g.Zf) []);rw[<-C]at B n K p;have N:=(ku L f J p).eq (r':=ZU true) (by rw[Ti.2 ⟨f,n,o⟩]);have O:=kv;have t:(L.length:Int)<=160:=J;clear v e C n p;refine ο λi b=>?_;refine Μ.d (F) (ς ?_);apply b;refine ο λi b=>?_;refine Μ.d (B) (ς ?_);apply b;refine ο λi b=>?_;refine Μ.d (H) (ς ?_);apply b;refine YC t λi b=>?_;refine Μ.d (N) (Wb t ?_);refine Μ.d (O) (Wb t ?_);apply b;exact W.stop ⟨⟨_,U⟩,o⟩
end Go.TL
