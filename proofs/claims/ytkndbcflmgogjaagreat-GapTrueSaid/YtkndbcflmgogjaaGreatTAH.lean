import Derived.Conc.AtomicLaws2
import Derived.Conc.ClockLaws
import Derived.Conc.MarkLaws
import Derived.Conc.QuitsD
import Derived.Conc.SmallLaws
import Derived.Test.YtkndbcflmgogjaaGreatTAG
set_option linter.defProp false
set_option maxHeartbeats 16000000
set_option maxRecDepth 20000
set_option linter.unusedSectionVars false
set_option linter.unusedSimpArgs false
set_option linter.unusedVariables false
namespace Go.TL
open Go.Proofs.Tryz
open Go.Proofs
variable[Z8]
abbrev Yn(r:Int×Int):Ψ×Ψ:=(Y6 r,ZU true)
def rS(x y):aeqv υ 246 (Y6 x) (Y6 y)=some (decide (x=y)):=by
 simp[Ul];rw[Pv];simp[Prod.ext_iff]
def rR(r):∀(l:List Wm) n,r∉l->V2 υ 246 (Y6 r) (l.map Yn) n=some none:=by
 intro l
 induction l with
 | nil=>intro n _;rfl
 | cons x l a=>
  intro n h;simp only[WY,V2];have b:¬r=x:=λe=>h (by simp[e]);have:=rS r x;rw[this,decide_eq_false b];exact a (n+1) λc=>h (by simp[c])
def Rm(i j:Nat):List Wm:=(List.range j).map λy:Nat=>(i-1,y-1)
def Uh(n i:Nat):List Wm:=(List.range i).flatMap λx=>Rm x (n+1)
def DS(n:Nat):List Wm:=Uh n (n+1)
def Aa(i j):Rm i (j+1)=Rm i j++[((i:Int)-1,(j:Int)-1)]:=by simp[Rm,Ur]
def z'(n i):Uh n (i+1)=Uh n i++Rm i (n+1):=by simp[Uh,Ur]
def Gj{i j r}(h:r∈Rm i j):r.1=i-1/\r.2<j-1:=by
 unfold Rm at h;obtain⟨y,a,rfl⟩:=ZG.1 h;have:=VR.1 a;exact⟨U,by simp;omega⟩
def z9{n i r}(h:r∈Uh n i):r.1<i-1:=by
 unfold Uh at h;let ⟨x,a,b⟩:=MQ.1 h;have:=VR.1 a;have:=(Gj b).1;omega
def Rl(s:Zm)(p:Int×Int)(c:Nat):List Wm:=(DS s.Z2.length).filter λr=>s.KF p r c
def rQ(i j):(Rm i j).Pairwise λx y=>x.1<y.1\/(x.1=y.1/\x.2<y.2):=by
 induction j with
 | zero=>simp[Rm]
 | succ j d=>
  rw[Aa,Lp];refine⟨d,o,λa e b c=>?_⟩;simp at c;subst c;have:=Gj e;exact .inr ⟨this.1,by simpa using this.2⟩
def rP(n i):(Uh n i).Pairwise λx y=>x.1<y.1\/(x.1=y.1/\x.2<y.2):=by
 induction i with
 | zero=>simp[Uh]
 | succ i c=>
  rw[z',Lp];refine⟨c,rQ _ _,λa d b e=>.inl ?_⟩;have:=z9 d;have:=(Gj e).1;omega
def rO(s p c):(Rl s p c).Pairwise λx y=>x.1<y.1\/(x.1=y.1/\x.2<y.2):=(rP _ _).filter _
def DR(N:Nat):Prop:=∀(l:List Wm),l.length<=N->Ν prog 223 [.ms 0 l.length 0 l.length,.fn (.func 224) [] []] [.cells 246 2 (l.map Y6)] (λr s=>r=.Z7 []/\s=[.cells 246 2 ((l.mergeSort SX).map Y6)]) (λ_ _=>False)
def rN:DR 12:=λl a=>by
 have h:=sE l.toArray l.length o a (.fn (.func 224) [] []) P0 (by simp[Su]) (λx y=>Μ.p (sK x y) (ZJ.refl _) o o);rw[Gl Gk r4 l]at h;exact h
def SW(q:Int×Int->Bool)(n i j:Nat):List Wm:=(Uh n i++Rm i j).filter q
def rM{q n}:SW q n 0 0=[]:=by simp[SW,Uh,Rm]
def rL{q n i}:SW q n i (n+1)=SW q n (i+1) 0:=by simp[SW,z',Rm]
def rK{q n i j}:SW q n i (j+1)=SW q n i j++if q (i-1,j-1) then [((i:Int)-1,(j:Int)-1)] else []:=by
 unfold SW;rw[Aa,<-Sc,List.filter_append];simp[MR]
def rJ{q n}:SW q n (n+1) 0=(DS n).filter q:=by simp[SW,Rm,DS]
def rI{q n i j}:((i:Int)-1,(j:Int)-1)∉SW q n i j:=by
 unfold SW;rw[TK,VS];rintro⟨h|h,_⟩
 .have:=z9 h;simp at this
 have:=(Gj h).2;simp at this
def R5(l:μ):Ψ:=if l.isEmpty then .sl true 0 [] else .ms 3 l.length 0 l.length
def Zd(l:μ):Ρ:=if l.isEmpty then [] else [.cells 245 1 l]
abbrev VZ:Row:=.cells 173 3 [.Z' [I 0,I 0,.sl true 0 []]]
abbrev WC(p:Int×Int)(L:μ):Row:=.cells 173 3 [.Z' [I p.1,I p.2,R5 L]]
def VM(id:Nat)(l:μ):Ψ:=if l.isEmpty then .sl true 0 [] else .ms id l.length 0 l.length
def QE{id l}(h:l≠[]):VM id l=.ms id l.length 0 l.length:=by unfold VM;rw[if_neg (by simpa using h)]
def rH{l}:ω ((Zd l).length+3) (R5 l):=by
 unfold R5 Zd;cases l.isEmpty<;>simp[S2]
def rG{h l}(d:∀e∈l,∀a∈e.cells,ω 0 a):∀r∈Zd l,YO h r:=by
 intro r b;unfold Zd at b;cases c:l.isEmpty with
 | true=>rw[c]at b;simp at b
 | false=>
  rw[c]at b;simp at b;subst b;exact λe f a g=>(d e f a g).mono (Γ _)
def YO.mono{h j r}(b:YO h r)(d:h<=j):YO j r:=by
 cases r with
 | cells t k l=>exact λe f a g=>(b e f a g).mono d
 | map es=>exact λe f=>⟨(b e f).1.mono d,(b e f).2.mono d⟩
 | iter m left n=>exact⟨J7 b.1 d,λe f=>⟨(b.2.1 e f).1.mono d,(b.2.1 e f).2.mono d⟩,λe f=>⟨(b.2.2 e f).1.mono d,(b.2.2 e f).2.mono d⟩⟩
 | str s p=>trivial
 | loop L o u a bd nt env=>exact λi=>(b i).mono d
 | own c v l=>exact λa g=>(b a g).mono d
 | dead=>trivial
def rF{h id l}(b:l≠[]->id<h):ω h (VM id l):=by
 by_cases a:l=[]
 .subst a;unfold VM;simp
 rw[QE a];exact S2.2 (b a)
def rE{b:Type}(l:List b)(i)(h:i<l.length):(l[i]::l.eraseIdx i).Perm l:=by
 induction l generalizing i with
 | nil=>simp at h
 | cons a l c=>
  cases i with
  | zero=>exact .refl _
  | succ i=>
   simp;exact(List.Perm.swap _ _ _).trans (.cons a (c i (by simpa using h)))
def Gi{h id k t l σ}(c:h<=id)(d:l≠[]->σ[id]?=some (.cells t k l))(f:∀e∈l,∀a∈e.cells,ω h a):Yx h σ (VM id l) (V9 k l):=by
 by_cases b:l=[]
 .subst b;exact .low (by unfold VM;simp)
 have e:V9 k l=.sl false k l:=by unfold V9;rw[if_neg (by simpa using b)]
 rw[QE b,e];exact .own c (d b) U f
def z8(k m):∃b kk l,V9 k m=.sl b kk l:=by
 unfold V9;split
 .exact⟨_,_,_,U⟩
 exact⟨_,_,_,U⟩
def rD(s)(ao:s.small)(aZ:s.Z2.length<2 ^ 20)(p)(hv:∀c∈s.cells,∀x∈c,0<=x.Xn/\x.Xn<s.ZE.length)(N)(a0:N<2 ^ 20)(aC:DR N)(S:∀c,c<s.cells.length->(Rl s p c).length<=N) :
  Μ prog 182 [Wa s,Y6 p] (YB ⟨p.1,p.2,(List.range s.cells.length).map (Rl s p)⟩):=by
 apply Ν.body Τ func182 U U ntmps182 U U o
 repeat apply Ζ
 refine ZB (A:=[4]) Τ λv f=>ς ?_;apply f
 repeat apply Ζ
 refine ZB (A:=[5]) Τ λv f=>ς ?_;apply f
 repeat apply Ζ
 refine ο λv f=>?_;apply f;refine Χ ?_;have a1:s.cells.length<2 ^ 30:=ao.2.2.1;refine W.iter (λc=>c<=s.cells.length) (λc=>[(2,XC s),(3,.Κ [I p.1,I p.2]),(4,.Ο 0 1 0 0),(5,.Ο 1 1 0 0),(6,.mp 2),(19,I s.cells.length),(20,I c)])
  (λc=>VZ::WC p ((List.range c).map λc=>V9 2 ((Rl s p c).map Y6))::.map []::Zd ((List.range c).map λc=>V9 2 ((Rl s p c).map Y6))) (λc=>s.cells.length-c) 0 (Γ _) (by simp[R5,Zd]) o (λc ae H=>?_)
 let ⟨L,O⟩:=ν ((List.range c).map λc=>V9 2 ((Rl s p c).map Y6));refine W.to (σ':=VZ::WC p L::.map []::Zd L) (env':=[(2,XC s),(3,.Κ [I p.1,I p.2]),(4,.Ο 0 1 0 0),(5,.Ο 1 1 0 0),(6,.mp 2),(19,I s.cells.length),(20,I c)]) ?_ (by rw[O]) o;refine Χ ?_;refine W.YD U (λae=>?_) (λae=>?_)
 .have af:c<s.cells.length:=by simpa using ae
  refine Χ ?_;let ⟨n,T⟩:=ν s.Z2.length;have a2:n<2 ^ 20:=J;let ⟨q,ap⟩:=ν (λr=>s.KF p r c:Int×Int->Bool);have P:∀e∈L,∀a∈e.cells,ω 0 a:=by
   rw[O];intro e g a m;obtain⟨x,_,rfl⟩:=ZG.1 g;unfold V9 at m;split at m<;>simp[Ψ.cells]at m<;>subst m<;>simp
  have V:∀(M:List Wm)(h:Nat),YO h (.map (M.map Yn)):=λM h e g=>by
   obtain⟨x,_,rfl⟩:=ZG.1 g;simp
  have C:∀M:List Wm,∀r∈VZ::WC p L::.map (M.map Yn)::Zd L,YO (VZ::WC p L::.map (M.map Yn)::Zd L).length r:=λM r w=>by
   simp only[YU]at w;rcases w with rfl|rfl|rfl|w
   .simp[YO,Ψ.cells]
   .simp[YO,Ψ.cells];exact rH
   .exact V M _
   exact rG P r w
  refine W.iter (λi:Nat=>i<=n+1) (λi=>[(2,XC s),(3,.Κ [I p.1,I p.2]),(4,.Ο 0 1 0 0),(5,.Ο 1 1 0 0),(6,.mp 2),(19,I s.cells.length),(20,I c),(7,I c),(8,I ((i:Int)-1))])
   (λi=>VZ::WC p L::.map ((SW q n i 0).map Yn)::Zd L) (λi=>n+1-i) 0 (Γ _) (by rw[rM];rfl) o (λi hi X=>?_)
  refine Χ ?_;by_cases a3:i<n+1
  .apply Β (by simp[<-T];omega);refine Χ ?_;refine W.iter (λj:Nat=>j<=n+1) (λj=>[(2,XC s),(3,.Κ [I p.1,I p.2]),(4,.Ο 0 1 0 0),(5,.Ο 1 1 0 0),(6,.mp 2),(19,I s.cells.length),(20,I c),(7,I c),(8,I ((i:Int)-1)),(9,I ((j:Int)-1))])
    (λj=>VZ::WC p L::.map ((SW q n i j).map Yn)::Zd L) (λj=>n+1-j) 0 (Γ _) U o (λj a4 aq=>?_)
   refine Χ ?_;by_cases a5:j<n+1
   .apply Β (by simp[<-T];omega)
    repeat apply Ζ
    let ⟨M,ag⟩:=ν (SW q n i j);refine W.to (σ':=VZ::WC p L::.map (M.map Yn)::Zd L) (env':=[(2,XC s),(3,.Κ [I p.1,I p.2]),(4,.Ο 0 1 0 0),(5,.Ο 1 1 0 0),(6,.mp 2),(19,I s.cells.length),(20,I c),(7,I c),(8,I ((i:Int)-1)),(9,I ((j:Int)-1))]) ?_ (by rw[ag]) o;have aD:V2 υ 246 (.Z' [I ((i:Int)-1),I ((j:Int)-1)]) (M.map Yn) 0=some none:=rR _ M 0 (by rw[ag];exact rI);have am:∀es,UC (VZ::WC p L::.map es::Zd L) 2=true:=λes=>by unfold Zd;cases L.isEmpty<;>simp[UC]
    refine ZB (A:=[10]) Τ λv f=>ς ?_;apply f;apply W.Rp (σ0:=VZ::WC p L::.map (M.map Yn)::Zd L) (Γ _) (C M) o [(10,.Κ [I ((i:Int)-1),I ((j:Int)-1)]),(2,XC s),(3,.Κ [I p.1,I p.2]),(4,.Ο 0 1 0 0),(5,.Ο 1 1 0 0),(6,.mp 2),(19,I s.cells.length),(20,I c),(7,I c),(8,I ((i:Int)-1)),(9,I ((j:Int)-1))] (by simp[S3,GL]);have ar:=Yh (show j<2 ^ 62 by omega);refine ο λv f=>?_;apply Μ.c (sO s ao p ((i:Int)-1,(j:Int)-1) c af (hv _ (YW af)) (by simp;omega) (by simp;omega)) (ZJ.refl _) o o;simp;(repeat (rw[Ι];simp));apply f;have aE:s.KF p ((i:Int)-1,(j:Int)-1) c=q ((i:Int)-1,(j:Int)-1):=by rw[ap]
    rw[aE];have ah:=rK (q:=q) (n:=n) (i:=i) (j:=j);cases au:q ((i:Int)-1,(j:Int)-1)
    .apply Δ U;refine γ ar ?_;rw[au]at ah;apply W.to (aq (j+1) J J)
     .rw[ah,ag];simp
     simp
    apply Β U
    repeat apply Ζ
    refine Yz λv f=>?_;simp;(repeat (rw[Ι];simp[aD,am,-UC]));apply f;refine γ ar ?_;rw[au]at ah;apply W.to (aq (j+1) J J)
    .rw[ah,ag];simp
    simp
   apply Δ (by simp[<-T];omega);apply W.exit U;have aF:j=n+1:=J;subst aF;refine Χ ?_;apply W.to (X (i+1) J J)
   .rw[rL]
   have:=Yh (show i<2 ^ 62 by omega);simp[this]
  apply Δ (by simp[<-T];omega);apply W.exit U;have aG:i=n+1:=J;subst aG;let ⟨D,ai⟩:=ν (Rl s p c);have aH:SW q n (n+1) 0=D:=by rw[rJ,ai,ap,T];rfl
  rw[aH];have aI:D.length<=N:=by rw[ai];exact S c af
  refine W.to (σ':=VZ::WC p L::.map (D.map Yn)::Zd L) (env':=[(2,XC s),(3,.Κ [I p.1,I p.2]),(4,.Ο 0 1 0 0),(5,.Ο 1 1 0 0),(6,.mp 2),(19,I s.cells.length),(20,I c),(7,I c)]) ?_ U o;refine Χ ?_;refine W.iter (λx:List Wm×List Wm×Option (Ψ×Ψ)=>(x.1++x.2.1).Perm D/\(x.2.2=none\/∃y,x.2.2=some (Yn y)))
   (λx=>[(2,XC s),(3,.Κ [I p.1,I p.2]),(4,.Ο 0 1 0 0),(5,.Ο 1 1 0 0),(6,.mp 2),(19,I s.cells.length),(20,I c),(7,I c),(11,VM ((Zd L).length+1+1+1+1) (x.1.map Y6)),(50,.it ((Zd L).length+1+1+1))])
   (λx=>VZ::WC p L::.map (D.map Yn)::(Zd L++(.iter 2 (x.2.1.map Yn) x.2.2::X1 246 2 (x.1.map Y6)))) (λx=>x.2.1.length) ([],D,none) ⟨o,.inl U⟩ (by simp[X1]) (by simp[VM]) (λx aj Y=>?_)
  let ⟨K,R,ak⟩:=x
  let ⟨al,aJ⟩:=aj;simp only at al aJ
  repeat apply Ζ
  cases R with
  | nil=>
   refine ο λv f=>?_;apply f
   repeat apply Ζ
   apply Δ U;apply W.exit U;have E:K.Perm D:=by simpa using al
   repeat apply Ζ
   have av:K.length<=N:=by rw[E.length_eq];exact aI
   have aK:K.mergeSort SX=D:=by
    rw[ai]at E ⊢;exact rZ E (rO s p c)
   refine W.Wr (A:=[]) Τ [(2,XC s),(3,.Κ [I p.1,I p.2]),(4,.Ο 0 1 0 0),(5,.Ο 1 1 0 0),(6,.mp 2),(19,I s.cells.length),(20,I c),(11,VM ((Zd L).length+1+1+1+1) (D.map Y6))]
    (VZ::WC p L::.map (D.map Yn)::(Zd L++(.iter 2 [] ak::X1 246 2 (D.map Y6)))) ?_ (by
    clear Y X H C V S hv P;by_cases d:K=[]
    .subst d;have aL:D=[]:=E.symm.eq_nil;rw[aL];simp only[OE,R6,show VM ((Zd L).length+1+1+1+1) []=.sl true 0 [] from rfl];simp;(repeat (rw[Ι];simp));apply Μ.c (rW _ (by simp[Su])) (ZJ.refl _) (by simp[Su]) o;simp;(repeat (rw[Ι];simp));(try simp)
    have Z:K.map Y6≠[]:=by simpa using d
    have aM:D≠[]:=λe=>d (by rw[e]at E;exact E.eq_nil)
    have aw:D.map Y6≠[]:=by simpa using aM
    rw[QE Z,UT Z,QE aw,UT aw];simp;(repeat (rw[Ι];simp));have ax:ω 0 (.fn (.func 224) [] []):=by simp[Su]
    apply Ν.one (aC K av) ((Zd L).length+1+1+1+1) o (Pa L2) (Pa L2) (by simp[Uj,ax.U' 1]) (by simp[Xc]) (by simp[Ui,ax.Yt [(Zd L).length+1+1+1+1]]);simp[Yt,WE];(repeat (rw[Ι];simp));(try simp[aK,E.length_eq]))
   refine W.cut ((Zd L).length+1+1+1) (Γ _) [(2,XC s),(3,.Κ [I p.1,I p.2]),(4,.Ο 0 1 0 0),(5,.Ο 1 1 0 0),(6,.mp 2),(19,I s.cells.length),(20,I c),(11,V9 2 (D.map Y6))] o (λid r ay w=>?_) ?_ ?_
   .apply C D r;have e:VZ::WC p L::.map (D.map Yn)::(Zd L++(.iter 2 [] ak::X1 246 2 (D.map Y6)))=(VZ::WC p L::.map (D.map Yn)::Zd L)++(.iter 2 [] ak::X1 246 2 (D.map Y6)):=o;rw[e,YT (by simpa using ay)]at w;exact ZD w
   .have aN:Yx ((Zd L).length+1+1+1) (VZ::WC p L::.map (D.map Yn)::(Zd L++(.iter 2 [] ak::X1 246 2 (D.map Y6)))) (VM ((Zd L).length+1+1+1+1) (D.map Y6)) (V9 2 (D.map Y6)):=Gi (t:=246) J (λaa=>by rw[UT aa];simp) (λe g a m=>by
     obtain⟨z,_,rfl⟩:=ZG.1 g;exact(L2 z a m).mono (Γ _))
    intro z d;simp only[YU,XW,or_false]at d;rcases d with rfl|rfl|rfl|rfl|rfl|rfl|rfl|rfl
    all_goals first|exact aN|exact .low (by simp[S3,GL])
   let ⟨B,ab⟩:=ν (L++[V9 2 (D.map Y6)])
   have a6:L.length<2 ^ 30:=by rw[O];simp;omega
   refine W.to (σ':=VZ::WC p L::.map (D.map Yn)::Zd L) (env':=[(2,XC s),(3,.Κ [I p.1,I p.2]),(4,.Ο 0 1 0 0),(5,.Ο 1 1 0 0),(6,.mp 2),(19,I s.cells.length),(20,I c),(11,V9 2 (D.map Y6))]) ?_ o o
   repeat apply Ζ
   refine W.Wr (A:=[65]) Τ [(2,XC s),(3,.Κ [I p.1,I p.2]),(4,.Ο 0 1 0 0),(5,.Ο 1 1 0 0),(6,.mp 2),(19,I s.cells.length),(20,I c)] (VZ::WC p B::.map (D.map Yn)::Zd B) ?_ (by
    clear Y X H C V S hv;let ⟨az,aA,sl,aO⟩:=z8 2 (D.map Y6);rw[aO]at ab ⊢;by_cases d:L=[]
    .have aP:B=[.sl az aA sl]:=by rw[ab,d];rfl
     rw[aP];subst d;simp only[WC,Zd,R5,List.isEmpty_nil,List.isEmpty_cons,if_true,if_false];(try simp);(repeat (rw[Ι];simp));(try simp)
    have ad:L.length<=4294967295:=J
    have aQ:R5 L=.ms 3 L.length 0 L.length:=by unfold R5;rw[if_neg (by simpa using d)]
    have aR:Zd L=[.cells 245 1 L]:=by unfold Zd;rw[if_neg (by simpa using d)]
    have aS:R5 B=.ms 3 (L.length+1) 0 (L.length+1):=by rw[ab];unfold R5;rw[if_neg o];simp
    have aT:Zd B=[.cells 245 1 (L++[.sl az aA sl])]:=by rw[ab];unfold Zd;rw[if_neg o]
    simp only[WC];rw[aQ,aR,aS,aT];(try simp);(repeat (rw[Ι];simp[ad]));(try simp[ad]))
   have am:∀es,UC (VZ::WC p B::.map es::Zd B) 2=true:=λes=>by unfold Zd;cases B.isEmpty<;>simp[UC]
   repeat apply Ζ
   refine Yz λv f=>?_;simp;(repeat (rw[Ι];simp[am,-UC]));apply f;refine Χ ?_;have aU:B=(List.range (c+1)).map λc=>V9 2 ((Rl s p c).map Y6):=by rw[ab,O,ai,Ur];simp
   apply W.to (H (c+1) J J)
   .rw[<-aU]
   simp[YR af (show s.cells.length<2 ^ 62 by omega)]
  | cons y R=>
   refine ο λv f=>?_;intro i hi;let ⟨x,aj⟩:=ν ((y::R)[i]'(by simpa using hi));have aV:(Yn y::List.map Yn R)[i]?=some (Yn x):=by
    have:(List.map Yn (y::R))[i]?=some (Yn x):=by
     rw[YK,ξ (by simpa using hi),aj];rfl
    simpa using this
   have aW:(Yn y::List.map Yn R).eraseIdx i=((y::R).eraseIdx i).map Yn:=by
    exact DU Yn (y::R) i
   rw[aV,aW];simp;(repeat (rw[Ι];simp));apply f
   repeat apply Ζ
   apply Β U
   repeat apply Ζ
   refine ZB (A:=[12]) Τ λv f=>ς ?_;apply f;have an:∀r∈VZ::WC p L::.map (D.map Yn)::(Zd L++(.iter 2 (((y::R).eraseIdx i).map Yn) (some (Yn x))::X1 246 2 (K.map Y6))),YO (VZ::WC p L::.map (D.map Yn)::(Zd L++(.iter 2 (((y::R).eraseIdx i).map Yn) (some (Yn x))::X1 246 2 (K.map Y6)))).length r:=by
    intro r w;have u:r∈VZ::WC p L::.map (D.map Yn)::Zd L\/r∈(.iter 2 (((y::R).eraseIdx i).map Yn) (some (Yn x))::X1 246 2 (K.map Y6)):=by
     have:r∈(VZ::WC p L::.map (D.map Yn)::Zd L)++(.iter 2 (((y::R).eraseIdx i).map Yn) (some (Yn x))::X1 246 2 (K.map Y6)):=by simpa using w
     exact VS.1 this
    rcases u with u|u
    .exact YO.mono (C D r u) o
    rcases YU.1 u with rfl|u
    .refine⟨o,λe g=>?_,λe g=>?_⟩
     .obtain⟨z,_,rfl⟩:=ZG.1 g;simp
     cases g;simp
    unfold X1 at u;split at u
    .simp at u
    simp at u;subst u;intro e g a m;obtain⟨z,_,rfl⟩:=ZG.1 g;simp[Ψ.cells]at m;rcases m with rfl|rfl<;>simp
   refine W.to (σ':=(VZ::WC p L::.map (D.map Yn)::(Zd L++(.iter 2 (((y::R).eraseIdx i).map Yn) (some (Yn x))::X1 246 2 (K.map Y6))))++[.cells 246 2 [Y6 x]]) (env':=[(12,.Ο (VZ::WC p L::.map (D.map Yn)::(Zd L++(.iter 2 (((y::R).eraseIdx i).map Yn) (some (Yn x))::X1 246 2 (K.map Y6)))).length 1 0 0),(2,XC s),(3,.Κ [I p.1,I p.2]),(4,.Ο 0 1 0 0),(5,.Ο 1 1 0 0),(6,.mp 2),(19,I s.cells.length),(20,I c),(7,I c),(11,VM ((Zd L).length+1+1+1+1) (K.map Y6)),(50,.it ((Zd L).length+1+1+1))]) ?_ o o;apply W.Rp (σ0:=VZ::WC p L::.map (D.map Yn)::(Zd L++(.iter 2 (((y::R).eraseIdx i).map Yn) (some (Yn x))::X1 246 2 (K.map Y6)))) (Γ _) an o [(12,.Κ [I x.1,I x.2]),(2,XC s),(3,.Κ [I p.1,I p.2]),(4,.Ο 0 1 0 0),(5,.Ο 1 1 0 0),(6,.mp 2),(19,I s.cells.length),(20,I c),(7,I c),(11,VM ((Zd L).length+1+1+1+1) (K.map Y6)),(50,.it ((Zd L).length+1+1+1))] (by
    have aX:=rF (h:=(Zd L).length+((X1 246 2 (K.map Y6)).length+1)+1+1+1) (id:=(Zd L).length+1+1+1+1) (l:=K.map Y6) (λaa=>by rw[UT aa];simp);clear Y X H C an V S hv P;simp[S3,GL,Eh,aX]
    )
   repeat apply Ζ
   have av:K.length<2 ^ 20:=by
    have:=al.length_eq;simp at this;omega
   refine W.Wr (A:=[58]) Τ [(2,XC s),(3,.Κ [I p.1,I p.2]),(4,.Ο 0 1 0 0),(5,.Ο 1 1 0 0),(6,.mp 2),(19,I s.cells.length),(20,I c),(7,I c),(11,VM ((Zd L).length+1+1+1+1) ((K++[x]).map Y6)),(50,.it ((Zd L).length+1+1+1))]
    (VZ::WC p L::.map (D.map Yn)::(Zd L++(.iter 2 (((y::R).eraseIdx i).map Yn) (some (Yn x))::X1 246 2 ((K++[x]).map Y6)))) ?_ (by
    clear Y X H C an V S hv P;by_cases d:K=[]
    .subst d;simp only[OE,R6,show VM ((Zd L).length+1+1+1+1) []=.sl true 0 [] from rfl];(try simp);(repeat (rw[Ι];simp[R6]));(try simp[R6]);exact⟨U,U⟩
    have ad:K.length<=4294967295:=J
    have Z:K.map Y6≠[]:=by simpa using d
    rw[QE Z,UT Z];(try simp);(repeat (rw[Ι];simp[ad]));(try simp[ad]);rw[UT o,QE o];simp)
   refine Χ ?_;have aB:(x::(y::R).eraseIdx i).Perm (y::R):=by
    rw[aj];exact rE _ _ _
   refine W.to (Y (K++[x],(y::R).eraseIdx i,some (Yn x)) ⟨?_,.inr ⟨x,U⟩⟩ ?_) o o
   .simp only[Sc,List.singleton_append];exact(aB.append_left K).trans al
   have:=aB.length_eq;simp at this;simp only[List.length_cons];omega
 have aY:c=s.cells.length:=by simp at ae;omega
 subst aY;apply W.exit U
 repeat apply Ζ
 clear H;have P:∀e∈L,∀a∈e.cells,ω 0 a:=by
  rw[O];intro e g a m;obtain⟨x,_,rfl⟩:=ZG.1 g;unfold V9 at m;split at m<;>simp[Ψ.cells]at m<;>subst m<;>simp
 refine W.Wr (A:=[]) Τ [(4,.Ο 0 1 0 0)] (.cells 173 3 [.Z' [I p.1,I p.2,R5 L]]::WC p L::.map []::Zd L) ?_ (by
  simp only[WC];by_cases d:L=[]
  .rw[show R5 L=.sl true 0 [] by rw[d];rfl];(try simp);(repeat (rw[Ι];simp));(try simp)
  rw[show R5 L=.ms 3 L.length 0 L.length by unfold R5;rw[if_neg (by simpa using d)],show Zd L=[.cells 245 1 L] by unfold Zd;rw[if_neg (by simpa using d)]];(try simp);(repeat (rw[Ι];simp));(try simp))
 refine W.cut 0 (Γ _) [(4,.Κ [I p.1,I p.2,V9 1 L])] (Γ _) (λid r ay=>J) (λz d=>by
  simp at d;subst d;exact Yx.struct (k:=3) (t:=173) (l:=[I p.1,I p.2,R5 L]) (Γ _) U U (λx a a' F Q=>by
   match x with
   | 0=>simp at F Q;subst F;subst Q;exact .low o
   | 1=>simp at F Q;subst F;subst Q;exact .low o
   | 2=>
    simp at F Q;subst F;subst Q;exact Gi (id:=3) (t:=245) (l:=L) (Γ _) (λaa=>by
     have:Zd L=[.cells 245 1 L]:=by unfold Zd;rw[if_neg (by simpa using aa)]
     simp[this]) P
   | x+3=>simp at F)) ?_
 refine Χ ?_;refine W.rt ?_;refine Yw.Z' (ZJ.cons (.refl _) (ZJ.cons (.refl _) (ZJ.cons (.trans Yw.acc ?_) .nil)));rw[O];show Yw _ (.sl false 1 (((List.range s.cells.length).map (Rl s p)).map KG));rw[Li];refine Yw.map λx _=>.one Yw.acc ?_ U;let ⟨b,k,l,g⟩:=z8 2 ((Rl s p x).map Y6);rw[g];rfl
def Wq:List Wm->Int->Int->List Wm
 | [],k,n=>[(k,IntKind.i64.wrap (0+n))]
 | e::r,k,n=>if k=e.1 then(k,IntKind.i64.wrap (e.2+n))::r else e::Wq r k n
end Go.TL
namespace Go.TL
open Go.Proofs.Tryz
open Go.Conc Go.Proofs
variable[Z8]
section
variable{P:Program}{Q:Value->Prop}{mn:Bool}{x:Vp}{cs rest:YM}{H:Φ}{b f c:Frame}{t:ZP}{k:Zk}{fn:Func}
def Ω.getLoop{L:Nat}{r:Loop}(h:H.obj L=some (.loop r)){K:Loop->Φ->Prop}{E:Value->Φ->Prop}(a:K r H):Ω P (Instr.getLoop L) H K E:=by
 unfold Instr.getLoop;refine Ω.bind' ?_;exact⟨_,h,U,Ω.pure' a⟩
def Ω.DQ{L:Nat}{r r':Loop}(h:H.obj L=some (.loop r)){K:Unit->Φ->Prop}{E:Value->Φ->Prop}(a:K () (H.Zp L (.loop r'))):Ω P (setObj L (.loop r')) H K E:=
 ⟨⟨_,h⟩,U,U,Ω.pure' a⟩
abbrev Gh(b:LoopState)(c:Option Code)(f:FuncId)(t:ZP)(e:Array Tmp)(a bd:Code)(d:Nat):Loop:={state:=b,pending:=c,fn:=f,tmps:=t,params:=e,assign:=a,body:=bd,defers:=d}
def η.rangeFunc(o:Seq x)(p:b.mode=.run)(r:b.roundOf=none){i:Operand}{j:Array Tmp}{assign body:Code}{g:FuncId}{f:ZP}(s:ZX t i=.func (.func g) #[] f)(u:Plain P g)
  (h:∀c a,H.fresh c->(H.Zp c (.deferred (some []))).fresh a->η P Q mn x (Frame.enter P g (#[.func (.yield a) #[] #[]]++f) .normal) ({χ b t (.inRangeFunc a::k)with defers:=⟨.collected c,#[]⟩::b.defers}::cs)
   ((H.Zp c (.deferred (some []))).Zp a (.loop (Gh .ready none b.fn t j assign body c)))) :
  η P Q mn x (χ b t (.code (.rangeFunc i j assign body)::k)) cs H:=by
 refine .own o λw y=>?_;have A:Ω P (Instr.enterLoop b.fn t j assign body none) H (λv H'=>∃c a,H.fresh c/\(H.Zp c (.deferred (some []))).fresh a/\v=(a,[⟨.collected c,#[]⟩])/\H'=(H.Zp c (.deferred (some []))).Zp a (.loop (Gh .ready none b.fn t j assign body c))) (λ_ _=>False):=by
  unfold Instr.enterLoop;refine Ω.bind' (λc l=>Ω.pure' (Ω.bind' (Ω.pure' ?_)));refine Ω.bind' (λa m=>Ω.pure' (Ω.pure' ?_));exact⟨c,a,l,m,U,U⟩
 obtain⟨H',w',es',B,C⟩:=Ω.sound (P:=P) (G0:=H) (w0:=w) _ A (Yq.start y);rcases C with⟨v,n,c,a,l,m,rfl,rfl⟩|⟨v,n,D⟩
 .refine⟨_,_,w',seen P b.fn es',_,?_,B.sub λe E=>mem_seen E,h c a l m⟩;have I:∀F:Frame,F.tmps=t->resolve F.eval {callee:=.value i,args:=#[.const (.func (.yield a) #[] #[])],argTypes:=#[]} 0=Deferred.ofValue (.func (.func g) #[] f) #[.func (.yield a) #[] #[]]:=λF J=>by
   have:F.eval i=.func (.func g) #[] f:=by rw[<-s,<-J];cases i<;>rfl
   unfold resolve;simp only;rw[this];simp[Frame.eval]
  have K:((do let d <-Deferred.ofValue (.func (.func g) #[] f) #[.func (.yield a) #[] #[]];invoke d.target d.args:Sem Next)).runT P w' #[]=(.ok (.enter g (#[.func (.yield a) #[] #[]]++f)) w',#[]):=by
   have:=u.enter (#[.func (.yield a) #[] #[]]++f) w';simpa[Deferred.ofValue,invoke] using this
  rw[UZ p];unfold stepG.exec;simp only[χ,r,n];rw[I _ U];unfold stepG.apply;simp only[if_true,K];simp[GStep.after,Go.Conc.G,χ,seen_none]
 exact D.elim
def η.rC(d:Seq x)(f:b.mode=.run){L:Nat}{r:Loop}(a:H.obj L=some (.loop r))(g:r.state≠.busy)
  (h:η P Q mn x (χ b t ((r.pending.map Item.code).toList++k)) cs (H.Zp L (.loop {r with state:=.exhausted}))):η P Q mn x (χ b t (.endRangeFunc L::k)) cs H:=by
 refine .own d λw i=>?_;have j:Ω P (Instr.endLoop L) H (λv H'=>v=r.pending/\H'=H.Zp L (.loop {r with state:=.exhausted})) (λ_ _=>False):=by
  unfold Instr.endLoop;refine Ω.bind' (Ω.getLoop a ?_);have e:(r.state==.busy)=false:=by cases l:r.state<;>first|rfl|exact absurd l g
  simp only[e,Vg,if_false];exact Ω.bind' (Ω.DQ a (Ω.pure' ⟨U,U⟩))
 obtain⟨H',w',es',m,n⟩:=Ω.sound (P:=P) (G0:=H) (w0:=w) _ j (Yq.start i);rcases n with⟨v,c,rfl,rfl⟩|⟨v,c,o⟩
 .refine⟨_,_,w',seen P b.fn es',_,?_,m.sub λe p=>mem_seen p,h⟩;rw[UZ f];unfold stepG.exec;simp only[χ,c];simp[GStep.after,Go.Conc.G]
 exact o.elim
def η.beginRound(g:Seq x)(i:b.mode=.run){L:Nat}(j:b.roundOf=some L){r:Loop}(a:H.obj L=some (.loop r))(l:r.state=.ready)
  (h:η P Q mn x (χ b t k) cs (H.Zp L (.loop {r with state:=.busy}))):η P Q mn x (χ b t (.beginRound::k)) cs H:=by
 refine .own g λw m=>?_;have n:Ω P (Instr.beginRound L) H (λ_ H'=>H'=H.Zp L (.loop {r with state:=.busy})) (λ_ _=>False):=by
  unfold Instr.beginRound;refine Ω.bind' (Ω.getLoop a (Ω.bind' (Ω.DQ a ?_)));rw[l];exact Ω.pure' U
 have o:Ω P (do Instr.beginRound L;pure Next.skip:Sem Next) H (λv H'=>v=.skip/\H'=H.Zp L (.loop {r with state:=.busy})) (λ_ _=>False):=
  Ω.bind' (Ω.mono (λ_ _ e=>Ω.pure' ⟨U,e⟩) (λ_ _ h=>h) _ n)
 obtain⟨H',w',es',p,s⟩:=Ω.sound (P:=P) (G0:=H) (w0:=w) _ o (Yq.start m);rcases s with⟨v,c,rfl,rfl⟩|⟨v,c,u⟩
 .generalize d:(if b.kind==.early then #[] else es')=f;have y:∀e∈seen P b.fn f,e∈es':=λe A=>by
   have:=mem_seen A;rw[<-d]at this;split at this
   .simp at this
   exact this
  refine⟨_,_,w',seen P b.fn f,_,?_,p.sub y,h⟩;rw[UZ i];unfold stepG.exec;simp only[χ,j,Option.elim];unfold stepG.apply;simp only[if_true,c];rw[d];simp[GStep.after,Go.Conc.G,Frame.finish]
 exact u.elim
def η.endRound(l:Seq x)(m:b.mode=.run){L:Nat}(f:b.roundOf=some L)(g:b.kind=.normal){r:Loop}(j:H.obj L=some (.loop r)){jump:Option Code}(n:(jump=none/\k=[])\/(jump=some .ret/\∃a,k=.code .ret::a)\/∃id a,jump=some (.exit id)/\k=.code (.exit id)::a/\exitTo id a=none)
  (h:η P Q mn x (c.finish (.bool jump.isNone)) rest (H.Zp L (.loop {r with state:=if jump.isNone then .ready else .done,pending:=jump}))):η P Q mn x (χ b t k) (c::rest) H:=by
 refine .own l λw o=>?_;have p:Ω P (Instr.endRound L jump) H (λv H'=>v=.bool jump.isNone/\H'=H.Zp L (.loop {r with state:=if jump.isNone then .ready else .done,pending:=jump})) (λ_ _=>False):=by
  unfold Instr.endRound;exact Ω.bind' (Ω.getLoop j (Ω.bind' (Ω.DQ j (Ω.pure' ⟨U,U⟩))))
 obtain⟨H',w',es',s,u⟩:=Ω.sound (P:=P) (G0:=H) (w0:=w) _ p (Yq.start o);rcases u with⟨v,d,rfl,rfl⟩|⟨v,d,y⟩
 .refine⟨_,_,w',seen P b.fn es',_,?_,s.sub λe i=>mem_seen i,h⟩;rw[UZ m];unfold stepG.exec;rcases n with⟨rfl,rfl⟩|⟨rfl,a,rfl⟩|⟨id,a,rfl,rfl,i⟩
  .simp only[χ,f,d];simp[GStep.after,Go.Conc.G,doReturn,g]
  .simp only[χ,f,d];simp[GStep.after,Go.Conc.G,doReturn,g]
  simp only[χ,f,i,Option.elim,d];simp[GStep.after,Go.Conc.G,doReturn,g]
 exact y.elim
def η.collected(c:Seq x)(d:f.mode=.returning){r:Nat}{ds:List Deferred}(hd:f.defers=⟨.collected r,#[]⟩::ds)(a:H.obj r=some (.deferred (some [])))
  (h:η P Q mn x {f with defers:=ds} cs (H.Zp r (.deferred none))):η P Q mn x f cs H:=by
 refine .own c λw g=>?_;have i:Ω P (Instr.takeDeferred r) H (λv H'=>v=[]/\H'=H.Zp r (.deferred none)) (λ_ _=>False):=by
  unfold Instr.takeDeferred;refine Ω.bind' ?_;exact⟨_,a,U,Ω.pure' (Ω.bind' ⟨⟨_,a⟩,U,U,Ω.pure' (Ω.pure' ⟨U,U⟩)⟩)⟩
 obtain⟨H',w',es',j,k⟩:=Ω.sound (P:=P) (G0:=H) (w0:=w) _ i (Yq.start g);rcases k with⟨v,b,rfl,rfl⟩|⟨v,b,l⟩
 .refine⟨_,_,w',seen P f.fn es',_,?_,j.sub λe m=>mem_seen m,h⟩;rw[K6 (by rw[d];simp)];unfold unwind;simp only[hd,b];simp[GStep.after,Go.Conc.G]
 exact l.elim
end
end Go.TL
namespace Go.TL
open Go.Proofs.Tryz
open Go.Conc
open Go.ConcM (OsLater)
open Go.ConcN (sumTo upd sumTo_upd upd_ne upd_same sumTo_congr le_sumTo)
open Go.ConcR (mk)
variable[Z8]
def Xa{b}(a:b.mode=.run)(c:b.roundOf=none)(t k):χ b t k=b.at ⟨t,b.defers⟩ k:=by
 let ⟨fn,d,e,f,g,h,i⟩:=b;simp only at a c;subst a;subst c;rfl
def Od(a t ds v):(⟨t,ds⟩:_root_.Go.Act).put a.dst v=⟨put a t v,ds⟩:=by
 unfold _root_.Go.Act.put put;cases a.dst<;>rfl
def Uy(t ds):(⟨t,ds⟩:_root_.Go.Act).eval=ZX t:=by funext a;cases a<;>rfl
def Entry(P:Program)(f:FuncId)(e:ZP->Sem Value):Prop:=∃fn,P.funcs[f]?=some fn/\(fn.name == "runtime.NumGoroutine")=false/\fn.body.isNone=true/\Extern.findNext fn=none/\Extern.find fn=some e
structure SV(b:Frame)(ops:Y5)(i:Nat) op:Prop where
 run:b.mode=.run
 ro:b.roundOf=none
 kd:b.kind≠.early
 op:ops[i]?=some op
def XY(x:Z0):Prop:=x.rel=false\/∃s,¬Gone (x.tok s)
def XY.ok{P g x}(h:XY x):JW P g x:=λa b=>by
 rcases h with h|⟨s,h⟩
 .rw[h]at a;cases a
 exact absurd (b s) h
def one(x:Z0):Vp:=λy=>y=x
@[reducible] def Yg:Z8:=⟨λ_=>True⟩
def Seq.PV{x}(a:Z8.q (one x))(b:x.rel=false)(hv:x.Z9=λ_=>none):Seq (one x):=⟨a,λy h=>by cases h;exact b,λy h=>by cases h;exact hv⟩
def Seq.here{x}(h:Seq (one x)):XY x:=.inl (h.rel x rfl)
section
variable{P:Program}{Q:Value->Prop}{mn:Bool}{x:Z0}{b:Frame}{cs:YM}{nt:Nat}{Η:Base}{k:Zk}{env:κ}{σ:Ρ}{S:ζ}{B:ZZ}{H:Φ}{t:ZP}
variable{ops:Y5}{i:Nat}{rest:Z6}{op:Oper}{f:FuncId}{e:ZP->Sem Value}{args:Array Operand}{Jk:Array TypeId}{w w':World}
def Gg(d:Entry P f e)(a:SV b ops i op)(h:Region.wanted op (yielded ops t)=true)(j:op.op=.call ⟨.value (.func f),args,Jk⟩){vs}(c:args.map (ZX t)=vs){v TJ}
  (l:(e vs).run P w=.ok v w') (m:(e vs).events P w #[⟨.mark (Mark.extern f),false,true⟩]=#[⟨.mark (Mark.extern f),false,true⟩]++TJ) (n:∀y∈TJ,y.sync=true/\∀g,y.loc≠.mark (Mark.extern g)) :
  stepG P mn (Go.Conc.G (χ b t (.inRegion ops (i::rest)::k)) cs) w=.go (Go.Conc.G (χ b (put op t v) (.inRegion ops rest::k)) cs) w' TJ:=by
 let ⟨fn,o,p,r,s,u⟩:=d;rw[Xa a.run a.ro,Xa a.run a.ro,<-Od];exact stepG_entry a.op h a.kd j o p r s u (by rw[Uy,c];exact l) (by rw[Uy,c];exact m) n
def rB(c:Entry P f e)(a:SV b ops i op)(d:Region.wanted op (yielded ops t)=true)(g:op.op=.call ⟨.value (.func f),args,Jk⟩){vs}(h:args.map (ZX t)=vs)
  (j:(e vs).run P w=.halt .blocked w') :
  stepG P mn (Go.Conc.G (χ b t (.inRegion ops (i::rest)::k)) cs) w=.go {Go.Conc.G (χ b t (.inRegion ops (i::rest)::k)) cs with status:=.blocked} w' #[]:=by
 let ⟨fn,l,m,n,o,p⟩:=c;rw[Xa a.run a.ro];exact stepG_entry_blocked a.op d g l m n o p (by rw[Uy,h];exact j)
def z7(d:Entry P f e)(a:SV b ops i op)(g:op.op=.call ⟨.value (.func f),args,Jk⟩):mayWake P (Go.Conc.G (χ b t (.inRegion ops (i::rest)::k)) cs)=true:=by
 let ⟨fn,h,m,j,n,o⟩:=d
 have l:fn.body=none:=by simpa using j
 have c:(χ b t (.inRegion ops (i::rest)::k)).eval (.func f)=.func (.func f) #[] #[]:=rfl;simp[mayWake,Go.Conc.G,χ,a.run,a.op,g]at c ⊢;simp[c,h,l]
def Jj(env:κ)(args:Array Operand)(vs:List Value):Prop:=args.toList.map (π env)=vs.map Ψ.z
def Ji(a:Y' S B σ env t){y v}(h:π env y=.z v):ZX t y=v:=by
 have:=S4 a y;rw[h]at this;generalize ZX t y=u at this;cases this;rfl
def Jj.ZX(a:Y' S B σ env t){vs}(h:Jj env args vs):args.map (ZX t)=vs.toArray:=by
 apply NN;rw[Array.toList_map];have:∀(l:List Operand)(vs),l.map (π env)=vs.map Ψ.z->l.map (Go.TL.ZX t)=vs:=by
  intro l
  induction l with
  | nil=>intro vs h;cases vs with
   | nil=>rfl
   | cons=>cases h
  | cons y l b=>
   intro vs h;cases vs with
   | nil=>cases h
   | cons v vs=>
    simp at h ⊢;exact⟨Ji a h.1,b vs h.2⟩
 exact this _ _ h
def Gf(m):((λ_=>do mark m;pure Extern.Race.none_:ZP->Sem Value) #[]).run P w=.ok (.tuple #[]) w:=by simp[Extern.Race.none_]
def Ge(m es):((λ_=>do mark m;pure Extern.Race.none_:ZP->Sem Value) #[]).events P w es=es.push ⟨.mark m,false,true⟩:=o
def LW(m a):(Extern.Race.marked m #[.pointer (some a)]).run P w=.ok (.tuple #[]) w:=by simp[Extern.Race.marked,Extern.Race.at_,Extern.Race.none_]
def LV(m a es):(Extern.Race.marked m #[.pointer (some a)]).events P w es=es.push ⟨.mark (m a),false,true⟩:=by simp[Extern.Race.marked,Extern.Race.at_]
def PU{m}(b:∀g,m≠Mark.extern g):∀y∈(#[⟨.mark m,false,true⟩]:Array Event),y.sync=true/\∀g,y.loc≠.mark (Mark.extern g):=by
 intro y a;simp at a;subst a;exact⟨U,λg h=>b g (by cases h;rfl)⟩
structure Wx(P:Program)(b:Frame)(ops:Y5)(i:Nat)(op:Oper)(f:FuncId)(e:ZP->Sem Value)(args:Array Operand)(env:κ)(vs:List Value) nt:Prop where
 at_:SV b ops i op
 SZ:Entry P f e
 call:∃Jk,op.op=.call ⟨.value (.func f),args,Jk⟩
 want:XE env ops op=some true
 dst:WA nt op=true
 Jh:Jj env args vs
def Wx.step{vs}(h:Wx P b ops i op f e args env vs nt)(a:Y' S B σ env t){v TJ}(c:(e vs.toArray).run P w=.ok v w')
  (d:(e vs.toArray).events P w #[⟨.mark (Mark.extern f),false,true⟩]=#[⟨.mark (Mark.extern f),false,true⟩]++TJ) (j:∀y∈TJ,y.sync=true/\∀g,y.loc≠.mark (Mark.extern g)) :
  stepG P mn (Go.Conc.G (χ b t (.inRegion ops (i::rest)::k)) cs) w=.go (Go.Conc.G (χ b (put op t v) (.inRegion ops rest::k)) cs) w' TJ:=
 let ⟨_,l⟩:=h.call
 Gg h.SZ h.at_ (Uk a h.want) l (h.Jh.ZX a) c d j
abbrev R4:Ψ:=.z (.tuple #[])
def V.disable(c:XY x)(h:Wx P b ops i op f (λ_=>do mark .disable;pure Extern.Race.none_) args env [] nt)(d:V P Q mn (one {x with deaf:=x.deaf+1}) b cs nt Η (.inRegion ops rest::k) (Zr op env R4) σ):V P Q mn (one x) b cs nt Η (.inRegion ops (i::rest)::k) env σ:=
 λS B H t e a y g=>by
 cases g;exact Goes.step c.ok (.inr ⟨⟨U,U⟩,.inr (.inl ⟨Go.Conc.G (χ b (put op t (.tuple #[])) (.inRegion ops rest::k)) cs,⟨U,U⟩,.inl λw _=>
  ⟨h.step a.Zt (Gf .disable) (Ge .disable _) (PU o),d S B H _ e (a.put h.dst (.z _)) _ U⟩⟩)⟩)
def V.enable(c:XY x)(hd:0<x.deaf)(h:Wx P b ops i op f (λ_=>do mark .enable;pure Extern.Race.none_) args env [] nt)(d:V P Q mn (one {x with deaf:=x.deaf-1}) b cs nt Η (.inRegion ops rest::k) (Zr op env R4) σ):V P Q mn (one x) b cs nt Η (.inRegion ops (i::rest)::k) env σ:=
 λS B H t e a y g=>by
 cases g;exact Goes.step c.ok (.inr ⟨⟨U,U⟩,.inr (.inl ⟨Go.Conc.G (χ b (put op t (.tuple #[])) (.inRegion ops rest::k)) cs,⟨U,U⟩,.inr ⟨hd,λw _=>
  ⟨h.step a.Zt (Gf .enable) (Ge .enable _) (PU o),d S B H _ e (a.put h.dst (.z _)) _ U⟩⟩⟩)⟩)
def V.rA(a:x.rel=false){s c n p Tw}(e:x.tok s=.par n p Tw)(g:Tw≠.Zg)(h:Wx P b ops i op f (Extern.Race.marked .read) args env [.pointer (some ⟨s,c,none⟩)] nt)(j:V P Q mn (one x) b cs nt Η (.inRegion ops rest::k) (Zr op env R4) σ):V P Q mn (one x) b cs nt Η (.inRegion ops (i::rest)::k) env σ:=
 λS B H t l d y m=>by
 cases m;exact Goes.step (XY.ok (.inl a)) (.inr ⟨⟨U,U⟩,.inr (.inr (.inl ⟨s,n,p,Tw,Go.Conc.G (χ b (put op t (.tuple #[])) (.inRegion ops rest::k)) cs,c,false,e,g,a,⟨U,U⟩,λw _=>
  ⟨h.step d.Zt (LW .read _) (LV .read _ _) (PU o),j S B H _ l (d.put h.dst (.z _)) _ U⟩⟩))⟩)
def V.rz(a:x.rel=false){s c n p Tw}(e:x.tok s=.par n p Tw)(g:Tw≠.Zg)(h:Wx P b ops i op f (Extern.Race.marked .write) args env [.pointer (some ⟨s,c,none⟩)] nt)(j:V P Q mn (one x) b cs nt Η (.inRegion ops rest::k) (Zr op env R4) σ):V P Q mn (one x) b cs nt Η (.inRegion ops (i::rest)::k) env σ:=
 λS B H t l d y m=>by
 cases m;exact Goes.step (XY.ok (.inl a)) (.inr ⟨⟨U,U⟩,.inr (.inr (.inl ⟨s,n,p,Tw,Go.Conc.G (χ b (put op t (.tuple #[])) (.inRegion ops rest::k)) cs,c,true,e,g,a,⟨U,U⟩,λw _=>
  ⟨h.step d.Zt (LW .write _) (LV .write _ _) (PU o),j S B H _ l (d.put h.dst (.z _)) _ U⟩⟩))⟩)
def V.HM(a:x.rel=false)(hd:x.deaf=0){s m n sp}(d:x.spec s=some sp)(e:sp.ZR=some m)(g:x.tok s=.ch n .own .work)(h:Wx P b ops i op f (Extern.Race.marked .acquire) args env [.pointer (some ⟨m,0,none⟩)] nt)
  (j:∀(S)(B)(H)(t)(L)(E),Xi Η.m Η.S Η.B Η.H Η.σ S B H σ->XG Η.m nt S B H σ (Zr op env R4) t->sp.Yd L E->Apart H E->(L.Nodup/\n∉L/\∃w,Fits H w/\Fits E w)->
   Zx P Q mn {x with tok:=upd x.tok s (.ch n (.YG L) .work),view:=upd x.view s none} (χ b t (.inRegion ops rest::k)) cs (join H E)):V P Q mn (one x) b cs nt Η (.inRegion ops (i::rest)::k) env σ:=
 λS B H t l c y p=>by
 cases p;exact Goes.step (XY.ok (.inl a)) (.inr ⟨⟨U,U⟩,.inr (.inr (.inr (.inr (.inl ⟨s,sp,m,n,Go.Conc.G (χ b (put op t (.tuple #[])) (.inRegion ops rest::k)) cs,d,e,g,hd,⟨U,U⟩,a,λw _=>
  h.step c.Zt (LW .acquire _) (LV .acquire _ _) (PU o),λL E r u v=>j S B H _ L E l (c.put h.dst (.z _)) r u v⟩))))⟩)
def V.EN(a:x.rel=false)(hd:x.deaf=0){s m n L sp}(d:x.spec s=some sp)(e:sp.ZR=some m)(g:x.tok s=.ch n (.YG L) .work)(h:Wx P b ops i op f (Extern.Race.marked .releaseMerge) args env [.pointer (some ⟨m,0,none⟩)] nt)
  (j:∀(S)(B)(H)(t),Xi Η.m Η.S Η.B Η.H Η.σ S B H σ->XG Η.m nt S B H σ (Zr op env R4) t->∃H' E,Split H H' E/\sp.Yd (L++[n]) E/\
   Zx P Q mn {x with tok:=upd x.tok s (.ch n .fin .work),view:=upd x.view s none} (χ b t (.inRegion ops rest::k)) cs H'):V P Q mn (one x) b cs nt Η (.inRegion ops (i::rest)::k) env σ:=
 λS B H t l c y p=>by
 cases p;let ⟨H',E,r,u,v⟩:=j S B H _ l (c.put h.dst (.z (.tuple #[])));exact Goes.step (XY.ok (.inl a)) (.inr ⟨⟨U,U⟩,.inr (.inr (.inr (.inr (.inr (.inl ⟨s,sp,m,n,L,Go.Conc.G (χ b (put op t (.tuple #[])) (.inRegion ops rest::k)) cs,H',E,d,e,g,hd,⟨U,U⟩,a,λw _=>
  h.step c.Zt (LW .releaseMerge _) (LV .releaseMerge _ _) (PU o),r,u,v⟩)))))⟩)
def V.HL(g:x.rel=false)(hd:x.deaf=0){s n Tw sp}(l:x.spec s=some sp)(p:x.tok s=.par n 0 Tw)(r:Tw=.RL\/Tw=.w4)(h:Wx P b ops i op f (Extern.Race.marked .acquire) args env [.pointer (some ⟨s,0,none⟩)] nt)
  (u:∀(S)(B)(H)(t)(d e)(c a),Xi Η.m Η.S Η.B Η.H Η.σ S B H σ->XG Η.m nt S B H σ (Zr op env R4) t->
   d.Perm (List.range n)->Ta sp.D d c->(sp.ZR≠none->e.Perm (List.range n)/\sp.Yd e a)->(sp.ZR=none->a=Φ.empty)->Apart H c->Apart H a->Apart c a->(∃w,Fits H w/\Fits c w/\Fits a w)->
   Zx P Q mn {x with tok:=upd x.tok s (.par n 0 .Zg),view:=upd x.view s none} (χ b t (.inRegion ops rest::k)) cs (join (join H c) a)):V P Q mn (one x) b cs nt Η (.inRegion ops (i::rest)::k) env σ:=
 λS B H t v j y A=>by
 cases A;exact Goes.step (XY.ok (.inl g)) (.inr ⟨⟨U,U⟩,.inr (.inr (.inr (.inr (.inr (.inr (.inr (.inl ⟨s,sp,n,Tw,Go.Conc.G (χ b (put op t (.tuple #[])) (.inRegion ops rest::k)) cs,l,p,r,hd,⟨U,U⟩,g,λw _=>
  h.step j.Zt (LW .acquire _) (LV .acquire _ _) (PU o),λd e c a C E F I J K L M=>u S B H _ d e c a v (j.put h.dst (.z _)) C E F I J K L M⟩)))))))⟩)
def V.atomic(r:XY x){s sp}(A:x.spec s=some sp)(C:¬Xp (x.tok s))(hd:WA nt op=true)(D:XE env ops op=some true)
  (h:∀(t)(w)(φ)(a),(∀y u,π env y=.z u->ZX t y=u)->(∀(as9)(vs),Jj env as9 vs->as9.map (ZX t)=vs.toArray)->Region.wanted op (yielded ops t)=true->a.toSpec=sp->At s a w->EW x s φ a->MF a (x.tok s)->
   (∃v w' e,stepG P mn (Go.Conc.G (χ b t (.inRegion ops (i::rest)::k)) cs) w=.go (Go.Conc.G (χ b (put op t v) (.inRegion ops rest::k)) cs) w' e/\Xe (λE _=>X6 s sp E) (λ_=>False) w w'/\QZ s sp x.deaf e/\
    ((At s a w'/\V P Q mn (one {x with view:=upd x.view s (some (φ,a))}) b cs nt Η (.inRegion ops rest::k) (Zr op env (.z v)) σ)\/
     ∃o' t',Act a (x.tok s) o' t'/\At s o' w'/\(mayWake P (Go.Conc.G (χ b t (.inRegion ops (i::rest)::k)) cs)=true\/o'=a)/\∀d,d<φ->V P Q mn (one {x with tok:=upd x.tok s t',view:=upd x.view s (some (d,o'))}) b cs nt Η (.inRegion ops rest::k) (Zr op env (.z v)) σ))\/
   (Uo a (x.tok s)/\(∀o,o≠s->SA (x.tok o))/\stepG P mn (Go.Conc.G (χ b t (.inRegion ops (i::rest)::k)) cs) w=.go {Go.Conc.G (χ b t (.inRegion ops (i::rest)::k)) cs with status:=.blocked} w #[])) :
  V P Q mn (one x) b cs nt Η (.inRegion ops (i::rest)::k) env σ:=by
 intro S B H t p c y f;cases f;refine Goes.step r.ok (.inr ⟨⟨U,U⟩,.inr (.inr (.inr (.inl ⟨s,sp,A,C,λw φ a T hv F I J K=>?_⟩)))⟩);rcases h t w φ a (λy u f=>Ji c.Zt f) (λas9 vs L=>L.ZX c.Zt) (Uk c.Zt D) F I J K with⟨v,w',e,g,j,l,M⟩|⟨g,j,l⟩
 .refine .inl ?_;rw[g];refine⟨⟨U,U⟩,j,l,?_⟩;rcases M with⟨m,n⟩|⟨o',t',m,n,N,O⟩
  .exact .inl ⟨m,n S B H _ p (c.put hd (.z _)) _ U⟩
  exact .inr ⟨o',t',m,n,N,λd R=>O d R S B H _ p (c.put hd (.z _)) _ U⟩
 exact .inr ⟨g,j,l⟩
def z6{b h c ty}(f:w.heap[b]?=some (.cells c ty (0,0)))(v){own}(j:∀Η,own b Η):Xe own (λ_=>False) w (w.setCell ⟨b,h,none⟩ v):=by
 have g:=heap_setCell (a:=⟨b,h,none⟩) (v:=v) U f
 have k:=XP f
 have l:(w.setCell ⟨b,h,none⟩ v).os=w.os:=rfl;refine⟨by rw[g];simp,λi c' t' p d=>?_,λi y d m _=>?_,by rw[l];exact OsLater.refl _,U,U⟩
 .by_cases e:i=b
  .subst e;rw[f]at d;cases d;exact⟨_,_,by rw[g,SL k],o,λo' n=>absurd (j o') n,.inl U⟩
  exact⟨c',_,by rw[g,Ut (YX e)];exact d,U,λ_ _=>rfl,.inl U⟩
 have e:b≠i:=λe=>by subst e;rw[f]at d;cases d;cases m
 rw[g,Ut e];exact d
section
variable{s m:Nat}{Xg o':Z5}
def At.ne(h:At s Xg w)(b:Xg.ZR=some m):m≠s:=λe=>by
 let ⟨⟨f,c⟩,d⟩:=h
 let ⟨g,a⟩:=d m b;subst e;rw[c]at a;simp at a
def At.mu(h:At s Xg w)(a:Xg.ZR=some m):∃b,w.heap[m]?=some (.cells #[.int .i32 (mwd Xg),.int .u32 Xg.Yr] b (0,0)):=h.2 m a
def At.PT(h:At s Xg w)(a:Xg.ZR=some m):w.cell? ⟨m,0,none⟩=some (.int .i32 (mwd Xg)):=let ⟨_,b⟩:=h.mu a;SE b rfl
def At.z5(h:At s Xg w)(a:Xg.ZR=some m):w.cell? ⟨m,1,none⟩=some (.int .u32 Xg.Yr):=let ⟨_,b⟩:=h.mu a;SE b rfl
def At.Un(h:At s Xg w):w.cell? ⟨s,0,none⟩=some (.int .u64 (YV Xg)):=let ⟨_,a⟩:=h.1;SE a rfl
def At.Gd(h:At s Xg w):w.cell? ⟨s,1,none⟩=some (.int .u32 Xg.YP):=let ⟨_,a⟩:=h.1;SE a rfl
def z4{a b c ty}(d:w.heap[a]?=some (.cells c ty (0,0))):w.frozen? ⟨a,b,none⟩=false:=by
 simp[World.frozen?,d]
def At.KA(h:At s Xg w)(a:Xg.ZR=some m)(b):w.frozen? ⟨m,b,none⟩=false:=let ⟨_,c⟩:=h.mu a;z4 c
def At.Nn(h:At s Xg w)(a):w.frozen? ⟨s,a,none⟩=false:=let ⟨_,b⟩:=h.1;z4 b
def At.Gc(h:At s Xg w)(b:Xg.ZR=some m)(f:o'.ZR=Xg.ZR)(g:YV o'=YV Xg)(i:o'.YP=Xg.YP){off v}(hv:(#[.int .i32 (mwd Xg),.int .u32 Xg.Yr]:ZP).setIfInBounds off v=#[.int .i32 (mwd o'),.int .u32 o'.Yr]):At s o' (w.setCell ⟨m,off,none⟩ v):=by
 have j:=h.ne b
 let ⟨k,c⟩:=h.mu b
 let ⟨⟨l,n⟩,o⟩:=h
 have d:=heap_setCell (a:=⟨m,off,none⟩) (v:=v) U c;refine⟨⟨l,?_⟩,λp e=>⟨k,?_⟩⟩
 .rw[d,Ut j,g,i];exact n
 rw[f,b]at e;cases e;rw[d,SL (XP c),hv]
def At.Kz(h:At s Xg w)(f:o'.ZR=Xg.ZR)(g:mwd o'=mwd Xg)(i:o'.Yr=Xg.Yr){off v}(hv:(#[.int .u64 (YV Xg),.int .u32 Xg.YP]:ZP).setIfInBounds off v=#[.int .u64 (YV o'),.int .u32 o'.YP]):At s o' (w.setCell ⟨s,off,none⟩ v):=by
 have j:=λm k=>h.ne (m:=m) k
 let ⟨⟨l,c⟩,n⟩:=h
 have d:=heap_setCell (a:=⟨s,off,none⟩) (v:=v) U c;refine⟨⟨l,?_⟩,λe b=>?_⟩
 .rw[d,SL (XP c),hv]
 rw[f]at b;let ⟨o,p⟩:=n e b;exact⟨o,by rw[d,Ut (YX (j e b)),g,i];exact p⟩
def At.Gb(h:At s Xg w)(a:Xg.ZR=some m){sp}(b:sp.ZR=some m){off}(v):Xe (λc _=>X6 s sp c) (λ_=>False) w (w.setCell ⟨m,off,none⟩ v):=
 let ⟨_,d⟩:=h.mu a;z6 d v λ_=>.inr b
def At.Ky(h:At s Xg w){sp off}(v):Xe (λa _=>X6 s sp a) (λ_=>False) w (w.setCell ⟨s,off,none⟩ v):=
 let ⟨_,b⟩:=h.1;z6 b v λ_=>.inl U
end
def z3{s d sp}:QZ s sp d #[]:=⟨rfl,λj e h=>by simp at h⟩
def O7{s b e d sp es}(i:X6 s sp b)(hd:0<d)(f:∀y∈es,y.loc=.cell ⟨b,e,none⟩/\y.sync=true):QZ s sp d es:=by
 have g:∀(es),(∀y∈es,y.loc=.cell ⟨b,e,none⟩/\y.sync=true)->deafBehind d es=d:=by
  intro es;let ⟨l⟩:=es;intro h;unfold deafBehind;simp[List.foldl_toArray']
  induction l with
  | nil=>rfl
  | cons y l k=>
   simp[List.foldl_cons];have:=h y o;rw[this.1];exact k λz a=>h z (by simp at a ⊢;exact .inr a)
 refine⟨g es f,λj y m=>.inr (.inr ⟨b,e,y.write,?_,i,?_⟩)⟩
 .have:=f y (Array.mem_of_getElem? m)
  let ⟨l,w1,n⟩:=y;simp only at this;rw[this.1,this.2]
 rw[g]
 .exact hd
 intro z a;exact f z (by
  rw[Ik]at a ⊢;let ⟨q,c⟩:=a;rw[Array.getElem?_extract]at c;split at c
  .exact⟨_,c⟩
  cases c)
end
end Go.TL
namespace Go.TL
open Go.Proofs.Tryz
open Go.Conc
open Go.ConcM (OsLater)
open Go.ConcN (sumTo upd sumTo_upd upd_ne upd_same sumTo_congr le_sumTo)
variable[Z8]
section
variable{P:Program}{Q:Value->Prop}{mn:Bool}{x:Z0}{b:Frame}{cs:YM}{nt:Nat}{Η:Base}{k:Zk}{env:κ}{σ:Ρ}
variable{ops:Y5}{i:Nat}{rest:Z6}{op:Oper}{f:FuncId}{e:ZP->Sem Value}{args:Array Operand}{vs:List Value}
def VA(P:Program)(Q:Value->Prop)(mn:Bool)(x:Z0)(b:Frame)(cs:YM)(nt:Nat)(Η:Base)(ops:Y5)(rest:Z6)(k:Zk)(op:Oper)(env:κ)(σ:Ρ)(s φ:Nat)(a:Z5)(v:Value):Prop:=
 V P Q mn (one {x with view:=upd x.view s (some (φ,a))}) b cs nt Η (.inRegion ops rest::k) (Zr op env (.z v)) σ
def PS(P:Program)(Q:Value->Prop)(mn:Bool)(x:Z0)(b:Frame)(cs:YM)(nt:Nat)(Η:Base)(ops:Y5)(rest:Z6)(k:Zk)(op:Oper)(env:κ)(σ:Ρ)(s φ:Nat)(c:Z5)(v:Value)(o':Z5)(t':Tok):Prop:=
 Act c (x.tok s) o' t'/\∀a,a<φ->V P Q mn (one {x with tok:=upd x.tok s t',view:=upd x.view s (some (a,o'))}) b cs nt Η (.inRegion ops rest::k) (Zr op env (.z v)) σ
structure Seen(x:Z0)(s:Nat)(sp:Spec)(φ:Nat)(a:Z5):Prop where
 spec:a.toSpec=sp
 view:EW x s φ a
 US:MF a (x.tok s)
def V.ext(r:XY x){s sp}(u:x.spec s=some sp)(A:¬Xp (x.tok s))(h:Wx P b ops i op f e args env vs nt)
  (B:∀(w)(φ)(a),Seen x s sp φ a->At s a w->
   (∃v w' c,(e vs.toArray).run P w=.ok v w'/\(e vs.toArray).events P w #[⟨.mark (Mark.extern f),false,true⟩]=#[⟨.mark (Mark.extern f),false,true⟩]++c/\(∀y∈c,y.sync=true/\∀g,y.loc≠.mark (Mark.extern g))/\
    Xe (λC _=>X6 s sp C) (λ_=>False) w w'/\QZ s sp x.deaf c/\
    ((At s a w'/\VA P Q mn x b cs nt Η ops rest k op env σ s φ a v)\/∃o' t',At s o' w'/\PS P Q mn x b cs nt Η ops rest k op env σ s φ a v o' t'))\/
   (Uo a (x.tok s)/\(∀n,n≠s->SA (x.tok n))/\(e vs.toArray).run P w=.halt .blocked w)) :
  V P Q mn (one x) b cs nt Η (.inRegion ops (i::rest)::k) env σ:=by
 let ⟨O,d⟩:=h.call;refine .atomic r u A h.dst h.want λt w φ a _ o p D E F H=>?_;rcases B w φ a ⟨D,F,H⟩ E with⟨v,w',c,j,l,m,I,J,K⟩|⟨j,l,m⟩
 .refine .inl ⟨v,w',c,Gg h.SZ h.at_ p d (o _ _ h.Jh) j l m,I,J,K.imp id λ⟨o',t',L,M,N⟩=>⟨o',t',M,L,.inl (z7 h.SZ h.at_ d),N⟩⟩
 exact .inr ⟨j,l,rB h.SZ h.at_ p d (o _ _ h.Jh) m⟩
def O6(a):∀y∈(#[⟨.cell a,false,true⟩,⟨.cell a,true,true⟩]:Array Event),y.loc=.cell a/\y.sync=true:=by
 intro y b;simp at b;rcases b with rfl|rfl<;>exact⟨rfl,rfl⟩
def O5(a wr):∀y∈(#[⟨.cell a,wr,true⟩]:Array Event),y.loc=.cell a/\y.sync=true:=by
 intro y b;simp at b;subst b;exact⟨U,U⟩
def O4{b}{es:Array Event}(h:∀y∈es,y.loc=.cell b/\y.sync=true):∀y∈es,y.sync=true/\∀g,y.loc≠.mark (Mark.extern g):=λy a=>⟨(h y a).2,λg e=>by rw[(h y a).1]at e;cases e⟩
structure Kx(a o':Z5):Prop where
 ZR:o'.ZR=a.ZR
 g:YV o'=YV a
 w:o'.YP=a.YP
structure O3(a o':Z5):Prop where
 ZR:o'.ZR=a.ZR
 g:mwd o'=mwd a
 w:o'.Yr=a.Yr
section
variable{s m:Nat}{sp:Spec}(XN:XY x)(hd:0<x.deaf)(Vm:x.spec s=some sp)(Vl:¬Xp (x.tok s))
include XN hd Vm Vl
def V.Ga(d:sp.ZR=some m){e r}(h:Wx P b ops i op f (Extern.Atomic.casT (.int .i32)) args env [.pointer (some ⟨m,0,none⟩),.int .i32 e,.int .i32 r] nt)
  (t:∀φ a,Seen x s sp φ a->¬mwd a=e->VA P Q mn x b cs nt Η ops rest k op env σ s φ a (.bool false)\/∃t',PS P Q mn x b cs nt Η ops rest k op env σ s φ a (.bool false) a t')
  (u:∀φ a,Seen x s sp φ a->mwd a=e->∃o' t',mwd o'=r/\o'.Yr=a.Yr/\Kx a o'/\PS P Q mn x b cs nt Η ops rest k op env σ s φ a (.bool true) o' t') :
  V P Q mn (one x) b cs nt Η (.inRegion ops (i::rest)::k) env σ:=by
 refine .ext XN Vm Vl h λw φ a o c=>.inl ?_;have j:a.ZR=some m:=by rw[o.spec];exact d
 have l:=c.PT j
 have n:=c.KA j 0;by_cases hv:mwd a=e
 .let ⟨o',t',v,y,p,A⟩:=u φ a o hv;subst hv;refine⟨.bool true,_,_,(congrArg (Sem.run P · w) (casT_eq _ _)).trans (run_cas_hit_entry l n),?_,O4 (O6 ⟨m,0,none⟩),c.Gb j d _,O7 (.inr d) hd (O6 ⟨m,0,none⟩),.inr ⟨o',t',c.Gc j p.ZR p.g p.w ?_,A⟩⟩
  .exact(congrArg (Sem.events P · w _) (casT_eq _ _)).trans ((events_cas_hit_entry l n _).trans U)
  rw[v,y];rfl
 refine⟨.bool false,w,_,(congrArg (Sem.run P · w) (casT_eq _ _)).trans (run_cas_miss_entry l n hv),?_,O4 (O5 ⟨m,0,none⟩ false),Xe.refl _ _ _,O7 (.inr d) hd (O5 ⟨m,0,none⟩ false),?_⟩
 .exact(congrArg (Sem.events P · w _) (casT_eq _ _)).trans ((events_cas_miss_entry l n hv _).trans U)
 exact(t φ a o hv).imp (λh=>⟨c,h⟩) λ⟨t',h⟩=>⟨a,t',c,h⟩
def V.z2(j:sp.ZR=some m){d}(h:Wx P b ops i op f (Extern.Atomic.update (Op.intArith .add) .i32 true) args env [.pointer (some ⟨m,0,none⟩),.int .i32 d] nt)
  (u:∀φ a,Seen x s sp φ a->∃o' t',mwd o'=IntKind.i32.wrap (mwd a+d)/\o'.Yr=a.Yr/\Kx a o'/\PS P Q mn x b cs nt Η ops rest k op env σ s φ a (.int .i32 (mwd o')) o' t') :
  V P Q mn (one x) b cs nt Η (.inRegion ops (i::rest)::k) env σ:=by
 refine .ext XN Vm Vl h λw φ a n c=>.inl ?_;have e:a.ZR=some m:=by rw[n.spec];exact j
 have o:=c.PT e
 have p:=c.KA e 0
 let ⟨o',t',r,v,l,t⟩:=u φ a n;rw[r]at t;refine⟨_,_,_,run_add_entry o p,(events_add_entry o p _).trans U,O4 (O6 ⟨m,0,none⟩),c.Gb e j _,O7 (.inr j) hd (O6 ⟨m,0,none⟩),.inr ⟨o',t',c.Gc e l.ZR l.g l.w ?_,t⟩⟩;rw[r,v];rfl
def V.DO(h:Wx P b ops i op f (Extern.Atomic.loadT (.int .u64)) args env [.pointer (some ⟨s,0,none⟩)] nt)
  (e:∀φ a,Seen x s sp φ a->VA P Q mn x b cs nt Η ops rest k op env σ s φ a (.int .u64 (YV a))\/∃t',PS P Q mn x b cs nt Η ops rest k op env σ s φ a (.int .u64 (YV a)) a t') :
  V P Q mn (one x) b cs nt Η (.inRegion ops (i::rest)::k) env σ:=by
 refine .ext XN Vm Vl h λw φ a g c=>.inl ?_;have d:=c.Un;refine⟨.int .u64 (YV a),w,#[⟨.cell ⟨s,0,none⟩,false,true⟩],?_,?_,O4 (O5 _ false),Xe.refl _ _ _,O7 (.inl U) hd (O5 _ false),(e φ a g).imp (λh=>⟨c,h⟩) λ⟨t',h⟩=>⟨a,t',c,h⟩⟩
 .change Sem.run P (do Extern.Atomic.read (.int .u64) (<-asAddr (.pointer (some _)))) w=_;simp[Extern.Atomic.read,asAddr,d]
 change Sem.events P (do Extern.Atomic.read (.int .u64) (<-asAddr (.pointer (some _)))) w _=_;simp[Extern.Atomic.read,asAddr,d]
def V.ry{d m}(h:Wx P b ops i op f (Extern.Atomic.casT (.int .u64)) args env [.pointer (some ⟨s,0,none⟩),.int .u64 d,.int .u64 m] nt)
  (o:∀φ a,Seen x s sp φ a->¬YV a=d->VA P Q mn x b cs nt Η ops rest k op env σ s φ a (.bool false))
  (p:∀φ a,Seen x s sp φ a->YV a=d->∃o' t',YV o'=m/\o'.YP=a.YP/\O3 a o'/\PS P Q mn x b cs nt Η ops rest k op env σ s φ a (.bool true) o' t') :
  V P Q mn (one x) b cs nt Η (.inRegion ops (i::rest)::k) env σ:=by
 refine .ext XN Vm Vl h λw φ a n c=>.inl ?_;have e:=c.Un;have j:=c.Nn 0;by_cases hv:YV a=d
 .let ⟨o',t',r,t,l,u⟩:=p φ a n hv;subst hv;refine⟨.bool true,_,_,(congrArg (Sem.run P · w) (casT_eq _ _)).trans (run_cas_hit_entry e j),?_,O4 (O6 ⟨s,0,none⟩),c.Ky _,O7 (.inl U) hd (O6 ⟨s,0,none⟩),.inr ⟨o',t',c.Kz l.ZR l.g l.w ?_,u⟩⟩
  .exact(congrArg (Sem.events P · w _) (casT_eq _ _)).trans ((events_cas_hit_entry e j _).trans U)
  rw[r,t];rfl
 refine⟨.bool false,w,_,(congrArg (Sem.run P · w) (casT_eq _ _)).trans (run_cas_miss_entry e j hv),?_,O4 (O5 ⟨s,0,none⟩ false),Xe.refl _ _ _,O7 (.inl U) hd (O5 ⟨s,0,none⟩ false),.inl ⟨c,o φ a n hv⟩⟩;exact(congrArg (Sem.events P · w _) (casT_eq _ _)).trans ((events_cas_miss_entry e j hv _).trans U)
def V.DN{d}(h:Wx P b ops i op f (Extern.Atomic.update (Op.intArith .add) .u64 true) args env [.pointer (some ⟨s,0,none⟩),.int .u64 d] nt)
  (o:∀φ a,Seen x s sp φ a->∃o' t',YV o'=IntKind.u64.wrap (YV a+d)/\o'.YP=a.YP/\O3 a o'/\PS P Q mn x b cs nt Η ops rest k op env σ s φ a (.int .u64 (YV o')) o' t') :
  V P Q mn (one x) b cs nt Η (.inRegion ops (i::rest)::k) env σ:=by
 refine .ext XN Vm Vl h λw φ a p c=>.inl ?_;have j:=c.Un;have l:=c.Nn 0;let ⟨o',t',m,r,e,n⟩:=o φ a p;rw[m]at n;refine⟨_,_,_,run_add_entry j l,(events_add_entry j l _).trans U,O4 (O6 ⟨s,0,none⟩),c.Ky _,O7 (.inl U) hd (O6 ⟨s,0,none⟩),.inr ⟨o',t',c.Kz e.ZR e.g e.w ?_,n⟩⟩;rw[m,r];rfl
end
def z1{w a n}{vs:List Value}(b:vs[0]?=some (.pointer (some a)))(c:w.cell? a=some (.int .u32 n))(d:n≠0)(e:w.frozen? a=false):(Extern.Sync.semacquire vs.toArray).run P w=.ok (.tuple #[]) (w.setCell a (.int .u32 (n-1))):=by
 simp[Extern.Sync.semacquire,Extern.Sync.count,b,c,d,e,Extern.Sync.none_,run_store P w a (.int .u32 (n-1)) .atomic U]
def z0{w a n}{vs:List Value}(b:vs[0]?=some (.pointer (some a)))(c:w.cell? a=some (.int .u32 n))(d:n≠0)(e:w.frozen? a=false)(es):(Extern.Sync.semacquire vs.toArray).events P w es=es++semEvents a:=by
 simp[Extern.Sync.semacquire,Extern.Sync.count,b,c,d,e,semEvents,events_store P w _ a (.int .u32 (n-1)) .atomic U,run_store P w a (.int .u32 (n-1)) .atomic U];apply NN;simp
def zZ{w a}{vs:List Value}(b:vs[0]?=some (.pointer (some a)))(c:w.cell? a=some (.int .u32 0)):(Extern.Sync.semacquire vs.toArray).run P w=.halt .blocked w:=by
 simp[Extern.Sync.semacquire,Extern.Sync.count,b,c]
def zY{w a n}{vs:List Value}(b:vs[0]?=some (.pointer (some a)))(c:w.cell? a=some (.int .u32 n))(d:w.frozen? a=false):(Extern.Sync.semrelease vs.toArray).run P w=.ok (.tuple #[]) (w.setCell a (.int .u32 (IntKind.u32.wrap (n+1)))):=by
 simp[Extern.Sync.semrelease,Extern.Sync.count,b,c,d,Extern.Sync.none_,Op.intArith,run_store P w a (.int .u32 (IntKind.u32.wrap (n+1))) .atomic U]
def zX{w a n}{vs:List Value}(b:vs[0]?=some (.pointer (some a)))(c:w.cell? a=some (.int .u32 n))(d:w.frozen? a=false)(es):(Extern.Sync.semrelease vs.toArray).events P w es=es++semEvents a:=by
 simp[Extern.Sync.semrelease,Extern.Sync.count,b,c,d,semEvents,Op.intArith,events_store P w _ a (.int .u32 (IntKind.u32.wrap (n+1))) .atomic U,run_store P w a (.int .u32 (IntKind.u32.wrap (n+1))) .atomic U];apply NN;simp
def F'{s b c d sp}(e:X6 s sp b):QZ s sp d (semEvents ⟨b,c,none⟩):=by
 refine⟨by simp[deafBehind,semEvents],λj y a=>?_⟩
 match j,a with
 | 0,a=>simp[semEvents]at a;subst a;exact .inl rfl
 | 1,a=>simp[semEvents]at a;subst a;exact .inr (.inr ⟨b,c,false,rfl,e,by simp[semEvents,deafBehind]⟩)
 | 2,a=>simp[semEvents]at a;subst a;exact .inr (.inr ⟨b,c,true,rfl,e,by simp[semEvents,deafBehind]⟩)
 | 3,a=>simp[semEvents]at a;subst a;exact .inr (.inl rfl)
 | j+4,a=>simp[semEvents]at a
section
variable{s m:Nat}{sp:Spec}(XN:XY x)(Vm:x.spec s=some sp)(Vl:¬Xp (x.tok s))
include XN Vm Vl
def V.rv(e:sp.ZR=some m)(j:vs[0]?=some (.pointer (some ⟨m,1,none⟩)))(t:∀p,p≠s->SA (x.tok p))(h:Wx P b ops i op f Extern.Sync.semacquire args env vs nt)
  (u:∀φ a,Seen x s sp φ a->a.Yr=0->Uo a (x.tok s))
  (v:∀φ a,Seen x s sp φ a->0<a.Yr->∃o' t',mwd o'=mwd a/\o'.Yr=a.Yr-1/\Kx a o'/\PS P Q mn x b cs nt Η ops rest k op env σ s φ a (.tuple #[]) o' t') :
  V P Q mn (one x) b cs nt Η (.inRegion ops (i::rest)::k) env σ:=by
 refine .ext XN Vm Vl h λw φ a l c=>?_;have d:a.ZR=some m:=by rw[l.spec];exact e
 have n:=c.z5 d;by_cases hv:a.Yr=0
 .exact .inr ⟨u φ a l hv,t,zZ j (by rw[n,hv];rfl)⟩
 let ⟨o',t',y,A,o,B⟩:=v φ a l J
 have r:(a.Yr:Int)≠0:=J;refine .inl ⟨_,_,_,z1 j n r (c.KA d 1),z0 j n r (c.KA d 1) _,semEvents_sync _,c.Gb d e _,F' (.inr e),.inr ⟨o',t',c.Gc d o.ZR o.g o.w ?_,B⟩⟩;rw[y,A,show(a.Yr:Int)-1=((a.Yr-1:Nat):Int) by omega];rfl
def V.ru(d:vs[0]?=some (.pointer (some ⟨s,1,none⟩)))(o:∀l,l≠s->SA (x.tok l))(h:Wx P b ops i op f Extern.Sync.semacquire args env vs nt)
  (p:∀φ a,Seen x s sp φ a->a.YP=0->Uo a (x.tok s))
  (r:∀φ a,Seen x s sp φ a->0<a.YP->∃o' t',YV o'=YV a/\o'.YP=a.YP-1/\O3 a o'/\PS P Q mn x b cs nt Η ops rest k op env σ s φ a (.tuple #[]) o' t') :
  V P Q mn (one x) b cs nt Η (.inRegion ops (i::rest)::k) env σ:=by
 refine .ext XN Vm Vl h λw φ a m c=>?_;have e:=c.Gd;by_cases hv:a.YP=0
 .exact .inr ⟨p φ a m hv,o,zZ d (by rw[e,hv];rfl)⟩
 let ⟨o',t',t,u,j,v⟩:=r φ a m J
 have n:(a.YP:Int)≠0:=J;refine .inl ⟨_,_,_,z1 d e n (c.Nn 1),z0 d e n (c.Nn 1) _,semEvents_sync _,c.Ky _,F' (.inl U),.inr ⟨o',t',c.Kz j.ZR j.g j.w ?_,v⟩⟩;rw[t,u,show(a.YP:Int)-1=((a.YP-1:Nat):Int) by omega];rfl
def V.zW(e:sp.ZR=some m)(l:vs[0]?=some (.pointer (some ⟨m,1,none⟩)))(h:Wx P b ops i op f Extern.Sync.semrelease args env vs nt)
  (p:∀φ a,Seen x s sp φ a->a.Yr<1000/\∃o' t',mwd o'=mwd a/\o'.Yr=a.Yr+1/\Kx a o'/\PS P Q mn x b cs nt Η ops rest k op env σ s φ a (.tuple #[]) o' t') :
  V P Q mn (one x) b cs nt Η (.inRegion ops (i::rest)::k) env σ:=by
 refine .ext XN Vm Vl h λw φ a n c=>.inl ?_;have d:a.ZR=some m:=by rw[n.spec];exact e
 have o:=c.z5 d
 let ⟨v,o',t',r,t,j,u⟩:=p φ a n;refine⟨_,_,_,zY l o (c.KA d 1),zX l o (c.KA d 1) _,semEvents_sync _,c.Gb d e _,F' (.inr e),.inr ⟨o',t',c.Gc d j.ZR j.g j.w ?_,u⟩⟩;rw[r,t,show IntKind.u32.wrap ((a.Yr:Int)+1)=((a.Yr+1:Nat):Int) by simp[IntKind.wrap_u32];omega];rfl
end
end
end Go.TL
namespace Go.TL
open Go.Proofs.Tryz
open Go.Conc
open Go.ConcM (OsLater)
open Go.ConcN (sumTo upd sumTo_upd upd_ne upd_same sumTo_congr le_sumTo)
open Go.ConcR (mk)
variable[Z8]
section
variable{P:Program}{T:ZY}{Q:Value->Prop}{mn:Bool}{x:Z0}{z:Vp}{b:Frame}{cs:YM}{nt:Nat}{Η:Base}{k:Zk}{env:κ}{σ:Ρ}
variable{ops:Y5}{i:Nat}{rest:Z6}{op:Oper}{f:FuncId}{e:ZP->Sem Value}{args:Array Operand}{vs:List Value}{fn:Func}
def V8{S B}{l:List Value}{vs}(h:XF S B σ (l.map Ψ.z) vs):vs=l.toArray:=by
 apply NN;apply T6;intro i;have a:=h.1;rw[WS]at a;by_cases hi:i<l.length
 .have b:(l.map Ψ.z)[i]?=some (.z l[i]):=by rw[YK,ξ hi];rfl
  have Υ:vs[i]?=some vs[i]:=XV J
  have:=h.2 i _ _ b Υ
  have:vs[i]=l[i]:=by generalize vs[i]=u at this;cases this;rfl
  rw[Xf,Υ,this];simp[hi]
 rw[Xf,Lq J];simp;omega
def V.call(n:Seq z)(j:SV b ops i op)(o:XE env ops op=some true){y p}(l:op.op=.call ⟨.value y,args,p⟩){g first captured}(r:π env y=.fn (.func g) first captured)(s:Plain P g)
  (h:∀(S)(B)(H)(t)(vs),Xi Η.m Η.S Η.B Η.H Η.σ S B H σ->XG Η.m nt S B H σ env t->XF S B σ (first++args.toList.map (π env)++captured) vs->
   η P Q mn z (Frame.enter P g vs .normal) (χ b t (.inRegion ops (i::rest)::k)::cs) H):V P Q mn z b cs nt Η (.inRegion ops (i::rest)::k) env σ:=by
 intro S B H t u a;refine .op n j.run j.op (Uk a.Zt o) (.inr λc=>by rw[l];simp) ?_;have e:execOp (ZX t) op=(do let d <-Deferred.ofValue (ZX t y) (args.map (ZX t));invoke d.target d.args):=by unfold execOp;rw[l];rfl
 rw[e];have f:=S4 a.Zt y;have v:=An a.Zt args;rw[r]at f;generalize ZX t y=M at f;cases f with
 | fn w x A C D E=>
  refine Ω.bind' (Ω.pure' ?_);let ⟨fn,F,I,J⟩:=s;unfold invoke;simp only;unfold callFunc;apply Ω.bind';show Ω P (match P.funcs[g]? with|none=>_|some fn=>_) H _ _;rw[F];simp only[I,J];apply Ω.pure';have K:XF S B σ first w:=⟨A,D⟩
  have L:XF S B σ captured x:=⟨C,E⟩;exact h S B H t _ u a ((K.append v).append L)
def V.PR{g body}(e:P.funcs[g]?=some fn)(f:fn.body=some body){c S B H}(j:Holds S B σ H)(k:vs.length<=fn.ntmps)
  (h:V P Q mn z (Frame.enter P g vs.toArray .normal) (c::cs) fn.ntmps ⟨S,[],H,[],0⟩ [.code body] (entry 0 (vs.map Ψ.z)) []):η P Q mn z (Frame.enter P g vs.toArray .normal) (c::cs) H:=by
 rw[Ty e f];refine h.here (XG.enter j.bare ⟨o,λi a v b d=>?_⟩ (Z3 _) (by simpa using k));simp only[YK,List.getElem?_toArray]at b d;rw[d]at b;cases b;exact .z v
def V.zV(a:Seq z)(d:b.mode=.run)(e:b.roundOf=none)(f:b.defers=[])(g:b.kind=.normal)(i:P.funcs[b.fn]?=some fn)(j:fn.results=#[]){c}
  (h:∀(S)(B)(H),Xi Η.m Η.S Η.B Η.H Η.σ S B H σ->Holds S B σ H->η P Q mn z (c.finish (.tuple #[])) cs H):V P Q mn z b (c::cs) nt Η (.code .ret::k) env σ:=by
 intro S B H t l n;refine .ret a d e (.back a U f (.inl g) i ?_);rw[results_none j];exact Ω.pure' (h S B H l n.holds)
def V.F9(a:Seq z)(d:b.mode=.run)(e:b.roundOf=none)(f:b.defers=[])(g:b.kind=.normal)(i:P.funcs[b.fn]?=some fn)(j:fn.results=#[]){c}
  (h:∀(S)(B)(H),Xi Η.m Η.S Η.B Η.H Η.σ S B H σ->Holds S B σ H->η P Q mn z (c.finish (.tuple #[])) cs H):V P Q mn z b (c::cs) nt Η [] env σ:=by
 intro S B H t k l;refine .QR a d e (.back a U f (.inl g) i ?_);rw[results_none j];exact Ω.pure' (h S B H k l.holds)
def V.Oc(a:Seq z)(g:b.mode=.run)(i:b.roundOf=none)(j:b.defers=[])(l:b.kind=.normal)(n:P.funcs[b.fn]?=some fn){d:Nat}(o:fn.results=#[.tmp d]){v}(hv:ε env d=.z v){c}
  (h:∀(S)(B)(H),Xi Η.m Η.S Η.B Η.H Η.σ S B H σ->Holds S B σ H->η P Q mn z (c.finish v) cs H):V P Q mn z b (c::cs) nt Η (.code .ret::k) env σ:=by
 intro S B H t p f;refine .ret a g i (.back a U j (.inl l) n ?_);have e:results fn t=pure (t.getD d undef):=by unfold results;rw[o];simp
 have r:t.getD d undef=v:=by
  have:=f.Zt d;rw[hv]at this;generalize t.getD d undef=u at this;cases this;rfl
 show Ω P (results fn t) H _ _;rw[e,r];exact Ω.pure' (h S B H p f.holds)
def rr{w ty kd}(b:P.underlying ty=some (.int kd)){a v}(c:w.cell? a=some v):(Instr.loadAt ty (.pointer (some a))).run P w=.ok v w/\(Instr.loadAt ty (.pointer (some a))).events P w #[]=#[⟨.cell a,false,false⟩]:=by
 constructor
 .simp[Instr.loadAt,Instr.sureAddr,loadVar,isAgg,run_underlying b,c]
 simp[Instr.loadAt,Instr.sureAddr,loadVar,isAgg,run_underlying b,c]
def rq{t w}(a:SV b ops i op)(d:Region.wanted op (yielded ops t)=true){ty y}(f:op.op=.load ty y){kd}(g:P.underlying ty=some (.int kd)){c}(h:ZX t y=.pointer (some c)){v}(j:w.cell? c=some v)(l:(P.funcs[b.fn]?).any (·.norace)=true) :
  stepG P mn (Go.Conc.G (χ b t (.inRegion ops (i::rest)::k)) cs) w=.go (Go.Conc.G (χ b (put op t v) (.inRegion ops rest::k)) cs) w #[]:=by
 let ⟨m,n⟩:=rr g j
 have e:execOp (ZX t) op=(do pure (.value (<-Instr.loadAt ty (.pointer (some c))))):=by unfold execOp;rw[f,<-h]
 rw[Xa a.run a.ro,Xa a.run a.ro,<-Od];have o:(execOp (⟨t,b.defers⟩:_root_.Go.Act).eval op).run P w=.ok (.value v) w:=by rw[Uy,e];simp[m]
 have p:(execOp (⟨t,b.defers⟩:_root_.Go.Act).eval op).events P w #[]=#[⟨.cell c,false,false⟩]:=by rw[Uy,e];simp[n]
 rw[stepG_value a.op d a.kd o];unfold listed;rw[p,seen_def,l];simp[seenStep]
section
variable{s:Nat}{sp:Spec}(XN:XY x)(Vm:x.spec s=some sp)(Vl:¬Xp (x.tok s))
include XN Vm Vl
def V.Kw(g:SV b ops i op)(hd:WA nt op=true)(j:XE env ops op=some true){ty y}(l:op.op=.load ty y){kd}(m:P.underlying ty=some (.int kd)){e}(n:π env y=.z (.pointer (some e)))(o:(P.funcs[b.fn]?).any (·.norace)=true)
  (c:Z5->Int) (p:∀(a)(w),a.toSpec=sp->At s a w->w.cell? e=some (.int kd (c a)))
  (r:∀φ a,Seen x s sp φ a->VA P Q mn x b cs nt Η ops rest k op env σ s φ a (.int kd (c a))\/∃t',PS P Q mn x b cs nt Η ops rest k op env σ s φ a (.int kd (c a)) a t') :
  V P Q mn (one x) b cs nt Η (.inRegion ops (i::rest)::k) env σ:=by
 refine .atomic XN Vm Vl hd j λt w φ a u _ v f d A B=>.inl ?_;refine⟨.int kd (c a),w,#[],rq g v l m (u _ _ n) (p a w f d) o,Xe.refl _ _ _,z3,?_⟩;exact(r φ a ⟨f,A,B⟩).imp (λh=>⟨d,h⟩) λ⟨t',C,D⟩=>⟨a,t',C,d,.inr U,D⟩
def V.conv(c:SV b ops i op)(hd:WA nt op=true)(n:XE env ops op=some true){src f t0 y}(o:op.op=.convert src f y)(g:P.underlying src=some (.pointer t0))(h:P.underlying f=some .unsafePointer)(j:(P.info? t0).map (λi=>decide (i.size=0))=some false){d}(p:π env y=.z (.pointer (some d)))
  (r:∀(a)(w),a.toSpec=sp->At s a w->∃v,w.cell? d=some v)
  (u:∀φ a,Seen x s sp φ a->VA P Q mn x b cs nt Η ops rest k op env σ s φ a (.pointer (some d))) :
  V P Q mn (one x) b cs nt Η (.inRegion ops (i::rest)::k) env σ:=by
 refine .atomic XN Vm Vl hd n λt w φ a A _ B l m C D=>.inl ?_;let ⟨v,hv⟩:=r a w l m;refine⟨.pointer (some d),w,#[],?_,Xe.refl _ _ _,z3,.inl ⟨m,u φ a ⟨l,C,D⟩⟩⟩;have E:=run_convert_to_unsafe g h j hv;have F:=events_convert_to_unsafe g h j hv #[];have e:execOp (ZX t) op=(do pure (.value (<-convert src f (.pointer (some d))))):=by unfold execOp;rw[o,<-A _ _ p]
 rw[Xa c.run c.ro,Xa c.run c.ro,<-Od];have H:(execOp (⟨t,b.defers⟩:_root_.Go.Act).eval op).run P w=.ok (.value (.pointer (some d))) w:=by rw[Uy,e];simp[E]
 have I:(execOp (⟨t,b.defers⟩:_root_.Go.Act).eval op).events P w #[]=#[]:=by rw[Uy,e];simp[F]
 rw[stepG_value c.op B c.kd H];unfold listed;rw[I,seen_none]
end
def rp(w:World):OsLater w.os w.later.os:=⟨w.tick,rfl⟩
def Yq.later{H w}(h:Fits H w):Yq H w H w.later #[]:=
 ⟨⟨h.Α,h.row,h.obj,h.thaw⟩,⟨Z3 _,λb c t d a=>⟨c,d,a,U,λ_ _=>rfl,.inl U⟩,λb x a _ _=>a,rp w,U,U⟩,⟨λb Η v p h=>.inr ⟨v,p,h,id⟩,λb h=>.inr h⟩,λe f=>by simp at f⟩
def V.nano(g:Seq z)(h:Wx P b ops i op f Extern.OsHooks.nano args env vs nt)(c:(P.funcs[f]?).any (·.norace)=true)(j:∀τ,V P Q mn z b cs nt Η (.inRegion ops rest::k) (Zr op env (.z (.int .i64 τ))) σ):V P Q mn z b cs nt Η (.inRegion ops (i::rest)::k) env σ:=by
 intro S B H t l d;let ⟨fn,e,m,n,o,p⟩:=h.SZ;let ⟨u,r⟩:=h.call;rw[e]at c;refine η.own g λw s=>⟨_,_,_,_,H,?_,Yq.later s,j ((w.os.mono+w.tick:Nat):Int) S B H _ l (d.put h.dst (.z _))⟩;rw[Xa h.at_.run h.at_.ro,stepG_nanotime (a:=⟨t,b.defers⟩) h.at_.op (Uk d.Zt h.want) h.at_.kd r e m n o p (by simpa using c),Od,<-Xa h.at_.run h.at_.ro]
def V.canSpin(e:Seq z){n}(h:Wx P b ops i op f Extern.Sync.canSpin args env [.int .i64 n] nt)(g:∀y,(y=true->n<4)->V P Q mn z b cs nt Η (.inRegion ops rest::k) (Zr op env (.z (.bool y))) σ):V P Q mn z b cs nt Η (.inRegion ops (i::rest)::k) env σ:=by
 intro S B H t j c;let ⟨fn,l,m,o,p,r⟩:=h.SZ;let ⟨x,s⟩:=h.call;have u:args.map (⟨t,b.defers⟩:_root_.Go.Act).eval=#[.int .i64 n]:=by rw[Uy];exact h.Jh.ZX c.Zt
 by_cases v:n<4
 .refine η.own e λw d=>⟨_,_,_,_,H,?_,(Yq.start d).draw (w.drawn+1),g w.spins (λ_=>v) S B H _ j (c.put h.dst (.z _))⟩;rw[Xa h.at_.run h.at_.ro,stepG_canSpin_ask h.at_.op (Uk c.Zt h.want) h.at_.kd s l m o p r u v,Od,<-Xa h.at_.run h.at_.ro];rfl
 refine η.own e λw d=>⟨_,_,w,#[],H,?_,Yq.start d,g false (λh=>by cases h) S B H _ j (c.put h.dst (.z _))⟩;rw[Xa h.at_.run h.at_.ro,stepG_canSpin_no (a:=⟨t,b.defers⟩) h.at_.op (Uk c.Zt h.want) h.at_.kd s l m o p r u J,Od,<-Xa h.at_.run h.at_.ro]
def V.F8(c:Seq z){v}(h:Wx P b ops i op f (λ_=>pure v) args env vs nt)(d:V P Q mn z b cs nt Η (.inRegion ops rest::k) (Zr op env (.z v)) σ):V P Q mn z b cs nt Η (.inRegion ops (i::rest)::k) env σ:=
 λS B H t e a=>η.own c λw g=>⟨_,_,w,#[],H,h.step a.Zt o o o,Yq.start g,d S B H _ e (a.put h.dst (.z v))⟩
def V.DL(g:Seq z)(c:SV b ops i op)(j:XE env ops op=some true)(d:op.dst=none){l}(m:op.op=.defer ⟨.value (.func f),#[],l⟩)
  (h:V P Q mn z {b with defers:=Go.Conc.dcall f #[]::b.defers} cs nt Η (.inRegion ops rest::k) env σ):V P Q mn z b cs nt Η (.inRegion ops (i::rest)::k) env σ:=by
 intro S B H t n e;have o:put op t undef=t:=by unfold put;rw[d]
 refine η.still g (λw=>?_) (h S B H t n e);rw[Xa c.run c.ro,stepG_defer (a:=⟨t,b.defers⟩) c.op (Uk e.Zt j) c.kd m];have:(⟨t,Go.Conc.dcall f #[]::b.defers⟩:_root_.Go.Act).put op.dst undef=⟨t,Go.Conc.dcall f #[]::b.defers⟩:=by rw[d];rfl
 simp[List.map_toArray];rw[this,Xa (b:={b with defers:=Go.Conc.dcall f #[]::b.defers}) c.run c.ro];rfl
def Zx.rn(d:XY x)(hd:0<x.deaf)(a:b.mode=.run)(c:b.roundOf=none){ds}(e:b.defers=Go.Conc.dcall f #[]::ds)(g:Entry P f (λ_=>do mark .enable;pure Extern.Race.none_)){H t}
  (h:Zx P Q mn {x with deaf:=x.deaf-1} {χ {b with defers:=ds} t k with mode:=.returning} cs H):Zx P Q mn x {χ b t k with mode:=.returning} cs H:=by
 let ⟨fn,i,j,l,m,n⟩:=g;refine Goes.step d.ok (.inr ⟨⟨U,U⟩,.inr (.inl ⟨Go.Conc.G {χ {b with defers:=ds} t k with mode:=.returning} cs,⟨U,U⟩,.inr ⟨hd,λw _=>⟨?_,h⟩⟩⟩)⟩);rw[Xa a c,Xa (b:={b with defers:=ds}) a c];exact stepG_unwind_entry e i j l m n (Gf .enable) (Ge .enable _) (PU o)
end
inductive Quiet(P:Program) mn:Goroutine->Goroutine->Prop where
 | nil g:Quiet P mn g g
 | cons {g g' a:Goroutine}:Ve g->(∀w,stepG P mn g w=.go g' w #[])->Quiet P mn g' a->Quiet P mn g a
section
variable{P:Program}{Q:Value->Prop}{mn:Bool}{x:Z0}{g g':Goroutine}
def Quiet.runs(h:Quiet P mn g g')(a:Ve g'):Ve g:=by
 cases h with
 | nil=>exact a
 | cons b=>exact b
def Quiet.goes(h:Quiet P mn g g')(i:XY x)(d:Ve g')(f:Goes P Q mn g' x):Goes P Q mn g x:=by
 induction h with
 | nil=>exact f
 | cons j k l m=>
  refine Goes.step i.ok (.inr ⟨j,.inl λw n hv=>?_⟩);rw[k w];refine⟨x.G,x.Z9,l.runs d,Xe.refl _ _ _,n,hv,⟨λb o v p h=>.inr ⟨v,p,h,id⟩,λb h=>.inr h⟩,λb c h=>.inl h,λe a=>by simp at a,λb c _ _ e a=>by simp at a,m d f⟩
end
end Go.TL
namespace Go.TL
open Go.Proofs.Tryz
open Go.Conc Go.Proofs
variable[Z8]
def DK{S e:ζ}{B B':ZZ}{H H':Φ}(b:Ext S B H e B' H'){L:Nat}{y:Obj}(c:¬B.has L)(a:H.obj L=some y):¬B'.has L/\H'.obj L=some y:=by
 have d:¬H.fresh L:=λh=>by rw[h.2.2.1]at a;cases a
 exact⟨λh=>(b.blocks L h).elim c d,by rw[(b.XU L c d).2.2];exact a⟩
def zU{H:Φ}{L:Nat}{y:Obj}(f:H.Xy L):∀b,(H.Zp L y).fresh b↔H.fresh b:=by
 obtain⟨z,g⟩:=f;have d:∀b,((H.Zp L y).obj b=none↔H.obj b=none):=λb=>by
  by_cases e:b=L
  .subst e;simp[Φ.Zp,g]
  simp[Φ.Zp,e]
 exact λb=>⟨λh=>⟨h.1,h.2.1,(d b).1 h.2.2.1,λa c=>⟨(h.2.2.2 a c).1,(h.2.2.2 a c).2.1,(d a).1 (h.2.2.2 a c).2.2⟩⟩,
  λh=>⟨h.1,h.2.1,(d b).2 h.2.2.1,λa c=>⟨(h.2.2.2 a c).1,(h.2.2.2 a c).2.1,(d a).2 (h.2.2.2 a c).2.2⟩⟩⟩
def Holds.Zp{S:ζ}{B:ZZ}{σ:Ρ}{H:Φ}{L:Nat}{y:Obj}(a:Holds S B σ H)(i:¬B.has L):Holds S B σ (H.Zp L y):=by
 have d:∀b,b≠L->UY H (H.Zp L y) b:=λb c=>⟨λ_=>rfl,U,by simp[Φ.Zp,c]⟩
 have f:∀(id b N:Nat),B[id]?=some (some (b,N))->b≠L:=λid b N h e=>i (e▸S5 h);refine⟨a.Za,a.len,λid r bo j g=>?_,a.inj,a.sep⟩;by_cases k:r.live
 .refine(a.row id r bo j g).later (ZC.refl S B σ) (λb N e=>d b (f id b N (by rw[g,e]))) λm left l e=>⟨U,U,λb N c=>d b (f m b N c)⟩
 cases r<;>first|exact absurd trivial k|trivial
def Ext.Zp{f S:ζ}{g B:ZZ}{c H:Φ}{L:Nat}{y:Obj}(a:Ext f g c S B H)(i:c.fresh L)(j:H.Xy L):Ext f g c S B (H.Zp L y):=by
 refine⟨a.Za,λb d h=>?_,a.blocks,a.S6,λb d=>a.grow b ((zU j b).1 d)⟩;have:b≠L:=λe=>h (e▸i);obtain⟨k,l,m⟩:=a.XU b d h;exact⟨k,l,by simp[Φ.Zp,this,m]⟩
end Go.TL
namespace Go.TL
open Go.Proofs.Tryz
open Go.Proofs
def W.rm[Z8]{nt:Nat}{E:XM}{m:Nat}{k:Zk}{env:κ}{σ:Ρ}{Z:Xv}{is a:Z6}(_:is=is)(_:a=a){ops:Y5}{l:Z6}(c:l=is++a)(h:∀b:κ->Ρ->Prop,(∀env σ,W prog m nt (.inRegion ops a::k) env σ Z E->b env σ)->run prog υ [] nt ops is env σ b E):W prog m nt (.inRegion ops l::k) env σ Z E:=W.part Τ is a c h
def XB(a b:Z6){p q:Prop}(k:q)(h:a=a->b=b->q->p:=by intro c d k;refine W.rm c d U λf e=>?_;(try simp);(repeat (rw[Ι];simp));apply e;exact k):p:=h U U k
end Go.TL
namespace Go.TL
open Go.Proofs.Tryz
open Go.Conc Go.Proofs
open Go.ConcN (sumTo upd sumTo_upd upd_ne upd_same sumTo_congr le_sumTo)
def DJ{B:Type}(f:Nat->B)(s:Nat)(a b:B):upd (upd f s a) s b=upd f s b:=by
 funext i;unfold upd;split<;>rfl
def ZW(x:Z0)(s:Nat)(t:Tok)(v:Option (Nat×Z5))(d:Nat):Z0:={x with tok:=upd x.tok s t,view:=upd x.view s v,deaf:=d}
section
variable{x:Z0}{s:Nat}{t t':Tok}{v v':Option (Nat×Z5)}{d hh:Nat}
def Ww:({ZW x s t v d with tok:=upd (ZW x s t v d).tok s t',view:=upd (ZW x s t v d).view s v'}:Z0)=ZW x s t' v' d:=by unfold ZW;simp only[DJ]
def Ug:({ZW x s t v d with view:=upd (ZW x s t v d).view s v'}:Z0)=ZW x s t v' d:=by unfold ZW;simp only[DJ]
def Jg:({ZW x s t v d with deaf:=(ZW x s t v d).deaf+1}:Z0)=ZW x s t v (d+1):=rfl
def Jf:({ZW x s t v d with deaf:=(ZW x s t v d).deaf-1}:Z0)=ZW x s t v (d-1):=rfl
def Zn:(ZW x s t v d).tok s=t:=by unfold ZW;simp only[upd_same]
def QD:(ZW x s t v d).view s=v:=by unfold ZW;simp only[upd_same]
def Nm{r:Nat}(h:r≠s):(ZW x s t v d).tok r=x.tok r:=by unfold ZW;exact upd_ne _ _ h
def rl:ZW x s (x.tok s) (x.view s) x.deaf=x:=by
 unfold ZW;have e:∀{B:Type}(f:Nat->B),upd f s (f s)=f:=λf=>by funext i;unfold upd;split<;>simp_all
 rw[e,e]
end
def DI{N:Nat}{τ:Nat->Tok}{φ a:Tok->Nat}(h:∀t,φ t<=a t):ZO N τ φ<=ZO N τ a:=by
 induction N with
 | zero=>exact Z3 _
 | succ N b=>rw[MG,MG];have:=h (τ N);omega
def rk{N:Nat}{τ:Nat->Tok}{φ a:Tok->Nat}:ZO N τ (λt=>φ t+a t)=ZO N τ φ+ZO N τ a:=by
 induction N with
 | zero=>rfl
 | succ N b=>simp only[MG,b];omega
structure Ob(a:Z5)(t:Tok):Prop where
 YZ:a.YZ<=1
 wk:a.wk<=1
 sv:a.sv<=1
 Yr:a.Yr<=1
 nw:a.nw<=a.top
 rj:SD t=1->a.sv=0/\a.wk=1
 hw:Sa t=1->a.sv=1/\a.wk=0/\a.YZ=0/\1<=a.nw
 hold:Vt t=1->a.YZ=1
 ri:Td t=1->(a.sv=0->a.wk=1)/\(a.sv=1->a.wk=0/\a.YZ=0/\1<=a.nw)
def MF.R9{c:Z5}{t:Tok}(h:MF c t):Ob c t:=by
 obtain⟨N,τ,i,⟨g,j⟩,hi,k,_⟩:=h;have l:=Xj τ Vt hi;have l2:=Xj τ SD hi;have n:=Xj τ Sa hi;have o:=Xj τ Td hi;rw[k]at l l2 n o;have p:ZO N τ Te+ZO N τ Td<=ZO N τ Tc:=by
  rw[<-rk];refine DI λt=>?_;cases t<;>simp[Te,Td,Tc];rename_i m _;cases m<;>simp[J1,J0]
 have r:ZO N τ Sa<=ZO N τ Td:=DI λt=>by
  cases t<;>simp[Sa,Td];rename_i m _;cases m<;>simp[H5,J0]
 obtain⟨f1,f2,f3,s,a,b,u,v,w⟩:=g;obtain⟨x,y,A,B,C,D,E,F,H⟩:=j;have d:c.sv=0\/c.sv=1:=J;refine⟨f1,f2,f3,?_,?_,λf=>?_,λf=>?_,λf=>?_,λf=>⟨λe=>?_,λe=>?_⟩⟩
 .rcases d with e|e
  .have:=a e;omega
  have:=b e;omega
 .rcases d with e|e
  .have:=a e;omega
  have:=b e;omega
 .rcases d with e|e
  .have:=a e;omega
  have:=b e;omega
 .rcases d with e|e
  .have:=a e;omega
  have:=b e;omega
 .omega
 .have:=a e;omega
 have:=b e;omega
structure rh(a:Z5)(t:Tok):Prop where
 wt:a.wt<=1
 cnt:a.cnt<=a.top
 YP:a.YP<=1
 live:U1 t<=a.cnt
 add:∀n p,t=.par n p .add->a.wt=0/\a.YP=0/\n<=a.top/\p<=a.cnt/\a.cnt<=n
 fin:∀n p,t=.par n p .RL\/t=.par n p .w4\/t=.par n p .Zg->a.wt=0/\a.YP=0/\a.cnt=0
 l2:∀k m,t=.ch k m .l2->a.wt=1/\a.cnt=0
 Qd:∀k m,t=.ch k m .Qd->a.wt=0/\a.cnt=0/\a.YP=0
def MF.Oa{r:Z5}{t:Tok}(h:MF r t):rh r t:=by
 obtain⟨N,τ,i,⟨D,d⟩,hi,a,_⟩:=h;have y:=Xj τ U1 hi;have l2:=Xj τ Uq hi;have s:=Xj τ Up hi;rw[a]at y l2 s;have E:ZO N τ U1<=ZO N τ Tc:=DI λt=>by
  cases t<;>simp[U1,Tc];rename_i g;cases g<;>simp[OC]
 unfold Q1 at d;have u:XO t=1->ZO N τ V4=V4 t/\ZO N τ Vs=Vs t/\ZO N τ SC=SC t/\ZO N τ Tb=Tb t/\ZO N τ Vr=Vr t:=λf=>by
  have A:XO (τ i)=1:=by rw[a];exact f
  refine⟨?_,?_,?_,?_,?_⟩<;>(rw[Qa (λt a=>by cases t<;>simp_all [XO,V4,Vs,SC,Tb,Vr]) d.RI hi A,a])
 obtain⟨B,F,H,I,K,b,j,c,L⟩:=d;have l:ZO N τ SC=1\/ZO N τ Tb=1\/ZO N τ Vr=1:=J;refine⟨B,J,?_,J,λn p e=>?_,λn p e=>?_,λk m e=>?_,λk m e=>?_⟩
 .rcases l with e|e|e
  .have:=b e;omega
  .have:=j e;omega
  have:=c e;omega
 .subst e;obtain⟨v,w,o,C,x⟩:=u U;simp only[V4,Vs,SC]at v w o;have:=b o;omega
 .have f:XO t=1:=by rcases e with rfl|rfl|rfl<;>rfl
  obtain⟨v,w,o,C,x⟩:=u f;have:ZO N τ Vr=1:=by rw[x];rcases e with rfl|rfl|rfl<;>rfl
  have:=c this;omega
 .subst e;simp only[Uq,MJ]at l2;rcases l with e|e|e
  .have:=b e;omega
  .have:=j e;omega
  have:=c e;omega
 subst e;simp only[Up,MI]at s;rcases l with e|e|e
 .have:=b e;omega
 .have:=j e;omega
 have:=c e;omega
abbrev Wp(a b c n:Nat):Int:=(a:Int)+2*b+4*c+8*n
def DH:∀a<2,∀b<2,∀c<2,∀n<8,UX .i32 (Wp a b c n) 5=a+4*c:=by decide +kernel
def DG:∀a<2,∀b<2,∀c<2,∀n<8,UX .i32 (Wp a b c n) 4=4*c:=by decide +kernel
def rf:∀a<2,∀b<2,∀c<2,∀n<8,UX .i32 (Wp a b c n) 3=a+2*b:=by decide +kernel
def re:∀a<2,∀b<2,∀c<2,∀n<8,UX .i32 (Wp a b c n) 7=a+2*b+4*c:=by decide +kernel
def F7:∀a<2,∀b<2,∀c<2,∀n<8,UX .i32 (Wp a b c n) 2=2*b:=by decide +kernel
def rb:∀a<2,∀b<2,∀c<2,∀n<8,UX .i32 (Wp a b c n) 1=a:=by decide +kernel
def ra:∀a<2,∀b<2,∀c<2,∀n<8,RD .i32 (Wp a b c n) 1=Wp 1 b c n:=by decide +kernel
def q':∀a<2,∀b<2,∀c<2,∀n<8,RD .i32 (Wp a b c n) 2=Wp a 1 c n:=by decide +kernel
def q9:∀a<2,∀b<2,∀c<2,∀n<8,RD .i32 (Wp a b c n) 4=Wp a b 1 n:=by decide +kernel
def DF:∀a<2,∀b<2,∀c<2,∀n<8,Mv .i32 (Wp a b c n) 2=Wp a 0 c n:=by decide +kernel
def DD:∀a<2,∀b<2,∀c<2,∀n<8,(Wp a b c n).fdiv (2 ^ min 3 IntKind.i32.bits)=n:=by decide +kernel
def q8:∀a<2,∀b<2,∀c<2,∀n<7,IntKind.i32.wrap (Wp a b c n+8)=Wp a b c (n+1):=by decide +kernel
def QC(a:Z5):mwd a=Wp a.YZ a.wk a.sv a.nw:=rfl
def LU:Entry prog 111 (λ_=>do mark .disable;pure Extern.Race.none_):=⟨_,func111,by kernel_rfl,by kernel_rfl,by kernel_rfl,by kernel_rfl⟩
def O2:Entry prog 112 (λ_=>do mark .enable;pure Extern.Race.none_):=⟨_,func112,by kernel_rfl,by kernel_rfl,by kernel_rfl,by kernel_rfl⟩
def DC:Entry prog 110 (Extern.Race.marked .releaseMerge):=⟨_,func110,by kernel_rfl,by kernel_rfl,by kernel_rfl,by kernel_rfl⟩
def Je:Entry prog 129 (Extern.Race.marked .acquire):=⟨_,func129,by kernel_rfl,by kernel_rfl,by kernel_rfl,by kernel_rfl⟩
def q7:Entry prog 118 (Extern.Race.marked .read):=⟨_,func118,by kernel_rfl,by kernel_rfl,by kernel_rfl,by kernel_rfl⟩
def q6:Entry prog 132 (Extern.Race.marked .write):=⟨_,func132,by kernel_rfl,by kernel_rfl,by kernel_rfl,by kernel_rfl⟩
def zT:Entry prog 113 (λ_=>pure (.bool false)):=⟨_,func113,by kernel_rfl,by kernel_rfl,by kernel_rfl,by kernel_rfl⟩
def F6:Entry prog 169 (Extern.Atomic.casT (.int .i32)):=⟨_,func169,by kernel_rfl,by kernel_rfl,by kernel_rfl,by kernel_rfl⟩
def zS:Entry prog 171 (Extern.Atomic.update (Op.intArith .add) .i32 true):=⟨_,func171,by kernel_rfl,by kernel_rfl,by kernel_rfl,by kernel_rfl⟩
def q5:Entry prog 173 (Extern.Atomic.casT (.int .u64)):=⟨_,func173,by kernel_rfl,by kernel_rfl,by kernel_rfl,by kernel_rfl⟩
def zR:Entry prog 161 (Extern.Atomic.update (Op.intArith .add) .u64 true):=⟨_,func161,by kernel_rfl,by kernel_rfl,by kernel_rfl,by kernel_rfl⟩
def zQ:Entry prog 162 (Extern.Atomic.loadT (.int .u64)):=⟨_,func162,by kernel_rfl,by kernel_rfl,by kernel_rfl,by kernel_rfl⟩
def q4:Entry prog 163 Extern.Atomic.storeT:=⟨_,func163,by kernel_rfl,by kernel_rfl,by kernel_rfl,by kernel_rfl⟩
def q3:Entry prog 211 Extern.Sync.canSpin:=⟨_,func211,by kernel_rfl,by kernel_rfl,by kernel_rfl,by kernel_rfl⟩
def q2:Entry prog 212 (λ_=>pure (.tuple #[])):=⟨_,func212,by kernel_rfl,by kernel_rfl,by kernel_rfl,by kernel_rfl⟩
def zP:Entry prog 214 Extern.OsHooks.nano:=⟨_,func214,by kernel_rfl,by kernel_rfl,by kernel_rfl,by kernel_rfl⟩
def q1:Entry prog 215 Extern.Sync.semacquire:=⟨_,func215,by kernel_rfl,by kernel_rfl,by kernel_rfl,by kernel_rfl⟩
def q0:Entry prog 133 Extern.Sync.semacquire:=⟨_,func133,by kernel_rfl,by kernel_rfl,by kernel_rfl,by kernel_rfl⟩
def zO:Entry prog 217 Extern.Sync.semrelease:=⟨_,func217,by kernel_rfl,by kernel_rfl,by kernel_rfl,by kernel_rfl⟩
def qZ:Entry prog 122 Extern.Sync.semrelease:=⟨_,func122,by kernel_rfl,by kernel_rfl,by kernel_rfl,by kernel_rfl⟩
def O1:prog.underlying 199=some .unsafePointer:=by kernel_rfl
def Jd:prog.underlying 249=some (.pointer 134):=by kernel_rfl
def Jc:(prog.info? 134).map (λi=>decide (i.size=0))=some false:=by kernel_rfl
def Dz:prog.underlying 197=some (.pointer 142):=by kernel_rfl
def Dy:(prog.info? 142).map (λi=>decide (i.size=0))=some false:=by kernel_rfl
def zN:prog.underlying 204=some (.pointer 132):=by kernel_rfl
def zM:(prog.info? 132).map (λi=>decide (i.size=0))=some false:=by kernel_rfl
def Kv:prog.underlying 21=some (.int .i32):=by kernel_rfl
def η.leave0[Z8]{P:Program}{d:Value->Prop}{mn:Bool}{z:Vp}{c b:Frame}{rest:YM}{H:Φ}{t:ZP}{ops:Y5}{fn:Func}(a:Seq z)(e:b.mode=.run)(f:b.roundOf=none)(g:b.defers=[])(i:b.kind=.normal)(j:P.funcs[b.fn]?=some fn)(k:fn.results=#[])
  (h:η P d mn z (c.finish (.tuple #[])) rest H):η P d mn z (χ b t [.inRegion ops []]) (c::rest) H:=by
 refine .ZK a e (.QR a e f (.back a U g (.inl i) j ?_));rw[results_none k];exact Ω.pure' h
def Zx.leave0[Z8]{P:Program}{a:Value->Prop}{mn:Bool}{x:Z0}{c b:Frame}{rest:YM}{H:Φ}{t:ZP}{ops:Y5}{fn:Func}(d:Seq (one x))(e:b.mode=.run)(f:b.roundOf=none)(g:b.defers=[])(i:b.kind=.normal)(j:P.funcs[b.fn]?=some fn)(k:fn.results=#[])
  (h:Zx P a mn x (c.finish (.tuple #[])) rest H):Zx P a mn x (χ b t [.inRegion ops []]) (c::rest) H:=
 η.leave0 (z:=one x) d e f g i j k (λy l=>by cases l;exact h) x U
structure Vk(x:Z0)(s m:Nat)(sp:Spec):Prop where
 rel:x.rel=false
 Z9:x.Z9=λ_=>none
 spec:x.spec s=some sp
 ZR:sp.ZR=some m
 top:sp.top<7
 still:∀a,a≠s->SA (x.tok a)
def Vk.seq{x:Z0}{s m:Nat}{sp:Spec}(h:Vk x s m sp):∀t v d,@Seq Yg (one (ZW x s t v d)):=λt v d=>@Seq.PV Yg _ trivial h.rel h.Z9
def Zx.qY[Z8]{P:Program}{d:Value->Prop}{mn:Bool}{x:Z0}{c b:Frame}{rest:YM}{H:Φ}{t:ZP}{ops:Y5}{k:Zk}{fn:Func}(a:Seq (one x))(e:b.mode=.run)(f:b.roundOf=none)(g:b.defers=[])(i:b.kind=.normal)(j:P.funcs[b.fn]?=some fn)(l:fn.results=#[])
  (h:Zx P d mn x (c.finish (.tuple #[])) rest H):Zx P d mn x (χ b t (.inRegion ops []::.code .ret::k)) (c::rest) H:=by
 refine η.ZK (x:=one x) a e (.ret a e f (.back a U g (.inl i) j ?_)) x U;rw[results_none l];exact Ω.pure' (λy m=>by cases m;exact h)
abbrev ptr(b a:Nat):Value:=.pointer (some ⟨b,a,none⟩)
section
variable{Q:Value->Prop}{mn:Bool}{x:Z0}{c:Frame}{rest:YM}{S:ζ}{B:ZZ}{σ:Ρ}{H:Φ}{s m k:Nat}{sp:Spec}{v:Option (Nat×Z5)}
def N'(Q:Value->Prop)(mn:Bool)(x:Z0)(c:Frame)(rest:YM)(S:ζ)(H:Φ)(s k:Nat)(sp:Spec):Prop:=
 ∀(a:ζ)(H':Φ)(L:Z6)(E:Φ),Ext S [] H a [] H'->Holds a [] [] H'->sp.Yd L E->Apart H' E->(L.Nodup/\k∉L/\∃w,Fits H' w/\Fits E w)->Zx prog Q mn (ZW x s (.ch k (.YG L) .work) none 0) (c.finish (.tuple #[])) rest (join H' E)
def zL(Q:Value->Prop)(mn:Bool)(x:Z0)(s m k:Nat)(sp:Spec):Prop:=∀(c:Frame)(rest:YM)(S:ζ)(B:ZZ)(σ:Ρ)(H:Φ)(v:Option (Nat×Z5)),Holds S B σ H->N' Q mn x c rest S H s k sp->
 Zx prog Q mn (ZW x s (.ch k (.act false) .work) v 1) (Frame.enter prog 170 #[ptr m 0] .normal) (c::rest) H
def qX(b:Vk x s m sp)(u:Holds S B σ H)(A:zL Q mn x s m k sp)
  (r:N' Q mn x c rest S H s k sp):Zx prog Q mn (ZW x s (.ch k .idle .work) v 0) (Frame.enter prog 127 #[ptr m 0] .normal) (c::rest) H:=by
 letI:Z8:=Yg;have a:=b.seq;refine V.PR (z:=one _) (vs:=[ptr m 0]) func127 U u (by simp[ntmps127]) ?_ _ U;refine V.Zi (a _ _ _) ?_;refine ZA ?_;refine W.Zs (.stop ?_);refine V.disable (a _ _ _).here ⟨⟨U,U,by simp[Frame.enter],U⟩,LU,⟨_,U⟩,U,U,U⟩ ?_;rw[Jg];refine V.Zi (a _ _ _) ?_;refine W.ZK ?_;refine ZA ?_;refine W.Zs ?_;refine XB [0,1,2] [3] ?_;refine W.stop ?_;refine V.Ga (a _ _ _).here (UI _) (sp:=sp) b.spec (by rw[Zn];exact id) b.ZR ⟨⟨U,U,by simp[Frame.enter],U⟩,F6,⟨_,U⟩,U,U,U⟩ (λφ d t hv=>?_) (λφ d t hv=>?_)
 .refine .inr ⟨.ch k (.act false) .work,by rw[Zn];exact .wO,λC _=>?_⟩;rw[Ww];refine V.Zi (a _ _ _) ?_;refine W.ZK ?_;refine ZA ?_;refine Δ U ?_;refine ZA ?_;refine W.Zs ?_;refine XB [0] [1] ?_;refine W.stop ?_;refine V.call (a _ _ _) ⟨U,U,by simp[Frame.enter],U⟩ U U U ⟨_,func170,U,U⟩ λh f i t1 N j e hv=>?_;obtain rfl:=V8 (l:=[ptr m 0]) hv;rintro y rfl;refine A _ _ h f _ i _ e.holds λD F L E I J n o p=>?_;rw[VQ U];refine Zx.leave0 (a _ _ _) U U U U func127 U ?_;obtain rfl:f=[]:=YY.1 e.holds.len;exact r D F L E (j.ext.trans I) J n o p
 have g:d.YZ=0/\d.sv=0/\d.wk=0/\d.nw=0:=by simp only[mwd]at hv;omega
 refine⟨{d with YZ:=1},.ch k .own .work,by simp[mwd];omega,U,⟨U,U,U⟩,by rw[Zn];exact .wP g.1 g.2.1 g.2.2.1 g.2.2.2,λC _=>?_⟩;rw[Ww];refine V.Zi (a _ _ _) ?_;refine W.ZK ?_;refine ZA ?_;refine Β U ?_;refine ZA ?_;refine Β U ?_;refine ZA ?_;refine W.Zs (.stop ?_);refine V.enable (a _ _ _).here (UI _) ⟨⟨U,U,by simp[Frame.enter],U⟩,O2,⟨_,U⟩,U,U,U⟩ ?_;rw[Jf];refine V.Zi (a _ _ _) ?_;refine W.ZK ?_;refine ZA ?_;refine W.Zs ?_;refine XB [0] [1,2] ?_;refine W.stop ?_;refine V.conv (a _ _ _).here (sp:=sp) b.spec (by rw[Zn];exact id) ⟨U,U,by simp[Frame.enter],U⟩ U U U Jd O1 Jc U (λd w K M=>⟨_,M.PT (by rw[K];exact b.ZR)⟩) (λφ d t=>?_);unfold VA;rw[Ug];refine V.HM b.rel U (sp:=sp) b.spec b.ZR Zn ⟨⟨U,U,by simp[Frame.enter],U⟩,Je,⟨_,U⟩,U,U,U⟩ λh f i t1 L E j e n o p=>?_;rw[Ww];obtain rfl:f=[]:=YY.1 e.holds.len;refine Zx.qY (a _ _ _) U U U U func127 U ?_;exact r h i L E j.ext e.holds n o p
end
def YN:Z6->Code->Code
 | [],c=>c
 | 0::l,.seq a _=>YN l a
 | _::l,.seq _ b=>YN l b
 | 0::l,.cond _ a _=>YN l a
 | _::l,.cond _ _ b=>YN l b
 | _::l,.block _ c=>YN l c
 | _::l,.loop c=>YN l c
 | _,c=>c
noncomputable def PQ:Code:=f170.body.getD .skip
noncomputable def Sp:Code:=YN [1,1,1,1,1,0,0,0] PQ
noncomputable def PO:Code:=YN [0,1] Sp
noncomputable def O0:Code:=YN [1,1,1,1,1] PO
noncomputable def So:Code:=YN [1,0] O0
noncomputable def Jb:Code:=YN [1,1,1,1,1,1] PQ
noncomputable def Tv:Zk:=[.inLoop Sp,.inBlock 0,.code Jb]
abbrev Ux(a:Value->Prop)(mn:Bool)(x:Z0)(c:Frame)(rest:YM)(S:ζ)(H:Φ)(s m:Nat)(t:Tok)(v:Option (Nat×Z5))(d:Nat)(K:Zk)(env:κ):Prop:=
 V prog a mn (one (ZW x s t v d)) (Frame.enter prog 170 #[ptr m 0] .normal) (c::rest) 139 ⟨S,[],H,[],0⟩ K env []
def YQ(m:Nat)(w:Int)(a b:Bool)(c τ:Int):κ:=[(0,.z (ptr m 0)),(2,.z (.int .i64 τ)),(3,.z (.bool b)),(4,.z (.bool a)),(5,.z (.int .i64 c)),(6,.z (.int .i32 w))]
def QB(a b c n:Nat)(d e:Bool):Int:=
 if a=0/\c=0 then Wp 1 (if d then 0 else b) 0 n else Wp a (if d then 0 else b) (if e=true/\a=1 then 1 else c) (n+1)
section
variable{Q:Value->Prop}{mn:Bool}{x:Z0}{c:Frame}{rest:YM}{S:ζ}{B:ZZ}{σ:Ρ}{H:Φ}{s m k:Nat}{sp:Spec}{v:Option (Nat×Z5)}{t:Tok}
def qW(D:Vk x s m sp){a b e n:Nat}{k f:Bool}{A τ:Int}(r:a<2)(u:b<2)(w:e<2)(E:n<7)(F:k=true->e=0/\b=1)(M:f=true->k=true)
  (g:Ux Q mn x c rest S H s m t v 1 (.code (YN [0] O0)::.code (YN [1] O0)::.inBlock 1::Tv) (YQ m (Wp a b e n) k f A τ++[(7,.z (.int .i32 (QB a b e n k f)))])) :
  Ux Q mn x c rest S H s m t v 1 (.code PO::.inBlock 1::Tv) (YQ m (Wp a b e n) k f A τ):=by
 letI:Z8:=Yg;have I:=D.seq;have B:(a=0\/a=1)/\(e=0\/e=1):=J;have h:=DG a r b u e w n J;have i:=DH a r b u e w n J;have C:=rb a r b u e w n J;have l:=ra a r b u e w n J;have y:=q8 a r b u e w n E;refine V.Zi (I _ _ _) ?_;unfold PO Sp PQ;cases k with
 | false=>
  have K:f=false:=by cases f<;>simp_all
  subst K;rcases B with⟨rfl|rfl,rfl|rfl⟩
  ·(repeat (first|apply We|apply Wd|apply Wc|apply wd|refine Β rfl ?_|refine Δ rfl ?_|(refine Yz λj d=>?_;simp;(repeat (rw[Ι];simp[YQ,h,i,l]));apply d)));exact W.forget _ (by simp[YQ,QB]) (.stop g)
  ·(repeat (first|apply We|apply Wd|apply Wc|apply wd|refine Β rfl ?_|refine Δ rfl ?_|(refine Yz λj d=>?_;simp;(repeat (rw[Ι];simp[YQ,h,i,y]));apply d)));exact W.forget _ (by simp[YQ,QB]) (.stop g)
  ·(repeat (first|apply We|apply Wd|apply Wc|apply wd|refine Β rfl ?_|refine Δ rfl ?_|(refine Yz λj d=>?_;simp;(repeat (rw[Ι];simp[YQ,h,i,l,y]));apply d)));exact W.forget _ (by simp[YQ,QB]) (.stop g)
  ·(repeat (first|apply We|apply Wd|apply Wc|apply wd|refine Β rfl ?_|refine Δ rfl ?_|(refine Yz λj d=>?_;simp;(repeat (rw[Ι];simp[YQ,h,i,y]));apply d)));exact W.forget _ (by simp[YQ,QB]) (.stop g)
 | true=>
  obtain⟨rfl,rfl⟩:=F U;rcases B with⟨rfl|rfl,-⟩
  .have o:=F7 1 J 1 J 0 J n J
   have p:=DF 1 J 1 J 0 J n J;cases f
   ·(repeat (first|apply We|apply Wd|apply Wc|apply wd|refine Β rfl ?_|refine Δ rfl ?_|(refine Yz λj d=>?_;simp;(repeat (rw[Ι];simp[YQ,h,i,l,o,p]));apply d)));exact W.forget _ (by simp[YQ,QB]) (.stop g)
   ·(repeat (first|apply We|apply Wd|apply Wc|apply wd|refine Β rfl ?_|refine Δ rfl ?_|(refine Yz λj d=>?_;simp;(repeat (rw[Ι];simp[YQ,h,i,C,l,o,p]));apply d)));exact W.forget _ (by simp[YQ,QB]) (.stop g)
  cases f
  .have o:=F7 1 J 1 J 0 J (n+1) J
   have p:=DF 1 J 1 J 0 J (n+1) J;(repeat (first|apply We|apply Wd|apply Wc|apply wd|refine Β rfl ?_|refine Δ rfl ?_|(refine Yz λj d=>?_;simp;(repeat (rw[Ι];simp[YQ,h,i,l,y,o,p]));apply d)));exact W.forget _ (by simp[YQ,QB]) (.stop g)
  have L:=q9 1 J 1 J 0 J (n+1) J
  have o:=F7 1 J 1 J 1 J (n+1) J
  have p:=DF 1 J 1 J 1 J (n+1) J;(repeat (first|apply We|apply Wd|apply Wc|apply wd|refine Β rfl ?_|refine Δ rfl ?_|(refine Yz λj d=>?_;simp;(repeat (rw[Ι];simp[YQ,h,i,C,l,y,L,o,p]));apply d)));exact W.forget _ (by simp[YQ,QB]) (.stop g)
def zK(a:Vk x s m sp)(e:N' Q mn x c rest S H s k sp){env:κ}(f:ε env 0=.z (ptr m 0)):Ux Q mn x c rest S H s m (.ch k .own .work) v 1 [.code Jb] env:=by
 letI:Z8:=Yg;have b:=a.seq;refine V.Zi (b _ _ _) ?_;unfold Jb PQ;refine Β U ?_;refine ZA ?_;refine W.Zs (.stop ?_);refine V.enable (b _ _ _).here (UI _) ⟨⟨U,U,by simp[Frame.enter],U⟩,O2,⟨_,U⟩,U,U,U⟩ ?_;rw[Jf];refine V.Zi (b _ _ _) ?_;refine W.ZK ?_;refine ZA ?_;refine W.Zs ?_;refine W.part (A:=[]) Τ [0] [1,2] U λy g=>?_;simp;(repeat (rw[Ι];simp[f]));apply g;refine W.stop ?_;refine V.conv (b _ _ _).here (sp:=sp) a.spec (by rw[Zn];exact id) ⟨U,U,by simp[Frame.enter],U⟩ U U U Jd O1 Jc U (λh w i j=>⟨_,j.PT (by rw[i];exact a.ZR)⟩) (λφ h B=>?_);unfold VA;rw[Ug];refine V.HM a.rel U (sp:=sp) a.spec a.ZR Zn ⟨⟨U,U,by simp[Frame.enter],U⟩,Je,⟨_,U⟩,U,U,U⟩ λl n o t1 L E p d r t u=>?_;rw[Ww];obtain rfl:n=[]:=YY.1 d.holds.len;refine Zx.leave0 (b _ _ _) U U U U func170 U ?_;exact e l o L E p.ext d.holds r t u
end
section
variable{Q:Value->Prop}{mn:Bool}{x:Z0}{c:Frame}{rest:YM}{S:ζ}{B:ZZ}{σ:Ρ}{H:Φ}{s m k:Nat}{sp:Spec}{v:Option (Nat×Z5)}{t:Tok}
def F5:(prog.funcs[170]?).any (·.norace)=true:=by kernel_rfl
def zJ:(prog.funcs[214]?).any (·.norace)=true:=by kernel_rfl
def Ja(Q:Value->Prop)(mn:Bool)(x:Z0)(c:Frame)(rest:YM)(S:ζ)(H:Φ)(s m k:Nat)(sp:Spec)(φ:Nat):Prop:=
 ∀(e:Nat)(a:Z5)(b f:Bool)(d τ:Int),e<φ->a.toSpec=sp->Ob a (.ch k (.act b) .work)->(f=true->b=true)->0<=d->d<=4->Ux Q mn x c rest S H s m (.ch k (.act b) .work) (some (e,a)) 1 Tv (YQ m (mwd a) b f d τ)
def zI{a:Z5}{b:Bool}(h:Ob a (.ch k (.act b) .work)):b=true->a.sv=0/\a.wk=1:=λe=>h.rj (by rw[e];rfl)
def qV(e:Vk x s m sp)(N:N' Q mn x c rest S H s k sp){φ:Nat}(O:Ja Q mn x c rest S H s m k sp φ){v:Nat}{D:Z5}(o:v<φ){p:Bool}{τ:Int} :
  Ux Q mn x c rest S H s m (.ch k .wk .work) (some (v,D)) 1 (.code (YN [1,1,1,1,1] So)::.inBlock 1::Tv) [(0,.z (ptr m 0)),(2,.z (.int .i64 τ)),(3,.z (.bool p))]:=by
 letI:Z8:=Yg;have g:=e.seq;refine V.Zi (g _ _ _) ?_;unfold So O0 PO Sp PQ;refine ZA ?_;refine W.Zs ?_;refine XB [0,1,2] [3,4] ?_;refine W.stop ?_;refine V.Kw (g _ _ _).here (sp:=sp) e.spec (by rw[Zn];exact id) ⟨U,U,by simp[Frame.enter],U⟩ U U U Kv U F5 mwd (λa w P R=>R.PT (by rw[P];exact e.ZR)) (λab a r=>.inr ?_);have b:=r.US.R9;rw[Zn]at b;have hv:=r.view v D QD;have E:=b.ri U;have ad:a.top<7:=by have:=e.top;rw[show a.top=sp.top by rw[<-r.spec]];exact this
 have ae:=b.nw
 have af:=b.YZ;have ag:=b.wk;have ah:=b.sv
 have i:=DG a.YZ J a.wk J a.sv J a.nw J
 have l:=rf a.YZ J a.wk J a.sv J a.nw J
 have t:=DD a.YZ J a.wk J a.sv J a.nw J;rw[<-QC]at i l t;rcases(show a.sv=0\/a.sv=1 by omega)with f|f
 .refine⟨.ch k (.act true) .work,by rw[Zn];exact .norm f,λy T=>?_⟩;rw[Ww];rw[f]at i;refine V.Zi (g _ _ _) ?_;refine W.part (A:=[]) Τ [4] [] U λF n=>?_;(try simp);(repeat (rw[Ι];simp));(try simp);apply n;refine W.ZK ?_;refine V0 i ?_;refine W.forget (YQ m (mwd a) true p 0 τ) (by simp[YQ]) (.stop ?_);exact O y a true p 0 τ J r.spec ⟨b.YZ,b.wk,b.sv,b.Yr,b.nw,λ_=>⟨f,E.1 f⟩,λh=>(by cases h),λh=>(by cases h),λh=>(by cases h)⟩ (λ_=>rfl) J J
 obtain⟨X,Y,ai⟩:=E.2 f;refine⟨.ch k .hw .work,by rw[Zn];exact .hand f,λy T=>?_⟩;rw[Ww];rw[f]at i;rw[X,Y]at l;have B:¬a.nw=0:=J;have I:IntKind.i32.wrap (-11)=-11:=θ;have Z:∀(w:Option (Nat×Z5))(env:κ),ε env 0=.z (ptr m 0)->Ux Q mn x c rest S H s m (.ch k .own .work) w 1 [.code Jb] env:=λw env h=>zK e N h;have add:∀(j:Bool)(env:κ),ε env 0=.z (ptr m 0)->ε env 9=.z (.int .i32 (if j then -11 else -7))->Ux Q mn x c rest S H s m (.ch k .hw .work) (some (y,a)) 1 (.code (YN [1,1,1,1,1,1,0,1,0,1,1,1,0] So)::.code (YN [1,1,1,1,1,1,0,1,0,1,1,1,1] So)::.code (YN [1,1,1,1,1,1,1] So)::.inBlock 1::Tv) env:=λj env o K=>by
  refine V.Zi (g _ _ _) ?_;unfold So O0 PO Sp PQ;refine ZA ?_;refine W.Zs ?_;refine W.part (A:=[]) Τ [0,1,2,3] [4] U λF n=>?_;(try simp);(repeat (rw[Ι];simp[o,K]));(try simp[o,K]);apply n;refine W.stop ?_;refine V.z2 (g _ _ _).here (UI _) (sp:=sp) e.spec (by rw[Zn];exact id) e.ZR (d:=if j then -11 else -7) ⟨⟨U,U,by simp[Frame.enter],U⟩,zS,⟨_,U⟩,U,U,U⟩ (λaj u L=>?_);have C:=L.US.R9;rw[Zn]at C;obtain⟨f1,f2,f3,f4⟩:=C.hw U;have ak:u.top<7:=by have:=e.top;rw[show u.top=sp.top by rw[<-L.spec]];exact this
  have al:=C.nw;refine⟨{u with YZ:=1,nw:=u.nw-1,sv:=if j then 0 else 1},.ch k .own .work,?_,U,⟨U,U,U⟩,by rw[Zn];exact .hacq j,λam _=>?_⟩
  .cases j<;>simp[mwd,IntKind.wrap_i32,f1,f2,f3]<;>omega
  rw[Ww];refine V.Zi (g _ _ _) ?_;refine W.ZK ?_;refine ZA ?_;refine W.exit U (.stop ?_);refine Z _ _ ?_;simp[o]
 refine V.Zi (g _ _ _) ?_;refine W.part (A:=[]) Τ [4] [] U λF n=>?_;(try simp);(repeat (rw[Ι];simp));(try simp);apply n;refine W.ZK ?_;cases p with
 | false=>
  refine V0 (Ξ i (Ξ l (Ξ t (Ξ B I)))) ?_;exact .stop (add true _ U U)
 | true=>
  by_cases M:a.nw=1
  .refine V0 (Ξ i (Ξ l (Ξ t (Ξ B (Ξ M I))))) ?_;exact .stop (add true _ U U)
  have aa:¬(a.nw:Int)=1:=J
  refine V0 (Ξ i (Ξ l (Ξ t (Ξ B (Ξ M aa))))) ?_;exact .stop (add false _ U U)
def qU(a:Vk x s m sp)(t:N' Q mn x c rest S H s k sp){φ:Nat}(u:Ja Q mn x c rest S H s m k sp φ){f:Nat}{j:Z5}(D:f<φ){b y:Bool}{τ:Int} :
  Ux Q mn x c rest S H s m (.ch k .q .work) (some (f,j)) 1 (.code (YN [1,1,1,0] So)::.code (YN [1,1,1,1] So)::.inBlock 1::Tv) [(0,.z (ptr m 0)),(2,.z (.int .i64 τ)),(3,.z (.bool b)),(8,.z (.bool y))]:=by
 letI:Z8:=Yg;have d:=a.seq;have next:∀(e:Nat)(l:Z5)(b:Bool),e<φ->Ux Q mn x c rest S H s m (.ch k .wk .work) (some (e,l)) 1 (.code (YN [1,1,1,1,1] So)::.inBlock 1::Tv) [(0,.z (ptr m 0)),(2,.z (.int .i64 τ)),(3,.z (.bool b))]:=λe l b v=>qV a t u v
 refine V.Zi (d _ _ _) ?_;unfold So O0 PO Sp PQ;refine ZA ?_;refine W.Zs ?_;refine XB [0,1,2,3] [4] ?_;refine W.stop ?_;refine V.rv (d _ _ _).here (sp:=sp) a.spec (by rw[Zn];exact id) a.ZR (vs:=[ptr m 1,.bool y,.int .i64 2]) U (λw n=>by rw[Nm n];exact a.still w n) ⟨⟨U,U,by simp[Frame.enter],U⟩,q1,⟨_,U⟩,U,U,U⟩ (λe g p h=>by rw[Zn];exact h) (λe g p h=>?_);have hv:=p.view f j QD;refine⟨{g with Yr:=g.Yr-1},.ch k .wk .work,U,U,⟨U,U,U⟩,by rw[Zn];exact .take h,λr E=>?_⟩;rw[Ww];refine V.Zi (d _ _ _) ?_;refine W.ZK ?_;cases b with
 | true=>
  first|apply We|apply Wd|apply Wc|apply wd
  refine Yz λB i=>?_;(try simp);(repeat (rw[Ι];simp));(try simp);apply i;refine W.forget [(0,.z (ptr m 0)),(2,.z (.int .i64 τ)),(3,.z (.bool true))] o (.stop ?_);exact next r _ true J
 | false=>
  first|apply We|apply Wd|apply Wc|apply wd
  refine W.Zs ?_;refine XB [0,1] [2,3,4,5,6,7] ?_;refine W.stop ?_;refine V.nano (d _ _ _) (vs:=[]) ⟨⟨U,U,by simp[Frame.enter],U⟩,zP,⟨_,U⟩,U,U,U⟩ zJ λC=>?_;refine V.Zi (d _ _ _) ?_;refine W.part (A:=[]) Τ [3,4,5,6,7] [] U λB i=>?_;(try simp);(repeat (rw[Ι];simp));(try simp);apply i;refine W.ZK ?_;refine W.forget [(0,.z (ptr m 0)),(2,.z (.int .i64 τ)),(3,.z (.bool (decide (1000000<IntKind.i64.wrap (C-τ)))))] o (.stop ?_);exact next r _ _ J
def qT(f:Vk x s m sp)(n:N' Q mn x c rest S H s k sp){φ:Nat}(p:Ja Q mn x c rest S H s m k sp φ){d:Nat}{g:Z5}(r:d<φ){w:Int}{t b:Bool}{u τ:Int}(i:¬UX .i32 w 5=0) :
  Ux Q mn x c rest S H s m (.ch k .q .work) (some (d,g)) 1 (.code So::.inBlock 1::Tv) (YQ m w t b u τ):=by
 letI:Z8:=Yg;have e:=f.seq;have next:∀(τ:Int)(y:Bool),Ux Q mn x c rest S H s m (.ch k .q .work) (some (d,g)) 1 (.code (YN [1,1,1,0] So)::.code (YN [1,1,1,1] So)::.inBlock 1::Tv) [(0,.z (ptr m 0)),(2,.z (.int .i64 τ)),(3,.z (.bool b)),(8,.z (.bool y))]:=λτ y=>qU f n p r
 refine V.Zi (e _ _ _) ?_;unfold So O0 PO Sp PQ;by_cases h:τ=0
 .subst h;(repeat (first|apply We|apply Wd|apply Wc|apply wd|refine Β rfl ?_|refine Δ rfl ?_|(refine Yz λj a=>?_;simp;(repeat (rw[Ι];simp[YQ,i]));apply a)));refine W.Zs (.stop ?_);refine V.nano (e _ _ _) (vs:=[]) ⟨⟨U,U,by simp[Frame.enter],U⟩,zP,⟨_,U⟩,U,U,U⟩ zJ λl=>?_;refine V.Zi (e _ _ _) ?_;refine W.part (A:=[]) Τ [1] [] U λj a=>?_;(try simp);(repeat (rw[Ι];simp));(try simp);apply a;refine W.ZK ?_
  first|apply We|apply Wd|apply Wc|apply wd
  refine W.forget [(0,.z (ptr m 0)),(2,.z (.int .i64 l)),(3,.z (.bool b)),(8,.z (.bool false))] o (.stop ?_);exact next l false
 ·(repeat (first|apply We|apply Wd|apply Wc|apply wd|refine Β rfl ?_|refine Δ rfl ?_|(refine Yz λj a=>?_;simp;(repeat (rw[Ι];simp[YQ,i,h]));apply a)));refine W.forget [(0,.z (ptr m 0)),(2,.z (.int .i64 τ)),(3,.z (.bool b)),(8,.z (.bool true))] (by simp[h]) (.stop ?_);exact next τ true
end
def zH{a b:Z5}{t u:Tok}(c:Ob a t)(d:Ob b u)(h:mwd a=mwd b):a.YZ=b.YZ/\a.wk=b.wk/\a.sv=b.sv/\a.nw=b.nw:=by
 have:=c.YZ;have:=c.wk;have:=c.sv;have:=d.YZ;have:=d.wk;have:=d.sv;simp only[mwd]at h;omega
section
variable{Q:Value->Prop}{mn:Bool}{x:Z0}{c:Frame}{rest:YM}{S:ζ}{B:ZZ}{σ:Ρ}{H:Φ}{s m k:Nat}{sp:Spec}{v:Option (Nat×Z5)}{t:Tok}
def I'(b:Vk x s m sp){a:Z5}(h:a.toSpec=sp):a.top<7:=by have:=b.top;rw[show a.top=sp.top by rw[<-h]];exact this
def qS(e:Vk x s m sp)(B:N' Q mn x c rest S H s k sp){φ:Nat}{a:Z5}(C:Ja Q mn x c rest S H s m k sp φ)(r:a.toSpec=sp){b d:Bool}{g τ:Int}(j:Ob a (.ch k (.act b) .work))(D:d=true->b=true)(P:0<=g)(R:g<=4) :
  Ux Q mn x c rest S H s m (.ch k (.act b) .work) (some (φ,a)) 1 (.code (YN [0] O0)::.code (YN [1] O0)::.inBlock 1::Tv) (YQ m (mwd a) b d g τ++[(7,.z (.int .i32 (QB a.YZ a.wk a.sv a.nw b d)))]):=by
 letI:Z8:=Yg;have i:=e.seq;have af:=zI j;have ag:=I' e r;have ah:=j.YZ;have ai:=j.wk;have aj:=j.sv;have ak:=j.nw;have t:=DH a.YZ J a.wk J a.sv J a.nw J;rw[<-QC]at t;have T:∀(w:Option (Nat×Z5))(env:κ),ε env 0=.z (ptr m 0)->Ux Q mn x c rest S H s m (.ch k .own .work) w 1 [.code Jb] env:=λw env h=>zK e B h;have X:∀(u:Nat)(E:Z5),u<φ->¬UX .i32 (mwd a) 5=0->Ux Q mn x c rest S H s m (.ch k .q .work) (some (u,E)) 1 (.code So::.inBlock 1::Tv) (YQ m (mwd a) b d g τ):=λu E Y Z=>qT e B C Y Z;refine V.Zi (i _ _ _) ?_;unfold O0 PO Sp PQ;refine W.Zs ?_;refine W.part (A:=[]) Τ [0,1,2,3,4] [5] U λaa v=>?_;(try simp);(repeat (rw[Ι];simp[YQ]));(try simp[YQ]);apply v;refine W.stop ?_;refine V.Ga (i _ _ _).here (UI _) (sp:=sp) e.spec (by rw[Zn];exact id) e.ZR ⟨⟨U,U,by simp[Frame.enter],U⟩,F6,⟨_,U⟩,U,U,U⟩ (λn f o hv=>.inl ?_) (λn f o hv=>?_)
 ·
  have F:=o.view φ a QD
  have al:n<φ:=by
   rcases MO n φ with h|h
   .exact h
   exact absurd (by rw[F.2 J]) hv
  unfold VA;rw[Ug];refine V.Zi (i _ _ _) ?_;refine W.ZK ?_;refine ZA ?_;refine Δ U ?_;refine W.Zs ?_;refine XB [0,1,2] [3,4] ?_;refine W.stop ?_;refine V.Kw (i _ _ _).here (sp:=sp) e.spec (by rw[Zn];exact id) ⟨U,U,by simp[Frame.enter],U⟩ U U U Kv U F5 mwd (λa w r ab=>ab.PT (by rw[r];exact e.ZR)) (λp I y=>.inl ?_);have am:=y.view n f QD;have K:=y.US.R9;rw[Zn]at K;unfold VA;rw[Ug];refine V.Zi (i _ _ _) ?_;refine W.part (A:=[]) Τ [4] [] U λaa v=>?_;(try simp);(repeat (rw[Ι];simp));(try simp);apply v;refine W.ZK ?_;refine W.inBlock ?_;refine W.forget (YQ m (mwd I) b d g τ) (by simp[YQ]) (.stop ?_);exact C p I b d g τ J y.spec K D P R
 .have F:=o.view φ a QD
  have L:=o.US.R9;rw[Zn]at L;obtain⟨ad,M,N,O⟩:=zH L j hv;by_cases l:a.YZ=0/\a.sv=0
  .refine⟨{f with YZ:=1,wk:=if b then 0 else f.wk},.ch k .own .work,?_,U,⟨U,U,U⟩,by rw[Zn];exact .acq J J,λp ae=>?_⟩
   .simp[QB,QC,M,N,O,l.1,l.2]
   rw[Ww];rw[l.1,l.2]at t;refine V.Zi (i _ _ _) ?_;refine W.ZK ?_;refine ZA ?_;refine Β U ?_;refine V0 t ?_;refine W.exit U (.stop ?_);exact T _ _ U
  have an:a.YZ=1\/a.sv=1:=J
  refine⟨{f with nw:=f.nw+1,wk:=if b then 0 else f.wk,sv:=if(d&&decide (a.YZ=1)) then 1 else f.sv},.ch k .q .work,?_,U,⟨U,U,U⟩,by rw[Zn];exact .queue (d&&decide (a.YZ=1)) J (λh=>by simp at h;exact⟨D h.1,J⟩),λp ae=>?_⟩
  .simp only[QB,if_neg l,QC,ad,M,N,O];simp
  rw[Ww];refine V.Zi (i _ _ _) ?_;refine W.ZK ?_;refine ZA ?_;refine Β U ?_;refine W.forget (YQ m (mwd a) b d g τ) (by simp[YQ]) (.stop ?_);exact X p _ J J
def qR(f:Vk x s m sp){φ:Nat}{b g:Bool}{a τ:Int}{h:Nat}{l:Z5}(C:0<=a)(D:a<4)
  (t:∀(n:Nat)(e:Z5),n<=h->e.toSpec=sp->Ob e (.ch k (.act b) .work)->Ux Q mn x c rest S H s m (.ch k (.act b) .work) (some (n,e)) 1 Tv (YQ m (mwd e) b g (a+1) τ)) :
  Ux Q mn x c rest S H s m (.ch k (.act b) .work) (some (h,l)) 1 (.code (YN [0,0,1,0,1,0] Sp)::.code (YN [0,0,1,0,1,1] Sp)::.code PO::.inBlock 1::Tv) [(0,.z (ptr m 0)),(2,.z (.int .i64 τ)),(3,.z (.bool g)),(4,.z (.bool b)),(5,.z (.int .i64 a))]:=by
 letI:Z8:=Yg;have d:=f.seq;have o:IntKind.i64.wrap (a+1)=a+1:=by simp only[IntKind.wrap_i64];omega
 refine V.Zi (d _ _ _) ?_;unfold Sp PQ;refine ZA ?_;refine W.Zs (.stop ?_);refine V.F8 (d _ _ _) (vs:=[]) ⟨⟨U,U,by simp[Frame.enter],U⟩,q2,⟨_,U⟩,U,U,U⟩ ?_;refine V.Zi (d _ _ _) ?_;refine W.ZK ?_;refine ZA ?_;refine Yz λu i=>?_;(try simp);(repeat (rw[Ι];simp[o]));(try simp[o]);apply i;refine ZA ?_;refine W.Zs ?_;refine XB [0,1,2] [3,4] ?_;refine W.stop ?_;refine V.Kw (d _ _ _).here (sp:=sp) f.spec (by rw[Zn];exact id) ⟨U,U,by simp[Frame.enter],U⟩ U U U Kv U F5 mwd (λE w v y=>y.PT (by rw[v];exact f.ZR)) (λB p j=>.inl ?_);have F:=j.view h l QD;have r:=j.US.R9;rw[Zn]at r;unfold VA;rw[Ug];refine V.Zi (d _ _ _) ?_;refine W.part (A:=[]) Τ [4] [] U λu i=>?_;(try simp);(repeat (rw[Ι];simp));(try simp);apply i;refine W.ZK ?_;refine W.exit U ?_;refine W.forget (YQ m (mwd p) b g (a+1) τ) (by simp[YQ]) (.stop ?_);exact t B p J j.spec r
def qQ(r:Vk x s m sp)(am:N' Q mn x c rest S H s k sp):∀(N φ:Nat)(a:Z5)(g e:Bool)(d τ:Int),φ*8+(4-d).toNat<N->a.toSpec=sp->Ob a (.ch k (.act g) .work)->(e=true->g=true)->0<=d->d<=4->
  Ux Q mn x c rest S H s m (.ch k (.act g) .work) (some (φ,a)) 1 (.code Sp::Tv) (YQ m (mwd a) g e d τ):=by
 letI:Z8:=Yg;have t:=r.seq;intro N
 induction N with
 | zero=>intro φ a g e d τ h;omega
 | succ N an=>
  intro φ a g e d τ ay Z u B aa ao;have ap:=zI u;have az:=I' r Z;have aA:=u.YZ;have aB:=u.wk;have aC:=u.sv;have aD:=u.nw;have C:=DH a.YZ J a.wk J a.sv J a.nw J;have Υ:=F7 a.YZ J a.wk J a.sv J a.nw J;have O:=q' a.YZ J a.wk J a.sv J a.nw J;have D:=DD a.YZ J a.wk J a.sv J a.nw J;rw[<-QC]at C Υ D O;have ab:∀(n:Nat)(i:Z5)(f v:Bool)(p E:Int),n*8+(4-p).toNat<N->i.toSpec=sp->Ob i (.ch k (.act f) .work)->(v=true->f=true)->0<=p->p<=4->
    Ux Q mn x c rest S H s m (.ch k (.act f) .work) (some (n,i)) 1 Tv (YQ m (mwd i) f v p E):=λn i f v p E K L F j w P=>by
   have:=an n i f v p E K L F j w P;refine V.Ys (t _ _ _) U ?_;exact W.inLoop (.stop this)
  have aq:Ja Q mn x c rest S H s m k sp φ:=λn i f v p E K L F j w P=>ab n i f v p E J L F j w P
  have ad:Ux Q mn x c rest S H s m (.ch k (.act g) .work) (some (φ,a)) 1 (.code PO::.inBlock 1::Tv) (YQ m (mwd a) g e d τ):=by
   rw[QC];exact qW r J J J J ap B (by rw[<-QC];exact qS r am aq Z u B aa ao)
  have I:∀(R:Nat)(ae:Z5)(f:Bool),d<4->(R<=φ)->(e=true->f=true)->Ux Q mn x c rest S H s m (.ch k (.act f) .work) (some (R,ae)) 1 (.code (YN [0,0,1,0,1,0] Sp)::.code (YN [0,0,1,0,1,1] Sp)::.code PO::.inBlock 1::Tv) [(0,.z (ptr m 0)),(2,.z (.int .i64 τ)),(3,.z (.bool e)),(4,.z (.bool f)),(5,.z (.int .i64 d))]:=λR ae f K L F=>
   qR r (φ:=φ) aa K λn i af ag T=>ab n i f e (d+1) τ J ag T F J J
  refine V.Zi (t _ _ _) ?_;unfold Sp PQ;refine ZA ?_;by_cases ah:a.YZ=1/\a.sv=0
  .rw[ah.1,ah.2]at C;refine W.Zs ?_;refine W.part (A:=[]) Τ [0,1,2,3,4] [5,6] U λl b=>?_;(try simp);(repeat (rw[Ι];simp[YQ,C]));(try simp[YQ,C]);apply b;refine W.stop ?_;refine V.canSpin (t _ _ _) ⟨⟨U,U,by simp[Frame.enter],U⟩,q3,⟨_,U⟩,U,U,U⟩ λy ar=>?_;refine V.Zi (t _ _ _) ?_;refine W.part (A:=[]) Τ [6] [] U λl b=>?_;(try simp);(repeat (rw[Ι];simp[YQ]));(try simp[YQ]);apply b;refine W.ZK ?_;cases y with
   | false=>
    refine Δ U ?_
    first|apply We|apply Wd|apply Wc|apply wd
    refine W.forget (YQ m (mwd a) g e d τ) (by simp[YQ]) (.stop ?_);exact ad
   | true=>
    have j:=ar U;refine Β U ?_;refine ZA ?_;cases g with
    | true=>
     (repeat (first|apply We|apply Wd|apply Wc|apply wd|refine Β rfl ?_|refine Δ rfl ?_|(refine Yz λl b=>?_;simp;(repeat (rw[Ι];simp[YQ]));apply b)));refine W.forget [(0,.z (ptr m 0)),(2,.z (.int .i64 τ)),(3,.z (.bool e)),(4,.z (.bool true)),(5,.z (.int .i64 d))] o (.stop ?_);exact I φ a true j (Z3 _) (λ_=>rfl)
    | false=>
     by_cases ai:a.wk=0
     .by_cases X:a.nw=0
      .rw[ai]at Υ;rw[X]at D;(repeat (first|apply We|apply Wd|apply Wc|apply wd|refine Β rfl ?_|refine Δ rfl ?_|(refine Yz λl b=>?_;simp;(repeat (rw[Ι];simp[YQ,Υ,D]));apply b)));refine W.forget [(0,.z (ptr m 0)),(2,.z (.int .i64 τ)),(3,.z (.bool e)),(4,.z (.bool false)),(5,.z (.int .i64 d))] o (.stop ?_);exact I φ a false j (Z3 _) B
      rw[ai]at Υ;have aj:((a.nw:Int) != 0)=true:=by simp;omega
      refine W.Zs ?_;refine W.part (A:=[]) Τ [0,1,2,3,4,5,6,7,8,9,10,11,12,13,14,15,16,17,18] [19,20] U λl b=>?_;(try simp);(repeat (rw[Ι];simp[YQ,Υ,D,O,X,aj]));(try simp[YQ,Υ,D,O,X,aj]);apply b;refine W.stop ?_;refine V.Ga (t _ _ _).here (UI _) (sp:=sp) r.spec (by rw[Zn];exact id) r.ZR ⟨⟨U,U,by simp[Frame.enter],U⟩,F6,⟨_,U⟩,U,U,U⟩ (λak Y M hv=>.inl ?_) (λak Y M hv=>?_)
      .have au:=M.view φ a QD;unfold VA;rw[Ug];refine V.Zi (t _ _ _) ?_;refine W.part (A:=[]) Τ [20] [] U λl b=>?_;(try simp);(repeat (rw[Ι];simp[YQ]));(try simp[YQ]);apply b;refine W.ZK ?_;refine Δ U ?_;refine ZA ?_;refine W.forget [(0,.z (ptr m 0)),(2,.z (.int .i64 τ)),(3,.z (.bool e)),(4,.z (.bool false)),(5,.z (.int .i64 d))] (by simp[YQ]) (.stop ?_);exact I ak Y false j J B
      have au:=M.view φ a QD
      have al:=M.US.R9;rw[Zn]at al;obtain⟨af,ag,T,av⟩:=zH al u hv;refine⟨{Y with wk:=1},.ch k (.act true) .work,?_,U,⟨U,U,U⟩,by rw[Zn];exact .wN J J J J,λaw aE=>?_⟩
      .simp[QC,af,T,av]
      rw[Ww];refine V.Zi (t _ _ _) ?_;refine W.part (A:=[]) Τ [20] [] U λl b=>?_;(try simp);(repeat (rw[Ι];simp[YQ]));(try simp[YQ]);apply b;refine W.ZK ?_;refine Β U ?_;refine Yz λl b=>?_;(try simp);(repeat (rw[Ι];simp[YQ]));(try simp[YQ]);apply b;refine ZA ?_;refine W.forget [(0,.z (ptr m 0)),(2,.z (.int .i64 τ)),(3,.z (.bool e)),(4,.z (.bool true)),(5,.z (.int .i64 d))] (by simp[YQ]) (.stop ?_);exact I aw _ true j J (λ_=>rfl)
     have ax:a.wk=1:=J
     rw[ax]at Υ;(repeat (first|apply We|apply Wd|apply Wc|apply wd|refine Β rfl ?_|refine Δ rfl ?_|(refine Yz λl b=>?_;simp;(repeat (rw[Ι];simp[YQ,Υ]));apply b)));refine W.forget [(0,.z (ptr m 0)),(2,.z (.int .i64 τ)),(3,.z (.bool e)),(4,.z (.bool false)),(5,.z (.int .i64 d))] o (.stop ?_);exact I φ a false j (Z3 _) B
  have w:¬UX .i32 (mwd a) 5=1:=by rw[C];omega
  refine Yz λl b=>?_;(try simp);(repeat (rw[Ι];simp[YQ,w]));(try simp[YQ,w]);apply b;refine Δ U ?_
  first|apply We|apply Wd|apply Wc|apply wd
  refine W.forget (YQ m (mwd a) g e d τ) (by simp[YQ]) (.stop ?_);exact ad
def qP(a:Vk x s m sp):zL Q mn x s m k sp:=by
 intro c rest S B σ H v j l;letI:Z8:=Yg;have b:=a.seq;have n:=λφ d o p e τ r t u y C=>qQ a l (φ*8+(4-e).toNat+1) φ d o p e τ (Qf _) r t u y C;refine V.PR (z:=one _) (vs:=[ptr m 0]) func170 U j (by simp[ntmps170]) ?_ _ U;refine V.Zi (b _ _ _) ?_;refine V1 ?_;refine W.Zs ?_;refine XB [0,1,2] [3,4] ?_;refine W.stop ?_;refine V.Kw (b _ _ _).here (sp:=sp) a.spec (by rw[Zn];exact id) ⟨U,U,by simp[Frame.enter],U⟩ U U U Kv U F5 mwd (λd w D E=>E.PT (by rw[D];exact a.ZR)) (λF f g=>.inl ?_);have i:=g.US.R9;rw[Zn]at i;unfold VA;rw[Ug];refine V.Zi (b _ _ _) ?_;refine W.part (A:=[]) Τ [4] [] U λK I=>?_;(try simp);(repeat (rw[Ι];simp));(try simp);apply I;refine W.ZK ?_;refine ZA ?_;refine W.loop ?_;refine W.forget (YQ m (mwd f) false false 0 0) (by simp[YQ]) (.stop ?_);exact n F f false false 0 0 g.spec i (λh=>by cases h) J J
def zG(a:Vk x s m sp)(e:Holds S B σ H)(f:N' Q mn x c rest S H s k sp):Zx prog Q mn (ZW x s (.ch k .idle .work) v 0) (Frame.enter prog 78 #[ptr m 0] .normal) (c::rest) H:=by
 letI:Z8:=Yg;have b:=a.seq;refine V.PR (z:=one _) (vs:=[ptr m 0]) func78 U e (by simp[ntmps78]) ?_ _ U;refine V.Zi (b _ _ _) ?_;refine ZA ?_;refine W.Zs ?_;refine XB [0,1,2] [3] ?_;refine W.stop ?_;refine V.call (b _ _ _) ⟨U,U,by simp[Frame.enter],U⟩ U U U ⟨_,func127,U,U⟩ λu g w t1 A h d hv=>?_;obtain rfl:=V8 (l:=[ptr m 0]) hv;obtain rfl:g=[]:=YY.1 d.holds.len;rintro y rfl;refine qX a d.holds (qP a) λi j L E n o p r t=>?_;rw[VQ U];refine Zx.leave0 (b _ _ _) U U U U func78 U ?_;exact f i j L E (h.ext.trans n) o p r t
end
end Go.TL
