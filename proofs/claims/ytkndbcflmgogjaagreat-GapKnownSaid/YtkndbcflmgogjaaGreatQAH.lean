import Derived.Conc.AtomicLaws2
import Derived.Conc.ClockLaws
import Derived.Conc.MarkLaws
import Derived.Conc.QuitsD
import Derived.Conc.SmallLaws
import Derived.Test.YtkndbcflmgogjaaGreatQAG
set_option maxHeartbeats 16000000
set_option maxRecDepth 20000
set_option linter.unusedSectionVars false
set_option linter.unusedSimpArgs false
set_option linter.unusedVariables false
namespace Go.TL
open Go.Proofs.Tryz
open Go.Proofs
variable [Z1]
abbrev Yv (r:Int×Int):Ψ×Ψ:=(Zb r,ZV true)
theorem tk (x y:Int×Int):aeqv ξ 246 (Zb x) (Zb y)=some (decide (x=y)):=by
 simp[aeqv,VH,Uc];rw[Qd];simp[Prod.ext_iff]
theorem tj (r:Int×Int):∀(l:List Xt) (n:Nat),r∉l->WI ξ 246 (Zb r) (l.map Yv) n=some none:=by
 intro l
 induction l with
 | nil=>intro n _;rfl
 | cons x l a=>
  intro n h;simp only[V6,WI];have b:¬r=x:=λe=>h (by simp[e]);have:=tk r x;rw[this,decide_eq_false b];exact a (n+1) λc=>h (by simp[c])
def R1 (i j:Nat):List Xt:=(List.range j).map λy:Nat=>((i:Int)-1,(y:Int)-1)
def UZ (n i:Nat):List Xt:=(List.range i).flatMap λx=>R1 x (n+1)
def EM (n:Nat):List Xt:=UZ n (n+1)
theorem A' (i j:Nat):R1 i (j+1)=R1 i j++[((i:Int)-1,(j:Int)-1)]:=by simp[R1,Q4]
theorem A9 (n i:Nat):UZ n (i+1)=UZ n i++R1 i (n+1):=by simp[UZ,Q4]
theorem G7 {i j:Nat} {r:Int×Int} (h:r∈R1 i j):r.1=(i:Int)-1/\r.2<(j:Int)-1:=by
 unfold R1 at h;obtain⟨y,a,rfl⟩:=Zh.1 h;have:=VN.1 a;exact⟨U,by simp;omega⟩
theorem A8 {n i:Nat} {r:Int×Int} (h:r∈UZ n i):r.1<(i:Int)-1:=by
 unfold UZ at h;obtain⟨x,a,b⟩:=KI.1 h;have:=VN.1 a;have:=(G7 b).1;omega
def R0 (s:Y6) (p:Int×Int) (c:Nat):List Xt:=(EM s.ZN.length).filter λr=>s.Lv p r c
theorem ti (i j:Nat):(R1 i j).Pairwise λx y=>x.1<y.1\/(x.1=y.1/\x.2<y.2):=by
 induction j with
 | zero=>simp[R1]
 | succ j d=>
  rw[A',IZ];refine⟨d,Ω,λa e b c=>?_⟩;simp at c;subst c;have:=G7 e;exact .inr ⟨this.1,by simpa using this.2⟩
theorem th (n i:Nat):(UZ n i).Pairwise λx y=>x.1<y.1\/(x.1=y.1/\x.2<y.2):=by
 induction i with
 | zero=>simp[UZ]
 | succ i c=>
  rw[A9,IZ];refine⟨c,ti _ _,λa d b e=>.inl ?_⟩;have:=A8 d;have:=(G7 e).1;omega
theorem tg (s:Y6) (p:Int×Int) (c:Nat):(R0 s p c).Pairwise λx y=>x.1<y.1\/(x.1=y.1/\x.2<y.2):=(th _ _).filter _
def EL (N:Nat):Prop:=∀(l:List Xt),l.length<=N->Μ prog 223 [.ms 0 l.length 0 l.length,.fn (.func 224) [] []] [.cells 246 2 (l.map Zb)] (λr s=>r=.ε []/\s=[.cells 246 2 ((l.mergeSort TC).map Zb)]) (λ_ _=>False)
theorem tf:EL 12:=λl a=>by
 have h:=tX l.toArray l.length Ω a (.fn (.func 224) [] []) QK (by simp[S9]) (λx y=>Τ.p (uh x y) (Zw.refl _) Ω Ω);rw[EN G8 tu l] at h;exact h
def TB (q:Int×Int->Bool) (n i j:Nat):List Xt:=(UZ n i++R1 i j).filter q
theorem tc {q:Int×Int->Bool} {n:Nat}:TB q n 0 0=[]:=by simp[TB,UZ,R1]
theorem ta {q:Int×Int->Bool} {n i:Nat}:TB q n i (n+1)=TB q n (i+1) 0:=by simp[TB,A9,R1]
theorem s' {q:Int×Int->Bool} {n i j:Nat}:TB q n i (j+1)=TB q n i j++if q ((i:Int)-1,(j:Int)-1) then [((i:Int)-1,(j:Int)-1)] else []:=by
 unfold TB;rw[A',<-Tq,IV];simp[L8]
theorem s9 {q:Int×Int->Bool} {n:Nat}:TB q n (n+1) 0=(EM n).filter q:=by simp[TB,R1,EM]
theorem s8 {q:Int×Int->Bool} {n i j:Nat}:((i:Int)-1,(j:Int)-1)∉TB q n i j:=by
 unfold TB;rw[To,Uv];rintro⟨h|h,_⟩
 .have:=A8 h;simp at this
 .have:=(G7 h).2;simp at this
def Sw (l:ψ):Ψ:=if l.isEmpty then .sl true 0 [] else .ms 3 l.length 0 l.length
def YU (l:ψ):Ρ:=if l.isEmpty then [] else [.cells 245 1 l]
abbrev Wb:Row:=.cells 173 3 [.Z6 [J 0,J 0,.sl true 0 []]]
abbrev WW (p:Int×Int) (L:ψ):Row:=.cells 173 3 [.Z6 [J p.1,J p.2,Sw L]]
def S1 (id:Nat) (l:ψ):Ψ:=if l.isEmpty then .sl true 0 [] else .ms id l.length 0 l.length
theorem Lr {id:Nat} {l:ψ} (h:l≠[]):S1 id l=.ms id l.length 0 l.length:=by unfold S1;rw[if_neg (by simpa using h)]
theorem s7 {l:ψ}:η ((YU l).length+3) (Sw l):=by
 unfold Sw YU;cases l.isEmpty<;>simp[SB]
theorem s6 {h:Nat} {l:ψ} (d:∀e∈l,∀a∈e.cells,η 0 a):∀r∈YU l,YR h r:=by
 intro r b;unfold YU at b;cases c:l.isEmpty with
 | true=>rw[c] at b;simp at b
 | false=>
  rw[c] at b;simp at b;subst b;exact λe f a g=>(d e f a g).mono (Ζ _)
theorem YR.mono {h j:Nat} {r:Row} (b:YR h r) (d:h<=j):YR j r:=by
 cases r with
 | cells t k l=>exact λe f a g=>(b e f a g).mono d
 | map es=>exact λe f=>⟨(b e f).1.mono d,(b e f).2.mono d⟩
 | iter m left n=>exact⟨KO b.1 d,λe f=>⟨(b.2.1 e f).1.mono d,(b.2.1 e f).2.mono d⟩,λe f=>⟨(b.2.2 e f).1.mono d,(b.2.2 e f).2.mono d⟩⟩
 | str s p=>trivial
 | loop L st u a bd nt env=>exact λi=>(b i).mono d
 | own c o l=>exact λa g=>(b a g).mono d
 | dead=>trivial
theorem s5 {h id:Nat} {l:ψ} (b:l≠[]->id<h):η h (S1 id l):=by
 by_cases a:l=[]
 .subst a;unfold S1;simp
 .rw[Lr a];exact SB.2 (b a)
theorem s4 {b:Type} (l:List b) (i:Nat) (h:i<l.length):(l[i]::l.eraseIdx i).Perm l:=by
 induction l generalizing i with
 | nil=>simp at h
 | cons a l c=>
  cases i with
  | zero=>exact .refl _
  | succ i=>
   simp only[List.getElem_cons_succ,List.eraseIdx_cons_succ];exact(List.Perm.swap _ _ _).trans (.cons a (c i (by simpa using h)))
theorem A7 {h id k:Nat} {t:TypeId} {l:ψ} {σ:Ρ} (c:h<=id) (d:l≠[]->σ[id]?=some (.cells t k l)) (f:∀e∈l,∀a∈e.cells,η h a):Y0 h σ (S1 id l) (VF k l):=by
 by_cases b:l=[]
 .subst b;exact .low (by unfold S1;simp)
 .have e:VF k l=.sl false k l:=by unfold VF;rw[if_neg (by simpa using b)]
  rw[Lr b,e];exact .own c (d b) U f
theorem A6 (k:Nat) (m:ψ):∃b kk l,VF k m=.sl b kk l:=by
 unfold VF;split
 .exact⟨_,_,_,U⟩
 .exact⟨_,_,_,U⟩
theorem s3 (s:Y6) (an:s.small) (aW:s.ZN.length<2 ^ 20) (p:Int×Int) (hv:∀c∈s.cells,∀x∈c,0<=x.Xg/\x.Xg<s.ZF.length) (N:Nat) (aX:N<2 ^ 20) (aB:EL N) (Q:∀c,c<s.cells.length->(R0 s p c).length<=N) :
  Τ prog 182 [Wr s,Zb p] (YE ⟨p.1,p.2,(List.range s.cells.length).map (R0 s p)⟩):=by
 refine Μ.body Ο func182 U U ntmps182 U U Ω ?_
 repeat apply Γ
 refine ZG (A:=[4]) Ο λv g=>Δ ?_;apply g
 repeat apply Γ
 refine ZG (A:=[5]) Ο λv g=>Δ ?_;apply g
 repeat apply Γ
 refine υ λv g=>?_;apply g;refine Φ ?_;have aY:s.cells.length<2 ^ 30:=an.2.2.1;refine W.iter (λc:Nat=>c<=s.cells.length) (λc=>[(2,XP s),(3,.Ν [J p.1,J p.2]),(4,.π 0 1 0 0),(5,.π 1 1 0 0),(6,.mp 2),(19,J s.cells.length),(20,J c)])
  (λc=>Wb::WW p ((List.range c).map λc=>VF 2 ((R0 s p c).map Zb))::.map []::YU ((List.range c).map λc=>VF 2 ((R0 s p c).map Zb))) (λc=>s.cells.length-c) 0 (Ζ _) (by simp[Sw,YU]) Ω (λc ad F=>?_)
 obtain⟨L,H⟩:=Z' ((List.range c).map λc=>VF 2 ((R0 s p c).map Zb));refine W.to (σ':=Wb::WW p L::.map []::YU L) (env':=[(2,XP s),(3,.Ν [J p.1,J p.2]),(4,.π 0 1 0 0),(5,.π 1 1 0 0),(6,.mp 2),(19,J s.cells.length),(20,J c)]) ?_ (by rw[H]) Ω;refine Φ ?_;refine W.Yl U (λad=>?_) (λad=>?_)
 .have ae:c<s.cells.length:=by simpa using ad
  refine Φ ?_;obtain⟨n,S⟩:=Z' s.ZN.length;have aZ:n<2 ^ 20:=I;obtain⟨q,ao⟩:=Z' (λr=>s.Lv p r c:Int×Int->Bool);have O:∀e∈L,∀a∈e.cells,η 0 a:=by
   rw[H];intro e m a o;obtain⟨x,_,rfl⟩:=Zh.1 m;unfold VF at o;split at o<;>simp[Ψ.cells] at o<;>subst o<;>simp
  have T:∀(M:List Xt) (h:Nat),YR h (.map (M.map Yv)):=λM h e m=>by
   obtain⟨x,_,rfl⟩:=Zh.1 m;simp
  have C:∀M:List Xt,∀r∈Wb::WW p L::.map (M.map Yv)::YU L,YR (Wb::WW p L::.map (M.map Yv)::YU L).length r:=λM r w=>by
   simp only[Yd] at w;rcases w with rfl|rfl|rfl|w
   .simp[YR,Ψ.cells]
   .simp[YR,Ψ.cells];exact s7
   .exact T M _
   .exact s6 O r w
  refine W.iter (λi:Nat=>i<=n+1) (λi=>[(2,XP s),(3,.Ν [J p.1,J p.2]),(4,.π 0 1 0 0),(5,.π 1 1 0 0),(6,.mp 2),(19,J s.cells.length),(20,J c),(7,J c),(8,J ((i:Int)-1))])
   (λi=>Wb::WW p L::.map ((TB q n i 0).map Yv)::YU L) (λi=>n+1-i) 0 (Ζ _) (by rw[tc];rfl) Ω (λi hi V=>?_)
  refine Φ ?_;by_cases a0:i<n+1
  .refine Ι (by simp[<-S];omega) ?_;refine Φ ?_;refine W.iter (λj:Nat=>j<=n+1) (λj=>[(2,XP s),(3,.Ν [J p.1,J p.2]),(4,.π 0 1 0 0),(5,.π 1 1 0 0),(6,.mp 2),(19,J s.cells.length),(20,J c),(7,J c),(8,J ((i:Int)-1)),(9,J ((j:Int)-1))])
    (λj=>Wb::WW p L::.map ((TB q n i j).map Yv)::YU L) (λj=>n+1-j) 0 (Ζ _) U Ω (λj a1 ap=>?_)
   refine Φ ?_;by_cases a2:j<n+1
   .refine Ι (by simp[<-S];omega) ?_
    repeat apply Γ
    obtain⟨M,af⟩:=Z' (TB q n i j);refine W.to (σ':=Wb::WW p L::.map (M.map Yv)::YU L) (env':=[(2,XP s),(3,.Ν [J p.1,J p.2]),(4,.π 0 1 0 0),(5,.π 1 1 0 0),(6,.mp 2),(19,J s.cells.length),(20,J c),(7,J c),(8,J ((i:Int)-1)),(9,J ((j:Int)-1))]) ?_ (by rw[af]) Ω;have aC:WI ξ 246 (.Z6 [J ((i:Int)-1),J ((j:Int)-1)]) (M.map Yv) 0=some none:=tj _ M 0 (by rw[af];exact s8);have al:∀es,U3 (Wb::WW p L::.map es::YU L) 2=true:=λes=>by unfold YU;cases L.isEmpty<;>simp[U3]
    refine ZG (A:=[10]) Ο λv g=>Δ ?_;apply g;refine W.QH (σ0:=Wb::WW p L::.map (M.map Yv)::YU L) (Ζ _) (C M) Ω [(10,.Ν [J ((i:Int)-1),J ((j:Int)-1)]),(2,XP s),(3,.Ν [J p.1,J p.2]),(4,.π 0 1 0 0),(5,.π 1 1 0 0),(6,.mp 2),(19,J s.cells.length),(20,J c),(7,J c),(8,J ((i:Int)-1)),(9,J ((j:Int)-1))] (by simp[TF,Hv]) ?_;have aq:=Yk (show j<2 ^ 62 by omega);refine υ λv g=>?_;refine Τ.c (um s an p ((i:Int)-1,(j:Int)-1) c ae (hv _ (Yq ae)) (by simp;omega) (by simp;omega)) (Zw.refl _) Ω Ω ?_;simp;(repeat (rw[Η];simp));apply g;have aD:s.Lv p ((i:Int)-1,(j:Int)-1) c=q ((i:Int)-1,(j:Int)-1):=by rw[ao]
    rw[aD];have ag:=s' (q:=q) (n:=n) (i:=i) (j:=j);cases ar:q ((i:Int)-1,(j:Int)-1)
    .refine Κ U ?_;refine Z9 aq ?_;rw[ar] at ag;refine W.to (ap (j+1) I I) ?_ ?_
     .rw[ag,af];simp
     .simp
    .refine Ι U ?_
     repeat apply Γ
     refine YF λv g=>?_;simp;(repeat (rw[Η];simp[aC,al,-U3]));apply g;refine Z9 aq ?_;rw[ar] at ag;refine W.to (ap (j+1) I I) ?_ ?_
     .rw[ag,af];simp
     .simp
   .refine Κ (by simp[<-S];omega) ?_;refine W.exit U ?_;have aE:j=n+1:=I;subst aE;refine Φ ?_;refine W.to (V (i+1) I I) ?_ ?_
    .rw[ta]
    .have:=Yk (show i<2 ^ 62 by omega);simp[this]
  .refine Κ (by simp[<-S];omega) ?_;refine W.exit U ?_;have aF:i=n+1:=I;subst aF;obtain⟨d,ah⟩:=Z' (R0 s p c);have aG:TB q n (n+1) 0=d:=by rw[s9,ah,ao,S];rfl
   rw[aG];have aH:d.length<=N:=by rw[ah];exact Q c ae
   refine W.to (σ':=Wb::WW p L::.map (d.map Yv)::YU L) (env':=[(2,XP s),(3,.Ν [J p.1,J p.2]),(4,.π 0 1 0 0),(5,.π 1 1 0 0),(6,.mp 2),(19,J s.cells.length),(20,J c),(7,J c)]) ?_ U Ω;refine Φ ?_;refine W.iter (λx:List Xt×List Xt×Option (Ψ×Ψ)=>(x.1++x.2.1).Perm d/\(x.2.2=none\/∃y,x.2.2=some (Yv y)))
    (λx=>[(2,XP s),(3,.Ν [J p.1,J p.2]),(4,.π 0 1 0 0),(5,.π 1 1 0 0),(6,.mp 2),(19,J s.cells.length),(20,J c),(7,J c),(11,S1 ((YU L).length+1+1+1+1) (x.1.map Zb)),(50,.it ((YU L).length+1+1+1))])
    (λx=>Wb::WW p L::.map (d.map Yv)::(YU L++(.iter 2 (x.2.1.map Yv) x.2.2::XO 246 2 (x.1.map Zb)))) (λx=>x.2.1.length) ([],d,none) ⟨Ω,.inl U⟩ (by simp[XO]) (by simp[S1]) (λx ai X=>?_)
   obtain⟨K,R,aj⟩:=x;obtain⟨ak,aI⟩:=ai;simp only at ak aI
   repeat apply Γ
   cases R with
   | nil=>
    refine υ λv g=>?_;apply g
    repeat apply Γ
    refine Κ U ?_;refine W.exit U ?_;have D:K.Perm d:=by simpa using ak
    repeat apply Γ
    have au:K.length<=N:=by rw[D.length_eq];exact aH
    have aJ:K.mergeSort TC=d:=by
     rw[ah] at D ⊢;exact tt D (tg s p c)
    refine W.S4 (A:=[]) Ο [(2,XP s),(3,.Ν [J p.1,J p.2]),(4,.π 0 1 0 0),(5,.π 1 1 0 0),(6,.mp 2),(19,J s.cells.length),(20,J c),(11,S1 ((YU L).length+1+1+1+1) (d.map Zb))]
     (Wb::WW p L::.map (d.map Yv)::(YU L++(.iter 2 [] aj::XO 246 2 (d.map Zb)))) ?_ (by
     clear X V F C T Q hv O;by_cases f:K=[]
     .subst f;have aK:d=[]:=D.symm.eq_nil;rw[aK];simp only[L7,PO,show S1 ((YU L).length+1+1+1+1) []=.sl true 0 [] from rfl];simp;(repeat (rw[Η];simp));refine Τ.c (tp _ (by simp[S9])) (Zw.refl _) (by simp[S9]) Ω ?_;simp;(repeat (rw[Η];simp));(try simp)
     .have Y:K.map Zb≠[]:=by simpa using f
      have aL:d≠[]:=λe=>f (by rw[e] at D;exact D.eq_nil)
      have av:d.map Zb≠[]:=by simpa using aL
      rw[Lr Y,Sx Y,Lr av,Sx av];simp;(repeat (rw[Η];simp));have aw:η 0 (.fn (.func 224) [] []):=by simp[S9]
      refine Μ.one (aB K au) ((YU L).length+1+1+1+1) Ω (PS MK) (PS MK) (by simp[T9,aw.PT 1]) (by simp[WR]) (by simp[T8,aw.X5 [(YU L).length+1+1+1+1]]) ?_;simp[X5,V1];(repeat (rw[Η];simp));(try simp[aJ,D.length_eq]))
    refine W.cut ((YU L).length+1+1+1) (Ζ _) [(2,XP s),(3,.Ν [J p.1,J p.2]),(4,.π 0 1 0 0),(5,.π 1 1 0 0),(6,.mp 2),(19,J s.cells.length),(20,J c),(11,VF 2 (d.map Zb))] Ω (λid r ax w=>?_) ?_ ?_
    .refine C d r ?_;have e:Wb::WW p L::.map (d.map Yv)::(YU L++(.iter 2 [] aj::XO 246 2 (d.map Zb)))=(Wb::WW p L::.map (d.map Yv)::YU L)++(.iter 2 [] aj::XO 246 2 (d.map Zb)):=Ω;rw[e,YN (by simpa using ax)] at w;exact ZH w
    .have aM:Y0 ((YU L).length+1+1+1) (Wb::WW p L::.map (d.map Yv)::(YU L++(.iter 2 [] aj::XO 246 2 (d.map Zb)))) (S1 ((YU L).length+1+1+1+1) (d.map Zb)) (VF 2 (d.map Zb)):=A7 (t:=246) I (λZ=>by rw[Sx Z];simp) (λe m a o=>by
      obtain⟨z,_,rfl⟩:=Zh.1 m;exact(MK z a o).mono (Ζ _))
     intro z f;simp only[Yd,Vw,or_false] at f;rcases f with rfl|rfl|rfl|rfl|rfl|rfl|rfl|rfl
     all_goals first|exact aM|exact .low (by simp[TF,Hv])
    .obtain⟨B,aa⟩:=Z' (L++[VF 2 (d.map Zb)]);have a3:L.length<2 ^ 30:=by rw[H];simp;omega
     refine W.to (σ':=Wb::WW p L::.map (d.map Yv)::YU L) (env':=[(2,XP s),(3,.Ν [J p.1,J p.2]),(4,.π 0 1 0 0),(5,.π 1 1 0 0),(6,.mp 2),(19,J s.cells.length),(20,J c),(11,VF 2 (d.map Zb))]) ?_ Ω Ω
     repeat apply Γ
     refine W.S4 (A:=[65]) Ο [(2,XP s),(3,.Ν [J p.1,J p.2]),(4,.π 0 1 0 0),(5,.π 1 1 0 0),(6,.mp 2),(19,J s.cells.length),(20,J c)] (Wb::WW p B::.map (d.map Yv)::YU B) ?_ (by
      clear X V F C T Q hv;obtain⟨ay,az,sl,aN⟩:=A6 2 (d.map Zb);rw[aN] at aa ⊢;by_cases f:L=[]
      .have aO:B=[.sl ay az sl]:=by rw[aa,f];rfl
       rw[aO];subst f;simp only[WW,YU,Sw,List.isEmpty_nil,List.isEmpty_cons,if_true,if_false];(try simp);(repeat (rw[Η];simp));(try simp)
      .have ab:L.length<=4294967295:=I
       have c1:Sw L=.ms 3 L.length 0 L.length:=by unfold Sw;rw[if_neg (by simpa using f)]
       have c2:YU L=[.cells 245 1 L]:=by unfold YU;rw[if_neg (by simpa using f)]
       have aP:Sw B=.ms 3 (L.length+1) 0 (L.length+1):=by rw[aa];unfold Sw;rw[if_neg Ω];simp
       have aQ:YU B=[.cells 245 1 (L++[.sl ay az sl])]:=by rw[aa];unfold YU;rw[if_neg Ω]
       simp only[WW];rw[c1,c2,aP,aQ];(try simp);(repeat (rw[Η];simp[ab]));(try simp[ab]))
     have al:∀es,U3 (Wb::WW p B::.map es::YU B) 2=true:=λes=>by unfold YU;cases B.isEmpty<;>simp[U3]
     repeat apply Γ
     refine YF λv g=>?_;simp;(repeat (rw[Η];simp[al,-U3]));apply g;refine Φ ?_;have aR:B=(List.range (c+1)).map λc=>VF 2 ((R0 s p c).map Zb):=by rw[aa,H,ah,Q4];simp
     refine W.to (F (c+1) I I) ?_ ?_
     .rw[<-aR]
     .simp[Y9 ae (show s.cells.length<2 ^ 62 by omega)]
   | cons y R=>
    refine υ λv g=>?_;intro i hi;obtain⟨x,ai⟩:=Z' ((y::R)[i]'(by simpa using hi));have aS:(Yv y::List.map Yv R)[i]?=some (Yv x):=by
     have:(List.map Yv (y::R))[i]?=some (Yv x):=by
      rw[Ys,Z4 (by simpa using hi),ai];rfl
     simpa using this
    have aT:(Yv y::List.map Yv R).eraseIdx i=((y::R).eraseIdx i).map Yv:=by
     exact G9 Yv (y::R) i
    rw[aS,aT];simp;(repeat (rw[Η];simp));apply g
    repeat apply Γ
    refine Ι U ?_
    repeat apply Γ
    refine ZG (A:=[12]) Ο λv g=>Δ ?_;apply g;have am:∀r∈Wb::WW p L::.map (d.map Yv)::(YU L++(.iter 2 (((y::R).eraseIdx i).map Yv) (some (Yv x))::XO 246 2 (K.map Zb))),YR (Wb::WW p L::.map (d.map Yv)::(YU L++(.iter 2 (((y::R).eraseIdx i).map Yv) (some (Yv x))::XO 246 2 (K.map Zb)))).length r:=by
     intro r w;have u:r∈Wb::WW p L::.map (d.map Yv)::YU L\/r∈(.iter 2 (((y::R).eraseIdx i).map Yv) (some (Yv x))::XO 246 2 (K.map Zb)):=by
      have:r∈(Wb::WW p L::.map (d.map Yv)::YU L)++(.iter 2 (((y::R).eraseIdx i).map Yv) (some (Yv x))::XO 246 2 (K.map Zb)):=by simpa using w
      exact Uv.1 this
     rcases u with u|u
     .exact YR.mono (C d r u) Ω
     .rcases Yd.1 u with rfl|u
      .refine⟨Ω,λe m=>?_,λe m=>?_⟩
       .obtain⟨z,_,rfl⟩:=Zh.1 m;simp
       .cases m;simp
      .unfold XO at u;split at u
       .simp at u
       .simp at u;subst u;intro e m a o;obtain⟨z,_,rfl⟩:=Zh.1 m;simp[Ψ.cells] at o;rcases o with rfl|rfl<;>simp
    refine W.to (σ':=(Wb::WW p L::.map (d.map Yv)::(YU L++(.iter 2 (((y::R).eraseIdx i).map Yv) (some (Yv x))::XO 246 2 (K.map Zb))))++[.cells 246 2 [Zb x]]) (env':=[(12,.π (Wb::WW p L::.map (d.map Yv)::(YU L++(.iter 2 (((y::R).eraseIdx i).map Yv) (some (Yv x))::XO 246 2 (K.map Zb)))).length 1 0 0),(2,XP s),(3,.Ν [J p.1,J p.2]),(4,.π 0 1 0 0),(5,.π 1 1 0 0),(6,.mp 2),(19,J s.cells.length),(20,J c),(7,J c),(11,S1 ((YU L).length+1+1+1+1) (K.map Zb)),(50,.it ((YU L).length+1+1+1))]) ?_ Ω Ω;refine W.QH (σ0:=Wb::WW p L::.map (d.map Yv)::(YU L++(.iter 2 (((y::R).eraseIdx i).map Yv) (some (Yv x))::XO 246 2 (K.map Zb)))) (Ζ _) am Ω [(12,.Ν [J x.1,J x.2]),(2,XP s),(3,.Ν [J p.1,J p.2]),(4,.π 0 1 0 0),(5,.π 1 1 0 0),(6,.mp 2),(19,J s.cells.length),(20,J c),(7,J c),(11,S1 ((YU L).length+1+1+1+1) (K.map Zb)),(50,.it ((YU L).length+1+1+1))] (by
     have aU:=s5 (h:=(YU L).length+((XO 246 2 (K.map Zb)).length+1)+1+1+1) (id:=(YU L).length+1+1+1+1) (l:=K.map Zb) (λZ=>by rw[Sx Z];simp);clear X V F C am T Q hv O;simp[TF,Hv,Fb,aU]
     ) ?_
    repeat apply Γ
    have au:K.length<2 ^ 20:=by
     have:=ak.length_eq;simp at this;omega
    refine W.S4 (A:=[58]) Ο [(2,XP s),(3,.Ν [J p.1,J p.2]),(4,.π 0 1 0 0),(5,.π 1 1 0 0),(6,.mp 2),(19,J s.cells.length),(20,J c),(7,J c),(11,S1 ((YU L).length+1+1+1+1) ((K++[x]).map Zb)),(50,.it ((YU L).length+1+1+1))]
     (Wb::WW p L::.map (d.map Yv)::(YU L++(.iter 2 (((y::R).eraseIdx i).map Yv) (some (Yv x))::XO 246 2 ((K++[x]).map Zb)))) ?_ (by
     clear X V F C am T Q hv O;by_cases f:K=[]
     .subst f;simp only[L7,PO,show S1 ((YU L).length+1+1+1+1) []=.sl true 0 [] from rfl];(try simp);(repeat (rw[Η];simp[PO]));(try simp[PO]);exact⟨U,U⟩
     .have ab:K.length<=4294967295:=I
      have Y:K.map Zb≠[]:=by simpa using f
      rw[Lr Y,Sx Y];(try simp);(repeat (rw[Η];simp[ab]));(try simp[ab]);rw[Sx Ω,Lr Ω];simp)
    refine Φ ?_;have aA:(x::(y::R).eraseIdx i).Perm (y::R):=by
     rw[ai];exact s4 _ _ _
    refine W.to (X (K++[x],(y::R).eraseIdx i,some (Yv x)) ⟨?_,.inr ⟨x,U⟩⟩ ?_) Ω Ω
    .simp only[Tq,List.singleton_append];exact(aA.append_left K).trans ak
    .have:=aA.length_eq;simp at this;simp only[List.length_cons];omega
 .have aV:c=s.cells.length:=by simp at ad;omega
  subst aV;refine W.exit U ?_
  repeat apply Γ
  clear F;have O:∀e∈L,∀a∈e.cells,η 0 a:=by
   rw[H];intro e m a o;obtain⟨x,_,rfl⟩:=Zh.1 m;unfold VF at o;split at o<;>simp[Ψ.cells] at o<;>subst o<;>simp
  refine W.S4 (A:=[]) Ο [(4,.π 0 1 0 0)] (.cells 173 3 [.Z6 [J p.1,J p.2,Sw L]]::WW p L::.map []::YU L) ?_ (by
   simp only[WW];by_cases f:L=[]
   .rw[show Sw L=.sl true 0 [] by rw[f];rfl];(try simp);(repeat (rw[Η];simp));(try simp)
   .rw[show Sw L=.ms 3 L.length 0 L.length by unfold Sw;rw[if_neg (by simpa using f)],show YU L=[.cells 245 1 L] by unfold YU;rw[if_neg (by simpa using f)]];(try simp);(repeat (rw[Η];simp));(try simp))
  refine W.cut 0 (Ζ _) [(4,.Ν [J p.1,J p.2,VF 1 L])] (Ζ _) (λid r ax=>I) (λz f=>by
   simp at f;subst f;exact Y0.struct (k:=3) (t:=173) (l:=[J p.1,J p.2,Sw L]) (Ζ _) U U (λx a a' E P=>by
    match x with
    | 0=>simp at E P;subst E;subst P;exact .low Ω
    | 1=>simp at E P;subst E;subst P;exact .low Ω
    | 2=>
     simp at E P;subst E;subst P;exact A7 (id:=3) (t:=245) (l:=L) (Ζ _) (λZ=>by
      have:YU L=[.cells 245 1 L]:=by unfold YU;rw[if_neg (by simpa using Z)]
      simp[this]) O
    | x+3=>simp at E)) ?_
  refine Φ ?_;refine W.rt ?_;refine Yx.Z6 (Zw.cons (.refl _) (Zw.cons (.refl _) (Zw.cons (.trans Yx.acc ?_) .nil)));rw[H];show Yx _ (.sl false 1 (((List.range s.cells.length).map (R0 s p)).map Lw));rw[Nq];refine Yx.map λx _=>.one Yx.acc ?_ U;obtain⟨b,k,l,m⟩:=A6 2 ((R0 s p x).map Zb);rw[m];rfl
def WG:List Xt->Int->Int->List Xt
 | [],k,n=>[(k,IntKind.i64.wrap (0+n))]
 | e::r,k,n=>if k=e.1 then(k,IntKind.i64.wrap (e.2+n))::r else e::WG r k n
end Go.TL
namespace Go.TL
open Go.Proofs.Tryz
open Go.Conc Go.Proofs
variable [Z1]
section
variable {P:Program} {Q:Value->Prop} {mn:Bool} {x:Wv} {cs rest:Y3} {H:Υ} {b f c:Frame} {t:ν} {k:ZA} {fn:Func}
theorem Χ.getLoop {L:Nat} {r:Loop} (h:H.obj L=some (.loop r)) {K:Loop->Υ->Prop} {E:Value->Υ->Prop} (a:K r H):Χ P (Instr.getLoop L) H K E:=by
 unfold Instr.getLoop;refine Χ.bind' ?_;exact⟨_,h,U,Χ.pure' a⟩
theorem Χ.EK {L:Nat} {r r':Loop} (h:H.obj L=some (.loop r)) {K:Unit->Υ->Prop} {E:Value->Υ->Prop} (a:K () (H.Zq L (.loop r'))):Χ P (setObj L (.loop r')) H K E:=
 ⟨⟨_,h⟩,U,U,Χ.pure' a⟩
abbrev G6 (st:LoopState) (b:Option Code) (f:FuncId) (t:ν) (c:Array Tmp) (a bd:Code) (d:Nat):Loop:={state:=st,pending:=b,fn:=f,tmps:=t,params:=c,assign:=a,body:=bd,defers:=d}
theorem μ.rangeFunc (o:Seq x) (p:b.mode=.run) (r:b.roundOf=none) {i:Operand} {j:Array Tmp} {assign body:Code} {g:FuncId} {f:ν} (s:ZW t i=.func (.func g) #[] f) (u:Plain P g)
  (h:∀c a,H.fresh c->(H.Zq c (.deferred (some []))).fresh a->μ P Q mn x (Frame.enter P g (#[.func (.yield a) #[] #[]]++f) .normal) ({χ b t (.inRangeFunc a::k) with defers:=⟨.collected c,#[]⟩::b.defers}::cs)
   ((H.Zq c (.deferred (some []))).Zq a (.loop (G6 .ready none b.fn t j assign body c)))) :
  μ P Q mn x (χ b t (.code (.rangeFunc i j assign body)::k)) cs H:=by
 refine .own o λw y=>?_;have A:Χ P (Instr.enterLoop b.fn t j assign body none) H (λv H'=>∃c a,H.fresh c/\(H.Zq c (.deferred (some []))).fresh a/\v=(a,[⟨.collected c,#[]⟩])/\H'=(H.Zq c (.deferred (some []))).Zq a (.loop (G6 .ready none b.fn t j assign body c))) (λ_ _=>False):=by
  unfold Instr.enterLoop;refine Χ.bind' (λc l=>Χ.pure' (Χ.bind' (Χ.pure' ?_)));refine Χ.bind' (λa m=>Χ.pure' (Χ.pure' ?_));exact⟨c,a,l,m,U,U⟩
 obtain⟨H',w',es',B,C⟩:=Χ.sound (P:=P) (G0:=H) (w0:=w) _ A (Yy.start y);rcases C with⟨v,n,c,a,l,m,rfl,rfl⟩|⟨v,n,D⟩
 .refine⟨_,_,w',seen P b.fn es',_,?_,B.sub λe E=>mem_seen E,h c a l m⟩;have I:∀F:Frame,F.tmps=t->resolve F.eval {callee:=.value i,args:=#[.const (.func (.yield a) #[] #[])],argTypes:=#[]} 0=Deferred.ofValue (.func (.func g) #[] f) #[.func (.yield a) #[] #[]]:=λF J=>by
   have:F.eval i=.func (.func g) #[] f:=by rw[<-s,<-J];cases i<;>rfl
   unfold resolve;simp only;rw[this];simp[Frame.eval]
  have K:((do let d <-Deferred.ofValue (.func (.func g) #[] f) #[.func (.yield a) #[] #[]];invoke d.target d.args:Sem Next)).runT P w' #[]=(.ok (.enter g (#[.func (.yield a) #[] #[]]++f)) w',#[]):=by
   have:=u.enter (#[.func (.yield a) #[] #[]]++f) w';simpa[Deferred.ofValue,invoke] using this
  rw[Vl p];unfold stepG.exec;simp only[χ,r,n];rw[I _ U];unfold stepG.apply;simp only[if_true,K];simp[GStep.after,Go.Conc.G,χ,seen_none]
 .exact D.elim
theorem μ.s0 (d:Seq x) (f:b.mode=.run) {L:Nat} {r:Loop} (a:H.obj L=some (.loop r)) (g:r.state≠.busy)
  (h:μ P Q mn x (χ b t ((r.pending.map Item.code).toList++k)) cs (H.Zq L (.loop {r with state:=.exhausted}))):μ P Q mn x (χ b t (.endRangeFunc L::k)) cs H:=by
 refine .own d λw i=>?_;have j:Χ P (Instr.endLoop L) H (λv H'=>v=r.pending/\H'=H.Zq L (.loop {r with state:=.exhausted})) (λ_ _=>False):=by
  unfold Instr.endLoop;refine Χ.bind' (Χ.getLoop a ?_);have e:(r.state==.busy)=false:=by cases l:r.state<;>first|rfl|exact absurd l g
  simp only[e,Xq,if_false];exact Χ.bind' (Χ.EK a (Χ.pure' ⟨U,U⟩))
 obtain⟨H',w',es',m,n⟩:=Χ.sound (P:=P) (G0:=H) (w0:=w) _ j (Yy.start i);rcases n with⟨v,c,rfl,rfl⟩|⟨v,c,o⟩
 .refine⟨_,_,w',seen P b.fn es',_,?_,m.sub λe p=>mem_seen p,h⟩;rw[Vl f];unfold stepG.exec;simp only[χ,c];simp[GStep.after,Go.Conc.G]
 .exact o.elim
theorem μ.beginRound (g:Seq x) (i:b.mode=.run) {L:Nat} (j:b.roundOf=some L) {r:Loop} (a:H.obj L=some (.loop r)) (l:r.state=.ready)
  (h:μ P Q mn x (χ b t k) cs (H.Zq L (.loop {r with state:=.busy}))):μ P Q mn x (χ b t (.beginRound::k)) cs H:=by
 refine .own g λw m=>?_;have n:Χ P (Instr.beginRound L) H (λ_ H'=>H'=H.Zq L (.loop {r with state:=.busy})) (λ_ _=>False):=by
  unfold Instr.beginRound;refine Χ.bind' (Χ.getLoop a (Χ.bind' (Χ.EK a ?_)));rw[l];exact Χ.pure' U
 have o:Χ P (do Instr.beginRound L;pure Next.skip:Sem Next) H (λv H'=>v=.skip/\H'=H.Zq L (.loop {r with state:=.busy})) (λ_ _=>False):=
  Χ.bind' (Χ.mono (λ_ _ e=>Χ.pure' ⟨U,e⟩) (λ_ _ h=>h) _ n)
 obtain⟨H',w',es',p,s⟩:=Χ.sound (P:=P) (G0:=H) (w0:=w) _ o (Yy.start m);rcases s with⟨v,c,rfl,rfl⟩|⟨v,c,u⟩
 .generalize d:(if b.kind==.early then #[] else es')=f;have y:∀e∈seen P b.fn f,e∈es':=λe A=>by
   have:=mem_seen A;rw[<-d] at this;split at this
   .simp at this
   .exact this
  refine⟨_,_,w',seen P b.fn f,_,?_,p.sub y,h⟩;rw[Vl i];unfold stepG.exec;simp only[χ,j,Option.elim];unfold stepG.apply;simp only[if_true,c];rw[d];simp[GStep.after,Go.Conc.G,Frame.finish]
 .exact u.elim
theorem μ.endRound (l:Seq x) (m:b.mode=.run) {L:Nat} (f:b.roundOf=some L) (g:b.kind=.normal) {r:Loop} (j:H.obj L=some (.loop r)) {jump:Option Code} (n:(jump=none/\k=[])\/(jump=some .ret/\∃a,k=.code .ret::a)\/∃id a,jump=some (.exit id)/\k=.code (.exit id)::a/\exitTo id a=none)
  (h:μ P Q mn x (c.finish (.bool jump.isNone)) rest (H.Zq L (.loop {r with state:=if jump.isNone then .ready else .done,pending:=jump}))):μ P Q mn x (χ b t k) (c::rest) H:=by
 refine .own l λw o=>?_;have p:Χ P (Instr.endRound L jump) H (λv H'=>v=.bool jump.isNone/\H'=H.Zq L (.loop {r with state:=if jump.isNone then .ready else .done,pending:=jump})) (λ_ _=>False):=by
  unfold Instr.endRound;exact Χ.bind' (Χ.getLoop j (Χ.bind' (Χ.EK j (Χ.pure' ⟨U,U⟩))))
 obtain⟨H',w',es',s,u⟩:=Χ.sound (P:=P) (G0:=H) (w0:=w) _ p (Yy.start o);rcases u with⟨v,d,rfl,rfl⟩|⟨v,d,y⟩
 .refine⟨_,_,w',seen P b.fn es',_,?_,s.sub λe i=>mem_seen i,h⟩;rw[Vl m];unfold stepG.exec;rcases n with⟨rfl,rfl⟩|⟨rfl,a,rfl⟩|⟨id,a,rfl,rfl,i⟩
  .simp only[χ,f,d];simp[GStep.after,Go.Conc.G,doReturn,g]
  .simp only[χ,f,d];simp[GStep.after,Go.Conc.G,doReturn,g]
  .simp only[χ,f,i,Option.elim,d];simp[GStep.after,Go.Conc.G,doReturn,g]
 .exact y.elim
theorem μ.collected (c:Seq x) (d:f.mode=.returning) {r:Nat} {ds:List Deferred} (hd:f.defers=⟨.collected r,#[]⟩::ds) (a:H.obj r=some (.deferred (some [])))
  (h:μ P Q mn x {f with defers:=ds} cs (H.Zq r (.deferred none))):μ P Q mn x f cs H:=by
 refine .own c λw g=>?_;have i:Χ P (Instr.takeDeferred r) H (λv H'=>v=[]/\H'=H.Zq r (.deferred none)) (λ_ _=>False):=by
  unfold Instr.takeDeferred;refine Χ.bind' ?_;exact⟨_,a,U,Χ.pure' (Χ.bind' ⟨⟨_,a⟩,U,U,Χ.pure' (Χ.pure' ⟨U,U⟩)⟩)⟩
 obtain⟨H',w',es',j,k⟩:=Χ.sound (P:=P) (G0:=H) (w0:=w) _ i (Yy.start g);rcases k with⟨v,b,rfl,rfl⟩|⟨v,b,l⟩
 .refine⟨_,_,w',seen P f.fn es',_,?_,j.sub λe m=>mem_seen m,h⟩;rw[LY (by rw[d];simp)];unfold unwind;simp only[hd,b];simp[GStep.after,Go.Conc.G]
 .exact l.elim
end
end Go.TL
namespace Go.TL
open Go.Proofs.Tryz
open Go.Conc
open Go.ConcM (OsLater)
open Go.ConcN (sumTo upd sumTo_upd upd_ne upd_same sumTo_congr le_sumTo)
open Go.ConcR (mk)
variable [Z1]
theorem Xn {b:Frame} (a:b.mode=.run) (c:b.roundOf=none) (t:ν) (k:ZA):χ b t k=b.at ⟨t,b.defers⟩ k:=by
 obtain⟨fn,d,td,e,f,g,h⟩:=b;simp only at a c;subst a;subst c;rfl
theorem OM (o:Oper) (t:ν) (ds:List Deferred) (v:Value):(⟨t,ds⟩:_root_.Go.Act).put o.dst v=⟨put o t v,ds⟩:=by
 unfold _root_.Go.Act.put put;cases o.dst<;>rfl
theorem UY (t:ν) (ds:List Deferred):(⟨t,ds⟩:_root_.Go.Act).eval=ZW t:=by funext o;cases o<;>rfl
def Entry (P:Program) (f:FuncId) (e:ν->Sem Value):Prop:=∃fn,P.funcs[f]?=some fn/\(fn.name == "runtime.NumGoroutine")=false/\fn.body.isNone=true/\Extern.findNext fn=none/\Extern.find fn=some e
structure TA (b:Frame) (ops:ZI) (i:Nat) (op:Oper):Prop where
 run:b.mode=.run
 ro:b.roundOf=none
 kd:b.kind≠.early
 op:ops[i]?=some op
def X4 (x:Z5):Prop:=x.rel=false\/∃s,¬Gone (x.tok s)
theorem X4.ok {P:Program} {g:Goroutine} {x:Z5} (h:X4 x):KA P g x:=λa b=>by
 rcases h with h|⟨s,h⟩
 .rw[h] at a;cases a
 .exact absurd (b s) h
def one (x:Z5):Wv:=λy=>y=x
@[reducible] def Yo:Z1:=⟨λ_=>True⟩
theorem Seq.QF {x:Z5} (a:Z1.q (one x)) (b:x.rel=false) (hv:x.Z8=λ_=>none):Seq (one x):=⟨a,λy h=>by cases h;exact b,λy h=>by cases h;exact hv⟩
theorem Seq.here {x:Z5} (h:Seq (one x)):X4 x:=.inl (h.rel x rfl)
section
variable {P:Program} {Q:Value->Prop} {mn:Bool} {x:Z5} {b:Frame} {cs:Y3} {nt:Nat} {o:Base} {k:ZA} {env:Β} {σ:Ρ} {S:ς} {B:δ} {H:Υ} {t:ν}
variable {ops:ZI} {i:Nat} {rest:κ} {op:Oper} {f:FuncId} {e:ν->Sem Value} {args:Array Operand} {ts:Array TypeId} {w w':World}
theorem G5 (j:Entry P f e) (c:TA b ops i op) (l:Region.wanted op (yielded ops t)=true) (m:op.op=.call ⟨.value (.func f),args,ts⟩) {vs:ν} (h:args.map (ZW t)=vs) {v:Value} {d:Array Event}
  (n:(e vs).run P w=.ok v w') (o:(e vs).events P w #[⟨.mark (Mark.extern f),false,true⟩]=#[⟨.mark (Mark.extern f),false,true⟩]++d) (p:∀y∈d,y.sync=true/\∀g,y.loc≠.mark (Mark.extern g)) :
  stepG P mn (Go.Conc.G (χ b t (.inRegion ops (i::rest)::k)) cs) w=.go (Go.Conc.G (χ b (put op t v) (.inRegion ops rest::k)) cs) w' d:=by
 obtain⟨fn,r,s,u,x,A⟩:=j;rw[Xn c.run c.ro,Xn c.run c.ro,<-OM];exact stepG_entry (a:=⟨t,b.defers⟩) c.op l c.kd m r s u x A (by rw[UY,h];exact n) (by rw[UY,h];exact o) p
theorem sZ (d:Entry P f e) (c:TA b ops i op) (g:Region.wanted op (yielded ops t)=true) (h:op.op=.call ⟨.value (.func f),args,ts⟩) {vs:ν} (j:args.map (ZW t)=vs)
  (l:(e vs).run P w=.halt .blocked w') :
  stepG P mn (Go.Conc.G (χ b t (.inRegion ops (i::rest)::k)) cs) w=.go {Go.Conc.G (χ b t (.inRegion ops (i::rest)::k)) cs with status:=.blocked} w' #[]:=by
 obtain⟨fn,m,n,o,p,r⟩:=d;rw[Xn c.run c.ro];exact stepG_entry_blocked (a:=⟨t,b.defers⟩) c.op g h m n o p r (by rw[UY,j];exact l)
theorem A5 (d:Entry P f e) (a:TA b ops i op) (g:op.op=.call ⟨.value (.func f),args,ts⟩):mayWake P (Go.Conc.G (χ b t (.inRegion ops (i::rest)::k)) cs)=true:=by
 obtain⟨fn,h,m,j,n,o⟩:=d;have l:fn.body=none:=by simpa using j
 have c:(χ b t (.inRegion ops (i::rest)::k)).eval (.func f)=.func (.func f) #[] #[]:=rfl;simp[mayWake,Go.Conc.G,χ,a.run,a.op,g] at c ⊢;simp[c,h,l]
def JW (env:Β) (args:Array Operand) (vs:List Value):Prop:=args.toList.map (ο env)=vs.map Ψ.z
theorem JV (a:Zg S B σ env t) {y:Operand} {v:Value} (h:ο env y=.z v):ZW t y=v:=by
 have:=TH a y;rw[h] at this;generalize ZW t y=u at this;cases this;rfl
theorem JW.ZW (a:Zg S B σ env t) {vs:List Value} (h:JW env args vs):args.map (ZW t)=vs.toArray:=by
 apply Og;rw[Array.toList_map];have:∀(l:List Operand) (vs:List Value),l.map (ο env)=vs.map Ψ.z->l.map (Go.TL.ZW t)=vs:=by
  intro l
  induction l with
  | nil=>intro vs h;cases vs with
   | nil=>rfl
   | cons=>cases h
  | cons y l b=>
   intro vs h;cases vs with
   | nil=>cases h
   | cons v vs=>
    simp only[V6,List.cons.injEq] at h ⊢;exact⟨JV a h.1,b vs h.2⟩
 exact this _ _ h
theorem G4 (m:Mark):((λ_=>do mark m;pure Extern.Race.none_:ν->Sem Value) #[]).run P w=.ok (.tuple #[]) w:=by simp[Extern.Race.none_]
theorem G3 (m:Mark) (es:Array Event):((λ_=>do mark m;pure Extern.Race.none_:ν->Sem Value) #[]).events P w es=es.push ⟨.mark m,false,true⟩:=Ω
theorem MG (m:Addr->Mark) (a:Addr):(Extern.Race.marked m #[.pointer (some a)]).run P w=.ok (.tuple #[]) w:=by simp[Extern.Race.marked,Extern.Race.at_,Extern.Race.none_]
theorem MF (m:Addr->Mark) (a:Addr) (es:Array Event):(Extern.Race.marked m #[.pointer (some a)]).events P w es=es.push ⟨.mark (m a),false,true⟩:=by simp[Extern.Race.marked,Extern.Race.at_]
theorem QE {m:Mark} (b:∀g,m≠Mark.extern g):∀y∈(#[⟨.mark m,false,true⟩]:Array Event),y.sync=true/\∀g,y.loc≠.mark (Mark.extern g):=by
 intro y a;simp at a;subst a;exact⟨U,λg h=>b g (by cases h;rfl)⟩
structure WL (P:Program) (b:Frame) (ops:ZI) (i:Nat) (op:Oper) (f:FuncId) (e:ν->Sem Value) (args:Array Operand) (env:Β) (vs:List Value) (nt:Nat):Prop where
 at_:TA b ops i op
 Rq:Entry P f e
 call:∃ts,op.op=.call ⟨.value (.func f),args,ts⟩
 want:XG env ops op=some true
 dst:WS nt op=true
 JU:JW env args vs
theorem WL.step {vs:List Value} (h:WL P b ops i op f e args env vs nt) (c:Zg S B σ env t) {v:Value} {a:Array Event} (d:(e vs.toArray).run P w=.ok v w')
  (j:(e vs.toArray).events P w #[⟨.mark (Mark.extern f),false,true⟩]=#[⟨.mark (Mark.extern f),false,true⟩]++a) (l:∀y∈a,y.sync=true/\∀g,y.loc≠.mark (Mark.extern g)) :
  stepG P mn (Go.Conc.G (χ b t (.inRegion ops (i::rest)::k)) cs) w=.go (Go.Conc.G (χ b (put op t v) (.inRegion ops rest::k)) cs) w' a:=
 let ⟨_,m⟩:=h.call
 G5 h.Rq h.at_ (UF c h.want) m (h.JU.ZW c) d j l
abbrev Sv:Ψ:=.z (.tuple #[])
theorem V.disable (c:X4 x) (h:WL P b ops i op f (λ_=>do mark .disable;pure Extern.Race.none_) args env [] nt) (d:V P Q mn (one {x with deaf:=x.deaf+1}) b cs nt o (.inRegion ops rest::k) (Zu op env Sv) σ):V P Q mn (one x) b cs nt o (.inRegion ops (i::rest)::k) env σ:=
 λS B H t e a y g=>by
 cases g;exact Goes.step c.ok (.inr ⟨⟨U,U⟩,.inr (.inl ⟨Go.Conc.G (χ b (put op t (.tuple #[])) (.inRegion ops rest::k)) cs,⟨U,U⟩,.inl λw _=>
  ⟨h.step a.Zt (G4 .disable) (G3 .disable _) (QE Ω),d S B H _ e (a.put h.dst (.z _)) _ U⟩⟩)⟩)
theorem V.enable (c:X4 x) (hd:0<x.deaf) (h:WL P b ops i op f (λ_=>do mark .enable;pure Extern.Race.none_) args env [] nt) (d:V P Q mn (one {x with deaf:=x.deaf-1}) b cs nt o (.inRegion ops rest::k) (Zu op env Sv) σ):V P Q mn (one x) b cs nt o (.inRegion ops (i::rest)::k) env σ:=
 λS B H t e a y g=>by
 cases g;exact Goes.step c.ok (.inr ⟨⟨U,U⟩,.inr (.inl ⟨Go.Conc.G (χ b (put op t (.tuple #[])) (.inRegion ops rest::k)) cs,⟨U,U⟩,.inr ⟨hd,λw _=>
  ⟨h.step a.Zt (G4 .enable) (G3 .enable _) (QE Ω),d S B H _ e (a.put h.dst (.z _)) _ U⟩⟩⟩)⟩)
theorem V.sY (c:x.rel=false) {s d n p:Nat} {a:Pb} (g:x.tok s=.par n p a) (j:a≠.YG) (h:WL P b ops i op f (Extern.Race.marked .read) args env [.pointer (some ⟨s,d,none⟩)] nt) (l:V P Q mn (one x) b cs nt o (.inRegion ops rest::k) (Zu op env Sv) σ):V P Q mn (one x) b cs nt o (.inRegion ops (i::rest)::k) env σ:=
 λS B H t m e y r=>by
 cases r;exact Goes.step (X4.ok (.inl c)) (.inr ⟨⟨U,U⟩,.inr (.inr (.inl ⟨s,n,p,a,Go.Conc.G (χ b (put op t (.tuple #[])) (.inRegion ops rest::k)) cs,d,false,g,j,c,⟨U,U⟩,λw _=>
  ⟨h.step e.Zt (MG .read _) (MF .read _ _) (QE Ω),l S B H _ m (e.put h.dst (.z _)) _ U⟩⟩))⟩)
theorem V.sX (c:x.rel=false) {s d n p:Nat} {a:Pb} (g:x.tok s=.par n p a) (j:a≠.YG) (h:WL P b ops i op f (Extern.Race.marked .write) args env [.pointer (some ⟨s,d,none⟩)] nt) (l:V P Q mn (one x) b cs nt o (.inRegion ops rest::k) (Zu op env Sv) σ):V P Q mn (one x) b cs nt o (.inRegion ops (i::rest)::k) env σ:=
 λS B H t m e y r=>by
 cases r;exact Goes.step (X4.ok (.inl c)) (.inr ⟨⟨U,U⟩,.inr (.inr (.inl ⟨s,n,p,a,Go.Conc.G (χ b (put op t (.tuple #[])) (.inRegion ops rest::k)) cs,d,true,g,j,c,⟨U,U⟩,λw _=>
  ⟨h.step e.Zt (MG .write _) (MF .write _ _) (QE Ω),l S B H _ m (e.put h.dst (.z _)) _ U⟩⟩))⟩)
theorem V.Iv (a:x.rel=false) (hd:x.deaf=0) {s m n:Nat} {sp:Spec} (d:x.spec s=some sp) (e:sp.ZS=some m) (g:x.tok s=.ch n .own .work) (h:WL P b ops i op f (Extern.Race.marked .acquire) args env [.pointer (some ⟨m,0,none⟩)] nt)
  (j:∀(S:ς) (B:δ) (H:Υ) (t:ν) (L:κ) (E:Υ),Xw o.m o.S o.B o.H o.σ S B H σ->XR o.m nt S B H σ (Zu op env Sv) t->sp.X1 L E->Apart H E->(L.Nodup/\n∉L/\∃w,Fits H w/\Fits E w)->
   ZE P Q mn {x with tok:=upd x.tok s (.ch n (.YJ L) .work),view:=upd x.view s none} (χ b t (.inRegion ops rest::k)) cs (join H E)):V P Q mn (one x) b cs nt o (.inRegion ops (i::rest)::k) env σ:=
 λS B H t l c y p=>by
 cases p;exact Goes.step (X4.ok (.inl a)) (.inr ⟨⟨U,U⟩,.inr (.inr (.inr (.inr (.inl ⟨s,sp,m,n,Go.Conc.G (χ b (put op t (.tuple #[])) (.inRegion ops rest::k)) cs,d,e,g,hd,⟨U,U⟩,a,λw _=>
  h.step c.Zt (MG .acquire _) (MF .acquire _ _) (QE Ω),λL E r u v=>j S B H _ L E l (c.put h.dst (.z _)) r u v⟩))))⟩)
theorem V.FI (a:x.rel=false) (hd:x.deaf=0) {s m n:Nat} {L:κ} {sp:Spec} (d:x.spec s=some sp) (e:sp.ZS=some m) (g:x.tok s=.ch n (.YJ L) .work) (h:WL P b ops i op f (Extern.Race.marked .releaseMerge) args env [.pointer (some ⟨m,0,none⟩)] nt)
  (j:∀(S:ς) (B:δ) (H:Υ) (t:ν),Xw o.m o.S o.B o.H o.σ S B H σ->XR o.m nt S B H σ (Zu op env Sv) t->∃H' E,Split H H' E/\sp.X1 (L++[n]) E/\
   ZE P Q mn {x with tok:=upd x.tok s (.ch n .fin .work),view:=upd x.view s none} (χ b t (.inRegion ops rest::k)) cs H'):V P Q mn (one x) b cs nt o (.inRegion ops (i::rest)::k) env σ:=
 λS B H t l c y p=>by
 cases p;obtain⟨H',E,r,u,v⟩:=j S B H _ l (c.put h.dst (.z (.tuple #[])));exact Goes.step (X4.ok (.inl a)) (.inr ⟨⟨U,U⟩,.inr (.inr (.inr (.inr (.inr (.inl ⟨s,sp,m,n,L,Go.Conc.G (χ b (put op t (.tuple #[])) (.inRegion ops rest::k)) cs,H',E,d,e,g,hd,⟨U,U⟩,a,λw _=>
  h.step c.Zt (MG .releaseMerge _) (MF .releaseMerge _ _) (QE Ω),r,u,v⟩)))))⟩)
theorem V.Iu (j:x.rel=false) (hd:x.deaf=0) {s n:Nat} {d:Pb} {sp:Spec} (p:x.spec s=some sp) (r:x.tok s=.par n 0 d) (u:d=.Sk\/d=.w4) (h:WL P b ops i op f (Extern.Race.marked .acquire) args env [.pointer (some ⟨s,0,none⟩)] nt)
  (v:∀(S:ς) (B:δ) (H:Υ) (t:ν) (e g:κ) (c a:Υ),Xw o.m o.S o.B o.H o.σ S B H σ->XR o.m nt S B H σ (Zu op env Sv) t->
   e.Perm (List.range n)->TO sp.D e c->(sp.ZS≠none->g.Perm (List.range n)/\sp.X1 g a)->(sp.ZS=none->a=Υ.empty)->Apart H c->Apart H a->Apart c a->(∃w,Fits H w/\Fits c w/\Fits a w)->
   ZE P Q mn {x with tok:=upd x.tok s (.par n 0 .YG),view:=upd x.view s none} (χ b t (.inRegion ops rest::k)) cs (join (join H c) a)):V P Q mn (one x) b cs nt o (.inRegion ops (i::rest)::k) env σ:=
 λS B H t A l y C=>by
 cases C;exact Goes.step (X4.ok (.inl j)) (.inr ⟨⟨U,U⟩,.inr (.inr (.inr (.inr (.inr (.inr (.inr (.inl ⟨s,sp,n,d,Go.Conc.G (χ b (put op t (.tuple #[])) (.inRegion ops rest::k)) cs,p,r,u,hd,⟨U,U⟩,j,λw _=>
  h.step l.Zt (MG .acquire _) (MF .acquire _ _) (QE Ω),λe g c a E F I J K L M N=>v S B H _ e g c a A (l.put h.dst (.z _)) E F I J K L M N⟩)))))))⟩)
theorem V.atomic (A:X4 x) {s:Nat} {sp:Spec} (C:x.spec s=some sp) (D:¬XE (x.tok s)) (hd:WS nt op=true) (E:XG env ops op=some true)
  (h:∀(t:ν) (w:World) (φ:Nat) (a:γ),(∀y u,ο env y=.z u->ZW t y=u)->(∀(as9:Array Operand) (vs:List Value),JW env as9 vs->as9.map (ZW t)=vs.toArray)->Region.wanted op (yielded ops t)=true->a.toSpec=sp->At s a w->FQ x s φ a->Ni a (x.tok s)->
   (∃v w' e,stepG P mn (Go.Conc.G (χ b t (.inRegion ops (i::rest)::k)) cs) w=.go (Go.Conc.G (χ b (put op t v) (.inRegion ops rest::k)) cs) w' e/\Xp (λF _=>Yc s sp F) (λ_=>False) w w'/\RD s sp x.deaf e/\
    ((At s a w'/\V P Q mn (one {x with view:=upd x.view s (some (φ,a))}) b cs nt o (.inRegion ops rest::k) (Zu op env (.z v)) σ)\/
     ∃o' t',Act a (x.tok s) o' t'/\At s o' w'/\(mayWake P (Go.Conc.G (χ b t (.inRegion ops (i::rest)::k)) cs)=true\/o'=a)/\∀d,d<φ->V P Q mn (one {x with tok:=upd x.tok s t',view:=upd x.view s (some (d,o'))}) b cs nt o (.inRegion ops rest::k) (Zu op env (.z v)) σ))\/
   (UG a (x.tok s)/\(∀p,p≠s->Tg (x.tok p))/\stepG P mn (Go.Conc.G (χ b t (.inRegion ops (i::rest)::k)) cs) w=.go {Go.Conc.G (χ b t (.inRegion ops (i::rest)::k)) cs with status:=.blocked} w #[])) :
  V P Q mn (one x) b cs nt o (.inRegion ops (i::rest)::k) env σ:=by
 intro S B H t r c y f;cases f;refine Goes.step A.ok (.inr ⟨⟨U,U⟩,.inr (.inr (.inr (.inl ⟨s,sp,C,D,λw φ a W hv I J K L=>?_⟩)))⟩);rcases h t w φ a (λy u f=>JV c.Zt f) (λas9 vs M=>M.ZW c.Zt) (UF c.Zt E) I J K L with⟨v,w',e,g,j,l,N⟩|⟨g,j,l⟩
 .refine .inl ?_;rw[g];refine⟨⟨U,U⟩,j,l,?_⟩;rcases N with⟨m,n⟩|⟨o',t',m,n,O,R⟩
  .exact .inl ⟨m,n S B H _ r (c.put hd (.z _)) _ U⟩
  .exact .inr ⟨o',t',m,n,O,λd T=>R d T S B H _ r (c.put hd (.z _)) _ U⟩
 .exact .inr ⟨g,j,l⟩
theorem A4 {b h:Nat} {c:ν} {k:TypeId} (f:w.heap[b]?=some (.cells c k (0,0))) (v:Value) {j:Nat->Nat->Prop} (l:∀o,j b o):Xp j (λ_=>False) w (w.setCell ⟨b,h,none⟩ v):=by
 have g:=heap_setCell (w:=w) (a:=⟨b,h,none⟩) (v:=v) U f
 have m:=XY f
 have n:(w.setCell ⟨b,h,none⟩ v).os=w.os:=rfl;refine⟨by rw[g];simp,λi c' t' s d=>?_,λi y d p _=>?_,by rw[n];exact OsLater.refl _,U,U⟩
 .by_cases e:i=b
  .subst e;rw[f] at d;cases d;exact⟨_,_,by rw[g,Ts m],Ω,λo' r=>absurd (l o') r,.inl U⟩
  .exact⟨c',_,by rw[g,UK (YV e)];exact d,U,λ_ _=>rfl,.inl U⟩
 .have e:b≠i:=λe=>by subst e;rw[f] at d;cases d;cases p
  rw[g,UK e];exact d
section
variable {s m:Nat} {Xv o':γ}
theorem At.ne (h:At s Xv w) (b:Xv.ZS=some m):m≠s:=λe=>by
 obtain⟨⟨f,c⟩,d⟩:=h;obtain⟨g,a⟩:=d m b;subst e;rw[c] at a;simp at a
theorem At.mu (h:At s Xv w) (a:Xv.ZS=some m):∃b,w.heap[m]?=some (.cells #[.int .i32 (mwd Xv),.int .u32 Xv.Yz] b (0,0)):=h.2 m a
theorem At.QD (h:At s Xv w) (a:Xv.ZS=some m):w.cell? ⟨m,0,none⟩=some (.int .i32 (mwd Xv)):=let ⟨_,b⟩:=h.mu a;Tl b rfl
theorem At.A3 (h:At s Xv w) (a:Xv.ZS=some m):w.cell? ⟨m,1,none⟩=some (.int .u32 Xv.Yz):=let ⟨_,b⟩:=h.mu a;Tl b rfl
theorem At.SE (h:At s Xv w):w.cell? ⟨s,0,none⟩=some (.int .u64 (YY Xv)):=let ⟨_,a⟩:=h.1;Tl a rfl
theorem At.Lq (h:At s Xv w):w.cell? ⟨s,1,none⟩=some (.int .u32 Xv.YM):=let ⟨_,a⟩:=h.1;Tl a rfl
theorem A2 {a b:Nat} {c:ν} {d:TypeId} (e:w.heap[a]?=some (.cells c d (0,0))):w.frozen? ⟨a,b,none⟩=false:=by
 simp[World.frozen?,e]
theorem At.Lp (h:At s Xv w) (a:Xv.ZS=some m) (b:Nat):w.frozen? ⟨m,b,none⟩=false:=let ⟨_,c⟩:=h.mu a;A2 c
theorem At.NR (h:At s Xv w) (a:Nat):w.frozen? ⟨s,a,none⟩=false:=let ⟨_,b⟩:=h.1;A2 b
theorem At.G2 (h:At s Xv w) (b:Xv.ZS=some m) (g:o'.ZS=Xv.ZS) (i:YY o'=YY Xv) (j:o'.YM=Xv.YM) {c:Nat} {v:Value} (hv:(#[.int .i32 (mwd Xv),.int .u32 Xv.Yz]:ν).setIfInBounds c v=#[.int .i32 (mwd o'),.int .u32 o'.Yz]):At s o' (w.setCell ⟨m,c,none⟩ v):=by
 have k:=h.ne b;obtain⟨l,d⟩:=h.mu b;obtain⟨⟨n,o⟩,p⟩:=h;have e:=heap_setCell (w:=w) (a:=⟨m,c,none⟩) (v:=v) U d;refine⟨⟨n,?_⟩,λr f=>⟨l,?_⟩⟩
 .rw[e,UK k,i,j];exact o
 .rw[g,b] at f;cases f;rw[e,Ts (XY d),hv]
theorem At.Lo (h:At s Xv w) (g:o'.ZS=Xv.ZS) (i:mwd o'=mwd Xv) (j:o'.Yz=Xv.Yz) {b:Nat} {v:Value} (hv:(#[.int .u64 (YY Xv),.int .u32 Xv.YM]:ν).setIfInBounds b v=#[.int .u64 (YY o'),.int .u32 o'.YM]):At s o' (w.setCell ⟨s,b,none⟩ v):=by
 have k:=λm l=>h.ne (m:=m) l;obtain⟨⟨n,d⟩,o⟩:=h;have e:=heap_setCell (w:=w) (a:=⟨s,b,none⟩) (v:=v) U d;refine⟨⟨n,?_⟩,λf c=>?_⟩
 .rw[e,Ts (XY d),hv]
 .rw[g] at c;obtain⟨p,r⟩:=o f c;exact⟨p,by rw[e,UK (YV (k f c)),i,j];exact r⟩
theorem At.G1 (h:At s Xv w) (a:Xv.ZS=some m) {sp:Spec} (b:sp.ZS=some m) {c:Nat} (v:Value):Xp (λd _=>Yc s sp d) (λ_=>False) w (w.setCell ⟨m,c,none⟩ v):=
 let ⟨_,e⟩:=h.mu a;A4 e v λ_=>.inr b
theorem At.Ln (h:At s Xv w) {sp:Spec} {a:Nat} (v:Value):Xp (λb _=>Yc s sp b) (λ_=>False) w (w.setCell ⟨s,a,none⟩ v):=
 let ⟨_,c⟩:=h.1;A4 c v λ_=>.inl U
end
theorem A1 {s d:Nat} {sp:Spec}:RD s sp d #[]:=⟨rfl,λj e h=>by simp at h⟩
theorem PN {s b e d:Nat} {sp:Spec} {es:Array Event} (i:Yc s sp b) (hd:0<d) (f:∀y∈es,y.loc=.cell ⟨b,e,none⟩/\y.sync=true):RD s sp d es:=by
 have g:∀(es:Array Event),(∀y∈es,y.loc=.cell ⟨b,e,none⟩/\y.sync=true)->deafBehind d es=d:=by
  intro es;obtain⟨l⟩:=es;intro h;unfold deafBehind;simp only[List.foldl_toArray']
  induction l with
  | nil=>rfl
  | cons y l k=>
   simp only[List.foldl_cons];have:=h y Ω;rw[this.1];exact k λz a=>h z (by simp at a ⊢;exact .inr a)
 refine⟨g es f,λj y m=>.inr (.inr ⟨b,e,y.write,?_,i,?_⟩)⟩
 .have:=f y (Array.mem_of_getElem? m);obtain⟨l,w1,n⟩:=y;simp only at this;rw[this.1,this.2]
 .rw[g]
  .exact hd
  .intro z a;exact f z (by
    rw[I4] at a ⊢;obtain⟨q,c⟩:=a;rw[Array.getElem?_extract] at c;split at c
    .exact⟨_,c⟩
    .cases c)
end
end Go.TL
namespace Go.TL
open Go.Proofs.Tryz
open Go.Conc
open Go.ConcM (OsLater)
open Go.ConcN (sumTo upd sumTo_upd upd_ne upd_same sumTo_congr le_sumTo)
variable [Z1]
section
variable {P:Program} {Q:Value->Prop} {mn:Bool} {x:Z5} {b:Frame} {cs:Y3} {nt:Nat} {o:Base} {k:ZA} {env:Β} {σ:Ρ}
variable {ops:ZI} {i:Nat} {rest:κ} {op:Oper} {f:FuncId} {e:ν->Sem Value} {args:Array Operand} {vs:List Value}
def VQ (P:Program) (Q:Value->Prop) (mn:Bool) (x:Z5) (b:Frame) (cs:Y3) (nt:Nat) (o:Base) (ops:ZI) (rest:κ) (k:ZA) (op:Oper) (env:Β) (σ:Ρ) (s φ:Nat) (a:γ) (v:Value):Prop:=
 V P Q mn (one {x with view:=upd x.view s (some (φ,a))}) b cs nt o (.inRegion ops rest::k) (Zu op env (.z v)) σ
def QC (P:Program) (Q:Value->Prop) (mn:Bool) (x:Z5) (b:Frame) (cs:Y3) (nt:Nat) (o:Base) (ops:ZI) (rest:κ) (k:ZA) (op:Oper) (env:Β) (σ:Ρ) (s φ:Nat) (c:γ) (v:Value) (o':γ) (t':Tok):Prop:=
 Act c (x.tok s) o' t'/\∀a,a<φ->V P Q mn (one {x with tok:=upd x.tok s t',view:=upd x.view s (some (a,o'))}) b cs nt o (.inRegion ops rest::k) (Zu op env (.z v)) σ
structure Seen (x:Z5) (s:Nat) (sp:Spec) (φ:Nat) (a:γ):Prop where
 spec:a.toSpec=sp
 view:FQ x s φ a
 Vg:Ni a (x.tok s)
theorem V.ext (u:X4 x) {s:Nat} {sp:Spec} (A:x.spec s=some sp) (B:¬XE (x.tok s)) (h:WL P b ops i op f e args env vs nt)
  (C:∀(w:World) (φ:Nat) (a:γ),Seen x s sp φ a->At s a w->
   (∃v w' c,(e vs.toArray).run P w=.ok v w'/\(e vs.toArray).events P w #[⟨.mark (Mark.extern f),false,true⟩]=#[⟨.mark (Mark.extern f),false,true⟩]++c/\(∀y∈c,y.sync=true/\∀g,y.loc≠.mark (Mark.extern g))/\
    Xp (λD _=>Yc s sp D) (λ_=>False) w w'/\RD s sp x.deaf c/\
    ((At s a w'/\VQ P Q mn x b cs nt o ops rest k op env σ s φ a v)\/∃o' t',At s o' w'/\QC P Q mn x b cs nt o ops rest k op env σ s φ a v o' t'))\/
   (UG a (x.tok s)/\(∀n,n≠s->Tg (x.tok n))/\(e vs.toArray).run P w=.halt .blocked w)) :
  V P Q mn (one x) b cs nt o (.inRegion ops (i::rest)::k) env σ:=by
 obtain⟨ts,d⟩:=h.call;refine .atomic u A B h.dst h.want λt w φ a _ p r E F H I=>?_;rcases C w φ a ⟨E,H,I⟩ F with⟨v,w',c,j,l,m,J,K,L⟩|⟨j,l,m⟩
 .refine .inl ⟨v,w',c,G5 h.Rq h.at_ r d (p _ _ h.JU) j l m,J,K,L.imp id λ⟨o',t',M,N,O⟩=>⟨o',t',N,M,.inl (A5 h.Rq h.at_ d),O⟩⟩
 .exact .inr ⟨j,l,sZ h.Rq h.at_ r d (p _ _ h.JU) m⟩
theorem PM (a:Addr):∀y∈(#[⟨.cell a,false,true⟩,⟨.cell a,true,true⟩]:Array Event),y.loc=.cell a/\y.sync=true:=by
 intro y b;simp at b;rcases b with rfl|rfl<;>exact⟨rfl,rfl⟩
theorem PL (a:Addr) (wr:Bool):∀y∈(#[⟨.cell a,wr,true⟩]:Array Event),y.loc=.cell a/\y.sync=true:=by
 intro y b;simp at b;subst b;exact⟨U,U⟩
theorem PK {b:Addr} {es:Array Event} (h:∀y∈es,y.loc=.cell b/\y.sync=true):∀y∈es,y.sync=true/\∀g,y.loc≠.mark (Mark.extern g):=λy a=>⟨(h y a).2,λg e=>by rw[(h y a).1] at e;cases e⟩
structure Lm (a o':γ):Prop where
 ZS:o'.ZS=a.ZS
 g:YY o'=YY a
 w:o'.YM=a.YM
structure PJ (a o':γ):Prop where
 ZS:o'.ZS=a.ZS
 g:mwd o'=mwd a
 w:o'.Yz=a.Yz
section
variable {s m:Nat} {sp:Spec} (X7:X4 x) (hd:0<x.deaf) (VE:x.spec s=some sp) (VD:¬XE (x.tok s))
include X7 hd VE VD
theorem V.GZ (d:sp.ZS=some m) {e t:Int} (h:WL P b ops i op f (Extern.Atomic.casT (.int .i32)) args env [.pointer (some ⟨m,0,none⟩),.int .i32 e,.int .i32 t] nt)
  (u:∀φ a,Seen x s sp φ a->¬mwd a=e->VQ P Q mn x b cs nt o ops rest k op env σ s φ a (.bool false)\/∃t',QC P Q mn x b cs nt o ops rest k op env σ s φ a (.bool false) a t')
  (v:∀φ a,Seen x s sp φ a->mwd a=e->∃o' t',mwd o'=t/\o'.Yz=a.Yz/\Lm a o'/\QC P Q mn x b cs nt o ops rest k op env σ s φ a (.bool true) o' t') :
  V P Q mn (one x) b cs nt o (.inRegion ops (i::rest)::k) env σ:=by
 refine .ext X7 VE VD h λw φ a p c=>.inl ?_;have j:a.ZS=some m:=by rw[p.spec];exact d
 have l:=c.QD j
 have n:=c.Lp j 0;by_cases hv:mwd a=e
 .obtain⟨o',t',y,A,r,B⟩:=v φ a p hv;subst hv;refine⟨.bool true,_,_,(congrArg (Sem.run P · w) (casT_eq _ _)).trans (run_cas_hit_entry l n),?_,PK (PM ⟨m,0,none⟩),c.G1 j d _,PN (.inr d) hd (PM ⟨m,0,none⟩),.inr ⟨o',t',c.G2 j r.ZS r.g r.w ?_,B⟩⟩
  .exact(congrArg (Sem.events P · w _) (casT_eq _ _)).trans ((events_cas_hit_entry l n _).trans U)
  .rw[y,A];rfl
 .refine⟨.bool false,w,_,(congrArg (Sem.run P · w) (casT_eq _ _)).trans (run_cas_miss_entry l n hv),?_,PK (PL ⟨m,0,none⟩ false),Xp.refl _ _ _,PN (.inr d) hd (PL ⟨m,0,none⟩ false),?_⟩
  .exact(congrArg (Sem.events P · w _) (casT_eq _ _)).trans ((events_cas_miss_entry l n hv _).trans U)
  .exact(u φ a p hv).imp (λh=>⟨c,h⟩) λ⟨t',h⟩=>⟨a,t',c,h⟩
theorem V.A0 (j:sp.ZS=some m) {d:Int} (h:WL P b ops i op f (Extern.Atomic.update (Op.intArith .add) .i32 true) args env [.pointer (some ⟨m,0,none⟩),.int .i32 d] nt)
  (v:∀φ a,Seen x s sp φ a->∃o' t',mwd o'=IntKind.i32.wrap (mwd a+d)/\o'.Yz=a.Yz/\Lm a o'/\QC P Q mn x b cs nt o ops rest k op env σ s φ a (.int .i32 (mwd o')) o' t') :
  V P Q mn (one x) b cs nt o (.inRegion ops (i::rest)::k) env σ:=by
 refine .ext X7 VE VD h λw φ a n c=>.inl ?_;have e:a.ZS=some m:=by rw[n.spec];exact j
 have p:=c.QD e
 have r:=c.Lp e 0;obtain⟨o',t',t,y,l,u⟩:=v φ a n;rw[t] at u;refine⟨_,_,_,run_add_entry p r,(events_add_entry p r _).trans U,PK (PM ⟨m,0,none⟩),c.G1 e j _,PN (.inr j) hd (PM ⟨m,0,none⟩),.inr ⟨o',t',c.G2 e l.ZS l.g l.w ?_,u⟩⟩;rw[t,y];rfl
theorem V.EJ (h:WL P b ops i op f (Extern.Atomic.loadT (.int .u64)) args env [.pointer (some ⟨s,0,none⟩)] nt)
  (e:∀φ a,Seen x s sp φ a->VQ P Q mn x b cs nt o ops rest k op env σ s φ a (.int .u64 (YY a))\/∃t',QC P Q mn x b cs nt o ops rest k op env σ s φ a (.int .u64 (YY a)) a t') :
  V P Q mn (one x) b cs nt o (.inRegion ops (i::rest)::k) env σ:=by
 refine .ext X7 VE VD h λw φ a g c=>.inl ?_;have d:=c.SE;refine⟨.int .u64 (YY a),w,#[⟨.cell ⟨s,0,none⟩,false,true⟩],?_,?_,PK (PL _ false),Xp.refl _ _ _,PN (.inl U) hd (PL _ false),(e φ a g).imp (λh=>⟨c,h⟩) λ⟨t',h⟩=>⟨a,t',c,h⟩⟩
 .change Sem.run P (do Extern.Atomic.read (.int .u64) (<-asAddr (.pointer (some _)))) w=_;simp[Extern.Atomic.read,asAddr,d]
 .change Sem.events P (do Extern.Atomic.read (.int .u64) (<-asAddr (.pointer (some _)))) w _=_;simp[Extern.Atomic.read,asAddr,d,events_load]
theorem V.sW {d m:Int} (h:WL P b ops i op f (Extern.Atomic.casT (.int .u64)) args env [.pointer (some ⟨s,0,none⟩),.int .u64 d,.int .u64 m] nt)
  (p:∀φ a,Seen x s sp φ a->¬YY a=d->VQ P Q mn x b cs nt o ops rest k op env σ s φ a (.bool false))
  (r:∀φ a,Seen x s sp φ a->YY a=d->∃o' t',YY o'=m/\o'.YM=a.YM/\PJ a o'/\QC P Q mn x b cs nt o ops rest k op env σ s φ a (.bool true) o' t') :
  V P Q mn (one x) b cs nt o (.inRegion ops (i::rest)::k) env σ:=by
 refine .ext X7 VE VD h λw φ a n c=>.inl ?_;have e:=c.SE;have j:=c.NR 0;by_cases hv:YY a=d
 .obtain⟨o',t',t,u,l,v⟩:=r φ a n hv;subst hv;refine⟨.bool true,_,_,(congrArg (Sem.run P · w) (casT_eq _ _)).trans (run_cas_hit_entry e j),?_,PK (PM ⟨s,0,none⟩),c.Ln _,PN (.inl U) hd (PM ⟨s,0,none⟩),.inr ⟨o',t',c.Lo l.ZS l.g l.w ?_,v⟩⟩
  .exact(congrArg (Sem.events P · w _) (casT_eq _ _)).trans ((events_cas_hit_entry e j _).trans U)
  .rw[t,u];rfl
 .refine⟨.bool false,w,_,(congrArg (Sem.run P · w) (casT_eq _ _)).trans (run_cas_miss_entry e j hv),?_,PK (PL ⟨s,0,none⟩ false),Xp.refl _ _ _,PN (.inl U) hd (PL ⟨s,0,none⟩ false),.inl ⟨c,p φ a n hv⟩⟩;exact(congrArg (Sem.events P · w _) (casT_eq _ _)).trans ((events_cas_miss_entry e j hv _).trans U)
theorem V.EI {d:Int} (h:WL P b ops i op f (Extern.Atomic.update (Op.intArith .add) .u64 true) args env [.pointer (some ⟨s,0,none⟩),.int .u64 d] nt)
  (p:∀φ a,Seen x s sp φ a->∃o' t',YY o'=IntKind.u64.wrap (YY a+d)/\o'.YM=a.YM/\PJ a o'/\QC P Q mn x b cs nt o ops rest k op env σ s φ a (.int .u64 (YY o')) o' t') :
  V P Q mn (one x) b cs nt o (.inRegion ops (i::rest)::k) env σ:=by
 refine .ext X7 VE VD h λw φ a r c=>.inl ?_;have j:=c.SE;have l:=c.NR 0;obtain⟨o',t',m,t,e,n⟩:=p φ a r;rw[m] at n;refine⟨_,_,_,run_add_entry j l,(events_add_entry j l _).trans U,PK (PM ⟨s,0,none⟩),c.Ln _,PN (.inl U) hd (PM ⟨s,0,none⟩),.inr ⟨o',t',c.Lo e.ZS e.g e.w ?_,n⟩⟩;rw[m,t];rfl
end
theorem AZ {w:World} {a:Addr} {n:Int} {vs:List Value} (b:vs[0]?=some (.pointer (some a))) (c:w.cell? a=some (.int .u32 n)) (d:n≠0) (e:w.frozen? a=false):(Extern.Sync.semacquire vs.toArray).run P w=.ok (.tuple #[]) (w.setCell a (.int .u32 (n-1))):=by
 simp[Extern.Sync.semacquire,Extern.Sync.count,b,c,d,e,Extern.Sync.none_,run_store P w a (.int .u32 (n-1)) .atomic U,Result.andThen]
theorem AY {w:World} {a:Addr} {n:Int} {vs:List Value} (b:vs[0]?=some (.pointer (some a))) (c:w.cell? a=some (.int .u32 n)) (d:n≠0) (e:w.frozen? a=false) (es:Array Event):(Extern.Sync.semacquire vs.toArray).events P w es=es++semEvents a:=by
 simp[Extern.Sync.semacquire,Extern.Sync.count,b,c,d,e,semEvents,events_load,events_store P w _ a (.int .u32 (n-1)) .atomic U,run_store P w a (.int .u32 (n-1)) .atomic U,Result.evThen];apply Og;simp
theorem AX {w:World} {a:Addr} {vs:List Value} (b:vs[0]?=some (.pointer (some a))) (c:w.cell? a=some (.int .u32 0)):(Extern.Sync.semacquire vs.toArray).run P w=.halt .blocked w:=by
 simp[Extern.Sync.semacquire,Extern.Sync.count,b,c]
theorem AW {w:World} {a:Addr} {n:Int} {vs:List Value} (b:vs[0]?=some (.pointer (some a))) (c:w.cell? a=some (.int .u32 n)) (d:w.frozen? a=false):(Extern.Sync.semrelease vs.toArray).run P w=.ok (.tuple #[]) (w.setCell a (.int .u32 (IntKind.u32.wrap (n+1)))):=by
 simp[Extern.Sync.semrelease,Extern.Sync.count,b,c,d,Extern.Sync.none_,Op.intArith,run_store P w a (.int .u32 (IntKind.u32.wrap (n+1))) .atomic U,Result.andThen]
theorem AV {w:World} {a:Addr} {n:Int} {vs:List Value} (b:vs[0]?=some (.pointer (some a))) (c:w.cell? a=some (.int .u32 n)) (d:w.frozen? a=false) (es:Array Event):(Extern.Sync.semrelease vs.toArray).events P w es=es++semEvents a:=by
 simp[Extern.Sync.semrelease,Extern.Sync.count,b,c,d,semEvents,Op.intArith,events_load,events_store P w _ a (.int .u32 (IntKind.u32.wrap (n+1))) .atomic U,run_store P w a (.int .u32 (IntKind.u32.wrap (n+1))) .atomic U,Result.evThen];apply Og;simp
theorem GY {s b c d:Nat} {sp:Spec} (e:Yc s sp b):RD s sp d (semEvents ⟨b,c,none⟩):=by
 refine⟨by simp[deafBehind,semEvents],λj y a=>?_⟩
 match j,a with
 | 0,a=>simp[semEvents] at a;subst a;exact .inl rfl
 | 1,a=>simp[semEvents] at a;subst a;exact .inr (.inr ⟨b,c,false,rfl,e,by simp[semEvents,deafBehind]⟩)
 | 2,a=>simp[semEvents] at a;subst a;exact .inr (.inr ⟨b,c,true,rfl,e,by simp[semEvents,deafBehind]⟩)
 | 3,a=>simp[semEvents] at a;subst a;exact .inr (.inl rfl)
 | j+4,a=>simp[semEvents] at a
section
variable {s m:Nat} {sp:Spec} (X7:X4 x) (VE:x.spec s=some sp) (VD:¬XE (x.tok s))
include X7 VE VD
theorem V.sV (e:sp.ZS=some m) (j:vs[0]?=some (.pointer (some ⟨m,1,none⟩))) (u:∀r,r≠s->Tg (x.tok r)) (h:WL P b ops i op f Extern.Sync.semacquire args env vs nt)
  (v:∀φ a,Seen x s sp φ a->a.Yz=0->UG a (x.tok s))
  (y:∀φ a,Seen x s sp φ a->0<a.Yz->∃o' t',mwd o'=mwd a/\o'.Yz=a.Yz-1/\Lm a o'/\QC P Q mn x b cs nt o ops rest k op env σ s φ a (.tuple #[]) o' t') :
  V P Q mn (one x) b cs nt o (.inRegion ops (i::rest)::k) env σ:=by
 refine .ext X7 VE VD h λw φ a l c=>?_;have d:a.ZS=some m:=by rw[l.spec];exact e
 have n:=c.A3 d;by_cases hv:a.Yz=0
 .exact .inr ⟨v φ a l hv,u,AX j (by rw[n,hv];rfl)⟩
 .obtain⟨o',t',A,B,p,C⟩:=y φ a l I;have t:((a.Yz:Nat):Int)≠0:=I;refine .inl ⟨_,_,_,AZ j n t (c.Lp d 1),AY j n t (c.Lp d 1) _,semEvents_sync _,c.G1 d e _,GY (.inr e),.inr ⟨o',t',c.G2 d p.ZS p.g p.w ?_,C⟩⟩;rw[A,B,show((a.Yz:Nat):Int)-1=((a.Yz-1:Nat):Int) by omega];rfl
theorem V.sU (d:vs[0]?=some (.pointer (some ⟨s,1,none⟩))) (p:∀l,l≠s->Tg (x.tok l)) (h:WL P b ops i op f Extern.Sync.semacquire args env vs nt)
  (r:∀φ a,Seen x s sp φ a->a.YM=0->UG a (x.tok s))
  (t:∀φ a,Seen x s sp φ a->0<a.YM->∃o' t',YY o'=YY a/\o'.YM=a.YM-1/\PJ a o'/\QC P Q mn x b cs nt o ops rest k op env σ s φ a (.tuple #[]) o' t') :
  V P Q mn (one x) b cs nt o (.inRegion ops (i::rest)::k) env σ:=by
 refine .ext X7 VE VD h λw φ a m c=>?_;have e:=c.Lq;by_cases hv:a.YM=0
 .exact .inr ⟨r φ a m hv,p,AX d (by rw[e,hv];rfl)⟩
 .obtain⟨o',t',u,v,j,y⟩:=t φ a m I;have n:((a.YM:Nat):Int)≠0:=I;refine .inl ⟨_,_,_,AZ d e n (c.NR 1),AY d e n (c.NR 1) _,semEvents_sync _,c.Ln _,GY (.inl U),.inr ⟨o',t',c.Lo j.ZS j.g j.w ?_,y⟩⟩;rw[u,v,show((a.YM:Nat):Int)-1=((a.YM-1:Nat):Int) by omega];rfl
theorem V.AU (e:sp.ZS=some m) (l:vs[0]?=some (.pointer (some ⟨m,1,none⟩))) (h:WL P b ops i op f Extern.Sync.semrelease args env vs nt)
  (r:∀φ a,Seen x s sp φ a->a.Yz<1000/\∃o' t',mwd o'=mwd a/\o'.Yz=a.Yz+1/\Lm a o'/\QC P Q mn x b cs nt o ops rest k op env σ s φ a (.tuple #[]) o' t') :
  V P Q mn (one x) b cs nt o (.inRegion ops (i::rest)::k) env σ:=by
 refine .ext X7 VE VD h λw φ a n c=>.inl ?_;have d:a.ZS=some m:=by rw[n.spec];exact e
 have p:=c.A3 d;obtain⟨y,o',t',t,u,j,v⟩:=r φ a n;refine⟨_,_,_,AW l p (c.Lp d 1),AV l p (c.Lp d 1) _,semEvents_sync _,c.G1 d e _,GY (.inr e),.inr ⟨o',t',c.G2 d j.ZS j.g j.w ?_,v⟩⟩;rw[t,u,show IntKind.u32.wrap (((a.Yz:Nat):Int)+1)=((a.Yz+1:Nat):Int) by simp only[IntKind.wrap_u32];omega];rfl
end
end
end Go.TL
namespace Go.TL
open Go.Proofs.Tryz
open Go.Conc
open Go.ConcM (OsLater)
open Go.ConcN (sumTo upd sumTo_upd upd_ne upd_same sumTo_congr le_sumTo)
open Go.ConcR (mk)
variable [Z1]
section
variable {P:Program} {T:Z2} {Q:Value->Prop} {mn:Bool} {x:Z5} {z:Wv} {b:Frame} {cs:Y3} {nt:Nat} {o:Base} {k:ZA} {env:Β} {σ:Ρ}
variable {ops:ZI} {i:Nat} {rest:κ} {op:Oper} {f:FuncId} {e:ν->Sem Value} {args:Array Operand} {vs:List Value} {fn:Func}
theorem Wq {S:ς} {B:δ} {l:List Value} {vs:ν} (h:XQ S B σ (l.map Ψ.z) vs):vs=l.toArray:=by
 apply Og;apply U';intro i;have b:=h.1;rw[SJ] at b;by_cases hi:i<l.length
 .have c:(l.map Ψ.z)[i]?=some (.z l[i]):=by rw[Ys,Z4 hi];rfl
  have a:vs[i]?=some vs[i]:=YS I
  have:=h.2 i _ _ c a
  have:vs[i]=l[i]:=by generalize vs[i]=u at this;cases this;rfl
  rw[Xr,a,this];simp[hi]
 .rw[Xr,Md I];simp;omega
theorem V.call (n:Seq z) (j:TA b ops i op) (p:XG env ops op=some true) {y:Operand} {ts:Array TypeId} (l:op.op=.call ⟨.value y,args,ts⟩) {g:FuncId} {first captured:ψ} (r:ο env y=.fn (.func g) first captured) (s:Plain P g)
  (h:∀(S:ς) (B:δ) (H:Υ) (t:ν) (vs:ν),Xw o.m o.S o.B o.H o.σ S B H σ->XR o.m nt S B H σ env t->XQ S B σ (first++args.toList.map (ο env)++captured) vs->
   μ P Q mn z (Frame.enter P g vs .normal) (χ b t (.inRegion ops (i::rest)::k)::cs) H):V P Q mn z b cs nt o (.inRegion ops (i::rest)::k) env σ:=by
 intro S B H t u a;refine .op n j.run j.op (UF a.Zt p) (.inr λc=>by rw[l];simp) ?_;have e:execOp (ZW t) op=(do let d <-Deferred.ofValue (ZW t y) (args.map (ZW t));invoke d.target d.args):=by unfold execOp;rw[l];rfl
 rw[e];have f:=TH a.Zt y;have v:=Bm a.Zt args;rw[r] at f;generalize ZW t y=M at f;cases f with
 | fn w x A C D E=>
  refine Χ.bind' (Χ.pure' ?_);obtain⟨fn,F,I,J⟩:=s;unfold invoke;simp only;unfold callFunc;refine Χ.bind' ?_;show Χ P (match P.funcs[g]? with|none=>_|some fn=>_) H _ _;rw[F];simp only[I,J,Xq,if_false];refine Χ.pure' ?_;have K:XQ S B σ first w:=⟨A,D⟩
  have L:XQ S B σ captured x:=⟨C,E⟩;exact h S B H t _ u a ((K.append v).append L)
theorem V.QB {g:FuncId} {body:Code} (e:P.funcs[g]?=some fn) (f:fn.body=some body) {c:Frame} {S:ς} {B:δ} {H:Υ} (j:Holds S B σ H) (k:vs.length<=fn.ntmps)
  (h:V P Q mn z (Frame.enter P g vs.toArray .normal) (c::cs) fn.ntmps ⟨S,[],H,[],0⟩ [.code body] (entry 0 (vs.map Ψ.z)) []):μ P Q mn z (Frame.enter P g vs.toArray .normal) (c::cs) H:=by
 rw[T7 e f];refine h.here (XR.enter j.bare ⟨Ω,λi a v b d=>?_⟩ (ZY _) (by simpa using k));simp only[Ys,List.getElem?_toArray] at b d;rw[d] at b;cases b;exact .z v
theorem V.AT (a:Seq z) (d:b.mode=.run) (e:b.roundOf=none) (f:b.defers=[]) (g:b.kind=.normal) (i:P.funcs[b.fn]?=some fn) (j:fn.results=#[]) {c:Frame}
  (h:∀(S:ς) (B:δ) (H:Υ),Xw o.m o.S o.B o.H o.σ S B H σ->Holds S B σ H->μ P Q mn z (c.finish (.tuple #[])) cs H):V P Q mn z b (c::cs) nt o (.code .ret::k) env σ:=by
 intro S B H t l n;refine .ret a d e (.back a U f (.inl g) i ?_);rw[results_none j];exact Χ.pure' (h S B H l n.holds)
theorem V.GX (a:Seq z) (d:b.mode=.run) (e:b.roundOf=none) (f:b.defers=[]) (g:b.kind=.normal) (i:P.funcs[b.fn]?=some fn) (j:fn.results=#[]) {c:Frame}
  (h:∀(S:ς) (B:δ) (H:Υ),Xw o.m o.S o.B o.H o.σ S B H σ->Holds S B σ H->μ P Q mn z (c.finish (.tuple #[])) cs H):V P Q mn z b (c::cs) nt o [] env σ:=by
 intro S B H t k l;refine .Rt a d e (.back a U f (.inl g) i ?_);rw[results_none j];exact Χ.pure' (h S B H k l.holds)
theorem V.OL (a:Seq z) (g:b.mode=.run) (i:b.roundOf=none) (j:b.defers=[]) (l:b.kind=.normal) (n:P.funcs[b.fn]?=some fn) {d:Nat} (p:fn.results=#[.tmp d]) {v:Value} (hv:ι env d=.z v) {c:Frame}
  (h:∀(S:ς) (B:δ) (H:Υ),Xw o.m o.S o.B o.H o.σ S B H σ->Holds S B σ H->μ P Q mn z (c.finish v) cs H):V P Q mn z b (c::cs) nt o (.code .ret::k) env σ:=by
 intro S B H t r f;refine .ret a g i (.back a U j (.inl l) n ?_);have e:results fn t=pure (t.getD d undef):=by unfold results;rw[p];simp
 have s:t.getD d undef=v:=by
  have:=f.Zt d;rw[hv] at this;generalize t.getD d undef=u at this;cases this;rfl
 show Χ P (results fn t) H _ _;rw[e,s];exact Χ.pure' (h S B H r f.holds)
theorem sT {w:World} {b:TypeId} {e:IntKind} (c:P.underlying b=some (.int e)) {a:Addr} {v:Value} (d:w.cell? a=some v):(Instr.loadAt b (.pointer (some a))).run P w=.ok v w/\(Instr.loadAt b (.pointer (some a))).events P w #[]=#[⟨.cell a,false,false⟩]:=by
 constructor
 .simp[Instr.loadAt,Instr.sureAddr,loadVar,isAgg,run_underlying c,d,Result.andThen]
 .simp[Instr.loadAt,Instr.sureAddr,loadVar,isAgg,run_underlying c,d,events_load,Result.evThen]
theorem sS {t:ν} {w:World} (a:TA b ops i op) (g:Region.wanted op (yielded ops t)=true) {d:TypeId} {y:Operand} (h:op.op=.load d y) {j:IntKind} (l:P.underlying d=some (.int j)) {c:Addr} (m:ZW t y=.pointer (some c)) {v:Value} (n:w.cell? c=some v) (o:(P.funcs[b.fn]?).any (·.norace)=true) :
  stepG P mn (Go.Conc.G (χ b t (.inRegion ops (i::rest)::k)) cs) w=.go (Go.Conc.G (χ b (put op t v) (.inRegion ops rest::k)) cs) w #[]:=by
 obtain⟨f,p⟩:=sT (P:=P) l n;have e:execOp (ZW t) op=(do pure (.value (<-Instr.loadAt d (.pointer (some c))))):=by unfold execOp;rw[h,<-m]
 rw[Xn a.run a.ro,Xn a.run a.ro,<-OM];have r:(execOp (⟨t,b.defers⟩:_root_.Go.Act).eval op).run P w=.ok (.value v) w:=by rw[UY,e];simp[f,Result.andThen]
 have s:(execOp (⟨t,b.defers⟩:_root_.Go.Act).eval op).events P w #[]=#[⟨.cell c,false,false⟩]:=by rw[UY,e];simp[f,p,Result.evThen]
 rw[stepG_value a.op g a.kd r];unfold listed;rw[s,seen_def,o];simp[seenStep]
section
variable {s:Nat} {sp:Spec} (X7:X4 x) (VE:x.spec s=some sp) (VD:¬XE (x.tok s))
include X7 VE VD
theorem V.Ll (l:TA b ops i op) (hd:WS nt op=true) (m:XG env ops op=some true) {f:TypeId} {y:Operand} (n:op.op=.load f y) {c:IntKind} (p:P.underlying f=some (.int c)) {g:Addr} (r:ο env y=.z (.pointer (some g))) (u:(P.funcs[b.fn]?).any (·.norace)=true)
  (d:γ->Int) (v:∀(a:γ) (w:World),a.toSpec=sp->At s a w->w.cell? g=some (.int c (d a)))
  (A:∀φ a,Seen x s sp φ a->VQ P Q mn x b cs nt o ops rest k op env σ s φ a (.int c (d a))\/∃t',QC P Q mn x b cs nt o ops rest k op env σ s φ a (.int c (d a)) a t') :
  V P Q mn (one x) b cs nt o (.inRegion ops (i::rest)::k) env σ:=by
 refine .atomic X7 VE VD hd m λt w φ a B _ C j e D E=>.inl ?_;refine⟨.int c (d a),w,#[],sS l C n p (B _ _ r) (v a w j e) u,Xp.refl _ _ _,A1,?_⟩;exact(A φ a ⟨j,D,E⟩).imp (λh=>⟨e,h⟩) λ⟨t',F,H⟩=>⟨a,t',F,e,.inr U,H⟩
theorem V.conv (c:TA b ops i op) (hd:WS nt op=true) (n:XG env ops op=some true) {src dst t0:TypeId} {y:Operand} (p:op.op=.convert src dst y) (f:P.underlying src=some (.pointer t0)) (g:P.underlying dst=some .unsafePointer) (h:(P.info? t0).map (λi=>decide (i.size=0))=some false) {d:Addr} (r:ο env y=.z (.pointer (some d)))
  (u:∀(a:γ) (w:World),a.toSpec=sp->At s a w->∃v,w.cell? d=some v)
  (A:∀φ a,Seen x s sp φ a->VQ P Q mn x b cs nt o ops rest k op env σ s φ a (.pointer (some d))) :
  V P Q mn (one x) b cs nt o (.inRegion ops (i::rest)::k) env σ:=by
 refine .atomic X7 VE VD hd n λt w φ a B _ C j l D E=>.inl ?_;obtain⟨v,hv⟩:=u a w j l;refine⟨.pointer (some d),w,#[],?_,Xp.refl _ _ _,A1,.inl ⟨l,A φ a ⟨j,D,E⟩⟩⟩;have m:=run_convert_to_unsafe (P:=P) f g h hv;have F:=events_convert_to_unsafe (P:=P) f g h hv #[];have e:execOp (ZW t) op=(do pure (.value (<-convert src dst (.pointer (some d))))):=by unfold execOp;rw[p,<-B _ _ r]
 rw[Xn c.run c.ro,Xn c.run c.ro,<-OM];have H:(execOp (⟨t,b.defers⟩:_root_.Go.Act).eval op).run P w=.ok (.value (.pointer (some d))) w:=by rw[UY,e];simp[m,Result.andThen]
 have I:(execOp (⟨t,b.defers⟩:_root_.Go.Act).eval op).events P w #[]=#[]:=by rw[UY,e];simp[m,F,Result.evThen]
 rw[stepG_value c.op C c.kd H];unfold listed;rw[I,seen_none]
end
theorem sR (w:World):OsLater w.os w.later.os:=⟨w.tick,rfl⟩
theorem Yy.later {H:Υ} {w:World} (h:Fits H w):Yy H w H w.later #[]:=
 ⟨⟨h.ω,h.row,h.obj,h.thaw⟩,⟨ZY _,λb c t d a=>⟨c,d,a,U,λ_ _=>rfl,.inl U⟩,λb x a _ _=>a,sR w,U,U⟩,⟨λb o v p h=>.inr ⟨v,p,h,id⟩,λb h=>.inr h⟩,λe f=>by simp at f⟩
theorem V.nano (g:Seq z) (h:WL P b ops i op f Extern.OsHooks.nano args env vs nt) (c:(P.funcs[f]?).any (·.norace)=true) (j:∀τ:Int,V P Q mn z b cs nt o (.inRegion ops rest::k) (Zu op env (.z (.int .i64 τ))) σ):V P Q mn z b cs nt o (.inRegion ops (i::rest)::k) env σ:=by
 intro S B H t l d;obtain⟨fn,e,m,n,p,r⟩:=h.Rq;obtain⟨ts,s⟩:=h.call;rw[e] at c;refine μ.own g λw u=>⟨_,_,_,_,H,?_,Yy.later u,j ((w.os.mono+w.tick:Nat):Int) S B H _ l (d.put h.dst (.z _))⟩;rw[Xn h.at_.run h.at_.ro,stepG_nanotime (a:=⟨t,b.defers⟩) h.at_.op (UF d.Zt h.want) h.at_.kd s e m n p r (by simpa using c),OM,<-Xn h.at_.run h.at_.ro]
theorem V.canSpin (e:Seq z) {n:Int} (h:WL P b ops i op f Extern.Sync.canSpin args env [.int .i64 n] nt) (g:∀y:Bool,(y=true->n<4)->V P Q mn z b cs nt o (.inRegion ops rest::k) (Zu op env (.z (.bool y))) σ):V P Q mn z b cs nt o (.inRegion ops (i::rest)::k) env σ:=by
 intro S B H t j c;obtain⟨fn,l,m,p,r,s⟩:=h.Rq;obtain⟨ts,u⟩:=h.call;have v:args.map (⟨t,b.defers⟩:_root_.Go.Act).eval=#[.int .i64 n]:=by rw[UY];exact h.JU.ZW c.Zt
 by_cases x:n<4
 .refine μ.own e λw d=>⟨_,_,_,_,H,?_,(Yy.start d).draw (w.drawn+1),g w.spins (λ_=>x) S B H _ j (c.put h.dst (.z _))⟩;rw[Xn h.at_.run h.at_.ro,stepG_canSpin_ask (a:=⟨t,b.defers⟩) h.at_.op (UF c.Zt h.want) h.at_.kd u l m p r s v x,OM,<-Xn h.at_.run h.at_.ro];rfl
 .refine μ.own e λw d=>⟨_,_,w,#[],H,?_,Yy.start d,g false (λh=>by cases h) S B H _ j (c.put h.dst (.z _))⟩;rw[Xn h.at_.run h.at_.ro,stepG_canSpin_no (a:=⟨t,b.defers⟩) h.at_.op (UF c.Zt h.want) h.at_.kd u l m p r s v I,OM,<-Xn h.at_.run h.at_.ro]
theorem V.GW (c:Seq z) {v:Value} (h:WL P b ops i op f (λ_=>pure v) args env vs nt) (d:V P Q mn z b cs nt o (.inRegion ops rest::k) (Zu op env (.z v)) σ):V P Q mn z b cs nt o (.inRegion ops (i::rest)::k) env σ:=
 λS B H t e a=>μ.own c λw g=>⟨_,_,w,#[],H,h.step a.Zt Ω Ω Ω,Yy.start g,d S B H _ e (a.put h.dst (.z v))⟩
theorem V.EH (g:Seq z) (c:TA b ops i op) (j:XG env ops op=some true) (d:op.dst=none) {ts:Array TypeId} (l:op.op=.defer ⟨.value (.func f),#[],ts⟩)
  (h:V P Q mn z {b with defers:=Go.Conc.dcall f #[]::b.defers} cs nt o (.inRegion ops rest::k) env σ):V P Q mn z b cs nt o (.inRegion ops (i::rest)::k) env σ:=by
 intro S B H t m e;have n:put op t undef=t:=by unfold put;rw[d]
 refine μ.still g (f':=χ {b with defers:=Go.Conc.dcall f #[]::b.defers} t (.inRegion ops rest::k)) (cs':=cs) (λw=>?_) (h S B H t m e);rw[Xn c.run c.ro,stepG_defer (a:=⟨t,b.defers⟩) c.op (UF e.Zt j) c.kd l];have:(⟨t,Go.Conc.dcall f #[]::b.defers⟩:_root_.Go.Act).put op.dst undef=⟨t,Go.Conc.dcall f #[]::b.defers⟩:=by rw[d];rfl
 simp only[Array.map_empty,List.map_toArray,L7];rw[this,Xn (b:={b with defers:=Go.Conc.dcall f #[]::b.defers}) c.run c.ro];rfl
theorem ZE.sQ (e:X4 x) (hd:0<x.deaf) (c:b.mode=.run) (d:b.roundOf=none) {ds:List Deferred} (g:b.defers=Go.Conc.dcall f #[]::ds) (i:Entry P f (λ_=>do mark .enable;pure Extern.Race.none_)) {H:Υ} {t:ν}
  (h:ZE P Q mn {x with deaf:=x.deaf-1} {χ {b with defers:=ds} t k with mode:=.returning} cs H):ZE P Q mn x {χ b t k with mode:=.returning} cs H:=by
 obtain⟨fn,j,l,m,n,o⟩:=i;refine Goes.step e.ok (.inr ⟨⟨U,U⟩,.inr (.inl ⟨Go.Conc.G {χ {b with defers:=ds} t k with mode:=.returning} cs,⟨U,U⟩,.inr ⟨hd,λw _=>⟨?_,h⟩⟩⟩)⟩);rw[Xn c d,Xn (b:={b with defers:=ds}) c d];exact stepG_unwind_entry (a:=⟨t,b.defers⟩) (v:=.tuple #[]) g j l m n o (G4 .enable) (G3 .enable _) (QE Ω)
end
inductive Quiet (P:Program) (mn:Bool):Goroutine->Goroutine->Prop where
 | nil (g:Goroutine):Quiet P mn g g
 | cons {g g' a:Goroutine}:Vv g->(∀w,stepG P mn g w=.go g' w #[])->Quiet P mn g' a->Quiet P mn g a
section
variable {P:Program} {Q:Value->Prop} {mn:Bool} {x:Z5} {g g':Goroutine}
theorem Quiet.runs (h:Quiet P mn g g') (a:Vv g'):Vv g:=by
 cases h with
 | nil=>exact a
 | cons b=>exact b
theorem Quiet.goes (h:Quiet P mn g g') (i:X4 x) (d:Vv g') (f:Goes P Q mn g' x):Goes P Q mn g x:=by
 induction h with
 | nil=>exact f
 | cons j k l m=>
  refine Goes.step i.ok (.inr ⟨j,.inl λw n hv=>?_⟩);rw[k w];refine⟨x.G,x.Z8,l.runs d,Xp.refl _ _ _,n,hv,⟨λb o v p h=>.inr ⟨v,p,h,id⟩,λb h=>.inr h⟩,λb c h=>.inl h,λe a=>by simp at a,λb c _ _ e a=>by simp at a,m d f⟩
end
end Go.TL
namespace Go.TL
open Go.Proofs.Tryz
open Go.Conc Go.Proofs
variable [Z1]
theorem EG {S S':ς} {B B':δ} {H H':Υ} (b:Ext S B H S' B' H') {L:Nat} {y:Obj} (c:¬B.has L) (a:H.obj L=some y):¬B'.has L/\H'.obj L=some y:=by
 have d:¬H.fresh L:=λh=>by rw[h.2.2.1] at a;cases a
 exact⟨λh=>(b.blocks L h).elim c d,by rw[(b.X0 L c d).2.2];exact a⟩
theorem AS {H:Υ} {L:Nat} {y:Obj} (f:H.XI L):∀b,(H.Zq L y).fresh b↔H.fresh b:=by
 obtain⟨z,g⟩:=f;have d:∀b,((H.Zq L y).obj b=none↔H.obj b=none):=λb=>by
  by_cases e:b=L
  .subst e;simp[Υ.Zq,g]
  .simp[Υ.Zq,e]
 exact λb=>⟨λh=>⟨h.1,h.2.1,(d b).1 h.2.2.1,λa c=>⟨(h.2.2.2 a c).1,(h.2.2.2 a c).2.1,(d a).1 (h.2.2.2 a c).2.2⟩⟩,
  λh=>⟨h.1,h.2.1,(d b).2 h.2.2.1,λa c=>⟨(h.2.2.2 a c).1,(h.2.2.2 a c).2.1,(d a).2 (h.2.2.2 a c).2.2⟩⟩⟩
theorem Holds.Zq {S:ς} {B:δ} {σ:Ρ} {H:Υ} {L:Nat} {y:Obj} (a:Holds S B σ H) (i:¬B.has L):Holds S B σ (H.Zq L y):=by
 have d:∀b,b≠L->Vk H (H.Zq L y) b:=λb c=>⟨λ_=>rfl,U,by simp[Υ.Zq,c]⟩
 have f:∀(id b N:Nat),B[id]?=some (some (b,N))->b≠L:=λid b N h e=>i (e▸TI h);refine⟨a.Zf,a.len,λid r bo j g=>?_,a.inj,a.sep⟩;by_cases k:r.live
 .refine(a.row id r bo j g).later (ZJ.refl S B σ) (λb N e=>d b (f id b N (by rw[g,e]))) λm left l e=>⟨U,U,λb N c=>d b (f m b N c)⟩
 .cases r<;>first|exact absurd trivial k|trivial
theorem Ext.Zq {f S:ς} {g B:δ} {c H:Υ} {L:Nat} {y:Obj} (a:Ext f g c S B H) (i:c.fresh L) (j:H.XI L):Ext f g c S B (H.Zq L y):=by
 refine⟨a.Zf,λb d h=>?_,a.blocks,a.TJ,λb d=>a.grow b ((AS j b).1 d)⟩;have:b≠L:=λe=>h (e▸i);obtain⟨k,l,m⟩:=a.X0 b d h;exact⟨k,l,by simp[Υ.Zq,this,m]⟩
end Go.TL
namespace Go.TL
open Go.Proofs.Tryz
open Go.Proofs
theorem W.sP [Z1] {nt:Nat} {E:Yb} {m:Nat} {k:ZA} {env:Β} {σ:Ρ} {Z:XD} {is a:κ} (_:is=is) (_:a=a) {ops:ZI} {l:κ} (c:l=is++a) (h:∀b:Β->Ρ->Prop,(∀env σ,W prog m nt (.inRegion ops a::k) env σ Z E->b env σ)->run prog ξ [] nt ops is env σ b E):W prog m nt (.inRegion ops l::k) env σ Z E:=W.part Ο is a c h
theorem XN (a b:κ) {p q:Prop} (k:q) (h:a=a->b=b->q->p:=by intro c d k;refine W.sP c d U λf e=>?_;(try simp);(repeat (rw[Η];simp));apply e;exact k):p:=h U U k
end Go.TL
namespace Go.TL
open Go.Proofs.Tryz
open Go.Conc Go.Proofs
open Go.ConcN (sumTo upd sumTo_upd upd_ne upd_same sumTo_congr le_sumTo)
theorem EF {B:Type} (f:Nat->B) (s:Nat) (a b:B):upd (upd f s a) s b=upd f s b:=by
 funext i;unfold upd;split<;>rfl
def ZU (x:Z5) (s:Nat) (t:Tok) (v:Option (Nat×γ)) (d:Nat):Z5:={x with tok:=upd x.tok s t,view:=upd x.view s v,deaf:=d}
section
variable {x:Z5} {s:Nat} {t t':Tok} {v GV:Option (Nat×γ)} {d iL:Nat}
theorem WK:({ZU x s t v d with tok:=upd (ZU x s t v d).tok s t',view:=upd (ZU x s t v d).view s GV}:Z5)=ZU x s t' GV d:=by unfold ZU;simp only[EF]
theorem UE:({ZU x s t v d with view:=upd (ZU x s t v d).view s GV}:Z5)=ZU x s t GV d:=by unfold ZU;simp only[EF]
theorem JS:({ZU x s t v d with deaf:=(ZU x s t v d).deaf+1}:Z5)=ZU x s t v (d+1):=rfl
theorem JR:({ZU x s t v d with deaf:=(ZU x s t v d).deaf-1}:Z5)=ZU x s t v (d-1):=rfl
theorem Zp:(ZU x s t v d).tok s=t:=by unfold ZU;simp only[upd_same]
theorem Rl:(ZU x s t v d).view s=v:=by unfold ZU;simp only[upd_same]
theorem NQ {r:Nat} (h:r≠s):(ZU x s t v d).tok r=x.tok r:=by unfold ZU;exact upd_ne _ _ h
theorem sO:ZU x s (x.tok s) (x.view s) x.deaf=x:=by
 unfold ZU;have e:∀{B:Type} (f:Nat->B),upd f s (f s)=f:=λf=>by funext i;unfold upd;split<;>simp_all
 rw[e,e]
end
theorem EE {N:Nat} {τ:Nat->Tok} {φ a:Tok->Nat} (h:∀t,φ t<=a t):ZQ N τ φ<=ZQ N τ a:=by
 induction N with
 | zero=>exact ZY _
 | succ N b=>rw[Nj,Nj];have:=h (τ N);omega
theorem sN {N:Nat} {τ:Nat->Tok} {φ a:Tok->Nat}:ZQ N τ (λt=>φ t+a t)=ZQ N τ φ+ZQ N τ a:=by
 induction N with
 | zero=>rfl
 | succ N b=>simp only[Nj,b];omega
structure OK (a:γ) (t:Tok):Prop where
 Y4:a.Y4<=1
 wk:a.wk<=1
 sv:a.sv<=1
 Yz:a.Yz<=1
 nw:a.nw<=a.top
 sM:Tk t=1->a.sv=0/\a.wk=1
 hw:SG t=1->a.sv=1/\a.wk=0/\a.Y4=0/\1<=a.nw
 hold:VM t=1->a.Y4=1
 sL:TR t=1->(a.sv=0->a.wk=1)/\(a.sv=1->a.wk=0/\a.Y4=0/\1<=a.nw)
theorem Ni.SD {c:γ} {t:Tok} (h:Ni c t):OK c t:=by
 obtain⟨N,τ,i,⟨g,j⟩,hi,k,_⟩:=h;have l:=Xy τ VM hi;have l2:=Xy τ Tk hi;have n:=Xy τ SG hi;have o:=Xy τ TR hi;rw[k] at l l2 n o;have p:ZQ N τ TS+ZQ N τ TR<=ZQ N τ TQ:=by
  rw[<-sN];refine EE λt=>?_;cases t<;>simp[TS,TR,TQ];rename_i m _;cases m<;>simp[KF,KE]
 have r:ZQ N τ SG<=ZQ N τ TR:=EE λt=>by
  cases t<;>simp[SG,TR];rename_i m _;cases m<;>simp[IN,KE]
 obtain⟨f1,f2,f3,s,a,b,u,v,w⟩:=g;obtain⟨x,y,A,B,C,D,E,F,H⟩:=j;have d:c.sv=0\/c.sv=1:=I;refine⟨f1,f2,f3,?_,?_,λf=>?_,λf=>?_,λf=>?_,λf=>⟨λe=>?_,λe=>?_⟩⟩
 .rcases d with e|e
  .have:=a e;omega
  .have:=b e;omega
 .rcases d with e|e
  .have:=a e;omega
  .have:=b e;omega
 .rcases d with e|e
  .have:=a e;omega
  .have:=b e;omega
 .rcases d with e|e
  .have:=a e;omega
  .have:=b e;omega
 .omega
 .have:=a e;omega
 .have:=b e;omega
structure sK (a:γ) (t:Tok):Prop where
 wt:a.wt<=1
 cnt:a.cnt<=a.top
 YM:a.YM<=1
 live:Vn t<=a.cnt
 add:∀n p,t=.par n p .add->a.wt=0/\a.YM=0/\n<=a.top/\p<=a.cnt/\a.cnt<=n
 fin:∀n p,t=.par n p .Sk\/t=.par n p .w4\/t=.par n p .YG->a.wt=0/\a.YM=0/\a.cnt=0
 l2:∀k m,t=.ch k m .l2->a.wt=1/\a.cnt=0
 Q2:∀k m,t=.ch k m .Q2->a.wt=0/\a.cnt=0/\a.YM=0
theorem Ni.OJ {r:γ} {t:Tok} (h:Ni r t):sK r t:=by
 obtain⟨N,τ,i,⟨D,d⟩,hi,a,_⟩:=h;have y:=Xy τ Vn hi;have l2:=Xy τ UI hi;have s:=Xy τ UH hi;rw[a] at y l2 s;have E:ZQ N τ Vn<=ZQ N τ TQ:=EE λt=>by
  cases t<;>simp[Vn,TQ];rename_i g;cases g<;>simp[Pa]
 unfold RF at d;have u:XX t=1->ZQ N τ Wk=Wk t/\ZQ N τ VL=VL t/\ZQ N τ Tj=Tj t/\ZQ N τ TP=TP t/\ZQ N τ VK=VK t:=λf=>by
  have A:XX (τ i)=1:=by rw[a];exact f
  refine⟨?_,?_,?_,?_,?_⟩<;>(rw[QZ (λt a=>by cases t<;>simp_all [XX,Wk,VL,Tj,TP,VK]) d.Sg hi A,a])
 obtain⟨B,F,H,J,K,b,j,c,L⟩:=d;have l:ZQ N τ Tj=1\/ZQ N τ TP=1\/ZQ N τ VK=1:=I;refine⟨B,I,?_,I,λn p e=>?_,λn p e=>?_,λk m e=>?_,λk m e=>?_⟩
 .rcases l with e|e|e
  .have:=b e;omega
  .have:=j e;omega
  .have:=c e;omega
 .subst e;obtain⟨v,w,o,C,x⟩:=u U;simp only[Wk,VL,Tj] at v w o;have:=b o;omega
 .have f:XX t=1:=by rcases e with rfl|rfl|rfl<;>rfl
  obtain⟨v,w,o,C,x⟩:=u f;have:ZQ N τ VK=1:=by rw[x];rcases e with rfl|rfl|rfl<;>rfl
  have:=c this;omega
 .subst e;simp only[UI,Nm] at l2;rcases l with e|e|e
  .have:=b e;omega
  .have:=j e;omega
  .have:=c e;omega
 .subst e;simp only[UH,Nl] at s;rcases l with e|e|e
  .have:=b e;omega
  .have:=j e;omega
  .have:=c e;omega
abbrev WE (a b c n:Nat):Int:=(a:Int)+2*b+4*c+8*n
theorem ED:∀a<2,∀b<2,∀c<2,∀n<8,U4 .i32 (WE a b c n) 5=a+4*c:=by decide +kernel
theorem EC:∀a<2,∀b<2,∀c<2,∀n<8,U4 .i32 (WE a b c n) 4=4*c:=by decide +kernel
theorem sJ:∀a<2,∀b<2,∀c<2,∀n<8,U4 .i32 (WE a b c n) 3=a+2*b:=by decide +kernel
theorem sI:∀a<2,∀b<2,∀c<2,∀n<8,U4 .i32 (WE a b c n) 7=a+2*b+4*c:=by decide +kernel
theorem GU:∀a<2,∀b<2,∀c<2,∀n<8,U4 .i32 (WE a b c n) 2=2*b:=by decide +kernel
theorem sH:∀a<2,∀b<2,∀c<2,∀n<8,U4 .i32 (WE a b c n) 1=a:=by decide +kernel
theorem sG:∀a<2,∀b<2,∀c<2,∀n<8,Sb .i32 (WE a b c n) 1=WE 1 b c n:=by decide +kernel
theorem sF:∀a<2,∀b<2,∀c<2,∀n<8,Sb .i32 (WE a b c n) 2=WE a 1 c n:=by decide +kernel
theorem sE:∀a<2,∀b<2,∀c<2,∀n<8,Sb .i32 (WE a b c n) 4=WE a b 1 n:=by decide +kernel
theorem EB:∀a<2,∀b<2,∀c<2,∀n<8,LX .i32 (WE a b c n) 2=WE a 0 c n:=by decide +kernel
theorem EA:∀a<2,∀b<2,∀c<2,∀n<8,(WE a b c n).fdiv (2 ^ min 3 IntKind.i32.bits)=n:=by decide +kernel
theorem sD:∀a<2,∀b<2,∀c<2,∀n<7,IntKind.i32.wrap (WE a b c n+8)=WE a b c (n+1):=by decide +kernel
theorem Rk (a:γ):mwd a=WE a.Y4 a.wk a.sv a.nw:=rfl
theorem ME:Entry prog 111 (λ_=>do mark .disable;pure Extern.Race.none_):=⟨_,func111,by kernel_rfl,by kernel_rfl,by kernel_rfl,by kernel_rfl⟩
theorem PI:Entry prog 112 (λ_=>do mark .enable;pure Extern.Race.none_):=⟨_,func112,by kernel_rfl,by kernel_rfl,by kernel_rfl,by kernel_rfl⟩
theorem Ez:Entry prog 110 (Extern.Race.marked .releaseMerge):=⟨_,func110,by kernel_rfl,by kernel_rfl,by kernel_rfl,by kernel_rfl⟩
theorem JQ:Entry prog 129 (Extern.Race.marked .acquire):=⟨_,func129,by kernel_rfl,by kernel_rfl,by kernel_rfl,by kernel_rfl⟩
theorem sC:Entry prog 118 (Extern.Race.marked .read):=⟨_,func118,by kernel_rfl,by kernel_rfl,by kernel_rfl,by kernel_rfl⟩
theorem sB:Entry prog 132 (Extern.Race.marked .write):=⟨_,func132,by kernel_rfl,by kernel_rfl,by kernel_rfl,by kernel_rfl⟩
theorem AR:Entry prog 113 (λ_=>pure (.bool false)):=⟨_,func113,by kernel_rfl,by kernel_rfl,by kernel_rfl,by kernel_rfl⟩
theorem GR:Entry prog 169 (Extern.Atomic.casT (.int .i32)):=⟨_,func169,by kernel_rfl,by kernel_rfl,by kernel_rfl,by kernel_rfl⟩
theorem AQ:Entry prog 171 (Extern.Atomic.update (Op.intArith .add) .i32 true):=⟨_,func171,by kernel_rfl,by kernel_rfl,by kernel_rfl,by kernel_rfl⟩
theorem sA:Entry prog 173 (Extern.Atomic.casT (.int .u64)):=⟨_,func173,by kernel_rfl,by kernel_rfl,by kernel_rfl,by kernel_rfl⟩
theorem AP:Entry prog 161 (Extern.Atomic.update (Op.intArith .add) .u64 true):=⟨_,func161,by kernel_rfl,by kernel_rfl,by kernel_rfl,by kernel_rfl⟩
theorem AO:Entry prog 162 (Extern.Atomic.loadT (.int .u64)):=⟨_,func162,by kernel_rfl,by kernel_rfl,by kernel_rfl,by kernel_rfl⟩
theorem sy:Entry prog 163 Extern.Atomic.storeT:=⟨_,func163,by kernel_rfl,by kernel_rfl,by kernel_rfl,by kernel_rfl⟩
theorem sx:Entry prog 211 Extern.Sync.canSpin:=⟨_,func211,by kernel_rfl,by kernel_rfl,by kernel_rfl,by kernel_rfl⟩
theorem sw:Entry prog 212 (λ_=>pure (.tuple #[])):=⟨_,func212,by kernel_rfl,by kernel_rfl,by kernel_rfl,by kernel_rfl⟩
theorem AN:Entry prog 214 Extern.OsHooks.nano:=⟨_,func214,by kernel_rfl,by kernel_rfl,by kernel_rfl,by kernel_rfl⟩
theorem su:Entry prog 215 Extern.Sync.semacquire:=⟨_,func215,by kernel_rfl,by kernel_rfl,by kernel_rfl,by kernel_rfl⟩
theorem ss:Entry prog 133 Extern.Sync.semacquire:=⟨_,func133,by kernel_rfl,by kernel_rfl,by kernel_rfl,by kernel_rfl⟩
theorem AM:Entry prog 217 Extern.Sync.semrelease:=⟨_,func217,by kernel_rfl,by kernel_rfl,by kernel_rfl,by kernel_rfl⟩
theorem sr:Entry prog 122 Extern.Sync.semrelease:=⟨_,func122,by kernel_rfl,by kernel_rfl,by kernel_rfl,by kernel_rfl⟩
theorem PH:prog.underlying 199=some .unsafePointer:=by kernel_rfl
theorem JP:prog.underlying 249=some (.pointer 134):=by kernel_rfl
theorem JO:(prog.info? 134).map (λi=>decide (i.size=0))=some false:=by kernel_rfl
theorem Ey:prog.underlying 197=some (.pointer 142):=by kernel_rfl
theorem Ex:(prog.info? 142).map (λi=>decide (i.size=0))=some false:=by kernel_rfl
theorem AL:prog.underlying 204=some (.pointer 132):=by kernel_rfl
theorem AK:(prog.info? 132).map (λi=>decide (i.size=0))=some false:=by kernel_rfl
theorem Lk:prog.underlying 21=some (.int .i32):=by kernel_rfl
theorem μ.leave0 [Z1] {P:Program} {d:Value->Prop} {mn:Bool} {z:Wv} {c b:Frame} {rest:Y3} {H:Υ} {t:ν} {ops:ZI} {fn:Func} (a:Seq z) (e:b.mode=.run) (f:b.roundOf=none) (g:b.defers=[]) (i:b.kind=.normal) (j:P.funcs[b.fn]?=some fn) (k:fn.results=#[])
  (h:μ P d mn z (c.finish (.tuple #[])) rest H):μ P d mn z (χ b t [.inRegion ops []]) (c::rest) H:=by
 refine .ZM a e (.Rt a e f (.back a U g (.inl i) j ?_));rw[results_none k];exact Χ.pure' h
theorem ZE.leave0 [Z1] {P:Program} {a:Value->Prop} {mn:Bool} {x:Z5} {c b:Frame} {rest:Y3} {H:Υ} {t:ν} {ops:ZI} {fn:Func} (d:Seq (one x)) (e:b.mode=.run) (f:b.roundOf=none) (g:b.defers=[]) (i:b.kind=.normal) (j:P.funcs[b.fn]?=some fn) (k:fn.results=#[])
  (h:ZE P a mn x (c.finish (.tuple #[])) rest H):ZE P a mn x (χ b t [.inRegion ops []]) (c::rest) H:=
 μ.leave0 (z:=one x) d e f g i j k (λy l=>by cases l;exact h) x U
structure VC (x:Z5) (s m:Nat) (sp:Spec):Prop where
 rel:x.rel=false
 Z8:x.Z8=λ_=>none
 spec:x.spec s=some sp
 ZS:sp.ZS=some m
 top:sp.top<7
 still:∀a,a≠s->Tg (x.tok a)
theorem VC.seq {x:Z5} {s m:Nat} {sp:Spec} (h:VC x s m sp):∀t v d,@Seq Yo (one (ZU x s t v d)):=λt v d=>@Seq.QF Yo _ trivial h.rel h.Z8
theorem ZE.so [Z1] {P:Program} {d:Value->Prop} {mn:Bool} {x:Z5} {c b:Frame} {rest:Y3} {H:Υ} {t:ν} {ops:ZI} {k:ZA} {fn:Func} (a:Seq (one x)) (e:b.mode=.run) (f:b.roundOf=none) (g:b.defers=[]) (i:b.kind=.normal) (j:P.funcs[b.fn]?=some fn) (l:fn.results=#[])
  (h:ZE P d mn x (c.finish (.tuple #[])) rest H):ZE P d mn x (χ b t (.inRegion ops []::.code .ret::k)) (c::rest) H:=by
 refine μ.ZM (x:=one x) a e (.ret a e f (.back a U g (.inl i) j ?_)) x U;rw[results_none l];exact Χ.pure' (λy m=>by cases m;exact h)
abbrev ptr (b o:Nat):Value:=.pointer (some ⟨b,o,none⟩)
section
variable {Q:Value->Prop} {mn:Bool} {x:Z5} {c:Frame} {rest:Y3} {S:ς} {B:δ} {σ:Ρ} {H:Υ} {s m k:Nat} {sp:Spec} {v:Option (Nat×γ)}
def OI (Q:Value->Prop) (mn:Bool) (x:Z5) (c:Frame) (rest:Y3) (S:ς) (H:Υ) (s k:Nat) (sp:Spec):Prop:=
 ∀(S':ς) (H':Υ) (L:κ) (E:Υ),Ext S [] H S' [] H'->Holds S' [] [] H'->sp.X1 L E->Apart H' E->(L.Nodup/\k∉L/\∃w,Fits H' w/\Fits E w)->ZE prog Q mn (ZU x s (.ch k (.YJ L) .work) none 0) (c.finish (.tuple #[])) rest (join H' E)
def AJ (Q:Value->Prop) (mn:Bool) (x:Z5) (s m k:Nat) (sp:Spec):Prop:=∀(c:Frame) (rest:Y3) (S:ς) (B:δ) (σ:Ρ) (H:Υ) (v:Option (Nat×γ)),Holds S B σ H->OI Q mn x c rest S H s k sp->
 ZE prog Q mn (ZU x s (.ch k (.act false) .work) v 1) (Frame.enter prog 170 #[ptr m 0] .normal) (c::rest) H
theorem sn (b:VC x s m sp) (u:Holds S B σ H) (A:AJ Q mn x s m k sp)
  (r:OI Q mn x c rest S H s k sp):ZE prog Q mn (ZU x s (.ch k .idle .work) v 0) (Frame.enter prog 127 #[ptr m 0] .normal) (c::rest) H:=by
 letI:Z1:=Yo;have a:=b.seq;refine V.QB (z:=one _) (vs:=[ptr m 0]) func127 U u (by simp[ntmps127]) ?_ _ U;refine V.Zk (a _ _ _) ?_;refine ZO ?_;refine W.Zs (.stop ?_);refine V.disable (a _ _ _).here ⟨⟨U,U,by simp[Frame.enter],U⟩,ME,⟨_,U⟩,U,U,U⟩ ?_;rw[JS];refine V.Zk (a _ _ _) ?_;refine W.ZM ?_;refine ZO ?_;refine W.Zs ?_;refine XN [0,1,2] [3] ?_;refine W.stop ?_;refine V.GZ (a _ _ _).here (U8 _) (sp:=sp) b.spec (by rw[Zp];exact id) b.ZS ⟨⟨U,U,by simp[Frame.enter],U⟩,GR,⟨_,U⟩,U,U,U⟩ (λφ d t hv=>?_) (λφ d t hv=>?_)
 .refine .inr ⟨.ch k (.act false) .work,by rw[Zp];exact .ym,λC _=>?_⟩;rw[WK];refine V.Zk (a _ _ _) ?_;refine W.ZM ?_;refine ZO ?_;refine Κ U ?_;refine ZO ?_;refine W.Zs ?_;refine XN [0] [1] ?_;refine W.stop ?_;refine V.call (a _ _ _) ⟨U,U,by simp[Frame.enter],U⟩ U U U ⟨_,func170,U,U⟩ λh f i t1 N j e hv=>?_;obtain rfl:=Wq (l:=[ptr m 0]) hv;rintro y rfl;refine A _ _ h f _ i _ e.holds λD F L E I J n o p=>?_;rw[V4 U];refine ZE.leave0 (a _ _ _) U U U U func127 U ?_;obtain rfl:f=[]:=YZ.1 e.holds.len;exact r D F L E (j.ext.trans I) J n o p
 .have g:d.Y4=0/\d.sv=0/\d.wk=0/\d.nw=0:=by simp only[mwd] at hv;omega
  refine⟨{d with Y4:=1},.ch k .own .work,by simp[mwd];omega,U,⟨U,U,U⟩,by rw[Zp];exact .yn g.1 g.2.1 g.2.2.1 g.2.2.2,λC _=>?_⟩;rw[WK];refine V.Zk (a _ _ _) ?_;refine W.ZM ?_;refine ZO ?_;refine Ι U ?_;refine ZO ?_;refine Ι U ?_;refine ZO ?_;refine W.Zs (.stop ?_);refine V.enable (a _ _ _).here (U8 _) ⟨⟨U,U,by simp[Frame.enter],U⟩,PI,⟨_,U⟩,U,U,U⟩ ?_;rw[JR];refine V.Zk (a _ _ _) ?_;refine W.ZM ?_;refine ZO ?_;refine W.Zs ?_;refine XN [0] [1,2] ?_;refine W.stop ?_;refine V.conv (a _ _ _).here (sp:=sp) b.spec (by rw[Zp];exact id) ⟨U,U,by simp[Frame.enter],U⟩ U U U JP PH JO U (λd w K M=>⟨_,M.QD (by rw[K];exact b.ZS)⟩) (λφ d t=>?_);unfold VQ;rw[UE];refine V.Iv b.rel U (sp:=sp) b.spec b.ZS Zp ⟨⟨U,U,by simp[Frame.enter],U⟩,JQ,⟨_,U⟩,U,U,U⟩ λh f i t1 L E j e n o p=>?_;rw[WK];obtain rfl:f=[]:=YZ.1 e.holds.len;refine ZE.so (a _ _ _) U U U U func127 U ?_;exact r h i L E j.ext e.holds n o p
end
def YP:κ->Code->Code
 | [],c=>c
 | 0::l,.seq a _=>YP l a
 | _::l,.seq _ b=>YP l b
 | 0::l,.cond _ a _=>YP l a
 | _::l,.cond _ _ b=>YP l b
 | _::l,.block _ c=>YP l c
 | _::l,.loop c=>YP l c
 | _,c=>c
noncomputable def QA:Code:=f170.body.getD .skip
noncomputable def S0:Code:=YP [1,1,1,1,1,0,0,0] QA
noncomputable def Qz:Code:=YP [0,1] S0
noncomputable def PG:Code:=YP [1,1,1,1,1] Qz
noncomputable def SZ:Code:=YP [1,0] PG
noncomputable def JN:Code:=YP [1,1,1,1,1,1] QA
noncomputable def T4:ZA:=[.inLoop S0,.inBlock 0,.code JN]
abbrev UX (a:Value->Prop) (mn:Bool) (x:Z5) (c:Frame) (rest:Y3) (S:ς) (H:Υ) (s m:Nat) (t:Tok) (v:Option (Nat×γ)) (d:Nat) (K:ZA) (env:Β):Prop:=
 V prog a mn (one (ZU x s t v d)) (Frame.enter prog 170 #[ptr m 0] .normal) (c::rest) 139 ⟨S,[],H,[],0⟩ K env []
def YO (m:Nat) (w:Int) (a st:Bool) (b τ:Int):Β:=[(0,.z (ptr m 0)),(2,.z (.int .i64 τ)),(3,.z (.bool st)),(4,.z (.bool a)),(5,.z (.int .i64 b)),(6,.z (.int .i32 w))]
def Rj (a b c n:Nat) (d st:Bool):Int:=
 if a=0/\c=0 then WE 1 (if d then 0 else b) 0 n else WE a (if d then 0 else b) (if st=true/\a=1 then 1 else c) (n+1)
section
variable {Q:Value->Prop} {mn:Bool} {x:Z5} {c:Frame} {rest:Y3} {S:ς} {B:δ} {σ:Ρ} {H:Υ} {s m k:Nat} {sp:Spec} {v:Option (Nat×γ)} {t:Tok}
theorem sm (C:VC x s m sp) {a b e n:Nat} {j st:Bool} {y τ:Int} (p:a<2) (r:b<2) (u:e<2) (D:n<7) (E:j=true->e=0/\b=1) (L:st=true->j=true)
  (f:UX Q mn x c rest S H s m t v 1 (.code (YP [0] PG)::.code (YP [1] PG)::.inBlock 1::T4) (YO m (WE a b e n) j st y τ++[(7,.z (.int .i32 (Rj a b e n j st)))])) :
  UX Q mn x c rest S H s m t v 1 (.code Qz::.inBlock 1::T4) (YO m (WE a b e n) j st y τ):=by
 letI:Z1:=Yo;have F:=C.seq;have A:(a=0\/a=1)/\(e=0\/e=1):=I;have g:=EC a p b r e u n I;have h:=ED a p b r e u n I;have B:=sH a p b r e u n I;have k:=sG a p b r e u n I;have w:=sD a p b r e u n D;refine V.Zk (F _ _ _) ?_;unfold Qz S0 QA;cases j with
 | false=>
  have J:st=false:=by cases st<;>simp_all
  subst J;rcases A with⟨rfl|rfl,rfl|rfl⟩
  ·(repeat (first|apply WQ|apply wb|apply Ws|apply wd|refine Ι rfl ?_|refine Κ rfl ?_|(refine YF λi d=>?_;simp;(repeat (rw[Η];simp[YO,g,h,k]));apply d)));exact W.forget _ (by simp[YO,Rj]) (.stop f)
  ·(repeat (first|apply WQ|apply wb|apply Ws|apply wd|refine Ι rfl ?_|refine Κ rfl ?_|(refine YF λi d=>?_;simp;(repeat (rw[Η];simp[YO,g,h,w]));apply d)));exact W.forget _ (by simp[YO,Rj]) (.stop f)
  ·(repeat (first|apply WQ|apply wb|apply Ws|apply wd|refine Ι rfl ?_|refine Κ rfl ?_|(refine YF λi d=>?_;simp;(repeat (rw[Η];simp[YO,g,h,k,w]));apply d)));exact W.forget _ (by simp[YO,Rj]) (.stop f)
  ·(repeat (first|apply WQ|apply wb|apply Ws|apply wd|refine Ι rfl ?_|refine Κ rfl ?_|(refine YF λi d=>?_;simp;(repeat (rw[Η];simp[YO,g,h,w]));apply d)));exact W.forget _ (by simp[YO,Rj]) (.stop f)
 | true=>
  obtain⟨rfl,rfl⟩:=E U;rcases A with⟨rfl|rfl,-⟩
  .have l:=GU 1 I 1 I 0 I n I
   have o:=EB 1 I 1 I 0 I n I;cases st
   ·(repeat (first|apply WQ|apply wb|apply Ws|apply wd|refine Ι rfl ?_|refine Κ rfl ?_|(refine YF λi d=>?_;simp;(repeat (rw[Η];simp[YO,g,h,k,l,o]));apply d)));exact W.forget _ (by simp[YO,Rj]) (.stop f)
   ·(repeat (first|apply WQ|apply wb|apply Ws|apply wd|refine Ι rfl ?_|refine Κ rfl ?_|(refine YF λi d=>?_;simp;(repeat (rw[Η];simp[YO,g,h,B,k,l,o]));apply d)));exact W.forget _ (by simp[YO,Rj]) (.stop f)
  .cases st
   .have l:=GU 1 I 1 I 0 I (n+1) I
    have o:=EB 1 I 1 I 0 I (n+1) I;(repeat (first|apply WQ|apply wb|apply Ws|apply wd|refine Ι rfl ?_|refine Κ rfl ?_|(refine YF λi d=>?_;simp;(repeat (rw[Η];simp[YO,g,h,k,w,l,o]));apply d)));exact W.forget _ (by simp[YO,Rj]) (.stop f)
   .have K:=sE 1 I 1 I 0 I (n+1) I
    have l:=GU 1 I 1 I 1 I (n+1) I
    have o:=EB 1 I 1 I 1 I (n+1) I;(repeat (first|apply WQ|apply wb|apply Ws|apply wd|refine Ι rfl ?_|refine Κ rfl ?_|(refine YF λi d=>?_;simp;(repeat (rw[Η];simp[YO,g,h,B,k,w,K,l,o]));apply d)));exact W.forget _ (by simp[YO,Rj]) (.stop f)
theorem AI (a:VC x s m sp) (e:OI Q mn x c rest S H s k sp) {env:Β} (f:ι env 0=.z (ptr m 0)):UX Q mn x c rest S H s m (.ch k .own .work) v 1 [.code JN] env:=by
 letI:Z1:=Yo;have b:=a.seq;refine V.Zk (b _ _ _) ?_;unfold JN QA;refine Ι U ?_;refine ZO ?_;refine W.Zs (.stop ?_);refine V.enable (b _ _ _).here (U8 _) ⟨⟨U,U,by simp[Frame.enter],U⟩,PI,⟨_,U⟩,U,U,U⟩ ?_;rw[JR];refine V.Zk (b _ _ _) ?_;refine W.ZM ?_;refine ZO ?_;refine W.Zs ?_;refine W.part (A:=[]) Ο [0] [1,2] U λy g=>?_;simp;(repeat (rw[Η];simp[f]));apply g;refine W.stop ?_;refine V.conv (b _ _ _).here (sp:=sp) a.spec (by rw[Zp];exact id) ⟨U,U,by simp[Frame.enter],U⟩ U U U JP PH JO U (λh w i j=>⟨_,j.QD (by rw[i];exact a.ZS)⟩) (λφ h B=>?_);unfold VQ;rw[UE];refine V.Iv a.rel U (sp:=sp) a.spec a.ZS Zp ⟨⟨U,U,by simp[Frame.enter],U⟩,JQ,⟨_,U⟩,U,U,U⟩ λl n o t1 L E p d r t u=>?_;rw[WK];obtain rfl:n=[]:=YZ.1 d.holds.len;refine ZE.leave0 (b _ _ _) U U U U func170 U ?_;exact e l o L E p.ext d.holds r t u
end
section
variable {Q:Value->Prop} {mn:Bool} {x:Z5} {c:Frame} {rest:Y3} {S:ς} {B:δ} {σ:Ρ} {H:Υ} {s m k:Nat} {sp:Spec} {v:Option (Nat×γ)} {t:Tok}
theorem GQ:(prog.funcs[170]?).any (·.norace)=true:=by kernel_rfl
theorem AH:(prog.funcs[214]?).any (·.norace)=true:=by kernel_rfl
def JM (Q:Value->Prop) (mn:Bool) (x:Z5) (c:Frame) (rest:Y3) (S:ς) (H:Υ) (s m k:Nat) (sp:Spec) (φ:Nat):Prop:=
 ∀(e:Nat) (a:γ) (b st:Bool) (d τ:Int),e<φ->a.toSpec=sp->OK a (.ch k (.act b) .work)->(st=true->b=true)->0<=d->d<=4->UX Q mn x c rest S H s m (.ch k (.act b) .work) (some (e,a)) 1 T4 (YO m (mwd a) b st d τ)
theorem AG {a:γ} {b:Bool} (h:OK a (.ch k (.act b) .work)):b=true->a.sv=0/\a.wk=1:=λe=>h.sM (by rw[e];rfl)
theorem sk (e:VC x s m sp) (M:OI Q mn x c rest S H s k sp) {φ:Nat} (N:JM Q mn x c rest S H s m k sp φ) {u:Nat} {C:γ} (o:u<φ) {st:Bool} {τ:Int} :
  UX Q mn x c rest S H s m (.ch k .wk .work) (some (u,C)) 1 (.code (YP [1,1,1,1,1] SZ)::.inBlock 1::T4) [(0,.z (ptr m 0)),(2,.z (.int .i64 τ)),(3,.z (.bool st))]:=by
 letI:Z1:=Yo;have g:=e.seq;refine V.Zk (g _ _ _) ?_;unfold SZ PG Qz S0 QA;refine ZO ?_;refine W.Zs ?_;refine XN [0,1,2] [3,4] ?_;refine W.stop ?_;refine V.Ll (g _ _ _).here (sp:=sp) e.spec (by rw[Zp];exact id) ⟨U,U,by simp[Frame.enter],U⟩ U U U Lk U GQ mwd (λa w O P=>P.QD (by rw[O];exact e.ZS)) (λaa a p=>.inr ?_);have b:=p.Vg.SD;rw[Zp] at b;have hv:=p.view u C Rl;have D:=b.sL U;have ab:a.top<7:=by have:=e.top;rw[show a.top=sp.top by rw[<-p.spec]];exact this
 have ad:=b.nw
 have ae:=b.Y4;have af:=b.wk;have ag:=b.sv
 have i:=EC a.Y4 I a.wk I a.sv I a.nw I
 have l:=sJ a.Y4 I a.wk I a.sv I a.nw I
 have r:=EA a.Y4 I a.wk I a.sv I a.nw I;rw[<-Rk] at i l r;rcases(show a.sv=0\/a.sv=1 by omega) with f|f
 .refine⟨.ch k (.act true) .work,by rw[Zp];exact .norm f,λv R=>?_⟩;rw[WK];rw[f] at i;refine V.Zk (g _ _ _) ?_;refine W.part (A:=[]) Ο [4] [] U λE n=>?_;(try simp);(repeat (rw[Η];simp));(try simp);apply n;refine W.ZM ?_;refine Wc i ?_;refine W.forget (YO m (mwd a) true st 0 τ) (by simp[YO]) (.stop ?_);exact N v a true st 0 τ I p.spec ⟨b.Y4,b.wk,b.sv,b.Yz,b.nw,λ_=>⟨f,D.1 f⟩,λh=>(by cases h),λh=>(by cases h),λh=>(by cases h)⟩ (λ_=>rfl) I I
 .obtain⟨T,X,ah⟩:=D.2 f;refine⟨.ch k .hw .work,by rw[Zp];exact .hand f,λv R=>?_⟩;rw[WK];rw[f] at i;rw[T,X] at l;have y:¬a.nw=0:=I;have F:IntKind.i32.wrap (-11)=-11:=Z7;have Y:∀(w:Option (Nat×γ)) (env:Β),ι env 0=.z (ptr m 0)->UX Q mn x c rest S H s m (.ch k .own .work) w 1 [.code JN] env:=λw env h=>AI e M h;have add:∀(j:Bool) (env:Β),ι env 0=.z (ptr m 0)->ι env 9=.z (.int .i32 (if j then -11 else -7))->UX Q mn x c rest S H s m (.ch k .hw .work) (some (v,a)) 1 (.code (YP [1,1,1,1,1,1,0,1,0,1,1,1,0] SZ)::.code (YP [1,1,1,1,1,1,0,1,0,1,1,1,1] SZ)::.code (YP [1,1,1,1,1,1,1] SZ)::.inBlock 1::T4) env:=λj env o J=>by
   refine V.Zk (g _ _ _) ?_;unfold SZ PG Qz S0 QA;refine ZO ?_;refine W.Zs ?_;refine W.part (A:=[]) Ο [0,1,2,3] [4] U λE n=>?_;(try simp);(repeat (rw[Η];simp[o,J]));(try simp[o,J]);apply n;refine W.stop ?_;refine V.A0 (g _ _ _).here (U8 _) (sp:=sp) e.spec (by rw[Zp];exact id) e.ZS (d:=if j then -11 else -7) ⟨⟨U,U,by simp[Frame.enter],U⟩,AQ,⟨_,U⟩,U,U,U⟩ (λai t K=>?_);have B:=K.Vg.SD;rw[Zp] at B;obtain⟨f1,f2,f3,f4⟩:=B.hw U;have aj:t.top<7:=by have:=e.top;rw[show t.top=sp.top by rw[<-K.spec]];exact this
   have ak:=B.nw;refine⟨{t with Y4:=1,nw:=t.nw-1,sv:=if j then 0 else 1},.ch k .own .work,?_,U,⟨U,U,U⟩,by rw[Zp];exact .hacq j,λal _=>?_⟩
   .cases j<;>simp[mwd,IntKind.wrap_i32,f1,f2,f3]<;>omega
   .rw[WK];refine V.Zk (g _ _ _) ?_;refine W.ZM ?_;refine ZO ?_;refine W.exit U (.stop ?_);refine Y _ _ ?_;simp[o]
  refine V.Zk (g _ _ _) ?_;refine W.part (A:=[]) Ο [4] [] U λE n=>?_;(try simp);(repeat (rw[Η];simp));(try simp);apply n;refine W.ZM ?_;cases st with
  | false=>
   refine Wc (Ξ i (Ξ l (Ξ r (Ξ y F)))) ?_;exact .stop (add true _ U U)
  | true=>
   by_cases L:a.nw=1
   .refine Wc (Ξ i (Ξ l (Ξ r (Ξ y (Ξ L F))))) ?_;exact .stop (add true _ U U)
   .have Z:¬(a.nw:Int)=1:=I
    refine Wc (Ξ i (Ξ l (Ξ r (Ξ y (Ξ L Z))))) ?_;exact .stop (add false _ U U)
theorem sj (a:VC x s m sp) (p:OI Q mn x c rest S H s k sp) {φ:Nat} (r:JM Q mn x c rest S H s m k sp φ) {e:Nat} {i:γ} (B:e<φ) {st y:Bool} {τ:Int} :
  UX Q mn x c rest S H s m (.ch k .q .work) (some (e,i)) 1 (.code (YP [1,1,1,0] SZ)::.code (YP [1,1,1,1] SZ)::.inBlock 1::T4) [(0,.z (ptr m 0)),(2,.z (.int .i64 τ)),(3,.z (.bool st)),(8,.z (.bool y))]:=by
 letI:Z1:=Yo;have b:=a.seq;have next:∀(d:Nat) (j:γ) (st:Bool),d<φ->UX Q mn x c rest S H s m (.ch k .wk .work) (some (d,j)) 1 (.code (YP [1,1,1,1,1] SZ)::.inBlock 1::T4) [(0,.z (ptr m 0)),(2,.z (.int .i64 τ)),(3,.z (.bool st))]:=λd j st t=>sk a p r t
 refine V.Zk (b _ _ _) ?_;unfold SZ PG Qz S0 QA;refine ZO ?_;refine W.Zs ?_;refine XN [0,1,2,3] [4] ?_;refine W.stop ?_;refine V.sV (b _ _ _).here (sp:=sp) a.spec (by rw[Zp];exact id) a.ZS (vs:=[ptr m 1,.bool y,.int .i64 2]) U (λu l=>by rw[NQ l];exact a.still u l) ⟨⟨U,U,by simp[Frame.enter],U⟩,su,⟨_,U⟩,U,U,U⟩ (λd f n h=>by rw[Zp];exact h) (λd f n h=>?_);have hv:=n.view e i Rl;refine⟨{f with Yz:=f.Yz-1},.ch k .wk .work,U,U,⟨U,U,U⟩,by rw[Zp];exact .take h,λo C=>?_⟩;rw[WK];refine V.Zk (b _ _ _) ?_;refine W.ZM ?_;cases st with
 | true=>
  first|apply WQ|apply wb|apply Ws|apply wd
  refine YF λv g=>?_;(try simp);(repeat (rw[Η];simp));(try simp);apply g;refine W.forget [(0,.z (ptr m 0)),(2,.z (.int .i64 τ)),(3,.z (.bool true))] Ω (.stop ?_);exact next o _ true I
 | false=>
  first|apply WQ|apply wb|apply Ws|apply wd
  refine W.Zs ?_;refine XN [0,1] [2,3,4,5,6,7] ?_;refine W.stop ?_;refine V.nano (b _ _ _) (vs:=[]) ⟨⟨U,U,by simp[Frame.enter],U⟩,AN,⟨_,U⟩,U,U,U⟩ AH λw=>?_;refine V.Zk (b _ _ _) ?_;refine W.part (A:=[]) Ο [3,4,5,6,7] [] U λv g=>?_;(try simp);(repeat (rw[Η];simp));(try simp);apply g;refine W.ZM ?_;refine W.forget [(0,.z (ptr m 0)),(2,.z (.int .i64 τ)),(3,.z (.bool (decide (1000000<IntKind.i64.wrap (w-τ)))))] Ω (.stop ?_);exact next o _ _ I
theorem si (e:VC x s m sp) (l:OI Q mn x c rest S H s k sp) {φ:Nat} (n:JM Q mn x c rest S H s m k sp φ) {b:Nat} {f:γ} (o:b<φ) {w:Int} {p st:Bool} {r τ:Int} (g:¬U4 .i32 w 5=0) :
  UX Q mn x c rest S H s m (.ch k .q .work) (some (b,f)) 1 (.code SZ::.inBlock 1::T4) (YO m w p st r τ):=by
 letI:Z1:=Yo;have d:=e.seq;have next:∀(τ:Int) (y:Bool),UX Q mn x c rest S H s m (.ch k .q .work) (some (b,f)) 1 (.code (YP [1,1,1,0] SZ)::.code (YP [1,1,1,1] SZ)::.inBlock 1::T4) [(0,.z (ptr m 0)),(2,.z (.int .i64 τ)),(3,.z (.bool st)),(8,.z (.bool y))]:=λτ y=>sj e l n o
 refine V.Zk (d _ _ _) ?_;unfold SZ PG Qz S0 QA;by_cases h:τ=0
 .subst h;(repeat (first|apply WQ|apply wb|apply Ws|apply wd|refine Ι rfl ?_|refine Κ rfl ?_|(refine YF λi a=>?_;simp;(repeat (rw[Η];simp[YO,g]));apply a)));refine W.Zs (.stop ?_);refine V.nano (d _ _ _) (vs:=[]) ⟨⟨U,U,by simp[Frame.enter],U⟩,AN,⟨_,U⟩,U,U,U⟩ AH λj=>?_;refine V.Zk (d _ _ _) ?_;refine W.part (A:=[]) Ο [1] [] U λi a=>?_;(try simp);(repeat (rw[Η];simp));(try simp);apply a;refine W.ZM ?_
  first|apply WQ|apply wb|apply Ws|apply wd
  refine W.forget [(0,.z (ptr m 0)),(2,.z (.int .i64 j)),(3,.z (.bool st)),(8,.z (.bool false))] Ω (.stop ?_);exact next j false
 ·(repeat (first|apply WQ|apply wb|apply Ws|apply wd|refine Ι rfl ?_|refine Κ rfl ?_|(refine YF λi a=>?_;simp;(repeat (rw[Η];simp[YO,g,h]));apply a)));refine W.forget [(0,.z (ptr m 0)),(2,.z (.int .i64 τ)),(3,.z (.bool st)),(8,.z (.bool true))] (by simp[h]) (.stop ?_);exact next τ true
end
theorem AF {a b:γ} {t u:Tok} (c:OK a t) (d:OK b u) (h:mwd a=mwd b):a.Y4=b.Y4/\a.wk=b.wk/\a.sv=b.sv/\a.nw=b.nw:=by
 have:=c.Y4;have:=c.wk;have:=c.sv;have:=d.Y4;have:=d.wk;have:=d.sv;simp only[mwd] at h;omega
section
variable {Q:Value->Prop} {mn:Bool} {x:Z5} {c:Frame} {rest:Y3} {S:ς} {B:δ} {σ:Ρ} {H:Υ} {s m k:Nat} {sp:Spec} {v:Option (Nat×γ)} {t:Tok}
theorem JL (b:VC x s m sp) {a:γ} (h:a.toSpec=sp):a.top<7:=by have:=b.top;rw[show a.top=sp.top by rw[<-h]];exact this
theorem sh (d:VC x s m sp) (y:OI Q mn x c rest S H s k sp) {φ:Nat} {a:γ} (B:JM Q mn x c rest S H s m k sp φ) (p:a.toSpec=sp) {b st:Bool} {f τ:Int} (i:OK a (.ch k (.act b) .work)) (C:st=true->b=true) (O:0<=f) (P:f<=4) :
  UX Q mn x c rest S H s m (.ch k (.act b) .work) (some (φ,a)) 1 (.code (YP [0] PG)::.code (YP [1] PG)::.inBlock 1::T4) (YO m (mwd a) b st f τ++[(7,.z (.int .i32 (Rj a.Y4 a.wk a.sv a.nw b st)))]):=by
 letI:Z1:=Yo;have g:=d.seq;have ae:=AG i;have af:=JL d p;have ag:=i.Y4;have ah:=i.wk;have ai:=i.sv;have aj:=i.nw;have r:=ED a.Y4 I a.wk I a.sv I a.nw I;rw[<-Rk] at r;have R:∀(w:Option (Nat×γ)) (env:Β),ι env 0=.z (ptr m 0)->UX Q mn x c rest S H s m (.ch k .own .work) w 1 [.code JN] env:=λw env h=>AI d y h;have T:∀(t:Nat) (D:γ),t<φ->¬U4 .i32 (mwd a) 5=0->UX Q mn x c rest S H s m (.ch k .q .work) (some (t,D)) 1 (.code SZ::.inBlock 1::T4) (YO m (mwd a) b st f τ):=λt D X Y=>si d y B X Y;refine V.Zk (g _ _ _) ?_;unfold PG Qz S0 QA;refine W.Zs ?_;refine W.part (A:=[]) Ο [0,1,2,3,4] [5] U λZ u=>?_;(try simp);(repeat (rw[Η];simp[YO]));(try simp[YO]);apply u;refine W.stop ?_;refine V.GZ (g _ _ _).here (U8 _) (sp:=sp) d.spec (by rw[Zp];exact id) d.ZS ⟨⟨U,U,by simp[Frame.enter],U⟩,GR,⟨_,U⟩,U,U,U⟩ (λl e n hv=>.inl ?_) (λl e n hv=>?_)
 ·
  have E:=n.view φ a Rl
  have ak:l<φ:=by
   rcases Ns l φ with h|h
   .exact h
   .exact absurd (by rw[E.2 I]) hv
  unfold VQ;rw[UE];refine V.Zk (g _ _ _) ?_;refine W.ZM ?_;refine ZO ?_;refine Κ U ?_;refine W.Zs ?_;refine XN [0,1,2] [3,4] ?_;refine W.stop ?_;refine V.Ll (g _ _ _).here (sp:=sp) d.spec (by rw[Zp];exact id) ⟨U,U,by simp[Frame.enter],U⟩ U U U Lk U GQ mwd (λa w p aa=>aa.QD (by rw[p];exact d.ZS)) (λo F v=>.inl ?_);have al:=v.view l e Rl;have J:=v.Vg.SD;rw[Zp] at J;unfold VQ;rw[UE];refine V.Zk (g _ _ _) ?_;refine W.part (A:=[]) Ο [4] [] U λZ u=>?_;(try simp);(repeat (rw[Η];simp));(try simp);apply u;refine W.ZM ?_;refine W.inBlock ?_;refine W.forget (YO m (mwd F) b st f τ) (by simp[YO]) (.stop ?_);exact B o F b st f τ I v.spec J C O P
 .have E:=n.view φ a Rl
  have K:=n.Vg.SD;rw[Zp] at K;obtain⟨ab,L,M,N⟩:=AF K i hv;by_cases j:a.Y4=0/\a.sv=0
  .refine⟨{e with Y4:=1,wk:=if b then 0 else e.wk},.ch k .own .work,?_,U,⟨U,U,U⟩,by rw[Zp];exact .acq I I,λo ad=>?_⟩
   .simp[Rj,Rk,L,M,N,j.1,j.2]
   .rw[WK];rw[j.1,j.2] at r;refine V.Zk (g _ _ _) ?_;refine W.ZM ?_;refine ZO ?_;refine Ι U ?_;refine Wc r ?_;refine W.exit U (.stop ?_);exact R _ _ U
  .have am:a.Y4=1\/a.sv=1:=I
   refine⟨{e with nw:=e.nw+1,wk:=if b then 0 else e.wk,sv:=if(st&&decide (a.Y4=1)) then 1 else e.sv},.ch k .q .work,?_,U,⟨U,U,U⟩,by rw[Zp];exact .queue (st&&decide (a.Y4=1)) I (λh=>by simp at h;exact⟨C h.1,I⟩),λo ad=>?_⟩
   .simp only[Rj,if_neg j,Rk,ab,L,M,N];simp
   .rw[WK];refine V.Zk (g _ _ _) ?_;refine W.ZM ?_;refine ZO ?_;refine Ι U ?_;refine W.forget (YO m (mwd a) b st f τ) (by simp[YO]) (.stop ?_);exact T o _ I I
theorem sg (f:VC x s m sp) {φ:Nat} {b st:Bool} {a τ:Int} {g:Nat} {j:γ} (B:0<=a) (C:a<4)
  (r:∀(l:Nat) (e:γ),l<=g->e.toSpec=sp->OK e (.ch k (.act b) .work)->UX Q mn x c rest S H s m (.ch k (.act b) .work) (some (l,e)) 1 T4 (YO m (mwd e) b st (a+1) τ)) :
  UX Q mn x c rest S H s m (.ch k (.act b) .work) (some (g,j)) 1 (.code (YP [0,0,1,0,1,0] S0)::.code (YP [0,0,1,0,1,1] S0)::.code Qz::.inBlock 1::T4) [(0,.z (ptr m 0)),(2,.z (.int .i64 τ)),(3,.z (.bool st)),(4,.z (.bool b)),(5,.z (.int .i64 a))]:=by
 letI:Z1:=Yo;have d:=f.seq;have n:IntKind.i64.wrap (a+1)=a+1:=by simp only[IntKind.wrap_i64];omega
 refine V.Zk (d _ _ _) ?_;unfold S0 QA;refine ZO ?_;refine W.Zs (.stop ?_);refine V.GW (d _ _ _) (vs:=[]) ⟨⟨U,U,by simp[Frame.enter],U⟩,sw,⟨_,U⟩,U,U,U⟩ ?_;refine V.Zk (d _ _ _) ?_;refine W.ZM ?_;refine ZO ?_;refine YF λt h=>?_;(try simp);(repeat (rw[Η];simp[n]));(try simp[n]);apply h;refine ZO ?_;refine W.Zs ?_;refine XN [0,1,2] [3,4] ?_;refine W.stop ?_;refine V.Ll (d _ _ _).here (sp:=sp) f.spec (by rw[Zp];exact id) ⟨U,U,by simp[Frame.enter],U⟩ U U U Lk U GQ mwd (λD w u v=>v.QD (by rw[u];exact f.ZS)) (λy o i=>.inl ?_);have E:=i.view g j Rl;have p:=i.Vg.SD;rw[Zp] at p;unfold VQ;rw[UE];refine V.Zk (d _ _ _) ?_;refine W.part (A:=[]) Ο [4] [] U λt h=>?_;(try simp);(repeat (rw[Η];simp));(try simp);apply h;refine W.ZM ?_;refine W.exit U ?_;refine W.forget (YO m (mwd o) b st (a+1) τ) (by simp[YO]) (.stop ?_);exact r y o I i.spec p
theorem sf (p:VC x s m sp) (al:OI Q mn x c rest S H s k sp):∀(N φ:Nat) (a:γ) (f st:Bool) (d τ:Int),φ*8+(4-d).toNat<N->a.toSpec=sp->OK a (.ch k (.act f) .work)->(st=true->f=true)->0<=d->d<=4->
  UX Q mn x c rest S H s m (.ch k (.act f) .work) (some (φ,a)) 1 (.code S0::T4) (YO m (mwd a) f st d τ):=by
 letI:Z1:=Yo;have r:=p.seq;intro N
 induction N with
 | zero=>intro φ a f st d τ h;omega
 | succ N am=>
  intro φ a f st d τ ax Y t w Z an;have ao:=AG t;have ay:=JL p Y;have az:=t.Y4;have aA:=t.wk;have aB:=t.sv;have aC:=t.nw;have B:=ED a.Y4 I a.wk I a.sv I a.nw I;have l:=GU a.Y4 I a.wk I a.sv I a.nw I;have M:=sF a.Y4 I a.wk I a.sv I a.nw I;have C:=EA a.Y4 I a.wk I a.sv I a.nw I;rw[<-Rk] at B l C M;have aa:∀(n:Nat) (g:γ) (e u:Bool) (o D:Int),n*8+(4-o).toNat<N->g.toSpec=sp->OK g (.ch k (.act e) .work)->(u=true->e=true)->0<=o->o<=4->
    UX Q mn x c rest S H s m (.ch k (.act e) .work) (some (n,g)) 1 T4 (YO m (mwd g) e u o D):=λn g e u o D J K E i v O=>by
   have:=am n g e u o D J K E i v O;refine V.YA (r _ _ _) U ?_;exact W.inLoop (.stop this)
  have ap:JM Q mn x c rest S H s m k sp φ:=λn g e u o D J K E i v O=>aa n g e u o D I K E i v O
  have ab:UX Q mn x c rest S H s m (.ch k (.act f) .work) (some (φ,a)) 1 (.code Qz::.inBlock 1::T4) (YO m (mwd a) f st d τ):=by
   rw[Rk];exact sm p I I I I ao w (by rw[<-Rk];exact sh p al ap Y t w Z an)
  have F:∀(P:Nat) (ad:γ) (e:Bool),d<4->(P<=φ)->(st=true->e=true)->UX Q mn x c rest S H s m (.ch k (.act e) .work) (some (P,ad)) 1 (.code (YP [0,0,1,0,1,0] S0)::.code (YP [0,0,1,0,1,1] S0)::.code Qz::.inBlock 1::T4) [(0,.z (ptr m 0)),(2,.z (.int .i64 τ)),(3,.z (.bool st)),(4,.z (.bool e)),(5,.z (.int .i64 d))]:=λP ad e J K E=>
   sg p (φ:=φ) Z J λn g ae af R=>aa n g e st (d+1) τ I af R E I I
  refine V.Zk (r _ _ _) ?_;unfold S0 QA;refine ZO ?_;by_cases ag:a.Y4=1/\a.sv=0
  .rw[ag.1,ag.2] at B;refine W.Zs ?_;refine W.part (A:=[]) Ο [0,1,2,3,4] [5,6] U λj b=>?_;(try simp);(repeat (rw[Η];simp[YO,B]));(try simp[YO,B]);apply b;refine W.stop ?_;refine V.canSpin (r _ _ _) ⟨⟨U,U,by simp[Frame.enter],U⟩,sx,⟨_,U⟩,U,U,U⟩ λy aq=>?_;refine V.Zk (r _ _ _) ?_;refine W.part (A:=[]) Ο [6] [] U λj b=>?_;(try simp);(repeat (rw[Η];simp[YO]));(try simp[YO]);apply b;refine W.ZM ?_;cases y with
   | false=>
    refine Κ U ?_
    first|apply WQ|apply wb|apply Ws|apply wd
    refine W.forget (YO m (mwd a) f st d τ) (by simp[YO]) (.stop ?_);exact ab
   | true=>
    have i:=aq U;refine Ι U ?_;refine ZO ?_;cases f with
    | true=>
     (repeat (first|apply WQ|apply wb|apply Ws|apply wd|refine Ι rfl ?_|refine Κ rfl ?_|(refine YF λj b=>?_;simp;(repeat (rw[Η];simp[YO]));apply b)));refine W.forget [(0,.z (ptr m 0)),(2,.z (.int .i64 τ)),(3,.z (.bool st)),(4,.z (.bool true)),(5,.z (.int .i64 d))] Ω (.stop ?_);exact F φ a true i (ZY _) (λ_=>rfl)
    | false=>
     by_cases ah:a.wk=0
     .by_cases T:a.nw=0
      .rw[ah] at l;rw[T] at C;(repeat (first|apply WQ|apply wb|apply Ws|apply wd|refine Ι rfl ?_|refine Κ rfl ?_|(refine YF λj b=>?_;simp;(repeat (rw[Η];simp[YO,l,C]));apply b)));refine W.forget [(0,.z (ptr m 0)),(2,.z (.int .i64 τ)),(3,.z (.bool st)),(4,.z (.bool false)),(5,.z (.int .i64 d))] Ω (.stop ?_);exact F φ a false i (ZY _) w
      .rw[ah] at l;have ai:((a.nw:Int) != 0)=true:=by simp;omega
       refine W.Zs ?_;refine W.part (A:=[]) Ο [0,1,2,3,4,5,6,7,8,9,10,11,12,13,14,15,16,17,18] [19,20] U λj b=>?_;(try simp);(repeat (rw[Η];simp[YO,l,C,M,T,ai]));(try simp[YO,l,C,M,T,ai]);apply b;refine W.stop ?_;refine V.GZ (r _ _ _).here (U8 _) (sp:=sp) p.spec (by rw[Zp];exact id) p.ZS ⟨⟨U,U,by simp[Frame.enter],U⟩,GR,⟨_,U⟩,U,U,U⟩ (λaj X L hv=>.inl ?_) (λaj X L hv=>?_)
       .have ar:=L.view φ a Rl;unfold VQ;rw[UE];refine V.Zk (r _ _ _) ?_;refine W.part (A:=[]) Ο [20] [] U λj b=>?_;(try simp);(repeat (rw[Η];simp[YO]));(try simp[YO]);apply b;refine W.ZM ?_;refine Κ U ?_;refine ZO ?_;refine W.forget [(0,.z (ptr m 0)),(2,.z (.int .i64 τ)),(3,.z (.bool st)),(4,.z (.bool false)),(5,.z (.int .i64 d))] (by simp[YO]) (.stop ?_);exact F aj X false i I w
       .have ar:=L.view φ a Rl
        have ak:=L.Vg.SD;rw[Zp] at ak;obtain⟨ae,af,R,au⟩:=AF ak t hv;refine⟨{X with wk:=1},.ch k (.act true) .work,?_,U,⟨U,U,U⟩,by rw[Zp];exact .yl I I I I,λav aD=>?_⟩
        .simp[Rk,ae,R,au]
        .rw[WK];refine V.Zk (r _ _ _) ?_;refine W.part (A:=[]) Ο [20] [] U λj b=>?_;(try simp);(repeat (rw[Η];simp[YO]));(try simp[YO]);apply b;refine W.ZM ?_;refine Ι U ?_;refine YF λj b=>?_;(try simp);(repeat (rw[Η];simp[YO]));(try simp[YO]);apply b;refine ZO ?_;refine W.forget [(0,.z (ptr m 0)),(2,.z (.int .i64 τ)),(3,.z (.bool st)),(4,.z (.bool true)),(5,.z (.int .i64 d))] (by simp[YO]) (.stop ?_);exact F av _ true i I (λ_=>rfl)
     .have aw:a.wk=1:=I
      rw[aw] at l;(repeat (first|apply WQ|apply wb|apply Ws|apply wd|refine Ι rfl ?_|refine Κ rfl ?_|(refine YF λj b=>?_;simp;(repeat (rw[Η];simp[YO,l]));apply b)));refine W.forget [(0,.z (ptr m 0)),(2,.z (.int .i64 τ)),(3,.z (.bool st)),(4,.z (.bool false)),(5,.z (.int .i64 d))] Ω (.stop ?_);exact F φ a false i (ZY _) w
  .have v:¬U4 .i32 (mwd a) 5=1:=by rw[B];omega
   refine YF λj b=>?_;(try simp);(repeat (rw[Η];simp[YO,v]));(try simp[YO,v]);apply b;refine Κ U ?_
   first|apply WQ|apply wb|apply Ws|apply wd
   refine W.forget (YO m (mwd a) f st d τ) (by simp[YO]) (.stop ?_);exact ab
theorem se (a:VC x s m sp):AJ Q mn x s m k sp:=by
 intro c rest S B σ H v j l;letI:Z1:=Yo;have b:=a.seq;have n:=λφ d o st e τ p r t u y=>sf a l (φ*8+(4-e).toNat+1) φ d o st e τ (Pe _) p r t u y;refine V.QB (z:=one _) (vs:=[ptr m 0]) func170 U j (by simp[ntmps170]) ?_ _ U;refine V.Zk (b _ _ _) ?_;refine Wd ?_;refine W.Zs ?_;refine XN [0,1,2] [3,4] ?_;refine W.stop ?_;refine V.Ll (b _ _ _).here (sp:=sp) a.spec (by rw[Zp];exact id) ⟨U,U,by simp[Frame.enter],U⟩ U U U Lk U GQ mwd (λd w C D=>D.QD (by rw[C];exact a.ZS)) (λE f g=>.inl ?_);have i:=g.Vg.SD;rw[Zp] at i;unfold VQ;rw[UE];refine V.Zk (b _ _ _) ?_;refine W.part (A:=[]) Ο [4] [] U λJ F=>?_;(try simp);(repeat (rw[Η];simp));(try simp);apply F;refine W.ZM ?_;refine ZO ?_;refine W.loop ?_;refine W.forget (YO m (mwd f) false false 0 0) (by simp[YO]) (.stop ?_);exact n E f false false 0 0 g.spec i (λh=>by cases h) I I
theorem AE (a:VC x s m sp) (e:Holds S B σ H) (f:OI Q mn x c rest S H s k sp):ZE prog Q mn (ZU x s (.ch k .idle .work) v 0) (Frame.enter prog 78 #[ptr m 0] .normal) (c::rest) H:=by
 letI:Z1:=Yo;have b:=a.seq;refine V.QB (z:=one _) (vs:=[ptr m 0]) func78 U e (by simp[ntmps78]) ?_ _ U;refine V.Zk (b _ _ _) ?_;refine ZO ?_;refine W.Zs ?_;refine XN [0,1,2] [3] ?_;refine W.stop ?_;refine V.call (b _ _ _) ⟨U,U,by simp[Frame.enter],U⟩ U U U ⟨_,func127,U,U⟩ λu g w t1 A h d hv=>?_;obtain rfl:=Wq (l:=[ptr m 0]) hv;obtain rfl:g=[]:=YZ.1 d.holds.len;rintro y rfl;refine sn a d.holds (se a) λi j L E n o p r t=>?_;rw[V4 U];refine ZE.leave0 (b _ _ _) U U U U func78 U ?_;exact f i j L E (h.ext.trans n) o p r t
end
end Go.TL
