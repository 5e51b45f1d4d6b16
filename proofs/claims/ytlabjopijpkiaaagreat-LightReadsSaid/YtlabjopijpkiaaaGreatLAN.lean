import Derived.Test.YtlabjopijpkiaaaGreatLAL
set_option maxHeartbeats 16000000
set_option maxRecDepth 20000
set_option linter.unusedSectionVars false
set_option linter.unusedSimpArgs false
set_option linter.unusedVariables false
namespace Go.TL
open Go.Proofs.Tryz
open Go.Proofs
variable [ZP]
@[simp] theorem nn:W5 ZS 147 0=some (0,29):=by kernel_rfl
theorem qW {c:Type} [DecidableEq c] (l:List c) (p:Nat):(Yg (l.take p)).length<=p:=by
 have gen:∀(l:List c) (a:c),(Vj a l).length<=l.length:=by
  intro l
  induction l with
  | nil=>intro a;simp[Vj]
  | cons b l d=>
   intro a;simp only[Vj];split
   .have:=d a;simp;omega
   .have:=d b;simp;omega
 cases h:l.take p with
 | nil=>simp[Yg]
 | cons a m=>
  have e:(a::m).length<=p:=by rw[<-h];simp;omega
  have:=gen m a;simp only[Yg,List.length_cons] at e ⊢;omega
theorem qV (a:Ψ) (b:ς 0 a):Κ prog 183 [.sl true 0 [],I 0,I 0,a] (.ZY []):=by
 refine Μ.body Ο func183 U U ntmps183 U U Ω ?_;refine Χ ?_;refine .loop ?_;refine Χ ?_;refine Η U ?_;refine W.exit U ?_;exact W.nil ⟨_,U,YR.refl _,U⟩
theorem qU (d:Nat) (a:Ψ) (b:ς 0 a):Κ prog 149 [.sl true 0 [],I 0,I 0,I d,a] (.ZY []):=by
 refine Μ.body Ο func149 U U ntmps149 U U Ω ?_;refine Χ ?_;refine .loop ?_;refine Χ ?_;refine Ζ U ?_;refine Z8 λf e=>?_;refine Κ.c (qV a b) (ZN.refl _) (by simp[b]) Ω ?_;simp;(repeat (rw[Θ];simp));apply e;exact W.ret ⟨_,U,YR.refl _,U⟩
theorem qT (a:Ψ) (b:ς 0 a):Κ prog 117 [.sl true 0 [],a] (.ZY []):=by
 refine Μ.body Ο func117 U U ntmps117 U U Ω ?_;have Ρ:IntKind.u64.wrap (0:Int)=0:=ZT;refine Χ ?_;(repeat apply Ν);refine YZ λf e=>?_;simp;(repeat (rw[Θ];simp[Ρ]));refine Κ.d (QR 0 J) (Z9 ?_);refine Κ.c (qU (Go.Sort.bitsLen 0) a b) (ZN.refl _) (by simp[b]) Ω ?_;simp;(repeat (rw[Θ];simp));apply e;exact W.nil ⟨_,U,YR.refl _,U⟩
theorem qS {c:Prop} [Decidable c] {K} {a b:YP} (h:c) (d:YP.holds K a):YP.holds K (if c then a else b):=by rw[if_pos h];exact d
theorem qR (a b:ZZ) (k:a.length<2 ^ 62):Κ prog 120 [δ I 1 a,δ I 1 b] (ν (decide (a=b))):=by
 refine Μ.body Ο func120 U U ntmps120 U U Ω ?_;refine Χ ?_;by_cases l:a.length=b.length
 case neg=>
  refine Ζ (by simp;omega) ?_;refine Χ ?_;refine W.ZA ?_;simp[show ¬a=b from λh=>l (by rw[h])]
 refine Η (by simp;omega) ?_;refine Χ ?_;refine W.iter (λi:Nat=>i<=a.length/\∀j,j<i->a[j]?=b[j]?) (λi=>[(0,δ I 1 a),(1,δ I 1 b),(12,I a.length),(13,I i)]) (λ_=>[]) (λi=>a.length-i) 0 ⟨Α _,λj d=>J⟩ U Ω (λi hi m=>?_);obtain⟨n,f⟩:=hi;refine Χ ?_;refine W.YH U (λc=>?_) (λc=>?_)
 .have c:i<a.length:=by simpa using c
  have g:i<b.length:=J;refine Χ ?_;refine XJ (Υ c g) ?_;by_cases q:a[i]=b[i]
  .refine Η (by simp[q]) ?_;refine Χ ?_;refine W.forget _ ?_ (m (i+1) ⟨c,λj d=>?_⟩ J)
   .simp[Yn c k]
   .by_cases e:j=i
    .subst e;rw[Z7 c,Z7 g,q]
    .exact f j J
  .refine Ζ (by simp[q]) ?_;refine Χ ?_;refine W.ZA ?_;simp[show ¬a=b from λh=>q (by simp[h])]
 .have c:a.length<=i:=by simpa using c
  refine W.exit U ?_;refine Χ ?_;have:a=b:=Sj λj=>by
   by_cases d:j<i
   .exact f j d
   .rw[Uc J,Uc J]
  refine W.ZA ?_;simp[this]
theorem HZ {a:Type} {enc:a->Ψ} {f:List a} {T:μ} {L:μ} (c:L=f.map enc++T) {j:Nat} {x:a} (h:f[j]?=some x):L[j]?=some (enc x)/\∀h:j<L.length,L[j]=enc x:=by
 have b:=(Zo.1 h).1
 have e:L[j]?=some (enc x):=by rw[c,Yz (by simpa using b),Yc,h];rfl
 exact⟨e,λb=>by rw[Z7 b] at e;exact WW e⟩
theorem qQ (l:List Zu) (n:Nat) (d:l.length=n) (aL:n<2 ^ 40) (g:Ψ) (aM:ς 0 g) (ah:∀x y,XM prog g [YC x,YC y] (ν (decide (x=y)))):Μ prog 119 [.ms 0 n 0 n,g] [.cells 29 1 (l.map YC)]
  (λr s=>∃T:μ,(∀a∈T,a=.sl true 0 []\/∃x,a=YC x)/\(Yg l).length+T.length=n/\r=.ms 0 n 0 (Yg l).length/\s=[.cells 29 1 ((Yg l).map YC++T)]) (λ_ _=>False):=by
 refine Μ.body Ο func119 U U ntmps119 U U Ω ?_;by_cases t:(n:Int)<2
 .refine Ι (Υ d t) ?_;refine Ζ U ?_;refine Ι d ?_;refine W.ret ⟨_,U,[],?_⟩;have e:Yg l=l:=by
   match l,d with
   | [],_=>rfl
   | [a],_=>rfl
   | a::b::l,d=>simp at d;omega
  rw[e,Ul,d];exact⟨Ω,Ω,U,U⟩
 refine Ι (Υ d t) ?_;refine Η U ?_;refine Χ ?_;refine W.iter (λk:Nat=>1<=k/\k<=n/\Yg (l.take k)=l.take k) (λk=>[(0,.ms 0 n 0 n),(1,g),(5,I k)]) (λ_=>[.cells 29 1 (l.map YC)]) (λk=>n-k) 1 ⟨Z6 _,J,by
  match l,d with
  | [],d=>rfl
  | a::l,d=>rfl⟩ rfl Ω (λk ap aq=>?_)
 obtain⟨aN,c,K⟩:=ap;refine Ι d ?_;by_cases C:k<n
 .refine Ζ (by simp[C]) ?_
  repeat apply Ν
  obtain⟨p,ai⟩:∃p,k=p+1:=⟨k-1,J⟩;have ar:IntKind.i64.wrap ((k:Int)-1)=(p:Int):=by have:=Yi (show p<2 ^ 62 by omega);rw[ai];simpa using this
  have au:p<n:=J
  have P:k<l.length:=J
  have av:p<l.length:=J;obtain⟨L,w⟩:=Ε (l.map YC);have Q:L=l.map YC++[]:=by rw[w,Ul]
  have M:L.length=n:=by rw[w];simpa using d
  obtain⟨R,S⟩:=HZ Q (Z7 P);obtain⟨V,X⟩:=HZ Q (Z7 av);refine W.to (σ':=[.cells 29 1 L]) (env':=[(0,.ms 0 n 0 n),(1,g),(5,I k)]) ?_ (by rw[w]) Ω;generalize Y:l[k]=x at R S;generalize aw:l[p]=y at V X;refine W.draw (A:=[]) Ο mixed λax Z=>V8 (Υ C (Υ ar (Υ M (Υ au (Υ R (Υ S (Υ V X))))))) ?_;refine Zc (ah x y) ?_;simp;(repeat (rw[Z1];simp));try rw[Z2]
  refine Zf (Z _ _ ?_);have aj:Yg (l.take (k+1))=Yg (l.take k)++if x=y then [] else [x]:=by
   rw[I4 l J P J];simp only[ai,KE] at Y ⊢;rw[Y,aw]
  by_cases N:x=y
  .refine Ζ (by simp[N]) ?_
   repeat apply Ν
   refine W.Xq (A:=[]) Ο [(0,.ms 0 n 0 n),(1,g),(5,I k),(6,.ms 0 n k (n-k))] [.cells 29 1 L] ?_ (by
    (try simp);(repeat (rw[Θ];simp[M,SM C]));(try simp[M,SM C]))
   refine Χ ?_;have ak:Yg (l.take (k+1))=l.take k:=by rw[aj,if_pos N,Ul,K]
   refine W.iter (λq:Nat×Nat×List Zu=>1<=q.2.1/\k+q.2.1<=n/\q.2.2.length=n/\q.1<k+q.2.1/\q.1=(Yg (l.take (k+q.2.1))).length/\q.2.2.take q.1=Yg (l.take (k+q.2.1))/\∀j,k+q.2.1-1<=j->j<n->q.2.2[j]?=l[j]?)
    (λq=>[(0,.ms 0 n 0 n),(1,g),(5,I q.1),(6,.ms 0 n k (n-k)),(7,I q.2.1)]) (λq=>[.cells 29 1 (q.2.2.map YC)]) (λq=>n-q.2.1) (k,1,l) ⟨Z6 _,by simp;omega,d,Ω,by simp only[ak];simp;omega,by simp only[ak],λj _ _=>rfl⟩ (by rw[w]) Ω (λq ay al=>?_)
   obtain⟨m,c,f⟩:=q;obtain⟨az,aA,i,aB,D,E,F⟩:=ay;simp only at az aA i aB D E F;clear w Q M R S V X;refine Ι i ?_;by_cases hd:c<n-k
   .have aO:(c:Int)<((n-k:Nat):Int):=J
    refine Ζ (by simp[hd]) ?_
    repeat apply Ν
    obtain⟨o,aC⟩:∃r,c=r+1:=⟨c-1,J⟩;have aD:IntKind.i64.wrap ((c:Int)-1)=(o:Int):=by have:=Yi (show o<2 ^ 62 by omega);rw[aC];simpa using this
    have aE:o<n-k:=J;obtain⟨aa,H⟩:=Ε (f.map YC);have am:aa=f.map YC++[]:=by rw[H,Ul]
    have ab:aa.length=n:=by rw[H];simpa using i
    have an:f[k+c]?=some (l[k+c]'J):=by rw[F _ J J,Z7]
    have hv:f[k+o]?=some (l[k+o]'J):=by rw[F _ J J,Z7]
    have h:=I4 l (p:=k+c) J J J
    have aF:l[k+c-1]'J=l[k+o]'J:=by congr 1;omega
    rw[aF] at h;generalize l[k+c]'J=u at an h;generalize l[k+o]'J=v at hv h;obtain⟨ad,ae⟩:=HZ am an;obtain⟨aG,aH⟩:=HZ am hv;refine W.to (σ':=[.cells 29 1 aa]) (env':=[(0,.ms 0 n 0 n),(1,g),(5,I m),(6,.ms 0 n k (n-k)),(7,I c)]) ?_ (by rw[H]) Ω;have B:m<n:=J;refine W.draw (A:=[]) Ο mixed λax Z=>?_;simp;(repeat (rw[Z1];simp[hd,aD,aE,ab,ad,ae,aG,aH]));try rw[Z2]
    refine Zc (ah u v) ?_;simp;(repeat (rw[Z1];simp));try rw[Z2]
    refine Zf (Z _ _ ?_);by_cases O:u=v
    .refine Η (by simp[O]) ?_;refine Χ ?_;rw[if_pos O,Ul] at h;refine W.to (al (m,c+1,f) ⟨Ω,by simp;omega,i,by simp;omega,by simp only[<-Ub,h];exact D,by simp only[<-Ub,h];exact E,λj af t=>F j (by simp at af;omega) t⟩ (by simp;omega)) (by rw[H]) ?_;have:=Yi (show c+1<2 ^ 62 by omega);simpa using this
    .refine Ζ (by simp[O]) ?_;rw[if_neg O] at h
     repeat apply Ν
     refine W.Xq (A:=[]) Ο [(0,.ms 0 n 0 n),(1,g),(5,I m),(6,.ms 0 n k (n-k)),(7,I c)] [.cells 29 1 ((f.set m u).map YC)] ?_ (by
      (try simp);(repeat (rw[Θ];simp[hd,ab,B,ad,ae]));(try simp[hd,ab,B,ad,ae]);subst H;simp)
     refine Χ ?_;refine W.to (al (m+1,c+1,f.set m u) ⟨Ω,by simp;omega,by simpa using i,by simp;omega,by simp only[<-Ub,h];simp;exact D,?_,λj af t=>?_⟩ (by simp;omega)) Ω ?_
     .simp only[<-Ub,h];rw[<-E,Ws (by simp;omega),List.take_set_of_le (Z6 _)];simp
     .simp at af;rw[Vp J];exact F j J t
     .have ao:=Yi (show c+1<2 ^ 62 by omega)
      have Ρ:=Yi (show m+1<2 ^ 62 by omega);simp at ao Ρ ⊢;exact⟨Ρ,ao⟩
   .refine Η (by simp[hd]) ?_;refine W.exit U ?_;have aI:k+c=n:=J;have aJ:l.take n=l:=VP J;rw[aI,aJ] at D E
    repeat apply Ν
    have B:m<=n:=J;refine W.Xq (A:=[]) Ο [(0,.ms 0 n 0 n),(5,I m)] [.cells 29 1 ((Yg l).map YC++List.replicate (n-m) (.sl true 0 []))] ?_ (by
     (try simp);(repeat (rw[Θ];simp[i,B]));(try simp[i,B]);rw[<-Ny,E,NG (by simp;omega),Ul];refine qS ⟨by simpa using i,U,J,λa ag=>?_⟩ ?_
     .obtain⟨x,_,rfl⟩:=YO.1 ag;rfl
     .simp)
    have aK:(Yg l).length+(n-m)=n:=J;refine Ι (Υ aK B) ?_;refine W.ret ⟨_,U,List.replicate (n-m) (.sl true 0 []),λa ag=>.inl (KO ag),by simp;omega,?_,U⟩;rw[<-D];rfl
  .refine Η (by simp[N]) ?_;refine Χ ?_;refine W.to (aq (k+1) ⟨J,J,?_⟩ J) (by rw[w]) ?_
   .rw[aj,if_neg N,K,<-Y,<-Ws P]
   .have:=Yi (show k+1<2 ^ 62 by omega);simpa using this
 .refine Η (by simp[C]) ?_;refine W.exit U ?_;refine Χ ?_;refine W.ret ⟨_,U,[],?_⟩;have e:Yg l=l:=by rw[VP J] at K;exact K
  rw[e,Ul,d];exact⟨Ω,Ω,U,U⟩
def AG (N:Nat):Prop:=∀(l:List Zu),l.length<=N->Μ prog 117 [.ms 0 l.length 0 l.length,.fn (.func 118) [] []] [.cells 29 1 (l.map YC)] (λr s=>r=.ZY []/\s=[.cells 29 1 ((l.mergeSort XZ).map YC)]) (λ_ _=>False)
theorem qP (x y:Int×Int):XM prog (.fn (.func 118) [] []) [YC x,YC y] (I (Uq x y)):=Κ.p (GW [x.1,x.2] [y.1,y.2] Ω) (.cons .ex (.cons .ex .nil)) Ω Ω
theorem qO:AG 255:=λl t=>by
 obtain⟨b,c⟩:=Ε (.fn (.func 118) [] []:Ψ);have g:ς 0 b:=by rw[c];simp[U5]
 have i:∀x y,XM prog b [YC x,YC y] (I (Uq x y)):=λx y=>by rw[c];exact qP x y
 obtain⟨n,a⟩:=Ε l.length;have u:Go.Sort.bitsLen n<=8:=(Go.Sort.bitsLen_le_iff n 8).2 J;have h:=By Wi (.inr U) n J b Uq g i O9 n l.toArray 0 n (Go.Sort.bitsLen n) (by simp[a]) J J (Z6 _) J (.inl U);dsimp only[Wi] at h;have f:=FN O9 I2 l;rw[<-a] at f;have e:(λx y:Int×Int=>!ψ Uq y x)=XZ:=rfl;rw[f,e] at h;rw[<-c,<-a];clear f e;have v:(l.map YC).length=n:=by rw[X2,a]
 refine Μ.body Ο func117 U U ntmps117 U U Ω ?_;have j:=Yi (show n<2 ^ 62 by omega);have Ρ:IntKind.u64.wrap (n:Int)=n:=Qu J;have k:=a.symm;refine Ι k ?_;(repeat apply Ν);refine YZ λw m=>?_;simp;(repeat (rw[Θ];simp[j,Ρ]));refine Κ.d (QR n J) (Z9 ?_);refine Μ.call (first:=[]) (captured:=[]) (h.mono (λr s ⟨o,p⟩=>?_) (λ_ _ h=>h.elim));subst o;subst p;simp;(repeat (rw[Θ];simp));apply m;exact W.nil ⟨_,U,U,U⟩
def Qr (s:ω) (F:Zj) (cell:Int) (lower:Bool):ZZ×Int:=
 if(WS s cell F).2.2=0 then(X0 F cell.toNat lower,0) else([],(WS s cell F).2.2)
theorem qN (s:ω) (f:s.small) (F:Zj) (g:SV s F) (cell:Int) (lower:Bool) (N:Nat) (i:N<2 ^ 20) (j:N5 N) (k:(WS s cell F).2.2=0->NM s F lower N) :
  Κ prog 57 [Zq s,I cell,ν lower] (.ZY [δ I 1 (Qr s F cell lower).1,I (Qr s F cell lower).2]):=by
 refine Μ.body Ο func57 U U ntmps57 U U Ω ?_;refine Χ ?_;refine YQ ?_;refine YY (A:=[8]) Ο λl a=>Z9 ?_;refine Κ.d (GR s f cell F g) (Z9 ?_);apply a;by_cases b:(WS s cell F).2.2=0
 case neg=>
  have e:Qr s F cell lower=([],(WS s cell F).2.2):=if_neg b;rw[e];generalize (WS s cell F).2.2=m at b;refine Χ ?_;refine Ζ (by simp[b]) ?_;refine Χ ?_;refine W.drop (h:=0) (Α _) (Α _) Ω U [(6,.sl true 0 []),(7,I m)] Ω ?_;refine W.rt ?_;exact .ZY (.cons .nil (.cons (.refl _) .nil))
 have e:Qr s F cell lower=(X0 F cell.toNat lower,0):=if_pos b;obtain⟨r,t,o⟩:=Gd b;obtain⟨n,rfl⟩:∃n:Nat,cell=n:=⟨cell.toNat,J⟩;rw[e,o];have p:=(k b).call i j (c:=n) J;refine Χ ?_;refine Η U ?_;refine Z8 λl a=>?_;refine Κ.d (p) (Z9 ?_);apply a;refine W.drop (h:=0) (Α _) (Α _) Ω U [(6,δ I 1 (X0 F n lower)),(7,I 0)] Ω ?_;exact W.XL
def NK (f:Found) (cell:Nat):List Zu:=(f.cells[cell]?).getD []
def Xe (F:Zj) (cell:Nat):List Zu:=F.flatMap λf=>NK f cell
def Td (F:Zj) (cell:Nat):List Zu:=Yg ((Xe F cell).mergeSort XZ)
def Sm (A C:List Zu) (j:Nat):List Zu:=A++C.take j
theorem HY {l:List Zu}:∀e∈l.map YC,∀a∈e.cells,ς 0 a:=by
 intro e c a b;obtain⟨x,_,rfl⟩:=YO.1 c;simp[Ψ.cells] at b;subst b;simp[YD,Ψ.cells]
abbrev KW (l:List Zu):Ψ:=.sl false 1 (l.map YC)
def Qq (s:ω) (F:Zj) (cell:Int):List Zu×Int:=
 if(WS s cell F).2.2=0 then(Td F cell.toNat,0) else([],(WS s cell F).2.2)
theorem qM (x y:Int×Int):XM prog (.fn (.func 120) [] []) [YC x,YC y] (ν (decide (x=y))):=by
 have h:XM prog (.fn (.func 120) [] []) [YC x,YC y] (ν (decide ([x.1,x.2]=[y.1,y.2]))):=Κ.p (qR [x.1,x.2] [y.1,y.2] Ω) (.cons .ex (.cons .ex .nil)) Ω Ω
 have e:decide ([x.1,x.2]=[y.1,y.2])=decide (x=y):=by
  rw[decide_eq_decide];constructor
  .intro h;simp at h;exact Prod.ext h.1 h.2
  .rintro rfl;rfl
 rw[e] at h;exact h
theorem qL (a:Ψ) (b:ς 0 a):Κ prog 119 [.sl true 0 [],a] (.sl true 0 []):=by
 refine Μ.body Ο func119 U U ntmps119 U U Ω ?_;refine Χ ?_;refine Ζ U ?_;refine Χ ?_;exact W.XL
theorem AF {A C:List Zu}:Sm A C 0=A:=by simp[Sm]
theorem qK {A C:List Zu} {j:Nat} (h:j<C.length):Sm A C (j+1)=Sm A C j++[C[j]]:=by
 unfold Sm;rw[Ws h,TH]
theorem AE {A C:List Zu} {j:Nat} (h:C.length<=j):Sm A C j=A++C:=by unfold Sm;rw[VP h]
theorem qJ {A C:List Zu} {j:Nat}:(Sm A C j).length<=A.length+j:=by unfold Sm;simp;omega
theorem qI (s:ω) (ae:s.small) (F:Zj) (af:SV s F) (cell:Int) (N:Nat) (ay:N<2 ^ 20) (ag:AG N)
  (B:(WS s cell F).2.2=0->F.length<2 ^ 20/\(∀f∈F,cell.toNat<f.cells.length/\∀c∈f.cells,c.length<2 ^ 20)/\Xe F cell.toNat≠[]/\(Xe F cell.toNat).length<=N) :
  Κ prog 62 [Zq s,I cell] (.ZY [KW (Qq s F cell).1,I (Qq s F cell).2]):=by
 refine Μ.body Ο func62 U U ntmps62 U U Ω ?_;refine Χ ?_;refine YQ ?_;refine YY (A:=[6]) Ο λD o=>Z9 ?_;refine Κ.d (GR s ae cell F af) (Z9 ?_);apply o;by_cases b:(WS s cell F).2.2=0
 case neg=>
  have e:Qq s F cell=([],(WS s cell F).2.2):=if_neg b
  have ah:(WS s cell F).2.1=[]:=by
   unfold WS X9 at b ⊢;split
   .rfl
   .split
    .rfl
    .split
     .rfl
     .simp_all
  rw[e,ah];generalize (WS s cell F).2.2=ai at b;refine W.drop (h:=0) (σ':=[]) (Α _) (Α _) Ω U [(1,I cell),(7,Y3 []),(8,I ai)] Ω ?_;refine Χ ?_;refine .loop ?_;refine Χ ?_;refine Η U ?_;refine W.exit U ?_;refine Z8 λD o=>?_;refine Κ.d (qT (.fn (.func 118) [] []) (by simp[U5])) (Z9 ?_);apply o;refine Z8 λD o=>?_;refine Κ.d (qL (.fn (.func 120) [] []) (by simp[U5])) (Z9 ?_);apply o;refine W.rt ?_;exact .ZY (.cons .nil (.cons (.refl _) .nil))
 have e:Qq s F cell=(Td F cell.toNat,0):=if_pos b;obtain⟨az,aA,aj⟩:=Gd b;obtain⟨aB,Y,O,K⟩:=B b;obtain⟨n,rfl⟩:∃n:Nat,cell=n:=⟨cell.toNat,J⟩;rw[e,aj];rw[Int.toNat_natCast] at Y O K ⊢;refine W.drop (h:=0) (σ':=[]) (Α _) (Α _) Ω U [(1,I n),(7,Y3 F),(8,I 0)] Ω ?_;refine Χ ?_;refine W.iter (λi:Nat=>i<=F.length) (λi=>[(1,I n),(8,I 0),(9,XC ((Xe (F.take i) n).map YC)),(21,Y3 F),(22,I F.length),(23,I i)])
  (λi=>ZL 29 1 ((Xe (F.take i) n).map YC)) (λi=>F.length-i) 0 (Α _) U (by simp[Xe,R1]) (λi hi ak=>?_)
 refine Χ ?_;have al:∀i,(Xe (F.take i) n).length<=N:=λi=>by
  have e:Xe F n=Xe (F.take i) n++Xe (F.drop i) n:=by
   conv=>lhs;rw[<-OK i F]
   simp only[Xe,Mg]
  rw[e,Vz] at K;omega
 refine W.YH U (λP=>?_) (λP=>?_)
 .have w:i<F.length:=by simpa using P
  obtain⟨Q,am⟩:=Y _ (Yx w);have an:F[i].cells[n].length<2 ^ 20:=am _ (Yx Q);obtain⟨A,R⟩:=Ε (Xe (F.take i) n);have M:Xe (F.take (i+1)) n=A++F[i].cells[n]:=by
   rw[R];unfold Xe;rw[Ws w,Mg];simp[NK,Q]
  have Z:(A++F[i].cells[n]).length<=N:=by rw[<-M];exact al _
  rw[Vz] at Z;refine W.to (σ':=ZL 29 1 (A.map YC)) (env':=[(1,I n),(8,I 0),(9,XC (A.map YC)),(21,Y3 F),(22,I F.length),(23,I i)]) ?_ (by rw[R]) (by rw[R];simp)
  repeat apply Ν
  refine YY (A:=[11]) Ο λD o=>XK w ?_;apply o;refine W.UZ (Α _) (Pb HY) Ω [(11,.ξ [I F[i].u,I F[i].v,TZ F[i].cells]),(1,I n),(8,I 0),(9,XC (A.map YC)),(21,Y3 F),(22,I F.length),(23,I i)] Ω ?_;refine Ι Q ?_;generalize aC:F[i].cells[n]=C at an M Z;refine W.iter (λj:Nat=>j<=C.length) (λj=>[(1,I n),(8,I 0),(9,XC ((Sm A C j).map YC)),(21,Y3 F),(22,I F.length),(23,I i),(31,UK C),(32,I C.length),(33,I j)])
   (λj=>ZL 29 1 ((Sm A C j).map YC)) (λj=>C.length-j) 0 (Α _) (by rw[AF]) (by simp[AF]) (λj aD ao=>?_)
  refine Χ ?_;refine W.YH U (λS=>?_) (λS=>?_)
  .have y:j<C.length:=by simpa using S
   obtain⟨L,B⟩:=Ε (Sm A C j);have aE:L.length<=A.length+j:=by rw[B];exact qJ
   have V:Sm A C (j+1)=L++[C[j]]:=by rw[B];exact qK y
   refine W.to (σ':=ZL 29 1 (L.map YC)) (env':=[(1,I n),(8,I 0),(9,XC (L.map YC)),(21,Y3 F),(22,I F.length),(23,I i),(31,UK C),(32,I C.length),(33,I j)]) ?_ (by rw[B]) (by rw[B];simp)
   repeat apply Ν
   refine YY (A:=[13]) Ο λD o=>XK y ?_;apply o;refine W.UZ (Α _) (Pb HY) Ω [(13,.ξ [I C[j].1,I C[j].2]),(1,I n),(8,I 0),(9,XC (L.map YC)),(21,Y3 F),(22,I F.length),(23,I i),(31,UK C),(32,I C.length),(33,I j)] Ω ?_
   repeat apply Ν
   generalize C[j]=r at V;refine W.Xq (A:=[40]) Ο [(1,I n),(8,I 0),(9,XC ((L++[r]).map YC)),(21,Y3 F),(22,I F.length),(23,I i),(31,UK C),(32,I C.length),(33,I j)] (ZL 29 1 ((L++[r]).map YC)) ?_ (by
    have ap:L.length<=4294967295:=J;rw[XA];by_cases X:L.map YC=[]
    .rw[X,R1,U0];(try simp);(repeat (rw[Θ];simp));(try simp);simp[ZL,XC]
    .rw[Rv X,Yd X];(try simp);(repeat (rw[Θ];simp));(try simp);simp[QM,N6,ap])
   refine Χ ?_;refine W.to (ao (j+1) y J) ?_ ?_
   .rw[V,XA];rfl
   .rw[V];simp[Yn y (show C.length<2 ^ 62 by omega)]
  .have y:C.length<=j:=by simpa using S
   refine W.exit U ?_;refine Χ ?_;refine W.to (ak (i+1) w J) ?_ ?_
   .rw[M,AE y]
   .rw[M,AE y];simp[Yn w (show F.length<2 ^ 62 by omega)]
 .have w:i=F.length:=by simp at P;omega
  refine W.exit U ?_;rw[w,NB];obtain⟨g,aa⟩:=Ε (Xe F n);rw[<-aa] at O K ⊢;have ab:g.map YC≠[]:=by simpa using O
  have aq:Td F n=Yg (g.mergeSort XZ):=by rw[aa];rfl
  have ar:(g.mergeSort XZ).length=g.length:=Ω;refine W.to (σ':=[.cells 29 1 (g.map YC)]) (env':=[(8,I 0),(9,.ms 0 g.length 0 g.length)]) ?_ (Yd ab) (by simp[Rv ab]);refine Z8 λD o=>?_;refine Μ.one (ag g K) 0 U (QS Lt) (QS Lt) (by simp[TY,Xr,T0]) (by simp[Xr]) (by simp[TX,Yh,Wx]) ?_;simp[Yh,Wx];(repeat (rw[Θ];simp));apply o;refine Z8 λD o=>?_;have au:=qQ (g.mergeSort XZ) g.length ar J (.fn (.func 120) [] []) (by simp[U5]) qM;refine Μ.I6 au 0 U (QS Lt) (by simp[TY,Xr,T0]) (by simp[TX,Yh,Wx]) (λa s ⟨T,av,aw,ad,ax⟩=>⟨_,ax,?_,by subst ad;simp[TY],?_⟩)
  .intro e he a E;rcases V4.1 he with he|he
   .exact HY e he a E
   .rcases av e he with rfl|⟨x,rfl⟩
    .simp[Ψ.cells] at E;subst E;simp
    .simp[Ψ.cells] at E;subst E;simp[YD,Ψ.cells]
  subst ad;simp[TX];(repeat (rw[Θ];simp));apply o;refine W.cut 0 (Α _) [(4,KW (Yg (g.mergeSort XZ))),(5,I 0)] Ω Ω ?_ ?_
  .intro p H;simp only[Y9,Yb,or_false] at H;rcases H with rfl|rfl
   .have H:=X'.part (σ:=[.cells 29 1 ((Yg (g.mergeSort XZ)).map YC++T)]) (id:=0) (t:=29) (k:=1) (l:=(Yg (g.mergeSort XZ)).map YC) (l2:=T) (m:=(Yg (g.mergeSort XZ)).length) U Ω HY
    have e:((Yg (g.mergeSort XZ)).map YC++T).length=g.length:=by rw[Vz,X2];exact aw
    rw[e] at H;exact H
   .exact .low Ω
  .rw[aq];exact W.XL
theorem qH {c:Type} [DecidableEq c] {R:c->c->Prop} (j:∀a b,R a b->R b a->a=b):∀{l:List c} {a:c},(a::l).Pairwise R->(a::Vj a l).Pairwise λx y=>R x y/\x≠y:=by
 intro l
 induction l with
 | nil=>intro a _;simp[Vj]
 | cons b l g=>
  intro a h;obtain⟨i,d⟩:=OG.1 h;unfold Vj;split
  .rename_i q;have q:b=a:=by simpa using q
   subst q;exact g d
  .rename_i q;have q:¬b=a:=by simpa using q
   refine OG.2 ⟨λy f=>?_,g d⟩;have hm:y∈b::l:=by
    rcases Y9.1 f with rfl|f
    .simp
    .rcases A9.1 (.inl f) with h|rfl
     .simp[h]
     .simp
   refine⟨i y hm,λe=>?_⟩;subst e;rcases Y9.1 hm with e|hm
   .exact q e.symm
   .exact q (j _ _ ((OG.1 d).1 _ hm) (i b Ω))
theorem qG {F:Zj} {c:Nat} {r:Int×Int}:r∈Td F c↔∃f∈F,r∈NK f c:=by
 unfold Td;rw[FB,(Mf _ _).mem_iff];exact Pv
theorem qF (F:Zj) (c:Nat):(Td F c).Pairwise λx y=>x.1<y.1\/(x.1=y.1/\x.2<y.2):=by
 have g:∀a b c:Int×Int,XZ a b=true->XZ b c=true->XZ a c=true:=λa b c h k=>by
  simp only[XZ,R0] at *;simp at *;omega
 have i:∀a b:Int×Int,(XZ a b||XZ b a)=true:=λa b=>by
  simp only[XZ,R0];simp;omega
 have d:=KM (le:=XZ) g i (Xe F c);unfold Td;obtain⟨L,j⟩:=Ε ((Xe F c).mergeSort XZ);rw[<-j] at d ⊢;cases L with
 | nil=>exact .nil
 | cons a l=>
  refine(qH (R:=λx y=>XZ x y=true) (λa b h k=>I2 a b (by simpa[XZ] using k) (by simpa[XZ] using h)) d).imp λ{x y} h=>?_;obtain⟨f,m⟩:=h;simp only[XZ,R0] at f;simp at f;by_cases e:x.1=y.1
  .have:x.2≠y.2:=λΡ=>m (Prod.ext e Ρ);omega
  .omega
theorem qE {s:ω} {c:Nat} (b:c<s.cells.length) {r:Int×Int} (h:r∈Td (Y' s) c):(-1<=r.1/\r.1<s.χ.length)/\(-1<=r.2/\r.2<s.χ.length):=by
 obtain⟨f,d,a⟩:=qG.1 h;obtain⟨k,_,_,e,_⟩:=(Mq d).2 c b;unfold NK at a;rw[e] at a;exact Bc a
theorem qD (F:Zj) (c:Nat):X4 F c true=(Xe F c).map (WR true):=by
 unfold X4 Xe;rw[List.map_flatMap];rfl
theorem qC {s:ω} (h:W0 s) (g:Y' s≠[]) {c:Nat} (a:c<s.cells.length):(Y' s).length<2 ^ 20/\(∀f∈Y' s,c<f.cells.length/\∀d∈f.cells,d.length<2 ^ 20)/\Xe (Y' s) c≠[]/\(Xe (Y' s) c).length<=255:=by
 have b:=Mp h g true
 have i:=FC (lower:=true) a g
 have j:=A' h c true a;rw[qD] at i j;rw[X2] at j;refine⟨b.Tr,λf k=>⟨by rw[(b.cells f k).1];exact a,(b.cells f k).2⟩,λe=>i (by rw[e];rfl),J⟩
theorem qB (l:List Zu):YR (KW l) (ZM (l.map λx=>[x.1,x.2])):=by
 refine .sl Ω λi a b c d=>?_;rw[Yc] at c d;rw[Yc] at d;cases e:l[i]? with
 | none=>rw[e] at c;cases c
 | some x=>rw[e] at c d;cases c;cases d;exact .one .ex rfl rfl
theorem qA {s:ω} {c:Nat} (i:c<s.cells.length):Xo (λr=>decide (r∈Xe (Y' s) c)) s.χ.length (s.χ.length+1) 0=Td (Y' s) c:=by
 rw[IZ];have d:((N3 s.χ.length).filter λr=>decide (r∈Xe (Y' s) c)).Pairwise λx y=>x.1<y.1\/(x.1=y.1/\x.2<y.2):=(Dq _ _).filter _;have f:=qF (Y' s) c;have j:∀r,r∈(N3 s.χ.length).filter (λr=>decide (r∈Xe (Y' s) c))↔r∈Td (Y' s) c:=λr=>by
  have e:r∈Td (Y' s) c↔r∈Xe (Y' s) c:=by
   unfold Td;rw[FB,(Mf _ _).mem_iff]
  rw[TG,decide_eq_true_eq,e];exact⟨λh=>h.2,λh=>⟨Bg.2 (qE i (e.2 h)),h⟩⟩
 have g:∀{l:List Zu},(l.Pairwise λx y=>x.1<y.1\/(x.1=y.1/\x.2<y.2))->l.Nodup:=λh=>h.imp λ{a b} h e=>by subst e;omega
 have m:=(KR (g d) (g f)).2 j;exact Mm (le:=λx y:Int×Int=>x.1<y.1\/(x.1=y.1/\x.2<y.2)) (λa b _ _ h k=>J) d f m
theorem qz (s:ω) (D:s.small) (F:Zj) (E:NL s F):Κ prog 64 [Zq s] (.ZY [ZM (if s.err=0 then WL F else []),I s.err]):=by
 refine Μ.body Ο func64 U U ntmps64 U U Ω ?_;refine Χ ?_;refine Z8 λo b=>?_;refine Κ.d (MD s D) (Z9 ?_);apply b;refine Χ ?_;by_cases c:s.err=0
 case neg=>
  rw[if_neg c];generalize s.err=S at c;refine Ζ (by simp[c]) ?_;refine Χ ?_;refine W.rt ?_;exact .ZY (.cons .nil (.cons (.refl _) .nil))
 obtain⟨g,H⟩:=E c;have p:=FK s g;have K:=PB s;rw[<-H] at p K;rw[c,if_pos U];refine Η Ω ?_
 repeat apply Ν
 refine Xh ?_;refine W.pad 29 1 (σ':=[]) U (λj r h=>⟨r,h,.inl U⟩) [(1,ZV s),(5,.ms 0 0 0 0)] (λz k=>by
  simp only[Y9,Yb,or_false] at k;rcases k with rfl|rfl
  .exact .same _
  .exact .nil) ?_
 rw[List.nil_append];refine Z8 λo b=>?_;refine Κ.d (p) (Z9 ?_);apply b;refine Χ ?_;refine W.iter (λi:Nat=>i<=F.length) (λi=>[(5,.ms 0 i 0 i),(6,VA F),(7,I i)]) (λi=>[.cells 29 1 ((WL (F.take i)).map (δ I 1))]) (λi=>F.length-i) 0 (Α _) U Ω (λi hi l=>?_);by_cases m:i<F.length
 .have n:(i:Int)<(F.length:Int):=J
  have w:=Z7 m;obtain⟨f,g⟩:=Ε (F[i]);rw[<-g] at w;have L:∀h,F[i]'h=f:=λh=>g.symm;have M:WL (F.take (i+1))=WL (F.take i)++[[f.u,f.v]]:=by
   rw[Ws m,<-g];simp[WL]
  have y:=X3 (i:=i) J
  have l:=l (i+1) m J;rw[M] at l;obtain⟨N,B⟩:=Ε (WL (F.take i));have O:N.length=i:=by rw[B];simp[WL];omega
  have P:i<=4294967295:=J;rw[<-B] at l ⊢;refine Ι n ?_;refine Ζ Ω ?_
  repeat apply Ν
  refine YY (A:=[28]) Ο λo b=>XK (Υ w (Υ L (Υ m (Υ O P)))) ?_;apply b;refine Ι y ?_;refine W.to l ?_ (by simp[y]);simp
 have n:¬(i:Int)<(F.length:Int):=J
 have Q:i=F.length:=J;subst Q;rw[VP (Z6 _)];refine Ι n ?_;refine Η Ω ?_;refine W.exit U ?_;refine W.cut 0 (Α _) [(5,ZM (WL F))] (Α _) (λid r h=>absurd h (Qi _)) (λz k=>by
  simp only[Y9,Yb,or_false] at k;subst k;exact .own (t:=29) (Α _) U (by simp[WL]) (λe R a C=>by
   obtain⟨x,_,rfl⟩:=YO.1 R;simp[Ψ.cells] at C;subst C;simp[YD])) ?_
 rw[List.take_zero];refine Χ ?_;exact W.XL
theorem qy (F:Zj) (c:Nat) (a b:Int) (ab:F.length<2 ^ 40) (M:∀f∈F,c<f.cells.length/\∀d∈f.cells,d.length<2 ^ 40):Κ prog 121 [VA F,I c,δ I 1 [a,b]] (ν (decide ((a,b)∈Xe F c))):=by
 refine Μ.body Ο func121 U U ntmps121 U U Ω ?_;refine Χ ?_;refine W.iter (λi:Nat=>i<=F.length/\∀f∈F.take i,(a,b)∉NK f c) (λi=>[(0,VA F),(1,I c),(2,δ I 1 [a,b]),(7,I i)]) (λ_=>[]) (λi=>F.length-i) 0 ⟨Α _,Ω⟩ U Ω (λi hi N=>?_);obtain⟨ad,t⟩:=hi;by_cases j:i<F.length
 .have u:(i:Int)<(F.length:Int):=J
  have p:=Z7 j;obtain⟨f,r⟩:=Ε (F[i]);have D:f∈F:=r▸Yx j;rw[<-r] at p;have v:∀h,F[i]'h=f:=λh=>r.symm;obtain⟨n,O⟩:=M f D;have o:=Z7 n;obtain⟨R,w⟩:=Ε (f.cells[c]);have ae:R.length<2 ^ 40:=O R (w▸Yx n);rw[<-w] at o;have y:∀h,f.cells[c]'h=R:=λh=>w.symm;have E:NK f c=R:=by unfold NK;rw[o];rfl
  have P:F.take (i+1)=F.take i++[f]:=by rw[r];exact Ws j
  have H:=X3 (i:=i) J;refine Ι u ?_;refine Ζ Ω ?_;refine Χ ?_;refine W.iter (λk:Nat=>k<=R.length/\(a,b)∉R.take k) (λk=>[(0,VA F),(1,I c),(2,δ I 1 [a,b]),(7,I i),(8,I k)]) (λ_=>[]) (λk=>R.length-k) 0 ⟨Α _,Ω⟩ U Ω (λk Q S=>?_);obtain⟨af,B⟩:=Q;by_cases l:k<R.length
  .have C:(k:Int)<(R.length:Int):=J
   have K:=Z7 l;obtain⟨x,s⟩:=Ε (R[k]);rw[<-s] at K;have T:∀h,R[k]'h=x:=λh=>s.symm;have V:R.take (k+1)=R.take k++[x]:=by rw[s];exact Ws l
   have L:=X3 (i:=k) J;refine Ι (Υ p (Υ v (Υ j (Υ o (Υ y (Υ n C)))))) ?_;refine Ζ (by simp[l]) ?_;refine Ι (Υ p (Υ v (Υ j (Υ o (Υ y (Υ n (Υ l (Υ K T)))))))) ?_
   repeat apply Ν
   refine W.Uo (A:=[]) Ο mixed [(55,ν (decide (x.1=a)&&decide (x.2=b))),(0,VA F),(1,I c),(2,δ I 1 [a,b]),(7,I i),(8,I k)] [] ?_ (by
    by_cases q:x.1=a
    .simp;(repeat (rw[Z1];simp[q]));(try rw[Z2]);refine⟨Yq Zr,?_⟩;simp[q]
    .simp;(repeat (rw[Z1];simp[q]));(try rw[Z2]);refine⟨Yq Zr,?_⟩;simp[q])
   by_cases q:x=(a,b)
   .have e:decide ((a,b)∈Xe F c)=true:=decide_eq_true (Pv.2 ⟨f,D,by rw[E,<-q,s];exact Yx l⟩);rw[e,q];refine Ζ Ω ?_;refine Χ ?_;refine W.rt ?_;exact .of U
   .refine Η (by simp;intro X Y;exact q (Prod.ext X Y)) ?_;refine Ι L ?_;refine W.to (S (k+1) ⟨l,?_⟩ J) U (by simp[L]);rw[V,V4];rintro(h|h)
    .exact B h
    .simp at h;exact q h.symm
  have C:¬(k:Int)<(R.length:Int):=J;rw[VP J] at B;refine Ι (Υ p (Υ v (Υ j (Υ o (Υ y (Υ n C)))))) ?_;refine Η (by simp[l]) ?_;refine W.exit U ?_;refine Ι H ?_;refine W.to (N (i+1) ⟨j,?_⟩ J) U (by simp[H]);rw[P];intro g m;rcases V4.1 m with m|m
  .exact t g m
  .simp at m;subst m;rw[E];exact B
 have u:¬(i:Int)<(F.length:Int):=J;rw[VP J] at t;have e:decide ((a,b)∈Xe F c)=false:=decide_eq_false λh=>by
  obtain⟨f,Z,aa⟩:=Pv.1 h;exact t f Z aa
 rw[e];refine Ι u ?_;refine Η Ω ?_;refine W.exit U ?_;refine Χ ?_;refine W.rt ?_;exact .of U
theorem KV (s:ω) (cell:Int) (F:Zj):(WS s cell F).2.2=if s.err≠0 then s.err else if 0<=cell/\cell<s.cells.length then(if F=[] then 9 else 0) else 3:=by
 unfold WS;by_cases b:s.err=0
 .have a:¬s.err≠0:=λh=>h b;rw[if_neg a,if_neg a];by_cases c:0<=cell/\cell<s.cells.length
  .rw[if_neg J,if_pos c];unfold X9;rw[if_neg a];by_cases f:F=[]
   .rw[if_pos ⟨U,f⟩,if_pos f]
   .rw[if_neg (λh=>f h.2),if_neg f]
  .rw[if_pos J,if_neg c]
 .rw[if_pos b,if_pos b]
theorem AD (s:ω) (F:Zj) (cell:Int):Qq s F cell=if s.err≠0 then([],s.err) else if 0<=cell/\cell<s.cells.length then(if F=[] then([],9) else(Td F cell.toNat,0)) else([],3):=by
 unfold Qq;rw[KV];by_cases b:s.err=0
 .simp only[b,ne_eq,not_true_eq_false,if_false];by_cases c:0<=cell/\cell<s.cells.length
  .rw[if_pos c,if_pos c];by_cases f:F=[]
   .rw[if_pos f,if_pos f];rfl
   .rw[if_neg f,if_neg f];rfl
  .rw[if_neg c,if_neg c];rfl
 .rw[if_pos b,if_pos b,if_neg b]
theorem AB (s:ω) (F:Zj) (cell:Int) (lower:Bool):Qr s F cell lower=if s.err≠0 then([],s.err) else if 0<=cell/\cell<s.cells.length then(if F=[] then([],9) else(X0 F cell.toNat lower,0)) else([],3):=by
 unfold Qr;rw[KV];by_cases b:s.err=0
 .simp only[b,ne_eq,not_true_eq_false,if_false];by_cases c:0<=cell/\cell<s.cells.length
  .rw[if_pos c,if_pos c];by_cases f:F=[]
   .rw[if_pos f,if_pos f];rfl
   .rw[if_neg f,if_neg f];rfl
  .rw[if_neg c,if_neg c];rfl
 .rw[if_pos b,if_pos b,if_neg b]
theorem qx (s:ω) (M:s.small) (F:Zj) (X:NL s F) (cell:Int):Κ prog 65 [Zq s,I cell] (.ZY [ZM (Um (Qq s F cell).1),I (Qq s F cell).2]):=by
 rw[AD];refine Μ.body Ο func65 U U ntmps65 U U Ω ?_;refine Χ ?_;refine Z8 λk e=>?_;refine Κ.d (MD s M) (Z9 ?_);apply e;refine Χ ?_;by_cases l:s.err=0
 case neg=>
  rw[if_pos l];generalize s.err=ak at l;refine Ζ (by simp[l]) ?_;refine Χ ?_;refine W.rt ?_;exact .ZY (.cons .nil (.cons (.refl _) .nil))
 obtain⟨y,B⟩:=X l;rw[if_neg (λh=>h l),l];have N:=FJ s M cell;obtain⟨right,C⟩:=Ε ((decide (0<=cell)&&decide (cell<s.cells.length)));rw[<-C] at N;have O:=H4 s y right;rw[<-B] at O;refine Η Ω ?_
 repeat apply Ν
 refine W.draw (A:=[]) Ο mixed λk e=>Xa ?_;refine Zc (Κ.q (N)) (Xa ?_);refine Zc (Κ.q (O)) (Xa ?_);refine Zf (e _ _ ?_);cases right
 .have D:¬(0<=cell/\cell<s.cells.length):=by simpa using C
  rw[if_neg D];refine Χ ?_;refine Ζ (by simp[Vb]) ?_;refine Χ ?_;refine W.ret ⟨_,U,?_,U⟩;exact .ZY (.cons .nil (.cons (.refl _) .nil))
 have D:0<=cell/\cell<s.cells.length:=by simpa using C.symm
 rw[if_pos D];obtain⟨c,rfl⟩:∃c:Nat,cell=c:=⟨cell.toNat,J⟩;have P:c<s.cells.length:=J;by_cases u:F=[]
 .rw[if_pos u];subst u;refine Χ ?_;refine Ζ (by simp[Vb]) ?_;refine Χ ?_;refine W.ret ⟨_,U,?_,U⟩;exact .ZY (.cons .nil (.cons (.refl _) .nil))
 rw[if_neg u,show Vb F true=(F,0) by unfold Vb;rw[if_neg Ω,if_neg u]];have al:=y.χ.hi;have Y:=PB s;have Z:∀f∈F,c<f.cells.length/\∀d∈f.cells,d.length<2 ^ 40:=λf h=>by
  obtain⟨aa,ab,_⟩:=Fx y (f:=f) (by rw[<-B];exact h);exact⟨by rw[aa];exact P,λd hd=>by have:=ab d hd;omega⟩
 have E:=qA (s:=s) P;rw[<-B] at E Y;have v:=λ(a b:Int)=>qy F c a b J Z;obtain⟨n,o⟩:=Ε s.χ.length;obtain⟨q,Q⟩:=Ε (λr=>decide (r∈Xe F c):Int×Int->Bool);have ad:∀a b,decide ((a,b)∈Xe F c)=q (a,b):=λa b=>by rw[Q]
 simp only[ad] at v;rw[<-o,<-Q] at E;refine Χ ?_;refine Η Ω ?_
 repeat apply Ν
 refine Xh ?_;refine W.pad 29 1 (σ':=[]) U (λj r h=>⟨r,h,.inl U⟩) [(1,I c),(2,ZV s),(7,VA F),(9,.ms 0 0 0 0)] (λz p=>by
  simp only[Y9,Yb,or_false] at p;rcases p with rfl|rfl|rfl|rfl
  .exact .same _
  .exact .same _
  .exact .same _
  .exact .nil) ?_
 rw[List.nil_append];refine Χ ?_;refine W.iter (λi:Nat=>i<=n+1) (λi=>[(1,I c),(2,ZV s),(7,VA F),(9,.ms 0 (Xo q n i 0).length 0 (Xo q n i 0).length),(10,I ((i:Int)-1))])
  (λi=>[.cells 29 1 ((Xo q n i 0).map Ρ)]) (λi=>n+1-i) 0 (Α _) (by rw[Ls];rfl) (by rw[Ls];simp) (λi hi ae=>?_)
 by_cases am:i<n+1
 .have H:(i:Int)-1<(n:Int):=J
  have R:=Yi (show i<2 ^ 62 by omega);(repeat (first|apply Ν|(refine YZ λk e=>?_;simp;(repeat (rw[Θ];simp[o.symm,H]));apply e)));refine Ζ Ω ?_;refine Χ ?_;refine W.iter (λj:Nat=>j<=n+1) (λj=>[(1,I c),(2,ZV s),(7,VA F),(9,.ms 0 (Xo q n i j).length 0 (Xo q n i j).length),(10,I ((i:Int)-1)),(11,I ((j:Int)-1))])
   (λj=>[.cells 29 1 ((Xo q n i j).map Ρ)]) (λj=>n+1-j) 0 (Α _) U Ω (λj an w=>?_)
  by_cases ao:j<n+1
  .have K:(j:Int)-1<(n:Int):=J
   have x:=Yi (show j<2 ^ 62 by omega)
   have g:=GN (q:=q) (n:=n) (i:=i) (j:=j)
   have af:(Xo q n i j).length<=200:=by
    have ap:=FP q n i j
    have aq:i*(n+1)<=7*7:=Nz J J;omega
   have w:=w (j+1) J J
   have v:=v ((i:Int)-1) ((j:Int)-1);obtain⟨m,ag⟩:=Ε (Xo q n i j);rw[<-ag] at g af ⊢;(repeat (first|apply Ν|(refine YZ λk e=>?_;simp;(repeat (rw[Θ];simp[o.symm,K]));apply e)));refine Ζ Ω ?_;refine Z8 λk e=>?_;refine Κ.c v (.cons (.refl _) (.cons (.refl _) (.cons .ex .nil))) Ω Ω ?_;simp;(repeat (rw[Θ];simp));apply e;cases S:q ((i:Int)-1,(j:Int)-1)
   .refine Η Ω ?_;rw[S] at g;refine Ι x ?_;refine W.to w ?_ ?_
    .rw[g];simp
    .rw[g];simp[x]
   .refine Ζ Ω ?_;rw[S] at g;have T:(m.map Ρ).length=m.length:=Ω;have V:m.length<=4294967295:=J
    repeat apply Ν
    refine W.Xq (A:=[53]) Ο [(1,I c),(2,ZV s),(7,VA F),(9,.ms 0 (m.length+1) 0 (m.length+1)),(10,I ((i:Int)-1)),(11,I ((j:Int)-1))] [.cells 29 1 (m.map Ρ++[Ρ ((i:Int)-1,(j:Int)-1)])] ?_ (by
     (try simp);(repeat (rw[Θ];simp[T,V]));(try simp[T,V]))
    refine Ι x ?_;refine W.to w ?_ ?_
    .rw[g];simp
    .rw[g];simp[x]
  .have ah:j=n+1:=J
   subst ah;have K:¬((n+1:Nat):Int)-1<(n:Int):=J;(repeat (first|apply Ν|(refine YZ λk e=>?_;simp;(repeat (rw[Θ];simp[o.symm,K]));apply e)));refine Η Ω ?_;refine W.exit U ?_;refine Ι R ?_;refine W.to (ae (i+1) J J) ?_ ?_
   .rw[Lr]
   .rw[Lr];simp[R]
 .have ai:i=n+1:=J
  subst ai;have H:¬((n+1:Nat):Int)-1<(n:Int):=J;rw[E];obtain⟨L,aj⟩:=Ε (Td F c);rw[Int.toNat_natCast,<-aj];(repeat (first|apply Ν|(refine YZ λk e=>?_;simp;(repeat (rw[Θ];simp[o.symm,H]));apply e)));refine Η Ω ?_;refine W.exit U ?_;refine W.cut 0 (Α _) [(9,.sl false 1 (L.map Ρ))] (Α _) (λid r h=>absurd h (Qi _)) (λz p=>by
   simp only[Y9,Yb,or_false] at p;subst p;exact .own (t:=29) (Α _) U Ω H7) ?_
  rw[List.take_zero];refine Χ ?_;refine W.ret ⟨_,U,?_,U⟩;refine .ZY (.cons ?_ (.cons (.refl _) .nil));show YR (.sl false 1 (L.map Ρ)) (.sl false 1 ((Um L).map (δ I 1)));rw[Ra];exact .map λr _=>.one .ex U U
theorem qw (s:ω) (i:s.small) (F:Zj) (p:NL s F) (cell:Int) (lower:Bool):Κ prog 66 [Zq s,I cell,ν lower] (.ZY [δ I 1 (Qr s F cell lower).1,I (Qr s F cell lower).2]):=by
 rw[AB];refine Μ.body Ο func66 U U ntmps66 U U Ω ?_;refine Χ ?_;refine Z8 λj b=>?_;refine Κ.d (MD s i) (Z9 ?_);apply b;refine Χ ?_;by_cases a:s.err=0
 case neg=>
  rw[if_pos a];generalize s.err=t at a;refine Ζ (by simp[a]) ?_;refine Χ ?_;refine W.rt ?_;exact .ZY (.cons .nil (.cons (.refl _) .nil))
 obtain⟨k,l⟩:=p a;rw[if_neg (λh=>h a),a];have m:=FJ s i cell;obtain⟨right,f⟩:=Ε ((decide (0<=cell)&&decide (cell<s.cells.length)));rw[<-f] at m;have n:=H4 s k right;rw[<-l] at n;refine Η Ω ?_
 repeat apply Ν
 refine W.draw (A:=[]) Ο mixed λj b=>Xa ?_;refine Zc (Κ.q (m)) (Xa ?_);refine Zc (Κ.q (n)) (Xa ?_);refine Zf (b _ _ ?_);cases right
 .have g:¬(0<=cell/\cell<s.cells.length):=by simpa using f
  rw[if_neg g];refine Χ ?_;refine Ζ (by simp[Vb]) ?_;refine Χ ?_;refine W.ret ⟨_,U,?_,U⟩;exact .ZY (.cons .nil (.cons (.refl _) .nil))
 have g:0<=cell/\cell<s.cells.length:=by simpa using f.symm
 rw[if_pos g];obtain⟨c,rfl⟩:∃c:Nat,cell=c:=⟨cell.toNat,J⟩;have r:c<s.cells.length:=J;by_cases e:F=[]
 .rw[if_pos e];subst e;refine Χ ?_;refine Ζ (by simp[Vb]) ?_;refine Χ ?_;refine W.ret ⟨_,U,?_,U⟩;exact .ZY (.cons .nil (.cons (.refl _) .nil))
 rw[if_neg e,show Vb F true=(F,0) by unfold Vb;rw[if_neg Ω,if_neg e]];have o:=Fw s k c r lower;rw[<-l] at o;rw[Int.toNat_natCast];generalize X0 F c lower=L at *;refine Χ ?_;refine Η Ω ?_
 repeat apply Ν
 refine W.draw (A:=[]) Ο mixed λj b=>Xa ?_;refine Zc (Κ.q (FI lower)) (Xa ?_);refine Zc (Κ.q (o)) (Xa ?_);refine Zf (b _ _ ?_);refine Χ ?_;exact W.XL
theorem qv (F:Zj) (c:Nat):(Td F c).length<=(Xe F c).length:=by
 have:=qW ((Xe F c).mergeSort XZ) ((Xe F c).mergeSort XZ).length;rw[NB,List.length_mergeSort] at this;exact this
theorem AA (s:ω):(Xl s).length<=3:=by
 unfold Xl;split
 .exact PB s
 .simp
end Go.TL
namespace Go.TL
open Go.Proofs.Tryz
open Go.Proofs
theorem Az {s:ω} {cell:Int} (h:(WS s cell (Xl s)).2.2=0) [ZP]:(Xl s).length<2 ^ 20/\(∀f∈Xl s,cell.toNat<f.cells.length/\∀c∈f.cells,c.length<2 ^ 20)/\Xe (Xl s) cell.toNat≠[]/\(Xe (Xl s) cell.toNat).length<=255:=by
 rw[KV] at h;by_cases b:s.err=0
 .rw[if_neg (λq=>q b)] at h;by_cases c:0<=cell/\cell<s.cells.length
  .rw[if_pos c] at h;have a:Xl s≠[]:=λe=>by rw[if_pos e] at h;cases h
   obtain⟨_,d,g⟩:=Ft a;rw[d];exact qC (ON b) g J
  .rw[if_neg c] at h;cases h
 .rw[if_pos b] at h;exact absurd h b
theorem qu {s:ω} {cell:Int} {lower:Bool} (h:(WS s cell (Xl s)).2.2=0) [ZP]:NM s (Xl s) lower 255:=by
 rw[KV] at h;by_cases b:s.err=0
 .rw[if_neg (λq=>q b)] at h;by_cases c:0<=cell/\cell<s.cells.length
  .rw[if_pos c] at h;exact AQ (λe=>by rw[if_pos e] at h;cases h) lower
  .rw[if_neg c] at h;cases h
 .rw[if_pos b] at h;exact absurd h b
theorem qt [ZP] (s:ω) (cell:Int):(Qq s (Xl s) cell).1.length<=255:=by
 rw[AD];split
 .simp
 split
 .split
  .simp
  .rename_i a c d;have b:s.err=0:=by simpa using a
   have h:=Az (s:=s) (cell:=cell) (by rw[KV,if_neg (λq=>q b),if_pos c,if_neg d]);exact XQ (qv _ _) h.2.2.2
 .simp
theorem qs (s:ω) (p:YV) (cell:Int) (lower:Bool) (l:ZZ) (an:l.length<2 ^ 63) :
  @W Ue prog 0 149 [.code (f15.body.getD .skip)] (entry 0 [Zq s,Zi p,I cell,ν lower,δ I 1 l]) [] (λj env _=>(∃k,j=.code .ret::k)/\Z3 env 10=ν true) (λ_ _ _=>False):=by
 letI:ZP:=Ue;show W prog 0 149 [.code _] _ _ _ _;refine W.seq ?_
 repeat apply Ν
 refine Xh ?_;refine Z8 λn b=>?_;refine Κ.d (AO s) (Z9 ?_);apply b;cases af:s.PS
 case true=>
  refine Ζ U ?_;refine Z8 λn b=>?_;refine Κ.d (Il) (Z9 ?_);apply b;exact W.stop ⟨⟨_,U⟩,U⟩
 refine Η U ?_;have ag:=AN af;clear af;refine Z8 λn b=>?_;refine Μ.call (first:=[]) (captured:=[]) ((Bj l).mono (λa s ⟨D,E⟩=>?_) (λ_ _ h=>h.elim));subst D;subst E;simp;(repeat (rw[Θ];simp));apply b;have ah:(⟨l,1⟩:Zd).Z0.length<2 ^ 63:=an;generalize (⟨l,1⟩:Zd)=d0 at ah;refine Z8 λn b=>?_;refine Μ.call (first:=[]) (captured:=[]) ((AU s ag p d0 ah).mono (λa aB h=>?_) (λ_ _ h=>h.elim));obtain⟨L,d1,O,o,ao,rfl,aC⟩:=h;simp;(repeat (rw[Θ];simp));apply b;refine W.XV [(2,I cell),(3,ν lower),(11,.Δ 0 1 0 0),(12,δ Zq 3 L)] (λq F=>by
  simp only[Y9,Yb,or_false] at F;rcases F with rfl|rfl|rfl|rfl
  .exact .refl _
  .exact .refl _
  .exact .refl _
  .exact .trans O .ex) ?_
 have ap:d1.Z0.length<2 ^ 63:=J
 have D:=Ud d1 ap 2
 have aq:=WE d1 2;generalize W9 d1 2=ar at D;generalize d1.after 2=d2 at D aq;have E:=Ud d2 J 2;have au:=WE d2 2;generalize W9 d2 2=av at E;generalize d2.after 2=d3 at E au;refine Z8 λn b=>?_;refine YM.g (D) (Z9 ?_);refine YM.g (E) (Z9 ?_);apply b;obtain⟨C,T⟩:=Ε ([cell,ar,av,cell]);refine W.cut 0 (Α _) [(3,ν lower),(12,δ Zq 3 L),(13,Yu C)] (Α _) (λid r h=>absurd h (Qi _)) (λq F=>by
  simp only[Y9,Yb,or_false] at F;rcases F with rfl|rfl|rfl
  .exact .low Ω
  .exact .low (by simp[YD,Ψ.cells])
  .rw[T];exact .low Ω) ?_
 rw[List.take_zero];have P:C.length=4:=by rw[T];rfl
 clear T;refine Χ ?_;refine W.iter (λi:Nat=>i<=4) (λi=>[(3,ν lower),(12,δ Zq 3 L),(13,Yu C),(14,I i)]) (λ_=>[]) (λi=>4-i) 0 (Α _) U Ω (λi hi aw=>?_);by_cases v:i<4
 case neg=>
  have e:¬(i:Int)<4:=J;refine Ι (Υ o e) ?_;refine Η Ω ?_;refine W.exit U ?_;refine Z8 λn b=>?_;refine Κ.d (Il) (Z9 ?_);apply b;exact W.stop ⟨⟨_,U⟩,U⟩
 have e:(i:Int)<4:=J
 have ai:=X3 (i:=i) J
 have t:=Z7 (show i<L.length by omega);obtain⟨x,Q⟩:=Ε (L[i]);have u:=(ao x (Q▸Yx _)).small ag;rw[<-Q] at t;have w:∀h,L[i]'h=x:=λh=>Q.symm;have H:=Z7 (show i<C.length by omega);obtain⟨m,V⟩:=Ε (C[i]);rw[<-V] at H;have R:∀h,C[i]'h=m:=λh=>V.symm;clear Q V;have S:=AS x;have b:=AR x;have X:=Dz x u _ S (by have:=AA x;omega);have Y:=qz x u _ b;have Z:=qI x u _ S m 255 ZT qO (λh=>Az h);have aa:=qx x u _ b m;have t1:=qN x u _ S m lower 255 ZT FD (λh=>qu h);have t2:=qw x u _ b m lower;have aj:=qt x m;have ax:=Dt x u;have ay:=AT x u;have az:(if x.err=0 then WL (Xl x) else []).length<=3:=by
  split
  .have:=AA x;simpa[WL] using this
  .simp
 have ak:∀y∈(if x.err=0 then WL (Xl x) else []),y.length<2 ^ 40:=λy K=>by
  split at K
  .obtain⟨f,_,rfl⟩:=YO.1 K;simp
  .simp at K
 have ab:(Qr x (Xl x) m lower).1.length<2 ^ 62:=by
  rw[AB];split
  .simp
  split
  .split
   .simp
   .have:=AP x lower m.toNat;simp only;omega
  .simp
 generalize (if x.err=0 then WL (Xl x) else [])=KK at X Y az ak;generalize Qq x (Xl x) m=Uy at Z aa aj;generalize Qr x (Xl x) m lower=ZR at t1 t2 ab;obtain⟨B,ad⟩:=Uy;obtain⟨M,ae⟩:=ZR;simp only at Z aa t1 t2 aj ab;generalize x.err=N at X Y;have al:=Jc KK KK J ak;have Ρ:=Jc (Um B) (Um B) (by rw[X2];omega) (λy K=>by
  obtain⟨x,_,rfl⟩:=YO.1 K;simp)
 have am:=G2 M M ab;simp only[beq_self_eq_true] at al Ρ am;clear S b;refine Ι (Υ o e) ?_;refine Ζ Ω ?_;refine YQ ?_;refine YY (A:=[15]) Ο λn b=>XK (Υ t (Υ w (Υ o (Υ v e)))) ?_;refine Κ.d (ax) (Z9 ?_);apply b;refine W.UZ (σ0:=[]) (Α _) (λr aA=>by simp at aA) (λa O=>by simp[Ψ.cells] at O;rcases O with rfl|rfl|rfl<;>simp[YD,Ψ.cells]) [(3,ν lower),(12,δ Zq 3 L),(13,Yu C),(14,I i),(15,ZV x)] (by simp[Wb,Ψ.cells,YD]) ?_;refine Z8 λn b=>?_;refine Κ.d (X) (Z9 ?_);apply b;refine XD (Υ t (Υ w (Υ o (Υ v e)))) λn b=>?_;refine Κ.d (Y) (Z9 ?_);apply b
 repeat apply Ν
 refine W.Uo (A:=[]) Ο mixed [(3,ν lower),(12,δ Zq 3 L),(13,Yu C),(14,I i),(15,ZV x),(16,ZM KK),(17,I N),(18,ZM KK),(19,I N),(20,KW B),(21,I ad)] [] ?_ (by
  simp;(repeat (rw[Z1];simp[t,w,o,v,e,H,R,P]));(try rw[Z2]);refine Zc (Κ.p Z (ZN.refl _) Ω Ω) ?_;simp;(repeat (rw[Z1];simp));(try rw[Z2]);refine⟨Yq Zr,?_⟩;simp)
 repeat apply Ν
 refine W.Uo (A:=[]) Ο mixed [(3,ν lower),(12,δ Zq 3 L),(13,Yu C),(14,I i),(15,ZV x),(16,ZM KK),(17,I N),(18,ZM KK),(19,I N),(20,KW B),(21,I ad),(22,ZM (Um B)),(23,I ad)] [] ?_ (by
  simp;(repeat (rw[Z1];simp[t,w,o,v,e,H,R,P]));(try rw[Z2]);refine Zc (Κ.p aa (ZN.refl _) Ω Ω) ?_;simp;(repeat (rw[Z1];simp));(try rw[Z2]);refine⟨Yq Zr,?_⟩;simp)
 refine Z8 λn b=>?_;refine Κ.d (al) (Z9 ?_);refine Κ.c Ρ (.cons (qB B) (.cons (.refl _) .nil)) (by simp[YD,Ψ.cells]) Ω ?_;simp;(repeat (rw[Θ];simp));apply b;refine Η Ω ?_
 repeat apply Ν
 refine W.Uo (A:=[]) Ο mixed [(3,ν lower),(12,δ Zq 3 L),(13,Yu C),(14,I i),(15,ZV x),(19,I N),(24,δ I 1 M),(17,I ae)] [] ?_ (by
  simp;(repeat (rw[Z1];simp[t,w,o,v,e,H,R,P]));(try rw[Z2]);refine Zc (Κ.p t1 (ZN.refl _) Ω Ω) ?_;simp;(repeat (rw[Z1];simp));(try rw[Z2]);refine⟨Yq Zr,?_⟩;simp)
 repeat apply Ν
 refine W.Uo (A:=[]) Ο mixed [(3,ν lower),(12,δ Zq 3 L),(13,Yu C),(14,I i),(15,ZV x),(24,δ I 1 M),(17,I ae),(25,δ I 1 M),(19,I ae)] [] ?_ (by
  simp;(repeat (rw[Z1];simp[t,w,o,v,e,H,R,P]));(try rw[Z2]);refine Zc (Κ.p t2 (ZN.refl _) Ω Ω) ?_;simp;(repeat (rw[Z1];simp));(try rw[Z2]);refine⟨Yq Zr,?_⟩;simp)
 repeat apply Ν
 refine W.Uo (A:=[]) Ο mixed [(147,ν false),(3,ν lower),(12,δ Zq 3 L),(13,Yu C),(14,I i)] [] ?_ (by
  simp;(repeat (rw[Z1];simp));(try rw[Z2]);refine Zc (Κ.p am (ZN.refl _) Ω Ω) ?_;simp;(repeat (rw[Z1];simp[t,w,o,v,e]));(try rw[Z2]);refine Zc (Κ.p ay (ZN.refl _) Ω Ω) ?_;simp;(repeat (rw[Z1];simp));(try rw[Z2]);refine⟨Yq Zr,?_⟩;simp)
 refine Η U ?_;refine Ι ai ?_;exact W.to (aw (i+1) J J) U (by simp[ai])
end Go.TL
