import Derived.Test.YtkndbcflmgogjaaGreatQAJ
set_option maxHeartbeats 16000000
set_option maxRecDepth 20000
set_option linter.unusedSectionVars false
set_option linter.unusedSimpArgs false
set_option linter.unusedVariables false
namespace Go.TL
open Go.Proofs.Tryz
open Go.Conc
variable [Z1]
inductive Mu (id:Nat):Ψ->Ψ->Prop where
 | same (a:Ψ):Mu id a a
 | nil {k:Nat}:Mu id (.sl true k []) (.ms id 0 0 0)
def TZ (id:Nat) (r r':Row):Prop:=r'=r\/∃t n es es',r=.cells t n es/\r'=.cells t n es'/\es'.length=es.length/\
 ∀(i:Nat) (e b:Ψ),es[i]?=some e->es'[i]?=some b->b.cells.length=e.cells.length/\∀(x:Nat) (a a':Ψ),e.cells[x]?=some a->b.cells[x]?=some a'->Mu id a a'
section
variable {P:Program} {S:ς} {B:δ} {H:Υ} {σ σ':Ρ} {m nt k:Nat} {t:TypeId} {kk:ZA} {env:Β} {Z:XD} {E:Yb}
theorem ZJ.pad (g:B.length=σ.length) (i:σ'.length=σ.length) (b:∀(j:Nat) (r:Row),σ[j]?=some r->∃r',σ'[j]?=some r'/\TZ σ.length r r'):ZJ S S B (B++[none]) σ (σ'++[.cells t k []]):=
 ⟨λ_ _ _ h=>h,λj r a=>by
  have l:=(ZR.1 a).1;obtain⟨r',c,d⟩:=b j r a;have e:(B++[none])[j]?=B[j]?:=YN I;refine⟨r',by rw[YN I];exact c,?_⟩;rw[e];rcases d with rfl|⟨t,n,es,es',rfl,rfl,f,_⟩
  .exact Row.Tb _ _
  .exact .inl ⟨es',U,f,U⟩⟩
theorem Θ.zI (f:B.length=σ.length) (i:σ'.length=σ.length) (j:ZJ S S B (B++[none]) σ (σ'++[.cells t k []])) {a a':Ψ} (h:Mu σ.length a a') {v:Value} (c:Θ S B σ a v):Θ S (B++[none]) (σ'++[.cells t k []]) a' v:=by
 cases h with
 | same=>exact c.later j
 | nil=>
  have d:(σ'++[Row.cells t k []])[σ.length]?=some (.cells t k []):=by rw[<-i];simp
  have e:(B++[none])[σ.length]?=some none:=by rw[<-f];simp
  cases c with
  | WJ base cap g=>
   obtain rfl:=g U;exact .ms 0 d U e (ZY _) (ZY _) (.inl U)
  | sl b o cap w g=>
   obtain rfl:cap=0:=g U;exact .ms 0 d U e (ZY _) (ZY _) (.inl U)
theorem W.pad (t:TypeId) (k:Nat) (L:σ'.length=σ.length) (V:∀(j:Nat) (r:Row),σ[j]?=some r->∃r',σ'[j]?=some r'/\TZ σ.length r r') (env':Β) (az:∀p∈env',Mu σ.length (ι env p.1) p.2)
  (aA:W P m nt kk env' (σ'++[.cells t k []]) Z E):W P m nt kk env σ Z E:=by
 intro aB mn x cs b S B H ξ M g O aC aD;have f:=O.holds;have Q:=f.len;have R:ZJ S S B (B++[none]) σ (σ'++[.cells t k []]):=ZJ.pad Q L V;have ao:∀j,j<σ.length->(σ'++[Row.cells t k []])[j]?=σ'[j]?:=λj h=>YN I;have l:∀j,j<σ.length->(B++[none])[j]?=B[j]?:=λj h=>YN I;have back:∀j r',j<σ.length->(σ'++[Row.cells t k []])[j]?=some r'->∃r,σ[j]?=some r/\TZ σ.length r r':=λj r' s h=>by
  rw[ao j s] at h;obtain⟨ap,d,X⟩:=V j _ (Z4 s);rw[h] at d;cases d;exact⟨_,Z4 s,X⟩
 have Y:∀{r r':Row},TZ σ.length r r'->r'.live->r.live:=λ{r r'} h hv=>by
  rcases h with rfl|⟨_,_,_,_,rfl,rfl,_⟩
  .exact hv
  .trivial
 have low:∀j y,(B++[none])[j]?=some (some y)->j<σ.length:=λj y h=>by
  have d:=(ZR.1 h).1;simp at d;by_cases e:j=B.length
  .subst e;simp at h
  .omega
 have aE:Holds S (B++[none]) (σ'++[.cells t k []]) H:=by
  refine⟨f.Zf,by simp;omega,λj r bo c u=>?_,λi j aF aG b aH aI aJ hi s aK aL aa ab=>?_,λj r b N c aM g o=>?_⟩
  .by_cases e:j<σ.length
   .rw[l j e] at u;obtain⟨aN,d,X⟩:=back j r e c;have T:=f.row j aN bo d u;rcases X with rfl|⟨t2,n,es,es',rfl,rfl,ad,aO⟩
    .refine T.later R (λb N _=>⟨λ_=>rfl,U,U⟩) λae left a3 aP=>?_;subst aP;obtain⟨_,_,a4,a5,a6,a7,seen,_,aq,⟨es,A⟩,_⟩:=T;have ar:=(ZR.1 A).1;refine⟨?_,l ae ar,λb N _=>⟨λ_=>rfl,U,U⟩⟩;obtain⟨r',aQ,aR⟩:=V ae _ A;rcases aR with rfl|⟨_,_,_,_,aS,_⟩
     .rw[ao ae ar,aQ,A]
     .cases aS
    .cases bo with
     | none=>
      have:es=[]:=T;subst this;exact YZ.1 ad
     | some y=>
      obtain⟨b,N⟩:=y;obtain⟨C,D,F,w,J⟩:=T;refine⟨C,by rw[ad];exact D,F,w,λi aT hi=>?_⟩;have au:i<es.length:=by rw[<-ad];exact(ZR.1 hi).1
      obtain⟨c1,c2⟩:=J i _ (Z4 au);obtain⟨d1,d2⟩:=aO i _ aT (Z4 au) hi;refine⟨d1.trans c1,λx a' M=>?_⟩;have av:x<(es[i]).cells.length:=by rw[<-d1];exact(ZR.1 M).1
      obtain⟨aq,A,aU⟩:=c2 x _ (Z4 av);exact⟨aq,A.zI Q L R (d2 x _ a' (Z4 av) M),aU⟩
   .have d:=(ZR.1 c).1;simp at d;have aV:j=σ'.length:=I;subst aV;rw[L,<-Q] at u;simp at c u;subst c;subst u;rfl
  .have aw:=low i _ aa
   have K:=low j _ ab;obtain⟨af,ag,ah⟩:=back i aF aw hi;obtain⟨ap,aW,aX⟩:=back j aG K s;rw[l i aw] at aa;rw[l j K] at ab;exact f.inj i j af ap b aH aI aJ ag aW (Y ah aK) (Y aX aL) aa ab
  .have K:=low j _ g;obtain⟨af,ag,ah⟩:=back j r K c;rw[l j K] at g;exact f.sep j af b N ag (Y ah aM) g o
 have aY:Ext S B H S (B++[none]) H:=(f.push (r:=.cells t k []) (bo:=none) (λb N h=>by cases h) (λb _=>⟨λ_=>rfl,U,U⟩) (λ_=>rfl)).2.1
 have ax:Xw m S B H σ S (B++[none]) H (σ'++[.cells t k []]):=⟨aY,R.left m⟩
 have aZ:∀(l2:Β),(∀p∈l2,Mu σ.length (ι env p.1) p.2)->∀i,Θ S B σ (ι env i) (ξ.getD i undef)->Θ S (B++[none]) (σ'++[.cells t k []]) (ι l2 i) (ξ.getD i undef):=by
  intro l2
  induction l2 with
  | nil=>intro _ i _;exact .Zx _
  | cons p l2 a0=>
   intro ay i c;simp only[ι];split
   .rename_i e;subst e;exact c.zI Q L R (ay p Ω)
   .exact a0 (λq a1=>ay q (by simp[a1])) i c
 refine aA aB mn x cs b _ _ H ξ M g ⟨aE,λi=>aZ env' az i (O.Zt i),O.size,by have:=O.rows;simp;omega⟩ (λj ai aj ak al am t2 an C D F J=>?_) (λa ai aj ak al am t2 an v C D F J a2=>?_)
 .exact aC j ai aj ak al am t2 an C (ax.trans D) F J
 .exact aD a ai aj ak al am t2 an v C (ax.trans D) F J a2
theorem W.DX (t:TypeId) (k:Nat) {i:Nat} {r r':Row} (hi:σ[i]?=some r) (b:TZ σ.length r r') (env':Β) (c:∀p∈env',Mu σ.length (ι env p.1) p.2) (d:W P m nt kk env' (σ.set i r'++[.cells t k []]) Z E):W P m nt kk env σ Z E:=
 W.pad t k Ω (λj q a=>by
  by_cases e:j=i
  .subst e;rw[hi] at a;cases a;exact⟨r',by rw[Xs (ZR.1 hi).1],b⟩
  .exact⟨q,by rw[Xj (YV e)];exact a,.inl U⟩) env' c d
theorem TZ.last {id:Nat} {t:TypeId} {k:Nat} {M:ψ}:TZ id (.cells t k (M++[.sl true 0 []])) (.cells t k (M++[.ms id 0 0 0])):=by
 refine .inr ⟨t,k,_,_,U,U,Ω,λi e h b c=>?_⟩;by_cases hi:i<M.length
 .rw[YN hi] at b c;rw[b] at c;cases c;exact⟨U,λx a a' d f=>by rw[d] at f;cases f;exact .same _⟩
 .rw[Xz I] at b c;obtain⟨j,g⟩:=Z' (i-M.length);rw[<-g] at b c
  match j with
  | 0=>
   simp at b c;subst b;subst c;refine⟨U,λx a a' d f=>?_⟩
   match x with
   | 0=>simp[Ψ.cells] at d f;subst d;subst f;exact .nil
   | x+1=>simp[Ψ.cells] at d
  | j+1=>simp at b
end
end Go.TL
namespace Go.TL
open Go.Proofs.Tryz
open Go.Proofs
def RV (l:List ByteArray) (w:ByteArray) (i:Nat):Α:=((List.range i).filter λj=>decide (l[j]?=some w)).map Int.ofNat
def placesOf (l:List ByteArray) (w:ByteArray) (none:Int):Α:=if w=⟨#[]⟩ then [none] else RV l w l.length
theorem zH (l:List ByteArray) (w:ByteArray) (i:Nat):RV l w (i+1)=RV l w i++if l[i]?=some w then [(i:Int)] else []:=by
 unfold RV;rw[Q4,IV,VV];congr 1;by_cases h:l[i]?=some w<;>simp[h]
theorem DW (l:List ByteArray) (w:ByteArray) (i:Nat):(RV l w i).length<=i:=by
 induction i with
 | zero=>simp[RV]
 | succ i a=>rw[zH];split<;>simp<;>omega
variable [Z1]
theorem zG (l:List ByteArray) (y:l.length<1000) (w:ByteArray) (none:Int):Τ prog 95 [Yw l,ZP w,J none] (ζ J 1 (placesOf l w none)):=by
 refine Μ.body Ο func95 U U ntmps95 U U Ω ?_;refine Φ ?_;by_cases d:w=⟨#[]⟩
 .refine Ι (by simp only[ο,ι];simp[JA,<-zY,d]) ?_;refine Φ ?_;have e:placesOf l w none=[none]:=if_pos d;rw[e];refine W.rt ?_;exact .ex
 have g:¬w=ByteArray.empty:=d;refine Κ (by simp[JA,g]) ?_;refine Φ ?_;have e:placesOf l w none=RV l w l.length:=if_neg d;rw[e];refine W.pad 3 1 (σ':=[]) U (λj r h=>⟨r,h,.inl U⟩) [(1,ZP w),(7,.ms 0 0 0 0),(14,Yw l),(15,J l.length),(16,J 0)] (λz k=>by
  simp at k;rcases k with rfl|rfl|rfl|rfl|rfl
  .exact .same _
  .exact .nil
  .exact .same _
  .exact .same _
  .exact .same _) ?_
 refine W.iter (λi:Nat=>i<=l.length) (λi=>[(1,ZP w),(7,.ms 0 (RV l w i).length 0 (RV l w i).length),(14,Yw l),(15,J l.length),(16,J i)]) (λi=>[.cells 3 1 ((RV l w i).map J)]) (λi=>l.length-i) 0 (Ζ _) U (by simp[RV]) (λi hi m=>?_);refine Φ ?_;refine W.Yl U (λb=>?_) (λb=>?_)
 .have b:i<l.length:=by simpa using b
  have B:=DW l w i
  have c:=zH l w i
  have s:l[i]?=some l[i]:=Z4 b;rw[s] at c;refine Z9 b ?_;by_cases f:l[i]=w
  .rw[if_pos (by rw[f])] at c;refine Ι (by simp[PC,f]) ?_;refine ZO ?_;refine ZG (A:=[27]) Ο λC u=>Δ ?_;refine⟨I,?_⟩;apply u;refine Φ ?_;refine W.to (m (i+1) b I) (by rw[c];simp) (by simp[c,Y9 b (show l.length<2 ^ 62 by omega)])
  .rw[if_neg (λh=>f (WU h)),Ug] at c;refine Κ (by simp[PC,f]) ?_;refine Φ ?_;refine W.to (m (i+1) b I) (by rw[c]) (by simp[c,Y9 b (show l.length<2 ^ 62 by omega)])
 .have b:l.length<=i:=by simpa using b
  have v:i=l.length:=I;subst v;refine W.exit U ?_;refine Φ ?_;refine W.cut 0 (ZY _) [(6,ζ J 1 (RV l w l.length))] Ω (λid r D E=>I) (λp n=>by
   simp at n;subst n;exact Y0.own (id:=0) (t:=3) (Ζ _) U Ω (λe g a o=>by
    obtain⟨x,_,rfl⟩:=Zh.1 g;simp[Ψ.cells] at o;subst o;simp)) ?_
  refine W.rt ?_;exact .of U
end Go.TL
namespace Go.TL
open Go.Proofs.Tryz
open Go.Proofs
variable [Z1]
abbrev Z0:={l:List ByteArray // l.length<=3}
instance:DecidableEq Z0:=λa b=>decidable_of_iff (a.1=b.1) Subtype.ext_iff.symm
instance:Inhabited Z0:=⟨⟨[],Ζ _⟩⟩
abbrev Y7 (l:Z0):Ψ:=.sl true 1 (l.1.map ZP)
theorem Jv (y:Z0):∀a∈(Y7 y).cells,η 0 a:=by
 intro a b;simp[Ψ.cells] at b;subst b;simp
theorem qh (d:Array (Z0)) (n a b:Nat) (T:d.size=n) (ag:a<=b) (ah:b<=n) (ai:n<2 ^ 40) (l:Ψ) (c:Z0->Z0->Int) (aj:η 0 l) (V:∀x y,WY prog l [Y7 x,Y7 y] (J (c x y))) :
  Μ prog 188 [.ms 0 n 0 n,J a,J b,l] [.cells 26 1 (d.toList.map Y7)] (λr s=>r=.ε []/\s=[.cells 26 1 ((Go.Sort.insertionSort (Zm c) d a b).toList.map Y7)]) (λ_ _=>False):=by
 refine Μ.body Ο func188 U U ntmps188 U U Ω ?_;refine Φ ?_;have X:=Yk (show a+1<2 ^ 62 by omega);refine W.iter (λq:Nat×Array (Z0)=>q.2.size=n/\Go.Sort.insOuter (Zm c) a b q.1 q.2=Go.Sort.insertionSort (Zm c) d a b) (λq=>[(0,.ms 0 n 0 n),(1,J a),(2,J b),(3,l),(8,J q.1)]) (λq=>[.cells 26 1 (q.2.toList.map Y7)]) (λq=>b-q.1) (a+1,d) ⟨T,U⟩ U (by simpa using X) (λq hi H=>?_);obtain⟨i,e⟩:=q;obtain⟨K,B⟩:=hi;simp only at K B;refine Φ ?_;by_cases o:i<b
 .refine Ι (by simp[o]) ?_;refine Φ ?_;refine W.iter (λq:Nat×Array (Z0)=>q.2.size=n/\q.1<=i/\Go.Sort.insInner (Zm c) a q.1 q.2=Go.Sort.insInner (Zm c) a i e) (λq=>[(0,.ms 0 n 0 n),(1,J a),(2,J b),(3,l),(8,J i),(9,J q.1)]) (λq=>[.cells 26 1 (q.2.toList.map Y7)]) (λq=>q.1) (i,e) ⟨K,ZY _,U⟩ U Ω (λq g Y=>?_);obtain⟨j,f⟩:=q;obtain⟨m,Z,C⟩:=g;simp only at m Z C;have M:Go.Sort.insInner (Zm c) a j f=f->Go.Sort.insOuter (Zm c) a b (i+1) f=Go.Sort.insertionSort (Zm c) d a b:=λhd=>by
   rw[<-B,<-hd,C];conv=>rhs;rw[Go.Sort.insOuter,if_pos o]
  obtain⟨L,k⟩:=Z' (f.toList.map Y7);have N:L.length=n:=by rw[k];simpa using m
  refine W.to (σ':=[.cells 26 1 L]) (env':=[(0,.ms 0 n 0 n),(1,J a),(2,J b),(3,l),(8,J i),(9,J j)]) ?_ (by rw[k]) Ω
  repeat apply Γ
  by_cases g:a<j
  .obtain⟨p,O⟩:∃p,j=p+1:=⟨j-1,I⟩;have D:IntKind.i64.wrap ((j:Int)-1)=(p:Int):=by have:=Yk (show p<2 ^ 62 by omega);rw[O];simpa using this
   have P:j<n:=I
   have Q:p<n:=I
   have aa:¬j=p:=I;obtain⟨x,t⟩:=Z' (f[j]!);obtain⟨y,u⟩:=Z' (f[p]!);have E:L[j]?=some (Y7 x):=by rw[k,t,Ys,Xr,R3 I];rfl
   have F:L[p]?=some (Y7 y):=by rw[k,u,Ys,Xr,R3 I];rfl
   have R:∀h:j<L.length,L[j]=Y7 x:=λh=>by have:=E;rw[Z4 h] at this;exact WU this
   have S:∀h:p<L.length,L[p]=Y7 y:=λh=>by have:=F;rw[Z4 h] at this;exact WU this
   have v:Go.Sort.insInner (Zm c) a j f=if Zm c x y=true then Go.Sort.insInner (Zm c) a p (Go.Sort.swp f j p) else f:=by
    subst O;rw[Go.Sort.insInner,t,u];simp[g]
   have ab:(Go.Sort.swp f j p).toList.map Y7=(L.set j (Y7 y)).set p (Y7 x):=by rw[k,t,u];simp[Go.Sort.swp]
   have sz:(Go.Sort.swp f j p).size=n:=by simp[Go.Sort.swp,m]
   have ad:=k;clear t u;refine W.draw (A:=[]) Ο mixed λak ae=>Ua (Ξ g (Ξ D (Ξ N (Ξ P (Ξ Q (Ξ E (Ξ F (Ξ R S)))))))) ?_;refine XV (V x y) ?_;simp;(repeat (rw[Za];simp));try rw[YL]
   refine Yn (ae _ _ ?_);by_cases w:c x y<0
   .refine Ι (by simp[w]) ?_
    repeat apply Γ
    refine WX (Ξ g (Ξ D (Ξ N (Ξ P (Ξ Q (Ξ E (Ξ F (Ξ R (Ξ S aa))))))))) ?_;refine Φ ?_;refine W.to (Y (p,Go.Sort.swp f j p) ⟨sz,by simp;omega,?_⟩ (by simp;omega)) ?_ ?_
    .rw[<-C,v,if_pos (by simp[Zm,Go.Sort.ltInt,w])]
    .rw[ab]
    .simp[D]
   .refine Κ (by simp[w]) ?_;refine W.exit U ?_;refine Φ ?_;refine W.to (H (i+1,f) ⟨m,M (by rw[v,if_neg (by simp[Zm,Go.Sort.ltInt,w])])⟩ (by simp;omega)) (by rw[ad]) ?_;have:=Yk (show i+1<2 ^ 62 by omega);simpa using this
  .have v:Go.Sort.insInner (Zm c) a j f=f:=by
    cases j with
    | zero=>rfl
    | succ p=>rw[Go.Sort.insInner];simp[g]
   refine WX g ?_;refine Κ U ?_;refine W.exit U ?_;refine Φ ?_;refine W.to (H (i+1,f) ⟨m,M v⟩ (by simp;omega)) (by rw[k]) ?_;have:=Yk (show i+1<2 ^ 62 by omega);simpa using this
 .refine Κ (by simp[o]) ?_;refine W.exit U ?_;have af:Go.Sort.insOuter (Zm c) a b i e=e:=by rw[Go.Sort.insOuter,if_neg o]
  exact W.nil ⟨_,U,U,by rw[<-B,af]⟩
theorem qg (d:Array (Z0)) (n i:Nat) (j:d.size=n) (p:n<=12) (b:Ψ) (c:Z0->Z0->Int) (f:η 0 b) (k:∀x y,WY prog b [Y7 x,Y7 y] (J (c x y))) :
  Μ prog 143 [.ms 0 n 0 n,J 0,J n,J i,b] [.cells 26 1 (d.toList.map Y7)] (λr s=>r=.ε []/\s=[.cells 26 1 ((Go.Sort.insertionSort (Zm c) d 0 n).toList.map Y7)]) (λ_ _=>False):=by
 refine Μ.body Ο func143 U U ntmps143 U U Ω ?_;have l:=Yk (show n<2 ^ 62 by omega);have t:(n:Int)<=12:=I;refine Φ ?_;refine .loop ?_;refine Z9 l ?_;refine Ι (by simp;omega) ?_;refine υ λu m=>?_;refine Μ.one (qh d n 0 n j (Ζ _) (ZY _) I b c f k) 0 U (λe g a h=>by
  obtain⟨y,o,rfl⟩:=Zh.1 g;exact Jv y a h) (λe g a h=>by
  obtain⟨y,o,rfl⟩:=Zh.1 g;exact Jv y a h) (by simp[T9,OT,f.PT 1]) (by simp[WR]) (by simp[T8,OS,f.X5 [0]]) ?_
 simp[X5,V1];(repeat (rw[Η];simp));apply m;exact W.ret ⟨_,U,U,U⟩
theorem qf (d:Array (Z0)) (n:Nat) (c:d.size=n) (j:n<=12) (b:Ψ) (f:Z0->Z0->Int) (g:η 0 b) (k:∀x y,WY prog b [Y7 x,Y7 y] (J (f x y))) :
  Μ prog 97 [.ms 0 n 0 n,b] [.cells 26 1 (d.toList.map Y7)] (λr s=>r=.ε []/\s=[.cells 26 1 ((Go.Sort.insertionSort (Zm f) d 0 n).toList.map Y7)]) (λ_ _=>False):=by
 refine Μ.body Ο func97 U U ntmps97 U U Ω ?_;have l:=Yk (show n<2 ^ 62 by omega);have m:IntKind.u64.wrap (n:Int)=n:=by unfold IntKind.wrap;simp[IntKind.bits,IntKind.signed];omega
 refine Z9 c ?_;(repeat apply Γ);refine YF λt o=>?_;simp;(repeat (rw[Η];simp[c,l,m]));refine Τ.d (NU n I) (Δ ?_);refine Μ.one (qg d n (Go.Sort.bitsLen n) c j b f g k) 0 U (λe h a i=>by
  obtain⟨y,p,rfl⟩:=Zh.1 h;exact Jv y a i) (λe h a i=>by
  obtain⟨y,p,rfl⟩:=Zh.1 h;exact Jv y a i) (by simp[T9,OT,g.PT 1]) (by simp[WR]) (by simp[T8,OS,g.X5 [0]]) ?_
 simp[X5,V1];(repeat (rw[Η];simp));apply o;exact W.nil ⟨_,U,U,U⟩
end Go.TL
namespace Go.TL
open Go.Proofs.Tryz
open Go.Proofs
structure Rh {a:Type} (c:a->a->Int):Prop where
 K9:∀x,c x x=0
 PA:∀x y,c x y=0->x=y
 OF:∀x y,c y x=- c x y
 trans:∀x y z,c x y<0->c y z<0->c x z<0
def Qw {c:Type} (lt:c->c->Bool) (a b:c):Int:=if lt a b=true then -1 else if lt b a=true then 1 else 0
theorem Rh.of_lt {c:Type} {lt:c->c->Bool} (d:∀x,lt x x=false) (f:∀x y z,lt x y=true->lt y z=true->lt x z=true) (g:∀x y,lt x y=false->lt y x=false->x=y):Rh (Qw lt) where
 K9 x:=by unfold Qw;simp[d]
 PA x y h:=by
  unfold Qw at h;cases a:lt x y<;>cases b:lt y x<;>simp[a,b] at h;exact g x y a b
 OF x y:=by
  unfold Qw;cases a:lt x y<;>cases b:lt y x<;>simp;have:=f x y x a b;rw[d] at this;cases this
 trans x y z h k:=by
  have e:∀x y,Qw lt x y<0->lt x y=true:=λx y h=>by
   unfold Qw at h;cases a:lt x y with
   | true=>rfl
   | false=>rw[a] at h;simp at h;split at h<;>omega
  have:=f x y z (e x y h) (e y z k);unfold Qw;rw[if_pos this];decide
def Um {d:Type} (c:d->d->Int):List d->List d->Int
 | [],[]=>0
 | [],_::_=>-1
 | _::_,[]=>1
 | a::l,b::m=>if c a b≠0 then c a b else Um c l m
theorem Rh.lex {o:Type} {c:o->o->Int} (h:Rh c):Rh (Um c) where
 K9 x:=by
  induction x with
  | nil=>rfl
  | cons a l f=>simp[Um,h.K9,f]
 PA x y:=by
  induction x generalizing y with
  | nil=>cases y<;>simp[Um]
  | cons a l f=>
   cases y with
   | nil=>simp[Um]
   | cons b m=>
    intro g;simp only[Um] at g;split at g
    .rename_i n;exact absurd g n
    .rename_i n;rw[f m g,h.PA a b I]
 OF x y:=by
  induction x generalizing y with
  | nil=>cases y<;>simp[Um]
  | cons a l f=>
   cases y with
   | nil=>simp[Um]
   | cons b m=>
    simp only[Um,h.OF a b];by_cases e:c a b=0
    .rw[if_neg I,if_neg I];exact f m
    .rw[if_pos I,if_pos I]
 trans x y z:=by
  induction x generalizing y z with
  | nil=>
   cases y<;>cases z<;>simp[Um]
  | cons a l f=>
   cases y with
   | nil=>simp[Um]
   | cons b m=>
    cases z with
    | nil=>simp[Um]
    | cons d n=>
     simp only[Um];intro g k;by_cases j:c a b=0
     .have p:=h.PA a b j;subst p;rw[if_neg I] at g;by_cases i:c a d=0
      .rw[if_neg I] at k ⊢;exact f m n g k
      .rw[if_pos i] at k ⊢;exact k
     .rw[if_pos j] at g;by_cases i:c b d=0
      .have r:=h.PA b d i;subst r;rw[if_pos j];exact g
      .rw[if_pos i] at k;have:=h.trans a b d g k;rw[if_pos I];exact this
theorem Rh.Mt {a:Type} {c:a->a->Int} (h:Rh c):Go.Sort.SWO (Zm c) where
 irrefl x:=by simp[Zm,Go.Sort.ltInt,h.K9]
 trans x y z g k:=by
  simp[Zm,Go.Sort.ltInt] at *;exact h.trans x y z g k
 ntrans x y z g k:=by
  simp[Zm,Go.Sort.ltInt] at *;have e:=h.OF x y;have f:=h.OF y z;have i:=h.OF x z;by_cases b:c x y=0
  .rw[h.PA x y b];exact k
  .by_cases d:c y z=0
   .rw[<-h.PA y z d];exact g
   .have:=h.trans z y x I I;omega
theorem Rh.DV {a:Type} {c:a->a->Int} (h:Rh c) (x y:a) (g:Zm c x y=false) (k:Zm c y x=false):x=y:=by
 simp[Zm,Go.Sort.ltInt] at g k;have:=h.OF x y;exact h.PA x y I
theorem DU (l:List UInt8):Op.bytesLess l l=false:=by
 induction l with
 | nil=>rfl
 | cons a l b=>simp[Op.bytesLess,b]
theorem zF (l m n:List UInt8) (g:Op.bytesLess l m=true) (k:Op.bytesLess m n=true):Op.bytesLess l n=true:=by
 induction l generalizing m n with
 | nil=>cases m<;>cases n<;>simp[Op.bytesLess] at *
 | cons a l c=>
  cases m with
  | nil=>simp[Op.bytesLess] at g
  | cons b m=>
   cases n with
   | nil=>simp[Op.bytesLess] at k
   | cons d n=>
    simp only[Op.bytesLess,Bool.or_eq_true,decide_eq_true_eq,Wm,beq_iff_eq] at *;rcases g with g|⟨rfl,g⟩
    .rcases k with k|⟨rfl,k⟩
     .exact .inl (UInt8.lt_trans g k)
     .exact .inl g
    .rcases k with k|⟨rfl,k⟩
     .exact .inl k
     .exact .inr ⟨U,c m n g k⟩
theorem qe (l m:List UInt8) (g:Op.bytesLess l m=false) (k:Op.bytesLess m l=false):l=m:=by
 induction l generalizing m with
 | nil=>cases m with
  | nil=>rfl
  | cons b m=>simp[Op.bytesLess] at g
 | cons a l c=>
  cases m with
  | nil=>simp[Op.bytesLess] at k
  | cons b m=>
   simp only[Op.bytesLess,Bool.or_eq_false_iff,decide_eq_false_iff_not,Bool.and_eq_false_iff,beq_eq_false_iff_ne] at *;have e:a=b:=UInt8.le_antisymm (UInt8.not_lt.1 k.1) (UInt8.not_lt.1 g.1);subst e;rw[c m (by simpa using g.2) (by simpa using k.2)]
def Qv (a b:ByteArray):Int:=Qw Ud a b
variable [Z1]
theorem zE (a b:ByteArray) (g:Ud a b=false) (k:Ud b a=false):a=b:=by
 have h:a.toList=b.toList:=qe _ _ g k
 have:=PC a b;rw[h] at this;simpa using this.symm
theorem Gr:Rh Qv:=Rh.of_lt (λx=>DU _) (λx y z g k=>zF _ _ _ g k) zE
abbrev NJ:List ByteArray->List ByteArray->Int:=Um Qv
theorem zD (n:ByteArray):Τ prog 187 [ZP n] (ZV false):=by
 refine Μ.body Ο func187 U U ntmps187 U U Ω ?_;refine Φ ?_;refine W.rt ?_;exact .of Ω
theorem qd (a b:ByteArray):Ta a b = !(Ud b a):=by
 unfold Ta;rw[PC];show(Ud a b||decide (a=b)) = !(Ud b a);by_cases e:a=b
 .subst e;have:Ud a a=false:=DU _;simp[this]
 .cases c:Ud a b<;>cases d:Ud b a<;>simp[e]
  .exact e (zE a b c d)
  .have:Ud a a=true:=zF _ _ _ c d
   have f:Ud a a=false:=DU _;rw[f] at this;cases this
theorem qc (a b:ByteArray):Τ prog 142 [ZP a,ZP b] (J (Qv a b)):=by
 refine Μ.body Ο func142 U U ntmps142 U U Ω ?_;refine Φ ?_;refine υ λg c=>?_;refine Τ.d (zD a) (Δ ?_);apply c;refine υ λg c=>?_;refine Τ.d (zD b) (Δ ?_);apply c;refine Φ ?_;refine Κ U ?_;refine Φ ?_;refine Κ U ?_;refine Φ ?_;cases e:Ud a b
 .refine Κ U ?_;refine Z9 @qd ?_;cases f:Ud b a
  .refine Κ U ?_;refine Φ ?_;refine W.Y' ?_;rw[show Qv a b=0 by simp[Qv,Qw,e,f]];rfl
  .refine Ι U ?_;refine Φ ?_;refine W.Y' ?_;rw[show Qv a b=1 by simp[Qv,Qw,e,f]];rfl
 .refine Ι U ?_;refine Φ ?_;refine W.Y' ?_;rw[show Qv a b=-1 by simp[Qv,Qw,e]];rfl
theorem qb (a b:List ByteArray) (k:a.length<2 ^ 62):Τ prog 96 [Yw a,Yw b] (J (NJ a b)):=by
 refine Μ.body Ο func96 U U ntmps96 U U Ω ?_;refine Φ ?_;refine W.iter (λi:Nat=>i<=a.length/\i<=b.length/\NJ a b=NJ (a.drop i) (b.drop i)) (λi=>[(0,Yw a),(1,Yw b),(9,Yw a),(10,J a.length),(11,J i)]) (λ_=>[]) (λi=>a.length-i) 0 ⟨I,I,Ω⟩ U Ω (λi hi l=>?_);obtain⟨n,o,j⟩:=hi;refine Φ ?_;refine W.Yl U (λc=>?_) (λc=>?_)
 .have c:i<a.length:=by simpa using c
  have h:a.drop i=a[i]::a.drop (i+1):=Ph c;refine Z9 c ?_;refine W.Yl U (λe=>?_) (λe=>?_)
  .have e:b.length<=i:=by simp at e;omega
   refine Φ ?_;have f:b.drop i=[]:=Qf e;refine W.Y' ?_;rw[show NJ a b=1 by rw[j,h,f];rfl];rfl
  .have e:i<b.length:=by simp at e;omega
   have f:b.drop i=b[i]::b.drop (i+1):=Ph e
   repeat apply Γ
   refine QL e ?_;refine υ λp m=>?_;refine Τ.d (qc a[i] b[i]) (Δ ?_);apply m;refine Φ ?_;by_cases g:Qv a[i] b[i]=0
   .refine Κ (by simp[g]) ?_;refine Φ ?_;refine W.forget _ ?_ (l (i+1) ⟨c,e,?_⟩ I)
    .simp[Y9 c k]
    .rw[j,h,f];show Um _ _ _=_;rw[Um,if_neg (by simpa using g)]
   .refine Ι (by simp[g]) ?_;refine Φ ?_;refine W.Y' ?_;rw[show NJ a b=Qv a[i] b[i] by rw[j,h,f];show Um _ _ _=_;rw[Um,if_pos g]];rfl
 .have c:i=a.length:=by simp at c;omega
  have h:a.drop i=[]:=Qf I;refine W.exit U ?_;refine Φ ?_;by_cases g:a.length<b.length
  .refine Ι (by simp[g]) ?_;refine Φ ?_;have f:b.drop i=b[i]::b.drop (i+1):=Ph I;refine W.Y' ?_;rw[show NJ a b=-1 by rw[j,h,f];rfl];rfl
  .refine Κ (by simp[g]) ?_;refine Φ ?_;have f:b.drop i=[]:=Qf I;refine W.Y' ?_;rw[show NJ a b=0 by rw[j,h,f];rfl];rfl
abbrev Ms (x y:Z0):Int:=NJ x.1 y.1
theorem Pz:Rh Ms where
 K9 x:=Gr.lex.K9 x.1
 PA x y h:=Subtype.ext (Gr.lex.PA x.1 y.1 h)
 OF x y:=Gr.lex.OF x.1 y.1
 trans x y z:=Gr.lex.trans x.1 y.1 z.1
abbrev X2 (x y:Z0):Bool:=!Zm Ms y x
abbrev DT:Ψ:=.fn (.func 96) [] []
theorem qa (l:List Z0) (a:l.length<=12):Μ prog 97 [.ms 0 l.length 0 l.length,DT] [.cells 26 1 (l.map Y7)] (λr s=>r=.ε []/\s=[.cells 26 1 ((l.mergeSort X2).map Y7)]) (λ_ _=>False):=by
 have h:=qf l.toArray l.length Ω a DT Ms (by simp[S9]) (λx y=>Τ.p (qb x.1 y.1 (by have:=x.2;omega)) (.cons .ex (.cons .ex .nil)) Ω Ω);rw[EN Pz.Mt Pz.DV l] at h;exact h
end Go.TL
namespace Go.TL
open Go.Proofs.Tryz
open Go.Proofs
variable [Z1]
theorem zC (c x y:ByteArray) (r:List ByteArray):Xl c (x::y::r)=x++c++Xl c (y::r):=by
 have d:∀(r:List ByteArray) (a b:ByteArray),r.foldl (λa y=>a++c++y) (a++b)=a++r.foldl (λa y=>a++c++y) b:=by
  intro r
  induction r with
  | nil=>intro a b;rfl
  | cons z r e=>
   intro a b;rw[List.foldl_cons,List.foldl_cons,<-e,FX,FX,FX]
 show r.foldl _ (x++c++y)=_;exact d r (x++c) y
abbrev Py:ByteArray:=⟨#[32]⟩
def SR (x:ByteArray):Prop:=x.data.toList≠[]/\32∉x.data.toList
theorem DS {a b:ByteArray} (h:a.data.toList=b.data.toList):a=b:=by
 obtain⟨⟨x⟩⟩:=a;obtain⟨⟨y⟩⟩:=b;simp at h;subst h;rfl
theorem p' {a b:List UInt8} {c d:List UInt8} (f:32∉a) (g:32∉b) (h:a++32::c=b++32::d):a=b/\c=d:=by
 induction a generalizing b with
 | nil=>cases b with
  | nil=>exact⟨rfl,by simpa using h⟩
  | cons y b=>simp at h;exact absurd (h.1▸KN ..) g
 | cons x a i=>cases b with
  | nil=>simp at h;exact absurd (h.1▸KN ..) f
  | cons y b=>
   simp at h;obtain⟨j,k⟩:=i (λe=>f (KQ _ e)) (λe=>g (KQ _ e)) h.2;exact⟨by rw[h.1,j],k⟩
theorem Ju (x y:ByteArray) (r:List ByteArray):(Xl Py (x::y::r)).data.toList=x.data.toList++32::(Xl Py (y::r)).data.toList:=by
 rw[zC];simp
theorem p9:∀(p q:List ByteArray),(∀x∈p,SR x)->(∀x∈q,SR x)->Xl Py p=Xl Py q->p=q:=by
 intro p
 induction p with
 | nil=>
  intro q _ b h
  match q,b,h with
  | [],_,_=>rfl
  | [y],b,h=>exact absurd (by rw[show Xl Py [y]=y from rfl] at h;rw[<-h];rfl) (b y Ω).1
  | y::z::r,b,h=>
   have:=congrArg (λa=>a.data.toList) h;simp only[Ju] at this;simp[Xl] at this
 | cons x p e=>
  intro q c b h
  match p,q,c,b,h,e with
  | [],[],c,_,h,_=>exact absurd (by rw[show Xl Py [x]=x from rfl] at h;rw[h];rfl) (c x Ω).1
  | [],[y],_,_,h,_=>exact congrArg (λa=>[a]) h
  | [],y::z::r,c,_,h,_=>
   have:=congrArg (λa=>a.data.toList) h;simp only[Ju] at this;exact absurd (by rw[show Xl Py [x]=x from rfl] at this;rw[this];simp) (c x Ω).2
  | w::p,[],_,_,h,_=>
   have:=congrArg (λa=>a.data.toList) h;simp only[Ju] at this;simp[Xl] at this
  | w::p,[y],_,b,h,_=>
   have:=congrArg (λa=>a.data.toList) h;simp only[Ju] at this;exact absurd (by rw[show Xl Py [y]=y from rfl] at this;rw[<-this];simp) (b y Ω).2
  | w::p,y::z::r,c,b,h,e=>
   have:=congrArg (λa=>a.data.toList) h;simp only[Ju] at this;obtain⟨f,g⟩:=p' (c x Ω).2 (b y Ω).2 this;have i:=e (z::r) (λa d=>c a (by simp at d ⊢;exact .inr d)) (λa d=>b a (by simp at d ⊢;exact .inr d)) (DS g);rw[DS f,i]
def cutAt (l:List ByteArray) (f t:Int):Z0:=⟨((l.drop (f+1).toNat).take (t-f-1).toNat).take 3,by simp;omega⟩
def OE (f t:Int):Bool:=decide (f<t/\t-f-1<=3)
def Gq (l:List ByteArray) (f t:Int):List Z0:=if OE f t then [cutAt l f t] else []
instance iJ (p:Z0) (M:List Z0):Decidable (p∈M):=decidable_of_iff (M.any (λq=>decide (q=p))=true) Ω
def OD (M:List Z0) (p:Z0):List Z0:=if p∈M then M else M++[p]
def Ty (l:List ByteArray) (M:List Z0) (f:Int) (T:Α):List Z0:=(T.flatMap (Gq l f)).foldl OD M
def Qu (l:List ByteArray) (M:List Z0) (F T:Α):List Z0:=F.foldl (λM f=>Ty l M f T) M
def RU (l:List ByteArray) (left right:ByteArray):List Z0:=Qu l [] (placesOf l left (-1)) (placesOf l right l.length)
def SQ (l:List ByteArray) (left right:ByteArray):List Z0:=(RU l left right).mergeSort X2
theorem p8 (l:List ByteArray) (M:List Z0) (f:Int) (T:Α) (t:Int):Ty l M f (T++[t])=if OE f t then OD (Ty l M f T) (cutAt l f t) else Ty l M f T:=by
 unfold Ty;rw[KP,Pf];simp only[List.flatMap_cons,List.flatMap_nil,Ug,Gq];split<;>rfl
theorem p7 (l:List ByteArray) (M:List Z0) (F T:Α) (f:Int):Qu l M (F++[f]) T=Ty l (Qu l M F T) f T:=by
 unfold Qu;rw[Pf];rfl
theorem p6 {d:Z0->Prop} {M:List Z0} {p:Z0} (h:M.Nodup/\∀q∈M,d q) (f:d p):(OD M p).Nodup/\∀q∈OD M p,d q:=by
 unfold OD;split
 .exact h
 .rename_i g;refine⟨KM.2 ⟨h.1,Ω,λa i b e=>by simp at e;subst e;rintro rfl;exact g i⟩,λq c=>?_⟩;rcases Uv.1 c with c|c
  .exact h.2 q c
  .simp at c;subst c;exact f
theorem zB {l:List ByteArray} {W:ByteArray->Prop} (h:∀x∈l,W x) (f t:Int):∀x∈(cutAt l f t).1,W x:=λx a=>h x (List.mem_of_mem_drop (Nw (Nw a)))
theorem zA {l:List ByteArray} {W:ByteArray->Prop} (h:∀x∈l,W x) {M:List Z0} (b:M.Nodup/\∀q∈M,∀x∈q.1,W x) (f:Int) (T:Α):(Ty l M f T).Nodup/\∀q∈Ty l M f T,∀x∈q.1,W x:=by
 unfold Ty;generalize c:T.flatMap (Gq l f)=C;have d:∀p∈C,∀x∈p.1,W x:=by
  rw[<-c];intro p e;obtain⟨t,_,a⟩:=KI.1 e;unfold Gq at a;split at a
  .simp at a;subst a;exact zB h f t
  .simp at a
 clear c
 induction C generalizing M with
 | nil=>exact b
 | cons p C g=>exact g (p6 b (d p Ω)) (λq i=>d q (by simp[i]))
theorem zz {l:List ByteArray} {W:ByteArray->Prop} (h:∀x∈l,W x) {M:List Z0} (a:M.Nodup/\∀q∈M,∀x∈q.1,W x) (F T:Α):(Qu l M F T).Nodup/\∀q∈Qu l M F T,∀x∈q.1,W x:=by
 unfold Qu
 induction F generalizing M with
 | nil=>exact a
 | cons f F b=>exact b (zA h a f T)
abbrev Ul (p:Z0):ByteArray:=Xl Py p.1
abbrev Xk (p:Z0):Ψ×Ψ:=(ZP (Ul p),Y7 p)
def p5 (M:List Z0):Prop:=M.Nodup/\∀q∈M,∀x∈q.1,SR x
theorem p1 (a b:ByteArray):aeqv ξ 9 (ZP a) (ZP b)=some (decide (a=b)):=by
 have e:(a==b)=decide (a=b):=by
  rw[Qd,decide_eq_true_eq];show(a.data==b.data)=true↔_;rw[beq_iff_eq];exact⟨λh=>by cases a;cases b;simp at h;rw[h],λh=>by rw[h]⟩
 simp[e];rfl
theorem key_inj {p q:Z0} (a:∀x∈p.1,SR x) (b:∀x∈q.1,SR x) (h:Ul p=Ul q):p=q:=Subtype.ext (p9 _ _ a b h)
theorem zy (p:Z0) (g:∀x∈p.1,SR x):∀(M:List Z0) (d:Nat),(∀q∈M,∀x∈q.1,SR x)->(p∉M/\WI ξ 9 (ZP (Ul p)) (M.map Xk) d=some none)\/∃i,M[i]?=some p/\WI ξ 9 (ZP (Ul p)) (M.map Xk) d=some (some (d+i,Y7 p)):=by
 intro M
 induction M with
 | nil=>intro d _;exact .inl ⟨Ω,rfl⟩
 | cons q M h=>
  intro d f;have j:=f q Ω;have e:=p1 (Ul p) (Ul q);simp only[V6,WI,e];by_cases a:Ul p=Ul q
  .have:=key_inj g j a;subst this;exact .inr ⟨0,U,Ω⟩
  .rw[decide_eq_false a];rcases h (d+1) (λr k=>f r (by simp[k])) with⟨b,c⟩|⟨i,b,c⟩
   .exact .inl ⟨λhm=>by rcases Yd.1 hm with rfl|hm;exact a rfl;exact b hm,c⟩
   .exact .inr ⟨i+1,by simpa using b,by simpa[U9,KH 1 i] using c⟩
theorem p0 (p:Z0) (d:∀x∈p.1,SR x) (M:List Z0) (f:∀q∈M,∀x∈q.1,SR x) (σ:Ρ) (g:U3 (.map (M.map Xk)::σ) 0=true) :
  OZ ξ 174 (.map (M.map Xk)::σ) (.mp 0) (ZP (Ul p)) (Y7 p)=.ok .Zx (.map ((OD M p).map Xk)::σ):=by
 have h:PZ ξ 9 (ZP (Ul p))=true:=by kernel_rfl
 have k:PY ξ 174=some (9,26):=by kernel_rfl
 unfold OZ;rw[k];simp only[List.getElem?_cons_zero,h,g,and_self,if_true];rcases zy p d M 0 f with⟨a,b⟩|⟨i,a,b⟩
 .rw[b];unfold OD;rw[if_neg a];simp
 .rw[b];unfold OD;have l:p∈M:=ZH a;rw[if_pos l];have:(M.map Xk).set i (ZP (Ul p),Y7 p)=M.map Xk:=by
   have c:(M.map Xk)[i]?=some (ZP (Ul p),Y7 p):=by rw[Ys,a];rfl
   refine U' λj=>?_;by_cases e:i=j
   .subst e;rw[Xs (ZR.1 c).1,c]
   .rw[Xj e]
  simp[this]
theorem zx {l:List ByteArray} {w:ByteArray} {n x:Int} (h:x∈placesOf l w n):x=n\/0<=x/\x<l.length:=by
 unfold placesOf at h;split at h
 .simp at h;exact .inl h
 .unfold RV at h;obtain⟨j,a,rfl⟩:=Zh.1 h;have:=(To.1 a).1;simp at this;exact .inr ⟨Ω,by simp;omega⟩
theorem pZ (x:Z0) (c:∀y∈x.1,SR y) (C L:List Z0) (d:∀q∈C,∀y∈q.1,SR y) (f:x∈C) (K:ψ) (b:Option (Ψ×Ψ)) :
  ∃j,C[j]?=some x/\N5 ξ 174 [.map (C.map Xk),.cells 26 1 K,.iter 0 (L.map Xk) b] (.mp 0) (ZP (Ul x))=.ZD (∀e∈L.map Xk,∃w,e.1=.z w/\w≠.string (Ul x)) (.ok (.z (.tuple #[])) [.map ((C.eraseIdx j).map Xk),.cells 26 1 K,.iter 0 (L.map Xk) none]):=by
 have g:PZ ξ 9 (ZP (Ul x))=true:=by kernel_rfl
 have h:PY ξ 174=some (9,26):=by kernel_rfl
 rcases zy x c C 0 d with⟨a,_⟩|⟨j,a,i⟩
 .exact absurd f a
 refine⟨j,a,?_⟩;unfold N5;rw[h];have k:Ka 0 [Row.map (C.map Xk),.cells 26 1 K,.iter 0 (L.map Xk) b] 0=some 2:=rfl;have l:U3 [Row.map (C.map Xk),.cells 26 1 K,.dead] 0=true:=rfl;simp only[List.getElem?_cons_zero,List.getElem?_cons_succ,k,g,l,and_self,if_true,i,V5,List.set_cons_zero,List.set_cons_succ,G9]
theorem DR {l:List Z0}:∀e∈l.map Y7,∀a∈e.cells,η 0 a:=λe b a c=>by
 obtain⟨y,_,rfl⟩:=Zh.1 b;exact Jv y a c
theorem pY (g:ZZ) (c:Nat) (l:List ByteArray) (u:g.ZT[c]?=some l) (ao:l.length<1000) (Z:∀x∈l,SR x/\x.size<1000) (ae:(RU l g.left g.right).length<=12) :
  Τ prog 50 [YT g,J c] (ζ Y7 1 (SQ l g.left g.right)):=by
 have aD:c<g.ZT.length:=(ZR.1 u).1
 have aE:∀h:c<g.ZT.length,g.ZT[c]=l:=λh=>(ZR.1 u).2;obtain⟨F,aa⟩:=Z' (placesOf l g.left (-1));obtain⟨T,ab⟩:=Z' (placesOf l g.right l.length);have a6:F.length<=1000:=by
  rw[aa];unfold placesOf;split
  .simp
  .exact RH (DW ..) I
 have a7:T.length<=1000:=by
  rw[ab];unfold placesOf;split
  .simp
  .exact RH (DW ..) I
 refine Μ.body Ο func50 U U ntmps50 U U Ω ?_;refine Z9 (Ξ aD aE) ?_;refine υ λv m=>?_;refine Τ.d (zG l ao g.left (-1)) (Δ ?_);rw[<-aa];apply m
 repeat apply Γ
 refine W.iter (λi:Nat=>i<=F.length) (λi=>[(2,.Ν (Y5 g)),(5,Yw l),(6,.mp 0),(26,ζ J 1 F),(27,J F.length),(28,J i)]) (λi=>[.map ((Qu l [] (F.take i) T).map Xk)]) (λi=>F.length-i) 0 (Ζ _) (by simp[Qu]) Ω (λi hi aF=>?_);refine Φ ?_;refine W.Yl U (λu=>?_) (λu=>?_)
 .have D:i<F.length:=by simpa using u
  refine Z9 D ?_;refine υ λv m=>?_;refine Τ.d (zG l ao g.right l.length) (Δ ?_);rw[<-ab];apply m;obtain⟨f,af⟩:=Z' (F[i]);obtain⟨M,ag⟩:=Z' (Qu l [] (F.take i) T)
  repeat apply Γ
  refine W.JX [(2,.Ν (Y5 g)),(5,Yw l),(6,.mp 0),(26,ζ J 1 F),(27,J F.length),(28,J i)] [.map ((Ty l M f T).map Xk)] ?_ ?_
  .have aG:f∈placesOf l g.left (-1):=by rw[<-aa,af];exact Yq D
   have a8:=zx aG;rw[<-af,<-ag];refine W.iter (λj:Nat=>j<=T.length) (λj=>[(2,.Ν (Y5 g)),(5,Yw l),(6,.mp 0),(26,ζ J 1 F),(27,J F.length),(28,J i),(8,J f),(37,ζ J 1 T),(38,J T.length),(39,J j)]) (λj=>[.map ((Ty l M f (T.take j)).map Xk)]) (λj=>T.length-j) 0 (Ζ _) (by simp[Ty]) Ω (λj ap ah=>?_);refine Φ ?_;refine W.Yl U (λu=>?_) (λu=>?_)
   .have o:j<T.length:=by simpa using u
    obtain⟨t,O⟩:=Z' (T[j]);have aH:t∈placesOf l g.right l.length:=by rw[<-ab,O];exact Yq o
    have a9:=zx aH
    have a':T[j]?=some t:=by rw[O];exact Z4 o
    have aI:∀h:j<T.length,T[j]=t:=λh=>O.symm
    have E:Ty l M f (T.take (j+1))=if OE f t then OD (Ty l M f (T.take j)) (cutAt l f t) else Ty l M f (T.take j):=by
     rw[VW o,<-O,p8]
    clear O;have w1:IntKind.i64.wrap (t-f)=t-f:=IntWalk.i64_in _ I;have aq:IntKind.i64.wrap (t-f-1)=t-f-1:=IntWalk.i64_in _ I;have aJ:IntKind.i64.wrap (f+1)=f+1:=IntWalk.i64_in _ I;refine Z9 (Ξ o aI) ?_;by_cases B:f<t
    .by_cases H:t-f-1<=3
     .have P:OE f t=true:=by simp[OE,B,H]
      rw[P,if_pos U] at E;refine Z9 (Ξ B (Ξ w1 (Ξ aq H))) ?_;refine Ι (by simp[B,H]) ?_;refine Ze aJ λv m=>?_;refine⟨⟨I,I,I⟩,?_⟩;have aK:List.drop (f+1).toNat (List.take t.toNat (List.map ZP l))=(cutAt l f t).1.map ZP:=by
       have aL:t.toNat-(f+1).toNat=(t-f-1).toNat:=I;rw[List.drop_take,aL];show _=((((l.drop (f+1).toNat).take (t-f-1).toNat).take 3).map ZP);rw[List.take_take,show min 3 (t-f-1).toNat=(t-f-1).toNat by omega,Qc,List.map_drop]
      rw[aK];apply m;obtain⟨p,Q⟩:=Z' (cutAt l f t);have ai:∀x∈p.1,SR x/\x.size<1000:=by rw[Q];exact zB Z f t
      rw[<-Q] at E ⊢;refine υ λv m=>?_;have aM:∀x∈p.1,0<x.size/\x.size<1000:=λx n=>⟨Nat.pos_of_ne_zero λh=>(ai x n).1.1 (by rw[(zY x).2 h]),(ai x n).2⟩;have aN:∀q∈Ty l M f (T.take j),∀x∈q.1,SR x:=by
       refine(zA (λx n=>(Z x n).1) ?_ f _).2;rw[ag];exact zz (λx n=>(Z x n).1) ⟨Ω,Ω⟩ _ _
      have aO:=p0 p (λx n=>(ai x n).1) _ aN [] U;refine Τ.c (DZ Py Z7 p.1 p.2 aM) (.cons .ex (.cons (.refl _) .nil)) Ω Ω ?_;simp[-OZ];(repeat (rw[Η];simp[-OZ,aO]));apply m;refine Φ ?_;refine W.to (ah (j+1) o I) (by rw[E]) (by simp[Y9 o (show T.length<2 ^ 62 by omega)])
     .have P:OE f t=false:=by simp[OE,B,H]
      rw[P,if_neg Ω] at E;refine Z9 (Ξ B (Ξ w1 (Ξ aq H))) ?_;refine Κ (by simp[B,H]) ?_;refine Φ ?_;refine W.to (ah (j+1) o I) (by rw[E]) (by simp[Y9 o (show T.length<2 ^ 62 by omega)])
    .have P:OE f t=false:=by simp[OE,B]
     rw[P,if_neg Ω] at E;refine Z9 B ?_;refine Κ (by simp[B]) ?_;refine Φ ?_;refine W.to (ah (j+1) o I) (by rw[E]) (by simp[Y9 o (show T.length<2 ^ 62 by omega)])
   .have o:T.length<=j:=by simpa using u
    have aP:T.take j=T:=Xb o;refine W.exit U ?_;exact .stop ⟨U,by rw[aP],Ω⟩
  .refine Φ ?_;refine W.to (aF (i+1) D I) (by rw[VW D,p7,<-af,<-ag]) (by simp[Y9 D (show F.length<2 ^ 62 by omega)])
 .have D:F.length<=i:=by simpa using u
  have ar:Qu l [] (F.take i) T=RU l g.left g.right:=by rw[Xb D,aa,ab];rfl
  rw[ar];refine W.exit U ?_;refine υ λv m=>?_;apply m;refine W.pad 26 1 (σ':=[.map ((RU l g.left g.right).map Xk)]) U (λj r h=>⟨r,h,.inl U⟩) [(6,.mp 0),(12,.ms 1 0 0 0)] (λz S=>by
   simp at S;rcases S with rfl|rfl
   .exact .same _
   .exact .nil) ?_
  refine Φ ?_;obtain⟨s,V⟩:=Z' (RU l g.left g.right);have au:p5 s:=by rw[V];exact zz (λx n=>(Z x n).1) ⟨Ω,Ω⟩ _ _
  have Q:SQ l g.left g.right=s.mergeSort X2:=by rw[V];rfl
  rw[<-V] at ae;rw[Q,<-V];clear Q V ar;refine W.iter (λx:List Z0×List Z0×List Z0=>(x.1++x.2.1).Perm s/\x.2.2.Perm x.2.1) (λx=>[(6,.mp 0),(12,.ms 1 x.1.length 0 x.1.length),(66,.it 2)]) (λx=>[.map (x.2.2.map Xk),.cells 26 1 (x.1.map Y7),.iter 0 (x.2.1.map Xk) none]) (λx=>x.2.1.length) ([],s,s) ⟨Ω,.refl _⟩ U Ω (λx n aQ=>?_);obtain⟨K,R,C⟩:=x;obtain⟨L,X⟩:=n;simp only at L X
  repeat apply Γ
  cases R with
  | nil=>
   refine υ λv m=>?_;apply m
   repeat apply Γ
   refine Κ U ?_;refine W.exit U ?_;have aR:C=[]:=X.eq_nil;have aj:K.Perm s:=by simpa using L
   have aS:K.length<=12:=by rw[aj.length_eq];exact ae
   subst aR;refine Φ ?_;refine υ λv m=>?_;have av:η 0 DT:=by simp[S9]
   refine Μ.one (qa K aS) 1 Ω (DR) (DR) (by simp[T9,av.PT 1]) (by simp[WR]) (by simp[T8,av.X5 [1]]) ?_;simp[X5,V1];(repeat (rw[Η];simp));apply m;refine Φ ?_;have aT:K.mergeSort X2=s.mergeSort X2:=by
    have aw:∀a b c:Z0,X2 a b=true->X2 b c=true->X2 a c=true:=λa b c g k=>by
     have:=Pz.Mt.ntrans c b a (by simpa[X2] using k) (by simpa[X2] using g);simp[X2,this]
    have ax:∀a b:Z0,(X2 a b||X2 b a)=true:=λa b=>by
     cases ay:Zm Ms b a<;>cases az:Zm Ms a b<;>simp[X2,ay,az];have:=Pz.Mt.trans a b a az ay;rw[Pz.Mt.irrefl] at this;cases this
    have aU:=I5 (le:=X2) aw ax K
    have aV:=I5 (le:=X2) aw ax s;exact I7 (le:=λa b=>X2 a b=true) (λa b _ _ h k=>Pz.DV a b (by simpa[X2] using k) (by simpa[X2] using h)) aU aV ((Ma K _).trans (aj.trans (Ma s _).symm))
   rw[aT];have ak:K.length=(s.mergeSort X2).length:=by rw[aj.length_eq];simp
   refine W.cut 0 (Ζ _) [(4,ζ Y7 1 (s.mergeSort X2))] Ω (λid r ba bb=>I) (λz S=>by
    simp at S;subst S;exact Y0.own (id:=1) (t:=26) (Ζ _) U (by simp[ak]) (λe al a aW=>DR e al a aW)) ?_
   refine W.rt ?_;exact .of U
  | cons y R=>
   have ad:∀q∈K++y::R,∀z∈q.1,SR z:=λq N=>au.2 q (L.subset N)
   have aX:(K++y::R).Nodup:=L.symm.nodup au.1
   have ak:(K++y::R).length<=12:=by rw[L.length_eq];exact ae
   refine υ λv m=>?_;intro i hi;obtain⟨x,n⟩:=Z' ((y::R)[i]'(by simpa using hi));have am:(y::R)[i]?=some x:=by rw[n];exact Z4 _
   have aY:(Xk y::List.map Xk R)[i]?=some (Xk x):=by
    have:(List.map Xk (y::R))[i]?=some (Xk x):=by rw[Ys,am];rfl
    simpa using this
   have aZ:(Xk y::List.map Xk R).eraseIdx i=((y::R).eraseIdx i).map Xk:=G9 Xk (y::R) i
   have an:x∈y::R:=ZH am
   have Y:=Ba am;rw[aY,aZ];simp;(repeat (rw[Η];simp));apply m
   repeat apply Γ
   refine Ι U ?_;refine Φ ?_;refine ZO ?_;refine ZG (A:=[75]) Ο λv m=>Δ ?_;refine⟨by simp at ak;omega,?_⟩;apply m;have a0:x∈C:=X.symm.subset an;obtain⟨j,ap,aA⟩:=pZ x (ad x (by simp[an])) C ((y::R).eraseIdx i) (λq N=>ad q (List.mem_append_right _ (X.subset N))) a0 (K.map Y7++[Y7 x]) (some (Xk x));have a1:∀e∈((y::R).eraseIdx i).map Xk,∃w,e.1=.z w/\w≠.string (Ul x):=λe al=>by
    obtain⟨q,N,rfl⟩:=Zh.1 al;refine⟨_,U,λh=>?_⟩;have a2:q∈y::R:=Y.symm.subset (KQ _ N);have a3:=key_inj (ad q (by simp[a2])) (ad x (by simp[an])) (by simpa using h);subst a3;have a4:(q::(y::R).eraseIdx i).Nodup:=Y.nodup (KM.1 aX).2.1;exact(Q5.1 a4).1 N
   obtain⟨aB,aC⟩:∃aB:Prop,aB↔∀e∈((y::R).eraseIdx i).map Xk,∃w,e.1=.z w/\w≠.string (Ul x):=⟨_,.rfl⟩;rw[<-propext aC] at aA;have a5:(C.eraseIdx j).Perm ((y::R).eraseIdx i):=((Ba ap).symm.trans (X.trans Y)).cons_inv
   repeat apply Γ
   refine YF λv m=>?_;simp[-N5];(repeat (rw[Η];simp[-N5,aA]));refine⟨aC.mpr a1,?_⟩;apply m;refine Φ ?_;refine W.to (aQ (K++[x],(y::R).eraseIdx i,C.eraseIdx j) ⟨?_,a5⟩ ?_) Ω Ω
   .exact((Tq K [x] _)▸(Y.symm.append_left K)).trans L
   .have:=Y.length_eq;simp only[List.length_cons] at this ⊢;omega
structure ZZ.small (g:ZZ):Prop where
 ZT:Gu g.ZT
 left:g.left.size<2 ^ 40
 right:g.right.size<2 ^ 40
 words:D7 g.words
 ZC:g.ZC.length<2 ^ 40/\∀b∈g.ZC,b.Xe.size<2 ^ 40
 ZX:g.ZX.small
theorem pX {s:ByteArray} (h:s=⟨#[]⟩):s.toList.isEmpty=true:=by rw[JA,h];rfl
theorem pW {s:ByteArray} (h:¬s=⟨#[]⟩):s.toList.isEmpty=false:=by
 have a:¬s=ByteArray.empty:=h;rw[JA];simpa using a
def Uk (s:ByteArray):Int:=if s≠⟨#[]⟩/\Xm s=false then 2 else 0
def Qt (l:List ByteArray) (i:Nat):Int:=match l[i]? with
 | none=>0
 | some w=>if Xm w=false then 2 else if 0<i/\Ta w ((l[i-1]?).getD ⟨#[]⟩)=true then 5 else 0
def Gp (l:List ByteArray):Int:=XB ((List.range l.length).map (Qt l))
def RS (g:ZZ):Int:=if XB ([g.left,g.right].map Uk)≠0 then XB ([g.left,g.right].map Uk) else if 5<g.words.length then 6 else Gp g.words
theorem pV (g:ZZ) (v:g.small):Τ prog 42 [YT g] (J (RS g)):=by
 have Z:=v.words.1;refine Μ.body Ο func42 U U ntmps42 U U Ω ?_;refine Φ ?_;have H:∀s∈[g.left,g.right],s.size<2 ^ 40:=λs k=>by
  simp at k;rcases k with rfl|rfl
  .exact v.left
  .exact v.right
 obtain⟨L,o⟩:=Z' ([g.left,g.right]);have aa:L.length=2:=by rw[o];rfl
 have ab:([ZP g.left,ZP g.right]:ψ)=L.map ZP:=by rw[o];rfl
 have K:RS g=if XB (L.map Uk)≠0 then XB (L.map Uk) else if 5<g.words.length then 6 else Gp g.words:=by rw[o];rfl
 rw[<-o] at H;rw[K];refine W.iter (λi:Nat=>i<=L.length/\∀j,j<i->∀h:j<L.length,Uk L[j]=0) (λi=>[(1,.Ν (Y5 g)),(2,J 0),(11,.sl true 1 (L.map ZP)),(12,J 2),(13,J i)]) (λ_=>[]) (λi=>L.length-i) 0 ⟨Ζ _,λj c=>I⟩ U (by simp[o]) (λi hi p=>?_);refine Φ ?_;refine W.Yl U (λa=>?_) (λa=>?_)
 .have a:i<L.length:=by have:(i:Int)<2:=by simpa using a
                        omega
  have C:Uk L[i]≠0->XB (L.map Uk)=Uk L[i]:=λQ=>by
   have:=Hf (l:=L.map Uk) (i:=i) (by simpa using a) (by simpa using Q) (λj c h=>by simpa using hi.2 j c (by simpa using h));simpa using this
  obtain⟨s,k⟩:=Z' (L[i]);have M:∀h:i<L.length,L[i]=s:=λ_=>k.symm;have r:=H _ (Yq a);rw[<-k] at C r;have x:Uk s=0->∀j,j<i+1->∀h:j<L.length,Uk L[j]=0:=λb j c h=>by
   by_cases e:j=i
   .subst e;rw[M h];exact b
   .exact hi.2 j I h
  clear k;refine Z9 (Ξ a M) ?_;by_cases b:s=⟨#[]⟩
  .have t:Uk s=0:=by unfold Uk;rw[if_neg (λh=>h.1 b)]
   have D:=pX b;refine Ze D λN u=>?_;apply u;refine Κ U ?_;refine Φ ?_;refine W.to (p (i+1) ⟨a,x t⟩ I) U (by simp[Y9 a (show L.length<2 ^ 62 by omega)])
  .have D:=pW b;refine Ze D λN u=>?_;refine Τ.d (D8 s r) (Δ ?_);apply u;cases m:Xm s with
   | true=>
    have t:Uk s=0:=by unfold Uk;rw[if_neg (λh=>by rw[m] at h;exact absurd h.2 Ω)]
    refine Κ U ?_;refine Φ ?_;refine W.to (p (i+1) ⟨a,x t⟩ I) U (by simp[Y9 a (show L.length<2 ^ 62 by omega)])
   | false=>
    have t:Uk s=2:=by unfold Uk;rw[if_pos ⟨b,m⟩]
    rw[t] at C;refine Ι U ?_;refine Φ ?_;rw[C Z7];refine W.rt ?_;exact .of U
 .have a:2<=i:=by have:¬(i:Int)<2:=by simpa using a
                  omega
  have b:XB (L.map Uk)=0:=He λj c=>by
   have R:j<L.length:=by simpa using c
   simpa using hi.2 j I R
  rw[b,if_neg Ω];refine W.exit U ?_;refine Φ ?_;by_cases O:5<g.words.length
  .refine Ι (by simp;omega) ?_;refine Φ ?_;rw[if_pos O];refine W.rt ?_;exact .of U
  refine Κ (by simp;omega) ?_;rw[if_neg O];refine Φ ?_;clear p hi b K;have S:=v.words.2;refine W.iter (λi:Nat=>i<=g.words.length/\∀j,j<i->Qt g.words j=0) (λi=>[(1,.Ν (Y5 g)),(30,Yw g.words),(31,J g.words.length),(32,J i)]) (λ_=>[]) (λi=>g.words.length-i) 0 ⟨Ζ _,λj c=>I⟩ U Ω (λi hi p=>?_);refine Φ ?_;refine W.Yl U (λa=>?_) (λa=>?_)
  .have a:i<g.words.length:=by simpa using a
   have y:g.words[i]?=some g.words[i]:=Z4 a
   have P:∀e:Int,Qt g.words i=e->e≠0->Gp g.words=e:=λe T E=>MJ a T E hi.2
   have x:Qt g.words i=0->∀j,j<i+1->Qt g.words j=0:=λb j c=>by
    by_cases e:j=i
    .subst e;exact b
    .exact hi.2 j I
   have r:=S _ (Yq a);obtain⟨w,m⟩:=Z' (g.words[i]);have V:∀h:i<g.words.length,g.words[i]=w:=λ_=>m.symm;rw[<-m] at y r;clear m;refine Z9 (Ξ a V) ?_;refine υ λN u=>?_;refine Τ.d (D8 w r) (Δ ?_);apply u;cases F:Xm w with
   | false=>
    refine Ι U ?_;refine Φ ?_;rw[P 2 (by unfold Qt;rw[y];simp only;rw[if_pos F]) Z7];refine W.rt ?_;exact .of U
   | true=>
    refine Κ U ?_
    repeat apply Γ
    refine W.QP (A:=[]) Ο [(41,ZV (decide (0<i/\Ta w ((g.words[i-1]?).getD ⟨#[]⟩)=true))),(1,.Ν (Y5 g)),(30,Yw g.words),(31,J g.words.length),(32,J i)] ?_ (by
     cases i with
     | zero=>simp[Η,QQ]
     | succ n=>
      have X:n<g.words.length:=I
      have Y:=Yk (show n<2 ^ 62 by omega)
      have E:(0:Int)<(n:Int)+1:=I;simp[Η,QQ,E,X,Y])
    by_cases B:0<i/\Ta w ((g.words[i-1]?).getD ⟨#[]⟩)=true
    .refine Ι (by simp only[B];rfl) ?_;refine Φ ?_;rw[P 5 (by unfold Qt;rw[y];simp only;rw[if_neg (by rw[F];simp),if_pos B]) Z7];refine W.rt ?_;exact .of U
    .refine Κ (by simp only[B];rfl) ?_;refine Φ ?_;refine W.to (p (i+1) ⟨a,x (by unfold Qt;rw[y];simp only;rw[if_neg (by rw[F];simp),if_neg B])⟩ I) U (by simp[Y9 a (show g.words.length<2 ^ 62 by omega)])
  .have a:g.words.length<=i:=by simpa using a
   refine W.exit U ?_;refine Φ ?_;rw[show Gp g.words=0 from MI (f:=Qt g.words) λj c=>hi.2 j I];refine W.rt ?_;exact .of U
theorem zw (l:List VA) (b:Ψ) (p:VA->Bool) (g:l.length<2 ^ 62) (o:η 0 b) (k:∀x∈l,WY prog b [Uo x] (ZV (p x))):Τ prog 86 [ζ Uo 3 l,b] (J (idxOf p l)):=by
 refine Μ.body Ο func86 U U ntmps86 U U Ω ?_;refine Φ ?_;refine W.iter (λi:Nat=>i<=l.length/\∀j,j<i->(h:j<l.length)->p l[j]=false) (λi=>[(0,ζ Uo 3 l),(1,b),(6,ζ Uo 3 l),(7,J l.length),(8,J i)]) (λ_=>[]) (λi=>l.length-i) 0 ⟨Ζ _,λj f=>I⟩ U Ω (λi hi m=>?_);refine Φ ?_;refine W.Yl U (λa=>?_) (λa=>?_)
 .have a:i<l.length:=by simpa using a
  refine Z9 a ?_;refine Ze a λr n=>?_;refine(k _ (Yq a)).c ?_;simp;(repeat (rw[Η];simp));apply n;cases d:p l[i]
  .refine Κ (by simp[d]) ?_;refine Φ ?_;refine W.forget _ ?_ (m (i+1) ⟨I,λj f h=>?_⟩ I)
   .simp[Y9 a g]
   .by_cases e:j=i
    .subst e;exact d
    .exact hi.2 j I h
  .refine Ι (by simp[d]) ?_;refine Φ ?_;refine W.Y' ?_;rw[MN a d hi.2];rfl
 .have a:l.length<=i:=by simpa using a
  refine W.exit U ?_;refine Φ ?_;refine W.Y' ?_;rw[MM λj f=>hi.2 j I f];rfl
theorem pU (l:List VA) (a:Ψ) (p:VA->Bool) (d:l.length<2 ^ 62) (b:η 0 a) (e:∀x∈l,WY prog a [Uo x] (ZV (p x))):Τ prog 92 [ζ Uo 3 l,a] (ZV (l.any p)):=by
 refine Μ.body Ο func92 U U ntmps92 U U Ω ?_;refine Φ ?_;refine υ λg f=>?_;refine Τ.c (zw l a p d b e) (Zw.refl _) (by simp[b]) Ω ?_;simp;(repeat (rw[Η];simp));apply f;refine Φ ?_;refine W.Y' ?_;rw[<-ML (p:=p)];rfl
theorem pT (l:List Z0) (b:Ψ) (p:Z0->Bool) (g:l.length<2 ^ 62) (o:η 0 b) (k:∀x∈l,WY prog b [Y7 x] (ZV (p x))):Τ prog 174 [ζ Y7 1 l,b] (J (idxOf p l)):=by
 refine Μ.body Ο func174 U U ntmps174 U U Ω ?_;refine Φ ?_;refine W.iter (λi:Nat=>i<=l.length/\∀j,j<i->(h:j<l.length)->p l[j]=false) (λi=>[(0,ζ Y7 1 l),(1,b),(6,ζ Y7 1 l),(7,J l.length),(8,J i)]) (λ_=>[]) (λi=>l.length-i) 0 ⟨Ζ _,λj f=>I⟩ U Ω (λi hi m=>?_);refine Φ ?_;refine W.Yl U (λa=>?_) (λa=>?_)
 .have a:i<l.length:=by simpa using a
  refine Z9 a ?_;refine Ze a λr n=>?_;refine(k _ (Yq a)).c ?_;simp;(repeat (rw[Η];simp));apply n;cases d:p l[i]
  .refine Κ (by simp[d]) ?_;refine Φ ?_;refine W.forget _ ?_ (m (i+1) ⟨I,λj f h=>?_⟩ I)
   .simp[Y9 a g]
   .by_cases e:j=i
    .subst e;exact d
    .exact hi.2 j I h
  .refine Ι (by simp[d]) ?_;refine Φ ?_;refine W.Y' ?_;rw[MN a d hi.2];rfl
 .have a:l.length<=i:=by simpa using a
  refine W.exit U ?_;refine Φ ?_;refine W.Y' ?_;rw[MM λj f=>hi.2 j I f];rfl
theorem pS (l:List Z0) (a:Ψ) (p:Z0->Bool) (d:l.length<2 ^ 62) (b:η 0 a) (e:∀x∈l,WY prog a [Y7 x] (ZV (p x))):Τ prog 134 [ζ Y7 1 l,a] (ZV (l.any p)):=by
 refine Μ.body Ο func134 U U ntmps134 U U Ω ?_;refine Φ ?_;refine υ λg f=>?_;refine Τ.c (pT l a p d b e) (Zw.refl _) (by simp[b]) Ω ?_;simp;(repeat (rw[Η];simp));apply f;refine Φ ?_;refine W.Y' ?_;rw[<-ML (p:=p)];rfl
abbrev WB (c:UInt8):ByteArray:=⟨#[c]⟩
theorem zv {c:UInt8} (h:c.toNat<128):Utf8.encode (c.toNat:Int)=WB c:=by
 unfold Utf8.encode;have a:Utf8.valid (c.toNat:Int)=true:=by unfold Utf8.valid;simp;omega
 simp only[a,if_true,Int.toNat_natCast,h];simp
def Qs (l:List VA) (c:UInt8):Bool:=l.any λb=>decide (b.Xe=WB c)
theorem pR (b:VA) {c:UInt8} (h:c.toNat<128):Τ prog 93 [Uo b,.Ν [.z (.int .i32 c.toNat)]] (ZV (decide (b.Xe=WB c))):=by
 refine Μ.body Ο func93 U U ntmps93 U U Ω ?_;have e:=zv h;refine Z9 e ?_;refine W.rt ?_;have a:(b.Xe.toList==[c])=decide (b.Xe=WB c):=by
  have:=PC b.Xe (WB c);rw[La (WB c)] at this;exact this
 exact .of (by simp[a])
def Qr (l:List VA) (i:Nat):Int:=match l[i]? with
 | none=>0
 | some b=>if b.Xe.size≠1\/Xm b.Xe=false then 2 else if 0<i/\Ta b.Xe (((l[i-1]?).map (·.Xe)).getD ⟨#[]⟩)=true then 5 else SU b.lo b.hi 1 9
def K8 (l:List VA):Int:=XB ((List.range l.length).map (Qr l))
def Px (l:List VA) (w:ByteArray):Bool:=w.data.toList.any λc=>!Qs l c
def NI (g:ZZ):Int:=if 12<g.ZC.length then 6 else if K8 g.ZC≠0 then K8 g.ZC else if g.words.any (Px g.ZC) then 3 else 0
theorem get_mem {w:ByteArray} {p:Nat} (h:p<w.size):w.get! p∈w.data.toList:=by
 have a:p<w.data.toList.length:=by simpa using h
 have e:w.get! p=w.data.toList[p]:=by
  show w.data[p]! = _;rw[getElem!_pos w.data p (by simpa using h)];simp
 rw[e];exact Yq a
theorem DQ {w:ByteArray} {c:UInt8} (h:c∈w.data.toList):∃p,p<w.size/\w.get! p=c:=by
 obtain⟨p,b,rfl⟩:=Om h;have a:p<w.data.size:=by simpa using b
 refine⟨p,a,?_⟩;show w.data[p]! = _;rw[getElem!_pos w.data p a];simp
theorem pQ {l:List VA} {w:ByteArray} (h:∀q,q<w.size->Qs l (w.get! q)=true):Px l w=false:=by
 rw[IQ];intro b;obtain⟨c,d,a⟩:=Qe.1 b;obtain⟨p,e,rfl⟩:=DQ d;rw[h p e] at a;cases a
theorem pP {l:List VA} {w:ByteArray} {p:Nat} (a:p<w.size) (h:Qs l (w.get! p)=false):Px l w=true:=Qe.2 ⟨_,get_mem a,by rw[h];rfl⟩
theorem pO (g:ZZ) (y:g.small) (ab:∀w∈g.words,Xm w=true):Τ prog 44 [YT g] (J (NI g)):=by
 have aj:=y.ZC.1;refine Μ.body Ο func44 U U ntmps44 U U Ω ?_;refine Φ ?_;by_cases O:12<g.ZC.length
 .refine Ι (by simp;omega) ?_;refine Φ ?_;rw[show NI g=6 from if_pos O];refine W.rt ?_;exact .of U
 refine Κ (by simp;omega) ?_;have P:NI g=if K8 g.ZC≠0 then K8 g.ZC else if g.words.any (Px g.ZC) then 3 else 0:=if_neg O
 rw[P];clear P;refine Φ ?_;refine W.iter (λi:Nat=>i<=g.ZC.length/\∀j,j<i->Qr g.ZC j=0) (λi=>[(1,.Ν (Y5 g)),(15,PB g.ZC),(16,J g.ZC.length),(17,J i)]) (λ_=>[]) (λi=>g.ZC.length-i) 0 ⟨Ζ _,λj r=>I⟩ U Ω (λi hi B=>?_);refine Φ ?_;refine W.Yl U (λa=>?_) (λa=>?_)
 .have a:i<g.ZC.length:=by simpa using a
  have t:g.ZC[i]?=some g.ZC[i]:=Z4 a
  have C:∀e:Int,Qr g.ZC i=e->e≠0->K8 g.ZC=e:=λe ad K=>MJ a ad K hi.2
  have D:Qr g.ZC i=0->∀j,j<i+1->Qr g.ZC j=0:=λl j r=>by
   by_cases e:j=i
   .subst e;exact l
   .exact hi.2 j I
  have E:=y.ZC.2 _ (Yq a);obtain⟨b,u⟩:=Z' (g.ZC[i]);have ae:∀h:i<g.ZC.length,g.ZC[i]=b:=λ_=>u.symm;rw[<-u] at t E;clear u
  repeat apply Γ
  refine ZG (A:=[4]) Ο λv k=>W8 (Ξ a ae) ?_;apply k;refine W.QH (σ0:=[]) (Ζ _) Ω Ω [(4,.Ν [ZP b.Xe,J b.lo,J b.hi]),(3,J i),(1,.Ν (Y5 g)),(15,PB g.ZC),(16,J g.ZC.length),(17,J i)] Ω ?_
  repeat apply Γ
  by_cases L:(b.Xe.size:Int)=1
  case neg=>
   have o:=C 2 (by unfold Qr;rw[t];simp only;rw[if_pos (.inl (λh=>L (by rw[h];rfl)))]) Z7;refine Ze L λv k=>?_;apply k;refine Ι U ?_;refine Φ ?_;rw[o,if_pos Z7];refine W.rt ?_;exact .of U
  refine Ze L λv k=>?_;refine Τ.d (D8 b.Xe E) (Δ ?_);apply k;cases m:Xm b.Xe with
  | false=>
   have o:=C 2 (by unfold Qr;rw[t];simp only;rw[if_pos (.inr m)]) Z7;refine Ι U ?_;refine Φ ?_;rw[o,if_pos Z7];refine W.rt ?_;exact .of U
  | true=>
   refine Κ U ?_
   repeat apply Γ
   refine W.J5 (A:=[]) Ο mixed [(33,ZV (decide (0<i/\Ta b.Xe (((g.ZC[i-1]?).map (·.Xe)).getD ⟨#[]⟩)=true))),(4,.Ν [ZP b.Xe,J b.lo,J b.hi]),(3,J i),(1,.Ν (Y5 g)),(15,PB g.ZC),(16,J g.ZC.length),(17,J i)] ?_ (by
    cases i with
    | zero=>simp;(repeat (rw[Za];simp));(try rw[YL]);refine⟨SA Wf,?_⟩;simp
    | succ n=>
     have Q:n<g.ZC.length:=I
     have af:=Yk (show n<2 ^ 62 by omega)
     have K:(0:Int)<(n:Int)+1:=I;simp;(repeat (rw[Za];simp[K,Q,af]));(try rw[YL]);refine⟨SA Wf,?_⟩;simp[Q])
   by_cases F:0<i/\Ta b.Xe (((g.ZC[i-1]?).map (·.Xe)).getD ⟨#[]⟩)=true
   .have o:=C 5 (by unfold Qr;rw[t];simp only;rw[if_neg (by rw[m];simp;omega),if_pos F]) Z7;refine Ι (by simp only[F];rfl) ?_;refine Φ ?_;rw[o,if_pos Z7];refine W.rt ?_;exact .of U
   refine Κ (by simp only[F];rfl) ?_;have R:Qr g.ZC i=SU b.lo b.hi 1 9:=by unfold Qr;rw[t];simp only;rw[if_neg (by rw[m];simp;omega),if_neg F]
   refine υ λv k=>?_;refine Τ.d (D6 b.lo b.hi 1 9) (Δ ?_);apply k;refine Φ ?_;by_cases l:SU b.lo b.hi 1 9=0
   .refine Κ (by simp[l]) ?_;refine Φ ?_;refine W.to (B (i+1) ⟨a,D (by rw[R,l])⟩ I) U (by simp[Y9 a (show g.ZC.length<2 ^ 62 by omega)])
   .have o:=C _ R l;refine Ι (by simp[l]) ?_;refine Φ ?_;rw[o,if_pos l];refine W.rt ?_;exact .of U
 .have a:g.ZC.length<=i:=by simpa using a
  rw[show K8 g.ZC=0 from MI (f:=Qr g.ZC) λj r=>hi.2 j I,if_neg Ω];clear B hi;refine W.exit U ?_;refine Φ ?_;refine W.iter (λi:Nat=>i<=g.words.length/\∀j,j<i->∀h:j<g.words.length,Px g.ZC g.words[j]=false) (λi=>[(1,.Ν (Y5 g)),(56,Yw g.words),(57,J g.words.length),(58,J i)]) (λ_=>[]) (λi=>g.words.length-i) 0 ⟨Ζ _,λj r=>I⟩ U Ω (λi hi B=>?_);have ak:=y.words.1;refine Φ ?_;refine W.Yl U (λa=>?_) (λa=>?_)
  .have a:i<g.words.length:=by simpa using a
   have E:=y.words.2 _ (Yq a)
   have S:=ab _ (Yq a)
   have T:Px g.ZC g.words[i]=true->g.words.any (Px g.ZC)=true:=λh=>Qe.2 ⟨_,Yq a,h⟩
   have D:Px g.ZC g.words[i]=false->∀j,j<i+1->∀h:j<g.words.length,Px g.ZC g.words[j]=false:=λl j r h=>by
    by_cases e:j=i
    .subst e;exact l
    .exact hi.2 j I h
   obtain⟨w,m⟩:=Z' (g.words[i]);have ag:∀h:i<g.words.length,g.words[i]=w:=λ_=>m.symm;rw[<-m] at E S T D;clear m;refine Z9 (Ξ a ag) ?_;refine W.iter (λp:Nat=>p<=w.size/\∀q,q<p->Qs g.ZC (w.get! q)=true) (λ_=>[(1,.Ν (Y5 g)),(56,Yw g.words),(57,J g.words.length),(58,J i),(63,.it 0)]) (λp=>[.str w p]) (λp=>w.size-p) 0 ⟨Ζ _,λq V=>I⟩ U Ω (λp X ah=>?_);have Y:=(Jz.1 S).1 p;by_cases s:p<w.size
   .have hd:=Jy (Y s)
    have u:=Y s;simp only[Vd,Wm,decide_eq_true_eq] at u;have Z:(w.get! p).toNat<128:=I;obtain⟨c,M⟩:=Z' (w.get! p);rw[<-M] at hd Z;refine Z9 s ?_;refine Ι U ?_;rw[hd]
    repeat apply Γ
    refine ZG (A:=[9]) Ο λv k=>Δ ?_;apply k;refine W.QH (σ0:=[.str w (p+1)]) (Ζ _) (by simp[YR]) Ω [(9,.Ν [.z (.int .i32 c.toNat)]),(1,.Ν (Y5 g)),(56,Yw g.words),(57,J g.words.length),(58,J i),(63,.it 0)] (by simp[Fb]) ?_;have ai:=pU g.ZC (.fn (.func 93) [] [.Ν [.z (.int .i32 c.toNat)]]) (λb=>decide (b.Xe=WB c)) I (by simp[S9]) (λx _=>λ_=>(pR x Z).cc (by simp;exact Zw.refl _) Ω Ω ⟨U,U⟩);refine υ λv k=>?_;refine Τ.d (ai) (Δ ?_);apply k;cases H:Qs g.ZC c with
    | true=>
     have N:(g.ZC.any λb=>decide (b.Xe=WB c))=true:=H;refine Κ (by simp[N]) ?_;refine Φ ?_;refine W.to (ah (p+1) ⟨s,λq V=>?_⟩ I) U Ω;by_cases e:q=p
     .subst e;rw[<-M];exact H
     .exact X.2 q I
    | false=>
     have N:(g.ZC.any λb=>decide (b.Xe=WB c))=false:=H;refine Ι (by simp[N]) ?_;refine Φ ?_;refine W.drop (h:=0) (Ζ _) (Ζ _) Ω U [(2,J 3)] Ω ?_;rw[if_pos (T (pP s (by rw[<-M];exact H)))];refine W.rt ?_;exact .of U
   .have al:p=w.size:=I
    refine Z9 s ?_;refine Κ U ?_;refine W.exit U ?_;refine Φ ?_;refine W.drop (h:=0) (σ':=[]) (Ζ _) (Ζ _) Ω U [(1,.Ν (Y5 g)),(56,Yw g.words),(57,J g.words.length),(58,J (i+1:Nat))] (by simp[Y9 a (show g.words.length<2 ^ 62 by omega)]) ?_;refine W.to (B (i+1) ⟨a,D (pQ λq V=>X.2 q I)⟩ I) U Ω
  .have a:g.words.length<=i:=by simpa using a
   have e:g.words.any (Px g.ZC)=false:=by
    rw[IQ];intro h;obtain⟨w,m,aa⟩:=Qe.1 h;obtain⟨j,r,rfl⟩:=Om m;rw[hi.2 j I r] at aa;cases aa
   rw[e];refine W.exit U ?_;refine Φ ?_;refine W.rt ?_;exact .of U
theorem pN {l:Α} (h:XB l=0):∀x∈l,x=0:=by
 induction l with
 | nil=>simp
 | cons e l c=>
  unfold XB at h;by_cases a:e=0
  .rw[if_pos a] at h;intro x b;rcases Yd.1 b with rfl|b
   .exact a
   .exact c h x b
  .rw[if_neg a] at h;exact absurd h a
def Pw (s:Y6) (F:WN):Int:=if s.err=0 then(if F=[] then 9 else 0) else s.err
def Pv (g:ZZ) (F:WN):Α:=[UR g.ZT,RS g,NI g,SU g.UT g.US 0 9,SU g.W2 g.UB 0 80,Pw g.ZX F]
def Tx (g:ZZ) (F:WN):Int:=XB (Pv g F)
theorem pM (g:ZZ) (a:g.small):Τ prog 39 [.Ν (Y5 g)] (J (UR g.ZT)):=by
 refine Μ.body Ο func39 U U ntmps39 U U Ω ?_;refine Φ ?_;refine υ λc b=>?_;refine Τ.d (zW g.ZT a.ZT) (Δ ?_);apply b;refine Φ ?_;refine W.rt ?_;exact .of U
theorem pL (g:ZZ) (a:g.small):Τ prog 41 [.Ν (Y5 g)] (J (RS g)):=by
 refine Μ.body Ο func41 U U ntmps41 U U Ω ?_;refine Φ ?_;refine υ λc b=>?_;refine Τ.d (pV g a) (Δ ?_);apply b;refine Φ ?_;refine W.rt ?_;exact .of U
theorem pK {g:ZZ} (h:RS g=0):∀w∈g.words,Xm w=true:=by
 unfold RS at h;split at h
 .rename_i c;exact absurd h c
 split at h
 .cases h
 intro w d;obtain⟨j,b,rfl⟩:=Om d;cases e:Xm g.words[j] with
 | true=>rfl
 | false=>
  exfalso;have a:=pN h (Qt g.words j) (Zh.2 ⟨j,by simpa using b,U⟩);unfold Qt at a;rw[Z4 b] at a;simp only[e,if_true] at a;cases a
theorem pJ (g:ZZ) (a:g.small) (h:RS g=0):Τ prog 43 [.Ν (Y5 g)] (J (NI g)):=by
 refine Μ.body Ο func43 U U ntmps43 U U Ω ?_;refine Φ ?_;refine υ λc b=>?_;refine Τ.d (pO g a (pK h)) (Δ ?_);apply b;refine Φ ?_;refine W.rt ?_;exact .of U
theorem pI (g:ZZ):Τ prog 45 [.Ν (Y5 g)] (J (SU g.UT g.US 0 9)):=by
 refine Μ.body Ο func45 U U ntmps45 U U Ω ?_;refine Φ ?_;refine υ λb a=>?_;refine Τ.d (D6 g.UT g.US 0 9) (Δ ?_);apply a;refine Φ ?_;refine W.rt ?_;exact .of U
theorem pH (g:ZZ):Τ prog 47 [.Ν (Y5 g)] (J (SU g.W2 g.UB 0 80)):=by
 refine Μ.body Ο func47 U U ntmps47 U U Ω ?_;refine Φ ?_;refine υ λb a=>?_;refine Τ.d (D6 g.W2 g.UB 0 80) (Δ ?_);apply a;refine Φ ?_;refine W.rt ?_;exact .of U
theorem pG (g:ZZ) (e:g.small) (F:WN) (f:OP g.ZX F) (h:F.length<2 ^ 20):Τ prog 48 [.Ν (Y5 g)] (J (Pw g.ZX F)):=by
 refine Μ.body Ο func48 U U ntmps48 U U Ω ?_;refine Φ ?_;refine υ λj i=>?_;refine Τ.d (tC g.ZX e.ZX F f h) (Δ ?_);apply i;by_cases a:g.ZX.err=0
 .rw[a];simp only[if_true];by_cases b:F=[]
  .subst b;refine Φ ?_;refine Ι U ?_;refine Φ ?_;rw[show Pw g.ZX []=9 by simp[Pw,a]];refine W.rt ?_;exact .of U
  .have k:(U0 F).length≠0:=by simpa[U0] using b
   have c:¬U0 F=[]:=by simpa[U0] using b
   refine Z9 c ?_;refine Κ (by simp[c]) ?_;refine Φ ?_;rw[show Pw g.ZX F=0 by simp[Pw,a,b]];refine W.rt ?_;exact .of U
 .refine Z9 a ?_;refine Κ (by simp[a]) ?_;refine Φ ?_;rw[show Pw g.ZX F=g.ZX.err by simp[Pw,a]];refine W.rt ?_;exact .of U
theorem pF {l:Α} {i:Nat} {e:Int} (h:l[i]?=some e) (a:e≠0) (b:∀j,j<i->∀x,l[j]?=some x->x=0):XB l=e:=by
 obtain⟨hi,rfl⟩:=ZR.1 h;exact Hf hi a λj c d=>b j c _ (Z4 d)
theorem pE (g:ZZ) (m:g.small) (F:WN) (v:OP g.ZX F) (w:F.length<2 ^ 20):Τ prog 13 [YT g] (J (Tx g F)):=by
 refine Μ.body Ο func13 U U ntmps13 U U Ω ?_;refine Φ ?_;obtain⟨a,n⟩:=Z' ([.fn (.func 39) [] [.Ν (Y5 g)],.fn (.func 41) [] [.Ν (Y5 g)],.fn (.func 43) [] [.Ν (Y5 g)],.fn (.func 45) [] [.Ν (Y5 g)],.fn (.func 47) [] [.Ν (Y5 g)],.fn (.func 48) [] [.Ν (Y5 g)]]:ψ);have y:a.length=6:=by rw[n];rfl
 have d:∀{k:FuncId} {e:Int},Τ prog k [.Ν (Y5 g)] (J e)->WY prog (.fn (.func k) [] [.Ν (Y5 g)]) [] (J e):=λh σ=>h.cc (Zw.refl _) Ω Ω ⟨U,U⟩
 have A:∀(i:Nat) (f:Ψ),a[i]?=some f->(∀j,j<i->∀x:Int,(Pv g F)[j]?=some x->x=0)->∃e,(Pv g F)[i]?=some e/\f.cells=[f]/\WY prog f [] (J e):=λi f hi l=>by
  have o:i<6:=by rw[<-y];exact(ZR.1 hi).1
  rw[n] at hi;obtain rfl|rfl|rfl|rfl|rfl|rfl:i=0\/i=1\/i=2\/i=3\/i=4\/i=5:=I
  .cases hi;exact⟨_,U,U,d (pM g m)⟩
  .cases hi;exact⟨_,U,U,d (pL g m)⟩
  .cases hi;exact⟨_,U,U,d (pJ g m (l 1 I (RS g) U))⟩
  .cases hi;exact⟨_,U,U,d (pI g)⟩
  .cases hi;exact⟨_,U,U,d (pH g)⟩
  .cases hi;exact⟨_,U,U,d (pG g m F v w)⟩
 refine W.iter (λi:Nat=>i<=6/\∀j,j<i->∀x:Int,(Pv g F)[j]?=some x->x=0) (λi=>[(12,.sl true 1 a),(13,J 6),(14,J i)]) (λ_=>[]) (λi=>6-i) 0 ⟨Ζ _,λj p=>I⟩ U (by simp[n]) (λi hi B=>?_);refine Φ ?_;refine W.Yl U (λb=>?_) (λb=>?_)
 .have b:i<6:=by have:(i:Int)<6:=by simpa using b
                 omega
  have o:i<a.length:=I;obtain⟨f,r⟩:=Z' (a[i]);have C:∀h:i<a.length,a[i]=f:=λ_=>r.symm;obtain⟨e,u,D,E⟩:=A i f (by rw[r];exact Z4 o) hi.2;clear r
  repeat apply Γ
  refine YF λH s=>?_;simp[-Ψ.cells]
  repeat (rw[Η];simp[-Ψ.cells,o,C,D])
  apply s;refine υ λH s=>?_;refine E.c ?_;simp;(repeat (rw[Η];simp));apply s;refine Φ ?_;by_cases l:e=0
  .refine Κ (by simp[l]) ?_;refine Φ ?_;refine W.to (B (i+1) ⟨b,λj p x t=>?_⟩ I) U (by simp[Y9 b (show 6<2 ^ 62 by omega)]);by_cases K:j=i
   .subst K;rw[u] at t;cases t;exact l
   .exact hi.2 j I x t
  .refine Ι (by simp[l]) ?_;refine Φ ?_;rw[show Tx g F=e from pF u l hi.2];refine W.rt ?_;exact .of U
 .have b:6<=i:=by have:¬(i:Int)<6:=by simpa using b
                  omega
  refine W.exit U ?_;refine Φ ?_;rw[show Tx g F=0 from He λj p=>hi.2 j (by have:(Pv g F).length=6:=rfl;omega) _ (Z4 p)];refine W.rt ?_;exact .of U
abbrev Vz (P:List (List Z0)):Ψ:=.sl false 1 (P.map (ζ Y7 1))
abbrev YC (g:ZZ) (P:List (List Z0)) (C:List (Α)):ψ:=[UA g.ZT,ZP g.left,ZP g.right,Yw g.words,PB g.ZC,J g.UT,J g.US,J g.W2,J g.UB,WO g.ZX.ZN,Ya g.ZX.ZF,S5 g.ZX.cells,ZV g.lower,Vz P,Ya C]
abbrev VX (g:ZZ) (P:List (List Z0)) (C:List (Α)):Ψ:=.Z6 (YC g P C)
structure Wa (g:ZZ) (f:Α):Prop where
 XM:f.length<=3
 has:∀n∈f,0<=n/\n<g.words.length
def K7 (g:ZZ) (n:Int):ByteArray:=(g.words[n.toNat]?).getD ⟨#[]⟩
def WA (g:ZZ) (f:Α):List ByteArray:=f.map (K7 g)
def SP (g:ZZ) (f:Α):ByteArray:=Xl ⟨#[]⟩ (WA g f)
theorem zu {g:ZZ} {n:Int} (h:0<=n/\n<g.words.length):K7 g n∈g.words:=by
 unfold K7;have a:n.toNat<g.words.length:=I;rw[Z4 a];exact Yq a
theorem DO (g:ZZ) (P:List (List Z0)) (C:List (Α)) (f:Α) (k:Wa g f):Τ prog 55 [VX g P C,ζ J 1 f] (Yw (WA g f)):=by
 have L:=k.XM;refine Μ.body Ο func55 U U ntmps55 U U Ω ?_;refine υ λl c=>?_;apply c;refine υ λl c=>?_;apply c;refine W.pad 9 1 (σ':=[]) U (λj r h=>⟨r,h,.inl U⟩) [(1,ζ J 1 f),(2,.Ν (YC g P C)),(5,.ms 0 0 0 0)] (λz m=>by
  simp at m;rcases m with rfl|rfl|rfl
  .exact .same _
  .exact .same _
  .exact .nil) ?_
 refine Φ ?_;refine W.iter (λi:Nat=>i<=f.length) (λi=>[(2,.Ν (YC g P C)),(5,.ms 0 i 0 i),(8,ζ J 1 f),(9,J f.length),(10,J i)]) (λi=>[.cells 9 1 ((WA g (f.take i)).map ZP)]) (λi=>f.length-i) 0 (Ζ _) U Ω (λi hi v=>?_);refine Φ ?_;refine W.Yl U (λb=>?_) (λb=>?_)
 .have b:i<f.length:=by simpa using b
  have o:=k.has _ (Yq b);obtain⟨n,d⟩:=Z' (f[i]);have w:∀h:i<f.length,f[i]=n:=λ_=>d.symm;have y:WA g (f.take (i+1))=WA g (f.take i)++[K7 g n]:=by
   unfold WA;rw[VW b,VV,<-d];rfl
  rw[<-d] at o;have B:n.toNat<g.words.length:=I;have D:∀h:n.toNat<g.words.length,g.words[n.toNat]=K7 g n:=λh=>by unfold K7;rw[Z4 h];rfl
  have E:(WA g (f.take i)).length=i:=by unfold WA;simp;omega
  clear d;refine Z9 (Ξ b w) ?_;refine ZO ?_;refine ZG (A:=[22]) Ο λl c=>W8 (Ξ o (Ξ B (Ξ D E))) ?_;refine⟨I,?_⟩;apply c;refine Φ ?_;refine W.to (v (i+1) b I) (by rw[y];simp) (by simp[Y9 b (show f.length<2 ^ 62 by omega)])
 .have b:f.length<=i:=by simpa using b
  have F:WA g (f.take i)=WA g f:=by rw[Xb b]
  have H:i=(WA g f).length:=by unfold WA;simp;omega
  rw[F];refine W.exit U ?_;refine Φ ?_;refine W.cut 0 (ZY _) [(4,Yw (WA g f))] Ω (λid r M N=>I) (λp s=>by
   simp at s;subst s;exact Y0.own (id:=0) (t:=9) (Ζ _) U (by simp;exact H.symm) (λe K a u=>by
    obtain⟨x,_,rfl⟩:=Zh.1 K;simp[Ψ.cells] at u;subst u;simp)) ?_
  refine W.rt ?_;exact .of U
theorem Jt {g:ZZ} (a:∀w∈g.words,Xm w=true) {f:Α} (b:Wa g f):∀x∈WA g f,0<x.size/\x.size<=6:=λx c=>by
 obtain⟨n,d,rfl⟩:=Zh.1 c;have:=(Jz.1 (a _ (zu (b.has n d)))).2;omega
theorem DN (g:ZZ) (P:List (List Z0)) (C:List (Α)) (b:∀w∈g.words,Xm w=true) (f:Α) (a:Wa g f):Τ prog 85 [VX g P C,ζ J 1 f] (ZP (SP g f)):=by
 refine Μ.body Ο func85 U U ntmps85 U U Ω ?_;refine Φ ?_;refine υ λi e=>?_;refine Τ.d (DO g P C f a) (Δ ?_);have h:=DZ ⟨#[]⟩ Z7 (WA g f) (by unfold WA;simpa using a.XM) (λx c=>⟨(Jt b a x c).1,by have:=(Jt b a x c).2;omega⟩);refine Τ.d (h) (Δ ?_);apply e;refine Φ ?_;refine W.rt ?_;exact .of U
def Uj (l:Α):Int:=l.foldl (· + ·) 0
theorem zt (l:Α) (h:l.length<2 ^ 20) (c:∀x∈l,0<=x/\x<2 ^ 20):Τ prog 88 [ζ J 1 l] (J (Uj l)):=by
 have d:∀i,0<=Uj (l.take i)/\Uj (l.take i)<=(2 ^ 20)*i:=λi=>by
  induction i with
  | zero=>simp[Uj]
  | succ i b=>
   by_cases hi:i<l.length
   .rw[VW hi];unfold Uj at b ⊢;rw[Pf];have:=c _ (Yq hi);simp only[List.foldl_cons,List.foldl_nil];omega
   .rw[Xb I];rw[Xb I] at b;omega
 refine Μ.body Ο func88 U U ntmps88 U U Ω ?_;refine Φ ?_;refine W.iter (λi:Nat=>i<=l.length) (λi=>[(3,J (Uj (l.take i))),(6,ζ J 1 l),(7,J l.length),(8,J i)]) (λi=>[]) (λi=>l.length-i) 0 (Ζ _) U (by simp[Uj]) (λi hi b=>?_);refine Φ ?_;refine W.Yl U (λa=>?_) (λa=>?_)
 .have a:i<l.length:=by simpa using a
  have j:=c _ (Yq a)
  have k:=d i
  have f:Uj (l.take (i+1))=Uj (l.take i)+l[i]:=by
   rw[VW a];unfold Uj;rw[Pf];rfl
  have e:IntKind.i64.wrap (Uj (l.take i)+l[i])=Uj (l.take (i+1)):=by rw[f];exact IntWalk.i64_in _ I
  refine Z9 (Ξ a e) ?_;refine W.to (b (i+1) a I) U (by simp[e,Y9 a (show l.length<2 ^ 62 by omega)])
 .have a:l.length<=i:=by simpa using a
  have g:l.take i=l:=Xb a;rw[g];refine W.exit U ?_;refine Φ ?_;refine W.rt ?_;exact .of U
end Go.TL
namespace Go.TL
open Go.Proofs.Tryz
open Go.Conc Go.Proofs
open Go.ConcN (sumTo upd sumTo_upd upd_ne upd_same sumTo_congr le_sumTo)
abbrev Rg (c n ca:Nat):Value:=.slice (some ⟨c,0,none⟩) n ca
abbrev OC (g:ZZ) (P:List (List Z0)) (a n co:Nat):ψ:=Y5 g++[Vz P,.z (Rg a n co)]
section
variable [Z1]
variable {n i Zj ca:Nat} {g:ZZ} {YG:Α} {θ:Int} {u:Ψ}
theorem pD (hi:i<n) (a:Τ prog 77 [Wr g.ZX,J i,ZV g.lower] (.ε [ζ J 1 YG,J θ])) :
  Yg prog (.fn (.func 76) [] [.Ν (Y5 g),.Ν [J i],.Ν [.z (Rg Zj n ca)]]) [] [X3 Zj (i*4) 0 1 u (.sl true 0 [])] (λr s=>r=.ε []/\s=[X3 Zj (i*4) 0 1 u (ζ J 1 YG)]) (λ_ _=>False):=by
 refine Μ.call (first:=[]) (args:=[]) (captured:=[.Ν (Y5 g),.Ν [J i],.Ν [.z (Rg Zj n ca)]]) ?_;simp only[List.nil_append];refine Μ.body Ο func76 U U ntmps76 U U Ω ?_
 repeat apply Γ
 refine W.draw (A:=[]) Ο mixed λc b=>VG ?_;refine XV (Τ.q (a)) (VG ?_);refine⟨hi,?_⟩;refine Yn (b _ _ ?_);exact W.nil ⟨_,U,U,U⟩
end
def Qq (a:Nat->Α) (L:κ) (i:Nat):Ψ:=if i∈L then ζ J 1 (a i) else .sl true 0 []
abbrev Pu (n:Nat) (a:Nat->Α) (L:κ):Row:=.cells 22 1 ((List.range n).map (Qq a L))
def Mr (a:Nat) (b:ς) (c d e n:Nat) (f:Nat->Α) (L:κ) (E:Υ):Prop:=
 T2 a b E/\∃S B,Holds S B [Pu n f L] E/\B[0]?=some (some (c,d))/\∀o,S e o=none
theorem pC {n i:Nat} {a:Nat->Α} {L:κ}:((List.range n).map (Qq a L)).set i (ζ J 1 (a i))=(List.range n).map (Qq a (L++[i])):=by
 refine U' λj=>?_;by_cases e:i=j
 .subst e;by_cases b:i<n
  .rw[Xs (by simpa using b)];simp[b,Qq]
  .rw[W4 (by simp;omega),W4 (by simp;omega)]
 .rw[Xj e];by_cases c:j<n
  .have d:¬j=i:=λh=>e h.symm;simp[c,Qq,d]
  .rw[W4 (by simp;omega),W4 (by simp;omega)]
abbrev K6 (s m a b n ca co:Nat) (g:ZZ) (P:List (List Z0)) (i:Nat):ψ:=[.z (ptr s 0),.Ν [.z (Rg a n ca)],.Ν [J i],.Ν (Y5 g),.z (ptr m 0),.Ν (OC g P b n co)]
abbrev DL (s i:Nat) (sp:Spec):Nat->Option (Tok×Spec):=λa=>if a=s then some (.ch i .idle .work,sp) else none
noncomputable abbrev pB (vs:ν) (ds:List Deferred):Frame:={Frame.enter prog 73 vs .deferred with defers:=ds}
noncomputable def Gn:Code:=f73.body.getD .skip
section
variable {β s m Zj XL n ca co UQ i:Nat} {Y8:ς} {sp:Spec} {g:ZZ} {P:List (List Z0)} {V9:Nat->Α} {u:Ψ} {y:Z5} {Q:Value->Prop}
theorem pA [Z1] {S:ς} {B:δ} {σ:Ρ} {env:Β} {t:ν} {j:Nat} {a a':Ψ} (h:Zg S B σ ((j,a)::env) t) (b:∀v,Θ S B σ a v->Θ S B σ a' v):Zg S B σ ((j,a')::env) t:=λi=>by
 have:=h i;simp only[ι] at this ⊢;split
 .rename_i e;rw[if_pos e] at this;exact b _ this
 .rename_i e;rw[if_neg e] at this;exact this
theorem pz (a:JF y s sp) (e:sp.D i Υ.empty) {c:Frame} {H:Υ} {v:Option (Nat×γ)} {d1:Deferred} (b:PQ prog d1 74 #[ptr s 0])
  (d:c.mode=.returning) (f:c.defers=[d1]) (g:c.kind=.deferred) (h:c.fn=73):ZE prog Q false (ZU y s (.ch i .done .work) v 0) c [under prog] H:=by
 letI:Z1:=Yo;have j:Seq (one (ZU y s (.ch i .done .work) v 0)):=Seq.QF trivial a.rel a.Z8;refine μ.deferred (x:=one _) j (by rw[d];simp) f b.t1 b.t2 b.run (λy k=>?_) _ U;cases k;refine Aj a e d ?_;exact Ad (fn:=f73) (by rw[h];exact func73) U U d g
theorem py (ah:sp.X1=Mr β Y8 XL UQ Zj n V9) (aw:sp.D i Υ.empty) (bd:n<=co) (be:co<=UQ) (hi:i<n) (ax:β<Zj) {L:κ} (ay:i∉L) (ai:VC y s m sp) (az:JF y s sp) {H:ς} {f:δ} {p E:Υ}
  (R:Holds H f [X3 Zj (i*4) 1 0 u (ζ J 1 (V9 i))] p) (aA:η 0 u) (aj:sp.X1 L E) (aB:Apart p E) (aC:∃w,Fits p w/\Fits E w) (aD:T2 β Y8 p) (aE:∃q x,p.ω β q=some x)
  {t:ν} (aF:Zg H f [X3 Zj (i*4) 1 0 u (ζ J 1 (V9 i))] [(5,.Ν (OC g P XL n co)),(1,.Ν [.z (Rg Zj n ca)]),(2,.Ν [J i]),(4,.z (ptr m 0))] t) (aG:t.size=22) {vs:ν} {d1:Deferred} (aH:PQ prog d1 74 #[ptr s 0]) {ops:ZI} :
  ZE prog Q false (ZU y s (.ch i (.YJ L) .work) none 0) (χ (pB vs [d1]) t [.inRegion ops [],.code (YP [1,1,1] Gn)]) [under prog] (join p E):=by
 letI:Z1:=Yo;have K:Seq (one (ZU y s (.ch i (.YJ L) .work) none 0)):=ai.seq _ _ _;rw[ah] at aj;obtain⟨ak,Z,A,aa,aI,aJ⟩:=aj;have al:∀L,∀r∈[Pu n V9 L],T1 r:=λL r d=>by
  obtain rfl:r=Pu n V9 L:=by simpa using d
  exact⟨_,_,_,U⟩
 obtain⟨bo,ab⟩:=Ue R (id:=0) U;obtain⟨aK,_,_,rfl,_⟩:=R.row 0 _ bo U ab;obtain⟨aL,l2,aM⟩:=z1 R aa aB aC (al L) (λr d=>by
  obtain rfl:r=X3 Zj (i*4) 1 0 u (ζ J 1 (V9 i)):=by simpa using d
  refine⟨.inr ⟨_,_,_,U,Ω⟩,?_⟩;simp only[YR,Yd,Vw,or_false];rintro a (rfl|rfl|rfl|rfl)
  .exact .z _
  .exact .z _
  .exact aA
  .simp) (λid r b N d T o=>by
  match id,d,T with
  | 0,d,T=>rw[ab] at T;cases T;exact aJ o
  | id+1,d,_=>simp at d)
 have aN:∀b,A.has b->β<b:=λb=>ak.blocks aa (al L)
 have aO:∃q x,(join p E).ω β q=some x:=let ⟨q,x,h⟩:=aE;⟨q,x,join_some h⟩
 have aP:f=[some (Zj,aK)]:=by
  have aQ:=R.len
  match f,aQ,ab with
  | [z],_,h=>simp at h;rw[h]
 have am:(A++f)[0]?=some (some (XL,UQ)):=by
  rw[YN (by rw[aa.len];exact Nat.zero_lt_one)];exact aI
 have an:∀b,δ.has (A++f) b->β<b:=λb ⟨N,h⟩=>by
  rcases Uv.1 h with h|h
  .exact aN b ⟨N,h⟩
  .rw[aP] at h;simp at h;rw[h.1];exact ax
 have aR:∀k,η 0 (ι [(5,Ψ.Ν (OC g P XL n co)),(1,.Ν [.z (Rg Zj n ca)]),(2,.Ν [J i]),(4,.z (ptr m 0))] k):=λk=>by
  simp only[ι]
  repeat' split
  all_goals first|exact .Zx|simp
 have aS:Zg (H.plus Z) (A++f) ([Pu n V9 L]++[X3 Zj (i*4) 1 0 u (ζ J 1 (V9 i))]) [(5,.Ν (OC g P XL n co)),(1,.Ν [.z (Rg Zj n ca)]),(2,.Ν [J i]),(4,.z (ptr m 0))] t:=
  λk=>((aF k).any (aR k) _ _).later ⟨aM,λid r h=>⟨r,h,r.Tb _⟩⟩
 have aT:=pA (a':=.Ν (Y5 g++[Vz P,.ms 0 n 0 n])) aS (λv hv=>zZ (j:=14) (a':=.ms 0 n 0 n) hv λa bf h d=>by
  cases h;cases d;exact .ms co U Ω am I I (.inr ⟨XL,UQ,U,Ω,I⟩))
 have aU:∀(M:ς) (C:δ) (F:Υ) (c:Frame) (d2:Deferred),Xw 2 (H.plus Z) (A++f) (join p E) [Pu n V9 L,X3 Zj (i*4) 1 0 u (ζ J 1 (V9 i))] M C F [Pu n V9 (L++[i]),X3 Zj (i*4) 1 0 u (ζ J 1 (V9 i))]->
   Holds M C [Pu n V9 (L++[i]),X3 Zj (i*4) 1 0 u (ζ J 1 (V9 i))] F->PQ prog d2 79 #[ptr m 0]->c.mode=.returning->c.defers=[d2,d1]->c.kind=.deferred->c.fn=73->
   ZE prog Q false (ZU y s (.ch i (.YJ L) .work) none 0) c [under prog] F:=λM C F c d2 ad ao O ae aV aW aX=>by
  refine μ.deferred (x:=one _) K (by rw[ae];simp) aV O.t1 O.t2 O.run (λap aY=>?_) _ U;cases aY;refine Av (x:=y) (s:=s) (c:={c with defers:=[d1]}) ai ao ae λbg aZ aq a0=>⟨Υ.empty,aZ,⟨Sub.empty _,Sub.refl _,(Apart.P6 _).symm⟩,?_,λbh bi bj _=>pz az aw aH ae U aW aX⟩;rw[ah];obtain⟨X,bk,bl⟩:=ao.back aq a0;obtain⟨c1,c2⟩:=X.close (h:=1) (λid r a1 d=>by
   match id,a1,d with
   | 0,_,d=>
    cases d;intro e a2 a Y;obtain⟨j,_,rfl⟩:=Zh.1 a2;unfold Qq at Y;split at Y<;>simp[Ψ.cells] at Y<;>subst Y<;>simp)
  obtain⟨q,x,ar⟩:=aO;have af:=GH ad.ext (λh=>Nat.lt_irrefl _ (an β h)) ⟨q,x,ar⟩;obtain⟨bm,bn,af⟩:=af;refine⟨((aD.join ak).ext ad.ext an ar).ext aq (λb ⟨N,h⟩=>by simp at h) af,_,_,c1,?_,λo=>?_⟩
  .obtain⟨r',ag,Qp⟩:=ad.later.rows 0 (Pu n V9 L) U;cases ag;have au:C[0]?=((A++f).take 2)[0]?:=by
    rcases Qp with⟨a3,bp,bq,a4⟩|Qp
    .exact a4
    .have:=Qp n Ω;simp[Row.Xx] at this
   rw[TV Z7,au,TV Z7];exact am
  .unfold ς.close;rw[if_neg]
   .obtain⟨a5,av⟩:=Ue X (id:=1) U;obtain⟨a6,_,_,rfl,_⟩:=X.row 1 _ a5 U av;exact X.sep 1 _ Zj a6 U trivial av o
   .rintro⟨id,t',br,a3,bs,ag,Qp,au⟩
    match id,ag,Qp with
    | 1,_,Qp=>cases Qp
    | id+2,_,Qp=>simp at Qp
 refine V.here (x:=one _) (m:=2) (nt:=22) (S:=H.plus Z) (B:=A++f) (σ:=[Pu n V9 L,X3 Zj (i*4) 1 0 u (ζ J 1 (V9 i))]) (env:=[(5,.Ν (Y5 g++[Vz P,.ms 0 n 0 n])),(1,.Ν [.z (Rg Zj n ca)]),(2,.Ν [J i]),(4,.z (ptr m 0))]) ?_ ⟨aL,aT,aG,Ω⟩ _ U;refine V.YA K U ?_;refine W.ZM ?_;simp only[Gn,f73,Option.getD_some,YP]
 repeat apply Γ
 refine W.Zs (.stop ?_);refine V.defer K U U U U U U U ⟨_,func79,U,U⟩ λbt bu bv t3 d2 bw a7 a8 a9 O=>?_;obtain rfl:=Wq (l:=[ptr m 0]) a9;rintro ap rfl;refine V.here (x:=one _) (m:=2) (nt:=22) ?_ a8 _ U;refine V.YA K U ?_;refine W.ZM ?_;have ba:Qq V9 L i=.sl true 0 []:=by unfold Qq;rw[if_neg ay]
 refine WX (Ξ hi ba) ?_;rw[pC];refine W.stop ?_;intro M C F t6 bb bc;refine μ.Rt K U U ?_;rintro ap rfl;exact aU M C F _ d2 (a7.trans bb) bc.holds O U U U U
end
def Gm (j:Nat) (v:Value):Prop:=match j with|0=>v=.int .u32 0|1=>v=.int .i32 0|2=>v=.int .u32 0|_=>∃base,v=.slice base 0 0
section
variable {β s m Zj XL n ca co UQ i M:Nat} {t:TypeId} {f:Nat->Option (Value×Bool)} {S Y8:ς} {sp:Spec} {g:ZZ} {P:List (List Z0)} {V9:Nat->Α} {θ:Int} {vs:ν}
theorem px (ad:sp.ZS=some m) (K:sp.top<7) (ae:sp.X1=Mr β Y8 XL UQ Zj n V9) (af:sp.D i Υ.empty) (ag:n<=co) (ah:co<=UQ) (hi:i<n) (ai:@Τ XA prog 77 [Wr g.ZX,J i,ZV g.lower] (.ε [ζ J 1 (V9 i),J θ]))
  (aj:∃q v,S β q=some v) (ak:∀b q v,S b q=some v->Y8 b q≠none\/β<b) (al:∀o,S Zj o=none) (B:β<Zj) (O:∀j,j<4->∃v,f (i*4+j)=some (v,true)/\Gm j v) (Q:XQ S [] [] (K6 s m Zj XL n ca co g P i) vs) {I:Value->Prop} :
  Goes prog I false (born prog ⟨.fn (.func 73) vs,#[]⟩) {ZU (Ve s sp) s (.ch i .idle .work) none 0 with G:=T0 S Zj (t,M) f}:=by
 letI:Z1:=XA;refine Quiet.goes (.cons ⟨U,U⟩ (λw=>Ae ⟨_,func73,U,U⟩ w) (.nil _)) (.inl U) ⟨U,U⟩ ?_;show ZE prog I false (ZU (Ve s sp) s (.ch i .idle .work) none 0) (Frame.enter prog 73 vs .deferred) [under prog] (T0 S Zj (t,M) f);have am:Calm (DL s i sp) (ZU (Ve s sp) s (.ch i .idle .work) none 0):=⟨U,U,U,λr=>by
  by_cases e:r=s
  .subst e;refine .inr ⟨sp,by rw[Zp];simp,Ef,by rw[Zp];trivial,by rw[Zp];exact id⟩
  .exact .inl ⟨by simp[e],by rw[NQ e];trivial⟩⟩
 suffices h:μ prog I false (calm (DL s i sp)) (Frame.enter prog 73 vs .deferred) [under prog] (T0 S Zj (t,M) f) from h _ am
 have C:Seq (calm (DL s i sp)):=⟨⟨_,U⟩,λy k=>k.rel,λy k=>k.Z8⟩
 have R:Holds S [some (Zj,4)] [X3 Zj (i*4) 0 0 (.z (.int .u32 0)) (.sl true 0 [])] (T0 S Zj (t,M) f):=by
  obtain⟨w,A⟩:∃w:Nat->Value,∀j,j<4->f (i*4+j)=some (w j,true)/\Gm j (w j):=⟨λj=>if h:j<4 then(O j h).choose else undef,λj c=>by simp only[c,dif_pos];exact(O j c).choose_spec⟩;refine qI (w:=w) al (λj a c=>?_) 4
  match j,c with
  | 0,c=>cases c;obtain⟨d,p⟩:=A 0 Z7;have u:w 0=.int .u32 0:=p;rw[u] at d ⊢;exact⟨d,.z _,trivial,.z _⟩
  | 1,c=>cases c;obtain⟨d,p⟩:=A 1 Z7;have u:w 1=.int .i32 0:=p;rw[u] at d ⊢;exact⟨d,.z _,trivial,.z _⟩
  | 2,c=>cases c;obtain⟨d,p⟩:=A 2 Z7;have u:w 2=.int .u32 0:=p;rw[u] at d ⊢;exact⟨d,.z _,trivial,.z _⟩
  | 3,c=>cases c;obtain⟨d,base,u⟩:=A 3 Z7;rw[u] at d ⊢;exact⟨d,.WJ _ _ (λ_=>rfl),trivial,Ω⟩
  | j+4,c=>simp at c
 have an:∀a∈K6 s m Zj XL n ca co g P i,η 0 a:=Ω
 have ao:XQ S [some (Zj,4)] [X3 Zj (i*4) 0 0 (.z (.int .u32 0)) (.sl true 0 [])] (K6 s m Zj XL n ca co g P i) vs:=⟨Q.1,λj a v d p=>(Q.2 j a v d p).any (an a (ZH d)) _ _⟩;rw[T7 (body:=Gn) func73 U];refine V.here (m:=1) (nt:=22) (env:=entry 0 (K6 s m Zj XL n ca co g P i)) ?_ (XR.enter R ao (ZY _) Ω);refine V.YA C U ?_;simp only[Gn,f73,Option.getD_some]
 repeat apply Γ
 refine W.Zs (.stop ?_);refine V.defer C U U U U U U U ⟨_,func74,U,U⟩ λaQ aR aS t3 d1 aT T ap aq ar=>?_;obtain rfl:=Wq (l:=[ptr s 0]) aq;have aU:=T.all R (ZY _);refine V.here (m:=1) (nt:=22) ?_ ap;refine V.YA C U ?_;refine W.ZM ?_;refine υ λaV au=>?_;refine⟨hi,?_⟩;refine Μ.Mx (qK (pD hi ai)) ?_;simp;(repeat (rw[Η];simp));apply au
 repeat apply Γ
 refine W.Zs (.stop ?_);refine V.call C ⟨U,U,by simp[Frame.enter],U⟩ U U U ⟨_,func78,U,U⟩ λaW av aX t4 aY aw F ax=>?_;obtain rfl:=Wq (l:=[ptr m 0]) ax;intro y k;obtain⟨ay,X⟩:y.tok s=.ch i .idle .work/\y.spec s=some sp:=by
  rcases k.own s with⟨h,_⟩|⟨az,h,p,_⟩
  .simp at h
  .simp at h;rw[<-h.2] at p;exact⟨h.1.symm,p⟩
 have aA:∀r,r≠s->XE (y.tok r):=λr H=>by
  rcases k.own r with⟨_,h⟩|⟨az,h,_⟩
  .exact h
  .simp[H] at h
 have Y:VC y s m sp:=⟨k.rel,k.Z8,X,ad,K,λr _=>k.still r⟩
 have aB:JF y s sp:=⟨k.rel,k.Z8,X,K,aA⟩
 have aC:ZU y s (.ch i .idle .work) (y.view s) 0=y:=by
  rw[<-ay,<-k.deaf];exact sO
 rw[<-aC];refine AE Y F.holds λaD aE L E aF aG aH aI ⟨aZ,aJ,A⟩=>?_;rw[V4 U];obtain⟨aK,aL,aM⟩:=F.holds.back aF aG;have Z:Ext S [some (Zj,4)] (T0 S Zj (t,M) f) aD av aE:=T.ext.trans (aw.ext.trans aL);have H:∀b,δ.has [some (Zj,4)] b->β<b:=λb ⟨N,h⟩=>by simp at h;rw[h.1];exact B
 obtain⟨aa,aN,aO⟩:=aj;have ab:(T0 S Zj (t,M) f).ω β aa=some (aN,false):=by rw[Gv (Nat.ne_of_lt B)];exact JE aO
 have aP:T2 β Y8 (T0 S Zj (t,M) f):=(Ag ak).join ⟨λb o x h=>by
  by_cases e:b=Zj
  .exact .inr (e▸B)
  .simp[Vp,e] at h,λb x h=>by
  by_cases e:b=Zj
  .exact e▸B
  .simp[Vp,e] at h,λb x h=>by cases h⟩
 refine py (g:=g) (P:=P) (ca:=ca) ae af ag ah hi B aJ Y aB aK (.z _) aH aI A (aP.ext Z H ab) (GH Z (λh=>Nat.lt_irrefl _ (H β h)) ⟨aa,_,ab⟩) ?_ ?_ ar
 .exact Zg.later (RZ (F.put (a:=.z (.tuple #[])) U (.z _)).Zt (by simp[Zu])) aM
 .exact(F.put (a:=.z (.tuple #[])) U (.z _)).size
end
end Go.TL
namespace Go.TL
open Go.Proofs.Tryz
open Go.Conc Go.Proofs
open Go.ConcN (sumTo upd sumTo_upd upd_ne upd_same sumTo_congr le_sumTo)
variable [Z1]
def Υ.less (H:Υ) (c:Nat) (p:Nat->Bool):Υ:={H with ω:=λb o=>if b=c/\p o=true then none else H.ω b o}
def Rf (H:Υ) (c:Nat) (p:Nat->Bool) (o:Nat):Option (Value×Bool):=if p o=true then H.ω c o else none
section
variable {S S' UU Y8:ς} {B B':δ} {σ σ':Ρ} {H H' W7:Υ} {c:Nat} {p:Nat->Bool}
theorem Js {b o:Nat} (a:b≠c):(H.less c p).ω b o=H.ω b o:=by simp[Υ.less,a]
theorem pw {o:Nat}:(H.less c p).ω c o=if p o=true then none else H.ω c o:=by simp[Υ.less]
theorem K5 {b o:Nat} {x:Value×Bool} (h:(H.less c p).ω b o=some x):H.ω b o=some x/\¬(b=c/\p o=true):=by
 unfold Υ.less at h;simp only at h;split at h
 .cases h
 .rename_i a;exact⟨h,a⟩
theorem Holds.keep (a:Holds S B σ H) (f:∀r∈σ,T1 r) (g:∀b o v,S b o=some v->∃q,H'.ω b o=some (v,q)) (h:∀(id:Nat) (r:Row) (b N:Nat),σ[id]?=some r->B[id]?=some (some (b,N))->Vk H H' b):Holds S B σ H':=
 ⟨g,a.len,λid r bo c d=>(a.row id r bo c d).later (ZJ.refl S B σ) (λb N e=>h id r b N c (by rw[d,e])) (λm left i e=>by
  subst e;obtain⟨t,k,l,e⟩:=f _ (ZH c);cases e),a.inj,a.sep⟩
theorem Holds.less (d:Holds S B σ H) (f:∀r∈σ,T1 r) (g:∀o,S c o=none) (i:∀N,some (c,N)∉B):Holds S B σ (H.less c p):=
 d.keep f (λb o v h=>by
  have a:b≠c:=λe=>by subst e;rw[g o] at h;cases h
  rw[Js a];exact d.Zf b o v h) λid r b N _ a=>by
  have j:b≠c:=λe=>by subst e;exact i N (ZH a)
  exact⟨λo=>Js j,U,U⟩
theorem pv (a:Holds S B σ H) (c:∀r∈σ,T1 r):Holds S B σ (St S H):=
 a.keep c (λb o v h=>⟨false,NM h⟩) λid r b N d f=>by
  obtain⟨t,k,l,e⟩:=c _ (ZH d);exact⟨λo=>NL (a.sep id r b N d (by rw[e];trivial) f o),U,U⟩
theorem pt (a:Holds S B σ H):Ext S B H S B (St S H):=by
 have h:=Ai a.bare;exact⟨h.Zf,λb _ c=>h.X0 b (λ⟨N,x⟩=>by simp at x) c,λb h=>.inl h,λb o v h=>.inl h,h.grow⟩
theorem Ext.less (h:Ext UU [] W7 S B H) (r:W7.fresh c):Ext UU [] W7 S B (H.less c p):=by
 have s:∀b,¬δ.has ([]:δ) b:=λb ⟨N,x⟩=>by simp at x
 have n:∀b,¬W7.fresh b->b≠c:=λb d e=>d (e▸r);refine⟨h.Zf,λb d f=>?_,h.blocks,h.TJ,λb d=>?_⟩
 .obtain⟨j,k,l⟩:=h.X0 b d f;exact⟨λo=>by rw[Js (n b f)];exact j o,k,l⟩
 .apply TW;intro t;have g:∀a,b<=a->(∀o,W7.ω a o=none)/\W7.row a=none/\W7.obj a=none:=λa u=>by
   by_cases f:W7.fresh a
   .exact⟨f.1,f.2.1,f.2.2.1⟩
   .obtain⟨j,k,l⟩:=h.X0 a (s a) f;have m:(∀o,(H.less c p).ω a o=none)/\H.row a=none/\H.obj a=none:=by
     rcases Nat.lt_or_eq_of_le u with w|he
     .exact d.2.2.2 a w
     .subst he;exact⟨d.1,d.2.1,d.2.2.1⟩
    refine⟨λo=>?_,by rw[<-k];exact m.2.1,by rw[<-l];exact m.2.2⟩;have i:=m.1 o;rw[Js (n a f)] at i;rcases j o with e|⟨v,q,_,_,e⟩
    .rw[<-e];exact i
    .rw[e] at i;cases i
  exact t ⟨(g b (ZY _)).1,(g b (ZY _)).2.1,(g b (ZY _)).2.2,λa y=>g a (RG y)⟩
theorem ps {f:TypeId×Nat} (g:H.row c=some f):Split H (H.less c p) (Vp c f (Rf H c p)):=by
 refine⟨⟨λb o v q h=>⟨q,(K5 h).1,id⟩,λb x h=>h,λb x h=>h⟩,⟨λb o v q h=>⟨q,?_,id⟩,λb x h=>?_,λb x h=>by cases h⟩,⟨λb o ⟨v,h⟩ ⟨x,k⟩=>?_,λb o ⟨v,h⟩ ⟨x,k⟩=>?_,λb _ ⟨x,h⟩=>by cases h⟩⟩
 .by_cases e:b=c
  .subst e;simp only[Vp,if_true,Rf] at h;split at h
   .exact h
   .cases h
  .simp[Vp,e] at h
 .by_cases e:b=c
  .subst e;simp only[Vp,if_true] at h;rw[g];exact h
  .simp[Vp,e] at h
 .obtain⟨_,a⟩:=K5 h;by_cases e:b=c
  .subst e;simp only[Vp,if_true,Rf] at k;split at k
   .rename_i d;exact a ⟨U,d⟩
   .cases k
  .simp[Vp,e] at k
 .obtain⟨_,a⟩:=K5 k;by_cases e:b=c
  .subst e;simp only[Vp,if_true,Rf] at h;split at h
   .rename_i d;exact a ⟨U,d⟩
   .cases h
  .simp[Vp,e] at h
theorem pq {a:TypeId×Nat} (n:Holds S B σ H) (r:H.row c=some a) (f:∀o,S c o=none):Split H (St S (H.less c p)) (T0 S c a (Rf H c p)):=by
 have m:=n.Zf;refine⟨⟨λb o v q h=>?_,λb x h=>h,λb x h=>h⟩,⟨λb o v q h=>?_,λb x h=>?_,λb x h=>?_⟩,⟨λb o ⟨v,h⟩ ⟨x,k⟩=>?_,λb o ⟨v,h⟩ ⟨x,k⟩=>?_,λb _ ⟨x,h⟩=>?_⟩⟩
 .cases j:S b o with
  | some u=>
   rw[NM j] at h;cases h;obtain⟨l,d⟩:=m b o _ j;exact⟨l,d,λe=>by cases e⟩
  | none=>rw[NL j] at h;exact⟨q,(K5 h).1,id⟩
 .by_cases e:b=c
  .subst e;rw[Gw (M:=a.2) (t:=a.1) f] at h;unfold Rf at h;split at h
   .exact⟨q,h,id⟩
   .cases h
  .rw[Gv (M:=a.2) (t:=a.1) e] at h;obtain⟨u,g,i⟩:=MA h;cases i;obtain⟨l,d⟩:=m b o _ g;exact⟨l,d,λe=>by cases e⟩
 .rw[z0 (t:=a.1) (M:=a.2)] at h;split at h
  .rename_i e;subst e;cases h;exact r
  .cases h
 .simp[T0,join,Vf,Vp] at h
 .by_cases e:b=c
  .subst e;rw[Gw (M:=a.2) (t:=a.1) f] at k;rw[NL (f o)] at h;unfold Rf at k;split at k
   .rename_i d;exact(K5 h).2 ⟨U,d⟩
   .cases k
  .rw[Gv (M:=a.2) (t:=a.1) e] at k;obtain⟨u,g,i⟩:=MA k;rw[NM g] at h;cases h
 .by_cases e:b=c
  .subst e;rw[Gw (M:=a.2) (t:=a.1) f] at h;rw[NL (f o)] at k;unfold Rf at h;split at h
   .rename_i d;exact(K5 k).2 ⟨U,d⟩
   .cases h
  .rw[Gv (M:=a.2) (t:=a.1) e] at h;obtain⟨u,g,i⟩:=MA h;cases i
 .simp[T0,join,Vf,Vp] at h
end
section
variable {P:Program} {Q:Value->Prop} {mn:Bool} {y:Z5} {f b:Frame} {cs:Y3} {H:Υ} {t:ν} {k:ZA} {ops:ZI} {i:Nat} {rest:κ} {op:Oper}
theorem ZE.zs {sp:Spec} {s m:Nat} {c d:TypeId} {G' E:Υ} (g:y.rel=false) (n:y.Z8=λ_=>none) (o:m<s) (i:sp.ZS=some m) (p:Split H G' E) (r:sp.X1 [] E)
  (h:y.tok s=.nil->ZE P Q mn {y with tok:=upd y.tok s (.par 0 0 .add),spec:=upd y.spec s (some sp),view:=upd y.view s none} f cs G') :
  ZE P Q mn {y with Z8:=upd (upd y.Z8 m (some (#[.int .i32 0,.int .u32 0],d))) s (some (#[.int .u64 0,.int .u32 0],c))} f cs H:=by
 have j:m≠s:=Nat.ne_of_lt o;refine Goes.step (X4.ok (.inl g)) (.inr ⟨⟨U,U⟩,.inr (.inr (.inr (.inr (.inr (.inr (.inr (.inr (.inr (.inr (.inr ⟨s,sp,c,G',E,?_,λw k=>?_,g,p,λ_=>r,λt=>?_⟩))))))))))⟩)
 .show upd _ s _ s=_;rw[upd_same]
 .rw[i] at k;cases k;refine⟨j,d,?_⟩;show upd (upd y.Z8 m _) s _ m=_;rw[upd_ne _ _ j,upd_same]
 .have e:(λa=>if a=s\/sp.ZS=some a then none else upd (upd y.Z8 m (some (#[.int .i32 0,.int .u32 0],d))) s (some (#[.int .u64 0,.int .u32 0],c)) a)=y.Z8:=by
   funext a
   rw[n];by_cases b:a=s\/sp.ZS=some a
   .rw[if_pos b]
   .rw[if_neg b];rw[i] at b;have u:a≠s:=λe=>b (.inl e);have v:a≠m:=λe=>b (.inr (by rw[e]));rw[upd_ne _ _ u,upd_ne _ _ v]
  have l:Goes P Q mn (Go.Conc.G f cs) {y with G:=G',Z8:=y.Z8,tok:=upd y.tok s (.par 0 0 .add),spec:=upd y.spec s (some sp),view:=upd y.view s none}:=h t;rw[<-e] at l;exact l
theorem ZE.po {s n p:Nat} {sp:Spec} {g:FuncId} {d:ν} {h f:Υ} (l:y.rel=false) (m:y.deaf=0) (o:y.spec s=some sp) (r:y.tok s=.par n (p+1) .add) (c:TA b ops i op) (u:op.guard=none) {j:Operand} {ts:Array TypeId} (v:op.op=.go ⟨.value j,#[],ts⟩) (x:op.dst=none)
  (hv:ZW t j=.func (.func g) #[] d) (A:Split H h f) (B:ZE P Q mn {y with tok:=upd y.tok s (.par n p .add),view:=upd y.view s none} (χ b t (.inRegion ops rest::k)) cs h)
  (C:Goes P Q false (born P ⟨.fn (.func g) d,#[]⟩) {ZU (Ve s sp) s (.ch (n-(p+1)) .idle .work) none 0 with G:=f}):ZE P Q mn y (χ b t (.inRegion ops (i::rest)::k)) cs H:=by
 have D:Region.wanted op (yielded ops t)=true:=by unfold Region.wanted;rw[u]
 have E:∀w,stepG P mn (Go.Conc.G (χ b t (.inRegion ops (i::rest)::k)) cs) w=.spawn (Go.Conc.G (χ b t (.inRegion ops rest::k)) cs) (born P ⟨.fn (.func g) d,#[]⟩) w #[]:=λw=>by
  have e:execOp (ZW t) op=(do pure (.spawn (<-Deferred.ofValue (ZW t j) (#[].map (ZW t))))):=by unfold execOp;rw[v];rfl
  rw[Xn c.run c.ro,Xn c.run c.ro];have F:(execOp (⟨t,b.defers⟩:_root_.Go.Act).eval op).run P w=.ok (.spawn ⟨.fn (.func g) d,#[]⟩) w:=by rw[UY,e,hv];simp[Deferred.ofValue,Result.andThen]
  have I:(execOp (⟨t,b.defers⟩:_root_.Go.Act).eval op).events P w #[]=#[]:=by rw[UY,e,hv];simp[Deferred.ofValue,Result.andThen,Result.evThen]
  rw[stepG_spawn (a:=⟨t,b.defers⟩) c.op D c.kd F U];have:(⟨t,b.defers⟩:_root_.Go.Act).put op.dst undef=⟨t,b.defers⟩:=by rw[x];rfl
  rw[this];unfold listed;rw[I,seen_none]
 refine Goes.step (X4.ok (.inl l)) (.inr ⟨⟨U,U⟩,.inr (.inr (.inr (.inr (.inr (.inr (.inr (.inr (.inl ⟨s,sp,n,p,Go.Conc.G (χ b t (.inRegion ops rest::k)) cs,born P ⟨.fn (.func g) d,#[]⟩,h,f,o,r,m,⟨U,U⟩,⟨U,U⟩,l,λw _=>E w,A,B,?_⟩))))))))⟩);have e:({ZU (Ve s sp) s (.ch (n-(p+1)) .idle .work) none 0 with G:=f}:Z5)=⟨f,λ_=>none,upd (λ_=>.nil) s (.ch (n-(p+1)) .idle .work),upd (λ_=>none) s (some sp),λ_=>none,0,false⟩:=by
  unfold ZU;simp only[Aa]
 rw[<-e];exact C
end
end Go.TL
namespace Go.TL
open Go.Proofs.Tryz
open Go.Conc Go.Proofs
open Go.ConcN (sumTo upd sumTo_upd upd_ne upd_same sumTo_congr le_sumTo)
structure Qo (e:ς) (f:Υ) (c:ς) (d a:Nat) (g:TypeId×Nat) (n:Nat) (h:Row) (i:Nat) (S:ς) (B:δ) (H:Υ):Prop where
 ext:Ext e [] f S B H
 holds:Holds S B [h] H
 sub:∀b o v,c b o=some v->S b o=some v
 st:∀b q v,S b q=some v->c b q≠none\/d<b
 Mq:∀o,S a o=none
 row:H.row a=some g
 ω:∀o,4*i<=o->o<4*n->∃v,H.ω a o=some (v,true)/\Gm (o % 4) v
 Jr:∀b,B.has b->d<b/\b≠a
def Jq (i o:Nat):Bool:=decide (4*i<=o/\o<4*i+4)
section
variable [Z1]
variable {UU Y8 S S':ς} {W7 H H':Υ} {β Zj n i:Nat} {ty:TypeId×Nat} {r0:Row} {B B':δ}
theorem Qo.step (h:Qo UU W7 Y8 β Zj ty n r0 i S B H) (j:∃q v,Y8 β q=some v) (a:Ext S B H S' B' H') (k:Holds S' B' [r0] H'):Qo UU W7 Y8 β Zj ty n r0 i S' B' H':=by
 obtain⟨A,C,l⟩:=j;obtain⟨D,f⟩:=h.holds.Zf _ _ _ (h.sub _ _ _ l);have c:¬H.fresh Zj:=λm=>by have:=h.row;rw[m.2.1] at this;cases this
 have g:¬B.has Zj:=λd=>(h.Jr Zj d).2 U;obtain⟨r,s,_⟩:=a.X0 Zj g c;refine⟨h.ext.trans a,k,λb o v hv=>a.Zf b o v (h.sub b o v hv),λb q v hv=>?_,λo=>?_,by rw[s];exact h.row,λo t w=>?_,λb d=>?_⟩
 .rcases a.TJ b q v hv with e|e|e
  .exact h.st b q v e
  .exact .inr (h.Jr b e).1
  .exact .inr (Lf f e)
 .cases hv:S' Zj o with
  | none=>rfl
  | some v=>
   rcases a.TJ Zj o v hv with e|e|e
   .rw[h.Mq o] at e;cases e
   .exact absurd e g
   .exact absurd e c
 .obtain⟨v,hv,y⟩:=h.ω o t w;refine⟨v,?_,y⟩;rcases r o with e|⟨u,p,e,_⟩
  .rw[e];exact hv
  .rw[h.Mq o] at e;cases e
 .rcases a.blocks b d with e|e
  .exact h.Jr b e
  .exact⟨Lf f e,λx=>c (x▸e)⟩
theorem Qo.fork (h:Qo UU W7 Y8 β Zj ty n r0 i S B H) (c:W7.fresh Zj) (d:T1 r0):Qo UU W7 Y8 β Zj ty n r0 (i+1) S B (St S (H.less Zj (Jq i))):=by
 have a:∀r∈[r0],T1 r:=λr e=>by
  obtain rfl:r=r0:=by simpa using e
  exact d
 have b:Holds S B [r0] (H.less Zj (Jq i)):=h.holds.less a h.Mq λN f=>(h.Jr Zj ⟨N,f⟩).2 U;refine⟨(h.ext.less c).trans (pt b),pv b a,h.sub,h.st,h.Mq,h.row,λo k g=>?_,h.Jr⟩;obtain⟨v,hv,j⟩:=h.ω o I g;refine⟨v,?_,j⟩;rw[NL (h.Mq o),pw,if_neg (by simp[Jq];omega)];exact hv
end
noncomputable def RR:Code:=f32.body.getD .skip
noncomputable def Pt:Code:=YP [1,1,1,1,1,1,0,1,0,0] RR
noncomputable abbrev Gl (vs:ν):Frame:=Frame.enter prog 32 vs .normal
abbrev OB (s m a b n ca co:Nat) (g:ZZ) (P:List (List Z0)) (i:Nat):Β:=[(39,J i),(38,J n),(7,.z (ptr s 0)),(6,.z (ptr m 0)),(5,.Ν [.z (Rg a n ca)]),(3,.Ν (OC g P b n co)),(2,.π 0 1 0 0),(1,.Ν (Y5 g))]
section
variable {UU Y8:ς} {W7:Υ} {β s m Zj XL n ca co UQ i:Nat} {ty:TypeId×Nat} {r0:Row} {sp:Spec} {g:ZZ} {P:List (List Z0)} {V9:Nat->Α} {θ:Int} {y:Z5} {Q:Value->Prop} {mn:Bool} {vs:ν} {cs:Y3} {k:ZA}
theorem pn (e:UW y s sp) (T:sp.ZS=some m) (X:sp.X1=Mr β Y8 XL UQ Zj n V9) (Y:∀k,sp.D k Υ.empty) (Z:sp.top=6) (aK:n<=5) (hi:i<n) (aa:n<=co) (ab:co<=UQ) (ad:@Τ XA prog 77 [Wr g.ZX,J i,ZV g.lower] (.ε [ζ J 1 (V9 i),J θ]))
  (w:∃q v,Y8 β q=some v) (ae:β<Zj) (af:W7.fresh Zj) (ag:T1 r0) (ah:YR 1 r0)
  (ai:∀(S:ς) (B:δ) (H:Υ) (t:ν) (v:Option (Nat×γ)),Qo UU W7 Y8 β Zj ty n r0 (i+1) S B H->Zg S B [r0] (OB s m Zj XL n ca co g P (i+1)) t->t.size=47->ZE prog Q mn (ZU y s (.par (i+1) 0 .add) v 0) (χ (Gl vs) t (.code Pt::.inLoop Pt::k)) cs H)
  {S:ς} {B:δ} {H:Υ} {t:ν} {v:Option (Nat×γ)} (K:Qo UU W7 Y8 β Zj ty n r0 i S B H) (aj:Zg S B [r0] (OB s m Zj XL n ca co g P i) t) (ak:t.size=47) :
  ZE prog Q mn (ZU y s (.par i 0 .add) v 0) (χ (Gl vs) t (.code Pt::.inLoop Pt::k)) cs H:=by
 letI:Z1:=Yo;have f:=e.seq;refine V.here (x:=one (ZU y s (.par i 0 .add) v 0)) (m:=1) (nt:=47) (S:=S) (B:=B) (H:=H) (σ:=[r0]) (env:=OB s m Zj XL n ca co g P i) ?_ ⟨K.holds,aj,ak,Ω⟩ _ U;refine V.YA (f _ _ _) U ?_;simp only[Pt,RR,f32,Option.getD_some,YP];refine υ λal C=>?_;apply C
 repeat apply Γ
 refine Ι (by simp;omega) ?_;refine ZO ?_;refine ZG (A:=[8]) Ο λal C=>Δ ?_;apply C;refine W.fix (id:=1) (σ':=[r0]) (ZY _) U Ω (λid q aL L=>by
  obtain rfl:id=0:=I;simp at L;subst L;exact ah) U ((8,.Ν [J i])::OB s m Zj XL n ca co g P i) (by simp[TF]) ?_
 repeat apply Γ
 refine W.Zs (.stop ?_);refine V.call (f _ _ _) ⟨U,U,by simp[Frame.enter],U⟩ U U U ⟨_,func72,U,U⟩ λaM am aN aO aP an c hv=>?_;obtain rfl:=Wq (l:=[ptr s 0,.int .i64 1]) hv;rintro M rfl;refine Ar e (by rw[Z];omega) c.holds λaQ ao aR ap aq=>?_;rw[V4 U];obtain⟨ar,au,av⟩:=c.holds.back ap aq;refine V.here (x:=one _) (m:=1) (nt:=47) (S:=ao) (B:=am) (σ:=[r0]) (env:=(42,.z (.tuple #[]))::(8,.Ν [J i])::OB s m Zj XL n ca co g P i) ?_ ⟨ar,Zg.later (Zg.put c.Zt (d:=42) (by rw[c.size];omega) (.z (.tuple #[]))) av,X' (Vx ..) c.size,ZY _⟩ _ U;refine V.YA (f _ _ _) U ?_;refine W.ZM ?_
 repeat apply Γ
 refine W.Zs ?_;refine XN [0] [1] ?_;refine W.stop ?_;intro N aw aS t3 ax h;rintro M rfl;have b:=K.step w (an.ext.trans (au.trans ax.ext)) h.holds;have E:=h.Zt 43;simp only[ι,if_true] at E;obtain⟨aT,O⟩:=Z' (t3.getD 43 undef);rw[<-O] at E;cases E with
 | fn w1 ay az aA aU aB=>
  have aC:w1=#[]:=Pj (by rw[<-az];rfl);subst aC;have aD:∀a∈K6 s m Zj XL n ca co g P i,η 0 a:=Ω;have aE:XQ N [] [] (K6 s m Zj XL n ca co g P i) ay:=⟨aA,λi a v o r=>(aB i a v o r).any (aD a (ZH o)) _ _⟩;refine ZE.po (s:=s) (n:=i+1) (p:=0) (sp:=sp) e.rel U e.spec Zp ⟨U,U,by simp[Frame.enter],U⟩ U U U O.symm (pq (p:=Jq i) b.holds b.row b.Mq) ?_ ?_
  .rw[WK];have R:=b.fork af ag;refine V.here (x:=one _) (m:=1) (nt:=47) (S:=N) (B:=aw) (σ:=[r0]) (env:=OB s m Zj XL n ca co g P i) ?_ ⟨R.holds,RZ h.Zt Ω,h.size,ZY _⟩ _ U;refine V.YA (f _ _ _) U ?_;refine W.ZM ?_;refine Z9 (Y9 hi (show n<2 ^ 62 by omega)) ?_;refine .inLoop (.stop ?_);intro aF aG aH t5 aI F;rintro M rfl;exact ai aF aG aH t5 none (R.step w aI.ext F.holds) (RZ F.Zt Ω) F.size
  .refine px T I X (Y _) aa ab hi ad ?_ b.st b.Mq ae (λj aV=>?_) aE
   .obtain⟨q,u,aJ⟩:=w;exact⟨q,u,b.sub _ _ _ aJ⟩
   .obtain⟨v,o,r⟩:=b.ω (i*4+j) I I;refine⟨v,?_,?_⟩
    .unfold Rf;rw[if_pos (by simp[Jq];omega)];exact o
    .have:(i*4+j) % 4=j:=I
     rw[this] at r;exact r
end
end Go.TL
