import Derived.Sort.LotA
import Derived.Test.YtlabjopijpkiaaaGreatJAL
set_option maxHeartbeats 16000000
set_option maxRecDepth 20000
set_option linter.unusedSectionVars false
set_option linter.unusedSimpArgs false
set_option linter.unusedVariables false
namespace Go.TL
open Go.IntKind (i64 u64)
open Go.Proofs.Tryz
open Go.Sort (SWO bitsLen insertionSort_holds ltInt sorted_unique_holds swo_ltInt)
open Go.Proofs
variable [ZX]
section
variable {P:Program} {T:ZR} {A:List Nat} {m nt:Nat} {k:List Item} {env:ω} {σ:Ο} {Z:X7} {E:Yn}
theorem W.XV (a:ZB P T) (env':ω) (σ':Ο) {id:Nat} {ops:Array Oper} (h:W P m nt k env' σ' Z E) (b:run P T A nt ops (idx ops.size []) env σ (λe s=>s=σ'/\∀p∈env',Z7 e p.1=p.2) E):W P m nt (.code (.region id ops false)::k) env σ Z E:=
 Y4 a λg c=>Ji (λe s ⟨d,f⟩=>c e s (d▸W.forget env' f h)) _ _ _ b
end
def Yu (l:κ):Ω:=if l.isEmpty then .sl true 0 [] else .ms 0 l.length 0 l.length
def η (t:TypeId) (k:Nat) (l:κ):Ο:=if l.isEmpty then [] else [.cells t k l]
def YC (k:Nat) (l:κ):Ω:=if l.isEmpty then .sl true 0 [] else .sl false k l
theorem S':Yu []=.sl true 0 []:=rfl
theorem Wy {t k:Nat}:η t k []=[]:=rfl
theorem R8 {l:κ} (h:l≠[]):Yu l=.ms 0 l.length 0 l.length:=by unfold Yu;rw[if_neg (by simpa using h)]
theorem YZ {t k:Nat} {l:κ} (h:l≠[]):η t k l=[.cells t k l]:=by unfold η;rw[if_neg (by simpa using h)]
theorem N6 {l:κ} {x:Ω}:Yu (l++[x])=.ms 0 (l.length+1) 0 (l.length+1):=by rw[R8 I];simp
theorem QI {t k:Nat} {l:κ} {x:Ω}:η t k (l++[x])=[.cells t k (l++[x])]:=YZ I
theorem Ym.acc {t k:Nat} {l:κ} (b:∀e∈l,∀a∈e.cells,ς 0 a):Ym 0 (η t k l) (Yu l) (YC k l):=by
 unfold η Yu YC;cases h:l.isEmpty with
 | true=>exact .low I
 | false=>exact .own (χ _) rfl rfl b
theorem Zh.acc {k:Nat} {l:κ}:Zh (YC k l) (.sl false k l):=by
 unfold YC;cases h:l.isEmpty with
 | true=>rw[Qh.1 h];exact .nil
 | false=>exact .refl _
@[simp] theorem m0 {α:Type} {l:List α} {a b:α}:(l++[a]).set l.length b=l++[b]:=by rw[Pz _ _ (γ _),Q5];rfl
@[simp] theorem mZ {t k:Nat} {l:κ}:ς (η t k l).length (Yu l):=by
 unfold Yu η;cases l.isEmpty<;>simp[Ux]
theorem ς.mono {h c:Nat} {a:Ω} (d:ς h a) (g:h<=c):ς c a:=by
 induction d with
 | z v=>exact .z v
 | Zl=>exact .Zl
 | Θ _ b=>exact .Θ b
 | sl _ b=>exact .sl b
 | ZT _ b=>exact .ZT b
 | ZW _ b=>exact .ZW b
 | fn _ _ e f=>exact .fn e f
 | Xe _ b=>exact .Xe b
 | Κ h=>exact .Κ U
 | ms h=>exact .ms U
 | mp h=>exact .mp U
 | it h=>exact .it U
theorem R7 {t k h:Nat} {l:κ} (d:∀e∈l,∀a∈e.cells,ς 0 a):∀r∈η t k l,X6 h r:=by
 intro r b;unfold η at b;cases c:l.isEmpty with
 | true=>rw[c] at b;simp at b
 | false=>
  rw[c] at b;simp at b;subst b;exact λe f a g=>(d e f a g).mono (χ _)
section
variable {P:Program} {m nt:Nat} {k:List Item} {env:ω} {Z:X7} {E:Yn}
theorem W.U9 {σ0:Ο} {t:TypeId} {e:Ω} {kk:Nat} (c:m<=σ0.length) (d:∀r∈σ0,X6 σ0.length r) (f:∀a∈e.cells,ς σ0.length a) (env':ω)
  (g:∀p∈env',(Z7 env p.1=p.2/\ς σ0.length p.2)\/(Z7 env p.1=.Κ σ0.length 1 0 0/\p.2=.Θ e.cells)) (h:W P m nt k env' σ0 Z E):W P m nt k env (σ0++[.cells t kk [e]]) Z E:=
 W.fix (t:=t) (kk:=kk) (e:=e) c I f (λid r i b=>d r (by
  rw[YK i] at b;exact Zi b)) I env' g h
theorem W.Dq {t kk:Nat} {l:κ} {d:Nat} (f:∀e∈l,∀a∈e.cells,ς 0 a) (env':ω) (hd:Z7 env d=Yu l) (c:∀p∈env',Z7 env p.1=p.2/\ς 0 p.2) (g:W P 0 nt k ((d,YC kk l)::env') [] Z E):W P 0 nt k env (η t kk l) Z E:=
 W.cut 0 (χ _) ((d,YC kk l)::env') (χ _) (λid r h=>U) (λp b=>by
  rcases Y6.1 b with rfl|b
  .show Ym 0 _ (Z7 env d) _;rw[hd];exact .acc f
  .rw[(c p b).1];exact .low (c p b).2) (by simpa using g)
end
abbrev Zr (l:List Int):Ω:=.sl true 1 (l.map J)
theorem Zh.Dp {L:List (List Int)}:Zh (YC 1 (L.map Zr)) (ξ L):=.trans .acc (.map λx _=>.one .ex rfl rfl)
theorem Lv {L:List (List Int)}:∀e∈L.map Zr,∀a∈e.cells,ς 0 a:=by
 intro e c a b;obtain⟨x,_,rfl⟩:=Zq.1 c;simp[Ω.cells] at b;subst b;simp
theorem w9 (n:Int):Ε prog 51 [J n] (.ZW [J (if valid n then I5 n else 0),J (if valid n then 0 else 1)]):=by
 refine Μ.body Ρ func51 rfl rfl ntmps51 rfl rfl I ?_;refine Τ ?_;refine Z' λc a=>?_;refine Ε.d (M8 n) (Z6 ?_);apply a;cases b:valid n
 .refine Α rfl ?_;refine Τ ?_;refine W.rt ?_;exact .of rfl
 .refine Ζ rfl ?_;refine Z' λc a=>?_;refine Ε.d (xG n) (Z6 ?_);apply a;refine Τ ?_;refine W.rt ?_;exact .of rfl
def Vr {α:Type} [DecidableEq α]:α->List α->List α
 | _,[]=>[]
 | a,b::l=>if b=a then Vr a l else b::Vr b l
def Yk {α:Type} [DecidableEq α]:List α->List α
 | []=>[]
 | a::l=>a::Vr a l
theorem I0 {α:Type} [DecidableEq α] (l:List α) {p:Nat} (f:0<p) (h:p<l.length) (g:p-1<l.length):Yk (l.take (p+1))=Yk (l.take p)++if l[p]=l[p-1] then [] else [l[p]]:=by
 have gen:∀(l:List α) (a:α) (p:Nat) (h:p<l.length),Vr a (l.take (p+1))=Vr a (l.take p)++if l[p]=(a::l)[p]'(by simp;omega) then [] else [l[p]]:=by
  intro l
  induction l with
  | nil=>intro a p h;cases h
  | cons b l d=>
   intro a p h;cases p with
   | zero=>by_cases e:b=a<;>simp[Vr,e]
   | succ p=>
    have c:p<l.length:=by simpa using h
    by_cases e:b=a
    .subst e;have:=d b p c;simp only[List.take_succ_cons,Vr,if_true,List.getElem_cons_succ] at this ⊢;exact this
    .have:=d b p c;simp only[List.take_succ_cons,Vr,e,if_false,List.getElem_cons_succ,List.cons_append] at this ⊢;rw[this]
 cases l with
 | nil=>cases h
 | cons a l=>
  obtain⟨q,rfl⟩:∃q,p=q+1:=⟨p-1,U⟩;have c:q<l.length:=by simpa using h
  have:=gen l a q c;simp only[List.take_succ_cons,Yk,List.getElem_cons_succ,Nat.add_sub_cancel] at this ⊢;rw[this];rfl
theorem w8 {α:Type} [DecidableEq α] (l:List α) (p:Nat):(Yk (l.take p)).length<=p:=by
 have gen:∀(l:List α) (a:α),(Vr a l).length<=l.length:=by
  intro l
  induction l with
  | nil=>intro a;simp[Vr]
  | cons b l c=>
   intro a;simp only[Vr];split
   .have:=c a;simp;omega
   .have:=c b;simp;omega
 cases h:l.take p with
 | nil=>simp[Yk]
 | cons a m=>
  have d:(a::m).length<=p:=by rw[<-h];simp;omega
  have:=gen m a;simp only[Yk,List.length_cons] at d ⊢;omega
theorem IZ {f:List Int} {L:κ} (a:L=f.map J) {j:Nat} {x:Int} (h:f[j]?=some x):L[j]?=some (J x)/\∀h:j<L.length,L[j]=J x:=by
 have e:L[j]?=some (J x):=by rw[a,YU,h];rfl
 exact⟨e,λb=>by rw[δ b] at e;exact Xk e⟩
theorem w7 (l:List Int) (n:Nat) (d:l.length=n) (aF:n<2 ^ 40):Μ prog 133 [.ms 0 n 0 n] [.cells 3 1 (l.map J)]
  (λr s=>∃aa:List Int,(Yk l++aa).length=n/\r=.ms 0 n 0 (Yk l).length/\s=[.cells 3 1 ((Yk l++aa).map J)]) (λ_ _=>False):=by
 refine Μ.body Ρ func133 rfl rfl ntmps133 rfl rfl I ?_;by_cases t:(n:Int)<2
 .refine Γ (Υ d t) ?_;refine Α rfl ?_;refine Γ d ?_;refine W.ret ⟨_,rfl,[],?_⟩;have e:Yk l=l:=by
   match l,d with
   | [],_=>rfl
   | [a],_=>rfl
   | a::b::l,d=>simp at d;omega
  rw[e,Vw,d];exact⟨rfl,rfl,rfl⟩
 refine Γ (Υ d t) ?_;refine Ζ rfl ?_;refine Τ ?_;refine W.iter (λk:Nat=>1<=k/\k<=n/\Yk (l.take k)=l.take k) (λk=>[(0,.ms 0 n 0 n),(3,J k)]) (λ_=>[.cells 3 1 (l.map J)]) (λk=>n-k) 1 ⟨γ _,U,by
  match l,d with
  | [],d=>rfl
  | a::l,d=>rfl⟩ rfl I (λk aj ak=>?_)
 obtain⟨aG,c,H⟩:=aj;refine Γ d ?_;by_cases C:k<n
 .refine Α (by simp[C]) ?_
  repeat apply Ξ
  obtain⟨p,ab⟩:∃p,k=p+1:=⟨k-1,U⟩;have al:i64.wrap ((k:Int)-1)=(p:Int):=by have:=Yg (show p<2 ^ 62 by omega);rw[ab];simpa using this
  have am:p<n:=U
  have O:k<l.length:=U
  have an:p<l.length:=U;obtain⟨L,h⟩:=Η (l.map J);have K:L.length=n:=by rw[h];simpa using d
  obtain⟨P,Q⟩:=IZ h (δ O);obtain⟨R,S⟩:=IZ h (δ an);refine W.to (σ':=[.cells 3 1 L]) (env':=[(0,.ms 0 n 0 n),(3,J k)]) ?_ (by rw[h]) I;generalize T:l[k]=x at P Q;generalize ao:l[p]=y at R S;refine XI (Υ C (Υ al (Υ K (Υ am (Υ P (Υ Q (Υ R S))))))) ?_;have ad:Yk (l.take (k+1))=Yk (l.take k)++if x=y then [] else [x]:=by
   rw[I0 l U O U];simp only[ab,Nat.add_sub_cancel] at T ⊢;rw[T,ao]
  by_cases M:x=y
  .refine Α (by simp[M]) ?_
   repeat apply Ξ
   refine W.XV (A:=[]) Ρ [(0,.ms 0 n 0 n),(3,J k),(4,.ms 0 n k (n-k))] [.cells 3 1 L] ?_ (by
    (try simp);(repeat (rw[Ν];simp[K,Sr C]));(try simp[K,Sr C]))
   refine Τ ?_;have ae:Yk (l.take (k+1))=l.take k:=by rw[ad,if_pos M,Vw,H]
   refine W.iter (λq:Nat×Nat×List Int=>1<=q.2.1/\k+q.2.1<=n/\q.2.2.length=n/\q.1<k+q.2.1/\q.1=(Yk (l.take (k+q.2.1))).length/\q.2.2.take q.1=Yk (l.take (k+q.2.1))/\∀j,k+q.2.1-1<=j->j<n->q.2.2[j]?=l[j]?)
    (λq=>[(0,.ms 0 n 0 n),(3,J q.1),(4,.ms 0 n k (n-k)),(5,J q.2.1)]) (λq=>[.cells 3 1 (q.2.2.map J)]) (λq=>n-q.2.1) (k,1,l) ⟨γ _,by simp;omega,d,I,by simp only[ae];simp;omega,by simp only[ae],λj _ _=>rfl⟩ (by rw[h]) I (λq ap af=>?_)
   obtain⟨m,c,f⟩:=q;obtain⟨aq,ar,i,au,D,E,F⟩:=ap;simp only at aq ar i au D E F;clear h K P Q R S;refine Γ i ?_;by_cases hd:c<n-k
   .have aH:(c:Int)<((n-k:Nat):Int):=U
    refine Α (by simp[hd]) ?_
    repeat apply Ξ
    obtain⟨o,av⟩:∃r,c=r+1:=⟨c-1,U⟩;have aw:i64.wrap ((c:Int)-1)=(o:Int):=by have:=Yg (show o<2 ^ 62 by omega);rw[av];simpa using this
    have ax:o<n-k:=U;obtain⟨ag,w⟩:=Η (f.map J);have V:ag.length=n:=by rw[w];simpa using i
    have ah:f[k+c]?=some (l[k+c]'U):=by rw[F _ U U,δ]
    have hv:f[k+o]?=some (l[k+o]'U):=by rw[F _ U U,δ]
    have g:=I0 l (p:=k+c) U U U
    have ay:l[k+c-1]'U=l[k+o]'U:=by congr 1;omega
    rw[ay] at g;generalize l[k+c]'U=u at ah g;generalize l[k+o]'U=v at hv g;obtain⟨X,Y⟩:=IZ w ah;obtain⟨az,aA⟩:=IZ w hv;refine W.to (σ':=[.cells 3 1 ag]) (env':=[(0,.ms 0 n 0 n),(3,J m),(4,.ms 0 n k (n-k)),(5,J c)]) ?_ (by rw[w]) I;have B:m<n:=U;refine W.draw (A:=[]) Ρ mixed λaI aB=>?_;simp;(repeat (rw[ZK];simp[hd,aw,ax,V,X,Y,az,aA]));try rw[ZL];refine Y8 (aB _ _ ?_)
    by_cases N:u=v
    .refine Ζ (by simp[N]) ?_;refine Τ ?_;rw[if_pos N,Vw] at g;refine W.to (af (m,c+1,f) ⟨I,by simp;omega,i,by simp;omega,by simp only[<-UB,g];exact D,by simp only[<-UB,g];exact E,λj Z t=>F j (by simp at Z;omega) t⟩ (by simp;omega)) (by rw[w]) ?_;have:=Yg (show c+1<2 ^ 62 by omega);simpa using this
    .refine Α (by simp[N]) ?_;rw[if_neg N] at g
     repeat apply Ξ
     refine W.XV (A:=[]) Ρ [(0,.ms 0 n 0 n),(3,J m),(4,.ms 0 n k (n-k)),(5,J c)] [.cells 3 1 ((f.set m u).map J)] ?_ (by
      (try simp);(repeat (rw[Ν];simp[hd,V,B,X,Y]));(try simp[hd,V,B,X,Y]);subst w;simp)
     refine Τ ?_;refine W.to (af (m+1,c+1,f.set m u) ⟨I,by simp;omega,by simpa using i,by simp;omega,by simp only[<-UB,g];simp;exact D,?_,λj Z t=>?_⟩ (by simp;omega)) I ?_
     .simp only[<-UB,g];rw[<-E,We (by simp;omega),List.take_set_of_le (γ _)];simp
     .simp at Z;rw[WR U];exact F j U t
     .have ai:=Yg (show c+1<2 ^ 62 by omega)
      have Φ:=Yg (show m+1<2 ^ 62 by omega);simp at ai Φ ⊢;exact⟨Φ,ai⟩
   .refine Ζ (by simp[hd]) ?_;refine W.exit rfl ?_;have aC:k+c=n:=U;have aD:l.take n=l:=U4 U;rw[aC,aD] at D E
    repeat apply Ξ
    have B:m<=n:=U;refine W.XV (A:=[]) Ρ [(0,.ms 0 n 0 n),(3,J m)] [.cells 3 1 ((Yk l++List.replicate (n-m) 0).map J)] ?_ (by
     (try simp);(repeat (rw[Ν];simp[i,B]));(try simp[i,B]);rw[<-List.map_take,E,NK (by simp;omega),Vw])
    have aE:(Yk l).length+(n-m)=n:=U;refine Γ (Υ aE B) ?_;refine W.ret ⟨_,rfl,List.replicate (n-m) 0,by simp;omega,?_,I⟩;rw[<-D];rfl
  .refine Ζ (by simp[M]) ?_;refine Τ ?_;refine W.to (ak (k+1) ⟨U,U,?_⟩ U) (by rw[h]) ?_
   .rw[ad,if_neg M,H,<-T,<-We O]
   .have:=Yg (show k+1<2 ^ 62 by omega);simpa using this
 .refine Ζ (by simp[C]) ?_;refine W.exit rfl ?_;refine Τ ?_;refine W.ret ⟨_,rfl,[],?_⟩;have e:Yk l=l:=by rw[U4 U] at H;exact H
  rw[e,Vw,d];exact⟨rfl,rfl,rfl⟩
def PM:ψ:=⟨[],[],[]⟩
theorem GK {e f g:Bool} {a b c:Nat}:Zh (.ZT [.sl e a [],.sl f b [],.sl g c []]) (Yz PM):=.ZT (.cons .nil (.cons .nil (.cons .nil .nil)))
abbrev Dn (r:ψ×List Found×Int):Ω:=.ZW [Yz r.1,Zb r.2.1,J r.2.2]
def Yr (s:ψ) (a:Bool) (F:List Found):ψ×List Found×Int:=
 if s.err≠0 then(PM,[],s.err) else if a=true/\F=[] then(s,[],9) else(s,F,0)
def Xp (s:ψ) (cell:Int) (F:List Found):ψ×List Found×Int:=
 if s.err≠0 then(PM,[],s.err) else if cell<0\/(s.cells.length:Int)<=cell then(PM,[],3) else Yr s true F
def S9 (s:ψ) (F:List Found):Prop:=s.err=0->Ε prog 116 [Yz s] (Zb F)
theorem M5 (s:ψ) (g:s.small) (c:Bool) (F:List Found) (h:S9 s F):Ε prog 75 [Yz s,Z4 c] (Dn (Yr s c F)):=by
 refine Μ.body Ρ func75 rfl rfl ntmps75 rfl rfl I ?_
 repeat apply Ξ
 refine Y4 (A:=[4]) Ρ λf a=>Z6 ?_;apply a;refine Z' λf a=>?_;refine Ε.d (Lw s g) (Z6 ?_);apply a;refine Τ ?_;by_cases b:s.err=0
 case neg=>
  have e:Yr s c F=(PM,[],s.err):=by unfold Yr;rw[if_pos b]
  rw[e];refine Α (by simp[b]) ?_;refine Τ ?_;refine W.fix (id:=0) (σ':=[]) (χ _) rfl I I rfl [(4,.Θ [.sl true 0 [],.sl true 0 [],.sl true 0 []]),(5,.sl true 0 []),(6,J s.err)] I ?_;refine W.rt ?_;exact .ZW (.cons GK (.cons .nil (.cons (.refl _) .nil)))
 refine Ζ (by simp[b]) ?_
 repeat apply Ξ
 refine Y4 (A:=[8]) Ρ λf a=>Z6 ?_;apply a;refine Z' λf a=>?_;refine Ε.d (h b) (Z6 ?_);apply a
 repeat apply Ξ
 cases c
 case false=>
  have e:Yr s false F=(s,F,0):=by unfold Yr;rw[if_neg (by simpa using b),if_neg I]
  rw[e];refine Τ ?_;refine Ζ rfl ?_;refine Τ ?_;refine W.fix (id:=0) (σ':=[]) (χ _) rfl I I rfl [(4,.Θ [ν s.Ι,ξ s.Δ,Z2 s.cells]),(5,Zb F),(6,J 0)] I ?_;refine W.rt ?_;exact .refl _
 case true=>
  refine Τ ?_;by_cases z:F=[]
  .have e:Yr s true F=(s,[],9):=by unfold Yr;rw[if_neg (by simpa using b),if_pos ⟨rfl,z⟩]
   rw[e];refine Α (by simp[z]) ?_;refine Τ ?_;refine W.fix (id:=0) (σ':=[]) (χ _) rfl I I rfl [(4,.Θ [ν s.Ι,ξ s.Δ,Z2 s.cells]),(5,.sl true 0 []),(6,J 9)] I ?_;refine W.rt ?_;exact .ZW (.cons (.refl _) (.cons .nil (.cons (.refl _) .nil)))
  .have e:Yr s true F=(s,F,0):=by unfold Yr;rw[if_neg (by simpa using b),if_neg (by simp[z])]
   rw[e];refine Ζ (by simp[z]) ?_;refine Τ ?_;refine W.fix (id:=0) (σ':=[]) (χ _) rfl I I rfl [(4,.Θ [ν s.Ι,ξ s.Δ,Z2 s.cells]),(5,Zb F),(6,J 0)] I ?_;refine W.rt ?_;exact .refl _
theorem GJ (s:ψ) (f:s.small) (cell:Int) (F:List Found) (i:S9 s F):Ε prog 82 [Yz s,J cell] (Dn (Xp s cell F)):=by
 refine Μ.body Ρ func82 rfl rfl ntmps82 rfl rfl I ?_
 repeat apply Ξ
 refine Y4 (A:=[4]) Ρ λg a=>Z6 ?_;apply a;refine Z' λg a=>?_;refine Ε.d (Lw s f) (Z6 ?_);apply a;refine Τ ?_;by_cases b:s.err=0
 case neg=>
  have e:Xp s cell F=(PM,[],s.err):=by unfold Xp;rw[if_pos b]
  rw[e];refine Α (by simp[b]) ?_;refine Τ ?_;refine W.fix (id:=0) (σ':=[]) (χ _) rfl I I rfl [(4,.Θ [.sl true 0 [],.sl true 0 [],.sl true 0 []]),(5,.sl true 0 []),(6,J s.err)] I ?_;refine W.rt ?_;exact .ZW (.cons GK (.cons .nil (.cons (.refl _) .nil)))
 refine Ζ (by simp[b]) ?_;have h:Xp s cell F=if cell<0\/(s.cells.length:Int)<=cell then(PM,[],3) else Yr s true F:=by unfold Xp;rw[if_neg (by simpa using b)]
 repeat apply Ξ
 refine W.RA (A:=[]) Ρ [(22,Z4 (decide (cell<0)||decide ((s.cells.length:Int)<=cell))),(2,.Θ [ν s.Ι,ξ s.Δ,Z2 s.cells]),(4,.Κ 0 1 0 0),(1,J cell)] ?_ (by
  by_cases q:cell<0
  ·(try simp);(repeat (rw[Ν];simp[q]));(try simp[q])
  ·(try simp);(repeat (rw[Ν];simp[q]));(try simp[q]))
 by_cases c:cell<0\/(s.cells.length:Int)<=cell
 .rw[h,if_pos c];refine Α (by simpa using c) ?_;refine Τ ?_;refine W.fix (id:=0) (σ':=[]) (χ _) rfl I I rfl [(4,.Θ [.sl true 0 [],.sl true 0 [],.sl true 0 []]),(5,.sl true 0 []),(6,J 3)] I ?_;refine W.rt ?_;exact .ZW (.cons GK (.cons .nil (.cons (.refl _) .nil)))
 .rw[h,if_neg c];refine Ζ (by simpa using c) ?_;refine Z' λg a=>?_;refine Ε.d (M5 s f true F i) (Z6 ?_);apply a;refine Τ ?_;generalize Yr s true F=r;refine W.fix (id:=0) (σ':=[]) (χ _) rfl I I rfl [(4,.Θ [ν r.1.Ι,ξ r.1.Δ,Z2 r.1.cells]),(5,Zb r.2.1),(6,J r.2.2)] I ?_;refine W.rt ?_;exact .refl _
def W0 (F:List Found):List (List Int):=F.map λf=>[f.u,f.v]
theorem Dm {α a:Type} (f:α->a) (l:List α) {i:Nat} (h:i<l.length):(l.take (i+1)).map f=(l.take i).map f++[f l[i]]:=by
 rw[We h,Yc];rfl
theorem Lu (s:ψ) (r:s.small) (F:List Found) (w:S9 s F) (x:F.length<2 ^ 20):Ε prog 42 [Yz s] (.ZW [ξ (if s.err=0 then W0 F else []),J s.err]):=by
 refine Μ.body Ρ func42 rfl rfl ntmps42 rfl rfl I ?_;refine Τ ?_;refine Y1 ?_;refine Y4 (A:=[4]) Ρ λy j=>Z6 ?_;refine Ε.d (M5 s r false F w) (Z6 ?_);apply j;have e:Yr s false F=if s.err=0 then(s,F,0) else(PM,[],s.err):=by
  unfold Yr;by_cases b:s.err=0
  .rw[if_neg (by simpa using b),if_neg I,if_pos b]
  .rw[if_pos b,if_neg b]
 have n:(Yr s false F).2.1=if s.err=0 then F else []:=by rw[e];split<;>rfl
 have Φ:(Yr s false F).2.2=s.err:=by rw[e];split<;>simp[*]
 obtain⟨G,g⟩:∃G,G=if s.err=0 then F else []:=⟨_,rfl⟩
 have E:G.length<2 ^ 20:=by rw[g];split;exact x;simp
 have o:(if s.err=0 then W0 F else [])=W0 G:=by rw[g];split<;>rfl
 rw[n,Φ,o,<-g];clear g o e n Φ;generalize s.err=c;refine W.drop (h:=0) (σ':=[]) (χ _) (χ _) I rfl [(5,Zb G),(6,J c)] I ?_;refine Τ ?_;have H:∀i,(W0 G).take i=W0 (G.take i):=λi=>by simp[W0]
 refine W.iter (λi:Nat=>i<=G.length) (λi=>[(6,J c),(7,Yu ((W0 (G.take i)).map Zr)),(16,Zb G),(17,J G.length),(18,J i)])
  (λi=>η 29 1 ((W0 (G.take i)).map Zr)) (λi=>G.length-i) 0 (χ _) rfl (by simp[S',W0]) (λi hi B=>?_)
 refine Τ ?_;refine W.Yv rfl (λa=>?_) (λa=>?_)
 .have a:i<G.length:=by simpa using a
  have l:(W0 (G.take (i+1))).map Zr=(W0 (G.take i)).map Zr++[Zr [G[i].u,G[i].v]]:=by
   unfold W0;rw[Sq,Sq,Dm _ _ a];rfl
  have p:=λh=>R7 (t:=29) (k:=1) (h:=h) (Lv (L:=W0 (G.take i)))
  have C:((W0 (G.take i)).map Zr).length<=i:=by simp[W0];omega
  obtain⟨L,m⟩:=Η ((W0 (G.take i)).map Zr);rw[<-m] at p C l;refine W.to (σ':=η 29 1 L) (env':=[(6,J c),(7,Yu L),(16,Zb G),(17,J G.length),(18,J i)]) ?_ (by rw[m]) (by rw[m];simp)
  repeat apply Ξ
  refine Y4 (A:=[9]) Ρ λy j=>XJ a ?_;apply j;refine W.U9 (χ _) (p _) I [(9,.Θ [J G[i].u,J G[i].v,T8 G[i].cells]),(6,J c),(7,Yu L),(16,Zb G),(17,J G.length),(18,J i)] I ?_
  repeat apply Ξ
  refine W.XV (A:=[26]) Ρ [(6,J c),(7,Yu (L++[Zr [G[i].u,G[i].v]])),(16,Zb G),(17,J G.length),(18,J i)] (η 29 1 (L++[Zr [G[i].u,G[i].v]])) ?_ (by
   by_cases f:L=[]
   .subst f;(try simp);(repeat (rw[Ν];simp[S',Wy]));(try simp[S',Wy]);exact⟨rfl,rfl⟩
   .have D:L.length<=4294967295:=U
    (try simp);(repeat (rw[Ν];simp[R8 f,YZ f,N6,QI]));(try simp[R8 f,YZ f,N6,QI]);exact D)
  refine Τ ?_;refine W.to (B (i+1) a U) ?_ ?_
  .rw[l]
  .rw[l];simp[X5 a (show G.length<2 ^ 62 by omega)]
 .have a:i=G.length:=by simp at a;omega
  subst a;refine W.exit rfl ?_;refine Τ ?_;refine W.Dq (d:=2) Lv [(3,J c)] I I ?_;refine W.rt ?_;exact .ZW (.cons .Dp (.cons (.refl _) .nil))
abbrev TM (l:List Int):List Int:=l.mergeSort (λx y=>decide (x<=y))
def N5 (N:Nat):Prop:=∀(l:List Int),l.length<=N->Μ prog 132 [.ms 0 l.length 0 l.length] [.cells 3 1 (l.map J)] (λr s=>r=.ZW []/\s=[.cells 3 1 ((TM l).map J)]) (λ_ _=>False)
def Vz (lower:Bool) (r:Int×Int):Int:=if lower then r.2 else r.1
def SD (lower:Bool) (A:List Int) (C:List (Int×Int)) (j:Nat):List Int:=A++(C.take j).map (Vz lower)
theorem Dl {lower:Bool} {A:List Int} {C:List (Int×Int)}:SD lower A C 0=A:=by simp[SD]
theorem w6 {lower:Bool} {A:List Int} {C:List (Int×Int)} {j:Nat} (h:j<C.length):SD lower A C (j+1)=SD lower A C j++[Vz lower C[j]]:=by
 unfold SD;rw[Dm _ _ h,Vi]
theorem Dk {lower:Bool} {A:List Int} {C:List (Int×Int)} {j:Nat} (h:C.length<=j):SD lower A C j=A++C.map (Vz lower):=by
 unfold SD;rw[U4 h]
theorem w5 {lower:Bool} {A:List Int} {C:List (Int×Int)} {j:Nat}:(SD lower A C j).length<=A.length+j:=by
 unfold SD;simp;omega
def N4 (f:Found) (cell:Nat) (lower:Bool):List Int:=((f.cells[cell]?).getD []).map (Vz lower)
def Xo (F:List Found) (cell:Nat) (lower:Bool):List Int:=F.flatMap λf=>N4 f cell lower
def Yb (F:List Found) (cell:Nat) (lower:Bool):List Int:=Yk (TM (Xo F cell lower))
theorem GI {l:List Int}:∀e∈l.map J,∀a∈e.cells,ς 0 a:=by
 intro e c a b;obtain⟨x,_,rfl⟩:=Zq.1 c;simp[Ω.cells] at b;subst b;simp
theorem Dj (F:List Found) (cell:Nat) (lower:Bool) (al:F.length<2 ^ 20) (X:∀f∈F,cell<f.cells.length/\∀c∈f.cells,c.length<2 ^ 20) (N:Nat) (am:N<2 ^ 20) (Y:N5 N) (Q:Xo F cell lower≠[]) (y:(Xo F cell lower).length<=N) :
  Ε prog 95 [Zb F,J cell,Z4 lower] (Z9 J 1 (Yb F cell lower)):=by
 refine Μ.body Ρ func95 rfl rfl ntmps95 rfl rfl I ?_;refine Τ ?_;refine W.iter (λi:Nat=>i<=F.length) (λi=>[(1,J cell),(2,Z4 lower),(7,Yu ((Xo (F.take i) cell lower).map J)),(12,Zb F),(13,J F.length),(14,J i)])
  (λi=>η 3 1 ((Xo (F.take i) cell lower).map J)) (λi=>F.length-i) 0 (χ _) rfl (by simp[Xo,S']) (λi hi Z=>?_)
 refine Τ ?_;have aa:∀i,(Xo (F.take i) cell lower).length<=N:=λi=>by
  have e:Xo F cell lower=Xo (F.take i) cell lower++Xo (F.drop i) cell lower:=by
   conv=>lhs;rw[<-OP i F]
   simp only[Xo,ON]
  rw[e,VK] at y;omega
 refine W.Yv rfl (λB=>?_) (λB=>?_)
 .have g:i<F.length:=by simpa using B
  obtain⟨D,ab⟩:=X _ (YF g);have ad:F[i].cells[cell].length<2 ^ 20:=ab _ (YF D);obtain⟨A,E⟩:=Η (Xo (F.take i) cell lower);have w:Xo (F.take (i+1)) cell lower=A++F[i].cells[cell].map (Vz lower):=by
   rw[E];unfold Xo;rw[We g,ON];simp[N4,D]
  have R:(A++F[i].cells[cell].map (Vz lower)).length<=N:=by rw[<-w];exact aa _
  rw[VK,Yp] at R;refine W.to (σ':=η 3 1 (A.map J)) (env':=[(1,J cell),(2,Z4 lower),(7,Yu (A.map J)),(12,Zb F),(13,J F.length),(14,J i)]) ?_ (by rw[E]) (by rw[E];simp)
  repeat apply Ξ
  refine Y4 (A:=[9]) Ρ λH h=>XJ g ?_;apply h;refine W.U9 (χ _) (R7 GI) I [(9,.Θ [J F[i].u,J F[i].v,T8 F[i].cells]),(1,J cell),(2,Z4 lower),(7,Yu (A.map J)),(12,Zb F),(13,J F.length),(14,J i)] I ?_;refine Γ D ?_;generalize an:F[i].cells[cell]=C at ad w R;refine W.iter (λj:Nat=>j<=C.length) (λj=>[(1,J cell),(2,Z4 lower),(7,Yu ((SD lower A C j).map J)),(12,Zb F),(13,J F.length),(14,J i),(22,UZ C),(23,J C.length),(24,J j)])
   (λj=>η 3 1 ((SD lower A C j).map J)) (λj=>C.length-j) 0 (χ _) (by rw[Dl]) (by simp[Dl]) (λj ao ae=>?_)
  refine Τ ?_;refine W.Yv rfl (λK=>?_) (λK=>?_)
  .have n:j<C.length:=by simpa using K
   obtain⟨L,x⟩:=Η (SD lower A C j);have ap:L.length<=A.length+j:=by rw[x];exact w5
   have M:SD lower A C (j+1)=L++[Vz lower C[j]]:=by rw[x];exact w6 n
   refine W.to (σ':=η 3 1 (L.map J)) (env':=[(1,J cell),(2,Z4 lower),(7,Yu (L.map J)),(12,Zb F),(13,J F.length),(14,J i),(22,UZ C),(23,J C.length),(24,J j)]) ?_ (by rw[x]) (by rw[x];simp)
   repeat apply Ξ
   refine Y4 (A:=[11]) Ρ λH h=>XJ n ?_;apply h;refine W.U9 (χ _) (R7 GI) I [(11,.Θ [J C[j].1,J C[j].2]),(1,J cell),(2,Z4 lower),(7,Yu (L.map J)),(12,Zb F),(13,J F.length),(14,J i),(22,UZ C),(23,J C.length),(24,J j)] I ?_
   repeat apply Ξ
   generalize C[j]=r at M;refine W.XV (A:=[34]) Ρ [(1,J cell),(2,Z4 lower),(7,Yu ((L++[Vz lower r]).map J)),(12,Zb F),(13,J F.length),(14,J i),(22,UZ C),(23,J C.length),(24,J j)] (η 3 1 ((L++[Vz lower r]).map J)) ?_ (by
    have af:L.length<=4294967295:=U;rw[Yc];cases lower
    all_goals
     by_cases O:L.map J=[]
     .rw[O,S',Wy];(try simp);(repeat (rw[Ν];simp));(try simp);refine Ε.d (GP _) (Z6 ?_);simp[η,Yu,Vz]
     .rw[R8 O,YZ O];(try simp);(repeat (rw[Ν];simp));(try simp);refine Ε.d (GP _) (Z6 ?_);simp[QI,N6,Vz,af])
   refine Τ ?_;refine W.to (ae (j+1) n U) ?_ ?_
   .rw[M,Yc];rfl
   .rw[M];simp[X5 n (show C.length<2 ^ 62 by omega)]
  .have n:C.length<=j:=by simpa using K
   refine W.exit rfl ?_;refine Τ ?_;refine W.to (Z (i+1) g U) ?_ ?_
   .rw[w,Dk n]
   .rw[w,Dk n];simp[X5 g (show F.length<2 ^ 62 by omega)]
 .have g:i=F.length:=by simp at B;omega
  refine W.exit rfl ?_;rw[g,OI];obtain⟨b,S⟩:=Η (Xo F cell lower);rw[<-S] at Q y ⊢;have T:b.map J≠[]:=by simpa using Q
  have ag:Yb F cell lower=Yk (TM b):=by rw[S];rfl
  have ah:(TM b).length=b.length:=by simp[TM]
  refine W.to (σ':=[.cells 3 1 (b.map J)]) (env':=[(7,.ms 0 b.length 0 b.length)]) ?_ (YZ T) (by simp[R8 T]);refine Z' λH h=>?_;refine Μ.one (Y b y) 0 rfl (SH QJ) (SH QJ) (by simp[UG]) (by simp[XC]) (by simp[UF]) ?_;simp[Yx,WM];(repeat (rw[Ν];simp));apply h;refine Z' λH h=>?_;have ai:=w7 (TM b) b.length ah U;refine Μ.I1 ai 0 rfl (SH QJ) (by simp[UG]) (by simp[UF]) (λa s ⟨P,aj,V,ak⟩=>⟨_,ak,SH QJ,by subst V;simp[UG],?_⟩);subst V;simp[UF];(repeat (rw[Ν];simp));apply h;refine W.cut 0 (χ _) [(6,Z9 J 1 (Yk (TM b)))] I I ?_ ?_
  .intro p o;simp at o;subst o;have o:=Ym.part (σ:=[.cells 3 1 ((Yk (TM b)).map J++P.map J)]) (id:=0) (t:=3) (k:=1) (l:=(Yk (TM b)).map J) (l2:=P.map J) (m:=(Yk (TM b)).length) rfl I GI;have e:((Yk (TM b)).map J++P.map J).length=b.length:=by rw[<-Yc,Yp];exact aj
   rw[e] at o;exact o
  .rw[ag];refine W.rt ?_;exact .refl _
abbrev U8 (n:Int):Ω:=.z (.int .i32 n)
theorem wZ (l:List Int):P2 (l.map U8)=some l:=by
 induction l with
 | nil=>rfl
 | cons a l b=>simp[P2,b]
def Ph (s:ψ) (F:List Found) (lower:Bool) (a:ByteArray->Int) (c:Nat):Int:=
 let l:=Yb F c lower
 if 1<l.length then 63 else if l.headD 0<0 then 45 else match s.Ι[(l.headD 0).toNat]? with|some g=>a g.name|none=>0
def S8 (s:ψ) (F:List Found) (lower:Bool) (a:ByteArray->Int) (c:Nat):List Int:=(List.range c).map (Ph s F lower a)
def R6 (s:ψ) (F:List Found) (lower:Bool) (a:ByteArray->Int):ByteArray×Int:=
 if(Yr s true F).2.2=0 then(spell (S8 s F lower a s.cells.length),0) else(⟨#[]⟩,(Yr s true F).2.2)
structure GH (s:ψ) (F:List Found) (lower:Bool) (a:ByteArray->Int) (N:Nat):Prop where
 Ut:F.length<2 ^ 20
 cells:∀f∈F,f.cells.length=s.cells.length/\∀c∈f.cells,c.length<2 ^ 20
 some:∀c,c<s.cells.length->Xo F c lower≠[]/\(Xo F c lower).length<=N/\Yb F c lower≠[]/\(Yb F c lower).length<2 ^ 30/\∀x∈Yb F c lower,x<s.Ι.length
 name:∀g∈s.Ι,(Conv.runesFrom g.name g.name.size 0 #[])[0]?=Option.some (.int .i32 (a g.name))
theorem GG (s:ψ) (M:s.small) (F:List Found) (T:S9 s F) (lower:Bool) (a:ByteArray->Int) (N:Nat) (V:N<2 ^ 20) (X:N5 N) (n:(Yr s true F).2.2=0->GH s F lower a N) :
  Ε prog 40 [Yz s,Z4 lower] (.ZW [Tc (R6 s F lower a).1,J (R6 s F lower a).2]):=by
 refine Μ.body Ρ func40 rfl rfl ntmps40 rfl rfl I ?_;refine Τ ?_;refine Y1 ?_;refine Y4 (A:=[6]) Ρ λv o=>Z6 ?_;refine Ε.d (M5 s M true F T) (Z6 ?_);apply o;by_cases b:(Yr s true F).2.2=0
 case neg=>
  have e:R6 s F lower a=(⟨#[]⟩,(Yr s true F).2.2):=by unfold R6;rw[if_neg b]
  rw[e];generalize (Yr s true F).2.2=Y at b;refine Τ ?_;refine Α (by simp[b]) ?_;refine Τ ?_;refine W.drop (h:=0) (σ':=[]) (χ _) (χ _) I rfl [(4,Tc ⟨#[]⟩),(5,J Y)] I ?_;refine W.rt ?_;exact .refl _
 have n:=n b
 have e:Yr s true F=(s,F,0):=by
  unfold Yr at b ⊢;split at b
  .rename_i h;simp at b;exact absurd b h
  .split at b
   .simp at b
   .rename_i w B;rw[if_neg w,if_neg B]
 have Φ:R6 s F lower a=(spell (S8 s F lower a s.cells.length),0):=by unfold R6;rw[if_pos b]
 rw[Φ,e];refine W.fix (id:=0) (σ':=[]) (χ _) rfl I I rfl [(1,Z4 lower),(6,.Θ [ν s.Ι,ξ s.Δ,Z2 s.cells]),(7,Zb F),(8,J 0)] I ?_;refine Τ ?_;refine Ζ rfl ?_;refine Τ ?_;have ae:s.cells.length<2 ^ 30:=M.2.2.1;refine W.iter (λc:Nat=>c<=s.cells.length) (λc=>[(1,Z4 lower),(6,.Θ [ν s.Ι,ξ s.Δ,Z2 s.cells]),(7,Zb F),(9,Yu ((S8 s F lower a c).map U8)),(25,J s.cells.length),(26,J c)])
  (λc=>η 21 1 ((S8 s F lower a c).map U8)) (λc=>s.cells.length-c) 0 (χ _) rfl (by simp[S8,S']) (λc af C=>?_)
 refine Τ ?_;refine W.Yv rfl (λt=>?_) (λt=>?_)
 .have j:c<s.cells.length:=by simpa using t
  obtain⟨w,B,O,Z,P⟩:=n.some c j;obtain⟨R,p⟩:=Η (S8 s F lower a c);have ag:R.length=c:=by rw[p];simp[S8]
  have r:S8 s F lower a (c+1)=R++[Ph s F lower a c]:=by rw[p];unfold S8;rw[V0,Yc];rfl
  refine W.to (σ':=η 21 1 (R.map U8)) (env':=[(1,Z4 lower),(6,.Θ [ν s.Ι,ξ s.Δ,Z2 s.cells]),(7,Zb F),(9,Yu (R.map U8)),(25,J s.cells.length),(26,J c)]) ?_ (by rw[p]) (by rw[p];simp);refine Τ ?_;refine Z' λv o=>?_;refine Ε.d (Dj F c lower n.Ut (λf Q=>⟨by rw[(n.cells f Q).1];exact j,(n.cells f Q).2⟩) N V X w B) (Z6 ?_);apply o;have D:R.length<=4294967295:=U;obtain⟨l,E⟩:=Η (Yb F c lower);have H:Ph s F lower a c=if 1<l.length then 63 else if l.headD 0<0 then 45 else match s.Ι[(l.headD 0).toNat]? with|some g=>a g.name|none=>0:=by rw[E];rfl
  rw[<-E] at O Z P ⊢;clear E p;refine Τ ?_;by_cases q:1<l.length
  .have m:Ph s F lower a c=63:=by rw[H,if_pos q]
   refine Α (by simp;omega) ?_
   repeat apply Ξ
   refine W.XV (A:=[57]) Ρ [(1,Z4 lower),(6,.Θ [ν s.Ι,ξ s.Δ,Z2 s.cells]),(7,Zb F),(9,Yu ((R++[63]).map U8)),(25,J s.cells.length),(26,J c)] (η 21 1 ((R++[63]).map U8)) ?_ (by
    rw[Yc];by_cases i:R.map U8=[]
    .rw[i,S',Wy];(try simp);(repeat (rw[Ν];simp));(try simp);simp[η,Yu]
    .rw[R8 i,YZ i];(try simp);(repeat (rw[Ν];simp));(try simp);simp[QI,N6,D])
   refine Τ ?_;refine W.to (C (c+1) j U) ?_ ?_
   .simp only[r,m,Yc,Xg,UA]
   .rw[r,m];simp[X5 j (show s.cells.length<2 ^ 62 by omega)]
  .obtain⟨x,aa⟩:∃x,l=[x]:=by
    match l,O,q with
    | [x],_,_=>exact⟨x,rfl⟩
    | x::y::z,_,q=>simp at q
   subst aa;refine Ζ I ?_;refine Τ ?_;by_cases g:x<0
   .have m:Ph s F lower a c=45:=by rw[H];simp[g]
    refine Α (by simp[g]) ?_;refine Τ ?_;refine W.XV (A:=[57]) Ρ [(1,Z4 lower),(6,.Θ [ν s.Ι,ξ s.Δ,Z2 s.cells]),(7,Zb F),(9,Yu ((R++[45]).map U8)),(25,J s.cells.length),(26,J c)] (η 21 1 ((R++[45]).map U8)) ?_ (by
     rw[Yc];by_cases i:R.map U8=[]
     .rw[i,S',Wy];(try simp);(repeat (rw[Ν];simp));(try simp);simp[η,Yu]
     .rw[R8 i,YZ i];(try simp);(repeat (rw[Ν];simp));(try simp);simp[QI,N6,D])
    refine Τ ?_;refine W.to (C (c+1) j U) ?_ ?_
    .simp only[r,m,Yc,Xg,UA]
    .rw[r,m];simp[X5 j (show s.cells.length<2 ^ 62 by omega)]
   .obtain⟨k,rfl⟩:∃k:Nat,x=k:=⟨x.toNat,U⟩;have K:k<s.Ι.length:=by have:=P (k:Int) I;omega
    have m:Ph s F lower a c=a s.Ι[k].name:=by rw[H];simp[g,K]
    have u:=n.name _ (YF K)
    have ab:∀h:0<(Conv.runesFrom s.Ι[k].name s.Ι[k].name.size 0 #[]).size,(Conv.runesFrom s.Ι[k].name s.Ι[k].name.size 0 #[])[0]'h=.int .i32 (a s.Ι[k].name):=λh=>by
     rw[XG h] at u;exact Xk u
    have S:0<(Conv.runesFrom s.Ι[k].name s.Ι[k].name.size 0 #[]).size:=(TY.1 u).1;refine Ζ I ?_;refine XI (Υ K (Υ u S)) ?_
    repeat apply Ξ
    refine W.forget [(1,Z4 lower),(6,.Θ [ν s.Ι,ξ s.Δ,Z2 s.cells]),(7,Zb F),(9,Yu (R.map U8)),(11,U8 (a s.Ι[k].name)),(25,J s.cells.length),(26,J c)] (by simp[ab S]) ?_;refine W.XV (A:=[57]) Ρ [(1,Z4 lower),(6,.Θ [ν s.Ι,ξ s.Δ,Z2 s.cells]),(7,Zb F),(9,Yu ((R++[(a s.Ι[k].name)]).map U8)),(25,J s.cells.length),(26,J c)] (η 21 1 ((R++[(a s.Ι[k].name)]).map U8)) ?_ (by
     rw[Yc];by_cases i:R.map U8=[]
     .rw[i,S',Wy];(try simp);(repeat (rw[Ν];simp));(try simp);simp[η,Yu]
     .rw[R8 i,YZ i];(try simp);(repeat (rw[Ν];simp));(try simp);simp[QI,N6,D])
    refine Τ ?_;refine W.to (C (c+1) j U) ?_ ?_
    .simp only[r,m,Yc,Xg,UA]
    .rw[r,m];simp[X5 j (show s.cells.length<2 ^ 62 by omega)]
 .have t:c=s.cells.length:=by simp at t;omega
  subst t;refine W.exit rfl ?_;refine Τ ?_;obtain⟨R,p⟩:=Η (S8 s F lower a s.cells.length);rw[<-p];refine W.to (σ':=η 21 1 (R.map U8)) (env':=[(9,Yu (R.map U8))]) ?_ rfl I;by_cases i:R.map U8=[]
  .have ad:R=[]:=by simpa using i
   rw[i,S',Wy,ad];have L:P2 []=some []:=rfl;refine XB L λv o=>?_;apply o;refine W.rt ?_;exact .refl _
  .have L:P2 (List.take R.length (R.map U8))=some R:=by
    rw[U4 I];exact wZ R
   rw[R8 i,YZ i];refine XB L λv o=>?_;apply o;refine W.drop (h:=0) (σ':=[]) (χ _) (χ _) I rfl [(4,Tc (spell R)),(5,J 0)] I ?_;refine W.rt ?_;exact .refl _
theorem Di {α:Type} [Inhabited α] {lt:α->α->Bool} (a:SWO lt) (b:∀x y,lt x y=false->lt y x=false->x=y) (l:List α):(Go.Sort.insertionSort lt l.toArray 0 l.length).toList=l.mergeSort (λx y=>!lt y x):=by
 obtain⟨c,d⟩:=insertionSort_holds (lt:=lt) a l.toArray 0 l.length (χ _) I;exact sorted_unique_holds (lt:=lt) a b l.toArray _ (by simpa using c) (by simpa using d)
theorem wY (x y:Int) (h:ltInt x y=false) (k:ltInt y x=false):x=y:=by
 simp[ltInt] at h k;omega
theorem wX:N5 12:=λl a=>by
 have h:=xq l.toArray l.length I a;rw[Di swo_ltInt wY l] at h;have e:(λx y:Int=>!ltInt y x)=λx y=>decide (x<=y):=by
  funext x y;rw[Q6];simp[ltInt]
 rw[e] at h;exact h
theorem R5 (x y:Int×Int):υ UH x y=decide (x.1<y.1\/(x.1=y.1/\x.2<y.2)):=by
 unfold υ UH;simp only[R9,R'];by_cases c:x.1<y.1
 .simp[c]
 .by_cases e:y.1<x.1
  .have:¬x.1=y.1:=U
   simp[c,e,this]
  .have a:x.1=y.1:=U
   by_cases b:x.2<y.2
   .simp[a,b]
   .by_cases d:y.2<x.2
    .simp[a,b,d]
    .simp[a,b,d]
theorem Pg:SWO (υ UH) where
 irrefl x:=by rw[R5];simp
 trans x y z h k:=by
  rw[R5] at *;simp at *;omega
 ntrans x y z h k:=by
  rw[R5] at *;simp at *;omega
theorem IY (x y:Int×Int) (h:υ UH x y=false) (k:υ UH y x=false):x=y:=by
 rw[R5] at *;simp at h k;apply Prod.ext<;>omega
abbrev X4 (x y:Int×Int):Bool:=!υ UH y x
theorem wW {l m:List (Int×Int)} (d:l.Perm m) (e:m.Pairwise λx y=>x.1<y.1\/(x.1=y.1/\x.2<y.2)):l.mergeSort X4=m:=by
 have f:∀a b c:Int×Int,X4 a b=true->X4 b c=true->X4 a c=true:=λa b c h k=>by
  simp only[X4,R5] at *;simp at *;omega
 have g:∀a b:Int×Int,(X4 a b||X4 b a)=true:=λa b=>by
  simp only[X4,R5];simp;omega
 have i:=KE (le:=X4) f g l
 have j:(l.mergeSort X4).Perm m:=(NG l X4).trans d;refine KH (le:=λa b=>X4 a b=true) (λa b _ _ h k=>?_) i (e.imp λ{a b} h=>?_) j
 .simp only[X4,R5] at h k;simp at h k;apply Prod.ext<;>omega
 .simp only[X4,R5];simp;omega
theorem wV (a:Ω) (b:ς 0 a):Ε prog 234 [.sl true 0 [],J 0,J 0,a] (.ZW []):=by
 refine Μ.body Ρ func234 rfl rfl ntmps234 rfl rfl I ?_;refine Τ ?_;refine .loop ?_;refine Τ ?_;refine Ζ rfl ?_;refine W.exit rfl ?_;exact W.nil ⟨_,rfl,Zh.refl _,rfl⟩
theorem wU (d:Nat) (a:Ω) (b:ς 0 a):Ε prog 211 [.sl true 0 [],J 0,J 0,J d,a] (.ZW []):=by
 refine Μ.body Ρ func211 rfl rfl ntmps211 rfl rfl I ?_;refine Τ ?_;refine .loop ?_;refine Τ ?_;refine Α rfl ?_;refine Z' λf e=>?_;refine Ε.c (wV a b) (ZM.refl _) (by simp[b]) I ?_;simp;(repeat (rw[Ν];simp));apply e;exact W.ret ⟨_,rfl,Zh.refl _,rfl⟩
theorem wT (a:Ω) (b:ς 0 a):Ε prog 173 [.sl true 0 [],a] (.ZW []):=by
 refine Μ.body Ρ func173 rfl rfl ntmps173 rfl rfl I ?_;have Φ:u64.wrap (0:Int)=0:=ZY;refine Τ ?_;(repeat apply Ξ);refine Y9 λf e=>?_;simp;(repeat (rw[Ν];simp[Φ]));refine Ε.d (QK 0 U) (Z6 ?_);refine Ε.c (wU (bitsLen 0) a b) (ZM.refl _) (by simp[b]) I ?_;simp;(repeat (rw[Ν];simp));apply e;exact W.nil ⟨_,rfl,Zh.refl _,rfl⟩
theorem wS (a:Ω) (b:ς 0 a):Ε prog 217 [.sl true 0 [],J 0,J 0,a] (.ZW []):=by
 refine Μ.body Ρ func217 rfl rfl ntmps217 rfl rfl I ?_;refine Τ ?_;refine .loop ?_;refine Τ ?_;refine Ζ rfl ?_;refine W.exit rfl ?_;exact W.nil ⟨_,rfl,Zh.refl _,rfl⟩
theorem wR (d:Nat) (a:Ω) (b:ς 0 a):Ε prog 182 [.sl true 0 [],J 0,J 0,J d,a] (.ZW []):=by
 refine Μ.body Ρ func182 rfl rfl ntmps182 rfl rfl I ?_;refine Τ ?_;refine .loop ?_;refine Τ ?_;refine Α rfl ?_;refine Z' λf e=>?_;refine Ε.c (wS a b) (ZM.refl _) (by simp[b]) I ?_;simp;(repeat (rw[Ν];simp));apply e;exact W.ret ⟨_,rfl,Zh.refl _,rfl⟩
theorem wQ (a:Ω) (b:ς 0 a):Ε prog 147 [.sl true 0 [],a] (.ZW []):=by
 refine Μ.body Ρ func147 rfl rfl ntmps147 rfl rfl I ?_;have Φ:u64.wrap (0:Int)=0:=ZY;refine Τ ?_;(repeat apply Ξ);refine Y9 λf e=>?_;simp;(repeat (rw[Ν];simp[Φ]));refine Ε.d (QK 0 U) (Z6 ?_);refine Ε.c (wR (bitsLen 0) a b) (ZM.refl _) (by simp[b]) I ?_;simp;(repeat (rw[Ν];simp));apply e;exact W.nil ⟨_,rfl,Zh.refl _,rfl⟩
theorem wP (a:Ω) (b:ς 0 a):Ε prog 183 [.sl true 0 [],J 0,J 0,a] (.ZW []):=by
 refine Μ.body Ρ func183 rfl rfl ntmps183 rfl rfl I ?_;refine Τ ?_;refine .loop ?_;refine Τ ?_;refine Ζ rfl ?_;refine W.exit rfl ?_;exact W.nil ⟨_,rfl,Zh.refl _,rfl⟩
theorem wO (d:Nat) (a:Ω) (b:ς 0 a):Ε prog 149 [.sl true 0 [],J 0,J 0,J d,a] (.ZW []):=by
 refine Μ.body Ρ func149 rfl rfl ntmps149 rfl rfl I ?_;refine Τ ?_;refine .loop ?_;refine Τ ?_;refine Α rfl ?_;refine Z' λf e=>?_;refine Ε.c (wP a b) (ZM.refl _) (by simp[b]) I ?_;simp;(repeat (rw[Ν];simp));apply e;exact W.ret ⟨_,rfl,Zh.refl _,rfl⟩
theorem wN (a:Ω) (b:ς 0 a):Ε prog 117 [.sl true 0 [],a] (.ZW []):=by
 refine Μ.body Ρ func117 rfl rfl ntmps117 rfl rfl I ?_;have Φ:u64.wrap (0:Int)=0:=ZY;refine Τ ?_;(repeat apply Ξ);refine Y9 λf e=>?_;simp;(repeat (rw[Ν];simp[Φ]));refine Ε.d (QK 0 U) (Z6 ?_);refine Ε.c (wO (bitsLen 0) a b) (ZM.refl _) (by simp[b]) I ?_;simp;(repeat (rw[Ν];simp));apply e;exact W.nil ⟨_,rfl,Zh.refl _,rfl⟩
theorem Ym.struct {h id k:Nat} {σ:Ο} {t:TypeId} {l cs:κ} (c:h<=id) (d:σ[id]?=some (.cells t k [.ZT l])) (e:cs.length=l.length) (H:∀(x:Nat) (a b:Ω),l[x]?=some a->cs[x]?=some b->Ym h σ a b):Ym h σ (.Κ id 1 0 0) (.Θ cs):=
 .Κ c d rfl rfl (by simp[Ω.cells,e]) λx a b f g=>H x a b (by simpa[Ω.cells] using f) g
abbrev YY (a b c:Ω):Row:=.cells 26 3 [.ZT [a,b,c]]
abbrev Yy (r:Int×Int):Ω×Ω:=(Zj r,Z4 true)
theorem wM (x y:Int×Int):aeqv ZS 112 (Zj x) (Zj y)=some (decide (x=y)):=by
 simp[aeqv,Vb,TQ];rw[Q6];simp[Prod.ext_iff]
theorem wL (r:Int×Int):∀(l:List (Int×Int)) (n:Nat),r∉l->Wc ZS 112 (Zj r) (l.map Yy) n=some none:=by
 intro l
 induction l with
 | nil=>intro n _;rfl
 | cons x l a=>
  intro n h;simp only[Xg,Wc];have b:¬r=x:=λe=>h (by simp[e]);have:=wM r x;rw[this,decide_eq_false b];exact a (n+1) λc=>h (by simp[c])
def Vq (i j:Nat):List (Int×Int):=(List.range j).map λy:Nat=>((i:Int)-1,(y:Int)-1)
def Xn (n i:Nat):List (Int×Int):=(List.range i).flatMap λx=>Vq x (n+1)
def Rw (n:Nat):List (Int×Int):=Xn n (n+1)
theorem Dh (i j:Nat):Vq i (j+1)=Vq i j++[((i:Int)-1,(j:Int)-1)]:=by simp[Vq,V0]
theorem IX (n i:Nat):Xn n (i+1)=Xn n i++Vq i (n+1):=by simp[Xn,V0]
theorem IW {i j:Nat} {r:Int×Int} (h:r∈Vq i j):r.1=(i:Int)-1/\r.2<(j:Int)-1:=by
 unfold Vq at h;obtain⟨y,a,rfl⟩:=Zq.1 h;have:=Ws.1 a;exact⟨rfl,by simp;omega⟩
theorem Dg {n i:Nat} {r:Int×Int} (h:r∈Xn n i):r.1<(i:Int)-1:=by
 unfold Xn at h;obtain⟨x,a,b⟩:=Qf.1 h;have:=Ws.1 a;have:=(IW b).1;omega
def X3 (s:ψ) (p:Int×Int) (c:Nat):List (Int×Int):=(Rw s.Ι.length).filter λr=>s.Uu p r c
theorem wK (i j:Nat):(Vq i j).Pairwise λx y=>x.1<y.1\/(x.1=y.1/\x.2<y.2):=by
 induction j with
 | zero=>simp[Vq]
 | succ j d=>
  rw[Dh,NJ];refine⟨d,I,λa e b c=>?_⟩;simp at c;subst c;have:=IW e;exact .inr ⟨this.1,by simpa using this.2⟩
theorem Df (n i:Nat):(Xn n i).Pairwise λx y=>x.1<y.1\/(x.1=y.1/\x.2<y.2):=by
 induction i with
 | zero=>simp[Xn]
 | succ i c=>
  rw[IX,NJ];refine⟨c,wK _ _,λa d b e=>.inl ?_⟩;have:=Dg d;have:=(IW e).1;omega
theorem wJ (s:ψ) (p:Int×Int) (c:Nat):(X3 s p c).Pairwise λx y=>x.1<y.1\/(x.1=y.1/\x.2<y.2):=(Df _ _).filter _
def IV (N:Nat):Prop:=∀(l:List (Int×Int)),l.length<=N->Μ prog 173 [.ms 0 l.length 0 l.length,.fn (.func 174) [] []] [.cells 112 2 (l.map Zj)] (λr s=>r=.ZW []/\s=[.cells 112 2 ((l.mergeSort X4).map Zj)]) (λ_ _=>False)
theorem wI:IV 12:=λl a=>by
 have h:=xw l.toArray l.length I a (.fn (.func 174) [] []) UH (by simp[Va]) (λx y=>Ε.p (Dx x y) (ZM.refl _) I I);rw[Di Pg IY l] at h;exact h
def Xm (q:Int×Int->Bool) (n i j:Nat):List (Int×Int):=(Xn n i++Vq i j).filter q
theorem Lt {q:Int×Int->Bool} {n:Nat}:Xm q n 0 0=[]:=by simp[Xm,Xn,Vq]
theorem IU {q:Int×Int->Bool} {n i:Nat}:Xm q n i (n+1)=Xm q n (i+1) 0:=by simp[Xm,IX,Vq]
theorem IT {q:Int×Int->Bool} {n i j:Nat}:Xm q n i (j+1)=Xm q n i j++if q ((i:Int)-1,(j:Int)-1) then [((i:Int)-1,(j:Int)-1)] else []:=by
 unfold Xm;rw[Dh,<-Vi,List.filter_append];simp[Kr]
theorem Ls {q:Int×Int->Bool} {n:Nat}:Xm q n (n+1) 0=(Rw n).filter q:=by simp[Xm,Vq,Rw]
theorem wH {q:Int×Int->Bool} {n i j:Nat}:((i:Int)-1,(j:Int)-1)∉Xm q n i j:=by
 unfold Xm;rw[Vh,Wd];rintro⟨h|h,_⟩
 .have:=Dg h;simp at this
 .have:=(IW h).2;simp at this
def S7 (l:κ):Ω:=if l.isEmpty then .sl true 0 [] else .ms 3 l.length 0 l.length
def YS (l:κ):Ο:=if l.isEmpty then [] else [.cells 111 1 l]
abbrev Wg:Row:=.cells 110 3 [.ZT [J 0,J 0,.sl true 0 []]]
abbrev WZ (p:Int×Int) (L:κ):Row:=.cells 110 3 [.ZT [J p.1,J p.2,S7 L]]
def ZV (id:Nat) (l:κ):Ω:=if l.isEmpty then .sl true 0 [] else .ms id l.length 0 l.length
theorem XR {id:Nat} {l:κ} (h:l≠[]):ZV id l=.ms id l.length 0 l.length:=by unfold ZV;rw[if_neg (by simpa using h)]
theorem wG {l:κ}:ς ((YS l).length+3) (S7 l):=by
 unfold S7 YS;cases l.isEmpty<;>simp[Ux]
theorem wF {h:Nat} {l:κ} (d:∀e∈l,∀a∈e.cells,ς 0 a):∀r∈YS l,X6 h r:=by
 intro r b;unfold YS at b;cases c:l.isEmpty with
 | true=>rw[c] at b;simp at b
 | false=>
  rw[c] at b;simp at b;subst b;exact λe f a g=>(d e f a g).mono (χ _)
theorem X6.mono {h f:Nat} {r:Row} (c:X6 h r) (d:h<=f):X6 f r:=by
 cases r with
 | cells t k l=>exact λe b a g=>(c e b a g).mono d
 | map es=>exact λe b=>⟨(c e b).1.mono d,(c e b).2.mono d⟩
 | iter m left i=>exact⟨Kz c.1 d,λe b=>⟨(c.2.1 e b).1.mono d,(c.2.1 e b).2.mono d⟩,λe b=>⟨(c.2.2 e b).1.mono d,(c.2.2 e b).2.mono d⟩⟩
 | dead=>trivial
theorem IS {h id:Nat} {l:κ} (b:l≠[]->id<h):ς h (ZV id l):=by
 by_cases a:l=[]
 .subst a;unfold ZV;simp
 .rw[XR a];exact Ux.2 (b a)
theorem De {α:Type} (l:List α) (i:Nat) (h:i<l.length):(l[i]::l.eraseIdx i).Perm l:=by
 induction l generalizing i with
 | nil=>simp at h
 | cons a l b=>
  cases i with
  | zero=>exact .refl _
  | succ i=>
   simp only[List.getElem_cons_succ,List.eraseIdx_cons_succ];exact(List.Perm.swap _ _ _).trans (.cons a (b i (by simpa using h)))
theorem PL {h id k:Nat} {t:TypeId} {l:κ} {σ:Ο} (c:h<=id) (d:l≠[]->σ[id]?=some (.cells t k l)) (f:∀e∈l,∀a∈e.cells,ς h a):Ym h σ (ZV id l) (YC k l):=by
 by_cases b:l=[]
 .subst b;exact .low (by unfold ZV;simp)
 .have e:YC k l=.sl false k l:=by unfold YC;rw[if_neg (by simpa using b)]
  rw[XR b,e];exact .own c (d b) rfl f
theorem IQ (k:Nat) (m:κ):∃b kk l,YC k m=.sl b kk l:=by
 unfold YC;split
 .exact⟨_,_,_,rfl⟩
 .exact⟨_,_,_,rfl⟩
theorem Dd {α b:Type} (f:α->b) (l:List α) (i:Nat):(l.map f).eraseIdx i=(l.eraseIdx i).map f:=by
 induction l generalizing i with
 | nil=>rfl
 | cons a l c=>cases i<;>simp[c]
theorem wE (s:ψ) (an:s.small) (aY:s.Ι.length<2 ^ 20) (p:Int×Int) (hv:∀c∈s.cells,∀x∈c,0<=x.Ys/\x.Ys<s.Δ.length) (N:Nat) (aZ:N<2 ^ 20) (aB:IV N) (Q:∀c,c<s.cells.length->(X3 s p c).length<=N) :
  Ε prog 143 [Yz s,Zj p] (YN ⟨p.1,p.2,(List.range s.cells.length).map (X3 s p)⟩):=by
 refine Μ.body Ρ func143 rfl rfl ntmps143 rfl rfl I ?_
 repeat apply Ξ
 refine Y4 (A:=[4]) Ρ λw g=>Z6 ?_;apply g
 repeat apply Ξ
 refine Y4 (A:=[5]) Ρ λw g=>Z6 ?_;apply g
 repeat apply Ξ
 refine Z' λw g=>?_;apply g;refine Τ ?_;have a0:s.cells.length<2 ^ 30:=an.2.2.1;refine W.iter (λc:Nat=>c<=s.cells.length) (λc=>[(2,.Θ [ν s.Ι,ξ s.Δ,Z2 s.cells]),(3,.Θ [J p.1,J p.2]),(4,.Κ 0 1 0 0),(5,.Κ 1 1 0 0),(6,.mp 2),(19,J s.cells.length),(20,J c)])
  (λc=>Wg::WZ p ((List.range c).map λc=>YC 2 ((X3 s p c).map Zj))::.map []::YS ((List.range c).map λc=>YC 2 ((X3 s p c).map Zj))) (λc=>s.cells.length-c) 0 (χ _) (by simp[S7,YS]) I (λc ad H=>?_)
 obtain⟨L,M⟩:=Η ((List.range c).map λc=>YC 2 ((X3 s p c).map Zj));refine W.to (σ':=Wg::WZ p L::.map []::YS L) (env':=[(2,.Θ [ν s.Ι,ξ s.Δ,Z2 s.cells]),(3,.Θ [J p.1,J p.2]),(4,.Κ 0 1 0 0),(5,.Κ 1 1 0 0),(6,.mp 2),(19,J s.cells.length),(20,J c)]) ?_ (by rw[M]) I;refine Τ ?_;refine W.Yv rfl (λad=>?_) (λad=>?_)
 .have ae:c<s.cells.length:=by simpa using ad
  refine Τ ?_;obtain⟨n,S⟩:=Η s.Ι.length;have a1:n<2 ^ 20:=U;obtain⟨q,ao⟩:=Η (λr=>s.Uu p r c:Int×Int->Bool);have O:∀e∈L,∀a∈e.cells,ς 0 a:=by
   rw[M];intro e m a o;obtain⟨x,_,rfl⟩:=Zq.1 m;unfold YC at o;split at o<;>simp[Ω.cells] at o<;>subst o<;>simp
  have T:∀(u:List (Int×Int)) (h:Nat),X6 h (.map (u.map Yy)):=λu h e m=>by
   obtain⟨x,_,rfl⟩:=Zq.1 m;simp
  have D:∀u:List (Int×Int),∀r∈Wg::WZ p L::.map (u.map Yy)::YS L,X6 (Wg::WZ p L::.map (u.map Yy)::YS L).length r:=λu r B=>by
   simp only[Y6] at B;rcases B with rfl|rfl|rfl|B
   .simp[X6,Ω.cells]
   .simp[X6,Ω.cells];exact wG
   .exact T u _
   .exact wF O r B
  refine W.iter (λi:Nat=>i<=n+1) (λi=>[(2,.Θ [ν s.Ι,ξ s.Δ,Z2 s.cells]),(3,.Θ [J p.1,J p.2]),(4,.Κ 0 1 0 0),(5,.Κ 1 1 0 0),(6,.mp 2),(19,J s.cells.length),(20,J c),(7,J c),(8,J ((i:Int)-1))])
   (λi=>Wg::WZ p L::.map ((Xm q n i 0).map Yy)::YS L) (λi=>n+1-i) 0 (χ _) (by rw[Lt];rfl) I (λi hi V=>?_)
  refine Τ ?_;by_cases a2:i<n+1
  .refine Α (by simp[<-S];omega) ?_;refine Τ ?_;refine W.iter (λj:Nat=>j<=n+1) (λj=>[(2,.Θ [ν s.Ι,ξ s.Δ,Z2 s.cells]),(3,.Θ [J p.1,J p.2]),(4,.Κ 0 1 0 0),(5,.Κ 1 1 0 0),(6,.mp 2),(19,J s.cells.length),(20,J c),(7,J c),(8,J ((i:Int)-1)),(9,J ((j:Int)-1))])
    (λj=>Wg::WZ p L::.map ((Xm q n i j).map Yy)::YS L) (λj=>n+1-j) 0 (χ _) rfl I (λj a3 ap=>?_)
   refine Τ ?_;by_cases a4:j<n+1
   .refine Α (by simp[<-S];omega) ?_
    repeat apply Ξ
    obtain⟨u,af⟩:=Η (Xm q n i j);refine W.to (σ':=Wg::WZ p L::.map (u.map Yy)::YS L) (env':=[(2,.Θ [ν s.Ι,ξ s.Δ,Z2 s.cells]),(3,.Θ [J p.1,J p.2]),(4,.Κ 0 1 0 0),(5,.Κ 1 1 0 0),(6,.mp 2),(19,J s.cells.length),(20,J c),(7,J c),(8,J ((i:Int)-1)),(9,J ((j:Int)-1))]) ?_ (by rw[af]) I;have aC:Wc ZS 112 (.ZT [J ((i:Int)-1),J ((j:Int)-1)]) (u.map Yy) 0=some none:=wL _ u 0 (by rw[af];exact wH);have al:∀es,SK (Wg::WZ p L::.map es::YS L) 2=true:=λes=>by unfold YS;cases L.isEmpty<;>simp[SK]
    refine Y4 (A:=[10]) Ρ λw g=>Z6 ?_;apply g;refine W.U9 (σ0:=Wg::WZ p L::.map (u.map Yy)::YS L) (χ _) (D u) I [(10,.Θ [J ((i:Int)-1),J ((j:Int)-1)]),(2,.Θ [ν s.Ι,ξ s.Δ,Z2 s.cells]),(3,.Θ [J p.1,J p.2]),(4,.Κ 0 1 0 0),(5,.Κ 1 1 0 0),(6,.mp 2),(19,J s.cells.length),(20,J c),(7,J c),(8,J ((i:Int)-1)),(9,J ((j:Int)-1))] (by simp[WV,PY]) ?_;have aq:=Yg (show j<2 ^ 62 by omega);refine Z' λw g=>?_;refine Ε.c (xD s an p ((i:Int)-1,(j:Int)-1) c ae (hv _ (YF ae)) (by simp;omega) (by simp;omega)) (ZM.refl _) I I ?_;simp;(repeat (rw[Ν];simp));apply g;have aD:s.Uu p ((i:Int)-1,(j:Int)-1) c=q ((i:Int)-1,(j:Int)-1):=by rw[ao]
    rw[aD];have ag:=IT (q:=q) (n:=n) (i:=i) (j:=j);cases ar:q ((i:Int)-1,(j:Int)-1)
    .refine Ζ rfl ?_;refine Γ aq ?_;rw[ar] at ag;refine W.to (ap (j+1) U U) ?_ ?_
     .rw[ag,af];simp
     .simp
    .refine Α rfl ?_
     repeat apply Ξ
     refine Y9 λw g=>?_;simp;(repeat (rw[Ν];simp[aC,al,-SK]));apply g;refine Γ aq ?_;rw[ar] at ag;refine W.to (ap (j+1) U U) ?_ ?_
     .rw[ag,af];simp
     .simp
   .refine Ζ (by simp[<-S];omega) ?_;refine W.exit rfl ?_;have aE:j=n+1:=U;subst aE;refine Τ ?_;refine W.to (V (i+1) U U) ?_ ?_
    .rw[IU]
    .have:=Yg (show i<2 ^ 62 by omega);simp[this]
  .refine Ζ (by simp[<-S];omega) ?_;refine W.exit rfl ?_;have aF:i=n+1:=U;subst aF;obtain⟨d,ah⟩:=Η (X3 s p c);have aG:Xm q n (n+1) 0=d:=by rw[Ls,ah,ao,S];rfl
   rw[aG];have aH:d.length<=N:=by rw[ah];exact Q c ae
   refine W.to (σ':=Wg::WZ p L::.map (d.map Yy)::YS L) (env':=[(2,.Θ [ν s.Ι,ξ s.Δ,Z2 s.cells]),(3,.Θ [J p.1,J p.2]),(4,.Κ 0 1 0 0),(5,.Κ 1 1 0 0),(6,.mp 2),(19,J s.cells.length),(20,J c),(7,J c)]) ?_ rfl I;refine Τ ?_;refine W.iter (λx:List (Int×Int)×List (Int×Int)×Option (Ω×Ω)=>(x.1++x.2.1).Perm d/\(x.2.2=none\/∃y,x.2.2=some (Yy y)))
    (λx=>[(2,.Θ [ν s.Ι,ξ s.Δ,Z2 s.cells]),(3,.Θ [J p.1,J p.2]),(4,.Κ 0 1 0 0),(5,.Κ 1 1 0 0),(6,.mp 2),(19,J s.cells.length),(20,J c),(7,J c),(11,ZV ((YS L).length+1+1+1+1) (x.1.map Zj)),(50,.it ((YS L).length+1+1+1))])
    (λx=>Wg::WZ p L::.map (d.map Yy)::(YS L++(.iter 2 (x.2.1.map Yy) x.2.2::η 112 2 (x.1.map Zj)))) (λx=>x.2.1.length) ([],d,none) ⟨I,.inl rfl⟩ (by simp[η]) (by simp[ZV]) (λx ai X=>?_)
   obtain⟨K,R,aj⟩:=x;obtain⟨ak,aI⟩:=ai;simp only at ak aI
   repeat apply Ξ
   cases R with
   | nil=>
    refine Z' λw g=>?_;apply g
    repeat apply Ξ
    refine Ζ rfl ?_;refine W.exit rfl ?_;have E:K.Perm d:=by simpa using ak
    repeat apply Ξ
    have au:K.length<=N:=by rw[E.length_eq];exact aH
    have aJ:K.mergeSort X4=d:=by
     rw[ah] at E ⊢;exact wW E (wJ s p c)
    refine W.XV (A:=[]) Ρ [(2,.Θ [ν s.Ι,ξ s.Δ,Z2 s.cells]),(3,.Θ [J p.1,J p.2]),(4,.Κ 0 1 0 0),(5,.Κ 1 1 0 0),(6,.mp 2),(19,J s.cells.length),(20,J c),(11,ZV ((YS L).length+1+1+1+1) (d.map Zj))]
     (Wg::WZ p L::.map (d.map Yy)::(YS L++(.iter 2 [] aj::η 112 2 (d.map Zj)))) ?_ (by
     clear X V H D T Q hv O;by_cases f:K=[]
     .subst f;have aK:d=[]:=E.symm.eq_nil;rw[aK];simp only[UA,Wy,show ZV ((YS L).length+1+1+1+1) []=.sl true 0 [] from rfl];simp;(repeat (rw[Ν];simp));refine Ε.c (wT _ (by simp[Va])) (ZM.refl _) (by simp[Va]) I ?_;simp;(repeat (rw[Ν];simp));(try simp)
     .have Y:K.map Zj≠[]:=by simpa using f
      have aL:d≠[]:=λe=>f (by rw[e] at E;exact E.eq_nil)
      have av:d.map Zj≠[]:=by simpa using aL
      rw[XR Y,YZ Y,XR av,YZ av];simp;(repeat (rw[Ν];simp));have aw:ς 0 (.fn (.func 174) [] []):=by simp[Va]
      refine Μ.one (aB K au) ((YS L).length+1+1+1+1) I (SH PR) (SH PR) (by simp[UG,aw.Wh 1]) (by simp[XC]) (by simp[UF,aw.Yx [(YS L).length+1+1+1+1]]) ?_;simp[Yx,WM];(repeat (rw[Ν];simp));(try simp[aJ,E.length_eq]))
    refine W.cut ((YS L).length+1+1+1) (χ _) [(2,.Θ [ν s.Ι,ξ s.Δ,Z2 s.cells]),(3,.Θ [J p.1,J p.2]),(4,.Κ 0 1 0 0),(5,.Κ 1 1 0 0),(6,.mp 2),(19,J s.cells.length),(20,J c),(11,YC 2 (d.map Zj))] I (λid r ax B=>?_) ?_ ?_
    .refine D d r ?_;have e:Wg::WZ p L::.map (d.map Yy)::(YS L++(.iter 2 [] aj::η 112 2 (d.map Zj)))=(Wg::WZ p L::.map (d.map Yy)::YS L)++(.iter 2 [] aj::η 112 2 (d.map Zj)):=I;rw[e,YK (by simpa using ax)] at B;exact Zi B
    .have aM:Ym ((YS L).length+1+1+1) (Wg::WZ p L::.map (d.map Yy)::(YS L++(.iter 2 [] aj::η 112 2 (d.map Zj)))) (ZV ((YS L).length+1+1+1+1) (d.map Zj)) (YC 2 (d.map Zj)):=PL (t:=112) U (λZ=>by rw[YZ Z];simp) (λe m a o=>by
      obtain⟨z,_,rfl⟩:=Zq.1 m;exact(PR z a o).mono (χ _))
     intro z f;simp only[Y6,Ya,or_false] at f;rcases f with rfl|rfl|rfl|rfl|rfl|rfl|rfl|rfl
     all_goals first|exact aM|exact .low (by simp[WV,PY])
    .obtain⟨C,aa⟩:=Η (L++[YC 2 (d.map Zj)]);have a5:L.length<2 ^ 30:=by rw[M];simp;omega
     refine W.to (σ':=Wg::WZ p L::.map (d.map Yy)::YS L) (env':=[(2,.Θ [ν s.Ι,ξ s.Δ,Z2 s.cells]),(3,.Θ [J p.1,J p.2]),(4,.Κ 0 1 0 0),(5,.Κ 1 1 0 0),(6,.mp 2),(19,J s.cells.length),(20,J c),(11,YC 2 (d.map Zj))]) ?_ I I
     repeat apply Ξ
     refine W.XV (A:=[65]) Ρ [(2,.Θ [ν s.Ι,ξ s.Δ,Z2 s.cells]),(3,.Θ [J p.1,J p.2]),(4,.Κ 0 1 0 0),(5,.Κ 1 1 0 0),(6,.mp 2),(19,J s.cells.length),(20,J c)] (Wg::WZ p C::.map (d.map Yy)::YS C) ?_ (by
      clear X V H D T Q hv;obtain⟨ay,az,sl,aN⟩:=IQ 2 (d.map Zj);rw[aN] at aa ⊢;by_cases f:L=[]
      .have aO:C=[.sl ay az sl]:=by rw[aa,f];rfl
       rw[aO];subst f;simp only[WZ,YS,S7,List.isEmpty_nil,List.isEmpty_cons,if_true,if_false];(try simp);(repeat (rw[Ν];simp));(try simp)
      .have ab:L.length<=4294967295:=U
       have aP:S7 L=.ms 3 L.length 0 L.length:=by unfold S7;rw[if_neg (by simpa using f)]
       have aQ:YS L=[.cells 111 1 L]:=by unfold YS;rw[if_neg (by simpa using f)]
       have aR:S7 C=.ms 3 (L.length+1) 0 (L.length+1):=by rw[aa];unfold S7;rw[if_neg I];simp
       have aS:YS C=[.cells 111 1 (L++[.sl ay az sl])]:=by rw[aa];unfold YS;rw[if_neg I]
       simp only[WZ];rw[aP,aQ,aR,aS];(try simp);(repeat (rw[Ν];simp[ab]));(try simp[ab]))
     have al:∀es,SK (Wg::WZ p C::.map es::YS C) 2=true:=λes=>by unfold YS;cases C.isEmpty<;>simp[SK]
     repeat apply Ξ
     refine Y9 λw g=>?_;simp;(repeat (rw[Ν];simp[al,-SK]));apply g;refine Τ ?_;have aT:C=(List.range (c+1)).map λc=>YC 2 ((X3 s p c).map Zj):=by rw[aa,M,ah,V0];simp
     refine W.to (H (c+1) U U) ?_ ?_
     .rw[<-aT]
     .simp[X5 ae (show s.cells.length<2 ^ 62 by omega)]
   | cons y R=>
    refine Z' λw g=>?_;intro i hi;obtain⟨x,ai⟩:=Η ((y::R)[i]'(by simpa using hi));have aU:(Yy y::List.map Yy R)[i]?=some (Yy x):=by
     have:(List.map Yy (y::R))[i]?=some (Yy x):=by
      rw[YU,δ (by simpa using hi),ai];rfl
     simpa using this
    have aV:(Yy y::List.map Yy R).eraseIdx i=((y::R).eraseIdx i).map Yy:=by
     exact Dd Yy (y::R) i
    rw[aU,aV];simp;(repeat (rw[Ν];simp));apply g
    repeat apply Ξ
    refine Α rfl ?_
    repeat apply Ξ
    refine Y4 (A:=[12]) Ρ λw g=>Z6 ?_;apply g;have am:∀r∈Wg::WZ p L::.map (d.map Yy)::(YS L++(.iter 2 (((y::R).eraseIdx i).map Yy) (some (Yy x))::η 112 2 (K.map Zj))),X6 (Wg::WZ p L::.map (d.map Yy)::(YS L++(.iter 2 (((y::R).eraseIdx i).map Yy) (some (Yy x))::η 112 2 (K.map Zj)))).length r:=by
     intro r B;have v:r∈Wg::WZ p L::.map (d.map Yy)::YS L\/r∈(.iter 2 (((y::R).eraseIdx i).map Yy) (some (Yy x))::η 112 2 (K.map Zj)):=by
      have:r∈(Wg::WZ p L::.map (d.map Yy)::YS L)++(.iter 2 (((y::R).eraseIdx i).map Yy) (some (Yy x))::η 112 2 (K.map Zj)):=by simpa using B
      exact Wd.1 this
     rcases v with v|v
     .exact X6.mono (D d r v) I
     .rcases Y6.1 v with rfl|v
      .refine⟨I,λe m=>?_,λe m=>?_⟩
       .obtain⟨z,_,rfl⟩:=Zq.1 m;simp
       .cases m;simp
      .unfold η at v;split at v
       .simp at v
       .simp at v;subst v;intro e m a o;obtain⟨z,_,rfl⟩:=Zq.1 m;simp[Ω.cells] at o;rcases o with rfl|rfl<;>simp
    refine W.to (σ':=(Wg::WZ p L::.map (d.map Yy)::(YS L++(.iter 2 (((y::R).eraseIdx i).map Yy) (some (Yy x))::η 112 2 (K.map Zj))))++[.cells 112 2 [Zj x]]) (env':=[(12,.Κ (Wg::WZ p L::.map (d.map Yy)::(YS L++(.iter 2 (((y::R).eraseIdx i).map Yy) (some (Yy x))::η 112 2 (K.map Zj)))).length 1 0 0),(2,.Θ [ν s.Ι,ξ s.Δ,Z2 s.cells]),(3,.Θ [J p.1,J p.2]),(4,.Κ 0 1 0 0),(5,.Κ 1 1 0 0),(6,.mp 2),(19,J s.cells.length),(20,J c),(7,J c),(11,ZV ((YS L).length+1+1+1+1) (K.map Zj)),(50,.it ((YS L).length+1+1+1))]) ?_ I I;refine W.U9 (σ0:=Wg::WZ p L::.map (d.map Yy)::(YS L++(.iter 2 (((y::R).eraseIdx i).map Yy) (some (Yy x))::η 112 2 (K.map Zj)))) (χ _) am I [(12,.Θ [J x.1,J x.2]),(2,.Θ [ν s.Ι,ξ s.Δ,Z2 s.cells]),(3,.Θ [J p.1,J p.2]),(4,.Κ 0 1 0 0),(5,.Κ 1 1 0 0),(6,.mp 2),(19,J s.cells.length),(20,J c),(7,J c),(11,ZV ((YS L).length+1+1+1+1) (K.map Zj)),(50,.it ((YS L).length+1+1+1))] (by
     have aW:=IS (h:=(YS L).length+((η 112 2 (K.map Zj)).length+1)+1+1+1) (id:=(YS L).length+1+1+1+1) (l:=K.map Zj) (λZ=>by rw[YZ Z];simp);clear X V H D am T Q hv O;simp[WV,PY,x4,aW]
     ) ?_
    repeat apply Ξ
    have au:K.length<2 ^ 20:=by
     have:=ak.length_eq;simp at this;omega
    refine W.XV (A:=[58]) Ρ [(2,.Θ [ν s.Ι,ξ s.Δ,Z2 s.cells]),(3,.Θ [J p.1,J p.2]),(4,.Κ 0 1 0 0),(5,.Κ 1 1 0 0),(6,.mp 2),(19,J s.cells.length),(20,J c),(7,J c),(11,ZV ((YS L).length+1+1+1+1) ((K++[x]).map Zj)),(50,.it ((YS L).length+1+1+1))]
     (Wg::WZ p L::.map (d.map Yy)::(YS L++(.iter 2 (((y::R).eraseIdx i).map Yy) (some (Yy x))::η 112 2 ((K++[x]).map Zj)))) ?_ (by
     clear X V H D am T Q hv O;by_cases f:K=[]
     .subst f;simp only[UA,Wy,show ZV ((YS L).length+1+1+1+1) []=.sl true 0 [] from rfl];(try simp);(repeat (rw[Ν];simp[Wy]));(try simp[Wy]);exact⟨rfl,rfl⟩
     .have ab:K.length<=4294967295:=U
      have Y:K.map Zj≠[]:=by simpa using f
      rw[XR Y,YZ Y];(try simp);(repeat (rw[Ν];simp[ab]));(try simp[ab]);rw[YZ I,XR I];simp)
    refine Τ ?_;have aA:(x::(y::R).eraseIdx i).Perm (y::R):=by
     rw[ai];exact De _ _ _
    refine W.to (X (K++[x],(y::R).eraseIdx i,some (Yy x)) ⟨?_,.inr ⟨x,rfl⟩⟩ ?_) I I
    .simp only[Vi,List.singleton_append];exact(aA.append_left K).trans ak
    .have:=aA.length_eq;simp at this;simp only[List.length_cons];omega
 .have aX:c=s.cells.length:=by simp at ad;omega
  subst aX;refine W.exit rfl ?_
  repeat apply Ξ
  clear H;have O:∀e∈L,∀a∈e.cells,ς 0 a:=by
   rw[M];intro e m a o;obtain⟨x,_,rfl⟩:=Zq.1 m;unfold YC at o;split at o<;>simp[Ω.cells] at o<;>subst o<;>simp
  refine W.XV (A:=[]) Ρ [(4,.Κ 0 1 0 0)] (.cells 110 3 [.ZT [J p.1,J p.2,S7 L]]::WZ p L::.map []::YS L) ?_ (by
   simp only[WZ];by_cases f:L=[]
   .rw[show S7 L=.sl true 0 [] by rw[f];rfl];(try simp);(repeat (rw[Ν];simp));(try simp)
   .rw[show S7 L=.ms 3 L.length 0 L.length by unfold S7;rw[if_neg (by simpa using f)],show YS L=[.cells 111 1 L] by unfold YS;rw[if_neg (by simpa using f)]];(try simp);(repeat (rw[Ν];simp));(try simp))
  refine W.cut 0 (χ _) [(4,.Θ [J p.1,J p.2,YC 1 L])] (χ _) (λid r ax=>U) (λz f=>by
   simp at f;subst f;exact Ym.struct (k:=3) (t:=110) (l:=[J p.1,J p.2,S7 L]) (χ _) rfl rfl (λx a a6 F P=>by
    match x with
    | 0=>simp at F P;subst F;subst P;exact .low I
    | 1=>simp at F P;subst F;subst P;exact .low I
    | 2=>
     simp at F P;subst F;subst P;exact PL (id:=3) (t:=111) (l:=L) (χ _) (λZ=>by
      have:YS L=[.cells 111 1 L]:=by unfold YS;rw[if_neg (by simpa using Z)]
      simp[this]) O
    | x+3=>simp at F)) ?_
  refine Τ ?_;refine W.rt ?_;refine Zh.ZT (ZM.cons (.refl _) (ZM.cons (.refl _) (ZM.cons (.trans Zh.acc ?_) .nil)));rw[M];show Zh _ (.sl false 1 (((List.range s.cells.length).map (X3 s p)).map UZ));rw[Sq];refine Zh.map λx _=>.one Zh.acc ?_ rfl;obtain⟨b,k,l,m⟩:=IQ 2 ((X3 s p x).map Zj);rw[m];rfl
structure T7 where
 c:Int
 n:Int
 least:Int
 some:Bool
def T7.take (b:T7) (c n m:Int):T7:=if b.some=false\/m<b.least then⟨c,n,m,true⟩ else b
abbrev T6 (b:T7):Ω:=.ZT [J b.c,J b.n,J b.least,Z4 b.some]
theorem wD (b:T7) (c n m:Int):Μ prog 76 [.Κ 0 1 0 0,.ZT [J c,J n],J m] [.cells 104 4 [T6 b]] (λr s=>r=.ZW []/\s=[.cells 104 4 [T6 (b.take c n m)]]) (λ_ _=>False):=by
 obtain⟨d,f,a,g⟩:=b;refine Μ.body Ρ func76 rfl rfl ntmps76 rfl rfl I ?_;refine Τ ?_;cases g
 .have e:T7.take ⟨d,f,a,false⟩ c n m=⟨c,n,m,true⟩:=by simp[T7.take]
  rw[e];refine Τ ?_;refine Α rfl ?_;refine Τ ?_;exact W.nil ⟨_,rfl,rfl,rfl⟩
 .refine Τ ?_;by_cases h:m<a
  .have e:T7.take ⟨d,f,a,true⟩ c n m=⟨c,n,m,true⟩:=by simp[T7.take,h]
   rw[e];refine Α (by simp[h]) ?_;refine Τ ?_;exact W.nil ⟨_,rfl,rfl,rfl⟩
  .have e:T7.take ⟨d,f,a,true⟩ c n m=⟨d,f,a,true⟩:=by simp[T7.take,h]
   rw[e];refine Ζ (by simp[h]) ?_;refine Τ ?_;exact W.nil ⟨_,rfl,rfl,rfl⟩
abbrev VR (e:Int×Int):Ω×Ω:=(J e.1,J e.2)
def Pf:List (Int×Int)->Int->Int->List (Int×Int)
 | [],k,n=>[(k,i64.wrap (0+n))]
 | e::r,k,n=>if k=e.1 then(k,i64.wrap (e.2+n))::r else e::Pf r k n
theorem wC (k n:Int):∀(m:List (Int×Int)) (d:Nat),(Wc ZS 113 (J k) (m.map VR) d=some none/\Pf m k n=m++[(k,i64.wrap (0+n))])\/∃i v,i<m.length/\Wc ZS 113 (J k) (m.map VR) d=some (some (d+i,J v))/\Pf m k n=m.set i (k,i64.wrap (v+n)):=by
 intro m
 induction m with
 | nil=>intro d;exact .inl ⟨rfl,rfl⟩
 | cons e r g=>
  intro d;have a:aeqv ZS 113 (J k) (J e.1)=some (k==e.1):=by simp[aeqv,Vb,TQ,VF]
  by_cases h:k=e.1
  .refine .inr ⟨0,e.2,I,?_,by simp[Pf,h]⟩;simp only[Xg,Wc,a];simp[h]
  .have c:(k==e.1)=false:=by simpa using h
   rcases g (d+1) with⟨f,b⟩|⟨i,v,f,b,j⟩
   .refine .inl ⟨?_,by simp[Pf,h,b]⟩;simp only[Xg,Wc,a,c,cond_false];exact f
   .refine .inr ⟨i+1,v,by simp;omega,?_,by simp[Pf,h,j]⟩;simp only[Xg,Wc,a,c,cond_false];rw[b];have:d+1+i=d+(i+1):=U;rw[this]
end Go.TL
