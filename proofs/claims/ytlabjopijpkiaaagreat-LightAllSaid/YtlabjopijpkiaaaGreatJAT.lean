import Derived.Carry
import Derived.ChangeSlices
import Derived.Conc.HoldsTime
import Derived.OpenShut
import Derived.Sort.LotC
import Derived.Sort.LotD5
import Derived.Sort.Walk13a
import Derived.Test.YtlabjopijpkiaaaGreatJAS
import Derived.Test.YtlabjopijpkiaaaGreatRows
set_option maxHeartbeats 16000000
set_option maxRecDepth 20000
set_option linter.unusedSectionVars false
set_option linter.unusedSimpArgs false
set_option linter.unusedVariables false
namespace Go.TL
open Go.IntWalk (i64_in)
open Go.IntKind (i64 u64)
open Go.Proofs.Tryz
open Go.Sort (Hint bitsLen breakStep heapBuild heapPop partEqLoop partEqLoop_eq partLoop partLoop_eq reverseLoop scanDown scanDown_spec scanSorted scanUp scanUp_spec shiftDown shiftUp swp)
open Go.Conc Go.ConcM Go.Proofs
open Go.ChangeShapes Go.WideShapes Go.ChangeAt Go.RowKit
theorem FP:ownKnob prog.godebug=none:=by kernel_rfl
theorem Xj.below {W w:World} (h:Xj (λ_ _=>False) (λ_=>False) W w):Below W.heap.size W {w with os:=W.os}:=by
 refine⟨rfl,h.tape,h.output,h.size,λk d=>?_⟩;show w.heap[k]?=W.heap[k]?;have e:=XG d;cases a:Obj.Qe W.heap[k] with
 | false=>rw[e];exact h.Tp k _ e a id
 | true=>
  cases b:W.heap[k] with
  | cells c t f=>
   rw[b] at e;obtain⟨c',g,j,i⟩:=h.cells k c t f e;have:c'=c:=by
    apply NC ;apply VJ;intro o;have:=i o id;simpa using this
   rw[e,g,this]
  | _=>rw[b] at a;simp[Obj.Qe] at a
theorem FO:laidOutB prog=true:=by kernel_rfl
theorem FN:prog.cellsOf 3=1:=by kernel_rfl
theorem sV {W:World} {b o:Nat} {v:Value} (h:W.cell? ⟨b,o,none⟩=some v):Up W b o=some v:=by
 unfold World.cell? at h;unfold Up Χ.Ug;simp only at h ⊢;split at h
 .rename_i c t d a;rw[a];simp at h ⊢;exact h
 .cases h
theorem FM {W:World} {a:Addr} {len cap:Nat} {d:List Int} (p:len<=cap) (v:len<=d.length) (h:∀i,i<d.length->W.cell? (a.add i)=some (.int .i64 (d.getD i 0))) :
  π (Up W) [] [] (Z9 J 1 (d.take len)) (.slice (some a) len cap):=by
 by_cases r:len=0
 .subst r;exact .Wo _ _ I
 .have m:a.spot=none:=by
   have:=h 0 U;unfold World.cell? Addr.add at this;rw[if_pos rfl] at this;cases s:a.spot with
   | none=>rfl
   | some x=>
    rw[s] at this;simp at this;split at this<;>simp at this
  obtain⟨b,o,sp⟩:=a;simp only at m;subst m;have g:(d.take len).length=len:=by rw[SY];omega
  have one:∀(i:Nat) (e:Ω),((d.take len).map J)[i]?=some e->i<len/\e=J (d.getD i 0):=λi e hi=>by
   have n:i<len:=by have:=(ZA.1 hi).1;rw[Yp,g] at this;exact this
   rw[YU,Tt n,δ U] at hi;refine⟨n,?_⟩;rw[Xr,δ U];simpa using hi.symm
  have:=π.sl (S:=Up W) (B:=[]) (σ:=[]) (ex:=false) (k:=1) (l:=(d.take len).map J) b o cap (λi _=>.int .i64 (d.getD i 0)) I (by rw[Yp,g];exact p)
   (λi e hi=>by rw[(one i e hi).2];rfl) (λi e hi j c f=>by
    obtain⟨t,rfl⟩:=one i e hi
    match j with
    | 0=>
     refine sV ?_;have:=h i U;unfold Addr.add at this;rw[Sp,Nat.add_zero];split at this
     .rename_i u;subst u;exact this
     .exact this
    | j+1=>simp[Ω.cells] at f) (λi e hi j c f=>by
    obtain⟨t,rfl⟩:=one i e hi
    match j with
    | 0=>simp[Ω.cells] at f;subst f;exact .z _
    | j+1=>simp[Ω.cells] at f)
  rw[Yp,g] at this;exact this
end Go.TL
namespace Go.TL
open Go.IntWalk (i64_in)
open Go.IntKind (i64 u64)
open Go.Proofs.Tryz
open Go.Sort (Hint bitsLen breakStep heapBuild heapPop partEqLoop partEqLoop_eq partLoop partLoop_eq reverseLoop scanDown scanDown_spec scanSorted scanUp scanUp_spec shiftDown shiftUp swp)
open Go.Proofs
variable [ZX]
theorem sU {c:Prop} [Decidable c] {K} {a b:Y2} (h:c) (d:Y2.holds K a):Y2.holds K (if c then a else b):=by rw[if_pos h];exact d
theorem sT (a b:List Int) (k:a.length<2 ^ 62):Ε prog 120 [Z9 J 1 a,Z9 J 1 b] (Z4 (decide (a=b))):=by
 refine Μ.body Ρ func120 rfl rfl ntmps120 rfl rfl I ?_;refine Τ ?_;by_cases l:a.length=b.length
 case neg=>
  refine Α (by simp;omega) ?_;refine Τ ?_;refine W.rt ?_;exact .of (by simp[show ¬a=b from λh=>l (by rw[h])])
 refine Ζ (by simp;omega) ?_;refine Τ ?_;refine W.iter (λi:Nat=>i<=a.length/\∀j,j<i->a[j]?=b[j]?) (λi=>[(0,Z9 J 1 a),(1,Z9 J 1 b),(12,J a.length),(13,J i)]) (λ_=>[]) (λi=>a.length-i) 0 ⟨χ _,λj d=>U⟩ rfl I (λi hi m=>?_);obtain⟨n,f⟩:=hi;refine Τ ?_;refine W.Yv rfl (λc=>?_) (λc=>?_)
 .have c:i<a.length:=by simpa using c
  have g:i<b.length:=U;refine Τ ?_;refine XI (Υ c g) ?_;by_cases q:a[i]=b[i]
  .refine Ζ (by simp[q]) ?_;refine Τ ?_;refine W.forget _ ?_ (m (i+1) ⟨c,λj d=>?_⟩ U)
   .simp[X5 c k]
   .by_cases e:j=i
    .subst e;rw[δ c,δ g,q]
    .exact f j U
  .refine Α (by simp[q]) ?_;refine Τ ?_;refine W.rt ?_;exact .of (by simp[show ¬a=b from λh=>q (by simp[h])])
 .have c:a.length<=i:=by simpa using c
  refine W.exit rfl ?_;refine Τ ?_;have:a=b:=VJ λj=>by
   by_cases d:j<i
   .exact f j d
   .rw[Wu U,Wu U]
  refine W.rt ?_;exact .of (by simp[this])
theorem H8 {α:Type} {enc:α->Ω} {f:List α} {T:κ} {L:κ} (b:L=f.map enc++T) {j:Nat} {x:α} (h:f[j]?=some x):L[j]?=some (enc x)/\∀h:j<L.length,L[j]=enc x:=by
 have a:=(ZA.1 h).1
 have e:L[j]?=some (enc x):=by rw[b,YK (by simpa using a),YU,h];rfl
 exact⟨e,λa=>by rw[δ a] at e;exact Xk e⟩
theorem sS (l:List (Int×Int)) (n:Nat) (d:l.length=n) (aL:n<2 ^ 40) (g:Ω) (aM:ς 0 g) (ah:∀x y,XS prog g [YP x,YP y] (Z4 (decide (x=y)))):Μ prog 119 [.ms 0 n 0 n,g] [.cells 29 1 (l.map YP)]
  (λr s=>∃T:κ,(∀a∈T,a=.sl true 0 []\/∃x,a=YP x)/\(Yk l).length+T.length=n/\r=.ms 0 n 0 (Yk l).length/\s=[.cells 29 1 ((Yk l).map YP++T)]) (λ_ _=>False):=by
 refine Μ.body Ρ func119 rfl rfl ntmps119 rfl rfl I ?_;by_cases t:(n:Int)<2
 .refine Γ (Υ d t) ?_;refine Α rfl ?_;refine Γ d ?_;refine W.ret ⟨_,rfl,[],?_⟩;have e:Yk l=l:=by
   match l,d with
   | [],_=>rfl
   | [a],_=>rfl
   | a::b::l,d=>simp at d;omega
  rw[e,Vw,d];exact⟨I,I,rfl,rfl⟩
 refine Γ (Υ d t) ?_;refine Ζ rfl ?_;refine Τ ?_;refine W.iter (λk:Nat=>1<=k/\k<=n/\Yk (l.take k)=l.take k) (λk=>[(0,.ms 0 n 0 n),(1,g),(5,J k)]) (λ_=>[.cells 29 1 (l.map YP)]) (λk=>n-k) 1 ⟨γ _,U,by
  match l,d with
  | [],d=>rfl
  | a::l,d=>rfl⟩ rfl I (λk ap aq=>?_)
 obtain⟨aN,c,K⟩:=ap;refine Γ d ?_;by_cases C:k<n
 .refine Α (by simp[C]) ?_
  repeat apply Ξ
  obtain⟨p,ai⟩:∃p,k=p+1:=⟨k-1,U⟩;have ar:i64.wrap ((k:Int)-1)=(p:Int):=by have:=Yg (show p<2 ^ 62 by omega);rw[ai];simpa using this
  have au:p<n:=U
  have P:k<l.length:=U
  have av:p<l.length:=U;obtain⟨L,w⟩:=Η (l.map YP);have Q:L=l.map YP++[]:=by rw[w,Vw]
  have M:L.length=n:=by rw[w];simpa using d
  obtain⟨R,S⟩:=H8 Q (δ P);obtain⟨V,X⟩:=H8 Q (δ av);refine W.to (σ':=[.cells 29 1 L]) (env':=[(0,.ms 0 n 0 n),(1,g),(5,J k)]) ?_ (by rw[w]) I;generalize Y:l[k]=x at R S;generalize aw:l[p]=y at V X;refine W.draw (A:=[]) Ρ mixed λax Z=>V8 (Υ C (Υ ar (Υ M (Υ au (Υ R (Υ S (Υ V X))))))) ?_;refine Yl (ah x y) ?_;simp;(repeat (rw[ZK];simp));try rw[ZL]
  refine Y8 (Z _ _ ?_);have aj:Yk (l.take (k+1))=Yk (l.take k)++if x=y then [] else [x]:=by
   rw[I0 l U P U];simp only[ai,Nat.add_sub_cancel] at Y ⊢;rw[Y,aw]
  by_cases N:x=y
  .refine Α (by simp[N]) ?_
   repeat apply Ξ
   refine W.XV (A:=[]) Ρ [(0,.ms 0 n 0 n),(1,g),(5,J k),(6,.ms 0 n k (n-k))] [.cells 29 1 L] ?_ (by
    (try simp);(repeat (rw[Ν];simp[M,Sr C]));(try simp[M,Sr C]))
   refine Τ ?_;have ak:Yk (l.take (k+1))=l.take k:=by rw[aj,if_pos N,Vw,K]
   refine W.iter (λq:Nat×Nat×List (Int×Int)=>1<=q.2.1/\k+q.2.1<=n/\q.2.2.length=n/\q.1<k+q.2.1/\q.1=(Yk (l.take (k+q.2.1))).length/\q.2.2.take q.1=Yk (l.take (k+q.2.1))/\∀j,k+q.2.1-1<=j->j<n->q.2.2[j]?=l[j]?)
    (λq=>[(0,.ms 0 n 0 n),(1,g),(5,J q.1),(6,.ms 0 n k (n-k)),(7,J q.2.1)]) (λq=>[.cells 29 1 (q.2.2.map YP)]) (λq=>n-q.2.1) (k,1,l) ⟨γ _,by simp;omega,d,I,by simp only[ak];simp;omega,by simp only[ak],λj _ _=>rfl⟩ (by rw[w]) I (λq ay al=>?_)
   obtain⟨m,c,f⟩:=q;obtain⟨az,aA,i,aB,D,E,F⟩:=ay;simp only at az aA i aB D E F;clear w Q M R S V X;refine Γ i ?_;by_cases hd:c<n-k
   .have aO:(c:Int)<((n-k:Nat):Int):=U
    refine Α (by simp[hd]) ?_
    repeat apply Ξ
    obtain⟨o,aC⟩:∃r,c=r+1:=⟨c-1,U⟩;have aD:i64.wrap ((c:Int)-1)=(o:Int):=by have:=Yg (show o<2 ^ 62 by omega);rw[aC];simpa using this
    have aE:o<n-k:=U;obtain⟨aa,H⟩:=Η (f.map YP);have am:aa=f.map YP++[]:=by rw[H,Vw]
    have ab:aa.length=n:=by rw[H];simpa using i
    have an:f[k+c]?=some (l[k+c]'U):=by rw[F _ U U,δ]
    have hv:f[k+o]?=some (l[k+o]'U):=by rw[F _ U U,δ]
    have h:=I0 l (p:=k+c) U U U
    have aF:l[k+c-1]'U=l[k+o]'U:=by congr 1;omega
    rw[aF] at h;generalize l[k+c]'U=u at an h;generalize l[k+o]'U=v at hv h;obtain⟨ad,ae⟩:=H8 am an;obtain⟨aG,aH⟩:=H8 am hv;refine W.to (σ':=[.cells 29 1 aa]) (env':=[(0,.ms 0 n 0 n),(1,g),(5,J m),(6,.ms 0 n k (n-k)),(7,J c)]) ?_ (by rw[H]) I;have B:m<n:=U;refine W.draw (A:=[]) Ρ mixed λax Z=>?_;simp;(repeat (rw[ZK];simp[hd,aD,aE,ab,ad,ae,aG,aH]));try rw[ZL]
    refine Yl (ah u v) ?_;simp;(repeat (rw[ZK];simp));try rw[ZL]
    refine Y8 (Z _ _ ?_);by_cases O:u=v
    .refine Ζ (by simp[O]) ?_;refine Τ ?_;rw[if_pos O,Vw] at h;refine W.to (al (m,c+1,f) ⟨I,by simp;omega,i,by simp;omega,by simp only[<-UB,h];exact D,by simp only[<-UB,h];exact E,λj af t=>F j (by simp at af;omega) t⟩ (by simp;omega)) (by rw[H]) ?_;have:=Yg (show c+1<2 ^ 62 by omega);simpa using this
    .refine Α (by simp[O]) ?_;rw[if_neg O] at h
     repeat apply Ξ
     refine W.XV (A:=[]) Ρ [(0,.ms 0 n 0 n),(1,g),(5,J m),(6,.ms 0 n k (n-k)),(7,J c)] [.cells 29 1 ((f.set m u).map YP)] ?_ (by
      (try simp);(repeat (rw[Ν];simp[hd,ab,B,ad,ae]));(try simp[hd,ab,B,ad,ae]);subst H;simp)
     refine Τ ?_;refine W.to (al (m+1,c+1,f.set m u) ⟨I,by simp;omega,by simpa using i,by simp;omega,by simp only[<-UB,h];simp;exact D,?_,λj af t=>?_⟩ (by simp;omega)) I ?_
     .simp only[<-UB,h];rw[<-E,We (by simp;omega),List.take_set_of_le (γ _)];simp
     .simp at af;rw[WR U];exact F j U t
     .have ao:=Yg (show c+1<2 ^ 62 by omega)
      have Φ:=Yg (show m+1<2 ^ 62 by omega);simp at ao Φ ⊢;exact⟨Φ,ao⟩
   .refine Ζ (by simp[hd]) ?_;refine W.exit rfl ?_;have aI:k+c=n:=U;have aJ:l.take n=l:=U4 U;rw[aI,aJ] at D E
    repeat apply Ξ
    have B:m<=n:=U;refine W.XV (A:=[]) Ρ [(0,.ms 0 n 0 n),(5,J m)] [.cells 29 1 ((Yk l).map YP++List.replicate (n-m) (.sl true 0 []))] ?_ (by
     (try simp);(repeat (rw[Ν];simp[i,B]));(try simp[i,B]);rw[<-List.map_take,E,NK (by simp;omega),Vw];refine sU ⟨by simpa using i,rfl,U,λa ag=>?_⟩ ?_
     .obtain⟨x,_,rfl⟩:=Zq.1 ag;rfl
     .simp)
    have aK:(Yk l).length+(n-m)=n:=U;refine Γ (Υ aK B) ?_;refine W.ret ⟨_,rfl,List.replicate (n-m) (.sl true 0 []),λa ag=>.inl (KI ag),by simp;omega,?_,rfl⟩;rw[<-D];rfl
  .refine Ζ (by simp[N]) ?_;refine Τ ?_;refine W.to (aq (k+1) ⟨U,U,?_⟩ U) (by rw[w]) ?_
   .rw[aj,if_neg N,K,<-Y,<-We P]
   .have:=Yg (show k+1<2 ^ 62 by omega);simpa using this
 .refine Ζ (by simp[C]) ?_;refine W.exit rfl ?_;refine Τ ?_;refine W.ret ⟨_,rfl,[],?_⟩;have e:Yk l=l:=by rw[U4 U] at K;exact K
  rw[e,Vw,d];exact⟨I,I,rfl,rfl⟩
section
variable {P:Program} {m nt:Nat} {k:List Item} {env:ω} {σ:Ο} {Z:X7} {E:Yn}
theorem W.bind {n:X7} (h:W P m nt k env σ n E) (w:∀j e s,n j e s->W P m nt j e s Z E):W P m nt k env σ Z E:=
 λo mn x cs b S B H t p r y A u=>h o mn x cs b S B H t p r y
  (λj e s C B' H' t' M D v F I=>by
   cases I;exact w j e s D o mn x cs b C B' H' t' p r F (λJ Φ a c d f t2 g i l=>A J Φ a c d f t2 g i (v.trans l)) (λl Φ a c d f t2 g K i L=>u l Φ a c d f t2 g K i (v.trans L)))
  u
theorem W.upto {a:Item} (env':ω) (σ':Ο) (b:W P m nt (a::k) env σ (λj e s=>j=k/\s=σ'/\∀p∈env',Z7 e p.1=p.2) E) (c:W P m nt k env' σ' Z E):W P m nt (a::k) env σ Z E:=
 .bind b λj e s ⟨d,f,g⟩=>by
  subst d;subst f;exact .forget env' g c
theorem W.H7 {a:Item} {l:Nat} (env':ω) (σ':Ο) (b:W P m nt (a::.inBlock l::k) env σ (λj e s=>j=k/\s=σ'/\∀p∈env',Z7 e p.1=p.2) E) (c:W P m nt k env' σ' Z E):W P m nt (a::.inBlock l::k) env σ Z E:=
 .bind b λj e s ⟨d,f,g⟩=>by
  subst d;subst f;exact .forget env' g c
end
section
variable {α:Type} [Inhabited α]
theorem K2 (enc:α->Ω) (d:Array α) {i:Nat} (h:i<d.size):(d.toList.map enc)[i]?=some (enc d[i]!):=by
 rw[YU,Wv,Rz h];rfl
theorem T1 (enc:α->Ω) {d:Array α} {n:Nat} (b:d.size=n) {i j:Nat} (hi:i<n) (a:j<n):∃(L:κ) (x y:α),d.toList.map enc=L/\d[i]! = x/\d[j]! = y/\L.length=n/\(L[i]?=some (enc x)/\∀h,L[i]'h=enc x)/\(L[j]?=some (enc y)/\∀h,L[j]'h=enc y)/\(swp d i j).toList.map enc=(L.set i (enc y)).set j (enc x)/\∃z,∀h,(L.set i (enc y))[j]'h=enc z:=by
 subst b;refine⟨_,_,_,rfl,rfl,rfl,I,⟨K2 enc d hi,λh=>?_⟩,⟨K2 enc d a,λh=>?_⟩,by simp[swp],if i=j then d[j]! else d[j]!,λh=>?_⟩
 .have:=K2 enc d hi;rw[δ h] at this;exact Xk this
 .have:=K2 enc d a;rw[δ h] at this;exact Xk this
 .rw[List.getElem_set,ite_self];split
  .rfl
  .have:=K2 enc d a;rw[δ (by simpa using h)] at this;exact Xk this
theorem W.two {P:Program} {m nt:Nat} {k:List Item} {env:ω} {Z:X7} {E:Yn} (enc:α->Ω) {d:Array α} {n:Nat} (c:d.size=n) {i j:Nat} (hi:i<n) (a:j<n) {t:TypeId} {kk:Nat}
  (h:∀(L:κ) (x y z:α),d[i]! = x->d[j]! = y->(L.length=n/\(L[i]?=some (enc x)/\∀h,L[i]'h=enc x)/\(L[j]?=some (enc y)/\∀h,L[j]'h=enc y)/\(∀h,(L.set i (enc y))[j]'h=enc z)/\i<n/\j<n)->d.toList.map enc=L->(swp d i j).toList.map enc=(L.set i (enc y)).set j (enc x)->W P m nt k env [.cells t kk L] Z E):W P m nt k env [.cells t kk (d.toList.map enc)] Z E:=by
 obtain⟨L,x,y,b,e,f,g,l,o,p,z,r⟩:=T1 enc c hi a;rw[b];exact h L x y z e f ⟨g,l,o,r,hi,a⟩ b p
theorem MF {p:α->Bool} {d:Array α} {b i R:Nat} (h:scanUp p d b i=R) (a:i<=b) (c:p d[i]! = true):scanUp p d b (i+1)=R:=by
 rw[scanUp] at h;simpa[a,c] using h
theorem ME {p:α->Bool} {d:Array α} {b i R:Nat} (h:scanUp p d b i=R) (a:i<=b) (c:p d[i]! = false):i=R:=by
 rw[scanUp] at h;simpa[a,c] using h
theorem MD {p:α->Bool} {d:Array α} {b i R:Nat} (h:scanUp p d b i=R) (a:¬i<=b):i=R:=by
 rw[scanUp] at h;simpa[a] using h
theorem MC {p:α->Bool} {d:Array α} {b i R:Nat} (h:scanDown p d b i=R) (a:b<=i) (e:0<i) (c:p d[i]! = true):scanDown p d b (i-1)=R:=by
 obtain⟨q,rfl⟩:∃q,i=q+1:=⟨i-1,U⟩;rw[scanDown] at h;simpa[a,c] using h
theorem MB {p:α->Bool} {d:Array α} {b i R:Nat} (h:scanDown p d b i=R) (a:b<=i) (e:0<i) (c:p d[i]! = false):i=R:=by
 obtain⟨q,rfl⟩:∃q,i=q+1:=⟨i-1,U⟩;rw[scanDown] at h;simpa[a,c] using h
theorem W.back {P:Program} {m nt:Nat} {k:List Item} {env:ω} {Z:X7} {E:Yn} {enc:α->Ω} {d:Array α} {L:κ} {t:TypeId} {kk:Nat} (h:d.toList.map enc=L) (env':ω) (a:∀p∈env',Z7 env p.1=p.2)
  (b:W P m nt k env' [.cells t kk (d.toList.map enc)] Z E):W P m nt k env [.cells t kk L] Z E:=h▸W.forget env' a b
theorem W.sR {P:Program} {m nt:Nat} {k:List Item} {env:ω} {Z:X7} {E:Yn} {enc:α->Ω} {d:Array α} {t:TypeId} {kk:Nat} {a:Item} (env':ω) (b:Array α)
  (c:W P m nt (a::k) env [.cells t kk (d.toList.map enc)] (λj e s=>j=k/\s=[.cells t kk (b.toList.map enc)]/\∀p∈env',Z7 e p.1=p.2) E) (f:W P m nt k env' [.cells t kk (b.toList.map enc)] Z E):W P m nt (a::k) env [.cells t kk (d.toList.map enc)] Z E:=W.upto env' _ c f
theorem W.NU {P:Program} {m nt:Nat} {k:List Item} {env:ω} {Z:X7} {E:Yn} {enc:α->Ω} {d:Array α} {t:TypeId} {kk:Nat} {τ:Ο} {a:Item} (env':ω) (b:Array α) (c:Ο)
  (f:W P m nt (a::k) env (.cells t kk (d.toList.map enc)::τ) (λj e s=>j=k/\s=.cells t kk (b.toList.map enc)::c/\∀p∈env',Z7 e p.1=p.2) E) (g:W P m nt k env' (.cells t kk (b.toList.map enc)::c) Z E):W P m nt (a::k) env (.cells t kk (d.toList.map enc)::τ) Z E:=W.upto env' _ f g
theorem W.sQ {P:Program} {m nt:Nat} {k:List Item} {env:ω} {Z:X7} {E:Yn} {enc:α->Ω} {d:Array α} {t:TypeId} {kk:Nat} {τ:Ο} {a:Item} {l:Nat} (env':ω) (b:Array α) (c:Ο)
  (f:W P m nt (a::.inBlock l::k) env (.cells t kk (d.toList.map enc)::τ) (λj e s=>j=k/\s=.cells t kk (b.toList.map enc)::c/\∀p∈env',Z7 e p.1=p.2) E) (g:W P m nt k env' (.cells t kk (b.toList.map enc)::c) Z E):W P m nt (a::.inBlock l::k) env (.cells t kk (d.toList.map enc)::τ) Z E:=W.H7 env' _ f g
theorem W.H6 {P:Program} {m nt:Nat} {k:List Item} {env:ω} {Z:X7} {E:Yn} {enc:α->Ω} {d:Array α} {L:κ} {t:TypeId} {kk:Nat} (h:d.toList.map enc=L) (env':ω) (a:∀p∈env',Z7 env p.1=p.2)
  (b:W P m nt k env' [.cells t kk L] Z E):W P m nt k env [.cells t kk (d.toList.map enc)] Z E:=h▸W.forget env' a b
theorem W.Xn {P:Program} {m nt:Nat} {k:List Item} {env:ω} {Z:X7} {E:Yn} {enc:α->Ω} {d:Array α} {t:TypeId} {kk:Nat} {a:Item} {l:Nat} (env':ω) (b:Array α)
  (c:W P m nt (a::.inBlock l::k) env [.cells t kk (d.toList.map enc)] (λj e s=>j=k/\s=[.cells t kk (b.toList.map enc)]/\∀p∈env',Z7 e p.1=p.2) E) (f:W P m nt k env' [.cells t kk (b.toList.map enc)] Z E):W P m nt (a::.inBlock l::k) env [.cells t kk (d.toList.map enc)] Z E:=W.H7 env' _ c f
theorem swp_size {d:Array α} {n:Nat} (a:d.size=n) (i j:Nat):(swp d i j).size=n:=by simp[swp,a]
theorem O0 (p q:α->Bool) (r:∀x,q x = !p x) (d:Array α) {i j a b:Nat} (u:0<i) (f:i<=j+1) (s:scanUp p d j i=a) (t:scanDown q d a j=b):i<=a/\a<=j+1/\b<=j/\a<=b+1/\(a<=b->a<b):=by
 obtain⟨g,c,v,k⟩:=scanUp_spec p d j _ i rfl;obtain⟨l,m,w,n⟩:=scanDown_spec q d a j;rw[s] at g c k;rw[t] at l m n;refine⟨g,c f,l,m (c f),λh=>?_⟩;rcases OH a b with o|o
 .exact o
 .have e:a=b:=U
  have f1:=k U
  have f2:=n h U;rw[r,<-e,f1] at f2;cases f2
theorem BO (lt:α->α->Bool) {a b n:Nat}:∀(m i j:Nat) (g:Array α),j+1-i<=m->g.size=n->0<i->i<=j+1->j<b->(partLoop lt a i j g).2.size=n/\(partLoop lt a i j g).1<b:=by
 intro m
 induction m with
 | zero=>
  intro i j g s k l o t;rw[partLoop_eq];obtain⟨c,e⟩:=ZG (scanUp (λx=>lt x g[a]!) g j i);obtain⟨d,f⟩:=ZG (scanDown (λx=>!lt x g[a]!) g c j);obtain⟨u,v,w,y,p⟩:=O0 (λx=>lt x g[a]!) (λx=>!lt x g[a]!) (λx=>rfl) g l o e f;rw[e,f,if_pos (by apply Tu;intro h;have:=p U;omega)];exact⟨k,by show d<b;omega⟩
 | succ m A=>
  intro i j g s k l o t;rw[partLoop_eq];obtain⟨c,e⟩:=ZG (scanUp (λx=>lt x g[a]!) g j i);obtain⟨d,f⟩:=ZG (scanDown (λx=>!lt x g[a]!) g c j);obtain⟨u,v,w,y,p⟩:=O0 (λx=>lt x g[a]!) (λx=>!lt x g[a]!) (λx=>rfl) g l o e f;rw[e,f];by_cases r:c > d
  .rw[if_pos r];exact⟨k,by show d<b;omega⟩
  .rw[if_neg r];have:=p U;exact A (c+1) (d-1) _ U (swp_size k c d) U U U
theorem BN (lt:α->α->Bool) (hi first r:Nat) (e:Array α) {c k:Nat} (f:c=2*r+1) (h:c<hi) (a:k=if(decide (c+1<hi)&&lt e[first+c]! e[first+(c+1)]!)=true then c+1 else c) :
  Go.Sort.siftDown lt hi first r e=if(!lt e[first+r]! e[first+k]!)=true then e else Go.Sort.siftDown lt hi first k (swp e (first+r) (first+k)):=by
 subst f;rw[Go.Sort.siftDown,dif_neg U];have d:first+(2*r+1)+1=first+(2*r+1+1):=U
 have Φ:2*r+2=2*r+1+1:=U;by_cases b:(decide (2*r+1+1<hi)&&lt e[first+(2*r+1)]! e[first+(2*r+1+1)]!)=true
 .rw[if_pos b] at a;subst a;rw[d,Φ,if_pos b];have g:2*r+1+1<hi:=by simp at b;exact b.1
  simp only[dif_pos g]
 .rw[if_neg b] at a;subst a;rw[d,if_neg b]
theorem K1 {lt:α->α->Bool} {hi first n:Nat}:∀{r:Nat} {e:Array α},e.size=n->(Go.Sort.siftDown lt hi first r e).size=n:=by
 have c:∀(m r:Nat) (e:Array α),hi-r<=m->e.size=n->(Go.Sort.siftDown lt hi first r e).size=n:=by
  intro m
  induction m with
  | zero=>
   intro r e d a;rw[Go.Sort.siftDown,dif_pos U];exact a
  | succ m b=>
   intro r e d a;rw[Go.Sort.siftDown];split
   .exact a
   .split
    .split
     .exact a
     .split
      .exact b _ _ U (swp_size a _ _)
      .exact a
    .split
     .exact a
     .exact b _ _ U (swp_size a _ _)
 intro r e a;exact c _ r e (γ _) a
theorem FL {lt:α->α->Bool} {hi first n:Nat}:∀{k:Nat} {e:Array α},e.size=n->(heapBuild lt hi first k e).size=n
 | 0,_,a=>a
 | k+1,e,a=>by
  show(heapBuild lt hi first k (Go.Sort.siftDown lt hi first k e)).size=n;exact FL (K1 a)
theorem PC (lt:α->α->Bool) (d:Array α) {a b n:Nat} (c:a<n) (e:b<n) (s:Nat):(Go.Sort.order2 lt d a b s).1<n/\(Go.Sort.order2 lt d a b s).2.1<n/\(Go.Sort.order2 lt d a b s).2.2<=s+1:=by
 unfold Go.Sort.order2;split
 .exact⟨e,c,γ _⟩
 .exact⟨c,e,Nat.le_succ _⟩
theorem sP (p:α->Bool) (d:Array α) {i j:Nat} (h:j<i):scanDown p d i j=j:=by
 cases j with
 | zero=>rfl
 | succ j=>rw[scanDown,if_neg (by simp;omega)]
theorem MA {p:α->Bool} {d:Array α} {b i R:Nat} (h:scanDown p d b i=R) (a:¬b<=i):i=R:=by rw[<-h,sP p d U]
end
structure BM (α:Type) where
 a:Nat
 b:Nat
 lim:Nat
 wb:Bool
 wp:Bool
 e:Array α
def Qs {α:Type} [Inhabited α] (a l m:Nat):Nat->Nat->UInt64×Array α->UInt64×Array α
 | 0,_,st=>st
 | k+1,idx,st=>Qs a l m k (idx+1) (breakStep a l m st idx)
theorem BL {α:Type} [Inhabited α] {d:Array α} {a b l c:Nat} (e:l=b-a) (f:8<=l) (g:c=a+(l / 4)*2):Go.Sort.breakPatterns d a b=(Qs a l (1 <<< bitsLen l) 3 (c-1) (UInt64.ofNat l,d)).2:=by
 subst e;subst g;unfold Go.Sort.breakPatterns;simp only[ge_iff_le,f,if_true];rfl
abbrev Vm (n:Int):Ω:=.z (.int .u64 n)
def RV:Hint->Int
 | .unknown=>0
 | .increasing=>1
 | .decreasing=>2
theorem H5 {α:Type} {enc:α->Ω} {t k:Nat} {d:Array α} {c:Row} (f:∀y,∀a∈(enc y).cells,ς 0 a) (id:Nat) (r:Row) (i:id<1) (b:[Row.cells t k (d.toList.map enc),c][id]?=some r):X6 1 r:=by
 obtain rfl:id=0:=U;simp at b;subst b;intro e g a h;obtain⟨y,_,rfl⟩:=Zq.1 g;exact ς.mono (f y a h) (χ _)
theorem sO {l m:Nat} (h:l<2 ^ 62):i64.wrap (Int.tdiv (l:Int) (m:Int))=((l / m:Nat):Int):=by
 rw[HL U];have a:l / m<=l:=Nat.div_le_self l m;have b:((l:Int) / (m:Int))=((l / m:Nat):Int):=rfl;rw[b];obtain⟨q,c⟩:=Η (l / m);rw[<-c] at a ⊢;rw[i64_in _ U]
theorem OZ {l m:Nat} (h:l<2 ^ 62):i64.wrap ((l:Int) / (m:Int))=((l / m:Nat):Int):=by
 have:=sO (m:=m) h;rw[HL U] at this;exact this
theorem Qr {x:Nat} (h:x<2 ^ 64):u64.wrap (x:Int)=(x:Int):=by
 unfold IntKind.wrap;simp[IntKind.bits,IntKind.signed];omega
theorem FK {x y:Nat} (a:x<2 ^ 64) (b:y<2 ^ 64):L3 .u64 (x:Int) (y:Int)=((x^^^y:Nat):Int):=by
 have h:x^^^y<2 ^ 64:=Nat.xor_lt_two_pow a b
 have e:(BitVec.ofInt 64 (x:Int)^^^BitVec.ofInt 64 (y:Int)).toNat=x^^^y:=by
  rw[BitVec.toNat_xor,BitVec.ofInt_natCast,BitVec.ofInt_natCast,BitVec.toNat_ofNat,BitVec.toNat_ofNat,Qi a,Qi b]
 show u64.wrap (BitVec.ofInt 64 (x:Int)^^^BitVec.ofInt 64 (y:Int)).toNat=_;rw[e];exact Qr h
theorem FJ (x k:Nat) (a:k<=64):u64.wrap ((x:Int)*2 ^ min k u64.bits)=((x*2 ^ k % 18446744073709551616:Nat):Int):=by
 have e:min k u64.bits=k:=Nat.min_eq_left a;rw[e];have Φ:(x:Int)*2 ^ k=((x*2 ^ k:Nat):Int):=I;rw[Φ];obtain⟨y,b⟩:=Η (x*2 ^ k);rw[<-b];unfold IntKind.wrap;simp[IntKind.bits,IntKind.signed]
theorem sN (x k:Nat) (a:k<=64):(x:Int).fdiv (2 ^ min k u64.bits)=((x / 2 ^ k:Nat):Int):=by
 have e:min k u64.bits=k:=Nat.min_eq_left a;rw[e,HM _ (Int.le_of_lt (Int.pow_pos ZY))];simp
theorem BK {x y:Nat} (a:x<2 ^ 64) (b:y<2 ^ 64):XY .u64 (x:Int) (y:Int)=((x&&&y:Nat):Int):=by
 have h:x&&&y<2 ^ 64:=Qk Nat.and_le_left a
 have e:(BitVec.ofInt 64 (x:Int)&&&BitVec.ofInt 64 (y:Int)).toNat=x&&&y:=by
  rw[BitVec.toNat_and,BitVec.ofInt_natCast,BitVec.ofInt_natCast,BitVec.toNat_ofNat,BitVec.toNat_ofNat,Qi a,Qi b]
 show u64.wrap (BitVec.ofInt 64 (x:Int)&&&BitVec.ofInt 64 (y:Int)).toNat=_;rw[e];exact Qr h
theorem Wf {i:Nat} (h:0<i) (a:i<2 ^ 62):i64.wrap ((i:Int)-1)=((i-1:Nat):Int):=by
 rw[i64_in _ U];omega
theorem Yt {i:Nat} (a:i<2 ^ 61):i64.wrap ((i:Int)+1)=((i+1:Nat):Int):=by
 rw[i64_in _ U];omega
theorem Qq {a b:Nat} (h:a<=b) (c:b<2 ^ 62):i64.wrap ((b:Int)-a)=((b-a:Nat):Int):=by
 rw[i64_in _ U];omega
structure Tz where
 t:TypeId
 k:Nat
 enc:Int×Int->Ω
 partition:FuncId
 partitionEqual:FuncId
 siftDown:FuncId
 heapSort:FuncId
 reverseRange:FuncId
 median:FuncId
 medianAdjacent:FuncId
 choosePivot:FuncId
 insertionSort:FuncId
 partialInsertionSort:FuncId
 breakPatterns:FuncId
 order2:FuncId
 sM:FuncId
abbrev Wx:Tz:=⟨112,2,Zj,241,240,254,235,238,256,255,237,234,239,236,258,211⟩
abbrev Ww:Tz:=⟨29,1,YP,190,189,225,184,187,229,228,186,183,188,185,252,149⟩
theorem sL [ZX] (S:Tz) (m:S=Wx\/S=Ww) (d:Array (Int×Int)) (n a b:Nat) (f:d.size=n) (g:a<=b) (h:b<=n) (i:n<2 ^ 40) (c:Ω) (e:Int×Int->Int×Int->Int) (j:ς 0 c) (l:∀x y,XS prog c [S.enc x,S.enc y] (J (e x y))) :
  Μ prog S.insertionSort [.ms 0 n 0 n,J a,J b,c] [.cells S.t S.k (d.toList.map S.enc)] (λr s=>r=.ZW []/\s=[.cells S.t S.k ((Go.Sort.insertionSort (υ e) d a b).toList.map S.enc)]) (λ_ _=>False):=by
 rcases m with rfl|rfl
 .exact Dv d n a b f g h i c e j l
 .exact xz d n a b f g h i c e j l
theorem sK (S:Tz) (ar:S=Wx\/S=Ww) (d:Array (Int×Int)) (n a b p:Nat) (ak:d.size=n) (ay:n<2 ^ 40) (az:a<=p) (aA:p<b) (aB:b<=n) (B:Ω) (o:Int×Int->Int×Int->Int) (aC:ς 0 B) (ae:∀x y,XS prog B [S.enc x,S.enc y] (J (o x y))) :
  Μ prog S.partition [.ms 0 n 0 n,J a,J b,J p,B] [.cells S.t S.k ((d).toList.map S.enc)] (λr s=>r=.ZW [J (Go.Sort.partition (υ o) d a b p).1,Z4 (Go.Sort.partition (υ o) d a b p).2.1]/\s=[.cells S.t S.k (((Go.Sort.partition (υ o) d a b p).2.2).toList.map S.enc)]) (λ_ _=>False):=by
 rcases ar with rfl|rfl
 all_goals dsimp only[Wx,Ww] at *
 refine Μ.body Ρ func241 rfl rfl ntmps241 rfl rfl I ?_
 rotate_left
 refine Μ.body Ρ func190 rfl rfl ntmps190 rfl rfl I ?_
 all_goals
  have au:=Yt (i:=a) U
  have av:=Wf (i:=b) U U
  repeat apply Ξ
  refine VT ?_;refine W.two _ ak (i:=a) (j:=p) U U λL x y z u v F w H=>?_
  repeat apply Ξ
  refine W.draw (A:=[]) Ρ mixed λO D=>?_;simp;(repeat (rw[ZK];simp[F]));try rw[ZL];refine Y8 (D _ _ ?_)
  refine W.back H [(0,.ms 0 n 0 n),(1,J a),(2,J b),(3,J p),(4,B)] I ?_;clear F H w u v L x y z;obtain⟨e,ag⟩:=Η (swp d a p);have Y:e.size=n:=by rw[ag];exact swp_size ak a p
  rw[<-ag]
  repeat apply Ξ
  refine Tb (Υ au av) ?_;refine W.to (σ':=[.cells _ _ ((e).toList.map _)]) (env':=[(0,.ms 0 n 0 n),(1,J a),(4,B),(12,J (a+1:Nat)),(13,J (b-1:Nat))]) ?_ rfl I;obtain⟨c,P⟩:=ZG (scanUp (λx=>υ o x e[a]!) e (b-1) (a+1));obtain⟨l,Q⟩:=ZG (scanDown (λx=>!υ o x e[a]!) e c (b-1));obtain⟨al,am,an,ao,af⟩:=O0 (λx=>υ o x e[a]!) (λx=>!υ o x e[a]!) (λx=>rfl) e U U P Q;have K:Go.Sort.partition (υ o) d a b p=if c > l then(l,true,swp e l a) else((partLoop (υ o) a (c+1) (l-1) (swp e c l)).1,false,swp (partLoop (υ o) a (c+1) (l-1) (swp e c l)).2 (partLoop (υ o) a (c+1) (l-1) (swp e c l)).1 a):=by
   unfold Go.Sort.partition;simp only[<-ag,P,Q]
  repeat apply Ξ
  repeat apply Ξ
  refine W.Xn [(0,.ms 0 n 0 n),(1,J a),(4,B),(12,J (c:Nat)),(13,J (b-1:Nat))] e ?_ ?_
  .refine W.iter (λi:Nat=>(a+1)<=i/\i<=(b-1)+1/\scanUp (λx=>υ o x e[a]!) e (b-1) i=c) (λi=>[(0,.ms 0 n 0 n),(1,J a),(4,B),(12,J (i:Nat)),(13,J (b-1:Nat))]) (λ_=>[.cells _ _ ((e).toList.map _)]) (λi=>(b-1)+1-i) ((a+1)) ⟨γ _,U,P⟩ rfl I (λi hi N=>?_);obtain⟨Z,aa,E⟩:=hi;by_cases m:i<=(b-1)
   .refine W.two _ Y (i:=i) (j:=a) U U λL x y _ u v F w _=>?_;have M:=Yt (i:=i) U
    repeat apply Ξ
    refine W.draw (A:=[]) Ρ mixed λO D=>?_;simp;(repeat (rw[ZK];simp[m,F]));try rw[ZL]
    refine Yl (ae x y) ?_;simp;(repeat (rw[ZK];simp));try rw[ZL]
    refine Y8 (D _ _ ?_);by_cases C:o x y<0
    .refine Α (by simp[C]) ?_;refine Γ M ?_;exact W.to (N (i+1) ⟨U,U,MF E m (by simp[u,v,C,υ])⟩ ZD) (by rw[w]) (by simp[M])
    .refine Ζ (by simp[C]) ?_;refine W.exit rfl ?_;exact W.stop ⟨rfl,by rw[w],by rw[<-ME E m (by simp[u,v,C,υ])];simp⟩
   .repeat apply Ξ
    refine XI m ?_;refine Ζ rfl ?_;refine W.exit rfl ?_;exact W.stop ⟨rfl,rfl,by rw[<-MD E m];simp⟩
  repeat apply Ξ
  refine W.Xn [(0,.ms 0 n 0 n),(1,J a),(4,B),(12,J (c:Nat)),(13,J (l:Nat))] e ?_ ?_
  .refine W.iter (λi:Nat=>i<=(b-1)/\c<=i+1/\scanDown (λx=>!υ o x e[a]!) e c i=l) (λi=>[(0,.ms 0 n 0 n),(1,J a),(4,B),(12,J (c:Nat)),(13,J (i:Nat))]) (λ_=>[.cells _ _ ((e).toList.map _)]) (λi=>i+1-c) ((b-1)) ⟨γ _,U,Q⟩ rfl I (λi hi N=>?_);obtain⟨Z,aa,E⟩:=hi;by_cases m:c<=i
   .refine W.two _ Y (i:=i) (j:=a) U U λL x y _ u v F w _=>?_;have M:=Wf (i:=i) U U
    repeat apply Ξ
    refine W.draw (A:=[]) Ρ mixed λO D=>?_;simp;(repeat (rw[ZK];simp[m,F]));try rw[ZL]
    refine Yl (ae x y) ?_;simp;(repeat (rw[ZK];simp));try rw[ZL]
    refine Y8 (D _ _ ?_);by_cases C:o x y<0
    .refine Ζ (by simp[C]) ?_;refine W.exit rfl ?_;exact W.stop ⟨rfl,by rw[w],by rw[<-MB E m U (by simp[u,v,C,υ])];simp⟩
    .refine Α (by simp[C]) ?_;refine Γ M ?_;exact W.to (N (i-1) ⟨U,U,MC E m U (by simp[u,v,C,υ])⟩ ZD) (by rw[w]) (by simp[M])
   .repeat apply Ξ
    refine XI m ?_;refine Ζ rfl ?_;refine W.exit rfl ?_;exact W.stop ⟨rfl,rfl,by rw[<-MA E m];simp⟩
  repeat apply Ξ
  by_cases m:c > l
  .have T:((l:Nat):Int)<(c:Nat):=U
   refine Γ T ?_;refine Α (by simp[m]) ?_;refine W.two _ Y (i:=l) (j:=a) U U λL x y z u v F w H=>?_
   repeat apply Ξ
   refine W.draw (A:=[]) Ρ mixed λO D=>?_;simp;(repeat (rw[ZK];simp[F]));try rw[ZL];refine Y8 (D _ _ ?_)
   refine W.back H [(0,.ms 0 n 0 n),(1,J a),(4,B),(12,J (c:Nat)),(13,J (l:Nat))] I ?_;clear F H w u v L x y z;refine Τ ?_;exact W.ret ⟨_,rfl,by rw[K,if_pos m];rfl,by rw[K,if_pos m]⟩
  have T:¬((l:Nat):Int)<(c:Nat):=U
  have aw:=af U
  have V:=Yt (i:=c) U
  have X:=Wf (i:=l) U U;refine Γ T ?_;refine Ζ (by simp[m]) ?_;refine W.two _ Y (i:=c) (j:=l) U U λL x y z u v F w H=>?_
  repeat apply Ξ
  refine W.draw (A:=[]) Ρ mixed λO D=>?_;simp;(repeat (rw[ZK];simp[F]));try rw[ZL];refine Y8 (D _ _ ?_)
  refine W.back H [(0,.ms 0 n 0 n),(1,J a),(4,B),(12,J (c:Nat)),(13,J (l:Nat))] I ?_;clear F H w u v L x y z;have ah:=swp_size Y c l;rw[if_neg m] at K;obtain⟨g,ai⟩:=Η (swp e c l);rw[<-ai] at K ah;rw[<-ai];refine Γ (Υ V X) ?_;refine W.to (σ':=[.cells _ _ ((g).toList.map _)]) (env':=[(0,.ms 0 n 0 n),(1,J a),(4,B),(12,J (c+1:Nat)),(13,J (l-1:Nat))]) ?_ rfl (by simp[V,X]);have aD:a<c:=U;have aE:l<b:=U;have aF:c+1<=l-1+1:=U;clear P Q T m al am an ao af ai V X;obtain⟨R,aj⟩:=ZG (partLoop (υ o) a (c+1) (l-1) g)
  repeat apply Ξ
  refine W.Xn [(0,.ms 0 n 0 n),(1,J a),(13,J R.1)] R.2 ?_ ?_
  .refine W.iter (λq:Nat×Nat×Array (Int×Int)=>q.2.2.size=n/\a<q.1/\q.1<=q.2.1+1/\q.2.1<b/\partLoop (υ o) a q.1 q.2.1 q.2.2=R) (λq=>[(0,.ms 0 n 0 n),(1,J a),(4,B),(12,J (q.1:Nat)),(13,J (q.2.1:Nat))]) (λq=>[.cells _ _ ((q.2.2).toList.map _)]) (λq=>q.2.1+1-q.1) (c+1,l-1,g) ⟨ah,ZD,ZD,ZD,aj⟩ rfl I (λq hi N=>?_);obtain⟨i,j,f⟩:=q;obtain⟨ab,Z,aa,E,ad⟩:=hi;simp only at ab Z aa E ad;obtain⟨c,P⟩:=ZG (scanUp (λx=>υ o x f[a]!) f (j) (i));obtain⟨l,Q⟩:=ZG (scanDown (λx=>!υ o x f[a]!) f c (j));obtain⟨al,am,an,ao,af⟩:=O0 (λx=>υ o x f[a]!) (λx=>!υ o x f[a]!) (λx=>rfl) f U U P Q;have K:partLoop (υ o) a i j f=if c > l then(l,f) else partLoop (υ o) a (c+1) (l-1) (swp f c l):=by
    rw[partLoop_eq];simp only[P,Q]
   refine W.to (σ':=[.cells _ _ ((f).toList.map _)]) (env':=[(0,.ms 0 n 0 n),(1,J a),(4,B),(12,J (i:Nat)),(13,J (j:Nat))]) ?_ rfl I;refine W.block ?_
   repeat apply Ξ
   refine W.Xn [(0,.ms 0 n 0 n),(1,J a),(4,B),(12,J (c:Nat)),(13,J (j:Nat))] f ?_ ?_
   .refine W.iter (λi:Nat=>(i)<=i/\i<=(j)+1/\scanUp (λx=>υ o x f[a]!) f (j) i=c) (λi=>[(0,.ms 0 n 0 n),(1,J a),(4,B),(12,J (i:Nat)),(13,J (j:Nat))]) (λ_=>[.cells _ _ ((f).toList.map _)]) (λi=>(j)+1-i) ((i)) ⟨γ _,U,P⟩ rfl I (λi hi N=>?_);obtain⟨Z,aa,E⟩:=hi;by_cases m:i<=(j)
    .refine W.two _ ab (i:=i) (j:=a) U U λL x y _ u v F w _=>?_;have M:=Yt (i:=i) U
     repeat apply Ξ
     refine W.draw (A:=[]) Ρ mixed λO D=>?_;simp;(repeat (rw[ZK];simp[m,F]));try rw[ZL]
     refine Yl (ae x y) ?_;simp;(repeat (rw[ZK];simp));try rw[ZL]
     refine Y8 (D _ _ ?_);by_cases C:o x y<0
     .refine Α (by simp[C]) ?_;refine Γ M ?_;exact W.to (N (i+1) ⟨U,U,MF E m (by simp[u,v,C,υ])⟩ ZD) (by rw[w]) (by simp[M])
     .refine Ζ (by simp[C]) ?_;refine W.exit rfl ?_;exact W.stop ⟨rfl,by rw[w],by rw[<-ME E m (by simp[u,v,C,υ])];simp⟩
    .repeat apply Ξ
     refine XI m ?_;refine Ζ rfl ?_;refine W.exit rfl ?_;exact W.stop ⟨rfl,rfl,by rw[<-MD E m];simp⟩
   repeat apply Ξ
   refine W.Xn [(0,.ms 0 n 0 n),(1,J a),(4,B),(12,J (c:Nat)),(13,J (l:Nat))] f ?_ ?_
   .refine W.iter (λi:Nat=>i<=(j)/\c<=i+1/\scanDown (λx=>!υ o x f[a]!) f c i=l) (λi=>[(0,.ms 0 n 0 n),(1,J a),(4,B),(12,J (c:Nat)),(13,J (i:Nat))]) (λ_=>[.cells _ _ ((f).toList.map _)]) (λi=>i+1-c) ((j)) ⟨γ _,U,Q⟩ rfl I (λi hi N=>?_);obtain⟨Z,aa,E⟩:=hi;by_cases m:c<=i
    .refine W.two _ ab (i:=i) (j:=a) U U λL x y _ u v F w _=>?_;have M:=Wf (i:=i) U U
     repeat apply Ξ
     refine W.draw (A:=[]) Ρ mixed λO D=>?_;simp;(repeat (rw[ZK];simp[m,F]));try rw[ZL]
     refine Yl (ae x y) ?_;simp;(repeat (rw[ZK];simp));try rw[ZL]
     refine Y8 (D _ _ ?_);by_cases C:o x y<0
     .refine Ζ (by simp[C]) ?_;refine W.exit rfl ?_;exact W.stop ⟨rfl,by rw[w],by rw[<-MB E m U (by simp[u,v,C,υ])];simp⟩
     .refine Α (by simp[C]) ?_;refine Γ M ?_;exact W.to (N (i-1) ⟨U,U,MC E m U (by simp[u,v,C,υ])⟩ ZD) (by rw[w]) (by simp[M])
    .repeat apply Ξ
     refine XI m ?_;refine Ζ rfl ?_;refine W.exit rfl ?_;exact W.stop ⟨rfl,rfl,by rw[<-MA E m];simp⟩
   repeat apply Ξ
   by_cases m:c > l
   .have T:((l:Nat):Int)<(c:Nat):=U
    refine Γ T ?_;refine Α (by simp[m]) ?_;refine W.exit rfl ?_;rw[K,if_pos m] at ad;exact W.stop ⟨rfl,by rw[<-ad],by rw[<-ad];simp⟩
   .have T:¬((l:Nat):Int)<(c:Nat):=U
    have aw:=af U
    have V:=Yt (i:=c) U
    have X:=Wf (i:=l) U U;refine Γ T ?_;refine Ζ (by simp[m]) ?_;refine W.two _ ab (i:=c) (j:=l) U U λL x y z u v F w H=>?_
    repeat apply Ξ
    refine W.draw (A:=[]) Ρ mixed λO D=>?_;simp;(repeat (rw[ZK];simp[F]));try rw[ZL];refine Y8 (D _ _ ?_)
    refine W.back H [(0,.ms 0 n 0 n),(1,J a),(4,B),(12,J (c:Nat)),(13,J (l:Nat))] I ?_;clear F H w u v L x y z;refine Γ (Υ V X) ?_;exact W.to (N (c+1,l-1,swp f c l) ⟨swp_size ab c l,ZD,ZD,ZD,by simp;rw[<-ad,K,if_neg m]⟩ ZD) rfl (by simp[V,X])
  rw[aj] at K;have ap:=BO (υ o) (a:=a) (b:=b) _ (c+1) (l-1) g (γ _) ah U U U;rw[aj] at ap;obtain⟨aq,ax⟩:=ap;obtain⟨j,h⟩:=R;simp only at aq ax K;refine W.two _ aq (i:=j) (j:=a) U U λL x y z u v F w H=>?_
  repeat apply Ξ
  refine W.draw (A:=[]) Ρ mixed λO D=>?_;simp;(repeat (rw[ZK];simp[F]));try rw[ZL];refine Y8 (D _ _ ?_)
  refine W.back H [(0,.ms 0 n 0 n),(1,J a),(13,J (j:Nat))] I ?_;clear F H w u v L x y z;refine Τ ?_;exact W.ret ⟨_,rfl,by rw[K];rfl,by rw[K]⟩
theorem sJ (S:Tz) (af:S=Wx\/S=Ww) (d:Array (Int×Int)) (n a b p:Nat) (Z:d.size=n) (ak:n<2 ^ 40) (al:a<=p) (am:p<b) (an:b<=n) (m:Ω) (g:Int×Int->Int×Int->Int) (ao:ς 0 m) (aa:∀x y,XS prog m [S.enc x,S.enc y] (J (g x y))) :
  Μ prog S.partitionEqual [.ms 0 n 0 n,J a,J b,J p,m] [.cells S.t S.k ((d).toList.map S.enc)] (λr s=>r=J (Go.Sort.partitionEqual (υ g) d a b p).1/\s=[.cells S.t S.k (((Go.Sort.partitionEqual (υ g) d a b p).2).toList.map S.enc)]) (λ_ _=>False):=by
 rcases af with rfl|rfl
 all_goals dsimp only[Wx,Ww] at *
 refine Μ.body Ρ func240 rfl rfl ntmps240 rfl rfl I ?_
 rotate_left
 refine Μ.body Ρ func189 rfl rfl ntmps189 rfl rfl I ?_
 all_goals
  have ag:=Yt (i:=a) U
  have ah:=Wf (i:=b) U U
  repeat apply Ξ
  refine VT ?_;refine W.two _ Z (i:=a) (j:=p) U U λL x y z o u F v D=>?_
  repeat apply Ξ
  refine W.draw (A:=[]) Ρ mixed λO C=>?_;simp;(repeat (rw[ZK];simp[F]));try rw[ZL];refine Y8 (C _ _ ?_)
  refine W.back D [(0,.ms 0 n 0 n),(1,J a),(2,J b),(3,J p),(4,m)] I ?_;clear F D v o u L x y z;obtain⟨e,P⟩:=Η (swp d a p);have ai:e.size=n:=by rw[P];exact swp_size Z a p
  rw[<-P]
  repeat apply Ξ
  refine Tb (Υ ag ah) ?_;refine W.to (σ':=[.cells _ _ ((e).toList.map _)]) (env':=[(0,.ms 0 n 0 n),(1,J a),(4,m),(11,J (a+1:Nat)),(12,J (b-1:Nat))]) ?_ rfl I;obtain⟨R,ab⟩:=ZG (partEqLoop (υ g) a (a+1) (b-1) e)
  repeat apply Ξ
  refine W.Xn [(11,J R.1)] R.2 ?_ ?_
  .refine W.iter (λq:Nat×Nat×Array (Int×Int)=>q.2.2.size=n/\a<q.1/\q.1<=q.2.1+1/\q.2.1<b/\partEqLoop (υ g) a q.1 q.2.1 q.2.2=R) (λq=>[(0,.ms 0 n 0 n),(1,J a),(4,m),(11,J (q.1:Nat)),(12,J (q.2.1:Nat))]) (λq=>[.cells _ _ ((q.2.2).toList.map _)]) (λq=>q.2.1+1-q.1) (a+1,b-1,e) ⟨ai,ZD,ZD,ZD,ab⟩ rfl I (λq hi E=>?_);obtain⟨i,j,f⟩:=q;obtain⟨H,Q,T,w,K⟩:=hi;simp only at H Q T w K;obtain⟨c,V⟩:=ZG (scanUp (λx=>!υ g f[a]! x) f (j) (i));obtain⟨l,X⟩:=ZG (scanDown (λx=>υ g f[a]! x) f c (j));obtain⟨ap,aq,ar,au,aj⟩:=O0 (λx=>!υ g f[a]! x) (λx=>υ g f[a]! x) (λx=>I) f U U V X;have M:partEqLoop (υ g) a i j f=if c > l then(c,f) else partEqLoop (υ g) a (c+1) (l-1) (swp f c l):=by
    rw[partEqLoop_eq];simp only[V,X]
   refine W.to (σ':=[.cells _ _ ((f).toList.map _)]) (env':=[(0,.ms 0 n 0 n),(1,J a),(4,m),(11,J (i:Nat)),(12,J (j:Nat))]) ?_ rfl I;refine W.block ?_
   repeat apply Ξ
   refine W.Xn [(0,.ms 0 n 0 n),(1,J a),(4,m),(11,J (c:Nat)),(12,J (j:Nat))] f ?_ ?_
   .refine W.iter (λi:Nat=>(i)<=i/\i<=(j)+1/\scanUp (λx=>!υ g f[a]! x) f (j) i=c) (λi=>[(0,.ms 0 n 0 n),(1,J a),(4,m),(11,J (i:Nat)),(12,J (j:Nat))]) (λ_=>[.cells _ _ ((f).toList.map _)]) (λi=>(j)+1-i) ((i)) ⟨γ _,U,V⟩ rfl I (λi hi E=>?_);obtain⟨Q,T,w⟩:=hi;by_cases h:i<=(j)
    .refine W.two _ H (i:=i) (j:=a) U U λL x y _ o u F v _=>?_;have N:=Yt (i:=i) U
     repeat apply Ξ
     refine W.draw (A:=[]) Ρ mixed λO C=>?_;simp;(repeat (rw[ZK];simp[h,F]));try rw[ZL]
     refine Yl (aa y x) ?_;simp;(repeat (rw[ZK];simp));try rw[ZL]
     refine Y8 (C _ _ ?_);by_cases B:g y x<0
     .refine Ζ (by simp[B]) ?_;refine W.exit rfl ?_;exact W.stop ⟨rfl,by rw[v],by rw[<-ME w h (by simp[o,u,B,υ])];simp⟩
     .refine Α (by simp[B]) ?_;refine Γ N ?_;exact W.to (E (i+1) ⟨U,U,MF w h (by simp[o,u,B,υ])⟩ ZD) (by rw[v]) (by simp[N])
    .repeat apply Ξ
     refine XI h ?_;refine Ζ rfl ?_;refine W.exit rfl ?_;exact W.stop ⟨rfl,rfl,by rw[<-MD w h];simp⟩
   repeat apply Ξ
   refine W.Xn [(0,.ms 0 n 0 n),(1,J a),(4,m),(11,J (c:Nat)),(12,J (l:Nat))] f ?_ ?_
   .refine W.iter (λi:Nat=>i<=(j)/\c<=i+1/\scanDown (λx=>υ g f[a]! x) f c i=l) (λi=>[(0,.ms 0 n 0 n),(1,J a),(4,m),(11,J (c:Nat)),(12,J (i:Nat))]) (λ_=>[.cells _ _ ((f).toList.map _)]) (λi=>i+1-c) ((j)) ⟨γ _,U,X⟩ rfl I (λi hi E=>?_);obtain⟨Q,T,w⟩:=hi;by_cases h:c<=i
    .refine W.two _ H (i:=i) (j:=a) U U λL x y _ o u F v _=>?_;have N:=Wf (i:=i) U U
     repeat apply Ξ
     refine W.draw (A:=[]) Ρ mixed λO C=>?_;simp;(repeat (rw[ZK];simp[h,F]));try rw[ZL]
     refine Yl (aa y x) ?_;simp;(repeat (rw[ZK];simp));try rw[ZL]
     refine Y8 (C _ _ ?_);by_cases B:g y x<0
     .refine Α (by simp[B]) ?_;refine Γ N ?_;exact W.to (E (i-1) ⟨U,U,MC w h U (by simp[o,u,B,υ])⟩ ZD) (by rw[v]) (by simp[N])
     .refine Ζ (by simp[B]) ?_;refine W.exit rfl ?_;exact W.stop ⟨rfl,by rw[v],by rw[<-MB w h U (by simp[o,u,B,υ])];simp⟩
    .repeat apply Ξ
     refine XI h ?_;refine Ζ rfl ?_;refine W.exit rfl ?_;exact W.stop ⟨rfl,rfl,by rw[<-MA w h];simp⟩
   repeat apply Ξ
   by_cases h:c > l
   .have Y:((l:Nat):Int)<(c:Nat):=U
    refine Γ Y ?_;refine Α (by simp[h]) ?_;refine W.exit rfl ?_;rw[M,if_pos h] at K;exact W.stop ⟨rfl,by rw[<-K],by rw[<-K];simp⟩
   .have Y:¬((l:Nat):Int)<(c:Nat):=U
    have av:=aj U
    have ad:=Yt (i:=c) U
    have ae:=Wf (i:=l) U U;refine Γ Y ?_;refine Ζ (by simp[h]) ?_;refine W.two _ H (i:=c) (j:=l) U U λL x y z o u F v D=>?_
    repeat apply Ξ
    refine W.draw (A:=[]) Ρ mixed λO C=>?_;simp;(repeat (rw[ZK];simp[F]));try rw[ZL];refine Y8 (C _ _ ?_)
    refine W.back D [(0,.ms 0 n 0 n),(1,J a),(4,m),(11,J (c:Nat)),(12,J (l:Nat))] I ?_;clear F D v o u L x y z;refine Γ (Υ ad ae) ?_;exact W.to (E (c+1,l-1,swp f c l) ⟨swp_size H c l,ZD,ZD,ZD,by simp;rw[<-K,M,if_neg h]⟩ ZD) rfl (by simp[ad,ae])
  refine Τ ?_;have M:Go.Sort.partitionEqual (υ g) d a b p=R:=by unfold Go.Sort.partitionEqual;rw[<-P,ab]
  exact W.ret ⟨_,rfl,by rw[M];rfl,by rw[M]⟩
theorem sI (S:Tz) (ae:S=Wx\/S=Ww) (d:Array (Int×Int)) (n lo hi first:Nat) (af:d.size=n) (ax:n<2 ^ 40) (ay:first+hi<=n) (ag:lo<=n) (a:Ω) (b:Int×Int->Int×Int->Int) (az:ς 0 a) (T:∀x y,XS prog a [S.enc x,S.enc y] (J (b x y))) :
  Μ prog S.siftDown [.ms 0 n 0 n,J lo,J hi,J first,a] [.cells S.t S.k ((d).toList.map S.enc)] (λr s=>r=.ZW []/\s=[.cells S.t S.k ((Go.Sort.siftDown (υ b) hi first lo d).toList.map S.enc)]) (λ_ _=>False):=by
 obtain⟨enc,V⟩:=Η S.enc;rcases ae with rfl|rfl
 all_goals dsimp only[Wx,Ww] at *
 refine Μ.body Ρ func254 rfl rfl ntmps254 rfl rfl I ?_
 rotate_left
 refine Μ.body Ρ func225 rfl rfl ntmps225 rfl rfl I ?_
 all_goals
  refine Τ ?_;obtain⟨R,X⟩:=ZG (Go.Sort.siftDown (υ b) hi first lo d);rw[X];refine W.iter (λq:Nat×Array (Int×Int)=>q.2.size=n/\q.1<=n/\Go.Sort.siftDown (υ b) hi first q.1 q.2=R) (λq=>[(0,.ms 0 n 0 n),(2,J hi),(3,J first),(4,a),(10,J (q.1:Nat))]) (λq=>[.cells _ _ ((q.2).toList.map _)]) (λq=>hi-q.1) (lo,d) ⟨af,ag,X⟩ rfl I (λq ah ai=>?_);obtain⟨r,e⟩:=q;obtain⟨D,aj,f⟩:=ah;simp only at D aj f;obtain⟨c,ak⟩:=Η (2*r+1);obtain⟨M,N⟩:=Η (c+1);obtain⟨ο,al⟩:=Η (first+r);obtain⟨O,am⟩:=Η (first+c);obtain⟨fd,an⟩:=Η (first+(c+1));have w1:i64.wrap (2*(r:Int))=2*(r:Int):=by rw[i64_in _ U]
  have ao:i64.wrap (2*(r:Int)+1)=(c:Int):=by rw[i64_in _ U];omega
  have P:i64.wrap ((c:Int)+1)=(M:Int):=by rw[i64_in _ U];omega
  have ap:i64.wrap ((first:Int)+(c:Int))=(O:Int):=by rw[i64_in _ U];omega
  have aq:i64.wrap ((O:Int)+1)=(fd:Int):=by rw[i64_in _ U];omega
  have Y:i64.wrap ((first:Int)+(r:Int))=(ο:Int):=by rw[i64_in _ U];omega
  refine W.to (σ':=[.cells _ _ ((e).toList.map _)]) (env':=[(0,.ms 0 n 0 n),(2,J hi),(3,J first),(4,a),(10,J (r:Nat))]) ?_ rfl I;refine Γ (Υ w1 ao) ?_;by_cases Z:hi<=c
  .refine Α (by simp[Z]) ?_;refine W.exit rfl ?_;exact W.nil ⟨_,rfl,rfl,by rw[<-f,Go.Sort.siftDown,dif_pos U]⟩
  refine Ζ (by simp[Z]) ?_;obtain⟨B,u⟩:=Η ((decide (c+1<hi)&&υ b e[first+c]! e[first+(c+1)]!):Bool);obtain⟨k,v⟩:∃k,k=if B=true then c+1 else c:=⟨_,rfl⟩
  have aA:k<hi:=by
   rw[v];split
   .rename_i h;rw[h] at u;have:=u.symm;simp at this;omega
   .omega
  have ar:=BN (υ b) hi first r e (k:=k) ak U (by rw[<-u];exact v)
  rw[ar] at f
  repeat apply Ξ
  refine W.M' (A:=[]) Ρ mixed [(40,Z4 B),(0,.ms 0 n 0 n),(2,J hi),(3,J first),(4,a),(10,J r),(11,J c)] ?_ (by
   by_cases E:M<hi
   .have g:O<n:=U
    have i:fd<n:=U;obtain⟨L,x,y,j,w,C,F,⟨l,m⟩,⟨o,p⟩,-,-⟩:=T1 enc D g i;simp only[V] at j l m o p;have Q:B=υ b x y:=by rw[u,<-w,<-C,am,an];simp[<-N,E]
    have au:(M:Int)<hi:=U;rw[j];clear w C;simp;(repeat (rw[ZK];simp[P,ap,aq,E,au,F,l,m,o,p,g,i]));(try rw[ZL]);refine Yl (T x y) ?_;simp;(repeat (rw[ZK];simp));(try rw[ZL]);refine⟨XD (by kernel_rfl),?_⟩;simp[Q,υ]
   .have Q:B=false:=by rw[u];simp[<-N,E]
    simp;(repeat (rw[ZK];simp[P,E]));(try rw[ZL]);refine⟨XD (by kernel_rfl),?_⟩;simp[Q])
  have aB:r<k:=by rw[v];split<;>omega
  repeat apply Ξ
  refine W.sR [(0,.ms 0 n 0 n),(2,J hi),(3,J first),(4,a),(10,J (r:Nat)),(11,J (k:Nat))] e ?_ ?_
  .cases B with
   | true=>
    refine Α rfl ?_;refine Tb P ?_;exact W.stop ⟨rfl,rfl,by simp[v,N]⟩
   | false=>
    refine Ζ rfl ?_;refine W.skip ?_;exact W.stop ⟨rfl,rfl,by simp[v]⟩
  obtain⟨H,av⟩:=Η (first+k);rw[<-al,<-av] at f;have aa:i64.wrap ((first:Int)+(k:Int))=(H:Int):=by rw[i64_in _ U];omega
  have g:ο<n:=U
  have i:H<n:=U;obtain⟨L,x,y,j,w,C,F,⟨l,m⟩,⟨o,p⟩,ab,aC,ad⟩:=T1 enc D g i;simp only[V] at j l m o p ab ad;rw[w,C] at f;refine W.H6 j [(0,.ms 0 n 0 n),(2,J hi),(3,J first),(4,a),(10,J (r:Nat)),(11,J (k:Nat))] I ?_;clear w C
  repeat apply Ξ
  refine W.draw (A:=[]) Ρ mixed λaD aw=>V8 (Υ Y (Υ aa (Υ F (Υ l (Υ m (Υ o (Υ p (Υ g i)))))))) ?_;refine Yl (T x y) ?_;simp;(repeat (rw[ZK];simp));try rw[ZL]
  refine Y8 (aw _ _ ?_);by_cases K:b x y<0
  .refine Ζ (by simp[K]) ?_
   repeat apply Ξ
   refine XI (Υ Y (Υ aa (Υ F (Υ l (Υ m (Υ o (Υ p (Υ ad (Υ g i))))))))) ?_;refine Τ ?_;refine W.to (ai (k,swp e ο H) ⟨swp_size D ο H,ZD,?_⟩ ZD) (by rw[ab]) I;rw[<-f];simp[K,υ]
  .refine Α (by simp[K]) ?_;refine Τ ?_;exact W.ret ⟨_,rfl,rfl,by rw[<-j,<-f];simp[K,υ]⟩
theorem sH (S:Tz) (O:S=Wx\/S=Ww) (d:Array (Int×Int)) (n a b:Nat) (P:d.size=n) (Q:n<2 ^ 40) (am:a<b) (an:b<=n) (f:Ω) (c:Int×Int->Int×Int->Int) (R:ς 0 f) (T:∀x y,XS prog f [S.enc x,S.enc y] (J (c x y))) :
  Μ prog S.heapSort [.ms 0 n 0 n,J a,J b,f] [.cells S.t S.k ((d).toList.map S.enc)] (λr s=>r=.ZW []/\s=[.cells S.t S.k ((Go.Sort.heapSort (υ c) d a b).toList.map S.enc)]) (λ_ _=>False):=by
 have V:=sI S O;rcases O with rfl|rfl
 all_goals dsimp only[Wx,Ww] at *
 refine Μ.body Ρ func235 rfl rfl ntmps235 rfl rfl I ?_
 rotate_left
 refine Μ.body Ρ func184 rfl rfl ntmps184 rfl rfl I ?_
 all_goals
  obtain⟨m,ae⟩:=ZG (b-a);have w1:i64.wrap ((b:Int)-(a:Int))=(m:Int):=by rw[i64_in _ U];omega
  have w:i64.wrap ((m:Int)-1)=((m-1:Nat):Int):=Wf U U
  have X:i64.wrap (((m-1:Nat):Int) / 2)=(((m-1) / 2:Nat):Int):=OZ (m:=2) U;obtain⟨ao,B⟩:=Η (m-1);obtain⟨C,Y⟩:=Η ((m-1) / 2);rw[<-Y,<-B] at X;rw[<-B] at w;have wp:∀k:Nat,k<=n->i64.wrap ((k:Int)-1)=(k:Int)-1:=λk v=>by rw[i64_in _ U]
  obtain⟨o,D⟩:=ZG (heapBuild (υ c) m a (C+1) d);have Z:Go.Sort.heapSort (υ c) d a b=heapPop (υ c) a m o:=by unfold Go.Sort.heapSort;rw[ae,<-Y,D]
  refine Γ (Υ w1 (Υ w X)) ?_;refine W.Xn [(0,.ms 0 n 0 n),(3,f),(8,J a),(9,J 0),(10,J m)] o ?_ ?_
  .refine W.iter (λq:Nat×Array (Int×Int)=>q.2.size=n/\q.1<=C+1/\heapBuild (υ c) m a q.1 q.2=o) (λq=>[(0,.ms 0 n 0 n),(3,f),(8,J a),(9,J 0),(10,J m),(11,.z (.int .i64 ((q.1:Int)-1)))]) (λq=>[.cells _ _ ((q.2).toList.map _)]) (λq=>q.1) (C+1,d) ⟨P,γ _,D⟩ rfl I (λq E H=>?_);obtain⟨k,e⟩:=q;obtain⟨g,v,l⟩:=E;simp only at g v l;cases k with
   | zero=>
    refine Τ ?_;refine Ζ rfl ?_;refine W.exit rfl ?_;exact W.stop ⟨rfl,by rw[<-l];rfl,I⟩
   | succ k=>
    have K:(0:Int)<=(k:Int):=U;refine W.to (σ':=[.cells _ _ ((e).toList.map _)]) (env':=[(0,.ms 0 n 0 n),(3,f),(8,J a),(9,J 0),(10,J m),(11,.z (.int .i64 ((k:Int))))]) ?_ rfl I;refine Γ K ?_;refine Α I ?_;refine Z' λaa u=>?_;refine Μ.call (first:=[]) (captured:=[]) ((V e n k m a g Q U U f c R T).mono (λr s ⟨M,N⟩=>?_) (λ_ _ h=>h.elim));subst M;subst N;simp;(repeat (rw[Ν];simp));apply u;refine Γ (wp k U) ?_;exact W.to (H (k,Go.Sort.siftDown (υ c) m a k e) ⟨K1 g,ZD,l⟩ I) rfl (by simp[wp k U])
  obtain⟨af,ab⟩:=ZG (heapPop (υ c) a m o);have ag:o.size=n:=by rw[<-D];exact FL P
  rw[ab] at Z;refine Γ w ?_;refine W.iter (λq:Nat×Array (Int×Int)=>q.2.size=n/\q.1<=m/\heapPop (υ c) a q.1 q.2=af) (λq=>[(0,.ms 0 n 0 n),(3,f),(8,J a),(9,J 0),(10,J m),(12,.z (.int .i64 ((q.1:Int)-1)))]) (λq=>[.cells _ _ ((q.2).toList.map _)]) (λq=>q.1) (m,o) ⟨ag,γ _,ab⟩ rfl (by simp[B];omega) (λq E H=>?_);obtain⟨k,e⟩:=q;obtain⟨g,v,l⟩:=E;simp only at g v l;cases k with
  | zero=>
   refine Τ ?_;refine Ζ rfl ?_;refine W.exit rfl ?_;exact W.nil ⟨_,rfl,rfl,by rw[Z,<-l];rfl⟩
  | succ k=>
   have K:(0:Int)<=(k:Int):=U;obtain⟨p,ah⟩:=Η (a+k);have ai:i64.wrap ((a:Int)+(k:Int))=(p:Int):=by rw[i64_in _ U];omega
   refine W.to (σ':=[.cells _ _ ((e).toList.map _)]) (env':=[(0,.ms 0 n 0 n),(3,f),(8,J a),(9,J 0),(10,J m),(12,.z (.int .i64 ((k:Int))))]) ?_ rfl I;refine Γ K ?_;refine Α I ?_;refine W.two _ g (i:=a) (j:=p) U U λL x y z aj ak F al ad=>?_
   repeat apply Ξ
   refine W.draw (A:=[]) Ρ mixed λaa u=>?_;simp;(repeat (rw[ZK];simp[F,ai]));try rw[ZL];refine Y8 (u _ _ ?_)
   refine W.back ad [(0,.ms 0 n 0 n),(3,f),(8,J a),(9,J 0),(10,J m),(12,.z (.int .i64 ((k:Int))))] I ?_;clear F ad al aj ak L x y z;refine Z' λaa u=>?_;refine Μ.call (first:=[]) (captured:=[]) ((V (swp e a p) n 0 k a (swp_size g a p) Q U U f c R T).mono (λr s ⟨M,N⟩=>?_) (λ_ _ h=>h.elim));subst M;subst N;simp;(repeat (rw[Ν];simp));apply u;refine Γ (wp k U) ?_;exact W.to (H (k,Go.Sort.siftDown (υ c) k a 0 (swp e a p)) ⟨K1 (swp_size g a p),ZD,by rw[ah];exact l⟩ I) rfl (by simp[wp k U])
theorem sG (S:Tz) (p:S=Wx\/S=Ww) (d:Array (Int×Int)) (n a b:Nat) (u:d.size=n) (M:n<2 ^ 40) (N:a<b) (O:b<=n) (g:Ω) (v:Int×Int->Int×Int->Int) (P:ς 0 g) (Q:∀x y,XS prog g [S.enc x,S.enc y] (J (v x y))) :
  Μ prog S.reverseRange [.ms 0 n 0 n,J a,J b,g] [.cells S.t S.k ((d).toList.map S.enc)] (λr s=>r=.ZW []/\s=[.cells S.t S.k ((Go.Sort.reverseRange d a b).toList.map S.enc)]) (λ_ _=>False):=by
 rcases p with rfl|rfl
 all_goals dsimp only[Wx,Ww] at *
 refine Μ.body Ρ func238 rfl rfl ntmps238 rfl rfl I ?_
 rotate_left
 refine Μ.body Ρ func187 rfl rfl ntmps187 rfl rfl I ?_
 all_goals
  have w1:=Wf (i:=b) U U;refine Γ w1 ?_;refine W.iter (λq:Nat×Nat×Array (Int×Int)=>q.2.2.size=n/\q.1<n/\q.2.1<n/\reverseLoop q.1 q.2.1 q.2.2=Go.Sort.reverseRange d a b) (λq=>[(0,.ms 0 n 0 n),(8,J (q.1:Nat)),(9,J (q.2.1:Nat))]) (λq=>[.cells _ _ ((q.2.2).toList.map _)]) (λq=>q.2.1-q.1) (a,b-1,d) ⟨u,ZD,ZD,rfl⟩ rfl (by simp[w1]) (λq w B=>?_);obtain⟨i,j,e⟩:=q;obtain⟨h,hi,C,c⟩:=w;simp only at h hi C c;rw[reverseLoop] at c;refine W.to (σ':=[.cells _ _ ((e).toList.map _)]) (env':=[(0,.ms 0 n 0 n),(8,J (i:Nat)),(9,J (j:Nat))]) ?_ rfl I;refine Τ ?_;by_cases f:i<j
  .refine Α (by simp[f]) ?_;rw[if_pos f] at c;have l:=Yt (i:=i) U;have m:=Wf (i:=j) U U;refine W.two _ h (i:=i) (j:=j) U U λL x y z D E F H o=>?_
   repeat apply Ξ
   refine W.draw (A:=[]) Ρ mixed λR K=>?_;simp;(repeat (rw[ZK];simp[F]));try rw[ZL];refine Y8 (K _ _ ?_)
   refine W.back o [(0,.ms 0 n 0 n),(8,J (i:Nat)),(9,J (j:Nat))] I ?_;clear F o H D E L x y z;refine Γ (Υ l m) ?_;exact W.to (B (i+1,j-1,swp e i j) ⟨swp_size h i j,ZD,ZD,c⟩ ZD) rfl (by simp[l,m])
  .refine Ζ (by simp[f]) ?_;refine W.exit rfl ?_;rw[if_neg f] at c;exact W.nil ⟨_,rfl,rfl,by rw[c]⟩
theorem sF (S:Tz) (B:S=Wx\/S=Ww) (d:Array (Int×Int)) (n a b s:Nat) (C:d.size=n) (h:a<n) (i:b<n) (K:s<2 ^ 40) (f:Ω) (c:Int×Int->Int×Int->Int) (M:ς 0 f) (D:∀x y,XS prog f [S.enc x,S.enc y] (J (c x y))) :
  Μ prog S.order2 [.ms 0 n 0 n,J a,J b,.Κ 1 1 0 0,f] [.cells S.t S.k (d.toList.map S.enc),.cells 3 1 [J s]] (λr σ=>r=.ZW [J (Go.Sort.order2 (υ c) d a b s).1,J (Go.Sort.order2 (υ c) d a b s).2.1]/\σ=[.cells S.t S.k (d.toList.map S.enc),.cells 3 1 [J (Go.Sort.order2 (υ c) d a b s).2.2]]) (λ_ _=>False):=by
 obtain⟨enc,E⟩:=Η S.enc;rcases B with rfl|rfl
 all_goals dsimp only[Wx,Ww] at *
 refine Μ.body Ρ func258 rfl rfl ntmps258 rfl rfl I ?_
 rotate_left
 refine Μ.body Ρ func252 rfl rfl ntmps252 rfl rfl I ?_
 all_goals
  obtain⟨L,x,y,g,j,l,F,⟨m,o⟩,⟨p,u⟩,-,-⟩:=T1 enc C h i;simp only[E] at g m o p u;have v:i64.wrap ((s:Int)+1)=((s+1:Nat):Int):=by rw[i64_in _ U];omega
  have w:Go.Sort.order2 (υ c) d a b s=if υ c y x=true then(b,a,s+1) else(a,b,s):=by unfold Go.Sort.order2;rw[j,l]
  rw[w,g];clear g j l w;refine Τ ?_;refine W.draw (A:=[]) Ρ mixed λN H=>V8 (Υ F (Υ m (Υ p (Υ o u)))) ?_;refine⟨i,h,?_⟩;refine Yl (D y x) ?_;simp;(repeat (rw[ZK];simp));try rw[ZL]
  refine Y8 (H _ _ ?_);by_cases e:c y x<0
  .refine Α (by simp[e]) ?_;refine Γ v ?_;exact W.ret ⟨_,rfl,by simp[υ,e],by simp[υ,e]⟩
  .refine Ζ (by simp[e]) ?_;refine Γ v ?_;exact W.ret ⟨_,rfl,by simp[υ,e],by simp[υ,e]⟩
section
variable {α:Type} [Inhabited α]
theorem BJ (lt:α->α->Bool) (d:Array α) {b:Nat}:∀(m i:Nat),b-i<=m->i<=b->i<=scanSorted lt d b i/\scanSorted lt d b i<=b:=by
 intro m
 induction m with
 | zero=>intro i h hi;rw[scanSorted,if_neg (by simp;omega)];omega
 | succ m a=>
  intro i h hi;rw[scanSorted];split
  .rename_i c;simp only[Wt,decide_eq_true_eq] at c;have:=a (i+1) U U;omega
  .omega
theorem BI (lt:α->α->Bool) {n:Nat}:∀(j:Nat) (d:Array α),d.size=n->(shiftDown lt j d).size=n:=by
 intro j
 induction j with
 | zero=>intro d h;exact h
 | succ j a=>
  intro d h;rw[shiftDown];split
  .exact h
  .exact a _ (swp_size h _ _)
theorem BH (lt:α->α->Bool) {b n:Nat}:∀(m j:Nat) (d:Array α),b-j<=m->d.size=n->(shiftUp lt b j d).size=n:=by
 intro m
 induction m with
 | zero=>intro j d h hd;rw[shiftUp,if_neg U];exact hd
 | succ m a=>
  intro j d h hd;rw[shiftUp];split
  .split
   .exact hd
   .exact a _ _ U (swp_size hd _ _)
  .exact hd
theorem Mz (lt:α->α->Bool) (d:Array α) {i n:Nat} (f:1<=i) (hi:i+1<n) (s:Nat):(Go.Sort.medianAdjacent lt d i s).1<n/\(Go.Sort.medianAdjacent lt d i s).2<=s+3:=by
 unfold Go.Sort.medianAdjacent Go.Sort.median;have f1:=PC lt d (a:=i-1) (b:=i) (n:=n) U U s;generalize Go.Sort.order2 lt d (i-1) i s=c at f1 ⊢;have f2:=PC lt d (a:=c.2.1) (b:=i+1) (n:=n) U hi c.2.2;simp only;generalize Go.Sort.order2 lt d c.2.1 (i+1) c.2.2=e at f2 ⊢;have f3:=PC lt d (a:=c.1) (b:=e.1) (n:=n) U U e.2.2;generalize Go.Sort.order2 lt d c.1 e.1 e.2.2=g at f3 ⊢;omega
end
end Go.TL
