import Derived.Test.YtlabjopijpkiaaaGreatJAZ
set_option maxHeartbeats 16000000
set_option maxRecDepth 20000
set_option linter.unusedSectionVars false
set_option linter.unusedSimpArgs false
set_option linter.unusedVariables false
namespace Go.TL
open Go.Proofs.Tryz
open Go.Conc
open Go.ConcM (OsLater)
open Go.ConcN (sumTo upd sumTo_upd upd_ne upd_same sumTo_congr le_sumTo)
section
variable {P:Program} {Q:Value->Prop} {mn:Bool} {x:W2} {cs:List Frame} {H:Χ} {b f:Frame} {t:Array Value} {k:List Item}
variable [ZX]
section moves
variable (X8:Seq x) (hb:b.mode=.run)
include X8 hb
theorem ι.label {l:Nat} (h:ι P Q mn x (ο b t k) cs H):ι P Q mn x (ο b t (.code (.label l)::k)) cs H:=.to X8 hb (λ_=>rfl) h
theorem ι.scope {c:Code} (h:ι P Q mn x (ο b t (.code c::.inScope c::k)) cs H):ι P Q mn x (ο b t (.code (.scope c)::k)) cs H:=.to X8 hb (λ_=>rfl) h
end moves
end
end Go.TL
namespace Go.TL
open Go.Proofs.Tryz
open Go.Conc
variable [ZX]
section
variable {P:Program} {m nt:Nat} {k:List Item} {env:ω} {σ:Ο} {Z:X7} {E:Yn}
theorem W.label {l:Nat} (h:W P m nt k env σ Z E):W P m nt (.code (.label l)::k) env σ Z E:=λd mn x cs b S B H t a c e f g=>.label a c (h d mn x cs b S B H t a c e f g)
theorem W.scope {c:Code} (h:W P m nt (.code c::.inScope c::k) env σ Z E):W P m nt (.code (.scope c)::k) env σ Z E:=λe mn x cs b S B H t a d f g i=>.scope a d (h e mn x cs b S B H t a d f g i)
end
section
variable {P:Program} {T:ZR} {A:List Nat} {m nt:Nat} {k:List Item} {env env':ω} {σ:Ο} {Z:X7} {E:Yn} {ops:Array Oper}
theorem HN {P:Program} {f:Ω} {args:κ} {σ σ':Ο} {c:Ω->Prop} {b:Ω->Ο->Prop} {r:Ω} (h:WA P f args σ (λa s=>a=r/\s=σ') (λ_ _=>False)) (k:b r σ'):dcall P f args σ c b:=.inr ⟨r,σ',h,k⟩
end
end Go.TL
namespace Go.TL
open Go.Proofs.Tryz
open Go.Proofs
variable [ZX]
theorem KO (l:List Int) (n:Int) (k:l.length<2 ^ 62):Ε prog 71 [Z9 J 1 l,J n] (J (if n∈l then(l.idxOf n:Nat) else -1)):=by
 refine Μ.body Ρ func71 rfl rfl ntmps71 rfl rfl I ?_;refine Τ ?_;refine W.iter (λi:Nat=>i<=l.length/\∀j,j<i->(h:j<l.length)->l[j]≠n) (λi=>[(0,Z9 J 1 l),(1,J n),(5,J i)]) (λ_=>[]) (λi=>l.length-i) 0 ⟨χ _,λj d=>U⟩ rfl I (λi hi m=>?_)
 repeat apply Ξ
 by_cases a:i<l.length
 .refine Γ a ?_;refine W.Yv rfl (λf=>?_) (λf=>?_)
  .have b:l[i]≠n:=by simpa using f
   refine Τ ?_;refine W.forget _ ?_ (m (i+1) ⟨a,λj d h=>?_⟩ U)
   .simp[X5 a k]
   .by_cases e:j=i
    .subst e;exact b
    .exact hi.2 j U h
  .have b:l[i]=n:=by simpa using f
   refine W.exit rfl ?_;refine Τ ?_;have o:¬i=l.length:=U;refine Ζ (by simp[o]) ?_;refine Τ ?_;refine W.rt ?_;have c:n∈l:=b▸YF _;refine .of ?_;rw[if_pos c];have:l.idxOf n=i:=by
    have g:l.idxOf n<l.length:=List.idxOf_lt_length_of_mem c
    have r:l[l.idxOf n]=n:=List.getElem_idxOf g
    have t:¬l.idxOf n<i:=λh=>hi.2 _ h g r
    have u:¬i<l.idxOf n:=λh=>by
     have:=List.not_of_lt_findIdx (p:=(·==n)) (xs:=l) (i:=i) h;simp[b] at this
    omega
   rw[this];rfl
 .refine Γ a ?_;refine Ζ rfl ?_;refine W.exit rfl ?_;refine Τ ?_;have s:i=l.length:=U;refine Α (by simp[s]) ?_;refine Τ ?_;refine W.rt ?_;have c:n∉l:=λh=>by
   obtain⟨j,d,e⟩:=OO h;exact hi.2 j U d e
  exact .of (by simp[c])
def Mp (s:ψ) (F:List Found) (cell:Int) (lower:Bool):List Int×Int:=
 if(Xp s cell F).2.2=0 then(Yb F cell.toNat lower,0) else([],(Xp s cell F).2.2)
theorem py (s:ψ) (f:s.small) (F:List Found) (g:S9 s F) (cell:Int) (lower:Bool) (N:Nat) (i:N<2 ^ 20) (j:N5 N) (k:(Xp s cell F).2.2=0->KZ s F lower N) :
  Ε prog 57 [Yz s,J cell,Z4 lower] (.ZW [Z9 J 1 (Mp s F cell lower).1,J (Mp s F cell lower).2]):=by
 refine Μ.body Ρ func57 rfl rfl ntmps57 rfl rfl I ?_;refine Τ ?_;refine Y1 ?_;refine Y4 (A:=[8]) Ρ λl a=>Z6 ?_;refine Ε.d (GJ s f cell F g) (Z6 ?_);apply a;by_cases b:(Xp s cell F).2.2=0
 case neg=>
  have e:Mp s F cell lower=([],(Xp s cell F).2.2):=if_neg b;rw[e];generalize (Xp s cell F).2.2=m at b;refine Τ ?_;refine Α (by simp[b]) ?_;refine Τ ?_;refine W.drop (h:=0) (χ _) (χ _) I rfl [(6,.sl true 0 []),(7,J m)] I ?_;refine W.rt ?_;exact .ZW (.cons .nil (.cons (.refl _) .nil))
 have e:Mp s F cell lower=(Yb F cell.toNat lower,0):=if_pos b;obtain⟨r,t,o⟩:=F6 b;obtain⟨n,rfl⟩:∃n:Nat,cell=n:=⟨cell.toNat,U⟩;rw[e,o];have p:=(k b).call i j (c:=n) U;refine Τ ?_;refine Ζ rfl ?_;refine Z' λl a=>?_;refine Ε.d (p) (Z6 ?_);apply a;refine W.drop (h:=0) (χ _) (χ _) I rfl [(6,Z9 J 1 (Yb F n lower)),(7,J 0)] I ?_;refine W.rt ?_;exact .refl _
theorem px:∀(n:Nat) (l:List Int),l.Nodup->(∀x∈l,0<=x/\x<n)->l.length<=n:=by
 intro n
 induction n with
 | zero=>
  intro l _ h;cases l with
  | nil=>simp
  | cons x l=>have:=h x I;omega
 | succ n c=>
  intro l hd h;have b:=c (l.erase n) (hd.erase _) λx a=>by
   have a:=hd.mem_erase_iff.1 a
   have:=h x a.2;omega
  rw[List.length_erase] at b;split at b<;>omega
theorem Rf.Ut {n:Nat} {c:List Zw} (h:Rf n c):c.length<=n:=by
 have:=px n (c.map (·.Ys)) h.apart λx a=>by
  obtain⟨p,b,rfl⟩:=Zq.1 a;exact(h.each p b).1
 simpa using this
theorem pw (l:List Int) (n:Int) (k:l.length<2 ^ 62):Μ prog 137 [.ms 0 l.length 0 l.length,J n] [.cells 3 1 (l.map J)] (λa s=>a=J (idxOf (·==n) l)/\s=[.cells 3 1 (l.map J)]) (λ_ _=>False):=by
 refine Μ.body Ρ func137 rfl rfl ntmps137 rfl rfl I ?_;refine Τ ?_;refine W.iter (λi:Nat=>i<=l.length/\∀j,j<i->(h:j<l.length)->(l[j]==n)=false) (λi=>[(0,.ms 0 l.length 0 l.length),(1,J n),(6,.ms 0 l.length 0 l.length),(7,J l.length),(8,J i)]) (λ_=>[.cells 3 1 (l.map J)]) (λi=>l.length-i) 0 ⟨χ _,λj c=>U⟩ rfl I (λi hi m=>?_);refine Τ ?_;refine W.Yv rfl (λb=>?_) (λb=>?_)
 .have b:i<l.length:=by simpa using b
  refine Γ b ?_;refine W.Yv rfl (λd=>?_) (λd=>?_)
  .have f:n=l[i]:=by simpa using d
   refine Τ ?_;refine W.ret ⟨_,rfl,?_,rfl⟩;show J i=_;rw[LD b (by simp[f]) hi.2]
  .have f:¬n=l[i]:=by simpa using d
   have g:=X5 b k;refine Γ g ?_;refine W.to (m (i+1) ⟨U,λj c h=>?_⟩ U) rfl (by simp[g]);by_cases e:j=i
   .subst e;simpa using λx=>f x.symm
   .exact hi.2 j U h
 .have b:l.length<=i:=by simpa using b
  refine W.exit rfl ?_;refine Τ ?_;refine W.ret ⟨_,rfl,?_,rfl⟩;show J (-1)=_;rw[LC λj c=>hi.2 j U c]
theorem pv (l:List Int) (n:Int) (b:l.length<2 ^ 62):Μ prog 110 [.ms 0 l.length 0 l.length,J n] [.cells 3 1 (l.map J)] (λa s=>a=Z4 (l.contains n)/\s=[.cells 3 1 (l.map J)]) (λ_ _=>False):=by
 refine Μ.body Ρ func110 rfl rfl ntmps110 rfl rfl I ?_;refine Τ ?_;refine Z' λf c=>?_;refine Μ.call (first:=[]) (captured:=[]) ((pw l n b).mono (λa s ⟨d,e⟩=>?_) (λ_ _ h=>h.elim));subst d;subst e;simp;(repeat (rw[Ν];simp));apply c;refine Τ ?_;refine W.ret ⟨_,rfl,?_,rfl⟩;rw[<-any_beq,<-LB];simp
def Vk (l:List Int) (n:Nat) (a:List Zw) (i:Nat):List Zw:=(List.range i).filterMap λk=>if l.contains ((n+k:Nat):Int) then none else a[k]?
def Vj (C:List (List Zw)) (c:Nat):Nat:=((C.take c).map List.length).sum
def OV (l:List Int) (C:List (List Zw)) (c:Nat):List Zw:=Vk l (Vj C c) (C.getD c []) (C.getD c []).length
def ψ.Rc (s:ψ) (l:List Int):ψ:=⟨s.Ι,s.Δ,(List.range s.cells.length).map (OV l s.cells)⟩
theorem AB (l:List Int) (n:Nat) (a:List Zw):Vk l n a 0=[]:=rfl
theorem E9 (l:List Int) (n:Nat) (a:List Zw) {i:Nat} (h:i<a.length):Vk l n a (i+1)=Vk l n a i++if l.contains ((n+i:Nat):Int) then [] else [a[i]]:=by
 unfold Vk;rw[V0,Ql];congr 1;cases b:l.contains ((n+i:Nat):Int)<;>simp only[List.filterMap_cons,List.filterMap_nil,b]<;>simp[h]
theorem pt (l:List Int) (n:Nat) (a:List Zw) (i:Nat):(Vk l n a i).length<=i:=by
 unfold Vk;exact X' (KG _ _) I
theorem E8 (C:List (List Zw)) {c:Nat} (h:c<C.length):Vj C (c+1)=Vj C c+C[c].length:=by
 unfold Vj;rw[We h];simp only[Yc,Ml,Xg,UA,List.sum_cons,List.sum_nil,Nat.add_zero]
theorem AA (C:List (List Zw)) {m:Nat} (h:∀x∈C,x.length<m) (c:Nat):Vj C c<=c*m:=by
 unfold Vj
 induction c with
 | zero=>simp
 | succ c a=>
  by_cases b:c<C.length
  .rw[We b];have:=h _ (YF b);simp only[Yc,Ml,Xg,UA,List.sum_cons,List.sum_nil,Nat.add_zero,Nat.succ_mul];omega
  .rw[U4 U];rw[U4 U] at a;exact X' a (Tr _ (Nat.le_succ c))
abbrev Rb (l:List Int) (C:List (List Zw)) (c:Nat):Ω:=YC 3 ((OV l C c).map Zv)
theorem E7 {L:List Zw}:∀e∈L.map Zv,∀a∈e.cells,ς 0 a:=λe c a b=>by
 obtain⟨x,_,rfl⟩:=Zq.1 c;simp[Ω.cells] at b;rcases b with rfl|rfl|rfl<;>exact .z _
theorem ps {l:List Int} {C:List (List Zw)} {r:List Nat}:∀e∈r.map (Rb l C),∀a∈e.cells,ς 0 a:=λe c a b=>by
 obtain⟨x,_,rfl⟩:=Zq.1 c;unfold Rb YC at b;split at b
 .simp[Ω.cells] at b;subst b;simp
 .simp[Ω.cells] at b;subst b;exact YG.2 E7
abbrev Tw (l:List Int) (s:ψ):Ο:=[.cells 3 1 (l.map J),YY (ν s.Ι) (ξ s.Δ) (Z2 s.cells),YY Z5 Z5 Z5]
theorem Az (l:List Int) (s:ψ) (h:Nat):∀r∈Tw l s,X6 h r:=λr d=>by
 simp only[Y6,Ya,or_false] at d;rcases d with rfl|rfl|rfl
 .intro e c a b;obtain⟨x,_,rfl⟩:=Zq.1 c;simp[Ω.cells] at b;subst b;exact .z _
 .intro e c a b;simp[Ω.cells] at c;subst c;simp[Ω.cells] at b;rcases b with rfl|rfl|rfl<;>simp
 .intro e c a b;simp[Ω.cells] at c;subst c;simp[Ω.cells] at b;subst b;simp
theorem pq (s:ψ) (aM:s.small) (l:List Int) (aN:l.length<2 ^ 20) (aO:s.cells.length<2 ^ 20) (af:∀x∈s.cells,x.length<2 ^ 20) :
  Μ prog 115 [Yz s,.ms 0 l.length 0 l.length] [.cells 3 1 (l.map J)] (λa r=>Zh a (Yz (s.Rc l))/\r=[.cells 3 1 (l.map J)]) (λ_ _=>False):=by
 refine Μ.body Ρ func115 rfl rfl ntmps115 rfl rfl I ?_
 repeat apply Ξ
 refine Y4 (A:=[2,4]) Ρ λag F=>Z6 ?_;apply F;refine Τ ?_;have ar:=λc=>AA s.cells af c;refine W.iter (λc:Nat=>c<=s.cells.length) (λc=>[(1,.ms 0 l.length 0 l.length),(2,.Κ 1 1 0 0),(4,.Κ 2 1 0 0),(5,J (Vj s.cells c)),(6,ZV 3 ((List.range c).map (Rb l s.cells))),(13,Z2 s.cells),(14,J s.cells.length),(15,J c)]) (λc=>Tw l s++η 60 1 ((List.range c).map (Rb l s.cells))) (λc=>s.cells.length-c) 0 (χ _) (by simp[Wy]) (by simp[ZV,Vj]) (λc aP R=>?_);obtain⟨b,B⟩:=Η ((List.range c).map (Rb l s.cells));have S:∀e∈b,∀a∈e.cells,ς 0 a:=by rw[B];exact ps
 refine W.to (σ':=Tw l s++η 60 1 b) (env':=[(1,.ms 0 l.length 0 l.length),(2,.Κ 1 1 0 0),(4,.Κ 2 1 0 0),(5,J (Vj s.cells c)),(6,ZV 3 b),(13,Z2 s.cells),(14,J s.cells.length),(15,J c)]) ?_ (by rw[B]) (by rw[B];simp);refine Τ ?_;by_cases C:c<s.cells.length
 .refine Α (by simp[C]) ?_;have T:=δ C;have au:=af _ (YF C);have ah:=E8 s.cells C;have av:=ar c;have X:OV l s.cells c=Vk l (Vj s.cells c) s.cells[c] s.cells[c].length:=by
   unfold OV;rw[Xr,T];rfl
  obtain⟨g,ai⟩:=Η (s.cells[c]);rw[<-ai] at T au ah X;have aw:∀h,s.cells[c]'h=g:=λh=>ai.symm;obtain⟨o,ax⟩:=Η (Vj s.cells c);have aQ:c*2 ^ 20<2 ^ 40:=by
   have:c*2 ^ 20<2 ^ 20*2 ^ 20:=Nat.mul_lt_mul_of_pos_right U ZY;exact this
  rw[<-ax] at ah X av ⊢;have ay:=Yt (i:=c) U;obtain⟨k,D⟩:=Η ((Tw l s++η 60 1 b).length);refine Γ (Υ C (Υ T aw)) ?_;refine W.iter (λi:Nat=>i<=g.length) (λi=>[(1,.ms 0 l.length 0 l.length),(2,.Κ 1 1 0 0),(4,.Κ 2 1 0 0),(5,J ((o+i:Nat))),(6,ZV 3 b),(13,Z2 s.cells),(14,J s.cells.length),(15,J c),(9,ZV k ((Vk l o g i).map Zv)),(19,U' g),(20,J g.length),(21,J i)]) (λi=>Tw l s++η 60 1 b++η 28 3 ((Vk l o g i).map Zv)) (λi=>g.length-i) 0 (χ _) (by rw[AB];simp[Wy]) (by rw[AB];simp[ZV]) (λi hi N=>?_);have az:=pt l o g i;obtain⟨m,H⟩:=Η (Vk l o g i);rw[<-H] at az;obtain⟨q,aj⟩:=Η (o+i);refine W.to (σ':=Tw l s++η 60 1 b++η 28 3 (m.map Zv)) (env':=[(1,.ms 0 l.length 0 l.length),(2,.Κ 1 1 0 0),(4,.Κ 2 1 0 0),(5,J q),(6,ZV 3 b),(13,Z2 s.cells),(14,J s.cells.length),(15,J c),(9,ZV k (m.map Zv)),(19,U' g),(20,J g.length),(21,J i)]) ?_ (by rw[H]) (by rw[H,aj];simp);refine Τ ?_;by_cases K:i<g.length
  .refine Α (by simp[K]) ?_;have w:=E9 l o g K;rw[<-H,<-aj] at w;have ak:=δ K;obtain⟨x,O⟩:=Η (g[i]);rw[<-O] at ak w;have aA:∀h,g[i]'h=x:=λh=>O.symm;obtain⟨n,p⟩:=Η (Tw l s++η 60 1 b++η 28 3 (m.map Zv));have aB:n[0]?=some (.cells 3 1 (l.map J)):=by rw[p];rfl
   have aR:3<=n.length:=by rw[p];simp
   have aC:n.set 0 (.cells 3 1 (l.map J))=n:=by rw[p];rfl
   have aD:∀h,∀r∈n,X6 h r:=λh r j=>by
    rw[p] at j;rcases Wd.1 j with j|j
    .rcases Wd.1 j with j|j
     .exact Az l s h r j
     .exact R7 S r j
    .exact R7 E7 r j
   have Y:ς n.length (ZV 3 b):=IS λd=>by rw[p,YZ d];simp
   have aE:ς n.length (ZV k (m.map Zv)):=IS λd=>by rw[p,YZ d,D];simp
   refine W.to (σ':=n) (env':=[(1,.ms 0 l.length 0 l.length),(2,.Κ 1 1 0 0),(4,.Κ 2 1 0 0),(5,J q),(6,ZV 3 b),(13,Z2 s.cells),(14,J s.cells.length),(15,J c),(9,ZV k (m.map Zv)),(19,U' g),(20,J g.length),(21,J i)]) ?_ (by rw[p];simp) I;have al:=Yt (i:=i) U;have am:=Yt (i:=q) U
   repeat apply Ξ
   refine Y4 (A:=[11]) Ρ λag F=>XJ (Υ K (Υ ak aA)) ?_;apply F;refine W.U9 (σ0:=n) (by simp;omega) (aD _) (by simp[Ω.cells]) [(1,.ms 0 l.length 0 l.length),(2,.Κ 1 1 0 0),(4,.Κ 2 1 0 0),(5,J q),(6,ZV 3 b),(13,Z2 s.cells),(14,J s.cells.length),(15,J c),(9,ZV k (m.map Zv)),(19,U' g),(20,J g.length),(21,J i),(11,.Θ [J x.Ys,J x.seen,J x.bare])] (by
    have y:0<n.length:=U
    have u:1<n.length:=U
    have aF:2<n.length:=U;simp[WV,Ux,Ω.cells,y,u,aF,Y,aE]) ?_
   refine Z' λag F=>?_;refine Μ.one (as0:=[.ms 0 l.length 0 l.length,J q]) (pv l q U) 0 aB (SH (f:=J) λx=>by simp[Ω.cells]) (SH (f:=J) λx=>by simp[Ω.cells]) (by simp[UG,ς.Wh]) ((ς.z _).Wh 1) (by simp[UF,TN]) ?_;simp[TN];(repeat (rw[Ν];simp));rw[aC];apply F;have an:q+1=o+(i+1):=U;by_cases P:(q:Int)∈l
   .refine Ζ (by simp[P]) ?_;have Z:l.contains (q:Int)=true:=by simpa using P
    rw[if_pos Z,Vw] at w;refine Γ (Υ al am) ?_;refine W.to (N (i+1) U U) (by rw[w,p]) ?_;rw[w,<-an];simp
   .refine Α (by simp[P]) ?_;have Z:¬l.contains (q:Int)=true:=by simpa using P
    rw[if_neg Z] at w
    repeat apply Ξ
    refine W.XV (A:=[32]) Ρ [(1,.ms 0 l.length 0 l.length),(2,.Κ 1 1 0 0),(4,.Κ 2 1 0 0),(5,J q),(6,ZV 3 b),(13,Z2 s.cells),(14,J s.cells.length),(15,J c),(9,ZV k ((m++[x]).map Zv)),(19,U' g),(20,J g.length),(21,J i)] (Tw l s++η 60 1 b++η 28 3 ((m++[x]).map Zv)) ?_ (by
     clear N R;by_cases d:m=[]
     .subst d;have v:ZV k (([]:List Zw).map Zv)=.sl true 0 []:=rfl;have Φ:n=Tw l s++η 60 1 b:=by rw[p];simp[Wy]
      rw[v,Φ];simp;(repeat (rw[Ν];simp));(try simp[ZV,η,D])
     .have ao:m.map Zv≠[]:=by simpa using d
      rw[XR ao,p,YZ ao];have aa:(Tw l s++η 60 1 b++[Row.cells 28 3 (m.map Zv)])[k]?=some (Row.cells 28 3 (m.map Zv)):=by rw[D];simp
      have aG:m.length<=4294967295:=U;simp;(repeat (rw[Ν];simp[aa,aG]));(try simp[ZV,η,D]);(try (rw[Ν];simp)))
    refine Γ (Υ al am) ?_;refine W.to (N (i+1) U U) (by rw[w];simp) ?_;rw[w,<-an];simp
  .refine Ζ (by simp[K]) ?_;have aH:i=g.length:=U;subst aH;refine W.exit rfl ?_;refine W.to (σ':=Tw l s++η 60 1 b++η 28 3 (m.map Zv)) (env':=[(1,.ms 0 l.length 0 l.length),(2,.Κ 1 1 0 0),(4,.Κ 2 1 0 0),(5,J q),(6,ZV 3 b),(13,Z2 s.cells),(14,J s.cells.length),(15,J c),(9,ZV k (m.map Zv))]) ?_ I I;refine W.cut (Tw l s++η 60 1 b).length I [(1,.ms 0 l.length 0 l.length),(2,.Κ 1 1 0 0),(4,.Κ 2 1 0 0),(5,J q),(6,ZV 3 b),(13,Z2 s.cells),(14,J s.cells.length),(15,J c),(9,YC 3 (m.map Zv))] I ?_ ?_ ?_
   .intro id r ap j;rw[YK ap] at j;have j:=Zi j;rcases Wd.1 j with j|j
    .exact Az l s _ r j
    .exact R7 S r j
   .have Y:ς (Tw l s++η 60 1 b).length (ZV 3 b):=IS λd=>by rw[YZ d];simp
    intro z d;simp only[Y6,Ya,or_false] at d;rcases d with rfl|rfl|rfl|rfl|rfl|rfl|rfl|rfl|rfl
    .exact .low (Ux.2 I)
    .exact .low (WV.2 I)
    .exact .low (WV.2 I)
    .exact .low I
    .exact .low Y
    .exact .low I
    .exact .low I
    .exact .low I
    .refine PL (t:=28) (by rw[D];exact γ _) (λd=>?_) (λe L a E=>ς.mono (E7 e L a E) (χ _));rw[YZ d,D];simp
   have aI:q=Vj s.cells (c+1):=U
   have M:b++[Rb l s.cells c]=(List.range (c+1)).map (Rb l s.cells):=by rw[B,V0,Yc];rfl
   have aJ:Rb l s.cells c=YC 3 (m.map Zv):=by unfold Rb;rw[X,H]
   rw[aJ] at M;rw[List.take_left];obtain⟨x,O⟩:=Η (YC 3 (m.map Zv));obtain⟨aS,aT,aU,ab⟩:=IQ 3 (m.map Zv);rw[<-O] at M ab ⊢
   repeat apply Ξ
   refine W.XV (A:=[39]) Ρ [(1,.ms 0 l.length 0 l.length),(2,.Κ 1 1 0 0),(4,.Κ 2 1 0 0),(5,J q),(6,ZV 3 (b++[x])),(13,Z2 s.cells),(14,J s.cells.length),(15,J c)] (Tw l s++η 60 1 (b++[x])) ?_ (by
    have aK:b.length<=4294967295:=by rw[B];simp;omega
    clear R N M;by_cases d:b=[]
    .rw[d,ab];have v:ZV 3 ([]:κ)=.sl true 0 []:=rfl;rw[v];simp only[Wy,Vw];simp;(repeat (rw[Ν];simp));(try simp[ZV,η])
    .rw[XR d,YZ d,ab];have aa:(Tw l s++[Row.cells 60 1 b])[3]?=some (Row.cells 60 1 b):=rfl;simp;(repeat (rw[Ν];simp[aK,aa]));(try simp[ZV,η]))
   refine Γ ay ?_;exact W.to (R (c+1) U U) (by rw[M];simp) (by rw[M,<-aI];simp)
 .refine Ζ (by simp[C]) ?_;have aL:c=s.cells.length:=U;refine W.exit rfl ?_
  repeat apply Ξ
  obtain⟨V,Q⟩:=Η (ZV 3 b);have ad:(V=.sl true 0 []/\η 60 1 b=[])\/(V=.ms 3 b.length 0 b.length/\η 60 1 b=[.cells 60 1 b]):=by
   by_cases d:b=[]
   .exact .inl ⟨by rw[Q,d];rfl,by rw[d];rfl⟩
   .exact .inr ⟨by rw[Q,XR d],YZ d⟩
  obtain⟨aq,ae⟩:=Η (η 60 1 b);rw[<-ae] at ad;rw[<-Q,<-ae];refine W.XV (A:=[]) Ρ [(2,.Κ 1 1 0 0),(4,.Κ 2 1 0 0)] (.cells 3 1 (l.map J)::YY (ν s.Ι) (ξ s.Δ) V::YY Z5 Z5 Z5::aq) ?_ (by
   rcases ad with⟨v,Φ⟩|⟨v,Φ⟩<;>(rw[v,Φ];(try simp);(repeat (rw[Ν];simp));(try simp)))
  repeat apply Ξ
  refine W.XV (A:=[]) Ρ [(4,.Κ 2 1 0 0)] (.cells 3 1 (l.map J)::YY (ν s.Ι) (ξ s.Δ) V::YY (ν s.Ι) (ξ s.Δ) V::aq) ?_ (by
   rcases ad with⟨v,Φ⟩|⟨v,Φ⟩<;>(rw[v,Φ];(try simp);(repeat (rw[Ν];simp));(try simp)))
  refine W.cut 1 I [(4,.Θ [ν s.Ι,ξ s.Δ,YC 1 b])] I ?_ ?_ ?_
  .intro id r ap j;obtain rfl:id=0:=U;simp at j;subst j;intro e L a E;obtain⟨x,_,rfl⟩:=Zq.1 L;simp[Ω.cells] at E;subst E;exact .z _
  .intro z d;simp only[Y6,Ya,or_false] at d;subst d;refine .struct (id:=2) ZY (show _=some (Row.cells _ _ [.ZT _]) from rfl) rfl λx a aV y u=>?_
   match x with
   | 0=>simp at y u;subst y;subst u;exact .low I
   | 1=>simp at y u;subst y;subst u;exact .low I
   | 2=>
    simp at y u;subst y;subst u;rw[Q];refine PL (t:=60) ZY (λd=>?_) (λe L a E=>ς.mono (S e L a E) (χ _));rw[ae,YZ d];rfl
   | x+3=>simp at u
  .repeat apply Ξ
   refine W.ret ⟨_,rfl,?_,rfl⟩;show Zh (.ZT [ν s.Ι,ξ s.Δ,YC 1 b]) _;refine .ZT (.cons (.refl _) (.cons (.refl _) (.cons ?_ .nil)));rw[B,aL];refine .trans Zh.acc ?_;show Zh (.sl false 1 ((List.range s.cells.length).map (Rb l s.cells))) (.sl false 1 (((List.range s.cells.length).map (OV l s.cells)).map U'));rw[Sq];exact .map λc _=>.one Zh.acc (by unfold Rb YC;split<;>rfl) rfl
end Go.TL
namespace Go.TL
open Go.Proofs.Tryz
open Go.Conc Go.Proofs
variable [ZX]
def Su (c i:Nat):List (List Int):=(List.range i).map λj:Nat=>[(c:Int),(j:Int)]
def OU (C:List (List Zw)) (c:Nat):List (List Int):=(List.range c).flatMap λc=>Su c (C.getD c []).length
def placesOf (C:List (List Zw)):List (List Int):=OU C C.length
theorem Ay (C:List (List Zw)) (c:Nat):OU C (c+1)=OU C c++Su c (C.getD c []).length:=by
 simp[OU,V0]
theorem po (c i:Nat):Su c (i+1)=Su c i++[[(c:Int),(i:Int)]]:=by simp[Su,V0]
theorem pn (C:List (List Zw)) (c:Nat) (h:c<=C.length):(OU C c).length=Vj C c:=by
 induction c with
 | zero=>rfl
 | succ c a=>
  rw[Ay,E8 C U,VK,a U];simp[Su,Xr,show c<C.length by omega]
def NN (C:List (List Zw)) (F:List Nat->List Found):List (List Int):=
 match (V2 (Vj C C.length) 0).find? (λl=>!(F l).isEmpty) with
 | some l=>l.map λk=>(placesOf C).getD k []
 | none=>[]
abbrev VL (s:ψ):Row:=YY (ν s.Ι) (ξ s.Δ) (Z2 s.cells)
abbrev Ra:Row:=.cells 23 1 [Z5]
theorem Ax (s:ψ) (h:Nat):X6 h (VL s):=λe b a c=>by
 simp[Ω.cells] at b;subst b;simp[Ω.cells] at c;rcases c with rfl|rfl|rfl<;>simp
noncomputable abbrev Aw (vs:Array Value):Frame:=Frame.enter prog 58 vs .normal
abbrev KN (P:List (List Int)):ω:=[(1,.Κ 0 1 0 0),(5,.Θ [YC 1 (P.map Zr)]),(9,.Κ 1 1 0 0)]
section
variable {Q:Value->Prop} {mn:Bool} {c:Frame} {rest:List Frame}
theorem Av {x:W2} {f S:μ} {B:Z8} {g H:Χ} {R d e:Ω} {b:Frame} {env:ω} (k:Seq x) (l:Pm prog Q mn x c rest f [] g [] (λa s=>Zh a R/\s=[]) (λ_ _=>False)) (m:b.fn=58) (n:b.kind=.normal) (o:b.defers=[]) (p:b.mode=.returning)
  (t:Ext f [] g S B H) (u:Holds S B [] H) (w:YT S B [] env b.tmps) (y:Z7 env 2=d) (A:Z7 env 3=e) (C:Zh (.ZW [d,e]) R):ι prog Q mn x b (c::rest) H:=by
 refine ι.back k p o (.inl n) (fn:=f58) (by rw[m];exact func58) ?_;refine Ψ.mono (λv D ⟨J,E,F,K,i,I⟩=>?_) (λ_ _ h=>h) _ (LN Ρ (a:=.ZW [d,e]) (show SJ ZS [.tmp 2,.tmp 3] env []=some (.ZW [d,e]) by simp[SJ,QM,y,A,LO]) u w);obtain rfl:E=[]:=YL.1 i.len;have j:=t.trans F;exact l.ret _ [] _ [] D v ⟨C,rfl⟩ j ⟨j.YO,λid r h=>by simp at h⟩ i I
theorem pk (s:ψ) (bj:s.small) (cU:s.cells.length<2 ^ 10) (aZ:∀x∈s.cells,x.length<2 ^ 10) (aH:s.err=0->Vj s.cells s.cells.length<=12) (F:List Nat->List Found)
  (aI:s.err=0->∀l:List Nat,(∀x∈l,x<Vj s.cells s.cells.length)->Ε prog 116 [Yz (s.Rc (l.map λn:Nat=>(n:Int)))] (Zb (F l))/\(F l).length<2 ^ 20) :
  Ε prog 58 [Yz s] (.ZW [ξ (if s.err=0 then NN s.cells F else []),J s.err]):=by
 refine⟨⟨_,func58,rfl,rfl⟩,λQ mn x c rest aJ bS ak vs C bk bT ar=>?_⟩;obtain rfl:bS=[]:=YL.1 bk.len;rw[SF (body:=f58.body.getD .skip) func58 rfl];refine V.here (x:=x) (m:=0) (nt:=65) (S:=aJ) (B:=[]) (H:=ak) (σ:=[]) (env:=entry 0 [Yz s]) ?_ (Xw.enter bk bT (γ _) I);refine V.XO C rfl ?_;simp only[f58,Option.getD_some]
 repeat apply Ξ
 refine Y4 (A:=[1]) Ρ λau N=>Z6 ?_;apply N;refine W.scope ?_;refine Z' λau N=>?_;refine Ε.d (Lw s bj) (Z6 ?_);apply N;refine Τ ?_;by_cases Y:s.err=0
 case neg=>
  rw[if_neg Y] at ar;generalize s.err=bU at Y ar ⊢;refine Α (by simp[Y]) ?_;refine Τ ?_;refine W.cut 0 (χ _) [(2,.sl true 0 []),(3,J bU)] I (λid r h=>U) (λz u=>by
   simp only[Y6,Ya,or_false] at u;rcases u with rfl|rfl<;>exact .low I) ?_
  refine W.stop ?_;intro al am an t5 K R;refine ι.ret C rfl rfl ?_;exact Av C ar rfl rfl rfl rfl K.ext R.holds R.Zm rfl rfl (.ZW (.cons .nil (.cons (.refl _) .nil)))
 rw[if_pos Y,Y] at ar;have aH:=aH Y;have aI:=aI Y;rw[Y];refine Ζ I ?_
 repeat apply Ξ
 refine Y4 (A:=[5]) Ρ λau N=>Z6 ?_;apply N;refine Τ ?_;have bV:=λc=>AA s.cells aZ c;refine W.iter (λc:Nat=>c<=s.cells.length) (λc=>[(1,.Κ 0 1 0 0),(5,.Κ 1 1 0 0),(19,Z2 s.cells),(20,J s.cells.length),(21,J c)]) (λc=>[VL s,.cells 23 1 [ZV 2 ((OU s.cells c).map Zr)]]++η 29 1 ((OU s.cells c).map Zr)) (λc=>s.cells.length-c) 0 (χ _) rfl I (λc bl a0=>?_);have a1:=pn s.cells c bl;have ae:=Ay s.cells c;have bW:=bV c;have bX:c*2 ^ 10<=2 ^ 20:=Tr (2 ^ 10) (show c<=2 ^ 10 by omega);obtain⟨g,aK⟩:=Η (OU s.cells c);rw[<-aK] at a1 ae;refine W.to (σ':=[VL s,.cells 23 1 [ZV 2 (g.map Zr)]]++η 29 1 (g.map Zr)) (env':=[(1,.Κ 0 1 0 0),(5,.Κ 1 1 0 0),(19,Z2 s.cells),(20,J s.cells.length),(21,J c)]) ?_ (by rw[aK]) I;refine Τ ?_;by_cases ao:c<s.cells.length
 .refine Α (by simp[ao]) ?_;have a2:=δ ao;have aL:=aZ _ (YF ao);rw[Xr,a2] at ae;obtain⟨O,bm⟩:=Η (s.cells[c]);rw[<-bm] at a2 aL ae;simp only[Option.getD_some] at ae;have bY:∀h,s.cells[c]'h=O:=λh=>bm.symm;have a3:=Yt (i:=c) U;refine Γ (Υ ao (Υ a2 bY)) ?_;refine W.iter (λi:Nat=>i<=O.length) (λi=>[(1,.Κ 0 1 0 0),(5,.Κ 1 1 0 0),(19,Z2 s.cells),(20,J s.cells.length),(21,J c),(6,J c),(7,U' O),(27,J O.length),(28,J i)]) (λi=>[VL s,.cells 23 1 [ZV 2 ((g++Su c i).map Zr)]]++η 29 1 ((g++Su c i).map Zr)) (λi=>O.length-i) 0 (χ _) (by simp[Su]) I (λi hi bn=>?_);have bZ:=po c i;have b0:(g++Su c i).length<=2 ^ 21:=by simp[Su];omega
  obtain⟨w,Z⟩:=Η (g++Su c i);rw[<-Z] at b0;have b1:g++Su c (i+1)=w++[[(c:Int),(i:Int)]]:=by rw[bZ,Z,Vi]
  refine W.to (σ':=[VL s,.cells 23 1 [ZV 2 (w.map Zr)]]++η 29 1 (w.map Zr)) (env':=[(1,.Κ 0 1 0 0),(5,.Κ 1 1 0 0),(19,Z2 s.cells),(20,J s.cells.length),(21,J c),(6,J c),(7,U' O),(27,J O.length),(28,J i)]) ?_ (by rw[Z]) I;refine Τ ?_;by_cases bo:i<O.length
  .refine Α (by simp[bo]) ?_;have b2:=Yt (i:=i) U;refine Τ ?_;refine W.XV (A:=[36]) Ρ [(1,.Κ 0 1 0 0),(5,.Κ 1 1 0 0),(19,Z2 s.cells),(20,J s.cells.length),(21,J c),(6,J c),(7,U' O),(27,J O.length),(28,J i)] ([VL s,.cells 23 1 [ZV 2 ((w++[[(c:Int),(i:Int)]]).map Zr)]]++η 29 1 ((w++[[(c:Int),(i:Int)]]).map Zr)) ?_ (by
    clear bn a0;by_cases u:w=[]
    .subst u;have af:ZV 2 (([]:List (List Int)).map Zr)=.sl true 0 []:=rfl;have Φ:η 29 1 (([]:List (List Int)).map Zr)=[]:=rfl;rw[af,Φ];(try simp);(repeat (rw[Ν];simp));(try simp);simp[ZV,η]
    .have av:w.map Zr≠[]:=by simpa using u
     rw[XR av,YZ av];have aM:w.length<=4294967295:=U;(try simp);(repeat (rw[Ν];simp[aM]));(try simp[aM]);simp[ZV,η])
   refine Γ b2 ?_;exact W.to (bn (i+1) U U) (by rw[b1];simp) I
  .refine Ζ (by simp[bo]) ?_;have b3:i=O.length:=U;subst b3;refine W.exit rfl ?_;refine Γ a3 ?_;rw[<-Z] at ae;exact W.to (a0 (c+1) U U) (by rw[ae];simp) I
 .refine Ζ (by simp[ao]) ?_;have a4:c=s.cells.length:=U;refine W.exit rfl ?_
  repeat apply Ξ
  refine W.cut 1 (χ _) [(1,.Κ 0 1 0 0),(5,.Θ [YC 1 (g.map Zr)])] I ?_ ?_ ?_
  .intro id r cV aw;obtain rfl:id=0:=U;simp at aw;subst aw;exact Ax s 1
  .intro z u;simp only[Y6,Ya,or_false] at u;rcases u with rfl|rfl
   .exact .low (WV.2 ZY)
   .refine .Κ (id:=1) (t:=23) (k:=1) (l:=[ZV 2 (g.map Zr)]) (e:=ZV 2 (g.map Zr)) ZY rfl rfl rfl (by unfold ZV;split<;>simp[Ω.cells]) λx a cW P M=>?_
    match x with
    | 0=>
     have af:(ZV 2 (g.map Zr)).cells=[ZV 2 (g.map Zr)]:=by unfold ZV;split<;>rfl
     rw[af] at P;simp at P M;subst P;subst M;refine PL (t:=29) ZY (λu=>?_) (λe a5 a D=>ς.mono (Lv e a5 a D) (χ _));rw[YZ u];rfl
    | x+1=>simp at M
  obtain⟨n,a6⟩:=Η g.length;have bp:n=Vj s.cells s.cells.length:=by rw[a6,a1,a4]
  have ax:∃b kk l,YC 1 (g.map Zr)=.sl b kk l/\l.length=n:=by
   unfold YC;split
   .rename_i h;exact⟨_,_,_,rfl,by rw[a6];simp at h;simp[h]⟩
   .exact⟨_,_,_,rfl,by rw[a6];simp⟩
  rw[<-bp] at aH aI;have bq:g=placesOf s.cells:=by rw[aK,a4];rfl
  have Φ:NN s.cells F=match (V2 n 0).find? (λl=>!(F l).isEmpty) with|some l=>l.map (λk=>g.getD k [])|none=>[]:=by unfold NN;rw[<-bp,<-bq]
  clear bq ae a1 aK a0 bW bX a4 bl ao
  repeat apply Ξ
  simp only[List.take_succ_cons,List.take_zero];refine Y4 (A:=[9]) Ρ λau N=>Z6 ?_;apply N
  repeat apply Ξ
  refine W.label ?_;obtain⟨cX,cY,cZ,a7,br⟩:=ax;refine XB (Υ a7 br) λau N=>?_;refine Ε.d (Cg n) (XJ (Υ a7 br) ?_);apply N
  repeat apply Ξ
  refine W.forget ((41,.fn (.func 126) [] [.Θ [J n]])::KN g) (by simp[a7]) ?_;refine W.stop ?_;intro ag T aN t1 aO X;have bs:∀r∈[VL s,Ra],NX r:=λr aw=>by
   simp only[Y6,Ya,or_false] at aw;rcases aw with rfl|rfl<;>exact⟨_,_,_,rfl⟩
  have a8:=X.Zm 41;simp only[Z7,if_true] at a8;obtain⟨c0,bt⟩:=Η (t1.getD 41 undef);rw[<-bt] at a8;cases a8 with
  | fn w1 b4 b5 b6 c1 b7=>
  have b8:w1=#[]:=Mo (by rw[<-b5];rfl);subst b8;refine ι.rangeFunc C rfl rfl (fo:=.tmp 41) bt.symm ⟨_,func126,rfl,rfl⟩ λE L P M=>?_;have a9:¬T.has E:=X.holds.Ig bs P;have aP:=X.holds.ZU (y:=.deferred (some [])) a9;have aQ:Ext ag T aN ag T (aN.ZU E (.deferred (some []))):=Ext.Ih P;have ay:(aN.ZU E (.deferred (some []))).obj E=some (.deferred (some [])):=by simp[Χ.ZU]
  have b9:ak.fresh E:=aO.ext.grow _ P
  have aR:ak.fresh L:=aO.ext.grow _ (aQ.grow _ M);generalize c2:aN.ZU E (.deferred (some []))=bu at M aP aQ ay;have aS:E≠L:=λe=>by rw[e,M.2.2.1] at ay;cases ay
  have bv:¬T.has L:=aP.Ig bs M
  have bw:∀(S:μ) (B:Z8) (H:Χ) (σ:Ο),XX 2 ag T bu [VL s,Ra] S B H σ->Zx ag S T B [VL s,Ra] σ:=λS B H σ D=>D.all aP I
  have bx:∀(aa:Frame) (S:μ) (B:Z8) (H:Χ) (env:ω) (a':Ω),aa.fn=58->aa.kind=.normal->aa.mode=.returning->aa.defers=[⟨.collected E,#[]⟩]->Ext aJ [] ak S B H->Holds S B [] H->H.obj E=some (.deferred (some []))->
    YT S B [] env aa.tmps->Z7 env 2=a'->Z7 env 3=J 0->Zh a' (ξ (NN s.cells F))->ι prog Q mn x aa (_::rest) H:=
   λaa S B H env a' ah ab bz b' ca bA bB cb cc cd ce=>by
   obtain rfl:B=[]:=YL.1 bA.len;refine ι.collected C bz b' bB ?_;exact Av C ar (b:={aa with defers:=[]}) ah ab rfl bz (ca.ZU b9 ⟨_,bB⟩) (bA.ZU (λ⟨_,h⟩=>by cases h)) cb cc cd (.ZW (.cons ce (.cons (.refl _) .nil)))
  rw[SF (body:=f126.body.getD .skip) func126 rfl];have cf:Xv ag T [VL s,Ra] ([Rj L]++[.Θ [J n]]) (#[.func (.yield L) #[] #[]]++b4):=by
   refine Xv.append ⟨rfl,λi a v ah ab=>?_⟩ ⟨b6,b7⟩
   match i with
   | 0=>simp at ah ab;subst ah;subst ab;exact .fn #[] #[] rfl rfl (λi a v hi=>by simp at hi) (λi a v hi=>by simp at hi)
   | i+1=>simp at ah
  refine Ch (o:=⟨ag,T,bu,[VL s,Ra],2⟩) (L:=L) (Fnd:=λbC=>(V2 n 0).find? (λl=>!(F l).isEmpty)=bC.find? (λl=>!(F l).isEmpty)) C aH ?_ rfl ag T _ _ (XX.of (Ext.Ih M) (Zx.refl ..)) (Xw.enter (aP.ZU bv) cf (γ _) I) bv (by simp[Χ.ZU];rfl);refine⟨rfl,Ax s 2,by simp[X6,Ω.cells],rfl,λl bC aT c3 bD S B H bE c4 D aU ba aV hv cg ci=>?_,λaT S B H D aU ba aV=>?_⟩
  .obtain⟨bb,bc⟩:=Vy D.ext a9 ay;have cj:=bw _ _ _ _ D;have aW:=X.Zm.later cj;have ck:Ext aJ [] ak S B H:=aO.ext.trans (aQ.trans D.ext);obtain⟨w0,rfl⟩:∃w0,bE=#[w0]:=by
    have P:=hv.1;clear hv;obtain⟨cl⟩:=bE
    match cl,P with
    | [w0],_=>exact⟨w0,rfl⟩
   have cm:((#[42]:Array Tmp).zip #[w0]).foldl (λbd (t,a)=>bd.setIfInBounds t a) t1=t1.setIfInBounds 42 w0:=I;change ι prog Q mn x (Frame.round L 58 (((#[42]:Array Tmp).zip #[w0]).foldl (λbd (t,a)=>bd.setIfInBounds t a) t1) _ _ .normal) _ _;rw[cm];have cn:π S B [VL s,Ra,Yj l] (.ms 2 l.length 0 l.length) w0:=hv.2 0 _ _ rfl rfl;have c5:l.length<2 ^ 30:=U;have cp:YT S B [VL s,Ra,Yj l] ((42,.ms 2 l.length 0 l.length)::KN g) (t1.setIfInBounds 42 w0):=Qy (YT.put aW (d:=42) (by rw[X.size];omega) cn) I;refine V.here (b:=Frame.round L 58 t1 .skip .skip .normal) (t:=t1.setIfInBounds 42 w0) (m:=3) (nt:=65) (S:=S) (B:=B) (H:=H) (σ:=[VL s,Ra,Yj l]) (env:=(42,.ms 2 l.length 0 l.length)::KN g) ?_ ⟨aU,cp,Xx (TX ..) X.size,γ _⟩;refine V.XO C rfl ?_;refine Τ ?_;refine W.stop ?_;intro cq cr be t3 az ap;obtain⟨aA,bf⟩:=Vy az.ext ba aV;obtain⟨cs,ct⟩:=Vy az.ext bb bc;refine ι.beginRound C rfl rfl bf rfl ?_;refine V.here (b:=Frame.round L 58 t1 .skip .skip .normal) (m:=3) (nt:=65) ?_ ⟨ap.holds.ZU aA,ap.Zm,ap.size,ap.rows⟩;refine V.XO C rfl ?_;obtain⟨z,u⟩:=Η (l.map λn:Nat=>(n:Int));have cu:Yj l=.cells 3 1 (z.map J):=by rw[u,Sq];rfl
   have cv:z.length=l.length:=by rw[u,Yp]
   have bF:=Μ.T' (pq s bj z U U (λx C=>by have:=aZ x C;omega)) (ZM.refl _) (K':=λa r=>a=Yz (s.Rc z)/\r=[.cells 3 1 (z.map J)]) (λa r ⟨P,M⟩=>⟨_,P,rfl,M⟩);obtain⟨bG,c6⟩:=aI l bD;rw[<-u] at bG;rw[cv,<-cu] at bF;have bH:ς 0 (Yz s):=I;have bI:ς 0 (Yz (s.Rc z)):=I;have aL:V9 (Yj l):=SH (f:=λn:Nat=>J n) λx=>by simp[Ω.cells]
   refine Z' λau N=>?_;refine Μ.one (as0:=[Yz s,.ms 0 l.length 0 l.length]) bF 2 rfl aL aL (λa D=>by
    simp only[Y6,Ya,or_false] at D;rcases D with rfl|rfl
    .exact bH.Wh 1
    .exact UG.2 U) (bI.Wh 1) (by simp[UF,bH.Yx [2]]) ?_
   rw[bI.Yx [2]];simp;(repeat (rw[Ν];simp));refine Ε.c bG (ZM.refl _) I I ?_;simp;(repeat (rw[Ν];simp));apply N;have bg:Zx S cq B cr [VL s,Ra,Yj l] [VL s,Ra,Yj l]:=az.all aU (γ _);have cw:=λy=>(D.ext.trans az.ext).ZU M (y:=y) ⟨_,bf⟩;have cx:=λy=>(ck.trans az.ext).ZU aR (y:=y) ⟨_,bf⟩;by_cases aX:F l=[]
   .refine Ζ (by simp[aX]) ?_
    repeat apply Ξ
    refine W.stop ?_;intro al am an t5 K R;obtain⟨aB,aC⟩:=Vy K.ext aA (show(be.ZU L _).obj L=some (.loop _) by simp[Χ.ZU];rfl);have aY:=K.all (ap.holds.ZU aA) (γ _);refine ι.endRound C rfl rfl rfl aC (jump:=none) (.inl ⟨rfl,rfl⟩) (cg (by rw[aT,List.find?_cons,aX];rfl) al am _ ⟨((cw _).trans K.ext).ZU M ⟨_,aC⟩,?_⟩ (bg.trans aY) (R.holds.ZU aB) aB (by simp[Χ.ZU]));exact D.later.trans (bg.trans aY)
   .refine Α (by
     have:0<(F l).length:=RQ.2 aX;simp;omega) ?_
    refine Τ ?_;obtain⟨ad,aD⟩:=Η (λk=>(l.take k).map λj=>g.getD j []:Nat->List (List Int));have cy:ad 0=[]:=by rw[aD];simp
    have cz:∀k,(h:k<l.length)->ad (k+1)=ad k++[g.getD l[k] []]:=λk h=>by
     rw[aD];simp only;rw[We h,Yc];rfl
    have cA:∀k,(ad k).length<=k:=λk=>by rw[aD];simp;omega
    have bJ:ad l.length=NN s.cells F:=by
     rw[Φ,aT,List.find?_cons];have:(!(F l).isEmpty)=true:=by simpa using aX
     rw[this,aD];simp
    clear aD;refine W.iter (λk:Nat=>k<=l.length) (λk=>[(1,.Κ 0 1 0 0),(5,.Θ [YC 1 (g.map Zr)]),(9,.Κ 1 1 0 0),(50,.ms 2 l.length 0 l.length),(51,J l.length),(52,J k)]) (λk=>[VL s,.cells 23 1 [ZV 3 ((ad k).map Zr)],Yj l]++η 29 1 ((ad k).map Zr)) (λk=>l.length-k) 0 (χ _) (by rw[cy];rfl) I (λk c7 bK=>?_);have aq:=cz k;have cB:=cA k;obtain⟨w,Z⟩:=Η (ad k);rw[<-Z] at aq cB;refine W.to (σ':=[VL s,.cells 23 1 [ZV 3 (w.map Zr)],Yj l]++η 29 1 (w.map Zr)) (env':=[(1,.Κ 0 1 0 0),(5,.Θ [YC 1 (g.map Zr)]),(9,.Κ 1 1 0 0),(50,.ms 2 l.length 0 l.length),(51,J l.length),(52,J k)]) ?_ (by rw[Z]) I;refine Τ ?_;by_cases ai:k<l.length
    .refine Α (by simp[ai]) ?_;have bh:=δ ai;have cC:=bD _ (YF ai);have aq:=aq ai;obtain⟨p,bL⟩:=Η (l[k]);rw[<-bL] at bh cC aq;have bM:∀h,l[k]'h=p:=λh=>bL.symm;have aE:p<g.length:=U;have cD:g.map Zr≠[]:=by
      intro h;have:g=[]:=by simpa using h
      rw[this] at aE;simp at aE
     have ax:YC 1 (g.map Zr)=.sl false 1 (g.map Zr):=by unfold YC;rw[if_neg (by simpa using cD)]
     have aF:g[p]?=some (g.getD p []):=by rw[Xr,δ aE];rfl
     obtain⟨y,cE⟩:=Η (g.getD p []);rw[<-cE] at aF aq;have bN:∀h,g[p]'h=y:=λh=>by rw[δ h] at aF;simpa using aF
     have a3:=Yt (i:=k) U
     have c8:(Yj l)=.cells 3 1 (l.map λn:Nat=>J n):=rfl;obtain⟨bi,aG⟩:=Η (η 29 1 (w.map Zr));obtain⟨V,aj⟩:=Η (ZV 3 (w.map Zr));rw[<-aG,<-aj]
     repeat apply Ξ
     refine W.XV (A:=[]) Ρ [(1,.Κ 0 1 0 0),(5,.Θ [YC 1 (g.map Zr)]),(9,.Κ 1 1 0 0),(50,.ms 2 l.length 0 l.length),(51,J l.length),(52,J k),(12,J p)] ([VL s,.cells 23 1 [V],Yj l]++bi) ?_ (by
      (try simp);(repeat (rw[Ν];simp[ai,bh,bM]));(try simp[ai,bh,bM]))
     repeat apply Ξ
     refine W.K5 (A:=[62]) Ρ mixed [(1,.Κ 0 1 0 0),(5,.Θ [YC 1 (g.map Zr)]),(9,.Κ 1 1 0 0),(50,.ms 2 l.length 0 l.length),(51,J l.length),(52,J k)] ([VL s,.cells 23 1 [ZV 3 ((w++[y]).map Zr)],Yj l]++η 29 1 ((w++[y]).map Zr)) ?_ (by
      rw[ax,aG,aj];clear bK;by_cases u:w=[]
      .subst u;have af:ZV 3 (([]:List (List Int)).map Zr)=.sl true 0 []:=rfl;have Φ:η 29 1 (([]:List (List Int)).map Zr)=[]:=rfl;rw[af,Φ];simp;(repeat (rw[ZK];simp[aE,aF,bN]));(try rw[ZL]);refine⟨XD (by kernel_rfl),?_⟩;simp[ZV,η,ax]
      .have av:w.map Zr≠[]:=by simpa using u
       rw[XR av,YZ av];have aM:w.length<=4294967295:=U;simp;(repeat (rw[ZK];simp[aE,aF,bN,aM]));(try rw[ZL]);refine⟨XD (by kernel_rfl),?_⟩;simp[ZV,η,ax])
     refine Γ a3 ?_;exact W.to (bK (k+1) U U) (by rw[aq];simp) I
    .refine Ζ (by simp[ai]) ?_;have cF:k=l.length:=U;subst cF;refine W.exit rfl ?_
     repeat apply Ξ
     refine W.stop ?_;rw[<-Z] at bJ;intro al am an t5 K R;obtain⟨aB,aC⟩:=Vy K.ext aA (show(be.ZU L _).obj L=some (.loop _) by simp[Χ.ZU];rfl);obtain⟨cG,cH⟩:=Vy K.ext cs (show(be.ZU L _).obj E=some (.deferred (some [])) by simp[Χ.ZU,aS,ct]);have aY:=K.all (ap.holds.ZU aA) (γ _);refine ι.endRound C rfl rfl rfl aC (jump:=some (.exit 4)) (.inr (.inr ⟨4,_,rfl,rfl,rfl⟩)) (ci _ λc9 cI bO=>?_);obtain⟨ah,ab⟩:=(R.holds.ZU (y:=.loop _) aB).RG (λb cJ=>bO.RG cJ) bO.grow;obtain⟨cK,bP⟩:=Vy ab aB (show(an.ZU L _).obj L=some (.loop _) by simp[Χ.ZU];rfl);obtain⟨cL,cM⟩:=Vy ab cG (show(an.ZU L _).obj E=some (.deferred (some [])) by simp[Χ.ZU,aS,cH]);refine ι.IN (b:={Aw vs with defers:=[⟨.collected E,#[]⟩]}) (t:=t1) C rfl bP I ?_;refine V.here (m:=0) (nt:=65) (S:=al) (B:=am) (σ:=[VL s,.cells 23 1 [ZV 3 (w.map Zr)],Yj l]++η 29 1 (w.map Zr)) (env:=KN g) ?_ ⟨ah.ZU cK,Qy (aW.later (bg.trans aY)) I,X.size,χ _⟩;refine V.XO C rfl ?_;simp only[Option.map_some,Option.toList_some,List.singleton_append];refine W.exit rfl ?_;obtain⟨bi,aG⟩:=Η (η 29 1 (w.map Zr));obtain⟨V,aj⟩:=Η (ZV 3 (w.map Zr));rw[<-aG,<-aj]
     repeat apply Ξ
     refine W.XV (A:=[]) Ρ [(2,V),(3,J 0)] ([VL s,.cells 23 1 [V],Yj l]++bi) ?_ (by
      by_cases u:w.map Zr=[]
      .have af:V=.sl true 0 []:=by rw[aj,u];rfl
       rw[af];(try simp);(repeat (rw[Ν];simp));(try simp)
      .rw[aj,XR u];(try simp);(repeat (rw[Ν];simp));(try simp))
     refine W.cut 0 (χ _) [(2,YC 1 (w.map Zr)),(3,J 0)] I (λid r h=>U) (λz u=>by
      simp only[Y6,Ya,or_false] at u;rcases u with rfl|rfl
      .show Ym 0 _ V _;rw[aj];refine PL (t:=29) (χ _) (λu=>?_) (λe a5 a D=>Lv e a5 a D);rw[aG,YZ u];rfl
      .exact .low I) ?_
     repeat apply Ξ
     refine W.stop ?_;intro cN cO cP t9 bQ bR;obtain⟨_,cQ⟩:=Vy bQ.ext cL (show(cI.ZU L _).obj E=some (.deferred (some [])) by simp[Χ.ZU,aS,cM]);refine ι.ret C rfl rfl ?_;refine bx _ cN cO cP _ _ rfl rfl rfl rfl (((((((cx _).trans K.ext).ZU aR ⟨_,aC⟩)).trans ab).ZU aR ⟨_,bP⟩).trans bQ.ext) bR.holds cQ bR.Zm rfl rfl ?_;rw[<-bJ];exact Zh.Dp
  .obtain⟨bb,bc⟩:=Vy D.ext a9 ay;have aW:=X.Zm.later (bw _ _ _ _ D);have cR:Ext aJ [] ak S B H:=aO.ext.trans (aQ.trans D.ext);refine ι.IN (b:={Aw vs with defers:=[⟨.collected E,#[]⟩]}) (t:=t1) C rfl aV I ?_;refine V.here (m:=0) (nt:=65) (S:=S) (B:=B) (σ:=[VL s,Ra]) (env:=KN g) ?_ ⟨aU.ZU ba,Qy aW I,X.size,χ _⟩;refine V.XO C rfl ?_;simp only[Option.map_none,Option.toList_none,List.nil_append];refine Τ ?_;refine W.cut 0 (χ _) [(2,.sl true 0 []),(3,J 0)] I (λid r h=>U) (λz u=>by
    simp only[Y6,Ya,or_false] at u;rcases u with rfl|rfl<;>exact .low I) ?_
   refine W.stop ?_;intro al am an t5 K R;have cS:∀y,(H.ZU L y).obj E=some (.deferred (some [])):=λy=>by simp[Χ.ZU,aS,bc]
   obtain⟨c',cT⟩:=Vy K.ext bb (cS _);refine ι.ret C rfl rfl ?_;refine bx _ al am an _ _ rfl rfl rfl rfl ((cR.ZU aR ⟨_,aV⟩).trans K.ext) R.holds cT R.Zm rfl rfl ?_;rw[Φ,aT];exact .nil
end
end Go.TL
namespace Go.TL
open Go.Proofs.Tryz
open Go.Proofs
variable [ZX]
theorem Au (s:ψ) (g:Int) (i:g<s.Ι.length) (σ:Ο) (id m:Nat) (c:κ) (e:c.length=m) (f:σ[id]?=some (.cells 60 1 c)):Μ prog 130 [.ZT [ν s.Ι,ξ s.Δ,.ms id m 0 m],J g] σ (λa r=>a=J (s.of g)/\r=σ) (λ_ _=>False):=by
 refine Μ.body Ρ func130 rfl rfl ntmps130 rfl rfl I ?_;refine Γ (Υ f e) ?_;refine W.Yv rfl (λb=>?_) (λb=>?_)
 .have b:g<0:=by simpa using b
  refine Τ ?_;refine W.ret ⟨_,rfl,?_,rfl⟩;show J 0=_;simp[ψ.of,b]
 .have b:¬g<0:=by simpa using b
  obtain⟨n,rfl⟩:∃n:Nat,g=n:=⟨g.toNat,U⟩;have d:n<s.Ι.length:=U;refine Γ d ?_;refine W.ret ⟨_,rfl,?_,rfl⟩;show J s.Ι[n].X0=_;simp[ψ.of,d];intro h;omega
theorem pj (s:ψ) (p r:Int×Int) (n:Nat) (g:n<s.Δ.length) (k:∀x∈s.Δ,x.length<2 ^ 62) (C:r.1<s.Ι.length) (D:r.2<s.Ι.length) (σ:Ο) (id m:Nat) (o:κ) (d:o.length=m) (e:σ[id]?=some (.cells 60 1 o)) :
  Μ prog 91 [.ZT [ν s.Ι,ξ s.Δ,.ms id m 0 m],Z9 J 1 [p.1,p.2],Z9 J 1 [r.1,r.2],J n] σ (λa E=>a=J (s.XA p r n)/\E=σ) (λ_ _=>False):=by
 have i:=δ g
 have t:=k _ (YF g);obtain⟨l,k⟩:=Η (s.Δ[n]);rw[<-k] at i t;have v:∀h,s.Δ[n]'h=l:=λh=>k.symm;have hv:s.XA p r n=if l.contains p.2 then Sb (if l.contains p.1 then Sb 0 (s.of r.1) else 0) (s.of r.2) else if l.contains p.1 then Sb 0 (s.of r.1) else 0:=by
  unfold ψ.XA;rw[i];rfl
 rw[hv];have f:∀x:Int,(0<=(if x∈l then((l.idxOf x:Nat):Int) else -1))↔x∈l:=λx=>by
  by_cases h:x∈l
  .simp[h]
  .simp[h]
 have B:=Au s r.1 C σ id m o d e
 have w:=Au s r.2 D σ id m o d e;generalize s.of r.1=F at B ⊢;generalize s.of r.2=H at w ⊢;refine Μ.body Ρ func91 rfl rfl ntmps91 rfl rfl I ?_;refine Γ (Υ e d) ?_;refine W.draw (A:=[]) Ρ mixed λj b=>V8 (Υ g (Υ i v)) ?_;refine Yl (Ε.p (KO l p.1 t) (ZM.refl _) I I) ?_;simp[f];(repeat (rw[ZK];simp[f]));try rw[ZL]
 refine Y8 (b _ _ ?_);by_cases u:p.1∈l
 .refine Α (by simp[u]) ?_;have y:l.contains p.1=true:=by simpa using u
  rw[if_pos y]
  repeat apply Ξ
  refine W.draw (A:=[]) Ρ mixed λj b=>V8 (Υ e d) ?_;refine HN (Μ.call (first:=[]) (captured:=[]) B) ?_;simp;(repeat (rw[ZK];simp));try rw[ZL]
  refine Y8 (b _ _ ?_)
  repeat apply Ξ
  refine W.draw (A:=[]) Ρ mixed λj b=>V8 (Υ g (Υ i v)) ?_;refine Yl (Ε.p (KO l p.2 t) (ZM.refl _) I I) ?_;simp[f];(repeat (rw[ZK];simp[f]));try rw[ZL]
  refine Y8 (b _ _ ?_);by_cases c:p.2∈l
  .refine Α (by simp[c]) ?_;have Φ:l.contains p.2=true:=by simpa using c
   rw[if_pos Φ]
   repeat apply Ξ
   refine W.draw (A:=[]) Ρ mixed λj b=>V8 (Υ e d) ?_;refine HN (Μ.call (first:=[]) (captured:=[]) w) ?_;simp;(repeat (rw[ZK];simp));try rw[ZL]
   refine Y8 (b _ _ ?_);refine Τ ?_;exact W.ret ⟨_,rfl,rfl,rfl⟩
  .refine Ζ (by simp[c]) ?_;have Φ:¬l.contains p.2=true:=by simpa using c
   rw[if_neg Φ];refine Τ ?_;exact W.ret ⟨_,rfl,rfl,rfl⟩
 .refine Ζ (by simp[u]) ?_;have y:¬l.contains p.1=true:=by simpa using u
  rw[if_neg y]
  repeat apply Ξ
  refine W.draw (A:=[]) Ρ mixed λj b=>V8 (Υ g (Υ i v)) ?_;refine Yl (Ε.p (KO l p.2 t) (ZM.refl _) I I) ?_;simp[f];(repeat (rw[ZK];simp[f]));try rw[ZL]
  refine Y8 (b _ _ ?_);by_cases c:p.2∈l
  .refine Α (by simp[c]) ?_;have Φ:l.contains p.2=true:=by simpa using c
   rw[if_pos Φ]
   repeat apply Ξ
   refine W.draw (A:=[]) Ρ mixed λj b=>V8 (Υ e d) ?_;refine HN (Μ.call (first:=[]) (captured:=[]) w) ?_;simp;(repeat (rw[ZK];simp));try rw[ZL]
   refine Y8 (b _ _ ?_);refine Τ ?_;exact W.ret ⟨_,rfl,rfl,rfl⟩
  .refine Ζ (by simp[c]) ?_;have Φ:¬l.contains p.2=true:=by simpa using c
   rw[if_neg Φ];refine Τ ?_;exact W.ret ⟨_,rfl,rfl,rfl⟩
end Go.TL
