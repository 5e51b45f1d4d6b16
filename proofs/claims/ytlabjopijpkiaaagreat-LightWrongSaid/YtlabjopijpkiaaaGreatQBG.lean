/- LightWrong: for every list of numbers the law returns true. No conditions. -/
import Derived.Carry
import Derived.ChangeSlices
import Derived.Conc.HoldsTime
import Derived.KernelRfl
import Derived.OpenShut
import Derived.Test.YtlabjopijpkiaaaGreatQBA
import Derived.Test.YtlabjopijpkiaaaGreatQBE
import Derived.Test.YtlabjopijpkiaaaGreatQBF
import Derived.Test.YtlabjopijpkiaaaGreatRows
set_option maxHeartbeats 16000000
set_option maxRecDepth 20000
set_option linter.unusedSectionVars false
set_option linter.unusedSimpArgs false
set_option linter.unusedVariables false
namespace Go.TL
open Go.Proofs
theorem fυ [bn] {s:aR} (h:lV s) (i:Nat):xf s i<=i*5764801:=by
 induction i with
 | zero=>simp[xf]
 | succ i Δ=>
  rw[Ri,Rj];have:=KH h (fU i) (-1) (Nat.le_refl s.cells.length);omega
theorem fφ [bn] {s:aR} (p:Int×Int) (c:Nat) (h:∀r,s.re p r c=true):0<(jK s p c).length:=by
 unfold jK;have e:(yg s.ai.length).filter (λr=>s.re p r c)=yg s.ai.length:=List.filter_eq_self.2 λr _=>h r;rw[e];unfold yg n8;rw[List.range_succ_eq_map];simp[lL];omega
theorem fχ [bn] {s:aR} (h:∀c∈s.cells,c=[]):fl s≠[]:=by
 have μ:∀p c,0<(jK s p c).length:=λp c=>fφ p c λr=>by
  unfold aR.re;cases ζ:s.cells[c]? with
  | none=>rfl
  | some l=>rw[h l (cv ζ)];rfl
 have ω:∀p i,i<=s.cells.length->0<h5 (gG s p).cells (-1) i:=by
  intro p i
  induction i with
  | zero=>intro _;simp[h5]
  | succ i Δ=>
   intro hi;rw[eΚ p (by omega)];exact Nat.mul_pos (Δ (by omega)) (μ p i)
 intro Ι;have:gG s (fU 0)∈fl s:=KI.2 ⟨0,by decide,by rw[Rj];exact ω _ _ (Nat.le_refl _),rfl⟩;rw[Ι] at this;cases this
theorem fψ [bn] (s:aR):∀c∈(s.lW ((List.range (fs s.cells s.cells.length)).map λn:Nat=>(n:Int))).cells,c=[]:=λc ζ=>by
 obtain⟨i,hi,rfl⟩:=List.mem_map.1 ζ;have hi:=List.mem_range.1 hi;have mono:∀d,i+1+d<=s.cells.length->fs s.cells (i+1)<=fs s.cells (i+1+d):=by
  intro d
  induction d with
  | zero=>intro _;exact Nat.le_refl _
  | succ d Δ=>
   intro hd;have:=yT s.cells (c:=i+1+d) (by omega);have:=Δ (by omega);rw[show i+1+(d+1)=i+1+d+1 by omega];omega
 have J:=mono (s.cells.length-(i+1)) (by omega);rw[show i+1+(s.cells.length-(i+1))=s.cells.length by omega,yT s.cells hi] at J;unfold rN;rw[List.getD_eq_getElem?_getD,a2 hi];show hT _ _ s.cells[i] s.cells[i].length=[];have key:∀j,j<=s.cells[i].length->hT ((List.range (fs s.cells s.cells.length)).map λn:Nat=>(n:Int)) (fs s.cells i) s.cells[i] j=[]:=by
  intro j
  induction j with
  | zero=>intro _;rfl
  | succ j Δ=>
   intro ε;rw[Fw _ _ _ ε,Δ (by omega),if_pos]
   ·rfl
   ·rw[List.contains_iff_mem];exact List.mem_map.2 ⟨_,List.mem_range.2 (by omega),rfl⟩
 exact key _ (Nat.le_refl _)
abbrev rR (s:aR) (l:List Nat):List Found:=fl (s.lW (l.map λn:Nat=>(n:Int)))
abbrev u1 (s:aR) (l:List Nat):Bool:=!(rR s l).isEmpty
theorem Rz {α:Type} {p:α->Bool} {a b:List α} (h:∀x∈a,p x=false):(a++b).find? p=b.find? p:=by
 induction a with
 | nil=>rfl
 | cons x a Δ=>rw[List.cons_append,List.find?_cons,h x (by simp)];exact Δ λy Ο=>h y (by simp[Ο])
theorem fω [bn] {s:aR} {n m i:Nat} {c:List Nat} (Ι:n=fs s.cells s.cells.length) (F':n<10) (hm:m<=n) (J:∀j,j<m->∀c∈fW n j,u1 s c=false)
  (ζ:(fW n m)[i]?=some c) (γ:∀k,k<i->∀d,(fW n m)[k]?=some d->u1 s d=false) (π:u1 s c=true):uV s.cells (rR s)=c.map λk=>(placesOf s.cells).getD k []:=by
 unfold uV;rw[<-Ι,eΟ n F'];have e:(List.range (n+1)).flatMap (fW n)=(List.range m).flatMap (fW n)++(fW n m++((List.range' (m+1) (n-m)).flatMap (fW n))):=by
  have:List.range (n+1)=List.range m++(m::List.range' (m+1) (n-m)):=by
   rw[List.range_eq_range',List.range_eq_range'];have Ε:=List.range'_append (s:=0) (m:=m) (n:=n+1-m) (step:=1);simp at Ε;rw[show m+(n+1-m)=n+1 by omega] at Ε;rw[<-Ε,show n+1-m=(n-m)+1 by omega,List.range'_succ]
  rw[this,List.flatMap_append,List.flatMap_cons]
 have hi:=(b7.1 ζ).1
 have Ζ:fW n m=(fW n m).take i++c::(fW n m).drop (i+1):=by
  have aB:(fW n m)[i]=c:=by rw[a2 hi] at ζ;simpa using ζ
  rw[<-aB,<-List.drop_eq_getElem_cons hi,List.take_append_drop]
 rw[e,Rz,Ζ,List.append_assoc,Rz,List.cons_append,List.find?_cons]
 ·have:(!(rR s c).isEmpty)=true:=π;rw[this]
 ·intro x U;obtain⟨k,χ,rfl⟩:=List.getElem_of_mem U;rw[List.getElem_take];have eO:k<(fW n m).length:=by simp at χ;omega
  exact γ k (by simp at χ;omega) _ (a2 eO)
 ·intro x U;obtain⟨j,ε,U⟩:=List.mem_flatMap.1 U;exact J j (List.mem_range.1 ε) x U
theorem fΑ (l:List Int) (Α:l.length<2 ^ 63):@W oe Tryz.prog 0 82 [.code (Tryz.f12.body.getD .skip)] (entry 0 [bf R 1 l]) [] (λj env _=>(∃k,j=.code .ret::k)/\a5 env 2=bA true) (λ_ _ _=>False):=by
 letI:bn:=oe;show W Tryz.prog 0 82 [.code _] _ _ _ _;refine W.seq ?_
 repeat apply κ
 refine ξ λη I=>?_;simp;(repeat (rw[δ];simp));apply I;(repeat apply κ);refine c7 (A:=[3]) Κ λη I=>?_;simp;(repeat (rw[δ];simp));refine ak.call (first:=[]) (captured:=[]) ((fτ l).mono (λa s ⟨J,γ⟩=>?_) (λ_ _ h=>h.elim));subst J;subst γ;simp;(repeat (rw[δ];simp));have RA:(⟨l,1⟩:cG).bm.length<2 ^ 63:=Α;generalize (⟨l,1⟩:cG)=d0 at RA;refine uR.c (fβ d0 RA 4 3 (by decide) (by decide) (by decide)) 0 rfl (aK.refl _) (by simp) (by
  rintro r ⟨s,rfl,_⟩;simp[fJ,θ.cells]) ?_
 rintro r d1 ⟨s,rfl,ο,fΒ⟩ j2;simp;(repeat (rw[δ];simp));apply I;clear I η;refine W.nn (σ0:=[b4 d1]) (Nat.zero_le _) (λr μ=>by simp at μ;subst μ;exact ta d1 _) (λa ν=>by simp[θ.cells] at ν;rcases ν with rfl|rfl|rfl<;>simp[fJ,θ.cells]) [(3,.ad [aQ s.ai,aN s.ao,bl s.cells])] (by simp[hM,θ.cells,fJ]) ?_;have r8:=ο.small;have fΓ:=ο.err;have fΔ:=eΝ ο fΒ;have KR:∀x∈s.cells,x.length<2 ^ 10:=λx U=>by have:=(ο.cells x U).hi;omega
 have wz:=dο s r8 (by omega) KR (λ_=>by omega) (rR s) (λ_ k χ=>⟨Rg (KJ ο _) (KJ ο _).err,by have:=Rh (s.lW (k.map λn:Nat=>(n:Int)));show(fl _).length<_;omega⟩)
 have eX:=dχ s (by omega) KR
 have FT:(placesOf s.cells).length=fs s.cells s.cells.length:=Ki s.cells _ (Nat.le_refl _)
 have BT:=λm i c=>fω (s:=s) (n:=fs s.cells s.cells.length) (m:=m) (i:=i) (c:=c) rfl (by omega)
 have g1:=fψ s;obtain⟨P,dF⟩:∃P,P=placesOf s.cells:=⟨_,rfl⟩;obtain⟨G,cX⟩:∃G,G=uV s.cells (rR s):=⟨_,rfl⟩;obtain⟨n,Ι⟩:∃n,n=fs s.cells s.cells.length:=⟨_,rfl⟩;rw[fΓ] at wz;simp only[if_true] at wz;rw[<-cX] at wz;rw[<-dF] at eX FT;rw[<-Ι] at FT fΔ g1;simp only[<-dF,<-cX,<-Ι] at BT;have fΕ:∀x∈P,x.length=2:=by
  rw[dF];intro x U;obtain⟨c,_,U⟩:=List.mem_flatMap.1 U;obtain⟨j,_,rfl⟩:=List.mem_map.1 U;rfl
 (repeat apply κ);refine ξ λη I=>?_;simp;(repeat (rw[δ];simp));refine az.c (wz) (aK.refl _) (by simp) (by simp) ?_;simp;(repeat (rw[δ];simp));apply I;(repeat apply κ);refine ξ λη I=>?_;simp;(repeat (rw[δ];simp));refine az.c (eX) (aK.refl _) (by simp) (by simp) ?_;simp;(repeat (rw[δ];simp));apply I;(repeat (first|apply κ|(refine ξ λη I=>?_;simp;(repeat (rw[δ];simp));apply I)));refine W.iter (λm:Nat=>m<=n/\∀j,j<m->∀c∈fW n j,u1 s c=false) (λm=>[(3,.ad [aQ s.ai,aN s.ao,bl s.cells]),(4,aN G),(5,R 0),(6,aN P),(7,R m)]) (λ_=>[b4 d1]) (λm=>n-m) 0 ⟨Nat.zero_le _,λj ε=>by omega⟩ rfl (by simp) (λm hm Δ=>?_);obtain⟨hB,iz⟩:=hm;have mf:(m:Int)<=n:=by omega
 (repeat (first|apply κ|(refine ξ λη I=>?_;simp;(repeat (rw[δ];simp[FT,mf]));apply I)));refine al (by simp[hB]) ?_;have mb:=dΑ n m (by omega) (by omega) (λi hi=>Rk n (by omega) i (by omega)) (λi hi=>by have:=Rl n (by omega) i (by omega);omega);have BT:=λi c=>BT m i c hB iz;have wm:=Kn n m;have BH:=Rk n (by omega) m (by omega);have Kq:=Rl n (by omega) m (by omega);have ig:m=n->fW n m=[List.range n]:=λh=>by rw[h];exact eΡ n (by omega)
 obtain⟨C,hC⟩:∃C,C=fW n m:=⟨_,rfl⟩;rw[<-hC] at mb wm BH Kq ig;simp only[<-hC] at BT;have fΖ:=gH (i:=m) (by omega);(repeat apply κ);refine ξ λη I=>?_;simp;(repeat (rw[δ];simp[FT]));refine az.c (mb) (aK.refl _) (by simp) (by simp) ?_;simp;(repeat (rw[δ];simp));apply I;(repeat (first|apply κ|(refine ξ λη I=>?_;simp;(repeat (rw[δ];simp));apply I)));refine W.iter (λi:Nat=>i<=C.length/\∀k,k<i->∀d,C[k]?=some d->u1 s d=false) (λi=>[(3,.ad [aQ s.ai,aN s.ao,bl s.cells]),(4,aN G),(5,R 0),(6,aN P),(7,R m),(8,w9 C),(9,R i)]) (λ_=>[b4 d1]) (λi=>C.length-i) 0 ⟨Nat.zero_le _,λk χ=>by omega⟩ rfl (by simp) (λi hi eg=>?_);obtain⟨n0,nE⟩:=hi;(repeat (first|apply κ|(refine ξ λη I=>?_;simp;(repeat (rw[δ];simp));apply I)));by_cases e8:i<C.length
 ·refine al (by simp[e8]) ?_;have fV:=a2 e8;have j6:=List.getElem_mem e8;obtain⟨c,ζ⟩:∃c,c=C[i]:=⟨_,rfl⟩;rw[<-ζ] at fV j6;have kx:∀h,C[i]'h=c:=λh=>ζ.symm;have bj:=wm c j6;have hr:=BH c j6;have kO:=gH (i:=i) (by omega);obtain⟨fX,xa⟩:∃fX,fX=c.map λx:Nat=>(x:Int):=⟨_,rfl⟩;have jΓ:fX.length=m:=by rw[xa,List.length_map,bj]
  have FB:=dΝ s fX (by omega) (by omega) (λx U=>by have:=KR x U;omega)
  have bY:=KJ ο fX
  have wB:=W5 (s.lW fX) bY.small (fl (s.lW fX)) (Rg bY) (eΘ bY) (by rw[eΙ];have:=fυ bY 3;omega);rw[bY.err] at wB;simp only[if_true] at wB;have sK:=eΞ (s:=s.lW fX);obtain⟨N,ck⟩:∃N,N=gm (fl (s.lW fX)):=⟨_,rfl⟩;rw[<-ck] at wB sK;have RB:rR s c=fl (s.lW fX):=by rw[xa]
  repeat apply κ
  refine W.JR (A:=[]) Κ mixed [(3,.ad [aQ s.ai,aN s.ao,bl s.cells]),(4,aN G),(5,R 0),(6,aN P),(7,R m),(8,w9 C),(9,R i),(10,R N),(11,R 0)] [b4 d1] ?_ (by
   simp;(repeat (rw[bD];simp[fV,kx,e8]));(try rw[bC]);have fΗ:mS c=bf R 1 fX:=by rw[xa]
   refine gU (az.p FB (.cons (.refl _) (.cons (.of fΗ) .nil)) (by simp) (by simp)) ?_;simp;(repeat (rw[bD];simp));(try rw[bC]);refine gU (az.p wB (aK.refl _) (by simp) (by simp)) ?_;simp;(repeat (rw[bD];simp));(try rw[bC]);refine⟨bW (by kernel_rfl),?_⟩;simp)
  (repeat (first|apply κ|(refine ξ λη I=>?_;simp;(repeat (rw[δ];simp));apply I)));refine aj rfl ?_;(repeat (first|apply κ|(refine ξ λη I=>?_;simp;(repeat (rw[δ];simp));apply I)));by_cases FU:N=0
  ·refine al (by simp[FU]) ?_;refine W.exit rfl ?_;(repeat (first|apply κ|(refine ξ λη I=>?_;simp;(repeat (rw[δ];simp[kO]));apply I)));refine W.to (eg (i+1) ⟨by omega,λk χ d hd=>?_⟩ (by omega)) rfl (by simp);by_cases wx:k=i
   ·subst wx;rw[fV] at hd;cases hd;show(!(rR s c).isEmpty)=false;rw[RB,sK.1 FU];rfl
   ·exact nE k (by omega) d hd
  ·refine aj (by simp[FU]) ?_;have fΘ:u1 s c=true:=by
    show(!(rR s c).isEmpty)=true;rw[RB];have:fl (s.lW fX)≠[]:=λh=>FU (sK.2 h);simpa using this
   have KS:=BT i c fV nE fΘ;obtain⟨k6,qq⟩:∃q:Nat->List (List Int),q=λk=>(c.take k).map λj=>P.getD j []:=⟨_,rfl⟩;have sW:k6 0=[]:=by rw[qq];simp
   have Kk:∀k,(h:k<c.length)->k6 (k+1)=k6 k++[P.getD c[k] []]:=λk h=>by
    rw[qq];simp only;rw[List.take_succ_eq_append_getElem h,List.map_append];rfl
   have Kl:∀k,(k6 k).length<=k:=λk=>by rw[qq];simp;omega
   have FC:k6 m=G:=by rw[KS,qq,<-bj];simp
   have fΙ:∀x∈G,x.length<2 ^ 40:=λx U=>by
    rw[KS] at U;obtain⟨k,χ,rfl⟩:=List.mem_map.1 U;have Gz:=hr k χ;have:=fΕ (P.getD k []) (by rw[List.getD_eq_getElem?_getD,a2 (by omega)];exact List.getElem_mem _);omega
   have gQ:G.length<2 ^ 40:=by rw[KS];simp;omega
   clear qq;(repeat (first|apply κ|(refine ξ λη I=>?_;simp;(repeat (rw[δ];simp));apply I)));refine W.iter (λk:Nat=>k<=m) (λk=>[(3,.ad [aQ s.ai,aN s.ao,bl s.cells]),(4,aN G),(5,R 0),(6,aN P),(7,R m),(8,w9 C),(9,R i),(12,aX 1 ((k6 k).map (bf R 1))),(13,R k)]) (λk=>[b4 d1]++aL 29 1 ((k6 k).map (bf R 1))) (λk=>m-k) 0 (Nat.zero_le _) (by rw[sW];rfl) (by rw[sW];simp[aX]) (λk χ lM=>?_);have nD:=Kk k;have Km:=Kl k;obtain⟨D,dL⟩:∃D,D=k6 k:=⟨_,rfl⟩;rw[<-dL] at nD Km;refine W.to (σ':=[b4 d1]++aL 29 1 (D.map (bf R 1))) (env':=[(3,.ad [aQ s.ai,aN s.ao,bl s.cells]),(4,aN G),(5,R 0),(6,aN P),(7,R m),(8,w9 C),(9,R i),(12,aX 1 (D.map (bf R 1))),(13,R k)]) ?_ (by rw[dL]) (by rw[dL];simp);(repeat (first|apply κ|(refine ξ λη I=>?_;simp;(repeat (rw[δ];simp));apply I)));by_cases RD:k<m
   ·refine al (by simp[RD]) ?_;have e4:k<c.length:=by omega
    have th:=a2 e4
    have uG:=hr _ (List.getElem_mem e4)
    have nD:=nD e4;obtain⟨p,ω⟩:∃p,p=c[k]:=⟨_,rfl⟩;rw[<-ω] at th uG nD;have w6:∀h,c[k]'h=p:=λh=>ω.symm;have qs:p<P.length:=by omega
    have oj:P[p]?=some (P.getD p []):=by rw[List.getD_eq_getElem?_getD,a2 qs];rfl
    obtain⟨y,Ο⟩:∃y,y=P.getD p []:=⟨_,rfl⟩;rw[<-Ο] at oj nD;have w7:∀h,P[p]'h=y:=λh=>by rw[a2 h] at oj;simpa using oj
    have wv:=gH (i:=k) (by omega)
    repeat apply κ
    refine W.fC (A:=[71]) Κ [(3,.ad [aQ s.ai,aN s.ao,bl s.cells]),(4,aN G),(5,R 0),(6,aN P),(7,R m),(8,w9 C),(9,R i),(12,aX 1 ((D++[y]).map (bf R 1))),(13,R k)] ([b4 d1]++aL 29 1 ((D++[y]).map (bf R 1))) ?_ (by
     clear lM eg Δ;by_cases Η:D=[]
     ·subst Η;have Ε:aX 1 (([]:List (List Int)).map (bf R 1))=.sl true 0 []:=rfl;have Ζ:aL 29 1 (([]:List (List Int)).map (bf R 1))=[]:=rfl;rw[Ε,Ζ];(try simp);(repeat (rw[δ];simp[fV,kx,e8,e4,th,w6,qs,oj,w7]));(try simp[fV,kx,e8,e4,th,w6,qs,oj,w7]);simp[aX,aL]
     ·have gK:D.map (bf R 1)≠[]:=by simpa using Η
      rw[fi gK,c8 gK];have k5:D.length<=4294967295:=by omega
      (try simp);(repeat (rw[δ];simp[fV,kx,e8,e4,th,w6,qs,oj,w7,k5]));(try simp[fV,kx,e8,e4,th,w6,qs,oj,w7,k5]);simp[aX,aL])
    (repeat (first|apply κ|(refine ξ λη I=>?_;simp;(repeat (rw[δ];simp[wv]));apply I)));exact W.to (lM (k+1) (by omega) (by omega)) (by rw[nD];simp) (by rw[nD];simp)
   ·refine aj (by simp[RD]) ?_;have wx:k=m:=by omega
    refine W.exit rfl ?_;have fΚ:D=G:=by rw[dL,wx,FC]
    rw[fΚ];refine W.cut 1 (Nat.zero_le _) [(4,aN G),(5,R 0),(12,dk 1 (G.map (bf R 1)))] (by simp) ?_ ?_ ?_
    ·intro id r bS μ;obtain rfl:id=0:=by omega
     simp at μ;subst μ;exact ta d1 1
    ·intro z Η;simp only[List.mem_cons,List.not_mem_nil,or_false] at Η;rcases Η with rfl|rfl|rfl
     ·exact .low (by simp)
     ·exact .low (by simp)
     ·refine p6 (t:=29) (by decide) (λΗ=>?_) (λe he a ν=>(rL e he a ν).mono (Nat.zero_le _));rw[c8 Η];rfl
    ·have Χ:=Ny G G gQ fΙ;obtain⟨ph,wZ,nC,U⟩:=yh 1 (G.map (bf R 1));have eP:cC (.sl ph wZ nC) (aN G):=by rw[<-U];exact cC.acc
     rw[U];have fΜ:av 0 (.sl ph wZ nC):=by
      rw[<-U];unfold dk;split
      ·simp
      ·exact fJ.2 rL
     (repeat apply κ);refine ξ λη I=>?_;simp;(repeat (rw[δ];simp));refine az.c Χ (.cons (.refl _) (.cons eP .nil)) (by
      intro a ν;simp only[List.mem_cons,List.not_mem_nil,or_false] at ν;rcases ν with rfl|rfl
      ·exact fJ.2 rL
      ·exact fΜ) (by simp) ?_
     simp;(repeat (rw[δ];simp));refine az.c bς (aK.refl _) (by simp) (by simp) ?_;simp;(repeat (rw[δ];simp));apply I;exact W.stop ⟨⟨_,rfl⟩,rfl⟩
 ·refine aj (by simp[e8]) ?_;have dA:i=C.length:=by omega
  refine W.exit rfl ?_;have Ck:∀d∈C,u1 s d=false:=λd hd=>by
   obtain⟨k,χ,rfl⟩:=List.getElem_of_mem hd;exact nE k (by omega) _ (a2 χ)
  have mf:m≠n:=λh=>by
   have J:=Ck (List.range n) (by rw[ig h];simp)
   have γ:rR s (List.range n)≠[]:=fχ g1
   have:(!(rR s (List.range n)).isEmpty)=true:=by simpa using γ
   rw[show u1 s (List.range n)=true from this] at J;cases J
  (repeat (first|apply κ|(refine ξ λη I=>?_;simp;(repeat (rw[δ];simp[fΖ]));apply I)));refine W.to (Δ (m+1) ⟨by omega,λj ε d hd=>?_⟩ (by omega)) rfl (by simp);by_cases fΝ:j=m
  ·subst fΝ;exact Ck d (by rw[hC];exact hd)
  ·exact iz j (by omega) d hd
theorem fΞ:(laidOutB Tryz.prog)=true:=by kernel_rfl
theorem fΟ:(mapsRowed Tryz.prog)=true:=by kernel_rfl
theorem fΡ:((Tryz.prog.stops==[]))=true:=by kernel_rfl
theorem fΤ:((Tryz.prog.stopKnobs==[]))=true:=by kernel_rfl
theorem fΥ:(Tryz.prog.stopsHeard)=true:=by kernel_rfl
theorem fΦ:(Tryz.prog.mayEnter)=true:=by kernel_rfl
theorem fΧ:(YtlabjopijpkiaaaGreat.Rows.lightWrongRow.wf (OpenSpec.ofChange YtlabjopijpkiaaaGreat.Rows.lightWrongSpec))=true:=by kernel_rfl
theorem fΨ:(Tryz.f12.params.all (Tryz.prog.readableRec ·))=true:=by kernel_rfl
theorem fΩ:(namedTie Tryz.prog YtlabjopijpkiaaaGreat.Rows.lightWrongRow.named YtlabjopijpkiaaaGreat.Rows.lightWrongSpec.vars)=true:=by kernel_rfl
theorem gα:((YtlabjopijpkiaaaGreat.Rows.lightWrongRow.stops==[]))=true:=by kernel_rfl
theorem gβ:((YtlabjopijpkiaaaGreat.Rows.lightWrongRow.knobs==[]))=true:=by kernel_rfl
theorem gγ:((YtlabjopijpkiaaaGreat.Rows.lightWrongRow.inPlace==Tryz.prog.inPlace 12))=true:=by kernel_rfl
theorem gδ:((YtlabjopijpkiaaaGreat.Rows.lightWrongRow.unfollowed==Tryz.prog.unfollowed 12))=true:=by kernel_rfl
theorem gε:((YtlabjopijpkiaaaGreat.Rows.lightWrongRow.recurses==Tryz.prog.recurses 12))=true:=by kernel_rfl
theorem gζ:((YtlabjopijpkiaaaGreat.Rows.lightWrongRow.named==Tryz.prog.varsNamed 12))=true:=by kernel_rfl
theorem gη:((YtlabjopijpkiaaaGreat.Rows.lightWrongRow.maps==(Tryz.f12.params.toList++YtlabjopijpkiaaaGreat.Rows.lightWrongSpec.plain.varTypes Tryz.prog).any (Tryz.prog.mapsRec ·)))=true:=by kernel_rfl
theorem gθ:((YtlabjopijpkiaaaGreat.Rows.lightWrongRow.ifaces==(Tryz.f12.params.toList++YtlabjopijpkiaaaGreat.Rows.lightWrongSpec.plain.varTypes Tryz.prog).any (Tryz.prog.ifacesRec ·)))=true:=by kernel_rfl
theorem gι:((YtlabjopijpkiaaaGreat.Rows.lightWrongRow.mapsOut==Tryz.prog.mapsAmong Tryz.f12.resultTypes.toList))=true:=by kernel_rfl
theorem gκ:((YtlabjopijpkiaaaGreat.Rows.lightWrongRow.loops==(Tryz.f12.params.toList++YtlabjopijpkiaaaGreat.Rows.lightWrongSpec.plain.varTypes Tryz.prog).any (Tryz.prog.loopsFrom ·)))=true:=by kernel_rfl
theorem gμ:((YtlabjopijpkiaaaGreat.Rows.lightWrongRow.wideKeys==(Tryz.f12.params.toList++YtlabjopijpkiaaaGreat.Rows.lightWrongSpec.plain.varTypes Tryz.prog++Tryz.f12.resultTypes.toList).any (Tryz.prog.wideKeysFrom ·)))=true:=by kernel_rfl
theorem gν:(YtlabjopijpkiaaaGreat.Rows.lightWrongSpec.vars.all (Tryz.prog.varReadable ·))=true:=by kernel_rfl
theorem gξ:(Tryz.f12.resultTypes.all (λt=>Tryz.prog.readableRec t&&decide (t<Tryz.prog.types.size)))=true:=by kernel_rfl
theorem gο:((YtlabjopijpkiaaaGreat.Rows.lightWrongRow.ifacesOut==Tryz.f12.resultTypes.toList.any (Tryz.prog.ifacesRec ·)))=true:=by kernel_rfl
theorem gπ:((YtlabjopijpkiaaaGreat.Rows.lightWrongRow.loopsOut==Tryz.f12.resultTypes.toList.any (Tryz.prog.loopsFrom ·)))=true:=by kernel_rfl
theorem gρ:((YtlabjopijpkiaaaGreat.Rows.lightWrongRow.plainKeys==Tryz.prog.plainKeys))=true:=by kernel_rfl
theorem gς:(YtlabjopijpkiaaaGreat.Rows.lightWrongRow.shortTexts.isNone)=true:=by kernel_rfl
theorem gτ:((YtlabjopijpkiaaaGreat.Rows.lightWrongRow.lifted==Tryz.prog.liftsFinal))=true:=by kernel_rfl
theorem gυ:((Tryz.prog.make==some YtlabjopijpkiaaaGreat.Rows.lightWrongRow.make))=true:=by kernel_rfl
theorem gφ:((YtlabjopijpkiaaaGreat.Rows.lightWrongRow.kinds==(if YtlabjopijpkiaaaGreat.Rows.lightWrongRow.domain.isEmpty then [] else Tryz.f12.params.toList.map λt=>match Tryz.prog.underlying t with|some (.int k)=>some k|_=>none)))=true:=by kernel_rfl
theorem gχ:((YtlabjopijpkiaaaGreat.Rows.lightWrongRow.pinned==YtlabjopijpkiaaaGreat.Rows.lightWrongRow.pinnedBy))=true:=by kernel_rfl
theorem gψ:((YtlabjopijpkiaaaGreat.Rows.lightWrongRow.veiled==(Tryz.f12.params.toList++YtlabjopijpkiaaaGreat.Rows.lightWrongSpec.plain.varTypes Tryz.prog++Tryz.f12.resultTypes.toList).any (Tryz.prog.veiledRec ·)))=true:=by kernel_rfl
theorem gω:(YtlabjopijpkiaaaGreat.Rows.lightWrongRow.veiledFits Tryz.prog Tryz.f12.params.toList (Tryz.f12.params.toList++YtlabjopijpkiaaaGreat.Rows.lightWrongSpec.plain.varTypes Tryz.prog++Tryz.f12.resultTypes.toList))=true:=by kernel_rfl
theorem gΑ:joinedFacts Tryz.prog 12 Tryz.f12 YtlabjopijpkiaaaGreat.Rows.lightWrongSpec YtlabjopijpkiaaaGreat.Rows.lightWrongRow=true:=by
 unfold joinedFacts;simp only[Bool.and_eq_true];exact⟨⟨⟨⟨⟨⟨⟨⟨⟨⟨⟨⟨⟨⟨⟨⟨⟨⟨⟨⟨⟨⟨⟨⟨⟨⟨⟨⟨⟨⟨⟨fΧ,fΞ⟩,fΟ⟩,fΨ⟩,fΩ⟩,gα⟩,fΡ⟩,gβ⟩,fΤ⟩,gγ⟩,gδ⟩,gε⟩,gζ⟩,gη⟩,gθ⟩,gι⟩,gκ⟩,gμ⟩,gν⟩,gξ⟩,gο⟩,gπ⟩,gρ⟩,gς⟩,fΥ⟩,fΦ⟩,gτ⟩,gυ⟩,gφ⟩,gχ⟩,gψ⟩,gω⟩
end Go.TL
namespace Go.TL
open Go.Conc Go.ConcM Go.Proofs
open Go.ChangeShapes Go.WideShapes Go.ChangeAt Go.RowKit
set_option maxRecDepth 100000 in
theorem gΒ (hW:∀(W:World) (l:List Int) (v:Value),l.length<2 ^ 63->ar (qn W) [] [] (bf R 1 l) v->Comes Tryz.prog (λv=>v=.bool true) W (solo (Go.Conc.G (Frame.enter Tryz.prog 12 #[v] .normal) []) W) #[])
  (os:Os) (started:os.Started) (H:Type) (enc:TypeId×Value->H) (F:Stop.Interp) :
  ReturnsInLeavingWide YtlabjopijpkiaaaGreat.Rows.lightWrongRow.assume Tryz.checked os 12 .any (YtlabjopijpkiaaaGreat.Rows.lightWrongSpec.pre6 enc Tryz.prog Tryz.f12 YtlabjopijpkiaaaGreat.Rows.lightWrongRow.domain YtlabjopijpkiaaaGreat.Rows.lightWrongRow.apart)
   ((OpenSpec.ofChange YtlabjopijpkiaaaGreat.Rows.lightWrongSpec).postWith enc Tryz.prog Tryz.f12 F (outsideKept [.timePasses]) YtlabjopijpkiaaaGreat.Rows.lightWrongRow.apart YtlabjopijpkiaaaGreat.Rows.lightWrongRow.fresh YtlabjopijpkiaaaGreat.Rows.lightWrongRow.handsOn):=by
 refine returnsInLeavingWide_of_change_time (C:=Tryz.checked) cμ started Tryz.func12
  (ChangeSpec.witness6c (enc:=enc) (C:=Tryz.checked) ⟨#[],#[.slice none 0 0],[]⟩ 8 (by kernel_rfl) (by kernel_rfl) (by kernel_rfl) (by kernel_rfl)) ?_
 intro W base args ds gs before gΓ RE _ _ _;have E2:∀(j:Nat) t v,Tryz.f12.params[j]?=some t->args[j]?=some v->Value.okWide Tryz.prog W .any base t v:=gΓ;have RF:=RE;obtain⟨p,q,gΔ,hp,rfl,Mg,ko⟩:=RE;have bU:DataW.TrodAll enc Tryz.prog W 0 (λ_=>true) true Tryz.f12.params.toList args.toList ds p:=gΔ;rw[Tryz.params12] at bU E2;obtain⟨v0,d0,rfl,rfl,ah⟩:=trodAll_one bU;obtain⟨rfl,rfl⟩:=trodVars_none hp;have aH:∀x∈p,x.block<W.heap.size:=λx U=>by simpa using RF.lt x (List.mem_append_left _ U)
 have mq:∀(KT:World),Below W.heap.size W KT->DataW.Trod enc Tryz.prog KT 0 (λb=>decide (b<W.heap.size)) true 29 v0 d0 p:=
  λKT Ι=>Below.trod cν (by kernel_rfl) (of_decide_eq_true (by kernel_rfl)) ah Ι aH
 obtain⟨l,Α,C9⟩:∃l:List Int,l.length<2 ^ 63/\ar (qn W) [] [] (bf R 1 l) v0:=by
  obtain⟨w8,len,cap,rfl⟩:=okWide_slice Tryz.underlying29 (E2 0 29 v0 rfl rfl);obtain⟨jΔ,Τ⟩:=ah;rcases open_ints Tryz.underlying29 Tryz.underlying3 cξ Τ with⟨im,U⟩|⟨a,jΕ,G3,fR,im,_,Α,hm,Η,U,sO,jΖ⟩
  ·simp[Value.cells] at im;obtain⟨rfl,rfl,rfl⟩:=im;exact⟨[],by decide,.iI _ _ (by simp)⟩
  ·simp[Value.cells] at im;obtain⟨rfl,rfl,rfl⟩:=im;simp only[if_true] at Η;refine⟨fR.take len,?_,cπ Α (by omega) sO⟩;rw[List.length_take];unfold maxLen at hm;omega
 obtain⟨M,last,o,w',t',r1,r2,r3,v,e,ω,Ρ,ag,aV,cr⟩:=hW W l v0 Α C9;refine⟨M,last,o,w',t',r1,r2,r3,v,e,⟨?_,ω.2.os⟩,Ρ,ag,aV,cr⟩;obtain⟨rfl,χ⟩:=ω;exact⟨_,_,_,[],_,[],RF,trodAll_mk1 (shut_bool Tryz.underlying4 _),trodAll_mk1 (mq _ χ.below),rfl,χ.below.frame _,λh=>by cases h⟩
theorem gΕ (W:World) (l:List Int) (v:Value) (Α:l.length<2 ^ 63) (μ:ar (qn W) [] [] (bf R 1 l) v):Comes Tryz.prog (λv=>v=.bool true) W (solo (Go.Conc.G (Frame.enter Tryz.prog 12 #[v] .normal) []) W) #[]:=
 cκ (d:=2) (l:=[bf R 1 l]) Tryz.func12 rfl (by kernel_rfl) (by kernel_rfl) ⟨rfl,λi a u J γ=>by
  match i with
  | 0=>simp at J γ;subst J;subst γ;exact μ
  | i+1=>simp at J⟩ (by rw[Tryz.ntmps12];simp) (fΑ l Α)
end Go.TL
namespace Go.Proofs.YtlabjopijpkiaaaGreat
open Go.TL
theorem light_wrong:Rows.LightWrongSaid:=
 OpenClaim.holds_of_wide_leaving_time 12 Tryz.f12 rfl rfl rfl rfl rfl rfl rfl ⟨rfl,rfl,rfl,rfl,rfl⟩ rfl rfl rfl rfl rfl (by kernel_rfl) Tryz.func12 gΑ
  (of_decide_eq_true (by kernel_rfl)) (by unfold Func.isWrapper;first|(rw[if_pos (by decide +kernel)];kernel_rfl)|(rw[if_neg (by decide +kernel)];exact⟨rfl,rfl⟩))
  (λos started H enc _ F=>gΒ gΕ os started H enc F)
end Go.Proofs.YtlabjopijpkiaaaGreat
