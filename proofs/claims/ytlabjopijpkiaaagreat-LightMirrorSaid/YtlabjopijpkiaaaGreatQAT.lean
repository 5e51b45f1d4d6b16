import Derived.Conc.AtomicLaws2
import Derived.Conc.ClockLaws
import Derived.Conc.MarkLaws
import Derived.Test.YtlabjopijpkiaaaGreatQAR
import Derived.Test.YtlabjopijpkiaaaGreatQAS
set_option maxHeartbeats 16000000
set_option maxRecDepth 20000
set_option linter.unusedSectionVars false
set_option linter.unusedSimpArgs false
set_option linter.unusedVariables false
namespace Go.TL
open Go.Proofs
variable [bh]
theorem aC.Ui {P:Program} {σ:List Row} {g:FuncId} {as0 first:List ζ} {row row':Row} {r:ζ} {K E:ζ->List Row->Prop} (h:aC P g as0 [row] (λa s=>a=r/\s=[row']) (λ_ _=>False)) (id:Nat) (bS:σ[id]?=some row) (χ:iJ row) (hl:iJ row') (κ:∀a∈as0,fH 1 a) (ι:fH 1 r)
  {args:List ζ} (lh:first++args=as0.map (dP [id])) (I:K (dP [id] r) (σ.set id row')):ht P (.fn (.func g) first []) args σ K E:=by
 have aN:=aC.rows (σ:=σ) h [id] (by simp) rfl (λj i γ=>by
  cases j with
  | zero=>simp at γ;subst γ;exact bS
  | succ j=>simp at γ) (λr ι=>by simp at ι;subst ι;exact χ) (by simpa using κ) (K':=K) (E':=E) (λa s ⟨J,R⟩=>by
   subst J;subst R;refine⟨λx U=>by simp at U;subst U;exact hl,ι,?_⟩;simpa[names,qV,hQ] using I) (λa s h=>h.elim)
 exact aC.call (first:=first) (captured:=[]) (by rw[List.append_nil,lh];exact aN)
def sj (s:a9) (f:Found) (c n:Nat) (m:List (Int×Int)) (j:Nat):List (Int×Int):=(((f.cells[c]?).getD []).take j).foldl (λm r=>si m (s.hS (f.u,f.v) r n) (f.many c)) m
def ua (s:a9) (F:List Found) (c n i:Nat):List (Int×Int):=(F.take i).foldl (λm f=>sj s f c n m ((f.cells[c]?).getD []).length) []
def sk (a:Int) (l:List (Int×Int)):Int:=l.foldl (λa e=>max a e.2) a
def B4 (s:a9) (F:List Found) (c n:Nat):Int:=sk 0 (ua s F c n F.length)
def ub (s:a9) (F:List Found) (c:Nat) (b:kG) (n:Nat):kG:=(List.range n).foldl (λb (n:Nat)=>b.take c n (B4 s F c n)) b
def sm (s:a9) (F:List Found) (c:Nat):kG:=(List.range c).foldl (λb (c:Nat)=>ub s F c b s.ak.length) ⟨0,0,0,false⟩
theorem Uj (s:a9) (F:List Found) (c:Nat) (b:kG) (n:Nat):ub s F c b (n+1)=(ub s F c b n).take c n (B4 s F c n):=by simp[ub,List.range_succ,List.foldl_append]
theorem Uk (s:a9) (F:List Found) (c:Nat):sm s F (c+1)=ub s F c (sm s F c) s.ak.length:=by simp[sm,List.range_succ,List.foldl_append]
theorem Ul (s:a9) (f:Found) (c n:Nat) (m:List (Int×Int)) (j:Nat) (h:j<((f.cells[c]?).getD []).length):sj s f c n m (j+1)=si (sj s f c n m j) (s.hS (f.u,f.v) ((f.cells[c]?).getD [])[j] n) (f.many c):=by
 unfold sj;rw[List.take_succ_eq_append_getElem h,List.foldl_append];rfl
theorem Um (s:a9) (F:List Found) (c n i:Nat) (h:i<F.length):ua s F c n (i+1)=sj s F[i] c n (ua s F c n i) ((F[i].cells[c]?).getD []).length:=by
 unfold ua;rw[List.take_succ_eq_append_getElem h,List.foldl_append];rfl
theorem Un {a:Int} {l m:List (Int×Int)} (h:l.Perm m):sk a l=sk a m:=h.foldl_eq' (λx _ y _ z=>by omega) a
def q4 (s:a9) (F:List Found):Int×Int×Int×Int:=
 if(ft s true F).2.2≠0 then(0,0,0,(ft s true F).2.2)
 else let b:=sm s F s.cells.length;if b.some=false\/b.least=jx F then(0,0,0,11) else(b.c,b.n,b.least,0)
structure B5 (s:a9) (F:List Found):Prop where
 sh:F.length<2 ^ 20
 cells:∀f∈F,f.cells.length=s.cells.length/\(∀c∈f.cells,c.length<2 ^ 20/\∀r∈c,r.1<s.Τ.length/\r.2<s.Τ.length)
 many:∀f∈F,f.cells.length<2 ^ 62/\∀(ib:Int) i,i<=f.cells.length->lr f.cells ib i<2 ^ 62
 count:jx F<2 ^ 62
theorem Uo (s:a9) (ν:s.small) (F:List Found) (gC:se s F) (b8:B5 s F) :
  an Tryz.prog 26 [e8 s] (.bn [δ (q4 s F).1,δ (q4 s F).2.1,δ (q4 s F).2.2.1,δ (q4 s F).2.2.2]):=by
 refine aC.body Μ Tryz.func26 rfl rfl Tryz.ntmps26 rfl rfl (by simp) ?_;(repeat (first|apply μ|(refine ξ λθ I=>?_;simp;(repeat (rw[ε];simp));apply I)));(repeat apply μ);refine dy (A:=[6]) Μ λθ I=>?_;simp;(repeat (rw[ε];simp));refine an.c (BX s ν true F gC) (aE.refl _) (by simp) (by simp) ?_;simp;(repeat (rw[ε];simp));apply I;by_cases b:(ft s true F).2.2=0
 case neg=>
  have e:q4 s F=(0,0,0,(ft s true F).2.2):=by unfold q4;rw[if_pos b]
  rw[e];generalize (ft s true F).2.2=fr at b;(repeat (first|apply μ|(refine ξ λθ I=>?_;simp;(repeat (rw[ε];simp));apply I)));refine ax (by simp[b]) ?_;(repeat (first|apply μ|(refine ξ λθ I=>?_;simp;(repeat (rw[ε];simp));apply I)));refine W.drop (h:=0) (σ':=[]) (Nat.zero_le _) (Nat.zero_le _) (by simp) rfl [(2,δ 0),(3,δ 0),(4,δ 0),(5,δ fr)] (by simp) ?_;refine W.ret ⟨_,rfl,?_,rfl⟩;exact .refl _
 have e:ft s true F=(s,F,0):=by
  unfold ft at b ⊢;split at b
  ·rename_i h;simp at b;exact absurd b h
  ·split at b
   ·simp at b
   ·rename_i J R;rw[if_neg J,if_neg R]
 have Ε:q4 s F=let b:=sm s F s.cells.length;if b.some=false\/b.least=jx F then(0,0,0,11) else(b.c,b.n,b.least,0):=by unfold q4;rw[if_neg (by simpa using b)]
 rw[Ε,e];clear Ε;refine W.fix (id:=0) (σ':=[]) (Nat.zero_le _) rfl (by simp) (by simp) rfl [(5,δ 0),(6,.Ω [aJ s.Τ,aL s.ak,bx s.cells]),(7,cD F)] (by simp) ?_;(repeat (first|apply μ|(refine ξ λθ I=>?_;simp;(repeat (rw[ε];simp));apply I)));refine au rfl ?_
 repeat apply μ
 refine dy (A:=[8]) Μ λθ I=>?_;simp;(repeat (rw[ε];simp));apply I;(repeat (first|apply μ|(refine ξ λθ I=>?_;simp;(repeat (rw[ε];simp));apply I)));have hr:s.cells.length<2 ^ 30:=ν.2.2.1;have cΙ:s.ak.length<2 ^ 30:=ν.2.1;have pP:∀{b:kG} (M:List (Int×Int)),∀r∈[Row.cells 104 4 [kH b],.map (M.map hF)],eJ [Row.cells 104 4 [kH b],.map (M.map hF)].length r:=λ{b} M r ι=>by
  simp only[List.mem_cons,List.not_mem_nil,or_false] at ι;rcases ι with rfl|rfl
  ·simp[eJ,ζ.cells]
  ·intro e he;obtain⟨x,_,rfl⟩:=List.mem_map.1 he;simp
 refine W.iter (λc:Nat=>c<=s.cells.length) (λc=>[(6,.Ω [aJ s.Τ,aL s.ak,bx s.cells]),(7,cD F),(8,.ae 0 1 0 0),(9,.fn (.func 76) [.ae 0 1 0 0] []),(33,δ s.cells.length),(34,δ c)])
  (λc=>[.cells 104 4 [kH (sm s F c)]]) (λc=>s.cells.length-c) 0 (Nat.zero_le _) rfl (by simp) (λc k7 Γ=>?_)
 (repeat (first|apply μ|(refine ξ λθ I=>?_;simp;(repeat (rw[ε];simp));apply I)));refine W.dR rfl (λη=>?_) (λη=>?_)
 ·have lb:c<s.cells.length:=by simpa using η
  (repeat (first|apply μ|(refine ξ λθ I=>?_;simp;(repeat (rw[ε];simp));apply I)));obtain⟨cx,iC⟩:∃cx,cx=sm s F c:=⟨_,rfl⟩;refine W.iter (λn:Nat=>n<=s.ak.length) (λn=>[(6,.Ω [aJ s.Τ,aL s.ak,bx s.cells]),(7,cD F),(8,.ae 0 1 0 0),(9,.fn (.func 76) [.ae 0 1 0 0] []),(10,δ c),(33,δ s.cells.length),(34,δ c),(40,δ s.ak.length),(41,δ n)])
   (λn=>[.cells 104 4 [kH (ub s F c cx n)]]) (λn=>s.ak.length-n) 0 (Nat.zero_le _) (by rw[iC];rfl) (by simp) (λn pv hz=>?_)
  (repeat (first|apply μ|(refine ξ λθ I=>?_;simp;(repeat (rw[ε];simp));apply I)));refine W.dR rfl (λa6=>?_) (λa6=>?_)
  ·have pn:n<s.ak.length:=by simpa using a6
   obtain⟨bs,jM⟩:∃bs,bs=ub s F c cx n:=⟨_,rfl⟩;refine W.to (σ':=[.cells 104 4 [kH bs]]) (env':=[(6,.Ω [aJ s.Τ,aL s.ak,bx s.cells]),(7,cD F),(8,.ae 0 1 0 0),(9,.fn (.func 76) [.ae 0 1 0 0] []),(10,δ c),(33,δ s.cells.length),(34,δ c),(40,δ s.ak.length),(41,δ n)]) ?_ (by rw[jM]) (by simp);(repeat (first|apply μ|(refine ξ λθ I=>?_;simp;(repeat (rw[ε];simp));apply I)));refine W.iter (λi:Nat=>i<=F.length) (λi=>[(6,.Ω [aJ s.Τ,aL s.ak,bx s.cells]),(7,cD F),(8,.ae 0 1 0 0),(9,.fn (.func 76) [.ae 0 1 0 0] []),(10,δ c),(33,δ s.cells.length),(34,δ c),(40,δ s.ak.length),(41,δ n),(11,δ n),(12,.mp 1),(45,cD F),(46,δ F.length),(47,δ i)])
    (λi=>[.cells 104 4 [kH bs],.map ((ua s F c n i).map hF)]) (λi=>F.length-i) 0 (Nat.zero_le _) rfl (by simp) (λi hi tX=>?_)
   (repeat (first|apply μ|(refine ξ λθ I=>?_;simp;(repeat (rw[ε];simp));apply I)));by_cases j0:i<F.length
   ·refine ax (by simp[j0]) ?_;obtain⟨M,dM⟩:∃M,M=ua s F c n i:=⟨_,rfl⟩;have oG:=Um s F c n i j0;rw[<-dM] at oG;obtain⟨mc,hk⟩:=b8.cells _ (List.getElem_mem j0);obtain⟨lA,mY⟩:=b8.many _ (List.getElem_mem j0);generalize ab:F[i]=f at oG mc hk lA mY;have b3:c<f.cells.length:=by rw[mc];exact lb
    refine W.to (σ':=[.cells 104 4 [kH bs],.map (M.map hF)]) (env':=[(6,.Ω [aJ s.Τ,aL s.ak,bx s.cells]),(7,cD F),(8,.ae 0 1 0 0),(9,.fn (.func 76) [.ae 0 1 0 0] []),(10,δ c),(33,δ s.cells.length),(34,δ c),(40,δ s.ak.length),(41,δ n),(11,δ n),(12,.mp 1),(45,cD F),(46,δ F.length),(47,δ i)]) ?_ (by rw[dM]) (by simp)
    repeat apply μ
    refine dy (A:=[14]) Μ λθ I=>?_;simp;(repeat (rw[ε];simp[j0,ab]));apply I;refine W.lu (σ0:=[.cells 104 4 [kH bs],.map (M.map hF)]) (Nat.zero_le _) (pP _) (by simp) [(14,.Ω [δ f.u,δ f.v,lq f.cells]),(6,.Ω [aJ s.Τ,aL s.ak,bx s.cells]),(7,cD F),(8,.ae 0 1 0 0),(9,.fn (.func 76) [.ae 0 1 0 0] []),(10,δ c),(33,δ s.cells.length),(34,δ c),(40,δ s.ak.length),(41,δ n),(11,δ n),(12,.mp 1),(45,cD F),(46,δ F.length),(47,δ i)] (by simp[iZ,qR]) ?_;(repeat (first|apply μ|(refine ξ λθ I=>?_;simp;(repeat (rw[ε];simp[b3]));apply I)));have yv:(f.cells[c]?).getD []=f.cells[c]:=by simp[b3]
    rw[yv] at oG;have yw:=hk _ (List.getElem_mem b3);have oH:=Ul s f c n M;rw[yv] at oH;generalize f.cells[c]=C at oG yw oH;obtain⟨Up,FZ⟩:=yw;refine W.iter (λj:Nat=>j<=C.length) (λj=>[(14,.Ω [δ f.u,δ f.v,lq f.cells]),(6,.Ω [aJ s.Τ,aL s.ak,bx s.cells]),(7,cD F),(8,.ae 0 1 0 0),(9,.fn (.func 76) [.ae 0 1 0 0] []),(10,δ c),(33,δ s.cells.length),(34,δ c),(40,δ s.ak.length),(41,δ n),(11,δ n),(12,.mp 1),(45,cD F),(46,δ F.length),(47,δ i),(55,lp C),(56,δ C.length),(57,δ j)])
     (λj=>[.cells 104 4 [kH bs],.map ((sj s f c n M j).map hF)]) (λj=>C.length-j) 0 (Nat.zero_le _) (by simp[sj]) (by simp) (λj γ pO=>?_)
    (repeat (first|apply μ|(refine ξ λθ I=>?_;simp;(repeat (rw[ε];simp));apply I)));by_cases kI:j<C.length
    ·refine ax (by simp[kI]) ?_;obtain⟨M2,vN⟩:∃M2,M2=sj s f c n M j:=⟨_,rfl⟩;have oI:=oH j kI;rw[<-vN] at oI;refine W.to (σ':=[.cells 104 4 [kH bs],.map (M2.map hF)]) (env':=[(14,.Ω [δ f.u,δ f.v,lq f.cells]),(6,.Ω [aJ s.Τ,aL s.ak,bx s.cells]),(7,cD F),(8,.ae 0 1 0 0),(9,.fn (.func 76) [.ae 0 1 0 0] []),(10,δ c),(33,δ s.cells.length),(34,δ c),(40,δ s.ak.length),(41,δ n),(11,δ n),(12,.mp 1),(45,cD F),(46,δ F.length),(47,δ i),(55,lp C),(56,δ C.length),(57,δ j)]) ?_ (by rw[vN]) (by simp);obtain⟨qw,sa⟩:=FZ _ (List.getElem_mem kI);generalize ι:C[j]=r at oI qw sa
     repeat apply μ
     refine dy (A:=[16]) Μ λθ I=>?_;simp;(repeat (rw[ε];simp[kI,ι]));apply I;refine W.lu (σ0:=[.cells 104 4 [kH bs],.map (M2.map hF)]) (Nat.zero_le _) (pP _) (by simp) [(16,.Ω [δ r.1,δ r.2]),(14,.Ω [δ f.u,δ f.v,lq f.cells]),(6,.Ω [aJ s.Τ,aL s.ak,bx s.cells]),(7,cD F),(8,.ae 0 1 0 0),(9,.fn (.func 76) [.ae 0 1 0 0] []),(10,δ c),(33,δ s.cells.length),(34,δ c),(40,δ s.ak.length),(41,δ n),(11,δ n),(12,.mp 1),(45,cD F),(46,δ F.length),(47,δ i),(55,lp C),(56,δ C.length),(57,δ j)] (by simp[iZ,qR]) ?_
     repeat apply μ
     have mX:=eK kI (show C.length<2 ^ 62 by omega);rcases Uh (s.hS (f.u,f.v) r n) (f.many c) M2 0 with⟨Ξ,aa⟩|⟨cH,v,cI,Ξ,aa⟩
     ·refine W.draw (A:=[]) Μ mixed λθ I=>?_;simp;(repeat (rw[cz];simp[Ξ,h9]));try rw[cy]
      refine iI (an.p (yi s ν (f.u,f.v) r n pn qw sa) (aE.refl _) (by simp) (by simp)) ?_;simp[Ξ,h9];(repeat (rw[cz];simp[Ξ,h9]));try rw[cy]
      refine iI (an.p (BP f c lA (mY c)) (aE.refl _) (by simp) (by simp)) ?_;simp[Ξ,h9];(repeat (rw[cz];simp[Ξ,h9]));try rw[cy]
      refine⟨cZ (by kernel_rfl),I _ _ ?_⟩;(repeat (first|apply μ|(refine ξ λθ I=>?_;simp;(repeat (rw[ε];simp[mX]));apply I)));refine W.to (pO (j+1) kI (by omega)) ?_ ?_
      ·rw[oI,aa];simp
      ·simp[mX]
     ·refine W.draw (A:=[]) Μ mixed λθ I=>?_;simp;(repeat (rw[cz];simp[Ξ,h9]));try rw[cy]
      refine iI (an.p (yi s ν (f.u,f.v) r n pn qw sa) (aE.refl _) (by simp) (by simp)) ?_;simp[Ξ,h9];(repeat (rw[cz];simp[Ξ,h9]));try rw[cy]
      refine iI (an.p (BP f c lA (mY c)) (aE.refl _) (by simp) (by simp)) ?_;simp[Ξ,h9];(repeat (rw[cz];simp[Ξ,h9]));try rw[cy]
      refine⟨cZ (by kernel_rfl),I _ _ ?_⟩;(repeat (first|apply μ|(refine ξ λθ I=>?_;simp;(repeat (rw[ε];simp[mX]));apply I)));refine W.to (pO (j+1) kI (by omega)) ?_ ?_
      ·rw[oI,aa];simp
      ·simp[mX]
    ·have yu:j=C.length:=by omega
     subst yu;have lk:=eK j0 (show F.length<2 ^ 62 by have:=b8.sh;omega);refine au (by simp) ?_;refine W.exit rfl ?_;(repeat (first|apply μ|(refine ξ λθ I=>?_;simp;(repeat (rw[ε];simp[lk]));apply I)));refine W.to (tX (i+1) j0 (by omega)) ?_ ?_
     ·rw[oG]
     ·simp[lk]
   ·have ea:i=F.length:=by omega
    subst ea;refine au (by simp) ?_;refine W.exit rfl ?_;obtain⟨M,dM⟩:∃M,M=ua s F c n F.length:=⟨_,rfl⟩;have Uq:B4 s F c n=sk 0 M:=by rw[dM];rfl
    refine W.to (σ':=[.cells 104 4 [kH bs],.map (M.map hF)]) (env':=[(6,.Ω [aJ s.Τ,aL s.ak,bx s.cells]),(7,cD F),(8,.ae 0 1 0 0),(9,.fn (.func 76) [.ae 0 1 0 0] []),(10,δ c),(33,δ s.cells.length),(34,δ c),(40,δ s.ak.length),(41,δ n),(11,δ n),(12,.mp 1)]) ?_ (by rw[dM]) (by simp);(repeat (first|apply μ|(refine ξ λθ I=>?_;simp;(repeat (rw[ε];simp));apply I)));refine W.iter (λx:Int×List (Int×Int)×Option (ζ×ζ)=>sk x.1 x.2.1=sk 0 M) (λx=>[(6,.Ω [aJ s.Τ,aL s.ak,bx s.cells]),(7,cD F),(8,.ae 0 1 0 0),(9,.fn (.func 76) [.ae 0 1 0 0] []),(10,δ c),(33,δ s.cells.length),(34,δ c),(40,δ s.ak.length),(41,δ n),(11,δ n),(12,.mp 1),(17,δ x.1),(76,.it 2)])
     (λx=>[.cells 104 4 [kH bs],.map (M.map hF),.iter 1 (x.2.1.map hF) x.2.2]) (λx=>x.2.1.length) (0,M,none) rfl rfl (by simp) (λx U Ur=>?_)
    obtain⟨mK,ag,cur⟩:=x;simp only at U
    repeat apply μ
    cases ag with
    | nil=>
     (repeat apply μ);refine ξ λθ I=>?_;simp;(repeat (rw[ε];simp));apply I
     repeat apply μ
     refine au rfl ?_;refine W.exit rfl ?_;have F0:mK=B4 s F c n:=by rw[Uq,<-U];rfl
     have yx:=eK pn (show s.ak.length<2 ^ 62 by omega);(repeat apply μ);refine ξ λθ I=>?_;simp;(repeat (rw[ε];simp));refine aC.Ui (as0:=[.ae 0 1 0 0,.aR [δ c,δ n],δ mK]) (Ug bs c n mK) 0 rfl (by simp[iJ,ζ.cells]) (by simp[iJ,ζ.cells]) (by simp[fH,pH]) (by simp[fH]) rfl ?_;simp[dP,hy];(repeat (rw[ε];simp));apply I;refine W.drop (h:=1) (σ':=[.cells 104 4 [kH (bs.take c n mK)]]) (Nat.zero_le _) (by simp) (λid r bS ι=>?_) rfl [(6,.Ω [aJ s.Τ,aL s.ak,bx s.cells]),(7,cD F),(8,.ae 0 1 0 0),(9,.fn (.func 76) [.ae 0 1 0 0] []),(10,δ c),(33,δ s.cells.length),(34,δ c),(40,δ s.ak.length),(41,δ n)] (by simp[iZ]) ?_
     ·obtain rfl:id=0:=by omega
      simp at ι;subst ι;simp[eJ,ζ.cells]
     (repeat (first|apply μ|(refine ξ λθ I=>?_;simp;(repeat (rw[ε];simp[yx]));apply I)));refine W.to (hz (n+1) pn (by omega)) ?_ ?_
     ·rw[Uj,<-jM,F0]
     ·simp[yx]
    | cons y ag=>
     (repeat apply μ);refine ξ λθ I=>?_;simp;(repeat (rw[ε];simp));intro cH qG;obtain⟨x,rI⟩:∃x,x=(y::ag)[cH]'(by simpa using qG):=⟨_,rfl⟩;have FW:(hF y::List.map hF ag)[cH]?=some (hF x):=by
      have:(List.map hF (y::ag))[cH]?=some (hF x):=by
       rw[List.getElem?_map,aX (by simpa using qG),rI];rfl
      simpa using this
     have FX:(hF y::List.map hF ag).eraseIdx cH=((y::ag).eraseIdx cH).map hF:=KT hF (y::ag) cH;rw[FW,FX];simp;(repeat (rw[ε];simp));apply I
     repeat apply μ
     refine ax rfl ?_;(repeat (first|apply μ|(refine ξ λθ I=>?_;simp;(repeat (rw[ε];simp));apply I)));have KZ:cH<(y::ag).length:=by simpa using qG
     have hinv:sk (max mK x.2) ((y::ag).eraseIdx cH)=sk 0 M:=by
      rw[<-U,<-Un (KR (y::ag) cH KZ),<-rI];rfl
     have F0:max mK x.2=if mK<x.2 then x.2 else mK:=by split<;>omega
     refine W.to (Ur (max mK x.2,(y::ag).eraseIdx cH,some (hF x)) hinv (by simp only[List.length_eraseIdx,KZ,if_true];omega)) ?_ ?_
     ·simp
     ·simp[F0]
  ·have bd:n=s.ak.length:=by simp at a6;omega
   subst bd;have yy:=eK lb (show s.cells.length<2 ^ 62 by omega);refine W.exit rfl ?_;(repeat (first|apply μ|(refine ξ λθ I=>?_;simp;(repeat (rw[ε];simp[yy]));apply I)));refine W.to (Γ (c+1) lb (by omega)) ?_ ?_
   ·rw[Uk,<-iC]
   ·simp[yy]
 ·have η:c=s.cells.length:=by simp at η;omega
  subst η;refine W.exit rfl ?_;(repeat (first|apply μ|(refine ξ λθ I=>?_;simp;(repeat (rw[ε];simp));apply I)));obtain⟨⟨K1,r8,kY,oq⟩,gY⟩:∃B,B=sm s F s.cells.length:=⟨_,rfl⟩;rw[<-gY];refine W.fix (id:=0) (σ':=[]) (Nat.zero_le _) rfl (by simp) (by simp) rfl [(7,cD F),(8,.Ω [δ K1,δ r8,δ kY,bJ oq])] (by simp) ?_;have J:∀f∈F,f.cells.length<2 ^ 62/\∀i,i<=f.cells.length->lr f.cells (-1) i<2 ^ 62:=λf ab=>⟨(b8.many f ab).1,(b8.many f ab).2 (-1)⟩;cases oq
  ·refine W.draw (A:=[]) Μ mixed λθ I=>?_;simp;(repeat (rw[cz];simp));try rw[cy]
   refine⟨cZ (by kernel_rfl),I _ _ ?_⟩;refine ax rfl ?_;(repeat (first|apply μ|(refine ξ λθ I=>?_;simp;(repeat (rw[ε];simp));apply I)));refine W.drop (h:=0) (σ':=[]) (Nat.zero_le _) (Nat.zero_le _) (by simp) rfl [(2,δ 0),(3,δ 0),(4,δ 0),(5,δ 11)] (by simp) ?_;refine W.ret ⟨_,rfl,?_,rfl⟩;exact .of (by simp)
  ·refine W.draw (A:=[]) Μ mixed λθ I=>?_;simp;(repeat (rw[cz];simp));try rw[cy]
   refine iI (an.p (S1 F (by have:=b8.sh;omega) J b8.count) (aE.refl _) (by simp) (by simp)) ?_;simp;(repeat (rw[cz];simp));try rw[cy]
   refine⟨cZ (by kernel_rfl),I _ _ ?_⟩;by_cases q:kY=jx F
   ·refine ax (by simp[q]) ?_;(repeat (first|apply μ|(refine ξ λθ I=>?_;simp;(repeat (rw[ε];simp));apply I)));refine W.drop (h:=0) (σ':=[]) (Nat.zero_le _) (Nat.zero_le _) (by simp) rfl [(2,δ 0),(3,δ 0),(4,δ 0),(5,δ 11)] (by simp) ?_;refine W.ret ⟨_,rfl,?_,rfl⟩;exact .of (by simp[q])
   ·refine au (by simp[q]) ?_;(repeat (first|apply μ|(refine ξ λθ I=>?_;simp;(repeat (rw[ε];simp));apply I)));refine W.draw (A:=[]) Μ mixed λθ I=>?_;simp;(repeat (rw[cz];simp));try rw[cy]
    refine⟨cZ (by kernel_rfl),I _ _ ?_⟩;refine W.drop (h:=0) (σ':=[]) (Nat.zero_le _) (Nat.zero_le _) (by simp) rfl [(2,δ K1),(3,δ r8),(4,δ kY),(5,δ 0)] (by simp) ?_;refine W.ret ⟨_,rfl,?_,rfl⟩;exact .of (by simp[q])
theorem Us (l:List Int) (Β:l.length<2 ^ 30) :
  aC Tryz.prog 85 [.ms 0 l.length 0 l.length] [.cells 3 1 (l.map δ)] (λr s=>(∃e k,r=.sl e k (l.map δ)/\(l≠[]->k=1))/\s=[.cells 3 1 (l.map δ)]) (λ_ _=>False):=by
 refine aC.body Μ Tryz.func85 rfl rfl Tryz.ntmps85 rfl rfl (by simp) ?_;have jY:l.length<=4294967295:=by omega
 by_cases Ν:l=[]
 ·subst Ν;(repeat (first|apply μ|(refine ξ λθ I=>?_;simp;(repeat (rw[ε];simp));apply I)));(repeat apply μ);refine ξ λθ I=>?_;simp;(repeat (rw[ε];simp));intro j γ;apply I;by_cases vy:j=1
  ·refine ax (by simp[vy]) ?_;(repeat (first|apply μ|(refine ξ λθ I=>?_;simp;(repeat (rw[ε];simp));apply I)));exact W.ret ⟨_,rfl,⟨true,0,rfl,λh=>absurd rfl h⟩,rfl⟩
  ·refine au (by simp[vy]) ?_
   repeat apply μ
   refine dy (A:=[5,7]) Μ λθ I=>?_;simp;(repeat (rw[ε];simp));apply I;refine W.cut 1 (Nat.le_refl _) [(2,.sl false 1 [])] (by simp) (λid r bS ι=>?_) (λp χ=>?_) ?_
   ·obtain rfl:id=0:=by omega
    simp at ι;subst ι;simp[eJ]
   ·obtain rfl:p=(2,.sl false 1 []):=by simpa using χ
    exact et.own (id:=1) (t:=3) (Nat.le_refl _) rfl (by simp) (by simp)
   ·exact W.ret ⟨_,rfl,⟨false,1,rfl,λ_=>rfl⟩,rfl⟩
 ·(repeat (first|apply μ|(refine ξ λθ I=>?_;simp;(repeat (rw[ε];simp));apply I)));(repeat apply μ);refine ξ λθ I=>?_;simp;(repeat (rw[ε];simp[Ν]));apply I;refine au rfl ?_
  repeat apply μ
  have jT:List.take l.length (l.map δ)=l.map δ:=List.take_of_length_le (by simp)
  have Ut:l.length<=4294967296:=by omega
  refine dy (A:=[5,7]) Μ λθ I=>?_;simp;(repeat (rw[ε];simp[jY,Ν,jT,Ut]));apply I;have hb:∀e∈l.map δ,∀a∈e.cells,az 1 a:=λe he a κ=>by
   obtain⟨x,_,rfl⟩:=List.mem_map.1 he;simp[ζ.cells] at κ;subst κ;simp
  refine W.cut 1 (Nat.le_refl _) [(2,.sl false 1 (l.map δ))] (by simp) (λid r bS ι=>?_) (λp χ=>?_) ?_
  ·obtain rfl:id=0:=by omega
   simp at ι;subst ι;exact hb
  ·obtain rfl:p=(2,.sl false 1 (l.map δ)):=by simpa using χ
   exact et.own (id:=1) (t:=3) (Nat.le_refl _) rfl (by simp) hb
  ·exact W.ret ⟨_,rfl,⟨false,1,rfl,λ_=>rfl⟩,rfl⟩
abbrev sn (k:List Int):ζ:=.aR (k.map δ)
abbrev nI (e:List Int×Int):ζ×ζ:=(sn e.1,δ e.2)
def yz (m:List (List Int×Int)):Prop:=∀e∈m,e.1.length=4
theorem Uu (x y:List Int) (U:x.length=4) (ad:y.length=4):aeqv a4 157 (sn x) (sn y)=some (decide (x=y)):=by
 match x,U,y,ad with
 | [a,b,c,d],_,[b6,Ρ,c',dV],_=>
  simp[aeqv,iF,lf,Bool.eq_iff_iff]
def je:List (List Int×Int)->List Int->Int->List (List Int×Int)
 | [],k,v=>[(k,v)]
 | e::r,k,v=>if k=e.1 then(k,v)::r else e::je r k v
def uf:List (List Int×Int)->List Int->Option Int
 | [],_=>none
 | e::r,k=>if k=e.1 then some e.2 else uf r k
theorem Uv (k:List Int) (Α:k.length=4):∀(m:List (List Int×Int)) (d:Nat),yz m->(gS a4 157 (sn k) (m.map nI) d=some none/\uf m k=none/\∀v,je m k v=m++[(k,v)])\/
  ∃i x,i<m.length/\gS a4 157 (sn k) (m.map nI) d=some (some (d+i,δ x))/\uf m k=some x/\∀v,je m k v=m.set i (k,v):=by
 intro m
 induction m with
 | nil=>intro d _;exact .inl ⟨rfl,rfl,λ_=>rfl⟩
 | cons e r Γ=>
  intro d Κ;have Ψ:=Uu k e.1 Α (Κ e (by simp));by_cases h:k=e.1
  ·refine .inr ⟨0,e.2,by simp,?_,by simp[uf,h],λv=>by simp[je,h]⟩;simp only[List.map_cons,gS,Ψ];simp[h]
  ·have hb:decide (k=e.1)=false:=by simpa using h
   rcases Γ (d+1) (λx U=>Κ x (by simp[U])) with⟨J,R,ς⟩|⟨i,x,J,R,ς,aF⟩
   ·refine .inl ⟨?_,by simp[uf,h,R],λv=>by simp[je,h,ς]⟩;simp only[List.map_cons,gS,Ψ,hb,cond_false];exact J
   ·refine .inr ⟨i+1,x,by simp;omega,?_,by simp[uf,h,ς],λv=>by simp[je,h,aF]⟩;simp only[List.map_cons,gS,Ψ,hb,cond_false];rw[R];have:d+1+i=d+(i+1):=by omega
    rw[this]
theorem K2 {m:List (List Int×Int)} (h:yz m) {k:List Int} (Α:k.length=4) (v:Int):yz (je m k v):=by
 induction m with
 | nil=>intro e he;simp[je] at he;subst he;exact Α
 | cons a r Γ=>
  intro e he;unfold je at he;split at he
  ·rcases List.mem_cons.1 he with rfl|he
   ·exact Α
   ·exact h e (by simp[he])
  ·rcases List.mem_cons.1 he with rfl|he
   ·exact h _ (by simp)
   ·exact Γ (λx U=>h x (by simp[U])) e he
def nJ (s:a9) (p r:Int×Int) (L:List Nat) (k:Nat):List Int:=((L.take k).map λx=>s.hS p r x)++List.replicate (4-k) 0
theorem K3 {s:a9} {p r:Int×Int} {L:List Nat} {k:Nat} (Α:k<=L.length) (Κ:L.length<=4):(nJ s p r L k).length=4:=by simp[nJ];omega
theorem Uw {s:a9} {p r:Int×Int} {L:List Nat} {k:Nat} (Α:k<L.length) (Κ:L.length<=4):(nJ s p r L k).take k++s.hS p r L[k]::(nJ s p r L k).drop (k+1)=nJ s p r L (k+1):=by
 have Δ:((L.take k).map λx=>s.hS p r x).length=k:=by simp;omega
 have Ε:4-k=(4-(k+1))+1:=by omega
 unfold nJ;rw[List.take_left' Δ,List.drop_append,List.drop_eq_nil_of_le (by omega),Δ,List.take_succ_eq_append_getElem Α,List.map_append,Ε,List.replicate_succ];have a3:k+1-k=1:=by omega
 rw[a3];simp
abbrev vO:=Option (List (List Int×Int))
def vP (m:vO) (k:List Int) (v:Int):vO:=m.bind λm=>match uf m k with|some x=>if x=v then some (je m k v) else none|none=>some (je m k v)
def lB (s:a9) (f:Found) (cell:Nat) (lower:Bool) (L:List Nat) (m:vO) (j:Nat):vO:=(((f.cells[cell]?).getD []).take j).foldl (λm r=>vP m (nJ s (f.u,f.v) r L L.length) (ly lower r)) m
def so (s:a9) (F:List Found) (cell:Nat) (lower:Bool) (L:List Nat) (i:Nat):vO:=(F.take i).foldl (λm f=>lB s f cell lower L m ((f.cells[cell]?).getD []).length) (some [])
def pQ (s:a9) (F:List Found) (cell:Nat) (lower:Bool) (L:List Nat):Bool:=(so s F cell lower L F.length).isSome
theorem Ux (s:a9) (f:Found) (cell:Nat) (lower:Bool) (L:List Nat) (m:vO) (j:Nat) (h:j<((f.cells[cell]?).getD []).length):lB s f cell lower L m (j+1)=vP (lB s f cell lower L m j) (nJ s (f.u,f.v) ((f.cells[cell]?).getD [])[j] L L.length) (ly lower ((f.cells[cell]?).getD [])[j]):=by
 unfold lB;rw[List.take_succ_eq_append_getElem h,List.foldl_append];rfl
theorem K4 (s:a9) (F:List Found) (cell:Nat) (lower:Bool) (L:List Nat) (i:Nat) (h:i<F.length):so s F cell lower L (i+1)=lB s F[i] cell lower L (so s F cell lower L i) ((F[i].cells[cell]?).getD []).length:=by
 unfold so;rw[List.take_succ_eq_append_getElem h,List.foldl_append];rfl
theorem K5 (l:List (Int×Int)) (k:(Int×Int)->List Int) (v:Int×Int->Int):l.foldl (λm r=>vP m (k r) (v r)) none=none:=by
 induction l with
 | nil=>rfl
 | cons a l Γ=>exact Γ
theorem Uy (s:a9) (F:List Found) (cell:Nat) (lower:Bool) (L:List Nat) {i j:Nat} (hi:i<F.length) (γ:j<=((F[i].cells[cell]?).getD []).length) (h:lB s F[i] cell lower L (so s F cell lower L i) j=none):pQ s F cell lower L=false:=by
 have J:lB s F[i] cell lower L (so s F cell lower L i) ((F[i].cells[cell]?).getD []).length=none:=by
  unfold lB at h ⊢;rw[List.take_length]
  conv=>lhs;rw[<-List.take_append_drop j ((F[i].cells[cell]?).getD [])]
  rw[List.foldl_append,h];exact K5 _ _ _
 rw[<-K4 s F cell lower L i hi] at J;unfold pQ;unfold so at J ⊢;rw[List.take_length]
 conv=>lhs;rw[<-List.take_append_drop (i+1) F]
 rw[List.foldl_append,J];have:∀l:List Found,(l.foldl (λm f=>lB s f cell lower L m ((f.cells[cell]?).getD []).length) none)=none:=λl=>by
  induction l with
  | nil=>rfl
  | cons a l Γ=>
   rw[List.foldl_cons];have:lB s a cell lower L none ((a.cells[cell]?).getD []).length=none:=by unfold lB;exact K5 _ _ _
   rw[this];exact Γ
 rw[this];rfl
abbrev eZ (L:List Nat):Row:=.cells 3 1 (L.map λn:Nat=>δ n)
theorem F1 {h:Nat} {L:List Nat}:eJ h (eZ L):=λe he a κ=>by
 obtain⟨x,_,rfl⟩:=List.mem_map.1 he;simp[ζ.cells] at κ;subst κ;simp
theorem Uz (s:a9) (ν:s.small) (F:List Found) (b8:B5 s F) (cell:Nat) (vQ:cell<s.cells.length) (lower:Bool) (L:List Nat) (aS:L.length<=4) (lz:∀x∈L,x<s.ak.length) :
  aC Tryz.prog 84 [e8 s,cD F,δ cell,bJ lower,.ms 0 L.length 0 L.length] [eZ L] (λr σ=>r=bJ (pQ s F cell lower L)/\σ=[eZ L]) (λ_ _=>False):=by
 refine aC.body Μ Tryz.func84 rfl rfl Tryz.ntmps84 rfl rfl (by simp) ?_;(repeat (first|apply μ|(refine ξ λθ I=>?_;simp;(repeat (rw[ε];simp));apply I)));have pP:∀M:List (List Int×Int),∀r∈[eZ L,.map (M.map nI)],eJ [eZ L,.map (M.map nI)].length r:=λM r ι=>by
  simp only[List.mem_cons,List.not_mem_nil,or_false] at ι;rcases ι with rfl|rfl
  ·exact F1
  ·intro e he;obtain⟨x,_,rfl⟩:=List.mem_map.1 he;simp
 refine W.iter (λx:Nat×List (List Int×Int)=>x.1<=F.length/\so s F cell lower L x.1=some x.2/\yz x.2) (λ(i,_)=>[(2,δ cell),(3,bJ lower),(4,.ms 0 L.length 0 L.length),(5,.Ω [aJ s.Τ,aL s.ak,bx s.cells]),(11,.mp 1),(23,cD F),(24,δ F.length),(25,δ i)])
  (λ(_,M)=>[eZ L,.map (M.map nI)]) (λx=>F.length-x.1) (0,[]) ⟨Nat.zero_le _,rfl,λe he=>by cases he⟩ rfl (by simp) (λx U Γ=>?_)
 obtain⟨i,M⟩:=x;obtain⟨hi,dM,Κ⟩:=U;simp only at hi dM Κ ⊢;(repeat (first|apply μ|(refine ξ λθ I=>?_;simp;(repeat (rw[ε];simp));apply I)));by_cases j0:i<F.length
 ·refine ax (by simp[j0]) ?_;have oG:=K4 s F cell lower L i j0;have ql:=λj=>Uy s F cell lower L (i:=i) (j:=j) j0;rw[dM] at oG ql;obtain⟨mc,hk⟩:=b8.cells _ (List.getElem_mem j0);generalize ab:F[i]=f at oG ql mc hk;have b3:cell<f.cells.length:=by rw[mc];exact vQ
  repeat apply μ
  refine dy (A:=[13]) Μ λθ I=>?_;simp;(repeat (rw[ε];simp[j0,ab]));apply I;refine W.lu (σ0:=[eZ L,.map (M.map nI)]) (by simp) (pP _) (by simp) [(13,.Ω [δ f.u,δ f.v,lq f.cells]),(2,δ cell),(3,bJ lower),(4,.ms 0 L.length 0 L.length),(5,.Ω [aJ s.Τ,aL s.ak,bx s.cells]),(11,.mp 1),(23,cD F),(24,δ F.length),(25,δ i)] (by simp[iZ,qR,ot]) ?_;(repeat (first|apply μ|(refine ξ λθ I=>?_;simp;(repeat (rw[ε];simp[b3]));apply I)));have yv:(f.cells[cell]?).getD []=f.cells[cell]:=by simp[b3]
  rw[yv] at oG ql;have yw:=hk _ (List.getElem_mem b3);have oH:=Ux s f cell lower L (some M);rw[yv] at oH;generalize f.cells[cell]=C at oG yw oH ql;obtain⟨Up,FZ⟩:=yw;refine W.iter (λx:Nat×List (List Int×Int)=>x.1<=C.length/\lB s f cell lower L (some M) x.1=some x.2/\yz x.2) (λ(j,_)=>[(2,δ cell),(3,bJ lower),(4,.ms 0 L.length 0 L.length),(5,.Ω [aJ s.Τ,aL s.ak,bx s.cells]),(11,.mp 1),(23,cD F),(24,δ F.length),(25,δ i),(13,.Ω [δ f.u,δ f.v,lq f.cells]),(33,lp C),(34,δ C.length),(35,δ j)])
   (λ(_,M)=>[eZ L,.map (M.map nI)]) (λx=>C.length-x.1) (0,M) ⟨Nat.zero_le _,rfl,Κ⟩ rfl (by simp) (λx U hz=>?_)
  obtain⟨j,M2⟩:=x;obtain⟨γ,vN,yA⟩:=U;simp only at γ vN yA ⊢;(repeat (first|apply μ|(refine ξ λθ I=>?_;simp;(repeat (rw[ε];simp));apply I)));by_cases kI:j<C.length
  ·refine ax (by simp[kI]) ?_;have oI:=oH j kI;rw[vN] at oI;obtain⟨qw,sa⟩:=FZ _ (List.getElem_mem kI);generalize ι:C[j]=r at oI qw sa
   repeat apply μ
   refine dy (A:=[15]) Μ λθ I=>?_;simp;(repeat (rw[ε];simp[kI,ι]));apply I;refine W.lu (σ0:=[eZ L,.map (M2.map nI)]) (by simp) (pP _) (by simp) [(15,.Ω [δ r.1,δ r.2]),(2,δ cell),(3,bJ lower),(4,.ms 0 L.length 0 L.length),(5,.Ω [aJ s.Τ,aL s.ak,bx s.cells]),(11,.mp 1),(23,cD F),(24,δ F.length),(25,δ i),(13,.Ω [δ f.u,δ f.v,lq f.cells]),(33,lp C),(34,δ C.length),(35,δ j)] (by simp[iZ,qR,ot]) ?_
   repeat apply μ
   refine dy (A:=[16]) Μ λθ I=>?_;simp;(repeat (rw[ε];simp));apply I;(repeat (first|apply μ|(refine ξ λθ I=>?_;simp;(repeat (rw[ε];simp));apply I)));refine W.iter (λk:Nat=>k<=L.length) (λk=>[(2,δ cell),(3,bJ lower),(4,.ms 0 L.length 0 L.length),(5,.Ω [aJ s.Τ,aL s.ak,bx s.cells]),(11,.mp 1),(23,cD F),(24,δ F.length),(25,δ i),(13,.Ω [δ f.u,δ f.v,lq f.cells]),(33,lp C),(34,δ C.length),(35,δ j),(15,.Ω [δ r.1,δ r.2]),(16,.ae 2 1 0 0),(39,.ms 0 L.length 0 L.length),(40,δ L.length),(41,δ k)])
    (λk=>[eZ L,.map (M2.map nI),.cells 157 4 [sn (nJ s (f.u,f.v) r L k)]]) (λk=>L.length-k) 0 (Nat.zero_le _) (by simp[nJ]) (by simp) (λk Α pO=>?_)
   (repeat (first|apply μ|(refine ξ λθ I=>?_;simp;(repeat (rw[ε];simp));apply I)));by_cases h5:k<L.length
   ·refine ax (by simp[h5]) ?_;have ug:(k:Int)<4:=by omega
    have jk:k<=3:=by omega
    have rS:=Uw (s:=s) (p:=(f.u,f.v)) (r:=r) h5 aS
    have hlen:=K3 (s:=s) (p:=(f.u,f.v)) (r:=r) (Nat.le_of_lt h5) aS
    have UA:=lz _ (List.getElem_mem h5);obtain⟨K,I⟩:∃K,K=nJ s (f.u,f.v) r L k:=⟨_,rfl⟩;rw[<-I] at rS hlen ⊢;(repeat (first|apply μ|(refine ξ λθ I=>?_;simp;(repeat (rw[ε];simp[h5,ug,hlen]));apply I)));(repeat apply μ);refine ξ λθ I=>?_;simp;(repeat (rw[ε];simp[ug,hlen]));refine an.c (yi s ν (f.u,f.v) r L[k] UA qw sa) (aE.refl _) (by simp) (by simp) ?_;simp[ug,jk,hlen];(repeat (rw[ε];simp[ug,jk,hlen]));apply I;have yB:=eK h5 (show L.length<2 ^ 62 by omega);(repeat (first|apply μ|(refine ξ λθ I=>?_;simp;(repeat (rw[ε];simp[yB]));apply I)));refine W.to (pO (k+1) h5 (by omega)) ?_ ?_
    ·rw[<-rS];simp
    ·simp[yB]
   ·have UB:k=L.length:=by omega
    subst UB;refine au (by simp) ?_;refine W.exit rfl ?_;have hlen:=K3 (s:=s) (p:=(f.u,f.v)) (r:=r) (Nat.le_refl _) aS;obtain⟨K,I⟩:∃K,K=nJ s (f.u,f.v) r L L.length:=⟨_,rfl⟩;obtain⟨v,hv⟩:∃v,v=ly lower r:=⟨_,rfl⟩;rw[<-I,<-hv] at oI;rw[<-I] at hlen ⊢
    repeat apply μ
    refine W.tD (A:=[]) Μ [(2,δ cell),(3,bJ lower),(4,.ms 0 L.length 0 L.length),(5,.Ω [aJ s.Τ,aL s.ak,bx s.cells]),(11,.mp 1),(23,cD F),(24,δ F.length),(25,δ i),(13,.Ω [δ f.u,δ f.v,lq f.cells]),(33,lp C),(34,δ C.length),(35,δ j),(15,.Ω [δ r.1,δ r.2]),(16,.ae 2 1 0 0),(19,δ v)] ?_ (by
     rw[hv];cases lower
     all_goals
      (try simp);(repeat (rw[ε];simp));(try simp[]);refine an.c (FD _) (aE.refl _) (by simp) (by simp) ?_;simp;(repeat (rw[ε];simp));(try simp[ly]))
    clear pO hv;have mX:=eK kI (show C.length<2 ^ 62 by omega);have jK:mH [eZ L,.map (M2.map nI),.cells 157 4 [sn K]] 1=true:=by simp[mH]
    have n7:mF a4 157 (sn K)=true:=by
     match K,hlen with
     | [a,b,c,d],_=>simp[mF,iF,lf]
    have jT:List.take 4 (K.map δ)=K.map δ:=List.take_of_length_le (by simp[hlen]);rcases Uv K hlen M2 0 yA with⟨Ξ,aa,aM⟩|⟨cH,x,cI,Ξ,aa,aM⟩
    ·have aM:=aM v
     have hm:lB s f cell lower L (some M) (j+1)=some (je M2 K v):=by rw[oI];simp[vP,aa]
     (repeat (first|apply μ|(refine ξ λθ I=>?_;simp;(repeat (rw[ε];simp[Ξ,n7,jT,hlen,-mF]));apply I)));refine au rfl ?_;(repeat (first|apply μ|(refine ξ λθ I=>?_;simp;(repeat (rw[ε];simp[Ξ,n7,jT,hlen,-mF]));apply I)));refine W.drop (h:=2) (σ':=[eZ L,.map ((je M2 K v).map nI)]) (by simp) (by simp) (λid w bS hw=>eJ.mono (pP (je M2 K v) w (by
      match id,bS,hw with
      | 0,_,hw=>simp at hw;subst hw;simp
      | 1,_,hw=>simp[aM] at hw;subst hw;simp[aM])) (by simp)) (by simp[aM]) [(2,δ cell),(3,bJ lower),(4,.ms 0 L.length 0 L.length),(5,.Ω [aJ s.Τ,aL s.ak,bx s.cells]),(11,.mp 1),(23,cD F),(24,δ F.length),(25,δ i),(13,.Ω [δ f.u,δ f.v,lq f.cells]),(33,lp C),(34,δ C.length),(35,δ ((j:Int)+1))] (by simp[iZ,qR,ot,mX]) ?_
     refine W.to (hz (j+1,je M2 K v) ⟨kI,hm,K2 yA hlen v⟩ (by simp only;omega)) rfl ?_;simp
    ·have aM:=aM v;(repeat (first|apply μ|(refine ξ λθ I=>?_;simp;(repeat (rw[ε];simp[Ξ,n7,jT,hlen,-mF]));apply I)));by_cases B6:x=v
     ·have hm:lB s f cell lower L (some M) (j+1)=some (je M2 K v):=by rw[oI];simp[vP,aa,B6]
      refine au (by simp[B6]) ?_;(repeat (first|apply μ|(refine ξ λθ I=>?_;simp;(repeat (rw[ε];simp[Ξ,n7,jT,hlen,-mF]));apply I)));refine W.drop (h:=2) (σ':=[eZ L,.map ((je M2 K v).map nI)]) (by simp) (by simp) (λid w bS hw=>eJ.mono (pP (je M2 K v) w (by
       match id,bS,hw with
       | 0,_,hw=>simp at hw;subst hw;simp
       | 1,_,hw=>simp[aM] at hw;subst hw;simp[aM])) (by simp)) (by simp[aM]) [(2,δ cell),(3,bJ lower),(4,.ms 0 L.length 0 L.length),(5,.Ω [aJ s.Τ,aL s.ak,bx s.cells]),(11,.mp 1),(23,cD F),(24,δ F.length),(25,δ i),(13,.Ω [δ f.u,δ f.v,lq f.cells]),(33,lp C),(34,δ C.length),(35,δ ((j:Int)+1))] (by simp[iZ,qR,ot,mX]) ?_
      refine W.to (hz (j+1,je M2 K v) ⟨kI,hm,K2 yA hlen v⟩ (by simp only;omega)) rfl ?_;simp
     ·have hm:lB s f cell lower L (some M) (j+1)=none:=by rw[oI];simp[vP,aa,B6]
      have nm:=ql (j+1) kI hm;rw[nm];refine ax (by simp[B6]) ?_;(repeat (first|apply μ|(refine ξ λθ I=>?_;simp;(repeat (rw[ε];simp));apply I)));refine W.drop (h:=1) (σ':=[eZ L]) (by simp) (by simp) (λid w bS hw=>by
       obtain rfl:id=0:=by omega
       simp at hw;subst hw;exact F1) rfl [(10,bJ false)] (by simp) ?_
      exact W.ret ⟨_,rfl,rfl,rfl⟩
  ·have yu:j=C.length:=by omega
   subst yu;have lk:=eK j0 (show F.length<2 ^ 62 by have:=b8.sh;omega);refine au (by simp) ?_;refine W.exit rfl ?_;(repeat (first|apply μ|(refine ξ λθ I=>?_;simp;(repeat (rw[ε];simp[lk]));apply I)));refine W.to (Γ (i+1,M2) ⟨j0,by rw[oG];exact vN,yA⟩ (by simp only;omega)) rfl ?_;simp[lk]
 ·have ea:i=F.length:=by omega
  subst ea;have nm:pQ s F cell lower L=true:=by unfold pQ;rw[dM];rfl
  rw[nm];refine au (by simp) ?_;refine W.exit rfl ?_;(repeat (first|apply μ|(refine ξ λθ I=>?_;simp;(repeat (rw[ε];simp));apply I)));refine W.drop (h:=1) (σ':=[eZ L]) (by simp) (by simp) (λid w bS hw=>by
   obtain rfl:id=0:=by omega
   simp at hw;subst hw;exact F1) rfl [(10,bJ true)] (by simp) ?_
  exact W.ret ⟨_,rfl,rfl,rfl⟩
end Go.TL
namespace Go.TL
open Go.Conc Go.Proofs
variable [bh]
section
variable {P:Program} {Q:Value->Prop} {mn:Bool} {x:fZ} {cs rest:List Frame} {H:υ} {b f c:Frame} {t:Array Value} {k:List Item} {fn:Func}
theorem π.getLoop {L:Nat} {r:Loop} (h:H.obj L=some (.loop r)) {K:Loop->υ->Prop} {E:Value->υ->Prop} (Α:K r H):π P (Instr.getLoop L) H K E:=by
 unfold Instr.getLoop;refine π.bind' ?_;exact⟨_,h,rfl,π.pure' Α⟩
theorem π.F2 {L:Nat} {r r':Loop} (h:H.obj L=some (.loop r)) {K:Unit->υ->Prop} {E:Value->υ->Prop} (Α:K () (H.bq L (.loop r'))):π P (setObj L (.loop r')) H K E:=
 ⟨⟨_,h⟩,rfl,rfl,π.pure' Α⟩
abbrev K6 (st:LoopState) (UC:Option Code) (f:FuncId) (t:Array Value) (cC:Array Tmp) (a qz:Code) (d:Nat):Loop:={state:=st,pending:=UC,fn:=f,tmps:=t,params:=cC,assign:=a,body:=qz,defers:=d}
theorem aB.rangeFunc (U:Seq x) (hb:b.mode=.run) (bZ:b.roundOf=none) {fo:Operand} {cC:Array Tmp} {assign body:Code} {g:FuncId} {lC:Array Value} (UD:a8 t fo=.func (.func g) #[] lC) (Ο:Plain P g)
  (h:∀r1 r2,H.fresh r1->(H.bq r1 (.deferred (some []))).fresh r2->aB P Q mn x (Frame.enter P g (#[.func (.yield r2) #[] #[]]++lC) .normal) ({ai b t (.inRangeFunc r2::k) with defers:=⟨.collected r1,#[]⟩::b.defers}::cs)
   ((H.bq r1 (.deferred (some []))).bq r2 (.loop (K6 .ready none b.fn t cC assign body r1)))) :
  aB P Q mn x (ai b t (.code (.rangeFunc fo cC assign body)::k)) cs H:=by
 refine .own U λw ab=>?_;have q5:π P (Instr.enterLoop b.fn t cC assign body none) H (λv H'=>∃r1 r2,H.fresh r1/\(H.bq r1 (.deferred (some []))).fresh r2/\v=(r2,[⟨.collected r1,#[]⟩])/\H'=(H.bq r1 (.deferred (some []))).bq r2 (.loop (K6 .ready none b.fn t cC assign body r1))) (λ_ _=>False):=by
  unfold Instr.enterLoop;refine π.bind' (λr1 J=>π.pure' (π.bind' (π.pure' ?_)));refine π.bind' (λr2 R=>π.pure' (π.pure' ?_));exact⟨r1,r2,J,R,rfl,rfl⟩
 obtain⟨H',w',es',hu,g0⟩:=π.sound (P:=P) (G0:=H) (w0:=w) _ q5 (dw.start ab);rcases g0 with⟨v,dB,r1,r2,J,R,rfl,rfl⟩|⟨v,dB,c7⟩
 ·refine⟨_,_,w',seen P b.fn es',_,?_,hu.sub λe he=>mem_seen he,h r1 r2 J R⟩;have dg:∀F:Frame,F.tmps=t->resolve F.eval {callee:=.value fo,args:=#[.const (.func (.yield r2) #[] #[])],argTypes:=#[]} 0=Deferred.ofValue (.func (.func g) #[] lC) #[.func (.yield r2) #[] #[]]:=λF gC=>by
   have:F.eval fo=.func (.func g) #[] lC:=by rw[<-UD,<-gC];cases fo<;>rfl
   unfold resolve;simp only;rw[this];simp[Frame.eval]
  have hinv:((do let d <-Deferred.ofValue (.func (.func g) #[] lC) #[.func (.yield r2) #[] #[]];invoke d.target d.args:Sem Next)).runT P w' #[]=(.ok (.enter g (#[.func (.yield r2) #[] #[]]++lC)) w',#[]):=by
   have:=Ο.enter (#[.func (.yield r2) #[] #[]]++lC) w';simpa[Deferred.ofValue,invoke] using this
  rw[h7 hb];unfold stepG.exec;simp only[ai,bZ,dB];rw[dg _ rfl];unfold stepG.apply;simp only[if_true,hinv];simp[GStep.after,Go.Conc.G,ai,seen_none]
 ·exact c7.elim
theorem aB.K7 (U:Seq x) (hb:b.mode=.run) {L:Nat} {r:Loop} (aS:H.obj L=some (.loop r)) (ν:r.state≠.busy)
  (h:aB P Q mn x (ai b t ((r.pending.map Item.code).toList++k)) cs (H.bq L (.loop {r with state:=.exhausted}))):aB P Q mn x (ai b t (.endRangeFunc L::k)) cs H:=by
 refine .own U λw ab=>?_;have q5:π P (Instr.endLoop L) H (λv H'=>v=r.pending/\H'=H.bq L (.loop {r with state:=.exhausted})) (λ_ _=>False):=by
  unfold Instr.endLoop;refine π.bind' (π.getLoop aS ?_);have e:(r.state==.busy)=false:=by cases Ψ:r.state<;>first|rfl|exact absurd Ψ ν
  simp only[e,Bool.false_eq_true,if_false];exact π.bind' (π.F2 aS (π.pure' ⟨rfl,rfl⟩))
 obtain⟨H',w',es',hu,g0⟩:=π.sound (P:=P) (G0:=H) (w0:=w) _ q5 (dw.start ab);rcases g0 with⟨v,dB,rfl,rfl⟩|⟨v,dB,c7⟩
 ·refine⟨_,_,w',seen P b.fn es',_,?_,hu.sub λe he=>mem_seen he,h⟩;rw[h7 hb];unfold stepG.exec;simp only[ai,dB];simp[GStep.after,Go.Conc.G]
 ·exact c7.elim
theorem aB.beginRound (U:Seq x) (hb:b.mode=.run) {L:Nat} (bZ:b.roundOf=some L) {r:Loop} (aS:H.obj L=some (.loop r)) (ν:r.state=.ready)
  (h:aB P Q mn x (ai b t k) cs (H.bq L (.loop {r with state:=.busy}))):aB P Q mn x (ai b t (.beginRound::k)) cs H:=by
 refine .own U λw ab=>?_;have q5:π P (Instr.beginRound L) H (λ_ H'=>H'=H.bq L (.loop {r with state:=.busy})) (λ_ _=>False):=by
  unfold Instr.beginRound;refine π.bind' (π.getLoop aS (π.bind' (π.F2 aS ?_)));rw[ν];exact π.pure' rfl
 have UE:π P (do Instr.beginRound L;pure Next.skip:Sem Next) H (λv H'=>v=.skip/\H'=H.bq L (.loop {r with state:=.busy})) (λ_ _=>False):=
  π.bind' (π.mono (λ_ _ e=>π.pure' ⟨rfl,e⟩) (λ_ _ h=>h) _ q5)
 obtain⟨H',w',es',hu,g0⟩:=π.sound (P:=P) (G0:=H) (w0:=w) _ UE (dw.start ab);rcases g0 with⟨v,dB,rfl,rfl⟩|⟨v,dB,c7⟩
 ·generalize fj:(if b.kind==.early then #[] else es')=mC;have iW:∀e∈seen P b.fn mC,e∈es':=λe he=>by
   have:=mem_seen he;rw[<-fj] at this;split at this
   ·simp at this
   ·exact this
  refine⟨_,_,w',seen P b.fn mC,_,?_,hu.sub iW,h⟩;rw[h7 hb];unfold stepG.exec;simp only[ai,bZ,Option.elim];unfold stepG.apply;simp only[if_true,dB];rw[fj];simp[GStep.after,Go.Conc.G,Frame.finish]
 ·exact c7.elim
theorem aB.endRound (U:Seq x) (hb:b.mode=.run) {L:Nat} (bZ:b.roundOf=some L) (Α:b.kind=.normal) {r:Loop} (aS:H.obj L=some (.loop r)) {jump:Option Code} (γ:(jump=none/\k=[])\/(jump=some .ret/\∃Χ,k=.code .ret::Χ)\/∃id Χ,jump=some (.exit id)/\k=.code (.exit id)::Χ/\exitTo id Χ=none)
  (h:aB P Q mn x (c.finish (.bool jump.isNone)) rest (H.bq L (.loop {r with state:=if jump.isNone then .ready else .done,pending:=jump}))):aB P Q mn x (ai b t k) (c::rest) H:=by
 refine .own U λw ab=>?_;have q5:π P (Instr.endRound L jump) H (λv H'=>v=.bool jump.isNone/\H'=H.bq L (.loop {r with state:=if jump.isNone then .ready else .done,pending:=jump})) (λ_ _=>False):=by
  unfold Instr.endRound;exact π.bind' (π.getLoop aS (π.bind' (π.F2 aS (π.pure' ⟨rfl,rfl⟩))))
 obtain⟨H',w',es',hu,g0⟩:=π.sound (P:=P) (G0:=H) (w0:=w) _ q5 (dw.start ab);rcases g0 with⟨v,dB,rfl,rfl⟩|⟨v,dB,c7⟩
 ·refine⟨_,_,w',seen P b.fn es',_,?_,hu.sub λe he=>mem_seen he,h⟩;rw[h7 hb];unfold stepG.exec;rcases γ with⟨rfl,rfl⟩|⟨rfl,Χ,rfl⟩|⟨id,Χ,rfl,rfl,he⟩
  ·simp only[ai,bZ,dB];simp[GStep.after,Go.Conc.G,doReturn,Α]
  ·simp only[ai,bZ,dB];simp[GStep.after,Go.Conc.G,doReturn,Α]
  ·simp only[ai,bZ,he,Option.elim,dB];simp[GStep.after,Go.Conc.G,doReturn,Α]
 ·exact c7.elim
theorem aB.collected (U:Seq x) (hm:f.mode=.returning) {r:Nat} {ds:List Deferred} (hd:f.defers=⟨.collected r,#[]⟩::ds) (ι:H.obj r=some (.deferred (some [])))
  (h:aB P Q mn x {f with defers:=ds} cs (H.bq r (.deferred none))):aB P Q mn x f cs H:=by
 refine .own U λw ab=>?_;have q5:π P (Instr.takeDeferred r) H (λv H'=>v=[]/\H'=H.bq r (.deferred none)) (λ_ _=>False):=by
  unfold Instr.takeDeferred;refine π.bind' ?_;exact⟨_,ι,rfl,π.pure' (π.bind' ⟨⟨_,ι⟩,rfl,rfl,π.pure' (π.pure' ⟨rfl,rfl⟩)⟩)⟩
 obtain⟨H',w',es',hu,g0⟩:=π.sound (P:=P) (G0:=H) (w0:=w) _ q5 (dw.start ab);rcases g0 with⟨v,dB,rfl,rfl⟩|⟨v,dB,c7⟩
 ·refine⟨_,_,w',seen P f.fn es',_,?_,hu.sub λe he=>mem_seen he,h⟩;rw[u3 (by rw[hm];simp)];unfold unwind;simp only[hd,dB];simp[GStep.after,Go.Conc.G]
 ·exact c7.elim
end
end Go.TL
namespace Go.TL
open Go.Conc
open Go.ConcM (OsLater)
open Go.ConcN (sumTo upd sumTo_upd upd_ne upd_same sumTo_congr le_sumTo)
open Go.ConcR (mk)
variable [bh]
theorem fM {b:Frame} (hb:b.mode=.run) (ι:b.roundOf=none) (t:Array Value) (k:List Item):ai b t k=b.at ⟨t,b.defers⟩ k:=by
 obtain⟨fn,u2,td,Qd,rJ,kd,ro⟩:=b;simp only at hb ι;subst hb;subst ι;rfl
theorem sr (o:Oper) (t:Array Value) (ds:List Deferred) (v:Value):(⟨t,ds⟩:_root_.Go.Act).put o.dst v=⟨put o t v,ds⟩:=by
 unfold _root_.Go.Act.put put;cases o.dst<;>rfl
theorem kJ (t:Array Value) (ds:List Deferred):(⟨t,ds⟩:_root_.Go.Act).eval=a8 t:=by funext o;cases o<;>rfl
def Entry (P:Program) (f:FuncId) (e:Array Value->Sem Value):Prop:=∃fn,P.funcs[f]?=some fn/\(fn.name == "runtime.NumGoroutine")=false/\fn.body.isNone=true/\Extern.findNext fn=none/\Extern.find fn=some e
structure lD (b:Frame) (ops:Array Oper) (i:Nat) (op:Oper):Prop where
 run:b.mode=.run
 ro:b.roundOf=none
 kd:b.kind≠.early
 op:ops[i]?=some op
def eu (x:aK):Prop:=x.rel=false\/∃s,¬Gone (x.tok s)
theorem eu.ok {P:Program} {g:Goroutine} {x:aK} (h:eu x):w6 P g x:=λJ R=>by
 rcases h with h|⟨s,h⟩
 ·rw[h] at J;cases J
 ·exact absurd (R s) h
def one (x:aK):fZ:=λy=>y=x
@[reducible] def ev:bh:=⟨λ_=>True⟩
theorem Seq.ss {x:aK} (Ψ:bh.q (one x)) (ι:x.rel=false) (hv:x.ao=λ_=>none):Seq (one x):=⟨Ψ,λy h=>by cases h;exact ι,λy h=>by cases h;exact hv⟩
theorem Seq.here {x:aK} (h:Seq (one x)):eu x:=.inl (h.rel x rfl)
section
variable {P:Program} {Q:Value->Prop} {mn:Bool} {x:aK} {b:Frame} {cs:List Frame} {nt:Nat} {o:Base} {k:List Item} {env:Φ} {σ:List Row} {S:al} {B:aH} {H:υ} {t:Array Value}
variable {ops:Array Oper} {i:Nat} {rest:List Nat} {op:Oper} {f:FuncId} {e:Array Value->Sem Value} {args:Array Operand} {dI:Array TypeId} {w w':World}
theorem B7 (he:Entry P f e) (bG:lD b ops i op) (hw:Region.wanted op (yielded ops t)=true) (Θ:op.op=.call ⟨.value (.func f),args,dI⟩) {vs:Array Value} (oJ:args.map (a8 t)=vs) {v:Value} {fx:Array Event}
  (dB:(e vs).run P w=.ok v w') (dg:(e vs).events P w #[⟨.mark (Mark.extern f),false,true⟩]=#[⟨.mark (Mark.extern f),false,true⟩]++fx) (ν:∀y∈fx,y.sync=true/\∀g,y.loc≠.mark (Mark.extern g)) :
  stepG P mn (Go.Conc.G (ai b t (.inRegion ops (i::rest)::k)) cs) w=.go (Go.Conc.G (ai b (put op t v) (.inRegion ops rest::k)) cs) w' fx:=by
 obtain⟨fn,J,R,ς,Κ,aF⟩:=he;rw[fM bG.run bG.ro,fM bG.run bG.ro,<-sr];exact stepG_entry (a:=⟨t,b.defers⟩) bG.op hw bG.kd Θ J R ς Κ aF (by rw[kJ,oJ];exact dB) (by rw[kJ,oJ];exact dg) ν
theorem UF (he:Entry P f e) (bG:lD b ops i op) (hw:Region.wanted op (yielded ops t)=true) (Θ:op.op=.call ⟨.value (.func f),args,dI⟩) {vs:Array Value} (oJ:args.map (a8 t)=vs)
  (dB:(e vs).run P w=.halt .blocked w') :
  stepG P mn (Go.Conc.G (ai b t (.inRegion ops (i::rest)::k)) cs) w=.go {Go.Conc.G (ai b t (.inRegion ops (i::rest)::k)) cs with status:=.blocked} w' #[]:=by
 obtain⟨fn,J,R,ς,Κ,aF⟩:=he;rw[fM bG.run bG.ro];exact stepG_entry_blocked (a:=⟨t,b.defers⟩) bG.op hw Θ J R ς Κ aF (by rw[kJ,oJ];exact dB)
theorem K8 (he:Entry P f e) (bG:lD b ops i op) (Θ:op.op=.call ⟨.value (.func f),args,dI⟩):mayWake P (Go.Conc.G (ai b t (.inRegion ops (i::rest)::k)) cs)=true:=by
 obtain⟨fn,J,R,ς,Κ,aF⟩:=he;have aV:fn.body=none:=by simpa using ς
 have K9:(ai b t (.inRegion ops (i::rest)::k)).eval (.func f)=.func (.func f) #[] #[]:=rfl;simp[mayWake,Go.Conc.G,ai,bG.run,bG.op,Θ] at K9 ⊢;simp[K9,J,aV]
def yC (env:Φ) (args:Array Operand) (vs:List Value):Prop:=args.toList.map (aG env)=vs.map ζ.z
theorem B8 (ν:cY S B σ env t) {y:Operand} {v:Value} (h:aG env y=.z v):a8 t y=v:=by
 have:=kv ν y;rw[h] at this;generalize a8 t y=u at this;cases this;rfl
theorem yC.a8 (ν:cY S B σ env t) {vs:List Value} (h:yC env args vs):args.map (a8 t)=vs.toArray:=by
 apply Array.ext';rw[Array.toList_map];have:∀(l:List Operand) (vs:List Value),l.map (aG env)=vs.map ζ.z->l.map (Go.TL.a8 t)=vs:=by
  intro l
  induction l with
  | nil=>intro vs h;cases vs with
   | nil=>rfl
   | cons=>cases h
  | cons y l Γ=>
   intro vs h;cases vs with
   | nil=>cases h
   | cons v vs=>
    simp only[List.map_cons,List.cons.injEq] at h ⊢;exact⟨B8 ν h.1,Γ vs h.2⟩
 exact this _ _ h
theorem B9 (m:Mark):((λ_=>do mark m;pure Extern.Race.none_:Array Value->Sem Value) #[]).run P w=.ok (.tuple #[]) w:=by simp[Extern.Race.none_]
theorem Ca (m:Mark) (es:Array Event):((λ_=>do mark m;pure Extern.Race.none_:Array Value->Sem Value) #[]).events P w es=es.push ⟨.mark m,false,true⟩:=by simp
theorem vR (m:Addr->Mark) (b':Addr):(Extern.Race.marked m #[.pointer (some b')]).run P w=.ok (.tuple #[]) w:=by simp[Extern.Race.marked,Extern.Race.at_,Extern.Race.none_]
theorem vS (m:Addr->Mark) (b':Addr) (es:Array Event):(Extern.Race.marked m #[.pointer (some b')]).events P w es=es.push ⟨.mark (m b'),false,true⟩:=by simp[Extern.Race.marked,Extern.Race.at_]
theorem pR {m:Mark} (hm:∀g,m≠Mark.extern g):∀y∈(#[⟨.mark m,false,true⟩]:Array Event),y.sync=true/\∀g,y.loc≠.mark (Mark.extern g):=by
 intro y ad;simp at ad;subst ad;exact⟨rfl,λg h=>hm g (by cases h;rfl)⟩
structure gd (P:Program) (b:Frame) (ops:Array Oper) (i:Nat) (op:Oper) (f:FuncId) (e:Array Value->Sem Value) (args:Array Operand) (env:Φ) (vs:List Value) (nt:Nat):Prop where
 at_:lD b ops i op
 mL:Entry P f e
 call:∃dI,op.op=.call ⟨.value (.func f),args,dI⟩
 want:e7 env ops op=some true
 dst:g4 nt op=true
 yD:yC env args vs
theorem gd.step {vs:List Value} (h:gd P b ops i op f e args env vs nt) (ν:cY S B σ env t) {v:Value} {fx:Array Event} (dB:(e vs.toArray).run P w=.ok v w')
  (dg:(e vs.toArray).events P w #[⟨.mark (Mark.extern f),false,true⟩]=#[⟨.mark (Mark.extern f),false,true⟩]++fx) (UG:∀y∈fx,y.sync=true/\∀g,y.loc≠.mark (Mark.extern g)) :
  stepG P mn (Go.Conc.G (ai b t (.inRegion ops (i::rest)::k)) cs) w=.go (Go.Conc.G (ai b (put op t v) (.inRegion ops rest::k)) cs) w' fx:=
 let ⟨_,Θ⟩:=h.call
 B7 h.mL h.at_ (iY ν h.want) Θ (h.yD.a8 ν) dB dg UG
abbrev mZ:ζ:=.z (.tuple #[])
theorem V.disable (U:eu x) (h:gd P b ops i op f (λ_=>do mark .disable;pure Extern.Race.none_) args env [] nt) (Α:V P Q mn (one {x with deaf:=x.deaf+1}) b cs nt o (.inRegion ops rest::k) (bX op env mZ) σ):V P Q mn (one x) b cs nt o (.inRegion ops (i::rest)::k) env σ:=
 λS B H t κ χ y ad=>by
 cases ad;exact Goes.step U.ok (.inr ⟨⟨rfl,rfl⟩,.inr (.inl ⟨Go.Conc.G (ai b (put op t (.tuple #[])) (.inRegion ops rest::k)) cs,⟨rfl,rfl⟩,.inl λw _=>
  ⟨h.step χ.b7 (B9 .disable) (Ca .disable _) (pR (by simp)),Α S B H _ κ (χ.put h.dst (.z _)) _ rfl⟩⟩)⟩)
theorem V.enable (U:eu x) (hd:0<x.deaf) (h:gd P b ops i op f (λ_=>do mark .enable;pure Extern.Race.none_) args env [] nt) (Α:V P Q mn (one {x with deaf:=x.deaf-1}) b cs nt o (.inRegion ops rest::k) (bX op env mZ) σ):V P Q mn (one x) b cs nt o (.inRegion ops (i::rest)::k) env σ:=
 λS B H t κ χ y ad=>by
 cases ad;exact Goes.step U.ok (.inr ⟨⟨rfl,rfl⟩,.inr (.inl ⟨Go.Conc.G (ai b (put op t (.tuple #[])) (.inRegion ops rest::k)) cs,⟨rfl,rfl⟩,.inr ⟨hd,λw _=>
  ⟨h.step χ.b7 (B9 .enable) (Ca .enable _) (pR (by simp)),Α S B H _ κ (χ.put h.dst (.z _)) _ rfl⟩⟩⟩)⟩)
theorem V.UH (U:x.rel=false) {s off n p:Nat} {ay:qg} (Η:x.tok s=.par n p ay) (kW:ay≠.bf) (h:gd P b ops i op f (Extern.Race.marked .read) args env [.pointer (some ⟨s,off,none⟩)] nt) (Α:V P Q mn (one x) b cs nt o (.inRegion ops rest::k) (bX op env mZ) σ):V P Q mn (one x) b cs nt o (.inRegion ops (i::rest)::k) env σ:=
 λS B H t κ χ y ad=>by
 cases ad;exact Goes.step (eu.ok (.inl U)) (.inr ⟨⟨rfl,rfl⟩,.inr (.inr (.inl ⟨s,n,p,ay,Go.Conc.G (ai b (put op t (.tuple #[])) (.inRegion ops rest::k)) cs,off,false,Η,kW,U,⟨rfl,rfl⟩,λw _=>
  ⟨h.step χ.b7 (vR .read _) (vS .read _ _) (pR (by simp)),Α S B H _ κ (χ.put h.dst (.z _)) _ rfl⟩⟩))⟩)
theorem V.UI (U:x.rel=false) {s off n p:Nat} {ay:qg} (Η:x.tok s=.par n p ay) (kW:ay≠.bf) (h:gd P b ops i op f (Extern.Race.marked .write) args env [.pointer (some ⟨s,off,none⟩)] nt) (Α:V P Q mn (one x) b cs nt o (.inRegion ops rest::k) (bX op env mZ) σ):V P Q mn (one x) b cs nt o (.inRegion ops (i::rest)::k) env σ:=
 λS B H t κ χ y ad=>by
 cases ad;exact Goes.step (eu.ok (.inl U)) (.inr ⟨⟨rfl,rfl⟩,.inr (.inr (.inl ⟨s,n,p,ay,Go.Conc.G (ai b (put op t (.tuple #[])) (.inRegion ops rest::k)) cs,off,true,Η,kW,U,⟨rfl,rfl⟩,λw _=>
  ⟨h.step χ.b7 (vR .write _) (vS .write _ _) (pR (by simp)),Α S B H _ κ (χ.put h.dst (.z _)) _ rfl⟩⟩))⟩)
theorem V.z7 (U:x.rel=false) (hd:x.deaf=0) {s m n:Nat} {sp:Spec} (bF:x.spec s=some sp) (hm:sp.aI=some m) (Η:x.tok s=.ch n .own .work) (h:gd P b ops i op f (Extern.Race.marked .acquire) args env [.pointer (some ⟨m,0,none⟩)] nt)
  (Α:∀(S:al) (B:aH) (H:υ) (t:Array Value) (L:List Nat) (E:υ),eD o.m o.S o.B o.H o.σ S B H σ->e5 o.m nt S B H σ (bX op env mZ) t->sp.bw L E->Apart H E->(L.Nodup/\n∉L/\∃w,Fits H w/\Fits E w)->
   b4 P Q mn {x with tok:=upd x.tok s (.ch n (.cW L) .work),view:=upd x.view s none} (ai b t (.inRegion ops rest::k)) cs (join H E)):V P Q mn (one x) b cs nt o (.inRegion ops (i::rest)::k) env σ:=
 λS B H t κ χ y ad=>by
 cases ad;exact Goes.step (eu.ok (.inl U)) (.inr ⟨⟨rfl,rfl⟩,.inr (.inr (.inr (.inr (.inl ⟨s,sp,m,n,Go.Conc.G (ai b (put op t (.tuple #[])) (.inRegion ops rest::k)) cs,bF,hm,Η,hd,⟨rfl,rfl⟩,U,λw _=>
  h.step χ.b7 (vR .acquire _) (vS .acquire _ _) (pR (by simp)),λL E eA iA hw=>Α S B H _ L E κ (χ.put h.dst (.z _)) eA iA hw⟩))))⟩)
theorem V.DX (U:x.rel=false) (hd:x.deaf=0) {s m n:Nat} {L:List Nat} {sp:Spec} (bF:x.spec s=some sp) (hm:sp.aI=some m) (Η:x.tok s=.ch n (.cW L) .work) (h:gd P b ops i op f (Extern.Race.marked .releaseMerge) args env [.pointer (some ⟨m,0,none⟩)] nt)
  (Α:∀(S:al) (B:aH) (H:υ) (t:Array Value),eD o.m o.S o.B o.H o.σ S B H σ->e5 o.m nt S B H σ (bX op env mZ) t->∃H' E,Split H H' E/\sp.bw (L++[n]) E/\
   b4 P Q mn {x with tok:=upd x.tok s (.ch n .fin .work),view:=upd x.view s none} (ai b t (.inRegion ops rest::k)) cs H'):V P Q mn (one x) b cs nt o (.inRegion ops (i::rest)::k) env σ:=
 λS B H t κ χ y ad=>by
 cases ad;obtain⟨H',E,J,R,ς⟩:=Α S B H _ κ (χ.put h.dst (.z (.tuple #[])));exact Goes.step (eu.ok (.inl U)) (.inr ⟨⟨rfl,rfl⟩,.inr (.inr (.inr (.inr (.inr (.inl ⟨s,sp,m,n,L,Go.Conc.G (ai b (put op t (.tuple #[])) (.inRegion ops rest::k)) cs,H',E,bF,hm,Η,hd,⟨rfl,rfl⟩,U,λw _=>
  h.step χ.b7 (vR .releaseMerge _) (vS .releaseMerge _ _) (pR (by simp)),J,R,ς⟩)))))⟩)
theorem V.z8 (U:x.rel=false) (hd:x.deaf=0) {s n:Nat} {ay:qg} {sp:Spec} (bF:x.spec s=some sp) (Η:x.tok s=.par n 0 ay) (kW:ay=.kR\/ay=.w4) (h:gd P b ops i op f (Extern.Race.marked .acquire) args env [.pointer (some ⟨s,0,none⟩)] nt)
  (Α:∀(S:al) (B:aH) (H:υ) (t:Array Value) (fv e3:List Nat) (fQ ed:υ),eD o.m o.S o.B o.H o.σ S B H σ->e5 o.m nt S B H σ (bX op env mZ) t->
   fv.Perm (List.range n)->ko sp.D fv fQ->(sp.aI≠none->e3.Perm (List.range n)/\sp.bw e3 ed)->(sp.aI=none->ed=υ.empty)->Apart H fQ->Apart H ed->Apart fQ ed->(∃w,Fits H w/\Fits fQ w/\Fits ed w)->
   b4 P Q mn {x with tok:=upd x.tok s (.par n 0 .bf),view:=upd x.view s none} (ai b t (.inRegion ops rest::k)) cs (join (join H fQ) ed)):V P Q mn (one x) b cs nt o (.inRegion ops (i::rest)::k) env σ:=
 λS B H t κ χ y ad=>by
 cases ad;exact Goes.step (eu.ok (.inl U)) (.inr ⟨⟨rfl,rfl⟩,.inr (.inr (.inr (.inr (.inr (.inr (.inr (.inl ⟨s,sp,n,ay,Go.Conc.G (ai b (put op t (.tuple #[])) (.inRegion ops rest::k)) cs,bF,Η,kW,hd,⟨rfl,rfl⟩,U,λw _=>
  h.step χ.b7 (vR .acquire _) (vS .acquire _ _) (pR (by simp)),λfv e3 fQ ed a1 bg cr fX hI m7 sS rn=>Α S B H _ fv e3 fQ ed κ (χ.put h.dst (.z _)) a1 bg cr fX hI m7 sS rn⟩)))))))⟩)
theorem V.atomic (U:eu x) {s:Nat} {sp:Spec} (bF:x.spec s=some sp) (cG:¬fi (x.tok s)) (hd:g4 nt op=true) (hw:e7 env ops op=some true)
  (h:∀(t:Array Value) (w:World) (φ:Nat) (ο:aD),(∀y u,aG env y=.z u->a8 t y=u)->(∀(as9:Array Operand) (vs:List Value),yC env as9 vs->as9.map (a8 t)=vs.toArray)->Region.wanted op (yielded ops t)=true->ο.toSpec=sp->dF s ο w->Dr x s φ ο->sV ο (x.tok s)->
   (∃v w' fx,stepG P mn (Go.Conc.G (ai b t (.inRegion ops (i::rest)::k)) cs) w=.go (Go.Conc.G (ai b (put op t v) (.inRegion ops rest::k)) cs) w' fx/\e0 (λΡ _=>dS s sp Ρ) (λ_=>False) w w'/\m9 s sp x.deaf fx/\
    ((dF s ο w'/\V P Q mn (one {x with view:=upd x.view s (some (φ,ο))}) b cs nt o (.inRegion ops rest::k) (bX op env (.z v)) σ)\/
     ∃o' t',Act ο (x.tok s) o' t'/\dF s o' w'/\(mayWake P (Go.Conc.G (ai b t (.inRegion ops (i::rest)::k)) cs)=true\/o'=ο)/\∀b1,b1<φ->V P Q mn (one {x with tok:=upd x.tok s t',view:=upd x.view s (some (b1,o'))}) b cs nt o (.inRegion ops rest::k) (bX op env (.z v)) σ))\/
   (iU ο (x.tok s)/\(∀a7,a7≠s->lU (x.tok a7))/\stepG P mn (Go.Conc.G (ai b t (.inRegion ops (i::rest)::k)) cs) w=.go {Go.Conc.G (ai b t (.inRegion ops (i::rest)::k)) cs with status:=.blocked} w #[])) :
  V P Q mn (one x) b cs nt o (.inRegion ops (i::rest)::k) env σ:=by
 intro S B H t κ χ y ad;cases ad;refine Goes.step U.ok (.inr ⟨⟨rfl,rfl⟩,.inr (.inr (.inr (.inl ⟨s,sp,bF,cG,λw φ ο ab hv ω bk w7 F3=>?_⟩)))⟩);rcases h t w φ ο (λy u ad=>B8 χ.b7 ad) (λas9 vs oJ=>oJ.a8 χ.b7) (iY χ.b7 hw) ω bk w7 F3 with⟨v,w',fx,J,R,ς,Κ⟩|⟨J,R,ς⟩
 ·refine .inl ?_;rw[J];refine⟨⟨rfl,rfl⟩,R,ς,?_⟩;rcases Κ with⟨aF,aV⟩|⟨o',t',aF,aV,fY,qk⟩
  ·exact .inl ⟨aF,aV S B H _ κ (χ.put hd (.z _)) _ rfl⟩
  ·exact .inr ⟨o',t',aF,aV,fY,λb1 dX=>qk b1 dX S B H _ κ (χ.put hd (.z _)) _ rfl⟩
 ·exact .inr ⟨J,R,ς⟩
theorem La {cx off:Nat} {c:Array Value} {ty:TypeId} (hb:w.heap[cx]?=some (.cells c ty (0,0))) (v:Value) {own:Nat->Nat->Prop} (fp:∀o,own cx o):e0 own (λ_=>False) w (w.setCell ⟨cx,off,none⟩ v):=by
 have aN:=heap_setCell (w:=w) (a:=⟨cx,off,none⟩) (v:=v) rfl hb
 have ar:=e1 hb
 have Bs:(w.setCell ⟨cx,off,none⟩ v).os=w.os:=rfl;refine⟨by rw[aN];simp,λΡ c' t' I4 dp=>?_,λΡ y dp ad _=>?_,by rw[Bs];exact OsLater.refl _,rfl,rfl⟩
 ·by_cases e:Ρ=cx
  ·subst e;rw[hb] at dp;cases dp;exact⟨_,by rw[aN,Array.getElem?_setIfInBounds_self_of_lt ar],by simp,λo' iy=>absurd (fp o') iy⟩
  ·exact⟨c',by rw[aN,Array.getElem?_setIfInBounds_ne (Ne.symm e)];exact dp,rfl,λ_ _=>rfl⟩
 ·have e:cx≠Ρ:=λe=>by subst e;rw[hb] at dp;cases dp;cases ad
  rw[aN,Array.getElem?_setIfInBounds_ne e];exact dp
section
variable {s m:Nat} {ο o':aD}
theorem dF.ne (h:dF s ο w) (hm:ο.aI=some m):m≠s:=λe=>by
 obtain⟨⟨ty,J⟩,R⟩:=h;obtain⟨ir,ς⟩:=R m hm;subst e;rw[J] at ς;simp at ς
theorem dF.mu (h:dF s ο w) (hm:ο.aI=some m):∃ty,w.heap[m]?=some (.cells #[.int .i32 (mwd ο),.int .u32 ο.cM] ty (0,0)):=h.2 m hm
theorem dF.dn (h:dF s ο w) (hm:ο.aI=some m):w.cell? ⟨m,0,none⟩=some (.int .i32 (mwd ο)):=let ⟨_,J⟩:=h.mu hm;mm J rfl
theorem dF.fR (h:dF s ο w) (hm:ο.aI=some m):w.cell? ⟨m,1,none⟩=some (.int .u32 ο.cM):=let ⟨_,J⟩:=h.mu hm;mm J rfl
theorem dF.cI (h:dF s ο w):w.cell? ⟨s,0,none⟩=some (.int .u64 (cu ο)):=let ⟨_,J⟩:=h.1;mm J rfl
theorem dF.Ξ (h:dF s ο w):w.cell? ⟨s,1,none⟩=some (.int .u32 ο.cn):=let ⟨_,J⟩:=h.1;mm J rfl
theorem Lb {cx off:Nat} {c:Array Value} {ty:TypeId} (hb:w.heap[cx]?=some (.cells c ty (0,0))):w.frozen? ⟨cx,off,none⟩=false:=by
 simp[World.frozen?,hb]
theorem dF.vT (h:dF s ο w) (hm:ο.aI=some m) (off:Nat):w.frozen? ⟨m,off,none⟩=false:=let ⟨_,J⟩:=h.mu hm;Lb J
theorem dF.su (h:dF s ο w) (off:Nat):w.frozen? ⟨s,off,none⟩=false:=let ⟨_,J⟩:=h.1;Lb J
theorem dF.Cb (h:dF s ο w) (hm:ο.aI=some m) (cU:o'.aI=ο.aI) (Ο:cu o'=cu ο) (hw:o'.cn=ο.cn) {off:Nat} {v:Value} (hv:(#[.int .i32 (mwd ο),.int .u32 ο.cM]:Array Value).setIfInBounds off v=#[.int .i32 (mwd o'),.int .u32 o'.cM]):dF s o' (w.setCell ⟨m,off,none⟩ v):=by
 have bd:=h.ne hm;obtain⟨ir,ς⟩:=h.mu hm;obtain⟨⟨ty,J⟩,R⟩:=h;have aN:=heap_setCell (w:=w) (a:=⟨m,off,none⟩) (v:=v) rfl ς;refine⟨⟨ty,?_⟩,λbO mY=>⟨ir,?_⟩⟩
 ·rw[aN,Array.getElem?_setIfInBounds_ne bd,Ο,hw];exact J
 ·rw[cU,hm] at mY;cases mY;rw[aN,Array.getElem?_setIfInBounds_self_of_lt (e1 ς),hv]
theorem dF.vU (h:dF s ο w) (cU:o'.aI=ο.aI) (Ο:mwd o'=mwd ο) (hw:o'.cM=ο.cM) {off:Nat} {v:Value} (hv:(#[.int .u64 (cu ο),.int .u32 ο.cn]:Array Value).setIfInBounds off v=#[.int .u64 (cu o'),.int .u32 o'.cn]):dF s o' (w.setCell ⟨s,off,none⟩ v):=by
 have bd:=λm hm=>h.ne (m:=m) hm;obtain⟨⟨ty,J⟩,R⟩:=h;have aN:=heap_setCell (w:=w) (a:=⟨s,off,none⟩) (v:=v) rfl J;refine⟨⟨ty,?_⟩,λbO mY=>?_⟩
 ·rw[aN,Array.getElem?_setIfInBounds_self_of_lt (e1 J),hv]
 ·rw[cU] at mY;obtain⟨ir,ς⟩:=R bO mY;exact⟨ir,by rw[aN,Array.getElem?_setIfInBounds_ne (Ne.symm (bd bO mY)),Ο,hw];exact ς⟩
theorem dF.Cc (h:dF s ο w) (hm:ο.aI=some m) {sp:Spec} (ν:sp.aI=some m) {off:Nat} (v:Value):e0 (λΡ _=>dS s sp Ρ) (λ_=>False) w (w.setCell ⟨m,off,none⟩ v):=
 let ⟨_,J⟩:=h.mu hm;La J v λ_=>.inr ν
theorem dF.vV (h:dF s ο w) {sp:Spec} {off:Nat} (v:Value):e0 (λΡ _=>dS s sp Ρ) (λ_=>False) w (w.setCell ⟨s,off,none⟩ v):=
 let ⟨_,J⟩:=h.1;La J v λ_=>.inl rfl
end
theorem Lc {s d:Nat} {sp:Spec}:m9 s sp d #[]:=⟨rfl,λj e h=>by simp at h⟩
theorem pS {s cx off d:Nat} {sp:Spec} {es:Array Event} (hb:dS s sp cx) (hd:0<d) (ν:∀y∈es,y.loc=.cell ⟨cx,off,none⟩/\y.sync=true):m9 s sp d es:=by
 have rL:∀(es:Array Event),(∀y∈es,y.loc=.cell ⟨cx,off,none⟩/\y.sync=true)->deafBehind d es=d:=by
  intro es;obtain⟨l⟩:=es;intro h;unfold deafBehind;simp only[List.foldl_toArray']
  induction l with
  | nil=>rfl
  | cons y l Γ=>
   simp only[List.foldl_cons];have:=h y (by simp);rw[this.1];exact Γ λz Ν=>h z (by simp at Ν ⊢;exact .inr Ν)
 refine⟨rL es ν,λj y ad=>.inr (.inr ⟨cx,off,y.write,?_,hb,?_⟩)⟩
 ·have:=ν y (Array.mem_of_getElem? ad);obtain⟨l,w1,s1⟩:=y;simp only at this;rw[this.1,this.2]
 ·rw[rL]
  ·exact hd
  ·intro z Ν;exact ν z (by
    rw[Array.mem_iff_getElem?] at Ν ⊢;obtain⟨q,Ψ⟩:=Ν;rw[Array.getElem?_extract] at Ψ;split at Ψ
    ·exact⟨_,Ψ⟩
    ·cases Ψ)
end
end Go.TL
