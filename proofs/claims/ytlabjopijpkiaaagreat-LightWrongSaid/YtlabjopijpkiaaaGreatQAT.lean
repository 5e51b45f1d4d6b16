import Derived.Conc.AtomicLaws2
import Derived.Conc.ClockLaws
import Derived.Conc.MarkLaws
import Derived.Test.YtlabjopijpkiaaaGreatQAR
import Derived.Test.YtlabjopijpkiaaaGreatQAS
set_option maxHeartbeats 16000000
set_option maxRecDepth 20000
set_option linter.unusedSectionVars false
set_option linter.unusedSimpArgs false
set_option linter.unusedVariables false
namespace Go.TL
open Go.Proofs
variable [bn]
abbrev uy (k:List Int):θ:=.aW (k.map R)
abbrev o1 (e:List Int×Int):θ×θ:=(uy e.1,R e.2)
def AN (m:List (List Int×Int)):Prop:=∀e∈m,e.1.length=4
theorem XT (x y:List Int) (U:x.length=4) (Ο:y.length=4):aeqv bk 157 (uy x) (uy y)=some (decide (x=y)):=by
 match x,U,y,Ο with
 | [a,b,c,d],_,[b9,Φ,c',ep],_=>
  simp[aeqv,jD,mm,Bool.eq_iff_iff]
def j4:List (List Int×Int)->List Int->Int->List (List Int×Int)
 | [],k,v=>[(k,v)]
 | e::r,k,v=>if k=e.1 then(k,v)::r else e::j4 r k v
def wq:List (List Int×Int)->List Int->Option Int
 | [],_=>none
 | e::r,k=>if k=e.1 then some e.2 else wq r k
theorem XU (k:List Int) (χ:k.length=4):∀(m:List (List Int×Int)) (d:Nat),AN m->(hL bk 157 (uy k) (m.map o1) d=some none/\wq m k=none/\∀v,j4 m k v=m++[(k,v)])\/
  ∃i x,i<m.length/\hL bk 157 (uy k) (m.map o1) d=some (some (d+i,R x))/\wq m k=some x/\∀v,j4 m k v=m.set i (k,v):=by
 intro m
 induction m with
 | nil=>intro d _;exact .inl ⟨rfl,rfl,λ_=>rfl⟩
 | cons e r Δ=>
  intro d Μ;have Χ:=XT k e.1 χ (Μ e (by simp));by_cases h:k=e.1
  ·refine .inr ⟨0,e.2,by simp,?_,by simp[wq,h],λv=>by simp[j4,h]⟩;simp only[List.map_cons,hL,Χ];simp[h]
  ·have hb:decide (k=e.1)=false:=by simpa using h
   rcases Δ (d+1) (λx U=>Μ x (by simp[U])) with⟨J,γ,π⟩|⟨i,x,J,γ,π,aB⟩
   ·refine .inl ⟨?_,by simp[wq,h,γ],λv=>by simp[j4,h,π]⟩;simp only[List.map_cons,hL,Χ,hb,cond_false];exact J
   ·refine .inr ⟨i+1,x,by simp;omega,?_,by simp[wq,h,π],λv=>by simp[j4,h,aB]⟩;simp only[List.map_cons,hL,Χ,hb,cond_false];rw[γ];have:d+1+i=d+(i+1):=by omega
    rw[this]
theorem Oa {m:List (List Int×Int)} (h:AN m) {k:List Int} (χ:k.length=4) (v:Int):AN (j4 m k v):=by
 induction m with
 | nil=>intro e he;simp[j4] at he;subst he;exact χ
 | cons a r Δ=>
  intro e he;unfold j4 at he;split at he
  ·rcases List.mem_cons.1 he with rfl|he
   ·exact χ
   ·exact h e (by simp[he])
  ·rcases List.mem_cons.1 he with rfl|he
   ·exact h _ (by simp)
   ·exact Δ (λx U=>h x (by simp[U])) e he
def o2 (s:aR) (p r:Int×Int) (L:List Nat) (k:Nat):List Int:=((L.take k).map λx=>s.iN p r x)++List.replicate (4-k) 0
theorem Ob {s:aR} {p r:Int×Int} {L:List Nat} {k:Nat} (χ:k<=L.length) (Μ:L.length<=4):(o2 s p r L k).length=4:=by simp[o2];omega
theorem XV {s:aR} {p r:Int×Int} {L:List Nat} {k:Nat} (χ:k<L.length) (Μ:L.length<=4):(o2 s p r L k).take k++s.iN p r L[k]::(o2 s p r L k).drop (k+1)=o2 s p r L (k+1):=by
 have Ε:((L.take k).map λx=>s.iN p r x).length=k:=by simp;omega
 have Ζ:4-k=(4-(k+1))+1:=by omega
 unfold o2;rw[List.take_left' Ε,List.drop_append,List.drop_eq_nil_of_le (by omega),Ε,List.take_succ_eq_append_getElem χ,List.map_append,Ζ,List.replicate_succ];have a6:k+1-k=1:=by omega
 rw[a6];simp
abbrev yj:=Option (List (List Int×Int))
def yk (m:yj) (k:List Int) (v:Int):yj:=m.bind λm=>match wq m k with|some x=>if x=v then some (j4 m k v) else none|none=>some (j4 m k v)
def mF (s:aR) (f:Found) (cell:Nat) (lower:Bool) (L:List Nat) (m:yj) (j:Nat):yj:=(((f.cells[cell]?).getD []).take j).foldl (λm r=>yk m (o2 s (f.u,f.v) r L L.length) (mC lower r)) m
def uz (s:aR) (F:List Found) (cell:Nat) (lower:Bool) (L:List Nat) (i:Nat):yj:=(F.take i).foldl (λm f=>mF s f cell lower L m ((f.cells[cell]?).getD []).length) (some [])
def rl (s:aR) (F:List Found) (cell:Nat) (lower:Bool) (L:List Nat):Bool:=(uz s F cell lower L F.length).isSome
theorem XW (s:aR) (f:Found) (cell:Nat) (lower:Bool) (L:List Nat) (m:yj) (j:Nat) (h:j<((f.cells[cell]?).getD []).length):mF s f cell lower L m (j+1)=yk (mF s f cell lower L m j) (o2 s (f.u,f.v) ((f.cells[cell]?).getD [])[j] L L.length) (mC lower ((f.cells[cell]?).getD [])[j]):=by
 unfold mF;rw[List.take_succ_eq_append_getElem h,List.foldl_append];rfl
theorem Oc (s:aR) (F:List Found) (cell:Nat) (lower:Bool) (L:List Nat) (i:Nat) (h:i<F.length):uz s F cell lower L (i+1)=mF s F[i] cell lower L (uz s F cell lower L i) ((F[i].cells[cell]?).getD []).length:=by
 unfold uz;rw[List.take_succ_eq_append_getElem h,List.foldl_append];rfl
theorem Od (l:List (Int×Int)) (k:(Int×Int)->List Int) (v:Int×Int->Int):l.foldl (λm r=>yk m (k r) (v r)) none=none:=by
 induction l with
 | nil=>rfl
 | cons a l Δ=>exact Δ
theorem XX (s:aR) (F:List Found) (cell:Nat) (lower:Bool) (L:List Nat) {i j:Nat} (hi:i<F.length) (ε:j<=((F[i].cells[cell]?).getD []).length) (h:mF s F[i] cell lower L (uz s F cell lower L i) j=none):rl s F cell lower L=false:=by
 have J:mF s F[i] cell lower L (uz s F cell lower L i) ((F[i].cells[cell]?).getD []).length=none:=by
  unfold mF at h ⊢;rw[List.take_length]
  conv=>lhs;rw[<-List.take_append_drop j ((F[i].cells[cell]?).getD [])]
  rw[List.foldl_append,h];exact Od _ _ _
 rw[<-Oc s F cell lower L i hi] at J;unfold rl;unfold uz at J ⊢;rw[List.take_length]
 conv=>lhs;rw[<-List.take_append_drop (i+1) F]
 rw[List.foldl_append,J];have:∀l:List Found,(l.foldl (λm f=>mF s f cell lower L m ((f.cells[cell]?).getD []).length) none)=none:=λl=>by
  induction l with
  | nil=>rfl
  | cons a l Δ=>
   rw[List.foldl_cons];have:mF s a cell lower L none ((a.cells[cell]?).getD []).length=none:=by unfold mF;exact Od _ _ _
   rw[this];exact Δ
 rw[this];rfl
abbrev dQ (L:List Nat):Row:=.cells 3 1 (L.map λn:Nat=>R n)
theorem It {h:Nat} {L:List Nat}:ek h (dQ L):=λe he a ν=>by
 obtain⟨x,_,rfl⟩:=List.mem_map.1 he;simp[θ.cells] at ν;subst ν;simp
theorem XY (s:aR) (ο:s.small) (F:List Found) (ck:Eo s F) (cell:Nat) (sO:cell<s.cells.length) (lower:Bool) (L:List Nat) (aD:L.length<=4) (mD:∀x∈L,x<s.ao.length) :
  ak Tryz.prog 84 [d' s,cR F,R cell,bA lower,.ms 0 L.length 0 L.length] [dQ L] (λr σ=>r=bA (rl s F cell lower L)/\σ=[dQ L]) (λ_ _=>False):=by
 refine ak.body Κ Tryz.func84 rfl rfl Tryz.ntmps84 rfl rfl (by simp) ?_;(repeat (first|apply κ|(refine ξ λη I=>?_;simp;(repeat (rw[δ];simp));apply I)));have rk:∀M:List (List Int×Int),∀r∈[dQ L,.map (M.map o1)],ek [dQ L,.map (M.map o1)].length r:=λM r μ=>by
  simp only[List.mem_cons,List.not_mem_nil,or_false] at μ;rcases μ with rfl|rfl
  ·exact It
  ·intro e he;obtain⟨x,_,rfl⟩:=List.mem_map.1 he;simp
 refine W.iter (λx:Nat×List (List Int×Int)=>x.1<=F.length/\uz s F cell lower L x.1=some x.2/\AN x.2) (λ(i,_)=>[(2,R cell),(3,bA lower),(4,.ms 0 L.length 0 L.length),(5,.ad [aQ s.ai,aN s.ao,bl s.cells]),(11,.mp 1),(23,cR F),(24,R F.length),(25,R i)])
  (λ(_,M)=>[dQ L,.map (M.map o1)]) (λx=>F.length-x.1) (0,[]) ⟨Nat.zero_le _,rfl,λe he=>by cases he⟩ rfl (by simp) (λx U Δ=>?_)
 obtain⟨i,M⟩:=x;obtain⟨hi,cd,Μ⟩:=U;simp only at hi cd Μ ⊢;(repeat (first|apply κ|(refine ξ λη I=>?_;simp;(repeat (rw[δ];simp));apply I)));by_cases kU:i<F.length
 ·refine al (by simp[kU]) ?_;have jL:=Oc s F cell lower L i kU;have kz:=λj=>XX s F cell lower L (i:=i) (j:=j) kU;rw[cd] at jL kz;obtain⟨nq,g4⟩:=ck.cells _ (List.getElem_mem kU);generalize Τ:F[i]=f at jL kz nq g4;have bj:cell<f.cells.length:=by rw[nq];exact sO
  repeat apply κ
  refine c7 (A:=[13]) Κ λη I=>?_;simp;(repeat (rw[δ];simp[kU,Τ]));apply I;refine W.nn (σ0:=[dQ L,.map (M.map o1)]) (by simp) (rk _) (by simp) [(13,.ad [R f.u,R f.v,my f.cells]),(2,R cell),(3,bA lower),(4,.ms 0 L.length 0 L.length),(5,.ad [aQ s.ai,aN s.ao,bl s.cells]),(11,.mp 1),(23,cR F),(24,R F.length),(25,R i)] (by simp[hM,ss,ng]) ?_;(repeat (first|apply κ|(refine ξ λη I=>?_;simp;(repeat (rw[δ];simp[bj]));apply I)));have AJ:(f.cells[cell]?).getD []=f.cells[cell]:=by simp[bj]
  rw[AJ] at jL kz;have AK:=g4 _ (List.getElem_mem bj);have p7:=XW s f cell lower L (some M);rw[AJ] at p7;generalize f.cells[cell]=C at jL AK p7 kz;obtain⟨wm,Ir⟩:=AK;refine W.iter (λx:Nat×List (List Int×Int)=>x.1<=C.length/\mF s f cell lower L (some M) x.1=some x.2/\AN x.2) (λ(j,_)=>[(2,R cell),(3,bA lower),(4,.ms 0 L.length 0 L.length),(5,.ad [aQ s.ai,aN s.ao,bl s.cells]),(11,.mp 1),(23,cR F),(24,R F.length),(25,R i),(13,.ad [R f.u,R f.v,my f.cells]),(33,mx C),(34,R C.length),(35,R j)])
   (λ(_,M)=>[dQ L,.map (M.map o1)]) (λx=>C.length-x.1) (0,M) ⟨Nat.zero_le _,rfl,Μ⟩ rfl (by simp) (λx U eg=>?_)
  obtain⟨j,M2⟩:=x;obtain⟨ε,yi,AO⟩:=U;simp only at ε yi AO ⊢;(repeat (first|apply κ|(refine ξ λη I=>?_;simp;(repeat (rw[δ];simp));apply I)));by_cases h7:j<C.length
  ·refine al (by simp[h7]) ?_;have p8:=p7 j h7;rw[yi] at p8;obtain⟨r9,ui⟩:=Ir _ (List.getElem_mem h7);generalize μ:C[j]=r at p8 r9 ui
   repeat apply κ
   refine c7 (A:=[15]) Κ λη I=>?_;simp;(repeat (rw[δ];simp[h7,μ]));apply I;refine W.nn (σ0:=[dQ L,.map (M2.map o1)]) (by simp) (rk _) (by simp) [(15,.ad [R r.1,R r.2]),(2,R cell),(3,bA lower),(4,.ms 0 L.length 0 L.length),(5,.ad [aQ s.ai,aN s.ao,bl s.cells]),(11,.mp 1),(23,cR F),(24,R F.length),(25,R i),(13,.ad [R f.u,R f.v,my f.cells]),(33,mx C),(34,R C.length),(35,R j)] (by simp[hM,ss,ng]) ?_
   repeat apply κ
   refine c7 (A:=[16]) Κ λη I=>?_;simp;(repeat (rw[δ];simp));apply I;(repeat (first|apply κ|(refine ξ λη I=>?_;simp;(repeat (rw[δ];simp));apply I)));refine W.iter (λk:Nat=>k<=L.length) (λk=>[(2,R cell),(3,bA lower),(4,.ms 0 L.length 0 L.length),(5,.ad [aQ s.ai,aN s.ao,bl s.cells]),(11,.mp 1),(23,cR F),(24,R F.length),(25,R i),(13,.ad [R f.u,R f.v,my f.cells]),(33,mx C),(34,R C.length),(35,R j),(15,.ad [R r.1,R r.2]),(16,.Ψ 2 1 0 0),(39,.ms 0 L.length 0 L.length),(40,R L.length),(41,R k)])
    (λk=>[dQ L,.map (M2.map o1),.cells 157 4 [uy (o2 s (f.u,f.v) r L k)]]) (λk=>L.length-k) 0 (Nat.zero_le _) (by simp[o2]) (by simp) (λk χ lM=>?_)
   (repeat (first|apply κ|(refine ξ λη I=>?_;simp;(repeat (rw[δ];simp));apply I)));by_cases e4:k<L.length
   ·refine al (by simp[e4]) ?_;have wu:(k:Int)<4:=by omega
    have kg:k<=3:=by omega
    have tQ:=XV (s:=s) (p:=(f.u,f.v)) (r:=r) e4 aD
    have hlen:=Ob (s:=s) (p:=(f.u,f.v)) (r:=r) (Nat.le_of_lt e4) aD
    have XZ:=mD _ (List.getElem_mem e4);obtain⟨K,I⟩:∃K,K=o2 s (f.u,f.v) r L k:=⟨_,rfl⟩;rw[<-I] at tQ hlen ⊢;(repeat (first|apply κ|(refine ξ λη I=>?_;simp;(repeat (rw[δ];simp[e4,wu,hlen]));apply I)));(repeat apply κ);refine ξ λη I=>?_;simp;(repeat (rw[δ];simp[wu,hlen]));refine az.c (Av s ο (f.u,f.v) r L[k] XZ r9 ui) (aK.refl _) (by simp) (by simp) ?_;simp[wu,kg,hlen];(repeat (rw[δ];simp[wu,kg,hlen]));apply I;have wv:=e6 e4 (show L.length<2 ^ 62 by omega);(repeat (first|apply κ|(refine ξ λη I=>?_;simp;(repeat (rw[δ];simp[wv]));apply I)));refine W.to (lM (k+1) e4 (by omega)) ?_ ?_
    ·rw[<-tQ];simp
    ·simp[wv]
   ·have wx:k=L.length:=by omega
    subst wx;refine aj (by simp) ?_;refine W.exit rfl ?_;have hlen:=Ob (s:=s) (p:=(f.u,f.v)) (r:=r) (Nat.le_refl _) aD;obtain⟨K,I⟩:∃K,K=o2 s (f.u,f.v) r L L.length:=⟨_,rfl⟩;obtain⟨v,hv⟩:∃v,v=mC lower r:=⟨_,rfl⟩;rw[<-I,<-hv] at p8;rw[<-I] at hlen ⊢
    repeat apply κ
    refine W.tU (A:=[]) Κ [(2,R cell),(3,bA lower),(4,.ms 0 L.length 0 L.length),(5,.ad [aQ s.ai,aN s.ao,bl s.cells]),(11,.mp 1),(23,cR F),(24,R F.length),(25,R i),(13,.ad [R f.u,R f.v,my f.cells]),(33,mx C),(34,R C.length),(35,R j),(15,.ad [R r.1,R r.2]),(16,.Ψ 2 1 0 0),(19,R v)] ?_ (by
     rw[hv];cases lower
     all_goals
      (try simp);(repeat (rw[δ];simp));(try simp[]);refine az.c (H7 _) (aK.refl _) (by simp) (by simp) ?_;simp;(repeat (rw[δ];simp));(try simp[mC]))
    clear lM hv;have o0:=e6 h7 (show C.length<2 ^ 62 by omega);have kD:nW [dQ L,.map (M2.map o1),.cells 157 4 [uy K]] 1=true:=by simp[nW]
    have pB:nU bk 157 (uy K)=true:=by
     match K,hlen with
     | [a,b,c,d],_=>simp[nU,jD,mm]
    have kM:List.take 4 (K.map R)=K.map R:=List.take_of_length_le (by simp[hlen]);rcases XU K hlen M2 0 AO with⟨Ρ,ag,aV⟩|⟨cg,x,cP,Ρ,ag,aV⟩
    ·have aV:=aV v
     have hm:mF s f cell lower L (some M) (j+1)=some (j4 M2 K v):=by rw[p8];simp[yk,ag]
     (repeat (first|apply κ|(refine ξ λη I=>?_;simp;(repeat (rw[δ];simp[Ρ,pB,kM,hlen,-nU]));apply I)));refine aj rfl ?_;(repeat (first|apply κ|(refine ξ λη I=>?_;simp;(repeat (rw[δ];simp[Ρ,pB,kM,hlen,-nU]));apply I)));refine W.drop (h:=2) (σ':=[dQ L,.map ((j4 M2 K v).map o1)]) (by simp) (by simp) (λid w bS hw=>ek.mono (rk (j4 M2 K v) w (by
      match id,bS,hw with
      | 0,_,hw=>simp at hw;subst hw;simp
      | 1,_,hw=>simp[aV] at hw;subst hw;simp[aV])) (by simp)) (by simp[aV]) [(2,R cell),(3,bA lower),(4,.ms 0 L.length 0 L.length),(5,.ad [aQ s.ai,aN s.ao,bl s.cells]),(11,.mp 1),(23,cR F),(24,R F.length),(25,R i),(13,.ad [R f.u,R f.v,my f.cells]),(33,mx C),(34,R C.length),(35,R ((j:Int)+1))] (by simp[hM,ss,ng,o0]) ?_
     refine W.to (eg (j+1,j4 M2 K v) ⟨h7,hm,Oa AO hlen v⟩ (by simp only;omega)) rfl ?_;simp
    ·have aV:=aV v;(repeat (first|apply κ|(refine ξ λη I=>?_;simp;(repeat (rw[δ];simp[Ρ,pB,kM,hlen,-nU]));apply I)));by_cases Ep:x=v
     ·have hm:mF s f cell lower L (some M) (j+1)=some (j4 M2 K v):=by rw[p8];simp[yk,ag,Ep]
      refine aj (by simp[Ep]) ?_;(repeat (first|apply κ|(refine ξ λη I=>?_;simp;(repeat (rw[δ];simp[Ρ,pB,kM,hlen,-nU]));apply I)));refine W.drop (h:=2) (σ':=[dQ L,.map ((j4 M2 K v).map o1)]) (by simp) (by simp) (λid w bS hw=>ek.mono (rk (j4 M2 K v) w (by
       match id,bS,hw with
       | 0,_,hw=>simp at hw;subst hw;simp
       | 1,_,hw=>simp[aV] at hw;subst hw;simp[aV])) (by simp)) (by simp[aV]) [(2,R cell),(3,bA lower),(4,.ms 0 L.length 0 L.length),(5,.ad [aQ s.ai,aN s.ao,bl s.cells]),(11,.mp 1),(23,cR F),(24,R F.length),(25,R i),(13,.ad [R f.u,R f.v,my f.cells]),(33,mx C),(34,R C.length),(35,R ((j:Int)+1))] (by simp[hM,ss,ng,o0]) ?_
      refine W.to (eg (j+1,j4 M2 K v) ⟨h7,hm,Oa AO hlen v⟩ (by simp only;omega)) rfl ?_;simp
     ·have hm:mF s f cell lower L (some M) (j+1)=none:=by rw[p8];simp[yk,ag,Ep]
      have m6:=kz (j+1) h7 hm;rw[m6];refine al (by simp[Ep]) ?_;(repeat (first|apply κ|(refine ξ λη I=>?_;simp;(repeat (rw[δ];simp));apply I)));refine W.drop (h:=1) (σ':=[dQ L]) (by simp) (by simp) (λid w bS hw=>by
       obtain rfl:id=0:=by omega
       simp at hw;subst hw;exact It) rfl [(10,bA false)] (by simp) ?_
      exact W.ret ⟨_,rfl,rfl,rfl⟩
  ·have v':j=C.length:=by omega
   subst v';have kO:=e6 kU (show F.length<2 ^ 62 by have:=ck.uo;omega);refine aj (by simp) ?_;refine W.exit rfl ?_;(repeat (first|apply κ|(refine ξ λη I=>?_;simp;(repeat (rw[δ];simp[kO]));apply I)));refine W.to (Δ (i+1,M2) ⟨kU,by rw[jL];exact yi,AO⟩ (by simp only;omega)) rfl ?_;simp[kO]
 ·have dA:i=F.length:=by omega
  subst dA;have m6:rl s F cell lower L=true:=by unfold rl;rw[cd];rfl
  rw[m6];refine aj (by simp) ?_;refine W.exit rfl ?_;(repeat (first|apply κ|(refine ξ λη I=>?_;simp;(repeat (rw[δ];simp));apply I)));refine W.drop (h:=1) (σ':=[dQ L]) (by simp) (by simp) (λid w bS hw=>by
   obtain rfl:id=0:=by omega
   simp at hw;subst hw;exact It) rfl [(10,bA true)] (by simp) ?_
  exact W.ret ⟨_,rfl,rfl,rfl⟩
end Go.TL
namespace Go.TL
open Go.Conc Go.Proofs
variable [bn]
section
variable {P:Program} {Q:Value->Prop} {mn:Bool} {x:gL} {cs rest:List Frame} {H:ψ} {b f c:Frame} {t:Array Value} {k:List Item} {fn:Func}
theorem υ.getLoop {L:Nat} {r:Loop} (h:H.obj L=some (.loop r)) {K:Loop->ψ->Prop} {E:Value->ψ->Prop} (χ:K r H):υ P (Instr.getLoop L) H K E:=by
 unfold Instr.getLoop;refine υ.bind' ?_;exact⟨_,h,rfl,υ.pure' χ⟩
theorem υ.Iu {L:Nat} {r r':Loop} (h:H.obj L=some (.loop r)) {K:Unit->ψ->Prop} {E:Value->ψ->Prop} (χ:K () (H.aY L (.loop r'))):υ P (setObj L (.loop r')) H K E:=
 ⟨⟨_,h⟩,rfl,rfl,υ.pure' χ⟩
abbrev Oe (st:LoopState) (X0:Option Code) (f:FuncId) (t:Array Value) (cS:Array Tmp) (a sb:Code) (d:Nat):Loop:={state:=st,pending:=X0,fn:=f,tmps:=t,params:=cS,assign:=a,body:=sb,defers:=d}
theorem aE.rangeFunc (U:Seq x) (hb:b.mode=.run) (cf:b.roundOf=none) {fo:Operand} {cS:Array Tmp} {assign body:Code} {g:FuncId} {kV:Array Value} (X1:br t fo=.func (.func g) #[] kV) (Υ:Plain P g)
  (h:∀r1 r2,H.fresh r1->(H.aY r1 (.deferred (some []))).fresh r2->aE P Q mn x (Frame.enter P g (#[.func (.yield r2) #[] #[]]++kV) .normal) ({au b t (.inRangeFunc r2::k) with defers:=⟨.collected r1,#[]⟩::b.defers}::cs)
   ((H.aY r1 (.deferred (some []))).aY r2 (.loop (Oe .ready none b.fn t cS assign body r1)))) :
  aE P Q mn x (au b t (.code (.rangeFunc fo cS assign body)::k)) cs H:=by
 refine .own U λw Τ=>?_;have er:υ P (Instr.enterLoop b.fn t cS assign body none) H (λv H'=>∃r1 r2,H.fresh r1/\(H.aY r1 (.deferred (some []))).fresh r2/\v=(r2,[⟨.collected r1,#[]⟩])/\H'=(H.aY r1 (.deferred (some []))).aY r2 (.loop (Oe .ready none b.fn t cS assign body r1))) (λ_ _=>False):=by
  unfold Instr.enterLoop;refine υ.bind' (λr1 J=>υ.pure' (υ.bind' (υ.pure' ?_)));refine υ.bind' (λr2 γ=>υ.pure' (υ.pure' ?_));exact⟨r1,r2,J,γ,rfl,rfl⟩
 obtain⟨H',w',es',hu,hX⟩:=υ.sound (P:=P) (G0:=H) (w0:=w) _ er (dN.start Τ);rcases hX with⟨v,dS,r1,r2,J,γ,rfl,rfl⟩|⟨v,dS,de⟩
 ·refine⟨_,_,w',seen P b.fn es',_,?_,hu.sub λe he=>mem_seen he,h r1 r2 J γ⟩;have dy:∀F:Frame,F.tmps=t->resolve F.eval {callee:=.value fo,args:=#[.const (.func (.yield r2) #[] #[])],argTypes:=#[]} 0=Deferred.ofValue (.func (.func g) #[] kV) #[.func (.yield r2) #[] #[]]:=λF gf=>by
   have:F.eval fo=.func (.func g) #[] kV:=by rw[<-X1,<-gf];cases fo<;>rfl
   unfold resolve;simp only;rw[this];simp[Frame.eval]
  have hinv:((do let d <-Deferred.ofValue (.func (.func g) #[] kV) #[.func (.yield r2) #[] #[]];invoke d.target d.args:Sem Next)).runT P w' #[]=(.ok (.enter g (#[.func (.yield r2) #[] #[]]++kV)) w',#[]):=by
   have:=Υ.enter (#[.func (.yield r2) #[] #[]]++kV) w';simpa[Deferred.ofValue,invoke] using this
  rw[i' hb];unfold stepG.exec;simp only[au,cf,dS];rw[dy _ rfl];unfold stepG.apply;simp only[if_true,hinv];simp[GStep.after,Go.Conc.G,au,seen_none]
 ·exact de.elim
theorem aE.Er (U:Seq x) (hb:b.mode=.run) {L:Nat} {r:Loop} (aD:H.obj L=some (.loop r)) (ο:r.state≠.busy)
  (h:aE P Q mn x (au b t ((r.pending.map Item.code).toList++k)) cs (H.aY L (.loop {r with state:=.exhausted}))):aE P Q mn x (au b t (.endRangeFunc L::k)) cs H:=by
 refine .own U λw Τ=>?_;have er:υ P (Instr.endLoop L) H (λv H'=>v=r.pending/\H'=H.aY L (.loop {r with state:=.exhausted})) (λ_ _=>False):=by
  unfold Instr.endLoop;refine υ.bind' (υ.getLoop aD ?_);have e:(r.state==.busy)=false:=by cases Χ:r.state<;>first|rfl|exact absurd Χ ο
  simp only[e,Bool.false_eq_true,if_false];exact υ.bind' (υ.Iu aD (υ.pure' ⟨rfl,rfl⟩))
 obtain⟨H',w',es',hu,hX⟩:=υ.sound (P:=P) (G0:=H) (w0:=w) _ er (dN.start Τ);rcases hX with⟨v,dS,rfl,rfl⟩|⟨v,dS,de⟩
 ·refine⟨_,_,w',seen P b.fn es',_,?_,hu.sub λe he=>mem_seen he,h⟩;rw[i' hb];unfold stepG.exec;simp only[au,dS];simp[GStep.after,Go.Conc.G]
 ·exact de.elim
theorem aE.beginRound (U:Seq x) (hb:b.mode=.run) {L:Nat} (cf:b.roundOf=some L) {r:Loop} (aD:H.obj L=some (.loop r)) (ο:r.state=.ready)
  (h:aE P Q mn x (au b t k) cs (H.aY L (.loop {r with state:=.busy}))):aE P Q mn x (au b t (.beginRound::k)) cs H:=by
 refine .own U λw Τ=>?_;have er:υ P (Instr.beginRound L) H (λ_ H'=>H'=H.aY L (.loop {r with state:=.busy})) (λ_ _=>False):=by
  unfold Instr.beginRound;refine υ.bind' (υ.getLoop aD (υ.bind' (υ.Iu aD ?_)));rw[ο];exact υ.pure' rfl
 have X2:υ P (do Instr.beginRound L;pure Next.skip:Sem Next) H (λv H'=>v=.skip/\H'=H.aY L (.loop {r with state:=.busy})) (λ_ _=>False):=
  υ.bind' (υ.mono (λ_ _ e=>υ.pure' ⟨rfl,e⟩) (λ_ _ h=>h) _ er)
 obtain⟨H',w',es',hu,hX⟩:=υ.sound (P:=P) (G0:=H) (w0:=w) _ X2 (dN.start Τ);rcases hX with⟨v,dS,rfl,rfl⟩|⟨v,dS,de⟩
 ·generalize fx:(if b.kind==.early then #[] else es')=nQ;have jV:∀e∈seen P b.fn nQ,e∈es':=λe he=>by
   have:=mem_seen he;rw[<-fx] at this;split at this
   ·simp at this
   ·exact this
  refine⟨_,_,w',seen P b.fn nQ,_,?_,hu.sub jV,h⟩;rw[i' hb];unfold stepG.exec;simp only[au,cf,Option.elim];unfold stepG.apply;simp only[if_true,dS];rw[fx];simp[GStep.after,Go.Conc.G,Frame.finish]
 ·exact de.elim
theorem aE.endRound (U:Seq x) (hb:b.mode=.run) {L:Nat} (cf:b.roundOf=some L) (χ:b.kind=.normal) {r:Loop} (aD:H.obj L=some (.loop r)) {jump:Option Code} (ε:(jump=none/\k=[])\/(jump=some .ret/\∃ab,k=.code .ret::ab)\/∃id ab,jump=some (.exit id)/\k=.code (.exit id)::ab/\exitTo id ab=none)
  (h:aE P Q mn x (c.finish (.bool jump.isNone)) rest (H.aY L (.loop {r with state:=if jump.isNone then .ready else .done,pending:=jump}))):aE P Q mn x (au b t k) (c::rest) H:=by
 refine .own U λw Τ=>?_;have er:υ P (Instr.endRound L jump) H (λv H'=>v=.bool jump.isNone/\H'=H.aY L (.loop {r with state:=if jump.isNone then .ready else .done,pending:=jump})) (λ_ _=>False):=by
  unfold Instr.endRound;exact υ.bind' (υ.getLoop aD (υ.bind' (υ.Iu aD (υ.pure' ⟨rfl,rfl⟩))))
 obtain⟨H',w',es',hu,hX⟩:=υ.sound (P:=P) (G0:=H) (w0:=w) _ er (dN.start Τ);rcases hX with⟨v,dS,rfl,rfl⟩|⟨v,dS,de⟩
 ·refine⟨_,_,w',seen P b.fn es',_,?_,hu.sub λe he=>mem_seen he,h⟩;rw[i' hb];unfold stepG.exec;rcases ε with⟨rfl,rfl⟩|⟨rfl,ab,rfl⟩|⟨id,ab,rfl,rfl,he⟩
  ·simp only[au,cf,dS];simp[GStep.after,Go.Conc.G,doReturn,χ]
  ·simp only[au,cf,dS];simp[GStep.after,Go.Conc.G,doReturn,χ]
  ·simp only[au,cf,he,Option.elim,dS];simp[GStep.after,Go.Conc.G,doReturn,χ]
 ·exact de.elim
theorem aE.collected (U:Seq x) (hm:f.mode=.returning) {r:Nat} {ds:List Deferred} (hd:f.defers=⟨.collected r,#[]⟩::ds) (μ:H.obj r=some (.deferred (some [])))
  (h:aE P Q mn x {f with defers:=ds} cs (H.aY r (.deferred none))):aE P Q mn x f cs H:=by
 refine .own U λw Τ=>?_;have er:υ P (Instr.takeDeferred r) H (λv H'=>v=[]/\H'=H.aY r (.deferred none)) (λ_ _=>False):=by
  unfold Instr.takeDeferred;refine υ.bind' ?_;exact⟨_,μ,rfl,υ.pure' (υ.bind' ⟨⟨_,μ⟩,rfl,rfl,υ.pure' (υ.pure' ⟨rfl,rfl⟩)⟩)⟩
 obtain⟨H',w',es',hu,hX⟩:=υ.sound (P:=P) (G0:=H) (w0:=w) _ er (dN.start Τ);rcases hX with⟨v,dS,rfl,rfl⟩|⟨v,dS,de⟩
 ·refine⟨_,_,w',seen P f.fn es',_,?_,hu.sub λe he=>mem_seen he,h⟩;rw[xE (by rw[hm];simp)];unfold unwind;simp only[hd,dS];simp[GStep.after,Go.Conc.G]
 ·exact de.elim
end
end Go.TL
namespace Go.TL
open Go.Conc
open Go.ConcM (OsLater)
open Go.ConcN (sumTo upd sumTo_upd upd_ne upd_same sumTo_congr le_sumTo)
open Go.ConcR (mk)
variable [bn]
theorem gD {b:Frame} (hb:b.mode=.run) (μ:b.roundOf=none) (t:Array Value) (k:List Item):au b t k=b.at ⟨t,b.defers⟩ k:=by
 obtain⟨fn,xD,td,TF,tF,kd,ro⟩:=b;simp only at hb μ;subst hb;subst μ;rfl
theorem uA (o:Oper) (t:Array Value) (ds:List Deferred) (v:Value):(⟨t,ds⟩:_root_.Go.Act).put o.dst v=⟨put o t v,ds⟩:=by
 unfold _root_.Go.Act.put put;cases o.dst<;>rfl
theorem lP (t:Array Value) (ds:List Deferred):(⟨t,ds⟩:_root_.Go.Act).eval=br t:=by funext o;cases o<;>rfl
def Entry (P:Program) (f:FuncId) (e:Array Value->Sem Value):Prop:=∃fn,P.funcs[f]?=some fn/\(fn.name == "runtime.NumGoroutine")=false/\fn.body.isNone=true/\Extern.findNext fn=none/\Extern.find fn=some e
structure mG (b:Frame) (ops:Array Oper) (i:Nat) (op:Oper):Prop where
 run:b.mode=.run
 ro:b.roundOf=none
 kd:b.kind≠.early
 op:ops[i]?=some op
def eR (x:aU):Prop:=x.rel=false\/∃s,¬Gone (x.tok s)
theorem eR.ok {P:Program} {g:Goroutine} {x:aU} (h:eR x):ze P g x:=λJ γ=>by
 rcases h with h|⟨s,h⟩
 ·rw[h] at J;cases J
 ·exact absurd (γ s) h
def one (x:aU):gL:=λy=>y=x
@[reducible] def eS:bn:=⟨λ_=>True⟩
theorem Seq.uB {x:aU} (Χ:bn.q (one x)) (μ:x.rel=false) (hv:x.aF=λ_=>none):Seq (one x):=⟨Χ,λy h=>by cases h;exact μ,λy h=>by cases h;exact hv⟩
theorem Seq.here {x:aU} (h:Seq (one x)):eR x:=.inl (h.rel x rfl)
section
variable {P:Program} {Q:Value->Prop} {mn:Bool} {x:aU} {b:Frame} {cs:List Frame} {nt:Nat} {o:Base} {k:List Item} {env:Ω} {σ:List Row} {S:aC} {B:aP} {H:ψ} {t:Array Value}
variable {ops:Array Oper} {i:Nat} {rest:List Nat} {op:Oper} {f:FuncId} {e:Array Value->Sem Value} {args:Array Operand} {dW:Array TypeId} {w w':World}
theorem Es (he:Entry P f e) (bU:mG b ops i op) (hw:Region.wanted op (yielded ops t)=true) (Ν:op.op=.call ⟨.value (.func f),args,dW⟩) {vs:Array Value} (kW:args.map (br t)=vs) {v:Value} {gg:Array Event}
  (dS:(e vs).run P w=.ok v w') (dy:(e vs).events P w #[⟨.mark (Mark.extern f),false,true⟩]=#[⟨.mark (Mark.extern f),false,true⟩]++gg) (ο:∀y∈gg,y.sync=true/\∀g,y.loc≠.mark (Mark.extern g)) :
  stepG P mn (Go.Conc.G (au b t (.inRegion ops (i::rest)::k)) cs) w=.go (Go.Conc.G (au b (put op t v) (.inRegion ops rest::k)) cs) w' gg:=by
 obtain⟨fn,J,γ,π,Μ,aB⟩:=he;rw[gD bU.run bU.ro,gD bU.run bU.ro,<-uA];exact stepG_entry (a:=⟨t,b.defers⟩) bU.op hw bU.kd Ν J γ π Μ aB (by rw[lP,kW];exact dS) (by rw[lP,kW];exact dy) ο
theorem X3 (he:Entry P f e) (bU:mG b ops i op) (hw:Region.wanted op (yielded ops t)=true) (Ν:op.op=.call ⟨.value (.func f),args,dW⟩) {vs:Array Value} (kW:args.map (br t)=vs)
  (dS:(e vs).run P w=.halt .blocked w') :
  stepG P mn (Go.Conc.G (au b t (.inRegion ops (i::rest)::k)) cs) w=.go {Go.Conc.G (au b t (.inRegion ops (i::rest)::k)) cs with status:=.blocked} w' #[]:=by
 obtain⟨fn,J,γ,π,Μ,aB⟩:=he;rw[gD bU.run bU.ro];exact stepG_entry_blocked (a:=⟨t,b.defers⟩) bU.op hw Ν J γ π Μ aB (by rw[lP,kW];exact dS)
theorem Of (he:Entry P f e) (bU:mG b ops i op) (Ν:op.op=.call ⟨.value (.func f),args,dW⟩):mayWake P (Go.Conc.G (au b t (.inRegion ops (i::rest)::k)) cs)=true:=by
 obtain⟨fn,J,γ,π,Μ,aB⟩:=he;have bc:fn.body=none:=by simpa using π
 have Og:(au b t (.inRegion ops (i::rest)::k)).eval (.func f)=.func (.func f) #[] #[]:=rfl;simp[mayWake,Go.Conc.G,au,bU.run,bU.op,Ν] at Og ⊢;simp[Og,J,bc]
def AP (env:Ω) (args:Array Operand) (vs:List Value):Prop:=args.toList.map (aO env)=vs.map θ.z
theorem Et (ο:cY S B σ env t) {y:Operand} {v:Value} (h:aO env y=.z v):br t y=v:=by
 have:=lz ο y;rw[h] at this;generalize br t y=u at this;cases this;rfl
theorem AP.br (ο:cY S B σ env t) {vs:List Value} (h:AP env args vs):args.map (br t)=vs.toArray:=by
 apply Array.ext';rw[Array.toList_map];have:∀(l:List Operand) (vs:List Value),l.map (aO env)=vs.map θ.z->l.map (Go.TL.br t)=vs:=by
  intro l
  induction l with
  | nil=>intro vs h;cases vs with
   | nil=>rfl
   | cons=>cases h
  | cons y l Δ=>
   intro vs h;cases vs with
   | nil=>cases h
   | cons v vs=>
    simp only[List.map_cons,List.cons.injEq] at h ⊢;exact⟨Et ο h.1,Δ vs h.2⟩
 exact this _ _ h
theorem Eu (m:Mark):((λ_=>do mark m;pure Extern.Race.none_:Array Value->Sem Value) #[]).run P w=.ok (.tuple #[]) w:=by simp[Extern.Race.none_]
theorem Ev (m:Mark) (es:Array Event):((λ_=>do mark m;pure Extern.Race.none_:Array Value->Sem Value) #[]).events P w es=es.push ⟨.mark m,false,true⟩:=by simp
theorem yl (m:Addr->Mark) (cx:Addr):(Extern.Race.marked m #[.pointer (some cx)]).run P w=.ok (.tuple #[]) w:=by simp[Extern.Race.marked,Extern.Race.at_,Extern.Race.none_]
theorem ym (m:Addr->Mark) (cx:Addr) (es:Array Event):(Extern.Race.marked m #[.pointer (some cx)]).events P w es=es.push ⟨.mark (m cx),false,true⟩:=by simp[Extern.Race.marked,Extern.Race.at_]
theorem rm {m:Mark} (hm:∀g,m≠Mark.extern g):∀y∈(#[⟨.mark m,false,true⟩]:Array Event),y.sync=true/\∀g,y.loc≠.mark (Mark.extern g):=by
 intro y Ο;simp at Ο;subst Ο;exact⟨rfl,λg h=>hm g (by cases h;rfl)⟩
structure gW (P:Program) (b:Frame) (ops:Array Oper) (i:Nat) (op:Oper) (f:FuncId) (e:Array Value->Sem Value) (args:Array Operand) (env:Ω) (vs:List Value) (nt:Nat):Prop where
 at_:mG b ops i op
 kQ:Entry P f e
 call:∃dW,op.op=.call ⟨.value (.func f),args,dW⟩
 want:fA env ops op=some true
 dst:h2 nt op=true
 AQ:AP env args vs
theorem gW.step {vs:List Value} (h:gW P b ops i op f e args env vs nt) (ο:cY S B σ env t) {v:Value} {gg:Array Event} (dS:(e vs.toArray).run P w=.ok v w')
  (dy:(e vs.toArray).events P w #[⟨.mark (Mark.extern f),false,true⟩]=#[⟨.mark (Mark.extern f),false,true⟩]++gg) (X4:∀y∈gg,y.sync=true/\∀g,y.loc≠.mark (Mark.extern g)) :
  stepG P mn (Go.Conc.G (au b t (.inRegion ops (i::rest)::k)) cs) w=.go (Go.Conc.G (au b (put op t v) (.inRegion ops rest::k)) cs) w' gg:=
 let ⟨_,Ν⟩:=h.call
 Es h.kQ h.at_ (jX ο h.want) Ν (h.AQ.br ο) dS dy X4
abbrev n':θ:=.z (.tuple #[])
theorem V.disable (U:eR x) (h:gW P b ops i op f (λ_=>do mark .disable;pure Extern.Race.none_) args env [] nt) (χ:V P Q mn (one {x with deaf:=x.deaf+1}) b cs nt o (.inRegion ops rest::k) (ca op env n') σ):V P Q mn (one x) b cs nt o (.inRegion ops (i::rest)::k) env σ:=
 λS B H t ν ω y Ο=>by
 cases Ο;exact Goes.step U.ok (.inr ⟨⟨rfl,rfl⟩,.inr (.inl ⟨Go.Conc.G (au b (put op t (.tuple #[])) (.inRegion ops rest::k)) cs,⟨rfl,rfl⟩,.inl λw _=>
  ⟨h.step ω.b6 (Eu .disable) (Ev .disable _) (rm (by simp)),χ S B H _ ν (ω.put h.dst (.z _)) _ rfl⟩⟩)⟩)
theorem V.enable (U:eR x) (hd:0<x.deaf) (h:gW P b ops i op f (λ_=>do mark .enable;pure Extern.Race.none_) args env [] nt) (χ:V P Q mn (one {x with deaf:=x.deaf-1}) b cs nt o (.inRegion ops rest::k) (ca op env n') σ):V P Q mn (one x) b cs nt o (.inRegion ops (i::rest)::k) env σ:=
 λS B H t ν ω y Ο=>by
 cases Ο;exact Goes.step U.ok (.inr ⟨⟨rfl,rfl⟩,.inr (.inl ⟨Go.Conc.G (au b (put op t (.tuple #[])) (.inRegion ops rest::k)) cs,⟨rfl,rfl⟩,.inr ⟨hd,λw _=>
  ⟨h.step ω.b6 (Eu .enable) (Ev .enable _) (rm (by simp)),χ S B H _ ν (ω.put h.dst (.z _)) _ rfl⟩⟩⟩)⟩)
theorem V.X5 (U:x.rel=false) {s off n p:Nat} {ae:rT} (Ξ:x.tok s=.par n p ae) (g7:ae≠.bF) (h:gW P b ops i op f (Extern.Race.marked .read) args env [.pointer (some ⟨s,off,none⟩)] nt) (χ:V P Q mn (one x) b cs nt o (.inRegion ops rest::k) (ca op env n') σ):V P Q mn (one x) b cs nt o (.inRegion ops (i::rest)::k) env σ:=
 λS B H t ν ω y Ο=>by
 cases Ο;exact Goes.step (eR.ok (.inl U)) (.inr ⟨⟨rfl,rfl⟩,.inr (.inr (.inl ⟨s,n,p,ae,Go.Conc.G (au b (put op t (.tuple #[])) (.inRegion ops rest::k)) cs,off,false,Ξ,g7,U,⟨rfl,rfl⟩,λw _=>
  ⟨h.step ω.b6 (yl .read _) (ym .read _ _) (rm (by simp)),χ S B H _ ν (ω.put h.dst (.z _)) _ rfl⟩⟩))⟩)
theorem V.X6 (U:x.rel=false) {s off n p:Nat} {ae:rT} (Ξ:x.tok s=.par n p ae) (g7:ae≠.bF) (h:gW P b ops i op f (Extern.Race.marked .write) args env [.pointer (some ⟨s,off,none⟩)] nt) (χ:V P Q mn (one x) b cs nt o (.inRegion ops rest::k) (ca op env n') σ):V P Q mn (one x) b cs nt o (.inRegion ops (i::rest)::k) env σ:=
 λS B H t ν ω y Ο=>by
 cases Ο;exact Goes.step (eR.ok (.inl U)) (.inr ⟨⟨rfl,rfl⟩,.inr (.inr (.inl ⟨s,n,p,ae,Go.Conc.G (au b (put op t (.tuple #[])) (.inRegion ops rest::k)) cs,off,true,Ξ,g7,U,⟨rfl,rfl⟩,λw _=>
  ⟨h.step ω.b6 (yl .write _) (ym .write _ _) (rm (by simp)),χ S B H _ ν (ω.put h.dst (.z _)) _ rfl⟩⟩))⟩)
theorem V.Cu (U:x.rel=false) (hd:x.deaf=0) {s m n:Nat} {sp:Spec} (bX:x.spec s=some sp) (hm:sp.aT=some m) (Ξ:x.tok s=.ch n .own .work) (h:gW P b ops i op f (Extern.Race.marked .acquire) args env [.pointer (some ⟨m,0,none⟩)] nt)
  (χ:∀(S:aC) (B:aP) (H:ψ) (t:Array Value) (L:List Nat) (E:ψ),eJ o.m o.S o.B o.H o.σ S B H σ->ff o.m nt S B H σ (ca op env n') t->sp.aI L E->Apart H E->(L.Nodup/\n∉L/\∃w,Fits H w/\Fits E w)->
   cq P Q mn {x with tok:=upd x.tok s (.ch n (.dj L) .work),view:=upd x.view s none} (au b t (.inRegion ops rest::k)) cs (join H E)):V P Q mn (one x) b cs nt o (.inRegion ops (i::rest)::k) env σ:=
 λS B H t ν ω y Ο=>by
 cases Ο;exact Goes.step (eR.ok (.inl U)) (.inr ⟨⟨rfl,rfl⟩,.inr (.inr (.inr (.inr (.inl ⟨s,sp,m,n,Go.Conc.G (au b (put op t (.tuple #[])) (.inRegion ops rest::k)) cs,bX,hm,Ξ,hd,⟨rfl,rfl⟩,U,λw _=>
  h.step ω.b6 (yl .acquire _) (ym .acquire _ _) (rm (by simp)),λL E dn iG hw=>χ S B H _ L E ν (ω.put h.dst (.z _)) dn iG hw⟩))))⟩)
theorem V.Gw (U:x.rel=false) (hd:x.deaf=0) {s m n:Nat} {L:List Nat} {sp:Spec} (bX:x.spec s=some sp) (hm:sp.aT=some m) (Ξ:x.tok s=.ch n (.dj L) .work) (h:gW P b ops i op f (Extern.Race.marked .releaseMerge) args env [.pointer (some ⟨m,0,none⟩)] nt)
  (χ:∀(S:aC) (B:aP) (H:ψ) (t:Array Value),eJ o.m o.S o.B o.H o.σ S B H σ->ff o.m nt S B H σ (ca op env n') t->∃H' E,Split H H' E/\sp.aI (L++[n]) E/\
   cq P Q mn {x with tok:=upd x.tok s (.ch n .fin .work),view:=upd x.view s none} (au b t (.inRegion ops rest::k)) cs H'):V P Q mn (one x) b cs nt o (.inRegion ops (i::rest)::k) env σ:=
 λS B H t ν ω y Ο=>by
 cases Ο;obtain⟨H',E,J,γ,π⟩:=χ S B H _ ν (ω.put h.dst (.z (.tuple #[])));exact Goes.step (eR.ok (.inl U)) (.inr ⟨⟨rfl,rfl⟩,.inr (.inr (.inr (.inr (.inr (.inl ⟨s,sp,m,n,L,Go.Conc.G (au b (put op t (.tuple #[])) (.inRegion ops rest::k)) cs,H',E,bX,hm,Ξ,hd,⟨rfl,rfl⟩,U,λw _=>
  h.step ω.b6 (yl .releaseMerge _) (ym .releaseMerge _ _) (rm (by simp)),J,γ,π⟩)))))⟩)
theorem V.Cv (U:x.rel=false) (hd:x.deaf=0) {s n:Nat} {ae:rT} {sp:Spec} (bX:x.spec s=some sp) (Ξ:x.tok s=.par n 0 ae) (g7:ae=.lZ\/ae=.w4) (h:gW P b ops i op f (Extern.Race.marked .acquire) args env [.pointer (some ⟨s,0,none⟩)] nt)
  (χ:∀(S:aC) (B:aP) (H:ψ) (t:Array Value) (ga fw:List Nat) (gJ eB:ψ),eJ o.m o.S o.B o.H o.σ S B H σ->ff o.m nt S B H σ (ca op env n') t->
   ga.Perm (List.range n)->ll sp.D ga gJ->(sp.aT≠none->fw.Perm (List.range n)/\sp.aI fw eB)->(sp.aT=none->eB=ψ.empty)->Apart H gJ->Apart H eB->Apart gJ eB->(∃w,Fits H w/\Fits gJ w/\Fits eB w)->
   cq P Q mn {x with tok:=upd x.tok s (.par n 0 .bF),view:=upd x.view s none} (au b t (.inRegion ops rest::k)) cs (join (join H gJ) eB)):V P Q mn (one x) b cs nt o (.inRegion ops (i::rest)::k) env σ:=
 λS B H t ν ω y Ο=>by
 cases Ο;exact Goes.step (eR.ok (.inl U)) (.inr ⟨⟨rfl,rfl⟩,.inr (.inr (.inr (.inr (.inr (.inr (.inr (.inl ⟨s,sp,n,ae,Go.Conc.G (au b (put op t (.tuple #[])) (.inRegion ops rest::k)) cs,bX,Ξ,g7,hd,⟨rfl,rfl⟩,U,λw _=>
  h.step ω.b6 (yl .acquire _) (ym .acquire _ _) (rm (by simp)),λga fw gJ eB a1 ba cm fY hH l6 u' tn=>χ S B H _ ga fw gJ eB ν (ω.put h.dst (.z _)) a1 ba cm fY hH l6 u' tn⟩)))))))⟩)
theorem V.atomic (U:eR x) {s:Nat} {sp:Spec} (bX:x.spec s=some sp) (cQ:¬fO (x.tok s)) (hd:h2 nt op=true) (hw:fA env ops op=some true)
  (h:∀(t:Array Value) (w:World) (φ:Nat) (ς:aM),(∀y u,aO env y=.z u->br t y=u)->(∀(as9:Array Operand) (vs:List Value),AP env as9 vs->as9.map (br t)=vs.toArray)->Region.wanted op (yielded ops t)=true->ς.toSpec=sp->At s ς w->F6 x s φ ς->vc ς (x.tok s)->
   (∃v w' gg,stepG P mn (Go.Conc.G (au b t (.inRegion ops (i::rest)::k)) cs) w=.go (Go.Conc.G (au b (put op t v) (.inRegion ops rest::k)) cs) w' gg/\ft (λΦ _=>ei s sp Φ) (λ_=>False) w w'/\ow s sp x.deaf gg/\
    ((At s ς w'/\V P Q mn (one {x with view:=upd x.view s (some (φ,ς))}) b cs nt o (.inRegion ops rest::k) (ca op env (.z v)) σ)\/
     ∃o' t',Act ς (x.tok s) o' t'/\At s o' w'/\(mayWake P (Go.Conc.G (au b t (.inRegion ops (i::rest)::k)) cs)=true\/o'=ς)/\∀cn,cn<φ->V P Q mn (one {x with tok:=upd x.tok s t',view:=upd x.view s (some (cn,o'))}) b cs nt o (.inRegion ops rest::k) (ca op env (.z v)) σ))\/
   (jT ς (x.tok s)/\(∀bq,bq≠s->m1 (x.tok bq))/\stepG P mn (Go.Conc.G (au b t (.inRegion ops (i::rest)::k)) cs) w=.go {Go.Conc.G (au b t (.inRegion ops (i::rest)::k)) cs with status:=.blocked} w #[])) :
  V P Q mn (one x) b cs nt o (.inRegion ops (i::rest)::k) env σ:=by
 intro S B H t ν ω y Ο;cases Ο;refine Goes.step U.ok (.inr ⟨⟨rfl,rfl⟩,.inr (.inr (.inr (.inl ⟨s,sp,bX,cQ,λw φ ς Τ hv Γ bH zf Iv=>?_⟩)))⟩);rcases h t w φ ς (λy u Ο=>Et ω.b6 Ο) (λas9 vs kW=>kW.br ω.b6) (jX ω.b6 hw) Γ bH zf Iv with⟨v,w',gg,J,γ,π,Μ⟩|⟨J,γ,π⟩
 ·refine .inl ?_;rw[J];refine⟨⟨rfl,rfl⟩,γ,π,?_⟩;rcases Μ with⟨aB,bc⟩|⟨o',t',aB,bc,gR,nL⟩
  ·exact .inl ⟨aB,bc S B H _ ν (ω.put hd (.z _)) _ rfl⟩
  ·exact .inr ⟨o',t',aB,bc,gR,λcn et=>nL cn et S B H _ ν (ω.put hd (.z _)) _ rfl⟩
 ·exact .inr ⟨J,γ,π⟩
theorem Oh {cK off:Nat} {c:Array Value} {ty:TypeId} (hb:w.heap[cK]?=some (.cells c ty (0,0))) (v:Value) {own:Nat->Nat->Prop} (fQ:∀o,own cK o):ft own (λ_=>False) w (w.setCell ⟨cK,off,none⟩ v):=by
 have aS:=heap_setCell (w:=w) (a:=⟨cK,off,none⟩) (v:=v) rfl hb
 have aH:=fu hb
 have DQ:(w.setCell ⟨cK,off,none⟩ v).os=w.os:=rfl;refine⟨by rw[aS];simp,λΦ c' t' Me dG=>?_,λΦ y dG Ο _=>?_,by rw[DQ];exact OsLater.refl _,rfl,rfl⟩
 ·by_cases e:Φ=cK
  ·subst e;rw[hb] at dG;cases dG;exact⟨_,by rw[aS,Array.getElem?_setIfInBounds_self_of_lt aH],by simp,λo' jx=>absurd (fQ o') jx⟩
  ·exact⟨c',by rw[aS,Array.getElem?_setIfInBounds_ne (Ne.symm e)];exact dG,rfl,λ_ _=>rfl⟩
 ·have e:cK≠Φ:=λe=>by subst e;rw[hb] at dG;cases dG;cases Ο
  rw[aS,Array.getElem?_setIfInBounds_ne e];exact dG
section
variable {s m:Nat} {ς o':aM}
theorem At.ne (h:At s ς w) (hm:ς.aT=some m):m≠s:=λe=>by
 obtain⟨⟨ty,J⟩,γ⟩:=h;obtain⟨js,π⟩:=γ m hm;subst e;rw[J] at π;simp at π
theorem At.mu (h:At s ς w) (hm:ς.aT=some m):∃ty,w.heap[m]?=some (.cells #[.int .i32 (mwd ς),.int .u32 ς.c0] ty (0,0)):=h.2 m hm
theorem At.dE (h:At s ς w) (hm:ς.aT=some m):w.cell? ⟨m,0,none⟩=some (.int .i32 (mwd ς)):=let ⟨_,J⟩:=h.mu hm;nG J rfl
theorem At.eU (h:At s ς w) (hm:ς.aT=some m):w.cell? ⟨m,1,none⟩=some (.int .u32 ς.c0):=let ⟨_,J⟩:=h.mu hm;nG J rfl
theorem At.cP (h:At s ς w):w.cell? ⟨s,0,none⟩=some (.int .u64 (cN ς)):=let ⟨_,J⟩:=h.1;nG J rfl
theorem At.Ρ (h:At s ς w):w.cell? ⟨s,1,none⟩=some (.int .u32 ς.cH):=let ⟨_,J⟩:=h.1;nG J rfl
theorem Oi {cK off:Nat} {c:Array Value} {ty:TypeId} (hb:w.heap[cK]?=some (.cells c ty (0,0))):w.frozen? ⟨cK,off,none⟩=false:=by
 simp[World.frozen?,hb]
theorem At.yn (h:At s ς w) (hm:ς.aT=some m) (off:Nat):w.frozen? ⟨m,off,none⟩=false:=let ⟨_,J⟩:=h.mu hm;Oi J
theorem At.uC (h:At s ς w) (off:Nat):w.frozen? ⟨s,off,none⟩=false:=let ⟨_,J⟩:=h.1;Oi J
theorem At.Ew (h:At s ς w) (hm:ς.aT=some m) (df:o'.aT=ς.aT) (Υ:cN o'=cN ς) (hw:o'.cH=ς.cH) {off:Nat} {v:Value} (hv:(#[.int .i32 (mwd ς),.int .u32 ς.c0]:Array Value).setIfInBounds off v=#[.int .i32 (mwd o'),.int .u32 o'.c0]):At s o' (w.setCell ⟨m,off,none⟩ v):=by
 have bw:=h.ne hm;obtain⟨js,π⟩:=h.mu hm;obtain⟨⟨ty,J⟩,γ⟩:=h;have aS:=heap_setCell (w:=w) (a:=⟨m,off,none⟩) (v:=v) rfl π;refine⟨⟨ty,?_⟩,λb2 iz=>⟨js,?_⟩⟩
 ·rw[aS,Array.getElem?_setIfInBounds_ne bw,Υ,hw];exact J
 ·rw[df,hm] at iz;cases iz;rw[aS,Array.getElem?_setIfInBounds_self_of_lt (fu π),hv]
theorem At.yo (h:At s ς w) (df:o'.aT=ς.aT) (Υ:mwd o'=mwd ς) (hw:o'.c0=ς.c0) {off:Nat} {v:Value} (hv:(#[.int .u64 (cN ς),.int .u32 ς.cH]:Array Value).setIfInBounds off v=#[.int .u64 (cN o'),.int .u32 o'.cH]):At s o' (w.setCell ⟨s,off,none⟩ v):=by
 have bw:=λm hm=>h.ne (m:=m) hm;obtain⟨⟨ty,J⟩,γ⟩:=h;have aS:=heap_setCell (w:=w) (a:=⟨s,off,none⟩) (v:=v) rfl J;refine⟨⟨ty,?_⟩,λb2 iz=>?_⟩
 ·rw[aS,Array.getElem?_setIfInBounds_self_of_lt (fu J),hv]
 ·rw[df] at iz;obtain⟨js,π⟩:=γ b2 iz;exact⟨js,by rw[aS,Array.getElem?_setIfInBounds_ne (Ne.symm (bw b2 iz)),Υ,hw];exact π⟩
theorem At.Ex (h:At s ς w) (hm:ς.aT=some m) {sp:Spec} (ο:sp.aT=some m) {off:Nat} (v:Value):ft (λΦ _=>ei s sp Φ) (λ_=>False) w (w.setCell ⟨m,off,none⟩ v):=
 let ⟨_,J⟩:=h.mu hm;Oh J v λ_=>.inr ο
theorem At.yp (h:At s ς w) {sp:Spec} {off:Nat} (v:Value):ft (λΦ _=>ei s sp Φ) (λ_=>False) w (w.setCell ⟨s,off,none⟩ v):=
 let ⟨_,J⟩:=h.1;Oh J v λ_=>.inl rfl
end
theorem Oj {s d:Nat} {sp:Spec}:ow s sp d #[]:=⟨rfl,λj e h=>by simp at h⟩
theorem rn {s cK off d:Nat} {sp:Spec} {es:Array Event} (hb:ei s sp cK) (hd:0<d) (ο:∀y∈es,y.loc=.cell ⟨cK,off,none⟩/\y.sync=true):ow s sp d es:=by
 have tH:∀(es:Array Event),(∀y∈es,y.loc=.cell ⟨cK,off,none⟩/\y.sync=true)->deafBehind d es=d:=by
  intro es;obtain⟨l⟩:=es;intro h;unfold deafBehind;simp only[List.foldl_toArray']
  induction l with
  | nil=>rfl
  | cons y l Δ=>
   simp only[List.foldl_cons];have:=h y (by simp);rw[this.1];exact Δ λz Η=>h z (by simp at Η ⊢;exact .inr Η)
 refine⟨tH es ο,λj y Ο=>.inr (.inr ⟨cK,off,y.write,?_,hb,?_⟩)⟩
 ·have:=ο y (Array.mem_of_getElem? Ο);obtain⟨l,w1,s1⟩:=y;simp only at this;rw[this.1,this.2]
 ·rw[tH]
  ·exact hd
  ·intro z Η;exact ο z (by
    rw[Array.mem_iff_getElem?] at Η ⊢;obtain⟨q,Χ⟩:=Η;rw[Array.getElem?_extract] at Χ;split at Χ
    ·exact⟨_,Χ⟩
    ·cases Χ)
end
end Go.TL
namespace Go.TL
open Go.Conc
open Go.ConcM (OsLater)
open Go.ConcN (sumTo upd sumTo_upd upd_ne upd_same sumTo_congr le_sumTo)
variable [bn]
section
variable {P:Program} {Q:Value->Prop} {mn:Bool} {x:aU} {b:Frame} {cs:List Frame} {nt:Nat} {o:Base} {k:List Item} {env:Ω} {σ:List Row}
variable {ops:Array Oper} {i:Nat} {rest:List Nat} {op:Oper} {f:FuncId} {e:Array Value->Sem Value} {args:Array Operand} {vs:List Value}
def h8 (P:Program) (Q:Value->Prop) (mn:Bool) (x:aU) (b:Frame) (cs:List Frame) (nt:Nat) (o:Base) (ops:Array Oper) (rest:List Nat) (k:List Item) (op:Oper) (env:Ω) (σ:List Row) (s φ:Nat) (ς:aM) (v:Value):Prop:=
 V P Q mn (one {x with view:=upd x.view s (some (φ,ς))}) b cs nt o (.inRegion ops rest::k) (ca op env (.z v)) σ
def p9 (P:Program) (Q:Value->Prop) (mn:Bool) (x:aU) (b:Frame) (cs:List Frame) (nt:Nat) (o:Base) (ops:Array Oper) (rest:List Nat) (k:List Item) (op:Oper) (env:Ω) (σ:List Row) (s φ:Nat) (ς:aM) (v:Value) (o':aM) (t':Tok):Prop:=
 Act ς (x.tok s) o' t'/\∀cn,cn<φ->V P Q mn (one {x with tok:=upd x.tok s t',view:=upd x.view s (some (cn,o'))}) b cs nt o (.inRegion ops rest::k) (ca op env (.z v)) σ
structure Seen (x:aU) (s:Nat) (sp:Spec) (φ:Nat) (ς:aM):Prop where
 spec:ς.toSpec=sp
 view:F6 x s φ ς
 jf:vc ς (x.tok s)
theorem V.ext (U:eR x) {s:Nat} {sp:Spec} (bX:x.spec s=some sp) (cQ:¬fO (x.tok s)) (h:gW P b ops i op f e args env vs nt)
  (aS:∀(w:World) (φ:Nat) (ς:aM),Seen x s sp φ ς->At s ς w->
   (∃v w' gg,(e vs.toArray).run P w=.ok v w'/\(e vs.toArray).events P w #[⟨.mark (Mark.extern f),false,true⟩]=#[⟨.mark (Mark.extern f),false,true⟩]++gg/\(∀y∈gg,y.sync=true/\∀g,y.loc≠.mark (Mark.extern g))/\
    ft (λΦ _=>ei s sp Φ) (λ_=>False) w w'/\ow s sp x.deaf gg/\
    ((At s ς w'/\h8 P Q mn x b cs nt o ops rest k op env σ s φ ς v)\/∃o' t',At s o' w'/\p9 P Q mn x b cs nt o ops rest k op env σ s φ ς v o' t'))\/
   (jT ς (x.tok s)/\(∀bq,bq≠s->m1 (x.tok bq))/\(e vs.toArray).run P w=.halt .blocked w)) :
  V P Q mn (one x) b cs nt o (.inRegion ops (i::rest)::k) env σ:=by
 obtain⟨dW,Ν⟩:=h.call;refine .atomic U bX cQ h.dst h.want λt w φ ς _ kW hw J γ π Μ=>?_;rcases aS w φ ς ⟨J,π,Μ⟩ γ with⟨v,w',gg,a1,ba,cm,fY,hH,l6⟩|⟨a1,ba,cm⟩
 ·refine .inl ⟨v,w',gg,Es h.kQ h.at_ hw Ν (kW _ _ h.AQ) a1 ba cm,fY,hH,l6.imp id λ⟨o',t',bP,dw,fN⟩=>⟨o',t',dw,bP,.inl (Of h.kQ h.at_ Ν),fN⟩⟩
 ·exact .inr ⟨a1,ba,X3 h.kQ h.at_ hw Ν (kW _ _ h.AQ) cm⟩
theorem rp (cx:Addr):∀y∈(#[⟨.cell cx,false,true⟩,⟨.cell cx,true,true⟩]:Array Event),y.loc=.cell cx/\y.sync=true:=by
 intro y Ο;simp at Ο;rcases Ο with rfl|rfl<;>exact⟨rfl,rfl⟩
theorem rq (cx:Addr) (wr:Bool):∀y∈(#[⟨.cell cx,wr,true⟩]:Array Event),y.loc=.cell cx/\y.sync=true:=by
 intro y Ο;simp at Ο;subst Ο;exact⟨rfl,rfl⟩
theorem rr {cx:Addr} {es:Array Event} (h:∀y∈es,y.loc=.cell cx/\y.sync=true):∀y∈es,y.sync=true/\∀g,y.loc≠.mark (Mark.extern g):=λy Ο=>⟨(h y Ο).2,λg e=>by rw[(h y Ο).1] at e;cases e⟩
structure yq (ς o':aM):Prop where
 aT:o'.aT=ς.aT
 g:cN o'=cN ς
 w:o'.cH=ς.cH
structure ru (ς o':aM):Prop where
 aT:o'.aT=ς.aT
 g:mwd o'=mwd ς
 w:o'.c0=ς.c0
section
variable {s m:Nat} {sp:Spec} (U:eR x) (hd:0<x.deaf) (bX:x.spec s=some sp) (cQ:¬fO (x.tok s))
include U hd bX cQ
theorem V.Ey (hm:sp.aT=some m) {old new:Int} (h:gW P b ops i op f (Extern.Atomic.casT (.int .i32)) args env [.pointer (some ⟨m,0,none⟩),.int .i32 old,.int .i32 new] nt)
  (AR:∀φ ς,Seen x s sp φ ς->¬mwd ς=old->h8 P Q mn x b cs nt o ops rest k op env σ s φ ς (.bool false)\/∃t',p9 P Q mn x b cs nt o ops rest k op env σ s φ ς (.bool false) ς t')
  (dq:∀φ ς,Seen x s sp φ ς->mwd ς=old->∃o' t',mwd o'=new/\o'.c0=ς.c0/\yq ς o'/\p9 P Q mn x b cs nt o ops rest k op env σ s φ ς (.bool true) o' t') :
  V P Q mn (one x) b cs nt o (.inRegion ops (i::rest)::k) env σ:=by
 refine .ext U bX cQ h λw φ ς ο bH=>.inl ?_;have df:ς.aT=some m:=by rw[ο.spec];exact hm
 have ζ:=bH.dE df
 have Η:=bH.yn df 0;by_cases hv:mwd ς=old
 ·obtain⟨o',t',J,γ,π,Μ⟩:=dq φ ς ο hv;subst hv;refine⟨.bool true,_,_,(congrArg (Sem.run P · w) (casT_eq _ _)).trans (run_cas_hit_entry ζ Η),?_,rr (rp ⟨m,0,none⟩),bH.Ex df hm _,rn (.inr hm) hd (rp ⟨m,0,none⟩),.inr ⟨o',t',bH.Ew df π.aT π.g π.w ?_,Μ⟩⟩
  ·exact(congrArg (Sem.events P · w _) (casT_eq _ _)).trans ((events_cas_hit_entry ζ Η _).trans rfl)
  ·rw[J,γ];rfl
 ·refine⟨.bool false,w,_,(congrArg (Sem.run P · w) (casT_eq _ _)).trans (run_cas_miss_entry ζ Η hv),?_,rr (rq ⟨m,0,none⟩ false),ft.refl _ _ _,rn (.inr hm) hd (rq ⟨m,0,none⟩ false),?_⟩
  ·exact(congrArg (Sem.events P · w _) (casT_eq _ _)).trans ((events_cas_miss_entry ζ Η hv _).trans rfl)
  ·exact(AR φ ς ο hv).imp (λh=>⟨bH,h⟩) λ⟨t',h⟩=>⟨ς,t',bH,h⟩
theorem V.Ol (hm:sp.aT=some m) {d:Int} (h:gW P b ops i op f (Extern.Atomic.update (Op.intArith .add) .i32 true) args env [.pointer (some ⟨m,0,none⟩),.int .i32 d] nt)
  (dq:∀φ ς,Seen x s sp φ ς->∃o' t',mwd o'=IntKind.i32.wrap (mwd ς+d)/\o'.c0=ς.c0/\yq ς o'/\p9 P Q mn x b cs nt o ops rest k op env σ s φ ς (.int .i32 (mwd o')) o' t') :
  V P Q mn (one x) b cs nt o (.inRegion ops (i::rest)::k) env σ:=by
 refine .ext U bX cQ h λw φ ς ο bH=>.inl ?_;have df:ς.aT=some m:=by rw[ο.spec];exact hm
 have ζ:=bH.dE df
 have Η:=bH.yn df 0;obtain⟨o',t',J,γ,π,Μ⟩:=dq φ ς ο;rw[J] at Μ;refine⟨_,_,_,run_add_entry ζ Η,(events_add_entry ζ Η _).trans rfl,rr (rp ⟨m,0,none⟩),bH.Ex df hm _,rn (.inr hm) hd (rp ⟨m,0,none⟩),.inr ⟨o',t',bH.Ew df π.aT π.g π.w ?_,Μ⟩⟩;rw[J,γ];rfl
theorem V.Iw (h:gW P b ops i op f (Extern.Atomic.loadT (.int .u64)) args env [.pointer (some ⟨s,0,none⟩)] nt)
  (dq:∀φ ς,Seen x s sp φ ς->h8 P Q mn x b cs nt o ops rest k op env σ s φ ς (.int .u64 (cN ς))\/∃t',p9 P Q mn x b cs nt o ops rest k op env σ s φ ς (.int .u64 (cN ς)) ς t') :
  V P Q mn (one x) b cs nt o (.inRegion ops (i::rest)::k) env σ:=by
 refine .ext U bX cQ h λw φ ς ο bH=>.inl ?_;have ζ:=bH.cP;refine⟨.int .u64 (cN ς),w,#[⟨.cell ⟨s,0,none⟩,false,true⟩],?_,?_,rr (rq _ false),ft.refl _ _ _,rn (.inl rfl) hd (rq _ false),(dq φ ς ο).imp (λh=>⟨bH,h⟩) λ⟨t',h⟩=>⟨ς,t',bH,h⟩⟩
 ·change Sem.run P (do Extern.Atomic.read (.int .u64) (<-asAddr (.pointer (some _)))) w=_;simp[Extern.Atomic.read,asAddr,ζ]
 ·change Sem.events P (do Extern.Atomic.read (.int .u64) (<-asAddr (.pointer (some _)))) w _=_;simp[Extern.Atomic.read,asAddr,ζ,events_load]
theorem V.X7 {old new:Int} (h:gW P b ops i op f (Extern.Atomic.casT (.int .u64)) args env [.pointer (some ⟨s,0,none⟩),.int .u64 old,.int .u64 new] nt)
  (AR:∀φ ς,Seen x s sp φ ς->¬cN ς=old->h8 P Q mn x b cs nt o ops rest k op env σ s φ ς (.bool false))
  (dq:∀φ ς,Seen x s sp φ ς->cN ς=old->∃o' t',cN o'=new/\o'.cH=ς.cH/\ru ς o'/\p9 P Q mn x b cs nt o ops rest k op env σ s φ ς (.bool true) o' t') :
  V P Q mn (one x) b cs nt o (.inRegion ops (i::rest)::k) env σ:=by
 refine .ext U bX cQ h λw φ ς ο bH=>.inl ?_;have ζ:=bH.cP;have Η:=bH.uC 0;by_cases hv:cN ς=old
 ·obtain⟨o',t',J,γ,π,Μ⟩:=dq φ ς ο hv;subst hv;refine⟨.bool true,_,_,(congrArg (Sem.run P · w) (casT_eq _ _)).trans (run_cas_hit_entry ζ Η),?_,rr (rp ⟨s,0,none⟩),bH.yp _,rn (.inl rfl) hd (rp ⟨s,0,none⟩),.inr ⟨o',t',bH.yo π.aT π.g π.w ?_,Μ⟩⟩
  ·exact(congrArg (Sem.events P · w _) (casT_eq _ _)).trans ((events_cas_hit_entry ζ Η _).trans rfl)
  ·rw[J,γ];rfl
 ·refine⟨.bool false,w,_,(congrArg (Sem.run P · w) (casT_eq _ _)).trans (run_cas_miss_entry ζ Η hv),?_,rr (rq ⟨s,0,none⟩ false),ft.refl _ _ _,rn (.inl rfl) hd (rq ⟨s,0,none⟩ false),.inl ⟨bH,AR φ ς ο hv⟩⟩;exact(congrArg (Sem.events P · w _) (casT_eq _ _)).trans ((events_cas_miss_entry ζ Η hv _).trans rfl)
theorem V.Ix {d:Int} (h:gW P b ops i op f (Extern.Atomic.update (Op.intArith .add) .u64 true) args env [.pointer (some ⟨s,0,none⟩),.int .u64 d] nt)
  (dq:∀φ ς,Seen x s sp φ ς->∃o' t',cN o'=IntKind.u64.wrap (cN ς+d)/\o'.cH=ς.cH/\ru ς o'/\p9 P Q mn x b cs nt o ops rest k op env σ s φ ς (.int .u64 (cN o')) o' t') :
  V P Q mn (one x) b cs nt o (.inRegion ops (i::rest)::k) env σ:=by
 refine .ext U bX cQ h λw φ ς ο bH=>.inl ?_;have ζ:=bH.cP;have Η:=bH.uC 0;obtain⟨o',t',J,γ,π,Μ⟩:=dq φ ς ο;rw[J] at Μ;refine⟨_,_,_,run_add_entry ζ Η,(events_add_entry ζ Η _).trans rfl,rr (rp ⟨s,0,none⟩),bH.yp _,rn (.inl rfl) hd (rp ⟨s,0,none⟩),.inr ⟨o',t',bH.yo π.aT π.g π.w ?_,Μ⟩⟩;rw[J,γ];rfl
end
theorem Om {w:World} {cx:Addr} {n:Int} {vs:List Value} (U:vs[0]?=some (.pointer (some cx))) (ζ:w.cell? cx=some (.int .u32 n)) (qW:n≠0) (Η:w.frozen? cx=false):(Extern.Sync.semacquire vs.toArray).run P w=.ok (.tuple #[]) (w.setCell cx (.int .u32 (n-1))):=by
 simp[Extern.Sync.semacquire,Extern.Sync.count,U,ζ,qW,Η,Extern.Sync.none_,run_store P w cx (.int .u32 (n-1)) .atomic rfl,Result.andThen]
theorem On {w:World} {cx:Addr} {n:Int} {vs:List Value} (U:vs[0]?=some (.pointer (some cx))) (ζ:w.cell? cx=some (.int .u32 n)) (qW:n≠0) (Η:w.frozen? cx=false) (es:Array Event):(Extern.Sync.semacquire vs.toArray).events P w es=es++semEvents cx:=by
 simp[Extern.Sync.semacquire,Extern.Sync.count,U,ζ,qW,Η,semEvents,events_load,events_store P w _ cx (.int .u32 (n-1)) .atomic rfl,run_store P w cx (.int .u32 (n-1)) .atomic rfl,Result.evThen];apply Array.ext';simp
theorem Oo {w:World} {cx:Addr} {vs:List Value} (U:vs[0]?=some (.pointer (some cx))) (ζ:w.cell? cx=some (.int .u32 0)):(Extern.Sync.semacquire vs.toArray).run P w=.halt .blocked w:=by
 simp[Extern.Sync.semacquire,Extern.Sync.count,U,ζ]
theorem Oq {w:World} {cx:Addr} {n:Int} {vs:List Value} (U:vs[0]?=some (.pointer (some cx))) (ζ:w.cell? cx=some (.int .u32 n)) (Η:w.frozen? cx=false):(Extern.Sync.semrelease vs.toArray).run P w=.ok (.tuple #[]) (w.setCell cx (.int .u32 (IntKind.u32.wrap (n+1)))):=by
 simp[Extern.Sync.semrelease,Extern.Sync.count,U,ζ,Η,Extern.Sync.none_,Op.intArith,run_store P w cx (.int .u32 (IntKind.u32.wrap (n+1))) .atomic rfl,Result.andThen]
theorem Ot {w:World} {cx:Addr} {n:Int} {vs:List Value} (U:vs[0]?=some (.pointer (some cx))) (ζ:w.cell? cx=some (.int .u32 n)) (Η:w.frozen? cx=false) (es:Array Event):(Extern.Sync.semrelease vs.toArray).events P w es=es++semEvents cx:=by
 simp[Extern.Sync.semrelease,Extern.Sync.count,U,ζ,Η,semEvents,Op.intArith,events_load,events_store P w _ cx (.int .u32 (IntKind.u32.wrap (n+1))) .atomic rfl,run_store P w cx (.int .u32 (IntKind.u32.wrap (n+1))) .atomic rfl,Result.evThen];apply Array.ext';simp
theorem Ez {s cK off d:Nat} {sp:Spec} (hb:ei s sp cK):ow s sp d (semEvents ⟨cK,off,none⟩):=by
 refine⟨by simp[deafBehind,semEvents],λj y Ο=>?_⟩
 match j,Ο with
 | 0,Ο=>simp[semEvents] at Ο;subst Ο;exact .inl rfl
 | 1,Ο=>simp[semEvents] at Ο;subst Ο;exact .inr (.inr ⟨cK,off,false,rfl,hb,by simp[semEvents,deafBehind]⟩)
 | 2,Ο=>simp[semEvents] at Ο;subst Ο;exact .inr (.inr ⟨cK,off,true,rfl,hb,by simp[semEvents,deafBehind]⟩)
 | 3,Ο=>simp[semEvents] at Ο;subst Ο;exact .inr (.inl rfl)
 | j+4,Ο=>simp[semEvents] at Ο
section
variable {s m:Nat} {sp:Spec} (U:eR x) (bX:x.spec s=some sp) (cQ:¬fO (x.tok s))
include U bX cQ
theorem V.X8 (hm:sp.aT=some m) (ah:vs[0]?=some (.pointer (some ⟨m,1,none⟩))) (cE:∀bq,bq≠s->m1 (x.tok bq)) (h:gW P b ops i op f Extern.Sync.semacquire args env vs nt)
  (wait:∀φ ς,Seen x s sp φ ς->ς.c0=0->jT ς (x.tok s))
  (dq:∀φ ς,Seen x s sp φ ς->0<ς.c0->∃o' t',mwd o'=mwd ς/\o'.c0=ς.c0-1/\yq ς o'/\p9 P Q mn x b cs nt o ops rest k op env σ s φ ς (.tuple #[]) o' t') :
  V P Q mn (one x) b cs nt o (.inRegion ops (i::rest)::k) env σ:=by
 refine .ext U bX cQ h λw φ ς ο bH=>?_;have df:ς.aT=some m:=by rw[ο.spec];exact hm
 have ζ:=bH.eU df;by_cases hv:ς.c0=0
 ·exact .inr ⟨wait φ ς ο hv,cE,Oo ah (by rw[ζ,hv];rfl)⟩
 ·obtain⟨o',t',J,γ,π,Μ⟩:=dq φ ς ο (by omega);have Ι:((ς.c0:Nat):Int)≠0:=by omega
  refine .inl ⟨_,_,_,Om ah ζ Ι (bH.yn df 1),On ah ζ Ι (bH.yn df 1) _,semEvents_sync _,bH.Ex df hm _,Ez (.inr hm),.inr ⟨o',t',bH.Ew df π.aT π.g π.w ?_,Μ⟩⟩;rw[J,γ,show((ς.c0:Nat):Int)-1=((ς.c0-1:Nat):Int) by omega];rfl
theorem V.X9 (ah:vs[0]?=some (.pointer (some ⟨s,1,none⟩))) (cE:∀bq,bq≠s->m1 (x.tok bq)) (h:gW P b ops i op f Extern.Sync.semacquire args env vs nt)
  (wait:∀φ ς,Seen x s sp φ ς->ς.cH=0->jT ς (x.tok s))
  (dq:∀φ ς,Seen x s sp φ ς->0<ς.cH->∃o' t',cN o'=cN ς/\o'.cH=ς.cH-1/\ru ς o'/\p9 P Q mn x b cs nt o ops rest k op env σ s φ ς (.tuple #[]) o' t') :
  V P Q mn (one x) b cs nt o (.inRegion ops (i::rest)::k) env σ:=by
 refine .ext U bX cQ h λw φ ς ο bH=>?_;have ζ:=bH.Ρ;by_cases hv:ς.cH=0
 ·exact .inr ⟨wait φ ς ο hv,cE,Oo ah (by rw[ζ,hv];rfl)⟩
 ·obtain⟨o',t',J,γ,π,Μ⟩:=dq φ ς ο (by omega);have Ι:((ς.cH:Nat):Int)≠0:=by omega
  refine .inl ⟨_,_,_,Om ah ζ Ι (bH.uC 1),On ah ζ Ι (bH.uC 1) _,semEvents_sync _,bH.yp _,Ez (.inl rfl),.inr ⟨o',t',bH.yo π.aT π.g π.w ?_,Μ⟩⟩;rw[J,γ,show((ς.cH:Nat):Int)-1=((ς.cH-1:Nat):Int) by omega];rfl
theorem V.Ou (hm:sp.aT=some m) (ah:vs[0]?=some (.pointer (some ⟨m,1,none⟩))) (h:gW P b ops i op f Extern.Sync.semrelease args env vs nt)
  (dq:∀φ ς,Seen x s sp φ ς->ς.c0<1000/\∃o' t',mwd o'=mwd ς/\o'.c0=ς.c0+1/\yq ς o'/\p9 P Q mn x b cs nt o ops rest k op env σ s φ ς (.tuple #[]) o' t') :
  V P Q mn (one x) b cs nt o (.inRegion ops (i::rest)::k) env σ:=by
 refine .ext U bX cQ h λw φ ς ο bH=>.inl ?_;have df:ς.aT=some m:=by rw[ο.spec];exact hm
 have ζ:=bH.eU df;obtain⟨aH,o',t',J,γ,π,Μ⟩:=dq φ ς ο;refine⟨_,_,_,Oq ah ζ (bH.yn df 1),Ot ah ζ (bH.yn df 1) _,semEvents_sync _,bH.Ex df hm _,Ez (.inr hm),.inr ⟨o',t',bH.Ew df π.aT π.g π.w ?_,Μ⟩⟩;rw[J,γ,show IntKind.u32.wrap (((ς.c0:Nat):Int)+1)=((ς.c0+1:Nat):Int) by simp only[IntKind.wrap_u32];omega];rfl
end
end
end Go.TL
