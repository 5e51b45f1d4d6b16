import Derived.Conc.AtomicLaws2
import Derived.Conc.ClockLaws
import Derived.Conc.MarkLaws
import Derived.Test.YtlabjopijpkiaaaGreatSAR
import Derived.Test.YtlabjopijpkiaaaGreatSAS
set_option maxHeartbeats 16000000
set_option maxRecDepth 20000
set_option linter.unusedSectionVars false
set_option linter.unusedSimpArgs false
set_option linter.unusedVariables false
namespace Go.TL
open Go.Proofs
variable [bm]
abbrev uC (k:List Int):θ:=.aS (k.map R)
abbrev ps (e:List Int×Int):θ×θ:=(uC e.1,R e.2)
def Ay (m:List (List Int×Int)):Prop:=∀e∈m,e.1.length=4
theorem Y5 (x y:List Int) (U:x.length=4) (Ξ:y.length=4):aeqv a6 157 (uC x) (uC y)=some (decide (x=y)):=by
 match x,U,y,Ξ with
 | [a,b,c,d],_,[b1,Χ,c',ef],_=>
  simp[aeqv,jD,mD,Bool.eq_iff_iff]
def hJ:List (List Int×Int)->List Int->Int->List (List Int×Int)
 | [],k,v=>[(k,v)]
 | e::r,k,v=>if k=e.1 then(k,v)::r else e::hJ r k v
def k2:List (List Int×Int)->List Int->Option Int
 | [],_=>none
 | e::r,k=>if k=e.1 then some e.2 else k2 r k
theorem Y6 (k:List Int) (χ:k.length=4):∀(m:List (List Int×Int)) (d:Nat),Ay m->(hF a6 157 (uC k) (m.map ps) d=some none/\k2 m k=none/\∀v,hJ m k v=m++[(k,v)])\/
  ∃i x,i<m.length/\hF a6 157 (uC k) (m.map ps) d=some (some (d+i,R x))/\k2 m k=some x/\∀v,hJ m k v=m.set i (k,v):=by
 intro m
 induction m with
 | nil=>intro d _;exact .inl ⟨rfl,rfl,λ_=>rfl⟩
 | cons e r Δ=>
  intro d Μ;have Ρ:=Y5 k e.1 χ (Μ e (by simp));by_cases h:k=e.1
  ·refine .inr ⟨0,e.2,by simp,?_,by simp[k2,h],λv=>by simp[hJ,h]⟩;simp only[List.map_cons,hF,Ρ];simp[h]
  ·have hb:decide (k=e.1)=false:=by simpa using h
   rcases Δ (d+1) (λx U=>Μ x (by simp[U])) with⟨J,γ,π⟩|⟨i,x,J,γ,π,aA⟩
   ·refine .inl ⟨?_,by simp[k2,h,γ],λv=>by simp[hJ,h,π]⟩;simp only[List.map_cons,hF,Ρ,hb,cond_false];exact J
   ·refine .inr ⟨i+1,x,by simp;omega,?_,by simp[k2,h,π],λv=>by simp[hJ,h,aA]⟩;simp only[List.map_cons,hF,Ρ,hb,cond_false];rw[γ];have:d+1+i=d+(i+1):=by omega
    rw[this]
theorem OR {m:List (List Int×Int)} (h:Ay m) {k:List Int} (χ:k.length=4) (v:Int):Ay (hJ m k v):=by
 induction m with
 | nil=>intro e he;simp[hJ] at he;subst he;exact χ
 | cons a r Δ=>
  intro e he;unfold hJ at he;split at he
  ·rcases List.mem_cons.1 he with rfl|he
   ·exact χ
   ·exact h e (by simp[he])
  ·rcases List.mem_cons.1 he with rfl|he
   ·exact h _ (by simp)
   ·exact Δ (λx U=>h x (by simp[U])) e he
def kC (s:aL) (p r:Int×Int) (L:List Nat) (k:Nat):List Int:=((L.take k).map λx=>s.di p r x)++List.replicate (4-k) 0
theorem OS {s:aL} {p r:Int×Int} {L:List Nat} {k:Nat} (χ:k<=L.length) (Μ:L.length<=4):(kC s p r L k).length=4:=by simp[kC];omega
theorem Y7 {s:aL} {p r:Int×Int} {L:List Nat} {k:Nat} (χ:k<L.length) (Μ:L.length<=4):(kC s p r L k).take k++s.di p r L[k]::(kC s p r L k).drop (k+1)=kC s p r L (k+1):=by
 have Ζ:((L.take k).map λx=>s.di p r x).length=k:=by simp;omega
 have Ε:4-k=(4-(k+1))+1:=by omega
 unfold kC;rw[List.take_left' Ζ,List.drop_append,List.drop_eq_nil_of_le (by omega),Ζ,List.take_succ_eq_append_getElem χ,List.map_append,Ε,List.replicate_succ];have aY:k+1-k=1:=by omega
 rw[aY];simp
abbrev wz:=Option (List (List Int×Int))
def mS (m:wz) (k:List Int) (v:Int):wz:=m.bind λm=>match k2 m k with|some x=>if x=v then some (hJ m k v) else none|none=>some (hJ m k v)
def k3 (s:aL) (f:Found) (cell:Nat) (lower:Bool) (L:List Nat) (m:wz) (j:Nat):wz:=(((f.cells[cell]?).getD []).take j).foldl (λm r=>mS m (kC s (f.u,f.v) r L L.length) (mQ lower r)) m
def rA (s:aL) (F:List Found) (cell:Nat) (lower:Bool) (L:List Nat) (i:Nat):wz:=(F.take i).foldl (λm f=>k3 s f cell lower L m ((f.cells[cell]?).getD []).length) (some [])
def lX (s:aL) (F:List Found) (cell:Nat) (lower:Bool) (L:List Nat):Bool:=(rA s F cell lower L F.length).isSome
theorem Y8 (s:aL) (f:Found) (cell:Nat) (lower:Bool) (L:List Nat) (m:wz) (j:Nat) (h:j<((f.cells[cell]?).getD []).length):k3 s f cell lower L m (j+1)=mS (k3 s f cell lower L m j) (kC s (f.u,f.v) ((f.cells[cell]?).getD [])[j] L L.length) (mQ lower ((f.cells[cell]?).getD [])[j]):=by
 unfold k3;rw[List.take_succ_eq_append_getElem h,List.foldl_append];rfl
theorem OT (s:aL) (F:List Found) (cell:Nat) (lower:Bool) (L:List Nat) (i:Nat) (h:i<F.length):rA s F cell lower L (i+1)=k3 s F[i] cell lower L (rA s F cell lower L i) ((F[i].cells[cell]?).getD []).length:=by
 unfold rA;rw[List.take_succ_eq_append_getElem h,List.foldl_append];rfl
theorem OU (l:List (Int×Int)) (k:(Int×Int)->List Int) (v:Int×Int->Int):l.foldl (λm r=>mS m (k r) (v r)) none=none:=by
 induction l with
 | nil=>rfl
 | cons a l Δ=>exact Δ
theorem Y9 (s:aL) (F:List Found) (cell:Nat) (lower:Bool) (L:List Nat) {i j:Nat} (hi:i<F.length) (ε:j<=((F[i].cells[cell]?).getD []).length) (h:k3 s F[i] cell lower L (rA s F cell lower L i) j=none):lX s F cell lower L=false:=by
 have J:k3 s F[i] cell lower L (rA s F cell lower L i) ((F[i].cells[cell]?).getD []).length=none:=by
  unfold k3 at h ⊢;rw[List.take_length]
  conv=>lhs;rw[<-List.take_append_drop j ((F[i].cells[cell]?).getD [])]
  rw[List.foldl_append,h];exact OU _ _ _
 rw[<-OT s F cell lower L i hi] at J;unfold lX;unfold rA at J ⊢;rw[List.take_length]
 conv=>lhs;rw[<-List.take_append_drop (i+1) F]
 rw[List.foldl_append,J];have:∀l:List Found,(l.foldl (λm f=>k3 s f cell lower L m ((f.cells[cell]?).getD []).length) none)=none:=λl=>by
  induction l with
  | nil=>rfl
  | cons a l Δ=>
   rw[List.foldl_cons];have:k3 s a cell lower L none ((a.cells[cell]?).getD []).length=none:=by unfold k3;exact OU _ _ _
   rw[this];exact Δ
 rw[this];rfl
abbrev fl (L:List Nat):Row:=.cells 3 1 (L.map λn:Nat=>R n)
theorem IK {h:Nat} {L:List Nat}:eK h (fl L):=λe he a ξ=>by
 obtain⟨x,_,rfl⟩:=List.mem_map.1 he;simp[θ.cells] at ξ;subst ξ;simp
theorem Y' (s:aL) (ο:s.small) (F:List Found) (b8:Au s F) (cell:Nat) (x7:cell<s.cells.length) (lower:Bool) (L:List Nat) (aC:L.length<=4) (mR:∀x∈L,x<s.ai.length) :
  ak Tryz.prog 84 [eV s,cQ F,R cell,a4 lower,.ms 0 L.length 0 L.length] [fl L] (λr σ=>r=a4 (lX s F cell lower L)/\σ=[fl L]) (λ_ _=>False):=by
 refine ak.body Ι Tryz.func84 rfl rfl Tryz.ntmps84 rfl rfl (by simp) ?_;(repeat (first|apply κ|(refine ν λη I=>?_;simp;(repeat (rw[δ];simp));apply I)));have rz:∀M:List (List Int×Int),∀r∈[fl L,.map (M.map ps)],eK [fl L,.map (M.map ps)].length r:=λM r μ=>by
  simp only[List.mem_cons,List.not_mem_nil,or_false] at μ;rcases μ with rfl|rfl
  ·exact IK
  ·intro e he;obtain⟨x,_,rfl⟩:=List.mem_map.1 he;simp
 refine W.iter (λx:Nat×List (List Int×Int)=>x.1<=F.length/\rA s F cell lower L x.1=some x.2/\Ay x.2) (λ(i,_)=>[(2,R cell),(3,a4 lower),(4,.ms 0 L.length 0 L.length),(5,.Ψ [aO s.ae,aI s.ai,bf s.cells]),(11,.mp 1),(23,cQ F),(24,R F.length),(25,R i)])
  (λ(_,M)=>[fl L,.map (M.map ps)]) (λx=>F.length-x.1) (0,[]) ⟨Nat.zero_le _,rfl,λe he=>by cases he⟩ rfl (by simp) (λx U Δ=>?_)
 obtain⟨i,M⟩:=x;obtain⟨hi,c0,Μ⟩:=U;simp only at hi c0 Μ ⊢;(repeat (first|apply κ|(refine ν λη I=>?_;simp;(repeat (rw[δ];simp));apply I)));by_cases hV:i<F.length
 ·refine aj (by simp[hV]) ?_;have k0:=OT s F cell lower L i hV;have sa:=λj=>Y9 s F cell lower L (i:=i) (j:=j) hV;rw[c0] at k0 sa;obtain⟨nH,gr⟩:=b8.cells _ (List.getElem_mem hV);generalize Φ:F[i]=f at k0 sa nH gr;have bP:cell<f.cells.length:=by rw[nH];exact x7
  repeat apply κ
  refine dw (A:=[13]) Ι λη I=>?_;simp;(repeat (rw[δ];simp[hV,Φ]));apply I;refine W.pk (σ0:=[fl L,.map (M.map ps)]) (by simp) (rz _) (by simp) [(13,.Ψ [R f.u,R f.v,mL f.cells]),(2,R cell),(3,a4 lower),(4,.ms 0 L.length 0 L.length),(5,.Ψ [aO s.ae,aI s.ai,bf s.cells]),(11,.mp 1),(23,cQ F),(24,R F.length),(25,R i)] (by simp[kU,sL,nx]) ?_;(repeat (first|apply κ|(refine ν λη I=>?_;simp;(repeat (rw[δ];simp[bP]));apply I)));have Av:(f.cells[cell]?).getD []=f.cells[cell]:=by simp[bP]
  rw[Av] at k0 sa;have Aw:=gr _ (List.getElem_mem bP);have qp:=Y8 s f cell lower L (some M);rw[Av] at qp;generalize f.cells[cell]=C at k0 Aw qp sa;obtain⟨wx,II⟩:=Aw;refine W.iter (λx:Nat×List (List Int×Int)=>x.1<=C.length/\k3 s f cell lower L (some M) x.1=some x.2/\Ay x.2) (λ(j,_)=>[(2,R cell),(3,a4 lower),(4,.ms 0 L.length 0 L.length),(5,.Ψ [aO s.ae,aI s.ai,bf s.cells]),(11,.mp 1),(23,cQ F),(24,R F.length),(25,R i),(13,.Ψ [R f.u,R f.v,mL f.cells]),(33,mK C),(34,R C.length),(35,R j)])
   (λ(_,M)=>[fl L,.map (M.map ps)]) (λx=>C.length-x.1) (0,M) ⟨Nat.zero_le _,rfl,Μ⟩ rfl (by simp) (λx U fK=>?_)
  obtain⟨j,M2⟩:=x;obtain⟨ε,x6,Az⟩:=U;simp only at ε x6 Az ⊢;(repeat (first|apply κ|(refine ν λη I=>?_;simp;(repeat (rw[δ];simp));apply I)));by_cases hZ:j<C.length
  ·refine aj (by simp[hZ]) ?_;have qq:=qp j hZ;rw[x6] at qq;obtain⟨pQ,rq⟩:=II _ (List.getElem_mem hZ);generalize μ:C[j]=r at qq pQ rq
   repeat apply κ
   refine dw (A:=[15]) Ι λη I=>?_;simp;(repeat (rw[δ];simp[hZ,μ]));apply I;refine W.pk (σ0:=[fl L,.map (M2.map ps)]) (by simp) (rz _) (by simp) [(15,.Ψ [R r.1,R r.2]),(2,R cell),(3,a4 lower),(4,.ms 0 L.length 0 L.length),(5,.Ψ [aO s.ae,aI s.ai,bf s.cells]),(11,.mp 1),(23,cQ F),(24,R F.length),(25,R i),(13,.Ψ [R f.u,R f.v,mL f.cells]),(33,mK C),(34,R C.length),(35,R j)] (by simp[kU,sL,nx]) ?_
   repeat apply κ
   refine dw (A:=[16]) Ι λη I=>?_;simp;(repeat (rw[δ];simp));apply I;(repeat (first|apply κ|(refine ν λη I=>?_;simp;(repeat (rw[δ];simp));apply I)));refine W.iter (λk:Nat=>k<=L.length) (λk=>[(2,R cell),(3,a4 lower),(4,.ms 0 L.length 0 L.length),(5,.Ψ [aO s.ae,aI s.ai,bf s.cells]),(11,.mp 1),(23,cQ F),(24,R F.length),(25,R i),(13,.Ψ [R f.u,R f.v,mL f.cells]),(33,mK C),(34,R C.length),(35,R j),(15,.Ψ [R r.1,R r.2]),(16,.al 2 1 0 0),(39,.ms 0 L.length 0 L.length),(40,R L.length),(41,R k)])
    (λk=>[fl L,.map (M2.map ps),.cells 157 4 [uC (kC s (f.u,f.v) r L k)]]) (λk=>L.length-k) 0 (Nat.zero_le _) (by simp[kC]) (by simp) (λk χ jM=>?_)
   (repeat (first|apply κ|(refine ν λη I=>?_;simp;(repeat (rw[δ];simp));apply I)));by_cases iT:k<L.length
   ·refine aj (by simp[iT]) ?_;have wA:(k:Int)<4:=by omega
    have jv:k<=3:=by omega
    have ra:=Y7 (s:=s) (p:=(f.u,f.v)) (r:=r) iT aC
    have hlen:=OS (s:=s) (p:=(f.u,f.v)) (r:=r) (Nat.le_of_lt iT) aC
    have Za:=mR _ (List.getElem_mem iT);obtain⟨K,I⟩:∃K,K=kC s (f.u,f.v) r L k:=⟨_,rfl⟩;rw[<-I] at ra hlen ⊢;(repeat (first|apply κ|(refine ν λη I=>?_;simp;(repeat (rw[δ];simp[iT,wA,hlen]));apply I)));(repeat apply κ);refine ν λη I=>?_;simp;(repeat (rw[δ];simp[wA,hlen]));refine ay.c (Ae s ο (f.u,f.v) r L[k] Za pQ rq) (aK.refl _) (by simp) (by simp) ?_;simp[wA,jv,hlen];(repeat (rw[δ];simp[wA,jv,hlen]));apply I;have wB:=fe iT (show L.length<2 ^ 62 by omega);(repeat (first|apply κ|(refine ν λη I=>?_;simp;(repeat (rw[δ];simp[wB]));apply I)));refine W.to (jM (k+1) iT (by omega)) ?_ ?_
    ·rw[<-ra];simp
    ·simp[wB]
   ·have IL:k=L.length:=by omega
    subst IL;refine ah (by simp) ?_;refine W.exit rfl ?_;have hlen:=OS (s:=s) (p:=(f.u,f.v)) (r:=r) (Nat.le_refl _) aC;obtain⟨K,I⟩:∃K,K=kC s (f.u,f.v) r L L.length:=⟨_,rfl⟩;obtain⟨v,hv⟩:∃v,v=mQ lower r:=⟨_,rfl⟩;rw[<-I,<-hv] at qq;rw[<-I] at hlen ⊢
    repeat apply κ
    refine W.sJ (A:=[]) Ι [(2,R cell),(3,a4 lower),(4,.ms 0 L.length 0 L.length),(5,.Ψ [aO s.ae,aI s.ai,bf s.cells]),(11,.mp 1),(23,cQ F),(24,R F.length),(25,R i),(13,.Ψ [R f.u,R f.v,mL f.cells]),(33,mK C),(34,R C.length),(35,R j),(15,.Ψ [R r.1,R r.2]),(16,.al 2 1 0 0),(19,R v)] ?_ (by
     rw[hv];cases lower
     all_goals
      (try simp);(repeat (rw[δ];simp));(try simp[]);refine ay.c (Il _) (aK.refl _) (by simp) (by simp) ?_;simp;(repeat (rw[δ];simp));(try simp[mQ]))
    clear jM hv;have kg:=fe hZ (show C.length<2 ^ 62 by omega);have kK:n9 [fl L,.map (M2.map ps),.cells 157 4 [uC K]] 1=true:=by simp[n9]
    have pR:n8 a6 157 (uC K)=true:=by
     match K,hlen with
     | [a,b,c,d],_=>simp[n8,jD,mD]
    have kT:List.take 4 (K.map R)=K.map R:=List.take_of_length_le (by simp[hlen]);rcases Y6 K hlen M2 0 Az with⟨Τ,af,aX⟩|⟨bZ,x,cP,Τ,af,aX⟩
    ·have aX:=aX v
     have hm:k3 s f cell lower L (some M) (j+1)=some (hJ M2 K v):=by rw[qq];simp[mS,af]
     (repeat (first|apply κ|(refine ν λη I=>?_;simp;(repeat (rw[δ];simp[Τ,pR,kT,hlen,-n8]));apply I)));refine ah rfl ?_;(repeat (first|apply κ|(refine ν λη I=>?_;simp;(repeat (rw[δ];simp[Τ,pR,kT,hlen,-n8]));apply I)));refine W.drop (h:=2) (σ':=[fl L,.map ((hJ M2 K v).map ps)]) (by simp) (by simp) (λid w bW hw=>eK.mono (rz (hJ M2 K v) w (by
      match id,bW,hw with
      | 0,_,hw=>simp at hw;subst hw;simp
      | 1,_,hw=>simp[aX] at hw;subst hw;simp[aX])) (by simp)) (by simp[aX]) [(2,R cell),(3,a4 lower),(4,.ms 0 L.length 0 L.length),(5,.Ψ [aO s.ae,aI s.ai,bf s.cells]),(11,.mp 1),(23,cQ F),(24,R F.length),(25,R i),(13,.Ψ [R f.u,R f.v,mL f.cells]),(33,mK C),(34,R C.length),(35,R ((j:Int)+1))] (by simp[kU,sL,nx,kg]) ?_
     refine W.to (fK (j+1,hJ M2 K v) ⟨hZ,hm,OR Az hlen v⟩ (by simp only;omega)) rfl ?_;simp
    ·have aX:=aX v;(repeat (first|apply κ|(refine ν λη I=>?_;simp;(repeat (rw[δ];simp[Τ,pR,kT,hlen,-n8]));apply I)));by_cases El:x=v
     ·have hm:k3 s f cell lower L (some M) (j+1)=some (hJ M2 K v):=by rw[qq];simp[mS,af,El]
      refine ah (by simp[El]) ?_;(repeat (first|apply κ|(refine ν λη I=>?_;simp;(repeat (rw[δ];simp[Τ,pR,kT,hlen,-n8]));apply I)));refine W.drop (h:=2) (σ':=[fl L,.map ((hJ M2 K v).map ps)]) (by simp) (by simp) (λid w bW hw=>eK.mono (rz (hJ M2 K v) w (by
       match id,bW,hw with
       | 0,_,hw=>simp at hw;subst hw;simp
       | 1,_,hw=>simp[aX] at hw;subst hw;simp[aX])) (by simp)) (by simp[aX]) [(2,R cell),(3,a4 lower),(4,.ms 0 L.length 0 L.length),(5,.Ψ [aO s.ae,aI s.ai,bf s.cells]),(11,.mp 1),(23,cQ F),(24,R F.length),(25,R i),(13,.Ψ [R f.u,R f.v,mL f.cells]),(33,mK C),(34,R C.length),(35,R ((j:Int)+1))] (by simp[kU,sL,nx,kg]) ?_
      refine W.to (fK (j+1,hJ M2 K v) ⟨hZ,hm,OR Az hlen v⟩ (by simp only;omega)) rfl ?_;simp
     ·have hm:k3 s f cell lower L (some M) (j+1)=none:=by rw[qq];simp[mS,af,El]
      have oW:=sa (j+1) hZ hm;rw[oW];refine aj (by simp[El]) ?_;(repeat (first|apply κ|(refine ν λη I=>?_;simp;(repeat (rw[δ];simp));apply I)));refine W.drop (h:=1) (σ':=[fl L]) (by simp) (by simp) (λid w bW hw=>by
       obtain rfl:id=0:=by omega
       simp at hw;subst hw;exact IK) rfl [(10,a4 false)] (by simp) ?_
      exact W.ret ⟨_,rfl,rfl,rfl⟩
  ·have pq:j=C.length:=by omega
   subst pq;have iZ:=fe hV (show F.length<2 ^ 62 by have:=b8.rv;omega);refine ah (by simp) ?_;refine W.exit rfl ?_;(repeat (first|apply κ|(refine ν λη I=>?_;simp;(repeat (rw[δ];simp[iZ]));apply I)));refine W.to (Δ (i+1,M2) ⟨hV,by rw[k0];exact x6,Az⟩ (by simp only;omega)) rfl ?_;simp[iZ]
 ·have dL:i=F.length:=by omega
  subst dL;have oW:lX s F cell lower L=true:=by unfold lX;rw[c0];rfl
  rw[oW];refine ah (by simp) ?_;refine W.exit rfl ?_;(repeat (first|apply κ|(refine ν λη I=>?_;simp;(repeat (rw[δ];simp));apply I)));refine W.drop (h:=1) (σ':=[fl L]) (by simp) (by simp) (λid w bW hw=>by
   obtain rfl:id=0:=by omega
   simp at hw;subst hw;exact IK) rfl [(10,a4 true)] (by simp) ?_
  exact W.ret ⟨_,rfl,rfl,rfl⟩
end Go.TL
namespace Go.TL
open Go.Conc Go.Proofs
variable [bm]
section
variable {P:Program} {Q:Value->Prop} {mn:Bool} {x:gN} {cs rest:List Frame} {H:Α} {b f c:Frame} {t:Array Value} {k:List Item} {fn:Func}
theorem υ.getLoop {L:Nat} {r:Loop} (h:H.obj L=some (.loop r)) {K:Loop->Α->Prop} {E:Value->Α->Prop} (χ:K r H):υ P (Instr.getLoop L) H K E:=by
 unfold Instr.getLoop;refine υ.bind' ?_;exact⟨_,h,rfl,υ.pure' χ⟩
theorem υ.IM {L:Nat} {r r':Loop} (h:H.obj L=some (.loop r)) {K:Unit->Α->Prop} {E:Value->Α->Prop} (χ:K () (H.bI L (.loop r'))):υ P (setObj L (.loop r')) H K E:=
 ⟨⟨_,h⟩,rfl,rfl,υ.pure' χ⟩
abbrev OV (st:LoopState) (Zb:Option Code) (f:FuncId) (t:Array Value) (cO:Array Tmp) (a sn:Code) (d:Nat):Loop:={state:=st,pending:=Zb,fn:=f,tmps:=t,params:=cO,assign:=a,body:=sn,defers:=d}
theorem aM.rangeFunc (U:Seq x) (hb:b.mode=.run) (cd:b.roundOf=none) {fo:Operand} {cO:Array Tmp} {assign body:Code} {g:FuncId} {mT:Array Value} (Zc:bs t fo=.func (.func g) #[] mT) (Υ:Plain P g)
  (h:∀r1 r2,H.fresh r1->(H.bI r1 (.deferred (some []))).fresh r2->aM P Q mn x (Frame.enter P g (#[.func (.yield r2) #[] #[]]++mT) .normal) ({ar b t (.inRangeFunc r2::k) with defers:=⟨.collected r1,#[]⟩::b.defers}::cs)
   ((H.bI r1 (.deferred (some []))).bI r2 (.loop (OV .ready none b.fn t cO assign body r1)))) :
  aM P Q mn x (ar b t (.code (.rangeFunc fo cO assign body)::k)) cs H:=by
 refine .own U λw Φ=>?_;have eH:υ P (Instr.enterLoop b.fn t cO assign body none) H (λv H'=>∃r1 r2,H.fresh r1/\(H.bI r1 (.deferred (some []))).fresh r2/\v=(r2,[⟨.collected r1,#[]⟩])/\H'=(H.bI r1 (.deferred (some []))).bI r2 (.loop (OV .ready none b.fn t cO assign body r1))) (λ_ _=>False):=by
  unfold Instr.enterLoop;refine υ.bind' (λr1 J=>υ.pure' (υ.bind' (υ.pure' ?_)));refine υ.bind' (λr2 γ=>υ.pure' (υ.pure' ?_));exact⟨r1,r2,J,γ,rfl,rfl⟩
 obtain⟨H',w',es',hu,hQ⟩:=υ.sound (P:=P) (G0:=H) (w0:=w) _ eH (dF.start Φ);rcases hQ with⟨v,dJ,r1,r2,J,γ,rfl,rfl⟩|⟨v,dJ,c9⟩
 ·refine⟨_,_,w',seen P b.fn es',_,?_,hu.sub λe he=>mem_seen he,h r1 r2 J γ⟩;have dt:∀F:Frame,F.tmps=t->resolve F.eval {callee:=.value fo,args:=#[.const (.func (.yield r2) #[] #[])],argTypes:=#[]} 0=Deferred.ofValue (.func (.func g) #[] mT) #[.func (.yield r2) #[] #[]]:=λF gu=>by
   have:F.eval fo=.func (.func g) #[] mT:=by rw[<-Zc,<-gu];cases fo<;>rfl
   unfold resolve;simp only;rw[this];simp[Frame.eval]
  have hinv:((do let d <-Deferred.ofValue (.func (.func g) #[] mT) #[.func (.yield r2) #[] #[]];invoke d.target d.args:Sem Next)).runT P w' #[]=(.ok (.enter g (#[.func (.yield r2) #[] #[]]++mT)) w',#[]):=by
   have:=Υ.enter (#[.func (.yield r2) #[] #[]]++mT) w';simpa[Deferred.ofValue,invoke] using this
  rw[iV hb];unfold stepG.exec;simp only[ar,cd,dJ];rw[dt _ rfl];unfold stepG.apply;simp only[if_true,hinv];simp[GStep.after,Go.Conc.G,ar,seen_none]
 ·exact c9.elim
theorem aM.OW (U:Seq x) (hb:b.mode=.run) {L:Nat} {r:Loop} (aC:H.obj L=some (.loop r)) (ο:r.state≠.busy)
  (h:aM P Q mn x (ar b t ((r.pending.map Item.code).toList++k)) cs (H.bI L (.loop {r with state:=.exhausted}))):aM P Q mn x (ar b t (.endRangeFunc L::k)) cs H:=by
 refine .own U λw Φ=>?_;have eH:υ P (Instr.endLoop L) H (λv H'=>v=r.pending/\H'=H.bI L (.loop {r with state:=.exhausted})) (λ_ _=>False):=by
  unfold Instr.endLoop;refine υ.bind' (υ.getLoop aC ?_);have e:(r.state==.busy)=false:=by cases Ρ:r.state<;>first|rfl|exact absurd Ρ ο
  simp only[e,Bool.false_eq_true,if_false];exact υ.bind' (υ.IM aC (υ.pure' ⟨rfl,rfl⟩))
 obtain⟨H',w',es',hu,hQ⟩:=υ.sound (P:=P) (G0:=H) (w0:=w) _ eH (dF.start Φ);rcases hQ with⟨v,dJ,rfl,rfl⟩|⟨v,dJ,c9⟩
 ·refine⟨_,_,w',seen P b.fn es',_,?_,hu.sub λe he=>mem_seen he,h⟩;rw[iV hb];unfold stepG.exec;simp only[ar,dJ];simp[GStep.after,Go.Conc.G]
 ·exact c9.elim
theorem aM.beginRound (U:Seq x) (hb:b.mode=.run) {L:Nat} (cd:b.roundOf=some L) {r:Loop} (aC:H.obj L=some (.loop r)) (ο:r.state=.ready)
  (h:aM P Q mn x (ar b t k) cs (H.bI L (.loop {r with state:=.busy}))):aM P Q mn x (ar b t (.beginRound::k)) cs H:=by
 refine .own U λw Φ=>?_;have eH:υ P (Instr.beginRound L) H (λ_ H'=>H'=H.bI L (.loop {r with state:=.busy})) (λ_ _=>False):=by
  unfold Instr.beginRound;refine υ.bind' (υ.getLoop aC (υ.bind' (υ.IM aC ?_)));rw[ο];exact υ.pure' rfl
 have Zd:υ P (do Instr.beginRound L;pure Next.skip:Sem Next) H (λv H'=>v=.skip/\H'=H.bI L (.loop {r with state:=.busy})) (λ_ _=>False):=
  υ.bind' (υ.mono (λ_ _ e=>υ.pure' ⟨rfl,e⟩) (λ_ _ h=>h) _ eH)
 obtain⟨H',w',es',hu,hQ⟩:=υ.sound (P:=P) (G0:=H) (w0:=w) _ Zd (dF.start Φ);rcases hQ with⟨v,dJ,rfl,rfl⟩|⟨v,dJ,c9⟩
 ·generalize fu:(if b.kind==.early then #[] else es')=n5;have jZ:∀e∈seen P b.fn n5,e∈es':=λe he=>by
   have:=mem_seen he;rw[<-fu] at this;split at this
   ·simp at this
   ·exact this
  refine⟨_,_,w',seen P b.fn n5,_,?_,hu.sub jZ,h⟩;rw[iV hb];unfold stepG.exec;simp only[ar,cd,Option.elim];unfold stepG.apply;simp only[if_true,dJ];rw[fu];simp[GStep.after,Go.Conc.G,Frame.finish]
 ·exact c9.elim
theorem aM.endRound (U:Seq x) (hb:b.mode=.run) {L:Nat} (cd:b.roundOf=some L) (χ:b.kind=.normal) {r:Loop} (aC:H.obj L=some (.loop r)) {jump:Option Code} (ε:(jump=none/\k=[])\/(jump=some .ret/\∃ab,k=.code .ret::ab)\/∃id ab,jump=some (.exit id)/\k=.code (.exit id)::ab/\exitTo id ab=none)
  (h:aM P Q mn x (c.finish (.bool jump.isNone)) rest (H.bI L (.loop {r with state:=if jump.isNone then .ready else .done,pending:=jump}))):aM P Q mn x (ar b t k) (c::rest) H:=by
 refine .own U λw Φ=>?_;have eH:υ P (Instr.endRound L jump) H (λv H'=>v=.bool jump.isNone/\H'=H.bI L (.loop {r with state:=if jump.isNone then .ready else .done,pending:=jump})) (λ_ _=>False):=by
  unfold Instr.endRound;exact υ.bind' (υ.getLoop aC (υ.bind' (υ.IM aC (υ.pure' ⟨rfl,rfl⟩))))
 obtain⟨H',w',es',hu,hQ⟩:=υ.sound (P:=P) (G0:=H) (w0:=w) _ eH (dF.start Φ);rcases hQ with⟨v,dJ,rfl,rfl⟩|⟨v,dJ,c9⟩
 ·refine⟨_,_,w',seen P b.fn es',_,?_,hu.sub λe he=>mem_seen he,h⟩;rw[iV hb];unfold stepG.exec;rcases ε with⟨rfl,rfl⟩|⟨rfl,ab,rfl⟩|⟨id,ab,rfl,rfl,he⟩
  ·simp only[ar,cd,dJ];simp[GStep.after,Go.Conc.G,doReturn,χ]
  ·simp only[ar,cd,dJ];simp[GStep.after,Go.Conc.G,doReturn,χ]
  ·simp only[ar,cd,he,Option.elim,dJ];simp[GStep.after,Go.Conc.G,doReturn,χ]
 ·exact c9.elim
theorem aM.collected (U:Seq x) (hm:f.mode=.returning) {r:Nat} {ds:List Deferred} (hd:f.defers=⟨.collected r,#[]⟩::ds) (μ:H.obj r=some (.deferred (some [])))
  (h:aM P Q mn x {f with defers:=ds} cs (H.bI r (.deferred none))):aM P Q mn x f cs H:=by
 refine .own U λw Φ=>?_;have eH:υ P (Instr.takeDeferred r) H (λv H'=>v=[]/\H'=H.bI r (.deferred none)) (λ_ _=>False):=by
  unfold Instr.takeDeferred;refine υ.bind' ?_;exact⟨_,μ,rfl,υ.pure' (υ.bind' ⟨⟨_,μ⟩,rfl,rfl,υ.pure' (υ.pure' ⟨rfl,rfl⟩)⟩)⟩
 obtain⟨H',w',es',hu,hQ⟩:=υ.sound (P:=P) (G0:=H) (w0:=w) _ eH (dF.start Φ);rcases hQ with⟨v,dJ,rfl,rfl⟩|⟨v,dJ,c9⟩
 ·refine⟨_,_,w',seen P f.fn es',_,?_,hu.sub λe he=>mem_seen he,h⟩;rw[xy (by rw[hm];simp)];unfold unwind;simp only[hd,dJ];simp[GStep.after,Go.Conc.G]
 ·exact c9.elim
end
end Go.TL
namespace Go.TL
open Go.Conc
open Go.ConcM (OsLater)
open Go.ConcN (sumTo upd sumTo_upd upd_ne upd_same sumTo_congr le_sumTo)
open Go.ConcR (mk)
variable [bm]
theorem gA {b:Frame} (hb:b.mode=.run) (μ:b.roundOf=none) (t:Array Value) (k:List Item):ar b t k=b.at ⟨t,b.defers⟩ k:=by
 obtain⟨fn,xx,td,U1,tL,kd,ro⟩:=b;simp only at hb μ;subst hb;subst μ;rfl
theorem uD (o:Oper) (t:Array Value) (ds:List Deferred) (v:Value):(⟨t,ds⟩:_root_.Go.Act).put o.dst v=⟨put o t v,ds⟩:=by
 unfold _root_.Go.Act.put put;cases o.dst<;>rfl
theorem lY (t:Array Value) (ds:List Deferred):(⟨t,ds⟩:_root_.Go.Act).eval=bs t:=by funext o;cases o<;>rfl
def Entry (P:Program) (f:FuncId) (e:Array Value->Sem Value):Prop:=∃fn,P.funcs[f]?=some fn/\(fn.name == "runtime.NumGoroutine")=false/\fn.body.isNone=true/\Extern.findNext fn=none/\Extern.find fn=some e
structure mU (b:Frame) (ops:Array Oper) (i:Nat) (op:Oper):Prop where
 run:b.mode=.run
 ro:b.roundOf=none
 kd:b.kind≠.early
 op:ops[i]?=some op
def eL (x:aV):Prop:=x.rel=false\/∃s,¬Gone (x.tok s)
theorem eL.ok {P:Program} {g:Goroutine} {x:aV} (h:eL x):y9 P g x:=λJ γ=>by
 rcases h with h|⟨s,h⟩
 ·rw[h] at J;cases J
 ·exact absurd (γ s) h
def one (x:aV):gN:=λy=>y=x
@[reducible] def ep:bm:=⟨λ_=>True⟩
theorem Seq.uE {x:aV} (Ρ:bm.q (one x)) (μ:x.rel=false) (hv:x.aF=λ_=>none):Seq (one x):=⟨Ρ,λy h=>by cases h;exact μ,λy h=>by cases h;exact hv⟩
theorem Seq.here {x:aV} (h:Seq (one x)):eL x:=.inl (h.rel x rfl)
section
variable {P:Program} {Q:Value->Prop} {mn:Bool} {x:aV} {b:Frame} {cs:List Frame} {nt:Nat} {o:Base} {k:List Item} {env:aa} {σ:List Row} {S:aB} {B:aR} {H:Α} {t:Array Value}
variable {ops:Array Oper} {i:Nat} {rest:List Nat} {op:Oper} {f:FuncId} {e:Array Value->Sem Value} {args:Array Operand} {dS:Array TypeId} {w w':World}
theorem Em (he:Entry P f e) (bS:mU b ops i op) (hw:Region.wanted op (yielded ops t)=true) (Ν:op.op=.call ⟨.value (.func f),args,dS⟩) {vs:Array Value} (k4:args.map (bs t)=vs) {v:Value} {gi:Array Event}
  (dJ:(e vs).run P w=.ok v w') (dt:(e vs).events P w #[⟨.mark (Mark.extern f),false,true⟩]=#[⟨.mark (Mark.extern f),false,true⟩]++gi) (ο:∀y∈gi,y.sync=true/\∀g,y.loc≠.mark (Mark.extern g)) :
  stepG P mn (Go.Conc.G (ar b t (.inRegion ops (i::rest)::k)) cs) w=.go (Go.Conc.G (ar b (put op t v) (.inRegion ops rest::k)) cs) w' gi:=by
 obtain⟨fn,J,γ,π,Μ,aA⟩:=he;rw[gA bS.run bS.ro,gA bS.run bS.ro,<-uD];exact stepG_entry (a:=⟨t,b.defers⟩) bS.op hw bS.kd Ν J γ π Μ aA (by rw[lY,k4];exact dJ) (by rw[lY,k4];exact dt) ο
theorem Ze (he:Entry P f e) (bS:mU b ops i op) (hw:Region.wanted op (yielded ops t)=true) (Ν:op.op=.call ⟨.value (.func f),args,dS⟩) {vs:Array Value} (k4:args.map (bs t)=vs)
  (dJ:(e vs).run P w=.halt .blocked w') :
  stepG P mn (Go.Conc.G (ar b t (.inRegion ops (i::rest)::k)) cs) w=.go {Go.Conc.G (ar b t (.inRegion ops (i::rest)::k)) cs with status:=.blocked} w' #[]:=by
 obtain⟨fn,J,γ,π,Μ,aA⟩:=he;rw[gA bS.run bS.ro];exact stepG_entry_blocked (a:=⟨t,b.defers⟩) bS.op hw Ν J γ π Μ aA (by rw[lY,k4];exact dJ)
theorem OX (he:Entry P f e) (bS:mU b ops i op) (Ν:op.op=.call ⟨.value (.func f),args,dS⟩):mayWake P (Go.Conc.G (ar b t (.inRegion ops (i::rest)::k)) cs)=true:=by
 obtain⟨fn,J,γ,π,Μ,aA⟩:=he;have bc:fn.body=none:=by simpa using π
 have OY:(ar b t (.inRegion ops (i::rest)::k)).eval (.func f)=.func (.func f) #[] #[]:=rfl;simp[mayWake,Go.Conc.G,ar,bS.run,bS.op,Ν] at OY ⊢;simp[OY,J,bc]
def AA (env:aa) (args:Array Operand) (vs:List Value):Prop:=args.toList.map (aQ env)=vs.map θ.z
theorem En (ο:de S B σ env t) {y:Operand} {v:Value} (h:aQ env y=.z v):bs t y=v:=by
 have:=lJ ο y;rw[h] at this;generalize bs t y=u at this;cases this;rfl
theorem AA.bs (ο:de S B σ env t) {vs:List Value} (h:AA env args vs):args.map (bs t)=vs.toArray:=by
 apply Array.ext';rw[Array.toList_map];have:∀(l:List Operand) (vs:List Value),l.map (aQ env)=vs.map θ.z->l.map (Go.TL.bs t)=vs:=by
  intro l
  induction l with
  | nil=>intro vs h;cases vs with
   | nil=>rfl
   | cons=>cases h
  | cons y l Δ=>
   intro vs h;cases vs with
   | nil=>cases h
   | cons v vs=>
    simp only[List.map_cons,List.cons.injEq] at h ⊢;exact⟨En ο h.1,Δ vs h.2⟩
 exact this _ _ h
theorem Eo (m:Mark):((λ_=>do mark m;pure Extern.Race.none_:Array Value->Sem Value) #[]).run P w=.ok (.tuple #[]) w:=by simp[Extern.Race.none_]
theorem Ep (m:Mark) (es:Array Event):((λ_=>do mark m;pure Extern.Race.none_:Array Value->Sem Value) #[]).events P w es=es.push ⟨.mark m,false,true⟩:=by simp
theorem x8 (m:Addr->Mark) (cu:Addr):(Extern.Race.marked m #[.pointer (some cu)]).run P w=.ok (.tuple #[]) w:=by simp[Extern.Race.marked,Extern.Race.at_,Extern.Race.none_]
theorem x9 (m:Addr->Mark) (cu:Addr) (es:Array Event):(Extern.Race.marked m #[.pointer (some cu)]).events P w es=es.push ⟨.mark (m cu),false,true⟩:=by simp[Extern.Race.marked,Extern.Race.at_]
theorem rB {m:Mark} (hm:∀g,m≠Mark.extern g):∀y∈(#[⟨.mark m,false,true⟩]:Array Event),y.sync=true/\∀g,y.loc≠.mark (Mark.extern g):=by
 intro y Ξ;simp at Ξ;subst Ξ;exact⟨rfl,λg h=>hm g (by cases h;rfl)⟩
structure gS (P:Program) (b:Frame) (ops:Array Oper) (i:Nat) (op:Oper) (f:FuncId) (e:Array Value->Sem Value) (args:Array Operand) (env:aa) (vs:List Value) (nt:Nat):Prop where
 at_:mU b ops i op
 kX:Entry P f e
 call:∃dS,op.op=.call ⟨.value (.func f),args,dS⟩
 want:fz env ops op=some true
 dst:hT nt op=true
 AB:AA env args vs
theorem gS.step {vs:List Value} (h:gS P b ops i op f e args env vs nt) (ο:de S B σ env t) {v:Value} {gi:Array Event} (dJ:(e vs.toArray).run P w=.ok v w')
  (dt:(e vs.toArray).events P w #[⟨.mark (Mark.extern f),false,true⟩]=#[⟨.mark (Mark.extern f),false,true⟩]++gi) (Zf:∀y∈gi,y.sync=true/\∀g,y.loc≠.mark (Mark.extern g)) :
  stepG P mn (Go.Conc.G (ar b t (.inRegion ops (i::rest)::k)) cs) w=.go (Go.Conc.G (ar b (put op t v) (.inRegion ops rest::k)) cs) w' gi:=
 let ⟨_,Ν⟩:=h.call
 Em h.kX h.at_ (j3 ο h.want) Ν (h.AB.bs ο) dJ dt Zf
abbrev ot:θ:=.z (.tuple #[])
theorem V.disable (U:eL x) (h:gS P b ops i op f (λ_=>do mark .disable;pure Extern.Race.none_) args env [] nt) (χ:V P Q mn (one {x with deaf:=x.deaf+1}) b cs nt o (.inRegion ops rest::k) (ca op env ot) σ):V P Q mn (one x) b cs nt o (.inRegion ops (i::rest)::k) env σ:=
 λS B H t ξ ψ y Ξ=>by
 cases Ξ;exact Goes.step U.ok (.inr ⟨⟨rfl,rfl⟩,.inr (.inl ⟨Go.Conc.G (ar b (put op t (.tuple #[])) (.inRegion ops rest::k)) cs,⟨rfl,rfl⟩,.inl λw _=>
  ⟨h.step ψ.cp (Eo .disable) (Ep .disable _) (rB (by simp)),χ S B H _ ξ (ψ.put h.dst (.z _)) _ rfl⟩⟩)⟩)
theorem V.enable (U:eL x) (hd:0<x.deaf) (h:gS P b ops i op f (λ_=>do mark .enable;pure Extern.Race.none_) args env [] nt) (χ:V P Q mn (one {x with deaf:=x.deaf-1}) b cs nt o (.inRegion ops rest::k) (ca op env ot) σ):V P Q mn (one x) b cs nt o (.inRegion ops (i::rest)::k) env σ:=
 λS B H t ξ ψ y Ξ=>by
 cases Ξ;exact Goes.step U.ok (.inr ⟨⟨rfl,rfl⟩,.inr (.inl ⟨Go.Conc.G (ar b (put op t (.tuple #[])) (.inRegion ops rest::k)) cs,⟨rfl,rfl⟩,.inr ⟨hd,λw _=>
  ⟨h.step ψ.cp (Eo .enable) (Ep .enable _) (rB (by simp)),χ S B H _ ξ (ψ.put h.dst (.z _)) _ rfl⟩⟩⟩)⟩)
theorem V.Zg (U:x.rel=false) {s off n p:Nat} {aE:r7} (Ο:x.tok s=.par n p aE) (mf:aE≠.bA) (h:gS P b ops i op f (Extern.Race.marked .read) args env [.pointer (some ⟨s,off,none⟩)] nt) (χ:V P Q mn (one x) b cs nt o (.inRegion ops rest::k) (ca op env ot) σ):V P Q mn (one x) b cs nt o (.inRegion ops (i::rest)::k) env σ:=
 λS B H t ξ ψ y Ξ=>by
 cases Ξ;exact Goes.step (eL.ok (.inl U)) (.inr ⟨⟨rfl,rfl⟩,.inr (.inr (.inl ⟨s,n,p,aE,Go.Conc.G (ar b (put op t (.tuple #[])) (.inRegion ops rest::k)) cs,off,false,Ο,mf,U,⟨rfl,rfl⟩,λw _=>
  ⟨h.step ψ.cp (x8 .read _) (x9 .read _ _) (rB (by simp)),χ S B H _ ξ (ψ.put h.dst (.z _)) _ rfl⟩⟩))⟩)
theorem V.Zh (U:x.rel=false) {s off n p:Nat} {aE:r7} (Ο:x.tok s=.par n p aE) (mf:aE≠.bA) (h:gS P b ops i op f (Extern.Race.marked .write) args env [.pointer (some ⟨s,off,none⟩)] nt) (χ:V P Q mn (one x) b cs nt o (.inRegion ops rest::k) (ca op env ot) σ):V P Q mn (one x) b cs nt o (.inRegion ops (i::rest)::k) env σ:=
 λS B H t ξ ψ y Ξ=>by
 cases Ξ;exact Goes.step (eL.ok (.inl U)) (.inr ⟨⟨rfl,rfl⟩,.inr (.inr (.inl ⟨s,n,p,aE,Go.Conc.G (ar b (put op t (.tuple #[])) (.inRegion ops rest::k)) cs,off,true,Ο,mf,U,⟨rfl,rfl⟩,λw _=>
  ⟨h.step ψ.cp (x8 .write _) (x9 .write _ _) (rB (by simp)),χ S B H _ ξ (ψ.put h.dst (.z _)) _ rfl⟩⟩))⟩)
theorem V.Ci (U:x.rel=false) (hd:x.deaf=0) {s m n:Nat} {sp:Spec} (bU:x.spec s=some sp) (hm:sp.aT=some m) (Ο:x.tok s=.ch n .own .work) (h:gS P b ops i op f (Extern.Race.marked .acquire) args env [.pointer (some ⟨m,0,none⟩)] nt)
  (χ:∀(S:aB) (B:aR) (H:Α) (t:Array Value) (L:List Nat) (E:Α),eU o.m o.S o.B o.H o.σ S B H σ->fx o.m nt S B H σ (ca op env ot) t->sp.aH L E->Apart H E->(L.Nodup/\n∉L/\∃w,Fits H w/\Fits E w)->
   cn P Q mn {x with tok:=upd x.tok s (.ch n (.dc L) .work),view:=upd x.view s none} (ar b t (.inRegion ops rest::k)) cs (join H E)):V P Q mn (one x) b cs nt o (.inRegion ops (i::rest)::k) env σ:=
 λS B H t ξ ψ y Ξ=>by
 cases Ξ;exact Goes.step (eL.ok (.inl U)) (.inr ⟨⟨rfl,rfl⟩,.inr (.inr (.inr (.inr (.inl ⟨s,sp,m,n,Go.Conc.G (ar b (put op t (.tuple #[])) (.inRegion ops rest::k)) cs,bU,hm,Ο,hd,⟨rfl,rfl⟩,U,λw _=>
  h.step ψ.cp (x8 .acquire _) (x9 .acquire _ _) (rB (by simp)),λL E dg iy hw=>χ S B H _ L E ξ (ψ.put h.dst (.z _)) dg iy hw⟩))))⟩)
theorem V.GI (U:x.rel=false) (hd:x.deaf=0) {s m n:Nat} {L:List Nat} {sp:Spec} (bU:x.spec s=some sp) (hm:sp.aT=some m) (Ο:x.tok s=.ch n (.dc L) .work) (h:gS P b ops i op f (Extern.Race.marked .releaseMerge) args env [.pointer (some ⟨m,0,none⟩)] nt)
  (χ:∀(S:aB) (B:aR) (H:Α) (t:Array Value),eU o.m o.S o.B o.H o.σ S B H σ->fx o.m nt S B H σ (ca op env ot) t->∃H' E,Split H H' E/\sp.aH (L++[n]) E/\
   cn P Q mn {x with tok:=upd x.tok s (.ch n .fin .work),view:=upd x.view s none} (ar b t (.inRegion ops rest::k)) cs H'):V P Q mn (one x) b cs nt o (.inRegion ops (i::rest)::k) env σ:=
 λS B H t ξ ψ y Ξ=>by
 cases Ξ;obtain⟨H',E,J,γ,π⟩:=χ S B H _ ξ (ψ.put h.dst (.z (.tuple #[])));exact Goes.step (eL.ok (.inl U)) (.inr ⟨⟨rfl,rfl⟩,.inr (.inr (.inr (.inr (.inr (.inl ⟨s,sp,m,n,L,Go.Conc.G (ar b (put op t (.tuple #[])) (.inRegion ops rest::k)) cs,H',E,bU,hm,Ο,hd,⟨rfl,rfl⟩,U,λw _=>
  h.step ψ.cp (x8 .releaseMerge _) (x9 .releaseMerge _ _) (rB (by simp)),J,γ,π⟩)))))⟩)
theorem V.Cj (U:x.rel=false) (hd:x.deaf=0) {s n:Nat} {aE:r7} {sp:Spec} (bU:x.spec s=some sp) (Ο:x.tok s=.par n 0 aE) (mf:aE=.l'\/aE=.w4) (h:gS P b ops i op f (Extern.Race.marked .acquire) args env [.pointer (some ⟨s,0,none⟩)] nt)
  (χ:∀(S:aB) (B:aR) (H:Α) (t:Array Value) (gf ft:List Nat) (gE eu:Α),eU o.m o.S o.B o.H o.σ S B H σ->fx o.m nt S B H σ (ca op env ot) t->
   gf.Perm (List.range n)->lC sp.D gf gE->(sp.aT≠none->ft.Perm (List.range n)/\sp.aH ft eu)->(sp.aT=none->eu=Α.empty)->Apart H gE->Apart H eu->Apart gE eu->(∃w,Fits H w/\Fits gE w/\Fits eu w)->
   cn P Q mn {x with tok:=upd x.tok s (.par n 0 .bA),view:=upd x.view s none} (ar b t (.inRegion ops rest::k)) cs (join (join H gE) eu)):V P Q mn (one x) b cs nt o (.inRegion ops (i::rest)::k) env σ:=
 λS B H t ξ ψ y Ξ=>by
 cases Ξ;exact Goes.step (eL.ok (.inl U)) (.inr ⟨⟨rfl,rfl⟩,.inr (.inr (.inr (.inr (.inr (.inr (.inr (.inl ⟨s,sp,n,aE,Go.Conc.G (ar b (put op t (.tuple #[])) (.inRegion ops rest::k)) cs,bU,Ο,mf,hd,⟨rfl,rfl⟩,U,λw _=>
  h.step ψ.cp (x8 .acquire _) (x9 .acquire _ _) (rB (by simp)),λgf ft gE eu a1 bl cz gb hA md ve tu=>χ S B H _ gf ft gE eu ξ (ψ.put h.dst (.z _)) a1 bl cz gb hA md ve tu⟩)))))))⟩)
theorem V.atomic (U:eL x) {s:Nat} {sp:Spec} (bU:x.spec s=some sp) (cH:¬fU (x.tok s)) (hd:hT nt op=true) (hw:fz env ops op=some true)
  (h:∀(t:Array Value) (w:World) (φ:Nat) (ς:aN),(∀y u,aQ env y=.z u->bs t y=u)->(∀(as9:Array Operand) (vs:List Value),AA env as9 vs->as9.map (bs t)=vs.toArray)->Region.wanted op (yielded ops t)=true->ς.toSpec=sp->At s ς w->Gh x s φ ς->vh ς (x.tok s)->
   (∃v w' gi,stepG P mn (Go.Conc.G (ar b t (.inRegion ops (i::rest)::k)) cs) w=.go (Go.Conc.G (ar b (put op t v) (.inRegion ops rest::k)) cs) w' gi/\fq (λΧ _=>eb s sp Χ) (λ_=>False) w w'/\oN s sp x.deaf gi/\
    ((At s ς w'/\V P Q mn (one {x with view:=upd x.view s (some (φ,ς))}) b cs nt o (.inRegion ops rest::k) (ca op env (.z v)) σ)\/
     ∃o' t',Act ς (x.tok s) o' t'/\At s o' w'/\(mayWake P (Go.Conc.G (ar b t (.inRegion ops (i::rest)::k)) cs)=true\/o'=ς)/\∀cl,cl<φ->V P Q mn (one {x with tok:=upd x.tok s t',view:=upd x.view s (some (cl,o'))}) b cs nt o (.inRegion ops rest::k) (ca op env (.z v)) σ))\/
   (jW ς (x.tok s)/\(∀bq,bq≠s->nf (x.tok bq))/\stepG P mn (Go.Conc.G (ar b t (.inRegion ops (i::rest)::k)) cs) w=.go {Go.Conc.G (ar b t (.inRegion ops (i::rest)::k)) cs with status:=.blocked} w #[])) :
  V P Q mn (one x) b cs nt o (.inRegion ops (i::rest)::k) env σ:=by
 intro S B H t ξ ψ y Ξ;cases Ξ;refine Goes.step U.ok (.inr ⟨⟨rfl,rfl⟩,.inr (.inr (.inr (.inl ⟨s,sp,bU,cH,λw φ ς Φ hv Γ bB nZ IN=>?_⟩)))⟩);rcases h t w φ ς (λy u Ξ=>En ψ.cp Ξ) (λas9 vs k4=>k4.bs ψ.cp) (j3 ψ.cp hw) Γ bB nZ IN with⟨v,w',gi,J,γ,π,Μ⟩|⟨J,γ,π⟩
 ·refine .inl ?_;rw[J];refine⟨⟨rfl,rfl⟩,γ,π,?_⟩;rcases Μ with⟨aA,bc⟩|⟨o',t',aA,bc,gK,nY⟩
  ·exact .inl ⟨aA,bc S B H _ ξ (ψ.put hd (.z _)) _ rfl⟩
  ·exact .inr ⟨o',t',aA,bc,gK,λcl eg=>nY cl eg S B H _ ξ (ψ.put hd (.z _)) _ rfl⟩
 ·exact .inr ⟨J,γ,π⟩
theorem OZ {cV off:Nat} {c:Array Value} {ty:TypeId} (hb:w.heap[cV]?=some (.cells c ty (0,0))) (v:Value) {own:Nat->Nat->Prop} (fW:∀o,own cV o):fq own (λ_=>False) w (w.setCell ⟨cV,off,none⟩ v):=by
 have aU:=heap_setCell (w:=w) (a:=⟨cV,off,none⟩) (v:=v) rfl hb
 have aD:=fr hb
 have DG:(w.setCell ⟨cV,off,none⟩ v).os=w.os:=rfl;refine⟨by rw[aU];simp,λΧ c' t' MT db=>?_,λΧ y db Ξ _=>?_,by rw[DG];exact OsLater.refl _,rfl,rfl⟩
 ·by_cases e:Χ=cV
  ·subst e;rw[hb] at db;cases db;exact⟨_,by rw[aU,Array.getElem?_setIfInBounds_self_of_lt aD],by simp,λo' jw=>absurd (fW o') jw⟩
  ·exact⟨c',by rw[aU,Array.getElem?_setIfInBounds_ne (Ne.symm e)];exact db,rfl,λ_ _=>rfl⟩
 ·have e:cV≠Χ:=λe=>by subst e;rw[hb] at db;cases db;cases Ξ
  rw[aU,Array.getElem?_setIfInBounds_ne e];exact db
section
variable {s m:Nat} {ς o':aN}
theorem At.ne (h:At s ς w) (hm:ς.aT=some m):m≠s:=λe=>by
 obtain⟨⟨ty,J⟩,γ⟩:=h;obtain⟨jo,π⟩:=γ m hm;subst e;rw[J] at π;simp at π
theorem At.mu (h:At s ς w) (hm:ς.aT=some m):∃ty,w.heap[m]?=some (.cells #[.int .i32 (mwd ς),.int .u32 ς.cX] ty (0,0)):=h.2 m hm
theorem At.dz (h:At s ς w) (hm:ς.aT=some m):w.cell? ⟨m,0,none⟩=some (.int .i32 (mwd ς)):=let ⟨_,J⟩:=h.mu hm;nS J rfl
theorem At.eN (h:At s ς w) (hm:ς.aT=some m):w.cell? ⟨m,1,none⟩=some (.int .u32 ς.cX):=let ⟨_,J⟩:=h.mu hm;nS J rfl
theorem At.cP (h:At s ς w):w.cell? ⟨s,0,none⟩=some (.int .u64 (cM ς)):=let ⟨_,J⟩:=h.1;nS J rfl
theorem At.Τ (h:At s ς w):w.cell? ⟨s,1,none⟩=some (.int .u32 ς.cE):=let ⟨_,J⟩:=h.1;nS J rfl
theorem O0 {cV off:Nat} {c:Array Value} {ty:TypeId} (hb:w.heap[cV]?=some (.cells c ty (0,0))):w.frozen? ⟨cV,off,none⟩=false:=by
 simp[World.frozen?,hb]
theorem At.x' (h:At s ς w) (hm:ς.aT=some m) (off:Nat):w.frozen? ⟨m,off,none⟩=false:=let ⟨_,J⟩:=h.mu hm;O0 J
theorem At.uF (h:At s ς w) (off:Nat):w.frozen? ⟨s,off,none⟩=false:=let ⟨_,J⟩:=h.1;O0 J
theorem At.Er (h:At s ς w) (hm:ς.aT=some m) (da:o'.aT=ς.aT) (Υ:cM o'=cM ς) (hw:o'.cE=ς.cE) {off:Nat} {v:Value} (hv:(#[.int .i32 (mwd ς),.int .u32 ς.cX]:Array Value).setIfInBounds off v=#[.int .i32 (mwd o'),.int .u32 o'.cX]):At s o' (w.setCell ⟨m,off,none⟩ v):=by
 have bz:=h.ne hm;obtain⟨jo,π⟩:=h.mu hm;obtain⟨⟨ty,J⟩,γ⟩:=h;have aU:=heap_setCell (w:=w) (a:=⟨m,off,none⟩) (v:=v) rfl π;refine⟨⟨ty,?_⟩,λb0 hY=>⟨jo,?_⟩⟩
 ·rw[aU,Array.getElem?_setIfInBounds_ne bz,Υ,hw];exact J
 ·rw[da,hm] at hY;cases hY;rw[aU,Array.getElem?_setIfInBounds_self_of_lt (fr π),hv]
theorem At.ya (h:At s ς w) (da:o'.aT=ς.aT) (Υ:mwd o'=mwd ς) (hw:o'.cX=ς.cX) {off:Nat} {v:Value} (hv:(#[.int .u64 (cM ς),.int .u32 ς.cE]:Array Value).setIfInBounds off v=#[.int .u64 (cM o'),.int .u32 o'.cE]):At s o' (w.setCell ⟨s,off,none⟩ v):=by
 have bz:=λm hm=>h.ne (m:=m) hm;obtain⟨⟨ty,J⟩,γ⟩:=h;have aU:=heap_setCell (w:=w) (a:=⟨s,off,none⟩) (v:=v) rfl J;refine⟨⟨ty,?_⟩,λb0 hY=>?_⟩
 ·rw[aU,Array.getElem?_setIfInBounds_self_of_lt (fr J),hv]
 ·rw[da] at hY;obtain⟨jo,π⟩:=γ b0 hY;exact⟨jo,by rw[aU,Array.getElem?_setIfInBounds_ne (Ne.symm (bz b0 hY)),Υ,hw];exact π⟩
theorem At.Es (h:At s ς w) (hm:ς.aT=some m) {sp:Spec} (ο:sp.aT=some m) {off:Nat} (v:Value):fq (λΧ _=>eb s sp Χ) (λ_=>False) w (w.setCell ⟨m,off,none⟩ v):=
 let ⟨_,J⟩:=h.mu hm;OZ J v λ_=>.inr ο
theorem At.yb (h:At s ς w) {sp:Spec} {off:Nat} (v:Value):fq (λΧ _=>eb s sp Χ) (λ_=>False) w (w.setCell ⟨s,off,none⟩ v):=
 let ⟨_,J⟩:=h.1;OZ J v λ_=>.inl rfl
end
theorem O1 {s d:Nat} {sp:Spec}:oN s sp d #[]:=⟨rfl,λj e h=>by simp at h⟩
theorem rC {s cV off d:Nat} {sp:Spec} {es:Array Event} (hb:eb s sp cV) (hd:0<d) (ο:∀y∈es,y.loc=.cell ⟨cV,off,none⟩/\y.sync=true):oN s sp d es:=by
 have tM:∀(es:Array Event),(∀y∈es,y.loc=.cell ⟨cV,off,none⟩/\y.sync=true)->deafBehind d es=d:=by
  intro es;obtain⟨l⟩:=es;intro h;unfold deafBehind;simp only[List.foldl_toArray']
  induction l with
  | nil=>rfl
  | cons y l Δ=>
   simp only[List.foldl_cons];have:=h y (by simp);rw[this.1];exact Δ λz Θ=>h z (by simp at Θ ⊢;exact .inr Θ)
 refine⟨tM es ο,λj y Ξ=>.inr (.inr ⟨cV,off,y.write,?_,hb,?_⟩)⟩
 ·have:=ο y (Array.mem_of_getElem? Ξ);obtain⟨l,w1,s1⟩:=y;simp only at this;rw[this.1,this.2]
 ·rw[tM]
  ·exact hd
  ·intro z Θ;exact ο z (by
    rw[Array.mem_iff_getElem?] at Θ ⊢;obtain⟨q,Ρ⟩:=Θ;rw[Array.getElem?_extract] at Ρ;split at Ρ
    ·exact⟨_,Ρ⟩
    ·cases Ρ)
end
end Go.TL
namespace Go.TL
open Go.Conc
open Go.ConcM (OsLater)
open Go.ConcN (sumTo upd sumTo_upd upd_ne upd_same sumTo_congr le_sumTo)
variable [bm]
section
variable {P:Program} {Q:Value->Prop} {mn:Bool} {x:aV} {b:Frame} {cs:List Frame} {nt:Nat} {o:Base} {k:List Item} {env:aa} {σ:List Row}
variable {ops:Array Oper} {i:Nat} {rest:List Nat} {op:Oper} {f:FuncId} {e:Array Value->Sem Value} {args:Array Operand} {vs:List Value}
def h0 (P:Program) (Q:Value->Prop) (mn:Bool) (x:aV) (b:Frame) (cs:List Frame) (nt:Nat) (o:Base) (ops:Array Oper) (rest:List Nat) (k:List Item) (op:Oper) (env:aa) (σ:List Row) (s φ:Nat) (ς:aN) (v:Value):Prop:=
 V P Q mn (one {x with view:=upd x.view s (some (φ,ς))}) b cs nt o (.inRegion ops rest::k) (ca op env (.z v)) σ
def qs (P:Program) (Q:Value->Prop) (mn:Bool) (x:aV) (b:Frame) (cs:List Frame) (nt:Nat) (o:Base) (ops:Array Oper) (rest:List Nat) (k:List Item) (op:Oper) (env:aa) (σ:List Row) (s φ:Nat) (ς:aN) (v:Value) (o':aN) (t':Tok):Prop:=
 Act ς (x.tok s) o' t'/\∀cl,cl<φ->V P Q mn (one {x with tok:=upd x.tok s t',view:=upd x.view s (some (cl,o'))}) b cs nt o (.inRegion ops rest::k) (ca op env (.z v)) σ
structure Seen (x:aV) (s:Nat) (sp:Spec) (φ:Nat) (ς:aN):Prop where
 spec:ς.toSpec=sp
 view:Gh x s φ ς
 jc:vh ς (x.tok s)
theorem V.ext (U:eL x) {s:Nat} {sp:Spec} (bU:x.spec s=some sp) (cH:¬fU (x.tok s)) (h:gS P b ops i op f e args env vs nt)
  (aU:∀(w:World) (φ:Nat) (ς:aN),Seen x s sp φ ς->At s ς w->
   (∃v w' gi,(e vs.toArray).run P w=.ok v w'/\(e vs.toArray).events P w #[⟨.mark (Mark.extern f),false,true⟩]=#[⟨.mark (Mark.extern f),false,true⟩]++gi/\(∀y∈gi,y.sync=true/\∀g,y.loc≠.mark (Mark.extern g))/\
    fq (λΧ _=>eb s sp Χ) (λ_=>False) w w'/\oN s sp x.deaf gi/\
    ((At s ς w'/\h0 P Q mn x b cs nt o ops rest k op env σ s φ ς v)\/∃o' t',At s o' w'/\qs P Q mn x b cs nt o ops rest k op env σ s φ ς v o' t'))\/
   (jW ς (x.tok s)/\(∀bq,bq≠s->nf (x.tok bq))/\(e vs.toArray).run P w=.halt .blocked w)) :
  V P Q mn (one x) b cs nt o (.inRegion ops (i::rest)::k) env σ:=by
 obtain⟨dS,Ν⟩:=h.call;refine .atomic U bU cH h.dst h.want λt w φ ς _ k4 hw J γ π Μ=>?_;rcases aU w φ ς ⟨J,π,Μ⟩ γ with⟨v,w',gi,a1,bl,cz,gb,hA,md⟩|⟨a1,bl,cz⟩
 ·refine .inl ⟨v,w',gi,Em h.kX h.at_ hw Ν (k4 _ _ h.AB) a1 bl cz,gb,hA,md.imp id λ⟨o',t',bG,dj,fT⟩=>⟨o',t',dj,bG,.inl (OX h.kX h.at_ Ν),fT⟩⟩
 ·exact .inr ⟨a1,bl,Ze h.kX h.at_ hw Ν (k4 _ _ h.AB) cz⟩
theorem rD (cu:Addr):∀y∈(#[⟨.cell cu,false,true⟩,⟨.cell cu,true,true⟩]:Array Event),y.loc=.cell cu/\y.sync=true:=by
 intro y Ξ;simp at Ξ;rcases Ξ with rfl|rfl<;>exact⟨rfl,rfl⟩
theorem rE (cu:Addr) (wr:Bool):∀y∈(#[⟨.cell cu,wr,true⟩]:Array Event),y.loc=.cell cu/\y.sync=true:=by
 intro y Ξ;simp at Ξ;subst Ξ;exact⟨rfl,rfl⟩
theorem rF {cu:Addr} {es:Array Event} (h:∀y∈es,y.loc=.cell cu/\y.sync=true):∀y∈es,y.sync=true/\∀g,y.loc≠.mark (Mark.extern g):=λy Ξ=>⟨(h y Ξ).2,λg e=>by rw[(h y Ξ).1] at e;cases e⟩
structure yc (ς o':aN):Prop where
 aT:o'.aT=ς.aT
 g:cM o'=cM ς
 w:o'.cE=ς.cE
structure rG (ς o':aN):Prop where
 aT:o'.aT=ς.aT
 g:mwd o'=mwd ς
 w:o'.cX=ς.cX
section
variable {s m:Nat} {sp:Spec} (U:eL x) (hd:0<x.deaf) (bU:x.spec s=some sp) (cH:¬fU (x.tok s))
include U hd bU cH
theorem V.Et (hm:sp.aT=some m) {old new:Int} (h:gS P b ops i op f (Extern.Atomic.casT (.int .i32)) args env [.pointer (some ⟨m,0,none⟩),.int .i32 old,.int .i32 new] nt)
  (AD:∀φ ς,Seen x s sp φ ς->¬mwd ς=old->h0 P Q mn x b cs nt o ops rest k op env σ s φ ς (.bool false)\/∃t',qs P Q mn x b cs nt o ops rest k op env σ s φ ς (.bool false) ς t')
  (dk:∀φ ς,Seen x s sp φ ς->mwd ς=old->∃o' t',mwd o'=new/\o'.cX=ς.cX/\yc ς o'/\qs P Q mn x b cs nt o ops rest k op env σ s φ ς (.bool true) o' t') :
  V P Q mn (one x) b cs nt o (.inRegion ops (i::rest)::k) env σ:=by
 refine .ext U bU cH h λw φ ς ο bB=>.inl ?_;have da:ς.aT=some m:=by rw[ο.spec];exact hm
 have ζ:=bB.dz da
 have Θ:=bB.x' da 0;by_cases hv:mwd ς=old
 ·obtain⟨o',t',J,γ,π,Μ⟩:=dk φ ς ο hv;subst hv;refine⟨.bool true,_,_,(congrArg (Sem.run P · w) (casT_eq _ _)).trans (run_cas_hit_entry ζ Θ),?_,rF (rD ⟨m,0,none⟩),bB.Es da hm _,rC (.inr hm) hd (rD ⟨m,0,none⟩),.inr ⟨o',t',bB.Er da π.aT π.g π.w ?_,Μ⟩⟩
  ·exact(congrArg (Sem.events P · w _) (casT_eq _ _)).trans ((events_cas_hit_entry ζ Θ _).trans rfl)
  ·rw[J,γ];rfl
 ·refine⟨.bool false,w,_,(congrArg (Sem.run P · w) (casT_eq _ _)).trans (run_cas_miss_entry ζ Θ hv),?_,rF (rE ⟨m,0,none⟩ false),fq.refl _ _ _,rC (.inr hm) hd (rE ⟨m,0,none⟩ false),?_⟩
  ·exact(congrArg (Sem.events P · w _) (casT_eq _ _)).trans ((events_cas_miss_entry ζ Θ hv _).trans rfl)
  ·exact(AD φ ς ο hv).imp (λh=>⟨bB,h⟩) λ⟨t',h⟩=>⟨ς,t',bB,h⟩
theorem V.O2 (hm:sp.aT=some m) {d:Int} (h:gS P b ops i op f (Extern.Atomic.update (Op.intArith .add) .i32 true) args env [.pointer (some ⟨m,0,none⟩),.int .i32 d] nt)
  (dk:∀φ ς,Seen x s sp φ ς->∃o' t',mwd o'=IntKind.i32.wrap (mwd ς+d)/\o'.cX=ς.cX/\yc ς o'/\qs P Q mn x b cs nt o ops rest k op env σ s φ ς (.int .i32 (mwd o')) o' t') :
  V P Q mn (one x) b cs nt o (.inRegion ops (i::rest)::k) env σ:=by
 refine .ext U bU cH h λw φ ς ο bB=>.inl ?_;have da:ς.aT=some m:=by rw[ο.spec];exact hm
 have ζ:=bB.dz da
 have Θ:=bB.x' da 0;obtain⟨o',t',J,γ,π,Μ⟩:=dk φ ς ο;rw[J] at Μ;refine⟨_,_,_,run_add_entry ζ Θ,(events_add_entry ζ Θ _).trans rfl,rF (rD ⟨m,0,none⟩),bB.Es da hm _,rC (.inr hm) hd (rD ⟨m,0,none⟩),.inr ⟨o',t',bB.Er da π.aT π.g π.w ?_,Μ⟩⟩;rw[J,γ];rfl
theorem V.IP (h:gS P b ops i op f (Extern.Atomic.loadT (.int .u64)) args env [.pointer (some ⟨s,0,none⟩)] nt)
  (dk:∀φ ς,Seen x s sp φ ς->h0 P Q mn x b cs nt o ops rest k op env σ s φ ς (.int .u64 (cM ς))\/∃t',qs P Q mn x b cs nt o ops rest k op env σ s φ ς (.int .u64 (cM ς)) ς t') :
  V P Q mn (one x) b cs nt o (.inRegion ops (i::rest)::k) env σ:=by
 refine .ext U bU cH h λw φ ς ο bB=>.inl ?_;have ζ:=bB.cP;refine⟨.int .u64 (cM ς),w,#[⟨.cell ⟨s,0,none⟩,false,true⟩],?_,?_,rF (rE _ false),fq.refl _ _ _,rC (.inl rfl) hd (rE _ false),(dk φ ς ο).imp (λh=>⟨bB,h⟩) λ⟨t',h⟩=>⟨ς,t',bB,h⟩⟩
 ·change Sem.run P (do Extern.Atomic.read (.int .u64) (<-asAddr (.pointer (some _)))) w=_;simp[Extern.Atomic.read,asAddr,ζ]
 ·change Sem.events P (do Extern.Atomic.read (.int .u64) (<-asAddr (.pointer (some _)))) w _=_;simp[Extern.Atomic.read,asAddr,ζ,events_load]
theorem V.Zi {old new:Int} (h:gS P b ops i op f (Extern.Atomic.casT (.int .u64)) args env [.pointer (some ⟨s,0,none⟩),.int .u64 old,.int .u64 new] nt)
  (AD:∀φ ς,Seen x s sp φ ς->¬cM ς=old->h0 P Q mn x b cs nt o ops rest k op env σ s φ ς (.bool false))
  (dk:∀φ ς,Seen x s sp φ ς->cM ς=old->∃o' t',cM o'=new/\o'.cE=ς.cE/\rG ς o'/\qs P Q mn x b cs nt o ops rest k op env σ s φ ς (.bool true) o' t') :
  V P Q mn (one x) b cs nt o (.inRegion ops (i::rest)::k) env σ:=by
 refine .ext U bU cH h λw φ ς ο bB=>.inl ?_;have ζ:=bB.cP;have Θ:=bB.uF 0;by_cases hv:cM ς=old
 ·obtain⟨o',t',J,γ,π,Μ⟩:=dk φ ς ο hv;subst hv;refine⟨.bool true,_,_,(congrArg (Sem.run P · w) (casT_eq _ _)).trans (run_cas_hit_entry ζ Θ),?_,rF (rD ⟨s,0,none⟩),bB.yb _,rC (.inl rfl) hd (rD ⟨s,0,none⟩),.inr ⟨o',t',bB.ya π.aT π.g π.w ?_,Μ⟩⟩
  ·exact(congrArg (Sem.events P · w _) (casT_eq _ _)).trans ((events_cas_hit_entry ζ Θ _).trans rfl)
  ·rw[J,γ];rfl
 ·refine⟨.bool false,w,_,(congrArg (Sem.run P · w) (casT_eq _ _)).trans (run_cas_miss_entry ζ Θ hv),?_,rF (rE ⟨s,0,none⟩ false),fq.refl _ _ _,rC (.inl rfl) hd (rE ⟨s,0,none⟩ false),.inl ⟨bB,AD φ ς ο hv⟩⟩;exact(congrArg (Sem.events P · w _) (casT_eq _ _)).trans ((events_cas_miss_entry ζ Θ hv _).trans rfl)
theorem V.IQ {d:Int} (h:gS P b ops i op f (Extern.Atomic.update (Op.intArith .add) .u64 true) args env [.pointer (some ⟨s,0,none⟩),.int .u64 d] nt)
  (dk:∀φ ς,Seen x s sp φ ς->∃o' t',cM o'=IntKind.u64.wrap (cM ς+d)/\o'.cE=ς.cE/\rG ς o'/\qs P Q mn x b cs nt o ops rest k op env σ s φ ς (.int .u64 (cM o')) o' t') :
  V P Q mn (one x) b cs nt o (.inRegion ops (i::rest)::k) env σ:=by
 refine .ext U bU cH h λw φ ς ο bB=>.inl ?_;have ζ:=bB.cP;have Θ:=bB.uF 0;obtain⟨o',t',J,γ,π,Μ⟩:=dk φ ς ο;rw[J] at Μ;refine⟨_,_,_,run_add_entry ζ Θ,(events_add_entry ζ Θ _).trans rfl,rF (rD ⟨s,0,none⟩),bB.yb _,rC (.inl rfl) hd (rD ⟨s,0,none⟩),.inr ⟨o',t',bB.ya π.aT π.g π.w ?_,Μ⟩⟩;rw[J,γ];rfl
end
theorem O3 {w:World} {cu:Addr} {n:Int} {vs:List Value} (U:vs[0]?=some (.pointer (some cu))) (ζ:w.cell? cu=some (.int .u32 n)) (q9:n≠0) (Θ:w.frozen? cu=false):(Extern.Sync.semacquire vs.toArray).run P w=.ok (.tuple #[]) (w.setCell cu (.int .u32 (n-1))):=by
 simp[Extern.Sync.semacquire,Extern.Sync.count,U,ζ,q9,Θ,Extern.Sync.none_,run_store P w cu (.int .u32 (n-1)) .atomic rfl,Result.andThen]
theorem O4 {w:World} {cu:Addr} {n:Int} {vs:List Value} (U:vs[0]?=some (.pointer (some cu))) (ζ:w.cell? cu=some (.int .u32 n)) (q9:n≠0) (Θ:w.frozen? cu=false) (es:Array Event):(Extern.Sync.semacquire vs.toArray).events P w es=es++semEvents cu:=by
 simp[Extern.Sync.semacquire,Extern.Sync.count,U,ζ,q9,Θ,semEvents,events_load,events_store P w _ cu (.int .u32 (n-1)) .atomic rfl,run_store P w cu (.int .u32 (n-1)) .atomic rfl,Result.evThen];apply Array.ext';simp
theorem O5 {w:World} {cu:Addr} {vs:List Value} (U:vs[0]?=some (.pointer (some cu))) (ζ:w.cell? cu=some (.int .u32 0)):(Extern.Sync.semacquire vs.toArray).run P w=.halt .blocked w:=by
 simp[Extern.Sync.semacquire,Extern.Sync.count,U,ζ]
theorem O6 {w:World} {cu:Addr} {n:Int} {vs:List Value} (U:vs[0]?=some (.pointer (some cu))) (ζ:w.cell? cu=some (.int .u32 n)) (Θ:w.frozen? cu=false):(Extern.Sync.semrelease vs.toArray).run P w=.ok (.tuple #[]) (w.setCell cu (.int .u32 (IntKind.u32.wrap (n+1)))):=by
 simp[Extern.Sync.semrelease,Extern.Sync.count,U,ζ,Θ,Extern.Sync.none_,Op.intArith,run_store P w cu (.int .u32 (IntKind.u32.wrap (n+1))) .atomic rfl,Result.andThen]
theorem O7 {w:World} {cu:Addr} {n:Int} {vs:List Value} (U:vs[0]?=some (.pointer (some cu))) (ζ:w.cell? cu=some (.int .u32 n)) (Θ:w.frozen? cu=false) (es:Array Event):(Extern.Sync.semrelease vs.toArray).events P w es=es++semEvents cu:=by
 simp[Extern.Sync.semrelease,Extern.Sync.count,U,ζ,Θ,semEvents,Op.intArith,events_load,events_store P w _ cu (.int .u32 (IntKind.u32.wrap (n+1))) .atomic rfl,run_store P w cu (.int .u32 (IntKind.u32.wrap (n+1))) .atomic rfl,Result.evThen];apply Array.ext';simp
theorem Eu {s cV off d:Nat} {sp:Spec} (hb:eb s sp cV):oN s sp d (semEvents ⟨cV,off,none⟩):=by
 refine⟨by simp[deafBehind,semEvents],λj y Ξ=>?_⟩
 match j,Ξ with
 | 0,Ξ=>simp[semEvents] at Ξ;subst Ξ;exact .inl rfl
 | 1,Ξ=>simp[semEvents] at Ξ;subst Ξ;exact .inr (.inr ⟨cV,off,false,rfl,hb,by simp[semEvents,deafBehind]⟩)
 | 2,Ξ=>simp[semEvents] at Ξ;subst Ξ;exact .inr (.inr ⟨cV,off,true,rfl,hb,by simp[semEvents,deafBehind]⟩)
 | 3,Ξ=>simp[semEvents] at Ξ;subst Ξ;exact .inr (.inl rfl)
 | j+4,Ξ=>simp[semEvents] at Ξ
section
variable {s m:Nat} {sp:Spec} (U:eL x) (bU:x.spec s=some sp) (cH:¬fU (x.tok s))
include U bU cH
theorem V.Zj (hm:sp.aT=some m) (ag:vs[0]?=some (.pointer (some ⟨m,1,none⟩))) (cA:∀bq,bq≠s->nf (x.tok bq)) (h:gS P b ops i op f Extern.Sync.semacquire args env vs nt)
  (wait:∀φ ς,Seen x s sp φ ς->ς.cX=0->jW ς (x.tok s))
  (dk:∀φ ς,Seen x s sp φ ς->0<ς.cX->∃o' t',mwd o'=mwd ς/\o'.cX=ς.cX-1/\yc ς o'/\qs P Q mn x b cs nt o ops rest k op env σ s φ ς (.tuple #[]) o' t') :
  V P Q mn (one x) b cs nt o (.inRegion ops (i::rest)::k) env σ:=by
 refine .ext U bU cH h λw φ ς ο bB=>?_;have da:ς.aT=some m:=by rw[ο.spec];exact hm
 have ζ:=bB.eN da;by_cases hv:ς.cX=0
 ·exact .inr ⟨wait φ ς ο hv,cA,O5 ag (by rw[ζ,hv];rfl)⟩
 ·obtain⟨o',t',J,γ,π,Μ⟩:=dk φ ς ο (by omega);have Η:((ς.cX:Nat):Int)≠0:=by omega
  refine .inl ⟨_,_,_,O3 ag ζ Η (bB.x' da 1),O4 ag ζ Η (bB.x' da 1) _,semEvents_sync _,bB.Es da hm _,Eu (.inr hm),.inr ⟨o',t',bB.Er da π.aT π.g π.w ?_,Μ⟩⟩;rw[J,γ,show((ς.cX:Nat):Int)-1=((ς.cX-1:Nat):Int) by omega];rfl
theorem V.Zk (ag:vs[0]?=some (.pointer (some ⟨s,1,none⟩))) (cA:∀bq,bq≠s->nf (x.tok bq)) (h:gS P b ops i op f Extern.Sync.semacquire args env vs nt)
  (wait:∀φ ς,Seen x s sp φ ς->ς.cE=0->jW ς (x.tok s))
  (dk:∀φ ς,Seen x s sp φ ς->0<ς.cE->∃o' t',cM o'=cM ς/\o'.cE=ς.cE-1/\rG ς o'/\qs P Q mn x b cs nt o ops rest k op env σ s φ ς (.tuple #[]) o' t') :
  V P Q mn (one x) b cs nt o (.inRegion ops (i::rest)::k) env σ:=by
 refine .ext U bU cH h λw φ ς ο bB=>?_;have ζ:=bB.Τ;by_cases hv:ς.cE=0
 ·exact .inr ⟨wait φ ς ο hv,cA,O5 ag (by rw[ζ,hv];rfl)⟩
 ·obtain⟨o',t',J,γ,π,Μ⟩:=dk φ ς ο (by omega);have Η:((ς.cE:Nat):Int)≠0:=by omega
  refine .inl ⟨_,_,_,O3 ag ζ Η (bB.uF 1),O4 ag ζ Η (bB.uF 1) _,semEvents_sync _,bB.yb _,Eu (.inl rfl),.inr ⟨o',t',bB.ya π.aT π.g π.w ?_,Μ⟩⟩;rw[J,γ,show((ς.cE:Nat):Int)-1=((ς.cE-1:Nat):Int) by omega];rfl
theorem V.O8 (hm:sp.aT=some m) (ag:vs[0]?=some (.pointer (some ⟨m,1,none⟩))) (h:gS P b ops i op f Extern.Sync.semrelease args env vs nt)
  (dk:∀φ ς,Seen x s sp φ ς->ς.cX<1000/\∃o' t',mwd o'=mwd ς/\o'.cX=ς.cX+1/\yc ς o'/\qs P Q mn x b cs nt o ops rest k op env σ s φ ς (.tuple #[]) o' t') :
  V P Q mn (one x) b cs nt o (.inRegion ops (i::rest)::k) env σ:=by
 refine .ext U bU cH h λw φ ς ο bB=>.inl ?_;have da:ς.aT=some m:=by rw[ο.spec];exact hm
 have ζ:=bB.eN da;obtain⟨aD,o',t',J,γ,π,Μ⟩:=dk φ ς ο;refine⟨_,_,_,O6 ag ζ (bB.x' da 1),O7 ag ζ (bB.x' da 1) _,semEvents_sync _,bB.Es da hm _,Eu (.inr hm),.inr ⟨o',t',bB.Er da π.aT π.g π.w ?_,Μ⟩⟩;rw[J,γ,show IntKind.u32.wrap (((ς.cX:Nat):Int)+1)=((ς.cX+1:Nat):Int) by simp only[IntKind.wrap_u32];omega];rfl
end
end
end Go.TL
