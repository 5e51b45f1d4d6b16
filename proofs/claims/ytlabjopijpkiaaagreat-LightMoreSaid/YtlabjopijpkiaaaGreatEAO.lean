import Derived.Conc.AtomicLaws2
import Derived.Conc.ClockLaws
import Derived.Conc.MarkLaws
import Derived.Conc.QuitsD
import Derived.Conc.SmallLaws
import Derived.Test.YtlabjopijpkiaaaGreatEAN
set_option maxHeartbeats 16000000
set_option maxRecDepth 20000
set_option linter.unusedSectionVars false
set_option linter.unusedSimpArgs false
set_option linter.unusedVariables false
namespace Go.TL
open Go.Proofs
variable [bq]
theorem Zj (l:List Int) (π:l.length<2 ^ 30) :
  af Tryz.prog 85 [.ms 0 l.length 0 l.length] [.cells 3 1 (l.map I)] (λr s=>(∃e k,r=.sl e k (l.map I)/\(l≠[]->k=1))/\s=[.cells 3 1 (l.map I)]) (λ_ _=>False):=by
 refine af.body Φ Tryz.func85 rfl rfl Tryz.ntmps85 rfl rfl η ?_;have j5:l.length<=4294967295:=J;by_cases Ψ:l=[]
 ·subst Ψ;refine Η ?_;refine bc λΚ κ=>?_;intro j ζ;apply κ;by_cases sk:j=1
  ·refine aC (by simp[sk]) ?_;refine Η ?_;exact W.ret ⟨_,rfl,⟨true,0,rfl,λh=>absurd rfl h⟩,rfl⟩
  ·refine ay (by simp[sk]) ?_
   repeat apply ae
   refine dj (A:=[5,7]) Φ λΚ κ=>bp ?_;apply κ;refine W.cut 1 (Nat.le_refl _) [(2,.sl false 1 [])] η (λid r cb μ=>?_) (λp ω=>?_) ?_
   ·obtain rfl:id=0:=J
    simp at μ;subst μ;simp[fC]
   ·obtain rfl:p=(2,.sl false 1 []):=by simpa using ω
    exact eK.own (id:=1) (t:=3) (Nat.le_refl _) rfl η η
   ·exact W.ret ⟨_,rfl,⟨false,1,rfl,λ_=>rfl⟩,rfl⟩
 ·refine Η ?_;refine g9 Ψ λΚ κ=>?_;apply κ;refine ay rfl ?_
  repeat apply ae
  have l6:List.take l.length (l.map I)=l.map I:=List.take_of_length_le η
  have Zk:l.length<=4294967296:=J;refine dj (A:=[5,7]) Φ λΚ κ=>gh (ς j5 (ς Ψ (ς l6 Zk))) ?_;apply κ;have hb:∀e∈l.map I,∀a∈e.cells,aG 1 a:=λe he a ν=>by
   obtain⟨x,_,rfl⟩:=List.mem_map.1 he;simp[θ.cells] at ν;subst ν;simp
  refine W.cut 1 (Nat.le_refl _) [(2,.sl false 1 (l.map I))] η (λid r cb μ=>?_) (λp ω=>?_) ?_
  ·obtain rfl:id=0:=J
   simp at μ;subst μ;exact hb
  ·obtain rfl:p=(2,.sl false 1 (l.map I)):=by simpa using ω
   exact eK.own (id:=1) (t:=3) (Nat.le_refl _) rfl η hb
  ·exact W.ret ⟨_,rfl,⟨false,1,rfl,λ_=>rfl⟩,rfl⟩
abbrev vq (k:List Int):θ:=.a3 (k.map I)
abbrev qh (e:List Int×Int):θ×θ:=(vq e.1,I e.2)
def Bv (m:List (List Int×Int)):Prop:=∀e∈m,e.1.length=4
theorem Zl (x y:List Int) (δ:x.length=4) (Μ:y.length=4):aeqv bm 157 (vq x) (vq y)=some (decide (x=y)):=by
 match x,δ,y,Μ with
 | [a,b,c,d],_,[cj,ag,c',eo],_=>
  simp[aeqv,kF,nB,Bool.eq_iff_iff]
def ll:List (List Int×Int)->List Int->Int->List (List Int×Int)
 | [],k,v=>[(k,v)]
 | e::r,k,v=>if k=e.1 then(k,v)::r else e::ll r k v
def xu:List (List Int×Int)->List Int->Option Int
 | [],_=>none
 | e::r,k=>if k=e.1 then some e.2 else xu r k
theorem Zm (k:List Int) (ψ:k.length=4):∀(m:List (List Int×Int)) (d:Nat),Bv m->(iC bm 157 (vq k) (m.map qh) d=some none/\xu m k=none/\∀v,ll m k v=m++[(k,v)])\/
  ∃i x,i<m.length/\iC bm 157 (vq k) (m.map qh) d=some (some (d+i,I x))/\xu m k=some x/\∀v,ll m k v=m.set i (k,v):=by
 intro m
 induction m with
 | nil=>intro d _;exact .inl ⟨rfl,rfl,λ_=>rfl⟩
 | cons e r Α=>
  intro d Ι;have Χ:=Zl k e.1 ψ (Ι e η);by_cases h:k=e.1
  ·refine .inr ⟨0,e.2,η,?_,by simp[xu,h],λv=>by simp[ll,h]⟩;simp only[List.map_cons,iC,Χ];simp[h]
  ·have hb:decide (k=e.1)=false:=by simpa using h
   rcases Α (d+1) (λx δ=>Ι x (by simp[δ])) with⟨U,γ,ο⟩|⟨i,x,U,γ,ο,ax⟩
   ·refine .inl ⟨?_,by simp[xu,h,γ],λv=>by simp[ll,h,ο]⟩;simp only[List.map_cons,iC,Χ,hb,cond_false];exact U
   ·refine .inr ⟨i+1,x,by simp;omega,?_,by simp[xu,h,ο],λv=>by simp[ll,h,ax]⟩;simp only[List.map_cons,iC,Χ,hb,cond_false];rw[γ];have:d+1+i=d+(i+1):=J;rw[this]
theorem O6 {m:List (List Int×Int)} (h:Bv m) {k:List Int} (ψ:k.length=4) (v:Int):Bv (ll m k v):=by
 induction m with
 | nil=>intro e he;simp[ll] at he;subst he;exact ψ
 | cons a r Α=>
  intro e he;unfold ll at he;split at he
  ·rcases List.mem_cons.1 he with rfl|he
   ·exact ψ
   ·exact h e (by simp[he])
  ·rcases List.mem_cons.1 he with rfl|he
   ·exact h _ η
   ·exact Α (λx δ=>h x (by simp[δ])) e he
def qi (s:aU) (p r:Int×Int) (L:List Nat) (k:Nat):List Int:=((L.take k).map λx=>s.gv p r x)++List.replicate (4-k) 0
theorem O7 {s:aU} {p r:Int×Int} {L:List Nat} {k:Nat} (ψ:k<=L.length) (Ι:L.length<=4):(qi s p r L k).length=4:=by simp[qi];omega
theorem Zn {s:aU} {p r:Int×Int} {L:List Nat} {k:Nat} (ψ:k<L.length) (Ι:L.length<=4):(qi s p r L k).take k++s.gv p r L[k]::(qi s p r L k).drop (k+1)=qi s p r L (k+1):=by
 have Ζ:((L.take k).map λx=>s.gv p r x).length=k:=by simp;omega
 have Ε:4-k=(4-(k+1))+1:=J;unfold qi;rw[List.take_left' Ζ,List.drop_append,List.drop_eq_nil_of_le J,Ζ,List.take_succ_eq_append_getElem ψ,List.map_append,Ε,List.replicate_succ];have a8:k+1-k=1:=J;rw[a8];simp
abbrev y0:=Option (List (List Int×Int))
def y1 (m:y0) (k:List Int) (v:Int):y0:=m.bind λm=>match xu m k with|some x=>if x=v then some (ll m k v) else none|none=>some (ll m k v)
def nN (s:aU) (f:Found) (cell:Nat) (lower:Bool) (L:List Nat) (m:y0) (j:Nat):y0:=(((f.cells[cell]?).getD []).take j).foldl (λm r=>y1 m (qi s (f.u,f.v) r L L.length) (lK lower r)) m
def vr (s:aU) (F:List Found) (cell:Nat) (lower:Bool) (L:List Nat) (i:Nat):y0:=(F.take i).foldl (λm f=>nN s f cell lower L m ((f.cells[cell]?).getD []).length) (some [])
def sx (s:aU) (F:List Found) (cell:Nat) (lower:Bool) (L:List Nat):Bool:=(vr s F cell lower L F.length).isSome
theorem Zo (s:aU) (f:Found) (cell:Nat) (lower:Bool) (L:List Nat) (m:y0) (j:Nat) (h:j<((f.cells[cell]?).getD []).length):nN s f cell lower L m (j+1)=y1 (nN s f cell lower L m j) (qi s (f.u,f.v) ((f.cells[cell]?).getD [])[j] L L.length) (lK lower ((f.cells[cell]?).getD [])[j]):=by
 unfold nN;rw[List.take_succ_eq_append_getElem h,List.foldl_append];rfl
theorem O8 (s:aU) (F:List Found) (cell:Nat) (lower:Bool) (L:List Nat) (i:Nat) (h:i<F.length):vr s F cell lower L (i+1)=nN s F[i] cell lower L (vr s F cell lower L i) ((F[i].cells[cell]?).getD []).length:=by
 unfold vr;rw[List.take_succ_eq_append_getElem h,List.foldl_append];rfl
theorem O9 (l:List (Int×Int)) (k:(Int×Int)->List Int) (v:Int×Int->Int):l.foldl (λm r=>y1 m (k r) (v r)) none=none:=by
 induction l with
 | nil=>rfl
 | cons a l Α=>exact Α
theorem Zp (s:aU) (F:List Found) (cell:Nat) (lower:Bool) (L:List Nat) {i j:Nat} (hi:i<F.length) (ζ:j<=((F[i].cells[cell]?).getD []).length) (h:nN s F[i] cell lower L (vr s F cell lower L i) j=none):sx s F cell lower L=false:=by
 have U:nN s F[i] cell lower L (vr s F cell lower L i) ((F[i].cells[cell]?).getD []).length=none:=by
  unfold nN at h ⊢;rw[List.take_length]
  conv=>lhs;rw[<-List.take_append_drop j ((F[i].cells[cell]?).getD [])]
  rw[List.foldl_append,h];exact O9 _ _ _
 rw[<-O8 s F cell lower L i hi] at U;unfold sx;unfold vr at U ⊢;rw[List.take_length]
 conv=>lhs;rw[<-List.take_append_drop (i+1) F]
 rw[List.foldl_append,U];have:∀l:List Found,(l.foldl (λm f=>nN s f cell lower L m ((f.cells[cell]?).getD []).length) none)=none:=λl=>by
  induction l with
  | nil=>rfl
  | cons a l Α=>
   rw[List.foldl_cons];have:nN s a cell lower L none ((a.cells[cell]?).getD []).length=none:=by unfold nN;exact O9 _ _ _
   rw[this];exact Α
 rw[this];rfl
abbrev fS (L:List Nat):Row:=.cells 3 1 (L.map λn:Nat=>I n)
theorem Jj {h:Nat} {L:List Nat}:fC h (fS L):=λe he a ν=>by
 obtain⟨x,_,rfl⟩:=List.mem_map.1 he;simp[θ.cells] at ν;subst ν;simp
theorem Zq (s:aU) (ξ:s.small) (F:List Found) (cK:Fg s F) (cell:Nat) (y2:cell<s.cells.length) (lower:Bool) (L:List Nat) (ad:L.length<=4) (kM:∀x∈L,x<s.az.length) :
  af Tryz.prog 84 [fu s,cL F,I cell,ba lower,.ms 0 L.length 0 L.length] [fS L] (λr σ=>r=ba (sx s F cell lower L)/\σ=[fS L]) (λ_ _=>False):=by
 refine af.body Φ Tryz.func84 rfl rfl Tryz.ntmps84 rfl rfl η ?_;refine Η ?_;have sw:∀M:List (List Int×Int),∀r∈[fS L,.map (M.map qh)],fC [fS L,.map (M.map qh)].length r:=λM r μ=>by
  simp only[List.mem_cons,List.not_mem_nil,or_false] at μ;rcases μ with rfl|rfl
  ·exact Jj
  ·intro e he;obtain⟨x,_,rfl⟩:=List.mem_map.1 he;simp
 refine W.iter (λx:Nat×List (List Int×Int)=>x.1<=F.length/\vr s F cell lower L x.1=some x.2/\Bv x.2) (λ(i,_)=>[(2,I cell),(3,ba lower),(4,.ms 0 L.length 0 L.length),(5,.au [aY s.ar,aX s.az,bO s.cells]),(11,.mp 1),(23,cL F),(24,I F.length),(25,I i)])
  (λ(_,M)=>[fS L,.map (M.map qh)]) (λx=>F.length-x.1) (0,[]) ⟨Nat.zero_le _,rfl,λe he=>by cases he⟩ rfl η (λx δ Α=>?_)
 obtain⟨i,M⟩:=x;obtain⟨hi,db,Ι⟩:=δ;simp only at hi db Ι ⊢;refine Η ?_;by_cases l':i<F.length
 ·refine aC (by simp[l']) ?_;have re:=O8 s F cell lower L i l';have sW:=λj=>Zp s F cell lower L (i:=i) (j:=j) l';rw[db] at re sW;obtain⟨oC,jk⟩:=cK.cells _ (List.getElem_mem l');generalize Ρ:F[i]=f at re sW oC jk;have b3:cell<f.cells.length:=by rw[oC];exact y2
  repeat apply ae
  refine dj (A:=[13]) Φ λΚ κ=>gh (ς l' Ρ) ?_;apply κ;refine W.oA (σ0:=[fS L,.map (M.map qh)]) η (sw _) η [(13,.au [I f.u,I f.v,mV f.cells]),(2,I cell),(3,ba lower),(4,.ms 0 L.length 0 L.length),(5,.au [aY s.ar,aX s.az,bO s.cells]),(11,.mp 1),(23,cL F),(24,I F.length),(25,I i)] (by simp[l7,tv,sj]) ?_;refine aE b3 ?_;have Br:(f.cells[cell]?).getD []=f.cells[cell]:=by simp[b3]
  rw[Br] at re sW;have Bs:=jk _ (List.getElem_mem b3);have rf:=Zo s f cell lower L (some M);rw[Br] at rf;generalize f.cells[cell]=C at re Bs rf sW;obtain⟨Zg,Jh⟩:=Bs;refine W.iter (λx:Nat×List (List Int×Int)=>x.1<=C.length/\nN s f cell lower L (some M) x.1=some x.2/\Bv x.2) (λ(j,_)=>[(2,I cell),(3,ba lower),(4,.ms 0 L.length 0 L.length),(5,.au [aY s.ar,aX s.az,bO s.cells]),(11,.mp 1),(23,cL F),(24,I F.length),(25,I i),(13,.au [I f.u,I f.v,mV f.cells]),(33,k' C),(34,I C.length),(35,I j)])
   (λ(_,M)=>[fS L,.map (M.map qh)]) (λx=>C.length-x.1) (0,M) ⟨Nat.zero_le _,rfl,Ι⟩ rfl η (λx δ fL=>?_)
  obtain⟨j,M2⟩:=x;obtain⟨ζ,yZ,Bw⟩:=δ;simp only at ζ yZ Bw ⊢;refine Η ?_;by_cases m2:j<C.length
  ·refine aC (by simp[m2]) ?_;have rh:=rf j m2;rw[yZ] at rh;obtain⟨ny,oy⟩:=Jh _ (List.getElem_mem m2);generalize μ:C[j]=r at rh ny oy
   repeat apply ae
   refine dj (A:=[15]) Φ λΚ κ=>gh (ς m2 μ) ?_;apply κ;refine W.oA (σ0:=[fS L,.map (M2.map qh)]) η (sw _) η [(15,.au [I r.1,I r.2]),(2,I cell),(3,ba lower),(4,.ms 0 L.length 0 L.length),(5,.au [aY s.ar,aX s.az,bO s.cells]),(11,.mp 1),(23,cL F),(24,I F.length),(25,I i),(13,.au [I f.u,I f.v,mV f.cells]),(33,k' C),(34,I C.length),(35,I j)] (by simp[l7,tv,sj]) ?_
   repeat apply ae
   refine dj (A:=[16]) Φ λΚ κ=>bp ?_;apply κ;refine Η ?_;refine W.iter (λk:Nat=>k<=L.length) (λk=>[(2,I cell),(3,ba lower),(4,.ms 0 L.length 0 L.length),(5,.au [aY s.ar,aX s.az,bO s.cells]),(11,.mp 1),(23,cL F),(24,I F.length),(25,I i),(13,.au [I f.u,I f.v,mV f.cells]),(33,k' C),(34,I C.length),(35,I j),(15,.au [I r.1,I r.2]),(16,.ak 2 1 0 0),(39,.ms 0 L.length 0 L.length),(40,I L.length),(41,I k)])
    (λk=>[fS L,.map (M2.map qh),.cells 157 4 [vq (qi s (f.u,f.v) r L k)]]) (λk=>L.length-k) 0 (Nat.zero_le _) (by simp[qi]) η (λk ψ ss=>?_)
   refine Η ?_;by_cases iA:k<L.length
   ·refine aC (by simp[iA]) ?_;have xv:(k:Int)<4:=J;have iN:k<=3:=J;have u4:=Zn (s:=s) (p:=(f.u,f.v)) (r:=r) iA ad;have hlen:=O7 (s:=s) (p:=(f.u,f.v)) (r:=r) (Nat.le_of_lt iA) ad;have Zr:=kM _ (List.getElem_mem iA);obtain⟨K,κ⟩:=aF (qi s (f.u,f.v) r L k);rw[<-κ] at u4 hlen ⊢;refine aE (ς iA (ς xv hlen)) ?_;refine g9 (ς xv hlen) λΚ κ=>?_;refine aB.c (Bd s ξ (f.u,f.v) r L[k] Zr ny oy) (b2.refl _) η η ?_;simp[xv,iN,hlen];(repeat (rw[ah];simp[xv,iN,hlen]));apply κ;have Bx:=eX iA (show L.length<2 ^ 62 by omega);refine aE Bx ?_;refine W.to (ss (k+1) iA J) ?_ ?_
    ·rw[<-u4];simp
    ·simp[Bx]
   ·have Zs:k=L.length:=J
    subst Zs;refine ay η ?_;refine W.exit rfl ?_;have hlen:=O7 (s:=s) (p:=(f.u,f.v)) (r:=r) (Nat.le_refl _) ad;obtain⟨K,κ⟩:=aF (qi s (f.u,f.v) r L L.length);obtain⟨v,hv⟩:=aF (lK lower r);rw[<-κ,<-hv] at rh;rw[<-κ] at hlen ⊢
    repeat apply ae
    refine W.ts (A:=[]) Φ [(2,I cell),(3,ba lower),(4,.ms 0 L.length 0 L.length),(5,.au [aY s.ar,aX s.az,bO s.cells]),(11,.mp 1),(23,cL F),(24,I F.length),(25,I i),(13,.au [I f.u,I f.v,mV f.cells]),(33,k' C),(34,I C.length),(35,I j),(15,.au [I r.1,I r.2]),(16,.ak 2 1 0 0),(19,I v)] ?_ (by
     rw[hv];cases lower
     all_goals
      (try simp);(repeat (rw[ah];simp));(try simp);refine aB.d (IY _) (bp ?_);simp[lK])
    clear ss hv;have su:=eX m2 (show C.length<2 ^ 62 by omega);have lV:o9 [fS L,.map (M2.map qh),.cells 157 4 [vq K]] 1=true:=by simp[o9]
    have qL:o7 bm 157 (vq K)=true:=by
     match K,hlen with
     | [a,b,c,d],_=>simp[o7,kF,nB]
    have l6:List.take 4 (K.map I)=K.map I:=List.take_of_length_le (by simp[hlen]);rcases Zm K hlen M2 0 Bw with⟨aa,ai,aZ⟩|⟨bz,x,cN,aa,ai,aZ⟩
    ·have aZ:=aZ v
     have hm:nN s f cell lower L (some M) (j+1)=some (ll M2 K v):=by rw[rh];simp[y1,ai]
     (repeat (first|apply ae|(refine dt λΚ κ=>?_;simp;(repeat (rw[ah];simp[aa,qL,l6,hlen,-o7]));apply κ)));refine ay rfl ?_;(repeat (first|apply ae|(refine dt λΚ κ=>?_;simp;(repeat (rw[ah];simp[aa,qL,l6,hlen,-o7]));apply κ)));refine W.drop (h:=2) (σ':=[fS L,.map ((ll M2 K v).map qh)]) η η (λid w cb hw=>fC.mono (sw (ll M2 K v) w (by
      match id,cb,hw with
      | 0,_,hw=>simp at hw;subst hw;simp
      | 1,_,hw=>simp[aZ] at hw;subst hw;simp[aZ])) η) (by simp[aZ]) [(2,I cell),(3,ba lower),(4,.ms 0 L.length 0 L.length),(5,.au [aY s.ar,aX s.az,bO s.cells]),(11,.mp 1),(23,cL F),(24,I F.length),(25,I i),(13,.au [I f.u,I f.v,mV f.cells]),(33,k' C),(34,I C.length),(35,I ((j:Int)+1))] (by simp[l7,tv,sj,su]) ?_
     refine W.to (fL (j+1,ll M2 K v) ⟨m2,hm,O6 Bw hlen v⟩ (by simp only;omega)) rfl ?_;simp
    ·have aZ:=aZ v;(repeat (first|apply ae|(refine dt λΚ κ=>?_;simp;(repeat (rw[ah];simp[aa,qL,l6,hlen,-o7]));apply κ)));by_cases Fh:x=v
     ·have hm:nN s f cell lower L (some M) (j+1)=some (ll M2 K v):=by rw[rh];simp[y1,ai,Fh]
      refine ay (by simp[Fh]) ?_;(repeat (first|apply ae|(refine dt λΚ κ=>?_;simp;(repeat (rw[ah];simp[aa,qL,l6,hlen,-o7]));apply κ)));refine W.drop (h:=2) (σ':=[fS L,.map ((ll M2 K v).map qh)]) η η (λid w cb hw=>fC.mono (sw (ll M2 K v) w (by
       match id,cb,hw with
       | 0,_,hw=>simp at hw;subst hw;simp
       | 1,_,hw=>simp[aZ] at hw;subst hw;simp[aZ])) η) (by simp[aZ]) [(2,I cell),(3,ba lower),(4,.ms 0 L.length 0 L.length),(5,.au [aY s.ar,aX s.az,bO s.cells]),(11,.mp 1),(23,cL F),(24,I F.length),(25,I i),(13,.au [I f.u,I f.v,mV f.cells]),(33,k' C),(34,I C.length),(35,I ((j:Int)+1))] (by simp[l7,tv,sj,su]) ?_
      refine W.to (fL (j+1,ll M2 K v) ⟨m2,hm,O6 Bw hlen v⟩ (by simp only;omega)) rfl ?_;simp
     ·have hm:nN s f cell lower L (some M) (j+1)=none:=by rw[rh];simp[y1,ai,Fh]
      have pP:=sW (j+1) m2 hm;rw[pP];refine aC (by simp[Fh]) ?_;refine Η ?_;refine W.drop (h:=1) (σ':=[fS L]) η η (λid w cb hw=>by
       obtain rfl:id=0:=J;simp at hw;subst hw;exact Jj) rfl [(10,ba false)] η ?_
      exact W.ret ⟨_,rfl,rfl,rfl⟩
  ·have Bq:j=C.length:=J
   subst Bq;have gT:=eX l' (show F.length<2 ^ 62 by have:=cK.nM;omega);refine ay η ?_;refine W.exit rfl ?_;refine aE gT ?_;refine W.to (Α (i+1,M2) ⟨l',by rw[re];exact yZ,Bw⟩ (by simp only;omega)) rfl ?_;simp[gT]
 ·have eW:i=F.length:=J
  subst eW;have pP:sx s F cell lower L=true:=by unfold sx;rw[db];rfl
  rw[pP];refine ay η ?_;refine W.exit rfl ?_;refine Η ?_;refine W.drop (h:=1) (σ':=[fS L]) η η (λid w cb hw=>by
   obtain rfl:id=0:=J;simp at hw;subst hw;exact Jj) rfl [(10,ba true)] η ?_
  exact W.ret ⟨_,rfl,rfl,rfl⟩
end Go.TL
namespace Go.TL
open Go.Conc Go.Proofs
variable [bq]
section
variable {P:Program} {Q:Value->Prop} {mn:Bool} {x:hz} {cs rest:List Frame} {H:Γ} {b f c:Frame} {t:Array Value} {k:List Item} {fn:Func}
theorem χ.getLoop {L:Nat} {r:Loop} (h:H.obj L=some (.loop r)) {K:Loop->Γ->Prop} {E:Value->Γ->Prop} (ψ:K r H):χ P (Instr.getLoop L) H K E:=by
 unfold Instr.getLoop;refine χ.bind' ?_;exact⟨_,h,rfl,χ.pure' ψ⟩
theorem χ.Jk {L:Nat} {r r':Loop} (h:H.obj L=some (.loop r)) {K:Unit->Γ->Prop} {E:Value->Γ->Prop} (ψ:K () (H.bQ L (.loop r'))):χ P (setObj L (.loop r')) H K E:=
 ⟨⟨_,h⟩,rfl,rfl,χ.pure' ψ⟩
abbrev Pa (st:LoopState) (Fi:Option Code) (f:FuncId) (t:Array Value) (dc:Array Tmp) (a ta:Code) (d:Nat):Loop:={state:=st,pending:=Fi,fn:=f,tmps:=t,params:=dc,assign:=a,body:=ta,defers:=d}
theorem aV.rangeFunc (δ:Seq x) (hb:b.mode=.run) (cv:b.roundOf=none) {fo:Operand} {dc:Array Tmp} {assign body:Code} {g:FuncId} {nO:Array Value} (Zt:bt t fo=.func (.func g) #[] nO) (Ω:Plain P g)
  (h:∀r1 r2,H.fresh r1->(H.bQ r1 (.deferred (some []))).fresh r2->aV P Q mn x (Frame.enter P g (#[.func (.yield r2) #[] #[]]++nO) .normal) ({aD b t (.inRangeFunc r2::k) with defers:=⟨.collected r1,#[]⟩::b.defers}::cs)
   ((H.bQ r1 (.deferred (some []))).bQ r2 (.loop (Pa .ready none b.fn t dc assign body r1)))) :
  aV P Q mn x (aD b t (.code (.rangeFunc fo dc assign body)::k)) cs H:=by
 refine .own δ λw Ρ=>?_;have cx:χ P (Instr.enterLoop b.fn t dc assign body none) H (λv H'=>∃r1 r2,H.fresh r1/\(H.bQ r1 (.deferred (some []))).fresh r2/\v=(r2,[⟨.collected r1,#[]⟩])/\H'=(H.bQ r1 (.deferred (some []))).bQ r2 (.loop (Pa .ready none b.fn t dc assign body r1))) (λ_ _=>False):=by
  unfold Instr.enterLoop;refine χ.bind' (λr1 U=>χ.pure' (χ.bind' (χ.pure' ?_)));refine χ.bind' (λr2 γ=>χ.pure' (χ.pure' ?_));exact⟨r1,r2,U,γ,rfl,rfl⟩
 obtain⟨H',w',es',hu,hR⟩:=χ.sound (P:=P) (G0:=H) (w0:=w) _ cx (ej.start Ρ);rcases hR with⟨v,er,r1,r2,U,γ,rfl,rfl⟩|⟨v,er,dF⟩
 ·refine⟨_,_,w',seen P b.fn es',_,?_,hu.sub λe he=>mem_seen he,h r1 r2 U γ⟩;have dQ:∀F:Frame,F.tmps=t->resolve F.eval {callee:=.value fo,args:=#[.const (.func (.yield r2) #[] #[])],argTypes:=#[]} 0=Deferred.ofValue (.func (.func g) #[] nO) #[.func (.yield r2) #[] #[]]:=λF eI=>by
   have:F.eval fo=.func (.func g) #[] nO:=by rw[<-Zt,<-eI];cases fo<;>rfl
   unfold resolve;simp only;rw[this];simp[Frame.eval]
  have hinv:((do let d <-Deferred.ofValue (.func (.func g) #[] nO) #[.func (.yield r2) #[] #[]];invoke d.target d.args:Sem Next)).runT P w' #[]=(.ok (.enter g (#[.func (.yield r2) #[] #[]]++nO)) w',#[]):=by
   have:=Ω.enter (#[.func (.yield r2) #[] #[]]++nO) w';simpa[Deferred.ofValue,invoke] using this
  rw[jY hb];unfold stepG.exec;simp only[aD,cv,er];rw[dQ _ rfl];unfold stepG.apply;simp only[if_true,hinv];simp[GStep.after,Go.Conc.G,aD,seen_none]
 ·exact dF.elim
theorem aV.Pb (δ:Seq x) (hb:b.mode=.run) {L:Nat} {r:Loop} (ad:H.obj L=some (.loop r)) (ξ:r.state≠.busy)
  (h:aV P Q mn x (aD b t ((r.pending.map Item.code).toList++k)) cs (H.bQ L (.loop {r with state:=.exhausted}))):aV P Q mn x (aD b t (.endRangeFunc L::k)) cs H:=by
 refine .own δ λw Ρ=>?_;have cx:χ P (Instr.endLoop L) H (λv H'=>v=r.pending/\H'=H.bQ L (.loop {r with state:=.exhausted})) (λ_ _=>False):=by
  unfold Instr.endLoop;refine χ.bind' (χ.getLoop ad ?_);have e:(r.state==.busy)=false:=by cases Χ:r.state<;>first|rfl|exact absurd Χ ξ
  simp only[e,Bool.false_eq_true,if_false];exact χ.bind' (χ.Jk ad (χ.pure' ⟨rfl,rfl⟩))
 obtain⟨H',w',es',hu,hR⟩:=χ.sound (P:=P) (G0:=H) (w0:=w) _ cx (ej.start Ρ);rcases hR with⟨v,er,rfl,rfl⟩|⟨v,er,dF⟩
 ·refine⟨_,_,w',seen P b.fn es',_,?_,hu.sub λe he=>mem_seen he,h⟩;rw[jY hb];unfold stepG.exec;simp only[aD,er];simp[GStep.after,Go.Conc.G]
 ·exact dF.elim
theorem aV.beginRound (δ:Seq x) (hb:b.mode=.run) {L:Nat} (cv:b.roundOf=some L) {r:Loop} (ad:H.obj L=some (.loop r)) (ξ:r.state=.ready)
  (h:aV P Q mn x (aD b t k) cs (H.bQ L (.loop {r with state:=.busy}))):aV P Q mn x (aD b t (.beginRound::k)) cs H:=by
 refine .own δ λw Ρ=>?_;have cx:χ P (Instr.beginRound L) H (λ_ H'=>H'=H.bQ L (.loop {r with state:=.busy})) (λ_ _=>False):=by
  unfold Instr.beginRound;refine χ.bind' (χ.getLoop ad (χ.bind' (χ.Jk ad ?_)));rw[ξ];exact χ.pure' rfl
 have Zu:χ P (do Instr.beginRound L;pure Next.skip:Sem Next) H (λv H'=>v=.skip/\H'=H.bQ L (.loop {r with state:=.busy})) (λ_ _=>False):=
  χ.bind' (χ.mono (λ_ _ e=>χ.pure' ⟨rfl,e⟩) (λ_ _ h=>h) _ cx)
 obtain⟨H',w',es',hu,hR⟩:=χ.sound (P:=P) (G0:=H) (w0:=w) _ Zu (ej.start Ρ);rcases hR with⟨v,er,rfl,rfl⟩|⟨v,er,dF⟩
 ·generalize gC:(if b.kind==.early then #[] else es')=oZ;have kZ:∀e∈seen P b.fn oZ,e∈es':=λe he=>by
   have:=mem_seen he;rw[<-gC] at this;split at this
   ·simp at this
   ·exact this
  refine⟨_,_,w',seen P b.fn oZ,_,?_,hu.sub kZ,h⟩;rw[jY hb];unfold stepG.exec;simp only[aD,cv,Option.elim];unfold stepG.apply;simp only[if_true,er];rw[gC];simp[GStep.after,Go.Conc.G,Frame.finish]
 ·exact dF.elim
theorem aV.endRound (δ:Seq x) (hb:b.mode=.run) {L:Nat} (cv:b.roundOf=some L) (ψ:b.kind=.normal) {r:Loop} (ad:H.obj L=some (.loop r)) {jump:Option Code} (ζ:(jump=none/\k=[])\/(jump=some .ret/\∃al,k=.code .ret::al)\/∃id al,jump=some (.exit id)/\k=.code (.exit id)::al/\exitTo id al=none)
  (h:aV P Q mn x (c.finish (.bool jump.isNone)) rest (H.bQ L (.loop {r with state:=if jump.isNone then .ready else .done,pending:=jump}))):aV P Q mn x (aD b t k) (c::rest) H:=by
 refine .own δ λw Ρ=>?_;have cx:χ P (Instr.endRound L jump) H (λv H'=>v=.bool jump.isNone/\H'=H.bQ L (.loop {r with state:=if jump.isNone then .ready else .done,pending:=jump})) (λ_ _=>False):=by
  unfold Instr.endRound;exact χ.bind' (χ.getLoop ad (χ.bind' (χ.Jk ad (χ.pure' ⟨rfl,rfl⟩))))
 obtain⟨H',w',es',hu,hR⟩:=χ.sound (P:=P) (G0:=H) (w0:=w) _ cx (ej.start Ρ);rcases hR with⟨v,er,rfl,rfl⟩|⟨v,er,dF⟩
 ·refine⟨_,_,w',seen P b.fn es',_,?_,hu.sub λe he=>mem_seen he,h⟩;rw[jY hb];unfold stepG.exec;rcases ζ with⟨rfl,rfl⟩|⟨rfl,al,rfl⟩|⟨id,al,rfl,rfl,he⟩
  ·simp only[aD,cv,er];simp[GStep.after,Go.Conc.G,doReturn,ψ]
  ·simp only[aD,cv,er];simp[GStep.after,Go.Conc.G,doReturn,ψ]
  ·simp only[aD,cv,he,Option.elim,er];simp[GStep.after,Go.Conc.G,doReturn,ψ]
 ·exact dF.elim
theorem aV.collected (δ:Seq x) (hm:f.mode=.returning) {r:Nat} {ds:List Deferred} (hd:f.defers=⟨.collected r,#[]⟩::ds) (μ:H.obj r=some (.deferred (some [])))
  (h:aV P Q mn x {f with defers:=ds} cs (H.bQ r (.deferred none))):aV P Q mn x f cs H:=by
 refine .own δ λw Ρ=>?_;have cx:χ P (Instr.takeDeferred r) H (λv H'=>v=[]/\H'=H.bQ r (.deferred none)) (λ_ _=>False):=by
  unfold Instr.takeDeferred;refine χ.bind' ?_;exact⟨_,μ,rfl,χ.pure' (χ.bind' ⟨⟨_,μ⟩,rfl,rfl,χ.pure' (χ.pure' ⟨rfl,rfl⟩)⟩)⟩
 obtain⟨H',w',es',hu,hR⟩:=χ.sound (P:=P) (G0:=H) (w0:=w) _ cx (ej.start Ρ);rcases hR with⟨v,er,rfl,rfl⟩|⟨v,er,dF⟩
 ·refine⟨_,_,w',seen P f.fn es',_,?_,hu.sub λe he=>mem_seen he,h⟩;rw[yl (by rw[hm];simp)];unfold unwind;simp only[hd,er];simp[GStep.after,Go.Conc.G]
 ·exact dF.elim
end
end Go.TL
namespace Go.TL
open Go.Conc
open Go.ConcM (OsLater)
open Go.ConcN (sumTo upd sumTo_upd upd_ne upd_same sumTo_congr le_sumTo)
open Go.ConcR (mk)
variable [bq]
theorem hj {b:Frame} (hb:b.mode=.run) (μ:b.roundOf=none) (t:Array Value) (k:List Item):aD b t k=b.at ⟨t,b.defers⟩ k:=by
 obtain⟨fn,yk,td,Va,uV,kd,ro⟩:=b;simp only at hb μ;subst hb;subst μ;rfl
theorem vu (o:Oper) (t:Array Value) (ds:List Deferred) (v:Value):(⟨t,ds⟩:_root_.Go.Act).put o.dst v=⟨put o t v,ds⟩:=by
 unfold _root_.Go.Act.put put;cases o.dst<;>rfl
theorem m3 (t:Array Value) (ds:List Deferred):(⟨t,ds⟩:_root_.Go.Act).eval=bt t:=by funext o;cases o<;>rfl
def Entry (P:Program) (f:FuncId) (e:Array Value->Sem Value):Prop:=∃fn,P.funcs[f]?=some fn/\(fn.name == "runtime.NumGoroutine")=false/\fn.body.isNone=true/\Extern.findNext fn=none/\Extern.find fn=some e
structure nP (b:Frame) (ops:Array Oper) (i:Nat) (op:Oper):Prop where
 run:b.mode=.run
 ro:b.roundOf=none
 kd:b.kind≠.early
 op:ops[i]?=some op
def fh (x:a7):Prop:=x.rel=false\/∃s,¬Gone (x.tok s)
theorem fh.ok {P:Program} {g:Goroutine} {x:a7} (h:fh x):zZ P g x:=λU γ=>by
 rcases h with h|⟨s,h⟩
 ·rw[h] at U;cases U
 ·exact absurd (γ s) h
def one (x:a7):hz:=λy=>y=x
@[reducible] def fi:bq:=⟨λ_=>True⟩
theorem Seq.vv {x:a7} (Χ:bq.q (one x)) (μ:x.rel=false) (hv:x.aR=λ_=>none):Seq (one x):=⟨Χ,λy h=>by cases h;exact μ,λy h=>by cases h;exact hv⟩
theorem Seq.here {x:a7} (h:Seq (one x)):fh x:=.inl (h.rel x rfl)
section
variable {P:Program} {Q:Value->Prop} {mn:Bool} {x:a7} {b:Frame} {cs:List Frame} {nt:Nat} {o:Base} {k:List Item} {env:ab} {σ:ac} {S:aO} {B:a0} {H:Γ} {t:Array Value}
variable {ops:Array Oper} {i:Nat} {rest:List Nat} {op:Oper} {f:FuncId} {e:Array Value->Sem Value} {args:Array Operand} {eu:Array TypeId} {w w':World}
theorem Fj (he:Entry P f e) (bY:nP b ops i op) (hw:Region.wanted op (yielded ops t)=true) (Τ:op.op=.call ⟨.value (.func f),args,eu⟩) {vs:Array Value} (ri:args.map (bt t)=vs) {v:Value} {gN:Array Event}
  (er:(e vs).run P w=.ok v w') (dQ:(e vs).events P w #[⟨.mark (Mark.extern f),false,true⟩]=#[⟨.mark (Mark.extern f),false,true⟩]++gN) (ξ:∀y∈gN,y.sync=true/\∀g,y.loc≠.mark (Mark.extern g)) :
  stepG P mn (Go.Conc.G (aD b t (.inRegion ops (i::rest)::k)) cs) w=.go (Go.Conc.G (aD b (put op t v) (.inRegion ops rest::k)) cs) w' gN:=by
 obtain⟨fn,U,γ,ο,Ι,ax⟩:=he;rw[hj bY.run bY.ro,hj bY.run bY.ro,<-vu];exact stepG_entry (a:=⟨t,b.defers⟩) bY.op hw bY.kd Τ U γ ο Ι ax (by rw[m3,ri];exact er) (by rw[m3,ri];exact dQ) ξ
theorem Zv (he:Entry P f e) (bY:nP b ops i op) (hw:Region.wanted op (yielded ops t)=true) (Τ:op.op=.call ⟨.value (.func f),args,eu⟩) {vs:Array Value} (ri:args.map (bt t)=vs)
  (er:(e vs).run P w=.halt .blocked w') :
  stepG P mn (Go.Conc.G (aD b t (.inRegion ops (i::rest)::k)) cs) w=.go {Go.Conc.G (aD b t (.inRegion ops (i::rest)::k)) cs with status:=.blocked} w' #[]:=by
 obtain⟨fn,U,γ,ο,Ι,ax⟩:=he;rw[hj bY.run bY.ro];exact stepG_entry_blocked (a:=⟨t,b.defers⟩) bY.op hw Τ U γ ο Ι ax (by rw[m3,ri];exact er)
theorem Pd (he:Entry P f e) (bY:nP b ops i op) (Τ:op.op=.call ⟨.value (.func f),args,eu⟩):mayWake P (Go.Conc.G (aD b t (.inRegion ops (i::rest)::k)) cs)=true:=by
 obtain⟨fn,U,γ,ο,Ι,ax⟩:=he;have bf:fn.body=none:=by simpa using ο
 have Pe:(aD b t (.inRegion ops (i::rest)::k)).eval (.func f)=.func (.func f) #[] #[]:=rfl;simp[mayWake,Go.Conc.G,aD,bY.run,bY.op,Τ] at Pe ⊢;simp[Pe,U,bf]
def By (env:ab) (args:Array Operand) (vs:List Value):Prop:=args.toList.map (aT env)=vs.map θ.z
theorem Fl (ξ:dB S B σ env t) {y:Operand} {v:Value} (h:aT env y=.z v):bt t y=v:=by
 have:=mI ξ y;rw[h] at this;generalize bt t y=u at this;cases this;rfl
theorem By.bt (ξ:dB S B σ env t) {vs:List Value} (h:By env args vs):args.map (bt t)=vs.toArray:=by
 apply Array.ext';rw[Array.toList_map];have:∀(l:List Operand) (vs:List Value),l.map (aT env)=vs.map θ.z->l.map (Go.TL.bt t)=vs:=by
  intro l
  induction l with
  | nil=>intro vs h;cases vs with
   | nil=>rfl
   | cons=>cases h
  | cons y l Α=>
   intro vs h;cases vs with
   | nil=>cases h
   | cons v vs=>
    simp only[List.map_cons,List.cons.injEq] at h ⊢;exact⟨Fl ξ h.1,Α vs h.2⟩
 exact this _ _ h
theorem Fo (m:Mark):((λ_=>do mark m;pure Extern.Race.none_:Array Value->Sem Value) #[]).run P w=.ok (.tuple #[]) w:=by simp[Extern.Race.none_]
theorem Fp (m:Mark) (es:Array Event):((λ_=>do mark m;pure Extern.Race.none_:Array Value->Sem Value) #[]).events P w es=es.push ⟨.mark m,false,true⟩:=η
theorem y3 (m:Addr->Mark) (cM:Addr):(Extern.Race.marked m #[.pointer (some cM)]).run P w=.ok (.tuple #[]) w:=by simp[Extern.Race.marked,Extern.Race.at_,Extern.Race.none_]
theorem y4 (m:Addr->Mark) (cM:Addr) (es:Array Event):(Extern.Race.marked m #[.pointer (some cM)]).events P w es=es.push ⟨.mark (m cM),false,true⟩:=by simp[Extern.Race.marked,Extern.Race.at_]
theorem sy {m:Mark} (hm:∀g,m≠Mark.extern g):∀y∈(#[⟨.mark m,false,true⟩]:Array Event),y.sync=true/\∀g,y.loc≠.mark (Mark.extern g):=by
 intro y Μ;simp at Μ;subst Μ;exact⟨rfl,λg h=>hm g (by cases h;rfl)⟩
structure hI (P:Program) (b:Frame) (ops:Array Oper) (i:Nat) (op:Oper) (f:FuncId) (e:Array Value->Sem Value) (args:Array Operand) (env:ab) (vs:List Value) (nt:Nat):Prop where
 at_:nP b ops i op
 nG:Entry P f e
 call:∃eu,op.op=.call ⟨.value (.func f),args,eu⟩
 want:ft env ops op=some true
 dst:hD nt op=true
 Bz:By env args vs
theorem hI.step {vs:List Value} (h:hI P b ops i op f e args env vs nt) (ξ:dB S B σ env t) {v:Value} {gN:Array Event} (er:(e vs.toArray).run P w=.ok v w')
  (dQ:(e vs.toArray).events P w #[⟨.mark (Mark.extern f),false,true⟩]=#[⟨.mark (Mark.extern f),false,true⟩]++gN) (Zw:∀y∈gN,y.sync=true/\∀g,y.loc≠.mark (Mark.extern g)) :
  stepG P mn (Go.Conc.G (aD b t (.inRegion ops (i::rest)::k)) cs) w=.go (Go.Conc.G (aD b (put op t v) (.inRegion ops rest::k)) cs) w' gN:=
 let ⟨_,Τ⟩:=h.call
 Fj h.nG h.at_ (k5 ξ h.want) Τ (h.Bz.bt ξ) er dQ Zw
abbrev po:θ:=.z (.tuple #[])
theorem V.disable (δ:fh x) (h:hI P b ops i op f (λ_=>do mark .disable;pure Extern.Race.none_) args env [] nt) (ψ:V P Q mn (one {x with deaf:=x.deaf+1}) b cs nt o (.inRegion ops rest::k) (b7 op env po) σ):V P Q mn (one x) b cs nt o (.inRegion ops (i::rest)::k) env σ:=
 λS B H t ν ω y Μ=>by
 cases Μ;exact Goes.step δ.ok (.inr ⟨⟨rfl,rfl⟩,.inr (.inl ⟨Go.Conc.G (aD b (put op t (.tuple #[])) (.inRegion ops rest::k)) cs,⟨rfl,rfl⟩,.inl λw _=>
  ⟨h.step ω.cH (Fo .disable) (Fp .disable _) (sy η),ψ S B H _ ν (ω.put h.dst (.z _)) _ rfl⟩⟩)⟩)
theorem V.enable (δ:fh x) (hd:0<x.deaf) (h:hI P b ops i op f (λ_=>do mark .enable;pure Extern.Race.none_) args env [] nt) (ψ:V P Q mn (one {x with deaf:=x.deaf-1}) b cs nt o (.inRegion ops rest::k) (b7 op env po) σ):V P Q mn (one x) b cs nt o (.inRegion ops (i::rest)::k) env σ:=
 λS B H t ν ω y Μ=>by
 cases Μ;exact Goes.step δ.ok (.inr ⟨⟨rfl,rfl⟩,.inr (.inl ⟨Go.Conc.G (aD b (put op t (.tuple #[])) (.inRegion ops rest::k)) cs,⟨rfl,rfl⟩,.inr ⟨hd,λw _=>
  ⟨h.step ω.cH (Fo .enable) (Fp .enable _) (sy η),ψ S B H _ ν (ω.put h.dst (.z _)) _ rfl⟩⟩⟩)⟩)
theorem V.Zx (δ:x.rel=false) {s off n p:Nat} {aQ:sT} (Υ:x.tok s=.par n p aQ) (nj:aQ≠.bH) (h:hI P b ops i op f (Extern.Race.marked .read) args env [.pointer (some ⟨s,off,none⟩)] nt) (ψ:V P Q mn (one x) b cs nt o (.inRegion ops rest::k) (b7 op env po) σ):V P Q mn (one x) b cs nt o (.inRegion ops (i::rest)::k) env σ:=
 λS B H t ν ω y Μ=>by
 cases Μ;exact Goes.step (fh.ok (.inl δ)) (.inr ⟨⟨rfl,rfl⟩,.inr (.inr (.inl ⟨s,n,p,aQ,Go.Conc.G (aD b (put op t (.tuple #[])) (.inRegion ops rest::k)) cs,off,false,Υ,nj,δ,⟨rfl,rfl⟩,λw _=>
  ⟨h.step ω.cH (y3 .read _) (y4 .read _ _) (sy η),ψ S B H _ ν (ω.put h.dst (.z _)) _ rfl⟩⟩))⟩)
theorem V.Zy (δ:x.rel=false) {s off n p:Nat} {aQ:sT} (Υ:x.tok s=.par n p aQ) (nj:aQ≠.bH) (h:hI P b ops i op f (Extern.Race.marked .write) args env [.pointer (some ⟨s,off,none⟩)] nt) (ψ:V P Q mn (one x) b cs nt o (.inRegion ops rest::k) (b7 op env po) σ):V P Q mn (one x) b cs nt o (.inRegion ops (i::rest)::k) env σ:=
 λS B H t ν ω y Μ=>by
 cases Μ;exact Goes.step (fh.ok (.inl δ)) (.inr ⟨⟨rfl,rfl⟩,.inr (.inr (.inl ⟨s,n,p,aQ,Go.Conc.G (aD b (put op t (.tuple #[])) (.inRegion ops rest::k)) cs,off,true,Υ,nj,δ,⟨rfl,rfl⟩,λw _=>
  ⟨h.step ω.cH (y3 .write _) (y4 .write _ _) (sy η),ψ S B H _ ν (ω.put h.dst (.z _)) _ rfl⟩⟩))⟩)
theorem V.De (δ:x.rel=false) (hd:x.deaf=0) {s m n:Nat} {sp:Spec} (ca:x.spec s=some sp) (hm:sp.a4=some m) (Υ:x.tok s=.ch n .own .work) (h:hI P b ops i op f (Extern.Race.marked .acquire) args env [.pointer (some ⟨m,0,none⟩)] nt)
  (ψ:∀(S:aO) (B:a0) (H:Γ) (t:Array Value) (L:List Nat) (E:Γ),ff o.m o.S o.B o.H o.σ S B H σ->gd o.m nt S B H σ (b7 op env po) t->sp.av L E->Apart H E->(L.Nodup/\n∉L/\∃w,Fits H w/\Fits E w)->
   cG P Q mn {x with tok:=upd x.tok s (.ch n (.dA L) .work),view:=upd x.view s none} (aD b t (.inRegion ops rest::k)) cs (join H E)):V P Q mn (one x) b cs nt o (.inRegion ops (i::rest)::k) env σ:=
 λS B H t ν ω y Μ=>by
 cases Μ;exact Goes.step (fh.ok (.inl δ)) (.inr ⟨⟨rfl,rfl⟩,.inr (.inr (.inr (.inr (.inl ⟨s,sp,m,n,Go.Conc.G (aD b (put op t (.tuple #[])) (.inRegion ops rest::k)) cs,ca,hm,Υ,hd,⟨rfl,rfl⟩,δ,λw _=>
  h.step ω.cH (y3 .acquire _) (y4 .acquire _ _) (sy η),λL E cV iR hw=>ψ S B H _ L E ν (ω.put h.dst (.z _)) cV iR hw⟩))))⟩)
theorem V.Hp (δ:x.rel=false) (hd:x.deaf=0) {s m n:Nat} {L:List Nat} {sp:Spec} (ca:x.spec s=some sp) (hm:sp.a4=some m) (Υ:x.tok s=.ch n (.dA L) .work) (h:hI P b ops i op f (Extern.Race.marked .releaseMerge) args env [.pointer (some ⟨m,0,none⟩)] nt)
  (ψ:∀(S:aO) (B:a0) (H:Γ) (t:Array Value),ff o.m o.S o.B o.H o.σ S B H σ->gd o.m nt S B H σ (b7 op env po) t->∃H' E,Split H H' E/\sp.av (L++[n]) E/\
   cG P Q mn {x with tok:=upd x.tok s (.ch n .fin .work),view:=upd x.view s none} (aD b t (.inRegion ops rest::k)) cs H'):V P Q mn (one x) b cs nt o (.inRegion ops (i::rest)::k) env σ:=
 λS B H t ν ω y Μ=>by
 cases Μ;obtain⟨H',E,U,γ,ο⟩:=ψ S B H _ ν (ω.put h.dst (.z (.tuple #[])));exact Goes.step (fh.ok (.inl δ)) (.inr ⟨⟨rfl,rfl⟩,.inr (.inr (.inr (.inr (.inr (.inl ⟨s,sp,m,n,L,Go.Conc.G (aD b (put op t (.tuple #[])) (.inRegion ops rest::k)) cs,H',E,ca,hm,Υ,hd,⟨rfl,rfl⟩,δ,λw _=>
  h.step ω.cH (y3 .releaseMerge _) (y4 .releaseMerge _ _) (sy η),U,γ,ο⟩)))))⟩)
theorem V.Df (δ:x.rel=false) (hd:x.deaf=0) {s n:Nat} {aQ:sT} {sp:Spec} (ca:x.spec s=some sp) (Υ:x.tok s=.par n 0 aQ) (nj:aQ=.nb\/aQ=.w4) (h:hI P b ops i op f (Extern.Race.marked .acquire) args env [.pointer (some ⟨s,0,none⟩)] nt)
  (ψ:∀(S:aO) (B:a0) (H:Γ) (t:Array Value) (gL fZ:List Nat) (hq e0:Γ),ff o.m o.S o.B o.H o.σ S B H σ->gd o.m nt S B H σ (b7 op env po) t->
   gL.Perm (List.range n)->my sp.D gL hq->(sp.a4≠none->fZ.Perm (List.range n)/\sp.av fZ e0)->(sp.a4=none->e0=Γ.empty)->Apart H hq->Apart H e0->Apart hq e0->(∃w,Fits H w/\Fits hq w/\Fits e0 w)->
   cG P Q mn {x with tok:=upd x.tok s (.par n 0 .bH),view:=upd x.view s none} (aD b t (.inRegion ops rest::k)) cs (join (join H hq) e0)):V P Q mn (one x) b cs nt o (.inRegion ops (i::rest)::k) env σ:=
 λS B H t ν ω y Μ=>by
 cases Μ;exact Goes.step (fh.ok (.inl δ)) (.inr ⟨⟨rfl,rfl⟩,.inr (.inr (.inr (.inr (.inr (.inr (.inr (.inl ⟨s,sp,n,aQ,Go.Conc.G (aD b (put op t (.tuple #[])) (.inRegion ops rest::k)) cs,ca,Υ,nj,hd,⟨rfl,rfl⟩,δ,λw _=>
  h.step ω.cH (y3 .acquire _) (y4 .acquire _ _) (sy η),λgL fZ hq e0 a1 bb cP gJ ix nh wc uF=>ψ S B H _ gL fZ hq e0 ν (ω.put h.dst (.z _)) a1 bb cP gJ ix nh wc uF⟩)))))))⟩)
theorem V.atomic (δ:fh x) {s:Nat} {sp:Spec} (ca:x.spec s=some sp) (c0:¬gB (x.tok s)) (hd:hD nt op=true) (hw:ft env ops op=some true)
  (h:∀(t:Array Value) (w:World) (φ:Nat) (υ:aW),(∀y u,aT env y=.z u->bt t y=u)->(∀(as9:Array Operand) (vs:List Value),By env as9 vs->as9.map (bt t)=vs.toArray)->Region.wanted op (yielded ops t)=true->υ.toSpec=sp->At s υ w->G1 x s φ υ->wi υ (x.tok s)->
   (∃v w' gN,stepG P mn (Go.Conc.G (aD b t (.inRegion ops (i::rest)::k)) cs) w=.go (Go.Conc.G (aD b (put op t v) (.inRegion ops rest::k)) cs) w' gN/\fV (λag _=>eN s sp ag) (λ_=>False) w w'/\pF s sp x.deaf gN/\
    ((At s υ w'/\V P Q mn (one {x with view:=upd x.view s (some (φ,υ))}) b cs nt o (.inRegion ops rest::k) (b7 op env (.z v)) σ)\/
     ∃o' t',Act υ (x.tok s) o' t'/\At s o' w'/\(mayWake P (Go.Conc.G (aD b t (.inRegion ops (i::rest)::k)) cs)=true\/o'=υ)/\∀cE,cE<φ->V P Q mn (one {x with tok:=upd x.tok s t',view:=upd x.view s (some (cE,o'))}) b cs nt o (.inRegion ops rest::k) (b7 op env (.z v)) σ))\/
   (kW υ (x.tok s)/\(∀bs,bs≠s->oa (x.tok bs))/\stepG P mn (Go.Conc.G (aD b t (.inRegion ops (i::rest)::k)) cs) w=.go {Go.Conc.G (aD b t (.inRegion ops (i::rest)::k)) cs with status:=.blocked} w #[])) :
  V P Q mn (one x) b cs nt o (.inRegion ops (i::rest)::k) env σ:=by
 intro S B H t ν ω y Μ;cases Μ;refine Goes.step δ.ok (.inr ⟨⟨rfl,rfl⟩,.inr (.inr (.inr (.inl ⟨s,sp,ca,c0,λw φ υ Ρ hv Β bJ z0 Jl=>?_⟩)))⟩);rcases h t w φ υ (λy u Μ=>Fl ω.cH Μ) (λas9 vs ri=>ri.bt ω.cH) (k5 ω.cH hw) Β bJ z0 Jl with⟨v,w',gN,U,γ,ο,Ι⟩|⟨U,γ,ο⟩
 ·refine .inl ?_;rw[U];refine⟨⟨rfl,rfl⟩,γ,ο,?_⟩;rcases Ι with⟨ax,bf⟩|⟨o',t',ax,bf,hx,mz⟩
  ·exact .inl ⟨ax,bf S B H _ ν (ω.put hd (.z _)) _ rfl⟩
  ·exact .inr ⟨o',t',ax,bf,hx,λcE eS=>mz cE eS S B H _ ν (ω.put hd (.z _)) _ rfl⟩
 ·exact .inr ⟨U,γ,ο⟩
theorem Pf {df off:Nat} {c:Array Value} {ty:TypeId} (hb:w.heap[df]?=some (.cells c ty (0,0))) (v:Value) {own:Nat->Nat->Prop} (gE:∀o,own df o):fV own (λ_=>False) w (w.setCell ⟨df,off,none⟩ v):=by
 have a5:=heap_setCell (w:=w) (a:=⟨df,off,none⟩) (v:=v) rfl hb
 have aN:=fW hb
 have EF:(w.setCell ⟨df,off,none⟩ v).os=w.os:=rfl;refine⟨by rw[a5];simp,λag c' t' M' ec=>?_,λag y ec Μ _=>?_,by rw[EF];exact OsLater.refl _,rfl,rfl⟩
 ·by_cases e:ag=df
  ·subst e;rw[hb] at ec;cases ec;exact⟨_,by rw[a5,Array.getElem?_setIfInBounds_self_of_lt aN],η,λo' kv=>absurd (gE o') kv⟩
  ·exact⟨c',by rw[a5,Array.getElem?_setIfInBounds_ne (Ne.symm e)];exact ec,rfl,λ_ _=>rfl⟩
 ·have e:df≠ag:=λe=>by subst e;rw[hb] at ec;cases ec;cases Μ
  rw[a5,Array.getElem?_setIfInBounds_ne e];exact ec
section
variable {s m:Nat} {υ o':aW}
theorem At.ne (h:At s υ w) (hm:υ.a4=some m):m≠s:=λe=>by
 obtain⟨⟨ty,U⟩,γ⟩:=h;obtain⟨kq,ο⟩:=γ m hm;subst e;rw[U] at ο;simp at ο
theorem At.mu (h:At s υ w) (hm:υ.a4=some m):∃ty,w.heap[m]?=some (.cells #[.int .i32 (mwd υ),.int .u32 υ.dm] ty (0,0)):=h.2 m hm
theorem At.dZ (h:At s υ w) (hm:υ.a4=some m):w.cell? ⟨m,0,none⟩=some (.int .i32 (mwd υ)):=let ⟨_,U⟩:=h.mu hm;oN U rfl
theorem At.d' (h:At s υ w) (hm:υ.a4=some m):w.cell? ⟨m,1,none⟩=some (.int .u32 υ.dm):=let ⟨_,U⟩:=h.mu hm;oN U rfl
theorem At.cN (h:At s υ w):w.cell? ⟨s,0,none⟩=some (.int .u64 (c7 υ)):=let ⟨_,U⟩:=h.1;oN U rfl
theorem At.aa (h:At s υ w):w.cell? ⟨s,1,none⟩=some (.int .u32 υ.cU):=let ⟨_,U⟩:=h.1;oN U rfl
theorem Pg {df off:Nat} {c:Array Value} {ty:TypeId} (hb:w.heap[df]?=some (.cells c ty (0,0))):w.frozen? ⟨df,off,none⟩=false:=by
 simp[World.frozen?,hb]
theorem At.y5 (h:At s υ w) (hm:υ.a4=some m) (off:Nat):w.frozen? ⟨m,off,none⟩=false:=let ⟨_,U⟩:=h.mu hm;Pg U
theorem At.vw (h:At s υ w) (off:Nat):w.frozen? ⟨s,off,none⟩=false:=let ⟨_,U⟩:=h.1;Pg U
theorem At.Fq (h:At s υ w) (hm:υ.a4=some m) (dx:o'.a4=υ.a4) (Ω:c7 o'=c7 υ) (hw:o'.cU=υ.cU) {off:Nat} {v:Value} (hv:(#[.int .i32 (mwd υ),.int .u32 υ.dm]:Array Value).setIfInBounds off v=#[.int .i32 (mwd o'),.int .u32 o'.dm]):At s o' (w.setCell ⟨m,off,none⟩ v):=by
 have bx:=h.ne hm;obtain⟨kq,ο⟩:=h.mu hm;obtain⟨⟨ty,U⟩,γ⟩:=h;have a5:=heap_setCell (w:=w) (a:=⟨m,off,none⟩) (v:=v) rfl ο;refine⟨⟨ty,?_⟩,λck jw=>⟨kq,?_⟩⟩
 ·rw[a5,Array.getElem?_setIfInBounds_ne bx,Ω,hw];exact U
 ·rw[dx,hm] at jw;cases jw;rw[a5,Array.getElem?_setIfInBounds_self_of_lt (fW ο),hv]
theorem At.y6 (h:At s υ w) (dx:o'.a4=υ.a4) (Ω:mwd o'=mwd υ) (hw:o'.dm=υ.dm) {off:Nat} {v:Value} (hv:(#[.int .u64 (c7 υ),.int .u32 υ.cU]:Array Value).setIfInBounds off v=#[.int .u64 (c7 o'),.int .u32 o'.cU]):At s o' (w.setCell ⟨s,off,none⟩ v):=by
 have bx:=λm hm=>h.ne (m:=m) hm;obtain⟨⟨ty,U⟩,γ⟩:=h;have a5:=heap_setCell (w:=w) (a:=⟨s,off,none⟩) (v:=v) rfl U;refine⟨⟨ty,?_⟩,λck jw=>?_⟩
 ·rw[a5,Array.getElem?_setIfInBounds_self_of_lt (fW U),hv]
 ·rw[dx] at jw;obtain⟨kq,ο⟩:=γ ck jw;exact⟨kq,by rw[a5,Array.getElem?_setIfInBounds_ne (Ne.symm (bx ck jw)),Ω,hw];exact ο⟩
theorem At.Fs (h:At s υ w) (hm:υ.a4=some m) {sp:Spec} (ξ:sp.a4=some m) {off:Nat} (v:Value):fV (λag _=>eN s sp ag) (λ_=>False) w (w.setCell ⟨m,off,none⟩ v):=
 let ⟨_,U⟩:=h.mu hm;Pf U v λ_=>.inr ξ
theorem At.y7 (h:At s υ w) {sp:Spec} {off:Nat} (v:Value):fV (λag _=>eN s sp ag) (λ_=>False) w (w.setCell ⟨s,off,none⟩ v):=
 let ⟨_,U⟩:=h.1;Pf U v λ_=>.inl rfl
end
theorem Ph {s d:Nat} {sp:Spec}:pF s sp d #[]:=⟨rfl,λj e h=>by simp at h⟩
theorem sz {s df off d:Nat} {sp:Spec} {es:Array Event} (hb:eN s sp df) (hd:0<d) (ξ:∀y∈es,y.loc=.cell ⟨df,off,none⟩/\y.sync=true):pF s sp d es:=by
 have uX:∀(es:Array Event),(∀y∈es,y.loc=.cell ⟨df,off,none⟩/\y.sync=true)->deafBehind d es=d:=by
  intro es;obtain⟨l⟩:=es;intro h;unfold deafBehind;simp only[List.foldl_toArray']
  induction l with
  | nil=>rfl
  | cons y l Α=>
   simp only[List.foldl_cons];have:=h y η;rw[this.1];exact Α λz Ψ=>h z (by simp at Ψ ⊢;exact .inr Ψ)
 refine⟨uX es ξ,λj y Μ=>.inr (.inr ⟨df,off,y.write,?_,hb,?_⟩)⟩
 ·have:=ξ y (Array.mem_of_getElem? Μ);obtain⟨l,w1,s1⟩:=y;simp only at this;rw[this.1,this.2]
 ·rw[uX]
  ·exact hd
  ·intro z Ψ;exact ξ z (by
    rw[Array.mem_iff_getElem?] at Ψ ⊢;obtain⟨q,Χ⟩:=Ψ;rw[Array.getElem?_extract] at Χ;split at Χ
    ·exact⟨_,Χ⟩
    ·cases Χ)
end
end Go.TL
namespace Go.TL
open Go.Conc
open Go.ConcM (OsLater)
open Go.ConcN (sumTo upd sumTo_upd upd_ne upd_same sumTo_congr le_sumTo)
variable [bq]
section
variable {P:Program} {Q:Value->Prop} {mn:Bool} {x:a7} {b:Frame} {cs:List Frame} {nt:Nat} {o:Base} {k:List Item} {env:ab} {σ:ac}
variable {ops:Array Oper} {i:Nat} {rest:List Nat} {op:Oper} {f:FuncId} {e:Array Value->Sem Value} {args:Array Operand} {vs:List Value}
def jb (P:Program) (Q:Value->Prop) (mn:Bool) (x:a7) (b:Frame) (cs:List Frame) (nt:Nat) (o:Base) (ops:Array Oper) (rest:List Nat) (k:List Item) (op:Oper) (env:ab) (σ:ac) (s φ:Nat) (υ:aW) (v:Value):Prop:=
 V P Q mn (one {x with view:=upd x.view s (some (φ,υ))}) b cs nt o (.inRegion ops rest::k) (b7 op env (.z v)) σ
def rj (P:Program) (Q:Value->Prop) (mn:Bool) (x:a7) (b:Frame) (cs:List Frame) (nt:Nat) (o:Base) (ops:Array Oper) (rest:List Nat) (k:List Item) (op:Oper) (env:ab) (σ:ac) (s φ:Nat) (υ:aW) (v:Value) (o':aW) (t':Tok):Prop:=
 Act υ (x.tok s) o' t'/\∀cE,cE<φ->V P Q mn (one {x with tok:=upd x.tok s t',view:=upd x.view s (some (cE,o'))}) b cs nt o (.inRegion ops rest::k) (b7 op env (.z v)) σ
structure Seen (x:a7) (s:Nat) (sp:Spec) (φ:Nat) (υ:aW):Prop where
 spec:υ.toSpec=sp
 view:G1 x s φ υ
 j7:wi υ (x.tok s)
theorem V.ext (δ:fh x) {s:Nat} {sp:Spec} (ca:x.spec s=some sp) (c0:¬gB (x.tok s)) (h:hI P b ops i op f e args env vs nt)
  (a5:∀(w:World) (φ:Nat) (υ:aW),Seen x s sp φ υ->At s υ w->
   (∃v w' gN,(e vs.toArray).run P w=.ok v w'/\(e vs.toArray).events P w #[⟨.mark (Mark.extern f),false,true⟩]=#[⟨.mark (Mark.extern f),false,true⟩]++gN/\(∀y∈gN,y.sync=true/\∀g,y.loc≠.mark (Mark.extern g))/\
    fV (λag _=>eN s sp ag) (λ_=>False) w w'/\pF s sp x.deaf gN/\
    ((At s υ w'/\jb P Q mn x b cs nt o ops rest k op env σ s φ υ v)\/∃o' t',At s o' w'/\rj P Q mn x b cs nt o ops rest k op env σ s φ υ v o' t'))\/
   (kW υ (x.tok s)/\(∀bs,bs≠s->oa (x.tok bs))/\(e vs.toArray).run P w=.halt .blocked w)) :
  V P Q mn (one x) b cs nt o (.inRegion ops (i::rest)::k) env σ:=by
 obtain⟨eu,Τ⟩:=h.call;refine .atomic δ ca c0 h.dst h.want λt w φ υ _ ri hw U γ ο Ι=>?_;rcases a5 w φ υ ⟨U,ο,Ι⟩ γ with⟨v,w',gN,a1,bb,cP,gJ,ix,nh⟩|⟨a1,bb,cP⟩
 ·refine .inl ⟨v,w',gN,Fj h.nG h.at_ hw Τ (ri _ _ h.Bz) a1 bb cP,gJ,ix,nh.imp id λ⟨o',t',bE,c6,fX⟩=>⟨o',t',c6,bE,.inl (Pd h.nG h.at_ Τ),fX⟩⟩
 ·exact .inr ⟨a1,bb,Zv h.nG h.at_ hw Τ (ri _ _ h.Bz) cP⟩
theorem sA (cM:Addr):∀y∈(#[⟨.cell cM,false,true⟩,⟨.cell cM,true,true⟩]:Array Event),y.loc=.cell cM/\y.sync=true:=by
 intro y Μ;simp at Μ;rcases Μ with rfl|rfl<;>exact⟨rfl,rfl⟩
theorem sB (cM:Addr) (wr:Bool):∀y∈(#[⟨.cell cM,wr,true⟩]:Array Event),y.loc=.cell cM/\y.sync=true:=by
 intro y Μ;simp at Μ;subst Μ;exact⟨rfl,rfl⟩
theorem sC {cM:Addr} {es:Array Event} (h:∀y∈es,y.loc=.cell cM/\y.sync=true):∀y∈es,y.sync=true/\∀g,y.loc≠.mark (Mark.extern g):=λy Μ=>⟨(h y Μ).2,λg e=>by rw[(h y Μ).1] at e;cases e⟩
structure y8 (υ o':aW):Prop where
 a4:o'.a4=υ.a4
 g:c7 o'=c7 υ
 w:o'.cU=υ.cU
structure sD (υ o':aW):Prop where
 a4:o'.a4=υ.a4
 g:mwd o'=mwd υ
 w:o'.dm=υ.dm
section
variable {s m:Nat} {sp:Spec} (δ:fh x) (hd:0<x.deaf) (ca:x.spec s=some sp) (c0:¬gB (x.tok s))
include δ hd ca c0
theorem V.Ft (hm:sp.a4=some m) {old new:Int} (h:hI P b ops i op f (Extern.Atomic.casT (.int .i32)) args env [.pointer (some ⟨m,0,none⟩),.int .i32 old,.int .i32 new] nt)
  (BA:∀φ υ,Seen x s sp φ υ->¬mwd υ=old->jb P Q mn x b cs nt o ops rest k op env σ s φ υ (.bool false)\/∃t',rj P Q mn x b cs nt o ops rest k op env σ s φ υ (.bool false) υ t')
  (dJ:∀φ υ,Seen x s sp φ υ->mwd υ=old->∃o' t',mwd o'=new/\o'.dm=υ.dm/\y8 υ o'/\rj P Q mn x b cs nt o ops rest k op env σ s φ υ (.bool true) o' t') :
  V P Q mn (one x) b cs nt o (.inRegion ops (i::rest)::k) env σ:=by
 refine .ext δ ca c0 h λw φ υ ξ bJ=>.inl ?_;have dx:υ.a4=some m:=by rw[ξ.spec];exact hm
 have ε:=bJ.dZ dx
 have Ψ:=bJ.y5 dx 0;by_cases hv:mwd υ=old
 ·obtain⟨o',t',U,γ,ο,Ι⟩:=dJ φ υ ξ hv;subst hv;refine⟨.bool true,_,_,(congrArg (Sem.run P · w) (casT_eq _ _)).trans (run_cas_hit_entry ε Ψ),?_,sC (sA ⟨m,0,none⟩),bJ.Fs dx hm _,sz (.inr hm) hd (sA ⟨m,0,none⟩),.inr ⟨o',t',bJ.Fq dx ο.a4 ο.g ο.w ?_,Ι⟩⟩
  ·exact(congrArg (Sem.events P · w _) (casT_eq _ _)).trans ((events_cas_hit_entry ε Ψ _).trans rfl)
  ·rw[U,γ];rfl
 ·refine⟨.bool false,w,_,(congrArg (Sem.run P · w) (casT_eq _ _)).trans (run_cas_miss_entry ε Ψ hv),?_,sC (sB ⟨m,0,none⟩ false),fV.refl _ _ _,sz (.inr hm) hd (sB ⟨m,0,none⟩ false),?_⟩
  ·exact(congrArg (Sem.events P · w _) (casT_eq _ _)).trans ((events_cas_miss_entry ε Ψ hv _).trans rfl)
  ·exact(BA φ υ ξ hv).imp (λh=>⟨bJ,h⟩) λ⟨t',h⟩=>⟨υ,t',bJ,h⟩
theorem V.Pj (hm:sp.a4=some m) {d:Int} (h:hI P b ops i op f (Extern.Atomic.update (Op.intArith .add) .i32 true) args env [.pointer (some ⟨m,0,none⟩),.int .i32 d] nt)
  (dJ:∀φ υ,Seen x s sp φ υ->∃o' t',mwd o'=IntKind.i32.wrap (mwd υ+d)/\o'.dm=υ.dm/\y8 υ o'/\rj P Q mn x b cs nt o ops rest k op env σ s φ υ (.int .i32 (mwd o')) o' t') :
  V P Q mn (one x) b cs nt o (.inRegion ops (i::rest)::k) env σ:=by
 refine .ext δ ca c0 h λw φ υ ξ bJ=>.inl ?_;have dx:υ.a4=some m:=by rw[ξ.spec];exact hm
 have ε:=bJ.dZ dx
 have Ψ:=bJ.y5 dx 0;obtain⟨o',t',U,γ,ο,Ι⟩:=dJ φ υ ξ;rw[U] at Ι;refine⟨_,_,_,run_add_entry ε Ψ,(events_add_entry ε Ψ _).trans rfl,sC (sA ⟨m,0,none⟩),bJ.Fs dx hm _,sz (.inr hm) hd (sA ⟨m,0,none⟩),.inr ⟨o',t',bJ.Fq dx ο.a4 ο.g ο.w ?_,Ι⟩⟩;rw[U,γ];rfl
theorem V.Jm (h:hI P b ops i op f (Extern.Atomic.loadT (.int .u64)) args env [.pointer (some ⟨s,0,none⟩)] nt)
  (dJ:∀φ υ,Seen x s sp φ υ->jb P Q mn x b cs nt o ops rest k op env σ s φ υ (.int .u64 (c7 υ))\/∃t',rj P Q mn x b cs nt o ops rest k op env σ s φ υ (.int .u64 (c7 υ)) υ t') :
  V P Q mn (one x) b cs nt o (.inRegion ops (i::rest)::k) env σ:=by
 refine .ext δ ca c0 h λw φ υ ξ bJ=>.inl ?_;have ε:=bJ.cN;refine⟨.int .u64 (c7 υ),w,#[⟨.cell ⟨s,0,none⟩,false,true⟩],?_,?_,sC (sB _ false),fV.refl _ _ _,sz (.inl rfl) hd (sB _ false),(dJ φ υ ξ).imp (λh=>⟨bJ,h⟩) λ⟨t',h⟩=>⟨υ,t',bJ,h⟩⟩
 ·change Sem.run P (do Extern.Atomic.read (.int .u64) (<-asAddr (.pointer (some _)))) w=_;simp[Extern.Atomic.read,asAddr,ε]
 ·change Sem.events P (do Extern.Atomic.read (.int .u64) (<-asAddr (.pointer (some _)))) w _=_;simp[Extern.Atomic.read,asAddr,ε,events_load]
theorem V.Zz {old new:Int} (h:hI P b ops i op f (Extern.Atomic.casT (.int .u64)) args env [.pointer (some ⟨s,0,none⟩),.int .u64 old,.int .u64 new] nt)
  (BA:∀φ υ,Seen x s sp φ υ->¬c7 υ=old->jb P Q mn x b cs nt o ops rest k op env σ s φ υ (.bool false))
  (dJ:∀φ υ,Seen x s sp φ υ->c7 υ=old->∃o' t',c7 o'=new/\o'.cU=υ.cU/\sD υ o'/\rj P Q mn x b cs nt o ops rest k op env σ s φ υ (.bool true) o' t') :
  V P Q mn (one x) b cs nt o (.inRegion ops (i::rest)::k) env σ:=by
 refine .ext δ ca c0 h λw φ υ ξ bJ=>.inl ?_;have ε:=bJ.cN;have Ψ:=bJ.vw 0;by_cases hv:c7 υ=old
 ·obtain⟨o',t',U,γ,ο,Ι⟩:=dJ φ υ ξ hv;subst hv;refine⟨.bool true,_,_,(congrArg (Sem.run P · w) (casT_eq _ _)).trans (run_cas_hit_entry ε Ψ),?_,sC (sA ⟨s,0,none⟩),bJ.y7 _,sz (.inl rfl) hd (sA ⟨s,0,none⟩),.inr ⟨o',t',bJ.y6 ο.a4 ο.g ο.w ?_,Ι⟩⟩
  ·exact(congrArg (Sem.events P · w _) (casT_eq _ _)).trans ((events_cas_hit_entry ε Ψ _).trans rfl)
  ·rw[U,γ];rfl
 ·refine⟨.bool false,w,_,(congrArg (Sem.run P · w) (casT_eq _ _)).trans (run_cas_miss_entry ε Ψ hv),?_,sC (sB ⟨s,0,none⟩ false),fV.refl _ _ _,sz (.inl rfl) hd (sB ⟨s,0,none⟩ false),.inl ⟨bJ,BA φ υ ξ hv⟩⟩;exact(congrArg (Sem.events P · w _) (casT_eq _ _)).trans ((events_cas_miss_entry ε Ψ hv _).trans rfl)
theorem V.Jn {d:Int} (h:hI P b ops i op f (Extern.Atomic.update (Op.intArith .add) .u64 true) args env [.pointer (some ⟨s,0,none⟩),.int .u64 d] nt)
  (dJ:∀φ υ,Seen x s sp φ υ->∃o' t',c7 o'=IntKind.u64.wrap (c7 υ+d)/\o'.cU=υ.cU/\sD υ o'/\rj P Q mn x b cs nt o ops rest k op env σ s φ υ (.int .u64 (c7 o')) o' t') :
  V P Q mn (one x) b cs nt o (.inRegion ops (i::rest)::k) env σ:=by
 refine .ext δ ca c0 h λw φ υ ξ bJ=>.inl ?_;have ε:=bJ.cN;have Ψ:=bJ.vw 0;obtain⟨o',t',U,γ,ο,Ι⟩:=dJ φ υ ξ;rw[U] at Ι;refine⟨_,_,_,run_add_entry ε Ψ,(events_add_entry ε Ψ _).trans rfl,sC (sA ⟨s,0,none⟩),bJ.y7 _,sz (.inl rfl) hd (sA ⟨s,0,none⟩),.inr ⟨o',t',bJ.y6 ο.a4 ο.g ο.w ?_,Ι⟩⟩;rw[U,γ];rfl
end
theorem Pk {w:World} {cM:Addr} {n:Int} {vs:List Value} (δ:vs[0]?=some (.pointer (some cM))) (ε:w.cell? cM=some (.int .u32 n)) (se:n≠0) (Ψ:w.frozen? cM=false):(Extern.Sync.semacquire vs.toArray).run P w=.ok (.tuple #[]) (w.setCell cM (.int .u32 (n-1))):=by
 simp[Extern.Sync.semacquire,Extern.Sync.count,δ,ε,se,Ψ,Extern.Sync.none_,run_store P w cM (.int .u32 (n-1)) .atomic rfl,Result.andThen]
theorem Pl {w:World} {cM:Addr} {n:Int} {vs:List Value} (δ:vs[0]?=some (.pointer (some cM))) (ε:w.cell? cM=some (.int .u32 n)) (se:n≠0) (Ψ:w.frozen? cM=false) (es:Array Event):(Extern.Sync.semacquire vs.toArray).events P w es=es++semEvents cM:=by
 simp[Extern.Sync.semacquire,Extern.Sync.count,δ,ε,se,Ψ,semEvents,events_load,events_store P w _ cM (.int .u32 (n-1)) .atomic rfl,run_store P w cM (.int .u32 (n-1)) .atomic rfl,Result.evThen];apply Array.ext';simp
theorem Pm {w:World} {cM:Addr} {vs:List Value} (δ:vs[0]?=some (.pointer (some cM))) (ε:w.cell? cM=some (.int .u32 0)):(Extern.Sync.semacquire vs.toArray).run P w=.halt .blocked w:=by
 simp[Extern.Sync.semacquire,Extern.Sync.count,δ,ε]
theorem Pn {w:World} {cM:Addr} {n:Int} {vs:List Value} (δ:vs[0]?=some (.pointer (some cM))) (ε:w.cell? cM=some (.int .u32 n)) (Ψ:w.frozen? cM=false):(Extern.Sync.semrelease vs.toArray).run P w=.ok (.tuple #[]) (w.setCell cM (.int .u32 (IntKind.u32.wrap (n+1)))):=by
 simp[Extern.Sync.semrelease,Extern.Sync.count,δ,ε,Ψ,Extern.Sync.none_,Op.intArith,run_store P w cM (.int .u32 (IntKind.u32.wrap (n+1))) .atomic rfl,Result.andThen]
theorem Po {w:World} {cM:Addr} {n:Int} {vs:List Value} (δ:vs[0]?=some (.pointer (some cM))) (ε:w.cell? cM=some (.int .u32 n)) (Ψ:w.frozen? cM=false) (es:Array Event):(Extern.Sync.semrelease vs.toArray).events P w es=es++semEvents cM:=by
 simp[Extern.Sync.semrelease,Extern.Sync.count,δ,ε,Ψ,semEvents,Op.intArith,events_load,events_store P w _ cM (.int .u32 (IntKind.u32.wrap (n+1))) .atomic rfl,run_store P w cM (.int .u32 (IntKind.u32.wrap (n+1))) .atomic rfl,Result.evThen];apply Array.ext';simp
theorem Fu {s df off d:Nat} {sp:Spec} (hb:eN s sp df):pF s sp d (semEvents ⟨df,off,none⟩):=by
 refine⟨by simp[deafBehind,semEvents],λj y Μ=>?_⟩
 match j,Μ with
 | 0,Μ=>simp[semEvents] at Μ;subst Μ;exact .inl rfl
 | 1,Μ=>simp[semEvents] at Μ;subst Μ;exact .inr (.inr ⟨df,off,false,rfl,hb,by simp[semEvents,deafBehind]⟩)
 | 2,Μ=>simp[semEvents] at Μ;subst Μ;exact .inr (.inr ⟨df,off,true,rfl,hb,by simp[semEvents,deafBehind]⟩)
 | 3,Μ=>simp[semEvents] at Μ;subst Μ;exact .inr (.inl rfl)
 | j+4,Μ=>simp[semEvents] at Μ
section
variable {s m:Nat} {sp:Spec} (δ:fh x) (ca:x.spec s=some sp) (c0:¬gB (x.tok s))
include δ ca c0
theorem V.ZA (hm:sp.a4=some m) (ao:vs[0]?=some (.pointer (some ⟨m,1,none⟩))) (cD:∀bs,bs≠s->oa (x.tok bs)) (h:hI P b ops i op f Extern.Sync.semacquire args env vs nt)
  (wait:∀φ υ,Seen x s sp φ υ->υ.dm=0->kW υ (x.tok s))
  (dJ:∀φ υ,Seen x s sp φ υ->0<υ.dm->∃o' t',mwd o'=mwd υ/\o'.dm=υ.dm-1/\y8 υ o'/\rj P Q mn x b cs nt o ops rest k op env σ s φ υ (.tuple #[]) o' t') :
  V P Q mn (one x) b cs nt o (.inRegion ops (i::rest)::k) env σ:=by
 refine .ext δ ca c0 h λw φ υ ξ bJ=>?_;have dx:υ.a4=some m:=by rw[ξ.spec];exact hm
 have ε:=bJ.d' dx;by_cases hv:υ.dm=0
 ·exact .inr ⟨wait φ υ ξ hv,cD,Pm ao (by rw[ε,hv];rfl)⟩
 ·obtain⟨o',t',U,γ,ο,Ι⟩:=dJ φ υ ξ J;have Θ:((υ.dm:Nat):Int)≠0:=J;refine .inl ⟨_,_,_,Pk ao ε Θ (bJ.y5 dx 1),Pl ao ε Θ (bJ.y5 dx 1) _,semEvents_sync _,bJ.Fs dx hm _,Fu (.inr hm),.inr ⟨o',t',bJ.Fq dx ο.a4 ο.g ο.w ?_,Ι⟩⟩;rw[U,γ,show((υ.dm:Nat):Int)-1=((υ.dm-1:Nat):Int) by omega];rfl
theorem V.ZB (ao:vs[0]?=some (.pointer (some ⟨s,1,none⟩))) (cD:∀bs,bs≠s->oa (x.tok bs)) (h:hI P b ops i op f Extern.Sync.semacquire args env vs nt)
  (wait:∀φ υ,Seen x s sp φ υ->υ.cU=0->kW υ (x.tok s))
  (dJ:∀φ υ,Seen x s sp φ υ->0<υ.cU->∃o' t',c7 o'=c7 υ/\o'.cU=υ.cU-1/\sD υ o'/\rj P Q mn x b cs nt o ops rest k op env σ s φ υ (.tuple #[]) o' t') :
  V P Q mn (one x) b cs nt o (.inRegion ops (i::rest)::k) env σ:=by
 refine .ext δ ca c0 h λw φ υ ξ bJ=>?_;have ε:=bJ.aa;by_cases hv:υ.cU=0
 ·exact .inr ⟨wait φ υ ξ hv,cD,Pm ao (by rw[ε,hv];rfl)⟩
 ·obtain⟨o',t',U,γ,ο,Ι⟩:=dJ φ υ ξ J;have Θ:((υ.cU:Nat):Int)≠0:=J;refine .inl ⟨_,_,_,Pk ao ε Θ (bJ.vw 1),Pl ao ε Θ (bJ.vw 1) _,semEvents_sync _,bJ.y7 _,Fu (.inl rfl),.inr ⟨o',t',bJ.y6 ο.a4 ο.g ο.w ?_,Ι⟩⟩;rw[U,γ,show((υ.cU:Nat):Int)-1=((υ.cU-1:Nat):Int) by omega];rfl
theorem V.Pp (hm:sp.a4=some m) (ao:vs[0]?=some (.pointer (some ⟨m,1,none⟩))) (h:hI P b ops i op f Extern.Sync.semrelease args env vs nt)
  (dJ:∀φ υ,Seen x s sp φ υ->υ.dm<1000/\∃o' t',mwd o'=mwd υ/\o'.dm=υ.dm+1/\y8 υ o'/\rj P Q mn x b cs nt o ops rest k op env σ s φ υ (.tuple #[]) o' t') :
  V P Q mn (one x) b cs nt o (.inRegion ops (i::rest)::k) env σ:=by
 refine .ext δ ca c0 h λw φ υ ξ bJ=>.inl ?_;have dx:υ.a4=some m:=by rw[ξ.spec];exact hm
 have ε:=bJ.d' dx;obtain⟨aN,o',t',U,γ,ο,Ι⟩:=dJ φ υ ξ;refine⟨_,_,_,Pn ao ε (bJ.y5 dx 1),Po ao ε (bJ.y5 dx 1) _,semEvents_sync _,bJ.Fs dx hm _,Fu (.inr hm),.inr ⟨o',t',bJ.Fq dx ο.a4 ο.g ο.w ?_,Ι⟩⟩;rw[U,γ,show IntKind.u32.wrap (((υ.dm:Nat):Int)+1)=((υ.dm+1:Nat):Int) by simp only[IntKind.wrap_u32];omega];rfl
end
end
end Go.TL
namespace Go.TL
open Go.Conc
open Go.ConcM (OsLater)
open Go.ConcN (sumTo upd sumTo_upd upd_ne upd_same sumTo_congr le_sumTo)
open Go.ConcR (mk)
variable [bq]
section
variable {P:Program} {T:bk} {Q:Value->Prop} {mn:Bool} {x:a7} {z:hz} {b:Frame} {cs:List Frame} {nt:Nat} {o:Base} {k:List Item} {env:ab} {σ:ac}
variable {ops:Array Oper} {i:Nat} {rest:List Nat} {op:Oper} {f:FuncId} {e:Array Value->Sem Value} {args:Array Operand} {vs:List Value} {fn:Func}
theorem nQ {S:aO} {B:a0} {l:List Value} {vs:Array Value} (h:gg S B σ (l.map θ.z) vs):vs=l.toArray:=by
 apply Array.ext';apply List.ext_getElem?;intro i;have U:=h.1;rw[List.length_map] at U;by_cases hi:i<l.length
 ·have Ζ:(l.map θ.z)[i]?=some (.z l[i]):=by rw[List.getElem?_map,a6 hi];rfl
  have Ε:vs[i]?=some vs[i]:=fw J
  have:=h.2 i _ _ Ζ Ε
  have:vs[i]=l[i]:=by generalize vs[i]=u at this;cases this;rfl
  rw[Array.getElem?_toList,Ε,this];simp[hi]
 ·rw[Array.getElem?_toList,Array.getElem?_eq_none J];simp;omega
theorem V.call (δ:Seq z) (bY:nP b ops i op) (hw:ft env ops op=some true) {y:Operand} {eu:Array TypeId} (Τ:op.op=.call ⟨.value y,args,eu⟩) {g:FuncId} {first captured:am} (Ρ:aT env y=.fn (.func g) first captured) (Ω:Plain P g)
  (h:∀(S:aO) (B:a0) (H:Γ) (t:Array Value) (vs:Array Value),ff o.m o.S o.B o.H o.σ S B H σ->gd o.m nt S B H σ env t->gg S B σ (first++args.toList.map (aT env)++captured) vs->
   aV P Q mn z (Frame.enter P g vs .normal) (aD b t (.inRegion ops (i::rest)::k)::cs) H):V P Q mn z b cs nt o (.inRegion ops (i::rest)::k) env σ:=by
 intro S B H t ν ω;refine .op δ bY.run bY.op (k5 ω.cH hw) (.inr λc=>by rw[Τ];simp) ?_;have e:execOp (bt t) op=(do let d <-Deferred.ofValue (bt t y) (args.map (bt t));invoke d.target d.args):=by unfold execOp;rw[Τ];rfl
 rw[e];have a9:=mI ω.cH y;have nD:=I2 ω.cH args;rw[Ρ] at a9;generalize bt t y=Ο at a9;cases a9 with
 | fn v1 v2 U γ ο Ι=>
  refine χ.bind' (χ.pure' ?_);obtain⟨fn,bR,l5,Ez⟩:=Ω;unfold invoke;simp only;unfold callFunc;refine χ.bind' ?_;show χ P (match P.funcs[g]? with|none=>_|some fn=>_) H _ _;rw[bR];simp only[l5,Ez,Bool.false_eq_true,if_false];refine χ.pure' ?_;have r1:gg S B σ first v1:=⟨U,ο⟩
  have r2:gg S B σ captured v2:=⟨γ,Ι⟩;exact h S B H t _ ν ω ((r1.append nD).append r2)
theorem V.rk {g:FuncId} {body:Code} (bR:P.funcs[g]?=some fn) (oq:fn.body=some body) {c:Frame} {S:aO} {B:a0} {H:Γ} (Δ:Holds S B σ H) (Θ:vs.length<=fn.ntmps)
  (h:V P Q mn z (Frame.enter P g vs.toArray .normal) (c::cs) fn.ntmps ⟨S,[],H,[],0⟩ [.code body] (entry 0 (vs.map θ.z)) []):aV P Q mn z (Frame.enter P g vs.toArray .normal) (c::cs) H:=by
 rw[q5 bR oq];refine h.here (gd.enter Δ.bare ⟨η,λi a v U γ=>?_⟩ (Nat.le_refl _) (by simpa using Θ));simp only[List.getElem?_map,List.getElem?_toArray] at U γ;rw[γ] at U;cases U;exact .z v
theorem V.Jo (δ:Seq z) (hb:b.mode=.run) (cv:b.roundOf=none) (e6:b.defers=[]) (ht:b.kind=.normal) (bR:P.funcs[b.fn]?=some fn) (fs:fn.results=#[]) {c:Frame}
  (h:∀(S:aO) (B:a0) (H:Γ),ff o.m o.S o.B o.H o.σ S B H σ->Holds S B σ H->aV P Q mn z (c.finish (.tuple #[])) cs H):V P Q mn z b (c::cs) nt o (.code .ret::k) env σ:=by
 intro S B H t ν ω;refine .ret δ hb cv (.back δ rfl e6 (.inl ht) bR ?_);rw[results_none fs];exact χ.pure' (h S B H ν ω.holds)
theorem V.Fv (δ:Seq z) (hb:b.mode=.run) (cv:b.roundOf=none) (e6:b.defers=[]) (ht:b.kind=.normal) (bR:P.funcs[b.fn]?=some fn) (fs:fn.results=#[]) {c:Frame}
  (h:∀(S:aO) (B:a0) (H:Γ),ff o.m o.S o.B o.H o.σ S B H σ->Holds S B σ H->aV P Q mn z (c.finish (.tuple #[])) cs H):V P Q mn z b (c::cs) nt o [] env σ:=by
 intro S B H t ν ω;refine .s' δ hb cv (.back δ rfl e6 (.inl ht) bR ?_);rw[results_none fs];exact χ.pure' (h S B H ν ω.holds)
theorem V.tR (δ:Seq z) (hb:b.mode=.run) (cv:b.roundOf=none) (e6:b.defers=[]) (ht:b.kind=.normal) (bR:P.funcs[b.fn]?=some fn) {d:Nat} (fs:fn.results=#[.tmp d]) {v:Value} (hv:a' env d=.z v) {c:Frame}
  (h:∀(S:aO) (B:a0) (H:Γ),ff o.m o.S o.B o.H o.σ S B H σ->Holds S B σ H->aV P Q mn z (c.finish v) cs H):V P Q mn z b (c::cs) nt o (.code .ret::k) env σ:=by
 intro S B H t ν ω;refine .ret δ hb cv (.back δ rfl e6 (.inl ht) bR ?_);have e:results fn t=pure (t.getD d undef):=by unfold results;rw[fs];simp
 have mC:t.getD d undef=v:=by
  have:=ω.cH d;rw[hv] at this;generalize t.getD d undef=u at this;cases this;rfl
 show χ P (results fn t) H _ _;rw[e,mC];exact χ.pure' (h S B H ν ω.holds)
theorem ZC {w:World} {ty:TypeId} {kd:IntKind} (hu:P.underlying ty=some (.int kd)) {cM:Addr} {v:Value} (ε:w.cell? cM=some v):(Instr.loadAt ty (.pointer (some cM))).run P w=.ok v w/\(Instr.loadAt ty (.pointer (some cM))).events P w #[]=#[⟨.cell cM,false,false⟩]:=by
 constructor
 ·simp[Instr.loadAt,Instr.sureAddr,loadVar,isAgg,run_underlying hu,ε,Result.andThen]
 ·simp[Instr.loadAt,Instr.sureAddr,loadVar,isAgg,run_underlying hu,ε,events_load,Result.evThen]
theorem ZD {t:Array Value} {w:World} (bY:nP b ops i op) (hw:Region.wanted op (yielded ops t)=true) {ty:TypeId} {y:Operand} (Τ:op.op=.load ty y) {kd:IntKind} (hu:P.underlying ty=some (.int kd)) {cM:Addr} (Μ:bt t y=.pointer (some cM)) {v:Value} (ε:w.cell? cM=some v) (Χ:(P.funcs[b.fn]?).any (·.norace)=true) :
  stepG P mn (Go.Conc.G (aD b t (.inRegion ops (i::rest)::k)) cs) w=.go (Go.Conc.G (aD b (put op t v) (.inRegion ops rest::k)) cs) w #[]:=by
 obtain⟨r1,r2⟩:=ZC (P:=P) hu ε;have e:execOp (bt t) op=(do pure (.value (<-Instr.loadAt ty (.pointer (some cM))))):=by unfold execOp;rw[Τ,<-Μ]
 rw[hj bY.run bY.ro,hj bY.run bY.ro,<-vu];have μ:(execOp (⟨t,b.defers⟩:_root_.Go.Act).eval op).run P w=.ok (.value v) w:=by rw[m3,e];simp[r1,Result.andThen]
 have he:(execOp (⟨t,b.defers⟩:_root_.Go.Act).eval op).events P w #[]=#[⟨.cell cM,false,false⟩]:=by rw[m3,e];simp[r1,r2,Result.evThen]
 rw[stepG_value bY.op hw bY.kd μ];unfold listed;rw[he,seen_def,Χ];simp[seenStep]
section
variable {s:Nat} {sp:Spec} (δ:fh x) (ca:x.spec s=some sp) (c0:¬gB (x.tok s))
include δ ca c0
theorem V.y9 (bY:nP b ops i op) (hd:hD nt op=true) (hw:ft env ops op=some true) {ty:TypeId} {y:Operand} (Τ:op.op=.load ty y) {kd:IntKind} (hu:P.underlying ty=some (.int kd)) {cM:Addr} (Μ:aT env y=.z (.pointer (some cM))) (Χ:(P.funcs[b.fn]?).any (·.norace)=true)
  (val:aW->Int) (ε:∀(υ:aW) (w:World),υ.toSpec=sp->At s υ w->w.cell? cM=some (.int kd (val υ)))
  (dJ:∀φ υ,Seen x s sp φ υ->jb P Q mn x b cs nt o ops rest k op env σ s φ υ (.int kd (val υ))\/∃t',rj P Q mn x b cs nt o ops rest k op env σ s φ υ (.int kd (val υ)) υ t') :
  V P Q mn (one x) b cs nt o (.inRegion ops (i::rest)::k) env σ:=by
 refine .atomic δ ca c0 hd hw λt w φ υ dQ _ rU U γ ο Ι=>.inl ?_;refine⟨.int kd (val υ),w,#[],ZD bY rU Τ hu (dQ _ _ Μ) (ε υ w U γ) Χ,fV.refl _ _ _,Ph,?_⟩;exact(dJ φ υ ⟨U,ο,Ι⟩).imp (λh=>⟨γ,h⟩) λ⟨t',ax,bf⟩=>⟨υ,t',ax,γ,.inr rfl,bf⟩
theorem V.conv (bY:nP b ops i op) (hd:hD nt op=true) (hw:ft env ops op=some true) {src dst t0:TypeId} {y:Operand} (Τ:op.op=.convert src dst y) (ξ:P.underlying src=some (.pointer t0)) (wI:P.underlying dst=some .unsafePointer) (cA:(P.info? t0).map (λi=>decide (i.size=0))=some false) {cM:Addr} (Μ:aT env y=.z (.pointer (some cM)))
  (ε:∀(υ:aW) (w:World),υ.toSpec=sp->At s υ w->∃v,w.cell? cM=some v)
  (dJ:∀φ υ,Seen x s sp φ υ->jb P Q mn x b cs nt o ops rest k op env σ s φ υ (.pointer (some cM))) :
  V P Q mn (one x) b cs nt o (.inRegion ops (i::rest)::k) env σ:=by
 refine .atomic δ ca c0 hd hw λt w φ υ dQ _ rU U γ ο Ι=>.inl ?_;obtain⟨v,hv⟩:=ε υ w U γ;refine⟨.pointer (some cM),w,#[],?_,fV.refl _ _ _,Ph,.inl ⟨γ,dJ φ υ ⟨U,ο,Ι⟩⟩⟩;have r1:=run_convert_to_unsafe (P:=P) ξ wI cA hv;have r2:=events_convert_to_unsafe (P:=P) ξ wI cA hv #[];have e:execOp (bt t) op=(do pure (.value (<-convert src dst (.pointer (some cM))))):=by unfold execOp;rw[Τ,<-dQ _ _ Μ]
 rw[hj bY.run bY.ro,hj bY.run bY.ro,<-vu];have μ:(execOp (⟨t,b.defers⟩:_root_.Go.Act).eval op).run P w=.ok (.value (.pointer (some cM))) w:=by rw[m3,e];simp[r1,Result.andThen]
 have he:(execOp (⟨t,b.defers⟩:_root_.Go.Act).eval op).events P w #[]=#[]:=by rw[m3,e];simp[r1,r2,Result.evThen]
 rw[stepG_value bY.op rU bY.kd μ];unfold listed;rw[he,seen_none]
end
theorem ZE (w:World):OsLater w.os w.later.os:=⟨w.tick,rfl⟩
theorem ej.later {H:Γ} {w:World} (h:Fits H w):ej H w H w.later #[]:=
 ⟨⟨h.aS,h.row,h.obj⟩,⟨Nat.le_refl _,λb c t ep hb=>⟨c,hb,rfl,λ_ _=>rfl⟩,λb x hb _ _=>hb,ZE w,rfl,rfl⟩,⟨λb o v p h=>.inr ⟨v,p,h,id⟩,λb h=>.inr h⟩,λe he=>by simp at he⟩
theorem V.nano (δ:Seq z) (h:hI P b ops i op f Extern.OsHooks.nano args env vs nt) (Χ:(P.funcs[f]?).any (·.norace)=true) (ψ:∀τ:Int,V P Q mn z b cs nt o (.inRegion ops rest::k) (b7 op env (.z (.int .i64 τ))) σ):V P Q mn z b cs nt o (.inRegion ops (i::rest)::k) env σ:=by
 intro S B H t ν ω;obtain⟨fn,U,γ,ο,Ι,ax⟩:=h.nG;obtain⟨eu,Τ⟩:=h.call;rw[U] at Χ;refine aV.own δ λw Ρ=>⟨_,_,_,_,H,?_,ej.later Ρ,ψ ((w.os.mono+w.tick:Nat):Int) S B H _ ν (ω.put h.dst (.z _))⟩;rw[hj h.at_.run h.at_.ro,stepG_nanotime (a:=⟨t,b.defers⟩) h.at_.op (k5 ω.cH h.want) h.at_.kd Τ U γ ο Ι ax (by simpa using Χ),vu,<-hj h.at_.run h.at_.ro]
theorem V.canSpin (δ:Seq z) {n:Int} (h:hI P b ops i op f Extern.Sync.canSpin args env [.int .i64 n] nt) (ψ:∀y:Bool,(y=true->n<4)->V P Q mn z b cs nt o (.inRegion ops rest::k) (b7 op env (.z (.bool y))) σ):V P Q mn z b cs nt o (.inRegion ops (i::rest)::k) env σ:=by
 intro S B H t ν ω;obtain⟨fn,U,γ,ο,Ι,ax⟩:=h.nG;obtain⟨eu,Τ⟩:=h.call;have iv:args.map (⟨t,b.defers⟩:_root_.Go.Act).eval=#[.int .i64 n]:=by rw[m3];exact h.Bz.bt ω.cH
 by_cases bf:n<4
 ·refine aV.own δ λw Ρ=>⟨_,_,_,_,H,?_,(ej.start Ρ).draw (w.drawn+1),ψ w.spins (λ_=>bf) S B H _ ν (ω.put h.dst (.z _))⟩;rw[hj h.at_.run h.at_.ro,stepG_canSpin_ask (a:=⟨t,b.defers⟩) h.at_.op (k5 ω.cH h.want) h.at_.kd Τ U γ ο Ι ax iv bf,vu,<-hj h.at_.run h.at_.ro];rfl
 ·refine aV.own δ λw Ρ=>⟨_,_,w,#[],H,?_,ej.start Ρ,ψ false (λh=>by cases h) S B H _ ν (ω.put h.dst (.z _))⟩;rw[hj h.at_.run h.at_.ro,stepG_canSpin_no (a:=⟨t,b.defers⟩) h.at_.op (k5 ω.cH h.want) h.at_.kd Τ U γ ο Ι ax iv J,vu,<-hj h.at_.run h.at_.ro]
theorem V.Fw (δ:Seq z) {v:Value} (h:hI P b ops i op f (λ_=>pure v) args env vs nt) (ψ:V P Q mn z b cs nt o (.inRegion ops rest::k) (b7 op env (.z v)) σ):V P Q mn z b cs nt o (.inRegion ops (i::rest)::k) env σ:=
 λS B H t ν ω=>aV.own δ λw Ρ=>⟨_,_,w,#[],H,h.step ω.cH η η η,ej.start Ρ,ψ S B H _ ν (ω.put h.dst (.z v))⟩
theorem V.Jp (δ:Seq z) (bY:nP b ops i op) (hw:ft env ops op=some true) (si:op.dst=none) {eu:Array TypeId} (Τ:op.op=.defer ⟨.value (.func f),#[],eu⟩)
  (h:V P Q mn z {b with defers:=Go.Conc.dcall f #[]::b.defers} cs nt o (.inRegion ops rest::k) env σ):V P Q mn z b cs nt o (.inRegion ops (i::rest)::k) env σ:=by
 intro S B H t ν ω;have OF:put op t undef=t:=by unfold put;rw[si]
 refine aV.still δ (f':=aD {b with defers:=Go.Conc.dcall f #[]::b.defers} t (.inRegion ops rest::k)) (cs':=cs) (λw=>?_) (h S B H t ν ω);rw[hj bY.run bY.ro,stepG_defer (a:=⟨t,b.defers⟩) bY.op (k5 ω.cH hw) bY.kd Τ];have:(⟨t,Go.Conc.dcall f #[]::b.defers⟩:_root_.Go.Act).put op.dst undef=⟨t,Go.Conc.dcall f #[]::b.defers⟩:=by rw[si];rfl
 simp only[Array.map_empty,List.map_toArray,List.map_nil];rw[this,hj (b:={b with defers:=Go.Conc.dcall f #[]::b.defers}) bY.run bY.ro];rfl
theorem cG.ZF (δ:fh x) (hd:0<x.deaf) (hb:b.mode=.run) (cv:b.roundOf=none) {ds:List Deferred} (e6:b.defers=Go.Conc.dcall f #[]::ds) (he:Entry P f (λ_=>do mark .enable;pure Extern.Race.none_)) {H:Γ} {t:Array Value}
  (h:cG P Q mn {x with deaf:=x.deaf-1} {aD {b with defers:=ds} t k with mode:=.returning} cs H):cG P Q mn x {aD b t k with mode:=.returning} cs H:=by
 obtain⟨fn,U,γ,ο,Ι,ax⟩:=he;refine Goes.step δ.ok (.inr ⟨⟨rfl,rfl⟩,.inr (.inl ⟨Go.Conc.G {aD {b with defers:=ds} t k with mode:=.returning} cs,⟨rfl,rfl⟩,.inr ⟨hd,λw _=>⟨?_,h⟩⟩⟩)⟩);rw[hj hb cv,hj (b:={b with defers:=ds}) hb cv];exact stepG_unwind_entry (a:=⟨t,b.defers⟩) (v:=.tuple #[]) e6 U γ ο Ι ax (Fo .enable) (Fp .enable _) (sy η)
end
inductive Quiet (P:Program) (mn:Bool):Goroutine->Goroutine->Prop where
 | nil (g:Goroutine):Quiet P mn g g
 | cons {g g' Pq:Goroutine}:jA g->(∀w,stepG P mn g w=.go g' w #[])->Quiet P mn g' Pq->Quiet P mn g Pq
section
variable {P:Program} {Q:Value->Prop} {mn:Bool} {x:a7} {g g':Goroutine}
theorem Quiet.runs (h:Quiet P mn g g') (μ:jA g'):jA g:=by
 cases h with
 | nil=>exact μ
 | cons U=>exact U
theorem Quiet.goes (h:Quiet P mn g g') (δ:fh x) (μ:jA g') (Ω:Goes P Q mn g' x):Goes P Q mn g x:=by
 induction h with
 | nil=>exact Ω
 | cons U γ ο Α=>
  refine Goes.step δ.ok (.inr ⟨U,.inl λw Ρ hv=>?_⟩);rw[γ w];refine⟨x.G,x.aR,ο.runs μ,fV.refl _ _ _,Ρ,hv,⟨λb o v p h=>.inr ⟨v,p,h,id⟩,λb h=>.inr h⟩,λb c h=>.inl h,λe he=>by simp at he,λb c _ _ e he=>by simp at he,Α μ Ω⟩
end
end Go.TL
namespace Go.TL
open Go.Conc Go.Proofs
variable [bq]
def tS (P:Program) (Q:Value->Prop) (mn:Bool) (x:hz) (b:Frame) (cs:List Frame) (nt:Nat) (o:Base) (L:Nat) (r:Loop) (k:List Item) (env:ab) (σ:ac):Prop:=
 ∀(S:aO) (B:a0) (H:Γ) (t:Array Value),ff o.m o.S o.B o.H o.σ S B H σ->gd o.m nt S B H σ env t->¬B.has L->H.obj L=some (.loop r)->aV P Q mn x (aD b t k) cs H
theorem rl {S aJ:aO} {B B':a0} {H H':Γ} (he:Ext S B H aJ B' H') {L:Nat} {y:Obj} (Θ:¬B.has L) (ad:H.obj L=some y):¬B'.has L/\H'.obj L=some y:=by
 have Ρ:¬H.fresh L:=λh=>by rw[h.2.2.1] at ad;cases ad
 exact⟨λh=>(he.blocks L h).elim Θ Ρ,by rw[(he.gl L Θ Ρ).2.2];exact ad⟩
theorem ZG {H:Γ} {L:Nat} {y:Obj} (ad:H.fx L):∀b,(H.bQ L y).fresh b↔H.fresh b:=by
 obtain⟨z,Ψ⟩:=ad;have key:∀b,((H.bQ L y).obj b=none↔H.obj b=none):=λb=>by
  by_cases e:b=L
  ·subst e;simp[Γ.bQ,Ψ]
  ·simp[Γ.bQ,e]
 exact λb=>⟨λh=>⟨h.1,h.2.1,(key b).1 h.2.2.1,λag hb=>⟨(h.2.2.2 ag hb).1,(h.2.2.2 ag hb).2.1,(key ag).1 (h.2.2.2 ag hb).2.2⟩⟩,
  λh=>⟨h.1,h.2.1,(key b).2 h.2.2.1,λag hb=>⟨(h.2.2.2 ag hb).1,(h.2.2.2 ag hb).2.1,(key ag).2 (h.2.2.2 ag hb).2.2⟩⟩⟩
theorem Holds.bQ {S:aO} {B:a0} {σ:ac} {H:Γ} {L:Nat} {y:Obj} (Δ:Holds S B σ H) (Θ:¬B.has L):Holds S B σ (H.bQ L y):=by
 have a3:∀b,b≠L->lD H (H.bQ L y) b:=λb hb=>⟨λ_=>rfl,rfl,by simp[Γ.bQ,hb]⟩
 have ne:∀(id b N:Nat),B[id]?=some (some (b,N))->b≠L:=λid b N h e=>Θ (e▸pQ h);refine⟨Δ.dy,Δ.len,λid r bo μ eJ=>?_,Δ.inj,Δ.sep⟩;by_cases fr:r.live
 ·refine(Δ.row id r bo μ eJ).later (b8.refl S B σ) (λb N e=>a3 b (ne id b N (by rw[eJ,e]))) λm left cur e=>⟨rfl,rfl,λb N hb=>a3 b (ne m b N hb)⟩
 ·cases r<;>first|exact absurd trivial fr|trivial
theorem Ext.bQ {fJ S:aO} {eV B:a0} {et H:Γ} {L:Nat} {y:Obj} (he:Ext fJ eV et S B H) (Ρ:et.fresh L) (ad:H.fx L):Ext fJ eV et S B (H.bQ L y):=by
 refine⟨he.dy,λb hb pS=>?_,he.blocks,he.r7,λb hb=>he.grow b ((ZG ad b).1 hb)⟩;have:b≠L:=λe=>pS (e▸Ρ);obtain⟨U,γ,ο⟩:=he.gl b hb pS;exact⟨U,γ,by simp[Γ.bQ,this,ο]⟩
section
variable {P:Program} {T:bk} {Q:Value->Prop} {mn:Bool} {x:hz} {b:Frame} {cs:List Frame} {nt:Nat} {o:Base} {L:Nat} {r:Loop} {k:List Item} {env:ab} {σ:ac}
theorem tS.gj (δ:Seq x) (hb:b.mode=.run) (h:W P o.m nt k env σ (tS P Q mn x b cs nt o L r) (λ_ _ _=>False)):tS P Q mn x b cs nt o L r k env σ:=
 λS B H t ν ω ma ad=>h Q mn x cs b S B H t δ hb ω (λj env' σ' aJ B' H' t' al Ψ ew iP π=>by
  have e:al=j:=π;subst e;obtain⟨U,γ⟩:=rl ew.ext ma ad;exact Ψ aJ B' H' t' (ν.trans ew) iP U γ) (λa env' σ' aJ B' H' t' al v he=>he.elim)
theorem tS.yield (δ:Seq x) {ops:Array Oper} {i:Nat} {rest:List Nat} {op:Oper} (bY:nP b ops i op) (hw:ft env ops op=some true) {y:Operand} {args:Array Operand} {eu:Array TypeId} (Τ:op.op=.call ⟨.value y,args,eu⟩) (Ρ:aT env y=.fn (.yield L) [] []) (cA:args.size=r.params.size)
  (h:∀(S:aO) (B:a0) (H:Γ) (t:Array Value) (vs:Array Value),ff o.m o.S o.B o.H o.σ S B H σ->gd o.m nt S B H σ env t->¬B.has L->H.obj L=some (.loop r)->gg S B σ (args.toList.map (aT env)) vs->
   aV P Q mn x (Frame.round L r.fn ((r.params.zip vs).foldl (λtmps (t,a)=>tmps.setIfInBounds t a) r.tmps) r.assign r.body .normal) (aD b t (.inRegion ops (i::rest)::k)::cs) H):tS P Q mn x b cs nt o L r (.inRegion ops (i::rest)::k) env σ:=by
 intro S B H t ν ω ma ad;refine aV.op δ bY.run bY.op (k5 ω.cH hw) (.inr λc=>by rw[Τ];simp) ?_;have e:execOp (bt t) op=(do let d <-Deferred.ofValue (bt t y) (args.map (bt t));invoke d.target d.args):=by unfold execOp;rw[Τ];rfl
 rw[e];have a9:=mI ω.cH y;have nD:=I2 ω.cH args;rw[Ρ] at a9;generalize bt t y=Ο at a9;cases a9 with
 | fn v1 v2 U γ ο Ι=>
  have Ζ:v1=#[]:=Array.eq_empty_of_size_eq_zero (by rw[<-U];rfl)
  have Ε:v2=#[]:=Array.eq_empty_of_size_eq_zero (by rw[<-γ];rfl);subst Ζ;subst Ε;refine χ.bind' (χ.pure' ?_);have yd:invoke (Target.fn (Fn.yield L) #[]) (#[]++args.map (bt t))=Instr.yield L (args.map (bt t)):=by simp[invoke]
  show χ P (invoke (Target.fn (Fn.yield L) #[]) (#[]++args.map (bt t))) H _ _;rw[yd];unfold Instr.yield;refine χ.bind' (χ.getLoop ad ?_);rw[if_neg (by simp[cA])];refine χ.bind' (χ.pure' (χ.pure' ?_));exact h S B H t _ ν ω ma ad nD
end
end Go.TL
namespace Go.TL
open Go.Conc Go.Proofs
def rm (n:Nat) (l:List Nat):Nat->Option Nat
 | 0=>none
 | e+1=>if l.getD e 0+l.length=n+e then rm n l e else some e
def nR (l:List Nat) (i:Nat) (k:Nat):List Nat:=l.take i++((List.range k).map λj=>l.getD i 0+1+j)++l.drop (i+k)
def rn (n:Nat) (l:List Nat):Option (List Nat):=(rm n l l.length).map λi=>nR l i (l.length-i)
def pq (n:Nat):Nat->List Nat->List (List Nat)
 | 0,l=>[l]
 | f+1,l=>l::match rn n l with|none=>[]|some m=>pq n f m
def rp (n:Nat):Nat->List Nat->Bool
 | 0,l=>l.all (· < n)&&(rn n l).isNone
 | f+1,l=>l.all (· < n)&&match rn n l with|none=>true|some m=>rp n f m
def lM (n c:Nat):List (List Nat):=(List.range' c (n+1-c)).flatMap λm=>pq n 300 (List.range m)
theorem ZH:∀n<11,∀m<n+1,rp n 300 (List.range m)=true:=by decide +kernel
theorem ZI {n c:Nat} (h:c<n+1):lM n c=pq n 300 (List.range c)++lM n (c+1):=by
 unfold lM;have:n+1-c=(n+1-(c+1))+1:=J;rw[this,List.range'_succ,List.flatMap_cons]
theorem ZJ {n:Nat}:lM n (n+1)=[]:=by simp[lM]
theorem ZK {n f:Nat} {l:List Nat} (h:rp n f l=true):∀x∈l,x<n:=by
 cases f<;>simp only[rp,Bool.and_eq_true,List.all_eq_true,decide_eq_true_eq] at h<;>exact h.1
theorem ZL {n f:Nat} {l:List Nat} (h:rn n l=none):pq n f l=[l]:=by
 cases f<;>simp[pq,h]
theorem ZM {n f:Nat} {l m:List Nat} (Β:rp n f l=true) (h:rn n l=some m):∃g,f=g+1/\pq n f l=l::pq n g m/\rp n g m=true:=by
 cases f with
 | zero=>simp[rp,h] at Β
 | succ g=>exact⟨g,rfl,by simp[pq,h],by simp[rp,h] at Β;exact Β.2⟩
theorem Pr {l:List Nat} {i k:Nat} (h:i+k<=l.length):(nR l i k).length=l.length:=by simp[nR];omega
theorem ZN {l:List Nat} {i:Nat} (h:i<l.length):nR l i 1=l.set i (l[i]+1):=by
 unfold nR;rw[List.set_eq_take_append_cons_drop,if_pos h];simp[h]
theorem ZO {l:List Nat} {i k:Nat} (ψ:0<k) (h:i+k<=l.length):(nR l i k).getD (i+k-1) 0=l.getD i 0+k:=by
 unfold nR;have Ζ:(l.take i).length=i:=by simp;omega
 rw[List.getD_eq_getElem?_getD,List.append_assoc,gA J,Ζ,dM (by simp;omega)];have:i+k-1-i=k-1:=J;rw[this,List.getElem?_map,List.getElem?_range J];simp;omega
theorem ZP {l:List Nat} {i k:Nat} (h:i+k<l.length):(nR l i k).set (i+k) (l.getD i 0+k+1)=nR l i (k+1):=by
 unfold nR;have Ζ:(l.take i++(List.range k).map λj=>l.getD i 0+1+j).length=i+k:=by simp;omega
 rw[List.set_append_right _ _ J,Ζ,Nat.sub_self,List.range_succ,List.map_append];have Ε:l.drop (i+k)=l[i+k]::l.drop (i+k+1):=List.drop_eq_getElem_cons h;rw[Ε,List.set_cons_zero];simp;constructor<;>omega
end Go.TL
