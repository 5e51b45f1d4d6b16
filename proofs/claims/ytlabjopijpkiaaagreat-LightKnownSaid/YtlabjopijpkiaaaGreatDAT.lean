import Derived.Conc.AtomicLaws2
import Derived.Conc.ClockLaws
import Derived.Conc.MarkLaws
import Derived.Test.YtlabjopijpkiaaaGreatDAR
import Derived.Test.YtlabjopijpkiaaaGreatDAS
set_option maxHeartbeats 16000000
set_option maxRecDepth 20000
set_option linter.unusedSectionVars false
set_option linter.unusedSimpArgs false
set_option linter.unusedVariables false
namespace Go.TL
open Go.Proofs
variable [bj]
abbrev tJ (k:List Int):θ:=.a6 (k.map J)
abbrev o2 (e:List Int×Int):θ×θ:=(tJ e.1,J e.2)
def Aa (m:List (List Int×Int)):Prop:=∀e∈m,e.1.length=4
theorem WV (x y:List Int) (U:x.length=4) (Φ:y.length=4):aeqv bf 157 (tJ x) (tJ y)=some (decide (x=y)):=by
 match x,U,y,Φ with
 | [a,b,c,d],_,[bP,Ψ,c',WW],_=>
  simp[aeqv,jK,mg,Bool.eq_iff_iff]
def kj:List (List Int×Int)->List Int->Int->List (List Int×Int)
 | [],k,v=>[(k,v)]
 | e::r,k,v=>if k=e.1 then(k,v)::r else e::kj r k v
def vH:List (List Int×Int)->List Int->Option Int
 | [],_=>none
 | e::r,k=>if k=e.1 then some e.2 else vH r k
theorem WX (k:List Int) (ψ:k.length=4):∀(m:List (List Int×Int)) (d:Nat),Aa m->(hF bf 157 (tJ k) (m.map o2) d=some none/\vH m k=none/\∀v,kj m k v=m++[(k,v)])\/
  ∃i x,i<m.length/\hF bf 157 (tJ k) (m.map o2) d=some (some (d+i,J x))/\vH m k=some x/\∀v,kj m k v=m.set i (k,v):=by
 intro m
 induction m with
 | nil=>intro d _;exact .inl ⟨rfl,rfl,λ_=>rfl⟩
 | cons e r ω=>
  intro d Ι;have Χ:=WV k e.1 ψ (Ι e η);by_cases h:k=e.1
  ·refine .inr ⟨0,e.2,η,?_,by simp[vH,h],λv=>by simp[kj,h]⟩;simp only[List.map_cons,hF,Χ];simp[h]
  ·have hb:decide (k=e.1)=false:=by simpa using h
   rcases ω (d+1) (λx U=>Ι x (by simp[U])) with⟨I,R,ν⟩|⟨i,x,I,R,ν,aB⟩
   ·refine .inl ⟨?_,by simp[vH,h,R],λv=>by simp[kj,h,ν]⟩;simp only[List.map_cons,hF,Χ,hb,cond_false];exact I
   ·refine .inr ⟨i+1,x,by simp;omega,?_,by simp[vH,h,ν],λv=>by simp[kj,h,aB]⟩;simp only[List.map_cons,hF,Χ,hb,cond_false];rw[R];have:d+1+i=d+(i+1):=γ;rw[this]
theorem Nt {m:List (List Int×Int)} (h:Aa m) {k:List Int} (ψ:k.length=4) (v:Int):Aa (kj m k v):=by
 induction m with
 | nil=>intro e he;simp[kj] at he;subst he;exact ψ
 | cons a r ω=>
  intro e he;unfold kj at he;split at he
  ·rcases List.mem_cons.1 he with rfl|he
   ·exact ψ
   ·exact h e (by simp[he])
  ·rcases List.mem_cons.1 he with rfl|he
   ·exact h _ η
   ·exact ω (λx U=>h x (by simp[U])) e he
def o3 (s:aL) (p r:Int×Int) (L:List Nat) (k:Nat):List Int:=((L.take k).map λx=>s.iF p r x)++List.replicate (4-k) 0
theorem Nu {s:aL} {p r:Int×Int} {L:List Nat} {k:Nat} (ψ:k<=L.length) (Ι:L.length<=4):(o3 s p r L k).length=4:=by simp[o3];omega
theorem WY {s:aL} {p r:Int×Int} {L:List Nat} {k:Nat} (ψ:k<L.length) (Ι:L.length<=4):(o3 s p r L k).take k++s.iF p r L[k]::(o3 s p r L k).drop (k+1)=o3 s p r L (k+1):=by
 have Γ:((L.take k).map λx=>s.iF p r x).length=k:=by simp;omega
 have Θ:4-k=(4-(k+1))+1:=γ;unfold o3;rw[List.take_left' Γ,List.drop_append,List.drop_eq_nil_of_le γ,Γ,List.take_succ_eq_append_getElem ψ,List.map_append,Θ,List.replicate_succ];have bO:k+1-k=1:=γ;rw[bO];simp
abbrev xD:=Option (List (List Int×Int))
def xE (m:xD) (k:List Int) (v:Int):xD:=m.bind λm=>match vH m k with|some x=>if x=v then some (kj m k v) else none|none=>some (kj m k v)
def mB (s:aL) (f:Found) (cell:Nat) (lower:Bool) (L:List Nat) (m:xD) (j:Nat):xD:=(((f.cells[cell]?).getD []).take j).foldl (λm r=>xE m (o3 s (f.u,f.v) r L L.length) (kZ lower r)) m
def tK (s:aL) (F:List Found) (cell:Nat) (lower:Bool) (L:List Nat) (i:Nat):xD:=(F.take i).foldl (λm f=>mB s f cell lower L m ((f.cells[cell]?).getD []).length) (some [])
def q' (s:aL) (F:List Found) (cell:Nat) (lower:Bool) (L:List Nat):Bool:=(tK s F cell lower L F.length).isSome
theorem WZ (s:aL) (f:Found) (cell:Nat) (lower:Bool) (L:List Nat) (m:xD) (j:Nat) (h:j<((f.cells[cell]?).getD []).length):mB s f cell lower L m (j+1)=xE (mB s f cell lower L m j) (o3 s (f.u,f.v) ((f.cells[cell]?).getD [])[j] L L.length) (kZ lower ((f.cells[cell]?).getD [])[j]):=by
 unfold mB;rw[List.take_succ_eq_append_getElem h,List.foldl_append];rfl
theorem Nv (s:aL) (F:List Found) (cell:Nat) (lower:Bool) (L:List Nat) (i:Nat) (h:i<F.length):tK s F cell lower L (i+1)=mB s F[i] cell lower L (tK s F cell lower L i) ((F[i].cells[cell]?).getD []).length:=by
 unfold tK;rw[List.take_succ_eq_append_getElem h,List.foldl_append];rfl
theorem Nw (l:List (Int×Int)) (k:(Int×Int)->List Int) (v:Int×Int->Int):l.foldl (λm r=>xE m (k r) (v r)) none=none:=by
 induction l with
 | nil=>rfl
 | cons a l ω=>exact ω
theorem W0 (s:aL) (F:List Found) (cell:Nat) (lower:Bool) (L:List Nat) {i j:Nat} (hi:i<F.length) (δ:j<=((F[i].cells[cell]?).getD []).length) (h:mB s F[i] cell lower L (tK s F cell lower L i) j=none):q' s F cell lower L=false:=by
 have I:mB s F[i] cell lower L (tK s F cell lower L i) ((F[i].cells[cell]?).getD []).length=none:=by
  unfold mB at h ⊢;rw[List.take_length]
  conv=>lhs;rw[<-List.take_append_drop j ((F[i].cells[cell]?).getD [])]
  rw[List.foldl_append,h];exact Nw _ _ _
 rw[<-Nv s F cell lower L i hi] at I;unfold q';unfold tK at I ⊢;rw[List.take_length]
 conv=>lhs;rw[<-List.take_append_drop (i+1) F]
 rw[List.foldl_append,I];have:∀l:List Found,(l.foldl (λm f=>mB s f cell lower L m ((f.cells[cell]?).getD []).length) none)=none:=λl=>by
  induction l with
  | nil=>rfl
  | cons a l ω=>
   rw[List.foldl_cons];have:mB s a cell lower L none ((a.cells[cell]?).getD []).length=none:=by unfold mB;exact Nw _ _ _
   rw[this];exact ω
 rw[this];rfl
abbrev dP (L:List Nat):Row:=.cells 3 1 (L.map λn:Nat=>J n)
theorem HE {h:Nat} {L:List Nat}:eV h (dP L):=λe he a κ=>by
 obtain⟨x,_,rfl⟩:=List.mem_map.1 he;simp[θ.cells] at κ;subst κ;simp
theorem W1 (s:aL) (μ:s.small) (F:List Found) (c5:DF s F) (cell:Nat) (vI:cell<s.cells.length) (lower:Bool) (L:List Nat) (av:L.length<=4) (vy:∀x∈L,x<s.ai.length) :
  ak Tryz.prog 84 [dH s,cj F,J cell,bs lower,.ms 0 L.length 0 L.length] [dP L] (λr σ=>r=bs (q' s F cell lower L)/\σ=[dP L]) (λ_ _=>False):=by
 refine ak.body Ρ Tryz.func84 rfl rfl Tryz.ntmps84 rfl rfl η ?_;refine Β ?_;have vF:∀M:List (List Int×Int),∀r∈[dP L,.map (M.map o2)],eV [dP L,.map (M.map o2)].length r:=λM r ι=>by
  simp only[List.mem_cons,List.not_mem_nil,or_false] at ι;rcases ι with rfl|rfl
  ·exact HE
  ·intro e he;obtain⟨x,_,rfl⟩:=List.mem_map.1 he;simp
 refine W.iter (λx:Nat×List (List Int×Int)=>x.1<=F.length/\tK s F cell lower L x.1=some x.2/\Aa x.2) (λ(i,_)=>[(2,J cell),(3,bs lower),(4,.ms 0 L.length 0 L.length),(5,.aa [aS s.Τ,aY s.ai,a7 s.cells]),(11,.mp 1),(23,cj F),(24,J F.length),(25,J i)])
  (λ(_,M)=>[dP L,.map (M.map o2)]) (λx=>F.length-x.1) (0,[]) ⟨Nat.zero_le _,rfl,λe he=>by cases he⟩ rfl η (λx U ω=>?_)
 obtain⟨i,M⟩:=x;obtain⟨hi,cd,Ι⟩:=U;simp only at hi cd Ι ⊢;refine Β ?_;by_cases k2:i<F.length
 ·refine aA (by simp[k2]) ?_;have nY:=Nv s F cell lower L i k2;have nu:=λj=>W0 s F cell lower L (i:=i) (j:=j) k2;rw[cd] at nY nu;obtain⟨z6,ia⟩:=c5.cells _ (List.getElem_mem k2);generalize Υ:F[i]=f at nY nu z6 ia;have bA:cell<f.cells.length:=by rw[z6];exact vI
  repeat apply al
  refine cR (A:=[13]) Ρ λΔ ζ=>fV (Ζ k2 Υ) ?_;apply ζ;refine W.m9 (σ0:=[dP L,.map (M.map o2)]) η (vF _) η [(13,.aa [J f.u,J f.v,lJ f.cells]),(2,J cell),(3,bs lower),(4,.ms 0 L.length 0 L.length),(5,.aa [aS s.Τ,aY s.ai,a7 s.cells]),(11,.mp 1),(23,cj F),(24,J F.length),(25,J i)] (by simp[kS,sa,r9]) ?_;refine aT bA ?_;have z7:(f.cells[cell]?).getD []=f.cells[cell]:=by simp[bA]
  rw[z7] at nY nu;have z8:=ia _ (List.getElem_mem bA);have p8:=WZ s f cell lower L (some M);rw[z7] at p8;generalize f.cells[cell]=C at nY z8 p8 nu;obtain⟨WR,HC⟩:=z8;refine W.iter (λx:Nat×List (List Int×Int)=>x.1<=C.length/\mB s f cell lower L (some M) x.1=some x.2/\Aa x.2) (λ(j,_)=>[(2,J cell),(3,bs lower),(4,.ms 0 L.length 0 L.length),(5,.aa [aS s.Τ,aY s.ai,a7 s.cells]),(11,.mp 1),(23,cj F),(24,J F.length),(25,J i),(13,.aa [J f.u,J f.v,lJ f.cells]),(33,kg C),(34,J C.length),(35,J j)])
   (λ(_,M)=>[dP L,.map (M.map o2)]) (λx=>C.length-x.1) (0,M) ⟨Nat.zero_le _,rfl,Ι⟩ rfl η (λx U e6=>?_)
  obtain⟨j,M2⟩:=x;obtain⟨δ,xC,Ab⟩:=U;simp only at δ xC Ab ⊢;refine Β ?_;by_cases lP:j<C.length
  ·refine aA (by simp[lP]) ?_;have p9:=p8 j lP;rw[xC] at p9;obtain⟨oA,pZ⟩:=HC _ (List.getElem_mem lP);generalize ι:C[j]=r at p9 oA pZ
   repeat apply al
   refine cR (A:=[15]) Ρ λΔ ζ=>fV (Ζ lP ι) ?_;apply ζ;refine W.m9 (σ0:=[dP L,.map (M2.map o2)]) η (vF _) η [(15,.aa [J r.1,J r.2]),(2,J cell),(3,bs lower),(4,.ms 0 L.length 0 L.length),(5,.aa [aS s.Τ,aY s.ai,a7 s.cells]),(11,.mp 1),(23,cj F),(24,J F.length),(25,J i),(13,.aa [J f.u,J f.v,lJ f.cells]),(33,kg C),(34,J C.length),(35,J j)] (by simp[kS,sa,r9]) ?_
   repeat apply al
   refine cR (A:=[16]) Ρ λΔ ζ=>aV ?_;apply ζ;refine Β ?_;refine W.iter (λk:Nat=>k<=L.length) (λk=>[(2,J cell),(3,bs lower),(4,.ms 0 L.length 0 L.length),(5,.aa [aS s.Τ,aY s.ai,a7 s.cells]),(11,.mp 1),(23,cj F),(24,J F.length),(25,J i),(13,.aa [J f.u,J f.v,lJ f.cells]),(33,kg C),(34,J C.length),(35,J j),(15,.aa [J r.1,J r.2]),(16,.an 2 1 0 0),(39,.ms 0 L.length 0 L.length),(40,J L.length),(41,J k)])
    (λk=>[dP L,.map (M2.map o2),.cells 157 4 [tJ (o3 s (f.u,f.v) r L k)]]) (λk=>L.length-k) 0 (Nat.zero_le _) (by simp[o3]) η (λk ψ nX=>?_)
   refine Β ?_;by_cases gI:k<L.length
   ·refine aA (by simp[gI]) ?_;have o4:(k:Int)<4:=γ;have hB:k<=3:=γ;have tp:=WY (s:=s) (p:=(f.u,f.v)) (r:=r) gI av;have hlen:=Nu (s:=s) (p:=(f.u,f.v)) (r:=r) (Nat.le_of_lt gI) av;have W2:=vy _ (List.getElem_mem gI);obtain⟨K,ζ⟩:=aO (o3 s (f.u,f.v) r L k);rw[<-ζ] at tp hlen ⊢;refine aT (Ζ gI (Ζ o4 hlen)) ?_;refine iE (Ζ o4 hlen) λΔ ζ=>?_;refine Ω.c (zT s μ (f.u,f.v) r L[k] W2 oA pZ) (b9.refl _) η η ?_;simp[o4,hB,hlen];(repeat (rw[ae];simp[o4,hB,hlen]));apply ζ;have Ac:=eX gI (show L.length<2 ^ 62 by omega);refine aT Ac ?_;refine W.to (nX (k+1) gI γ) ?_ ?_
    ·rw[<-tp];simp
    ·simp[Ac]
   ·have HF:k=L.length:=by omega
    subst HF;refine ay η ?_;refine W.exit rfl ?_;have hlen:=Nu (s:=s) (p:=(f.u,f.v)) (r:=r) (Nat.le_refl _) av;obtain⟨K,ζ⟩:=aO (o3 s (f.u,f.v) r L L.length);obtain⟨v,hv⟩:=aO (kZ lower r);rw[<-ζ,<-hv] at p9;rw[<-ζ] at hlen ⊢
    repeat apply al
    refine W.r7 (A:=[]) Ρ [(2,J cell),(3,bs lower),(4,.ms 0 L.length 0 L.length),(5,.aa [aS s.Τ,aY s.ai,a7 s.cells]),(11,.mp 1),(23,cj F),(24,J F.length),(25,J i),(13,.aa [J f.u,J f.v,lJ f.cells]),(33,kg C),(34,J C.length),(35,J j),(15,.aa [J r.1,J r.2]),(16,.an 2 1 0 0),(19,J v)] ?_ (by
     rw[hv];cases lower
     all_goals
      (try simp);(repeat (rw[ae];simp[]));(try simp[]);refine Ω.d (Hg _) (aV ?_);simp[kZ])
    clear nX hv;have q9:=eX lP (show C.length<2 ^ 62 by omega);have kK:nH [dP L,.map (M2.map o2),.cells 157 4 [tJ K]] 1=true:=by simp[nH]
    have px:nF bf 157 (tJ K)=true:=by
     match K,hlen with
     | [a,b,c,d],_=>simp[nF,jK,mg]
    have nK:List.take 4 (K.map J)=K.map J:=List.take_of_length_le (by simp[hlen]);rcases WX K hlen M2 0 Ab with⟨Ξ,ah,aR⟩|⟨bY,x,cP,Ξ,ah,aR⟩
    ·have aR:=aR v
     have hm:mB s f cell lower L (some M) (j+1)=some (kj M2 K v):=by rw[p9];simp[xE,ah]
     (repeat (first|apply al|(refine cM λΔ ζ=>?_;simp;(repeat (rw[ae];simp[Ξ,px,nK,hlen,-nF]));apply ζ)));refine ay rfl ?_;(repeat (first|apply al|(refine cM λΔ ζ=>?_;simp;(repeat (rw[ae];simp[Ξ,px,nK,hlen,-nF]));apply ζ)));refine W.drop (h:=2) (σ':=[dP L,.map ((kj M2 K v).map o2)]) η η (λid w b7 hw=>eV.mono (vF (kj M2 K v) w (by
      match id,b7,hw with
      | 0,_,hw=>simp at hw;subst hw;simp
      | 1,_,hw=>simp[aR] at hw;subst hw;simp[aR])) η) (by simp[aR]) [(2,J cell),(3,bs lower),(4,.ms 0 L.length 0 L.length),(5,.aa [aS s.Τ,aY s.ai,a7 s.cells]),(11,.mp 1),(23,cj F),(24,J F.length),(25,J i),(13,.aa [J f.u,J f.v,lJ f.cells]),(33,kg C),(34,J C.length),(35,J ((j:Int)+1))] (by simp[kS,sa,r9,q9]) ?_
     refine W.to (e6 (j+1,kj M2 K v) ⟨lP,hm,Nt Ab hlen v⟩ (by simp only;omega)) rfl ?_;simp
    ·have aR:=aR v;(repeat (first|apply al|(refine cM λΔ ζ=>?_;simp;(repeat (rw[ae];simp[Ξ,px,nK,hlen,-nF]));apply ζ)));by_cases DG:x=v
     ·have hm:mB s f cell lower L (some M) (j+1)=some (kj M2 K v):=by rw[p9];simp[xE,ah,DG]
      refine ay (by simp[DG]) ?_;(repeat (first|apply al|(refine cM λΔ ζ=>?_;simp;(repeat (rw[ae];simp[Ξ,px,nK,hlen,-nF]));apply ζ)));refine W.drop (h:=2) (σ':=[dP L,.map ((kj M2 K v).map o2)]) η η (λid w b7 hw=>eV.mono (vF (kj M2 K v) w (by
       match id,b7,hw with
       | 0,_,hw=>simp at hw;subst hw;simp
       | 1,_,hw=>simp[aR] at hw;subst hw;simp[aR])) η) (by simp[aR]) [(2,J cell),(3,bs lower),(4,.ms 0 L.length 0 L.length),(5,.aa [aS s.Τ,aY s.ai,a7 s.cells]),(11,.mp 1),(23,cj F),(24,J F.length),(25,J i),(13,.aa [J f.u,J f.v,lJ f.cells]),(33,kg C),(34,J C.length),(35,J ((j:Int)+1))] (by simp[kS,sa,r9,q9]) ?_
      refine W.to (e6 (j+1,kj M2 K v) ⟨lP,hm,Nt Ab hlen v⟩ (by simp only;omega)) rfl ?_;simp
     ·have hm:mB s f cell lower L (some M) (j+1)=none:=by rw[p9];simp[xE,ah,DG]
      have oC:=nu (j+1) lP hm;rw[oC];refine aA (by simp[DG]) ?_;refine Β ?_;refine W.drop (h:=1) (σ':=[dP L]) η η (λid w b7 hw=>by
       obtain rfl:id=0:=γ;simp at hw;subst hw;exact HE) rfl [(10,bs false)] η ?_
      exact W.ret ⟨_,rfl,rfl,rfl⟩
  ·have z5:j=C.length:=by omega
   subst z5;have ja:=eX k2 (show F.length<2 ^ 62 by have:=c5.mA;omega);refine ay η ?_;refine W.exit rfl ?_;refine aT ja ?_;refine W.to (ω (i+1,M2) ⟨k2,by rw[nY];exact xC,Ab⟩ (by simp only;omega)) rfl ?_;simp[ja]
 ·have ec:i=F.length:=by omega
  subst ec;have oC:q' s F cell lower L=true:=by unfold q';rw[cd];rfl
  rw[oC];refine ay η ?_;refine W.exit rfl ?_;refine Β ?_;refine W.drop (h:=1) (σ':=[dP L]) η η (λid w b7 hw=>by
   obtain rfl:id=0:=γ;simp at hw;subst hw;exact HE) rfl [(10,bs true)] η ?_
  exact W.ret ⟨_,rfl,rfl,rfl⟩
end Go.TL
namespace Go.TL
open Go.Conc Go.Proofs
variable [bj]
section
variable {P:Program} {Q:Value->Prop} {mn:Bool} {x:gJ} {cs rest:List Frame} {H:π} {b f c:Frame} {t:Array Value} {k:List Item} {fn:Func}
theorem ξ.getLoop {L:Nat} {r:Loop} (h:H.obj L=some (.loop r)) {K:Loop->π->Prop} {E:Value->π->Prop} (ψ:K r H):ξ P (Instr.getLoop L) H K E:=by
 unfold Instr.getLoop;refine ξ.bind' ?_;exact⟨_,h,rfl,ξ.pure' ψ⟩
theorem ξ.HG {L:Nat} {r r':Loop} (h:H.obj L=some (.loop r)) {K:Unit->π->Prop} {E:Value->π->Prop} (ψ:K () (H.aZ L (.loop r'))):ξ P (setObj L (.loop r')) H K E:=
 ⟨⟨_,h⟩,rfl,rfl,ξ.pure' ψ⟩
abbrev Nx (st:LoopState) (DH:Option Code) (f:FuncId) (t:Array Value) (c7:Array Tmp) (a rP:Code) (d:Nat):Loop:={state:=st,pending:=DH,fn:=f,tmps:=t,params:=c7,assign:=a,body:=rP,defers:=d}
theorem aE.rangeFunc (U:Seq x) (hb:b.mode=.run) (cr:b.roundOf=none) {fo:Operand} {c7:Array Tmp} {assign body:Code} {g:FuncId} {k3:Array Value} (W3:br t fo=.func (.func g) #[] k3) (Ο:Plain P g)
  (h:∀r1 r2,H.fresh r1->(H.aZ r1 (.deferred (some []))).fresh r2->aE P Q mn x (Frame.enter P g (#[.func (.yield r2) #[] #[]]++k3) .normal) ({ax b t (.inRangeFunc r2::k) with defers:=⟨.collected r1,#[]⟩::b.defers}::cs)
   ((H.aZ r1 (.deferred (some []))).aZ r2 (.loop (Nx .ready none b.fn t c7 assign body r1)))) :
  aE P Q mn x (ax b t (.code (.rangeFunc fo c7 assign body)::k)) cs H:=by
 refine .own U λw Υ=>?_;have ey:ξ P (Instr.enterLoop b.fn t c7 assign body none) H (λv H'=>∃r1 r2,H.fresh r1/\(H.aZ r1 (.deferred (some []))).fresh r2/\v=(r2,[⟨.collected r1,#[]⟩])/\H'=(H.aZ r1 (.deferred (some []))).aZ r2 (.loop (Nx .ready none b.fn t c7 assign body r1))) (λ_ _=>False):=by
  unfold Instr.enterLoop;refine ξ.bind' (λr1 I=>ξ.pure' (ξ.bind' (ξ.pure' ?_)));refine ξ.bind' (λr2 R=>ξ.pure' (ξ.pure' ?_));exact⟨r1,r2,I,R,rfl,rfl⟩
 obtain⟨H',w',es',hu,hQ⟩:=ξ.sound (P:=P) (G0:=H) (w0:=w) _ ey (dL.start Υ);rcases hQ with⟨v,dR,r1,r2,I,R,rfl,rfl⟩|⟨v,dR,df⟩
 ·refine⟨_,_,w',seen P b.fn es',_,?_,hu.sub λe he=>mem_seen he,h r1 r2 I R⟩;have dx:∀F:Frame,F.tmps=t->resolve F.eval {callee:=.value fo,args:=#[.const (.func (.yield r2) #[] #[])],argTypes:=#[]} 0=Deferred.ofValue (.func (.func g) #[] k3) #[.func (.yield r2) #[] #[]]:=λF e'=>by
   have:F.eval fo=.func (.func g) #[] k3:=by rw[<-W3,<-e'];cases fo<;>rfl
   unfold resolve;simp only;rw[this];simp[Frame.eval]
  have hinv:((do let d <-Deferred.ofValue (.func (.func g) #[] k3) #[.func (.yield r2) #[] #[]];invoke d.target d.args:Sem Next)).runT P w' #[]=(.ok (.enter g (#[.func (.yield r2) #[] #[]]++k3)) w',#[]):=by
   have:=Ο.enter (#[.func (.yield r2) #[] #[]]++k3) w';simpa[Deferred.ofValue,invoke] using this
  rw[iW hb];unfold stepG.exec;simp only[ax,cr,dR];rw[dx _ rfl];unfold stepG.apply;simp only[if_true,hinv];simp[GStep.after,Go.Conc.G,ax,seen_none]
 ·exact df.elim
theorem aE.DI (U:Seq x) (hb:b.mode=.run) {L:Nat} {r:Loop} (av:H.obj L=some (.loop r)) (μ:r.state≠.busy)
  (h:aE P Q mn x (ax b t ((r.pending.map Item.code).toList++k)) cs (H.aZ L (.loop {r with state:=.exhausted}))):aE P Q mn x (ax b t (.endRangeFunc L::k)) cs H:=by
 refine .own U λw Υ=>?_;have ey:ξ P (Instr.endLoop L) H (λv H'=>v=r.pending/\H'=H.aZ L (.loop {r with state:=.exhausted})) (λ_ _=>False):=by
  unfold Instr.endLoop;refine ξ.bind' (ξ.getLoop av ?_);have e:(r.state==.busy)=false:=by cases Χ:r.state<;>first|rfl|exact absurd Χ μ
  simp only[e,Bool.false_eq_true,if_false];exact ξ.bind' (ξ.HG av (ξ.pure' ⟨rfl,rfl⟩))
 obtain⟨H',w',es',hu,hQ⟩:=ξ.sound (P:=P) (G0:=H) (w0:=w) _ ey (dL.start Υ);rcases hQ with⟨v,dR,rfl,rfl⟩|⟨v,dR,df⟩
 ·refine⟨_,_,w',seen P b.fn es',_,?_,hu.sub λe he=>mem_seen he,h⟩;rw[iW hb];unfold stepG.exec;simp only[ax,dR];simp[GStep.after,Go.Conc.G]
 ·exact df.elim
theorem aE.beginRound (U:Seq x) (hb:b.mode=.run) {L:Nat} (cr:b.roundOf=some L) {r:Loop} (av:H.obj L=some (.loop r)) (μ:r.state=.ready)
  (h:aE P Q mn x (ax b t k) cs (H.aZ L (.loop {r with state:=.busy}))):aE P Q mn x (ax b t (.beginRound::k)) cs H:=by
 refine .own U λw Υ=>?_;have ey:ξ P (Instr.beginRound L) H (λ_ H'=>H'=H.aZ L (.loop {r with state:=.busy})) (λ_ _=>False):=by
  unfold Instr.beginRound;refine ξ.bind' (ξ.getLoop av (ξ.bind' (ξ.HG av ?_)));rw[μ];exact ξ.pure' rfl
 have W4:ξ P (do Instr.beginRound L;pure Next.skip:Sem Next) H (λv H'=>v=.skip/\H'=H.aZ L (.loop {r with state:=.busy})) (λ_ _=>False):=
  ξ.bind' (ξ.mono (λ_ _ e=>ξ.pure' ⟨rfl,e⟩) (λ_ _ h=>h) _ ey)
 obtain⟨H',w',es',hu,hQ⟩:=ξ.sound (P:=P) (G0:=H) (w0:=w) _ W4 (dL.start Υ);rcases hQ with⟨v,dR,rfl,rfl⟩|⟨v,dR,df⟩
 ·generalize fR:(if b.kind==.early then #[] else es')=nx;have j1:∀e∈seen P b.fn nx,e∈es':=λe he=>by
   have:=mem_seen he;rw[<-fR] at this;split at this
   ·simp at this
   ·exact this
  refine⟨_,_,w',seen P b.fn nx,_,?_,hu.sub j1,h⟩;rw[iW hb];unfold stepG.exec;simp only[ax,cr,Option.elim];unfold stepG.apply;simp only[if_true,dR];rw[fR];simp[GStep.after,Go.Conc.G,Frame.finish]
 ·exact df.elim
theorem aE.endRound (U:Seq x) (hb:b.mode=.run) {L:Nat} (cr:b.roundOf=some L) (ψ:b.kind=.normal) {r:Loop} (av:H.obj L=some (.loop r)) {jump:Option Code} (δ:(jump=none/\k=[])\/(jump=some .ret/\∃af,k=.code .ret::af)\/∃id af,jump=some (.exit id)/\k=.code (.exit id)::af/\exitTo id af=none)
  (h:aE P Q mn x (c.finish (.bool jump.isNone)) rest (H.aZ L (.loop {r with state:=if jump.isNone then .ready else .done,pending:=jump}))):aE P Q mn x (ax b t k) (c::rest) H:=by
 refine .own U λw Υ=>?_;have ey:ξ P (Instr.endRound L jump) H (λv H'=>v=.bool jump.isNone/\H'=H.aZ L (.loop {r with state:=if jump.isNone then .ready else .done,pending:=jump})) (λ_ _=>False):=by
  unfold Instr.endRound;exact ξ.bind' (ξ.getLoop av (ξ.bind' (ξ.HG av (ξ.pure' ⟨rfl,rfl⟩))))
 obtain⟨H',w',es',hu,hQ⟩:=ξ.sound (P:=P) (G0:=H) (w0:=w) _ ey (dL.start Υ);rcases hQ with⟨v,dR,rfl,rfl⟩|⟨v,dR,df⟩
 ·refine⟨_,_,w',seen P b.fn es',_,?_,hu.sub λe he=>mem_seen he,h⟩;rw[iW hb];unfold stepG.exec;rcases δ with⟨rfl,rfl⟩|⟨rfl,af,rfl⟩|⟨id,af,rfl,rfl,he⟩
  ·simp only[ax,cr,dR];simp[GStep.after,Go.Conc.G,doReturn,ψ]
  ·simp only[ax,cr,dR];simp[GStep.after,Go.Conc.G,doReturn,ψ]
  ·simp only[ax,cr,he,Option.elim,dR];simp[GStep.after,Go.Conc.G,doReturn,ψ]
 ·exact df.elim
theorem aE.collected (U:Seq x) (hm:f.mode=.returning) {r:Nat} {ds:List Deferred} (hd:f.defers=⟨.collected r,#[]⟩::ds) (ι:H.obj r=some (.deferred (some [])))
  (h:aE P Q mn x {f with defers:=ds} cs (H.aZ r (.deferred none))):aE P Q mn x f cs H:=by
 refine .own U λw Υ=>?_;have ey:ξ P (Instr.takeDeferred r) H (λv H'=>v=[]/\H'=H.aZ r (.deferred none)) (λ_ _=>False):=by
  unfold Instr.takeDeferred;refine ξ.bind' ?_;exact⟨_,ι,rfl,ξ.pure' (ξ.bind' ⟨⟨_,ι⟩,rfl,rfl,ξ.pure' (ξ.pure' ⟨rfl,rfl⟩)⟩)⟩
 obtain⟨H',w',es',hu,hQ⟩:=ξ.sound (P:=P) (G0:=H) (w0:=w) _ ey (dL.start Υ);rcases hQ with⟨v,dR,rfl,rfl⟩|⟨v,dR,df⟩
 ·refine⟨_,_,w',seen P f.fn es',_,?_,hu.sub λe he=>mem_seen he,h⟩;rw[wQ (by rw[hm];simp)];unfold unwind;simp only[hd,dR];simp[GStep.after,Go.Conc.G]
 ·exact df.elim
end
end Go.TL
namespace Go.TL
open Go.Conc
open Go.ConcM (OsLater)
open Go.ConcN (sumTo upd sumTo_upd upd_ne upd_same sumTo_congr le_sumTo)
open Go.ConcR (mk)
variable [bj]
theorem gB {b:Frame} (hb:b.mode=.run) (ι:b.roundOf=none) (t:Array Value) (k:List Item):ax b t k=b.at ⟨t,b.defers⟩ k:=by
 obtain⟨fn,wP,iX,SD,tf,kd,ro⟩:=b;simp only at hb ι;subst hb;subst ι;rfl
theorem tL (o:Oper) (t:Array Value) (ds:List Deferred) (v:Value):(⟨t,ds⟩:_root_.Go.Act).put o.dst v=⟨put o t v,ds⟩:=by
 unfold _root_.Go.Act.put put;cases o.dst<;>rfl
theorem lQ (t:Array Value) (ds:List Deferred):(⟨t,ds⟩:_root_.Go.Act).eval=br t:=by funext o;cases o<;>rfl
def Entry (P:Program) (f:FuncId) (e:Array Value->Sem Value):Prop:=∃fn,P.funcs[f]?=some fn/\(fn.name == "runtime.NumGoroutine")=false/\fn.body.isNone=true/\Extern.findNext fn=none/\Extern.find fn=some e
structure mC (b:Frame) (ops:Array Oper) (i:Nat) (op:Oper):Prop where
 run:b.mode=.run
 ro:b.roundOf=none
 kd:b.kind≠.early
 op:ops[i]?=some op
def eZ (x:aW):Prop:=x.rel=false\/∃s,¬Gone (x.tok s)
theorem eZ.ok {P:Program} {g:Goroutine} {x:aW} (h:eZ x):yD P g x:=λI R=>by
 rcases h with h|⟨s,h⟩
 ·rw[h] at I;cases I
 ·exact absurd (R s) h
def one (x:aW):gJ:=λy=>y=x
@[reducible] def eP:bj:=⟨λ_=>True⟩
theorem Seq.tM {x:aW} (Χ:bj.q (one x)) (ι:x.rel=false) (hv:x.aG=λ_=>none):Seq (one x):=⟨Χ,λy h=>by cases h;exact ι,λy h=>by cases h;exact hv⟩
theorem Seq.here {x:aW} (h:Seq (one x)):eZ x:=.inl (h.rel x rfl)
section
variable {P:Program} {Q:Value->Prop} {mn:Bool} {x:aW} {b:Frame} {cs:List Frame} {nt:Nat} {o:Base} {k:List Item} {env:ab} {σ:List Row} {S:aD} {B:aP} {H:π} {t:Array Value}
variable {ops:Array Oper} {i:Nat} {rest:List Nat} {op:Oper} {f:FuncId} {e:Array Value->Sem Value} {args:Array Operand} {ej:Array TypeId} {w w':World}
theorem DJ (he:Entry P f e) (bR:mC b ops i op) (hw:Region.wanted op (yielded ops t)=true) (Κ:op.op=.call ⟨.value (.func f),args,ej⟩) {vs:Array Value} (p':args.map (br t)=vs) {v:Value} {gg:Array Event}
  (dR:(e vs).run P w=.ok v w') (dx:(e vs).events P w #[⟨.mark (Mark.extern f),false,true⟩]=#[⟨.mark (Mark.extern f),false,true⟩]++gg) (μ:∀y∈gg,y.sync=true/\∀g,y.loc≠.mark (Mark.extern g)) :
  stepG P mn (Go.Conc.G (ax b t (.inRegion ops (i::rest)::k)) cs) w=.go (Go.Conc.G (ax b (put op t v) (.inRegion ops rest::k)) cs) w' gg:=by
 obtain⟨fn,I,R,ν,Ι,aB⟩:=he;rw[gB bR.run bR.ro,gB bR.run bR.ro,<-tL];exact stepG_entry (a:=⟨t,b.defers⟩) bR.op hw bR.kd Κ I R ν Ι aB (by rw[lQ,p'];exact dR) (by rw[lQ,p'];exact dx) μ
theorem W5 (he:Entry P f e) (bR:mC b ops i op) (hw:Region.wanted op (yielded ops t)=true) (Κ:op.op=.call ⟨.value (.func f),args,ej⟩) {vs:Array Value} (p':args.map (br t)=vs)
  (dR:(e vs).run P w=.halt .blocked w') :
  stepG P mn (Go.Conc.G (ax b t (.inRegion ops (i::rest)::k)) cs) w=.go {Go.Conc.G (ax b t (.inRegion ops (i::rest)::k)) cs with status:=.blocked} w' #[]:=by
 obtain⟨fn,I,R,ν,Ι,aB⟩:=he;rw[gB bR.run bR.ro];exact stepG_entry_blocked (a:=⟨t,b.defers⟩) bR.op hw Κ I R ν Ι aB (by rw[lQ,p'];exact dR)
theorem Ny (he:Entry P f e) (bR:mC b ops i op) (Κ:op.op=.call ⟨.value (.func f),args,ej⟩):mayWake P (Go.Conc.G (ax b t (.inRegion ops (i::rest)::k)) cs)=true:=by
 obtain⟨fn,I,R,ν,Ι,aB⟩:=he;have bn:fn.body=none:=by simpa using ν
 have Nz:(ax b t (.inRegion ops (i::rest)::k)).eval (.func f)=.func (.func f) #[] #[]:=rfl;simp[mayWake,Go.Conc.G,ax,bR.run,bR.op,Κ] at Nz ⊢;simp[Nz,I,bn]
def Ad (env:ab) (args:Array Operand) (vs:List Value):Prop:=args.toList.map (aM env)=vs.map θ.z
theorem DK (μ:cX S B σ env t) {y:Operand} {v:Value} (h:aM env y=.z v):br t y=v:=by
 have:=lB μ y;rw[h] at this;generalize br t y=u at this;cases this;rfl
theorem Ad.br (μ:cX S B σ env t) {vs:List Value} (h:Ad env args vs):args.map (br t)=vs.toArray:=by
 apply Array.ext';rw[Array.toList_map];have:∀(l:List Operand) (vs:List Value),l.map (aM env)=vs.map θ.z->l.map (Go.TL.br t)=vs:=by
  intro l
  induction l with
  | nil=>intro vs h;cases vs with
   | nil=>rfl
   | cons=>cases h
  | cons y l ω=>
   intro vs h;cases vs with
   | nil=>cases h
   | cons v vs=>
    simp only[List.map_cons,List.cons.injEq] at h ⊢;exact⟨DK μ h.1,ω vs h.2⟩
 exact this _ _ h
theorem DL (m:Mark):((λ_=>do mark m;pure Extern.Race.none_:Array Value->Sem Value) #[]).run P w=.ok (.tuple #[]) w:=by simp[Extern.Race.none_]
theorem DN (m:Mark) (es:Array Event):((λ_=>do mark m;pure Extern.Race.none_:Array Value->Sem Value) #[]).events P w es=es.push ⟨.mark m,false,true⟩:=η
theorem xF (m:Addr->Mark) (cv:Addr):(Extern.Race.marked m #[.pointer (some cv)]).run P w=.ok (.tuple #[]) w:=by simp[Extern.Race.marked,Extern.Race.at_,Extern.Race.none_]
theorem xG (m:Addr->Mark) (cv:Addr) (es:Array Event):(Extern.Race.marked m #[.pointer (some cv)]).events P w es=es.push ⟨.mark (m cv),false,true⟩:=by simp[Extern.Race.marked,Extern.Race.at_]
theorem ra {m:Mark} (hm:∀g,m≠Mark.extern g):∀y∈(#[⟨.mark m,false,true⟩]:Array Event),y.sync=true/\∀g,y.loc≠.mark (Mark.extern g):=by
 intro y Φ;simp at Φ;subst Φ;exact⟨rfl,λg h=>hm g (by cases h;rfl)⟩
structure gQ (P:Program) (b:Frame) (ops:Array Oper) (i:Nat) (op:Oper) (f:FuncId) (e:Array Value->Sem Value) (args:Array Operand) (env:ab) (vs:List Value) (nt:Nat):Prop where
 at_:mC b ops i op
 oS:Entry P f e
 call:∃ej,op.op=.call ⟨.value (.func f),args,ej⟩
 want:fl env ops op=some true
 dst:g4 nt op=true
 Ae:Ad env args vs
theorem gQ.step {vs:List Value} (h:gQ P b ops i op f e args env vs nt) (μ:cX S B σ env t) {v:Value} {gg:Array Event} (dR:(e vs.toArray).run P w=.ok v w')
  (dx:(e vs.toArray).events P w #[⟨.mark (Mark.extern f),false,true⟩]=#[⟨.mark (Mark.extern f),false,true⟩]++gg) (W6:∀y∈gg,y.sync=true/\∀g,y.loc≠.mark (Mark.extern g)) :
  stepG P mn (Go.Conc.G (ax b t (.inRegion ops (i::rest)::k)) cs) w=.go (Go.Conc.G (ax b (put op t v) (.inRegion ops rest::k)) cs) w' gg:=
 let ⟨_,Κ⟩:=h.call
 DJ h.oS h.at_ (j6 μ h.want) Κ (h.Ae.br μ) dR dx W6
abbrev nZ:θ:=.z (.tuple #[])
theorem V.disable (U:eZ x) (h:gQ P b ops i op f (λ_=>do mark .disable;pure Extern.Race.none_) args env [] nt) (ψ:V P Q mn (one {x with deaf:=x.deaf+1}) b cs nt o (.inRegion ops rest::k) (b6 op env nZ) σ):V P Q mn (one x) b cs nt o (.inRegion ops (i::rest)::k) env σ:=
 λS B H t κ ς y Φ=>by
 cases Φ;exact Goes.step U.ok (.inr ⟨⟨rfl,rfl⟩,.inr (.inl ⟨Go.Conc.G (ax b (put op t (.tuple #[])) (.inRegion ops rest::k)) cs,⟨rfl,rfl⟩,.inl λw _=>
  ⟨h.step ς.b5 (DL .disable) (DN .disable _) (ra η),ψ S B H _ κ (ς.put h.dst (.z _)) _ rfl⟩⟩)⟩)
theorem V.enable (U:eZ x) (hd:0<x.deaf) (h:gQ P b ops i op f (λ_=>do mark .enable;pure Extern.Race.none_) args env [] nt) (ψ:V P Q mn (one {x with deaf:=x.deaf-1}) b cs nt o (.inRegion ops rest::k) (b6 op env nZ) σ):V P Q mn (one x) b cs nt o (.inRegion ops (i::rest)::k) env σ:=
 λS B H t κ ς y Φ=>by
 cases Φ;exact Goes.step U.ok (.inr ⟨⟨rfl,rfl⟩,.inr (.inl ⟨Go.Conc.G (ax b (put op t (.tuple #[])) (.inRegion ops rest::k)) cs,⟨rfl,rfl⟩,.inr ⟨hd,λw _=>
  ⟨h.step ς.b5 (DL .enable) (DN .enable _) (ra η),ψ S B H _ κ (ς.put h.dst (.z _)) _ rfl⟩⟩⟩)⟩)
theorem V.W7 (U:x.rel=false) {s off n p:Nat} {aF:rF} (Ν:x.tok s=.par n p aF) (iQ:aF≠.cq) (h:gQ P b ops i op f (Extern.Race.marked .read) args env [.pointer (some ⟨s,off,none⟩)] nt) (ψ:V P Q mn (one x) b cs nt o (.inRegion ops rest::k) (b6 op env nZ) σ):V P Q mn (one x) b cs nt o (.inRegion ops (i::rest)::k) env σ:=
 λS B H t κ ς y Φ=>by
 cases Φ;exact Goes.step (eZ.ok (.inl U)) (.inr ⟨⟨rfl,rfl⟩,.inr (.inr (.inl ⟨s,n,p,aF,Go.Conc.G (ax b (put op t (.tuple #[])) (.inRegion ops rest::k)) cs,off,false,Ν,iQ,U,⟨rfl,rfl⟩,λw _=>
  ⟨h.step ς.b5 (xF .read _) (xG .read _ _) (ra η),ψ S B H _ κ (ς.put h.dst (.z _)) _ rfl⟩⟩))⟩)
theorem V.W8 (U:x.rel=false) {s off n p:Nat} {aF:rF} (Ν:x.tok s=.par n p aF) (iQ:aF≠.cq) (h:gQ P b ops i op f (Extern.Race.marked .write) args env [.pointer (some ⟨s,off,none⟩)] nt) (ψ:V P Q mn (one x) b cs nt o (.inRegion ops rest::k) (b6 op env nZ) σ):V P Q mn (one x) b cs nt o (.inRegion ops (i::rest)::k) env σ:=
 λS B H t κ ς y Φ=>by
 cases Φ;exact Goes.step (eZ.ok (.inl U)) (.inr ⟨⟨rfl,rfl⟩,.inr (.inr (.inl ⟨s,n,p,aF,Go.Conc.G (ax b (put op t (.tuple #[])) (.inRegion ops rest::k)) cs,off,true,Ν,iQ,U,⟨rfl,rfl⟩,λw _=>
  ⟨h.step ς.b5 (xF .write _) (xG .write _ _) (ra η),ψ S B H _ κ (ς.put h.dst (.z _)) _ rfl⟩⟩))⟩)
theorem V.BN (U:x.rel=false) (hd:x.deaf=0) {s m n:Nat} {sp:Spec} (b2:x.spec s=some sp) (hm:sp.aU=some m) (Ν:x.tok s=.ch n .own .work) (h:gQ P b ops i op f (Extern.Race.marked .acquire) args env [.pointer (some ⟨m,0,none⟩)] nt)
  (ψ:∀(S:aD) (B:aP) (H:π) (t:Array Value) (L:List Nat) (E:π),eO o.m o.S o.B o.H o.σ S B H σ->fi o.m nt S B H σ (b6 op env nZ) t->sp.bb L E->Apart H E->(L.Nodup/\n∉L/\∃w,Fits H w/\Fits E w)->
   cm P Q mn {x with tok:=upd x.tok s (.ch n (.dj L) .work),view:=upd x.view s none} (ax b t (.inRegion ops rest::k)) cs (join H E)):V P Q mn (one x) b cs nt o (.inRegion ops (i::rest)::k) env σ:=
 λS B H t κ ς y Φ=>by
 cases Φ;exact Goes.step (eZ.ok (.inl U)) (.inr ⟨⟨rfl,rfl⟩,.inr (.inr (.inr (.inr (.inl ⟨s,sp,m,n,Go.Conc.G (ax b (put op t (.tuple #[])) (.inRegion ops rest::k)) cs,b2,hm,Ν,hd,⟨rfl,rfl⟩,U,λw _=>
  h.step ς.b5 (xF .acquire _) (xG .acquire _ _) (ra η),λL E dy iw hw=>ψ S B H _ L E κ (ς.put h.dst (.z _)) dy iw hw⟩))))⟩)
theorem V.FD (U:x.rel=false) (hd:x.deaf=0) {s m n:Nat} {L:List Nat} {sp:Spec} (b2:x.spec s=some sp) (hm:sp.aU=some m) (Ν:x.tok s=.ch n (.dj L) .work) (h:gQ P b ops i op f (Extern.Race.marked .releaseMerge) args env [.pointer (some ⟨m,0,none⟩)] nt)
  (ψ:∀(S:aD) (B:aP) (H:π) (t:Array Value),eO o.m o.S o.B o.H o.σ S B H σ->fi o.m nt S B H σ (b6 op env nZ) t->∃H' E,Split H H' E/\sp.bb (L++[n]) E/\
   cm P Q mn {x with tok:=upd x.tok s (.ch n .fin .work),view:=upd x.view s none} (ax b t (.inRegion ops rest::k)) cs H'):V P Q mn (one x) b cs nt o (.inRegion ops (i::rest)::k) env σ:=
 λS B H t κ ς y Φ=>by
 cases Φ;obtain⟨H',E,I,R,ν⟩:=ψ S B H _ κ (ς.put h.dst (.z (.tuple #[])));exact Goes.step (eZ.ok (.inl U)) (.inr ⟨⟨rfl,rfl⟩,.inr (.inr (.inr (.inr (.inr (.inl ⟨s,sp,m,n,L,Go.Conc.G (ax b (put op t (.tuple #[])) (.inRegion ops rest::k)) cs,H',E,b2,hm,Ν,hd,⟨rfl,rfl⟩,U,λw _=>
  h.step ς.b5 (xF .releaseMerge _) (xG .releaseMerge _ _) (ra η),I,R,ν⟩)))))⟩)
theorem V.BO (U:x.rel=false) (hd:x.deaf=0) {s n:Nat} {aF:rF} {sp:Spec} (b2:x.spec s=some sp) (Ν:x.tok s=.par n 0 aF) (iQ:aF=.lW\/aF=.w4) (h:gQ P b ops i op f (Extern.Race.marked .acquire) args env [.pointer (some ⟨s,0,none⟩)] nt)
  (ψ:∀(S:aD) (B:aP) (H:π) (t:Array Value) (gb fx:List Nat) (gH eK:π),eO o.m o.S o.B o.H o.σ S B H σ->fi o.m nt S B H σ (b6 op env nZ) t->
   gb.Perm (List.range n)->lu sp.D gb gH->(sp.aU≠none->fx.Perm (List.range n)/\sp.bb fx eK)->(sp.aU=none->eK=π.empty)->Apart H gH->Apart H eK->Apart gH eK->(∃w,Fits H w/\Fits gH w/\Fits eK w)->
   cm P Q mn {x with tok:=upd x.tok s (.par n 0 .cq),view:=upd x.view s none} (ax b t (.inRegion ops rest::k)) cs (join (join H gH) eK)):V P Q mn (one x) b cs nt o (.inRegion ops (i::rest)::k) env σ:=
 λS B H t κ ς y Φ=>by
 cases Φ;exact Goes.step (eZ.ok (.inl U)) (.inr ⟨⟨rfl,rfl⟩,.inr (.inr (.inr (.inr (.inr (.inr (.inr (.inl ⟨s,sp,n,aF,Go.Conc.G (ax b (put op t (.tuple #[])) (.inRegion ops rest::k)) cs,b2,Ν,iQ,hd,⟨rfl,rfl⟩,U,λw _=>
  h.step ς.b5 (xF .acquire _) (xG .acquire _ _) (ra η),λgb fx gH eK a1 a2 ck fY hA l3 uA sX=>ψ S B H _ gb fx gH eK κ (ς.put h.dst (.z _)) a1 a2 ck fY hA l3 uA sX⟩)))))))⟩)
theorem V.atomic (U:eZ x) {s:Nat} {sp:Spec} (b2:x.spec s=some sp) (cQ:¬fQ (x.tok s)) (hd:g4 nt op=true) (hw:fl env ops op=some true)
  (h:∀(t:Array Value) (w:World) (φ:Nat) (ο:aN),(∀y u,aM env y=.z u->br t y=u)->(∀(as9:Array Operand) (vs:List Value),Ad env as9 vs->as9.map (br t)=vs.toArray)->Region.wanted op (yielded ops t)=true->ο.toSpec=sp->At s ο w->Fa x s φ ο->uC ο (x.tok s)->
   (∃v w' gg,stepG P mn (Go.Conc.G (ax b t (.inRegion ops (i::rest)::k)) cs) w=.go (Go.Conc.G (ax b (put op t v) (.inRegion ops rest::k)) cs) w' gg/\fv (λΨ _=>ep s sp Ψ) (λ_=>False) w w'/\om s sp x.deaf gg/\
    ((At s ο w'/\V P Q mn (one {x with view:=upd x.view s (some (φ,ο))}) b cs nt o (.inRegion ops rest::k) (b6 op env (.z v)) σ)\/
     ∃o' t',Act ο (x.tok s) o' t'/\At s o' w'/\(mayWake P (Go.Conc.G (ax b t (.inRegion ops (i::rest)::k)) cs)=true\/o'=ο)/\∀cl,cl<φ->V P Q mn (one {x with tok:=upd x.tok s t',view:=upd x.view s (some (cl,o'))}) b cs nt o (.inRegion ops rest::k) (b6 op env (.z v)) σ))\/
   (jZ ο (x.tok s)/\(∀bq,bq≠s->mW (x.tok bq))/\stepG P mn (Go.Conc.G (ax b t (.inRegion ops (i::rest)::k)) cs) w=.go {Go.Conc.G (ax b t (.inRegion ops (i::rest)::k)) cs with status:=.blocked} w #[])) :
  V P Q mn (one x) b cs nt o (.inRegion ops (i::rest)::k) env σ:=by
 intro S B H t κ ς y Φ;cases Φ;refine Goes.step U.ok (.inr ⟨⟨rfl,rfl⟩,.inr (.inr (.inr (.inl ⟨s,sp,b2,cQ,λw φ ο Υ hv Α bD sY HH=>?_⟩)))⟩);rcases h t w φ ο (λy u Φ=>DK ς.b5 Φ) (λas9 vs p'=>p'.br ς.b5) (j6 ς.b5 hw) Α bD sY HH with⟨v,w',gg,I,R,ν,Ι⟩|⟨I,R,ν⟩
 ·refine .inl ?_;rw[I];refine⟨⟨rfl,rfl⟩,R,ν,?_⟩;rcases Ι with⟨aB,bn⟩|⟨o',t',aB,bn,gO,nq⟩
  ·exact .inl ⟨aB,bn S B H _ κ (ς.put hd (.z _)) _ rfl⟩
  ·exact .inr ⟨o',t',aB,bn,gO,λcl ez=>nq cl ez S B H _ κ (ς.put hd (.z _)) _ rfl⟩
 ·exact .inr ⟨I,R,ν⟩
theorem NA {bZ off:Nat} {c:Array Value} {ty:TypeId} (hb:w.heap[bZ]?=some (.cells c ty (0,0))) (v:Value) {own:Nat->Nat->Prop} (fU:∀o,own bZ o):fv own (λ_=>False) w (w.setCell ⟨bZ,off,none⟩ v):=by
 have aX:=heap_setCell (w:=w) (a:=⟨bZ,off,none⟩) (v:=v) rfl hb
 have aI:=fw hb
 have C6:(w.setCell ⟨bZ,off,none⟩ v).os=w.os:=rfl;refine⟨by rw[aX];simp,λΨ c' t' Lr dF=>?_,λΨ y dF Φ _=>?_,by rw[C6];exact OsLater.refl _,rfl,rfl⟩
 ·by_cases e:Ψ=bZ
  ·subst e;rw[hb] at dF;cases dF;exact⟨_,by rw[aX,Array.getElem?_setIfInBounds_self_of_lt aI],η,λo' jy=>absurd (fU o') jy⟩
  ·exact⟨c',by rw[aX,Array.getElem?_setIfInBounds_ne (Ne.symm e)];exact dF,rfl,λ_ _=>rfl⟩
 ·have e:bZ≠Ψ:=λe=>by subst e;rw[hb] at dF;cases dF;cases Φ
  rw[aX,Array.getElem?_setIfInBounds_ne e];exact dF
section
variable {s m:Nat} {ο o':aN}
theorem At.ne (h:At s ο w) (hm:ο.aU=some m):m≠s:=λe=>by
 obtain⟨⟨ty,I⟩,R⟩:=h;obtain⟨jv,ν⟩:=R m hm;subst e;rw[I] at ν;simp at ν
theorem At.mu (h:At s ο w) (hm:ο.aU=some m):∃ty,w.heap[m]?=some (.cells #[.int .i32 (mwd ο),.int .u32 ο.cZ] ty (0,0)):=h.2 m hm
theorem At.dJ (h:At s ο w) (hm:ο.aU=some m):w.cell? ⟨m,0,none⟩=some (.int .i32 (mwd ο)):=let ⟨_,I⟩:=h.mu hm;nj I rfl
theorem At.ff (h:At s ο w) (hm:ο.aU=some m):w.cell? ⟨m,1,none⟩=some (.int .u32 ο.cZ):=let ⟨_,I⟩:=h.mu hm;nj I rfl
theorem At.cP (h:At s ο w):w.cell? ⟨s,0,none⟩=some (.int .u64 (cJ ο)):=let ⟨_,I⟩:=h.1;nj I rfl
theorem At.Ξ (h:At s ο w):w.cell? ⟨s,1,none⟩=some (.int .u32 ο.cB):=let ⟨_,I⟩:=h.1;nj I rfl
theorem NB {bZ off:Nat} {c:Array Value} {ty:TypeId} (hb:w.heap[bZ]?=some (.cells c ty (0,0))):w.frozen? ⟨bZ,off,none⟩=false:=by
 simp[World.frozen?,hb]
theorem At.xH (h:At s ο w) (hm:ο.aU=some m) (off:Nat):w.frozen? ⟨m,off,none⟩=false:=let ⟨_,I⟩:=h.mu hm;NB I
theorem At.tN (h:At s ο w) (off:Nat):w.frozen? ⟨s,off,none⟩=false:=let ⟨_,I⟩:=h.1;NB I
theorem At.DO (h:At s ο w) (hm:ο.aU=some m) (dg:o'.aU=ο.aU) (Ο:cJ o'=cJ ο) (hw:o'.cB=ο.cB) {off:Nat} {v:Value} (hv:(#[.int .i32 (mwd ο),.int .u32 ο.cZ]:Array Value).setIfInBounds off v=#[.int .i32 (mwd o'),.int .u32 o'.cZ]):At s o' (w.setCell ⟨m,off,none⟩ v):=by
 have bC:=h.ne hm;obtain⟨jv,ν⟩:=h.mu hm;obtain⟨⟨ty,I⟩,R⟩:=h;have aX:=heap_setCell (w:=w) (a:=⟨m,off,none⟩) (v:=v) rfl ν;refine⟨⟨ty,?_⟩,λb1 h2=>⟨jv,?_⟩⟩
 ·rw[aX,Array.getElem?_setIfInBounds_ne bC,Ο,hw];exact I
 ·rw[dg,hm] at h2;cases h2;rw[aX,Array.getElem?_setIfInBounds_self_of_lt (fw ν),hv]
theorem At.xI (h:At s ο w) (dg:o'.aU=ο.aU) (Ο:mwd o'=mwd ο) (hw:o'.cZ=ο.cZ) {off:Nat} {v:Value} (hv:(#[.int .u64 (cJ ο),.int .u32 ο.cB]:Array Value).setIfInBounds off v=#[.int .u64 (cJ o'),.int .u32 o'.cB]):At s o' (w.setCell ⟨s,off,none⟩ v):=by
 have bC:=λm hm=>h.ne (m:=m) hm;obtain⟨⟨ty,I⟩,R⟩:=h;have aX:=heap_setCell (w:=w) (a:=⟨s,off,none⟩) (v:=v) rfl I;refine⟨⟨ty,?_⟩,λb1 h2=>?_⟩
 ·rw[aX,Array.getElem?_setIfInBounds_self_of_lt (fw I),hv]
 ·rw[dg] at h2;obtain⟨jv,ν⟩:=R b1 h2;exact⟨jv,by rw[aX,Array.getElem?_setIfInBounds_ne (Ne.symm (bC b1 h2)),Ο,hw];exact ν⟩
theorem At.DQ (h:At s ο w) (hm:ο.aU=some m) {sp:Spec} (μ:sp.aU=some m) {off:Nat} (v:Value):fv (λΨ _=>ep s sp Ψ) (λ_=>False) w (w.setCell ⟨m,off,none⟩ v):=
 let ⟨_,I⟩:=h.mu hm;NA I v λ_=>.inr μ
theorem At.xJ (h:At s ο w) {sp:Spec} {off:Nat} (v:Value):fv (λΨ _=>ep s sp Ψ) (λ_=>False) w (w.setCell ⟨s,off,none⟩ v):=
 let ⟨_,I⟩:=h.1;NA I v λ_=>.inl rfl
end
theorem NC {s d:Nat} {sp:Spec}:om s sp d #[]:=⟨rfl,λj e h=>by simp at h⟩
theorem rb {s bZ off d:Nat} {sp:Spec} {es:Array Event} (hb:ep s sp bZ) (hd:0<d) (μ:∀y∈es,y.loc=.cell ⟨bZ,off,none⟩/\y.sync=true):om s sp d es:=by
 have th:∀(es:Array Event),(∀y∈es,y.loc=.cell ⟨bZ,off,none⟩/\y.sync=true)->deafBehind d es=d:=by
  intro es;obtain⟨l⟩:=es;intro h;unfold deafBehind;simp only[List.foldl_toArray']
  induction l with
  | nil=>rfl
  | cons y l ω=>
   simp only[List.foldl_cons];have:=h y η;rw[this.1];exact ω λz Μ=>h z (by simp at Μ ⊢;exact .inr Μ)
 refine⟨th es μ,λj y Φ=>.inr (.inr ⟨bZ,off,y.write,?_,hb,?_⟩)⟩
 ·have:=μ y (Array.mem_of_getElem? Φ);obtain⟨l,w1,s1⟩:=y;simp only at this;rw[this.1,this.2]
 ·rw[th]
  ·exact hd
  ·intro z Μ;exact μ z (by
    rw[Array.mem_iff_getElem?] at Μ ⊢;obtain⟨q,Χ⟩:=Μ;rw[Array.getElem?_extract] at Χ;split at Χ
    ·exact⟨_,Χ⟩
    ·cases Χ)
end
end Go.TL
namespace Go.TL
open Go.Conc
open Go.ConcM (OsLater)
open Go.ConcN (sumTo upd sumTo_upd upd_ne upd_same sumTo_congr le_sumTo)
variable [bj]
section
variable {P:Program} {Q:Value->Prop} {mn:Bool} {x:aW} {b:Frame} {cs:List Frame} {nt:Nat} {o:Base} {k:List Item} {env:ab} {σ:List Row}
variable {ops:Array Oper} {i:Nat} {rest:List Nat} {op:Oper} {f:FuncId} {e:Array Value->Sem Value} {args:Array Operand} {vs:List Value}
def h3 (P:Program) (Q:Value->Prop) (mn:Bool) (x:aW) (b:Frame) (cs:List Frame) (nt:Nat) (o:Base) (ops:Array Oper) (rest:List Nat) (k:List Item) (op:Oper) (env:ab) (σ:List Row) (s φ:Nat) (ο:aN) (v:Value):Prop:=
 V P Q mn (one {x with view:=upd x.view s (some (φ,ο))}) b cs nt o (.inRegion ops rest::k) (b6 op env (.z v)) σ
def qa (P:Program) (Q:Value->Prop) (mn:Bool) (x:aW) (b:Frame) (cs:List Frame) (nt:Nat) (o:Base) (ops:Array Oper) (rest:List Nat) (k:List Item) (op:Oper) (env:ab) (σ:List Row) (s φ:Nat) (ο:aN) (v:Value) (o':aN) (t':Tok):Prop:=
 Act ο (x.tok s) o' t'/\∀cl,cl<φ->V P Q mn (one {x with tok:=upd x.tok s t',view:=upd x.view s (some (cl,o'))}) b cs nt o (.inRegion ops rest::k) (b6 op env (.z v)) σ
structure Seen (x:aW) (s:Nat) (sp:Spec) (φ:Nat) (ο:aN):Prop where
 spec:ο.toSpec=sp
 view:Fa x s φ ο
 jj:uC ο (x.tok s)
theorem V.ext (U:eZ x) {s:Nat} {sp:Spec} (b2:x.spec s=some sp) (cQ:¬fQ (x.tok s)) (h:gQ P b ops i op f e args env vs nt)
  (aX:∀(w:World) (φ:Nat) (ο:aN),Seen x s sp φ ο->At s ο w->
   (∃v w' gg,(e vs.toArray).run P w=.ok v w'/\(e vs.toArray).events P w #[⟨.mark (Mark.extern f),false,true⟩]=#[⟨.mark (Mark.extern f),false,true⟩]++gg/\(∀y∈gg,y.sync=true/\∀g,y.loc≠.mark (Mark.extern g))/\
    fv (λΨ _=>ep s sp Ψ) (λ_=>False) w w'/\om s sp x.deaf gg/\
    ((At s ο w'/\h3 P Q mn x b cs nt o ops rest k op env σ s φ ο v)\/∃o' t',At s o' w'/\qa P Q mn x b cs nt o ops rest k op env σ s φ ο v o' t'))\/
   (jZ ο (x.tok s)/\(∀bq,bq≠s->mW (x.tok bq))/\(e vs.toArray).run P w=.halt .blocked w)) :
  V P Q mn (one x) b cs nt o (.inRegion ops (i::rest)::k) env σ:=by
 obtain⟨ej,Κ⟩:=h.call;refine .atomic U b2 cQ h.dst h.want λt w φ ο _ p' hw I R ν Ι=>?_;rcases aX w φ ο ⟨I,ν,Ι⟩ R with⟨v,w',gg,a1,a2,ck,fY,hA,l3⟩|⟨a1,a2,ck⟩
 ·refine .inl ⟨v,w',gg,DJ h.oS h.at_ hw Κ (p' _ _ h.Ae) a1 a2 ck,fY,hA,l3.imp id λ⟨o',t',bK,da,fP⟩=>⟨o',t',da,bK,.inl (Ny h.oS h.at_ Κ),fP⟩⟩
 ·exact .inr ⟨a1,a2,W5 h.oS h.at_ hw Κ (p' _ _ h.Ae) ck⟩
theorem re (cv:Addr):∀y∈(#[⟨.cell cv,false,true⟩,⟨.cell cv,true,true⟩]:Array Event),y.loc=.cell cv/\y.sync=true:=by
 intro y Φ;simp at Φ;rcases Φ with rfl|rfl<;>exact⟨rfl,rfl⟩
theorem rf (cv:Addr) (wr:Bool):∀y∈(#[⟨.cell cv,wr,true⟩]:Array Event),y.loc=.cell cv/\y.sync=true:=by
 intro y Φ;simp at Φ;subst Φ;exact⟨rfl,rfl⟩
theorem rh {cv:Addr} {es:Array Event} (h:∀y∈es,y.loc=.cell cv/\y.sync=true):∀y∈es,y.sync=true/\∀g,y.loc≠.mark (Mark.extern g):=λy Φ=>⟨(h y Φ).2,λg e=>by rw[(h y Φ).1] at e;cases e⟩
structure xK (ο o':aN):Prop where
 aU:o'.aU=ο.aU
 g:cJ o'=cJ ο
 w:o'.cB=ο.cB
structure ri (ο o':aN):Prop where
 aU:o'.aU=ο.aU
 g:mwd o'=mwd ο
 w:o'.cZ=ο.cZ
section
variable {s m:Nat} {sp:Spec} (U:eZ x) (hd:0<x.deaf) (b2:x.spec s=some sp) (cQ:¬fQ (x.tok s))
include U hd b2 cQ
theorem V.DR (hm:sp.aU=some m) {old new:Int} (h:gQ P b ops i op f (Extern.Atomic.casT (.int .i32)) args env [.pointer (some ⟨m,0,none⟩),.int .i32 old,.int .i32 new] nt)
  (Af:∀φ ο,Seen x s sp φ ο->¬mwd ο=old->h3 P Q mn x b cs nt o ops rest k op env σ s φ ο (.bool false)\/∃t',qa P Q mn x b cs nt o ops rest k op env σ s φ ο (.bool false) ο t')
  (dp:∀φ ο,Seen x s sp φ ο->mwd ο=old->∃o' t',mwd o'=new/\o'.cZ=ο.cZ/\xK ο o'/\qa P Q mn x b cs nt o ops rest k op env σ s φ ο (.bool true) o' t') :
  V P Q mn (one x) b cs nt o (.inRegion ops (i::rest)::k) env σ:=by
 refine .ext U b2 cQ h λw φ ο μ bD=>.inl ?_;have dg:ο.aU=some m:=by rw[μ.spec];exact hm
 have ε:=bD.dJ dg
 have Μ:=bD.xH dg 0;by_cases hv:mwd ο=old
 ·obtain⟨o',t',I,R,ν,Ι⟩:=dp φ ο μ hv;subst hv;refine⟨.bool true,_,_,(congrArg (Sem.run P · w) (casT_eq _ _)).trans (run_cas_hit_entry ε Μ),?_,rh (re ⟨m,0,none⟩),bD.DQ dg hm _,rb (.inr hm) hd (re ⟨m,0,none⟩),.inr ⟨o',t',bD.DO dg ν.aU ν.g ν.w ?_,Ι⟩⟩
  ·exact(congrArg (Sem.events P · w _) (casT_eq _ _)).trans ((events_cas_hit_entry ε Μ _).trans rfl)
  ·rw[I,R];rfl
 ·refine⟨.bool false,w,_,(congrArg (Sem.run P · w) (casT_eq _ _)).trans (run_cas_miss_entry ε Μ hv),?_,rh (rf ⟨m,0,none⟩ false),fv.refl _ _ _,rb (.inr hm) hd (rf ⟨m,0,none⟩ false),?_⟩
  ·exact(congrArg (Sem.events P · w _) (casT_eq _ _)).trans ((events_cas_miss_entry ε Μ hv _).trans rfl)
  ·exact(Af φ ο μ hv).imp (λh=>⟨bD,h⟩) λ⟨t',h⟩=>⟨ο,t',bD,h⟩
theorem V.ND (hm:sp.aU=some m) {d:Int} (h:gQ P b ops i op f (Extern.Atomic.update (Op.intArith .add) .i32 true) args env [.pointer (some ⟨m,0,none⟩),.int .i32 d] nt)
  (dp:∀φ ο,Seen x s sp φ ο->∃o' t',mwd o'=IntKind.i32.wrap (mwd ο+d)/\o'.cZ=ο.cZ/\xK ο o'/\qa P Q mn x b cs nt o ops rest k op env σ s φ ο (.int .i32 (mwd o')) o' t') :
  V P Q mn (one x) b cs nt o (.inRegion ops (i::rest)::k) env σ:=by
 refine .ext U b2 cQ h λw φ ο μ bD=>.inl ?_;have dg:ο.aU=some m:=by rw[μ.spec];exact hm
 have ε:=bD.dJ dg
 have Μ:=bD.xH dg 0;obtain⟨o',t',I,R,ν,Ι⟩:=dp φ ο μ;rw[I] at Ι;refine⟨_,_,_,run_add_entry ε Μ,(events_add_entry ε Μ _).trans rfl,rh (re ⟨m,0,none⟩),bD.DQ dg hm _,rb (.inr hm) hd (re ⟨m,0,none⟩),.inr ⟨o',t',bD.DO dg ν.aU ν.g ν.w ?_,Ι⟩⟩;rw[I,R];rfl
theorem V.HI (h:gQ P b ops i op f (Extern.Atomic.loadT (.int .u64)) args env [.pointer (some ⟨s,0,none⟩)] nt)
  (dp:∀φ ο,Seen x s sp φ ο->h3 P Q mn x b cs nt o ops rest k op env σ s φ ο (.int .u64 (cJ ο))\/∃t',qa P Q mn x b cs nt o ops rest k op env σ s φ ο (.int .u64 (cJ ο)) ο t') :
  V P Q mn (one x) b cs nt o (.inRegion ops (i::rest)::k) env σ:=by
 refine .ext U b2 cQ h λw φ ο μ bD=>.inl ?_;have ε:=bD.cP;refine⟨.int .u64 (cJ ο),w,#[⟨.cell ⟨s,0,none⟩,false,true⟩],?_,?_,rh (rf _ false),fv.refl _ _ _,rb (.inl rfl) hd (rf _ false),(dp φ ο μ).imp (λh=>⟨bD,h⟩) λ⟨t',h⟩=>⟨ο,t',bD,h⟩⟩
 ·change Sem.run P (do Extern.Atomic.read (.int .u64) (<-asAddr (.pointer (some _)))) w=_;simp[Extern.Atomic.read,asAddr,ε]
 ·change Sem.events P (do Extern.Atomic.read (.int .u64) (<-asAddr (.pointer (some _)))) w _=_;simp[Extern.Atomic.read,asAddr,ε,events_load]
theorem V.W9 {old new:Int} (h:gQ P b ops i op f (Extern.Atomic.casT (.int .u64)) args env [.pointer (some ⟨s,0,none⟩),.int .u64 old,.int .u64 new] nt)
  (Af:∀φ ο,Seen x s sp φ ο->¬cJ ο=old->h3 P Q mn x b cs nt o ops rest k op env σ s φ ο (.bool false))
  (dp:∀φ ο,Seen x s sp φ ο->cJ ο=old->∃o' t',cJ o'=new/\o'.cB=ο.cB/\ri ο o'/\qa P Q mn x b cs nt o ops rest k op env σ s φ ο (.bool true) o' t') :
  V P Q mn (one x) b cs nt o (.inRegion ops (i::rest)::k) env σ:=by
 refine .ext U b2 cQ h λw φ ο μ bD=>.inl ?_;have ε:=bD.cP;have Μ:=bD.tN 0;by_cases hv:cJ ο=old
 ·obtain⟨o',t',I,R,ν,Ι⟩:=dp φ ο μ hv;subst hv;refine⟨.bool true,_,_,(congrArg (Sem.run P · w) (casT_eq _ _)).trans (run_cas_hit_entry ε Μ),?_,rh (re ⟨s,0,none⟩),bD.xJ _,rb (.inl rfl) hd (re ⟨s,0,none⟩),.inr ⟨o',t',bD.xI ν.aU ν.g ν.w ?_,Ι⟩⟩
  ·exact(congrArg (Sem.events P · w _) (casT_eq _ _)).trans ((events_cas_hit_entry ε Μ _).trans rfl)
  ·rw[I,R];rfl
 ·refine⟨.bool false,w,_,(congrArg (Sem.run P · w) (casT_eq _ _)).trans (run_cas_miss_entry ε Μ hv),?_,rh (rf ⟨s,0,none⟩ false),fv.refl _ _ _,rb (.inl rfl) hd (rf ⟨s,0,none⟩ false),.inl ⟨bD,Af φ ο μ hv⟩⟩;exact(congrArg (Sem.events P · w _) (casT_eq _ _)).trans ((events_cas_miss_entry ε Μ hv _).trans rfl)
theorem V.HJ {d:Int} (h:gQ P b ops i op f (Extern.Atomic.update (Op.intArith .add) .u64 true) args env [.pointer (some ⟨s,0,none⟩),.int .u64 d] nt)
  (dp:∀φ ο,Seen x s sp φ ο->∃o' t',cJ o'=IntKind.u64.wrap (cJ ο+d)/\o'.cB=ο.cB/\ri ο o'/\qa P Q mn x b cs nt o ops rest k op env σ s φ ο (.int .u64 (cJ o')) o' t') :
  V P Q mn (one x) b cs nt o (.inRegion ops (i::rest)::k) env σ:=by
 refine .ext U b2 cQ h λw φ ο μ bD=>.inl ?_;have ε:=bD.cP;have Μ:=bD.tN 0;obtain⟨o',t',I,R,ν,Ι⟩:=dp φ ο μ;rw[I] at Ι;refine⟨_,_,_,run_add_entry ε Μ,(events_add_entry ε Μ _).trans rfl,rh (re ⟨s,0,none⟩),bD.xJ _,rb (.inl rfl) hd (re ⟨s,0,none⟩),.inr ⟨o',t',bD.xI ν.aU ν.g ν.w ?_,Ι⟩⟩;rw[I,R];rfl
end
theorem NF {w:World} {cv:Addr} {n:Int} {vs:List Value} (U:vs[0]?=some (.pointer (some cv))) (ε:w.cell? cv=some (.int .u32 n)) (qW:n≠0) (Μ:w.frozen? cv=false):(Extern.Sync.semacquire vs.toArray).run P w=.ok (.tuple #[]) (w.setCell cv (.int .u32 (n-1))):=by
 simp[Extern.Sync.semacquire,Extern.Sync.count,U,ε,qW,Μ,Extern.Sync.none_,run_store P w cv (.int .u32 (n-1)) .atomic rfl,Result.andThen]
theorem NG {w:World} {cv:Addr} {n:Int} {vs:List Value} (U:vs[0]?=some (.pointer (some cv))) (ε:w.cell? cv=some (.int .u32 n)) (qW:n≠0) (Μ:w.frozen? cv=false) (es:Array Event):(Extern.Sync.semacquire vs.toArray).events P w es=es++semEvents cv:=by
 simp[Extern.Sync.semacquire,Extern.Sync.count,U,ε,qW,Μ,semEvents,events_load,events_store P w _ cv (.int .u32 (n-1)) .atomic rfl,run_store P w cv (.int .u32 (n-1)) .atomic rfl,Result.evThen];apply Array.ext';simp
theorem NH {w:World} {cv:Addr} {vs:List Value} (U:vs[0]?=some (.pointer (some cv))) (ε:w.cell? cv=some (.int .u32 0)):(Extern.Sync.semacquire vs.toArray).run P w=.halt .blocked w:=by
 simp[Extern.Sync.semacquire,Extern.Sync.count,U,ε]
theorem NI {w:World} {cv:Addr} {n:Int} {vs:List Value} (U:vs[0]?=some (.pointer (some cv))) (ε:w.cell? cv=some (.int .u32 n)) (Μ:w.frozen? cv=false):(Extern.Sync.semrelease vs.toArray).run P w=.ok (.tuple #[]) (w.setCell cv (.int .u32 (IntKind.u32.wrap (n+1)))):=by
 simp[Extern.Sync.semrelease,Extern.Sync.count,U,ε,Μ,Extern.Sync.none_,Op.intArith,run_store P w cv (.int .u32 (IntKind.u32.wrap (n+1))) .atomic rfl,Result.andThen]
theorem NJ {w:World} {cv:Addr} {n:Int} {vs:List Value} (U:vs[0]?=some (.pointer (some cv))) (ε:w.cell? cv=some (.int .u32 n)) (Μ:w.frozen? cv=false) (es:Array Event):(Extern.Sync.semrelease vs.toArray).events P w es=es++semEvents cv:=by
 simp[Extern.Sync.semrelease,Extern.Sync.count,U,ε,Μ,semEvents,Op.intArith,events_load,events_store P w _ cv (.int .u32 (IntKind.u32.wrap (n+1))) .atomic rfl,run_store P w cv (.int .u32 (IntKind.u32.wrap (n+1))) .atomic rfl,Result.evThen];apply Array.ext';simp
theorem DS {s bZ off d:Nat} {sp:Spec} (hb:ep s sp bZ):om s sp d (semEvents ⟨bZ,off,none⟩):=by
 refine⟨by simp[deafBehind,semEvents],λj y Φ=>?_⟩
 match j,Φ with
 | 0,Φ=>simp[semEvents] at Φ;subst Φ;exact .inl rfl
 | 1,Φ=>simp[semEvents] at Φ;subst Φ;exact .inr (.inr ⟨bZ,off,false,rfl,hb,by simp[semEvents,deafBehind]⟩)
 | 2,Φ=>simp[semEvents] at Φ;subst Φ;exact .inr (.inr ⟨bZ,off,true,rfl,hb,by simp[semEvents,deafBehind]⟩)
 | 3,Φ=>simp[semEvents] at Φ;subst Φ;exact .inr (.inl rfl)
 | j+4,Φ=>simp[semEvents] at Φ
section
variable {s m:Nat} {sp:Spec} (U:eZ x) (b2:x.spec s=some sp) (cQ:¬fQ (x.tok s))
include U b2 cQ
theorem V.W' (hm:sp.aU=some m) (ao:vs[0]?=some (.pointer (some ⟨m,1,none⟩))) (cT:∀bq,bq≠s->mW (x.tok bq)) (h:gQ P b ops i op f Extern.Sync.semacquire args env vs nt)
  (wait:∀φ ο,Seen x s sp φ ο->ο.cZ=0->jZ ο (x.tok s))
  (dp:∀φ ο,Seen x s sp φ ο->0<ο.cZ->∃o' t',mwd o'=mwd ο/\o'.cZ=ο.cZ-1/\xK ο o'/\qa P Q mn x b cs nt o ops rest k op env σ s φ ο (.tuple #[]) o' t') :
  V P Q mn (one x) b cs nt o (.inRegion ops (i::rest)::k) env σ:=by
 refine .ext U b2 cQ h λw φ ο μ bD=>?_;have dg:ο.aU=some m:=by rw[μ.spec];exact hm
 have ε:=bD.ff dg;by_cases hv:ο.cZ=0
 ·exact .inr ⟨wait φ ο μ hv,cT,NH ao (by rw[ε,hv];rfl)⟩
 ·obtain⟨o',t',I,R,ν,Ι⟩:=dp φ ο μ γ;have Ε:((ο.cZ:Nat):Int)≠0:=γ;refine .inl ⟨_,_,_,NF ao ε Ε (bD.xH dg 1),NG ao ε Ε (bD.xH dg 1) _,semEvents_sync _,bD.DQ dg hm _,DS (.inr hm),.inr ⟨o',t',bD.DO dg ν.aU ν.g ν.w ?_,Ι⟩⟩;rw[I,R,show((ο.cZ:Nat):Int)-1=((ο.cZ-1:Nat):Int) by omega];rfl
theorem V.Xa (ao:vs[0]?=some (.pointer (some ⟨s,1,none⟩))) (cT:∀bq,bq≠s->mW (x.tok bq)) (h:gQ P b ops i op f Extern.Sync.semacquire args env vs nt)
  (wait:∀φ ο,Seen x s sp φ ο->ο.cB=0->jZ ο (x.tok s))
  (dp:∀φ ο,Seen x s sp φ ο->0<ο.cB->∃o' t',cJ o'=cJ ο/\o'.cB=ο.cB-1/\ri ο o'/\qa P Q mn x b cs nt o ops rest k op env σ s φ ο (.tuple #[]) o' t') :
  V P Q mn (one x) b cs nt o (.inRegion ops (i::rest)::k) env σ:=by
 refine .ext U b2 cQ h λw φ ο μ bD=>?_;have ε:=bD.Ξ;by_cases hv:ο.cB=0
 ·exact .inr ⟨wait φ ο μ hv,cT,NH ao (by rw[ε,hv];rfl)⟩
 ·obtain⟨o',t',I,R,ν,Ι⟩:=dp φ ο μ γ;have Ε:((ο.cB:Nat):Int)≠0:=γ;refine .inl ⟨_,_,_,NF ao ε Ε (bD.tN 1),NG ao ε Ε (bD.tN 1) _,semEvents_sync _,bD.xJ _,DS (.inl rfl),.inr ⟨o',t',bD.xI ν.aU ν.g ν.w ?_,Ι⟩⟩;rw[I,R,show((ο.cB:Nat):Int)-1=((ο.cB-1:Nat):Int) by omega];rfl
theorem V.NK (hm:sp.aU=some m) (ao:vs[0]?=some (.pointer (some ⟨m,1,none⟩))) (h:gQ P b ops i op f Extern.Sync.semrelease args env vs nt)
  (dp:∀φ ο,Seen x s sp φ ο->ο.cZ<1000/\∃o' t',mwd o'=mwd ο/\o'.cZ=ο.cZ+1/\xK ο o'/\qa P Q mn x b cs nt o ops rest k op env σ s φ ο (.tuple #[]) o' t') :
  V P Q mn (one x) b cs nt o (.inRegion ops (i::rest)::k) env σ:=by
 refine .ext U b2 cQ h λw φ ο μ bD=>.inl ?_;have dg:ο.aU=some m:=by rw[μ.spec];exact hm
 have ε:=bD.ff dg;obtain⟨aI,o',t',I,R,ν,Ι⟩:=dp φ ο μ;refine⟨_,_,_,NI ao ε (bD.xH dg 1),NJ ao ε (bD.xH dg 1) _,semEvents_sync _,bD.DQ dg hm _,DS (.inr hm),.inr ⟨o',t',bD.DO dg ν.aU ν.g ν.w ?_,Ι⟩⟩;rw[I,R,show IntKind.u32.wrap (((ο.cZ:Nat):Int)+1)=((ο.cZ+1:Nat):Int) by simp only[IntKind.wrap_u32];omega];rfl
end
end
end Go.TL
