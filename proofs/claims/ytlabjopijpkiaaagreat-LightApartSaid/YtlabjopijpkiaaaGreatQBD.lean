import Derived.Test.YtlabjopijpkiaaaGreatQBC
set_option maxHeartbeats 16000000
set_option maxRecDepth 20000
set_option linter.unusedSectionVars false
set_option linter.unusedSimpArgs false
set_option linter.unusedVariables false
namespace Go.TL
open Go.Proofs
variable [bd]
theorem ak.VQ {P:Program} {σ:List Row} {g:FuncId} {as0 first:List θ} {row row':Row} {r:θ} {K E:θ→List Row→Prop} (h:ak P g as0 [row] (fun a s=>a=r∧s=[row']) (fun _ _=>False)) (id:Nat) (bU:σ[id]?=some row) (χ:ie row) (fP:ie row') (μ:∀a∈as0,fJ 1 a) (κ:fJ 1 r)
  {args:List θ} (lM:first++args=as0.map (dP [id])) (I:K (dP [id] r) (σ.set id row')):hR P (.fn (.func g) first []) args σ K E:=by
 have aS:=ak.rows (σ:=σ) h [id] (by simp) rfl (fun j i ε=>by
  cases j with
  | zero=>simp at ε;subst ε;exact bU
  | succ j=>simp at ε) (fun r κ=>by simp at κ;subst κ;exact χ) (by simpa using μ) (K':=K) (E':=E) (fun a s ⟨R,γ⟩=>by
   subst R;subst γ;refine⟨fun x δ=>by simp at δ;subst δ;exact fP,κ,?_⟩;simpa[names,rG,ic] using I) (fun a s h=>h.elim)
 exact ak.call (first:=first) (captured:=[]) (by rw[List.append_nil,lM];exact aS)
def s8 (s:aM) (f:Found) (c n:Nat) (m:List (Int×Int)) (j:Nat):List (Int×Int):=(((f.cells[c]?).getD []).take j).foldl (fun m r=>s7 m (s.gp (f.u,f.v) r n) (f.many c)) m
def u6 (s:aM) (F:List Found) (c n i:Nat):List (Int×Int):=(F.take i).foldl (fun m f=>s8 s f c n m ((f.cells[c]?).getD []).length) []
def s9 (a:Int) (l:List (Int×Int)):Int:=l.foldl (fun a e=>max a e.2) a
def C0 (s:aM) (F:List Found) (c n:Nat):Int:=s9 0 (u6 s F c n F.length)
def u7 (s:aM) (F:List Found) (c:Nat) (b:k7) (n:Nat):k7:=(List.range n).foldl (fun b (n:Nat)=>b.take c n (C0 s F c n)) b
def s' (s:aM) (F:List Found) (c:Nat):k7:=(List.range c).foldl (fun b (c:Nat)=>u7 s F c b s.an.length) ⟨0,0,0,false⟩
theorem VR (s:aM) (F:List Found) (c:Nat) (b:k7) (n:Nat):u7 s F c b (n+1)=(u7 s F c b n).take c n (C0 s F c n):=by simp[u7,List.range_succ,List.foldl_append]
theorem VS (s:aM) (F:List Found) (c:Nat):s' s F (c+1)=u7 s F c (s' s F c) s.an.length:=by simp[s',List.range_succ,List.foldl_append]
theorem VT (s:aM) (f:Found) (c n:Nat) (m:List (Int×Int)) (j:Nat) (h:j<((f.cells[c]?).getD []).length):s8 s f c n m (j+1)=s7 (s8 s f c n m j) (s.gp (f.u,f.v) ((f.cells[c]?).getD [])[j] n) (f.many c):=by
 unfold s8;rw[List.take_succ_eq_append_getElem h,List.foldl_append];rfl
theorem VU (s:aM) (F:List Found) (c n i:Nat) (h:i<F.length):u6 s F c n (i+1)=s8 s F[i] c n (u6 s F c n i) ((F[i].cells[c]?).getD []).length:=by
 unfold u6;rw[List.take_succ_eq_append_getElem h,List.foldl_append];rfl
theorem VV {a:Int} {l m:List (Int×Int)} (h:l.Perm m):s9 a l=s9 a m:=h.foldl_eq' (fun x _ y _ z=>by omega) a
def rW (s:aM) (F:List Found):Int×Int×Int×Int:=
 if(e6 s true F).2.2≠0 then(0,0,0,(e6 s true F).2.2)
 else let b:=s' s F s.cells.length;if b.some=false∨b.least=gB F then(0,0,0,11) else(b.c,b.n,b.least,0)
structure C1 (s:aM) (F:List Found):Prop where
 s6:F.length<2 ^ 20
 cells:∀f∈F,f.cells.length=s.cells.length∧(∀c∈f.cells,c.length<2 ^ 20∧∀r∈c,r.1<s.af.length∧r.2<s.af.length)
 many:∀f∈F,f.cells.length<2 ^ 62∧∀(gb:Int) i,i≤f.cells.length→fx f.cells gb i<2 ^ 62
 count:gB F<2 ^ 62
theorem VW (s:aM) (ξ:s.small) (F:List Found) (gx:qy s F) (cm:C1 s F) :
  av Tryz.prog 26 [eP s] (.bt [U (rW s F).1,U (rW s F).2.1,U (rW s F).2.2.1,U (rW s F).2.2.2]):=by
 refine ak.body Θ Tryz.func26 rfl rfl Tryz.ntmps26 rfl rfl (by simp) ?_;(repeat (first|apply ι|(refine ν fun J I=>?_;simp;(repeat (rw[ζ];simp));apply I;clear I J)));(repeat (first|apply ι));refine de (A:=[6]) Θ fun J I=>?_;simp;(repeat (rw[ζ];simp));refine av.c (zj s ξ true F gx) (aI.refl _) (by simp) (by simp) ?_;simp;(repeat (rw[ζ];simp));apply I;clear I J;by_cases b:(e6 s true F).2.2=0
 case neg=>
  have e:rW s F=(0,0,0,(e6 s true F).2.2):=by unfold rW;rw[if_pos b]
  rw[e];generalize (e6 s true F).2.2=fG at b;(repeat (first|apply ι|(refine ν fun J I=>?_;simp;(repeat (rw[ζ];simp));apply I;clear I J)));refine al (by simp[b]) ?_;(repeat (first|apply ι|(refine ν fun J I=>?_;simp;(repeat (rw[ζ];simp));apply I;clear I J)));refine W.drop (h:=0) (σ':=[]) (Nat.zero_le _) (Nat.zero_le _) (by simp) rfl [(2,U 0),(3,U 0),(4,U 0),(5,U fG)] (by simp) ?_;refine W.ret ⟨_,rfl,?_,rfl⟩;exact .refl _
 have e:e6 s true F=(s,F,0):=by
  unfold e6 at b ⊢;split at b
  ·rename_i h;simp at b;exact absurd b h
  ·split at b
   ·simp at b
   ·rename_i R γ;rw[if_neg R,if_neg γ]
 have Δ:rW s F=let b:=s' s F s.cells.length;if b.some=false∨b.least=gB F then(0,0,0,11) else(b.c,b.n,b.least,0):=by unfold rW;rw[if_neg (by simpa using b)]
 rw[Δ,e];clear Δ;refine W.fix (id:=0) (σ':=[]) (Nat.zero_le _) rfl (by simp) (by simp) rfl [(5,U 0),(6,.aa [aP s.af,aO s.an,bz s.cells]),(7,cJ F)] (by simp) ?_;(repeat (first|apply ι|(refine ν fun J I=>?_;simp;(repeat (rw[ζ];simp));apply I;clear I J)));refine ah rfl ?_
 repeat first|apply ι
 refine de (A:=[8]) Θ fun J I=>?_;simp;(repeat (rw[ζ];simp));apply I;clear I J;(repeat (first|apply ι|(refine ν fun J I=>?_;simp;(repeat (rw[ζ];simp));apply I;clear I J)));have hy:s.cells.length<2 ^ 30:=ξ.2.2.1;have gη:s.an.length<2 ^ 30:=ξ.2.1;have qz:∀{b:k7} (M:List (Int×Int)),∀r∈[Row.cells 104 4 [k8 b],.map (M.map hX)],eN [Row.cells 104 4 [k8 b],.map (M.map hX)].length r:=fun {b} M r κ=>by
  simp only[List.mem_cons,List.not_mem_nil,or_false] at κ;rcases κ with rfl|rfl
  ·simp[eN,θ.cells]
  ·intro e he;obtain⟨x,_,rfl⟩:=List.mem_map.1 he;simp
 refine W.iter (fun c:Nat=>c≤s.cells.length) (fun c=>[(6,.aa [aP s.af,aO s.an,bz s.cells]),(7,cJ F),(8,.ag 0 1 0 0),(9,.fn (.func 76) [.ag 0 1 0 0] []),(33,U s.cells.length),(34,U c)])
  (fun c=>[.cells 104 4 [k8 (s' s F c)]]) (fun c=>s.cells.length-c) 0 (Nat.zero_le _) rfl (by simp) (fun c jP Γ=>?_)
 (repeat (first|apply ι|(refine ν fun J I=>?_;simp;(repeat (rw[ζ];simp));apply I;clear I J)));refine W.dY rfl (fun η=>?_) (fun η=>?_)
 ·have lJ:c<s.cells.length:=by simpa using η
  (repeat (first|apply ι|(refine ν fun J I=>?_;simp;(repeat (rw[ζ];simp));apply I;clear I J)));obtain⟨cU,i'⟩:∃cU,cU=s' s F c:=⟨_,rfl⟩;refine W.iter (fun n:Nat=>n≤s.an.length) (fun n=>[(6,.aa [aP s.af,aO s.an,bz s.cells]),(7,cJ F),(8,.ag 0 1 0 0),(9,.fn (.func 76) [.ag 0 1 0 0] []),(10,U c),(33,U s.cells.length),(34,U c),(40,U s.an.length),(41,U n)])
   (fun n=>[.cells 104 4 [k8 (u7 s F c cU n)]]) (fun n=>s.an.length-n) 0 (Nat.zero_le _) (by rw[i'];rfl) (by simp) (fun n qh gq=>?_)
  (repeat (first|apply ι|(refine ν fun J I=>?_;simp;(repeat (rw[ζ];simp));apply I;clear I J)));refine W.dY rfl (fun aZ=>?_) (fun aZ=>?_)
  ·have qc:n<s.an.length:=by simpa using aZ
   obtain⟨bI,j9⟩:∃bI,bI=u7 s F c cU n:=⟨_,rfl⟩;refine W.to (σ':=[.cells 104 4 [k8 bI]]) (env':=[(6,.aa [aP s.af,aO s.an,bz s.cells]),(7,cJ F),(8,.ag 0 1 0 0),(9,.fn (.func 76) [.ag 0 1 0 0] []),(10,U c),(33,U s.cells.length),(34,U c),(40,U s.an.length),(41,U n)]) ?_ (by rw[j9]) (by simp);(repeat (first|apply ι|(refine ν fun J I=>?_;simp;(repeat (rw[ζ];simp));apply I;clear I J)));refine W.iter (fun i:Nat=>i≤F.length) (fun i=>[(6,.aa [aP s.af,aO s.an,bz s.cells]),(7,cJ F),(8,.ag 0 1 0 0),(9,.fn (.func 76) [.ag 0 1 0 0] []),(10,U c),(33,U s.cells.length),(34,U c),(40,U s.an.length),(41,U n),(11,U n),(12,.mp 1),(45,cJ F),(46,U F.length),(47,U i)])
    (fun i=>[.cells 104 4 [k8 bI],.map ((u6 s F c n i).map hX)]) (fun i=>F.length-i) 0 (Nat.zero_le _) rfl (by simp) (fun i hi u2=>?_)
   (repeat (first|apply ι|(refine ν fun J I=>?_;simp;(repeat (rw[ζ];simp));apply I;clear I J)));by_cases kr:i<F.length
   ·refine al (by simp[kr]) ?_;obtain⟨M,dj⟩:∃M,M=u6 s F c n i:=⟨_,rfl⟩;have pt:=VU s F c n i kr;rw[←dj] at pt;obtain⟨mM,hN⟩:=cm.cells _ (List.getElem_mem kr);obtain⟨hY,jj⟩:=cm.many _ (List.getElem_mem kr);generalize Ρ:F[i]=f at pt mM hN hY jj;have bY:c<f.cells.length:=by rw[mM];exact lJ
    refine W.to (σ':=[.cells 104 4 [k8 bI],.map (M.map hX)]) (env':=[(6,.aa [aP s.af,aO s.an,bz s.cells]),(7,cJ F),(8,.ag 0 1 0 0),(9,.fn (.func 76) [.ag 0 1 0 0] []),(10,U c),(33,U s.cells.length),(34,U c),(40,U s.an.length),(41,U n),(11,U n),(12,.mp 1),(45,cJ F),(46,U F.length),(47,U i)]) ?_ (by rw[dj]) (by simp)
    repeat first|apply ι
    refine de (A:=[14]) Θ fun J I=>?_;simp;(repeat (rw[ζ];simp[kr,Ρ]));apply I;clear I J;refine W.mJ (σ0:=[.cells 104 4 [k8 bI],.map (M.map hX)]) (Nat.zero_le _) (qz _) (by simp) [(14,.aa [U f.u,U f.v,lQ f.cells]),(6,.aa [aP s.af,aO s.an,bz s.cells]),(7,cJ F),(8,.ag 0 1 0 0),(9,.fn (.func 76) [.ag 0 1 0 0] []),(10,U c),(33,U s.cells.length),(34,U c),(40,U s.an.length),(41,U n),(11,U n),(12,.mp 1),(45,cJ F),(46,U F.length),(47,U i)] (by simp[je,rC]) ?_;(repeat (first|apply ι|(refine ν fun J I=>?_;simp;(repeat (rw[ζ];simp[bY]));apply I;clear I J)));have zo:(f.cells[c]?).getD []=f.cells[c]:=by simp[bY]
    rw[zo] at pt;have zp:=hN _ (List.getElem_mem bY);have pv:=VT s f c n M;rw[zo] at pv;generalize f.cells[c]=C at pt zp pv;obtain⟨VX,Ha⟩:=zp;refine W.iter (fun j:Nat=>j≤C.length) (fun j=>[(14,.aa [U f.u,U f.v,lQ f.cells]),(6,.aa [aP s.af,aO s.an,bz s.cells]),(7,cJ F),(8,.ag 0 1 0 0),(9,.fn (.func 76) [.ag 0 1 0 0] []),(10,U c),(33,U s.cells.length),(34,U c),(40,U s.an.length),(41,U n),(11,U n),(12,.mp 1),(45,cJ F),(46,U F.length),(47,U i),(55,lP C),(56,U C.length),(57,U j)])
     (fun j=>[.cells 104 4 [k8 bI],.map ((s8 s f c n M j).map hX)]) (fun j=>C.length-j) 0 (Nat.zero_le _) (by simp[s8]) (by simp) (fun j ε mL=>?_)
    (repeat (first|apply ι|(refine ν fun J I=>?_;simp;(repeat (rw[ζ];simp));apply I;clear I J)));by_cases k9:j<C.length
    ·refine al (by simp[k9]) ?_;obtain⟨M2,wR⟩:∃M2,M2=s8 s f c n M j:=⟨_,rfl⟩;have pw:=pv j k9;rw[←wR] at pw;refine W.to (σ':=[.cells 104 4 [k8 bI],.map (M2.map hX)]) (env':=[(14,.aa [U f.u,U f.v,lQ f.cells]),(6,.aa [aP s.af,aO s.an,bz s.cells]),(7,cJ F),(8,.ag 0 1 0 0),(9,.fn (.func 76) [.ag 0 1 0 0] []),(10,U c),(33,U s.cells.length),(34,U c),(40,U s.an.length),(41,U n),(11,U n),(12,.mp 1),(45,cJ F),(46,U F.length),(47,U i),(55,lP C),(56,U C.length),(57,U j)]) ?_ (by rw[wR]) (by simp);obtain⟨q',s0⟩:=Ha _ (List.getElem_mem k9);generalize κ:C[j]=r at pw q' s0
     repeat first|apply ι
     refine de (A:=[16]) Θ fun J I=>?_;simp;(repeat (rw[ζ];simp[k9,κ]));apply I;clear I J;refine W.mJ (σ0:=[.cells 104 4 [k8 bI],.map (M2.map hX)]) (Nat.zero_le _) (qz _) (by simp) [(16,.aa [U r.1,U r.2]),(14,.aa [U f.u,U f.v,lQ f.cells]),(6,.aa [aP s.af,aO s.an,bz s.cells]),(7,cJ F),(8,.ag 0 1 0 0),(9,.fn (.func 76) [.ag 0 1 0 0] []),(10,U c),(33,U s.cells.length),(34,U c),(40,U s.an.length),(41,U n),(11,U n),(12,.mp 1),(45,cJ F),(46,U F.length),(47,U i),(55,lP C),(56,U C.length),(57,U j)] (by simp[je,rC]) ?_
     repeat first|apply ι
     have nA:=eD k9 (show C.length<2 ^ 62 by omega);rcases VP (s.gp (f.u,f.v) r n) (f.many c) M2 0 with⟨Ξ,ad⟩|⟨b8,v,cH,Ξ,ad⟩
     ·refine W.draw (A:=[]) Θ mixed fun J I=>?_;simp;(repeat (rw[bp];simp[Ξ,h8]));refine gn (av.p (zb s ξ (f.u,f.v) r n qc q' s0) (aI.refl _) (by simp) (by simp)) ?_;simp[Ξ,h8];(repeat (rw[bp];simp[Ξ,h8]));refine gn (av.p (CQ f c hY (jj c)) (aI.refl _) (by simp) (by simp)) ?_;simp[Ξ,h8];(repeat (rw[bp];simp[Ξ,h8]));refine⟨bL (by kernel_rfl),I _ _ ?_⟩;clear I J;(repeat (first|apply ι|(refine ν fun J I=>?_;simp;(repeat (rw[ζ];simp[nA]));apply I;clear I J)));refine W.to (mL (j+1) k9 (by omega)) ?_ ?_
      ·rw[pw,ad];simp
      ·simp[nA]
     ·refine W.draw (A:=[]) Θ mixed fun J I=>?_;simp;(repeat (rw[bp];simp[Ξ,h8]));refine gn (av.p (zb s ξ (f.u,f.v) r n qc q' s0) (aI.refl _) (by simp) (by simp)) ?_;simp[Ξ,h8];(repeat (rw[bp];simp[Ξ,h8]));refine gn (av.p (CQ f c hY (jj c)) (aI.refl _) (by simp) (by simp)) ?_;simp[Ξ,h8];(repeat (rw[bp];simp[Ξ,h8]));refine⟨bL (by kernel_rfl),I _ _ ?_⟩;clear I J;(repeat (first|apply ι|(refine ν fun J I=>?_;simp;(repeat (rw[ζ];simp[nA]));apply I;clear I J)));refine W.to (mL (j+1) k9 (by omega)) ?_ ?_
      ·rw[pw,ad];simp
      ·simp[nA]
    ·have uZ:j=C.length:=by omega
     subst uZ;have kn:=eD kr (show F.length<2 ^ 62 by have:=cm.s6;omega);refine ah (by simp) ?_;refine W.exit rfl ?_;(repeat (first|apply ι|(refine ν fun J I=>?_;simp;(repeat (rw[ζ];simp[kn]));apply I;clear I J)));refine W.to (u2 (i+1) kr (by omega)) ?_ ?_
     ·rw[pt]
     ·simp[kn]
   ·have dO:i=F.length:=by omega
    subst dO;refine ah (by simp) ?_;refine W.exit rfl ?_;obtain⟨M,dj⟩:∃M,M=u6 s F c n F.length:=⟨_,rfl⟩;have VY:C0 s F c n=s9 0 M:=by rw[dj];rfl
    refine W.to (σ':=[.cells 104 4 [k8 bI],.map (M.map hX)]) (env':=[(6,.aa [aP s.af,aO s.an,bz s.cells]),(7,cJ F),(8,.ag 0 1 0 0),(9,.fn (.func 76) [.ag 0 1 0 0] []),(10,U c),(33,U s.cells.length),(34,U c),(40,U s.an.length),(41,U n),(11,U n),(12,.mp 1)]) ?_ (by rw[dj]) (by simp);(repeat (first|apply ι|(refine ν fun J I=>?_;simp;(repeat (rw[ζ];simp));apply I;clear I J)));refine W.iter (fun x:Int×List (Int×Int)×Option (θ×θ)=>s9 x.1 x.2.1=s9 0 M) (fun x=>[(6,.aa [aP s.af,aO s.an,bz s.cells]),(7,cJ F),(8,.ag 0 1 0 0),(9,.fn (.func 76) [.ag 0 1 0 0] []),(10,U c),(33,U s.cells.length),(34,U c),(40,U s.an.length),(41,U n),(11,U n),(12,.mp 1),(17,U x.1),(76,.it 2)])
     (fun x=>[.cells 104 4 [k8 bI],.map (M.map hX),.iter 1 (x.2.1.map hX) x.2.2]) (fun x=>x.2.1.length) (0,M,none) rfl rfl (by simp) (fun x δ VZ=>?_)
    obtain⟨nj,ab,cur⟩:=x;simp only at δ
    repeat (first|apply ι)
    cases ab with
    | nil=>
     (repeat (first|apply ι));refine ν fun J I=>?_;simp;(repeat (rw[ζ];simp));apply I;clear I J
     repeat first|apply ι
     refine ah rfl ?_;refine W.exit rfl ?_;have Hb:nj=C0 s F c n:=by rw[VY,←δ];rfl
     have zq:=eD qc (show s.an.length<2 ^ 62 by omega);(repeat (first|apply ι));refine ν fun J I=>?_;simp;(repeat (rw[ζ];simp));refine ak.VQ (as0:=[.ag 0 1 0 0,.aU [U c,U n],U nj]) (VO bI c n nj) 0 rfl (by simp[ie,θ.cells]) (by simp[ie,θ.cells]) (by simp[fJ,oh]) (by simp[fJ]) rfl ?_;simp[dP,hE];(repeat (rw[ζ];simp));apply I;clear I J;refine W.drop (h:=1) (σ':=[.cells 104 4 [k8 (bI.take c n nj)]]) (Nat.zero_le _) (by simp) (fun id r bU κ=>?_) rfl [(6,.aa [aP s.af,aO s.an,bz s.cells]),(7,cJ F),(8,.ag 0 1 0 0),(9,.fn (.func 76) [.ag 0 1 0 0] []),(10,U c),(33,U s.cells.length),(34,U c),(40,U s.an.length),(41,U n)] (by simp[je]) ?_
     ·obtain rfl:id=0:=by omega
      simp at κ;subst κ;simp[eN,θ.cells]
     (repeat (first|apply ι|(refine ν fun J I=>?_;simp;(repeat (rw[ζ];simp[zq]));apply I;clear I J)));refine W.to (gq (n+1) qc (by omega)) ?_ ?_
     ·rw[VR,←j9,Hb]
     ·simp[zq]
    | cons y ab=>
     (repeat (first|apply ι));refine ν fun J I=>?_;simp;(repeat (rw[ζ];simp));intro b8 n7;obtain⟨x,m7⟩:∃x,x=(y::ab)[b8]'(by simpa using n7):=⟨_,rfl⟩;have G8:(hX y::List.map hX ab)[b8]?=some (hX x):=by
      have:(List.map hX (y::ab))[b8]?=some (hX x):=by
       rw[List.getElem?_map,bc (by simpa using n7),m7];rfl
      simpa using this
     have G9:(hX y::List.map hX ab).eraseIdx b8=((y::ab).eraseIdx b8).map hX:=Mt hX (y::ab) b8;rw[G8,G9];simp;(repeat (rw[ζ];simp));apply I;clear I J
     repeat first|apply ι
     refine al rfl ?_;(repeat (first|apply ι|(refine ν fun J I=>?_;simp;(repeat (rw[ζ];simp));apply I;clear I J)));have Mx:b8<(y::ab).length:=by simpa using n7
     have hinv:s9 (max nj x.2) ((y::ab).eraseIdx b8)=s9 0 M:=by
      rw[←δ,←VV (Ms (y::ab) b8 Mx),←m7];rfl
     have Hb:max nj x.2=if nj<x.2 then x.2 else nj:=by split<;>omega
     refine W.to (VZ (max nj x.2,(y::ab).eraseIdx b8,some (hX x)) hinv (by simp only[List.length_eraseIdx,Mx,if_true];omega)) ?_ ?_
     ·simp
     ·simp[Hb]
  ·have bu:n=s.an.length:=by simp at aZ;omega
   subst bu;have zr:=eD lJ (show s.cells.length<2 ^ 62 by omega);refine W.exit rfl ?_;(repeat (first|apply ι|(refine ν fun J I=>?_;simp;(repeat (rw[ζ];simp[zr]));apply I;clear I J)));refine W.to (Γ (c+1) lJ (by omega)) ?_ ?_
   ·rw[VS,←i']
   ·simp[zr]
 ·have η:c=s.cells.length:=by simp at η;omega
  subst η;refine W.exit rfl ?_;(repeat (first|apply ι|(refine ν fun J I=>?_;simp;(repeat (rw[ζ];simp));apply I;clear I J)));obtain⟨⟨My,sX,lA,pe⟩,e1⟩:∃B,B=s' s F s.cells.length:=⟨_,rfl⟩;rw[←e1];refine W.fix (id:=0) (σ':=[]) (Nat.zero_le _) rfl (by simp) (by simp) rfl [(7,cJ F),(8,.aa [U My,U sX,U lA,bm pe])] (by simp) ?_;have R:∀f∈F,f.cells.length<2 ^ 62∧∀i,i≤f.cells.length→fx f.cells (-1) i<2 ^ 62:=fun f Ρ=>⟨(cm.many f Ρ).1,(cm.many f Ρ).2 (-1)⟩;cases pe
  ·refine W.draw (A:=[]) Θ mixed fun J I=>?_;simp;(repeat (rw[bp];simp));refine⟨bL (by kernel_rfl),I _ _ ?_⟩;clear I J;refine al rfl ?_;(repeat (first|apply ι|(refine ν fun J I=>?_;simp;(repeat (rw[ζ];simp));apply I;clear I J)));refine W.drop (h:=0) (σ':=[]) (Nat.zero_le _) (Nat.zero_le _) (by simp) rfl [(2,U 0),(3,U 0),(4,U 0),(5,U 11)] (by simp) ?_;refine W.ret ⟨_,rfl,?_,rfl⟩;exact .of (by simp)
  ·refine W.draw (A:=[]) Θ mixed fun J I=>?_;simp;(repeat (rw[bp];simp));refine gn (av.p (L3 F (by have:=cm.s6;omega) R cm.count) (aI.refl _) (by simp) (by simp)) ?_;simp;(repeat (rw[bp];simp));refine⟨bL (by kernel_rfl),I _ _ ?_⟩;clear I J;by_cases q:lA=gB F
   ·refine al (by simp[q]) ?_;(repeat (first|apply ι|(refine ν fun J I=>?_;simp;(repeat (rw[ζ];simp));apply I;clear I J)));refine W.drop (h:=0) (σ':=[]) (Nat.zero_le _) (Nat.zero_le _) (by simp) rfl [(2,U 0),(3,U 0),(4,U 0),(5,U 11)] (by simp) ?_;refine W.ret ⟨_,rfl,?_,rfl⟩;exact .of (by simp[q])
   ·refine ah (by simp[q]) ?_;(repeat (first|apply ι|(refine ν fun J I=>?_;simp;(repeat (rw[ζ];simp));apply I;clear I J)));refine W.draw (A:=[]) Θ mixed fun J I=>?_;simp;(repeat (rw[bp];simp));refine⟨bL (by kernel_rfl),I _ _ ?_⟩;clear I J;refine W.drop (h:=0) (σ':=[]) (Nat.zero_le _) (Nat.zero_le _) (by simp) rfl [(2,U My),(3,U sX),(4,U lA),(5,U 0)] (by simp) ?_;refine W.ret ⟨_,rfl,?_,rfl⟩;exact .of (by simp[q])
theorem V0 (l:List Int) (ω:l.length<2 ^ 30) :
  ak Tryz.prog 85 [.ms 0 l.length 0 l.length] [.cells 3 1 (l.map U)] (fun r s=>(∃e k,r=.sl e k (l.map U)∧(l≠[]→k=1))∧s=[.cells 3 1 (l.map U)]) (fun _ _=>False):=by
 refine ak.body Θ Tryz.func85 rfl rfl Tryz.ntmps85 rfl rfl (by simp) ?_;have lU:l.length≤4294967295:=by omega
 by_cases Ν:l=[]
 ·subst Ν;(repeat (first|apply ι|(refine ν fun J I=>?_;simp;(repeat (rw[ζ];simp));apply I;clear I J)));(repeat (first|apply ι));refine ν fun J I=>?_;simp;(repeat (rw[ζ];simp));intro j ε;apply I;clear I J;by_cases wC:j=1
  ·refine al (by simp[wC]) ?_;(repeat (first|apply ι|(refine ν fun J I=>?_;simp;(repeat (rw[ζ];simp));apply I;clear I J)));exact W.ret ⟨_,rfl,⟨true,0,rfl,fun h=>absurd rfl h⟩,rfl⟩
  ·refine ah (by simp[wC]) ?_
   repeat first|apply ι
   refine de (A:=[5,7]) Θ fun J I=>?_;simp;(repeat (rw[ζ];simp));apply I;clear I J;refine W.cut 1 (Nat.le_refl _) [(2,.sl false 1 [])] (by simp) (fun id r bU κ=>?_) (fun p χ=>?_) ?_
   ·obtain rfl:id=0:=by omega
    simp at κ;subst κ;simp[eN]
   ·obtain rfl:p=(2,.sl false 1 []):=by simpa using χ
    exact ey.own (id:=1) (t:=3) (Nat.le_refl _) rfl (by simp) (by simp)
   ·exact W.ret ⟨_,rfl,⟨false,1,rfl,fun _=>rfl⟩,rfl⟩
 ·(repeat (first|apply ι|(refine ν fun J I=>?_;simp;(repeat (rw[ζ];simp));apply I;clear I J)));(repeat (first|apply ι));refine ν fun J I=>?_;simp;(repeat (rw[ζ];simp[Ν]));apply I;clear I J;refine ah rfl ?_
  repeat first|apply ι
  have kl:List.take l.length (l.map U)=l.map U:=List.take_of_length_le (by simp)
  have V1:l.length≤4294967296:=by omega
  refine de (A:=[5,7]) Θ fun J I=>?_;simp;(repeat (rw[ζ];simp[lU,Ν,kl,V1]));apply I;clear I J;have hb:∀e∈l.map U,∀a∈e.cells,az 1 a:=fun e he a μ=>by
   obtain⟨x,_,rfl⟩:=List.mem_map.1 he;simp[θ.cells] at μ;subst μ;simp
  refine W.cut 1 (Nat.le_refl _) [(2,.sl false 1 (l.map U))] (by simp) (fun id r bU κ=>?_) (fun p χ=>?_) ?_
  ·obtain rfl:id=0:=by omega
   simp at κ;subst κ;exact hb
  ·obtain rfl:p=(2,.sl false 1 (l.map U)):=by simpa using χ
   exact ey.own (id:=1) (t:=3) (Nat.le_refl _) rfl (by simp) hb
  ·exact W.ret ⟨_,rfl,⟨false,1,rfl,fun _=>rfl⟩,rfl⟩
abbrev ta (k:List Int):θ:=.aU (k.map U)
abbrev oz (e:List Int×Int):θ×θ:=(ta e.1,U e.2)
def zs (m:List (List Int×Int)):Prop:=∀e∈m,e.1.length=4
theorem V2 (x y:List Int) (δ:x.length=4) (Ο:y.length=4):aeqv a9 157 (ta x) (ta y)=some (decide (x=y)):=by
 match x,δ,y,Ο with
 | [a,b,c,d],_,[b9,Φ,c',eb],_=>
  simp[aeqv,jc,lK,Bool.eq_iff_iff]
def jE:List (List Int×Int)→List Int→Int→List (List Int×Int)
 | [],k,v=>[(k,v)]
 | e::r,k,v=>if k=e.1 then(k,v)::r else e::jE r k v
def u9:List (List Int×Int)→List Int→Option Int
 | [],_=>none
 | e::r,k=>if k=e.1 then some e.2 else u9 r k
theorem V3 (k:List Int) (υ:k.length=4):∀(m:List (List Int×Int)) (d:Nat),zs m→(hj a9 157 (ta k) (m.map oz) d=some none∧u9 m k=none∧∀v,jE m k v=m++[(k,v)])∨
  ∃i x,i<m.length∧hj a9 157 (ta k) (m.map oz) d=some (some (d+i,U x))∧u9 m k=some x∧∀v,jE m k v=m.set i (k,v):=by
 intro m
 induction m with
 | nil=>intro d _;exact .inl ⟨rfl,rfl,fun _=>rfl⟩
 | cons e r Γ=>
  intro d Ι;have Υ:=V2 k e.1 υ (Ι e (by simp));by_cases h:k=e.1
  ·refine .inr ⟨0,e.2,by simp,?_,by simp[u9,h],fun v=>by simp[jE,h]⟩;simp only[List.map_cons,hj,Υ];simp[h]
  ·have hb:decide (k=e.1)=false:=by simpa using h
   rcases Γ (d+1) (fun x δ=>Ι x (by simp[δ])) with⟨R,γ,ο⟩|⟨i,x,R,γ,ο,ay⟩
   ·refine .inl ⟨?_,by simp[u9,h,γ],fun v=>by simp[jE,h,ο]⟩;simp only[List.map_cons,hj,Υ,hb,cond_false];exact R
   ·refine .inr ⟨i+1,x,by simp;omega,?_,by simp[u9,h,ο],fun v=>by simp[jE,h,ay]⟩;simp only[List.map_cons,hj,Υ,hb,cond_false];rw[γ];have:d+1+i=d+(i+1):=by omega
    rw[this]
theorem Mz {m:List (List Int×Int)} (h:zs m) {k:List Int} (υ:k.length=4) (v:Int):zs (jE m k v):=by
 induction m with
 | nil=>intro e he;simp[jE] at he;subst he;exact υ
 | cons a r Γ=>
  intro e he;unfold jE at he;split at he
  ·rcases List.mem_cons.1 he with rfl|he
   ·exact υ
   ·exact h e (by simp[he])
  ·rcases List.mem_cons.1 he with rfl|he
   ·exact h _ (by simp)
   ·exact Γ (fun x δ=>h x (by simp[δ])) e he
def oA (s:aM) (p r:Int×Int) (L:List Nat) (k:Nat):List Int:=((L.take k).map fun x=>s.gp p r x)++List.replicate (4-k) 0
theorem MA {s:aM} {p r:Int×Int} {L:List Nat} {k:Nat} (υ:k≤L.length) (Ι:L.length≤4):(oA s p r L k).length=4:=by simp[oA];omega
theorem V4 {s:aM} {p r:Int×Int} {L:List Nat} {k:Nat} (υ:k<L.length) (Ι:L.length≤4):(oA s p r L k).take k++s.gp p r L[k]::(oA s p r L k).drop (k+1)=oA s p r L (k+1):=by
 have Ε:((L.take k).map fun x=>s.gp p r x).length=k:=by simp;omega
 have Δ:4-k=(4-(k+1))+1:=by omega
 unfold oA;rw[List.take_left' Ε,List.drop_append,List.drop_eq_nil_of_le (by omega),Ε,List.take_succ_eq_append_getElem υ,List.map_append,Δ,List.replicate_succ];have a4:k+1-k=1:=by omega
 rw[a4];simp
abbrev wS:=Option (List (List Int×Int))
def wT (m:wS) (k:List Int) (v:Int):wS:=m.bind fun m=>match u9 m k with|some x=>if x=v then some (jE m k v) else none|none=>some (jE m k v)
def lY (s:aM) (f:Found) (cell:Nat) (lower:Bool) (L:List Nat) (m:wS) (j:Nat):wS:=(((f.cells[cell]?).getD []).take j).foldl (fun m r=>wT m (oA s (f.u,f.v) r L L.length) (lV lower r)) m
def tc (s:aM) (F:List Found) (cell:Nat) (lower:Bool) (L:List Nat) (i:Nat):wS:=(F.take i).foldl (fun m f=>lY s f cell lower L m ((f.cells[cell]?).getD []).length) (some [])
def qA (s:aM) (F:List Found) (cell:Nat) (lower:Bool) (L:List Nat):Bool:=(tc s F cell lower L F.length).isSome
theorem V5 (s:aM) (f:Found) (cell:Nat) (lower:Bool) (L:List Nat) (m:wS) (j:Nat) (h:j<((f.cells[cell]?).getD []).length):lY s f cell lower L m (j+1)=wT (lY s f cell lower L m j) (oA s (f.u,f.v) ((f.cells[cell]?).getD [])[j] L L.length) (lV lower ((f.cells[cell]?).getD [])[j]):=by
 unfold lY;rw[List.take_succ_eq_append_getElem h,List.foldl_append];rfl
theorem MB (s:aM) (F:List Found) (cell:Nat) (lower:Bool) (L:List Nat) (i:Nat) (h:i<F.length):tc s F cell lower L (i+1)=lY s F[i] cell lower L (tc s F cell lower L i) ((F[i].cells[cell]?).getD []).length:=by
 unfold tc;rw[List.take_succ_eq_append_getElem h,List.foldl_append];rfl
theorem MC (l:List (Int×Int)) (k:(Int×Int)→List Int) (v:Int×Int→Int):l.foldl (fun m r=>wT m (k r) (v r)) none=none:=by
 induction l with
 | nil=>rfl
 | cons a l Γ=>exact Γ
theorem V6 (s:aM) (F:List Found) (cell:Nat) (lower:Bool) (L:List Nat) {i j:Nat} (hi:i<F.length) (ε:j≤((F[i].cells[cell]?).getD []).length) (h:lY s F[i] cell lower L (tc s F cell lower L i) j=none):qA s F cell lower L=false:=by
 have R:lY s F[i] cell lower L (tc s F cell lower L i) ((F[i].cells[cell]?).getD []).length=none:=by
  unfold lY at h ⊢;rw[List.take_length]
  conv=>lhs;rw[←List.take_append_drop j ((F[i].cells[cell]?).getD [])]
  rw[List.foldl_append,h];exact MC _ _ _
 rw[←MB s F cell lower L i hi] at R;unfold qA;unfold tc at R ⊢;rw[List.take_length]
 conv=>lhs;rw[←List.take_append_drop (i+1) F]
 rw[List.foldl_append,R];have:∀l:List Found,(l.foldl (fun m f=>lY s f cell lower L m ((f.cells[cell]?).getD []).length) none)=none:=fun l=>by
  induction l with
  | nil=>rfl
  | cons a l Γ=>
   rw[List.foldl_cons];have:lY s a cell lower L none ((a.cells[cell]?).getD []).length=none:=by unfold lY;exact MC _ _ _
   rw[this];exact Γ
 rw[this];rfl
abbrev fc (L:List Nat):Row:=.cells 3 1 (L.map fun n:Nat=>U n)
theorem Hc {h:Nat} {L:List Nat}:eN h (fc L):=fun e he a μ=>by
 obtain⟨x,_,rfl⟩:=List.mem_map.1 he;simp[θ.cells] at μ;subst μ;simp
theorem V7 (s:aM) (ξ:s.small) (F:List Found) (cm:C1 s F) (cell:Nat) (wU:cell<s.cells.length) (lower:Bool) (L:List Nat) (aD:L.length≤4) (lW:∀x∈L,x<s.an.length) :
  ak Tryz.prog 84 [eP s,cJ F,U cell,bm lower,.ms 0 L.length 0 L.length] [fc L] (fun r σ=>r=bm (qA s F cell lower L)∧σ=[fc L]) (fun _ _=>False):=by
 refine ak.body Θ Tryz.func84 rfl rfl Tryz.ntmps84 rfl rfl (by simp) ?_;(repeat (first|apply ι|(refine ν fun J I=>?_;simp;(repeat (rw[ζ];simp));apply I;clear I J)));have qz:∀M:List (List Int×Int),∀r∈[fc L,.map (M.map oz)],eN [fc L,.map (M.map oz)].length r:=fun M r κ=>by
  simp only[List.mem_cons,List.not_mem_nil,or_false] at κ;rcases κ with rfl|rfl
  ·exact Hc
  ·intro e he;obtain⟨x,_,rfl⟩:=List.mem_map.1 he;simp
 refine W.iter (fun x:Nat×List (List Int×Int)=>x.1≤F.length∧tc s F cell lower L x.1=some x.2∧zs x.2) (fun(i,_)=>[(2,U cell),(3,bm lower),(4,.ms 0 L.length 0 L.length),(5,.aa [aP s.af,aO s.an,bz s.cells]),(11,.mp 1),(23,cJ F),(24,U F.length),(25,U i)])
  (fun(_,M)=>[fc L,.map (M.map oz)]) (fun x=>F.length-x.1) (0,[]) ⟨Nat.zero_le _,rfl,fun e he=>by cases he⟩ rfl (by simp) (fun x δ Γ=>?_)
 obtain⟨i,M⟩:=x;obtain⟨hi,dj,Ι⟩:=δ;simp only at hi dj Ι ⊢;(repeat (first|apply ι|(refine ν fun J I=>?_;simp;(repeat (rw[ζ];simp));apply I;clear I J)));by_cases kr:i<F.length
 ·refine al (by simp[kr]) ?_;have pt:=MB s F cell lower L i kr;have q0:=fun j=>V6 s F cell lower L (i:=i) (j:=j) kr;rw[dj] at pt q0;obtain⟨mM,hN⟩:=cm.cells _ (List.getElem_mem kr);generalize Ρ:F[i]=f at pt q0 mM hN;have bY:cell<f.cells.length:=by rw[mM];exact wU
  repeat first|apply ι
  refine de (A:=[13]) Θ fun J I=>?_;simp;(repeat (rw[ζ];simp[kr,Ρ]));apply I;clear I J;refine W.mJ (σ0:=[fc L,.map (M.map oz)]) (by simp) (qz _) (by simp) [(13,.aa [U f.u,U f.v,lQ f.cells]),(2,U cell),(3,bm lower),(4,.ms 0 L.length 0 L.length),(5,.aa [aP s.af,aO s.an,bz s.cells]),(11,.mp 1),(23,cJ F),(24,U F.length),(25,U i)] (by simp[je,rC,od]) ?_;(repeat (first|apply ι|(refine ν fun J I=>?_;simp;(repeat (rw[ζ];simp[bY]));apply I;clear I J)));have zo:(f.cells[cell]?).getD []=f.cells[cell]:=by simp[bY]
  rw[zo] at pt q0;have zp:=hN _ (List.getElem_mem bY);have pv:=V5 s f cell lower L (some M);rw[zo] at pv;generalize f.cells[cell]=C at pt zp pv q0;obtain⟨VX,Ha⟩:=zp;refine W.iter (fun x:Nat×List (List Int×Int)=>x.1≤C.length∧lY s f cell lower L (some M) x.1=some x.2∧zs x.2) (fun(j,_)=>[(2,U cell),(3,bm lower),(4,.ms 0 L.length 0 L.length),(5,.aa [aP s.af,aO s.an,bz s.cells]),(11,.mp 1),(23,cJ F),(24,U F.length),(25,U i),(13,.aa [U f.u,U f.v,lQ f.cells]),(33,lP C),(34,U C.length),(35,U j)])
   (fun(_,M)=>[fc L,.map (M.map oz)]) (fun x=>C.length-x.1) (0,M) ⟨Nat.zero_le _,rfl,Ι⟩ rfl (by simp) (fun x δ gq=>?_)
  obtain⟨j,M2⟩:=x;obtain⟨ε,wR,zt⟩:=δ;simp only at ε wR zt ⊢;(repeat (first|apply ι|(refine ν fun J I=>?_;simp;(repeat (rw[ζ];simp));apply I;clear I J)));by_cases k9:j<C.length
  ·refine al (by simp[k9]) ?_;have pw:=pv j k9;rw[wR] at pw;obtain⟨q',s0⟩:=Ha _ (List.getElem_mem k9);generalize κ:C[j]=r at pw q' s0
   repeat first|apply ι
   refine de (A:=[15]) Θ fun J I=>?_;simp;(repeat (rw[ζ];simp[k9,κ]));apply I;clear I J;refine W.mJ (σ0:=[fc L,.map (M2.map oz)]) (by simp) (qz _) (by simp) [(15,.aa [U r.1,U r.2]),(2,U cell),(3,bm lower),(4,.ms 0 L.length 0 L.length),(5,.aa [aP s.af,aO s.an,bz s.cells]),(11,.mp 1),(23,cJ F),(24,U F.length),(25,U i),(13,.aa [U f.u,U f.v,lQ f.cells]),(33,lP C),(34,U C.length),(35,U j)] (by simp[je,rC,od]) ?_
   repeat first|apply ι
   refine de (A:=[16]) Θ fun J I=>?_;simp;(repeat (rw[ζ];simp));apply I;clear I J;(repeat (first|apply ι|(refine ν fun J I=>?_;simp;(repeat (rw[ζ];simp));apply I;clear I J)));refine W.iter (fun k:Nat=>k≤L.length) (fun k=>[(2,U cell),(3,bm lower),(4,.ms 0 L.length 0 L.length),(5,.aa [aP s.af,aO s.an,bz s.cells]),(11,.mp 1),(23,cJ F),(24,U F.length),(25,U i),(13,.aa [U f.u,U f.v,lQ f.cells]),(33,lP C),(34,U C.length),(35,U j),(15,.aa [U r.1,U r.2]),(16,.ag 2 1 0 0),(39,.ms 0 L.length 0 L.length),(40,U L.length),(41,U k)])
    (fun k=>[fc L,.map (M2.map oz),.cells 157 4 [ta (oA s (f.u,f.v) r L k)]]) (fun k=>L.length-k) 0 (Nat.zero_le _) (by simp[oA]) (by simp) (fun k υ mL=>?_)
   (repeat (first|apply ι|(refine ν fun J I=>?_;simp;(repeat (rw[ζ];simp));apply I;clear I J)));by_cases iz:k<L.length
   ·refine al (by simp[iz]) ?_;have u':(k:Int)<4:=by omega
    have jM:k≤3:=by omega
    have sO:=V4 (s:=s) (p:=(f.u,f.v)) (r:=r) iz aD
    have hlen:=MA (s:=s) (p:=(f.u,f.v)) (r:=r) (Nat.le_of_lt iz) aD
    have V8:=lW _ (List.getElem_mem iz);obtain⟨K,I⟩:∃K,K=oA s (f.u,f.v) r L k:=⟨_,rfl⟩;rw[←I] at sO hlen ⊢;(repeat (first|apply ι|(refine ν fun J I=>?_;simp;(repeat (rw[ζ];simp[iz,u',hlen]));apply I;clear I J)));(repeat (first|apply ι));refine ν fun J I=>?_;simp;(repeat (rw[ζ];simp[u',hlen]));refine av.c (zb s ξ (f.u,f.v) r L[k] V8 q' s0) (aI.refl _) (by simp) (by simp) ?_;simp[u',jM,hlen];(repeat (rw[ζ];simp[u',jM,hlen]));apply I;clear I J;have zu:=eD iz (show L.length<2 ^ 62 by omega);(repeat (first|apply ι|(refine ν fun J I=>?_;simp;(repeat (rw[ζ];simp[zu]));apply I;clear I J)));refine W.to (mL (k+1) iz (by omega)) ?_ ?_
    ·rw[←sO];simp
    ·simp[zu]
   ·have V9:k=L.length:=by omega
    subst V9;refine ah (by simp) ?_;refine W.exit rfl ?_;have hlen:=MA (s:=s) (p:=(f.u,f.v)) (r:=r) (Nat.le_refl _) aD;obtain⟨K,I⟩:∃K,K=oA s (f.u,f.v) r L L.length:=⟨_,rfl⟩;obtain⟨v,hv⟩:∃v,v=lV lower r:=⟨_,rfl⟩;rw[←I,←hv] at pw;rw[←I] at hlen ⊢
    repeat first|apply ι
    refine W.rA (A:=[]) Θ [(2,U cell),(3,bm lower),(4,.ms 0 L.length 0 L.length),(5,.aa [aP s.af,aO s.an,bz s.cells]),(11,.mp 1),(23,cJ F),(24,U F.length),(25,U i),(13,.aa [U f.u,U f.v,lQ f.cells]),(33,lP C),(34,U C.length),(35,U j),(15,.aa [U r.1,U r.2]),(16,.ag 2 1 0 0),(19,U v)] ?_ (by
     rw[hv];cases lower
     all_goals
      (try simp);(repeat (rw[ζ];simp));(try simp[]);refine av.c (GI _) (aI.refl _) (by simp) (by simp) ?_;simp;(repeat (rw[ζ];simp));(try simp[lV]))
    clear mL hv;have nA:=eD k9 (show C.length<2 ^ 62 by omega);have j6:ng [fc L,.map (M2.map oz),.cells 157 4 [ta K]] 1=true:=by simp[ng]
    have oY:nd a9 157 (ta K)=true:=by
     match K,hlen with
     | [a,b,c,d],_=>simp[nd,jc,lK]
    have kl:List.take 4 (K.map U)=K.map U:=List.take_of_length_le (by simp[hlen]);rcases V3 K hlen M2 0 zt with⟨Ξ,ad,aT⟩|⟨b8,x,cH,Ξ,ad,aT⟩
    ·have aT:=aT v
     have hm:lY s f cell lower L (some M) (j+1)=some (jE M2 K v):=by rw[pw];simp[wT,ad]
     (repeat (first|apply ι|(refine ν fun J I=>?_;simp;(repeat (rw[ζ];simp[Ξ,oY,kl,hlen,-nd]));apply I;clear I J)));refine ah rfl ?_;(repeat (first|apply ι|(refine ν fun J I=>?_;simp;(repeat (rw[ζ];simp[Ξ,oY,kl,hlen,-nd]));apply I;clear I J)));refine W.drop (h:=2) (σ':=[fc L,.map ((jE M2 K v).map oz)]) (by simp) (by simp) (fun id w bU hw=>eN.mono (qz (jE M2 K v) w (by
      match id,bU,hw with
      | 0,_,hw=>simp at hw;subst hw;simp
      | 1,_,hw=>simp[aT] at hw;subst hw;simp[aT])) (by simp)) (by simp[aT]) [(2,U cell),(3,bm lower),(4,.ms 0 L.length 0 L.length),(5,.aa [aP s.af,aO s.an,bz s.cells]),(11,.mp 1),(23,cJ F),(24,U F.length),(25,U i),(13,.aa [U f.u,U f.v,lQ f.cells]),(33,lP C),(34,U C.length),(35,U ((j:Int)+1))] (by simp[je,rC,od,nA]) ?_
     refine W.to (gq (j+1,jE M2 K v) ⟨k9,hm,Mz zt hlen v⟩ (by simp only;omega)) rfl ?_;simp
    ·have aT:=aT v;(repeat (first|apply ι|(refine ν fun J I=>?_;simp;(repeat (rw[ζ];simp[Ξ,oY,kl,hlen,-nd]));apply I;clear I J)));by_cases C2:x=v
     ·have hm:lY s f cell lower L (some M) (j+1)=some (jE M2 K v):=by rw[pw];simp[wT,ad,C2]
      refine ah (by simp[C2]) ?_;(repeat (first|apply ι|(refine ν fun J I=>?_;simp;(repeat (rw[ζ];simp[Ξ,oY,kl,hlen,-nd]));apply I;clear I J)));refine W.drop (h:=2) (σ':=[fc L,.map ((jE M2 K v).map oz)]) (by simp) (by simp) (fun id w bU hw=>eN.mono (qz (jE M2 K v) w (by
       match id,bU,hw with
       | 0,_,hw=>simp at hw;subst hw;simp
       | 1,_,hw=>simp[aT] at hw;subst hw;simp[aT])) (by simp)) (by simp[aT]) [(2,U cell),(3,bm lower),(4,.ms 0 L.length 0 L.length),(5,.aa [aP s.af,aO s.an,bz s.cells]),(11,.mp 1),(23,cJ F),(24,U F.length),(25,U i),(13,.aa [U f.u,U f.v,lQ f.cells]),(33,lP C),(34,U C.length),(35,U ((j:Int)+1))] (by simp[je,rC,od,nA]) ?_
      refine W.to (gq (j+1,jE M2 K v) ⟨k9,hm,Mz zt hlen v⟩ (by simp only;omega)) rfl ?_;simp
     ·have hm:lY s f cell lower L (some M) (j+1)=none:=by rw[pw];simp[wT,ad,C2]
      have n2:=q0 (j+1) k9 hm;rw[n2];refine al (by simp[C2]) ?_;(repeat (first|apply ι|(refine ν fun J I=>?_;simp;(repeat (rw[ζ];simp));apply I;clear I J)));refine W.drop (h:=1) (σ':=[fc L]) (by simp) (by simp) (fun id w bU hw=>by
       obtain rfl:id=0:=by omega
       simp at hw;subst hw;exact Hc) rfl [(10,bm false)] (by simp) ?_
      exact W.ret ⟨_,rfl,rfl,rfl⟩
  ·have uZ:j=C.length:=by omega
   subst uZ;have kn:=eD kr (show F.length<2 ^ 62 by have:=cm.s6;omega);refine ah (by simp) ?_;refine W.exit rfl ?_;(repeat (first|apply ι|(refine ν fun J I=>?_;simp;(repeat (rw[ζ];simp[kn]));apply I;clear I J)));refine W.to (Γ (i+1,M2) ⟨kr,by rw[pt];exact wR,zt⟩ (by simp only;omega)) rfl ?_;simp[kn]
 ·have dO:i=F.length:=by omega
  subst dO;have n2:qA s F cell lower L=true:=by unfold qA;rw[dj];rfl
  rw[n2];refine ah (by simp) ?_;refine W.exit rfl ?_;(repeat (first|apply ι|(refine ν fun J I=>?_;simp;(repeat (rw[ζ];simp));apply I;clear I J)));refine W.drop (h:=1) (σ':=[fc L]) (by simp) (by simp) (fun id w bU hw=>by
   obtain rfl:id=0:=by omega
   simp at hw;subst hw;exact Hc) rfl [(10,bm true)] (by simp) ?_
  exact W.ret ⟨_,rfl,rfl,rfl⟩
end Go.TL
