/- LightMore: one photograph more never adds inks, readings or truths, and neither does a photograph of which more strokes are known. No conditions. -/
import Derived.Carry
import Derived.ChangeSlices
import Derived.Conc.HoldsTime
import Derived.KernelRfl
import Derived.OpenShut
import Derived.Test.YtlabjopijpkiaaaGreatEAS
import Derived.Test.YtlabjopijpkiaaaGreatEAW
import Derived.Test.YtlabjopijpkiaaaGreatRows
set_option maxHeartbeats 16000000
set_option maxRecDepth 20000
set_option linter.unusedSectionVars false
set_option linter.unusedSimpArgs false
set_option linter.unusedVariables false
namespace Go.TL
open Go.Proofs.YtlabjopijpkiaaaGreat.Rows
open Go.Proofs
section
variable [bq]
variable {P:Program} {m nt:Nat} {k:List Item} {env:ab} {σ:ac} {Z:be} {E:aq}
theorem W.iφ {ι:Type} {a:Item} (p:ι->Prop) (env':ι->ab) (σ':ι->ac) (U:W P m nt (a::k) env σ (λj e s=>j=k/\∃i,p i/\s=σ' i/\∀q∈env' i,a' e q.1=q.2) E) (γ:∀i,p i->W P m nt k (env' i) (σ' i) Z E):W P m nt (a::k) env σ Z E:=
 .bind U λj e s ⟨ζ,i,hi,ξ,he⟩=>by
  subst ζ;subst ξ;exact .forget (env' i) he (γ i hi)
theorem iχ {n:Nat} {l:List cZ} {p:cZ} (h:oK n l) (ο:n<=3) (π:0<=p.cd/\p.cd<n) (ξ:0<=p.seen/\p.seen<=63) (hb:0<=p.bare/\p.bare<=63) (ν:ow p.seen p.bare=0) (Θ:∀q∈l,q.cd≠p.cd):oK n (l++[p]) where
 hi:=by have:=h.nM;simp;omega
 apart:=by
  rw[List.map_append];refine List.nodup_append.2 ⟨h.apart,η,λx δ y Μ=>?_⟩;obtain⟨q,Χ,rfl⟩:=List.mem_map.1 δ;simp at Μ;subst Μ;exact Θ q Χ
 each q Χ:=by
  rcases List.mem_append.1 Χ with Χ|Χ
  ·exact h.each q Χ
  ·simp at Χ;subst Χ;exact⟨π,ξ,hb,ν⟩
theorem iψ {n i:Nat} {l:List cZ} {p q:cZ} (h:oK n l) (hi:l[i]?=some q) (π:p.cd=q.cd) (ξ:0<=p.seen/\p.seen<=63) (hb:0<=p.bare/\p.bare<=63) (ν:ow p.seen p.bare=0):oK n (l.set i p) where
 hi:=by rw[List.length_set];exact h.hi
 apart:=by
  have:(l.set i p).map (·.cd)=l.map (·.cd):=by
   rw[List.map_set,π];refine List.ext_getElem? λj=>?_;by_cases e:i=j
   ·subst e;rw[List.getElem?_set_self (by rw[List.length_map];exact(b0.1 hi).1),List.getElem?_map,hi];rfl
   ·rw[List.getElem?_set_ne e]
  rw[this];exact h.apart
 each r μ:=by
  rcases List.mem_or_eq_of_mem_set μ with μ|rfl
  ·exact h.each r μ
  ·have:=(h.each q (cy hi)).1;exact⟨by rw[π];exact this,ξ,hb,ν⟩
theorem iω {s:aU} (ξ:je s) {i:Nat} {l:List cZ} {q:cZ} {a b:Int} (hi:l[i]?=some q) (Χ:(0<=q.seen/\q.seen<=63)/\(0<=q.bare/\q.bare<=63)) (ν:0<=a/\a<=63) (hb:0<=b/\b<=63) (p r:Int×Int) (h:(l.set i ⟨q.cd,fB .i64 q.seen a,fB .i64 q.bare b⟩).all (s.kH p r)=true):l.all (s.kH p r)=true:=by
 have aN:=(b0.1 hi).1;rw[List.all_eq_true] at h ⊢;intro x δ;obtain⟨j,ζ,rfl⟩:=List.getElem_of_mem δ;by_cases e:i=j
 ·subst e;have:=h ⟨q.cd,fB .i64 q.seen a,fB .i64 q.bare b⟩ (by
   have:=List.getElem?_set_self (l:=l) (i:=i) (a:=(⟨q.cd,fB .i64 q.seen a,fB .i64 q.bare b⟩:cZ)) aN;exact cy this)
  have iΑ:l[i]=q:=by rw[a6 aN] at hi;exact Option.some.inj hi
  rw[iΑ];unfold aU.kH at *;simp only[Bool.and_eq_true,beq_iff_eq] at *;have hv:=RU ξ p r q.cd.toNat;exact⟨iξ Χ.1 ν hv this.1,iο Χ.2 hb hv this.2⟩
 ·exact h _ (by
   have:=List.getElem?_set_ne (l:=l) (i:=i) (j:=j) e (a:=(⟨q.cd,fB .i64 q.seen a,fB .i64 q.bare b⟩:cZ));exact cy (this.trans (a6 ζ)))
end
theorem iΒ (l:List Int) (π:l.length<2 ^ 63):@W py Tryz.prog 0 245 [.code (Tryz.f13.body.getD .skip)] (entry 0 [bD I 1 l]) [] (λj env _=>(∃k,j=.code .ret::k)/\a' env 2=ba true) (λ_ _ _=>False):=by
 letI:bq:=py;show W Tryz.prog 0 245 [.code _] _ _ _ _;refine W.seq ?_
 repeat apply ae
 refine l9 ?_;refine bc λΚ κ=>?_;refine af.call (first:=[]) (captured:=[]) ((gΝ l).mono (λa s ⟨U,γ⟩=>?_) (λ_ _ h=>h.elim));subst U;subst γ;simp;(repeat (rw[ah];simp));apply κ;have SP:(⟨l,1⟩:cJ).bg.length<2 ^ 63:=π;generalize (⟨l,1⟩:cJ)=d0 at SP
 repeat apply ae
 refine dj (A:=[4]) Φ λΚ κ=>bp ?_;refine vR.c (gΩ d0 SP 4 3 br br br) 0 rfl (b2.refl _) η (by
  rintro r ⟨s,p,rd,rfl,_⟩;simp[g7,θ.cells]) ?_
 rintro r d1 ⟨s,p,rd,rfl,hw⟩ lk;simp;(repeat (rw[ah];simp));apply κ;clear κ Κ;refine W.oA (σ0:=[b4 d1]) (Nat.zero_le _) (λr μ=>by simp at μ;subst μ;exact vL d1 _) (λa ν=>by simp[θ.cells] at ν;rcases ν with rfl|rfl|rfl<;>simp[g7,θ.cells]) [(3,.ak 0 1 0 0),(4,.au [aY s.ar,aX s.az,bO s.cells])] (by simp[l7,θ.cells,g7]) ?_;have ξ:=hw.gΦ;have qJ:=ξ.small;have eI:=hΗ hw;have pt:=ξ.many;have SQ:=hw.nM;have Ld:=hw.gΧ;have D1:=ξ.az.lo;obtain⟨nc,kD⟩:=aF s.cells.length;obtain⟨iL,vV⟩:=aF s.az.length;rw[<-kD] at pt;(repeat (first|apply ae|(refine dt λΚ κ=>?_;simp;(repeat (rw[ah];simp[kD.symm]));apply κ)));by_cases Ψ:nc=0
 ·refine aC (by simp[Ψ]) ?_;refine bc λΚ κ=>?_;refine aB.d (QV) (bp ?_);apply κ;exact W.stop ⟨⟨_,rfl⟩,rfl⟩
 refine ay (by simp[Ψ]) ?_;have Gp:d1.bg.length<2 ^ 63:=J;have h0:IntKind.i64.wrap ((nc:Int)-1)=(nc:Int)-1:=IntWalk.i64_in _ J;have U:=qq d1 Gp ((nc:Int)-1);obtain⟨ed,c1⟩:=pA d1 ((nc:Int)-1) J J;obtain⟨SR,SS⟩:=bG (hN d1 ((nc:Int)-1));rw[SS] at U ed c1;obtain⟨c,rfl⟩:∃c:Nat,SR=c:=⟨SR.toNat,J⟩;obtain⟨d2,j9⟩:=bG (d1.after ((nc:Int)-1));have Gt:d2.bg.length<2 ^ 63:=by rw[<-j9];exact Nat.lt_of_le_of_lt (jy _ _) Gp
 rw[j9] at U;have ε:c<nc:=J;(repeat apply ae);refine dt λΚ κ=>?_;simp;(repeat (rw[ah];simp[kD.symm,h0]));refine dU.g (U) (bp ?_);apply κ;clear SS j9 ed c1;refine da ?_;refine dj (A:=[8]) Φ λΚ κ=>bp ?_;refine iδ s qJ (.refl _) (by simp[θ.cells,g7]) ?_;simp[zM,zN]
 repeat (rw[ah];simp[zM,zN])
 try rw[pY]
 apply κ;obtain⟨Y,qm⟩:=aF (ez (aY s.ar) (aX s.az) (.ms 3 nc 0 nc));refine W.to (σ':=b4 d2::.dead::.dead::.cells 60 1 (gz 4 s.cells)::(ho s.cells++[Y])) (env':=[(3,.ak 0 1 0 0),(4,.au [aY s.ar,aX s.az,bO s.cells]),(7,I c),(8,.ak (nc+4) 1 0 0)]) ?_ (by rw[qm];simp[kD]) (by simp[kD,zN]);have g4:IntKind.i64.wrap ((iL:Int)-1)=(iL:Int)-1:=IntWalk.i64_in _ J;have γ:=qq d2 Gt ((iL:Int)-1);obtain⟨qv,a1⟩:=pA d2 ((iL:Int)-1) J J;obtain⟨na,lg⟩:=bG (hN d2 ((iL:Int)-1));obtain⟨d3,uw⟩:=bG (d2.after ((iL:Int)-1));have SU:d3.bg.length<2 ^ 63:=by rw[<-uw];exact Nat.lt_of_le_of_lt (jy _ _) Gt
 rw[lg,uw] at γ;rw[lg] at qv a1;have ο:=qq d3 SU 63;obtain⟨df,bE⟩:=pA d3 63 br br;obtain⟨o0,ph⟩:=bG (hN d3 63);obtain⟨d4,LH⟩:=bG (d3.after 63);have SV:d4.bg.length<2 ^ 63:=by rw[<-LH];exact Nat.lt_of_le_of_lt (jy _ _) SU
 rw[ph,LH] at ο;rw[ph] at df bE;have Ι:=qq d4 SV 63;obtain⟨cu,Ζ⟩:=pA d4 63 br br;obtain⟨h9,jF⟩:=bG (hN d4 63);obtain⟨d5,LI⟩:=bG (d4.after 63);have SW:d5.bg.length<2 ^ 63:=by rw[<-LI];exact Nat.lt_of_le_of_lt (jy _ _) SV
 rw[jF,LI] at Ι;rw[jF] at cu Ζ;obtain⟨⟨iz,e2⟩,_,_⟩:=zF ⟨df,bE⟩ ⟨cu,Ζ⟩;obtain⟨r8,SX⟩:=bG (eG .i64 o0 h9);rw[SX] at iz e2;have ax:=Kr d5 SW [0,4,8,r8] η η;obtain⟨jz,dI⟩:=bG (([0,4,8,r8]:List Int).getD (ry d5 [0,4,8,r8]) 0);have x0:0<=jz/\jz<=63:=by
  rw[<-dI]
  match ry d5 [0,4,8,r8] with
  | 0=>simp
  | 1=>simp
  | 2=>simp
  | 3=>simp;omega
  | n+4=>simp
 obtain⟨d6,LJ⟩:=bG (d5.after ((([0,4,8,r8]:List Int).length:Int)-1));have SY:d6.bg.length<2 ^ 63:=by rw[<-LJ];exact Nat.lt_of_le_of_lt (jy _ _) SW
 rw[dI,LJ] at ax;clear lg uw ph LH jF LI dI LJ;(repeat apply ae);refine dj (A:=[9]) Φ λΚ κ=>?_;simp;(repeat (rw[ah];simp[vV.symm,g4]));refine dU.g (γ) (bp ?_);refine dU.g (ο) (bp ?_);refine dU.g (Ι) (gh SX ?_);refine dU.c ax 0 rfl (.cons .ex .nil) η η ?_;simp;(repeat (rw[ah];simp));apply κ;have gR:c<s.cells.length:=J;have b3:=a6 gR;obtain⟨l0,yy⟩:=aF (s.cells[c]);have ot:∀h,s.cells[c]'h=l0:=λh=>yy.symm;rw[<-yy] at b3;have hC:=ξ.cells l0 (cy b3);rw[<-vV] at hC;have mΖ:=hC.hi;have vY:(gz 4 s.cells).length=nc:=by rw[zM,kD]
 have j6:(ho s.cells).length=nc:=by rw[zN,kD]
 have vZ:(gz 4 s.cells)[c]?=some (.ms (c+4) l0.length 0 l0.length):=by rw[SI,b3,Nat.add_comm];rfl
 have LK:(ho s.cells)[c]?=some (.cells 28 3 (l0.map dX)):=by rw[SJ,b3];rfl
 have GG:∀dp:List cZ,(gz 4 s.cells).set c (.ms (c+4) dp.length 0 dp.length)=gz 4 (s.cells.set c dp):=λdp=>by rw[iε,Nat.add_comm 4 c]
 have GH:∀dp:List cZ,(ho s.cells).set c (.cells 28 3 (dp.map dX))=ho (s.cells.set c dp):=λdp=>by rw[iζ]
 obtain⟨M,db⟩:=aF (gz 4 s.cells);obtain⟨R,aM⟩:=aF (ho s.cells);rw[<-db] at vY vZ GG ⊢;rw[<-aM] at j6 LK GH ⊢;clear db aM;obtain⟨iΓ,SZ⟩:=aF ([aY s.ar,aX s.az,bO s.cells]);refine W.to (σ':=b4 d6::.dead::.dead::.cells 60 1 M::(R++[Y,.cells 28 3 [.a3 [I na,I jz,I 0]]])) (env':=[(3,.ak 0 1 0 0),(4,.au iΓ),(7,I c),(8,.ak (nc+4) 1 0 0),(9,.ak (nc+5) 1 0 0)]) ?_ η (by simp[SZ,j6]);have iΔ:∀z:Row,(R++[Y,z])[nc]?=some (ez (aY s.ar) (aX s.az) (.ms 3 nc 0 nc)):=λz=>by rw[gA J,j6,Nat.sub_self,qm];rfl
 have S0:∀z:Row,(R++[Y,z])[nc+1]?=some z:=λz=>by rw[gA J,j6,show nc+1-nc=1 by omega];rfl
 have iΕ:∀z LL:Row,(R++[Y,z]).set (nc+1) LL=R++[Y,LL]:=λz LL=>by rw[List.set_append_right _ _ J,j6,show nc+1-nc=1 by omega];rfl
 rw[SZ];refine Η ?_;refine W.iter (λq:Nat×Int=>q.1<=l0.length/\((q.2=-1/\∀(j:Nat) (x:cZ),j<q.1->l0[j]?=some x->x.cd≠na)\/∃(j:Nat) (x:cZ),q.2=j/\l0[j]?=some x/\x.cd=na))
  (λq=>[(3,.ak 0 1 0 0),(4,.au [aY s.ar,aX s.az,bO s.cells]),(7,I c),(8,.ak (nc+4) 1 0 0),(9,.ak (nc+5) 1 0 0),(10,I q.2),(11,I q.1)]) (λ_=>b4 d6::.dead::.dead::.cells 60 1 M::(R++[Y,.cells 28 3 [.a3 [I na,I jz,I 0]]])) (λq=>l0.length-q.1) (0,-1) ⟨Nat.zero_le _,.inl ⟨rfl,λj x h=>by simp only at h;omega⟩⟩ rfl η (λq Χ Α=>?_)
 obtain⟨i,iΖ⟩:=q;obtain⟨iΗ,dq⟩:=Χ;simp only at iΗ dq;(repeat (first|apply ae|(refine dt λΚ κ=>?_;simp;(repeat (rw[ah];simp[kD.symm,b3,ot,ε]));apply κ)));by_cases hi:i<l0.length
 ·refine aC (by simp[hi]) ?_;have g5:=a6 hi;obtain⟨q,Χ⟩:=aF (l0[i]);have iΘ:∀h,l0[i]'h=q:=λh=>Χ.symm;rw[<-Χ] at g5;have gT:=hn (i:=i) J;refine Η ?_;refine W.draw (A:=[]) Φ mixed λΚ κ=>?_;simp;(repeat (rw[cY];simp[kD.symm,b3,ot,ε,g5,iΘ,hi,S0]));try rw[cX];refine en (κ _ _ ?_)
  by_cases e:q.cd=na
  ·refine aC (by simp[e]) ?_;refine aE gT ?_;exact W.to (Α (i+1,i) ⟨by simp only;omega,.inr ⟨i,q,rfl,g5,e⟩⟩ (by simp only;omega)) rfl (by simp[gT])
  ·refine ay (by simp[e]) ?_;refine aE gT ?_;refine W.to (Α (i+1,iΖ) ⟨by simp only;omega,?_⟩ (by simp only;omega)) rfl (by simp[gT]);rcases dq with⟨bI,bw⟩|u
   ·refine .inl ⟨bI,λj x ζ δ=>?_⟩;simp only at ζ;by_cases k0:j=i
    ·subst k0;rw[g5] at δ;cases δ;exact e
    ·exact bw j x J δ
   ·exact .inr u
 refine ay (by simp[hi]) ?_;refine W.exit rfl ?_;have iΙ:i=l0.length:=J;subst iΙ;clear Α hi;refine Η ?_;have Ν:∀(T:ac) (k:Nat),(R++T)[nc+k]?=T[k]?:=λT k=>by rw[gA J,j6,show nc+k-nc=k by omega]
 have CG:∀(T:ac),(R++T)[nc]?=T[0]?:=λT=>Ν T 0
 have oM:∀(T:ac) (k:Nat) (z:Row),(R++T).set (nc+k) z=R++T.set k z:=λT k z=>by rw[List.set_append_right _ _ J,j6,show nc+k-nc=k by omega]
 have GI:∀(T:ac),(R++T)[c]?=some (.cells 28 3 (l0.map dX)):=λT=>by rw[dM J,LK]
 have LM:∀(T:ac) (w:Row),(R++T).set c w=R.set c w++T:=λT w=>List.set_append_left _ _ J
 have LN:∀(T:ac) (w:Row) (k:Nat),(R.set c w++T)[nc+k]?=T[k]?:=λT w k=>by rw[gA (by rw[List.length_set];omega),List.length_set,j6,show nc+k-nc=k by omega]
 have S1:∀(T:ac) (w:Row),(R.set c w++T)[nc]?=T[0]?:=λT w=>LN T w 0
 have S2:∀(T:ac) (w:Row),(R.set c w++T)[c]?=some w:=λT w=>by rw[dM (by rw[List.length_set];omega),List.getElem?_set_self J]
 have GJ:∀h,M[c]'h=.ms (c+4) l0.length 0 l0.length:=λh=>by rw[a6 h] at vZ;exact Option.some.inj vZ
 have bf:=qq d6 SY 63;obtain⟨f0,f1⟩:=pA d6 63 br br;obtain⟨lC,qn⟩:=bG (hN d6 63);obtain⟨d7,LO⟩:=bG (d6.after 63);have S3:d7.bg.length<2 ^ 63:=by rw[<-LO];exact Nat.lt_of_le_of_lt (jy _ _) SY
 rw[qn,LO] at bf;rw[qn] at f0 f1;clear qn LO;refine W.iφ (ι:=List cZ×cJ×ac) (λq=>oK iL q.1/\q.2.1.bg.length<2 ^ 63/\∀p r,q.1.all (s.kH p r)=true->l0.all (s.kH p r)=true)
  (λq=>[(4,.au [aY s.ar,aX s.az,bO s.cells]),(7,I c),(8,.ak (nc+4) 1 0 0)]) (λq=>b4 q.2.1::.dead::.dead::.cells 60 1 (gz 4 (s.cells.set c q.1))::(ho (s.cells.set c q.1)++Y::q.2.2)) ?_ (λq Χ=>?_)
 ·rcases dq with⟨bI,bw⟩|⟨j,q,bI,bw,Ce⟩
  ·subst bI;refine aC η ?_;obtain⟨cN,aa⟩:0<=eP .i64 lC jz/\eP .i64 lC jz<=63:=(zF ⟨f0,f1⟩ x0).2.1;have ai:=(zF ⟨f0,f1⟩ x0).2.2;obtain⟨qB,oj⟩:=bG (eP .i64 lC jz);rw[oj] at cN aa ai;have r6:=iχ hC J (p:=⟨na,jz,qB⟩) ⟨qv,by show na<iL;omega⟩ x0 ⟨cN,aa⟩ ai (λq Χ=>by
    obtain⟨j,ζ,rfl⟩:=List.getElem_of_mem Χ;exact bw j _ ζ (a6 ζ))
   have sR:=GG (l0++[⟨na,jz,qB⟩])
   have s5:=GH (l0++[⟨na,jz,qB⟩])
   repeat apply ae
   refine W.Gc (A:=[]) Φ mixed [(3,.ak 0 1 0 0),(4,.au [aY s.ar,aX s.az,bO s.cells]),(7,I c),(8,.ak (nc+4) 1 0 0),(9,.ak (nc+5) 1 0 0)] (b4 d7::.dead::.dead::.cells 60 1 M::(R++[Y,.cells 28 3 [.a3 [I na,I jz,I qB]]])) ?_ (by
    simp;(repeat (rw[m8];simp[Ν,oM]));(try rw[m7]);refine dU.e bf (b2.refl _) η η ?_;simp[Ν,oM,oj];(repeat (rw[m8];simp[Ν,oM,oj]));(try rw[m7]);refine⟨hX (by kernel_rfl),hX (by kernel_rfl),?_⟩;simp)
   repeat apply ae
   refine W.SF [0,1,3,4,6,7] [10] [3,nc+4] (A:=[104]) Φ mixed λΚ κ=>?_;simp[Ν,CG,qm]
   repeat (rw[SA];simp[Sy,seen,rI,Ν,CG,LN,S1,GI,LM,S2,vY,vZ,GJ,qm,ε])
   try rw[Sz]
   refine⟨J,II (by kernel_rfl),κ _ _ ?_⟩;refine W.stop ⟨rfl,(l0++[⟨na,jz,qB⟩],d7,[.cells 28 3 [.a3 [I na,I jz,I qB]]]),⟨r6,S3,λp r h=>?_⟩,?_,η⟩
   ·simp only[List.all_append,Bool.and_eq_true] at h;exact h.1
   ·simp only;rw[<-sR,<-s5,qm];simp[dX]
  ·subst bI;refine ay η ?_;have ζ:j<l0.length:=(b0.1 bw).1;have aI:∀h,l0[j]'h=q:=λh=>by rw[a6 h] at bw;exact Option.some.inj bw
   obtain⟨rX,mB,uQ,yG⟩:=hC.each q (cy bw);obtain⟨r1,r2,r3,iM,uE⟩:=iπ mB uQ x0 ⟨f0,f1⟩ yG;have g3:=iω ξ bw ⟨mB,uQ⟩ r3 iM;have r6:=iψ hC bw (p:=⟨q.cd,fB .i64 q.seen (eP .i64 jz q.bare),fB .i64 q.bare (eP .i64 lC (fB .i64 q.seen (eP .i64 jz q.bare)))⟩) rfl r1 r2 uE;clear r1 r2 r3 iM uE;obtain⟨u,hu⟩:=bG (eP .i64 jz q.bare);rw[hu] at g3 r6;obtain⟨s2,de⟩:=bG (fB .i64 q.seen u);rw[de] at g3 r6;obtain⟨v,hv⟩:=bG (eP .i64 lC s2);rw[hv] at g3 r6;obtain⟨c6,gb⟩:=bG (fB .i64 q.bare v);rw[gb] at g3 r6;have sR:=GG (l0.set j ⟨q.cd,s2,c6⟩);have s5:=GH (l0.set j ⟨q.cd,s2,c6⟩);rw[List.length_set] at sR;have iΚ:M.set c (.ms (c+4) l0.length 0 l0.length)=M:=List.ext_getElem? λk=>by
    by_cases e:c=k
    ·subst e;rw[List.getElem?_set_self J,vZ]
    ·rw[List.getElem?_set_ne e]
   rw[iΚ] at sR;refine da ?_;refine dj (A:=[12]) Φ λΚ κ=>gh (ς Ν (ς CG (ς vY (ς vZ (ς GJ (ς GI (ς qm (ς ε (ς ζ (ς aI bw)))))))))) ?_;apply κ;refine W.to (σ':=b4 d6::.dead::.dead::.cells 60 1 M::(R++[Y,.cells 28 3 [.a3 [I na,I jz,I 0]],.cells 28 3 [.a3 [I q.cd,I q.seen,I q.bare]]])) (env':=[(3,.ak 0 1 0 0),(4,.au [aY s.ar,aX s.az,bO s.cells]),(7,I c),(8,.ak (nc+4) 1 0 0),(9,.ak (nc+5) 1 0 0),(10,I j),(12,.ak (nc+6) 1 0 0)]) ?_ (by rw[qm];try simp[dX]) (by simp[j6])
   repeat apply ae
   refine W.gX (A:=[]) Φ [(3,.ak 0 1 0 0),(4,.au [aY s.ar,aX s.az,bO s.cells]),(7,I c),(8,.ak (nc+4) 1 0 0),(9,.ak (nc+5) 1 0 0),(10,I j),(12,.ak (nc+6) 1 0 0)] (b4 d6::.dead::.dead::.cells 60 1 M::(R++[Y,.cells 28 3 [.a3 [I na,I jz,I 0]],.cells 28 3 [.a3 [I q.cd,I s2,I q.bare]]])) ?_ (by
    (try simp);(repeat (rw[ah];simp[Ν,oM,hu,de]));(try simp[Ν,oM,hu,de]))
   repeat apply ae
   refine W.Gc (A:=[]) Φ mixed [(3,.ak 0 1 0 0),(4,.au [aY s.ar,aX s.az,bO s.cells]),(7,I c),(8,.ak (nc+4) 1 0 0),(9,.ak (nc+5) 1 0 0),(10,I j),(12,.ak (nc+6) 1 0 0)] (b4 d7::.dead::.dead::.cells 60 1 M::(R++[Y,.cells 28 3 [.a3 [I na,I jz,I 0]],.cells 28 3 [.a3 [I q.cd,I s2,I c6]]])) ?_ (by
    simp;(repeat (rw[m8];simp[Ν,oM]));(try rw[m7]);refine dU.e bf (b2.refl _) η η ?_;simp[Ν,oM,hv,gb];(repeat (rw[m8];simp[Ν,oM,hv,gb]));(try rw[m7]);refine⟨hX (by kernel_rfl),hX (by kernel_rfl),?_⟩;simp)
   refine Η ?_;refine dH (ς Ν (ς CG (ς oM (ς vY (ς vZ (ς GJ (ς GI (ς LM (ς qm (ς ε ζ)))))))))) ?_;refine W.stop ⟨rfl,(l0.set j ⟨q.cd,s2,c6⟩,d7,[.cells 28 3 [.a3 [I na,I jz,I 0]],.cells 28 3 [.a3 [I q.cd,I s2,I c6]]]),⟨r6,S3,g3⟩,?_,η⟩;simp only;rw[<-sR,<-s5,qm,List.map_set]
   try simp[dX]
 obtain⟨dp,D,Cc⟩:=q;obtain⟨k1,bT,k9⟩:=Χ;simp only at k1 bT k9 ⊢;have uB:=iμ ξ (c:=c) (vV▸k1);have GK:=iν b3 k9;obtain⟨L,ad⟩:=aF (s.cells.set c dp);have kM:L.length=nc:=by rw[ad,List.length_set,kD]
 rw[<-ad];have S4:(ho L).length=nc:=by rw[zN,kM]
 have S5:(ho L++Y::Cc)[nc]?=some (ez (aY s.ar) (aX s.az) (.ms 3 nc 0 nc)):=by rw[gA J,S4,Nat.sub_self,qm];rfl
 refine W.cut 1 (Nat.zero_le _) [(4,.au [aY s.ar,aX s.az,bO s.cells]),(7,I c),(8,.au [aY s.ar,aX s.az,bO L])] η (λid r cb μ=>by
  obtain rfl:id=0:=J;simp at μ;subst μ;exact vL D _) (λq Χ=>by
  simp only[List.mem_cons,List.not_mem_nil,or_false] at Χ;rcases Χ with rfl|rfl|rfl
  ·exact .low (by simp[θ.cells,g7])
  ·exact .low η
  ·refine eK.struct (id:=nc+4) (t:=26) (k:=3) (l:=[aY s.ar,aX s.az,.ms 3 nc 0 nc]) J (by simp[S5]) rfl (λy a cj U γ=>?_)
   match y with
   | 0=>simp at U γ;subst U;subst γ;exact .low (by simp[θ.cells,g7])
   | 1=>simp at U γ;subst U;subst γ;exact .low (by simp[θ.cells,g7])
   | 2=>
    simp at U γ;subst U;subst γ;have:=iη (h:=1) (b:=4) (id:=3) (σ:=b4 D::.dead::.dead::.cells 60 1 (gz 4 L)::(ho L++Y::Cc)) (L:=L) br br (λj l ζ=>by
     have fe:j<(ho L).length:=by rw[zN];exact(b0.1 ζ).1
     rw[show 4+j=j+4 by omega];simp only[List.getElem?_cons_succ];rw[dM fe,SJ,ζ];rfl) rfl
    rw[kM] at this;exact this
   | y+3=>simp at U) ?_
 obtain⟨X,jR⟩:=aF (s.put c dp);have S6:[aY s.ar,aX s.az,bO L]=[aY X.ar,aX X.az,bO X.cells]:=by rw[jR,ad];rfl
 have xZ:c<X.cells.length:=by rw[jR];show c<(s.cells.set c dp).length;rw[List.length_set];omega
 have iΜ:X.ar.length<=4:=by rw[jR];exact SQ
 rw[S6];rw[<-jR] at uB GK;clear S6 S5 S4 kM ad jR k1 k9 Ν CG oM GI LM LN S1 S2 GJ vY j6 vZ LK GG GH iΔ S0 iΕ dq bf;have iΝ:=ξ.err;have iΞ:=uB.err;have oM:=R0 ξ;have LP:=R0 uB;have xy:=ON s qJ (cf s) oM (R1 ξ) (by rw[Cv];have:=R3 ξ 3;omega);have GL:=ON X uB.small (cf X) LP (R1 uB) (by rw[Cv];have:=R3 uB 3;omega);have ys:=I9 s qJ (cf s) oM (by have:=xW s;omega);have k2:=I9 X uB.small (cf X) LP (by have:=xW X;omega);rw[iΝ] at xy ys;rw[iΞ] at GL k2;simp only[if_true] at xy GL ys k2;have ny:=SO ξ gR oM;have oy:=SO uB xZ LP;rw[SN ξ gR,if_neg eI] at ny;have hle:=GK.count;have mΗ:(hr (cf s)).length<=3:=by simpa[hr] using xW s
 have mΘ:(hr (cf X)).length<=3:=by simpa[hr] using xW X
 have iΟ:∀y∈hr (cf X),(hr (cf s)).contains y=true:=λy Μ=>List.contains_iff_mem.2 (GK.inks Μ)
 have iΡ:∀y∈hr (cf s),y.length<2 ^ 62:=λy Μ=>by
  obtain⟨f,_,rfl⟩:=List.mem_map.1 Μ;simp
 obtain⟨n4,Ε,iΤ,hR,mΙ,iΥ⟩:∃n4 Ε,uA X (cf X) c=(n4,Ε)/\((fR (cf X)=0/\Ε=9)\/(0<fR (cf X)/\Ε=0))/\n4.length<=25/\∀r∈n4,r∈m9 (cf s) c:=by
  rw[SN uB xZ];by_cases q:cf X=[]
  ·rw[if_pos q];exact⟨_,_,rfl,.inl ⟨(SL X).1 q,rfl⟩,η,η⟩
  ·rw[if_neg q];exact⟨_,_,rfl,.inr ⟨Nat.pos_of_ne_zero λh=>q ((SL X).2 h),rfl⟩,SK xZ iΜ,λr μ=>GK.readings μ⟩
 rw[iΤ] at oy;have Fe:(m9 (cf s) c).length<=25:=SK gR SQ;simp only at ny oy;generalize fR (cf s)=S7 at xy hle;generalize fR (cf X)=mH at GL hle hR;generalize hr (cf s)=S8 at *;generalize hr (cf X)=jJ at *;generalize m9 (cf s) c=GM at *;refine bc λΚ κ=>?_;refine aB.d (xy) (bp ?_);apply κ;refine bc λΚ κ=>?_;refine aB.d (GL) (bp ?_);apply κ;refine bc λΚ κ=>?_;refine aB.d (ys) (bp ?_);apply κ;refine bc λΚ κ=>?_;refine aB.d (k2) (bp ?_);apply κ;have aa:¬(S7:Int)<(mH:Int):=J;have ai:¬(3:Int)<(jJ.length:Int):=J;have iΦ:¬S7<mH:=J;have iΧ:¬3<jJ.length:=J;refine aE (ς @aa (ς ai (ς iΦ iΧ))) ?_;refine ay η ?_;refine Η ?_;obtain⟨iΨ,S9⟩:=aF ([aY s.ar,aX s.az,bO s.cells]);obtain⟨iΩ,S'⟩:=aF ([aY X.ar,aX X.az,bO X.cells]);rw[<-S9,<-S'];refine W.iter (λi:Nat=>i<=jJ.length) (λi=>[(4,.au iΨ),(7,I c),(8,.au iΩ),(15,I mH),(17,aX S8),(19,aX jJ),(21,I i)]) (λ_=>[b4 D]) (λi=>jJ.length-i) 0 (Nat.zero_le _) rfl η (λi hi Α=>?_);by_cases CH:i<jJ.length
 ·have lh:(i:Int)<(jJ.length:Int):=J
  have gT:=hn (i:=i) J
  have AO:=a6 CH
  have l4:=List.getElem_mem CH;obtain⟨y,Μ⟩:=aF (jJ[i]);have jα:∀h,jJ[i]'h=y:=λh=>Μ.symm;rw[<-Μ] at AO l4;have bd:=QX S8 y J iΡ;rw[iΟ y l4] at bd;refine aE lh ?_;refine aC (by simp[CH]) ?_;refine g9 (ς AO (ς jα CH)) λΚ κ=>?_;refine aB.d (bd) (bp ?_);apply κ;refine ay η ?_;refine aE gT ?_;exact W.to (Α (i+1) J J) rfl (by simp[gT])
 have lh:¬(i:Int)<(jJ.length:Int):=J;refine aE lh ?_;refine ay (by simp[CH]) ?_;refine W.exit rfl ?_;clear Α;rw[S9,S'];refine bc λΚ κ=>?_;refine aB.d (ny) (bp ?_);apply κ;refine bc λΚ κ=>?_;refine aB.d (oy) (bp ?_);apply κ;have aZ:¬(100:Int)<(n4.length:Int):=J;have GN:¬100<n4.length:=J
 repeat apply ae
 refine W.gX (A:=[]) Φ [(230,ba false),(22,vX GM),(24,vX n4)] [b4 D] ?_ (by
  rcases hR with⟨bI,bw⟩|⟨bI,bw⟩
  ·subst bI;subst bw;(try simp);(repeat (rw[ah];simp[aZ,GN]));(try simp[aZ,GN])
  ·subst bw;have Ta:¬mH=0:=J;(try simp);(repeat (rw[ah];simp[aZ,GN,bI,Ta]));(try simp[aZ,GN,bI,Ta]))
 refine ay rfl ?_;refine Η ?_;refine W.iter (λi:Nat=>i<=n4.length) (λi=>[(22,vX GM),(24,vX n4),(26,I i)]) (λ_=>[b4 D]) (λi=>n4.length-i) 0 (Nat.zero_le _) rfl η (λi hi Α=>?_);by_cases hA:i<n4.length
 ·have lh:(i:Int)<(n4.length:Int):=J
  have gT:=hn (i:=i) J
  have Tb:=a6 hA
  have l4:=List.getElem_mem hA;obtain⟨r,μ⟩:=aF (n4[i]);have jβ:∀h,n4[i]'h=r:=λh=>μ.symm;rw[<-μ] at Tb l4;have bd:=QX (GM.map λx=>[x.1,x.2]) [r.1,r.2] (by rw[List.length_map];omega) (λy Μ=>by
   obtain⟨x,_,rfl⟩:=List.mem_map.1 Μ;simp)
  rw[iυ (iΥ r l4)] at bd;refine aE lh ?_;refine aC (by simp[hA]) ?_;refine g9 (ς Tb (ς jβ hA)) λΚ κ=>?_;refine aB.c bd (.cons (iτ GM) (.cons .ex .nil)) (by simp[g7,θ.cells]) η ?_;simp;(repeat (rw[ah];simp));apply κ;refine ay η ?_;refine aE gT ?_;exact W.to (Α (i+1) J J) rfl (by simp[gT])
 have lh:¬(i:Int)<(n4.length:Int):=J;refine aE lh ?_;refine ay (by simp[hA]) ?_;refine W.exit rfl ?_;refine bc λΚ κ=>?_;refine aB.d (QV) (bp ?_);apply κ;exact W.stop ⟨⟨_,rfl⟩,rfl⟩
open Tryz
theorem jγ:(laidOutB prog)=true:=by kernel_rfl
theorem jδ:(mapsRowed prog)=true:=by kernel_rfl
theorem jε:((prog.stops==[]))=true:=by kernel_rfl
theorem jζ:((prog.stopKnobs==[]))=true:=by kernel_rfl
theorem jη:(prog.stopsHeard)=true:=by kernel_rfl
theorem jθ:(prog.mayEnter)=true:=by kernel_rfl
theorem jι:(lightMoreRow.wf (OpenSpec.ofChange lightMoreSpec))=true:=by kernel_rfl
theorem jκ:(f13.params.all (prog.readableRec ·))=true:=by kernel_rfl
theorem jμ:(namedTie prog lightMoreRow.named lightMoreSpec.vars)=true:=by kernel_rfl
theorem jν:((lightMoreRow.stops==[]))=true:=by kernel_rfl
theorem jξ:((lightMoreRow.knobs==[]))=true:=by kernel_rfl
theorem jο:((lightMoreRow.inPlace==prog.inPlace 13))=true:=by kernel_rfl
theorem jπ:((lightMoreRow.unfollowed==prog.unfollowed 13))=true:=by kernel_rfl
theorem jρ:((lightMoreRow.recurses==prog.recurses 13))=true:=by kernel_rfl
theorem jς:((lightMoreRow.named==prog.varsNamed 13))=true:=by kernel_rfl
theorem jτ:((lightMoreRow.maps==(f13.params.toList++lightMoreSpec.plain.varTypes prog).any (prog.mapsRec ·)))=true:=by kernel_rfl
theorem jυ:((lightMoreRow.ifaces==(f13.params.toList++lightMoreSpec.plain.varTypes prog).any (prog.ifacesRec ·)))=true:=by kernel_rfl
theorem jφ:((lightMoreRow.mapsOut==prog.mapsAmong f13.resultTypes.toList))=true:=by kernel_rfl
theorem jχ:((lightMoreRow.loops==(f13.params.toList++lightMoreSpec.plain.varTypes prog).any (prog.loopsFrom ·)))=true:=by kernel_rfl
theorem jψ:((lightMoreRow.wideKeys==(f13.params.toList++lightMoreSpec.plain.varTypes prog++f13.resultTypes.toList).any (prog.wideKeysFrom ·)))=true:=by kernel_rfl
theorem jω:(lightMoreSpec.vars.all (prog.varReadable ·))=true:=by kernel_rfl
theorem jΑ:(f13.resultTypes.all (λt=>prog.readableRec t&&decide (t<prog.types.size)))=true:=by kernel_rfl
theorem jΒ:((lightMoreRow.ifacesOut==f13.resultTypes.toList.any (prog.ifacesRec ·)))=true:=by kernel_rfl
theorem jΓ:((lightMoreRow.loopsOut==f13.resultTypes.toList.any (prog.loopsFrom ·)))=true:=by kernel_rfl
theorem jΔ:((lightMoreRow.plainKeys==prog.plainKeys))=true:=by kernel_rfl
theorem jΕ:(lightMoreRow.shortTexts.isNone)=true:=by kernel_rfl
theorem jΖ:((lightMoreRow.lifted==prog.liftsFinal))=true:=by kernel_rfl
theorem jΗ:((prog.make==some lightMoreRow.make))=true:=by kernel_rfl
theorem jΘ:((lightMoreRow.kinds==(if lightMoreRow.domain.isEmpty then [] else f13.params.toList.map λt=>match prog.underlying t with|some (.int k)=>some k|_=>none)))=true:=by kernel_rfl
theorem jΙ:((lightMoreRow.pinned==lightMoreRow.pinnedBy))=true:=by kernel_rfl
theorem jΚ:((lightMoreRow.veiled==(f13.params.toList++lightMoreSpec.plain.varTypes prog++f13.resultTypes.toList).any (prog.veiledRec ·)))=true:=by kernel_rfl
theorem jΜ:(lightMoreRow.veiledFits prog f13.params.toList (f13.params.toList++lightMoreSpec.plain.varTypes prog++f13.resultTypes.toList))=true:=by kernel_rfl
theorem jΝ:joinedFacts prog 13 f13 lightMoreSpec lightMoreRow=true:=by
 unfold joinedFacts;simp only[Bool.and_eq_true];exact⟨⟨⟨⟨⟨⟨⟨⟨⟨⟨⟨⟨⟨⟨⟨⟨⟨⟨⟨⟨⟨⟨⟨⟨⟨⟨⟨⟨⟨⟨⟨jι,jγ⟩,jδ⟩,jκ⟩,jμ⟩,jν⟩,jε⟩,jξ⟩,jζ⟩,jο⟩,jπ⟩,jρ⟩,jς⟩,jτ⟩,jυ⟩,jφ⟩,jχ⟩,jψ⟩,jω⟩,jΑ⟩,jΒ⟩,jΓ⟩,jΔ⟩,jΕ⟩,jη⟩,jθ⟩,jΖ⟩,jΗ⟩,jΘ⟩,jΙ⟩,jΚ⟩,jΜ⟩
end Go.TL
namespace Go.TL
open Go.Proofs.YtlabjopijpkiaaaGreat.Rows
open Go.Conc Go.ConcM Go.Proofs
open Go.ChangeShapes Go.WideShapes Go.ChangeAt Go.RowKit
set_option maxRecDepth 100000 in
theorem jΞ (hW:∀(W:World) (l:List Int) (v:Value),l.length<2 ^ 63->aA (rA W) [] [] (bD I 1 l) v->Comes Tryz.prog (λv=>v=.bool true) W (solo (Go.Conc.G (Frame.enter Tryz.prog 13 #[v] .normal) []) W) #[])
  (os:Os) (started:os.Started) (H:Type) (enc:TypeId×Value->H) (F:Stop.Interp) :
  ReturnsInLeavingWide lightMoreRow.assume Tryz.checked os 13 .any (lightMoreSpec.pre6 enc Tryz.prog Tryz.f13 lightMoreRow.domain lightMoreRow.apart)
   ((OpenSpec.ofChange lightMoreSpec).postWith enc Tryz.prog Tryz.f13 F (outsideKept [.timePasses]) lightMoreRow.apart lightMoreRow.fresh lightMoreRow.handsOn):=by
 refine returnsInLeavingWide_of_change_time (C:=Tryz.checked) eΟ started Tryz.func13
  (ChangeSpec.witness6c (enc:=enc) (C:=Tryz.checked) ⟨#[],#[.slice none 0 0],[]⟩ 8 (by kernel_rfl) (by kernel_rfl) (by kernel_rfl) (by kernel_rfl)) ?_
 intro W base args ds gs before jΟ Tc _ _ _;have F0:∀(j:Nat) t v,Tryz.f13.params[j]?=some t->args[j]?=some v->Value.okWide Tryz.prog W .any base t v:=jΟ;have Td:=Tc;obtain⟨p,q,jΡ,pN,rfl,Nb,lF⟩:=Tc;have bY:DataW.TrodAll enc Tryz.prog W 0 (λ_=>true) true Tryz.f13.params.toList args.toList ds p:=jΡ;rw[Tryz.params13] at bY F0;obtain⟨v0,d0,rfl,rfl,ao⟩:=trodAll_one bY;obtain⟨rfl,rfl⟩:=trodVars_none pN;have aN:∀x∈p,x.block<W.heap.size:=λx δ=>by simpa using Td.lt x (List.mem_append_left _ δ)
 have nD:∀(LQ:World),Below W.heap.size W LQ->DataW.Trod enc Tryz.prog LQ 0 (λb=>decide (b<W.heap.size)) true 29 v0 d0 p:=
  λLQ Θ=>Below.trod eΡ (by kernel_rfl) (of_decide_eq_true (by kernel_rfl)) ao Θ aN
 obtain⟨l,π,D2⟩:∃l:List Int,l.length<2 ^ 63/\aA (rA W) [] [] (bD I 1 l) v0:=by
  obtain⟨qv,len,cap,rfl⟩:=okWide_slice Tryz.underlying29 (F0 0 29 v0 rfl rfl);obtain⟨mΚ,Ρ⟩:=ao;rcases open_ints Tryz.underlying29 Tryz.underlying3 eΤ Ρ with⟨gR,δ⟩|⟨a,mΜ,HS,gG,gR,_,π,hm,Ψ,δ,y2,mΝ⟩
  ·simp[Value.cells] at gR;obtain⟨rfl,rfl,rfl⟩:=gR;exact⟨[],br,.iT _ _ η⟩
  ·simp[Value.cells] at gR;obtain⟨rfl,rfl,rfl⟩:=gR;simp only[if_true] at Ψ;refine⟨gG.take len,?_,eΦ π J y2⟩;rw[List.length_take];unfold maxLen at hm;omega
 obtain⟨M,last,o,w',t',r1,r2,r3,v,e,ω,aa,ai,aZ,cn⟩:=hW W l v0 π D2;refine⟨M,last,o,w',t',r1,r2,r3,v,e,⟨?_,ω.2.os⟩,aa,ai,aZ,cn⟩;obtain⟨rfl,ψ⟩:=ω;exact⟨_,_,_,[],_,[],Td,trodAll_mk1 (shut_bool Tryz.underlying4 _),trodAll_mk1 (nD _ ψ.below),rfl,ψ.below.frame _,λh=>by cases h⟩
theorem jΤ (W:World) (l:List Int) (v:Value) (π:l.length<2 ^ 63) (μ:aA (rA W) [] [] (bD I 1 l) v):Comes Tryz.prog (λv=>v=.bool true) W (solo (Go.Conc.G (Frame.enter Tryz.prog 13 #[v] .normal) []) W) #[]:=
 eΞ (d:=2) (l:=[bD I 1 l]) Tryz.func13 rfl (by kernel_rfl) (by kernel_rfl) ⟨rfl,λi a u U γ=>by
  match i with
  | 0=>simp at U γ;subst U;subst γ;exact μ
  | i+1=>simp at U⟩ (by rw[Tryz.ntmps13];simp) (iΒ l π)
end Go.TL
namespace Go.Proofs.YtlabjopijpkiaaaGreat
open Go.TL
theorem light_more:Rows.LightMoreSaid:=
 OpenClaim.holds_of_wide_leaving_time 13 Tryz.f13 rfl rfl rfl rfl rfl rfl rfl ⟨rfl,rfl,rfl,rfl,rfl⟩ rfl rfl rfl rfl rfl (by kernel_rfl) Tryz.func13 jΝ
  (of_decide_eq_true (by kernel_rfl)) (by unfold Func.isWrapper;first|(rw[if_pos (by decide +kernel)];kernel_rfl)|(rw[if_neg (by decide +kernel)];exact⟨rfl,rfl⟩))
  (λos started H enc _ F=>jΞ jΤ os started H enc F)
end Go.Proofs.YtlabjopijpkiaaaGreat
