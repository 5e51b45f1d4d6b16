import Derived.Conc.HoldsTime
import Derived.Test.YtlabjopijpkiaaaGreatDAF
import Derived.Test.YtlabjopijpkiaaaGreatDAK
import Derived.Test.YtlabjopijpkiaaaGreatDAL
import Derived.Test.YtlabjopijpkiaaaGreatDAN
import Derived.Test.YtlabjopijpkiaaaGreatDAR
import Derived.Test.YtlabjopijpkiaaaGreatDAS
import Derived.Test.YtlabjopijpkiaaaGreatDAY
import Derived.Test.YtlabjopijpkiaaaGreatRows
set_option maxHeartbeats 16000000
set_option maxRecDepth 20000
set_option linter.unusedSectionVars false
set_option linter.unusedSimpArgs false
set_option linter.unusedVariables false
namespace Go.TL
open Go.Conc Go.Proofs
open Go.ConcN (sumTo upd sumTo_upd upd_ne upd_same sumTo_congr le_sumTo)
structure Calm (y:aW):Prop where
 rel:y.rel=false
 aG:y.aG=λ_=>none
 deaf:y.deaf=0
 shut:∀s,fQ (y.tok s)
def calm:gJ:=Calm
@[reducible] def n4:bj:=⟨λx=>x=calm⟩
variable [bj]
def sS (x y:Found):Int:=lK (x.u,x.v) (y.u,y.v)
def n5 (x y:Found):Prop:=x.u<y.u\/(x.u=y.u/\x.v<y.v)
theorem ZA (x y:Found):ar sS x y=true↔n5 x y:=by
 have h:=p6 (x.u,x.v) (y.u,y.v)
 have e:ar sS x y=ar lK (x.u,x.v) (y.u,y.v):=rfl;rw[e,h];simp[n5]
theorem ZB:Go.Sort.SWO (ar sS) where
 irrefl x:=vA.irrefl (x.u,x.v)
 trans x y z:=vA.trans (x.u,x.v) (y.u,y.v) (z.u,z.v)
 ntrans x y z:=vA.ntrans (x.u,x.v) (y.u,y.v) (z.u,z.v)
instance:Inhabited Found:=⟨⟨0,0,[]⟩⟩
theorem ZC {m:List Found} (h:m.Pairwise n5):∀a∈m,∀b∈m,¬n5 a b->¬n5 b a->a=b:=by
 induction h with
 | nil=>intro a κ;cases κ
 | cons I R ω=>
  intro a κ b hb ν Ι;rcases List.mem_cons.1 κ with kX|eo<;>rcases List.mem_cons.1 hb with jD|dF
  ·rw[kX,jD]
  ·exact absurd (kX▸I b dF) ν
  ·exact absurd (jD▸I a eo) Ι
  ·exact ω a eo b dF ν Ι
theorem ZD {l m:List Found} (ς:l.Perm m) (hm:m.Pairwise n5):(Go.Sort.insertionSort (ar sS) l.toArray 0 l.length).toList=m:=by
 obtain⟨⟨cC,_,IX⟩,R⟩:=Go.Sort.insertionSort_holds (lt:=ar sS) ZB l.toArray 0 l.length (Nat.zero_le _) η;generalize Go.Sort.insertionSort (ar sS) l.toArray 0 l.length=d at cC IX R;have Ge:d.size=l.length:=by simpa using cC
 have Γ:d.extract 0 l.length=d:=by rw[<-Ge];exact Array.extract_size
 have Θ:l.toArray.extract 0 l.length=l.toArray:=by
  simp
 rw[Γ,Θ] at IX;have O0:d.toList.Perm m:=IX.trans ς;have ZE:∀x y,ar sS x y=false↔¬n5 x y:=λx y=>by rw[<-ZA];simp
 refine List.Perm.eq_of_pairwise (le:=λx y=>¬n5 y x) (λa b κ hb ν Ι=>?_) ?_ (hm.imp λ{a b} h k=>?_) O0
 ·exact ZC hm a (O0.mem_iff.1 κ) b hb Ι ν
 ·rw[List.pairwise_iff_getElem];intro i j hi δ fZ;have:=R i j (Nat.zero_le _) fZ (by simpa[Ge] using δ);rw[ZE] at this;rw[getElem!_pos d j (by simpa using δ),getElem!_pos d i (by simpa using hi)] at this;simpa using this
 ·simp only[n5] at h k;omega
theorem ZF {D:Nat->π->Prop} (fz:∀k E,D k E->E=π.empty):∀(L:List Nat) (E:π),lu D L E->E=π.empty:=by
 intro L
 induction L with
 | nil=>intro E h;exact h
 | cons k Ki ω=>
  rintro E ⟨yz,yA,I,R,_,rfl⟩;rw[fz k yz I,ω yA R];exact FB _
end Go.TL
namespace Go.TL
open Go.Conc Go.Proofs
open Go.ConcN (sumTo upd sumTo_upd upd_ne upd_same sumTo_congr le_sumTo)
abbrev Er:θ:=.fn (.func 148) [] []
theorem ZG [bj] (x y:Found):eW Tryz.prog Er [dd x,dd y] (J (sS x y)):=λσ=>(Vy x y).c (b9.refl _) η η ⟨rfl,rfl⟩
section
variable {y:aW} {Q:Value->Prop} {mn:Bool} {β s m o:Nat} {eg bz:aD} {di H1:π} {fd:Nat->Option Found} {sp:Spec} {d':aL} {v:Option (Nat×aN)} {vs:Array Value} {c:Frame} {cs:List Frame}
theorem ZH (ε:lS y s sp) (fr:sp.aU=some m) (dy:sp.bb=vP β bz o fd) (fz:∀k E,sp.D k E->E=π.empty) (IY:∀L:List Nat,L.Nodup->(L.filterMap fd).length<=3) {k9:List Found} (IZ:(List.range 3).filterMap fd=k9) (I0:k9.Pairwise n5)
  (I1:∀v,Calm (bw y s (.par 3 0 .cq) v 0)) (hX:ts Tryz.prog Q mn calm c cs eg [] di [] (λa s=>cp a (cj k9)/\s=[]) (λ_ _=>False)) (vV:Ext eg [] di bz [] H1) (I2:di.fresh β) :
  V Tryz.prog Q mn (one (bw y s (.par 3 0 .add) v 0)) (Eo vs) (c::cs) 23 ⟨bz,[],H1,[],0⟩ [.code (dI [1,1,1,1,1] x2)] (env0 s m o d' []) []:=by
 letI:bj:=eP;have U:=ε.seq;refine V.eY (U _ _ _) rfl ?_;simp only[x2,Tryz.f116,Option.getD_some,dI];refine cI ?_;refine W.cn (.stop ?_);refine V.call (U _ _ _) ⟨rfl,rfl,by simp[Frame.enter],rfl⟩ rfl rfl rfl ⟨_,Tryz.func146,rfl,rfl⟩ λS B H t oZ κ ς hv=>?_;obtain rfl:=mD (l:=[ptr s 0]) hv;obtain rfl:B=[]:=dB.1 ς.holds.len;rintro lF rfl;refine Yg ε ς.holds (n:=3) λaz H' gb fx gH eK he χ K4 ZI ZJ c5 a1 a2 ck hw v2 cL bH oP=>?_;rw[ie rfl];obtain rfl:=ZF fz gb gH ZI;rw[FB] at oP;obtain⟨jB,O1⟩:=ZJ (by rw[fr];simp);rw[dy] at O1;obtain⟨hi,hx,rp,vR,e1⟩:=O1;obtain⟨w,f1,f2,f3⟩:=hw;obtain⟨G,dn⟩:=aO (fx.filterMap fd);have I3:G.Perm k9:=by rw[dn,<-IZ];exact jB.filterMap _
 have hε:G.length<=3:=by rw[dn];exact IY fx (jB.nodup_iff.2 List.nodup_range)
 rw[<-dn] at vR;obtain⟨Io,l1,l2⟩:=Oz χ vR a2 ⟨w,f1,f3⟩ (Ee _);have n6:=YM (vV.trans (κ.ext.trans he)) (κ.ext.trans he).dc I2 hi χ vR (Ee _);obtain⟨dh,c6⟩:=Io.pA (λb hb=>oP.pA hb) oP.grow;have kD:=n6.trans c6;have aB:t.getD 5 undef=ptr o 0:=by
  have:=ς.b5 5;simp only[bc] at this;generalize t.getD 5 undef=u at this;cases this;rfl
 have k0:cX (az.plus hx) rp (gD (G.map dd)) [(5,.an 0 1 0 0)] (t.setIfInBounds 19 (.tuple #[])):=λi=>by
  simp only[bc];split
  ·rename_i e;subst e;have eU:(t.setIfInBounds 19 (.tuple #[])).getD 5 undef=ptr o 0:=by
    rw[<-aB,Array.getD_eq_getD_getElem?,Array.getD_eq_getD_getElem?,Array.getElem?_setIfInBounds_ne a0]
   rw[eU];have:=au.an (S:=az.plus hx) (B:=rp) (σ:=gD (G.map dd)) (id:=0) (n:=1) (i:=0) (j:=0) (k:=1) (t:=99) (l:=[sK (G.map dd)]) (b:=o) (N:=1) (by simp[gD]) rfl e1;simpa using this
  ·exact .cg _
 refine V.here (x:=one _) (m:=0) (nt:=23) (S:=az.plus hx) (B:=rp) (σ:=gD (G.map dd)) (env:=[(5,.an 0 1 0 0)]) ?_ ⟨dh,k0,Eq.trans (Array.size_setIfInBounds ..) ς.size,Nat.zero_le _⟩ _ rfl;have fin:∀(e:Bool) (k:Nat),cp (.sl e k (k9.map dd)) (cj k9)->V Tryz.prog Q mn (one (bw y s (.par 3 0 .cq) v2 0)) (Eo vs) (c::cs) 23 ⟨az.plus hx,rp,bH,gD (G.map dd),0⟩ [.code .ret] [(2,.sl e k (k9.map dd))] []:=λe k ZK=>by
  intro gm gN fE t5 fN g9;obtain rfl:gN=[]:=dB.1 g9.holds.len;refine aE.ret (U _ _ _) rfl rfl (aE.back (U _ _ _) rfl rfl (.inl rfl) Tryz.func116 ?_);refine ξ.mono (λu H2 ⟨H0,ZL,lq,Bi,bn,E6⟩=>?_) (λ_ _ h=>h) _ (zv Ρ (a:=.sl e k (k9.map dd)) rfl g9.holds g9.b5);obtain rfl:ZL=[]:=dB.1 bn.len;rintro lF rfl;have D3:=kD.trans (fN.ext.trans lq);exact hX.ret _ [] H0 [] H2 u ⟨ZK,rfl⟩ D3 ⟨D3.dc,λid r h=>by simp at h⟩ bn E6 _ (I1 _)
 refine V.eY (U _ _ _) rfl ?_;refine W.bJ ?_;have oG:∀e∈G.map dd,∀a∈e.cells,aK 0 a:=λe he a κ=>by
  obtain⟨z,_,rfl⟩:=List.mem_map.1 he;exact xn z a κ
 by_cases Μ:G=[]
 ·subst Μ;have Es:k9=[]:=I3.symm.eq_nil;subst Es;refine cI ?_;refine cM λΔ ζ=>?_;simp;(repeat (rw[ae];simp[gD,Ik,jg]));refine Ω.c (Wf Er η) (b9.refl _) η η ?_;simp;(repeat (rw[ae];simp[]));apply ζ;refine a5 λΔ ζ=>?_;apply ζ;refine W.cut 0 (Nat.zero_le _) [(2,.sl true 0 [])] (Nat.zero_le _) (λid r h=>γ) (by simp;exact .low η) ?_;exact .stop (fin _ _ .nil)
 ·have jz:G.map dd≠[]:=by simpa using Μ
  have μ:=ZD I3 I0;refine cI ?_;refine cM λΔ ζ=>?_;simp;(repeat (rw[ae];simp[gD,Ed jz,fF jz]));have O2:=VG G.toArray G.length η γ Er sS η ZG;rw[μ] at O2;have hlen:k9.length=G.length:=I3.length_eq.symm;have bu:aK 0 Er:=η;have O3:∀e∈k9.map dd,∀a∈e.cells,aK 0 a:=λe he a κ=>by
   obtain⟨z,_,rfl⟩:=List.mem_map.1 he;exact xn z a κ
  refine ak.one O2 1 rfl oG O3 (by simp[jL,sg,bu.kh 1]) (by simp[fB]) (by simp[jM,nO,bu.dO [1]]) ?_;simp[dO,g5];(repeat (rw[ae];simp[]));apply ζ;refine a5 λΔ ζ=>?_;apply ζ;refine W.cut 0 (Nat.zero_le _) [(2,.sl false 3 (k9.map dd))] (Nat.zero_le _) (λid r h=>γ) (λp ς=>?_) ?_
  ·obtain rfl:p=(2,.sl false 3 (k9.map dd)):=by simpa using ς
   refine eE.own (id:=1) (t:=110) (Nat.zero_le _) rfl (by simp[hlen]) O3
  ·exact .stop (fin _ _ (.refl _))
end
theorem I4 {P:Program} {ty:TypeId} {z:Value} (h:((P.info? ty).bind (·.zero))=some z):∃inf,P.info? ty=some inf/\inf.zero=some z:=by
 cases hi:P.info? ty with
 | none=>rw[hi] at h;cases h
 | some inf=>rw[hi] at h;exact⟨inf,rfl,h⟩
theorem ZM:((Tryz.prog.info? 173).bind (·.zero))=some (.agg #[.int .i32 0,.int .u32 0]):=by kernel_rfl
theorem ZN:((Tryz.prog.info? 179).bind (·.zero))=some (.agg #[.int .u64 0,.int .u32 0]):=by kernel_rfl
theorem ZO:((Tryz.prog.info? 99).bind (·.zero))=some (.slice none 0 0):=by kernel_rfl
theorem ZP {o:Nat}:Holds fb [some (o,1)] (gD []) (π.empty.dz o #[.slice none 0 0] 99):=by
 have ao:Holds fb [] [] π.empty:=xQ _
 have υ:fK fb [] [] #[.slice none 0 0] 1 [.sl true 0 []]:=fK.one (a:=.sl true 0 []) (v:=.slice none 0 0) (.ix none 0 λ_=>rfl) rfl;exact(zc (P:=Tryz.prog) (K:=λr G=>Holds fb [some (r,1)] (gD []) G) (E:=λ_ _=>False) ao υ 99 λr _ I _ _=>I).2 o ⟨λ_=>rfl,rfl,rfl,λ_ _=>⟨λ_=>rfl,rfl,rfl⟩⟩
section
variable {fd:Nat->Option Found} {pr:Nat->Int×Int} {F:Nat->Found} {N:Nat->Nat} {d':aL} {k9:List Found}
theorem ZQ (dW:Ep d' fd pr F N) (eQ:pr 0=(1,0)) (dD:pr 1=(2,0)) (p2:pr 2=(2,1)) (IZ:(List.range 3).filterMap fd=k9) (I0:k9.Pairwise n5):@Ω n4 Tryz.prog 116 [dH d'] (cj k9):=by
 refine⟨⟨_,Tryz.func116,rfl,rfl⟩,λQ mn x c rest eg eh di vs tT oB tV hX=>?_⟩;obtain rfl:x=calm:=@Seq.cls n4 x tT;obtain rfl:eh=[]:=dB.1 oB.len;rintro y ⟨ee,fI,th,cQ⟩;letI:bj:=eP;have U:Seq (one y):=Seq.tM trivial ee fI;rw[nR (body:=x2) Tryz.func116 rfl];refine V.here (x:=one y) (m:=0) (nt:=23) (S:=eg) (B:=[]) (H:=di) (σ:=[]) (env:=entry 0 [dH d']) ?_ (fi.enter oB tV (Nat.le_refl _) η) y rfl;refine V.eY U rfl ?_;simp only[x2,Tryz.f116,Option.getD_some];refine cI ?_;refine W.cn (.stop ?_);refine V.boxed U rfl rfl rfl rfl rfl (l:=[aS d'.Τ,aY d'.ai,a7 d'.cells]) rfl rfl η λS B H t β c1 κ ς iV ZR υ he ZS AH=>?_;obtain rfl:B=[]:=dB.1 ς.holds.len;refine V.here (x:=one y) (m:=0) (nt:=23) (S:=S.lay β c1) (B:=[]) (σ:=[]) (env:=[(1,.aa [aS d'.Τ,aY d'.ai,a7 d'.cells])]) ?_
  ⟨ZS,rq (cX.put (ς.b5.later υ) (d:=1) (by rw[ς.size];omega) AH) η,Eq.trans (Array.size_setIfInBounds ..) ς.size,Nat.zero_le _⟩
 refine V.eY U rfl ?_;refine fp [1] [] ?_;refine W.bJ ?_;refine cI ?_;refine W.cn (.stop ?_);intro cL eL bH t2 q6 mq;obtain rfl:eL=[]:=dB.1 mq.holds.len;rintro lF rfl;obtain⟨i1,Ξ,ah⟩:=I4 ZM;obtain⟨i2,aR,ca⟩:=I4 ZN;obtain⟨i3,iB,j4⟩:=I4 ZO;refine cm.IS ee ⟨rfl,rfl,by simp[Frame.enter],rfl⟩ rfl rfl Ξ ah λm jS _=>?_;refine cm.next ?_ ?_ ?_
 ·exact .inl ee
 ·rfl
 refine cm.IS ?_ ⟨rfl,rfl,by simp[Frame.enter],rfl⟩ rfl rfl aR ca λs rl dk=>?_
 ·exact ee
 refine cm.next ?_ ?_ ?_
 ·exact .inl ee
 ·rfl
 refine cm.IS ?_ ⟨rfl,rfl,by simp[Frame.enter],rfl⟩ rfl rfl iB j4 λo Et wJ=>?_
 ·exact ee
 have uV:m<s:=dk m _ (upd_same ..)
 have IU:s<o:=wJ s _ (upd_same ..);obtain⟨sp,b2⟩:∃sp:Spec,sp=⟨some m,vP β cL o fd,λ_ E=>E=π.empty,3⟩:=⟨_,rfl⟩;have Eu:∃q v,cL β q=some v:=let ⟨u,hu⟩:=ZR;⟨0,u,q6.ext.dc _ _ _ hu⟩;have qO:∃q x,bH.aJ β q=some x:=let ⟨q,u,hu⟩:=Eu;let ⟨p,ς⟩:=mq.holds.dc _ _ _ hu;⟨q,_,ς⟩;have O4:β<o:=let ⟨_,_,h⟩:=qO;Ii h Et;have fr:sp.aU=some m:=by rw[b2]
 have dy:sp.bb=vP β cL o fd:=by rw[b2]
 have fz:∀k E,sp.D k E↔E=π.empty:=λk E=>by rw[b2]
 have gC:sp.top=3:=by rw[b2]
 clear b2;have ZT:sp.bb [] (π.empty.dz o #[.slice none 0 0] 99):=by
  rw[dy];refine⟨⟨λb q x hb=>?_,λb x hb=>?_,λb x hb=>(by cases hb)⟩,fb,_,ZP,rfl⟩
  ·by_cases e:b=o
   ·exact .inr (e▸O4)
   ·simp[π.dz,e,π.empty] at hb
  ·by_cases e:b=o
   ·exact e▸O4
   ·simp[π.dz,e,π.empty] at hb
 refine cm.group (y:=lF) (sp:=sp) ee fI uV IU fr Et ZT ?_;obtain⟨oD,tX⟩:=aO ({lF with spec:=upd lF.spec s (some sp)}:aW);have ZU:({lF with tok:=upd lF.tok s (.par 0 0 .add),spec:=upd lF.spec s (some sp),view:=upd lF.view s none}:aW)=bw oD s (.par 0 0 .add) none 0:=by
  rw[tX];unfold bw;simp only[th]
 rw[ZU];have AM:lS oD s sp:=by
  rw[tX];refine⟨ee,fI,upd_same ..,by rw[gC];decide,λbq _=>?_⟩;have:=cQ bq;show mW (lF.tok bq);cases O5:lF.tok bq with
  | nil=>trivial
  | par n p aF=>rw[O5] at this;cases aF<;>first|trivial|exact this.elim
  | ch k mu g=>rw[O5] at this;exact this.elim
 have I1:∀v,Calm (bw oD s (.par 3 0 .cq) v 0):=λv=>by
  rw[tX];refine⟨ee,fI,rfl,λbq=>?_⟩;by_cases e:bq=s
  ·subst e;rw[b4];trivial
  ·rw[Ai e];exact cQ bq
 have xo:=AM.seq
 have IY:=dW.mA
 have vV:Ext eg [] di cL [] bH:=κ.ext.trans (he.trans q6.ext)
 have I2:di.fresh β:=κ.ext.grow _ iV;refine V.here (x:=one _) (m:=0) (nt:=23) (S:=cL) (B:=[]) (σ:=[]) (env:=env0 s m o d' []) ?_
  ⟨mq.holds,rq (cX.put (cX.put (cX.put mq.b5 (d:=3) (by rw[mq.size];omega) (.z (ptr m 0))) (d:=4) (by rw[Array.size_setIfInBounds,mq.size];omega) (.z (ptr s 0))) (d:=5) (by rw[Array.size_setIfInBounds,Array.size_setIfInBounds,mq.size];omega) (.z (ptr o 0))) η,
   Eq.trans (Array.size_setIfInBounds ..) (Eq.trans (Array.size_setIfInBounds ..) (Eq.trans (Array.size_setIfInBounds ..) mq.size)),Nat.zero_le _⟩ _ rfl
 have w1:IntKind.i64.wrap 1=1:=a0
 have w2:IntKind.i64.wrap 2=2:=a0
 have w3:IntKind.i64.wrap 3=3:=a0;refine V.eY (xo _ _ _) rfl ?_;refine W.bJ ?_;refine hr ?_;refine .loop ?_;refine hr ?_;refine cR (A:=[6]) Ρ λΔ ζ=>aV ?_;apply ζ;refine W.fix (id:=0) (σ':=[]) (Nat.zero_le _) rfl η η rfl ((6,.aa [J 0])::env0 s m o d' [(8,J 0)]) η ?_;refine hr ?_;refine .loop ?_;refine hr ?_;refine W.exit rfl ?_;refine hs (Ζ w1 (Ζ w2 w3)) ?_;refine .inLoop ?_;refine hr ?_;refine cR (A:=[6]) Ρ λΔ ζ=>aV ?_;apply ζ;refine W.fix (id:=0) (σ':=[]) (Nat.zero_le _) rfl η η rfl ((6,.aa [J 1])::env0 s m o d' [(8,J 1)]) η ?_;refine hr ?_;refine .loop ?_;refine hr ?_;refine cR (A:=[7]) Ρ λΔ ζ=>aV ?_;apply ζ;refine W.fix (id:=0) (σ':=[]) (Nat.zero_le _) rfl η η rfl (x3 s m o d' 1 0 [(8,J 1),(11,J 1),(12,J 0)]) η ?_;refine W.stop (IV eQ AM fr dy (λk=>(fz k _).2 rfl) gC a0 dW Eu qO η ?_);refine V.eY (xo _ _ _) rfl ?_;refine hs (Ζ w1 (Ζ w2 w3)) ?_;refine .inLoop ?_;refine hr ?_;refine W.exit rfl ?_;refine hs (Ζ w1 (Ζ w2 w3)) ?_;refine .inLoop ?_;refine hr ?_;refine cR (A:=[6]) Ρ λΔ ζ=>aV ?_;apply ζ;refine W.fix (id:=0) (σ':=[]) (Nat.zero_le _) rfl η η rfl ((6,.aa [J 2])::env0 s m o d' [(8,J 2)]) η ?_;refine hr ?_;refine .loop ?_;refine hr ?_;refine cR (A:=[7]) Ρ λΔ ζ=>aV ?_;apply ζ;refine W.fix (id:=0) (σ':=[]) (Nat.zero_le _) rfl η η rfl (x3 s m o d' 2 0 [(8,J 2),(11,J 2),(12,J 0)]) η ?_;refine W.stop (IV dD AM fr dy (λk=>(fz k _).2 rfl) gC a0 dW Eu qO η ?_);refine V.eY (xo _ _ _) rfl ?_;refine hs (Ζ w1 (Ζ w2 w3)) ?_;refine .inLoop ?_;refine hr ?_;refine cR (A:=[7]) Ρ λΔ ζ=>aV ?_;apply ζ;refine W.fix (id:=0) (σ':=[]) (Nat.zero_le _) rfl η η rfl (x3 s m o d' 2 1 [(8,J 2),(11,J 2),(12,J 1)]) η ?_;refine W.stop (IV p2 AM fr dy (λk=>(fz k _).2 rfl) gC a0 dW Eu qO η ?_);refine V.eY (xo _ _ _) rfl ?_;refine hs (Ζ w1 (Ζ w2 w3)) ?_;refine .inLoop ?_;refine hr ?_;refine W.exit rfl ?_;refine hs (Ζ w1 (Ζ w2 w3)) ?_;refine .inLoop ?_;refine hr ?_;refine W.exit rfl ?_;refine W.forget (env0 s m o d' []) η ?_;refine W.stop ?_;exact ZH AM fr dy (λk E=>(fz k E).1) IY IZ I0 I1 hX vV I2
end
end Go.TL
namespace Go.TL
open Go.Proofs
variable [bj]
def aL.jr (s:aL) (n:Int):Bool:=decide (n< -1)||decide ((s.Τ.length:Int)<=n)
def o9 (s:aL) (pa pb:List Int) (c8:Int):Int×Int:=
 if s.err≠0 then(0,s.err) else
 match pa,pb with
 | [i0,i1],[l0,l1]=>if m7 i0=false\/m7 i1=false\/s.jr l0=true\/s.jr l1=true\/c8<0\/(s.ai.length:Int)<=c8 then(0,3) else if i0<=i1 then(0,5) else(s.iF (i0,i1) (l0,l1) c8.toNat,0)
 | _,_=>(0,8)
theorem ZV (s:aL) (n:Int):Ω Tryz.prog 92 [J n,.aa [aS s.Τ,aY s.ai,a7 s.cells]] (bs (s.jr n)):=by
 refine ak.body Ρ Tryz.func92 rfl rfl Tryz.ntmps92 rfl rfl η ?_;by_cases h:n< -1
 ·refine aT h ?_;refine W.rt ?_;exact .of (by simp[aL.jr,h])
 ·refine aT h ?_;refine W.rt ?_;exact .of (by simp[aL.jr,h])
abbrev ZW (p:Int×Int):θ:=.a3 [J p.1,J p.2]
theorem Ev (s:aL) (μ:s.small) (pa pb:List Int) (c8:Int):Ω Tryz.prog 34 [dH s,cS J 1 pa,cS J 1 pb,J c8] (ZW (o9 s pa pb c8)):=by
 refine ak.body Ρ Tryz.func34 rfl rfl Tryz.ntmps34 rfl rfl η ?_;refine Β ?_;refine a5 λΔ ζ=>?_;refine Ω.d (p1 s μ) (aV ?_);apply ζ;refine Β ?_;by_cases bZ:s.err=0
 case neg=>
  refine aA (by simp[bZ]) ?_;refine Β ?_;refine W.rt ?_;exact .of (by rw[show o9 s pa pb c8=(0,s.err) by unfold o9;rw[if_pos bZ]];rfl)
 refine ay (by simp[bZ]) ?_;refine Β ?_;have hv:o9 s pa pb c8=match (generalizing:=false) pa,pb with
   | [i0,i1],[l0,l1]=>if m7 i0=false\/m7 i1=false\/s.jr l0=true\/s.jr l1=true\/c8<0\/(s.ai.length:Int)<=c8 then(0,3) else if i0<=i1 then(0,5) else(s.iF (i0,i1) (l0,l1) c8.toNat,0)
   | _,_=>(0,8):=by unfold o9;rw[if_neg (by simpa using bZ)]
 by_cases bK:(pa.length:Int)=2
 case neg=>
  have e:o9 s pa pb c8=(0,8):=by
   rw[hv];split
   ·simp at bK
   ·rfl
  refine iE bK λΔ ζ=>?_;apply ζ;refine aA rfl ?_;refine Β ?_;refine W.rt ?_;exact .of (by rw[e];rfl)
 by_cases da:(pb.length:Int)=2
 case neg=>
  have e:o9 s pa pb c8=(0,8):=by
   rw[hv];split
   ·simp at da
   ·rfl
  refine iE (Ζ bK da) λΔ ζ=>?_;apply ζ;refine aA rfl ?_;refine Β ?_;refine W.rt ?_;exact .of (by rw[e];rfl)
 obtain⟨i0,i1,rfl⟩:∃a b,pa=[a,b]:=by
  match pa,bK with
  | [a,b],_=>exact⟨a,b,rfl⟩
  | [],h=>simp at h
  | [_],h=>simp at h
  | _::_::_::_,h=>simp at h;omega
 obtain⟨l0,l1,rfl⟩:∃a b,pb=[a,b]:=by
  match pb,da with
  | [a,b],_=>exact⟨a,b,rfl⟩
  | [],h=>simp at h
  | [_],h=>simp at h
  | _::_::_::_,h=>simp at h;omega
 simp only at hv;refine a5 λΔ ζ=>?_;apply ζ;refine ay rfl ?_
 repeat apply al
 have f3:(m7 i0=false\/m7 i1=false\/s.jr l0=true\/s.jr l1=true\/c8<0\/(s.ai.length:Int)<=c8)->o9 s [i0,i1] [l0,l1] c8=(0,3):=λh=>by rw[hv];exact if_pos h
 have ZX:([l0,l1].any s.jr)=(s.jr l0||s.jr l1):=η
 have call3:Ω Tryz.prog 94 [cS J 1 [l0,l1],.fn (.func 92) [] [.aa [aS s.Τ,aY s.ai,a7 s.cells]]] (bs (s.jr l0||s.jr l1)):=by
  rw[<-ZX];exact VM [l0,l1] _ s.jr η (by simp[hG]) (λx _=>λ_=>(ZV s x).cc (by simp;exact b9.refl _) η η ⟨rfl,rfl⟩)
 cases dQ:m7 i0
 case false=>
  have bO:=f3 (.inl dQ);refine a5 λΔ ζ=>?_;refine Ω.d (oU i0) (fV dQ ?_);apply ζ;refine aA rfl ?_;refine Β ?_;refine W.rt ?_;exact .of (by rw[bO];rfl)
 cases c1:m7 i1
 case false=>
  have bO:=f3 (.inr (.inl c1));refine a5 λΔ ζ=>?_;refine Ω.d (oU i0) (fV dQ ?_);refine Ω.d (oU i1) (fV c1 ?_);apply ζ;refine aA rfl ?_;refine Β ?_;refine W.rt ?_;exact .of (by rw[bO];rfl)
 cases c2:s.jr l0||s.jr l1
 case true=>
  have bO:=f3 (.inr (.inr (by rcases Bool.or_eq_true _ _ |>.mp c2 with h|h<;>simp[h])));refine a5 λΔ ζ=>?_;refine Ω.d (oU i0) (fV dQ ?_);refine Ω.d (oU i1) (fV c1 ?_);refine Ω.c call3 (b9.refl _) (by simp[hG]) η ?_;simp[c2];(repeat (rw[ae];simp[c2]));apply ζ;refine aA rfl ?_;refine Β ?_;refine W.rt ?_;exact .of (by rw[bO];rfl)
 by_cases c3:c8<0
 ·have bO:=f3 (.inr (.inr (.inr (.inr (.inl c3)))));refine a5 λΔ ζ=>?_;refine Ω.d (oU i0) (fV dQ ?_);refine Ω.d (oU i1) (fV c1 ?_);refine Ω.c call3 (b9.refl _) (by simp[hG]) η ?_;simp[c2,c3];(repeat (rw[ae];simp[c2,c3]));apply ζ;refine aA rfl ?_;refine Β ?_;refine W.rt ?_;exact .of (by rw[bO];rfl)
 by_cases c4:(s.ai.length:Int)<=c8
 ·have bO:=f3 (.inr (.inr (.inr (.inr (.inr c4)))));refine a5 λΔ ζ=>?_;refine Ω.d (oU i0) (fV dQ ?_);refine Ω.d (oU i1) (fV c1 ?_);refine Ω.c call3 (b9.refl _) (by simp[hG]) η ?_;simp[c2,c3,c4];(repeat (rw[ae];simp[c2,c3,c4]));apply ζ;refine aA rfl ?_;refine Β ?_;refine W.rt ?_;exact .of (by rw[bO];rfl)
 have Ew:s.jr l0=false/\s.jr l1=false:=by simpa using c2
 rw[if_neg (by rw[dQ,c1,Ew.1,Ew.2];simp;omega)] at hv;refine a5 λΔ ζ=>?_;refine Ω.d (oU i0) (fV dQ ?_);refine Ω.d (oU i1) (fV c1 ?_);refine Ω.c call3 (b9.refl _) (by simp[hG]) η ?_;simp[c2,c3,c4];(repeat (rw[ae];simp[c2,c3,c4]));apply ζ;refine ay rfl ?_
 repeat apply al
 refine vl ?_;by_cases jJ:i0<=i1
 ·rw[if_pos jJ] at hv;refine aA (by simp[jJ]) ?_;refine Β ?_;refine W.rt ?_;exact .of (by rw[hv];rfl)
 ·rw[if_neg jJ] at hv;refine ay (by simp[jJ]) ?_;obtain⟨n,rfl⟩:∃n:Nat,c8=n:=⟨c8.toNat,γ⟩;have Ε:n<s.ai.length:=γ;have cP:l0<s.Τ.length:=by have:=Ew.1;simp[aL.jr] at this;omega
  have Ξ:l1<s.Τ.length:=by have:=Ew.2;simp[aL.jr] at this;omega
  repeat apply al
  refine W.draw (A:=[]) Ρ mixed λΔ ζ=>hZ ?_;refine eS (Ω.p (zT s μ (i0,i1) (l0,l1) n Ε cP Ξ) (b9.refl _) η η) ?_;simp;(repeat (rw[dZ];simp[]));try rw[dY]
  refine fC (ζ _ _ ?_);refine Β ?_;refine W.rt ?_;exact .of (by rw[hv];rfl)
end Go.TL
namespace Go.TL
open Go.Proofs
def gV:Nat->Int×Int
 | 0=>(1,0)
 | 1=>(2,0)
 | _=>(2,1)
def ha (s:aL) (p:Int×Int):Found:=⟨p.1,p.2,(List.range s.cells.length).map (ji s p)⟩
def k' (s:aL) (k:Nat):Option Found:=if k<3/\0<(ha s (gV k)).many (-1) then some (ha s (gV k)) else none
def bW (s:aL):List Found:=(List.range 3).filterMap (k' s)
structure I5 (N:Nat) (s:aL):Prop where
 small:s.small
 Τ:s.Τ.length<2 ^ 20
 lit:∀c∈s.cells,∀x∈c,0<=x.c8/\x.c8<s.ai.length
 reads:∀k,k<3->∀c,c<s.cells.length->(ji s (gV k) c).length<=N
 many:∀k,k<3->∀i,i<=s.cells.length->ik (ha s (gV k)).cells (-1) i<2 ^ 62
abbrev O6 (s:aL):Prop:=I5 12 s
theorem O7 {N:Nat} (c5:N<2 ^ 20) (fA:∀c:bj,@Dz c N) {s:aL} (h:I5 N s):@m' n4 s (bW s):=λ_=>by
 refine ZQ (fd:=k' s) (pr:=gV) (F:=λk=>ha s (gV k)) (N:=λk=>(ha s (gV k)).many (-1)) ⟨λk ψ c=>?_,λk ψ c=>?_,λk=>rfl⟩ rfl rfl rfl rfl ?_
 ·exact @Wv c s h.small h.Τ (gV k) h.lit N c5 (fA c) (h.reads k ψ)
 ·have υ:(ha s (gV k)).cells.length=s.cells.length:=by simp[ha]
  have:=h.small.2.2.1;exact @Ds c (ha s (gV k)) (-1) (by rw[υ];omega) (λi hi=>h.many k ψ i (by rw[<-υ];exact hi))
 ·have e:(List.range 3).filterMap (k' s)=(k' s 0).toList++(k' s 1).toList++(k' s 2).toList:=by
   show [0,1,2].filterMap (k' s)=_;simp only[List.filterMap_cons,List.filterMap_nil];cases k' s 0<;>cases k' s 1<;>cases k' s 2<;>rfl
  show((List.range 3).filterMap (k' s)).Pairwise n5;rw[e];have m:∀k x,x∈(k' s k).toList->x=ha s (gV k):=λk x U=>by
   unfold k' at U;split at U
   ·simpa using U
   ·simp at U
  have one:∀k,((k' s k).toList).Pairwise n5:=λk=>by cases k' s k<;>simp
  rw[List.pairwise_append,List.pairwise_append];refine⟨⟨one 0,one 1,λa κ b hb=>?_⟩,one 2,λa κ b hb=>?_⟩
  ·rw[m 0 a κ,m 1 b hb];exact .inl (show(gV 0).1<(gV 1).1 by decide)
  ·rw[m 2 b hb];rcases List.mem_append.1 κ with κ|κ
   ·rw[m 0 a κ];exact .inl (show(gV 0).1<(gV 2).1 by decide)
   ·rw[m 1 a κ];exact .inr ⟨rfl,show(gV 1).2<(gV 2).2 by decide⟩
theorem O8 {s:aL} (h:O6 s):@m' n4 s (bW s):=O7 a0 (λc=>@Wo c) h
theorem Ex:O6 aQ:=by
 refine⟨by unfold aL.small;decide,a0,a0,?_,?_⟩
 ·have:∀k<3,∀c<2,(ji aQ (gV k) c).length<=12:=by decide +kernel
  exact this
 ·have:∀k<3,∀i<3,ik (ha aQ (gV k)).cells (-1) i<2 ^ 62:=by decide +kernel
  exact λk ψ i hi=>this k ψ i (by have:i<=2:=hi;omega)
theorem ru:aQ.err=0:=by decide +kernel
theorem ZY:sC aQ (bW aQ)=(1,1,2,0):=by decide +kernel
theorem ZZ:sL aQ (bW aQ) 1 true=([1],0):=by decide +kernel
theorem Z0:o9 aQ [1,0] [1,4] 1=(12,0):=by decide +kernel
theorem Z1:kY (bW aQ)=[[1,0],[2,0]]:=by decide +kernel
def pd (b:ByteArray):Int:=(b.data[0]!).toNat
theorem Ey {l m:List Int} (ς:l.Perm m) (hm:m.Pairwise λa b=>a<=b):mz l=m:=by
 have z2:∀a b c:Int,decide (a<=b)=true->decide (b<=c)=true->decide (a<=c)=true:=λa b c h k=>by simp at *;omega
 have z3:∀a b:Int,(decide (a<=b)||decide (b<=a))=true:=λa b=>by simp;omega
 have s1:=List.pairwise_mergeSort (le:=λx y:Int=>decide (x<=y)) z2 z3 l
 have dD:(l.mergeSort λx y:Int=>decide (x<=y)).Perm m:=(List.mergeSort_perm l _).trans ς;exact List.Perm.eq_of_pairwise (le:=λa b:Int=>a<=b) (λa b _ _ h k=>γ) (s1.imp λ{a b} h=>by simpa using h) hm dD
theorem I6:gP (bW aQ) 0 true=[4,4]:=by decide +kernel
theorem I7:gP (bW aQ) 1 true=[1,2,1,2]:=by decide +kernel
theorem Z2:(spell [111,63]).toList=[111,63]:=by decide +kernel
theorem O9:(eH aQ true (bW aQ)).2.2=0:=by decide +kernel
theorem Z3 {l:List (List (Int×Int))} {gy:Int} (h:∀j:Nat,((l[j]?).getD []).length<=2):∀i,ik l gy i<=2 ^ i:=by
 intro i
 induction i with
 | zero=>simp[ik]
 | succ i ω=>
  rw[@Dr ⟨λ_=>True⟩,Nat.pow_succ];refine Nat.mul_le_mul ω ?_;split
  ·omega
  ·exact h i
theorem Z4:∀f∈bW aQ,f.cells.length=2/\∀c∈f.cells,c.length<=2:=by decide +kernel
theorem I8:DF aQ (bW aQ):=by
 refine⟨by decide +kernel,by decide +kernel,?_,by decide +kernel⟩;intro f Υ;obtain⟨I,R⟩:=Z4 f Υ;refine⟨by rw[I];decide,λgy i hi=>Nat.lt_of_le_of_lt (Z3 (λj=>?_) i) ?_⟩
 ·cases δ:f.cells[j]? with
  | none=>simp
  | some c=>simpa using R c (cx δ)
 ·have:2 ^ i<=2 ^ 2:=Nat.pow_le_pow_right γ γ;omega
theorem I9:ew (bW aQ) 0 true=[4]:=by
 unfold ew;rw[I6,Ey (m:=[4,4]) (.refl _) a0];decide
theorem AN:ew (bW aQ) 1 true=[1,2]:=by
 unfold ew;rw[I7,Ey (m:=[1,1,2,2]) a0 a0];decide
theorem Pa:Hw aQ (bW aQ) true pd 12:=by
 refine⟨by decide +kernel,by decide +kernel,λc ε=>?_,λg Ο=>?_⟩
 ·have ε:c<2:=ε
  match c,ε with
  | 0,_=>rw[I6,I9];decide
  | 1,_=>rw[I7,AN];decide
 ·simp only[aQ,List.mem_cons,List.not_mem_nil,or_false] at Ο;rcases Ο with rfl|rfl|rfl|rfl|rfl<;>rfl
theorem Z5:na aQ (bW aQ) true pd 2=[111,63]:=by
 show [0,1].map (q7 aQ (bW aQ) true pd)=_;simp only[List.map_cons,List.map_nil,q7,I9,AN];decide +kernel
theorem Z6:q8 aQ (bW aQ) true pd=(spell [111,63],0):=by
 unfold q8;rw[if_pos O9];show(spell (na aQ (bW aQ) true pd 2),(0:Int))=_;rw[Z5]
theorem Z7:@Ω n4 Tryz.prog 21 [] (bs true):=by
 letI:bj:=n4;have μ:=Ex.small;have Η:=O8 Ex;refine ak.body Ρ Tryz.func21 rfl rfl Tryz.ntmps21 rfl rfl η ?_;refine Β ?_;refine a5 λΔ ζ=>?_;refine Ω.d (x1) (aV ?_);refine Ω.c (Ev aQ μ [1,0] [1,4] 1) (.cons (.refl _) (.cons .ex (.cons .ex (.cons (.refl _) .nil)))) η η ?_;rw[Z0];simp;(repeat (rw[ae];simp[]));apply ζ;refine a5 λΔ ζ=>?_;refine Ω.d (x1) (aV ?_);refine Ω.c (V3 aQ μ _ Η (by decide +kernel)) (b9.refl _) η η ?_;rw[if_pos ru,ru,Z1];simp;(repeat (rw[ae];simp[]));apply ζ;refine a5 λΔ ζ=>?_;refine Ω.d (x1) (aV ?_);refine Ω.c (Nb aQ μ _ Η true pd 12 a0 sz (λ_=>Pa)) (b9.refl _) η η ?_;rw[Z6];simp;(repeat (rw[ae];simp[]));apply ζ;refine a5 λΔ ζ=>?_;refine Ω.d (x1) (aV ?_);refine Ω.c (WQ aQ μ _ Η I8) (b9.refl _) η η ?_;rw[ZY];simp;(repeat (rw[ae];simp[]));apply ζ;refine a5 λΔ ζ=>?_;refine Ω.d (x1) (aV ?_);refine Ω.c (OQ aQ μ _ Η I8 1 true a0) (b9.refl _) η η ?_;rw[ZZ];simp;(repeat (rw[ae];simp[]));apply ζ;refine a5 λΔ ζ=>?_;refine Ω.c (Hp 9) (b9.refl _) η η ?_;have ff:valid 9=true:=by decide +kernel
 have eD:q5 9=6:=by decide +kernel
 rw[ff,eD];simp;(repeat (rw[ae];simp[]));apply ζ;refine iE @Z2 λΔ ζ=>?_;refine Ω.c (zO [[1,0],[2,0]] [[1,0],[2,0]] a0 a0) (.cons (.refl _) (.cons ?_ .nil)) η η ?_
 ·exact .map (l:=[[1,0],[2,0]]) (f:=λl:List Int=>.sl true 1 (l.map J)) (g:=cS J 1) λx _=>.one .ex rfl rfl
 simp;(repeat (rw[ae];simp[]));refine Ω.c (zN [1] [1] a0) (.cons (.refl _) (.cons .ex .nil)) η η ?_;simp;(repeat (rw[ae];simp[]));apply ζ;refine W.rt ?_;exact .of η
end Go.TL
namespace Go.TL
open Go.Conc Go.Proofs
theorem I':@Seq n4 calm:=@Seq.mk n4 calm rfl (λ_ h=>h.rel) (λ_ h=>h.aG)
theorem Z8 (w:World):Calm (aW.start w):=⟨rfl,rfl,rfl,λ_=>trivial⟩
def Ez (w:World):aD:=λb o=>((π.md w).aJ b o).map (·.1)
theorem Z9 (w:World):Holds (Ez w) [] [] (π.md w):=
 ⟨λb o v h=>by
  unfold Ez at h;cases ε:(π.md w).aJ b o with
  | none=>rw[ε] at h;cases h
  | some x=>rw[ε] at h;cases h;exact⟨x.2,rfl⟩,rfl,λid r bo h=>by simp at h,λi j ef b8 b gh gi _ h=>by simp at h,λid r b N h=>by simp at h⟩
theorem Z' {P:Program} {f:FuncId} {fn:Func} {body:Code} {d:Nat} (cf:P.funcs[f]?=some fn) (m6:fn.body=some body) (e5:fn.results=#[.tmp d]) (a4:P.inits.idxOf? f=none) {w:World} {l:List θ} {args:Array Value} (ι:fj (Ez w) [] [] l args) (Ε:l.length<=fn.ntmps)
  (hW:@W n4 P 0 fn.ntmps [.code body] (entry 0 l) [] (λj env _=>(∃k,j=.code .ret::k)/\bc env d=bs true) (λ_ _ _=>False)):Comes P (λv=>v=.bool true) w (solo (Go.Conc.G (Frame.enter P f args .normal) []) w) #[]:=by
 letI:bj:=n4;refine Goes.comes ?_;show cm P _ true (aW.start w) (Frame.enter P f args .normal) [] (π.md w);rw[nR cf m6];refine hW (λv=>v=.bool true) true calm [] (Frame.enter P f args .normal) (Ez w) [] (π.md w) _ I' rfl (fi.enter (Z9 w) ι (Nat.le_refl _) Ε) (λj env' σ' az B' H' t' af Μ κ ς υ=>?_) (λa env' σ' az B' H' t' af v he=>he.elim) (aW.start w) (Z8 w);obtain⟨⟨k,δ⟩,hd⟩:=Μ;have e:af=j:=υ;subst e;subst δ;refine aE.ret I' rfl rfl (aE.done (v:=.bool true) I' (λy h=>h.shut) (λy h=>h.deaf) rfl rfl rfl cf a4 ?_ rfl);have hv:t'.getD d undef=.bool true:=by
  have:=ς.b5 d;rw[hd] at this;generalize t'.getD d undef=u at this;cases this;rfl
 show results fn t'=_;unfold results;rw[e5];rw[Array.getD_eq_getD_getElem?] at hv;simp[hv]
end Go.TL
namespace Go.TL
open Go.Conc Go.ConcM Go.Proofs
open Go.ChangeShapes Go.WideShapes Go.ChangeAt Go.RowKit
theorem aα:ownKnob Tryz.prog.godebug=none:=by kernel_rfl
theorem fv.below {W w:World} (h:fv (λ_ _=>False) (λ_=>False) W w):Below W.heap.size W {w with os:=W.os}:=by
 refine⟨rfl,h.tape,h.output,h.size,λk ψ=>?_⟩;show w.heap[k]?=W.heap[k]?;have e:=gF ψ;cases ε:Obj.rE W.heap[k] with
 | false=>rw[e];exact h.mQ k _ e ε id
 | true=>
  cases U:W.heap[k] with
  | cells c t dV=>
   rw[U] at e;obtain⟨c',I,R,ν⟩:=h.cells k c t dV e;have:c'=c:=by
    apply Array.ext' ;apply List.ext_getElem?;intro o;have:=ν o id;simpa using this
   rw[e,I,this]
  | _=>rw[U] at ε;simp[Obj.rE] at ε
set_option maxRecDepth 100000 in
theorem aβ (hW:∀W:World,Comes Tryz.prog (λv=>v=.bool true) W (solo (Go.Conc.G (Frame.enter Tryz.prog 19 #[] .normal) []) W) #[])
  (os:Os) (started:os.Started) (H:Type) (enc:TypeId×Value->H) (F:Stop.Interp) :
  ReturnsInLeavingWide YtlabjopijpkiaaaGreat.Rows.lightKnownRow.assume Tryz.checked os 19 .any (YtlabjopijpkiaaaGreat.Rows.lightKnownSpec.pre6 enc Tryz.prog Tryz.f19 YtlabjopijpkiaaaGreat.Rows.lightKnownRow.domain YtlabjopijpkiaaaGreat.Rows.lightKnownRow.apart)
   ((OpenSpec.ofChange YtlabjopijpkiaaaGreat.Rows.lightKnownSpec).postWith enc Tryz.prog Tryz.f19 F (outsideKept [.timePasses]) YtlabjopijpkiaaaGreat.Rows.lightKnownRow.apart YtlabjopijpkiaaaGreat.Rows.lightKnownRow.fresh YtlabjopijpkiaaaGreat.Rows.lightKnownRow.handsOn):=by
 refine returnsInLeavingWide_of_change_time (C:=Tryz.checked) aα started Tryz.func19
  (ChangeSpec.witness6c (enc:=enc) (C:=Tryz.checked) ⟨#[],#[],[]⟩ 8 (by kernel_rfl) (by kernel_rfl) (by kernel_rfl) (by kernel_rfl)) ?_
 intro W base args ds gs before hζ Pb _ _ _;have aγ:=Pb;obtain⟨p,q,AO,lx,rfl,_,_⟩:=Pb;obtain⟨rfl,rfl,rfl⟩:=trodAll_none (args:=args) AO;obtain⟨rfl,rfl⟩:=trodVars_none lx;obtain⟨M,last,o,w',t',r1,r2,r3,v,e,ς,Ξ,ah,aR,ca⟩:=hW W;refine⟨M,last,o,w',t',r1,r2,r3,v,e,⟨?_,ς.2.os⟩,Ξ,ah,aR,ca⟩;obtain⟨rfl,ψ⟩:=ς;exact⟨_,_,_,[],[],[],aγ,trodAll_mk1 (shut_bool Tryz.underlying4 _),trodAll_mk0,rfl,ψ.below.frame _,λh=>by cases h⟩
end Go.TL
namespace Go.TL
open Go.Conc
variable [bj]
inductive vZ (id k:Nat) (l:List θ):θ->θ->Prop where
 | same (a:θ):vZ id k l a a
 | ms:vZ id k l (.ms id l.length 0 l.length) (.sl false k l)
 | an {e:θ}:l=[e]->vZ id k l (.an id 1 0 0) (.aa e.cells)
def x5 (id k:Nat) (l:List θ) (r r':Row):Prop:=r'=r\/∃t n es es',r=.cells t n es/\r'=.cells t n es'/\es'.length=es.length/\
 ∀(i:Nat) (e aH:θ),es[i]?=some e->es'[i]?=some aH->aH.cells.length=e.cells.length/\∀(x:Nat) (a bP:θ),e.cells[x]?=some a->aH.cells[x]?=some bP->vZ id k l a bP
section
variable {P:Program} {S:aD} {B:aP} {H:π} {σ σ':List Row} {m nt id k:Nat} {t:TypeId} {l:List θ} {kk:List Item} {env:ab} {Z:List Item->ab->List Row->Prop} {E:θ->ab->List Row->Prop}
def aD.set (S:aD) (B:aP) (H:π) (id:Nat):aD:=λb o=>match B[id]? with
 | some (some (bZ,_))=>if b=bZ then(H.aJ b o).map (·.1) else S b o
 | _=>S b o
theorem Pd {b N:Nat} (hb:B[id]?=some (some (b,N))) (o:Nat):S.set B H id b o=(H.aJ b o).map (·.1):=by
 unfold aD.set;rw[hb];simp
theorem Pe (χ:Holds S B σ H) (bN:σ[id]?=some (.cells t k l)):∀b o v,S b o=some v->S.set B H id b o=some v:=λb o v hv=>by
 unfold aD.set;split
 ·rename_i bZ N hb;split
  ·rename_i e;subst e;rw[χ.sep id _ b N bN trivial hb o] at hv;cases hv
  ·exact hv
 ·exact hv
theorem bQ.x6 (χ:Holds S B σ H) (bN:σ[id]?=some (.cells t k l)) (x7:σ'[id]?=some .dead) (j5:∀j r,j≠id->σ[j]?=some r->∃r',σ'[j]?=some r'/\x5 id k l r r'):bQ S (S.set B H id) B B σ σ':=
 ⟨Pe χ bN,λj r ι=>by
  by_cases e:j=id
  ·subst e;rw[bN] at ι;cases ι;exact⟨.dead,x7,.inr λn _=>trivial⟩
  ·obtain⟨r',I,R⟩:=j5 j r e ι;refine⟨r',I,?_⟩;rcases R with rfl|⟨t,n,es,es',rfl,rfl,ν,_⟩
   ·exact Row.rQ _ _
   ·exact .inl ⟨es',rfl,ν,rfl⟩⟩
theorem au.Pf (χ:Holds S B σ H) (bN:σ[id]?=some (.cells t k l)) (υ:bQ S (S.set B H id) B B σ σ') {a bP:θ} (μ:vZ id k l a bP) {v:Value} (ι:au S B σ a v):au (S.set B H id) B σ' bP v:=by
 cases μ with
 | same=>exact ι.later υ
 | ms=>
  cases ι with
  | ms cap Ξ ah aR ca iB j4=>
   rw[bN] at Ξ;cases Ξ;by_cases Μ:l=[]
   ·subst Μ;exact .ix _ _ η
   ·have pG:0<l.length:=List.length_pos_iff.2 Μ;rcases j4 with j4|⟨b,N,rfl,rfl,j4⟩
    ·omega
    ·obtain⟨_,_,_,w,hw⟩:=χ.row id _ _ bN aR;rw[Nat.zero_mul];refine .sl b 0 cap (λj x=>w j x) η iB (λj e δ=>(hw j e δ).1) (λj e δ x c U=>?_) (λj e δ x c U=>?_)
     ·have:=((hw j e δ).2 x c U).1;rw[Pd aR,Nat.zero_add,this];rfl
     ·exact(((hw j e δ).2 x c U).2.1).later υ
  | iY v Ξ ah=>rw[bN] at Ξ;cases Ξ;simp only[Row.g1] at ah;omega
 | @an e he=>
  subst he;cases ι with
  | an Ξ ah aR=>
   rw[bN] at Ξ;cases Ξ;obtain⟨_,_,_,w,hw⟩:=χ.row id _ _ bN aR;have ao:=hw 0 e rfl;refine .aa _ _ (λx=>w 0 x) (λx a U=>?_) (λx a U=>?_)
   ·have:=(ao.2 x a U).1;rw[Pd aR,Nat.add_zero,this];rfl
   ·exact((ao.2 x a U).2.1).later υ
  | jG v Ξ ah=>rw[bN] at Ξ;cases Ξ;simp[Row.g1] at ah
theorem W.x6 (hm:m<=id) (bN:σ[id]?=some (.cells t k l)) (hlen:σ'.length=σ.length) (x7:σ'[id]?=some .dead) (j5:∀j r,j≠id->σ[j]?=some r->∃r',σ'[j]?=some r'/\x5 id k l r r') (env':ab) (cU:∀p∈env',vZ id k l (bc env p.1) p.2)
  (hW:W P m nt kk env' σ' Z E):W P m nt kk env σ Z E:=by
 intro Q mn x cs b S B H bf U hb ς Μ he;have χ:=ς.holds;have υ:=bQ.x6 χ bN x7 j5;have back:∀j r',j≠id->σ'[j]?=some r'->∃r,σ[j]?=some r/\x5 id k l r r':=λj r' δ h=>by
  have aI:j<σ.length:=by rw[<-hlen];exact(bV.1 h).1
  obtain⟨r2,I,R⟩:=j5 j _ δ (ba aI);rw[h] at I;cases I;exact⟨_,ba aI,R⟩
 have live:∀{r r':Row},x5 id k l r r'->r'.live->r.live:=λ{r r'} h hv=>by
  rcases h with rfl|⟨_,_,_,_,rfl,rfl,_⟩
  ·exact hv
  ·trivial
 have ij:Holds (S.set B H id) B σ' H:=by
  refine⟨λb o v h=>?_,by rw[hlen];exact χ.len,λj r bo ι ek=>?_,λi j ef b8 b gh gi fZ hi δ hD eb gw cz=>?_,λj r b N ι e4 hb o=>?_⟩
  ·unfold aD.set at h;split at h
   ·split at h
    ·cases ε:H.aJ b o with
     | none=>rw[ε] at h;cases h
     | some x=>rw[ε] at h;cases h;exact⟨x.2,rfl⟩
    ·exact χ.dc b o v h
   ·exact χ.dc b o v h
  ·by_cases e:j=id
   ·subst e;rw[x7] at ι;cases ι;trivial
   ·obtain⟨r0,I,R⟩:=back j r e ι;have ν:=χ.row j r0 bo I ek;rcases R with rfl|⟨t2,n,es,es',rfl,rfl,Ι,aB⟩
    ·refine ν.later υ (λb N _=>⟨λ_=>rfl,rfl,rfl⟩) λdN left cur Θ=>?_;subst Θ;obtain⟨_,_,aU,kx,xs,clock,seen,_,dh,⟨es,c6⟩,_⟩:=ν;refine⟨?_,rfl,λb N _=>⟨λ_=>rfl,rfl,rfl⟩⟩;have bC:dN≠id:=λe=>by subst e;rw[bN] at c6;cases c6
     obtain⟨r',dD,p2⟩:=j5 dN _ bC c6;rcases p2 with rfl|⟨_,_,_,_,p3,_⟩
     ·rw[dD,c6]
     ·cases p3
    ·cases bo with
     | none=>
      have:es=[]:=ν;subst this;exact dB.1 Ι
     | some y=>
      obtain⟨b,N⟩:=y;obtain⟨Ξ,ah,aR,w,ca⟩:=ν;refine⟨Ξ,by rw[Ι];exact ah,aR,w,λi aH hi=>?_⟩;have aI:i<es.length:=by rw[<-Ι];exact(bV.1 hi).1
      obtain⟨c1,c2⟩:=ca i _ (ba aI);obtain⟨d1,d2⟩:=aB i _ aH (ba aI) hi;refine⟨d1.trans c1,λx bP U=>?_⟩;have nE:x<(es[i]).cells.length:=by rw[<-d1];exact(bV.1 U).1
      obtain⟨dh,c6,gj⟩:=c2 x _ (ba nE);exact⟨dh,c6.Pf χ bN υ (d2 x _ bP (ba nE) U),gj⟩
  ·have Pg:∀j r,σ'[j]?=some r->r.live->j≠id:=λj r h hv e=>by subst e;rw[x7] at h;cases h;exact hv
   obtain⟨r1,a1,a2⟩:=back i ef (Pg i ef hi hD) hi;obtain⟨r2,bK,da⟩:=back j b8 (Pg j b8 δ eb) δ;exact χ.inj i j r1 r2 b gh gi fZ a1 bK (live a2 hD) (live da eb) gw cz
  ·have bC:j≠id:=λe=>by subst e;rw[x7] at ι;cases ι;exact e4
   obtain⟨r1,a1,a2⟩:=back j r bC ι;have μ:=χ.sep j r1 b N a1 (live a2 e4) hb o;unfold aD.set;split
   ·rename_i bZ hh jF;split
    ·rename_i e;subst e;exact(χ.inj j id r1 _ b N hh bC a1 bN (live a2 e4) trivial hb jF).elim
    ·exact μ
   ·exact μ
 have oO:Ext S B H (S.set B H id) B H:=by
  refine⟨Pe χ bN,λ_ _ _=>m1.of ⟨λ_=>rfl,rfl,rfl⟩,λ_ h=>.inl h,λb o v hv=>?_,λ_ h=>h⟩;unfold aD.set at hv;split at hv
  ·rename_i bZ N jF;split at hv
   ·rename_i e;subst e;exact .inr (.inl ⟨N,cx jF⟩)
   ·exact .inl hv
  ·exact .inl hv
 have κ:eO m S B H σ (S.set B H id) B H σ':=⟨oO,υ.left m⟩
 have r6:∀(l2:ab),(∀p∈l2,vZ id k l (bc env p.1) p.2)->∀i,au S B σ (bc env i) (bf.getD i undef)->au (S.set B H id) B σ' (bc l2 i) (bf.getD i undef):=by
  intro l2
  induction l2 with
  | nil=>intro _ i _;exact .cg _
  | cons p l2 ω=>
   intro mr i ι;simp only[bc];split
   ·rename_i e;subst e;exact ι.Pf χ bN υ (mr p η)
   ·exact ω (λq Χ=>mr q (by simp[Χ])) i ι
 refine hW Q mn x cs b _ _ H bf U hb ⟨ij,λi=>r6 env' cU i (ς.b5 i),ς.size,by rw[hlen];exact ς.rows⟩ (λj g3 gk cL eL bH t2 bG Ξ ah aR ca=>?_) (λa g3 gk cL eL bH t2 bG v Ξ ah aR ca iB=>?_)
 ·exact Μ j g3 gk cL eL bH t2 bG Ξ (κ.trans ah) aR ca
 ·exact he a g3 gk cL eL bH t2 bG v Ξ (κ.trans ah) aR ca iB
end
inductive v3 (id:Nat):θ->θ->Prop where
 | same (a:θ):v3 id a a
 | nil {k:Nat}:v3 id (.sl true k []) (.ms id 0 0 0)
def n7 (id:Nat) (r r':Row):Prop:=r'=r\/∃t n es es',r=.cells t n es/\r'=.cells t n es'/\es'.length=es.length/\
 ∀(i:Nat) (e aH:θ),es[i]?=some e->es'[i]?=some aH->aH.cells.length=e.cells.length/\∀(x:Nat) (a bP:θ),e.cells[x]?=some a->aH.cells[x]?=some bP->v3 id a bP
section
variable {P:Program} {S:aD} {B:aP} {H:π} {σ σ':List Row} {m nt k:Nat} {t:TypeId} {kk:List Item} {env:ab} {Z:List Item->ab->List Row->Prop} {E:θ->ab->List Row->Prop}
theorem bQ.pad (hlen:B.length=σ.length) (μ:σ'.length=σ.length) (j5:∀(j:Nat) (r:Row),σ[j]?=some r->∃r',σ'[j]?=some r'/\n7 σ.length r r'):bQ S S B (B++[none]) σ (σ'++[.cells t k []]):=
 ⟨λ_ _ _ h=>h,λj r ι=>by
  have aI:=(bV.1 ι).1;obtain⟨r',I,R⟩:=j5 j r ι;have e1:(B++[none])[j]?=B[j]?:=dv γ;refine⟨r',by rw[dv γ];exact I,?_⟩;rw[e1];rcases R with rfl|⟨t,n,es,es',rfl,rfl,ν,_⟩
  ·exact Row.rQ _ _
  ·exact .inl ⟨es',rfl,ν,rfl⟩⟩
theorem au.DH (hlen:B.length=σ.length) (μ:σ'.length=σ.length) (υ:bQ S S B (B++[none]) σ (σ'++[.cells t k []])) {a bP:θ} (h:v3 σ.length a bP) {v:Value} (ι:au S B σ a v):au S (B++[none]) (σ'++[.cells t k []]) bP v:=by
 cases h with
 | same=>exact ι.later υ
 | nil=>
  have I:(σ'++[Row.cells t k []])[σ.length]?=some (.cells t k []):=by rw[<-μ];simp
  have R:(B++[none])[σ.length]?=some none:=by rw[<-hlen];simp
  cases ι with
  | ix base cap g=>
   obtain rfl:=g rfl;exact .ms 0 I rfl R (Nat.le_refl _) (Nat.le_refl _) (.inl rfl)
  | sl b o cap w g=>
   obtain rfl:cap=0:=g rfl;exact .ms 0 I rfl R (Nat.le_refl _) (Nat.le_refl _) (.inl rfl)
theorem W.pad (t:TypeId) (k:Nat) (μ:σ'.length=σ.length) (j5:∀(j:Nat) (r:Row),σ[j]?=some r->∃r',σ'[j]?=some r'/\n7 σ.length r r') (env':ab) (cU:∀p∈env',v3 σ.length (bc env p.1) p.2)
  (hW:W P m nt kk env' (σ'++[.cells t k []]) Z E):W P m nt kk env σ Z E:=by
 intro Q mn x cs b S B H bf U hb ς Μ he;have χ:=ς.holds;have hlen:=χ.len;have υ:bQ S S B (B++[none]) σ (σ'++[.cells t k []]):=bQ.pad hlen μ j5;have Ph:∀j,j<σ.length->(σ'++[Row.cells t k []])[j]?=σ'[j]?:=λj h=>dv γ;have AP:∀j,j<σ.length->(B++[none])[j]?=B[j]?:=λj h=>dv γ;have back:∀j r',j<σ.length->(σ'++[Row.cells t k []])[j]?=some r'->∃r,σ[j]?=some r/\n7 σ.length r r':=λj r' δ h=>by
  rw[Ph j δ] at h;obtain⟨r2,I,R⟩:=j5 j _ (ba δ);rw[h] at I;cases I;exact⟨_,ba δ,R⟩
 have live:∀{r r':Row},n7 σ.length r r'->r'.live->r.live:=λ{r r'} h hv=>by
  rcases h with rfl|⟨_,_,_,_,rfl,rfl,_⟩
  ·exact hv
  ·trivial
 have low:∀j y,(B++[none])[j]?=some (some y)->j<σ.length:=λj y h=>by
  have I:=(bV.1 h).1;simp at I;by_cases e:j=B.length
  ·subst e;simp at h
  ·omega
 have ij:Holds S (B++[none]) (σ'++[.cells t k []]) H:=by
  refine⟨χ.dc,by simp;omega,λj r bo ι ek=>?_,λi j ef b8 b gh gi fZ hi δ hD eb gw cz=>?_,λj r b N ι e4 hb o=>?_⟩
  ·by_cases e:j<σ.length
   ·rw[AP j e] at ek;obtain⟨r0,I,R⟩:=back j r e ι;have ν:=χ.row j r0 bo I ek;rcases R with rfl|⟨t2,n,es,es',rfl,rfl,Ι,aB⟩
    ·refine ν.later υ (λb N _=>⟨λ_=>rfl,rfl,rfl⟩) λdN left cur Θ=>?_;subst Θ;obtain⟨_,_,aU,kx,xs,clock,seen,_,dh,⟨es,c6⟩,_⟩:=ν;have hm:=(bV.1 c6).1;refine⟨?_,AP dN hm,λb N _=>⟨λ_=>rfl,rfl,rfl⟩⟩;obtain⟨r',dD,p2⟩:=j5 dN _ c6;rcases p2 with rfl|⟨_,_,_,_,p3,_⟩
     ·rw[Ph dN hm,dD,c6]
     ·cases p3
    ·cases bo with
     | none=>
      have:es=[]:=ν;subst this;exact dB.1 Ι
     | some y=>
      obtain⟨b,N⟩:=y;obtain⟨Ξ,ah,aR,w,ca⟩:=ν;refine⟨Ξ,by rw[Ι];exact ah,aR,w,λi aH hi=>?_⟩;have aI:i<es.length:=by rw[<-Ι];exact(bV.1 hi).1
      obtain⟨c1,c2⟩:=ca i _ (ba aI);obtain⟨d1,d2⟩:=aB i _ aH (ba aI) hi;refine⟨d1.trans c1,λx bP U=>?_⟩;have nE:x<(es[i]).cells.length:=by rw[<-d1];exact(bV.1 U).1
      obtain⟨dh,c6,gj⟩:=c2 x _ (ba nE);exact⟨dh,c6.DH hlen μ υ (d2 x _ bP (ba nE) U),gj⟩
   ·have I:=(bV.1 ι).1;simp at I;have kP:j=σ'.length:=γ;subst kP;rw[μ,<-hlen] at ek;simp at ι ek;subst ι;subst ek;rfl
  ·have li:=low i _ gw
   have AQ:=low j _ cz;obtain⟨r1,a1,a2⟩:=back i ef li hi;obtain⟨r2,bK,da⟩:=back j b8 AQ δ;rw[AP i li] at gw;rw[AP j AQ] at cz;exact χ.inj i j r1 r2 b gh gi fZ a1 bK (live a2 hD) (live da eb) gw cz
  ·have AQ:=low j _ hb;obtain⟨r1,a1,a2⟩:=back j r AQ ι;rw[AP j AQ] at hb;exact χ.sep j r1 b N a1 (live a2 e4) hb o
 have oO:Ext S B H S (B++[none]) H:=(χ.push (r:=.cells t k []) (bo:=none) (λb N h=>by cases h) (λb _=>⟨λ_=>rfl,rfl,rfl⟩) (λ_=>rfl)).2.1
 have κ:eO m S B H σ S (B++[none]) H (σ'++[.cells t k []]):=⟨oO,υ.left m⟩
 have r6:∀(l2:ab),(∀p∈l2,v3 σ.length (bc env p.1) p.2)->∀i,au S B σ (bc env i) (bf.getD i undef)->au S (B++[none]) (σ'++[.cells t k []]) (bc l2 i) (bf.getD i undef):=by
  intro l2
  induction l2 with
  | nil=>intro _ i _;exact .cg _
  | cons p l2 ω=>
   intro mr i ι;simp only[bc];split
   ·rename_i e;subst e;exact ι.DH hlen μ υ (mr p η)
   ·exact ω (λq Χ=>mr q (by simp[Χ])) i ι
 refine hW Q mn x cs b _ _ H bf U hb ⟨ij,λi=>r6 env' cU i (ς.b5 i),ς.size,by have:=ς.rows;simp;omega⟩ (λj g3 gk cL eL bH t2 bG Ξ ah aR ca=>?_) (λa g3 gk cL eL bH t2 bG v Ξ ah aR ca iB=>?_)
 ·exact Μ j g3 gk cL eL bH t2 bG Ξ (κ.trans ah) aR ca
 ·exact he a g3 gk cL eL bH t2 bG v Ξ (κ.trans ah) aR ca iB
theorem W.Pj (t:TypeId) (k:Nat) {i:Nat} {r r':Row} (hi:σ[i]?=some r) (ι:n7 σ.length r r') (env':ab) (cU:∀p∈env',v3 σ.length (bc env p.1) p.2) (hW:W P m nt kk env' (σ.set i r'++[.cells t k []]) Z E):W P m nt kk env σ Z E:=
 W.pad t k η (λj q δ=>by
  by_cases e:j=i
  ·subst e;rw[hi] at δ;cases δ;exact⟨r',by rw[List.getElem?_set_self (bV.1 hi).1],ι⟩
  ·exact⟨q,by rw[List.getElem?_set_ne (Ne.symm e)];exact δ,.inl rfl⟩) env' cU hW
end
section
variable {P:Program} {T:a9} {A:List Nat} {m nt:Nat} {k:List Item} {env env':ab} {σ:List Row} {Z:List Item->ab->List Row->Prop} {E:θ->ab->List Row->Prop} {ops:Array Oper} {lo pu ids:List Nat}
def pe (ids:List Nat):θ->Bool
 | .an id _ _ _=>ids.contains id
 | .ms id _ _ _=>ids.contains id
 | _=>false
def seen (ids:List Nat) (σ:List Row):List (Option Row):=ids.map λid=>σ[id]?
def AR (T:a9) (A:List Nat) (env:ab) (o:Oper) (ids:List Nat) (σ:List Row) (K:θ->Prop):Prop:=match o.op with
 | .load ty x=>pe ids (aM env x)=true/\(iZ T A env o).dS (λ_=>False) ((nz T ty σ (aM env x)).dS λa _=>K a)
 | .fieldAddr ty x f=>pe ids (aM env x)=true/\(iZ T A env o).dS (λ_=>False) ((nA T ty f σ (aM env x)).dS λa _=>K a)
 | .indexAddr ty x bY=>pe ids (aM env x)=true/\(iZ T A env o).dS (λ_=>False) ((nB T ty σ (aM env x) (aM env bY)).dS λa _=>K a)
 | _=>False
theorem Ja {o:Oper} {ids:List Nat} {K:θ->Prop}:AR T A env o ids σ K=match o.op with
 | .load ty x=>pe ids (aM env x)=true/\(iZ T A env o).dS (λ_=>False) ((nz T ty σ (aM env x)).dS λa _=>K a)
 | .fieldAddr ty x f=>pe ids (aM env x)=true/\(iZ T A env o).dS (λ_=>False) ((nA T ty f σ (aM env x)).dS λa _=>K a)
 | .indexAddr ty x bY=>pe ids (aM env x)=true/\(iZ T A env o).dS (λ_=>False) ((nB T ty σ (aM env x) (aM env bY)).dS λa _=>K a)
 | _=>False:=Eq.trans rfl rfl
def lU (P:Program) (T:a9) (A:List Nat) (nt:Nat) (ops:Array Oper) (lo pu ids:List Nat):List Nat->ab->List Row->List Bool->(ab->List Row->Prop)->Prop
 | [],env,σ,tags,K=>tt (mh lo pu) ops tags=true/\K env σ
 | i::is,env,σ,tags,K=>gL ops[i]? λo=>g4 nt o=true/\gL (fl env ops o) λw=>
   iC w (lU P T A nt ops lo pu ids is (b6 o env .cg) σ (tags++[false]) K)
    (iC (!lo.contains i) (AR T A env o ids σ λa=>lU P T A nt ops lo pu ids is (b6 o env a) σ (tags++[true]) K)
     (sd P T A env o σ (λa=>lU P T A nt ops lo pu ids is (b6 o env a) σ (tags++[false]) K) (λa σ'=>(pu.contains i=true->seen ids σ'=seen ids σ)/\lU P T A nt ops lo pu ids is (b6 o env a) σ' (tags++[true]) K)))
theorem Pk {tags:List Bool} {K:ab->List Row->Prop}:lU P T A nt ops lo pu ids [] env σ tags K=(tt (mh lo pu) ops tags=true/\K env σ):=Eq.trans rfl rfl
theorem Jb {i:Nat} {is:List Nat} {tags:List Bool} {K:ab->List Row->Prop}:lU P T A nt ops lo pu ids (i::is) env σ tags K=gL ops[i]? λo=>g4 nt o=true/\gL (fl env ops o) λw=>
   iC w (lU P T A nt ops lo pu ids is (b6 o env .cg) σ (tags++[false]) K)
    (iC (!lo.contains i) (AR T A env o ids σ λa=>lU P T A nt ops lo pu ids is (b6 o env a) σ (tags++[true]) K)
     (sd P T A env o σ (λa=>lU P T A nt ops lo pu ids is (b6 o env a) σ (tags++[false]) K) (λa σ'=>(pu.contains i=true->seen ids σ'=seen ids σ)/\lU P T A nt ops lo pu ids is (b6 o env a) σ' (tags++[true]) K))):=Eq.trans rfl rfl
theorem Pl {i:hR} {l:List θ} (τ:List Row):(qS i l).dq τ=match r8 i l with|some a=>.ok a τ|none=>.bad:=by
 unfold qS r8;split
 ·split<;>rfl
 ·cases l<;>rfl
theorem EA {ids:List Nat} {τ:List Row} {id:Nat} (h:seen ids τ=seen ids σ) (hi:ids.contains id=true):τ[id]?=σ[id]?:=by
 have hm:=List.contains_iff_mem.1 hi;exact List.map_inj_left.1 h id hm
theorem Pm {ids:List Nat} {ty:TypeId} {x:θ} {τ:List Row} (kL:seen ids τ=seen ids σ) (U:pe ids x=true):(∀a σ',nz T ty σ x=.ok a σ'->nz T ty τ x=.ok a τ)/\∀p r,nz T ty σ x≠.bX p r:=by
 unfold nz;split
 ·rename_i id n i j;rw[EA kL U];split
  ·split
   ·split
    ·rw[Pl,Pl];split
     ·exact⟨λa σ' h=>(by cases h;rfl),nofun⟩
     ·exact⟨nofun,nofun⟩
    ·exact⟨nofun,nofun⟩
   ·exact⟨nofun,nofun⟩
  ·exact⟨nofun,nofun⟩
 ·exact⟨nofun,nofun⟩
theorem Pn {ids:List Nat} {ty:TypeId} {f:Nat} {x:θ} {τ:List Row} (kL:seen ids τ=seen ids σ) (U:pe ids x=true):(∀a σ',nA T ty f σ x=.ok a σ'->nA T ty f τ x=.ok a τ)/\∀p r,nA T ty f σ x≠.bX p r:=by
 unfold nA;split
 ·rename_i id n i j;rw[EA kL U];split
  ·split
   ·exact⟨λa σ' h=>(by cases h;rfl),nofun⟩
   ·exact⟨nofun,nofun⟩
  ·exact⟨nofun,nofun⟩
 ·exact⟨nofun,nofun⟩
theorem Po {ids:List Nat} {ty:TypeId} {x bY:θ} {τ:List Row} (kL:seen ids τ=seen ids σ) (U:pe ids x=true):(∀a σ',nB T ty σ x bY≠.ok a σ')/\∀p a σ',nB T ty σ x bY=.bX p (.ok a σ')->nB T ty τ x bY=.bX p (.ok a τ):=by
 unfold nB;split
 ·split
  ·rename_i id m i len;rw[EA kL U];split
   ·split
    ·exact⟨nofun,λp a σ' h=>(by cases h;rfl)⟩
    ·exact⟨nofun,nofun⟩
   ·exact⟨nofun,nofun⟩
  ·exact⟨nofun,nofun⟩
 ·split
  ·rename_i id m i j;rw[EA kL U];split
   ·split
    ·exact⟨nofun,λp a σ' h=>(by cases h;rfl)⟩
    ·exact⟨nofun,nofun⟩
   ·exact⟨nofun,nofun⟩
  ·exact⟨nofun,nofun⟩
 ·exact⟨nofun,nofun⟩
theorem aδ (Η:bT P T) {i:Nat} {o:Oper} {K:θ->Prop} (Α:ops[i]?=some o) (hd:g4 nt o=true) (hw:fl env ops o=some true) (h:AR T A env o ids σ K) :
  ∃a,kT o=true/\(∀τ:List Row,seen ids τ=seen ids σ->tu P m nt k Z E ops i o env τ a τ)/\K a:=by
 unfold AR at h;split at h
 ·rename_i ty x Κ;obtain⟨a4,h⟩:=h;unfold cu.dS at h;split at h
  ·exact h.elim
  ·exact h.2.elim
  ·exact h.elim
  ·rename_i oM;unfold cH.dS at h;split at h
   ·rename_i a σ' κ;refine⟨a,by unfold kT;rw[Κ],λτ kL env' rest μ hW=>?_,h⟩;refine .op (A:=A) Η Α (by rw[nM μ];exact hw) hd (λc ε=>by rw[Κ] at ε;cases ε) ?_;have:hU T A env τ o=.ok a τ:=by unfold hU;rw[Κ];exact(Pm kL a4).1 a σ' κ
    rw[vg μ,zE μ,oM,this];exact hW
   ·rename_i p a σ' κ;exact absurd κ ((Pm (σ:=σ) (τ:=σ) rfl a4).2 _ _)
   ·exact h.elim
 ·rename_i ty x f Κ;obtain⟨a4,h⟩:=h;unfold cu.dS at h;split at h
  ·exact h.elim
  ·exact h.2.elim
  ·exact h.elim
  ·rename_i oM;unfold cH.dS at h;split at h
   ·rename_i a σ' κ;refine⟨a,by unfold kT;rw[Κ],λτ kL env' rest μ hW=>?_,h⟩;refine .op (A:=A) Η Α (by rw[nM μ];exact hw) hd (λc ε=>by rw[Κ] at ε;cases ε) ?_;have:hU T A env τ o=.ok a τ:=by unfold hU;rw[Κ];exact(Pn kL a4).1 a σ' κ
    rw[vg μ,zE μ,oM,this];exact hW
   ·rename_i p a σ' κ;exact absurd κ ((Pn (σ:=σ) (τ:=σ) rfl a4).2 _ _)
   ·exact h.elim
 ·rename_i ty x bY Κ;obtain⟨a4,h⟩:=h;unfold cu.dS at h;split at h
  ·exact h.elim
  ·exact h.2.elim
  ·exact h.elim
  ·rename_i oM;unfold cH.dS at h;split at h
   ·rename_i a σ' κ;exact absurd κ ((Po (σ:=σ) (τ:=σ) rfl a4).1 _ _)
   ·rename_i p a σ' κ;refine⟨a,by unfold kT;rw[Κ],λτ kL env' rest μ hW=>?_,h.2⟩;refine .op (A:=A) Η Α (by rw[nM μ];exact hw) hd (λc ε=>by rw[Κ] at ε;cases ε) ?_;have:hU T A env τ o=.bX p (.ok a τ):=by unfold hU;rw[Κ];exact(Po kL a4).2 p a σ' κ
    rw[vg μ,zE μ,oM,this];exact⟨h.1,hW⟩
   ·exact h.elim
 ·exact h.elim
theorem aε (Η:bT P T) {i:Nat} {o:Oper} {hH:θ->Prop} {jb:θ->List Row->Prop} (Α:ops[i]?=some o) (hd:g4 nt o=true) (hw:fl env ops o=some true) (h:sd P T A env o σ hH jb) :
  ∃a σ' tag,hY P m nt k Z E ops i o env σ tag a σ'/\(tag=false->hH a/\σ'=σ)/\(tag=true->jb a σ'):=by
 unfold sd at h;split at h
 ·rename_i f args ej Κ;have zF:∀env',sb ops o env env'->aM env' f=aM env f/\args.toList.map (aM env')=args.toList.map (aM env):=λenv' μ=>by
   have U:=Da μ;rw[Κ] at U;refine⟨U f (by simp[Op.operands,Call.operands]),Dc λx G1=>U x (by simp[Op.operands,Call.operands,G1])⟩
  rcases h with⟨r,ε,h⟩|⟨r,σ',ε,h⟩
  ·refine⟨r,σ,false,?_,λ_=>⟨h,rfl⟩,nofun⟩;unfold hY;simp only[Bool.false_eq_true,if_false];refine⟨λenv' σ' rest μ hW=>.call Α (by rw[nM μ];exact hw) hd Κ ?_,trivial⟩;obtain⟨Γ,Θ⟩:=zF env' μ;rw[Γ,Θ];exact(ε σ').mono (λa s ⟨x,y⟩=>by subst x;subst y;exact hW) (λ_ _ h=>h.elim)
  ·refine⟨r,σ',true,?_,nofun,λ_=>h⟩;unfold hY;simp only[if_true];refine⟨?_,λι=>by unfold kT at ι;rw[Κ] at ι;cases ι⟩;refine λenv' rest μ hW=>.call Α (by rw[nM μ];exact hw) hd Κ ?_;obtain⟨Γ,Θ⟩:=zF env' μ;rw[Γ,Θ];exact ε.mono (λa s ⟨x,y⟩=>by subst x;subst y;exact hW) (λ_ _ h=>h.elim)
 ·exact h.elim
 ·exact h.elim
 ·rename_i I R ν;have zG:∀(r:cu) (a:θ),iZ T A env o=r->(∀K:θ->List Row->Prop,∀s,K a s->(r.dq s).holds K)->(∀σ s,r.or σ s=r.dq σ)->zA P m nt k Z E ops i o env a:=λr a ι aX G2 env' σ' rest μ hW=>by
   refine .op (A:=A) Η Α (by rw[nM μ];exact hw) hd (λc ε=>ν c ε) ?_;rw[vg μ,ι,G2];exact aX _ _ hW
  unfold cu.dS at h;split at h
  ·rename_i a κ;refine⟨a,σ,false,?_,λ_=>⟨h,rfl⟩,nofun⟩;unfold hY;simp only[Bool.false_eq_true,if_false];exact⟨zG _ a κ (λK s ψ=>ψ) (λ_ _=>rfl),trivial⟩
  ·rename_i p a κ;refine⟨a,σ,false,?_,λ_=>⟨h.2,rfl⟩,nofun⟩;unfold hY;simp only[Bool.false_eq_true,if_false];exact⟨zG _ a κ (λK s ψ=>⟨h.1,ψ⟩) (λ_ _=>rfl),trivial⟩
  ·exact h.elim
  ·rename_i oM;have zH:∀(a:θ) (σ':List Row) (r:cH),hU T A env σ o=r->(∀K:θ->List Row->Prop,K a σ'->r.holds K)->tu P m nt k Z E ops i o env σ a σ':=λa σ' r ι aX env' rest μ hW=>by
    refine .op (A:=A) Η Α (by rw[nM μ];exact hw) hd (λc ε=>ν c ε) ?_;rw[vg μ,zE μ,oM,ι];exact aX _ hW
   unfold cH.dS at h;split at h
   ·rename_i a σ' κ;refine⟨a,σ',true,?_,nofun,λ_=>h⟩;unfold hY;simp only[if_true];exact⟨zH a σ' _ κ λK ψ=>ψ,λι=>De (p:=True) ι (.inl κ)⟩
   ·rename_i p a σ' κ;refine⟨a,σ',true,?_,nofun,λ_=>h.2⟩;unfold hY;simp only[if_true];exact⟨zH a σ' _ κ λK ψ=>⟨h.1,ψ⟩,λι=>De ι (.inr κ)⟩
   ·exact h.elim
def Jc (lo pu ids:List Nat) (P:Program) (m nt:Nat) (k:List Item) (Z:List Item->ab->List Row->Prop) (E:θ->ab->List Row->Prop) (ops:Array Oper) (i:Nat) (o:Oper) (env:ab) (σ:List Row) (tag:Bool) (a:θ) (σ':List Row):Prop:=
 hY P m nt k Z E ops i o env σ tag a σ'/\(lo.contains i=true->tag=true->kT o=true/\∀τ:List Row,seen ids τ=seen ids σ->tu P m nt k Z E ops i o env τ a τ)/\(pu.contains i=true->seen ids σ'=seen ids σ)
theorem aζ (Η:bT P T) {i:Nat} {is:List Nat} {tags:List Bool} {K:ab->List Row->Prop} (h:lU P T A nt ops lo pu ids (i::is) env σ tags K) :
  ∃o a σ' tag,ops[i]?=some o/\Jc lo pu ids P m nt k Z E ops i o env σ tag a σ'/\lU P T A nt ops lo pu ids is (b6 o env a) σ' (tags++[tag]) K:=by
 unfold lU gL at h;split at h
 ·exact h.elim
 ·rename_i o Α;obtain⟨hd,h⟩:=h;split at h
  ·exact h.elim
  rename_i w hw;unfold iC at h;cases w
  ·replace h:=h.1 rfl
   refine⟨o,.cg,σ,false,Α,⟨?_,λ_ h=>(by cases h),λ_=>rfl⟩,h⟩;unfold hY;simp only[Bool.false_eq_true,if_false];exact⟨λenv' σ' rest μ hW=>.unwanted Α (by rw[nM μ];exact hw) hd hW,trivial⟩
  ·replace h:=h.2 rfl
   cases υ:lo.contains i with
   | true=>
    rw[υ] at h;obtain⟨a,I,R,ν⟩:=aδ (m:=m) (k:=k) (Z:=Z) (E:=E) Η Α hd hw (h.1 rfl);refine⟨o,a,σ,true,Α,⟨?_,λ_ _=>⟨I,R⟩,λ_=>rfl⟩,ν⟩;unfold hY;simp only[if_true];exact⟨R σ rfl,λ_=>trivial⟩
   | false=>
    rw[υ] at h;obtain⟨a,σ',tag,I,R,ν⟩:=aε (m:=m) (k:=k) (Z:=Z) (E:=E) Η Α hd hw (h.2 rfl);cases tag with
    | false=>
     obtain⟨Ι,rfl⟩:=R rfl;exact⟨o,a,σ',false,Α,⟨I,λU=>(by rw[υ] at U;cases U),λ_=>rfl⟩,Ι⟩
    | true=>
     obtain⟨Ι,aB⟩:=ν rfl;exact⟨o,a,σ',true,Α,⟨I,λU=>(by rw[υ] at U;cases U),Ι⟩,aB⟩
theorem aη (Η:bT P T) {K:ab->List Row->Prop} {env0:ab}:∀(d i:Nat) (tags:List Bool) (as9:Nat->θ) (σs:Nat->List Row),i+d=ops.size->tags.length=i->
  (∀j o,j<i->ops[j]?=some o->Jc lo pu ids P m nt k Z E ops j o (dE ops env0 as9 (λ_=>true) j) (σs j) (tags.getD j false) (as9 j) (σs (j+1)))->
  lU P T A nt ops lo pu ids (List.range' i d) (dE ops env0 as9 (λ_=>true) i) (σs i) tags K->
  ∃(tags:List Bool) (as9:Nat->θ) (jd:Nat->List Row),tt (mh lo pu) ops tags=true/\jd 0=σs 0/\(∀j o,ops[j]?=some o->Jc lo pu ids P m nt k Z E ops j o (dE ops env0 as9 (λ_=>true) j) (jd j) (tags.getD j false) (as9 j) (jd (j+1)))/\K (dE ops env0 as9 (λ_=>true) ops.size) (jd ops.size):=by
 intro d
 induction d with
 | zero=>
  intro i tags as9 σs hi Ν δ h;simp only[List.range'_zero,lU] at h;have:i=ops.size:=γ;subst this;exact⟨tags,as9,σs,h.1,rfl,λj o Α=>δ j o (Array.getElem?_eq_some_iff.1 Α).1 Α,h.2⟩
 | succ d ω=>
  intro i tags as9 σs hi Ν δ h;rw[List.range'_succ] at h;obtain⟨o,a,σ',tag,Α,G3,h⟩:=aζ (m:=m) (k:=k) (Z:=Z) (E:=E) Η h;let kz:Nat->θ:=λj=>if j=i then a else as9 j
  let jd:Nat->List Row:=λj=>if j=i+1 then σ' else σs j
  have vh:∀j,j<=i->dE ops env0 as9 (λ_=>true) j=dE ops env0 kz (λ_=>true) j:=λj δ=>ME j λx U=>by simp only[kz];rw[if_neg γ]
  have G4:dE ops env0 kz (λ_=>true) (i+1)=b6 o (dE ops env0 as9 (λ_=>true) i) a:=by
   simp only[dE,if_true,Α];rw[<-vh i (Nat.le_refl i)];simp only[kz,if_true]
  have:=ω (i+1) (tags++[tag]) kz jd γ (by simp[Ν]) (λj eF aI gl=>?_) ?_
  ·obtain⟨t2,a2,s2,Ξ,ah,aR,ca⟩:=this;exact⟨t2,a2,s2,Ξ,ah.trans (by simp only[jd];rw[if_neg γ]),aR,ca⟩
  ·by_cases e:j=i
   ·subst e;rw[Α] at gl;cases gl;rw[<-vh j (Nat.le_refl j)];have Γ:(tags++[tag]).getD j false=tag:=by rw[List.getD_eq_getElem?_getD,h4 γ,Ν];simp
    rw[Γ];simp only[kz,jd,if_true];rw[if_neg γ];exact G3
   ·have:=δ j eF γ gl;rw[<-vh j γ];have Γ:(tags++[tag]).getD j false=tags.getD j false:=by rw[List.getD_eq_getElem?_getD,dv γ,<-List.getD_eq_getElem?_getD]
    rw[Γ];simp only[kz,jd];rw[if_neg γ,if_neg γ,if_neg γ];exact this
  ·rw[G4];simp only[jd,if_true];exact h
theorem W.Pp (lo pu ids:List Nat) (Η:bT P T) (vi:P.follows .mixedOrders=true) {id:Nat} (h:∀Δ:ab->List Row->Prop,(∀env σ,W P m nt k env σ Z E->Δ env σ)->lU P T A nt ops lo pu ids (idx ops.size []) env σ [] Δ):W P m nt (.code (.region id ops true)::k) env σ Z E:=by
 have ao:=h (λenv σ=>W P m nt k env σ Z E) λ_ _ h=>h;rw[idx_eq,List.range_eq_range'] at ao;obtain⟨tags,as9,σs,Ξ,ah,aR,ca⟩:=aη (m:=m) (k:=k) (Z:=Z) (E:=E) (env0:=env) Η ops.size 0 [] (λ_=>.cg) (λ_=>σ) γ rfl (λj o δ=>γ) ao;intro Q mn x cs b S B H t U hb ς Μ he;refine .draw U hb λn=>?_;have key:=W.Mu (lo:=lo) (pu:=pu) (v:=seen ids) (P:=P) (m:=m) (nt:=nt) (k:=k) (Z:=Z) (E:=E) (ops:=ops) (as9:=as9) (σs:=σs) (tags:=tags) (env0:=env) Ξ
  (λi o Α Ν=>by have:=(aR i o Α).1;unfold hY at this;rw[Ν] at this;simpa using this)
  (λi o Α Ν=>by have:=(aR i o Α).1;unfold hY at this;rw[Ν] at this;simpa using this)
  (λi o Α υ Ν=>(aR i o Α).2.1 υ Ν) (λi o Α ς=>(aR i o Α).2.2 ς)
  (.bJ ca) ops.size n (Array.replicate ops.size false) env 0 η (λi=>?_) (λi o Α υ=>?_) (Nat.zero_le _) (λj δ _=>?_) ?_
 ·rw[ah] at key;rw[vi];simp only[Region.schedule,Bool.true_or,if_true,Region.linearise];exact key Q mn x cs b S B H t U hb ς Μ he
 ·have:∀n,dE ops env as9 (λi=>(Array.replicate ops.size false).getD i false) n=env:=by
   intro n
   induction n with
   | zero=>rfl
   | succ n ω=>
    simp only[dE];have:(Array.replicate ops.size false).getD n false=false:=by
     rw[Array.getD_eq_getD_getElem?,Array.getElem?_replicate];split<;>rfl
    rw[if_neg (by rw[this];simp)];exact ω
  rw[this]
 ·have:(Array.replicate ops.size false).getD i false=false:=by
   rw[Array.getD_eq_getD_getElem?,Array.getElem?_replicate];split<;>rfl
  rw[this] at υ;cases υ
 ·have:(Array.replicate ops.size false).getD j false=false:=by
   rw[Array.getD_eq_getD_getElem?,Array.getElem?_replicate];split<;>rfl
  rw[this];simp
 ·have:=List.length_filter_le (λi=>!(Array.replicate ops.size false).getD i false) (List.range ops.size);simpa using this
end
end Go.TL
namespace Go.TL
open Go.Proofs
variable [bj]
def fO (b:Nat):List (List cG)->List θ
 | []=>[]
 | l::C=>.ms b l.length 0 l.length::fO (b+1) C
def gE (C:List (List cG)):List Row:=C.map λl=>.cells 28 3 (l.map cA)
theorem aθ (b:Nat) (C:List (List cG)) (l:List cG):fO b (C++[l])=fO b C++[.ms (b+C.length) l.length 0 l.length]:=by
 induction C generalizing b with
 | nil=>rfl
 | cons c C ω=>
  show _::fO (b+1) (C++[l])=_;rw[ω,show b+1+C.length=b+(c::C).length by simp;omega];rfl
theorem x8 (b:Nat) (C:List (List cG)):(fO b C).length=C.length:=by
 induction C generalizing b with
 | nil=>rfl
 | cons c C ω=>simp[fO,ω]
theorem Jd (σ L:List Row) (k:Nat):(σ++L)[σ.length+k]?=L[k]?:=by rw[h4 γ];congr 1;omega
theorem Pq (σ L:List Row):(σ++L)[σ.length]?=L[0]?:=Jd σ L 0
theorem Je (σ L:List Row) (k:Nat) (x:Row):(σ++L).set (σ.length+k) x=σ++L.set k x:=by rw[List.set_append_right _ _ γ];congr 2;omega
theorem Pr (σ L:List Row) (x:Row):(σ++L).set σ.length x=σ++L.set 0 x:=Je σ L 0 x
structure pf where
 fS:List Int
 state:Int
def aι (d:pf):Int:=IntKind.u64.wrap (d.fS.headD 0)
def Ps (d:pf):Int:=IntKind.u64.wrap (IntKind.u64.wrap (IntKind.u64.wrap (d.state+(if d.fS=[] then 0 else aι d))+6364136223846793005)*15074714826142052245)
def aκ (d:pf):Int:=F8 .u64 (Ps d) ((Ps d).fdiv (2 ^ min 29 IntKind.u64.bits))
def pf.next (d:pf):pf:=⟨d.fS.tail,aκ d⟩
def pf.after (d:pf) (n:Int):pf:=if n<=0 then d else d.next
end Go.TL
namespace Go.TL
open Go.Proofs
end Go.TL
namespace Go.TL
open Go.Proofs
variable [bj]
end Go.TL
