import Derived.Test.YtlabjopijpkiaaaGreatQAV
import Derived.Test.YtlabjopijpkiaaaGreatQBA
import Derived.Test.YtlabjopijpkiaaaGreatQBB
import Derived.Test.YtlabjopijpkiaaaGreatQBM
set_option maxHeartbeats 16000000
set_option maxRecDepth 20000
set_option linter.unusedSectionVars false
set_option linter.unusedSimpArgs false
set_option linter.unusedVariables false
namespace Go.TL
open Go.Conc Go.Proofs
open Go.ConcN (sumTo upd sumTo_upd upd_ne upd_same sumTo_congr le_sumTo)
abbrev DS:θ:=.fn (.func 148) [] []
theorem Za [bd] (x y:Found):fT Tryz.prog DS [cX x,cX y] (U (r8 x y)):=fun σ=>(UH x y).c (aI.refl _) (by simp) (by simp) ⟨rfl,rfl⟩
section
variable {y:aR} {Q:Value→Prop} {mn:Bool} {β s m o:Nat} {e3 bE:aA} {dE H1:ψ} {fd:Nat→Option Found} {sp:Spec} {dM:aM} {v:Option (Nat×aK)} {vs:Array Value} {c:Frame} {cs:List Frame}
theorem Zb (η:lf y s sp) (e':sp.aQ=some m) (da:sp.aG=vg β bE o fd) (dJ:∀k E,sp.D k E→E=ψ.empty) (Ie:∀L:List Nat,L.Nodup→(L.filterMap fd).length≤3) {kA:List Found} (Ig:(List.range 3).filterMap fd=kA) (tt:kA.Pairwise nH)
  (Ih:∀v,Calm (br y s (.par 3 0 .bw) v 0)) (k0:uG Tryz.prog Q mn calm c cs e3 [] dE [] (fun a s=>db a (cJ kA)∧s=[]) (fun _ _=>False)) (zV:Ext e3 [] dE bE [] H1) (Ii:dE.fresh β) :
  V Tryz.prog Q mn (one (br y s (.par 3 0 .add) v 0)) (DQ vs) (c::cs) 23 ⟨bE,[],H1,[],0⟩ [.code (dx [1,1,1,1,1] xl)] (env0 s m o dM []) []:=by
 letI:bd:=eF;have δ:=η.seq;refine V.a' (δ _ _ _) rfl ?_;simp only[xl,Tryz.f116,Option.getD_some,dx]
 repeat first|apply aV|apply wb|apply aX|apply wd
 refine W.ca (.stop ?_);refine V.call (δ _ _ _) ⟨rfl,rfl,by simp[Frame.enter],rfl⟩ rfl rfl rfl ⟨_,Tryz.func146,rfl,rfl⟩ fun S B H t oq μ χ hv=>?_;obtain rfl:=l4 (l:=[ptr s 0]) hv;obtain rfl:B=[]:=dq.1 χ.holds.len;rintro kY rfl;refine Xq η χ.holds (n:=3) fun au H' fM fh gj ej he Α Kd Zc Zd cm a1 bg cv hw v2 cO bJ mE=>?_;rw[hO rfl];obtain rfl:=Y' dJ fM gj Zc;rw[E1] at mE;obtain⟨kR,N'⟩:=Zd (by rw[e'];simp);rw[da] at N';obtain⟨hi,g7,qM,vi,e1⟩:=N';obtain⟨w,f1,f2,f3⟩:=hw;obtain⟨G,cY⟩:∃G,G=fh.filterMap fd:=⟨_,rfl⟩;have Ij:G.Perm kA:=by rw[cY,←Ig];exact kR.filterMap _
 have gΓ:G.length≤3:=by rw[cY];exact Ie fh (kR.nodup_iff.2 List.nodup_range)
 rw[←cY] at vi;obtain⟨HR,l1,l2⟩:=ND Α vi bg ⟨w,f1,f3⟩ (Dy _);have vl:=XW (zV.trans (μ.ext.trans he)) (μ.ext.trans he).c6 Ii hi Α vi (Dy _);obtain⟨ew,en⟩:=HR.ri (fun b hb=>mE.ri hb) mE.grow;have Ze:=vl.trans en;have ay:t.getD 5 undef=ptr o 0:=by
  have:=χ.cj 5;simp only[a5] at this;generalize t.getD 5 undef=u at this;cases this;rfl
 have ow:c7 (au.plus g7) qM (gh (G.map cX)) [(5,.ag 0 1 0 0)] (t.setIfInBounds 19 (.tuple #[])):=fun i=>by
  simp only[a5];split
  ·rename_i e;subst e;have eR:(t.setIfInBounds 19 (.tuple #[])).getD 5 undef=ptr o 0:=by
    rw[←ay,Array.getD_eq_getD_getElem?,Array.getD_eq_getD_getElem?,Array.getElem?_setIfInBounds_ne (by decide)]
   rw[eR];have:=aj.ag (S:=au.plus g7) (B:=qM) (σ:=gh (G.map cX)) (id:=0) (n:=1) (i:=0) (j:=0) (k:=1) (t:=99) (l:=[r7 (G.map cX)]) (b:=o) (N:=1) (by simp[gh]) rfl e1;simpa using this
  ·exact .cp _
 refine V.here (x:=one _) (m:=0) (nt:=23) (S:=au.plus g7) (B:=qM) (σ:=gh (G.map cX)) (env:=[(5,.ag 0 1 0 0)]) ?_ ⟨ew,ow,Eq.trans (Array.size_setIfInBounds ..) χ.size,Nat.zero_le _⟩ _ rfl;have fin:∀(e:Bool) (k:Nat),db (.sl e k (kA.map cX)) (cJ kA)→V Tryz.prog Q mn (one (br y s (.par 3 0 .bw) v2 0)) (DQ vs) (c::cs) 23 ⟨au.plus g7,qM,bJ,gh (G.map cX),0⟩ [.code .ret] [(2,.sl e k (kA.map cX))] []:=fun e k Ik=>by
  intro hU jh hk t5 jH kz;obtain rfl:jh=[]:=dq.1 kz.holds.len;refine aJ.ret (δ _ _ _) rfl rfl (aJ.back (δ _ _ _) rfl rfl (.inl rfl) Tryz.func116 ?_);refine ς.mono (fun u Hy ⟨Hx,Zf,kK,AB,a6,Ey⟩=>?_) (fun _ _ h=>h) _ (Cl Θ (a:=.sl e k (kA.map cX)) rfl kz.holds kz.cj);obtain rfl:Zf=[]:=dq.1 a6.len;rintro kY rfl;have Dl:=Ze.trans (jH.ext.trans kK);exact k0.ret _ [] Hx [] Hy u ⟨Ik,rfl⟩ Dl ⟨Dl.c6,fun id r h=>by simp at h⟩ a6 Ey _ (Ih _)
 refine V.a' (δ _ _ _) rfl ?_;refine W.bB ?_;have n5:∀e∈G.map cX,∀a∈e.cells,az 0 a:=fun e he a μ=>by
  obtain⟨z,_,rfl⟩:=List.mem_map.1 he;exact wG z a μ
 by_cases Ν:G=[]
 ·subst Ν;have Zg:kA=[]:=Ij.symm.eq_nil;subst Zg;(repeat (first|apply aV|apply wb|apply aX|apply wd));refine ν fun J I=>?_;simp;(repeat (rw[ζ];simp[gh,HO,iG]));refine av.c (Vw DS (by simp)) (aI.refl _) (by simp) (by simp) ?_;simp;(repeat (rw[ζ];simp));apply I;clear I J;(repeat (first|apply aV|apply wb|apply aX|apply wd));refine ν fun J I=>?_;simp;(repeat (rw[ζ];simp));apply I;clear I J;refine W.cut 0 (Nat.zero_le _) [(2,.sl true 0 [])] (Nat.zero_le _) (fun id r h=>by omega) (by simp;exact .low (by simp)) ?_;exact .stop (fin _ _ .nil)
 ·have kN:G.map cX≠[]:=by simpa using Ν
  have ξ:=Y8 Ij tt;(repeat (first|apply aV|apply wb|apply aX|apply wd));refine ν fun J I=>?_;simp;(repeat (rw[ζ];simp[gh,Dx kN,ea kN]));have Oa:=UO G.toArray G.length (by simp) (by omega) DS r8 (by simp) Za;rw[ξ] at Oa;have hlen:kA.length=G.length:=Ij.length_eq.symm;have bR:az 0 DS:=by simp
  have Ob:∀e∈kA.map cX,∀a∈e.cells,az 0 a:=fun e he a μ=>by
   obtain⟨z,_,rfl⟩:=List.mem_map.1 he;exact wG z a μ
  refine ak.one Oa 1 rfl n5 Ob (by simp[nn,uS,bR.ih 1]) (by simp[fJ]) (by simp[np,nq,bR.dP [1]]) ?_;simp[dP,hE];(repeat (rw[ζ];simp));apply I;clear I J;(repeat (first|apply aV|apply wb|apply aX|apply wd));refine ν fun J I=>?_;simp;(repeat (rw[ζ];simp));apply I;clear I J;refine W.cut 0 (Nat.zero_le _) [(2,.sl false 3 (kA.map cX))] (Nat.zero_le _) (fun id r h=>by omega) (fun p χ=>?_) ?_
  ·obtain rfl:p=(2,.sl false 3 (kA.map cX)):=by simpa using χ
   refine ey.own (id:=1) (t:=110) (Nat.zero_le _) rfl (by simp[hlen]) Ob
  ·exact .stop (fin _ _ (.refl _))
end
theorem Il {P:Program} {ty:TypeId} {z:Value} (h:((P.info? ty).bind (·.zero))=some z):∃inf,P.info? ty=some inf∧inf.zero=some z:=by
 cases hi:P.info? ty with
 | none=>rw[hi] at h;cases h
 | some inf=>rw[hi] at h;exact⟨inf,rfl,h⟩
theorem Zh:((Tryz.prog.info? 173).bind (·.zero))=some (.agg #[.int .i32 0,.int .u32 0]):=by kernel_rfl
theorem Zi:((Tryz.prog.info? 179).bind (·.zero))=some (.agg #[.int .u64 0,.int .u32 0]):=by kernel_rfl
theorem Zj:((Tryz.prog.info? 99).bind (·.zero))=some (.slice none 0 0):=by kernel_rfl
theorem Zk {o:Nat}:Holds eX [some (o,1)] (gh []) (ψ.empty.dn o #[.slice none 0 0] 99):=by
 have ae:Holds eX [] [] ψ.empty:=xa _
 have ω:fw eX [] [] #[.slice none 0 0] 1 [.sl true 0 []]:=fw.one (a:=.sl true 0 []) (v:=.slice none 0 0) (.h7 none 0 fun _=>rfl) rfl;exact(yC (P:=Tryz.prog) (K:=fun r G=>Holds eX [some (r,1)] (gh []) G) (E:=fun _ _=>False) ae ω 99 fun r _ R _ _=>R).2 o ⟨fun _=>rfl,rfl,rfl,fun _ _=>⟨fun _=>rfl,rfl,rfl⟩⟩
section
variable {fd:Nat→Option Found} {pr:Nat→Int×Int} {F:Nat→Found} {N:Nat→Nat} {dM:aM} {kA:List Found}
theorem Zl (dR:DR dM fd pr F N) (fg:pr 0=(1,0)) (dB:pr 1=(2,0)) (p2:pr 2=(2,1)) (Ig:(List.range 3).filterMap fd=kA) (tt:kA.Pairwise nH):@av nG Tryz.prog 116 [eP dM] (cJ kA):=by
 refine⟨⟨_,Tryz.func116,rfl,rfl⟩,fun Q mn x c rest e3 eg dE vs tn ra H0 k0=>?_⟩;obtain rfl:x=calm:=@Seq.cls nG x tn;obtain rfl:eg=[]:=dq.1 ra.len;rintro y ⟨dQ,fu,sF,cM⟩;letI:bd:=eF;have δ:Seq (one y):=Seq.tf trivial dQ fu;rw[pj (body:=xl) Tryz.func116 rfl];refine V.here (x:=one y) (m:=0) (nt:=23) (S:=e3) (B:=[]) (H:=dE) (σ:=[]) (env:=entry 0 [eP dM]) ?_ (fj.enter ra H0 (Nat.le_refl _) (by simp)) y rfl;refine V.a' δ rfl ?_;simp only[xl,Tryz.f116,Option.getD_some]
 repeat first|apply aV|apply wb|apply aX|apply wd
 refine W.ca (.stop ?_);refine V.boxed δ rfl rfl rfl rfl rfl (l:=[aP dM.af,aO dM.an,bz dM.cells]) rfl rfl (by simp) fun S B H t β c1 μ χ mq Zm ω he Zn H3=>?_;obtain rfl:B=[]:=dq.1 χ.holds.len;refine V.here (x:=one y) (m:=0) (nt:=23) (S:=S.lay β c1) (B:=[]) (σ:=[]) (env:=[(1,.aa [aP dM.af,aO dM.an,bz dM.cells])]) ?_
  ⟨Zn,vj (c7.put (χ.cj.later ω) (d:=1) (by rw[χ.size];omega) H3) (by simp),Eq.trans (Array.size_setIfInBounds ..) χ.size,Nat.zero_le _⟩
 refine V.a' δ rfl ?_;refine W.part (A:=[]) Θ [1] [] rfl fun J I=>?_;(try simp);(repeat (rw[ζ];simp));apply I;clear I J;refine W.bB ?_
 repeat first|apply aV|apply wb|apply aX|apply wd
 refine W.ca (.stop ?_);intro cO eV bJ t2 qw lT;obtain rfl:eV=[]:=dq.1 lT.holds.len;rintro kY rfl;obtain⟨i1,Ξ,ad⟩:=Il Zh;obtain⟨i2,aT,ck⟩:=Il Zi;obtain⟨i3,gm,hQ⟩:=Il Zj;refine cf.H7 dQ ⟨rfl,rfl,by simp[Frame.enter],rfl⟩ rfl rfl Ξ ad fun m hY _=>?_;refine cf.next ?_ ?_ ?_
 ·exact .inl dQ
 ·rfl
 refine cf.H7 ?_ ⟨rfl,rfl,by simp[Frame.enter],rfl⟩ rfl rfl aT ck fun s qJ dI=>?_
 ·exact dQ
 refine cf.next ?_ ?_ ?_
 ·exact .inl dQ
 ·rfl
 refine cf.H7 ?_ ⟨rfl,rfl,by simp[Frame.enter],rfl⟩ rfl rfl gm hQ fun o xn vP=>?_
 ·exact dQ
 have q8:m<s:=dI m _ (upd_same ..)
 have H9:s<o:=vP s _ (upd_same ..);obtain⟨sp,bQ⟩:∃sp:Spec,sp=⟨some m,vg β cO o fd,fun _ E=>E=ψ.empty,3⟩:=⟨_,rfl⟩;have DT:∃q v,cO β q=some v:=let ⟨u,hu⟩:=Zm;⟨0,u,qw.ext.c6 _ _ _ hu⟩;have m6:∃q x,bJ.aF β q=some x:=let ⟨q,u,hu⟩:=DT;let ⟨p,χ⟩:=lT.holds.c6 _ _ _ hu;⟨q,_,χ⟩;have Oc:β<o:=let ⟨_,_,h⟩:=m6;HM h xn;have e':sp.aQ=some m:=by rw[bQ]
 have da:sp.aG=vg β cO o fd:=by rw[bQ]
 have dJ:∀k E,sp.D k E↔E=ψ.empty:=fun k E=>by rw[bQ]
 have gg:sp.top=3:=by rw[bQ]
 clear bQ;have Zo:sp.aG [] (ψ.empty.dn o #[.slice none 0 0] 99):=by
  rw[da];refine⟨⟨fun b q x hb=>?_,fun b x hb=>?_,fun b x hb=>(by cases hb)⟩,eX,_,Zk,rfl⟩
  ·by_cases e:b=o
   ·exact .inr (e▸Oc)
   ·simp[ψ.dn,e,ψ.empty] at hb
  ·by_cases e:b=o
   ·exact e▸Oc
   ·simp[ψ.dn,e,ψ.empty] at hb
 refine cf.group (y:=kY) (sp:=sp) dQ fu q8 H9 e' xn Zo ?_;obtain⟨kU,pI⟩:∃kU:aR,kU={kY with spec:=upd kY.spec s (some sp)}:=⟨_,rfl⟩;have Zp:({kY with tok:=upd kY.tok s (.par 0 0 .add),spec:=upd kY.spec s (some sp),view:=upd kY.view s none}:aR)=br kU s (.par 0 0 .add) none 0:=by
  rw[pI];unfold br;simp only[sF]
 rw[Zp];have z4:lf kU s sp:=by
  rw[pI];refine⟨dQ,fu,upd_same ..,by rw[gg];decide,fun bj _=>?_⟩;have:=cM bj;show ml (kY.tok bj);cases Od:kY.tok bj with
  | nil=>trivial
  | par n p aB=>rw[Od] at this;cases aB<;>first|trivial|exact this.elim
  | ch k mu g=>rw[Od] at this;exact this.elim
 have Ih:∀v,Calm (br kU s (.par 3 0 .bw) v 0):=fun v=>by
  rw[pI];refine⟨dQ,fu,rfl,fun bj=>?_⟩;by_cases e:bj=s
  ·subst e;rw[bZ];trivial
  ·rw[zA e];exact cM bj
 have rM:=z4.seq
 have Ie:=dR.s6
 have zV:Ext e3 [] dE cO [] bJ:=μ.ext.trans (he.trans qw.ext)
 have Ii:dE.fresh β:=μ.ext.grow _ mq;refine V.here (x:=one _) (m:=0) (nt:=23) (S:=cO) (B:=[]) (σ:=[]) (env:=env0 s m o dM []) ?_
  ⟨lT.holds,vj (c7.put (c7.put (c7.put lT.cj (d:=3) (by rw[lT.size];omega) (.z (ptr m 0))) (d:=4) (by rw[Array.size_setIfInBounds,lT.size];omega) (.z (ptr s 0))) (d:=5) (by rw[Array.size_setIfInBounds,Array.size_setIfInBounds,lT.size];omega) (.z (ptr o 0))) (by simp),
   Eq.trans (Array.size_setIfInBounds ..) (Eq.trans (Array.size_setIfInBounds ..) (Eq.trans (Array.size_setIfInBounds ..) lT.size)),Nat.zero_le _⟩ _ rfl
 have w1:IntKind.i64.wrap 1=1:=by decide
 have w2:IntKind.i64.wrap 2=2:=by decide
 have w3:IntKind.i64.wrap 3=3:=by decide
 refine V.a' (rM _ _ _) rfl ?_;refine W.bB ?_;(repeat (first|apply aV|apply wb|apply aX|apply wd|refine al rfl ?_|refine ah rfl ?_|(refine ν fun J I=>?_;simp;(repeat (rw[ζ];simp));apply I;clear I J)));refine .loop ?_;(repeat (first|apply aV|apply wb|apply aX|apply wd|refine al rfl ?_|refine ah rfl ?_|(refine ν fun J I=>?_;simp;(repeat (rw[ζ];simp));apply I;clear I J)));refine de (A:=[6]) Θ fun J I=>?_;simp;(repeat (rw[ζ];simp));apply I;clear I J;refine W.fix (id:=0) (σ':=[]) (Nat.zero_le _) rfl (by simp) (by simp) rfl ((6,.aa [U 0])::env0 s m o dM [(8,U 0)]) (by simp) ?_;(repeat (first|apply aV|apply wb|apply aX|apply wd|refine al rfl ?_|refine ah rfl ?_|(refine ν fun J I=>?_;simp;(repeat (rw[ζ];simp));apply I;clear I J)));refine .loop ?_;(repeat (first|apply aV|apply wb|apply aX|apply wd|refine al rfl ?_|refine ah rfl ?_|(refine ν fun J I=>?_;simp;(repeat (rw[ζ];simp));apply I;clear I J)));refine W.exit rfl ?_;(repeat (first|apply aV|apply wb|apply aX|apply wd|refine al rfl ?_|refine ah rfl ?_|(refine ν fun J I=>?_;simp;(repeat (rw[ζ];simp[w1,w2,w3]));apply I;clear I J)));refine .inLoop ?_;(repeat (first|apply aV|apply wb|apply aX|apply wd|refine al rfl ?_|refine ah rfl ?_|(refine ν fun J I=>?_;simp;(repeat (rw[ζ];simp));apply I;clear I J)));refine de (A:=[6]) Θ fun J I=>?_;simp;(repeat (rw[ζ];simp));apply I;clear I J;refine W.fix (id:=0) (σ':=[]) (Nat.zero_le _) rfl (by simp) (by simp) rfl ((6,.aa [U 1])::env0 s m o dM [(8,U 1)]) (by simp) ?_;(repeat (first|apply aV|apply wb|apply aX|apply wd|refine al rfl ?_|refine ah rfl ?_|(refine ν fun J I=>?_;simp;(repeat (rw[ζ];simp));apply I;clear I J)));refine .loop ?_;(repeat (first|apply aV|apply wb|apply aX|apply wd|refine al rfl ?_|refine ah rfl ?_|(refine ν fun J I=>?_;simp;(repeat (rw[ζ];simp));apply I;clear I J)));refine de (A:=[7]) Θ fun J I=>?_;simp;(repeat (rw[ζ];simp));apply I;clear I J;refine W.fix (id:=0) (σ':=[]) (Nat.zero_le _) rfl (by simp) (by simp) rfl (xm s m o dM 1 0 [(8,U 1),(11,U 1),(12,U 0)]) (by simp) ?_;refine W.stop (Ia fg z4 e' da (fun k=>(dJ k _).2 rfl) gg (by decide) dR DT m6 (by simp) ?_);refine V.a' (rM _ _ _) rfl ?_;(repeat (first|apply aV|apply wb|apply aX|apply wd|refine al rfl ?_|refine ah rfl ?_|(refine ν fun J I=>?_;simp;(repeat (rw[ζ];simp[w1,w2,w3]));apply I;clear I J)));refine .inLoop ?_;(repeat (first|apply aV|apply wb|apply aX|apply wd|refine al rfl ?_|refine ah rfl ?_|(refine ν fun J I=>?_;simp;(repeat (rw[ζ];simp));apply I;clear I J)));refine W.exit rfl ?_;(repeat (first|apply aV|apply wb|apply aX|apply wd|refine al rfl ?_|refine ah rfl ?_|(refine ν fun J I=>?_;simp;(repeat (rw[ζ];simp[w1,w2,w3]));apply I;clear I J)));refine .inLoop ?_;(repeat (first|apply aV|apply wb|apply aX|apply wd|refine al rfl ?_|refine ah rfl ?_|(refine ν fun J I=>?_;simp;(repeat (rw[ζ];simp));apply I;clear I J)));refine de (A:=[6]) Θ fun J I=>?_;simp;(repeat (rw[ζ];simp));apply I;clear I J;refine W.fix (id:=0) (σ':=[]) (Nat.zero_le _) rfl (by simp) (by simp) rfl ((6,.aa [U 2])::env0 s m o dM [(8,U 2)]) (by simp) ?_;(repeat (first|apply aV|apply wb|apply aX|apply wd|refine al rfl ?_|refine ah rfl ?_|(refine ν fun J I=>?_;simp;(repeat (rw[ζ];simp));apply I;clear I J)));refine .loop ?_;(repeat (first|apply aV|apply wb|apply aX|apply wd|refine al rfl ?_|refine ah rfl ?_|(refine ν fun J I=>?_;simp;(repeat (rw[ζ];simp));apply I;clear I J)));refine de (A:=[7]) Θ fun J I=>?_;simp;(repeat (rw[ζ];simp));apply I;clear I J;refine W.fix (id:=0) (σ':=[]) (Nat.zero_le _) rfl (by simp) (by simp) rfl (xm s m o dM 2 0 [(8,U 2),(11,U 2),(12,U 0)]) (by simp) ?_;refine W.stop (Ia dB z4 e' da (fun k=>(dJ k _).2 rfl) gg (by decide) dR DT m6 (by simp) ?_);refine V.a' (rM _ _ _) rfl ?_;(repeat (first|apply aV|apply wb|apply aX|apply wd|refine al rfl ?_|refine ah rfl ?_|(refine ν fun J I=>?_;simp;(repeat (rw[ζ];simp[w1,w2,w3]));apply I;clear I J)));refine .inLoop ?_;(repeat (first|apply aV|apply wb|apply aX|apply wd|refine al rfl ?_|refine ah rfl ?_|(refine ν fun J I=>?_;simp;(repeat (rw[ζ];simp));apply I;clear I J)));refine de (A:=[7]) Θ fun J I=>?_;simp;(repeat (rw[ζ];simp));apply I;clear I J;refine W.fix (id:=0) (σ':=[]) (Nat.zero_le _) rfl (by simp) (by simp) rfl (xm s m o dM 2 1 [(8,U 2),(11,U 2),(12,U 1)]) (by simp) ?_;refine W.stop (Ia p2 z4 e' da (fun k=>(dJ k _).2 rfl) gg (by decide) dR DT m6 (by simp) ?_);refine V.a' (rM _ _ _) rfl ?_;(repeat (first|apply aV|apply wb|apply aX|apply wd|refine al rfl ?_|refine ah rfl ?_|(refine ν fun J I=>?_;simp;(repeat (rw[ζ];simp[w1,w2,w3]));apply I;clear I J)));refine .inLoop ?_;(repeat (first|apply aV|apply wb|apply aX|apply wd|refine al rfl ?_|refine ah rfl ?_|(refine ν fun J I=>?_;simp;(repeat (rw[ζ];simp));apply I;clear I J)));refine W.exit rfl ?_;(repeat (first|apply aV|apply wb|apply aX|apply wd|refine al rfl ?_|refine ah rfl ?_|(refine ν fun J I=>?_;simp;(repeat (rw[ζ];simp[w1,w2,w3]));apply I;clear I J)));refine .inLoop ?_;(repeat (first|apply aV|apply wb|apply aX|apply wd|refine al rfl ?_|refine ah rfl ?_|(refine ν fun J I=>?_;simp;(repeat (rw[ζ];simp));apply I;clear I J)));refine W.exit rfl ?_;refine W.forget (env0 s m o dM []) (by simp) ?_;refine W.stop ?_;exact Zb z4 e' da (fun k E=>(dJ k E).1) Ie Ig tt Ih k0 zV Ii
end
end Go.TL
namespace Go.TL
open Go.Proofs
variable [bd]
def aM.hp (s:aM) (n:Int):Bool:=decide (n< -1)||decide ((s.af.length:Int)≤n)
def pJ (s:aM) (oF oG:List Int) (cE:Int):Int×Int:=
 if s.err≠0 then(0,s.err) else
 match oF,oG with
 | [i0,i1],[l0,l1]=>if jV i0=false∨jV i1=false∨s.hp l0=true∨s.hp l1=true∨cE<0∨(s.an.length:Int)≤cE then(0,3) else if i0≤i1 then(0,5) else(s.gp (i0,i1) (l0,l1) cE.toNat,0)
 | _,_=>(0,8)
theorem Zq (s:aM) (n:Int):av Tryz.prog 92 [U n,.aa [aP s.af,aO s.an,bz s.cells]] (bm (s.hp n)):=by
 refine ak.body Θ Tryz.func92 rfl rfl Tryz.ntmps92 rfl rfl (by simp) ?_;by_cases h:n< -1
 ·(repeat (first|apply ι|(refine ν fun J I=>?_;simp;(repeat (rw[ζ];simp[h]));apply I;clear I J)));refine W.ret ⟨_,rfl,?_,rfl⟩;exact .of (by simp[aM.hp,h])
 ·(repeat (first|apply ι|(refine ν fun J I=>?_;simp;(repeat (rw[ζ];simp[h]));apply I;clear I J)));refine W.ret ⟨_,rfl,?_,rfl⟩;exact .of (by simp[aM.hp,h])
abbrev Zr (p:Int×Int):θ:=.bt [U p.1,U p.2]
theorem Oe (s:aM) (ξ:s.small) (oF oG:List Int) (cE:Int):av Tryz.prog 34 [eP s,a3 U 1 oF,a3 U 1 oG,U cE] (Zr (pJ s oF oG cE)):=by
 refine ak.body Θ Tryz.func34 rfl rfl Tryz.ntmps34 rfl rfl (by simp) ?_;(repeat (first|apply ι|(refine ν fun J I=>?_;simp;(repeat (rw[ζ];simp));apply I;clear I J)));(repeat (first|apply ι));refine ν fun J I=>?_;simp;(repeat (rw[ζ];simp));refine av.c (GO s ξ) (aI.refl _) (by simp) (by simp) ?_;simp;(repeat (rw[ζ];simp));apply I;clear I J;(repeat (first|apply ι|(refine ν fun J I=>?_;simp;(repeat (rw[ζ];simp));apply I;clear I J)));by_cases cU:s.err=0
 case neg=>
  refine al (by simp[cU]) ?_;(repeat (first|apply ι|(refine ν fun J I=>?_;simp;(repeat (rw[ζ];simp));apply I;clear I J)));refine W.ret ⟨_,rfl,?_,rfl⟩;exact .of (by rw[show pJ s oF oG cE=(0,s.err) by unfold pJ;rw[if_pos cU]];rfl)
 refine ah (by simp[cU]) ?_;(repeat (first|apply ι|(refine ν fun J I=>?_;simp;(repeat (rw[ζ];simp));apply I;clear I J)));have hv:pJ s oF oG cE=match oF,oG with
   | [i0,i1],[l0,l1]=>if jV i0=false∨jV i1=false∨s.hp l0=true∨s.hp l1=true∨cE<0∨(s.an.length:Int)≤cE then(0,3) else if i0≤i1 then(0,5) else(s.gp (i0,i1) (l0,l1) cE.toNat,0)
   | _,_=>(0,8):=by unfold pJ;rw[if_neg (by simpa using cU)]
 by_cases bI:(oF.length:Int)=2
 case neg=>
  have e:pJ s oF oG cE=(0,8):=by
   rw[hv];split
   ·simp at bI
   ·rfl
  (repeat (first|apply ι));refine ν fun J I=>?_;simp;(repeat (rw[ζ];simp[bI]));apply I;clear I J;refine al rfl ?_;(repeat (first|apply ι|(refine ν fun J I=>?_;simp;(repeat (rw[ζ];simp));apply I;clear I J)));refine W.ret ⟨_,rfl,?_,rfl⟩;exact .of (by rw[e];rfl)
 by_cases dc:(oG.length:Int)=2
 case neg=>
  have e:pJ s oF oG cE=(0,8):=by
   rw[hv];split
   ·simp at dc
   ·rfl
  (repeat (first|apply ι));refine ν fun J I=>?_;simp;(repeat (rw[ζ];simp[bI,dc]));apply I;clear I J;refine al rfl ?_;(repeat (first|apply ι|(refine ν fun J I=>?_;simp;(repeat (rw[ζ];simp));apply I;clear I J)));refine W.ret ⟨_,rfl,?_,rfl⟩;exact .of (by rw[e];rfl)
 obtain⟨i0,i1,rfl⟩:∃a b,oF=[a,b]:=by
  match oF,bI with
  | [a,b],_=>exact⟨a,b,rfl⟩
  | [],h=>simp at h
  | [_],h=>simp at h
  | _::_::_::_,h=>simp at h;omega
 obtain⟨l0,l1,rfl⟩:∃a b,oG=[a,b]:=by
  match oG,dc with
  | [a,b],_=>exact⟨a,b,rfl⟩
  | [],h=>simp at h
  | [_],h=>simp at h
  | _::_::_::_,h=>simp at h;omega
 simp only at hv;(repeat (first|apply ι));refine ν fun J I=>?_;simp;(repeat (rw[ζ];simp));apply I;clear I J;refine ah rfl ?_
 repeat first|apply ι
 have f3:(jV i0=false∨jV i1=false∨s.hp l0=true∨s.hp l1=true∨cE<0∨(s.an.length:Int)≤cE)→pJ s [i0,i1] [l0,l1] cE=(0,3):=fun h=>by rw[hv];exact if_pos h
 have Zs:([l0,l1].any s.hp)=(s.hp l0||s.hp l1):=by simp
 have call3:av Tryz.prog 94 [a3 U 1 [l0,l1],.fn (.func 92) [] [.aa [aP s.af,aO s.an,bz s.cells]]] (bm (s.hp l0||s.hp l1)):=by
  rw[←Zs];exact US [l0,l1] _ s.hp (by simp) (by simp[k2]) (fun x _=>fun _=>(Zq s x).cc (by simp;exact aI.refl _) (by simp) (by simp) ⟨rfl,rfl⟩)
 cases dr:jV i0
 case false=>
  have a4:=f3 (.inl dr);(repeat (first|apply ι));refine ν fun J I=>?_;simp;(repeat (rw[ζ];simp));refine av.c (oi i0) (aI.refl _) (by simp) (by simp) ?_;simp[dr];(repeat (rw[ζ];simp[dr]));apply I;clear I J;refine al rfl ?_;(repeat (first|apply ι|(refine ν fun J I=>?_;simp;(repeat (rw[ζ];simp));apply I;clear I J)));refine W.ret ⟨_,rfl,?_,rfl⟩;exact .of (by rw[a4];rfl)
 cases c1:jV i1
 case false=>
  have a4:=f3 (.inr (.inl c1));(repeat (first|apply ι));refine ν fun J I=>?_;simp;(repeat (rw[ζ];simp));refine av.c (oi i0) (aI.refl _) (by simp) (by simp) ?_;simp[dr];(repeat (rw[ζ];simp[dr]));refine av.c (oi i1) (aI.refl _) (by simp) (by simp) ?_;simp[c1];(repeat (rw[ζ];simp[c1]));apply I;clear I J;refine al rfl ?_;(repeat (first|apply ι|(refine ν fun J I=>?_;simp;(repeat (rw[ζ];simp));apply I;clear I J)));refine W.ret ⟨_,rfl,?_,rfl⟩;exact .of (by rw[a4];rfl)
 cases c2:s.hp l0||s.hp l1
 case true=>
  have a4:=f3 (.inr (.inr (by rcases Bool.or_eq_true _ _ |>.mp c2 with h|h<;>simp[h])));(repeat (first|apply ι));refine ν fun J I=>?_;simp;(repeat (rw[ζ];simp));refine av.c (oi i0) (aI.refl _) (by simp) (by simp) ?_;simp[dr];(repeat (rw[ζ];simp[dr]));refine av.c (oi i1) (aI.refl _) (by simp) (by simp) ?_;simp[c1];(repeat (rw[ζ];simp[c1]));refine av.c call3 (aI.refl _) (by simp[k2]) (by simp) ?_;simp[c2];(repeat (rw[ζ];simp[c2]));apply I;clear I J;refine al rfl ?_;(repeat (first|apply ι|(refine ν fun J I=>?_;simp;(repeat (rw[ζ];simp));apply I;clear I J)));refine W.ret ⟨_,rfl,?_,rfl⟩;exact .of (by rw[a4];rfl)
 by_cases c3:cE<0
 ·have a4:=f3 (.inr (.inr (.inr (.inr (.inl c3)))));(repeat (first|apply ι));refine ν fun J I=>?_;simp;(repeat (rw[ζ];simp));refine av.c (oi i0) (aI.refl _) (by simp) (by simp) ?_;simp[dr];(repeat (rw[ζ];simp[dr]));refine av.c (oi i1) (aI.refl _) (by simp) (by simp) ?_;simp[c1];(repeat (rw[ζ];simp[c1]));refine av.c call3 (aI.refl _) (by simp[k2]) (by simp) ?_;simp[c2,c3];(repeat (rw[ζ];simp[c2,c3]));apply I;clear I J;refine al rfl ?_;(repeat (first|apply ι|(refine ν fun J I=>?_;simp;(repeat (rw[ζ];simp));apply I;clear I J)));refine W.ret ⟨_,rfl,?_,rfl⟩;exact .of (by rw[a4];rfl)
 by_cases c4:(s.an.length:Int)≤cE
 ·have a4:=f3 (.inr (.inr (.inr (.inr (.inr c4)))));(repeat (first|apply ι));refine ν fun J I=>?_;simp;(repeat (rw[ζ];simp));refine av.c (oi i0) (aI.refl _) (by simp) (by simp) ?_;simp[dr];(repeat (rw[ζ];simp[dr]));refine av.c (oi i1) (aI.refl _) (by simp) (by simp) ?_;simp[c1];(repeat (rw[ζ];simp[c1]));refine av.c call3 (aI.refl _) (by simp[k2]) (by simp) ?_;simp[c2,c3,c4];(repeat (rw[ζ];simp[c2,c3,c4]));apply I;clear I J;refine al rfl ?_;(repeat (first|apply ι|(refine ν fun J I=>?_;simp;(repeat (rw[ζ];simp));apply I;clear I J)));refine W.ret ⟨_,rfl,?_,rfl⟩;exact .of (by rw[a4];rfl)
 have DU:s.hp l0=false∧s.hp l1=false:=by simpa using c2
 rw[if_neg (by rw[dr,c1,DU.1,DU.2];simp;omega)] at hv;(repeat (first|apply ι));refine ν fun J I=>?_;simp;(repeat (rw[ζ];simp));refine av.c (oi i0) (aI.refl _) (by simp) (by simp) ?_;simp[dr];(repeat (rw[ζ];simp[dr]));refine av.c (oi i1) (aI.refl _) (by simp) (by simp) ?_;simp[c1];(repeat (rw[ζ];simp[c1]));refine av.c call3 (aI.refl _) (by simp[k2]) (by simp) ?_;simp[c2,c3,c4];(repeat (rw[ζ];simp[c2,c3,c4]));apply I;clear I J;refine ah rfl ?_
 repeat first|apply ι
 refine W.draw (A:=[]) Θ mixed fun J I=>?_;simp;(repeat (rw[bp];simp));refine⟨bL (by kernel_rfl),I _ _ ?_⟩;clear I J;by_cases mA:i0≤i1
 ·rw[if_pos mA] at hv;refine al (by simp[mA]) ?_;(repeat (first|apply ι|(refine ν fun J I=>?_;simp;(repeat (rw[ζ];simp));apply I;clear I J)));refine W.ret ⟨_,rfl,?_,rfl⟩;exact .of (by rw[hv];rfl)
 ·rw[if_neg mA] at hv;refine ah (by simp[mA]) ?_;obtain⟨n,rfl⟩:∃n:Nat,cE=n:=⟨cE.toNat,by omega⟩;have Η:n<s.an.length:=by omega
  have cH:l0<s.af.length:=by have:=DU.1;simp[aM.hp] at this;omega
  have Ξ:l1<s.af.length:=by have:=DU.2;simp[aM.hp] at this;omega
  repeat first|apply ι
  refine W.draw (A:=[]) Θ mixed fun J I=>?_;simp;(repeat (rw[bp];simp));refine gn (av.p (zb s ξ (i0,i1) (l0,l1) n Η cH Ξ) (aI.refl _) (by simp) (by simp)) ?_;simp;(repeat (rw[bp];simp));refine⟨bL (by kernel_rfl),I _ _ ?_⟩;clear I J;(repeat (first|apply ι|(refine ν fun J I=>?_;simp;(repeat (rw[ζ];simp));apply I;clear I J)));refine W.ret ⟨_,rfl,?_,rfl⟩;exact .of (by rw[hv];rfl)
end Go.TL
namespace Go.TL
open Go.Proofs
def dH:Nat→Int×Int
 | 0=>(1,0)
 | 1=>(2,0)
 | _=>(2,1)
def eu (s:aM) (p:Int×Int):Found:=⟨p.1,p.2,(List.range s.cells.length).map (fz s p)⟩
def jI (s:aM) (k:Nat):Option Found:=if k<3∧0<(eu s (dH k)).many (-1) then some (eu s (dH k)) else none
def gH (s:aM):List Found:=(List.range 3).filterMap (jI s)
structure Im (N:Nat) (s:aM):Prop where
 small:s.small
 af:s.af.length<2 ^ 20
 lit:∀c∈s.cells,∀x∈c,0≤x.cE∧x.cE<s.an.length
 reads:∀k,k<3→∀c,c<s.cells.length→(fz s (dH k) c).length≤N
 many:∀k,k<3→∀i,i≤s.cells.length→fx (eu s (dH k)).cells (-1) i<2 ^ 62
abbrev Of (s:aM):Prop:=Im 12 s
theorem Og {N:Nat} (cm:N<2 ^ 20) (fS:∀c:bd,@CY c N) {s:aM} (h:Im N s):@qy nG s (gH s):=fun _=>by
 refine Zl (fd:=jI s) (pr:=dH) (F:=fun k=>eu s (dH k)) (N:=fun k=>(eu s (dH k)).many (-1)) ⟨fun k υ c=>?_,fun k υ c=>?_,fun k=>rfl⟩ rfl rfl rfl rfl ?_
 ·exact @VI c s h.small h.af (dH k) h.lit N cm (fS c) (h.reads k υ)
 ·have ω:(eu s (dH k)).cells.length=s.cells.length:=by simp[eu]
  have:=h.small.2.2.1;exact @CQ c (eu s (dH k)) (-1) (by rw[ω];omega) (fun i hi=>h.many k υ i (by rw[←ω];exact hi))
 ·have e:(List.range 3).filterMap (jI s)=(jI s 0).toList++(jI s 1).toList++(jI s 2).toList:=by
   show [0,1,2].filterMap (jI s)=_;simp only[List.filterMap_cons,List.filterMap_nil];cases jI s 0<;>cases jI s 1<;>cases jI s 2<;>rfl
  show((List.range 3).filterMap (jI s)).Pairwise nH;rw[e];have m:∀k x,x∈(jI s k).toList→x=eu s (dH k):=fun k x δ=>by
   unfold jI at δ;split at δ
   ·simpa using δ
   ·simp at δ
  have one:∀k,((jI s k).toList).Pairwise nH:=fun k=>by cases jI s k<;>simp
  rw[List.pairwise_append,List.pairwise_append];refine⟨⟨one 0,one 1,fun a μ b hb=>?_⟩,one 2,fun a μ b hb=>?_⟩
  ·rw[m 0 a μ,m 1 b hb];exact .inl (show(dH 0).1<(dH 1).1 by decide)
  ·rw[m 2 b hb];rcases List.mem_append.1 μ with μ|μ
   ·rw[m 0 a μ];exact .inl (show(dH 0).1<(dH 2).1 by decide)
   ·rw[m 1 a μ];exact .inr ⟨rfl,show(dH 1).2<(dH 2).2 by decide⟩
theorem Zt {s:aM} (h:Of s):@qy nG s (gH s):=Og (by decide) (fun c=>@VD c) h
theorem Oh:Of e7:=by
 refine⟨by unfold aM.small;decide,by decide,by decide,?_,?_⟩
 ·have:∀k<3,∀c<2,(fz e7 (dH k) c).length≤12:=by decide +kernel
  exact this
 ·have:∀k<3,∀i<3,fx (eu e7 (dH k)).cells (-1) i<2 ^ 62:=by decide +kernel
  exact fun k υ i hi=>this k υ i (by have:i≤2:=hi;omega)
theorem Oi:e7.err=0:=by decide +kernel
theorem Zu:rW e7 (gH e7)=(1,1,2,0):=by decide +kernel
theorem Zv:tr e7 (gH e7) 1 true=([1],0):=by decide +kernel
theorem Zw:pJ e7 [1,0] [1,4] 1=(12,0):=by decide +kernel
theorem Zx:iI (gH e7)=[[1,0],[2,0]]:=by decide +kernel
def xo (b:ByteArray):Int:=(b.data[0]!).toNat
theorem Oj {l m:List Int} (χ:l.Perm m) (hm:m.Pairwise fun a b=>a≤b):ov l=m:=by
 have GV:∀a b c:Int,decide (a≤b)=true→decide (b≤c)=true→decide (a≤c)=true:=fun a b c h k=>by simp at *;omega
 have GW:∀a b:Int,(decide (a≤b)||decide (b≤a))=true:=fun a b=>by simp;omega
 have s1:=List.pairwise_mergeSort (le:=fun x y:Int=>decide (x≤y)) GV GW l
 have dB:(l.mergeSort fun x y:Int=>decide (x≤y)).Perm m:=(List.mergeSort_perm l _).trans χ;exact List.Perm.eq_of_pairwise (le:=fun a b:Int=>a≤b) (fun a b _ _ h k=>by omega) (s1.imp fun {a b} h=>by simpa using h) hm dB
theorem Ol:jD (gH e7) 0 true=[4,4]:=by decide +kernel
theorem Om:jD (gH e7) 1 true=[1,2,1,2]:=by decide +kernel
theorem Zy:(spell [111,63]).toList=[111,63]:=by decide +kernel
theorem Zz:(e6 e7 true (gH e7)).2.2=0:=by decide +kernel
theorem ZA {l:List (List (Int×Int))} {gb:Int} (h:∀j:Nat,((l[j]?).getD []).length≤2):∀i,fx l gb i≤2 ^ i:=by
 intro i
 induction i with
 | zero=>simp[fx]
 | succ i Γ=>
  rw[@CP ⟨fun _=>True⟩,Nat.pow_succ];refine Nat.mul_le_mul Γ ?_;split
  ·omega
  ·exact h i
theorem ZB:∀f∈gH e7,f.cells.length=2∧∀c∈f.cells,c.length≤2:=by decide +kernel
theorem On:C1 e7 (gH e7):=by
 refine⟨by decide +kernel,by decide +kernel,?_,by decide +kernel⟩;intro f Ρ;obtain⟨R,γ⟩:=ZB f Ρ;refine⟨by rw[R];decide,fun gb i hi=>Nat.lt_of_le_of_lt (ZA (fun j=>?_) i) ?_⟩
 ·cases ε:f.cells[j]? with
  | none=>simp
  | some c=>simpa using γ c (cl ε)
 ·have:2 ^ i≤2 ^ 2:=Nat.pow_le_pow_right (by omega) (by omega);omega
theorem Oo:ps (gH e7) 0 true=[4]:=by
 unfold ps;rw[Ol,Oj (m:=[4,4]) (.refl _) (by decide)];decide
theorem Oq:ps (gH e7) 1 true=[1,2]:=by
 unfold ps;rw[Om,Oj (m:=[1,1,2,2]) (by decide) (by decide)];decide
theorem ZC:Mm e7 (gH e7) true xo 12:=by
 refine⟨by decide +kernel,by decide +kernel,fun c η=>?_,fun g Τ=>?_⟩
 ·have η:c<2:=η
  match c,η with
  | 0,_=>rw[Ol,Oo];decide
  | 1,_=>rw[Om,Oq];decide
 ·simp only[e7,List.mem_cons,List.not_mem_nil,or_false] at Τ;rcases Τ with rfl|rfl|rfl|rfl|rfl<;>rfl
theorem ZD:ox e7 (gH e7) true xo 2=[111,63]:=by
 show [0,1].map (s4 e7 (gH e7) true xo)=_;simp only[List.map_cons,List.map_nil,s4,Oo,Oq];decide +kernel
theorem ZE:s5 e7 (gH e7) true xo=(spell [111,63],0):=by
 unfold s5;rw[if_pos Zz];show(spell (ox e7 (gH e7) true xo 2),(0:Int))=_;rw[ZD]
theorem ZF:@av nG Tryz.prog 21 [] (bm true):=by
 letI:bd:=nG;have ξ:=Oh.small;have Ζ:=Zt Oh;refine ak.body Θ Tryz.func21 rfl rfl Tryz.ntmps21 rfl rfl (by simp) ?_;(repeat (first|apply ι|(refine ν fun J I=>?_;simp;(repeat (rw[ζ];simp));apply I;clear I J)));(repeat (first|apply ι));refine ν fun J I=>?_;simp;(repeat (rw[ζ];simp));refine av.c (z1) (aI.refl _) (by simp) (by simp) ?_;simp;(repeat (rw[ζ];simp));refine av.c (Oe e7 ξ [1,0] [1,4] 1) (.cons (.refl _) (.cons .ex (.cons .ex (.cons (.refl _) .nil)))) (by simp) (by simp) ?_;rw[Zw];simp;(repeat (rw[ζ];simp));apply I;clear I J;(repeat (first|apply ι));refine ν fun J I=>?_;simp;(repeat (rw[ζ];simp));refine av.c (z1) (aI.refl _) (by simp) (by simp) ?_;simp;(repeat (rw[ζ];simp));refine av.c (Mg e7 ξ _ Ζ (by decide +kernel)) (aI.refl _) (by simp) (by simp) ?_;rw[if_pos Oi,Oi,Zx];simp;(repeat (rw[ζ];simp));apply I;clear I J;(repeat (first|apply ι));refine ν fun J I=>?_;simp;(repeat (rw[ζ];simp));refine av.c (z1) (aI.refl _) (by simp) (by simp) ?_;simp;(repeat (rw[ζ];simp));refine av.c (Vn e7 ξ _ Ζ true xo 12 (by decide) Vp ZC) (aI.refl _) (by simp) (by simp) ?_;rw[ZE];simp;(repeat (rw[ζ];simp));apply I;clear I J;(repeat (first|apply ι));refine ν fun J I=>?_;simp;(repeat (rw[ζ];simp));refine av.c (z1) (aI.refl _) (by simp) (by simp) ?_;simp;(repeat (rw[ζ];simp));refine av.c (VW e7 ξ _ Ζ On) (aI.refl _) (by simp) (by simp) ?_;rw[Zu];simp;(repeat (rw[ζ];simp));apply I;clear I J;(repeat (first|apply ι));refine ν fun J I=>?_;simp;(repeat (rw[ζ];simp));refine av.c (z1) (aI.refl _) (by simp) (by simp) ?_;simp;(repeat (rw[ζ];simp));refine av.c (Yw e7 ξ _ Ζ On 1 true (by decide)) (aI.refl _) (by simp) (by simp) ?_;rw[Zv];simp;(repeat (rw[ζ];simp));apply I;clear I J;(repeat (first|apply ι));refine ν fun J I=>?_;simp;(repeat (rw[ζ];simp));refine av.c (Va 9) (aI.refl _) (by simp) (by simp) ?_;have eH:valid 9=true:=by decide +kernel
 have ef:CL 9=6:=by decide +kernel
 rw[eH,ef];simp;(repeat (rw[ζ];simp));apply I;clear I J;(repeat (first|apply ι));refine ν fun J I=>?_;simp;(repeat (rw[ζ];simp[Zy]));refine av.c (UA [[1,0],[2,0]] [[1,0],[2,0]] (by decide) (by decide)) (.cons (.refl _) (.cons ?_ .nil)) (by simp) (by simp) ?_
 ·exact .map (l:=[[1,0],[2,0]]) (f:=fun l:List Int=>.sl true 1 (l.map U)) (g:=a3 U 1) fun x _=>.one .ex rfl rfl
 simp;(repeat (rw[ζ];simp));refine av.c (GH [1] [1] (by decide)) (.cons (.refl _) (.cons .ex .nil)) (by simp) (by simp) ?_;simp;(repeat (rw[ζ];simp));apply I;clear I J;refine W.ret ⟨_,rfl,?_,rfl⟩;exact .of (by simp)
end Go.TL
namespace Go.TL
open Go.Proofs
variable [bd]
structure cy where
 bf:List Int
 state:Int
abbrev Ot (n:Int):θ:=.z (.int .u64 n)
abbrev ZG (d:cy):θ:=.aU [a3 U 1 d.bf,Ot d.state]
abbrev b1 (d:cy):Row:=.cells 93 2 [ZG d]
def z5 (d:cy):Int:=IntKind.u64.wrap (d.bf.headD 0)
def xp (d:cy):Int:=IntKind.u64.wrap (IntKind.u64.wrap (IntKind.u64.wrap (d.state+(if d.bf=[] then 0 else z5 d))+6364136223846793005)*15074714826142052245)
def r9 (d:cy):Int:=yy .u64 (xp d) ((xp d).fdiv (2 ^ min 29 IntKind.u64.bits))
def qP (d:cy):Int:=(IntKind.u64.wrap (yy .u64 (r9 d) ((r9 d).fdiv (2 ^ min 33 IntKind.u64.bits))*18397679294719823053)).fdiv (2 ^ min 32 IntKind.u64.bits)
def cy.next (d:cy):cy:=⟨d.bf.tail,r9 d⟩
theorem ZH (l:List (List Int)) (x:List Int) (ω:l.length<2 ^ 62) (ξ:∀y∈l,y.length<2 ^ 62):av Tryz.prog 43 [aO l,a3 U 1 x] (bm (l.contains x)):=by
 refine ak.body Θ Tryz.func43 rfl rfl Tryz.ntmps43 rfl rfl (by simp) ?_;(repeat (first|apply ι|(refine ν fun J I=>?_;simp;(repeat (rw[ζ];simp));apply I;clear I J)));refine W.iter (fun i:Nat=>i≤l.length∧∀j,j<i→(h:j<l.length)→l[j]≠x) (fun i=>[(0,aO l),(1,a3 U 1 x),(5,U i)]) (fun _=>[]) (fun i=>l.length-i) 0 ⟨Nat.zero_le _,fun j ε=>by omega⟩ rfl (by simp) (fun i hi Γ=>?_);(repeat (first|apply ι|(refine ν fun J I=>?_;simp;(repeat (rw[ζ];simp));apply I;clear I J)));refine W.dY rfl (fun η=>?_) (fun η=>?_)
 ·have η:i<l.length:=by simpa using η
  (repeat (first|apply ι));refine ν fun J I=>?_;simp;(repeat (rw[ζ];simp[η]));refine av.c (GH l[i] x (ξ _ (List.getElem_mem η))) (aI.refl _) (by simp) (by simp) ?_;simp;(repeat (rw[ζ];simp));apply I;clear I J;by_cases Υ:l[i]=x
  ·refine al (by simp[Υ]) ?_;(repeat (first|apply ι|(refine ν fun J I=>?_;simp;(repeat (rw[ζ];simp));apply I;clear I J)));refine W.ret ⟨_,rfl,?_,rfl⟩;have:x∈l:=Υ▸List.getElem_mem _;exact .of (by simp[this])
  ·refine ah (by simp[Υ]) ?_;have hw:=eD η ω;(repeat (first|apply ι|(refine ν fun J I=>?_;simp;(repeat (rw[ζ];simp[hw]));apply I;clear I J)));refine W.forget _ ?_ (Γ (i+1) ⟨by omega,fun j ε h=>?_⟩ (by omega))
   ·simp[hw]
   ·by_cases e:j=i
    ·subst e;exact Υ
    ·exact hi.2 j (by omega) h
 ·have η:i=l.length:=by simp at η;omega
  subst η;refine W.exit rfl ?_;(repeat (first|apply ι|(refine ν fun J I=>?_;simp;(repeat (rw[ζ];simp));apply I;clear I J)));refine W.ret ⟨_,rfl,?_,rfl⟩;have:¬x∈l:=fun h=>by
   obtain⟨j,ε,e⟩:=List.getElem_of_mem h;exact hi.2 j ε ε e
  exact .of (by simp[this])
theorem ZI (d:cy) (hd:d.bf.length<2 ^ 63):ak Tryz.prog 73 [.ag 0 1 0 0] [b1 d] (fun r s=>r=Ot (qP d)∧s=[b1 d.next]) (fun _ _=>False):=by
 obtain⟨l,q⟩:=d;refine ak.body Θ Tryz.func73 rfl rfl Tryz.ntmps73 rfl rfl (by simp) ?_;(repeat (first|apply ι|(refine ν fun J I=>?_;simp;(repeat (rw[ζ];simp));apply I;clear I J)));cases l with
 | nil=>
  refine ah (by simp) ?_;(repeat (first|apply ι|(refine ν fun J I=>?_;simp;(repeat (rw[ζ];simp));apply I;clear I J)));refine W.draw (A:=[]) Θ mixed fun J I=>?_;simp;(repeat (rw[bp];simp));refine⟨bL (by kernel_rfl),I _ _ ?_⟩;clear I J
  repeat first|apply ι
  refine W.draw (A:=[]) Θ mixed fun J I=>?_;simp;(repeat (rw[bp];simp));refine⟨bL (by kernel_rfl),I _ _ ?_⟩;clear I J;(repeat (first|apply ι|(refine ν fun J I=>?_;simp;(repeat (rw[ζ];simp));apply I;clear I J)));exact W.ret ⟨_,rfl,by simp[qP,r9,xp,z5],by simp[cy.next,r9,xp,z5]⟩
 | cons a l=>
  refine al (by simp) ?_;(repeat (first|apply ι|(refine ν fun J I=>?_;simp;(repeat (rw[ζ];simp));apply I;clear I J)));have kl:List.take l.length (l.map U)=l.map U:=List.take_of_length_le (by simp);(repeat (first|apply ι));refine ν fun J I=>?_;simp;(repeat (rw[ζ];simp[kl]));refine⟨by omega,?_⟩;apply I;clear I J;(repeat (first|apply ι|(refine ν fun J I=>?_;simp;(repeat (rw[ζ];simp));apply I;clear I J)));refine W.draw (A:=[]) Θ mixed fun J I=>?_;simp;(repeat (rw[bp];simp));refine⟨bL (by kernel_rfl),I _ _ ?_⟩;clear I J
  repeat first|apply ι
  refine W.draw (A:=[]) Θ mixed fun J I=>?_;simp;(repeat (rw[bp];simp));refine⟨bL (by kernel_rfl),I _ _ ?_⟩;clear I J;(repeat (first|apply ι|(refine ν fun J I=>?_;simp;(repeat (rw[ζ];simp));apply I;clear I J)));exact W.ret ⟨_,rfl,by simp[qP,r9,xp,z5],by simp[cy.next,r9,xp,z5]⟩
def hq (d:cy) (n:Int):Int:=if n≤0 then 0 else IntKind.i64.wrap ((IntKind.u64.wrap (qP d*IntKind.u64.wrap (IntKind.i64.wrap (n+1)))).fdiv (2 ^ min 32 IntKind.u64.bits))
def cy.after (d:cy) (n:Int):cy:=if n≤0 then d else d.next
theorem oH (d:cy):ie (b1 d):=by simp[ie,θ.cells]
theorem Io (d:cy) (hd:d.bf.length<2 ^ 63) (n:Int):ak Tryz.prog 24 [.ag 0 1 0 0,U n] [b1 d] (fun r s=>r=U (hq d n)∧s=[b1 (d.after n)]) (fun _ _=>False):=by
 refine ak.body Θ Tryz.func24 rfl rfl Tryz.ntmps24 rfl rfl (by simp) ?_;(repeat (first|apply ι|(refine ν fun J I=>?_;simp;(repeat (rw[ζ];simp));apply I;clear I J)));by_cases h:n≤0
 ·refine al (by simp[h]) ?_;(repeat (first|apply ι|(refine ν fun J I=>?_;simp;(repeat (rw[ζ];simp));apply I;clear I J)));exact W.ret ⟨_,rfl,by simp[hq,h],by simp[cy.after,h]⟩
 ·refine ah (by simp[h]) ?_;(repeat (first|apply ι|(refine ν fun J I=>?_;simp;(repeat (rw[ζ];simp));apply I;clear I J)));(repeat (first|apply ι));refine ν fun J I=>?_;simp;(repeat (rw[ζ];simp));refine ak.one (as0:=[.ag 0 1 0 0]) (ZI d hd) 0 rfl (oH d) (oH d.next) (by simp[fJ,oh]) ((az.z _).ih 1) rfl ?_;simp[nq];(repeat (rw[ζ];simp));apply I;clear I J;exact W.ret ⟨_,rfl,by simp[hq,h],by simp[cy.after,h]⟩
end Go.TL
