import Derived.Test.YtlabjopijpkiaaaGreatCAK
import Derived.Test.YtlabjopijpkiaaaGreatCAN
import Derived.Test.YtlabjopijpkiaaaGreatCAR
import Derived.Test.YtlabjopijpkiaaaGreatCAX
set_option maxHeartbeats 16000000
set_option maxRecDepth 20000
set_option linter.unusedSectionVars false
set_option linter.unusedSimpArgs false
set_option linter.unusedVariables false
namespace Go.TL
open Go.Conc Go.Proofs
open Go.ConcN (sumTo upd sumTo_upd upd_ne upd_same sumTo_congr le_sumTo)
structure Calm (y:a2):Prop where
 rel:y.rel=false
 aN:y.aN=λ_=>none
 deaf:y.deaf=0
 shut:∀s,gk (y.tok s)
def calm:g9:=Calm
@[reducible] def oV:bp:=⟨λx=>x=calm⟩
variable [bp]
def tF (x y:Found):Int:=nW (x.u,x.v) (y.u,y.v)
def oW (x y:Found):Prop:=x.u<y.u\/(x.u=y.u/\x.v<y.v)
theorem bυ (x y:Found):aB tF x y=true↔oW x y:=by
 have h:=tw (x.u,x.v) (y.u,y.v)
 have e:aB tF x y=aB nW (x.u,x.v) (y.u,y.v):=rfl;rw[e,h];simp[oW]
theorem bφ:Go.Sort.SWO (aB tF) where
 irrefl x:=yx.irrefl (x.u,x.v)
 trans x y z:=yx.trans (x.u,x.v) (y.u,y.v) (z.u,z.v)
 ntrans x y z:=yx.ntrans (x.u,x.v) (y.u,y.v) (z.u,z.v)
instance:Inhabited Found:=⟨⟨0,0,[]⟩⟩
theorem bχ {m:List Found} (h:m.Pairwise oW):∀a∈m,∀b∈m,¬oW a b->¬oW b a->a=b:=by
 induction h with
 | nil=>intro a κ;cases κ
 | cons J U ω=>
  intro a κ b hb μ Ε;rcases List.mem_cons.1 κ with lF|eo<;>rcases List.mem_cons.1 hb with js|dV
  ·rw[lF,js]
  ·exact absurd (lF▸J b dV) μ
  ·exact absurd (js▸J a eo) Ε
  ·exact ω a eo b dV μ Ε
theorem bψ {l m:List Found} (π:l.Perm m) (hm:m.Pairwise oW):(Go.Sort.insertionSort (aB tF) l.toArray 0 l.length).toList=m:=by
 obtain⟨⟨cv,_,Jy⟩,U⟩:=Go.Sort.insertionSort_holds (lt:=aB tF) bφ l.toArray 0 l.length (Nat.zero_le _) ζ;generalize Go.Sort.insertionSort (aB tF) l.toArray 0 l.length=d at cv Jy U;have He:d.size=l.length:=by simpa using cv
 have Γ:d.extract 0 l.length=d:=by rw[<-He];exact Array.extract_size
 have Δ:l.toArray.extract 0 l.length=l.toArray:=by
  simp
 rw[Γ,Δ] at Jy;have PR:d.toList.Perm m:=Jy.trans π;have bω:∀x y,aB tF x y=false↔¬oW x y:=λx y=>by rw[<-bυ];simp
 refine List.Perm.eq_of_pairwise (le:=λx y=>¬oW y x) (λa b κ hb μ Ε=>?_) ?_ (hm.imp λ{a b} h k=>?_) PR
 ·exact bχ hm a (PR.mem_iff.1 κ) b hb Ε μ
 ·rw[List.pairwise_iff_getElem];intro i j hi δ fz;have:=U i j (Nat.zero_le _) fz (by simpa[He] using δ);rw[bω] at this;rw[getElem!_pos d j (by simpa using δ),getElem!_pos d i (by simpa using hi)] at this;simpa using this
 ·simp only[oW] at h k;omega
theorem bΑ {D:Nat->Α->Prop} (cY:∀k E,D k E->E=Α.empty):∀(L:List Nat) (E:Α),lZ D L E->E=Α.empty:=by
 intro L
 induction L with
 | nil=>intro E h;exact h
 | cons k K5 ω=>
  rintro E ⟨pZ,p0,J,U,_,rfl⟩;rw[cY k pZ J,ω p0 U];exact GB _
end Go.TL
namespace Go.TL
open Go.Conc Go.Proofs
open Go.ConcN (sumTo upd sumTo_upd upd_ne upd_same sumTo_congr le_sumTo)
abbrev FD:η:=.fn (.func 148) [] []
theorem bΒ [bp] (x y:Found):gi Tryz.prog FD [dg x,dg y] (I (tF x y)):=λσ=>(WM x y).c (bI.refl _) ζ ζ ⟨rfl,rfl⟩
section
variable {y:a2} {Q:Value->Prop} {mn:Bool} {β s m o:Nat} {fu bM:aL} {ei H1:Α} {fd:Nat->Option Found} {sp:Spec} {er:aS} {v:Option (Nat×aV)} {vs:Array Value} {c:Frame} {cs:List Frame}
theorem bΓ (ε:mD y s sp) (fA:sp.aZ=some m) (cR:sp.ar=w9 β bM o fd) (cY:∀k E,sp.D k E->E=Α.empty) (Jz:∀L:List Nat,L.Nodup->(L.filterMap fd).length<=3) {lO:List Found} (JA:(List.range 3).filterMap fd=lO) (vp:lO.Pairwise oW)
  (JB:∀v,Calm (bu y s (.par 3 0 .bm) v 0)) (mf:wy Tryz.prog Q mn calm c cs fu [] ei [] (λa s=>c6 a (cW lO)/\s=[]) (λ_ _=>False)) (By:Ext fu [] ei bM [] H1) (JC:ei.fresh β) :
  V Tryz.prog Q mn (one (bu y s (.par 3 0 .add) v 0)) (FB vs) (c::cs) 23 ⟨bM,[],H1,[],0⟩ [.code (ea [1,1,1,1,1] yW)] (env0 s m o er []) []:=by
 letI:bp:=eX;have γ:=ε.seq;refine V.fT (γ _ _ _) rfl ?_;simp only[yW,Tryz.f116,Option.getD_some,ea];refine c7 ?_;refine W.cy (.stop ?_);refine V.call (γ _ _ _) ⟨rfl,rfl,by simp[Frame.enter],rfl⟩ rfl rfl rfl ⟨_,Tryz.func146,rfl,rfl⟩ λS B H t pB κ π hv=>?_;obtain rfl:=nj (l:=[ptr s 0]) hv;obtain rfl:B=[]:=dO.1 π.holds.len;rintro md rfl;refine Zu ε π.holds (n:=3) λaF H' gz fM g1 eM he Β LR bΔ bΕ ck a1 a9 cK hw v2 cU bH g2=>?_;rw[iY rfl];obtain rfl:=bΑ cY gz g1 bΔ;rw[GB] at g2;obtain⟨l6,PS⟩:=bΕ (by rw[fA];simp);rw[cR] at PS;obtain⟨hi,h1,sf,xb,dX⟩:=PS;obtain⟨w,f1,f2,f3⟩:=hw;obtain⟨G,di⟩:=aK (fM.filterMap fd);have JD:G.Perm lO:=by rw[di,<-JA];exact l6.filterMap _
 have jΥ:G.length<=3:=by rw[di];exact Jz fM (l6.nodup_iff.2 List.nodup_range)
 rw[<-di] at xb;obtain⟨Jg,l1,l2⟩:=Pl Β xb a9 ⟨w,f1,f3⟩ (Fl _);have qU:=Z0 (By.trans (κ.ext.trans he)) (κ.ext.trans he).dm JC hi Β xb (Fl _);obtain⟨eP,du⟩:=Jg.sR (λb hb=>g2.sR hb) g2.grow;have yY:=qU.trans du;have au:t.getD 5 undef=ptr o 0:=by
  have:=π.cx 5;simp only[a5] at this;generalize t.getD 5 undef=u at this;cases this;rfl
 have rU:dv (aF.plus h1) sf (gZ (G.map dg)) [(5,.ah 0 1 0 0)] (t.setIfInBounds 19 (.tuple #[])):=λi=>by
  simp only[a5];split
  ·rename_i e;subst e;have fh:(t.setIfInBounds 19 (.tuple #[])).getD 5 undef=ptr o 0:=by
    rw[<-au,Array.getD_eq_getD_getElem?,Array.getD_eq_getD_getElem?,Array.getElem?_setIfInBounds_ne br]
   rw[fh];have:=av.ah (S:=aF.plus h1) (B:=sf) (σ:=gZ (G.map dg)) (id:=0) (n:=1) (i:=0) (j:=0) (k:=1) (t:=99) (l:=[tE (G.map dg)]) (b:=o) (N:=1) (by simp[gZ]) rfl dX;simpa using this
  ·exact .cg _
 refine V.here (x:=one _) (m:=0) (nt:=23) (S:=aF.plus h1) (B:=sf) (σ:=gZ (G.map dg)) (env:=[(5,.ah 0 1 0 0)]) ?_ ⟨eP,rU,Eq.trans (Array.size_setIfInBounds ..) π.size,Nat.zero_le _⟩ _ rfl;have fin:∀(e:Bool) (k:Nat),c6 (.sl e k (lO.map dg)) (cW lO)->V Tryz.prog Q mn (one (bu y s (.par 3 0 .bm) v2 0)) (FB vs) (c::cs) 23 ⟨aF.plus h1,sf,bH,gZ (G.map dg),0⟩ [.code .ret] [(2,.sl e k (lO.map dg))] []:=λe k bΖ=>by
  intro jg ko ie t5 kP lN;obtain rfl:ko=[]:=dO.1 lN.holds.len;refine aU.ret (γ _ _ _) rfl rfl (aU.back (γ _ _ _) rfl rfl (.inl rfl) Tryz.func116 ?_);refine ς.mono (λu IY ⟨IX,bΗ,lX,Cn,bd,F'⟩=>?_) (λ_ _ h=>h) _ (D' Υ (a:=.sl e k (lO.map dg)) rfl lN.holds lN.cx);obtain rfl:bΗ=[]:=dO.1 bd.len;rintro md rfl;have E7:=yY.trans (kP.ext.trans lX);exact mf.ret _ [] IX [] IY u ⟨bΖ,rfl⟩ E7 ⟨E7.dm,λid r h=>by simp at h⟩ bd F' _ (JB _)
 refine V.fT (γ _ _ _) rfl ?_;refine W.bF ?_;have ph:∀e∈G.map dg,∀a∈e.cells,aJ 0 a:=λe he a κ=>by
  obtain⟨z,_,rfl⟩:=List.mem_map.1 he;exact yr z a κ
 by_cases Φ:G=[]
 ·subst Φ;have bΘ:lO=[]:=JD.symm.eq_nil;subst bΘ;refine c7 ?_;refine dx λΘ θ=>?_;simp;(repeat (rw[al];simp[gZ,Jd,k5]));refine az.c (XA FD ζ) (bI.refl _) ζ ζ ?_;simp;(repeat (rw[al];simp[]));apply θ;refine bh λΘ θ=>?_;apply θ;refine W.cut 0 (Nat.zero_le _) [(2,.sl true 0 [])] (Nat.zero_le _) (λid r h=>R) (by simp;exact .low ζ) ?_;exact .stop (fin _ _ .nil)
 ·have p5:G.map dg≠[]:=by simpa using Φ
  have ν:=bψ JD vp;refine c7 ?_;refine dx λΘ θ=>?_;simp;(repeat (rw[al];simp[gZ,Fj p5,e6 p5]));have PT:=WT G.toArray G.length ζ R FD tF ζ bΒ;rw[ν] at PT;have hlen:lO.length=G.length:=JD.length_eq.symm;have b8:aJ 0 FD:=ζ;have PU:∀e∈lO.map dg,∀a∈e.cells,aJ 0 a:=λe he a κ=>by
   obtain⟨z,_,rfl⟩:=List.mem_map.1 he;exact yr z a κ
  refine ab.one PT 1 rfl ph PU (by simp[oH,wI,b8.iM 1]) (by simp[fR]) (by simp[oI,nX,b8.ed [1]]) ?_;simp[ed,hS];(repeat (rw[al];simp[]));apply θ;refine bh λΘ θ=>?_;apply θ;refine W.cut 0 (Nat.zero_le _) [(2,.sl false 3 (lO.map dg))] (Nat.zero_le _) (λid r h=>R) (λp π=>?_) ?_
  ·obtain rfl:p=(2,.sl false 3 (lO.map dg)):=by simpa using π
   refine eJ.own (id:=1) (t:=110) (Nat.zero_le _) rfl (by simp[hlen]) PU
  ·exact .stop (fin _ _ (.refl _))
end
theorem JE {P:Program} {ty:TypeId} {z:Value} (h:((P.info? ty).bind (·.zero))=some z):∃inf,P.info? ty=some inf/\inf.zero=some z:=by
 cases hi:P.info? ty with
 | none=>rw[hi] at h;cases h
 | some inf=>rw[hi] at h;exact⟨inf,rfl,h⟩
theorem bΙ:((Tryz.prog.info? 173).bind (·.zero))=some (.agg #[.int .i32 0,.int .u32 0]):=by kernel_rfl
theorem bΚ:((Tryz.prog.info? 179).bind (·.zero))=some (.agg #[.int .u64 0,.int .u32 0]):=by kernel_rfl
theorem bΜ:((Tryz.prog.info? 99).bind (·.zero))=some (.slice none 0 0):=by kernel_rfl
theorem bΝ {o:Nat}:Holds fp [some (o,1)] (gZ []) (Α.empty.dL o #[.slice none 0 0] 99):=by
 have an:Holds fp [] [] Α.empty:=yM _
 have ξ:gb fp [] [] #[.slice none 0 0] 1 [.sl true 0 []]:=gb.one (a:=.sl true 0 []) (v:=.slice none 0 0) (.iB none 0 λ_=>rfl) rfl;exact(Aa (P:=Tryz.prog) (K:=λr G=>Holds fp [some (r,1)] (gZ []) G) (E:=λ_ _=>False) an ξ 99 λr _ J _ _=>J).2 o ⟨λ_=>rfl,rfl,rfl,λ_ _=>⟨λ_=>rfl,rfl,rfl⟩⟩
section
variable {fd:Nat->Option Found} {pr:Nat->Int×Int} {F:Nat->Found} {N:Nat->Nat} {er:aS} {lO:List Found}
theorem bΞ (cB:FC er fd pr F N) (fL:pr 0=(1,0)) (dn:pr 1=(2,0)) (p2:pr 2=(2,1)) (JA:(List.range 3).filterMap fd=lO) (vp:lO.Pairwise oW):@az oV Tryz.prog 116 [fS er] (cW lO):=by
 refine⟨⟨_,Tryz.func116,rfl,rfl⟩,λQ mn x c rest fu eH ei vs vk sL Jn mf=>?_⟩;obtain rfl:x=calm:=@Seq.cls oV x vk;obtain rfl:eH=[]:=dO.1 sL.len;rintro y ⟨eu,fX,uD,c5⟩;letI:bp:=eX;have γ:Seq (one y):=Seq.vb trivial eu fX;rw[qB (body:=yW) Tryz.func116 rfl];refine V.here (x:=one y) (m:=0) (nt:=23) (S:=fu) (B:=[]) (H:=ei) (σ:=[]) (env:=entry 0 [fS er]) ?_ (fO.enter sL Jn (Nat.le_refl _) ζ) y rfl;refine V.fT γ rfl ?_;simp only[yW,Tryz.f116,Option.getD_some];refine c7 ?_;refine W.cy (.stop ?_);refine V.boxed γ rfl rfl rfl rfl rfl (l:=[aT er.ae,a6 er.aj,bx er.cells]) rfl rfl ζ λS B H t β c1 κ π g8 bΟ ξ he bΡ Jp=>?_;obtain rfl:B=[]:=dO.1 π.holds.len;refine V.here (x:=one y) (m:=0) (nt:=23) (S:=S.lay β c1) (B:=[]) (σ:=[]) (env:=[(1,.ao [aT er.ae,a6 er.aj,bx er.cells])]) ?_
  ⟨bΡ,xc (dv.put (π.cx.later ξ) (d:=1) (by rw[π.size];omega) Jp) ζ,Eq.trans (Array.size_setIfInBounds ..) π.size,Nat.zero_le _⟩
 refine V.fT γ rfl ?_;refine fw [1] [] ?_;refine W.bF ?_;refine c7 ?_;refine W.cy (.stop ?_);intro cU eQ bH t2 rR nb;obtain rfl:eQ=[]:=dO.1 nb.holds.len;rintro md rfl;obtain⟨i1,Ρ,aa⟩:=JE bΙ;obtain⟨i2,aX,ca⟩:=JE bΚ;obtain⟨i3,gf,i'⟩:=JE bΜ;refine cC.Jt eu ⟨rfl,rfl,by simp[Frame.enter],rfl⟩ rfl rfl Ρ aa λm g5 _=>?_;refine cC.next ?_ ?_ ?_
 ·exact .inl eu
 ·rfl
 refine cC.Jt ?_ ⟨rfl,rfl,by simp[Frame.enter],rfl⟩ rfl rfl aX ca λs sc eg=>?_
 ·exact eu
 refine cC.next ?_ ?_ ?_
 ·exact .inl eu
 ·rfl
 refine cC.Jt ?_ ⟨rfl,rfl,by simp[Frame.enter],rfl⟩ rfl rfl gf i' λo yZ xR=>?_
 ·exact eu
 have sI:m<s:=eg m _ (upd_same ..)
 have Jv:s<o:=xR s _ (upd_same ..);obtain⟨sp,b7⟩:∃sp:Spec,sp=⟨some m,w9 β cU o fd,λ_ E=>E=Α.empty,3⟩:=⟨_,rfl⟩;have FE:∃q v,cU β q=some v:=let ⟨u,hu⟩:=bΟ;⟨0,u,rR.ext.dm _ _ _ hu⟩;have ot:∃q x,bH.aP β q=some x:=let ⟨q,u,hu⟩:=FE;let ⟨p,π⟩:=nb.holds.dm _ _ _ hu;⟨q,_,π⟩;have PV:β<o:=let ⟨_,_,h⟩:=ot;Jb h yZ;have fA:sp.aZ=some m:=by rw[b7]
 have cR:sp.ar=w9 β cU o fd:=by rw[b7]
 have cY:∀k E,sp.D k E↔E=Α.empty:=λk E=>by rw[b7]
 have gY:sp.top=3:=by rw[b7]
 clear b7;have bΤ:sp.ar [] (Α.empty.dL o #[.slice none 0 0] 99):=by
  rw[cR];refine⟨⟨λb q x hb=>?_,λb x hb=>?_,λb x hb=>(by cases hb)⟩,fp,_,bΝ,rfl⟩
  ·by_cases e:b=o
   ·exact .inr (e▸PV)
   ·simp[Α.dL,e,Α.empty] at hb
  ·by_cases e:b=o
   ·exact e▸PV
   ·simp[Α.dL,e,Α.empty] at hb
 refine cC.group (y:=md) (sp:=sp) eu fX sI Jv fA yZ bΤ ?_;obtain⟨nK,qV⟩:=aK ({md with spec:=upd md.spec s (some sp)}:a2);have bΥ:({md with tok:=upd md.tok s (.par 0 0 .add),spec:=upd md.spec s (some sp),view:=upd md.view s none}:a2)=bu nK s (.par 0 0 .add) none 0:=by
  rw[qV];unfold bu;simp only[uD]
 rw[bΥ];have BH:mD nK s sp:=by
  rw[qV];refine⟨eu,fX,upd_same ..,by rw[gY];decide,λbk _=>?_⟩;have:=c5 bk;show nF (md.tok bk);cases PW:md.tok bk with
  | nil=>trivial
  | par n p aQ=>rw[PW] at this;cases aQ<;>first|trivial|exact this.elim
  | ch k mu g=>rw[PW] at this;exact this.elim
 have JB:∀v,Calm (bu nK s (.par 3 0 .bm) v 0):=λv=>by
  rw[qV];refine⟨eu,fX,rfl,λbk=>?_⟩;by_cases e:bk=s
  ·subst e;rw[cf];trivial
  ·rw[Bc e];exact c5 bk
 have tm:=BH.seq
 have Jz:=cB.n1
 have By:Ext fu [] ei cU [] bH:=κ.ext.trans (he.trans rR.ext)
 have JC:ei.fresh β:=κ.ext.grow _ g8;refine V.here (x:=one _) (m:=0) (nt:=23) (S:=cU) (B:=[]) (σ:=[]) (env:=env0 s m o er []) ?_
  ⟨nb.holds,xc (dv.put (dv.put (dv.put nb.cx (d:=3) (by rw[nb.size];omega) (.z (ptr m 0))) (d:=4) (by rw[Array.size_setIfInBounds,nb.size];omega) (.z (ptr s 0))) (d:=5) (by rw[Array.size_setIfInBounds,Array.size_setIfInBounds,nb.size];omega) (.z (ptr o 0))) ζ,
   Eq.trans (Array.size_setIfInBounds ..) (Eq.trans (Array.size_setIfInBounds ..) (Eq.trans (Array.size_setIfInBounds ..) nb.size)),Nat.zero_le _⟩ _ rfl
 have w1:IntKind.i64.wrap 1=1:=br
 have w2:IntKind.i64.wrap 2=2:=br
 have w3:IntKind.i64.wrap 3=3:=br;refine V.fT (tm _ _ _) rfl ?_;refine W.bF ?_;refine hT ?_;refine .loop ?_;refine hT ?_;refine dB (A:=[6]) Υ λΘ θ=>bD ?_;apply θ;refine W.fix (id:=0) (σ':=[]) (Nat.zero_le _) rfl ζ ζ rfl ((6,.ao [I 0])::env0 s m o er [(8,I 0)]) ζ ?_;refine hT ?_;refine .loop ?_;refine hT ?_;refine W.exit rfl ?_;refine hU (υ w1 (υ w2 w3)) ?_;refine .inLoop ?_;refine hT ?_;refine dB (A:=[6]) Υ λΘ θ=>bD ?_;apply θ;refine W.fix (id:=0) (σ':=[]) (Nat.zero_le _) rfl ζ ζ rfl ((6,.ao [I 1])::env0 s m o er [(8,I 1)]) ζ ?_;refine hT ?_;refine .loop ?_;refine hT ?_;refine dB (A:=[7]) Υ λΘ θ=>bD ?_;apply θ;refine W.fix (id:=0) (σ':=[]) (Nat.zero_le _) rfl ζ ζ rfl (yX s m o er 1 0 [(8,I 1),(11,I 1),(12,I 0)]) ζ ?_;refine W.stop (Jw fL BH fA cR (λk=>(cY k _).2 rfl) gY br cB FE ot ζ ?_);refine V.fT (tm _ _ _) rfl ?_;refine hU (υ w1 (υ w2 w3)) ?_;refine .inLoop ?_;refine hT ?_;refine W.exit rfl ?_;refine hU (υ w1 (υ w2 w3)) ?_;refine .inLoop ?_;refine hT ?_;refine dB (A:=[6]) Υ λΘ θ=>bD ?_;apply θ;refine W.fix (id:=0) (σ':=[]) (Nat.zero_le _) rfl ζ ζ rfl ((6,.ao [I 2])::env0 s m o er [(8,I 2)]) ζ ?_;refine hT ?_;refine .loop ?_;refine hT ?_;refine dB (A:=[7]) Υ λΘ θ=>bD ?_;apply θ;refine W.fix (id:=0) (σ':=[]) (Nat.zero_le _) rfl ζ ζ rfl (yX s m o er 2 0 [(8,I 2),(11,I 2),(12,I 0)]) ζ ?_;refine W.stop (Jw dn BH fA cR (λk=>(cY k _).2 rfl) gY br cB FE ot ζ ?_);refine V.fT (tm _ _ _) rfl ?_;refine hU (υ w1 (υ w2 w3)) ?_;refine .inLoop ?_;refine hT ?_;refine dB (A:=[7]) Υ λΘ θ=>bD ?_;apply θ;refine W.fix (id:=0) (σ':=[]) (Nat.zero_le _) rfl ζ ζ rfl (yX s m o er 2 1 [(8,I 2),(11,I 2),(12,I 1)]) ζ ?_;refine W.stop (Jw p2 BH fA cR (λk=>(cY k _).2 rfl) gY br cB FE ot ζ ?_);refine V.fT (tm _ _ _) rfl ?_;refine hU (υ w1 (υ w2 w3)) ?_;refine .inLoop ?_;refine hT ?_;refine W.exit rfl ?_;refine hU (υ w1 (υ w2 w3)) ?_;refine .inLoop ?_;refine hT ?_;refine W.exit rfl ?_;refine W.forget (env0 s m o er []) ζ ?_;refine W.stop ?_;exact bΓ BH fA cR (λk E=>(cY k E).1) Jz JA vp JB mf By JC
end
end Go.TL
namespace Go.TL
open Go.Proofs
variable [bp]
def aS.ik (s:aS) (n:Int):Bool:=decide (n< -1)||decide ((s.ae.length:Int)<=n)
def pK (s:aS) (pL pM:List Int) (light:Int):Int×Int:=
 if s.err≠0 then(0,s.err) else
 match pL,pM with
 | [i0,i1],[l0,l1]=>if k2 i0=false\/k2 i1=false\/s.ik l0=true\/s.ik l1=true\/light<0\/(s.aj.length:Int)<=light then(0,3) else if i0<=i1 then(0,5) else(s.hA (i0,i1) (l0,l1) light.toNat,0)
 | _,_=>(0,8)
theorem bΦ (s:aS) (n:Int):az Tryz.prog 92 [I n,.ao [aT s.ae,a6 s.aj,bx s.cells]] (a' (s.ik n)):=by
 refine ab.body Υ Tryz.func92 rfl rfl Tryz.ntmps92 rfl rfl ζ ?_;by_cases h:n< -1
 ·refine aE h ?_;refine W.rt ?_;exact .of (by simp[aS.ik,h])
 ·refine aE h ?_;refine W.rt ?_;exact .of (by simp[aS.ik,h])
abbrev bΧ (p:Int×Int):η:=.bq [I p.1,I p.2]
theorem PX (s:aS) (ν:s.small) (pL pM:List Int) (light:Int):az Tryz.prog 34 [fS s,bt I 1 pL,bt I 1 pM,I light] (bΧ (pK s pL pM light)):=by
 refine ab.body Υ Tryz.func34 rfl rfl Tryz.ntmps34 rfl rfl ζ ?_;refine Η ?_;refine bh λΘ θ=>?_;refine az.d (Ik s ν) (bD ?_);apply θ;refine Η ?_;by_cases dd:s.err=0
 case neg=>
  refine aD (by simp[dd]) ?_;refine Η ?_;refine W.rt ?_;exact .of (by rw[show pK s pL pM light=(0,s.err) by unfold pK;rw[if_pos dd]];rfl)
 refine aA (by simp[dd]) ?_;refine Η ?_;have hv:pK s pL pM light=match (generalizing:=false) pL,pM with
   | [i0,i1],[l0,l1]=>if k2 i0=false\/k2 i1=false\/s.ik l0=true\/s.ik l1=true\/light<0\/(s.aj.length:Int)<=light then(0,3) else if i0<=i1 then(0,5) else(s.hA (i0,i1) (l0,l1) light.toNat,0)
   | _,_=>(0,8):=by unfold pK;rw[if_neg (by simpa using dd)]
 by_cases bC:(pL.length:Int)=2
 case neg=>
  have e:pK s pL pM light=(0,8):=by
   rw[hv];split
   ·simp at bC
   ·rfl
  refine hz bC λΘ θ=>?_;apply θ;refine aD rfl ?_;refine Η ?_;refine W.rt ?_;exact .of (by rw[e];rfl)
 by_cases dt:(pM.length:Int)=2
 case neg=>
  have e:pK s pL pM light=(0,8):=by
   rw[hv];split
   ·simp at dt
   ·rfl
  refine hz (υ bC dt) λΘ θ=>?_;apply θ;refine aD rfl ?_;refine Η ?_;refine W.rt ?_;exact .of (by rw[e];rfl)
 obtain⟨i0,i1,rfl⟩:∃a b,pL=[a,b]:=by
  match pL,bC with
  | [a,b],_=>exact⟨a,b,rfl⟩
  | [],h=>simp at h
  | [_],h=>simp at h
  | _::_::_::_,h=>simp at h;omega
 obtain⟨l0,l1,rfl⟩:∃a b,pM=[a,b]:=by
  match pM,dt with
  | [a,b],_=>exact⟨a,b,rfl⟩
  | [],h=>simp at h
  | [_],h=>simp at h
  | _::_::_::_,h=>simp at h;omega
 simp only at hv;refine bh λΘ θ=>?_;apply θ;refine aA rfl ?_
 repeat apply Ω
 have f3:(k2 i0=false\/k2 i1=false\/s.ik l0=true\/s.ik l1=true\/light<0\/(s.aj.length:Int)<=light)->pK s [i0,i1] [l0,l1] light=(0,3):=λh=>by rw[hv];exact if_pos h
 have bΨ:([l0,l1].any s.ik)=(s.ik l0||s.ik l1):=ζ
 have call3:az Tryz.prog 94 [bt I 1 [l0,l1],.fn (.func 92) [] [.ao [aT s.ae,a6 s.aj,bx s.cells]]] (a' (s.ik l0||s.ik l1)):=by
  rw[<-bΨ];exact WX [l0,l1] _ s.ik ζ (by simp[mg]) (λx _=>λ_=>(bΦ s x).cc (by simp;exact bI.refl _) ζ ζ ⟨rfl,rfl⟩)
 cases dY:k2 i0
 case false=>
  have a4:=f3 (.inl dY);refine bh λΘ θ=>?_;refine az.d (pw i0) (gS dY ?_);apply θ;refine aD rfl ?_;refine Η ?_;refine W.rt ?_;exact .of (by rw[a4];rfl)
 cases c1:k2 i1
 case false=>
  have a4:=f3 (.inr (.inl c1));refine bh λΘ θ=>?_;refine az.d (pw i0) (gS dY ?_);refine az.d (pw i1) (gS c1 ?_);apply θ;refine aD rfl ?_;refine Η ?_;refine W.rt ?_;exact .of (by rw[a4];rfl)
 cases c2:s.ik l0||s.ik l1
 case true=>
  have a4:=f3 (.inr (.inr (by rcases Bool.or_eq_true _ _ |>.mp c2 with h|h<;>simp[h])));refine bh λΘ θ=>?_;refine az.d (pw i0) (gS dY ?_);refine az.d (pw i1) (gS c1 ?_);refine az.c call3 (bI.refl _) (by simp[mg]) ζ ?_;simp[c2];(repeat (rw[al];simp[c2]));apply θ;refine aD rfl ?_;refine Η ?_;refine W.rt ?_;exact .of (by rw[a4];rfl)
 by_cases c3:light<0
 ·have a4:=f3 (.inr (.inr (.inr (.inr (.inl c3)))));refine bh λΘ θ=>?_;refine az.d (pw i0) (gS dY ?_);refine az.d (pw i1) (gS c1 ?_);refine az.c call3 (bI.refl _) (by simp[mg]) ζ ?_;simp[c2,c3];(repeat (rw[al];simp[c2,c3]));apply θ;refine aD rfl ?_;refine Η ?_;refine W.rt ?_;exact .of (by rw[a4];rfl)
 by_cases c4:(s.aj.length:Int)<=light
 ·have a4:=f3 (.inr (.inr (.inr (.inr (.inr c4)))));refine bh λΘ θ=>?_;refine az.d (pw i0) (gS dY ?_);refine az.d (pw i1) (gS c1 ?_);refine az.c call3 (bI.refl _) (by simp[mg]) ζ ?_;simp[c2,c3,c4];(repeat (rw[al];simp[c2,c3,c4]));apply θ;refine aD rfl ?_;refine Η ?_;refine W.rt ?_;exact .of (by rw[a4];rfl)
 have FF:s.ik l0=false/\s.ik l1=false:=by simpa using c2
 rw[if_neg (by rw[dY,c1,FF.1,FF.2];simp;omega)] at hv;refine bh λΘ θ=>?_;refine az.d (pw i0) (gS dY ?_);refine az.d (pw i1) (gS c1 ?_);refine az.c call3 (bI.refl _) (by simp[mg]) ζ ?_;simp[c2,c3,c4];(repeat (rw[al];simp[c2,c3,c4]));apply θ;refine aA rfl ?_
 repeat apply Ω
 refine uV ?_;by_cases nO:i0<=i1
 ·rw[if_pos nO] at hv;refine aD (by simp[nO]) ?_;refine Η ?_;refine W.rt ?_;exact .of (by rw[hv];rfl)
 ·rw[if_neg nO] at hv;refine aA (by simp[nO]) ?_;obtain⟨n,rfl⟩:∃n:Nat,light=n:=⟨light.toNat,R⟩;have Ζ:n<s.aj.length:=R;have cQ:l0<s.ae.length:=by have:=FF.1;simp[aS.ik] at this;omega
  have Ρ:l1<s.ae.length:=by have:=FF.2;simp[aS.ik] at this;omega
  repeat apply Ω
  refine W.draw (A:=[]) Υ mixed λΘ θ=>rM ?_;refine eZ (az.p (AR s ν (i0,i1) (l0,l1) n Ζ cQ Ρ) (bI.refl _) ζ ζ) ?_;simp;(repeat (rw[dq];simp[]));try rw[dp]
  refine e5 (θ _ _ ?_);refine Η ?_;refine W.rt ?_;exact .of (by rw[hv];rfl)
end Go.TL
namespace Go.TL
open Go.Proofs
def fE:Nat->Int×Int
 | 0=>(1,0)
 | 1=>(2,0)
 | _=>(2,1)
def fF (s:aS) (p:Int×Int):Found:=⟨p.1,p.2,(List.range s.cells.length).map (iO s p)⟩
def jC (s:aS) (k:Nat):Option Found:=if k<3/\0<(fF s (fE k)).many (-1) then some (fF s (fE k)) else none
def dN (s:aS):List Found:=(List.range 3).filterMap (jC s)
structure JF (N:Nat) (s:aS):Prop where
 small:s.small
 ae:s.ae.length<2 ^ 20
 lit:∀c∈s.cells,∀x∈c,0<=x.light/\x.light<s.aj.length
 reads:∀k,k<3->∀c,c<s.cells.length->(iO s (fE k) c).length<=N
 many:∀k,k<3->∀i,i<=s.cells.length->je (fF s (fE k)).cells (-1) i<2 ^ 62
abbrev PY (s:aS):Prop:=JF 12 s
theorem PZ {N:Nat} (ck:N<2 ^ 20) (gh:∀c:bp,@EG c N) {s:aS} (h:JF N s):@rT oV s (dN s):=λ_=>by
 refine bΞ (fd:=jC s) (pr:=fE) (F:=λk=>fF s (fE k)) (N:=λk=>(fF s (fE k)).many (-1)) ⟨λk χ c=>?_,λk χ c=>?_,λk=>rfl⟩ rfl rfl rfl rfl ?_
 ·exact @XO c s h.small h.ae (fE k) h.lit N ck (gh c) (h.reads k χ)
 ·have ξ:(fF s (fE k)).cells.length=s.cells.length:=by simp[fF]
  have:=h.small.2.2.1;exact @Ey c (fF s (fE k)) (-1) (by rw[ξ];omega) (λi hi=>h.many k χ i (by rw[<-ξ];exact hi))
 ·have e:(List.range 3).filterMap (jC s)=(jC s 0).toList++(jC s 1).toList++(jC s 2).toList:=by
   show [0,1,2].filterMap (jC s)=_;simp only[List.filterMap_cons,List.filterMap_nil];cases jC s 0<;>cases jC s 1<;>cases jC s 2<;>rfl
  show((List.range 3).filterMap (jC s)).Pairwise oW;rw[e];have m:∀k x,x∈(jC s k).toList->x=fF s (fE k):=λk x γ=>by
   unfold jC at γ;split at γ
   ·simpa using γ
   ·simp at γ
  have one:∀k,((jC s k).toList).Pairwise oW:=λk=>by cases jC s k<;>simp
  rw[List.pairwise_append,List.pairwise_append];refine⟨⟨one 0,one 1,λa κ b hb=>?_⟩,one 2,λa κ b hb=>?_⟩
  ·rw[m 0 a κ,m 1 b hb];exact .inl (show(fE 0).1<(fE 1).1 by decide)
  ·rw[m 2 b hb];rcases List.mem_append.1 κ with κ|κ
   ·rw[m 0 a κ];exact .inl (show(fE 0).1<(fE 2).1 by decide)
   ·rw[m 1 a κ];exact .inr ⟨rfl,show(fE 1).2<(fE 2).2 by decide⟩
theorem bΩ {s:aS} (h:PY s):@rT oV s (dN s):=PZ br (λc=>@XG c) h
theorem P0:PY fx:=by
 refine⟨by unfold aS.small;decide,br,br,?_,?_⟩
 ·have:∀k<3,∀c<2,(iO fx (fE k) c).length<=12:=by decide +kernel
  exact this
 ·have:∀k<3,∀i<3,je (fF fx (fE k)).cells (-1) i<2 ^ 62:=by decide +kernel
  exact λk χ i hi=>this k χ i (by have:i<=2:=hi;omega)
theorem P1:fx.err=0:=by decide +kernel
theorem cα:tx fx (dN fx)=(1,1,2,0):=by decide +kernel
theorem cβ:vn fx (dN fx) 1 true=([1],0):=by decide +kernel
theorem cγ:pK fx [1,0] [1,4] 1=(12,0):=by decide +kernel
theorem cδ:lG (dN fx)=[[1,0],[2,0]]:=by decide +kernel
def y0 (b:ByteArray):Int:=(b.data[0]!).toNat
theorem P2 {l m:List Int} (π:l.Perm m) (hm:m.Pairwise λa b=>a<=b):nZ l=m:=by
 have Ir:∀a b c:Int,decide (a<=b)=true->decide (b<=c)=true->decide (a<=c)=true:=λa b c h k=>by simp at *;omega
 have Is:∀a b:Int,(decide (a<=b)||decide (b<=a))=true:=λa b=>by simp;omega
 have s1:=List.pairwise_mergeSort (le:=λx y:Int=>decide (x<=y)) Ir Is l
 have dn:(l.mergeSort λx y:Int=>decide (x<=y)).Perm m:=(List.mergeSort_perm l _).trans π;exact List.Perm.eq_of_pairwise (le:=λa b:Int=>a<=b) (λa b _ _ h k=>R) (s1.imp λ{a b} h=>by simpa using h) hm dn
theorem P3:gr (dN fx) 0 true=[4,4]:=by decide +kernel
theorem P4:gr (dN fx) 1 true=[1,2,1,2]:=by decide +kernel
theorem cε:(spell [111,63]).toList=[111,63]:=by decide +kernel
theorem cζ:(eK fx true (dN fx)).2.2=0:=by decide +kernel
theorem cη {l:List (List (Int×Int))} {gT:Int} (h:∀j:Nat,((l[j]?).getD []).length<=2):∀i,je l gT i<=2 ^ i:=by
 intro i
 induction i with
 | zero=>simp[je]
 | succ i ω=>
  rw[@Ex ⟨λ_=>True⟩,Nat.pow_succ];refine Nat.mul_le_mul ω ?_;split
  ·omega
  ·exact h i
theorem cθ:∀f∈dN fx,f.cells.length=2/\∀c∈f.cells,c.length<=2:=by decide +kernel
theorem P5:EK fx (dN fx):=by
 refine⟨by decide +kernel,by decide +kernel,?_,by decide +kernel⟩;intro f Τ;obtain⟨J,U⟩:=cθ f Τ;refine⟨by rw[J];decide,λgT i hi=>Nat.lt_of_le_of_lt (cη (λj=>?_) i) ?_⟩
 ·cases δ:f.cells[j]? with
  | none=>simp
  | some c=>simpa using U c (cG δ)
 ·have:2 ^ i<=2 ^ 2:=Nat.pow_le_pow_right R R;omega
theorem P6:lH (dN fx) 0 true=[4]:=by
 unfold lH;rw[P3,P2 (m:=[4,4]) (.refl _) br];decide
theorem P7:lH (dN fx) 1 true=[1,2]:=by
 unfold lH;rw[P4,P2 (m:=[1,1,2,2]) br br];decide
theorem cι:Ip fx (dN fx) true y0 12:=by
 refine⟨by decide +kernel,by decide +kernel,λc ε=>?_,λg Ο=>?_⟩
 ·have ε:c<2:=ε
  match c,ε with
  | 0,_=>rw[P3,P6];decide
  | 1,_=>rw[P4,P7];decide
 ·simp only[fx,List.mem_cons,List.not_mem_nil,or_false] at Ο;rcases Ο with rfl|rfl|rfl|rfl|rfl<;>rfl
theorem cκ:n0 fx (dN fx) true y0 2=[111,63]:=by
 show [0,1].map (u3 fx (dN fx) true y0)=_;simp only[List.map_cons,List.map_nil,u3,P6,P7];decide +kernel
theorem cμ:pE fx (dN fx) true y0=(spell [111,63],0):=by
 unfold pE;rw[if_pos cζ];show(spell (n0 fx (dN fx) true y0 2),(0:Int))=_;rw[cκ]
theorem cν:@az oV Tryz.prog 21 [] (a' true):=by
 letI:bp:=oV;have ν:=P0.small;have Ι:=bΩ P0;refine ab.body Υ Tryz.func21 rfl rfl Tryz.ntmps21 rfl rfl ζ ?_;refine Η ?_;refine bh λΘ θ=>?_;refine az.d (BE) (bD ?_);refine az.c (PX fx ν [1,0] [1,4] 1) (.cons (.refl _) (.cons .ex (.cons .ex (.cons (.refl _) .nil)))) ζ ζ ?_;rw[cγ];simp;(repeat (rw[al];simp[]));apply θ;refine bh λΘ θ=>?_;refine az.d (BE) (bD ?_);refine az.c (Xk fx ν _ Ι (by decide +kernel)) (bI.refl _) ζ ζ ?_;rw[if_pos P1,P1,cδ];simp;(repeat (rw[al];simp[]));apply θ;refine bh λΘ θ=>?_;refine az.d (BE) (bD ?_);refine az.c (Iq fx ν _ Ι true y0 12 br Xt (λ_=>cι)) (bI.refl _) ζ ζ ?_;rw[cμ];simp;(repeat (rw[al];simp[]));apply θ;refine bh λΘ θ=>?_;refine az.d (BE) (bD ?_);refine az.c (X4 fx ν _ Ι P5) (bI.refl _) ζ ζ ?_;rw[cα];simp;(repeat (rw[al];simp[]));apply θ;refine bh λΘ θ=>?_;refine az.d (BE) (bD ?_);refine az.c (aΕ fx ν _ Ι P5 1 true br) (bI.refl _) ζ ζ ?_;rw[cβ];simp;(repeat (rw[al];simp[]));apply θ;refine bh λΘ θ=>?_;refine az.c (Xe 9) (bI.refl _) ζ ζ ?_;have dU:valid 9=true:=by decide +kernel
 have dA:Et 9=6:=by decide +kernel
 rw[dU,dA];simp;(repeat (rw[al];simp[]));apply θ;refine hz @cε λΘ θ=>?_;refine az.c (WG [[1,0],[2,0]] [[1,0],[2,0]] br br) (.cons (.refl _) (.cons ?_ .nil)) ζ ζ ?_
 ·exact .map (l:=[[1,0],[2,0]]) (f:=λl:List Int=>.sl true 1 (l.map I)) (g:=bt I 1) λx _=>.one .ex rfl rfl
 simp;(repeat (rw[al];simp[]));refine az.c (NA [1] [1] br) (.cons (.refl _) (.cons .ex .nil)) ζ ζ ?_;simp;(repeat (rw[al];simp[]));apply θ;refine W.rt ?_;exact .of ζ
end Go.TL
namespace Go.TL
open Go.Proofs
variable [bp]
structure cz where
 a7:List Int
 state:Int
abbrev P8 (n:Int):η:=.z (.int .u64 n)
abbrev cξ (d:cz):η:=.a0 [bt I 1 d.a7,P8 d.state]
abbrev bz (d:cz):Row:=.cells 93 2 [cξ d]
def BI (d:cz):Int:=IntKind.u64.wrap (d.a7.headD 0)
def y1 (d:cz):Int:=IntKind.u64.wrap (IntKind.u64.wrap (IntKind.u64.wrap (d.state+(if d.a7=[] then 0 else BI d))+6364136223846793005)*15074714826142052245)
def tG (d:cz):Int:=z7 .u64 (y1 d) ((y1 d).fdiv (2 ^ min 29 IntKind.u64.bits))
def si (d:cz):Int:=(IntKind.u64.wrap (z7 .u64 (tG d) ((tG d).fdiv (2 ^ min 33 IntKind.u64.bits))*18397679294719823053)).fdiv (2 ^ min 32 IntKind.u64.bits)
def cz.next (d:cz):cz:=⟨d.a7.tail,tG d⟩
theorem cο (d:cz) (hd:d.a7.length<2 ^ 63):ab Tryz.prog 73 [.ah 0 1 0 0] [bz d] (λr s=>r=P8 (si d)/\s=[bz d.next]) (λ_ _=>False):=by
 obtain⟨l,q⟩:=d;refine ab.body Υ Tryz.func73 rfl rfl Tryz.ntmps73 rfl rfl ζ ?_;refine Η ?_;cases l with
 | nil=>
  refine aA ζ ?_;refine Η ?_;refine uV ?_
  repeat apply Ω
  refine uV ?_;refine Η ?_;exact W.ret ⟨_,rfl,by simp[si,tG,y1,BI],by simp[cz.next,tG,y1,BI]⟩
 | cons a l=>
  refine aD ζ ?_;refine Η ?_;have lC:List.take l.length (l.map I)=l.map I:=List.take_of_length_le ζ;refine hz lC λΘ θ=>?_;refine⟨R,?_⟩;apply θ;refine Η ?_;refine uV ?_
  repeat apply Ω
  refine uV ?_;refine Η ?_;exact W.ret ⟨_,rfl,by simp[si,tG,y1,BI],by simp[cz.next,tG,y1,BI]⟩
def hD (d:cz) (n:Int):Int:=if n<=0 then 0 else IntKind.i64.wrap ((IntKind.u64.wrap (si d*IntKind.u64.wrap (IntKind.i64.wrap (n+1)))).fdiv (2 ^ min 32 IntKind.u64.bits))
def cz.after (d:cz) (n:Int):cz:=if n<=0 then d else d.next
theorem n' (d:cz):iJ (bz d):=by simp[iJ,η.cells]
theorem JG (d:cz) (hd:d.a7.length<2 ^ 63) (n:Int):ab Tryz.prog 24 [.ah 0 1 0 0,I n] [bz d] (λr s=>r=I (hD d n)/\s=[bz (d.after n)]) (λ_ _=>False):=by
 refine ab.body Υ Tryz.func24 rfl rfl Tryz.ntmps24 rfl rfl ζ ?_;refine Η ?_;by_cases h:n<=0
 ·refine aD (by simp[h]) ?_;refine Η ?_;exact W.ret ⟨_,rfl,by simp[hD,h],by simp[cz.after,h]⟩
 ·refine aA (by simp[h]) ?_;refine Η ?_;refine bh λΘ θ=>?_;refine ab.one (as0:=[.ah 0 1 0 0]) (cο d hd) 0 rfl (n' d) (n' d.next) (by simp[fR,nS]) ((aJ.z _).iM 1) rfl ?_;simp[nX];(repeat (rw[al];simp[]));apply θ;exact W.ret ⟨_,rfl,by simp[hD,h],by simp[cz.after,h]⟩
def oX (d:cz) (a b:Int):Int:=IntKind.i64.wrap (a+hD d (IntKind.i64.wrap (b-a)))
theorem cπ (d:cz) (hd:d.a7.length<2 ^ 63) (a b:Int):ab Tryz.prog 38 [.ah 0 1 0 0,I a,I b] [bz d] (λr s=>r=I (oX d a b)/\s=[bz (d.after (IntKind.i64.wrap (b-a)))]) (λ_ _=>False):=by
 refine ab.body Υ Tryz.func38 rfl rfl Tryz.ntmps38 rfl rfl ζ ?_;refine Η ?_;refine bh λΘ θ=>?_;refine ab.one (as0:=[.ah 0 1 0 0,I (IntKind.i64.wrap (b-a))]) (JG d hd _) 0 rfl (n' d) (n' _) (by simp[fR,nS]) ((aJ.z _).iM 1) rfl ?_;simp[nX];(repeat (rw[al];simp[]));apply θ;exact W.ret ⟨_,rfl,rfl,rfl⟩
end Go.TL
namespace Go.TL
open Go.Proofs
theorem cρ (x:Int):0<=IntKind.u64.wrap x/\IntKind.u64.wrap x<18446744073709551616:=by
 unfold IntKind.wrap;simp[IntKind.bits,IntKind.signed];omega
theorem u64_in (x:Int) (h:0<=x) (U:x<18446744073709551616):IntKind.u64.wrap x=x:=by
 unfold IntKind.wrap;simp[IntKind.bits,IntKind.signed];omega
theorem P9:(2:Int) ^ min 32 IntKind.u64.bits=4294967296:=br
theorem cς (d:cz):0<=si d/\si d<4294967296:=by
 unfold si;rw[P9];generalize γ:IntKind.u64.wrap _=x;have:=cρ (z7 .u64 (tG d) ((tG d).fdiv (2 ^ min 33 IntKind.u64.bits))*18397679294719823053);rw[γ] at this;rw[Int.fdiv_eq_ediv_of_nonneg _ br];omega
theorem qW (d:cz) (n:Int) (an:0<=n) (Ζ:n<2147483647):0<=hD d n/\hD d n<=n:=by
 unfold hD;split
 ·omega
 ·obtain⟨r0,r1⟩:=cς d;rw[P9,IntWalk.i64_in (n+1) R,u64_in (n+1) R R];have hm:si d*(n+1)<=4294967295*(n+1):=Int.mul_le_mul_of_nonneg_right R R;have π:0<=si d*(n+1):=Int.mul_nonneg r0 R;generalize si d*(n+1)=y at hm π;rw[u64_in y π R,Int.fdiv_eq_ediv_of_nonneg _ br,IntWalk.i64_in _ R];omega
end Go.TL
namespace Go.TL
open Go.Proofs
variable [bp]
def y2 (d:cz) (l:List Int):Nat:=(hD d ((l.length:Int)-1)).toNat
theorem cτ (d:cz) (hd:d.a7.length<2 ^ 63) (l:List Int) (an:0<l.length) (ξ:l.length<1000000):ab Tryz.prog 61 [.ah 0 1 0 0,bt I 1 l] [bz d] (λr s=>r=I (l.getD (y2 d l) 0)/\s=[bz (d.after ((l.length:Int)-1))]) (λ_ _=>False):=by
 refine ab.body Υ Tryz.func61 rfl rfl Tryz.ntmps61 rfl rfl ζ ?_;have hw:IntKind.i64.wrap ((l.length:Int)-1)=(l.length:Int)-1:=IntWalk.i64_in _ R;obtain⟨t0,t1⟩:=qW d ((l.length:Int)-1) R R;obtain⟨k,χ⟩:∃k:Nat,hD d ((l.length:Int)-1)=k:=⟨(hD d ((l.length:Int)-1)).toNat,R⟩;have jK:k<l.length:=R;have dQ:y2 d l=k:=by unfold y2;rw[χ];rfl
 refine Η ?_;refine hz hw λΘ θ=>?_;refine ab.one (as0:=[.ah 0 1 0 0,I ((l.length:Int)-1)]) (JG d hd _) 0 rfl (n' d) (n' _) (by simp[fR,nS]) ((aJ.z _).iM 1) rfl ?_;rw[χ];simp[nX,jK];(repeat (rw[al];simp[jK]));apply θ;exact W.ret ⟨_,rfl,by rw[dQ];simp[List.getD_eq_getElem?_getD,jK],rfl⟩
end Go.TL
namespace Go.TL
open Go.Conc
variable [bp]
section
variable {P:Program} {T:bb} {A:List Nat} {m nt:Nat} {k:List Item} {env:Χ} {σ:List Row} {Z:List Item->Χ->List Row->Prop} {E:η->Χ->List Row->Prop} {ops:Array Oper}
def P' (P:Program) (m nt:Nat) (k:List Item) (Z:List Item->Χ->List Row->Prop) (E:η->Χ->List Row->Prop) (ops:Array Oper) (i:Nat) (o:Oper) (env:Χ) (r:Row) (a:η) (r2:Row):Prop:=
 ∀env' τ rest,oE ops o env env'->W P m nt (.inRegion ops rest::k) (b0 o env' a) (r2::τ) Z E->W P m nt (.inRegion ops (i::rest)::k) env' (r::τ) Z E
def StepB (P:Program) (m nt:Nat) (k:List Item) (Z:List Item->Χ->List Row->Prop) (E:η->Χ->List Row->Prop) (ops:Array Oper) (i:Nat) (o:Oper) (env:Χ) (τ:List Row) (a:η) (cυ:List Row):Prop:=
 ∀env' r rest,oE ops o env env'->W P m nt (.inRegion ops rest::k) (b0 o env' a) (r::cυ) Z E->W P m nt (.inRegion ops (i::rest)::k) env' (r::τ) Z E
theorem Qa {α:Type} {f:Nat->α} {tags:List Bool} (Az:∀i o,ops[i]?=some o->writer ops tags i=false->f (i+1)=f i):∀a b,a<=ops.size->b<=ops.size->(∀j,j<ops.size->writer ops tags j=true->(j<a↔j<b))->f a=f b:=by
 have AA:∀(d a:Nat),a+d<=ops.size->(∀j,a<=j->j<a+d->writer ops tags j=false)->f (a+d)=f a:=by
  intro d
  induction d with
  | zero=>intro a _ _;rfl
  | succ d ω=>
   intro a hle h;have J:ops[a+d]?=some ops[a+d]:=ff R;have:=Az (a+d) _ J (h (a+d) R R);rw[show a+(d+1)=a+d+1 by omega,this];exact ω a R λj J U=>h j J R
 intro a b κ hb h;rcases Nat.le_total a b with hle|hle
 ·have:=AA (b-a) a R λj J U=>by
   cases Ν:writer ops tags j with
   | false=>rfl
   | true=>have:=(h j R Ν).2 R;omega
  rw[show a+(b-a)=b by omega] at this;exact this.symm
 ·have:=AA (a-b) b R λj J U=>by
   cases Ν:writer ops tags j with
   | false=>rfl
   | true=>have:=(h j R Ν).1 R;omega
  rw[show b+(a-b)=a by omega] at this;exact this
theorem Qb {tags:List Bool} (dQ:m6 ops tags=true):∀i o,ops[i]?=some o->(∀j∈hf o,j<i)/\∀j bR,j<i->ops[j]?=some bR->clash ops tags i j o bR=true->j∈(Ea ops).getD i []:=by
 intro i o ψ;have hi:i<ops.size:=(Array.getElem?_eq_some_iff.1 ψ).1;unfold m6 s' at dQ;simp only[List.all_eq_true,List.mem_range] at dQ;have h:=dQ i hi;rw[ψ] at h;simp only[Bool.and_eq_true,List.all_eq_true,decide_eq_true_eq,List.mem_range] at h;refine⟨h.1,λj bR δ de ε=>?_⟩;have U:=h.2 j δ;rw[de] at U;unfold clash at ε;simp only[ε,Bool.not_true,Bool.false_or,List.contains_iff_mem] at U;exact U
theorem Qc {tags:List Bool}:∀j,writer ops tags j=true->tags.getD j false=true:=λj h=>by
 unfold writer at h;rw[Bool.and_eq_true] at h;exact h.1
theorem Qd {tags:List Bool} {i:Nat} {mi:Oper} (mj:tags.getD i false=true):∀j bR,ops[j]?=some bR->writer ops tags j=true->clash ops tags i j mi bR=true/\clash ops tags j i bR mi=true:=λj bR de Ν=>by
 have J:=Qc j Ν;unfold writer at Ν;rw[J,de] at Ν;have U:jb bR=false:=by simpa using Ν
 unfold clash mh ta;rw[J,mj,U];simp
theorem W.cφ {as9:Nat->η} {ρs:Nat->Row} {τs:Nat->List Row} {td tb:List Bool} {env0:Χ} (cχ:m6 ops td=true) (cψ:m6 ops tb=true)
  (cB:∀i o,ops[i]?=some o->td.getD i false=false->tb.getD i false=false->uP P m nt k Z E ops i o (cD ops env0 as9 (λ_=>true) i) (as9 i))
  (cY:∀i o,ops[i]?=some o->td.getD i false=true->P' P m nt k Z E ops i o (cD ops env0 as9 (λ_=>true) i) (ρs i) (as9 i) (ρs (i+1))/\tb.getD i false=false)
  (gh:∀i o,ops[i]?=some o->tb.getD i false=true->StepB P m nt k Z E ops i o (cD ops env0 as9 (λ_=>true) i) (τs i) (as9 i) (τs (i+1)))
  (cω:∀i o,ops[i]?=some o->writer ops td i=false->ρs (i+1)=ρs i) (cΑ:∀i o,ops[i]?=some o->writer ops tb i=false->τs (i+1)=τs i)
  (Ay:W P m nt (.inRegion ops []::k) (cD ops env0 as9 (λ_=>true) ops.size) (ρs ops.size::τs ops.size) Z E) :
  ∀(fuel:Nat) (t:Nat) (listed:Array Bool) (env:Χ) (b4 ht:Nat),listed.size=ops.size->
   (∀i,a5 env i=a5 (cD ops env0 as9 (λi=>listed.getD i false) ops.size) i)->
   (∀i o,ops[i]?=some o->listed.getD i false=true->∀j∈hf o,listed.getD j false=true)->
   b4<=ops.size->ht<=ops.size->(∀j,j<ops.size->writer ops td j=true->(listed.getD j false=true↔j<b4))->(∀j,j<ops.size->writer ops tb j=true->(listed.getD j false=true↔j<ht))->
   ((List.range ops.size).filter λi=>!listed.getD i false).length<=fuel->
   W P m nt (.inRegion ops (Region.linearise.go .any ops fuel t listed [])::k) env (ρs b4::τs ht) Z E:=by
 have wD:=Qb cχ
 have Qe:=Qb cψ
 have tc:∀i o,ops[i]?=some o->∀j∈hf o,j<i:=λi o ψ=>(wD i o ψ).1
 have Qf:=Qa cω
 have Qg:=Qa cΑ;intro fuel;have done:∀(t:Nat) (listed:Array Bool) (env:Χ) (b4 ht:Nat),(∀i,i<ops.size->listed.getD i false=true)->(∀i,a5 env i=a5 (cD ops env0 as9 (λi=>listed.getD i false) ops.size) i)->b4<=ops.size->ht<=ops.size->
   (∀j,j<ops.size->writer ops td j=true->(listed.getD j false=true↔j<b4))->(∀j,j<ops.size->writer ops tb j=true->(listed.getD j false=true↔j<ht))->W P m nt (.inRegion ops []::k) env (ρs b4::τs ht) Z E:=λt listed env b4 ht iv cE gR oo jc vq=>by
  have Γ:ρs b4=ρs ops.size:=Qf b4 ops.size gR (Nat.le_refl _) λj δ Ν=>by rw[<-jc j δ Ν];simp[iv j δ,δ]
  have Δ:τs ht=τs ops.size:=Qg ht ops.size oo (Nat.le_refl _) λj δ Ν=>by rw[<-vq j δ Ν];simp[iv j δ,δ]
  rw[Γ,Δ];refine .congr (λi=>?_) Ay;rw[cE i];exact yk ops.size λi o hi _ _=>iv i hi
 have HU:∀listed:Array Bool,listed.size=ops.size->(∃i,i<ops.size/\listed.getD i false=false)->∃i,i<ops.size/\listed.getD i false=false/\∀j,j<i->listed.getD j false=true:=λlisted cv ⟨i,hi,ξ⟩=>by
  induction i using Nat.strongRecOn with
  | _ i ω=>
   by_cases δ:∃j,j<i/\listed.getD j false=false
   ·obtain⟨j,J,U⟩:=δ;exact ω j J R U
   ·exact⟨i,hi,ξ,λj aH=>by
     cases h:listed.getD j false with
     | true=>rfl
     | false=>exact absurd ⟨j,aH,h⟩ δ⟩
 induction fuel with
 | zero=>
  intro t listed env b4 ht cv cE cm gR oo jc vq HV;have iv:∀i,i<ops.size->listed.getD i false=true:=λi hi=>by
   cases h:listed.getD i false with
   | true=>rfl
   | false=>
    have qo:i∈(List.range ops.size).filter λi=>!listed.getD i false:=by rw[List.mem_filter];exact⟨List.mem_range.2 hi,by rw[h];rfl⟩
    have:((List.range ops.size).filter λi=>!listed.getD i false)=[]:=dO.1 R;rw[this] at qo;simp at qo
  exact done t listed env b4 ht iv cE gR oo jc vq
 | succ fuel ω=>
  intro t listed env b4 ht cv cE cm gR oo jc vq HV;simp only[Region.linearise.go];generalize kB:((List.range ops.size).filter λi=>!listed.getD i true&&((ops[i]?).map (·.after.all λe=>!Region.binds .any e||listed.getD e.on false)).getD false)=rs;have AB:∀i,i<ops.size->listed.getD i true=listed.getD i false:=λi hi=>by
   rw[Array.getD_eq_getD_getElem?,Array.getD_eq_getD_getElem?,ff R];rfl
  have AD:∀i,i∈rs↔i<ops.size/\listed.getD i false=false/\∀o,ops[i]?=some o->∀j∈hf o,listed.getD j false=true:=λi=>by
   rw[<-kB];simp only[List.mem_filter,List.mem_range,Bool.and_eq_true,Bool.not_eq_true'];constructor
   ·rintro⟨J,U,μ⟩;rw[AB i J] at U;refine⟨J,U,λo ψ j δ=>?_⟩;rw[ψ] at μ;simp only[Option.map_some,Option.getD_some,Array.all_eq_true'] at μ;unfold hf at δ;simp only[List.mem_map,List.mem_filter] at δ;obtain⟨e,⟨te,g2⟩,rfl⟩:=δ;have:=μ e (by simpa using te);simpa[g2] using this
   ·rintro⟨J,U,μ⟩;refine⟨J,by rw[AB i J];exact U,?_⟩;have ψ:ops[i]?=some ops[i]:=ff J;rw[ψ];simp only[Option.map_some,Option.getD_some,Array.all_eq_true'];intro e he;by_cases hb:Region.binds .any e=true
    ·have:=μ _ ψ e.on (by unfold hf;simp only[List.mem_map,List.mem_filter];exact⟨e,⟨by simpa using he,hb⟩,rfl⟩);simp[this]
    ·simp[hb]
  cases hi:rs[t % rs.length]? with
  | none=>
   simp only[List.reverse_nil];have zM:rs=[]:=by
    cases ι:rs with
    | nil=>rfl
    | cons x xs=>
     rw[ι] at hi;have aO:t % (x::xs).length<(x::xs).length:=Nat.mod_lt _ ζ;rw[a8 aO] at hi;cases hi
   have iv:∀i,i<ops.size->listed.getD i false=true:=λi aC=>by
    cases h:listed.getD i false with
    | true=>rfl
    | false=>
     obtain⟨r,J,U,μ⟩:=HU listed cv ⟨i,aC,h⟩;have:r∈rs:=(AD r).2 ⟨J,U,λo ψ j δ=>μ j (tc r o ψ j δ)⟩;rw[zM] at this;simp at this
   exact done t listed env b4 ht iv cE gR oo jc vq
  | some i=>
   simp only;rw[Nc];have qo:i∈rs:=cG hi;obtain⟨J,U,μ⟩:=(AD i).1 qo;have ψ:ops[i]?=some ops[i]:=ff J;have HW:=Eb tc (λj=>listed.getD j false=true) (λj o δ ξ=>cm j o δ ξ) i _ ψ (μ _ ψ);have low:∀j bR,j<i->ops[j]?=some bR->(clash ops td i j ops[i] bR=true\/clash ops tb i j ops[i] bR=true)->listed.getD j false=true:=λj bR δ de ε=>HW j (ε.elim (λε=>(wD i _ ψ).2 j bR δ de ε) (λε=>(Qe i _ ψ).2 j bR δ de ε));have high:∀j bR,i<j->ops[j]?=some bR->(clash ops td j i bR ops[i]=true\/clash ops tb j i bR ops[i]=true)->listed.getD j false=false:=λj bR δ de ε=>by
    cases ξ:listed.getD j false with
    | false=>rfl
    | true=>
     have:=Eb tc (λj=>listed.getD j false=true) (λj o δ ξ=>cm j o δ ξ) j bR de (cm j bR de ξ) i (ε.elim (λε=>(wD j bR de).2 i _ δ ψ ε) (λε=>(Qe j bR de).2 i _ δ ψ ε));rw[U] at this;cases this
   have same:oE ops ops[i] (cD ops env0 as9 (λ_=>true) i) env:=λx γ=>by
    rw[cE x];have c1:a5 (cD ops env0 as9 (λi=>listed.getD i false) ops.size) x=a5 (cD ops env0 as9 (λi=>listed.getD i false) i) x:=Ed R λj bR rK AE de hd=>by
     by_cases e:j=i
     ·subst e;exact U
     ·refine high j bR R de ?_;unfold clash mh ta;simp[hd,γ]
    rw[c1];exact yk i λj bR δ de hd=>low j bR δ de (.inl (by unfold clash mh ta;simp[hd,γ]))
   have mY:∀x,a5 (b0 ops[i] env (as9 i)) x=a5 (cD ops env0 as9 (λj=>(listed.setIfInBounds i true).getD j false) ops.size) x:=λx=>by
    have kH:∀j,(listed.setIfInBounds i true).getD j false=if j=i then true else listed.getD j false:=λj=>by
     rw[Array.getD_eq_getD_getElem?,Array.getD_eq_getD_getElem?];by_cases e:j=i
     ·subst e;rw[Array.getElem?_setIfInBounds_self_of_lt R];simp
     ·rw[Array.getElem?_setIfInBounds_ne (Ne.symm e),if_neg e]
    rw[wB];by_cases hd:ops[i].dst=some x
    ·rw[if_pos hd];have c1:a5 (cD ops env0 as9 (λj=>(listed.setIfInBounds i true).getD j false) ops.size) x=a5 (cD ops env0 as9 (λj=>(listed.setIfInBounds i true).getD j false) (i+1)) x:=Ed R λj bR rK AE de qs=>by
      rw[kH,if_neg R];refine high j bR R de (.inl ?_);unfold clash mh ta;simp[hd,qs]
     rw[c1];simp only[cD,kH,if_true,ψ,wB,hd]
    ·rw[if_neg hd,cE x];exact yk ops.size λj bR δ de qs=>by
      rw[kH,if_neg];intro e;subst e;rw[ψ] at de;cases de;exact hd qs
   have kH:∀j,(listed.setIfInBounds i true).getD j false=if j=i then true else listed.getD j false:=λj=>by
    rw[Array.getD_eq_getD_getElem?,Array.getD_eq_getD_getElem?];by_cases e:j=i
    ·subst e;rw[Array.getElem?_setIfInBounds_self_of_lt R];simp
    ·rw[Array.getElem?_setIfInBounds_ne (Ne.symm e),if_neg e]
   have uR:((List.range ops.size).filter λj=>!(listed.setIfInBounds i true).getD j false).length<=fuel:=by
    have aO:((List.range ops.size).filter λj=>!(listed.setIfInBounds i true).getD j false).length<((List.range ops.size).filter λj=>!listed.getD j false).length:=by
     have:((List.range ops.size).filter λj=>!(listed.setIfInBounds i true).getD j false)=((List.range ops.size).filter λj=>!listed.getD j false).filter λj=>j != i:=by
      rw[List.filter_filter];apply List.filter_congr;intro j _;rw[kH];by_cases e:j=i
      ·subst e;simp
      ·simp[e]
     rw[this];have hm:i∈(List.range ops.size).filter λj=>!listed.getD j false:=by
      rw[List.mem_filter];exact⟨List.mem_range.2 J,by rw[U];rfl⟩
     exact List.length_filter_lt_length_iff_exists.2 ⟨i,hm,ζ⟩
    omega
   have qt:∀j o,ops[j]?=some o->(listed.setIfInBounds i true).getD j false=true->∀y∈hf o,(listed.setIfInBounds i true).getD y false=true:=λj o δ ξ y Κ=>by
    rw[kH] at ξ ⊢;by_cases e:y=i
    ·rw[if_pos e]
    ·rw[if_neg e];by_cases Δ:j=i
     ·subst Δ;rw[ψ] at δ;cases δ;exact μ _ ψ y Κ
     ·rw[if_neg Δ] at ξ;exact cm j o δ ξ y Κ
   have keep:∀(tags:List Bool) (b4:Nat),tags.getD i false=false->(∀j,j<ops.size->writer ops tags j=true->(listed.getD j false=true↔j<b4))->∀j,j<ops.size->writer ops tags j=true->((listed.setIfInBounds i true).getD j false=true↔j<b4):=λtags b4 mj jc j δ Ν=>by
    rw[kH];have:j≠i:=λe=>by subst e;rw[Qc j Ν] at mj;cases mj
    rw[if_neg this];exact jc j δ Ν
   have keepW:∀(tags:List Bool) (b4:Nat),writer ops tags i=false->(∀j,j<ops.size->writer ops tags j=true->(listed.getD j false=true↔j<b4))->∀j,j<ops.size->writer ops tags j=true->((listed.setIfInBounds i true).getD j false=true↔j<b4):=λtags b4 kj jc j δ Ν=>by
    rw[kH];have:j≠i:=λe=>by subst e;rw[Ν] at kj;cases kj
    rw[if_neg this];exact jc j δ Ν
   have both:∀(tags:List Bool),tags.getD i false=true->(∀j bR,j<i->ops[j]?=some bR->clash ops tags i j ops[i] bR=true->listed.getD j false=true)->(∀j bR,i<j->ops[j]?=some bR->clash ops tags j i bR ops[i]=true->listed.getD j false=false)->
     (∀j,j<ops.size->writer ops tags j=true->j<i->listed.getD j false=true)/\(∀j,j<ops.size->writer ops tags j=true->i<j->listed.getD j false=false):=λtags mj lo hi=>⟨λj δ Ν wE=>lo j _ wE (ff δ) (Qd mj j _ (ff δ) Ν).1,λj δ Ν wE=>hi j _ wE (ff δ) (Qd mj j _ (ff δ) Ν).2⟩
   have Qh:∀(tags:List Bool) (b4:Nat),(∀j,j<ops.size->writer ops tags j=true->j<i->listed.getD j false=true)->(∀j,j<ops.size->writer ops tags j=true->i<j->listed.getD j false=false)->(∀j,j<ops.size->writer ops tags j=true->(listed.getD j false=true↔j<b4))->∀j,j<ops.size->writer ops tags j=true->(j<b4↔j<i):=λtags b4 lo hi jc j δ Ν=>by
    rw[<-jc j δ Ν];constructor
    ·intro ξ;apply Classical.byContradiction;intro Ζ;by_cases e:j=i
     ·subst e;rw[U] at ξ;cases ξ
     ·rw[hi j δ Ν R] at ξ;cases ξ
    ·exact lo j δ Ν
   have next:∀(tags:List Bool),(∀j,j<ops.size->writer ops tags j=true->j<i->listed.getD j false=true)->(∀j,j<ops.size->writer ops tags j=true->i<j->listed.getD j false=false)->∀j,j<ops.size->writer ops tags j=true->((listed.setIfInBounds i true).getD j false=true↔j<i+1):=λtags lo hi j δ Ν=>by
    rw[kH];by_cases e:j=i
    ·subst e;simp
    ·rw[if_neg e];constructor
     ·intro ξ;apply Classical.byContradiction;intro Ζ;rw[hi j δ Ν R] at ξ;cases ξ
     ·intro aO;exact lo j δ Ν R
   cases BJ:td.getD i false with
   | true=>
    obtain⟨cH,y3⟩:=cY i _ ψ BJ;obtain⟨lo,aC⟩:=both td BJ (λj bR a b c=>low j bR a b (.inl c)) (λj bR a b c=>high j bR a b (.inl c));rw[Qf b4 i gR R (Qh td b4 lo aC jc)];refine cH env _ _ same ?_;exact ω _ _ _ (i+1) ht (by simpa using cv) mY qt R oo (next td lo aC) (keep tb ht y3 vq) uR
   | false=>
    cases y3:tb.getD i false with
    | false=>
     refine cB i _ ψ BJ y3 env _ _ same ?_;exact ω _ _ _ b4 ht (by simpa using cv) mY qt gR oo (keep td b4 BJ jc) (keep tb ht y3 vq) uR
    | true=>
     obtain⟨lo,aC⟩:=both tb y3 (λj bR a b c=>low j bR a b (.inr c)) (λj bR a b c=>high j bR a b (.inr c));rw[Qg ht i oo R (Qh tb ht lo aC vq)];refine gh i _ ψ y3 env _ _ same ?_;exact ω _ _ _ b4 (i+1) (by simpa using cv) mY qt gR R (keep td b4 BJ jc) (next tb lo aC) uR
def y4 (f:Row->cV) (K:η->List Row->Prop):Prop:=∃a e0,((∀r,f r=.ok a (r::e0))\/∃p:Prop,p/\∀r,f r=.b6 p (.ok a (r::e0)))/\K a e0
theorem cΒ {f g:Row->cV} {K:η->List Row->Prop} (h:∀r,f r=g r):y4 f K=y4 g K:=by rw[funext h]
theorem cΓ {a:η} {τ:List Row} {K:η->List Row->Prop}:y4 (λr=>.ok a (r::τ)) K=K a τ:=by
 refine propext ⟨λ⟨b,e0,h,χ⟩=>?_,λh=>⟨a,τ,.inl λ_=>rfl,h⟩⟩;rcases h with h|⟨p,_,h⟩
 ·have:=h (.map []);injection this with J U
  injection U with _ U
  rw[J,U];exact χ
 ·have:=h (.map []);cases this
theorem cΔ {p:Prop} {a:η} {τ:List Row} {K:η->List Row->Prop}:y4 (λr=>.b6 p (.ok a (r::τ))) K=(p/\K a τ):=by
 refine propext ⟨λ⟨b,e0,h,χ⟩=>?_,λh=>⟨a,τ,.inr ⟨p,h.1,λ_=>rfl⟩,h.2⟩⟩;rcases h with h|⟨q,Ξ,h⟩
 ·have:=h (.map []);cases this
 ·have:=h (.map []);injection this with an J
  injection J with J U
  injection U with _ U
  rw[J,U];exact⟨an▸Ξ,χ⟩
def y5 (P:Program) (f:η) (args:List η) (r:Row) (fv:η->Prop) (lP:η->Row->Prop):Prop:=
 (∃a,gi P f args a/\fv a)\/∃a r',(∀τ,ha P f args (r::τ) (λb s=>b=a/\s=r'::τ) (λ_ _=>False))/\lP a r'
theorem cΕ {P:Program} {f:η} {args:List η} {r:Row} {fv:η->Prop} {lP:η->Row->Prop} {a:η} (h:gi P f args a) (k:fv a):y5 P f args r fv lP:=.inl ⟨a,h,k⟩
theorem cΖ {P:Program} {f:η} {args:List η} {r r':Row} {fv:η->Prop} {lP:η->Row->Prop} {a:η} (h:∀τ,ha P f args (r::τ) (λb s=>b=a/\s=r'::τ) (λ_ _=>False)) (k:lP a r'):y5 P f args r fv lP:=.inr ⟨a,r',h,k⟩
def BK (P:Program) (T:bb) (A:List Nat) (env:Χ) (o:Oper) (r:Row) (τ:List Row) (fv:η->Prop) (lP:η->Row->Prop) (iH:η->List Row->Prop):Prop:=match o.op with
 | .call ⟨.value f,args,_⟩=>y5 P (aR env f) (args.toList.map (aR env)) r fv lP
 | .panic _=>False
 | .defer _=>False
 | _=>(jx T A env o).dZ fv (y4 (λr=>ib T A env (r::τ) o) iH)
theorem cΗ {P:Program} {T:bb} {A:List Nat} {env:Χ} {o:Oper} {r:Row} {τ:List Row} {fv:η->Prop} {lP:η->Row->Prop} {iH:η->List Row->Prop}:BK P T A env o r τ fv lP iH=match o.op with
 | .call ⟨.value f,args,_⟩=>y5 P (aR env f) (args.toList.map (aR env)) r fv lP
 | .panic _=>False
 | .defer _=>False
 | _=>(jx T A env o).dZ fv (y4 (λr=>ib T A env (r::τ) o) iH):=Eq.trans rfl rfl
def jk (P:Program) (T:bb) (A:List Nat) (nt:Nat) (ops:Array Oper):List Nat->Χ->Row->List Row->List Bool->List Bool->(Χ->List Row->Prop)->Prop
 | [],env,r,τ,td,tb,K=>m6 ops td=true/\m6 ops tb=true/\K env (r::τ)
 | i::is,env,r,τ,td,tb,K=>gg ops[i]? λo=>hc nt o=true/\gg (fe env ops o) λw=>
   ic w (jk P T A nt ops is (b0 o env .cg) r τ (td++[false]) (tb++[false]) K)
    (BK P T A env o r τ (λa=>jk P T A nt ops is (b0 o env a) r τ (td++[false]) (tb++[false]) K) (λa r'=>jk P T A nt ops is (b0 o env a) r' τ (td++[true]) (tb++[false]) K) (λa e0=>jk P T A nt ops is (b0 o env a) r e0 (td++[false]) (tb++[true]) K))
def Qi (P:Program) (T:bb) (A:List Nat) (nt:Nat) (ops:Array Oper) (is:List Nat) (o:Oper) (env:Χ) (r:Row) (τ:List Row) (td tb:List Bool) (K:Χ->List Row->Prop) (a:η):Prop:=jk P T A nt ops is (b0 o env a) r τ (td++[false]) (tb++[false]) K
def Qj (P:Program) (T:bb) (A:List Nat) (nt:Nat) (ops:Array Oper) (is:List Nat) (o:Oper) (env:Χ) (τ:List Row) (td tb:List Bool) (K:Χ->List Row->Prop) (a:η) (r:Row):Prop:=jk P T A nt ops is (b0 o env a) r τ (td++[true]) (tb++[false]) K
def Qk (P:Program) (T:bb) (A:List Nat) (nt:Nat) (ops:Array Oper) (is:List Nat) (o:Oper) (env:Χ) (r:Row) (td tb:List Bool) (K:Χ->List Row->Prop) (a:η) (τ:List Row):Prop:=jk P T A nt ops is (b0 o env a) r τ (td++[false]) (tb++[true]) K
section
variable {is:List Nat} {i:Nat} {o:Oper} {r:Row} {τ:List Row} {td tb:List Bool} {K:Χ->List Row->Prop} {a:η}
theorem oY:jk P T A nt ops [] env r τ td tb K=(m6 ops td=true/\m6 ops tb=true/\K env (r::τ)):=Eq.trans rfl rfl
theorem oZ:jk P T A nt ops (i::is) env r τ td tb K=gg ops[i]? λo=>hc nt o=true/\gg (fe env ops o) λw=>
   ic w (jk P T A nt ops is (b0 o env .cg) r τ (td++[false]) (tb++[false]) K) (BK P T A env o r τ (Qi P T A nt ops is o env r τ td tb K) (Qj P T A nt ops is o env τ td tb K) (Qk P T A nt ops is o env r td tb K)):=Eq.trans rfl rfl
theorem cΘ:Qi P T A nt ops is o env r τ td tb K a=jk P T A nt ops is (b0 o env a) r τ (td++[false]) (tb++[false]) K:=Eq.trans rfl rfl
theorem cΙ:Qj P T A nt ops is o env τ td tb K a r=jk P T A nt ops is (b0 o env a) r τ (td++[true]) (tb++[false]) K:=Eq.trans rfl rfl
theorem cΚ:Qk P T A nt ops is o env r td tb K a τ=jk P T A nt ops is (b0 o env a) r τ (td++[false]) (tb++[true]) K:=Eq.trans rfl rfl
end
def JH (P:Program) (m nt:Nat) (k:List Item) (Z:List Item->Χ->List Row->Prop) (E:η->Χ->List Row->Prop) (ops:Array Oper) (i:Nat) (o:Oper) (env:Χ) (r:Row) (τ:List Row) (d b:Bool) (a:η) (r':Row) (e0:List Row):Prop:=
 (d=true/\b=false/\P' P m nt k Z E ops i o env r a r'/\e0=τ)\/(d=false/\b=true/\StepB P m nt k Z E ops i o env τ a e0/\r'=r/\(jb o=true->e0=τ))\/(d=false/\b=false/\uP P m nt k Z E ops i o env a/\r'=r/\e0=τ)
theorem cΜ (Ι:bN P T) {i:Nat} {is:List Nat} {r:Row} {τ:List Row} {td tb:List Bool} {K:Χ->List Row->Prop} (h:jk P T A nt ops (i::is) env r τ td tb K) :
  ∃o a r' e0 d b,ops[i]?=some o/\JH P m nt k Z E ops i o env r τ d b a r' e0/\(d=true->jb o=false)/\jk P T A nt ops is (b0 o env a) r' e0 (td++[d]) (tb++[b]) K:=by
 unfold jk gg at h;split at h
 ·exact h.elim
 ·rename_i o ψ;obtain⟨hd,h⟩:=h;split at h
  ·exact h.elim
  rename_i w hw;unfold ic at h;cases w
  ·replace h:=h.1 rfl
   exact⟨o,.cg,r,τ,false,false,ψ,.inr (.inr ⟨rfl,rfl,λenv' σ' rest ν hW=>.unwanted ψ (by rw[k0 ν];exact hw) hd hW,rfl,rfl⟩),λh=>(by cases h),h⟩
  ·replace h:=h.2 rfl
   unfold BK at h;split at h
   ·rename_i f args ej Μ;have uT:∀env',oE ops o env env'->aR env' f=aR env f/\args.toList.map (aR env')=args.toList.map (aR env):=λenv' ν=>by
     have γ:=AF ν;rw[Μ] at γ;refine⟨γ f (by simp[Op.operands,Call.operands]),AG λx AH=>γ x (by simp[Op.operands,Call.operands,AH])⟩
    rcases h with⟨a,ε,h⟩|⟨a,r',ε,h⟩
    ·refine⟨o,a,r,τ,false,false,ψ,.inr (.inr ⟨rfl,rfl,λenv' σ' rest ν hW=>.call ψ (by rw[k0 ν];exact hw) hd Μ ?_,rfl,rfl⟩),λh=>(by cases h),h⟩;obtain⟨Γ,Δ⟩:=uT env' ν;rw[Γ,Δ];exact(ε σ').mono (λa s ⟨x,y⟩=>by subst x;subst y;exact hW) (λ_ _ h=>h.elim)
    ·refine⟨o,a,r',τ,true,false,ψ,.inl ⟨rfl,rfl,λenv' e0 rest ν hW=>.call ψ (by rw[k0 ν];exact hw) hd Μ ?_,rfl⟩,λ_=>(by unfold jb;rw[Μ]),h⟩;obtain⟨Γ,Δ⟩:=uT env' ν;rw[Γ,Δ];exact(ε e0).mono (λa s ⟨x,y⟩=>by subst x;subst y;exact hW) (λ_ _ h=>h.elim)
   ·exact h.elim
   ·exact h.elim
   ·rename_i J U μ;have uU:∀(BL:cw) (a:η),jx T A env o=BL->(∀K:η->List Row->Prop,∀s,K a s->(BL.dw s).holds K)->(∀σ s,BL.or σ s=BL.dw σ)->uP P m nt k Z E ops i o env a:=λBL a ι aY AI env' σ' rest ν hW=>by
     refine .op (A:=A) Ι ψ (by rw[k0 ν];exact hw) hd (λc ε=>μ c ε) ?_;rw[tf ν,ι,AI];exact aY _ _ hW
    unfold cw.dZ at h;split at h
    ·rename_i a κ;exact⟨o,a,r,τ,false,false,ψ,.inr (.inr ⟨rfl,rfl,uU _ a κ (λK s χ=>χ) (λ_ _=>rfl),rfl,rfl⟩),λh=>(by cases h),h⟩
    ·rename_i p a κ;exact⟨o,a,r,τ,false,false,ψ,.inr (.inr ⟨rfl,rfl,uU _ a κ (λK s χ=>⟨h.1,χ⟩) (λ_ _=>rfl),rfl,rfl⟩),λh=>(by cases h),h.2⟩
    ·exact h.elim
    ·rename_i nQ;have wF:∀(a:η) (e0:List Row),(∀r,∃x:cV,ib T A env (r::τ) o=x/\∀K:η->List Row->Prop,K a (r::e0)->x.holds K)->StepB P m nt k Z E ops i o env τ a e0:=λa e0 ι env' r rest ν hW=>by
      obtain⟨x,ι,aY⟩:=ι r;refine .op (A:=A) Ι ψ (by rw[k0 ν];exact hw) hd (λc ε=>μ c ε) ?_;rw[tf ν,yl ν,nQ,ι];exact aY _ hW
     obtain⟨a,e0,hu,χ⟩:=h;refine⟨o,a,r,e0,false,true,ψ,.inr (.inl ⟨rfl,rfl,wF a e0 λr=>?_,rfl,λι=>?_⟩),λh=>(by cases h),χ⟩
     ·rcases hu with hu|⟨p,π,hu⟩
      ·exact⟨_,hu r,λK χ=>χ⟩
      ·exact⟨_,hu r,λK χ=>⟨π,χ⟩⟩
     ·have:r::e0=r::τ:=by
       rcases hu with hu|⟨p,π,hu⟩
       ·exact ym (p:=True) ι (.inl (hu r))
       ·exact ym ι (.inr (hu r))
      injection this
theorem cΝ (Ι:bN P T) {K:Χ->List Row->Prop} {env0:Χ}:∀(d i:Nat) (td tb:List Bool) (as9:Nat->η) (ρs:Nat->Row) (τs:Nat->List Row),i+d=ops.size->td.length=i->tb.length=i->
  (∀j o,j<i->ops[j]?=some o->JH P m nt k Z E ops j o (cD ops env0 as9 (λ_=>true) j) (ρs j) (τs j) (td.getD j false) (tb.getD j false) (as9 j) (ρs (j+1)) (τs (j+1))/\(td.getD j false=true->jb o=false))->
  jk P T A nt ops (List.range' i d) (cD ops env0 as9 (λ_=>true) i) (ρs i) (τs i) td tb K->
  ∃(td tb:List Bool) (as9:Nat->η) (sj:Nat->Row) (sk:Nat->List Row),m6 ops td=true/\m6 ops tb=true/\sj 0=ρs 0/\sk 0=τs 0/\(∀j o,ops[j]?=some o->JH P m nt k Z E ops j o (cD ops env0 as9 (λ_=>true) j) (sj j) (sk j) (td.getD j false) (tb.getD j false) (as9 j) (sj (j+1)) (sk (j+1))/\(td.getD j false=true->jb o=false))/\K (cD ops env0 as9 (λ_=>true) ops.size) (sj ops.size::sk ops.size):=by
 intro d
 induction d with
 | zero=>
  intro i td tb as9 ρs τs hi Ν w8 δ h;simp only[List.range'_zero,jk] at h;have:i=ops.size:=R;subst this;exact⟨td,tb,as9,ρs,τs,h.1,h.2.1,rfl,rfl,λj o ψ=>δ j o (Array.getElem?_eq_some_iff.1 ψ).1 ψ,h.2.2⟩
 | succ d ω=>
  intro i td tb as9 ρs τs hi Ν w8 δ h;rw[List.range'_succ] at h;obtain⟨o,a,r',e0,JI,o7,ψ,AJ,cu,h⟩:=cΜ (m:=m) (k:=k) (Z:=Z) (E:=E) Ι h;let hR:Nat->η:=λj=>if j=i then a else as9 j
  let sj:Nat->Row:=λj=>if j=i+1 then r' else ρs j
  let sk:Nat->List Row:=λj=>if j=i+1 then e0 else τs j
  have qu:∀j,j<=i->cD ops env0 as9 (λ_=>true) j=cD ops env0 hR (λ_=>true) j:=λj δ=>HZ j λx γ=>by simp only[hR];rw[if_neg R]
  have AK:cD ops env0 hR (λ_=>true) (i+1)=b0 o (cD ops env0 as9 (λ_=>true) i) a:=by
   simp only[cD,if_true,ψ];rw[<-qu i (Nat.le_refl i)];simp only[hR,if_true]
  have xY:∀(t:List Bool) (x:Bool),t.length=i->(t++[x]).getD i false=x:=λt x h=>by rw[List.getD_eq_getElem?_getD,hp R,h];simp
  have Ql:∀(t:List Bool) (x:Bool) (j:Nat),t.length=i->j<i->(t++[x]).getD j false=t.getD j false:=λt x j h δ=>by rw[List.getD_eq_getElem?_getD,dI R,<-List.getD_eq_getElem?_getD]
  have:=ω (i+1) (td++[JI]) (tb++[o7]) hR sj sk R (by simp[Ν]) (by simp[w8]) (λj bR aO de=>?_) ?_
  ·obtain⟨t1,t2,a9,r2,s2,Ρ,aa,aX,ca,gf,i'⟩:=this;exact⟨t1,t2,a9,r2,s2,Ρ,aa,aX.trans (by simp only[sj];rw[if_neg R]),ca.trans (by simp only[sk];rw[if_neg R]),gf,i'⟩
  ·by_cases e:j=i
   ·subst e;rw[ψ] at de;cases de;rw[<-qu j (Nat.le_refl j),xY td JI Ν,xY tb o7 w8];simp only[hR,sj,sk,if_true];rw[if_neg R,if_neg R];exact⟨AJ,cu⟩
   ·have:=δ j bR R de;rw[<-qu j R,Ql td JI j Ν R,Ql tb o7 j w8 R];simp only[hR,sj,sk];rw[if_neg R,if_neg R,if_neg R,if_neg R,if_neg R];exact this
  ·rw[AK];simp only[sj,sk,if_true];exact h
theorem W.JJ (Ι:bN P T) (qv:P.follows .mixedOrders=true) {r:Row} {τ:List Row} {id:Nat} (h:∀Θ:Χ->List Row->Prop,(∀env σ,W P m nt k env σ Z E->Θ env σ)->jk P T A nt ops (idx ops.size []) env r τ [] [] Θ):W P m nt (.code (.region id ops true)::k) env (r::τ) Z E:=by
 have an:=h (λenv σ=>W P m nt k env σ Z E) λ_ _ h=>h;rw[idx_eq,List.range_eq_range'] at an;obtain⟨td,tb,as9,ρs,τs,Ρ,aa,aX,ca,gf,i'⟩:=cΝ (m:=m) (k:=k) (Z:=Z) (E:=E) (env0:=env) Ι ops.size 0 [] [] (λ_=>.cg) (λ_=>r) (λ_=>τ) R rfl rfl (λj o δ=>R) an;intro Q mn x cs b S B H t γ hb π Φ he;refine .draw γ hb λn=>?_;have FG:∀i:Nat,(Array.replicate ops.size false).getD i false=false:=λi=>by
  rw[Array.getD_eq_getD_getElem?,Array.getElem?_replicate];split<;>rfl
 have key:=W.cφ (P:=P) (m:=m) (nt:=nt) (k:=k) (Z:=Z) (E:=E) (ops:=ops) (as9:=as9) (ρs:=ρs) (τs:=τs) (td:=td) (tb:=tb) (env0:=env) Ρ aa
  (λi o ψ J U=>by
   rcases(gf i o ψ).1 with⟨a,_⟩|⟨_,a,_⟩|⟨_,_,a,_⟩
   ·rw[J] at a;cases a
   ·rw[U] at a;cases a
   ·exact a)
  (λi o ψ J=>by
   rcases(gf i o ψ).1 with⟨_,b,a,_⟩|⟨a,_⟩|⟨a,_⟩
   ·exact⟨a,b⟩
   ·rw[J] at a;cases a
   ·rw[J] at a;cases a)
  (λi o ψ J=>by
   rcases(gf i o ψ).1 with⟨_,a,_⟩|⟨_,_,a,_⟩|⟨_,a,_⟩
   ·rw[J] at a;cases a
   ·exact a
   ·rw[J] at a;cases a)
  (λi o ψ hw=>by
   rcases(gf i o ψ).1 with⟨a,_⟩|⟨_,_,_,a,_⟩|⟨_,_,_,a,_⟩
   ·unfold writer at hw;rw[a,ψ] at hw;simp[(gf i o ψ).2 a] at hw
   ·exact a
   ·exact a)
  (λi o ψ hw=>by
   rcases(gf i o ψ).1 with⟨_,_,_,a⟩|⟨_,b,_,_,a⟩|⟨_,_,_,_,a⟩
   ·exact a
   ·refine a ?_;unfold writer at hw;rw[b,ψ] at hw;simpa using hw
   ·exact a)
  (.bF i') ops.size n (Array.replicate ops.size false) env 0 0 ζ (λi=>?_) (λi o ψ ξ=>?_) (Nat.zero_le _) (Nat.zero_le _) (λj δ _=>?_) (λj δ _=>?_) ?_
 ·rw[aX,ca] at key;rw[qv];simp only[Region.schedule,Bool.true_or,if_true,Region.linearise];exact key Q mn x cs b S B H t γ hb π Φ he
 ·have:∀n,cD ops env as9 (λi=>(Array.replicate ops.size false).getD i false) n=env:=by
   intro n
   induction n with
   | zero=>rfl
   | succ n ω=>
    simp only[cD];rw[if_neg (by rw[FG n];simp)];exact ω
  rw[this]
 ·rw[FG] at ξ;cases ξ
 ·rw[FG];simp
 ·rw[FG];simp
 ·have:=List.length_filter_le (λi=>!(Array.replicate ops.size false).getD i false) (List.range ops.size);simpa using this
theorem cΞ {K K':Χ->List Row->Prop} (θ:∀e s,K e s->K' e s):∀(is:List Nat) (env:Χ) (r:Row) (τ:List Row) (td tb:List Bool),jk P T A nt ops is env r τ td tb K->jk P T A nt ops is env r τ td tb K':=by
 intro is
 induction is with
 | nil=>intro env r τ td tb h;exact⟨h.1,h.2.1,θ _ _ h.2.2⟩
 | cons i is ω=>
  intro env r τ td tb h;unfold jk gg at h ⊢;cases ψ:ops[i]? with
  | none=>rw[ψ] at h;exact h.elim
  | some o=>
   rw[ψ] at h;simp only at h ⊢;refine⟨h.1,?_⟩
   replace h:=h.2
   cases hw:fe env ops o with
   | none=>rw[hw] at h;exact h.elim
   | some w=>
    rw[hw] at h;unfold ic at h ⊢;refine⟨λe=>ω _ _ _ _ _ (h.1 e),λe=>?_⟩
    replace h:=h.2 e
    unfold BK at h ⊢;split
    ·rename_i f args ej Μ;rw[Μ] at h;simp only at h;rcases h with⟨a,ε,h⟩|⟨a,r',ε,h⟩
     ·exact .inl ⟨a,ε,ω _ _ _ _ _ h⟩
     ·exact .inr ⟨a,r',ε,ω _ _ _ _ _ h⟩
    ·rename_i Μ;rw[Μ] at h;exact h
    ·rename_i Μ;rw[Μ] at h;exact h
    ·rename_i J U μ;split at h
     ·rename_i f args ej Μ;exact absurd Μ (J f args ej)
     ·rename_i y Μ;exact absurd Μ (U y)
     ·rename_i y Μ;exact absurd Μ (μ y)
     ·unfold cw.dZ at h ⊢;split at h
      ·exact ω _ _ _ _ _ h
      ·exact⟨h.1,ω _ _ _ _ _ h.2⟩
      ·exact h.elim
      ·obtain⟨a,e0,hu,χ⟩:=h;exact⟨a,e0,hu,ω _ _ _ _ _ χ⟩
theorem W.JK (Ι:bN P T) (qv:P.follows .mixedOrders=true) (gF:Χ) (fP:List Row) {r:Row} {τ:List Row} {id:Nat} (h:W P m nt k gF fP Z E) (ι:jk P T A nt ops (idx ops.size []) env r τ [] [] (λe s=>s=fP/\∀p∈gF,a5 e p.1=p.2)):W P m nt (.code (.region id ops true)::k) env (r::τ) Z E:=
 W.JJ Ι qv λΘ θ=>cΞ (λe s ⟨J,U⟩=>θ e s (J▸W.forget gF U h)) _ _ _ _ _ _ ι
theorem W.cΟ (Ι:bN P T) (qv:P.follows .mixedOrders=true) (gF:Χ) (fP:List Row) {id:Nat} (h:W P m nt k gF fP Z E) (ι:jP P T A nt ops (idx ops.size []) env σ [] (λe s=>s=fP/\∀p∈gF,a5 e p.1=p.2)):W P m nt (.code (.region id ops true)::k) env σ Z E:=
 W.draw Ι qv λΘ θ=>Nm (λe s ⟨J,U⟩=>θ e s (J▸W.forget gF U h)) _ _ _ _ ι
end
end Go.TL
