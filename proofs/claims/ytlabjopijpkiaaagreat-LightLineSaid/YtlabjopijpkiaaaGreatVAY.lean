import Derived.Test.YtlabjopijpkiaaaGreatVAN
import Derived.Test.YtlabjopijpkiaaaGreatVAR
import Derived.Test.YtlabjopijpkiaaaGreatVAX
set_option maxHeartbeats 16000000
set_option maxRecDepth 20000
set_option linter.unusedSectionVars false
set_option linter.unusedSimpArgs false
set_option linter.unusedVariables false
namespace Go.TL
open Go.Conc Go.Proofs
open Go.ConcN (sumTo upd sumTo_upd upd_ne upd_same sumTo_congr le_sumTo)
noncomputable def yn:Code:=Tryz.f116.body.getD .skip
noncomputable def Po:Code:=dV [1,1,1,1,0,1,0,0,1,1,0,0,1,1,0,0,1,1,0,0,1] yn
noncomputable abbrev E4 (vs:Array Value):Frame:=Frame.enter Tryz.prog 116 vs .normal
abbrev env0 (s m o:Nat) (ej:aT) (rest:Ω):Ω:=(5,.z (ptr o 0))::(4,.z (ptr s 0))::(3,.z (ptr m 0))::(1,.ao [a7 ej.au,bc ej.aI,ca ej.cells])::rest
abbrev yo (s m o:Nat) (ej:aT) (a b:Int) (rest:Ω):Ω:=(7,.ao [I b])::(6,.ao [I a])::env0 s m o ej rest
structure E5 (ej:aT) (fd:Nat->Option Found) (pr:Nat->Int×Int) (F:Nat->Found) (N:Nat->Nat):Prop where
 look:∀k,k<3->∀c:bn,@az c Tryz.prog 143 [fD ej,aF (pr k)] (dj (F k))
 many:∀k,k<3->∀c:bn,@az c Tryz.prog 78 [dj (F k),I (-1)] (I (N k))
 fd:∀k,fd k=if k<3/\0<N k then some (F k) else none
theorem E5.nK {ej:aT} {fd:Nat->Option Found} {pr:Nat->Int×Int} {F:Nat->Found} {N:Nat->Nat} (h:E5 ej fd pr F N) (L:List Nat) (Ζ:L.Nodup):(L.filterMap fd).length<=3:=by
 have J:L.filterMap fd=(L.filter (· < 3)).filterMap fd:=by
  rw[List.filterMap_filter];congr 1
  funext k
  by_cases e:k<3
  ·simp[e]
  ·simp[e,h.fd k]
 rw[J];refine Nat.le_trans (List.length_filterMap_le ..) ?_;have U:(L.filter (· < 3)).Nodup:=Ζ.filter _;exact Lj 3 _ U λk ς=>by simpa using (List.mem_filter.1 ς).2
variable [bn]
theorem V.boxed {P:Program} {Q:Value->Prop} {mn:Bool} {z:g1} {b:Frame} {cs:List Frame} {nt:Nat} {o:Base} {k:List Item} {env:Ω} {σ:List Row} {ops:Array Oper} {i:Nat} {rest:List Nat} {op:Oper}
  (γ:Seq z) (hb:b.mode=.run) (cn:b.roundOf=none) (ω:ops[i]?=some op) (Ξ:op.guard=none) {ty:TypeId} {wC:Operand} (Μ:op.op=.box ty wC) {l:List θ} (κ:aU env wC=.a5 l) (dY:l.all (θ.a' [])=true) (bA:0<l.length)
  (h:∀(S:aJ) (B:aV) (H:χ) (t:Array Value) (r:Nat) (c:Array Value),e8 o.m o.S o.B o.H o.σ S B H σ->fN o.m nt S B H σ env t->H.fresh r->(∃v,(S.lay r c) r 0=some v)->b8 S (S.lay r c) B B σ σ->Ext S B H (S.lay r c) B (H.dL r c ty)->Holds (S.lay r c) B σ (H.dL r c ty)->ay (S.lay r c) B σ (.ao l) (ptr r 0)->
   aR P Q mn z (aA b (put op t (ptr r 0)) (.inRegion ops rest::k)) cs (H.dL r c ty)):V P Q mn z b cs nt o (.inRegion ops (i::rest)::k) env σ:=by
 intro S B H t aο ψ;refine .op γ hb ω (by unfold Region.wanted;rw[Ξ]) (.inl cn) ?_;have e:execOp (bp t) op=(do pure (.value (<-Instr.box ty (bp t wC)))):=by unfold execOp;rw[Μ]
 have ι:=lX ψ.cA wC;rw[κ] at ι;rw[e];refine π.bind' ?_;unfold Instr.box;refine π.bind' ?_;unfold newVar newRow;have Pp:=xr (σ:=σ) dY;have cv:=(ι.cells (a:=.a5 l) Pp).1;refine π.bind' ⟨rfl,λr ft=>π.pure' (π.pure' (π.pure' ?_))⟩;obtain⟨J,U,μ⟩:=ψ.holds.lay (c:=(bp t wC).cells) (t:=ty) ft;have aP:0<(bp t wC).cells.size:=by rw[cv];exact bA
 exact h S B H t r _ aο ψ ft ⟨(bp t wC).cells[0],by simp[aJ.lay,aP]⟩ μ U J (L7 μ (fZ.one ι Pp))
section
variable {y:aZ} {Q:Value->Prop} {mn:Bool} {β s m o n:Nat} {bN:aJ} {H1:χ} {fd:Nat->Option Found} {pr:Nat->Int×Int} {F:Nat->Found} {N:Nat->Nat} {sp:Spec} {ej:aT} {v:Option (Nat×aS)} {vs:Array Value} {cs:List Frame} {k:List Item} {rest:Ω}
theorem I4 {a b:Int} (eN:pr n=(a,b)) (δ:mf y s sp) (fz:sp.aW=some m) (cQ:sp.an=wy β bN o fd) (et:∀k,sp.D k χ.empty) (gP:sp.top=3) (Ζ:n<3) (cB:E5 ej fd pr F N) (qf:∃q v,bN β q=some v) (rp:∃q x,H1.aO β q=some x) (ι:∀p∈rest,p.1∉[16,15,7,6,5,4,3,1]/\a9 rest p.1=p.2)
  (ς:V Tryz.prog Q mn (one (bx y s (.par (n+1) 0 .add) none 0)) (E4 vs) cs 23 ⟨bN,[],H1,[],0⟩ k ((6,.ao [I a])::env0 s m o ej rest) []) :
  V Tryz.prog Q mn (one (bx y s (.par n 0 .add) v 0)) (E4 vs) cs 23 ⟨bN,[],H1,[],0⟩ (.code Po::k) (yo s m o ej a b rest) []:=by
 letI:bn:=e1;obtain rfl:a=(pr n).1:=by rw[eN]
 obtain rfl:b=(pr n).2:=by rw[eN]
 have γ:=δ.seq;refine V.fR (γ _ _ _) rfl ?_;simp only[Po,yn,Tryz.f116,Option.getD_some,dV]
 repeat first|apply a3|apply wb|apply a4|apply wd
 refine W.cr (.stop ?_);refine V.call (γ _ _ _) ⟨rfl,rfl,by simp[Frame.enter],rfl⟩ rfl rfl rfl ⟨_,Tryz.func140,rfl,rfl⟩ λS B H t o7 κ ψ hv=>?_;obtain rfl:=m1 (l:=[ptr s 0,.int .i64 1]) hv;obtain rfl:B=[]:=dG.1 ψ.holds.len;rintro l3 rfl;refine YJ δ R ψ.holds λv2 c9 bR hH jx=>?_;rw[iF rfl];have qg:b8 S c9 [] [] [] []:=⟨hH.dt,λid r h=>by simp at h⟩;refine V.here (x:=one _) (m:=0) (nt:=23) (S:=c9) (B:=[]) (σ:=[]) (env:=(15,.z (.tuple #[]))::yo s m o ej (pr n).1 (pr n).2 rest) ?_ ⟨jx,du.later (du.put ψ.cA (d:=15) (by rw[ψ.size];omega) (.z (.tuple #[]))) qg,Eq.trans (Array.size_setIfInBounds ..) ψ.size,Nat.zero_le _⟩ _ rfl;refine V.fR (γ _ _ _) rfl ?_;refine W.bJ ?_;refine W.cr ?_;refine fw [0] [1] ?_;refine W.stop ?_;intro kQ kR jC t3 hK e9;obtain rfl:kR=[]:=dG.1 e9.holds.len;rintro l3 rfl;have b1:=e9.cA 16;simp only[a9,if_true] at b1;obtain⟨ax,AS⟩:=aK (t3.getD 16 undef);rw[<-AS] at b1;have I5:e8 0 bN [] H1 [] kQ [] jC []:=κ.trans ((e8.of hH qg).trans hK);cases b1 with
 | fn w1 w2 Χ ak aY cy=>
  have Δ:w1=#[]:=Array.eq_empty_of_size_eq_zero (by rw[<-Χ];rfl);subst Δ;obtain⟨l2⟩:=w2
  match l2,ak with
  | [I6,pN,ie,Cu,aπ,aρ],_=>
   have uF:I6=ptr s 0:=by have:=cy 0 _ _ rfl rfl;cases this;rfl
   have aς:aπ=ptr m 0:=by have:=cy 4 _ _ rfl rfl;cases this;rfl
   have aτ:aρ=ptr o 0:=by have:=cy 5 _ _ rfl rfl;cases this;rfl
   subst uF;subst aς;subst aτ;have IQ:fO kQ [] [] (IL s m o ej (pr n).1 (pr n).2) (EP s m o pN ie Cu):=⟨rfl,λi a v J U=>cy i a v J U⟩;refine cx.Gn (s:=s) (n:=n+1) (p:=0) (sp:=sp) δ.rel rfl δ.spec b7 ⟨rfl,rfl,by simp[Frame.enter],rfl⟩ rfl rfl rfl AS.symm (S:=kQ) e9.holds ?_ ?_
   ·rw[g6];have ν:=Zi e9.holds;have aυ:∀g:θ,∀p∈(6,.ao [I (pr n).1])::env0 s m o ej rest,a9 ((16,g)::(15,.z (.tuple #[]))::yo s m o ej (pr n).1 (pr n).2 rest) p.1=p.2:=λg p ψ=>by
     simp only[env0,List.mem_cons] at ψ;rcases ψ with rfl|rfl|rfl|rfl|rfl|ψ<;>first|rfl|skip
     obtain⟨J,U⟩:=ι p ψ;simp only[List.mem_cons,List.not_mem_nil,or_false,not_or] at J;obtain⟨c1,c2,c3,c4,nz,sw,q9,aφ⟩:=J;simp only[a9,Ne.symm c1,Ne.symm c2,Ne.symm c3,Ne.symm c4,Ne.symm nz,Ne.symm sw,Ne.symm q9,Ne.symm aφ,if_false];exact U
    refine V.fR (γ (.par (n+1) 0 .add) none 0) rfl (W.bJ (W.forget ((6,.ao [I (pr n).1])::env0 s m o ej rest) (aυ _) (.stop ς))) kQ [] _ t3 (I5.trans (e8.of ν (b8.refl ..))) ⟨Zg e9.holds,e9.cA,e9.size,Nat.zero_le _⟩ _ rfl
   ·refine Zw fz R cQ (et _) (cB.look n Ζ) (cB.many n Ζ) ?_ (λL ab=>?_) ?_ (λb q u hu=>?_) IQ
    ·show fd n=_;rw[cB.fd n];simp[Ζ]
    ·rw[List.length_map];have:=cB.nK L ab;omega
    ·obtain⟨q,u,hu⟩:=qf;exact⟨q,u,I5.ext.dt _ _ _ hu⟩
    ·obtain⟨iE,I6,ET⟩:=rp;rcases I5.ext.qZ b q u hu with h|⟨N,h⟩|h
     ·exact .inl (by rw[h];simp)
     ·simp at h
     ·exact .inr (II ET h)
end
end Go.TL
namespace Go.TL
open Go.Conc Go.Proofs
open Go.ConcN (sumTo upd sumTo_upd upd_ne upd_same sumTo_congr le_sumTo)
structure Calm (y:aZ):Prop where
 rel:y.rel=false
 aM:y.aM=λ_=>none
 deaf:y.deaf=0
 shut:∀s,gj (y.tok s)
def calm:g1:=Calm
@[reducible] def oA:bn:=⟨λx=>x=calm⟩
variable [bn]
def s3 (x y:Found):Int:=nJ (x.u,x.v) (y.u,y.v)
def oB (x y:Found):Prop:=x.u<y.u\/(x.u=y.u/\x.v<y.v)
theorem aχ (x y:Found):aC s3 x y=true↔oB x y:=by
 have h:=sT (x.u,x.v) (y.u,y.v)
 have e:aC s3 x y=aC nJ (x.u,x.v) (y.u,y.v):=rfl;rw[e,h];simp[oB]
theorem aψ:Go.Sort.SWO (aC s3) where
 irrefl x:=xY.irrefl (x.u,x.v)
 trans x y z:=xY.trans (x.u,x.v) (y.u,y.v) (z.u,z.v)
 ntrans x y z:=xY.ntrans (x.u,x.v) (y.u,y.v) (z.u,z.v)
instance:Inhabited Found:=⟨⟨0,0,[]⟩⟩
theorem aω {m:List Found} (h:m.Pairwise oB):∀a∈m,∀b∈m,¬oB a b->¬oB b a->a=b:=by
 induction h with
 | nil=>intro a κ;cases κ
 | cons J U Β=>
  intro a κ b hb μ Θ;rcases List.mem_cons.1 κ with lk|ee<;>rcases List.mem_cons.1 hb with iZ|dT
  ·rw[lk,iZ]
  ·exact absurd (lk▸J b dT) μ
  ·exact absurd (iZ▸J a ee) Θ
  ·exact Β a ee b dT μ Θ
theorem aΑ {l m:List Found} (ψ:l.Perm m) (hm:m.Pairwise oB):(Go.Sort.insertionSort (aC s3) l.toArray 0 l.length).toList=m:=by
 obtain⟨⟨cv,_,I7⟩,U⟩:=Go.Sort.insertionSort_holds (lt:=aC s3) aψ l.toArray 0 l.length (Nat.zero_le _) η;generalize Go.Sort.insertionSort (aC s3) l.toArray 0 l.length=d at cv I7 U;have GM:d.size=l.length:=by simpa using cv
 have Δ:d.extract 0 l.length=d:=by rw[<-GM];exact Array.extract_size
 have Γ:l.toArray.extract 0 l.length=l.toArray:=by
  simp
 rw[Δ,Γ] at I7;have Pq:d.toList.Perm m:=I7.trans ψ;have aΒ:∀x y,aC s3 x y=false↔¬oB x y:=λx y=>by rw[<-aχ];simp
 refine List.Perm.eq_of_pairwise (le:=λx y=>¬oB y x) (λa b κ hb μ Θ=>?_) ?_ (hm.imp λ{a b} h k=>?_) Pq
 ·exact aω hm a (Pq.mem_iff.1 κ) b hb Θ μ
 ·rw[List.pairwise_iff_getElem];intro i j hi ε fU;have:=U i j (Nat.zero_le _) fU (by simpa[GM] using ε);rw[aΒ] at this;rw[getElem!_pos d j (by simpa using ε),getElem!_pos d i (by simpa using hi)] at this;simpa using this
 ·simp only[oB] at h k;omega
theorem aΓ {D:Nat->χ->Prop} (et:∀k E,D k E->E=χ.empty):∀(L:List Nat) (E:χ),lN D L E->E=χ.empty:=by
 intro L
 induction L with
 | nil=>intro E h;exact h
 | cons k KE Β=>
  rintro E ⟨pC,pD,J,U,_,rfl⟩;rw[et k pC J,Β pD U];exact Ga _
end Go.TL
namespace Go.TL
open Go.Conc Go.Proofs
open Go.ConcN (sumTo upd sumTo_upd upd_ne upd_same sumTo_congr le_sumTo)
abbrev E6:θ:=.fn (.func 148) [] []
theorem aΔ [bn] (x y:Found):gp Tryz.prog E6 [dj x,dj y] (I (s3 x y)):=λσ=>(V4 x y).c (bF.refl _) η η ⟨rfl,rfl⟩
section
variable {y:aZ} {Q:Value->Prop} {mn:Bool} {β s m o:Nat} {fu bN:aJ} {ec H1:χ} {fd:Nat->Option Found} {sp:Spec} {ej:aT} {v:Option (Nat×aS)} {vs:Array Value} {c:Frame} {cs:List Frame}
theorem aΕ (δ:mf y s sp) (fz:sp.aW=some m) (cQ:sp.an=wy β bN o fd) (et:∀k E,sp.D k E->E=χ.empty) (I8:∀L:List Nat,L.Nodup->(L.filterMap fd).length<=3) {lB:List Found} (I9:(List.range 3).filterMap fd=lB) (uK:lB.Pairwise oB)
  (I':∀v,Calm (bx y s (.par 3 0 .bB) v 0)) (l5:vK Tryz.prog Q mn calm c cs fu [] ec [] (λa s=>dP a (cZ lB)/\s=[]) (λ_ _=>False)) (AU:Ext fu [] ec bN [] H1) (Ja:ec.fresh β) :
  V Tryz.prog Q mn (one (bx y s (.par 3 0 .add) v 0)) (E4 vs) (c::cs) 23 ⟨bN,[],H1,[],0⟩ [.code (dV [1,1,1,1,1] yn)] (env0 s m o ej []) []:=by
 letI:bn:=e1;have γ:=δ.seq;refine V.fR (γ _ _ _) rfl ?_;simp only[yn,Tryz.f116,Option.getD_some,dV]
 repeat first|apply a3|apply wb|apply a4|apply wd
 refine W.cr (.stop ?_);refine V.call (γ _ _ _) ⟨rfl,rfl,by simp[Frame.enter],rfl⟩ rfl rfl rfl ⟨_,Tryz.func146,rfl,rfl⟩ λS B H t o7 κ ψ hv=>?_;obtain rfl:=m1 (l:=[ptr s 0]) hv;obtain rfl:B=[]:=dG.1 ψ.holds.len;rintro l3 rfl;refine YQ δ ψ.holds (n:=3) λaE H' gx fL gT eL he Α Lr aΖ aΗ cm a1 bd cI hw v2 c9 bR hH=>?_;rw[iF rfl];obtain rfl:=aΓ et gx gT aΖ;rw[Ga] at hH;obtain⟨lS,Pr⟩:=aΗ (by rw[fz];simp);rw[cQ] at Pr;obtain⟨hi,hO,rO,wA,dU⟩:=Pr;obtain⟨w,f1,f2,f3⟩:=hw;obtain⟨G,da⟩:=aK (fL.filterMap fd);have Jb:G.Perm lB:=by rw[da,<-I9];exact lS.filterMap _
 have jα:G.length<=3:=by rw[da];exact I8 fL (lS.nodup_iff.2 List.nodup_range)
 rw[<-da] at wA;obtain⟨IN,l1,l2⟩:=OU Α wA bd ⟨w,f1,f3⟩ (EO _);have mh:=Zl (AU.trans (κ.ext.trans he)) (κ.ext.trans he).dt Ja hi Α wA (EO _);obtain⟨dK,dq⟩:=IN.sk (λb hb=>hH.sk hb) hH.grow;have aΘ:=mh.trans dq;have av:t.getD 5 undef=ptr o 0:=by
  have:=ψ.cA 5;simp only[a9] at this;generalize t.getD 5 undef=u at this;cases this;rfl
 have ru:du (aE.plus hO) rO (gQ (G.map dj)) [(5,.ar 0 1 0 0)] (t.setIfInBounds 19 (.tuple #[])):=λi=>by
  simp only[a9];split
  ·rename_i e;subst e;have fa:(t.setIfInBounds 19 (.tuple #[])).getD 5 undef=ptr o 0:=by
    rw[<-av,Array.getD_eq_getD_getElem?,Array.getD_eq_getD_getElem?,Array.getElem?_setIfInBounds_ne bu]
   rw[fa];have:=ay.ar (S:=aE.plus hO) (B:=rO) (σ:=gQ (G.map dj)) (id:=0) (n:=1) (i:=0) (j:=0) (k:=1) (t:=99) (l:=[s0 (G.map dj)]) (b:=o) (N:=1) (by simp[gQ]) rfl dU;simpa using this
  ·exact .cH _
 refine V.here (x:=one _) (m:=0) (nt:=23) (S:=aE.plus hO) (B:=rO) (σ:=gQ (G.map dj)) (env:=[(5,.ar 0 1 0 0)]) ?_ ⟨dK,ru,Eq.trans (Array.size_setIfInBounds ..) ψ.size,Nat.zero_le _⟩ _ rfl;have fin:∀(e:Bool) (k:Nat),dP (.sl e k (lB.map dj)) (cZ lB)->V Tryz.prog Q mn (one (bx y s (.par 3 0 .bB) v2 0)) (E4 vs) (c::cs) 23 ⟨aE.plus hO,rO,bR,gQ (G.map dj),0⟩ [.code .ret] [(2,.sl e k (lB.map dj))] []:=λe k aΙ=>by
  intro iP j4 hZ t5 kC lA;obtain rfl:j4=[]:=dG.1 lA.holds.len;refine aR.ret (γ _ _ _) rfl rfl (aR.back (γ _ _ _) rfl rfl (.inl rfl) Tryz.func116 ?_);refine π.mono (λu Iu ⟨It,aΚ,lL,BK,ba,FI⟩=>?_) (λ_ _ h=>h) _ (Du Ρ (a:=.sl e k (lB.map dj)) rfl lA.holds lA.cA);obtain rfl:aΚ=[]:=dG.1 ba.len;rintro l3 rfl;have EC:=aΘ.trans (kC.ext.trans lL);exact l5.ret _ [] It [] Iu u ⟨aΙ,rfl⟩ EC ⟨EC.dt,λid r h=>by simp at h⟩ ba FI _ (I' _)
 refine V.fR (γ _ _ _) rfl ?_;refine W.bJ ?_;have oU:∀e∈G.map dj,∀a∈e.cells,aG 0 a:=λe he a κ=>by
  obtain⟨z,_,rfl⟩:=List.mem_map.1 he;exact xS z a κ
 by_cases Τ:G=[]
 ·subst Τ;have aΜ:lB=[]:=Jb.symm.eq_nil;subst aΜ;(repeat (first|apply a3|apply wb|apply a4|apply wd));refine bs λΕ ζ=>?_;simp;(repeat (rw[Ο];simp[gQ,IK,kx]));refine az.c (WU E6 η) (bF.refl _) η η ?_;simp;(repeat (rw[Ο];simp[]));apply ζ;refine bl λΕ ζ=>?_;apply ζ;refine W.cut 0 (Nat.zero_le _) [(2,.sl true 0 [])] (Nat.zero_le _) (λid r h=>R) (by simp;exact .low η) ?_;exact .stop (fin _ _ .nil)
 ·have nn:G.map dj≠[]:=by simpa using Τ
  have ν:=aΑ Jb uK;(repeat (first|apply a3|apply wb|apply a4|apply wd));refine bs λΕ ζ=>?_;simp;(repeat (rw[Ο];simp[gQ,EN nn,eJ nn]));have Ps:=Wb G.toArray G.length η R E6 s3 η aΔ;rw[ν] at Ps;have hlen:lB.length=G.length:=Jb.length_eq.symm;have b1:aG 0 E6:=η;have Pt:∀e∈lB.map dj,∀a∈e.cells,aG 0 a:=λe he a κ=>by
   obtain⟨z,_,rfl⟩:=List.mem_map.1 he;exact xS z a κ
  refine ae.one Ps 1 rfl oU Pt (by simp[oe,vX,b1.jg 1]) (by simp[fQ]) (by simp[og,oh,b1.ei [1]]) ?_;simp[ei,hY];(repeat (rw[Ο];simp[]));apply ζ;refine bl λΕ ζ=>?_;apply ζ;refine W.cut 0 (Nat.zero_le _) [(2,.sl false 3 (lB.map dj))] (Nat.zero_le _) (λid r h=>R) (λp ψ=>?_) ?_
  ·obtain rfl:p=(2,.sl false 3 (lB.map dj)):=by simpa using ψ
   refine eT.own (id:=1) (t:=110) (Nat.zero_le _) rfl (by simp[hlen]) Pt
  ·exact .stop (fin _ _ (.refl _))
end
theorem Jc {P:Program} {ty:TypeId} {z:Value} (h:((P.info? ty).bind (·.zero))=some z):∃inf,P.info? ty=some inf/\inf.zero=some z:=by
 cases hi:P.info? ty with
 | none=>rw[hi] at h;cases h
 | some inf=>rw[hi] at h;exact⟨inf,rfl,h⟩
theorem aΝ:((Tryz.prog.info? 173).bind (·.zero))=some (.agg #[.int .i32 0,.int .u32 0]):=by kernel_rfl
theorem aΞ:((Tryz.prog.info? 179).bind (·.zero))=some (.agg #[.int .u64 0,.int .u32 0]):=by kernel_rfl
theorem aΟ:((Tryz.prog.info? 99).bind (·.zero))=some (.slice none 0 0):=by kernel_rfl
theorem aΡ {o:Nat}:Holds fj [some (o,1)] (gQ []) (χ.empty.dL o #[.slice none 0 0] 99):=by
 have aj:Holds fj [] [] χ.empty:=yd _
 have ο:fZ fj [] [] #[.slice none 0 0] 1 [.sl true 0 []]:=fZ.one (a:=.sl true 0 []) (v:=.slice none 0 0) (.i' none 0 λ_=>rfl) rfl;exact(zC (P:=Tryz.prog) (K:=λr G=>Holds fj [some (r,1)] (gQ []) G) (E:=λ_ _=>False) aj ο 99 λr _ J _ _=>J).2 o ⟨λ_=>rfl,rfl,rfl,λ_ _=>⟨λ_=>rfl,rfl,rfl⟩⟩
section
variable {fd:Nat->Option Found} {pr:Nat->Int×Int} {F:Nat->Found} {N:Nat->Nat} {ej:aT} {lB:List Found}
theorem aΤ (cB:E5 ej fd pr F N) (fK:pr 0=(1,0)) (dy:pr 1=(2,0)) (p2:pr 2=(2,1)) (I9:(List.range 3).filterMap fd=lB) (uK:lB.Pairwise oB):@az oA Tryz.prog 116 [fD ej] (cZ lB):=by
 refine⟨⟨_,Tryz.func116,rfl,rfl⟩,λQ mn x c rest fu eG ec vs uF se IV l5=>?_⟩;obtain rfl:x=calm:=@Seq.cls oA x uF;obtain rfl:eG=[]:=dG.1 se.len;rintro y ⟨ep,fX,tH,cS⟩;letI:bn:=e1;have γ:Seq (one y):=Seq.uu trivial ep fX;rw[qc (body:=yn) Tryz.func116 rfl];refine V.here (x:=one y) (m:=0) (nt:=23) (S:=fu) (B:=[]) (H:=ec) (σ:=[]) (env:=entry 0 [fD ej]) ?_ (fN.enter se IV (Nat.le_refl _) η) y rfl;refine V.fR γ rfl ?_;simp only[yn,Tryz.f116,Option.getD_some]
 repeat first|apply a3|apply wb|apply a4|apply wd
 refine W.cr (.stop ?_);refine V.boxed γ rfl rfl rfl rfl rfl (l:=[a7 ej.au,bc ej.aI,ca ej.cells]) rfl rfl η λS B H t β c1 κ ψ lT aΥ ο he aΦ IX=>?_;obtain rfl:B=[]:=dG.1 ψ.holds.len;refine V.here (x:=one y) (m:=0) (nt:=23) (S:=S.lay β c1) (B:=[]) (σ:=[]) (env:=[(1,.ao [a7 ej.au,bc ej.aI,ca ej.cells])]) ?_
  ⟨aΦ,wB (du.put (ψ.cA.later ο) (d:=1) (by rw[ψ.size];omega) IX) η,Eq.trans (Array.size_setIfInBounds ..) ψ.size,Nat.zero_le _⟩
 refine V.fR γ rfl ?_;refine fw [1] [] ?_;refine W.bJ ?_
 repeat first|apply a3|apply wb|apply a4|apply wd
 refine W.cr (.stop ?_);intro c9 ff bR t2 rp mU;obtain rfl:ff=[]:=dG.1 mU.holds.len;rintro l3 rfl;obtain⟨i1,Χ,ak⟩:=Jc aΝ;obtain⟨i2,aY,cy⟩:=Jc aΞ;obtain⟨i3,gB,iK⟩:=Jc aΟ;refine cx.I1 ep ⟨rfl,rfl,by simp[Frame.enter],rfl⟩ rfl rfl Χ ak λm hn _=>?_;refine cx.next ?_ ?_ ?_
 ·exact .inl ep
 ·rfl
 refine cx.I1 ?_ ⟨rfl,rfl,by simp[Frame.enter],rfl⟩ rfl rfl aY cy λs rL ea=>?_
 ·exact ep
 refine cx.next ?_ ?_ ?_
 ·exact .inl ep
 ·rfl
 refine cx.I1 ?_ ⟨rfl,rfl,by simp[Frame.enter],rfl⟩ rfl rfl gB iK λo wD vo=>?_
 ·exact ep
 have sc:m<s:=ea m _ (upd_same ..)
 have I3:s<o:=vo s _ (upd_same ..);obtain⟨sp,b0⟩:∃sp:Spec,sp=⟨some m,wy β c9 o fd,λ_ E=>E=χ.empty,3⟩:=⟨_,rfl⟩;have E7:∃q v,c9 β q=some v:=let ⟨u,hu⟩:=aΥ;⟨0,u,rp.ext.dt _ _ _ hu⟩;have n6:∃q x,bR.aO β q=some x:=let ⟨q,u,hu⟩:=E7;let ⟨p,ψ⟩:=mU.holds.dt _ _ _ hu;⟨q,_,ψ⟩;have Pu:β<o:=let ⟨_,_,h⟩:=n6;II h wD;have fz:sp.aW=some m:=by rw[b0]
 have cQ:sp.an=wy β c9 o fd:=by rw[b0]
 have et:∀k E,sp.D k E↔E=χ.empty:=λk E=>by rw[b0]
 have gP:sp.top=3:=by rw[b0]
 clear b0;have aΧ:sp.an [] (χ.empty.dL o #[.slice none 0 0] 99):=by
  rw[cQ];refine⟨⟨λb q x hb=>?_,λb x hb=>?_,λb x hb=>(by cases hb)⟩,fj,_,aΡ,rfl⟩
  ·by_cases e:b=o
   ·exact .inr (e▸Pu)
   ·simp[χ.dL,e,χ.empty] at hb
  ·by_cases e:b=o
   ·exact e▸Pu
   ·simp[χ.dL,e,χ.empty] at hb
 refine cx.group (y:=l3) (sp:=sp) ep fX sc I3 fz wD aΧ ?_;obtain⟨oR,uL⟩:=aK ({l3 with spec:=upd l3.spec s (some sp)}:aZ);have aΨ:({l3 with tok:=upd l3.tok s (.par 0 0 .add),spec:=upd l3.spec s (some sp),view:=upd l3.view s none}:aZ)=bx oR s (.par 0 0 .add) none 0:=by
  rw[uL];unfold bx;simp only[tH]
 rw[aΨ];have A3:mf oR s sp:=by
  rw[uL];refine⟨ep,fX,upd_same ..,by rw[gP];decide,λbm _=>?_⟩;have:=cS bm;show nm (l3.tok bm);cases Pv:l3.tok bm with
  | nil=>trivial
  | par n p aL=>rw[Pv] at this;cases aL<;>first|trivial|exact this.elim
  | ch k mu g=>rw[Pv] at this;exact this.elim
 have I':∀v,Calm (bx oR s (.par 3 0 .bB) v 0):=λv=>by
  rw[uL];refine⟨ep,fX,rfl,λbm=>?_⟩;by_cases e:bm=s
  ·subst e;rw[b7];trivial
  ·rw[Ay e];exact cS bm
 have sM:=A3.seq
 have I8:=cB.nK
 have AU:Ext fu [] ec c9 [] bR:=κ.ext.trans (he.trans rp.ext)
 have Ja:ec.fresh β:=κ.ext.grow _ lT;refine V.here (x:=one _) (m:=0) (nt:=23) (S:=c9) (B:=[]) (σ:=[]) (env:=env0 s m o ej []) ?_
  ⟨mU.holds,wB (du.put (du.put (du.put mU.cA (d:=3) (by rw[mU.size];omega) (.z (ptr m 0))) (d:=4) (by rw[Array.size_setIfInBounds,mU.size];omega) (.z (ptr s 0))) (d:=5) (by rw[Array.size_setIfInBounds,Array.size_setIfInBounds,mU.size];omega) (.z (ptr o 0))) η,
   Eq.trans (Array.size_setIfInBounds ..) (Eq.trans (Array.size_setIfInBounds ..) (Eq.trans (Array.size_setIfInBounds ..) mU.size)),Nat.zero_le _⟩ _ rfl
 have w1:IntKind.i64.wrap 1=1:=bu
 have w2:IntKind.i64.wrap 2=2:=bu
 have w3:IntKind.i64.wrap 3=3:=bu;refine V.fR (sM _ _ _) rfl ?_;refine W.bJ ?_;(repeat (first|apply a3|apply wb|apply a4|apply wd|refine ai rfl ?_|refine aa rfl ?_|(refine bs λΕ ζ=>?_;simp;(repeat (rw[Ο];simp[]));apply ζ)));refine .loop ?_;(repeat (first|apply a3|apply wb|apply a4|apply wd|refine ai rfl ?_|refine aa rfl ?_|(refine bs λΕ ζ=>?_;simp;(repeat (rw[Ο];simp[]));apply ζ)));refine dM (A:=[6]) Ρ λΕ ζ=>bD ?_;apply ζ;refine W.fix (id:=0) (σ':=[]) (Nat.zero_le _) rfl η η rfl ((6,.ao [I 0])::env0 s m o ej [(8,I 0)]) η ?_;(repeat (first|apply a3|apply wb|apply a4|apply wd|refine ai rfl ?_|refine aa rfl ?_|(refine bs λΕ ζ=>?_;simp;(repeat (rw[Ο];simp[]));apply ζ)));refine .loop ?_;(repeat (first|apply a3|apply wb|apply a4|apply wd|refine ai rfl ?_|refine aa rfl ?_|(refine bs λΕ ζ=>?_;simp;(repeat (rw[Ο];simp[]));apply ζ)));refine W.exit rfl ?_;(repeat (first|apply a3|apply wb|apply a4|apply wd|refine ai rfl ?_|refine aa rfl ?_|(refine bs λΕ ζ=>?_;simp;(repeat (rw[Ο];simp[w1,w2,w3]));apply ζ)));refine .inLoop ?_;(repeat (first|apply a3|apply wb|apply a4|apply wd|refine ai rfl ?_|refine aa rfl ?_|(refine bs λΕ ζ=>?_;simp;(repeat (rw[Ο];simp[]));apply ζ)));refine dM (A:=[6]) Ρ λΕ ζ=>bD ?_;apply ζ;refine W.fix (id:=0) (σ':=[]) (Nat.zero_le _) rfl η η rfl ((6,.ao [I 1])::env0 s m o ej [(8,I 1)]) η ?_;(repeat (first|apply a3|apply wb|apply a4|apply wd|refine ai rfl ?_|refine aa rfl ?_|(refine bs λΕ ζ=>?_;simp;(repeat (rw[Ο];simp[]));apply ζ)));refine .loop ?_;(repeat (first|apply a3|apply wb|apply a4|apply wd|refine ai rfl ?_|refine aa rfl ?_|(refine bs λΕ ζ=>?_;simp;(repeat (rw[Ο];simp[]));apply ζ)));refine dM (A:=[7]) Ρ λΕ ζ=>bD ?_;apply ζ;refine W.fix (id:=0) (σ':=[]) (Nat.zero_le _) rfl η η rfl (yo s m o ej 1 0 [(8,I 1),(11,I 1),(12,I 0)]) η ?_;refine W.stop (I4 fK A3 fz cQ (λk=>(et k _).2 rfl) gP bu cB E7 n6 η ?_);refine V.fR (sM _ _ _) rfl ?_;(repeat (first|apply a3|apply wb|apply a4|apply wd|refine ai rfl ?_|refine aa rfl ?_|(refine bs λΕ ζ=>?_;simp;(repeat (rw[Ο];simp[w1,w2,w3]));apply ζ)));refine .inLoop ?_;(repeat (first|apply a3|apply wb|apply a4|apply wd|refine ai rfl ?_|refine aa rfl ?_|(refine bs λΕ ζ=>?_;simp;(repeat (rw[Ο];simp[]));apply ζ)));refine W.exit rfl ?_;(repeat (first|apply a3|apply wb|apply a4|apply wd|refine ai rfl ?_|refine aa rfl ?_|(refine bs λΕ ζ=>?_;simp;(repeat (rw[Ο];simp[w1,w2,w3]));apply ζ)));refine .inLoop ?_;(repeat (first|apply a3|apply wb|apply a4|apply wd|refine ai rfl ?_|refine aa rfl ?_|(refine bs λΕ ζ=>?_;simp;(repeat (rw[Ο];simp[]));apply ζ)));refine dM (A:=[6]) Ρ λΕ ζ=>bD ?_;apply ζ;refine W.fix (id:=0) (σ':=[]) (Nat.zero_le _) rfl η η rfl ((6,.ao [I 2])::env0 s m o ej [(8,I 2)]) η ?_;(repeat (first|apply a3|apply wb|apply a4|apply wd|refine ai rfl ?_|refine aa rfl ?_|(refine bs λΕ ζ=>?_;simp;(repeat (rw[Ο];simp[]));apply ζ)));refine .loop ?_;(repeat (first|apply a3|apply wb|apply a4|apply wd|refine ai rfl ?_|refine aa rfl ?_|(refine bs λΕ ζ=>?_;simp;(repeat (rw[Ο];simp[]));apply ζ)));refine dM (A:=[7]) Ρ λΕ ζ=>bD ?_;apply ζ;refine W.fix (id:=0) (σ':=[]) (Nat.zero_le _) rfl η η rfl (yo s m o ej 2 0 [(8,I 2),(11,I 2),(12,I 0)]) η ?_;refine W.stop (I4 dy A3 fz cQ (λk=>(et k _).2 rfl) gP bu cB E7 n6 η ?_);refine V.fR (sM _ _ _) rfl ?_;(repeat (first|apply a3|apply wb|apply a4|apply wd|refine ai rfl ?_|refine aa rfl ?_|(refine bs λΕ ζ=>?_;simp;(repeat (rw[Ο];simp[w1,w2,w3]));apply ζ)));refine .inLoop ?_;(repeat (first|apply a3|apply wb|apply a4|apply wd|refine ai rfl ?_|refine aa rfl ?_|(refine bs λΕ ζ=>?_;simp;(repeat (rw[Ο];simp[]));apply ζ)));refine dM (A:=[7]) Ρ λΕ ζ=>bD ?_;apply ζ;refine W.fix (id:=0) (σ':=[]) (Nat.zero_le _) rfl η η rfl (yo s m o ej 2 1 [(8,I 2),(11,I 2),(12,I 1)]) η ?_;refine W.stop (I4 p2 A3 fz cQ (λk=>(et k _).2 rfl) gP bu cB E7 n6 η ?_);refine V.fR (sM _ _ _) rfl ?_;(repeat (first|apply a3|apply wb|apply a4|apply wd|refine ai rfl ?_|refine aa rfl ?_|(refine bs λΕ ζ=>?_;simp;(repeat (rw[Ο];simp[w1,w2,w3]));apply ζ)));refine .inLoop ?_;(repeat (first|apply a3|apply wb|apply a4|apply wd|refine ai rfl ?_|refine aa rfl ?_|(refine bs λΕ ζ=>?_;simp;(repeat (rw[Ο];simp[]));apply ζ)));refine W.exit rfl ?_;(repeat (first|apply a3|apply wb|apply a4|apply wd|refine ai rfl ?_|refine aa rfl ?_|(refine bs λΕ ζ=>?_;simp;(repeat (rw[Ο];simp[w1,w2,w3]));apply ζ)));refine .inLoop ?_;(repeat (first|apply a3|apply wb|apply a4|apply wd|refine ai rfl ?_|refine aa rfl ?_|(refine bs λΕ ζ=>?_;simp;(repeat (rw[Ο];simp[]));apply ζ)));refine W.exit rfl ?_;refine W.forget (env0 s m o ej []) η ?_;refine W.stop ?_;exact aΕ A3 fz cQ (λk E=>(et k E).1) I8 I9 uK I' l5 AU Ja
end
end Go.TL
namespace Go.TL
open Go.Proofs
variable [bn]
def aT.jI (s:aT) (n:Int):Bool:=decide (n< -1)||decide ((s.au.length:Int)<=n)
def s4 (s:aT) (pk letters:List Int) (db:Int):Int×Int:=
 if s.err≠0 then(0,s.err) else
 match pk,letters with
 | [i0,i1],[l0,l1]=>if nH i0=false\/nH i1=false\/s.jI l0=true\/s.jI l1=true\/db<0\/(s.aI.length:Int)<=db then(0,3) else if i0<=i1 then(0,5) else(s.gb (i0,i1) (l0,l1) db.toNat,0)
 | _,_=>(0,8)
theorem aΩ (s:aT) (n:Int):az Tryz.prog 92 [I n,.ao [a7 s.au,bc s.aI,ca s.cells]] (a6 (s.jI n)):=by
 refine ae.body Ρ Tryz.func92 rfl rfl Tryz.ntmps92 rfl rfl η ?_;by_cases h:n< -1
 ·refine aB h ?_;refine W.rt ?_;exact .of (by simp[aT.jI,h])
 ·refine aB h ?_;refine W.rt ?_;exact .of (by simp[aT.jI,h])
abbrev bα (p:Int×Int):θ:=.bj [I p.1,I p.2]
theorem bβ (s:aT) (ν:s.small) (pk letters:List Int) (db:Int):az Tryz.prog 34 [fD s,bO I 1 pk,bO I 1 letters,I db] (bα (s4 s pk letters db)):=by
 refine ae.body Ρ Tryz.func34 rfl rfl Tryz.ntmps34 rfl rfl η ?_;refine Η ?_;refine bl λΕ ζ=>?_;refine az.d (D6 s ν) (bD ?_);apply ζ;refine Η ?_;by_cases cU:s.err=0
 case neg=>
  refine ai (by simp[cU]) ?_;refine Η ?_;refine W.rt ?_;exact .of (by rw[show s4 s pk letters db=(0,s.err) by unfold s4;rw[if_pos cU]];rfl)
 refine aa (by simp[cU]) ?_;refine Η ?_;have hv:s4 s pk letters db=match (generalizing:=false) pk,letters with
   | [i0,i1],[l0,l1]=>if nH i0=false\/nH i1=false\/s.jI l0=true\/s.jI l1=true\/db<0\/(s.aI.length:Int)<=db then(0,3) else if i0<=i1 then(0,5) else(s.gb (i0,i1) (l0,l1) db.toNat,0)
   | _,_=>(0,8):=by unfold s4;rw[if_neg (by simpa using cU)]
 by_cases bw:(pk.length:Int)=2
 case neg=>
  have e:s4 s pk letters db=(0,8):=by
   rw[hv];split
   ·simp at bw
   ·rfl
  refine hI bw λΕ ζ=>?_;apply ζ;refine ai rfl ?_;refine Η ?_;refine W.rt ?_;exact .of (by rw[e];rfl)
 by_cases dm:(letters.length:Int)=2
 case neg=>
  have e:s4 s pk letters db=(0,8):=by
   rw[hv];split
   ·simp at dm
   ·rfl
  refine hI (υ bw dm) λΕ ζ=>?_;apply ζ;refine ai rfl ?_;refine Η ?_;refine W.rt ?_;exact .of (by rw[e];rfl)
 obtain⟨i0,i1,rfl⟩:∃a b,pk=[a,b]:=by
  match pk,bw with
  | [a,b],_=>exact⟨a,b,rfl⟩
  | [],h=>simp at h
  | [_],h=>simp at h
  | _::_::_::_,h=>simp at h;omega
 obtain⟨l0,l1,rfl⟩:∃a b,letters=[a,b]:=by
  match letters,dm with
  | [a,b],_=>exact⟨a,b,rfl⟩
  | [],h=>simp at h
  | [_],h=>simp at h
  | _::_::_::_,h=>simp at h;omega
 simp only at hv;refine bl λΕ ζ=>?_;apply ζ;refine aa rfl ?_
 repeat apply ad
 have f3:(nH i0=false\/nH i1=false\/s.jI l0=true\/s.jI l1=true\/db<0\/(s.aI.length:Int)<=db)->s4 s [i0,i1] [l0,l1] db=(0,3):=λh=>by rw[hv];exact if_pos h
 have bγ:([l0,l1].any s.jI)=(s.jI l0||s.jI l1):=η
 have call3:az Tryz.prog 94 [bO I 1 [l0,l1],.fn (.func 92) [] [.ao [a7 s.au,bc s.aI,ca s.cells]]] (a6 (s.jI l0||s.jI l1)):=by
  rw[<-bγ];exact Wf [l0,l1] _ s.jI η (by simp[l6]) (λx _=>λ_=>(aΩ s x).cc (by simp;exact bF.refl _) η η ⟨rfl,rfl⟩)
 cases ef:nH i0
 case false=>
  have a2:=f3 (.inl ef);refine bl λΕ ζ=>?_;refine az.d (o2 i0) (gW ef ?_);apply ζ;refine ai rfl ?_;refine Η ?_;refine W.rt ?_;exact .of (by rw[a2];rfl)
 cases c1:nH i1
 case false=>
  have a2:=f3 (.inr (.inl c1));refine bl λΕ ζ=>?_;refine az.d (o2 i0) (gW ef ?_);refine az.d (o2 i1) (gW c1 ?_);apply ζ;refine ai rfl ?_;refine Η ?_;refine W.rt ?_;exact .of (by rw[a2];rfl)
 cases c2:s.jI l0||s.jI l1
 case true=>
  have a2:=f3 (.inr (.inr (by rcases Bool.or_eq_true _ _ |>.mp c2 with h|h<;>simp[h])));refine bl λΕ ζ=>?_;refine az.d (o2 i0) (gW ef ?_);refine az.d (o2 i1) (gW c1 ?_);refine az.c call3 (bF.refl _) (by simp[l6]) η ?_;simp[c2];(repeat (rw[Ο];simp[c2]));apply ζ;refine ai rfl ?_;refine Η ?_;refine W.rt ?_;exact .of (by rw[a2];rfl)
 by_cases c3:db<0
 ·have a2:=f3 (.inr (.inr (.inr (.inr (.inl c3)))));refine bl λΕ ζ=>?_;refine az.d (o2 i0) (gW ef ?_);refine az.d (o2 i1) (gW c1 ?_);refine az.c call3 (bF.refl _) (by simp[l6]) η ?_;simp[c2,c3];(repeat (rw[Ο];simp[c2,c3]));apply ζ;refine ai rfl ?_;refine Η ?_;refine W.rt ?_;exact .of (by rw[a2];rfl)
 by_cases c4:(s.aI.length:Int)<=db
 ·have a2:=f3 (.inr (.inr (.inr (.inr (.inr c4)))));refine bl λΕ ζ=>?_;refine az.d (o2 i0) (gW ef ?_);refine az.d (o2 i1) (gW c1 ?_);refine az.c call3 (bF.refl _) (by simp[l6]) η ?_;simp[c2,c3,c4];(repeat (rw[Ο];simp[c2,c3,c4]));apply ζ;refine ai rfl ?_;refine Η ?_;refine W.rt ?_;exact .of (by rw[a2];rfl)
 have E8:s.jI l0=false/\s.jI l1=false:=by simpa using c2
 rw[if_neg (by rw[ef,c1,E8.1,E8.2];simp;omega)] at hv;refine bl λΕ ζ=>?_;refine az.d (o2 i0) (gW ef ?_);refine az.d (o2 i1) (gW c1 ?_);refine az.c call3 (bF.refl _) (by simp[l6]) η ?_;simp[c2,c3,c4];(repeat (rw[Ο];simp[c2,c3,c4]));apply ζ;refine aa rfl ?_
 repeat apply ad
 refine tX ?_;by_cases nz:i0<=i1
 ·rw[if_pos nz] at hv;refine ai (by simp[nz]) ?_;refine Η ?_;refine W.rt ?_;exact .of (by rw[hv];rfl)
 ·rw[if_neg nz] at hv;refine aa (by simp[nz]) ?_;obtain⟨n,rfl⟩:∃n:Nat,db=n:=⟨db.toNat,R⟩;have Ζ:n<s.aI.length:=R;have cP:l0<s.au.length:=by have:=E8.1;simp[aT.jI] at this;omega
  have Χ:l1<s.au.length:=by have:=E8.2;simp[aT.jI] at this;omega
  repeat apply ad
  refine W.draw (A:=[]) Ρ mixed λΕ ζ=>p7 ?_;refine eA (az.p (z' s ν (i0,i1) (l0,l1) n Ζ cP Χ) (bF.refl _) η η) ?_;simp;(repeat (rw[c7];simp[]));try rw[c6]
  refine er (ζ _ _ ?_);refine Η ?_;refine W.rt ?_;exact .of (by rw[hv];rfl)
end Go.TL
namespace Go.TL
open Go.Proofs
def fl:Nat->Int×Int
 | 0=>(1,0)
 | 1=>(2,0)
 | _=>(2,1)
def ho (s:aT) (p:Int×Int):Found:=⟨p.1,p.2,(List.range s.cells.length).map (jj s p)⟩
def lC (s:aT) (k:Nat):Option Found:=if k<3/\0<(ho s (fl k)).many (-1) then some (ho s (fl k)) else none
def cV (s:aT):List Found:=(List.range 3).filterMap (lC s)
structure Jd (N:Nat) (s:aT):Prop where
 small:s.small
 au:s.au.length<2 ^ 20
 lit:∀c∈s.cells,∀x∈c,0<=x.db/\x.db<s.aI.length
 reads:∀k,k<3->∀c,c<s.cells.length->(jj s (fl k) c).length<=N
 many:∀k,k<3->∀i,i<=s.cells.length->ir (ho s (fl k)).cells (-1) i<2 ^ 62
abbrev Pw (s:aT):Prop:=Jd 12 s
theorem Px {N:Nat} (cm:N<2 ^ 20) (fh:∀c:bn,@Ec c N) {s:aT} (h:Jd N s):@qi oA s (cV s):=λ_=>by
 refine aΤ (fd:=lC s) (pr:=fl) (F:=λk=>ho s (fl k)) (N:=λk=>(ho s (fl k)).many (-1)) ⟨λk ς c=>?_,λk ς c=>?_,λk=>rfl⟩ rfl rfl rfl rfl ?_
 ·exact @W8 c s h.small h.au (fl k) h.lit N cm (fh c) (h.reads k ς)
 ·have ο:(ho s (fl k)).cells.length=s.cells.length:=by simp[ho]
  have:=h.small.2.2.1;exact @D4 c (ho s (fl k)) (-1) (by rw[ο];omega) (λi hi=>h.many k ς i (by rw[<-ο];exact hi))
 ·have e:(List.range 3).filterMap (lC s)=(lC s 0).toList++(lC s 1).toList++(lC s 2).toList:=by
   show [0,1,2].filterMap (lC s)=_;simp only[List.filterMap_cons,List.filterMap_nil];cases lC s 0<;>cases lC s 1<;>cases lC s 2<;>rfl
  show((List.range 3).filterMap (lC s)).Pairwise oB;rw[e];have m:∀k x,x∈(lC s k).toList->x=ho s (fl k):=λk x γ=>by
   unfold lC at γ;split at γ
   ·simpa using γ
   ·simp at γ
  have one:∀k,((lC s k).toList).Pairwise oB:=λk=>by cases lC s k<;>simp
  rw[List.pairwise_append,List.pairwise_append];refine⟨⟨one 0,one 1,λa κ b hb=>?_⟩,one 2,λa κ b hb=>?_⟩
  ·rw[m 0 a κ,m 1 b hb];exact .inl (show(fl 0).1<(fl 1).1 by decide)
  ·rw[m 2 b hb];rcases List.mem_append.1 κ with κ|κ
   ·rw[m 0 a κ];exact .inl (show(fl 0).1<(fl 2).1 by decide)
   ·rw[m 1 a κ];exact .inr ⟨rfl,show(fl 1).2<(fl 2).2 by decide⟩
theorem bδ {s:aT} (h:Pw s):@qi oA s (cV s):=Px bu (λc=>@W0 c) h
theorem Py:Pw fx:=by
 refine⟨by unfold aT.small;decide,bu,bu,?_,?_⟩
 ·have:∀k<3,∀c<2,(jj fx (fl k) c).length<=12:=by decide +kernel
  exact this
 ·have:∀k<3,∀i<3,ir (ho fx (fl k)).cells (-1) i<2 ^ 62:=by decide +kernel
  exact λk ς i hi=>this k ς i (by have:i<=2:=hi;omega)
theorem Pz:fx.err=0:=by decide +kernel
theorem bε:sU fx (cV fx)=(1,1,2,0):=by decide +kernel
theorem bζ:uI fx (cV fx) 1 true=([1],0):=by decide +kernel
theorem bη:s4 fx [1,0] [1,4] 1=(12,0):=by decide +kernel
theorem bθ:ll (cV fx)=[[1,0],[2,0]]:=by decide +kernel
def yp (b:ByteArray):Int:=(b.data[0]!).toNat
theorem PA {l m:List Int} (ψ:l.Perm m) (hm:m.Pairwise λa b=>a<=b):mW l=m:=by
 have HW:∀a b c:Int,decide (a<=b)=true->decide (b<=c)=true->decide (a<=c)=true:=λa b c h k=>by simp at *;omega
 have HX:∀a b:Int,(decide (a<=b)||decide (b<=a))=true:=λa b=>by simp;omega
 have s1:=List.pairwise_mergeSort (le:=λx y:Int=>decide (x<=y)) HW HX l
 have dy:(l.mergeSort λx y:Int=>decide (x<=y)).Perm m:=(List.mergeSort_perm l _).trans ψ;exact List.Perm.eq_of_pairwise (le:=λa b:Int=>a<=b) (λa b _ _ h k=>R) (s1.imp λ{a b} h=>by simpa using h) hm dy
theorem PB:gg (cV fx) 0 true=[4,4]:=by decide +kernel
theorem PC:gg (cV fx) 1 true=[1,2,1,2]:=by decide +kernel
theorem bι:(spell [111,63]).toList=[111,63]:=by decide +kernel
theorem bκ:(eZ fx true (cV fx)).2.2=0:=by decide +kernel
theorem bμ {l:List (List (Int×Int))} {hJ:Int} (h:∀j:Nat,((l[j]?).getD []).length<=2):∀i,ir l hJ i<=2 ^ i:=by
 intro i
 induction i with
 | zero=>simp[ir]
 | succ i Β=>
  rw[@D3 ⟨λ_=>True⟩,Nat.pow_succ];refine Nat.mul_le_mul Β ?_;split
  ·omega
  ·exact h i
theorem bν:∀f∈cV fx,f.cells.length=2/\∀c∈f.cells,c.length<=2:=by decide +kernel
theorem PD:Eg fx (cV fx):=by
 refine⟨by decide +kernel,by decide +kernel,?_,by decide +kernel⟩;intro f Υ;obtain⟨J,U⟩:=bν f Υ;refine⟨by rw[J];decide,λhJ i hi=>Nat.lt_of_le_of_lt (bμ (λj=>?_) i) ?_⟩
 ·cases ε:f.cells[j]? with
  | none=>simp
  | some c=>simpa using U c (cE ε)
 ·have:2 ^ i<=2 ^ 2:=Nat.pow_le_pow_right R R;omega
theorem PE:fS (cV fx) 0 true=[4]:=by
 unfold fS;rw[PB,PA (m:=[4,4]) (.refl _) bu];decide
theorem PF:fS (cV fx) 1 true=[1,2]:=by
 unfold fS;rw[PC,PA (m:=[1,1,2,2]) bu bu];decide
theorem bξ:HV fx (cV fx) true yp 12:=by
 refine⟨by decide +kernel,by decide +kernel,λc δ=>?_,λg Ξ=>?_⟩
 ·have δ:c<2:=δ
  match c,δ with
  | 0,_=>rw[PB,PE];decide
  | 1,_=>rw[PC,PF];decide
 ·simp only[fx,List.mem_cons,List.not_mem_nil,or_false] at Ξ;rcases Ξ with rfl|rfl|rfl|rfl|rfl<;>rfl
theorem bο:kT fx (cV fx) true yp 2=[111,63]:=by
 show [0,1].map (oq fx (cV fx) true yp)=_;simp only[List.map_cons,List.map_nil,oq,PE,PF];decide +kernel
theorem bπ:rv fx (cV fx) true yp=(spell [111,63],0):=by
 unfold rv;rw[if_pos bκ];show(spell (kT fx (cV fx) true yp 2),(0:Int))=_;rw[bο]
theorem bρ:@az oA Tryz.prog 21 [] (a6 true):=by
 letI:bn:=oA;have ν:=Py.small;have Κ:=bδ Py;refine ae.body Ρ Tryz.func21 rfl rfl Tryz.ntmps21 rfl rfl η ?_;refine Η ?_;refine bl λΕ ζ=>?_;refine az.d (A0) (bD ?_);refine az.c (bβ fx ν [1,0] [1,4] 1) (.cons (.refl _) (.cons .ex (.cons .ex (.cons (.refl _) .nil)))) η η ?_;rw[bη];simp;(repeat (rw[Ο];simp[]));apply ζ;refine bl λΕ ζ=>?_;refine az.d (A0) (bD ?_);refine az.c (WC fx ν _ Κ (by decide +kernel)) (bF.refl _) η η ?_;rw[if_pos Pz,Pz,bθ];simp;(repeat (rw[Ο];simp[]));apply ζ;refine bl λΕ ζ=>?_;refine az.d (A0) (bD ?_);refine az.c (Ny fx ν _ Κ true yp 12 bu WM bξ) (bF.refl _) η η ?_;rw[bπ];simp;(repeat (rw[Ο];simp[]));apply ζ;refine bl λΕ ζ=>?_;refine az.d (A0) (bD ?_);refine az.c (Xn fx ν _ Κ PD) (bF.refl _) η η ?_;rw[bε];simp;(repeat (rw[Ο];simp[]));apply ζ;refine bl λΕ ζ=>?_;refine az.d (A0) (bD ?_);refine az.c (ZW fx ν _ Κ PD 1 true bu) (bF.refl _) η η ?_;rw[bζ];simp;(repeat (rw[Ο];simp[]));apply ζ;refine bl λΕ ζ=>?_;refine az.c (Wx 9) (bF.refl _) η η ?_;have dS:valid 9=true:=by decide +kernel
 have dx:DY 9=6:=by decide +kernel
 rw[dS,dx];simp;(repeat (rw[Ο];simp[]));apply ζ;refine hI @bι λΕ ζ=>?_;refine az.c (VY [[1,0],[2,0]] [[1,0],[2,0]] bu bu) (.cons (.refl _) (.cons ?_ .nil)) η η ?_
 ·exact .map (l:=[[1,0],[2,0]]) (f:=λl:List Int=>.sl true 1 (l.map I)) (g:=bO I 1) λx _=>.one .ex rfl rfl
 simp;(repeat (rw[Ο];simp[]));refine az.c (M' [1] [1] bu) (.cons (.refl _) (.cons .ex .nil)) η η ?_;simp;(repeat (rw[Ο];simp[]));apply ζ;refine W.rt ?_;exact .of η
end Go.TL
namespace Go.TL
open Go.Proofs
variable [bn]
structure cD where
 bf:List Int
 state:Int
abbrev PG (n:Int):θ:=.z (.int .u64 n)
abbrev bς (d:cD):θ:=.a5 [bO I 1 d.bf,PG d.state]
abbrev cb (d:cD):Row:=.cells 93 2 [bς d]
def A4 (d:cD):Int:=IntKind.u64.wrap (d.bf.headD 0)
def yq (d:cD):Int:=IntKind.u64.wrap (IntKind.u64.wrap (IntKind.u64.wrap (d.state+(if d.bf=[] then 0 else A4 d))+6364136223846793005)*15074714826142052245)
def s5 (d:cD):Int:=zy .u64 (yq d) ((yq d).fdiv (2 ^ min 29 IntKind.u64.bits))
def rR (d:cD):Int:=(IntKind.u64.wrap (zy .u64 (s5 d) ((s5 d).fdiv (2 ^ min 33 IntKind.u64.bits))*18397679294719823053)).fdiv (2 ^ min 32 IntKind.u64.bits)
def cD.next (d:cD):cD:=⟨d.bf.tail,s5 d⟩
theorem bτ (d:cD) (hd:d.bf.length<2 ^ 63):ae Tryz.prog 73 [.ar 0 1 0 0] [cb d] (λr s=>r=PG (rR d)/\s=[cb d.next]) (λ_ _=>False):=by
 obtain⟨l,q⟩:=d;refine ae.body Ρ Tryz.func73 rfl rfl Tryz.ntmps73 rfl rfl η ?_;refine Η ?_;cases l with
 | nil=>
  refine aa η ?_;refine Η ?_;refine tX ?_
  repeat apply ad
  refine tX ?_;refine Η ?_;exact W.ret ⟨_,rfl,by simp[rR,s5,yq,A4],by simp[cD.next,s5,yq,A4]⟩
 | cons a l=>
  refine ai η ?_;refine Η ?_;have lf:List.take l.length (l.map I)=l.map I:=List.take_of_length_le η;refine hI lf λΕ ζ=>?_;refine⟨R,?_⟩;apply ζ;refine Η ?_;refine tX ?_
  repeat apply ad
  refine tX ?_;refine Η ?_;exact W.ret ⟨_,rfl,by simp[rR,s5,yq,A4],by simp[cD.next,s5,yq,A4]⟩
def iS (d:cD) (n:Int):Int:=if n<=0 then 0 else IntKind.i64.wrap ((IntKind.u64.wrap (rR d*IntKind.u64.wrap (IntKind.i64.wrap (n+1)))).fdiv (2 ^ min 32 IntKind.u64.bits))
def cD.after (d:cD) (n:Int):cD:=if n<=0 then d else d.next
theorem pn (d:cD):il (cb d):=by simp[il,θ.cells]
theorem Je (d:cD) (hd:d.bf.length<2 ^ 63) (n:Int):ae Tryz.prog 24 [.ar 0 1 0 0,I n] [cb d] (λr s=>r=I (iS d n)/\s=[cb (d.after n)]) (λ_ _=>False):=by
 refine ae.body Ρ Tryz.func24 rfl rfl Tryz.ntmps24 rfl rfl η ?_;refine Η ?_;by_cases h:n<=0
 ·refine ai (by simp[h]) ?_;refine Η ?_;exact W.ret ⟨_,rfl,by simp[iS,h],by simp[cD.after,h]⟩
 ·refine aa (by simp[h]) ?_;refine Η ?_;refine bl λΕ ζ=>?_;refine ae.one (as0:=[.ar 0 1 0 0]) (bτ d hd) 0 rfl (pn d) (pn d.next) (by simp[fQ,nE]) ((aG.z _).jg 1) rfl ?_;simp[oh];(repeat (rw[Ο];simp[]));apply ζ;exact W.ret ⟨_,rfl,by simp[iS,h],by simp[cD.after,h]⟩
def nS (d:cD) (a b:Int):Int:=IntKind.i64.wrap (a+iS d (IntKind.i64.wrap (b-a)))
theorem bυ (d:cD) (hd:d.bf.length<2 ^ 63) (a b:Int):ae Tryz.prog 38 [.ar 0 1 0 0,I a,I b] [cb d] (λr s=>r=I (nS d a b)/\s=[cb (d.after (IntKind.i64.wrap (b-a)))]) (λ_ _=>False):=by
 refine ae.body Ρ Tryz.func38 rfl rfl Tryz.ntmps38 rfl rfl η ?_;refine Η ?_;refine bl λΕ ζ=>?_;refine ae.one (as0:=[.ar 0 1 0 0,I (IntKind.i64.wrap (b-a))]) (Je d hd _) 0 rfl (pn d) (pn _) (by simp[fQ,nE]) ((aG.z _).jg 1) rfl ?_;simp[oh];(repeat (rw[Ο];simp[]));apply ζ;exact W.ret ⟨_,rfl,rfl,rfl⟩
end Go.TL
namespace Go.TL
open Go.Proofs
theorem bφ (x:Int):0<=IntKind.u64.wrap x/\IntKind.u64.wrap x<18446744073709551616:=by
 unfold IntKind.wrap;simp[IntKind.bits,IntKind.signed];omega
theorem u64_in (x:Int) (h:0<=x) (U:x<18446744073709551616):IntKind.u64.wrap x=x:=by
 unfold IntKind.wrap;simp[IntKind.bits,IntKind.signed];omega
theorem PH:(2:Int) ^ min 32 IntKind.u64.bits=4294967296:=bu
theorem bχ (d:cD):0<=rR d/\rR d<4294967296:=by
 unfold rR;rw[PH];generalize γ:IntKind.u64.wrap _=x;have:=bφ (zy .u64 (s5 d) ((s5 d).fdiv (2 ^ min 33 IntKind.u64.bits))*18397679294719823053);rw[γ] at this;rw[Int.fdiv_eq_ediv_of_nonneg _ bu];omega
theorem uM (d:cD) (n:Int) (aj:0<=n) (Ζ:n<2147483647):0<=iS d n/\iS d n<=n:=by
 unfold iS;split
 ·omega
 ·obtain⟨r0,r1⟩:=bχ d;rw[PH,IntWalk.i64_in (n+1) R,u64_in (n+1) R R];have hm:rR d*(n+1)<=4294967295*(n+1):=Int.mul_le_mul_of_nonneg_right R R;have ψ:0<=rR d*(n+1):=Int.mul_nonneg r0 R;generalize rR d*(n+1)=y at hm ψ;rw[u64_in y ψ R,Int.fdiv_eq_ediv_of_nonneg _ bu,IntWalk.i64_in _ R];omega
end Go.TL
namespace Go.TL
open Go.Proofs
variable [bn]
def s6 (d:cD) (l:List Int):Nat:=(iS d ((l.length:Int)-1)).toNat
theorem bψ (d:cD) (hd:d.bf.length<2 ^ 63) (l:List Int) (aj:0<l.length) (ο:l.length<1000000):ae Tryz.prog 61 [.ar 0 1 0 0,bO I 1 l] [cb d] (λr s=>r=I (l.getD (s6 d l) 0)/\s=[cb (d.after ((l.length:Int)-1))]) (λ_ _=>False):=by
 refine ae.body Ρ Tryz.func61 rfl rfl Tryz.ntmps61 rfl rfl η ?_;have hw:IntKind.i64.wrap ((l.length:Int)-1)=(l.length:Int)-1:=IntWalk.i64_in _ R;obtain⟨t0,t1⟩:=uM d ((l.length:Int)-1) R R;obtain⟨k,ς⟩:∃k:Nat,iS d ((l.length:Int)-1)=k:=⟨(iS d ((l.length:Int)-1)).toNat,R⟩;have jw:k<l.length:=R;have dY:s6 d l=k:=by unfold s6;rw[ς];rfl
 refine Η ?_;refine hI hw λΕ ζ=>?_;refine ae.one (as0:=[.ar 0 1 0 0,I ((l.length:Int)-1)]) (Je d hd _) 0 rfl (pn d) (pn _) (by simp[fQ,nE]) ((aG.z _).jg 1) rfl ?_;rw[ς];simp[oh,jw];(repeat (rw[Ο];simp[jw]));apply ζ;exact W.ret ⟨_,rfl,by rw[dY];simp[List.getD_eq_getElem?_getD,jw],rfl⟩
end Go.TL
