import Derived.Test.YtlabjopijpkiaaaGreatUAN
import Derived.Test.YtlabjopijpkiaaaGreatUAR
import Derived.Test.YtlabjopijpkiaaaGreatUAX
set_option maxHeartbeats 16000000
set_option maxRecDepth 20000
set_option linter.unusedSectionVars false
set_option linter.unusedSimpArgs false
set_option linter.unusedVariables false
namespace Go.TL
open Go.Conc Go.Proofs
open Go.ConcN (sumTo upd sumTo_upd upd_ne upd_same sumTo_congr le_sumTo)
noncomputable def yE:Code:=Tryz.f116.body.getD .skip
noncomputable def QE:Code:=dH [1,1,1,1,0,1,0,0,1,1,0,0,1,1,0,0,1,1,0,0,1] yE
noncomputable abbrev FA (vs:Array Value):Frame:=Frame.enter Tryz.prog 116 vs .normal
abbrev env0 (s m o:Nat) (eb:aI) (rest:aa):aa:=(5,.z (ptr o 0))::(4,.z (ptr s 0))::(3,.z (ptr m 0))::(1,.ab [aS eb.ag,aQ eb.ak,bl eb.cells])::rest
abbrev yF (s m o:Nat) (eb:aI) (a b:Int) (rest:aa):aa:=(7,.ab [J b])::(6,.ab [J a])::env0 s m o eb rest
structure FB (eb:aI) (fd:Nat->Option Found) (pr:Nat->Int×Int) (F:Nat->Found) (N:Nat->Nat):Prop where
 look:∀k,k<3->∀c:bt,@aD c Tryz.prog 143 [fs eb,aC (pr k)] (de (F k))
 many:∀k,k<3->∀c:bt,@aD c Tryz.prog 78 [de (F k),J (-1)] (J (N k))
 fd:∀k,fd k=if k<3/\0<N k then some (F k) else none
theorem FB.qx {eb:aI} {fd:Nat->Option Found} {pr:Nat->Int×Int} {F:Nat->Found} {N:Nat->Nat} (h:FB eb fd pr F N) (L:List Nat) (Η:L.Nodup):(L.filterMap fd).length<=3:=by
 have I:L.filterMap fd=(L.filter (· < 3)).filterMap fd:=by
  rw[List.filterMap_filter];congr 1
  funext k
  by_cases e:k<3
  ·simp[e]
  ·simp[e,h.fd k]
 rw[I];refine Nat.le_trans (List.length_filterMap_le ..) ?_;have U:(L.filter (· < 3)).Nodup:=Η.filter _;exact My 3 _ U λk ς=>by simpa using (List.mem_filter.1 ς).2
variable [bt]
theorem V.boxed {P:Program} {Q:Value->Prop} {mn:Bool} {z:gV} {b:Frame} {cs:List Frame} {nt:Nat} {o:Base} {k:List Item} {env:aa} {σ:List Row} {ops:Array Oper} {i:Nat} {rest:List Nat} {op:Oper}
  (γ:Seq z) (hb:b.mode=.run) (cm:b.roundOf=none) (Α:ops[i]?=some op) (Ρ:op.guard=none) {ty:TypeId} {wR:Operand} (Ξ:op.op=.box ty wR) {l:List η} (μ:aT env wR=.aV l) (dK:l.all (η.a9 [])=true) (bA:0<l.length)
  (h:∀(S:aH) (B:aU) (H:χ) (t:Array Value) (r:Nat) (c:Array Value),e7 o.m o.S o.B o.H o.σ S B H σ->fI o.m nt S B H σ env t->H.fresh r->(∃v,(S.lay r c) r 0=some v)->b' S (S.lay r c) B B σ σ->Ext S B H (S.lay r c) B (H.dA r c ty)->Holds (S.lay r c) B σ (H.dA r c ty)->av (S.lay r c) B σ (.ab l) (ptr r 0)->
   aO P Q mn z (ax b (put op t (ptr r 0)) (.inRegion ops rest::k)) cs (H.dA r c ty)):V P Q mn z b cs nt o (.inRegion ops (i::rest)::k) env σ:=by
 intro S B H t cΓ ψ;refine .op γ hb Α (by unfold Region.wanted;rw[Ρ]) (.inl cm) ?_;have e:execOp (br t) op=(do pure (.value (<-Instr.box ty (br t wR)))):=by unfold execOp;rw[Ξ]
 have κ:=lV ψ.cx wR;rw[μ] at κ;rw[e];refine π.bind' ?_;unfold Instr.box;refine π.bind' ?_;unfold newVar newRow;have QF:=xK (σ:=σ) dK;have cv:=(κ.cells (a:=.aV l) QF).1;refine π.bind' ⟨rfl,λr fp=>π.pure' (π.pure' (π.pure' ?_))⟩;obtain⟨I,U,ξ⟩:=ψ.holds.lay (c:=(br t wR).cells) (t:=ty) fp;have aB:0<(br t wR).cells.size:=by rw[cv];exact bA
 exact h S B H t r _ cΓ ψ fp ⟨(br t wR).cells[0],by simp[aH.lay,aB]⟩ ξ U I (Nl ξ (fU.one κ QF))
section
variable {y:aX} {Q:Value->Prop} {mn:Bool} {β s m o n:Nat} {bM:aH} {H1:χ} {fd:Nat->Option Found} {pr:Nat->Int×Int} {F:Nat->Found} {N:Nat->Nat} {sp:Spec} {eb:aI} {v:Option (Nat×aP)} {vs:Array Value} {cs:List Frame} {k:List Item} {rest:aa}
theorem JY {a b:Int} (gU:pr n=(a,b)) (ε:me y s sp) (fw:sp.aW=some m) (dp:sp.aN=wN β bM o fd) (dZ:∀k,sp.D k χ.empty) (gJ:sp.top=3) (Η:n<3) (dY:FB eb fd pr F N) (qu:∃q v,bM β q=some v) (rI:∃q x,H1.aL β q=some x) (κ:∀p∈rest,p.1∉[16,15,7,6,5,4,3,1]/\a6 rest p.1=p.2)
  (ς:V Tryz.prog Q mn (one (bx y s (.par (n+1) 0 .add) none 0)) (FA vs) cs 23 ⟨bM,[],H1,[],0⟩ k ((6,.ab [J a])::env0 s m o eb rest) []) :
  V Tryz.prog Q mn (one (bx y s (.par n 0 .add) v 0)) (FA vs) cs 23 ⟨bM,[],H1,[],0⟩ (.code QE::k) (yF s m o eb a b rest) []:=by
 letI:bt:=eG;obtain rfl:a=(pr n).1:=by rw[gU]
 obtain rfl:b=(pr n).2:=by rw[gU]
 have γ:=ε.seq;refine V.fL (γ _ _ _) rfl ?_;simp only[QE,yE,Tryz.f116,Option.getD_some,dH]
 repeat first|apply a3|apply wb|apply a4|apply wd
 refine W.cq (.stop ?_);refine V.call (γ _ _ _) ⟨rfl,rfl,by simp[Frame.enter],rfl⟩ rfl rfl rfl ⟨_,Tryz.func140,rfl,rfl⟩ λS B H t po μ ψ hv=>?_;obtain rfl:=m0 (l:=[ptr s 0,.int .i64 1]) hv;obtain rfl:B=[]:=dw.1 ψ.holds.len;rintro lX rfl;refine aκ ε R ψ.holds λv2 c0 bQ nB je=>?_;rw[il rfl];have s4:b' S c0 [] [] [] []:=⟨nB.di,λid r h=>by simp at h⟩;refine V.here (x:=one _) (m:=0) (nt:=23) (S:=c0) (B:=[]) (σ:=[]) (env:=(15,.z (.tuple #[]))::yF s m o eb (pr n).1 (pr n).2 rest) ?_ ⟨je,dj.later (dj.put ψ.cx (d:=15) (by rw[ψ.size];omega) (.z (.tuple #[]))) s4,Eq.trans (Array.size_setIfInBounds ..) ψ.size,Nat.zero_le _⟩ _ rfl;refine V.fL (γ _ _ _) rfl ?_;refine W.bI ?_;refine W.cq ?_;refine ft [0] [1] ?_;refine W.stop ?_;intro kN kO jm t3 hG e8;obtain rfl:kO=[]:=dw.1 e8.holds.len;rintro lX rfl;have b3:=e8.cx 16;simp only[a6,if_true] at b3;obtain⟨au,Bc⟩:=aF (t3.getD 16 undef);rw[<-Bc] at b3;have JZ:e7 0 bM [] H1 [] kN [] jm []:=μ.trans ((e7.of nB s4).trans hG);cases b3 with
 | fn w1 w2 Τ af aZ cA=>
  have Δ:w1=#[]:=Array.eq_empty_of_size_eq_zero (by rw[<-Τ];rfl);subst Δ;obtain⟨l2⟩:=w2
  match l2,af with
  | [QG,p1,k6,C1,cΔ,cΕ],_=>
   have uT:QG=ptr s 0:=by have:=cA 0 _ _ rfl rfl;cases this;rfl
   have cΖ:cΔ=ptr m 0:=by have:=cA 4 _ _ rfl rfl;cases this;rfl
   have cΗ:cΕ=ptr o 0:=by have:=cA 5 _ _ rfl rfl;cases this;rfl
   subst uT;subst cΖ;subst cΗ;have JJ:fJ kN [] [] (JF s m o eb (pr n).1 (pr n).2) (Fj s m o p1 k6 C1):=⟨rfl,λi a v I U=>cA i a v I U⟩;refine cw.Hd (s:=s) (n:=n+1) (p:=0) (sp:=sp) ε.rel rfl ε.spec b9 ⟨rfl,rfl,by simp[Frame.enter],rfl⟩ rfl rfl rfl Bc.symm (S:=kN) e8.holds ?_ ?_
   ·rw[g3];have ν:=bβ e8.holds;have cΘ:∀g:η,∀p∈(6,.ab [J (pr n).1])::env0 s m o eb rest,a6 ((16,g)::(15,.z (.tuple #[]))::yF s m o eb (pr n).1 (pr n).2 rest) p.1=p.2:=λg p ψ=>by
     simp only[env0,List.mem_cons] at ψ;rcases ψ with rfl|rfl|rfl|rfl|rfl|ψ<;>first|rfl|skip
     obtain⟨I,U⟩:=κ p ψ;simp only[List.mem_cons,List.not_mem_nil,or_false,not_or] at I;obtain⟨c1,c2,c3,c4,nx,sL,rv,cΙ⟩:=I;simp only[a6,Ne.symm c1,Ne.symm c2,Ne.symm c3,Ne.symm c4,Ne.symm nx,Ne.symm sL,Ne.symm rv,Ne.symm cΙ,if_false];exact U
    refine V.fL (γ (.par (n+1) 0 .add) none 0) rfl (W.bI (W.forget ((6,.ab [J (pr n).1])::env0 s m o eb rest) (cΘ _) (.stop ς))) kN [] _ t3 (JZ.trans (e7.of ν (b'.refl ..))) ⟨aΩ e8.holds,e8.cx,e8.size,Nat.zero_le _⟩ _ rfl
   ·refine bρ fw R dp (dZ _) (dY.look n Η) (dY.many n Η) ?_ (λL aG=>?_) ?_ (λb q u hu=>?_) JJ
    ·show fd n=_;rw[dY.fd n];simp[Η]
    ·rw[List.length_map];have:=dY.qx L aG;omega
    ·obtain⟨q,u,hu⟩:=qu;exact⟨q,u,JZ.ext.di _ _ _ hu⟩
    ·obtain⟨ik,QG,Fp⟩:=rI;rcases JZ.ext.rh b q u hu with h|⟨N,h⟩|h
     ·exact .inl (by rw[h];simp)
     ·simp at h
     ·exact .inr (JC Fp h)
end
end Go.TL
namespace Go.TL
open Go.Conc Go.Proofs
open Go.ConcN (sumTo upd sumTo_upd upd_ne upd_same sumTo_congr le_sumTo)
structure Calm (y:aX):Prop where
 rel:y.rel=false
 aK:y.aK=λ_=>none
 deaf:y.deaf=0
 shut:∀s,fZ (y.tok s)
def calm:gV:=Calm
@[reducible] def oD:bt:=⟨λx=>x=calm⟩
variable [bt]
def tn (x y:Found):Int:=nG (x.u,x.v) (y.u,y.v)
def oE (x y:Found):Prop:=x.u<y.u\/(x.u=y.u/\x.v<y.v)
theorem cΚ (x y:Found):az tn x y=true↔oE x y:=by
 have h:=s9 (x.u,x.v) (y.u,y.v)
 have e:az tn x y=az nG (x.u,x.v) (y.u,y.v):=rfl;rw[e,h];simp[oE]
theorem cΜ:Go.Sort.SWO (az tn) where
 irrefl x:=yd.irrefl (x.u,x.v)
 trans x y z:=yd.trans (x.u,x.v) (y.u,y.v) (z.u,z.v)
 ntrans x y z:=yd.ntrans (x.u,x.v) (y.u,y.v) (z.u,z.v)
instance:Inhabited Found:=⟨⟨0,0,[]⟩⟩
theorem cΝ {m:List Found} (h:m.Pairwise oE):∀a∈m,∀b∈m,¬oE a b->¬oE b a->a=b:=by
 induction h with
 | nil=>intro a μ;cases μ
 | cons I U Β=>
  intro a μ b hb ξ Κ;rcases List.mem_cons.1 μ with lh|eo<;>rcases List.mem_cons.1 hb with iJ|dF
  ·rw[lh,iJ]
  ·exact absurd (lh▸I b dF) ξ
  ·exact absurd (iJ▸I a eo) Κ
  ·exact Β a eo b dF ξ Κ
theorem cΞ {l m:List Found} (ψ:l.Perm m) (hm:m.Pairwise oE):(Go.Sort.insertionSort (az tn) l.toArray 0 l.length).toList=m:=by
 obtain⟨⟨cv,_,J0⟩,U⟩:=Go.Sort.insertionSort_holds (lt:=az tn) cΜ l.toArray 0 l.length (Nat.zero_le _) θ;generalize Go.Sort.insertionSort (az tn) l.toArray 0 l.length=d at cv J0 U;have HA:d.size=l.length:=by simpa using cv
 have Δ:d.extract 0 l.length=d:=by rw[<-HA];exact Array.extract_size
 have Γ:l.toArray.extract 0 l.length=l.toArray:=by
  simp
 rw[Δ,Γ] at J0;have QH:d.toList.Perm m:=J0.trans ψ;have cΟ:∀x y,az tn x y=false↔¬oE x y:=λx y=>by rw[<-cΚ];simp
 refine List.Perm.eq_of_pairwise (le:=λx y=>¬oE y x) (λa b μ hb ξ Κ=>?_) ?_ (hm.imp λ{a b} h k=>?_) QH
 ·exact cΝ hm a (QH.mem_iff.1 μ) b hb Κ ξ
 ·rw[List.pairwise_iff_getElem];intro i j hi δ fP;have:=U i j (Nat.zero_le _) fP (by simpa[HA] using δ);rw[cΟ] at this;rw[getElem!_pos d j (by simpa using δ),getElem!_pos d i (by simpa using hi)] at this;simpa using this
 ·simp only[oE] at h k;omega
theorem cΡ {D:Nat->χ->Prop} (dZ:∀k E,D k E->E=χ.empty):∀(L:List Nat) (E:χ),lO D L E->E=χ.empty:=by
 intro L
 induction L with
 | nil=>intro E h;exact h
 | cons k LX Β=>
  rintro E ⟨pS,pT,I,U,_,rfl⟩;rw[dZ k pS I,Β pT U];exact GZ _
end Go.TL
namespace Go.TL
open Go.Conc Go.Proofs
open Go.ConcN (sumTo upd sumTo_upd upd_ne upd_same sumTo_congr le_sumTo)
abbrev FC:η:=.fn (.func 148) [] []
theorem cΤ [bt] (x y:Found):gi Tryz.prog FC [de x,de y] (J (tn x y)):=λσ=>(XR x y).c (bS.refl _) θ θ ⟨rfl,rfl⟩
section
variable {y:aX} {Q:Value->Prop} {mn:Bool} {β s m o:Nat} {fq bM:aH} {dS H1:χ} {fd:Nat->Option Found} {sp:Spec} {eb:aI} {v:Option (Nat×aP)} {vs:Array Value} {c:Frame} {cs:List Frame}
theorem cΥ (ε:me y s sp) (fw:sp.aW=some m) (dp:sp.aN=wN β bM o fd) (dZ:∀k E,sp.D k E->E=χ.empty) (J1:∀L:List Nat,L.Nodup->(L.filterMap fd).length<=3) {lA:List Found} (J2:(List.range 3).filterMap fd=lA) (uX:lA.Pairwise oE)
  (J3:∀v,Calm (bx y s (.par 3 0 .bB) v 0)) (l3:v5 Tryz.prog Q mn calm c cs fq [] dS [] (λa s=>cW a (cX lA)/\s=[]) (λ_ _=>False)) (Be:Ext fq [] dS bM [] H1) (J4:dS.fresh β) :
  V Tryz.prog Q mn (one (bx y s (.par 3 0 .add) v 0)) (FA vs) (c::cs) 23 ⟨bM,[],H1,[],0⟩ [.code (dH [1,1,1,1,1] yE)] (env0 s m o eb []) []:=by
 letI:bt:=eG;have γ:=ε.seq;refine V.fL (γ _ _ _) rfl ?_;simp only[yE,Tryz.f116,Option.getD_some,dH]
 repeat first|apply a3|apply wb|apply a4|apply wd
 refine W.cq (.stop ?_);refine V.call (γ _ _ _) ⟨rfl,rfl,by simp[Frame.enter],rfl⟩ rfl rfl rfl ⟨_,Tryz.func146,rfl,rfl⟩ λS B H t po μ ψ hv=>?_;obtain rfl:=m0 (l:=[ptr s 0]) hv;obtain rfl:B=[]:=dw.1 ψ.holds.len;rintro lX rfl;refine aς ε ψ.holds (n:=3) λaA H' gp fG gM eI he ω MG cΦ cΧ cl a1 bk cz hw v2 c0 bQ nB=>?_;rw[il rfl];obtain rfl:=cΡ dZ gp gM cΦ;rw[GZ] at nB;obtain⟨lR,QI⟩:=cΧ (by rw[fw];simp);rw[dp] at QI;obtain⟨hi,hJ,r4,wP,fl⟩:=QI;obtain⟨w,f1,f2,f3⟩:=hw;obtain⟨G,c5⟩:=aF (fG.filterMap fd);have J5:G.Perm lA:=by rw[c5,<-J2];exact lR.filterMap _
 have lΙ:G.length<=3:=by rw[c5];exact J1 fG (lR.nodup_iff.2 List.nodup_range)
 rw[<-c5] at wP;obtain⟨JH,l1,l2⟩:=Qc ω wP bk ⟨w,f1,f3⟩ (Fi _);have jw:=bε (Be.trans (μ.ext.trans he)) (μ.ext.trans he).di J4 hi ω wP (Fi _);obtain⟨e3,eK⟩:=JH.sD (λb hb=>nB.sD hb) nB.grow;have cΨ:=jw.trans eK;have aE:t.getD 5 undef=ptr o 0:=by
  have:=ψ.cx 5;simp only[a6] at this;generalize t.getD 5 undef=u at this;cases this;rfl
 have rK:dj (aA.plus hJ) r4 (gK (G.map de)) [(5,.an 0 1 0 0)] (t.setIfInBounds 19 (.tuple #[])):=λi=>by
  simp only[a6];split
  ·rename_i e;subst e;have e':(t.setIfInBounds 19 (.tuple #[])).getD 5 undef=ptr o 0:=by
    rw[<-aE,Array.getD_eq_getD_getElem?,Array.getD_eq_getD_getElem?,Array.getElem?_setIfInBounds_ne bD]
   rw[e'];have:=av.an (S:=aA.plus hJ) (B:=r4) (σ:=gK (G.map de)) (id:=0) (n:=1) (i:=0) (j:=0) (k:=1) (t:=99) (l:=[tm (G.map de)]) (b:=o) (N:=1) (by simp[gK]) rfl fl;simpa using this
  ·exact .cp _
 refine V.here (x:=one _) (m:=0) (nt:=23) (S:=aA.plus hJ) (B:=r4) (σ:=gK (G.map de)) (env:=[(5,.an 0 1 0 0)]) ?_ ⟨e3,rK,Eq.trans (Array.size_setIfInBounds ..) ψ.size,Nat.zero_le _⟩ _ rfl;have fin:∀(e:Bool) (k:Nat),cW (.sl e k (lA.map de)) (cX lA)->V Tryz.prog Q mn (one (bx y s (.par 3 0 .bB) v2 0)) (FA vs) (c::cs) 23 ⟨aA.plus hJ,r4,bQ,gK (G.map de),0⟩ [.code .ret] [(2,.sl e k (lA.map de))] []:=λe k cΩ=>by
  intro iw jV hS t5 ky lz;obtain rfl:jV=[]:=dw.1 lz.holds.len;refine aO.ret (γ _ _ _) rfl rfl (aO.back (γ _ _ _) rfl rfl (.inl rfl) Tryz.func116 ?_);refine π.mono (λu Jo ⟨Jn,dα,lM,Ce,bd,Gv⟩=>?_) (λ_ _ h=>h) _ (D7 Φ (a:=.sl e k (lA.map de)) rfl lz.holds lz.cx);obtain rfl:dα=[]:=dw.1 bd.len;rintro lX rfl;have E5:=cΨ.trans (ky.ext.trans lM);exact l3.ret _ [] Jn [] Jo u ⟨cΩ,rfl⟩ E5 ⟨E5.di,λid r h=>by simp at h⟩ bd Gv _ (J3 _)
 refine V.fL (γ _ _ _) rfl ?_;refine W.bI ?_;have o5:∀e∈G.map de,∀a∈e.cells,ay 0 a:=λe he a μ=>by
  obtain⟨z,_,rfl⟩:=List.mem_map.1 he;exact x7 z a μ
 by_cases Θ:G=[]
 ·subst Θ;have dβ:lA=[]:=J5.symm.eq_nil;subst dβ;(repeat (first|apply a3|apply wb|apply a4|apply wd));refine bC λΕ ζ=>?_;simp;(repeat (rw[Υ];simp[gK,JE,iW]));refine aD.c (YE FC θ) (bS.refl _) θ θ ?_;simp;(repeat (rw[Υ];simp[]));apply ζ;refine bN λΕ ζ=>?_;apply ζ;refine W.cut 0 (Nat.zero_le _) [(2,.sl true 0 [])] (Nat.zero_le _) (λid r h=>R) (by simp;exact .low θ) ?_;exact .stop (fin _ _ .nil)
 ·have kW:G.map de≠[]:=by simpa using Θ
  have ν:=cΞ J5 uX;(repeat (first|apply a3|apply wb|apply a4|apply wd));refine bC λΕ ζ=>?_;simp;(repeat (rw[Υ];simp[gK,Fh kW,ee kW]));have QJ:=XZ G.toArray G.length θ R FC tn θ cΤ;rw[ν] at QJ;have hlen:lA.length=G.length:=J5.length_eq.symm;have b3:ay 0 FC:=θ;have QK:∀e∈lA.map de,∀a∈e.cells,ay 0 a:=λe he a μ=>by
   obtain⟨z,_,rfl⟩:=List.mem_map.1 he;exact x7 z a μ
  refine ao.one QJ 1 rfl o5 QK (by simp[og,wu,b3.iU 1]) (by simp[gj]) (by simp[oh,oi,b3.ed [1]]) ?_;simp[ed,h4];(repeat (rw[Υ];simp[]));apply ζ;refine bN λΕ ζ=>?_;apply ζ;refine W.cut 0 (Nat.zero_le _) [(2,.sl false 3 (lA.map de))] (Nat.zero_le _) (λid r h=>R) (λp ψ=>?_) ?_
  ·obtain rfl:p=(2,.sl false 3 (lA.map de)):=by simpa using ψ
   refine eD.own (id:=1) (t:=110) (Nat.zero_le _) rfl (by simp[hlen]) QK
  ·exact .stop (fin _ _ (.refl _))
end
theorem J6 {P:Program} {ty:TypeId} {z:Value} (h:((P.info? ty).bind (·.zero))=some z):∃inf,P.info? ty=some inf/\inf.zero=some z:=by
 cases hi:P.info? ty with
 | none=>rw[hi] at h;cases h
 | some inf=>rw[hi] at h;exact⟨inf,rfl,h⟩
theorem dγ:((Tryz.prog.info? 173).bind (·.zero))=some (.agg #[.int .i32 0,.int .u32 0]):=by kernel_rfl
theorem dδ:((Tryz.prog.info? 179).bind (·.zero))=some (.agg #[.int .u64 0,.int .u32 0]):=by kernel_rfl
theorem dε:((Tryz.prog.info? 99).bind (·.zero))=some (.slice none 0 0):=by kernel_rfl
theorem dζ {o:Nat}:Holds fg [some (o,1)] (gK []) (χ.empty.dA o #[.slice none 0 0] 99):=by
 have ai:Holds fg [] [] χ.empty:=ys _
 have υ:fU fg [] [] #[.slice none 0 0] 1 [.sl true 0 []]:=fU.one (a:=.sl true 0 []) (v:=.slice none 0 0) (.iK none 0 λ_=>rfl) rfl;exact(zV (P:=Tryz.prog) (K:=λr G=>Holds fg [some (r,1)] (gK []) G) (E:=λ_ _=>False) ai υ 99 λr _ I _ _=>I).2 o ⟨λ_=>rfl,rfl,rfl,λ_ _=>⟨λ_=>rfl,rfl,rfl⟩⟩
section
variable {fd:Nat->Option Found} {pr:Nat->Int×Int} {F:Nat->Found} {N:Nat->Nat} {eb:aI} {lA:List Found}
theorem dη (dY:FB eb fd pr F N) (fF:pr 0=(1,0)) (dL:pr 1=(2,0)) (p2:pr 2=(2,1)) (J2:(List.range 3).filterMap fd=lA) (uX:lA.Pairwise oE):@aD oD Tryz.prog 116 [fs eb] (cX lA):=by
 refine⟨⟨_,Tryz.func116,rfl,rfl⟩,λQ mn x c rest fq eC dS vs uT sx yD l3=>?_⟩;obtain rfl:x=calm:=@Seq.cls oD x uT;obtain rfl:eC=[]:=dw.1 sx.len;rintro y ⟨eh,fR,tT,cN⟩;letI:bt:=eG;have γ:Seq (one y):=Seq.uL trivial eh fR;rw[qp (body:=yE) Tryz.func116 rfl];refine V.here (x:=one y) (m:=0) (nt:=23) (S:=fq) (B:=[]) (H:=dS) (σ:=[]) (env:=entry 0 [fs eb]) ?_ (fI.enter sx yD (Nat.le_refl _) θ) y rfl;refine V.fL γ rfl ?_;simp only[yE,Tryz.f116,Option.getD_some]
 repeat first|apply a3|apply wb|apply a4|apply wd
 refine W.cq (.stop ?_);refine V.boxed γ rfl rfl rfl rfl rfl (l:=[aS eb.ag,aQ eb.ak,bl eb.cells]) rfl rfl θ λS B H t β c1 μ ψ np dθ υ he dι JQ=>?_;obtain rfl:B=[]:=dw.1 ψ.holds.len;refine V.here (x:=one y) (m:=0) (nt:=23) (S:=S.lay β c1) (B:=[]) (σ:=[]) (env:=[(1,.ab [aS eb.ag,aQ eb.ak,bl eb.cells])]) ?_
  ⟨dι,wQ (dj.put (ψ.cx.later υ) (d:=1) (by rw[ψ.size];omega) JQ) θ,Eq.trans (Array.size_setIfInBounds ..) ψ.size,Nat.zero_le _⟩
 refine V.fL γ rfl ?_;refine ft [1] [] ?_;refine W.bI ?_
 repeat first|apply a3|apply wb|apply a4|apply wd
 refine W.cq (.stop ?_);intro c0 fc bQ t2 rI mT;obtain rfl:fc=[]:=dw.1 mT.holds.len;rintro lX rfl;obtain⟨i1,Τ,af⟩:=J6 dγ;obtain⟨i2,aZ,cA⟩:=J6 dδ;obtain⟨i3,gP,iq⟩:=J6 dε;refine cw.JV eh ⟨rfl,rfl,by simp[Frame.enter],rfl⟩ rfl rfl Τ af λm iz _=>?_;refine cw.next ?_ ?_ ?_
 ·exact .inl eh
 ·rfl
 refine cw.JV ?_ ⟨rfl,rfl,by simp[Frame.enter],rfl⟩ rfl rfl aZ cA λs rX dX=>?_
 ·exact eh
 refine cw.next ?_ ?_ ?_
 ·exact .inl eh
 ·rfl
 refine cw.JV ?_ ⟨rfl,rfl,by simp[Frame.enter],rfl⟩ rfl rfl gP iq λo wS vG=>?_
 ·exact eh
 have su:m<s:=dX m _ (upd_same ..)
 have JX:s<o:=vG s _ (upd_same ..);obtain⟨sp,b2⟩:∃sp:Spec,sp=⟨some m,wN β c0 o fd,λ_ E=>E=χ.empty,3⟩:=⟨_,rfl⟩;have FD:∃q v,c0 β q=some v:=let ⟨u,hu⟩:=dθ;⟨0,u,rI.ext.di _ _ _ hu⟩;have j8:∃q x,bQ.aL β q=some x:=let ⟨q,u,hu⟩:=FD;let ⟨p,ψ⟩:=mT.holds.di _ _ _ hu;⟨q,_,ψ⟩;have QL:β<o:=let ⟨_,_,h⟩:=j8;JC h wS;have fw:sp.aW=some m:=by rw[b2]
 have dp:sp.aN=wN β c0 o fd:=by rw[b2]
 have dZ:∀k E,sp.D k E↔E=χ.empty:=λk E=>by rw[b2]
 have gJ:sp.top=3:=by rw[b2]
 clear b2;have dκ:sp.aN [] (χ.empty.dA o #[.slice none 0 0] 99):=by
  rw[dp];refine⟨⟨λb q x hb=>?_,λb x hb=>?_,λb x hb=>(by cases hb)⟩,fg,_,dζ,rfl⟩
  ·by_cases e:b=o
   ·exact .inr (e▸QL)
   ·simp[χ.dA,e,χ.empty] at hb
  ·by_cases e:b=o
   ·exact e▸QL
   ·simp[χ.dA,e,χ.empty] at hb
 refine cw.group (y:=lX) (sp:=sp) eh fR su JX fw wS dκ ?_;obtain⟨o2,uY⟩:=aF ({lX with spec:=upd lX.spec s (some sp)}:aX);have dμ:({lX with tok:=upd lX.tok s (.par 0 0 .add),spec:=upd lX.spec s (some sp),view:=upd lX.view s none}:aX)=bx o2 s (.par 0 0 .add) none 0:=by
  rw[uY];unfold bx;simp only[tT]
 rw[dμ];have Bo:me o2 s sp:=by
  rw[uY];refine⟨eh,fR,upd_same ..,by rw[gJ];decide,λbp _=>?_⟩;have:=cN bp;show nk (lX.tok bp);cases QM:lX.tok bp with
  | nil=>trivial
  | par n p aJ=>rw[QM] at this;cases aJ<;>first|trivial|exact this.elim
  | ch k mu g=>rw[QM] at this;exact this.elim
 have J3:∀v,Calm (bx o2 s (.par 3 0 .bB) v 0):=λv=>by
  rw[uY];refine⟨eh,fR,rfl,λbp=>?_⟩;by_cases e:bp=s
  ·subst e;rw[b9];trivial
  ·rw[AU e];exact cN bp
 have qs:=Bo.seq
 have J1:=dY.qx
 have Be:Ext fq [] dS c0 [] bQ:=μ.ext.trans (he.trans rI.ext)
 have J4:dS.fresh β:=μ.ext.grow _ np;refine V.here (x:=one _) (m:=0) (nt:=23) (S:=c0) (B:=[]) (σ:=[]) (env:=env0 s m o eb []) ?_
  ⟨mT.holds,wQ (dj.put (dj.put (dj.put mT.cx (d:=3) (by rw[mT.size];omega) (.z (ptr m 0))) (d:=4) (by rw[Array.size_setIfInBounds,mT.size];omega) (.z (ptr s 0))) (d:=5) (by rw[Array.size_setIfInBounds,Array.size_setIfInBounds,mT.size];omega) (.z (ptr o 0))) θ,
   Eq.trans (Array.size_setIfInBounds ..) (Eq.trans (Array.size_setIfInBounds ..) (Eq.trans (Array.size_setIfInBounds ..) mT.size)),Nat.zero_le _⟩ _ rfl
 have w1:IntKind.i64.wrap 1=1:=bD
 have w2:IntKind.i64.wrap 2=2:=bD
 have w3:IntKind.i64.wrap 3=3:=bD;refine V.fL (qs _ _ _) rfl ?_;refine W.bI ?_;(repeat (first|apply a3|apply wb|apply a4|apply wd|refine al rfl ?_|refine aj rfl ?_|(refine bC λΕ ζ=>?_;simp;(repeat (rw[Υ];simp[]));apply ζ)));refine .loop ?_;(repeat (first|apply a3|apply wb|apply a4|apply wd|refine al rfl ?_|refine aj rfl ?_|(refine bC λΕ ζ=>?_;simp;(repeat (rw[Υ];simp[]));apply ζ)));refine dG (A:=[6]) Φ λΕ ζ=>bT ?_;apply ζ;refine W.fix (id:=0) (σ':=[]) (Nat.zero_le _) rfl θ θ rfl ((6,.ab [J 0])::env0 s m o eb [(8,J 0)]) θ ?_;(repeat (first|apply a3|apply wb|apply a4|apply wd|refine al rfl ?_|refine aj rfl ?_|(refine bC λΕ ζ=>?_;simp;(repeat (rw[Υ];simp[]));apply ζ)));refine .loop ?_;(repeat (first|apply a3|apply wb|apply a4|apply wd|refine al rfl ?_|refine aj rfl ?_|(refine bC λΕ ζ=>?_;simp;(repeat (rw[Υ];simp[]));apply ζ)));refine W.exit rfl ?_;(repeat (first|apply a3|apply wb|apply a4|apply wd|refine al rfl ?_|refine aj rfl ?_|(refine bC λΕ ζ=>?_;simp;(repeat (rw[Υ];simp[w1,w2,w3]));apply ζ)));refine .inLoop ?_;(repeat (first|apply a3|apply wb|apply a4|apply wd|refine al rfl ?_|refine aj rfl ?_|(refine bC λΕ ζ=>?_;simp;(repeat (rw[Υ];simp[]));apply ζ)));refine dG (A:=[6]) Φ λΕ ζ=>bT ?_;apply ζ;refine W.fix (id:=0) (σ':=[]) (Nat.zero_le _) rfl θ θ rfl ((6,.ab [J 1])::env0 s m o eb [(8,J 1)]) θ ?_;(repeat (first|apply a3|apply wb|apply a4|apply wd|refine al rfl ?_|refine aj rfl ?_|(refine bC λΕ ζ=>?_;simp;(repeat (rw[Υ];simp[]));apply ζ)));refine .loop ?_;(repeat (first|apply a3|apply wb|apply a4|apply wd|refine al rfl ?_|refine aj rfl ?_|(refine bC λΕ ζ=>?_;simp;(repeat (rw[Υ];simp[]));apply ζ)));refine dG (A:=[7]) Φ λΕ ζ=>bT ?_;apply ζ;refine W.fix (id:=0) (σ':=[]) (Nat.zero_le _) rfl θ θ rfl (yF s m o eb 1 0 [(8,J 1),(11,J 1),(12,J 0)]) θ ?_;refine W.stop (JY fF Bo fw dp (λk=>(dZ k _).2 rfl) gJ bD dY FD j8 θ ?_);refine V.fL (qs _ _ _) rfl ?_;(repeat (first|apply a3|apply wb|apply a4|apply wd|refine al rfl ?_|refine aj rfl ?_|(refine bC λΕ ζ=>?_;simp;(repeat (rw[Υ];simp[w1,w2,w3]));apply ζ)));refine .inLoop ?_;(repeat (first|apply a3|apply wb|apply a4|apply wd|refine al rfl ?_|refine aj rfl ?_|(refine bC λΕ ζ=>?_;simp;(repeat (rw[Υ];simp[]));apply ζ)));refine W.exit rfl ?_;(repeat (first|apply a3|apply wb|apply a4|apply wd|refine al rfl ?_|refine aj rfl ?_|(refine bC λΕ ζ=>?_;simp;(repeat (rw[Υ];simp[w1,w2,w3]));apply ζ)));refine .inLoop ?_;(repeat (first|apply a3|apply wb|apply a4|apply wd|refine al rfl ?_|refine aj rfl ?_|(refine bC λΕ ζ=>?_;simp;(repeat (rw[Υ];simp[]));apply ζ)));refine dG (A:=[6]) Φ λΕ ζ=>bT ?_;apply ζ;refine W.fix (id:=0) (σ':=[]) (Nat.zero_le _) rfl θ θ rfl ((6,.ab [J 2])::env0 s m o eb [(8,J 2)]) θ ?_;(repeat (first|apply a3|apply wb|apply a4|apply wd|refine al rfl ?_|refine aj rfl ?_|(refine bC λΕ ζ=>?_;simp;(repeat (rw[Υ];simp[]));apply ζ)));refine .loop ?_;(repeat (first|apply a3|apply wb|apply a4|apply wd|refine al rfl ?_|refine aj rfl ?_|(refine bC λΕ ζ=>?_;simp;(repeat (rw[Υ];simp[]));apply ζ)));refine dG (A:=[7]) Φ λΕ ζ=>bT ?_;apply ζ;refine W.fix (id:=0) (σ':=[]) (Nat.zero_le _) rfl θ θ rfl (yF s m o eb 2 0 [(8,J 2),(11,J 2),(12,J 0)]) θ ?_;refine W.stop (JY dL Bo fw dp (λk=>(dZ k _).2 rfl) gJ bD dY FD j8 θ ?_);refine V.fL (qs _ _ _) rfl ?_;(repeat (first|apply a3|apply wb|apply a4|apply wd|refine al rfl ?_|refine aj rfl ?_|(refine bC λΕ ζ=>?_;simp;(repeat (rw[Υ];simp[w1,w2,w3]));apply ζ)));refine .inLoop ?_;(repeat (first|apply a3|apply wb|apply a4|apply wd|refine al rfl ?_|refine aj rfl ?_|(refine bC λΕ ζ=>?_;simp;(repeat (rw[Υ];simp[]));apply ζ)));refine dG (A:=[7]) Φ λΕ ζ=>bT ?_;apply ζ;refine W.fix (id:=0) (σ':=[]) (Nat.zero_le _) rfl θ θ rfl (yF s m o eb 2 1 [(8,J 2),(11,J 2),(12,J 1)]) θ ?_;refine W.stop (JY p2 Bo fw dp (λk=>(dZ k _).2 rfl) gJ bD dY FD j8 θ ?_);refine V.fL (qs _ _ _) rfl ?_;(repeat (first|apply a3|apply wb|apply a4|apply wd|refine al rfl ?_|refine aj rfl ?_|(refine bC λΕ ζ=>?_;simp;(repeat (rw[Υ];simp[w1,w2,w3]));apply ζ)));refine .inLoop ?_;(repeat (first|apply a3|apply wb|apply a4|apply wd|refine al rfl ?_|refine aj rfl ?_|(refine bC λΕ ζ=>?_;simp;(repeat (rw[Υ];simp[]));apply ζ)));refine W.exit rfl ?_;(repeat (first|apply a3|apply wb|apply a4|apply wd|refine al rfl ?_|refine aj rfl ?_|(refine bC λΕ ζ=>?_;simp;(repeat (rw[Υ];simp[w1,w2,w3]));apply ζ)));refine .inLoop ?_;(repeat (first|apply a3|apply wb|apply a4|apply wd|refine al rfl ?_|refine aj rfl ?_|(refine bC λΕ ζ=>?_;simp;(repeat (rw[Υ];simp[]));apply ζ)));refine W.exit rfl ?_;refine W.forget (env0 s m o eb []) θ ?_;refine W.stop ?_;exact cΥ Bo fw dp (λk E=>(dZ k E).1) J1 J2 uX J3 l3 Be J4
end
end Go.TL
namespace Go.TL
open Go.Proofs
variable [bt]
def aI.hK (s:aI) (n:Int):Bool:=decide (n< -1)||decide ((s.ag.length:Int)<=n)
def oF (s:aI) (pF pG:List Int) (cQ:Int):Int×Int:=
 if s.err≠0 then(0,s.err) else
 match pF,pG with
 | [i0,i1],[l0,l1]=>if kl i0=false\/kl i1=false\/s.hK l0=true\/s.hK l1=true\/cQ<0\/(s.ak.length:Int)<=cQ then(0,3) else if i0<=i1 then(0,5) else(s.dU (i0,i1) (l0,l1) cQ.toNat,0)
 | _,_=>(0,8)
theorem dν (s:aI) (n:Int):aD Tryz.prog 92 [J n,.ab [aS s.ag,aQ s.ak,bl s.cells]] (bm (s.hK n)):=by
 refine ao.body Φ Tryz.func92 rfl rfl Tryz.ntmps92 rfl rfl θ ?_;by_cases h:n< -1
 ·refine aR h ?_;refine W.rt ?_;exact .of (by simp[aI.hK,h])
 ·refine aR h ?_;refine W.rt ?_;exact .of (by simp[aI.hK,h])
abbrev dξ (p:Int×Int):η:=.bw [J p.1,J p.2]
theorem J7 (s:aI) (ν:s.small) (pF pG:List Int) (cQ:Int):aD Tryz.prog 34 [fs s,a2 J 1 pF,a2 J 1 pG,J cQ] (dξ (oF s pF pG cQ)):=by
 refine ao.body Φ Tryz.func34 rfl rfl Tryz.ntmps34 rfl rfl θ ?_;refine Ζ ?_;refine bN λΕ ζ=>?_;refine aD.d (IH s ν) (bT ?_);apply ζ;refine Ζ ?_;by_cases db:s.err=0
 case neg=>
  refine al (by simp[db]) ?_;refine Ζ ?_;refine W.rt ?_;exact .of (by rw[show oF s pF pG cQ=(0,s.err) by unfold oF;rw[if_pos db]];rfl)
 refine aj (by simp[db]) ?_;refine Ζ ?_;have hv:oF s pF pG cQ=match (generalizing:=false) pF,pG with
   | [i0,i1],[l0,l1]=>if kl i0=false\/kl i1=false\/s.hK l0=true\/s.hK l1=true\/cQ<0\/(s.ak.length:Int)<=cQ then(0,3) else if i0<=i1 then(0,5) else(s.dU (i0,i1) (l0,l1) cQ.toNat,0)
   | _,_=>(0,8):=by unfold oF;rw[if_neg (by simpa using db)]
 by_cases bJ:(pF.length:Int)=2
 case neg=>
  have e:oF s pF pG cQ=(0,8):=by
   rw[hv];split
   ·simp at bJ
   ·rfl
  refine h5 bJ λΕ ζ=>?_;apply ζ;refine al rfl ?_;refine Ζ ?_;refine W.rt ?_;exact .of (by rw[e];rfl)
 by_cases c8:(pG.length:Int)=2
 case neg=>
  have e:oF s pF pG cQ=(0,8):=by
   rw[hv];split
   ·simp at c8
   ·rfl
  refine h5 (Μ bJ c8) λΕ ζ=>?_;apply ζ;refine al rfl ?_;refine Ζ ?_;refine W.rt ?_;exact .of (by rw[e];rfl)
 obtain⟨i0,i1,rfl⟩:∃a b,pF=[a,b]:=by
  match pF,bJ with
  | [a,b],_=>exact⟨a,b,rfl⟩
  | [],h=>simp at h
  | [_],h=>simp at h
  | _::_::_::_,h=>simp at h;omega
 obtain⟨l0,l1,rfl⟩:∃a b,pG=[a,b]:=by
  match pG,c8 with
  | [a,b],_=>exact⟨a,b,rfl⟩
  | [],h=>simp at h
  | [_],h=>simp at h
  | _::_::_::_,h=>simp at h;omega
 simp only at hv;refine bN λΕ ζ=>?_;apply ζ;refine aj rfl ?_
 repeat apply ar
 have f3:(kl i0=false\/kl i1=false\/s.hK l0=true\/s.hK l1=true\/cQ<0\/(s.ak.length:Int)<=cQ)->oF s [i0,i1] [l0,l1] cQ=(0,3):=λh=>by rw[hv];exact if_pos h
 have dο:([l0,l1].any s.hK)=(s.hK l0||s.hK l1):=θ
 have call3:aD Tryz.prog 94 [a2 J 1 [l0,l1],.fn (.func 92) [] [.ab [aS s.ag,aQ s.ak,bl s.cells]]] (bm (s.hK l0||s.hK l1)):=by
  rw[<-dο];exact X3 [l0,l1] _ s.hK θ (by simp[l4]) (λx _=>λ_=>(dν s x).cc (by simp;exact bS.refl _) θ θ ⟨rfl,rfl⟩)
 cases er:kl i0
 case false=>
  have a0:=f3 (.inl er);refine bN λΕ ζ=>?_;refine aD.d (pg i0) (gQ er ?_);apply ζ;refine al rfl ?_;refine Ζ ?_;refine W.rt ?_;exact .of (by rw[a0];rfl)
 cases c1:kl i1
 case false=>
  have a0:=f3 (.inr (.inl c1));refine bN λΕ ζ=>?_;refine aD.d (pg i0) (gQ er ?_);refine aD.d (pg i1) (gQ c1 ?_);apply ζ;refine al rfl ?_;refine Ζ ?_;refine W.rt ?_;exact .of (by rw[a0];rfl)
 cases c2:s.hK l0||s.hK l1
 case true=>
  have a0:=f3 (.inr (.inr (by rcases Bool.or_eq_true _ _ |>.mp c2 with h|h<;>simp[h])));refine bN λΕ ζ=>?_;refine aD.d (pg i0) (gQ er ?_);refine aD.d (pg i1) (gQ c1 ?_);refine aD.c call3 (bS.refl _) (by simp[l4]) θ ?_;simp[c2];(repeat (rw[Υ];simp[c2]));apply ζ;refine al rfl ?_;refine Ζ ?_;refine W.rt ?_;exact .of (by rw[a0];rfl)
 by_cases c3:cQ<0
 ·have a0:=f3 (.inr (.inr (.inr (.inr (.inl c3)))));refine bN λΕ ζ=>?_;refine aD.d (pg i0) (gQ er ?_);refine aD.d (pg i1) (gQ c1 ?_);refine aD.c call3 (bS.refl _) (by simp[l4]) θ ?_;simp[c2,c3];(repeat (rw[Υ];simp[c2,c3]));apply ζ;refine al rfl ?_;refine Ζ ?_;refine W.rt ?_;exact .of (by rw[a0];rfl)
 by_cases c4:(s.ak.length:Int)<=cQ
 ·have a0:=f3 (.inr (.inr (.inr (.inr (.inr c4)))));refine bN λΕ ζ=>?_;refine aD.d (pg i0) (gQ er ?_);refine aD.d (pg i1) (gQ c1 ?_);refine aD.c call3 (bS.refl _) (by simp[l4]) θ ?_;simp[c2,c3,c4];(repeat (rw[Υ];simp[c2,c3,c4]));apply ζ;refine al rfl ?_;refine Ζ ?_;refine W.rt ?_;exact .of (by rw[a0];rfl)
 have FE:s.hK l0=false/\s.hK l1=false:=by simpa using c2
 rw[if_neg (by rw[er,c1,FE.1,FE.2];simp;omega)] at hv;refine bN λΕ ζ=>?_;refine aD.d (pg i0) (gQ er ?_);refine aD.d (pg i1) (gQ c1 ?_);refine aD.c call3 (bS.refl _) (by simp[l4]) θ ?_;simp[c2,c3,c4];(repeat (rw[Υ];simp[c2,c3,c4]));apply ζ;refine aj rfl ?_
 repeat apply ar
 refine uq ?_;by_cases nx:i0<=i1
 ·rw[if_pos nx] at hv;refine al (by simp[nx]) ?_;refine Ζ ?_;refine W.rt ?_;exact .of (by rw[hv];rfl)
 ·rw[if_neg nx] at hv;refine aj (by simp[nx]) ?_;obtain⟨n,rfl⟩:∃n:Nat,cQ=n:=⟨cQ.toNat,R⟩;have Η:n<s.ak.length:=R;have cV:l0<s.ag.length:=by have:=FE.1;simp[aI.hK] at this;omega
  have Τ:l1<s.ag.length:=by have:=FE.2;simp[aI.hK] at this;omega
  repeat apply ar
  refine W.draw (A:=[]) Φ mixed λΕ ζ=>rG ?_;refine gv (aD.p (As s ν (i0,i1) (l0,l1) n Η cV Τ) (bS.refl _) θ θ) ?_;simp;(repeat (rw[dN];simp[]));try rw[dM]
  refine fy (ζ _ _ ?_);refine Ζ ?_;refine W.rt ?_;exact .of (by rw[hv];rfl)
end Go.TL
namespace Go.TL
open Go.Proofs
def cd:Nat->Int×Int
 | 0=>(1,0)
 | 1=>(2,0)
 | _=>(2,1)
def dW (s:aI) (p:Int×Int):Found:=⟨p.1,p.2,(List.range s.cells.length).map (ev s p)⟩
def gS (s:aI) (k:Nat):Option Found:=if k<3/\0<(dW s (cd k)).many (-1) then some (dW s (cd k)) else none
def en (s:aI):List Found:=(List.range 3).filterMap (gS s)
structure J8 (N:Nat) (s:aI):Prop where
 small:s.small
 ag:s.ag.length<2 ^ 20
 lit:∀c∈s.cells,∀x∈c,0<=x.cQ/\x.cQ<s.ak.length
 reads:∀k,k<3->∀c,c<s.cells.length->(ev s (cd k) c).length<=N
 many:∀k,k<3->∀i,i<=s.cells.length->gF (dW s (cd k)).cells (-1) i<2 ^ 62
abbrev QN (s:aI):Prop:=J8 12 s
theorem QO {N:Nat} (cl:N<2 ^ 20) (ff:∀c:bt,@EI c N) {s:aI} (h:J8 N s):@s7 oD s (en s):=λ_=>by
 refine dη (fd:=gS s) (pr:=cd) (F:=λk=>dW s (cd k)) (N:=λk=>(dW s (cd k)).many (-1)) ⟨λk ς c=>?_,λk ς c=>?_,λk=>rfl⟩ rfl rfl rfl rfl ?_
 ·exact @YP c s h.small h.ag (cd k) h.lit N cl (ff c) (h.reads k ς)
 ·have υ:(dW s (cd k)).cells.length=s.cells.length:=by simp[dW]
  have:=h.small.2.2.1;exact @EA c (dW s (cd k)) (-1) (by rw[υ];omega) (λi hi=>h.many k ς i (by rw[<-υ];exact hi))
 ·have e:(List.range 3).filterMap (gS s)=(gS s 0).toList++(gS s 1).toList++(gS s 2).toList:=by
   show [0,1,2].filterMap (gS s)=_;simp only[List.filterMap_cons,List.filterMap_nil];cases gS s 0<;>cases gS s 1<;>cases gS s 2<;>rfl
  show((List.range 3).filterMap (gS s)).Pairwise oE;rw[e];have m:∀k x,x∈(gS s k).toList->x=dW s (cd k):=λk x γ=>by
   unfold gS at γ;split at γ
   ·simpa using γ
   ·simp at γ
  have one:∀k,((gS s k).toList).Pairwise oE:=λk=>by cases gS s k<;>simp
  rw[List.pairwise_append,List.pairwise_append];refine⟨⟨one 0,one 1,λa μ b hb=>?_⟩,one 2,λa μ b hb=>?_⟩
  ·rw[m 0 a μ,m 1 b hb];exact .inl (show(cd 0).1<(cd 1).1 by decide)
  ·rw[m 2 b hb];rcases List.mem_append.1 μ with μ|μ
   ·rw[m 0 a μ];exact .inl (show(cd 0).1<(cd 2).1 by decide)
   ·rw[m 1 a μ];exact .inr ⟨rfl,show(cd 1).2<(cd 2).2 by decide⟩
theorem dπ {s:aI} (h:QN s):@s7 oD s (en s):=QO bD (λc=>@YK c) h
theorem QP:QN fu:=by
 refine⟨by unfold aI.small;decide,bD,bD,?_,?_⟩
 ·have:∀k<3,∀c<2,(ev fu (cd k) c).length<=12:=by decide +kernel
  exact this
 ·have:∀k<3,∀i<3,gF (dW fu (cd k)).cells (-1) i<2 ^ 62:=by decide +kernel
  exact λk ς i hi=>this k ς i (by have:i<=2:=hi;omega)
theorem QQ:fu.err=0:=by decide +kernel
theorem dρ:py fu (en fu)=(1,1,2,0):=by decide +kernel
theorem dς:uV fu (en fu) 1 true=([1],0):=by decide +kernel
theorem dτ:oF fu [1,0] [1,4] 1=(12,0):=by decide +kernel
theorem dυ:lj (en fu)=[[1,0],[2,0]]:=by decide +kernel
def yG (b:ByteArray):Int:=(b.data[0]!).toNat
theorem QR {l m:List Int} (ψ:l.Perm m) (hm:m.Pairwise λa b=>a<=b):pv l=m:=by
 have IM:∀a b c:Int,decide (a<=b)=true->decide (b<=c)=true->decide (a<=c)=true:=λa b c h k=>by simp at *;omega
 have IN:∀a b:Int,(decide (a<=b)||decide (b<=a))=true:=λa b=>by simp;omega
 have s1:=List.pairwise_mergeSort (le:=λx y:Int=>decide (x<=y)) IM IN l
 have dL:(l.mergeSort λx y:Int=>decide (x<=y)).Perm m:=(List.mergeSort_perm l _).trans ψ;exact List.Perm.eq_of_pairwise (le:=λa b:Int=>a<=b) (λa b _ _ h k=>R) (s1.imp λ{a b} h=>by simpa using h) hm dL
theorem QS:kq (en fu) 0 true=[4,4]:=by decide +kernel
theorem QT:kq (en fu) 1 true=[1,2,1,2]:=by decide +kernel
theorem dφ:(spell [111,63]).toList=[111,63]:=by decide +kernel
theorem dχ:(fN fu true (en fu)).2.2=0:=by decide +kernel
theorem dψ {l:List (List (Int×Int))} {g0:Int} (h:∀j:Nat,((l[j]?).getD []).length<=2):∀i,gF l g0 i<=2 ^ i:=by
 intro i
 induction i with
 | zero=>simp[gF]
 | succ i Β=>
  rw[@uu ⟨λ_=>True⟩,Nat.pow_succ];refine Nat.mul_le_mul Β ?_;split
  ·omega
  ·exact h i
theorem dω:∀f∈en fu,f.cells.length=2/\∀c∈f.cells,c.length<=2:=by decide +kernel
theorem QU:AI fu (en fu):=by
 refine⟨by decide +kernel,by decide +kernel,?_,by decide +kernel⟩;intro f Χ;obtain⟨I,U⟩:=dω f Χ;refine⟨by rw[I];decide,λg0 i hi=>Nat.lt_of_le_of_lt (dψ (λj=>?_) i) ?_⟩
 ·cases δ:f.cells[j]? with
  | none=>simp
  | some c=>simpa using U c (cr δ)
 ·have:2 ^ i<=2 ^ 2:=Nat.pow_le_pow_right R R;omega
theorem QV:qw (en fu) 0 true=[4]:=by
 unfold qw;rw[QS,QR (m:=[4,4]) (.refl _) bD];decide
theorem QW:qw (en fu) 1 true=[1,2]:=by
 unfold qw;rw[QT,QR (m:=[1,1,2,2]) bD bD];decide
theorem dΑ:OS fu (en fu) true yG 12:=by
 refine⟨by decide +kernel,by decide +kernel,λc ε=>?_,λg Ρ=>?_⟩
 ·have ε:c<2:=ε
  match c,ε with
  | 0,_=>rw[QS,QV];decide
  | 1,_=>rw[QT,QW];decide
 ·simp only[fu,List.mem_cons,List.not_mem_nil,or_false] at Ρ;rcases Ρ with rfl|rfl|rfl|rfl|rfl<;>rfl
theorem dΒ:pw fu (en fu) true yG 2=[111,63]:=by
 show [0,1].map (uE fu (en fu) true yG)=_;simp only[List.map_cons,List.map_nil,uE,QV,QW];decide +kernel
theorem dΓ:uF fu (en fu) true yG=(spell [111,63],0):=by
 unfold uF;rw[if_pos dχ];show(spell (pw fu (en fu) true yG 2),(0:Int))=_;rw[dΒ]
theorem J9:@aD oD Tryz.prog 21 [] (bm true):=by
 letI:bt:=oD;have ν:=QP.small;have Ι:=dπ QP;refine ao.body Φ Tryz.func21 rfl rfl Tryz.ntmps21 rfl rfl θ ?_;refine Ζ ?_;refine bN λΕ ζ=>?_;refine aD.d (Bl) (bT ?_);refine aD.c (J7 fu ν [1,0] [1,4] 1) (.cons (.refl _) (.cons .ex (.cons .ex (.cons (.refl _) .nil)))) θ θ ?_;rw[dτ];simp;(repeat (rw[Υ];simp[]));apply ζ;refine bN λΕ ζ=>?_;refine aD.d (Bl) (bT ?_);refine aD.c (Yo fu ν _ Ι (by decide +kernel)) (bS.refl _) θ θ ?_;rw[if_pos QQ,QQ,dυ];simp;(repeat (rw[Υ];simp[]));apply ζ;refine bN λΕ ζ=>?_;refine aD.d (Bl) (bT ?_);refine aD.c (Yv fu ν _ Ι true yG 12 bD Yx dΑ) (bS.refl _) θ θ ?_;rw[dΓ];simp;(repeat (rw[Υ];simp[]));apply ζ;refine bN λΕ ζ=>?_;refine aD.d (Bl) (bT ?_);refine aD.c (O6 fu ν _ Ι QU) (bS.refl _) θ θ ?_;rw[dρ];simp;(repeat (rw[Υ];simp[]));apply ζ;refine bN λΕ ζ=>?_;refine aD.d (Bl) (bT ?_);refine aD.c (bΧ fu ν _ Ι QU 1 true bD) (bS.refl _) θ θ ?_;rw[dς];simp;(repeat (rw[Υ];simp[]));apply ζ;refine bN λΕ ζ=>?_;refine aD.c (Yj 9) (bS.refl _) θ θ ?_;have eZ:valid 9=true:=by decide +kernel
 have eB:Ew 9=6:=by decide +kernel
 rw[eZ,eB];simp;(repeat (rw[Υ];simp[]));apply ζ;refine h5 @dφ λΕ ζ=>?_;refine aD.c (XK [[1,0],[2,0]] [[1,0],[2,0]] bD bD) (.cons (.refl _) (.cons ?_ .nil)) θ θ ?_
 ·exact .map (l:=[[1,0],[2,0]]) (f:=λl:List Int=>.sl true 1 (l.map J)) (g:=a2 J 1) λx _=>.one .ex rfl rfl
 simp;(repeat (rw[Υ];simp[]));refine aD.c (Ou [1] [1] bD) (.cons (.refl _) (.cons .ex .nil)) θ θ ?_;simp;(repeat (rw[Υ];simp[]));apply ζ;refine W.rt ?_;exact .of θ
end Go.TL
namespace Go.TL
open Go.Proofs
variable [bt]
structure cB where
 bg:List Int
 state:Int
abbrev QX (n:Int):η:=.z (.int .u64 n)
abbrev dΔ (d:cB):η:=.aV [a2 J 1 d.bg,QX d.state]
abbrev b1 (d:cB):Row:=.cells 93 2 [dΔ d]
def Bp (d:cB):Int:=IntKind.u64.wrap (d.bg.headD 0)
def yH (d:cB):Int:=IntKind.u64.wrap (IntKind.u64.wrap (IntKind.u64.wrap (d.state+(if d.bg=[] then 0 else Bp d))+6364136223846793005)*15074714826142052245)
def tp (d:cB):Int:=zS .u64 (yH d) ((yH d).fdiv (2 ^ min 29 IntKind.u64.bits))
def r7 (d:cB):Int:=(IntKind.u64.wrap (zS .u64 (tp d) ((tp d).fdiv (2 ^ min 33 IntKind.u64.bits))*18397679294719823053)).fdiv (2 ^ min 32 IntKind.u64.bits)
def cB.next (d:cB):cB:=⟨d.bg.tail,tp d⟩
theorem dΕ (d:cB) (hd:d.bg.length<2 ^ 63):ao Tryz.prog 73 [.an 0 1 0 0] [b1 d] (λr s=>r=QX (r7 d)/\s=[b1 d.next]) (λ_ _=>False):=by
 obtain⟨l,q⟩:=d;refine ao.body Φ Tryz.func73 rfl rfl Tryz.ntmps73 rfl rfl θ ?_;refine Ζ ?_;cases l with
 | nil=>
  refine aj θ ?_;refine Ζ ?_;refine uq ?_
  repeat apply ar
  refine uq ?_;refine Ζ ?_;exact W.ret ⟨_,rfl,by simp[r7,tp,yH,Bp],by simp[cB.next,tp,yH,Bp]⟩
 | cons a l=>
  refine al θ ?_;refine Ζ ?_;have k':List.take l.length (l.map J)=l.map J:=List.take_of_length_le θ;refine h5 k' λΕ ζ=>?_;refine⟨R,?_⟩;apply ζ;refine Ζ ?_;refine uq ?_
  repeat apply ar
  refine uq ?_;refine Ζ ?_;exact W.ret ⟨_,rfl,by simp[r7,tp,yH,Bp],by simp[cB.next,tp,yH,Bp]⟩
def iA (d:cB) (n:Int):Int:=if n<=0 then 0 else IntKind.i64.wrap ((IntKind.u64.wrap (r7 d*IntKind.u64.wrap (IntKind.i64.wrap (n+1)))).fdiv (2 ^ min 32 IntKind.u64.bits))
def cB.after (d:cB) (n:Int):cB:=if n<=0 then d else d.next
theorem pH (d:cB):iR (b1 d):=by simp[iR,η.cells]
theorem J' (d:cB) (hd:d.bg.length<2 ^ 63) (n:Int):ao Tryz.prog 24 [.an 0 1 0 0,J n] [b1 d] (λr s=>r=J (iA d n)/\s=[b1 (d.after n)]) (λ_ _=>False):=by
 refine ao.body Φ Tryz.func24 rfl rfl Tryz.ntmps24 rfl rfl θ ?_;refine Ζ ?_;by_cases h:n<=0
 ·refine al (by simp[h]) ?_;refine Ζ ?_;exact W.ret ⟨_,rfl,by simp[iA,h],by simp[cB.after,h]⟩
 ·refine aj (by simp[h]) ?_;refine Ζ ?_;refine bN λΕ ζ=>?_;refine ao.one (as0:=[.an 0 1 0 0]) (dΕ d hd) 0 rfl (pH d) (pH d.next) (by simp[gj,pe]) ((ay.z _).iU 1) rfl ?_;simp[oi];(repeat (rw[Υ];simp[]));apply ζ;exact W.ret ⟨_,rfl,by simp[iA,h],by simp[cB.after,h]⟩
def nO (d:cB) (a b:Int):Int:=IntKind.i64.wrap (a+iA d (IntKind.i64.wrap (b-a)))
theorem dΖ (d:cB) (hd:d.bg.length<2 ^ 63) (a b:Int):ao Tryz.prog 38 [.an 0 1 0 0,J a,J b] [b1 d] (λr s=>r=J (nO d a b)/\s=[b1 (d.after (IntKind.i64.wrap (b-a)))]) (λ_ _=>False):=by
 refine ao.body Φ Tryz.func38 rfl rfl Tryz.ntmps38 rfl rfl θ ?_;refine Ζ ?_;refine bN λΕ ζ=>?_;refine ao.one (as0:=[.an 0 1 0 0,J (IntKind.i64.wrap (b-a))]) (J' d hd _) 0 rfl (pH d) (pH _) (by simp[gj,pe]) ((ay.z _).iU 1) rfl ?_;simp[oi];(repeat (rw[Υ];simp[]));apply ζ;exact W.ret ⟨_,rfl,rfl,rfl⟩
end Go.TL
namespace Go.TL
open Go.Proofs
theorem dΗ (x:Int):0<=IntKind.u64.wrap x/\IntKind.u64.wrap x<18446744073709551616:=by
 unfold IntKind.wrap;simp[IntKind.bits,IntKind.signed];omega
theorem u64_in (x:Int) (h:0<=x) (U:x<18446744073709551616):IntKind.u64.wrap x=x:=by
 unfold IntKind.wrap;simp[IntKind.bits,IntKind.signed];omega
theorem QY:(2:Int) ^ min 32 IntKind.u64.bits=4294967296:=bD
theorem dΘ (d:cB):0<=r7 d/\r7 d<4294967296:=by
 unfold r7;rw[QY];generalize γ:IntKind.u64.wrap _=x;have:=dΗ (zS .u64 (tp d) ((tp d).fdiv (2 ^ min 33 IntKind.u64.bits))*18397679294719823053);rw[γ] at this;rw[Int.fdiv_eq_ediv_of_nonneg _ bD];omega
theorem uZ (d:cB) (n:Int) (ai:0<=n) (Η:n<2147483647):0<=iA d n/\iA d n<=n:=by
 unfold iA;split
 ·omega
 ·obtain⟨r0,r1⟩:=dΘ d;rw[QY,IntWalk.i64_in (n+1) R,u64_in (n+1) R R];have hm:r7 d*(n+1)<=4294967295*(n+1):=Int.mul_le_mul_of_nonneg_right R R;have ψ:0<=r7 d*(n+1):=Int.mul_nonneg r0 R;generalize r7 d*(n+1)=y at hm ψ;rw[u64_in y ψ R,Int.fdiv_eq_ediv_of_nonneg _ bD,IntWalk.i64_in _ R];omega
end Go.TL
namespace Go.TL
open Go.Proofs
variable [bt]
def tq (d:cB) (l:List Int):Nat:=(iA d ((l.length:Int)-1)).toNat
theorem dΙ (d:cB) (hd:d.bg.length<2 ^ 63) (l:List Int) (ai:0<l.length) (υ:l.length<1000000):ao Tryz.prog 61 [.an 0 1 0 0,a2 J 1 l] [b1 d] (λr s=>r=J (l.getD (tq d l) 0)/\s=[b1 (d.after ((l.length:Int)-1))]) (λ_ _=>False):=by
 refine ao.body Φ Tryz.func61 rfl rfl Tryz.ntmps61 rfl rfl θ ?_;have hw:IntKind.i64.wrap ((l.length:Int)-1)=(l.length:Int)-1:=IntWalk.i64_in _ R;obtain⟨t0,t1⟩:=uZ d ((l.length:Int)-1) R R;obtain⟨k,ς⟩:∃k:Nat,iA d ((l.length:Int)-1)=k:=⟨(iA d ((l.length:Int)-1)).toNat,R⟩;have jd:k<l.length:=R;have dK:tq d l=k:=by unfold tq;rw[ς];rfl
 refine Ζ ?_;refine h5 hw λΕ ζ=>?_;refine ao.one (as0:=[.an 0 1 0 0,J ((l.length:Int)-1)]) (J' d hd _) 0 rfl (pH d) (pH _) (by simp[gj,pe]) ((ay.z _).iU 1) rfl ?_;rw[ς];simp[oi,jd];(repeat (rw[Υ];simp[jd]));apply ζ;exact W.ret ⟨_,rfl,by rw[dK];simp[List.getD_eq_getElem?_getD,jd],rfl⟩
end Go.TL
