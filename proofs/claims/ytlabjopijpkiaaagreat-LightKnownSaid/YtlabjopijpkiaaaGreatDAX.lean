import Derived.Test.YtlabjopijpkiaaaGreatDAW
set_option maxHeartbeats 16000000
set_option maxRecDepth 20000
set_option linter.unusedSectionVars false
set_option linter.unusedSimpArgs false
set_option linter.unusedVariables false
namespace Go.TL
open Go.Conc Go.Proofs
open Go.ConcN (sumTo upd sumTo_upd upd_ne upd_same sumTo_congr le_sumTo)
noncomputable def Aw:Code:=Tryz.f146.body.getD .skip
noncomputable def nf:Code:=dI [1,0,0] Aw
noncomputable def vK:List Item:=[.inLoop nf,.inBlock 0]
theorem Og:iA .u64 0 2147483648=0:=a0
theorem Oh:iA .u64 0 2147483647=0:=a0
theorem D8:IntKind.u32.wrap 0=0:=a0
theorem Oi:IntKind.i32.wrap 0=0:=a0
section
variable {Q:Value->Prop} {mn:Bool} {x:aW} {c:Frame} {rest:List Frame} {S:aD} {B:aP} {σ:List Row} {H:π} {s n p:Nat} {sp:Spec} {v:Option (Nat×aN)} {t:Tok}
abbrev tS (Q:Value->Prop) (mn:Bool) (x:aW) (c:Frame) (rest:List Frame) (S:aD) (H:π) (s:Nat) (t:Tok) (v:Option (Nat×aN)) (d:Nat) (K:List Item) (env:ab):Prop:=
 V Tryz.prog Q mn (one (bw x s t v d)) (Frame.enter Tryz.prog 146 #[ptr s 0] .normal) (c::rest) 84 ⟨S,[],H,[],0⟩ K env []
def rm (Q:Value->Prop) (mn:Bool) (x:aW) (c:Frame) (rest:List Frame) (S:aD) (H:π) (s n:Nat) (sp:Spec):Prop:=
 ∀(az:aD) (H':π) (gb fx:List Nat) (gH eK:π),Ext S [] H az [] H'->Holds az [] [] H'->gb.Perm (List.range n)->lu sp.D gb gH->(sp.aU≠none->fx.Perm (List.range n)/\sp.bb fx eK)->(sp.aU=none->eK=π.empty)->Apart H' gH->Apart H' eK->Apart gH eK->(∃w,Fits H' w/\Fits gH w/\Fits eK w)->
  ∀(v:Option (Nat×aN)) (cL:aD) (bH:π),Ext fb [] (join (join H' gH) eK) cL [] bH->cm Tryz.prog Q mn (bw x s (.par n 0 .cq) v 0) (c.finish (.tuple #[])) rest bH
theorem rm.later {cL:aD} {bH:π} (h:rm Q mn x c rest S H s n sp) (he:Ext S [] H cL [] bH):rm Q mn x c rest cL bH s n sp:=
 λaz H' gb fx gH eK a1 a2 ck fY hA l3 uA sX yw E7 v jP hJ yx=>h az H' gb fx gH eK (he.trans a1) a2 ck fY hA l3 uA sX yw E7 v jP hJ yx
theorem Oj (ε:lS x s sp) (Η:∀(v:Option (Nat×aN)) (cL:aD) (bH:π),Ext fb [] H cL [] bH->cm Tryz.prog Q mn (bw x s (.par n 0 .cq) v 0) (c.finish (.tuple #[])) rest bH) {K:List Item} {env:ab}:tS Q mn x c rest fb H s (.par n 0 .cq) v 0 (.code .ret::K) env:=by
 letI:bj:=eP;have U:=ε.seq;refine V.HK (U _ _ _) rfl rfl rfl rfl Tryz.func146 rfl λbz bB H1 κ χ=>?_;obtain rfl:bB=[]:=dB.1 χ.len;rintro y rfl;exact Η v bz H1 κ.ext
theorem Ol (ε:lS x s sp) (dn:rm Q mn x c rest S H s n sp):tS Q mn x c rest S H s (.par n 0 .lW) v 1 (.code (dI [0,1] nf)::.inBlock 1::vK) [(0,.z (ptr s 0)),(2,.z (.int .u64 0))]:=by
 letI:bj:=eP;have U:=ε.seq;refine V.b3 (U _ _ _) ?_;unfold nf Aw;refine hs (Ζ @Og (Ζ @Oh (Ζ @D8 @Oi))) ?_;refine W.cn (.stop ?_);refine V.enable (U _ _ _).here (Nat.succ_pos _) ⟨⟨rfl,rfl,by simp[Frame.enter],rfl⟩,tO,⟨_,rfl⟩,rfl,rfl,rfl⟩ ?_;rw[Ah];refine V.b3 (U _ _ _) ?_;refine W.bJ ?_;refine W.cn ?_;refine fp [0] [1,2] ?_;refine W.stop ?_;refine V.conv (U _ _ _).here (sp:=sp) ε.spec (by rw[b4];exact id) ⟨rfl,rfl,by simp[Frame.enter],rfl⟩ rfl rfl rfl HU tP HV rfl (λο w Α bD=>⟨_,bD.cP⟩) (λφ ο μ=>?_);unfold h3;rw[kl];refine V.BO ε.rel rfl (sp:=sp) ε.spec b4 (.inl rfl) ⟨⟨rfl,rfl,by simp[Frame.enter],rfl⟩,DX,⟨_,rfl⟩,rfl,rfl,rfl⟩ λbz bB H1 t1 gb fx gH eK κ ς bK da fP l9 tD H6 H7 H8=>?_;rw[gR];obtain rfl:bB=[]:=dB.1 ς.holds.len;have Η:=dn bz H1 gb fx gH eK κ.ext ς.holds bK da fP l9 tD H6 H7 H8;refine V.here (x:=one _) (S:=fb) (B:=[]) (σ:=[]) (m:=0) (nt:=84) ?_ (ς.none η) _ rfl;refine V.b3 (U _ _ _) ?_;refine W.bJ ?_;refine hs (Ζ @Og (Ζ @Oh (Ζ @D8 @Oi))) ?_;exact .stop (Oj ε Η)
theorem Ya (ε:lS x s sp) (dn:rm Q mn x c rest S H s n sp):tS Q mn x c rest S H s (.par n 0 .w4) v 1 (.code (dI [0,1,1,1,1,1,0,1,1,1,1] nf)::.inBlock 1::vK) [(0,.z (ptr s 0))]:=by
 letI:bj:=eP;have U:=ε.seq;refine V.b3 (U _ _ _) ?_;unfold nf Aw;refine cI ?_;refine W.cn ?_;refine fp [0,1,2] [3,4,5] ?_;refine W.stop ?_;refine V.call (U _ _ _) ⟨rfl,rfl,by simp[Frame.enter],rfl⟩ rfl rfl rfl ⟨_,Tryz.func168,rfl,rfl⟩ λbz bB H1 t1 oZ κ ς hv=>?_;obtain rfl:=mD (l:=[ptr s 0]) hv;obtain rfl:bB=[]:=dB.1 ς.holds.len;rintro y rfl;refine H4 ε id ς.holds λφ ο μ=>.inl λcL bH n1 iU=>?_;have ψ:=μ.jj.sH;rw[b4] at ψ;obtain⟨Ξ,ah,aR⟩:=ψ.fin n 0 (.inr (.inl rfl));have Ο:cJ ο=0:=by simp only[cJ,Ξ,aR];rfl
 rw[Ο,ie rfl];have xT:=dn.later (κ.ext.trans n1);refine V.here (x:=one _) (m:=0) (nt:=84) ?_ ((ς.put (a:=.z (.int .u64 0)) rfl (.z _)).jI η iU) _ rfl;refine V.b3 (U _ _ _) ?_;refine W.part (A:=[]) Ρ [4,5] [] rfl λΔ ζ=>?_;(try simp);(repeat (rw[ae];simp[]));(try simp[]);apply ζ;refine W.bJ ?_;refine hr ?_;refine W.cn (.stop ?_);refine V.enable (U _ _ _).here (Nat.succ_pos _) ⟨⟨rfl,rfl,by simp[Frame.enter],rfl⟩,tO,⟨_,rfl⟩,rfl,rfl,rfl⟩ ?_;rw[Ah];refine V.b3 (U _ _ _) ?_;refine W.bJ ?_;refine W.cn ?_;refine fp [0] [1,2] ?_;refine W.stop ?_;refine V.conv (U _ _ _).here (sp:=sp) ε.spec (by rw[b4];exact id) ⟨rfl,rfl,by simp[Frame.enter],rfl⟩ rfl rfl rfl HU tP HV rfl (λο w Α bD=>⟨_,bD.cP⟩) (λφ ο μ=>?_);unfold h3;rw[kl];refine V.BO ε.rel rfl (sp:=sp) ε.spec b4 (.inr rfl) ⟨⟨rfl,rfl,by simp[Frame.enter],rfl⟩,DX,⟨_,rfl⟩,rfl,rfl,rfl⟩ λbz bB H1 t1 gb fx gH eK κ ς bK da fP l9 tD H6 H7 H8=>?_;rw[gR];obtain rfl:bB=[]:=dB.1 ς.holds.len;have Η:=xT bz H1 gb fx gH eK κ.ext ς.holds bK da fP l9 tD H6 H7 H8;refine V.here (x:=one _) (S:=fb) (B:=[]) (σ:=[]) (m:=0) (nt:=84) ?_ (ς.none η) _ rfl;refine V.b3 (U _ _ _) ?_;refine W.bJ ?_;refine hr ?_;exact .stop (Oj ε Η)
theorem Yb {a b d:Nat} (h:a<=b) (I:b<7):a<8/\a<7:=γ
theorem Yc {a b:Nat} (h:a<b):¬b=0:=γ
theorem Yd (ε:lS x s sp) (dn:rm Q mn x c rest S H s n sp) {φ:Nat} {ο:aN}:tS Q mn x c rest S H s (.par n 0 .w3) (some (φ,ο)) 1 (.code (dI [0,1,1,1,1,1,0,1,1,1,0] nf)::.code (dI [0,1,1,1,1,1,0,1,1,1,1] nf)::.inBlock 1::vK) [(0,.z (ptr s 0)),(5,.z (.bool false))]:=by
 letI:bj:=eP;have U:=ε.seq;have woken:∀v,tS Q mn x c rest S H s (.par n 0 .w4) v 1 (.code (dI [0,1,1,1,1,1,0,1,1,1,1] nf)::.inBlock 1::vK) [(0,.z (ptr s 0))]:=λv=>Ya ε dn;refine V.b3 (U _ _ _) ?_;unfold nf Aw;refine W.cn ?_;refine fp [0,1,2,3] [4] ?_;refine W.stop ?_;refine V.Xa (U _ _ _).here (sp:=sp) ε.spec (by rw[b4];exact id) (vs:=[ptr s 1,.bool false]) rfl (λbq iK=>by rw[Ai iK];exact ε.still bq iK) ⟨⟨rfl,rfl,by simp[Frame.enter],rfl⟩,XH,⟨_,rfl⟩,rfl,rfl,rfl⟩ (λgT ο μ h=>by rw[b4];exact h) (λgT ο μ h=>?_);refine⟨{ο with cB:=ο.cB-1},.par n 0 .w4,rfl,rfl,⟨rfl,rfl,rfl⟩,by rw[b4];exact .wake h,λhM ez=>?_⟩;rw[gR];refine V.b3 (U _ _ _) ?_;refine W.bJ ?_;refine W.forget [(0,.z (ptr s 0))] η (.stop ?_);exact woken _
theorem Ye (ε:lS x s sp):∀(N φ:Nat) (ο:aN) (S:aD) (H:π),φ<N->ο.toSpec=sp->0<ο.cnt->ο.cnt<=ο.top->ο.wt=0->rm Q mn x c rest S H s n sp->
  tS Q mn x c rest S H s (.par n 0 .add) (some (φ,ο)) 1 (.code (dI [0,1] nf)::.inBlock 1::vK) [(0,.z (ptr s 0)),(2,.z (.int .u64 (cJ ο)))]:=by
 letI:bj:=eP;have U:=ε.seq;intro N
 induction N with
 | zero=>intro φ ο S H h;exact absurd h (Nat.not_lt_zero _)
 | succ N Ap=>
  intro φ ο S H c5 Α BG xU qF dn;have gC:=D7 ε Α;obtain⟨k1,bG⟩:=Yb (d:=0) xU gC;have f1:=D4 ο.cnt k1 0 a0;have f2:=D5 ο.cnt k1 0 a0;have f3:=D6 ο.cnt k1 0 a0;have f4:=X7 ο.cnt k1;have iP:cJ ο=hT ο.cnt 0:=by rw[tR,qF]
  have bC:¬ο.cnt=0:=Yc BG
  have vz:¬(ο.cnt:Int)=0:=λh=>bC (by exact_mod_cast h);rw[<-iP] at f1 f2 f3 f4;have sleep:∀(S H) (φ:Nat) (ο:aN),rm Q mn x c rest S H s n sp->tS Q mn x c rest S H s (.par n 0 .w3) (some (φ,ο)) 1 (.code (dI [0,1,1,1,1,1,0,1,1,1,0] nf)::.code (dI [0,1,1,1,1,1,0,1,1,1,1] nf)::.inBlock 1::vK) [(0,.z (ptr s 0)),(5,.z (.bool false))]:=λS H φ ο dn=>Yd ε dn;have lW:∀(S H v),rm Q mn x c rest S H s n sp->tS Q mn x c rest S H s (.par n 0 .lW) v 1 (.code (dI [0,1] nf)::.inBlock 1::vK) [(0,.z (ptr s 0)),(2,.z (.int .u64 0))]:=λS H v dn=>Ol ε dn;refine V.b3 (U _ _ _) ?_;unfold nf Aw;refine hs (Ζ f2 (Ζ f3 (Ζ bC vz))) ?_;refine W.cn ?_;refine W.part (A:=[]) Ρ [0,1,2,3,4,5] [6] rfl λΔ ζ=>?_;(try simp);(repeat (rw[ae];simp[f4]));(try simp[f4]);apply ζ;refine W.stop ?_;refine V.call (U _ _ _) ⟨rfl,rfl,by simp[Frame.enter],rfl⟩ rfl rfl rfl ⟨_,Tryz.func179,rfl,rfl⟩ λbz bB H1 t1 oZ κ ς hv=>?_;obtain rfl:=mD (l:=[ptr s 0,.int .u64 (cJ ο),.int .u64 (hT ο.cnt 1)]) hv;obtain rfl:bB=[]:=dB.1 ς.holds.len;rintro y rfl;refine X9 ε id ς.holds (λgT fM μ hv cL bH n1 iU=>?_) (λgT fM μ hv=>?_)
  ·have pK:=μ.view φ ο o5
   have aB:gT<N:=by
    rcases Nat.lt_or_ge gT φ with h|h
    ·exact Nat.lt_of_lt_of_le h (Nat.le_of_lt_succ c5)
    ·exact absurd (by rw[pK.2 (Nat.le_antisymm pK.1 h)]) hv
   have xT:=dn.later (κ.ext.trans n1);rw[ie rfl];refine V.here (x:=one _) (m:=0) (nt:=84) ?_ ((ς.put (a:=.z (.bool false)) rfl (.z _)).jI η iU) _ rfl;refine V.b3 (U _ _ _) ?_;refine W.bJ ?_;refine ay rfl ?_;refine cI ?_;refine W.inLoop ?_;refine W.forget [(0,.z (ptr s 0))] η ?_;refine cI ?_;refine W.cn ?_;refine fp [0,1,2] [3,4] ?_;refine W.stop ?_;refine V.call (U _ _ _) ⟨rfl,rfl,by simp[Frame.enter],rfl⟩ rfl rfl rfl ⟨_,Tryz.func168,rfl,rfl⟩ λjP jQ hJ t3 H9 fW eG sn=>?_;obtain rfl:=mD (l:=[ptr s 0]) sn;obtain rfl:jQ=[]:=dB.1 eG.holds.len;rintro y rfl;refine H4 ε id eG.holds λhM fG dk=>?_;have eC:=dk.jj.sH;rw[b4] at eC;obtain⟨dh,c6,gj,qX,qY⟩:=eC.add n 0 rfl;have sk:=dk.view gT fM o5;by_cases ao:fG.cnt=0
   ·refine .inr ⟨.par n 0 .lW,.thru ao,λxN Yf jN jO sJ kJ=>?_⟩;have Ο:cJ fG=0:=by simp only[cJ,dh,ao];rfl
    rw[Ο,ie rfl];have vL:=xT.later (fW.ext.trans sJ);refine V.here (x:=one _) (m:=0) (nt:=84) ?_ ((eG.put (a:=.z (.int .u64 0)) rfl (.z _)).jI η kJ) _ rfl;refine V.b3 (U _ _ _) ?_;refine W.part (A:=[]) Ρ [4] [] rfl λΔ ζ=>?_;(try simp);(repeat (rw[ae];simp[]));(try simp[]);apply ζ;refine W.bJ ?_;refine W.forget [(0,.z (ptr s 0)),(2,.z (.int .u64 0))] η (.stop ?_);exact lW _ _ _ vL
   ·refine .inl λjN jO sJ kJ=>?_;rw[ie rfl];have vL:=xT.later (fW.ext.trans sJ);refine V.here (x:=one _) (m:=0) (nt:=84) ?_ ((eG.put (a:=.z (.int .u64 (cJ fG))) rfl (.z _)).jI η kJ) _ rfl;refine V.b3 (U _ _ _) ?_;refine W.part (A:=[]) Ρ [4] [] rfl λΔ ζ=>?_;(try simp);(repeat (rw[ae];simp[]));(try simp[]);apply ζ;refine W.bJ ?_;refine W.forget [(0,.z (ptr s 0)),(2,.z (.int .u64 (cJ fG)))] η (.stop ?_);exact Ap hM fG jN jO (Nat.lt_of_le_of_lt sk.1 aB) dk.spec (Nat.pos_of_ne_zero ao) eC.cnt dh vL
  ·have hj:=μ.jj.sH;rw[b4] at hj;obtain⟨dh,c6,gj,qX,qY⟩:=hj.add n 0 rfl;have mX:fM.cnt=ο.cnt:=by rw[iP,tR,dh] at hv;simp only[hT] at hv;omega
   refine⟨{fM with wt:=1},.par n 0 .w3,?_,rfl,⟨rfl,rfl,rfl⟩,.Kb (by rw[mX];exact BG),λhM gΤ cL bH n1 iU=>?_⟩
   ·rw[tR];simp only[mX]
   rw[ie rfl];have xT:=dn.later (κ.ext.trans n1);refine V.here (x:=one _) (m:=0) (nt:=84) ?_ ((ς.put (a:=.z (.bool true)) rfl (.z _)).jI η iU) _ rfl;refine V.b3 (U _ _ _) ?_;refine W.bJ ?_;refine aA rfl ?_;refine hr ?_;refine W.cn ?_;refine fp [0,1,2] [3,4] ?_;refine W.stop ?_;refine V.conv (U _ _ _).here (sp:=sp) ε.spec (by rw[b4];exact id) ⟨rfl,rfl,by simp[Frame.enter],rfl⟩ rfl rfl rfl NW tP NX rfl (λο w Α bD=>⟨_,bD.Ξ⟩) (λφ ο μ=>?_);unfold h3;rw[kl];refine V.W8 ε.rel b4 η ⟨⟨rfl,rfl,by simp[Frame.enter],rfl⟩,XB,⟨_,rfl⟩,rfl,rfl,rfl⟩ ?_;refine V.b3 (U _ _ _) ?_;refine W.bJ ?_;refine hs f1 ?_;refine W.forget [(0,.z (ptr s 0)),(5,.z (.bool false))] η (.stop ?_);exact sleep _ _ _ _ xT
theorem Yg (ε:lS x s sp) (χ:Holds S B σ H) (dn:rm Q mn x c rest S H s n sp) :
  cm Tryz.prog Q mn (bw x s (.par n 0 .add) v 0) (Frame.enter Tryz.prog 146 #[ptr s 0] .normal) (c::rest) H:=by
 letI:bj:=eP;have U:=ε.seq;refine V.qb (z:=one _) (vs:=[ptr s 0]) Tryz.func146 rfl χ (by simp[Tryz.ntmps146]) ?_ _ rfl;refine V.b3 (U _ _ _) ?_;refine hr ?_;refine W.cn (.stop ?_);refine V.disable (U _ _ _).here ⟨⟨rfl,rfl,by simp[Frame.enter],rfl⟩,Ak,⟨_,rfl⟩,rfl,rfl,rfl⟩ ?_;rw[Ag];refine V.b3 (U _ _ _) ?_;refine W.bJ ?_;refine cI ?_;refine W.loop ?_;refine cI ?_;refine W.cn ?_;refine fp [0,1,2] [3,4] ?_;refine W.stop ?_;refine V.call (U _ _ _) ⟨rfl,rfl,by simp[Frame.enter],rfl⟩ rfl rfl rfl ⟨_,Tryz.func168,rfl,rfl⟩ λjP jQ hJ t3 H9 fW eG sn=>?_;obtain rfl:=mD (l:=[ptr s 0]) sn;obtain rfl:jQ=[]:=dB.1 eG.holds.len;rintro y rfl;refine H4 ε id eG.holds λhM fG dk=>?_;have eC:=dk.jj.sH;rw[b4] at eC;obtain⟨dh,c6,gj,qX,qY⟩:=eC.add n 0 rfl;by_cases ao:fG.cnt=0
 ·refine .inr ⟨.par n 0 .lW,.thru ao,λxN Yf jN jO sJ kJ=>?_⟩;have Ο:cJ fG=0:=by simp only[cJ,dh,ao];rfl
  rw[Ο,ie rfl];have vL:=dn.later (fW.ext.trans sJ);refine V.here (x:=one _) (m:=0) (nt:=84) ?_ ((eG.put (a:=.z (.int .u64 0)) rfl (.z _)).jI η kJ) _ rfl;refine V.b3 (U _ _ _) ?_;refine W.part (A:=[]) Ρ [4] [] rfl λΔ ζ=>?_;(try simp);(repeat (rw[ae];simp[]));(try simp[]);apply ζ;refine W.bJ ?_;refine W.forget [(0,.z (ptr s 0)),(2,.z (.int .u64 0))] η (.stop ?_);exact Ol ε vL
 ·refine .inl λjN jO sJ kJ=>?_;rw[ie rfl];have vL:=dn.later (fW.ext.trans sJ);refine V.here (x:=one _) (m:=0) (nt:=84) ?_ ((eG.put (a:=.z (.int .u64 (cJ fG))) rfl (.z _)).jI η kJ) _ rfl;refine V.b3 (U _ _ _) ?_;refine W.part (A:=[]) Ρ [4] [] rfl λΔ ζ=>?_;(try simp);(repeat (rw[ae];simp[]));(try simp[]);apply ζ;refine W.bJ ?_;refine W.forget [(0,.z (ptr s 0)),(2,.z (.int .u64 (cJ fG)))] η (.stop ?_);exact Ye ε (hM+1) hM fG jN jO (Nat.lt_succ_self _) dk.spec (Nat.pos_of_ne_zero ao) eC.cnt dh vL
end
end Go.TL
namespace Go.TL
open Go.Conc Go.Proofs
open Go.ConcN (sumTo upd sumTo_upd upd_ne upd_same sumTo_congr le_sumTo)
variable [bj]
def cu.xV:cu->θ->Prop
 | .ok a,b=>a=b
 | .bX p r,b=>p/\r.xV b
 | .bad,_=>False
def iJ (P:Program) {α:Type} (s:Sem α) (a:α):Prop:=∀w,s.run P w=.ok a w/\∀es,s.events P w es=es
section
variable {P:Program} {T:a9} {α β:Type}
theorem iJ.pure (a:α):iJ P (Pure.pure a) a:=λw=>⟨η,λes=>η⟩
theorem iJ.bind {s:Sem α} {f:α->Sem β} {a:α} {b:β} (h:iJ P s a) (k:iJ P (f a) b):iJ P (s >>= f) b:=λw=>⟨by simp[(h w).1,(k w).1,Result.andThen],λes=>by simp[(h w).1,(h w).2,(k w).2,Result.evThen]⟩
theorem iJ.program:iJ P Go.program P:=λw=>⟨η,λes=>η⟩
theorem iJ.underlying {t:TypeId} {d:TypeDesc} (h:P.underlying t=some d):iJ P (Go.underlying t) d:=λw=>⟨run_underlying h w,λes=>η⟩
theorem iJ.sizeOf {t:TypeId} {i:TypeInfo} (hi:P.info? t=some i):iJ P (Go.sizeOf t) i.size:=by
 unfold Go.sizeOf Go.typeInfo;refine iJ.bind (iJ.bind .program ?_) (iJ.pure _);show iJ P (match P.info? t with|some i=>Pure.pure i|none=>_) i;rw[hi];exact .pure _
theorem Yh {op:BinOp} {ty:TypeId} {p q:Operand} {x y v:Value} (h:(rV op x y).xV (.z v)):iJ P (do eqGuard op ty p q x y;binOp op ty x y) v:=by
 unfold rV at h;split at h
 case h_25=>exact h.elim
 case h_1=>
  obtain⟨I,R⟩:=h;cases R;have c9:¬(_:Int)<0:=Int.not_lt.2 I;simp only[eqGuard,binOp,Op.shift,c9,if_false];exact .pure _
 case h_2=>
  obtain⟨I,R⟩:=h;cases R;have c9:¬(_:Int)<0:=Int.not_lt.2 I;simp only[eqGuard,binOp,Op.shift,c9,if_false];exact .pure _
 case h_6=>
  split at h
  ·rename_i e;subst e;obtain⟨I,R⟩:=h;cases R;simp only[eqGuard,binOp,Op.intDiv,I,if_false,ne_eq,not_true_eq_false];exact .pure _
  ·exact h.elim
 case h_7=>
  split at h
  ·rename_i e;subst e;obtain⟨I,R⟩:=h;cases R;simp only[eqGuard,binOp,Op.intDiv,I,if_false,ne_eq,not_true_eq_false];exact .pure _
  ·exact h.elim
 case h_18=>
  obtain⟨I,R⟩:=h;cases R;have c9:¬((_:Int) > IntKind.i64.max):=Int.not_lt.2 I;simp only[eqGuard,binOp,Op.stringOp,c9,if_false];exact .pure _
 all_goals first
  |(cases h;exact .pure _)
  |(split at h
    ·rename_i e;subst e;cases h;simp only[eqGuard,binOp,Op.intArith,Op.intBits,Op.intCmp,ne_eq,not_true_eq_false,if_false];exact .pure _
    ·exact h.elim)
def xW (T:a9) (env:ab) (o:Oper):cu:=match o.op with
 | .move x=>.ok (aM env x)
 | .assign x=>.ok (aM env x)
 | .pick c a b=>xf (aM env c) (aM env a) (aM env b)
 | .binOp op _ x y _=>match aM env x,aM env y with
  | .z a,.z b=>rV op a b
  | _,_=>.bad
 | .unOp op _ x=>wT op (aM env x)
 | .convert s d x=>w8 T s d (aM env x)
 | .nilCheck x=>match aM env x with
  | .z (.pointer (some a))=>.ok (.z (.pointer (some a)))
  | _=>.bad
 | .fieldAddr ty x f=>match aM env x with
  | .z (.pointer (some ⟨b,o',none⟩))=>match gK T ty f with|some (o,_)=>.ok (.z (.pointer (some ⟨b,o'+o,none⟩)))|none=>.bad
  | _=>.bad
 | _=>.bad
theorem Yi (Η:bT P T) {env:ab} {o:Oper} {v:Value} (h:(xW T env o).xV (.z v)) {ρ:Operand->Value} (ng:∀y u,aM env y=.z u->ρ y=u):iJ P (execOp ρ o) (.value v):=by
 have val:∀{s:Sem Value} {u:Value},iJ P s u->iJ P (do Pure.pure (Next.value (<-s))) (.value u):=λμ=>.bind μ (.pure _);unfold xW at h;unfold execOp;split at h<;>rename_i Α<;>first|(rw[Α];simp only)|exact h.elim
 ·rw[ng _ _ h];exact .pure _
 ·rw[ng _ _ h];exact .pure _
 ·rename_i c a b;unfold xf at h;split at h
  ·rename_i bv ε;rw[ng _ _ ε];refine iJ.bind (a:=bv) (iJ.pure _) ?_;split at h
   ·rename_i y z Φ Μ;cases h;rw[ng _ _ Φ,ng _ _ Μ];cases bv<;>exact .pure _
   ·cases bv with
    | true=>rw[ng a v h];exact .pure _
    | false=>rw[ng b v h];exact .pure _
  ·exact h.elim
 ·split at h
  ·rename_i x y U Φ;rw[ng _ _ U,ng _ _ Φ];exact val (Yh h)
  ·exact h.elim
 ·unfold wT at h;split at h
  ·rename_i bv hb;rw[ng _ _ hb];split at h
   ·cases h;exact val (.pure _)
   ·exact h.elim
  ·rename_i k n hb;rw[ng _ _ hb];split at h
   ·cases h;exact val (.pure _)
   ·exact h.elim
  ·exact h.elim
 ·unfold w8 at h;split at h
  ·rename_i i j hi δ;split at h
   ·rename_i k kk n hu U;cases h;rw[ng _ _ U];refine val ?_;unfold convert;refine .bind (.underlying (Η _ _ hi).1.1) (.bind (.underlying (Η _ _ δ).1.1) ?_);rw[hu];exact .pure _
   ·exact h.elim
  ·exact h.elim
 ·split at h
  ·rename_i a U;cases h;rw[ng _ _ U];exact .pure _
  ·exact h.elim
 ·split at h
  ·rename_i b o' U;rw[ng _ _ U];split at h
   ·rename_i dG za Υ;cases h;refine val ?_;unfold gK at Υ;split at Υ<;>try cases Υ
    rename_i i hi;split at Υ<;>try cases Υ
    rename_i db hu;split at Υ<;>try cases Υ
    rename_i x U;split at Υ<;>try cases Υ
    rename_i bY oH;split at Υ<;>try cases Υ
    rename_i gu;unfold Instr.fieldAt;refine .bind (.underlying (Η _ _ hi).1.1) ?_;rw[hu];simp only[U];refine .bind (a:=⟨b,o',none⟩) (.pure _) ?_;obtain⟨f,k2,rY,_⟩:=(Η _ _ oH).2;refine .bind (a:=⟨b,o'+x.offset,none⟩) ?_ (.pure _);unfold fieldPlace;refine .bind (.sizeOf k2) ?_;rw[rY,if_neg gu,tk];exact .pure _
   ·exact h.elim
  ·exact h.elim
end
theorem Yj (vs:List Value) {nt:Nat} (Ε:vs.length<=nt):cX fb [] [] (entry 0 (vs.map θ.z)) (vs.toArray++Array.replicate (nt-vs.length) undef):=by
 have ι:fj fb [] [] (vs.map θ.z) vs.toArray:=⟨η,λi a v I R=>by
  simp only[List.getElem?_map,List.getElem?_toArray] at I R;rw[R] at I;cases I;exact .z v⟩
 have:=(fi.enter (xQ π.empty) (m:=0) (nt:=nt) ι (Nat.le_refl _) (by simpa using Ε)).b5;simpa using this
def Ia (P:Program) (mn:Bool) (du:Goroutine->Prop):Prop:=∀g g',ir g->(∀w,stepG P mn g w=.go g' w #[])->du g'->du g
def ad (du:Goroutine->Prop) (b:Frame) (cs:List Frame) (nt:Nat) (k:List Item) (env:ab):Prop:=∀t:Array Value,t.size=nt->cX fb [] [] env t->du (Go.Conc.G (ax b t k) cs)
def mI (T:a9) (nt:Nat) (ops:Array Oper):List Nat->ab->(ab->Prop)->Prop
 | [],env,K=>K env
 | i::is,env,K=>gL ops[i]? λo=>g4 nt o=true/\gL (fl env ops o) λw=>
   iC w (mI T nt ops is (b6 o env .cg) K) (∃v,(xW T env o).xV (.z v)/\mI T nt ops is (b6 o env (.z v)) K)
theorem vM {T:a9} {nt:Nat} {ops:Array Oper} {env:ab} {K:ab->Prop}:mI T nt ops [] env K=K env:=Eq.trans rfl rfl
def vN (T:a9) (nt:Nat) (ops:Array Oper) (is:List Nat) (o:Oper) (env:ab) (K:ab->Prop):cu->Prop
 | .ok (.z v)=>mI T nt ops is (b6 o env (.z v)) K
 | .bX p (.ok (.z v))=>p/\mI T nt ops is (b6 o env (.z v)) K
 | _=>False
theorem Yk {T:a9} {nt:Nat} {ops:Array Oper} {is:List Nat} {o:Oper} {env:ab} {K:ab->Prop} {v:Value}:vN T nt ops is o env K (.ok (.z v))=mI T nt ops is (b6 o env (.z v)) K:=Eq.trans rfl rfl
theorem Yl {T:a9} {nt:Nat} {ops:Array Oper} {is:List Nat} {o:Oper} {env:ab} {K:ab->Prop} {v:Value} {p:Prop}:vN T nt ops is o env K (.bX p (.ok (.z v)))=(p/\mI T nt ops is (b6 o env (.z v)) K):=Eq.trans rfl rfl
theorem Ym {T:a9} {nt:Nat} {ops:Array Oper} {is:List Nat} {o:Oper} {env:ab} {K:ab->Prop} {r r':cu} (h:r=r'):vN T nt ops is o env K r=vN T nt ops is o env K r':=by rw[h]
theorem Yn {T:a9} {nt:Nat} {ops:Array Oper} {is:List Nat} {o:Oper} {env:ab} {K:ab->Prop} {r:cu} (h:vN T nt ops is o env K r):∃v,r.xV (.z v)/\mI T nt ops is (b6 o env (.z v)) K:=by
 unfold vN at h;split at h
 ·exact⟨_,rfl,h⟩
 ·exact⟨_,⟨h.1,rfl⟩,h.2⟩
 ·exact h.elim
theorem gU {T:a9} {nt:Nat} {ops:Array Oper} {i:Nat} {is:List Nat} {env:ab} {K:ab->Prop} (h:gL ops[i]? λo=>g4 nt o=true/\gL (fl env ops o) λw=>iC w (mI T nt ops is (b6 o env .cg) K) (vN T nt ops is o env K (xW T env o))):mI T nt ops (i::is) env K:=by
 unfold mI;unfold gL at h ⊢;split at h
 ·exact h.elim
 rename_i o Α;refine⟨h.1,?_⟩
 replace h:=h.2
 split at h
 ·exact h.elim
 rename_i w hw;exact⟨h.1,λe=>Yn (h.2 e)⟩
section
variable {P:Program} {T:a9} {mn:Bool} {du:Goroutine->Prop} {b:Frame} {cs:List Frame} {nt:Nat} {k:List Item} {env:ab} {ops:Array Oper} {i:Nat} {rest:List Nat} {op:Oper}
variable (gp:Ia P mn du) (hb:b.mode=.run)
include gp hb
theorem ad.to {af:List Item} (μ:∀t w,stepG.exec P mn true (ax b t k) cs none w=.go (Go.Conc.G (ax b t af) cs) w #[]) (h:ad du b cs nt af env):ad du b cs nt k env:=
 λt I R=>gp _ _ ⟨rfl,rfl⟩ (λw=>(iW hb w).trans (μ t w)) (h t I R)
theorem ad.skip (h:ad du b cs nt k env):ad du b cs nt (.code .skip::k) env:=.to gp hb (λ_ _=>rfl) h
theorem ad.inBlock {l:Nat} (h:ad du b cs nt k env):ad du b cs nt (.inBlock l::k) env:=.to gp hb (λ_ _=>rfl) h
theorem ad.seq {a c:Code} (h:ad du b cs nt (.code a::.code c::k) env):ad du b cs nt (.code (.seq a c)::k) env:=.to gp hb (λ_ _=>rfl) h
theorem ad.block {l:Nat} {c:Code} (h:ad du b cs nt (.code c::.inBlock l::k) env):ad du b cs nt (.code (.block l c)::k) env:=.to gp hb (λ_ _=>rfl) h
theorem ad.loop {c:Code} (h:ad du b cs nt (.code c::.inLoop c::k) env):ad du b cs nt (.code (.loop c)::k) env:=.to gp hb (λ_ _=>rfl) h
theorem ad.inLoop {c:Code} (h:ad du b cs nt (.code c::.inLoop c::k) env):ad du b cs nt (.inLoop c::k) env:=.to gp hb (λ_ _=>rfl) h
theorem ad.cn {id:Nat} {ops:Array Oper} (h:ad du b cs nt (.inRegion ops (idx ops.size [])::k) env):ad du b cs nt (.code (.region id ops false)::k) env:=.to gp hb (λ_ _=>by rw[idx_eq];rfl) h
theorem ad.bJ {ops:Array Oper} (h:ad du b cs nt k env):ad du b cs nt (.inRegion ops []::k) env:=.to gp hb (λ_ _=>rfl) h
theorem ad.exit {l:Nat} {af:List Item} (he:exitTo l k=some af) (h:ad du b cs nt af env):ad du b cs nt (.code (.exit l)::k) env:=by
 refine .to gp hb (λt w=>?_) h;unfold stepG.exec;simp only[ax,he,Option.elim];rfl
theorem ad.cond {c:Operand} {a e:Code} {v:Bool} (ε:aM env c=.z (.bool v)) (h:ad du b cs nt (.code (if v then a else e)::k) env):ad du b cs nt (.code (.cond c a e)::k) env:=by
 intro t I R;refine gp _ _ ⟨rfl,rfl⟩ (λw=>?_) (h t I R);rw[iW hb w];have bg:(ax b t (.code (.cond c a e)::k)).eval c=.bool v:=by rw[y1];exact DK R ε
 unfold stepG.exec;simp only[ax] at bg ⊢;rw[bg];rfl
theorem ad.mJ {c:Operand} {a e:Code} (ε:aM env c=.z (.bool true)) (h:ad du b cs nt (.code a::k) env):ad du b cs nt (.code (.cond c a e)::k) env:=.cond gp hb ε h
theorem ad.mK {c:Operand} {a e:Code} (ε:aM env c=.z (.bool false)) (h:ad du b cs nt (.code e::k) env):ad du b cs nt (.code (.cond c a e)::k) env:=.cond gp hb ε h
theorem Ib {t:Array Value} (h:cX fb [] [] env t) (hd:g4 nt op=true) (Ν:t.size=nt) {a:θ} {v:Value} (κ:au fb [] [] a v):(put op t v).size=nt/\cX fb [] [] (b6 op env a) (put op t v):=⟨(q1 h hd Ν κ).2,(q1 h hd Ν κ).1⟩
theorem ad.unwanted (Α:ops[i]?=some op) (hw:fl env ops op=some false) (hd:g4 nt op=true) (h:ad du b cs nt (.inRegion ops rest::k) (b6 op env .cg)):ad du b cs nt (.inRegion ops (i::rest)::k) env:=by
 intro t I R;obtain⟨s1,s2⟩:=Ib (b:=b) gp hb R hd I (a:=.cg) (v:=undef) (.cg _);refine gp _ _ ⟨rfl,rfl⟩ (λw=>?_) (h _ s1 s2);rw[iW hb,<-ie Α];have uH:((ops[i]?).map (Region.wanted · (yielded ops t))).getD false=false:=by simp[Α,j6 R hw]
 unfold stepG.exec;simp only[ax,uH];rfl
theorem ad.opn (Η:bT P T) (cr:b.roundOf=none) (ψ:b.kind≠.early) (Α:ops[i]?=some op) (hw:fl env ops op=some true) (hd:g4 nt op=true) {v:Value} (hv:(xW T env op).xV (.z v)) (h:ad du b cs nt (.inRegion ops rest::k) (b6 op env (.z v))):ad du b cs nt (.inRegion ops (i::rest)::k) env:=by
 intro t I R;obtain⟨s1,s2⟩:=Ib (b:=b) gp hb R hd I (a:=.z v) (v:=v) (.z v);refine gp _ _ ⟨rfl,rfl⟩ (λw=>?_) (h _ s1 s2);have μ:=Yi Η hv (ρ:=br t) λy u Φ=>DK R Φ;rw[gB hb cr,gB hb cr,<-tL,stepG_value (a:=⟨t,b.defers⟩) Α (j6 R hw) ψ (by rw[lQ];exact(μ w).1)];unfold listed;rw[lQ,(μ w).2,seen_none]
theorem ad.part (Η:bT P T) (cr:b.roundOf=none) (ψ:b.kind≠.early) (is j7:List Nat) {l:List Nat} (υ:l=is++j7) (h:∀Δ:ab->Prop,(∀env,ad du b cs nt (.inRegion ops j7::k) env->Δ env)->mI T nt ops is env Δ):ad du b cs nt (.inRegion ops l::k) env:=by
 subst υ;have key:∀(is:List Nat) (env:ab),mI T nt ops is env (λenv=>ad du b cs nt (.inRegion ops j7::k) env)->ad du b cs nt (.inRegion ops (is++j7)::k) env:=by
  intro is
  induction is with
  | nil=>intro env h;exact h
  | cons i is ω=>
   intro env h;unfold mI gL at h;split at h
   ·exact h.elim
   rename_i o Α;obtain⟨hd,h⟩:=h;split at h
   ·exact h.elim
   rename_i w hw;cases w with
   | false=>exact .unwanted gp hb Α hw hd (ω _ (h.1 rfl))
   | true=>
    obtain⟨v,I,R⟩:=h.2 rfl;exact .opn gp hb Η cr ψ Α hw hd I (ω _ R)
 exact key is env (h _ λ_ h=>h)
theorem ad.region (Η:bT P T) (cr:b.roundOf=none) (ψ:b.kind≠.early) {id:Nat} (h:∀Δ:ab->Prop,(∀env,ad du b cs nt k env->Δ env)->mI T nt ops (idx ops.size []) env Δ):ad du b cs nt (.code (.region id ops false)::k) env:=by
 refine .cn gp hb (.part gp hb Η cr ψ (idx ops.size []) [] η λΔ ζ=>h Δ λenv Χ=>ζ env (.bJ gp hb Χ))
theorem ad.DU (bR:mC b ops i op) (hw:fl env ops op=some true) (hd:g4 nt op=true) {f:FuncId} {args:Array Operand} {ej:Array TypeId} (Κ:op.op=.call ⟨.value (.func f),args,ej⟩) {v:Value} (he:Entry P f (λ_=>pure v)) (h:ad du b cs nt (.inRegion ops rest::k) (b6 op env (.z v))):ad du b cs nt (.inRegion ops (i::rest)::k) env:=by
 intro t I R;obtain⟨s1,s2⟩:=Ib (b:=b) gp hb R hd I (a:=.z v) (v:=v) (.z v);exact gp _ _ ⟨rfl,rfl⟩ (λw=>DJ he bR (j6 R hw) Κ (vs:=args.map (br t)) rfl η η η) (h _ s1 s2)
theorem ad.HL (bR:mC b ops i op) (hw:fl env ops op=some true) (q2:op.dst=none) {f:FuncId} {ej:Array TypeId} (Κ:op.op=.defer ⟨.value (.func f),#[],ej⟩)
  (h:ad du {b with defers:=Go.Conc.dcall f #[]::b.defers} cs nt (.inRegion ops rest::k) env):ad du b cs nt (.inRegion ops (i::rest)::k) env:=by
 intro t I R;refine gp _ (Go.Conc.G (ax {b with defers:=Go.Conc.dcall f #[]::b.defers} t (.inRegion ops rest::k)) cs) ⟨rfl,rfl⟩ (λw=>?_) (h t I R);rw[gB bR.run bR.ro,stepG_defer (a:=⟨t,b.defers⟩) bR.op (j6 R hw) bR.kd Κ];have:(⟨t,Go.Conc.dcall f #[]::b.defers⟩:_root_.Go.Act).put op.dst undef=⟨t,Go.Conc.dcall f #[]::b.defers⟩:=by rw[q2];rfl
 simp only[Array.map_empty,List.map_toArray,List.map_nil];rw[this,gB (b:={b with defers:=Go.Conc.dcall f #[]::b.defers}) bR.run bR.ro];rfl
theorem ad.call (bR:mC b ops i op) (hw:fl env ops op=some true) {args:Array Operand} {ej:Array TypeId} {g:FuncId} (Κ:op.op=.call ⟨.value (.func g),args,ej⟩) {vs:List Value} (p':Ad env args vs) {fn:Func} {body:Code} (cf:P.funcs[g]?=some fn) (u4:(fn.name == "runtime.NumGoroutine")=false) (m6:fn.body=some body) (Ε:vs.length<=fn.ntmps)
  (h:∀t:Array Value,t.size=nt->cX fb [] [] env t->ad du (Frame.enter P g vs.toArray .normal) (ax b t (.inRegion ops (i::rest)::k)::cs) fn.ntmps [.code body] (entry 0 (vs.map θ.z))):ad du b cs nt (.inRegion ops (i::rest)::k) env:=by
 intro t I R;have aX:=h t I R (vs.toArray++Array.replicate (fn.ntmps-vs.length) undef) (by simp;omega) (Yj vs Ε);rw[show vs.toArray++Array.replicate (fn.ntmps-vs.length) undef=vs.toArray++Array.replicate (fn.ntmps-vs.toArray.size) undef by simp,<-nR cf m6] at aX;refine gp _ _ ⟨rfl,rfl⟩ (λw=>?_) aX;have oN:(fn.name == "runtime.NumGoroutine")=false:=u4;have C4:fn.body.isNone=false:=by rw[m6];rfl
 have ι:(execOp (br t) op).run P w=.ok (.enter g vs.toArray) w/\(execOp (br t) op).events P w #[]=#[]:=by
  have e:execOp (br t) op=callFunc g vs.toArray:=by
   unfold execOp;rw[Κ];have:args.map (br t)=vs.toArray:=p'.br R;simp only[resolve];rw[this];simp[Deferred.ofValue,Go.TL.br,invoke]
  rw[e];unfold callFunc;have I:¬fn.name = "runtime.NumGoroutine" := by simpa using oN
  simp[cf,I,m6]
 rw[gB bR.run bR.ro,stepG_enter (a:=⟨t,b.defers⟩) bR.op (j6 R hw) bR.kd (by rw[lQ];exact ι.1)];unfold listed;rw[lQ,ι.2,seen_none]
theorem ad.sD (cr:b.roundOf=none) (eu:b.defers=[]) (gn:b.kind=.normal) {fn:Func} (cf:P.funcs[b.fn]?=some fn) {d:Nat} (e5:fn.results=#[.tmp d]) {v:Value} (hv:bc env d=.z v) {c:Frame}
  (h:du (Go.Conc.G (c.finish v) cs)):ad du b (c::cs) nt (.code .ret::k) env:=by
 intro t I R;have ly:t.getD d undef=v:=by
  have:=R d;rw[hv] at this;generalize t.getD d undef=u at this;cases this;rfl
 refine gp _ (Go.Conc.G {ax b t (.code .ret::k) with mode:=.returning} (c::cs)) ⟨rfl,rfl⟩ (λw=>?_) (gp _ _ ⟨rfl,rfl⟩ (λw=>?_) h)
 ·rw[iW hb];unfold stepG.exec;simp only[ax,cr];rfl
 ·rw[gB hb cr,stepG_leave (a:=⟨t,b.defers⟩) gn eu cf (results_tmp e5 _ P w) (events_results_tmp e5 _ _),ly]
theorem ad.DT (cr:b.roundOf=none) (eu:b.defers=[]) (gn:b.kind=.normal) {fn:Func} (cf:P.funcs[b.fn]?=some fn) (e5:fn.results=#[]) {c:Frame}
  (h:du (Go.Conc.G (c.finish (.tuple #[])) cs)):ad du b (c::cs) nt [] env:=by
 intro t I R;refine gp _ (Go.Conc.G {ax b t [] with mode:=.returning} (c::cs)) ⟨rfl,rfl⟩ (λw=>?_) (gp _ _ ⟨rfl,rfl⟩ (λw=>?_) h)
 ·rw[iW hb];unfold stepG.exec;simp only[ax,cr];rfl
 ·rw[gB hb cr,stepG_leave (a:=⟨t,b.defers⟩) gn eu cf (Go.results_none e5 _ P w) (Go.Conc.events_results_none e5 _ _)]
end
attribute [congr] Ym
attribute [simp] vM Yk Yl xW
def km (P:Program) (Q:Value->Prop) (mn:Bool) (y:aW) (g:Goroutine):Prop:=ir g/\Goes P Q mn g {y with G:=π.empty}
def k7 (P:Program) (d:Nat) (g:Goroutine):Prop:=∃n,QuitsD P n d g
theorem bt {P:Program} {Q:Value->Prop} {mn:Bool} {y:aW} (U:eZ y):Ia P mn (km P Q mn y):=λg g' I R ν=>⟨I,Quiet.goes (.cons I R (.nil _)) U ν.1 ν.2⟩
theorem dU {P:Program} {d:Nat}:Ia P false (k7 P d):=λg g' I R ⟨n,ν⟩=>⟨n+1,.ctl I.1 R ν⟩
section
variable {P:Program} {Q:Value->Prop} {mn:Bool} {y:aW} {b:Frame} {cs:List Frame} {nt:Nat} {k:List Item} {env:ab}
variable {ops:Array Oper} {i:Nat} {rest:List Nat} {op:Oper} {f:FuncId} {e:Array Value->Sem Value} {args:Array Operand} {vs:List Value}
theorem ad.leaves {d:Nat} (ι:y.rel=true) (Ο:∀s,Gone (y.tok s)) (hd:y.deaf=d) (h:ad (k7 P d) b cs nt k env):ad (km P Q false y) b cs nt k env:=λt I R=>by
 obtain⟨n,Ε⟩:=h t I R;subst hd;exact⟨⟨rfl,rfl⟩,Goes.quits n ι Ο Ε⟩
theorem ad.disable (U:eZ y) (h:gQ P b ops i op f (λ_=>do mark .disable;pure Extern.Race.none_) args env [] nt) (ψ:ad (km P Q mn {y with deaf:=y.deaf+1}) b cs nt (.inRegion ops rest::k) (b6 op env nZ)):ad (km P Q mn y) b cs nt (.inRegion ops (i::rest)::k) env:=λt I R=>by
 obtain⟨s2,s1⟩:=q1 R h.dst I (a:=nZ) (v:=.tuple #[]) (.z _);exact⟨⟨rfl,rfl⟩,Goes.step U.ok (.inr ⟨⟨rfl,rfl⟩,.inr (.inl ⟨Go.Conc.G (ax b (put op t (.tuple #[])) (.inRegion ops rest::k)) cs,⟨rfl,rfl⟩,.inl λw _=>
  ⟨h.step R (DL .disable) (DN .disable _) (ra η),(ψ _ s1 s2).2⟩⟩)⟩)⟩
def Ic (P:Program) (Q:Value->Prop) (mn:Bool) (y:aW) (b:Frame) (cs:List Frame) (nt:Nat) (ops:Array Oper) (rest:List Nat) (k:List Item) (op:Oper) (env:ab) (s φ:Nat) (ο:aN) (v:Value):Prop:=
 ad (km P Q mn {y with view:=upd y.view s (some (φ,ο))}) b cs nt (.inRegion ops rest::k) (b6 op env (.z v))
def D9 (P:Program) (Q:Value->Prop) (mn:Bool) (y:aW) (b:Frame) (cs:List Frame) (nt:Nat) (ops:Array Oper) (rest:List Nat) (k:List Item) (op:Oper) (env:ab) (s φ:Nat) (ο:aN) (v:Value) (o':aN) (t':Tok):Prop:=
 Act ο (y.tok s) o' t'/\∀cl,cl<φ->ad (km P Q mn {y with tok:=upd y.tok s t',view:=upd y.view s (some (cl,o'))}) b cs nt (.inRegion ops rest::k) (b6 op env (.z v))
theorem ad.ext (U:eZ y) {s:Nat} {sp:Spec} (b2:y.spec s=some sp) (cQ:¬fQ (y.tok s)) (h:gQ P b ops i op f e args env vs nt)
  (aX:∀(w:World) (φ:Nat) (ο:aN),Seen y s sp φ ο->At s ο w->
   (∃v w' gg,(e vs.toArray).run P w=.ok v w'/\(e vs.toArray).events P w #[⟨.mark (Mark.extern f),false,true⟩]=#[⟨.mark (Mark.extern f),false,true⟩]++gg/\(∀y∈gg,y.sync=true/\∀g,y.loc≠.mark (Mark.extern g))/\
    fv (λΨ _=>ep s sp Ψ) (λ_=>False) w w'/\om s sp y.deaf gg/\
    ((At s ο w'/\Ic P Q mn y b cs nt ops rest k op env s φ ο v)\/∃o' t',At s o' w'/\D9 P Q mn y b cs nt ops rest k op env s φ ο v o' t'))) :
  ad (km P Q mn y) b cs nt (.inRegion ops (i::rest)::k) env:=by
 obtain⟨ej,Κ⟩:=h.call;intro t I R;refine⟨⟨rfl,rfl⟩,Goes.step U.ok (.inr ⟨⟨rfl,rfl⟩,.inr (.inr (.inr (.inl ⟨s,sp,b2,cQ,λw φ ο Υ hv Α bD sY HH=>?_⟩)))⟩)⟩;obtain⟨v,w',gg,a1,a2,ck,fY,hA,l3⟩:=aX w φ ο ⟨Α,sY,HH⟩ bD;have cT:=DJ (mn:=mn) (cs:=cs) (rest:=rest) (k:=k) h.oS h.at_ (j6 R h.want) Κ (h.Ae.br R) a1 a2 ck;refine .inl ?_;rw[cT];obtain⟨s2,s1⟩:=q1 R h.dst I (a:=.z v) (v:=v) (.z _);refine⟨⟨rfl,rfl⟩,fY,hA,?_⟩;rcases l3 with⟨aB,bn⟩|⟨o',t',aB,bn,gO⟩
 ·exact .inl ⟨aB,(bn _ s1 s2).2⟩
 ·exact .inr ⟨o',t',bn,aB,.inl (Ny h.oS h.at_ Κ),λcl ez=>(gO cl ez _ s1 s2).2⟩
section
variable {s:Nat} {sp:Spec} (U:eZ y) (hd:0<y.deaf) (b2:y.spec s=some sp) (cQ:¬fQ (y.tok s))
include U hd b2 cQ
theorem ad.HI (h:gQ P b ops i op f (Extern.Atomic.loadT (.int .u64)) args env [.pointer (some ⟨s,0,none⟩)] nt)
  (dp:∀φ ο,Seen y s sp φ ο->Ic P Q mn y b cs nt ops rest k op env s φ ο (.int .u64 (cJ ο))):ad (km P Q mn y) b cs nt (.inRegion ops (i::rest)::k) env:=by
 refine .ext U b2 cQ h λw φ ο μ bD=>?_;have ε:=bD.cP;refine⟨.int .u64 (cJ ο),w,#[⟨.cell ⟨s,0,none⟩,false,true⟩],?_,?_,rh (rf _ false),fv.refl _ _ _,rb (.inl rfl) hd (rf _ false),.inl ⟨bD,dp φ ο μ⟩⟩
 ·change Sem.run P (do Extern.Atomic.read (.int .u64) (<-asAddr (.pointer (some _)))) w=_;simp[Extern.Atomic.read,asAddr,ε]
 ·change Sem.events P (do Extern.Atomic.read (.int .u64) (<-asAddr (.pointer (some _)))) w _=_;simp[Extern.Atomic.read,asAddr,ε,events_load]
theorem ad.HJ {d:Int} (h:gQ P b ops i op f (Extern.Atomic.update (Op.intArith .add) .u64 true) args env [.pointer (some ⟨s,0,none⟩),.int .u64 d] nt)
  (dp:∀φ ο,Seen y s sp φ ο->∃o' t',cJ o'=IntKind.u64.wrap (cJ ο+d)/\o'.cB=ο.cB/\ri ο o'/\D9 P Q mn y b cs nt ops rest k op env s φ ο (.int .u64 (cJ o')) o' t') :
  ad (km P Q mn y) b cs nt (.inRegion ops (i::rest)::k) env:=by
 refine .ext U b2 cQ h λw φ ο μ bD=>?_;have ε:=bD.cP;have Μ:=bD.tN 0;obtain⟨o',t',I,R,ν,Ι⟩:=dp φ ο μ;rw[I] at Ι;refine⟨_,_,_,run_add_entry ε Μ,(events_add_entry ε Μ _).trans rfl,rh (re ⟨s,0,none⟩),bD.xJ _,rb (.inl rfl) hd (re ⟨s,0,none⟩),.inr ⟨o',t',bD.xI ν.aU ν.g ν.w ?_,Ι⟩⟩;rw[I,R];rfl
theorem ad.Yo {d:Int} (h:gQ P b ops i op f Extern.Atomic.storeT args env [.pointer (some ⟨s,0,none⟩),.int .u64 d] nt)
  (dp:∀φ ο,Seen y s sp φ ο->∃o' t',cJ o'=d/\o'.cB=ο.cB/\ri ο o'/\D9 P Q mn y b cs nt ops rest k op env s φ ο (.tuple #[]) o' t') :
  ad (km P Q mn y) b cs nt (.inRegion ops (i::rest)::k) env:=by
 refine .ext U b2 cQ h λw φ ο μ bD=>?_;have ε:=bD.cP;have Μ:=bD.tN 0;obtain⟨o',t',I,R,ν,Ι⟩:=dp φ ο μ;refine⟨.tuple #[],w.setCell ⟨s,0,none⟩ (.int .u64 d),#[⟨.cell ⟨s,0,none⟩,true,true⟩],?_,?_,rh (rf _ true),bD.xJ _,rb (.inl rfl) hd (rf _ true),.inr ⟨o',t',bD.xI ν.aU ν.g ν.w (by rw[I,R];rfl),Ι⟩⟩
 ·change Sem.run P (do
   store (<-asAddr (.pointer (some _))) (.int .u64 d) .atomic
   pure Extern.Atomic.none_) w=_
  simp[asAddr,ε,Μ,run_store P w _ (.int .u64 d) .atomic rfl,Result.andThen,Extern.Atomic.none_]
 ·change Sem.events P (do
   store (<-asAddr (.pointer (some _))) (.int .u64 d) .atomic
   pure Extern.Atomic.none_) w _=_
  simp[asAddr,ε,Μ,events_store P w _ _ (.int .u64 d) .atomic rfl]
end
section
variable {s:Nat} {sp:Spec} (U:eZ y) (b2:y.spec s=some sp) (cQ:¬fQ (y.tok s))
include U b2 cQ
theorem ad.Yp (ao:vs[0]?=some (.pointer (some ⟨s,1,none⟩))) (h:gQ P b ops i op f Extern.Sync.semrelease args env vs nt)
  (dp:∀φ ο,Seen y s sp φ ο->ο.cB<1000/\∃o' t',cJ o'=cJ ο/\o'.cB=ο.cB+1/\ri ο o'/\D9 P Q mn y b cs nt ops rest k op env s φ ο (.tuple #[]) o' t') :
  ad (km P Q mn y) b cs nt (.inRegion ops (i::rest)::k) env:=by
 refine .ext U b2 cQ h λw φ ο μ bD=>?_;have ε:=bD.Ξ;obtain⟨aI,o',t',I,R,ν,Ι⟩:=dp φ ο μ;refine⟨_,_,_,NI ao ε (bD.tN 1),NJ ao ε (bD.tN 1) _,semEvents_sync _,bD.xJ _,DS (.inl rfl),.inr ⟨o',t',bD.xI ν.aU ν.g ν.w ?_,Ι⟩⟩;rw[I,R,show IntKind.u32.wrap (((ο.cB:Nat):Int)+1)=((ο.cB+1:Nat):Int) by simp only[IntKind.wrap_u32];omega];rfl
end
theorem Om {t:Array Value} (hb:b.mode=.run) (cr:b.roundOf=none) (eu:b.defers=[Go.Conc.dcall f #[]]) (gn:b.kind=.normal) {fn:Func} (cf:P.funcs[b.fn]?=some fn) (e5:fn.results=#[]) (he:Entry P f (λ_=>do mark .enable;pure Extern.Race.none_)) {c:Frame}
  (h:k7 P 0 (Go.Conc.G (c.finish (.tuple #[])) cs)):k7 P 1 (Go.Conc.G {ax b t k with mode:=.returning} (c::cs)):=by
 obtain⟨gΥ,Γ,Θ,bO,cF,eU⟩:=he;obtain⟨n,Ε⟩:=h;rw[gB hb cr];refine⟨n+1+1,QuitsD.unwind_mark (a:=⟨t,b.defers⟩) (ds:=[]) .enable rfl η eu Γ Θ bO cF eU ?_⟩;exact .ctl rfl (λw=>stepG_leave (a:=⟨t,[]⟩) gn rfl cf (Go.results_none e5 _ P w) (Go.Conc.events_results_none e5 _ _)) Ε
theorem ad.H5 (hb:b.mode=.run) (cr:b.roundOf=none) (eu:b.defers=[Go.Conc.dcall f #[]]) (gn:b.kind=.normal) {fn:Func} (cf:P.funcs[b.fn]?=some fn) (e5:fn.results=#[]) (he:Entry P f (λ_=>do mark .enable;pure Extern.Race.none_)) {c:Frame}
  (h:k7 P 0 (Go.Conc.G (c.finish (.tuple #[])) cs)):ad (k7 P 1) b (c::cs) nt (.code .ret::k) env:=λt _ _=>by
 refine dU _ (Go.Conc.G {ax b t (.code .ret::k) with mode:=.returning} (c::cs)) ⟨rfl,rfl⟩ (λw=>?_) (Om hb cr eu gn cf e5 he h);rw[iW hb];unfold stepG.exec;simp only[ax,cr];rfl
theorem ad.Yq (hb:b.mode=.run) (cr:b.roundOf=none) (eu:b.defers=[Go.Conc.dcall f #[]]) (gn:b.kind=.normal) {fn:Func} (cf:P.funcs[b.fn]?=some fn) (e5:fn.results=#[]) (he:Entry P f (λ_=>do mark .enable;pure Extern.Race.none_)) {c:Frame}
  (h:k7 P 0 (Go.Conc.G (c.finish (.tuple #[])) cs)):ad (k7 P 1) b (c::cs) nt [] env:=λt _ _=>by
 refine dU _ (Go.Conc.G {ax b t [] with mode:=.returning} (c::cs)) ⟨rfl,rfl⟩ (λw=>?_) (Om hb cr eu gn cf e5 he h);rw[iW hb];unfold stepG.exec;simp only[ax,cr];rfl
end
def xX (x:aW):aW:={x with aG:=λ_=>none,rel:=true}
theorem V.FE {P:Program} {Q:Value->Prop} {x:aW} {b:Frame} {cs:List Frame} {nt:Nat} {o:Base} {k:List Item} {env:ab} {ops:Array Oper} {i:Nat} {rest:List Nat} {op:Oper} {f:FuncId} {args:Array Operand} (U:x.rel=false) {s n:Nat} {sp:Spec} {mu:lh} {v:Option (Nat×aN)} (b2:x.spec s=some sp) (s7:mu=.done\/(mu=.idle/\sp.aU=none)) (cQ:∀bq,bq≠s->fQ (x.tok bq)) (fz:sp.D n π.empty)
  (h:gQ P b ops i op f (Extern.Race.marked .releaseMerge) args env [.pointer (some ⟨s,0,none⟩)] nt) (he:∀p∈b6 op env nZ,∃v,p.2=θ.z v)
  (ψ:ad (km P Q false (bw (xX x) s (.ch n mu .rel) none 0)) b cs nt (.inRegion ops rest::k) (b6 op env nZ)):V P Q false (one (bw x s (.ch n mu .work) v 0)) b cs nt o (.inRegion ops (i::rest)::k) env []:=by
 intro S B H t κ ς y Φ;cases Φ;have mq:=ς.put h.dst (a:=nZ) (v:=.tuple #[]) (.z _);have Ο:=(ψ _ mq.size (Ar he mq.b5)).2;refine Goes.step (eZ.ok (.inl U)) (.inr ⟨⟨rfl,rfl⟩,.inr (.inr (.inr (.inr (.inr (.inr (.inl ⟨s,sp,n,mu,Go.Conc.G (ax b (put op t (.tuple #[])) (.inRegion ops rest::k)) cs,π.empty,b2,b4 (v:=v) (d:=0),s7,λbq iK=>by
  rw[show({bw x s (.ch n mu .work) v 0 with G:=H}:aW).tok bq=(bw x s (.ch n mu .work) v 0).tok bq from rfl,Ai iK];exact cQ bq iK,rfl,⟨rfl,rfl⟩,U,λw _=>
  h.step ς.b5 (xF .releaseMerge _) (xG .releaseMerge _ _) (ra η),⟨λb o v p ε=>(by cases ε),λb y ε=>(by cases ε),λb y ε=>(by cases ε)⟩,fz,?_⟩))))))⟩)
 have e:({({bw x s (.ch n mu .work) v 0 with G:=H}:aW) with G:=π.empty,aG:=λ_=>none,tok:=upd ({bw x s (.ch n mu .work) v 0 with G:=H}:aW).tok s (.ch n mu .rel),view:=upd ({bw x s (.ch n mu .work) v 0 with G:=H}:aW).view s none,rel:=true}:aW)={bw (xX x) s (.ch n mu .rel) none 0 with G:=π.empty}:=by
  unfold bw xX;simp only[HM]
 exact e▸Ο
end Go.TL
namespace Go.TL
open Go.Conc Go.Proofs
open Go.ConcN (sumTo upd sumTo_upd upd_ne upd_same sumTo_congr le_sumTo)
noncomputable def D':Code:=Tryz.f140.body.getD .skip
noncomputable abbrev Ie (s:Nat):Frame:={Frame.enter Tryz.prog 140 #[ptr s 0,.int .i64 (-1)] .normal with defers:=[Go.Conc.dcall 161 #[]]}
theorem Yr:IntKind.u64.wrap (IntKind.u64.wrap (-1)*2 ^ min 32 IntKind.u64.bits)=18446744069414584320:=a0
theorem Ys:IntKind.u64.wrap (18446744073709551615*2 ^ min 32 IntKind.u64.bits)=18446744069414584320:=a0
theorem Yt:IntKind.u64.wrap (-1)=18446744073709551615:=a0
theorem Ea:IntKind.i32.wrap (-1)=-1:=a0
section
variable {Q:Value->Prop} {c:Frame} {rest:List Frame} {s k:Nat} {sp:Spec} {v:Option (Nat×aN)}
theorem Yu [bj] (Η:k7 Tryz.prog 0 (Go.Conc.G (c.finish (.tuple #[])) rest)) {cc w0:Nat} (I:cc<8) (R:w0<2) (ν:0<cc\/w0=0) {env:ab} (cW:bc env 0=.z (ptr s 0)) (Γ:bc env 1=.z (.int .i64 (-1))) (cF:bc env 4=.z (.bool false)) (lq:bc env 6=.z (.int .u64 (hT cc w0))) :
  ad (k7 Tryz.prog 1) (Ie s) (c::rest) 117 [.code (dI [1,1,1,1] D')] env:=by
 have fin:∀(K:List Item) (env:ab),ad (k7 Tryz.prog 1) (Ie s) (c::rest) 117 (.code .ret::K) env:=λK env=>ad.H5 rfl rfl rfl rfl Tryz.func140 rfl tO Η
 have On:¬(cc:Int)<0:=Int.not_lt.2 (Int.natCast_nonneg _)
 have hw:w0=0\/w0=1:=γ
 have f1:=D4 cc I w0 R
 have f2:=D5 cc I w0 R
 have f3:=D6 cc I w0 R;generalize hT cc w0=w at f1 f2 f3 lq;unfold D';by_cases ς:0<cc
 ·have hO:(0:Int)<cc:=by exact_mod_cast ς
  rcases hw with rfl|rfl
  ·(repeat (first|refine ad.seq dU rfl ?_|refine ad.block dU rfl ?_|refine ad.inBlock dU rfl ?_|refine ad.skip dU rfl ?_|refine ad.mJ dU rfl rfl ?_|refine ad.mK dU rfl rfl ?_|(refine ad.region dU rfl Ρ rfl (by simp[Frame.enter]) λΔ ζ=>?_;(try simp);(repeat (refine gU ?_;simp[cW,Γ,cF,lq,f1,f2,f3,Ea,On,ς,hO]));refine ζ _ ?_)));exact fin _ _
  ·(repeat (first|refine ad.seq dU rfl ?_|refine ad.block dU rfl ?_|refine ad.inBlock dU rfl ?_|refine ad.skip dU rfl ?_|refine ad.mJ dU rfl rfl ?_|refine ad.mK dU rfl rfl ?_|(refine ad.region dU rfl Ρ rfl (by simp[Frame.enter]) λΔ ζ=>?_;(try simp);(repeat (refine gU ?_;simp[cW,Γ,cF,lq,f1,f2,f3,Ea,On,ς,hO]));refine ζ _ ?_)));exact fin _ _
 ·have ao:w0=0:=ν.resolve_left ς
  have jE:cc=0:=Nat.eq_zero_of_not_pos ς;subst ao;subst jE;(repeat (first|refine ad.seq dU rfl ?_|refine ad.block dU rfl ?_|refine ad.inBlock dU rfl ?_|refine ad.skip dU rfl ?_|refine ad.mJ dU rfl rfl ?_|refine ad.mK dU rfl rfl ?_|(refine ad.region dU rfl Ρ rfl (by simp[Frame.enter]) λΔ ζ=>?_;(try simp);(repeat (refine gU ?_;simp[cW,Γ,cF,lq,f1,f2,f3,Ea]));refine ζ _ ?_)));exact fin _ _
structure qi (x:aW) (s:Nat) (sp:Spec):Prop where
 rel:x.rel=true
 spec:x.spec s=some sp
 top:sp.top<7
 shut:∀bq,bq≠s->fQ (x.tok bq)
theorem qi.here {x:aW} (h:qi x s sp) {g:sU} {d:Nat} (Ο:g≠.gone):eZ (bw x s (.ch k .done g) v d):=.inr ⟨s,by rw[b4];cases g<;>simp_all [Gone]⟩
theorem qi.gone {x:aW} (h:qi x s sp) {d:Nat}:∀bq,Gone ((bw x s (.ch k .done .gone) v d).tok bq):=λbq=>by
 by_cases e:bq=s
 ·subst e;rw[b4];trivial
 ·rw[Ai e];have:=h.shut bq e;revert this;cases x.tok bq with
  | nil=>exact λ_=>trivial
  | par n p aF=>cases aF<;>exact λh=>h
  | ch k m g=>exact λh=>h.elim
theorem qi.D7 {x:aW} (ε:qi x s sp) {ο:aN} (h:ο.toSpec=sp):ο.top<7:=by have:=ε.top;rw[show ο.top=sp.top by rw[<-h]];exact this
theorem ad.back [bj] {du:Goroutine->Prop} {b:Frame} {cs:List Frame} {nt:Nat} {k:List Item} {env:ab} {ops:Array Oper} {i:Nat} {rest:List Nat} {op:Oper} {t:Array Value} {v:Value} (Α:ops[i]?=some op) (hd:g4 nt op=true) (Ν:t.size=nt) (μ:cX fb [] [] env t)
  (h:ad du b cs nt (.inRegion ops rest::k) (b6 op env (.z v))):du (Go.Conc.G ((ax b t (.inRegion ops (i::rest)::k)).finish v) cs):=by
 rw[ie Α];obtain⟨s2,s1⟩:=q1 μ hd Ν (a:=.z v) (v:=v) (.z _);exact h _ s1 s2
theorem ad.Oo [bj] {P:Program} {b:Frame} {cs:List Frame} {nt:Nat} {env:ab} (hb:b.mode=.run) (cr:b.roundOf=none) (eu:b.defers=[]) (gn:b.kind=.deferred) {fn:Func} (cf:P.funcs[b.fn]?=some fn) (e5:fn.results=#[]) {c:Frame} (mH:c.mode=.returning)
  (h:k7 P 0 (Go.Conc.G c cs)):ad (k7 P 0) b (c::cs) nt [] env:=λt _ _=>by
 obtain⟨n,Ε⟩:=h;refine dU _ (Go.Conc.G {ax b t [] with mode:=.returning} (c::cs)) ⟨rfl,rfl⟩ (λw=>?_) ⟨n+1,?_⟩
 ·rw[iW hb];unfold stepG.exec;simp only[ax,cr];rfl
 ·rw[gB hb cr];exact QuitsD.leaveD (a:=⟨t,b.defers⟩) gn eu cf e5 mH Ε
theorem Yv [bj] {x:aW} (ε:qi x s sp) {t:Tok} (aX:∀v,eZ (bw x s t v 1)) (cQ:¬fQ t) {cs:List Frame} (dp:∀φ ο,Seen (bw x s t v 1) s sp φ ο->km Tryz.prog Q false (bw x s t (some (φ,ο)) 1) (Go.Conc.G (c.finish (.int .u64 (cJ ο))) cs)) :
  ad (km Tryz.prog Q false (bw x s t v 1)) (Frame.enter Tryz.prog 168 #[ptr s 0] .normal) (c::cs) 7 [.code (Tryz.f168.body.getD .skip)] (entry 0 [.z (ptr s 0)]):=by
 simp only[Tryz.f168,Option.getD_some];(repeat (first|refine ad.seq (bt (aX _)) rfl ?_|refine ad.block (bt (aX _)) rfl ?_|refine ad.inBlock (bt (aX _)) rfl ?_|refine ad.skip (bt (aX _)) rfl ?_|refine ad.mJ (bt (aX _)) rfl rfl ?_|refine ad.mK (bt (aX _)) rfl rfl ?_|(refine ad.region (bt (aX _)) rfl Ρ rfl (by simp[Frame.enter]) λΔ ζ=>?_;(try simp);(repeat (refine gU ?_;simp[cQ]));refine ζ _ ?_)));refine ad.cn (bt (aX _)) rfl ?_;refine ad.part (bt (aX _)) rfl Ρ rfl (by simp[Frame.enter]) [0,1,2] [3,4] rfl λΔ ζ=>?_;(try simp[-vM]);(repeat (refine gU ?_;simp));refine ζ _ ?_;refine ad.HI (aX _) (Nat.succ_pos _) (sp:=sp) ε.spec (by rw[b4];exact cQ) ⟨⟨rfl,rfl,by simp[Frame.enter],rfl⟩,NT,⟨_,rfl⟩,rfl,rfl,rfl⟩ λφ ο μ=>?_;unfold Ic;rw[kl];refine ad.part (bt (aX _)) rfl Ρ rfl (by simp[Frame.enter]) [4] [] rfl λΔ ζ=>?_;(try simp[-vM]);(repeat (refine gU ?_;simp));refine ζ _ ?_;refine ad.bJ (bt (aX _)) rfl ?_;exact ad.sD (bt (aX _)) rfl rfl rfl rfl Tryz.func168 rfl rfl (dp φ ο μ)
theorem Yw [bj] {x:aW} (ε:qi x s sp) {t t':Tok} {d:Int} (aX:∀v,eZ (bw x s t v 1)) (Oq:∀v,eZ (bw x s t' v 1)) (cQ:¬fQ t) {cs:List Frame} (dp:∀φ ο,Seen (bw x s t v 1) s sp φ ο->∃o',cJ o'=d/\o'.cB=ο.cB/\ri ο o'/\Act ο t o' t'/\∀cl,cl<φ->km Tryz.prog Q false (bw x s t' (some (cl,o')) 1) (Go.Conc.G (c.finish (.tuple #[])) cs)) :
  ad (km Tryz.prog Q false (bw x s t v 1)) (Frame.enter Tryz.prog 169 #[ptr s 0,.int .u64 d] .normal) (c::cs) 9 [.code (Tryz.f169.body.getD .skip)] (entry 0 [.z (ptr s 0),.z (.int .u64 d)]):=by
 simp only[Tryz.f169,Option.getD_some];(repeat (first|refine ad.seq (bt (aX _)) rfl ?_|refine ad.block (bt (aX _)) rfl ?_|refine ad.inBlock (bt (aX _)) rfl ?_|refine ad.skip (bt (aX _)) rfl ?_|refine ad.mJ (bt (aX _)) rfl rfl ?_|refine ad.mK (bt (aX _)) rfl rfl ?_|(refine ad.region (bt (aX _)) rfl Ρ rfl (by simp[Frame.enter]) λΔ ζ=>?_;(try simp);(repeat (refine gU ?_;simp[cQ]));refine ζ _ ?_)));refine ad.cn (bt (aX _)) rfl ?_;refine ad.part (bt (aX _)) rfl Ρ rfl (by simp[Frame.enter]) [0,1,2,3] [4] rfl λΔ ζ=>?_;(try simp[-vM]);(repeat (refine gU ?_;simp));refine ζ _ ?_;refine ad.Yo (aX _) (Nat.succ_pos _) (sp:=sp) ε.spec (by rw[b4];exact cQ) ⟨⟨rfl,rfl,by simp[Frame.enter],rfl⟩,XD,⟨_,rfl⟩,rfl,rfl,rfl⟩ λφ ο μ=>?_;obtain⟨o',a1,a2,ck,fY,hA⟩:=dp φ ο μ;refine⟨o',t',a1,a2,ck,by rw[b4];exact fY,λcl ez=>?_⟩;rw[gR];refine ad.bJ (bt (Oq _)) rfl ?_;exact ad.DT (bt (Oq _)) rfl rfl rfl rfl Tryz.func169 rfl (hA cl ez)
theorem Yx [bj] {x:aW} (ε:qi x s sp) {t:Tok} {d:Int} (aX:∀v,eZ (bw x s t v 1)) (cQ:¬fQ t) {cs:List Frame}
  (dp:∀φ ο,Seen (bw x s t v 1) s sp φ ο->∃o' t',cJ o'=IntKind.u64.wrap (cJ ο+d)/\o'.cB=ο.cB/\ri ο o'/\Act ο t o' t'/\∀cl,cl<φ->(((∀v,eZ (bw x s t' v 1))/\km Tryz.prog Q false (bw x s t' (some (cl,o')) 1) (Go.Conc.G (c.finish (.int .u64 (cJ o'))) cs))\/((∀bq,Gone ((bw x s t' (some (cl,o')) 1).tok bq))/\k7 Tryz.prog 1 (Go.Conc.G (c.finish (.int .u64 (cJ o'))) cs)))) :
  ad (km Tryz.prog Q false (bw x s t v 1)) (Frame.enter Tryz.prog 166 #[ptr s 0,.int .u64 d] .normal) (c::cs) 10 [.code (Tryz.f166.body.getD .skip)] (entry 0 [.z (ptr s 0),.z (.int .u64 d)]):=by
 simp only[Tryz.f166,Option.getD_some];(repeat (first|refine ad.seq (bt (aX _)) rfl ?_|refine ad.block (bt (aX _)) rfl ?_|refine ad.inBlock (bt (aX _)) rfl ?_|refine ad.skip (bt (aX _)) rfl ?_|refine ad.mJ (bt (aX _)) rfl rfl ?_|refine ad.mK (bt (aX _)) rfl rfl ?_|(refine ad.region (bt (aX _)) rfl Ρ rfl (by simp[Frame.enter]) λΔ ζ=>?_;(try simp);(repeat (refine gU ?_;simp[cQ]));refine ζ _ ?_)));refine ad.cn (bt (aX _)) rfl ?_;refine ad.part (bt (aX _)) rfl Ρ rfl (by simp[Frame.enter]) [0,1,2,3] [4,5] rfl λΔ ζ=>?_;(try simp[-vM]);(repeat (refine gU ?_;simp));refine ζ _ ?_;refine ad.HJ (aX _) (Nat.succ_pos _) (sp:=sp) ε.spec (by rw[b4];exact cQ) ⟨⟨rfl,rfl,by simp[Frame.enter],rfl⟩,NS,⟨_,rfl⟩,rfl,rfl,rfl⟩ λφ ο μ=>?_;obtain⟨o',t',a1,a2,ck,fY,hA⟩:=dp φ ο μ;refine⟨o',t',a1,a2,ck,by rw[b4];exact fY,λcl ez=>?_⟩;rw[gR];rcases hA cl ez with⟨bK,da⟩|⟨bK,da⟩
 ·refine ad.part (bt (bK _)) rfl Ρ rfl (by simp[Frame.enter]) [5] [] rfl λΔ ζ=>?_;(try simp[-vM]);(repeat (refine gU ?_;simp));refine ζ _ ?_;refine ad.bJ (bt (bK _)) rfl ?_;exact ad.sD (bt (bK _)) rfl rfl rfl rfl Tryz.func166 rfl rfl da
 ·refine ad.leaves (d:=1) ε.rel bK rfl ?_;refine ad.part dU rfl Ρ rfl (by simp[Frame.enter]) [5] [] rfl λΔ ζ=>?_;(try simp[-vM]);(repeat (refine gU ?_;simp));refine ζ _ ?_;refine ad.bJ dU rfl ?_;exact ad.sD dU rfl rfl rfl rfl Tryz.func166 rfl rfl da
theorem Yy [bj] {x:aW} (ε:qi x s sp) (Η:k7 Tryz.prog 0 (Go.Conc.G (c.finish (.tuple #[])) rest)) {env:ab} (cW:bc env 0=.z (ptr s 0)) (Γ:bc env 1=.z (.int .i64 (-1))) (cF:bc env 4=.z (.bool false)) (lq:bc env 6=.z (.int .u64 (hT 0 1))) :
  ad (km Tryz.prog Q false (bw x s (.ch k .done .l2) v 1)) (Ie s) (c::rest) 117 [.code (dI [1,1,1,1] D')] env:=by
 have f1:=D4 0 a0 1 a0
 have f2:=D5 0 a0 1 a0
 have f3:=D6 0 a0 1 a0
 have k6:hT 0 1=1:=a0;generalize hw:hT 0 1=w at f1 f2 f3 lq;have R:=ε.here (k:=k) (v:=v) (d:=1) (g:=.l2) η;unfold D';(repeat (first|refine ad.seq (bt R) rfl ?_|refine ad.block (bt R) rfl ?_|refine ad.inBlock (bt R) rfl ?_|refine ad.skip (bt R) rfl ?_|refine ad.mJ (bt R) rfl rfl ?_|refine ad.mK (bt R) rfl rfl ?_|(refine ad.region (bt R) rfl Ρ rfl (by simp[Frame.enter]) λΔ ζ=>?_;(try simp);(repeat (refine gU ?_;simp[cW,Γ,cF,lq,f1,f2,f3,Ea]));refine ζ _ ?_)));refine ad.cn (bt R) rfl ?_;refine ad.part (bt R) rfl Ρ rfl (by simp[Frame.enter]) [0,1,2] [3,4,5] rfl λΔ ζ=>?_;(repeat (refine gU ?_;simp[cW]));refine ζ _ ?_;refine ad.call (bt R) rfl ⟨rfl,rfl,by simp[Frame.enter],rfl⟩ rfl rfl (vs:=[ptr s 0]) rfl Tryz.func168 rfl rfl (by simp[Tryz.ntmps168]) λt Ν μ=>?_;have hg:∀v,eZ (bw x s (.ch k .done .l2) v 1):=λv=>ε.here η;have jU:∀v,eZ (bw x s (.ch k .done .hz) v 1):=λv=>ε.here η;refine Yv ε hg id λφ ο rl=>?_;have ψ:=rl.jj.sH;rw[b4] at ψ;obtain⟨Ξ,ah⟩:=ψ.l2 k _ rfl;have qH:cJ ο=w:=by rw[<-hw];simp only[cJ,Ξ,ah]
 rw[qH];refine ad.back rfl rfl Ν μ ?_;refine ad.part (bt (hg _)) rfl Ρ rfl (by simp[Frame.enter]) [4,5] [] rfl λΔ ζ=>?_;(repeat (refine gU ?_;simp[lq]));refine ζ _ ?_;refine ad.bJ (bt (hg _)) rfl ?_;(repeat (first|refine ad.seq (bt (hg _)) rfl ?_|refine ad.block (bt (hg _)) rfl ?_|refine ad.inBlock (bt (hg _)) rfl ?_|refine ad.skip (bt (hg _)) rfl ?_|refine ad.mJ (bt (hg _)) rfl rfl ?_|refine ad.mK (bt (hg _)) rfl rfl ?_|(refine ad.region (bt (hg _)) rfl Ρ rfl (by simp[Frame.enter]) λΔ ζ=>?_;(try simp);(repeat (refine gU ?_;simp[cW]));refine ζ _ ?_)));refine ad.cn (bt (hg _)) rfl ?_;refine ad.part (bt (hg _)) rfl Ρ rfl (by simp[Frame.enter]) [0,1,2] [3] rfl λΔ ζ=>?_;(repeat (refine gU ?_;simp[cW]));refine ζ _ ?_;refine ad.call (bt (hg _)) rfl ⟨rfl,rfl,by simp[Frame.enter],rfl⟩ rfl rfl (vs:=[ptr s 0,.int .u64 0]) rfl Tryz.func169 rfl rfl (by simp[Tryz.ntmps169]) λt3 Yz rk=>?_;refine Yw ε (t':=.ch k .done .hz) hg jU id λAu YA YB=>?_;have o4:=YB.jj.sH;rw[b4] at o4;obtain⟨aR,ca⟩:=o4.l2 k _ rfl;refine⟨{YA with wt:=0},by simp only[cJ,ca];rfl,rfl,⟨rfl,rfl,rfl⟩,.QQ,λgΦ gΧ=>?_⟩;refine ad.back rfl rfl Yz rk ?_;refine ad.bJ (bt (jU _)) rfl ?_;(repeat (first|refine ad.seq (bt (jU _)) rfl ?_|refine ad.block (bt (jU _)) rfl ?_|refine ad.inBlock (bt (jU _)) rfl ?_|refine ad.skip (bt (jU _)) rfl ?_|refine ad.mJ (bt (jU _)) rfl rfl ?_|refine ad.mK (bt (jU _)) rfl rfl ?_|(refine ad.region (bt (jU _)) rfl Ρ rfl (by simp[Frame.enter]) λΔ ζ=>?_;(try simp);(repeat (refine gU ?_;simp[cW,cF]));refine ζ _ ?_)));refine ad.loop (bt (jU _)) rfl ?_;(repeat (first|refine ad.seq (bt (jU _)) rfl ?_|refine ad.block (bt (jU _)) rfl ?_|refine ad.inBlock (bt (jU _)) rfl ?_|refine ad.skip (bt (jU _)) rfl ?_|refine ad.mJ (bt (jU _)) rfl rfl ?_|refine ad.mK (bt (jU _)) rfl rfl ?_|(refine ad.region (bt (jU _)) rfl Ρ rfl (by simp[Frame.enter]) λΔ ζ=>?_;(try simp);(repeat (refine gU ?_;simp[cW,cF]));refine ζ _ ?_)));refine ad.cn (bt (jU _)) rfl ?_;refine ad.part (bt (jU _)) rfl Ρ rfl (by simp[Frame.enter]) [0,1,2] [3] rfl λΔ ζ=>?_;(repeat (refine gU ?_;simp[cW]));refine ζ _ ?_;refine ad.Yp (jU _) (sp:=sp) ε.spec (by rw[b4];exact id) (vs:=[ptr s 1,.bool false,.int .i64 0]) rfl ⟨⟨rfl,rfl,by simp[Frame.enter],rfl⟩,XI,⟨_,rfl⟩,rfl,rfl,rfl⟩ λgΨ Ot YC=>?_;have Ou:=YC.jj.sH;rw[b4] at Ou;refine⟨by have:=Ou.cB;omega,{Ot with cB:=Ot.cB+1},.ch k .done .gone,rfl,rfl,⟨rfl,rfl,rfl⟩,by rw[b4];exact .QR,λgΩ hα=>?_⟩;rw[gR];refine ad.leaves (d:=1) ε.rel ε.gone rfl ?_;refine ad.bJ dU rfl ?_;(repeat (first|refine ad.seq dU rfl ?_|refine ad.block dU rfl ?_|refine ad.inBlock dU rfl ?_|refine ad.skip dU rfl ?_|refine ad.mJ dU rfl rfl ?_|refine ad.mK dU rfl rfl ?_|(refine ad.region dU rfl Ρ rfl (by simp[Frame.enter]) λΔ ζ=>?_;(try simp);(repeat (refine gU ?_;simp[cW,D8]));refine ζ _ ?_)));refine ad.inLoop dU rfl ?_;(repeat (first|refine ad.seq dU rfl ?_|refine ad.block dU rfl ?_|refine ad.inBlock dU rfl ?_|refine ad.skip dU rfl ?_|refine ad.mJ dU rfl rfl ?_|refine ad.mK dU rfl rfl ?_|(refine ad.region dU rfl Ρ rfl (by simp[Frame.enter]) λΔ ζ=>?_;(try simp);(repeat (refine gU ?_;simp[cW,D8]));refine ζ _ ?_)));refine ad.exit dU rfl rfl ?_;exact ad.Yq rfl rfl rfl rfl Tryz.func140 rfl tO Η
structure Ov (x:aW) (s:Nat) (sp:Spec):Prop where
 rel:x.rel=false
 aG:x.aG=λ_=>none
 spec:x.spec s=some sp
 top:sp.top<7
 shut:∀bq,bq≠s->fQ (x.tok bq)
theorem YD {x:aW} {H:π} (ε:Ov x s sp) (fz:sp.D k π.empty) (mH:c.mode=.returning) (Η:k7 Tryz.prog 0 (Go.Conc.G c rest)) :
  cm Tryz.prog Q false (bw x s (.ch k .done .work) v 0) (Frame.enter Tryz.prog 142 #[ptr s 0] .deferred) (c::rest) H:=by
 letI:bj:=eP;have U:∀t v d,Seq (one (bw x s t v d)):=λt v d=>Seq.tM trivial ε.rel ε.aG;have Ο:qi (xX x) s sp:=⟨rfl,ε.spec,ε.top,ε.shut⟩;have ι:∀v d,eZ (bw (xX x) s (.ch k .done .rel) v d):=λv d=>Ο.here η;have υ:∀v d,eZ (bw (xX x) s (.ch k .done .l2) v d):=λv d=>Ο.here η;rw[nR (body:=Tryz.f142.body.getD .skip) Tryz.func142 rfl];refine V.here (x:=one _) (m:=0) (nt:=4) (S:=fb) (B:=[]) (σ:=[]) (env:=entry 0 [.z (ptr s 0)]) ?_ (fi.enter (xQ H) ⟨rfl,λi a v I R=>?_⟩ (Nat.le_refl _) η) _ rfl
 ·refine V.eY (U _ _ _) rfl ?_;simp only[Tryz.f142,Option.getD_some];refine cI ?_;refine W.cn ?_;refine fp [0] [1] ?_;refine W.stop ?_;refine V.call (U _ _ _) ⟨rfl,rfl,by simp[Frame.enter],rfl⟩ rfl rfl rfl ⟨_,Tryz.func140,rfl,rfl⟩ λbz bB H1 t1 oZ κ ς hv=>?_;obtain rfl:=mD (l:=[ptr s 0,.int .i64 (-1)]) hv;obtain rfl:bB=[]:=dB.1 ς.holds.len;rintro y rfl;refine V.qb (z:=one _) (vs:=[ptr s 0,.int .i64 (-1)]) Tryz.func140 rfl ς.holds (by simp[Tryz.ntmps140]) ?_ _ rfl;refine V.eY (U _ _ _) rfl ?_;refine hr ?_;refine W.cn ?_;refine fp [0] [1,2] ?_;refine W.stop ?_;refine V.conv (U _ _ _).here (sp:=sp) ε.spec (by rw[b4];exact id) ⟨rfl,rfl,by simp[Frame.enter],rfl⟩ rfl rfl rfl HU tP HV rfl (λο w Α bD=>⟨_,bD.cP⟩) (λφ ο μ=>?_);unfold h3;rw[kl];refine V.FE ε.rel (sp:=sp) ε.spec (.inl rfl) ε.shut fz ⟨⟨rfl,rfl,by simp[Frame.enter],rfl⟩,NP,⟨_,rfl⟩,rfl,rfl,rfl⟩ η ?_;refine ad.bJ (bt (ι _ _)) rfl ?_;(repeat (first|refine ad.seq (bt (ι _ _)) rfl ?_|refine ad.block (bt (ι _ _)) rfl ?_|refine ad.inBlock (bt (ι _ _)) rfl ?_|refine ad.skip (bt (ι _ _)) rfl ?_|refine ad.mJ (bt (ι _ _)) rfl rfl ?_|refine ad.mK (bt (ι _ _)) rfl rfl ?_|(refine ad.region (bt (ι _ _)) rfl Ρ rfl (by simp[Frame.enter]) λΔ ζ=>?_;(try simp);(repeat (refine gU ?_;simp[mH]));refine ζ _ ?_)));refine ad.cn (bt (ι _ _)) rfl ?_;refine ad.disable (ι _ _) ⟨⟨rfl,rfl,by simp[Frame.enter],rfl⟩,Ak,⟨_,rfl⟩,rfl,rfl,rfl⟩ ?_;rw[Ag];refine ad.bJ (bt (ι _ _)) rfl ?_;refine ad.cn (bt (ι _ _)) rfl ?_;refine ad.HL (bt (ι _ _)) rfl ⟨rfl,rfl,by simp[Frame.enter],rfl⟩ rfl rfl rfl ?_;refine ad.bJ (bt (ι _ _)) rfl ?_;(repeat (first|refine ad.seq (bt (ι _ _)) rfl ?_|refine ad.block (bt (ι _ _)) rfl ?_|refine ad.inBlock (bt (ι _ _)) rfl ?_|refine ad.skip (bt (ι _ _)) rfl ?_|refine ad.mJ (bt (ι _ _)) rfl rfl ?_|refine ad.mK (bt (ι _ _)) rfl rfl ?_|(refine ad.region (bt (ι _ _)) rfl Ρ rfl (by simp[Frame.enter]) λΔ ζ=>?_;(try simp);(repeat (refine gU ?_;simp[mH]));refine ζ _ ?_)));refine ad.cn (bt (ι _ _)) rfl ?_;refine ad.DU (bt (ι _ _)) rfl ⟨rfl,rfl,by simp[Frame.enter],rfl⟩ rfl rfl rfl NQ ?_;refine ad.bJ (bt (ι _ _)) rfl ?_;(repeat (first|refine ad.seq (bt (ι _ _)) rfl ?_|refine ad.block (bt (ι _ _)) rfl ?_|refine ad.inBlock (bt (ι _ _)) rfl ?_|refine ad.skip (bt (ι _ _)) rfl ?_|refine ad.mJ (bt (ι _ _)) rfl rfl ?_|refine ad.mK (bt (ι _ _)) rfl rfl ?_|(refine ad.region (bt (ι _ _)) rfl Ρ rfl (by simp[Frame.enter]) λΔ ζ=>?_;(try simp);(repeat (refine gU ?_;simp[mH]));refine ζ _ ?_)));refine ad.cn (bt (ι _ _)) rfl ?_;refine ad.part (bt (ι _ _)) rfl Ρ rfl (by simp[Frame.enter]) [0,1,2,3,4,5] [6,7] rfl λΔ ζ=>?_;(repeat (refine gU ?_;simp[Yt,Yr,Ys]));refine ζ _ ?_;refine ad.call (bt (ι _ _)) rfl ⟨rfl,rfl,by simp[Frame.enter],rfl⟩ rfl rfl (vs:=[ptr s 0,.int .u64 18446744069414584320]) rfl Tryz.func166 rfl rfl (by simp[Tryz.ntmps166]) λt2 Ow dk=>?_;refine Yx Ο (λv=>ι v 1) id λφ ο rk=>?_;have ψ:=rk.jj.sH;rw[b4] at ψ;have e4:1<=ο.cnt:=ψ.live;have gC:=Ο.D7 rk.spec;have xU:=ψ.cnt;have qF:=ψ.wt;obtain⟨cc,kQ⟩:=aO (ο.cnt-1);have Ax:ο.cnt<8/\0<ο.cnt/\cc<8/\ο.wt<2:=γ;have Ox:cJ {ο with cnt:=cc}=IntKind.u64.wrap (cJ ο+18446744069414584320):=by
   rw[tR,tR,X6 ο.cnt Ax.1 ο.wt Ax.2.2.2 Ax.2.1,kQ]
  by_cases kH:ο.cnt=1/\ο.wt=1
  ·have jE:cc=0:=by omega
   refine⟨{ο with cnt:=cc},.ch k .done .l2,Ox,rfl,⟨rfl,rfl,rfl⟩,by rw[kQ];exact .QO kH.1 kH.2,λcl ez=>.inl ⟨λv=>υ v 1,?_⟩⟩;have qH:cJ {ο with cnt:=cc}=hT 0 1:=by rw[tR,jE];simp only[kH.2]
   rw[qH];refine ad.back rfl rfl Ow dk ?_;refine ad.part (bt (υ _ _)) rfl Ρ rfl (by simp[Frame.enter]) [7] [] rfl λΔ ζ=>?_;(repeat (refine gU ?_;simp));refine ζ _ ?_;refine ad.bJ (bt (υ _ _)) rfl ?_;refine Yy Ο ?_ rfl rfl rfl rfl;exact ad.back (nt:=4) rfl rfl ς.size (Ar η ς.b5) (ad.bJ dU rfl (ad.Oo rfl rfl rfl rfl Tryz.func142 rfl mH Η))
  ·refine⟨{ο with cnt:=cc},.ch k .done .gone,Ox,rfl,⟨rfl,rfl,rfl⟩,by rw[kQ];exact .QP γ,λcl ez=>.inr ⟨Ο.gone,?_⟩⟩;have qH:cJ {ο with cnt:=cc}=hT cc ο.wt:=rfl;rw[qH];refine ad.back rfl rfl Ow dk ?_;refine ad.part dU rfl Ρ rfl (by simp[Frame.enter]) [7] [] rfl λΔ ζ=>?_;(repeat (refine gU ?_;simp));refine ζ _ ?_;refine ad.bJ dU rfl ?_;refine Yu ?_ (cc:=cc) (w0:=ο.wt) Ax.2.2.1 Ax.2.2.2 γ rfl rfl rfl rfl;exact ad.back (nt:=4) rfl rfl ς.size (Ar η ς.b5) (ad.bJ dU rfl (ad.Oo rfl rfl rfl rfl Tryz.func142 rfl mH Η))
 ·cases i with
  | zero=>simp at I R;subst I;subst R;exact .z _
  | succ i=>simp at I
end
end Go.TL
