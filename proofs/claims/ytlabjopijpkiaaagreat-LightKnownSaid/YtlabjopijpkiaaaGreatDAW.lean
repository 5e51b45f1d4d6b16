import Derived.Test.YtlabjopijpkiaaaGreatDAV
set_option maxHeartbeats 16000000
set_option maxRecDepth 20000
set_option linter.unusedSectionVars false
set_option linter.unusedSimpArgs false
set_option linter.unusedVariables false
namespace Go.TL
open Go.Conc Go.Proofs
open Go.ConcN (sumTo upd sumTo_upd upd_ne upd_same sumTo_congr le_sumTo)
structure jm (x:aW) (s m:Nat) (sp:Spec):Prop where
 rel:x.rel=false
 aG:x.aG=λ_=>none
 spec:x.spec s=some sp
 aU:sp.aU=some m
 top:sp.top<7
 still:∀bq,bq≠s->mW (x.tok bq)
theorem jm.seq {x:aW} {s m:Nat} {sp:Spec} (h:jm x s m sp):∀t v d,@Seq eP (one (bw x s t v d)):=λt v d=>@Seq.tM eP _ trivial h.rel h.aG
theorem cm.XJ [bj] {P:Program} {Q:Value->Prop} {mn:Bool} {x:aW} {c b:Frame} {rest:List Frame} {H:π} {t:Array Value} {ops:Array Oper} {k:List Item} {fn:Func} (U:Seq (one x)) (hb:b.mode=.run) (cr:b.roundOf=none) (eu:b.defers=[]) (gn:b.kind=.normal) (cf:P.funcs[b.fn]?=some fn) (e5:fn.results=#[])
  (h:cm P Q mn x (c.finish (.tuple #[])) rest H):cm P Q mn x (ax b t (.inRegion ops []::.code .ret::k)) (c::rest) H:=by
 refine aE.bJ (x:=one x) U hb (.ret U hb cr (.back U rfl eu (.inl gn) cf ?_)) x rfl;rw[results_none e5];exact ξ.pure' (λy Φ=>by cases Φ;exact h)
abbrev ptr (b o:Nat):Value:=.pointer (some ⟨b,o,none⟩)
section
variable {Q:Value->Prop} {mn:Bool} {x:aW} {c:Frame} {rest:List Frame} {S:aD} {B:aP} {σ:List Row} {H:π} {s m k:Nat} {sp:Spec} {v:Option (Nat×aN)}
def sI (Q:Value->Prop) (mn:Bool) (x:aW) (c:Frame) (rest:List Frame) (S:aD) (H:π) (s k:Nat) (sp:Spec):Prop:=
 ∀(az:aD) (H':π) (L:List Nat) (E:π),Ext S [] H az [] H'->Holds az [] [] H'->sp.bb L E->Apart H' E->(L.Nodup/\k∉L/\∃w,Fits H' w/\Fits E w)->cm Tryz.prog Q mn (bw x s (.ch k (.dj L) .work) none 0) (c.finish (.tuple #[])) rest (join H' E)
def NY (Q:Value->Prop) (mn:Bool) (x:aW) (s m k:Nat) (sp:Spec):Prop:=∀(c:Frame) (rest:List Frame) (S:aD) (B:aP) (σ:List Row) (H:π) (v:Option (Nat×aN)),Holds S B σ H->sI Q mn x c rest S H s k sp->
 cm Tryz.prog Q mn (bw x s (.ch k (.act false) .work) v 1) (Frame.enter Tryz.prog 213 #[ptr m 0] .normal) (c::rest) H
theorem XK (ε:jm x s m sp) (χ:Holds S B σ H) (XL:NY Q mn x s m k sp)
  (Η:sI Q mn x c rest S H s k sp):cm Tryz.prog Q mn (bw x s (.ch k .idle .work) v 0) (Frame.enter Tryz.prog 175 #[ptr m 0] .normal) (c::rest) H:=by
 letI:bj:=eP;have U:=ε.seq;refine V.qb (z:=one _) (vs:=[ptr m 0]) Tryz.func175 rfl χ (by simp[Tryz.ntmps175]) ?_ _ rfl;refine V.b3 (U _ _ _) ?_;refine cI ?_;refine W.cn (.stop ?_);refine V.disable (U _ _ _).here ⟨⟨rfl,rfl,by simp[Frame.enter],rfl⟩,Ak,⟨_,rfl⟩,rfl,rfl,rfl⟩ ?_;rw[Ag];refine V.b3 (U _ _ _) ?_;refine W.bJ ?_;refine cI ?_;refine W.cn ?_;refine fp [0,1,2] [3] ?_;refine W.stop ?_;refine V.DR (U _ _ _).here (Nat.succ_pos _) (sp:=sp) ε.spec (by rw[b4];exact id) ε.aU ⟨⟨rfl,rfl,by simp[Frame.enter],rfl⟩,DY,⟨_,rfl⟩,rfl,rfl,rfl⟩ (λφ ο μ hv=>?_) (λφ ο μ hv=>?_)
 ·refine .inr ⟨.ch k (.act false) .work,by rw[b4];exact .QH,λcl _=>?_⟩;rw[gR];refine V.b3 (U _ _ _) ?_;refine W.bJ ?_;refine cI ?_;refine ay rfl ?_;refine cI ?_;refine W.cn ?_;refine fp [0] [1] ?_;refine W.stop ?_;refine V.call (U _ _ _) ⟨rfl,rfl,by simp[Frame.enter],rfl⟩ rfl rfl rfl ⟨_,Tryz.func213,rfl,rfl⟩ λbz bB H1 t1 oZ κ ς hv=>?_;obtain rfl:=mD (l:=[ptr m 0]) hv;rintro y rfl;refine XL _ _ bz bB _ H1 _ ς.holds λcL bH L E n1 iU dy iw vJ=>?_;rw[ie rfl];refine cm.leave0 (U _ _ _) rfl rfl rfl rfl Tryz.func175 rfl ?_;obtain rfl:bB=[]:=dB.1 ς.holds.len;exact Η cL bH L E (κ.ext.trans n1) iU dy iw vJ
 ·have ao:ο.cb=0/\ο.sv=0/\ο.wk=0/\ο.nw=0:=by simp only[mwd] at hv;omega
  refine⟨{ο with cb:=1},.ch k .own .work,by simp[mwd];omega,rfl,⟨rfl,rfl,rfl⟩,by rw[b4];exact .QG ao.1 ao.2.1 ao.2.2.1 ao.2.2.2,λcl _=>?_⟩;rw[gR];refine V.b3 (U _ _ _) ?_;refine W.bJ ?_;refine cI ?_;refine aA rfl ?_;refine cI ?_;refine aA rfl ?_;refine cI ?_;refine W.cn (.stop ?_);refine V.enable (U _ _ _).here (Nat.succ_pos _) ⟨⟨rfl,rfl,by simp[Frame.enter],rfl⟩,tO,⟨_,rfl⟩,rfl,rfl,rfl⟩ ?_;rw[Ah];refine V.b3 (U _ _ _) ?_;refine W.bJ ?_;refine cI ?_;refine W.cn ?_;refine fp [0] [1,2] ?_;refine W.stop ?_;refine V.conv (U _ _ _).here (sp:=sp) ε.spec (by rw[b4];exact id) ⟨rfl,rfl,by simp[Frame.enter],rfl⟩ rfl rfl rfl HS tP HT rfl (λο w Α bD=>⟨_,bD.dJ (by rw[Α];exact ε.aU)⟩) (λφ ο μ=>?_);unfold h3;rw[kl];refine V.BN ε.rel rfl (sp:=sp) ε.spec ε.aU b4 ⟨⟨rfl,rfl,by simp[Frame.enter],rfl⟩,DX,⟨_,rfl⟩,rfl,rfl,rfl⟩ λbz bB H1 t1 L E κ ς dy iw vJ=>?_;rw[gR];obtain rfl:bB=[]:=dB.1 ς.holds.len;refine cm.XJ (U _ _ _) rfl rfl rfl rfl Tryz.func175 rfl ?_;exact Η bz H1 L E κ.ext ς.holds dy iw vJ
end
def dI:List Nat->Code->Code
 | [],c=>c
 | 0::l,.seq a _=>dI l a
 | _::l,.seq _ b=>dI l b
 | 0::l,.cond _ a _=>dI l a
 | _::l,.cond _ _ b=>dI l b
 | _::l,.block _ c=>dI l c
 | _::l,.loop c=>dI l c
 | _,c=>c
noncomputable def qf:Code:=Tryz.f213.body.getD .skip
noncomputable def mF:Code:=dI [1,1,1,1,1,0,0,0] qf
noncomputable def qg:Code:=dI [0,1] mF
noncomputable def rj:Code:=dI [1,1,1,1,1] qg
noncomputable def mG:Code:=dI [1,0] rj
noncomputable def Al:Code:=dI [1,1,1,1,1,1] qf
noncomputable def k4:List Item:=[.inLoop mF,.inBlock 0,.code Al]
abbrev jT (Q:Value->Prop) (mn:Bool) (x:aW) (c:Frame) (rest:List Frame) (S:aD) (H:π) (s m:Nat) (t:Tok) (v:Option (Nat×aN)) (d:Nat) (K:List Item) (env:ab):Prop:=
 V Tryz.prog Q mn (one (bw x s t v d)) (Frame.enter Tryz.prog 213 #[ptr m 0] .normal) (c::rest) 139 ⟨S,[],H,[],0⟩ K env []
def cV (m:Nat) (w:Int) (aw st:Bool) (it τ:Int):ab:=[(0,.z (ptr m 0)),(2,.z (.int .i64 τ)),(3,.z (.bool st)),(4,.z (.bool aw)),(5,.z (.int .i64 it)),(6,.z (.int .i32 w))]
def o7 (a b c n:Nat) (aw st:Bool):Int:=
 if a=0/\c=0 then gS 1 (if aw then 0 else b) 0 n else gS a (if aw then 0 else b) (if st=true/\a=1 then 1 else c) (n+1)
section
variable {Q:Value->Prop} {mn:Bool} {x:aW} {c:Frame} {rest:List Frame} {S:aD} {B:aP} {σ:List Row} {H:π} {s m k:Nat} {sp:Spec} {v:Option (Nat×aN)} {t:Tok}
theorem XM (ε:jm x s m sp) {a b dQ n:Nat} {aw st:Bool} {it τ:Int} (κ:a<2) (hb:b<2) (jE:dQ<2) (Ε:n<7) (XN:aw=true->dQ=0/\b=1) (cT:st=true->aw=true)
  (hC:jT Q mn x c rest S H s m t v 1 (.code (dI [0] rj)::.code (dI [1] rj)::.inBlock 1::k4) (cV m (gS a b dQ n) aw st it τ++[(7,.z (.int .i32 (o7 a b dQ n aw st)))])) :
  jT Q mn x c rest S H s m t v 1 (.code qg::.inBlock 1::k4) (cV m (gS a b dQ n) aw st it τ):=by
 letI:bj:=eP;have U:=ε.seq;have hQ:(a=0\/a=1)/\(dQ=0\/dQ=1):=γ;have cF:=HP a κ b hb dQ jE n γ;have eU:=HO a κ b hb dQ jE n γ;have Γ:=Xv a κ b hb dQ jE n γ;have dG:=Xw a κ b hb dQ jE n γ;have qh:=Xz a κ b hb dQ jE n Ε;refine V.b3 (U _ _ _) ?_;unfold qg mF qf;cases aw with
 | false=>
  have μ:st=false:=by cases st<;>simp_all
  subst μ;rcases hQ with⟨rfl|rfl,rfl|rfl⟩
  ·(repeat (first|apply gM|apply wb|apply g6|apply wd|refine aA rfl ?_|refine ay rfl ?_|(refine cM λΔ ζ=>?_;simp;(repeat (rw[ae];simp[cV,cF,eU,dG]));apply ζ)));exact W.forget _ (by simp[cV,o7]) (.stop hC)
  ·(repeat (first|apply gM|apply wb|apply g6|apply wd|refine aA rfl ?_|refine ay rfl ?_|(refine cM λΔ ζ=>?_;simp;(repeat (rw[ae];simp[cV,cF,eU,qh]));apply ζ)));exact W.forget _ (by simp[cV,o7]) (.stop hC)
  ·(repeat (first|apply gM|apply wb|apply g6|apply wd|refine aA rfl ?_|refine ay rfl ?_|(refine cM λΔ ζ=>?_;simp;(repeat (rw[ae];simp[cV,cF,eU,dG,qh]));apply ζ)));exact W.forget _ (by simp[cV,o7]) (.stop hC)
  ·(repeat (first|apply gM|apply wb|apply g6|apply wd|refine aA rfl ?_|refine ay rfl ?_|(refine cM λΔ ζ=>?_;simp;(repeat (rw[ae];simp[cV,cF,eU,qh]));apply ζ)));exact W.forget _ (by simp[cV,o7]) (.stop hC)
 | true=>
  obtain⟨rfl,rfl⟩:=XN rfl;rcases hQ with⟨rfl|rfl,-⟩
  ·have eD:=DW 1 γ 1 γ 0 γ n γ
   have p2:=HQ 1 γ 1 γ 0 γ n γ;cases st
   ·(repeat (first|apply gM|apply wb|apply g6|apply wd|refine aA rfl ?_|refine ay rfl ?_|(refine cM λΔ ζ=>?_;simp;(repeat (rw[ae];simp[cV,cF,eU,dG,eD,p2]));apply ζ)));exact W.forget _ (by simp[cV,o7]) (.stop hC)
   ·(repeat (first|apply gM|apply wb|apply g6|apply wd|refine aA rfl ?_|refine ay rfl ?_|(refine cM λΔ ζ=>?_;simp;(repeat (rw[ae];simp[cV,cF,eU,Γ,dG,eD,p2]));apply ζ)));exact W.forget _ (by simp[cV,o7]) (.stop hC)
  ·cases st
   ·have eD:=DW 1 γ 1 γ 0 γ (n+1) γ
    have p2:=HQ 1 γ 1 γ 0 γ (n+1) γ;(repeat (first|apply gM|apply wb|apply g6|apply wd|refine aA rfl ?_|refine ay rfl ?_|(refine cM λΔ ζ=>?_;simp;(repeat (rw[ae];simp[cV,cF,eU,dG,qh,eD,p2]));apply ζ)));exact W.forget _ (by simp[cV,o7]) (.stop hC)
   ·have iO:=Xy 1 γ 1 γ 0 γ (n+1) γ
    have eD:=DW 1 γ 1 γ 1 γ (n+1) γ
    have p2:=HQ 1 γ 1 γ 1 γ (n+1) γ;(repeat (first|apply gM|apply wb|apply g6|apply wd|refine aA rfl ?_|refine ay rfl ?_|(refine cM λΔ ζ=>?_;simp;(repeat (rw[ae];simp[cV,cF,eU,Γ,dG,qh,iO,eD,p2]));apply ζ)));exact W.forget _ (by simp[cV,o7]) (.stop hC)
theorem NZ (ε:jm x s m sp) (Η:sI Q mn x c rest S H s k sp) {env:ab} (ao:bc env 0=.z (ptr m 0)):jT Q mn x c rest S H s m (.ch k .own .work) v 1 [.code Al] env:=by
 letI:bj:=eP;have U:=ε.seq;refine V.b3 (U _ _ _) ?_;unfold Al qf;refine aA rfl ?_;refine cI ?_;refine W.cn (.stop ?_);refine V.enable (U _ _ _).here (Nat.succ_pos _) ⟨⟨rfl,rfl,by simp[Frame.enter],rfl⟩,tO,⟨_,rfl⟩,rfl,rfl,rfl⟩ ?_;rw[Ah];refine V.b3 (U _ _ _) ?_;refine W.bJ ?_;refine cI ?_;refine W.cn ?_;refine W.part (A:=[]) Ρ [0] [1,2] rfl λΔ ζ=>?_;simp;(repeat (rw[ae];simp[ao]));apply ζ;refine W.stop ?_;refine V.conv (U _ _ _).here (sp:=sp) ε.spec (by rw[b4];exact id) ⟨rfl,rfl,by simp[Frame.enter],rfl⟩ rfl rfl rfl HS tP HT rfl (λο w Α bD=>⟨_,bD.dJ (by rw[Α];exact ε.aU)⟩) (λφ ο μ=>?_);unfold h3;rw[kl];refine V.BN ε.rel rfl (sp:=sp) ε.spec ε.aU b4 ⟨⟨rfl,rfl,by simp[Frame.enter],rfl⟩,DX,⟨_,rfl⟩,rfl,rfl,rfl⟩ λbz bB H1 t1 L E κ ς dy iw vJ=>?_;rw[gR];obtain rfl:bB=[]:=dB.1 ς.holds.len;refine cm.leave0 (U _ _ _) rfl rfl rfl rfl Tryz.func213 rfl ?_;exact Η bz H1 L E κ.ext ς.holds dy iw vJ
end
section
variable {Q:Value->Prop} {mn:Bool} {x:aW} {c:Frame} {rest:List Frame} {S:aD} {B:aP} {σ:List Row} {H:π} {s m k:Nat} {sp:Spec} {v:Option (Nat×aN)} {t:Tok}
theorem DZ:(Tryz.prog.funcs[213]?).any (·.norace)=true:=by kernel_rfl
theorem N0:(Tryz.prog.funcs[245]?).any (·.norace)=true:=by kernel_rfl
def Am (Q:Value->Prop) (mn:Bool) (x:aW) (c:Frame) (rest:List Frame) (S:aD) (H:π) (s m k:Nat) (sp:Spec) (φ:Nat):Prop:=
 ∀(cl:Nat) (ο:aN) (aw st:Bool) (it τ:Int),cl<φ->ο.toSpec=sp->sF ο (.ch k (.act aw) .work)->(st=true->aw=true)->0<=it->it<=4->jT Q mn x c rest S H s m (.ch k (.act aw) .work) (some (cl,ο)) 1 k4 (cV m (mwd ο) aw st it τ)
theorem N1 {ο:aN} {aw:Bool} (h:sF ο (.ch k (.act aw) .work)):aw=true->ο.sv=0/\ο.wk=1:=λe=>h.Bh (by rw[e];rfl)
theorem XO (ε:jm x s m sp) (Η:sI Q mn x c rest S H s k sp) {φ:Nat} (ω:Am Q mn x c rest S H s m k sp φ) {gG:Nat} {k5:aN} (ao:gG<φ) {st:Bool} {τ:Int} :
  jT Q mn x c rest S H s m (.ch k .wk .work) (some (gG,k5)) 1 (.code (dI [1,1,1,1,1] mG)::.inBlock 1::k4) [(0,.z (ptr m 0)),(2,.z (.int .i64 τ)),(3,.z (.bool st))]:=by
 letI:bj:=eP;have U:=ε.seq;refine V.b3 (U _ _ _) ?_;unfold mG rj qg mF qf;refine cI ?_;refine W.cn ?_;refine fp [0,1,2] [3,4] ?_;refine W.stop ?_;refine V.xL (U _ _ _).here (sp:=sp) ε.spec (by rw[b4];exact id) ⟨rfl,rfl,by simp[Frame.enter],rfl⟩ rfl rfl rfl xM rfl DZ mwd (λο w Α bD=>bD.dJ (by rw[Α];exact ε.aU)) (λgT ο μ=>.inr ?_);have ψ:=μ.jj.mZ;rw[b4] at ψ;have hv:=μ.view gG k5 o5;have N2:=ψ.yu rfl;have gC:ο.top<7:=by have:=ε.top;rw[show ο.top=sp.top by rw[<-μ.spec]];exact this
 have Ε:=ψ.nw
 have υ:=ψ.cb;have hw:=ψ.wk;have p8:=ψ.sv
 have cF:=HP ο.cb γ ο.wk γ ο.sv γ ο.nw γ
 have bO:=Xt ο.cb γ ο.wk γ ο.sv γ ο.nw γ
 have lR:=HR ο.cb γ ο.wk γ ο.sv γ ο.nw γ;rw[<-o6] at cF bO lR;rcases(show ο.sv=0\/ο.sv=1 by omega) with nc|nc
 ·refine⟨.ch k (.act true) .work,by rw[b4];exact .norm nc,λcl ez=>?_⟩;rw[gR];rw[nc] at cF;refine V.b3 (U _ _ _) ?_;refine W.part (A:=[]) Ρ [4] [] rfl λΔ ζ=>?_;(try simp);(repeat (rw[ae];simp[]));(try simp[]);apply ζ;refine W.bJ ?_;refine hs cF ?_;refine W.forget (cV m (mwd ο) true st 0 τ) (by simp[cV]) (.stop ?_);exact ω cl ο true st 0 τ γ μ.spec ⟨ψ.cb,ψ.wk,ψ.sv,ψ.cZ,ψ.nw,λ_=>⟨nc,N2.1 nc⟩,λh=>(by cases h),λh=>(by cases h),λh=>(by cases h)⟩ (λ_=>rfl) γ γ
 ·obtain⟨Ξ,ah,aR⟩:=N2.2 nc;refine⟨.ch k .hw .work,by rw[b4];exact .hand nc,λcl ez=>?_⟩;rw[gR];rw[nc] at cF;rw[Ξ,ah] at bO;have bC:¬ο.nw=0:=γ;have N3:IntKind.i32.wrap (-11)=-11:=a0;have fin:∀(w:Option (Nat×aN)) (env:ab),bc env 0=.z (ptr m 0)->jT Q mn x c rest S H s m (.ch k .own .work) w 1 [.code Al] env:=λw env h=>NZ ε Η h;have add:∀(qz:Bool) (env:ab),bc env 0=.z (ptr m 0)->bc env 9=.z (.int .i32 (if qz then -11 else -7))->jT Q mn x c rest S H s m (.ch k .hw .work) (some (cl,ο)) 1 (.code (dI [1,1,1,1,1,1,0,1,0,1,1,1,0] mG)::.code (dI [1,1,1,1,1,1,0,1,0,1,1,1,1] mG)::.code (dI [1,1,1,1,1,1,1] mG)::.inBlock 1::k4) env:=λqz env ao s0=>by
   refine V.b3 (U _ _ _) ?_;unfold mG rj qg mF qf;refine cI ?_;refine W.cn ?_;refine W.part (A:=[]) Ρ [0,1,2,3] [4] rfl λΔ ζ=>?_;(try simp);(repeat (rw[ae];simp[ao,s0]));(try simp[ao,s0]);apply ζ;refine W.stop ?_;refine V.ND (U _ _ _).here (Nat.succ_pos _) (sp:=sp) ε.spec (by rw[b4];exact id) ε.aU (d:=if qz then -11 else -7) ⟨⟨rfl,rfl,by simp[Frame.enter],rfl⟩,NR,⟨_,rfl⟩,rfl,rfl,rfl⟩ (λhM fG dk=>?_);have eC:=dk.jj.mZ;rw[b4] at eC;obtain⟨f1,f2,f3,f4⟩:=eC.hw rfl;have gΝ:fG.top<7:=by have:=ε.top;rw[show fG.top=sp.top by rw[<-dk.spec]];exact this
   have Nc:=eC.nw;refine⟨{fG with cb:=1,nw:=fG.nw-1,sv:=if qz then 0 else 1},.ch k .own .work,?_,rfl,⟨rfl,rfl,rfl⟩,by rw[b4];exact .hacq qz,λxN _=>?_⟩
   ·cases qz<;>simp[mwd,IntKind.wrap_i32,f1,f2,f3]<;>omega
   ·rw[gR];refine V.b3 (U _ _ _) ?_;refine W.bJ ?_;refine cI ?_;refine W.exit rfl (.stop ?_);refine fin _ _ ?_;simp[ao]
  refine V.b3 (U _ _ _) ?_;refine W.part (A:=[]) Ρ [4] [] rfl λΔ ζ=>?_;(try simp);(repeat (rw[ae];simp[]));(try simp[]);apply ζ;refine W.bJ ?_;cases st with
  | false=>
   refine hs (Ζ cF (Ζ bO (Ζ lR (Ζ bC N3)))) ?_;exact .stop (add true _ rfl rfl)
  | true=>
   by_cases I:ο.nw=1
   ·refine hs (Ζ cF (Ζ bO (Ζ lR (Ζ bC (Ζ I N3))))) ?_;exact .stop (add true _ rfl rfl)
   ·have wO:¬(ο.nw:Int)=1:=by omega
    refine hs (Ζ cF (Ζ bO (Ζ lR (Ζ bC (Ζ I wO))))) ?_;exact .stop (add false _ rfl rfl)
theorem XP (ε:jm x s m sp) (Η:sI Q mn x c rest S H s k sp) {φ:Nat} (ω:Am Q mn x c rest S H s m k sp φ) {gG:Nat} {k5:aN} (ao:gG<φ) {st y:Bool} {τ:Int} :
  jT Q mn x c rest S H s m (.ch k .q .work) (some (gG,k5)) 1 (.code (dI [1,1,1,0] mG)::.code (dI [1,1,1,1] mG)::.inBlock 1::k4) [(0,.z (ptr m 0)),(2,.z (.int .i64 τ)),(3,.z (.bool st)),(8,.z (.bool y))]:=by
 letI:bj:=eP;have U:=ε.seq;have next:∀(gT:Nat) (fM:aN) (st:Bool),gT<φ->jT Q mn x c rest S H s m (.ch k .wk .work) (some (gT,fM)) 1 (.code (dI [1,1,1,1,1] mG)::.inBlock 1::k4) [(0,.z (ptr m 0)),(2,.z (.int .i64 τ)),(3,.z (.bool st))]:=λgT fM st I=>XO ε Η ω I
 refine V.b3 (U _ _ _) ?_;unfold mG rj qg mF qf;refine cI ?_;refine W.cn ?_;refine fp [0,1,2,3] [4] ?_;refine W.stop ?_;refine V.W' (U _ _ _).here (sp:=sp) ε.spec (by rw[b4];exact id) ε.aU (vs:=[ptr m 1,.bool y,.int .i64 2]) rfl (λbq iK=>by rw[Ai iK];exact ε.still bq iK) ⟨⟨rfl,rfl,by simp[Frame.enter],rfl⟩,XG,⟨_,rfl⟩,rfl,rfl,rfl⟩ (λgT ο μ h=>by rw[b4];exact h) (λgT ο μ h=>?_);have hv:=μ.view gG k5 o5;refine⟨{ο with cZ:=ο.cZ-1},.ch k .wk .work,rfl,rfl,⟨rfl,rfl,rfl⟩,by rw[b4];exact .take h,λhM ez=>?_⟩;rw[gR];refine V.b3 (U _ _ _) ?_;refine W.bJ ?_;cases st with
 | true=>
  first|apply gM|apply wb|apply g6|apply wd
  refine cM λΔ ζ=>?_;(try simp);(repeat (rw[ae];simp[]));(try simp[]);apply ζ;refine W.forget [(0,.z (ptr m 0)),(2,.z (.int .i64 τ)),(3,.z (.bool true))] η (.stop ?_);exact next hM _ true γ
 | false=>
  first|apply gM|apply wb|apply g6|apply wd
  refine W.cn ?_;refine fp [0,1] [2,3,4,5,6,7] ?_;refine W.stop ?_;refine V.nano (U _ _ _) (vs:=[]) ⟨⟨rfl,rfl,by simp[Frame.enter],rfl⟩,NU,⟨_,rfl⟩,rfl,rfl,rfl⟩ N0 λkC=>?_;refine V.b3 (U _ _ _) ?_;refine W.part (A:=[]) Ρ [3,4,5,6,7] [] rfl λΔ ζ=>?_;(try simp);(repeat (rw[ae];simp[]));(try simp[]);apply ζ;refine W.bJ ?_;refine W.forget [(0,.z (ptr m 0)),(2,.z (.int .i64 τ)),(3,.z (.bool (decide (1000000<IntKind.i64.wrap (kC-τ)))))] η (.stop ?_);exact next hM _ _ γ
theorem XQ (ε:jm x s m sp) (Η:sI Q mn x c rest S H s k sp) {φ:Nat} (ω:Am Q mn x c rest S H s m k sp φ) {gG:Nat} {k5:aN} (ao:gG<φ) {w:Int} {aw st:Bool} {it τ:Int} (aB:¬iA .i32 w 5=0) :
  jT Q mn x c rest S H s m (.ch k .q .work) (some (gG,k5)) 1 (.code mG::.inBlock 1::k4) (cV m w aw st it τ):=by
 letI:bj:=eP;have U:=ε.seq;have next:∀(τ:Int) (y:Bool),jT Q mn x c rest S H s m (.ch k .q .work) (some (gG,k5)) 1 (.code (dI [1,1,1,0] mG)::.code (dI [1,1,1,1] mG)::.inBlock 1::k4) [(0,.z (ptr m 0)),(2,.z (.int .i64 τ)),(3,.z (.bool st)),(8,.z (.bool y))]:=λτ y=>XP ε Η ω ao
 refine V.b3 (U _ _ _) ?_;unfold mG rj qg mF qf;by_cases h:τ=0
 ·subst h;(repeat (first|apply gM|apply wb|apply g6|apply wd|refine aA rfl ?_|refine ay rfl ?_|(refine cM λΔ ζ=>?_;simp;(repeat (rw[ae];simp[cV,aB]));apply ζ)));refine W.cn (.stop ?_);refine V.nano (U _ _ _) (vs:=[]) ⟨⟨rfl,rfl,by simp[Frame.enter],rfl⟩,NU,⟨_,rfl⟩,rfl,rfl,rfl⟩ N0 λkC=>?_;refine V.b3 (U _ _ _) ?_;refine W.part (A:=[]) Ρ [1] [] rfl λΔ ζ=>?_;(try simp);(repeat (rw[ae];simp[]));(try simp[]);apply ζ;refine W.bJ ?_
  first|apply gM|apply wb|apply g6|apply wd
  refine W.forget [(0,.z (ptr m 0)),(2,.z (.int .i64 kC)),(3,.z (.bool st)),(8,.z (.bool false))] η (.stop ?_);exact next kC false
 ·(repeat (first|apply gM|apply wb|apply g6|apply wd|refine aA rfl ?_|refine ay rfl ?_|(refine cM λΔ ζ=>?_;simp;(repeat (rw[ae];simp[cV,aB,h]));apply ζ)));refine W.forget [(0,.z (ptr m 0)),(2,.z (.int .i64 τ)),(3,.z (.bool st)),(8,.z (.bool true))] (by simp[h]) (.stop ?_);exact next τ true
end
theorem N4 {a b:aN} {t u:Tok} (κ:sF a t) (hb:sF b u) (h:mwd a=mwd b):a.cb=b.cb/\a.wk=b.wk/\a.sv=b.sv/\a.nw=b.nw:=by
 have:=κ.cb;have:=κ.wk;have:=κ.sv;have:=hb.cb;have:=hb.wk;have:=hb.sv;simp only[mwd] at h;omega
section
variable {Q:Value->Prop} {mn:Bool} {x:aW} {c:Frame} {rest:List Frame} {S:aD} {B:aP} {σ:List Row} {H:π} {s m k:Nat} {sp:Spec} {v:Option (Nat×aN)} {t:Tok}
theorem An (ε:jm x s m sp) {ο:aN} (h:ο.toSpec=sp):ο.top<7:=by have:=ε.top;rw[show ο.top=sp.top by rw[<-h]];exact this
theorem XR (ε:jm x s m sp) (Η:sI Q mn x c rest S H s k sp) {φ:Nat} {ο:aN} (ω:Am Q mn x c rest S H s m k sp φ) (Α:ο.toSpec=sp) {aw st:Bool} {it τ:Int} (ψ:sF ο (.ch k (.act aw) .work)) (cT:st=true->aw=true) (mY:0<=it) (D1:it<=4) :
  jT Q mn x c rest S H s m (.ch k (.act aw) .work) (some (φ,ο)) 1 (.code (dI [0] rj)::.code (dI [1] rj)::.inBlock 1::k4) (cV m (mwd ο) aw st it τ++[(7,.z (.int .i32 (o7 ο.cb ο.wk ο.sv ο.nw aw st)))]):=by
 letI:bj:=eP;have U:=ε.seq;have td:=N1 ψ;have gC:=An ε Α;have υ:=ψ.cb;have hw:=ψ.wk;have p8:=ψ.sv;have Ε:=ψ.nw;have eU:=HO ο.cb γ ο.wk γ ο.sv γ ο.nw γ;rw[<-o6] at eU;have fin:∀(w:Option (Nat×aN)) (env:ab),bc env 0=.z (ptr m 0)->jT Q mn x c rest S H s m (.ch k .own .work) w 1 [.code Al] env:=λw env h=>NZ ε Η h;have tail:∀(gG:Nat) (k5:aN),gG<φ->¬iA .i32 (mwd ο) 5=0->jT Q mn x c rest S H s m (.ch k .q .work) (some (gG,k5)) 1 (.code mG::.inBlock 1::k4) (cV m (mwd ο) aw st it τ):=λgG k5 ao aB=>XQ ε Η ω ao aB;refine V.b3 (U _ _ _) ?_;unfold rj qg mF qf;refine W.cn ?_;refine W.part (A:=[]) Ρ [0,1,2,3,4] [5] rfl λΔ ζ=>?_;(try simp);(repeat (rw[ae];simp[cV]));(try simp[cV]);apply ζ;refine W.stop ?_;refine V.DR (U _ _ _).here (Nat.succ_pos _) (sp:=sp) ε.spec (by rw[b4];exact id) ε.aU ⟨⟨rfl,rfl,by simp[Frame.enter],rfl⟩,DY,⟨_,rfl⟩,rfl,rfl,rfl⟩ (λgT fM μ hv=>.inl ?_) (λgT fM μ hv=>?_)
 ·
  have pK:=μ.view φ ο o5
  have I:gT<φ:=by
   rcases Nat.lt_or_ge gT φ with h|h
   ·exact h
   ·exact absurd (by rw[pK.2 γ]) hv
  unfold h3;rw[kl];refine V.b3 (U _ _ _) ?_;refine W.bJ ?_;refine cI ?_;refine ay rfl ?_;refine W.cn ?_;refine fp [0,1,2] [3,4] ?_;refine W.stop ?_;refine V.xL (U _ _ _).here (sp:=sp) ε.spec (by rw[b4];exact id) ⟨rfl,rfl,by simp[Frame.enter],rfl⟩ rfl rfl rfl xM rfl DZ mwd (λο w Α bD=>bD.dJ (by rw[Α];exact ε.aU)) (λhM fG dk=>.inl ?_);have sk:=dk.view gT fM o5;have eC:=dk.jj.mZ;rw[b4] at eC;unfold h3;rw[kl];refine V.b3 (U _ _ _) ?_;refine W.part (A:=[]) Ρ [4] [] rfl λΔ ζ=>?_;(try simp);(repeat (rw[ae];simp[]));(try simp[]);apply ζ;refine W.bJ ?_;refine W.inBlock ?_;refine W.forget (cV m (mwd fG) aw st it τ) (by simp[cV]) (.stop ?_);exact ω hM fG aw st it τ γ dk.spec eC cT mY D1
 ·have pK:=μ.view φ ο o5
  have hj:=μ.jj.mZ;rw[b4] at hj;obtain⟨Ξ,ah,aR,ca⟩:=N4 hj ψ hv;by_cases Ao:ο.cb=0/\ο.sv=0
  ·refine⟨{fM with cb:=1,wk:=if aw then 0 else fM.wk},.ch k .own .work,?_,rfl,⟨rfl,rfl,rfl⟩,by rw[b4];exact .acq γ γ,λhM ez=>?_⟩
   ·simp[o7,o6,ah,aR,ca,Ao.1,Ao.2]
   ·rw[gR];rw[Ao.1,Ao.2] at eU;refine V.b3 (U _ _ _) ?_;refine W.bJ ?_;refine cI ?_;refine aA rfl ?_;refine hs eU ?_;refine W.exit rfl (.stop ?_);exact fin _ _ rfl
  ·have Χ:ο.cb=1\/ο.sv=1:=by omega
   refine⟨{fM with nw:=fM.nw+1,wk:=if aw then 0 else fM.wk,sv:=if(st&&decide (ο.cb=1)) then 1 else fM.sv},.ch k .q .work,?_,rfl,⟨rfl,rfl,rfl⟩,by rw[b4];exact .queue (st&&decide (ο.cb=1)) γ (λh=>by simp at h;exact⟨cT h.1,γ⟩),λhM ez=>?_⟩
   ·simp only[o7,if_neg Ao,o6,Ξ,ah,aR,ca];simp
   ·rw[gR];refine V.b3 (U _ _ _) ?_;refine W.bJ ?_;refine cI ?_;refine aA rfl ?_;refine W.forget (cV m (mwd ο) aw st it τ) (by simp[cV]) (.stop ?_);exact tail hM _ γ γ
theorem XS (ε:jm x s m sp) {φ:Nat} {aw st:Bool} {it τ:Int} {gG:Nat} {k5:aN} (mY:0<=it) (D1:it<4)
  (ω:∀(cl:Nat) (hN:aN),cl<=gG->hN.toSpec=sp->sF hN (.ch k (.act aw) .work)->jT Q mn x c rest S H s m (.ch k (.act aw) .work) (some (cl,hN)) 1 k4 (cV m (mwd hN) aw st (it+1) τ)) :
  jT Q mn x c rest S H s m (.ch k (.act aw) .work) (some (gG,k5)) 1 (.code (dI [0,0,1,0,1,0] mF)::.code (dI [0,0,1,0,1,1] mF)::.code qg::.inBlock 1::k4) [(0,.z (ptr m 0)),(2,.z (.int .i64 τ)),(3,.z (.bool st)),(4,.z (.bool aw)),(5,.z (.int .i64 it))]:=by
 letI:bj:=eP;have U:=ε.seq;have hw:IntKind.i64.wrap (it+1)=it+1:=by simp only[IntKind.wrap_i64];omega
 refine V.b3 (U _ _ _) ?_;unfold mF qf;refine cI ?_;refine W.cn (.stop ?_);refine V.DU (U _ _ _) (vs:=[]) ⟨⟨rfl,rfl,by simp[Frame.enter],rfl⟩,XF,⟨_,rfl⟩,rfl,rfl,rfl⟩ ?_;refine V.b3 (U _ _ _) ?_;refine W.bJ ?_;refine cI ?_;refine cM λΔ ζ=>?_;(try simp);(repeat (rw[ae];simp[hw]));(try simp[hw]);apply ζ;refine cI ?_;refine W.cn ?_;refine fp [0,1,2] [3,4] ?_;refine W.stop ?_;refine V.xL (U _ _ _).here (sp:=sp) ε.spec (by rw[b4];exact id) ⟨rfl,rfl,by simp[Frame.enter],rfl⟩ rfl rfl rfl xM rfl DZ mwd (λο w Α bD=>bD.dJ (by rw[Α];exact ε.aU)) (λhM fG dk=>.inl ?_);have sk:=dk.view gG k5 o5;have eC:=dk.jj.mZ;rw[b4] at eC;unfold h3;rw[kl];refine V.b3 (U _ _ _) ?_;refine W.part (A:=[]) Ρ [4] [] rfl λΔ ζ=>?_;(try simp);(repeat (rw[ae];simp[]));(try simp[]);apply ζ;refine W.bJ ?_;refine W.exit rfl ?_;refine W.forget (cV m (mwd fG) aw st (it+1) τ) (by simp[cV]) (.stop ?_);exact ω hM fG γ dk.spec eC
theorem XT (ε:jm x s m sp) (Η:sI Q mn x c rest S H s k sp):∀(N φ:Nat) (ο:aN) (aw st:Bool) (it τ:Int),φ*8+(4-it).toNat<N->ο.toSpec=sp->sF ο (.ch k (.act aw) .work)->(st=true->aw=true)->0<=it->it<=4->
  jT Q mn x c rest S H s m (.ch k (.act aw) .work) (some (φ,ο)) 1 (.code mF::k4) (cV m (mwd ο) aw st it τ):=by
 letI:bj:=eP;have U:=ε.seq;intro N
 induction N with
 | zero=>intro φ ο aw st it τ h;omega
 | succ N Ap=>
  intro φ ο aw st it τ c5 Α ψ cT mY D1;have td:=N1 ψ;have gC:=An ε Α;have υ:=ψ.cb;have hw:=ψ.wk;have p8:=ψ.sv;have Ε:=ψ.nw;have eU:=HO ο.cb γ ο.wk γ ο.sv γ ο.nw γ;have Θ:=DW ο.cb γ ο.wk γ ο.sv γ ο.nw γ;have iS:=Xx ο.cb γ ο.wk γ ο.sv γ ο.nw γ;have lR:=HR ο.cb γ ο.wk γ ο.sv γ ο.nw γ;rw[<-o6] at eU Θ lR iS;have back:∀(cl:Nat) (hN:aN) (nd xO:Bool) (tQ kC:Int),cl*8+(4-tQ).toNat<N->hN.toSpec=sp->sF hN (.ch k (.act nd) .work)->(xO=true->nd=true)->0<=tQ->tQ<=4->
    jT Q mn x c rest S H s m (.ch k (.act nd) .work) (some (cl,hN)) 1 k4 (cV m (mwd hN) nd xO tQ kC):=λcl hN nd xO tQ kC I R ν Ι aB bn=>by
   have:=Ap cl hN nd xO tQ kC I R ν Ι aB bn;refine V.eY (U _ _ _) rfl ?_;exact W.inLoop (.stop this)
  have eu:Am Q mn x c rest S H s m k sp φ:=λcl hN nd xO tQ kC I R ν Ι aB bn=>back cl hN nd xO tQ kC γ R ν Ι aB bn
  have new:jT Q mn x c rest S H s m (.ch k (.act aw) .work) (some (φ,ο)) 1 (.code qg::.inBlock 1::k4) (cV m (mwd ο) aw st it τ):=by
   rw[o6];exact XM ε γ γ γ γ td cT (by rw[<-o6];exact XR ε Η eu Α ψ cT mY D1)
  have Aq:∀(gG:Nat) (k5:aN) (nd:Bool),it<4->(gG<=φ)->(st=true->nd=true)->jT Q mn x c rest S H s m (.ch k (.act nd) .work) (some (gG,k5)) 1 (.code (dI [0,0,1,0,1,0] mF)::.code (dI [0,0,1,0,1,1] mF)::.code qg::.inBlock 1::k4) [(0,.z (ptr m 0)),(2,.z (.int .i64 τ)),(3,.z (.bool st)),(4,.z (.bool nd)),(5,.z (.int .i64 it))]:=λgG k5 nd I R ν=>
   XS ε (φ:=φ) mY I λcl hN Ξ ah aR=>back cl hN nd st (it+1) τ γ ah aR ν γ γ
  refine V.b3 (U _ _ _) ?_;unfold mF qf;refine cI ?_;by_cases b2:ο.cb=1/\ο.sv=0
  ·rw[b2.1,b2.2] at eU;refine W.cn ?_;refine W.part (A:=[]) Ρ [0,1,2,3,4] [5,6] rfl λΔ ζ=>?_;(try simp);(repeat (rw[ae];simp[cV,eU]));(try simp[cV,eU]);apply ζ;refine W.stop ?_;refine V.canSpin (U _ _ _) ⟨⟨rfl,rfl,by simp[Frame.enter],rfl⟩,XE,⟨_,rfl⟩,rfl,rfl,rfl⟩ λy Φ=>?_;refine V.b3 (U _ _ _) ?_;refine W.part (A:=[]) Ρ [6] [] rfl λΔ ζ=>?_;(try simp);(repeat (rw[ae];simp[cV]));(try simp[cV]);apply ζ;refine W.bJ ?_;cases y with
   | false=>
    refine ay rfl ?_
    first|apply gM|apply wb|apply g6|apply wd
    refine W.forget (cV m (mwd ο) aw st it τ) (by simp[cV]) (.stop ?_);exact new
   | true=>
    have Ι:=Φ rfl;refine aA rfl ?_;refine cI ?_;cases aw with
    | true=>
     (repeat (first|apply gM|apply wb|apply g6|apply wd|refine aA rfl ?_|refine ay rfl ?_|(refine cM λΔ ζ=>?_;simp;(repeat (rw[ae];simp[cV]));apply ζ)));refine W.forget [(0,.z (ptr m 0)),(2,.z (.int .i64 τ)),(3,.z (.bool st)),(4,.z (.bool true)),(5,.z (.int .i64 it))] η (.stop ?_);exact Aq φ ο true Ι (Nat.le_refl _) (λ_=>rfl)
    | false=>
     by_cases xP:ο.wk=0
     ·by_cases qW:ο.nw=0
      ·rw[xP] at Θ;rw[qW] at lR;(repeat (first|apply gM|apply wb|apply g6|apply wd|refine aA rfl ?_|refine ay rfl ?_|(refine cM λΔ ζ=>?_;simp;(repeat (rw[ae];simp[cV,Θ,lR]));apply ζ)));refine W.forget [(0,.z (ptr m 0)),(2,.z (.int .i64 τ)),(3,.z (.bool st)),(4,.z (.bool false)),(5,.z (.int .i64 it))] η (.stop ?_);exact Aq φ ο false Ι (Nat.le_refl _) cT
      ·rw[xP] at Θ;have N5:((ο.nw:Int) != 0)=true:=by simp;omega
       refine W.cn ?_;refine W.part (A:=[]) Ρ [0,1,2,3,4,5,6,7,8,9,10,11,12,13,14,15,16,17,18] [19,20] rfl λΔ ζ=>?_;(try simp);(repeat (rw[ae];simp[cV,Θ,lR,iS,qW,N5]));(try simp[cV,Θ,lR,iS,qW,N5]);apply ζ;refine W.stop ?_;refine V.DR (U _ _ _).here (Nat.succ_pos _) (sp:=sp) ε.spec (by rw[b4];exact id) ε.aU ⟨⟨rfl,rfl,by simp[Frame.enter],rfl⟩,DY,⟨_,rfl⟩,rfl,rfl,rfl⟩ (λgT fM μ hv=>.inl ?_) (λgT fM μ hv=>?_)
       ·have pK:=μ.view φ ο o5;unfold h3;rw[kl];refine V.b3 (U _ _ _) ?_;refine W.part (A:=[]) Ρ [20] [] rfl λΔ ζ=>?_;(try simp);(repeat (rw[ae];simp[cV]));(try simp[cV]);apply ζ;refine W.bJ ?_;refine ay rfl ?_;refine cI ?_;refine W.forget [(0,.z (ptr m 0)),(2,.z (.int .i64 τ)),(3,.z (.bool st)),(4,.z (.bool false)),(5,.z (.int .i64 it))] (by simp[cV]) (.stop ?_);exact Aq gT fM false Ι γ cT
       ·have pK:=μ.view φ ο o5
        have hj:=μ.jj.mZ;rw[b4] at hj;obtain⟨Ξ,ah,aR,ca⟩:=N4 hj ψ hv;refine⟨{fM with wk:=1},.ch k (.act true) .work,?_,rfl,⟨rfl,rfl,rfl⟩,by rw[b4];exact .QI γ γ γ γ,λhM ez=>?_⟩
        ·simp[o6,Ξ,aR,ca]
        ·rw[gR];refine V.b3 (U _ _ _) ?_;refine W.part (A:=[]) Ρ [20] [] rfl λΔ ζ=>?_;(try simp);(repeat (rw[ae];simp[cV]));(try simp[cV]);apply ζ;refine W.bJ ?_;refine aA rfl ?_;refine cM λΔ ζ=>?_;(try simp);(repeat (rw[ae];simp[cV]));(try simp[cV]);apply ζ;refine cI ?_;refine W.forget [(0,.z (ptr m 0)),(2,.z (.int .i64 τ)),(3,.z (.bool st)),(4,.z (.bool true)),(5,.z (.int .i64 it))] (by simp[cV]) (.stop ?_);exact Aq hM _ true Ι γ (λ_=>rfl)
     ·have k6:ο.wk=1:=by omega
      rw[k6] at Θ;(repeat (first|apply gM|apply wb|apply g6|apply wd|refine aA rfl ?_|refine ay rfl ?_|(refine cM λΔ ζ=>?_;simp;(repeat (rw[ae];simp[cV,Θ]));apply ζ)));refine W.forget [(0,.z (ptr m 0)),(2,.z (.int .i64 τ)),(3,.z (.bool st)),(4,.z (.bool false)),(5,.z (.int .i64 it))] η (.stop ?_);exact Aq φ ο false Ι (Nat.le_refl _) cT
  ·have aB:¬iA .i32 (mwd ο) 5=1:=by rw[eU];omega
   refine cM λΔ ζ=>?_;(try simp);(repeat (rw[ae];simp[cV,aB]));(try simp[cV,aB]);apply ζ;refine ay rfl ?_
   first|apply gM|apply wb|apply g6|apply wd
   refine W.forget (cV m (mwd ο) aw st it τ) (by simp[cV]) (.stop ?_);exact new
theorem XU (ε:jm x s m sp):NY Q mn x s m k sp:=by
 intro c rest S B σ H v χ Η;letI:bj:=eP;have U:=ε.seq;have head:=λφ ο aw st it τ R ν Ι aB bn=>XT ε Η (φ*8+(4-it).toNat+1) φ ο aw st it τ (Nat.lt_succ_self _) R ν Ι aB bn;refine V.qb (z:=one _) (vs:=[ptr m 0]) Tryz.func213 rfl χ (by simp[Tryz.ntmps213]) ?_ _ rfl;refine V.b3 (U _ _ _) ?_;refine hr ?_;refine W.cn ?_;refine fp [0,1,2] [3,4] ?_;refine W.stop ?_;refine V.xL (U _ _ _).here (sp:=sp) ε.spec (by rw[b4];exact id) ⟨rfl,rfl,by simp[Frame.enter],rfl⟩ rfl rfl rfl xM rfl DZ mwd (λο w Α bD=>bD.dJ (by rw[Α];exact ε.aU)) (λhM fG dk=>.inl ?_);have eC:=dk.jj.mZ;rw[b4] at eC;unfold h3;rw[kl];refine V.b3 (U _ _ _) ?_;refine W.part (A:=[]) Ρ [4] [] rfl λΔ ζ=>?_;(try simp);(repeat (rw[ae];simp[]));(try simp[]);apply ζ;refine W.bJ ?_;refine cI ?_;refine W.loop ?_;refine W.forget (cV m (mwd fG) false false 0 0) (by simp[cV]) (.stop ?_);exact head hM fG false false 0 0 dk.spec eC (λh=>by cases h) γ γ
theorem XV (ε:jm x s m sp) (χ:Holds S B σ H) (Η:sI Q mn x c rest S H s k sp):cm Tryz.prog Q mn (bw x s (.ch k .idle .work) v 0) (Frame.enter Tryz.prog 144 #[ptr m 0] .normal) (c::rest) H:=by
 letI:bj:=eP;have U:=ε.seq;refine V.qb (z:=one _) (vs:=[ptr m 0]) Tryz.func144 rfl χ (by simp[Tryz.ntmps144]) ?_ _ rfl;refine V.b3 (U _ _ _) ?_;refine cI ?_;refine W.cn ?_;refine fp [0,1,2] [3] ?_;refine W.stop ?_;refine V.call (U _ _ _) ⟨rfl,rfl,by simp[Frame.enter],rfl⟩ rfl rfl rfl ⟨_,Tryz.func175,rfl,rfl⟩ λbz bB H1 t1 oZ κ ς hv=>?_;obtain rfl:=mD (l:=[ptr m 0]) hv;obtain rfl:bB=[]:=dB.1 ς.holds.len;rintro y rfl;refine XK ε ς.holds (XU ε) λcL bH L E n1 iU dy iw vJ=>?_;rw[ie rfl];refine cm.leave0 (U _ _ _) rfl rfl rfl rfl Tryz.func144 rfl ?_;exact Η cL bH L E (κ.ext.trans n1) iU dy iw vJ
end
noncomputable def N6:Code:=Tryz.f215.body.getD .skip
noncomputable def HW:Code:=dI [1,1,0,1,0,0] N6
noncomputable def N7:List Item:=[.inLoop HW,.inBlock 0]
theorem XW:∀n<8,0<n->wS .i32 (IntKind.i32.wrap (gS 0 0 0 n-8)) 2=gS 0 1 0 (n-1):=by decide +kernel
theorem XX:∀b<2,∀c<2,∀n<8,iA .i32 (IntKind.i32.wrap (gS 0 b c n+1)) 1=1:=by decide +kernel
abbrev fb:aD:=λ_ _=>none
theorem Ar {S az:aD} {B B':aP} {σ σ':List Row} {env:ab} {t:Array Value} (he:∀p∈env,∃v,p.2=θ.z v) (h:cX S B σ env t):cX az B' σ' env t:=by
 intro i;have key:∀(env:ab),(∀p∈env,∃v,p.2=θ.z v)->(∃v,bc env i=.z v)\/bc env i=.cg:=by
  intro env
  induction env with
  | nil=>exact λ_=>.inr rfl
  | cons p l ω=>
   intro h;obtain⟨j,a⟩:=p;simp only[bc];split
   ·exact .inl (h (j,a) η)
   ·exact ω λq Χ=>h q (by simp[Χ])
 have hi:=h i;rcases key env he with⟨v,e⟩|e
 ·rw[e] at hi ⊢;generalize t.getD i undef=u at hi;cases hi;exact .z _
 ·rw[e];exact .cg _
theorem xQ (H:π):Holds fb [] [] H:=⟨λb o v h=>(by cases h),rfl,λid r bo h=>(by simp at h),λi j ef b8 b gh gi _ h=>(by simp at h),λid r b N h=>(by simp at h)⟩
theorem fi.none {m nt:Nat} {S:aD} {B:aP} {H H':π} {env:ab} {t:Array Value} (h:fi m nt S B H [] env t) (he:∀p∈env,∃v,p.2=θ.z v):fi 0 nt fb [] H' [] env t:=⟨xQ H',Ar he h.b5,h.size,Nat.le_refl _⟩
section
variable {Q:Value->Prop} {mn:Bool} {x:aW} {c:Frame} {rest:List Frame} {S:aD} {B:aP} {σ:List Row} {H:π} {s m k:Nat} {sp:Spec} {v:Option (Nat×aN)} {t:Tok}
abbrev HX (Q:Value->Prop) (mn:Bool) (x:aW) (c:Frame) (rest:List Frame) (H:π) (s m:Nat) (w:Int) (t:Tok) (v:Option (Nat×aN)) (K:List Item) (env:ab):Prop:=
 V Tryz.prog Q mn (one (bw x s t v 1)) (Frame.enter Tryz.prog 215 #[ptr m 0,.int .i32 w] .normal) (c::rest) 43 ⟨fb,[],H,[],0⟩ K env []
def As (Q:Value->Prop) (mn:Bool) (x:aW) (c:Frame) (rest:List Frame) (H:π) (s k d:Nat):Prop:=
 ∀(v:Option (Nat×aN)) (cL:aD) (bH:π),Ext fb [] H cL [] bH->cm Tryz.prog Q mn (bw x s (.ch k .done .work) v d) (c.finish (.tuple #[])) rest bH
theorem HY (ε:jm x s m sp) (Η:As Q mn x c rest H s k 1) {w:Int} {K:List Item} {env:ab} (e:t=.ch k .done .work):HX Q mn x c rest H s m w t v (.code .ret::K) env:=by
 letI:bj:=eP;have U:=ε.seq;subst e;refine V.HK (U _ _ _) rfl rfl rfl rfl Tryz.func215 rfl λbz bB H1 κ χ=>?_;obtain rfl:bB=[]:=dB.1 χ.len;rintro y rfl;exact Η v bz H1 κ.ext
def N8 (k:Nat) (ο:aN) (t:Tok):Prop:=((ο.nw=0\/ο.cb=1\/ο.wk=1\/ο.sv=1)/\t=.ch k .done .work)\/(0<ο.nw/\ο.cb=0/\ο.wk=0/\ο.sv=0/\t=.ch k .uc .work)
theorem N9 (ε:jm x s m sp) (Η:As Q mn x c rest H s k 1) {w:Int}:∀(N φ:Nat) (ο:aN) (t:Tok),φ<N->ο.cb<=1->ο.wk<=1->ο.sv<=1->ο.nw<7->N8 k ο t->
  HX Q mn x c rest H s m w t (some (φ,ο)) (.code HW::N7) [(0,.z (ptr m 0)),(4,.z (.int .i32 (mwd ο)))]:=by
 letI:bj:=eP;have U:=ε.seq;intro N
 induction N with
 | zero=>intro φ ο t h;omega
 | succ N Ap=>
  intro φ ο t c5 υ hw p8 Ε Ν;have qA:=Xu ο.cb γ ο.wk γ ο.sv γ ο.nw γ;have lR:=HR ο.cb γ ο.wk γ ο.sv γ ο.nw γ;rw[<-o6] at qA lR;have back:∀(cl:Nat) (hN:aN) (t':Tok),cl<N->hN.cb<=1->hN.wk<=1->hN.sv<=1->hN.nw<7->N8 k hN t'->HX Q mn x c rest H s m w t' (some (cl,hN)) N7 [(0,.z (ptr m 0)),(4,.z (.int .i32 (mwd hN)))]:=λcl hN t' I R ν Ι aB bn=>by
   have:=Ap cl hN t' I R ν Ι aB bn;refine V.eY (U _ _ _) rfl ?_;exact W.inLoop (.stop this)
  refine V.b3 (U _ _ _) ?_;unfold HW N6;refine cI ?_;rcases Ν with⟨Ν,rfl⟩|⟨I,R,ν,Ι,rfl⟩
  ·by_cases Μ:ο.nw=0
   ·rw[Μ] at lR;refine hs lR ?_;exact .stop (HY ε Η rfl)
   ·have gO:¬iA .i32 (mwd ο) 7=0:=by rw[qA];omega
    have Fe:(iA .i32 (mwd ο) 7 != 0)=true:=by simpa using gO
    refine hs (Ζ lR (Ζ Μ (Ζ gO Fe))) ?_;exact .stop (HY ε Η rfl)
  ·have Μ:¬ο.nw=0:=by omega
   have jz:¬(ο.nw:Int)=0:=γ
   have D2:mwd ο=gS 0 0 0 ο.nw:=by rw[o6,R,ν,Ι]
   have yv:=XW ο.nw γ I;rw[<-D2] at yv;rw[R,ν,Ι] at qA;refine hs (Ζ lR (Ζ Μ (Ζ jz qA))) ?_;refine W.cn ?_;refine W.part (A:=[]) Ρ [0,1,2,3,4] [5] rfl λΔ ζ=>?_;(try simp);(repeat (rw[ae];simp[yv]));(try simp[yv]);apply ζ;refine W.stop ?_;refine V.DR (U _ _ _).here (Nat.succ_pos _) (sp:=sp) ε.spec (by rw[b4];exact id) ε.aU ⟨⟨rfl,rfl,by simp[Frame.enter],rfl⟩,DY,⟨_,rfl⟩,rfl,rfl,rfl⟩ (λgT fM μ hv=>.inl ?_) (λgT fM μ hv=>?_)
   ·have pK:=μ.view φ ο o5
    have aB:gT<φ:=by
     rcases Nat.lt_or_ge gT φ with h|h
     ·exact h
     ·exact absurd (by rw[pK.2 γ]) hv
    unfold h3;rw[kl];refine V.b3 (U _ _ _) ?_;refine W.bJ ?_;refine ay rfl ?_;refine cI ?_;refine W.cn ?_;refine fp [0,1,2] [3,4] ?_;refine W.stop ?_;refine V.xL (U _ _ _).here (sp:=sp) ε.spec (by rw[b4];exact id) ⟨rfl,rfl,by simp[Frame.enter],rfl⟩ rfl rfl rfl xM rfl (by kernel_rfl) mwd (λο w Α bD=>bD.dJ (by rw[Α];exact ε.aU)) (λhM fG dk=>?_);have sk:=dk.view gT fM o5;have eC:=dk.jj.mZ;have gC:=An ε dk.spec;have Ξ:=eC.cb;have ah:=eC.wk;have aR:=eC.sv;have ca:=eC.nw;by_cases ta:fG.nw=0\/fG.cb=1\/fG.wk=1\/fG.sv=1
    ·refine .inr ⟨.ch k .done .work,by rw[b4];exact .QN ta,λxN ez=>?_⟩;rw[gR];refine V.b3 (U _ _ _) ?_;refine W.part (A:=[]) Ρ [4] [] rfl λΔ ζ=>?_;(try simp);(repeat (rw[ae];simp[]));(try simp[]);apply ζ;refine W.bJ ?_;refine cI ?_;refine W.forget [(0,.z (ptr m 0)),(4,.z (.int .i32 (mwd fG)))] η (.stop ?_);exact back xN fG _ γ Ξ ah aR γ (.inl ⟨ta,rfl⟩)
    ·refine .inl ?_;unfold h3;rw[kl];refine V.b3 (U _ _ _) ?_;refine W.part (A:=[]) Ρ [4] [] rfl λΔ ζ=>?_;(try simp);(repeat (rw[ae];simp[]));(try simp[]);apply ζ;refine W.bJ ?_;refine cI ?_;refine W.forget [(0,.z (ptr m 0)),(4,.z (.int .i32 (mwd fG)))] η (.stop ?_);exact back hM fG _ γ Ξ ah aR γ (.inr ⟨γ,γ,γ,γ,rfl⟩)
   ·have hj:=μ.jj.mZ
    have gC:=An ε μ.spec
    have f1:=hj.cb;have f2:=hj.wk;have f3:=hj.sv;have f4:=hj.nw
    have f5:fM.cb=0/\fM.wk=0/\fM.sv=0/\fM.nw=ο.nw:=by
     rw[D2] at hv;simp only[mwd,gS] at hv;omega
    refine⟨{fM with nw:=fM.nw-1,wk:=1},.ch k .us .work,?_,rfl,⟨rfl,rfl,rfl⟩,by rw[b4];exact .QM γ γ γ γ,λhM ez=>?_⟩
    ·simp[o6,f5]
    ·rw[gR];refine V.b3 (U _ _ _) ?_;refine W.bJ ?_;refine aA rfl ?_;refine cI ?_;refine W.cn ?_;refine fp [0,1,2] [3] ?_;refine W.stop ?_;refine V.NK (U _ _ _).here (sp:=sp) ε.spec (by rw[b4];exact id) ε.aU (vs:=[ptr m 1,.bool false,.int .i64 2]) rfl ⟨⟨rfl,rfl,by simp[Frame.enter],rfl⟩,NV,⟨_,rfl⟩,rfl,rfl,rfl⟩ (λxN dt rk=>?_);have hB:=rk.jj.mZ;refine⟨by have:=hB.cZ;omega,{dt with cZ:=dt.cZ+1},.ch k .done .work,rfl,rfl,⟨rfl,rfl,rfl⟩,by rw[b4];exact .post,λAu gΞ=>?_⟩;rw[gR];refine V.b3 (U _ _ _) ?_;refine W.bJ (.stop ?_);exact HY ε Η rfl
theorem XY (ε:jm x s m sp) (Η:As Q mn x c rest H s k 1) {ο:aN} {φ:Nat} (Α:ο.toSpec=sp) (xR:ο.cb=0) (Ac:ο.wk<=1) (nc:ο.sv<=1) (N':ο.nw<7)
  (Ν:(ο.sv=0/\(ο.nw=0\/ο.wk=1)/\t=.ch k .done .work)\/(ο.sv=0/\0<ο.nw/\ο.wk=0/\t=.ch k .uc .work)\/(ο.sv=1/\t=.ch k .us .work)) :
  cm Tryz.prog Q mn (bw x s t (some (φ,ο)) 1) (Frame.enter Tryz.prog 215 #[ptr m 0,.int .i32 (mwd ο)] .normal) (c::rest) H:=by
 letI:bj:=eP;have U:=ε.seq;have dD:=XX ο.wk γ ο.sv γ ο.nw γ;have cF:=HP 0 γ ο.wk γ ο.sv γ ο.nw γ;have D2:mwd ο=gS 0 ο.wk ο.sv ο.nw:=by rw[o6,xR]
 rw[<-D2] at dD cF;refine V.qb (z:=one _) (vs:=[ptr m 0,.int .i32 (mwd ο)]) (S:=fb) Tryz.func215 rfl (xQ H) (by simp[Tryz.ntmps215]) ?_ _ rfl;refine V.b3 (U _ _ _) ?_;rcases Ν with⟨I,R,rfl⟩|⟨I,R,ν,rfl⟩|⟨I,rfl⟩
 ·rw[I] at cF;refine hs (Ζ dD cF) ?_;refine W.loop ?_;refine W.forget [(0,.z (ptr m 0)),(4,.z (.int .i32 (mwd ο)))] η (.stop ?_);exact N9 ε Η (φ+1) φ ο _ (Nat.lt_succ_self _) γ Ac nc N' (.inl ⟨R.imp id λh=>.inr (.inl h),rfl⟩)
 ·rw[I] at cF;refine hs (Ζ dD cF) ?_;refine W.loop ?_;refine W.forget [(0,.z (ptr m 0)),(4,.z (.int .i32 (mwd ο)))] η (.stop ?_);exact N9 ε Η (φ+1) φ ο _ (Nat.lt_succ_self _) γ Ac nc N' (.inr ⟨R,xR,ν,I,rfl⟩)
 ·rw[I] at cF;refine hs (Ζ dD cF) ?_;refine W.cn ?_;refine fp [0,1,2] [3] ?_;refine W.stop ?_;refine V.NK (U _ _ _).here (sp:=sp) ε.spec (by rw[b4];exact id) ε.aU (vs:=[ptr m 1,.bool true,.int .i64 2]) rfl ⟨⟨rfl,rfl,by simp[Frame.enter],rfl⟩,NV,⟨_,rfl⟩,rfl,rfl,rfl⟩ (λgT fM μ=>?_);have hj:=μ.jj.mZ;refine⟨by have:=hj.cZ;omega,{fM with cZ:=fM.cZ+1},.ch k .done .work,rfl,rfl,⟨rfl,rfl,rfl⟩,by rw[b4];exact .post,λhM ez=>?_⟩;rw[gR];refine V.b3 (U _ _ _) ?_;refine W.bJ (.stop ?_);refine V.DT (U _ _ _) rfl rfl rfl rfl Tryz.func215 rfl λbz bB H1 κ χ=>?_;obtain rfl:bB=[]:=dB.1 χ.len;rintro y rfl;exact Η _ bz H1 κ.ext
end
noncomputable def Av:Code:=Tryz.f176.body.getD .skip
theorem XZ:(Tryz.prog.funcs[176]?).any (·.norace)=true:=by kernel_rfl
section
variable {Q:Value->Prop} {mn:Bool} {x:aW} {c:Frame} {rest:List Frame} {S:aD} {B:aP} {σ:List Row} {H:π} {s m k:Nat} {sp:Spec} {v:Option (Nat×aN)} {t:Tok}
abbrev Oa (Q:Value->Prop) (mn:Bool) (x:aW) (c:Frame) (rest:List Frame) (H:π) (s m:Nat) (t:Tok) (v:Option (Nat×aN)) (d:Nat) (K:List Item) (env:ab):Prop:=
 V Tryz.prog Q mn (one (bw x s t v d)) (Frame.enter Tryz.prog 176 #[ptr m 0] .normal) (c::rest) 21 ⟨fb,[],H,[],0⟩ K env []
theorem Ob {az:aD} {H H':π} (h:Ext fb [] H az [] H'):Ext fb [] H fb [] H':=
 ⟨λb o v h=>(by cases h),λb hb Υ=>h.fH b hb Υ,λb hb=>h.blocks b hb,λb o v h=>(by cases h),h.grow⟩
theorem Oc (ε:jm x s m sp) (Η:As Q mn x c rest H s k 0) {env:ab}:Oa Q mn x c rest H s m (.ch k .done .work) v 1 [.code (dI [1,1,1] Av)] env:=by
 letI:bj:=eP;have U:=ε.seq;refine V.b3 (U _ _ _) ?_;unfold Av;refine W.cn (.stop ?_);refine V.enable (U _ _ _).here (Nat.succ_pos _) ⟨⟨rfl,rfl,by simp[Frame.enter],rfl⟩,tO,⟨_,rfl⟩,rfl,rfl,rfl⟩ ?_;rw[Ah];refine V.b3 (U _ _ _) ?_;refine W.bJ (.stop ?_);refine V.DT (U _ _ _) rfl rfl rfl rfl Tryz.func176 rfl λbz bB H1 κ χ=>?_;obtain rfl:bB=[]:=dB.1 χ.len;rintro y rfl;exact Η _ bz H1 κ.ext
theorem X0 (ε:jm x s m sp) (χ:Holds S B σ H) {L:List Nat}
  (dn:∀(az:aD) (H':π),Ext S [] H az [] H'->Holds az [] [] H'->∃H1 E,Split H' H1 E/\sp.bb (L++[k]) E/\As Q mn x c rest H1 s k 0) :
  cm Tryz.prog Q mn (bw x s (.ch k (.dj L) .work) v 0) (Frame.enter Tryz.prog 176 #[ptr m 0] .normal) (c::rest) H:=by
 letI:bj:=eP;have U:=ε.seq;refine V.qb (z:=one _) (vs:=[ptr m 0]) Tryz.func176 rfl χ (by simp[Tryz.ntmps176]) ?_ _ rfl;refine V.b3 (U _ _ _) ?_;refine cI ?_;refine aA rfl ?_;refine cI ?_;refine W.cn ?_;refine fp [0,1,2] [3] ?_;refine W.stop ?_;refine V.xL (U _ _ _).here (sp:=sp) ε.spec (by rw[b4];exact id) ⟨rfl,rfl,by simp[Frame.enter],rfl⟩ rfl rfl rfl xM rfl XZ mwd (λο w Α bD=>bD.dJ (by rw[Α];exact ε.aU)) (λgT fM rl=>.inl ?_);unfold h3;rw[kl];refine V.b3 (U _ _ _) ?_;refine W.bJ ?_;refine cI ?_;refine W.forget [(0,.z (ptr m 0))] η ?_;refine W.cn ?_;refine fp [0] [1,2] ?_;refine W.stop ?_;refine V.conv (U _ _ _).here (sp:=sp) ε.spec (by rw[b4];exact id) ⟨rfl,rfl,by simp[Frame.enter],rfl⟩ rfl rfl rfl HS tP HT rfl (λο w Α bD=>⟨_,bD.dJ (by rw[Α];exact ε.aU)⟩) (λφ ο μ=>?_);unfold h3;rw[kl];refine V.FD ε.rel rfl (sp:=sp) (L:=L) ε.spec ε.aU b4 ⟨⟨rfl,rfl,by simp[Frame.enter],rfl⟩,NP,⟨_,rfl⟩,rfl,rfl,rfl⟩ λbz bB H1 t1 κ ς=>?_;obtain rfl:bB=[]:=dB.1 ς.holds.len;obtain⟨bH,E,Ξ,ah,aR⟩:=dn bz H1 κ.ext ς.holds;refine⟨bH,E,Ξ,ah,?_⟩;rw[gR];refine V.here (x:=one _) (S:=fb) (B:=[]) (σ:=[]) (m:=0) (nt:=21) ?_ (ς.none η) _ rfl;refine V.b3 (U _ _ _) ?_;refine W.bJ ?_;refine cI ?_;refine W.cn (.stop ?_);refine V.disable (U _ _ _).here ⟨⟨rfl,rfl,by simp[Frame.enter],rfl⟩,Ak,⟨_,rfl⟩,rfl,rfl,rfl⟩ ?_;rw[Ag];refine V.b3 (U _ _ _) ?_;refine W.bJ ?_;refine cI ?_;refine W.cn ?_;refine fp [0,1,2] [3,4] ?_;refine W.stop ?_;refine V.ND (U _ _ _).here (Nat.succ_pos _) (sp:=sp) ε.spec (by rw[b4];exact id) ε.aU ⟨⟨rfl,rfl,by simp[Frame.enter],rfl⟩,NR,⟨_,rfl⟩,rfl,rfl,rfl⟩ (λxN dt rk=>?_);have hB:=rk.jj.mZ;rw[b4] at hB;have xR:=hB.hold rfl;have gC:=An ε rk.spec;have f1:=hB.wk;have f2:=hB.sv;have f3:=hB.nw;have Od:mwd {dt with cb:=0}=IntKind.i32.wrap (mwd dt+-1):=by simp only[mwd,IntKind.wrap_i32,xR];omega
 have go:∀(t:Tok) (cl:Nat),(dt.sv=0/\(dt.nw=0\/dt.wk=1)/\t=.ch k .done .work)\/(dt.sv=0/\0<dt.nw/\dt.wk=0/\t=.ch k .uc .work)\/(dt.sv=1/\t=.ch k .us .work)->
   Oa Q mn x c rest bH s m t (some (cl,{dt with cb:=0})) 1 [.code (dI [1,1,0] Av),.code (dI [1,1,1] Av)] [(0,.z (ptr m 0)),(2,.z (.int .i32 (mwd {dt with cb:=0})))]:=λt cl Ν=>by
  refine V.b3 (U _ _ _) ?_;unfold Av;refine cI ?_;by_cases Μ:mwd {dt with cb:=0}=0
  ·refine hs Μ ?_;have X1:t=.ch k .done .work:=by
    simp only[mwd] at Μ;rcases Ν with⟨_,_,h⟩|⟨_,h,_⟩|⟨h,_⟩
    ·exact h
    ·omega
    ·omega
   subst X1;exact .stop (Oc ε aR)
  ·have jz:(mwd {dt with cb:=0} != 0)=true:=by simpa using Μ
   refine hs (Ζ Μ jz) ?_;refine W.cn ?_;refine fp [0,1] [2] ?_;refine W.stop ?_;refine V.call (U _ _ _) ⟨rfl,rfl,by simp[Frame.enter],rfl⟩ rfl rfl rfl ⟨_,Tryz.func215,rfl,rfl⟩ λjN o0 jO t4 X2 sm pY HZ=>?_;obtain rfl:=mD (l:=[ptr m 0,.int .i32 (mwd {dt with cb:=0})]) HZ;obtain rfl:o0=[]:=dB.1 pY.holds.len;rintro y rfl;refine XY ε (λgΟ gm fE X3=>?_) (by exact rk.spec) rfl f1 f2 (by show dt.nw<7;omega) Ν;rw[ie rfl];have D3:Ext fb [] bH fb [] fE:=(Ob sm.ext).trans (Ob X3);refine V.here (x:=one _) (S:=fb) (B:=[]) (σ:=[]) (m:=0) (nt:=21) ?_ ((pY.put (a:=nZ) rfl (.z _)).none η) _ rfl;refine V.b3 (U _ _ _) ?_;refine W.bJ (.stop ?_);exact Oc ε λv6 H0 H2 bn=>aR v6 H0 H2 (D3.trans bn)
 by_cases nc:dt.sv=1
 ·refine⟨{dt with cb:=0},.ch k .us .work,Od,rfl,⟨rfl,rfl,rfl⟩,by rw[b4];exact .QL nc,λAu _=>?_⟩;rw[gR];refine V.b3 (U _ _ _) ?_;refine W.part (A:=[]) Ρ [4] [] rfl λΔ ζ=>?_;(try simp);(repeat (rw[ae];simp[]));(try simp[]);apply ζ;refine W.bJ ?_
  first|apply gM|apply wb|apply g6|apply wd
  refine W.forget [(0,.z (ptr m 0)),(2,.z (.int .i32 (mwd {dt with cb:=0})))] η (.stop ?_);exact go _ Au (.inr (.inr ⟨nc,rfl⟩))
 ·have gu:dt.sv=0:=by omega
  have step:∀(t:Tok),(dt.sv=0/\(dt.nw=0\/dt.wk=1)/\t=.ch k .done .work)\/(dt.sv=0/\0<dt.nw/\dt.wk=0/\t=.ch k .uc .work)->Act dt (.ch k .fin .work) {dt with cb:=0} t->∃o' t',mwd o'=IntKind.i32.wrap (mwd dt+-1)/\o'.cZ=dt.cZ/\xK dt o'/\Act dt (.ch k .fin .work) o' t'/\((dt.sv=0/\(dt.nw=0\/dt.wk=1)/\t'=.ch k .done .work)\/(dt.sv=0/\0<dt.nw/\dt.wk=0/\t'=.ch k .uc .work))/\o'={dt with cb:=0}:=λt I R=>⟨_,t,Od,rfl,⟨rfl,rfl,rfl⟩,R,I,rfl⟩;obtain⟨o',t',dh,c6,gj,qX,qY,rfl⟩:∃o' t',mwd o'=IntKind.i32.wrap (mwd dt+-1)/\o'.cZ=dt.cZ/\xK dt o'/\Act dt (.ch k .fin .work) o' t'/\((dt.sv=0/\(dt.nw=0\/dt.wk=1)/\t'=.ch k .done .work)\/(dt.sv=0/\0<dt.nw/\dt.wk=0/\t'=.ch k .uc .work))/\o'={dt with cb:=0}:=by
   by_cases Ε:dt.nw=0\/dt.wk=1
   ·exact step _ (.inl ⟨gu,Ε,rfl⟩) (.QJ gu Ε)
   ·exact step _ (.inr ⟨gu,γ,γ,rfl⟩) (.QK gu γ γ)
  refine⟨_,t',dh,c6,gj,by rw[b4];exact qX,λAu _=>?_⟩;rw[gR];refine V.b3 (U _ _ _) ?_;refine W.part (A:=[]) Ρ [4] [] rfl λΔ ζ=>?_;(try simp);(repeat (rw[ae];simp[]));(try simp[]);apply ζ;refine W.bJ ?_
  first|apply gM|apply wb|apply g6|apply wd
  refine W.forget [(0,.z (ptr m 0)),(2,.z (.int .i32 (mwd {dt with cb:=0})))] η (.stop ?_);exact go _ Au (qY.imp id λh=>.inl h)
theorem cm.leaveD [bj] {P:Program} {Q:Value->Prop} {mn:Bool} {x:aW} {c b:Frame} {rest:List Frame} {H:π} {t:Array Value} {ops:Array Oper} {fn:Func} (U:Seq (one x)) (hb:b.mode=.run) (cr:b.roundOf=none) (eu:b.defers=[]) (gn:b.kind=.deferred) (cf:P.funcs[b.fn]?=some fn) (e5:fn.results=#[])
  (mH:c.mode=.returning) (h:cm P Q mn x c rest H):cm P Q mn x (ax b t [.inRegion ops []]) (c::rest) H:=by
 refine aE.bJ (x:=one x) U hb (.rO U hb cr (.FY U rfl eu gn cf ?_)) x rfl;rw[results_none e5];refine ξ.pure' ?_;simp only[mH];intro y Φ;cases Φ;exact h
theorem X4 (ε:jm x s m sp) (χ:Holds S B σ H) (mH:c.mode=.returning) {L:List Nat}
  (dn:∀(az:aD) (H':π),Ext S [] H az [] H'->Holds az [] [] H'->∃H1 E,Split H' H1 E/\sp.bb (L++[k]) E/\∀(v:Option (Nat×aN)) (cL:aD) (bH:π),Ext fb [] H1 cL [] bH->cm Tryz.prog Q mn (bw x s (.ch k .done .work) v 0) c rest bH) :
  cm Tryz.prog Q mn (bw x s (.ch k (.dj L) .work) v 0) (Frame.enter Tryz.prog 145 #[ptr m 0] .deferred) (c::rest) H:=by
 letI:bj:=eP;have U:=ε.seq;rw[nR (body:=Tryz.f145.body.getD .skip) Tryz.func145 rfl];refine V.here (x:=one _) (m:=0) (nt:=6) (env:=entry 0 [.z (ptr m 0)]) ?_ (fi.enter χ.bare ⟨rfl,λi a v I R=>?_⟩ (Nat.le_refl _) η) _ rfl
 ·refine V.eY (U _ _ _) rfl ?_;simp only[Tryz.f145,Option.getD_some];refine cI ?_;refine W.cn ?_;refine fp [0,1,2] [3] ?_;refine W.stop ?_;refine V.call (U _ _ _) ⟨rfl,rfl,by simp[Frame.enter],rfl⟩ rfl rfl rfl ⟨_,Tryz.func176,rfl,rfl⟩ λbz bB H1 t1 oZ κ ς hv=>?_;obtain rfl:=mD (l:=[ptr m 0]) hv;obtain rfl:bB=[]:=dB.1 ς.holds.len;rintro y rfl;refine X0 ε ς.holds (L:=L) λcL bH n1 iU=>?_;obtain⟨hJ,E,Ξ,ah,aR⟩:=dn cL bH (κ.ext.trans n1) iU;refine⟨hJ,E,Ξ,ah,λv4 jN jO sJ=>?_⟩;rw[ie rfl];refine cm.leaveD (U _ _ _) rfl rfl rfl rfl Tryz.func145 rfl mH ?_;exact aR v4 jN jO sJ
 ·cases i with
  | zero=>simp at I R;subst I;subst R;exact .z _
  | succ i=>simp at I
end
structure lS (x:aW) (s:Nat) (sp:Spec):Prop where
 rel:x.rel=false
 aG:x.aG=λ_=>none
 spec:x.spec s=some sp
 top:sp.top<7
 still:∀bq,bq≠s->mW (x.tok bq)
theorem lS.seq {x:aW} {s:Nat} {sp:Spec} (h:lS x s sp):∀t v d,@Seq eP (one (bw x s t v d)):=λt v d=>@Seq.tM eP _ trivial h.rel h.aG
abbrev hT (c w:Nat):Int:=(c:Int)*4294967296+w
theorem D4:∀c<8,∀w<2,iA .u64 (hT c w) 2147483648=0:=by decide +kernel
theorem D5:∀c<8,∀w<2,IntKind.i32.wrap ((hT c w).fdiv (2 ^ min 32 IntKind.u64.bits))=c:=by decide +kernel
theorem D6:∀c<8,∀w<2,IntKind.u32.wrap (iA .u64 (hT c w) 2147483647)=w:=by decide +kernel
theorem X5:∀c<7,∀w<2,IntKind.u64.wrap (hT c w+4294967296)=hT (c+1) w:=by decide +kernel
theorem X6:∀c<8,∀w<2,0<c->IntKind.u64.wrap (hT c w+18446744069414584320)=hT (c-1) w:=by decide +kernel
theorem X7:∀c<8,IntKind.u64.wrap (hT c 0+1)=hT c 1:=by decide +kernel
theorem Oe:IntKind.u64.wrap 1=1:=a0
theorem Of:IntKind.u64.wrap (2 ^ min 32 IntKind.u64.bits)=4294967296:=a0
theorem H3:IntKind.i32.wrap 1=1:=a0
theorem tR (ο:aN):cJ ο=hT ο.cnt ο.wt:=rfl
section
variable {Q:Value->Prop} {mn:Bool} {x:aW} {c:Frame} {rest:List Frame} {S:aD} {B:aP} {σ:List Row} {H:π} {s k:Nat} {sp:Spec} {v:Option (Nat×aN)} {t:Tok}
theorem D7 (ε:lS x s sp) {ο:aN} (h:ο.toSpec=sp):ο.top<7:=by have:=ε.top;rw[show ο.top=sp.top by rw[<-h]];exact this
def xS (Q:Value->Prop) (mn:Bool) (x:aW) (c:Frame) (rest:List Frame) (S:aD) (H:π) (r:Value):Prop:=
 ∀(az:aD) (H':π),Ext S [] H az [] H'->Holds az [] [] H'->cm Tryz.prog Q mn x (c.finish r) rest H'
theorem X8 (ε:lS x s sp) (cQ:¬fQ t) {d:Int} (χ:Holds S B σ H)
  (dp:∀φ ο,Seen (bw x s t v 1) s sp φ ο->∃o' t',cJ o'=IntKind.u64.wrap (cJ ο+d)/\o'.cB=ο.cB/\ri ο o'/\Act ο t o' t'/\∀cl,cl<φ->xS Q mn (bw x s t' (some (cl,o')) 1) c rest S H (.int .u64 (cJ o'))) :
  cm Tryz.prog Q mn (bw x s t v 1) (Frame.enter Tryz.prog 166 #[ptr s 0,.int .u64 d] .normal) (c::rest) H:=by
 letI:bj:=eP;have U:=ε.seq;refine V.qb (z:=one _) (vs:=[ptr s 0,.int .u64 d]) Tryz.func166 rfl χ (by simp[Tryz.ntmps166]) ?_ _ rfl;refine V.b3 (U _ _ _) ?_;refine hr ?_;refine W.cn ?_;refine fp [0,1,2,3] [4,5] ?_;refine W.stop ?_;refine V.HJ (U _ _ _).here (Nat.succ_pos _) (sp:=sp) ε.spec (by rw[b4];exact cQ) ⟨⟨rfl,rfl,by simp[Frame.enter],rfl⟩,NS,⟨_,rfl⟩,rfl,rfl,rfl⟩ (λφ ο μ=>?_);obtain⟨o',t',I,R,ν,Ι,aB⟩:=dp φ ο μ;refine⟨o',t',I,R,ν,by rw[b4];exact Ι,λcl ez=>?_⟩;rw[gR];refine V.b3 (U _ _ _) ?_;refine W.part (A:=[]) Ρ [5] [] rfl λΔ ζ=>?_;(try simp);(repeat (rw[ae];simp[]));(try simp[]);apply ζ;refine W.bJ (.stop ?_);refine V.sD (U _ _ _) rfl rfl rfl rfl Tryz.func166 rfl rfl λbz bB H1 κ jC=>?_;obtain rfl:bB=[]:=dB.1 jC.len;rintro y rfl;exact aB cl ez bz H1 κ.ext jC
theorem H4 (ε:lS x s sp) (cQ:¬fQ t) (χ:Holds S B σ H)
  (dp:∀φ ο,Seen (bw x s t v 1) s sp φ ο->xS Q mn (bw x s t (some (φ,ο)) 1) c rest S H (.int .u64 (cJ ο))\/∃t',Act ο t ο t'/\∀cl,cl<φ->xS Q mn (bw x s t' (some (cl,ο)) 1) c rest S H (.int .u64 (cJ ο))) :
  cm Tryz.prog Q mn (bw x s t v 1) (Frame.enter Tryz.prog 168 #[ptr s 0] .normal) (c::rest) H:=by
 letI:bj:=eP;have U:=ε.seq;refine V.qb (z:=one _) (vs:=[ptr s 0]) Tryz.func168 rfl χ (by simp[Tryz.ntmps168]) ?_ _ rfl;refine V.b3 (U _ _ _) ?_;refine hr ?_;refine W.cn ?_;refine fp [0,1,2] [3,4] ?_;refine W.stop ?_;refine V.HI (U _ _ _).here (Nat.succ_pos _) (sp:=sp) ε.spec (by rw[b4];exact cQ) ⟨⟨rfl,rfl,by simp[Frame.enter],rfl⟩,NT,⟨_,rfl⟩,rfl,rfl,rfl⟩ (λφ ο μ=>(dp φ ο μ).imp (λh=>?_) (λ⟨t',Ι,aB⟩=>⟨t',by rw[b4];exact Ι,λcl ez=>?_⟩))
 ·unfold h3;rw[kl];refine V.b3 (U _ _ _) ?_;refine W.part (A:=[]) Ρ [4] [] rfl λΔ ζ=>?_;(try simp);(repeat (rw[ae];simp[]));(try simp[]);apply ζ;refine W.bJ (.stop ?_);refine V.sD (U _ _ _) rfl rfl rfl rfl Tryz.func168 rfl rfl λbz bB H1 κ jC=>?_;obtain rfl:bB=[]:=dB.1 jC.len;rintro y rfl;exact h bz H1 κ.ext jC
 ·rw[gR];refine V.b3 (U _ _ _) ?_;refine W.part (A:=[]) Ρ [4] [] rfl λΔ ζ=>?_;(try simp);(repeat (rw[ae];simp[]));(try simp[]);apply ζ;refine W.bJ (.stop ?_);refine V.sD (U _ _ _) rfl rfl rfl rfl Tryz.func168 rfl rfl λbz bB H1 κ jC=>?_;obtain rfl:bB=[]:=dB.1 jC.len;rintro y rfl;exact aB cl ez bz H1 κ.ext jC
theorem X9 (ε:lS x s sp) (cQ:¬fQ t) (χ:Holds S B σ H) {old new:Int}
  (Af:∀φ ο,Seen (bw x s t v 1) s sp φ ο->¬cJ ο=old->xS Q mn (bw x s t (some (φ,ο)) 1) c rest S H (.bool false))
  (dp:∀φ ο,Seen (bw x s t v 1) s sp φ ο->cJ ο=old->∃o' t',cJ o'=new/\o'.cB=ο.cB/\ri ο o'/\Act ο t o' t'/\∀cl,cl<φ->xS Q mn (bw x s t' (some (cl,o')) 1) c rest S H (.bool true)) :
  cm Tryz.prog Q mn (bw x s t v 1) (Frame.enter Tryz.prog 179 #[ptr s 0,.int .u64 old,.int .u64 new] .normal) (c::rest) H:=by
 letI:bj:=eP;have U:=ε.seq;refine V.qb (z:=one _) (vs:=[ptr s 0,.int .u64 old,.int .u64 new]) Tryz.func179 rfl χ (by simp[Tryz.ntmps179]) ?_ _ rfl;refine V.b3 (U _ _ _) ?_;refine hr ?_;refine W.cn ?_;refine fp [0,1,2,3,4] [5,6] ?_;refine W.stop ?_;refine V.W9 (U _ _ _).here (Nat.succ_pos _) (sp:=sp) ε.spec (by rw[b4];exact cQ) ⟨⟨rfl,rfl,by simp[Frame.enter],rfl⟩,XC,⟨_,rfl⟩,rfl,rfl,rfl⟩ (λφ ο μ hv=>?_) (λφ ο μ hv=>?_)
 ·have h:=Af φ ο μ hv;unfold h3;rw[kl];refine V.b3 (U _ _ _) ?_;refine W.part (A:=[]) Ρ [6] [] rfl λΔ ζ=>?_;(try simp);(repeat (rw[ae];simp[]));(try simp[]);apply ζ;refine W.bJ (.stop ?_);refine V.sD (U _ _ _) rfl rfl rfl rfl Tryz.func179 rfl rfl λbz bB H1 κ jC=>?_;obtain rfl:bB=[]:=dB.1 jC.len;rintro y rfl;exact h bz H1 κ.ext jC
 ·obtain⟨o',t',I,R,ν,Ι,aB⟩:=dp φ ο μ hv;refine⟨o',t',I,R,ν,by rw[b4];exact Ι,λcl ez=>?_⟩;rw[gR];refine V.b3 (U _ _ _) ?_;refine W.part (A:=[]) Ρ [6] [] rfl λΔ ζ=>?_;(try simp);(repeat (rw[ae];simp[]));(try simp[]);apply ζ;refine W.bJ (.stop ?_);refine V.sD (U _ _ _) rfl rfl rfl rfl Tryz.func179 rfl rfl λbz bB H1 κ jC=>?_;obtain rfl:bB=[]:=dB.1 jC.len;rintro y rfl;exact aB cl ez bz H1 κ.ext jC
end
theorem fi.jI {m nt:Nat} {S az:aD} {B:aP} {H H':π} {env:ab} {t:Array Value} (h:fi m nt S B H [] env t) (he:∀p∈env,∃v,p.2=θ.z v) (χ:Holds az [] [] H'):fi 0 nt az [] H' [] env t:=⟨χ,Ar he h.b5,h.size,Nat.le_refl _⟩
theorem cm.H5 [bj] {P:Program} {Q:Value->Prop} {mn:Bool} {x:aW} {c b:Frame} {rest:List Frame} {H:π} {t:Array Value} {k:List Item} {fn:Func} {f:FuncId} (U:Seq (one x)) (hy:Seq (one {x with deaf:=x.deaf-1})) (hd:0<x.deaf) (hb:b.mode=.run) (cr:b.roundOf=none) (eu:b.defers=[Go.Conc.dcall f #[]]) (gn:b.kind=.normal) (cf:P.funcs[b.fn]?=some fn) (e5:fn.results=#[])
  (he:Entry P f (λ_=>do mark .enable;pure Extern.Race.none_)) (h:cm P Q mn {x with deaf:=x.deaf-1} (c.finish (.tuple #[])) rest H):cm P Q mn x (ax b t (.code .ret::k)) (c::rest) H:=by
 refine aE.ret (x:=one x) U hb cr (λy Φ=>?_) x rfl;cases Φ;refine cm.Xe U.here hd hb cr eu he ?_;refine aE.back (f:={ax {b with defers:=[]} t (.code .ret::k) with mode:=.returning}) (x:=one {x with deaf:=x.deaf-1}) hy rfl rfl (.inl gn) cf ?_ _ rfl;rw[results_none e5];refine ξ.pure' (λy Φ=>?_);cases Φ;exact h
section
variable {Q:Value->Prop} {mn:Bool} {x:aW} {c:Frame} {rest:List Frame} {S:aD} {B:aP} {σ:List Row} {H:π} {s n p:Nat} {sp:Spec} {v:Option (Nat×aN)} {t:Tok}
theorem X' (ε:lS x s sp) (Ε:n<sp.top) (χ:Holds S B σ H)
  (Η:∀v,xS Q mn (bw x s (.par (n+1) (p+1) .add) v 0) c rest S H (.tuple #[])) :
  cm Tryz.prog Q mn (bw x s (.par n p .add) v 0) (Frame.enter Tryz.prog 140 #[ptr s 0,.int .i64 1] .normal) (c::rest) H:=by
 letI:bj:=eP;have U:=ε.seq;refine V.qb (z:=one _) (vs:=[ptr s 0,.int .i64 1]) Tryz.func140 rfl χ (by simp[Tryz.ntmps140]) ?_ _ rfl;refine V.b3 (U _ _ _) ?_;refine hr ?_;refine W.cn (.stop ?_);refine V.disable (U _ _ _).here ⟨⟨rfl,rfl,by simp[Frame.enter],rfl⟩,Ak,⟨_,rfl⟩,rfl,rfl,rfl⟩ ?_;rw[Ag];refine V.b3 (U _ _ _) ?_;refine W.bJ ?_;refine cI ?_;refine W.cn (.stop ?_);refine V.HL (U _ _ _) ⟨rfl,rfl,by simp[Frame.enter],rfl⟩ rfl rfl rfl ?_;refine V.b3 (U _ _ _) ?_;refine W.bJ ?_;refine hr ?_;refine W.cn (.stop ?_);refine V.DU (U _ _ _) (vs:=[]) ⟨⟨rfl,rfl,by simp[Frame.enter],rfl⟩,NQ,⟨_,rfl⟩,rfl,rfl,rfl⟩ ?_;refine V.b3 (U _ _ _) ?_;refine W.bJ ?_;refine hr ?_;refine W.cn ?_;refine W.part (A:=[]) Ρ [0,1,2,3,4,5] [6,7] rfl λΔ ζ=>?_;(try simp);(repeat (rw[ae];simp[Oe,Of]));(try simp[Oe,Of]);apply ζ;refine W.stop ?_;refine V.call (U _ _ _) ⟨rfl,rfl,by simp[Frame.enter],rfl⟩ rfl rfl rfl ⟨_,Tryz.func166,rfl,rfl⟩ λbz bB H1 t1 oZ κ ς hv=>?_;obtain rfl:=mD (l:=[ptr s 0,.int .u64 4294967296]) hv;obtain rfl:bB=[]:=dB.1 ς.holds.len;rintro y rfl;refine X8 ε id ς.holds λφ ο μ=>?_;have ψ:=μ.jj.sH;rw[b4] at ψ;obtain⟨Ξ,ah,aR,ca,iB⟩:=ψ.add n p rfl;have gC:=D7 ε μ.spec;have qR:n<ο.top:=by rw[show ο.top=sp.top by rw[<-μ.spec]];exact Ε
 have small:∀a b c d:Nat,a=b+1->b<=c->c<d->d<7->a<8/\b<7/\0<a/\¬a=0:=λa b c d I R ν Ι=>γ;obtain⟨cc,kQ⟩:=aO (ο.cnt+1);obtain⟨k1,bG,pG,gΡ⟩:=small cc ο.cnt n ο.top kQ iB qR gC;have qH:cJ {ο with cnt:=cc}=hT cc 0:=by rw[tR];simp only[Ξ]
 refine⟨{ο with cnt:=cc},.par (n+1) (p+1) .add,?_,rfl,⟨rfl,rfl,rfl⟩,by rw[kQ];exact .add qR,λcl ez cL bH n1 iU=>?_⟩
 ·rw[qH,tR,Ξ,X5 ο.cnt bG 0 a0,kQ]
 have f1:=D4 cc k1 0 a0
 have f2:=D5 cc k1 0 a0
 have f3:=D6 cc k1 0 a0;rw[qH];generalize hT cc 0=w at f1 f2 f3;rw[ie rfl];refine V.here (x:=one _) (m:=0) (nt:=117) ?_ ((ς.put (a:=.z (.int .u64 w)) rfl (.z _)).jI η iU) _ rfl;have fin:∀(v:Option (Nat×aN)) (env:ab) (K:List Item),V Tryz.prog Q mn (one (bw x s (.par (n+1) (p+1) .add) v 1)) {Frame.enter Tryz.prog 140 #[ptr s 0,.int .i64 1] .normal with defers:=[Go.Conc.dcall 161 #[]]} (c::rest) 117 ⟨cL,[],bH,[],0⟩ (.code .ret::K) env []:=λv env K jP jQ hJ t3 fW eG=>by
  rintro y rfl;obtain rfl:jQ=[]:=dB.1 eG.holds.len;exact cm.H5 (U _ _ _) (U _ _ 0) (Nat.succ_pos _) rfl rfl rfl rfl Tryz.func140 rfl tO (Η v jP hJ ((κ.ext.trans n1).trans fW.ext) eG.holds)
 refine V.b3 (U _ _ _) ?_;refine W.part (A:=[]) Ρ [7] [] rfl λΔ ζ=>?_;(try simp);(repeat (rw[ae];simp[]));(try simp[]);apply ζ;refine W.bJ ?_;by_cases I:cc=1
 ·refine hs (Ζ f1 (Ζ f2 (Ζ f3 (Ζ @H3 I)))) ?_;refine W.cn ?_;refine fp [0,1,2] [3,4] ?_;refine W.stop ?_;refine V.conv (U _ _ _).here (sp:=sp) ε.spec (by rw[b4];exact id) ⟨rfl,rfl,by simp[Frame.enter],rfl⟩ rfl rfl rfl NW tP NX rfl (λο w Α bD=>⟨_,bD.Ξ⟩) (λφ ο μ=>?_);unfold h3;rw[kl];refine V.W7 ε.rel b4 η ⟨⟨rfl,rfl,by simp[Frame.enter],rfl⟩,XA,⟨_,rfl⟩,rfl,rfl,rfl⟩ ?_;refine V.b3 (U _ _ _) ?_;refine W.bJ ?_;refine hs (Ζ f1 (Ζ f2 (Ζ f3 (Ζ @H3 I)))) ?_;exact .stop (fin _ _ _)
 ·have wO:¬(cc:Int)=1:=λh=>I (by exact_mod_cast h);refine hs (Ζ f1 (Ζ f2 (Ζ f3 (Ζ @H3 (Ζ I (Ζ wO pG)))))) ?_;exact .stop (fin _ _ _)
end
end Go.TL
