import Derived.Test.YtlabjopijpkiaaaGreatQAV
set_option maxHeartbeats 16000000
set_option maxRecDepth 20000
set_option linter.unusedSectionVars false
set_option linter.unusedSimpArgs false
set_option linter.unusedVariables false
namespace Go.TL
open Go.Conc Go.Proofs
open Go.ConcN (sumTo upd sumTo_upd upd_ne upd_same sumTo_congr le_sumTo)
structure jh (x:aU) (s m:Nat) (sp:Spec):Prop where
 rel:x.rel=false
 aF:x.aF=λ_=>none
 spec:x.spec s=some sp
 aT:sp.aT=some m
 top:sp.top<7
 still:∀bq,bq≠s->m1 (x.tok bq)
theorem jh.seq {x:aU} {s m:Nat} {sp:Spec} (h:jh x s m sp):∀t v d,@Seq eS (one (bx x s t v d)):=λt v d=>@Seq.uB eS _ trivial h.rel h.aF
theorem cq.YG [bn] {P:Program} {Q:Value->Prop} {mn:Bool} {x:aU} {c b:Frame} {rest:List Frame} {H:ψ} {t:Array Value} {ops:Array Oper} {k:List Item} {fn:Func} (U:Seq (one x)) (hb:b.mode=.run) (cf:b.roundOf=none) (eo:b.defers=[]) (gq:b.kind=.normal) (bY:P.funcs[b.fn]?=some fn) (eY:fn.results=#[])
  (h:cq P Q mn x (c.finish (.tuple #[])) rest H):cq P Q mn x (au b t (.inRegion ops []::.code .ret::k)) (c::rest) H:=by
 refine aE.bJ (x:=one x) U hb (.ret U hb cf (.back U rfl eo (.inl gq) bY ?_)) x rfl;rw[results_none eY];exact υ.pure' (λy Ο=>by cases Ο;exact h)
abbrev ptr (b o:Nat):Value:=.pointer (some ⟨b,o,none⟩)
section
variable {Q:Value->Prop} {mn:Bool} {x:aU} {c:Frame} {rest:List Frame} {S:aC} {B:aP} {σ:List Row} {H:ψ} {s m k:Nat} {sp:Spec} {v:Option (Nat×aM)}
def sU (Q:Value->Prop) (mn:Bool) (x:aU) (c:Frame) (rest:List Frame) (S:aC) (H:ψ) (s k:Nat) (sp:Spec):Prop:=
 ∀(ay:aC) (H':ψ) (L:List Nat) (E:ψ),Ext S [] H ay [] H'->Holds ay [] [] H'->sp.aI L E->Apart H' E->(L.Nodup/\k∉L/\∃w,Fits H' w/\Fits E w)->cq Tryz.prog Q mn (bx x s (.ch k (.dj L) .work) none 0) (c.finish (.tuple #[])) rest (join H' E)
def OI (Q:Value->Prop) (mn:Bool) (x:aU) (s m k:Nat) (sp:Spec):Prop:=∀(c:Frame) (rest:List Frame) (S:aC) (B:aP) (σ:List Row) (H:ψ) (v:Option (Nat×aM)),Holds S B σ H->sU Q mn x c rest S H s k sp->
 cq Tryz.prog Q mn (bx x s (.ch k (.act false) .work) v 1) (Frame.enter Tryz.prog 213 #[ptr m 0] .normal) (c::rest) H
theorem YH (ζ:jh x s m sp) (Β:Holds S B σ H) (YI:OI Q mn x s m k sp)
  (Θ:sU Q mn x c rest S H s k sp):cq Tryz.prog Q mn (bx x s (.ch k .idle .work) v 0) (Frame.enter Tryz.prog 175 #[ptr m 0] .normal) (c::rest) H:=by
 letI:bn:=eS;have U:=ζ.seq;refine V.p' (z:=one _) (vs:=[ptr m 0]) Tryz.func175 rfl Β (by simp[Tryz.ntmps175]) ?_ _ rfl;refine V.a' (U _ _ _) rfl ?_
 repeat first|apply aZ|apply wb|apply a3|apply wd
 refine W.cl (.stop ?_);refine V.disable (U _ _ _).here ⟨⟨rfl,rfl,by simp[Frame.enter],rfl⟩,AW,⟨_,rfl⟩,rfl,rfl,rfl⟩ ?_;rw[AS];refine V.a' (U _ _ _) rfl ?_;refine W.bJ ?_
 repeat first|apply aZ|apply wb|apply a3|apply wd
 refine W.cl ?_;refine W.part (A:=[]) Κ [0,1,2] [3] rfl λη I=>?_;(try simp);(repeat (rw[δ];simp));apply I;refine W.stop ?_;refine V.Ey (U _ _ _).here (Nat.succ_pos _) (sp:=sp) ζ.spec (by rw[b3];exact id) ζ.aT ⟨⟨rfl,rfl,by simp[Frame.enter],rfl⟩,EF,⟨_,rfl⟩,rfl,rfl,rfl⟩ (λφ ς ο hv=>?_) (λφ ς ο hv=>?_)
 ·refine .inr ⟨.ch k (.act false) .work,by rw[b3];exact .RN,λcn _=>?_⟩;rw[gX];refine V.a' (U _ _ _) rfl ?_;refine W.bJ ?_
  repeat first|apply aZ|apply wb|apply a3|apply wd
  refine aj rfl ?_
  repeat first|apply aZ|apply wb|apply a3|apply wd
  refine W.cl ?_;refine W.part (A:=[]) Κ [0] [1] rfl λη I=>?_;(try simp);(repeat (rw[δ];simp));apply I;refine W.stop ?_;refine V.call (U _ _ _) ⟨rfl,rfl,by simp[Frame.enter],rfl⟩ rfl rfl rfl ⟨_,Tryz.func213,rfl,rfl⟩ λbB bG H1 t1 oW ν ω hv=>?_;obtain rfl:=mH (l:=[ptr m 0]) hv;rintro y rfl;refine YI _ _ bB bG _ H1 _ ω.holds λcU bO L E kX iZ dn iG wy=>?_;rw[ij rfl];refine cq.leave0 (U _ _ _) rfl rfl rfl rfl Tryz.func175 rfl ?_;obtain rfl:bG=[]:=dp.1 ω.holds.len;exact Θ cU bO L E (ν.ext.trans kX) iZ dn iG wy
 ·have ah:ς.cb=0/\ς.sv=0/\ς.wk=0/\ς.nw=0:=by simp only[mwd] at hv;omega
  refine⟨{ς with cb:=1},.ch k .own .work,by simp[mwd];omega,rfl,⟨rfl,rfl,rfl⟩,by rw[b3];exact .RL ah.1 ah.2.1 ah.2.2.1 ah.2.2.2,λcn _=>?_⟩;rw[gX];refine V.a' (U _ _ _) rfl ?_;refine W.bJ ?_
  repeat first|apply aZ|apply wb|apply a3|apply wd
  refine al rfl ?_
  repeat first|apply aZ|apply wb|apply a3|apply wd
  refine al rfl ?_
  repeat first|apply aZ|apply wb|apply a3|apply wd
  refine W.cl (.stop ?_);refine V.enable (U _ _ _).here (Nat.succ_pos _) ⟨⟨rfl,rfl,by simp[Frame.enter],rfl⟩,uD,⟨_,rfl⟩,rfl,rfl,rfl⟩ ?_;rw[AT];refine V.a' (U _ _ _) rfl ?_;refine W.bJ ?_
  repeat first|apply aZ|apply wb|apply a3|apply wd
  refine W.cl ?_;refine W.part (A:=[]) Κ [0] [1,2] rfl λη I=>?_;(try simp);(repeat (rw[δ];simp));apply I;refine W.stop ?_;refine V.conv (U _ _ _).here (sp:=sp) ζ.spec (by rw[b3];exact id) ⟨rfl,rfl,by simp[Frame.enter],rfl⟩ rfl rfl rfl IG uE IH rfl (λς w Γ bH=>⟨_,bH.dE (by rw[Γ];exact ζ.aT)⟩) (λφ ς ο=>?_);unfold h8;rw[j5];refine V.Cu ζ.rel rfl (sp:=sp) ζ.spec ζ.aT b3 ⟨⟨rfl,rfl,by simp[Frame.enter],rfl⟩,EE,⟨_,rfl⟩,rfl,rfl,rfl⟩ λbB bG H1 t1 L E ν ω dn iG wy=>?_;rw[gX];obtain rfl:bG=[]:=dp.1 ω.holds.len;refine cq.YG (U _ _ _) rfl rfl rfl rfl Tryz.func175 rfl ?_;exact Θ bB H1 L E ν.ext ω.holds dn iG wy
end
def dJ:List Nat->Code->Code
 | [],c=>c
 | 0::l,.seq a _=>dJ l a
 | _::l,.seq _ b=>dJ l b
 | 0::l,.cond _ a _=>dJ l a
 | _::l,.cond _ _ b=>dJ l b
 | _::l,.block _ c=>dJ l c
 | _::l,.loop c=>dJ l c
 | _,c=>c
noncomputable def qd:Code:=Tryz.f213.body.getD .skip
noncomputable def mJ:Code:=dJ [1,1,1,1,1,0,0,0] qd
noncomputable def qe:Code:=dJ [0,1] mJ
noncomputable def rv:Code:=dJ [1,1,1,1,1] qe
noncomputable def mK:Code:=dJ [1,0] rv
noncomputable def AX:Code:=dJ [1,1,1,1,1,1] qd
noncomputable def kY:List Item:=[.inLoop mJ,.inBlock 0,.code AX]
abbrev jM (Q:Value->Prop) (mn:Bool) (x:aU) (c:Frame) (rest:List Frame) (S:aC) (H:ψ) (s m:Nat) (t:Tok) (v:Option (Nat×aM)) (d:Nat) (K:List Item) (env:Ω):Prop:=
 V Tryz.prog Q mn (one (bx x s t v d)) (Frame.enter Tryz.prog 213 #[ptr m 0] .normal) (c::rest) 139 ⟨S,[],H,[],0⟩ K env []
def cT (m:Nat) (w:Int) (aw st:Bool) (it τ:Int):Ω:=[(0,.z (ptr m 0)),(2,.z (.int .i64 τ)),(3,.z (.bool st)),(4,.z (.bool aw)),(5,.z (.int .i64 it)),(6,.z (.int .i32 w))]
def o5 (a b c n:Nat) (aw st:Bool):Int:=
 if a=0/\c=0 then gY 1 (if aw then 0 else b) 0 n else gY a (if aw then 0 else b) (if st=true/\a=1 then 1 else c) (n+1)
section
variable {Q:Value->Prop} {mn:Bool} {x:aU} {c:Frame} {rest:List Frame} {S:aC} {B:aP} {σ:List Row} {H:ψ} {s m k:Nat} {sp:Spec} {v:Option (Nat×aM)} {t:Tok}
theorem YJ (ζ:jh x s m sp) {a b dC n:Nat} {aw st:Bool} {it τ:Int} (ν:a<2) (hb:b<2) (kl:dC<2) (Ι:n<7) (YK:aw=true->dC=0/\b=1) (cE:st=true->aw=true)
  (hC:jM Q mn x c rest S H s m t v 1 (.code (dJ [0] rv)::.code (dJ [1] rv)::.inBlock 1::kY) (cT m (gY a b dC n) aw st it τ++[(7,.z (.int .i32 (o5 a b dC n aw st)))])) :
  jM Q mn x c rest S H s m t v 1 (.code qe::.inBlock 1::kY) (cT m (gY a b dC n) aw st it τ):=by
 letI:bn:=eS;have U:=ζ.seq;have hX:(a=0\/a=1)/\(dC=0\/dC=1):=by omega
 have cD:=ID a ν b hb dC kl n (by omega)
 have eN:=IC a ν b hb dC kl n (by omega)
 have Ε:=Ys a ν b hb dC kl n (by omega)
 have dH:=Yt a ν b hb dC kl n (by omega)
 have qf:=Yw a ν b hb dC kl n Ι;refine V.a' (U _ _ _) rfl ?_;unfold qe mJ qd;cases aw with
 | false=>
  have ο:st=false:=by cases st<;>simp_all
  subst ο;rcases hX with⟨rfl|rfl,rfl|rfl⟩
  ·(repeat (first|apply aZ|apply wb|apply a3|apply wd|refine al rfl ?_|refine aj rfl ?_|(refine ξ λη I=>?_;simp;(repeat (rw[δ];simp[cT,cD,eN,dH]));apply I)));exact W.forget _ (by simp[cT,o5]) (.stop hC)
  ·(repeat (first|apply aZ|apply wb|apply a3|apply wd|refine al rfl ?_|refine aj rfl ?_|(refine ξ λη I=>?_;simp;(repeat (rw[δ];simp[cT,cD,eN,qf]));apply I)));exact W.forget _ (by simp[cT,o5]) (.stop hC)
  ·(repeat (first|apply aZ|apply wb|apply a3|apply wd|refine al rfl ?_|refine aj rfl ?_|(refine ξ λη I=>?_;simp;(repeat (rw[δ];simp[cT,cD,eN,dH,qf]));apply I)));exact W.forget _ (by simp[cT,o5]) (.stop hC)
  ·(repeat (first|apply aZ|apply wb|apply a3|apply wd|refine al rfl ?_|refine aj rfl ?_|(refine ξ λη I=>?_;simp;(repeat (rw[δ];simp[cT,cD,eN,qf]));apply I)));exact W.forget _ (by simp[cT,o5]) (.stop hC)
 | true=>
  obtain⟨rfl,rfl⟩:=YK rfl;rcases hX with⟨rfl|rfl,-⟩
  ·have ew:=ED 1 (by omega) 1 (by omega) 0 (by omega) n (by omega)
   have p2:=IE 1 (by omega) 1 (by omega) 0 (by omega) n (by omega);cases st
   ·(repeat (first|apply aZ|apply wb|apply a3|apply wd|refine al rfl ?_|refine aj rfl ?_|(refine ξ λη I=>?_;simp;(repeat (rw[δ];simp[cT,cD,eN,dH,ew,p2]));apply I)));exact W.forget _ (by simp[cT,o5]) (.stop hC)
   ·(repeat (first|apply aZ|apply wb|apply a3|apply wd|refine al rfl ?_|refine aj rfl ?_|(refine ξ λη I=>?_;simp;(repeat (rw[δ];simp[cT,cD,eN,Ε,dH,ew,p2]));apply I)));exact W.forget _ (by simp[cT,o5]) (.stop hC)
  ·cases st
   ·have ew:=ED 1 (by omega) 1 (by omega) 0 (by omega) (n+1) (by omega)
    have p2:=IE 1 (by omega) 1 (by omega) 0 (by omega) (n+1) (by omega);(repeat (first|apply aZ|apply wb|apply a3|apply wd|refine al rfl ?_|refine aj rfl ?_|(refine ξ λη I=>?_;simp;(repeat (rw[δ];simp[cT,cD,eN,dH,qf,ew,p2]));apply I)));exact W.forget _ (by simp[cT,o5]) (.stop hC)
   ·have iW:=Yv 1 (by omega) 1 (by omega) 0 (by omega) (n+1) (by omega)
    have ew:=ED 1 (by omega) 1 (by omega) 1 (by omega) (n+1) (by omega)
    have p2:=IE 1 (by omega) 1 (by omega) 1 (by omega) (n+1) (by omega);(repeat (first|apply aZ|apply wb|apply a3|apply wd|refine al rfl ?_|refine aj rfl ?_|(refine ξ λη I=>?_;simp;(repeat (rw[δ];simp[cT,cD,eN,Ε,dH,qf,iW,ew,p2]));apply I)));exact W.forget _ (by simp[cT,o5]) (.stop hC)
theorem OJ (ζ:jh x s m sp) (Θ:sU Q mn x c rest S H s k sp) {env:Ω} (ah:a5 env 0=.z (ptr m 0)):jM Q mn x c rest S H s m (.ch k .own .work) v 1 [.code AX] env:=by
 letI:bn:=eS;have U:=ζ.seq;refine V.a' (U _ _ _) rfl ?_;unfold AX qd;refine al rfl ?_
 repeat first|apply aZ|apply wb|apply a3|apply wd
 refine W.cl (.stop ?_);refine V.enable (U _ _ _).here (Nat.succ_pos _) ⟨⟨rfl,rfl,by simp[Frame.enter],rfl⟩,uD,⟨_,rfl⟩,rfl,rfl,rfl⟩ ?_;rw[AT];refine V.a' (U _ _ _) rfl ?_;refine W.bJ ?_
 repeat first|apply aZ|apply wb|apply a3|apply wd
 refine W.cl ?_;refine W.part (A:=[]) Κ [0] [1,2] rfl λη I=>?_;simp;(repeat (rw[δ];simp[ah]));apply I;refine W.stop ?_;refine V.conv (U _ _ _).here (sp:=sp) ζ.spec (by rw[b3];exact id) ⟨rfl,rfl,by simp[Frame.enter],rfl⟩ rfl rfl rfl IG uE IH rfl (λς w Γ bH=>⟨_,bH.dE (by rw[Γ];exact ζ.aT)⟩) (λφ ς ο=>?_);unfold h8;rw[j5];refine V.Cu ζ.rel rfl (sp:=sp) ζ.spec ζ.aT b3 ⟨⟨rfl,rfl,by simp[Frame.enter],rfl⟩,EE,⟨_,rfl⟩,rfl,rfl,rfl⟩ λbB bG H1 t1 L E ν ω dn iG wy=>?_;rw[gX];obtain rfl:bG=[]:=dp.1 ω.holds.len;refine cq.leave0 (U _ _ _) rfl rfl rfl rfl Tryz.func213 rfl ?_;exact Θ bB H1 L E ν.ext ω.holds dn iG wy
end
section
variable {Q:Value->Prop} {mn:Bool} {x:aU} {c:Frame} {rest:List Frame} {S:aC} {B:aP} {σ:List Row} {H:ψ} {s m k:Nat} {sp:Spec} {v:Option (Nat×aM)} {t:Tok}
theorem EG:(Tryz.prog.funcs[213]?).any (·.norace)=true:=by kernel_rfl
theorem OK:(Tryz.prog.funcs[245]?).any (·.norace)=true:=by kernel_rfl
def AY (Q:Value->Prop) (mn:Bool) (x:aU) (c:Frame) (rest:List Frame) (S:aC) (H:ψ) (s m k:Nat) (sp:Spec) (φ:Nat):Prop:=
 ∀(cn:Nat) (ς:aM) (aw st:Bool) (it τ:Int),cn<φ->ς.toSpec=sp->sR ς (.ch k (.act aw) .work)->(st=true->aw=true)->0<=it->it<=4->jM Q mn x c rest S H s m (.ch k (.act aw) .work) (some (cn,ς)) 1 kY (cT m (mwd ς) aw st it τ)
theorem OL {ς:aM} {aw:Bool} (h:sR ς (.ch k (.act aw) .work)):aw=true->ς.sv=0/\ς.wk=1:=λe=>h.BZ (by rw[e];rfl)
theorem YL (ζ:jh x s m sp) (Θ:sU Q mn x c rest S H s k sp) {φ:Nat} (Δ:AY Q mn x c rest S H s m k sp φ) {gI:Nat} {kZ:aM} (ah:gI<φ) {st:Bool} {τ:Int} :
  jM Q mn x c rest S H s m (.ch k .wk .work) (some (gI,kZ)) 1 (.code (dJ [1,1,1,1,1] mK)::.inBlock 1::kY) [(0,.z (ptr m 0)),(2,.z (.int .i64 τ)),(3,.z (.bool st))]:=by
 letI:bn:=eS;have U:=ζ.seq;refine V.a' (U _ _ _) rfl ?_;unfold mK rv qe mJ qd
 repeat first|apply aZ|apply wb|apply a3|apply wd
 refine W.cl ?_;refine W.part (A:=[]) Κ [0,1,2] [3,4] rfl λη I=>?_;(try simp);(repeat (rw[δ];simp));apply I;refine W.stop ?_;refine V.yr (U _ _ _).here (sp:=sp) ζ.spec (by rw[b3];exact id) ⟨rfl,rfl,by simp[Frame.enter],rfl⟩ rfl rfl rfl ys rfl EG mwd (λς w Γ bH=>bH.dE (by rw[Γ];exact ζ.aT)) (λgZ ς ο=>.inr ?_);have χ:=ο.jf.m2;rw[b3] at χ;have hv:=ο.view gI kZ o3;have OM:=χ.y7 rfl;have gE:ς.top<7:=by have:=ζ.top;rw[show ς.top=sp.top by rw[<-ο.spec]];exact this
 have Ι:=χ.nw
 have Α:=χ.cb;have hw:=χ.wk;have p7:=χ.sv
 have cD:=ID ς.cb (by omega) ς.wk (by omega) ς.sv (by omega) ς.nw (by omega)
 have a6:=Yq ς.cb (by omega) ς.wk (by omega) ς.sv (by omega) ς.nw (by omega)
 have lQ:=IF ς.cb (by omega) ς.wk (by omega) ς.sv (by omega) ς.nw (by omega);rw[<-o4] at cD a6 lQ;rcases(show ς.sv=0\/ς.sv=1 by omega) with ns|ns
 ·refine⟨.ch k (.act true) .work,by rw[b3];exact .norm ns,λcn et=>?_⟩;rw[gX];rw[ns] at cD;refine V.a' (U _ _ _) rfl ?_;refine W.part (A:=[]) Κ [4] [] rfl λη I=>?_;(try simp);(repeat (rw[δ];simp));(try simp[]);apply I;refine W.bJ ?_;(repeat (first|apply aZ|apply wb|apply a3|apply wd|refine al rfl ?_|refine aj rfl ?_|(refine ξ λη I=>?_;simp;(repeat (rw[δ];simp[cD]));apply I)));refine W.forget (cT m (mwd ς) true st 0 τ) (by simp[cT]) (.stop ?_);exact Δ cn ς true st 0 τ (by omega) ο.spec ⟨χ.cb,χ.wk,χ.sv,χ.c0,χ.nw,λ_=>⟨ns,OM.1 ns⟩,λh=>(by cases h),λh=>(by cases h),λh=>(by cases h)⟩ (λ_=>rfl) (by omega) (by omega)
 ·obtain⟨Ρ,ag,aV⟩:=OM.2 ns;refine⟨.ch k .hw .work,by rw[b3];exact .hand ns,λcn et=>?_⟩;rw[gX];rw[ns] at cD;rw[Ρ,ag] at a6;have bw:¬ς.nw=0:=by omega
  have ON:IntKind.i32.wrap (-11)=-11:=by decide
  have fin:∀(w:Option (Nat×aM)) (env:Ω),a5 env 0=.z (ptr m 0)->jM Q mn x c rest S H s m (.ch k .own .work) w 1 [.code AX] env:=λw env h=>OJ ζ Θ h
  have add:∀(qA:Bool) (env:Ω),a5 env 0=.z (ptr m 0)->a5 env 9=.z (.int .i32 (if qA then -11 else -7))->jM Q mn x c rest S H s m (.ch k .hw .work) (some (cn,ς)) 1 (.code (dJ [1,1,1,1,1,1,0,1,0,1,1,1,0] mK)::.code (dJ [1,1,1,1,1,1,0,1,0,1,1,1,1] mK)::.code (dJ [1,1,1,1,1,1,1] mK)::.inBlock 1::kY) env:=λqA env ah tq=>by
   refine V.a' (U _ _ _) rfl ?_;unfold mK rv qe mJ qd
   repeat first|apply aZ|apply wb|apply a3|apply wd
   refine W.cl ?_;refine W.part (A:=[]) Κ [0,1,2,3] [4] rfl λη I=>?_;(try simp);(repeat (rw[δ];simp[ah,tq]));(try simp[ah,tq]);apply I;refine W.stop ?_;refine V.Ol (U _ _ _).here (Nat.succ_pos _) (sp:=sp) ζ.spec (by rw[b3];exact id) ζ.aT (d:=if qA then -11 else -7) ⟨⟨rfl,rfl,by simp[Frame.enter],rfl⟩,OB,⟨_,rfl⟩,rfl,rfl,rfl⟩ (λhQ fD dU=>?_);have eO:=dU.jf.m2;rw[b3] at eO;obtain⟨f1,f2,f3,f4⟩:=eO.hw rfl;have iΞ:fD.top<7:=by have:=ζ.top;rw[show fD.top=sp.top by rw[<-dU.spec]];exact this
   have AH:=eO.nw;refine⟨{fD with cb:=1,nw:=fD.nw-1,sv:=if qA then 0 else 1},.ch k .own .work,?_,rfl,⟨rfl,rfl,rfl⟩,by rw[b3];exact .hacq qA,λyt _=>?_⟩
   ·cases qA<;>simp[mwd,IntKind.wrap_i32,f1,f2,f3]<;>omega
   ·rw[gX];refine V.a' (U _ _ _) rfl ?_;refine W.bJ ?_
    repeat first|apply aZ|apply wb|apply a3|apply wd
    refine W.exit rfl (.stop ?_);refine fin _ _ ?_;simp[ah]
  refine V.a' (U _ _ _) rfl ?_;refine W.part (A:=[]) Κ [4] [] rfl λη I=>?_;(try simp);(repeat (rw[δ];simp));(try simp[]);apply I;refine W.bJ ?_;cases st with
  | false=>
   (repeat (first|apply aZ|apply wb|apply a3|apply wd|refine al rfl ?_|refine aj rfl ?_|(refine ξ λη I=>?_;simp;(repeat (rw[δ];simp[cD,a6,lQ,bw,ON]));apply I)));exact .stop (add true _ rfl rfl)
  | true=>
   by_cases J:ς.nw=1
   ·(repeat (first|apply aZ|apply wb|apply a3|apply wd|refine al rfl ?_|refine aj rfl ?_|(refine ξ λη I=>?_;simp;(repeat (rw[δ];simp[cD,a6,lQ,bw,J,ON]));apply I)));exact .stop (add true _ rfl rfl)
   ·have xB:¬(ς.nw:Int)=1:=by omega
    (repeat (first|apply aZ|apply wb|apply a3|apply wd|refine al rfl ?_|refine aj rfl ?_|(refine ξ λη I=>?_;simp;(repeat (rw[δ];simp[cD,a6,lQ,bw,J,xB]));apply I)));exact .stop (add false _ rfl rfl)
theorem YM (ζ:jh x s m sp) (Θ:sU Q mn x c rest S H s k sp) {φ:Nat} (Δ:AY Q mn x c rest S H s m k sp φ) {gI:Nat} {kZ:aM} (ah:gI<φ) {st y:Bool} {τ:Int} :
  jM Q mn x c rest S H s m (.ch k .q .work) (some (gI,kZ)) 1 (.code (dJ [1,1,1,0] mK)::.code (dJ [1,1,1,1] mK)::.inBlock 1::kY) [(0,.z (ptr m 0)),(2,.z (.int .i64 τ)),(3,.z (.bool st)),(8,.z (.bool y))]:=by
 letI:bn:=eS;have U:=ζ.seq;have next:∀(gZ:Nat) (fK:aM) (st:Bool),gZ<φ->jM Q mn x c rest S H s m (.ch k .wk .work) (some (gZ,fK)) 1 (.code (dJ [1,1,1,1,1] mK)::.inBlock 1::kY) [(0,.z (ptr m 0)),(2,.z (.int .i64 τ)),(3,.z (.bool st))]:=λgZ fK st J=>YL ζ Θ Δ J
 refine V.a' (U _ _ _) rfl ?_;unfold mK rv qe mJ qd
 repeat first|apply aZ|apply wb|apply a3|apply wd
 refine W.cl ?_;refine W.part (A:=[]) Κ [0,1,2,3] [4] rfl λη I=>?_;(try simp);(repeat (rw[δ];simp));apply I;refine W.stop ?_;refine V.X8 (U _ _ _).here (sp:=sp) ζ.spec (by rw[b3];exact id) ζ.aT (vs:=[ptr m 1,.bool y,.int .i64 2]) rfl (λbq iS=>by rw[AU iS];exact ζ.still bq iS) ⟨⟨rfl,rfl,by simp[Frame.enter],rfl⟩,YD,⟨_,rfl⟩,rfl,rfl,rfl⟩ (λgZ ς ο h=>by rw[b3];exact h) (λgZ ς ο h=>?_);have hv:=ο.view gI kZ o3;refine⟨{ς with c0:=ς.c0-1},.ch k .wk .work,rfl,rfl,⟨rfl,rfl,rfl⟩,by rw[b3];exact .take h,λhQ et=>?_⟩;rw[gX];refine V.a' (U _ _ _) rfl ?_;refine W.bJ ?_;cases st with
 | true=>
  first|apply aZ|apply wb|apply a3|apply wd
  refine ξ λη I=>?_;(try simp);(repeat (rw[δ];simp));(try simp[]);apply I;refine W.forget [(0,.z (ptr m 0)),(2,.z (.int .i64 τ)),(3,.z (.bool true))] (by simp) (.stop ?_);exact next hQ _ true (by omega)
 | false=>
  first|apply aZ|apply wb|apply a3|apply wd
  refine W.cl ?_;refine W.part (A:=[]) Κ [0,1] [2,3,4,5,6,7] rfl λη I=>?_;(try simp);(repeat (rw[δ];simp));apply I;refine W.stop ?_;refine V.nano (U _ _ _) (vs:=[]) ⟨⟨rfl,rfl,by simp[Frame.enter],rfl⟩,OE,⟨_,rfl⟩,rfl,rfl,rfl⟩ OK λeK=>?_;refine V.a' (U _ _ _) rfl ?_;refine W.part (A:=[]) Κ [3,4,5,6,7] [] rfl λη I=>?_;(try simp);(repeat (rw[δ];simp));(try simp[]);apply I;refine W.bJ ?_;refine W.forget [(0,.z (ptr m 0)),(2,.z (.int .i64 τ)),(3,.z (.bool (decide (1000000<IntKind.i64.wrap (eK-τ)))))] (by simp) (.stop ?_);exact next hQ _ _ (by omega)
theorem YN (ζ:jh x s m sp) (Θ:sU Q mn x c rest S H s k sp) {φ:Nat} (Δ:AY Q mn x c rest S H s m k sp φ) {gI:Nat} {kZ:aM} (ah:gI<φ) {w:Int} {aw st:Bool} {it τ:Int} (aB:¬gz .i32 w 5=0) :
  jM Q mn x c rest S H s m (.ch k .q .work) (some (gI,kZ)) 1 (.code mK::.inBlock 1::kY) (cT m w aw st it τ):=by
 letI:bn:=eS;have U:=ζ.seq;have next:∀(τ:Int) (y:Bool),jM Q mn x c rest S H s m (.ch k .q .work) (some (gI,kZ)) 1 (.code (dJ [1,1,1,0] mK)::.code (dJ [1,1,1,1] mK)::.inBlock 1::kY) [(0,.z (ptr m 0)),(2,.z (.int .i64 τ)),(3,.z (.bool st)),(8,.z (.bool y))]:=λτ y=>YM ζ Θ Δ ah
 refine V.a' (U _ _ _) rfl ?_;unfold mK rv qe mJ qd;by_cases h:τ=0
 ·subst h;(repeat (first|apply aZ|apply wb|apply a3|apply wd|refine al rfl ?_|refine aj rfl ?_|(refine ξ λη I=>?_;simp;(repeat (rw[δ];simp[cT,aB]));apply I)));refine W.cl (.stop ?_);refine V.nano (U _ _ _) (vs:=[]) ⟨⟨rfl,rfl,by simp[Frame.enter],rfl⟩,OE,⟨_,rfl⟩,rfl,rfl,rfl⟩ OK λeK=>?_;refine V.a' (U _ _ _) rfl ?_;refine W.part (A:=[]) Κ [1] [] rfl λη I=>?_;(try simp);(repeat (rw[δ];simp));(try simp[]);apply I;refine W.bJ ?_
  first|apply aZ|apply wb|apply a3|apply wd
  refine W.forget [(0,.z (ptr m 0)),(2,.z (.int .i64 eK)),(3,.z (.bool st)),(8,.z (.bool false))] (by simp) (.stop ?_);exact next eK false
 ·(repeat (first|apply aZ|apply wb|apply a3|apply wd|refine al rfl ?_|refine aj rfl ?_|(refine ξ λη I=>?_;simp;(repeat (rw[δ];simp[cT,aB,h]));apply I)));refine W.forget [(0,.z (ptr m 0)),(2,.z (.int .i64 τ)),(3,.z (.bool st)),(8,.z (.bool true))] (by simp[h]) (.stop ?_);exact next τ true
end
theorem OO {a b:aM} {t u:Tok} (ν:sR a t) (hb:sR b u) (h:mwd a=mwd b):a.cb=b.cb/\a.wk=b.wk/\a.sv=b.sv/\a.nw=b.nw:=by
 have:=ν.cb;have:=ν.wk;have:=ν.sv;have:=hb.cb;have:=hb.wk;have:=hb.sv;simp only[mwd] at h;omega
section
variable {Q:Value->Prop} {mn:Bool} {x:aU} {c:Frame} {rest:List Frame} {S:aC} {B:aP} {σ:List Row} {H:ψ} {s m k:Nat} {sp:Spec} {v:Option (Nat×aM)} {t:Tok}
theorem AZ (ζ:jh x s m sp) {ς:aM} (h:ς.toSpec=sp):ς.top<7:=by have:=ζ.top;rw[show ς.top=sp.top by rw[<-h]];exact this
theorem YO (ζ:jh x s m sp) (Θ:sU Q mn x c rest S H s k sp) {φ:Nat} {ς:aM} (Δ:AY Q mn x c rest S H s m k sp φ) (Γ:ς.toSpec=sp) {aw st:Bool} {it τ:Int} (χ:sR ς (.ch k (.act aw) .work)) (cE:st=true->aw=true) (kh:0<=it) (EH:it<=4) :
  jM Q mn x c rest S H s m (.ch k (.act aw) .work) (some (φ,ς)) 1 (.code (dJ [0] rv)::.code (dJ [1] rv)::.inBlock 1::kY) (cT m (mwd ς) aw st it τ++[(7,.z (.int .i32 (o5 ς.cb ς.wk ς.sv ς.nw aw st)))]):=by
 letI:bn:=eS;have U:=ζ.seq;have tD:=OL χ;have gE:=AZ ζ Γ;have Α:=χ.cb;have hw:=χ.wk;have p7:=χ.sv;have Ι:=χ.nw;have eN:=IC ς.cb (by omega) ς.wk (by omega) ς.sv (by omega) ς.nw (by omega);rw[<-o4] at eN;have fin:∀(w:Option (Nat×aM)) (env:Ω),a5 env 0=.z (ptr m 0)->jM Q mn x c rest S H s m (.ch k .own .work) w 1 [.code AX] env:=λw env h=>OJ ζ Θ h;have tail:∀(gI:Nat) (kZ:aM),gI<φ->¬gz .i32 (mwd ς) 5=0->jM Q mn x c rest S H s m (.ch k .q .work) (some (gI,kZ)) 1 (.code mK::.inBlock 1::kY) (cT m (mwd ς) aw st it τ):=λgI kZ ah aB=>YN ζ Θ Δ ah aB;refine V.a' (U _ _ _) rfl ?_;unfold rv qe mJ qd;refine W.cl ?_;refine W.part (A:=[]) Κ [0,1,2,3,4] [5] rfl λη I=>?_;(try simp);(repeat (rw[δ];simp[cT]));(try simp[cT]);apply I;refine W.stop ?_;refine V.Ey (U _ _ _).here (Nat.succ_pos _) (sp:=sp) ζ.spec (by rw[b3];exact id) ζ.aT ⟨⟨rfl,rfl,by simp[Frame.enter],rfl⟩,EF,⟨_,rfl⟩,rfl,rfl,rfl⟩ (λgZ fK ο hv=>.inl ?_) (λgZ fK ο hv=>?_)
 ·
  have pN:=ο.view φ ς o3
  have J:gZ<φ:=by
   rcases Nat.lt_or_ge gZ φ with h|h
   ·exact h
   ·exact absurd (by rw[pN.2 (by omega)]) hv
  unfold h8;rw[j5];refine V.a' (U _ _ _) rfl ?_;refine W.bJ ?_
  repeat (first|apply aZ|apply wb|apply a3|apply wd)
  refine aj rfl ?_;refine W.cl ?_;refine W.part (A:=[]) Κ [0,1,2] [3,4] rfl λη I=>?_;(try simp);(repeat (rw[δ];simp));apply I;refine W.stop ?_;refine V.yr (U _ _ _).here (sp:=sp) ζ.spec (by rw[b3];exact id) ⟨rfl,rfl,by simp[Frame.enter],rfl⟩ rfl rfl rfl ys rfl EG mwd (λς w Γ bH=>bH.dE (by rw[Γ];exact ζ.aT)) (λhQ fD dU=>.inl ?_);have v7:=dU.view gZ fK o3;have eO:=dU.jf.m2;rw[b3] at eO;unfold h8;rw[j5];refine V.a' (U _ _ _) rfl ?_;refine W.part (A:=[]) Κ [4] [] rfl λη I=>?_;(try simp);(repeat (rw[δ];simp));(try simp[]);apply I;refine W.bJ ?_;refine W.inBlock ?_;refine W.forget (cT m (mwd fD) aw st it τ) (by simp[cT]) (.stop ?_);exact Δ hQ fD aw st it τ (by omega) dU.spec eO cE kh EH
 ·have pN:=ο.view φ ς o3
  have ih:=ο.jf.m2;rw[b3] at ih;obtain⟨Ρ,ag,aV,cr⟩:=OO ih χ hv;by_cases A0:ς.cb=0/\ς.sv=0
  ·refine⟨{fK with cb:=1,wk:=if aw then 0 else fK.wk},.ch k .own .work,?_,rfl,⟨rfl,rfl,rfl⟩,by rw[b3];exact .acq (by omega) (by omega),λhQ et=>?_⟩
   ·simp[o5,o4,ag,aV,cr,A0.1,A0.2]
   ·rw[gX];rw[A0.1,A0.2] at eN;refine V.a' (U _ _ _) rfl ?_;refine W.bJ ?_
    repeat (first|apply aZ|apply wb|apply a3|apply wd)
    refine al rfl ?_;(repeat (first|apply aZ|apply wb|apply a3|apply wd|refine al rfl ?_|refine aj rfl ?_|(refine ξ λη I=>?_;simp;(repeat (rw[δ];simp[eN]));apply I)));refine W.exit rfl (.stop ?_);exact fin _ _ rfl
  ·have Χ:ς.cb=1\/ς.sv=1:=by omega
   refine⟨{fK with nw:=fK.nw+1,wk:=if aw then 0 else fK.wk,sv:=if(st&&decide (ς.cb=1)) then 1 else fK.sv},.ch k .q .work,?_,rfl,⟨rfl,rfl,rfl⟩,by rw[b3];exact .queue (st&&decide (ς.cb=1)) (by omega) (λh=>by simp at h;exact⟨cE h.1,by omega⟩),λhQ et=>?_⟩
   ·simp only[o5,if_neg A0,o4,Ρ,ag,aV,cr];simp
   ·rw[gX];refine V.a' (U _ _ _) rfl ?_;refine W.bJ ?_
    repeat (first|apply aZ|apply wb|apply a3|apply wd)
    refine al rfl ?_;refine W.forget (cT m (mwd ς) aw st it τ) (by simp[cT]) (.stop ?_);exact tail hQ _ (by omega) (by omega)
theorem YP (ζ:jh x s m sp) {φ:Nat} {aw st:Bool} {it τ:Int} {gI:Nat} {kZ:aM} (kh:0<=it) (EH:it<4)
  (Δ:∀(cn:Nat) (hR:aM),cn<=gI->hR.toSpec=sp->sR hR (.ch k (.act aw) .work)->jM Q mn x c rest S H s m (.ch k (.act aw) .work) (some (cn,hR)) 1 kY (cT m (mwd hR) aw st (it+1) τ)) :
  jM Q mn x c rest S H s m (.ch k (.act aw) .work) (some (gI,kZ)) 1 (.code (dJ [0,0,1,0,1,0] mJ)::.code (dJ [0,0,1,0,1,1] mJ)::.code qe::.inBlock 1::kY) [(0,.z (ptr m 0)),(2,.z (.int .i64 τ)),(3,.z (.bool st)),(4,.z (.bool aw)),(5,.z (.int .i64 it))]:=by
 letI:bn:=eS;have U:=ζ.seq;have hw:IntKind.i64.wrap (it+1)=it+1:=by simp only[IntKind.wrap_i64];omega
 refine V.a' (U _ _ _) rfl ?_;unfold mJ qd
 repeat first|apply aZ|apply wb|apply a3|apply wd
 refine W.cl (.stop ?_);refine V.EB (U _ _ _) (vs:=[]) ⟨⟨rfl,rfl,by simp[Frame.enter],rfl⟩,YC,⟨_,rfl⟩,rfl,rfl,rfl⟩ ?_;refine V.a' (U _ _ _) rfl ?_;refine W.bJ ?_
 repeat (first|apply aZ|apply wb|apply a3|apply wd)
 refine ξ λη I=>?_;(try simp);(repeat (rw[δ];simp[hw]));(try simp[hw]);apply I
 repeat (first|apply aZ|apply wb|apply a3|apply wd)
 refine W.cl ?_;refine W.part (A:=[]) Κ [0,1,2] [3,4] rfl λη I=>?_;(try simp);(repeat (rw[δ];simp));apply I;refine W.stop ?_;refine V.yr (U _ _ _).here (sp:=sp) ζ.spec (by rw[b3];exact id) ⟨rfl,rfl,by simp[Frame.enter],rfl⟩ rfl rfl rfl ys rfl EG mwd (λς w Γ bH=>bH.dE (by rw[Γ];exact ζ.aT)) (λhQ fD dU=>.inl ?_);have v7:=dU.view gI kZ o3;have eO:=dU.jf.m2;rw[b3] at eO;unfold h8;rw[j5];refine V.a' (U _ _ _) rfl ?_;refine W.part (A:=[]) Κ [4] [] rfl λη I=>?_;(try simp);(repeat (rw[δ];simp));(try simp[]);apply I;refine W.bJ ?_;refine W.exit rfl ?_;refine W.forget (cT m (mwd fD) aw st (it+1) τ) (by simp[cT]) (.stop ?_);exact Δ hQ fD (by omega) dU.spec eO
theorem YQ (ζ:jh x s m sp) (Θ:sU Q mn x c rest S H s k sp):∀(N φ:Nat) (ς:aM) (aw st:Bool) (it τ:Int),φ*8+(4-it).toNat<N->ς.toSpec=sp->sR ς (.ch k (.act aw) .work)->(st=true->aw=true)->0<=it->it<=4->
  jM Q mn x c rest S H s m (.ch k (.act aw) .work) (some (φ,ς)) 1 (.code mJ::kY) (cT m (mwd ς) aw st it τ):=by
 letI:bn:=eS;have U:=ζ.seq;intro N
 induction N with
 | zero=>intro φ ς aw st it τ h;omega
 | succ N A1=>
  intro φ ς aw st it τ ck Γ χ cE kh EH;have tD:=OL χ;have gE:=AZ ζ Γ;have Α:=χ.cb;have hw:=χ.wk;have p7:=χ.sv;have Ι:=χ.nw;have eN:=IC ς.cb (by omega) ς.wk (by omega) ς.sv (by omega) ς.nw (by omega);have Ζ:=ED ς.cb (by omega) ς.wk (by omega) ς.sv (by omega) ς.nw (by omega);have iX:=Yu ς.cb (by omega) ς.wk (by omega) ς.sv (by omega) ς.nw (by omega);have lQ:=IF ς.cb (by omega) ς.wk (by omega) ς.sv (by omega) ς.nw (by omega);rw[<-o4] at eN Ζ lQ iX;have back:∀(cn:Nat) (hR:aM) (nu yu:Bool) (uF eK:Int),cn*8+(4-uF).toNat<N->hR.toSpec=sp->sR hR (.ch k (.act nu) .work)->(yu=true->nu=true)->0<=uF->uF<=4->
    jM Q mn x c rest S H s m (.ch k (.act nu) .work) (some (cn,hR)) 1 kY (cT m (mwd hR) nu yu uF eK):=λcn hR nu yu uF eK J γ π Μ aB bc=>by
   have:=A1 cn hR nu yu uF eK J γ π Μ aB bc;refine V.a' (U _ _ _) rfl ?_;exact W.inLoop (.stop this)
  have eo:AY Q mn x c rest S H s m k sp φ:=λcn hR nu yu uF eK J γ π Μ aB bc=>back cn hR nu yu uF eK (by omega) γ π Μ aB bc
  have new:jM Q mn x c rest S H s m (.ch k (.act aw) .work) (some (φ,ς)) 1 (.code qe::.inBlock 1::kY) (cT m (mwd ς) aw st it τ):=by
   rw[o4];exact YJ ζ (by omega) (by omega) (by omega) (by omega) tD cE (by rw[<-o4];exact YO ζ Θ eo Γ χ cE kh EH)
  have A2:∀(gI:Nat) (kZ:aM) (nu:Bool),it<4->(gI<=φ)->(st=true->nu=true)->jM Q mn x c rest S H s m (.ch k (.act nu) .work) (some (gI,kZ)) 1 (.code (dJ [0,0,1,0,1,0] mJ)::.code (dJ [0,0,1,0,1,1] mJ)::.code qe::.inBlock 1::kY) [(0,.z (ptr m 0)),(2,.z (.int .i64 τ)),(3,.z (.bool st)),(4,.z (.bool nu)),(5,.z (.int .i64 it))]:=λgI kZ nu J γ π=>
   YP ζ (φ:=φ) kh J λcn hR Ρ ag aV=>back cn hR nu st (it+1) τ (by omega) ag aV π (by omega) (by omega)
  refine V.a' (U _ _ _) rfl ?_;unfold mJ qd
  repeat first|apply aZ|apply wb|apply a3|apply wd
  by_cases bX:ς.cb=1/\ς.sv=0
  ·rw[bX.1,bX.2] at eN;refine W.cl ?_;refine W.part (A:=[]) Κ [0,1,2,3,4] [5,6] rfl λη I=>?_;(try simp);(repeat (rw[δ];simp[cT,eN]));(try simp[cT,eN]);apply I;refine W.stop ?_;refine V.canSpin (U _ _ _) ⟨⟨rfl,rfl,by simp[Frame.enter],rfl⟩,YB,⟨_,rfl⟩,rfl,rfl,rfl⟩ λy Ο=>?_;refine V.a' (U _ _ _) rfl ?_;refine W.part (A:=[]) Κ [6] [] rfl λη I=>?_;(try simp);(repeat (rw[δ];simp[cT]));(try simp[cT]);apply I;refine W.bJ ?_;cases y with
   | false=>
    refine aj rfl ?_
    first|apply aZ|apply wb|apply a3|apply wd
    refine W.forget (cT m (mwd ς) aw st it τ) (by simp[cT]) (.stop ?_);exact new
   | true=>
    have Μ:=Ο rfl;refine al rfl ?_
    repeat first|apply aZ|apply wb|apply a3|apply wd
    cases aw with
    | true=>
     (repeat (first|apply aZ|apply wb|apply a3|apply wd|refine al rfl ?_|refine aj rfl ?_|(refine ξ λη I=>?_;simp;(repeat (rw[δ];simp[cT]));apply I)));refine W.forget [(0,.z (ptr m 0)),(2,.z (.int .i64 τ)),(3,.z (.bool st)),(4,.z (.bool true)),(5,.z (.int .i64 it))] (by simp) (.stop ?_);exact A2 φ ς true Μ (Nat.le_refl _) (λ_=>rfl)
    | false=>
     by_cases yv:ς.wk=0
     ·by_cases qW:ς.nw=0
      ·rw[yv] at Ζ;rw[qW] at lQ;(repeat (first|apply aZ|apply wb|apply a3|apply wd|refine al rfl ?_|refine aj rfl ?_|(refine ξ λη I=>?_;simp;(repeat (rw[δ];simp[cT,Ζ,lQ]));apply I)));refine W.forget [(0,.z (ptr m 0)),(2,.z (.int .i64 τ)),(3,.z (.bool st)),(4,.z (.bool false)),(5,.z (.int .i64 it))] (by simp) (.stop ?_);exact A2 φ ς false Μ (Nat.le_refl _) cE
      ·rw[yv] at Ζ;have OP:((ς.nw:Int) != 0)=true:=by simp;omega
       refine W.cl ?_;refine W.part (A:=[]) Κ [0,1,2,3,4,5,6,7,8,9,10,11,12,13,14,15,16,17,18] [19,20] rfl λη I=>?_;(try simp);(repeat (rw[δ];simp[cT,Ζ,lQ,iX,qW,OP]));(try simp[cT,Ζ,lQ,iX,qW,OP]);apply I;refine W.stop ?_;refine V.Ey (U _ _ _).here (Nat.succ_pos _) (sp:=sp) ζ.spec (by rw[b3];exact id) ζ.aT ⟨⟨rfl,rfl,by simp[Frame.enter],rfl⟩,EF,⟨_,rfl⟩,rfl,rfl,rfl⟩ (λgZ fK ο hv=>.inl ?_) (λgZ fK ο hv=>?_)
       ·have pN:=ο.view φ ς o3;unfold h8;rw[j5];refine V.a' (U _ _ _) rfl ?_;refine W.part (A:=[]) Κ [20] [] rfl λη I=>?_;(try simp);(repeat (rw[δ];simp[cT]));(try simp[cT]);apply I;refine W.bJ ?_;refine aj rfl ?_
        repeat (first|apply aZ|apply wb|apply a3|apply wd)
        refine W.forget [(0,.z (ptr m 0)),(2,.z (.int .i64 τ)),(3,.z (.bool st)),(4,.z (.bool false)),(5,.z (.int .i64 it))] (by simp[cT]) (.stop ?_);exact A2 gZ fK false Μ (by omega) cE
       ·have pN:=ο.view φ ς o3
        have ih:=ο.jf.m2;rw[b3] at ih;obtain⟨Ρ,ag,aV,cr⟩:=OO ih χ hv;refine⟨{fK with wk:=1},.ch k (.act true) .work,?_,rfl,⟨rfl,rfl,rfl⟩,by rw[b3];exact .RO (by omega) (by omega) (by omega) (by omega),λhQ et=>?_⟩
        ·simp[o4,Ρ,aV,cr]
        ·rw[gX];refine V.a' (U _ _ _) rfl ?_;refine W.part (A:=[]) Κ [20] [] rfl λη I=>?_;(try simp);(repeat (rw[δ];simp[cT]));(try simp[cT]);apply I;refine W.bJ ?_;refine al rfl ?_;refine ξ λη I=>?_;(try simp);(repeat (rw[δ];simp[cT]));(try simp[cT]);apply I
         repeat (first|apply aZ|apply wb|apply a3|apply wd)
         refine W.forget [(0,.z (ptr m 0)),(2,.z (.int .i64 τ)),(3,.z (.bool st)),(4,.z (.bool true)),(5,.z (.int .i64 it))] (by simp[cT]) (.stop ?_);exact A2 hQ _ true Μ (by omega) (λ_=>rfl)
     ·have fL:ς.wk=1:=by omega
      rw[fL] at Ζ;(repeat (first|apply aZ|apply wb|apply a3|apply wd|refine al rfl ?_|refine aj rfl ?_|(refine ξ λη I=>?_;simp;(repeat (rw[δ];simp[cT,Ζ]));apply I)));refine W.forget [(0,.z (ptr m 0)),(2,.z (.int .i64 τ)),(3,.z (.bool st)),(4,.z (.bool false)),(5,.z (.int .i64 it))] (by simp) (.stop ?_);exact A2 φ ς false Μ (Nat.le_refl _) cE
  ·have aB:¬gz .i32 (mwd ς) 5=1:=by rw[eN];omega
   refine ξ λη I=>?_;(try simp);(repeat (rw[δ];simp[cT,aB]));(try simp[cT,aB]);apply I;refine aj rfl ?_
   first|apply aZ|apply wb|apply a3|apply wd
   refine W.forget (cT m (mwd ς) aw st it τ) (by simp[cT]) (.stop ?_);exact new
theorem YR (ζ:jh x s m sp):OI Q mn x s m k sp:=by
 intro c rest S B σ H v Β Θ;letI:bn:=eS;have U:=ζ.seq;have head:=λφ ς aw st it τ γ π Μ aB bc=>YQ ζ Θ (φ*8+(4-it).toNat+1) φ ς aw st it τ (Nat.lt_succ_self _) γ π Μ aB bc;refine V.p' (z:=one _) (vs:=[ptr m 0]) Tryz.func213 rfl Β (by simp[Tryz.ntmps213]) ?_ _ rfl;refine V.a' (U _ _ _) rfl ?_;(repeat (first|apply aZ|apply wb|apply a3|apply wd|refine al rfl ?_|refine aj rfl ?_|(refine ξ λη I=>?_;simp;(repeat (rw[δ];simp));apply I)));refine W.cl ?_;refine W.part (A:=[]) Κ [0,1,2] [3,4] rfl λη I=>?_;(try simp);(repeat (rw[δ];simp));apply I;refine W.stop ?_;refine V.yr (U _ _ _).here (sp:=sp) ζ.spec (by rw[b3];exact id) ⟨rfl,rfl,by simp[Frame.enter],rfl⟩ rfl rfl rfl ys rfl EG mwd (λς w Γ bH=>bH.dE (by rw[Γ];exact ζ.aT)) (λhQ fD dU=>.inl ?_);have eO:=dU.jf.m2;rw[b3] at eO;unfold h8;rw[j5];refine V.a' (U _ _ _) rfl ?_;refine W.part (A:=[]) Κ [4] [] rfl λη I=>?_;(try simp);(repeat (rw[δ];simp));(try simp[]);apply I;refine W.bJ ?_
 repeat (first|apply aZ|apply wb|apply a3|apply wd)
 refine W.loop ?_;refine W.forget (cT m (mwd fD) false false 0 0) (by simp[cT]) (.stop ?_);exact head hQ fD false false 0 0 dU.spec eO (λh=>by cases h) (by omega) (by omega)
theorem YS (ζ:jh x s m sp) (Β:Holds S B σ H) (Θ:sU Q mn x c rest S H s k sp):cq Tryz.prog Q mn (bx x s (.ch k .idle .work) v 0) (Frame.enter Tryz.prog 144 #[ptr m 0] .normal) (c::rest) H:=by
 letI:bn:=eS;have U:=ζ.seq;refine V.p' (z:=one _) (vs:=[ptr m 0]) Tryz.func144 rfl Β (by simp[Tryz.ntmps144]) ?_ _ rfl;refine V.a' (U _ _ _) rfl ?_
 repeat first|apply aZ|apply wb|apply a3|apply wd
 refine W.cl ?_;refine W.part (A:=[]) Κ [0,1,2] [3] rfl λη I=>?_;(try simp);(repeat (rw[δ];simp));apply I;refine W.stop ?_;refine V.call (U _ _ _) ⟨rfl,rfl,by simp[Frame.enter],rfl⟩ rfl rfl rfl ⟨_,Tryz.func175,rfl,rfl⟩ λbB bG H1 t1 oW ν ω hv=>?_;obtain rfl:=mH (l:=[ptr m 0]) hv;obtain rfl:bG=[]:=dp.1 ω.holds.len;rintro y rfl;refine YH ζ ω.holds (YR ζ) λcU bO L E kX iZ dn iG wy=>?_;rw[ij rfl];refine cq.leave0 (U _ _ _) rfl rfl rfl rfl Tryz.func144 rfl ?_;exact Θ cU bO L E (ν.ext.trans kX) iZ dn iG wy
end
noncomputable def OQ:Code:=Tryz.f215.body.getD .skip
noncomputable def IK:Code:=dJ [1,1,0,1,0,0] OQ
noncomputable def OR:List Item:=[.inLoop IK,.inBlock 0]
theorem YT:∀n<8,0<n->xI .i32 (IntKind.i32.wrap (gY 0 0 0 n-8)) 2=gY 0 1 0 (n-1):=by decide +kernel
theorem YU:∀b<2,∀c<2,∀n<8,gz .i32 (IntKind.i32.wrap (gY 0 b c n+1)) 1=1:=by decide +kernel
abbrev e7:aC:=λ_ _=>none
theorem A3 {S ay:aC} {B B':aP} {σ σ':List Row} {env:Ω} {t:Array Value} (he:∀p∈env,∃v,p.2=θ.z v) (h:cY S B σ env t):cY ay B' σ' env t:=by
 intro i;have key:∀(env:Ω),(∀p∈env,∃v,p.2=θ.z v)->(∃v,a5 env i=.z v)\/a5 env i=.cz:=by
  intro env
  induction env with
  | nil=>exact λ_=>.inr rfl
  | cons p l Δ=>
   intro h;obtain⟨j,a⟩:=p;simp only[a5];split
   ·exact .inl (h (j,a) (by simp))
   ·exact Δ λq Χ=>h q (by simp[Χ])
 have hi:=h i;rcases key env he with⟨v,e⟩|e
 ·rw[e] at hi ⊢;generalize t.getD i undef=u at hi;cases hi;exact .z _
 ·rw[e];exact .cz _
theorem yw (H:ψ):Holds e7 [] [] H:=⟨λb o v h=>(by cases h),rfl,λid r bo h=>(by simp at h),λi j ej b' b gM gN _ h=>(by simp at h),λid r b N h=>(by simp at h)⟩
theorem ff.none {m nt:Nat} {S:aC} {B:aP} {H H':ψ} {env:Ω} {t:Array Value} (h:ff m nt S B H [] env t) (he:∀p∈env,∃v,p.2=θ.z v):ff 0 nt e7 [] H' [] env t:=⟨yw H',A3 he h.b6,h.size,Nat.le_refl _⟩
section
variable {Q:Value->Prop} {mn:Bool} {x:aU} {c:Frame} {rest:List Frame} {S:aC} {B:aP} {σ:List Row} {H:ψ} {s m k:Nat} {sp:Spec} {v:Option (Nat×aM)} {t:Tok}
abbrev IL (Q:Value->Prop) (mn:Bool) (x:aU) (c:Frame) (rest:List Frame) (H:ψ) (s m:Nat) (w:Int) (t:Tok) (v:Option (Nat×aM)) (K:List Item) (env:Ω):Prop:=
 V Tryz.prog Q mn (one (bx x s t v 1)) (Frame.enter Tryz.prog 215 #[ptr m 0,.int .i32 w] .normal) (c::rest) 43 ⟨e7,[],H,[],0⟩ K env []
def A4 (Q:Value->Prop) (mn:Bool) (x:aU) (c:Frame) (rest:List Frame) (H:ψ) (s k d:Nat):Prop:=
 ∀(v:Option (Nat×aM)) (cU:aC) (bO:ψ),Ext e7 [] H cU [] bO->cq Tryz.prog Q mn (bx x s (.ch k .done .work) v d) (c.finish (.tuple #[])) rest bO
theorem IM (ζ:jh x s m sp) (Θ:A4 Q mn x c rest H s k 1) {w:Int} {K:List Item} {env:Ω} (e:t=.ch k .done .work):IL Q mn x c rest H s m w t v (.code .ret::K) env:=by
 letI:bn:=eS;have U:=ζ.seq;subst e;refine V.Iy (U _ _ _) rfl rfl rfl rfl Tryz.func215 rfl λbB bG H1 ν Β=>?_;obtain rfl:bG=[]:=dp.1 Β.len;rintro y rfl;exact Θ v bB H1 ν.ext
def OS (k:Nat) (ς:aM) (t:Tok):Prop:=((ς.nw=0\/ς.cb=1\/ς.wk=1\/ς.sv=1)/\t=.ch k .done .work)\/(0<ς.nw/\ς.cb=0/\ς.wk=0/\ς.sv=0/\t=.ch k .uc .work)
theorem OT (ζ:jh x s m sp) (Θ:A4 Q mn x c rest H s k 1) {w:Int}:∀(N φ:Nat) (ς:aM) (t:Tok),φ<N->ς.cb<=1->ς.wk<=1->ς.sv<=1->ς.nw<7->OS k ς t->
  IL Q mn x c rest H s m w t (some (φ,ς)) (.code IK::OR) [(0,.z (ptr m 0)),(4,.z (.int .i32 (mwd ς)))]:=by
 letI:bn:=eS;have U:=ζ.seq;intro N
 induction N with
 | zero=>intro φ ς t h;omega
 | succ N A1=>
  intro φ ς t ck Α hw p7 Ι Ξ;have qB:=Yr ς.cb (by omega) ς.wk (by omega) ς.sv (by omega) ς.nw (by omega);have lQ:=IF ς.cb (by omega) ς.wk (by omega) ς.sv (by omega) ς.nw (by omega);rw[<-o4] at qB lQ;have back:∀(cn:Nat) (hR:aM) (t':Tok),cn<N->hR.cb<=1->hR.wk<=1->hR.sv<=1->hR.nw<7->OS k hR t'->IL Q mn x c rest H s m w t' (some (cn,hR)) OR [(0,.z (ptr m 0)),(4,.z (.int .i32 (mwd hR)))]:=λcn hR t' J γ π Μ aB bc=>by
   have:=A1 cn hR t' J γ π Μ aB bc;refine V.a' (U _ _ _) rfl ?_;exact W.inLoop (.stop this)
  refine V.a' (U _ _ _) rfl ?_;unfold IK OQ
  repeat first|apply aZ|apply wb|apply a3|apply wd
  rcases Ξ with⟨Ξ,rfl⟩|⟨J,γ,π,Μ,rfl⟩
  ·by_cases Η:ς.nw=0
   ·rw[Η] at lQ;(repeat (first|apply aZ|apply wb|apply a3|apply wd|refine al rfl ?_|refine aj rfl ?_|(refine ξ λη I=>?_;simp;(repeat (rw[δ];simp[lQ]));apply I)));exact .stop (IM ζ Θ rfl)
   ·have gR:¬gz .i32 (mwd ς) 7=0:=by rw[qB];omega
    have F9:(gz .i32 (mwd ς) 7 != 0)=true:=by simpa using gR
    (repeat (first|apply aZ|apply wb|apply a3|apply wd|refine al rfl ?_|refine aj rfl ?_|(refine ξ λη I=>?_;simp;(repeat (rw[δ];simp[lQ,Η,gR,F9]));apply I)));exact .stop (IM ζ Θ rfl)
  ·have Η:¬ς.nw=0:=by omega
   have gK:¬(ς.nw:Int)=0:=by omega
   have EI:mwd ς=gY 0 0 0 ς.nw:=by rw[o4,γ,π,Μ]
   have y8:=YT ς.nw (by omega) J;rw[<-EI] at y8;rw[γ,π,Μ] at qB;(repeat (first|apply aZ|apply wb|apply a3|apply wd|refine al rfl ?_|refine aj rfl ?_|(refine ξ λη I=>?_;simp;(repeat (rw[δ];simp[lQ,Η,gK,qB]));apply I)));refine W.cl ?_;refine W.part (A:=[]) Κ [0,1,2,3,4] [5] rfl λη I=>?_;(try simp);(repeat (rw[δ];simp[y8]));(try simp[y8]);apply I;refine W.stop ?_;refine V.Ey (U _ _ _).here (Nat.succ_pos _) (sp:=sp) ζ.spec (by rw[b3];exact id) ζ.aT ⟨⟨rfl,rfl,by simp[Frame.enter],rfl⟩,EF,⟨_,rfl⟩,rfl,rfl,rfl⟩ (λgZ fK ο hv=>.inl ?_) (λgZ fK ο hv=>?_)
   ·have pN:=ο.view φ ς o3
    have aB:gZ<φ:=by
     rcases Nat.lt_or_ge gZ φ with h|h
     ·exact h
     ·exact absurd (by rw[pN.2 (by omega)]) hv
    unfold h8;rw[j5];refine V.a' (U _ _ _) rfl ?_;refine W.bJ ?_;refine aj rfl ?_
    repeat first|apply aZ|apply wb|apply a3|apply wd
    refine W.cl ?_;refine W.part (A:=[]) Κ [0,1,2] [3,4] rfl λη I=>?_;(try simp);(repeat (rw[δ];simp));apply I;refine W.stop ?_;refine V.yr (U _ _ _).here (sp:=sp) ζ.spec (by rw[b3];exact id) ⟨rfl,rfl,by simp[Frame.enter],rfl⟩ rfl rfl rfl ys rfl (by kernel_rfl) mwd (λς w Γ bH=>bH.dE (by rw[Γ];exact ζ.aT)) (λhQ fD dU=>?_);have v7:=dU.view gZ fK o3;have eO:=dU.jf.m2;have gE:=AZ ζ dU.spec;have Ρ:=eO.cb;have ag:=eO.wk;have aV:=eO.sv;have cr:=eO.nw;by_cases tz:fD.nw=0\/fD.cb=1\/fD.wk=1\/fD.sv=1
    ·refine .inr ⟨.ch k .done .work,by rw[b3];exact .RU tz,λyt et=>?_⟩;rw[gX];refine V.a' (U _ _ _) rfl ?_;refine W.part (A:=[]) Κ [4] [] rfl λη I=>?_;(try simp);(repeat (rw[δ];simp));(try simp[]);apply I;refine W.bJ ?_
     repeat (first|apply aZ|apply wb|apply a3|apply wd)
     refine W.forget [(0,.z (ptr m 0)),(4,.z (.int .i32 (mwd fD)))] (by simp) (.stop ?_);exact back yt fD _ (by omega) Ρ ag aV (by omega) (.inl ⟨tz,rfl⟩)
    ·refine .inl ?_;unfold h8;rw[j5];refine V.a' (U _ _ _) rfl ?_;refine W.part (A:=[]) Κ [4] [] rfl λη I=>?_;(try simp);(repeat (rw[δ];simp));(try simp[]);apply I;refine W.bJ ?_
     repeat (first|apply aZ|apply wb|apply a3|apply wd)
     refine W.forget [(0,.z (ptr m 0)),(4,.z (.int .i32 (mwd fD)))] (by simp) (.stop ?_);exact back hQ fD _ (by omega) Ρ ag aV (by omega) (.inr ⟨by omega,by omega,by omega,by omega,rfl⟩)
   ·have ih:=ο.jf.m2
    have gE:=AZ ζ ο.spec
    have f1:=ih.cb;have f2:=ih.wk;have f3:=ih.sv;have f4:=ih.nw
    have f5:fK.cb=0/\fK.wk=0/\fK.sv=0/\fK.nw=ς.nw:=by
     rw[EI] at hv;simp only[mwd,gY] at hv;omega
    refine⟨{fK with nw:=fK.nw-1,wk:=1},.ch k .us .work,?_,rfl,⟨rfl,rfl,rfl⟩,by rw[b3];exact .RS (by omega) (by omega) (by omega) (by omega),λhQ et=>?_⟩
    ·simp[o4,f5]
    ·rw[gX];refine V.a' (U _ _ _) rfl ?_;refine W.bJ ?_;refine al rfl ?_
     repeat first|apply aZ|apply wb|apply a3|apply wd
     refine W.cl ?_;refine W.part (A:=[]) Κ [0,1,2] [3] rfl λη I=>?_;(try simp);(repeat (rw[δ];simp));apply I;refine W.stop ?_;refine V.Ou (U _ _ _).here (sp:=sp) ζ.spec (by rw[b3];exact id) ζ.aT (vs:=[ptr m 1,.bool false,.int .i64 2]) rfl ⟨⟨rfl,rfl,by simp[Frame.enter],rfl⟩,OF,⟨_,rfl⟩,rfl,rfl,rfl⟩ (λyt dr ry=>?_);have kg:=ry.jf.m2;refine⟨by have:=kg.c0;omega,{dr with c0:=dr.c0+1},.ch k .done .work,rfl,rfl,⟨rfl,rfl,rfl⟩,by rw[b3];exact .post,λA5 iΟ=>?_⟩;rw[gX];refine V.a' (U _ _ _) rfl ?_;refine W.bJ (.stop ?_);exact IM ζ Θ rfl
theorem YV (ζ:jh x s m sp) (Θ:A4 Q mn x c rest H s k 1) {ς:aM} {φ:Nat} (Γ:ς.toSpec=sp) (uG:ς.cb=0) (wv:ς.wk<=1) (ns:ς.sv<=1) (OU:ς.nw<7)
  (Ξ:(ς.sv=0/\(ς.nw=0\/ς.wk=1)/\t=.ch k .done .work)\/(ς.sv=0/\0<ς.nw/\ς.wk=0/\t=.ch k .uc .work)\/(ς.sv=1/\t=.ch k .us .work)) :
  cq Tryz.prog Q mn (bx x s t (some (φ,ς)) 1) (Frame.enter Tryz.prog 215 #[ptr m 0,.int .i32 (mwd ς)] .normal) (c::rest) H:=by
 letI:bn:=eS;have U:=ζ.seq;have dP:=YU ς.wk (by omega) ς.sv (by omega) ς.nw (by omega);have cD:=ID 0 (by omega) ς.wk (by omega) ς.sv (by omega) ς.nw (by omega);have EI:mwd ς=gY 0 ς.wk ς.sv ς.nw:=by rw[o4,uG]
 rw[<-EI] at dP cD;refine V.p' (z:=one _) (vs:=[ptr m 0,.int .i32 (mwd ς)]) (S:=e7) Tryz.func215 rfl (yw H) (by simp[Tryz.ntmps215]) ?_ _ rfl;refine V.a' (U _ _ _) rfl ?_;rcases Ξ with⟨J,γ,rfl⟩|⟨J,γ,π,rfl⟩|⟨J,rfl⟩
 ·rw[J] at cD;(repeat (first|apply aZ|apply wb|apply a3|apply wd|refine al rfl ?_|refine aj rfl ?_|(refine ξ λη I=>?_;simp;(repeat (rw[δ];simp[dP,cD]));apply I)));refine W.loop ?_;refine W.forget [(0,.z (ptr m 0)),(4,.z (.int .i32 (mwd ς)))] (by simp) (.stop ?_);exact OT ζ Θ (φ+1) φ ς _ (Nat.lt_succ_self _) (by omega) wv ns OU (.inl ⟨γ.imp id λh=>.inr (.inl h),rfl⟩)
 ·rw[J] at cD;(repeat (first|apply aZ|apply wb|apply a3|apply wd|refine al rfl ?_|refine aj rfl ?_|(refine ξ λη I=>?_;simp;(repeat (rw[δ];simp[dP,cD]));apply I)));refine W.loop ?_;refine W.forget [(0,.z (ptr m 0)),(4,.z (.int .i32 (mwd ς)))] (by simp) (.stop ?_);exact OT ζ Θ (φ+1) φ ς _ (Nat.lt_succ_self _) (by omega) wv ns OU (.inr ⟨γ,uG,π,J,rfl⟩)
 ·rw[J] at cD;(repeat (first|apply aZ|apply wb|apply a3|apply wd|refine al rfl ?_|refine aj rfl ?_|(refine ξ λη I=>?_;simp;(repeat (rw[δ];simp[dP,cD]));apply I)));refine W.cl ?_;refine W.part (A:=[]) Κ [0,1,2] [3] rfl λη I=>?_;(try simp);(repeat (rw[δ];simp));apply I;refine W.stop ?_;refine V.Ou (U _ _ _).here (sp:=sp) ζ.spec (by rw[b3];exact id) ζ.aT (vs:=[ptr m 1,.bool true,.int .i64 2]) rfl ⟨⟨rfl,rfl,by simp[Frame.enter],rfl⟩,OF,⟨_,rfl⟩,rfl,rfl,rfl⟩ (λgZ fK ο=>?_);have ih:=ο.jf.m2;refine⟨by have:=ih.c0;omega,{fK with c0:=fK.c0+1},.ch k .done .work,rfl,rfl,⟨rfl,rfl,rfl⟩,by rw[b3];exact .post,λhQ et=>?_⟩;rw[gX];refine V.a' (U _ _ _) rfl ?_;refine W.bJ (.stop ?_);refine V.EA (U _ _ _) rfl rfl rfl rfl Tryz.func215 rfl λbB bG H1 ν Β=>?_;obtain rfl:bG=[]:=dp.1 Β.len;rintro y rfl;exact Θ _ bB H1 ν.ext
end
noncomputable def A6:Code:=Tryz.f176.body.getD .skip
theorem YW:(Tryz.prog.funcs[176]?).any (·.norace)=true:=by kernel_rfl
section
variable {Q:Value->Prop} {mn:Bool} {x:aU} {c:Frame} {rest:List Frame} {S:aC} {B:aP} {σ:List Row} {H:ψ} {s m k:Nat} {sp:Spec} {v:Option (Nat×aM)} {t:Tok}
abbrev OV (Q:Value->Prop) (mn:Bool) (x:aU) (c:Frame) (rest:List Frame) (H:ψ) (s m:Nat) (t:Tok) (v:Option (Nat×aM)) (d:Nat) (K:List Item) (env:Ω):Prop:=
 V Tryz.prog Q mn (one (bx x s t v d)) (Frame.enter Tryz.prog 176 #[ptr m 0] .normal) (c::rest) 21 ⟨e7,[],H,[],0⟩ K env []
theorem OW {ay:aC} {H H':ψ} (h:Ext e7 [] H ay [] H'):Ext e7 [] H e7 [] H':=
 ⟨λb o v h=>(by cases h),λb hb Τ=>h.fF b hb Τ,λb hb=>h.blocks b hb,λb o v h=>(by cases h),h.grow⟩
theorem OX (ζ:jh x s m sp) (Θ:A4 Q mn x c rest H s k 0) {env:Ω}:OV Q mn x c rest H s m (.ch k .done .work) v 1 [.code (dJ [1,1,1] A6)] env:=by
 letI:bn:=eS;have U:=ζ.seq;refine V.a' (U _ _ _) rfl ?_;unfold A6;refine W.cl (.stop ?_);refine V.enable (U _ _ _).here (Nat.succ_pos _) ⟨⟨rfl,rfl,by simp[Frame.enter],rfl⟩,uD,⟨_,rfl⟩,rfl,rfl,rfl⟩ ?_;rw[AT];refine V.a' (U _ _ _) rfl ?_;refine W.bJ (.stop ?_);refine V.EA (U _ _ _) rfl rfl rfl rfl Tryz.func176 rfl λbB bG H1 ν Β=>?_;obtain rfl:bG=[]:=dp.1 Β.len;rintro y rfl;exact Θ _ bB H1 ν.ext
theorem YX (ζ:jh x s m sp) (Β:Holds S B σ H) {L:List Nat}
  (cX:∀(ay:aC) (H':ψ),Ext S [] H ay [] H'->Holds ay [] [] H'->∃H1 E,Split H' H1 E/\sp.aI (L++[k]) E/\A4 Q mn x c rest H1 s k 0) :
  cq Tryz.prog Q mn (bx x s (.ch k (.dj L) .work) v 0) (Frame.enter Tryz.prog 176 #[ptr m 0] .normal) (c::rest) H:=by
 letI:bn:=eS;have U:=ζ.seq;refine V.p' (z:=one _) (vs:=[ptr m 0]) Tryz.func176 rfl Β (by simp[Tryz.ntmps176]) ?_ _ rfl;refine V.a' (U _ _ _) rfl ?_
 repeat first|apply aZ|apply wb|apply a3|apply wd
 refine al rfl ?_
 repeat first|apply aZ|apply wb|apply a3|apply wd
 refine W.cl ?_;refine W.part (A:=[]) Κ [0,1,2] [3] rfl λη I=>?_;(try simp);(repeat (rw[δ];simp));apply I;refine W.stop ?_;refine V.yr (U _ _ _).here (sp:=sp) ζ.spec (by rw[b3];exact id) ⟨rfl,rfl,by simp[Frame.enter],rfl⟩ rfl rfl rfl ys rfl YW mwd (λς w Γ bH=>bH.dE (by rw[Γ];exact ζ.aT)) (λgZ fK rz=>.inl ?_);unfold h8;rw[j5];refine V.a' (U _ _ _) rfl ?_;refine W.bJ ?_
 repeat first|apply aZ|apply wb|apply a3|apply wd
 refine W.forget [(0,.z (ptr m 0))] (by simp) ?_;refine W.cl ?_;refine W.part (A:=[]) Κ [0] [1,2] rfl λη I=>?_;(try simp);(repeat (rw[δ];simp));apply I;refine W.stop ?_;refine V.conv (U _ _ _).here (sp:=sp) ζ.spec (by rw[b3];exact id) ⟨rfl,rfl,by simp[Frame.enter],rfl⟩ rfl rfl rfl IG uE IH rfl (λς w Γ bH=>⟨_,bH.dE (by rw[Γ];exact ζ.aT)⟩) (λφ ς ο=>?_);unfold h8;rw[j5];refine V.Gw ζ.rel rfl (sp:=sp) (L:=L) ζ.spec ζ.aT b3 ⟨⟨rfl,rfl,by simp[Frame.enter],rfl⟩,Oz,⟨_,rfl⟩,rfl,rfl,rfl⟩ λbB bG H1 t1 ν ω=>?_;obtain rfl:bG=[]:=dp.1 ω.holds.len;obtain⟨bO,E,Ρ,ag,aV⟩:=cX bB H1 ν.ext ω.holds;refine⟨bO,E,Ρ,ag,?_⟩;rw[gX];refine V.here (x:=one _) (S:=e7) (B:=[]) (σ:=[]) (m:=0) (nt:=21) ?_ (ω.none (by simp)) _ rfl;refine V.a' (U _ _ _) rfl ?_;refine W.bJ ?_
 repeat first|apply aZ|apply wb|apply a3|apply wd
 refine W.cl (.stop ?_);refine V.disable (U _ _ _).here ⟨⟨rfl,rfl,by simp[Frame.enter],rfl⟩,AW,⟨_,rfl⟩,rfl,rfl,rfl⟩ ?_;rw[AS];refine V.a' (U _ _ _) rfl ?_;refine W.bJ ?_
 repeat first|apply aZ|apply wb|apply a3|apply wd
 refine W.cl ?_;refine W.part (A:=[]) Κ [0,1,2] [3,4] rfl λη I=>?_;(try simp);(repeat (rw[δ];simp));apply I;refine W.stop ?_;refine V.Ol (U _ _ _).here (Nat.succ_pos _) (sp:=sp) ζ.spec (by rw[b3];exact id) ζ.aT ⟨⟨rfl,rfl,by simp[Frame.enter],rfl⟩,OB,⟨_,rfl⟩,rfl,rfl,rfl⟩ (λyt dr ry=>?_);have kg:=ry.jf.m2;rw[b3] at kg;have uG:=kg.hold rfl;have gE:=AZ ζ ry.spec;have f1:=kg.wk;have f2:=kg.sv;have f3:=kg.nw;have wz:mwd {dr with cb:=0}=IntKind.i32.wrap (mwd dr+-1):=by simp only[mwd,IntKind.wrap_i32,uG];omega
 have go:∀(t:Tok) (cn:Nat),(dr.sv=0/\(dr.nw=0\/dr.wk=1)/\t=.ch k .done .work)\/(dr.sv=0/\0<dr.nw/\dr.wk=0/\t=.ch k .uc .work)\/(dr.sv=1/\t=.ch k .us .work)->
   OV Q mn x c rest bO s m t (some (cn,{dr with cb:=0})) 1 [.code (dJ [1,1,0] A6),.code (dJ [1,1,1] A6)] [(0,.z (ptr m 0)),(2,.z (.int .i32 (mwd {dr with cb:=0})))]:=λt cn Ξ=>by
  refine V.a' (U _ _ _) rfl ?_;unfold A6
  repeat first|apply aZ|apply wb|apply a3|apply wd
  by_cases Η:mwd {dr with cb:=0}=0
  ·(repeat (first|apply aZ|apply wb|apply a3|apply wd|refine al rfl ?_|refine aj rfl ?_|(refine ξ λη I=>?_;simp;(repeat (rw[δ];simp[Η]));apply I)));have YY:t=.ch k .done .work:=by
    simp only[mwd] at Η;rcases Ξ with⟨_,_,h⟩|⟨_,h,_⟩|⟨h,_⟩
    ·exact h
    ·omega
    ·omega
   subst YY;exact .stop (OX ζ aV)
  ·have gK:(mwd {dr with cb:=0} != 0)=true:=by simpa using Η
   (repeat (first|apply aZ|apply wb|apply a3|apply wd|refine al rfl ?_|refine aj rfl ?_|(refine ξ λη I=>?_;simp;(repeat (rw[δ];simp[Η,gK]));apply I)));refine W.cl ?_;refine W.part (A:=[]) Κ [0,1] [2] rfl λη I=>?_;(try simp);(repeat (rw[δ];simp));apply I;refine W.stop ?_;refine V.call (U _ _ _) ⟨rfl,rfl,by simp[Frame.enter],rfl⟩ rfl rfl rfl ⟨_,Tryz.func215,rfl,rfl⟩ λjF oX jG t4 YZ sD pZ IN=>?_;obtain rfl:=mH (l:=[ptr m 0,.int .i32 (mwd {dr with cb:=0})]) IN;obtain rfl:oX=[]:=dp.1 pZ.holds.len;rintro y rfl;refine YV ζ (λiΡ gn fB A7=>?_) (by exact ry.spec) rfl f1 f2 (by show dr.nw<7;omega) Ξ;rw[ij rfl];have EJ:Ext e7 [] bO e7 [] fB:=(OW sD.ext).trans (OW A7);refine V.here (x:=one _) (S:=e7) (B:=[]) (σ:=[]) (m:=0) (nt:=21) ?_ ((pZ.put (a:=n') rfl (.z _)).none (by simp)) _ rfl;refine V.a' (U _ _ _) rfl ?_;refine W.bJ (.stop ?_);exact OX ζ λv6 IP IQ bc=>aV v6 IP IQ (EJ.trans bc)
 by_cases ns:dr.sv=1
 ·refine⟨{dr with cb:=0},.ch k .us .work,wz,rfl,⟨rfl,rfl,rfl⟩,by rw[b3];exact .RR ns,λA5 _=>?_⟩;rw[gX];refine V.a' (U _ _ _) rfl ?_;refine W.part (A:=[]) Κ [4] [] rfl λη I=>?_;(try simp);(repeat (rw[δ];simp));(try simp[]);apply I;refine W.bJ ?_
  first|apply aZ|apply wb|apply a3|apply wd
  refine W.forget [(0,.z (ptr m 0)),(2,.z (.int .i32 (mwd {dr with cb:=0})))] (by simp) (.stop ?_);exact go _ A5 (.inr (.inr ⟨ns,rfl⟩))
 ·have kj:dr.sv=0:=by omega
  have step:∀(t:Tok),(dr.sv=0/\(dr.nw=0\/dr.wk=1)/\t=.ch k .done .work)\/(dr.sv=0/\0<dr.nw/\dr.wk=0/\t=.ch k .uc .work)->Act dr (.ch k .fin .work) {dr with cb:=0} t->∃o' t',mwd o'=IntKind.i32.wrap (mwd dr+-1)/\o'.c0=dr.c0/\yq dr o'/\Act dr (.ch k .fin .work) o' t'/\((dr.sv=0/\(dr.nw=0\/dr.wk=1)/\t'=.ch k .done .work)\/(dr.sv=0/\0<dr.nw/\dr.wk=0/\t'=.ch k .uc .work))/\o'={dr with cb:=0}:=λt J γ=>⟨_,t,wz,rfl,⟨rfl,rfl,rfl⟩,γ,J,rfl⟩;obtain⟨o',t',dZ,dM,h0,qY,qZ,rfl⟩:∃o' t',mwd o'=IntKind.i32.wrap (mwd dr+-1)/\o'.c0=dr.c0/\yq dr o'/\Act dr (.ch k .fin .work) o' t'/\((dr.sv=0/\(dr.nw=0\/dr.wk=1)/\t'=.ch k .done .work)\/(dr.sv=0/\0<dr.nw/\dr.wk=0/\t'=.ch k .uc .work))/\o'={dr with cb:=0}:=by
   by_cases Ι:dr.nw=0\/dr.wk=1
   ·exact step _ (.inl ⟨kj,Ι,rfl⟩) (.RP kj Ι)
   ·exact step _ (.inr ⟨kj,by omega,by omega,rfl⟩) (.RQ kj (by omega) (by omega))
  refine⟨_,t',dZ,dM,h0,by rw[b3];exact qY,λA5 _=>?_⟩;rw[gX];refine V.a' (U _ _ _) rfl ?_;refine W.part (A:=[]) Κ [4] [] rfl λη I=>?_;(try simp);(repeat (rw[δ];simp));(try simp[]);apply I;refine W.bJ ?_
  first|apply aZ|apply wb|apply a3|apply wd
  refine W.forget [(0,.z (ptr m 0)),(2,.z (.int .i32 (mwd {dr with cb:=0})))] (by simp) (.stop ?_);exact go _ A5 (qZ.imp id λh=>.inl h)
theorem cq.leaveD [bn] {P:Program} {Q:Value->Prop} {mn:Bool} {x:aU} {c b:Frame} {rest:List Frame} {H:ψ} {t:Array Value} {ops:Array Oper} {fn:Func} (U:Seq (one x)) (hb:b.mode=.run) (cf:b.roundOf=none) (eo:b.defers=[]) (gq:b.kind=.deferred) (bY:P.funcs[b.fn]?=some fn) (eY:fn.results=#[])
  (j6:c.mode=.returning) (h:cq P Q mn x c rest H):cq P Q mn x (au b t [.inRegion ops []]) (c::rest) H:=by
 refine aE.bJ (x:=one x) U hb (.sa U hb cf (.GU U rfl eo gq bY ?_)) x rfl;rw[results_none eY];refine υ.pure' ?_;simp only[j6];intro y Ο;cases Ο;exact h
theorem Y0 (ζ:jh x s m sp) (Β:Holds S B σ H) (j6:c.mode=.returning) {L:List Nat}
  (cX:∀(ay:aC) (H':ψ),Ext S [] H ay [] H'->Holds ay [] [] H'->∃H1 E,Split H' H1 E/\sp.aI (L++[k]) E/\∀(v:Option (Nat×aM)) (cU:aC) (bO:ψ),Ext e7 [] H1 cU [] bO->cq Tryz.prog Q mn (bx x s (.ch k .done .work) v 0) c rest bO) :
  cq Tryz.prog Q mn (bx x s (.ch k (.dj L) .work) v 0) (Frame.enter Tryz.prog 145 #[ptr m 0] .deferred) (c::rest) H:=by
 letI:bn:=eS;have U:=ζ.seq;rw[n4 (body:=Tryz.f145.body.getD .skip) Tryz.func145 rfl];refine V.here (x:=one _) (m:=0) (nt:=6) (env:=entry 0 [.z (ptr m 0)]) ?_ (ff.enter Β.bare ⟨rfl,λi a v J γ=>?_⟩ (Nat.le_refl _) (by simp)) _ rfl
 ·refine V.a' (U _ _ _) rfl ?_;simp only[Tryz.f145,Option.getD_some]
  repeat first|apply aZ|apply wb|apply a3|apply wd
  refine W.cl ?_;refine W.part (A:=[]) Κ [0,1,2] [3] rfl λη I=>?_;(try simp);(repeat (rw[δ];simp));apply I;refine W.stop ?_;refine V.call (U _ _ _) ⟨rfl,rfl,by simp[Frame.enter],rfl⟩ rfl rfl rfl ⟨_,Tryz.func176,rfl,rfl⟩ λbB bG H1 t1 oW ν ω hv=>?_;obtain rfl:=mH (l:=[ptr m 0]) hv;obtain rfl:bG=[]:=dp.1 ω.holds.len;rintro y rfl;refine YX ζ ω.holds (L:=L) λcU bO kX iZ=>?_;obtain⟨hO,E,Ρ,ag,aV⟩:=cX cU bO (ν.ext.trans kX) iZ;refine⟨hO,E,Ρ,ag,λv4 jF jG ob=>?_⟩;rw[ij rfl];refine cq.leaveD (U _ _ _) rfl rfl rfl rfl Tryz.func145 rfl j6 ?_;exact aV v4 jF jG ob
 ·cases i with
  | zero=>simp at J γ;subst J;subst γ;exact .z _
  | succ i=>simp at J
end
end Go.TL
